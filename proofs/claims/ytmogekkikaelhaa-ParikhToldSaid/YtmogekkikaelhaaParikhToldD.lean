import Derived.Test.YtmogekkikaelhaaEv40n21
set_option maxHeartbeats 1000000
set_option maxRecDepth 20000
set_option linter.unusedVariables false
namespace Go.Proofs.Ytmogekkikaelhaa.parikhToldW
open Go Go.Ab
noncomputable section
abbrev Tp13:=(List Int)
abbrev Tp12:=(List Tp13)
abbrev Tp11:=(List Tp12)
abbrev Tp10:=(Int×Int×Int×Unit)
abbrev Tp9:=(Int×Tp13×Unit)
abbrev Tp8:=(List Tp10)
abbrev Tp7:=(List Tp9)
abbrev Tp6:=(Int×Int×Tp7×Unit)
abbrev Tp5:=(Bool×Tp13×Tp13×Int×Int×Tp7×Unit)
abbrev Tp4:=(Tp6×Tp13×Tp11×Unit)
abbrev Tp3:=(Int×Int×Tp7×Tp13×Tp8×Tp13×Tp8×Tp7)
abbrev Tp2:=(Tp13×Int×Int×Tp7×Tp13×Tp8×Tp13×Tp8×Tp7)
abbrev Tp1:=(Int×Tp13×Int×Int×Tp7×Tp13×Tp8×Tp13×Tp8×Tp7)
abbrev Tf1:=Int->Int->Int->Int->Int->Tp7->Tp13->Tp13->Tp8->Tp13->Tp8->Tp7->Option Tp2
abbrev Tf2:=Tp13->Int->Int->Int->Int->Tp7->Tp13->Tp8->Tp13->Tp8->Tp7->Option Tp1
abbrev Tf3:=Int->Int->Int->Int->Tp7->Tp13->Tp8->Tp13->Tp8->Tp7->Tp13->Option Tp1
abbrev Tf4:=Int->Int->Int->Int->Tp7->Tp13->Tp13->Tp8->Tp13->Tp8->Tp7->Option Tp2
abbrev Tf5:=Bool->Int->Int->Int->Tp7->Tp13->Tp8->Tp13->Tp8->Tp7->Option Tp3
abbrev Tf6:=Bool->Int->Int->Tp7->Tp13->Tp8->Tp13->Tp8->Tp7->Option Tp3
abbrev Tf7:=Int->Int->Int->Tp7->Tp13->Tp8->Tp13->Tp8->Tp7->Option Tp3
abbrev Tf8:=Tp4->Tp13->Int->Int->Option (Int)
abbrev Tf9:=Tp6->Tp6->Tp13->Tp13->Option Tp5
abbrev Tf10:=Int->Tp6->Tp13->Tp13->Option Tp5
def zew (b:Int) (a:Tp6):Option (Bool):=
  if (decide (b < (0:Int)))=true then
  some true else
  G (fits (a.1+a.2.1)) (
  some (decide ((a.1+a.2.1)<=b)))

def zbi (b:Tp13) (c:Tp6) (d:Int->Option (Int)) (a:Int):Option (Int):=
  if (decide (a < (b.length:Int)))=true then
  G (0<=a/\a < (b.length:Int)) (
  (zew (ix b a) c).bind (fun e=>
  if e=true then
  some a else
  G (fits (a+(1:Int))) (
  d (a+(1:Int))))) else
  some (-1:Int)
def zdy (a:Tp13) (b:Tp6):(Int->Option (Int))->Int->Option (Int):=
  fun rec c=>zbi a b (fun d=>rec d) c
def zcE (a:Tp13) (b:Tp6) (c:Int):Option (Int):=LFix (zdy a b ) c
def zgg (a:Tp13) (b:Tp6):Option (Int):=
  zcE a b (0:Int)
theorem zfC (b:Nat->Int->Option (Int)) (c:Int->Option (Int)) (h:∀ g,ChO (fun a=>b a g) (c g)) (d e f):ChO (fun a=>zbi d e (b a) f) (zbi d e c f):=by
  unfold zbi
  repeat' with_reducible first|exact ChO.const _|exact h _|apply ChO.ite|apply ChO.G|(apply ChO.bind;intro _)
theorem zgl (a b):Cn (zdy a b):=fun f g c d=>zfC  _ _ (fun e=>c e) a b d
theorem zgm (a b c):zcE a b c=zbi a b (zcE a b) c:=zbe (zgl a b) c

def zcD (a:Tp13) (b:Tp6):Option (Bool):=
  (zgg a b).bind (fun c=>
  some (decide ((0:Int)<=c)))

def zbw (a:Tp6) (c:Int->Option (Int)) (b:Int):Option (Int):=
  if (decide (b < (a.2.2.1.length:Int)))=true then
  G (0<=b/\b < (a.2.2.1.length:Int)) (
  if (decide (((ix a.2.2.1 b).1) < (0:Int)))=true then
  some (2:Int) else
  if (decide (a.2.1<=((ix a.2.2.1 b).1)))=true then
  some (2:Int) else
  if (decide ((3:Int) < ((((ix a.2.2.1 b).2).1).length:Int)))=true then
  some (1:Int) else
  (zcD (((ix a.2.2.1 b).2).1) (a.1,(a.2.1,(a.2.2.1,())))).bind (fun d=>
  if d=true then
  some (2:Int) else
  G (fits (b+(1:Int))) (
  c (b+(1:Int))))) else
  some (0:Int)
def zgx (a:Tp6):(Int->Option (Int))->Int->Option (Int):=
  fun rec b=>zbw a (fun c=>rec c) b
def zdV (a:Tp6) (b:Int):Option (Int):=LFix (zgx a ) b
def zbk (a:Tp6):Option (Int):=
  if (decide (a.1 < (1:Int)))=true then
  some (2:Int) else
  if (decide ((4:Int) < a.1))=true then
  some (2:Int) else
  if (decide (a.2.1 < (1:Int)))=true then
  some (1:Int) else
  if (decide ((6:Int) < a.2.1))=true then
  some (1:Int) else
  if (decide ((20:Int) < (a.2.2.1.length:Int)))=true then
  some (1:Int) else
  zdV a (0:Int)
theorem ziF (b:Nat->Int->Option (Int)) (c:Int->Option (Int)) (g:∀ f,ChO (fun a=>b a f) (c f)) (d e):ChO (fun a=>zbw d (b a) e) (zbw d c e):=by
  unfold zbw
  repeat' with_reducible first|exact ChO.const _|exact g _|apply ChO.ite|apply ChO.G|(apply ChO.bind;intro _)
theorem zka (a):Cn (zgx a):=fun e f b c=>ziF  _ _ (fun d=>b d) a c
theorem zf4 (a b):zdV a b=zbw a (zdV a) b:=zbe (zka a) b

def zaD (b:Tp13) (d:Int) (e:Int->Int->Option (Int)) (c a:Int):Option (Int):=
  if (decide (a < (b.length:Int)))=true then
  G (0<=a/\a < (b.length:Int)) (
  if (decide ((ix b a) < (0:Int)))=true then
  some (2:Int) else
  if (decide ((6:Int) < (ix b a)))=true then
  some (2:Int) else
  G (fits (c+(ix b a))) (
  G (fits (a+(1:Int))) (
  e (c+(ix b a)) (a+(1:Int))))) else
  if (decide (d < c))=true then
  some (1:Int) else
  some (0:Int)
def zeh (b:Tp13) (c:Int):(Int×Int->Option (Int))->Int×Int->Option (Int):=
  fun rec a=>zaD b c (fun d e=>rec (d,e)) a.1 a.2
def zba (a:Tp13) (b c d:Int):Option (Int):=LFix (zeh a b ) (c,d)
def zdj (b:Int) (a:Tp13) (c:Int):Option (Int):=
  if (decide (¬ (a.length:Int)=b))=true then
  some (3:Int) else
  zba a c (0:Int) (0:Int)
theorem zgj (b:Nat->Int->Int->Option (Int)) (c:Int->Int->Option (Int)) (j:∀ h i,ChO (fun a=>b a h i) (c h i)) (d e f g):ChO (fun a=>zaD d e (b a) f g) (zaD d e c f g):=by
  unfold zaD
  repeat' with_reducible first|exact ChO.const _|exact j _ _|apply ChO.ite|apply ChO.G
theorem zhE (a b):Cn (zeh a b):=fun g h d c=>zgj  _ _ (fun e f=>d (e,f)) a b c.1 c.2
theorem zdQ (a b c d):zba a b c d=zaD a b (zba a b) c d:=zbe (zhE a b) (c,d)

def zeR (a:Tp13):Option Tp13:=
  if a.length=0 then both [(.list (.int .i64))] (
  some ([])) (
  G (room ([]:List Int) a 8) (
  some (([]:List Int)++a))) else
  G (room ([]:List Int) a 8) (
  some (([]:List Int)++a))

def zcT (a:Int):Option (Bool):=
  some (decide ((0:Int) < a))

def za5 (b:Tp13) (c:Int->Option (Int)) (a:Int):Option (Int):=
  if (decide (a < (b.length:Int)))=true then
  G (0<=a/\a < (b.length:Int)) (
  (zcT (ix b a)).bind (fun d=>
  if d=true then
  some a else
  G (fits (a+(1:Int))) (
  c (a+(1:Int))))) else
  some (-1:Int)
def zc1 (a:Tp13):(Int->Option (Int))->Int->Option (Int):=
  fun rec b=>za5 a (fun c=>rec c) b
def zb9 (a:Tp13) (b:Int):Option (Int):=LFix (zc1 a ) b
def zeS (a:Tp13):Option (Int):=
  zb9 a (0:Int)
theorem zer (b:Nat->Int->Option (Int)) (c:Int->Option (Int)) (g:∀ f,ChO (fun a=>b a f) (c f)) (d e):ChO (fun a=>za5 d (b a) e) (za5 d c e):=by
  unfold za5
  repeat' with_reducible first|exact ChO.const _|exact g _|apply ChO.ite|apply ChO.G|(apply ChO.bind;intro _)
theorem zfA (a):Cn (zc1 a):=fun e f b c=>zer  _ _ (fun d=>b d) a c
theorem zfB (a b):zb9 a b=za5 a (zb9 a) b:=zbe (zfA a) b

def zb8 (a:Tp13):Option (Bool):=
  (zeS a).bind (fun b=>
  some (decide ((0:Int)<=b)))

def zbV (c:Int) (b:Tp13) (d:Int->Option (Int)) (a:Int):Option (Int):=
  if (decide (a < (b.length:Int)))=true then
  G (0<=a/\a < (b.length:Int)) (
  if (decide ((ix b a) < (0:Int)))=true then
  some (2:Int) else
  if (decide (c<=(ix b a)))=true then
  some (2:Int) else
  G (fits (a+(1:Int))) (
  d (a+(1:Int)))) else
  some (0:Int)
def zja (a:Int) (b:Tp13):(Int->Option (Int))->Int->Option (Int):=
  fun rec c=>zbV a b (fun d=>rec d) c
def zfZ (a:Int) (b:Tp13) (c:Int):Option (Int):=LFix (zja a b ) c
def zkE (a:Int) (b:Tp13):Option (Int):=
  if (decide (a < (1:Int)))=true then
  some (2:Int) else
  if (decide ((4:Int) < a))=true then
  some (2:Int) else
  if (decide ((60:Int) < (b.length:Int)))=true then
  some (1:Int) else
  zfZ a b (0:Int)
theorem zkk (b:Nat->Int->Option (Int)) (c:Int->Option (Int)) (h:∀ g,ChO (fun a=>b a g) (c g)) (d e f):ChO (fun a=>zbV d e (b a) f) (zbV d e c f):=by
  unfold zbV
  repeat' with_reducible first|exact ChO.const _|exact h _|apply ChO.ite|apply ChO.G
theorem zlT (a b):Cn (zja a b):=fun f g c d=>zkk  _ _ (fun e=>c e) a b d
theorem zhY (a b c):zfZ a b c=zbV a b (zfZ a b) c:=zbe (zlT a b) c

def zbP (c d e f g:Int) (h:Tp7) (i:Tp13) (a:Tp8) (b:Tp13) (j:Tp8) (k:Tp7):Option (Int×Int×Int×Tp7×Tp13×Tp8×Tp13×Tp8×Tp7):=
  if (mhas a (c,(d,(e,()))))=true then
  some (mget a b (c,(d,(e,()))) (0:Int),f,g,h,i,a,b,j,k) else
  some ((1099511627776:Int),f,g,h,i,a,b,j,k)

def zaM (p:Tf2) (c:Tp13) (q e b:Int) (g:Tp13) (f:(Int->Int->Int->Int->Tp7->Tp13->Tp8->Tp13->Tp8->Tp7->Tp13->Option Tp1)) (d h i:Int) (j:Tp7) (k:Tp13) (l:Tp8) (m:Tp13) (n:Tp8) (o:Tp7):Option Tp1:=
  if (decide (d=(1099511627776:Int)))=true then
  G (fits (b+(1:Int))) (
  f e (b+(1:Int)) h i j k l m n o g) else
  G (0<=(1:Int)/\(1:Int)<=(c.length:Int)/\(c.length:Int)<=(c.length:Int)) (
  (p (cut c (1:Int) (c.length:Int)) b q h i j k l m n o).bind (fun a=>
  G (fits (d+a.1)) (
  if (decide ((d+a.1) < e))=true then
  G (fits (d+a.1)) (
  G (room ([b]) a.2.1 8) (
  G (fits (b+(1:Int))) (
  f (d+a.1) (b+(1:Int)) a.2.2.1 a.2.2.2.1 a.2.2.2.2.1 a.2.2.2.2.2.1 a.2.2.2.2.2.2.1 a.2.2.2.2.2.2.2.1 a.2.2.2.2.2.2.2.2.1 a.2.2.2.2.2.2.2.2.2 (([b])++a.2.1)))) else
  G (fits (b+(1:Int))) (
  f e (b+(1:Int)) a.2.2.1 a.2.2.2.1 a.2.2.2.2.1 a.2.2.2.2.2.1 a.2.2.2.2.2.2.1 a.2.2.2.2.2.2.2.1 a.2.2.2.2.2.2.2.2.1 a.2.2.2.2.2.2.2.2.2 g))))
def za1 (a:Tf2) (b:Tp13) (c d e f g:Int) (h:Tp7) (i:Tp13) (j:Tp8) (k:Tp13) (l:Tp8) (m:Tp7) (n:Tp13) (o:(Int->Int->Int->Int->Tp7->Tp13->Tp8->Tp13->Tp8->Tp7->Tp13->Option Tp1)) (p:Bool):Option Tp1:=
  if p=true then
  zaM a b c d e n o (0:Int) f g h i j k l m else
  zaM a b c d e n o (1099511627776:Int) f g h i j k l m
def zaV (p:Tf2) (b:Tp13) (d g:Int) (q:Tf3) (h e c i:Int) (j:Tp7) (f:Tp13) (k:Tp8) (l:Tp13) (m:Tp8) (n:Tp7) (o:Tp13):Option Tp1:=
  if (decide (e<=g))=true then
  if (decide (c<=(ix b (0:Int))))=true then
  G (fits ((ix b (0:Int)) - c)) (
  (zbP ((ix b (0:Int)) - c) d e c i j f k l m n).bind (fun a=>
  zaM p b g h e o q a.1 a.2.1 a.2.2.1 a.2.2.2.1 a.2.2.2.2.1 a.2.2.2.2.2.1 a.2.2.2.2.2.2.1 a.2.2.2.2.2.2.2.1 a.2.2.2.2.2.2.2.2)) else
  G (fits (d+(1:Int))) (
  if (decide (e=(d+(1:Int))))=true then
  G (0<=d/\d < (f.length:Int)) (
  za1 p b g h e c i j f k l m n o q (decide ((ix f d)=(ix b (0:Int))))) else
  za1 p b g h e c i j f k l m n o q false) else
  some (h,o,c,i,j,f,k,l,m,n)
def zd9 (b:Tf2) (c:Tp13) (d e:Int):(Int×Int×Int×Int×Tp7×Tp13×Tp8×Tp13×Tp8×Tp7×Tp13->Option Tp1)->Int×Int×Int×Int×Tp7×Tp13×Tp8×Tp13×Tp8×Tp7×Tp13->Option Tp1:=
  fun rec a=>zaV b c d e (fun f g h i j k l m n o p=>rec (f,g,h,i,j,k,l,m,n,o,p)) a.1 a.2.1 a.2.2.1 a.2.2.2.1 a.2.2.2.2.1 a.2.2.2.2.2.1 a.2.2.2.2.2.2.1 a.2.2.2.2.2.2.2.1 a.2.2.2.2.2.2.2.2.1 a.2.2.2.2.2.2.2.2.2.1 a.2.2.2.2.2.2.2.2.2.2
def zaX (a:Tf2) (b:Tp13) (c d e f g h:Int) (i:Tp7) (j:Tp13) (k:Tp8) (l:Tp13) (m:Tp8) (n:Tp7) (o:Tp13):Option Tp1:=LFix (zd9 a b c d ) (e,f,g,h,i,j,k,l,m,n,o)
def zbn (l:Tf2) (a:Tp13) (b k c d:Int) (e:Tp7) (f:Tp13) (g:Tp8) (h:Tp13) (i:Tp8) (j:Tp7):Option Tp1:=
  if (decide ((a.length:Int)=(0:Int)))=true then
  if (decide (b=k))=true then
  some ((0:Int),[],c,d,e,f,g,h,i,j) else
  some ((1099511627776:Int),[],c,d,e,f,g,h,i,j) else
  G (0<=(0:Int)/\(0:Int) < (a.length:Int)) (
  zaX l a b k (1099511627776:Int) b c d e f g h i j ([]))
theorem zdq (m:Nat->Tf2) (n:Tf2) (o:∀ b c d e f g h i j k l,ChO (fun a=>m a b c d e f g h i j k l) (n b c d e f g h i j k l)) (p:Nat->Tf3) (q:Tf3) (F:∀ b c d e f g h i j k l,ChO (fun a=>p a b c d e f g h i j k l) (q b c d e f g h i j k l)) (r s t u v w x y z A B C D E):ChO (fun a=>zaM (m a) r s t u v (p a) w x y z A B C D E) (zaM n r s t u v q w x y z A B C D E):=by
  unfold zaM
  repeat' with_reducible first|exact ChO.const _|exact o _ _ _ _ _ _ _ _ _ _ _|exact F _ _ _ _ _ _ _ _ _ _ _|apply ChO.ite|apply ChO.G|(apply ChO.bind;intro _)|(apply ChO.bind2 (o _ _ _ _ _ _ _ _ _ _ _);intro _)
theorem zgD (m:Nat->Tf2) (n:Tf2) (E:∀ b c d e f g h i j k l,ChO (fun a=>m a b c d e f g h i j k l) (n b c d e f g h i j k l)) (o:Nat->Tf3) (p:Tf3) (F:∀ b c d e f g h i j k l,ChO (fun a=>o a b c d e f g h i j k l) (p b c d e f g h i j k l)) (q r s t u v w x y z A B C D):ChO (fun a=>za1 (m a) q r s t u v w x y z A B C (o a) D) (za1 n q r s t u v w x y z A B C p D):=by
  unfold za1
  repeat' with_reducible first|exact ChO.const _|exact E _ _ _ _ _ _ _ _ _ _ _|exact F _ _ _ _ _ _ _ _ _ _ _|(apply zdq<;>assumption)|apply ChO.ite
theorem zc5 (m:Nat->Tf2) (n:Tf2) (o:∀ b c d e f g h i j k l,ChO (fun a=>m a b c d e f g h i j k l) (n b c d e f g h i j k l)) (p:Nat->Tf3) (q:Tf3) (F:∀ b c d e f g h i j k l,ChO (fun a=>p a b c d e f g h i j k l) (q b c d e f g h i j k l)) (r s t u v w x y z A B C D E):ChO (fun a=>zaV (m a) r s t (p a) u v w x y z A B C D E) (zaV n r s t q u v w x y z A B C D E):=by
  unfold zaV
  repeat' with_reducible first|exact ChO.const _|exact o _ _ _ _ _ _ _ _ _ _ _|exact F _ _ _ _ _ _ _ _ _ _ _|(apply zdq<;>assumption)|(apply zgD<;>assumption)|apply ChO.ite|apply ChO.G|(apply ChO.bind;intro _)|(apply ChO.bind2 (o _ _ _ _ _ _ _ _ _ _ _);intro _)
theorem zci (b c d e):Cn (zd9 b c d e):=fun r s f a=>zc5 (fun _=>b) b (fun _ _ _ _ _ _ _ _ _ _ _=>ChO.const _) _ _ (fun g h i j k l m n o p q=>f (g,h,i,j,k,l,m,n,o,p,q)) c d e a.1 a.2.1 a.2.2.1 a.2.2.2.1 a.2.2.2.2.1 a.2.2.2.2.2.1 a.2.2.2.2.2.2.1 a.2.2.2.2.2.2.2.1 a.2.2.2.2.2.2.2.2.1 a.2.2.2.2.2.2.2.2.2.1 a.2.2.2.2.2.2.2.2.2.2
theorem zdL (a b c d e f g h i j k l m n o):zaX a b c d e f g h i j k l m n o=zaV a b c d (zaX a b c d) e f g h i j k l m n o:=zbe (zci a b c d) (e,f,g,h,i,j,k,l,m,n,o)
theorem zhA (f:Nat->Tf2) (g:Tf2) (D:∀ h i j k l m n o p q r,ChO (fun e=>f e h i j k l m n o p q r) (g h i j k l m n o p q r)) (b c d s t u v w x y z A B C):ChO (fun e=>zaX (f e) b c d s t u v w x y z A B C) (zaX g b c d s t u v w x y z A B C):=by
  unfold zaX
  exact zgn (fun e=>(zci (f e) b c d).mono) (zci g b c d).mono (fun F H E a=>zc5 f g D _ _ (fun h i j k l m n o p q r=>E (h,i,j,k,l,m,n,o,p,q,r)) b c d a.1 a.2.1 a.2.2.1 a.2.2.2.1 a.2.2.2.2.1 a.2.2.2.2.2.1 a.2.2.2.2.2.2.1 a.2.2.2.2.2.2.2.1 a.2.2.2.2.2.2.2.2.1 a.2.2.2.2.2.2.2.2.2.1 a.2.2.2.2.2.2.2.2.2.2) _
theorem zh6 (b:Nat->Tf2) (c:Tf2) (z:∀ o p q r s t u v w x y,ChO (fun a=>b a o p q r s t u v w x y) (c o p q r s t u v w x y)) (d e f g h i j k l m n):ChO (fun a=>zbn (b a) d e f g h i j k l m n) (zbn c d e f g h i j k l m n):=by
  unfold zbn
  repeat' with_reducible first|exact ChO.const _|exact z _ _ _ _ _ _ _ _ _ _ _|(apply zhA<;>assumption)|apply ChO.ite|apply ChO.G
def zcw:(Tp13×Int×Int×Int×Int×Tp7×Tp13×Tp8×Tp13×Tp8×Tp7->Option Tp1)->Tp13×Int×Int×Int×Int×Tp7×Tp13×Tp8×Tp13×Tp8×Tp7->Option Tp1:=
  fun rec a=>zbn (fun b c d e f g h i j k l=>rec (b,c,d,e,f,g,h,i,j,k,l)) a.1 a.2.1 a.2.2.1 a.2.2.2.1 a.2.2.2.2.1 a.2.2.2.2.2.1 a.2.2.2.2.2.2.1 a.2.2.2.2.2.2.2.1 a.2.2.2.2.2.2.2.2.1 a.2.2.2.2.2.2.2.2.2.1 a.2.2.2.2.2.2.2.2.2.2
def zbv (a:Tp13) (b c d e:Int) (f:Tp7) (g:Tp13) (h:Tp8) (i:Tp13) (j:Tp8) (k:Tp7):Option Tp1:=LFix zcw (a,b,c,d,e,f,g,h,i,j,k)
theorem zjo:Cn zcw:=fun n o b a=>zh6 _ _ (fun c d e f g h i j k l m=>b (c,d,e,f,g,h,i,j,k,l,m)) a.1 a.2.1 a.2.2.1 a.2.2.2.1 a.2.2.2.2.1 a.2.2.2.2.2.1 a.2.2.2.2.2.2.1 a.2.2.2.2.2.2.2.1 a.2.2.2.2.2.2.2.2.1 a.2.2.2.2.2.2.2.2.2.1 a.2.2.2.2.2.2.2.2.2.2
theorem zfg (a b c d e f g h i j k):zbv a b c d e f g h i j k=zbn zbv a b c d e f g h i j k:=zbe zjo (a,b,c,d,e,f,g,h,i,j,k)

def zbo (a:Int) (b:(Bool->Int->Int->Int->Tp7->Tp13->Tp8->Tp13->Tp8->Tp7->Option Tp3)) (c d:Int) (e:Tp7) (f:Tp13) (g:Tp8) (h:Tp13) (i:Tp8) (j:Tp7):Option Tp3:=
  G (fits (a+(1:Int))) (
  b true (a+(1:Int)) c d e f g h i j)
def za7 (c:Tp6) (d a:Int) (p:Bool) (b:Int) (i:(Bool->Int->Int->Int->Tp7->Tp13->Tp8->Tp13->Tp8->Tp7->Option Tp3)) (j:Int) (o:Tp13) (q:Bool) (k l:Int) (m:Tp7) (n:Tp13) (e:Tp8) (g:Tp13) (f:Tp8) (h:Tp7):Option Tp3:=
  if q=true then
  G (fits (j+(1:Int))) (
  both [(.int .i64),(.int .i64),(.list (.pair (.int .i64) (.pair (.list (.int .i64)) .unit))),(.list (.int .i64)),(.list (.pair (.int .i64) (.pair (.int .i64) (.pair (.int .i64) .unit)))),(.list (.int .i64)),(.list (.pair (.int .i64) (.pair (.int .i64) (.pair (.int .i64) .unit)))),(.list (.pair (.int .i64) (.pair (.list (.int .i64)) .unit)))] (
  G (0<=mpos e ((ix c.2.2.1 b).1,(a,(a+d,())))/\mpos e ((ix c.2.2.1 b).1,(a,(a+d,()))) < ((zeq e g ((ix c.2.2.1 b).1,(a,(a+d,()))) (0:Int)).length:Int)) (
  G (0<=mpos f ((ix c.2.2.1 b).1,(a,(a+d,())))/\mpos f ((ix c.2.2.1 b).1,(a,(a+d,()))) < ((zeq f h ((ix c.2.2.1 b).1,(a,(a+d,()))) ((0,([],())):Int×Tp13×Unit)).length:Int)) (
  zbo b i k l m n (zcj e ((ix c.2.2.1 b).1,(a,(a+d,())))) ((zeq e g ((ix c.2.2.1 b).1,(a,(a+d,()))) (0:Int)).set (mpos e ((ix c.2.2.1 b).1,(a,(a+d,())))).toNat (imin (j+(1:Int)) (1099511627775:Int))) (zcj f ((ix c.2.2.1 b).1,(a,(a+d,())))) ((zeq f h ((ix c.2.2.1 b).1,(a,(a+d,()))) ((0,([],())):Int×Tp13×Unit)).set (mpos f ((ix c.2.2.1 b).1,(a,(a+d,())))).toNat (b,(o,())))))) (
  G (0<=mpos e ((ix c.2.2.1 b).1,(a,(a+d,())))/\mpos e ((ix c.2.2.1 b).1,(a,(a+d,()))) < ((zeq e g ((ix c.2.2.1 b).1,(a,(a+d,()))) (0:Int)).length:Int)) (
  G (0<=mpos f ((ix c.2.2.1 b).1,(a,(a+d,())))/\mpos f ((ix c.2.2.1 b).1,(a,(a+d,()))) < ((zeq f h ((ix c.2.2.1 b).1,(a,(a+d,()))) ((0,([],())):Int×Tp13×Unit)).length:Int)) (
  zbo b i k l m n (zcj e ((ix c.2.2.1 b).1,(a,(a+d,())))) ((zeq e g ((ix c.2.2.1 b).1,(a,(a+d,()))) (0:Int)).set (mpos e ((ix c.2.2.1 b).1,(a,(a+d,())))).toNat (imin (j+(1:Int)) (1099511627775:Int))) (zcj f ((ix c.2.2.1 b).1,(a,(a+d,())))) ((zeq f h ((ix c.2.2.1 b).1,(a,(a+d,()))) ((0,([],())):Int×Tp13×Unit)).set (mpos f ((ix c.2.2.1 b).1,(a,(a+d,())))).toNat (b,(o,()))))))) else
  G (fits (b+(1:Int))) (
  i p (b+(1:Int)) k l m n e g f h)
def zaN (f:Tp6) (d b:Int) (q:(Bool->Int->Int->Int->Tp7->Tp13->Tp8->Tp13->Tp8->Tp7->Option Tp3)) (h:Tf5) (g:Bool) (e i j:Int) (k:Tp7) (l:Tp13) (m:Tp8) (n:Tp13) (o:Tp8) (p:Tp7):Option Tp3:=
  if (decide (e < (f.2.2.1.length:Int)))=true then
  G (0<=e/\e < (f.2.2.1.length:Int)) (
  G (fits (b+d)) (
  (zbv (((ix f.2.2.1 e).2).1) b (b+d) i j k l m n o p).bind (fun a=>
  G (fits (b+d)) (
  if (decide (a.1 < (1099511627776:Int)))=true then
  G (fits (a.1+(1:Int))) (
  G (fits (b+d)) (
  (zbP ((ix f.2.2.1 e).1) b (b+d) a.2.2.1 a.2.2.2.1 a.2.2.2.2.1 a.2.2.2.2.2.1 a.2.2.2.2.2.2.1 a.2.2.2.2.2.2.2.1 a.2.2.2.2.2.2.2.2.1 a.2.2.2.2.2.2.2.2.2).bind (fun c=>
  za7 f d b g e h a.1 a.2.1 (decide ((a.1+(1:Int)) < c.1)) c.2.1 c.2.2.1 c.2.2.2.1 c.2.2.2.2.1 c.2.2.2.2.2.1 c.2.2.2.2.2.2.1 c.2.2.2.2.2.2.2.1 c.2.2.2.2.2.2.2.2))) else
  za7 f d b g e h a.1 a.2.1 false a.2.2.1 a.2.2.2.1 a.2.2.2.2.1 a.2.2.2.2.2.1 a.2.2.2.2.2.2.1 a.2.2.2.2.2.2.2.1 a.2.2.2.2.2.2.2.2.1 a.2.2.2.2.2.2.2.2.2)))) else
  G (fits (b+(1:Int))) (
  q g (b+(1:Int)) i j k l m n o p)
def zeA (b:Tp6) (c d:Int) (e:(Bool->Int->Int->Int->Tp7->Tp13->Tp8->Tp13->Tp8->Tp7->Option Tp3)):(Bool×Int×Int×Int×Tp7×Tp13×Tp8×Tp13×Tp8×Tp7->Option Tp3)->Bool×Int×Int×Int×Tp7×Tp13×Tp8×Tp13×Tp8×Tp7->Option Tp3:=
  fun rec a=>zaN b c d e (fun f g h i j k l m n o=>rec (f,g,h,i,j,k,l,m,n,o)) a.1 a.2.1 a.2.2.1 a.2.2.2.1 a.2.2.2.2.1 a.2.2.2.2.2.1 a.2.2.2.2.2.2.1 a.2.2.2.2.2.2.2.1 a.2.2.2.2.2.2.2.2.1 a.2.2.2.2.2.2.2.2.2
def zay (a:Tp6) (b c:Int) (d:(Bool->Int->Int->Int->Tp7->Tp13->Tp8->Tp13->Tp8->Tp7->Option Tp3)) (e:Bool) (f g h:Int) (i:Tp7) (j:Tp13) (k:Tp8) (l:Tp13) (m:Tp8) (n:Tp7):Option Tp3:=LFix (zeA a b c d ) (e,f,g,h,i,j,k,l,m,n)
def za9 (l:Tp6) (m:Tp13) (a:Int) (n:(Bool->Int->Int->Tp7->Tp13->Tp8->Tp13->Tp8->Tp7->Option Tp3)) (o:Tf5) (c:Bool) (b d e:Int) (f:Tp7) (g:Tp13) (h:Tp8) (i:Tp13) (j:Tp8) (k:Tp7):Option Tp3:=
  G (fits (b+a)) (
  if (decide ((b+a)<=(m.length:Int)))=true then
  zay l a b o c (0:Int) d e f g h i j k else
  n c d e f g h i j k)
def zfj (b:Tp6) (c:Tp13) (d:Int) (e:(Bool->Int->Int->Tp7->Tp13->Tp8->Tp13->Tp8->Tp7->Option Tp3)):(Bool×Int×Int×Int×Tp7×Tp13×Tp8×Tp13×Tp8×Tp7->Option Tp3)->Bool×Int×Int×Int×Tp7×Tp13×Tp8×Tp13×Tp8×Tp7->Option Tp3:=
  fun rec a=>za9 b c d e (fun f g h i j k l m n o=>rec (f,g,h,i,j,k,l,m,n,o)) a.1 a.2.1 a.2.2.1 a.2.2.2.1 a.2.2.2.2.1 a.2.2.2.2.2.1 a.2.2.2.2.2.2.1 a.2.2.2.2.2.2.2.1 a.2.2.2.2.2.2.2.2.1 a.2.2.2.2.2.2.2.2.2
def zbf (a:Tp6) (b:Tp13) (c:Int) (d:(Bool->Int->Int->Tp7->Tp13->Tp8->Tp13->Tp8->Tp7->Option Tp3)) (e:Bool) (f g h:Int) (i:Tp7) (j:Tp13) (k:Tp8) (l:Tp13) (m:Tp8) (n:Tp7):Option Tp3:=LFix (zfj a b c d ) (e,f,g,h,i,j,k,l,m,n)
def zaG (j:Tp6) (k:Tp13) (a:Int) (l:(Int->Int->Int->Tp7->Tp13->Tp8->Tp13->Tp8->Tp7->Option Tp3)) (m:Tf6) (n:Bool) (b c:Int) (d:Tp7) (e:Tp13) (f:Tp8) (g:Tp13) (h:Tp8) (i:Tp7):Option Tp3:=
  if n=true then
  zbf j k a m false (0:Int) b c d e f g h i else
  G (fits (a+(1:Int))) (
  l (a+(1:Int)) b c d e f g h i)
def zfi (b:Tp6) (c:Tp13) (d:Int) (e:(Int->Int->Int->Tp7->Tp13->Tp8->Tp13->Tp8->Tp7->Option Tp3)):(Bool×Int×Int×Tp7×Tp13×Tp8×Tp13×Tp8×Tp7->Option Tp3)->Bool×Int×Int×Tp7×Tp13×Tp8×Tp13×Tp8×Tp7->Option Tp3:=
  fun rec a=>zaG b c d e (fun f g h i j k l m n=>rec (f,g,h,i,j,k,l,m,n)) a.1 a.2.1 a.2.2.1 a.2.2.2.1 a.2.2.2.2.1 a.2.2.2.2.2.1 a.2.2.2.2.2.2.1 a.2.2.2.2.2.2.2.1 a.2.2.2.2.2.2.2.2
def za2 (a:Tp6) (b:Tp13) (c:Int) (d:(Int->Int->Int->Tp7->Tp13->Tp8->Tp13->Tp8->Tp7->Option Tp3)) (e:Bool) (f g:Int) (h:Tp7) (i:Tp13) (j:Tp8) (k:Tp13) (l:Tp8) (m:Tp7):Option Tp3:=LFix (zfi a b c d ) (e,f,g,h,i,j,k,l,m)
def za8 (k:Tp6) (a:Tp13) (l:Tf7) (b c d:Int) (e:Tp7) (f:Tp13) (g:Tp8) (h:Tp13) (i:Tp8) (j:Tp7):Option Tp3:=
  if (decide (b<=(a.length:Int)))=true then
  za2 k a b l true c d e f g h i j else
  some (c,d,e,f,g,h,i,j)
def zfh (b:Tp6) (c:Tp13):(Int×Int×Int×Tp7×Tp13×Tp8×Tp13×Tp8×Tp7->Option Tp3)->Int×Int×Int×Tp7×Tp13×Tp8×Tp13×Tp8×Tp7->Option Tp3:=
  fun rec a=>za8 b c (fun d e f g h i j k l=>rec (d,e,f,g,h,i,j,k,l)) a.1 a.2.1 a.2.2.1 a.2.2.2.1 a.2.2.2.2.1 a.2.2.2.2.2.1 a.2.2.2.2.2.2.1 a.2.2.2.2.2.2.2.1 a.2.2.2.2.2.2.2.2
def zb3 (a:Tp6) (b:Tp13) (c d e:Int) (f:Tp7) (g:Tp13) (h:Tp8) (i:Tp13) (j:Tp8) (k:Tp7):Option Tp3:=LFix (zfh a b ) (c,d,e,f,g,h,i,j,k)
def zez (a:Tp6) (b:Tp13):Option Tp3:=
  zb3 a b (0:Int) a.1 a.2.1 a.2.2.1 b ([]:List Tp10) ([]:List Int) ([]:List Tp10) ([]:List Tp9)
theorem zh8 (b:Nat->Tf5) (c:Tf5) (w:∀ m n o p q r s t u v,ChO (fun a=>b a m n o p q r s t u v) (c m n o p q r s t u v)) (d e f g h i j k l):ChO (fun a=>zbo d (b a) e f g h i j k l) (zbo d c e f g h i j k l):=by
  unfold zbo
  repeat' with_reducible first|exact ChO.const _|exact w _ _ _ _ _ _ _ _ _ _|apply ChO.G
theorem zh7 (b:Nat->Tf5) (c:Tf5) (D:∀ t u v w x y z A B C,ChO (fun a=>b a t u v w x y z A B C) (c t u v w x y z A B C)) (d e f g h i j k l m n o p q r s):ChO (fun a=>za7 d e f g h (b a) i j k l m n o p q r s) (za7 d e f g h c i j k l m n o p q r s):=by
  unfold za7
  repeat' with_reducible first|exact ChO.const _|exact D _ _ _ _ _ _ _ _ _ _|(apply zh8<;>assumption)|apply ChO.ite|apply ChO.G|apply ChO.both
theorem zdr (l:Nat->Tf5) (m:Tf5) (C:∀ b c d e f g h i j k,ChO (fun a=>l a b c d e f g h i j k) (m b c d e f g h i j k)) (n:Nat->Tf5) (o:Tf5) (D:∀ b c d e f g h i j k,ChO (fun a=>n a b c d e f g h i j k) (o b c d e f g h i j k)) (p q r s t u v w x y z A B):ChO (fun a=>zaN p q r (l a) (n a) s t u v w x y z A B) (zaN p q r m o s t u v w x y z A B):=by
  unfold zaN
  repeat' with_reducible first|exact ChO.const _|exact C _ _ _ _ _ _ _ _ _ _|exact D _ _ _ _ _ _ _ _ _ _|(apply zh7<;>assumption)|apply ChO.ite|apply ChO.G|(apply ChO.bind;intro _)
theorem zcy (b c d e):Cn (zeA c d e b):=fun q r f a=>zdr (fun _=>b) b (fun _ _ _ _ _ _ _ _ _ _=>ChO.const _) _ _ (fun g h i j k l m n o p=>f (g,h,i,j,k,l,m,n,o,p)) c d e a.1 a.2.1 a.2.2.1 a.2.2.2.1 a.2.2.2.2.1 a.2.2.2.2.2.1 a.2.2.2.2.2.2.1 a.2.2.2.2.2.2.2.1 a.2.2.2.2.2.2.2.2.1 a.2.2.2.2.2.2.2.2.2
theorem zea (a b c d e f g h i j k l m n):zay b c d a e f g h i j k l m n=zaN b c d a (zay b c d a) e f g h i j k l m n:=zbe (zcy a b c d) (e,f,g,h,i,j,k,l,m,n)
theorem zh9 (f:Nat->Tf5) (g:Tf5) (B:∀ h i j k l m n o p q,ChO (fun e=>f e h i j k l m n o p q) (g h i j k l m n o p q)) (b c d r s t u v w x y z A):ChO (fun e=>zay b c d (f e) r s t u v w x y z A) (zay b c d g r s t u v w x y z A):=by
  unfold zay
  exact zgn (fun e=>(zcy (f e) b c d).mono) (zcy g b c d).mono (fun D E C a=>zdr f g B _ _ (fun h i j k l m n o p q=>C (h,i,j,k,l,m,n,o,p,q)) b c d a.1 a.2.1 a.2.2.1 a.2.2.2.1 a.2.2.2.2.1 a.2.2.2.2.2.1 a.2.2.2.2.2.2.1 a.2.2.2.2.2.2.2.1 a.2.2.2.2.2.2.2.2.1 a.2.2.2.2.2.2.2.2.2) _
theorem zdN (k:Nat->Tf6) (l:Tf6) (C:∀ b c d e f g h i j,ChO (fun a=>k a b c d e f g h i j) (l b c d e f g h i j)) (m:Nat->Tf5) (n:Tf5) (D:∀ b c d e f g h i j B,ChO (fun a=>m a b c d e f g h i j B) (n b c d e f g h i j B)) (o p q r s t u v w x y z A):ChO (fun a=>za9 o p q (k a) (m a) r s t u v w x y z A) (za9 o p q l n r s t u v w x y z A):=by
  unfold za9
  repeat' with_reducible first|exact ChO.const _|exact C _ _ _ _ _ _ _ _ _|exact D _ _ _ _ _ _ _ _ _ _|(apply zh9<;>assumption)|apply ChO.ite|apply ChO.G
theorem zcQ (b c d e):Cn (zfj c d e b):=fun q r f a=>zdN (fun _=>b) b (fun _ _ _ _ _ _ _ _ _=>ChO.const _) _ _ (fun g h i j k l m n o p=>f (g,h,i,j,k,l,m,n,o,p)) c d e a.1 a.2.1 a.2.2.1 a.2.2.2.1 a.2.2.2.2.1 a.2.2.2.2.2.1 a.2.2.2.2.2.2.1 a.2.2.2.2.2.2.2.1 a.2.2.2.2.2.2.2.2.1 a.2.2.2.2.2.2.2.2.2
theorem zeC (a b c d e f g h i j k l m n):zbf b c d a e f g h i j k l m n=za9 b c d a (zbf b c d a) e f g h i j k l m n:=zbe (zcQ a b c d) (e,f,g,h,i,j,k,l,m,n)
theorem ziK (f:Nat->Tf6) (g:Tf6) (A:∀ h i j k l m n o p,ChO (fun e=>f e h i j k l m n o p) (g h i j k l m n o p)) (b c d q r s t u v w x y z):ChO (fun e=>zbf b c d (f e) q r s t u v w x y z) (zbf b c d g q r s t u v w x y z):=by
  unfold zbf
  exact zgn (fun e=>(zcQ (f e) b c d).mono) (zcQ g b c d).mono (fun D E B a=>zdN f g A _ _ (fun h i j k l m n o p C=>B (h,i,j,k,l,m,n,o,p,C)) b c d a.1 a.2.1 a.2.2.1 a.2.2.2.1 a.2.2.2.2.1 a.2.2.2.2.2.1 a.2.2.2.2.2.2.1 a.2.2.2.2.2.2.2.1 a.2.2.2.2.2.2.2.2.1 a.2.2.2.2.2.2.2.2.2) _
theorem zdM (k:Nat->Tf7) (l:Tf7) (A:∀ b c d e f g h i j,ChO (fun a=>k a b c d e f g h i j) (l b c d e f g h i j)) (m:Nat->Tf6) (n:Tf6) (B:∀ b c d e f g h i j,ChO (fun a=>m a b c d e f g h i j) (n b c d e f g h i j)) (o p q r s t u v w x y z):ChO (fun a=>zaG o p q (k a) (m a) r s t u v w x y z) (zaG o p q l n r s t u v w x y z):=by
  unfold zaG
  repeat' with_reducible first|exact ChO.const _|exact A _ _ _ _ _ _ _ _ _|exact B _ _ _ _ _ _ _ _ _|(apply ziK<;>assumption)|apply ChO.ite|apply ChO.G
theorem zcP (b c d e):Cn (zfi c d e b):=fun p q f a=>zdM (fun _=>b) b (fun _ _ _ _ _ _ _ _ _=>ChO.const _) _ _ (fun g h i j k l m n o=>f (g,h,i,j,k,l,m,n,o)) c d e a.1 a.2.1 a.2.2.1 a.2.2.2.1 a.2.2.2.2.1 a.2.2.2.2.2.1 a.2.2.2.2.2.2.1 a.2.2.2.2.2.2.2.1 a.2.2.2.2.2.2.2.2
theorem zbB (a b c d e f g h i j k l m):za2 b c d a e f g h i j k l m=zaG b c d a (za2 b c d a) e f g h i j k l m:=zbe (zcP a b c d) (e,f,g,h,i,j,k,l,m)
theorem ziJ (f:Nat->Tf7) (g:Tf7) (z:∀ h i j k l m n o p,ChO (fun e=>f e h i j k l m n o p) (g h i j k l m n o p)) (b c d q r s t u v w x y):ChO (fun e=>za2 b c d (f e) q r s t u v w x y) (za2 b c d g q r s t u v w x y):=by
  unfold za2
  exact zgn (fun e=>(zcP (f e) b c d).mono) (zcP g b c d).mono (fun B C A a=>zdM f g z _ _ (fun h i j k l m n o p=>A (h,i,j,k,l,m,n,o,p)) b c d a.1 a.2.1 a.2.2.1 a.2.2.2.1 a.2.2.2.2.1 a.2.2.2.2.2.1 a.2.2.2.2.2.2.1 a.2.2.2.2.2.2.2.1 a.2.2.2.2.2.2.2.2) _
theorem zhB (b:Nat->Tf7) (c:Tf7) (x:∀ o p q r s t u v w,ChO (fun a=>b a o p q r s t u v w) (c o p q r s t u v w)) (d e f g h i j k l m n):ChO (fun a=>za8 d e (b a) f g h i j k l m n) (za8 d e c f g h i j k l m n):=by
  unfold za8
  repeat' with_reducible first|exact ChO.const _|exact x _ _ _ _ _ _ _ _ _|(apply ziJ<;>assumption)|apply ChO.ite
theorem ziI (b c):Cn (zfh b c):=fun n o d a=>zhB  _ _ (fun e f g h i j k l m=>d (e,f,g,h,i,j,k,l,m)) b c a.1 a.2.1 a.2.2.1 a.2.2.2.1 a.2.2.2.2.1 a.2.2.2.2.2.1 a.2.2.2.2.2.2.1 a.2.2.2.2.2.2.2.1 a.2.2.2.2.2.2.2.2
theorem zeB (a b c d e f g h i j k):zb3 a b c d e f g h i j k=za8 a b (zb3 a b) c d e f g h i j k:=zbe (ziI a b) (c,d,e,f,g,h,i,j,k)

def zaI (b c d:Int) (e:Tp8) (f:Tp7) (a:Int) (g:(Int->Int->Int->Int->Tp7->Tp13->Tp13->Tp8->Tp13->Tp8->Tp7->Option Tp2)) (h i:Int) (j:Tp7) (k l:Tp13) (m:Tp8) (n:Tp13) (o:Tp8) (p:Tp7):Option Tp2:=
  G (0<=a/\a < ((((mget e f (b,(c,(d,()))) ((0,([],())):Int×Tp13×Unit)).2).1).length:Int)) (
  G (fits (a+(1:Int))) (
  g (ix (((mget e f (b,(c,(d,()))) ((0,([],())):Int×Tp13×Unit)).2).1) a) (a+(1:Int)) h i j k l m n o p))
def zaw (s:Tf1) (b c d:Int) (i:Tp7) (e:Tp8) (f:Tp7) (r:Tf4) (t a h j:Int) (k:Tp7) (l m:Tp13) (n:Tp8) (o:Tp13) (p:Tp8) (q:Tp7):Option Tp2:=
  if (decide (a < ((((ix i ((mget e f (b,(c,(d,()))) ((0,([],())):Int×Tp13×Unit)).1)).2).1).length:Int)))=true then
  G (0<=a/\a < ((((ix i ((mget e f (b,(c,(d,()))) ((0,([],())):Int×Tp13×Unit)).1)).2).1).length:Int)) (
  if (decide (h<=(ix (((ix i ((mget e f (b,(c,(d,()))) ((0,([],())):Int×Tp13×Unit)).1)).2).1) a)))=true then
  G (fits ((ix (((ix i ((mget e f (b,(c,(d,()))) ((0,([],())):Int×Tp13×Unit)).1)).2).1) a) - h)) (
  G (0<=a/\a < ((((mget e f (b,(c,(d,()))) ((0,([],())):Int×Tp13×Unit)).2).1).length:Int)) (
  (s ((ix (((ix i ((mget e f (b,(c,(d,()))) ((0,([],())):Int×Tp13×Unit)).1)).2).1) a) - h) t (ix (((mget e f (b,(c,(d,()))) ((0,([],())):Int×Tp13×Unit)).2).1) a) h j k l m n o p q).bind (fun g=>
  zaI b c d e f a r g.2.1 g.2.2.1 g.2.2.2.1 g.2.2.2.2.1 g.1 g.2.2.2.2.2.1 g.2.2.2.2.2.2.1 g.2.2.2.2.2.2.2.1 g.2.2.2.2.2.2.2.2))) else
  zaI b c d e f a r h j k l m n o p q) else
  some (m,h,j,k,l,n,o,p,q)
def zcO (b:Tf1) (c d e:Int) (f:Tp7) (g:Tp8) (h:Tp7):(Int×Int×Int×Int×Tp7×Tp13×Tp13×Tp8×Tp13×Tp8×Tp7->Option Tp2)->Int×Int×Int×Int×Tp7×Tp13×Tp13×Tp8×Tp13×Tp8×Tp7->Option Tp2:=
  fun rec a=>zaw b c d e f g h (fun i j k l m n o p q r s=>rec (i,j,k,l,m,n,o,p,q,r,s)) a.1 a.2.1 a.2.2.1 a.2.2.2.1 a.2.2.2.2.1 a.2.2.2.2.2.1 a.2.2.2.2.2.2.1 a.2.2.2.2.2.2.2.1 a.2.2.2.2.2.2.2.2.1 a.2.2.2.2.2.2.2.2.2.1 a.2.2.2.2.2.2.2.2.2.2
def zan (a:Tf1) (b c d:Int) (e:Tp7) (f:Tp8) (g:Tp7) (h i j k:Int) (l:Tp7) (m n:Tp13) (o:Tp8) (p:Tp13) (q:Tp8) (r:Tp7):Option Tp2:=LFix (zcO a b c d e f g ) (h,i,j,k,l,m,n,o,p,q,r)
def za6 (h:Tf1) (d a e i j:Int) (f:Tp7) (k g:Tp13) (l:Tp8) (m:Tp13) (b:Tp8) (c:Tp7):Option Tp2:=
  G (room g ([(mget b c (d,(a,(e,()))) ((0,([],())):Int×Tp13×Unit)).1]) 8) (
  G (0<=(mget b c (d,(a,(e,()))) ((0,([],())):Int×Tp13×Unit)).1/\(mget b c (d,(a,(e,()))) ((0,([],())):Int×Tp13×Unit)).1 < (f.length:Int)) (
  zan h d a e f b c a (0:Int) i j f k (g++([(mget b c (d,(a,(e,()))) ((0,([],())):Int×Tp13×Unit)).1])) l m b c))
theorem zfb (b:Nat->Tf4) (c:Tf4) (D:∀ s t u v w x y z A B C,ChO (fun a=>b a s t u v w x y z A B C) (c s t u v w x y z A B C)) (d e f g h i j k l m n o p q r):ChO (fun a=>zaI d e f g h i (b a) j k l m n o p q r) (zaI d e f g h i c j k l m n o p q r):=by
  unfold zaI
  repeat' with_reducible first|exact ChO.const _|exact D _ _ _ _ _ _ _ _ _ _ _|apply ChO.G
theorem zcg (m:Nat->Tf1) (n:Tf1) (o:∀ b c d e f g h i j k l J,ChO (fun a=>m a b c d e f g h i j k l J) (n b c d e f g h i j k l J)) (p:Nat->Tf4) (q:Tf4) (K:∀ b c d e f g h i j k l,ChO (fun a=>p a b c d e f g h i j k l) (q b c d e f g h i j k l)) (r s t u v w x y z A B C D E F H I):ChO (fun a=>zaw (m a) r s t u v w (p a) x y z A B C D E F H I) (zaw n r s t u v w q x y z A B C D E F H I):=by
  unfold zaw
  repeat' with_reducible first|exact ChO.const _|exact o _ _ _ _ _ _ _ _ _ _ _ _|exact K _ _ _ _ _ _ _ _ _ _ _|(apply zfb<;>assumption)|apply ChO.ite|apply ChO.G|(apply ChO.bind;intro _)|(apply ChO.bind2 (o _ _ _ _ _ _ _ _ _ _ _ _);intro _)
theorem zbK (b c d e f g h):Cn (zcO b c d e f g h):=fun u v i a=>zcg (fun _=>b) b (fun _ _ _ _ _ _ _ _ _ _ _ _=>ChO.const _) _ _ (fun j k l m n o p q r s t=>i (j,k,l,m,n,o,p,q,r,s,t)) c d e f g h a.1 a.2.1 a.2.2.1 a.2.2.2.1 a.2.2.2.2.1 a.2.2.2.2.2.1 a.2.2.2.2.2.2.1 a.2.2.2.2.2.2.2.1 a.2.2.2.2.2.2.2.2.1 a.2.2.2.2.2.2.2.2.2.1 a.2.2.2.2.2.2.2.2.2.2
theorem zcF (a b c d e f g h i j k l m n o p q r):zan a b c d e f g h i j k l m n o p q r=zaw a b c d e f g (zan a b c d e f g) h i j k l m n o p q r:=zbe (zbK a b c d e f g) (h,i,j,k,l,m,n,o,p,q,r)
theorem zfc (i:Nat->Tf1) (j:Tf1) (I:∀ k l m n o p q r s t u H,ChO (fun h=>i h k l m n o p q r s t u H) (j k l m n o p q r s t u H)) (b c d e f g v w x y z A B C D E F):ChO (fun h=>zan (i h) b c d e f g v w x y z A B C D E F) (zan j b c d e f g v w x y z A B C D E F):=by
  unfold zan
  exact zgn (fun h=>(zbK (i h) b c d e f g).mono) (zbK j b c d e f g).mono (fun K L J a=>zcg i j I _ _ (fun k l m n o p q r s t u=>J (k,l,m,n,o,p,q,r,s,t,u)) b c d e f g a.1 a.2.1 a.2.2.1 a.2.2.2.1 a.2.2.2.2.1 a.2.2.2.2.2.1 a.2.2.2.2.2.2.1 a.2.2.2.2.2.2.2.1 a.2.2.2.2.2.2.2.2.1 a.2.2.2.2.2.2.2.2.2.1 a.2.2.2.2.2.2.2.2.2.2) _
theorem zfL (b:Nat->Tf1) (c:Tf1) (B:∀ p q r s t u v w x y z A,ChO (fun a=>b a p q r s t u v w x y z A) (c p q r s t u v w x y z A)) (d e f g h i j k l m n o):ChO (fun a=>za6 (b a) d e f g h i j k l m n o) (za6 c d e f g h i j k l m n o):=by
  unfold za6
  repeat' with_reducible first|exact ChO.const _|exact B _ _ _ _ _ _ _ _ _ _ _ _|(apply zfc<;>assumption)|apply ChO.G
def zbF:(Int×Int×Int×Int×Int×Tp7×Tp13×Tp13×Tp8×Tp13×Tp8×Tp7->Option Tp2)->Int×Int×Int×Int×Int×Tp7×Tp13×Tp13×Tp8×Tp13×Tp8×Tp7->Option Tp2:=
  fun rec a=>za6 (fun b c d e f g h i j k l m=>rec (b,c,d,e,f,g,h,i,j,k,l,m)) a.1 a.2.1 a.2.2.1 a.2.2.2.1 a.2.2.2.2.1 a.2.2.2.2.2.1 a.2.2.2.2.2.2.1 a.2.2.2.2.2.2.2.1 a.2.2.2.2.2.2.2.2.1 a.2.2.2.2.2.2.2.2.2.1 a.2.2.2.2.2.2.2.2.2.2.1 a.2.2.2.2.2.2.2.2.2.2.2
def zax (a b c d e:Int) (f:Tp7) (g h:Tp13) (i:Tp8) (j:Tp13) (k:Tp8) (l:Tp7):Option Tp2:=LFix zbF (a,b,c,d,e,f,g,h,i,j,k,l)
theorem zgy:Cn zbF:=fun o p b a=>zfL _ _ (fun c d e f g h i j k l m n=>b (c,d,e,f,g,h,i,j,k,l,m,n)) a.1 a.2.1 a.2.2.1 a.2.2.2.1 a.2.2.2.2.1 a.2.2.2.2.2.1 a.2.2.2.2.2.2.1 a.2.2.2.2.2.2.2.1 a.2.2.2.2.2.2.2.2.1 a.2.2.2.2.2.2.2.2.2.1 a.2.2.2.2.2.2.2.2.2.2.1 a.2.2.2.2.2.2.2.2.2.2.2
theorem zgz (a b c d e f g h i j k l):zax a b c d e f g h i j k l=za6 zax a b c d e f g h i j k l:=zbe zgy (a,b,c,d,e,f,g,h,i,j,k,l)

def zd6 (b c d:Int) (e:Tp8) (f:Tp7) (a:Int) (g:(Int->Int->Int->Int->Tp7->Tp13->Tp13->Tp8->Tp13->Tp8->Tp7->Option Tp2)) (h i:Int) (j:Tp7) (k l:Tp13) (m:Tp8) (n:Tp13) (o:Tp8) (p:Tp7):Option Tp2:=
  G (0<=a/\a < ((((mget e f (b,(c,(d,()))) ((0,([],())):Int×Tp13×Unit)).2).1).length:Int)) (
  G (fits (a+(1:Int))) (
  g (ix (((mget e f (b,(c,(d,()))) ((0,([],())):Int×Tp13×Unit)).2).1) a) (a+(1:Int)) h i j k l m n o p))
def zgB (b c d:Int) (i:Tp7) (e:Tp8) (f:Tp7) (r:Tf4) (s a h j:Int) (k:Tp7) (l m:Tp13) (n:Tp8) (o:Tp13) (p:Tp8) (q:Tp7):Option Tp2:=
  if (decide (a < ((((ix i ((mget e f (b,(c,(d,()))) ((0,([],())):Int×Tp13×Unit)).1)).2).1).length:Int)))=true then
  G (0<=a/\a < ((((ix i ((mget e f (b,(c,(d,()))) ((0,([],())):Int×Tp13×Unit)).1)).2).1).length:Int)) (
  if (decide (h<=(ix (((ix i ((mget e f (b,(c,(d,()))) ((0,([],())):Int×Tp13×Unit)).1)).2).1) a)))=true then
  G (fits ((ix (((ix i ((mget e f (b,(c,(d,()))) ((0,([],())):Int×Tp13×Unit)).1)).2).1) a) - h)) (
  G (0<=a/\a < ((((mget e f (b,(c,(d,()))) ((0,([],())):Int×Tp13×Unit)).2).1).length:Int)) (
  (zax ((ix (((ix i ((mget e f (b,(c,(d,()))) ((0,([],())):Int×Tp13×Unit)).1)).2).1) a) - h) s (ix (((mget e f (b,(c,(d,()))) ((0,([],())):Int×Tp13×Unit)).2).1) a) h j k l m n o p q).bind (fun g=>
  zd6 b c d e f a r g.2.1 g.2.2.1 g.2.2.2.1 g.2.2.2.2.1 g.1 g.2.2.2.2.2.1 g.2.2.2.2.2.2.1 g.2.2.2.2.2.2.2.1 g.2.2.2.2.2.2.2.2))) else
  zd6 b c d e f a r h j k l m n o p q) else
  some (m,h,j,k,l,n,o,p,q)
def zgC (b c d:Int) (e:Tp7) (f:Tp8) (g:Tp7):(Int×Int×Int×Int×Tp7×Tp13×Tp13×Tp8×Tp13×Tp8×Tp7->Option Tp2)->Int×Int×Int×Int×Tp7×Tp13×Tp13×Tp8×Tp13×Tp8×Tp7->Option Tp2:=
  fun rec a=>zgB b c d e f g (fun h i j k l m n o p q r=>rec (h,i,j,k,l,m,n,o,p,q,r)) a.1 a.2.1 a.2.2.1 a.2.2.2.1 a.2.2.2.2.1 a.2.2.2.2.2.1 a.2.2.2.2.2.2.1 a.2.2.2.2.2.2.2.1 a.2.2.2.2.2.2.2.2.1 a.2.2.2.2.2.2.2.2.2.1 a.2.2.2.2.2.2.2.2.2.2
def zd7 (a b c:Int) (d:Tp7) (e:Tp8) (f:Tp7) (g h i j:Int) (k:Tp7) (l m:Tp13) (n:Tp8) (o:Tp13) (p:Tp8) (q:Tp7):Option Tp2:=LFix (zgC a b c d e f ) (g,h,i,j,k,l,m,n,o,p,q)
def zbZ (d a e g h:Int) (f:Tp7) (i:Tp13) (j:Tp8) (k:Tp13) (b:Tp8) (c:Tp7):Option Tp2:=
  G (room ([]:List Int) ([(mget b c (d,(a,(e,()))) ((0,([],())):Int×Tp13×Unit)).1]) 8) (
  G (0<=(mget b c (d,(a,(e,()))) ((0,([],())):Int×Tp13×Unit)).1/\(mget b c (d,(a,(e,()))) ((0,([],())):Int×Tp13×Unit)).1 < (f.length:Int)) (
  zd7 d a e f b c a (0:Int) g h f i ([(mget b c (d,(a,(e,()))) ((0,([],())):Int×Tp13×Unit)).1]) j k b c))
def zbl (c:Tp6) (d:Tp13):Option (Bool×Int×Tp13):=
  (zbk (c.1,(c.2.1,(c.2.2.1,())))).bind (fun e=>
  if (decide (¬ e=(0:Int)))=true then
  some (false,e,[]) else
  (zkE c.1 d).bind (fun f=>
  if (decide (¬ f=(0:Int)))=true then
  some (false,f,[]) else
  if (decide ((12:Int) < (d.length:Int)))=true then
  some (false,(1:Int),[]) else
  (zez (c.1,(c.2.1,(c.2.2.1,()))) d).bind (fun b=>
  (zbP (0:Int) (0:Int) (d.length:Int) b.1 b.2.1 b.2.2.1 b.2.2.2.1 b.2.2.2.2.1 b.2.2.2.2.2.1 b.2.2.2.2.2.2.1 b.2.2.2.2.2.2.2).bind (fun a=>
  if (decide (a.1=(1099511627776:Int)))=true then
  some (false,(0:Int),[]) else
  if (decide ((2000:Int) < a.1))=true then
  some (false,(7:Int),[]) else
  (zbZ (0:Int) (0:Int) (d.length:Int) a.2.1 a.2.2.1 a.2.2.2.1 a.2.2.2.2.1 a.2.2.2.2.2.1 a.2.2.2.2.2.2.1 a.2.2.2.2.2.2.2.1 a.2.2.2.2.2.2.2.2).bind (fun g=>
  some (true,(0:Int),g.1))))))

def zaO (g:Tf9) (h:Tp13) (f:Tf10) (a:Int) (d:Tp6) (c e:Tp13):Option Tp5:=
  if (decide (a < (h.length:Int)))=true then
  G (0<=a/\a < (c.length:Int)) (
  G ((a).toNat < c.length) (
  if (decide ((ix c a)=(0:Int)))=true then
  G (fits (a+(1:Int))) (
  f (a+(1:Int)) d c e) else
  G (0<=a/\a < (c.length:Int)) (
  G ((a).toNat < c.length) (
  G (fits ((ix c a) - (1:Int))) (
  G (0<=a/\a < (c.length:Int)) (
  G ((a).toNat < c.length) (
  G (room e ([a]) 8) (
  (g d d (c.set (a).toNat ((ix c a) - (1:Int))) (e++([a]))).bind (fun b=>
  if b.1=true then
  some (true,b.2.1,b.2.2.1,b.2.2.2) else
  G (fits ((b.2.2.1.length:Int) - (1:Int))) (
  G (0<=(b.2.2.1.length:Int) - (1:Int)/\(b.2.2.1.length:Int) - (1:Int)<=(b.2.2.1.length:Int)) (
  G (0<=a/\a < (b.2.1.length:Int)) (
  G ((a).toNat < b.2.1.length) (
  G (fits ((ix b.2.1 a)+(1:Int))) (
  G (0<=a/\a < (b.2.1.length:Int)) (
  G ((a).toNat < b.2.1.length) (
  G (fits (a+(1:Int))) (
  f (a+(1:Int)) b.2.2.2 (b.2.1.set (a).toNat ((ix b.2.1 a)+(1:Int))) (b.2.2.1.take ((b.2.2.1.length:Int) - (1:Int)).toNat)))))))))))))))))) else
  some (false,c,e,d)
def zeH (b:Tf9) (c:Tp13):(Int×Tp6×Tp13×Tp13->Option Tp5)->Int×Tp6×Tp13×Tp13->Option Tp5:=
  fun rec a=>zaO b c (fun d e f g=>rec (d,e,f,g)) a.1 a.2.1 a.2.2.1 a.2.2.2
def zaS (a:Tf9) (b:Tp13) (c:Int) (d:Tp6) (e f:Tp13):Option Tp5:=LFix (zeH a b ) (c,d,e,f)
def zbx (e:Tf9) (f c:Tp6) (a b:Tp13):Option Tp5:=
  (zb8 a).bind (fun g=>
  if (!g)=true then
  (zbl f b).bind (fun d=>
  if d.1=true then
  some (true,a,b,c) else
  some (decide (d.2.1=(7:Int)),a,b,c)) else
  zaS e a (0:Int) c a b)
theorem zdt (f:Nat->Tf9) (g:Tf9) (h:∀ b c d e,ChO (fun a=>f a b c d e) (g b c d e)) (i:Nat->Tf10) (j:Tf10) (p:∀ b c d e,ChO (fun a=>i a b c d e) (j b c d e)) (k l m n o):ChO (fun a=>zaO (f a) k (i a) l m n o) (zaO g k j l m n o):=by
  unfold zaO
  repeat' with_reducible first|exact ChO.const _|exact h _ _ _ _|exact p _ _ _ _|apply ChO.ite|apply ChO.G|(apply ChO.bind;intro _)|(apply ChO.bind2 (h _ _ _ _);intro _)
theorem zcA (b c):Cn (zeH b c):=fun i j d a=>zdt (fun _=>b) b (fun _ _ _ _=>ChO.const _) _ _ (fun e f g h=>d (e,f,g,h)) c a.1 a.2.1 a.2.2.1 a.2.2.2
theorem zcB (a b c d e f):zaS a b c d e f=zaO a b (zaS a b) c d e f:=zbe (zcA a b) (c,d,e,f)
theorem zie (c:Nat->Tf9) (d:Tf9) (n:∀ f g h i,ChO (fun b=>c b f g h i) (d f g h i)) (a j k l m):ChO (fun b=>zaS (c b) a j k l m) (zaS d a j k l m):=by
  unfold zaS
  exact zgn (fun b=>(zcA (c b) a).mono) (zcA d a).mono (fun p q o e=>zdt c d n _ _ (fun f g h i=>o (f,g,h,i)) a e.1 e.2.1 e.2.2.1 e.2.2.2) _
theorem ziY (b:Nat->Tf9) (c:Tf9) (d:∀ i j k l,ChO (fun a=>b a i j k l) (c i j k l)) (e f g h):ChO (fun a=>zbx (b a) e f g h) (zbx c e f g h):=by
  unfold zbx
  repeat' with_reducible first|exact ChO.const _|exact d _ _ _ _|(apply zie<;>assumption)|apply ChO.ite|(apply ChO.bind;intro _)|(apply ChO.bind2 (d _ _ _ _);intro _)
def zcU:(Tp6×Tp6×Tp13×Tp13->Option Tp5)->Tp6×Tp6×Tp13×Tp13->Option Tp5:=
  fun rec a=>zbx (fun b c d e=>rec (b,c,d,e)) a.1 a.2.1 a.2.2.1 a.2.2.2
def zbR (a b:Tp6) (c d:Tp13):Option Tp5:=LFix zcU (a,b,c,d)
theorem zkb:Cn zcU:=fun g h b a=>ziY _ _ (fun c d e f=>b (c,d,e,f)) a.1 a.2.1 a.2.2.1 a.2.2.2
theorem zf8 (a b c d):zbR a b c d=zbx zbR a b c d:=zbe zkb (a,b,c,d)

def zb6 (a:Tp6) (b:Tp13):Option (Bool×Int×Tp13):=
  (zbk (a.1,(a.2.1,(a.2.2.1,())))).bind (fun c=>
  if (decide (¬ c=(0:Int)))=true then
  some (false,c,[]) else
  (zdj a.1 b (6:Int)).bind (fun d=>
  if (decide (¬ d=(0:Int)))=true then
  some (false,d,[]) else
  (zeR b).bind (fun f=>
  (zbR (a.1,(a.2.1,(a.2.2.1,()))) (a.1,(a.2.1,(a.2.2.1,()))) f ([]:List Int)).bind (fun e=>
  if (!e.1)=true then
  some (false,(0:Int),[]) else
  some (true,(0:Int),e.2.2.1)))))

def zbh (a:Tp6) (c:Int) (d:(Int->Option (Int))) (e:Int->Option (Int)) (b:Int):Option (Int):=
  if (decide (b < ((((ix a.2.2.1 c).2).1).length:Int)))=true then
  G (0<=b/\b < ((((ix a.2.2.1 c).2).1).length:Int)) (
  if (decide ((ix (((ix a.2.2.1 c).2).1) b) < (0:Int)))=true then
  some (2:Int) else
  G (0<=b/\b < ((((ix a.2.2.1 c).2).1).length:Int)) (
  G (fits (a.1+a.2.1)) (
  if (decide ((a.1+a.2.1)<=(ix (((ix a.2.2.1 c).2).1) b)))=true then
  some (2:Int) else
  G (fits (b+(1:Int))) (
  e (b+(1:Int)))))) else
  G (fits (c+(1:Int))) (
  d (c+(1:Int)))
def zgX (a:Tp6) (b:Int) (c:(Int->Option (Int))):(Int->Option (Int))->Int->Option (Int):=
  fun rec d=>zbh a b c (fun e=>rec e) d
def zbu (a:Tp6) (b:Int) (c:(Int->Option (Int))) (d:Int):Option (Int):=LFix (zgX a b c ) d
def zbE (a:Tp6) (c:Int->Option (Int)) (b:Int):Option (Int):=
  if (decide (b < (a.2.2.1.length:Int)))=true then
  G (0<=b/\b < (a.2.2.1.length:Int)) (
  if (decide (((ix a.2.2.1 b).1) < (0:Int)))=true then
  some (2:Int) else
  if (decide (a.2.1<=((ix a.2.2.1 b).1)))=true then
  some (2:Int) else
  if (decide ((3:Int) < ((((ix a.2.2.1 b).2).1).length:Int)))=true then
  some (1:Int) else
  zbu a b c (0:Int)) else
  some (0:Int)
def zhR (a:Tp6):(Int->Option (Int))->Int->Option (Int):=
  fun rec b=>zbE a (fun c=>rec c) b
def zdv (a:Tp6) (b:Int):Option (Int):=LFix (zhR a ) b
def zi1 (a:Tp6):Option (Int):=
  if (decide (a.1 < (1:Int)))=true then
  some (2:Int) else
  if (decide ((4:Int) < a.1))=true then
  some (2:Int) else
  if (decide (a.2.1 < (1:Int)))=true then
  some (1:Int) else
  if (decide ((6:Int) < a.2.1))=true then
  some (1:Int) else
  if (decide ((20:Int) < (a.2.2.1.length:Int)))=true then
  some (1:Int) else
  zdv a (0:Int)
theorem zeM (c:Nat->Int->Option (Int)) (d:Int->Option (Int)) (j:∀ b,ChO (fun a=>c a b) (d b)) (e:Nat->Int->Option (Int)) (f:Int->Option (Int)) (k:∀ b,ChO (fun a=>e a b) (f b)) (g h i):ChO (fun a=>zbh g h (c a) (e a) i) (zbh g h d f i):=by
  unfold zbh
  repeat' with_reducible first|exact ChO.const _|exact j _|exact k _|apply ChO.ite|apply ChO.G
theorem zdG (a b c):Cn (zgX b c a):=fun g h d e=>zeM (fun _=>a) a (fun _=>ChO.const _) _ _ (fun f=>d f) b c e
theorem zdH (a b c d):zbu b c a d=zbh b c a (zbu b c a) d:=zbe (zdG a b c) d
theorem zkg (d:Nat->Int->Option (Int)) (e:Int->Option (Int)) (h:∀ g,ChO (fun c=>d c g) (e g)) (a b f):ChO (fun c=>zbu a b (d c) f) (zbu a b e f):=by
  unfold zbu
  exact zgn (fun c=>(zdG (d c) a b).mono) (zdG e a b).mono (fun l m i j=>zeM d e h _ _ (fun k=>i k) a b j) _
theorem zju (b:Nat->Int->Option (Int)) (c:Int->Option (Int)) (g:∀ f,ChO (fun a=>b a f) (c f)) (d e):ChO (fun a=>zbE d (b a) e) (zbE d c e):=by
  unfold zbE
  repeat' with_reducible first|exact ChO.const _|exact g _|(apply zkg<;>assumption)|apply ChO.ite|apply ChO.G
theorem zlp (a):Cn (zhR a):=fun e f b c=>zju  _ _ (fun d=>b d) a c
theorem zgY (a b):zdv a b=zbE a (zdv a) b:=zbe (zlp a) b

def zaR (b:Tp13) (d:Int) (e:Int->Int->Option (Int)) (c a:Int):Option (Int):=
  if (decide (a < (b.length:Int)))=true then
  G (0<=a/\a < (b.length:Int)) (
  if (decide ((ix b a) < (0:Int)))=true then
  some (2:Int) else
  G (0<=a/\a < (b.length:Int)) (
  if (decide ((6:Int) < (ix b a)))=true then
  some (2:Int) else
  G (0<=a/\a < (b.length:Int)) (
  G (fits (c+(ix b a))) (
  G (fits (a+(1:Int))) (
  e (c+(ix b a)) (a+(1:Int))))))) else
  if (decide (d < c))=true then
  some (1:Int) else
  some (0:Int)
def zgZ (b:Tp13) (c:Int):(Int×Int->Option (Int))->Int×Int->Option (Int):=
  fun rec a=>zaR b c (fun d e=>rec (d,e)) a.1 a.2
def zbT (a:Tp13) (b c d:Int):Option (Int):=LFix (zgZ a b ) (c,d)
def zhu (b:Int) (a:Tp13) (c:Int):Option (Int):=
  if (decide (¬ (a.length:Int)=b))=true then
  some (3:Int) else
  zbT a c (0:Int) (0:Int)
theorem zi6 (b:Nat->Int->Int->Option (Int)) (c:Int->Int->Option (Int)) (j:∀ h i,ChO (fun a=>b a h i) (c h i)) (d e f g):ChO (fun a=>zaR d e (b a) f g) (zaR d e c f g):=by
  unfold zaR
  repeat' with_reducible first|exact ChO.const _|exact j _ _|apply ChO.ite|apply ChO.G
theorem zkj (a b):Cn (zgZ a b):=fun g h d c=>zi6  _ _ (fun e f=>d (e,f)) a b c.1 c.2
theorem zga (a b c d):zbT a b c d=zaR a b (zbT a b) c d:=zbe (zkj a b) (c,d)

def zaU (b c:Tp13) (d:Int->Option (Bool)) (a:Int):Option (Bool):=
  if (decide (a < (b.length:Int)))=true then
  G (0<=a/\a < (c.length:Int)) (
  G ((a).toNat < c.length) (
  G (0<=a/\a < (b.length:Int)) (
  if (decide (¬ (ix c a)=(ix b a)))=true then
  some false else
  G (fits (a+(1:Int))) (
  d (a+(1:Int)))))) else
  some true
def zgc (a b:Tp13):(Int->Option (Bool))->Int->Option (Bool):=
  fun rec c=>zaU a b (fun d=>rec d) c
def zb0 (a b:Tp13) (c:Int):Option (Bool):=LFix (zgc a b ) c
def zbp (b d:Tp13) (e:Int->Tp13->Option (Bool)) (a:Int) (c:Tp13):Option (Bool):=
  if (decide (a < (b.length:Int)))=true then
  G (0<=a/\a < (b.length:Int)) (
  if (decide ((ix b a) < (0:Int)))=true then
  some false else
  G (0<=a/\a < (b.length:Int)) (
  if (decide ((d.length:Int)<=(ix b a)))=true then
  some false else
  G (0<=a/\a < (b.length:Int)) (
  G (0<=ix b a/\ix b a < (c.length:Int)) (
  G ((ix b a).toNat < c.length) (
  G (fits ((ix c (ix b a))+(1:Int))) (
  G (0<=ix b a/\ix b a < (c.length:Int)) (
  G ((ix b a).toNat < c.length) (
  G (fits (a+(1:Int))) (
  e (a+(1:Int)) (c.set (ix b a).toNat ((ix c (ix b a))+(1:Int)))))))))))) else
  zb0 d c (0:Int)
def zgb (b c:Tp13):(Int×Tp13->Option (Bool))->Int×Tp13->Option (Bool):=
  fun rec a=>zbp b c (fun d e=>rec (d,e)) a.1 a.2
def zdk (a b:Tp13) (c:Int) (d:Tp13):Option (Bool):=LFix (zgb a b ) (c,d)
def zfV (b a:Tp13):Option (Bool):=
  G (mkOK (a.length:Int) (a.length:Int) 8) (
  zdk b a (0:Int) (List.replicate ((a.length:Int)).toNat (0:Int)))
theorem zih (b:Nat->Int->Option (Bool)) (c:Int->Option (Bool)) (h:∀ g,ChO (fun a=>b a g) (c g)) (d e f):ChO (fun a=>zaU d e (b a) f) (zaU d e c f):=by
  unfold zaU
  repeat' with_reducible first|exact ChO.const _|exact h _|apply ChO.ite|apply ChO.G
theorem zjx (a b):Cn (zgc a b):=fun f g c d=>zih  _ _ (fun e=>c e) a b d
theorem zfv (a b c):zb0 a b c=zaU a b (zb0 a b) c:=zbe (zjx a b) c
theorem zig (b:Nat->Int->Tp13->Option (Bool)) (c:Int->Tp13->Option (Bool)) (j:∀ h i,ChO (fun a=>b a h i) (c h i)) (d e f g):ChO (fun a=>zbp d e (b a) f g) (zbp d e c f g):=by
  unfold zbp
  repeat' with_reducible first|exact ChO.const _|exact j _ _|apply ChO.ite|apply ChO.G
theorem zjw (a b):Cn (zgb a b):=fun g h d c=>zig  _ _ (fun e f=>d (e,f)) a b c.1 c.2
theorem zfu (a b c d):zdk a b c d=zbp a b (zdk a b) c d:=zbe (zjw a b) (c,d)

def zaZ (e a:Int) (b:(Int->Int->Option (Int))) (c d:Int) (f:Bool):Option (Int):=
  if f=true then
  G (fits (c+d)) (
  G (fits (a+(1:Int))) (
  b (c+d) (a+(1:Int)))) else
  G (fits (a+(1:Int))) (
  b e (a+(1:Int)))
def zaY (g:Tf8) (h:Tp4) (a:Tp13) (i e b:Int) (f:(Int->Int->Option (Int))) (c:Int):Option (Int):=
  if (decide (c < (1099511627776:Int)))=true then
  G (0<=(1:Int)/\(1:Int)<=(a.length:Int)/\(a.length:Int)<=(a.length:Int)) (
  (g h (cut a (1:Int) (a.length:Int)) b i).bind (fun d=>
  if (decide (d < (1099511627776:Int)))=true then
  G (fits (c+d)) (
  zaZ e b f c d (decide ((c+d) < e))) else
  zaZ e b f c d false)) else
  G (fits (b+(1:Int))) (
  f e (b+(1:Int)))
def zbb (a:Tf8) (b:Tp4) (c:Tp13) (d e f:Int) (g:(Int->Int->Option (Int))) (h:Bool):Option (Int):=
  if h=true then
  zaY a b c d e f g (0:Int) else
  zaY a b c d e f g (1099511627776:Int)
def za4 (g:Tf8) (a:Tp4) (b:Tp13) (c e:Int) (h:Int->Int->Option (Int)) (f d:Int):Option (Int):=
  if (decide (d<=e))=true then
  G (0<=(0:Int)/\(0:Int) < (b.length:Int)) (
  if (decide ((ix b (0:Int)) < a.1.1))=true then
  G (fits (c+(1:Int))) (
  if (decide (d=(c+(1:Int))))=true then
  G (0<=c/\c < (a.2.1.length:Int)) (
  G (0<=(0:Int)/\(0:Int) < (b.length:Int)) (
  zbb g a b e f d h (decide ((ix a.2.1 c)=(ix b (0:Int)))))) else
  zbb g a b e f d h false) else
  G (0<=(0:Int)/\(0:Int) < (b.length:Int)) (
  G (fits ((ix b (0:Int)) - a.1.1)) (
  G (0<=(ix b (0:Int)) - a.1.1/\(ix b (0:Int)) - a.1.1 < (a.2.2.1.length:Int)) (
  G (0<=c/\c < ((ix a.2.2.1 ((ix b (0:Int)) - a.1.1)).length:Int)) (
  G (0<=d/\d < ((ix (ix a.2.2.1 ((ix b (0:Int)) - a.1.1)) c).length:Int)) (
  zaY g a b e f d h (ix (ix (ix a.2.2.1 ((ix b (0:Int)) - a.1.1)) c) d))))))) else
  some f
def zeL (b:Tf8) (c:Tp4) (d:Tp13) (e f:Int):(Int×Int->Option (Int))->Int×Int->Option (Int):=
  fun rec a=>za4 b c d e f (fun g h=>rec (g,h)) a.1 a.2
def zaT (a:Tf8) (b:Tp4) (c:Tp13) (d e f g:Int):Option (Int):=LFix (zeL a b c d e ) (f,g)
def zby (d:Tf8) (e:Tp4) (b:Tp13) (a c:Int):Option (Int):=
  if (decide ((b.length:Int)=(0:Int)))=true then
  if (decide (a=c))=true then
  some (0:Int) else
  some (1099511627776:Int) else
  zaT d e b a c (1099511627776:Int) a
theorem zhG (b:Nat->Int->Int->Option (Int)) (c:Int->Int->Option (Int)) (k:∀ i j,ChO (fun a=>b a i j) (c i j)) (d e f g h):ChO (fun a=>zaZ d e (b a) f g h) (zaZ d e c f g h):=by
  unfold zaZ
  repeat' with_reducible first|exact ChO.const _|exact k _ _|apply ChO.ite|apply ChO.G
theorem zdR (d:Nat->Tf8) (e:Tf8) (f:∀ b c o p,ChO (fun a=>d a b c o p) (e b c o p)) (g:Nat->Int->Int->Option (Int)) (h:Int->Int->Option (Int)) (q:∀ b c,ChO (fun a=>g a b c) (h b c)) (i j k l m n):ChO (fun a=>zaY (d a) i j k l m (g a) n) (zaY e i j k l m h n):=by
  unfold zaY
  repeat' with_reducible first|exact ChO.const _|exact f _ _ _ _|exact q _ _|(apply zhG<;>assumption)|apply ChO.ite|apply ChO.G|(apply ChO.bind;intro _)|(apply ChO.bind2 (f _ _ _ _);intro _)
theorem zhF (d:Nat->Tf8) (e:Tf8) (p:∀ b c n o,ChO (fun a=>d a b c n o) (e b c n o)) (f:Nat->Int->Int->Option (Int)) (g:Int->Int->Option (Int)) (q:∀ b c,ChO (fun a=>f a b c) (g b c)) (h i j k l m):ChO (fun a=>zbb (d a) h i j k l (f a) m) (zbb e h i j k l g m):=by
  unfold zbb
  repeat' with_reducible first|exact ChO.const _|exact p _ _ _ _|exact q _ _|(apply zdR<;>assumption)|apply ChO.ite
theorem zdu (d:Nat->Tf8) (e:Tf8) (p:∀ b c n o,ChO (fun a=>d a b c n o) (e b c n o)) (f:Nat->Int->Int->Option (Int)) (g:Int->Int->Option (Int)) (q:∀ b c,ChO (fun a=>f a b c) (g b c)) (h i j k l m):ChO (fun a=>za4 (d a) h i j k (f a) l m) (za4 e h i j k g l m):=by
  unfold za4
  repeat' with_reducible first|exact ChO.const _|exact p _ _ _ _|exact q _ _|(apply zdR<;>assumption)|(apply zhF<;>assumption)|apply ChO.ite|apply ChO.G
theorem zcC (a b c d e):Cn (zeL a b c d e):=fun j k g f=>zdu (fun _=>a) a (fun _ _ _ _=>ChO.const _) _ _ (fun h i=>g (h,i)) b c d e f.1 f.2
theorem zei (a b c d e f g):zaT a b c d e f g=za4 a b c d e (zaT a b c d e) f g:=zbe (zcC a b c d e) (f,g)
theorem zif (f:Nat->Tf8) (g:Tf8) (o:∀ h i m n,ChO (fun e=>f e h i m n) (g h i m n)) (a b c d j k):ChO (fun e=>zaT (f e) a b c d j k) (zaT g a b c d j k):=by
  unfold zaT
  exact zgn (fun e=>(zcC (f e) a b c d).mono) (zcC g a b c d).mono (fun q r p l=>zdu f g o _ _ (fun h i=>p (h,i)) a b c d l.1 l.2) _
theorem zi0 (b:Nat->Tf8) (c:Tf8) (l:∀ h i j k,ChO (fun a=>b a h i j k) (c h i j k)) (d e f g):ChO (fun a=>zby (b a) d e f g) (zby c d e f g):=by
  unfold zby
  repeat' with_reducible first|exact ChO.const _|exact l _ _ _ _|(apply zif<;>assumption)|apply ChO.ite
def zcV:(Tp4×Tp13×Int×Int->Option (Int))->Tp4×Tp13×Int×Int->Option (Int):=
  fun rec a=>zby (fun b c d e=>rec (b,c,d,e)) a.1 a.2.1 a.2.2.1 a.2.2.2
def zbt (a:Tp4) (b:Tp13) (c d:Int):Option (Int):=LFix zcV (a,b,c,d)
theorem zke:Cn zcV:=fun g h b a=>zi0 _ _ (fun c d e f=>b (c,d,e,f)) a.1 a.2.1 a.2.2.1 a.2.2.2
theorem zf9 (a b c d):zbt a b c d=zby zbt a b c d:=zbe zke (a,b,c,d)

abbrev Mk17:=Int×Tp13×Unit
abbrev Gr17:=Int×Int×(List Mk17)×Unit
abbrev C17:=List Tp12
def zg2 (a:C17) (b c d:Nat) (e:Int):C17:=a.set b ((a.getD b []).set c (((a.getD b []).getD c []).set d e))
def zpq (f:Gr17) (g:List Int) (c d:Nat) (e:Mk17) (h:Bool) (a:C17):Option (Bool×C17):=
  (zbt (f,g,a,()) e.2.1 c d).bind fun b=>G (fits (b+1)) (some (if b < 1099511627775/\b+1 < ix (ix (ix a e.1) c) d then (true,zg2 a e.1.toNat c d (b+1)) else (h,a)))
def zgN (a:Gr17) (c:List Int) (d e:Nat):List Mk17->Bool->C17->Option (Bool×C17)
  | [],b,C=>some (b,C)
  | m::l,b,C=>(zpq a c d e m b C).bind fun f=>zgN a c d e l f.1 f.2
def is17 (a:Gr17) (c:List Int) (d:Nat):Nat->Nat->Bool->C17->Option (Bool×C17)
  | 0,_,b,C=>some (b,C)
  | k+1,i,b,C=>(zgN a c i (i+d) a.2.2.1 b C).bind fun e=>is17 a c d k (i+1) e.1 e.2
def zcM (d:Gr17) (a:List Int) (b:Nat):Nat->C17->Option C17
  | 0,_=>none
  | f+1,C=>(is17 d a b (a.length+1 - b) 0 false C).bind fun c=>if c.1 then zcM d a b f c.2 else some c.2
def zfY (a:Gr17) (b:List Int) (c:Nat):Nat->Nat->C17->Option C17
  | 0,_,C=>some C
  | k+1,s,C=>(zcM a b s c C).bind fun d=>zfY a b c k (s+1) d
def m17:Nat:=1000000000000000000
def zeN (a:Gr17) (b:List Int):Option Int:=
  G (b.length<=12/\0 < a.2.1/\a.2.1<=6/\a.2.2.1.length<=20/\∀ m∈a.2.2.1,0<=m.1/\m.1 < a.2.1)
    ((zfY a b m17 (b.length+1) 0 (List.replicate a.2.1.toNat (List.replicate (b.length+1) (List.replicate (b.length+1) 1099511627776)))).bind fun c=>some (ix (ix (ix c 0) 0) b.length))


def zbS (b c:Tp13) (d:Int->Option (Bool)) (a:Int):Option (Bool):=
  if (decide (a < (b.length:Int)))=true then
  G (0<=a/\a < (b.length:Int)) (
  G (0<=a/\a < (c.length:Int)) (
  if (decide (¬ (ix b a)=(ix c a)))=true then
  some false else
  G (fits (a+(1:Int))) (
  d (a+(1:Int))))) else
  some true
def zi5 (a b:Tp13):(Int->Option (Bool))->Int->Option (Bool):=
  fun rec c=>zbS a b (fun d=>rec d) c
def zfU (a b:Tp13) (c:Int):Option (Bool):=LFix (zi5 a b ) c
def zkB (a b:Tp13):Option (Bool):=
  if (decide (¬ (a.length:Int)=(b.length:Int)))=true then
  some false else
  zfU a b (0:Int)
theorem zkh (b:Nat->Int->Option (Bool)) (c:Int->Option (Bool)) (h:∀ g,ChO (fun a=>b a g) (c g)) (d e f):ChO (fun a=>zbS d e (b a) f) (zbS d e c f):=by
  unfold zbS
  repeat' with_reducible first|exact ChO.const _|exact h _|apply ChO.ite|apply ChO.G
theorem zlP (a b):Cn (zi5 a b):=fun e f c d=>zkh  _ _ (fun a=>c a) a b d
theorem zhS (a b c):zfU a b c=zbS a b (zfU a b) c:=zbe (zlP a b) c

def zb7 (c:Int) (d:Int->Tp13->Option Tp13) (a:Int) (b:Tp13):Option Tp13:=
  if (decide ((0:Int)<=a))=true then
  G (0<=a/\a < (b.length:Int)) (
  G ((a).toNat < b.length) (
  G (fits (c - (1:Int))) (
  if (decide ((ix b a) < (c - (1:Int))))=true then
  G (0<=a/\a < (b.length:Int)) (
  G ((a).toNat < b.length) (
  G (fits ((ix b a)+(1:Int))) (
  G (0<=a/\a < (b.length:Int)) (
  G ((a).toNat < b.length) (
  some (b.set (a).toNat ((ix b a)+(1:Int)))))))) else
  G (0<=a/\a < (b.length:Int)) (
  G ((a).toNat < b.length) (
  G (fits (a - (1:Int))) (
  d (a - (1:Int)) (b.set (a).toNat (0:Int)))))))) else
  G (room b ([(0:Int)]) 8) (
  some (b++([(0:Int)])))
def zjV (b:Int):(Int×Tp13->Option Tp13)->Int×Tp13->Option Tp13:=
  fun rec a=>zb7 b (fun c d=>rec (c,d)) a.1 a.2
def zht (a b:Int) (c:Tp13):Option Tp13:=LFix (zjV a ) (b,c)
def zjv (b:Int) (a:Tp13):Option Tp13:=
  G (room ([]:List Int) a 8) (
  G (fits (((([]:List Int)++a).length:Int) - (1:Int))) (
  zht b (((([]:List Int)++a).length:Int) - (1:Int)) (([]:List Int)++a)))
theorem zlr (b:Nat->Int->Tp13->Option Tp13) (c:Int->Tp13->Option Tp13) (i:∀ g h,ChO (fun a=>b a g h) (c g h)) (d e f):ChO (fun a=>zb7 d (b a) e f) (zb7 d c e f):=by
  unfold zb7
  repeat' with_reducible first|exact ChO.const _|exact i _ _|apply ChO.ite|apply ChO.G
theorem zng (a):Cn (zjV a):=fun f g c b=>zlr  _ _ (fun d e=>c (d,e)) a b.1 b.2
theorem zi4 (a b c):zht a b c=zb7 a (zht a) b c:=zbe (zng a) (b,c)

def zaB (b:Tp6) (g:Tp13) (c:Bool) (d:Int) (e:Tp13) (h:Int) (f:Tp13->Option (Bool)) (a:Tp13):Option (Bool):=
  if (decide ((a.length:Int)=h))=true then
  (zfV a g).bind (fun i=>
  if i=true then
  (zeN (b.1,(b.2.1,(b.2.2.1,()))) a).bind (fun j=>
  if (decide (j < (1099511627776:Int)))=true then
  (zkB e a).bind (fun k=>
  if (decide (d=(0:Int)))=true then
  if c=true then
  some k else
  some false else
  some false) else
  (zjv b.1 a).bind (fun l=>
  f l)) else
  (zjv b.1 a).bind (fun m=>
  f m)) else
  if (decide (d=(0:Int)))=true then
  if (!c)=true then
  some (decide ((e.length:Int)=(0:Int))) else
  some false else
  some false
def zdO (a:Tp6) (b:Tp13) (c:Bool) (d:Int) (e:Tp13) (f:Int):(List Int->Option (Bool))->List Int->Option (Bool):=
  fun rec g=>zaB a b c d e f (fun h=>rec h) g
def zaq (a:Tp6) (b:Tp13) (c:Bool) (d:Int) (e:Tp13) (f:Int) (g:Tp13):Option (Bool):=LFix (zdO a b c d e f ) g
def zaW (d:Tp6) (c:Tp13) (e:Bool) (f:Int) (g:Tp13) (h:Int->Int->Option (Bool)) (b a:Int):Option (Bool):=
  if (decide (a < (c.length:Int)))=true then
  G (0<=a/\a < (c.length:Int)) (
  G (fits (b+(ix c a))) (
  G (fits (a+(1:Int))) (
  h (b+(ix c a)) (a+(1:Int))))) else
  G (mkOK b b 8) (
  zaq d c e f g b (List.replicate (b).toNat (0:Int)))
def zec (b:Tp6) (c:Tp13) (d:Bool) (e:Int) (f:Tp13):(Int×Int->Option (Bool))->Int×Int->Option (Bool):=
  fun rec a=>zaW b c d e f (fun g h=>rec (g,h)) a.1 a.2
def zcc (a:Tp6) (b:Tp13) (c:Bool) (d:Int) (e:Tp13) (f g:Int):Option (Bool):=LFix (zec a b c d e ) (f,g)
def zbL (e:Tp6) (f:Tp13) (a:Bool) (b:Int) (c:Tp13) (d:Int):Option (Bool):=
  if (decide (¬ d=(0:Int)))=true then
  if (decide (b=d))=true then
  if (!a)=true then
  some (decide ((c.length:Int)=(0:Int))) else
  some false else
  some false else
  zcc e f a b c (0:Int) (0:Int)
def zeZ (a:Tp6) (c:Tp13):Option (Bool):=
  (zb6 (a.1,(a.2.1,(a.2.2.1,()))) c).bind (fun b=>
  (zi1 (a.1,(a.2.1,(a.2.2.1,())))).bind (fun d=>
  if (decide (d=(0:Int)))=true then
  (zhu a.1 c (6:Int)).bind (fun e=>
  zbL a c b.1 b.2.1 b.2.2 e) else
  zbL a c b.1 b.2.1 b.2.2 d))
theorem zfO (b:Nat->Tp13->Option (Bool)) (c:Tp13->Option (Bool)) (l:∀ k,ChO (fun a=>b a k) (c k)) (d e f g h i j):ChO (fun a=>zaB d e f g h i (b a) j) (zaB d e f g h i c j):=by
  unfold zaB
  repeat' with_reducible first|exact ChO.const _|exact l _|apply ChO.ite|(apply ChO.bind;intro _)
theorem zgL (a b c d e f):Cn (zdO a b c d e f):=fun j k g h=>zfO  _ _ (fun i=>g i) a b c d e f h
theorem zb4 (a b c d e f g):zaq a b c d e f g=zaB a b c d e f (zaq a b c d e f) g:=zbe (zgL a b c d e f) g
theorem zgi (b:Nat->Int->Int->Option (Bool)) (c:Int->Int->Option (Bool)) (m:∀ k l,ChO (fun a=>b a k l) (c k l)) (d e f g h i j):ChO (fun a=>zaW d e f g h (b a) i j) (zaW d e f g h c i j):=by
  unfold zaW
  repeat' with_reducible first|exact ChO.const _|exact m _ _|apply ChO.ite|apply ChO.G
theorem zhC (a b c d e):Cn (zec a b c d e):=fun j k g f=>zgi  _ _ (fun h i=>g (h,i)) a b c d e f.1 f.2
theorem zdP (a b c d e f g):zcc a b c d e f g=zaW a b c d e (zcc a b c d e) f g:=zbe (zhC a b c d e) (f,g)

end
end Go.Proofs.Ytmogekkikaelhaa.parikhToldW
