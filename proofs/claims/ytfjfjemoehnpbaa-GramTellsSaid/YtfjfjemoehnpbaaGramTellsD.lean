import Derived.Test.YtfjfjemoehnpbaaEv40n21
set_option maxHeartbeats 1000000
set_option maxRecDepth 20000
set_option linter.unusedVariables false
namespace Go.Proofs.Ytfjfjemoehnpbaa.gramTellsW
open Go Go.Ab
noncomputable section
abbrev Tp12:=(List Int)
abbrev Tp11:=(List Tp12)
abbrev Tp10:=(List Tp11)
abbrev Tp9:=(Int×Int×Int×Unit)
abbrev Tp8:=(Int×Tp12×Unit)
abbrev Tp7:=(List Tp9)
abbrev Tp6:=(List Tp8)
abbrev Tp5:=(Int×Int×Tp6×Unit)
abbrev Tp4:=(Tp5×Tp12×Tp10×Unit)
abbrev Tp3:=(Int×Int×Tp6×Tp12×Tp7×Tp12×Tp7×Tp6)
abbrev Tp2:=(Tp12×Int×Int×Tp6×Tp12×Tp7×Tp12×Tp7×Tp6)
abbrev Tp1:=(Int×Tp12×Int×Int×Tp6×Tp12×Tp7×Tp12×Tp7×Tp6)
abbrev Tf1:=Int->Int->Int->Int->Int->Tp6->Tp12->Tp12->Tp7->Tp12->Tp7->Tp6->Option Tp2
abbrev Tf2:=Tp12->Int->Int->Int->Int->Tp6->Tp12->Tp7->Tp12->Tp7->Tp6->Option Tp1
abbrev Tf3:=Int->Int->Int->Int->Tp6->Tp12->Tp7->Tp12->Tp7->Tp6->Tp12->Option Tp1
abbrev Tf4:=Int->Int->Int->Int->Tp6->Tp12->Tp12->Tp7->Tp12->Tp7->Tp6->Option Tp2
abbrev Tf5:=Bool->Int->Int->Int->Tp6->Tp12->Tp7->Tp12->Tp7->Tp6->Option Tp3
abbrev Tf6:=Bool->Int->Int->Tp6->Tp12->Tp7->Tp12->Tp7->Tp6->Option Tp3
abbrev Tf7:=Int->Int->Int->Tp6->Tp12->Tp7->Tp12->Tp7->Tp6->Option Tp3
abbrev Tf8:=Tp4->Tp12->Int->Int->Option (Int)
abbrev Tf9:=Int->Int->Tp12->Option (Bool)
def zdX (b:Int) (a:Tp5):Option (Bool):=
  if (decide (b < (0:Int)))=true then
  some true else
  G (fits (a.1+a.2.1)) (
  some (decide ((a.1+a.2.1)<=b)))

def za7 (b:Tp12) (c:Tp5) (d:Int->Option (Int)) (a:Int):Option (Int):=
  if (decide (a < (b.length:Int)))=true then
  G (0<=a/\a < (b.length:Int)) (
  (zdX (ix b a) c).bind (fun e=>
  if e=true then
  some a else
  G (fits (a+(1:Int))) (
  d (a+(1:Int))))) else
  some (-1:Int)
def zc4 (a:Tp12) (b:Tp5):(Int->Option (Int))->Int->Option (Int):=
  fun rec c=>za7 a b (fun d=>rec d) c
def zcj (a:Tp12) (b:Tp5) (c:Int):Option (Int):=LFix (zc4 a b ) c
def zfk (a:Tp12) (b:Tp5):Option (Int):=
  zcj a b (0:Int)
theorem zeN (b:Nat->Int->Option (Int)) (c:Int->Option (Int)) (h:∀ g,ChO (fun a=>b a g) (c g)) (d e f):ChO (fun a=>za7 d e (b a) f) (za7 d e c f):=by
  unfold za7
  repeat' with_reducible first|exact ChO.const _|exact h _|apply ChO.ite|apply ChO.G|(apply ChO.bind;intro _)
theorem zfn (a b):Cn (zc4 a b):=fun f g c d=>zeN  _ _ (fun e=>c e) a b d
theorem zfo (a b c):zcj a b c=za7 a b (zcj a b) c:=zbD (zfn a b) c

def zci (a:Tp12) (b:Tp5):Option (Bool):=
  (zfk a b).bind (fun c=>
  some (decide ((0:Int)<=c)))

def zbk (a:Tp5) (c:Int->Option (Int)) (b:Int):Option (Int):=
  if (decide (b < (a.2.2.1.length:Int)))=true then
  G (0<=b/\b < (a.2.2.1.length:Int)) (
  if (decide (((ix a.2.2.1 b).1) < (0:Int)))=true then
  some (2:Int) else
  if (decide (a.2.1<=((ix a.2.2.1 b).1)))=true then
  some (2:Int) else
  if (decide ((3:Int) < ((((ix a.2.2.1 b).2).1).length:Int)))=true then
  some (1:Int) else
  (zci (((ix a.2.2.1 b).2).1) (a.1,(a.2.1,(a.2.2.1,())))).bind (fun d=>
  if d=true then
  some (2:Int) else
  G (fits (b+(1:Int))) (
  c (b+(1:Int))))) else
  some (0:Int)
def zfA (a:Tp5):(Int->Option (Int))->Int->Option (Int):=
  fun rec b=>zbk a (fun c=>rec c) b
def zdq (a:Tp5) (b:Int):Option (Int):=LFix (zfA a ) b
def zbN (a:Tp5):Option (Int):=
  if (decide (a.1 < (1:Int)))=true then
  some (2:Int) else
  if (decide ((4:Int) < a.1))=true then
  some (2:Int) else
  if (decide (a.2.1 < (1:Int)))=true then
  some (1:Int) else
  if (decide ((6:Int) < a.2.1))=true then
  some (1:Int) else
  if (decide ((20:Int) < (a.2.2.1.length:Int)))=true then
  some (1:Int) else
  zdq a (0:Int)
theorem zhs (b:Nat->Int->Option (Int)) (c:Int->Option (Int)) (g:∀ f,ChO (fun a=>b a f) (c f)) (d e):ChO (fun a=>zbk d (b a) e) (zbk d c e):=by
  unfold zbk
  repeat' with_reducible first|exact ChO.const _|exact g _|apply ChO.ite|apply ChO.G|(apply ChO.bind;intro _)
theorem ziS (a):Cn (zfA a):=fun e f b c=>zhs  _ _ (fun d=>b d) a c
theorem zfe (a b):zdq a b=zbk a (zdq a) b:=zbD (ziS a) b

def za6 (a:Tp5) (c:Int) (d:(Int->Option (Int))) (e:Int->Option (Int)) (b:Int):Option (Int):=
  if (decide (b < ((((ix a.2.2.1 c).2).1).length:Int)))=true then
  G (0<=b/\b < ((((ix a.2.2.1 c).2).1).length:Int)) (
  if (decide ((ix (((ix a.2.2.1 c).2).1) b) < (0:Int)))=true then
  some (2:Int) else
  G (0<=b/\b < ((((ix a.2.2.1 c).2).1).length:Int)) (
  G (fits (a.1+a.2.1)) (
  if (decide ((a.1+a.2.1)<=(ix (((ix a.2.2.1 c).2).1) b)))=true then
  some (2:Int) else
  G (fits (b+(1:Int))) (
  e (b+(1:Int)))))) else
  G (fits (c+(1:Int))) (
  d (c+(1:Int)))
def zfX (a:Tp5) (b:Int) (c:(Int->Option (Int))):(Int->Option (Int))->Int->Option (Int):=
  fun rec d=>za6 a b c (fun e=>rec e) d
def zbg (a:Tp5) (b:Int) (c:(Int->Option (Int))) (d:Int):Option (Int):=LFix (zfX a b c ) d
def zbs (a:Tp5) (c:Int->Option (Int)) (b:Int):Option (Int):=
  if (decide (b < (a.2.2.1.length:Int)))=true then
  G (0<=b/\b < (a.2.2.1.length:Int)) (
  if (decide (((ix a.2.2.1 b).1) < (0:Int)))=true then
  some (2:Int) else
  if (decide (a.2.1<=((ix a.2.2.1 b).1)))=true then
  some (2:Int) else
  if (decide ((3:Int) < ((((ix a.2.2.1 b).2).1).length:Int)))=true then
  some (1:Int) else
  zbg a b c (0:Int)) else
  some (0:Int)
def zgI (a:Tp5):(Int->Option (Int))->Int->Option (Int):=
  fun rec b=>zbs a (fun c=>rec c) b
def zc1 (a:Tp5) (b:Int):Option (Int):=LFix (zgI a ) b
def zhL (a:Tp5):Option (Int):=
  if (decide (a.1 < (1:Int)))=true then
  some (2:Int) else
  if (decide ((4:Int) < a.1))=true then
  some (2:Int) else
  if (decide (a.2.1 < (1:Int)))=true then
  some (1:Int) else
  if (decide ((6:Int) < a.2.1))=true then
  some (1:Int) else
  if (decide ((20:Int) < (a.2.2.1.length:Int)))=true then
  some (1:Int) else
  zc1 a (0:Int)
theorem zd7 (c:Nat->Int->Option (Int)) (d:Int->Option (Int)) (j:∀ b,ChO (fun a=>c a b) (d b)) (e:Nat->Int->Option (Int)) (f:Int->Option (Int)) (k:∀ b,ChO (fun a=>e a b) (f b)) (g h i):ChO (fun a=>za6 g h (c a) (e a) i) (za6 g h d f i):=by
  unfold za6
  repeat' with_reducible first|exact ChO.const _|exact j _|exact k _|apply ChO.ite|apply ChO.G
theorem zde (a b c):Cn (zfX b c a):=fun g h d e=>zd7 (fun _=>a) a (fun _=>ChO.const _) _ _ (fun f=>d f) b c e
theorem zdf (a b c d):zbg b c a d=za6 b c a (zbg b c a) d:=zbD (zde a b c) d
theorem ziX (d:Nat->Int->Option (Int)) (e:Int->Option (Int)) (h:∀ g,ChO (fun c=>d c g) (e g)) (a b f):ChO (fun c=>zbg a b (d c) f) (zbg a b e f):=by
  unfold zbg
  exact zfp (fun c=>(zde (d c) a b).mono) (zde e a b).mono (fun l m i j=>zd7 d e h _ _ (fun k=>i k) a b j) _
theorem zid (b:Nat->Int->Option (Int)) (c:Int->Option (Int)) (g:∀ f,ChO (fun a=>b a f) (c f)) (d e):ChO (fun a=>zbs d (b a) e) (zbs d c e):=by
  unfold zbs
  repeat' with_reducible first|exact ChO.const _|exact g _|(apply ziX<;>assumption)|apply ChO.ite|apply ChO.G
theorem zj4 (a):Cn (zgI a):=fun e f b c=>zid  _ _ (fun d=>b d) a c
theorem zfY (a b):zc1 a b=zbs a (zc1 a) b:=zbD (zj4 a) b

def zbI (c:Int) (b:Tp12) (d:Int->Option (Int)) (a:Int):Option (Int):=
  if (decide (a < (b.length:Int)))=true then
  G (0<=a/\a < (b.length:Int)) (
  if (decide ((ix b a) < (0:Int)))=true then
  some (2:Int) else
  if (decide (c<=(ix b a)))=true then
  some (2:Int) else
  G (fits (a+(1:Int))) (
  d (a+(1:Int)))) else
  some (0:Int)
def zhU (a:Int) (b:Tp12):(Int->Option (Int))->Int->Option (Int):=
  fun rec c=>zbI a b (fun d=>rec d) c
def ze9 (a:Int) (b:Tp12) (c:Int):Option (Int):=LFix (zhU a b ) c
def zjl (a:Int) (b:Tp12):Option (Int):=
  if (decide (a < (1:Int)))=true then
  some (2:Int) else
  if (decide ((4:Int) < a))=true then
  some (2:Int) else
  if (decide ((60:Int) < (b.length:Int)))=true then
  some (1:Int) else
  ze9 a b (0:Int)
theorem zi0 (b:Nat->Int->Option (Int)) (c:Int->Option (Int)) (h:∀ g,ChO (fun a=>b a g) (c g)) (d e f):ChO (fun a=>zbI d e (b a) f) (zbI d e c f):=by
  unfold zbI
  repeat' with_reducible first|exact ChO.const _|exact h _|apply ChO.ite|apply ChO.G
theorem zky (a b):Cn (zhU a b):=fun f g c d=>zi0  _ _ (fun e=>c e) a b d
theorem zgO (a b c):ze9 a b c=zbI a b (ze9 a b) c:=zbD (zky a b) c

def zbE (c d e f g:Int) (h:Tp6) (i:Tp12) (a:Tp7) (b:Tp12) (j:Tp7) (k:Tp6):Option (Int×Int×Int×Tp6×Tp12×Tp7×Tp12×Tp7×Tp6):=
  if (mhas a (c,(d,(e,()))))=true then
  some (mget a b (c,(d,(e,()))) (0:Int),f,g,h,i,a,b,j,k) else
  some ((1099511627776:Int),f,g,h,i,a,b,j,k)

def zaH (p:Tf2) (c:Tp12) (q e b:Int) (g:Tp12) (f:(Int->Int->Int->Int->Tp6->Tp12->Tp7->Tp12->Tp7->Tp6->Tp12->Option Tp1)) (d h i:Int) (j:Tp6) (k:Tp12) (l:Tp7) (m:Tp12) (n:Tp7) (o:Tp6):Option Tp1:=
  if (decide (d=(1099511627776:Int)))=true then
  G (fits (b+(1:Int))) (
  f e (b+(1:Int)) h i j k l m n o g) else
  G (0<=(1:Int)/\(1:Int)<=(c.length:Int)/\(c.length:Int)<=(c.length:Int)) (
  (p (cut c (1:Int) (c.length:Int)) b q h i j k l m n o).bind (fun a=>
  G (fits (d+a.1)) (
  if (decide ((d+a.1) < e))=true then
  G (fits (d+a.1)) (
  G (room ([b]) a.2.1 8) (
  G (fits (b+(1:Int))) (
  f (d+a.1) (b+(1:Int)) a.2.2.1 a.2.2.2.1 a.2.2.2.2.1 a.2.2.2.2.2.1 a.2.2.2.2.2.2.1 a.2.2.2.2.2.2.2.1 a.2.2.2.2.2.2.2.2.1 a.2.2.2.2.2.2.2.2.2 (([b])++a.2.1)))) else
  G (fits (b+(1:Int))) (
  f e (b+(1:Int)) a.2.2.1 a.2.2.2.1 a.2.2.2.2.1 a.2.2.2.2.2.1 a.2.2.2.2.2.2.1 a.2.2.2.2.2.2.2.1 a.2.2.2.2.2.2.2.2.1 a.2.2.2.2.2.2.2.2.2 g))))
def zaS (a:Tf2) (b:Tp12) (c d e f g:Int) (h:Tp6) (i:Tp12) (j:Tp7) (k:Tp12) (l:Tp7) (m:Tp6) (n:Tp12) (o:(Int->Int->Int->Int->Tp6->Tp12->Tp7->Tp12->Tp7->Tp6->Tp12->Option Tp1)) (p:Bool):Option Tp1:=
  if p=true then
  zaH a b c d e n o (0:Int) f g h i j k l m else
  zaH a b c d e n o (1099511627776:Int) f g h i j k l m
def zaN (p:Tf2) (b:Tp12) (d g:Int) (q:Tf3) (h e c i:Int) (j:Tp6) (f:Tp12) (k:Tp7) (l:Tp12) (m:Tp7) (n:Tp6) (o:Tp12):Option Tp1:=
  if (decide (e<=g))=true then
  if (decide (c<=(ix b (0:Int))))=true then
  G (fits ((ix b (0:Int)) - c)) (
  (zbE ((ix b (0:Int)) - c) d e c i j f k l m n).bind (fun a=>
  zaH p b g h e o q a.1 a.2.1 a.2.2.1 a.2.2.2.1 a.2.2.2.2.1 a.2.2.2.2.2.1 a.2.2.2.2.2.2.1 a.2.2.2.2.2.2.2.1 a.2.2.2.2.2.2.2.2)) else
  G (fits (d+(1:Int))) (
  if (decide (e=(d+(1:Int))))=true then
  G (0<=d/\d < (f.length:Int)) (
  zaS p b g h e c i j f k l m n o q (decide ((ix f d)=(ix b (0:Int))))) else
  zaS p b g h e c i j f k l m n o q false) else
  some (h,o,c,i,j,f,k,l,m,n)
def zdE (b:Tf2) (c:Tp12) (d e:Int):(Int×Int×Int×Int×Tp6×Tp12×Tp7×Tp12×Tp7×Tp6×Tp12->Option Tp1)->Int×Int×Int×Int×Tp6×Tp12×Tp7×Tp12×Tp7×Tp6×Tp12->Option Tp1:=
  fun rec a=>zaN b c d e (fun f g h i j k l m n o p=>rec (f,g,h,i,j,k,l,m,n,o,p)) a.1 a.2.1 a.2.2.1 a.2.2.2.1 a.2.2.2.2.1 a.2.2.2.2.2.1 a.2.2.2.2.2.2.1 a.2.2.2.2.2.2.2.1 a.2.2.2.2.2.2.2.2.1 a.2.2.2.2.2.2.2.2.2.1 a.2.2.2.2.2.2.2.2.2.2
def zaO (a:Tf2) (b:Tp12) (c d e f g h:Int) (i:Tp6) (j:Tp12) (k:Tp7) (l:Tp12) (m:Tp7) (n:Tp6) (o:Tp12):Option Tp1:=LFix (zdE a b c d ) (e,f,g,h,i,j,k,l,m,n,o)
def zba (l:Tf2) (a:Tp12) (b k c d:Int) (e:Tp6) (f:Tp12) (g:Tp7) (h:Tp12) (i:Tp7) (j:Tp6):Option Tp1:=
  if (decide ((a.length:Int)=(0:Int)))=true then
  if (decide (b=k))=true then
  some ((0:Int),[],c,d,e,f,g,h,i,j) else
  some ((1099511627776:Int),[],c,d,e,f,g,h,i,j) else
  G (0<=(0:Int)/\(0:Int) < (a.length:Int)) (
  zaO l a b k (1099511627776:Int) b c d e f g h i j ([]))
theorem zcY (m:Nat->Tf2) (n:Tf2) (o:∀ b c d e f g h i j k l,ChO (fun a=>m a b c d e f g h i j k l) (n b c d e f g h i j k l)) (p:Nat->Tf3) (q:Tf3) (F:∀ b c d e f g h i j k l,ChO (fun a=>p a b c d e f g h i j k l) (q b c d e f g h i j k l)) (r s t u v w x y z A B C D E):ChO (fun a=>zaH (m a) r s t u v (p a) w x y z A B C D E) (zaH n r s t u v q w x y z A B C D E):=by
  unfold zaH
  repeat' with_reducible first|exact ChO.const _|exact o _ _ _ _ _ _ _ _ _ _ _|exact F _ _ _ _ _ _ _ _ _ _ _|apply ChO.ite|apply ChO.G|(apply ChO.bind;intro _)|(apply ChO.bind2 (o _ _ _ _ _ _ _ _ _ _ _);intro _)
theorem zfG (m:Nat->Tf2) (n:Tf2) (E:∀ b c d e f g h i j k l,ChO (fun a=>m a b c d e f g h i j k l) (n b c d e f g h i j k l)) (o:Nat->Tf3) (p:Tf3) (F:∀ b c d e f g h i j k l,ChO (fun a=>o a b c d e f g h i j k l) (p b c d e f g h i j k l)) (q r s t u v w x y z A B C D):ChO (fun a=>zaS (m a) q r s t u v w x y z A B C (o a) D) (zaS n q r s t u v w x y z A B C p D):=by
  unfold zaS
  repeat' with_reducible first|exact ChO.const _|exact E _ _ _ _ _ _ _ _ _ _ _|exact F _ _ _ _ _ _ _ _ _ _ _|(apply zcY<;>assumption)|apply ChO.ite
theorem zcH (m:Nat->Tf2) (n:Tf2) (o:∀ b c d e f g h i j k l,ChO (fun a=>m a b c d e f g h i j k l) (n b c d e f g h i j k l)) (p:Nat->Tf3) (q:Tf3) (F:∀ b c d e f g h i j k l,ChO (fun a=>p a b c d e f g h i j k l) (q b c d e f g h i j k l)) (r s t u v w x y z A B C D E):ChO (fun a=>zaN (m a) r s t (p a) u v w x y z A B C D E) (zaN n r s t q u v w x y z A B C D E):=by
  unfold zaN
  repeat' with_reducible first|exact ChO.const _|exact o _ _ _ _ _ _ _ _ _ _ _|exact F _ _ _ _ _ _ _ _ _ _ _|(apply zcY<;>assumption)|(apply zfG<;>assumption)|apply ChO.ite|apply ChO.G|(apply ChO.bind;intro _)|(apply ChO.bind2 (o _ _ _ _ _ _ _ _ _ _ _);intro _)
theorem zb0 (b c d e):Cn (zdE b c d e):=fun r s f a=>zcH (fun _=>b) b (fun _ _ _ _ _ _ _ _ _ _ _=>ChO.const _) _ _ (fun g h i j k l m n o p q=>f (g,h,i,j,k,l,m,n,o,p,q)) c d e a.1 a.2.1 a.2.2.1 a.2.2.2.1 a.2.2.2.2.1 a.2.2.2.2.2.1 a.2.2.2.2.2.2.1 a.2.2.2.2.2.2.2.1 a.2.2.2.2.2.2.2.2.1 a.2.2.2.2.2.2.2.2.2.1 a.2.2.2.2.2.2.2.2.2.2
theorem zdj (a b c d e f g h i j k l m n o):zaO a b c d e f g h i j k l m n o=zaN a b c d (zaO a b c d) e f g h i j k l m n o:=zbD (zb0 a b c d) (e,f,g,h,i,j,k,l,m,n,o)
theorem zgw (f:Nat->Tf2) (g:Tf2) (D:∀ h i j k l m n o p q r,ChO (fun e=>f e h i j k l m n o p q r) (g h i j k l m n o p q r)) (b c d s t u v w x y z A B C):ChO (fun e=>zaO (f e) b c d s t u v w x y z A B C) (zaO g b c d s t u v w x y z A B C):=by
  unfold zaO
  exact zfp (fun e=>(zb0 (f e) b c d).mono) (zb0 g b c d).mono (fun F H E a=>zcH f g D _ _ (fun h i j k l m n o p q r=>E (h,i,j,k,l,m,n,o,p,q,r)) b c d a.1 a.2.1 a.2.2.1 a.2.2.2.1 a.2.2.2.2.1 a.2.2.2.2.2.1 a.2.2.2.2.2.2.1 a.2.2.2.2.2.2.2.1 a.2.2.2.2.2.2.2.2.1 a.2.2.2.2.2.2.2.2.2.1 a.2.2.2.2.2.2.2.2.2.2) _
theorem zgW (b:Nat->Tf2) (c:Tf2) (z:∀ o p q r s t u v w x y,ChO (fun a=>b a o p q r s t u v w x y) (c o p q r s t u v w x y)) (d e f g h i j k l m n):ChO (fun a=>zba (b a) d e f g h i j k l m n) (zba c d e f g h i j k l m n):=by
  unfold zba
  repeat' with_reducible first|exact ChO.const _|exact z _ _ _ _ _ _ _ _ _ _ _|(apply zgw<;>assumption)|apply ChO.ite|apply ChO.G
def zcc:(Tp12×Int×Int×Int×Int×Tp6×Tp12×Tp7×Tp12×Tp7×Tp6->Option Tp1)->Tp12×Int×Int×Int×Int×Tp6×Tp12×Tp7×Tp12×Tp7×Tp6->Option Tp1:=
  fun rec a=>zba (fun b c d e f g h i j k l=>rec (b,c,d,e,f,g,h,i,j,k,l)) a.1 a.2.1 a.2.2.1 a.2.2.2.1 a.2.2.2.2.1 a.2.2.2.2.2.1 a.2.2.2.2.2.2.1 a.2.2.2.2.2.2.2.1 a.2.2.2.2.2.2.2.2.1 a.2.2.2.2.2.2.2.2.2.1 a.2.2.2.2.2.2.2.2.2.2
def zbh (a:Tp12) (b c d e:Int) (f:Tp6) (g:Tp12) (h:Tp7) (i:Tp12) (j:Tp7) (k:Tp6):Option Tp1:=LFix zcc (a,b,c,d,e,f,g,h,i,j,k)
theorem zh9:Cn zcc:=fun n o b a=>zgW _ _ (fun c d e f g h i j k l m=>b (c,d,e,f,g,h,i,j,k,l,m)) a.1 a.2.1 a.2.2.1 a.2.2.2.1 a.2.2.2.2.1 a.2.2.2.2.2.1 a.2.2.2.2.2.2.1 a.2.2.2.2.2.2.2.1 a.2.2.2.2.2.2.2.2.1 a.2.2.2.2.2.2.2.2.2.1 a.2.2.2.2.2.2.2.2.2.2
theorem zev (a b c d e f g h i j k):zbh a b c d e f g h i j k=zba zbh a b c d e f g h i j k:=zbD zh9 (a,b,c,d,e,f,g,h,i,j,k)

def zbb (a:Int) (b:(Bool->Int->Int->Int->Tp6->Tp12->Tp7->Tp12->Tp7->Tp6->Option Tp3)) (c d:Int) (e:Tp6) (f:Tp12) (g:Tp7) (h:Tp12) (i:Tp7) (j:Tp6):Option Tp3:=
  G (fits (a+(1:Int))) (
  b true (a+(1:Int)) c d e f g h i j)
def zaW (c:Tp5) (d a:Int) (p:Bool) (b:Int) (i:(Bool->Int->Int->Int->Tp6->Tp12->Tp7->Tp12->Tp7->Tp6->Option Tp3)) (j:Int) (o:Tp12) (q:Bool) (k l:Int) (m:Tp6) (n:Tp12) (e:Tp7) (g:Tp12) (f:Tp7) (h:Tp6):Option Tp3:=
  if q=true then
  G (fits (j+(1:Int))) (
  both [(.int .i64),(.int .i64),(.list (.pair (.int .i64) (.pair (.list (.int .i64)) .unit))),(.list (.int .i64)),(.list (.pair (.int .i64) (.pair (.int .i64) (.pair (.int .i64) .unit)))),(.list (.int .i64)),(.list (.pair (.int .i64) (.pair (.int .i64) (.pair (.int .i64) .unit)))),(.list (.pair (.int .i64) (.pair (.list (.int .i64)) .unit)))] (
  G (0<=mpos e ((ix c.2.2.1 b).1,(a,(a+d,())))/\mpos e ((ix c.2.2.1 b).1,(a,(a+d,()))) < ((zdS e g ((ix c.2.2.1 b).1,(a,(a+d,()))) (0:Int)).length:Int)) (
  G (0<=mpos f ((ix c.2.2.1 b).1,(a,(a+d,())))/\mpos f ((ix c.2.2.1 b).1,(a,(a+d,()))) < ((zdS f h ((ix c.2.2.1 b).1,(a,(a+d,()))) ((0,([],())):Int×Tp12×Unit)).length:Int)) (
  zbb b i k l m n (zb1 e ((ix c.2.2.1 b).1,(a,(a+d,())))) ((zdS e g ((ix c.2.2.1 b).1,(a,(a+d,()))) (0:Int)).set (mpos e ((ix c.2.2.1 b).1,(a,(a+d,())))).toNat (imin (j+(1:Int)) (1099511627775:Int))) (zb1 f ((ix c.2.2.1 b).1,(a,(a+d,())))) ((zdS f h ((ix c.2.2.1 b).1,(a,(a+d,()))) ((0,([],())):Int×Tp12×Unit)).set (mpos f ((ix c.2.2.1 b).1,(a,(a+d,())))).toNat (b,(o,())))))) (
  G (0<=mpos e ((ix c.2.2.1 b).1,(a,(a+d,())))/\mpos e ((ix c.2.2.1 b).1,(a,(a+d,()))) < ((zdS e g ((ix c.2.2.1 b).1,(a,(a+d,()))) (0:Int)).length:Int)) (
  G (0<=mpos f ((ix c.2.2.1 b).1,(a,(a+d,())))/\mpos f ((ix c.2.2.1 b).1,(a,(a+d,()))) < ((zdS f h ((ix c.2.2.1 b).1,(a,(a+d,()))) ((0,([],())):Int×Tp12×Unit)).length:Int)) (
  zbb b i k l m n (zb1 e ((ix c.2.2.1 b).1,(a,(a+d,())))) ((zdS e g ((ix c.2.2.1 b).1,(a,(a+d,()))) (0:Int)).set (mpos e ((ix c.2.2.1 b).1,(a,(a+d,())))).toNat (imin (j+(1:Int)) (1099511627775:Int))) (zb1 f ((ix c.2.2.1 b).1,(a,(a+d,())))) ((zdS f h ((ix c.2.2.1 b).1,(a,(a+d,()))) ((0,([],())):Int×Tp12×Unit)).set (mpos f ((ix c.2.2.1 b).1,(a,(a+d,())))).toNat (b,(o,()))))))) else
  G (fits (b+(1:Int))) (
  i p (b+(1:Int)) k l m n e g f h)
def zaI (f:Tp5) (d b:Int) (q:(Bool->Int->Int->Int->Tp6->Tp12->Tp7->Tp12->Tp7->Tp6->Option Tp3)) (h:Tf5) (g:Bool) (e i j:Int) (k:Tp6) (l:Tp12) (m:Tp7) (n:Tp12) (o:Tp7) (p:Tp6):Option Tp3:=
  if (decide (e < (f.2.2.1.length:Int)))=true then
  G (0<=e/\e < (f.2.2.1.length:Int)) (
  G (fits (b+d)) (
  (zbh (((ix f.2.2.1 e).2).1) b (b+d) i j k l m n o p).bind (fun a=>
  G (fits (b+d)) (
  if (decide (a.1 < (1099511627776:Int)))=true then
  G (fits (a.1+(1:Int))) (
  G (fits (b+d)) (
  (zbE ((ix f.2.2.1 e).1) b (b+d) a.2.2.1 a.2.2.2.1 a.2.2.2.2.1 a.2.2.2.2.2.1 a.2.2.2.2.2.2.1 a.2.2.2.2.2.2.2.1 a.2.2.2.2.2.2.2.2.1 a.2.2.2.2.2.2.2.2.2).bind (fun c=>
  zaW f d b g e h a.1 a.2.1 (decide ((a.1+(1:Int)) < c.1)) c.2.1 c.2.2.1 c.2.2.2.1 c.2.2.2.2.1 c.2.2.2.2.2.1 c.2.2.2.2.2.2.1 c.2.2.2.2.2.2.2.1 c.2.2.2.2.2.2.2.2))) else
  zaW f d b g e h a.1 a.2.1 false a.2.2.1 a.2.2.2.1 a.2.2.2.2.1 a.2.2.2.2.2.1 a.2.2.2.2.2.2.1 a.2.2.2.2.2.2.2.1 a.2.2.2.2.2.2.2.2.1 a.2.2.2.2.2.2.2.2.2)))) else
  G (fits (b+(1:Int))) (
  q g (b+(1:Int)) i j k l m n o p)
def zd1 (b:Tp5) (c d:Int) (e:(Bool->Int->Int->Int->Tp6->Tp12->Tp7->Tp12->Tp7->Tp6->Option Tp3)):(Bool×Int×Int×Int×Tp6×Tp12×Tp7×Tp12×Tp7×Tp6->Option Tp3)->Bool×Int×Int×Int×Tp6×Tp12×Tp7×Tp12×Tp7×Tp6->Option Tp3:=
  fun rec a=>zaI b c d e (fun f g h i j k l m n o=>rec (f,g,h,i,j,k,l,m,n,o)) a.1 a.2.1 a.2.2.1 a.2.2.2.1 a.2.2.2.2.1 a.2.2.2.2.2.1 a.2.2.2.2.2.2.1 a.2.2.2.2.2.2.2.1 a.2.2.2.2.2.2.2.2.1 a.2.2.2.2.2.2.2.2.2
def zav (a:Tp5) (b c:Int) (d:(Bool->Int->Int->Int->Tp6->Tp12->Tp7->Tp12->Tp7->Tp6->Option Tp3)) (e:Bool) (f g h:Int) (i:Tp6) (j:Tp12) (k:Tp7) (l:Tp12) (m:Tp7) (n:Tp6):Option Tp3:=LFix (zd1 a b c d ) (e,f,g,h,i,j,k,l,m,n)
def za0 (l:Tp5) (m:Tp12) (a:Int) (n:(Bool->Int->Int->Tp6->Tp12->Tp7->Tp12->Tp7->Tp6->Option Tp3)) (o:Tf5) (c:Bool) (b d e:Int) (f:Tp6) (g:Tp12) (h:Tp7) (i:Tp12) (j:Tp7) (k:Tp6):Option Tp3:=
  G (fits (b+a)) (
  if (decide ((b+a)<=(m.length:Int)))=true then
  zav l a b o c (0:Int) d e f g h i j k else
  n c d e f g h i j k)
def zey (b:Tp5) (c:Tp12) (d:Int) (e:(Bool->Int->Int->Tp6->Tp12->Tp7->Tp12->Tp7->Tp6->Option Tp3)):(Bool×Int×Int×Int×Tp6×Tp12×Tp7×Tp12×Tp7×Tp6->Option Tp3)->Bool×Int×Int×Int×Tp6×Tp12×Tp7×Tp12×Tp7×Tp6->Option Tp3:=
  fun rec a=>za0 b c d e (fun f g h i j k l m n o=>rec (f,g,h,i,j,k,l,m,n,o)) a.1 a.2.1 a.2.2.1 a.2.2.2.1 a.2.2.2.2.1 a.2.2.2.2.2.1 a.2.2.2.2.2.2.1 a.2.2.2.2.2.2.2.1 a.2.2.2.2.2.2.2.2.1 a.2.2.2.2.2.2.2.2.2
def za4 (a:Tp5) (b:Tp12) (c:Int) (d:(Bool->Int->Int->Tp6->Tp12->Tp7->Tp12->Tp7->Tp6->Option Tp3)) (e:Bool) (f g h:Int) (i:Tp6) (j:Tp12) (k:Tp7) (l:Tp12) (m:Tp7) (n:Tp6):Option Tp3:=LFix (zey a b c d ) (e,f,g,h,i,j,k,l,m,n)
def zaC (j:Tp5) (k:Tp12) (a:Int) (l:(Int->Int->Int->Tp6->Tp12->Tp7->Tp12->Tp7->Tp6->Option Tp3)) (m:Tf6) (n:Bool) (b c:Int) (d:Tp6) (e:Tp12) (f:Tp7) (g:Tp12) (h:Tp7) (i:Tp6):Option Tp3:=
  if n=true then
  za4 j k a m false (0:Int) b c d e f g h i else
  G (fits (a+(1:Int))) (
  l (a+(1:Int)) b c d e f g h i)
def zex (b:Tp5) (c:Tp12) (d:Int) (e:(Int->Int->Int->Tp6->Tp12->Tp7->Tp12->Tp7->Tp6->Option Tp3)):(Bool×Int×Int×Tp6×Tp12×Tp7×Tp12×Tp7×Tp6->Option Tp3)->Bool×Int×Int×Tp6×Tp12×Tp7×Tp12×Tp7×Tp6->Option Tp3:=
  fun rec a=>zaC b c d e (fun f g h i j k l m n=>rec (f,g,h,i,j,k,l,m,n)) a.1 a.2.1 a.2.2.1 a.2.2.2.1 a.2.2.2.2.1 a.2.2.2.2.2.1 a.2.2.2.2.2.2.1 a.2.2.2.2.2.2.2.1 a.2.2.2.2.2.2.2.2
def zaT (a:Tp5) (b:Tp12) (c:Int) (d:(Int->Int->Int->Tp6->Tp12->Tp7->Tp12->Tp7->Tp6->Option Tp3)) (e:Bool) (f g:Int) (h:Tp6) (i:Tp12) (j:Tp7) (k:Tp12) (l:Tp7) (m:Tp6):Option Tp3:=LFix (zex a b c d ) (e,f,g,h,i,j,k,l,m)
def zaZ (k:Tp5) (a:Tp12) (l:Tf7) (b c d:Int) (e:Tp6) (f:Tp12) (g:Tp7) (h:Tp12) (i:Tp7) (j:Tp6):Option Tp3:=
  if (decide (b<=(a.length:Int)))=true then
  zaT k a b l true c d e f g h i j else
  some (c,d,e,f,g,h,i,j)
def zew (b:Tp5) (c:Tp12):(Int×Int×Int×Tp6×Tp12×Tp7×Tp12×Tp7×Tp6->Option Tp3)->Int×Int×Int×Tp6×Tp12×Tp7×Tp12×Tp7×Tp6->Option Tp3:=
  fun rec a=>zaZ b c (fun d e f g h i j k l=>rec (d,e,f,g,h,i,j,k,l)) a.1 a.2.1 a.2.2.1 a.2.2.2.1 a.2.2.2.2.1 a.2.2.2.2.2.1 a.2.2.2.2.2.2.1 a.2.2.2.2.2.2.2.1 a.2.2.2.2.2.2.2.2
def zbQ (a:Tp5) (b:Tp12) (c d e:Int) (f:Tp6) (g:Tp12) (h:Tp7) (i:Tp12) (j:Tp7) (k:Tp6):Option Tp3:=LFix (zew a b ) (c,d,e,f,g,h,i,j,k)
def zd0 (a:Tp5) (b:Tp12):Option Tp3:=
  zbQ a b (0:Int) a.1 a.2.1 a.2.2.1 b ([]:List Tp9) ([]:List Int) ([]:List Tp9) ([]:List Tp8)
theorem zgY (b:Nat->Tf5) (c:Tf5) (w:∀ m n o p q r s t u v,ChO (fun a=>b a m n o p q r s t u v) (c m n o p q r s t u v)) (d e f g h i j k l):ChO (fun a=>zbb d (b a) e f g h i j k l) (zbb d c e f g h i j k l):=by
  unfold zbb
  repeat' with_reducible first|exact ChO.const _|exact w _ _ _ _ _ _ _ _ _ _|apply ChO.G
theorem zgX (b:Nat->Tf5) (c:Tf5) (D:∀ t u v w x y z A B C,ChO (fun a=>b a t u v w x y z A B C) (c t u v w x y z A B C)) (d e f g h i j k l m n o p q r s):ChO (fun a=>zaW d e f g h (b a) i j k l m n o p q r s) (zaW d e f g h c i j k l m n o p q r s):=by
  unfold zaW
  repeat' with_reducible first|exact ChO.const _|exact D _ _ _ _ _ _ _ _ _ _|(apply zgY<;>assumption)|apply ChO.ite|apply ChO.G|apply ChO.both
theorem zcZ (l:Nat->Tf5) (m:Tf5) (C:∀ b c d e f g h i j k,ChO (fun a=>l a b c d e f g h i j k) (m b c d e f g h i j k)) (n:Nat->Tf5) (o:Tf5) (D:∀ b c d e f g h i j k,ChO (fun a=>n a b c d e f g h i j k) (o b c d e f g h i j k)) (p q r s t u v w x y z A B):ChO (fun a=>zaI p q r (l a) (n a) s t u v w x y z A B) (zaI p q r m o s t u v w x y z A B):=by
  unfold zaI
  repeat' with_reducible first|exact ChO.const _|exact C _ _ _ _ _ _ _ _ _ _|exact D _ _ _ _ _ _ _ _ _ _|(apply zgX<;>assumption)|apply ChO.ite|apply ChO.G|(apply ChO.bind;intro _)
theorem zce (b c d e):Cn (zd1 c d e b):=fun q r f a=>zcZ (fun _=>b) b (fun _ _ _ _ _ _ _ _ _ _=>ChO.const _) _ _ (fun g h i j k l m n o p=>f (g,h,i,j,k,l,m,n,o,p)) c d e a.1 a.2.1 a.2.2.1 a.2.2.2.1 a.2.2.2.2.1 a.2.2.2.2.2.1 a.2.2.2.2.2.2.1 a.2.2.2.2.2.2.2.1 a.2.2.2.2.2.2.2.2.1 a.2.2.2.2.2.2.2.2.2
theorem zdF (a b c d e f g h i j k l m n):zav b c d a e f g h i j k l m n=zaI b c d a (zav b c d a) e f g h i j k l m n:=zbD (zce a b c d) (e,f,g,h,i,j,k,l,m,n)
theorem zgZ (f:Nat->Tf5) (g:Tf5) (B:∀ h i j k l m n o p q,ChO (fun e=>f e h i j k l m n o p q) (g h i j k l m n o p q)) (b c d r s t u v w x y z A):ChO (fun e=>zav b c d (f e) r s t u v w x y z A) (zav b c d g r s t u v w x y z A):=by
  unfold zav
  exact zfp (fun e=>(zce (f e) b c d).mono) (zce g b c d).mono (fun D E C a=>zcZ f g B _ _ (fun h i j k l m n o p q=>C (h,i,j,k,l,m,n,o,p,q)) b c d a.1 a.2.1 a.2.2.1 a.2.2.2.1 a.2.2.2.2.1 a.2.2.2.2.2.1 a.2.2.2.2.2.2.1 a.2.2.2.2.2.2.2.1 a.2.2.2.2.2.2.2.2.1 a.2.2.2.2.2.2.2.2.2) _
theorem zdl (k:Nat->Tf6) (l:Tf6) (C:∀ b c d e f g h i j,ChO (fun a=>k a b c d e f g h i j) (l b c d e f g h i j)) (m:Nat->Tf5) (n:Tf5) (D:∀ b c d e f g h i j B,ChO (fun a=>m a b c d e f g h i j B) (n b c d e f g h i j B)) (o p q r s t u v w x y z A):ChO (fun a=>za0 o p q (k a) (m a) r s t u v w x y z A) (za0 o p q l n r s t u v w x y z A):=by
  unfold za0
  repeat' with_reducible first|exact ChO.const _|exact C _ _ _ _ _ _ _ _ _|exact D _ _ _ _ _ _ _ _ _ _|(apply zgZ<;>assumption)|apply ChO.ite|apply ChO.G
theorem zcv (b c d e):Cn (zey c d e b):=fun q r f a=>zdl (fun _=>b) b (fun _ _ _ _ _ _ _ _ _=>ChO.const _) _ _ (fun g h i j k l m n o p=>f (g,h,i,j,k,l,m,n,o,p)) c d e a.1 a.2.1 a.2.2.1 a.2.2.2.1 a.2.2.2.2.1 a.2.2.2.2.2.1 a.2.2.2.2.2.2.1 a.2.2.2.2.2.2.2.1 a.2.2.2.2.2.2.2.2.1 a.2.2.2.2.2.2.2.2.2
theorem zd3 (a b c d e f g h i j k l m n):za4 b c d a e f g h i j k l m n=za0 b c d a (za4 b c d a) e f g h i j k l m n:=zbD (zcv a b c d) (e,f,g,h,i,j,k,l,m,n)
theorem zhx (f:Nat->Tf6) (g:Tf6) (A:∀ h i j k l m n o p,ChO (fun e=>f e h i j k l m n o p) (g h i j k l m n o p)) (b c d q r s t u v w x y z):ChO (fun e=>za4 b c d (f e) q r s t u v w x y z) (za4 b c d g q r s t u v w x y z):=by
  unfold za4
  exact zfp (fun e=>(zcv (f e) b c d).mono) (zcv g b c d).mono (fun D E B a=>zdl f g A _ _ (fun h i j k l m n o p C=>B (h,i,j,k,l,m,n,o,p,C)) b c d a.1 a.2.1 a.2.2.1 a.2.2.2.1 a.2.2.2.2.1 a.2.2.2.2.2.1 a.2.2.2.2.2.2.1 a.2.2.2.2.2.2.2.1 a.2.2.2.2.2.2.2.2.1 a.2.2.2.2.2.2.2.2.2) _
theorem zdk (k:Nat->Tf7) (l:Tf7) (A:∀ b c d e f g h i j,ChO (fun a=>k a b c d e f g h i j) (l b c d e f g h i j)) (m:Nat->Tf6) (n:Tf6) (B:∀ b c d e f g h i j,ChO (fun a=>m a b c d e f g h i j) (n b c d e f g h i j)) (o p q r s t u v w x y z):ChO (fun a=>zaC o p q (k a) (m a) r s t u v w x y z) (zaC o p q l n r s t u v w x y z):=by
  unfold zaC
  repeat' with_reducible first|exact ChO.const _|exact A _ _ _ _ _ _ _ _ _|exact B _ _ _ _ _ _ _ _ _|(apply zhx<;>assumption)|apply ChO.ite|apply ChO.G
theorem zcu (b c d e):Cn (zex c d e b):=fun p q f a=>zdk (fun _=>b) b (fun _ _ _ _ _ _ _ _ _=>ChO.const _) _ _ (fun g h i j k l m n o=>f (g,h,i,j,k,l,m,n,o)) c d e a.1 a.2.1 a.2.2.1 a.2.2.2.1 a.2.2.2.2.1 a.2.2.2.2.2.1 a.2.2.2.2.2.2.1 a.2.2.2.2.2.2.2.1 a.2.2.2.2.2.2.2.2
theorem zbp (a b c d e f g h i j k l m):zaT b c d a e f g h i j k l m=zaC b c d a (zaT b c d a) e f g h i j k l m:=zbD (zcu a b c d) (e,f,g,h,i,j,k,l,m)
theorem zhw (f:Nat->Tf7) (g:Tf7) (z:∀ h i j k l m n o p,ChO (fun e=>f e h i j k l m n o p) (g h i j k l m n o p)) (b c d q r s t u v w x y):ChO (fun e=>zaT b c d (f e) q r s t u v w x y) (zaT b c d g q r s t u v w x y):=by
  unfold zaT
  exact zfp (fun e=>(zcu (f e) b c d).mono) (zcu g b c d).mono (fun B C A a=>zdk f g z _ _ (fun h i j k l m n o p=>A (h,i,j,k,l,m,n,o,p)) b c d a.1 a.2.1 a.2.2.1 a.2.2.2.1 a.2.2.2.2.1 a.2.2.2.2.2.1 a.2.2.2.2.2.2.1 a.2.2.2.2.2.2.2.1 a.2.2.2.2.2.2.2.2) _
theorem zgx (b:Nat->Tf7) (c:Tf7) (x:∀ o p q r s t u v w,ChO (fun a=>b a o p q r s t u v w) (c o p q r s t u v w)) (d e f g h i j k l m n):ChO (fun a=>zaZ d e (b a) f g h i j k l m n) (zaZ d e c f g h i j k l m n):=by
  unfold zaZ
  repeat' with_reducible first|exact ChO.const _|exact x _ _ _ _ _ _ _ _ _|(apply zhw<;>assumption)|apply ChO.ite
theorem zhv (b c):Cn (zew b c):=fun n o d a=>zgx  _ _ (fun e f g h i j k l m=>d (e,f,g,h,i,j,k,l,m)) b c a.1 a.2.1 a.2.2.1 a.2.2.2.1 a.2.2.2.2.1 a.2.2.2.2.2.1 a.2.2.2.2.2.2.1 a.2.2.2.2.2.2.2.1 a.2.2.2.2.2.2.2.2
theorem zd2 (a b c d e f g h i j k):zbQ a b c d e f g h i j k=zaZ a b (zbQ a b) c d e f g h i j k:=zbD (zhv a b) (c,d,e,f,g,h,i,j,k)

def zaD (b c d:Int) (e:Tp7) (f:Tp6) (a:Int) (g:(Int->Int->Int->Int->Tp6->Tp12->Tp12->Tp7->Tp12->Tp7->Tp6->Option Tp2)) (h i:Int) (j:Tp6) (k l:Tp12) (m:Tp7) (n:Tp12) (o:Tp7) (p:Tp6):Option Tp2:=
  G (0<=a/\a < ((((mget e f (b,(c,(d,()))) ((0,([],())):Int×Tp12×Unit)).2).1).length:Int)) (
  G (fits (a+(1:Int))) (
  g (ix (((mget e f (b,(c,(d,()))) ((0,([],())):Int×Tp12×Unit)).2).1) a) (a+(1:Int)) h i j k l m n o p))
def zat (s:Tf1) (b c d:Int) (i:Tp6) (e:Tp7) (f:Tp6) (r:Tf4) (t a h j:Int) (k:Tp6) (l m:Tp12) (n:Tp7) (o:Tp12) (p:Tp7) (q:Tp6):Option Tp2:=
  if (decide (a < ((((ix i ((mget e f (b,(c,(d,()))) ((0,([],())):Int×Tp12×Unit)).1)).2).1).length:Int)))=true then
  G (0<=a/\a < ((((ix i ((mget e f (b,(c,(d,()))) ((0,([],())):Int×Tp12×Unit)).1)).2).1).length:Int)) (
  if (decide (h<=(ix (((ix i ((mget e f (b,(c,(d,()))) ((0,([],())):Int×Tp12×Unit)).1)).2).1) a)))=true then
  G (fits ((ix (((ix i ((mget e f (b,(c,(d,()))) ((0,([],())):Int×Tp12×Unit)).1)).2).1) a) - h)) (
  G (0<=a/\a < ((((mget e f (b,(c,(d,()))) ((0,([],())):Int×Tp12×Unit)).2).1).length:Int)) (
  (s ((ix (((ix i ((mget e f (b,(c,(d,()))) ((0,([],())):Int×Tp12×Unit)).1)).2).1) a) - h) t (ix (((mget e f (b,(c,(d,()))) ((0,([],())):Int×Tp12×Unit)).2).1) a) h j k l m n o p q).bind (fun g=>
  zaD b c d e f a r g.2.1 g.2.2.1 g.2.2.2.1 g.2.2.2.2.1 g.1 g.2.2.2.2.2.1 g.2.2.2.2.2.2.1 g.2.2.2.2.2.2.2.1 g.2.2.2.2.2.2.2.2))) else
  zaD b c d e f a r h j k l m n o p q) else
  some (m,h,j,k,l,n,o,p,q)
def zct (b:Tf1) (c d e:Int) (f:Tp6) (g:Tp7) (h:Tp6):(Int×Int×Int×Int×Tp6×Tp12×Tp12×Tp7×Tp12×Tp7×Tp6->Option Tp2)->Int×Int×Int×Int×Tp6×Tp12×Tp12×Tp7×Tp12×Tp7×Tp6->Option Tp2:=
  fun rec a=>zat b c d e f g h (fun i j k l m n o p q r s=>rec (i,j,k,l,m,n,o,p,q,r,s)) a.1 a.2.1 a.2.2.1 a.2.2.2.1 a.2.2.2.2.1 a.2.2.2.2.2.1 a.2.2.2.2.2.2.1 a.2.2.2.2.2.2.2.1 a.2.2.2.2.2.2.2.2.1 a.2.2.2.2.2.2.2.2.2.1 a.2.2.2.2.2.2.2.2.2.2
def zal (a:Tf1) (b c d:Int) (e:Tp6) (f:Tp7) (g:Tp6) (h i j k:Int) (l:Tp6) (m n:Tp12) (o:Tp7) (p:Tp12) (q:Tp7) (r:Tp6):Option Tp2:=LFix (zct a b c d e f g ) (h,i,j,k,l,m,n,o,p,q,r)
def zaV (h:Tf1) (d a e i j:Int) (f:Tp6) (k g:Tp12) (l:Tp7) (m:Tp12) (b:Tp7) (c:Tp6):Option Tp2:=
  G (room g ([(mget b c (d,(a,(e,()))) ((0,([],())):Int×Tp12×Unit)).1]) 8) (
  G (0<=(mget b c (d,(a,(e,()))) ((0,([],())):Int×Tp12×Unit)).1/\(mget b c (d,(a,(e,()))) ((0,([],())):Int×Tp12×Unit)).1 < (f.length:Int)) (
  zal h d a e f b c a (0:Int) i j f k (g++([(mget b c (d,(a,(e,()))) ((0,([],())):Int×Tp12×Unit)).1])) l m b c))
theorem zeq (b:Nat->Tf4) (c:Tf4) (D:∀ s t u v w x y z A B C,ChO (fun a=>b a s t u v w x y z A B C) (c s t u v w x y z A B C)) (d e f g h i j k l m n o p q r):ChO (fun a=>zaD d e f g h i (b a) j k l m n o p q r) (zaD d e f g h i c j k l m n o p q r):=by
  unfold zaD
  repeat' with_reducible first|exact ChO.const _|exact D _ _ _ _ _ _ _ _ _ _ _|apply ChO.G
theorem zbY (m:Nat->Tf1) (n:Tf1) (o:∀ b c d e f g h i j k l J,ChO (fun a=>m a b c d e f g h i j k l J) (n b c d e f g h i j k l J)) (p:Nat->Tf4) (q:Tf4) (K:∀ b c d e f g h i j k l,ChO (fun a=>p a b c d e f g h i j k l) (q b c d e f g h i j k l)) (r s t u v w x y z A B C D E F H I):ChO (fun a=>zat (m a) r s t u v w (p a) x y z A B C D E F H I) (zat n r s t u v w q x y z A B C D E F H I):=by
  unfold zat
  repeat' with_reducible first|exact ChO.const _|exact o _ _ _ _ _ _ _ _ _ _ _ _|exact K _ _ _ _ _ _ _ _ _ _ _|(apply zeq<;>assumption)|apply ChO.ite|apply ChO.G|(apply ChO.bind;intro _)|(apply ChO.bind2 (o _ _ _ _ _ _ _ _ _ _ _ _);intro _)
theorem zbz (b c d e f g h):Cn (zct b c d e f g h):=fun u v i a=>zbY (fun _=>b) b (fun _ _ _ _ _ _ _ _ _ _ _ _=>ChO.const _) _ _ (fun j k l m n o p q r s t=>i (j,k,l,m,n,o,p,q,r,s,t)) c d e f g h a.1 a.2.1 a.2.2.1 a.2.2.2.1 a.2.2.2.2.1 a.2.2.2.2.2.1 a.2.2.2.2.2.2.1 a.2.2.2.2.2.2.2.1 a.2.2.2.2.2.2.2.2.1 a.2.2.2.2.2.2.2.2.2.1 a.2.2.2.2.2.2.2.2.2.2
theorem zck (a b c d e f g h i j k l m n o p q r):zal a b c d e f g h i j k l m n o p q r=zat a b c d e f g (zal a b c d e f g) h i j k l m n o p q r:=zbD (zbz a b c d e f g) (h,i,j,k,l,m,n,o,p,q,r)
theorem zer (i:Nat->Tf1) (j:Tf1) (I:∀ k l m n o p q r s t u H,ChO (fun h=>i h k l m n o p q r s t u H) (j k l m n o p q r s t u H)) (b c d e f g v w x y z A B C D E F):ChO (fun h=>zal (i h) b c d e f g v w x y z A B C D E F) (zal j b c d e f g v w x y z A B C D E F):=by
  unfold zal
  exact zfp (fun h=>(zbz (i h) b c d e f g).mono) (zbz j b c d e f g).mono (fun K L J a=>zbY i j I _ _ (fun k l m n o p q r s t u=>J (k,l,m,n,o,p,q,r,s,t,u)) b c d e f g a.1 a.2.1 a.2.2.1 a.2.2.2.1 a.2.2.2.2.1 a.2.2.2.2.2.1 a.2.2.2.2.2.2.1 a.2.2.2.2.2.2.2.1 a.2.2.2.2.2.2.2.2.1 a.2.2.2.2.2.2.2.2.2.1 a.2.2.2.2.2.2.2.2.2.2) _
theorem zeX (b:Nat->Tf1) (c:Tf1) (B:∀ p q r s t u v w x y z A,ChO (fun a=>b a p q r s t u v w x y z A) (c p q r s t u v w x y z A)) (d e f g h i j k l m n o):ChO (fun a=>zaV (b a) d e f g h i j k l m n o) (zaV c d e f g h i j k l m n o):=by
  unfold zaV
  repeat' with_reducible first|exact ChO.const _|exact B _ _ _ _ _ _ _ _ _ _ _ _|(apply zer<;>assumption)|apply ChO.G
def zbu:(Int×Int×Int×Int×Int×Tp6×Tp12×Tp12×Tp7×Tp12×Tp7×Tp6->Option Tp2)->Int×Int×Int×Int×Int×Tp6×Tp12×Tp12×Tp7×Tp12×Tp7×Tp6->Option Tp2:=
  fun rec a=>zaV (fun b c d e f g h i j k l m=>rec (b,c,d,e,f,g,h,i,j,k,l,m)) a.1 a.2.1 a.2.2.1 a.2.2.2.1 a.2.2.2.2.1 a.2.2.2.2.2.1 a.2.2.2.2.2.2.1 a.2.2.2.2.2.2.2.1 a.2.2.2.2.2.2.2.2.1 a.2.2.2.2.2.2.2.2.2.1 a.2.2.2.2.2.2.2.2.2.2.1 a.2.2.2.2.2.2.2.2.2.2.2
def zau (a b c d e:Int) (f:Tp6) (g h:Tp12) (i:Tp7) (j:Tp12) (k:Tp7) (l:Tp6):Option Tp2:=LFix zbu (a,b,c,d,e,f,g,h,i,j,k,l)
theorem zfB:Cn zbu:=fun o p b a=>zeX _ _ (fun c d e f g h i j k l m n=>b (c,d,e,f,g,h,i,j,k,l,m,n)) a.1 a.2.1 a.2.2.1 a.2.2.2.1 a.2.2.2.2.1 a.2.2.2.2.2.1 a.2.2.2.2.2.2.1 a.2.2.2.2.2.2.2.1 a.2.2.2.2.2.2.2.2.1 a.2.2.2.2.2.2.2.2.2.1 a.2.2.2.2.2.2.2.2.2.2.1 a.2.2.2.2.2.2.2.2.2.2.2
theorem zfC (a b c d e f g h i j k l):zau a b c d e f g h i j k l=zaV zau a b c d e f g h i j k l:=zbD zfB (a,b,c,d,e,f,g,h,i,j,k,l)

def zdB (b c d:Int) (e:Tp7) (f:Tp6) (a:Int) (g:(Int->Int->Int->Int->Tp6->Tp12->Tp12->Tp7->Tp12->Tp7->Tp6->Option Tp2)) (h i:Int) (j:Tp6) (k l:Tp12) (m:Tp7) (n:Tp12) (o:Tp7) (p:Tp6):Option Tp2:=
  G (0<=a/\a < ((((mget e f (b,(c,(d,()))) ((0,([],())):Int×Tp12×Unit)).2).1).length:Int)) (
  G (fits (a+(1:Int))) (
  g (ix (((mget e f (b,(c,(d,()))) ((0,([],())):Int×Tp12×Unit)).2).1) a) (a+(1:Int)) h i j k l m n o p))
def zfE (b c d:Int) (i:Tp6) (e:Tp7) (f:Tp6) (r:Tf4) (s a h j:Int) (k:Tp6) (l m:Tp12) (n:Tp7) (o:Tp12) (p:Tp7) (q:Tp6):Option Tp2:=
  if (decide (a < ((((ix i ((mget e f (b,(c,(d,()))) ((0,([],())):Int×Tp12×Unit)).1)).2).1).length:Int)))=true then
  G (0<=a/\a < ((((ix i ((mget e f (b,(c,(d,()))) ((0,([],())):Int×Tp12×Unit)).1)).2).1).length:Int)) (
  if (decide (h<=(ix (((ix i ((mget e f (b,(c,(d,()))) ((0,([],())):Int×Tp12×Unit)).1)).2).1) a)))=true then
  G (fits ((ix (((ix i ((mget e f (b,(c,(d,()))) ((0,([],())):Int×Tp12×Unit)).1)).2).1) a) - h)) (
  G (0<=a/\a < ((((mget e f (b,(c,(d,()))) ((0,([],())):Int×Tp12×Unit)).2).1).length:Int)) (
  (zau ((ix (((ix i ((mget e f (b,(c,(d,()))) ((0,([],())):Int×Tp12×Unit)).1)).2).1) a) - h) s (ix (((mget e f (b,(c,(d,()))) ((0,([],())):Int×Tp12×Unit)).2).1) a) h j k l m n o p q).bind (fun g=>
  zdB b c d e f a r g.2.1 g.2.2.1 g.2.2.2.1 g.2.2.2.2.1 g.1 g.2.2.2.2.2.1 g.2.2.2.2.2.2.1 g.2.2.2.2.2.2.2.1 g.2.2.2.2.2.2.2.2))) else
  zdB b c d e f a r h j k l m n o p q) else
  some (m,h,j,k,l,n,o,p,q)
def zfF (b c d:Int) (e:Tp6) (f:Tp7) (g:Tp6):(Int×Int×Int×Int×Tp6×Tp12×Tp12×Tp7×Tp12×Tp7×Tp6->Option Tp2)->Int×Int×Int×Int×Tp6×Tp12×Tp12×Tp7×Tp12×Tp7×Tp6->Option Tp2:=
  fun rec a=>zfE b c d e f g (fun h i j k l m n o p q r=>rec (h,i,j,k,l,m,n,o,p,q,r)) a.1 a.2.1 a.2.2.1 a.2.2.2.1 a.2.2.2.2.1 a.2.2.2.2.2.1 a.2.2.2.2.2.2.1 a.2.2.2.2.2.2.2.1 a.2.2.2.2.2.2.2.2.1 a.2.2.2.2.2.2.2.2.2.1 a.2.2.2.2.2.2.2.2.2.2
def zdC (a b c:Int) (d:Tp6) (e:Tp7) (f:Tp6) (g h i j:Int) (k:Tp6) (l m:Tp12) (n:Tp7) (o:Tp12) (p:Tp7) (q:Tp6):Option Tp2:=LFix (zfF a b c d e f ) (g,h,i,j,k,l,m,n,o,p,q)
def zbM (d a e g h:Int) (f:Tp6) (i:Tp12) (j:Tp7) (k:Tp12) (b:Tp7) (c:Tp6):Option Tp2:=
  G (room ([]:List Int) ([(mget b c (d,(a,(e,()))) ((0,([],())):Int×Tp12×Unit)).1]) 8) (
  G (0<=(mget b c (d,(a,(e,()))) ((0,([],())):Int×Tp12×Unit)).1/\(mget b c (d,(a,(e,()))) ((0,([],())):Int×Tp12×Unit)).1 < (f.length:Int)) (
  zdC d a e f b c a (0:Int) g h f i ([(mget b c (d,(a,(e,()))) ((0,([],())):Int×Tp12×Unit)).1]) j k b c))
def zaY (c:Tp5) (d:Tp12):Option (Bool×Int×Tp12):=
  (zbN (c.1,(c.2.1,(c.2.2.1,())))).bind (fun e=>
  if (decide (¬ e=(0:Int)))=true then
  some (false,e,[]) else
  (zjl c.1 d).bind (fun f=>
  if (decide (¬ f=(0:Int)))=true then
  some (false,f,[]) else
  if (decide ((12:Int) < (d.length:Int)))=true then
  some (false,(1:Int),[]) else
  (zd0 (c.1,(c.2.1,(c.2.2.1,()))) d).bind (fun b=>
  (zbE (0:Int) (0:Int) (d.length:Int) b.1 b.2.1 b.2.2.1 b.2.2.2.1 b.2.2.2.2.1 b.2.2.2.2.2.1 b.2.2.2.2.2.2.1 b.2.2.2.2.2.2.2).bind (fun a=>
  if (decide (a.1=(1099511627776:Int)))=true then
  some (false,(0:Int),[]) else
  if (decide ((2000:Int) < a.1))=true then
  some (false,(7:Int),[]) else
  (zbM (0:Int) (0:Int) (d.length:Int) a.2.1 a.2.2.1 a.2.2.2.1 a.2.2.2.2.1 a.2.2.2.2.2.1 a.2.2.2.2.2.2.1 a.2.2.2.2.2.2.2.1 a.2.2.2.2.2.2.2.2).bind (fun g=>
  some (true,(0:Int),g.1))))))

def zch (c:Int) (b:Tp12) (d:Int->Option (Int)) (a:Int):Option (Int):=
  if (decide (a < (b.length:Int)))=true then
  G (0<=a/\a < (b.length:Int)) (
  if (decide ((ix b a) < (0:Int)))=true then
  some (2:Int) else
  G (0<=a/\a < (b.length:Int)) (
  if (decide (c<=(ix b a)))=true then
  some (2:Int) else
  G (fits (a+(1:Int))) (
  d (a+(1:Int))))) else
  some (0:Int)
def zj9 (a:Int) (b:Tp12):(Int->Option (Int))->Int->Option (Int):=
  fun rec c=>zch a b (fun d=>rec d) c
def zhQ (a:Int) (b:Tp12) (c:Int):Option (Int):=LFix (zj9 a b ) c
def zmL (a:Int) (b:Tp12):Option (Int):=
  if (decide (a < (1:Int)))=true then
  some (2:Int) else
  if (decide ((4:Int) < a))=true then
  some (2:Int) else
  if (decide ((60:Int) < (b.length:Int)))=true then
  some (1:Int) else
  zhQ a b (0:Int)
theorem zkt (b:Nat->Int->Option (Int)) (c:Int->Option (Int)) (h:∀ g,ChO (fun a=>b a g) (c g)) (d e f):ChO (fun a=>zch d e (b a) f) (zch d e c f):=by
  unfold zch
  repeat' with_reducible first|exact ChO.const _|exact h _|apply ChO.ite|apply ChO.G
theorem zmM (a b):Cn (zj9 a b):=fun f g c d=>zkt  _ _ (fun e=>c e) a b d
theorem ziD (a b c):zhQ a b c=zch a b (zhQ a b) c:=zbD (zmM a b) c

def zaQ (e a:Int) (b:(Int->Int->Option (Int))) (c d:Int) (f:Bool):Option (Int):=
  if f=true then
  G (fits (c+d)) (
  G (fits (a+(1:Int))) (
  b (c+d) (a+(1:Int)))) else
  G (fits (a+(1:Int))) (
  b e (a+(1:Int)))
def zaP (g:Tf8) (h:Tp4) (a:Tp12) (i e b:Int) (f:(Int->Int->Option (Int))) (c:Int):Option (Int):=
  if (decide (c < (1099511627776:Int)))=true then
  G (0<=(1:Int)/\(1:Int)<=(a.length:Int)/\(a.length:Int)<=(a.length:Int)) (
  (g h (cut a (1:Int) (a.length:Int)) b i).bind (fun d=>
  if (decide (d < (1099511627776:Int)))=true then
  G (fits (c+d)) (
  zaQ e b f c d (decide ((c+d) < e))) else
  zaQ e b f c d false)) else
  G (fits (b+(1:Int))) (
  f e (b+(1:Int)))
def za1 (a:Tf8) (b:Tp4) (c:Tp12) (d e f:Int) (g:(Int->Int->Option (Int))) (h:Bool):Option (Int):=
  if h=true then
  zaP a b c d e f g (0:Int) else
  zaP a b c d e f g (1099511627776:Int)
def zaU (g:Tf8) (a:Tp4) (b:Tp12) (c e:Int) (h:Int->Int->Option (Int)) (f d:Int):Option (Int):=
  if (decide (d<=e))=true then
  G (0<=(0:Int)/\(0:Int) < (b.length:Int)) (
  if (decide ((ix b (0:Int)) < a.1.1))=true then
  G (fits (c+(1:Int))) (
  if (decide (d=(c+(1:Int))))=true then
  G (0<=c/\c < (a.2.1.length:Int)) (
  G (0<=(0:Int)/\(0:Int) < (b.length:Int)) (
  za1 g a b e f d h (decide ((ix a.2.1 c)=(ix b (0:Int)))))) else
  za1 g a b e f d h false) else
  G (0<=(0:Int)/\(0:Int) < (b.length:Int)) (
  G (fits ((ix b (0:Int)) - a.1.1)) (
  G (0<=(ix b (0:Int)) - a.1.1/\(ix b (0:Int)) - a.1.1 < (a.2.2.1.length:Int)) (
  G (0<=c/\c < ((ix a.2.2.1 ((ix b (0:Int)) - a.1.1)).length:Int)) (
  G (0<=d/\d < ((ix (ix a.2.2.1 ((ix b (0:Int)) - a.1.1)) c).length:Int)) (
  zaP g a b e f d h (ix (ix (ix a.2.2.1 ((ix b (0:Int)) - a.1.1)) c) d))))))) else
  some f
def zd6 (b:Tf8) (c:Tp4) (d:Tp12) (e f:Int):(Int×Int->Option (Int))->Int×Int->Option (Int):=
  fun rec a=>zaU b c d e f (fun g h=>rec (g,h)) a.1 a.2
def zaM (a:Tf8) (b:Tp4) (c:Tp12) (d e f g:Int):Option (Int):=LFix (zd6 a b c d e ) (f,g)
def zbl (d:Tf8) (e:Tp4) (b:Tp12) (a c:Int):Option (Int):=
  if (decide ((b.length:Int)=(0:Int)))=true then
  if (decide (a=c))=true then
  some (0:Int) else
  some (1099511627776:Int) else
  zaM d e b a c (1099511627776:Int) a
theorem zgA (b:Nat->Int->Int->Option (Int)) (c:Int->Int->Option (Int)) (k:∀ i j,ChO (fun a=>b a i j) (c i j)) (d e f g h):ChO (fun a=>zaQ d e (b a) f g h) (zaQ d e c f g h):=by
  unfold zaQ
  repeat' with_reducible first|exact ChO.const _|exact k _ _|apply ChO.ite|apply ChO.G
theorem zdm (d:Nat->Tf8) (e:Tf8) (f:∀ b c o p,ChO (fun a=>d a b c o p) (e b c o p)) (g:Nat->Int->Int->Option (Int)) (h:Int->Int->Option (Int)) (q:∀ b c,ChO (fun a=>g a b c) (h b c)) (i j k l m n):ChO (fun a=>zaP (d a) i j k l m (g a) n) (zaP e i j k l m h n):=by
  unfold zaP
  repeat' with_reducible first|exact ChO.const _|exact f _ _ _ _|exact q _ _|(apply zgA<;>assumption)|apply ChO.ite|apply ChO.G|(apply ChO.bind;intro _)|(apply ChO.bind2 (f _ _ _ _);intro _)
theorem zgz (d:Nat->Tf8) (e:Tf8) (p:∀ b c n o,ChO (fun a=>d a b c n o) (e b c n o)) (f:Nat->Int->Int->Option (Int)) (g:Int->Int->Option (Int)) (q:∀ b c,ChO (fun a=>f a b c) (g b c)) (h i j k l m):ChO (fun a=>za1 (d a) h i j k l (f a) m) (za1 e h i j k l g m):=by
  unfold za1
  repeat' with_reducible first|exact ChO.const _|exact p _ _ _ _|exact q _ _|(apply zdm<;>assumption)|apply ChO.ite
theorem zc0 (d:Nat->Tf8) (e:Tf8) (p:∀ b c n o,ChO (fun a=>d a b c n o) (e b c n o)) (f:Nat->Int->Int->Option (Int)) (g:Int->Int->Option (Int)) (q:∀ b c,ChO (fun a=>f a b c) (g b c)) (h i j k l m):ChO (fun a=>zaU (d a) h i j k (f a) l m) (zaU e h i j k g l m):=by
  unfold zaU
  repeat' with_reducible first|exact ChO.const _|exact p _ _ _ _|exact q _ _|(apply zdm<;>assumption)|(apply zgz<;>assumption)|apply ChO.ite|apply ChO.G
theorem zcg (a b c d e):Cn (zd6 a b c d e):=fun j k g f=>zc0 (fun _=>a) a (fun _ _ _ _=>ChO.const _) _ _ (fun h i=>g (h,i)) b c d e f.1 f.2
theorem zdI (a b c d e f g):zaM a b c d e f g=zaU a b c d e (zaM a b c d e) f g:=zbD (zcg a b c d e) (f,g)
theorem zg4 (f:Nat->Tf8) (g:Tf8) (o:∀ h i m n,ChO (fun e=>f e h i m n) (g h i m n)) (a b c d j k):ChO (fun e=>zaM (f e) a b c d j k) (zaM g a b c d j k):=by
  unfold zaM
  exact zfp (fun e=>(zcg (f e) a b c d).mono) (zcg g a b c d).mono (fun q r p l=>zc0 f g o _ _ (fun h i=>p (h,i)) a b c d l.1 l.2) _
theorem zhK (b:Nat->Tf8) (c:Tf8) (l:∀ h i j k,ChO (fun a=>b a h i j k) (c h i j k)) (d e f g):ChO (fun a=>zbl (b a) d e f g) (zbl c d e f g):=by
  unfold zbl
  repeat' with_reducible first|exact ChO.const _|exact l _ _ _ _|(apply zg4<;>assumption)|apply ChO.ite
def zcy:(Tp4×Tp12×Int×Int->Option (Int))->Tp4×Tp12×Int×Int->Option (Int):=
  fun rec a=>zbl (fun b c d e=>rec (b,c,d,e)) a.1 a.2.1 a.2.2.1 a.2.2.2
def zbf (a:Tp4) (b:Tp12) (c d:Int):Option (Int):=LFix zcy (a,b,c,d)
theorem ziV:Cn zcy:=fun g h b a=>zhK _ _ (fun c d e f=>b (c,d,e,f)) a.1 a.2.1 a.2.2.1 a.2.2.2
theorem zfi (a b c d):zbf a b c d=zbl zbf a b c d:=zbD ziV (a,b,c,d)

abbrev Mk17:=Int×Tp12×Unit
abbrev Gr17:=Int×Int×(List Mk17)×Unit
abbrev C17:=List Tp11
def zf1 (a:C17) (b c d:Nat) (e:Int):C17:=a.set b ((a.getD b []).set c (((a.getD b []).getD c []).set d e))
def zn1 (f:Gr17) (g:List Int) (c d:Nat) (e:Mk17) (h:Bool) (a:C17):Option (Bool×C17):=
  (zbf (f,g,a,()) e.2.1 c d).bind fun b=>G (fits (b+1)) (some (if b < 1099511627775/\b+1 < ix (ix (ix a e.1) c) d then (true,zf1 a e.1.toNat c d (b+1)) else (h,a)))
def zfP (a:Gr17) (c:List Int) (d e:Nat):List Mk17->Bool->C17->Option (Bool×C17)
  | [],b,C=>some (b,C)
  | m::l,b,C=>(zn1 a c d e m b C).bind fun f=>zfP a c d e l f.1 f.2
def is17 (a:Gr17) (c:List Int) (d:Nat):Nat->Nat->Bool->C17->Option (Bool×C17)
  | 0,_,b,C=>some (b,C)
  | k+1,i,b,C=>(zfP a c i (i+d) a.2.2.1 b C).bind fun e=>is17 a c d k (i+1) e.1 e.2
def zcr (d:Gr17) (a:List Int) (b:Nat):Nat->C17->Option C17
  | 0,_=>none
  | f+1,C=>(is17 d a b (a.length+1 - b) 0 false C).bind fun c=>if c.1 then zcr d a b f c.2 else some c.2
def ze8 (a:Gr17) (b:List Int) (c:Nat):Nat->Nat->C17->Option C17
  | 0,_,C=>some C
  | k+1,s,C=>(zcr a b s c C).bind fun d=>ze8 a b c k (s+1) d
def m17:Nat:=1000000000000000000
def ze4 (a:Gr17) (b:List Int):Option Int:=
  G (b.length<=12/\0 < a.2.1/\a.2.1<=6/\a.2.2.1.length<=20/\∀ m∈a.2.2.1,0<=m.1/\m.1 < a.2.1)
    ((ze8 a b m17 (b.length+1) 0 (List.replicate a.2.1.toNat (List.replicate (b.length+1) (List.replicate (b.length+1) 1099511627776)))).bind fun c=>some (ix (ix (ix c 0) 0) b.length))


def zbG (b c:Tp12) (d:Int->Option (Bool)) (a:Int):Option (Bool):=
  if (decide (a < (b.length:Int)))=true then
  G (0<=a/\a < (b.length:Int)) (
  G (0<=a/\a < (c.length:Int)) (
  if (decide (¬ (ix b a)=(ix c a)))=true then
  some false else
  G (fits (a+(1:Int))) (
  d (a+(1:Int))))) else
  some true
def zhR (a b:Tp12):(Int->Option (Bool))->Int->Option (Bool):=
  fun rec c=>zbG a b (fun d=>rec d) c
def ze5 (a b:Tp12) (c:Int):Option (Bool):=LFix (zhR a b ) c
def zji (a b:Tp12):Option (Bool):=
  if (decide (¬ (a.length:Int)=(b.length:Int)))=true then
  some false else
  ze5 a b (0:Int)
theorem ziY (b:Nat->Int->Option (Bool)) (c:Int->Option (Bool)) (h:∀ g,ChO (fun a=>b a g) (c g)) (d e f):ChO (fun a=>zbG d e (b a) f) (zbG d e c f):=by
  unfold zbG
  repeat' with_reducible first|exact ChO.const _|exact h _|apply ChO.ite|apply ChO.G
theorem zkv (a b):Cn (zhR a b):=fun e f c d=>ziY  _ _ (fun a=>c a) a b d
theorem zgL (a b c):ze5 a b c=zbG a b (ze5 a b) c:=zbD (zkv a b) c

def zco (e:Tp5) (d:Tp12) (c:Int) (b:Tp12) (f:(Int->Int->Tp12->Option (Bool))) (a:Int):Option (Bool):=
  G (0<=c/\c < (d.length:Int)) (
  if (decide ((ix d c) < (0:Int)))=true then
  some false else
  G (0<=c/\c < (d.length:Int)) (
  if (decide ((e.2.2.1.length:Int)<=(ix d c)))=true then
  some false else
  if (decide (a=(b.length:Int)))=true then
  some false else
  G (0<=c/\c < (d.length:Int)) (
  G (0<=ix d c/\ix d c < (e.2.2.1.length:Int)) (
  G (0<=a/\a < (b.length:Int)) (
  G ((a).toNat < b.length) (
  G (fits ((ix b a) - e.1)) (
  if (decide (¬ ((ix e.2.2.1 (ix d c)).1)=((ix b a) - e.1)))=true then
  some false else
  G (0<=a/\a<=(b.length:Int)) (
  G (0+((a).toNat)<=b.length) (
  G (room ([]:List Int) ((b.drop 0).take ((a).toNat)) 8) (
  G (room (([]:List Int)++((b.drop 0).take ((a).toNat))) (((ix e.2.2.1 (ix d c)).2).1) 8) (
  G (fits (a+(1:Int))) (
  G (0<=a+(1:Int)/\a+(1:Int)<=(b.length:Int)) (
  G (((a+(1:Int)).toNat)+(b.length - (a+(1:Int)).toNat)<=b.length) (
  G (room ((([]:List Int)++((b.drop 0).take ((a).toNat)))++(((ix e.2.2.1 (ix d c)).2).1)) ((b.drop ((a+(1:Int)).toNat)).take (b.length - (a+(1:Int)).toNat)) 8) (
  if (decide ((20000:Int) < ((((([]:List Int)++((b.drop 0).take ((a).toNat)))++(((ix e.2.2.1 (ix d c)).2).1))++((b.drop ((a+(1:Int)).toNat)).take (b.length - (a+(1:Int)).toNat))).length:Int)))=true then
  some false else
  G (fits (c+(1:Int))) (
  f a (c+(1:Int)) (((([]:List Int)++((b.drop 0).take ((a).toNat)))++(((ix e.2.2.1 (ix d c)).2).1))++((b.drop ((a+(1:Int)).toNat)).take (b.length - (a+(1:Int)).toNat)))))))))))))))))))
def zbt (c:Tp5) (d:Tp12) (e:Int) (b:Tp12) (f:(Int->Int->Tp12->Option (Bool))) (g:Int->Option (Bool)) (a:Int):Option (Bool):=
  if (decide (a < (b.length:Int)))=true then
  G (0<=a/\a < (b.length:Int)) (
  G ((a).toNat < b.length) (
  if (decide ((ix b a) < c.1))=true then
  G (fits (a+(1:Int))) (
  g (a+(1:Int))) else
  zco c d e b f a)) else
  zco c d e b f a
def zgK (a:Tp5) (b:Tp12) (c:Int) (d:Tp12) (e:(Int->Int->Tp12->Option (Bool))):(Int->Option (Bool))->Int->Option (Bool):=
  fun rec f=>zbt a b c d e (fun g=>rec g) f
def zbS (a:Tp5) (b:Tp12) (c:Int) (d:Tp12) (e:(Int->Int->Tp12->Option (Bool))) (f:Int):Option (Bool):=LFix (zgK a b c d e ) f
def zbi (d:Tp5) (a e:Tp12) (f:Tf9) (g b:Int) (c:Tp12):Option (Bool):=
  if (decide (b < (a.length:Int)))=true then
  zbS d a b c f g else
  (zji c e).bind (fun h=>
  some h)
def zgJ (b:Tp5) (c d:Tp12):(Int×Int×Tp12->Option (Bool))->Int×Int×Tp12->Option (Bool):=
  fun rec a=>zbi b c d (fun e f g=>rec (e,f,g)) a.1 a.2.1 a.2.2
def zc2 (a:Tp5) (b c:Tp12) (d e:Int) (f:Tp12):Option (Bool):=LFix (zgJ a b c ) (d,e,f)
def zfZ (a:Tp5) (b c:Tp12):Option (Bool):=
  zc2 a b c (0:Int) (0:Int) ([a.1])
theorem zj5 (b:Nat->Tf9) (c:Tf9) (l:∀ i j k,ChO (fun a=>b a i j k) (c i j k)) (d e f g h):ChO (fun a=>zco d e f g (b a) h) (zco d e f g c h):=by
  unfold zco
  repeat' with_reducible first|exact ChO.const _|exact l _ _ _|apply ChO.ite|apply ChO.G
theorem zeJ (c:Nat->Tf9) (d:Tf9) (n:∀ b l m,ChO (fun a=>c a b l m) (d b l m)) (e:Nat->Int->Option (Bool)) (f:Int->Option (Bool)) (o:∀ b,ChO (fun a=>e a b) (f b)) (g h i j k):ChO (fun a=>zbt g h i j (c a) (e a) k) (zbt g h i j d f k):=by
  unfold zbt
  repeat' with_reducible first|exact ChO.const _|exact n _ _ _|exact o _|(apply zj5<;>assumption)|apply ChO.ite|apply ChO.G
theorem zdK (a b c d e):Cn (zgK b c d e a):=fun i j f g=>zeJ (fun _=>a) a (fun _ _ _=>ChO.const _) _ _ (fun h=>f h) b c d e g
theorem zf0 (a b c d e f):zbS b c d e a f=zbt b c d e a (zbS b c d e a) f:=zbD (zdK a b c d e) f
theorem zj7 (f:Nat->Tf9) (g:Tf9) (l:∀ i j k,ChO (fun e=>f e i j k) (g i j k)) (a b c d h):ChO (fun e=>zbS a b c d (f e) h) (zbS a b c d g h):=by
  unfold zbS
  exact zfp (fun e=>(zdK (f e) a b c d).mono) (zdK g a b c d).mono (fun p q m n=>zeJ f g l _ _ (fun o=>m o) a b c d n) _
theorem zie (b:Nat->Tf9) (c:Tf9) (m:∀ j k l,ChO (fun a=>b a j k l) (c j k l)) (d e f g h i):ChO (fun a=>zbi d e f (b a) g h i) (zbi d e f c g h i):=by
  unfold zbi
  repeat' with_reducible first|exact ChO.const _|exact m _ _ _|(apply zj7<;>assumption)|apply ChO.ite|(apply ChO.bind;intro _)
theorem zj6 (b c d):Cn (zgJ b c d):=fun i j e a=>zie  _ _ (fun f g h=>e (f,g,h)) b c d a.1 a.2.1 a.2.2
theorem zdJ (a b c d e f):zc2 a b c d e f=zbi a b c (zc2 a b c) d e f:=zbD (zj6 a b c) (d,e,f)

def zbj (a:Tp5) (f:Tp12) (c:Bool) (d:Int) (b:Tp12) (e:Int):Option (Bool):=
  if (decide (¬ e=(0:Int)))=true then
  if (decide (d=e))=true then
  if (!c)=true then
  some (decide ((b.length:Int)=(0:Int))) else
  some false else
  some false else
  (zfZ (a.1,(a.2.1,(a.2.2.1,()))) b f).bind (fun g=>
  if (decide (d=(0:Int)))=true then
  if c=true then
  if (decide ((b.length:Int)<=(2000:Int)))=true then
  some g else
  some false else
  some false else
  some false)
def zaL (a:Tp5) (b:Tp12) (c:Bool) (d:Int) (e:Tp12) (f:Int):Option (Bool):=
  if (decide (f=(0:Int)))=true then
  (ze4 (a.1,(a.2.1,(a.2.2.1,()))) b).bind (fun g=>
  if (decide (g=(1099511627776:Int)))=true then
  if (decide (d=(0:Int)))=true then
  if (!c)=true then
  some (decide ((e.length:Int)=(0:Int))) else
  some false else
  some false else
  if (decide ((2000:Int) < g))=true then
  zbj a b c d e (7:Int) else
  zbj a b c d e f) else
  zbj a b c d e f
def zbm (a:Tp5) (b:Tp12) (c:Bool) (d:Int) (e:Tp12) (f:Int) (g:Bool):Option (Bool):=
  if g=true then
  zaL a b c d e (1:Int) else
  zaL a b c d e f
def zaX (c:Tp5) (a:Tp12) (d:Bool) (e:Int) (f:Tp12) (b:Int):Option (Bool):=
  if (decide (b=(0:Int)))=true then
  zbm c a d e f b (decide ((12:Int) < (a.length:Int))) else
  zbm c a d e f b false
def zeY (a:Tp5) (c:Tp12):Option (Bool):=
  (zbN (a.1,(a.2.1,(a.2.2.1,())))).bind (fun e=>
  (zhL (a.1,(a.2.1,(a.2.2.1,())))).bind (fun d=>
  (zaY (a.1,(a.2.1,(a.2.2.1,()))) c).bind (fun b=>
  if (decide (¬ e=d))=true then
  some false else
  if (decide (d=(0:Int)))=true then
  (zmL a.1 c).bind (fun f=>
  zaX a c b.1 b.2.1 b.2.2 f) else
  zaX a c b.1 b.2.1 b.2.2 d)))

end
end Go.Proofs.Ytfjfjemoehnpbaa.gramTellsW
