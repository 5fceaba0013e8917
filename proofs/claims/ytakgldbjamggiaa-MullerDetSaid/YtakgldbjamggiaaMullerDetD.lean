import Derived.Test.YtakgldbjamggiaaEv37n21
set_option maxHeartbeats 1000000
set_option maxRecDepth 20000
set_option linter.unusedVariables false
namespace Go.Proofs.Ytakgldbjamggiaa.mullerDetW
open Go Go.Ab
noncomputable section
abbrev Tp8:=(List Int)
abbrev Tp7:=(List Tp8)
abbrev Tp6:=(Int×Int×Int×Int×Unit)
abbrev Tp5:=(Tp8×Tp8×Unit)
abbrev Tp4:=(Tp6×Int×Unit)
abbrev Tp3:=(Int×Int×Tp7×Tp8×Unit)
abbrev Tp2:=(List Tp4)
abbrev Tp1:=(Tp3×Bool)
abbrev Tf1:=Int->Int->Tp2->Tp8->Tp2->Tp7->Tp8->Option Tp1
abbrev Tf2:=Int->Tp2->Tp8->Tp2->Tp8->Option Tp1
abbrev Tf3:=Int->Int->Int->Option (Bool)
def zen (r:Tp8) (t:Tp3):Option (Bool):=
  some (decide (¬ (r.length:Int)=t.1))

def zaP (s:Tp7) (c:Tp3) (r2:Int->Option (Int)) (t:Int):Option (Int):=
  if (decide (t < (s.length:Int)))=true then
  G (0<=t/\t < (s.length:Int)) (
  (zen (ix s t) c).bind (fun y'=>
  if y'=true then
  some t else
  G (fits (t+(1:Int))) (
  r2 (t+(1:Int))))) else
  some (-1:Int)
def zc6 (s:Tp7) (c:Tp3):(Int->Option (Int))->Int->Option (Int):=
  fun rec x=>zaP s c (fun t=>rec t) x
def zb0 (s:Tp7) (c:Tp3) (t:Int):Option (Int):=LFix (zc6 s c ) t
def zfu (s:Tp7) (c:Tp3):Option (Int):=
  zb0 s c (0:Int)
theorem ze1 (r2:Nat->Int->Option (Int)) (r2':Int->Option (Int)) (h_r2:∀ a0,ChO (fun κ=>r2 κ a0) (r2' a0)) (s c t):ChO (fun κ=>zaP s c (r2 κ) t) (zaP s c r2' t):=by
  unfold zaP
  repeat' with_reducible first | exact ChO.const _ | exact h_r2 _ | apply ChO.ite | apply ChO.G | (apply ChO.bind;intro _)
theorem zfA (s c):Cn (zc6 s c):=fun g h hg x=>ze1  _ _ (fun a=>hg a) s c x
theorem zfB (s c t):zb0 s c t=zaP s c (zb0 s c) t:=zaK (zfA s c) t

def zbZ (s:Tp7) (c:Tp3):Option (Bool):=
  (zfu s c).bind (fun y'=>
  some (decide ((0:Int)<=y')))

def zbt (q t:Int):Option (Bool):=
  if (decide (q < (0:Int)))=true then
  some true else
  some (decide (t<=q))

def zaE (s:Tp8) (c:Int) (r2:Int->Option (Int)) (t:Int):Option (Int):=
  if (decide (t < (s.length:Int)))=true then
  G (0<=t/\t < (s.length:Int)) (
  (zbt (ix s t) c).bind (fun y'=>
  if y'=true then
  some t else
  G (fits (t+(1:Int))) (
  r2 (t+(1:Int))))) else
  some (-1:Int)
def zcs (s:Tp8) (c:Int):(Int->Option (Int))->Int->Option (Int):=
  fun rec x=>zaE s c (fun t=>rec t) x
def zbC (s:Tp8) (c t:Int):Option (Int):=LFix (zcs s c ) t
def zeh (s:Tp8) (c:Int):Option (Int):=
  zbC s c (0:Int)
theorem zdT (r2:Nat->Int->Option (Int)) (r2':Int->Option (Int)) (h_r2:∀ a0,ChO (fun κ=>r2 κ a0) (r2' a0)) (s c t):ChO (fun κ=>zaE s c (r2 κ) t) (zaE s c r2' t):=by
  unfold zaE
  repeat' with_reducible first | exact ChO.const _ | exact h_r2 _ | apply ChO.ite | apply ChO.G | (apply ChO.bind;intro _)
theorem zeX (s c):Cn (zcs s c):=fun g h hg x=>zdT  _ _ (fun a=>hg a) s c x
theorem zeY (s c t):zbC s c t=zaE s c (zbC s c) t:=zaK (zeX s c) t

def zbz (s:Tp8) (c:Int):Option (Bool):=
  (zeh s c).bind (fun y'=>
  some (decide ((0:Int)<=y')))

def zcQ (r:Tp8) (c:Int):Option (Bool×Int):=
  (zbz r c).bind (fun y'=>
  some (y',c))

def zaD (s:Tp7) (r2:Int->Int->Option (Int×Int)) (t l:Int):Option (Int×Int):=
  if (decide (t < (s.length:Int)))=true then
  G (0<=t/\t < (s.length:Int)) (
  (zcQ (ix s t) l).bind (fun y'_3=>
  if y'_3.1=true then
  some (t,y'_3.2) else
  G (fits (t+(1:Int))) (
  r2 (t+(1:Int)) y'_3.2))) else
  some ((-1:Int),l)
def zcr (s:Tp7):(Int×Int->Option (Int×Int))->Int×Int->Option (Int×Int):=
  fun rec x=>zaD s (fun t l=>rec (t,l)) x.1 x.2
def zbB (s:Tp7) (t l:Int):Option (Int×Int):=LFix (zcr s ) (t,l)
def zeg (s:Tp7) (c:Int):Option (Int×Int):=
  zbB s (0:Int) c
theorem zdS (r2:Nat->Int->Int->Option (Int×Int)) (r2':Int->Int->Option (Int×Int)) (h_r2:∀ a0 a1,ChO (fun κ=>r2 κ a0 a1) (r2' a0 a1)) (s t l):ChO (fun κ=>zaD s (r2 κ) t l) (zaD s r2' t l):=by
  unfold zaD
  repeat' with_reducible first | exact ChO.const _ | exact h_r2 _ _ | apply ChO.ite | apply ChO.G | (apply ChO.bind;intro _)
theorem zeV (s):Cn (zcr s):=fun g h hg x=>zdS  _ _ (fun a0 a1=>hg (a0,a1)) s x.1 x.2
theorem zeW (s t l):zbB s t l=zaD s (zbB s) t l:=zaK (zeV s) (t,l)

def zby (s:Tp7) (c:Int):Option (Bool×Int):=
  (zeg s c).bind (fun y'_3=>
  some (decide ((0:Int)<=y'_3.1),y'_3.2))

def zcR (s t:Int):Option (Bool):=
  if (decide (s < (1:Int)))=true then
  some true else
  G (0<=t) (
  some (decide ((ishl .i64 (1:Int) t)<=s)))

def zaF (s:Tp8) (c:Int) (r2:Int->Option (Int)) (t:Int):Option (Int):=
  if (decide (t < (s.length:Int)))=true then
  G (0<=t/\t < (s.length:Int)) (
  (zcR (ix s t) c).bind (fun y'=>
  if y'=true then
  some t else
  G (fits (t+(1:Int))) (
  r2 (t+(1:Int))))) else
  some (-1:Int)
def zct (s:Tp8) (c:Int):(Int->Option (Int))->Int->Option (Int):=
  fun rec x=>zaF s c (fun t=>rec t) x
def zbD (s:Tp8) (c t:Int):Option (Int):=LFix (zct s c ) t
def zei (s:Tp8) (c:Int):Option (Int):=
  zbD s c (0:Int)
theorem zdU (r2:Nat->Int->Option (Int)) (r2':Int->Option (Int)) (h_r2:∀ a0,ChO (fun κ=>r2 κ a0) (r2' a0)) (s c t):ChO (fun κ=>zaF s c (r2 κ) t) (zaF s c r2' t):=by
  unfold zaF
  repeat' with_reducible first | exact ChO.const _ | exact h_r2 _ | apply ChO.ite | apply ChO.G | (apply ChO.bind;intro _)
theorem zeZ (s c):Cn (zct s c):=fun g h hg x=>zdU  _ _ (fun a=>hg a) s c x
theorem ze0 (s c t):zbD s c t=zaF s c (zbD s c) t:=zaK (zeZ s c) t

def zbA (s:Tp8) (c:Int):Option (Bool):=
  (zei s c).bind (fun y'=>
  some (decide ((0:Int)<=y')))

def zaw (m:Tp3) (r12:Int->Option (Int)) (t:Int):Option (Int):=
  if (decide (t < (m.2.2.2.1.length:Int)))=true then
  if (decide ((0:Int) < t))=true then
  G (fits (t - (1:Int))) (
  G (0<=t - (1:Int)/\t - (1:Int) < (m.2.2.2.1.length:Int)) (
  G (0<=t/\t < (m.2.2.2.1.length:Int)) (
  if (decide ((ix m.2.2.2.1 t)<=(ix m.2.2.2.1 (t - (1:Int)))))=true then
  some (3:Int) else
  G (fits (t+(1:Int))) (
  r12 (t+(1:Int)))))) else
  G (fits (t+(1:Int))) (
  r12 (t+(1:Int))) else
  some (0:Int)
def zd8 (m:Tp3):(Int->Option (Int))->Int->Option (Int):=
  fun rec x=>zaw m (fun t=>rec t) x
def zdb (m:Tp3) (t:Int):Option (Int):=LFix (zd8 m ) t
def zdZ (m:Tp3):Option (Int):=
  if (decide (m.1 < (1:Int)))=true then
  some (2:Int) else
  if (decide ((4:Int) < m.1))=true then
  some (2:Int) else
  if (decide ((m.2.2.1.length:Int) < (1:Int)))=true then
  some (1:Int) else
  if (decide ((4:Int) < (m.2.2.1.length:Int)))=true then
  some (1:Int) else
  (zbZ m.2.2.1 (m.1,(m.2.1,(m.2.2.1,(m.2.2.2.1,()))))).bind (fun y'=>
  if y'=true then
  some (3:Int) else
  (zbt m.2.1 (m.2.2.1.length:Int)).bind (fun y'_1=>
  if y'_1=true then
  some (2:Int) else
  (zby m.2.2.1 (m.2.2.1.length:Int)).bind (fun y'_6=>
  if y'_6.1=true then
  some (2:Int) else
  (zbA m.2.2.2.1 (m.2.2.1.length:Int)).bind (fun y'_5=>
  if y'_5=true then
  some (2:Int) else
  zdb m (0:Int)))))
theorem zfT (r12:Nat->Int->Option (Int)) (r12':Int->Option (Int)) (h_r12:∀ a0,ChO (fun κ=>r12 κ a0) (r12' a0)) (m t):ChO (fun κ=>zaw m (r12 κ) t) (zaw m r12' t):=by
  unfold zaw
  repeat' with_reducible first | exact ChO.const _ | exact h_r12 _ | apply ChO.ite | apply ChO.G
theorem zg9 (m):Cn (zd8 m):=fun g h hg x=>zfT  _ _ (fun a=>hg a) m x
theorem zbW (m t):zdb m t=zaw m (zdb m) t:=zaK (zg9 m) t

def za3 (s:Tp8) (v:Int) (r2:Int->Option (Int)) (t:Int):Option (Int):=
  if (decide (t < (s.length:Int)))=true then
  G (0<=t/\t < (s.length:Int)) (
  if (decide (v=(ix s t)))=true then
  some t else
  G (fits (t+(1:Int))) (
  r2 (t+(1:Int)))) else
  some (-1:Int)
def ze2 (s:Tp8) (v:Int):(Int->Option (Int))->Int->Option (Int):=
  fun rec x=>za3 s v (fun t=>rec t) x
def zcu (s:Tp8) (v t:Int):Option (Int):=LFix (ze2 s v ) t
def zc2 (s:Tp8) (v:Int):Option (Int):=
  zcu s v (0:Int)
theorem zgJ (r2:Nat->Int->Option (Int)) (r2':Int->Option (Int)) (h_r2:∀ a0,ChO (fun κ=>r2 κ a0) (r2' a0)) (s v t):ChO (fun κ=>za3 s v (r2 κ) t) (za3 s v r2' t):=by
  unfold za3
  repeat' with_reducible first | exact ChO.const _ | exact h_r2 _ | apply ChO.ite | apply ChO.G
theorem zh8 (s v):Cn (ze2 s v):=fun g h hg x=>zgJ  _ _ (fun a=>hg a) s v x
theorem zej (s v t):zcu s v t=za3 s v (zcu s v) t:=zaK (zh8 s v) t

def mtf5 (p r1 r2 r3 to:Int):Nat->List Int
  | 0=>[to,r1,r2,r3]
  | 1=>[to,p,r2,r3]
  | 2=>[to,p,r1,r3]
  | _=>[to,p,r1,r2]
abbrev Rcd:=(Int×(Int×(Int×(Int×Unit))))×(Int×Unit)
abbrev Mlr:=Int×(Int×(Tp7×(Tp8×Unit)))
def mtfR (r:Rcd) (to k:Int):Rcd:=((ix (mtf5 r.1.1 r.1.2.1 r.1.2.2.1 r.1.2.2.2.1 to k.toNat) 0,ix (mtf5 r.1.1 r.1.2.1 r.1.2.2.1 r.1.2.2.2.1 to k.toNat) 1,ix (mtf5 r.1.1 r.1.2.1 r.1.2.2.1 r.1.2.2.2.1 to k.toNat) 2,ix (mtf5 r.1.1 r.1.2.1 r.1.2.2.1 r.1.2.2.2.1 to k.toNat) 3,()),k,())
def rowB (r0 r1 r2 r3:Int) (j:Nat):Int:=match j with
  | 0=>r0
  | 1=>r1
  | 2=>r2
  | _=>r3
def addB (r0 r1 r2 r3:Int):Nat->Int
  | 0=>0
  | k+1=>ior .i64 (addB r0 r1 r2 r3 k) (ishl .i64 1 (rowB r0 r1 r2 r3 k))
def zbl (r:Rcd) (a:Int) (m:Mlr) (n:Int):Option Rcd:=
  G (0<=r.1.1/\r.1.1 < m.2.2.1.length/\m.2.2.1.length<=4) (G (0<=a/\a < (ix m.2.2.1 r.1.1).length) (G (1<=n/\n<=4)
    ((zc2 ([r.1.1,r.1.2.1,r.1.2.2.1,r.1.2.2.2.1].take n.toNat) (ix (ix m.2.2.1 r.1.1) a)).bind fun k=>G (0<=k/\k<=3) (some (mtfR r (ix (ix m.2.2.1 r.1.1) a) k)))))


def zco (s:Tp8) (v:Int):Option (Bool):=
  (zc2 s v).bind (fun y'=>
  some (decide ((0:Int)<=y')))

def zbm (r:Rcd) (n:Int) (m:Mlr):Option Int:=
  G (0<=r.1.1/\0<=r.1.2.1/\0<=r.1.2.2.1/\0<=r.1.2.2.2.1) (G (0<=r.2.1/\r.2.1<=3) (G (0<=n/\n<=4)
    ((zco m.2.2.2.1 (addB r.1.1 r.1.2.1 r.1.2.2.1 r.1.2.2.2.1 (r.2.1.toNat+1))).bind fun b=>some (if b=true then 2 * (n - r.2.1) else 2 * (n - r.2.1) - 1))))


def zbg (t:Int) (row:Tp8) (r8:(Int->Tp2->Tp8->Tp2->Tp8->Option Tp1)) (n:Int) (number_4:Tp2) (number_5:Tp8) (l_2:Tp2):Option Tp1:=
  G (0<=t/\t < (row.length:Int)) (
  G ((t).toNat < row.length) (
  G (fits (t+(1:Int))) (
  r8 (t+(1:Int)) number_4 number_5 l_2 (row.set (t).toNat n))))
def zaR (letters:Int) (c:Tp3) (c_1 c_2:Int) (c_3:Tp3) (most d d_1:Int) (l:Tp2) (d_2:Tp7) (d_3:Tp8) (r4:(Int->Int->Tp2->Tp8->Tp2->Tp7->Tp8->Option Tp1)) (r8:Tf2) (t:Int) (number_2:Tp2) (number_3:Tp8) (l_1:Tp2) (row:Tp8):Option Tp1:=
  if (decide (t < letters))=true then
  (zbl ((((ix l (d_2.length:Int)).1).1,((((ix l (d_2.length:Int)).1).2).1,(((((ix l (d_2.length:Int)).1).2).2).1,((((((ix l (d_2.length:Int)).1).2).2).2).1,())))),(((ix l (d_2.length:Int)).2).1,())) t c c_1).bind (fun y'=>
  if (!(mhas number_2 ((y'.1.1,(y'.1.2.1,(y'.1.2.2.1,(y'.1.2.2.2.1,())))),(y'.2.1,()))))=true then
  if (decide ((l_1.length:Int)=most))=true then
  some (((0:Int),((0:Int),([],([],())))),false) else
  G (room l_1 ([((y'.1.1,(y'.1.2.1,(y'.1.2.2.1,(y'.1.2.2.2.1,())))),(y'.2.1,()))]) 40) (
  zbg t row r8 (l_1.length:Int) (zfS number_2 ((y'.1.1,(y'.1.2.1,(y'.1.2.2.1,(y'.1.2.2.2.1,())))),(y'.2.1,()))) (zkn number_2 number_3 ((y'.1.1,(y'.1.2.1,(y'.1.2.2.1,(y'.1.2.2.2.1,())))),(y'.2.1,())) (l_1.length:Int)) (l_1++([((y'.1.1,(y'.1.2.1,(y'.1.2.2.1,(y'.1.2.2.2.1,())))),(y'.2.1,()))]))) else
  zbg t row r8 (mget number_2 number_3 ((y'.1.1,(y'.1.2.1,(y'.1.2.2.1,(y'.1.2.2.2.1,())))),(y'.2.1,())) (0:Int)) number_2 number_3 l_1) else
  G (room d_2 ([row]) 24) (
  (zbm ((((ix l (d_2.length:Int)).1).1,((((ix l (d_2.length:Int)).1).2).1,(((((ix l (d_2.length:Int)).1).2).2).1,((((((ix l (d_2.length:Int)).1).2).2).2).1,())))),(((ix l (d_2.length:Int)).2).1,())) c_2 c_3).bind (fun y'_1=>
  G (room d_3 ([y'_1]) 8) (
  r4 d d_1 number_2 number_3 l_1 (d_2++([row])) (d_3++([y'_1])))))
def zfk (letters:Int) (c:Tp3) (c_1 c_2:Int) (c_3:Tp3) (most d d_1:Int) (l:Tp2) (d_2:Tp7) (d_3:Tp8) (r4:(Int->Int->Tp2->Tp8->Tp2->Tp7->Tp8->Option Tp1)):(Int×Tp2×Tp8×Tp2×Tp8->Option Tp1)->Int×Tp2×Tp8×Tp2×Tp8->Option Tp1:=
  fun rec x=>zaR letters c c_1 c_2 c_3 most d d_1 l d_2 d_3 r4 (fun t number_2 number_3 l_1 row=>rec (t,number_2,number_3,l_1,row)) x.1 x.2.1 x.2.2.1 x.2.2.2.1 x.2.2.2.2
def zaA (letters:Int) (c:Tp3) (c_1 c_2:Int) (c_3:Tp3) (most d d_1:Int) (l:Tp2) (d_2:Tp7) (d_3:Tp8) (r4:(Int->Int->Tp2->Tp8->Tp2->Tp7->Tp8->Option Tp1)) (t:Int) (number_2:Tp2) (number_3:Tp8) (l_1:Tp2) (row:Tp8):Option Tp1:=LFix (zfk letters c c_1 c_2 c_3 most d d_1 l d_2 d_3 r4 ) (t,number_2,number_3,l_1,row)
def zaQ (letters:Int) (c:Tp3) (c_1 c_2:Int) (c_3:Tp3) (most:Int) (r4:Tf1) (d d_1:Int) (number:Tp2) (number_1:Tp8) (l:Tp2) (d_2:Tp7) (d_3:Tp8):Option Tp1:=
  if (decide ((d_2.length:Int) < (l.length:Int)))=true then
  G (0<=(d_2.length:Int)/\(d_2.length:Int) < (l.length:Int)) (
  G (((d_2.length:Int)).toNat < l.length) (
  G (mkOK letters letters 8) (
  zaA letters c c_1 c_2 c_3 most d d_1 l d_2 d_3 r4 (0:Int) number number_1 l (List.replicate (letters).toNat (0:Int))))) else
  some ((d,(d_1,(d_2,(d_3,())))),true)
def zfj (letters:Int) (c:Tp3) (c_1 c_2:Int) (c_3:Tp3) (most:Int):(Int×Int×Tp2×Tp8×Tp2×Tp7×Tp8->Option Tp1)->Int×Int×Tp2×Tp8×Tp2×Tp7×Tp8->Option Tp1:=
  fun rec x=>zaQ letters c c_1 c_2 c_3 most (fun d d_1 number number_1 l d_2 d_3=>rec (d,d_1,number,number_1,l,d_2,d_3)) x.1 x.2.1 x.2.2.1 x.2.2.2.1 x.2.2.2.2.1 x.2.2.2.2.2.1 x.2.2.2.2.2.2
def zcP (letters:Int) (c:Tp3) (c_1 c_2:Int) (c_3:Tp3) (most d d_1:Int) (number:Tp2) (number_1:Tp8) (l:Tp2) (d_2:Tp7) (d_3:Tp8):Option Tp1:=LFix (zfj letters c c_1 c_2 c_3 most ) (d,d_1,number,number_1,l,d_2,d_3)
def zg5 (letters:Int) (first:Tp4) (c:Tp3) (c_1 c_2:Int) (c_3:Tp3) (most:Int):Option Tp1:=
  zcP letters c c_1 c_2 c_3 most letters (0:Int) (zfS ([]:List Tp4) ((first.1.1,(first.1.2.1,(first.1.2.2.1,(first.1.2.2.2.1,())))),(first.2.1,()))) (zkn ([]:List Tp4) ([]:List Int) ((first.1.1,(first.1.2.1,(first.1.2.2.1,(first.1.2.2.2.1,())))),(first.2.1,())) (0:Int)) ([((first.1.1,(first.1.2.1,(first.1.2.2.1,(first.1.2.2.2.1,())))),(first.2.1,()))]) ([]:List Tp8) ([]:List Int)
theorem zhm (r8:Nat->Tf2) (r8':Tf2) (h_r8:∀ a0 a1 a2 a3 a4,ChO (fun κ=>r8 κ a0 a1 a2 a3 a4) (r8' a0 a1 a2 a3 a4)) (t row n number_4 number_5 l_2):ChO (fun κ=>zbg t row (r8 κ) n number_4 number_5 l_2) (zbg t row r8' n number_4 number_5 l_2):=by
  unfold zbg
  repeat' with_reducible first | exact ChO.const _ | exact h_r8 _ _ _ _ _ | apply ChO.G
theorem zdA (r4:Nat->Tf1) (r4':Tf1) (h_r4:∀ a0 a1 a2 a3 a4 a5 a6,ChO (fun κ=>r4 κ a0 a1 a2 a3 a4 a5 a6) (r4' a0 a1 a2 a3 a4 a5 a6)) (r8:Nat->Tf2) (r8':Tf2) (h_r8:∀ a0 a1 a2 a3 a4,ChO (fun κ=>r8 κ a0 a1 a2 a3 a4) (r8' a0 a1 a2 a3 a4)) (letters c c_1 c_2 c_3 most d d_1 l d_2 d_3 t number_2 number_3 l_1 row):ChO (fun κ=>zaR letters c c_1 c_2 c_3 most d d_1 l d_2 d_3 (r4 κ) (r8 κ) t number_2 number_3 l_1 row) (zaR letters c c_1 c_2 c_3 most d d_1 l d_2 d_3 r4' r8' t number_2 number_3 l_1 row):=by
  unfold zaR
  repeat' with_reducible first | exact ChO.const _ | exact h_r4 _ _ _ _ _ _ _ | exact h_r8 _ _ _ _ _ | (apply zhm<;>assumption) | apply ChO.ite | apply ChO.G | (apply ChO.bind;intro _)
theorem zcE (r4 letters c c_1 c_2 c_3 most d d_1 l d_2 d_3):Cn (zfk letters c c_1 c_2 c_3 most d d_1 l d_2 d_3 r4):=fun g h hg x=>zdA (fun _=>r4) r4 (fun _ _ _ _ _ _ _=>ChO.const _) _ _ (fun a0 a1 a2 a3 a4=>hg (a0,a1,a2,a3,a4)) letters c c_1 c_2 c_3 most d d_1 l d_2 d_3 x.1 x.2.1 x.2.2.1 x.2.2.2.1 x.2.2.2.2
theorem zex (r4 letters c c_1 c_2 c_3 most d d_1 l d_2 d_3 t number_2 number_3 l_1 row):zaA letters c c_1 c_2 c_3 most d d_1 l d_2 d_3 r4 t number_2 number_3 l_1 row=zaR letters c c_1 c_2 c_3 most d d_1 l d_2 d_3 r4 (zaA letters c c_1 c_2 c_3 most d d_1 l d_2 d_3 r4) t number_2 number_3 l_1 row:=zaK (zcE r4 letters c c_1 c_2 c_3 most d d_1 l d_2 d_3) (t,number_2,number_3,l_1,row)
theorem zij (r4:Nat->Tf1) (r4':Tf1) (h_r4:∀ a0 a1 a2 a3 a4 a5 a6,ChO (fun κ=>r4 κ a0 a1 a2 a3 a4 a5 a6) (r4' a0 a1 a2 a3 a4 a5 a6)) (letters c c_1 c_2 c_3 most d d_1 l d_2 d_3 t number_2 number_3 l_1 row):ChO (fun κ=>zaA letters c c_1 c_2 c_3 most d d_1 l d_2 d_3 (r4 κ) t number_2 number_3 l_1 row) (zaA letters c c_1 c_2 c_3 most d d_1 l d_2 d_3 r4' t number_2 number_3 l_1 row):=by
  unfold zaA
  exact zjK (fun κ=>(zcE (r4 κ) letters c c_1 c_2 c_3 most d d_1 l d_2 d_3).mono) (zcE r4' letters c c_1 c_2 c_3 most d d_1 l d_2 d_3).mono (fun g h hg x=>zdA r4 r4' h_r4 _ _ (fun a0 a1 a2 a3 a4=>hg (a0,a1,a2,a3,a4)) letters c c_1 c_2 c_3 most d d_1 l d_2 d_3 x.1 x.2.1 x.2.2.1 x.2.2.2.1 x.2.2.2.2) _
theorem zg6 (r4:Nat->Tf1) (r4':Tf1) (h_r4:∀ a0 a1 a2 a3 a4 a5 a6,ChO (fun κ=>r4 κ a0 a1 a2 a3 a4 a5 a6) (r4' a0 a1 a2 a3 a4 a5 a6)) (letters c c_1 c_2 c_3 most d d_1 number number_1 l d_2 d_3):ChO (fun κ=>zaQ letters c c_1 c_2 c_3 most (r4 κ) d d_1 number number_1 l d_2 d_3) (zaQ letters c c_1 c_2 c_3 most r4' d d_1 number number_1 l d_2 d_3):=by
  unfold zaQ
  repeat' with_reducible first | exact ChO.const _ | exact h_r4 _ _ _ _ _ _ _ | (apply zij<;>assumption) | apply ChO.ite | apply ChO.G
theorem zii (letters c c_1 c_2 c_3 most):Cn (zfj letters c c_1 c_2 c_3 most):=fun g h hg x=>zg6  _ _ (fun a0 a1 a2 a3 a4 a5 a6=>hg (a0,a1,a2,a3,a4,a5,a6)) letters c c_1 c_2 c_3 most x.1 x.2.1 x.2.2.1 x.2.2.2.1 x.2.2.2.2.1 x.2.2.2.2.2.1 x.2.2.2.2.2.2
theorem zew (letters c c_1 c_2 c_3 most d d_1 number number_1 l d_2 d_3):zcP letters c c_1 c_2 c_3 most d d_1 number number_1 l d_2 d_3=zaQ letters c c_1 c_2 c_3 most (zcP letters c c_1 c_2 c_3 most) d d_1 number number_1 l d_2 d_3:=zaK (zii letters c c_1 c_2 c_3 most) (d,d_1,number,number_1,l,d_2,d_3)

def zdp (m:Tp3) (first first_1 first_2 first_3 first_4:Int):Option (Tp3×Int):=
  (zg5 m.1 ((first,(first_1,(first_2,(first_3,())))),(first_4,())) (m.1,(m.2.1,(m.2.2.1,(m.2.2.2.1,())))) (m.2.2.1.length:Int) (m.2.2.1.length:Int) (m.1,(m.2.1,(m.2.2.1,(m.2.2.2.1,())))) (1000:Int)).bind (fun y'_4=>
  some ((y'_4.1.1,(y'_4.1.2.1,(y'_4.1.2.2.1,(y'_4.1.2.2.2.1,())))),(0:Int)))
def zdv (m:Tp3):Option (Tp3×Int):=
  (zdZ (m.1,(m.2.1,(m.2.2.1,(m.2.2.2.1,()))))).bind (fun y'=>
  if (decide (¬ y'=(0:Int)))=true then
  some (((0:Int),((0:Int),([],([],())))),y') else
  both [(.pair (.int .i64) (.pair (.int .i64) (.pair (.list (.list (.int .i64))) (.pair (.list (.int .i64)) .unit)))),(.int .i64)] (
  G (0<=m.2.1/\m.2.1 < (4:Int)) (
  G ((m.2.1).toNat < 4) (
  zdp m (([m.2.1,(1:Int),(2:Int),(3:Int)].set (m.2.1).toNat (0:Int)).getD 0 0) (([m.2.1,(1:Int),(2:Int),(3:Int)].set (m.2.1).toNat (0:Int)).getD 1 0) (([m.2.1,(1:Int),(2:Int),(3:Int)].set (m.2.1).toNat (0:Int)).getD 2 0) (([m.2.1,(1:Int),(2:Int),(3:Int)].set (m.2.1).toNat (0:Int)).getD 3 0) (0:Int)))) (
  G (0<=m.2.1/\m.2.1 < (4:Int)) (
  G ((m.2.1).toNat < 4) (
  zdp m (([m.2.1,(1:Int),(2:Int),(3:Int)].set (m.2.1).toNat (0:Int)).getD 0 0) (([m.2.1,(1:Int),(2:Int),(3:Int)].set (m.2.1).toNat (0:Int)).getD 1 0) (([m.2.1,(1:Int),(2:Int),(3:Int)].set (m.2.1).toNat (0:Int)).getD 2 0) (([m.2.1,(1:Int),(2:Int),(3:Int)].set (m.2.1).toNat (0:Int)).getD 3 0) (0:Int)))))

def zaB (m:Tp3) (q_1:Int) (r14:(Int->Option (Int))) (r17:Int->Option (Int)) (a:Int):Option (Int):=
  if (decide (a < m.1))=true then
  G (0<=q_1/\q_1 < (m.2.2.1.length:Int)) (
  G (0<=a/\a < ((ix m.2.2.1 q_1).length:Int)) (
  if (decide ((ix (ix m.2.2.1 q_1) a) < (0:Int)))=true then
  some (2:Int) else
  G (0<=q_1/\q_1 < (m.2.2.1.length:Int)) (
  G (0<=a/\a < ((ix m.2.2.1 q_1).length:Int)) (
  if (decide ((m.2.2.1.length:Int)<=(ix (ix m.2.2.1 q_1) a)))=true then
  some (2:Int) else
  G (fits (a+(1:Int))) (
  r17 (a+(1:Int))))))) else
  G (fits (q_1+(1:Int))) (
  r14 (q_1+(1:Int)))
def zf5 (m:Tp3) (q_1:Int) (r14:(Int->Option (Int))):(Int->Option (Int))->Int->Option (Int):=
  fun rec x=>zaB m q_1 r14 (fun a=>rec a) x
def zbG (m:Tp3) (q_1:Int) (r14:(Int->Option (Int))) (a:Int):Option (Int):=LFix (zf5 m q_1 r14 ) a
def zaC (m:Tp3) (r27:Int->Option (Int)) (i_1:Int):Option (Int):=
  if (decide (i_1 < (m.2.2.2.1.length:Int)))=true then
  G (fits (i_1 - (1:Int))) (
  G (0<=i_1 - (1:Int)/\i_1 - (1:Int) < (m.2.2.2.1.length:Int)) (
  G (0<=i_1/\i_1 < (m.2.2.2.1.length:Int)) (
  if (decide ((ix m.2.2.2.1 i_1)<=(ix m.2.2.2.1 (i_1 - (1:Int)))))=true then
  some (3:Int) else
  G (fits (i_1+(1:Int))) (
  r27 (i_1+(1:Int)))))) else
  some (0:Int)
def zf7 (m:Tp3):(Int->Option (Int))->Int->Option (Int):=
  fun rec x=>zaC m (fun i_1=>rec i_1) x
def zff (m:Tp3) (i_1:Int):Option (Int):=LFix (zf7 m ) i_1
def zaN (m:Tp3) (r22:Int->Option (Int)) (i:Int):Option (Int):=
  if (decide (i < (m.2.2.2.1.length:Int)))=true then
  G (0<=i/\i < (m.2.2.2.1.length:Int)) (
  if (decide ((ix m.2.2.2.1 i) < (1:Int)))=true then
  some (2:Int) else
  G (0<=i/\i < (m.2.2.2.1.length:Int)) (
  G (0<=(m.2.2.1.length:Int)) (
  if (decide ((ishl .i64 (1:Int) (m.2.2.1.length:Int))<=(ix m.2.2.2.1 i)))=true then
  some (2:Int) else
  G (fits (i+(1:Int))) (
  r22 (i+(1:Int)))))) else
  zff m (1:Int)
def zf6 (m:Tp3):(Int->Option (Int))->Int->Option (Int):=
  fun rec x=>zaN m (fun i=>rec i) x
def zfe (m:Tp3) (i:Int):Option (Int):=LFix (zf6 m ) i
def zaM (m:Tp3) (r14:Int->Option (Int)) (q_1:Int):Option (Int):=
  if (decide (q_1 < (m.2.2.1.length:Int)))=true then
  zbG m q_1 r14 (0:Int) else
  zfe m (0:Int)
def zf4 (m:Tp3):(Int->Option (Int))->Int->Option (Int):=
  fun rec x=>zaM m (fun q_1=>rec q_1) x
def zfd (m:Tp3) (q_1:Int):Option (Int):=LFix (zf4 m ) q_1
def za0 (m:Tp3) (r7:Int->Option (Int)) (q:Int):Option (Int):=
  if (decide (q < (m.2.2.1.length:Int)))=true then
  G (0<=q/\q < (m.2.2.1.length:Int)) (
  if (decide (¬ ((ix m.2.2.1 q).length:Int)=m.1))=true then
  some (3:Int) else
  G (fits (q+(1:Int))) (
  r7 (q+(1:Int)))) else
  if (decide (m.2.1 < (0:Int)))=true then
  some (2:Int) else
  if (decide ((m.2.2.1.length:Int)<=m.2.1))=true then
  some (2:Int) else
  zfd m (0:Int)
def zgQ (m:Tp3):(Int->Option (Int))->Int->Option (Int):=
  fun rec x=>za0 m (fun q=>rec q) x
def zf8 (m:Tp3) (q:Int):Option (Int):=LFix (zgQ m ) q
def zhT (m:Tp3):Option (Int):=
  if (decide (m.1 < (1:Int)))=true then
  some (2:Int) else
  if (decide ((4:Int) < m.1))=true then
  some (2:Int) else
  if (decide ((m.2.2.1.length:Int) < (1:Int)))=true then
  some (1:Int) else
  if (decide ((4:Int) < (m.2.2.1.length:Int)))=true then
  some (1:Int) else
  zf8 m (0:Int)
theorem zec (r14:Nat->Int->Option (Int)) (r14':Int->Option (Int)) (h_r14:∀ a0,ChO (fun κ=>r14 κ a0) (r14' a0)) (r17:Nat->Int->Option (Int)) (r17':Int->Option (Int)) (h_r17:∀ a0,ChO (fun κ=>r17 κ a0) (r17' a0)) (m q_1 a):ChO (fun κ=>zaB m q_1 (r14 κ) (r17 κ) a) (zaB m q_1 r14' r17' a):=by
  unfold zaB
  repeat' with_reducible first | exact ChO.const _ | exact h_r14 _ | exact h_r17 _ | apply ChO.ite | apply ChO.G
theorem zde (r14 m q_1):Cn (zf5 m q_1 r14):=fun g h hg x=>zec (fun _=>r14) r14 (fun _=>ChO.const _) _ _ (fun a=>hg a) m q_1 x
theorem zbT (r14 m q_1 a):zbG m q_1 r14 a=zaB m q_1 r14 (zbG m q_1 r14) a:=zaK (zde r14 m q_1) a
theorem zjl (r14:Nat->Int->Option (Int)) (r14':Int->Option (Int)) (h_r14:∀ a0,ChO (fun κ=>r14 κ a0) (r14' a0)) (m q_1 a):ChO (fun κ=>zbG m q_1 (r14 κ) a) (zbG m q_1 r14' a):=by
  unfold zbG
  exact zjK (fun κ=>(zde (r14 κ) m q_1).mono) (zde r14' m q_1).mono (fun g h hg x=>zec r14 r14' h_r14 _ _ (fun a=>hg a) m q_1 x) _
theorem zhW (r27:Nat->Int->Option (Int)) (r27':Int->Option (Int)) (h_r27:∀ a0,ChO (fun κ=>r27 κ a0) (r27' a0)) (m i_1):ChO (fun κ=>zaC m (r27 κ) i_1) (zaC m r27' i_1):=by
  unfold zaC
  repeat' with_reducible first | exact ChO.const _ | exact h_r27 _ | apply ChO.ite | apply ChO.G
theorem zjn (m):Cn (zf7 m):=fun g h hg x=>zhW  _ _ (fun a=>hg a) m x
theorem zbU (m i_1):zff m i_1=zaC m (zff m) i_1:=zaK (zjn m) i_1
theorem zhV (r22:Nat->Int->Option (Int)) (r22':Int->Option (Int)) (h_r22:∀ a0,ChO (fun κ=>r22 κ a0) (r22' a0)) (m i):ChO (fun κ=>zaN m (r22 κ) i) (zaN m r22' i):=by
  unfold zaN
  repeat' with_reducible first | exact ChO.const _ | exact h_r22 _ | apply ChO.ite | apply ChO.G
theorem zjm (m):Cn (zf6 m):=fun g h hg x=>zhV  _ _ (fun a=>hg a) m x
theorem zdf (m i):zfe m i=zaN m (zfe m) i:=zaK (zjm m) i
theorem zhU (r14:Nat->Int->Option (Int)) (r14':Int->Option (Int)) (h_r14:∀ a0,ChO (fun κ=>r14 κ a0) (r14' a0)) (m q_1):ChO (fun κ=>zaM m (r14 κ) q_1) (zaM m r14' q_1):=by
  unfold zaM
  repeat' with_reducible first | exact ChO.const _ | exact h_r14 _ | (apply zjl<;>assumption) | apply ChO.ite
theorem zjk (m):Cn (zf4 m):=fun g h hg x=>zhU  _ _ (fun a=>hg a) m x
theorem zdd (m q_1):zfd m q_1=zaM m (zfd m) q_1:=zaK (zjk m) q_1
theorem ziA (r7:Nat->Int->Option (Int)) (r7':Int->Option (Int)) (h_r7:∀ a0,ChO (fun κ=>r7 κ a0) (r7' a0)) (m q):ChO (fun κ=>za0 m (r7 κ) q) (za0 m r7' q):=by
  unfold za0
  repeat' with_reducible first | exact ChO.const _ | exact h_r7 _ | apply ChO.ite | apply ChO.G
theorem zky (m):Cn (zgQ m):=fun g h hg x=>ziA  _ _ (fun a=>hg a) m x
theorem zdE (m q):zf8 m q=za0 m (zf8 m) q:=zaK (zky m) q

def zhz (d:Tp3):Option (Bool):=
  if (decide (d.1=(0:Int)))=true then
  if (decide (d.2.1=(0:Int)))=true then
  G (fits ((d.2.2.1.length:Int)+(d.2.2.2.1.length:Int))) (
  some (decide (((d.2.2.1.length:Int)+(d.2.2.2.1.length:Int))=(0:Int)))) else
  some false else
  some false

def zaJ (d:Tp3) (i_1:Int) (r16:(Int->Option (Int))) (r19:Int->Option (Int)) (k:Int):Option (Int):=
  if (decide (k < d.1))=true then
  G (0<=i_1/\i_1 < (d.2.2.1.length:Int)) (
  G (0<=k/\k < ((ix d.2.2.1 i_1).length:Int)) (
  if (decide ((ix (ix d.2.2.1 i_1) k) < (0:Int)))=true then
  some (2:Int) else
  G (0<=i_1/\i_1 < (d.2.2.1.length:Int)) (
  G (0<=k/\k < ((ix d.2.2.1 i_1).length:Int)) (
  if (decide ((d.2.2.1.length:Int)<=(ix (ix d.2.2.1 i_1) k)))=true then
  some (2:Int) else
  G (fits (k+(1:Int))) (
  r19 (k+(1:Int))))))) else
  G (fits (i_1+(1:Int))) (
  r16 (i_1+(1:Int)))
def zgW (d:Tp3) (i_1:Int) (r16:(Int->Option (Int))):(Int->Option (Int))->Int->Option (Int):=
  fun rec x=>zaJ d i_1 r16 (fun k=>rec k) x
def zb5 (d:Tp3) (i_1:Int) (r16:(Int->Option (Int))) (k:Int):Option (Int):=LFix (zgW d i_1 r16 ) k
def za2 (d:Tp3) (r24:Int->Option (Int)) (i_2:Int):Option (Int):=
  if (decide (i_2 < (d.2.2.1.length:Int)))=true then
  G (0<=i_2/\i_2 < (d.2.2.2.1.length:Int)) (
  if (decide ((ix d.2.2.2.1 i_2) < (0:Int)))=true then
  some (2:Int) else
  G (0<=i_2/\i_2 < (d.2.2.2.1.length:Int)) (
  if (decide ((9:Int) < (ix d.2.2.2.1 i_2)))=true then
  some (2:Int) else
  G (fits (i_2+(1:Int))) (
  r24 (i_2+(1:Int))))) else
  some (0:Int)
def zgX (d:Tp3):(Int->Option (Int))->Int->Option (Int):=
  fun rec x=>za2 d (fun i_2=>rec i_2) x
def zgc (d:Tp3) (i_2:Int):Option (Int):=LFix (zgX d ) i_2
def za1 (d:Tp3) (r16:Int->Option (Int)) (i_1:Int):Option (Int):=
  if (decide (i_1 < (d.2.2.1.length:Int)))=true then
  zb5 d i_1 r16 (0:Int) else
  zgc d (0:Int)
def zgV (d:Tp3):(Int->Option (Int))->Int->Option (Int):=
  fun rec x=>za1 d (fun i_1=>rec i_1) x
def zgb (d:Tp3) (i_1:Int):Option (Int):=LFix (zgV d ) i_1
def za8 (d:Tp3) (r9:Int->Option (Int)) (i:Int):Option (Int):=
  if (decide (i < (d.2.2.1.length:Int)))=true then
  G (0<=i/\i < (d.2.2.1.length:Int)) (
  if (decide (¬ ((ix d.2.2.1 i).length:Int)=d.1))=true then
  some (3:Int) else
  G (fits (i+(1:Int))) (
  r9 (i+(1:Int)))) else
  if (decide (d.2.1 < (0:Int)))=true then
  some (2:Int) else
  if (decide ((d.2.2.1.length:Int)<=d.2.1))=true then
  some (2:Int) else
  zgb d (0:Int)
def zh4 (d:Tp3):(Int->Option (Int))->Int->Option (Int):=
  fun rec x=>za8 d (fun i=>rec i) x
def zhe (d:Tp3) (i:Int):Option (Int):=LFix (zh4 d ) i
def zjG (d:Tp3):Option (Int):=
  if (decide (d.1 < (1:Int)))=true then
  some (2:Int) else
  if (decide ((4:Int) < d.1))=true then
  some (2:Int) else
  if (decide ((d.2.2.1.length:Int) < (1:Int)))=true then
  some (1:Int) else
  if (decide ((20000:Int) < (d.2.2.1.length:Int)))=true then
  some (1:Int) else
  if (decide (¬ (d.2.2.2.1.length:Int)=(d.2.2.1.length:Int)))=true then
  some (3:Int) else
  zhe d (0:Int)
theorem zeO (r16:Nat->Int->Option (Int)) (r16':Int->Option (Int)) (h_r16:∀ a0,ChO (fun κ=>r16 κ a0) (r16' a0)) (r19:Nat->Int->Option (Int)) (r19':Int->Option (Int)) (h_r19:∀ a0,ChO (fun κ=>r19 κ a0) (r19' a0)) (d i_1 k):ChO (fun κ=>zaJ d i_1 (r16 κ) (r19 κ) k) (zaJ d i_1 r16' r19' k):=by
  unfold zaJ
  repeat' with_reducible first | exact ChO.const _ | exact h_r16 _ | exact h_r19 _ | apply ChO.ite | apply ChO.G
theorem zdH (r16 d i_1):Cn (zgW d i_1 r16):=fun g h hg x=>zeO (fun _=>r16) r16 (fun _=>ChO.const _) _ _ (fun a=>hg a) d i_1 x
theorem zck (r16 d i_1 k):zb5 d i_1 r16 k=zaJ d i_1 r16 (zb5 d i_1 r16) k:=zaK (zdH r16 d i_1) k
theorem zkC (r16:Nat->Int->Option (Int)) (r16':Int->Option (Int)) (h_r16:∀ a0,ChO (fun κ=>r16 κ a0) (r16' a0)) (d i_1 k):ChO (fun κ=>zb5 d i_1 (r16 κ) k) (zb5 d i_1 r16' k):=by
  unfold zb5
  exact zjK (fun κ=>(zdH (r16 κ) d i_1).mono) (zdH r16' d i_1).mono (fun g h hg x=>zeO r16 r16' h_r16 _ _ (fun a=>hg a) d i_1 x) _
theorem ziD (r24:Nat->Int->Option (Int)) (r24':Int->Option (Int)) (h_r24:∀ a0,ChO (fun κ=>r24 κ a0) (r24' a0)) (d i_2):ChO (fun κ=>za2 d (r24 κ) i_2) (za2 d r24' i_2):=by
  unfold za2
  repeat' with_reducible first | exact ChO.const _ | exact h_r24 _ | apply ChO.ite | apply ChO.G
theorem zkD (d):Cn (zgX d):=fun g h hg x=>ziD  _ _ (fun a=>hg a) d x
theorem zdI (d i_2):zgc d i_2=za2 d (zgc d) i_2:=zaK (zkD d) i_2
theorem ziC (r16:Nat->Int->Option (Int)) (r16':Int->Option (Int)) (h_r16:∀ a0,ChO (fun κ=>r16 κ a0) (r16' a0)) (d i_1):ChO (fun κ=>za1 d (r16 κ) i_1) (za1 d r16' i_1):=by
  unfold za1
  repeat' with_reducible first | exact ChO.const _ | exact h_r16 _ | (apply zkC<;>assumption) | apply ChO.ite
theorem zkB (d):Cn (zgV d):=fun g h hg x=>ziC  _ _ (fun a=>hg a) d x
theorem zdG (d i_1):zgb d i_1=za1 d (zgb d) i_1:=zaK (zkB d) i_1
theorem zjr (r9:Nat->Int->Option (Int)) (r9':Int->Option (Int)) (h_r9:∀ a0,ChO (fun κ=>r9 κ a0) (r9' a0)) (d i):ChO (fun κ=>za8 d (r9 κ) i) (za8 d r9' i):=by
  unfold za8
  repeat' with_reducible first | exact ChO.const _ | exact h_r9 _ | apply ChO.ite | apply ChO.G
theorem zk3 (d):Cn (zh4 d):=fun g h hg x=>zjr  _ _ (fun a=>hg a) d x
theorem zep (d i):zhe d i=za8 d (zhe d) i:=zaK (zk3 d) i

def zbY (letters:Int) (w:Tp8) (r6:Int->Option (Int)) (i:Int):Option (Int):=
  if (decide (i < (w.length:Int)))=true then
  G (0<=i/\i < (w.length:Int)) (
  if (decide ((ix w i) < (0:Int)))=true then
  some (2:Int) else
  G (0<=i/\i < (w.length:Int)) (
  if (decide (letters<=(ix w i)))=true then
  some (2:Int) else
  G (fits (i+(1:Int))) (
  r6 (i+(1:Int))))) else
  some (0:Int)
def zkw (letters:Int) (w:Tp8):(Int->Option (Int))->Int->Option (Int):=
  fun rec x=>zbY letters w (fun i=>rec i) x
def zhP (letters:Int) (w:Tp8) (i:Int):Option (Int):=LFix (zkw letters w ) i
def zm1 (letters:Int) (w:Tp8):Option (Int):=
  if (decide (letters < (1:Int)))=true then
  some (2:Int) else
  if (decide ((4:Int) < letters))=true then
  some (2:Int) else
  if (decide ((60:Int) < (w.length:Int)))=true then
  some (1:Int) else
  zhP letters w (0:Int)
theorem zkZ (r6:Nat->Int->Option (Int)) (r6':Int->Option (Int)) (h_r6:∀ a0,ChO (fun κ=>r6 κ a0) (r6' a0)) (letters w i):ChO (fun κ=>zbY letters w (r6 κ) i) (zbY letters w r6' i):=by
  unfold zbY
  repeat' with_reducible first | exact ChO.const _ | exact h_r6 _ | apply ChO.ite | apply ChO.G
theorem zm2 (letters w):Cn (zkw letters w):=fun g h hg x=>zkZ  _ _ (fun a=>hg a) letters w x
theorem ziY (letters w i):zhP letters w i=zbY letters w (zhP letters w) i:=zaK (zm2 letters w) i

def zjE (letters:Int) (l:Tp5):Option (Int):=
  (zm1 letters l.1).bind (fun y'=>
  if (decide (¬ y'=(0:Int)))=true then
  some y' else
  (zm1 letters l.2.1).bind (fun y'_1=>
  if (decide (¬ y'_1=(0:Int)))=true then
  some y'_1 else
  if (decide ((l.2.1.length:Int)=(0:Int)))=true then
  some (1:Int) else
  some (0:Int)))

def zaI (m:Tp3) (l:Tp5) (round:Int) (r8:(Int->Int->Int->Option (Bool))) (r13:Tf3) (q_2 set'_2 i_1:Int):Option (Bool):=
  if (decide (i_1 < (l.2.1.length:Int)))=true then
  G (0<=q_2/\q_2 < (m.2.2.1.length:Int)) (
  G (0<=i_1/\i_1 < (l.2.1.length:Int)) (
  G (0<=ix l.2.1 i_1/\ix l.2.1 i_1 < ((ix m.2.2.1 q_2).length:Int)) (
  G (0<=ix (ix m.2.2.1 q_2) (ix l.2.1 i_1)) (
  G (fits (i_1+(1:Int))) (
  r13 (ix (ix m.2.2.1 q_2) (ix l.2.1 i_1)) (ior .i64 set'_2 (ishl .i64 (1:Int) (ix (ix m.2.2.1 q_2) (ix l.2.1 i_1)))) (i_1+(1:Int))))))) else
  G (fits (round+(1:Int))) (
  r8 q_2 set'_2 (round+(1:Int)))
def zeK (m:Tp3) (l:Tp5) (round:Int) (r8:(Int->Int->Int->Option (Bool))):(Int×Int×Int->Option (Bool))->Int×Int×Int->Option (Bool):=
  fun rec x=>zaI m l round r8 (fun q_2 set'_2 i_1=>rec (q_2,set'_2,i_1)) x.1 x.2.1 x.2.2
def zaL (m:Tp3) (l:Tp5) (round:Int) (r8:(Int->Int->Int->Option (Bool))) (q_2 set'_2 i_1:Int):Option (Bool):=LFix (zeK m l round r8 ) (q_2,set'_2,i_1)
def za4 (m:Tp3) (l:Tp5) (q_1 round:Int) (r8:(Int->Int->Int->Option (Bool))) (set'_1:Int):Option (Bool):=
  zaL m l round r8 q_1 set'_1 (0:Int)
def zau (m:Tp3) (set':Int) (r18:Int->Option (Bool)) (i_2:Int):Option (Bool):=
  if (decide (i_2 < (m.2.2.2.1.length:Int)))=true then
  G (0<=i_2/\i_2 < (m.2.2.2.1.length:Int)) (
  if (decide ((ix m.2.2.2.1 i_2)=set'))=true then
  some true else
  G (fits (i_2+(1:Int))) (
  r18 (i_2+(1:Int)))) else
  some false
def zeL (m:Tp3) (set':Int):(Int->Option (Bool))->Int->Option (Bool):=
  fun rec x=>zau m set' (fun i_2=>rec i_2) x
def zbx (m:Tp3) (set' i_2:Int):Option (Bool):=LFix (zeL m set' ) i_2
def zaH (m:Tp3) (l:Tp5) (r8:Tf3) (q_1 set' round:Int):Option (Bool):=
  G (fits ((2:Int) * (m.2.2.1.length:Int))) (
  if (decide (round < ((2:Int) * (m.2.2.1.length:Int))))=true then
  if (decide (round=(m.2.2.1.length:Int)))=true then
  za4 m l q_1 round r8 (0:Int) else
  za4 m l q_1 round r8 set' else
  zbx m set' (0:Int))
def zfo (m:Tp3) (l:Tp5):(Int×Int×Int->Option (Bool))->Int×Int×Int->Option (Bool):=
  fun rec x=>zaH m l (fun q_1 set' round=>rec (q_1,set',round)) x.1 x.2.1 x.2.2
def zaZ (m:Tp3) (l:Tp5) (q_1 set' round:Int):Option (Bool):=LFix (zfo m l ) (q_1,set',round)
def zaS (m:Tp3) (l:Tp5) (r3:Int->Int->Option (Bool)) (q i:Int):Option (Bool):=
  if (decide (i < (l.1.length:Int)))=true then
  G (0<=q/\q < (m.2.2.1.length:Int)) (
  G (0<=i/\i < (l.1.length:Int)) (
  G (0<=ix l.1 i/\ix l.1 i < ((ix m.2.2.1 q).length:Int)) (
  G (fits (i+(1:Int))) (
  r3 (ix (ix m.2.2.1 q) (ix l.1 i)) (i+(1:Int)))))) else
  zaZ m l q (0:Int) (0:Int)
def zfn (m:Tp3) (l:Tp5):(Int×Int->Option (Bool))->Int×Int->Option (Bool):=
  fun rec x=>zaS m l (fun q i=>rec (q,i)) x.1 x.2
def zcT (m:Tp3) (l:Tp5) (q i:Int):Option (Bool):=LFix (zfn m l ) (q,i)
def zfc (m:Tp3) (l:Tp5):Option (Bool):=
  zcT m l m.2.1 (0:Int)
theorem zdi (r8:Nat->Tf3) (r8':Tf3) (h_r8:∀ a0 a1 a2,ChO (fun κ=>r8 κ a0 a1 a2) (r8' a0 a1 a2)) (r13:Nat->Tf3) (r13':Tf3) (h_r13:∀ a0 a1 a2,ChO (fun κ=>r13 κ a0 a1 a2) (r13' a0 a1 a2)) (m l round q_2 set'_2 i_1):ChO (fun κ=>zaI m l round (r8 κ) (r13 κ) q_2 set'_2 i_1) (zaI m l round r8' r13' q_2 set'_2 i_1):=by
  unfold zaI
  repeat' with_reducible first | exact ChO.const _ | exact h_r8 _ _ _ | exact h_r13 _ _ _ | apply ChO.ite | apply ChO.G
theorem zci (r8 m l round):Cn (zeK m l round r8):=fun g h hg x=>zdi (fun _=>r8) r8 (fun _ _ _=>ChO.const _) _ _ (fun a0 a1 a2=>hg (a0,a1,a2)) m l round x.1 x.2.1 x.2.2
theorem zeb (r8 m l round q_2 set'_2 i_1):zaL m l round r8 q_2 set'_2 i_1=zaI m l round r8 (zaL m l round r8) q_2 set'_2 i_1:=zaK (zci r8 m l round) (q_2,set'_2,i_1)
theorem zhR (r8:Nat->Tf3) (r8':Tf3) (h_r8:∀ a0 a1 a2,ChO (fun κ=>r8 κ a0 a1 a2) (r8' a0 a1 a2)) (m l round q_2 set'_2 i_1):ChO (fun κ=>zaL m l round (r8 κ) q_2 set'_2 i_1) (zaL m l round r8' q_2 set'_2 i_1):=by
  unfold zaL
  exact zjK (fun κ=>(zci (r8 κ) m l round).mono) (zci r8' m l round).mono (fun g h hg x=>zdi r8 r8' h_r8 _ _ (fun a0 a1 a2=>hg (a0,a1,a2)) m l round x.1 x.2.1 x.2.2) _
theorem zhQ (r8:Nat->Tf3) (r8':Tf3) (h_r8:∀ a0 a1 a2,ChO (fun κ=>r8 κ a0 a1 a2) (r8' a0 a1 a2)) (m l q_1 round set'_1):ChO (fun κ=>za4 m l q_1 round (r8 κ) set'_1) (za4 m l q_1 round r8' set'_1):=by
  unfold za4
  repeat' with_reducible first | exact ChO.const _ | exact h_r8 _ _ _ | (apply zhR<;>assumption)
theorem zgH (r18:Nat->Int->Option (Bool)) (r18':Int->Option (Bool)) (h_r18:∀ a0,ChO (fun κ=>r18 κ a0) (r18' a0)) (m set' i_2):ChO (fun κ=>zau m set' (r18 κ) i_2) (zau m set' r18' i_2):=by
  unfold zau
  repeat' with_reducible first | exact ChO.const _ | exact h_r18 _ | apply ChO.ite | apply ChO.G
theorem zhS (m set'):Cn (zeL m set'):=fun g h hg x=>zgH  _ _ (fun a=>hg a) m set' x
theorem zbu (m set' i_2):zbx m set' i_2=zau m set' (zbx m set') i_2:=zaK (zhS m set') i_2
theorem zhd (r8:Nat->Tf3) (r8':Tf3) (h_r8:∀ a0 a1 a2,ChO (fun κ=>r8 κ a0 a1 a2) (r8' a0 a1 a2)) (m l q_1 set' round):ChO (fun κ=>zaH m l (r8 κ) q_1 set' round) (zaH m l r8' q_1 set' round):=by
  unfold zaH
  repeat' with_reducible first | exact ChO.const _ | exact h_r8 _ _ _ | (apply zhQ<;>assumption) | apply ChO.ite | apply ChO.G
theorem ziz (m l):Cn (zfo m l):=fun g h hg x=>zhd  _ _ (fun a0 a1 a2=>hg (a0,a1,a2)) m l x.1 x.2.1 x.2.2
theorem zcI (m l q_1 set' round):zaZ m l q_1 set' round=zaH m l (zaZ m l) q_1 set' round:=zaK (ziz m l) (q_1,set',round)
theorem zhc (r3:Nat->Int->Int->Option (Bool)) (r3':Int->Int->Option (Bool)) (h_r3:∀ a0 a1,ChO (fun κ=>r3 κ a0 a1) (r3' a0 a1)) (m l q i):ChO (fun κ=>zaS m l (r3 κ) q i) (zaS m l r3' q i):=by
  unfold zaS
  repeat' with_reducible first | exact ChO.const _ | exact h_r3 _ _ | apply ChO.ite | apply ChO.G
theorem ziy (m l):Cn (zfn m l):=fun g h hg x=>zhc  _ _ (fun a0 a1=>hg (a0,a1)) m l x.1 x.2
theorem zeM (m l q i):zcT m l q i=zaS m l (zcT m l) q i:=zaK (ziy m l) (q,i)

def zbp (d:Tp3) (w:Tp8) (r2:Int->Int->Option (Int)) (q_1 i:Int):Option (Int):=
  if (decide (i < (w.length:Int)))=true then
  G (0<=q_1/\q_1 < (d.2.2.1.length:Int)) (
  G (0<=i/\i < (w.length:Int)) (
  G (0<=ix w i/\ix w i < ((ix d.2.2.1 q_1).length:Int)) (
  G (fits (i+(1:Int))) (
  r2 (ix (ix d.2.2.1 q_1) (ix w i)) (i+(1:Int)))))) else
  some q_1
def zhZ (d:Tp3) (w:Tp8):(Int×Int->Option (Int))->Int×Int->Option (Int):=
  fun rec x=>zbp d w (fun q_1 i=>rec (q_1,i)) x.1 x.2
def zfg (d:Tp3) (w:Tp8) (q_1 i:Int):Option (Int):=LFix (zhZ d w ) (q_1,i)
def zjF (d:Tp3) (q:Int) (w:Tp8):Option (Int):=
  zfg d w q (0:Int)
theorem zjo (r2:Nat->Int->Int->Option (Int)) (r2':Int->Int->Option (Int)) (h_r2:∀ a0 a1,ChO (fun κ=>r2 κ a0 a1) (r2' a0 a1)) (d w q_1 i):ChO (fun κ=>zbp d w (r2 κ) q_1 i) (zbp d w r2' q_1 i):=by
  unfold zbp
  repeat' with_reducible first | exact ChO.const _ | exact h_r2 _ _ | apply ChO.ite | apply ChO.G
theorem zk2 (d w):Cn (zhZ d w):=fun g h hg x=>zjo  _ _ (fun a0 a1=>hg (a0,a1)) d w x.1 x.2
theorem zgS (d w q_1 i):zfg d w q_1 i=zbp d w (zfg d w) q_1 i:=zaK (zk2 d w) (q_1,i)

def zaT (d:Tp3) (l:Tp5) (i_1:Int) (r8:(Int->Int->Int->Option (Bool))) (r11:Tf3) (q_2 least_1 k:Int):Option (Bool):=
  if (decide (k < (l.2.1.length:Int)))=true then
  G (0<=q_2/\q_2 < (d.2.2.1.length:Int)) (
  G (0<=k/\k < (l.2.1.length:Int)) (
  G (0<=ix l.2.1 k/\ix l.2.1 k < ((ix d.2.2.1 q_2).length:Int)) (
  G (0<=ix (ix d.2.2.1 q_2) (ix l.2.1 k)/\ix (ix d.2.2.1 q_2) (ix l.2.1 k) < (d.2.2.2.1.length:Int)) (
  if (decide ((ix d.2.2.2.1 (ix (ix d.2.2.1 q_2) (ix l.2.1 k))) < least_1))=true then
  G (0<=ix (ix d.2.2.1 q_2) (ix l.2.1 k)/\ix (ix d.2.2.1 q_2) (ix l.2.1 k) < (d.2.2.2.1.length:Int)) (
  G (fits (k+(1:Int))) (
  r11 (ix (ix d.2.2.1 q_2) (ix l.2.1 k)) (ix d.2.2.2.1 (ix (ix d.2.2.1 q_2) (ix l.2.1 k))) (k+(1:Int)))) else
  G (fits (k+(1:Int))) (
  r11 (ix (ix d.2.2.1 q_2) (ix l.2.1 k)) least_1 (k+(1:Int))))))) else
  G (fits (i_1+(1:Int))) (
  r8 q_2 least_1 (i_1+(1:Int)))
def zfp (d:Tp3) (l:Tp5) (i_1:Int) (r8:(Int->Int->Int->Option (Bool))):(Int×Int×Int->Option (Bool))->Int×Int×Int->Option (Bool):=
  fun rec x=>zaT d l i_1 r8 (fun q_2 least_1 k=>rec (q_2,least_1,k)) x.1 x.2.1 x.2.2
def zbb (d:Tp3) (l:Tp5) (i_1:Int) (r8:(Int->Int->Int->Option (Bool))) (q_2 least_1 k:Int):Option (Bool):=LFix (zfp d l i_1 r8 ) (q_2,least_1,k)
def za6 (d:Tp3) (l:Tp5) (r8:Tf3) (q_1 least i_1:Int):Option (Bool):=
  if (decide (i_1 < (d.2.2.1.length:Int)))=true then
  zbb d l i_1 r8 q_1 least (0:Int) else
  G ((2:Int)≠0) (
  some (decide ((Int.tmod least (2:Int))=(0:Int))))
def zga (d:Tp3) (l:Tp5):(Int×Int×Int->Option (Bool))->Int×Int×Int->Option (Bool):=
  fun rec x=>za6 d l (fun q_1 least i_1=>rec (q_1,least,i_1)) x.1 x.2.1 x.2.2
def zcj (d:Tp3) (l:Tp5) (q_1 least i_1:Int):Option (Bool):=LFix (zga d l ) (q_1,least,i_1)
def za5 (d:Tp3) (l:Tp5) (r3:Int->Int->Option (Bool)) (q i:Int):Option (Bool):=
  if (decide (i < (d.2.2.1.length:Int)))=true then
  (zjF (d.1,(d.2.1,(d.2.2.1,(d.2.2.2.1,())))) q l.2.1).bind (fun y'_1=>
  G (fits (i+(1:Int))) (
  r3 y'_1 (i+(1:Int)))) else
  zcj d l q (10:Int) (0:Int)
def zf9 (d:Tp3) (l:Tp5):(Int×Int->Option (Bool))->Int×Int->Option (Bool):=
  fun rec x=>za5 d l (fun q i=>rec (q,i)) x.1 x.2
def zdq (d:Tp3) (l:Tp5) (q i:Int):Option (Bool):=LFix (zf9 d l ) (q,i)
def zgD (d:Tp3) (l:Tp5):Option (Bool):=
  (zjF (d.1,(d.2.1,(d.2.2.1,(d.2.2.2.1,())))) d.2.1 l.1).bind (fun y'=>
  zdq d l y' (0:Int))
theorem zdF (r8:Nat->Tf3) (r8':Tf3) (h_r8:∀ a0 a1 a2,ChO (fun κ=>r8 κ a0 a1 a2) (r8' a0 a1 a2)) (r11:Nat->Tf3) (r11':Tf3) (h_r11:∀ a0 a1 a2,ChO (fun κ=>r11 κ a0 a1 a2) (r11' a0 a1 a2)) (d l i_1 q_2 least_1 k):ChO (fun κ=>zaT d l i_1 (r8 κ) (r11 κ) q_2 least_1 k) (zaT d l i_1 r8' r11' q_2 least_1 k):=by
  unfold zaT
  repeat' with_reducible first | exact ChO.const _ | exact h_r8 _ _ _ | exact h_r11 _ _ _ | apply ChO.ite | apply ChO.G
theorem zcJ (r8 d l i_1):Cn (zfp d l i_1 r8):=fun g h hg x=>zdF (fun _=>r8) r8 (fun _ _ _=>ChO.const _) _ _ (fun a0 a1 a2=>hg (a0,a1,a2)) d l i_1 x.1 x.2.1 x.2.2
theorem zeN (r8 d l i_1 q_2 least_1 k):zbb d l i_1 r8 q_2 least_1 k=zaT d l i_1 r8 (zbb d l i_1 r8) q_2 least_1 k:=zaK (zcJ r8 d l i_1) (q_2,least_1,k)
theorem ziB (r8:Nat->Tf3) (r8':Tf3) (h_r8:∀ a0 a1 a2,ChO (fun κ=>r8 κ a0 a1 a2) (r8' a0 a1 a2)) (d l i_1 q_2 least_1 k):ChO (fun κ=>zbb d l i_1 (r8 κ) q_2 least_1 k) (zbb d l i_1 r8' q_2 least_1 k):=by
  unfold zbb
  exact zjK (fun κ=>(zcJ (r8 κ) d l i_1).mono) (zcJ r8' d l i_1).mono (fun g h hg x=>zdF r8 r8' h_r8 _ _ (fun a0 a1 a2=>hg (a0,a1,a2)) d l i_1 x.1 x.2.1 x.2.2) _
theorem zh2 (r8:Nat->Tf3) (r8':Tf3) (h_r8:∀ a0 a1 a2,ChO (fun κ=>r8 κ a0 a1 a2) (r8' a0 a1 a2)) (d l q_1 least i_1):ChO (fun κ=>za6 d l (r8 κ) q_1 least i_1) (za6 d l r8' q_1 least i_1):=by
  unfold za6
  repeat' with_reducible first | exact ChO.const _ | exact h_r8 _ _ _ | (apply ziB<;>assumption) | apply ChO.ite | apply ChO.G
theorem zjq (d l):Cn (zga d l):=fun g h hg x=>zh2  _ _ (fun a0 a1 a2=>hg (a0,a1,a2)) d l x.1 x.2.1 x.2.2
theorem zfr (d l q_1 least i_1):zcj d l q_1 least i_1=za6 d l (zcj d l) q_1 least i_1:=zaK (zjq d l) (q_1,least,i_1)
theorem zh1 (r3:Nat->Int->Int->Option (Bool)) (r3':Int->Int->Option (Bool)) (h_r3:∀ a0 a1,ChO (fun κ=>r3 κ a0 a1) (r3' a0 a1)) (d l q i):ChO (fun κ=>za5 d l (r3 κ) q i) (za5 d l r3' q i):=by
  unfold za5
  repeat' with_reducible first | exact ChO.const _ | exact h_r3 _ _ | apply ChO.ite | apply ChO.G | (apply ChO.bind;intro _)
theorem zjp (d l):Cn (zf9 d l):=fun g h hg x=>zh1  _ _ (fun a0 a1=>hg (a0,a1)) d l x.1 x.2
theorem zfq (d l q i):zdq d l q i=za5 d l (zdq d l) q i:=zaK (zjp d l) (q,i)

def ze6 (m:Tp3) (l:Tp5):Option (Bool):=
  (zdv (m.1,(m.2.1,(m.2.2.1,(m.2.2.2.1,()))))).bind (fun y'_9=>
  (zhT (m.1,(m.2.1,(m.2.2.1,(m.2.2.2.1,()))))).bind (fun y'_3=>
  if (decide (¬ y'_3=(0:Int)))=true then
  (zhz (y'_9.1.1,(y'_9.1.2.1,(y'_9.1.2.2.1,(y'_9.1.2.2.2.1,()))))).bind (fun y'_4=>
  if (decide (y'_9.2=y'_3))=true then
  some y'_4 else
  some false) else
  (zjG (y'_9.1.1,(y'_9.1.2.1,(y'_9.1.2.2.1,(y'_9.1.2.2.2.1,()))))).bind (fun y'_5=>
  if (decide (¬ y'_9.2=(0:Int)))=true then
  some false else
  if (decide (¬ y'_5=(0:Int)))=true then
  some false else
  if (decide (¬ y'_9.1.1=m.1))=true then
  some false else
  (zjE m.1 (l.1,(l.2.1,()))).bind (fun y'_6=>
  if (decide (¬ y'_6=(0:Int)))=true then
  some true else
  (zfc (m.1,(m.2.1,(m.2.2.1,(m.2.2.2.1,())))) (l.1,(l.2.1,()))).bind (fun y'_7=>
  (zgD (y'_9.1.1,(y'_9.1.2.1,(y'_9.1.2.2.1,(y'_9.1.2.2.2.1,())))) (l.1,(l.2.1,()))).bind (fun y'_8=>
  some (decide (y'_7=y'_8))))))))

end
end Go.Proofs.Ytakgldbjamggiaa.mullerDetW
