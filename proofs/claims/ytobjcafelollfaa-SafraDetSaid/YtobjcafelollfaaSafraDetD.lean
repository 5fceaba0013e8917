import Derived.Test.YtobjcafelollfaaEv40n21
set_option maxHeartbeats 1000000
set_option maxRecDepth 20000
set_option linter.unusedVariables false
namespace Go.Proofs.Ytobjcafelollfaa.safraDetW
open Go Go.Ab
noncomputable section
abbrev Tp19:=(List Int)
abbrev Tp18:=(List Bool)
abbrev Tp17:=(List Tp19)
abbrev Tp16:=(Int×Int×Int×Unit)
abbrev Tp15:=(Int×Int×Int×Int×Unit)
abbrev Tp14:=(List Tp16)
abbrev Tp13:=(Tp19×Tp19×Unit)
abbrev Tp12:=(Int×Int×Bool×Bool×Bool×Unit)
abbrev Tp11:=(List Tp12)
abbrev Tp10:=(Int×Int×Tp17×Tp19×Unit)
abbrev Tp9:=(Tp10×Bool)
abbrev Tp8:=(Int×Tp15×Tp15×Unit)
abbrev Tp7:=(Int×Int×Tp19×Tp14×Tp19×Unit)
abbrev Tp6:=(Int×Int×Int×Tp19×Tp14×Tp19×Unit)
abbrev Tp5:=(Tp8×Int×Unit)
abbrev Tp4:=(List Tp5)
abbrev Tp3:=(Tp15×Tp15×Tp15×Tp15×Unit)
abbrev Tp2:=(Tp3×Int×Unit)
abbrev Tp1:=(Tp10×Bool×Tp3×Int×Unit)
abbrev Tf1:=Int->Int->Int->Int->Int->Int->Int->Int->Int->Int->Int->Int->Int->Int->Int->Int->Int->Int->Int->Int->Int->Int->Int->Option Tp5
abbrev Tf2:=Int->Int->Int->Int->Int->Int->Int->Int->Int->Int->Int->Int->Int->Int->Int->Int->Int->Int->Option Tp10
abbrev Tf3:=Tp2->Int->Int->Tp4->Tp19->Tp4->Tp17->Tp19->Option Tp1
abbrev Tf4:=Int->Int->Tp19->Tp19->Tp19->Tp17->Tp19->Option Tp9
abbrev Tf5:=Int->Int->Int->Bool->Bool->Bool->Option Tp5
abbrev Tf6:=Int->Tp2->Tp4->Tp19->Tp4->Tp19->Option Tp1
abbrev Tf7:=Int->Tp19->Tp19->Tp19->Tp19->Option Tp9
abbrev Tf8:=Int->Int->Int->Tp17->Tp19->Option Tp10
abbrev Tf9:=Bool->Int->Tp18->Tp18->Option (Bool)
abbrev Tf10:=Bool->Tp18->Tp18->Option (Bool)
abbrev Tf11:=Int->Tp18->Tp18->Option (Bool)
abbrev Tf12:=Bool->Int->Tp18->Option (Bool)
abbrev Tf13:=Int->Int->Int->Option (Bool)
def zkY (l:Tp19):Option Tp19:=
  G (fits ((l.length:Int)+(3:Int))) (
  G (mkOK (l.length:Int) ((l.length:Int)+(3:Int)) 8) (
  some (l.take (List.replicate ((l.length:Int)).toNat (0:Int)).length++(List.replicate ((l.length:Int)).toNat (0:Int)).drop l.length)))

def znU (a:Tp7):Option Tp7:=
  (zkY a.2.2.1).bind (fun y'=>
  (zkY a.2.2.2.2.1).bind (fun y'_1=>
  G (room ([]:List Tp16) a.2.2.2.1 24) (
  some (a.1,(a.2.1,(y',(([]:List Tp16)++a.2.2.2.1,(y'_1,()))))))))

def zck (q:Int) (t:Tp7):Option (Bool):=
  if (decide (q < (0:Int)))=true then
  some true else
  some (decide (t.2.1<=q))

def zbk (s:Tp19) (c:Tp7) (r2:Int->Option (Int)) (t:Int):Option (Int):=
  if (decide (t < (s.length:Int)))=true then
  G (0<=t/\t < (s.length:Int)) (
  (zck (ix s t) c).bind (fun y'=>
  if y'=true then
  some t else
  G (fits (t+(1:Int))) (
  r2 (t+(1:Int))))) else
  some (-1:Int)
def zev (s:Tp19) (c:Tp7):(Int->Option (Int))->Int->Option (Int):=
  fun rec x=>zbk s c (fun t=>rec t) x
def zc6 (s:Tp19) (c:Tp7) (t:Int):Option (Int):=LFix (zev s c ) t
def zhT (s:Tp19) (c:Tp7):Option (Int):=
  zc6 s c (0:Int)
theorem zg2 (r2:Nat->Int->Option (Int)) (r2':Int->Option (Int)) (h_r2:∀ a0,ChO (fun κ=>r2 κ a0) (r2' a0)) (s c t):ChO (fun κ=>zbk s c (r2 κ) t) (zbk s c r2' t):=by
  unfold zbk
  repeat' with_reducible first | exact ChO.const _ | exact h_r2 _ | apply ChO.ite | apply ChO.G | (apply ChO.bind;intro _)
theorem zhX (s c):Cn (zev s c):=fun g h hg x=>zg2  _ _ (fun a=>hg a) s c x
theorem zhY (s c t):zc6 s c t=zbk s c (zc6 s c) t:=zah (zhX s c) t

def zcs (s:Tp19) (c:Tp7):Option (Bool):=
  (zhT s c).bind (fun y'=>
  some (decide ((0:Int)<=y')))

def zdm (x':Tp16) (t c:Tp7):Option (Bool×Int×Int×Tp19×Tp14×Tp19×Unit):=
  (zck x'.1 c).bind (fun y'=>
  if y'=true then
  some (true,c) else
  (zck x'.2.2.1 c).bind (fun y'_1=>
  if y'_1=true then
  some (true,c) else
  if (decide (x'.2.1 < (0:Int)))=true then
  some (true,c) else
  some (decide (t.1<=x'.2.1),c)))

def za3 (s:Tp14) (r2:Tp7->Int->Tp7->Option Tp6) (f:Tp7) (t:Int) (l:Tp7):Option Tp6:=
  if (decide (t < (s.length:Int)))=true then
  G (0<=t/\t < (s.length:Int)) (
  (zdm (ix s t) f l).bind (fun y'_3=>
  if y'_3.1=true then
  some (t,y'_3.2) else
  G (fits (t+(1:Int))) (
  r2 f (t+(1:Int)) y'_3.2))) else
  some ((-1:Int),l)
def zdH (s:Tp14):(Tp7×Int×Int×Int×Tp19×Tp14×Tp19×Unit->Option Tp6)->Tp7×Int×Int×Int×Tp19×Tp14×Tp19×Unit->Option Tp6:=
  fun rec x=>za3 s (fun f t l=>rec (f,t,l)) x.1 x.2.1 x.2.2
def zb2 (s:Tp14) (f:Tp7) (t:Int) (l:Tp7):Option Tp6:=LFix (zdH s ) (f,t,l)
def zfV (s:Tp14) (c c_1:Tp7):Option Tp6:=
  zb2 s c (0:Int) c_1
theorem zfA (r2:Nat->Tp7->Int->Tp7->Option Tp6) (r2':Tp7->Int->Tp7->Option Tp6) (h_r2:∀ a0 a1 a2,ChO (fun κ=>r2 κ a0 a1 a2) (r2' a0 a1 a2)) (s f t l):ChO (fun κ=>za3 s (r2 κ) f t l) (za3 s r2' f t l):=by
  unfold za3
  repeat' with_reducible first | exact ChO.const _ | exact h_r2 _ _ _ | apply ChO.ite | apply ChO.G | (apply ChO.bind;intro _)
theorem zg0 (s):Cn (zdH s):=fun g h hg x=>zfA  _ _ (fun a0 a1 a2=>hg (a0,a1,a2)) s x.1 x.2.1 x.2.2
theorem zg1 (s f t l):zb2 s f t l=za3 s (zb2 s) f t l:=zah (zg0 s) (f,t,l)

def zcG (s:Tp14) (c c_1:Tp7):Option (Bool×Int×Int×Tp19×Tp14×Tp19×Unit):=
  (zfV s c c_1).bind (fun y'_3=>
  some (decide ((0:Int)<=y'_3.1),y'_3.2))

def zba (l:Tp19) (r2:Int->Option (Bool)) (t:Int):Option (Bool):=
  if (decide (t < (l.length:Int)))=true then
  if (decide ((0:Int) < t))=true then
  G (fits (t - (1:Int))) (
  G (0<=t - (1:Int)/\t - (1:Int) < (l.length:Int)) (
  G (0<=t/\t < (l.length:Int)) (
  if (decide ((ix l t)<=(ix l (t - (1:Int)))))=true then
  some false else
  G (fits (t+(1:Int))) (
  r2 (t+(1:Int)))))) else
  G (fits (t+(1:Int))) (
  r2 (t+(1:Int))) else
  some true
def zgl (l:Tp19):(Int->Option (Bool))->Int->Option (Bool):=
  fun rec x=>zba l (fun t=>rec t) x
def zdo (l:Tp19) (t:Int):Option (Bool):=LFix (zgl l ) t
def zeg (l:Tp19):Option (Bool):=
  zdo l (0:Int)
theorem zjs (r2:Nat->Int->Option (Bool)) (r2':Int->Option (Bool)) (h_r2:∀ a0,ChO (fun κ=>r2 κ a0) (r2' a0)) (l t):ChO (fun κ=>zba l (r2 κ) t) (zba l r2' t):=by
  unfold zba
  repeat' with_reducible first | exact ChO.const _ | exact h_r2 _ | apply ChO.ite | apply ChO.G
theorem zkB (l):Cn (zgl l):=fun g h hg x=>zjs  _ _ (fun a=>hg a) l x
theorem zfB (l t):zdo l t=zba l (zdo l) t:=zah (zkB l) t

def zkD (x':Int):Option (Bool):=
  some (decide (¬ x'=x'))

def zdU (x' y':Int):Option (Int):=
  (zkD x').bind (fun y'_1=>
  (zkD y').bind (fun y'_2=>
  if y'_1=true then
  if y'_2=true then
  some (0:Int) else
  some (-1:Int) else
  if y'_2=true then
  some (1:Int) else
  if (decide (x' < y'))=true then
  some (-1:Int) else
  if (decide (y' < x'))=true then
  some (1:Int) else
  some (0:Int)))

def zcl (vals:Tp19) (r3:Int->Option (Int)) (t:Int):Option (Int):=
  if (decide (t < (vals.length:Int)))=true then
  G (0<=t/\t < (vals.length:Int)) (
  if (decide (¬ (ix vals t)=(0:Int)))=true then
  some (ix vals t) else
  G (fits (t+(1:Int))) (
  r3 (t+(1:Int)))) else
  some (0:Int)
def zok (vals:Tp19):(Int->Option (Int))->Int->Option (Int):=
  fun rec x=>zcl vals (fun t=>rec t) x
def zoj (vals:Tp19) (t:Int):Option (Int):=LFix (zok vals ) t
def zul (vals:Tp19):Option (Int):=
  zoj vals (0:Int)
theorem zpO (r3:Nat->Int->Option (Int)) (r3':Int->Option (Int)) (h_r3:∀ a0,ChO (fun κ=>r3 κ a0) (r3' a0)) (vals t):ChO (fun κ=>zcl vals (r3 κ) t) (zcl vals r3' t):=by
  unfold zcl
  repeat' with_reducible first | exact ChO.const _ | exact h_r3 _ | apply ChO.ite | apply ChO.G
theorem zr3 (vals):Cn (zok vals):=fun g h hg x=>zpO  _ _ (fun a=>hg a) vals x
theorem zfE (vals t):zoj vals t=zcl vals (zoj vals) t:=zah (zr3 vals) t

def zg4 (x' y':Tp16):Option (Int):=
  (zdU x'.1 y'.1).bind (fun y'_1=>
  (zdU x'.2.1 y'.2.1).bind (fun y'_2=>
  (zdU x'.2.2.1 y'.2.2.1).bind (fun y'_3=>
  (zul ([y'_1,y'_2,y'_3])).bind (fun y'_4=>
  some y'_4))))

def zaW (a:Tp7) (r11:Int->Option (Int)) (t:Int):Option (Int):=
  if (decide (t < (a.2.2.2.1.length:Int)))=true then
  if (decide ((0:Int) < t))=true then
  G (fits (t - (1:Int))) (
  G (0<=t - (1:Int)/\t - (1:Int) < (a.2.2.2.1.length:Int)) (
  G (0<=t/\t < (a.2.2.2.1.length:Int)) (
  (zg4 (ix a.2.2.2.1 (t - (1:Int))) (ix a.2.2.2.1 t)).bind (fun y'_7=>
  if (decide ((0:Int)<=y'_7))=true then
  some (3:Int) else
  G (fits (t+(1:Int))) (
  r11 (t+(1:Int))))))) else
  G (fits (t+(1:Int))) (
  r11 (t+(1:Int))) else
  some (0:Int)
def zgk (a:Tp7):(Int->Option (Int))->Int->Option (Int):=
  fun rec x=>zaW a (fun t=>rec t) x
def zeW (a:Tp7) (t:Int):Option (Int):=LFix (zgk a ) t
def zg3 (a:Tp7):Option (Int):=
  if (decide (a.1 < (1:Int)))=true then
  some (2:Int) else
  if (decide ((4:Int) < a.1))=true then
  some (2:Int) else
  if (decide (a.2.1 < (1:Int)))=true then
  some (1:Int) else
  if (decide ((300:Int) < a.2.1))=true then
  some (1:Int) else
  if (decide ((40000:Int) < (a.2.2.2.1.length:Int)))=true then
  some (1:Int) else
  (zcs a.2.2.1 (a.1,(a.2.1,(a.2.2.1,(a.2.2.2.1,(a.2.2.2.2.1,())))))).bind (fun y'=>
  if y'=true then
  some (2:Int) else
  (zcs a.2.2.2.2.1 (a.1,(a.2.1,(a.2.2.1,(a.2.2.2.1,(a.2.2.2.2.1,())))))).bind (fun y'_1=>
  if y'_1=true then
  some (2:Int) else
  (zcG a.2.2.2.1 (a.1,(a.2.1,(a.2.2.1,(a.2.2.2.1,(a.2.2.2.2.1,()))))) (a.1,(a.2.1,(a.2.2.1,(a.2.2.2.1,(a.2.2.2.2.1,())))))).bind (fun y'_8=>
  if y'_8.1=true then
  some (2:Int) else
  (zeg a.2.2.1).bind (fun y'_5=>
  if (!y'_5)=true then
  some (3:Int) else
  (zeg a.2.2.2.2.1).bind (fun y'_6=>
  if (!y'_6)=true then
  some (3:Int) else
  zeW a (0:Int))))))
theorem zjr (r11:Nat->Int->Option (Int)) (r11':Int->Option (Int)) (h_r11:∀ a0,ChO (fun κ=>r11 κ a0) (r11' a0)) (a t):ChO (fun κ=>zaW a (r11 κ) t) (zaW a r11' t):=by
  unfold zaW
  repeat' with_reducible first | exact ChO.const _ | exact h_r11 _ | apply ChO.ite | apply ChO.G | (apply ChO.bind;intro _)
theorem zkA (a):Cn (zgk a):=fun g h hg x=>zjr  _ _ (fun a=>hg a) a x
theorem zdn (a t):zeW a t=zaW a (zeW a) t:=zah (zkA a) t

def zd8 (a:Tp7):Option (Int):=
  (zg3 (a.1,(a.2.1,(a.2.2.1,(a.2.2.2.1,(a.2.2.2.2.1,())))))).bind (fun y'=>
  if (decide (¬ y'=(0:Int)))=true then
  some y' else
  if (decide ((4:Int) < a.2.1))=true then
  some (1:Int) else
  some (0:Int))

def zbT (l:Tp19) (r3:Int->Int->Option (Int)) (n t:Int):Option (Int):=
  if (decide (t < (l.length:Int)))=true then
  G (0<=t/\t < (l.length:Int)) (
  G (0<=ix l t) (
  G (fits (t+(1:Int))) (
  r3 (ior .i64 n (ishl .i64 (1:Int) (ix l t))) (t+(1:Int))))) else
  some n
def ziU (l:Tp19):(Int×Int->Option (Int))->Int×Int->Option (Int):=
  fun rec x=>zbT l (fun n t=>rec (n,t)) x.1 x.2
def zeO (l:Tp19) (n t:Int):Option (Int):=LFix (ziU l ) (n,t)
def zeU (l:Tp19):Option (Int):=
  zeO l (0:Int) (0:Int)
theorem zlD (r3:Nat->Int->Int->Option (Int)) (r3':Int->Int->Option (Int)) (h_r3:∀ a0 a1,ChO (fun κ=>r3 κ a0 a1) (r3' a0 a1)) (l n t):ChO (fun κ=>zbT l (r3 κ) n t) (zbT l r3' n t):=by
  unfold zbT
  repeat' with_reducible first | exact ChO.const _ | exact h_r3 _ _ | apply ChO.ite | apply ChO.G
theorem znF (l):Cn (ziU l):=fun g h hg x=>zlD  _ _ (fun a0 a1=>hg (a0,a1)) l x.1 x.2
theorem zhL (l n t):zeO l n t=zbT l (zeO l) n t:=zah (znF l) (n,t)

def zbv (t:Int) (r1:(Int->Tp11->Option Tp11)) (r6:Int->Tp11->Option Tp11) (t_1:Int) (l_3:Tp11):Option Tp11:=
  if (decide (t_1 < t))=true then
  G (0<=t_1/\t_1 < (l_3.length:Int)) (
  G ((t_1).toNat < l_3.length) (
  G (0<=t/\t < (l_3.length:Int)) (
  G ((t).toNat < l_3.length) (
  if (decide ((((ix l_3 t_1).2).1)=(((ix l_3 t).2).1)))=true then
  G (0<=t/\t < (l_3.length:Int)) (
  G ((t).toNat < l_3.length) (
  G (0<=t_1/\t_1 < (l_3.length:Int)) (
  G ((t_1).toNat < l_3.length) (
  G (0<=t/\t < (l_3.length:Int)) (
  G ((t).toNat < l_3.length) (
  G (fits (t_1+(1:Int))) (
  r6 (t_1+(1:Int)) (l_3.set (t).toNat (ztA .i64 ((ix l_3 t).1) ((ix l_3 t_1).1),(ix l_3 t).2))))))))) else
  G (fits (t_1+(1:Int))) (
  r6 (t_1+(1:Int)) l_3))))) else
  G (0<=t/\t < (l_3.length:Int)) (
  G ((t).toNat < l_3.length) (
  G (0<=t/\t < (l_3.length:Int)) (
  G ((t).toNat < l_3.length) (
  G (fits (t+(1:Int))) (
  r1 (t+(1:Int)) (l_3.set (t).toNat ((ix l_3 t).1,(((ix l_3 t).2).1,((((ix l_3 t).2).2).1,(decide (((ix l_3 t).1)=(0:Int)),((((ix l_3 t).2).2).2).2))))))))))
def zhN (t:Int) (r1:(Int->Tp11->Option Tp11)):(Int×Tp11->Option Tp11)->Int×Tp11->Option Tp11:=
  fun rec x=>zbv t r1 (fun t_1 l_3=>rec (t_1,l_3)) x.1 x.2
def zbJ (t:Int) (r1:(Int->Tp11->Option Tp11)) (t_1:Int) (l_3:Tp11):Option Tp11:=LFix (zhN t r1 ) (t_1,l_3)
def zb8 (t:Int) (r1:(Int->Tp11->Option Tp11)) (l_2:Tp11):Option Tp11:=
  zbJ t r1 (0:Int) l_2
def za7 (l:Tp11) (r1:Int->Tp11->Option Tp11) (t:Int) (l_1:Tp11):Option Tp11:=
  if (decide (t < (l.length:Int)))=true then
  G (0<=t/\t < (l_1.length:Int)) (
  G ((t).toNat < l_1.length) (
  if (decide ((0:Int)<=(((ix l_1 t).2).1)))=true then
  G (0<=t/\t < (l_1.length:Int)) (
  G ((t).toNat < l_1.length) (
  G (0<=t/\t < (l_1.length:Int)) (
  G ((t).toNat < l_1.length) (
  G (0<=((ix l_1 t).2).1/\((ix l_1 t).2).1 < (l_1.length:Int)) (
  G ((((ix l_1 t).2).1).toNat < l_1.length) (
  G (0<=t/\t < (l_1.length:Int)) (
  G ((t).toNat < l_1.length) (
  zb8 t r1 (l_1.set (t).toNat (iand .i64 ((ix l_1 t).1) ((ix l_1 (((ix l_1 t).2).1)).1),(ix l_1 t).2)))))))))) else
  zb8 t r1 l_1)) else
  some l_1
def zhM (l:Tp11):(Int×Tp11->Option Tp11)->Int×Tp11->Option Tp11:=
  fun rec x=>za7 l (fun t l_1=>rec (t,l_1)) x.1 x.2
def zb9 (l:Tp11) (t:Int) (l_1:Tp11):Option Tp11:=LFix (zhM l ) (t,l_1)
def zfr (l:Tp11):Option Tp11:=
  zb9 l (0:Int) l
theorem zfs (r1:Nat->Int->Tp11->Option Tp11) (r1':Int->Tp11->Option Tp11) (h_r1:∀ a0 a1,ChO (fun κ=>r1 κ a0 a1) (r1' a0 a1)) (r6:Nat->Int->Tp11->Option Tp11) (r6':Int->Tp11->Option Tp11) (h_r6:∀ a0 a1,ChO (fun κ=>r6 κ a0 a1) (r6' a0 a1)) (t t_1 l_3):ChO (fun κ=>zbv t (r1 κ) (r6 κ) t_1 l_3) (zbv t r1' r6' t_1 l_3):=by
  unfold zbv
  repeat' with_reducible first | exact ChO.const _ | exact h_r1 _ _ | exact h_r6 _ _ | apply ChO.ite | apply ChO.G
theorem zd7 (r1 t):Cn (zhN t r1):=fun g h hg x=>zfs (fun _=>r1) r1 (fun _ _=>ChO.const _) _ _ (fun a0 a1=>hg (a0,a1)) t x.1 x.2
theorem zgR (r1 t t_1 l_3):zbJ t r1 t_1 l_3=zbv t r1 (zbJ t r1) t_1 l_3:=zah (zd7 r1 t) (t_1,l_3)
theorem zmu (r1:Nat->Int->Tp11->Option Tp11) (r1':Int->Tp11->Option Tp11) (h_r1:∀ a0 a1,ChO (fun κ=>r1 κ a0 a1) (r1' a0 a1)) (t t_1 l_3):ChO (fun κ=>zbJ t (r1 κ) t_1 l_3) (zbJ t r1' t_1 l_3):=by
  unfold zbJ
  exact zdj (fun κ=>(zd7 (r1 κ) t).mono) (zd7 r1' t).mono (fun g h hg x=>zfs r1 r1' h_r1 _ _ (fun a0 a1=>hg (a0,a1)) t x.1 x.2) _
theorem zms (r1:Nat->Int->Tp11->Option Tp11) (r1':Int->Tp11->Option Tp11) (h_r1:∀ a0 a1,ChO (fun κ=>r1 κ a0 a1) (r1' a0 a1)) (t l_2):ChO (fun κ=>zb8 t (r1 κ) l_2) (zb8 t r1' l_2):=by
  unfold zb8
  repeat' with_reducible first | exact ChO.const _ | exact h_r1 _ _ | (apply zmu<;>assumption)
theorem zkv (r1:Nat->Int->Tp11->Option Tp11) (r1':Int->Tp11->Option Tp11) (h_r1:∀ a0 a1,ChO (fun κ=>r1 κ a0 a1) (r1' a0 a1)) (l t l_1):ChO (fun κ=>za7 l (r1 κ) t l_1) (za7 l r1' t l_1):=by
  unfold za7
  repeat' with_reducible first | exact ChO.const _ | exact h_r1 _ _ | (apply zms<;>assumption) | apply ChO.ite | apply ChO.G
theorem zmt (l):Cn (zhM l):=fun g h hg x=>zkv  _ _ (fun a0 a1=>hg (a0,a1)) l x.1 x.2
theorem zd6 (l t l_1):zb9 l t l_1=za7 l (zb9 l) t l_1:=zah (zmt l) (t,l_1)

def zcL (k:Int) (r1:(Int->Tp11->Option Tp11)) (l_2:Tp11):Option Tp11:=
  G (fits (k+(1:Int))) (
  r1 (k+(1:Int)) l_2)
def zb1 (k:Int) (l_1:Tp11) (r1:(Int->Tp11->Option Tp11)) (t:Bool):Option Tp11:=
  if t=true then
  G (0<=k/\k < (l_1.length:Int)) (
  G ((k).toNat < l_1.length) (
  zcL k r1 (l_1.set (k).toNat ((ix l_1 k).1,(((ix l_1 k).2).1,((((ix l_1 k).2).2).1,(true,((((ix l_1 k).2).2).2).2))))))) else
  zcL k r1 l_1
def zbU (i:Int) (r1:Int->Tp11->Option Tp11) (k:Int) (l_1:Tp11):Option Tp11:=
  if (decide (k < (l_1.length:Int)))=true then
  G (0<=k/\k < (l_1.length:Int)) (
  G ((k).toNat < l_1.length) (
  if (decide ((((ix l_1 k).2).1)=i))=true then
  zb1 k l_1 r1 true else
  if (decide ((0:Int)<=(((ix l_1 k).2).1)))=true then
  G (0<=((ix l_1 k).2).1/\((ix l_1 k).2).1 < (l_1.length:Int)) (
  G ((((ix l_1 k).2).1).toNat < l_1.length) (
  if (((((ix l_1 (((ix l_1 k).2).1)).2).2).2).1)=true then
  zb1 k l_1 r1 (decide (i < (((ix l_1 k).2).1))) else
  zb1 k l_1 r1 false)) else
  zb1 k l_1 r1 false)) else
  some l_1
def zi1 (i:Int):(Int×Tp11->Option Tp11)->Int×Tp11->Option Tp11:=
  fun rec x=>zbU i (fun k l_1=>rec (k,l_1)) x.1 x.2
def zeP (i k:Int) (l_1:Tp11):Option Tp11:=LFix (zi1 i ) (k,l_1)
def zgT (i:Int) (l:Tp11):Option Tp11:=
  G (fits (i+(1:Int))) (
  zeP i (i+(1:Int)) l)
theorem znH (r1:Nat->Int->Tp11->Option Tp11) (r1':Int->Tp11->Option Tp11) (h_r1:∀ a0 a1,ChO (fun κ=>r1 κ a0 a1) (r1' a0 a1)) (k l_2):ChO (fun κ=>zcL k (r1 κ) l_2) (zcL k r1' l_2):=by
  unfold zcL
  repeat' with_reducible first | exact ChO.const _ | exact h_r1 _ _ | apply ChO.G
theorem znG (r1:Nat->Int->Tp11->Option Tp11) (r1':Int->Tp11->Option Tp11) (h_r1:∀ a0 a1,ChO (fun κ=>r1 κ a0 a1) (r1' a0 a1)) (k l_1 t):ChO (fun κ=>zb1 k l_1 (r1 κ) t) (zb1 k l_1 r1' t):=by
  unfold zb1
  repeat' with_reducible first | exact ChO.const _ | exact h_r1 _ _ | (apply znH<;>assumption) | apply ChO.ite | apply ChO.G
theorem zlF (r1:Nat->Int->Tp11->Option Tp11) (r1':Int->Tp11->Option Tp11) (h_r1:∀ a0 a1,ChO (fun κ=>r1 κ a0 a1) (r1' a0 a1)) (i k l_1):ChO (fun κ=>zbU i (r1 κ) k l_1) (zbU i r1' k l_1):=by
  unfold zbU
  repeat' with_reducible first | exact ChO.const _ | exact h_r1 _ _ | (apply znG<;>assumption) | apply ChO.ite | apply ChO.G
theorem znI (i):Cn (zi1 i):=fun g h hg x=>zlF  _ _ (fun a0 a1=>hg (a0,a1)) i x.1 x.2
theorem zhO (i k l_1):zeP i k l_1=zbU i (zeP i) k l_1:=zah (znI i) (k,l_1)

def zbK (t:Int) (r4:(Int->Int->Int->Int->Int->Int->Int->Int->Int->Int->Int->Int->Int->Int->Int->Int->Int->Int->Int->Int->Int->Int->Int->Option Tp5)) (p_20 p_21 p_22 p_23 p_24 p_25 p_26 p_27 p_28 p_29 now_12 now_13 now_14 now_15 now_16 now_17 now_18 now_19 now_20 now_21 now_22 now_23:Int):Option Tp5:=
  G (fits (t+(1:Int))) (
  r4 (t+(1:Int)) p_20 p_21 p_22 p_23 p_24 p_25 p_26 p_27 p_28 p_29 now_12 now_13 now_14 now_15 now_16 now_17 now_18 now_19 now_20 now_21 now_22 now_23)
def zca (t now now_1 now_2 now_3 now_4 now_5 now_6 now_7 now_8 now_9 now_10 now_11:Int) (r4:(Int->Int->Int->Int->Int->Int->Int->Int->Int->Int->Int->Int->Int->Int->Int->Int->Int->Int->Int->Int->Int->Int->Int->Option Tp5)) (p_10 p_30 p_31 p_32 p_33 p_34 p_35 p_36 p_37 p_38 p_39:Int):Option Tp5:=
  G (fits (p_30+(1:Int))) (
  zbK t r4 (p_30+(1:Int)) p_31 p_32 p_33 p_34 p_35 p_36 p_37 p_38 p_39 (([now,now_1,now_2,now_3,now_4,now_5,now_6,now_7,now_8,now_9,now_10,now_11].set ((t).toNat) p_10).getD 0 0) (([now,now_1,now_2,now_3,now_4,now_5,now_6,now_7,now_8,now_9,now_10,now_11].set ((t).toNat) p_10).getD 1 0) (([now,now_1,now_2,now_3,now_4,now_5,now_6,now_7,now_8,now_9,now_10,now_11].set ((t).toNat) p_10).getD 2 0) (([now,now_1,now_2,now_3,now_4,now_5,now_6,now_7,now_8,now_9,now_10,now_11].set ((t).toNat) p_10).getD 3 0) (([now,now_1,now_2,now_3,now_4,now_5,now_6,now_7,now_8,now_9,now_10,now_11].set ((t).toNat) p_10).getD 4 0) (([now,now_1,now_2,now_3,now_4,now_5,now_6,now_7,now_8,now_9,now_10,now_11].set ((t).toNat) p_10).getD 5 0) (([now,now_1,now_2,now_3,now_4,now_5,now_6,now_7,now_8,now_9,now_10,now_11].set ((t).toNat) p_10).getD 6 0) (([now,now_1,now_2,now_3,now_4,now_5,now_6,now_7,now_8,now_9,now_10,now_11].set ((t).toNat) p_10).getD 7 0) (([now,now_1,now_2,now_3,now_4,now_5,now_6,now_7,now_8,now_9,now_10,now_11].set ((t).toNat) p_10).getD 8 0) (([now,now_1,now_2,now_3,now_4,now_5,now_6,now_7,now_8,now_9,now_10,now_11].set ((t).toNat) p_10).getD 9 0) (([now,now_1,now_2,now_3,now_4,now_5,now_6,now_7,now_8,now_9,now_10,now_11].set ((t).toNat) p_10).getD 10 0) (([now,now_1,now_2,now_3,now_4,now_5,now_6,now_7,now_8,now_9,now_10,now_11].set ((t).toNat) p_10).getD 11 0))
def zaO (l:Tp11) (t now now_1 now_2 now_3 now_4 now_5 now_6 now_7 now_8 now_9 now_10 now_11:Int) (r4:(Int->Int->Int->Int->Int->Int->Int->Int->Int->Int->Int->Int->Int->Int->Int->Int->Int->Int->Int->Int->Int->Int->Int->Option Tp5)) (p_10 p_11 p_12 p_13 p_14 p_15 p_16 p_17 p_18 p_19:Int):Option Tp5:=
  if (((((ix l t).2).2).2).1)=true then
  zbK t r4 p_10 p_11 p_12 p_13 p_14 p_15 p_16 p_17 p_18 p_19 now now_1 now_2 now_3 now_4 now_5 now_6 now_7 now_8 now_9 now_10 now_11 else
  G (0<=t/\t < (12:Int)) (
  G ((t).toNat < 12) (
  G (0<=p_10/\p_10 < (4:Int)) (
  G ((p_10).toNat < 4) (
  G (0<=p_10/\p_10 < (4:Int)) (
  G ((p_10).toNat < 4) (
  if (decide ((0:Int)<=(((ix l t).2).1)))=true then
  G (0<=((ix l t).2).1/\((ix l t).2).1 < (12:Int)) (
  G ((((ix l t).2).1).toNat < 12) (
  G (0<=p_10/\p_10 < (4:Int)) (
  G ((p_10).toNat < 4) (
  zca t now now_1 now_2 now_3 now_4 now_5 now_6 now_7 now_8 now_9 now_10 now_11 r4 p_10 p_10 (([p_11,p_12,p_13,p_14].set ((p_10).toNat) ((ix l t).1)).getD 0 0) (([p_11,p_12,p_13,p_14].set ((p_10).toNat) ((ix l t).1)).getD 1 0) (([p_11,p_12,p_13,p_14].set ((p_10).toNat) ((ix l t).1)).getD 2 0) (([p_11,p_12,p_13,p_14].set ((p_10).toNat) ((ix l t).1)).getD 3 0) (([([p_15,p_16,p_17,p_18].set ((p_10).toNat) (-1:Int)).getD 0 0,([p_15,p_16,p_17,p_18].set ((p_10).toNat) (-1:Int)).getD 1 0,([p_15,p_16,p_17,p_18].set ((p_10).toNat) (-1:Int)).getD 2 0,([p_15,p_16,p_17,p_18].set ((p_10).toNat) (-1:Int)).getD 3 0].set ((p_10).toNat) ([([now,now_1,now_2,now_3,now_4,now_5,now_6,now_7,now_8,now_9,now_10,now_11].set ((t).toNat) p_10).getD 0 0,([now,now_1,now_2,now_3,now_4,now_5,now_6,now_7,now_8,now_9,now_10,now_11].set ((t).toNat) p_10).getD 1 0,([now,now_1,now_2,now_3,now_4,now_5,now_6,now_7,now_8,now_9,now_10,now_11].set ((t).toNat) p_10).getD 2 0,([now,now_1,now_2,now_3,now_4,now_5,now_6,now_7,now_8,now_9,now_10,now_11].set ((t).toNat) p_10).getD 3 0,([now,now_1,now_2,now_3,now_4,now_5,now_6,now_7,now_8,now_9,now_10,now_11].set ((t).toNat) p_10).getD 4 0,([now,now_1,now_2,now_3,now_4,now_5,now_6,now_7,now_8,now_9,now_10,now_11].set ((t).toNat) p_10).getD 5 0,([now,now_1,now_2,now_3,now_4,now_5,now_6,now_7,now_8,now_9,now_10,now_11].set ((t).toNat) p_10).getD 6 0,([now,now_1,now_2,now_3,now_4,now_5,now_6,now_7,now_8,now_9,now_10,now_11].set ((t).toNat) p_10).getD 7 0,([now,now_1,now_2,now_3,now_4,now_5,now_6,now_7,now_8,now_9,now_10,now_11].set ((t).toNat) p_10).getD 8 0,([now,now_1,now_2,now_3,now_4,now_5,now_6,now_7,now_8,now_9,now_10,now_11].set ((t).toNat) p_10).getD 9 0,([now,now_1,now_2,now_3,now_4,now_5,now_6,now_7,now_8,now_9,now_10,now_11].set ((t).toNat) p_10).getD 10 0,([now,now_1,now_2,now_3,now_4,now_5,now_6,now_7,now_8,now_9,now_10,now_11].set ((t).toNat) p_10).getD 11 0].getD ((((ix l t).2).1).toNat) 0)).getD 0 0) (([([p_15,p_16,p_17,p_18].set ((p_10).toNat) (-1:Int)).getD 0 0,([p_15,p_16,p_17,p_18].set ((p_10).toNat) (-1:Int)).getD 1 0,([p_15,p_16,p_17,p_18].set ((p_10).toNat) (-1:Int)).getD 2 0,([p_15,p_16,p_17,p_18].set ((p_10).toNat) (-1:Int)).getD 3 0].set ((p_10).toNat) ([([now,now_1,now_2,now_3,now_4,now_5,now_6,now_7,now_8,now_9,now_10,now_11].set ((t).toNat) p_10).getD 0 0,([now,now_1,now_2,now_3,now_4,now_5,now_6,now_7,now_8,now_9,now_10,now_11].set ((t).toNat) p_10).getD 1 0,([now,now_1,now_2,now_3,now_4,now_5,now_6,now_7,now_8,now_9,now_10,now_11].set ((t).toNat) p_10).getD 2 0,([now,now_1,now_2,now_3,now_4,now_5,now_6,now_7,now_8,now_9,now_10,now_11].set ((t).toNat) p_10).getD 3 0,([now,now_1,now_2,now_3,now_4,now_5,now_6,now_7,now_8,now_9,now_10,now_11].set ((t).toNat) p_10).getD 4 0,([now,now_1,now_2,now_3,now_4,now_5,now_6,now_7,now_8,now_9,now_10,now_11].set ((t).toNat) p_10).getD 5 0,([now,now_1,now_2,now_3,now_4,now_5,now_6,now_7,now_8,now_9,now_10,now_11].set ((t).toNat) p_10).getD 6 0,([now,now_1,now_2,now_3,now_4,now_5,now_6,now_7,now_8,now_9,now_10,now_11].set ((t).toNat) p_10).getD 7 0,([now,now_1,now_2,now_3,now_4,now_5,now_6,now_7,now_8,now_9,now_10,now_11].set ((t).toNat) p_10).getD 8 0,([now,now_1,now_2,now_3,now_4,now_5,now_6,now_7,now_8,now_9,now_10,now_11].set ((t).toNat) p_10).getD 9 0,([now,now_1,now_2,now_3,now_4,now_5,now_6,now_7,now_8,now_9,now_10,now_11].set ((t).toNat) p_10).getD 10 0,([now,now_1,now_2,now_3,now_4,now_5,now_6,now_7,now_8,now_9,now_10,now_11].set ((t).toNat) p_10).getD 11 0].getD ((((ix l t).2).1).toNat) 0)).getD 1 0) (([([p_15,p_16,p_17,p_18].set ((p_10).toNat) (-1:Int)).getD 0 0,([p_15,p_16,p_17,p_18].set ((p_10).toNat) (-1:Int)).getD 1 0,([p_15,p_16,p_17,p_18].set ((p_10).toNat) (-1:Int)).getD 2 0,([p_15,p_16,p_17,p_18].set ((p_10).toNat) (-1:Int)).getD 3 0].set ((p_10).toNat) ([([now,now_1,now_2,now_3,now_4,now_5,now_6,now_7,now_8,now_9,now_10,now_11].set ((t).toNat) p_10).getD 0 0,([now,now_1,now_2,now_3,now_4,now_5,now_6,now_7,now_8,now_9,now_10,now_11].set ((t).toNat) p_10).getD 1 0,([now,now_1,now_2,now_3,now_4,now_5,now_6,now_7,now_8,now_9,now_10,now_11].set ((t).toNat) p_10).getD 2 0,([now,now_1,now_2,now_3,now_4,now_5,now_6,now_7,now_8,now_9,now_10,now_11].set ((t).toNat) p_10).getD 3 0,([now,now_1,now_2,now_3,now_4,now_5,now_6,now_7,now_8,now_9,now_10,now_11].set ((t).toNat) p_10).getD 4 0,([now,now_1,now_2,now_3,now_4,now_5,now_6,now_7,now_8,now_9,now_10,now_11].set ((t).toNat) p_10).getD 5 0,([now,now_1,now_2,now_3,now_4,now_5,now_6,now_7,now_8,now_9,now_10,now_11].set ((t).toNat) p_10).getD 6 0,([now,now_1,now_2,now_3,now_4,now_5,now_6,now_7,now_8,now_9,now_10,now_11].set ((t).toNat) p_10).getD 7 0,([now,now_1,now_2,now_3,now_4,now_5,now_6,now_7,now_8,now_9,now_10,now_11].set ((t).toNat) p_10).getD 8 0,([now,now_1,now_2,now_3,now_4,now_5,now_6,now_7,now_8,now_9,now_10,now_11].set ((t).toNat) p_10).getD 9 0,([now,now_1,now_2,now_3,now_4,now_5,now_6,now_7,now_8,now_9,now_10,now_11].set ((t).toNat) p_10).getD 10 0,([now,now_1,now_2,now_3,now_4,now_5,now_6,now_7,now_8,now_9,now_10,now_11].set ((t).toNat) p_10).getD 11 0].getD ((((ix l t).2).1).toNat) 0)).getD 2 0) (([([p_15,p_16,p_17,p_18].set ((p_10).toNat) (-1:Int)).getD 0 0,([p_15,p_16,p_17,p_18].set ((p_10).toNat) (-1:Int)).getD 1 0,([p_15,p_16,p_17,p_18].set ((p_10).toNat) (-1:Int)).getD 2 0,([p_15,p_16,p_17,p_18].set ((p_10).toNat) (-1:Int)).getD 3 0].set ((p_10).toNat) ([([now,now_1,now_2,now_3,now_4,now_5,now_6,now_7,now_8,now_9,now_10,now_11].set ((t).toNat) p_10).getD 0 0,([now,now_1,now_2,now_3,now_4,now_5,now_6,now_7,now_8,now_9,now_10,now_11].set ((t).toNat) p_10).getD 1 0,([now,now_1,now_2,now_3,now_4,now_5,now_6,now_7,now_8,now_9,now_10,now_11].set ((t).toNat) p_10).getD 2 0,([now,now_1,now_2,now_3,now_4,now_5,now_6,now_7,now_8,now_9,now_10,now_11].set ((t).toNat) p_10).getD 3 0,([now,now_1,now_2,now_3,now_4,now_5,now_6,now_7,now_8,now_9,now_10,now_11].set ((t).toNat) p_10).getD 4 0,([now,now_1,now_2,now_3,now_4,now_5,now_6,now_7,now_8,now_9,now_10,now_11].set ((t).toNat) p_10).getD 5 0,([now,now_1,now_2,now_3,now_4,now_5,now_6,now_7,now_8,now_9,now_10,now_11].set ((t).toNat) p_10).getD 6 0,([now,now_1,now_2,now_3,now_4,now_5,now_6,now_7,now_8,now_9,now_10,now_11].set ((t).toNat) p_10).getD 7 0,([now,now_1,now_2,now_3,now_4,now_5,now_6,now_7,now_8,now_9,now_10,now_11].set ((t).toNat) p_10).getD 8 0,([now,now_1,now_2,now_3,now_4,now_5,now_6,now_7,now_8,now_9,now_10,now_11].set ((t).toNat) p_10).getD 9 0,([now,now_1,now_2,now_3,now_4,now_5,now_6,now_7,now_8,now_9,now_10,now_11].set ((t).toNat) p_10).getD 10 0,([now,now_1,now_2,now_3,now_4,now_5,now_6,now_7,now_8,now_9,now_10,now_11].set ((t).toNat) p_10).getD 11 0].getD ((((ix l t).2).1).toNat) 0)).getD 3 0) p_19)))) else
  zca t now now_1 now_2 now_3 now_4 now_5 now_6 now_7 now_8 now_9 now_10 now_11 r4 p_10 p_10 (([p_11,p_12,p_13,p_14].set ((p_10).toNat) ((ix l t).1)).getD 0 0) (([p_11,p_12,p_13,p_14].set ((p_10).toNat) ((ix l t).1)).getD 1 0) (([p_11,p_12,p_13,p_14].set ((p_10).toNat) ((ix l t).1)).getD 2 0) (([p_11,p_12,p_13,p_14].set ((p_10).toNat) ((ix l t).1)).getD 3 0) (([p_15,p_16,p_17,p_18].set ((p_10).toNat) (-1:Int)).getD 0 0) (([p_15,p_16,p_17,p_18].set ((p_10).toNat) (-1:Int)).getD 1 0) (([p_15,p_16,p_17,p_18].set ((p_10).toNat) (-1:Int)).getD 2 0) (([p_15,p_16,p_17,p_18].set ((p_10).toNat) (-1:Int)).getD 3 0) p_19))))))
def zaT (l:Tp11) (r4:Tf1) (t p p_1 p_2 p_3 p_4 p_5 p_6 p_7 p_8 p_9 now now_1 now_2 now_3 now_4 now_5 now_6 now_7 now_8 now_9 now_10 now_11:Int):Option Tp5:=
  if (decide (t < (l.length:Int)))=true then
  G (0<=t/\t < (l.length:Int)) (
  if ((((ix l t).2).2).1)=true then
  if (((((ix l t).2).2).2).1)=true then
  G (fits ((2:Int) * t)) (
  G (fits (((2:Int) * t)+(1:Int))) (
  zaO l t now now_1 now_2 now_3 now_4 now_5 now_6 now_7 now_8 now_9 now_10 now_11 r4 p p_1 p_2 p_3 p_4 p_5 p_6 p_7 p_8 (imin p_9 (((2:Int) * t)+(1:Int))))) else
  if ((((((ix l t).2).2).2).2).1)=true then
  G (fits ((2:Int) * t)) (
  G (fits (((2:Int) * t)+(2:Int))) (
  zaO l t now now_1 now_2 now_3 now_4 now_5 now_6 now_7 now_8 now_9 now_10 now_11 r4 p p_1 p_2 p_3 p_4 p_5 p_6 p_7 p_8 (imin p_9 (((2:Int) * t)+(2:Int))))) else
  zaO l t now now_1 now_2 now_3 now_4 now_5 now_6 now_7 now_8 now_9 now_10 now_11 r4 p p_1 p_2 p_3 p_4 p_5 p_6 p_7 p_8 p_9 else
  zaO l t now now_1 now_2 now_3 now_4 now_5 now_6 now_7 now_8 now_9 now_10 now_11 r4 p p_1 p_2 p_3 p_4 p_5 p_6 p_7 p_8 p_9) else
  some ((p,((p_1,(p_2,(p_3,(p_4,())))),((p_5,(p_6,(p_7,(p_8,())))),()))),(p_9,()))
def zi4 (l:Tp11):(Int×Int×Int×Int×Int×Int×Int×Int×Int×Int×Int×Int×Int×Int×Int×Int×Int×Int×Int×Int×Int×Int×Int->Option Tp5)->Int×Int×Int×Int×Int×Int×Int×Int×Int×Int×Int×Int×Int×Int×Int×Int×Int×Int×Int×Int×Int×Int×Int->Option Tp5:=
  fun rec x=>zaT l (fun t p p_1 p_2 p_3 p_4 p_5 p_6 p_7 p_8 p_9 now now_1 now_2 now_3 now_4 now_5 now_6 now_7 now_8 now_9 now_10 now_11=>rec (t,p,p_1,p_2,p_3,p_4,p_5,p_6,p_7,p_8,p_9,now,now_1,now_2,now_3,now_4,now_5,now_6,now_7,now_8,now_9,now_10,now_11)) x.1 x.2.1 x.2.2.1 x.2.2.2.1 x.2.2.2.2.1 x.2.2.2.2.2.1 x.2.2.2.2.2.2.1 x.2.2.2.2.2.2.2.1 x.2.2.2.2.2.2.2.2.1 x.2.2.2.2.2.2.2.2.2.1 x.2.2.2.2.2.2.2.2.2.2.1 x.2.2.2.2.2.2.2.2.2.2.2.1 x.2.2.2.2.2.2.2.2.2.2.2.2.1 x.2.2.2.2.2.2.2.2.2.2.2.2.2.1 x.2.2.2.2.2.2.2.2.2.2.2.2.2.2.1 x.2.2.2.2.2.2.2.2.2.2.2.2.2.2.2.1 x.2.2.2.2.2.2.2.2.2.2.2.2.2.2.2.2.1 x.2.2.2.2.2.2.2.2.2.2.2.2.2.2.2.2.2.1 x.2.2.2.2.2.2.2.2.2.2.2.2.2.2.2.2.2.2.1 x.2.2.2.2.2.2.2.2.2.2.2.2.2.2.2.2.2.2.2.1 x.2.2.2.2.2.2.2.2.2.2.2.2.2.2.2.2.2.2.2.2.1 x.2.2.2.2.2.2.2.2.2.2.2.2.2.2.2.2.2.2.2.2.2.1 x.2.2.2.2.2.2.2.2.2.2.2.2.2.2.2.2.2.2.2.2.2.2
def zcM (l:Tp11) (t p p_1 p_2 p_3 p_4 p_5 p_6 p_7 p_8 p_9 now now_1 now_2 now_3 now_4 now_5 now_6 now_7 now_8 now_9 now_10 now_11:Int):Option Tp5:=LFix (zi4 l ) (t,p,p_1,p_2,p_3,p_4,p_5,p_6,p_7,p_8,p_9,now,now_1,now_2,now_3,now_4,now_5,now_6,now_7,now_8,now_9,now_10,now_11)
def zgU (l:Tp11):Option Tp5:=
  zcM l (0:Int) (0:Int) (0:Int) (0:Int) (0:Int) (0:Int) (0:Int) (0:Int) (0:Int) (0:Int) (9:Int) (0:Int) (0:Int) (0:Int) (0:Int) (0:Int) (0:Int) (0:Int) (0:Int) (0:Int) (0:Int) (0:Int) (0:Int)
theorem zgV (r4:Nat->Tf1) (r4':Tf1) (h_r4:∀ a0 a1 a2 a3 a4 a5 a6 a7 a8 a9 a10 a11 a12 a13 a14 a15 a16 a17 a18 a19 a20 a21 a22,ChO (fun κ=>r4 κ a0 a1 a2 a3 a4 a5 a6 a7 a8 a9 a10 a11 a12 a13 a14 a15 a16 a17 a18 a19 a20 a21 a22) (r4' a0 a1 a2 a3 a4 a5 a6 a7 a8 a9 a10 a11 a12 a13 a14 a15 a16 a17 a18 a19 a20 a21 a22)) (t p_20 p_21 p_22 p_23 p_24 p_25 p_26 p_27 p_28 p_29 now_12 now_13 now_14 now_15 now_16 now_17 now_18 now_19 now_20 now_21 now_22 now_23):ChO (fun κ=>zbK t (r4 κ) p_20 p_21 p_22 p_23 p_24 p_25 p_26 p_27 p_28 p_29 now_12 now_13 now_14 now_15 now_16 now_17 now_18 now_19 now_20 now_21 now_22 now_23) (zbK t r4' p_20 p_21 p_22 p_23 p_24 p_25 p_26 p_27 p_28 p_29 now_12 now_13 now_14 now_15 now_16 now_17 now_18 now_19 now_20 now_21 now_22 now_23):=by
  unfold zbK
  repeat' with_reducible first | exact ChO.const _ | exact h_r4 _ _ _ _ _ _ _ _ _ _ _ _ _ _ _ _ _ _ _ _ _ _ _ | apply ChO.G
theorem zmw (r4:Nat->Tf1) (r4':Tf1) (h_r4:∀ a0 a1 a2 a3 a4 a5 a6 a7 a8 a9 a10 a11 a12 a13 a14 a15 a16 a17 a18 a19 a20 a21 a22,ChO (fun κ=>r4 κ a0 a1 a2 a3 a4 a5 a6 a7 a8 a9 a10 a11 a12 a13 a14 a15 a16 a17 a18 a19 a20 a21 a22) (r4' a0 a1 a2 a3 a4 a5 a6 a7 a8 a9 a10 a11 a12 a13 a14 a15 a16 a17 a18 a19 a20 a21 a22)) (t now now_1 now_2 now_3 now_4 now_5 now_6 now_7 now_8 now_9 now_10 now_11 p_10 p_30 p_31 p_32 p_33 p_34 p_35 p_36 p_37 p_38 p_39):ChO (fun κ=>zca t now now_1 now_2 now_3 now_4 now_5 now_6 now_7 now_8 now_9 now_10 now_11 (r4 κ) p_10 p_30 p_31 p_32 p_33 p_34 p_35 p_36 p_37 p_38 p_39) (zca t now now_1 now_2 now_3 now_4 now_5 now_6 now_7 now_8 now_9 now_10 now_11 r4' p_10 p_30 p_31 p_32 p_33 p_34 p_35 p_36 p_37 p_38 p_39):=by
  unfold zca
  repeat' with_reducible first | exact ChO.const _ | exact h_r4 _ _ _ _ _ _ _ _ _ _ _ _ _ _ _ _ _ _ _ _ _ _ _ | (apply zgV<;>assumption) | apply ChO.G
theorem zmv (r4:Nat->Tf1) (r4':Tf1) (h_r4:∀ a0 a1 a2 a3 a4 a5 a6 a7 a8 a9 a10 a11 a12 a13 a14 a15 a16 a17 a18 a19 a20 a21 a22,ChO (fun κ=>r4 κ a0 a1 a2 a3 a4 a5 a6 a7 a8 a9 a10 a11 a12 a13 a14 a15 a16 a17 a18 a19 a20 a21 a22) (r4' a0 a1 a2 a3 a4 a5 a6 a7 a8 a9 a10 a11 a12 a13 a14 a15 a16 a17 a18 a19 a20 a21 a22)) (l t now now_1 now_2 now_3 now_4 now_5 now_6 now_7 now_8 now_9 now_10 now_11 p_10 p_11 p_12 p_13 p_14 p_15 p_16 p_17 p_18 p_19):ChO (fun κ=>zaO l t now now_1 now_2 now_3 now_4 now_5 now_6 now_7 now_8 now_9 now_10 now_11 (r4 κ) p_10 p_11 p_12 p_13 p_14 p_15 p_16 p_17 p_18 p_19) (zaO l t now now_1 now_2 now_3 now_4 now_5 now_6 now_7 now_8 now_9 now_10 now_11 r4' p_10 p_11 p_12 p_13 p_14 p_15 p_16 p_17 p_18 p_19):=by
  unfold zaO
  repeat' with_reducible first | exact ChO.const _ | exact h_r4 _ _ _ _ _ _ _ _ _ _ _ _ _ _ _ _ _ _ _ _ _ _ _ | (apply zgV<;>assumption) | (apply zmw<;>assumption) | apply ChO.ite | apply ChO.G
theorem zlH (r4:Nat->Tf1) (r4':Tf1) (h_r4:∀ a0 a1 a2 a3 a4 a5 a6 a7 a8 a9 a10 a11 a12 a13 a14 a15 a16 a17 a18 a19 a20 a21 a22,ChO (fun κ=>r4 κ a0 a1 a2 a3 a4 a5 a6 a7 a8 a9 a10 a11 a12 a13 a14 a15 a16 a17 a18 a19 a20 a21 a22) (r4' a0 a1 a2 a3 a4 a5 a6 a7 a8 a9 a10 a11 a12 a13 a14 a15 a16 a17 a18 a19 a20 a21 a22)) (l t p p_1 p_2 p_3 p_4 p_5 p_6 p_7 p_8 p_9 now now_1 now_2 now_3 now_4 now_5 now_6 now_7 now_8 now_9 now_10 now_11):ChO (fun κ=>zaT l (r4 κ) t p p_1 p_2 p_3 p_4 p_5 p_6 p_7 p_8 p_9 now now_1 now_2 now_3 now_4 now_5 now_6 now_7 now_8 now_9 now_10 now_11) (zaT l r4' t p p_1 p_2 p_3 p_4 p_5 p_6 p_7 p_8 p_9 now now_1 now_2 now_3 now_4 now_5 now_6 now_7 now_8 now_9 now_10 now_11):=by
  unfold zaT
  repeat' with_reducible first | exact ChO.const _ | exact h_r4 _ _ _ _ _ _ _ _ _ _ _ _ _ _ _ _ _ _ _ _ _ _ _ | (apply zmv<;>assumption) | apply ChO.ite | apply ChO.G
theorem znK (l):Cn (zi4 l):=fun g h hg x=>zlH  _ _ (fun a0 a1 a2 a3 a4 a5 a6 a7 a8 a9 a10 a11 a12 a13 a14 a15 a16 a17 a18 a19 a20 a21 a22=>hg (a0,a1,a2,a3,a4,a5,a6,a7,a8,a9,a10,a11,a12,a13,a14,a15,a16,a17,a18,a19,a20,a21,a22)) l x.1 x.2.1 x.2.2.1 x.2.2.2.1 x.2.2.2.2.1 x.2.2.2.2.2.1 x.2.2.2.2.2.2.1 x.2.2.2.2.2.2.2.1 x.2.2.2.2.2.2.2.2.1 x.2.2.2.2.2.2.2.2.2.1 x.2.2.2.2.2.2.2.2.2.2.1 x.2.2.2.2.2.2.2.2.2.2.2.1 x.2.2.2.2.2.2.2.2.2.2.2.2.1 x.2.2.2.2.2.2.2.2.2.2.2.2.2.1 x.2.2.2.2.2.2.2.2.2.2.2.2.2.2.1 x.2.2.2.2.2.2.2.2.2.2.2.2.2.2.2.1 x.2.2.2.2.2.2.2.2.2.2.2.2.2.2.2.2.1 x.2.2.2.2.2.2.2.2.2.2.2.2.2.2.2.2.2.1 x.2.2.2.2.2.2.2.2.2.2.2.2.2.2.2.2.2.2.1 x.2.2.2.2.2.2.2.2.2.2.2.2.2.2.2.2.2.2.2.1 x.2.2.2.2.2.2.2.2.2.2.2.2.2.2.2.2.2.2.2.2.1 x.2.2.2.2.2.2.2.2.2.2.2.2.2.2.2.2.2.2.2.2.2.1 x.2.2.2.2.2.2.2.2.2.2.2.2.2.2.2.2.2.2.2.2.2.2
theorem zcw (l t p p_1 p_2 p_3 p_4 p_5 p_6 p_7 p_8 p_9 now now_1 now_2 now_3 now_4 now_5 now_6 now_7 now_8 now_9 now_10 now_11):zcM l t p p_1 p_2 p_3 p_4 p_5 p_6 p_7 p_8 p_9 now now_1 now_2 now_3 now_4 now_5 now_6 now_7 now_8 now_9 now_10 now_11=zaT l (zcM l) t p p_1 p_2 p_3 p_4 p_5 p_6 p_7 p_8 p_9 now now_1 now_2 now_3 now_4 now_5 now_6 now_7 now_8 now_9 now_10 now_11:=zah (znK l) (t,p,p_1,p_2,p_3,p_4,p_5,p_6,p_7,p_8,p_9,now,now_1,now_2,now_3,now_4,now_5,now_6,now_7,now_8,now_9,now_10,now_11)

def zaQ (t_2:Int) (r7:(Int->Int->Int->Bool->Bool->Bool->Option Tp5)) (x'_5 x'_6:Int) (x'_7 x'_8 x'_9:Bool):Option Tp5:=
  G (fits (t_2+(1:Int))) (
  r7 (t_2+(1:Int)) x'_5 x'_6 x'_7 x'_8 x'_9)
def zaB (b:Tp2) (t:Tp8) (letter t_1:Int) (l:Tp11) (r3:(Int->Tp11->Option Tp5)) (r7:Tf5) (t_2 x' x'_1:Int) (x'_2 x'_3 x'_4:Bool):Option Tp5:=
  if (decide (t_2 < (4:Int)))=true then
  G (0<=t_1/\t_1 < (4:Int)) (
  G ((t_1).toNat < 4) (
  G (0<=t_2) (
  if (decide ((iand .i64 (ishr .i64 ([t.2.1.1,t.2.1.2.1,t.2.1.2.2.1,t.2.1.2.2.2.1].getD ((t_1).toNat) 0) t_2) (1:Int))=(1:Int)))=true then
  G (0<=t_2/\t_2 < (4:Int)) (
  G (0<=letter/\letter < (4:Int)) (
  zaQ t_2 r7 (ior .i64 x' (vget (.int .i64) 4 (vget (.pair (.int .i64) (.pair (.int .i64) (.pair (.int .i64) (.pair (.int .i64) .unit)))) 4 b.1 (t_2).toNat) (letter).toNat)) x'_1 x'_2 x'_3 x'_4)) else
  zaQ t_2 r7 x' x'_1 x'_2 x'_3 x'_4))) else
  G (room l ([(x',(x'_1,(x'_2,(x'_3,(x'_4,())))))]) 24) (
  G (fits (t_1+(1:Int))) (
  r3 (t_1+(1:Int)) (l++([(x',(x'_1,(x'_2,(x'_3,(x'_4,())))))]))))
def zdD (b:Tp2) (t:Tp8) (letter t_1:Int) (l:Tp11) (r3:(Int->Tp11->Option Tp5)):(Int×Int×Int×Bool×Bool×Bool->Option Tp5)->Int×Int×Int×Bool×Bool×Bool->Option Tp5:=
  fun rec x=>zaB b t letter t_1 l r3 (fun t_2 x' x'_1 x'_2 x'_3 x'_4=>rec (t_2,x',x'_1,x'_2,x'_3,x'_4)) x.1 x.2.1 x.2.2.1 x.2.2.2.1 x.2.2.2.2.1 x.2.2.2.2.2
def zaI (b:Tp2) (t:Tp8) (letter t_1:Int) (l:Tp11) (r3:(Int->Tp11->Option Tp5)) (t_2 x' x'_1:Int) (x'_2 x'_3 x'_4:Bool):Option Tp5:=LFix (zdD b t letter t_1 l r3 ) (t_2,x',x'_1,x'_2,x'_3,x'_4)
def zaR (l_2:Tp11) (kids t_5:Int) (r27:(Int->Int->Option Tp5)) (t_6:Bool):Option Tp5:=
  if t_6=true then
  G (0<=t_5/\t_5 < (l_2.length:Int)) (
  G ((t_5).toNat < l_2.length) (
  G (fits (t_5+(1:Int))) (
  r27 (ior .i64 kids ((ix l_2 t_5).1)) (t_5+(1:Int))))) else
  G (fits (t_5+(1:Int))) (
  r27 kids (t_5+(1:Int)))
def zaq (t_4:Int) (l_2:Tp11) (r23:(Int->Tp11->Option Tp5)) (t_7:Bool):Option Tp5:=
  if t_7=true then
  G (0<=t_4/\t_4 < (l_2.length:Int)) (
  G ((t_4).toNat < l_2.length) (
  (zgT t_4 (l_2.set (t_4).toNat ((ix l_2 t_4).1,(((ix l_2 t_4).2).1,((((ix l_2 t_4).2).2).1,(((((ix l_2 t_4).2).2).2).1,(true,(((((ix l_2 t_4).2).2).2).2).2))))))).bind (fun y'_1=>
  G (fits (t_4+(1:Int))) (
  r23 (t_4+(1:Int)) y'_1)))) else
  G (fits (t_4+(1:Int))) (
  r23 (t_4+(1:Int)) l_2)
def zaz (t_4:Int) (l_2:Tp11) (r23:(Int->Tp11->Option Tp5)) (r27:Int->Int->Option Tp5) (kids t_5:Int):Option Tp5:=
  if (decide (t_5 < (l_2.length:Int)))=true then
  G (0<=t_5/\t_5 < (l_2.length:Int)) (
  G ((t_5).toNat < l_2.length) (
  if (decide ((((ix l_2 t_5).2).1)=t_4))=true then
  G (0<=t_5/\t_5 < (l_2.length:Int)) (
  G ((t_5).toNat < l_2.length) (
  zaR l_2 kids t_5 r27 (!(((((ix l_2 t_5).2).2).2).1)))) else
  zaR l_2 kids t_5 r27 false)) else
  G (0<=t_4/\t_4 < (l_2.length:Int)) (
  G ((t_4).toNat < l_2.length) (
  if (!(((((ix l_2 t_4).2).2).2).1))=true then
  G (0<=t_4/\t_4 < (l_2.length:Int)) (
  G ((t_4).toNat < l_2.length) (
  if (decide (kids=((ix l_2 t_4).1)))=true then
  zaq t_4 l_2 r23 (decide (¬ kids=(0:Int))) else
  zaq t_4 l_2 r23 false)) else
  zaq t_4 l_2 r23 false))
def zde (t_4:Int) (l_2:Tp11) (r23:(Int->Tp11->Option Tp5)):(Int×Int->Option Tp5)->Int×Int->Option Tp5:=
  fun rec x=>zaz t_4 l_2 r23 (fun kids t_5=>rec (kids,t_5)) x.1 x.2
def zaE (t_4:Int) (l_2:Tp11) (r23:(Int->Tp11->Option Tp5)) (kids t_5:Int):Option Tp5:=LFix (zde t_4 l_2 r23 ) (kids,t_5)
def zay (y':Tp11) (r23:Int->Tp11->Option Tp5) (t_4:Int) (l_2:Tp11):Option Tp5:=
  if (decide (t_4 < (y'.length:Int)))=true then
  zaE t_4 l_2 r23 (0:Int) (0:Int) else
  (zgU l_2).bind (fun y'_2=>
  some ((y'_2.1.1,((y'_2.1.2.1.1,(y'_2.1.2.1.2.1,(y'_2.1.2.1.2.2.1,(y'_2.1.2.1.2.2.2.1,())))),((y'_2.1.2.2.1.1,(y'_2.1.2.2.1.2.1,(y'_2.1.2.2.1.2.2.1,(y'_2.1.2.2.1.2.2.2.1,())))),()))),(y'_2.2.1,())))
def zdd (y':Tp11):(Int×Tp11->Option Tp5)->Int×Tp11->Option Tp5:=
  fun rec x=>zay y' (fun t_4 l_2=>rec (t_4,l_2)) x.1 x.2
def zar (y':Tp11) (t_4:Int) (l_2:Tp11):Option Tp5:=LFix (zdd y' ) (t_4,l_2)
def zax (b:Tp2) (t:Tp8) (r15:Int->Tp11->Option Tp5) (t_3:Int) (l_1:Tp11):Option Tp5:=
  if (decide (t_3 < t.1))=true then
  G (0<=t_3/\t_3 < (l_1.length:Int)) (
  G ((t_3).toNat < l_1.length) (
  if (decide (¬ (iand .i64 ((ix l_1 t_3).1) b.2.1)=(0:Int)))=true then
  G (room l_1 ([(iand .i64 ((ix l_1 t_3).1) b.2.1,(t_3,(false,(false,(false,())))))]) 24) (
  G (fits (t_3+(1:Int))) (
  r15 (t_3+(1:Int)) (l_1++([(iand .i64 ((ix l_1 t_3).1) b.2.1,(t_3,(false,(false,(false,())))))])))) else
  G (fits (t_3+(1:Int))) (
  r15 (t_3+(1:Int)) l_1))) else
  (zfr l_1).bind (fun y'=>
  zar y' (0:Int) y')
def zdc (b:Tp2) (t:Tp8):(Int×Tp11->Option Tp5)->Int×Tp11->Option Tp5:=
  fun rec x=>zax b t (fun t_3 l_1=>rec (t_3,l_1)) x.1 x.2
def za9 (b:Tp2) (t:Tp8) (t_3:Int) (l_1:Tp11):Option Tp5:=LFix (zdc b t ) (t_3,l_1)
def zaA (b:Tp2) (t:Tp8) (letter:Int) (r3:Int->Tp11->Option Tp5) (t_1:Int) (l:Tp11):Option Tp5:=
  if (decide (t_1 < t.1))=true then
  G (0<=t_1/\t_1 < (4:Int)) (
  G ((t_1).toNat < 4) (
  zaI b t letter t_1 l r3 (0:Int) (0:Int) ([t.2.2.1.1,t.2.2.1.2.1,t.2.2.1.2.2.1,t.2.2.1.2.2.2.1].getD ((t_1).toNat) 0) true false false)) else
  za9 b t (0:Int) l
def zdC (b:Tp2) (t:Tp8) (letter:Int):(Int×Tp11->Option Tp5)->Int×Tp11->Option Tp5:=
  fun rec x=>zaA b t letter (fun t_1 l=>rec (t_1,l)) x.1 x.2
def zbj (b:Tp2) (t:Tp8) (letter t_1:Int) (l:Tp11):Option Tp5:=LFix (zdC b t letter ) (t_1,l)
def zbm (b:Tp2) (t:Tp8) (letter:Int):Option Tp5:=
  zbj b t letter (0:Int) ([])
theorem zf4 (r7:Nat->Tf5) (r7':Tf5) (h_r7:∀ a0 a1 a2 a3 a4 a5,ChO (fun κ=>r7 κ a0 a1 a2 a3 a4 a5) (r7' a0 a1 a2 a3 a4 a5)) (t_2 x'_5 x'_6 x'_7 x'_8 x'_9):ChO (fun κ=>zaQ t_2 (r7 κ) x'_5 x'_6 x'_7 x'_8 x'_9) (zaQ t_2 r7' x'_5 x'_6 x'_7 x'_8 x'_9):=by
  unfold zaQ
  repeat' with_reducible first | exact ChO.const _ | exact h_r7 _ _ _ _ _ _ | apply ChO.G
theorem zcN (r3:Nat->Int->Tp11->Option Tp5) (r3':Int->Tp11->Option Tp5) (h_r3:∀ a0 a1,ChO (fun κ=>r3 κ a0 a1) (r3' a0 a1)) (r7:Nat->Tf5) (r7':Tf5) (h_r7:∀ a0 a1 a2 a3 a4 a5,ChO (fun κ=>r7 κ a0 a1 a2 a3 a4 a5) (r7' a0 a1 a2 a3 a4 a5)) (b t letter t_1 l t_2 x' x'_1 x'_2 x'_3 x'_4):ChO (fun κ=>zaB b t letter t_1 l (r3 κ) (r7 κ) t_2 x' x'_1 x'_2 x'_3 x'_4) (zaB b t letter t_1 l r3' r7' t_2 x' x'_1 x'_2 x'_3 x'_4):=by
  unfold zaB
  repeat' with_reducible first | exact ChO.const _ | exact h_r3 _ _ | exact h_r7 _ _ _ _ _ _ | (apply zf4<;>assumption) | apply ChO.ite | apply ChO.G
theorem zcg (r3 b t letter t_1 l):Cn (zdD b t letter t_1 l r3):=fun g h hg x=>zcN (fun _=>r3) r3 (fun _ _=>ChO.const _) _ _ (fun a0 a1 a2 a3 a4 a5=>hg (a0,a1,a2,a3,a4,a5)) b t letter t_1 l x.1 x.2.1 x.2.2.1 x.2.2.2.1 x.2.2.2.2.1 x.2.2.2.2.2
theorem zdg (r3 b t letter t_1 l t_2 x' x'_1 x'_2 x'_3 x'_4):zaI b t letter t_1 l r3 t_2 x' x'_1 x'_2 x'_3 x'_4=zaB b t letter t_1 l r3 (zaI b t letter t_1 l r3) t_2 x' x'_1 x'_2 x'_3 x'_4:=zah (zcg r3 b t letter t_1 l) (t_2,x',x'_1,x'_2,x'_3,x'_4)
theorem zgQ (r3:Nat->Int->Tp11->Option Tp5) (r3':Int->Tp11->Option Tp5) (h_r3:∀ a0 a1,ChO (fun κ=>r3 κ a0 a1) (r3' a0 a1)) (b t letter t_1 l t_2 x' x'_1 x'_2 x'_3 x'_4):ChO (fun κ=>zaI b t letter t_1 l (r3 κ) t_2 x' x'_1 x'_2 x'_3 x'_4) (zaI b t letter t_1 l r3' t_2 x' x'_1 x'_2 x'_3 x'_4):=by
  unfold zaI
  exact zdj (fun κ=>(zcg (r3 κ) b t letter t_1 l).mono) (zcg r3' b t letter t_1 l).mono (fun g h hg x=>zcN r3 r3' h_r3 _ _ (fun a0 a1 a2 a3 a4 a5=>hg (a0,a1,a2,a3,a4,a5)) b t letter t_1 l x.1 x.2.1 x.2.2.1 x.2.2.2.1 x.2.2.2.2.1 x.2.2.2.2.2) _
theorem zf5 (r27:Nat->Int->Int->Option Tp5) (r27':Int->Int->Option Tp5) (h_r27:∀ a0 a1,ChO (fun κ=>r27 κ a0 a1) (r27' a0 a1)) (l_2 kids t_5 t_6):ChO (fun κ=>zaR l_2 kids t_5 (r27 κ) t_6) (zaR l_2 kids t_5 r27' t_6):=by
  unfold zaR
  repeat' with_reducible first | exact ChO.const _ | exact h_r27 _ _ | apply ChO.ite | apply ChO.G
theorem zf6 (r23:Nat->Int->Tp11->Option Tp5) (r23':Int->Tp11->Option Tp5) (h_r23:∀ a0 a1,ChO (fun κ=>r23 κ a0 a1) (r23' a0 a1)) (t_4 l_2 t_7):ChO (fun κ=>zaq t_4 l_2 (r23 κ) t_7) (zaq t_4 l_2 r23' t_7):=by
  unfold zaq
  repeat' with_reducible first | exact ChO.const _ | exact h_r23 _ _ | apply ChO.ite | apply ChO.G | (apply ChO.bind;intro _)
theorem zcF (r23:Nat->Int->Tp11->Option Tp5) (r23':Int->Tp11->Option Tp5) (h_r23:∀ a0 a1,ChO (fun κ=>r23 κ a0 a1) (r23' a0 a1)) (r27:Nat->Int->Int->Option Tp5) (r27':Int->Int->Option Tp5) (h_r27:∀ a0 a1,ChO (fun κ=>r27 κ a0 a1) (r27' a0 a1)) (t_4 l_2 kids t_5):ChO (fun κ=>zaz t_4 l_2 (r23 κ) (r27 κ) kids t_5) (zaz t_4 l_2 r23' r27' kids t_5):=by
  unfold zaz
  repeat' with_reducible first | exact ChO.const _ | exact h_r23 _ _ | exact h_r27 _ _ | (apply zf5<;>assumption) | (apply zf6<;>assumption) | apply ChO.ite | apply ChO.G
theorem zb7 (r23 t_4 l_2):Cn (zde t_4 l_2 r23):=fun g h hg x=>zcF (fun _=>r23) r23 (fun _ _=>ChO.const _) _ _ (fun a0 a1=>hg (a0,a1)) t_4 l_2 x.1 x.2
theorem zcW (r23 t_4 l_2 kids t_5):zaE t_4 l_2 r23 kids t_5=zaz t_4 l_2 r23 (zaE t_4 l_2 r23) kids t_5:=zah (zb7 r23 t_4 l_2) (kids,t_5)
theorem zf9 (r23:Nat->Int->Tp11->Option Tp5) (r23':Int->Tp11->Option Tp5) (h_r23:∀ a0 a1,ChO (fun κ=>r23 κ a0 a1) (r23' a0 a1)) (t_4 l_2 kids t_5):ChO (fun κ=>zaE t_4 l_2 (r23 κ) kids t_5) (zaE t_4 l_2 r23' kids t_5):=by
  unfold zaE
  exact zdj (fun κ=>(zb7 (r23 κ) t_4 l_2).mono) (zb7 r23' t_4 l_2).mono (fun g h hg x=>zcF r23 r23' h_r23 _ _ (fun a0 a1=>hg (a0,a1)) t_4 l_2 x.1 x.2) _
theorem zfq (r23:Nat->Int->Tp11->Option Tp5) (r23':Int->Tp11->Option Tp5) (h_r23:∀ a0 a1,ChO (fun κ=>r23 κ a0 a1) (r23' a0 a1)) (y' t_4 l_2):ChO (fun κ=>zay y' (r23 κ) t_4 l_2) (zay y' r23' t_4 l_2):=by
  unfold zay
  repeat' with_reducible first | exact ChO.const _ | exact h_r23 _ _ | (apply zf9<;>assumption) | apply ChO.ite | (apply ChO.bind;intro _)
theorem zf8 (y'):Cn (zdd y'):=fun g h hg x=>zfq  _ _ (fun a0 a1=>hg (a0,a1)) y' x.1 x.2
theorem zcV (y' t_4 l_2):zar y' t_4 l_2=zay y' (zar y') t_4 l_2:=zah (zf8 y') (t_4,l_2)
theorem zfp (r15:Nat->Int->Tp11->Option Tp5) (r15':Int->Tp11->Option Tp5) (h_r15:∀ a0 a1,ChO (fun κ=>r15 κ a0 a1) (r15' a0 a1)) (b t t_3 l_1):ChO (fun κ=>zax b t (r15 κ) t_3 l_1) (zax b t r15' t_3 l_1):=by
  unfold zax
  repeat' with_reducible first | exact ChO.const _ | exact h_r15 _ _ | apply ChO.ite | apply ChO.G | (apply ChO.bind;intro _)
theorem zf7 (b t):Cn (zdc b t):=fun g h hg x=>zfp  _ _ (fun a0 a1=>hg (a0,a1)) b t x.1 x.2
theorem zcU (b t t_3 l_1):za9 b t t_3 l_1=zax b t (za9 b t) t_3 l_1:=zah (zf7 b t) (t_3,l_1)
theorem zfz (r3:Nat->Int->Tp11->Option Tp5) (r3':Int->Tp11->Option Tp5) (h_r3:∀ a0 a1,ChO (fun κ=>r3 κ a0 a1) (r3' a0 a1)) (b t letter t_1 l):ChO (fun κ=>zaA b t letter (r3 κ) t_1 l) (zaA b t letter r3' t_1 l):=by
  unfold zaA
  repeat' with_reducible first | exact ChO.const _ | exact h_r3 _ _ | (apply zgQ<;>assumption) | apply ChO.ite | apply ChO.G
theorem zgP (b t letter):Cn (zdC b t letter):=fun g h hg x=>zfz  _ _ (fun a0 a1=>hg (a0,a1)) b t letter x.1 x.2
theorem zdf (b t letter t_1 l):zbj b t letter t_1 l=zaA b t letter (zbj b t letter) t_1 l:=zah (zgP b t letter) (t_1,l)

def za2 (p:Tp5) (letter:Int) (c:Tp2):Option (Tp5×Tp3×Int×Unit):=
  if (decide (p.1.1=(0:Int)))=true then
  some ((((0:Int),(((0:Int),((0:Int),((0:Int),((0:Int),())))),(((0:Int),((0:Int),((0:Int),((0:Int),())))),()))),((1:Int),())),c) else
  (zbm c (p.1.1,((p.1.2.1.1,(p.1.2.1.2.1,(p.1.2.1.2.2.1,(p.1.2.1.2.2.2.1,())))),((p.1.2.2.1.1,(p.1.2.2.1.2.1,(p.1.2.2.1.2.2.1,(p.1.2.2.1.2.2.2.1,())))),()))) letter).bind (fun y'=>
  some (((y'.1.1,((y'.1.2.1.1,(y'.1.2.1.2.1,(y'.1.2.1.2.2.1,(y'.1.2.1.2.2.2.1,())))),((y'.1.2.2.1.1,(y'.1.2.2.1.2.1,(y'.1.2.2.1.2.2.1,(y'.1.2.2.1.2.2.2.1,())))),()))),(y'.2.1,())),c))

def zcz (p:Tp5):Option (Int):=
  some p.2.1

def zce (t:Int) (row:Tp19) (r8:(Int->Tp2->Tp4->Tp19->Tp4->Tp19->Option Tp1)) (y'_1:Tp2) (n:Int) (number_4:Tp4) (number_5:Tp19) (l_4:Tp4):Option Tp1:=
  G (0<=t/\t < (row.length:Int)) (
  G ((t).toNat < row.length) (
  G (fits (t+(1:Int))) (
  r8 (t+(1:Int)) y'_1 number_4 number_5 l_4 (row.set (t).toNat n))))
def zbp (letters most d d_1:Int) (l_1:Tp4) (d_2:Tp17) (d_3:Tp19) (r4:(Tp2->Int->Int->Tp4->Tp19->Tp4->Tp17->Tp19->Option Tp1)) (r8:Tf6) (t:Int) (l_2:Tp2) (number_2:Tp4) (number_3:Tp19) (l_3:Tp4) (row:Tp19):Option Tp1:=
  if (decide (t < letters))=true then
  (za2 ((((ix l_1 (d_2.length:Int)).1).1,((((((ix l_1 (d_2.length:Int)).1).2).1).1,((((((ix l_1 (d_2.length:Int)).1).2).1).2).1,(((((((ix l_1 (d_2.length:Int)).1).2).1).2).2).1,((((((((ix l_1 (d_2.length:Int)).1).2).1).2).2).2).1,())))),(((((((ix l_1 (d_2.length:Int)).1).2).2).1).1,(((((((ix l_1 (d_2.length:Int)).1).2).2).1).2).1,((((((((ix l_1 (d_2.length:Int)).1).2).2).1).2).2).1,(((((((((ix l_1 (d_2.length:Int)).1).2).2).1).2).2).2).1,())))),()))),(((ix l_1 (d_2.length:Int)).2).1,())) t l_2).bind (fun y'_3=>
  if (!(mhas number_2 ((y'_3.1.1.1,((y'_3.1.1.2.1.1,(y'_3.1.1.2.1.2.1,(y'_3.1.1.2.1.2.2.1,(y'_3.1.1.2.1.2.2.2.1,())))),((y'_3.1.1.2.2.1.1,(y'_3.1.1.2.2.1.2.1,(y'_3.1.1.2.2.1.2.2.1,(y'_3.1.1.2.2.1.2.2.2.1,())))),()))),(y'_3.1.2.1,()))))=true then
  if (decide ((l_3.length:Int)=most))=true then
  some (((0:Int),((0:Int),([],([],())))),false,y'_3.2) else
  G (room l_3 ([((y'_3.1.1.1,((y'_3.1.1.2.1.1,(y'_3.1.1.2.1.2.1,(y'_3.1.1.2.1.2.2.1,(y'_3.1.1.2.1.2.2.2.1,())))),((y'_3.1.1.2.2.1.1,(y'_3.1.1.2.2.1.2.1,(y'_3.1.1.2.2.1.2.2.1,(y'_3.1.1.2.2.1.2.2.2.1,())))),()))),(y'_3.1.2.1,()))]) 80) (
  zce t row r8 y'_3.2 (l_3.length:Int) (zkm number_2 ((y'_3.1.1.1,((y'_3.1.1.2.1.1,(y'_3.1.1.2.1.2.1,(y'_3.1.1.2.1.2.2.1,(y'_3.1.1.2.1.2.2.2.1,())))),((y'_3.1.1.2.2.1.1,(y'_3.1.1.2.2.1.2.1,(y'_3.1.1.2.2.1.2.2.1,(y'_3.1.1.2.2.1.2.2.2.1,())))),()))),(y'_3.1.2.1,()))) (zkn number_2 number_3 ((y'_3.1.1.1,((y'_3.1.1.2.1.1,(y'_3.1.1.2.1.2.1,(y'_3.1.1.2.1.2.2.1,(y'_3.1.1.2.1.2.2.2.1,())))),((y'_3.1.1.2.2.1.1,(y'_3.1.1.2.2.1.2.1,(y'_3.1.1.2.2.1.2.2.1,(y'_3.1.1.2.2.1.2.2.2.1,())))),()))),(y'_3.1.2.1,())) (l_3.length:Int)) (l_3++([((y'_3.1.1.1,((y'_3.1.1.2.1.1,(y'_3.1.1.2.1.2.1,(y'_3.1.1.2.1.2.2.1,(y'_3.1.1.2.1.2.2.2.1,())))),((y'_3.1.1.2.2.1.1,(y'_3.1.1.2.2.1.2.1,(y'_3.1.1.2.2.1.2.2.1,(y'_3.1.1.2.2.1.2.2.2.1,())))),()))),(y'_3.1.2.1,()))]))) else
  zce t row r8 y'_3.2 (mget number_2 number_3 ((y'_3.1.1.1,((y'_3.1.1.2.1.1,(y'_3.1.1.2.1.2.1,(y'_3.1.1.2.1.2.2.1,(y'_3.1.1.2.1.2.2.2.1,())))),((y'_3.1.1.2.2.1.1,(y'_3.1.1.2.2.1.2.1,(y'_3.1.1.2.2.1.2.2.1,(y'_3.1.1.2.2.1.2.2.2.1,())))),()))),(y'_3.1.2.1,())) (0:Int)) number_2 number_3 l_3) else
  G (room d_2 ([row]) 24) (
  (zcz ((((ix l_1 (d_2.length:Int)).1).1,((((((ix l_1 (d_2.length:Int)).1).2).1).1,((((((ix l_1 (d_2.length:Int)).1).2).1).2).1,(((((((ix l_1 (d_2.length:Int)).1).2).1).2).2).1,((((((((ix l_1 (d_2.length:Int)).1).2).1).2).2).2).1,())))),(((((((ix l_1 (d_2.length:Int)).1).2).2).1).1,(((((((ix l_1 (d_2.length:Int)).1).2).2).1).2).1,((((((((ix l_1 (d_2.length:Int)).1).2).2).1).2).2).1,(((((((((ix l_1 (d_2.length:Int)).1).2).2).1).2).2).2).1,())))),()))),(((ix l_1 (d_2.length:Int)).2).1,()))).bind (fun y'_4=>
  G (room d_3 ([y'_4]) 8) (
  r4 l_2 d d_1 number_2 number_3 l_3 (d_2++([row])) (d_3++([y'_4])))))
def zhs (letters most d d_1:Int) (l_1:Tp4) (d_2:Tp17) (d_3:Tp19) (r4:(Tp2->Int->Int->Tp4->Tp19->Tp4->Tp17->Tp19->Option Tp1)):(Int×Tp2×Tp4×Tp19×Tp4×Tp19->Option Tp1)->Int×Tp2×Tp4×Tp19×Tp4×Tp19->Option Tp1:=
  fun rec x=>zbp letters most d d_1 l_1 d_2 d_3 r4 (fun t l_2 number_2 number_3 l_3 row=>rec (t,l_2,number_2,number_3,l_3,row)) x.1 x.2.1 x.2.2.1 x.2.2.2.1 x.2.2.2.2.1 x.2.2.2.2.2
def zaY (letters most d d_1:Int) (l_1:Tp4) (d_2:Tp17) (d_3:Tp19) (r4:(Tp2->Int->Int->Tp4->Tp19->Tp4->Tp17->Tp19->Option Tp1)) (t:Int) (l_2:Tp2) (number_2:Tp4) (number_3:Tp19) (l_3:Tp4) (row:Tp19):Option Tp1:=LFix (zhs letters most d d_1 l_1 d_2 d_3 r4 ) (t,l_2,number_2,number_3,l_3,row)
def zbo (letters most:Int) (r4:Tf3) (l:Tp2) (d d_1:Int) (number:Tp4) (number_1:Tp19) (l_1:Tp4) (d_2:Tp17) (d_3:Tp19):Option Tp1:=
  if (decide ((d_2.length:Int) < (l_1.length:Int)))=true then
  G (0<=(d_2.length:Int)/\(d_2.length:Int) < (l_1.length:Int)) (
  G (((d_2.length:Int)).toNat < l_1.length) (
  G (mkOK letters letters 8) (
  zaY letters most d d_1 l_1 d_2 d_3 r4 (0:Int) l number number_1 l_1 (List.replicate (letters).toNat (0:Int))))) else
  some ((d,(d_1,(d_2,(d_3,())))),true,l)
def zhr (letters most:Int):(Tp2×Int×Int×Tp4×Tp19×Tp4×Tp17×Tp19->Option Tp1)->Tp2×Int×Int×Tp4×Tp19×Tp4×Tp17×Tp19->Option Tp1:=
  fun rec x=>zbo letters most (fun l d d_1 number number_1 l_1 d_2 d_3=>rec (l,d,d_1,number,number_1,l_1,d_2,d_3)) x.1 x.2.1 x.2.2.1 x.2.2.2.1 x.2.2.2.2.1 x.2.2.2.2.2.1 x.2.2.2.2.2.2.1 x.2.2.2.2.2.2.2
def zeb (letters most:Int) (l:Tp2) (d d_1:Int) (number:Tp4) (number_1:Tp19) (l_1:Tp4) (d_2:Tp17) (d_3:Tp19):Option Tp1:=LFix (zhr letters most ) (l,d,d_1,number,number_1,l_1,d_2,d_3)
def ze1 (letters:Int) (first:Tp5) (most:Int) (c:Tp2):Option Tp1:=
  zeb letters most c letters (0:Int) (zkm ([]:List Tp5) ((first.1.1,((first.1.2.1.1,(first.1.2.1.2.1,(first.1.2.1.2.2.1,(first.1.2.1.2.2.2.1,())))),((first.1.2.2.1.1,(first.1.2.2.1.2.1,(first.1.2.2.1.2.2.1,(first.1.2.2.1.2.2.2.1,())))),()))),(first.2.1,()))) (zkn ([]:List Tp5) ([]:List Int) ((first.1.1,((first.1.2.1.1,(first.1.2.1.2.1,(first.1.2.1.2.2.1,(first.1.2.1.2.2.2.1,())))),((first.1.2.2.1.1,(first.1.2.2.1.2.1,(first.1.2.2.1.2.2.1,(first.1.2.2.1.2.2.2.1,())))),()))),(first.2.1,())) (0:Int)) ([((first.1.1,((first.1.2.1.1,(first.1.2.1.2.1,(first.1.2.1.2.2.1,(first.1.2.1.2.2.2.1,())))),((first.1.2.2.1.1,(first.1.2.2.1.2.1,(first.1.2.2.1.2.2.1,(first.1.2.2.1.2.2.2.1,())))),()))),(first.2.1,()))]) ([]:List Tp19) ([]:List Int)
theorem zkJ (r8:Nat->Tf6) (r8':Tf6) (h_r8:∀ a0 a1 a2 a3 a4 a5,ChO (fun κ=>r8 κ a0 a1 a2 a3 a4 a5) (r8' a0 a1 a2 a3 a4 a5)) (t row y'_1 n number_4 number_5 l_4):ChO (fun κ=>zce t row (r8 κ) y'_1 n number_4 number_5 l_4) (zce t row r8' y'_1 n number_4 number_5 l_4):=by
  unfold zce
  repeat' with_reducible first | exact ChO.const _ | exact h_r8 _ _ _ _ _ _ | apply ChO.G
theorem ze3 (r4:Nat->Tf3) (r4':Tf3) (h_r4:∀ a0 a1 a2 a3 a4 a5 a6 a7,ChO (fun κ=>r4 κ a0 a1 a2 a3 a4 a5 a6 a7) (r4' a0 a1 a2 a3 a4 a5 a6 a7)) (r8:Nat->Tf6) (r8':Tf6) (h_r8:∀ a0 a1 a2 a3 a4 a5,ChO (fun κ=>r8 κ a0 a1 a2 a3 a4 a5) (r8' a0 a1 a2 a3 a4 a5)) (letters most d d_1 l_1 d_2 d_3 t l_2 number_2 number_3 l_3 row):ChO (fun κ=>zbp letters most d d_1 l_1 d_2 d_3 (r4 κ) (r8 κ) t l_2 number_2 number_3 l_3 row) (zbp letters most d d_1 l_1 d_2 d_3 r4' r8' t l_2 number_2 number_3 l_3 row):=by
  unfold zbp
  repeat' with_reducible first | exact ChO.const _ | exact h_r4 _ _ _ _ _ _ _ _ | exact h_r8 _ _ _ _ _ _ | (apply zkJ<;>assumption) | apply ChO.ite | apply ChO.G | (apply ChO.bind;intro _)
theorem zdW (r4 letters most d d_1 l_1 d_2 d_3):Cn (zhs letters most d d_1 l_1 d_2 d_3 r4):=fun g h hg x=>ze3 (fun _=>r4) r4 (fun _ _ _ _ _ _ _ _=>ChO.const _) _ _ (fun a0 a1 a2 a3 a4 a5=>hg (a0,a1,a2,a3,a4,a5)) letters most d d_1 l_1 d_2 d_3 x.1 x.2.1 x.2.2.1 x.2.2.2.1 x.2.2.2.2.1 x.2.2.2.2.2
theorem zgu (r4 letters most d d_1 l_1 d_2 d_3 t l_2 number_2 number_3 l_3 row):zaY letters most d d_1 l_1 d_2 d_3 r4 t l_2 number_2 number_3 l_3 row=zbp letters most d d_1 l_1 d_2 d_3 r4 (zaY letters most d d_1 l_1 d_2 d_3 r4) t l_2 number_2 number_3 l_3 row:=zah (zdW r4 letters most d d_1 l_1 d_2 d_3) (t,l_2,number_2,number_3,l_3,row)
theorem zlZ (r4:Nat->Tf3) (r4':Tf3) (h_r4:∀ a0 a1 a2 a3 a4 a5 a6 a7,ChO (fun κ=>r4 κ a0 a1 a2 a3 a4 a5 a6 a7) (r4' a0 a1 a2 a3 a4 a5 a6 a7)) (letters most d d_1 l_1 d_2 d_3 t l_2 number_2 number_3 l_3 row):ChO (fun κ=>zaY letters most d d_1 l_1 d_2 d_3 (r4 κ) t l_2 number_2 number_3 l_3 row) (zaY letters most d d_1 l_1 d_2 d_3 r4' t l_2 number_2 number_3 l_3 row):=by
  unfold zaY
  exact zdj (fun κ=>(zdW (r4 κ) letters most d d_1 l_1 d_2 d_3).mono) (zdW r4' letters most d d_1 l_1 d_2 d_3).mono (fun g h hg x=>ze3 r4 r4' h_r4 _ _ (fun a0 a1 a2 a3 a4 a5=>hg (a0,a1,a2,a3,a4,a5)) letters most d d_1 l_1 d_2 d_3 x.1 x.2.1 x.2.2.1 x.2.2.2.1 x.2.2.2.2.1 x.2.2.2.2.2) _
theorem zki (r4:Nat->Tf3) (r4':Tf3) (h_r4:∀ a0 a1 a2 a3 a4 a5 a6 a7,ChO (fun κ=>r4 κ a0 a1 a2 a3 a4 a5 a6 a7) (r4' a0 a1 a2 a3 a4 a5 a6 a7)) (letters most l d d_1 number number_1 l_1 d_2 d_3):ChO (fun κ=>zbo letters most (r4 κ) l d d_1 number number_1 l_1 d_2 d_3) (zbo letters most r4' l d d_1 number number_1 l_1 d_2 d_3):=by
  unfold zbo
  repeat' with_reducible first | exact ChO.const _ | exact h_r4 _ _ _ _ _ _ _ _ | (apply zlZ<;>assumption) | apply ChO.ite | apply ChO.G
theorem zlY (letters most):Cn (zhr letters most):=fun g h hg x=>zki  _ _ (fun a0 a1 a2 a3 a4 a5 a6 a7=>hg (a0,a1,a2,a3,a4,a5,a6,a7)) letters most x.1 x.2.1 x.2.2.1 x.2.2.2.1 x.2.2.2.2.1 x.2.2.2.2.2.1 x.2.2.2.2.2.2.1 x.2.2.2.2.2.2.2
theorem zgt (letters most l d d_1 number number_1 l_1 d_2 d_3):zeb letters most l d d_1 number number_1 l_1 d_2 d_3=zbo letters most (zeb letters most) l d d_1 number number_1 l_1 d_2 d_3:=zah (zlY letters most) (l,d,d_1,number,number_1,l_1,d_2,d_3)

def zet (s:Tp19):Option Tp19:=
  if s.length=0 then both [(.list (.int .i64))] (
  some ([])) (
  G (room ([]:List Int) s 8) (
  some (([]:List Int)++s))) else
  G (room ([]:List Int) s 8) (
  some (([]:List Int)++s))

def zaZ (class':Tp19) (t:Int) (next':Tp19) (r6:(Int->(List (Int×(List UInt8)×Unit))->Tp19->Tp19->Option Tp19)) (b:Tp19) (number_2:(List (Int×(List UInt8)×Unit))) (number_3:Tp19):Option Tp19:=
  G (0<=t/\t < (next'.length:Int)) (
  G ((t).toNat < next'.length) (
  G (fits (t+(1:Int))) (
  r6 (t+(1:Int)) number_2 number_3 (next'.set (t).toNat (mget number_2 number_3 (ix class' t,(bstr b,())) (0:Int))))))
def zbb (d:Tp10) (class':Tp19) (t:Int) (number:(List (Int×(List UInt8)×Unit))) (number_1 next':Tp19) (r6:(Int->(List (Int×(List UInt8)×Unit))->Tp19->Tp19->Option Tp19)) (r10:Int->Tp19->Option Tp19) (t_1:Int) (b:Tp19):Option Tp19:=
  if (decide (t_1 < ((ix d.2.2.1 t).length:Int)))=true then
  G (0<=t_1/\t_1 < ((ix d.2.2.1 t).length:Int)) (
  G (0<=ix (ix d.2.2.1 t) t_1/\ix (ix d.2.2.1 t) t_1 < (class'.length:Int)) (
  G ((ix (ix d.2.2.1 t) t_1).toNat < class'.length) (
  G (0<=ix (ix d.2.2.1 t) t_1/\ix (ix d.2.2.1 t) t_1 < (class'.length:Int)) (
  G ((ix (ix d.2.2.1 t) t_1).toNat < class'.length) (
  G (0<=(8:Int)) (
  G (room b ([IntKind.wrap .u8 (ix class' (ix (ix d.2.2.1 t) t_1)),IntKind.wrap .u8 (ishr .i64 (ix class' (ix (ix d.2.2.1 t) t_1)) (8:Int))]) 1) (
  G (fits (t_1+(1:Int))) (
  r10 (t_1+(1:Int)) (b++([IntKind.wrap .u8 (ix class' (ix (ix d.2.2.1 t) t_1)),IntKind.wrap .u8 (ishr .i64 (ix class' (ix (ix d.2.2.1 t) t_1)) (8:Int))])))))))))) else
  G (0<=t/\t < (class'.length:Int)) (
  G ((t).toNat < class'.length) (
  if (!(mhas number (ix class' t,(bstr b,()))))=true then
  zaZ class' t next' r6 b (zkm number (ix class' t,(bstr b,()))) (zkn number number_1 (ix class' t,(bstr b,())) (number.length:Int)) else
  zaZ class' t next' r6 b number number_1))
def zgp (d:Tp10) (class':Tp19) (t:Int) (number:(List (Int×(List UInt8)×Unit))) (number_1 next':Tp19) (r6:(Int->(List (Int×(List UInt8)×Unit))->Tp19->Tp19->Option Tp19)):(Int×Tp19->Option Tp19)->Int×Tp19->Option Tp19:=
  fun rec x=>zbb d class' t number number_1 next' r6 (fun t_1 b=>rec (t_1,b)) x.1 x.2
def za0 (d:Tp10) (class':Tp19) (t:Int) (number:(List (Int×(List UInt8)×Unit))) (number_1 next':Tp19) (r6:(Int->(List (Int×(List UInt8)×Unit))->Tp19->Tp19->Option Tp19)) (t_1:Int) (b:Tp19):Option Tp19:=LFix (zgp d class' t number number_1 next' r6 ) (t_1,b)
def zbn (d:Tp10) (count:Int) (class':Tp19) (r3:(Int->Tp19->Option Tp19)) (r6:Int->(List (Int×(List UInt8)×Unit))->Tp19->Tp19->Option Tp19) (t:Int) (number:(List (Int×(List UInt8)×Unit))) (number_1 next':Tp19):Option Tp19:=
  if (decide (t < (d.2.2.1.length:Int)))=true then
  G (0<=t/\t < (d.2.2.1.length:Int)) (
  za0 d class' t number number_1 next' r6 (0:Int) ([])) else
  if (decide ((number.length:Int)=count))=true then
  some next' else
  r3 (number.length:Int) next'
def zhp (d:Tp10) (count:Int) (class':Tp19) (r3:(Int->Tp19->Option Tp19)):(Int×(List (Int×(List UInt8)×Unit))×Tp19×Tp19->Option Tp19)->Int×(List (Int×(List UInt8)×Unit))×Tp19×Tp19->Option Tp19:=
  fun rec x=>zbn d count class' r3 (fun t number number_1 next'=>rec (t,number,number_1,next')) x.1 x.2.1 x.2.2.1 x.2.2.2
def zby (d:Tp10) (count:Int) (class':Tp19) (r3:(Int->Tp19->Option Tp19)) (t:Int) (number:(List (Int×(List UInt8)×Unit))) (number_1 next':Tp19):Option Tp19:=LFix (zhp d count class' r3 ) (t,number,number_1,next')
def zbW (d:Tp10) (r3:Int->Tp19->Option Tp19) (count:Int) (class':Tp19):Option Tp19:=
  G (mkOK (class'.length:Int) (class'.length:Int) 8) (
  zby d count class' r3 (0:Int) ([]:List (Int×(List UInt8)×Unit)) ([]:List Int) (List.replicate ((class'.length:Int)).toNat (0:Int)))
def zho (d:Tp10):(Int×Tp19->Option Tp19)->Int×Tp19->Option Tp19:=
  fun rec x=>zbW d (fun count class'=>rec (count,class')) x.1 x.2
def zcx (d:Tp10) (count:Int) (class':Tp19):Option Tp19:=LFix (zho d ) (count,class')
def zg6 (d:Tp10):Option Tp19:=
  (zet d.2.2.2.1).bind (fun y'=>
  zcx d (0:Int) y')
theorem zkH (r6:Nat->Int->(List (Int×(List UInt8)×Unit))->Tp19->Tp19->Option Tp19) (r6':Int->(List (Int×(List UInt8)×Unit))->Tp19->Tp19->Option Tp19) (h_r6:∀ a0 a1 a2 a3,ChO (fun κ=>r6 κ a0 a1 a2 a3) (r6' a0 a1 a2 a3)) (class' t next' b number_2 number_3):ChO (fun κ=>zaZ class' t next' (r6 κ) b number_2 number_3) (zaZ class' t next' r6' b number_2 number_3):=by
  unfold zaZ
  repeat' with_reducible first | exact ChO.const _ | exact h_r6 _ _ _ _ | apply ChO.G
theorem zeB (r6:Nat->Int->(List (Int×(List UInt8)×Unit))->Tp19->Tp19->Option Tp19) (r6':Int->(List (Int×(List UInt8)×Unit))->Tp19->Tp19->Option Tp19) (h_r6:∀ a0 a1 a2 a3,ChO (fun κ=>r6 κ a0 a1 a2 a3) (r6' a0 a1 a2 a3)) (r10:Nat->Int->Tp19->Option Tp19) (r10':Int->Tp19->Option Tp19) (h_r10:∀ a0 a1,ChO (fun κ=>r10 κ a0 a1) (r10' a0 a1)) (d class' t number number_1 next' t_1 b):ChO (fun κ=>zbb d class' t number number_1 next' (r6 κ) (r10 κ) t_1 b) (zbb d class' t number number_1 next' r6' r10' t_1 b):=by
  unfold zbb
  repeat' with_reducible first | exact ChO.const _ | exact h_r6 _ _ _ _ | exact h_r10 _ _ | (apply zkH<;>assumption) | apply ChO.ite | apply ChO.G
theorem zdp (r6 d class' t number number_1 next'):Cn (zgp d class' t number number_1 next' r6):=fun g h hg x=>zeB (fun _=>r6) r6 (fun _ _ _ _=>ChO.const _) _ _ (fun a0 a1=>hg (a0,a1)) d class' t number number_1 next' x.1 x.2
theorem zfG (r6 d class' t number number_1 next' t_1 b):za0 d class' t number number_1 next' r6 t_1 b=zbb d class' t number number_1 next' r6 (za0 d class' t number number_1 next' r6) t_1 b:=zah (zdp r6 d class' t number number_1 next') (t_1,b)
theorem zkI (r6:Nat->Int->(List (Int×(List UInt8)×Unit))->Tp19->Tp19->Option Tp19) (r6':Int->(List (Int×(List UInt8)×Unit))->Tp19->Tp19->Option Tp19) (h_r6:∀ a0 a1 a2 a3,ChO (fun κ=>r6 κ a0 a1 a2 a3) (r6' a0 a1 a2 a3)) (d class' t number number_1 next' t_1 b):ChO (fun κ=>za0 d class' t number number_1 next' (r6 κ) t_1 b) (za0 d class' t number number_1 next' r6' t_1 b):=by
  unfold za0
  exact zdj (fun κ=>(zdp (r6 κ) d class' t number number_1 next').mono) (zdp r6' d class' t number number_1 next').mono (fun g h hg x=>zeB r6 r6' h_r6 _ _ (fun a0 a1=>hg (a0,a1)) d class' t number number_1 next' x.1 x.2) _
theorem ze0 (r3:Nat->Int->Tp19->Option Tp19) (r3':Int->Tp19->Option Tp19) (h_r3:∀ a0 a1,ChO (fun κ=>r3 κ a0 a1) (r3' a0 a1)) (r6:Nat->Int->(List (Int×(List UInt8)×Unit))->Tp19->Tp19->Option Tp19) (r6':Int->(List (Int×(List UInt8)×Unit))->Tp19->Tp19->Option Tp19) (h_r6:∀ a0 a1 a2 a3,ChO (fun κ=>r6 κ a0 a1 a2 a3) (r6' a0 a1 a2 a3)) (d count class' t number number_1 next'):ChO (fun κ=>zbn d count class' (r3 κ) (r6 κ) t number number_1 next') (zbn d count class' r3' r6' t number number_1 next'):=by
  unfold zbn
  repeat' with_reducible first | exact ChO.const _ | exact h_r3 _ _ | exact h_r6 _ _ _ _ | (apply zkI<;>assumption) | apply ChO.ite | apply ChO.G
theorem zdV (r3 d count class'):Cn (zhp d count class' r3):=fun g h hg x=>ze0 (fun _=>r3) r3 (fun _ _=>ChO.const _) _ _ (fun a0 a1 a2 a3=>hg (a0,a1,a2,a3)) d count class' x.1 x.2.1 x.2.2.1 x.2.2.2
theorem zgq (r3 d count class' t number number_1 next'):zby d count class' r3 t number number_1 next'=zbn d count class' r3 (zby d count class' r3) t number number_1 next':=zah (zdV r3 d count class') (t,number,number_1,next')
theorem zlX (r3:Nat->Int->Tp19->Option Tp19) (r3':Int->Tp19->Option Tp19) (h_r3:∀ a0 a1,ChO (fun κ=>r3 κ a0 a1) (r3' a0 a1)) (d count class' t number number_1 next'):ChO (fun κ=>zby d count class' (r3 κ) t number number_1 next') (zby d count class' r3' t number number_1 next'):=by
  unfold zby
  exact zdj (fun κ=>(zdV (r3 κ) d count class').mono) (zdV r3' d count class').mono (fun g h hg x=>ze0 r3 r3' h_r3 _ _ (fun a0 a1 a2 a3=>hg (a0,a1,a2,a3)) d count class' x.1 x.2.1 x.2.2.1 x.2.2.2) _
theorem zke (r3:Nat->Int->Tp19->Option Tp19) (r3':Int->Tp19->Option Tp19) (h_r3:∀ a0 a1,ChO (fun κ=>r3 κ a0 a1) (r3' a0 a1)) (d count class'):ChO (fun κ=>zbW d (r3 κ) count class') (zbW d r3' count class'):=by
  unfold zbW
  repeat' with_reducible first | exact ChO.const _ | exact h_r3 _ _ | (apply zlX<;>assumption) | apply ChO.G
theorem zlV (d):Cn (zho d):=fun g h hg x=>zke  _ _ (fun a0 a1=>hg (a0,a1)) d x.1 x.2
theorem zlW (d count class'):zcx d count class'=zbW d (zcx d) count class':=zah (zlV d) (count,class')

def zec (c a:Int) (t:Tp19) (t_1:Tp10) (t_2:Tp19):Option (Int):=
  G (0<=c/\c < (t_2.length:Int)) (
  G (0<=ix t_2 c/\ix t_2 c < (t_1.2.2.1.length:Int)) (
  G (0<=a/\a < ((ix t_1.2.2.1 (ix t_2 c)).length:Int)) (
  G (0<=ix (ix t_1.2.2.1 (ix t_2 c)) a/\ix (ix t_1.2.2.1 (ix t_2 c)) a < (t.length:Int)) (
  some (ix t (ix (ix t_1.2.2.1 (ix t_2 c)) a))))))

def zfY (c:Int) (t:Tp10) (t_1:Tp19):Option (Int):=
  G (0<=c/\c < (t_1.length:Int)) (
  G (0<=ix t_1 c/\ix t_1 c < (t.2.2.2.1.length:Int)) (
  some (ix t.2.2.2.1 (ix t_1 c))))

def zbM (t:Int) (row:Tp19) (r8:(Int->Tp19->Tp19->Tp19->Tp19->Option Tp9)) (n:Int) (number_4 number_5 l_2:Tp19):Option Tp9:=
  G (0<=t/\t < (row.length:Int)) (
  G ((t).toNat < row.length) (
  G (fits (t+(1:Int))) (
  r8 (t+(1:Int)) number_4 number_5 l_2 (row.set (t).toNat n))))
def za1 (letters:Int) (c:Tp19) (c_1:Tp10) (c_2:Tp19) (c_3:Tp10) (c_4:Tp19) (most d d_1:Int) (l:Tp19) (d_2:Tp17) (d_3:Tp19) (r4:(Int->Int->Tp19->Tp19->Tp19->Tp17->Tp19->Option Tp9)) (r8:Tf7) (t:Int) (number_2 number_3 l_1 row:Tp19):Option Tp9:=
  if (decide (t < letters))=true then
  (zec (ix l (d_2.length:Int)) t c c_1 c_2).bind (fun y'=>
  if (!(mhas number_2 y'))=true then
  if (decide ((l_1.length:Int)=most))=true then
  some (((0:Int),((0:Int),([],([],())))),false) else
  G (room l_1 ([y']) 8) (
  zbM t row r8 (l_1.length:Int) (zkm number_2 y') (zkn number_2 number_3 y' (l_1.length:Int)) (l_1++([y']))) else
  zbM t row r8 (mget number_2 number_3 y' (0:Int)) number_2 number_3 l_1) else
  G (room d_2 ([row]) 24) (
  (zfY (ix l (d_2.length:Int)) c_3 c_4).bind (fun y'_1=>
  G (room d_3 ([y'_1]) 8) (
  r4 d d_1 number_2 number_3 l_1 (d_2++([row])) (d_3++([y'_1])))))
def zfI (letters:Int) (c:Tp19) (c_1:Tp10) (c_2:Tp19) (c_3:Tp10) (c_4:Tp19) (most d d_1:Int) (l:Tp19) (d_2:Tp17) (d_3:Tp19) (r4:(Int->Int->Tp19->Tp19->Tp19->Tp17->Tp19->Option Tp9)):(Int×Tp19×Tp19×Tp19×Tp19->Option Tp9)->Int×Tp19×Tp19×Tp19×Tp19->Option Tp9:=
  fun rec x=>za1 letters c c_1 c_2 c_3 c_4 most d d_1 l d_2 d_3 r4 (fun t number_2 number_3 l_1 row=>rec (t,number_2,number_3,l_1,row)) x.1 x.2.1 x.2.2.1 x.2.2.2.1 x.2.2.2.2
def zaK (letters:Int) (c:Tp19) (c_1:Tp10) (c_2:Tp19) (c_3:Tp10) (c_4:Tp19) (most d d_1:Int) (l:Tp19) (d_2:Tp17) (d_3:Tp19) (r4:(Int->Int->Tp19->Tp19->Tp19->Tp17->Tp19->Option Tp9)) (t:Int) (number_2 number_3 l_1 row:Tp19):Option Tp9:=LFix (zfI letters c c_1 c_2 c_3 c_4 most d d_1 l d_2 d_3 r4 ) (t,number_2,number_3,l_1,row)
def zbl (letters:Int) (c:Tp19) (c_1:Tp10) (c_2:Tp19) (c_3:Tp10) (c_4:Tp19) (most:Int) (r4:Tf4) (d d_1:Int) (number number_1 l:Tp19) (d_2:Tp17) (d_3:Tp19):Option Tp9:=
  if (decide ((d_2.length:Int) < (l.length:Int)))=true then
  G (0<=(d_2.length:Int)/\(d_2.length:Int) < (l.length:Int)) (
  G (((d_2.length:Int)).toNat < l.length) (
  G (mkOK letters letters 8) (
  zaK letters c c_1 c_2 c_3 c_4 most d d_1 l d_2 d_3 r4 (0:Int) number number_1 l (List.replicate (letters).toNat (0:Int))))) else
  some ((d,(d_1,(d_2,(d_3,())))),true)
def zfH (letters:Int) (c:Tp19) (c_1:Tp10) (c_2:Tp19) (c_3:Tp10) (c_4:Tp19) (most:Int):(Int×Int×Tp19×Tp19×Tp19×Tp17×Tp19->Option Tp9)->Int×Int×Tp19×Tp19×Tp19×Tp17×Tp19->Option Tp9:=
  fun rec x=>zbl letters c c_1 c_2 c_3 c_4 most (fun d d_1 number number_1 l d_2 d_3=>rec (d,d_1,number,number_1,l,d_2,d_3)) x.1 x.2.1 x.2.2.1 x.2.2.2.1 x.2.2.2.2.1 x.2.2.2.2.2.1 x.2.2.2.2.2.2
def zcu (letters:Int) (c:Tp19) (c_1:Tp10) (c_2:Tp19) (c_3:Tp10) (c_4:Tp19) (most d d_1:Int) (number number_1 l:Tp19) (d_2:Tp17) (d_3:Tp19):Option Tp9:=LFix (zfH letters c c_1 c_2 c_3 c_4 most ) (d,d_1,number,number_1,l,d_2,d_3)
def zeH (letters first:Int) (c:Tp19) (c_1:Tp10) (c_2:Tp19) (c_3:Tp10) (c_4:Tp19) (most:Int):Option Tp9:=
  zcu letters c c_1 c_2 c_3 c_4 most letters (0:Int) (zkm ([]:List Int) first) (zkn ([]:List Int) ([]:List Int) first (0:Int)) ([first]) ([]:List Tp19) ([]:List Int)
theorem zjt (r8:Nat->Tf7) (r8':Tf7) (h_r8:∀ a0 a1 a2 a3 a4,ChO (fun κ=>r8 κ a0 a1 a2 a3 a4) (r8' a0 a1 a2 a3 a4)) (t row n number_4 number_5 l_2):ChO (fun κ=>zbM t row (r8 κ) n number_4 number_5 l_2) (zbM t row r8' n number_4 number_5 l_2):=by
  unfold zbM
  repeat' with_reducible first | exact ChO.const _ | exact h_r8 _ _ _ _ _ | apply ChO.G
theorem zei (r4:Nat->Tf4) (r4':Tf4) (h_r4:∀ a0 a1 a2 a3 a4 a5 a6,ChO (fun κ=>r4 κ a0 a1 a2 a3 a4 a5 a6) (r4' a0 a1 a2 a3 a4 a5 a6)) (r8:Nat->Tf7) (r8':Tf7) (h_r8:∀ a0 a1 a2 a3 a4,ChO (fun κ=>r8 κ a0 a1 a2 a3 a4) (r8' a0 a1 a2 a3 a4)) (letters c c_1 c_2 c_3 c_4 most d d_1 l d_2 d_3 t number_2 number_3 l_1 row):ChO (fun κ=>za1 letters c c_1 c_2 c_3 c_4 most d d_1 l d_2 d_3 (r4 κ) (r8 κ) t number_2 number_3 l_1 row) (za1 letters c c_1 c_2 c_3 c_4 most d d_1 l d_2 d_3 r4' r8' t number_2 number_3 l_1 row):=by
  unfold za1
  repeat' with_reducible first | exact ChO.const _ | exact h_r4 _ _ _ _ _ _ _ | exact h_r8 _ _ _ _ _ | (apply zjt<;>assumption) | apply ChO.ite | apply ChO.G | (apply ChO.bind;intro _)
theorem zc2 (r4 letters c c_1 c_2 c_3 c_4 most d d_1 l d_2 d_3):Cn (zfI letters c c_1 c_2 c_3 c_4 most d d_1 l d_2 d_3 r4):=fun g h hg x=>zei (fun _=>r4) r4 (fun _ _ _ _ _ _ _=>ChO.const _) _ _ (fun a0 a1 a2 a3 a4=>hg (a0,a1,a2,a3,a4)) letters c c_1 c_2 c_3 c_4 most d d_1 l d_2 d_3 x.1 x.2.1 x.2.2.1 x.2.2.2.1 x.2.2.2.2
theorem ze2 (r4 letters c c_1 c_2 c_3 c_4 most d d_1 l d_2 d_3 t number_2 number_3 l_1 row):zaK letters c c_1 c_2 c_3 c_4 most d d_1 l d_2 d_3 r4 t number_2 number_3 l_1 row=za1 letters c c_1 c_2 c_3 c_4 most d d_1 l d_2 d_3 r4 (zaK letters c c_1 c_2 c_3 c_4 most d d_1 l d_2 d_3 r4) t number_2 number_3 l_1 row:=zah (zc2 r4 letters c c_1 c_2 c_3 c_4 most d d_1 l d_2 d_3) (t,number_2,number_3,l_1,row)
theorem zkh (r4:Nat->Tf4) (r4':Tf4) (h_r4:∀ a0 a1 a2 a3 a4 a5 a6,ChO (fun κ=>r4 κ a0 a1 a2 a3 a4 a5 a6) (r4' a0 a1 a2 a3 a4 a5 a6)) (letters c c_1 c_2 c_3 c_4 most d d_1 l d_2 d_3 t number_2 number_3 l_1 row):ChO (fun κ=>zaK letters c c_1 c_2 c_3 c_4 most d d_1 l d_2 d_3 (r4 κ) t number_2 number_3 l_1 row) (zaK letters c c_1 c_2 c_3 c_4 most d d_1 l d_2 d_3 r4' t number_2 number_3 l_1 row):=by
  unfold zaK
  exact zdj (fun κ=>(zc2 (r4 κ) letters c c_1 c_2 c_3 c_4 most d d_1 l d_2 d_3).mono) (zc2 r4' letters c c_1 c_2 c_3 c_4 most d d_1 l d_2 d_3).mono (fun g h hg x=>zei r4 r4' h_r4 _ _ (fun a0 a1 a2 a3 a4=>hg (a0,a1,a2,a3,a4)) letters c c_1 c_2 c_3 c_4 most d d_1 l d_2 d_3 x.1 x.2.1 x.2.2.1 x.2.2.2.1 x.2.2.2.2) _
theorem zic (r4:Nat->Tf4) (r4':Tf4) (h_r4:∀ a0 a1 a2 a3 a4 a5 a6,ChO (fun κ=>r4 κ a0 a1 a2 a3 a4 a5 a6) (r4' a0 a1 a2 a3 a4 a5 a6)) (letters c c_1 c_2 c_3 c_4 most d d_1 number number_1 l d_2 d_3):ChO (fun κ=>zbl letters c c_1 c_2 c_3 c_4 most (r4 κ) d d_1 number number_1 l d_2 d_3) (zbl letters c c_1 c_2 c_3 c_4 most r4' d d_1 number number_1 l d_2 d_3):=by
  unfold zbl
  repeat' with_reducible first | exact ChO.const _ | exact h_r4 _ _ _ _ _ _ _ | (apply zkh<;>assumption) | apply ChO.ite | apply ChO.G
theorem zkf (letters c c_1 c_2 c_3 c_4 most):Cn (zfH letters c c_1 c_2 c_3 c_4 most):=fun g h hg x=>zic  _ _ (fun a0 a1 a2 a3 a4 a5 a6=>hg (a0,a1,a2,a3,a4,a5,a6)) letters c c_1 c_2 c_3 c_4 most x.1 x.2.1 x.2.2.1 x.2.2.2.1 x.2.2.2.2.1 x.2.2.2.2.2.1 x.2.2.2.2.2.2
theorem zkg (letters c c_1 c_2 c_3 c_4 most d d_1 number number_1 l d_2 d_3):zcu letters c c_1 c_2 c_3 c_4 most d d_1 number number_1 l d_2 d_3=zbl letters c c_1 c_2 c_3 c_4 most (zcu letters c c_1 c_2 c_3 c_4 most) d d_1 number number_1 l d_2 d_3:=zah (zkf letters c c_1 c_2 c_3 c_4 most) (d,d_1,number,number_1,l,d_2,d_3)

def zif (out out_1:Int) (out_2:Tp17) (out_3:Tp19):Option Tp10:=
  some (out,(out_1,(out_2,(out_3,()))))
def zbc (d:Tp10) (y':Tp19) (r4:Int->Tp19->Option Tp10) (t:Int) (l:Tp19):Option Tp10:=
  if (decide (t < (y'.length:Int)))=true then
  G (0<=t/\t < (y'.length:Int)) (
  G ((t).toNat < y'.length) (
  G (0<=ix y' t/\ix y' t < (l.length:Int)) (
  G ((ix y' t).toNat < l.length) (
  G (fits (t+(1:Int))) (
  r4 (t+(1:Int)) (l.set (ix y' t).toNat t)))))) else
  G (0<=d.2.1/\d.2.1 < (y'.length:Int)) (
  G ((d.2.1).toNat < y'.length) (
  G (fits ((y'.length:Int)+(1:Int))) (
  both [(.pair (.int .i64) (.pair (.int .i64) (.pair (.list (.list (.int .i64))) (.pair (.list (.int .i64)) .unit))))] (
  (zeH d.1 (ix y' d.2.1) y' (d.1,(d.2.1,(d.2.2.1,(d.2.2.2.1,())))) l (d.1,(d.2.1,(d.2.2.1,(d.2.2.2.1,())))) l ((y'.length:Int)+(1:Int))).bind (fun y'_4=>
  zif y'_4.1.1 y'_4.1.2.1 y'_4.1.2.2.1 y'_4.1.2.2.2.1)) (
  (zeH d.1 (ix y' d.2.1) y' (d.1,(d.2.1,(d.2.2.1,(d.2.2.2.1,())))) l (d.1,(d.2.1,(d.2.2.1,(d.2.2.2.1,())))) l ((y'.length:Int)+(1:Int))).bind (fun y'_8=>
  zif y'_8.1.1 y'_8.1.2.1 y'_8.1.2.2.1 y'_8.1.2.2.2.1)))))
def zgx (d:Tp10) (y':Tp19):(Int×Tp19->Option Tp10)->Int×Tp19->Option Tp10:=
  fun rec x=>zbc d y' (fun t l=>rec (t,l)) x.1 x.2
def zbN (d:Tp10) (y':Tp19) (t:Int) (l:Tp19):Option Tp10:=LFix (zgx d y' ) (t,l)
def zej (d:Tp10):Option Tp10:=
  (zg6 (d.1,(d.2.1,(d.2.2.1,(d.2.2.2.1,()))))).bind (fun y'=>
  G (mkOK (y'.length:Int) (y'.length:Int) 8) (
  zbN d y' (0:Int) (List.replicate ((y'.length:Int)).toNat (0:Int))))
theorem zju (r4:Nat->Int->Tp19->Option Tp10) (r4':Int->Tp19->Option Tp10) (h_r4:∀ a0 a1,ChO (fun κ=>r4 κ a0 a1) (r4' a0 a1)) (d y' t l):ChO (fun κ=>zbc d y' (r4 κ) t l) (zbc d y' r4' t l):=by
  unfold zbc
  repeat' with_reducible first | exact ChO.const _ | exact h_r4 _ _ | apply ChO.ite | apply ChO.G | apply ChO.both | (apply ChO.bind;intro _)
theorem zkK (d y'):Cn (zgx d y'):=fun g h hg x=>zju  _ _ (fun a0 a1=>hg (a0,a1)) d y' x.1 x.2
theorem zfN (d y' t l):zbN d y' t l=zbc d y' (zbN d y') t l:=zah (zkK d y') (t,l)

def zcP (a:Tp7) (l l_1 l_2 l_3 l_4 l_5 l_6 l_7 l_8 l_9 l_10 l_11 l_12 l_13 l_14 l_15 l_16 first first_1 first_2 first_3 first_4 first_5 first_6 first_7 first_8 first_9:Int):Option Tp10:=
  (ze1 a.1 ((first,((first_1,(first_2,(first_3,(first_4,())))),((first_5,(first_6,(first_7,(first_8,())))),()))),(first_9,())) (1048576:Int) (((l,(l_1,(l_2,(l_3,())))),((l_4,(l_5,(l_6,(l_7,())))),((l_8,(l_9,(l_10,(l_11,())))),((l_12,(l_13,(l_14,(l_15,())))),())))),(l_16,()))).bind (fun y'_7=>
  (zej (y'_7.1.1,(y'_7.1.2.1,(y'_7.1.2.2.1,(y'_7.1.2.2.2.1,()))))).bind (fun y'_6=>
  some (y'_6.1,(y'_6.2.1,(y'_6.2.2.1,(y'_6.2.2.2.1,()))))))
def zaJ (a:Tp7) (r3:Tf2) (t l l_1 l_2 l_3 l_4 l_5 l_6 l_7 l_8 l_9 l_10 l_11 l_12 l_13 l_14 l_15 l_16:Int):Option Tp10:=
  if (decide (t < (a.2.2.2.1.length:Int)))=true then
  G (0<=t/\t < (a.2.2.2.1.length:Int)) (
  G (0<=(ix a.2.2.2.1 t).1/\(ix a.2.2.2.1 t).1 < (4:Int)) (
  G (0<=((ix a.2.2.2.1 t).2).1/\((ix a.2.2.2.1 t).2).1 < (4:Int)) (
  G (((ix a.2.2.2.1 t).1).toNat * 4+(((ix a.2.2.2.1 t).2).1).toNat < 16) (
  G (0<=(((ix a.2.2.2.1 t).2).2).1) (
  G (0<=(ix a.2.2.2.1 t).1/\(ix a.2.2.2.1 t).1 < (4:Int)) (
  G (0<=((ix a.2.2.2.1 t).2).1/\((ix a.2.2.2.1 t).2).1 < (4:Int)) (
  G (((ix a.2.2.2.1 t).1).toNat * 4+(((ix a.2.2.2.1 t).2).1).toNat < 16) (
  G (fits (t+(1:Int))) (
  r3 (t+(1:Int)) (([l,l_1,l_2,l_3,l_4,l_5,l_6,l_7,l_8,l_9,l_10,l_11,l_12,l_13,l_14,l_15].set (((ix a.2.2.2.1 t).1).toNat * 4+(((ix a.2.2.2.1 t).2).1).toNat) (ior .i64 ([l,l_1,l_2,l_3,l_4,l_5,l_6,l_7,l_8,l_9,l_10,l_11,l_12,l_13,l_14,l_15].getD (((ix a.2.2.2.1 t).1).toNat * 4+(((ix a.2.2.2.1 t).2).1).toNat) 0) (ishl .i64 (1:Int) ((((ix a.2.2.2.1 t).2).2).1)))).getD 0 0) (([l,l_1,l_2,l_3,l_4,l_5,l_6,l_7,l_8,l_9,l_10,l_11,l_12,l_13,l_14,l_15].set (((ix a.2.2.2.1 t).1).toNat * 4+(((ix a.2.2.2.1 t).2).1).toNat) (ior .i64 ([l,l_1,l_2,l_3,l_4,l_5,l_6,l_7,l_8,l_9,l_10,l_11,l_12,l_13,l_14,l_15].getD (((ix a.2.2.2.1 t).1).toNat * 4+(((ix a.2.2.2.1 t).2).1).toNat) 0) (ishl .i64 (1:Int) ((((ix a.2.2.2.1 t).2).2).1)))).getD 1 0) (([l,l_1,l_2,l_3,l_4,l_5,l_6,l_7,l_8,l_9,l_10,l_11,l_12,l_13,l_14,l_15].set (((ix a.2.2.2.1 t).1).toNat * 4+(((ix a.2.2.2.1 t).2).1).toNat) (ior .i64 ([l,l_1,l_2,l_3,l_4,l_5,l_6,l_7,l_8,l_9,l_10,l_11,l_12,l_13,l_14,l_15].getD (((ix a.2.2.2.1 t).1).toNat * 4+(((ix a.2.2.2.1 t).2).1).toNat) 0) (ishl .i64 (1:Int) ((((ix a.2.2.2.1 t).2).2).1)))).getD 2 0) (([l,l_1,l_2,l_3,l_4,l_5,l_6,l_7,l_8,l_9,l_10,l_11,l_12,l_13,l_14,l_15].set (((ix a.2.2.2.1 t).1).toNat * 4+(((ix a.2.2.2.1 t).2).1).toNat) (ior .i64 ([l,l_1,l_2,l_3,l_4,l_5,l_6,l_7,l_8,l_9,l_10,l_11,l_12,l_13,l_14,l_15].getD (((ix a.2.2.2.1 t).1).toNat * 4+(((ix a.2.2.2.1 t).2).1).toNat) 0) (ishl .i64 (1:Int) ((((ix a.2.2.2.1 t).2).2).1)))).getD 3 0) (([l,l_1,l_2,l_3,l_4,l_5,l_6,l_7,l_8,l_9,l_10,l_11,l_12,l_13,l_14,l_15].set (((ix a.2.2.2.1 t).1).toNat * 4+(((ix a.2.2.2.1 t).2).1).toNat) (ior .i64 ([l,l_1,l_2,l_3,l_4,l_5,l_6,l_7,l_8,l_9,l_10,l_11,l_12,l_13,l_14,l_15].getD (((ix a.2.2.2.1 t).1).toNat * 4+(((ix a.2.2.2.1 t).2).1).toNat) 0) (ishl .i64 (1:Int) ((((ix a.2.2.2.1 t).2).2).1)))).getD 4 0) (([l,l_1,l_2,l_3,l_4,l_5,l_6,l_7,l_8,l_9,l_10,l_11,l_12,l_13,l_14,l_15].set (((ix a.2.2.2.1 t).1).toNat * 4+(((ix a.2.2.2.1 t).2).1).toNat) (ior .i64 ([l,l_1,l_2,l_3,l_4,l_5,l_6,l_7,l_8,l_9,l_10,l_11,l_12,l_13,l_14,l_15].getD (((ix a.2.2.2.1 t).1).toNat * 4+(((ix a.2.2.2.1 t).2).1).toNat) 0) (ishl .i64 (1:Int) ((((ix a.2.2.2.1 t).2).2).1)))).getD 5 0) (([l,l_1,l_2,l_3,l_4,l_5,l_6,l_7,l_8,l_9,l_10,l_11,l_12,l_13,l_14,l_15].set (((ix a.2.2.2.1 t).1).toNat * 4+(((ix a.2.2.2.1 t).2).1).toNat) (ior .i64 ([l,l_1,l_2,l_3,l_4,l_5,l_6,l_7,l_8,l_9,l_10,l_11,l_12,l_13,l_14,l_15].getD (((ix a.2.2.2.1 t).1).toNat * 4+(((ix a.2.2.2.1 t).2).1).toNat) 0) (ishl .i64 (1:Int) ((((ix a.2.2.2.1 t).2).2).1)))).getD 6 0) (([l,l_1,l_2,l_3,l_4,l_5,l_6,l_7,l_8,l_9,l_10,l_11,l_12,l_13,l_14,l_15].set (((ix a.2.2.2.1 t).1).toNat * 4+(((ix a.2.2.2.1 t).2).1).toNat) (ior .i64 ([l,l_1,l_2,l_3,l_4,l_5,l_6,l_7,l_8,l_9,l_10,l_11,l_12,l_13,l_14,l_15].getD (((ix a.2.2.2.1 t).1).toNat * 4+(((ix a.2.2.2.1 t).2).1).toNat) 0) (ishl .i64 (1:Int) ((((ix a.2.2.2.1 t).2).2).1)))).getD 7 0) (([l,l_1,l_2,l_3,l_4,l_5,l_6,l_7,l_8,l_9,l_10,l_11,l_12,l_13,l_14,l_15].set (((ix a.2.2.2.1 t).1).toNat * 4+(((ix a.2.2.2.1 t).2).1).toNat) (ior .i64 ([l,l_1,l_2,l_3,l_4,l_5,l_6,l_7,l_8,l_9,l_10,l_11,l_12,l_13,l_14,l_15].getD (((ix a.2.2.2.1 t).1).toNat * 4+(((ix a.2.2.2.1 t).2).1).toNat) 0) (ishl .i64 (1:Int) ((((ix a.2.2.2.1 t).2).2).1)))).getD 8 0) (([l,l_1,l_2,l_3,l_4,l_5,l_6,l_7,l_8,l_9,l_10,l_11,l_12,l_13,l_14,l_15].set (((ix a.2.2.2.1 t).1).toNat * 4+(((ix a.2.2.2.1 t).2).1).toNat) (ior .i64 ([l,l_1,l_2,l_3,l_4,l_5,l_6,l_7,l_8,l_9,l_10,l_11,l_12,l_13,l_14,l_15].getD (((ix a.2.2.2.1 t).1).toNat * 4+(((ix a.2.2.2.1 t).2).1).toNat) 0) (ishl .i64 (1:Int) ((((ix a.2.2.2.1 t).2).2).1)))).getD 9 0) (([l,l_1,l_2,l_3,l_4,l_5,l_6,l_7,l_8,l_9,l_10,l_11,l_12,l_13,l_14,l_15].set (((ix a.2.2.2.1 t).1).toNat * 4+(((ix a.2.2.2.1 t).2).1).toNat) (ior .i64 ([l,l_1,l_2,l_3,l_4,l_5,l_6,l_7,l_8,l_9,l_10,l_11,l_12,l_13,l_14,l_15].getD (((ix a.2.2.2.1 t).1).toNat * 4+(((ix a.2.2.2.1 t).2).1).toNat) 0) (ishl .i64 (1:Int) ((((ix a.2.2.2.1 t).2).2).1)))).getD 10 0) (([l,l_1,l_2,l_3,l_4,l_5,l_6,l_7,l_8,l_9,l_10,l_11,l_12,l_13,l_14,l_15].set (((ix a.2.2.2.1 t).1).toNat * 4+(((ix a.2.2.2.1 t).2).1).toNat) (ior .i64 ([l,l_1,l_2,l_3,l_4,l_5,l_6,l_7,l_8,l_9,l_10,l_11,l_12,l_13,l_14,l_15].getD (((ix a.2.2.2.1 t).1).toNat * 4+(((ix a.2.2.2.1 t).2).1).toNat) 0) (ishl .i64 (1:Int) ((((ix a.2.2.2.1 t).2).2).1)))).getD 11 0) (([l,l_1,l_2,l_3,l_4,l_5,l_6,l_7,l_8,l_9,l_10,l_11,l_12,l_13,l_14,l_15].set (((ix a.2.2.2.1 t).1).toNat * 4+(((ix a.2.2.2.1 t).2).1).toNat) (ior .i64 ([l,l_1,l_2,l_3,l_4,l_5,l_6,l_7,l_8,l_9,l_10,l_11,l_12,l_13,l_14,l_15].getD (((ix a.2.2.2.1 t).1).toNat * 4+(((ix a.2.2.2.1 t).2).1).toNat) 0) (ishl .i64 (1:Int) ((((ix a.2.2.2.1 t).2).2).1)))).getD 12 0) (([l,l_1,l_2,l_3,l_4,l_5,l_6,l_7,l_8,l_9,l_10,l_11,l_12,l_13,l_14,l_15].set (((ix a.2.2.2.1 t).1).toNat * 4+(((ix a.2.2.2.1 t).2).1).toNat) (ior .i64 ([l,l_1,l_2,l_3,l_4,l_5,l_6,l_7,l_8,l_9,l_10,l_11,l_12,l_13,l_14,l_15].getD (((ix a.2.2.2.1 t).1).toNat * 4+(((ix a.2.2.2.1 t).2).1).toNat) 0) (ishl .i64 (1:Int) ((((ix a.2.2.2.1 t).2).2).1)))).getD 13 0) (([l,l_1,l_2,l_3,l_4,l_5,l_6,l_7,l_8,l_9,l_10,l_11,l_12,l_13,l_14,l_15].set (((ix a.2.2.2.1 t).1).toNat * 4+(((ix a.2.2.2.1 t).2).1).toNat) (ior .i64 ([l,l_1,l_2,l_3,l_4,l_5,l_6,l_7,l_8,l_9,l_10,l_11,l_12,l_13,l_14,l_15].getD (((ix a.2.2.2.1 t).1).toNat * 4+(((ix a.2.2.2.1 t).2).1).toNat) 0) (ishl .i64 (1:Int) ((((ix a.2.2.2.1 t).2).2).1)))).getD 14 0) (([l,l_1,l_2,l_3,l_4,l_5,l_6,l_7,l_8,l_9,l_10,l_11,l_12,l_13,l_14,l_15].set (((ix a.2.2.2.1 t).1).toNat * 4+(((ix a.2.2.2.1 t).2).1).toNat) (ior .i64 ([l,l_1,l_2,l_3,l_4,l_5,l_6,l_7,l_8,l_9,l_10,l_11,l_12,l_13,l_14,l_15].getD (((ix a.2.2.2.1 t).1).toNat * 4+(((ix a.2.2.2.1 t).2).1).toNat) 0) (ishl .i64 (1:Int) ((((ix a.2.2.2.1 t).2).2).1)))).getD 15 0) l_16))))))))) else
  (zeU a.2.2.1).bind (fun y'_1=>
  if (decide (¬ y'_1=(0:Int)))=true then
  zcP a l l_1 l_2 l_3 l_4 l_5 l_6 l_7 l_8 l_9 l_10 l_11 l_12 l_13 l_14 l_15 l_16 (1:Int) y'_1 (0:Int) (0:Int) (0:Int) (-1:Int) (0:Int) (0:Int) (0:Int) (9:Int) else
  zcP a l l_1 l_2 l_3 l_4 l_5 l_6 l_7 l_8 l_9 l_10 l_11 l_12 l_13 l_14 l_15 l_16 (0:Int) (0:Int) (0:Int) (0:Int) (0:Int) (0:Int) (0:Int) (0:Int) (0:Int) (9:Int))
def zer (a:Tp7):(Int×Int×Int×Int×Int×Int×Int×Int×Int×Int×Int×Int×Int×Int×Int×Int×Int×Int->Option Tp10)->Int×Int×Int×Int×Int×Int×Int×Int×Int×Int×Int×Int×Int×Int×Int×Int×Int×Int->Option Tp10:=
  fun rec x=>zaJ a (fun t l l_1 l_2 l_3 l_4 l_5 l_6 l_7 l_8 l_9 l_10 l_11 l_12 l_13 l_14 l_15 l_16=>rec (t,l,l_1,l_2,l_3,l_4,l_5,l_6,l_7,l_8,l_9,l_10,l_11,l_12,l_13,l_14,l_15,l_16)) x.1 x.2.1 x.2.2.1 x.2.2.2.1 x.2.2.2.2.1 x.2.2.2.2.2.1 x.2.2.2.2.2.2.1 x.2.2.2.2.2.2.2.1 x.2.2.2.2.2.2.2.2.1 x.2.2.2.2.2.2.2.2.2.1 x.2.2.2.2.2.2.2.2.2.2.1 x.2.2.2.2.2.2.2.2.2.2.2.1 x.2.2.2.2.2.2.2.2.2.2.2.2.1 x.2.2.2.2.2.2.2.2.2.2.2.2.2.1 x.2.2.2.2.2.2.2.2.2.2.2.2.2.2.1 x.2.2.2.2.2.2.2.2.2.2.2.2.2.2.2.1 x.2.2.2.2.2.2.2.2.2.2.2.2.2.2.2.2.1 x.2.2.2.2.2.2.2.2.2.2.2.2.2.2.2.2.2
def zcr (a:Tp7) (t l l_1 l_2 l_3 l_4 l_5 l_6 l_7 l_8 l_9 l_10 l_11 l_12 l_13 l_14 l_15 l_16:Int):Option Tp10:=LFix (zer a ) (t,l,l_1,l_2,l_3,l_4,l_5,l_6,l_7,l_8,l_9,l_10,l_11,l_12,l_13,l_14,l_15,l_16)
def zbY (a:Tp7):Option Tp10:=
  (zeU a.2.2.2.2.1).bind (fun y'=>
  zcr a (0:Int) (0:Int) (0:Int) (0:Int) (0:Int) (0:Int) (0:Int) (0:Int) (0:Int) (0:Int) (0:Int) (0:Int) (0:Int) (0:Int) (0:Int) (0:Int) (0:Int) y')
theorem zgS (r3:Nat->Tf2) (r3':Tf2) (h_r3:∀ a0 a1 a2 a3 a4 a5 a6 a7 a8 a9 a10 a11 a12 a13 a14 a15 a16 a17,ChO (fun κ=>r3 κ a0 a1 a2 a3 a4 a5 a6 a7 a8 a9 a10 a11 a12 a13 a14 a15 a16 a17) (r3' a0 a1 a2 a3 a4 a5 a6 a7 a8 a9 a10 a11 a12 a13 a14 a15 a16 a17)) (a t l l_1 l_2 l_3 l_4 l_5 l_6 l_7 l_8 l_9 l_10 l_11 l_12 l_13 l_14 l_15 l_16):ChO (fun κ=>zaJ a (r3 κ) t l l_1 l_2 l_3 l_4 l_5 l_6 l_7 l_8 l_9 l_10 l_11 l_12 l_13 l_14 l_15 l_16) (zaJ a r3' t l l_1 l_2 l_3 l_4 l_5 l_6 l_7 l_8 l_9 l_10 l_11 l_12 l_13 l_14 l_15 l_16):=by
  unfold zaJ
  repeat' with_reducible first | exact ChO.const _ | exact h_r3 _ _ _ _ _ _ _ _ _ _ _ _ _ _ _ _ _ _ | apply ChO.ite | apply ChO.G | (apply ChO.bind;intro _)
theorem zhV (a):Cn (zer a):=fun g h hg x=>zgS  _ _ (fun a0 a1 a2 a3 a4 a5 a6 a7 a8 a9 a10 a11 a12 a13 a14 a15 a16 a17=>hg (a0,a1,a2,a3,a4,a5,a6,a7,a8,a9,a10,a11,a12,a13,a14,a15,a16,a17)) a x.1 x.2.1 x.2.2.1 x.2.2.2.1 x.2.2.2.2.1 x.2.2.2.2.2.1 x.2.2.2.2.2.2.1 x.2.2.2.2.2.2.2.1 x.2.2.2.2.2.2.2.2.1 x.2.2.2.2.2.2.2.2.2.1 x.2.2.2.2.2.2.2.2.2.2.1 x.2.2.2.2.2.2.2.2.2.2.2.1 x.2.2.2.2.2.2.2.2.2.2.2.2.1 x.2.2.2.2.2.2.2.2.2.2.2.2.2.1 x.2.2.2.2.2.2.2.2.2.2.2.2.2.2.1 x.2.2.2.2.2.2.2.2.2.2.2.2.2.2.2.1 x.2.2.2.2.2.2.2.2.2.2.2.2.2.2.2.2.1 x.2.2.2.2.2.2.2.2.2.2.2.2.2.2.2.2.2
theorem zdQ (a t l l_1 l_2 l_3 l_4 l_5 l_6 l_7 l_8 l_9 l_10 l_11 l_12 l_13 l_14 l_15 l_16):zcr a t l l_1 l_2 l_3 l_4 l_5 l_6 l_7 l_8 l_9 l_10 l_11 l_12 l_13 l_14 l_15 l_16=zaJ a (zcr a) t l l_1 l_2 l_3 l_4 l_5 l_6 l_7 l_8 l_9 l_10 l_11 l_12 l_13 l_14 l_15 l_16:=zah (zhV a) (t,l,l_1,l_2,l_3,l_4,l_5,l_6,l_7,l_8,l_9,l_10,l_11,l_12,l_13,l_14,l_15,l_16)

def zgO (a:Tp7):Option (Tp10×Int):=
  (zd8 (a.1,(a.2.1,(a.2.2.1,(a.2.2.2.1,(a.2.2.2.2.1,())))))).bind (fun y'=>
  if (decide (¬ y'=(0:Int)))=true then
  some (((0:Int),((0:Int),([],([],())))),y') else
  (zbY (a.1,(a.2.1,(a.2.2.1,(a.2.2.2.1,(a.2.2.2.2.1,())))))).bind (fun y'_1=>
  some ((y'_1.1,(y'_1.2.1,(y'_1.2.2.1,(y'_1.2.2.2.1,())))),(0:Int))))

def zbe (y':Tp19) (r3:Tf8) (t d_1 d_2:Int) (d_3:Tp17) (t_1:Tp19):Option Tp10:=
  if (decide (t < (y'.length:Int)))=true then
  G (0<=t/\t < (t_1.length:Int)) (
  G ((t).toNat < t_1.length) (
  G (fits ((ix t_1 t) - (1:Int))) (
  G (0<=t/\t < (t_1.length:Int)) (
  G ((t).toNat < t_1.length) (
  G (fits (t+(1:Int))) (
  r3 (t+(1:Int)) d_1 d_2 d_3 (t_1.set (t).toNat ((ix t_1 t) - (1:Int))))))))) else
  some (d_1,(d_2,(d_3,(t_1,()))))
def zgW (y':Tp19):(Int×Int×Int×Tp17×Tp19->Option Tp10)->Int×Int×Int×Tp17×Tp19->Option Tp10:=
  fun rec x=>zbe y' (fun t d_1 d_2 d_3 t_1=>rec (t,d_1,d_2,d_3,t_1)) x.1 x.2.1 x.2.2.1 x.2.2.2.1 x.2.2.2.2
def zdE (y':Tp19) (t d_1 d_2:Int) (d_3:Tp17) (t_1:Tp19):Option Tp10:=LFix (zgW y' ) (t,d_1,d_2,d_3,t_1)
def zfR (d:Tp10):Option Tp10:=
  (zet d.2.2.2.1).bind (fun y'=>
  zdE y' (0:Int) d.1 d.2.1 d.2.2.1 y')
theorem zjx (r3:Nat->Tf8) (r3':Tf8) (h_r3:∀ a0 a1 a2 a3 a4,ChO (fun κ=>r3 κ a0 a1 a2 a3 a4) (r3' a0 a1 a2 a3 a4)) (y' t d_1 d_2 d_3 t_1):ChO (fun κ=>zbe y' (r3 κ) t d_1 d_2 d_3 t_1) (zbe y' r3' t d_1 d_2 d_3 t_1):=by
  unfold zbe
  repeat' with_reducible first | exact ChO.const _ | exact h_r3 _ _ _ _ _ | apply ChO.ite | apply ChO.G
theorem zlJ (y'):Cn (zgW y'):=fun g h hg x=>zjx  _ _ (fun a0 a1 a2 a3 a4=>hg (a0,a1,a2,a3,a4)) y' x.1 x.2.1 x.2.2.1 x.2.2.2.1 x.2.2.2.2
theorem zfS (y' t d_1 d_2 d_3 t_1):zdE y' t d_1 d_2 d_3 t_1=zbe y' (zdE y') t d_1 d_2 d_3 t_1:=zah (zlJ y') (t,d_1,d_2,d_3,t_1)

def zd5 (a:Tp7):Option (Tp10×Int):=
  (zd8 (a.1,(a.2.1,(a.2.2.1,(a.2.2.2.1,(a.2.2.2.2.1,())))))).bind (fun y'=>
  if (decide (¬ y'=(0:Int)))=true then
  some (((0:Int),((0:Int),([],([],())))),y') else
  (zbY (a.1,(a.2.1,(a.2.2.1,(a.2.2.2.1,(a.2.2.2.2.1,())))))).bind (fun y'_1=>
  (zfR y'_1).bind (fun y'_2=>
  some ((y'_2.1,(y'_2.2.1,(y'_2.2.2.1,(y'_2.2.2.2.1,())))),(0:Int)))))

def zco (a b:Tp19) (r4:Int->Option (Bool)) (i:Int):Option (Bool):=
  if (decide (i < (a.length:Int)))=true then
  G (0<=i/\i < (a.length:Int)) (
  G (0<=i/\i < (b.length:Int)) (
  if (decide (¬ (ix a i)=(ix b i)))=true then
  some false else
  G (fits (i+(1:Int))) (
  r4 (i+(1:Int))))) else
  some true
def zli (a b:Tp19):(Int->Option (Bool))->Int->Option (Bool):=
  fun rec x=>zco a b (fun i=>rec i) x
def zhf (a b:Tp19) (i:Int):Option (Bool):=LFix (zli a b ) i
def zlh (a b:Tp19):Option (Bool):=
  if (decide (¬ (a.length:Int)=(b.length:Int)))=true then
  some false else
  zhf a b (0:Int)
theorem znv (r4:Nat->Int->Option (Bool)) (r4':Int->Option (Bool)) (h_r4:∀ a0,ChO (fun κ=>r4 κ a0) (r4' a0)) (a b i):ChO (fun κ=>zco a b (r4 κ) i) (zco a b r4' i):=by
  unfold zco
  repeat' with_reducible first | exact ChO.const _ | exact h_r4 _ | apply ChO.ite | apply ChO.G
theorem zpZ (a b):Cn (zli a b):=fun g h hg x=>znv  _ _ (fun a=>hg a) a b x
theorem zjG (a b i):zhf a b i=zco a b (zhf a b) i:=zah (zpZ a b) i

def zbd (a b:Tp7) (r6:Int->Option (Bool)) (i:Int):Option (Bool):=
  if (decide (i < (a.2.2.2.1.length:Int)))=true then
  G (0<=i/\i < (a.2.2.2.1.length:Int)) (
  G (0<=i/\i < (b.2.2.2.1.length:Int)) (
  if (!(eqB (ix a.2.2.2.1 i) (ix b.2.2.2.1 i)))=true then
  some false else
  G (fits (i+(1:Int))) (
  r6 (i+(1:Int))))) else
  some true
def zgA (a b:Tp7):(Int->Option (Bool))->Int->Option (Bool):=
  fun rec x=>zbd a b (fun i=>rec i) x
def zdu (a b:Tp7) (i:Int):Option (Bool):=LFix (zgA a b ) i
def zfO (a b:Tp7):Option (Bool):=
  (zlh a.2.2.1 b.2.2.1).bind (fun y'=>
  (zlh a.2.2.2.2.1 b.2.2.2.2.1).bind (fun y'_1=>
  if (decide (¬ a.1=b.1))=true then
  some false else
  if (decide (¬ a.2.1=b.2.1))=true then
  some false else
  if (!y')=true then
  some false else
  if (!y'_1)=true then
  some false else
  if (decide (¬ (a.2.2.2.1.length:Int)=(b.2.2.2.1.length:Int)))=true then
  some false else
  zdu a b (0:Int)))
theorem zjv (r6:Nat->Int->Option (Bool)) (r6':Int->Option (Bool)) (h_r6:∀ a0,ChO (fun κ=>r6 κ a0) (r6' a0)) (a b i):ChO (fun κ=>zbd a b (r6 κ) i) (zbd a b r6' i):=by
  unfold zbd
  repeat' with_reducible first | exact ChO.const _ | exact h_r6 _ | apply ChO.ite | apply ChO.G
theorem zk2 (a b):Cn (zgA a b):=fun g h hg x=>zjv  _ _ (fun a=>hg a) a b x
theorem zfP (a b i):zdu a b i=zbd a b (zdu a b) i:=zah (zk2 a b) i

def zn0 (x' y':Tp16):Option (Bool):=
  if (decide (¬ x'.1=y'.1))=true then
  some (decide (x'.1 < y'.1)) else
  if (decide (¬ x'.2.1=y'.2.1))=true then
  some (decide (x'.2.1 < y'.2.1)) else
  some (decide (x'.2.2.1 < y'.2.2.1))

def zbF (a:Tp7) (r32:Int->Option (Int)) (i_5:Int):Option (Int):=
  if (decide (i_5 < (a.2.2.2.1.length:Int)))=true then
  G (fits (i_5 - (1:Int))) (
  G (0<=i_5 - (1:Int)/\i_5 - (1:Int) < (a.2.2.2.1.length:Int)) (
  G (0<=i_5/\i_5 < (a.2.2.2.1.length:Int)) (
  (zn0 (ix a.2.2.2.1 (i_5 - (1:Int))) (ix a.2.2.2.1 i_5)).bind (fun y'=>
  if (!y')=true then
  some (3:Int) else
  G (fits (i_5+(1:Int))) (
  r32 (i_5+(1:Int))))))) else
  some (0:Int)
def zjO (a:Tp7):(Int->Option (Int))->Int->Option (Int):=
  fun rec x=>zbF a (fun i_5=>rec i_5) x
def ziJ (a:Tp7) (i_5:Int):Option (Int):=LFix (zjO a ) i_5
def zbE (a:Tp7) (r27:Int->Option (Int)) (i_4:Int):Option (Int):=
  if (decide (i_4 < (a.2.2.2.2.1.length:Int)))=true then
  G (fits (i_4 - (1:Int))) (
  G (0<=i_4 - (1:Int)/\i_4 - (1:Int) < (a.2.2.2.2.1.length:Int)) (
  G (0<=i_4/\i_4 < (a.2.2.2.2.1.length:Int)) (
  if (decide ((ix a.2.2.2.2.1 i_4)<=(ix a.2.2.2.2.1 (i_4 - (1:Int)))))=true then
  some (3:Int) else
  G (fits (i_4+(1:Int))) (
  r27 (i_4+(1:Int)))))) else
  ziJ a (1:Int)
def zjN (a:Tp7):(Int->Option (Int))->Int->Option (Int):=
  fun rec x=>zbE a (fun i_4=>rec i_4) x
def ziI (a:Tp7) (i_4:Int):Option (Int):=LFix (zjN a ) i_4
def zbD (a:Tp7) (r22:Int->Option (Int)) (i_3:Int):Option (Int):=
  if (decide (i_3 < (a.2.2.1.length:Int)))=true then
  G (fits (i_3 - (1:Int))) (
  G (0<=i_3 - (1:Int)/\i_3 - (1:Int) < (a.2.2.1.length:Int)) (
  G (0<=i_3/\i_3 < (a.2.2.1.length:Int)) (
  if (decide ((ix a.2.2.1 i_3)<=(ix a.2.2.1 (i_3 - (1:Int)))))=true then
  some (3:Int) else
  G (fits (i_3+(1:Int))) (
  r22 (i_3+(1:Int)))))) else
  ziI a (1:Int)
def zjM (a:Tp7):(Int->Option (Int))->Int->Option (Int):=
  fun rec x=>zbD a (fun i_3=>rec i_3) x
def ziH (a:Tp7) (i_3:Int):Option (Int):=LFix (zjM a ) i_3
def zbC (a:Tp7) (r16:Int->Option (Int)) (i_2:Int):Option (Int):=
  if (decide (i_2 < (a.2.2.2.1.length:Int)))=true then
  G (0<=i_2/\i_2 < (a.2.2.2.1.length:Int)) (
  if (decide (((ix a.2.2.2.1 i_2).1) < (0:Int)))=true then
  some (2:Int) else
  if (decide (a.2.1<=((ix a.2.2.2.1 i_2).1)))=true then
  some (2:Int) else
  if (decide (((((ix a.2.2.2.1 i_2).2).2).1) < (0:Int)))=true then
  some (2:Int) else
  if (decide (a.2.1<=((((ix a.2.2.2.1 i_2).2).2).1)))=true then
  some (2:Int) else
  if (decide ((((ix a.2.2.2.1 i_2).2).1) < (0:Int)))=true then
  some (2:Int) else
  if (decide (a.1<=(((ix a.2.2.2.1 i_2).2).1)))=true then
  some (2:Int) else
  G (fits (i_2+(1:Int))) (
  r16 (i_2+(1:Int)))) else
  ziH a (1:Int)
def zjL (a:Tp7):(Int->Option (Int))->Int->Option (Int):=
  fun rec x=>zbC a (fun i_2=>rec i_2) x
def ziG (a:Tp7) (i_2:Int):Option (Int):=LFix (zjL a ) i_2
def zbB (a:Tp7) (r11:Int->Option (Int)) (i_1:Int):Option (Int):=
  if (decide (i_1 < (a.2.2.2.2.1.length:Int)))=true then
  G (0<=i_1/\i_1 < (a.2.2.2.2.1.length:Int)) (
  if (decide ((ix a.2.2.2.2.1 i_1) < (0:Int)))=true then
  some (2:Int) else
  G (0<=i_1/\i_1 < (a.2.2.2.2.1.length:Int)) (
  if (decide (a.2.1<=(ix a.2.2.2.2.1 i_1)))=true then
  some (2:Int) else
  G (fits (i_1+(1:Int))) (
  r11 (i_1+(1:Int))))) else
  ziG a (0:Int)
def zjK (a:Tp7):(Int->Option (Int))->Int->Option (Int):=
  fun rec x=>zbB a (fun i_1=>rec i_1) x
def ziF (a:Tp7) (i_1:Int):Option (Int):=LFix (zjK a ) i_1
def zbZ (a:Tp7) (r6:Int->Option (Int)) (i:Int):Option (Int):=
  if (decide (i < (a.2.2.1.length:Int)))=true then
  G (0<=i/\i < (a.2.2.1.length:Int)) (
  if (decide ((ix a.2.2.1 i) < (0:Int)))=true then
  some (2:Int) else
  G (0<=i/\i < (a.2.2.1.length:Int)) (
  if (decide (a.2.1<=(ix a.2.2.1 i)))=true then
  some (2:Int) else
  G (fits (i+(1:Int))) (
  r6 (i+(1:Int))))) else
  ziF a (0:Int)
def zlq (a:Tp7):(Int->Option (Int))->Int->Option (Int):=
  fun rec x=>zbZ a (fun i=>rec i) x
def zkt (a:Tp7) (i:Int):Option (Int):=LFix (zlq a ) i
def zn1 (a:Tp7):Option (Int):=
  if (decide (a.1 < (1:Int)))=true then
  some (2:Int) else
  if (decide ((4:Int) < a.1))=true then
  some (2:Int) else
  if (decide (a.2.1 < (1:Int)))=true then
  some (1:Int) else
  if (decide ((300:Int) < a.2.1))=true then
  some (1:Int) else
  if (decide ((40000:Int) < (a.2.2.2.1.length:Int)))=true then
  some (1:Int) else
  zkt a (0:Int)
theorem zmo (r32:Nat->Int->Option (Int)) (r32':Int->Option (Int)) (h_r32:∀ a0,ChO (fun κ=>r32 κ a0) (r32' a0)) (a i_5):ChO (fun κ=>zbF a (r32 κ) i_5) (zbF a r32' i_5):=by
  unfold zbF
  repeat' with_reducible first | exact ChO.const _ | exact h_r32 _ | apply ChO.ite | apply ChO.G | (apply ChO.bind;intro _)
theorem zpd (a):Cn (zjO a):=fun g h hg x=>zmo  _ _ (fun a=>hg a) a x
theorem zff (a i_5):ziJ a i_5=zbF a (ziJ a) i_5:=zah (zpd a) i_5
theorem zmn (r27:Nat->Int->Option (Int)) (r27':Int->Option (Int)) (h_r27:∀ a0,ChO (fun κ=>r27 κ a0) (r27' a0)) (a i_4):ChO (fun κ=>zbE a (r27 κ) i_4) (zbE a r27' i_4):=by
  unfold zbE
  repeat' with_reducible first | exact ChO.const _ | exact h_r27 _ | apply ChO.ite | apply ChO.G
theorem zpc (a):Cn (zjN a):=fun g h hg x=>zmn  _ _ (fun a=>hg a) a x
theorem zfe (a i_4):ziI a i_4=zbE a (ziI a) i_4:=zah (zpc a) i_4
theorem zmm (r22:Nat->Int->Option (Int)) (r22':Int->Option (Int)) (h_r22:∀ a0,ChO (fun κ=>r22 κ a0) (r22' a0)) (a i_3):ChO (fun κ=>zbD a (r22 κ) i_3) (zbD a r22' i_3):=by
  unfold zbD
  repeat' with_reducible first | exact ChO.const _ | exact h_r22 _ | apply ChO.ite | apply ChO.G
theorem zpb (a):Cn (zjM a):=fun g h hg x=>zmm  _ _ (fun a=>hg a) a x
theorem zfd (a i_3):ziH a i_3=zbD a (ziH a) i_3:=zah (zpb a) i_3
theorem zml (r16:Nat->Int->Option (Int)) (r16':Int->Option (Int)) (h_r16:∀ a0,ChO (fun κ=>r16 κ a0) (r16' a0)) (a i_2):ChO (fun κ=>zbC a (r16 κ) i_2) (zbC a r16' i_2):=by
  unfold zbC
  repeat' with_reducible first | exact ChO.const _ | exact h_r16 _ | apply ChO.ite | apply ChO.G
theorem zpa (a):Cn (zjL a):=fun g h hg x=>zml  _ _ (fun a=>hg a) a x
theorem zfc (a i_2):ziG a i_2=zbC a (ziG a) i_2:=zah (zpa a) i_2
theorem zmk (r11:Nat->Int->Option (Int)) (r11':Int->Option (Int)) (h_r11:∀ a0,ChO (fun κ=>r11 κ a0) (r11' a0)) (a i_1):ChO (fun κ=>zbB a (r11 κ) i_1) (zbB a r11' i_1):=by
  unfold zbB
  repeat' with_reducible first | exact ChO.const _ | exact h_r11 _ | apply ChO.ite | apply ChO.G
theorem zo9 (a):Cn (zjK a):=fun g h hg x=>zmk  _ _ (fun a=>hg a) a x
theorem zfb (a i_1):ziF a i_1=zbB a (ziF a) i_1:=zah (zo9 a) i_1
theorem znA (r6:Nat->Int->Option (Int)) (r6':Int->Option (Int)) (h_r6:∀ a0,ChO (fun κ=>r6 κ a0) (r6' a0)) (a i):ChO (fun κ=>zbZ a (r6 κ) i) (zbZ a r6' i):=by
  unfold zbZ
  repeat' with_reducible first | exact ChO.const _ | exact h_r6 _ | apply ChO.ite | apply ChO.G
theorem zp1 (a):Cn (zlq a):=fun g h hg x=>znA  _ _ (fun a=>hg a) a x
theorem zf2 (a i):zkt a i=zbZ a (zkt a) i:=zah (zp1 a) i

def zit (d:Tp10):Option (Bool):=
  if (decide (d.1=(0:Int)))=true then
  if (decide (d.2.1=(0:Int)))=true then
  G (fits ((d.2.2.1.length:Int)+(d.2.2.2.1.length:Int))) (
  some (decide (((d.2.2.1.length:Int)+(d.2.2.2.1.length:Int))=(0:Int)))) else
  some false else
  some false

def zbh (d:Tp10) (i_1:Int) (r16:(Int->Option (Int))) (r19:Int->Option (Int)) (k:Int):Option (Int):=
  if (decide (k < d.1))=true then
  G (0<=i_1/\i_1 < (d.2.2.1.length:Int)) (
  G (0<=k/\k < ((ix d.2.2.1 i_1).length:Int)) (
  if (decide ((ix (ix d.2.2.1 i_1) k) < (0:Int)))=true then
  some (2:Int) else
  G (0<=i_1/\i_1 < (d.2.2.1.length:Int)) (
  G (0<=k/\k < ((ix d.2.2.1 i_1).length:Int)) (
  if (decide ((d.2.2.1.length:Int)<=(ix (ix d.2.2.1 i_1) k)))=true then
  some (2:Int) else
  G (fits (k+(1:Int))) (
  r19 (k+(1:Int))))))) else
  G (fits (i_1+(1:Int))) (
  r16 (i_1+(1:Int)))
def zjW (d:Tp10) (i_1:Int) (r16:(Int->Option (Int))):(Int->Option (Int))->Int->Option (Int):=
  fun rec x=>zbh d i_1 r16 (fun k=>rec k) x
def zdb (d:Tp10) (i_1:Int) (r16:(Int->Option (Int))) (k:Int):Option (Int):=LFix (zjW d i_1 r16 ) k
def zbI (d:Tp10) (r24:Int->Option (Int)) (i_2:Int):Option (Int):=
  if (decide (i_2 < (d.2.2.1.length:Int)))=true then
  G (0<=i_2/\i_2 < (d.2.2.2.1.length:Int)) (
  if (decide ((ix d.2.2.2.1 i_2) < (0:Int)))=true then
  some (2:Int) else
  G (0<=i_2/\i_2 < (d.2.2.2.1.length:Int)) (
  if (decide ((9:Int) < (ix d.2.2.2.1 i_2)))=true then
  some (2:Int) else
  G (fits (i_2+(1:Int))) (
  r24 (i_2+(1:Int))))) else
  some (0:Int)
def zjX (d:Tp10):(Int->Option (Int))->Int->Option (Int):=
  fun rec x=>zbI d (fun i_2=>rec i_2) x
def ziP (d:Tp10) (i_2:Int):Option (Int):=LFix (zjX d ) i_2
def zbH (d:Tp10) (r16:Int->Option (Int)) (i_1:Int):Option (Int):=
  if (decide (i_1 < (d.2.2.1.length:Int)))=true then
  zdb d i_1 r16 (0:Int) else
  ziP d (0:Int)
def zjV (d:Tp10):(Int->Option (Int))->Int->Option (Int):=
  fun rec x=>zbH d (fun i_1=>rec i_1) x
def ziO (d:Tp10) (i_1:Int):Option (Int):=LFix (zjV d ) i_1
def zb0 (d:Tp10) (r9:Int->Option (Int)) (i:Int):Option (Int):=
  if (decide (i < (d.2.2.1.length:Int)))=true then
  G (0<=i/\i < (d.2.2.1.length:Int)) (
  if (decide (¬ ((ix d.2.2.1 i).length:Int)=d.1))=true then
  some (3:Int) else
  G (fits (i+(1:Int))) (
  r9 (i+(1:Int)))) else
  if (decide (d.2.1 < (0:Int)))=true then
  some (2:Int) else
  if (decide ((d.2.2.1.length:Int)<=d.2.1))=true then
  some (2:Int) else
  ziO d (0:Int)
def zly (d:Tp10):(Int->Option (Int))->Int->Option (Int):=
  fun rec x=>zb0 d (fun i=>rec i) x
def zku (d:Tp10) (i:Int):Option (Int):=LFix (zly d ) i
def zlx (d:Tp10):Option (Int):=
  if (decide (d.1 < (1:Int)))=true then
  some (2:Int) else
  if (decide ((4:Int) < d.1))=true then
  some (2:Int) else
  if (decide ((d.2.2.1.length:Int) < (1:Int)))=true then
  some (1:Int) else
  if (decide ((20000:Int) < (d.2.2.1.length:Int)))=true then
  some (1:Int) else
  if (decide (¬ (d.2.2.2.1.length:Int)=(d.2.2.1.length:Int)))=true then
  some (3:Int) else
  zku d (0:Int)
theorem zgM (r16:Nat->Int->Option (Int)) (r16':Int->Option (Int)) (h_r16:∀ a0,ChO (fun κ=>r16 κ a0) (r16' a0)) (r19:Nat->Int->Option (Int)) (r19':Int->Option (Int)) (h_r19:∀ a0,ChO (fun κ=>r19 κ a0) (r19' a0)) (d i_1 k):ChO (fun κ=>zbh d i_1 (r16 κ) (r19 κ) k) (zbh d i_1 r16' r19' k):=by
  unfold zbh
  repeat' with_reducible first | exact ChO.const _ | exact h_r16 _ | exact h_r19 _ | apply ChO.ite | apply ChO.G
theorem zfl (r16 d i_1):Cn (zjW d i_1 r16):=fun g h hg x=>zgM (fun _=>r16) r16 (fun _=>ChO.const _) _ _ (fun a=>hg a) d i_1 x
theorem zdA (r16 d i_1 k):zdb d i_1 r16 k=zbh d i_1 r16 (zdb d i_1 r16) k:=zah (zfl r16 d i_1) k
theorem zpo (r16:Nat->Int->Option (Int)) (r16':Int->Option (Int)) (h_r16:∀ a0,ChO (fun κ=>r16 κ a0) (r16' a0)) (d i_1 k):ChO (fun κ=>zdb d i_1 (r16 κ) k) (zdb d i_1 r16' k):=by
  unfold zdb
  exact zdj (fun κ=>(zfl (r16 κ) d i_1).mono) (zfl r16' d i_1).mono (fun g h hg x=>zgM r16 r16' h_r16 _ _ (fun a=>hg a) d i_1 x) _
theorem zmr (r24:Nat->Int->Option (Int)) (r24':Int->Option (Int)) (h_r24:∀ a0,ChO (fun κ=>r24 κ a0) (r24' a0)) (d i_2):ChO (fun κ=>zbI d (r24 κ) i_2) (zbI d r24' i_2):=by
  unfold zbI
  repeat' with_reducible first | exact ChO.const _ | exact h_r24 _ | apply ChO.ite | apply ChO.G
theorem zpp (d):Cn (zjX d):=fun g h hg x=>zmr  _ _ (fun a=>hg a) d x
theorem zfm (d i_2):ziP d i_2=zbI d (ziP d) i_2:=zah (zpp d) i_2
theorem zmq (r16:Nat->Int->Option (Int)) (r16':Int->Option (Int)) (h_r16:∀ a0,ChO (fun κ=>r16 κ a0) (r16' a0)) (d i_1):ChO (fun κ=>zbH d (r16 κ) i_1) (zbH d r16' i_1):=by
  unfold zbH
  repeat' with_reducible first | exact ChO.const _ | exact h_r16 _ | (apply zpo<;>assumption) | apply ChO.ite
theorem zpn (d):Cn (zjV d):=fun g h hg x=>zmq  _ _ (fun a=>hg a) d x
theorem zfk (d i_1):ziO d i_1=zbH d (ziO d) i_1:=zah (zpn d) i_1
theorem znE (r9:Nat->Int->Option (Int)) (r9':Int->Option (Int)) (h_r9:∀ a0,ChO (fun κ=>r9 κ a0) (r9' a0)) (d i):ChO (fun κ=>zb0 d (r9 κ) i) (zb0 d r9' i):=by
  unfold zb0
  repeat' with_reducible first | exact ChO.const _ | exact h_r9 _ | apply ChO.ite | apply ChO.G
theorem zp3 (d):Cn (zly d):=fun g h hg x=>znE  _ _ (fun a=>hg a) d x
theorem zf3 (d i):zku d i=zb0 d (zku d) i:=zah (zp3 d) i

def zc4 (letters:Int) (w:Tp19) (r6:Int->Option (Int)) (i:Int):Option (Int):=
  if (decide (i < (w.length:Int)))=true then
  G (0<=i/\i < (w.length:Int)) (
  if (decide ((ix w i) < (0:Int)))=true then
  some (2:Int) else
  G (0<=i/\i < (w.length:Int)) (
  if (decide (letters<=(ix w i)))=true then
  some (2:Int) else
  G (fits (i+(1:Int))) (
  r6 (i+(1:Int))))) else
  some (0:Int)
def zo4 (letters:Int) (w:Tp19):(Int->Option (Int))->Int->Option (Int):=
  fun rec x=>zc4 letters w (fun i=>rec i) x
def zlg (letters:Int) (w:Tp19) (i:Int):Option (Int):=LFix (zo4 letters w ) i
def zsE (letters:Int) (w:Tp19):Option (Int):=
  if (decide (letters < (1:Int)))=true then
  some (2:Int) else
  if (decide ((4:Int) < letters))=true then
  some (2:Int) else
  if (decide ((60:Int) < (w.length:Int)))=true then
  some (1:Int) else
  zlg letters w (0:Int)
theorem zpX (r6:Nat->Int->Option (Int)) (r6':Int->Option (Int)) (h_r6:∀ a0,ChO (fun κ=>r6 κ a0) (r6' a0)) (letters w i):ChO (fun κ=>zc4 letters w (r6 κ) i) (zc4 letters w r6' i):=by
  unfold zc4
  repeat' with_reducible first | exact ChO.const _ | exact h_r6 _ | apply ChO.ite | apply ChO.G
theorem zsF (letters w):Cn (zo4 letters w):=fun g h hg x=>zpX  _ _ (fun a=>hg a) letters w x
theorem zm0 (letters w i):zlg letters w i=zc4 letters w (zlg letters w) i:=zah (zsF letters w) i

def znY (letters:Int) (l:Tp13):Option (Int):=
  (zsE letters l.1).bind (fun y'=>
  if (decide (¬ y'=(0:Int)))=true then
  some y' else
  (zsE letters l.2.1).bind (fun y'_1=>
  if (decide (¬ y'_1=(0:Int)))=true then
  some y'_1 else
  if (decide ((l.2.1.length:Int)=(0:Int)))=true then
  some (1:Int) else
  some (0:Int)))

def zrA (a:Tp7) (l:Tp13):Option (Int):=
  (znY a.1 (l.1,(l.2.1,()))).bind (fun y'=>
  some y')

def zhh (a:Tp7) (i:Int) (out:Tp18) (r3:(Int->Tp18->Option Tp18)) (t:Bool):Option Tp18:=
  if t=true then
  G (0<=(((ix a.2.2.2.1 i).2).2).1/\(((ix a.2.2.2.1 i).2).2).1 < (out.length:Int)) (
  G (((((ix a.2.2.2.1 i).2).2).1).toNat < out.length) (
  G (fits (i+(1:Int))) (
  r3 (i+(1:Int)) (out.set ((((ix a.2.2.2.1 i).2).2).1).toNat true)))) else
  G (fits (i+(1:Int))) (
  r3 (i+(1:Int)) out)
def zd2 (a:Tp7) (from':Tp18) (letter:Int) (r3:Int->Tp18->Option Tp18) (i:Int) (out:Tp18):Option Tp18:=
  if (decide (i < (a.2.2.2.1.length:Int)))=true then
  G (0<=i/\i < (a.2.2.2.1.length:Int)) (
  if (decide ((((ix a.2.2.2.1 i).2).1)=letter))=true then
  G (0<=(ix a.2.2.2.1 i).1/\(ix a.2.2.2.1 i).1 < (from'.length:Int)) (
  zhh a i out r3 (ix from' ((ix a.2.2.2.1 i).1))) else
  zhh a i out r3 false) else
  some out
def zqx (a:Tp7) (from':Tp18) (letter:Int):(Int×Tp18->Option Tp18)->Int×Tp18->Option Tp18:=
  fun rec x=>zd2 a from' letter (fun i out=>rec (i,out)) x.1 x.2
def zlt (a:Tp7) (from':Tp18) (letter i:Int) (out:Tp18):Option Tp18:=LFix (zqx a from' letter ) (i,out)
def zsH (a:Tp7) (from':Tp18) (letter:Int):Option Tp18:=
  G (mkOK a.2.1 a.2.1 1) (
  zlt a from' letter (0:Int) (List.replicate (a.2.1).toNat (false:Bool)))
theorem ztS (r3:Nat->Int->Tp18->Option Tp18) (r3':Int->Tp18->Option Tp18) (h_r3:∀ a0 a1,ChO (fun κ=>r3 κ a0 a1) (r3' a0 a1)) (a i out t):ChO (fun κ=>zhh a i out (r3 κ) t) (zhh a i out r3' t):=by
  unfold zhh
  repeat' with_reducible first | exact ChO.const _ | exact h_r3 _ _ | apply ChO.ite | apply ChO.G
theorem zrB (r3:Nat->Int->Tp18->Option Tp18) (r3':Int->Tp18->Option Tp18) (h_r3:∀ a0 a1,ChO (fun κ=>r3 κ a0 a1) (r3' a0 a1)) (a from' letter i out):ChO (fun κ=>zd2 a from' letter (r3 κ) i out) (zd2 a from' letter r3' i out):=by
  unfold zd2
  repeat' with_reducible first | exact ChO.const _ | exact h_r3 _ _ | (apply ztS<;>assumption) | apply ChO.ite | apply ChO.G
theorem ztT (a from' letter):Cn (zqx a from' letter):=fun g h hg x=>zrB  _ _ (fun a0 a1=>hg (a0,a1)) a from' letter x.1 x.2
theorem zpm (a from' letter i out):zlt a from' letter i out=zd2 a from' letter (zlt a from' letter) i out:=zah (ztT a from' letter) (i,out)

def zbg (a:Tp7) (loop:Tp19) (final:Tp18) (i:Int) (p:Tp18) (r10:(Int->Tp18->Tp18->Option (Bool))) (r13:Int->Tp18->Option (Bool)) (k:Int) (g'_1:Tp18):Option (Bool):=
  if (decide (k < a.2.1))=true then
  G (0<=k/\k < (g'_1.length:Int)) (
  G ((k).toNat < g'_1.length) (
  if (ix g'_1 k)=true then
  G (0<=k/\k < (g'_1.length:Int)) (
  G ((k).toNat < g'_1.length) (
  G (fits (k+(1:Int))) (
  r13 (k+(1:Int)) (g'_1.set (k).toNat true)))) else
  G (0<=k/\k < (p.length:Int)) (
  G ((k).toNat < p.length) (
  if (ix p k)=true then
  G (0<=k/\k < (final.length:Int)) (
  G (0<=k/\k < (g'_1.length:Int)) (
  G ((k).toNat < g'_1.length) (
  G (fits (k+(1:Int))) (
  r13 (k+(1:Int)) (g'_1.set (k).toNat (ix final k)))))) else
  G (0<=k/\k < (g'_1.length:Int)) (
  G ((k).toNat < g'_1.length) (
  G (fits (k+(1:Int))) (
  r13 (k+(1:Int)) (g'_1.set (k).toNat false)))))))) else
  G (0<=i/\i < (loop.length:Int)) (
  (zsH (a.1,(a.2.1,(a.2.2.1,(a.2.2.2.1,(a.2.2.2.2.1,()))))) p (ix loop i)).bind (fun y'=>
  G (0<=i/\i < (loop.length:Int)) (
  (zsH (a.1,(a.2.1,(a.2.2.1,(a.2.2.2.1,(a.2.2.2.2.1,()))))) g'_1 (ix loop i)).bind (fun y'_1=>
  G (fits (i+(1:Int))) (
  r10 (i+(1:Int)) y' y'_1)))))
def zjQ (a:Tp7) (loop:Tp19) (final:Tp18) (i:Int) (p:Tp18) (r10:(Int->Tp18->Tp18->Option (Bool))):(Int×Tp18->Option (Bool))->Int×Tp18->Option (Bool):=
  fun rec x=>zbg a loop final i p r10 (fun k g'_1=>rec (k,g'_1)) x.1 x.2
def zbG (a:Tp7) (loop:Tp19) (final:Tp18) (i:Int) (p:Tp18) (r10:(Int->Tp18->Tp18->Option (Bool))) (k:Int) (g'_1:Tp18):Option (Bool):=LFix (zjQ a loop final i p r10 ) (k,g'_1)
def zcD (g':Tp18) (k_1:Int) (good_1:Tp18) (r21:(Bool->Int->Tp18->Tp18->Option (Bool))) (again_2:Bool) (plain_2:Tp18):Option (Bool):=
  G (0<=k_1/\k_1 < (good_1.length:Int)) (
  G ((k_1).toNat < good_1.length) (
  if (ix good_1 k_1)=true then
  G (0<=k_1/\k_1 < (good_1.length:Int)) (
  G ((k_1).toNat < good_1.length) (
  G (fits (k_1+(1:Int))) (
  r21 again_2 (k_1+(1:Int)) plain_2 (good_1.set (k_1).toNat true)))) else
  G (0<=k_1/\k_1 < (g'.length:Int)) (
  G ((k_1).toNat < g'.length) (
  G (0<=k_1/\k_1 < (good_1.length:Int)) (
  G ((k_1).toNat < good_1.length) (
  G (fits (k_1+(1:Int))) (
  r21 again_2 (k_1+(1:Int)) plain_2 (good_1.set (k_1).toNat (ix g' k_1)))))))))
def za6 (p g':Tp18) (k_1:Int) (plain_1 good_1:Tp18) (r21:(Bool->Int->Tp18->Tp18->Option (Bool))) (again_2:Bool):Option (Bool):=
  G (0<=k_1/\k_1 < (plain_1.length:Int)) (
  G ((k_1).toNat < plain_1.length) (
  if (ix plain_1 k_1)=true then
  G (0<=k_1/\k_1 < (plain_1.length:Int)) (
  G ((k_1).toNat < plain_1.length) (
  zcD g' k_1 good_1 r21 again_2 (plain_1.set (k_1).toNat true))) else
  G (0<=k_1/\k_1 < (p.length:Int)) (
  G ((k_1).toNat < p.length) (
  G (0<=k_1/\k_1 < (plain_1.length:Int)) (
  G ((k_1).toNat < plain_1.length) (
  zcD g' k_1 good_1 r21 again_2 (plain_1.set (k_1).toNat (ix p k_1))))))))
def zaN (a:Tp7) (r5:(Bool->Tp18->Tp18->Option (Bool))) (p g':Tp18) (r21:Tf9) (again_1:Bool) (k_1:Int) (plain_1 good_1:Tp18):Option (Bool):=
  if (decide (k_1 < a.2.1))=true then
  if again_1=true then
  za6 p g' k_1 plain_1 good_1 r21 true else
  G (0<=k_1/\k_1 < (p.length:Int)) (
  G ((k_1).toNat < p.length) (
  if (ix p k_1)=true then
  G (0<=k_1/\k_1 < (plain_1.length:Int)) (
  G ((k_1).toNat < plain_1.length) (
  if (!(ix plain_1 k_1))=true then
  za6 p g' k_1 plain_1 good_1 r21 true else
  G (0<=k_1/\k_1 < (g'.length:Int)) (
  G ((k_1).toNat < g'.length) (
  if (ix g' k_1)=true then
  G (0<=k_1/\k_1 < (good_1.length:Int)) (
  G ((k_1).toNat < good_1.length) (
  za6 p g' k_1 plain_1 good_1 r21 (!(ix good_1 k_1)))) else
  za6 p g' k_1 plain_1 good_1 r21 false)))) else
  G (0<=k_1/\k_1 < (g'.length:Int)) (
  G ((k_1).toNat < g'.length) (
  if (ix g' k_1)=true then
  G (0<=k_1/\k_1 < (good_1.length:Int)) (
  G ((k_1).toNat < good_1.length) (
  za6 p g' k_1 plain_1 good_1 r21 (!(ix good_1 k_1)))) else
  za6 p g' k_1 plain_1 good_1 r21 false)))) else
  r5 again_1 plain_1 good_1
def zjR (a:Tp7) (r5:(Bool->Tp18->Tp18->Option (Bool))) (p g':Tp18):(Bool×Int×Tp18×Tp18->Option (Bool))->Bool×Int×Tp18×Tp18->Option (Bool):=
  fun rec x=>zaN a r5 p g' (fun again_1 k_1 plain_1 good_1=>rec (again_1,k_1,plain_1,good_1)) x.1 x.2.1 x.2.2.1 x.2.2.2
def zaH (a:Tp7) (r5:(Bool->Tp18->Tp18->Option (Bool))) (p g':Tp18) (again_1:Bool) (k_1:Int) (plain_1 good_1:Tp18):Option (Bool):=LFix (zjR a r5 p g' ) (again_1,k_1,plain_1,good_1)
def zb5 (a:Tp7) (loop:Tp19) (final:Tp18) (q:Int) (plain good:Tp18) (r5:(Bool->Tp18->Tp18->Option (Bool))) (r10:Tf11) (i:Int) (p g':Tp18):Option (Bool):=
  if (decide (i < (loop.length:Int)))=true then
  zbG a loop final i p r10 (0:Int) g' else
  G (0<=q/\q < (g'.length:Int)) (
  G ((q).toNat < g'.length) (
  if (ix g' q)=true then
  some true else
  zaH a r5 p g' false (0:Int) plain good))
def zjP (a:Tp7) (loop:Tp19) (final:Tp18) (q:Int) (plain good:Tp18) (r5:(Bool->Tp18->Tp18->Option (Bool))):(Int×Tp18×Tp18->Option (Bool))->Int×Tp18×Tp18->Option (Bool):=
  fun rec x=>zb5 a loop final q plain good r5 (fun i p g'=>rec (i,p,g')) x.1 x.2.1 x.2.2
def zcj (a:Tp7) (loop:Tp19) (final:Tp18) (q:Int) (plain good:Tp18) (r5:(Bool->Tp18->Tp18->Option (Bool))) (i:Int) (p g':Tp18):Option (Bool):=LFix (zjP a loop final q plain good r5 ) (i,p,g')
def zcq (a:Tp7) (loop:Tp19) (final:Tp18) (q:Int) (r5:Tf10) (again:Bool) (plain good:Tp18):Option (Bool):=
  if again=true then
  G (room ([]:List Bool) plain 1) (
  G (room ([]:List Bool) good 1) (
  zcj a loop final q plain good r5 (0:Int) (([]:List Bool)++plain) (([]:List Bool)++good))) else
  some false
def zls (a:Tp7) (loop:Tp19) (final:Tp18) (q:Int):(Bool×Tp18×Tp18->Option (Bool))->Bool×Tp18×Tp18->Option (Bool):=
  fun rec x=>zcq a loop final q (fun again plain good=>rec (again,plain,good)) x.1 x.2.1 x.2.2
def zcE (a:Tp7) (loop:Tp19) (final:Tp18) (q:Int) (again:Bool) (plain good:Tp18):Option (Bool):=LFix (zls a loop final q ) (again,plain,good)
def zn2 (a:Tp7) (loop:Tp19) (final:Tp18) (q:Int):Option (Bool):=
  G (mkOK a.2.1 a.2.1 1) (
  G (mkOK a.2.1 a.2.1 1) (
  G (0<=q/\q < ((List.replicate (a.2.1).toNat (false:Bool)).length:Int)) (
  G ((q).toNat < (List.replicate (a.2.1).toNat (false:Bool)).length) (
  zcE a loop final q true ((List.replicate (a.2.1).toNat (false:Bool)).set (q).toNat true) (List.replicate (a.2.1).toNat (false:Bool))))))
theorem zgI (r10:Nat->Tf11) (r10':Tf11) (h_r10:∀ a0 a1 a2,ChO (fun κ=>r10 κ a0 a1 a2) (r10' a0 a1 a2)) (r13:Nat->Int->Tp18->Option (Bool)) (r13':Int->Tp18->Option (Bool)) (h_r13:∀ a0 a1,ChO (fun κ=>r13 κ a0 a1) (r13' a0 a1)) (a loop final i p k g'_1):ChO (fun κ=>zbg a loop final i p (r10 κ) (r13 κ) k g'_1) (zbg a loop final i p r10' r13' k g'_1):=by
  unfold zbg
  repeat' with_reducible first | exact ChO.const _ | exact h_r10 _ _ _ | exact h_r13 _ _ | apply ChO.ite | apply ChO.G | (apply ChO.bind;intro _)
theorem zfh (r10 a loop final i p):Cn (zjQ a loop final i p r10):=fun g h hg x=>zgI (fun _=>r10) r10 (fun _ _ _=>ChO.const _) _ _ (fun a0 a1=>hg (a0,a1)) a loop final i p x.1 x.2
theorem zdy (r10 a loop final i p k g'_1):zbG a loop final i p r10 k g'_1=zbg a loop final i p r10 (zbG a loop final i p r10) k g'_1:=zah (zfh r10 a loop final i p) (k,g'_1)
theorem zpj (r10:Nat->Tf11) (r10':Tf11) (h_r10:∀ a0 a1 a2,ChO (fun κ=>r10 κ a0 a1 a2) (r10' a0 a1 a2)) (a loop final i p k g'_1):ChO (fun κ=>zbG a loop final i p (r10 κ) k g'_1) (zbG a loop final i p r10' k g'_1):=by
  unfold zbG
  exact zdj (fun κ=>(zfh (r10 κ) a loop final i p).mono) (zfh r10' a loop final i p).mono (fun g h hg x=>zgI r10 r10' h_r10 _ _ (fun a0 a1=>hg (a0,a1)) a loop final i p x.1 x.2) _
theorem zph (r21:Nat->Tf9) (r21':Tf9) (h_r21:∀ a0 a1 a2 a3,ChO (fun κ=>r21 κ a0 a1 a2 a3) (r21' a0 a1 a2 a3)) (g' k_1 good_1 again_2 plain_2):ChO (fun κ=>zcD g' k_1 good_1 (r21 κ) again_2 plain_2) (zcD g' k_1 good_1 r21' again_2 plain_2):=by
  unfold zcD
  repeat' with_reducible first | exact ChO.const _ | exact h_r21 _ _ _ _ | apply ChO.ite | apply ChO.G
theorem zpg (r21:Nat->Tf9) (r21':Tf9) (h_r21:∀ a0 a1 a2 a3,ChO (fun κ=>r21 κ a0 a1 a2 a3) (r21' a0 a1 a2 a3)) (p g' k_1 plain_1 good_1 again_2):ChO (fun κ=>za6 p g' k_1 plain_1 good_1 (r21 κ) again_2) (za6 p g' k_1 plain_1 good_1 r21' again_2):=by
  unfold za6
  repeat' with_reducible first | exact ChO.const _ | exact h_r21 _ _ _ _ | (apply zph<;>assumption) | apply ChO.ite | apply ChO.G
theorem zgJ (r5:Nat->Tf10) (r5':Tf10) (h_r5:∀ a0 a1 a2,ChO (fun κ=>r5 κ a0 a1 a2) (r5' a0 a1 a2)) (r21:Nat->Tf9) (r21':Tf9) (h_r21:∀ a0 a1 a2 a3,ChO (fun κ=>r21 κ a0 a1 a2 a3) (r21' a0 a1 a2 a3)) (a p g' again_1 k_1 plain_1 good_1):ChO (fun κ=>zaN a (r5 κ) p g' (r21 κ) again_1 k_1 plain_1 good_1) (zaN a r5' p g' r21' again_1 k_1 plain_1 good_1):=by
  unfold zaN
  repeat' with_reducible first | exact ChO.const _ | exact h_r5 _ _ _ | exact h_r21 _ _ _ _ | (apply zpg<;>assumption) | apply ChO.ite | apply ChO.G
theorem zfi (r5 a p g'):Cn (zjR a r5 p g'):=fun g h hg x=>zgJ (fun _=>r5) r5 (fun _ _ _=>ChO.const _) _ _ (fun a0 a1 a2 a3=>hg (a0,a1,a2,a3)) a p g' x.1 x.2.1 x.2.2.1 x.2.2.2
theorem zbQ (r5 a p g' again_1 k_1 plain_1 good_1):zaH a r5 p g' again_1 k_1 plain_1 good_1=zaN a r5 p g' (zaH a r5 p g') again_1 k_1 plain_1 good_1:=zah (zfi r5 a p g') (again_1,k_1,plain_1,good_1)
theorem zpk (r5:Nat->Tf10) (r5':Tf10) (h_r5:∀ a0 a1 a2,ChO (fun κ=>r5 κ a0 a1 a2) (r5' a0 a1 a2)) (a p g' again_1 k_1 plain_1 good_1):ChO (fun κ=>zaH a (r5 κ) p g' again_1 k_1 plain_1 good_1) (zaH a r5' p g' again_1 k_1 plain_1 good_1):=by
  unfold zaH
  exact zdj (fun κ=>(zfi (r5 κ) a p g').mono) (zfi r5' a p g').mono (fun g h hg x=>zgJ r5 r5' h_r5 _ _ (fun a0 a1 a2 a3=>hg (a0,a1,a2,a3)) a p g' x.1 x.2.1 x.2.2.1 x.2.2.2) _
theorem zgH (r5:Nat->Tf10) (r5':Tf10) (h_r5:∀ a0 a1 a2,ChO (fun κ=>r5 κ a0 a1 a2) (r5' a0 a1 a2)) (r10:Nat->Tf11) (r10':Tf11) (h_r10:∀ a0 a1 a2,ChO (fun κ=>r10 κ a0 a1 a2) (r10' a0 a1 a2)) (a loop final q plain good i p g'):ChO (fun κ=>zb5 a loop final q plain good (r5 κ) (r10 κ) i p g') (zb5 a loop final q plain good r5' r10' i p g'):=by
  unfold zb5
  repeat' with_reducible first | exact ChO.const _ | exact h_r5 _ _ _ | exact h_r10 _ _ _ | (apply zpj<;>assumption) | (apply zpk<;>assumption) | apply ChO.ite | apply ChO.G
theorem zfg (r5 a loop final q plain good):Cn (zjP a loop final q plain good r5):=fun g h hg x=>zgH (fun _=>r5) r5 (fun _ _ _=>ChO.const _) _ _ (fun a0 a1 a2=>hg (a0,a1,a2)) a loop final q plain good x.1 x.2.1 x.2.2
theorem ziK (r5 a loop final q plain good i p g'):zcj a loop final q plain good r5 i p g'=zb5 a loop final q plain good r5 (zcj a loop final q plain good r5) i p g':=zah (zfg r5 a loop final q plain good) (i,p,g')
theorem zpi (r5:Nat->Tf10) (r5':Tf10) (h_r5:∀ a0 a1 a2,ChO (fun κ=>r5 κ a0 a1 a2) (r5' a0 a1 a2)) (a loop final q plain good i p g'):ChO (fun κ=>zcj a loop final q plain good (r5 κ) i p g') (zcj a loop final q plain good r5' i p g'):=by
  unfold zcj
  exact zdj (fun κ=>(zfg (r5 κ) a loop final q plain good).mono) (zfg r5' a loop final q plain good).mono (fun g h hg x=>zgH r5 r5' h_r5 _ _ (fun a0 a1 a2=>hg (a0,a1,a2)) a loop final q plain good x.1 x.2.1 x.2.2) _
theorem znB (r5:Nat->Tf10) (r5':Tf10) (h_r5:∀ a0 a1 a2,ChO (fun κ=>r5 κ a0 a1 a2) (r5' a0 a1 a2)) (a loop final q again plain good):ChO (fun κ=>zcq a loop final q (r5 κ) again plain good) (zcq a loop final q r5' again plain good):=by
  unfold zcq
  repeat' with_reducible first | exact ChO.const _ | exact h_r5 _ _ _ | (apply zpi<;>assumption) | apply ChO.ite | apply ChO.G
theorem zp2 (a loop final q):Cn (zls a loop final q):=fun g h hg x=>znB  _ _ (fun a0 a1 a2=>hg (a0,a1,a2)) a loop final q x.1 x.2.1 x.2.2
theorem zjS (a loop final q again plain good):zcE a loop final q again plain good=zcq a loop final q (zcE a loop final q) again plain good:=zah (zp2 a loop final q) (again,plain,good)

def zbf (next':Tp18) (q:Int) (far_4:Tp18) (r19:(Bool->Int->Tp18->Option (Bool))) (again_2:Bool):Option (Bool):=
  G (0<=q/\q < (far_4.length:Int)) (
  G ((q).toNat < far_4.length) (
  if (ix far_4 q)=true then
  G (0<=q/\q < (far_4.length:Int)) (
  G ((q).toNat < far_4.length) (
  G (fits (q+(1:Int))) (
  r19 again_2 (q+(1:Int)) (far_4.set (q).toNat true)))) else
  G (0<=q/\q < (next'.length:Int)) (
  G ((q).toNat < next'.length) (
  G (0<=q/\q < (far_4.length:Int)) (
  G ((q).toNat < far_4.length) (
  G (fits (q+(1:Int))) (
  r19 again_2 (q+(1:Int)) (far_4.set (q).toNat (ix next' q)))))))))
def zaU (a:Tp7) (r11:(Bool->Tp18->Option (Bool))) (next':Tp18) (r19:Tf12) (again_1:Bool) (q:Int) (far_4:Tp18):Option (Bool):=
  if (decide (q < a.2.1))=true then
  if again_1=true then
  zbf next' q far_4 r19 true else
  G (0<=q/\q < (next'.length:Int)) (
  G ((q).toNat < next'.length) (
  if (ix next' q)=true then
  G (0<=q/\q < (far_4.length:Int)) (
  G ((q).toNat < far_4.length) (
  zbf next' q far_4 r19 (!(ix far_4 q)))) else
  zbf next' q far_4 r19 false)) else
  r11 again_1 far_4
def zhB (a:Tp7) (r11:(Bool->Tp18->Option (Bool))) (next':Tp18):(Bool×Int×Tp18->Option (Bool))->Bool×Int×Tp18->Option (Bool):=
  fun rec x=>zaU a r11 next' (fun again_1 q far_4=>rec (again_1,q,far_4)) x.1 x.2.1 x.2.2
def zaM (a:Tp7) (r11:(Bool->Tp18->Option (Bool))) (next':Tp18) (again_1:Bool) (q:Int) (far_4:Tp18):Option (Bool):=LFix (zhB a r11 next' ) (again_1,q,far_4)
def zbr (a:Tp7) (l:Tp13) (r11:(Bool->Tp18->Option (Bool))) (r15:Tf11) (i_2:Int) (far_3 next':Tp18):Option (Bool):=
  if (decide (i_2 < (l.2.1.length:Int)))=true then
  G (0<=i_2/\i_2 < (l.2.1.length:Int)) (
  (zsH (a.1,(a.2.1,(a.2.2.1,(a.2.2.2.1,(a.2.2.2.2.1,()))))) next' (ix l.2.1 i_2)).bind (fun y'_2=>
  G (fits (i_2+(1:Int))) (
  r15 (i_2+(1:Int)) far_3 y'_2))) else
  zaM a r11 next' false (0:Int) far_3
def zhA (a:Tp7) (l:Tp13) (r11:(Bool->Tp18->Option (Bool))):(Int×Tp18×Tp18->Option (Bool))->Int×Tp18×Tp18->Option (Bool):=
  fun rec x=>zbr a l r11 (fun i_2 far_3 next'=>rec (i_2,far_3,next')) x.1 x.2.1 x.2.2
def zb4 (a:Tp7) (l:Tp13) (r11:(Bool->Tp18->Option (Bool))) (i_2:Int) (far_3 next':Tp18):Option (Bool):=LFix (zhA a l r11 ) (i_2,far_3,next')
def zbt (a:Tp7) (l:Tp13) (far_2 final:Tp18) (r29:Int->Option (Bool)) (q_1:Int):Option (Bool):=
  if (decide (q_1 < a.2.1))=true then
  G (0<=q_1/\q_1 < (far_2.length:Int)) (
  G ((q_1).toNat < far_2.length) (
  if (!(ix far_2 q_1))=true then
  G (fits (q_1+(1:Int))) (
  r29 (q_1+(1:Int))) else
  (zn2 (a.1,(a.2.1,(a.2.2.1,(a.2.2.2.1,(a.2.2.2.2.1,()))))) l.2.1 final q_1).bind (fun y'_3=>
  if y'_3=true then
  some true else
  G (fits (q_1+(1:Int))) (
  r29 (q_1+(1:Int)))))) else
  some false
def zhD (a:Tp7) (l:Tp13) (far_2 final:Tp18):(Int->Option (Bool))->Int->Option (Bool):=
  fun rec x=>zbt a l far_2 final (fun q_1=>rec q_1) x
def zcS (a:Tp7) (l:Tp13) (far_2 final:Tp18) (q_1:Int):Option (Bool):=LFix (zhD a l far_2 final ) q_1
def zbs (a:Tp7) (l:Tp13) (far_2:Tp18) (r25:Int->Tp18->Option (Bool)) (i_3:Int) (final:Tp18):Option (Bool):=
  if (decide (i_3 < (a.2.2.2.2.1.length:Int)))=true then
  G (0<=i_3/\i_3 < (a.2.2.2.2.1.length:Int)) (
  G (0<=ix a.2.2.2.2.1 i_3/\ix a.2.2.2.2.1 i_3 < (final.length:Int)) (
  G ((ix a.2.2.2.2.1 i_3).toNat < final.length) (
  G (fits (i_3+(1:Int))) (
  r25 (i_3+(1:Int)) (final.set (ix a.2.2.2.2.1 i_3).toNat true))))) else
  zcS a l far_2 final (0:Int)
def zhC (a:Tp7) (l:Tp13) (far_2:Tp18):(Int×Tp18->Option (Bool))->Int×Tp18->Option (Bool):=
  fun rec x=>zbs a l far_2 (fun i_3 final=>rec (i_3,final)) x.1 x.2
def zee (a:Tp7) (l:Tp13) (far_2:Tp18) (i_3:Int) (final:Tp18):Option (Bool):=LFix (zhC a l far_2 ) (i_3,final)
def zbq (a:Tp7) (l:Tp13) (r11:Bool->Tp18->Option (Bool)) (again:Bool) (far_2:Tp18):Option (Bool):=
  if again=true then
  if (decide ((0:Int) < (l.2.1.length:Int)))=true then
  G (0<=(0:Int)/\(0:Int) < (l.2.1.length:Int)) (
  (zsH (a.1,(a.2.1,(a.2.2.1,(a.2.2.2.1,(a.2.2.2.2.1,()))))) far_2 (ix l.2.1 (0:Int))).bind (fun y'_1=>
  G (fits ((0:Int)+(1:Int))) (
  zb4 a l r11 ((0:Int)+(1:Int)) far_2 y'_1))) else
  none else
  G (mkOK a.2.1 a.2.1 1) (
  zee a l far_2 (0:Int) (List.replicate (a.2.1).toNat (false:Bool)))
def zhz (a:Tp7) (l:Tp13):(Bool×Tp18->Option (Bool))->Bool×Tp18->Option (Bool):=
  fun rec x=>zbq a l (fun again far_2=>rec (again,far_2)) x.1 x.2
def zbA (a:Tp7) (l:Tp13) (again:Bool) (far_2:Tp18):Option (Bool):=LFix (zhz a l ) (again,far_2)
def zbP (a:Tp7) (l:Tp13) (r7:Int->Tp18->Option (Bool)) (i_1:Int) (far_1:Tp18):Option (Bool):=
  if (decide (i_1 < (l.1.length:Int)))=true then
  G (0<=i_1/\i_1 < (l.1.length:Int)) (
  (zsH (a.1,(a.2.1,(a.2.2.1,(a.2.2.2.1,(a.2.2.2.2.1,()))))) far_1 (ix l.1 i_1)).bind (fun y'=>
  G (fits (i_1+(1:Int))) (
  r7 (i_1+(1:Int)) y'))) else
  zbA a l true far_1
def ziE (a:Tp7) (l:Tp13):(Int×Tp18->Option (Bool))->Int×Tp18->Option (Bool):=
  fun rec x=>zbP a l (fun i_1 far_1=>rec (i_1,far_1)) x.1 x.2
def zeM (a:Tp7) (l:Tp13) (i_1:Int) (far_1:Tp18):Option (Bool):=LFix (ziE a l ) (i_1,far_1)
def zbO (a:Tp7) (l:Tp13) (r3:Int->Tp18->Option (Bool)) (i:Int) (far:Tp18):Option (Bool):=
  if (decide (i < (a.2.2.1.length:Int)))=true then
  G (0<=i/\i < (a.2.2.1.length:Int)) (
  G (0<=ix a.2.2.1 i/\ix a.2.2.1 i < (far.length:Int)) (
  G ((ix a.2.2.1 i).toNat < far.length) (
  G (fits (i+(1:Int))) (
  r3 (i+(1:Int)) (far.set (ix a.2.2.1 i).toNat true))))) else
  zeM a l (0:Int) far
def ziD (a:Tp7) (l:Tp13):(Int×Tp18->Option (Bool))->Int×Tp18->Option (Bool):=
  fun rec x=>zbO a l (fun i far=>rec (i,far)) x.1 x.2
def zeL (a:Tp7) (l:Tp13) (i:Int) (far:Tp18):Option (Bool):=LFix (ziD a l ) (i,far)
def zjo (a:Tp7) (l:Tp13):Option (Bool):=
  G (mkOK a.2.1 a.2.1 1) (
  zeL a l (0:Int) (List.replicate (a.2.1).toNat (false:Bool)))
theorem zme (r19:Nat->Tf12) (r19':Tf12) (h_r19:∀ a0 a1 a2,ChO (fun κ=>r19 κ a0 a1 a2) (r19' a0 a1 a2)) (next' q far_4 again_2):ChO (fun κ=>zbf next' q far_4 (r19 κ) again_2) (zbf next' q far_4 r19' again_2):=by
  unfold zbf
  repeat' with_reducible first | exact ChO.const _ | exact h_r19 _ _ _ | apply ChO.ite | apply ChO.G
theorem zfa (r11:Nat->Bool->Tp18->Option (Bool)) (r11':Bool->Tp18->Option (Bool)) (h_r11:∀ a0 a1,ChO (fun κ=>r11 κ a0 a1) (r11' a0 a1)) (r19:Nat->Tf12) (r19':Tf12) (h_r19:∀ a0 a1 a2,ChO (fun κ=>r19 κ a0 a1 a2) (r19' a0 a1 a2)) (a next' again_1 q far_4):ChO (fun κ=>zaU a (r11 κ) next' (r19 κ) again_1 q far_4) (zaU a r11' next' r19' again_1 q far_4):=by
  unfold zaU
  repeat' with_reducible first | exact ChO.const _ | exact h_r11 _ _ | exact h_r19 _ _ _ | (apply zme<;>assumption) | apply ChO.ite | apply ChO.G
theorem zd1 (r11 a next'):Cn (zhB a r11 next'):=fun g h hg x=>zfa (fun _=>r11) r11 (fun _ _=>ChO.const _) _ _ (fun a0 a1 a2=>hg (a0,a1,a2)) a next' x.1 x.2.1 x.2.2
theorem zcK (r11 a next' again_1 q far_4):zaM a r11 next' again_1 q far_4=zaU a r11 next' (zaM a r11 next') again_1 q far_4:=zah (zd1 r11 a next') (again_1,q,far_4)
theorem zmh (r11:Nat->Bool->Tp18->Option (Bool)) (r11':Bool->Tp18->Option (Bool)) (h_r11:∀ a0 a1,ChO (fun κ=>r11 κ a0 a1) (r11' a0 a1)) (a next' again_1 q far_4):ChO (fun κ=>zaM a (r11 κ) next' again_1 q far_4) (zaM a r11' next' again_1 q far_4):=by
  unfold zaM
  exact zdj (fun κ=>(zd1 (r11 κ) a next').mono) (zd1 r11' a next').mono (fun g h hg x=>zfa r11 r11' h_r11 _ _ (fun a0 a1 a2=>hg (a0,a1,a2)) a next' x.1 x.2.1 x.2.2) _
theorem ze9 (r11:Nat->Bool->Tp18->Option (Bool)) (r11':Bool->Tp18->Option (Bool)) (h_r11:∀ a0 a1,ChO (fun κ=>r11 κ a0 a1) (r11' a0 a1)) (r15:Nat->Tf11) (r15':Tf11) (h_r15:∀ a0 a1 a2,ChO (fun κ=>r15 κ a0 a1 a2) (r15' a0 a1 a2)) (a l i_2 far_3 next'):ChO (fun κ=>zbr a l (r11 κ) (r15 κ) i_2 far_3 next') (zbr a l r11' r15' i_2 far_3 next'):=by
  unfold zbr
  repeat' with_reducible first | exact ChO.const _ | exact h_r11 _ _ | exact h_r15 _ _ _ | (apply zmh<;>assumption) | apply ChO.ite | apply ChO.G | (apply ChO.bind;intro _)
theorem zd0 (r11 a l):Cn (zhA a l r11):=fun g h hg x=>ze9 (fun _=>r11) r11 (fun _ _=>ChO.const _) _ _ (fun a0 a1 a2=>hg (a0,a1,a2)) a l x.1 x.2.1 x.2.2
theorem zgE (r11 a l i_2 far_3 next'):zb4 a l r11 i_2 far_3 next'=zbr a l r11 (zb4 a l r11) i_2 far_3 next':=zah (zd0 r11 a l) (i_2,far_3,next')
theorem zmg (r11:Nat->Bool->Tp18->Option (Bool)) (r11':Bool->Tp18->Option (Bool)) (h_r11:∀ a0 a1,ChO (fun κ=>r11 κ a0 a1) (r11' a0 a1)) (a l i_2 far_3 next'):ChO (fun κ=>zb4 a l (r11 κ) i_2 far_3 next') (zb4 a l r11' i_2 far_3 next'):=by
  unfold zb4
  exact zdj (fun κ=>(zd0 (r11 κ) a l).mono) (zd0 r11' a l).mono (fun g h hg x=>ze9 r11 r11' h_r11 _ _ (fun a0 a1 a2=>hg (a0,a1,a2)) a l x.1 x.2.1 x.2.2) _
theorem zks (r29:Nat->Int->Option (Bool)) (r29':Int->Option (Bool)) (h_r29:∀ a0,ChO (fun κ=>r29 κ a0) (r29' a0)) (a l far_2 final q_1):ChO (fun κ=>zbt a l far_2 final (r29 κ) q_1) (zbt a l far_2 final r29' q_1):=by
  unfold zbt
  repeat' with_reducible first | exact ChO.const _ | exact h_r29 _ | apply ChO.ite | apply ChO.G | (apply ChO.bind;intro _)
theorem zmj (a l far_2 final):Cn (zhD a l far_2 final):=fun g h hg x=>zks  _ _ (fun a=>hg a) a l far_2 final x
theorem zgG (a l far_2 final q_1):zcS a l far_2 final q_1=zbt a l far_2 final (zcS a l far_2 final) q_1:=zah (zmj a l far_2 final) q_1
theorem zkr (r25:Nat->Int->Tp18->Option (Bool)) (r25':Int->Tp18->Option (Bool)) (h_r25:∀ a0 a1,ChO (fun κ=>r25 κ a0 a1) (r25' a0 a1)) (a l far_2 i_3 final):ChO (fun κ=>zbs a l far_2 (r25 κ) i_3 final) (zbs a l far_2 r25' i_3 final):=by
  unfold zbs
  repeat' with_reducible first | exact ChO.const _ | exact h_r25 _ _ | apply ChO.ite | apply ChO.G
theorem zmi (a l far_2):Cn (zhC a l far_2):=fun g h hg x=>zkr  _ _ (fun a0 a1=>hg (a0,a1)) a l far_2 x.1 x.2
theorem zgF (a l far_2 i_3 final):zee a l far_2 i_3 final=zbs a l far_2 (zee a l far_2) i_3 final:=zah (zmi a l far_2) (i_3,final)
theorem zkq (r11:Nat->Bool->Tp18->Option (Bool)) (r11':Bool->Tp18->Option (Bool)) (h_r11:∀ a0 a1,ChO (fun κ=>r11 κ a0 a1) (r11' a0 a1)) (a l again far_2):ChO (fun κ=>zbq a l (r11 κ) again far_2) (zbq a l r11' again far_2):=by
  unfold zbq
  repeat' with_reducible first | exact ChO.const _ | exact h_r11 _ _ | (apply zmg<;>assumption) | apply ChO.ite | apply ChO.G | (apply ChO.bind;intro _)
theorem zmf (a l):Cn (zhz a l):=fun g h hg x=>zkq  _ _ (fun a0 a1=>hg (a0,a1)) a l x.1 x.2
theorem zgD (a l again far_2):zbA a l again far_2=zbq a l (zbA a l) again far_2:=zah (zmf a l) (again,far_2)
theorem zln (r7:Nat->Int->Tp18->Option (Bool)) (r7':Int->Tp18->Option (Bool)) (h_r7:∀ a0 a1,ChO (fun κ=>r7 κ a0 a1) (r7' a0 a1)) (a l i_1 far_1):ChO (fun κ=>zbP a l (r7 κ) i_1 far_1) (zbP a l r7' i_1 far_1):=by
  unfold zbP
  repeat' with_reducible first | exact ChO.const _ | exact h_r7 _ _ | apply ChO.ite | apply ChO.G | (apply ChO.bind;intro _)
theorem znz (a l):Cn (ziE a l):=fun g h hg x=>zln  _ _ (fun a0 a1=>hg (a0,a1)) a l x.1 x.2
theorem zhF (a l i_1 far_1):zeM a l i_1 far_1=zbP a l (zeM a l) i_1 far_1:=zah (znz a l) (i_1,far_1)
theorem zlm (r3:Nat->Int->Tp18->Option (Bool)) (r3':Int->Tp18->Option (Bool)) (h_r3:∀ a0 a1,ChO (fun κ=>r3 κ a0 a1) (r3' a0 a1)) (a l i far):ChO (fun κ=>zbO a l (r3 κ) i far) (zbO a l r3' i far):=by
  unfold zbO
  repeat' with_reducible first | exact ChO.const _ | exact h_r3 _ _ | apply ChO.ite | apply ChO.G
theorem zny (a l):Cn (ziD a l):=fun g h hg x=>zlm  _ _ (fun a0 a1=>hg (a0,a1)) a l x.1 x.2
theorem zhE (a l i far):zeL a l i far=zbO a l (zeL a l) i far:=zah (zny a l) (i,far)

def zcp (d:Tp10) (w:Tp19) (r2:Int->Int->Option (Int)) (q_1 i:Int):Option (Int):=
  if (decide (i < (w.length:Int)))=true then
  G (0<=q_1/\q_1 < (d.2.2.1.length:Int)) (
  G (0<=i/\i < (w.length:Int)) (
  G (0<=ix w i/\ix w i < ((ix d.2.2.1 q_1).length:Int)) (
  G (fits (i+(1:Int))) (
  r2 (ix (ix d.2.2.1 q_1) (ix w i)) (i+(1:Int)))))) else
  some q_1
def zlk (d:Tp10) (w:Tp19):(Int×Int->Option (Int))->Int×Int->Option (Int):=
  fun rec x=>zcp d w (fun q_1 i=>rec (q_1,i)) x.1 x.2
def zhg (d:Tp10) (w:Tp19) (q_1 i:Int):Option (Int):=LFix (zlk d w ) (q_1,i)
def znZ (d:Tp10) (q:Int) (w:Tp19):Option (Int):=
  zhg d w q (0:Int)
theorem znx (r2:Nat->Int->Int->Option (Int)) (r2':Int->Int->Option (Int)) (h_r2:∀ a0 a1,ChO (fun κ=>r2 κ a0 a1) (r2' a0 a1)) (d w q_1 i):ChO (fun κ=>zcp d w (r2 κ) q_1 i) (zcp d w r2' q_1 i):=by
  unfold zcp
  repeat' with_reducible first | exact ChO.const _ | exact h_r2 _ _ | apply ChO.ite | apply ChO.G
theorem zp0 (d w):Cn (zlk d w):=fun g h hg x=>znx  _ _ (fun a0 a1=>hg (a0,a1)) d w x.1 x.2
theorem zjH (d w q_1 i):zhg d w q_1 i=zcp d w (zhg d w) q_1 i:=zah (zp0 d w) (q_1,i)

def zbu (d:Tp10) (l:Tp13) (i_1:Int) (r8:(Int->Int->Int->Option (Bool))) (r11:Tf13) (q_2 least_1 k:Int):Option (Bool):=
  if (decide (k < (l.2.1.length:Int)))=true then
  G (0<=q_2/\q_2 < (d.2.2.1.length:Int)) (
  G (0<=k/\k < (l.2.1.length:Int)) (
  G (0<=ix l.2.1 k/\ix l.2.1 k < ((ix d.2.2.1 q_2).length:Int)) (
  G (0<=ix (ix d.2.2.1 q_2) (ix l.2.1 k)/\ix (ix d.2.2.1 q_2) (ix l.2.1 k) < (d.2.2.2.1.length:Int)) (
  if (decide ((ix d.2.2.2.1 (ix (ix d.2.2.1 q_2) (ix l.2.1 k))) < least_1))=true then
  G (0<=ix (ix d.2.2.1 q_2) (ix l.2.1 k)/\ix (ix d.2.2.1 q_2) (ix l.2.1 k) < (d.2.2.2.1.length:Int)) (
  G (fits (k+(1:Int))) (
  r11 (ix (ix d.2.2.1 q_2) (ix l.2.1 k)) (ix d.2.2.2.1 (ix (ix d.2.2.1 q_2) (ix l.2.1 k))) (k+(1:Int)))) else
  G (fits (k+(1:Int))) (
  r11 (ix (ix d.2.2.1 q_2) (ix l.2.1 k)) least_1 (k+(1:Int))))))) else
  G (fits (i_1+(1:Int))) (
  r8 q_2 least_1 (i_1+(1:Int)))
def zhG (d:Tp10) (l:Tp13) (i_1:Int) (r8:(Int->Int->Int->Option (Bool))):(Int×Int×Int->Option (Bool))->Int×Int×Int->Option (Bool):=
  fun rec x=>zbu d l i_1 r8 (fun q_2 least_1 k=>rec (q_2,least_1,k)) x.1 x.2.1 x.2.2
def zb6 (d:Tp10) (l:Tp13) (i_1:Int) (r8:(Int->Int->Int->Option (Bool))) (q_2 least_1 k:Int):Option (Bool):=LFix (zhG d l i_1 r8 ) (q_2,least_1,k)
def zbS (d:Tp10) (l:Tp13) (r8:Tf13) (q_1 least i_1:Int):Option (Bool):=
  if (decide (i_1 < (d.2.2.1.length:Int)))=true then
  zb6 d l i_1 r8 q_1 least (0:Int) else
  G ((2:Int)≠0) (
  some (decide ((Int.tmod least (2:Int))=(0:Int))))
def ziM (d:Tp10) (l:Tp13):(Int×Int×Int->Option (Bool))->Int×Int×Int->Option (Bool):=
  fun rec x=>zbS d l (fun q_1 least i_1=>rec (q_1,least,i_1)) x.1 x.2.1 x.2.2
def zdz (d:Tp10) (l:Tp13) (q_1 least i_1:Int):Option (Bool):=LFix (ziM d l ) (q_1,least,i_1)
def zbR (d:Tp10) (l:Tp13) (r3:Int->Int->Option (Bool)) (q i:Int):Option (Bool):=
  if (decide (i < (d.2.2.1.length:Int)))=true then
  (znZ (d.1,(d.2.1,(d.2.2.1,(d.2.2.2.1,())))) q l.2.1).bind (fun y'_1=>
  G (fits (i+(1:Int))) (
  r3 y'_1 (i+(1:Int)))) else
  zdz d l q (10:Int) (0:Int)
def ziL (d:Tp10) (l:Tp13):(Int×Int->Option (Bool))->Int×Int->Option (Bool):=
  fun rec x=>zbR d l (fun q i=>rec (q,i)) x.1 x.2
def zeN (d:Tp10) (l:Tp13) (q i:Int):Option (Bool):=LFix (ziL d l ) (q,i)
def zgK (d:Tp10) (l:Tp13):Option (Bool):=
  (znZ (d.1,(d.2.1,(d.2.2.1,(d.2.2.2.1,())))) d.2.1 l.1).bind (fun y'=>
  zeN d l y' (0:Int))
theorem zfj (r8:Nat->Tf13) (r8':Tf13) (h_r8:∀ a0 a1 a2,ChO (fun κ=>r8 κ a0 a1 a2) (r8' a0 a1 a2)) (r11:Nat->Tf13) (r11':Tf13) (h_r11:∀ a0 a1 a2,ChO (fun κ=>r11 κ a0 a1 a2) (r11' a0 a1 a2)) (d l i_1 q_2 least_1 k):ChO (fun κ=>zbu d l i_1 (r8 κ) (r11 κ) q_2 least_1 k) (zbu d l i_1 r8' r11' q_2 least_1 k):=by
  unfold zbu
  repeat' with_reducible first | exact ChO.const _ | exact h_r8 _ _ _ | exact h_r11 _ _ _ | apply ChO.ite | apply ChO.G
theorem zd3 (r8 d l i_1):Cn (zhG d l i_1 r8):=fun g h hg x=>zfj (fun _=>r8) r8 (fun _ _ _=>ChO.const _) _ _ (fun a0 a1 a2=>hg (a0,a1,a2)) d l i_1 x.1 x.2.1 x.2.2
theorem zgL (r8 d l i_1 q_2 least_1 k):zb6 d l i_1 r8 q_2 least_1 k=zbu d l i_1 r8 (zb6 d l i_1 r8) q_2 least_1 k:=zah (zd3 r8 d l i_1) (q_2,least_1,k)
theorem zmp (r8:Nat->Tf13) (r8':Tf13) (h_r8:∀ a0 a1 a2,ChO (fun κ=>r8 κ a0 a1 a2) (r8' a0 a1 a2)) (d l i_1 q_2 least_1 k):ChO (fun κ=>zb6 d l i_1 (r8 κ) q_2 least_1 k) (zb6 d l i_1 r8' q_2 least_1 k):=by
  unfold zb6
  exact zdj (fun κ=>(zd3 (r8 κ) d l i_1).mono) (zd3 r8' d l i_1).mono (fun g h hg x=>zfj r8 r8' h_r8 _ _ (fun a0 a1 a2=>hg (a0,a1,a2)) d l i_1 x.1 x.2.1 x.2.2) _
theorem zlv (r8:Nat->Tf13) (r8':Tf13) (h_r8:∀ a0 a1 a2,ChO (fun κ=>r8 κ a0 a1 a2) (r8' a0 a1 a2)) (d l q_1 least i_1):ChO (fun κ=>zbS d l (r8 κ) q_1 least i_1) (zbS d l r8' q_1 least i_1):=by
  unfold zbS
  repeat' with_reducible first | exact ChO.const _ | exact h_r8 _ _ _ | (apply zmp<;>assumption) | apply ChO.ite | apply ChO.G
theorem znD (d l):Cn (ziM d l):=fun g h hg x=>zlv  _ _ (fun a0 a1 a2=>hg (a0,a1,a2)) d l x.1 x.2.1 x.2.2
theorem zhI (d l q_1 least i_1):zdz d l q_1 least i_1=zbS d l (zdz d l) q_1 least i_1:=zah (znD d l) (q_1,least,i_1)
theorem zlu (r3:Nat->Int->Int->Option (Bool)) (r3':Int->Int->Option (Bool)) (h_r3:∀ a0 a1,ChO (fun κ=>r3 κ a0 a1) (r3' a0 a1)) (d l q i):ChO (fun κ=>zbR d l (r3 κ) q i) (zbR d l r3' q i):=by
  unfold zbR
  repeat' with_reducible first | exact ChO.const _ | exact h_r3 _ _ | apply ChO.ite | apply ChO.G | (apply ChO.bind;intro _)
theorem znC (d l):Cn (ziL d l):=fun g h hg x=>zlu  _ _ (fun a0 a1=>hg (a0,a1)) d l x.1 x.2
theorem zhH (d l q i):zeN d l q i=zbR d l (zeN d l) q i:=zah (znC d l) (q,i)

def zcB (a:Tp7) (l:Tp13) (y'_1:Tp10) (y'_2:Int) (y'_4:Tp10) (y'_5:Int) (y'_7:Bool) (no:Int):Option (Bool):=
  if (!y'_7)=true then
  some false else
  if (decide (¬ no=(0:Int)))=true then
  (zit (y'_1.1,(y'_1.2.1,(y'_1.2.2.1,(y'_1.2.2.2.1,()))))).bind (fun y'_9=>
  (zit (y'_4.1,(y'_4.2.1,(y'_4.2.2.1,(y'_4.2.2.2.1,()))))).bind (fun y'_10=>
  if (decide (y'_2=no))=true then
  if (decide (y'_5=no))=true then
  if y'_9=true then
  some y'_10 else
  some false else
  some false else
  some false)) else
  (zlx (y'_1.1,(y'_1.2.1,(y'_1.2.2.1,(y'_1.2.2.2.1,()))))).bind (fun y'_11=>
  (zlx (y'_4.1,(y'_4.2.1,(y'_4.2.2.1,(y'_4.2.2.2.1,()))))).bind (fun y'_12=>
  if (decide (¬ y'_2=(0:Int)))=true then
  some false else
  if (decide (¬ y'_5=(0:Int)))=true then
  some false else
  if (decide (¬ y'_11=(0:Int)))=true then
  some false else
  if (decide (¬ y'_12=(0:Int)))=true then
  some false else
  if (decide (¬ y'_1.1=a.1))=true then
  some false else
  if (decide (¬ y'_4.1=a.1))=true then
  some false else
  (zrA (a.1,(a.2.1,(a.2.2.1,(a.2.2.2.1,(a.2.2.2.2.1,()))))) (l.1,(l.2.1,()))).bind (fun y'_13=>
  if (decide (¬ y'_13=(0:Int)))=true then
  some true else
  (zjo (a.1,(a.2.1,(a.2.2.1,(a.2.2.2.1,(a.2.2.2.2.1,()))))) (l.1,(l.2.1,()))).bind (fun y'_14=>
  (zgK (y'_1.1,(y'_1.2.1,(y'_1.2.2.1,(y'_1.2.2.2.1,())))) (l.1,(l.2.1,()))).bind (fun y'_15=>
  (zgK (y'_4.1,(y'_4.2.1,(y'_4.2.2.1,(y'_4.2.2.2.1,())))) (l.1,(l.2.1,()))).bind (fun y'_16=>
  if (decide (y'_14=y'_15))=true then
  some (decide (¬ y'_14=y'_16)) else
  some false))))))
def zcA (a:Tp7) (l:Tp13) (y'_1:Tp10) (y'_2:Int) (y'_4:Tp10) (y'_5:Int) (y'_7:Bool) (y'_8:Int) (t:Bool):Option (Bool):=
  if t=true then
  zcB a l y'_1 y'_2 y'_4 y'_5 y'_7 (1:Int) else
  zcB a l y'_1 y'_2 y'_4 y'_5 y'_7 y'_8
def zis (a:Tp7) (l:Tp13):Option (Bool):=
  (znU (a.1,(a.2.1,(a.2.2.1,(a.2.2.2.1,(a.2.2.2.2.1,())))))).bind (fun y'=>
  (zgO (y'.1,(y'.2.1,(y'.2.2.1,(y'.2.2.2.1,(y'.2.2.2.2.1,())))))).bind (fun y'_18=>
  (zd5 (y'.1,(y'.2.1,(y'.2.2.1,(y'.2.2.2.1,(y'.2.2.2.2.1,())))))).bind (fun y'_17=>
  (zfO (y'.1,(y'.2.1,(y'.2.2.1,(y'.2.2.2.1,(y'.2.2.2.2.1,()))))) (a.1,(a.2.1,(a.2.2.1,(a.2.2.2.1,(a.2.2.2.2.1,())))))).bind (fun y'_7=>
  (zn1 (a.1,(a.2.1,(a.2.2.1,(a.2.2.2.1,(a.2.2.2.2.1,())))))).bind (fun y'_8=>
  if (decide (y'_8=(0:Int)))=true then
  zcA a l y'_18.1 y'_18.2 y'_17.1 y'_17.2 y'_7 y'_8 (decide ((4:Int) < a.2.1)) else
  zcA a l y'_18.1 y'_18.2 y'_17.1 y'_17.2 y'_7 y'_8 false)))))

end
end Go.Proofs.Ytobjcafelollfaa.safraDetW
