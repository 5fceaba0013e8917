/- What the functions that 'BuchiJoins' reaches compute: plain functions. -/
import Derived.Test.YtekjdmjngekjpaaEv31n21
set_option maxHeartbeats 1000000
set_option maxRecDepth 20000
set_option linter.unusedSimpArgs false
set_option linter.unusedVariables false
set_option linter.unusedSectionVars false
namespace Go.Proofs.Ytekjdmjngekjpaa.buchiJoinsW
open Go Go.Ab
noncomputable section
abbrev Tp12:=(List Int)
abbrev Tp11:=(List Bool)
abbrev Tp10:=(Int×Int×Int×Unit)
abbrev Tp9:=(Int×Bool×Tp12)
abbrev Tp8:=(List Tp10)
abbrev Tp7:=(Tp12×Tp12×Unit)
abbrev Tp6:=(Int×Tp8)
abbrev Tp5:=(Bool×Tp8)
abbrev Tc7:Ty:=(.pair (.int .i64) (.pair (.int .i64) .unit))
abbrev Tp4:=(Int×Bool×Tp8)
abbrev Tc6:Ty:=(.pair (.int .i64) Tc7)
abbrev Tc5:Ty:=(.list Tc6)
abbrev Tp3:=(Int×Int×Tp12×Tp8×Tp12×Unit)
abbrev Tp2:=(Int×Int×Int×Tp12×Tp8×Tp12×Unit)
abbrev Tp1:=(Tp3×Int)
abbrev Tc4:Ty:=(.pair Tc5 (.pair (.list (.int .i64)) .unit))
abbrev Tc3:Ty:=(.pair (.list (.int .i64)) Tc4)
abbrev Tc2:Ty:=(.pair (.int .i64) Tc3)
abbrev Tc1:Ty:=(.pair (.int .i64) Tc2)
abbrev Tf1:=Int->Int->Int->Bool->Bool->Tp12->Option Tp12
abbrev Tf2:=Int->Int->Int->Bool->Bool->Tp8->Option Tp8
abbrev Tf3:=Int->Int->Int->Tp12->Tp8->Tp12->Option Tp1
abbrev Tf4:=Int->Int->Int->Tp12->Tp8->Option Tp1
abbrev Tf5:=Bool->Int->Tp11->Tp11->Option (Bool)
abbrev Tf6:=Int->Int->Int->Tp12->Option Tp12
abbrev Tf7:=Int->Int->Int->Tp12->Option Tp1
abbrev Tf8:=Int->Int->Int->Tp8->Option Tp8
abbrev Tf9:=Bool->Tp11->Tp11->Option (Bool)
abbrev Tf10:=Int->Tp11->Tp11->Option (Bool)
abbrev Tf11:=Bool->Int->Tp11->Option (Bool)
abbrev Tf12:=Int->Tp12->Int->Option Tp12
abbrev Tf13:=Int->Int->Tp12->Option Tp12
def zrm (l:Tp12):Option Tp12:=
  G (fits ((l.length:Int)+(3:Int))) (
  G (mkOK (l.length:Int) ((l.length:Int)+(3:Int)) 8) (
  some (l.take (List.replicate ((l.length:Int)).toNat (0:Int)).length++(List.replicate ((l.length:Int)).toNat (0:Int)).drop l.length)))

def zrk (a:Tp3):Option Tp3:=
  (zrm a.2.2.1).bind (fun y'=>
  (zrm a.2.2.2.2.1).bind (fun y'_1=>
  G (room ([]:List Tp10) a.2.2.2.1 24) (
  some (a.1,(a.2.1,(y',(([]:List Tp10)++a.2.2.2.1,(y'_1,()))))))))

def zgH (q:Int) (t:Tp3):Option (Bool):=
  if (decide (q < (0:Int)))=true then
  some true else
  some (decide (t.2.1<=q))

def zd9 (s:Tp12) (c:Tp3) (r2:Int->Option (Int)) (t:Int):Option (Int):=
  if (decide (t < (s.length:Int)))=true then
  G (0<=t/\t < (s.length:Int)) (
  (zgH (ix s t) c).bind (fun y'=>
  if y'=true then
  some t else
  G (fits (t+(1:Int))) (
  r2 (t+(1:Int))))) else
  some (-1:Int)
def zkR (s:Tp12) (c:Tp3):(Int->Option (Int))->Int->Option (Int):=
  fun rec x=>zd9 s c (fun t=>rec t) x
def ziM (s:Tp12) (c:Tp3) (t:Int):Option (Int):=LFix (zkR s c ) t
def zoQ (s:Tp12) (c:Tp3):Option (Int):=
  ziM s c (0:Int)
theorem znR (r2:Nat->Int->Option (Int)) (r2':Int->Option (Int)) (h_r2:∀ a0,ChO (fun κ=>r2 κ a0) (r2' a0)) (s:Tp12) (c:Tp3) (t:Int):ChO (fun κ=>zd9 s c (r2 κ) t) (zd9 s c r2' t):=by
  unfold zd9
  repeat' with_reducible first | exact ChO.const _ | exact h_r2 _ | apply ChO.ite | apply ChO.G | apply ChO.both | (apply ChO.bind;intro _)
theorem zoZ  (s:Tp12) (c:Tp3):Cn (zkR s c):=fun g h hg x=>znR  (fun κ t=>g κ t) (fun t=>h t) (fun t=>hg t) s c x
theorem zo0  (s:Tp12) (c:Tp3) (t:Int):ziM s c t=zd9 s c (ziM s c) t:=zam (zoZ s c) t

def zgQ (s:Tp12) (c:Tp3):Option (Bool):=
  (zoQ s c).bind (fun y'=>
  some (decide ((0:Int)<=y')))

def zjj (x':Tp10) (t:Tp3) (c:Tp3):Option (Bool×Int×Int×Tp12×Tp8×Tp12×Unit):=
  (zgH x'.1 c).bind (fun y'=>
  if y'=true then
  some (true,c) else
  (zgH x'.2.2.1 c).bind (fun y'_1=>
  if y'_1=true then
  some (true,c) else
  if (decide (x'.2.1 < (0:Int)))=true then
  some (true,c) else
  some (decide (t.1<=x'.2.1),c)))

def zc9 (s:Tp8) (r2:Tp3->Int->Tp3->Option Tp2) (f:Tp3) (t:Int) (l:Tp3):Option Tp2:=
  if (decide (t < (s.length:Int)))=true then
  G (0<=t/\t < (s.length:Int)) (
  (zjj (ix s t) f l).bind (fun y'_3=>
  if y'_3.1=true then
  some (t,y'_3.2) else
  G (fits (t+(1:Int))) (
  r2 f (t+(1:Int)) y'_3.2))) else
  some ((-1:Int),l)
def zjE (s:Tp8):(Tp3×Int×Int×Int×Tp12×Tp8×Tp12×Unit->Option Tp2)->Tp3×Int×Int×Int×Tp12×Tp8×Tp12×Unit->Option Tp2:=
  fun rec x=>zc9 s (fun f t l=>rec (f,t,l)) x.1 x.2.1 x.2.2
def zfq (s:Tp8) (f:Tp3) (t:Int) (l:Tp3):Option Tp2:=LFix (zjE s ) (f,t,l)
def zmS (s:Tp8) (c:Tp3) (c_1:Tp3):Option Tp2:=
  zfq s c (0:Int) c_1
theorem zms (r2:Nat->Tp3->Int->Tp3->Option Tp2) (r2':Tp3->Int->Tp3->Option Tp2) (h_r2:∀ a0 a1 a2,ChO (fun κ=>r2 κ a0 a1 a2) (r2' a0 a1 a2)) (s:Tp8) (f:Tp3) (t:Int) (l:Tp3):ChO (fun κ=>zc9 s (r2 κ) f t l) (zc9 s r2' f t l):=by
  unfold zc9
  repeat' with_reducible first | exact ChO.const _ | exact h_r2 _ _ _ | apply ChO.ite | apply ChO.G | apply ChO.both | (apply ChO.bind;intro _)
theorem znP  (s:Tp8):Cn (zjE s):=fun g h hg x=>zms  (fun κ f t l=>g κ (f,t,l)) (fun f t l=>h (f,t,l)) (fun f t l=>hg (f,t,l)) s x.1 x.2.1 x.2.2
theorem znQ  (s:Tp8) (f:Tp3) (t:Int) (l:Tp3):zfq s f t l=zc9 s (zfq s) f t l:=zam (znP s) (f,t,l)

def zhN (s:Tp8) (c:Tp3) (c_1:Tp3):Option (Bool×Int×Int×Tp12×Tp8×Tp12×Unit):=
  (zmS s c c_1).bind (fun y'_3=>
  some (decide ((0:Int)<=y'_3.1),y'_3.2))

def zdL (l:Tp12) (r2:Int->Option (Bool)) (t:Int):Option (Bool):=
  if (decide (t < (l.length:Int)))=true then
  if (decide ((0:Int) < t))=true then
  G (fits (t - (1:Int))) (
  G (0<=t - (1:Int)/\t - (1:Int) < (l.length:Int)) (
  G (0<=t/\t < (l.length:Int)) (
  if (decide ((ix l t)<=(ix l (t - (1:Int)))))=true then
  some false else
  G (fits (t+(1:Int))) (
  r2 (t+(1:Int)))))) else
  G (fits (t+(1:Int))) (
  r2 (t+(1:Int))) else
  some true
def znl (l:Tp12):(Int->Option (Bool))->Int->Option (Bool):=
  fun rec x=>zdL l (fun t=>rec t) x
def zjm (l:Tp12) (t:Int):Option (Bool):=LFix (znl l ) t
def zkE (l:Tp12):Option (Bool):=
  zjm l (0:Int)
theorem zp1 (r2:Nat->Int->Option (Bool)) (r2':Int->Option (Bool)) (h_r2:∀ a0,ChO (fun κ=>r2 κ a0) (r2' a0)) (l:Tp12) (t:Int):ChO (fun κ=>zdL l (r2 κ) t) (zdL l r2' t):=by
  unfold zdL
  repeat' with_reducible first | exact ChO.const _ | exact h_r2 _ | apply ChO.ite | apply ChO.G | apply ChO.both | (apply ChO.bind;intro _)
theorem zq2  (l:Tp12):Cn (znl l):=fun g h hg x=>zp1  (fun κ t=>g κ t) (fun t=>h t) (fun t=>hg t) l x
theorem zmA  (l:Tp12) (t:Int):zjm l t=zdL l (zjm l) t:=zam (zq2 l) t

def zlS (x':Int):Option (Bool):=
  some (decide (¬ x'=x'))

def zke (x':Int) (y':Int):Option (Int):=
  (zlS x').bind (fun y'_1=>
  (zlS y').bind (fun y'_2=>
  if y'_1=true then
  if y'_2=true then
  some (0:Int) else
  some (-1:Int) else
  if y'_2=true then
  some (1:Int) else
  if (decide (x' < y'))=true then
  some (-1:Int) else
  if (decide (y' < x'))=true then
  some (1:Int) else
  some (0:Int)))

def zgI (vals:Tp12) (r3:Int->Option (Int)) (t:Int):Option (Int):=
  if (decide (t < (vals.length:Int)))=true then
  G (0<=t/\t < (vals.length:Int)) (
  if (decide (¬ (ix vals t)=(0:Int)))=true then
  some (ix vals t) else
  G (fits (t+(1:Int))) (
  r3 (t+(1:Int)))) else
  some (0:Int)
def zt5 (vals:Tp12):(Int->Option (Int))->Int->Option (Int):=
  fun rec x=>zgI vals (fun t=>rec t) x
def zt4 (vals:Tp12) (t:Int):Option (Int):=LFix (zt5 vals ) t
def zzk (vals:Tp12):Option (Int):=
  zt4 vals (0:Int)
theorem zvd (r3:Nat->Int->Option (Int)) (r3':Int->Option (Int)) (h_r3:∀ a0,ChO (fun κ=>r3 κ a0) (r3' a0)) (vals:Tp12) (t:Int):ChO (fun κ=>zgI vals (r3 κ) t) (zgI vals r3' t):=by
  unfold zgI
  repeat' with_reducible first | exact ChO.const _ | exact h_r3 _ | apply ChO.ite | apply ChO.G | apply ChO.both | (apply ChO.bind;intro _)
theorem zxi  (vals:Tp12):Cn (zt5 vals):=fun g h hg x=>zvd  (fun κ t=>g κ t) (fun t=>h t) (fun t=>hg t) vals x
theorem zmD  (vals:Tp12) (t:Int):zt4 vals t=zgI vals (zt4 vals) t:=zam (zxi vals) t

def zb8 (x':Tp10) (y':Tp10):Option (Int):=
  (zke x'.1 y'.1).bind (fun y'_1=>
  (zke x'.2.1 y'.2.1).bind (fun y'_2=>
  (zke x'.2.2.1 y'.2.2.1).bind (fun y'_3=>
  (zzk ([y'_1,y'_2,y'_3])).bind (fun y'_4=>
  some y'_4))))

def zcS (a:Tp3) (r11:Int->Option (Int)) (t:Int):Option (Int):=
  if (decide (t < (a.2.2.2.1.length:Int)))=true then
  if (decide ((0:Int) < t))=true then
  G (fits (t - (1:Int))) (
  G (0<=t - (1:Int)/\t - (1:Int) < (a.2.2.2.1.length:Int)) (
  G (0<=t/\t < (a.2.2.2.1.length:Int)) (
  (zb8 (ix a.2.2.2.1 (t - (1:Int))) (ix a.2.2.2.1 t)).bind (fun y'_7=>
  if (decide ((0:Int)<=y'_7))=true then
  some (3:Int) else
  G (fits (t+(1:Int))) (
  r11 (t+(1:Int))))))) else
  G (fits (t+(1:Int))) (
  r11 (t+(1:Int))) else
  some (0:Int)
def znj (a:Tp3):(Int->Option (Int))->Int->Option (Int):=
  fun rec x=>zcS a (fun t=>rec t) x
def zlM (a:Tp3) (t:Int):Option (Int):=LFix (znj a ) t
def zkc (a:Tp3):Option (Int):=
  if (decide (a.1 < (1:Int)))=true then
  some (2:Int) else
  if (decide ((4:Int) < a.1))=true then
  some (2:Int) else
  if (decide (a.2.1 < (1:Int)))=true then
  some (1:Int) else
  if (decide ((300:Int) < a.2.1))=true then
  some (1:Int) else
  if (decide ((40000:Int) < (a.2.2.2.1.length:Int)))=true then
  some (1:Int) else
  (zgQ a.2.2.1 (a.1,(a.2.1,(a.2.2.1,(a.2.2.2.1,(a.2.2.2.2.1,())))))).bind (fun y'=>
  if y'=true then
  some (2:Int) else
  (zgQ a.2.2.2.2.1 (a.1,(a.2.1,(a.2.2.1,(a.2.2.2.1,(a.2.2.2.2.1,())))))).bind (fun y'_1=>
  if y'_1=true then
  some (2:Int) else
  (zhN a.2.2.2.1 (a.1,(a.2.1,(a.2.2.1,(a.2.2.2.1,(a.2.2.2.2.1,()))))) (a.1,(a.2.1,(a.2.2.1,(a.2.2.2.1,(a.2.2.2.2.1,())))))).bind (fun y'_8=>
  if y'_8.1=true then
  some (2:Int) else
  (zkE a.2.2.1).bind (fun y'_5=>
  if (!y'_5)=true then
  some (3:Int) else
  (zkE a.2.2.2.2.1).bind (fun y'_6=>
  if (!y'_6)=true then
  some (3:Int) else
  zlM a (0:Int))))))
theorem zpZ (r11:Nat->Int->Option (Int)) (r11':Int->Option (Int)) (h_r11:∀ a0,ChO (fun κ=>r11 κ a0) (r11' a0)) (a:Tp3) (t:Int):ChO (fun κ=>zcS a (r11 κ) t) (zcS a r11' t):=by
  unfold zcS
  repeat' with_reducible first | exact ChO.const _ | exact h_r11 _ | apply ChO.ite | apply ChO.G | apply ChO.both | (apply ChO.bind;intro _)
theorem zq0  (a:Tp3):Cn (znj a):=fun g h hg x=>zpZ  (fun κ t=>g κ t) (fun t=>h t) (fun t=>hg t) a x
theorem zjk  (a:Tp3) (t:Int):zlM a t=zcS a (zlM a) t:=zam (zq0 a) t

def zeM (a:Tp3) (b:Tp3) (r2:Int->Option (Int)) (t:Int):Option (Int):=
  if (decide (t < (([(a.1,(a.2.1,(a.2.2.1,(a.2.2.2.1,(a.2.2.2.2.1,()))))),(b.1,(b.2.1,(b.2.2.1,(b.2.2.2.1,(b.2.2.2.2.1,())))))]).length:Int)))=true then
  G (0<=t/\t < (([(a.1,(a.2.1,(a.2.2.1,(a.2.2.2.1,(a.2.2.2.2.1,()))))),(b.1,(b.2.1,(b.2.2.1,(b.2.2.2.1,(b.2.2.2.2.1,())))))]).length:Int)) (
  G ((t).toNat < ([(a.1,(a.2.1,(a.2.2.1,(a.2.2.2.1,(a.2.2.2.2.1,()))))),(b.1,(b.2.1,(b.2.2.1,(b.2.2.2.1,(b.2.2.2.2.1,())))))]).length) (
  (zkc ((ix ([(a.1,(a.2.1,(a.2.2.1,(a.2.2.2.1,(a.2.2.2.2.1,()))))),(b.1,(b.2.1,(b.2.2.1,(b.2.2.2.1,(b.2.2.2.2.1,())))))]) t).1,(((ix ([(a.1,(a.2.1,(a.2.2.1,(a.2.2.2.1,(a.2.2.2.2.1,()))))),(b.1,(b.2.1,(b.2.2.1,(b.2.2.2.1,(b.2.2.2.2.1,())))))]) t).2).1,((((ix ([(a.1,(a.2.1,(a.2.2.1,(a.2.2.2.1,(a.2.2.2.2.1,()))))),(b.1,(b.2.1,(b.2.2.1,(b.2.2.2.1,(b.2.2.2.2.1,())))))]) t).2).2).1,(((((ix ([(a.1,(a.2.1,(a.2.2.1,(a.2.2.2.1,(a.2.2.2.2.1,()))))),(b.1,(b.2.1,(b.2.2.1,(b.2.2.2.1,(b.2.2.2.2.1,())))))]) t).2).2).2).1,((((((ix ([(a.1,(a.2.1,(a.2.2.1,(a.2.2.2.1,(a.2.2.2.2.1,()))))),(b.1,(b.2.1,(b.2.2.1,(b.2.2.2.1,(b.2.2.2.2.1,())))))]) t).2).2).2).2).1,())))))).bind (fun y'=>
  if (decide (¬ y'=(0:Int)))=true then
  some y' else
  G (fits (t+(1:Int))) (
  r2 (t+(1:Int)))))) else
  if (decide (¬ a.1=b.1))=true then
  some (3:Int) else
  if (decide ((8:Int) < a.2.1))=true then
  some (1:Int) else
  if (decide ((8:Int) < b.2.1))=true then
  some (1:Int) else
  some (0:Int)
def zqe (a:Tp3) (b:Tp3):(Int->Option (Int))->Int->Option (Int):=
  fun rec x=>zeM a b (fun t=>rec t) x
def zpd (a:Tp3) (b:Tp3) (t:Int):Option (Int):=LFix (zqe a b ) t
def zjn (a:Tp3) (b:Tp3):Option (Int):=
  zpd a b (0:Int)
theorem zr4 (r2:Nat->Int->Option (Int)) (r2':Int->Option (Int)) (h_r2:∀ a0,ChO (fun κ=>r2 κ a0) (r2' a0)) (a:Tp3) (b:Tp3) (t:Int):ChO (fun κ=>zeM a b (r2 κ) t) (zeM a b r2' t):=by
  unfold zeM
  repeat' with_reducible first | exact ChO.const _ | exact h_r2 _ | apply ChO.ite | apply ChO.G | apply ChO.both | (apply ChO.bind;intro _)
theorem ztY  (a:Tp3) (b:Tp3):Cn (zqe a b):=fun g h hg x=>zr4  (fun κ t=>g κ t) (fun t=>h t) (fun t=>hg t) a b x
theorem zlQ  (a:Tp3) (b:Tp3) (t:Int):zpd a b t=zeM a b (zpd a b) t:=zam (ztY a b) t

def zgs (s:Tp12):Option Tp12:=
  if s.length=0 then both [(.list (.int .i64))] (
  some ([])) (
  G (room ([]:List Int) s 8) (
  some (([]:List Int)++s))) else
  G (room ([]:List Int) s 8) (
  some (([]:List Int)++s))

def zfI (s:Tp8):Option Tp8:=
  if s.length=0 then both [Tc5] (
  some ([])) (
  G (room ([]:List Tp10) s 24) (
  some (([]:List Tp10)++s))) else
  G (room ([]:List Tp10) s 24) (
  some (([]:List Tp10)++s))

def zln (x'_3:Int) (n_2:Int):Option (Int):=
  G (0<=IntKind.wrap .u8 x'_3/\IntKind.wrap .u8 x'_3 < (([0,1,2,2,3,3,3,3,4,4,4,4,4,4,4,4,5,5,5,5,5,5,5,5,5,5,5,5,5,5,5,5,6,6,6,6,6,6,6,6,6,6,6,6,6,6,6,6,6,6,6,6,6,6,6,6,6,6,6,6,6,6,6,6,7,7,7,7,7,7,7,7,7,7,7,7,7,7,7,7,7,7,7,7,7,7,7,7,7,7,7,7,7,7,7,7,7,7,7,7,7,7,7,7,7,7,7,7,7,7,7,7,7,7,7,7,7,7,7,7,7,7,7,7,7,7,7,7,8,8,8,8,8,8,8,8,8,8,8,8,8,8,8,8,8,8,8,8,8,8,8,8,8,8,8,8,8,8,8,8,8,8,8,8,8,8,8,8,8,8,8,8,8,8,8,8,8,8,8,8,8,8,8,8,8,8,8,8,8,8,8,8,8,8,8,8,8,8,8,8,8,8,8,8,8,8,8,8,8,8,8,8,8,8,8,8,8,8,8,8,8,8,8,8,8,8,8,8,8,8,8,8,8,8,8,8,8,8,8,8,8,8,8,8,8,8,8,8,8,8,8,8,8,8,8,8]).length:Int)) (
  G (fits (n_2+(IntKind.wrap .i64 (bAt ([0,1,2,2,3,3,3,3,4,4,4,4,4,4,4,4,5,5,5,5,5,5,5,5,5,5,5,5,5,5,5,5,6,6,6,6,6,6,6,6,6,6,6,6,6,6,6,6,6,6,6,6,6,6,6,6,6,6,6,6,6,6,6,6,7,7,7,7,7,7,7,7,7,7,7,7,7,7,7,7,7,7,7,7,7,7,7,7,7,7,7,7,7,7,7,7,7,7,7,7,7,7,7,7,7,7,7,7,7,7,7,7,7,7,7,7,7,7,7,7,7,7,7,7,7,7,7,7,8,8,8,8,8,8,8,8,8,8,8,8,8,8,8,8,8,8,8,8,8,8,8,8,8,8,8,8,8,8,8,8,8,8,8,8,8,8,8,8,8,8,8,8,8,8,8,8,8,8,8,8,8,8,8,8,8,8,8,8,8,8,8,8,8,8,8,8,8,8,8,8,8,8,8,8,8,8,8,8,8,8,8,8,8,8,8,8,8,8,8,8,8,8,8,8,8,8,8,8,8,8,8,8,8,8,8,8,8,8,8,8,8,8,8,8,8,8,8,8,8,8,8,8,8,8,8,8]) (IntKind.wrap .u8 x'_3))))) (
  some (n_2+(IntKind.wrap .i64 (bAt ([0,1,2,2,3,3,3,3,4,4,4,4,4,4,4,4,5,5,5,5,5,5,5,5,5,5,5,5,5,5,5,5,6,6,6,6,6,6,6,6,6,6,6,6,6,6,6,6,6,6,6,6,6,6,6,6,6,6,6,6,6,6,6,6,7,7,7,7,7,7,7,7,7,7,7,7,7,7,7,7,7,7,7,7,7,7,7,7,7,7,7,7,7,7,7,7,7,7,7,7,7,7,7,7,7,7,7,7,7,7,7,7,7,7,7,7,7,7,7,7,7,7,7,7,7,7,7,7,8,8,8,8,8,8,8,8,8,8,8,8,8,8,8,8,8,8,8,8,8,8,8,8,8,8,8,8,8,8,8,8,8,8,8,8,8,8,8,8,8,8,8,8,8,8,8,8,8,8,8,8,8,8,8,8,8,8,8,8,8,8,8,8,8,8,8,8,8,8,8,8,8,8,8,8,8,8,8,8,8,8,8,8,8,8,8,8,8,8,8,8,8,8,8,8,8,8,8,8,8,8,8,8,8,8,8,8,8,8,8,8,8,8,8,8,8,8,8,8,8,8,8,8,8,8,8,8]) (IntKind.wrap .u8 x'_3))))))
def zlm (x'_2:Int) (n_1:Int):Option (Int):=
  if (decide ((256:Int)<=x'_2))=true then
  G (0<=(8:Int)) (
  G (fits (n_1+(8:Int))) (
  zln (ishr .u64 x'_2 (8:Int)) (n_1+(8:Int)))) else
  zln x'_2 n_1
def zll (x'_1:Int) (n:Int):Option (Int):=
  if (decide ((65536:Int)<=x'_1))=true then
  G (0<=(16:Int)) (
  G (fits (n+(16:Int))) (
  zlm (ishr .u64 x'_1 (16:Int)) (n+(16:Int)))) else
  zlm x'_1 n
def zr0 (x':Int):Option (Int):=
  if (decide ((4294967296:Int)<=x'))=true then
  G (0<=(32:Int)) (
  zll (ishr .u64 x' (32:Int)) (32:Int)) else
  zll x' (0:Int)

def zpN (x':Int):Option (Int):=
  (zr0 x').bind (fun y'=>
  some y')

def zfm (x':Int) (y':Int):Option (Bool):=
  (zlS x').bind (fun y'_1=>
  if y'_1=true then
  (zlS y').bind (fun y'_2=>
  if (!y'_2)=true then
  some true else
  some (decide (x' < y'))) else
  some (decide (x' < y')))

def zaT (a:Int) (i:Int) (r1:(Int->Tp12->Option Tp12)) (r4:Int->Tp12->Option Tp12) (j:Int) (data_2:Tp12):Option Tp12:=
  if (decide (a < j))=true then
  G (0<=j/\j < (data_2.length:Int)) (
  G ((j).toNat < data_2.length) (
  G (fits (j - (1:Int))) (
  G (0<=j - (1:Int)/\j - (1:Int) < (data_2.length:Int)) (
  G ((j - (1:Int)).toNat < data_2.length) (
  (zfm (ix data_2 j) (ix data_2 (j - (1:Int)))).bind (fun y'=>
  if y'=true then
  G (fits (j - (1:Int))) (
  G (fits (j - (1:Int))) (
  G (0<=j - (1:Int)/\j - (1:Int) < (data_2.length:Int)) (
  G ((j - (1:Int)).toNat < data_2.length) (
  G (0<=j/\j < (data_2.length:Int)) (
  G ((j).toNat < data_2.length) (
  G (0<=j/\j < (data_2.length:Int)) (
  G ((j).toNat < data_2.length) (
  G (0<=j - (1:Int)/\j - (1:Int) < ((data_2.set (j).toNat (ix data_2 (j - (1:Int)))).length:Int)) (
  G ((j - (1:Int)).toNat < (data_2.set (j).toNat (ix data_2 (j - (1:Int)))).length) (
  G (fits (j - (1:Int))) (
  r4 (j - (1:Int)) ((data_2.set (j).toNat (ix data_2 (j - (1:Int)))).set (j - (1:Int)).toNat (ix data_2 j))))))))))))) else
  G (fits (i+(1:Int))) (
  r1 (i+(1:Int)) data_2))))))) else
  G (fits (i+(1:Int))) (
  r1 (i+(1:Int)) data_2)
def zfP (a:Int) (i:Int) (r1:(Int->Tp12->Option Tp12)):(Int×Tp12->Option Tp12)->Int×Tp12->Option Tp12:=
  fun rec x=>zaT a i r1 (fun j data_2=>rec (j,data_2)) x.1 x.2
def zbb (a:Int) (i:Int) (r1:(Int->Tp12->Option Tp12)) (j:Int) (data_2:Tp12):Option Tp12:=LFix (zfP a i r1 ) (j,data_2)
def zaS (a:Int) (b:Int) (r1:Int->Tp12->Option Tp12) (i:Int) (data_1:Tp12):Option Tp12:=
  if (decide (i < b))=true then
  zbb a i r1 i data_1 else
  some data_1
def zfO (a:Int) (b:Int):(Int×Tp12->Option Tp12)->Int×Tp12->Option Tp12:=
  fun rec x=>zaS a b (fun i data_1=>rec (i,data_1)) x.1 x.2
def zcE (a:Int) (b:Int) (i:Int) (data_1:Tp12):Option Tp12:=LFix (zfO a b ) (i,data_1)
def zde (a:Int) (b:Int) (data:Tp12):Option Tp12:=
  G (fits (a+(1:Int))) (
  zcE a b (a+(1:Int)) data)
theorem ze7 (r1:Nat->Int->Tp12->Option Tp12) (r1':Int->Tp12->Option Tp12) (h_r1:∀ a0 a1,ChO (fun κ=>r1 κ a0 a1) (r1' a0 a1)) (r4:Nat->Int->Tp12->Option Tp12) (r4':Int->Tp12->Option Tp12) (h_r4:∀ a0 a1,ChO (fun κ=>r4 κ a0 a1) (r4' a0 a1)) (a:Int) (i:Int) (j:Int) (data_2:Tp12):ChO (fun κ=>zaT a i (r1 κ) (r4 κ) j data_2) (zaT a i r1' r4' j data_2):=by
  unfold zaT
  repeat' with_reducible first | exact ChO.const _ | exact h_r1 _ _ | exact h_r4 _ _ | apply ChO.ite | apply ChO.G | apply ChO.both | (apply ChO.bind;intro _)
theorem zdf (r1:Int->Tp12->Option Tp12) (a:Int) (i:Int):Cn (zfP a i r1):=fun g h hg x=>ze7 (fun _=>r1) r1 (fun _ _=>ChO.const _) (fun κ j data_2=>g κ (j,data_2)) (fun j data_2=>h (j,data_2)) (fun j data_2=>hg (j,data_2)) a i x.1 x.2
theorem zfw (r1:Int->Tp12->Option Tp12) (a:Int) (i:Int) (j:Int) (data_2:Tp12):zbb a i r1 j data_2=zaT a i r1 (zbb a i r1) j data_2:=zam (zdf r1 a i) (j,data_2)
theorem zjN (r1:Nat->Int->Tp12->Option Tp12) (r1':Int->Tp12->Option Tp12) (h_r1:∀ a0 a1,ChO (fun κ=>r1 κ a0 a1) (r1' a0 a1)) (a:Int) (i:Int) (j:Int) (data_2:Tp12):ChO (fun κ=>zbb a i (r1 κ) j data_2) (zbb a i r1' j data_2):=by
  unfold zbb
  exact zdI (fun κ=>(zdf (r1 κ) a i).mono) (zdf r1' a i).mono (fun g h hg x=>ze7 r1 r1' h_r1 (fun κ j data_2=>g κ (j,data_2)) (fun j data_2=>h (j,data_2)) (fun j data_2=>hg (j,data_2)) a i x.1 x.2) _
theorem ziQ (r1:Nat->Int->Tp12->Option Tp12) (r1':Int->Tp12->Option Tp12) (h_r1:∀ a0 a1,ChO (fun κ=>r1 κ a0 a1) (r1' a0 a1)) (a:Int) (b:Int) (i:Int) (data_1:Tp12):ChO (fun κ=>zaS a b (r1 κ) i data_1) (zaS a b r1' i data_1):=by
  unfold zaS
  repeat' with_reducible first | exact ChO.const _ | exact h_r1 _ _ | (apply zjN<;>assumption) | apply ChO.ite | apply ChO.G | apply ChO.both | (apply ChO.bind;intro _)
theorem zjM  (a:Int) (b:Int):Cn (zfO a b):=fun g h hg x=>ziQ  (fun κ i data_1=>g κ (i,data_1)) (fun i data_1=>h (i,data_1)) (fun i data_1=>hg (i,data_1)) a b x.1 x.2
theorem zfv  (a:Int) (b:Int) (i:Int) (data_1:Tp12):zcE a b i data_1=zaS a b (zcE a b) i data_1:=zam (zjM a b) (i,data_1)

def zbU (first:Int) (root:Int) (data_1:Tp12) (r1:(Int->Tp12->Option Tp12)) (child:Int):Option Tp12:=
  G (fits (first+root)) (
  G (0<=first+root/\first+root < (data_1.length:Int)) (
  G ((first+root).toNat < data_1.length) (
  G (fits (first+child)) (
  G (0<=first+child/\first+child < (data_1.length:Int)) (
  G ((first+child).toNat < data_1.length) (
  (zfm (ix data_1 (first+root)) (ix data_1 (first+child))).bind (fun y'_1=>
  if (!y'_1)=true then
  some data_1 else
  G (fits (first+root)) (
  G (fits (first+child)) (
  G (fits (first+child)) (
  G (0<=first+child/\first+child < (data_1.length:Int)) (
  G ((first+child).toNat < data_1.length) (
  G (fits (first+root)) (
  G (0<=first+root/\first+root < (data_1.length:Int)) (
  G ((first+root).toNat < data_1.length) (
  G (0<=first+root/\first+root < (data_1.length:Int)) (
  G ((first+root).toNat < data_1.length) (
  G (0<=first+child/\first+child < ((data_1.set (first+root).toNat (ix data_1 (first+child))).length:Int)) (
  G ((first+child).toNat < (data_1.set (first+root).toNat (ix data_1 (first+child))).length) (
  r1 child ((data_1.set (first+root).toNat (ix data_1 (first+child))).set (first+child).toNat (ix data_1 (first+root))))))))))))))))))))))
def zbT (first:Int) (root:Int) (data_1:Tp12) (r1:(Int->Tp12->Option Tp12)) (t:Bool):Option Tp12:=
  if t=true then
  G (fits ((((2:Int) * root)+(1:Int))+(1:Int))) (
  zbU first root data_1 r1 ((((2:Int) * root)+(1:Int))+(1:Int))) else
  zbU first root data_1 r1 (((2:Int) * root)+(1:Int))
def zbC (hi:Int) (first:Int) (r1:Int->Tp12->Option Tp12) (root:Int) (data_1:Tp12):Option Tp12:=
  G (fits ((2:Int) * root)) (
  G (fits (((2:Int) * root)+(1:Int))) (
  if (decide (hi<=(((2:Int) * root)+(1:Int))))=true then
  some data_1 else
  G (fits ((((2:Int) * root)+(1:Int))+(1:Int))) (
  if (decide (((((2:Int) * root)+(1:Int))+(1:Int)) < hi))=true then
  G (fits (first+(((2:Int) * root)+(1:Int)))) (
  G (0<=first+(((2:Int) * root)+(1:Int))/\first+(((2:Int) * root)+(1:Int)) < (data_1.length:Int)) (
  G ((first+(((2:Int) * root)+(1:Int))).toNat < data_1.length) (
  G (fits (first+(((2:Int) * root)+(1:Int)))) (
  G (fits ((first+(((2:Int) * root)+(1:Int)))+(1:Int))) (
  G (0<=(first+(((2:Int) * root)+(1:Int)))+(1:Int)/\(first+(((2:Int) * root)+(1:Int)))+(1:Int) < (data_1.length:Int)) (
  G (((first+(((2:Int) * root)+(1:Int)))+(1:Int)).toNat < data_1.length) (
  (zfm (ix data_1 (first+(((2:Int) * root)+(1:Int)))) (ix data_1 ((first+(((2:Int) * root)+(1:Int)))+(1:Int)))).bind (fun y'=>
  zbT first root data_1 r1 y')))))))) else
  zbT first root data_1 r1 false)))
def zhZ (hi:Int) (first:Int):(Int×Tp12->Option Tp12)->Int×Tp12->Option Tp12:=
  fun rec x=>zbC hi first (fun root data_1=>rec (root,data_1)) x.1 x.2
def zce (hi:Int) (first:Int) (root:Int) (data_1:Tp12):Option Tp12:=LFix (zhZ hi first ) (root,data_1)
def zdH (lo:Int) (hi:Int) (first:Int) (data:Tp12):Option Tp12:=
  zce hi first lo data
theorem zhx (r1:Nat->Int->Tp12->Option Tp12) (r1':Int->Tp12->Option Tp12) (h_r1:∀ a0 a1,ChO (fun κ=>r1 κ a0 a1) (r1' a0 a1)) (first:Int) (root:Int) (data_1:Tp12) (child:Int):ChO (fun κ=>zbU first root data_1 (r1 κ) child) (zbU first root data_1 r1' child):=by
  unfold zbU
  repeat' with_reducible first | exact ChO.const _ | exact h_r1 _ _ | apply ChO.ite | apply ChO.G | apply ChO.both | (apply ChO.bind;intro _)
theorem zlB (r1:Nat->Int->Tp12->Option Tp12) (r1':Int->Tp12->Option Tp12) (h_r1:∀ a0 a1,ChO (fun κ=>r1 κ a0 a1) (r1' a0 a1)) (first:Int) (root:Int) (data_1:Tp12) (t:Bool):ChO (fun κ=>zbT first root data_1 (r1 κ) t) (zbT first root data_1 r1' t):=by
  unfold zbT
  repeat' with_reducible first | exact ChO.const _ | exact h_r1 _ _ | (apply zhx<;>assumption) | apply ChO.ite | apply ChO.G | apply ChO.both | (apply ChO.bind;intro _)
theorem zk1 (r1:Nat->Int->Tp12->Option Tp12) (r1':Int->Tp12->Option Tp12) (h_r1:∀ a0 a1,ChO (fun κ=>r1 κ a0 a1) (r1' a0 a1)) (hi:Int) (first:Int) (root:Int) (data_1:Tp12):ChO (fun κ=>zbC hi first (r1 κ) root data_1) (zbC hi first r1' root data_1):=by
  unfold zbC
  repeat' with_reducible first | exact ChO.const _ | exact h_r1 _ _ | (apply zhx<;>assumption) | (apply zlB<;>assumption) | apply ChO.ite | apply ChO.G | apply ChO.both | (apply ChO.bind;intro _)
theorem zlC  (hi:Int) (first:Int):Cn (zhZ hi first):=fun g h hg x=>zk1  (fun κ root data_1=>g κ (root,data_1)) (fun root data_1=>h (root,data_1)) (fun root data_1=>hg (root,data_1)) hi first x.1 x.2
theorem zhy  (hi:Int) (first:Int) (root:Int) (data_1:Tp12):zce hi first root data_1=zbC hi first (zce hi first) root data_1:=zam (zlC hi first) (root,data_1)

def zbs (a:Int) (r8:Int->Tp12->Option Tp12) (i_1:Int) (data_2:Tp12):Option Tp12:=
  if (decide ((0:Int)<=i_1))=true then
  G (fits (a+i_1)) (
  G (fits (a+i_1)) (
  G (0<=a+i_1/\a+i_1 < (data_2.length:Int)) (
  G ((a+i_1).toNat < data_2.length) (
  G (0<=a/\a < (data_2.length:Int)) (
  G ((a).toNat < data_2.length) (
  G (0<=a/\a < (data_2.length:Int)) (
  G ((a).toNat < data_2.length) (
  G (0<=a+i_1/\a+i_1 < ((data_2.set (a).toNat (ix data_2 (a+i_1))).length:Int)) (
  G ((a+i_1).toNat < (data_2.set (a).toNat (ix data_2 (a+i_1))).length) (
  (zdH (0:Int) i_1 a ((data_2.set (a).toNat (ix data_2 (a+i_1))).set (a+i_1).toNat (ix data_2 a))).bind (fun y'_1=>
  G (fits (i_1 - (1:Int))) (
  r8 (i_1 - (1:Int)) y'_1)))))))))))) else
  some data_2
def zhR (a:Int):(Int×Tp12->Option Tp12)->Int×Tp12->Option Tp12:=
  fun rec x=>zbs a (fun i_1 data_2=>rec (i_1,data_2)) x.1 x.2
def zd7 (a:Int) (i_1:Int) (data_2:Tp12):Option Tp12:=LFix (zhR a ) (i_1,data_2)
def zbr (a:Int) (b:Int) (r4:Int->Tp12->Option Tp12) (i:Int) (data_1:Tp12):Option Tp12:=
  if (decide ((0:Int)<=i))=true then
  (zdH i (b - a) a data_1).bind (fun y'=>
  G (fits (i - (1:Int))) (
  r4 (i - (1:Int)) y')) else
  G (fits ((b - a) - (1:Int))) (
  zd7 a ((b - a) - (1:Int)) data_1)
def zhQ (a:Int) (b:Int):(Int×Tp12->Option Tp12)->Int×Tp12->Option Tp12:=
  fun rec x=>zbr a b (fun i data_1=>rec (i,data_1)) x.1 x.2
def zd6 (a:Int) (b:Int) (i:Int) (data_1:Tp12):Option Tp12:=LFix (zhQ a b ) (i,data_1)
def zfb (a:Int) (b:Int) (data:Tp12):Option Tp12:=
  G (fits (b - a)) (
  G (fits ((b - a) - (1:Int))) (
  G ((2:Int)≠0) (
  G (fits (Int.tdiv ((b - a) - (1:Int)) (2:Int))) (
  zd6 a b (Int.tdiv ((b - a) - (1:Int)) (2:Int)) data))))
theorem zkX (r8:Nat->Int->Tp12->Option Tp12) (r8':Int->Tp12->Option Tp12) (h_r8:∀ a0 a1,ChO (fun κ=>r8 κ a0 a1) (r8' a0 a1)) (a:Int) (i_1:Int) (data_2:Tp12):ChO (fun κ=>zbs a (r8 κ) i_1 data_2) (zbs a r8' i_1 data_2):=by
  unfold zbs
  repeat' with_reducible first | exact ChO.const _ | exact h_r8 _ _ | apply ChO.ite | apply ChO.G | apply ChO.both | (apply ChO.bind;intro _)
theorem zly  (a:Int):Cn (zhR a):=fun g h hg x=>zkX  (fun κ i_1 data_2=>g κ (i_1,data_2)) (fun i_1 data_2=>h (i_1,data_2)) (fun i_1 data_2=>hg (i_1,data_2)) a x.1 x.2
theorem zhq  (a:Int) (i_1:Int) (data_2:Tp12):zd7 a i_1 data_2=zbs a (zd7 a) i_1 data_2:=zam (zly a) (i_1,data_2)
theorem zkW (r4:Nat->Int->Tp12->Option Tp12) (r4':Int->Tp12->Option Tp12) (h_r4:∀ a0 a1,ChO (fun κ=>r4 κ a0 a1) (r4' a0 a1)) (a:Int) (b:Int) (i:Int) (data_1:Tp12):ChO (fun κ=>zbr a b (r4 κ) i data_1) (zbr a b r4' i data_1):=by
  unfold zbr
  repeat' with_reducible first | exact ChO.const _ | exact h_r4 _ _ | apply ChO.ite | apply ChO.G | apply ChO.both | (apply ChO.bind;intro _)
theorem zlx  (a:Int) (b:Int):Cn (zhQ a b):=fun g h hg x=>zkW  (fun κ i data_1=>g κ (i,data_1)) (fun i data_1=>h (i,data_1)) (fun i data_1=>hg (i,data_1)) a b x.1 x.2
theorem zhp  (a:Int) (b:Int) (i:Int) (data_1:Tp12):zd6 a b i data_1=zbr a b (zd6 a b) i data_1:=zam (zlx a b) (i,data_1)

def zea (length:Int):Option (Int):=
  (zpN (IntKind.wrap .u64 length)).bind (fun y'=>
  G (0<=y') (
  some (ishl .u64 (1:Int) y')))

def zeD (c:Int):Option (Int×Int):=
  G (0<=(13:Int)) (
  G (0<=(7:Int)) (
  G (0<=(17:Int)) (
  some (ixor .u64 (ixor .u64 (ixor .u64 c (ishl .u64 c (13:Int))) (ishr .u64 (ixor .u64 c (ishl .u64 c (13:Int))) (7:Int))) (ishl .u64 (ixor .u64 (ixor .u64 c (ishl .u64 c (13:Int))) (ishr .u64 (ixor .u64 c (ishl .u64 c (13:Int))) (7:Int))) (17:Int)),ixor .u64 (ixor .u64 (ixor .u64 c (ishl .u64 c (13:Int))) (ishr .u64 (ixor .u64 c (ishl .u64 c (13:Int))) (7:Int))) (ishl .u64 (ixor .u64 (ixor .u64 c (ishl .u64 c (13:Int))) (ishr .u64 (ixor .u64 c (ishl .u64 c (13:Int))) (7:Int))) (17:Int))))))

def za9 (a:Int) (idx:Int) (data_1:Tp12) (r5:(Int->Tp12->Int->Option Tp12)) (y'_2:Int) (other:Int):Option Tp12:=
  G (fits (a+other)) (
  G (fits (a+other)) (
  G (0<=a+other/\a+other < (data_1.length:Int)) (
  G ((a+other).toNat < data_1.length) (
  G (0<=idx/\idx < (data_1.length:Int)) (
  G ((idx).toNat < data_1.length) (
  G (0<=idx/\idx < (data_1.length:Int)) (
  G ((idx).toNat < data_1.length) (
  G (0<=a+other/\a+other < ((data_1.set (idx).toNat (ix data_1 (a+other))).length:Int)) (
  G ((a+other).toNat < (data_1.set (idx).toNat (ix data_1 (a+other))).length) (
  G (fits (idx+(1:Int))) (
  r5 (idx+(1:Int)) ((data_1.set (idx).toNat (ix data_1 (a+other))).set (a+other).toNat (ix data_1 idx)) y'_2)))))))))))
def zaP (a:Int) (b:Int) (y':Int) (r5:Tf12) (idx:Int) (data_1:Tp12) (random:Int):Option Tp12:=
  G ((4:Int)≠0) (
  G (fits (Int.tdiv (b - a) (4:Int))) (
  G (fits ((Int.tdiv (b - a) (4:Int)) * (2:Int))) (
  G (fits (a+((Int.tdiv (b - a) (4:Int)) * (2:Int)))) (
  G (fits ((a+((Int.tdiv (b - a) (4:Int)) * (2:Int)))+(1:Int))) (
  if (decide (idx<=((a+((Int.tdiv (b - a) (4:Int)) * (2:Int)))+(1:Int))))=true then
  (zeD random).bind (fun y'_4=>
  if (decide ((b - a)<=(IntKind.wrap .i64 (iand .u64 y'_4.1 (IntKind.wrap .u64 (y' - (1:Int)))))))=true then
  G (fits ((IntKind.wrap .i64 (iand .u64 y'_4.1 (IntKind.wrap .u64 (y' - (1:Int))))) - (b - a))) (
  za9 a idx data_1 r5 y'_4.2 ((IntKind.wrap .i64 (iand .u64 y'_4.1 (IntKind.wrap .u64 (y' - (1:Int))))) - (b - a))) else
  za9 a idx data_1 r5 y'_4.2 (IntKind.wrap .i64 (iand .u64 y'_4.1 (IntKind.wrap .u64 (y' - (1:Int)))))) else
  some data_1)))))
def zfL (a:Int) (b:Int) (y':Int):(Int×Tp12×Int->Option Tp12)->Int×Tp12×Int->Option Tp12:=
  fun rec x=>zaP a b y' (fun idx data_1 random=>rec (idx,data_1,random)) x.1 x.2.1 x.2.2
def zb3 (a:Int) (b:Int) (y':Int) (idx:Int) (data_1:Tp12) (random:Int):Option Tp12:=LFix (zfL a b y' ) (idx,data_1,random)
def zdb (a:Int) (b:Int) (data:Tp12):Option Tp12:=
  G (fits (b - a)) (
  if (decide ((8:Int)<=(b - a)))=true then
  (zea (b - a)).bind (fun y'=>
  G ((4:Int)≠0) (
  G (fits (Int.tdiv (b - a) (4:Int))) (
  G (fits ((Int.tdiv (b - a) (4:Int)) * (2:Int))) (
  G (fits (a+((Int.tdiv (b - a) (4:Int)) * (2:Int)))) (
  G (fits ((a+((Int.tdiv (b - a) (4:Int)) * (2:Int))) - (1:Int))) (
  zb3 a b y' ((a+((Int.tdiv (b - a) (4:Int)) * (2:Int))) - (1:Int)) data (IntKind.wrap .u64 (b - a)))))))) else
  some data)
theorem zjI (r5:Nat->Tf12) (r5':Tf12) (h_r5:∀ a0 a1 a2,ChO (fun κ=>r5 κ a0 a1 a2) (r5' a0 a1 a2)) (a:Int) (idx:Int) (data_1:Tp12) (y'_2:Int) (other:Int):ChO (fun κ=>za9 a idx data_1 (r5 κ) y'_2 other) (za9 a idx data_1 r5' y'_2 other):=by
  unfold za9
  repeat' with_reducible first | exact ChO.const _ | exact h_r5 _ _ _ | apply ChO.ite | apply ChO.G | apply ChO.both | (apply ChO.bind;intro _)
theorem ziO (r5:Nat->Tf12) (r5':Tf12) (h_r5:∀ a0 a1 a2,ChO (fun κ=>r5 κ a0 a1 a2) (r5' a0 a1 a2)) (a:Int) (b:Int) (y':Int) (idx:Int) (data_1:Tp12) (random:Int):ChO (fun κ=>zaP a b y' (r5 κ) idx data_1 random) (zaP a b y' r5' idx data_1 random):=by
  unfold zaP
  repeat' with_reducible first | exact ChO.const _ | exact h_r5 _ _ _ | (apply zjI<;>assumption) | apply ChO.ite | apply ChO.G | apply ChO.both | (apply ChO.bind;intro _)
theorem zjJ  (a:Int) (b:Int) (y':Int):Cn (zfL a b y'):=fun g h hg x=>ziO  (fun κ idx data_1 random=>g κ (idx,data_1,random)) (fun idx data_1 random=>h (idx,data_1,random)) (fun idx data_1 random=>hg (idx,data_1,random)) a b y' x.1 x.2.1 x.2.2
theorem zfs  (a:Int) (b:Int) (y':Int) (idx:Int) (data_1:Tp12) (random:Int):zb3 a b y' idx data_1 random=zaP a b y' (zb3 a b y') idx data_1 random:=zam (zjJ a b y') (idx,data_1,random)

def zdl (data:Tp12) (a:Int) (b:Int) (c:Int):Option (Int×Int×Int):=
  G (0<=b/\b < (data.length:Int)) (
  G (0<=a/\a < (data.length:Int)) (
  (zfm (ix data b) (ix data a)).bind (fun y'=>
  if y'=true then
  G (fits (c+(1:Int))) (
  some (b,a,c+(1:Int))) else
  some (a,b,c))))

def zeA (data:Tp12) (a:Int) (b:Int) (c:Int) (c_1:Int):Option (Int×Int):=
  (zdl data a b c_1).bind (fun y'_14=>
  (zdl data y'_14.2.1 c y'_14.2.2).bind (fun y'_13=>
  (zdl data y'_14.1 y'_13.1 y'_13.2.2).bind (fun y'_12=>
  some (y'_12.2.1,y'_12.2.2))))

def zbW (data:Tp12) (a:Int) (c:Int):Option (Int×Int):=
  G (fits (a - (1:Int))) (
  G (fits (a+(1:Int))) (
  (zeA data (a - (1:Int)) a (a+(1:Int)) c).bind (fun y'_3=>
  some (y'_3.1,y'_3.2))))

def zcL (j_1:Int) (swaps_1:Int):Option (Int×Int):=
  if (decide (swaps_1=(0:Int)))=true then
  some (j_1,(1:Int)) else
  if (decide (swaps_1=(12:Int)))=true then
  some (j_1,(2:Int)) else
  some (j_1,(0:Int))
def zcK (data:Tp12) (i:Int) (j:Int) (k:Int) (swaps:Int):Option (Int×Int):=
  (zeA data i j k swaps).bind (fun y'_12=>
  zcL y'_12.1 y'_12.2)
def zd3 (data:Tp12) (a:Int) (b:Int):Option (Int×Int):=
  G (fits (b - a)) (
  G ((4:Int)≠0) (
  G (fits (Int.tdiv (b - a) (4:Int))) (
  G (fits ((Int.tdiv (b - a) (4:Int)) * (1:Int))) (
  G (fits (a+((Int.tdiv (b - a) (4:Int)) * (1:Int)))) (
  G ((4:Int)≠0) (
  G (fits (Int.tdiv (b - a) (4:Int))) (
  G (fits ((Int.tdiv (b - a) (4:Int)) * (2:Int))) (
  G (fits (a+((Int.tdiv (b - a) (4:Int)) * (2:Int)))) (
  G ((4:Int)≠0) (
  G (fits (Int.tdiv (b - a) (4:Int))) (
  G (fits ((Int.tdiv (b - a) (4:Int)) * (3:Int))) (
  G (fits (a+((Int.tdiv (b - a) (4:Int)) * (3:Int)))) (
  if (decide ((8:Int)<=(b - a)))=true then
  if (decide ((50:Int)<=(b - a)))=true then
  (zbW data (a+((Int.tdiv (b - a) (4:Int)) * (1:Int))) (0:Int)).bind (fun y'_15=>
  (zbW data (a+((Int.tdiv (b - a) (4:Int)) * (2:Int))) y'_15.2).bind (fun y'_14=>
  (zbW data (a+((Int.tdiv (b - a) (4:Int)) * (3:Int))) y'_14.2).bind (fun y'_13=>
  zcK data y'_15.1 y'_14.1 y'_13.1 y'_13.2))) else
  zcK data (a+((Int.tdiv (b - a) (4:Int)) * (1:Int))) (a+((Int.tdiv (b - a) (4:Int)) * (2:Int))) (a+((Int.tdiv (b - a) (4:Int)) * (3:Int))) (0:Int) else
  zcL (a+((Int.tdiv (b - a) (4:Int)) * (2:Int))) (0:Int))))))))))))))

def za5  (r2:Tf13) (i:Int) (j:Int) (data_1:Tp12):Option Tp12:=
  if (decide (i < j))=true then
  G (0<=j/\j < (data_1.length:Int)) (
  G ((j).toNat < data_1.length) (
  G (0<=i/\i < (data_1.length:Int)) (
  G ((i).toNat < data_1.length) (
  G (0<=i/\i < (data_1.length:Int)) (
  G ((i).toNat < data_1.length) (
  G (0<=j/\j < ((data_1.set (i).toNat (ix data_1 j)).length:Int)) (
  G ((j).toNat < (data_1.set (i).toNat (ix data_1 j)).length) (
  G (fits (i+(1:Int))) (
  G (fits (j - (1:Int))) (
  r2 (i+(1:Int)) (j - (1:Int)) ((data_1.set (i).toNat (ix data_1 j)).set (j).toNat (ix data_1 i)))))))))))) else
  some data_1
def zgp:(Int×Int×Tp12->Option Tp12)->Int×Int×Tp12->Option Tp12:=
  fun rec x=>za5 (fun i j data_1=>rec (i,j,data_1)) x.1 x.2.1 x.2.2
def zcN  (i:Int) (j:Int) (data_1:Tp12):Option Tp12:=LFix (zgp ) (i,j,data_1)
def zdz (a:Int) (b:Int) (data:Tp12):Option Tp12:=
  G (fits (b - (1:Int))) (
  zcN a (b - (1:Int)) data)
theorem zjh (r2:Nat->Tf13) (r2':Tf13) (h_r2:∀ a0 a1 a2,ChO (fun κ=>r2 κ a0 a1 a2) (r2' a0 a1 a2)) (i:Int) (j:Int) (data_1:Tp12):ChO (fun κ=>za5 (r2 κ) i j data_1) (za5 r2' i j data_1):=by
  unfold za5
  repeat' with_reducible first | exact ChO.const _ | exact h_r2 _ _ _ | apply ChO.ite | apply ChO.G | apply ChO.both | (apply ChO.bind;intro _)
theorem zjX:Cn (zgp):=fun g h hg x=>zjh  (fun κ i j data_1=>g κ (i,j,data_1)) (fun i j data_1=>h (i,j,data_1)) (fun i j data_1=>hg (i,j,data_1))  x.1 x.2.1 x.2.2
theorem zf3   (i:Int) (j:Int) (data_1:Tp12):zcN i j data_1=za5 (zcN) i j data_1:=zam (zjX ) (i,j,data_1)

def zas (b:Int) (j:Int) (r3:(Int->Int->Tp12->Option (Bool×Tp12))) (i_2:Int) (r20:Int->Tp12->Option (Bool×Tp12)) (j_2:Int) (data_4:Tp12):Option (Bool×Tp12):=
  if (decide (j_2 < b))=true then
  G (0<=j_2/\j_2 < (data_4.length:Int)) (
  G ((j_2).toNat < data_4.length) (
  G (fits (j_2 - (1:Int))) (
  G (0<=j_2 - (1:Int)/\j_2 - (1:Int) < (data_4.length:Int)) (
  G ((j_2 - (1:Int)).toNat < data_4.length) (
  (zfm (ix data_4 j_2) (ix data_4 (j_2 - (1:Int)))).bind (fun y'_2=>
  if (!y'_2)=true then
  G (fits (j+(1:Int))) (
  r3 i_2 (j+(1:Int)) data_4) else
  G (fits (j_2 - (1:Int))) (
  G (fits (j_2 - (1:Int))) (
  G (0<=j_2 - (1:Int)/\j_2 - (1:Int) < (data_4.length:Int)) (
  G ((j_2 - (1:Int)).toNat < data_4.length) (
  G (0<=j_2/\j_2 < (data_4.length:Int)) (
  G ((j_2).toNat < data_4.length) (
  G (0<=j_2/\j_2 < (data_4.length:Int)) (
  G ((j_2).toNat < data_4.length) (
  G (0<=j_2 - (1:Int)/\j_2 - (1:Int) < ((data_4.set (j_2).toNat (ix data_4 (j_2 - (1:Int)))).length:Int)) (
  G ((j_2 - (1:Int)).toNat < (data_4.set (j_2).toNat (ix data_4 (j_2 - (1:Int)))).length) (
  G (fits (j_2+(1:Int))) (
  r20 (j_2+(1:Int)) ((data_4.set (j_2).toNat (ix data_4 (j_2 - (1:Int)))).set (j_2 - (1:Int)).toNat (ix data_4 j_2))))))))))))))))))) else
  G (fits (j+(1:Int))) (
  r3 i_2 (j+(1:Int)) data_4)
def zdW (b:Int) (j:Int) (r3:(Int->Int->Tp12->Option (Bool×Tp12))) (i_2:Int):(Int×Tp12->Option (Bool×Tp12))->Int×Tp12->Option (Bool×Tp12):=
  fun rec x=>zas b j r3 i_2 (fun j_2 data_4=>rec (j_2,data_4)) x.1 x.2
def zaB (b:Int) (j:Int) (r3:(Int->Int->Tp12->Option (Bool×Tp12))) (i_2:Int) (j_2:Int) (data_4:Tp12):Option (Bool×Tp12):=LFix (zdW b j r3 i_2 ) (j_2,data_4)
def zaj (b:Int) (j:Int) (r3:(Int->Int->Tp12->Option (Bool×Tp12))) (i_2:Int) (data_3:Tp12):Option (Bool×Tp12):=
  G (fits (b - i_2)) (
  if (decide ((2:Int)<=(b - i_2)))=true then
  G (fits (i_2+(1:Int))) (
  zaB b j r3 i_2 (i_2+(1:Int)) data_3) else
  G (fits (j+(1:Int))) (
  r3 i_2 (j+(1:Int)) data_3))
def zar (b:Int) (j:Int) (r3:(Int->Int->Tp12->Option (Bool×Tp12))) (i_2:Int) (r14:Int->Tp12->Option (Bool×Tp12)) (j_1:Int) (data_2:Tp12):Option (Bool×Tp12):=
  if (decide ((1:Int)<=j_1))=true then
  G (0<=j_1/\j_1 < (data_2.length:Int)) (
  G ((j_1).toNat < data_2.length) (
  G (fits (j_1 - (1:Int))) (
  G (0<=j_1 - (1:Int)/\j_1 - (1:Int) < (data_2.length:Int)) (
  G ((j_1 - (1:Int)).toNat < data_2.length) (
  (zfm (ix data_2 j_1) (ix data_2 (j_1 - (1:Int)))).bind (fun y'_1=>
  if (!y'_1)=true then
  zaj b j r3 i_2 data_2 else
  G (fits (j_1 - (1:Int))) (
  G (fits (j_1 - (1:Int))) (
  G (0<=j_1 - (1:Int)/\j_1 - (1:Int) < (data_2.length:Int)) (
  G ((j_1 - (1:Int)).toNat < data_2.length) (
  G (0<=j_1/\j_1 < (data_2.length:Int)) (
  G ((j_1).toNat < data_2.length) (
  G (0<=j_1/\j_1 < (data_2.length:Int)) (
  G ((j_1).toNat < data_2.length) (
  G (0<=j_1 - (1:Int)/\j_1 - (1:Int) < ((data_2.set (j_1).toNat (ix data_2 (j_1 - (1:Int)))).length:Int)) (
  G ((j_1 - (1:Int)).toNat < (data_2.set (j_1).toNat (ix data_2 (j_1 - (1:Int)))).length) (
  G (fits (j_1 - (1:Int))) (
  r14 (j_1 - (1:Int)) ((data_2.set (j_1).toNat (ix data_2 (j_1 - (1:Int)))).set (j_1 - (1:Int)).toNat (ix data_2 j_1))))))))))))))))))) else
  zaj b j r3 i_2 data_2
def zdV (b:Int) (j:Int) (r3:(Int->Int->Tp12->Option (Bool×Tp12))) (i_2:Int):(Int×Tp12->Option (Bool×Tp12))->Int×Tp12->Option (Bool×Tp12):=
  fun rec x=>zar b j r3 i_2 (fun j_1 data_2=>rec (j_1,data_2)) x.1 x.2
def zaA (b:Int) (j:Int) (r3:(Int->Int->Tp12->Option (Bool×Tp12))) (i_2:Int) (j_1:Int) (data_2:Tp12):Option (Bool×Tp12):=LFix (zdV b j r3 i_2 ) (j_1,data_2)
def zaE (a:Int) (b:Int) (j:Int) (data_1:Tp12) (r3:(Int->Int->Tp12->Option (Bool×Tp12))) (i_2:Int):Option (Bool×Tp12):=
  if (decide (i_2=b))=true then
  some (true,data_1) else
  G (fits (b - a)) (
  if (decide ((b - a) < (50:Int)))=true then
  some (false,data_1) else
  G (fits (i_2 - (1:Int))) (
  G (fits (i_2 - (1:Int))) (
  G (0<=i_2 - (1:Int)/\i_2 - (1:Int) < (data_1.length:Int)) (
  G ((i_2 - (1:Int)).toNat < data_1.length) (
  G (0<=i_2/\i_2 < (data_1.length:Int)) (
  G ((i_2).toNat < data_1.length) (
  G (0<=i_2/\i_2 < (data_1.length:Int)) (
  G ((i_2).toNat < data_1.length) (
  G (0<=i_2 - (1:Int)/\i_2 - (1:Int) < ((data_1.set (i_2).toNat (ix data_1 (i_2 - (1:Int)))).length:Int)) (
  G ((i_2 - (1:Int)).toNat < (data_1.set (i_2).toNat (ix data_1 (i_2 - (1:Int)))).length) (
  G (fits (i_2 - a)) (
  if (decide ((2:Int)<=(i_2 - a)))=true then
  G (fits (i_2 - (1:Int))) (
  zaA b j r3 i_2 (i_2 - (1:Int)) ((data_1.set (i_2).toNat (ix data_1 (i_2 - (1:Int)))).set (i_2 - (1:Int)).toNat (ix data_1 i_2))) else
  zaj b j r3 i_2 ((data_1.set (i_2).toNat (ix data_1 (i_2 - (1:Int)))).set (i_2 - (1:Int)).toNat (ix data_1 i_2))))))))))))))
def zax (a:Int) (b:Int) (j:Int) (data_1:Tp12) (r3:(Int->Int->Tp12->Option (Bool×Tp12))) (r5:Int->Option (Bool×Tp12)) (i_1:Int):Option (Bool×Tp12):=
  if (decide (i_1 < b))=true then
  G (0<=i_1/\i_1 < (data_1.length:Int)) (
  G ((i_1).toNat < data_1.length) (
  G (fits (i_1 - (1:Int))) (
  G (0<=i_1 - (1:Int)/\i_1 - (1:Int) < (data_1.length:Int)) (
  G ((i_1 - (1:Int)).toNat < data_1.length) (
  (zfm (ix data_1 i_1) (ix data_1 (i_1 - (1:Int)))).bind (fun y'=>
  if (!y')=true then
  G (fits (i_1+(1:Int))) (
  r5 (i_1+(1:Int))) else
  zaE a b j data_1 r3 i_1)))))) else
  zaE a b j data_1 r3 i_1
def zee (a:Int) (b:Int) (j:Int) (data_1:Tp12) (r3:(Int->Int->Tp12->Option (Bool×Tp12))):(Int->Option (Bool×Tp12))->Int->Option (Bool×Tp12):=
  fun rec x=>zax a b j data_1 r3 (fun i_1=>rec i_1) x
def zaF (a:Int) (b:Int) (j:Int) (data_1:Tp12) (r3:(Int->Int->Tp12->Option (Bool×Tp12))) (i_1:Int):Option (Bool×Tp12):=LFix (zee a b j data_1 r3 ) i_1
def zaw (a:Int) (b:Int) (r3:Int->Int->Tp12->Option (Bool×Tp12)) (i:Int) (j:Int) (data_1:Tp12):Option (Bool×Tp12):=
  if (decide (j < (5:Int)))=true then
  zaF a b j data_1 r3 i else
  some (false,data_1)
def zed (a:Int) (b:Int):(Int×Int×Tp12->Option (Bool×Tp12))->Int×Int×Tp12->Option (Bool×Tp12):=
  fun rec x=>zaw a b (fun i j data_1=>rec (i,j,data_1)) x.1 x.2.1 x.2.2
def zbi (a:Int) (b:Int) (i:Int) (j:Int) (data_1:Tp12):Option (Bool×Tp12):=LFix (zed a b ) (i,j,data_1)
def zca (a:Int) (b:Int) (data:Tp12):Option (Bool×Tp12):=
  G (fits (a+(1:Int))) (
  zbi a b (a+(1:Int)) (0:Int) data)
theorem zdj (r3:Nat->Int->Int->Tp12->Option (Bool×Tp12)) (r3':Int->Int->Tp12->Option (Bool×Tp12)) (h_r3:∀ a0 a1 a2,ChO (fun κ=>r3 κ a0 a1 a2) (r3' a0 a1 a2)) (r20:Nat->Int->Tp12->Option (Bool×Tp12)) (r20':Int->Tp12->Option (Bool×Tp12)) (h_r20:∀ a0 a1,ChO (fun κ=>r20 κ a0 a1) (r20' a0 a1)) (b:Int) (j:Int) (i_2:Int) (j_2:Int) (data_4:Tp12):ChO (fun κ=>zas b j (r3 κ) i_2 (r20 κ) j_2 data_4) (zas b j r3' i_2 r20' j_2 data_4):=by
  unfold zas
  repeat' with_reducible first | exact ChO.const _ | exact h_r3 _ _ _ | exact h_r20 _ _ | apply ChO.ite | apply ChO.G | apply ChO.both | (apply ChO.bind;intro _)
theorem zcm (r3:Int->Int->Tp12->Option (Bool×Tp12)) (b:Int) (j:Int) (i_2:Int):Cn (zdW b j r3 i_2):=fun g h hg x=>zdj (fun _=>r3) r3 (fun _ _ _=>ChO.const _) (fun κ j_2 data_4=>g κ (j_2,data_4)) (fun j_2 data_4=>h (j_2,data_4)) (fun j_2 data_4=>hg (j_2,data_4)) b j i_2 x.1 x.2
theorem zdF (r3:Int->Int->Tp12->Option (Bool×Tp12)) (b:Int) (j:Int) (i_2:Int) (j_2:Int) (data_4:Tp12):zaB b j r3 i_2 j_2 data_4=zas b j r3 i_2 (zaB b j r3 i_2) j_2 data_4:=zam (zcm r3 b j i_2) (j_2,data_4)
theorem zaV (r3:Nat->Int->Int->Tp12->Option (Bool×Tp12)) (r3':Int->Int->Tp12->Option (Bool×Tp12)) (h_r3:∀ a0 a1 a2,ChO (fun κ=>r3 κ a0 a1 a2) (r3' a0 a1 a2)) (b:Int) (j:Int) (i_2:Int) (j_2:Int) (data_4:Tp12):ChO (fun κ=>zaB b j (r3 κ) i_2 j_2 data_4) (zaB b j r3' i_2 j_2 data_4):=by
  unfold zaB
  exact zdI (fun κ=>(zcm (r3 κ) b j i_2).mono) (zcm r3' b j i_2).mono (fun g h hg x=>zdj r3 r3' h_r3 (fun κ j_2 data_4=>g κ (j_2,data_4)) (fun j_2 data_4=>h (j_2,data_4)) (fun j_2 data_4=>hg (j_2,data_4)) b j i_2 x.1 x.2) _
theorem zbG (r3:Nat->Int->Int->Tp12->Option (Bool×Tp12)) (r3':Int->Int->Tp12->Option (Bool×Tp12)) (h_r3:∀ a0 a1 a2,ChO (fun κ=>r3 κ a0 a1 a2) (r3' a0 a1 a2)) (b:Int) (j:Int) (i_2:Int) (data_3:Tp12):ChO (fun κ=>zaj b j (r3 κ) i_2 data_3) (zaj b j r3' i_2 data_3):=by
  unfold zaj
  repeat' with_reducible first | exact ChO.const _ | exact h_r3 _ _ _ | (apply zaV<;>assumption) | apply ChO.ite | apply ChO.G | apply ChO.both | (apply ChO.bind;intro _)
theorem zdi (r3:Nat->Int->Int->Tp12->Option (Bool×Tp12)) (r3':Int->Int->Tp12->Option (Bool×Tp12)) (h_r3:∀ a0 a1 a2,ChO (fun κ=>r3 κ a0 a1 a2) (r3' a0 a1 a2)) (r14:Nat->Int->Tp12->Option (Bool×Tp12)) (r14':Int->Tp12->Option (Bool×Tp12)) (h_r14:∀ a0 a1,ChO (fun κ=>r14 κ a0 a1) (r14' a0 a1)) (b:Int) (j:Int) (i_2:Int) (j_1:Int) (data_2:Tp12):ChO (fun κ=>zar b j (r3 κ) i_2 (r14 κ) j_1 data_2) (zar b j r3' i_2 r14' j_1 data_2):=by
  unfold zar
  repeat' with_reducible first | exact ChO.const _ | exact h_r3 _ _ _ | exact h_r14 _ _ | (apply zaV<;>assumption) | (apply zbG<;>assumption) | apply ChO.ite | apply ChO.G | apply ChO.both | (apply ChO.bind;intro _)
theorem zcl (r3:Int->Int->Tp12->Option (Bool×Tp12)) (b:Int) (j:Int) (i_2:Int):Cn (zdV b j r3 i_2):=fun g h hg x=>zdi (fun _=>r3) r3 (fun _ _ _=>ChO.const _) (fun κ j_1 data_2=>g κ (j_1,data_2)) (fun j_1 data_2=>h (j_1,data_2)) (fun j_1 data_2=>hg (j_1,data_2)) b j i_2 x.1 x.2
theorem zdE (r3:Int->Int->Tp12->Option (Bool×Tp12)) (b:Int) (j:Int) (i_2:Int) (j_1:Int) (data_2:Tp12):zaA b j r3 i_2 j_1 data_2=zar b j r3 i_2 (zaA b j r3 i_2) j_1 data_2:=zam (zcl r3 b j i_2) (j_1,data_2)
theorem zck (r3:Nat->Int->Int->Tp12->Option (Bool×Tp12)) (r3':Int->Int->Tp12->Option (Bool×Tp12)) (h_r3:∀ a0 a1 a2,ChO (fun κ=>r3 κ a0 a1 a2) (r3' a0 a1 a2)) (b:Int) (j:Int) (i_2:Int) (j_1:Int) (data_2:Tp12):ChO (fun κ=>zaA b j (r3 κ) i_2 j_1 data_2) (zaA b j r3' i_2 j_1 data_2):=by
  unfold zaA
  exact zdI (fun κ=>(zcl (r3 κ) b j i_2).mono) (zcl r3' b j i_2).mono (fun g h hg x=>zdi r3 r3' h_r3 (fun κ j_1 data_2=>g κ (j_1,data_2)) (fun j_1 data_2=>h (j_1,data_2)) (fun j_1 data_2=>hg (j_1,data_2)) b j i_2 x.1 x.2) _
theorem zdU (r3:Nat->Int->Int->Tp12->Option (Bool×Tp12)) (r3':Int->Int->Tp12->Option (Bool×Tp12)) (h_r3:∀ a0 a1 a2,ChO (fun κ=>r3 κ a0 a1 a2) (r3' a0 a1 a2)) (a:Int) (b:Int) (j:Int) (data_1:Tp12) (i_2:Int):ChO (fun κ=>zaE a b j data_1 (r3 κ) i_2) (zaE a b j data_1 r3' i_2):=by
  unfold zaE
  repeat' with_reducible first | exact ChO.const _ | exact h_r3 _ _ _ | (apply zaV<;>assumption) | (apply zbG<;>assumption) | (apply zck<;>assumption) | apply ChO.ite | apply ChO.G | apply ChO.both | (apply ChO.bind;intro _)
theorem zdp (r3:Nat->Int->Int->Tp12->Option (Bool×Tp12)) (r3':Int->Int->Tp12->Option (Bool×Tp12)) (h_r3:∀ a0 a1 a2,ChO (fun κ=>r3 κ a0 a1 a2) (r3' a0 a1 a2)) (r5:Nat->Int->Option (Bool×Tp12)) (r5':Int->Option (Bool×Tp12)) (h_r5:∀ a0,ChO (fun κ=>r5 κ a0) (r5' a0)) (a:Int) (b:Int) (j:Int) (data_1:Tp12) (i_1:Int):ChO (fun κ=>zax a b j data_1 (r3 κ) (r5 κ) i_1) (zax a b j data_1 r3' r5' i_1):=by
  unfold zax
  repeat' with_reducible first | exact ChO.const _ | exact h_r3 _ _ _ | exact h_r5 _ | (apply zaV<;>assumption) | (apply zbG<;>assumption) | (apply zck<;>assumption) | (apply zdU<;>assumption) | apply ChO.ite | apply ChO.G | apply ChO.both | (apply ChO.bind;intro _)
theorem zcq (r3:Int->Int->Tp12->Option (Bool×Tp12)) (a:Int) (b:Int) (j:Int) (data_1:Tp12):Cn (zee a b j data_1 r3):=fun g h hg x=>zdp (fun _=>r3) r3 (fun _ _ _=>ChO.const _) (fun κ i_1=>g κ i_1) (fun i_1=>h i_1) (fun i_1=>hg i_1) a b j data_1 x
theorem zdY (r3:Int->Int->Tp12->Option (Bool×Tp12)) (a:Int) (b:Int) (j:Int) (data_1:Tp12) (i_1:Int):zaF a b j data_1 r3 i_1=zax a b j data_1 r3 (zaF a b j data_1 r3) i_1:=zam (zcq r3 a b j data_1) i_1
theorem zhC (r3:Nat->Int->Int->Tp12->Option (Bool×Tp12)) (r3':Int->Int->Tp12->Option (Bool×Tp12)) (h_r3:∀ a0 a1 a2,ChO (fun κ=>r3 κ a0 a1 a2) (r3' a0 a1 a2)) (a:Int) (b:Int) (j:Int) (data_1:Tp12) (i_1:Int):ChO (fun κ=>zaF a b j data_1 (r3 κ) i_1) (zaF a b j data_1 r3' i_1):=by
  unfold zaF
  exact zdI (fun κ=>(zcq (r3 κ) a b j data_1).mono) (zcq r3' a b j data_1).mono (fun g h hg x=>zdp r3 r3' h_r3 (fun κ i_1=>g κ i_1) (fun i_1=>h i_1) (fun i_1=>hg i_1) a b j data_1 x) _
theorem zg4 (r3:Nat->Int->Int->Tp12->Option (Bool×Tp12)) (r3':Int->Int->Tp12->Option (Bool×Tp12)) (h_r3:∀ a0 a1 a2,ChO (fun κ=>r3 κ a0 a1 a2) (r3' a0 a1 a2)) (a:Int) (b:Int) (i:Int) (j:Int) (data_1:Tp12):ChO (fun κ=>zaw a b (r3 κ) i j data_1) (zaw a b r3' i j data_1):=by
  unfold zaw
  repeat' with_reducible first | exact ChO.const _ | exact h_r3 _ _ _ | (apply zaV<;>assumption) | (apply zbG<;>assumption) | (apply zck<;>assumption) | (apply zdU<;>assumption) | (apply zhC<;>assumption) | apply ChO.ite | apply ChO.G | apply ChO.both | (apply ChO.bind;intro _)
theorem zhB  (a:Int) (b:Int):Cn (zed a b):=fun g h hg x=>zg4  (fun κ i j data_1=>g κ (i,j,data_1)) (fun i j data_1=>h (i,j,data_1)) (fun i j data_1=>hg (i,j,data_1)) a b x.1 x.2.1 x.2.2
theorem zdX  (a:Int) (b:Int) (i:Int) (j:Int) (data_1:Tp12):zbi a b i j data_1=zaw a b (zbi a b) i j data_1:=zam (zhB a b) (i,j,data_1)

def za1 (data_1:Tp12) (r3o:(Int->Int->Tp12->Option (Int×Tp12))) (i_2:Int) (j_2:Int):Option (Int×Tp12):=
  if (decide (j_2 < i_2))=true then
  some (i_2,data_1) else
  G (0<=j_2/\j_2 < (data_1.length:Int)) (
  G ((j_2).toNat < data_1.length) (
  G (0<=i_2/\i_2 < (data_1.length:Int)) (
  G ((i_2).toNat < data_1.length) (
  G (0<=i_2/\i_2 < (data_1.length:Int)) (
  G ((i_2).toNat < data_1.length) (
  G (0<=j_2/\j_2 < ((data_1.set (i_2).toNat (ix data_1 j_2)).length:Int)) (
  G ((j_2).toNat < (data_1.set (i_2).toNat (ix data_1 j_2)).length) (
  G (fits (i_2+(1:Int))) (
  G (fits (j_2 - (1:Int))) (
  r3o (i_2+(1:Int)) (j_2 - (1:Int)) ((data_1.set (i_2).toNat (ix data_1 j_2)).set (j_2).toNat (ix data_1 i_2))))))))))))
def zaN (a:Int) (data_1:Tp12) (r3o:(Int->Int->Tp12->Option (Int×Tp12))) (i_2:Int) (r5:Int->Option (Int×Tp12)) (j_1:Int):Option (Int×Tp12):=
  if (decide (i_2<=j_1))=true then
  G (0<=a/\a < (data_1.length:Int)) (
  G ((a).toNat < data_1.length) (
  G (0<=j_1/\j_1 < (data_1.length:Int)) (
  G ((j_1).toNat < data_1.length) (
  (zfm (ix data_1 a) (ix data_1 j_1)).bind (fun y'_1=>
  if y'_1=true then
  G (fits (j_1 - (1:Int))) (
  r5 (j_1 - (1:Int))) else
  za1 data_1 r3o i_2 j_1))))) else
  za1 data_1 r3o i_2 j_1
def zfA (a:Int) (data_1:Tp12) (r3o:(Int->Int->Tp12->Option (Int×Tp12))) (i_2:Int):(Int->Option (Int×Tp12))->Int->Option (Int×Tp12):=
  fun rec x=>zaN a data_1 r3o i_2 (fun j_1=>rec j_1) x
def za3 (a:Int) (data_1:Tp12) (r3o:(Int->Int->Tp12->Option (Int×Tp12))) (i_2:Int) (j_1:Int):Option (Int×Tp12):=LFix (zfA a data_1 r3o i_2 ) j_1
def za0 (a:Int) (j:Int) (data_1:Tp12) (r3o:(Int->Int->Tp12->Option (Int×Tp12))) (i_2:Int):Option (Int×Tp12):=
  za3 a data_1 r3o i_2 j
def zaM (a:Int) (j:Int) (data_1:Tp12) (r3o:(Int->Int->Tp12->Option (Int×Tp12))) (r3:Int->Option (Int×Tp12)) (i_1:Int):Option (Int×Tp12):=
  if (decide (i_1<=j))=true then
  G (0<=a/\a < (data_1.length:Int)) (
  G ((a).toNat < data_1.length) (
  G (0<=i_1/\i_1 < (data_1.length:Int)) (
  G ((i_1).toNat < data_1.length) (
  (zfm (ix data_1 a) (ix data_1 i_1)).bind (fun y'=>
  if (!y')=true then
  G (fits (i_1+(1:Int))) (
  r3 (i_1+(1:Int))) else
  za0 a j data_1 r3o i_1))))) else
  za0 a j data_1 r3o i_1
def zfz (a:Int) (j:Int) (data_1:Tp12) (r3o:(Int->Int->Tp12->Option (Int×Tp12))):(Int->Option (Int×Tp12))->Int->Option (Int×Tp12):=
  fun rec x=>zaM a j data_1 r3o (fun i_1=>rec i_1) x
def za2 (a:Int) (j:Int) (data_1:Tp12) (r3o:(Int->Int->Tp12->Option (Int×Tp12))) (i_1:Int):Option (Int×Tp12):=LFix (zfz a j data_1 r3o ) i_1
def za7 (a:Int) (r3o:Int->Int->Tp12->Option (Int×Tp12)) (i:Int) (j:Int) (data_1:Tp12):Option (Int×Tp12):=
  za2 a j data_1 r3o i
def zfi (a:Int):(Int×Int×Tp12->Option (Int×Tp12))->Int×Int×Tp12->Option (Int×Tp12):=
  fun rec x=>za7 a (fun i j data_1=>rec (i,j,data_1)) x.1 x.2.1 x.2.2
def zcs (a:Int) (i:Int) (j:Int) (data_1:Tp12):Option (Int×Tp12):=LFix (zfi a ) (i,j,data_1)
def zcV (a:Int) (b:Int) (pivot:Int) (data:Tp12):Option (Int×Tp12):=
  G (0<=pivot/\pivot < (data.length:Int)) (
  G ((pivot).toNat < data.length) (
  G (0<=a/\a < (data.length:Int)) (
  G ((a).toNat < data.length) (
  G (0<=a/\a < (data.length:Int)) (
  G ((a).toNat < data.length) (
  G (0<=pivot/\pivot < ((data.set (a).toNat (ix data pivot)).length:Int)) (
  G ((pivot).toNat < (data.set (a).toNat (ix data pivot)).length) (
  G (fits (a+(1:Int))) (
  G (fits (b - (1:Int))) (
  zcs a (a+(1:Int)) (b - (1:Int)) ((data.set (a).toNat (ix data pivot)).set (pivot).toNat (ix data a))))))))))))
theorem zcc (r3o:Nat->Int->Int->Tp12->Option (Int×Tp12)) (r3o':Int->Int->Tp12->Option (Int×Tp12)) (h_r3o:∀ a0 a1 a2,ChO (fun κ=>r3o κ a0 a1 a2) (r3o' a0 a1 a2)) (data_1:Tp12) (i_2:Int) (j_2:Int):ChO (fun κ=>za1 data_1 (r3o κ) i_2 j_2) (za1 data_1 r3o' i_2 j_2):=by
  unfold za1
  repeat' with_reducible first | exact ChO.const _ | exact h_r3o _ _ _ | apply ChO.ite | apply ChO.G | apply ChO.both | (apply ChO.bind;intro _)
theorem zeY (r3o:Nat->Int->Int->Tp12->Option (Int×Tp12)) (r3o':Int->Int->Tp12->Option (Int×Tp12)) (h_r3o:∀ a0 a1 a2,ChO (fun κ=>r3o κ a0 a1 a2) (r3o' a0 a1 a2)) (r5:Nat->Int->Option (Int×Tp12)) (r5':Int->Option (Int×Tp12)) (h_r5:∀ a0,ChO (fun κ=>r5 κ a0) (r5' a0)) (a:Int) (data_1:Tp12) (i_2:Int) (j_1:Int):ChO (fun κ=>zaN a data_1 (r3o κ) i_2 (r5 κ) j_1) (zaN a data_1 r3o' i_2 r5' j_1):=by
  unfold zaN
  repeat' with_reducible first | exact ChO.const _ | exact h_r3o _ _ _ | exact h_r5 _ | (apply zcc<;>assumption) | apply ChO.ite | apply ChO.G | apply ChO.both | (apply ChO.bind;intro _)
theorem zc4 (r3o:Int->Int->Tp12->Option (Int×Tp12)) (a:Int) (data_1:Tp12) (i_2:Int):Cn (zfA a data_1 r3o i_2):=fun g h hg x=>zeY (fun _=>r3o) r3o (fun _ _ _=>ChO.const _) (fun κ j_1=>g κ j_1) (fun j_1=>h j_1) (fun j_1=>hg j_1) a data_1 i_2 x
theorem zfj (r3o:Int->Int->Tp12->Option (Int×Tp12)) (a:Int) (data_1:Tp12) (i_2:Int) (j_1:Int):za3 a data_1 r3o i_2 j_1=zaN a data_1 r3o i_2 (za3 a data_1 r3o i_2) j_1:=zam (zc4 r3o a data_1 i_2) j_1
theorem zc3 (r3o:Nat->Int->Int->Tp12->Option (Int×Tp12)) (r3o':Int->Int->Tp12->Option (Int×Tp12)) (h_r3o:∀ a0 a1 a2,ChO (fun κ=>r3o κ a0 a1 a2) (r3o' a0 a1 a2)) (a:Int) (data_1:Tp12) (i_2:Int) (j_1:Int):ChO (fun κ=>za3 a data_1 (r3o κ) i_2 j_1) (za3 a data_1 r3o' i_2 j_1):=by
  unfold za3
  exact zdI (fun κ=>(zc4 (r3o κ) a data_1 i_2).mono) (zc4 r3o' a data_1 i_2).mono (fun g h hg x=>zeY r3o r3o' h_r3o (fun κ j_1=>g κ j_1) (fun j_1=>h j_1) (fun j_1=>hg j_1) a data_1 i_2 x) _
theorem zfg (r3o:Nat->Int->Int->Tp12->Option (Int×Tp12)) (r3o':Int->Int->Tp12->Option (Int×Tp12)) (h_r3o:∀ a0 a1 a2,ChO (fun κ=>r3o κ a0 a1 a2) (r3o' a0 a1 a2)) (a:Int) (j:Int) (data_1:Tp12) (i_2:Int):ChO (fun κ=>za0 a j data_1 (r3o κ) i_2) (za0 a j data_1 r3o' i_2):=by
  unfold za0
  repeat' with_reducible first | exact ChO.const _ | exact h_r3o _ _ _ | (apply zcc<;>assumption) | (apply zc3<;>assumption) | apply ChO.ite | apply ChO.G | apply ChO.both | (apply ChO.bind;intro _)
theorem zeX (r3o:Nat->Int->Int->Tp12->Option (Int×Tp12)) (r3o':Int->Int->Tp12->Option (Int×Tp12)) (h_r3o:∀ a0 a1 a2,ChO (fun κ=>r3o κ a0 a1 a2) (r3o' a0 a1 a2)) (r3:Nat->Int->Option (Int×Tp12)) (r3':Int->Option (Int×Tp12)) (h_r3:∀ a0,ChO (fun κ=>r3 κ a0) (r3' a0)) (a:Int) (j:Int) (data_1:Tp12) (i_1:Int):ChO (fun κ=>zaM a j data_1 (r3o κ) (r3 κ) i_1) (zaM a j data_1 r3o' r3' i_1):=by
  unfold zaM
  repeat' with_reducible first | exact ChO.const _ | exact h_r3o _ _ _ | exact h_r3 _ | (apply zcc<;>assumption) | (apply zc3<;>assumption) | (apply zfg<;>assumption) | apply ChO.ite | apply ChO.G | apply ChO.both | (apply ChO.bind;intro _)
theorem zc2 (r3o:Int->Int->Tp12->Option (Int×Tp12)) (a:Int) (j:Int) (data_1:Tp12):Cn (zfz a j data_1 r3o):=fun g h hg x=>zeX (fun _=>r3o) r3o (fun _ _ _=>ChO.const _) (fun κ i_1=>g κ i_1) (fun i_1=>h i_1) (fun i_1=>hg i_1) a j data_1 x
theorem zfh (r3o:Int->Int->Tp12->Option (Int×Tp12)) (a:Int) (j:Int) (data_1:Tp12) (i_1:Int):za2 a j data_1 r3o i_1=zaM a j data_1 r3o (za2 a j data_1 r3o) i_1:=zam (zc2 r3o a j data_1) i_1
theorem zjf (r3o:Nat->Int->Int->Tp12->Option (Int×Tp12)) (r3o':Int->Int->Tp12->Option (Int×Tp12)) (h_r3o:∀ a0 a1 a2,ChO (fun κ=>r3o κ a0 a1 a2) (r3o' a0 a1 a2)) (a:Int) (j:Int) (data_1:Tp12) (i_1:Int):ChO (fun κ=>za2 a j data_1 (r3o κ) i_1) (za2 a j data_1 r3o' i_1):=by
  unfold za2
  exact zdI (fun κ=>(zc2 (r3o κ) a j data_1).mono) (zc2 r3o' a j data_1).mono (fun g h hg x=>zeX r3o r3o' h_r3o (fun κ i_1=>g κ i_1) (fun i_1=>h i_1) (fun i_1=>hg i_1) a j data_1 x) _
theorem zil (r3o:Nat->Int->Int->Tp12->Option (Int×Tp12)) (r3o':Int->Int->Tp12->Option (Int×Tp12)) (h_r3o:∀ a0 a1 a2,ChO (fun κ=>r3o κ a0 a1 a2) (r3o' a0 a1 a2)) (a:Int) (i:Int) (j:Int) (data_1:Tp12):ChO (fun κ=>za7 a (r3o κ) i j data_1) (za7 a r3o' i j data_1):=by
  unfold za7
  repeat' with_reducible first | exact ChO.const _ | exact h_r3o _ _ _ | (apply zcc<;>assumption) | (apply zc3<;>assumption) | (apply zfg<;>assumption) | (apply zjf<;>assumption) | apply ChO.ite | apply ChO.G | apply ChO.both | (apply ChO.bind;intro _)
theorem ziT  (a:Int):Cn (zfi a):=fun g h hg x=>zil  (fun κ i j data_1=>g κ (i,j,data_1)) (fun i j data_1=>h (i,j,data_1)) (fun i j data_1=>hg (i,j,data_1)) a x.1 x.2.1 x.2.2
theorem ziU  (a:Int) (i:Int) (j:Int) (data_1:Tp12):zcs a i j data_1=za7 a (zcs a) i j data_1:=zam (ziT a) (i,j,data_1)

def zby (a:Int) (data_1:Tp12) (r13o:(Int->Int->Tp12->Option Tp9)) (i_4:Int) (j_4:Int):Option Tp9:=
  if (decide (j_4 < i_4))=true then
  G (0<=a/\a < (data_1.length:Int)) (
  G ((a).toNat < data_1.length) (
  G (0<=j_4/\j_4 < (data_1.length:Int)) (
  G ((j_4).toNat < data_1.length) (
  G (0<=j_4/\j_4 < (data_1.length:Int)) (
  G ((j_4).toNat < data_1.length) (
  G (0<=a/\a < ((data_1.set (j_4).toNat (ix data_1 a)).length:Int)) (
  G ((a).toNat < (data_1.set (j_4).toNat (ix data_1 a)).length) (
  some (j_4,false,(data_1.set (j_4).toNat (ix data_1 a)).set (a).toNat (ix data_1 j_4)))))))))) else
  G (0<=j_4/\j_4 < (data_1.length:Int)) (
  G ((j_4).toNat < data_1.length) (
  G (0<=i_4/\i_4 < (data_1.length:Int)) (
  G ((i_4).toNat < data_1.length) (
  G (0<=i_4/\i_4 < (data_1.length:Int)) (
  G ((i_4).toNat < data_1.length) (
  G (0<=j_4/\j_4 < ((data_1.set (i_4).toNat (ix data_1 j_4)).length:Int)) (
  G ((j_4).toNat < (data_1.set (i_4).toNat (ix data_1 j_4)).length) (
  G (fits (i_4+(1:Int))) (
  G (fits (j_4 - (1:Int))) (
  r13o (i_4+(1:Int)) (j_4 - (1:Int)) ((data_1.set (i_4).toNat (ix data_1 j_4)).set (j_4).toNat (ix data_1 i_4))))))))))))
def zbg (a:Int) (data_1:Tp12) (r13o:(Int->Int->Tp12->Option Tp9)) (i_4:Int) (r15:Int->Option Tp9) (j_3:Int):Option Tp9:=
  if (decide (i_4<=j_3))=true then
  G (0<=j_3/\j_3 < (data_1.length:Int)) (
  G ((j_3).toNat < data_1.length) (
  G (0<=a/\a < (data_1.length:Int)) (
  G ((a).toNat < data_1.length) (
  (zfm (ix data_1 j_3) (ix data_1 a)).bind (fun y'_3=>
  if (!y'_3)=true then
  G (fits (j_3 - (1:Int))) (
  r15 (j_3 - (1:Int))) else
  zby a data_1 r13o i_4 j_3))))) else
  zby a data_1 r13o i_4 j_3
def zha (a:Int) (data_1:Tp12) (r13o:(Int->Int->Tp12->Option Tp9)) (i_4:Int):(Int->Option Tp9)->Int->Option Tp9:=
  fun rec x=>zbg a data_1 r13o i_4 (fun j_3=>rec j_3) x
def zbA (a:Int) (data_1:Tp12) (r13o:(Int->Int->Tp12->Option Tp9)) (i_4:Int) (j_3:Int):Option Tp9:=LFix (zha a data_1 r13o i_4 ) j_3
def zbx (a:Int) (j_2:Int) (data_1:Tp12) (r13o:(Int->Int->Tp12->Option Tp9)) (i_4:Int):Option Tp9:=
  zbA a data_1 r13o i_4 j_2
def zbf (a:Int) (j_2:Int) (data_1:Tp12) (r13o:(Int->Int->Tp12->Option Tp9)) (r13:Int->Option Tp9) (i_3:Int):Option Tp9:=
  if (decide (i_3<=j_2))=true then
  G (0<=i_3/\i_3 < (data_1.length:Int)) (
  G ((i_3).toNat < data_1.length) (
  G (0<=a/\a < (data_1.length:Int)) (
  G ((a).toNat < data_1.length) (
  (zfm (ix data_1 i_3) (ix data_1 a)).bind (fun y'_2=>
  if y'_2=true then
  G (fits (i_3+(1:Int))) (
  r13 (i_3+(1:Int))) else
  zbx a j_2 data_1 r13o i_3))))) else
  zbx a j_2 data_1 r13o i_3
def zg9 (a:Int) (j_2:Int) (data_1:Tp12) (r13o:(Int->Int->Tp12->Option Tp9)):(Int->Option Tp9)->Int->Option Tp9:=
  fun rec x=>zbf a j_2 data_1 r13o (fun i_3=>rec i_3) x
def zbz (a:Int) (j_2:Int) (data_1:Tp12) (r13o:(Int->Int->Tp12->Option Tp9)) (i_3:Int):Option Tp9:=LFix (zg9 a j_2 data_1 r13o ) i_3
def zbK (a:Int) (r13o:Int->Int->Tp12->Option Tp9) (i_2:Int) (j_2:Int) (data_1:Tp12):Option Tp9:=
  zbz a j_2 data_1 r13o i_2
def zgB (a:Int):(Int×Int×Tp12->Option Tp9)->Int×Int×Tp12->Option Tp9:=
  fun rec x=>zbK a (fun i_2 j_2 data_1=>rec (i_2,j_2,data_1)) x.1 x.2.1 x.2.2
def zcW (a:Int) (i_2:Int) (j_2:Int) (data_1:Tp12):Option Tp9:=LFix (zgB a ) (i_2,j_2,data_1)
def zdv (a:Int) (pivot:Int) (data:Tp12) (i_1:Int) (j_1:Int):Option Tp9:=
  if (decide (j_1 < i_1))=true then
  G (0<=a/\a < (((data.set (a).toNat (ix data pivot)).set (pivot).toNat (ix data a)).length:Int)) (
  G ((a).toNat < ((data.set (a).toNat (ix data pivot)).set (pivot).toNat (ix data a)).length) (
  G (0<=j_1/\j_1 < (((data.set (a).toNat (ix data pivot)).set (pivot).toNat (ix data a)).length:Int)) (
  G ((j_1).toNat < ((data.set (a).toNat (ix data pivot)).set (pivot).toNat (ix data a)).length) (
  G (0<=j_1/\j_1 < (((data.set (a).toNat (ix data pivot)).set (pivot).toNat (ix data a)).length:Int)) (
  G ((j_1).toNat < ((data.set (a).toNat (ix data pivot)).set (pivot).toNat (ix data a)).length) (
  G (0<=a/\a < ((((data.set (a).toNat (ix data pivot)).set (pivot).toNat (ix data a)).set (j_1).toNat (ix ((data.set (a).toNat (ix data pivot)).set (pivot).toNat (ix data a)) a)).length:Int)) (
  G ((a).toNat < (((data.set (a).toNat (ix data pivot)).set (pivot).toNat (ix data a)).set (j_1).toNat (ix ((data.set (a).toNat (ix data pivot)).set (pivot).toNat (ix data a)) a)).length) (
  some (j_1,true,(((data.set (a).toNat (ix data pivot)).set (pivot).toNat (ix data a)).set (j_1).toNat (ix ((data.set (a).toNat (ix data pivot)).set (pivot).toNat (ix data a)) a)).set (a).toNat (ix ((data.set (a).toNat (ix data pivot)).set (pivot).toNat (ix data a)) j_1)))))))))) else
  G (0<=j_1/\j_1 < (((data.set (a).toNat (ix data pivot)).set (pivot).toNat (ix data a)).length:Int)) (
  G ((j_1).toNat < ((data.set (a).toNat (ix data pivot)).set (pivot).toNat (ix data a)).length) (
  G (0<=i_1/\i_1 < (((data.set (a).toNat (ix data pivot)).set (pivot).toNat (ix data a)).length:Int)) (
  G ((i_1).toNat < ((data.set (a).toNat (ix data pivot)).set (pivot).toNat (ix data a)).length) (
  G (0<=i_1/\i_1 < (((data.set (a).toNat (ix data pivot)).set (pivot).toNat (ix data a)).length:Int)) (
  G ((i_1).toNat < ((data.set (a).toNat (ix data pivot)).set (pivot).toNat (ix data a)).length) (
  G (0<=j_1/\j_1 < ((((data.set (a).toNat (ix data pivot)).set (pivot).toNat (ix data a)).set (i_1).toNat (ix ((data.set (a).toNat (ix data pivot)).set (pivot).toNat (ix data a)) j_1)).length:Int)) (
  G ((j_1).toNat < (((data.set (a).toNat (ix data pivot)).set (pivot).toNat (ix data a)).set (i_1).toNat (ix ((data.set (a).toNat (ix data pivot)).set (pivot).toNat (ix data a)) j_1)).length) (
  G (fits (i_1+(1:Int))) (
  G (fits (j_1 - (1:Int))) (
  zcW a (i_1+(1:Int)) (j_1 - (1:Int)) ((((data.set (a).toNat (ix data pivot)).set (pivot).toNat (ix data a)).set (i_1).toNat (ix ((data.set (a).toNat (ix data pivot)).set (pivot).toNat (ix data a)) j_1)).set (j_1).toNat (ix ((data.set (a).toNat (ix data pivot)).set (pivot).toNat (ix data a)) i_1))))))))))))
def zbm (a:Int) (pivot:Int) (data:Tp12) (i_1:Int) (r5:Int->Option Tp9) (j:Int):Option Tp9:=
  if (decide (i_1<=j))=true then
  G (0<=j/\j < (((data.set (a).toNat (ix data pivot)).set (pivot).toNat (ix data a)).length:Int)) (
  G ((j).toNat < ((data.set (a).toNat (ix data pivot)).set (pivot).toNat (ix data a)).length) (
  G (0<=a/\a < (((data.set (a).toNat (ix data pivot)).set (pivot).toNat (ix data a)).length:Int)) (
  G ((a).toNat < ((data.set (a).toNat (ix data pivot)).set (pivot).toNat (ix data a)).length) (
  (zfm (ix ((data.set (a).toNat (ix data pivot)).set (pivot).toNat (ix data a)) j) (ix ((data.set (a).toNat (ix data pivot)).set (pivot).toNat (ix data a)) a)).bind (fun y'_1=>
  if (!y'_1)=true then
  G (fits (j - (1:Int))) (
  r5 (j - (1:Int))) else
  zdv a pivot data i_1 j))))) else
  zdv a pivot data i_1 j
def zhu (a:Int) (pivot:Int) (data:Tp12) (i_1:Int):(Int->Option Tp9)->Int->Option Tp9:=
  fun rec x=>zbm a pivot data i_1 (fun j=>rec j) x
def zdx (a:Int) (pivot:Int) (data:Tp12) (i_1:Int) (j:Int):Option Tp9:=LFix (zhu a pivot data i_1 ) j
def zdu (a:Int) (b:Int) (pivot:Int) (data:Tp12) (i_1:Int):Option Tp9:=
  zdx a pivot data i_1 (b - (1:Int))
def zbl (a:Int) (b:Int) (pivot:Int) (data:Tp12) (r3:Int->Option Tp9) (i:Int):Option Tp9:=
  if (decide (i<=(b - (1:Int))))=true then
  G (0<=i/\i < (((data.set (a).toNat (ix data pivot)).set (pivot).toNat (ix data a)).length:Int)) (
  G ((i).toNat < ((data.set (a).toNat (ix data pivot)).set (pivot).toNat (ix data a)).length) (
  G (0<=a/\a < (((data.set (a).toNat (ix data pivot)).set (pivot).toNat (ix data a)).length:Int)) (
  G ((a).toNat < ((data.set (a).toNat (ix data pivot)).set (pivot).toNat (ix data a)).length) (
  (zfm (ix ((data.set (a).toNat (ix data pivot)).set (pivot).toNat (ix data a)) i) (ix ((data.set (a).toNat (ix data pivot)).set (pivot).toNat (ix data a)) a)).bind (fun y'=>
  if y'=true then
  G (fits (i+(1:Int))) (
  r3 (i+(1:Int))) else
  zdu a b pivot data i))))) else
  zdu a b pivot data i
def zht (a:Int) (b:Int) (pivot:Int) (data:Tp12):(Int->Option Tp9)->Int->Option Tp9:=
  fun rec x=>zbl a b pivot data (fun i=>rec i) x
def zdw (a:Int) (b:Int) (pivot:Int) (data:Tp12) (i:Int):Option Tp9:=LFix (zht a b pivot data ) i
def zeG (a:Int) (b:Int) (pivot:Int) (data:Tp12):Option Tp9:=
  G (0<=pivot/\pivot < (data.length:Int)) (
  G ((pivot).toNat < data.length) (
  G (0<=a/\a < (data.length:Int)) (
  G ((a).toNat < data.length) (
  G (0<=a/\a < (data.length:Int)) (
  G ((a).toNat < data.length) (
  G (0<=pivot/\pivot < ((data.set (a).toNat (ix data pivot)).length:Int)) (
  G ((pivot).toNat < (data.set (a).toNat (ix data pivot)).length) (
  G (fits (a+(1:Int))) (
  G (fits (b - (1:Int))) (
  zdw a b pivot data (a+(1:Int))))))))))))
theorem zbJ (r13o:Nat->Int->Int->Tp12->Option Tp9) (r13o':Int->Int->Tp12->Option Tp9) (h_r13o:∀ a0 a1 a2,ChO (fun κ=>r13o κ a0 a1 a2) (r13o' a0 a1 a2)) (a:Int) (data_1:Tp12) (i_4:Int) (j_4:Int):ChO (fun κ=>zby a data_1 (r13o κ) i_4 j_4) (zby a data_1 r13o' i_4 j_4):=by
  unfold zby
  repeat' with_reducible first | exact ChO.const _ | exact h_r13o _ _ _ | apply ChO.ite | apply ChO.G | apply ChO.both | (apply ChO.bind;intro _)
theorem zf1 (r13o:Nat->Int->Int->Tp12->Option Tp9) (r13o':Int->Int->Tp12->Option Tp9) (h_r13o:∀ a0 a1 a2,ChO (fun κ=>r13o κ a0 a1 a2) (r13o' a0 a1 a2)) (r15:Nat->Int->Option Tp9) (r15':Int->Option Tp9) (h_r15:∀ a0,ChO (fun κ=>r15 κ a0) (r15' a0)) (a:Int) (data_1:Tp12) (i_4:Int) (j_3:Int):ChO (fun κ=>zbg a data_1 (r13o κ) i_4 (r15 κ) j_3) (zbg a data_1 r13o' i_4 r15' j_3):=by
  unfold zbg
  repeat' with_reducible first | exact ChO.const _ | exact h_r13o _ _ _ | exact h_r15 _ | (apply zbJ<;>assumption) | apply ChO.ite | apply ChO.G | apply ChO.both | (apply ChO.bind;intro _)
theorem zek (r13o:Int->Int->Tp12->Option Tp9) (a:Int) (data_1:Tp12) (i_4:Int):Cn (zha a data_1 r13o i_4):=fun g h hg x=>zf1 (fun _=>r13o) r13o (fun _ _ _=>ChO.const _) (fun κ j_3=>g κ j_3) (fun j_3=>h j_3) (fun j_3=>hg j_3) a data_1 i_4 x
theorem zgC (r13o:Int->Int->Tp12->Option Tp9) (a:Int) (data_1:Tp12) (i_4:Int) (j_3:Int):zbA a data_1 r13o i_4 j_3=zbg a data_1 r13o i_4 (zbA a data_1 r13o i_4) j_3:=zam (zek r13o a data_1 i_4) j_3
theorem zb5 (r13o:Nat->Int->Int->Tp12->Option Tp9) (r13o':Int->Int->Tp12->Option Tp9) (h_r13o:∀ a0 a1 a2,ChO (fun κ=>r13o κ a0 a1 a2) (r13o' a0 a1 a2)) (a:Int) (data_1:Tp12) (i_4:Int) (j_3:Int):ChO (fun κ=>zbA a data_1 (r13o κ) i_4 j_3) (zbA a data_1 r13o' i_4 j_3):=by
  unfold zbA
  exact zdI (fun κ=>(zek (r13o κ) a data_1 i_4).mono) (zek r13o' a data_1 i_4).mono (fun g h hg x=>zf1 r13o r13o' h_r13o (fun κ j_3=>g κ j_3) (fun j_3=>h j_3) (fun j_3=>hg j_3) a data_1 i_4 x) _
theorem zcG (r13o:Nat->Int->Int->Tp12->Option Tp9) (r13o':Int->Int->Tp12->Option Tp9) (h_r13o:∀ a0 a1 a2,ChO (fun κ=>r13o κ a0 a1 a2) (r13o' a0 a1 a2)) (a:Int) (j_2:Int) (data_1:Tp12) (i_4:Int):ChO (fun κ=>zbx a j_2 data_1 (r13o κ) i_4) (zbx a j_2 data_1 r13o' i_4):=by
  unfold zbx
  repeat' with_reducible first | exact ChO.const _ | exact h_r13o _ _ _ | (apply zbJ<;>assumption) | (apply zb5<;>assumption) | apply ChO.ite | apply ChO.G | apply ChO.both | (apply ChO.bind;intro _)
theorem zf0 (r13o:Nat->Int->Int->Tp12->Option Tp9) (r13o':Int->Int->Tp12->Option Tp9) (h_r13o:∀ a0 a1 a2,ChO (fun κ=>r13o κ a0 a1 a2) (r13o' a0 a1 a2)) (r13:Nat->Int->Option Tp9) (r13':Int->Option Tp9) (h_r13:∀ a0,ChO (fun κ=>r13 κ a0) (r13' a0)) (a:Int) (j_2:Int) (data_1:Tp12) (i_3:Int):ChO (fun κ=>zbf a j_2 data_1 (r13o κ) (r13 κ) i_3) (zbf a j_2 data_1 r13o' r13' i_3):=by
  unfold zbf
  repeat' with_reducible first | exact ChO.const _ | exact h_r13o _ _ _ | exact h_r13 _ | (apply zbJ<;>assumption) | (apply zb5<;>assumption) | (apply zcG<;>assumption) | apply ChO.ite | apply ChO.G | apply ChO.both | (apply ChO.bind;intro _)
theorem zej (r13o:Int->Int->Tp12->Option Tp9) (a:Int) (j_2:Int) (data_1:Tp12):Cn (zg9 a j_2 data_1 r13o):=fun g h hg x=>zf0 (fun _=>r13o) r13o (fun _ _ _=>ChO.const _) (fun κ i_3=>g κ i_3) (fun i_3=>h i_3) (fun i_3=>hg i_3) a j_2 data_1 x
theorem zgA (r13o:Int->Int->Tp12->Option Tp9) (a:Int) (j_2:Int) (data_1:Tp12) (i_3:Int):zbz a j_2 data_1 r13o i_3=zbf a j_2 data_1 r13o (zbz a j_2 data_1 r13o) i_3:=zam (zej r13o a j_2 data_1) i_3
theorem zei (r13o:Nat->Int->Int->Tp12->Option Tp9) (r13o':Int->Int->Tp12->Option Tp9) (h_r13o:∀ a0 a1 a2,ChO (fun κ=>r13o κ a0 a1 a2) (r13o' a0 a1 a2)) (a:Int) (j_2:Int) (data_1:Tp12) (i_3:Int):ChO (fun κ=>zbz a j_2 data_1 (r13o κ) i_3) (zbz a j_2 data_1 r13o' i_3):=by
  unfold zbz
  exact zdI (fun κ=>(zej (r13o κ) a j_2 data_1).mono) (zej r13o' a j_2 data_1).mono (fun g h hg x=>zf0 r13o r13o' h_r13o (fun κ i_3=>g κ i_3) (fun i_3=>h i_3) (fun i_3=>hg i_3) a j_2 data_1 x) _
theorem zjT (r13o:Nat->Int->Int->Tp12->Option Tp9) (r13o':Int->Int->Tp12->Option Tp9) (h_r13o:∀ a0 a1 a2,ChO (fun κ=>r13o κ a0 a1 a2) (r13o' a0 a1 a2)) (a:Int) (i_2:Int) (j_2:Int) (data_1:Tp12):ChO (fun κ=>zbK a (r13o κ) i_2 j_2 data_1) (zbK a r13o' i_2 j_2 data_1):=by
  unfold zbK
  repeat' with_reducible first | exact ChO.const _ | exact h_r13o _ _ _ | (apply zbJ<;>assumption) | (apply zb5<;>assumption) | (apply zcG<;>assumption) | (apply zei<;>assumption) | apply ChO.ite | apply ChO.G | apply ChO.both | (apply ChO.bind;intro _)
theorem zku  (a:Int):Cn (zgB a):=fun g h hg x=>zjT  (fun κ i_2 j_2 data_1=>g κ (i_2,j_2,data_1)) (fun i_2 j_2 data_1=>h (i_2,j_2,data_1)) (fun i_2 j_2 data_1=>hg (i_2,j_2,data_1)) a x.1 x.2.1 x.2.2
theorem zkv  (a:Int) (i_2:Int) (j_2:Int) (data_1:Tp12):zcW a i_2 j_2 data_1=zbK a (zcW a) i_2 j_2 data_1:=zam (zku a) (i_2,j_2,data_1)
theorem zkx (r5:Nat->Int->Option Tp9) (r5':Int->Option Tp9) (h_r5:∀ a0,ChO (fun κ=>r5 κ a0) (r5' a0)) (a:Int) (pivot:Int) (data:Tp12) (i_1:Int) (j:Int):ChO (fun κ=>zbm a pivot data i_1 (r5 κ) j) (zbm a pivot data i_1 r5' j):=by
  unfold zbm
  repeat' with_reducible first | exact ChO.const _ | exact h_r5 _ | (apply zbJ<;>assumption) | (apply zb5<;>assumption) | (apply zcG<;>assumption) | (apply zei<;>assumption) | apply ChO.ite | apply ChO.G | apply ChO.both | (apply ChO.bind;intro _)
theorem zlc  (a:Int) (pivot:Int) (data:Tp12) (i_1:Int):Cn (zhu a pivot data i_1):=fun g h hg x=>zkx  (fun κ j=>g κ j) (fun j=>h j) (fun j=>hg j) a pivot data i_1 x
theorem zhc  (a:Int) (pivot:Int) (data:Tp12) (i_1:Int) (j:Int):zdx a pivot data i_1 j=zbm a pivot data i_1 (zdx a pivot data i_1) j:=zam (zlc a pivot data i_1) j
theorem zkw (r3:Nat->Int->Option Tp9) (r3':Int->Option Tp9) (h_r3:∀ a0,ChO (fun κ=>r3 κ a0) (r3' a0)) (a:Int) (b:Int) (pivot:Int) (data:Tp12) (i:Int):ChO (fun κ=>zbl a b pivot data (r3 κ) i) (zbl a b pivot data r3' i):=by
  unfold zbl
  repeat' with_reducible first | exact ChO.const _ | exact h_r3 _ | (apply zbJ<;>assumption) | (apply zb5<;>assumption) | (apply zcG<;>assumption) | (apply zei<;>assumption) | apply ChO.ite | apply ChO.G | apply ChO.both | (apply ChO.bind;intro _)
theorem zlb  (a:Int) (b:Int) (pivot:Int) (data:Tp12):Cn (zht a b pivot data):=fun g h hg x=>zkw  (fun κ i=>g κ i) (fun i=>h i) (fun i=>hg i) a b pivot data x
theorem zhb  (a:Int) (b:Int) (pivot:Int) (data:Tp12) (i:Int):zdw a b pivot data i=zbl a b pivot data (zdw a b pivot data) i:=zam (zlb a b pivot data) i

def zbQ (zab:Tf6) (a_1:Int) (b_1:Int) (wasBalanced:Bool) (wasPartitioned:Bool) (r2:(Int->Int->Int->Bool->Bool->Tp12->Option Tp12)) (limit_2:Int) (pivot:Int) (data_4:Tp12) (t_1:Bool):Option Tp12:=
  if t_1=true then
  (zcV a_1 b_1 pivot data_4).bind (fun y'_14=>
  r2 y'_14.1 b_1 limit_2 wasBalanced wasPartitioned y'_14.2) else
  (zeG a_1 b_1 pivot data_4).bind (fun y'_21=>
  G (fits (y'_21.1 - a_1)) (
  G (fits (b_1 - y'_21.1)) (
  G ((8:Int)≠0) (
  G (fits (Int.tdiv (b_1 - a_1) (8:Int))) (
  if (decide ((y'_21.1 - a_1) < (b_1 - y'_21.1)))=true then
  (zab a_1 y'_21.1 limit_2 y'_21.2.2).bind (fun y'_19=>
  G (fits (y'_21.1+(1:Int))) (
  r2 (y'_21.1+(1:Int)) b_1 limit_2 (decide ((Int.tdiv (b_1 - a_1) (8:Int))<=(y'_21.1 - a_1))) y'_21.2.1 y'_19)) else
  G (fits (y'_21.1+(1:Int))) (
  (zab (y'_21.1+(1:Int)) b_1 limit_2 y'_21.2.2).bind (fun y'_20=>
  r2 a_1 y'_21.1 limit_2 (decide ((Int.tdiv (b_1 - a_1) (8:Int))<=(b_1 - y'_21.1))) y'_21.2.1 y'_20)))))))
def zbP (zab:Tf6) (a_1:Int) (b_1:Int) (wasBalanced:Bool) (wasPartitioned:Bool) (r2:(Int->Int->Int->Bool->Bool->Tp12->Option Tp12)) (limit_2:Int) (pivot:Int) (data_4:Tp12):Option Tp12:=
  if (decide ((0:Int) < a_1))=true then
  G (fits (a_1 - (1:Int))) (
  G (0<=a_1 - (1:Int)/\a_1 - (1:Int) < (data_4.length:Int)) (
  G ((a_1 - (1:Int)).toNat < data_4.length) (
  G (0<=pivot/\pivot < (data_4.length:Int)) (
  G ((pivot).toNat < data_4.length) (
  (zfm (ix data_4 (a_1 - (1:Int))) (ix data_4 pivot)).bind (fun y'_10=>
  zbQ zab a_1 b_1 wasBalanced wasPartitioned r2 limit_2 pivot data_4 (!y'_10))))))) else
  zbQ zab a_1 b_1 wasBalanced wasPartitioned r2 limit_2 pivot data_4 false
def zbo (zab:Tf6) (a_1:Int) (b_1:Int) (wasBalanced:Bool) (wasPartitioned:Bool) (r2:(Int->Int->Int->Bool->Bool->Tp12->Option Tp12)) (limit_2:Int) (pivot:Int) (data_3:Tp12) (t:Bool):Option Tp12:=
  if t=true then
  (zca a_1 b_1 data_3).bind (fun y'_22=>
  if y'_22.1=true then
  some y'_22.2 else
  zbP zab a_1 b_1 wasBalanced wasPartitioned r2 limit_2 pivot y'_22.2) else
  zbP zab a_1 b_1 wasBalanced wasPartitioned r2 limit_2 pivot data_3
def zbO (zab:Tf6) (a_1:Int) (b_1:Int) (wasBalanced:Bool) (wasPartitioned:Bool) (r2:(Int->Int->Int->Bool->Bool->Tp12->Option Tp12)) (limit_2:Int) (pivot:Int) (hint:Int) (data_3:Tp12):Option Tp12:=
  if wasBalanced=true then
  if wasPartitioned=true then
  zbo zab a_1 b_1 wasBalanced wasPartitioned r2 limit_2 pivot data_3 (decide (hint=(1:Int))) else
  zbo zab a_1 b_1 wasBalanced wasPartitioned r2 limit_2 pivot data_3 false else
  zbo zab a_1 b_1 wasBalanced wasPartitioned r2 limit_2 pivot data_3 false
def zb1 (zab:Tf6) (a_1:Int) (b_1:Int) (wasBalanced:Bool) (wasPartitioned:Bool) (r2:(Int->Int->Int->Bool->Bool->Tp12->Option Tp12)) (limit_2:Int) (data_2:Tp12):Option Tp12:=
  (zd3 data_2 a_1 b_1).bind (fun y'_23=>
  if (decide (y'_23.2=(2:Int)))=true then
  (zdz a_1 b_1 data_2).bind (fun y'_6=>
  G (fits (b_1 - (1:Int))) (
  G (fits (y'_23.1 - a_1)) (
  G (fits ((b_1 - (1:Int)) - (y'_23.1 - a_1))) (
  zbO zab a_1 b_1 wasBalanced wasPartitioned r2 limit_2 ((b_1 - (1:Int)) - (y'_23.1 - a_1)) (1:Int) y'_6)))) else
  zbO zab a_1 b_1 wasBalanced wasPartitioned r2 limit_2 y'_23.1 y'_23.2 data_2)
def zb7 (zab:Tf6)  (r2:Tf1) (a_1:Int) (b_1:Int) (limit_1:Int) (wasBalanced:Bool) (wasPartitioned:Bool) (data_1:Tp12):Option Tp12:=
  G (fits (b_1 - a_1)) (
  if (decide ((b_1 - a_1)<=(12:Int)))=true then
  (zde a_1 b_1 data_1).bind (fun y'=>
  some y') else
  if (decide (limit_1=(0:Int)))=true then
  (zfb a_1 b_1 data_1).bind (fun y'_1=>
  some y'_1) else
  if (!wasBalanced)=true then
  (zdb a_1 b_1 data_1).bind (fun y'_2=>
  G (fits (limit_1 - (1:Int))) (
  zb1 zab a_1 b_1 wasBalanced wasPartitioned r2 (limit_1 - (1:Int)) y'_2)) else
  zb1 zab a_1 b_1 wasBalanced wasPartitioned r2 limit_1 data_1)
def zid (zab:Tf6):(Int×Int×Int×Bool×Bool×Tp12->Option Tp12)->Int×Int×Int×Bool×Bool×Tp12->Option Tp12:=
  fun rec x=>zb7 zab (fun a_1 b_1 limit_1 wasBalanced wasPartitioned data_1=>rec (a_1,b_1,limit_1,wasBalanced,wasPartitioned,data_1)) x.1 x.2.1 x.2.2.1 x.2.2.2.1 x.2.2.2.2.1 x.2.2.2.2.2
def zao (zab:Tf6)  (a_1:Int) (b_1:Int) (limit_1:Int) (wasBalanced:Bool) (wasPartitioned:Bool) (data_1:Tp12):Option Tp12:=LFix (zid zab ) (a_1,b_1,limit_1,wasBalanced,wasPartitioned,data_1)
def zcC (zab:Tf6) (a:Int) (b:Int) (limit:Int) (data:Tp12):Option Tp12:=
  zao zab a b limit true true data
theorem zbY (zab:Nat->Tf6) (zaf:Tf6) (zah:∀ a0 a1 a2 a3,ChO (fun κ=>zab κ a0 a1 a2 a3) (zaf a0 a1 a2 a3)) (r2:Nat->Tf1) (r2':Tf1) (h_r2:∀ a0 a1 a2 a3 a4 a5,ChO (fun κ=>r2 κ a0 a1 a2 a3 a4 a5) (r2' a0 a1 a2 a3 a4 a5)) (a_1:Int) (b_1:Int) (wasBalanced:Bool) (wasPartitioned:Bool) (limit_2:Int) (pivot:Int) (data_4:Tp12) (t_1:Bool):ChO (fun κ=>zbQ (zab κ) a_1 b_1 wasBalanced wasPartitioned (r2 κ) limit_2 pivot data_4 t_1) (zbQ zaf a_1 b_1 wasBalanced wasPartitioned r2' limit_2 pivot data_4 t_1):=by
  unfold zbQ
  repeat' with_reducible first | exact ChO.const _ | exact zah _ _ _ _ | exact h_r2 _ _ _ _ _ _ | apply ChO.ite | apply ChO.G | apply ChO.both | (apply ChO.bind;intro _) | (apply ChO.bind2 (zah _ _ _ _);intro _)
theorem zco (zab:Nat->Tf6) (zaf:Tf6) (zah:∀ a0 a1 a2 a3,ChO (fun κ=>zab κ a0 a1 a2 a3) (zaf a0 a1 a2 a3)) (r2:Nat->Tf1) (r2':Tf1) (h_r2:∀ a0 a1 a2 a3 a4 a5,ChO (fun κ=>r2 κ a0 a1 a2 a3 a4 a5) (r2' a0 a1 a2 a3 a4 a5)) (a_1:Int) (b_1:Int) (wasBalanced:Bool) (wasPartitioned:Bool) (limit_2:Int) (pivot:Int) (data_4:Tp12):ChO (fun κ=>zbP (zab κ) a_1 b_1 wasBalanced wasPartitioned (r2 κ) limit_2 pivot data_4) (zbP zaf a_1 b_1 wasBalanced wasPartitioned r2' limit_2 pivot data_4):=by
  unfold zbP
  repeat' with_reducible first | exact ChO.const _ | exact zah _ _ _ _ | exact h_r2 _ _ _ _ _ _ | (apply zbY<;>assumption) | apply ChO.ite | apply ChO.G | apply ChO.both | (apply ChO.bind;intro _) | (apply ChO.bind2 (zah _ _ _ _);intro _)
theorem zcY (zab:Nat->Tf6) (zaf:Tf6) (zah:∀ a0 a1 a2 a3,ChO (fun κ=>zab κ a0 a1 a2 a3) (zaf a0 a1 a2 a3)) (r2:Nat->Tf1) (r2':Tf1) (h_r2:∀ a0 a1 a2 a3 a4 a5,ChO (fun κ=>r2 κ a0 a1 a2 a3 a4 a5) (r2' a0 a1 a2 a3 a4 a5)) (a_1:Int) (b_1:Int) (wasBalanced:Bool) (wasPartitioned:Bool) (limit_2:Int) (pivot:Int) (data_3:Tp12) (t:Bool):ChO (fun κ=>zbo (zab κ) a_1 b_1 wasBalanced wasPartitioned (r2 κ) limit_2 pivot data_3 t) (zbo zaf a_1 b_1 wasBalanced wasPartitioned r2' limit_2 pivot data_3 t):=by
  unfold zbo
  repeat' with_reducible first | exact ChO.const _ | exact zah _ _ _ _ | exact h_r2 _ _ _ _ _ _ | (apply zbY<;>assumption) | (apply zco<;>assumption) | apply ChO.ite | apply ChO.G | apply ChO.both | (apply ChO.bind;intro _) | (apply ChO.bind2 (zah _ _ _ _);intro _)
theorem zeK (zab:Nat->Tf6) (zaf:Tf6) (zah:∀ a0 a1 a2 a3,ChO (fun κ=>zab κ a0 a1 a2 a3) (zaf a0 a1 a2 a3)) (r2:Nat->Tf1) (r2':Tf1) (h_r2:∀ a0 a1 a2 a3 a4 a5,ChO (fun κ=>r2 κ a0 a1 a2 a3 a4 a5) (r2' a0 a1 a2 a3 a4 a5)) (a_1:Int) (b_1:Int) (wasBalanced:Bool) (wasPartitioned:Bool) (limit_2:Int) (pivot:Int) (hint:Int) (data_3:Tp12):ChO (fun κ=>zbO (zab κ) a_1 b_1 wasBalanced wasPartitioned (r2 κ) limit_2 pivot hint data_3) (zbO zaf a_1 b_1 wasBalanced wasPartitioned r2' limit_2 pivot hint data_3):=by
  unfold zbO
  repeat' with_reducible first | exact ChO.const _ | exact zah _ _ _ _ | exact h_r2 _ _ _ _ _ _ | (apply zbY<;>assumption) | (apply zco<;>assumption) | (apply zcY<;>assumption) | apply ChO.ite | apply ChO.G | apply ChO.both | (apply ChO.bind;intro _) | (apply ChO.bind2 (zah _ _ _ _);intro _)
theorem zhX (zab:Nat->Tf6) (zaf:Tf6) (zah:∀ a0 a1 a2 a3,ChO (fun κ=>zab κ a0 a1 a2 a3) (zaf a0 a1 a2 a3)) (r2:Nat->Tf1) (r2':Tf1) (h_r2:∀ a0 a1 a2 a3 a4 a5,ChO (fun κ=>r2 κ a0 a1 a2 a3 a4 a5) (r2' a0 a1 a2 a3 a4 a5)) (a_1:Int) (b_1:Int) (wasBalanced:Bool) (wasPartitioned:Bool) (limit_2:Int) (data_2:Tp12):ChO (fun κ=>zb1 (zab κ) a_1 b_1 wasBalanced wasPartitioned (r2 κ) limit_2 data_2) (zb1 zaf a_1 b_1 wasBalanced wasPartitioned r2' limit_2 data_2):=by
  unfold zb1
  repeat' with_reducible first | exact ChO.const _ | exact zah _ _ _ _ | exact h_r2 _ _ _ _ _ _ | (apply zbY<;>assumption) | (apply zco<;>assumption) | (apply zcY<;>assumption) | (apply zeK<;>assumption) | apply ChO.ite | apply ChO.G | apply ChO.both | (apply ChO.bind;intro _) | (apply ChO.bind2 (zah _ _ _ _);intro _)
theorem zhe (zab:Nat->Tf6) (zaf:Tf6) (zah:∀ a0 a1 a2 a3,ChO (fun κ=>zab κ a0 a1 a2 a3) (zaf a0 a1 a2 a3)) (r2:Nat->Tf1) (r2':Tf1) (h_r2:∀ a0 a1 a2 a3 a4 a5,ChO (fun κ=>r2 κ a0 a1 a2 a3 a4 a5) (r2' a0 a1 a2 a3 a4 a5)) (a_1:Int) (b_1:Int) (limit_1:Int) (wasBalanced:Bool) (wasPartitioned:Bool) (data_1:Tp12):ChO (fun κ=>zb7 (zab κ) (r2 κ) a_1 b_1 limit_1 wasBalanced wasPartitioned data_1) (zb7 zaf r2' a_1 b_1 limit_1 wasBalanced wasPartitioned data_1):=by
  unfold zb7
  repeat' with_reducible first | exact ChO.const _ | exact zah _ _ _ _ | exact h_r2 _ _ _ _ _ _ | (apply zbY<;>assumption) | (apply zco<;>assumption) | (apply zcY<;>assumption) | (apply zeK<;>assumption) | (apply zhX<;>assumption) | apply ChO.ite | apply ChO.G | apply ChO.both | (apply ChO.bind;intro _) | (apply ChO.bind2 (zah _ _ _ _);intro _)
theorem ze9 (zab:Tf6):Cn (zid zab):=fun g h hg x=>zhe (fun _=>zab) zab (fun _ _ _ _=>ChO.const _) (fun κ a_1 b_1 limit_1 wasBalanced wasPartitioned data_1=>g κ (a_1,b_1,limit_1,wasBalanced,wasPartitioned,data_1)) (fun a_1 b_1 limit_1 wasBalanced wasPartitioned data_1=>h (a_1,b_1,limit_1,wasBalanced,wasPartitioned,data_1)) (fun a_1 b_1 limit_1 wasBalanced wasPartitioned data_1=>hg (a_1,b_1,limit_1,wasBalanced,wasPartitioned,data_1))  x.1 x.2.1 x.2.2.1 x.2.2.2.1 x.2.2.2.2.1 x.2.2.2.2.2
theorem zmp (zab:Tf6)  (a_1:Int) (b_1:Int) (limit_1:Int) (wasBalanced:Bool) (wasPartitioned:Bool) (data_1:Tp12):zao zab a_1 b_1 limit_1 wasBalanced wasPartitioned data_1=zb7 zab (zao zab) a_1 b_1 limit_1 wasBalanced wasPartitioned data_1:=zam (ze9 zab) (a_1,b_1,limit_1,wasBalanced,wasPartitioned,data_1)
theorem zmo (zab:Nat->Tf6) (zaf:Tf6) (zah:∀ a0 a1 a2 a3,ChO (fun κ=>zab κ a0 a1 a2 a3) (zaf a0 a1 a2 a3))  (a_1:Int) (b_1:Int) (limit_1:Int) (wasBalanced:Bool) (wasPartitioned:Bool) (data_1:Tp12):ChO (fun κ=>zao (zab κ) a_1 b_1 limit_1 wasBalanced wasPartitioned data_1) (zao zaf a_1 b_1 limit_1 wasBalanced wasPartitioned data_1):=by
  unfold zao
  exact zdI (fun κ=>(ze9 (zab κ) ).mono) (ze9 zaf ).mono (fun g h hg x=>zhe zab zaf zah (fun κ a_1 b_1 limit_1 wasBalanced wasPartitioned data_1=>g κ (a_1,b_1,limit_1,wasBalanced,wasPartitioned,data_1)) (fun a_1 b_1 limit_1 wasBalanced wasPartitioned data_1=>h (a_1,b_1,limit_1,wasBalanced,wasPartitioned,data_1)) (fun a_1 b_1 limit_1 wasBalanced wasPartitioned data_1=>hg (a_1,b_1,limit_1,wasBalanced,wasPartitioned,data_1))  x.1 x.2.1 x.2.2.1 x.2.2.2.1 x.2.2.2.2.1 x.2.2.2.2.2) _
theorem zmw (zab:Nat->Tf6) (zaf:Tf6) (zah:∀ a0 a1 a2 a3,ChO (fun κ=>zab κ a0 a1 a2 a3) (zaf a0 a1 a2 a3)) (a:Int) (b:Int) (limit:Int) (data:Tp12):ChO (fun κ=>zcC (zab κ) a b limit data) (zcC zaf a b limit data):=by
  unfold zcC
  repeat' with_reducible first | exact ChO.const _ | exact zah _ _ _ _ | (apply zbY<;>assumption) | (apply zco<;>assumption) | (apply zcY<;>assumption) | (apply zeK<;>assumption) | (apply zhX<;>assumption) | (apply zmo<;>assumption) | apply ChO.ite | apply ChO.G | apply ChO.both | (apply ChO.bind;intro _) | (apply ChO.bind2 (zah _ _ _ _);intro _)
def zeJ:(Int×Int×Int×Tp12->Option Tp12)->Int×Int×Int×Tp12->Option Tp12:=
  fun rec X=>zcC (fun a b limit data=>rec (a,b,limit,data)) X.1 X.2.1 X.2.2.1 X.2.2.2
def zal (a:Int) (b:Int) (limit:Int) (data:Tp12):Option Tp12:=LFix zeJ (a,b,limit,data)
theorem znW:Cn zeJ:=fun g h hg X=>zmw _ _ (fun a b limit data=>hg (a,b,limit,data)) X.1 X.2.1 X.2.2.1 X.2.2.2
theorem znX (a:Int) (b:Int) (limit:Int) (data:Tp12):zal a b limit data=zcC zal a b limit data:=zam znW (a,b,limit,data)

def zmj (x':Tp12):Option Tp12:=
  (zpN (IntKind.wrap .u64 (x'.length:Int))).bind (fun y'=>
  (zal (0:Int) (x'.length:Int) y' x').bind (fun y'_1=>
  some y'_1))

def zaR (a:Int) (i:Int) (r1:(Int->Tp8->Option Tp8)) (r4:Int->Tp8->Option Tp8) (j:Int) (data_2:Tp8):Option Tp8:=
  if (decide (a < j))=true then
  G (0<=j/\j < (data_2.length:Int)) (
  G ((j).toNat < data_2.length) (
  G (fits (j - (1:Int))) (
  G (0<=j - (1:Int)/\j - (1:Int) < (data_2.length:Int)) (
  G ((j - (1:Int)).toNat < data_2.length) (
  (zb8 (ix data_2 j) (ix data_2 (j - (1:Int)))).bind (fun y'=>
  if (decide (y' < (0:Int)))=true then
  G (fits (j - (1:Int))) (
  G (fits (j - (1:Int))) (
  G (0<=j - (1:Int)/\j - (1:Int) < (data_2.length:Int)) (
  G ((j - (1:Int)).toNat < data_2.length) (
  G (0<=j/\j < (data_2.length:Int)) (
  G ((j).toNat < data_2.length) (
  G (0<=j/\j < (data_2.length:Int)) (
  G ((j).toNat < data_2.length) (
  G (0<=j - (1:Int)/\j - (1:Int) < ((data_2.set (j).toNat (ix data_2 (j - (1:Int)))).length:Int)) (
  G ((j - (1:Int)).toNat < (data_2.set (j).toNat (ix data_2 (j - (1:Int)))).length) (
  G (fits (j - (1:Int))) (
  r4 (j - (1:Int)) ((data_2.set (j).toNat (ix data_2 (j - (1:Int)))).set (j - (1:Int)).toNat (ix data_2 j))))))))))))) else
  G (fits (i+(1:Int))) (
  r1 (i+(1:Int)) data_2))))))) else
  G (fits (i+(1:Int))) (
  r1 (i+(1:Int)) data_2)
def zfN (a:Int) (i:Int) (r1:(Int->Tp8->Option Tp8)):(Int×Tp8->Option Tp8)->Int×Tp8->Option Tp8:=
  fun rec x=>zaR a i r1 (fun j data_2=>rec (j,data_2)) x.1 x.2
def zba (a:Int) (i:Int) (r1:(Int->Tp8->Option Tp8)) (j:Int) (data_2:Tp8):Option Tp8:=LFix (zfN a i r1 ) (j,data_2)
def zaQ (a:Int) (b:Int) (r1:Int->Tp8->Option Tp8) (i:Int) (data_1:Tp8):Option Tp8:=
  if (decide (i < b))=true then
  zba a i r1 i data_1 else
  some data_1
def zfM (a:Int) (b:Int):(Int×Tp8->Option Tp8)->Int×Tp8->Option Tp8:=
  fun rec x=>zaQ a b (fun i data_1=>rec (i,data_1)) x.1 x.2
def zcD (a:Int) (b:Int) (i:Int) (data_1:Tp8):Option Tp8:=LFix (zfM a b ) (i,data_1)
def zdc (a:Int) (b:Int) (data:Tp8):Option Tp8:=
  G (fits (a+(1:Int))) (
  zcD a b (a+(1:Int)) data)
theorem ze6 (r1:Nat->Int->Tp8->Option Tp8) (r1':Int->Tp8->Option Tp8) (h_r1:∀ a0 a1,ChO (fun κ=>r1 κ a0 a1) (r1' a0 a1)) (r4:Nat->Int->Tp8->Option Tp8) (r4':Int->Tp8->Option Tp8) (h_r4:∀ a0 a1,ChO (fun κ=>r4 κ a0 a1) (r4' a0 a1)) (a:Int) (i:Int) (j:Int) (data_2:Tp8):ChO (fun κ=>zaR a i (r1 κ) (r4 κ) j data_2) (zaR a i r1' r4' j data_2):=by
  unfold zaR
  repeat' with_reducible first | exact ChO.const _ | exact h_r1 _ _ | exact h_r4 _ _ | apply ChO.ite | apply ChO.G | apply ChO.both | (apply ChO.bind;intro _)
theorem zdd (r1:Int->Tp8->Option Tp8) (a:Int) (i:Int):Cn (zfN a i r1):=fun g h hg x=>ze6 (fun _=>r1) r1 (fun _ _=>ChO.const _) (fun κ j data_2=>g κ (j,data_2)) (fun j data_2=>h (j,data_2)) (fun j data_2=>hg (j,data_2)) a i x.1 x.2
theorem zfu (r1:Int->Tp8->Option Tp8) (a:Int) (i:Int) (j:Int) (data_2:Tp8):zba a i r1 j data_2=zaR a i r1 (zba a i r1) j data_2:=zam (zdd r1 a i) (j,data_2)
theorem zjL (r1:Nat->Int->Tp8->Option Tp8) (r1':Int->Tp8->Option Tp8) (h_r1:∀ a0 a1,ChO (fun κ=>r1 κ a0 a1) (r1' a0 a1)) (a:Int) (i:Int) (j:Int) (data_2:Tp8):ChO (fun κ=>zba a i (r1 κ) j data_2) (zba a i r1' j data_2):=by
  unfold zba
  exact zdI (fun κ=>(zdd (r1 κ) a i).mono) (zdd r1' a i).mono (fun g h hg x=>ze6 r1 r1' h_r1 (fun κ j data_2=>g κ (j,data_2)) (fun j data_2=>h (j,data_2)) (fun j data_2=>hg (j,data_2)) a i x.1 x.2) _
theorem ziP (r1:Nat->Int->Tp8->Option Tp8) (r1':Int->Tp8->Option Tp8) (h_r1:∀ a0 a1,ChO (fun κ=>r1 κ a0 a1) (r1' a0 a1)) (a:Int) (b:Int) (i:Int) (data_1:Tp8):ChO (fun κ=>zaQ a b (r1 κ) i data_1) (zaQ a b r1' i data_1):=by
  unfold zaQ
  repeat' with_reducible first | exact ChO.const _ | exact h_r1 _ _ | (apply zjL<;>assumption) | apply ChO.ite | apply ChO.G | apply ChO.both | (apply ChO.bind;intro _)
theorem zjK  (a:Int) (b:Int):Cn (zfM a b):=fun g h hg x=>ziP  (fun κ i data_1=>g κ (i,data_1)) (fun i data_1=>h (i,data_1)) (fun i data_1=>hg (i,data_1)) a b x.1 x.2
theorem zft  (a:Int) (b:Int) (i:Int) (data_1:Tp8):zcD a b i data_1=zaQ a b (zcD a b) i data_1:=zam (zjK a b) (i,data_1)

def zbS (first:Int) (root:Int) (data_1:Tp8) (r1:(Int->Tp8->Option Tp8)) (child:Int):Option Tp8:=
  G (fits (first+root)) (
  G (0<=first+root/\first+root < (data_1.length:Int)) (
  G ((first+root).toNat < data_1.length) (
  G (fits (first+child)) (
  G (0<=first+child/\first+child < (data_1.length:Int)) (
  G ((first+child).toNat < data_1.length) (
  (zb8 (ix data_1 (first+root)) (ix data_1 (first+child))).bind (fun y'_1=>
  if (!(decide (y'_1 < (0:Int))))=true then
  some data_1 else
  G (fits (first+root)) (
  G (fits (first+child)) (
  G (fits (first+child)) (
  G (0<=first+child/\first+child < (data_1.length:Int)) (
  G ((first+child).toNat < data_1.length) (
  G (fits (first+root)) (
  G (0<=first+root/\first+root < (data_1.length:Int)) (
  G ((first+root).toNat < data_1.length) (
  G (0<=first+root/\first+root < (data_1.length:Int)) (
  G ((first+root).toNat < data_1.length) (
  G (0<=first+child/\first+child < ((data_1.set (first+root).toNat (ix data_1 (first+child))).length:Int)) (
  G ((first+child).toNat < (data_1.set (first+root).toNat (ix data_1 (first+child))).length) (
  r1 child ((data_1.set (first+root).toNat (ix data_1 (first+child))).set (first+child).toNat (ix data_1 (first+root))))))))))))))))))))))
def zbR (first:Int) (root:Int) (data_1:Tp8) (r1:(Int->Tp8->Option Tp8)) (t:Bool):Option Tp8:=
  if t=true then
  G (fits ((((2:Int) * root)+(1:Int))+(1:Int))) (
  zbS first root data_1 r1 ((((2:Int) * root)+(1:Int))+(1:Int))) else
  zbS first root data_1 r1 (((2:Int) * root)+(1:Int))
def zbB (hi:Int) (first:Int) (r1:Int->Tp8->Option Tp8) (root:Int) (data_1:Tp8):Option Tp8:=
  G (fits ((2:Int) * root)) (
  G (fits (((2:Int) * root)+(1:Int))) (
  if (decide (hi<=(((2:Int) * root)+(1:Int))))=true then
  some data_1 else
  G (fits ((((2:Int) * root)+(1:Int))+(1:Int))) (
  if (decide (((((2:Int) * root)+(1:Int))+(1:Int)) < hi))=true then
  G (fits (first+(((2:Int) * root)+(1:Int)))) (
  G (0<=first+(((2:Int) * root)+(1:Int))/\first+(((2:Int) * root)+(1:Int)) < (data_1.length:Int)) (
  G ((first+(((2:Int) * root)+(1:Int))).toNat < data_1.length) (
  G (fits (first+(((2:Int) * root)+(1:Int)))) (
  G (fits ((first+(((2:Int) * root)+(1:Int)))+(1:Int))) (
  G (0<=(first+(((2:Int) * root)+(1:Int)))+(1:Int)/\(first+(((2:Int) * root)+(1:Int)))+(1:Int) < (data_1.length:Int)) (
  G (((first+(((2:Int) * root)+(1:Int)))+(1:Int)).toNat < data_1.length) (
  (zb8 (ix data_1 (first+(((2:Int) * root)+(1:Int)))) (ix data_1 ((first+(((2:Int) * root)+(1:Int)))+(1:Int)))).bind (fun y'=>
  zbR first root data_1 r1 (decide (y' < (0:Int))))))))))) else
  zbR first root data_1 r1 false)))
def zhY (hi:Int) (first:Int):(Int×Tp8->Option Tp8)->Int×Tp8->Option Tp8:=
  fun rec x=>zbB hi first (fun root data_1=>rec (root,data_1)) x.1 x.2
def zcd (hi:Int) (first:Int) (root:Int) (data_1:Tp8):Option Tp8:=LFix (zhY hi first ) (root,data_1)
def zdG (lo:Int) (hi:Int) (first:Int) (data:Tp8):Option Tp8:=
  zcd hi first lo data
theorem zhv (r1:Nat->Int->Tp8->Option Tp8) (r1':Int->Tp8->Option Tp8) (h_r1:∀ a0 a1,ChO (fun κ=>r1 κ a0 a1) (r1' a0 a1)) (first:Int) (root:Int) (data_1:Tp8) (child:Int):ChO (fun κ=>zbS first root data_1 (r1 κ) child) (zbS first root data_1 r1' child):=by
  unfold zbS
  repeat' with_reducible first | exact ChO.const _ | exact h_r1 _ _ | apply ChO.ite | apply ChO.G | apply ChO.both | (apply ChO.bind;intro _)
theorem zlz (r1:Nat->Int->Tp8->Option Tp8) (r1':Int->Tp8->Option Tp8) (h_r1:∀ a0 a1,ChO (fun κ=>r1 κ a0 a1) (r1' a0 a1)) (first:Int) (root:Int) (data_1:Tp8) (t:Bool):ChO (fun κ=>zbR first root data_1 (r1 κ) t) (zbR first root data_1 r1' t):=by
  unfold zbR
  repeat' with_reducible first | exact ChO.const _ | exact h_r1 _ _ | (apply zhv<;>assumption) | apply ChO.ite | apply ChO.G | apply ChO.both | (apply ChO.bind;intro _)
theorem zk0 (r1:Nat->Int->Tp8->Option Tp8) (r1':Int->Tp8->Option Tp8) (h_r1:∀ a0 a1,ChO (fun κ=>r1 κ a0 a1) (r1' a0 a1)) (hi:Int) (first:Int) (root:Int) (data_1:Tp8):ChO (fun κ=>zbB hi first (r1 κ) root data_1) (zbB hi first r1' root data_1):=by
  unfold zbB
  repeat' with_reducible first | exact ChO.const _ | exact h_r1 _ _ | (apply zhv<;>assumption) | (apply zlz<;>assumption) | apply ChO.ite | apply ChO.G | apply ChO.both | (apply ChO.bind;intro _)
theorem zlA  (hi:Int) (first:Int):Cn (zhY hi first):=fun g h hg x=>zk0  (fun κ root data_1=>g κ (root,data_1)) (fun root data_1=>h (root,data_1)) (fun root data_1=>hg (root,data_1)) hi first x.1 x.2
theorem zhw  (hi:Int) (first:Int) (root:Int) (data_1:Tp8):zcd hi first root data_1=zbB hi first (zcd hi first) root data_1:=zam (zlA hi first) (root,data_1)

def zbq (a:Int) (r8:Int->Tp8->Option Tp8) (i_1:Int) (data_2:Tp8):Option Tp8:=
  if (decide ((0:Int)<=i_1))=true then
  G (fits (a+i_1)) (
  G (fits (a+i_1)) (
  G (0<=a+i_1/\a+i_1 < (data_2.length:Int)) (
  G ((a+i_1).toNat < data_2.length) (
  G (0<=a/\a < (data_2.length:Int)) (
  G ((a).toNat < data_2.length) (
  G (0<=a/\a < (data_2.length:Int)) (
  G ((a).toNat < data_2.length) (
  G (0<=a+i_1/\a+i_1 < ((data_2.set (a).toNat (ix data_2 (a+i_1))).length:Int)) (
  G ((a+i_1).toNat < (data_2.set (a).toNat (ix data_2 (a+i_1))).length) (
  (zdG (0:Int) i_1 a ((data_2.set (a).toNat (ix data_2 (a+i_1))).set (a+i_1).toNat (ix data_2 a))).bind (fun y'_1=>
  G (fits (i_1 - (1:Int))) (
  r8 (i_1 - (1:Int)) y'_1)))))))))))) else
  some data_2
def zhP (a:Int):(Int×Tp8->Option Tp8)->Int×Tp8->Option Tp8:=
  fun rec x=>zbq a (fun i_1 data_2=>rec (i_1,data_2)) x.1 x.2
def zd5 (a:Int) (i_1:Int) (data_2:Tp8):Option Tp8:=LFix (zhP a ) (i_1,data_2)
def zbp (a:Int) (b:Int) (r4:Int->Tp8->Option Tp8) (i:Int) (data_1:Tp8):Option Tp8:=
  if (decide ((0:Int)<=i))=true then
  (zdG i (b - a) a data_1).bind (fun y'=>
  G (fits (i - (1:Int))) (
  r4 (i - (1:Int)) y')) else
  G (fits ((b - a) - (1:Int))) (
  zd5 a ((b - a) - (1:Int)) data_1)
def zhO (a:Int) (b:Int):(Int×Tp8->Option Tp8)->Int×Tp8->Option Tp8:=
  fun rec x=>zbp a b (fun i data_1=>rec (i,data_1)) x.1 x.2
def zd4 (a:Int) (b:Int) (i:Int) (data_1:Tp8):Option Tp8:=LFix (zhO a b ) (i,data_1)
def zfa (a:Int) (b:Int) (data:Tp8):Option Tp8:=
  G (fits (b - a)) (
  G (fits ((b - a) - (1:Int))) (
  G ((2:Int)≠0) (
  G (fits (Int.tdiv ((b - a) - (1:Int)) (2:Int))) (
  zd4 a b (Int.tdiv ((b - a) - (1:Int)) (2:Int)) data))))
theorem zkV (r8:Nat->Int->Tp8->Option Tp8) (r8':Int->Tp8->Option Tp8) (h_r8:∀ a0 a1,ChO (fun κ=>r8 κ a0 a1) (r8' a0 a1)) (a:Int) (i_1:Int) (data_2:Tp8):ChO (fun κ=>zbq a (r8 κ) i_1 data_2) (zbq a r8' i_1 data_2):=by
  unfold zbq
  repeat' with_reducible first | exact ChO.const _ | exact h_r8 _ _ | apply ChO.ite | apply ChO.G | apply ChO.both | (apply ChO.bind;intro _)
theorem zlw  (a:Int):Cn (zhP a):=fun g h hg x=>zkV  (fun κ i_1 data_2=>g κ (i_1,data_2)) (fun i_1 data_2=>h (i_1,data_2)) (fun i_1 data_2=>hg (i_1,data_2)) a x.1 x.2
theorem zho  (a:Int) (i_1:Int) (data_2:Tp8):zd5 a i_1 data_2=zbq a (zd5 a) i_1 data_2:=zam (zlw a) (i_1,data_2)
theorem zkU (r4:Nat->Int->Tp8->Option Tp8) (r4':Int->Tp8->Option Tp8) (h_r4:∀ a0 a1,ChO (fun κ=>r4 κ a0 a1) (r4' a0 a1)) (a:Int) (b:Int) (i:Int) (data_1:Tp8):ChO (fun κ=>zbp a b (r4 κ) i data_1) (zbp a b r4' i data_1):=by
  unfold zbp
  repeat' with_reducible first | exact ChO.const _ | exact h_r4 _ _ | apply ChO.ite | apply ChO.G | apply ChO.both | (apply ChO.bind;intro _)
theorem zlv  (a:Int) (b:Int):Cn (zhO a b):=fun g h hg x=>zkU  (fun κ i data_1=>g κ (i,data_1)) (fun i data_1=>h (i,data_1)) (fun i data_1=>hg (i,data_1)) a b x.1 x.2
theorem zhn  (a:Int) (b:Int) (i:Int) (data_1:Tp8):zd4 a b i data_1=zbp a b (zd4 a b) i data_1:=zam (zlv a b) (i,data_1)

def za8 (a:Int) (idx:Int) (data_1:Tp8) (r5:(Int->Tp8->Int->Option Tp8)) (y'_2:Int) (other:Int):Option Tp8:=
  G (fits (a+other)) (
  G (fits (a+other)) (
  G (0<=a+other/\a+other < (data_1.length:Int)) (
  G ((a+other).toNat < data_1.length) (
  G (0<=idx/\idx < (data_1.length:Int)) (
  G ((idx).toNat < data_1.length) (
  G (0<=idx/\idx < (data_1.length:Int)) (
  G ((idx).toNat < data_1.length) (
  G (0<=a+other/\a+other < ((data_1.set (idx).toNat (ix data_1 (a+other))).length:Int)) (
  G ((a+other).toNat < (data_1.set (idx).toNat (ix data_1 (a+other))).length) (
  G (fits (idx+(1:Int))) (
  r5 (idx+(1:Int)) ((data_1.set (idx).toNat (ix data_1 (a+other))).set (a+other).toNat (ix data_1 idx)) y'_2)))))))))))
def zaO (a:Int) (b:Int) (y':Int) (r5:Int->Tp8->Int->Option Tp8) (idx:Int) (data_1:Tp8) (random:Int):Option Tp8:=
  G ((4:Int)≠0) (
  G (fits (Int.tdiv (b - a) (4:Int))) (
  G (fits ((Int.tdiv (b - a) (4:Int)) * (2:Int))) (
  G (fits (a+((Int.tdiv (b - a) (4:Int)) * (2:Int)))) (
  G (fits ((a+((Int.tdiv (b - a) (4:Int)) * (2:Int)))+(1:Int))) (
  if (decide (idx<=((a+((Int.tdiv (b - a) (4:Int)) * (2:Int)))+(1:Int))))=true then
  (zeD random).bind (fun y'_4=>
  if (decide ((b - a)<=(IntKind.wrap .i64 (iand .u64 y'_4.1 (IntKind.wrap .u64 (y' - (1:Int)))))))=true then
  G (fits ((IntKind.wrap .i64 (iand .u64 y'_4.1 (IntKind.wrap .u64 (y' - (1:Int))))) - (b - a))) (
  za8 a idx data_1 r5 y'_4.2 ((IntKind.wrap .i64 (iand .u64 y'_4.1 (IntKind.wrap .u64 (y' - (1:Int))))) - (b - a))) else
  za8 a idx data_1 r5 y'_4.2 (IntKind.wrap .i64 (iand .u64 y'_4.1 (IntKind.wrap .u64 (y' - (1:Int)))))) else
  some data_1)))))
def zfK (a:Int) (b:Int) (y':Int):(Int×Tp8×Int->Option Tp8)->Int×Tp8×Int->Option Tp8:=
  fun rec x=>zaO a b y' (fun idx data_1 random=>rec (idx,data_1,random)) x.1 x.2.1 x.2.2
def zb2 (a:Int) (b:Int) (y':Int) (idx:Int) (data_1:Tp8) (random:Int):Option Tp8:=LFix (zfK a b y' ) (idx,data_1,random)
def zda (a:Int) (b:Int) (data:Tp8):Option Tp8:=
  G (fits (b - a)) (
  if (decide ((8:Int)<=(b - a)))=true then
  (zea (b - a)).bind (fun y'=>
  G ((4:Int)≠0) (
  G (fits (Int.tdiv (b - a) (4:Int))) (
  G (fits ((Int.tdiv (b - a) (4:Int)) * (2:Int))) (
  G (fits (a+((Int.tdiv (b - a) (4:Int)) * (2:Int)))) (
  G (fits ((a+((Int.tdiv (b - a) (4:Int)) * (2:Int))) - (1:Int))) (
  zb2 a b y' ((a+((Int.tdiv (b - a) (4:Int)) * (2:Int))) - (1:Int)) data (IntKind.wrap .u64 (b - a)))))))) else
  some data)
theorem zjG (r5:Nat->Int->Tp8->Int->Option Tp8) (r5':Int->Tp8->Int->Option Tp8) (h_r5:∀ a0 a1 a2,ChO (fun κ=>r5 κ a0 a1 a2) (r5' a0 a1 a2)) (a:Int) (idx:Int) (data_1:Tp8) (y'_2:Int) (other:Int):ChO (fun κ=>za8 a idx data_1 (r5 κ) y'_2 other) (za8 a idx data_1 r5' y'_2 other):=by
  unfold za8
  repeat' with_reducible first | exact ChO.const _ | exact h_r5 _ _ _ | apply ChO.ite | apply ChO.G | apply ChO.both | (apply ChO.bind;intro _)
theorem ziN (r5:Nat->Int->Tp8->Int->Option Tp8) (r5':Int->Tp8->Int->Option Tp8) (h_r5:∀ a0 a1 a2,ChO (fun κ=>r5 κ a0 a1 a2) (r5' a0 a1 a2)) (a:Int) (b:Int) (y':Int) (idx:Int) (data_1:Tp8) (random:Int):ChO (fun κ=>zaO a b y' (r5 κ) idx data_1 random) (zaO a b y' r5' idx data_1 random):=by
  unfold zaO
  repeat' with_reducible first | exact ChO.const _ | exact h_r5 _ _ _ | (apply zjG<;>assumption) | apply ChO.ite | apply ChO.G | apply ChO.both | (apply ChO.bind;intro _)
theorem zjH  (a:Int) (b:Int) (y':Int):Cn (zfK a b y'):=fun g h hg x=>ziN  (fun κ idx data_1 random=>g κ (idx,data_1,random)) (fun idx data_1 random=>h (idx,data_1,random)) (fun idx data_1 random=>hg (idx,data_1,random)) a b y' x.1 x.2.1 x.2.2
theorem zfr  (a:Int) (b:Int) (y':Int) (idx:Int) (data_1:Tp8) (random:Int):zb2 a b y' idx data_1 random=zaO a b y' (zb2 a b y') idx data_1 random:=zam (zjH a b y') (idx,data_1,random)

def zdk (data:Tp8) (a:Int) (b:Int) (c:Int):Option (Int×Int×Int):=
  G (0<=b/\b < (data.length:Int)) (
  G (0<=a/\a < (data.length:Int)) (
  (zb8 (ix data b) (ix data a)).bind (fun y'=>
  if (decide (y' < (0:Int)))=true then
  G (fits (c+(1:Int))) (
  some (b,a,c+(1:Int))) else
  some (a,b,c))))

def zez (data:Tp8) (a:Int) (b:Int) (c:Int) (c_1:Int):Option (Int×Int):=
  (zdk data a b c_1).bind (fun y'_14=>
  (zdk data y'_14.2.1 c y'_14.2.2).bind (fun y'_13=>
  (zdk data y'_14.1 y'_13.1 y'_13.2.2).bind (fun y'_12=>
  some (y'_12.2.1,y'_12.2.2))))

def zbV (data:Tp8) (a:Int) (c:Int):Option (Int×Int):=
  G (fits (a - (1:Int))) (
  G (fits (a+(1:Int))) (
  (zez data (a - (1:Int)) a (a+(1:Int)) c).bind (fun y'_3=>
  some (y'_3.1,y'_3.2))))

def zcJ (j_1:Int) (swaps_1:Int):Option (Int×Int):=
  if (decide (swaps_1=(0:Int)))=true then
  some (j_1,(1:Int)) else
  if (decide (swaps_1=(12:Int)))=true then
  some (j_1,(2:Int)) else
  some (j_1,(0:Int))
def zcI (data:Tp8) (i:Int) (j:Int) (k:Int) (swaps:Int):Option (Int×Int):=
  (zez data i j k swaps).bind (fun y'_12=>
  zcJ y'_12.1 y'_12.2)
def zd2 (data:Tp8) (a:Int) (b:Int):Option (Int×Int):=
  G (fits (b - a)) (
  G ((4:Int)≠0) (
  G (fits (Int.tdiv (b - a) (4:Int))) (
  G (fits ((Int.tdiv (b - a) (4:Int)) * (1:Int))) (
  G (fits (a+((Int.tdiv (b - a) (4:Int)) * (1:Int)))) (
  G ((4:Int)≠0) (
  G (fits (Int.tdiv (b - a) (4:Int))) (
  G (fits ((Int.tdiv (b - a) (4:Int)) * (2:Int))) (
  G (fits (a+((Int.tdiv (b - a) (4:Int)) * (2:Int)))) (
  G ((4:Int)≠0) (
  G (fits (Int.tdiv (b - a) (4:Int))) (
  G (fits ((Int.tdiv (b - a) (4:Int)) * (3:Int))) (
  G (fits (a+((Int.tdiv (b - a) (4:Int)) * (3:Int)))) (
  if (decide ((8:Int)<=(b - a)))=true then
  if (decide ((50:Int)<=(b - a)))=true then
  (zbV data (a+((Int.tdiv (b - a) (4:Int)) * (1:Int))) (0:Int)).bind (fun y'_15=>
  (zbV data (a+((Int.tdiv (b - a) (4:Int)) * (2:Int))) y'_15.2).bind (fun y'_14=>
  (zbV data (a+((Int.tdiv (b - a) (4:Int)) * (3:Int))) y'_14.2).bind (fun y'_13=>
  zcI data y'_15.1 y'_14.1 y'_13.1 y'_13.2))) else
  zcI data (a+((Int.tdiv (b - a) (4:Int)) * (1:Int))) (a+((Int.tdiv (b - a) (4:Int)) * (2:Int))) (a+((Int.tdiv (b - a) (4:Int)) * (3:Int))) (0:Int) else
  zcJ (a+((Int.tdiv (b - a) (4:Int)) * (2:Int))) (0:Int))))))))))))))

def za4  (r2:Int->Int->Tp8->Option Tp8) (i:Int) (j:Int) (data_1:Tp8):Option Tp8:=
  if (decide (i < j))=true then
  G (0<=j/\j < (data_1.length:Int)) (
  G ((j).toNat < data_1.length) (
  G (0<=i/\i < (data_1.length:Int)) (
  G ((i).toNat < data_1.length) (
  G (0<=i/\i < (data_1.length:Int)) (
  G ((i).toNat < data_1.length) (
  G (0<=j/\j < ((data_1.set (i).toNat (ix data_1 j)).length:Int)) (
  G ((j).toNat < (data_1.set (i).toNat (ix data_1 j)).length) (
  G (fits (i+(1:Int))) (
  G (fits (j - (1:Int))) (
  r2 (i+(1:Int)) (j - (1:Int)) ((data_1.set (i).toNat (ix data_1 j)).set (j).toNat (ix data_1 i)))))))))))) else
  some data_1
def zgo:(Int×Int×Tp8->Option Tp8)->Int×Int×Tp8->Option Tp8:=
  fun rec x=>za4 (fun i j data_1=>rec (i,j,data_1)) x.1 x.2.1 x.2.2
def zcM  (i:Int) (j:Int) (data_1:Tp8):Option Tp8:=LFix (zgo ) (i,j,data_1)
def zdy (a:Int) (b:Int) (data:Tp8):Option Tp8:=
  G (fits (b - (1:Int))) (
  zcM a (b - (1:Int)) data)
theorem zjg (r2:Nat->Int->Int->Tp8->Option Tp8) (r2':Int->Int->Tp8->Option Tp8) (h_r2:∀ a0 a1 a2,ChO (fun κ=>r2 κ a0 a1 a2) (r2' a0 a1 a2)) (i:Int) (j:Int) (data_1:Tp8):ChO (fun κ=>za4 (r2 κ) i j data_1) (za4 r2' i j data_1):=by
  unfold za4
  repeat' with_reducible first | exact ChO.const _ | exact h_r2 _ _ _ | apply ChO.ite | apply ChO.G | apply ChO.both | (apply ChO.bind;intro _)
theorem zjW:Cn (zgo):=fun g h hg x=>zjg  (fun κ i j data_1=>g κ (i,j,data_1)) (fun i j data_1=>h (i,j,data_1)) (fun i j data_1=>hg (i,j,data_1))  x.1 x.2.1 x.2.2
theorem zf2   (i:Int) (j:Int) (data_1:Tp8):zcM i j data_1=za4 (zcM) i j data_1:=zam (zjW ) (i,j,data_1)

def zaq (b:Int) (j:Int) (r3:(Int->Int->Tp8->Option Tp5)) (i_2:Int) (r20:Int->Tp8->Option Tp5) (j_2:Int) (data_4:Tp8):Option Tp5:=
  if (decide (j_2 < b))=true then
  G (0<=j_2/\j_2 < (data_4.length:Int)) (
  G ((j_2).toNat < data_4.length) (
  G (fits (j_2 - (1:Int))) (
  G (0<=j_2 - (1:Int)/\j_2 - (1:Int) < (data_4.length:Int)) (
  G ((j_2 - (1:Int)).toNat < data_4.length) (
  (zb8 (ix data_4 j_2) (ix data_4 (j_2 - (1:Int)))).bind (fun y'_2=>
  if (!(decide (y'_2 < (0:Int))))=true then
  G (fits (j+(1:Int))) (
  r3 i_2 (j+(1:Int)) data_4) else
  G (fits (j_2 - (1:Int))) (
  G (fits (j_2 - (1:Int))) (
  G (0<=j_2 - (1:Int)/\j_2 - (1:Int) < (data_4.length:Int)) (
  G ((j_2 - (1:Int)).toNat < data_4.length) (
  G (0<=j_2/\j_2 < (data_4.length:Int)) (
  G ((j_2).toNat < data_4.length) (
  G (0<=j_2/\j_2 < (data_4.length:Int)) (
  G ((j_2).toNat < data_4.length) (
  G (0<=j_2 - (1:Int)/\j_2 - (1:Int) < ((data_4.set (j_2).toNat (ix data_4 (j_2 - (1:Int)))).length:Int)) (
  G ((j_2 - (1:Int)).toNat < (data_4.set (j_2).toNat (ix data_4 (j_2 - (1:Int)))).length) (
  G (fits (j_2+(1:Int))) (
  r20 (j_2+(1:Int)) ((data_4.set (j_2).toNat (ix data_4 (j_2 - (1:Int)))).set (j_2 - (1:Int)).toNat (ix data_4 j_2))))))))))))))))))) else
  G (fits (j+(1:Int))) (
  r3 i_2 (j+(1:Int)) data_4)
def zdR (b:Int) (j:Int) (r3:(Int->Int->Tp8->Option Tp5)) (i_2:Int):(Int×Tp8->Option Tp5)->Int×Tp8->Option Tp5:=
  fun rec x=>zaq b j r3 i_2 (fun j_2 data_4=>rec (j_2,data_4)) x.1 x.2
def zaz (b:Int) (j:Int) (r3:(Int->Int->Tp8->Option Tp5)) (i_2:Int) (j_2:Int) (data_4:Tp8):Option Tp5:=LFix (zdR b j r3 i_2 ) (j_2,data_4)
def zai (b:Int) (j:Int) (r3:(Int->Int->Tp8->Option Tp5)) (i_2:Int) (data_3:Tp8):Option Tp5:=
  G (fits (b - i_2)) (
  if (decide ((2:Int)<=(b - i_2)))=true then
  G (fits (i_2+(1:Int))) (
  zaz b j r3 i_2 (i_2+(1:Int)) data_3) else
  G (fits (j+(1:Int))) (
  r3 i_2 (j+(1:Int)) data_3))
def zap (b:Int) (j:Int) (r3:(Int->Int->Tp8->Option Tp5)) (i_2:Int) (r14:Int->Tp8->Option Tp5) (j_1:Int) (data_2:Tp8):Option Tp5:=
  if (decide ((1:Int)<=j_1))=true then
  G (0<=j_1/\j_1 < (data_2.length:Int)) (
  G ((j_1).toNat < data_2.length) (
  G (fits (j_1 - (1:Int))) (
  G (0<=j_1 - (1:Int)/\j_1 - (1:Int) < (data_2.length:Int)) (
  G ((j_1 - (1:Int)).toNat < data_2.length) (
  (zb8 (ix data_2 j_1) (ix data_2 (j_1 - (1:Int)))).bind (fun y'_1=>
  if (!(decide (y'_1 < (0:Int))))=true then
  zai b j r3 i_2 data_2 else
  G (fits (j_1 - (1:Int))) (
  G (fits (j_1 - (1:Int))) (
  G (0<=j_1 - (1:Int)/\j_1 - (1:Int) < (data_2.length:Int)) (
  G ((j_1 - (1:Int)).toNat < data_2.length) (
  G (0<=j_1/\j_1 < (data_2.length:Int)) (
  G ((j_1).toNat < data_2.length) (
  G (0<=j_1/\j_1 < (data_2.length:Int)) (
  G ((j_1).toNat < data_2.length) (
  G (0<=j_1 - (1:Int)/\j_1 - (1:Int) < ((data_2.set (j_1).toNat (ix data_2 (j_1 - (1:Int)))).length:Int)) (
  G ((j_1 - (1:Int)).toNat < (data_2.set (j_1).toNat (ix data_2 (j_1 - (1:Int)))).length) (
  G (fits (j_1 - (1:Int))) (
  r14 (j_1 - (1:Int)) ((data_2.set (j_1).toNat (ix data_2 (j_1 - (1:Int)))).set (j_1 - (1:Int)).toNat (ix data_2 j_1))))))))))))))))))) else
  zai b j r3 i_2 data_2
def zdQ (b:Int) (j:Int) (r3:(Int->Int->Tp8->Option Tp5)) (i_2:Int):(Int×Tp8->Option Tp5)->Int×Tp8->Option Tp5:=
  fun rec x=>zap b j r3 i_2 (fun j_1 data_2=>rec (j_1,data_2)) x.1 x.2
def zay (b:Int) (j:Int) (r3:(Int->Int->Tp8->Option Tp5)) (i_2:Int) (j_1:Int) (data_2:Tp8):Option Tp5:=LFix (zdQ b j r3 i_2 ) (j_1,data_2)
def zaC (a:Int) (b:Int) (j:Int) (data_1:Tp8) (r3:(Int->Int->Tp8->Option Tp5)) (i_2:Int):Option Tp5:=
  if (decide (i_2=b))=true then
  some (true,data_1) else
  G (fits (b - a)) (
  if (decide ((b - a) < (50:Int)))=true then
  some (false,data_1) else
  G (fits (i_2 - (1:Int))) (
  G (fits (i_2 - (1:Int))) (
  G (0<=i_2 - (1:Int)/\i_2 - (1:Int) < (data_1.length:Int)) (
  G ((i_2 - (1:Int)).toNat < data_1.length) (
  G (0<=i_2/\i_2 < (data_1.length:Int)) (
  G ((i_2).toNat < data_1.length) (
  G (0<=i_2/\i_2 < (data_1.length:Int)) (
  G ((i_2).toNat < data_1.length) (
  G (0<=i_2 - (1:Int)/\i_2 - (1:Int) < ((data_1.set (i_2).toNat (ix data_1 (i_2 - (1:Int)))).length:Int)) (
  G ((i_2 - (1:Int)).toNat < (data_1.set (i_2).toNat (ix data_1 (i_2 - (1:Int)))).length) (
  G (fits (i_2 - a)) (
  if (decide ((2:Int)<=(i_2 - a)))=true then
  G (fits (i_2 - (1:Int))) (
  zay b j r3 i_2 (i_2 - (1:Int)) ((data_1.set (i_2).toNat (ix data_1 (i_2 - (1:Int)))).set (i_2 - (1:Int)).toNat (ix data_1 i_2))) else
  zai b j r3 i_2 ((data_1.set (i_2).toNat (ix data_1 (i_2 - (1:Int)))).set (i_2 - (1:Int)).toNat (ix data_1 i_2))))))))))))))
def zav (a:Int) (b:Int) (j:Int) (data_1:Tp8) (r3:(Int->Int->Tp8->Option Tp5)) (r5:Int->Option Tp5) (i_1:Int):Option Tp5:=
  if (decide (i_1 < b))=true then
  G (0<=i_1/\i_1 < (data_1.length:Int)) (
  G ((i_1).toNat < data_1.length) (
  G (fits (i_1 - (1:Int))) (
  G (0<=i_1 - (1:Int)/\i_1 - (1:Int) < (data_1.length:Int)) (
  G ((i_1 - (1:Int)).toNat < data_1.length) (
  (zb8 (ix data_1 i_1) (ix data_1 (i_1 - (1:Int)))).bind (fun y'=>
  if (!(decide (y' < (0:Int))))=true then
  G (fits (i_1+(1:Int))) (
  r5 (i_1+(1:Int))) else
  zaC a b j data_1 r3 i_1)))))) else
  zaC a b j data_1 r3 i_1
def zec (a:Int) (b:Int) (j:Int) (data_1:Tp8) (r3:(Int->Int->Tp8->Option Tp5)):(Int->Option Tp5)->Int->Option Tp5:=
  fun rec x=>zav a b j data_1 r3 (fun i_1=>rec i_1) x
def zaD (a:Int) (b:Int) (j:Int) (data_1:Tp8) (r3:(Int->Int->Tp8->Option Tp5)) (i_1:Int):Option Tp5:=LFix (zec a b j data_1 r3 ) i_1
def zau (a:Int) (b:Int) (r3:Int->Int->Tp8->Option Tp5) (i:Int) (j:Int) (data_1:Tp8):Option Tp5:=
  if (decide (j < (5:Int)))=true then
  zaD a b j data_1 r3 i else
  some (false,data_1)
def zeb (a:Int) (b:Int):(Int×Int×Tp8->Option Tp5)->Int×Int×Tp8->Option Tp5:=
  fun rec x=>zau a b (fun i j data_1=>rec (i,j,data_1)) x.1 x.2.1 x.2.2
def zbh (a:Int) (b:Int) (i:Int) (j:Int) (data_1:Tp8):Option Tp5:=LFix (zeb a b ) (i,j,data_1)
def zb9 (a:Int) (b:Int) (data:Tp8):Option Tp5:=
  G (fits (a+(1:Int))) (
  zbh a b (a+(1:Int)) (0:Int) data)
theorem zdh (r3:Nat->Int->Int->Tp8->Option Tp5) (r3':Int->Int->Tp8->Option Tp5) (h_r3:∀ a0 a1 a2,ChO (fun κ=>r3 κ a0 a1 a2) (r3' a0 a1 a2)) (r20:Nat->Int->Tp8->Option Tp5) (r20':Int->Tp8->Option Tp5) (h_r20:∀ a0 a1,ChO (fun κ=>r20 κ a0 a1) (r20' a0 a1)) (b:Int) (j:Int) (i_2:Int) (j_2:Int) (data_4:Tp8):ChO (fun κ=>zaq b j (r3 κ) i_2 (r20 κ) j_2 data_4) (zaq b j r3' i_2 r20' j_2 data_4):=by
  unfold zaq
  repeat' with_reducible first | exact ChO.const _ | exact h_r3 _ _ _ | exact h_r20 _ _ | apply ChO.ite | apply ChO.G | apply ChO.both | (apply ChO.bind;intro _)
theorem zcj (r3:Int->Int->Tp8->Option Tp5) (b:Int) (j:Int) (i_2:Int):Cn (zdR b j r3 i_2):=fun g h hg x=>zdh (fun _=>r3) r3 (fun _ _ _=>ChO.const _) (fun κ j_2 data_4=>g κ (j_2,data_4)) (fun j_2 data_4=>h (j_2,data_4)) (fun j_2 data_4=>hg (j_2,data_4)) b j i_2 x.1 x.2
theorem zdD (r3:Int->Int->Tp8->Option Tp5) (b:Int) (j:Int) (i_2:Int) (j_2:Int) (data_4:Tp8):zaz b j r3 i_2 j_2 data_4=zaq b j r3 i_2 (zaz b j r3 i_2) j_2 data_4:=zam (zcj r3 b j i_2) (j_2,data_4)
theorem zaU (r3:Nat->Int->Int->Tp8->Option Tp5) (r3':Int->Int->Tp8->Option Tp5) (h_r3:∀ a0 a1 a2,ChO (fun κ=>r3 κ a0 a1 a2) (r3' a0 a1 a2)) (b:Int) (j:Int) (i_2:Int) (j_2:Int) (data_4:Tp8):ChO (fun κ=>zaz b j (r3 κ) i_2 j_2 data_4) (zaz b j r3' i_2 j_2 data_4):=by
  unfold zaz
  exact zdI (fun κ=>(zcj (r3 κ) b j i_2).mono) (zcj r3' b j i_2).mono (fun g h hg x=>zdh r3 r3' h_r3 (fun κ j_2 data_4=>g κ (j_2,data_4)) (fun j_2 data_4=>h (j_2,data_4)) (fun j_2 data_4=>hg (j_2,data_4)) b j i_2 x.1 x.2) _
theorem zbF (r3:Nat->Int->Int->Tp8->Option Tp5) (r3':Int->Int->Tp8->Option Tp5) (h_r3:∀ a0 a1 a2,ChO (fun κ=>r3 κ a0 a1 a2) (r3' a0 a1 a2)) (b:Int) (j:Int) (i_2:Int) (data_3:Tp8):ChO (fun κ=>zai b j (r3 κ) i_2 data_3) (zai b j r3' i_2 data_3):=by
  unfold zai
  repeat' with_reducible first | exact ChO.const _ | exact h_r3 _ _ _ | (apply zaU<;>assumption) | apply ChO.ite | apply ChO.G | apply ChO.both | (apply ChO.bind;intro _)
theorem zdg (r3:Nat->Int->Int->Tp8->Option Tp5) (r3':Int->Int->Tp8->Option Tp5) (h_r3:∀ a0 a1 a2,ChO (fun κ=>r3 κ a0 a1 a2) (r3' a0 a1 a2)) (r14:Nat->Int->Tp8->Option Tp5) (r14':Int->Tp8->Option Tp5) (h_r14:∀ a0 a1,ChO (fun κ=>r14 κ a0 a1) (r14' a0 a1)) (b:Int) (j:Int) (i_2:Int) (j_1:Int) (data_2:Tp8):ChO (fun κ=>zap b j (r3 κ) i_2 (r14 κ) j_1 data_2) (zap b j r3' i_2 r14' j_1 data_2):=by
  unfold zap
  repeat' with_reducible first | exact ChO.const _ | exact h_r3 _ _ _ | exact h_r14 _ _ | (apply zaU<;>assumption) | (apply zbF<;>assumption) | apply ChO.ite | apply ChO.G | apply ChO.both | (apply ChO.bind;intro _)
theorem zci (r3:Int->Int->Tp8->Option Tp5) (b:Int) (j:Int) (i_2:Int):Cn (zdQ b j r3 i_2):=fun g h hg x=>zdg (fun _=>r3) r3 (fun _ _ _=>ChO.const _) (fun κ j_1 data_2=>g κ (j_1,data_2)) (fun j_1 data_2=>h (j_1,data_2)) (fun j_1 data_2=>hg (j_1,data_2)) b j i_2 x.1 x.2
theorem zdC (r3:Int->Int->Tp8->Option Tp5) (b:Int) (j:Int) (i_2:Int) (j_1:Int) (data_2:Tp8):zay b j r3 i_2 j_1 data_2=zap b j r3 i_2 (zay b j r3 i_2) j_1 data_2:=zam (zci r3 b j i_2) (j_1,data_2)
theorem zch (r3:Nat->Int->Int->Tp8->Option Tp5) (r3':Int->Int->Tp8->Option Tp5) (h_r3:∀ a0 a1 a2,ChO (fun κ=>r3 κ a0 a1 a2) (r3' a0 a1 a2)) (b:Int) (j:Int) (i_2:Int) (j_1:Int) (data_2:Tp8):ChO (fun κ=>zay b j (r3 κ) i_2 j_1 data_2) (zay b j r3' i_2 j_1 data_2):=by
  unfold zay
  exact zdI (fun κ=>(zci (r3 κ) b j i_2).mono) (zci r3' b j i_2).mono (fun g h hg x=>zdg r3 r3' h_r3 (fun κ j_1 data_2=>g κ (j_1,data_2)) (fun j_1 data_2=>h (j_1,data_2)) (fun j_1 data_2=>hg (j_1,data_2)) b j i_2 x.1 x.2) _
theorem zdP (r3:Nat->Int->Int->Tp8->Option Tp5) (r3':Int->Int->Tp8->Option Tp5) (h_r3:∀ a0 a1 a2,ChO (fun κ=>r3 κ a0 a1 a2) (r3' a0 a1 a2)) (a:Int) (b:Int) (j:Int) (data_1:Tp8) (i_2:Int):ChO (fun κ=>zaC a b j data_1 (r3 κ) i_2) (zaC a b j data_1 r3' i_2):=by
  unfold zaC
  repeat' with_reducible first | exact ChO.const _ | exact h_r3 _ _ _ | (apply zaU<;>assumption) | (apply zbF<;>assumption) | (apply zch<;>assumption) | apply ChO.ite | apply ChO.G | apply ChO.both | (apply ChO.bind;intro _)
theorem zdo (r3:Nat->Int->Int->Tp8->Option Tp5) (r3':Int->Int->Tp8->Option Tp5) (h_r3:∀ a0 a1 a2,ChO (fun κ=>r3 κ a0 a1 a2) (r3' a0 a1 a2)) (r5:Nat->Int->Option Tp5) (r5':Int->Option Tp5) (h_r5:∀ a0,ChO (fun κ=>r5 κ a0) (r5' a0)) (a:Int) (b:Int) (j:Int) (data_1:Tp8) (i_1:Int):ChO (fun κ=>zav a b j data_1 (r3 κ) (r5 κ) i_1) (zav a b j data_1 r3' r5' i_1):=by
  unfold zav
  repeat' with_reducible first | exact ChO.const _ | exact h_r3 _ _ _ | exact h_r5 _ | (apply zaU<;>assumption) | (apply zbF<;>assumption) | (apply zch<;>assumption) | (apply zdP<;>assumption) | apply ChO.ite | apply ChO.G | apply ChO.both | (apply ChO.bind;intro _)
theorem zcp (r3:Int->Int->Tp8->Option Tp5) (a:Int) (b:Int) (j:Int) (data_1:Tp8):Cn (zec a b j data_1 r3):=fun g h hg x=>zdo (fun _=>r3) r3 (fun _ _ _=>ChO.const _) (fun κ i_1=>g κ i_1) (fun i_1=>h i_1) (fun i_1=>hg i_1) a b j data_1 x
theorem zdT (r3:Int->Int->Tp8->Option Tp5) (a:Int) (b:Int) (j:Int) (data_1:Tp8) (i_1:Int):zaD a b j data_1 r3 i_1=zav a b j data_1 r3 (zaD a b j data_1 r3) i_1:=zam (zcp r3 a b j data_1) i_1
theorem zhA (r3:Nat->Int->Int->Tp8->Option Tp5) (r3':Int->Int->Tp8->Option Tp5) (h_r3:∀ a0 a1 a2,ChO (fun κ=>r3 κ a0 a1 a2) (r3' a0 a1 a2)) (a:Int) (b:Int) (j:Int) (data_1:Tp8) (i_1:Int):ChO (fun κ=>zaD a b j data_1 (r3 κ) i_1) (zaD a b j data_1 r3' i_1):=by
  unfold zaD
  exact zdI (fun κ=>(zcp (r3 κ) a b j data_1).mono) (zcp r3' a b j data_1).mono (fun g h hg x=>zdo r3 r3' h_r3 (fun κ i_1=>g κ i_1) (fun i_1=>h i_1) (fun i_1=>hg i_1) a b j data_1 x) _
theorem zg3 (r3:Nat->Int->Int->Tp8->Option Tp5) (r3':Int->Int->Tp8->Option Tp5) (h_r3:∀ a0 a1 a2,ChO (fun κ=>r3 κ a0 a1 a2) (r3' a0 a1 a2)) (a:Int) (b:Int) (i:Int) (j:Int) (data_1:Tp8):ChO (fun κ=>zau a b (r3 κ) i j data_1) (zau a b r3' i j data_1):=by
  unfold zau
  repeat' with_reducible first | exact ChO.const _ | exact h_r3 _ _ _ | (apply zaU<;>assumption) | (apply zbF<;>assumption) | (apply zch<;>assumption) | (apply zdP<;>assumption) | (apply zhA<;>assumption) | apply ChO.ite | apply ChO.G | apply ChO.both | (apply ChO.bind;intro _)
theorem zhz  (a:Int) (b:Int):Cn (zeb a b):=fun g h hg x=>zg3  (fun κ i j data_1=>g κ (i,j,data_1)) (fun i j data_1=>h (i,j,data_1)) (fun i j data_1=>hg (i,j,data_1)) a b x.1 x.2.1 x.2.2
theorem zdS  (a:Int) (b:Int) (i:Int) (j:Int) (data_1:Tp8):zbh a b i j data_1=zau a b (zbh a b) i j data_1:=zam (zhz a b) (i,j,data_1)

def zaX (data_1:Tp8) (r3o:(Int->Int->Tp8->Option Tp6)) (i_2:Int) (j_2:Int):Option Tp6:=
  if (decide (j_2 < i_2))=true then
  some (i_2,data_1) else
  G (0<=j_2/\j_2 < (data_1.length:Int)) (
  G ((j_2).toNat < data_1.length) (
  G (0<=i_2/\i_2 < (data_1.length:Int)) (
  G ((i_2).toNat < data_1.length) (
  G (0<=i_2/\i_2 < (data_1.length:Int)) (
  G ((i_2).toNat < data_1.length) (
  G (0<=j_2/\j_2 < ((data_1.set (i_2).toNat (ix data_1 j_2)).length:Int)) (
  G ((j_2).toNat < (data_1.set (i_2).toNat (ix data_1 j_2)).length) (
  G (fits (i_2+(1:Int))) (
  G (fits (j_2 - (1:Int))) (
  r3o (i_2+(1:Int)) (j_2 - (1:Int)) ((data_1.set (i_2).toNat (ix data_1 j_2)).set (j_2).toNat (ix data_1 i_2))))))))))))
def zaL (a:Int) (data_1:Tp8) (r3o:(Int->Int->Tp8->Option Tp6)) (i_2:Int) (r5:Int->Option Tp6) (j_1:Int):Option Tp6:=
  if (decide (i_2<=j_1))=true then
  G (0<=a/\a < (data_1.length:Int)) (
  G ((a).toNat < data_1.length) (
  G (0<=j_1/\j_1 < (data_1.length:Int)) (
  G ((j_1).toNat < data_1.length) (
  (zb8 (ix data_1 a) (ix data_1 j_1)).bind (fun y'_1=>
  if (decide (y'_1 < (0:Int)))=true then
  G (fits (j_1 - (1:Int))) (
  r5 (j_1 - (1:Int))) else
  zaX data_1 r3o i_2 j_1))))) else
  zaX data_1 r3o i_2 j_1
def zfy (a:Int) (data_1:Tp8) (r3o:(Int->Int->Tp8->Option Tp6)) (i_2:Int):(Int->Option Tp6)->Int->Option Tp6:=
  fun rec x=>zaL a data_1 r3o i_2 (fun j_1=>rec j_1) x
def zaZ (a:Int) (data_1:Tp8) (r3o:(Int->Int->Tp8->Option Tp6)) (i_2:Int) (j_1:Int):Option Tp6:=LFix (zfy a data_1 r3o i_2 ) j_1
def zaW (a:Int) (j:Int) (data_1:Tp8) (r3o:(Int->Int->Tp8->Option Tp6)) (i_2:Int):Option Tp6:=
  zaZ a data_1 r3o i_2 j
def zaK (a:Int) (j:Int) (data_1:Tp8) (r3o:(Int->Int->Tp8->Option Tp6)) (r3:Int->Option Tp6) (i_1:Int):Option Tp6:=
  if (decide (i_1<=j))=true then
  G (0<=a/\a < (data_1.length:Int)) (
  G ((a).toNat < data_1.length) (
  G (0<=i_1/\i_1 < (data_1.length:Int)) (
  G ((i_1).toNat < data_1.length) (
  (zb8 (ix data_1 a) (ix data_1 i_1)).bind (fun y'=>
  if (!(decide (y' < (0:Int))))=true then
  G (fits (i_1+(1:Int))) (
  r3 (i_1+(1:Int))) else
  zaW a j data_1 r3o i_1))))) else
  zaW a j data_1 r3o i_1
def zfx (a:Int) (j:Int) (data_1:Tp8) (r3o:(Int->Int->Tp8->Option Tp6)):(Int->Option Tp6)->Int->Option Tp6:=
  fun rec x=>zaK a j data_1 r3o (fun i_1=>rec i_1) x
def zaY (a:Int) (j:Int) (data_1:Tp8) (r3o:(Int->Int->Tp8->Option Tp6)) (i_1:Int):Option Tp6:=LFix (zfx a j data_1 r3o ) i_1
def za6 (a:Int) (r3o:Int->Int->Tp8->Option Tp6) (i:Int) (j:Int) (data_1:Tp8):Option Tp6:=
  zaY a j data_1 r3o i
def zfe (a:Int):(Int×Int×Tp8->Option Tp6)->Int×Int×Tp8->Option Tp6:=
  fun rec x=>za6 a (fun i j data_1=>rec (i,j,data_1)) x.1 x.2.1 x.2.2
def zcr (a:Int) (i:Int) (j:Int) (data_1:Tp8):Option Tp6:=LFix (zfe a ) (i,j,data_1)
def zcU (a:Int) (b:Int) (pivot:Int) (data:Tp8):Option Tp6:=
  G (0<=pivot/\pivot < (data.length:Int)) (
  G ((pivot).toNat < data.length) (
  G (0<=a/\a < (data.length:Int)) (
  G ((a).toNat < data.length) (
  G (0<=a/\a < (data.length:Int)) (
  G ((a).toNat < data.length) (
  G (0<=pivot/\pivot < ((data.set (a).toNat (ix data pivot)).length:Int)) (
  G ((pivot).toNat < (data.set (a).toNat (ix data pivot)).length) (
  G (fits (a+(1:Int))) (
  G (fits (b - (1:Int))) (
  zcr a (a+(1:Int)) (b - (1:Int)) ((data.set (a).toNat (ix data pivot)).set (pivot).toNat (ix data a))))))))))))
theorem zcb (r3o:Nat->Int->Int->Tp8->Option Tp6) (r3o':Int->Int->Tp8->Option Tp6) (h_r3o:∀ a0 a1 a2,ChO (fun κ=>r3o κ a0 a1 a2) (r3o' a0 a1 a2)) (data_1:Tp8) (i_2:Int) (j_2:Int):ChO (fun κ=>zaX data_1 (r3o κ) i_2 j_2) (zaX data_1 r3o' i_2 j_2):=by
  unfold zaX
  repeat' with_reducible first | exact ChO.const _ | exact h_r3o _ _ _ | apply ChO.ite | apply ChO.G | apply ChO.both | (apply ChO.bind;intro _)
theorem zeW (r3o:Nat->Int->Int->Tp8->Option Tp6) (r3o':Int->Int->Tp8->Option Tp6) (h_r3o:∀ a0 a1 a2,ChO (fun κ=>r3o κ a0 a1 a2) (r3o' a0 a1 a2)) (r5:Nat->Int->Option Tp6) (r5':Int->Option Tp6) (h_r5:∀ a0,ChO (fun κ=>r5 κ a0) (r5' a0)) (a:Int) (data_1:Tp8) (i_2:Int) (j_1:Int):ChO (fun κ=>zaL a data_1 (r3o κ) i_2 (r5 κ) j_1) (zaL a data_1 r3o' i_2 r5' j_1):=by
  unfold zaL
  repeat' with_reducible first | exact ChO.const _ | exact h_r3o _ _ _ | exact h_r5 _ | (apply zcb<;>assumption) | apply ChO.ite | apply ChO.G | apply ChO.both | (apply ChO.bind;intro _)
theorem zc1 (r3o:Int->Int->Tp8->Option Tp6) (a:Int) (data_1:Tp8) (i_2:Int):Cn (zfy a data_1 r3o i_2):=fun g h hg x=>zeW (fun _=>r3o) r3o (fun _ _ _=>ChO.const _) (fun κ j_1=>g κ j_1) (fun j_1=>h j_1) (fun j_1=>hg j_1) a data_1 i_2 x
theorem zff (r3o:Int->Int->Tp8->Option Tp6) (a:Int) (data_1:Tp8) (i_2:Int) (j_1:Int):zaZ a data_1 r3o i_2 j_1=zaL a data_1 r3o i_2 (zaZ a data_1 r3o i_2) j_1:=zam (zc1 r3o a data_1 i_2) j_1
theorem zc0 (r3o:Nat->Int->Int->Tp8->Option Tp6) (r3o':Int->Int->Tp8->Option Tp6) (h_r3o:∀ a0 a1 a2,ChO (fun κ=>r3o κ a0 a1 a2) (r3o' a0 a1 a2)) (a:Int) (data_1:Tp8) (i_2:Int) (j_1:Int):ChO (fun κ=>zaZ a data_1 (r3o κ) i_2 j_1) (zaZ a data_1 r3o' i_2 j_1):=by
  unfold zaZ
  exact zdI (fun κ=>(zc1 (r3o κ) a data_1 i_2).mono) (zc1 r3o' a data_1 i_2).mono (fun g h hg x=>zeW r3o r3o' h_r3o (fun κ j_1=>g κ j_1) (fun j_1=>h j_1) (fun j_1=>hg j_1) a data_1 i_2 x) _
theorem zfc (r3o:Nat->Int->Int->Tp8->Option Tp6) (r3o':Int->Int->Tp8->Option Tp6) (h_r3o:∀ a0 a1 a2,ChO (fun κ=>r3o κ a0 a1 a2) (r3o' a0 a1 a2)) (a:Int) (j:Int) (data_1:Tp8) (i_2:Int):ChO (fun κ=>zaW a j data_1 (r3o κ) i_2) (zaW a j data_1 r3o' i_2):=by
  unfold zaW
  repeat' with_reducible first | exact ChO.const _ | exact h_r3o _ _ _ | (apply zcb<;>assumption) | (apply zc0<;>assumption) | apply ChO.ite | apply ChO.G | apply ChO.both | (apply ChO.bind;intro _)
theorem zeV (r3o:Nat->Int->Int->Tp8->Option Tp6) (r3o':Int->Int->Tp8->Option Tp6) (h_r3o:∀ a0 a1 a2,ChO (fun κ=>r3o κ a0 a1 a2) (r3o' a0 a1 a2)) (r3:Nat->Int->Option Tp6) (r3':Int->Option Tp6) (h_r3:∀ a0,ChO (fun κ=>r3 κ a0) (r3' a0)) (a:Int) (j:Int) (data_1:Tp8) (i_1:Int):ChO (fun κ=>zaK a j data_1 (r3o κ) (r3 κ) i_1) (zaK a j data_1 r3o' r3' i_1):=by
  unfold zaK
  repeat' with_reducible first | exact ChO.const _ | exact h_r3o _ _ _ | exact h_r3 _ | (apply zcb<;>assumption) | (apply zc0<;>assumption) | (apply zfc<;>assumption) | apply ChO.ite | apply ChO.G | apply ChO.both | (apply ChO.bind;intro _)
theorem zcZ (r3o:Int->Int->Tp8->Option Tp6) (a:Int) (j:Int) (data_1:Tp8):Cn (zfx a j data_1 r3o):=fun g h hg x=>zeV (fun _=>r3o) r3o (fun _ _ _=>ChO.const _) (fun κ i_1=>g κ i_1) (fun i_1=>h i_1) (fun i_1=>hg i_1) a j data_1 x
theorem zfd (r3o:Int->Int->Tp8->Option Tp6) (a:Int) (j:Int) (data_1:Tp8) (i_1:Int):zaY a j data_1 r3o i_1=zaK a j data_1 r3o (zaY a j data_1 r3o) i_1:=zam (zcZ r3o a j data_1) i_1
theorem zje (r3o:Nat->Int->Int->Tp8->Option Tp6) (r3o':Int->Int->Tp8->Option Tp6) (h_r3o:∀ a0 a1 a2,ChO (fun κ=>r3o κ a0 a1 a2) (r3o' a0 a1 a2)) (a:Int) (j:Int) (data_1:Tp8) (i_1:Int):ChO (fun κ=>zaY a j data_1 (r3o κ) i_1) (zaY a j data_1 r3o' i_1):=by
  unfold zaY
  exact zdI (fun κ=>(zcZ (r3o κ) a j data_1).mono) (zcZ r3o' a j data_1).mono (fun g h hg x=>zeV r3o r3o' h_r3o (fun κ i_1=>g κ i_1) (fun i_1=>h i_1) (fun i_1=>hg i_1) a j data_1 x) _
theorem zik (r3o:Nat->Int->Int->Tp8->Option Tp6) (r3o':Int->Int->Tp8->Option Tp6) (h_r3o:∀ a0 a1 a2,ChO (fun κ=>r3o κ a0 a1 a2) (r3o' a0 a1 a2)) (a:Int) (i:Int) (j:Int) (data_1:Tp8):ChO (fun κ=>za6 a (r3o κ) i j data_1) (za6 a r3o' i j data_1):=by
  unfold za6
  repeat' with_reducible first | exact ChO.const _ | exact h_r3o _ _ _ | (apply zcb<;>assumption) | (apply zc0<;>assumption) | (apply zfc<;>assumption) | (apply zje<;>assumption) | apply ChO.ite | apply ChO.G | apply ChO.both | (apply ChO.bind;intro _)
theorem ziR  (a:Int):Cn (zfe a):=fun g h hg x=>zik  (fun κ i j data_1=>g κ (i,j,data_1)) (fun i j data_1=>h (i,j,data_1)) (fun i j data_1=>hg (i,j,data_1)) a x.1 x.2.1 x.2.2
theorem ziS  (a:Int) (i:Int) (j:Int) (data_1:Tp8):zcr a i j data_1=za6 a (zcr a) i j data_1:=zam (ziR a) (i,j,data_1)

def zbu (a:Int) (data_1:Tp8) (r13o:(Int->Int->Tp8->Option Tp4)) (i_4:Int) (j_4:Int):Option Tp4:=
  if (decide (j_4 < i_4))=true then
  G (0<=a/\a < (data_1.length:Int)) (
  G ((a).toNat < data_1.length) (
  G (0<=j_4/\j_4 < (data_1.length:Int)) (
  G ((j_4).toNat < data_1.length) (
  G (0<=j_4/\j_4 < (data_1.length:Int)) (
  G ((j_4).toNat < data_1.length) (
  G (0<=a/\a < ((data_1.set (j_4).toNat (ix data_1 a)).length:Int)) (
  G ((a).toNat < (data_1.set (j_4).toNat (ix data_1 a)).length) (
  some (j_4,false,(data_1.set (j_4).toNat (ix data_1 a)).set (a).toNat (ix data_1 j_4)))))))))) else
  G (0<=j_4/\j_4 < (data_1.length:Int)) (
  G ((j_4).toNat < data_1.length) (
  G (0<=i_4/\i_4 < (data_1.length:Int)) (
  G ((i_4).toNat < data_1.length) (
  G (0<=i_4/\i_4 < (data_1.length:Int)) (
  G ((i_4).toNat < data_1.length) (
  G (0<=j_4/\j_4 < ((data_1.set (i_4).toNat (ix data_1 j_4)).length:Int)) (
  G ((j_4).toNat < (data_1.set (i_4).toNat (ix data_1 j_4)).length) (
  G (fits (i_4+(1:Int))) (
  G (fits (j_4 - (1:Int))) (
  r13o (i_4+(1:Int)) (j_4 - (1:Int)) ((data_1.set (i_4).toNat (ix data_1 j_4)).set (j_4).toNat (ix data_1 i_4))))))))))))
def zbe (a:Int) (data_1:Tp8) (r13o:(Int->Int->Tp8->Option Tp4)) (i_4:Int) (r15:Int->Option Tp4) (j_3:Int):Option Tp4:=
  if (decide (i_4<=j_3))=true then
  G (0<=j_3/\j_3 < (data_1.length:Int)) (
  G ((j_3).toNat < data_1.length) (
  G (0<=a/\a < (data_1.length:Int)) (
  G ((a).toNat < data_1.length) (
  (zb8 (ix data_1 j_3) (ix data_1 a)).bind (fun y'_3=>
  if (!(decide (y'_3 < (0:Int))))=true then
  G (fits (j_3 - (1:Int))) (
  r15 (j_3 - (1:Int))) else
  zbu a data_1 r13o i_4 j_3))))) else
  zbu a data_1 r13o i_4 j_3
def zg6 (a:Int) (data_1:Tp8) (r13o:(Int->Int->Tp8->Option Tp4)) (i_4:Int):(Int->Option Tp4)->Int->Option Tp4:=
  fun rec x=>zbe a data_1 r13o i_4 (fun j_3=>rec j_3) x
def zbw (a:Int) (data_1:Tp8) (r13o:(Int->Int->Tp8->Option Tp4)) (i_4:Int) (j_3:Int):Option Tp4:=LFix (zg6 a data_1 r13o i_4 ) j_3
def zbt (a:Int) (j_2:Int) (data_1:Tp8) (r13o:(Int->Int->Tp8->Option Tp4)) (i_4:Int):Option Tp4:=
  zbw a data_1 r13o i_4 j_2
def zbd (a:Int) (j_2:Int) (data_1:Tp8) (r13o:(Int->Int->Tp8->Option Tp4)) (r13:Int->Option Tp4) (i_3:Int):Option Tp4:=
  if (decide (i_3<=j_2))=true then
  G (0<=i_3/\i_3 < (data_1.length:Int)) (
  G ((i_3).toNat < data_1.length) (
  G (0<=a/\a < (data_1.length:Int)) (
  G ((a).toNat < data_1.length) (
  (zb8 (ix data_1 i_3) (ix data_1 a)).bind (fun y'_2=>
  if (decide (y'_2 < (0:Int)))=true then
  G (fits (i_3+(1:Int))) (
  r13 (i_3+(1:Int))) else
  zbt a j_2 data_1 r13o i_3))))) else
  zbt a j_2 data_1 r13o i_3
def zg5 (a:Int) (j_2:Int) (data_1:Tp8) (r13o:(Int->Int->Tp8->Option Tp4)):(Int->Option Tp4)->Int->Option Tp4:=
  fun rec x=>zbd a j_2 data_1 r13o (fun i_3=>rec i_3) x
def zbv (a:Int) (j_2:Int) (data_1:Tp8) (r13o:(Int->Int->Tp8->Option Tp4)) (i_3:Int):Option Tp4:=LFix (zg5 a j_2 data_1 r13o ) i_3
def zbI (a:Int) (r13o:Int->Int->Tp8->Option Tp4) (i_2:Int) (j_2:Int) (data_1:Tp8):Option Tp4:=
  zbv a j_2 data_1 r13o i_2
def zgy (a:Int):(Int×Int×Tp8->Option Tp4)->Int×Int×Tp8->Option Tp4:=
  fun rec x=>zbI a (fun i_2 j_2 data_1=>rec (i_2,j_2,data_1)) x.1 x.2.1 x.2.2
def zcT (a:Int) (i_2:Int) (j_2:Int) (data_1:Tp8):Option Tp4:=LFix (zgy a ) (i_2,j_2,data_1)
def zdr (a:Int) (pivot:Int) (data:Tp8) (i_1:Int) (j_1:Int):Option Tp4:=
  if (decide (j_1 < i_1))=true then
  G (0<=a/\a < (((data.set (a).toNat (ix data pivot)).set (pivot).toNat (ix data a)).length:Int)) (
  G ((a).toNat < ((data.set (a).toNat (ix data pivot)).set (pivot).toNat (ix data a)).length) (
  G (0<=j_1/\j_1 < (((data.set (a).toNat (ix data pivot)).set (pivot).toNat (ix data a)).length:Int)) (
  G ((j_1).toNat < ((data.set (a).toNat (ix data pivot)).set (pivot).toNat (ix data a)).length) (
  G (0<=j_1/\j_1 < (((data.set (a).toNat (ix data pivot)).set (pivot).toNat (ix data a)).length:Int)) (
  G ((j_1).toNat < ((data.set (a).toNat (ix data pivot)).set (pivot).toNat (ix data a)).length) (
  G (0<=a/\a < ((((data.set (a).toNat (ix data pivot)).set (pivot).toNat (ix data a)).set (j_1).toNat (ix ((data.set (a).toNat (ix data pivot)).set (pivot).toNat (ix data a)) a)).length:Int)) (
  G ((a).toNat < (((data.set (a).toNat (ix data pivot)).set (pivot).toNat (ix data a)).set (j_1).toNat (ix ((data.set (a).toNat (ix data pivot)).set (pivot).toNat (ix data a)) a)).length) (
  some (j_1,true,(((data.set (a).toNat (ix data pivot)).set (pivot).toNat (ix data a)).set (j_1).toNat (ix ((data.set (a).toNat (ix data pivot)).set (pivot).toNat (ix data a)) a)).set (a).toNat (ix ((data.set (a).toNat (ix data pivot)).set (pivot).toNat (ix data a)) j_1)))))))))) else
  G (0<=j_1/\j_1 < (((data.set (a).toNat (ix data pivot)).set (pivot).toNat (ix data a)).length:Int)) (
  G ((j_1).toNat < ((data.set (a).toNat (ix data pivot)).set (pivot).toNat (ix data a)).length) (
  G (0<=i_1/\i_1 < (((data.set (a).toNat (ix data pivot)).set (pivot).toNat (ix data a)).length:Int)) (
  G ((i_1).toNat < ((data.set (a).toNat (ix data pivot)).set (pivot).toNat (ix data a)).length) (
  G (0<=i_1/\i_1 < (((data.set (a).toNat (ix data pivot)).set (pivot).toNat (ix data a)).length:Int)) (
  G ((i_1).toNat < ((data.set (a).toNat (ix data pivot)).set (pivot).toNat (ix data a)).length) (
  G (0<=j_1/\j_1 < ((((data.set (a).toNat (ix data pivot)).set (pivot).toNat (ix data a)).set (i_1).toNat (ix ((data.set (a).toNat (ix data pivot)).set (pivot).toNat (ix data a)) j_1)).length:Int)) (
  G ((j_1).toNat < (((data.set (a).toNat (ix data pivot)).set (pivot).toNat (ix data a)).set (i_1).toNat (ix ((data.set (a).toNat (ix data pivot)).set (pivot).toNat (ix data a)) j_1)).length) (
  G (fits (i_1+(1:Int))) (
  G (fits (j_1 - (1:Int))) (
  zcT a (i_1+(1:Int)) (j_1 - (1:Int)) ((((data.set (a).toNat (ix data pivot)).set (pivot).toNat (ix data a)).set (i_1).toNat (ix ((data.set (a).toNat (ix data pivot)).set (pivot).toNat (ix data a)) j_1)).set (j_1).toNat (ix ((data.set (a).toNat (ix data pivot)).set (pivot).toNat (ix data a)) i_1))))))))))))
def zbk (a:Int) (pivot:Int) (data:Tp8) (i_1:Int) (r5:Int->Option Tp4) (j:Int):Option Tp4:=
  if (decide (i_1<=j))=true then
  G (0<=j/\j < (((data.set (a).toNat (ix data pivot)).set (pivot).toNat (ix data a)).length:Int)) (
  G ((j).toNat < ((data.set (a).toNat (ix data pivot)).set (pivot).toNat (ix data a)).length) (
  G (0<=a/\a < (((data.set (a).toNat (ix data pivot)).set (pivot).toNat (ix data a)).length:Int)) (
  G ((a).toNat < ((data.set (a).toNat (ix data pivot)).set (pivot).toNat (ix data a)).length) (
  (zb8 (ix ((data.set (a).toNat (ix data pivot)).set (pivot).toNat (ix data a)) j) (ix ((data.set (a).toNat (ix data pivot)).set (pivot).toNat (ix data a)) a)).bind (fun y'_1=>
  if (!(decide (y'_1 < (0:Int))))=true then
  G (fits (j - (1:Int))) (
  r5 (j - (1:Int))) else
  zdr a pivot data i_1 j))))) else
  zdr a pivot data i_1 j
def zhs (a:Int) (pivot:Int) (data:Tp8) (i_1:Int):(Int->Option Tp4)->Int->Option Tp4:=
  fun rec x=>zbk a pivot data i_1 (fun j=>rec j) x
def zdt (a:Int) (pivot:Int) (data:Tp8) (i_1:Int) (j:Int):Option Tp4:=LFix (zhs a pivot data i_1 ) j
def zdq (a:Int) (b:Int) (pivot:Int) (data:Tp8) (i_1:Int):Option Tp4:=
  zdt a pivot data i_1 (b - (1:Int))
def zbj (a:Int) (b:Int) (pivot:Int) (data:Tp8) (r3:Int->Option Tp4) (i:Int):Option Tp4:=
  if (decide (i<=(b - (1:Int))))=true then
  G (0<=i/\i < (((data.set (a).toNat (ix data pivot)).set (pivot).toNat (ix data a)).length:Int)) (
  G ((i).toNat < ((data.set (a).toNat (ix data pivot)).set (pivot).toNat (ix data a)).length) (
  G (0<=a/\a < (((data.set (a).toNat (ix data pivot)).set (pivot).toNat (ix data a)).length:Int)) (
  G ((a).toNat < ((data.set (a).toNat (ix data pivot)).set (pivot).toNat (ix data a)).length) (
  (zb8 (ix ((data.set (a).toNat (ix data pivot)).set (pivot).toNat (ix data a)) i) (ix ((data.set (a).toNat (ix data pivot)).set (pivot).toNat (ix data a)) a)).bind (fun y'=>
  if (decide (y' < (0:Int)))=true then
  G (fits (i+(1:Int))) (
  r3 (i+(1:Int))) else
  zdq a b pivot data i))))) else
  zdq a b pivot data i
def zhr (a:Int) (b:Int) (pivot:Int) (data:Tp8):(Int->Option Tp4)->Int->Option Tp4:=
  fun rec x=>zbj a b pivot data (fun i=>rec i) x
def zds (a:Int) (b:Int) (pivot:Int) (data:Tp8) (i:Int):Option Tp4:=LFix (zhr a b pivot data ) i
def zeF (a:Int) (b:Int) (pivot:Int) (data:Tp8):Option Tp4:=
  G (0<=pivot/\pivot < (data.length:Int)) (
  G ((pivot).toNat < data.length) (
  G (0<=a/\a < (data.length:Int)) (
  G ((a).toNat < data.length) (
  G (0<=a/\a < (data.length:Int)) (
  G ((a).toNat < data.length) (
  G (0<=pivot/\pivot < ((data.set (a).toNat (ix data pivot)).length:Int)) (
  G ((pivot).toNat < (data.set (a).toNat (ix data pivot)).length) (
  G (fits (a+(1:Int))) (
  G (fits (b - (1:Int))) (
  zds a b pivot data (a+(1:Int))))))))))))
theorem zbH (r13o:Nat->Int->Int->Tp8->Option Tp4) (r13o':Int->Int->Tp8->Option Tp4) (h_r13o:∀ a0 a1 a2,ChO (fun κ=>r13o κ a0 a1 a2) (r13o' a0 a1 a2)) (a:Int) (data_1:Tp8) (i_4:Int) (j_4:Int):ChO (fun κ=>zbu a data_1 (r13o κ) i_4 j_4) (zbu a data_1 r13o' i_4 j_4):=by
  unfold zbu
  repeat' with_reducible first | exact ChO.const _ | exact h_r13o _ _ _ | apply ChO.ite | apply ChO.G | apply ChO.both | (apply ChO.bind;intro _)
theorem zfV (r13o:Nat->Int->Int->Tp8->Option Tp4) (r13o':Int->Int->Tp8->Option Tp4) (h_r13o:∀ a0 a1 a2,ChO (fun κ=>r13o κ a0 a1 a2) (r13o' a0 a1 a2)) (r15:Nat->Int->Option Tp4) (r15':Int->Option Tp4) (h_r15:∀ a0,ChO (fun κ=>r15 κ a0) (r15' a0)) (a:Int) (data_1:Tp8) (i_4:Int) (j_3:Int):ChO (fun κ=>zbe a data_1 (r13o κ) i_4 (r15 κ) j_3) (zbe a data_1 r13o' i_4 r15' j_3):=by
  unfold zbe
  repeat' with_reducible first | exact ChO.const _ | exact h_r13o _ _ _ | exact h_r15 _ | (apply zbH<;>assumption) | apply ChO.ite | apply ChO.G | apply ChO.both | (apply ChO.bind;intro _)
theorem zeh (r13o:Int->Int->Tp8->Option Tp4) (a:Int) (data_1:Tp8) (i_4:Int):Cn (zg6 a data_1 r13o i_4):=fun g h hg x=>zfV (fun _=>r13o) r13o (fun _ _ _=>ChO.const _) (fun κ j_3=>g κ j_3) (fun j_3=>h j_3) (fun j_3=>hg j_3) a data_1 i_4 x
theorem zgz (r13o:Int->Int->Tp8->Option Tp4) (a:Int) (data_1:Tp8) (i_4:Int) (j_3:Int):zbw a data_1 r13o i_4 j_3=zbe a data_1 r13o i_4 (zbw a data_1 r13o i_4) j_3:=zam (zeh r13o a data_1 i_4) j_3
theorem zb4 (r13o:Nat->Int->Int->Tp8->Option Tp4) (r13o':Int->Int->Tp8->Option Tp4) (h_r13o:∀ a0 a1 a2,ChO (fun κ=>r13o κ a0 a1 a2) (r13o' a0 a1 a2)) (a:Int) (data_1:Tp8) (i_4:Int) (j_3:Int):ChO (fun κ=>zbw a data_1 (r13o κ) i_4 j_3) (zbw a data_1 r13o' i_4 j_3):=by
  unfold zbw
  exact zdI (fun κ=>(zeh (r13o κ) a data_1 i_4).mono) (zeh r13o' a data_1 i_4).mono (fun g h hg x=>zfV r13o r13o' h_r13o (fun κ j_3=>g κ j_3) (fun j_3=>h j_3) (fun j_3=>hg j_3) a data_1 i_4 x) _
theorem zcF (r13o:Nat->Int->Int->Tp8->Option Tp4) (r13o':Int->Int->Tp8->Option Tp4) (h_r13o:∀ a0 a1 a2,ChO (fun κ=>r13o κ a0 a1 a2) (r13o' a0 a1 a2)) (a:Int) (j_2:Int) (data_1:Tp8) (i_4:Int):ChO (fun κ=>zbt a j_2 data_1 (r13o κ) i_4) (zbt a j_2 data_1 r13o' i_4):=by
  unfold zbt
  repeat' with_reducible first | exact ChO.const _ | exact h_r13o _ _ _ | (apply zbH<;>assumption) | (apply zb4<;>assumption) | apply ChO.ite | apply ChO.G | apply ChO.both | (apply ChO.bind;intro _)
theorem zfU (r13o:Nat->Int->Int->Tp8->Option Tp4) (r13o':Int->Int->Tp8->Option Tp4) (h_r13o:∀ a0 a1 a2,ChO (fun κ=>r13o κ a0 a1 a2) (r13o' a0 a1 a2)) (r13:Nat->Int->Option Tp4) (r13':Int->Option Tp4) (h_r13:∀ a0,ChO (fun κ=>r13 κ a0) (r13' a0)) (a:Int) (j_2:Int) (data_1:Tp8) (i_3:Int):ChO (fun κ=>zbd a j_2 data_1 (r13o κ) (r13 κ) i_3) (zbd a j_2 data_1 r13o' r13' i_3):=by
  unfold zbd
  repeat' with_reducible first | exact ChO.const _ | exact h_r13o _ _ _ | exact h_r13 _ | (apply zbH<;>assumption) | (apply zb4<;>assumption) | (apply zcF<;>assumption) | apply ChO.ite | apply ChO.G | apply ChO.both | (apply ChO.bind;intro _)
theorem zeg (r13o:Int->Int->Tp8->Option Tp4) (a:Int) (j_2:Int) (data_1:Tp8):Cn (zg5 a j_2 data_1 r13o):=fun g h hg x=>zfU (fun _=>r13o) r13o (fun _ _ _=>ChO.const _) (fun κ i_3=>g κ i_3) (fun i_3=>h i_3) (fun i_3=>hg i_3) a j_2 data_1 x
theorem zgx (r13o:Int->Int->Tp8->Option Tp4) (a:Int) (j_2:Int) (data_1:Tp8) (i_3:Int):zbv a j_2 data_1 r13o i_3=zbd a j_2 data_1 r13o (zbv a j_2 data_1 r13o) i_3:=zam (zeg r13o a j_2 data_1) i_3
theorem zef (r13o:Nat->Int->Int->Tp8->Option Tp4) (r13o':Int->Int->Tp8->Option Tp4) (h_r13o:∀ a0 a1 a2,ChO (fun κ=>r13o κ a0 a1 a2) (r13o' a0 a1 a2)) (a:Int) (j_2:Int) (data_1:Tp8) (i_3:Int):ChO (fun κ=>zbv a j_2 data_1 (r13o κ) i_3) (zbv a j_2 data_1 r13o' i_3):=by
  unfold zbv
  exact zdI (fun κ=>(zeg (r13o κ) a j_2 data_1).mono) (zeg r13o' a j_2 data_1).mono (fun g h hg x=>zfU r13o r13o' h_r13o (fun κ i_3=>g κ i_3) (fun i_3=>h i_3) (fun i_3=>hg i_3) a j_2 data_1 x) _
theorem zjS (r13o:Nat->Int->Int->Tp8->Option Tp4) (r13o':Int->Int->Tp8->Option Tp4) (h_r13o:∀ a0 a1 a2,ChO (fun κ=>r13o κ a0 a1 a2) (r13o' a0 a1 a2)) (a:Int) (i_2:Int) (j_2:Int) (data_1:Tp8):ChO (fun κ=>zbI a (r13o κ) i_2 j_2 data_1) (zbI a r13o' i_2 j_2 data_1):=by
  unfold zbI
  repeat' with_reducible first | exact ChO.const _ | exact h_r13o _ _ _ | (apply zbH<;>assumption) | (apply zb4<;>assumption) | (apply zcF<;>assumption) | (apply zef<;>assumption) | apply ChO.ite | apply ChO.G | apply ChO.both | (apply ChO.bind;intro _)
theorem zko  (a:Int):Cn (zgy a):=fun g h hg x=>zjS  (fun κ i_2 j_2 data_1=>g κ (i_2,j_2,data_1)) (fun i_2 j_2 data_1=>h (i_2,j_2,data_1)) (fun i_2 j_2 data_1=>hg (i_2,j_2,data_1)) a x.1 x.2.1 x.2.2
theorem zkp  (a:Int) (i_2:Int) (j_2:Int) (data_1:Tp8):zcT a i_2 j_2 data_1=zbI a (zcT a) i_2 j_2 data_1:=zam (zko a) (i_2,j_2,data_1)
theorem zkr (r5:Nat->Int->Option Tp4) (r5':Int->Option Tp4) (h_r5:∀ a0,ChO (fun κ=>r5 κ a0) (r5' a0)) (a:Int) (pivot:Int) (data:Tp8) (i_1:Int) (j:Int):ChO (fun κ=>zbk a pivot data i_1 (r5 κ) j) (zbk a pivot data i_1 r5' j):=by
  unfold zbk
  repeat' with_reducible first | exact ChO.const _ | exact h_r5 _ | (apply zbH<;>assumption) | (apply zb4<;>assumption) | (apply zcF<;>assumption) | (apply zef<;>assumption) | apply ChO.ite | apply ChO.G | apply ChO.both | (apply ChO.bind;intro _)
theorem zla  (a:Int) (pivot:Int) (data:Tp8) (i_1:Int):Cn (zhs a pivot data i_1):=fun g h hg x=>zkr  (fun κ j=>g κ j) (fun j=>h j) (fun j=>hg j) a pivot data i_1 x
theorem zg8  (a:Int) (pivot:Int) (data:Tp8) (i_1:Int) (j:Int):zdt a pivot data i_1 j=zbk a pivot data i_1 (zdt a pivot data i_1) j:=zam (zla a pivot data i_1) j
theorem zkq (r3:Nat->Int->Option Tp4) (r3':Int->Option Tp4) (h_r3:∀ a0,ChO (fun κ=>r3 κ a0) (r3' a0)) (a:Int) (b:Int) (pivot:Int) (data:Tp8) (i:Int):ChO (fun κ=>zbj a b pivot data (r3 κ) i) (zbj a b pivot data r3' i):=by
  unfold zbj
  repeat' with_reducible first | exact ChO.const _ | exact h_r3 _ | (apply zbH<;>assumption) | (apply zb4<;>assumption) | (apply zcF<;>assumption) | (apply zef<;>assumption) | apply ChO.ite | apply ChO.G | apply ChO.both | (apply ChO.bind;intro _)
theorem zk9  (a:Int) (b:Int) (pivot:Int) (data:Tp8):Cn (zhr a b pivot data):=fun g h hg x=>zkq  (fun κ i=>g κ i) (fun i=>h i) (fun i=>hg i) a b pivot data x
theorem zg7  (a:Int) (b:Int) (pivot:Int) (data:Tp8) (i:Int):zds a b pivot data i=zbj a b pivot data (zds a b pivot data) i:=zam (zk9 a b pivot data) i

def zbN (zaa:Tf8) (a_1:Int) (b_1:Int) (wasBalanced:Bool) (wasPartitioned:Bool) (r2:(Int->Int->Int->Bool->Bool->Tp8->Option Tp8)) (limit_2:Int) (pivot:Int) (data_4:Tp8) (t_1:Bool):Option Tp8:=
  if t_1=true then
  (zcU a_1 b_1 pivot data_4).bind (fun y'_14=>
  r2 y'_14.1 b_1 limit_2 wasBalanced wasPartitioned y'_14.2) else
  (zeF a_1 b_1 pivot data_4).bind (fun y'_21=>
  G (fits (y'_21.1 - a_1)) (
  G (fits (b_1 - y'_21.1)) (
  G ((8:Int)≠0) (
  G (fits (Int.tdiv (b_1 - a_1) (8:Int))) (
  if (decide ((y'_21.1 - a_1) < (b_1 - y'_21.1)))=true then
  (zaa a_1 y'_21.1 limit_2 y'_21.2.2).bind (fun y'_19=>
  G (fits (y'_21.1+(1:Int))) (
  r2 (y'_21.1+(1:Int)) b_1 limit_2 (decide ((Int.tdiv (b_1 - a_1) (8:Int))<=(y'_21.1 - a_1))) y'_21.2.1 y'_19)) else
  G (fits (y'_21.1+(1:Int))) (
  (zaa (y'_21.1+(1:Int)) b_1 limit_2 y'_21.2.2).bind (fun y'_20=>
  r2 a_1 y'_21.1 limit_2 (decide ((Int.tdiv (b_1 - a_1) (8:Int))<=(b_1 - y'_21.1))) y'_21.2.1 y'_20)))))))
def zbM (zaa:Tf8) (a_1:Int) (b_1:Int) (wasBalanced:Bool) (wasPartitioned:Bool) (r2:(Int->Int->Int->Bool->Bool->Tp8->Option Tp8)) (limit_2:Int) (pivot:Int) (data_4:Tp8):Option Tp8:=
  if (decide ((0:Int) < a_1))=true then
  G (fits (a_1 - (1:Int))) (
  G (0<=a_1 - (1:Int)/\a_1 - (1:Int) < (data_4.length:Int)) (
  G ((a_1 - (1:Int)).toNat < data_4.length) (
  G (0<=pivot/\pivot < (data_4.length:Int)) (
  G ((pivot).toNat < data_4.length) (
  (zb8 (ix data_4 (a_1 - (1:Int))) (ix data_4 pivot)).bind (fun y'_10=>
  zbN zaa a_1 b_1 wasBalanced wasPartitioned r2 limit_2 pivot data_4 (!(decide (y'_10 < (0:Int)))))))))) else
  zbN zaa a_1 b_1 wasBalanced wasPartitioned r2 limit_2 pivot data_4 false
def zbn (zaa:Tf8) (a_1:Int) (b_1:Int) (wasBalanced:Bool) (wasPartitioned:Bool) (r2:(Int->Int->Int->Bool->Bool->Tp8->Option Tp8)) (limit_2:Int) (pivot:Int) (data_3:Tp8) (t:Bool):Option Tp8:=
  if t=true then
  (zb9 a_1 b_1 data_3).bind (fun y'_22=>
  if y'_22.1=true then
  some y'_22.2 else
  zbM zaa a_1 b_1 wasBalanced wasPartitioned r2 limit_2 pivot y'_22.2) else
  zbM zaa a_1 b_1 wasBalanced wasPartitioned r2 limit_2 pivot data_3
def zbL (zaa:Tf8) (a_1:Int) (b_1:Int) (wasBalanced:Bool) (wasPartitioned:Bool) (r2:(Int->Int->Int->Bool->Bool->Tp8->Option Tp8)) (limit_2:Int) (pivot:Int) (hint:Int) (data_3:Tp8):Option Tp8:=
  if wasBalanced=true then
  if wasPartitioned=true then
  zbn zaa a_1 b_1 wasBalanced wasPartitioned r2 limit_2 pivot data_3 (decide (hint=(1:Int))) else
  zbn zaa a_1 b_1 wasBalanced wasPartitioned r2 limit_2 pivot data_3 false else
  zbn zaa a_1 b_1 wasBalanced wasPartitioned r2 limit_2 pivot data_3 false
def zb0 (zaa:Tf8) (a_1:Int) (b_1:Int) (wasBalanced:Bool) (wasPartitioned:Bool) (r2:(Int->Int->Int->Bool->Bool->Tp8->Option Tp8)) (limit_2:Int) (data_2:Tp8):Option Tp8:=
  (zd2 data_2 a_1 b_1).bind (fun y'_23=>
  if (decide (y'_23.2=(2:Int)))=true then
  (zdy a_1 b_1 data_2).bind (fun y'_6=>
  G (fits (b_1 - (1:Int))) (
  G (fits (y'_23.1 - a_1)) (
  G (fits ((b_1 - (1:Int)) - (y'_23.1 - a_1))) (
  zbL zaa a_1 b_1 wasBalanced wasPartitioned r2 limit_2 ((b_1 - (1:Int)) - (y'_23.1 - a_1)) (1:Int) y'_6)))) else
  zbL zaa a_1 b_1 wasBalanced wasPartitioned r2 limit_2 y'_23.1 y'_23.2 data_2)
def zb6 (zaa:Tf8)  (r2:Tf2) (a_1:Int) (b_1:Int) (limit_1:Int) (wasBalanced:Bool) (wasPartitioned:Bool) (data_1:Tp8):Option Tp8:=
  G (fits (b_1 - a_1)) (
  if (decide ((b_1 - a_1)<=(12:Int)))=true then
  (zdc a_1 b_1 data_1).bind (fun y'=>
  some y') else
  if (decide (limit_1=(0:Int)))=true then
  (zfa a_1 b_1 data_1).bind (fun y'_1=>
  some y'_1) else
  if (!wasBalanced)=true then
  (zda a_1 b_1 data_1).bind (fun y'_2=>
  G (fits (limit_1 - (1:Int))) (
  zb0 zaa a_1 b_1 wasBalanced wasPartitioned r2 (limit_1 - (1:Int)) y'_2)) else
  zb0 zaa a_1 b_1 wasBalanced wasPartitioned r2 limit_1 data_1)
def zic (zaa:Tf8):(Int×Int×Int×Bool×Bool×Tp8->Option Tp8)->Int×Int×Int×Bool×Bool×Tp8->Option Tp8:=
  fun rec x=>zb6 zaa (fun a_1 b_1 limit_1 wasBalanced wasPartitioned data_1=>rec (a_1,b_1,limit_1,wasBalanced,wasPartitioned,data_1)) x.1 x.2.1 x.2.2.1 x.2.2.2.1 x.2.2.2.2.1 x.2.2.2.2.2
def zan (zaa:Tf8)  (a_1:Int) (b_1:Int) (limit_1:Int) (wasBalanced:Bool) (wasPartitioned:Bool) (data_1:Tp8):Option Tp8:=LFix (zic zaa ) (a_1,b_1,limit_1,wasBalanced,wasPartitioned,data_1)
def zcB (zaa:Tf8) (a:Int) (b:Int) (limit:Int) (data:Tp8):Option Tp8:=
  zan zaa a b limit true true data
theorem zbX (zaa:Nat->Tf8) (zae:Tf8) (zag:∀ a0 a1 a2 a3,ChO (fun κ=>zaa κ a0 a1 a2 a3) (zae a0 a1 a2 a3)) (r2:Nat->Tf2) (r2':Tf2) (h_r2:∀ a0 a1 a2 a3 a4 a5,ChO (fun κ=>r2 κ a0 a1 a2 a3 a4 a5) (r2' a0 a1 a2 a3 a4 a5)) (a_1:Int) (b_1:Int) (wasBalanced:Bool) (wasPartitioned:Bool) (limit_2:Int) (pivot:Int) (data_4:Tp8) (t_1:Bool):ChO (fun κ=>zbN (zaa κ) a_1 b_1 wasBalanced wasPartitioned (r2 κ) limit_2 pivot data_4 t_1) (zbN zae a_1 b_1 wasBalanced wasPartitioned r2' limit_2 pivot data_4 t_1):=by
  unfold zbN
  repeat' with_reducible first | exact ChO.const _ | exact zag _ _ _ _ | exact h_r2 _ _ _ _ _ _ | apply ChO.ite | apply ChO.G | apply ChO.both | (apply ChO.bind;intro _) | (apply ChO.bind2 (zag _ _ _ _);intro _)
theorem zcn (zaa:Nat->Tf8) (zae:Tf8) (zag:∀ a0 a1 a2 a3,ChO (fun κ=>zaa κ a0 a1 a2 a3) (zae a0 a1 a2 a3)) (r2:Nat->Tf2) (r2':Tf2) (h_r2:∀ a0 a1 a2 a3 a4 a5,ChO (fun κ=>r2 κ a0 a1 a2 a3 a4 a5) (r2' a0 a1 a2 a3 a4 a5)) (a_1:Int) (b_1:Int) (wasBalanced:Bool) (wasPartitioned:Bool) (limit_2:Int) (pivot:Int) (data_4:Tp8):ChO (fun κ=>zbM (zaa κ) a_1 b_1 wasBalanced wasPartitioned (r2 κ) limit_2 pivot data_4) (zbM zae a_1 b_1 wasBalanced wasPartitioned r2' limit_2 pivot data_4):=by
  unfold zbM
  repeat' with_reducible first | exact ChO.const _ | exact zag _ _ _ _ | exact h_r2 _ _ _ _ _ _ | (apply zbX<;>assumption) | apply ChO.ite | apply ChO.G | apply ChO.both | (apply ChO.bind;intro _) | (apply ChO.bind2 (zag _ _ _ _);intro _)
theorem zcX (zaa:Nat->Tf8) (zae:Tf8) (zag:∀ a0 a1 a2 a3,ChO (fun κ=>zaa κ a0 a1 a2 a3) (zae a0 a1 a2 a3)) (r2:Nat->Tf2) (r2':Tf2) (h_r2:∀ a0 a1 a2 a3 a4 a5,ChO (fun κ=>r2 κ a0 a1 a2 a3 a4 a5) (r2' a0 a1 a2 a3 a4 a5)) (a_1:Int) (b_1:Int) (wasBalanced:Bool) (wasPartitioned:Bool) (limit_2:Int) (pivot:Int) (data_3:Tp8) (t:Bool):ChO (fun κ=>zbn (zaa κ) a_1 b_1 wasBalanced wasPartitioned (r2 κ) limit_2 pivot data_3 t) (zbn zae a_1 b_1 wasBalanced wasPartitioned r2' limit_2 pivot data_3 t):=by
  unfold zbn
  repeat' with_reducible first | exact ChO.const _ | exact zag _ _ _ _ | exact h_r2 _ _ _ _ _ _ | (apply zbX<;>assumption) | (apply zcn<;>assumption) | apply ChO.ite | apply ChO.G | apply ChO.both | (apply ChO.bind;intro _) | (apply ChO.bind2 (zag _ _ _ _);intro _)
theorem zeI (zaa:Nat->Tf8) (zae:Tf8) (zag:∀ a0 a1 a2 a3,ChO (fun κ=>zaa κ a0 a1 a2 a3) (zae a0 a1 a2 a3)) (r2:Nat->Tf2) (r2':Tf2) (h_r2:∀ a0 a1 a2 a3 a4 a5,ChO (fun κ=>r2 κ a0 a1 a2 a3 a4 a5) (r2' a0 a1 a2 a3 a4 a5)) (a_1:Int) (b_1:Int) (wasBalanced:Bool) (wasPartitioned:Bool) (limit_2:Int) (pivot:Int) (hint:Int) (data_3:Tp8):ChO (fun κ=>zbL (zaa κ) a_1 b_1 wasBalanced wasPartitioned (r2 κ) limit_2 pivot hint data_3) (zbL zae a_1 b_1 wasBalanced wasPartitioned r2' limit_2 pivot hint data_3):=by
  unfold zbL
  repeat' with_reducible first | exact ChO.const _ | exact zag _ _ _ _ | exact h_r2 _ _ _ _ _ _ | (apply zbX<;>assumption) | (apply zcn<;>assumption) | (apply zcX<;>assumption) | apply ChO.ite | apply ChO.G | apply ChO.both | (apply ChO.bind;intro _) | (apply ChO.bind2 (zag _ _ _ _);intro _)
theorem zhW (zaa:Nat->Tf8) (zae:Tf8) (zag:∀ a0 a1 a2 a3,ChO (fun κ=>zaa κ a0 a1 a2 a3) (zae a0 a1 a2 a3)) (r2:Nat->Tf2) (r2':Tf2) (h_r2:∀ a0 a1 a2 a3 a4 a5,ChO (fun κ=>r2 κ a0 a1 a2 a3 a4 a5) (r2' a0 a1 a2 a3 a4 a5)) (a_1:Int) (b_1:Int) (wasBalanced:Bool) (wasPartitioned:Bool) (limit_2:Int) (data_2:Tp8):ChO (fun κ=>zb0 (zaa κ) a_1 b_1 wasBalanced wasPartitioned (r2 κ) limit_2 data_2) (zb0 zae a_1 b_1 wasBalanced wasPartitioned r2' limit_2 data_2):=by
  unfold zb0
  repeat' with_reducible first | exact ChO.const _ | exact zag _ _ _ _ | exact h_r2 _ _ _ _ _ _ | (apply zbX<;>assumption) | (apply zcn<;>assumption) | (apply zcX<;>assumption) | (apply zeI<;>assumption) | apply ChO.ite | apply ChO.G | apply ChO.both | (apply ChO.bind;intro _) | (apply ChO.bind2 (zag _ _ _ _);intro _)
theorem zhd (zaa:Nat->Tf8) (zae:Tf8) (zag:∀ a0 a1 a2 a3,ChO (fun κ=>zaa κ a0 a1 a2 a3) (zae a0 a1 a2 a3)) (r2:Nat->Tf2) (r2':Tf2) (h_r2:∀ a0 a1 a2 a3 a4 a5,ChO (fun κ=>r2 κ a0 a1 a2 a3 a4 a5) (r2' a0 a1 a2 a3 a4 a5)) (a_1:Int) (b_1:Int) (limit_1:Int) (wasBalanced:Bool) (wasPartitioned:Bool) (data_1:Tp8):ChO (fun κ=>zb6 (zaa κ) (r2 κ) a_1 b_1 limit_1 wasBalanced wasPartitioned data_1) (zb6 zae r2' a_1 b_1 limit_1 wasBalanced wasPartitioned data_1):=by
  unfold zb6
  repeat' with_reducible first | exact ChO.const _ | exact zag _ _ _ _ | exact h_r2 _ _ _ _ _ _ | (apply zbX<;>assumption) | (apply zcn<;>assumption) | (apply zcX<;>assumption) | (apply zeI<;>assumption) | (apply zhW<;>assumption) | apply ChO.ite | apply ChO.G | apply ChO.both | (apply ChO.bind;intro _) | (apply ChO.bind2 (zag _ _ _ _);intro _)
theorem ze8 (zaa:Tf8):Cn (zic zaa):=fun g h hg x=>zhd (fun _=>zaa) zaa (fun _ _ _ _=>ChO.const _) (fun κ a_1 b_1 limit_1 wasBalanced wasPartitioned data_1=>g κ (a_1,b_1,limit_1,wasBalanced,wasPartitioned,data_1)) (fun a_1 b_1 limit_1 wasBalanced wasPartitioned data_1=>h (a_1,b_1,limit_1,wasBalanced,wasPartitioned,data_1)) (fun a_1 b_1 limit_1 wasBalanced wasPartitioned data_1=>hg (a_1,b_1,limit_1,wasBalanced,wasPartitioned,data_1))  x.1 x.2.1 x.2.2.1 x.2.2.2.1 x.2.2.2.2.1 x.2.2.2.2.2
theorem zmn (zaa:Tf8)  (a_1:Int) (b_1:Int) (limit_1:Int) (wasBalanced:Bool) (wasPartitioned:Bool) (data_1:Tp8):zan zaa a_1 b_1 limit_1 wasBalanced wasPartitioned data_1=zb6 zaa (zan zaa) a_1 b_1 limit_1 wasBalanced wasPartitioned data_1:=zam (ze8 zaa) (a_1,b_1,limit_1,wasBalanced,wasPartitioned,data_1)
theorem zmm (zaa:Nat->Tf8) (zae:Tf8) (zag:∀ a0 a1 a2 a3,ChO (fun κ=>zaa κ a0 a1 a2 a3) (zae a0 a1 a2 a3))  (a_1:Int) (b_1:Int) (limit_1:Int) (wasBalanced:Bool) (wasPartitioned:Bool) (data_1:Tp8):ChO (fun κ=>zan (zaa κ) a_1 b_1 limit_1 wasBalanced wasPartitioned data_1) (zan zae a_1 b_1 limit_1 wasBalanced wasPartitioned data_1):=by
  unfold zan
  exact zdI (fun κ=>(ze8 (zaa κ) ).mono) (ze8 zae ).mono (fun g h hg x=>zhd zaa zae zag (fun κ a_1 b_1 limit_1 wasBalanced wasPartitioned data_1=>g κ (a_1,b_1,limit_1,wasBalanced,wasPartitioned,data_1)) (fun a_1 b_1 limit_1 wasBalanced wasPartitioned data_1=>h (a_1,b_1,limit_1,wasBalanced,wasPartitioned,data_1)) (fun a_1 b_1 limit_1 wasBalanced wasPartitioned data_1=>hg (a_1,b_1,limit_1,wasBalanced,wasPartitioned,data_1))  x.1 x.2.1 x.2.2.1 x.2.2.2.1 x.2.2.2.2.1 x.2.2.2.2.2) _
theorem zmv (zaa:Nat->Tf8) (zae:Tf8) (zag:∀ a0 a1 a2 a3,ChO (fun κ=>zaa κ a0 a1 a2 a3) (zae a0 a1 a2 a3)) (a:Int) (b:Int) (limit:Int) (data:Tp8):ChO (fun κ=>zcB (zaa κ) a b limit data) (zcB zae a b limit data):=by
  unfold zcB
  repeat' with_reducible first | exact ChO.const _ | exact zag _ _ _ _ | (apply zbX<;>assumption) | (apply zcn<;>assumption) | (apply zcX<;>assumption) | (apply zeI<;>assumption) | (apply zhW<;>assumption) | (apply zmm<;>assumption) | apply ChO.ite | apply ChO.G | apply ChO.both | (apply ChO.bind;intro _) | (apply ChO.bind2 (zag _ _ _ _);intro _)
def zeH:(Int×Int×Int×Tp8->Option Tp8)->Int×Int×Int×Tp8->Option Tp8:=
  fun rec X=>zcB (fun a b limit data=>rec (a,b,limit,data)) X.1 X.2.1 X.2.2.1 X.2.2.2
def zak (a:Int) (b:Int) (limit:Int) (data:Tp8):Option Tp8:=LFix zeH (a,b,limit,data)
theorem znT:Cn zeH:=fun g h hg X=>zmv _ _ (fun a b limit data=>hg (a,b,limit,data)) X.1 X.2.1 X.2.2.1 X.2.2.2
theorem znU (a:Int) (b:Int) (limit:Int) (data:Tp8):zak a b limit data=zcB zak a b limit data:=zam znT (a,b,limit,data)

def zjF (x':Tp8):Option Tp8:=
  (zpN (IntKind.wrap .u64 (x'.length:Int))).bind (fun y'=>
  (zak (0:Int) (x'.length:Int) y' x').bind (fun y'_1=>
  some y'_1))

def zcQ (s:Tp12) (k:Int) (r9:Tf13) (k_1:Int) (k2:Int) (s_1:Tp12):Option Tp12:=
  if (decide (k2 < ((s.length - (k).toNat:Nat):Int)))=true then
  G (0<=k2/\k2 < ((s.length - (k).toNat:Nat):Int)) (
  G ((((((k).toNat)+(k2).toNat:Nat):Int)).toNat < s_1.length) (
  G (fits (k2 - (1:Int))) (
  G (0<=k2 - (1:Int)/\k2 - (1:Int) < ((s.length - (k).toNat:Nat):Int)) (
  G ((((((k).toNat)+(k2 - (1:Int)).toNat:Nat):Int)).toNat < s_1.length) (
  if (decide (¬ (ix s_1 ((((k).toNat)+(k2).toNat:Nat):Int))=(ix s_1 ((((k).toNat)+(k2 - (1:Int)).toNat:Nat):Int))))=true then
  G (0<=k2/\k2 < ((s.length - (k).toNat:Nat):Int)) (
  G ((((((k).toNat)+(k2).toNat:Nat):Int)).toNat < s_1.length) (
  G (0<=k_1/\k_1 < (s_1.length:Int)) (
  G ((k_1).toNat < s_1.length) (
  G (fits (k_1+(1:Int))) (
  G (fits (k2+(1:Int))) (
  r9 (k_1+(1:Int)) (k2+(1:Int)) (s_1.set (k_1).toNat (ix s_1 ((((k).toNat)+(k2).toNat:Nat):Int))))))))) else
  G (fits (k2+(1:Int))) (
  r9 k_1 (k2+(1:Int)) s_1)))))) else
  G (0<=k_1/\k_1<=(s_1.length:Int)) (
  G (((k_1).toNat)+(s_1.length - (k_1).toNat)<=s_1.length) (
  G (0<=k_1/\k_1<=((s_1.take ((k_1).toNat)++List.replicate (s_1.length - (k_1).toNat) (0:Int)++s_1.drop (((k_1).toNat)+(s_1.length - (k_1).toNat))).length:Int)) (
  some ((s_1.take ((k_1).toNat)++List.replicate (s_1.length - (k_1).toNat) (0:Int)++s_1.drop (((k_1).toNat)+(s_1.length - (k_1).toNat))).take (k_1).toNat))))
def zme (s:Tp12) (k:Int):(Int×Int×Tp12->Option Tp12)->Int×Int×Tp12->Option Tp12:=
  fun rec x=>zcQ s k (fun k_1 k2 s_1=>rec (k_1,k2,s_1)) x.1 x.2.1 x.2.2
def zh4 (s:Tp12) (k:Int) (k_1:Int) (k2:Int) (s_1:Tp12):Option Tp12:=LFix (zme s k ) (k_1,k2,s_1)
def zcP (s:Tp12) (r4:Int->Option Tp12) (k:Int):Option Tp12:=
  if (decide (k < (s.length:Int)))=true then
  G (0<=k/\k < (s.length:Int)) (
  G ((k).toNat < s.length) (
  G (fits (k - (1:Int))) (
  G (0<=k - (1:Int)/\k - (1:Int) < (s.length:Int)) (
  G ((k - (1:Int)).toNat < s.length) (
  if (decide ((ix s k)=(ix s (k - (1:Int)))))=true then
  G (0<=k/\k<=(s.length:Int)) (
  zh4 s k k (1:Int) s) else
  G (fits (k+(1:Int))) (
  r4 (k+(1:Int)))))))) else
  some s
def zmd (s:Tp12):(Int->Option Tp12)->Int->Option Tp12:=
  fun rec x=>zcP s (fun k=>rec k) x
def zh3 (s:Tp12) (k:Int):Option Tp12:=LFix (zmd s ) k
def zhj (s:Tp12):Option Tp12:=
  if (decide ((s.length:Int) < (2:Int)))=true then
  some s else
  zh3 s (1:Int)
theorem zoX (r9:Nat->Tf13) (r9':Tf13) (h_r9:∀ a0 a1 a2,ChO (fun κ=>r9 κ a0 a1 a2) (r9' a0 a1 a2)) (s:Tp12) (k:Int) (k_1:Int) (k2:Int) (s_1:Tp12):ChO (fun κ=>zcQ s k (r9 κ) k_1 k2 s_1) (zcQ s k r9' k_1 k2 s_1):=by
  unfold zcQ
  repeat' with_reducible first | exact ChO.const _ | exact h_r9 _ _ _ | apply ChO.ite | apply ChO.G | apply ChO.both | (apply ChO.bind;intro _)
theorem zp6  (s:Tp12) (k:Int):Cn (zme s k):=fun g h hg x=>zoX  (fun κ k_1 k2 s_1=>g κ (k_1,k2,s_1)) (fun k_1 k2 s_1=>h (k_1,k2,s_1)) (fun k_1 k2 s_1=>hg (k_1,k2,s_1)) s k x.1 x.2.1 x.2.2
theorem zli  (s:Tp12) (k:Int) (k_1:Int) (k2:Int) (s_1:Tp12):zh4 s k k_1 k2 s_1=zcQ s k (zh4 s k) k_1 k2 s_1:=zam (zp6 s k) (k_1,k2,s_1)
theorem zoW (r4:Nat->Int->Option Tp12) (r4':Int->Option Tp12) (h_r4:∀ a0,ChO (fun κ=>r4 κ a0) (r4' a0)) (s:Tp12) (k:Int):ChO (fun κ=>zcP s (r4 κ) k) (zcP s r4' k):=by
  unfold zcP
  repeat' with_reducible first | exact ChO.const _ | exact h_r4 _ | apply ChO.ite | apply ChO.G | apply ChO.both | (apply ChO.bind;intro _)
theorem zp5  (s:Tp12):Cn (zmd s):=fun g h hg x=>zoW  (fun κ k=>g κ k) (fun k=>h k) (fun k=>hg k) s x
theorem zlh  (s:Tp12) (k:Int):zh3 s k=zcP s (zh3 s) k:=zam (zp5 s) k

def zcv (s:Tp8) (k:Int) (r9:Int->Int->Tp8->Option Tp8) (k_1:Int) (k2:Int) (s_1:Tp8):Option Tp8:=
  if (decide (k2 < ((s.length - (k).toNat:Nat):Int)))=true then
  G (0<=k2/\k2 < ((s.length - (k).toNat:Nat):Int)) (
  G ((((((k).toNat)+(k2).toNat:Nat):Int)).toNat < s_1.length) (
  G (fits (k2 - (1:Int))) (
  G (0<=k2 - (1:Int)/\k2 - (1:Int) < ((s.length - (k).toNat:Nat):Int)) (
  G ((((((k).toNat)+(k2 - (1:Int)).toNat:Nat):Int)).toNat < s_1.length) (
  if (!(eqB (ix s_1 ((((k).toNat)+(k2).toNat:Nat):Int)) (ix s_1 ((((k).toNat)+(k2 - (1:Int)).toNat:Nat):Int))))=true then
  G (0<=k2/\k2 < ((s.length - (k).toNat:Nat):Int)) (
  G ((((((k).toNat)+(k2).toNat:Nat):Int)).toNat < s_1.length) (
  G (0<=k_1/\k_1 < (s_1.length:Int)) (
  G ((k_1).toNat < s_1.length) (
  G (fits (k_1+(1:Int))) (
  G (fits (k2+(1:Int))) (
  r9 (k_1+(1:Int)) (k2+(1:Int)) (s_1.set (k_1).toNat (ix s_1 ((((k).toNat)+(k2).toNat:Nat):Int))))))))) else
  G (fits (k2+(1:Int))) (
  r9 k_1 (k2+(1:Int)) s_1)))))) else
  G (0<=k_1/\k_1<=(s_1.length:Int)) (
  G (((k_1).toNat)+(s_1.length - (k_1).toNat)<=s_1.length) (
  G (0<=k_1/\k_1<=((s_1.take ((k_1).toNat)++List.replicate (s_1.length - (k_1).toNat) ((0,(0,(0,()))):Int×Int×Int×Unit)++s_1.drop (((k_1).toNat)+(s_1.length - (k_1).toNat))).length:Int)) (
  some ((s_1.take ((k_1).toNat)++List.replicate (s_1.length - (k_1).toNat) ((0,(0,(0,()))):Int×Int×Int×Unit)++s_1.drop (((k_1).toNat)+(s_1.length - (k_1).toNat))).take (k_1).toNat))))
def zkO (s:Tp8) (k:Int):(Int×Int×Tp8->Option Tp8)->Int×Int×Tp8->Option Tp8:=
  fun rec x=>zcv s k (fun k_1 k2 s_1=>rec (k_1,k2,s_1)) x.1 x.2.1 x.2.2
def zgP (s:Tp8) (k:Int) (k_1:Int) (k2:Int) (s_1:Tp8):Option Tp8:=LFix (zkO s k ) (k_1,k2,s_1)
def zcu (s:Tp8) (r4:Int->Option Tp8) (k:Int):Option Tp8:=
  if (decide (k < (s.length:Int)))=true then
  G (0<=k/\k < (s.length:Int)) (
  G ((k).toNat < s.length) (
  G (fits (k - (1:Int))) (
  G (0<=k - (1:Int)/\k - (1:Int) < (s.length:Int)) (
  G ((k - (1:Int)).toNat < s.length) (
  if (eqB (ix s k) (ix s (k - (1:Int))))=true then
  G (0<=k/\k<=(s.length:Int)) (
  zgP s k k (1:Int) s) else
  G (fits (k+(1:Int))) (
  r4 (k+(1:Int)))))))) else
  some s
def zkN (s:Tp8):(Int->Option Tp8)->Int->Option Tp8:=
  fun rec x=>zcu s (fun k=>rec k) x
def zgO (s:Tp8) (k:Int):Option Tp8:=LFix (zkN s ) k
def zgY (s:Tp8):Option Tp8:=
  if (decide ((s.length:Int) < (2:Int)))=true then
  some s else
  zgO s (1:Int)
theorem znM (r9:Nat->Int->Int->Tp8->Option Tp8) (r9':Int->Int->Tp8->Option Tp8) (h_r9:∀ a0 a1 a2,ChO (fun κ=>r9 κ a0 a1 a2) (r9' a0 a1 a2)) (s:Tp8) (k:Int) (k_1:Int) (k2:Int) (s_1:Tp8):ChO (fun κ=>zcv s k (r9 κ) k_1 k2 s_1) (zcv s k r9' k_1 k2 s_1):=by
  unfold zcv
  repeat' with_reducible first | exact ChO.const _ | exact h_r9 _ _ _ | apply ChO.ite | apply ChO.G | apply ChO.both | (apply ChO.bind;intro _)
theorem zoV  (s:Tp8) (k:Int):Cn (zkO s k):=fun g h hg x=>znM  (fun κ k_1 k2 s_1=>g κ (k_1,k2,s_1)) (fun k_1 k2 s_1=>h (k_1,k2,s_1)) (fun k_1 k2 s_1=>hg (k_1,k2,s_1)) s k x.1 x.2.1 x.2.2
theorem zj0  (s:Tp8) (k:Int) (k_1:Int) (k2:Int) (s_1:Tp8):zgP s k k_1 k2 s_1=zcv s k (zgP s k) k_1 k2 s_1:=zam (zoV s k) (k_1,k2,s_1)
theorem znL (r4:Nat->Int->Option Tp8) (r4':Int->Option Tp8) (h_r4:∀ a0,ChO (fun κ=>r4 κ a0) (r4' a0)) (s:Tp8) (k:Int):ChO (fun κ=>zcu s (r4 κ) k) (zcu s r4' k):=by
  unfold zcu
  repeat' with_reducible first | exact ChO.const _ | exact h_r4 _ | apply ChO.ite | apply ChO.G | apply ChO.both | (apply ChO.bind;intro _)
theorem zoU  (s:Tp8):Cn (zkN s):=fun g h hg x=>znL  (fun κ k=>g κ k) (fun k=>h k) (fun k=>hg k) s x
theorem zjZ  (s:Tp8) (k:Int):zgO s k=zcu s (zgO s) k:=zam (zoU s) k

def zo8 (a:Int) (a_1:Int) (l_3:Tp12) (l_4:Tp8) (l_5:Tp12):Option Tp3:=
  some (a,(a_1,(l_3,(l_4,(l_5,())))))
def zhF (c:Int) (c_1:Int) (l:Tp12) (l_1:Tp8) (l_2:Tp12):Option Tp3:=
  (zmj l).bind (fun y'=>
  (zmj l_2).bind (fun y'_1=>
  (zjF l_1).bind (fun y'_2=>
  (zhj y').bind (fun y'_3=>
  (zhj y'_1).bind (fun y'_4=>
  (zgY y'_2).bind (fun y'_5=>
  zo8 c c_1 y'_3 y'_5 y'_4))))))

def zc7 (a:Tp3) (b:Tp3) (r16:Tf3) (t_2:Int) (out_6:Int) (out_7:Int) (l_9:Tp12) (l_10:Tp8) (l_11:Tp12):Option Tp1:=
  if (decide (t_2 < (b.2.2.2.1.length:Int)))=true then
  G (0<=t_2/\t_2 < (b.2.2.2.1.length:Int)) (
  G (fits (a.2.1+((ix b.2.2.2.1 t_2).1))) (
  G (fits (a.2.1+((((ix b.2.2.2.1 t_2).2).2).1))) (
  G (room l_10 ([(a.2.1+((ix b.2.2.2.1 t_2).1),(((ix b.2.2.2.1 t_2).2).1,(a.2.1+((((ix b.2.2.2.1 t_2).2).2).1),())))]) 24) (
  G (fits (t_2+(1:Int))) (
  r16 (t_2+(1:Int)) out_6 out_7 l_9 (l_10++([(a.2.1+((ix b.2.2.2.1 t_2).1),(((ix b.2.2.2.1 t_2).2).1,(a.2.1+((((ix b.2.2.2.1 t_2).2).2).1),())))])) l_11))))) else
  (zhF out_6 out_7 l_9 l_10 l_11).bind (fun y'_4=>
  some ((y'_4.1,(y'_4.2.1,(y'_4.2.2.1,(y'_4.2.2.2.1,(y'_4.2.2.2.2.1,()))))),(0:Int)))
def zmy (a:Tp3) (b:Tp3):(Int×Int×Int×Tp12×Tp8×Tp12->Option Tp1)->Int×Int×Int×Tp12×Tp8×Tp12->Option Tp1:=
  fun rec x=>zc7 a b (fun t_2 out_6 out_7 l_9 l_10 l_11=>rec (t_2,out_6,out_7,l_9,l_10,l_11)) x.1 x.2.1 x.2.2.1 x.2.2.2.1 x.2.2.2.2.1 x.2.2.2.2.2
def zgV (a:Tp3) (b:Tp3) (t_2:Int) (out_6:Int) (out_7:Int) (l_9:Tp12) (l_10:Tp8) (l_11:Tp12):Option Tp1:=LFix (zmy a b ) (t_2,out_6,out_7,l_9,l_10,l_11)
def zc6 (a:Tp3) (b:Tp3) (r11:Tf3) (t_1:Int) (out_4:Int) (out_5:Int) (l_6:Tp12) (l_7:Tp8) (l_8:Tp12):Option Tp1:=
  if (decide (t_1 < (b.2.2.2.2.1.length:Int)))=true then
  G (0<=t_1/\t_1 < (b.2.2.2.2.1.length:Int)) (
  G (fits (a.2.1+(ix b.2.2.2.2.1 t_1))) (
  G (room l_8 ([a.2.1+(ix b.2.2.2.2.1 t_1)]) 8) (
  G (fits (t_1+(1:Int))) (
  r11 (t_1+(1:Int)) out_4 out_5 l_6 l_7 (l_8++([a.2.1+(ix b.2.2.2.2.1 t_1)])))))) else
  zgV a b (0:Int) out_4 out_5 l_6 l_7 l_8
def zmx (a:Tp3) (b:Tp3):(Int×Int×Int×Tp12×Tp8×Tp12->Option Tp1)->Int×Int×Int×Tp12×Tp8×Tp12->Option Tp1:=
  fun rec x=>zc6 a b (fun t_1 out_4 out_5 l_6 l_7 l_8=>rec (t_1,out_4,out_5,l_6,l_7,l_8)) x.1 x.2.1 x.2.2.1 x.2.2.2.1 x.2.2.2.2.1 x.2.2.2.2.2
def zgU (a:Tp3) (b:Tp3) (t_1:Int) (out_4:Int) (out_5:Int) (l_6:Tp12) (l_7:Tp8) (l_8:Tp12):Option Tp1:=LFix (zmx a b ) (t_1,out_4,out_5,l_6,l_7,l_8)
def zdK (a:Tp3) (b:Tp3) (r6:Tf3) (t:Int) (out_2:Int) (out_3:Int) (l_3:Tp12) (l_4:Tp8) (l_5:Tp12):Option Tp1:=
  if (decide (t < (b.2.2.1.length:Int)))=true then
  G (0<=t/\t < (b.2.2.1.length:Int)) (
  G (fits (a.2.1+(ix b.2.2.1 t))) (
  G (room l_3 ([a.2.1+(ix b.2.2.1 t)]) 8) (
  G (fits (t+(1:Int))) (
  r6 (t+(1:Int)) out_2 out_3 (l_3++([a.2.1+(ix b.2.2.1 t)])) l_4 l_5)))) else
  zgU a b (0:Int) out_2 out_3 l_3 l_4 l_5
def znk (a:Tp3) (b:Tp3):(Int×Int×Int×Tp12×Tp8×Tp12->Option Tp1)->Int×Int×Int×Tp12×Tp8×Tp12->Option Tp1:=
  fun rec x=>zdK a b (fun t out_2 out_3 l_3 l_4 l_5=>rec (t,out_2,out_3,l_3,l_4,l_5)) x.1 x.2.1 x.2.2.1 x.2.2.2.1 x.2.2.2.2.1 x.2.2.2.2.2
def zjl (a:Tp3) (b:Tp3) (t:Int) (out_2:Int) (out_3:Int) (l_3:Tp12) (l_4:Tp8) (l_5:Tp12):Option Tp1:=LFix (znk a b ) (t,out_2,out_3,l_3,l_4,l_5)
def ze2 (a:Tp3) (b:Tp3) (out:Int) (out_1:Int) (l:Tp12) (l_1:Tp8) (l_2:Tp12):Option Tp1:=
  zjl a b (0:Int) out out_1 l l_1 l_2
def zhE (a:Tp3) (b:Tp3):Option Tp1:=
  (zjn (a.1,(a.2.1,(a.2.2.1,(a.2.2.2.1,(a.2.2.2.2.1,()))))) (b.1,(b.2.1,(b.2.2.1,(b.2.2.2.1,(b.2.2.2.2.1,())))))).bind (fun y'=>
  if (decide (¬ y'=(0:Int)))=true then
  some (((0:Int),((0:Int),([],([],([],()))))),y') else
  G (fits (a.2.1+b.2.1)) (
  both [Tc1,(.int .i64)] (
  (zgs a.2.2.1).bind (fun y'_1=>
  both [Tc1,(.int .i64)] (
  (zgs a.2.2.2.2.1).bind (fun y'_2=>
  both [Tc1,(.int .i64)] (
  (zfI a.2.2.2.1).bind (fun y'_3=>
  both [Tc1,(.int .i64)] (
  ze2 a b a.1 (a.2.1+b.2.1) y'_1 y'_3 y'_2) (
  ze2 a b a.1 (a.2.1+b.2.1) y'_1 y'_3 y'_2))) (
  (zfI a.2.2.2.1).bind (fun y'_5=>
  ze2 a b a.1 (a.2.1+b.2.1) y'_1 y'_5 y'_2)))) (
  (zgs a.2.2.2.2.1).bind (fun y'_6=>
  (zfI a.2.2.2.1).bind (fun y'_7=>
  ze2 a b a.1 (a.2.1+b.2.1) y'_1 y'_7 y'_6))))) (
  (zgs a.2.2.1).bind (fun y'_8=>
  (zgs a.2.2.2.2.1).bind (fun y'_9=>
  (zfI a.2.2.2.1).bind (fun y'_10=>
  ze2 a b a.1 (a.2.1+b.2.1) y'_8 y'_10 y'_9))))))
theorem zo6 (r16:Nat->Tf3) (r16':Tf3) (h_r16:∀ a0 a1 a2 a3 a4 a5,ChO (fun κ=>r16 κ a0 a1 a2 a3 a4 a5) (r16' a0 a1 a2 a3 a4 a5)) (a:Tp3) (b:Tp3) (t_2:Int) (out_6:Int) (out_7:Int) (l_9:Tp12) (l_10:Tp8) (l_11:Tp12):ChO (fun κ=>zc7 a b (r16 κ) t_2 out_6 out_7 l_9 l_10 l_11) (zc7 a b r16' t_2 out_6 out_7 l_9 l_10 l_11):=by
  unfold zc7
  repeat' with_reducible first | exact ChO.const _ | exact h_r16 _ _ _ _ _ _ | apply ChO.ite | apply ChO.G | apply ChO.both | (apply ChO.bind;intro _)
theorem zqI  (a:Tp3) (b:Tp3):Cn (zmy a b):=fun g h hg x=>zo6  (fun κ t_2 out_6 out_7 l_9 l_10 l_11=>g κ (t_2,out_6,out_7,l_9,l_10,l_11)) (fun t_2 out_6 out_7 l_9 l_10 l_11=>h (t_2,out_6,out_7,l_9,l_10,l_11)) (fun t_2 out_6 out_7 l_9 l_10 l_11=>hg (t_2,out_6,out_7,l_9,l_10,l_11)) a b x.1 x.2.1 x.2.2.1 x.2.2.2.1 x.2.2.2.2.1 x.2.2.2.2.2
theorem zlO  (a:Tp3) (b:Tp3) (t_2:Int) (out_6:Int) (out_7:Int) (l_9:Tp12) (l_10:Tp8) (l_11:Tp12):zgV a b t_2 out_6 out_7 l_9 l_10 l_11=zc7 a b (zgV a b) t_2 out_6 out_7 l_9 l_10 l_11:=zam (zqI a b) (t_2,out_6,out_7,l_9,l_10,l_11)
theorem zo5 (r11:Nat->Tf3) (r11':Tf3) (h_r11:∀ a0 a1 a2 a3 a4 a5,ChO (fun κ=>r11 κ a0 a1 a2 a3 a4 a5) (r11' a0 a1 a2 a3 a4 a5)) (a:Tp3) (b:Tp3) (t_1:Int) (out_4:Int) (out_5:Int) (l_6:Tp12) (l_7:Tp8) (l_8:Tp12):ChO (fun κ=>zc6 a b (r11 κ) t_1 out_4 out_5 l_6 l_7 l_8) (zc6 a b r11' t_1 out_4 out_5 l_6 l_7 l_8):=by
  unfold zc6
  repeat' with_reducible first | exact ChO.const _ | exact h_r11 _ _ _ _ _ _ | apply ChO.ite | apply ChO.G | apply ChO.both | (apply ChO.bind;intro _)
theorem zqH  (a:Tp3) (b:Tp3):Cn (zmx a b):=fun g h hg x=>zo5  (fun κ t_1 out_4 out_5 l_6 l_7 l_8=>g κ (t_1,out_4,out_5,l_6,l_7,l_8)) (fun t_1 out_4 out_5 l_6 l_7 l_8=>h (t_1,out_4,out_5,l_6,l_7,l_8)) (fun t_1 out_4 out_5 l_6 l_7 l_8=>hg (t_1,out_4,out_5,l_6,l_7,l_8)) a b x.1 x.2.1 x.2.2.1 x.2.2.2.1 x.2.2.2.2.1 x.2.2.2.2.2
theorem zlN  (a:Tp3) (b:Tp3) (t_1:Int) (out_4:Int) (out_5:Int) (l_6:Tp12) (l_7:Tp8) (l_8:Tp12):zgU a b t_1 out_4 out_5 l_6 l_7 l_8=zc6 a b (zgU a b) t_1 out_4 out_5 l_6 l_7 l_8:=zam (zqH a b) (t_1,out_4,out_5,l_6,l_7,l_8)
theorem zp0 (r6:Nat->Tf3) (r6':Tf3) (h_r6:∀ a0 a1 a2 a3 a4 a5,ChO (fun κ=>r6 κ a0 a1 a2 a3 a4 a5) (r6' a0 a1 a2 a3 a4 a5)) (a:Tp3) (b:Tp3) (t:Int) (out_2:Int) (out_3:Int) (l_3:Tp12) (l_4:Tp8) (l_5:Tp12):ChO (fun κ=>zdK a b (r6 κ) t out_2 out_3 l_3 l_4 l_5) (zdK a b r6' t out_2 out_3 l_3 l_4 l_5):=by
  unfold zdK
  repeat' with_reducible first | exact ChO.const _ | exact h_r6 _ _ _ _ _ _ | apply ChO.ite | apply ChO.G | apply ChO.both | (apply ChO.bind;intro _)
theorem zq1  (a:Tp3) (b:Tp3):Cn (znk a b):=fun g h hg x=>zp0  (fun κ t out_2 out_3 l_3 l_4 l_5=>g κ (t,out_2,out_3,l_3,l_4,l_5)) (fun t out_2 out_3 l_3 l_4 l_5=>h (t,out_2,out_3,l_3,l_4,l_5)) (fun t out_2 out_3 l_3 l_4 l_5=>hg (t,out_2,out_3,l_3,l_4,l_5)) a b x.1 x.2.1 x.2.2.1 x.2.2.2.1 x.2.2.2.2.1 x.2.2.2.2.2
theorem zmz  (a:Tp3) (b:Tp3) (t:Int) (out_2:Int) (out_3:Int) (l_3:Tp12) (l_4:Tp8) (l_5:Tp12):zjl a b t out_2 out_3 l_3 l_4 l_5=zdK a b (zjl a b) t out_2 out_3 l_3 l_4 l_5:=zam (zq1 a b) (t,out_2,out_3,l_3,l_4,l_5)

def zhD (p:Int) (q:Int) (turn:Int) (t:Tp3):Option (Int):=
  G (fits (p * t.2.1)) (
  G (fits ((p * t.2.1)+q)) (
  G (fits (((p * t.2.1)+q) * (2:Int))) (
  G (fits ((((p * t.2.1)+q) * (2:Int))+turn)) (
  some ((((p * t.2.1)+q) * (2:Int))+turn)))))

def zga (s:Tp12) (v:Int) (r2:Int->Option (Int)) (t:Int):Option (Int):=
  if (decide (t < (s.length:Int)))=true then
  G (0<=t/\t < (s.length:Int)) (
  if (decide (v=(ix s t)))=true then
  some t else
  G (fits (t+(1:Int))) (
  r2 (t+(1:Int)))) else
  some (-1:Int)
def znS (s:Tp12) (v:Int):(Int->Option (Int))->Int->Option (Int):=
  fun rec x=>zga s v (fun t=>rec t) x
def zmi (s:Tp12) (v:Int) (t:Int):Option (Int):=LFix (znS s v ) t
def ztf (s:Tp12) (v:Int):Option (Int):=
  zmi s v (0:Int)
theorem zp7 (r2:Nat->Int->Option (Int)) (r2':Int->Option (Int)) (h_r2:∀ a0,ChO (fun κ=>r2 κ a0) (r2' a0)) (s:Tp12) (v:Int) (t:Int):ChO (fun κ=>zga s v (r2 κ) t) (zga s v r2' t):=by
  unfold zga
  repeat' with_reducible first | exact ChO.const _ | exact h_r2 _ | apply ChO.ite | apply ChO.G | apply ChO.both | (apply ChO.bind;intro _)
theorem zrR  (s:Tp12) (v:Int):Cn (znS s v):=fun g h hg x=>zp7  (fun κ t=>g κ t) (fun t=>h t) (fun t=>hg t) s v x
theorem zrS  (s:Tp12) (v:Int) (t:Int):zmi s v t=zga s v (zmi s v) t:=zam (zrR s v) t

def zhM (s:Tp12) (v:Int):Option (Bool):=
  (ztf s v).bind (fun y'=>
  some (decide ((0:Int)<=y')))

def zep (a:Tp3) (b:Tp3) (t:Int) (r7:(Int->Int->Int->Tp12->Option Tp1)) (r10:Tf7) (t_1:Int) (out_3:Int) (out_4:Int) (l:Tp12):Option Tp1:=
  if (decide (t_1 < (b.2.2.1.length:Int)))=true then
  G (0<=t_1/\t_1 < (b.2.2.1.length:Int)) (
  (zhD (ix a.2.2.1 t) (ix b.2.2.1 t_1) (0:Int) (b.1,(b.2.1,(b.2.2.1,(b.2.2.2.1,(b.2.2.2.2.1,())))))).bind (fun y'_1=>
  G (room l ([y'_1]) 8) (
  G (fits (t_1+(1:Int))) (
  r10 (t_1+(1:Int)) out_3 out_4 (l++([y'_1])))))) else
  G (fits (t+(1:Int))) (
  r7 (t+(1:Int)) out_3 out_4 l)
def zop (a:Tp3) (b:Tp3) (t:Int) (r7:(Int->Int->Int->Tp12->Option Tp1)):(Int×Int×Int×Tp12->Option Tp1)->Int×Int×Int×Tp12->Option Tp1:=
  fun rec x=>zep a b t r7 (fun t_1 out_3 out_4 l=>rec (t_1,out_3,out_4,l)) x.1 x.2.1 x.2.2.1 x.2.2.2
def zfD (a:Tp3) (b:Tp3) (t:Int) (r7:(Int->Int->Int->Tp12->Option Tp1)) (t_1:Int) (out_3:Int) (out_4:Int) (l:Tp12):Option Tp1:=LFix (zop a b t r7 ) (t_1,out_3,out_4,l)
def zfC (a:Tp3) (b:Tp3) (t_2:Int) (t_3:Int) (t_4:Int) (out_10:Int) (out_11:Int) (l_4:Tp12) (l_5:Tp8) (r23:(Int->Int->Int->Tp12->Tp8->Option Tp1)) (next':Int):Option Tp1:=
  (zhD ((ix a.2.2.2.1 t_2).1) ((ix b.2.2.2.1 t_3).1) t_4 (b.1,(b.2.1,(b.2.2.1,(b.2.2.2.1,(b.2.2.2.2.1,())))))).bind (fun y'_3=>
  (zhD ((((ix a.2.2.2.1 t_2).2).2).1) ((((ix b.2.2.2.1 t_3).2).2).1) next' (b.1,(b.2.1,(b.2.2.1,(b.2.2.2.1,(b.2.2.2.2.1,())))))).bind (fun y'_4=>
  G (room l_5 ([(y'_3,(((ix a.2.2.2.1 t_2).2).1,(y'_4,())))]) 24) (
  G (fits (t_4+(1:Int))) (
  r23 (t_4+(1:Int)) out_10 out_11 l_4 (l_5++([(y'_3,(((ix a.2.2.2.1 t_2).2).1,(y'_4,())))]))))))
def zc5 (a:Tp3) (b:Tp3) (t_2:Int) (t_3:Int) (t_4:Int) (out_10:Int) (out_11:Int) (l_4:Tp12) (l_5:Tp8) (r23:(Int->Int->Int->Tp12->Tp8->Option Tp1)) (t_5:Bool):Option Tp1:=
  if t_5=true then
  G (fits ((1:Int) - t_4)) (
  zfC a b t_2 t_3 t_4 out_10 out_11 l_4 l_5 r23 ((1:Int) - t_4)) else
  zfC a b t_2 t_3 t_4 out_10 out_11 l_4 l_5 r23 t_4
def zes (a:Tp3) (b:Tp3) (t_2:Int) (t_3:Int) (r19:(Int->Int->Int->Tp12->Tp8->Option Tp1)) (r23:Tf4) (t_4:Int) (out_10:Int) (out_11:Int) (l_4:Tp12) (l_5:Tp8):Option Tp1:=
  if (decide (t_4 < (2:Int)))=true then
  if (decide (t_4=(0:Int)))=true then
  (zhM a.2.2.2.2.1 ((ix a.2.2.2.1 t_2).1)).bind (fun y'_2=>
  if y'_2=true then
  zc5 a b t_2 t_3 t_4 out_10 out_11 l_4 l_5 r23 true else
  if (decide (t_4=(1:Int)))=true then
  (zhM b.2.2.2.2.1 ((ix b.2.2.2.1 t_3).1)).bind (fun y'_5=>
  zc5 a b t_2 t_3 t_4 out_10 out_11 l_4 l_5 r23 y'_5) else
  zc5 a b t_2 t_3 t_4 out_10 out_11 l_4 l_5 r23 false) else
  if (decide (t_4=(1:Int)))=true then
  (zhM b.2.2.2.2.1 ((ix b.2.2.2.1 t_3).1)).bind (fun y'_6=>
  zc5 a b t_2 t_3 t_4 out_10 out_11 l_4 l_5 r23 y'_6) else
  zc5 a b t_2 t_3 t_4 out_10 out_11 l_4 l_5 r23 false else
  G (fits (t_3+(1:Int))) (
  r19 (t_3+(1:Int)) out_10 out_11 l_4 l_5)
def zos (a:Tp3) (b:Tp3) (t_2:Int) (t_3:Int) (r19:(Int->Int->Int->Tp12->Tp8->Option Tp1)):(Int×Int×Int×Tp12×Tp8->Option Tp1)->Int×Int×Int×Tp12×Tp8->Option Tp1:=
  fun rec x=>zes a b t_2 t_3 r19 (fun t_4 out_10 out_11 l_4 l_5=>rec (t_4,out_10,out_11,l_4,l_5)) x.1 x.2.1 x.2.2.1 x.2.2.2.1 x.2.2.2.2
def zcw (a:Tp3) (b:Tp3) (t_2:Int) (t_3:Int) (r19:(Int->Int->Int->Tp12->Tp8->Option Tp1)) (t_4:Int) (out_10:Int) (out_11:Int) (l_4:Tp12) (l_5:Tp8):Option Tp1:=LFix (zos a b t_2 t_3 r19 ) (t_4,out_10,out_11,l_4,l_5)
def zer (a:Tp3) (b:Tp3) (t_2:Int) (r16:(Int->Int->Int->Tp12->Tp8->Option Tp1)) (r19:Tf4) (t_3:Int) (out_8:Int) (out_9:Int) (l_2:Tp12) (l_3:Tp8):Option Tp1:=
  if (decide (t_3 < (b.2.2.2.1.length:Int)))=true then
  G (0<=t_3/\t_3 < (b.2.2.2.1.length:Int)) (
  if (decide (¬ (((ix a.2.2.2.1 t_2).2).1)=(((ix b.2.2.2.1 t_3).2).1)))=true then
  G (fits (t_3+(1:Int))) (
  r19 (t_3+(1:Int)) out_8 out_9 l_2 l_3) else
  zcw a b t_2 t_3 r19 (0:Int) out_8 out_9 l_2 l_3) else
  G (fits (t_2+(1:Int))) (
  r16 (t_2+(1:Int)) out_8 out_9 l_2 l_3)
def zor (a:Tp3) (b:Tp3) (t_2:Int) (r16:(Int->Int->Int->Tp12->Tp8->Option Tp1)):(Int×Int×Int×Tp12×Tp8->Option Tp1)->Int×Int×Int×Tp12×Tp8->Option Tp1:=
  fun rec x=>zer a b t_2 r16 (fun t_3 out_8 out_9 l_2 l_3=>rec (t_3,out_8,out_9,l_2,l_3)) x.1 x.2.1 x.2.2.1 x.2.2.2.1 x.2.2.2.2
def zfE (a:Tp3) (b:Tp3) (t_2:Int) (r16:(Int->Int->Int->Tp12->Tp8->Option Tp1)) (t_3:Int) (out_8:Int) (out_9:Int) (l_2:Tp12) (l_3:Tp8):Option Tp1:=LFix (zor a b t_2 r16 ) (t_3,out_8,out_9,l_2,l_3)
def zeu (a:Tp3) (b:Tp3) (t_6:Int) (r33:(Int->Int->Int->Tp12->Tp8->Tp12->Option Tp1)) (r36:Tf3) (t_7:Int) (out_15:Int) (out_16:Int) (l_8:Tp12) (l_9:Tp8) (l_10:Tp12):Option Tp1:=
  if (decide (t_7 < b.2.1))=true then
  (zhD (ix a.2.2.2.2.1 t_6) t_7 (0:Int) (b.1,(b.2.1,(b.2.2.1,(b.2.2.2.1,(b.2.2.2.2.1,())))))).bind (fun y'_7=>
  G (room l_10 ([y'_7]) 8) (
  G (fits (t_7+(1:Int))) (
  r36 (t_7+(1:Int)) out_15 out_16 l_8 l_9 (l_10++([y'_7]))))) else
  G (fits (t_6+(1:Int))) (
  r33 (t_6+(1:Int)) out_15 out_16 l_8 l_9 l_10)
def zou (a:Tp3) (b:Tp3) (t_6:Int) (r33:(Int->Int->Int->Tp12->Tp8->Tp12->Option Tp1)):(Int×Int×Int×Tp12×Tp8×Tp12->Option Tp1)->Int×Int×Int×Tp12×Tp8×Tp12->Option Tp1:=
  fun rec x=>zeu a b t_6 r33 (fun t_7 out_15 out_16 l_8 l_9 l_10=>rec (t_7,out_15,out_16,l_8,l_9,l_10)) x.1 x.2.1 x.2.2.1 x.2.2.2.1 x.2.2.2.2.1 x.2.2.2.2.2
def zfF (a:Tp3) (b:Tp3) (t_6:Int) (r33:(Int->Int->Int->Tp12->Tp8->Tp12->Option Tp1)) (t_7:Int) (out_15:Int) (out_16:Int) (l_8:Tp12) (l_9:Tp8) (l_10:Tp12):Option Tp1:=LFix (zou a b t_6 r33 ) (t_7,out_15,out_16,l_8,l_9,l_10)
def zet (a:Tp3) (b:Tp3) (r33:Tf3) (t_6:Int) (out_12:Int) (out_13:Int) (l_6:Tp12) (l_7:Tp8) (out_14:Tp12):Option Tp1:=
  if (decide (t_6 < (a.2.2.2.2.1.length:Int)))=true then
  G (0<=t_6/\t_6 < (a.2.2.2.2.1.length:Int)) (
  zfF a b t_6 r33 (0:Int) out_12 out_13 l_6 l_7 out_14) else
  (zhF out_12 out_13 l_6 l_7 out_14).bind (fun y'_8=>
  some ((y'_8.1,(y'_8.2.1,(y'_8.2.2.1,(y'_8.2.2.2.1,(y'_8.2.2.2.2.1,()))))),(0:Int)))
def zot (a:Tp3) (b:Tp3):(Int×Int×Int×Tp12×Tp8×Tp12->Option Tp1)->Int×Int×Int×Tp12×Tp8×Tp12->Option Tp1:=
  fun rec x=>zet a b (fun t_6 out_12 out_13 l_6 l_7 out_14=>rec (t_6,out_12,out_13,l_6,l_7,out_14)) x.1 x.2.1 x.2.2.1 x.2.2.2.1 x.2.2.2.2.1 x.2.2.2.2.2
def zhi (a:Tp3) (b:Tp3) (t_6:Int) (out_12:Int) (out_13:Int) (l_6:Tp12) (l_7:Tp8) (out_14:Tp12):Option Tp1:=LFix (zot a b ) (t_6,out_12,out_13,l_6,l_7,out_14)
def zeq (a:Tp3) (b:Tp3) (r16:Tf4) (t_2:Int) (out_5:Int) (out_6:Int) (l_1:Tp12) (out_7:Tp8):Option Tp1:=
  if (decide (t_2 < (a.2.2.2.1.length:Int)))=true then
  G (0<=t_2/\t_2 < (a.2.2.2.1.length:Int)) (
  zfE a b t_2 r16 (0:Int) out_5 out_6 l_1 out_7) else
  zhi a b (0:Int) out_5 out_6 l_1 out_7 ([]:List Int)
def zoq (a:Tp3) (b:Tp3):(Int×Int×Int×Tp12×Tp8->Option Tp1)->Int×Int×Int×Tp12×Tp8->Option Tp1:=
  fun rec x=>zeq a b (fun t_2 out_5 out_6 l_1 out_7=>rec (t_2,out_5,out_6,l_1,out_7)) x.1 x.2.1 x.2.2.1 x.2.2.2.1 x.2.2.2.2
def zhh (a:Tp3) (b:Tp3) (t_2:Int) (out_5:Int) (out_6:Int) (l_1:Tp12) (out_7:Tp8):Option Tp1:=LFix (zoq a b ) (t_2,out_5,out_6,l_1,out_7)
def ze1 (a:Tp3) (b:Tp3) (r7:Tf7) (t:Int) (out:Int) (out_1:Int) (out_2:Tp12):Option Tp1:=
  if (decide (t < (a.2.2.1.length:Int)))=true then
  G (0<=t/\t < (a.2.2.1.length:Int)) (
  zfD a b t r7 (0:Int) out out_1 out_2) else
  zhh a b (0:Int) out out_1 out_2 ([]:List Tp10)
def zo2 (a:Tp3) (b:Tp3):(Int×Int×Int×Tp12->Option Tp1)->Int×Int×Int×Tp12->Option Tp1:=
  fun rec x=>ze1 a b (fun t out out_1 out_2=>rec (t,out,out_1,out_2)) x.1 x.2.1 x.2.2.1 x.2.2.2
def zji (a:Tp3) (b:Tp3) (t:Int) (out:Int) (out_1:Int) (out_2:Tp12):Option Tp1:=LFix (zo2 a b ) (t,out,out_1,out_2)
def zj6 (a:Tp3) (b:Tp3):Option Tp1:=
  (zjn (a.1,(a.2.1,(a.2.2.1,(a.2.2.2.1,(a.2.2.2.2.1,()))))) (b.1,(b.2.1,(b.2.2.1,(b.2.2.2.1,(b.2.2.2.2.1,())))))).bind (fun y'=>
  if (decide (¬ y'=(0:Int)))=true then
  some (((0:Int),((0:Int),([],([],([],()))))),y') else
  G (fits ((2:Int) * a.2.1)) (
  G (fits (((2:Int) * a.2.1) * b.2.1)) (
  zji a b (0:Int) a.1 (((2:Int) * a.2.1) * b.2.1) ([]:List Int))))
theorem zlI (r7:Nat->Tf7) (r7':Tf7) (h_r7:∀ a0 a1 a2 a3,ChO (fun κ=>r7 κ a0 a1 a2 a3) (r7' a0 a1 a2 a3)) (r10:Nat->Tf7) (r10':Tf7) (h_r10:∀ a0 a1 a2 a3,ChO (fun κ=>r10 κ a0 a1 a2 a3) (r10' a0 a1 a2 a3)) (a:Tp3) (b:Tp3) (t:Int) (t_1:Int) (out_3:Int) (out_4:Int) (l:Tp12):ChO (fun κ=>zep a b t (r7 κ) (r10 κ) t_1 out_3 out_4 l) (zep a b t r7' r10' t_1 out_3 out_4 l):=by
  unfold zep
  repeat' with_reducible first | exact ChO.const _ | exact h_r7 _ _ _ _ | exact h_r10 _ _ _ _ | apply ChO.ite | apply ChO.G | apply ChO.both | (apply ChO.bind;intro _)
theorem zj7 (r7:Tf7) (a:Tp3) (b:Tp3) (t:Int):Cn (zop a b t r7):=fun g h hg x=>zlI (fun _=>r7) r7 (fun _ _ _ _=>ChO.const _) (fun κ t_1 out_3 out_4 l=>g κ (t_1,out_3,out_4,l)) (fun t_1 out_3 out_4 l=>h (t_1,out_3,out_4,l)) (fun t_1 out_3 out_4 l=>hg (t_1,out_3,out_4,l)) a b t x.1 x.2.1 x.2.2.1 x.2.2.2
theorem zm9 (r7:Tf7) (a:Tp3) (b:Tp3) (t:Int) (t_1:Int) (out_3:Int) (out_4:Int) (l:Tp12):zfD a b t r7 t_1 out_3 out_4 l=zep a b t r7 (zfD a b t r7) t_1 out_3 out_4 l:=zam (zj7 r7 a b t) (t_1,out_3,out_4,l)
theorem zcR (r7:Nat->Tf7) (r7':Tf7) (h_r7:∀ a0 a1 a2 a3,ChO (fun κ=>r7 κ a0 a1 a2 a3) (r7' a0 a1 a2 a3)) (a:Tp3) (b:Tp3) (t:Int) (t_1:Int) (out_3:Int) (out_4:Int) (l:Tp12):ChO (fun κ=>zfD a b t (r7 κ) t_1 out_3 out_4 l) (zfD a b t r7' t_1 out_3 out_4 l):=by
  unfold zfD
  exact zdI (fun κ=>(zj7 (r7 κ) a b t).mono) (zj7 r7' a b t).mono (fun g h hg x=>zlI r7 r7' h_r7 (fun κ t_1 out_3 out_4 l=>g κ (t_1,out_3,out_4,l)) (fun t_1 out_3 out_4 l=>h (t_1,out_3,out_4,l)) (fun t_1 out_3 out_4 l=>hg (t_1,out_3,out_4,l)) a b t x.1 x.2.1 x.2.2.1 x.2.2.2) _
theorem zdJ (r23:Nat->Tf4) (r23':Tf4) (h_r23:∀ a0 a1 a2 a3 a4,ChO (fun κ=>r23 κ a0 a1 a2 a3 a4) (r23' a0 a1 a2 a3 a4)) (a:Tp3) (b:Tp3) (t_2:Int) (t_3:Int) (t_4:Int) (out_10:Int) (out_11:Int) (l_4:Tp12) (l_5:Tp8) (next':Int):ChO (fun κ=>zfC a b t_2 t_3 t_4 out_10 out_11 l_4 l_5 (r23 κ) next') (zfC a b t_2 t_3 t_4 out_10 out_11 l_4 l_5 r23' next'):=by
  unfold zfC
  repeat' with_reducible first | exact ChO.const _ | exact h_r23 _ _ _ _ _ | (apply zcR<;>assumption) | apply ChO.ite | apply ChO.G | apply ChO.both | (apply ChO.bind;intro _)
theorem zeZ (r23:Nat->Tf4) (r23':Tf4) (h_r23:∀ a0 a1 a2 a3 a4,ChO (fun κ=>r23 κ a0 a1 a2 a3 a4) (r23' a0 a1 a2 a3 a4)) (a:Tp3) (b:Tp3) (t_2:Int) (t_3:Int) (t_4:Int) (out_10:Int) (out_11:Int) (l_4:Tp12) (l_5:Tp8) (t_5:Bool):ChO (fun κ=>zc5 a b t_2 t_3 t_4 out_10 out_11 l_4 l_5 (r23 κ) t_5) (zc5 a b t_2 t_3 t_4 out_10 out_11 l_4 l_5 r23' t_5):=by
  unfold zc5
  repeat' with_reducible first | exact ChO.const _ | exact h_r23 _ _ _ _ _ | (apply zcR<;>assumption) | (apply zdJ<;>assumption) | apply ChO.ite | apply ChO.G | apply ChO.both | (apply ChO.bind;intro _)
theorem zlK (r19:Nat->Tf4) (r19':Tf4) (h_r19:∀ a0 a1 a2 a3 a4,ChO (fun κ=>r19 κ a0 a1 a2 a3 a4) (r19' a0 a1 a2 a3 a4)) (r23:Nat->Tf4) (r23':Tf4) (h_r23:∀ a0 a1 a2 a3 a4,ChO (fun κ=>r23 κ a0 a1 a2 a3 a4) (r23' a0 a1 a2 a3 a4)) (a:Tp3) (b:Tp3) (t_2:Int) (t_3:Int) (t_4:Int) (out_10:Int) (out_11:Int) (l_4:Tp12) (l_5:Tp8):ChO (fun κ=>zes a b t_2 t_3 (r19 κ) (r23 κ) t_4 out_10 out_11 l_4 l_5) (zes a b t_2 t_3 r19' r23' t_4 out_10 out_11 l_4 l_5):=by
  unfold zes
  repeat' with_reducible first | exact ChO.const _ | exact h_r19 _ _ _ _ _ | exact h_r23 _ _ _ _ _ | (apply zcR<;>assumption) | (apply zdJ<;>assumption) | (apply zeZ<;>assumption) | apply ChO.ite | apply ChO.G | apply ChO.both | (apply ChO.bind;intro _)
theorem zj9 (r19:Tf4) (a:Tp3) (b:Tp3) (t_2:Int) (t_3:Int):Cn (zos a b t_2 t_3 r19):=fun g h hg x=>zlK (fun _=>r19) r19 (fun _ _ _ _ _=>ChO.const _) (fun κ t_4 out_10 out_11 l_4 l_5=>g κ (t_4,out_10,out_11,l_4,l_5)) (fun t_4 out_10 out_11 l_4 l_5=>h (t_4,out_10,out_11,l_4,l_5)) (fun t_4 out_10 out_11 l_4 l_5=>hg (t_4,out_10,out_11,l_4,l_5)) a b t_2 t_3 x.1 x.2.1 x.2.2.1 x.2.2.2.1 x.2.2.2.2
theorem znc (r19:Tf4) (a:Tp3) (b:Tp3) (t_2:Int) (t_3:Int) (t_4:Int) (out_10:Int) (out_11:Int) (l_4:Tp12) (l_5:Tp8):zcw a b t_2 t_3 r19 t_4 out_10 out_11 l_4 l_5=zes a b t_2 t_3 r19 (zcw a b t_2 t_3 r19) t_4 out_10 out_11 l_4 l_5:=zam (zj9 r19 a b t_2 t_3) (t_4,out_10,out_11,l_4,l_5)
theorem zf6 (r19:Nat->Tf4) (r19':Tf4) (h_r19:∀ a0 a1 a2 a3 a4,ChO (fun κ=>r19 κ a0 a1 a2 a3 a4) (r19' a0 a1 a2 a3 a4)) (a:Tp3) (b:Tp3) (t_2:Int) (t_3:Int) (t_4:Int) (out_10:Int) (out_11:Int) (l_4:Tp12) (l_5:Tp8):ChO (fun κ=>zcw a b t_2 t_3 (r19 κ) t_4 out_10 out_11 l_4 l_5) (zcw a b t_2 t_3 r19' t_4 out_10 out_11 l_4 l_5):=by
  unfold zcw
  exact zdI (fun κ=>(zj9 (r19 κ) a b t_2 t_3).mono) (zj9 r19' a b t_2 t_3).mono (fun g h hg x=>zlK r19 r19' h_r19 (fun κ t_4 out_10 out_11 l_4 l_5=>g κ (t_4,out_10,out_11,l_4,l_5)) (fun t_4 out_10 out_11 l_4 l_5=>h (t_4,out_10,out_11,l_4,l_5)) (fun t_4 out_10 out_11 l_4 l_5=>hg (t_4,out_10,out_11,l_4,l_5)) a b t_2 t_3 x.1 x.2.1 x.2.2.1 x.2.2.2.1 x.2.2.2.2) _
theorem zlJ (r16:Nat->Tf4) (r16':Tf4) (h_r16:∀ a0 a1 a2 a3 a4,ChO (fun κ=>r16 κ a0 a1 a2 a3 a4) (r16' a0 a1 a2 a3 a4)) (r19:Nat->Tf4) (r19':Tf4) (h_r19:∀ a0 a1 a2 a3 a4,ChO (fun κ=>r19 κ a0 a1 a2 a3 a4) (r19' a0 a1 a2 a3 a4)) (a:Tp3) (b:Tp3) (t_2:Int) (t_3:Int) (out_8:Int) (out_9:Int) (l_2:Tp12) (l_3:Tp8):ChO (fun κ=>zer a b t_2 (r16 κ) (r19 κ) t_3 out_8 out_9 l_2 l_3) (zer a b t_2 r16' r19' t_3 out_8 out_9 l_2 l_3):=by
  unfold zer
  repeat' with_reducible first | exact ChO.const _ | exact h_r16 _ _ _ _ _ | exact h_r19 _ _ _ _ _ | (apply zcR<;>assumption) | (apply zdJ<;>assumption) | (apply zeZ<;>assumption) | (apply zf6<;>assumption) | apply ChO.ite | apply ChO.G | apply ChO.both | (apply ChO.bind;intro _)
theorem zj8 (r16:Tf4) (a:Tp3) (b:Tp3) (t_2:Int):Cn (zor a b t_2 r16):=fun g h hg x=>zlJ (fun _=>r16) r16 (fun _ _ _ _ _=>ChO.const _) (fun κ t_3 out_8 out_9 l_2 l_3=>g κ (t_3,out_8,out_9,l_2,l_3)) (fun t_3 out_8 out_9 l_2 l_3=>h (t_3,out_8,out_9,l_2,l_3)) (fun t_3 out_8 out_9 l_2 l_3=>hg (t_3,out_8,out_9,l_2,l_3)) a b t_2 x.1 x.2.1 x.2.2.1 x.2.2.2.1 x.2.2.2.2
theorem znb (r16:Tf4) (a:Tp3) (b:Tp3) (t_2:Int) (t_3:Int) (out_8:Int) (out_9:Int) (l_2:Tp12) (l_3:Tp8):zfE a b t_2 r16 t_3 out_8 out_9 l_2 l_3=zer a b t_2 r16 (zfE a b t_2 r16) t_3 out_8 out_9 l_2 l_3:=zam (zj8 r16 a b t_2) (t_3,out_8,out_9,l_2,l_3)
theorem zh0 (r16:Nat->Tf4) (r16':Tf4) (h_r16:∀ a0 a1 a2 a3 a4,ChO (fun κ=>r16 κ a0 a1 a2 a3 a4) (r16' a0 a1 a2 a3 a4)) (a:Tp3) (b:Tp3) (t_2:Int) (t_3:Int) (out_8:Int) (out_9:Int) (l_2:Tp12) (l_3:Tp8):ChO (fun κ=>zfE a b t_2 (r16 κ) t_3 out_8 out_9 l_2 l_3) (zfE a b t_2 r16' t_3 out_8 out_9 l_2 l_3):=by
  unfold zfE
  exact zdI (fun κ=>(zj8 (r16 κ) a b t_2).mono) (zj8 r16' a b t_2).mono (fun g h hg x=>zlJ r16 r16' h_r16 (fun κ t_3 out_8 out_9 l_2 l_3=>g κ (t_3,out_8,out_9,l_2,l_3)) (fun t_3 out_8 out_9 l_2 l_3=>h (t_3,out_8,out_9,l_2,l_3)) (fun t_3 out_8 out_9 l_2 l_3=>hg (t_3,out_8,out_9,l_2,l_3)) a b t_2 x.1 x.2.1 x.2.2.1 x.2.2.2.1 x.2.2.2.2) _
theorem zlL (r33:Nat->Tf3) (r33':Tf3) (h_r33:∀ a0 a1 a2 a3 a4 a5,ChO (fun κ=>r33 κ a0 a1 a2 a3 a4 a5) (r33' a0 a1 a2 a3 a4 a5)) (r36:Nat->Tf3) (r36':Tf3) (h_r36:∀ a0 a1 a2 a3 a4 a5,ChO (fun κ=>r36 κ a0 a1 a2 a3 a4 a5) (r36' a0 a1 a2 a3 a4 a5)) (a:Tp3) (b:Tp3) (t_6:Int) (t_7:Int) (out_15:Int) (out_16:Int) (l_8:Tp12) (l_9:Tp8) (l_10:Tp12):ChO (fun κ=>zeu a b t_6 (r33 κ) (r36 κ) t_7 out_15 out_16 l_8 l_9 l_10) (zeu a b t_6 r33' r36' t_7 out_15 out_16 l_8 l_9 l_10):=by
  unfold zeu
  repeat' with_reducible first | exact ChO.const _ | exact h_r33 _ _ _ _ _ _ | exact h_r36 _ _ _ _ _ _ | (apply zcR<;>assumption) | (apply zdJ<;>assumption) | (apply zeZ<;>assumption) | (apply zf6<;>assumption) | (apply zh0<;>assumption) | apply ChO.ite | apply ChO.G | apply ChO.both | (apply ChO.bind;intro _)
theorem zkb (r33:Tf3) (a:Tp3) (b:Tp3) (t_6:Int):Cn (zou a b t_6 r33):=fun g h hg x=>zlL (fun _=>r33) r33 (fun _ _ _ _ _ _=>ChO.const _) (fun κ t_7 out_15 out_16 l_8 l_9 l_10=>g κ (t_7,out_15,out_16,l_8,l_9,l_10)) (fun t_7 out_15 out_16 l_8 l_9 l_10=>h (t_7,out_15,out_16,l_8,l_9,l_10)) (fun t_7 out_15 out_16 l_8 l_9 l_10=>hg (t_7,out_15,out_16,l_8,l_9,l_10)) a b t_6 x.1 x.2.1 x.2.2.1 x.2.2.2.1 x.2.2.2.2.1 x.2.2.2.2.2
theorem zne (r33:Tf3) (a:Tp3) (b:Tp3) (t_6:Int) (t_7:Int) (out_15:Int) (out_16:Int) (l_8:Tp12) (l_9:Tp8) (l_10:Tp12):zfF a b t_6 r33 t_7 out_15 out_16 l_8 l_9 l_10=zeu a b t_6 r33 (zfF a b t_6 r33) t_7 out_15 out_16 l_8 l_9 l_10:=zam (zkb r33 a b t_6) (t_7,out_15,out_16,l_8,l_9,l_10)
theorem zka (r33:Nat->Tf3) (r33':Tf3) (h_r33:∀ a0 a1 a2 a3 a4 a5,ChO (fun κ=>r33 κ a0 a1 a2 a3 a4 a5) (r33' a0 a1 a2 a3 a4 a5)) (a:Tp3) (b:Tp3) (t_6:Int) (t_7:Int) (out_15:Int) (out_16:Int) (l_8:Tp12) (l_9:Tp8) (l_10:Tp12):ChO (fun κ=>zfF a b t_6 (r33 κ) t_7 out_15 out_16 l_8 l_9 l_10) (zfF a b t_6 r33' t_7 out_15 out_16 l_8 l_9 l_10):=by
  unfold zfF
  exact zdI (fun κ=>(zkb (r33 κ) a b t_6).mono) (zkb r33' a b t_6).mono (fun g h hg x=>zlL r33 r33' h_r33 (fun κ t_7 out_15 out_16 l_8 l_9 l_10=>g κ (t_7,out_15,out_16,l_8,l_9,l_10)) (fun t_7 out_15 out_16 l_8 l_9 l_10=>h (t_7,out_15,out_16,l_8,l_9,l_10)) (fun t_7 out_15 out_16 l_8 l_9 l_10=>hg (t_7,out_15,out_16,l_8,l_9,l_10)) a b t_6 x.1 x.2.1 x.2.2.1 x.2.2.2.1 x.2.2.2.2.1 x.2.2.2.2.2) _
theorem zqG (r33:Nat->Tf3) (r33':Tf3) (h_r33:∀ a0 a1 a2 a3 a4 a5,ChO (fun κ=>r33 κ a0 a1 a2 a3 a4 a5) (r33' a0 a1 a2 a3 a4 a5)) (a:Tp3) (b:Tp3) (t_6:Int) (out_12:Int) (out_13:Int) (l_6:Tp12) (l_7:Tp8) (out_14:Tp12):ChO (fun κ=>zet a b (r33 κ) t_6 out_12 out_13 l_6 l_7 out_14) (zet a b r33' t_6 out_12 out_13 l_6 l_7 out_14):=by
  unfold zet
  repeat' with_reducible first | exact ChO.const _ | exact h_r33 _ _ _ _ _ _ | (apply zcR<;>assumption) | (apply zdJ<;>assumption) | (apply zeZ<;>assumption) | (apply zf6<;>assumption) | (apply zh0<;>assumption) | (apply zka<;>assumption) | apply ChO.ite | apply ChO.G | apply ChO.both | (apply ChO.bind;intro _)
theorem zr3  (a:Tp3) (b:Tp3):Cn (zot a b):=fun g h hg x=>zqG  (fun κ t_6 out_12 out_13 l_6 l_7 out_14=>g κ (t_6,out_12,out_13,l_6,l_7,out_14)) (fun t_6 out_12 out_13 l_6 l_7 out_14=>h (t_6,out_12,out_13,l_6,l_7,out_14)) (fun t_6 out_12 out_13 l_6 l_7 out_14=>hg (t_6,out_12,out_13,l_6,l_7,out_14)) a b x.1 x.2.1 x.2.2.1 x.2.2.2.1 x.2.2.2.2.1 x.2.2.2.2.2
theorem znd  (a:Tp3) (b:Tp3) (t_6:Int) (out_12:Int) (out_13:Int) (l_6:Tp12) (l_7:Tp8) (out_14:Tp12):zhi a b t_6 out_12 out_13 l_6 l_7 out_14=zet a b (zhi a b) t_6 out_12 out_13 l_6 l_7 out_14:=zam (zr3 a b) (t_6,out_12,out_13,l_6,l_7,out_14)
theorem zqF (r16:Nat->Tf4) (r16':Tf4) (h_r16:∀ a0 a1 a2 a3 a4,ChO (fun κ=>r16 κ a0 a1 a2 a3 a4) (r16' a0 a1 a2 a3 a4)) (a:Tp3) (b:Tp3) (t_2:Int) (out_5:Int) (out_6:Int) (l_1:Tp12) (out_7:Tp8):ChO (fun κ=>zeq a b (r16 κ) t_2 out_5 out_6 l_1 out_7) (zeq a b r16' t_2 out_5 out_6 l_1 out_7):=by
  unfold zeq
  repeat' with_reducible first | exact ChO.const _ | exact h_r16 _ _ _ _ _ | (apply zcR<;>assumption) | (apply zdJ<;>assumption) | (apply zeZ<;>assumption) | (apply zf6<;>assumption) | (apply zh0<;>assumption) | (apply zka<;>assumption) | apply ChO.ite | apply ChO.G | apply ChO.both | (apply ChO.bind;intro _)
theorem zr2  (a:Tp3) (b:Tp3):Cn (zoq a b):=fun g h hg x=>zqF  (fun κ t_2 out_5 out_6 l_1 out_7=>g κ (t_2,out_5,out_6,l_1,out_7)) (fun t_2 out_5 out_6 l_1 out_7=>h (t_2,out_5,out_6,l_1,out_7)) (fun t_2 out_5 out_6 l_1 out_7=>hg (t_2,out_5,out_6,l_1,out_7)) a b x.1 x.2.1 x.2.2.1 x.2.2.2.1 x.2.2.2.2
theorem zna  (a:Tp3) (b:Tp3) (t_2:Int) (out_5:Int) (out_6:Int) (l_1:Tp12) (out_7:Tp8):zhh a b t_2 out_5 out_6 l_1 out_7=zeq a b (zhh a b) t_2 out_5 out_6 l_1 out_7:=zam (zr2 a b) (t_2,out_5,out_6,l_1,out_7)
theorem zqY (r7:Nat->Tf7) (r7':Tf7) (h_r7:∀ a0 a1 a2 a3,ChO (fun κ=>r7 κ a0 a1 a2 a3) (r7' a0 a1 a2 a3)) (a:Tp3) (b:Tp3) (t:Int) (out:Int) (out_1:Int) (out_2:Tp12):ChO (fun κ=>ze1 a b (r7 κ) t out out_1 out_2) (ze1 a b r7' t out out_1 out_2):=by
  unfold ze1
  repeat' with_reducible first | exact ChO.const _ | exact h_r7 _ _ _ _ | (apply zcR<;>assumption) | (apply zdJ<;>assumption) | (apply zeZ<;>assumption) | (apply zf6<;>assumption) | (apply zh0<;>assumption) | (apply zka<;>assumption) | apply ChO.ite | apply ChO.G | apply ChO.both | (apply ChO.bind;intro _)
theorem zto  (a:Tp3) (b:Tp3):Cn (zo2 a b):=fun g h hg x=>zqY  (fun κ t out out_1 out_2=>g κ (t,out,out_1,out_2)) (fun t out out_1 out_2=>h (t,out,out_1,out_2)) (fun t out out_1 out_2=>hg (t,out,out_1,out_2)) a b x.1 x.2.1 x.2.2.1 x.2.2.2
theorem zov  (a:Tp3) (b:Tp3) (t:Int) (out:Int) (out_1:Int) (out_2:Tp12):zji a b t out out_1 out_2=ze1 a b (zji a b) t out out_1 out_2:=zam (zto a b) (t,out,out_1,out_2)

def zgM (a:Tp12) (b:Tp12) (r4:Int->Option (Bool)) (i:Int):Option (Bool):=
  if (decide (i < (a.length:Int)))=true then
  G (0<=i/\i < (a.length:Int)) (
  G (0<=i/\i < (b.length:Int)) (
  if (decide (¬ (ix a i)=(ix b i)))=true then
  some false else
  G (fits (i+(1:Int))) (
  r4 (i+(1:Int))))) else
  some true
def zrF (a:Tp12) (b:Tp12):(Int->Option (Bool))->Int->Option (Bool):=
  fun rec x=>zgM a b (fun i=>rec i) x
def zog (a:Tp12) (b:Tp12) (i:Int):Option (Bool):=LFix (zrF a b ) i
def zrE (a:Tp12) (b:Tp12):Option (Bool):=
  if (decide (¬ (a.length:Int)=(b.length:Int)))=true then
  some false else
  zog a b (0:Int)
theorem ztr (r4:Nat->Int->Option (Bool)) (r4':Int->Option (Bool)) (h_r4:∀ a0,ChO (fun κ=>r4 κ a0) (r4' a0)) (a:Tp12) (b:Tp12) (i:Int):ChO (fun κ=>zgM a b (r4 κ) i) (zgM a b r4' i):=by
  unfold zgM
  repeat' with_reducible first | exact ChO.const _ | exact h_r4 _ | apply ChO.ite | apply ChO.G | apply ChO.both | (apply ChO.bind;intro _)
theorem zvo  (a:Tp12) (b:Tp12):Cn (zrF a b):=fun g h hg x=>ztr  (fun κ i=>g κ i) (fun i=>h i) (fun i=>hg i) a b x
theorem zql  (a:Tp12) (b:Tp12) (i:Int):zog a b i=zgM a b (zog a b) i:=zam (zvo a b) i

def zdN (a:Tp3) (b:Tp3) (r6:Int->Option (Bool)) (i:Int):Option (Bool):=
  if (decide (i < (a.2.2.2.1.length:Int)))=true then
  G (0<=i/\i < (a.2.2.2.1.length:Int)) (
  G (0<=i/\i < (b.2.2.2.1.length:Int)) (
  if (!(eqB (ix a.2.2.2.1 i) (ix b.2.2.2.1 i)))=true then
  some false else
  G (fits (i+(1:Int))) (
  r6 (i+(1:Int))))) else
  some true
def znu (a:Tp3) (b:Tp3):(Int->Option (Bool))->Int->Option (Bool):=
  fun rec x=>zdN a b (fun i=>rec i) x
def zju (a:Tp3) (b:Tp3) (i:Int):Option (Bool):=LFix (znu a b ) i
def zkI (a:Tp3) (b:Tp3):Option (Bool):=
  (zrE a.2.2.1 b.2.2.1).bind (fun y'=>
  (zrE a.2.2.2.2.1 b.2.2.2.2.1).bind (fun y'_1=>
  if (decide (¬ a.1=b.1))=true then
  some false else
  if (decide (¬ a.2.1=b.2.1))=true then
  some false else
  if (!y')=true then
  some false else
  if (!y'_1)=true then
  some false else
  if (decide (¬ (a.2.2.2.1.length:Int)=(b.2.2.2.1.length:Int)))=true then
  some false else
  zju a b (0:Int)))
theorem zp2 (r6:Nat->Int->Option (Bool)) (r6':Int->Option (Bool)) (h_r6:∀ a0,ChO (fun κ=>r6 κ a0) (r6' a0)) (a:Tp3) (b:Tp3) (i:Int):ChO (fun κ=>zdN a b (r6 κ) i) (zdN a b r6' i):=by
  unfold zdN
  repeat' with_reducible first | exact ChO.const _ | exact h_r6 _ | apply ChO.ite | apply ChO.G | apply ChO.both | (apply ChO.bind;intro _)
theorem zrp  (a:Tp3) (b:Tp3):Cn (znu a b):=fun g h hg x=>zp2  (fun κ i=>g κ i) (fun i=>h i) (fun i=>hg i) a b x
theorem zmI  (a:Tp3) (b:Tp3) (i:Int):zju a b i=zdN a b (zju a b) i:=zam (zrp a b) i

def ztJ (x':Tp10) (y':Tp10):Option (Bool):=
  if (decide (¬ x'.1=y'.1))=true then
  some (decide (x'.1 < y'.1)) else
  if (decide (¬ x'.2.1=y'.2.1))=true then
  some (decide (x'.2.1 < y'.2.1)) else
  some (decide (x'.2.2.1 < y'.2.2.1))

def zeT (a:Tp3) (r32:Int->Option (Int)) (i_5:Int):Option (Int):=
  if (decide (i_5 < (a.2.2.2.1.length:Int)))=true then
  G (fits (i_5 - (1:Int))) (
  G (0<=i_5 - (1:Int)/\i_5 - (1:Int) < (a.2.2.2.1.length:Int)) (
  G (0<=i_5/\i_5 < (a.2.2.2.1.length:Int)) (
  (ztJ (ix a.2.2.2.1 (i_5 - (1:Int))) (ix a.2.2.2.1 i_5)).bind (fun y'=>
  if (!y')=true then
  some (3:Int) else
  G (fits (i_5+(1:Int))) (
  r32 (i_5+(1:Int))))))) else
  some (0:Int)
def zqs (a:Tp3):(Int->Option (Int))->Int->Option (Int):=
  fun rec x=>zeT a (fun i_5=>rec i_5) x
def zpA (a:Tp3) (i_5:Int):Option (Int):=LFix (zqs a ) i_5
def zeS (a:Tp3) (r27:Int->Option (Int)) (i_4:Int):Option (Int):=
  if (decide (i_4 < (a.2.2.2.2.1.length:Int)))=true then
  G (fits (i_4 - (1:Int))) (
  G (0<=i_4 - (1:Int)/\i_4 - (1:Int) < (a.2.2.2.2.1.length:Int)) (
  G (0<=i_4/\i_4 < (a.2.2.2.2.1.length:Int)) (
  if (decide ((ix a.2.2.2.2.1 i_4)<=(ix a.2.2.2.2.1 (i_4 - (1:Int)))))=true then
  some (3:Int) else
  G (fits (i_4+(1:Int))) (
  r27 (i_4+(1:Int)))))) else
  zpA a (1:Int)
def zqr (a:Tp3):(Int->Option (Int))->Int->Option (Int):=
  fun rec x=>zeS a (fun i_4=>rec i_4) x
def zpz (a:Tp3) (i_4:Int):Option (Int):=LFix (zqr a ) i_4
def zeR (a:Tp3) (r22:Int->Option (Int)) (i_3:Int):Option (Int):=
  if (decide (i_3 < (a.2.2.1.length:Int)))=true then
  G (fits (i_3 - (1:Int))) (
  G (0<=i_3 - (1:Int)/\i_3 - (1:Int) < (a.2.2.1.length:Int)) (
  G (0<=i_3/\i_3 < (a.2.2.1.length:Int)) (
  if (decide ((ix a.2.2.1 i_3)<=(ix a.2.2.1 (i_3 - (1:Int)))))=true then
  some (3:Int) else
  G (fits (i_3+(1:Int))) (
  r22 (i_3+(1:Int)))))) else
  zpz a (1:Int)
def zqq (a:Tp3):(Int->Option (Int))->Int->Option (Int):=
  fun rec x=>zeR a (fun i_3=>rec i_3) x
def zpy (a:Tp3) (i_3:Int):Option (Int):=LFix (zqq a ) i_3
def zeQ (a:Tp3) (r16:Int->Option (Int)) (i_2:Int):Option (Int):=
  if (decide (i_2 < (a.2.2.2.1.length:Int)))=true then
  G (0<=i_2/\i_2 < (a.2.2.2.1.length:Int)) (
  if (decide (((ix a.2.2.2.1 i_2).1) < (0:Int)))=true then
  some (2:Int) else
  if (decide (a.2.1<=((ix a.2.2.2.1 i_2).1)))=true then
  some (2:Int) else
  if (decide (((((ix a.2.2.2.1 i_2).2).2).1) < (0:Int)))=true then
  some (2:Int) else
  if (decide (a.2.1<=((((ix a.2.2.2.1 i_2).2).2).1)))=true then
  some (2:Int) else
  if (decide ((((ix a.2.2.2.1 i_2).2).1) < (0:Int)))=true then
  some (2:Int) else
  if (decide (a.1<=(((ix a.2.2.2.1 i_2).2).1)))=true then
  some (2:Int) else
  G (fits (i_2+(1:Int))) (
  r16 (i_2+(1:Int)))) else
  zpy a (1:Int)
def zqp (a:Tp3):(Int->Option (Int))->Int->Option (Int):=
  fun rec x=>zeQ a (fun i_2=>rec i_2) x
def zpx (a:Tp3) (i_2:Int):Option (Int):=LFix (zqp a ) i_2
def zeP (a:Tp3) (r11:Int->Option (Int)) (i_1:Int):Option (Int):=
  if (decide (i_1 < (a.2.2.2.2.1.length:Int)))=true then
  G (0<=i_1/\i_1 < (a.2.2.2.2.1.length:Int)) (
  if (decide ((ix a.2.2.2.2.1 i_1) < (0:Int)))=true then
  some (2:Int) else
  G (0<=i_1/\i_1 < (a.2.2.2.2.1.length:Int)) (
  if (decide (a.2.1<=(ix a.2.2.2.2.1 i_1)))=true then
  some (2:Int) else
  G (fits (i_1+(1:Int))) (
  r11 (i_1+(1:Int))))) else
  zpx a (0:Int)
def zqo (a:Tp3):(Int->Option (Int))->Int->Option (Int):=
  fun rec x=>zeP a (fun i_1=>rec i_1) x
def zpw (a:Tp3) (i_1:Int):Option (Int):=LFix (zqo a ) i_1
def zfo (a:Tp3) (r6:Int->Option (Int)) (i:Int):Option (Int):=
  if (decide (i < (a.2.2.1.length:Int)))=true then
  G (0<=i/\i < (a.2.2.1.length:Int)) (
  if (decide ((ix a.2.2.1 i) < (0:Int)))=true then
  some (2:Int) else
  G (0<=i/\i < (a.2.2.1.length:Int)) (
  if (decide (a.2.1<=(ix a.2.2.1 i)))=true then
  some (2:Int) else
  G (fits (i+(1:Int))) (
  r6 (i+(1:Int))))) else
  zpw a (0:Int)
def zrL (a:Tp3):(Int->Option (Int))->Int->Option (Int):=
  fun rec x=>zfo a (fun i=>rec i) x
def zqQ (a:Tp3) (i:Int):Option (Int):=LFix (zrL a ) i
def zoh (a:Tp3):Option (Int):=
  if (decide (a.1 < (1:Int)))=true then
  some (2:Int) else
  if (decide ((4:Int) < a.1))=true then
  some (2:Int) else
  if (decide (a.2.1 < (1:Int)))=true then
  some (1:Int) else
  if (decide ((300:Int) < a.2.1))=true then
  some (1:Int) else
  if (decide ((40000:Int) < (a.2.2.2.1.length:Int)))=true then
  some (1:Int) else
  zqQ a (0:Int)
theorem zsp (r32:Nat->Int->Option (Int)) (r32':Int->Option (Int)) (h_r32:∀ a0,ChO (fun κ=>r32 κ a0) (r32' a0)) (a:Tp3) (i_5:Int):ChO (fun κ=>zeT a (r32 κ) i_5) (zeT a r32' i_5):=by
  unfold zeT
  repeat' with_reducible first | exact ChO.const _ | exact h_r32 _ | apply ChO.ite | apply ChO.G | apply ChO.both | (apply ChO.bind;intro _)
theorem zuM  (a:Tp3):Cn (zqs a):=fun g h hg x=>zsp  (fun κ i_5=>g κ i_5) (fun i_5=>h i_5) (fun i_5=>hg i_5) a x
theorem zl4  (a:Tp3) (i_5:Int):zpA a i_5=zeT a (zpA a) i_5:=zam (zuM a) i_5
theorem zso (r27:Nat->Int->Option (Int)) (r27':Int->Option (Int)) (h_r27:∀ a0,ChO (fun κ=>r27 κ a0) (r27' a0)) (a:Tp3) (i_4:Int):ChO (fun κ=>zeS a (r27 κ) i_4) (zeS a r27' i_4):=by
  unfold zeS
  repeat' with_reducible first | exact ChO.const _ | exact h_r27 _ | apply ChO.ite | apply ChO.G | apply ChO.both | (apply ChO.bind;intro _)
theorem zuL  (a:Tp3):Cn (zqr a):=fun g h hg x=>zso  (fun κ i_4=>g κ i_4) (fun i_4=>h i_4) (fun i_4=>hg i_4) a x
theorem zl3  (a:Tp3) (i_4:Int):zpz a i_4=zeS a (zpz a) i_4:=zam (zuL a) i_4
theorem zsn (r22:Nat->Int->Option (Int)) (r22':Int->Option (Int)) (h_r22:∀ a0,ChO (fun κ=>r22 κ a0) (r22' a0)) (a:Tp3) (i_3:Int):ChO (fun κ=>zeR a (r22 κ) i_3) (zeR a r22' i_3):=by
  unfold zeR
  repeat' with_reducible first | exact ChO.const _ | exact h_r22 _ | apply ChO.ite | apply ChO.G | apply ChO.both | (apply ChO.bind;intro _)
theorem zuK  (a:Tp3):Cn (zqq a):=fun g h hg x=>zsn  (fun κ i_3=>g κ i_3) (fun i_3=>h i_3) (fun i_3=>hg i_3) a x
theorem zl2  (a:Tp3) (i_3:Int):zpy a i_3=zeR a (zpy a) i_3:=zam (zuK a) i_3
theorem zsm (r16:Nat->Int->Option (Int)) (r16':Int->Option (Int)) (h_r16:∀ a0,ChO (fun κ=>r16 κ a0) (r16' a0)) (a:Tp3) (i_2:Int):ChO (fun κ=>zeQ a (r16 κ) i_2) (zeQ a r16' i_2):=by
  unfold zeQ
  repeat' with_reducible first | exact ChO.const _ | exact h_r16 _ | apply ChO.ite | apply ChO.G | apply ChO.both | (apply ChO.bind;intro _)
theorem zuJ  (a:Tp3):Cn (zqp a):=fun g h hg x=>zsm  (fun κ i_2=>g κ i_2) (fun i_2=>h i_2) (fun i_2=>hg i_2) a x
theorem zl1  (a:Tp3) (i_2:Int):zpx a i_2=zeQ a (zpx a) i_2:=zam (zuJ a) i_2
theorem zsl (r11:Nat->Int->Option (Int)) (r11':Int->Option (Int)) (h_r11:∀ a0,ChO (fun κ=>r11 κ a0) (r11' a0)) (a:Tp3) (i_1:Int):ChO (fun κ=>zeP a (r11 κ) i_1) (zeP a r11' i_1):=by
  unfold zeP
  repeat' with_reducible first | exact ChO.const _ | exact h_r11 _ | apply ChO.ite | apply ChO.G | apply ChO.both | (apply ChO.bind;intro _)
theorem zuI  (a:Tp3):Cn (zqo a):=fun g h hg x=>zsl  (fun κ i_1=>g κ i_1) (fun i_1=>h i_1) (fun i_1=>hg i_1) a x
theorem zl0  (a:Tp3) (i_1:Int):zpw a i_1=zeP a (zpw a) i_1:=zam (zuI a) i_1
theorem ztv (r6:Nat->Int->Option (Int)) (r6':Int->Option (Int)) (h_r6:∀ a0,ChO (fun κ=>r6 κ a0) (r6' a0)) (a:Tp3) (i:Int):ChO (fun κ=>zfo a (r6 κ) i) (zfo a r6' i):=by
  unfold zfo
  repeat' with_reducible first | exact ChO.const _ | exact h_r6 _ | apply ChO.ite | apply ChO.G | apply ChO.both | (apply ChO.bind;intro _)
theorem zvp  (a:Tp3):Cn (zrL a):=fun g h hg x=>ztv  (fun κ i=>g κ i) (fun i=>h i) (fun i=>hg i) a x
theorem zmZ  (a:Tp3) (i:Int):zqQ a i=zfo a (zqQ a) i:=zam (zvp a) i

def znt (a:Tp3):Option (Bool):=
  if (decide (a.1=(0:Int)))=true then
  if (decide (a.2.1=(0:Int)))=true then
  G (fits ((a.2.2.1.length:Int)+(a.2.2.2.2.1.length:Int))) (
  G (fits (((a.2.2.1.length:Int)+(a.2.2.2.2.1.length:Int))+(a.2.2.2.1.length:Int))) (
  some (decide ((((a.2.2.1.length:Int)+(a.2.2.2.2.1.length:Int))+(a.2.2.2.1.length:Int))=(0:Int))))) else
  some false else
  some false

def ziL (letters:Int) (w:Tp12) (r6:Int->Option (Int)) (i:Int):Option (Int):=
  if (decide (i < (w.length:Int)))=true then
  G (0<=i/\i < (w.length:Int)) (
  if (decide ((ix w i) < (0:Int)))=true then
  some (2:Int) else
  G (0<=i/\i < (w.length:Int)) (
  if (decide (letters<=(ix w i)))=true then
  some (2:Int) else
  G (fits (i+(1:Int))) (
  r6 (i+(1:Int))))) else
  some (0:Int)
def zuE (letters:Int) (w:Tp12):(Int->Option (Int))->Int->Option (Int):=
  fun rec x=>ziL letters w (fun i=>rec i) x
def zrD (letters:Int) (w:Tp12) (i:Int):Option (Int):=LFix (zuE letters w ) i
def zxK (letters:Int) (w:Tp12):Option (Int):=
  if (decide (letters < (1:Int)))=true then
  some (2:Int) else
  if (decide ((4:Int) < letters))=true then
  some (2:Int) else
  if (decide ((60:Int) < (w.length:Int)))=true then
  some (1:Int) else
  zrD letters w (0:Int)
theorem zvm (r6:Nat->Int->Option (Int)) (r6':Int->Option (Int)) (h_r6:∀ a0,ChO (fun κ=>r6 κ a0) (r6' a0)) (letters:Int) (w:Tp12) (i:Int):ChO (fun κ=>ziL letters w (r6 κ) i) (ziL letters w r6' i):=by
  unfold ziL
  repeat' with_reducible first | exact ChO.const _ | exact h_r6 _ | apply ChO.ite | apply ChO.G | apply ChO.both | (apply ChO.bind;intro _)
theorem zxL  (letters:Int) (w:Tp12):Cn (zuE letters w):=fun g h hg x=>zvm  (fun κ i=>g κ i) (fun i=>h i) (fun i=>hg i) letters w x
theorem zsZ  (letters:Int) (w:Tp12) (i:Int):zrD letters w i=ziL letters w (zrD letters w) i:=zam (zxL letters w) i

def ztI (letters:Int) (l:Tp7):Option (Int):=
  (zxK letters l.1).bind (fun y'=>
  if (decide (¬ y'=(0:Int)))=true then
  some y' else
  (zxK letters l.2.1).bind (fun y'_1=>
  if (decide (¬ y'_1=(0:Int)))=true then
  some y'_1 else
  if (decide ((l.2.1.length:Int)=(0:Int)))=true then
  some (1:Int) else
  some (0:Int)))

def zw0 (a:Tp3) (l:Tp7):Option (Int):=
  (ztI a.1 (l.1,(l.2.1,()))).bind (fun y'=>
  some y')

def zoi (a:Tp3) (i:Int) (out:Tp11) (r3:(Int->Tp11->Option Tp11)) (t:Bool):Option Tp11:=
  if t=true then
  G (0<=(((ix a.2.2.2.1 i).2).2).1/\(((ix a.2.2.2.1 i).2).2).1 < (out.length:Int)) (
  G (((((ix a.2.2.2.1 i).2).2).1).toNat < out.length) (
  G (fits (i+(1:Int))) (
  r3 (i+(1:Int)) (out.set ((((ix a.2.2.2.1 i).2).2).1).toNat true)))) else
  G (fits (i+(1:Int))) (
  r3 (i+(1:Int)) out)
def zkl (a:Tp3) (from':Tp11) (letter:Int) (r3:Int->Tp11->Option Tp11) (i:Int) (out:Tp11):Option Tp11:=
  if (decide (i < (a.2.2.2.1.length:Int)))=true then
  G (0<=i/\i < (a.2.2.2.1.length:Int)) (
  if (decide ((((ix a.2.2.2.1 i).2).1)=letter))=true then
  G (0<=(ix a.2.2.2.1 i).1/\(ix a.2.2.2.1 i).1 < (from'.length:Int)) (
  zoi a i out r3 (ix from' ((ix a.2.2.2.1 i).1))) else
  zoi a i out r3 false) else
  some out
def zv2 (a:Tp3) (from':Tp11) (letter:Int):(Int×Tp11->Option Tp11)->Int×Tp11->Option Tp11:=
  fun rec x=>zkl a from' letter (fun i out=>rec (i,out)) x.1 x.2
def zrN (a:Tp3) (from':Tp11) (letter:Int) (i:Int) (out:Tp11):Option Tp11:=LFix (zv2 a from' letter ) (i,out)
def zxN (a:Tp3) (from':Tp11) (letter:Int):Option Tp11:=
  G (mkOK a.2.1 a.2.1 1) (
  zrN a from' letter (0:Int) (List.replicate (a.2.1).toNat (false:Bool)))
theorem zyZ (r3:Nat->Int->Tp11->Option Tp11) (r3':Int->Tp11->Option Tp11) (h_r3:∀ a0 a1,ChO (fun κ=>r3 κ a0 a1) (r3' a0 a1)) (a:Tp3) (i:Int) (out:Tp11) (t:Bool):ChO (fun κ=>zoi a i out (r3 κ) t) (zoi a i out r3' t):=by
  unfold zoi
  repeat' with_reducible first | exact ChO.const _ | exact h_r3 _ _ | apply ChO.ite | apply ChO.G | apply ChO.both | (apply ChO.bind;intro _)
theorem zw1 (r3:Nat->Int->Tp11->Option Tp11) (r3':Int->Tp11->Option Tp11) (h_r3:∀ a0 a1,ChO (fun κ=>r3 κ a0 a1) (r3' a0 a1)) (a:Tp3) (from':Tp11) (letter:Int) (i:Int) (out:Tp11):ChO (fun κ=>zkl a from' letter (r3 κ) i out) (zkl a from' letter r3' i out):=by
  unfold zkl
  repeat' with_reducible first | exact ChO.const _ | exact h_r3 _ _ | (apply zyZ<;>assumption) | apply ChO.ite | apply ChO.G | apply ChO.both | (apply ChO.bind;intro _)
theorem zy0  (a:Tp3) (from':Tp11) (letter:Int):Cn (zv2 a from' letter):=fun g h hg x=>zw1  (fun κ i out=>g κ (i,out)) (fun i out=>h (i,out)) (fun i out=>hg (i,out)) a from' letter x.1 x.2
theorem zuR  (a:Tp3) (from':Tp11) (letter:Int) (i:Int) (out:Tp11):zrN a from' letter i out=zkl a from' letter (zrN a from' letter) i out:=zam (zy0 a from' letter) (i,out)

def zd1 (a:Tp3) (loop:Tp12) (final:Tp11) (i:Int) (p:Tp11) (r10:(Int->Tp11->Tp11->Option (Bool))) (r13:Int->Tp11->Option (Bool)) (k:Int) (g'_1:Tp11):Option (Bool):=
  if (decide (k < a.2.1))=true then
  G (0<=k/\k < (g'_1.length:Int)) (
  G ((k).toNat < g'_1.length) (
  if (ix g'_1 k)=true then
  G (0<=k/\k < (g'_1.length:Int)) (
  G ((k).toNat < g'_1.length) (
  G (fits (k+(1:Int))) (
  r13 (k+(1:Int)) (g'_1.set (k).toNat true)))) else
  G (0<=k/\k < (p.length:Int)) (
  G ((k).toNat < p.length) (
  if (ix p k)=true then
  G (0<=k/\k < (final.length:Int)) (
  G (0<=k/\k < (g'_1.length:Int)) (
  G ((k).toNat < g'_1.length) (
  G (fits (k+(1:Int))) (
  r13 (k+(1:Int)) (g'_1.set (k).toNat (ix final k)))))) else
  G (0<=k/\k < (g'_1.length:Int)) (
  G ((k).toNat < g'_1.length) (
  G (fits (k+(1:Int))) (
  r13 (k+(1:Int)) (g'_1.set (k).toNat false)))))))) else
  G (0<=i/\i < (loop.length:Int)) (
  (zxN (a.1,(a.2.1,(a.2.2.1,(a.2.2.2.1,(a.2.2.2.2.1,()))))) p (ix loop i)).bind (fun y'=>
  G (0<=i/\i < (loop.length:Int)) (
  (zxN (a.1,(a.2.1,(a.2.2.1,(a.2.2.2.1,(a.2.2.2.2.1,()))))) g'_1 (ix loop i)).bind (fun y'_1=>
  G (fits (i+(1:Int))) (
  r10 (i+(1:Int)) y' y'_1)))))
def zqu (a:Tp3) (loop:Tp12) (final:Tp11) (i:Int) (p:Tp11) (r10:(Int->Tp11->Tp11->Option (Bool))):(Int×Tp11->Option (Bool))->Int×Tp11->Option (Bool):=
  fun rec x=>zd1 a loop final i p r10 (fun k g'_1=>rec (k,g'_1)) x.1 x.2
def zeU (a:Tp3) (loop:Tp12) (final:Tp11) (i:Int) (p:Tp11) (r10:(Int->Tp11->Tp11->Option (Bool))) (k:Int) (g'_1:Tp11):Option (Bool):=LFix (zqu a loop final i p r10 ) (k,g'_1)
def zhI (g':Tp11) (k_1:Int) (good_1:Tp11) (r21:(Bool->Int->Tp11->Tp11->Option (Bool))) (again_2:Bool) (plain_2:Tp11):Option (Bool):=
  G (0<=k_1/\k_1 < (good_1.length:Int)) (
  G ((k_1).toNat < good_1.length) (
  if (ix good_1 k_1)=true then
  G (0<=k_1/\k_1 < (good_1.length:Int)) (
  G ((k_1).toNat < good_1.length) (
  G (fits (k_1+(1:Int))) (
  r21 again_2 (k_1+(1:Int)) plain_2 (good_1.set (k_1).toNat true)))) else
  G (0<=k_1/\k_1 < (g'.length:Int)) (
  G ((k_1).toNat < g'.length) (
  G (0<=k_1/\k_1 < (good_1.length:Int)) (
  G ((k_1).toNat < good_1.length) (
  G (fits (k_1+(1:Int))) (
  r21 again_2 (k_1+(1:Int)) plain_2 (good_1.set (k_1).toNat (ix g' k_1)))))))))
def zdn (p:Tp11) (g':Tp11) (k_1:Int) (plain_1:Tp11) (good_1:Tp11) (r21:(Bool->Int->Tp11->Tp11->Option (Bool))) (again_2:Bool):Option (Bool):=
  G (0<=k_1/\k_1 < (plain_1.length:Int)) (
  G ((k_1).toNat < plain_1.length) (
  if (ix plain_1 k_1)=true then
  G (0<=k_1/\k_1 < (plain_1.length:Int)) (
  G ((k_1).toNat < plain_1.length) (
  zhI g' k_1 good_1 r21 again_2 (plain_1.set (k_1).toNat true))) else
  G (0<=k_1/\k_1 < (p.length:Int)) (
  G ((k_1).toNat < p.length) (
  G (0<=k_1/\k_1 < (plain_1.length:Int)) (
  G ((k_1).toNat < plain_1.length) (
  zhI g' k_1 good_1 r21 again_2 (plain_1.set (k_1).toNat (ix p k_1))))))))
def zcy (a:Tp3) (r5:(Bool->Tp11->Tp11->Option (Bool))) (p:Tp11) (g':Tp11) (r21:Tf5) (again_1:Bool) (k_1:Int) (plain_1:Tp11) (good_1:Tp11):Option (Bool):=
  if (decide (k_1 < a.2.1))=true then
  if again_1=true then
  zdn p g' k_1 plain_1 good_1 r21 true else
  G (0<=k_1/\k_1 < (p.length:Int)) (
  G ((k_1).toNat < p.length) (
  if (ix p k_1)=true then
  G (0<=k_1/\k_1 < (plain_1.length:Int)) (
  G ((k_1).toNat < plain_1.length) (
  if (!(ix plain_1 k_1))=true then
  zdn p g' k_1 plain_1 good_1 r21 true else
  G (0<=k_1/\k_1 < (g'.length:Int)) (
  G ((k_1).toNat < g'.length) (
  if (ix g' k_1)=true then
  G (0<=k_1/\k_1 < (good_1.length:Int)) (
  G ((k_1).toNat < good_1.length) (
  zdn p g' k_1 plain_1 good_1 r21 (!(ix good_1 k_1)))) else
  zdn p g' k_1 plain_1 good_1 r21 false)))) else
  G (0<=k_1/\k_1 < (g'.length:Int)) (
  G ((k_1).toNat < g'.length) (
  if (ix g' k_1)=true then
  G (0<=k_1/\k_1 < (good_1.length:Int)) (
  G ((k_1).toNat < good_1.length) (
  zdn p g' k_1 plain_1 good_1 r21 (!(ix good_1 k_1)))) else
  zdn p g' k_1 plain_1 good_1 r21 false)))) else
  r5 again_1 plain_1 good_1
def zqv (a:Tp3) (r5:(Bool->Tp11->Tp11->Option (Bool))) (p:Tp11) (g':Tp11):(Bool×Int×Tp11×Tp11->Option (Bool))->Bool×Int×Tp11×Tp11->Option (Bool):=
  fun rec x=>zcy a r5 p g' (fun again_1 k_1 plain_1 good_1=>rec (again_1,k_1,plain_1,good_1)) x.1 x.2.1 x.2.2.1 x.2.2.2
def zct (a:Tp3) (r5:(Bool->Tp11->Tp11->Option (Bool))) (p:Tp11) (g':Tp11) (again_1:Bool) (k_1:Int) (plain_1:Tp11) (good_1:Tp11):Option (Bool):=LFix (zqv a r5 p g' ) (again_1,k_1,plain_1,good_1)
def zfH (a:Tp3) (loop:Tp12) (final:Tp11) (q:Int) (plain:Tp11) (good:Tp11) (r5:(Bool->Tp11->Tp11->Option (Bool))) (r10:Tf10) (i:Int) (p:Tp11) (g':Tp11):Option (Bool):=
  if (decide (i < (loop.length:Int)))=true then
  zeU a loop final i p r10 (0:Int) g' else
  G (0<=q/\q < (g'.length:Int)) (
  G ((q).toNat < g'.length) (
  if (ix g' q)=true then
  some true else
  zct a r5 p g' false (0:Int) plain good))
def zqt (a:Tp3) (loop:Tp12) (final:Tp11) (q:Int) (plain:Tp11) (good:Tp11) (r5:(Bool->Tp11->Tp11->Option (Bool))):(Int×Tp11×Tp11->Option (Bool))->Int×Tp11×Tp11->Option (Bool):=
  fun rec x=>zfH a loop final q plain good r5 (fun i p g'=>rec (i,p,g')) x.1 x.2.1 x.2.2
def zgr (a:Tp3) (loop:Tp12) (final:Tp11) (q:Int) (plain:Tp11) (good:Tp11) (r5:(Bool->Tp11->Tp11->Option (Bool))) (i:Int) (p:Tp11) (g':Tp11):Option (Bool):=LFix (zqt a loop final q plain good r5 ) (i,p,g')
def zgN (a:Tp3) (loop:Tp12) (final:Tp11) (q:Int) (r5:Tf9) (again:Bool) (plain:Tp11) (good:Tp11):Option (Bool):=
  if again=true then
  G (room ([]:List Bool) plain 1) (
  G (room ([]:List Bool) good 1) (
  zgr a loop final q plain good r5 (0:Int) (([]:List Bool)++plain) (([]:List Bool)++good))) else
  some false
def zrM (a:Tp3) (loop:Tp12) (final:Tp11) (q:Int):(Bool×Tp11×Tp11->Option (Bool))->Bool×Tp11×Tp11->Option (Bool):=
  fun rec x=>zgN a loop final q (fun again plain good=>rec (again,plain,good)) x.1 x.2.1 x.2.2
def zhK (a:Tp3) (loop:Tp12) (final:Tp11) (q:Int) (again:Bool) (plain:Tp11) (good:Tp11):Option (Bool):=LFix (zrM a loop final q ) (again,plain,good)
def ztK (a:Tp3) (loop:Tp12) (final:Tp11) (q:Int):Option (Bool):=
  G (mkOK a.2.1 a.2.1 1) (
  G (mkOK a.2.1 a.2.1 1) (
  G (0<=q/\q < ((List.replicate (a.2.1).toNat (false:Bool)).length:Int)) (
  G ((q).toNat < (List.replicate (a.2.1).toNat (false:Bool)).length) (
  zhK a loop final q true ((List.replicate (a.2.1).toNat (false:Bool)).set (q).toNat true) (List.replicate (a.2.1).toNat (false:Bool))))))
theorem znE (r10:Nat->Tf10) (r10':Tf10) (h_r10:∀ a0 a1 a2,ChO (fun κ=>r10 κ a0 a1 a2) (r10' a0 a1 a2)) (r13:Nat->Int->Tp11->Option (Bool)) (r13':Int->Tp11->Option (Bool)) (h_r13:∀ a0 a1,ChO (fun κ=>r13 κ a0 a1) (r13' a0 a1)) (a:Tp3) (loop:Tp12) (final:Tp11) (i:Int) (p:Tp11) (k:Int) (g'_1:Tp11):ChO (fun κ=>zd1 a loop final i p (r10 κ) (r13 κ) k g'_1) (zd1 a loop final i p r10' r13' k g'_1):=by
  unfold zd1
  repeat' with_reducible first | exact ChO.const _ | exact h_r10 _ _ _ | exact h_r13 _ _ | apply ChO.ite | apply ChO.G | apply ChO.both | (apply ChO.bind;intro _)
theorem zl7 (r10:Tf10) (a:Tp3) (loop:Tp12) (final:Tp11) (i:Int) (p:Tp11):Cn (zqu a loop final i p r10):=fun g h hg x=>znE (fun _=>r10) r10 (fun _ _ _=>ChO.const _) (fun κ k g'_1=>g κ (k,g'_1)) (fun k g'_1=>h (k,g'_1)) (fun k g'_1=>hg (k,g'_1)) a loop final i p x.1 x.2
theorem zjA (r10:Tf10) (a:Tp3) (loop:Tp12) (final:Tp11) (i:Int) (p:Tp11) (k:Int) (g'_1:Tp11):zeU a loop final i p r10 k g'_1=zd1 a loop final i p r10 (zeU a loop final i p r10) k g'_1:=zam (zl7 r10 a loop final i p) (k,g'_1)
theorem zhJ (r10:Nat->Tf10) (r10':Tf10) (h_r10:∀ a0 a1 a2,ChO (fun κ=>r10 κ a0 a1 a2) (r10' a0 a1 a2)) (a:Tp3) (loop:Tp12) (final:Tp11) (i:Int) (p:Tp11) (k:Int) (g'_1:Tp11):ChO (fun κ=>zeU a loop final i p (r10 κ) k g'_1) (zeU a loop final i p r10' k g'_1):=by
  unfold zeU
  exact zdI (fun κ=>(zl7 (r10 κ) a loop final i p).mono) (zl7 r10' a loop final i p).mono (fun g h hg x=>znE r10 r10' h_r10 (fun κ k g'_1=>g κ (k,g'_1)) (fun k g'_1=>h (k,g'_1)) (fun k g'_1=>hg (k,g'_1)) a loop final i p x.1 x.2) _
theorem zjz (r21:Nat->Tf5) (r21':Tf5) (h_r21:∀ a0 a1 a2 a3,ChO (fun κ=>r21 κ a0 a1 a2 a3) (r21' a0 a1 a2 a3)) (g':Tp11) (k_1:Int) (good_1:Tp11) (again_2:Bool) (plain_2:Tp11):ChO (fun κ=>zhI g' k_1 good_1 (r21 κ) again_2 plain_2) (zhI g' k_1 good_1 r21' again_2 plain_2):=by
  unfold zhI
  repeat' with_reducible first | exact ChO.const _ | exact h_r21 _ _ _ _ | (apply zhJ<;>assumption) | apply ChO.ite | apply ChO.G | apply ChO.both | (apply ChO.bind;intro _)
theorem zl5 (r21:Nat->Tf5) (r21':Tf5) (h_r21:∀ a0 a1 a2 a3,ChO (fun κ=>r21 κ a0 a1 a2 a3) (r21' a0 a1 a2 a3)) (p:Tp11) (g':Tp11) (k_1:Int) (plain_1:Tp11) (good_1:Tp11) (again_2:Bool):ChO (fun κ=>zdn p g' k_1 plain_1 good_1 (r21 κ) again_2) (zdn p g' k_1 plain_1 good_1 r21' again_2):=by
  unfold zdn
  repeat' with_reducible first | exact ChO.const _ | exact h_r21 _ _ _ _ | (apply zhJ<;>assumption) | (apply zjz<;>assumption) | apply ChO.ite | apply ChO.G | apply ChO.both | (apply ChO.bind;intro _)
theorem znF (r5:Nat->Tf9) (r5':Tf9) (h_r5:∀ a0 a1 a2,ChO (fun κ=>r5 κ a0 a1 a2) (r5' a0 a1 a2)) (r21:Nat->Tf5) (r21':Tf5) (h_r21:∀ a0 a1 a2 a3,ChO (fun κ=>r21 κ a0 a1 a2 a3) (r21' a0 a1 a2 a3)) (a:Tp3) (p:Tp11) (g':Tp11) (again_1:Bool) (k_1:Int) (plain_1:Tp11) (good_1:Tp11):ChO (fun κ=>zcy a (r5 κ) p g' (r21 κ) again_1 k_1 plain_1 good_1) (zcy a r5' p g' r21' again_1 k_1 plain_1 good_1):=by
  unfold zcy
  repeat' with_reducible first | exact ChO.const _ | exact h_r5 _ _ _ | exact h_r21 _ _ _ _ | (apply zhJ<;>assumption) | (apply zjz<;>assumption) | (apply zl5<;>assumption) | apply ChO.ite | apply ChO.G | apply ChO.both | (apply ChO.bind;intro _)
theorem zl8 (r5:Tf9) (a:Tp3) (p:Tp11) (g':Tp11):Cn (zqv a r5 p g'):=fun g h hg x=>znF (fun _=>r5) r5 (fun _ _ _=>ChO.const _) (fun κ again_1 k_1 plain_1 good_1=>g κ (again_1,k_1,plain_1,good_1)) (fun again_1 k_1 plain_1 good_1=>h (again_1,k_1,plain_1,good_1)) (fun again_1 k_1 plain_1 good_1=>hg (again_1,k_1,plain_1,good_1)) a p g' x.1 x.2.1 x.2.2.1 x.2.2.2
theorem ze5 (r5:Tf9) (a:Tp3) (p:Tp11) (g':Tp11) (again_1:Bool) (k_1:Int) (plain_1:Tp11) (good_1:Tp11):zct a r5 p g' again_1 k_1 plain_1 good_1=zcy a r5 p g' (zct a r5 p g') again_1 k_1 plain_1 good_1:=zam (zl8 r5 a p g') (again_1,k_1,plain_1,good_1)
theorem zpC (r5:Nat->Tf9) (r5':Tf9) (h_r5:∀ a0 a1 a2,ChO (fun κ=>r5 κ a0 a1 a2) (r5' a0 a1 a2)) (a:Tp3) (p:Tp11) (g':Tp11) (again_1:Bool) (k_1:Int) (plain_1:Tp11) (good_1:Tp11):ChO (fun κ=>zct a (r5 κ) p g' again_1 k_1 plain_1 good_1) (zct a r5' p g' again_1 k_1 plain_1 good_1):=by
  unfold zct
  exact zdI (fun κ=>(zl8 (r5 κ) a p g').mono) (zl8 r5' a p g').mono (fun g h hg x=>znF r5 r5' h_r5 (fun κ again_1 k_1 plain_1 good_1=>g κ (again_1,k_1,plain_1,good_1)) (fun again_1 k_1 plain_1 good_1=>h (again_1,k_1,plain_1,good_1)) (fun again_1 k_1 plain_1 good_1=>hg (again_1,k_1,plain_1,good_1)) a p g' x.1 x.2.1 x.2.2.1 x.2.2.2) _
theorem znD (r5:Nat->Tf9) (r5':Tf9) (h_r5:∀ a0 a1 a2,ChO (fun κ=>r5 κ a0 a1 a2) (r5' a0 a1 a2)) (r10:Nat->Tf10) (r10':Tf10) (h_r10:∀ a0 a1 a2,ChO (fun κ=>r10 κ a0 a1 a2) (r10' a0 a1 a2)) (a:Tp3) (loop:Tp12) (final:Tp11) (q:Int) (plain:Tp11) (good:Tp11) (i:Int) (p:Tp11) (g':Tp11):ChO (fun κ=>zfH a loop final q plain good (r5 κ) (r10 κ) i p g') (zfH a loop final q plain good r5' r10' i p g'):=by
  unfold zfH
  repeat' with_reducible first | exact ChO.const _ | exact h_r5 _ _ _ | exact h_r10 _ _ _ | (apply zhJ<;>assumption) | (apply zjz<;>assumption) | (apply zl5<;>assumption) | (apply zpC<;>assumption) | apply ChO.ite | apply ChO.G | apply ChO.both | (apply ChO.bind;intro _)
theorem zl6 (r5:Tf9) (a:Tp3) (loop:Tp12) (final:Tp11) (q:Int) (plain:Tp11) (good:Tp11):Cn (zqt a loop final q plain good r5):=fun g h hg x=>znD (fun _=>r5) r5 (fun _ _ _=>ChO.const _) (fun κ i p g'=>g κ (i,p,g')) (fun i p g'=>h (i,p,g')) (fun i p g'=>hg (i,p,g')) a loop final q plain good x.1 x.2.1 x.2.2
theorem zpB (r5:Tf9) (a:Tp3) (loop:Tp12) (final:Tp11) (q:Int) (plain:Tp11) (good:Tp11) (i:Int) (p:Tp11) (g':Tp11):zgr a loop final q plain good r5 i p g'=zfH a loop final q plain good r5 (zgr a loop final q plain good r5) i p g':=zam (zl6 r5 a loop final q plain good) (i,p,g')
theorem zuP (r5:Nat->Tf9) (r5':Tf9) (h_r5:∀ a0 a1 a2,ChO (fun κ=>r5 κ a0 a1 a2) (r5' a0 a1 a2)) (a:Tp3) (loop:Tp12) (final:Tp11) (q:Int) (plain:Tp11) (good:Tp11) (i:Int) (p:Tp11) (g':Tp11):ChO (fun κ=>zgr a loop final q plain good (r5 κ) i p g') (zgr a loop final q plain good r5' i p g'):=by
  unfold zgr
  exact zdI (fun κ=>(zl6 (r5 κ) a loop final q plain good).mono) (zl6 r5' a loop final q plain good).mono (fun g h hg x=>znD r5 r5' h_r5 (fun κ i p g'=>g κ (i,p,g')) (fun i p g'=>h (i,p,g')) (fun i p g'=>hg (i,p,g')) a loop final q plain good x.1 x.2.1 x.2.2) _
theorem ztw (r5:Nat->Tf9) (r5':Tf9) (h_r5:∀ a0 a1 a2,ChO (fun κ=>r5 κ a0 a1 a2) (r5' a0 a1 a2)) (a:Tp3) (loop:Tp12) (final:Tp11) (q:Int) (again:Bool) (plain:Tp11) (good:Tp11):ChO (fun κ=>zgN a loop final q (r5 κ) again plain good) (zgN a loop final q r5' again plain good):=by
  unfold zgN
  repeat' with_reducible first | exact ChO.const _ | exact h_r5 _ _ _ | (apply zhJ<;>assumption) | (apply zjz<;>assumption) | (apply zl5<;>assumption) | (apply zpC<;>assumption) | (apply zuP<;>assumption) | apply ChO.ite | apply ChO.G | apply ChO.both | (apply ChO.bind;intro _)
theorem zvq  (a:Tp3) (loop:Tp12) (final:Tp11) (q:Int):Cn (zrM a loop final q):=fun g h hg x=>ztw  (fun κ again plain good=>g κ (again,plain,good)) (fun again plain good=>h (again,plain,good)) (fun again plain good=>hg (again,plain,good)) a loop final q x.1 x.2.1 x.2.2
theorem zqw  (a:Tp3) (loop:Tp12) (final:Tp11) (q:Int) (again:Bool) (plain:Tp11) (good:Tp11):zhK a loop final q again plain good=zgN a loop final q (zhK a loop final q) again plain good:=zam (zvq a loop final q) (again,plain,good)

def zd0 (next':Tp11) (q:Int) (far_4:Tp11) (r19:(Bool->Int->Tp11->Option (Bool))) (again_2:Bool):Option (Bool):=
  G (0<=q/\q < (far_4.length:Int)) (
  G ((q).toNat < far_4.length) (
  if (ix far_4 q)=true then
  G (0<=q/\q < (far_4.length:Int)) (
  G ((q).toNat < far_4.length) (
  G (fits (q+(1:Int))) (
  r19 again_2 (q+(1:Int)) (far_4.set (q).toNat true)))) else
  G (0<=q/\q < (next'.length:Int)) (
  G ((q).toNat < next'.length) (
  G (0<=q/\q < (far_4.length:Int)) (
  G ((q).toNat < far_4.length) (
  G (fits (q+(1:Int))) (
  r19 again_2 (q+(1:Int)) (far_4.set (q).toNat (ix next' q)))))))))
def zcH (a:Tp3) (r11:(Bool->Tp11->Option (Bool))) (next':Tp11) (r19:Tf11) (again_1:Bool) (q:Int) (far_4:Tp11):Option (Bool):=
  if (decide (q < a.2.1))=true then
  if again_1=true then
  zd0 next' q far_4 r19 true else
  G (0<=q/\q < (next'.length:Int)) (
  G ((q).toNat < next'.length) (
  if (ix next' q)=true then
  G (0<=q/\q < (far_4.length:Int)) (
  G ((q).toNat < far_4.length) (
  zd0 next' q far_4 r19 (!(ix far_4 q)))) else
  zd0 next' q far_4 r19 false)) else
  r11 again_1 far_4
def zoJ (a:Tp3) (r11:(Bool->Tp11->Option (Bool))) (next':Tp11):(Bool×Int×Tp11->Option (Bool))->Bool×Int×Tp11->Option (Bool):=
  fun rec x=>zcH a r11 next' (fun again_1 q far_4=>rec (again_1,q,far_4)) x.1 x.2.1 x.2.2
def zcx (a:Tp3) (r11:(Bool->Tp11->Option (Bool))) (next':Tp11) (again_1:Bool) (q:Int) (far_4:Tp11):Option (Bool):=LFix (zoJ a r11 next' ) (again_1,q,far_4)
def zew (a:Tp3) (l:Tp7) (r11:(Bool->Tp11->Option (Bool))) (r15:Tf10) (i_2:Int) (far_3:Tp11) (next':Tp11):Option (Bool):=
  if (decide (i_2 < (l.2.1.length:Int)))=true then
  G (0<=i_2/\i_2 < (l.2.1.length:Int)) (
  (zxN (a.1,(a.2.1,(a.2.2.1,(a.2.2.2.1,(a.2.2.2.2.1,()))))) next' (ix l.2.1 i_2)).bind (fun y'_2=>
  G (fits (i_2+(1:Int))) (
  r15 (i_2+(1:Int)) far_3 y'_2))) else
  zcx a r11 next' false (0:Int) far_3
def zoI (a:Tp3) (l:Tp7) (r11:(Bool->Tp11->Option (Bool))):(Int×Tp11×Tp11->Option (Bool))->Int×Tp11×Tp11->Option (Bool):=
  fun rec x=>zew a l r11 (fun i_2 far_3 next'=>rec (i_2,far_3,next')) x.1 x.2.1 x.2.2
def zfG (a:Tp3) (l:Tp7) (r11:(Bool->Tp11->Option (Bool))) (i_2:Int) (far_3:Tp11) (next':Tp11):Option (Bool):=LFix (zoI a l r11 ) (i_2,far_3,next')
def zey (a:Tp3) (l:Tp7) (far_2:Tp11) (final:Tp11) (r29:Int->Option (Bool)) (q_1:Int):Option (Bool):=
  if (decide (q_1 < a.2.1))=true then
  G (0<=q_1/\q_1 < (far_2.length:Int)) (
  G ((q_1).toNat < far_2.length) (
  if (!(ix far_2 q_1))=true then
  G (fits (q_1+(1:Int))) (
  r29 (q_1+(1:Int))) else
  (ztK (a.1,(a.2.1,(a.2.2.1,(a.2.2.2.1,(a.2.2.2.2.1,()))))) l.2.1 final q_1).bind (fun y'_3=>
  if y'_3=true then
  some true else
  G (fits (q_1+(1:Int))) (
  r29 (q_1+(1:Int)))))) else
  some false
def zoL (a:Tp3) (l:Tp7) (far_2:Tp11) (final:Tp11):(Int->Option (Bool))->Int->Option (Bool):=
  fun rec x=>zey a l far_2 final (fun q_1=>rec q_1) x
def zis (a:Tp3) (l:Tp7) (far_2:Tp11) (final:Tp11) (q_1:Int):Option (Bool):=LFix (zoL a l far_2 final ) q_1
def zex (a:Tp3) (l:Tp7) (far_2:Tp11) (r25:Int->Tp11->Option (Bool)) (i_3:Int) (final:Tp11):Option (Bool):=
  if (decide (i_3 < (a.2.2.2.2.1.length:Int)))=true then
  G (0<=i_3/\i_3 < (a.2.2.2.2.1.length:Int)) (
  G (0<=ix a.2.2.2.2.1 i_3/\ix a.2.2.2.2.1 i_3 < (final.length:Int)) (
  G ((ix a.2.2.2.2.1 i_3).toNat < final.length) (
  G (fits (i_3+(1:Int))) (
  r25 (i_3+(1:Int)) (final.set (ix a.2.2.2.2.1 i_3).toNat true))))) else
  zis a l far_2 final (0:Int)
def zoK (a:Tp3) (l:Tp7) (far_2:Tp11):(Int×Tp11->Option (Bool))->Int×Tp11->Option (Bool):=
  fun rec x=>zex a l far_2 (fun i_3 final=>rec (i_3,final)) x.1 x.2
def zkB (a:Tp3) (l:Tp7) (far_2:Tp11) (i_3:Int) (final:Tp11):Option (Bool):=LFix (zoK a l far_2 ) (i_3,final)
def zev (a:Tp3) (l:Tp7) (r11:Bool->Tp11->Option (Bool)) (again:Bool) (far_2:Tp11):Option (Bool):=
  if again=true then
  if (decide ((0:Int) < (l.2.1.length:Int)))=true then
  G (0<=(0:Int)/\(0:Int) < (l.2.1.length:Int)) (
  (zxN (a.1,(a.2.1,(a.2.2.1,(a.2.2.2.1,(a.2.2.2.2.1,()))))) far_2 (ix l.2.1 (0:Int))).bind (fun y'_1=>
  G (fits ((0:Int)+(1:Int))) (
  zfG a l r11 ((0:Int)+(1:Int)) far_2 y'_1))) else
  none else
  G (mkOK a.2.1 a.2.1 1) (
  zkB a l far_2 (0:Int) (List.replicate (a.2.1).toNat (false:Bool)))
def zoH (a:Tp3) (l:Tp7):(Bool×Tp11->Option (Bool))->Bool×Tp11->Option (Bool):=
  fun rec x=>zev a l (fun again far_2=>rec (again,far_2)) x.1 x.2
def zeO (a:Tp3) (l:Tp7) (again:Bool) (far_2:Tp11):Option (Bool):=LFix (zoH a l ) (again,far_2)
def ze4 (a:Tp3) (l:Tp7) (r7:Int->Tp11->Option (Bool)) (i_1:Int) (far_1:Tp11):Option (Bool):=
  if (decide (i_1 < (l.1.length:Int)))=true then
  G (0<=i_1/\i_1 < (l.1.length:Int)) (
  (zxN (a.1,(a.2.1,(a.2.2.1,(a.2.2.2.1,(a.2.2.2.2.1,()))))) far_1 (ix l.1 i_1)).bind (fun y'=>
  G (fits (i_1+(1:Int))) (
  r7 (i_1+(1:Int)) y'))) else
  zeO a l true far_1
def zpv (a:Tp3) (l:Tp7):(Int×Tp11->Option (Bool))->Int×Tp11->Option (Bool):=
  fun rec x=>ze4 a l (fun i_1 far_1=>rec (i_1,far_1)) x.1 x.2
def zlr (a:Tp3) (l:Tp7) (i_1:Int) (far_1:Tp11):Option (Bool):=LFix (zpv a l ) (i_1,far_1)
def ze3 (a:Tp3) (l:Tp7) (r3:Int->Tp11->Option (Bool)) (i:Int) (far:Tp11):Option (Bool):=
  if (decide (i < (a.2.2.1.length:Int)))=true then
  G (0<=i/\i < (a.2.2.1.length:Int)) (
  G (0<=ix a.2.2.1 i/\ix a.2.2.1 i < (far.length:Int)) (
  G ((ix a.2.2.1 i).toNat < far.length) (
  G (fits (i+(1:Int))) (
  r3 (i+(1:Int)) (far.set (ix a.2.2.1 i).toNat true))))) else
  zlr a l (0:Int) far
def zpu (a:Tp3) (l:Tp7):(Int×Tp11->Option (Bool))->Int×Tp11->Option (Bool):=
  fun rec x=>ze3 a l (fun i far=>rec (i,far)) x.1 x.2
def zlq (a:Tp3) (l:Tp7) (i:Int) (far:Tp11):Option (Bool):=LFix (zpu a l ) (i,far)
def ziY (a:Tp3) (l:Tp7):Option (Bool):=
  G (mkOK a.2.1 a.2.1 1) (
  zlq a l (0:Int) (List.replicate (a.2.1).toNat (false:Bool)))
theorem zdO (r19:Nat->Tf11) (r19':Tf11) (h_r19:∀ a0 a1 a2,ChO (fun κ=>r19 κ a0 a1 a2) (r19' a0 a1 a2)) (next':Tp11) (q:Int) (far_4:Tp11) (again_2:Bool):ChO (fun κ=>zd0 next' q far_4 (r19 κ) again_2) (zd0 next' q far_4 r19' again_2):=by
  unfold zd0
  repeat' with_reducible first | exact ChO.const _ | exact h_r19 _ _ _ | apply ChO.ite | apply ChO.G | apply ChO.both | (apply ChO.bind;intro _)
theorem zlZ (r11:Nat->Bool->Tp11->Option (Bool)) (r11':Bool->Tp11->Option (Bool)) (h_r11:∀ a0 a1,ChO (fun κ=>r11 κ a0 a1) (r11' a0 a1)) (r19:Nat->Tf11) (r19':Tf11) (h_r19:∀ a0 a1 a2,ChO (fun κ=>r19 κ a0 a1 a2) (r19' a0 a1 a2)) (a:Tp3) (next':Tp11) (again_1:Bool) (q:Int) (far_4:Tp11):ChO (fun κ=>zcH a (r11 κ) next' (r19 κ) again_1 q far_4) (zcH a r11' next' r19' again_1 q far_4):=by
  unfold zcH
  repeat' with_reducible first | exact ChO.const _ | exact h_r11 _ _ | exact h_r19 _ _ _ | (apply zdO<;>assumption) | apply ChO.ite | apply ChO.G | apply ChO.both | (apply ChO.bind;intro _)
theorem zkk (r11:Bool->Tp11->Option (Bool)) (a:Tp3) (next':Tp11):Cn (zoJ a r11 next'):=fun g h hg x=>zlZ (fun _=>r11) r11 (fun _ _=>ChO.const _) (fun κ again_1 q far_4=>g κ (again_1,q,far_4)) (fun again_1 q far_4=>h (again_1,q,far_4)) (fun again_1 q far_4=>hg (again_1,q,far_4)) a next' x.1 x.2.1 x.2.2
theorem zh2 (r11:Bool->Tp11->Option (Bool)) (a:Tp3) (next':Tp11) (again_1:Bool) (q:Int) (far_4:Tp11):zcx a r11 next' again_1 q far_4=zcH a r11 next' (zcx a r11 next') again_1 q far_4:=zam (zkk r11 a next') (again_1,q,far_4)
theorem ze0 (r11:Nat->Bool->Tp11->Option (Bool)) (r11':Bool->Tp11->Option (Bool)) (h_r11:∀ a0 a1,ChO (fun κ=>r11 κ a0 a1) (r11' a0 a1)) (a:Tp3) (next':Tp11) (again_1:Bool) (q:Int) (far_4:Tp11):ChO (fun κ=>zcx a (r11 κ) next' again_1 q far_4) (zcx a r11' next' again_1 q far_4):=by
  unfold zcx
  exact zdI (fun κ=>(zkk (r11 κ) a next').mono) (zkk r11' a next').mono (fun g h hg x=>zlZ r11 r11' h_r11 (fun κ again_1 q far_4=>g κ (again_1,q,far_4)) (fun again_1 q far_4=>h (again_1,q,far_4)) (fun again_1 q far_4=>hg (again_1,q,far_4)) a next' x.1 x.2.1 x.2.2) _
theorem zlY (r11:Nat->Bool->Tp11->Option (Bool)) (r11':Bool->Tp11->Option (Bool)) (h_r11:∀ a0 a1,ChO (fun κ=>r11 κ a0 a1) (r11' a0 a1)) (r15:Nat->Tf10) (r15':Tf10) (h_r15:∀ a0 a1 a2,ChO (fun κ=>r15 κ a0 a1 a2) (r15' a0 a1 a2)) (a:Tp3) (l:Tp7) (i_2:Int) (far_3:Tp11) (next':Tp11):ChO (fun κ=>zew a l (r11 κ) (r15 κ) i_2 far_3 next') (zew a l r11' r15' i_2 far_3 next'):=by
  unfold zew
  repeat' with_reducible first | exact ChO.const _ | exact h_r11 _ _ | exact h_r15 _ _ _ | (apply zdO<;>assumption) | (apply ze0<;>assumption) | apply ChO.ite | apply ChO.G | apply ChO.both | (apply ChO.bind;intro _)
theorem zkj (r11:Bool->Tp11->Option (Bool)) (a:Tp3) (l:Tp7):Cn (zoI a l r11):=fun g h hg x=>zlY (fun _=>r11) r11 (fun _ _=>ChO.const _) (fun κ i_2 far_3 next'=>g κ (i_2,far_3,next')) (fun i_2 far_3 next'=>h (i_2,far_3,next')) (fun i_2 far_3 next'=>hg (i_2,far_3,next')) a l x.1 x.2.1 x.2.2
theorem znA (r11:Bool->Tp11->Option (Bool)) (a:Tp3) (l:Tp7) (i_2:Int) (far_3:Tp11) (next':Tp11):zfG a l r11 i_2 far_3 next'=zew a l r11 (zfG a l r11) i_2 far_3 next':=zam (zkj r11 a l) (i_2,far_3,next')
theorem zf8 (r11:Nat->Bool->Tp11->Option (Bool)) (r11':Bool->Tp11->Option (Bool)) (h_r11:∀ a0 a1,ChO (fun κ=>r11 κ a0 a1) (r11' a0 a1)) (a:Tp3) (l:Tp7) (i_2:Int) (far_3:Tp11) (next':Tp11):ChO (fun κ=>zfG a l (r11 κ) i_2 far_3 next') (zfG a l r11' i_2 far_3 next'):=by
  unfold zfG
  exact zdI (fun κ=>(zkj (r11 κ) a l).mono) (zkj r11' a l).mono (fun g h hg x=>zlY r11 r11' h_r11 (fun κ i_2 far_3 next'=>g κ (i_2,far_3,next')) (fun i_2 far_3 next'=>h (i_2,far_3,next')) (fun i_2 far_3 next'=>hg (i_2,far_3,next')) a l x.1 x.2.1 x.2.2) _
theorem zqP (r29:Nat->Int->Option (Bool)) (r29':Int->Option (Bool)) (h_r29:∀ a0,ChO (fun κ=>r29 κ a0) (r29' a0)) (a:Tp3) (l:Tp7) (far_2:Tp11) (final:Tp11) (q_1:Int):ChO (fun κ=>zey a l far_2 final (r29 κ) q_1) (zey a l far_2 final r29' q_1):=by
  unfold zey
  repeat' with_reducible first | exact ChO.const _ | exact h_r29 _ | (apply zdO<;>assumption) | (apply ze0<;>assumption) | (apply zf8<;>assumption) | apply ChO.ite | apply ChO.G | apply ChO.both | (apply ChO.bind;intro _)
theorem zsk  (a:Tp3) (l:Tp7) (far_2:Tp11) (final:Tp11):Cn (zoL a l far_2 final):=fun g h hg x=>zqP  (fun κ q_1=>g κ q_1) (fun q_1=>h q_1) (fun q_1=>hg q_1) a l far_2 final x
theorem znC  (a:Tp3) (l:Tp7) (far_2:Tp11) (final:Tp11) (q_1:Int):zis a l far_2 final q_1=zey a l far_2 final (zis a l far_2 final) q_1:=zam (zsk a l far_2 final) q_1
theorem zqO (r25:Nat->Int->Tp11->Option (Bool)) (r25':Int->Tp11->Option (Bool)) (h_r25:∀ a0 a1,ChO (fun κ=>r25 κ a0 a1) (r25' a0 a1)) (a:Tp3) (l:Tp7) (far_2:Tp11) (i_3:Int) (final:Tp11):ChO (fun κ=>zex a l far_2 (r25 κ) i_3 final) (zex a l far_2 r25' i_3 final):=by
  unfold zex
  repeat' with_reducible first | exact ChO.const _ | exact h_r25 _ _ | (apply zdO<;>assumption) | (apply ze0<;>assumption) | (apply zf8<;>assumption) | apply ChO.ite | apply ChO.G | apply ChO.both | (apply ChO.bind;intro _)
theorem zsj  (a:Tp3) (l:Tp7) (far_2:Tp11):Cn (zoK a l far_2):=fun g h hg x=>zqO  (fun κ i_3 final=>g κ (i_3,final)) (fun i_3 final=>h (i_3,final)) (fun i_3 final=>hg (i_3,final)) a l far_2 x.1 x.2
theorem znB  (a:Tp3) (l:Tp7) (far_2:Tp11) (i_3:Int) (final:Tp11):zkB a l far_2 i_3 final=zex a l far_2 (zkB a l far_2) i_3 final:=zam (zsj a l far_2) (i_3,final)
theorem zqN (r11:Nat->Bool->Tp11->Option (Bool)) (r11':Bool->Tp11->Option (Bool)) (h_r11:∀ a0 a1,ChO (fun κ=>r11 κ a0 a1) (r11' a0 a1)) (a:Tp3) (l:Tp7) (again:Bool) (far_2:Tp11):ChO (fun κ=>zev a l (r11 κ) again far_2) (zev a l r11' again far_2):=by
  unfold zev
  repeat' with_reducible first | exact ChO.const _ | exact h_r11 _ _ | (apply zdO<;>assumption) | (apply ze0<;>assumption) | (apply zf8<;>assumption) | apply ChO.ite | apply ChO.G | apply ChO.both | (apply ChO.bind;intro _)
theorem zsi  (a:Tp3) (l:Tp7):Cn (zoH a l):=fun g h hg x=>zqN  (fun κ again far_2=>g κ (again,far_2)) (fun again far_2=>h (again,far_2)) (fun again far_2=>hg (again,far_2)) a l x.1 x.2
theorem znz  (a:Tp3) (l:Tp7) (again:Bool) (far_2:Tp11):zeO a l again far_2=zev a l (zeO a l) again far_2:=zam (zsi a l) (again,far_2)
theorem zrI (r7:Nat->Int->Tp11->Option (Bool)) (r7':Int->Tp11->Option (Bool)) (h_r7:∀ a0 a1,ChO (fun κ=>r7 κ a0 a1) (r7' a0 a1)) (a:Tp3) (l:Tp7) (i_1:Int) (far_1:Tp11):ChO (fun κ=>ze4 a l (r7 κ) i_1 far_1) (ze4 a l r7' i_1 far_1):=by
  unfold ze4
  repeat' with_reducible first | exact ChO.const _ | exact h_r7 _ _ | (apply zdO<;>assumption) | (apply ze0<;>assumption) | (apply zf8<;>assumption) | apply ChO.ite | apply ChO.G | apply ChO.both | (apply ChO.bind;intro _)
theorem ztu  (a:Tp3) (l:Tp7):Cn (zpv a l):=fun g h hg x=>zrI  (fun κ i_1 far_1=>g κ (i_1,far_1)) (fun i_1 far_1=>h (i_1,far_1)) (fun i_1 far_1=>hg (i_1,far_1)) a l x.1 x.2
theorem zoN  (a:Tp3) (l:Tp7) (i_1:Int) (far_1:Tp11):zlr a l i_1 far_1=ze4 a l (zlr a l) i_1 far_1:=zam (ztu a l) (i_1,far_1)
theorem zrH (r3:Nat->Int->Tp11->Option (Bool)) (r3':Int->Tp11->Option (Bool)) (h_r3:∀ a0 a1,ChO (fun κ=>r3 κ a0 a1) (r3' a0 a1)) (a:Tp3) (l:Tp7) (i:Int) (far:Tp11):ChO (fun κ=>ze3 a l (r3 κ) i far) (ze3 a l r3' i far):=by
  unfold ze3
  repeat' with_reducible first | exact ChO.const _ | exact h_r3 _ _ | (apply zdO<;>assumption) | (apply ze0<;>assumption) | (apply zf8<;>assumption) | apply ChO.ite | apply ChO.G | apply ChO.both | (apply ChO.bind;intro _)
theorem ztt  (a:Tp3) (l:Tp7):Cn (zpu a l):=fun g h hg x=>zrH  (fun κ i far=>g κ (i,far)) (fun i far=>h (i,far)) (fun i far=>hg (i,far)) a l x.1 x.2
theorem zoM  (a:Tp3) (l:Tp7) (i:Int) (far:Tp11):zlq a l i far=ze3 a l (zlq a l) i far:=zam (ztt a l) (i,far)

def zfn (a:Tp3) (b:Tp3) (l:Tp7) (y'_2:Tp3) (y'_3:Int) (y'_5:Tp3) (y'_6:Int) (no_2:Int):Option (Bool):=
  if (decide (¬ no_2=(0:Int)))=true then
  (znt (y'_2.1,(y'_2.2.1,(y'_2.2.2.1,(y'_2.2.2.2.1,(y'_2.2.2.2.2.1,())))))).bind (fun y'_12=>
  (znt (y'_5.1,(y'_5.2.1,(y'_5.2.2.1,(y'_5.2.2.2.1,(y'_5.2.2.2.2.1,())))))).bind (fun y'_13=>
  if (decide (y'_3=no_2))=true then
  if (decide (y'_6=no_2))=true then
  if y'_12=true then
  some y'_13 else
  some false else
  some false else
  some false)) else
  (zoh (y'_2.1,(y'_2.2.1,(y'_2.2.2.1,(y'_2.2.2.2.1,(y'_2.2.2.2.2.1,())))))).bind (fun y'_14=>
  (zoh (y'_5.1,(y'_5.2.1,(y'_5.2.2.1,(y'_5.2.2.2.1,(y'_5.2.2.2.2.1,())))))).bind (fun y'_15=>
  if (decide (¬ y'_3=(0:Int)))=true then
  some false else
  if (decide (¬ y'_6=(0:Int)))=true then
  some false else
  if (decide (¬ y'_14=(0:Int)))=true then
  some false else
  if (decide (¬ y'_15=(0:Int)))=true then
  some false else
  if (decide (¬ y'_2.1=a.1))=true then
  some false else
  if (decide (¬ y'_5.1=a.1))=true then
  some false else
  (zw0 (a.1,(a.2.1,(a.2.2.1,(a.2.2.2.1,(a.2.2.2.2.1,()))))) (l.1,(l.2.1,()))).bind (fun y'_16=>
  if (decide (¬ y'_16=(0:Int)))=true then
  some true else
  (ziY (a.1,(a.2.1,(a.2.2.1,(a.2.2.2.1,(a.2.2.2.2.1,()))))) (l.1,(l.2.1,()))).bind (fun y'_17=>
  (ziY (b.1,(b.2.1,(b.2.2.1,(b.2.2.2.1,(b.2.2.2.2.1,()))))) (l.1,(l.2.1,()))).bind (fun y'_18=>
  (ziY (y'_2.1,(y'_2.2.1,(y'_2.2.2.1,(y'_2.2.2.2.1,(y'_2.2.2.2.2.1,()))))) (l.1,(l.2.1,()))).bind (fun y'_19=>
  (ziY (y'_5.1,(y'_5.2.1,(y'_5.2.2.1,(y'_5.2.2.2.1,(y'_5.2.2.2.2.1,()))))) (l.1,(l.2.1,()))).bind (fun y'_20=>
  if y'_17=true then
  if (decide (y'_19=true))=true then
  if y'_17=true then
  some (decide (y'_20=y'_18)) else
  some (decide (y'_20=false)) else
  some false else
  if (decide (y'_19=y'_18))=true then
  if y'_17=true then
  some (decide (y'_20=y'_18)) else
  some (decide (y'_20=false)) else
  some false)))))))
def zhk (a:Tp3) (b:Tp3) (l:Tp7) (y'_2:Tp3) (y'_3:Int) (y'_5:Tp3) (y'_6:Int) (no_1:Int) (t_1:Bool):Option (Bool):=
  if t_1=true then
  zfn a b l y'_2 y'_3 y'_5 y'_6 (1:Int) else
  zfn a b l y'_2 y'_3 y'_5 y'_6 no_1
def zjt (a:Tp3) (b:Tp3) (l:Tp7) (y'_2:Tp3) (y'_3:Int) (y'_5:Tp3) (y'_6:Int) (no_1:Int):Option (Bool):=
  if (decide (no_1=(0:Int)))=true then
  if (decide ((8:Int) < a.2.1))=true then
  zhk a b l y'_2 y'_3 y'_5 y'_6 no_1 true else
  zhk a b l y'_2 y'_3 y'_5 y'_6 no_1 (decide ((8:Int) < b.2.1)) else
  zhk a b l y'_2 y'_3 y'_5 y'_6 no_1 false
def zjs (a:Tp3) (b:Tp3) (l:Tp7) (y'_2:Tp3) (y'_3:Int) (y'_5:Tp3) (y'_6:Int) (no:Int) (t:Bool):Option (Bool):=
  if t=true then
  zjt a b l y'_2 y'_3 y'_5 y'_6 (3:Int) else
  zjt a b l y'_2 y'_3 y'_5 y'_6 no
def zjr (a:Tp3) (b:Tp3) (l:Tp7) (y'_2:Tp3) (y'_3:Int) (y'_5:Tp3) (y'_6:Int) (no:Int):Option (Bool):=
  if (decide (no=(0:Int)))=true then
  zjs a b l y'_2 y'_3 y'_5 y'_6 no (decide (¬ a.1=b.1)) else
  zjs a b l y'_2 y'_3 y'_5 y'_6 no false
def zkA (a:Tp3) (b:Tp3) (l:Tp7):Option (Bool):=
  (zrk (a.1,(a.2.1,(a.2.2.1,(a.2.2.2.1,(a.2.2.2.2.1,())))))).bind (fun y'=>
  (zrk (b.1,(b.2.1,(b.2.2.1,(b.2.2.2.1,(b.2.2.2.2.1,())))))).bind (fun y'_1=>
  (zhE (y'.1,(y'.2.1,(y'.2.2.1,(y'.2.2.2.1,(y'.2.2.2.2.1,()))))) (y'_1.1,(y'_1.2.1,(y'_1.2.2.1,(y'_1.2.2.2.1,(y'_1.2.2.2.2.1,())))))).bind (fun y'_22=>
  (zj6 (y'.1,(y'.2.1,(y'.2.2.1,(y'.2.2.2.1,(y'.2.2.2.2.1,()))))) (y'_1.1,(y'_1.2.1,(y'_1.2.2.1,(y'_1.2.2.2.1,(y'_1.2.2.2.2.1,())))))).bind (fun y'_21=>
  (zkI (y'.1,(y'.2.1,(y'.2.2.1,(y'.2.2.2.1,(y'.2.2.2.2.1,()))))) (a.1,(a.2.1,(a.2.2.1,(a.2.2.2.1,(a.2.2.2.2.1,())))))).bind (fun y'_8=>
  (zkI (y'_1.1,(y'_1.2.1,(y'_1.2.2.1,(y'_1.2.2.2.1,(y'_1.2.2.2.2.1,()))))) (b.1,(b.2.1,(b.2.2.1,(b.2.2.2.1,(b.2.2.2.2.1,())))))).bind (fun y'_9=>
  if (!y'_8)=true then
  some false else
  if (!y'_9)=true then
  some false else
  (zoh (a.1,(a.2.1,(a.2.2.1,(a.2.2.2.1,(a.2.2.2.2.1,())))))).bind (fun y'_10=>
  if (decide (y'_10=(0:Int)))=true then
  (zoh (b.1,(b.2.1,(b.2.2.1,(b.2.2.2.1,(b.2.2.2.2.1,())))))).bind (fun y'_11=>
  zjr a b l y'_22.1 y'_22.2 y'_21.1 y'_21.2 y'_11) else
  zjr a b l y'_22.1 y'_22.2 y'_21.1 y'_21.2 y'_10)))))))

end
end Go.Proofs.Ytekjdmjngekjpaa.buchiJoinsW
