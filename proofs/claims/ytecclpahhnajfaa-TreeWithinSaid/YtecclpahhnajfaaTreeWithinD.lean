/- What the functions that 'TreeWithin' reaches compute: plain functions. -/
import Derived.Test.YtecclpahhnajfaaEv31n21
set_option maxHeartbeats 1000000
set_option maxRecDepth 20000
set_option linter.unusedSimpArgs false
set_option linter.unusedVariables false
set_option linter.unusedSectionVars false
namespace Go.Proofs.Ytecclpahhnajfaa.treeWithinW
open Go Go.Ab
noncomputable section
abbrev Tp15:=(List Int)
abbrev Tp14:=(List Bool)
abbrev Tp13:=(List Tp14)
abbrev Tp12:=(Int×Int×Int×Unit)
abbrev Tp11:=(Tp15×Tp15)
abbrev Tp10:=(Int×Int×Int×Int×Unit)
abbrev Tp9:=(List Tp12)
abbrev Tc9:Ty:=(.pair (.list (.int .i64)) .unit)
abbrev Tp8:=(List Tp10)
abbrev Tp7:=(Int×Tp9)
abbrev Tp6:=(Tp9×Unit)
abbrev Tc8:Ty:=(.pair (.int .i64) (.pair (.int .i64) .unit))
abbrev Tp5:=(Int×Tp8)
abbrev Tp4:=(Bool×Tp8)
abbrev Tp3:=(Int×Bool×Tp8)
abbrev Tc7:Ty:=(.pair (.int .i64) Tc9)
abbrev Tp2:=(Tp6×Bool×Int)
abbrev Tc6:Ty:=(.pair (.int .i64) Tc8)
abbrev Tp1:=(Int×Int×Tp8×Int×Tp15×Unit)
abbrev Tc5:Ty:=(.pair (.int .i64) Tc6)
abbrev Tc4:Ty:=(.list Tc5)
abbrev Tc3:Ty:=(.pair Tc4 Tc7)
abbrev Tc2:Ty:=(.pair (.int .i64) Tc3)
abbrev Tc1:Ty:=(.pair (.int .i64) Tc2)
abbrev Tf1:=Tp1->Tp1->Tp1->Tp1->Int->Int->Int->Int->Tp15->Tp15->Tp15->Tp8->Option Tp1
abbrev Tf2:=Tp1->Tp1->Int->Int->Int->Int->Tp8->Tp15->Option Tp1
abbrev Tf3:=Int->Int->Int->Bool->Bool->Tp8->Option Tp8
abbrev Tf4:=Bool->Int->Tp15->Tp15->Option Tp11
abbrev Tf5:=Tp1->Tp15->Int->Tp9->Option Tp7
abbrev Tf6:=Int->Int->Int->Tp8->Option Tp8
abbrev Tf7:=Bool->Tp15->Tp15->Option Tp11
abbrev Tf8:=Bool->Int->Tp15->Option (Int)
def zf3 (q:Int) (t:Tp1):Option (Bool):=
  if (decide (q < (0:Int)))=true then
  some true else
  some (decide (t.2.1<=q))

def zg9 (m:Int):Option (Bool):=
  if (decide (¬ m=(0:Int)))=true then
  some (decide (¬ m=(1:Int))) else
  some false

def zcA (s:Tp15) (r2:Int->Option (Int)) (t:Int):Option (Int):=
  if (decide (t < (s.length:Int)))=true then
  G (0<=t/\t < (s.length:Int)) (
  (zg9 (ix s t)).bind (fun y'=>
  if y'=true then
  some t else
  G (fits (t+(1:Int))) (
  r2 (t+(1:Int))))) else
  some (-1:Int)
def zg3 (s:Tp15):(Int->Option (Int))->Int->Option (Int):=
  fun rec x=>zcA s (fun t=>rec t) x
def zfL (s:Tp15) (t:Int):Option (Int):=LFix (zg3 s ) t
def zjS (s:Tp15):Option (Int):=
  zfL s (0:Int)
theorem zi8 (r2:Nat->Int->Option (Int)) (r2':Int->Option (Int)) (h_r2:∀ a0,ChO (fun κ=>r2 κ a0) (r2' a0)) (s:Tp15) (t:Int):ChO (fun κ=>zcA s (r2 κ) t) (zcA s r2' t):=by
  unfold zcA
  repeat' with_reducible first | exact ChO.const _ | exact h_r2 _ | apply ChO.ite | apply ChO.G | apply ChO.both | (apply ChO.bind;intro _)
theorem zkc  (s:Tp15):Cn (zg3 s):=fun g h hg x=>zi8  (fun κ t=>g κ t) (fun t=>h t) (fun t=>hg t) s x
theorem zkd  (s:Tp15) (t:Int):zfL s t=zcA s (zfL s) t:=zaH (zkc s) t

def zfK (s:Tp15):Option (Bool):=
  (zjS s).bind (fun y'=>
  some (decide ((0:Int)<=y')))

def zl9 (x':Int):Option (Bool):=
  some (decide (¬ x'=x'))

def zfJ (x':Int) (y':Int):Option (Int):=
  (zl9 x').bind (fun y'_1=>
  (zl9 y').bind (fun y'_2=>
  if y'_1=true then
  if y'_2=true then
  some (0:Int) else
  some (-1:Int) else
  if y'_2=true then
  some (1:Int) else
  if (decide (x' < y'))=true then
  some (-1:Int) else
  if (decide (y' < x'))=true then
  some (1:Int) else
  some (0:Int)))

def zdG (vals:Tp15) (r3:Int->Option (Int)) (t:Int):Option (Int):=
  if (decide (t < (vals.length:Int)))=true then
  G (0<=t/\t < (vals.length:Int)) (
  if (decide (¬ (ix vals t)=(0:Int)))=true then
  some (ix vals t) else
  G (fits (t+(1:Int))) (
  r3 (t+(1:Int)))) else
  some (0:Int)
def zpk (vals:Tp15):(Int->Option (Int))->Int->Option (Int):=
  fun rec x=>zdG vals (fun t=>rec t) x
def zpj (vals:Tp15) (t:Int):Option (Int):=LFix (zpk vals ) t
def zuo (vals:Tp15):Option (Int):=
  zpj vals (0:Int)
theorem zqh (r3:Nat->Int->Option (Int)) (r3':Int->Option (Int)) (h_r3:∀ a0,ChO (fun κ=>r3 κ a0) (r3' a0)) (vals:Tp15) (t:Int):ChO (fun κ=>zdG vals (r3 κ) t) (zdG vals r3' t):=by
  unfold zdG
  repeat' with_reducible first | exact ChO.const _ | exact h_r3 _ | apply ChO.ite | apply ChO.G | apply ChO.both | (apply ChO.bind;intro _)
theorem zsl  (vals:Tp15):Cn (zpk vals):=fun g h hg x=>zqh  (fun κ t=>g κ t) (fun t=>h t) (fun t=>hg t) vals x
theorem zgW  (vals:Tp15) (t:Int):zpj vals t=zdG vals (zpj vals) t:=zaH (zsl vals) t

def zbB (x':Tp10) (y':Tp10):Option (Int):=
  (zfJ x'.1 y'.1).bind (fun y'_1=>
  (zfJ x'.2.1 y'.2.1).bind (fun y'_2=>
  (zfJ x'.2.2.1 y'.2.2.1).bind (fun y'_3=>
  (zfJ x'.2.2.2.1 y'.2.2.2.1).bind (fun y'_4=>
  (zuo ([y'_1,y'_2,y'_3,y'_4])).bind (fun y'_5=>
  some y'_5)))))

def zcW (t:Tp1) (t_1:Int) (r7:(Int->Option (Int))) (leaf:Bool):Option (Int):=
  if (decide (((ix t.2.2.1 t_1).1) < (0:Int)))=true then
  some (2:Int) else
  if (decide (t.1<=((ix t.2.2.1 t_1).1)))=true then
  some (2:Int) else
  (zf3 (((((ix t.2.2.1 t_1).2).2).2).1) (t.1,(t.2.1,(t.2.2.1,(t.2.2.2.1,(t.2.2.2.2.1,())))))).bind (fun y'=>
  if y'=true then
  some (2:Int) else
  if (!leaf)=true then
  (zf3 (((ix t.2.2.1 t_1).2).1) (t.1,(t.2.1,(t.2.2.1,(t.2.2.2.1,(t.2.2.2.2.1,())))))).bind (fun y'_1=>
  if y'_1=true then
  some (2:Int) else
  (zf3 ((((ix t.2.2.1 t_1).2).2).1) (t.1,(t.2.1,(t.2.2.1,(t.2.2.2.1,(t.2.2.2.2.1,())))))).bind (fun y'_2=>
  if y'_2=true then
  some (2:Int) else
  G (fits (t_1+(1:Int))) (
  r7 (t_1+(1:Int))))) else
  G (fits (t_1+(1:Int))) (
  r7 (t_1+(1:Int))))
def zcc (t:Tp1) (r16:Int->Option (Int)) (t_2:Int):Option (Int):=
  if (decide (t_2 < (t.2.2.1.length:Int)))=true then
  if (decide ((0:Int) < t_2))=true then
  G (fits (t_2 - (1:Int))) (
  G (0<=t_2 - (1:Int)/\t_2 - (1:Int) < (t.2.2.1.length:Int)) (
  G (0<=t_2/\t_2 < (t.2.2.1.length:Int)) (
  (zbB (ix t.2.2.1 (t_2 - (1:Int))) (ix t.2.2.1 t_2)).bind (fun y'_4=>
  if (decide ((0:Int)<=y'_4))=true then
  some (3:Int) else
  G (fits (t_2+(1:Int))) (
  r16 (t_2+(1:Int))))))) else
  G (fits (t_2+(1:Int))) (
  r16 (t_2+(1:Int))) else
  if (decide (¬ t.2.2.2.1=(0:Int)))=true then
  some (3:Int) else
  some (0:Int)
def zj0 (t:Tp1):(Int->Option (Int))->Int->Option (Int):=
  fun rec x=>zcc t (fun t_2=>rec t_2) x
def ziO (t:Tp1) (t_2:Int):Option (Int):=LFix (zj0 t ) t_2
def zcG (t:Tp1) (r7:Int->Option (Int)) (t_1:Int):Option (Int):=
  if (decide (t_1 < (t.2.2.1.length:Int)))=true then
  G (0<=t_1/\t_1 < (t.2.2.1.length:Int)) (
  if (decide ((((ix t.2.2.1 t_1).2).1)=(-1:Int)))=true then
  zcW t t_1 r7 (decide (((((ix t.2.2.1 t_1).2).2).1)=(-1:Int))) else
  zcW t t_1 r7 false) else
  (zfK t.2.2.2.2.1).bind (fun y'_3=>
  if y'_3=true then
  some (2:Int) else
  ziO t (0:Int))
def zkK (t:Tp1):(Int->Option (Int))->Int->Option (Int):=
  fun rec x=>zcG t (fun t_1=>rec t_1) x
def zjK (t:Tp1) (t_1:Int):Option (Int):=LFix (zkK t ) t_1
def zlf (t:Tp1):Option (Int):=
  if (decide (t.1 < (1:Int)))=true then
  some (2:Int) else
  if (decide ((4:Int) < t.1))=true then
  some (2:Int) else
  if (decide (t.2.1 < (1:Int)))=true then
  some (1:Int) else
  if (decide ((300:Int) < t.2.1))=true then
  some (1:Int) else
  if (decide ((40000:Int) < (t.2.2.1.length:Int)))=true then
  some (1:Int) else
  if (decide (¬ (t.2.2.2.2.1.length:Int)=t.2.1))=true then
  some (1:Int) else
  zjK t (0:Int)
theorem zjZ (r7:Nat->Int->Option (Int)) (r7':Int->Option (Int)) (h_r7:∀ a0,ChO (fun κ=>r7 κ a0) (r7' a0)) (t:Tp1) (t_1:Int) (leaf:Bool):ChO (fun κ=>zcW t t_1 (r7 κ) leaf) (zcW t t_1 r7' leaf):=by
  unfold zcW
  repeat' with_reducible first | exact ChO.const _ | exact h_r7 _ | apply ChO.ite | apply ChO.G | apply ChO.both | (apply ChO.bind;intro _)
theorem zl2 (r16:Nat->Int->Option (Int)) (r16':Int->Option (Int)) (h_r16:∀ a0,ChO (fun κ=>r16 κ a0) (r16' a0)) (t:Tp1) (t_2:Int):ChO (fun κ=>zcc t (r16 κ) t_2) (zcc t r16' t_2):=by
  unfold zcc
  repeat' with_reducible first | exact ChO.const _ | exact h_r16 _ | (apply zjZ<;>assumption) | apply ChO.ite | apply ChO.G | apply ChO.both | (apply ChO.bind;intro _)
theorem znP  (t:Tp1):Cn (zj0 t):=fun g h hg x=>zl2  (fun κ t_2=>g κ t_2) (fun t_2=>h t_2) (fun t_2=>hg t_2) t x
theorem zgQ  (t:Tp1) (t_2:Int):ziO t t_2=zcc t (ziO t) t_2:=zaH (znP t) t_2
theorem zm5 (r7:Nat->Int->Option (Int)) (r7':Int->Option (Int)) (h_r7:∀ a0,ChO (fun κ=>r7 κ a0) (r7' a0)) (t:Tp1) (t_1:Int):ChO (fun κ=>zcG t (r7 κ) t_1) (zcG t r7' t_1):=by
  unfold zcG
  repeat' with_reducible first | exact ChO.const _ | exact h_r7 _ | (apply zjZ<;>assumption) | apply ChO.ite | apply ChO.G | apply ChO.both | (apply ChO.bind;intro _)
theorem zoN  (t:Tp1):Cn (zkK t):=fun g h hg x=>zm5  (fun κ t_1=>g κ t_1) (fun t_1=>h t_1) (fun t_1=>hg t_1) t x
theorem zho  (t:Tp1) (t_1:Int):zjK t t_1=zcG t (zjK t) t_1:=zaH (zoN t) t_1

def zb5 (s:Int) (k:Int):Option (Int):=
  if (decide (s < (0:Int)))=true then
  some s else
  G (fits ((3:Int) * k)) (
  G (0<=(3:Int) * k) (
  some (iand .i64 (ishr .i64 s ((3:Int) * k)) (7:Int))))

def zdP (a:Tp1) (letter:Int) (left:Int) (right:Int) (r3:Int->Int->Option (Int)) (s:Int) (t:Int):Option (Int):=
  if (decide (t < (a.2.2.1.length:Int)))=true then
  G (0<=t/\t < (a.2.2.1.length:Int)) (
  if (decide (¬ ((ix a.2.2.1 t).1)=letter))=true then
  G (fits (t+(1:Int))) (
  r3 s (t+(1:Int))) else
  if (decide (¬ (decide ((((ix a.2.2.1 t).2).1) < (0:Int)))=(decide (left < (0:Int)))))=true then
  G (fits (t+(1:Int))) (
  r3 s (t+(1:Int))) else
  if (decide (left < (0:Int)))=true then
  G (0<=((((ix a.2.2.1 t).2).2).2).1) (
  G (fits (t+(1:Int))) (
  r3 (ior .i64 s (ishl .i64 (1:Int) (((((ix a.2.2.1 t).2).2).2).1))) (t+(1:Int)))) else
  G (0<=((ix a.2.2.1 t).2).1) (
  if (decide ((iand .i64 (ishr .i64 left (((ix a.2.2.1 t).2).1)) (1:Int))=(1:Int)))=true then
  G (0<=(((ix a.2.2.1 t).2).2).1) (
  if (decide ((iand .i64 (ishr .i64 right ((((ix a.2.2.1 t).2).2).1)) (1:Int))=(1:Int)))=true then
  G (0<=((((ix a.2.2.1 t).2).2).2).1) (
  G (fits (t+(1:Int))) (
  r3 (ior .i64 s (ishl .i64 (1:Int) (((((ix a.2.2.1 t).2).2).2).1))) (t+(1:Int)))) else
  G (fits (t+(1:Int))) (
  r3 s (t+(1:Int)))) else
  G (fits (t+(1:Int))) (
  r3 s (t+(1:Int))))) else
  some s
def zlO (a:Tp1) (letter:Int) (left:Int) (right:Int):(Int×Int->Option (Int))->Int×Int->Option (Int):=
  fun rec x=>zdP a letter left right (fun s t=>rec (s,t)) x.1 x.2
def zf5 (a:Tp1) (letter:Int) (left:Int) (right:Int) (s:Int) (t:Int):Option (Int):=LFix (zlO a letter left right ) (s,t)
def zkZ (a:Tp1) (letter:Int) (left:Int) (right:Int):Option (Int):=
  zf5 a letter left right (0:Int) (0:Int)
theorem znU (r3:Nat->Int->Int->Option (Int)) (r3':Int->Int->Option (Int)) (h_r3:∀ a0 a1,ChO (fun κ=>r3 κ a0 a1) (r3' a0 a1)) (a:Tp1) (letter:Int) (left:Int) (right:Int) (s:Int) (t:Int):ChO (fun κ=>zdP a letter left right (r3 κ) s t) (zdP a letter left right r3' s t):=by
  unfold zdP
  repeat' with_reducible first | exact ChO.const _ | exact h_r3 _ _ | apply ChO.ite | apply ChO.G | apply ChO.both | (apply ChO.bind;intro _)
theorem zp6  (a:Tp1) (letter:Int) (left:Int) (right:Int):Cn (zlO a letter left right):=fun g h hg x=>znU  (fun κ s t=>g κ (s,t)) (fun s t=>h (s,t)) (fun s t=>hg (s,t)) a letter left right x.1 x.2
theorem zk0  (a:Tp1) (letter:Int) (left:Int) (right:Int) (s:Int) (t:Int):zf5 a letter left right s t=zdP a letter left right (zf5 a letter left right) s t:=zaH (zp6 a letter left right) (s,t)

def zcw (letter:Int) (left:Int) (right:Int) (t:Tp1) (t_1:Tp1):Option (Int):=
  (zb5 left (0:Int)).bind (fun y'=>
  (zb5 right (0:Int)).bind (fun y'_1=>
  (zkZ t letter y' y'_1).bind (fun y'_2=>
  (zb5 left (1:Int)).bind (fun y'_3=>
  (zb5 right (1:Int)).bind (fun y'_4=>
  (zkZ t_1 letter y'_3 y'_4).bind (fun y'_5=>
  G (0<=(3:Int)) (
  some (ior .i64 y'_2 (ishl .i64 y'_5 (3:Int))))))))))

def zcn (s:Int) (c:Tp15) (c_1:Tp15) (l:Tp15):Option (Int×Tp15×Tp15×Tp15):=
  if (!(mhas c s))=true then
  G (room l ([s]) 8) (
  some ((l.length:Int),l++([s]),zlh c s,zoG c c_1 s (l.length:Int))) else
  some (mget c c_1 s (0:Int),l,c,c_1)

def zdL (a:Tp1) (s:Int) (r2:Int->Option (Bool)) (t:Int):Option (Bool):=
  if (decide (t < (a.2.2.2.2.1.length:Int)))=true then
  G (0<=t/\t < (a.2.2.2.2.1.length:Int)) (
  if (decide ((ix a.2.2.2.2.1 t)=(1:Int)))=true then
  G (0<=t) (
  if (decide ((iand .i64 (ishr .i64 s t) (1:Int))=(1:Int)))=true then
  some true else
  G (fits (t+(1:Int))) (
  r2 (t+(1:Int)))) else
  G (fits (t+(1:Int))) (
  r2 (t+(1:Int)))) else
  some false
def zlI (a:Tp1) (s:Int):(Int->Option (Bool))->Int->Option (Bool):=
  fun rec x=>zdL a s (fun t=>rec t) x
def ziA (a:Tp1) (s:Int) (t:Int):Option (Bool):=LFix (zlI a s ) t
def zm7 (a:Tp1) (s:Int):Option (Bool):=
  ziA a s (0:Int)
theorem znR (r2:Nat->Int->Option (Bool)) (r2':Int->Option (Bool)) (h_r2:∀ a0,ChO (fun κ=>r2 κ a0) (r2' a0)) (a:Tp1) (s:Int) (t:Int):ChO (fun κ=>zdL a s (r2 κ) t) (zdL a s r2' t):=by
  unfold zdL
  repeat' with_reducible first | exact ChO.const _ | exact h_r2 _ | apply ChO.ite | apply ChO.G | apply ChO.both | (apply ChO.bind;intro _)
theorem zp1  (a:Tp1) (s:Int):Cn (zlI a s):=fun g h hg x=>znR  (fun κ t=>g κ t) (fun t=>h t) (fun t=>hg t) a s x
theorem zkN  (a:Tp1) (s:Int) (t:Int):ziA a s t=zdL a s (ziA a s) t:=zaH (zp1 a s) t

def zgv (s:Int) (t:Tp1) (t_1:Tp1):Option (Int):=
  (zb5 s (0:Int)).bind (fun y'=>
  (zm7 t y').bind (fun y'_1=>
  if y'_1=true then
  (zb5 s (1:Int)).bind (fun y'_2=>
  (zm7 t_1 y'_2).bind (fun y'_3=>
  if (!y'_3)=true then
  some (1:Int) else
  some (0:Int))) else
  some (0:Int)))

def zhz (x'_3:Int) (n_2:Int):Option (Int):=
  G (0<=IntKind.wrap .u8 x'_3/\IntKind.wrap .u8 x'_3 < (([0,1,2,2,3,3,3,3,4,4,4,4,4,4,4,4,5,5,5,5,5,5,5,5,5,5,5,5,5,5,5,5,6,6,6,6,6,6,6,6,6,6,6,6,6,6,6,6,6,6,6,6,6,6,6,6,6,6,6,6,6,6,6,6,7,7,7,7,7,7,7,7,7,7,7,7,7,7,7,7,7,7,7,7,7,7,7,7,7,7,7,7,7,7,7,7,7,7,7,7,7,7,7,7,7,7,7,7,7,7,7,7,7,7,7,7,7,7,7,7,7,7,7,7,7,7,7,7,8,8,8,8,8,8,8,8,8,8,8,8,8,8,8,8,8,8,8,8,8,8,8,8,8,8,8,8,8,8,8,8,8,8,8,8,8,8,8,8,8,8,8,8,8,8,8,8,8,8,8,8,8,8,8,8,8,8,8,8,8,8,8,8,8,8,8,8,8,8,8,8,8,8,8,8,8,8,8,8,8,8,8,8,8,8,8,8,8,8,8,8,8,8,8,8,8,8,8,8,8,8,8,8,8,8,8,8,8,8,8,8,8,8,8,8,8,8,8,8,8,8,8,8,8,8,8,8]).length:Int)) (
  G (fits (n_2+(IntKind.wrap .i64 (bAt ([0,1,2,2,3,3,3,3,4,4,4,4,4,4,4,4,5,5,5,5,5,5,5,5,5,5,5,5,5,5,5,5,6,6,6,6,6,6,6,6,6,6,6,6,6,6,6,6,6,6,6,6,6,6,6,6,6,6,6,6,6,6,6,6,7,7,7,7,7,7,7,7,7,7,7,7,7,7,7,7,7,7,7,7,7,7,7,7,7,7,7,7,7,7,7,7,7,7,7,7,7,7,7,7,7,7,7,7,7,7,7,7,7,7,7,7,7,7,7,7,7,7,7,7,7,7,7,7,8,8,8,8,8,8,8,8,8,8,8,8,8,8,8,8,8,8,8,8,8,8,8,8,8,8,8,8,8,8,8,8,8,8,8,8,8,8,8,8,8,8,8,8,8,8,8,8,8,8,8,8,8,8,8,8,8,8,8,8,8,8,8,8,8,8,8,8,8,8,8,8,8,8,8,8,8,8,8,8,8,8,8,8,8,8,8,8,8,8,8,8,8,8,8,8,8,8,8,8,8,8,8,8,8,8,8,8,8,8,8,8,8,8,8,8,8,8,8,8,8,8,8,8,8,8,8,8]) (IntKind.wrap .u8 x'_3))))) (
  some (n_2+(IntKind.wrap .i64 (bAt ([0,1,2,2,3,3,3,3,4,4,4,4,4,4,4,4,5,5,5,5,5,5,5,5,5,5,5,5,5,5,5,5,6,6,6,6,6,6,6,6,6,6,6,6,6,6,6,6,6,6,6,6,6,6,6,6,6,6,6,6,6,6,6,6,7,7,7,7,7,7,7,7,7,7,7,7,7,7,7,7,7,7,7,7,7,7,7,7,7,7,7,7,7,7,7,7,7,7,7,7,7,7,7,7,7,7,7,7,7,7,7,7,7,7,7,7,7,7,7,7,7,7,7,7,7,7,7,7,8,8,8,8,8,8,8,8,8,8,8,8,8,8,8,8,8,8,8,8,8,8,8,8,8,8,8,8,8,8,8,8,8,8,8,8,8,8,8,8,8,8,8,8,8,8,8,8,8,8,8,8,8,8,8,8,8,8,8,8,8,8,8,8,8,8,8,8,8,8,8,8,8,8,8,8,8,8,8,8,8,8,8,8,8,8,8,8,8,8,8,8,8,8,8,8,8,8,8,8,8,8,8,8,8,8,8,8,8,8,8,8,8,8,8,8,8,8,8,8,8,8,8,8,8,8,8,8]) (IntKind.wrap .u8 x'_3))))))
def zhy (x'_2:Int) (n_1:Int):Option (Int):=
  if (decide ((256:Int)<=x'_2))=true then
  G (0<=(8:Int)) (
  G (fits (n_1+(8:Int))) (
  zhz (ishr .u64 x'_2 (8:Int)) (n_1+(8:Int)))) else
  zhz x'_2 n_1
def zhx (x'_1:Int) (n:Int):Option (Int):=
  if (decide ((65536:Int)<=x'_1))=true then
  G (0<=(16:Int)) (
  G (fits (n+(16:Int))) (
  zhy (ishr .u64 x'_1 (16:Int)) (n+(16:Int)))) else
  zhy x'_1 n
def znp (x':Int):Option (Int):=
  if (decide ((4294967296:Int)<=x'))=true then
  G (0<=(32:Int)) (
  zhx (ishr .u64 x' (32:Int)) (32:Int)) else
  zhx x' (0:Int)

def zl6 (x':Int):Option (Int):=
  (znp x').bind (fun y'=>
  some y')

def zaz (a:Int) (i:Int) (r1:(Int->Tp8->Option Tp8)) (r4:Int->Tp8->Option Tp8) (j:Int) (data_2:Tp8):Option Tp8:=
  if (decide (a < j))=true then
  G (0<=j/\j < (data_2.length:Int)) (
  G ((j).toNat < data_2.length) (
  G (fits (j - (1:Int))) (
  G (0<=j - (1:Int)/\j - (1:Int) < (data_2.length:Int)) (
  G ((j - (1:Int)).toNat < data_2.length) (
  (zbB (ix data_2 j) (ix data_2 (j - (1:Int)))).bind (fun y'=>
  if (decide (y' < (0:Int)))=true then
  G (fits (j - (1:Int))) (
  G (fits (j - (1:Int))) (
  G (0<=j - (1:Int)/\j - (1:Int) < (data_2.length:Int)) (
  G ((j - (1:Int)).toNat < data_2.length) (
  G (0<=j/\j < (data_2.length:Int)) (
  G ((j).toNat < data_2.length) (
  G (0<=j/\j < (data_2.length:Int)) (
  G ((j).toNat < data_2.length) (
  G (0<=j - (1:Int)/\j - (1:Int) < ((data_2.set (j).toNat (ix data_2 (j - (1:Int)))).length:Int)) (
  G ((j - (1:Int)).toNat < (data_2.set (j).toNat (ix data_2 (j - (1:Int)))).length) (
  G (fits (j - (1:Int))) (
  r4 (j - (1:Int)) ((data_2.set (j).toNat (ix data_2 (j - (1:Int)))).set (j - (1:Int)).toNat (ix data_2 j))))))))))))) else
  G (fits (i+(1:Int))) (
  r1 (i+(1:Int)) data_2))))))) else
  G (fits (i+(1:Int))) (
  r1 (i+(1:Int)) data_2)
def zdT (a:Int) (i:Int) (r1:(Int->Tp8->Option Tp8)):(Int×Tp8->Option Tp8)->Int×Tp8->Option Tp8:=
  fun rec x=>zaz a i r1 (fun j data_2=>rec (j,data_2)) x.1 x.2
def zaJ (a:Int) (i:Int) (r1:(Int->Tp8->Option Tp8)) (j:Int) (data_2:Tp8):Option Tp8:=LFix (zdT a i r1 ) (j,data_2)
def zay (a:Int) (b:Int) (r1:Int->Tp8->Option Tp8) (i:Int) (data_1:Tp8):Option Tp8:=
  if (decide (i < b))=true then
  zaJ a i r1 i data_1 else
  some data_1
def zdS (a:Int) (b:Int):(Int×Tp8->Option Tp8)->Int×Tp8->Option Tp8:=
  fun rec x=>zay a b (fun i data_1=>rec (i,data_1)) x.1 x.2
def zbD (a:Int) (b:Int) (i:Int) (data_1:Tp8):Option Tp8:=LFix (zdS a b ) (i,data_1)
def zb1 (a:Int) (b:Int) (data:Tp8):Option Tp8:=
  G (fits (a+(1:Int))) (
  zbD a b (a+(1:Int)) data)
theorem zdd (r1:Nat->Int->Tp8->Option Tp8) (r1':Int->Tp8->Option Tp8) (h_r1:∀ a0 a1,ChO (fun κ=>r1 κ a0 a1) (r1' a0 a1)) (r4:Nat->Int->Tp8->Option Tp8) (r4':Int->Tp8->Option Tp8) (h_r4:∀ a0 a1,ChO (fun κ=>r4 κ a0 a1) (r4' a0 a1)) (a:Int) (i:Int) (j:Int) (data_2:Tp8):ChO (fun κ=>zaz a i (r1 κ) (r4 κ) j data_2) (zaz a i r1' r4' j data_2):=by
  unfold zaz
  repeat' with_reducible first | exact ChO.const _ | exact h_r1 _ _ | exact h_r4 _ _ | apply ChO.ite | apply ChO.G | apply ChO.both | (apply ChO.bind;intro _)
theorem zb2 (r1:Int->Tp8->Option Tp8) (a:Int) (i:Int):Cn (zdT a i r1):=fun g h hg x=>zdd (fun _=>r1) r1 (fun _ _=>ChO.const _) (fun κ j data_2=>g κ (j,data_2)) (fun j data_2=>h (j,data_2)) (fun j data_2=>hg (j,data_2)) a i x.1 x.2
theorem zdx (r1:Int->Tp8->Option Tp8) (a:Int) (i:Int) (j:Int) (data_2:Tp8):zaJ a i r1 j data_2=zaz a i r1 (zaJ a i r1) j data_2:=zaH (zb2 r1 a i) (j,data_2)
theorem zgq (r1:Nat->Int->Tp8->Option Tp8) (r1':Int->Tp8->Option Tp8) (h_r1:∀ a0 a1,ChO (fun κ=>r1 κ a0 a1) (r1' a0 a1)) (a:Int) (i:Int) (j:Int) (data_2:Tp8):ChO (fun κ=>zaJ a i (r1 κ) j data_2) (zaJ a i r1' j data_2):=by
  unfold zaJ
  exact zfk (fun κ=>(zb2 (r1 κ) a i).mono) (zb2 r1' a i).mono (fun g h hg x=>zdd r1 r1' h_r1 (fun κ j data_2=>g κ (j,data_2)) (fun j data_2=>h (j,data_2)) (fun j data_2=>hg (j,data_2)) a i x.1 x.2) _
theorem zfN (r1:Nat->Int->Tp8->Option Tp8) (r1':Int->Tp8->Option Tp8) (h_r1:∀ a0 a1,ChO (fun κ=>r1 κ a0 a1) (r1' a0 a1)) (a:Int) (b:Int) (i:Int) (data_1:Tp8):ChO (fun κ=>zay a b (r1 κ) i data_1) (zay a b r1' i data_1):=by
  unfold zay
  repeat' with_reducible first | exact ChO.const _ | exact h_r1 _ _ | (apply zgq<;>assumption) | apply ChO.ite | apply ChO.G | apply ChO.both | (apply ChO.bind;intro _)
theorem zgp  (a:Int) (b:Int):Cn (zdS a b):=fun g h hg x=>zfN  (fun κ i data_1=>g κ (i,data_1)) (fun i data_1=>h (i,data_1)) (fun i data_1=>hg (i,data_1)) a b x.1 x.2
theorem zdw  (a:Int) (b:Int) (i:Int) (data_1:Tp8):zbD a b i data_1=zay a b (zbD a b) i data_1:=zaH (zgp a b) (i,data_1)

def za8 (first:Int) (root:Int) (data_1:Tp8) (r1:(Int->Tp8->Option Tp8)) (child:Int):Option Tp8:=
  G (fits (first+root)) (
  G (0<=first+root/\first+root < (data_1.length:Int)) (
  G ((first+root).toNat < data_1.length) (
  G (fits (first+child)) (
  G (0<=first+child/\first+child < (data_1.length:Int)) (
  G ((first+child).toNat < data_1.length) (
  (zbB (ix data_1 (first+root)) (ix data_1 (first+child))).bind (fun y'_1=>
  if (!(decide (y'_1 < (0:Int))))=true then
  some data_1 else
  G (fits (first+root)) (
  G (fits (first+child)) (
  G (fits (first+child)) (
  G (0<=first+child/\first+child < (data_1.length:Int)) (
  G ((first+child).toNat < data_1.length) (
  G (fits (first+root)) (
  G (0<=first+root/\first+root < (data_1.length:Int)) (
  G ((first+root).toNat < data_1.length) (
  G (0<=first+root/\first+root < (data_1.length:Int)) (
  G ((first+root).toNat < data_1.length) (
  G (0<=first+child/\first+child < ((data_1.set (first+root).toNat (ix data_1 (first+child))).length:Int)) (
  G ((first+child).toNat < (data_1.set (first+root).toNat (ix data_1 (first+child))).length) (
  r1 child ((data_1.set (first+root).toNat (ix data_1 (first+child))).set (first+child).toNat (ix data_1 (first+root))))))))))))))))))))))
def za7 (first:Int) (root:Int) (data_1:Tp8) (r1:(Int->Tp8->Option Tp8)) (t:Bool):Option Tp8:=
  if t=true then
  G (fits ((((2:Int) * root)+(1:Int))+(1:Int))) (
  za8 first root data_1 r1 ((((2:Int) * root)+(1:Int))+(1:Int))) else
  za8 first root data_1 r1 (((2:Int) * root)+(1:Int))
def zaZ (hi:Int) (first:Int) (r1:Int->Tp8->Option Tp8) (root:Int) (data_1:Tp8):Option Tp8:=
  G (fits ((2:Int) * root)) (
  G (fits (((2:Int) * root)+(1:Int))) (
  if (decide (hi<=(((2:Int) * root)+(1:Int))))=true then
  some data_1 else
  G (fits ((((2:Int) * root)+(1:Int))+(1:Int))) (
  if (decide (((((2:Int) * root)+(1:Int))+(1:Int)) < hi))=true then
  G (fits (first+(((2:Int) * root)+(1:Int)))) (
  G (0<=first+(((2:Int) * root)+(1:Int))/\first+(((2:Int) * root)+(1:Int)) < (data_1.length:Int)) (
  G ((first+(((2:Int) * root)+(1:Int))).toNat < data_1.length) (
  G (fits (first+(((2:Int) * root)+(1:Int)))) (
  G (fits ((first+(((2:Int) * root)+(1:Int)))+(1:Int))) (
  G (0<=(first+(((2:Int) * root)+(1:Int)))+(1:Int)/\(first+(((2:Int) * root)+(1:Int)))+(1:Int) < (data_1.length:Int)) (
  G (((first+(((2:Int) * root)+(1:Int)))+(1:Int)).toNat < data_1.length) (
  (zbB (ix data_1 (first+(((2:Int) * root)+(1:Int)))) (ix data_1 ((first+(((2:Int) * root)+(1:Int)))+(1:Int)))).bind (fun y'=>
  za7 first root data_1 r1 (decide (y' < (0:Int))))))))))) else
  za7 first root data_1 r1 false)))
def ze6 (hi:Int) (first:Int):(Int×Tp8->Option Tp8)->Int×Tp8->Option Tp8:=
  fun rec x=>zaZ hi first (fun root data_1=>rec (root,data_1)) x.1 x.2
def zbm (hi:Int) (first:Int) (root:Int) (data_1:Tp8):Option Tp8:=LFix (ze6 hi first ) (root,data_1)
def zcm (lo:Int) (hi:Int) (first:Int) (data:Tp8):Option Tp8:=
  zbm hi first lo data
theorem zeS (r1:Nat->Int->Tp8->Option Tp8) (r1':Int->Tp8->Option Tp8) (h_r1:∀ a0 a1,ChO (fun κ=>r1 κ a0 a1) (r1' a0 a1)) (first:Int) (root:Int) (data_1:Tp8) (child:Int):ChO (fun κ=>za8 first root data_1 (r1 κ) child) (za8 first root data_1 r1' child):=by
  unfold za8
  repeat' with_reducible first | exact ChO.const _ | exact h_r1 _ _ | apply ChO.ite | apply ChO.G | apply ChO.both | (apply ChO.bind;intro _)
theorem zhG (r1:Nat->Int->Tp8->Option Tp8) (r1':Int->Tp8->Option Tp8) (h_r1:∀ a0 a1,ChO (fun κ=>r1 κ a0 a1) (r1' a0 a1)) (first:Int) (root:Int) (data_1:Tp8) (t:Bool):ChO (fun κ=>za7 first root data_1 (r1 κ) t) (za7 first root data_1 r1' t):=by
  unfold za7
  repeat' with_reducible first | exact ChO.const _ | exact h_r1 _ _ | (apply zeS<;>assumption) | apply ChO.ite | apply ChO.G | apply ChO.both | (apply ChO.bind;intro _)
theorem zg8 (r1:Nat->Int->Tp8->Option Tp8) (r1':Int->Tp8->Option Tp8) (h_r1:∀ a0 a1,ChO (fun κ=>r1 κ a0 a1) (r1' a0 a1)) (hi:Int) (first:Int) (root:Int) (data_1:Tp8):ChO (fun κ=>zaZ hi first (r1 κ) root data_1) (zaZ hi first r1' root data_1):=by
  unfold zaZ
  repeat' with_reducible first | exact ChO.const _ | exact h_r1 _ _ | (apply zeS<;>assumption) | (apply zhG<;>assumption) | apply ChO.ite | apply ChO.G | apply ChO.both | (apply ChO.bind;intro _)
theorem zhH  (hi:Int) (first:Int):Cn (ze6 hi first):=fun g h hg x=>zg8  (fun κ root data_1=>g κ (root,data_1)) (fun root data_1=>h (root,data_1)) (fun root data_1=>hg (root,data_1)) hi first x.1 x.2
theorem zeT  (hi:Int) (first:Int) (root:Int) (data_1:Tp8):zbm hi first root data_1=zaZ hi first (zbm hi first) root data_1:=zaH (zhH hi first) (root,data_1)

def zaU (a:Int) (r8:Int->Tp8->Option Tp8) (i_1:Int) (data_2:Tp8):Option Tp8:=
  if (decide ((0:Int)<=i_1))=true then
  G (fits (a+i_1)) (
  G (fits (a+i_1)) (
  G (0<=a+i_1/\a+i_1 < (data_2.length:Int)) (
  G ((a+i_1).toNat < data_2.length) (
  G (0<=a/\a < (data_2.length:Int)) (
  G ((a).toNat < data_2.length) (
  G (0<=a/\a < (data_2.length:Int)) (
  G ((a).toNat < data_2.length) (
  G (0<=a+i_1/\a+i_1 < ((data_2.set (a).toNat (ix data_2 (a+i_1))).length:Int)) (
  G ((a+i_1).toNat < (data_2.set (a).toNat (ix data_2 (a+i_1))).length) (
  (zcm (0:Int) i_1 a ((data_2.set (a).toNat (ix data_2 (a+i_1))).set (a+i_1).toNat (ix data_2 a))).bind (fun y'_1=>
  G (fits (i_1 - (1:Int))) (
  r8 (i_1 - (1:Int)) y'_1)))))))))))) else
  some data_2
def ze2 (a:Int):(Int×Tp8->Option Tp8)->Int×Tp8->Option Tp8:=
  fun rec x=>zaU a (fun i_1 data_2=>rec (i_1,data_2)) x.1 x.2
def zcv (a:Int) (i_1:Int) (data_2:Tp8):Option Tp8:=LFix (ze2 a ) (i_1,data_2)
def zaT (a:Int) (b:Int) (r4:Int->Tp8->Option Tp8) (i:Int) (data_1:Tp8):Option Tp8:=
  if (decide ((0:Int)<=i))=true then
  (zcm i (b - a) a data_1).bind (fun y'=>
  G (fits (i - (1:Int))) (
  r4 (i - (1:Int)) y')) else
  G (fits ((b - a) - (1:Int))) (
  zcv a ((b - a) - (1:Int)) data_1)
def ze1 (a:Int) (b:Int):(Int×Tp8->Option Tp8)->Int×Tp8->Option Tp8:=
  fun rec x=>zaT a b (fun i data_1=>rec (i,data_1)) x.1 x.2
def zcu (a:Int) (b:Int) (i:Int) (data_1:Tp8):Option Tp8:=LFix (ze1 a b ) (i,data_1)
def zdl (a:Int) (b:Int) (data:Tp8):Option Tp8:=
  G (fits (b - a)) (
  G (fits ((b - a) - (1:Int))) (
  G ((2:Int)≠0) (
  G (fits (Int.tdiv ((b - a) - (1:Int)) (2:Int))) (
  zcu a b (Int.tdiv ((b - a) - (1:Int)) (2:Int)) data))))
theorem zg6 (r8:Nat->Int->Tp8->Option Tp8) (r8':Int->Tp8->Option Tp8) (h_r8:∀ a0 a1,ChO (fun κ=>r8 κ a0 a1) (r8' a0 a1)) (a:Int) (i_1:Int) (data_2:Tp8):ChO (fun κ=>zaU a (r8 κ) i_1 data_2) (zaU a r8' i_1 data_2):=by
  unfold zaU
  repeat' with_reducible first | exact ChO.const _ | exact h_r8 _ _ | apply ChO.ite | apply ChO.G | apply ChO.both | (apply ChO.bind;intro _)
theorem zhF  (a:Int):Cn (ze2 a):=fun g h hg x=>zg6  (fun κ i_1 data_2=>g κ (i_1,data_2)) (fun i_1 data_2=>h (i_1,data_2)) (fun i_1 data_2=>hg (i_1,data_2)) a x.1 x.2
theorem zeP  (a:Int) (i_1:Int) (data_2:Tp8):zcv a i_1 data_2=zaU a (zcv a) i_1 data_2:=zaH (zhF a) (i_1,data_2)
theorem zg5 (r4:Nat->Int->Tp8->Option Tp8) (r4':Int->Tp8->Option Tp8) (h_r4:∀ a0 a1,ChO (fun κ=>r4 κ a0 a1) (r4' a0 a1)) (a:Int) (b:Int) (i:Int) (data_1:Tp8):ChO (fun κ=>zaT a b (r4 κ) i data_1) (zaT a b r4' i data_1):=by
  unfold zaT
  repeat' with_reducible first | exact ChO.const _ | exact h_r4 _ _ | apply ChO.ite | apply ChO.G | apply ChO.both | (apply ChO.bind;intro _)
theorem zhE  (a:Int) (b:Int):Cn (ze1 a b):=fun g h hg x=>zg5  (fun κ i data_1=>g κ (i,data_1)) (fun i data_1=>h (i,data_1)) (fun i data_1=>hg (i,data_1)) a b x.1 x.2
theorem zeO  (a:Int) (b:Int) (i:Int) (data_1:Tp8):zcu a b i data_1=zaT a b (zcu a b) i data_1:=zaH (zhE a b) (i,data_1)

def zdy (length:Int):Option (Int):=
  (zl6 (IntKind.wrap .u64 length)).bind (fun y'=>
  G (0<=y') (
  some (ishl .u64 (1:Int) y')))

def zfn (c:Int):Option (Int×Int):=
  G (0<=(13:Int)) (
  G (0<=(7:Int)) (
  G (0<=(17:Int)) (
  some (ixor .u64 (ixor .u64 (ixor .u64 c (ishl .u64 c (13:Int))) (ishr .u64 (ixor .u64 c (ishl .u64 c (13:Int))) (7:Int))) (ishl .u64 (ixor .u64 (ixor .u64 c (ishl .u64 c (13:Int))) (ishr .u64 (ixor .u64 c (ishl .u64 c (13:Int))) (7:Int))) (17:Int)),ixor .u64 (ixor .u64 (ixor .u64 c (ishl .u64 c (13:Int))) (ishr .u64 (ixor .u64 c (ishl .u64 c (13:Int))) (7:Int))) (ishl .u64 (ixor .u64 (ixor .u64 c (ishl .u64 c (13:Int))) (ishr .u64 (ixor .u64 c (ishl .u64 c (13:Int))) (7:Int))) (17:Int))))))

def zaI (a:Int) (idx:Int) (data_1:Tp8) (r5:(Int->Tp8->Int->Option Tp8)) (y'_2:Int) (other:Int):Option Tp8:=
  G (fits (a+other)) (
  G (fits (a+other)) (
  G (0<=a+other/\a+other < (data_1.length:Int)) (
  G ((a+other).toNat < data_1.length) (
  G (0<=idx/\idx < (data_1.length:Int)) (
  G ((idx).toNat < data_1.length) (
  G (0<=idx/\idx < (data_1.length:Int)) (
  G ((idx).toNat < data_1.length) (
  G (0<=a+other/\a+other < ((data_1.set (idx).toNat (ix data_1 (a+other))).length:Int)) (
  G ((a+other).toNat < (data_1.set (idx).toNat (ix data_1 (a+other))).length) (
  G (fits (idx+(1:Int))) (
  r5 (idx+(1:Int)) ((data_1.set (idx).toNat (ix data_1 (a+other))).set (a+other).toNat (ix data_1 idx)) y'_2)))))))))))
def zax (a:Int) (b:Int) (y':Int) (r5:Int->Tp8->Int->Option Tp8) (idx:Int) (data_1:Tp8) (random:Int):Option Tp8:=
  G ((4:Int)≠0) (
  G (fits (Int.tdiv (b - a) (4:Int))) (
  G (fits ((Int.tdiv (b - a) (4:Int)) * (2:Int))) (
  G (fits (a+((Int.tdiv (b - a) (4:Int)) * (2:Int)))) (
  G (fits ((a+((Int.tdiv (b - a) (4:Int)) * (2:Int)))+(1:Int))) (
  if (decide (idx<=((a+((Int.tdiv (b - a) (4:Int)) * (2:Int)))+(1:Int))))=true then
  (zfn random).bind (fun y'_4=>
  if (decide ((b - a)<=(IntKind.wrap .i64 (iand .u64 y'_4.1 (IntKind.wrap .u64 (y' - (1:Int)))))))=true then
  G (fits ((IntKind.wrap .i64 (iand .u64 y'_4.1 (IntKind.wrap .u64 (y' - (1:Int))))) - (b - a))) (
  zaI a idx data_1 r5 y'_4.2 ((IntKind.wrap .i64 (iand .u64 y'_4.1 (IntKind.wrap .u64 (y' - (1:Int))))) - (b - a))) else
  zaI a idx data_1 r5 y'_4.2 (IntKind.wrap .i64 (iand .u64 y'_4.1 (IntKind.wrap .u64 (y' - (1:Int)))))) else
  some data_1)))))
def zdR (a:Int) (b:Int) (y':Int):(Int×Tp8×Int->Option Tp8)->Int×Tp8×Int->Option Tp8:=
  fun rec x=>zax a b y' (fun idx data_1 random=>rec (idx,data_1,random)) x.1 x.2.1 x.2.2
def zbe (a:Int) (b:Int) (y':Int) (idx:Int) (data_1:Tp8) (random:Int):Option Tp8:=LFix (zdR a b y' ) (idx,data_1,random)
def zb0 (a:Int) (b:Int) (data:Tp8):Option Tp8:=
  G (fits (b - a)) (
  if (decide ((8:Int)<=(b - a)))=true then
  (zdy (b - a)).bind (fun y'=>
  G ((4:Int)≠0) (
  G (fits (Int.tdiv (b - a) (4:Int))) (
  G (fits ((Int.tdiv (b - a) (4:Int)) * (2:Int))) (
  G (fits (a+((Int.tdiv (b - a) (4:Int)) * (2:Int)))) (
  G (fits ((a+((Int.tdiv (b - a) (4:Int)) * (2:Int))) - (1:Int))) (
  zbe a b y' ((a+((Int.tdiv (b - a) (4:Int)) * (2:Int))) - (1:Int)) data (IntKind.wrap .u64 (b - a)))))))) else
  some data)
theorem zgn (r5:Nat->Int->Tp8->Int->Option Tp8) (r5':Int->Tp8->Int->Option Tp8) (h_r5:∀ a0 a1 a2,ChO (fun κ=>r5 κ a0 a1 a2) (r5' a0 a1 a2)) (a:Int) (idx:Int) (data_1:Tp8) (y'_2:Int) (other:Int):ChO (fun κ=>zaI a idx data_1 (r5 κ) y'_2 other) (zaI a idx data_1 r5' y'_2 other):=by
  unfold zaI
  repeat' with_reducible first | exact ChO.const _ | exact h_r5 _ _ _ | apply ChO.ite | apply ChO.G | apply ChO.both | (apply ChO.bind;intro _)
theorem zfM (r5:Nat->Int->Tp8->Int->Option Tp8) (r5':Int->Tp8->Int->Option Tp8) (h_r5:∀ a0 a1 a2,ChO (fun κ=>r5 κ a0 a1 a2) (r5' a0 a1 a2)) (a:Int) (b:Int) (y':Int) (idx:Int) (data_1:Tp8) (random:Int):ChO (fun κ=>zax a b y' (r5 κ) idx data_1 random) (zax a b y' r5' idx data_1 random):=by
  unfold zax
  repeat' with_reducible first | exact ChO.const _ | exact h_r5 _ _ _ | (apply zgn<;>assumption) | apply ChO.ite | apply ChO.G | apply ChO.both | (apply ChO.bind;intro _)
theorem zgo  (a:Int) (b:Int) (y':Int):Cn (zdR a b y'):=fun g h hg x=>zfM  (fun κ idx data_1 random=>g κ (idx,data_1,random)) (fun idx data_1 random=>h (idx,data_1,random)) (fun idx data_1 random=>hg (idx,data_1,random)) a b y' x.1 x.2.1 x.2.2
theorem zdv  (a:Int) (b:Int) (y':Int) (idx:Int) (data_1:Tp8) (random:Int):zbe a b y' idx data_1 random=zax a b y' (zbe a b y') idx data_1 random:=zaH (zgo a b y') (idx,data_1,random)

def zb7 (data:Tp8) (a:Int) (b:Int) (c:Int):Option (Int×Int×Int):=
  G (0<=b/\b < (data.length:Int)) (
  G (0<=a/\a < (data.length:Int)) (
  (zbB (ix data b) (ix data a)).bind (fun y'=>
  if (decide (y' < (0:Int)))=true then
  G (fits (c+(1:Int))) (
  some (b,a,c+(1:Int))) else
  some (a,b,c))))

def zcN (data:Tp8) (a:Int) (b:Int) (c:Int) (c_1:Int):Option (Int×Int):=
  (zb7 data a b c_1).bind (fun y'_14=>
  (zb7 data y'_14.2.1 c y'_14.2.2).bind (fun y'_13=>
  (zb7 data y'_14.1 y'_13.1 y'_13.2.2).bind (fun y'_12=>
  some (y'_12.2.1,y'_12.2.2))))

def za9 (data:Tp8) (a:Int) (c:Int):Option (Int×Int):=
  G (fits (a - (1:Int))) (
  G (fits (a+(1:Int))) (
  (zcN data (a - (1:Int)) a (a+(1:Int)) c).bind (fun y'_3=>
  some (y'_3.1,y'_3.2))))

def zbK (j_1:Int) (swaps_1:Int):Option (Int×Int):=
  if (decide (swaps_1=(0:Int)))=true then
  some (j_1,(1:Int)) else
  if (decide (swaps_1=(12:Int)))=true then
  some (j_1,(2:Int)) else
  some (j_1,(0:Int))
def zbJ (data:Tp8) (i:Int) (j:Int) (k:Int) (swaps:Int):Option (Int×Int):=
  (zcN data i j k swaps).bind (fun y'_12=>
  zbK y'_12.1 y'_12.2)
def zct (data:Tp8) (a:Int) (b:Int):Option (Int×Int):=
  G (fits (b - a)) (
  G ((4:Int)≠0) (
  G (fits (Int.tdiv (b - a) (4:Int))) (
  G (fits ((Int.tdiv (b - a) (4:Int)) * (1:Int))) (
  G (fits (a+((Int.tdiv (b - a) (4:Int)) * (1:Int)))) (
  G ((4:Int)≠0) (
  G (fits (Int.tdiv (b - a) (4:Int))) (
  G (fits ((Int.tdiv (b - a) (4:Int)) * (2:Int))) (
  G (fits (a+((Int.tdiv (b - a) (4:Int)) * (2:Int)))) (
  G ((4:Int)≠0) (
  G (fits (Int.tdiv (b - a) (4:Int))) (
  G (fits ((Int.tdiv (b - a) (4:Int)) * (3:Int))) (
  G (fits (a+((Int.tdiv (b - a) (4:Int)) * (3:Int)))) (
  if (decide ((8:Int)<=(b - a)))=true then
  if (decide ((50:Int)<=(b - a)))=true then
  (za9 data (a+((Int.tdiv (b - a) (4:Int)) * (1:Int))) (0:Int)).bind (fun y'_15=>
  (za9 data (a+((Int.tdiv (b - a) (4:Int)) * (2:Int))) y'_15.2).bind (fun y'_14=>
  (za9 data (a+((Int.tdiv (b - a) (4:Int)) * (3:Int))) y'_14.2).bind (fun y'_13=>
  zbJ data y'_15.1 y'_14.1 y'_13.1 y'_13.2))) else
  zbJ data (a+((Int.tdiv (b - a) (4:Int)) * (1:Int))) (a+((Int.tdiv (b - a) (4:Int)) * (2:Int))) (a+((Int.tdiv (b - a) (4:Int)) * (3:Int))) (0:Int) else
  zbK (a+((Int.tdiv (b - a) (4:Int)) * (2:Int))) (0:Int))))))))))))))

def zaF  (r2:Int->Int->Tp8->Option Tp8) (i:Int) (j:Int) (data_1:Tp8):Option Tp8:=
  if (decide (i < j))=true then
  G (0<=j/\j < (data_1.length:Int)) (
  G ((j).toNat < data_1.length) (
  G (0<=i/\i < (data_1.length:Int)) (
  G ((i).toNat < data_1.length) (
  G (0<=i/\i < (data_1.length:Int)) (
  G ((i).toNat < data_1.length) (
  G (0<=j/\j < ((data_1.set (i).toNat (ix data_1 j)).length:Int)) (
  G ((j).toNat < (data_1.set (i).toNat (ix data_1 j)).length) (
  G (fits (i+(1:Int))) (
  G (fits (j - (1:Int))) (
  r2 (i+(1:Int)) (j - (1:Int)) ((data_1.set (i).toNat (ix data_1 j)).set (j).toNat (ix data_1 i)))))))))))) else
  some data_1
def zed:(Int×Int×Tp8->Option Tp8)->Int×Int×Tp8->Option Tp8:=
  fun rec x=>zaF (fun i j data_1=>rec (i,j,data_1)) x.1 x.2.1 x.2.2
def zbL  (i:Int) (j:Int) (data_1:Tp8):Option Tp8:=LFix (zed ) (i,j,data_1)
def zcj (a:Int) (b:Int) (data:Tp8):Option Tp8:=
  G (fits (b - (1:Int))) (
  zbL a (b - (1:Int)) data)
theorem zf8 (r2:Nat->Int->Int->Tp8->Option Tp8) (r2':Int->Int->Tp8->Option Tp8) (h_r2:∀ a0 a1 a2,ChO (fun κ=>r2 κ a0 a1 a2) (r2' a0 a1 a2)) (i:Int) (j:Int) (data_1:Tp8):ChO (fun κ=>zaF (r2 κ) i j data_1) (zaF r2' i j data_1):=by
  unfold zaF
  repeat' with_reducible first | exact ChO.const _ | exact h_r2 _ _ _ | apply ChO.ite | apply ChO.G | apply ChO.both | (apply ChO.bind;intro _)
theorem zgy:Cn (zed):=fun g h hg x=>zf8  (fun κ i j data_1=>g κ (i,j,data_1)) (fun i j data_1=>h (i,j,data_1)) (fun i j data_1=>hg (i,j,data_1))  x.1 x.2.1 x.2.2
theorem zd0   (i:Int) (j:Int) (data_1:Tp8):zbL i j data_1=zaF (zbL) i j data_1:=zaH (zgy ) (i,j,data_1)

def zan (b:Int) (j:Int) (r3:(Int->Int->Tp8->Option Tp4)) (i_2:Int) (r20:Int->Tp8->Option Tp4) (j_2:Int) (data_4:Tp8):Option Tp4:=
  if (decide (j_2 < b))=true then
  G (0<=j_2/\j_2 < (data_4.length:Int)) (
  G ((j_2).toNat < data_4.length) (
  G (fits (j_2 - (1:Int))) (
  G (0<=j_2 - (1:Int)/\j_2 - (1:Int) < (data_4.length:Int)) (
  G ((j_2 - (1:Int)).toNat < data_4.length) (
  (zbB (ix data_4 j_2) (ix data_4 (j_2 - (1:Int)))).bind (fun y'_2=>
  if (!(decide (y'_2 < (0:Int))))=true then
  G (fits (j+(1:Int))) (
  r3 i_2 (j+(1:Int)) data_4) else
  G (fits (j_2 - (1:Int))) (
  G (fits (j_2 - (1:Int))) (
  G (0<=j_2 - (1:Int)/\j_2 - (1:Int) < (data_4.length:Int)) (
  G ((j_2 - (1:Int)).toNat < data_4.length) (
  G (0<=j_2/\j_2 < (data_4.length:Int)) (
  G ((j_2).toNat < data_4.length) (
  G (0<=j_2/\j_2 < (data_4.length:Int)) (
  G ((j_2).toNat < data_4.length) (
  G (0<=j_2 - (1:Int)/\j_2 - (1:Int) < ((data_4.set (j_2).toNat (ix data_4 (j_2 - (1:Int)))).length:Int)) (
  G ((j_2 - (1:Int)).toNat < (data_4.set (j_2).toNat (ix data_4 (j_2 - (1:Int)))).length) (
  G (fits (j_2+(1:Int))) (
  r20 (j_2+(1:Int)) ((data_4.set (j_2).toNat (ix data_4 (j_2 - (1:Int)))).set (j_2 - (1:Int)).toNat (ix data_4 j_2))))))))))))))))))) else
  G (fits (j+(1:Int))) (
  r3 i_2 (j+(1:Int)) data_4)
def zcq (b:Int) (j:Int) (r3:(Int->Int->Tp8->Option Tp4)) (i_2:Int):(Int×Tp8->Option Tp4)->Int×Tp8->Option Tp4:=
  fun rec x=>zan b j r3 i_2 (fun j_2 data_4=>rec (j_2,data_4)) x.1 x.2
def zar (b:Int) (j:Int) (r3:(Int->Int->Tp8->Option Tp4)) (i_2:Int) (j_2:Int) (data_4:Tp8):Option Tp4:=LFix (zcq b j r3 i_2 ) (j_2,data_4)
def zaf (b:Int) (j:Int) (r3:(Int->Int->Tp8->Option Tp4)) (i_2:Int) (data_3:Tp8):Option Tp4:=
  G (fits (b - i_2)) (
  if (decide ((2:Int)<=(b - i_2)))=true then
  G (fits (i_2+(1:Int))) (
  zar b j r3 i_2 (i_2+(1:Int)) data_3) else
  G (fits (j+(1:Int))) (
  r3 i_2 (j+(1:Int)) data_3))
def zam (b:Int) (j:Int) (r3:(Int->Int->Tp8->Option Tp4)) (i_2:Int) (r14:Int->Tp8->Option Tp4) (j_1:Int) (data_2:Tp8):Option Tp4:=
  if (decide ((1:Int)<=j_1))=true then
  G (0<=j_1/\j_1 < (data_2.length:Int)) (
  G ((j_1).toNat < data_2.length) (
  G (fits (j_1 - (1:Int))) (
  G (0<=j_1 - (1:Int)/\j_1 - (1:Int) < (data_2.length:Int)) (
  G ((j_1 - (1:Int)).toNat < data_2.length) (
  (zbB (ix data_2 j_1) (ix data_2 (j_1 - (1:Int)))).bind (fun y'_1=>
  if (!(decide (y'_1 < (0:Int))))=true then
  zaf b j r3 i_2 data_2 else
  G (fits (j_1 - (1:Int))) (
  G (fits (j_1 - (1:Int))) (
  G (0<=j_1 - (1:Int)/\j_1 - (1:Int) < (data_2.length:Int)) (
  G ((j_1 - (1:Int)).toNat < data_2.length) (
  G (0<=j_1/\j_1 < (data_2.length:Int)) (
  G ((j_1).toNat < data_2.length) (
  G (0<=j_1/\j_1 < (data_2.length:Int)) (
  G ((j_1).toNat < data_2.length) (
  G (0<=j_1 - (1:Int)/\j_1 - (1:Int) < ((data_2.set (j_1).toNat (ix data_2 (j_1 - (1:Int)))).length:Int)) (
  G ((j_1 - (1:Int)).toNat < (data_2.set (j_1).toNat (ix data_2 (j_1 - (1:Int)))).length) (
  G (fits (j_1 - (1:Int))) (
  r14 (j_1 - (1:Int)) ((data_2.set (j_1).toNat (ix data_2 (j_1 - (1:Int)))).set (j_1 - (1:Int)).toNat (ix data_2 j_1))))))))))))))))))) else
  zaf b j r3 i_2 data_2
def zcp (b:Int) (j:Int) (r3:(Int->Int->Tp8->Option Tp4)) (i_2:Int):(Int×Tp8->Option Tp4)->Int×Tp8->Option Tp4:=
  fun rec x=>zam b j r3 i_2 (fun j_1 data_2=>rec (j_1,data_2)) x.1 x.2
def zaq (b:Int) (j:Int) (r3:(Int->Int->Tp8->Option Tp4)) (i_2:Int) (j_1:Int) (data_2:Tp8):Option Tp4:=LFix (zcp b j r3 i_2 ) (j_1,data_2)
def zas (a:Int) (b:Int) (j:Int) (data_1:Tp8) (r3:(Int->Int->Tp8->Option Tp4)) (i_2:Int):Option Tp4:=
  if (decide (i_2=b))=true then
  some (true,data_1) else
  G (fits (b - a)) (
  if (decide ((b - a) < (50:Int)))=true then
  some (false,data_1) else
  G (fits (i_2 - (1:Int))) (
  G (fits (i_2 - (1:Int))) (
  G (0<=i_2 - (1:Int)/\i_2 - (1:Int) < (data_1.length:Int)) (
  G ((i_2 - (1:Int)).toNat < data_1.length) (
  G (0<=i_2/\i_2 < (data_1.length:Int)) (
  G ((i_2).toNat < data_1.length) (
  G (0<=i_2/\i_2 < (data_1.length:Int)) (
  G ((i_2).toNat < data_1.length) (
  G (0<=i_2 - (1:Int)/\i_2 - (1:Int) < ((data_1.set (i_2).toNat (ix data_1 (i_2 - (1:Int)))).length:Int)) (
  G ((i_2 - (1:Int)).toNat < (data_1.set (i_2).toNat (ix data_1 (i_2 - (1:Int)))).length) (
  G (fits (i_2 - a)) (
  if (decide ((2:Int)<=(i_2 - a)))=true then
  G (fits (i_2 - (1:Int))) (
  zaq b j r3 i_2 (i_2 - (1:Int)) ((data_1.set (i_2).toNat (ix data_1 (i_2 - (1:Int)))).set (i_2 - (1:Int)).toNat (ix data_1 i_2))) else
  zaf b j r3 i_2 ((data_1.set (i_2).toNat (ix data_1 (i_2 - (1:Int)))).set (i_2 - (1:Int)).toNat (ix data_1 i_2))))))))))))))
def zap (a:Int) (b:Int) (j:Int) (data_1:Tp8) (r3:(Int->Int->Tp8->Option Tp4)) (r5:Int->Option Tp4) (i_1:Int):Option Tp4:=
  if (decide (i_1 < b))=true then
  G (0<=i_1/\i_1 < (data_1.length:Int)) (
  G ((i_1).toNat < data_1.length) (
  G (fits (i_1 - (1:Int))) (
  G (0<=i_1 - (1:Int)/\i_1 - (1:Int) < (data_1.length:Int)) (
  G ((i_1 - (1:Int)).toNat < data_1.length) (
  (zbB (ix data_1 i_1) (ix data_1 (i_1 - (1:Int)))).bind (fun y'=>
  if (!(decide (y' < (0:Int))))=true then
  G (fits (i_1+(1:Int))) (
  r5 (i_1+(1:Int))) else
  zas a b j data_1 r3 i_1)))))) else
  zas a b j data_1 r3 i_1
def zcC (a:Int) (b:Int) (j:Int) (data_1:Tp8) (r3:(Int->Int->Tp8->Option Tp4)):(Int->Option Tp4)->Int->Option Tp4:=
  fun rec x=>zap a b j data_1 r3 (fun i_1=>rec i_1) x
def zat (a:Int) (b:Int) (j:Int) (data_1:Tp8) (r3:(Int->Int->Tp8->Option Tp4)) (i_1:Int):Option Tp4:=LFix (zcC a b j data_1 r3 ) i_1
def zao (a:Int) (b:Int) (r3:Int->Int->Tp8->Option Tp4) (i:Int) (j:Int) (data_1:Tp8):Option Tp4:=
  if (decide (j < (5:Int)))=true then
  zat a b j data_1 r3 i else
  some (false,data_1)
def zcB (a:Int) (b:Int):(Int×Int×Tp8->Option Tp4)->Int×Int×Tp8->Option Tp4:=
  fun rec x=>zao a b (fun i j data_1=>rec (i,j,data_1)) x.1 x.2.1 x.2.2
def zaO (a:Int) (b:Int) (i:Int) (j:Int) (data_1:Tp8):Option Tp4:=LFix (zcB a b ) (i,j,data_1)
def zbj (a:Int) (b:Int) (data:Tp8):Option Tp4:=
  G (fits (a+(1:Int))) (
  zaO a b (a+(1:Int)) (0:Int) data)
theorem zb4 (r3:Nat->Int->Int->Tp8->Option Tp4) (r3':Int->Int->Tp8->Option Tp4) (h_r3:∀ a0 a1 a2,ChO (fun κ=>r3 κ a0 a1 a2) (r3' a0 a1 a2)) (r20:Nat->Int->Tp8->Option Tp4) (r20':Int->Tp8->Option Tp4) (h_r20:∀ a0 a1,ChO (fun κ=>r20 κ a0 a1) (r20' a0 a1)) (b:Int) (j:Int) (i_2:Int) (j_2:Int) (data_4:Tp8):ChO (fun κ=>zan b j (r3 κ) i_2 (r20 κ) j_2 data_4) (zan b j r3' i_2 r20' j_2 data_4):=by
  unfold zan
  repeat' with_reducible first | exact ChO.const _ | exact h_r3 _ _ _ | exact h_r20 _ _ | apply ChO.ite | apply ChO.G | apply ChO.both | (apply ChO.bind;intro _)
theorem zbq (r3:Int->Int->Tp8->Option Tp4) (b:Int) (j:Int) (i_2:Int):Cn (zcq b j r3 i_2):=fun g h hg x=>zb4 (fun _=>r3) r3 (fun _ _ _=>ChO.const _) (fun κ j_2 data_4=>g κ (j_2,data_4)) (fun j_2 data_4=>h (j_2,data_4)) (fun j_2 data_4=>hg (j_2,data_4)) b j i_2 x.1 x.2
theorem zcl (r3:Int->Int->Tp8->Option Tp4) (b:Int) (j:Int) (i_2:Int) (j_2:Int) (data_4:Tp8):zar b j r3 i_2 j_2 data_4=zan b j r3 i_2 (zar b j r3 i_2) j_2 data_4:=zaH (zbq r3 b j i_2) (j_2,data_4)
theorem zaA (r3:Nat->Int->Int->Tp8->Option Tp4) (r3':Int->Int->Tp8->Option Tp4) (h_r3:∀ a0 a1 a2,ChO (fun κ=>r3 κ a0 a1 a2) (r3' a0 a1 a2)) (b:Int) (j:Int) (i_2:Int) (j_2:Int) (data_4:Tp8):ChO (fun κ=>zar b j (r3 κ) i_2 j_2 data_4) (zar b j r3' i_2 j_2 data_4):=by
  unfold zar
  exact zfk (fun κ=>(zbq (r3 κ) b j i_2).mono) (zbq r3' b j i_2).mono (fun g h hg x=>zb4 r3 r3' h_r3 (fun κ j_2 data_4=>g κ (j_2,data_4)) (fun j_2 data_4=>h (j_2,data_4)) (fun j_2 data_4=>hg (j_2,data_4)) b j i_2 x.1 x.2) _
theorem za1 (r3:Nat->Int->Int->Tp8->Option Tp4) (r3':Int->Int->Tp8->Option Tp4) (h_r3:∀ a0 a1 a2,ChO (fun κ=>r3 κ a0 a1 a2) (r3' a0 a1 a2)) (b:Int) (j:Int) (i_2:Int) (data_3:Tp8):ChO (fun κ=>zaf b j (r3 κ) i_2 data_3) (zaf b j r3' i_2 data_3):=by
  unfold zaf
  repeat' with_reducible first | exact ChO.const _ | exact h_r3 _ _ _ | (apply zaA<;>assumption) | apply ChO.ite | apply ChO.G | apply ChO.both | (apply ChO.bind;intro _)
theorem zb3 (r3:Nat->Int->Int->Tp8->Option Tp4) (r3':Int->Int->Tp8->Option Tp4) (h_r3:∀ a0 a1 a2,ChO (fun κ=>r3 κ a0 a1 a2) (r3' a0 a1 a2)) (r14:Nat->Int->Tp8->Option Tp4) (r14':Int->Tp8->Option Tp4) (h_r14:∀ a0 a1,ChO (fun κ=>r14 κ a0 a1) (r14' a0 a1)) (b:Int) (j:Int) (i_2:Int) (j_1:Int) (data_2:Tp8):ChO (fun κ=>zam b j (r3 κ) i_2 (r14 κ) j_1 data_2) (zam b j r3' i_2 r14' j_1 data_2):=by
  unfold zam
  repeat' with_reducible first | exact ChO.const _ | exact h_r3 _ _ _ | exact h_r14 _ _ | (apply zaA<;>assumption) | (apply za1<;>assumption) | apply ChO.ite | apply ChO.G | apply ChO.both | (apply ChO.bind;intro _)
theorem zbp (r3:Int->Int->Tp8->Option Tp4) (b:Int) (j:Int) (i_2:Int):Cn (zcp b j r3 i_2):=fun g h hg x=>zb3 (fun _=>r3) r3 (fun _ _ _=>ChO.const _) (fun κ j_1 data_2=>g κ (j_1,data_2)) (fun j_1 data_2=>h (j_1,data_2)) (fun j_1 data_2=>hg (j_1,data_2)) b j i_2 x.1 x.2
theorem zck (r3:Int->Int->Tp8->Option Tp4) (b:Int) (j:Int) (i_2:Int) (j_1:Int) (data_2:Tp8):zaq b j r3 i_2 j_1 data_2=zam b j r3 i_2 (zaq b j r3 i_2) j_1 data_2:=zaH (zbp r3 b j i_2) (j_1,data_2)
theorem zbo (r3:Nat->Int->Int->Tp8->Option Tp4) (r3':Int->Int->Tp8->Option Tp4) (h_r3:∀ a0 a1 a2,ChO (fun κ=>r3 κ a0 a1 a2) (r3' a0 a1 a2)) (b:Int) (j:Int) (i_2:Int) (j_1:Int) (data_2:Tp8):ChO (fun κ=>zaq b j (r3 κ) i_2 j_1 data_2) (zaq b j r3' i_2 j_1 data_2):=by
  unfold zaq
  exact zfk (fun κ=>(zbp (r3 κ) b j i_2).mono) (zbp r3' b j i_2).mono (fun g h hg x=>zb3 r3 r3' h_r3 (fun κ j_1 data_2=>g κ (j_1,data_2)) (fun j_1 data_2=>h (j_1,data_2)) (fun j_1 data_2=>hg (j_1,data_2)) b j i_2 x.1 x.2) _
theorem zco (r3:Nat->Int->Int->Tp8->Option Tp4) (r3':Int->Int->Tp8->Option Tp4) (h_r3:∀ a0 a1 a2,ChO (fun κ=>r3 κ a0 a1 a2) (r3' a0 a1 a2)) (a:Int) (b:Int) (j:Int) (data_1:Tp8) (i_2:Int):ChO (fun κ=>zas a b j data_1 (r3 κ) i_2) (zas a b j data_1 r3' i_2):=by
  unfold zas
  repeat' with_reducible first | exact ChO.const _ | exact h_r3 _ _ _ | (apply zaA<;>assumption) | (apply za1<;>assumption) | (apply zbo<;>assumption) | apply ChO.ite | apply ChO.G | apply ChO.both | (apply ChO.bind;intro _)
theorem zcb (r3:Nat->Int->Int->Tp8->Option Tp4) (r3':Int->Int->Tp8->Option Tp4) (h_r3:∀ a0 a1 a2,ChO (fun κ=>r3 κ a0 a1 a2) (r3' a0 a1 a2)) (r5:Nat->Int->Option Tp4) (r5':Int->Option Tp4) (h_r5:∀ a0,ChO (fun κ=>r5 κ a0) (r5' a0)) (a:Int) (b:Int) (j:Int) (data_1:Tp8) (i_1:Int):ChO (fun κ=>zap a b j data_1 (r3 κ) (r5 κ) i_1) (zap a b j data_1 r3' r5' i_1):=by
  unfold zap
  repeat' with_reducible first | exact ChO.const _ | exact h_r3 _ _ _ | exact h_r5 _ | (apply zaA<;>assumption) | (apply za1<;>assumption) | (apply zbo<;>assumption) | (apply zco<;>assumption) | apply ChO.ite | apply ChO.G | apply ChO.both | (apply ChO.bind;intro _)
theorem zbu (r3:Int->Int->Tp8->Option Tp4) (a:Int) (b:Int) (j:Int) (data_1:Tp8):Cn (zcC a b j data_1 r3):=fun g h hg x=>zcb (fun _=>r3) r3 (fun _ _ _=>ChO.const _) (fun κ i_1=>g κ i_1) (fun i_1=>h i_1) (fun i_1=>hg i_1) a b j data_1 x
theorem zcs (r3:Int->Int->Tp8->Option Tp4) (a:Int) (b:Int) (j:Int) (data_1:Tp8) (i_1:Int):zat a b j data_1 r3 i_1=zap a b j data_1 r3 (zat a b j data_1 r3) i_1:=zaH (zbu r3 a b j data_1) i_1
theorem zeW (r3:Nat->Int->Int->Tp8->Option Tp4) (r3':Int->Int->Tp8->Option Tp4) (h_r3:∀ a0 a1 a2,ChO (fun κ=>r3 κ a0 a1 a2) (r3' a0 a1 a2)) (a:Int) (b:Int) (j:Int) (data_1:Tp8) (i_1:Int):ChO (fun κ=>zat a b j data_1 (r3 κ) i_1) (zat a b j data_1 r3' i_1):=by
  unfold zat
  exact zfk (fun κ=>(zbu (r3 κ) a b j data_1).mono) (zbu r3' a b j data_1).mono (fun g h hg x=>zcb r3 r3' h_r3 (fun κ i_1=>g κ i_1) (fun i_1=>h i_1) (fun i_1=>hg i_1) a b j data_1 x) _
theorem zeC (r3:Nat->Int->Int->Tp8->Option Tp4) (r3':Int->Int->Tp8->Option Tp4) (h_r3:∀ a0 a1 a2,ChO (fun κ=>r3 κ a0 a1 a2) (r3' a0 a1 a2)) (a:Int) (b:Int) (i:Int) (j:Int) (data_1:Tp8):ChO (fun κ=>zao a b (r3 κ) i j data_1) (zao a b r3' i j data_1):=by
  unfold zao
  repeat' with_reducible first | exact ChO.const _ | exact h_r3 _ _ _ | (apply zaA<;>assumption) | (apply za1<;>assumption) | (apply zbo<;>assumption) | (apply zco<;>assumption) | (apply zeW<;>assumption) | apply ChO.ite | apply ChO.G | apply ChO.both | (apply ChO.bind;intro _)
theorem zeV  (a:Int) (b:Int):Cn (zcB a b):=fun g h hg x=>zeC  (fun κ i j data_1=>g κ (i,j,data_1)) (fun i j data_1=>h (i,j,data_1)) (fun i j data_1=>hg (i,j,data_1)) a b x.1 x.2.1 x.2.2
theorem zcr  (a:Int) (b:Int) (i:Int) (j:Int) (data_1:Tp8):zaO a b i j data_1=zao a b (zaO a b) i j data_1:=zaH (zeV a b) (i,j,data_1)

def zaC (data_1:Tp8) (r3o:(Int->Int->Tp8->Option Tp5)) (i_2:Int) (j_2:Int):Option Tp5:=
  if (decide (j_2 < i_2))=true then
  some (i_2,data_1) else
  G (0<=j_2/\j_2 < (data_1.length:Int)) (
  G ((j_2).toNat < data_1.length) (
  G (0<=i_2/\i_2 < (data_1.length:Int)) (
  G ((i_2).toNat < data_1.length) (
  G (0<=i_2/\i_2 < (data_1.length:Int)) (
  G ((i_2).toNat < data_1.length) (
  G (0<=j_2/\j_2 < ((data_1.set (i_2).toNat (ix data_1 j_2)).length:Int)) (
  G ((j_2).toNat < (data_1.set (i_2).toNat (ix data_1 j_2)).length) (
  G (fits (i_2+(1:Int))) (
  G (fits (j_2 - (1:Int))) (
  r3o (i_2+(1:Int)) (j_2 - (1:Int)) ((data_1.set (i_2).toNat (ix data_1 j_2)).set (j_2).toNat (ix data_1 i_2))))))))))))
def zaw (a:Int) (data_1:Tp8) (r3o:(Int->Int->Tp8->Option Tp5)) (i_2:Int) (r5:Int->Option Tp5) (j_1:Int):Option Tp5:=
  if (decide (i_2<=j_1))=true then
  G (0<=a/\a < (data_1.length:Int)) (
  G ((a).toNat < data_1.length) (
  G (0<=j_1/\j_1 < (data_1.length:Int)) (
  G ((j_1).toNat < data_1.length) (
  (zbB (ix data_1 a) (ix data_1 j_1)).bind (fun y'_1=>
  if (decide (y'_1 < (0:Int)))=true then
  G (fits (j_1 - (1:Int))) (
  r5 (j_1 - (1:Int))) else
  zaC data_1 r3o i_2 j_1))))) else
  zaC data_1 r3o i_2 j_1
def zdA (a:Int) (data_1:Tp8) (r3o:(Int->Int->Tp8->Option Tp5)) (i_2:Int):(Int->Option Tp5)->Int->Option Tp5:=
  fun rec x=>zaw a data_1 r3o i_2 (fun j_1=>rec j_1) x
def zaE (a:Int) (data_1:Tp8) (r3o:(Int->Int->Tp8->Option Tp5)) (i_2:Int) (j_1:Int):Option Tp5:=LFix (zdA a data_1 r3o i_2 ) j_1
def zaB (a:Int) (j:Int) (data_1:Tp8) (r3o:(Int->Int->Tp8->Option Tp5)) (i_2:Int):Option Tp5:=
  zaE a data_1 r3o i_2 j
def zav (a:Int) (j:Int) (data_1:Tp8) (r3o:(Int->Int->Tp8->Option Tp5)) (r3:Int->Option Tp5) (i_1:Int):Option Tp5:=
  if (decide (i_1<=j))=true then
  G (0<=a/\a < (data_1.length:Int)) (
  G ((a).toNat < data_1.length) (
  G (0<=i_1/\i_1 < (data_1.length:Int)) (
  G ((i_1).toNat < data_1.length) (
  (zbB (ix data_1 a) (ix data_1 i_1)).bind (fun y'=>
  if (!(decide (y' < (0:Int))))=true then
  G (fits (i_1+(1:Int))) (
  r3 (i_1+(1:Int))) else
  zaB a j data_1 r3o i_1))))) else
  zaB a j data_1 r3o i_1
def zdz (a:Int) (j:Int) (data_1:Tp8) (r3o:(Int->Int->Tp8->Option Tp5)):(Int->Option Tp5)->Int->Option Tp5:=
  fun rec x=>zav a j data_1 r3o (fun i_1=>rec i_1) x
def zaD (a:Int) (j:Int) (data_1:Tp8) (r3o:(Int->Int->Tp8->Option Tp5)) (i_1:Int):Option Tp5:=LFix (zdz a j data_1 r3o ) i_1
def zaG (a:Int) (r3o:Int->Int->Tp8->Option Tp5) (i:Int) (j:Int) (data_1:Tp8):Option Tp5:=
  zaD a j data_1 r3o i
def zdo (a:Int):(Int×Int×Tp8->Option Tp5)->Int×Int×Tp8->Option Tp5:=
  fun rec x=>zaG a (fun i j data_1=>rec (i,j,data_1)) x.1 x.2.1 x.2.2
def zbv (a:Int) (i:Int) (j:Int) (data_1:Tp8):Option Tp5:=LFix (zdo a ) (i,j,data_1)
def zbQ (a:Int) (b:Int) (pivot:Int) (data:Tp8):Option Tp5:=
  G (0<=pivot/\pivot < (data.length:Int)) (
  G ((pivot).toNat < data.length) (
  G (0<=a/\a < (data.length:Int)) (
  G ((a).toNat < data.length) (
  G (0<=a/\a < (data.length:Int)) (
  G ((a).toNat < data.length) (
  G (0<=pivot/\pivot < ((data.set (a).toNat (ix data pivot)).length:Int)) (
  G ((pivot).toNat < (data.set (a).toNat (ix data pivot)).length) (
  G (fits (a+(1:Int))) (
  G (fits (b - (1:Int))) (
  zbv a (a+(1:Int)) (b - (1:Int)) ((data.set (a).toNat (ix data pivot)).set (pivot).toNat (ix data a))))))))))))
theorem zbk (r3o:Nat->Int->Int->Tp8->Option Tp5) (r3o':Int->Int->Tp8->Option Tp5) (h_r3o:∀ a0 a1 a2,ChO (fun κ=>r3o κ a0 a1 a2) (r3o' a0 a1 a2)) (data_1:Tp8) (i_2:Int) (j_2:Int):ChO (fun κ=>zaC data_1 (r3o κ) i_2 j_2) (zaC data_1 r3o' i_2 j_2):=by
  unfold zaC
  repeat' with_reducible first | exact ChO.const _ | exact h_r3o _ _ _ | apply ChO.ite | apply ChO.G | apply ChO.both | (apply ChO.bind;intro _)
theorem zc4 (r3o:Nat->Int->Int->Tp8->Option Tp5) (r3o':Int->Int->Tp8->Option Tp5) (h_r3o:∀ a0 a1 a2,ChO (fun κ=>r3o κ a0 a1 a2) (r3o' a0 a1 a2)) (r5:Nat->Int->Option Tp5) (r5':Int->Option Tp5) (h_r5:∀ a0,ChO (fun κ=>r5 κ a0) (r5' a0)) (a:Int) (data_1:Tp8) (i_2:Int) (j_1:Int):ChO (fun κ=>zaw a data_1 (r3o κ) i_2 (r5 κ) j_1) (zaw a data_1 r3o' i_2 r5' j_1):=by
  unfold zaw
  repeat' with_reducible first | exact ChO.const _ | exact h_r3o _ _ _ | exact h_r5 _ | (apply zbk<;>assumption) | apply ChO.ite | apply ChO.G | apply ChO.both | (apply ChO.bind;intro _)
theorem zbU (r3o:Int->Int->Tp8->Option Tp5) (a:Int) (data_1:Tp8) (i_2:Int):Cn (zdA a data_1 r3o i_2):=fun g h hg x=>zc4 (fun _=>r3o) r3o (fun _ _ _=>ChO.const _) (fun κ j_1=>g κ j_1) (fun j_1=>h j_1) (fun j_1=>hg j_1) a data_1 i_2 x
theorem zdp (r3o:Int->Int->Tp8->Option Tp5) (a:Int) (data_1:Tp8) (i_2:Int) (j_1:Int):zaE a data_1 r3o i_2 j_1=zaw a data_1 r3o i_2 (zaE a data_1 r3o i_2) j_1:=zaH (zbU r3o a data_1 i_2) j_1
theorem zbT (r3o:Nat->Int->Int->Tp8->Option Tp5) (r3o':Int->Int->Tp8->Option Tp5) (h_r3o:∀ a0 a1 a2,ChO (fun κ=>r3o κ a0 a1 a2) (r3o' a0 a1 a2)) (a:Int) (data_1:Tp8) (i_2:Int) (j_1:Int):ChO (fun κ=>zaE a data_1 (r3o κ) i_2 j_1) (zaE a data_1 r3o' i_2 j_1):=by
  unfold zaE
  exact zfk (fun κ=>(zbU (r3o κ) a data_1 i_2).mono) (zbU r3o' a data_1 i_2).mono (fun g h hg x=>zc4 r3o r3o' h_r3o (fun κ j_1=>g κ j_1) (fun j_1=>h j_1) (fun j_1=>hg j_1) a data_1 i_2 x) _
theorem zdm (r3o:Nat->Int->Int->Tp8->Option Tp5) (r3o':Int->Int->Tp8->Option Tp5) (h_r3o:∀ a0 a1 a2,ChO (fun κ=>r3o κ a0 a1 a2) (r3o' a0 a1 a2)) (a:Int) (j:Int) (data_1:Tp8) (i_2:Int):ChO (fun κ=>zaB a j data_1 (r3o κ) i_2) (zaB a j data_1 r3o' i_2):=by
  unfold zaB
  repeat' with_reducible first | exact ChO.const _ | exact h_r3o _ _ _ | (apply zbk<;>assumption) | (apply zbT<;>assumption) | apply ChO.ite | apply ChO.G | apply ChO.both | (apply ChO.bind;intro _)
theorem zc3 (r3o:Nat->Int->Int->Tp8->Option Tp5) (r3o':Int->Int->Tp8->Option Tp5) (h_r3o:∀ a0 a1 a2,ChO (fun κ=>r3o κ a0 a1 a2) (r3o' a0 a1 a2)) (r3:Nat->Int->Option Tp5) (r3':Int->Option Tp5) (h_r3:∀ a0,ChO (fun κ=>r3 κ a0) (r3' a0)) (a:Int) (j:Int) (data_1:Tp8) (i_1:Int):ChO (fun κ=>zav a j data_1 (r3o κ) (r3 κ) i_1) (zav a j data_1 r3o' r3' i_1):=by
  unfold zav
  repeat' with_reducible first | exact ChO.const _ | exact h_r3o _ _ _ | exact h_r3 _ | (apply zbk<;>assumption) | (apply zbT<;>assumption) | (apply zdm<;>assumption) | apply ChO.ite | apply ChO.G | apply ChO.both | (apply ChO.bind;intro _)
theorem zbS (r3o:Int->Int->Tp8->Option Tp5) (a:Int) (j:Int) (data_1:Tp8):Cn (zdz a j data_1 r3o):=fun g h hg x=>zc3 (fun _=>r3o) r3o (fun _ _ _=>ChO.const _) (fun κ i_1=>g κ i_1) (fun i_1=>h i_1) (fun i_1=>hg i_1) a j data_1 x
theorem zdn (r3o:Int->Int->Tp8->Option Tp5) (a:Int) (j:Int) (data_1:Tp8) (i_1:Int):zaD a j data_1 r3o i_1=zav a j data_1 r3o (zaD a j data_1 r3o) i_1:=zaH (zbS r3o a j data_1) i_1
theorem zf7 (r3o:Nat->Int->Int->Tp8->Option Tp5) (r3o':Int->Int->Tp8->Option Tp5) (h_r3o:∀ a0 a1 a2,ChO (fun κ=>r3o κ a0 a1 a2) (r3o' a0 a1 a2)) (a:Int) (j:Int) (data_1:Tp8) (i_1:Int):ChO (fun κ=>zaD a j data_1 (r3o κ) i_1) (zaD a j data_1 r3o' i_1):=by
  unfold zaD
  exact zfk (fun κ=>(zbS (r3o κ) a j data_1).mono) (zbS r3o' a j data_1).mono (fun g h hg x=>zc3 r3o r3o' h_r3o (fun κ i_1=>g κ i_1) (fun i_1=>h i_1) (fun i_1=>hg i_1) a j data_1 x) _
theorem zfm (r3o:Nat->Int->Int->Tp8->Option Tp5) (r3o':Int->Int->Tp8->Option Tp5) (h_r3o:∀ a0 a1 a2,ChO (fun κ=>r3o κ a0 a1 a2) (r3o' a0 a1 a2)) (a:Int) (i:Int) (j:Int) (data_1:Tp8):ChO (fun κ=>zaG a (r3o κ) i j data_1) (zaG a r3o' i j data_1):=by
  unfold zaG
  repeat' with_reducible first | exact ChO.const _ | exact h_r3o _ _ _ | (apply zbk<;>assumption) | (apply zbT<;>assumption) | (apply zdm<;>assumption) | (apply zf7<;>assumption) | apply ChO.ite | apply ChO.G | apply ChO.both | (apply ChO.bind;intro _)
theorem zfO  (a:Int):Cn (zdo a):=fun g h hg x=>zfm  (fun κ i j data_1=>g κ (i,j,data_1)) (fun i j data_1=>h (i,j,data_1)) (fun i j data_1=>hg (i,j,data_1)) a x.1 x.2.1 x.2.2
theorem zfP  (a:Int) (i:Int) (j:Int) (data_1:Tp8):zbv a i j data_1=zaG a (zbv a) i j data_1:=zaH (zfO a) (i,j,data_1)

def zaW (a:Int) (data_1:Tp8) (r13o:(Int->Int->Tp8->Option Tp3)) (i_4:Int) (j_4:Int):Option Tp3:=
  if (decide (j_4 < i_4))=true then
  G (0<=a/\a < (data_1.length:Int)) (
  G ((a).toNat < data_1.length) (
  G (0<=j_4/\j_4 < (data_1.length:Int)) (
  G ((j_4).toNat < data_1.length) (
  G (0<=j_4/\j_4 < (data_1.length:Int)) (
  G ((j_4).toNat < data_1.length) (
  G (0<=a/\a < ((data_1.set (j_4).toNat (ix data_1 a)).length:Int)) (
  G ((a).toNat < (data_1.set (j_4).toNat (ix data_1 a)).length) (
  some (j_4,false,(data_1.set (j_4).toNat (ix data_1 a)).set (a).toNat (ix data_1 j_4)))))))))) else
  G (0<=j_4/\j_4 < (data_1.length:Int)) (
  G ((j_4).toNat < data_1.length) (
  G (0<=i_4/\i_4 < (data_1.length:Int)) (
  G ((i_4).toNat < data_1.length) (
  G (0<=i_4/\i_4 < (data_1.length:Int)) (
  G ((i_4).toNat < data_1.length) (
  G (0<=j_4/\j_4 < ((data_1.set (i_4).toNat (ix data_1 j_4)).length:Int)) (
  G ((j_4).toNat < (data_1.set (i_4).toNat (ix data_1 j_4)).length) (
  G (fits (i_4+(1:Int))) (
  G (fits (j_4 - (1:Int))) (
  r13o (i_4+(1:Int)) (j_4 - (1:Int)) ((data_1.set (i_4).toNat (ix data_1 j_4)).set (j_4).toNat (ix data_1 i_4))))))))))))
def zaM (a:Int) (data_1:Tp8) (r13o:(Int->Int->Tp8->Option Tp3)) (i_4:Int) (r15:Int->Option Tp3) (j_3:Int):Option Tp3:=
  if (decide (i_4<=j_3))=true then
  G (0<=j_3/\j_3 < (data_1.length:Int)) (
  G ((j_3).toNat < data_1.length) (
  G (0<=a/\a < (data_1.length:Int)) (
  G ((a).toNat < data_1.length) (
  (zbB (ix data_1 j_3) (ix data_1 a)).bind (fun y'_3=>
  if (!(decide (y'_3 < (0:Int))))=true then
  G (fits (j_3 - (1:Int))) (
  r15 (j_3 - (1:Int))) else
  zaW a data_1 r13o i_4 j_3))))) else
  zaW a data_1 r13o i_4 j_3
def zeE (a:Int) (data_1:Tp8) (r13o:(Int->Int->Tp8->Option Tp3)) (i_4:Int):(Int->Option Tp3)->Int->Option Tp3:=
  fun rec x=>zaM a data_1 r13o i_4 (fun j_3=>rec j_3) x
def zaY (a:Int) (data_1:Tp8) (r13o:(Int->Int->Tp8->Option Tp3)) (i_4:Int) (j_3:Int):Option Tp3:=LFix (zeE a data_1 r13o i_4 ) j_3
def zaV (a:Int) (j_2:Int) (data_1:Tp8) (r13o:(Int->Int->Tp8->Option Tp3)) (i_4:Int):Option Tp3:=
  zaY a data_1 r13o i_4 j_2
def zaL (a:Int) (j_2:Int) (data_1:Tp8) (r13o:(Int->Int->Tp8->Option Tp3)) (r13:Int->Option Tp3) (i_3:Int):Option Tp3:=
  if (decide (i_3<=j_2))=true then
  G (0<=i_3/\i_3 < (data_1.length:Int)) (
  G ((i_3).toNat < data_1.length) (
  G (0<=a/\a < (data_1.length:Int)) (
  G ((a).toNat < data_1.length) (
  (zbB (ix data_1 i_3) (ix data_1 a)).bind (fun y'_2=>
  if (decide (y'_2 < (0:Int)))=true then
  G (fits (i_3+(1:Int))) (
  r13 (i_3+(1:Int))) else
  zaV a j_2 data_1 r13o i_3))))) else
  zaV a j_2 data_1 r13o i_3
def zeD (a:Int) (j_2:Int) (data_1:Tp8) (r13o:(Int->Int->Tp8->Option Tp3)):(Int->Option Tp3)->Int->Option Tp3:=
  fun rec x=>zaL a j_2 data_1 r13o (fun i_3=>rec i_3) x
def zaX (a:Int) (j_2:Int) (data_1:Tp8) (r13o:(Int->Int->Tp8->Option Tp3)) (i_3:Int):Option Tp3:=LFix (zeD a j_2 data_1 r13o ) i_3
def za3 (a:Int) (r13o:Int->Int->Tp8->Option Tp3) (i_2:Int) (j_2:Int) (data_1:Tp8):Option Tp3:=
  zaX a j_2 data_1 r13o i_2
def zel (a:Int):(Int×Int×Tp8->Option Tp3)->Int×Int×Tp8->Option Tp3:=
  fun rec x=>za3 a (fun i_2 j_2 data_1=>rec (i_2,j_2,data_1)) x.1 x.2.1 x.2.2
def zbP (a:Int) (i_2:Int) (j_2:Int) (data_1:Tp8):Option Tp3:=LFix (zel a ) (i_2,j_2,data_1)
def zcg (a:Int) (pivot:Int) (data:Tp8) (i_1:Int) (j_1:Int):Option Tp3:=
  if (decide (j_1 < i_1))=true then
  G (0<=a/\a < (((data.set (a).toNat (ix data pivot)).set (pivot).toNat (ix data a)).length:Int)) (
  G ((a).toNat < ((data.set (a).toNat (ix data pivot)).set (pivot).toNat (ix data a)).length) (
  G (0<=j_1/\j_1 < (((data.set (a).toNat (ix data pivot)).set (pivot).toNat (ix data a)).length:Int)) (
  G ((j_1).toNat < ((data.set (a).toNat (ix data pivot)).set (pivot).toNat (ix data a)).length) (
  G (0<=j_1/\j_1 < (((data.set (a).toNat (ix data pivot)).set (pivot).toNat (ix data a)).length:Int)) (
  G ((j_1).toNat < ((data.set (a).toNat (ix data pivot)).set (pivot).toNat (ix data a)).length) (
  G (0<=a/\a < ((((data.set (a).toNat (ix data pivot)).set (pivot).toNat (ix data a)).set (j_1).toNat (ix ((data.set (a).toNat (ix data pivot)).set (pivot).toNat (ix data a)) a)).length:Int)) (
  G ((a).toNat < (((data.set (a).toNat (ix data pivot)).set (pivot).toNat (ix data a)).set (j_1).toNat (ix ((data.set (a).toNat (ix data pivot)).set (pivot).toNat (ix data a)) a)).length) (
  some (j_1,true,(((data.set (a).toNat (ix data pivot)).set (pivot).toNat (ix data a)).set (j_1).toNat (ix ((data.set (a).toNat (ix data pivot)).set (pivot).toNat (ix data a)) a)).set (a).toNat (ix ((data.set (a).toNat (ix data pivot)).set (pivot).toNat (ix data a)) j_1)))))))))) else
  G (0<=j_1/\j_1 < (((data.set (a).toNat (ix data pivot)).set (pivot).toNat (ix data a)).length:Int)) (
  G ((j_1).toNat < ((data.set (a).toNat (ix data pivot)).set (pivot).toNat (ix data a)).length) (
  G (0<=i_1/\i_1 < (((data.set (a).toNat (ix data pivot)).set (pivot).toNat (ix data a)).length:Int)) (
  G ((i_1).toNat < ((data.set (a).toNat (ix data pivot)).set (pivot).toNat (ix data a)).length) (
  G (0<=i_1/\i_1 < (((data.set (a).toNat (ix data pivot)).set (pivot).toNat (ix data a)).length:Int)) (
  G ((i_1).toNat < ((data.set (a).toNat (ix data pivot)).set (pivot).toNat (ix data a)).length) (
  G (0<=j_1/\j_1 < ((((data.set (a).toNat (ix data pivot)).set (pivot).toNat (ix data a)).set (i_1).toNat (ix ((data.set (a).toNat (ix data pivot)).set (pivot).toNat (ix data a)) j_1)).length:Int)) (
  G ((j_1).toNat < (((data.set (a).toNat (ix data pivot)).set (pivot).toNat (ix data a)).set (i_1).toNat (ix ((data.set (a).toNat (ix data pivot)).set (pivot).toNat (ix data a)) j_1)).length) (
  G (fits (i_1+(1:Int))) (
  G (fits (j_1 - (1:Int))) (
  zbP a (i_1+(1:Int)) (j_1 - (1:Int)) ((((data.set (a).toNat (ix data pivot)).set (pivot).toNat (ix data a)).set (i_1).toNat (ix ((data.set (a).toNat (ix data pivot)).set (pivot).toNat (ix data a)) j_1)).set (j_1).toNat (ix ((data.set (a).toNat (ix data pivot)).set (pivot).toNat (ix data a)) i_1))))))))))))
def zaQ (a:Int) (pivot:Int) (data:Tp8) (i_1:Int) (r5:Int->Option Tp3) (j:Int):Option Tp3:=
  if (decide (i_1<=j))=true then
  G (0<=j/\j < (((data.set (a).toNat (ix data pivot)).set (pivot).toNat (ix data a)).length:Int)) (
  G ((j).toNat < ((data.set (a).toNat (ix data pivot)).set (pivot).toNat (ix data a)).length) (
  G (0<=a/\a < (((data.set (a).toNat (ix data pivot)).set (pivot).toNat (ix data a)).length:Int)) (
  G ((a).toNat < ((data.set (a).toNat (ix data pivot)).set (pivot).toNat (ix data a)).length) (
  (zbB (ix ((data.set (a).toNat (ix data pivot)).set (pivot).toNat (ix data a)) j) (ix ((data.set (a).toNat (ix data pivot)).set (pivot).toNat (ix data a)) a)).bind (fun y'_1=>
  if (!(decide (y'_1 < (0:Int))))=true then
  G (fits (j - (1:Int))) (
  r5 (j - (1:Int))) else
  zcg a pivot data i_1 j))))) else
  zcg a pivot data i_1 j
def zeR (a:Int) (pivot:Int) (data:Tp8) (i_1:Int):(Int->Option Tp3)->Int->Option Tp3:=
  fun rec x=>zaQ a pivot data i_1 (fun j=>rec j) x
def zci (a:Int) (pivot:Int) (data:Tp8) (i_1:Int) (j:Int):Option Tp3:=LFix (zeR a pivot data i_1 ) j
def zcf (a:Int) (b:Int) (pivot:Int) (data:Tp8) (i_1:Int):Option Tp3:=
  zci a pivot data i_1 (b - (1:Int))
def zaP (a:Int) (b:Int) (pivot:Int) (data:Tp8) (r3:Int->Option Tp3) (i:Int):Option Tp3:=
  if (decide (i<=(b - (1:Int))))=true then
  G (0<=i/\i < (((data.set (a).toNat (ix data pivot)).set (pivot).toNat (ix data a)).length:Int)) (
  G ((i).toNat < ((data.set (a).toNat (ix data pivot)).set (pivot).toNat (ix data a)).length) (
  G (0<=a/\a < (((data.set (a).toNat (ix data pivot)).set (pivot).toNat (ix data a)).length:Int)) (
  G ((a).toNat < ((data.set (a).toNat (ix data pivot)).set (pivot).toNat (ix data a)).length) (
  (zbB (ix ((data.set (a).toNat (ix data pivot)).set (pivot).toNat (ix data a)) i) (ix ((data.set (a).toNat (ix data pivot)).set (pivot).toNat (ix data a)) a)).bind (fun y'=>
  if (decide (y' < (0:Int)))=true then
  G (fits (i+(1:Int))) (
  r3 (i+(1:Int))) else
  zcf a b pivot data i))))) else
  zcf a b pivot data i
def zeQ (a:Int) (b:Int) (pivot:Int) (data:Tp8):(Int->Option Tp3)->Int->Option Tp3:=
  fun rec x=>zaP a b pivot data (fun i=>rec i) x
def zch (a:Int) (b:Int) (pivot:Int) (data:Tp8) (i:Int):Option Tp3:=LFix (zeQ a b pivot data ) i
def zcT (a:Int) (b:Int) (pivot:Int) (data:Tp8):Option Tp3:=
  G (0<=pivot/\pivot < (data.length:Int)) (
  G ((pivot).toNat < data.length) (
  G (0<=a/\a < (data.length:Int)) (
  G ((a).toNat < data.length) (
  G (0<=a/\a < (data.length:Int)) (
  G ((a).toNat < data.length) (
  G (0<=pivot/\pivot < ((data.set (a).toNat (ix data pivot)).length:Int)) (
  G ((pivot).toNat < (data.set (a).toNat (ix data pivot)).length) (
  G (fits (a+(1:Int))) (
  G (fits (b - (1:Int))) (
  zch a b pivot data (a+(1:Int))))))))))))
theorem za2 (r13o:Nat->Int->Int->Tp8->Option Tp3) (r13o':Int->Int->Tp8->Option Tp3) (h_r13o:∀ a0 a1 a2,ChO (fun κ=>r13o κ a0 a1 a2) (r13o' a0 a1 a2)) (a:Int) (data_1:Tp8) (i_4:Int) (j_4:Int):ChO (fun κ=>zaW a data_1 (r13o κ) i_4 j_4) (zaW a data_1 r13o' i_4 j_4):=by
  unfold zaW
  repeat' with_reducible first | exact ChO.const _ | exact h_r13o _ _ _ | apply ChO.ite | apply ChO.G | apply ChO.both | (apply ChO.bind;intro _)
theorem zdX (r13o:Nat->Int->Int->Tp8->Option Tp3) (r13o':Int->Int->Tp8->Option Tp3) (h_r13o:∀ a0 a1 a2,ChO (fun κ=>r13o κ a0 a1 a2) (r13o' a0 a1 a2)) (r15:Nat->Int->Option Tp3) (r15':Int->Option Tp3) (h_r15:∀ a0,ChO (fun κ=>r15 κ a0) (r15' a0)) (a:Int) (data_1:Tp8) (i_4:Int) (j_3:Int):ChO (fun κ=>zaM a data_1 (r13o κ) i_4 (r15 κ) j_3) (zaM a data_1 r13o' i_4 r15' j_3):=by
  unfold zaM
  repeat' with_reducible first | exact ChO.const _ | exact h_r13o _ _ _ | exact h_r15 _ | (apply za2<;>assumption) | apply ChO.ite | apply ChO.G | apply ChO.both | (apply ChO.bind;intro _)
theorem zcF (r13o:Int->Int->Tp8->Option Tp3) (a:Int) (data_1:Tp8) (i_4:Int):Cn (zeE a data_1 r13o i_4):=fun g h hg x=>zdX (fun _=>r13o) r13o (fun _ _ _=>ChO.const _) (fun κ j_3=>g κ j_3) (fun j_3=>h j_3) (fun j_3=>hg j_3) a data_1 i_4 x
theorem zem (r13o:Int->Int->Tp8->Option Tp3) (a:Int) (data_1:Tp8) (i_4:Int) (j_3:Int):zaY a data_1 r13o i_4 j_3=zaM a data_1 r13o i_4 (zaY a data_1 r13o i_4) j_3:=zaH (zcF r13o a data_1 i_4) j_3
theorem zbf (r13o:Nat->Int->Int->Tp8->Option Tp3) (r13o':Int->Int->Tp8->Option Tp3) (h_r13o:∀ a0 a1 a2,ChO (fun κ=>r13o κ a0 a1 a2) (r13o' a0 a1 a2)) (a:Int) (data_1:Tp8) (i_4:Int) (j_3:Int):ChO (fun κ=>zaY a data_1 (r13o κ) i_4 j_3) (zaY a data_1 r13o' i_4 j_3):=by
  unfold zaY
  exact zfk (fun κ=>(zcF (r13o κ) a data_1 i_4).mono) (zcF r13o' a data_1 i_4).mono (fun g h hg x=>zdX r13o r13o' h_r13o (fun κ j_3=>g κ j_3) (fun j_3=>h j_3) (fun j_3=>hg j_3) a data_1 i_4 x) _
theorem zbE (r13o:Nat->Int->Int->Tp8->Option Tp3) (r13o':Int->Int->Tp8->Option Tp3) (h_r13o:∀ a0 a1 a2,ChO (fun κ=>r13o κ a0 a1 a2) (r13o' a0 a1 a2)) (a:Int) (j_2:Int) (data_1:Tp8) (i_4:Int):ChO (fun κ=>zaV a j_2 data_1 (r13o κ) i_4) (zaV a j_2 data_1 r13o' i_4):=by
  unfold zaV
  repeat' with_reducible first | exact ChO.const _ | exact h_r13o _ _ _ | (apply za2<;>assumption) | (apply zbf<;>assumption) | apply ChO.ite | apply ChO.G | apply ChO.both | (apply ChO.bind;intro _)
theorem zdW (r13o:Nat->Int->Int->Tp8->Option Tp3) (r13o':Int->Int->Tp8->Option Tp3) (h_r13o:∀ a0 a1 a2,ChO (fun κ=>r13o κ a0 a1 a2) (r13o' a0 a1 a2)) (r13:Nat->Int->Option Tp3) (r13':Int->Option Tp3) (h_r13:∀ a0,ChO (fun κ=>r13 κ a0) (r13' a0)) (a:Int) (j_2:Int) (data_1:Tp8) (i_3:Int):ChO (fun κ=>zaL a j_2 data_1 (r13o κ) (r13 κ) i_3) (zaL a j_2 data_1 r13o' r13' i_3):=by
  unfold zaL
  repeat' with_reducible first | exact ChO.const _ | exact h_r13o _ _ _ | exact h_r13 _ | (apply za2<;>assumption) | (apply zbf<;>assumption) | (apply zbE<;>assumption) | apply ChO.ite | apply ChO.G | apply ChO.both | (apply ChO.bind;intro _)
theorem zcE (r13o:Int->Int->Tp8->Option Tp3) (a:Int) (j_2:Int) (data_1:Tp8):Cn (zeD a j_2 data_1 r13o):=fun g h hg x=>zdW (fun _=>r13o) r13o (fun _ _ _=>ChO.const _) (fun κ i_3=>g κ i_3) (fun i_3=>h i_3) (fun i_3=>hg i_3) a j_2 data_1 x
theorem zek (r13o:Int->Int->Tp8->Option Tp3) (a:Int) (j_2:Int) (data_1:Tp8) (i_3:Int):zaX a j_2 data_1 r13o i_3=zaL a j_2 data_1 r13o (zaX a j_2 data_1 r13o) i_3:=zaH (zcE r13o a j_2 data_1) i_3
theorem zcD (r13o:Nat->Int->Int->Tp8->Option Tp3) (r13o':Int->Int->Tp8->Option Tp3) (h_r13o:∀ a0 a1 a2,ChO (fun κ=>r13o κ a0 a1 a2) (r13o' a0 a1 a2)) (a:Int) (j_2:Int) (data_1:Tp8) (i_3:Int):ChO (fun κ=>zaX a j_2 data_1 (r13o κ) i_3) (zaX a j_2 data_1 r13o' i_3):=by
  unfold zaX
  exact zfk (fun κ=>(zcE (r13o κ) a j_2 data_1).mono) (zcE r13o' a j_2 data_1).mono (fun g h hg x=>zdW r13o r13o' h_r13o (fun κ i_3=>g κ i_3) (fun i_3=>h i_3) (fun i_3=>hg i_3) a j_2 data_1 x) _
theorem zgt (r13o:Nat->Int->Int->Tp8->Option Tp3) (r13o':Int->Int->Tp8->Option Tp3) (h_r13o:∀ a0 a1 a2,ChO (fun κ=>r13o κ a0 a1 a2) (r13o' a0 a1 a2)) (a:Int) (i_2:Int) (j_2:Int) (data_1:Tp8):ChO (fun κ=>za3 a (r13o κ) i_2 j_2 data_1) (za3 a r13o' i_2 j_2 data_1):=by
  unfold za3
  repeat' with_reducible first | exact ChO.const _ | exact h_r13o _ _ _ | (apply za2<;>assumption) | (apply zbf<;>assumption) | (apply zbE<;>assumption) | (apply zcD<;>assumption) | apply ChO.ite | apply ChO.G | apply ChO.both | (apply ChO.bind;intro _)
theorem zgL  (a:Int):Cn (zel a):=fun g h hg x=>zgt  (fun κ i_2 j_2 data_1=>g κ (i_2,j_2,data_1)) (fun i_2 j_2 data_1=>h (i_2,j_2,data_1)) (fun i_2 j_2 data_1=>hg (i_2,j_2,data_1)) a x.1 x.2.1 x.2.2
theorem zgM  (a:Int) (i_2:Int) (j_2:Int) (data_1:Tp8):zbP a i_2 j_2 data_1=za3 a (zbP a) i_2 j_2 data_1:=zaH (zgL a) (i_2,j_2,data_1)
theorem zgO (r5:Nat->Int->Option Tp3) (r5':Int->Option Tp3) (h_r5:∀ a0,ChO (fun κ=>r5 κ a0) (r5' a0)) (a:Int) (pivot:Int) (data:Tp8) (i_1:Int) (j:Int):ChO (fun κ=>zaQ a pivot data i_1 (r5 κ) j) (zaQ a pivot data i_1 r5' j):=by
  unfold zaQ
  repeat' with_reducible first | exact ChO.const _ | exact h_r5 _ | (apply za2<;>assumption) | (apply zbf<;>assumption) | (apply zbE<;>assumption) | (apply zcD<;>assumption) | apply ChO.ite | apply ChO.G | apply ChO.both | (apply ChO.bind;intro _)
theorem zhm  (a:Int) (pivot:Int) (data:Tp8) (i_1:Int):Cn (zeR a pivot data i_1):=fun g h hg x=>zgO  (fun κ j=>g κ j) (fun j=>h j) (fun j=>hg j) a pivot data i_1 x
theorem zeG  (a:Int) (pivot:Int) (data:Tp8) (i_1:Int) (j:Int):zci a pivot data i_1 j=zaQ a pivot data i_1 (zci a pivot data i_1) j:=zaH (zhm a pivot data i_1) j
theorem zgN (r3:Nat->Int->Option Tp3) (r3':Int->Option Tp3) (h_r3:∀ a0,ChO (fun κ=>r3 κ a0) (r3' a0)) (a:Int) (b:Int) (pivot:Int) (data:Tp8) (i:Int):ChO (fun κ=>zaP a b pivot data (r3 κ) i) (zaP a b pivot data r3' i):=by
  unfold zaP
  repeat' with_reducible first | exact ChO.const _ | exact h_r3 _ | (apply za2<;>assumption) | (apply zbf<;>assumption) | (apply zbE<;>assumption) | (apply zcD<;>assumption) | apply ChO.ite | apply ChO.G | apply ChO.both | (apply ChO.bind;intro _)
theorem zhl  (a:Int) (b:Int) (pivot:Int) (data:Tp8):Cn (zeQ a b pivot data):=fun g h hg x=>zgN  (fun κ i=>g κ i) (fun i=>h i) (fun i=>hg i) a b pivot data x
theorem zeF  (a:Int) (b:Int) (pivot:Int) (data:Tp8) (i:Int):zch a b pivot data i=zaP a b pivot data (zch a b pivot data) i:=zaH (zhl a b pivot data) i

def za6 (zaa:Tf6) (a_1:Int) (b_1:Int) (wasBalanced:Bool) (wasPartitioned:Bool) (r2:(Int->Int->Int->Bool->Bool->Tp8->Option Tp8)) (limit_2:Int) (pivot:Int) (data_4:Tp8) (t_1:Bool):Option Tp8:=
  if t_1=true then
  (zbQ a_1 b_1 pivot data_4).bind (fun y'_14=>
  r2 y'_14.1 b_1 limit_2 wasBalanced wasPartitioned y'_14.2) else
  (zcT a_1 b_1 pivot data_4).bind (fun y'_21=>
  G (fits (y'_21.1 - a_1)) (
  G (fits (b_1 - y'_21.1)) (
  G ((8:Int)≠0) (
  G (fits (Int.tdiv (b_1 - a_1) (8:Int))) (
  if (decide ((y'_21.1 - a_1) < (b_1 - y'_21.1)))=true then
  (zaa a_1 y'_21.1 limit_2 y'_21.2.2).bind (fun y'_19=>
  G (fits (y'_21.1+(1:Int))) (
  r2 (y'_21.1+(1:Int)) b_1 limit_2 (decide ((Int.tdiv (b_1 - a_1) (8:Int))<=(y'_21.1 - a_1))) y'_21.2.1 y'_19)) else
  G (fits (y'_21.1+(1:Int))) (
  (zaa (y'_21.1+(1:Int)) b_1 limit_2 y'_21.2.2).bind (fun y'_20=>
  r2 a_1 y'_21.1 limit_2 (decide ((Int.tdiv (b_1 - a_1) (8:Int))<=(b_1 - y'_21.1))) y'_21.2.1 y'_20)))))))
def za5 (zaa:Tf6) (a_1:Int) (b_1:Int) (wasBalanced:Bool) (wasPartitioned:Bool) (r2:(Int->Int->Int->Bool->Bool->Tp8->Option Tp8)) (limit_2:Int) (pivot:Int) (data_4:Tp8):Option Tp8:=
  if (decide ((0:Int) < a_1))=true then
  G (fits (a_1 - (1:Int))) (
  G (0<=a_1 - (1:Int)/\a_1 - (1:Int) < (data_4.length:Int)) (
  G ((a_1 - (1:Int)).toNat < data_4.length) (
  G (0<=pivot/\pivot < (data_4.length:Int)) (
  G ((pivot).toNat < data_4.length) (
  (zbB (ix data_4 (a_1 - (1:Int))) (ix data_4 pivot)).bind (fun y'_10=>
  za6 zaa a_1 b_1 wasBalanced wasPartitioned r2 limit_2 pivot data_4 (!(decide (y'_10 < (0:Int)))))))))) else
  za6 zaa a_1 b_1 wasBalanced wasPartitioned r2 limit_2 pivot data_4 false
def zaR (zaa:Tf6) (a_1:Int) (b_1:Int) (wasBalanced:Bool) (wasPartitioned:Bool) (r2:(Int->Int->Int->Bool->Bool->Tp8->Option Tp8)) (limit_2:Int) (pivot:Int) (data_3:Tp8) (t:Bool):Option Tp8:=
  if t=true then
  (zbj a_1 b_1 data_3).bind (fun y'_22=>
  if y'_22.1=true then
  some y'_22.2 else
  za5 zaa a_1 b_1 wasBalanced wasPartitioned r2 limit_2 pivot y'_22.2) else
  za5 zaa a_1 b_1 wasBalanced wasPartitioned r2 limit_2 pivot data_3
def za4 (zaa:Tf6) (a_1:Int) (b_1:Int) (wasBalanced:Bool) (wasPartitioned:Bool) (r2:(Int->Int->Int->Bool->Bool->Tp8->Option Tp8)) (limit_2:Int) (pivot:Int) (hint:Int) (data_3:Tp8):Option Tp8:=
  if wasBalanced=true then
  if wasPartitioned=true then
  zaR zaa a_1 b_1 wasBalanced wasPartitioned r2 limit_2 pivot data_3 (decide (hint=(1:Int))) else
  zaR zaa a_1 b_1 wasBalanced wasPartitioned r2 limit_2 pivot data_3 false else
  zaR zaa a_1 b_1 wasBalanced wasPartitioned r2 limit_2 pivot data_3 false
def zbd (zaa:Tf6) (a_1:Int) (b_1:Int) (wasBalanced:Bool) (wasPartitioned:Bool) (r2:(Int->Int->Int->Bool->Bool->Tp8->Option Tp8)) (limit_2:Int) (data_2:Tp8):Option Tp8:=
  (zct data_2 a_1 b_1).bind (fun y'_23=>
  if (decide (y'_23.2=(2:Int)))=true then
  (zcj a_1 b_1 data_2).bind (fun y'_6=>
  G (fits (b_1 - (1:Int))) (
  G (fits (y'_23.1 - a_1)) (
  G (fits ((b_1 - (1:Int)) - (y'_23.1 - a_1))) (
  za4 zaa a_1 b_1 wasBalanced wasPartitioned r2 limit_2 ((b_1 - (1:Int)) - (y'_23.1 - a_1)) (1:Int) y'_6)))) else
  za4 zaa a_1 b_1 wasBalanced wasPartitioned r2 limit_2 y'_23.1 y'_23.2 data_2)
def zbg (zaa:Tf6)  (r2:Tf3) (a_1:Int) (b_1:Int) (limit_1:Int) (wasBalanced:Bool) (wasPartitioned:Bool) (data_1:Tp8):Option Tp8:=
  G (fits (b_1 - a_1)) (
  if (decide ((b_1 - a_1)<=(12:Int)))=true then
  (zb1 a_1 b_1 data_1).bind (fun y'=>
  some y') else
  if (decide (limit_1=(0:Int)))=true then
  (zdl a_1 b_1 data_1).bind (fun y'_1=>
  some y'_1) else
  if (!wasBalanced)=true then
  (zb0 a_1 b_1 data_1).bind (fun y'_2=>
  G (fits (limit_1 - (1:Int))) (
  zbd zaa a_1 b_1 wasBalanced wasPartitioned r2 (limit_1 - (1:Int)) y'_2)) else
  zbd zaa a_1 b_1 wasBalanced wasPartitioned r2 limit_1 data_1)
def zfh (zaa:Tf6):(Int×Int×Int×Bool×Bool×Tp8->Option Tp8)->Int×Int×Int×Bool×Bool×Tp8->Option Tp8:=
  fun rec x=>zbg zaa (fun a_1 b_1 limit_1 wasBalanced wasPartitioned data_1=>rec (a_1,b_1,limit_1,wasBalanced,wasPartitioned,data_1)) x.1 x.2.1 x.2.2.1 x.2.2.2.1 x.2.2.2.2.1 x.2.2.2.2.2
def zah (zaa:Tf6)  (a_1:Int) (b_1:Int) (limit_1:Int) (wasBalanced:Bool) (wasPartitioned:Bool) (data_1:Tp8):Option Tp8:=LFix (zfh zaa ) (a_1,b_1,limit_1,wasBalanced,wasPartitioned,data_1)
def zbA (zaa:Tf6) (a:Int) (b:Int) (limit:Int) (data:Tp8):Option Tp8:=
  zah zaa a b limit true true data
theorem zba (zaa:Nat->Tf6) (zad:Tf6) (zae:∀ a0 a1 a2 a3,ChO (fun κ=>zaa κ a0 a1 a2 a3) (zad a0 a1 a2 a3)) (r2:Nat->Tf3) (r2':Tf3) (h_r2:∀ a0 a1 a2 a3 a4 a5,ChO (fun κ=>r2 κ a0 a1 a2 a3 a4 a5) (r2' a0 a1 a2 a3 a4 a5)) (a_1:Int) (b_1:Int) (wasBalanced:Bool) (wasPartitioned:Bool) (limit_2:Int) (pivot:Int) (data_4:Tp8) (t_1:Bool):ChO (fun κ=>za6 (zaa κ) a_1 b_1 wasBalanced wasPartitioned (r2 κ) limit_2 pivot data_4 t_1) (za6 zad a_1 b_1 wasBalanced wasPartitioned r2' limit_2 pivot data_4 t_1):=by
  unfold za6
  repeat' with_reducible first | exact ChO.const _ | exact zae _ _ _ _ | exact h_r2 _ _ _ _ _ _ | apply ChO.ite | apply ChO.G | apply ChO.both | (apply ChO.bind;intro _) | (apply ChO.bind2 (zae _ _ _ _);intro _)
theorem zbt (zaa:Nat->Tf6) (zad:Tf6) (zae:∀ a0 a1 a2 a3,ChO (fun κ=>zaa κ a0 a1 a2 a3) (zad a0 a1 a2 a3)) (r2:Nat->Tf3) (r2':Tf3) (h_r2:∀ a0 a1 a2 a3 a4 a5,ChO (fun κ=>r2 κ a0 a1 a2 a3 a4 a5) (r2' a0 a1 a2 a3 a4 a5)) (a_1:Int) (b_1:Int) (wasBalanced:Bool) (wasPartitioned:Bool) (limit_2:Int) (pivot:Int) (data_4:Tp8):ChO (fun κ=>za5 (zaa κ) a_1 b_1 wasBalanced wasPartitioned (r2 κ) limit_2 pivot data_4) (za5 zad a_1 b_1 wasBalanced wasPartitioned r2' limit_2 pivot data_4):=by
  unfold za5
  repeat' with_reducible first | exact ChO.const _ | exact zae _ _ _ _ | exact h_r2 _ _ _ _ _ _ | (apply zba<;>assumption) | apply ChO.ite | apply ChO.G | apply ChO.both | (apply ChO.bind;intro _) | (apply ChO.bind2 (zae _ _ _ _);intro _)
theorem zbR (zaa:Nat->Tf6) (zad:Tf6) (zae:∀ a0 a1 a2 a3,ChO (fun κ=>zaa κ a0 a1 a2 a3) (zad a0 a1 a2 a3)) (r2:Nat->Tf3) (r2':Tf3) (h_r2:∀ a0 a1 a2 a3 a4 a5,ChO (fun κ=>r2 κ a0 a1 a2 a3 a4 a5) (r2' a0 a1 a2 a3 a4 a5)) (a_1:Int) (b_1:Int) (wasBalanced:Bool) (wasPartitioned:Bool) (limit_2:Int) (pivot:Int) (data_3:Tp8) (t:Bool):ChO (fun κ=>zaR (zaa κ) a_1 b_1 wasBalanced wasPartitioned (r2 κ) limit_2 pivot data_3 t) (zaR zad a_1 b_1 wasBalanced wasPartitioned r2' limit_2 pivot data_3 t):=by
  unfold zaR
  repeat' with_reducible first | exact ChO.const _ | exact zae _ _ _ _ | exact h_r2 _ _ _ _ _ _ | (apply zba<;>assumption) | (apply zbt<;>assumption) | apply ChO.ite | apply ChO.G | apply ChO.both | (apply ChO.bind;intro _) | (apply ChO.bind2 (zae _ _ _ _);intro _)
theorem zcV (zaa:Nat->Tf6) (zad:Tf6) (zae:∀ a0 a1 a2 a3,ChO (fun κ=>zaa κ a0 a1 a2 a3) (zad a0 a1 a2 a3)) (r2:Nat->Tf3) (r2':Tf3) (h_r2:∀ a0 a1 a2 a3 a4 a5,ChO (fun κ=>r2 κ a0 a1 a2 a3 a4 a5) (r2' a0 a1 a2 a3 a4 a5)) (a_1:Int) (b_1:Int) (wasBalanced:Bool) (wasPartitioned:Bool) (limit_2:Int) (pivot:Int) (hint:Int) (data_3:Tp8):ChO (fun κ=>za4 (zaa κ) a_1 b_1 wasBalanced wasPartitioned (r2 κ) limit_2 pivot hint data_3) (za4 zad a_1 b_1 wasBalanced wasPartitioned r2' limit_2 pivot hint data_3):=by
  unfold za4
  repeat' with_reducible first | exact ChO.const _ | exact zae _ _ _ _ | exact h_r2 _ _ _ _ _ _ | (apply zba<;>assumption) | (apply zbt<;>assumption) | (apply zbR<;>assumption) | apply ChO.ite | apply ChO.G | apply ChO.both | (apply ChO.bind;intro _) | (apply ChO.bind2 (zae _ _ _ _);intro _)
theorem ze5 (zaa:Nat->Tf6) (zad:Tf6) (zae:∀ a0 a1 a2 a3,ChO (fun κ=>zaa κ a0 a1 a2 a3) (zad a0 a1 a2 a3)) (r2:Nat->Tf3) (r2':Tf3) (h_r2:∀ a0 a1 a2 a3 a4 a5,ChO (fun κ=>r2 κ a0 a1 a2 a3 a4 a5) (r2' a0 a1 a2 a3 a4 a5)) (a_1:Int) (b_1:Int) (wasBalanced:Bool) (wasPartitioned:Bool) (limit_2:Int) (data_2:Tp8):ChO (fun κ=>zbd (zaa κ) a_1 b_1 wasBalanced wasPartitioned (r2 κ) limit_2 data_2) (zbd zad a_1 b_1 wasBalanced wasPartitioned r2' limit_2 data_2):=by
  unfold zbd
  repeat' with_reducible first | exact ChO.const _ | exact zae _ _ _ _ | exact h_r2 _ _ _ _ _ _ | (apply zba<;>assumption) | (apply zbt<;>assumption) | (apply zbR<;>assumption) | (apply zcV<;>assumption) | apply ChO.ite | apply ChO.G | apply ChO.both | (apply ChO.bind;intro _) | (apply ChO.bind2 (zae _ _ _ _);intro _)
theorem zeH (zaa:Nat->Tf6) (zad:Tf6) (zae:∀ a0 a1 a2 a3,ChO (fun κ=>zaa κ a0 a1 a2 a3) (zad a0 a1 a2 a3)) (r2:Nat->Tf3) (r2':Tf3) (h_r2:∀ a0 a1 a2 a3 a4 a5,ChO (fun κ=>r2 κ a0 a1 a2 a3 a4 a5) (r2' a0 a1 a2 a3 a4 a5)) (a_1:Int) (b_1:Int) (limit_1:Int) (wasBalanced:Bool) (wasPartitioned:Bool) (data_1:Tp8):ChO (fun κ=>zbg (zaa κ) (r2 κ) a_1 b_1 limit_1 wasBalanced wasPartitioned data_1) (zbg zad r2' a_1 b_1 limit_1 wasBalanced wasPartitioned data_1):=by
  unfold zbg
  repeat' with_reducible first | exact ChO.const _ | exact zae _ _ _ _ | exact h_r2 _ _ _ _ _ _ | (apply zba<;>assumption) | (apply zbt<;>assumption) | (apply zbR<;>assumption) | (apply zcV<;>assumption) | (apply ze5<;>assumption) | apply ChO.ite | apply ChO.G | apply ChO.both | (apply ChO.bind;intro _) | (apply ChO.bind2 (zae _ _ _ _);intro _)
theorem zde (zaa:Tf6):Cn (zfh zaa):=fun g h hg x=>zeH (fun _=>zaa) zaa (fun _ _ _ _=>ChO.const _) (fun κ a_1 b_1 limit_1 wasBalanced wasPartitioned data_1=>g κ (a_1,b_1,limit_1,wasBalanced,wasPartitioned,data_1)) (fun a_1 b_1 limit_1 wasBalanced wasPartitioned data_1=>h (a_1,b_1,limit_1,wasBalanced,wasPartitioned,data_1)) (fun a_1 b_1 limit_1 wasBalanced wasPartitioned data_1=>hg (a_1,b_1,limit_1,wasBalanced,wasPartitioned,data_1))  x.1 x.2.1 x.2.2.1 x.2.2.2.1 x.2.2.2.2.1 x.2.2.2.2.2
theorem zif (zaa:Tf6)  (a_1:Int) (b_1:Int) (limit_1:Int) (wasBalanced:Bool) (wasPartitioned:Bool) (data_1:Tp8):zah zaa a_1 b_1 limit_1 wasBalanced wasPartitioned data_1=zbg zaa (zah zaa) a_1 b_1 limit_1 wasBalanced wasPartitioned data_1:=zaH (zde zaa) (a_1,b_1,limit_1,wasBalanced,wasPartitioned,data_1)
theorem zie (zaa:Nat->Tf6) (zad:Tf6) (zae:∀ a0 a1 a2 a3,ChO (fun κ=>zaa κ a0 a1 a2 a3) (zad a0 a1 a2 a3))  (a_1:Int) (b_1:Int) (limit_1:Int) (wasBalanced:Bool) (wasPartitioned:Bool) (data_1:Tp8):ChO (fun κ=>zah (zaa κ) a_1 b_1 limit_1 wasBalanced wasPartitioned data_1) (zah zad a_1 b_1 limit_1 wasBalanced wasPartitioned data_1):=by
  unfold zah
  exact zfk (fun κ=>(zde (zaa κ) ).mono) (zde zad ).mono (fun g h hg x=>zeH zaa zad zae (fun κ a_1 b_1 limit_1 wasBalanced wasPartitioned data_1=>g κ (a_1,b_1,limit_1,wasBalanced,wasPartitioned,data_1)) (fun a_1 b_1 limit_1 wasBalanced wasPartitioned data_1=>h (a_1,b_1,limit_1,wasBalanced,wasPartitioned,data_1)) (fun a_1 b_1 limit_1 wasBalanced wasPartitioned data_1=>hg (a_1,b_1,limit_1,wasBalanced,wasPartitioned,data_1))  x.1 x.2.1 x.2.2.1 x.2.2.2.1 x.2.2.2.2.1 x.2.2.2.2.2) _
theorem zii (zaa:Nat->Tf6) (zad:Tf6) (zae:∀ a0 a1 a2 a3,ChO (fun κ=>zaa κ a0 a1 a2 a3) (zad a0 a1 a2 a3)) (a:Int) (b:Int) (limit:Int) (data:Tp8):ChO (fun κ=>zbA (zaa κ) a b limit data) (zbA zad a b limit data):=by
  unfold zbA
  repeat' with_reducible first | exact ChO.const _ | exact zae _ _ _ _ | (apply zba<;>assumption) | (apply zbt<;>assumption) | (apply zbR<;>assumption) | (apply zcV<;>assumption) | (apply ze5<;>assumption) | (apply zie<;>assumption) | apply ChO.ite | apply ChO.G | apply ChO.both | (apply ChO.bind;intro _) | (apply ChO.bind2 (zae _ _ _ _);intro _)
def zcU:(Int×Int×Int×Tp8->Option Tp8)->Int×Int×Int×Tp8->Option Tp8:=
  fun rec X=>zbA (fun a b limit data=>rec (a,b,limit,data)) X.1 X.2.1 X.2.2.1 X.2.2.2
def zag (a:Int) (b:Int) (limit:Int) (data:Tp8):Option Tp8:=LFix zcU (a,b,limit,data)
theorem zjb:Cn zcU:=fun g h hg X=>zii _ _ (fun a b limit data=>hg (a,b,limit,data)) X.1 X.2.1 X.2.2.1 X.2.2.2
theorem zjc (a:Int) (b:Int) (limit:Int) (data:Tp8):zag a b limit data=zbA zag a b limit data:=zaH zjb (a,b,limit,data)

def zib (x':Tp8):Option Tp8:=
  (zl6 (IntKind.wrap .u64 (x'.length:Int))).bind (fun y'=>
  (zag (0:Int) (x'.length:Int) y' x').bind (fun y'_1=>
  some y'_1))

def zep (t:Int) (r6:(Tp1->Tp1->Tp1->Tp1->Int->Int->Int->Int->Tp15->Tp15->Tp15->Tp8->Option Tp1)) (step_2:Tp1) (step_3:Tp1) (mark_2:Tp1) (mark_3:Tp1) (out_4:Int) (out_5:Int) (out_6:Int) (l_3:Tp15) (l_4:Tp15) (l_5:Tp15) (l_6:Tp8):Option Tp1:=
  G (fits (t+(1:Int))) (
  r6 step_2 step_3 mark_2 mark_3 (t+(1:Int)) out_4 out_5 out_6 l_4 l_5 l_3 l_6)
def zcY (t_2:Int) (r17:(Tp1->Tp1->Tp1->Tp1->Int->Int->Int->Int->Tp15->Tp15->Tp15->Tp8->Option Tp1)) (step_12:Tp1) (step_13:Tp1) (mark_12:Tp1) (mark_13:Tp1) (out_19:Int) (out_20:Int) (out_21:Int) (l_23:Tp15) (l_24:Tp15) (l_25:Tp15) (l_26:Tp8):Option Tp1:=
  G (fits (t_2+(1:Int))) (
  r17 step_12 step_13 mark_12 mark_13 (t_2+(1:Int)) out_19 out_20 out_21 l_23 l_24 l_25 l_26)
def zdC (i:Int) (t_1:Int) (t_2:Int) (r17:(Tp1->Tp1->Tp1->Tp1->Int->Int->Int->Int->Tp15->Tp15->Tp15->Tp8->Option Tp1)) (step_10:Tp1) (step_11:Tp1) (mark_10:Tp1) (mark_11:Tp1) (out_16:Int) (out_17:Int) (out_18:Int) (l_19:Tp15) (l_20:Tp15) (l_21:Tp15) (l_22:Tp8):Option Tp1:=
  if (decide (t_2 < i))=true then
  G (0<=t_2/\t_2 < (l_19.length:Int)) (
  G ((t_2).toNat < l_19.length) (
  G (0<=i/\i < (l_19.length:Int)) (
  G ((i).toNat < l_19.length) (
  both [Tc1] (
  (zcw t_1 (ix l_19 t_2) (ix l_19 i) step_10 step_11).bind (fun y'_26=>
  (zcn y'_26 l_20 l_21 l_19).bind (fun y'_32=>
  G (room l_22 ([(t_1,(t_2,(i,(y'_32.1,()))))]) 32) (
  zcY t_2 r17 step_10 step_11 mark_10 mark_11 out_16 out_17 out_18 y'_32.2.1 y'_32.2.2.1 y'_32.2.2.2 (l_22++([(t_1,(t_2,(i,(y'_32.1,()))))])))))) (
  (zcw t_1 (ix l_19 t_2) (ix l_19 i) step_10 step_11).bind (fun y'_33=>
  both [Tc1] (
  (zcn y'_33 l_20 l_21 l_19).bind (fun y'_39=>
  G (room l_22 ([(t_1,(t_2,(i,(y'_39.1,()))))]) 32) (
  zcY t_2 r17 step_10 step_11 mark_10 mark_11 out_16 out_17 out_18 y'_39.2.1 y'_39.2.2.1 y'_39.2.2.2 (l_22++([(t_1,(t_2,(i,(y'_39.1,()))))]))))) (
  (zcn y'_33 l_20 l_21 l_19).bind (fun y'_45=>
  G (room l_22 ([(t_1,(t_2,(i,(y'_45.1,()))))]) 32) (
  zcY t_2 r17 step_10 step_11 mark_10 mark_11 out_16 out_17 out_18 y'_45.2.1 y'_45.2.2.1 y'_45.2.2.2 (l_22++([(t_1,(t_2,(i,(y'_45.1,()))))]))))))))))) else
  zcY t_2 r17 step_10 step_11 mark_10 mark_11 out_16 out_17 out_18 l_19 l_20 l_21 l_22
def zdi (i:Int) (t_1:Int) (r14:(Tp1->Tp1->Tp1->Tp1->Int->Int->Int->Int->Tp15->Tp15->Tp15->Tp8->Option Tp1)) (r17:Tf1) (step_8:Tp1) (step_9:Tp1) (mark_8:Tp1) (mark_9:Tp1) (t_2:Int) (out_13:Int) (out_14:Int) (out_15:Int) (l_15:Tp15) (l_16:Tp15) (l_17:Tp15) (l_18:Tp8):Option Tp1:=
  if (decide (t_2 < (i+(1:Int))))=true then
  G (0<=i/\i < (l_15.length:Int)) (
  G ((i).toNat < l_15.length) (
  G (0<=t_2/\t_2 < (l_15.length:Int)) (
  G ((t_2).toNat < l_15.length) (
  both [Tc1] (
  (zcw t_1 (ix l_15 i) (ix l_15 t_2) step_8 step_9).bind (fun y'_20=>
  (zcn y'_20 l_16 l_17 l_15).bind (fun y'_46=>
  G (room l_18 ([(t_1,(i,(t_2,(y'_46.1,()))))]) 32) (
  zdC i t_1 t_2 r17 step_8 step_9 mark_8 mark_9 out_13 out_14 out_15 y'_46.2.1 y'_46.2.2.1 y'_46.2.2.2 (l_18++([(t_1,(i,(t_2,(y'_46.1,()))))])))))) (
  (zcw t_1 (ix l_15 i) (ix l_15 t_2) step_8 step_9).bind (fun y'_47=>
  both [Tc1] (
  (zcn y'_47 l_16 l_17 l_15).bind (fun y'_53=>
  G (room l_18 ([(t_1,(i,(t_2,(y'_53.1,()))))]) 32) (
  zdC i t_1 t_2 r17 step_8 step_9 mark_8 mark_9 out_13 out_14 out_15 y'_53.2.1 y'_53.2.2.1 y'_53.2.2.2 (l_18++([(t_1,(i,(t_2,(y'_53.1,()))))]))))) (
  (zcn y'_47 l_16 l_17 l_15).bind (fun y'_59=>
  G (room l_18 ([(t_1,(i,(t_2,(y'_59.1,()))))]) 32) (
  zdC i t_1 t_2 r17 step_8 step_9 mark_8 mark_9 out_13 out_14 out_15 y'_59.2.1 y'_59.2.2.1 y'_59.2.2.2 (l_18++([(t_1,(i,(t_2,(y'_59.1,()))))]))))))))))) else
  G (fits (t_1+(1:Int))) (
  r14 step_8 step_9 mark_8 mark_9 (t_1+(1:Int)) out_13 out_14 out_15 l_15 l_16 l_17 l_18)
def zkV (i:Int) (t_1:Int) (r14:(Tp1->Tp1->Tp1->Tp1->Int->Int->Int->Int->Tp15->Tp15->Tp15->Tp8->Option Tp1)):(Tp1×Tp1×Tp1×Tp1×Int×Int×Int×Int×Tp15×Tp15×Tp15×Tp8->Option Tp1)->Tp1×Tp1×Tp1×Tp1×Int×Int×Int×Int×Tp15×Tp15×Tp15×Tp8->Option Tp1:=
  fun rec x=>zdi i t_1 r14 (fun step_8 step_9 mark_8 mark_9 t_2 out_13 out_14 out_15 l_15 l_16 l_17 l_18=>rec (step_8,step_9,mark_8,mark_9,t_2,out_13,out_14,out_15,l_15,l_16,l_17,l_18)) x.1 x.2.1 x.2.2.1 x.2.2.2.1 x.2.2.2.2.1 x.2.2.2.2.2.1 x.2.2.2.2.2.2.1 x.2.2.2.2.2.2.2.1 x.2.2.2.2.2.2.2.2.1 x.2.2.2.2.2.2.2.2.2.1 x.2.2.2.2.2.2.2.2.2.2.1 x.2.2.2.2.2.2.2.2.2.2.2
def zcZ (i:Int) (t_1:Int) (r14:(Tp1->Tp1->Tp1->Tp1->Int->Int->Int->Int->Tp15->Tp15->Tp15->Tp8->Option Tp1)) (step_8:Tp1) (step_9:Tp1) (mark_8:Tp1) (mark_9:Tp1) (t_2:Int) (out_13:Int) (out_14:Int) (out_15:Int) (l_15:Tp15) (l_16:Tp15) (l_17:Tp15) (l_18:Tp8):Option Tp1:=LFix (zkV i t_1 r14 ) (step_8,step_9,mark_8,mark_9,t_2,out_13,out_14,out_15,l_15,l_16,l_17,l_18)
def zdh (letters:Int) (i:Int) (r11:(Tp1->Tp1->Tp1->Tp1->Int->Int->Int->Int->Tp15->Tp15->Tp15->Tp8->Option Tp1)) (r14:Tf1) (step_6:Tp1) (step_7:Tp1) (mark_6:Tp1) (mark_7:Tp1) (t_1:Int) (out_10:Int) (out_11:Int) (out_12:Int) (l_11:Tp15) (l_12:Tp15) (l_13:Tp15) (l_14:Tp8):Option Tp1:=
  if (decide (t_1 < letters))=true then
  G (fits (i+(1:Int))) (
  zcZ i t_1 r14 step_6 step_7 mark_6 mark_7 (0:Int) out_10 out_11 out_12 l_11 l_12 l_13 l_14) else
  G (fits (i+(1:Int))) (
  r11 step_6 step_7 mark_6 mark_7 (i+(1:Int)) out_10 out_11 out_12 l_11 l_12 l_13 l_14)
def zkU (letters:Int) (i:Int) (r11:(Tp1->Tp1->Tp1->Tp1->Int->Int->Int->Int->Tp15->Tp15->Tp15->Tp8->Option Tp1)):(Tp1×Tp1×Tp1×Tp1×Int×Int×Int×Int×Tp15×Tp15×Tp15×Tp8->Option Tp1)->Tp1×Tp1×Tp1×Tp1×Int×Int×Int×Int×Tp15×Tp15×Tp15×Tp8->Option Tp1:=
  fun rec x=>zdh letters i r11 (fun step_6 step_7 mark_6 mark_7 t_1 out_10 out_11 out_12 l_11 l_12 l_13 l_14=>rec (step_6,step_7,mark_6,mark_7,t_1,out_10,out_11,out_12,l_11,l_12,l_13,l_14)) x.1 x.2.1 x.2.2.1 x.2.2.2.1 x.2.2.2.2.1 x.2.2.2.2.2.1 x.2.2.2.2.2.2.1 x.2.2.2.2.2.2.2.1 x.2.2.2.2.2.2.2.2.1 x.2.2.2.2.2.2.2.2.2.1 x.2.2.2.2.2.2.2.2.2.2.1 x.2.2.2.2.2.2.2.2.2.2.2
def zdD (letters:Int) (i:Int) (r11:(Tp1->Tp1->Tp1->Tp1->Int->Int->Int->Int->Tp15->Tp15->Tp15->Tp8->Option Tp1)) (step_6:Tp1) (step_7:Tp1) (mark_6:Tp1) (mark_7:Tp1) (t_1:Int) (out_10:Int) (out_11:Int) (out_12:Int) (l_11:Tp15) (l_12:Tp15) (l_13:Tp15) (l_14:Tp8):Option Tp1:=LFix (zkU letters i r11 ) (step_6,step_7,mark_6,mark_7,t_1,out_10,out_11,out_12,l_11,l_12,l_13,l_14)
def zev (t_3:Int) (r25:(Tp1->Tp1->Int->Int->Int->Int->Tp8->Tp15->Option Tp1)) (mark_16:Tp1) (mark_17:Tp1) (out_26:Int) (out_27:Int) (out_28:Int) (l_28:Tp8) (l_29:Tp15):Option Tp1:=
  G (fits (t_3+(1:Int))) (
  r25 mark_16 mark_17 (t_3+(1:Int)) out_26 out_27 out_28 l_28 l_29)
def zdj (l_7:Tp15) (r25:Tf2) (mark_14:Tp1) (mark_15:Tp1) (t_3:Int) (out_22:Int) (out_23:Int) (out_24:Int) (l_27:Tp8) (out_25:Tp15):Option Tp1:=
  if (decide (t_3 < (l_7.length:Int)))=true then
  G (0<=t_3/\t_3 < (l_7.length:Int)) (
  G ((t_3).toNat < l_7.length) (
  both [Tc1] (
  (zgv (ix l_7 t_3) mark_14 mark_15).bind (fun y'_60=>
  G (room out_25 ([y'_60]) 8) (
  zev t_3 r25 mark_14 mark_15 out_22 out_23 out_24 l_27 (out_25++([y'_60]))))) (
  (zgv (ix l_7 t_3) mark_14 mark_15).bind (fun y'_61=>
  G (room out_25 ([y'_61]) 8) (
  zev t_3 r25 mark_14 mark_15 out_22 out_23 out_24 l_27 (out_25++([y'_61]))))))) else
  (zib l_27).bind (fun y'_62=>
  some (out_22,((l_7.length:Int),(y'_62,(out_24,(out_25,()))))))
def zkW (l_7:Tp15):(Tp1×Tp1×Int×Int×Int×Int×Tp8×Tp15->Option Tp1)->Tp1×Tp1×Int×Int×Int×Int×Tp8×Tp15->Option Tp1:=
  fun rec x=>zdj l_7 (fun mark_14 mark_15 t_3 out_22 out_23 out_24 l_27 out_25=>rec (mark_14,mark_15,t_3,out_22,out_23,out_24,l_27,out_25)) x.1 x.2.1 x.2.2.1 x.2.2.2.1 x.2.2.2.2.1 x.2.2.2.2.2.1 x.2.2.2.2.2.2.1 x.2.2.2.2.2.2.2
def zdE (l_7:Tp15) (mark_14:Tp1) (mark_15:Tp1) (t_3:Int) (out_22:Int) (out_23:Int) (out_24:Int) (l_27:Tp8) (out_25:Tp15):Option Tp1:=LFix (zkW l_7 ) (mark_14,mark_15,t_3,out_22,out_23,out_24,l_27,out_25)
def zdg (letters:Int) (r11:Tf1) (step_4:Tp1) (step_5:Tp1) (mark_4:Tp1) (mark_5:Tp1) (i:Int) (out_7:Int) (out_8:Int) (out_9:Int) (l_7:Tp15) (l_8:Tp15) (l_9:Tp15) (l_10:Tp8):Option Tp1:=
  if (decide (i < (l_7.length:Int)))=true then
  zdD letters i r11 step_4 step_5 mark_4 mark_5 (0:Int) out_7 out_8 out_9 l_7 l_8 l_9 l_10 else
  zdE l_7 mark_4 mark_5 (0:Int) out_7 out_8 out_9 l_10 ([]:List Int)
def zkT (letters:Int):(Tp1×Tp1×Tp1×Tp1×Int×Int×Int×Int×Tp15×Tp15×Tp15×Tp8->Option Tp1)->Tp1×Tp1×Tp1×Tp1×Int×Int×Int×Int×Tp15×Tp15×Tp15×Tp8->Option Tp1:=
  fun rec x=>zdg letters (fun step_4 step_5 mark_4 mark_5 i out_7 out_8 out_9 l_7 l_8 l_9 l_10=>rec (step_4,step_5,mark_4,mark_5,i,out_7,out_8,out_9,l_7,l_8,l_9,l_10)) x.1 x.2.1 x.2.2.1 x.2.2.2.1 x.2.2.2.2.1 x.2.2.2.2.2.1 x.2.2.2.2.2.2.1 x.2.2.2.2.2.2.2.1 x.2.2.2.2.2.2.2.2.1 x.2.2.2.2.2.2.2.2.2.1 x.2.2.2.2.2.2.2.2.2.2.1 x.2.2.2.2.2.2.2.2.2.2.2
def zgw (letters:Int) (step_4:Tp1) (step_5:Tp1) (mark_4:Tp1) (mark_5:Tp1) (i:Int) (out_7:Int) (out_8:Int) (out_9:Int) (l_7:Tp15) (l_8:Tp15) (l_9:Tp15) (l_10:Tp8):Option Tp1:=LFix (zkT letters ) (step_4,step_5,mark_4,mark_5,i,out_7,out_8,out_9,l_7,l_8,l_9,l_10)
def zdN (letters:Int) (r6:Tf1) (step:Tp1) (step_1:Tp1) (mark:Tp1) (mark_1:Tp1) (t:Int) (out:Int) (out_1:Int) (out_2:Int) (l:Tp15) (l_1:Tp15) (l_2:Tp15) (out_3:Tp8):Option Tp1:=
  if (decide (t < letters))=true then
  both [Tc1] (
  (zcw t (-1:Int) (-1:Int) step step_1).bind (fun y'=>
  (zcn y' l l_1 l_2).bind (fun y'_6=>
  G (room out_3 ([(t,((-1:Int),((-1:Int),(y'_6.1,()))))]) 32) (
  zep t r6 step step_1 mark mark_1 out out_1 out_2 y'_6.2.1 y'_6.2.2.1 y'_6.2.2.2 (out_3++([(t,((-1:Int),((-1:Int),(y'_6.1,()))))])))))) (
  (zcw t (-1:Int) (-1:Int) step step_1).bind (fun y'_7=>
  both [Tc1] (
  (zcn y'_7 l l_1 l_2).bind (fun y'_13=>
  G (room out_3 ([(t,((-1:Int),((-1:Int),(y'_13.1,()))))]) 32) (
  zep t r6 step step_1 mark mark_1 out out_1 out_2 y'_13.2.1 y'_13.2.2.1 y'_13.2.2.2 (out_3++([(t,((-1:Int),((-1:Int),(y'_13.1,()))))]))))) (
  (zcn y'_7 l l_1 l_2).bind (fun y'_19=>
  G (room out_3 ([(t,((-1:Int),((-1:Int),(y'_19.1,()))))]) 32) (
  zep t r6 step step_1 mark mark_1 out out_1 out_2 y'_19.2.1 y'_19.2.2.1 y'_19.2.2.2 (out_3++([(t,((-1:Int),((-1:Int),(y'_19.1,()))))]))))))) else
  zgw letters step step_1 mark mark_1 (0:Int) out out_1 out_2 l_2 l l_1 out_3
def zlM (letters:Int):(Tp1×Tp1×Tp1×Tp1×Int×Int×Int×Int×Tp15×Tp15×Tp15×Tp8->Option Tp1)->Tp1×Tp1×Tp1×Tp1×Int×Int×Int×Int×Tp15×Tp15×Tp15×Tp8->Option Tp1:=
  fun rec x=>zdN letters (fun step step_1 mark mark_1 t out out_1 out_2 l l_1 l_2 out_3=>rec (step,step_1,mark,mark_1,t,out,out_1,out_2,l,l_1,l_2,out_3)) x.1 x.2.1 x.2.2.1 x.2.2.2.1 x.2.2.2.2.1 x.2.2.2.2.2.1 x.2.2.2.2.2.2.1 x.2.2.2.2.2.2.2.1 x.2.2.2.2.2.2.2.2.1 x.2.2.2.2.2.2.2.2.2.1 x.2.2.2.2.2.2.2.2.2.2.1 x.2.2.2.2.2.2.2.2.2.2.2
def zha (letters:Int) (step:Tp1) (step_1:Tp1) (mark:Tp1) (mark_1:Tp1) (t:Int) (out:Int) (out_1:Int) (out_2:Int) (l:Tp15) (l_1:Tp15) (l_2:Tp15) (out_3:Tp8):Option Tp1:=LFix (zlM letters ) (step,step_1,mark,mark_1,t,out,out_1,out_2,l,l_1,l_2,out_3)
def zkQ (letters:Int) (c:Tp1) (c_1:Tp1) (c_2:Tp1) (c_3:Tp1):Option Tp1:=
  zha letters c c_1 c_2 c_3 (0:Int) letters (0:Int) (0:Int) ([]:List Int) ([]:List Int) ([]:List Int) ([]:List Tp10)
theorem zcH (r6:Nat->Tf1) (r6':Tf1) (h_r6:∀ a0 a1 a2 a3 a4 a5 a6 a7 a8 a9 a10 a11,ChO (fun κ=>r6 κ a0 a1 a2 a3 a4 a5 a6 a7 a8 a9 a10 a11) (r6' a0 a1 a2 a3 a4 a5 a6 a7 a8 a9 a10 a11)) (t:Int) (step_2:Tp1) (step_3:Tp1) (mark_2:Tp1) (mark_3:Tp1) (out_4:Int) (out_5:Int) (out_6:Int) (l_3:Tp15) (l_4:Tp15) (l_5:Tp15) (l_6:Tp8):ChO (fun κ=>zep t (r6 κ) step_2 step_3 mark_2 mark_3 out_4 out_5 out_6 l_3 l_4 l_5 l_6) (zep t r6' step_2 step_3 mark_2 mark_3 out_4 out_5 out_6 l_3 l_4 l_5 l_6):=by
  unfold zep
  repeat' with_reducible first | exact ChO.const _ | exact h_r6 _ _ _ _ _ _ _ _ _ _ _ _ | apply ChO.ite | apply ChO.G | apply ChO.both | (apply ChO.bind;intro _)
theorem zcL (r17:Nat->Tf1) (r17':Tf1) (h_r17:∀ a0 a1 a2 a3 a4 a5 a6 a7 a8 a9 a10 a11,ChO (fun κ=>r17 κ a0 a1 a2 a3 a4 a5 a6 a7 a8 a9 a10 a11) (r17' a0 a1 a2 a3 a4 a5 a6 a7 a8 a9 a10 a11)) (t_2:Int) (step_12:Tp1) (step_13:Tp1) (mark_12:Tp1) (mark_13:Tp1) (out_19:Int) (out_20:Int) (out_21:Int) (l_23:Tp15) (l_24:Tp15) (l_25:Tp15) (l_26:Tp8):ChO (fun κ=>zcY t_2 (r17 κ) step_12 step_13 mark_12 mark_13 out_19 out_20 out_21 l_23 l_24 l_25 l_26) (zcY t_2 r17' step_12 step_13 mark_12 mark_13 out_19 out_20 out_21 l_23 l_24 l_25 l_26):=by
  unfold zcY
  repeat' with_reducible first | exact ChO.const _ | exact h_r17 _ _ _ _ _ _ _ _ _ _ _ _ | (apply zcH<;>assumption) | apply ChO.ite | apply ChO.G | apply ChO.both | (apply ChO.bind;intro _)
theorem zds (r17:Nat->Tf1) (r17':Tf1) (h_r17:∀ a0 a1 a2 a3 a4 a5 a6 a7 a8 a9 a10 a11,ChO (fun κ=>r17 κ a0 a1 a2 a3 a4 a5 a6 a7 a8 a9 a10 a11) (r17' a0 a1 a2 a3 a4 a5 a6 a7 a8 a9 a10 a11)) (i:Int) (t_1:Int) (t_2:Int) (step_10:Tp1) (step_11:Tp1) (mark_10:Tp1) (mark_11:Tp1) (out_16:Int) (out_17:Int) (out_18:Int) (l_19:Tp15) (l_20:Tp15) (l_21:Tp15) (l_22:Tp8):ChO (fun κ=>zdC i t_1 t_2 (r17 κ) step_10 step_11 mark_10 mark_11 out_16 out_17 out_18 l_19 l_20 l_21 l_22) (zdC i t_1 t_2 r17' step_10 step_11 mark_10 mark_11 out_16 out_17 out_18 l_19 l_20 l_21 l_22):=by
  unfold zdC
  repeat' with_reducible first | exact ChO.const _ | exact h_r17 _ _ _ _ _ _ _ _ _ _ _ _ | (apply zcH<;>assumption) | (apply zcL<;>assumption) | apply ChO.ite | apply ChO.G | apply ChO.both | (apply ChO.bind;intro _)
theorem ziE (r14:Nat->Tf1) (r14':Tf1) (h_r14:∀ a0 a1 a2 a3 a4 a5 a6 a7 a8 a9 a10 a11,ChO (fun κ=>r14 κ a0 a1 a2 a3 a4 a5 a6 a7 a8 a9 a10 a11) (r14' a0 a1 a2 a3 a4 a5 a6 a7 a8 a9 a10 a11)) (r17:Nat->Tf1) (r17':Tf1) (h_r17:∀ a0 a1 a2 a3 a4 a5 a6 a7 a8 a9 a10 a11,ChO (fun κ=>r17 κ a0 a1 a2 a3 a4 a5 a6 a7 a8 a9 a10 a11) (r17' a0 a1 a2 a3 a4 a5 a6 a7 a8 a9 a10 a11)) (i:Int) (t_1:Int) (step_8:Tp1) (step_9:Tp1) (mark_8:Tp1) (mark_9:Tp1) (t_2:Int) (out_13:Int) (out_14:Int) (out_15:Int) (l_15:Tp15) (l_16:Tp15) (l_17:Tp15) (l_18:Tp8):ChO (fun κ=>zdi i t_1 (r14 κ) (r17 κ) step_8 step_9 mark_8 mark_9 t_2 out_13 out_14 out_15 l_15 l_16 l_17 l_18) (zdi i t_1 r14' r17' step_8 step_9 mark_8 mark_9 t_2 out_13 out_14 out_15 l_15 l_16 l_17 l_18):=by
  unfold zdi
  repeat' with_reducible first | exact ChO.const _ | exact h_r14 _ _ _ _ _ _ _ _ _ _ _ _ | exact h_r17 _ _ _ _ _ _ _ _ _ _ _ _ | (apply zcH<;>assumption) | (apply zcL<;>assumption) | (apply zds<;>assumption) | apply ChO.ite | apply ChO.G | apply ChO.both | (apply ChO.bind;intro _)
theorem zht (r14:Tf1) (i:Int) (t_1:Int):Cn (zkV i t_1 r14):=fun g h hg x=>ziE (fun _=>r14) r14 (fun _ _ _ _ _ _ _ _ _ _ _ _=>ChO.const _) (fun κ step_8 step_9 mark_8 mark_9 t_2 out_13 out_14 out_15 l_15 l_16 l_17 l_18=>g κ (step_8,step_9,mark_8,mark_9,t_2,out_13,out_14,out_15,l_15,l_16,l_17,l_18)) (fun step_8 step_9 mark_8 mark_9 t_2 out_13 out_14 out_15 l_15 l_16 l_17 l_18=>h (step_8,step_9,mark_8,mark_9,t_2,out_13,out_14,out_15,l_15,l_16,l_17,l_18)) (fun step_8 step_9 mark_8 mark_9 t_2 out_13 out_14 out_15 l_15 l_16 l_17 l_18=>hg (step_8,step_9,mark_8,mark_9,t_2,out_13,out_14,out_15,l_15,l_16,l_17,l_18)) i t_1 x.1 x.2.1 x.2.2.1 x.2.2.2.1 x.2.2.2.2.1 x.2.2.2.2.2.1 x.2.2.2.2.2.2.1 x.2.2.2.2.2.2.2.1 x.2.2.2.2.2.2.2.2.1 x.2.2.2.2.2.2.2.2.2.1 x.2.2.2.2.2.2.2.2.2.2.1 x.2.2.2.2.2.2.2.2.2.2.2
theorem zj8 (r14:Tf1) (i:Int) (t_1:Int) (step_8:Tp1) (step_9:Tp1) (mark_8:Tp1) (mark_9:Tp1) (t_2:Int) (out_13:Int) (out_14:Int) (out_15:Int) (l_15:Tp15) (l_16:Tp15) (l_17:Tp15) (l_18:Tp8):zcZ i t_1 r14 step_8 step_9 mark_8 mark_9 t_2 out_13 out_14 out_15 l_15 l_16 l_17 l_18=zdi i t_1 r14 (zcZ i t_1 r14) step_8 step_9 mark_8 mark_9 t_2 out_13 out_14 out_15 l_15 l_16 l_17 l_18:=zaH (zht r14 i t_1) (step_8,step_9,mark_8,mark_9,t_2,out_13,out_14,out_15,l_15,l_16,l_17,l_18)
theorem zeK (r14:Nat->Tf1) (r14':Tf1) (h_r14:∀ a0 a1 a2 a3 a4 a5 a6 a7 a8 a9 a10 a11,ChO (fun κ=>r14 κ a0 a1 a2 a3 a4 a5 a6 a7 a8 a9 a10 a11) (r14' a0 a1 a2 a3 a4 a5 a6 a7 a8 a9 a10 a11)) (i:Int) (t_1:Int) (step_8:Tp1) (step_9:Tp1) (mark_8:Tp1) (mark_9:Tp1) (t_2:Int) (out_13:Int) (out_14:Int) (out_15:Int) (l_15:Tp15) (l_16:Tp15) (l_17:Tp15) (l_18:Tp8):ChO (fun κ=>zcZ i t_1 (r14 κ) step_8 step_9 mark_8 mark_9 t_2 out_13 out_14 out_15 l_15 l_16 l_17 l_18) (zcZ i t_1 r14' step_8 step_9 mark_8 mark_9 t_2 out_13 out_14 out_15 l_15 l_16 l_17 l_18):=by
  unfold zcZ
  exact zfk (fun κ=>(zht (r14 κ) i t_1).mono) (zht r14' i t_1).mono (fun g h hg x=>ziE r14 r14' h_r14 (fun κ step_8 step_9 mark_8 mark_9 t_2 out_13 out_14 out_15 l_15 l_16 l_17 l_18=>g κ (step_8,step_9,mark_8,mark_9,t_2,out_13,out_14,out_15,l_15,l_16,l_17,l_18)) (fun step_8 step_9 mark_8 mark_9 t_2 out_13 out_14 out_15 l_15 l_16 l_17 l_18=>h (step_8,step_9,mark_8,mark_9,t_2,out_13,out_14,out_15,l_15,l_16,l_17,l_18)) (fun step_8 step_9 mark_8 mark_9 t_2 out_13 out_14 out_15 l_15 l_16 l_17 l_18=>hg (step_8,step_9,mark_8,mark_9,t_2,out_13,out_14,out_15,l_15,l_16,l_17,l_18)) i t_1 x.1 x.2.1 x.2.2.1 x.2.2.2.1 x.2.2.2.2.1 x.2.2.2.2.2.1 x.2.2.2.2.2.2.1 x.2.2.2.2.2.2.2.1 x.2.2.2.2.2.2.2.2.1 x.2.2.2.2.2.2.2.2.2.1 x.2.2.2.2.2.2.2.2.2.2.1 x.2.2.2.2.2.2.2.2.2.2.2) _
theorem ziD (r11:Nat->Tf1) (r11':Tf1) (h_r11:∀ a0 a1 a2 a3 a4 a5 a6 a7 a8 a9 a10 a11,ChO (fun κ=>r11 κ a0 a1 a2 a3 a4 a5 a6 a7 a8 a9 a10 a11) (r11' a0 a1 a2 a3 a4 a5 a6 a7 a8 a9 a10 a11)) (r14:Nat->Tf1) (r14':Tf1) (h_r14:∀ a0 a1 a2 a3 a4 a5 a6 a7 a8 a9 a10 a11,ChO (fun κ=>r14 κ a0 a1 a2 a3 a4 a5 a6 a7 a8 a9 a10 a11) (r14' a0 a1 a2 a3 a4 a5 a6 a7 a8 a9 a10 a11)) (letters:Int) (i:Int) (step_6:Tp1) (step_7:Tp1) (mark_6:Tp1) (mark_7:Tp1) (t_1:Int) (out_10:Int) (out_11:Int) (out_12:Int) (l_11:Tp15) (l_12:Tp15) (l_13:Tp15) (l_14:Tp8):ChO (fun κ=>zdh letters i (r11 κ) (r14 κ) step_6 step_7 mark_6 mark_7 t_1 out_10 out_11 out_12 l_11 l_12 l_13 l_14) (zdh letters i r11' r14' step_6 step_7 mark_6 mark_7 t_1 out_10 out_11 out_12 l_11 l_12 l_13 l_14):=by
  unfold zdh
  repeat' with_reducible first | exact ChO.const _ | exact h_r11 _ _ _ _ _ _ _ _ _ _ _ _ | exact h_r14 _ _ _ _ _ _ _ _ _ _ _ _ | (apply zcH<;>assumption) | (apply zcL<;>assumption) | (apply zds<;>assumption) | (apply zeK<;>assumption) | apply ChO.ite | apply ChO.G | apply ChO.both | (apply ChO.bind;intro _)
theorem zhs (r11:Tf1) (letters:Int) (i:Int):Cn (zkU letters i r11):=fun g h hg x=>ziD (fun _=>r11) r11 (fun _ _ _ _ _ _ _ _ _ _ _ _=>ChO.const _) (fun κ step_6 step_7 mark_6 mark_7 t_1 out_10 out_11 out_12 l_11 l_12 l_13 l_14=>g κ (step_6,step_7,mark_6,mark_7,t_1,out_10,out_11,out_12,l_11,l_12,l_13,l_14)) (fun step_6 step_7 mark_6 mark_7 t_1 out_10 out_11 out_12 l_11 l_12 l_13 l_14=>h (step_6,step_7,mark_6,mark_7,t_1,out_10,out_11,out_12,l_11,l_12,l_13,l_14)) (fun step_6 step_7 mark_6 mark_7 t_1 out_10 out_11 out_12 l_11 l_12 l_13 l_14=>hg (step_6,step_7,mark_6,mark_7,t_1,out_10,out_11,out_12,l_11,l_12,l_13,l_14)) letters i x.1 x.2.1 x.2.2.1 x.2.2.2.1 x.2.2.2.2.1 x.2.2.2.2.2.1 x.2.2.2.2.2.2.1 x.2.2.2.2.2.2.2.1 x.2.2.2.2.2.2.2.2.1 x.2.2.2.2.2.2.2.2.2.1 x.2.2.2.2.2.2.2.2.2.2.1 x.2.2.2.2.2.2.2.2.2.2.2
theorem zj7 (r11:Tf1) (letters:Int) (i:Int) (step_6:Tp1) (step_7:Tp1) (mark_6:Tp1) (mark_7:Tp1) (t_1:Int) (out_10:Int) (out_11:Int) (out_12:Int) (l_11:Tp15) (l_12:Tp15) (l_13:Tp15) (l_14:Tp8):zdD letters i r11 step_6 step_7 mark_6 mark_7 t_1 out_10 out_11 out_12 l_11 l_12 l_13 l_14=zdh letters i r11 (zdD letters i r11) step_6 step_7 mark_6 mark_7 t_1 out_10 out_11 out_12 l_11 l_12 l_13 l_14:=zaH (zhs r11 letters i) (step_6,step_7,mark_6,mark_7,t_1,out_10,out_11,out_12,l_11,l_12,l_13,l_14)
theorem zfH (r11:Nat->Tf1) (r11':Tf1) (h_r11:∀ a0 a1 a2 a3 a4 a5 a6 a7 a8 a9 a10 a11,ChO (fun κ=>r11 κ a0 a1 a2 a3 a4 a5 a6 a7 a8 a9 a10 a11) (r11' a0 a1 a2 a3 a4 a5 a6 a7 a8 a9 a10 a11)) (letters:Int) (i:Int) (step_6:Tp1) (step_7:Tp1) (mark_6:Tp1) (mark_7:Tp1) (t_1:Int) (out_10:Int) (out_11:Int) (out_12:Int) (l_11:Tp15) (l_12:Tp15) (l_13:Tp15) (l_14:Tp8):ChO (fun κ=>zdD letters i (r11 κ) step_6 step_7 mark_6 mark_7 t_1 out_10 out_11 out_12 l_11 l_12 l_13 l_14) (zdD letters i r11' step_6 step_7 mark_6 mark_7 t_1 out_10 out_11 out_12 l_11 l_12 l_13 l_14):=by
  unfold zdD
  exact zfk (fun κ=>(zhs (r11 κ) letters i).mono) (zhs r11' letters i).mono (fun g h hg x=>ziD r11 r11' h_r11 (fun κ step_6 step_7 mark_6 mark_7 t_1 out_10 out_11 out_12 l_11 l_12 l_13 l_14=>g κ (step_6,step_7,mark_6,mark_7,t_1,out_10,out_11,out_12,l_11,l_12,l_13,l_14)) (fun step_6 step_7 mark_6 mark_7 t_1 out_10 out_11 out_12 l_11 l_12 l_13 l_14=>h (step_6,step_7,mark_6,mark_7,t_1,out_10,out_11,out_12,l_11,l_12,l_13,l_14)) (fun step_6 step_7 mark_6 mark_7 t_1 out_10 out_11 out_12 l_11 l_12 l_13 l_14=>hg (step_6,step_7,mark_6,mark_7,t_1,out_10,out_11,out_12,l_11,l_12,l_13,l_14)) letters i x.1 x.2.1 x.2.2.1 x.2.2.2.1 x.2.2.2.2.1 x.2.2.2.2.2.1 x.2.2.2.2.2.2.1 x.2.2.2.2.2.2.2.1 x.2.2.2.2.2.2.2.2.1 x.2.2.2.2.2.2.2.2.2.1 x.2.2.2.2.2.2.2.2.2.2.1 x.2.2.2.2.2.2.2.2.2.2.2) _
theorem zhr (r25:Nat->Tf2) (r25':Tf2) (h_r25:∀ a0 a1 a2 a3 a4 a5 a6 a7,ChO (fun κ=>r25 κ a0 a1 a2 a3 a4 a5 a6 a7) (r25' a0 a1 a2 a3 a4 a5 a6 a7)) (t_3:Int) (mark_16:Tp1) (mark_17:Tp1) (out_26:Int) (out_27:Int) (out_28:Int) (l_28:Tp8) (l_29:Tp15):ChO (fun κ=>zev t_3 (r25 κ) mark_16 mark_17 out_26 out_27 out_28 l_28 l_29) (zev t_3 r25' mark_16 mark_17 out_26 out_27 out_28 l_28 l_29):=by
  unfold zev
  repeat' with_reducible first | exact ChO.const _ | exact h_r25 _ _ _ _ _ _ _ _ | (apply zcH<;>assumption) | (apply zcL<;>assumption) | (apply zds<;>assumption) | (apply zeK<;>assumption) | (apply zfH<;>assumption) | apply ChO.ite | apply ChO.G | apply ChO.both | (apply ChO.bind;intro _)
theorem znd (r25:Nat->Tf2) (r25':Tf2) (h_r25:∀ a0 a1 a2 a3 a4 a5 a6 a7,ChO (fun κ=>r25 κ a0 a1 a2 a3 a4 a5 a6 a7) (r25' a0 a1 a2 a3 a4 a5 a6 a7)) (l_7:Tp15) (mark_14:Tp1) (mark_15:Tp1) (t_3:Int) (out_22:Int) (out_23:Int) (out_24:Int) (l_27:Tp8) (out_25:Tp15):ChO (fun κ=>zdj l_7 (r25 κ) mark_14 mark_15 t_3 out_22 out_23 out_24 l_27 out_25) (zdj l_7 r25' mark_14 mark_15 t_3 out_22 out_23 out_24 l_27 out_25):=by
  unfold zdj
  repeat' with_reducible first | exact ChO.const _ | exact h_r25 _ _ _ _ _ _ _ _ | (apply zcH<;>assumption) | (apply zcL<;>assumption) | (apply zds<;>assumption) | (apply zeK<;>assumption) | (apply zfH<;>assumption) | (apply zhr<;>assumption) | apply ChO.ite | apply ChO.G | apply ChO.both | (apply ChO.bind;intro _)
theorem zoT  (l_7:Tp15):Cn (zkW l_7):=fun g h hg x=>znd  (fun κ mark_14 mark_15 t_3 out_22 out_23 out_24 l_27 out_25=>g κ (mark_14,mark_15,t_3,out_22,out_23,out_24,l_27,out_25)) (fun mark_14 mark_15 t_3 out_22 out_23 out_24 l_27 out_25=>h (mark_14,mark_15,t_3,out_22,out_23,out_24,l_27,out_25)) (fun mark_14 mark_15 t_3 out_22 out_23 out_24 l_27 out_25=>hg (mark_14,mark_15,t_3,out_22,out_23,out_24,l_27,out_25)) l_7 x.1 x.2.1 x.2.2.1 x.2.2.2.1 x.2.2.2.2.1 x.2.2.2.2.2.1 x.2.2.2.2.2.2.1 x.2.2.2.2.2.2.2
theorem zj9  (l_7:Tp15) (mark_14:Tp1) (mark_15:Tp1) (t_3:Int) (out_22:Int) (out_23:Int) (out_24:Int) (l_27:Tp8) (out_25:Tp15):zdE l_7 mark_14 mark_15 t_3 out_22 out_23 out_24 l_27 out_25=zdj l_7 (zdE l_7) mark_14 mark_15 t_3 out_22 out_23 out_24 l_27 out_25:=zaH (zoT l_7) (mark_14,mark_15,t_3,out_22,out_23,out_24,l_27,out_25)
theorem znc (r11:Nat->Tf1) (r11':Tf1) (h_r11:∀ a0 a1 a2 a3 a4 a5 a6 a7 a8 a9 a10 a11,ChO (fun κ=>r11 κ a0 a1 a2 a3 a4 a5 a6 a7 a8 a9 a10 a11) (r11' a0 a1 a2 a3 a4 a5 a6 a7 a8 a9 a10 a11)) (letters:Int) (step_4:Tp1) (step_5:Tp1) (mark_4:Tp1) (mark_5:Tp1) (i:Int) (out_7:Int) (out_8:Int) (out_9:Int) (l_7:Tp15) (l_8:Tp15) (l_9:Tp15) (l_10:Tp8):ChO (fun κ=>zdg letters (r11 κ) step_4 step_5 mark_4 mark_5 i out_7 out_8 out_9 l_7 l_8 l_9 l_10) (zdg letters r11' step_4 step_5 mark_4 mark_5 i out_7 out_8 out_9 l_7 l_8 l_9 l_10):=by
  unfold zdg
  repeat' with_reducible first | exact ChO.const _ | exact h_r11 _ _ _ _ _ _ _ _ _ _ _ _ | (apply zcH<;>assumption) | (apply zcL<;>assumption) | (apply zds<;>assumption) | (apply zeK<;>assumption) | (apply zfH<;>assumption) | (apply zhr<;>assumption) | apply ChO.ite | apply ChO.G | apply ChO.both | (apply ChO.bind;intro _)
theorem zoS  (letters:Int):Cn (zkT letters):=fun g h hg x=>znc  (fun κ step_4 step_5 mark_4 mark_5 i out_7 out_8 out_9 l_7 l_8 l_9 l_10=>g κ (step_4,step_5,mark_4,mark_5,i,out_7,out_8,out_9,l_7,l_8,l_9,l_10)) (fun step_4 step_5 mark_4 mark_5 i out_7 out_8 out_9 l_7 l_8 l_9 l_10=>h (step_4,step_5,mark_4,mark_5,i,out_7,out_8,out_9,l_7,l_8,l_9,l_10)) (fun step_4 step_5 mark_4 mark_5 i out_7 out_8 out_9 l_7 l_8 l_9 l_10=>hg (step_4,step_5,mark_4,mark_5,i,out_7,out_8,out_9,l_7,l_8,l_9,l_10)) letters x.1 x.2.1 x.2.2.1 x.2.2.2.1 x.2.2.2.2.1 x.2.2.2.2.2.1 x.2.2.2.2.2.2.1 x.2.2.2.2.2.2.2.1 x.2.2.2.2.2.2.2.2.1 x.2.2.2.2.2.2.2.2.2.1 x.2.2.2.2.2.2.2.2.2.2.1 x.2.2.2.2.2.2.2.2.2.2.2
theorem zj6  (letters:Int) (step_4:Tp1) (step_5:Tp1) (mark_4:Tp1) (mark_5:Tp1) (i:Int) (out_7:Int) (out_8:Int) (out_9:Int) (l_7:Tp15) (l_8:Tp15) (l_9:Tp15) (l_10:Tp8):zgw letters step_4 step_5 mark_4 mark_5 i out_7 out_8 out_9 l_7 l_8 l_9 l_10=zdg letters (zgw letters) step_4 step_5 mark_4 mark_5 i out_7 out_8 out_9 l_7 l_8 l_9 l_10:=zaH (zoS letters) (step_4,step_5,mark_4,mark_5,i,out_7,out_8,out_9,l_7,l_8,l_9,l_10)
theorem znS (r6:Nat->Tf1) (r6':Tf1) (h_r6:∀ a0 a1 a2 a3 a4 a5 a6 a7 a8 a9 a10 a11,ChO (fun κ=>r6 κ a0 a1 a2 a3 a4 a5 a6 a7 a8 a9 a10 a11) (r6' a0 a1 a2 a3 a4 a5 a6 a7 a8 a9 a10 a11)) (letters:Int) (step:Tp1) (step_1:Tp1) (mark:Tp1) (mark_1:Tp1) (t:Int) (out:Int) (out_1:Int) (out_2:Int) (l:Tp15) (l_1:Tp15) (l_2:Tp15) (out_3:Tp8):ChO (fun κ=>zdN letters (r6 κ) step step_1 mark mark_1 t out out_1 out_2 l l_1 l_2 out_3) (zdN letters r6' step step_1 mark mark_1 t out out_1 out_2 l l_1 l_2 out_3):=by
  unfold zdN
  repeat' with_reducible first | exact ChO.const _ | exact h_r6 _ _ _ _ _ _ _ _ _ _ _ _ | (apply zcH<;>assumption) | (apply zcL<;>assumption) | (apply zds<;>assumption) | (apply zeK<;>assumption) | (apply zfH<;>assumption) | (apply zhr<;>assumption) | apply ChO.ite | apply ChO.G | apply ChO.both | (apply ChO.bind;intro _)
theorem zp4  (letters:Int):Cn (zlM letters):=fun g h hg x=>znS  (fun κ step step_1 mark mark_1 t out out_1 out_2 l l_1 l_2 out_3=>g κ (step,step_1,mark,mark_1,t,out,out_1,out_2,l,l_1,l_2,out_3)) (fun step step_1 mark mark_1 t out out_1 out_2 l l_1 l_2 out_3=>h (step,step_1,mark,mark_1,t,out,out_1,out_2,l,l_1,l_2,out_3)) (fun step step_1 mark mark_1 t out out_1 out_2 l l_1 l_2 out_3=>hg (step,step_1,mark,mark_1,t,out,out_1,out_2,l,l_1,l_2,out_3)) letters x.1 x.2.1 x.2.2.1 x.2.2.2.1 x.2.2.2.2.1 x.2.2.2.2.2.1 x.2.2.2.2.2.2.1 x.2.2.2.2.2.2.2.1 x.2.2.2.2.2.2.2.2.1 x.2.2.2.2.2.2.2.2.2.1 x.2.2.2.2.2.2.2.2.2.2.1 x.2.2.2.2.2.2.2.2.2.2.2
theorem zkX  (letters:Int) (step:Tp1) (step_1:Tp1) (mark:Tp1) (mark_1:Tp1) (t:Int) (out:Int) (out_1:Int) (out_2:Int) (l:Tp15) (l_1:Tp15) (l_2:Tp15) (out_3:Tp8):zha letters step step_1 mark mark_1 t out out_1 out_2 l l_1 l_2 out_3=zdN letters (zha letters) step step_1 mark mark_1 t out out_1 out_2 l l_1 l_2 out_3:=zaH (zp4 letters) (step,step_1,mark,mark_1,t,out,out_1,out_2,l,l_1,l_2,out_3)

def zeL (t:Int) (r6:(Bool->Int->Tp15->Tp15->Option Tp11)) (size_3:Tp15) (by'_3:Tp15):Option Tp11:=
  G (fits (t+(1:Int))) (
  r6 true (t+(1:Int)) size_3 by'_3)
def zc5 (a:Tp1) (again_1:Bool) (t:Int) (size_2:Tp15) (by'_2:Tp15) (r6:(Bool->Int->Tp15->Tp15->Option Tp11)) (n:Int) (t_1:Bool):Option Tp11:=
  if t_1=true then
  G (0<=((((ix a.2.2.1 t).2).2).2).1/\((((ix a.2.2.1 t).2).2).2).1 < (size_2.length:Int)) (
  both [(.list (.int .i64)),(.list (.int .i64))] (
  G ((((((ix a.2.2.1 t).2).2).2).1).toNat < size_2.length) (
  G (0<=((((ix a.2.2.1 t).2).2).2).1/\((((ix a.2.2.1 t).2).2).2).1 < (by'_2.length:Int)) (
  G ((((((ix a.2.2.1 t).2).2).2).1).toNat < by'_2.length) (
  zeL t r6 (size_2.set (((((ix a.2.2.1 t).2).2).2).1).toNat n) (by'_2.set (((((ix a.2.2.1 t).2).2).2).1).toNat t))))) (
  G ((((((ix a.2.2.1 t).2).2).2).1).toNat < size_2.length) (
  G (0<=((((ix a.2.2.1 t).2).2).2).1/\((((ix a.2.2.1 t).2).2).2).1 < (by'_2.length:Int)) (
  G ((((((ix a.2.2.1 t).2).2).2).1).toNat < by'_2.length) (
  zeL t r6 (size_2.set (((((ix a.2.2.1 t).2).2).2).1).toNat n) (by'_2.set (((((ix a.2.2.1 t).2).2).2).1).toNat t)))))) else
  G (fits (t+(1:Int))) (
  r6 again_1 (t+(1:Int)) size_2 by'_2)
def zdM (a:Tp1) (again_1:Bool) (t:Int) (size_2:Tp15) (by'_2:Tp15) (r6:(Bool->Int->Tp15->Tp15->Option Tp11)) (n:Int):Option Tp11:=
  if (decide (n<=(60:Int)))=true then
  G (0<=((((ix a.2.2.1 t).2).2).2).1/\((((ix a.2.2.1 t).2).2).2).1 < (size_2.length:Int)) (
  G ((((((ix a.2.2.1 t).2).2).2).1).toNat < size_2.length) (
  if (decide ((ix size_2 (((((ix a.2.2.1 t).2).2).2).1))=(0:Int)))=true then
  zc5 a again_1 t size_2 by'_2 r6 n true else
  G (0<=((((ix a.2.2.1 t).2).2).2).1/\((((ix a.2.2.1 t).2).2).2).1 < (size_2.length:Int)) (
  G ((((((ix a.2.2.1 t).2).2).2).1).toNat < size_2.length) (
  zc5 a again_1 t size_2 by'_2 r6 n (decide (n < (ix size_2 (((((ix a.2.2.1 t).2).2).2).1)))))))) else
  zc5 a again_1 t size_2 by'_2 r6 n false
def zdf (a:Tp1) (r3:(Bool->Tp15->Tp15->Option Tp11)) (r6:Tf4) (again_1:Bool) (t:Int) (size_2:Tp15) (by'_2:Tp15):Option Tp11:=
  if (decide (t < (a.2.2.1.length:Int)))=true then
  G (0<=t/\t < (a.2.2.1.length:Int)) (
  if (decide ((0:Int)<=(((ix a.2.2.1 t).2).1)))=true then
  G (0<=((ix a.2.2.1 t).2).1/\((ix a.2.2.1 t).2).1 < (size_2.length:Int)) (
  G ((((ix a.2.2.1 t).2).1).toNat < size_2.length) (
  if (decide ((ix size_2 (((ix a.2.2.1 t).2).1))=(0:Int)))=true then
  G (fits (t+(1:Int))) (
  r6 again_1 (t+(1:Int)) size_2 by'_2) else
  G (0<=(((ix a.2.2.1 t).2).2).1/\(((ix a.2.2.1 t).2).2).1 < (size_2.length:Int)) (
  G (((((ix a.2.2.1 t).2).2).1).toNat < size_2.length) (
  if (decide ((ix size_2 ((((ix a.2.2.1 t).2).2).1))=(0:Int)))=true then
  G (fits (t+(1:Int))) (
  r6 again_1 (t+(1:Int)) size_2 by'_2) else
  G (0<=((ix a.2.2.1 t).2).1/\((ix a.2.2.1 t).2).1 < (size_2.length:Int)) (
  G ((((ix a.2.2.1 t).2).1).toNat < size_2.length) (
  G (0<=(((ix a.2.2.1 t).2).2).1/\(((ix a.2.2.1 t).2).2).1 < (size_2.length:Int)) (
  G (((((ix a.2.2.1 t).2).2).1).toNat < size_2.length) (
  G (fits ((ix size_2 (((ix a.2.2.1 t).2).1))+(ix size_2 ((((ix a.2.2.1 t).2).2).1)))) (
  G (fits ((1:Int)+((ix size_2 (((ix a.2.2.1 t).2).1))+(ix size_2 ((((ix a.2.2.1 t).2).2).1))))) (
  zdM a again_1 t size_2 by'_2 r6 ((1:Int)+((ix size_2 (((ix a.2.2.1 t).2).1))+(ix size_2 ((((ix a.2.2.1 t).2).2).1)))))))))))))) else
  zdM a again_1 t size_2 by'_2 r6 (1:Int)) else
  r3 again_1 size_2 by'_2
def zkP (a:Tp1) (r3:(Bool->Tp15->Tp15->Option Tp11)):(Bool×Int×Tp15×Tp15->Option Tp11)->Bool×Int×Tp15×Tp15->Option Tp11:=
  fun rec x=>zdf a r3 (fun again_1 t size_2 by'_2=>rec (again_1,t,size_2,by'_2)) x.1 x.2.1 x.2.2.1 x.2.2.2
def zb6 (a:Tp1) (r3:(Bool->Tp15->Tp15->Option Tp11)) (again_1:Bool) (t:Int) (size_2:Tp15) (by'_2:Tp15):Option Tp11:=LFix (zkP a r3 ) (again_1,t,size_2,by'_2)
def zbH (a:Tp1) (r3:Tf7) (again:Bool) (size_1:Tp15) (by'_1:Tp15):Option Tp11:=
  if again=true then
  zb6 a r3 false (0:Int) size_1 by'_1 else
  some (size_1,by'_1)
def zkO (a:Tp1):(Bool×Tp15×Tp15->Option Tp11)->Bool×Tp15×Tp15->Option Tp11:=
  fun rec x=>zbH a (fun again size_1 by'_1=>rec (again,size_1,by'_1)) x.1 x.2.1 x.2.2
def zfd (a:Tp1) (again:Bool) (size_1:Tp15) (by'_1:Tp15):Option Tp11:=LFix (zkO a ) (again,size_1,by'_1)
def zjL (a:Tp1) (size:Tp15) (by':Tp15):Option Tp11:=
  zfd a true size by'
def zjk (a:Tp1):Option Tp11:=
  both [(.list (.int .i64)),(.list (.int .i64))] (
  G (mkOK a.2.1 a.2.1 8) (
  G (mkOK a.2.1 a.2.1 8) (
  zjL a (List.replicate (a.2.1).toNat (0:Int)) (List.replicate (a.2.1).toNat (0:Int))))) (
  G (mkOK a.2.1 a.2.1 8) (
  G (mkOK a.2.1 a.2.1 8) (
  zjL a (List.replicate (a.2.1).toNat (0:Int)) (List.replicate (a.2.1).toNat (0:Int)))))
theorem zfc (r6:Nat->Tf4) (r6':Tf4) (h_r6:∀ a0 a1 a2 a3,ChO (fun κ=>r6 κ a0 a1 a2 a3) (r6' a0 a1 a2 a3)) (t:Int) (size_3:Tp15) (by'_3:Tp15):ChO (fun κ=>zeL t (r6 κ) size_3 by'_3) (zeL t r6' size_3 by'_3):=by
  unfold zeL
  repeat' with_reducible first | exact ChO.const _ | exact h_r6 _ _ _ _ | apply ChO.ite | apply ChO.G | apply ChO.both | (apply ChO.bind;intro _)
theorem zgR (r6:Nat->Tf4) (r6':Tf4) (h_r6:∀ a0 a1 a2 a3,ChO (fun κ=>r6 κ a0 a1 a2 a3) (r6' a0 a1 a2 a3)) (a:Tp1) (again_1:Bool) (t:Int) (size_2:Tp15) (by'_2:Tp15) (n:Int) (t_1:Bool):ChO (fun κ=>zc5 a again_1 t size_2 by'_2 (r6 κ) n t_1) (zc5 a again_1 t size_2 by'_2 r6' n t_1):=by
  unfold zc5
  repeat' with_reducible first | exact ChO.const _ | exact h_r6 _ _ _ _ | (apply zfc<;>assumption) | apply ChO.ite | apply ChO.G | apply ChO.both | (apply ChO.bind;intro _)
theorem zjl (r6:Nat->Tf4) (r6':Tf4) (h_r6:∀ a0 a1 a2 a3,ChO (fun κ=>r6 κ a0 a1 a2 a3) (r6' a0 a1 a2 a3)) (a:Tp1) (again_1:Bool) (t:Int) (size_2:Tp15) (by'_2:Tp15) (n:Int):ChO (fun κ=>zdM a again_1 t size_2 by'_2 (r6 κ) n) (zdM a again_1 t size_2 by'_2 r6' n):=by
  unfold zdM
  repeat' with_reducible first | exact ChO.const _ | exact h_r6 _ _ _ _ | (apply zfc<;>assumption) | (apply zgR<;>assumption) | apply ChO.ite | apply ChO.G | apply ChO.both | (apply ChO.bind;intro _)
theorem ziB (r3:Nat->Tf7) (r3':Tf7) (h_r3:∀ a0 a1 a2,ChO (fun κ=>r3 κ a0 a1 a2) (r3' a0 a1 a2)) (r6:Nat->Tf4) (r6':Tf4) (h_r6:∀ a0 a1 a2 a3,ChO (fun κ=>r6 κ a0 a1 a2 a3) (r6' a0 a1 a2 a3)) (a:Tp1) (again_1:Bool) (t:Int) (size_2:Tp15) (by'_2:Tp15):ChO (fun κ=>zdf a (r3 κ) (r6 κ) again_1 t size_2 by'_2) (zdf a r3' r6' again_1 t size_2 by'_2):=by
  unfold zdf
  repeat' with_reducible first | exact ChO.const _ | exact h_r3 _ _ _ | exact h_r6 _ _ _ _ | (apply zfc<;>assumption) | (apply zgR<;>assumption) | (apply zjl<;>assumption) | apply ChO.ite | apply ChO.G | apply ChO.both | (apply ChO.bind;intro _)
theorem zhq (r3:Tf7) (a:Tp1):Cn (zkP a r3):=fun g h hg x=>ziB (fun _=>r3) r3 (fun _ _ _=>ChO.const _) (fun κ again_1 t size_2 by'_2=>g κ (again_1,t,size_2,by'_2)) (fun again_1 t size_2 by'_2=>h (again_1,t,size_2,by'_2)) (fun again_1 t size_2 by'_2=>hg (again_1,t,size_2,by'_2)) a x.1 x.2.1 x.2.2.1 x.2.2.2
theorem zj5 (r3:Tf7) (a:Tp1) (again_1:Bool) (t:Int) (size_2:Tp15) (by'_2:Tp15):zb6 a r3 again_1 t size_2 by'_2=zdf a r3 (zb6 a r3) again_1 t size_2 by'_2:=zaH (zhq r3 a) (again_1,t,size_2,by'_2)
theorem zoR (r3:Nat->Tf7) (r3':Tf7) (h_r3:∀ a0 a1 a2,ChO (fun κ=>r3 κ a0 a1 a2) (r3' a0 a1 a2)) (a:Tp1) (again_1:Bool) (t:Int) (size_2:Tp15) (by'_2:Tp15):ChO (fun κ=>zb6 a (r3 κ) again_1 t size_2 by'_2) (zb6 a r3' again_1 t size_2 by'_2):=by
  unfold zb6
  exact zfk (fun κ=>(zhq (r3 κ) a).mono) (zhq r3' a).mono (fun g h hg x=>ziB r3 r3' h_r3 (fun κ again_1 t size_2 by'_2=>g κ (again_1,t,size_2,by'_2)) (fun again_1 t size_2 by'_2=>h (again_1,t,size_2,by'_2)) (fun again_1 t size_2 by'_2=>hg (again_1,t,size_2,by'_2)) a x.1 x.2.1 x.2.2.1 x.2.2.2) _
theorem zna (r3:Nat->Tf7) (r3':Tf7) (h_r3:∀ a0 a1 a2,ChO (fun κ=>r3 κ a0 a1 a2) (r3' a0 a1 a2)) (a:Tp1) (again:Bool) (size_1:Tp15) (by'_1:Tp15):ChO (fun κ=>zbH a (r3 κ) again size_1 by'_1) (zbH a r3' again size_1 by'_1):=by
  unfold zbH
  repeat' with_reducible first | exact ChO.const _ | exact h_r3 _ _ _ | (apply zfc<;>assumption) | (apply zgR<;>assumption) | (apply zjl<;>assumption) | (apply zoR<;>assumption) | apply ChO.ite | apply ChO.G | apply ChO.both | (apply ChO.bind;intro _)
theorem zoQ  (a:Tp1):Cn (zkO a):=fun g h hg x=>zna  (fun κ again size_1 by'_1=>g κ (again,size_1,by'_1)) (fun again size_1 by'_1=>h (again,size_1,by'_1)) (fun again size_1 by'_1=>hg (again,size_1,by'_1)) a x.1 x.2.1 x.2.2
theorem zeJ  (a:Tp1) (again:Bool) (size_1:Tp15) (by'_1:Tp15):zfd a again size_1 by'_1=zbH a (zfd a) again size_1 by'_1:=zaH (zoQ a) (again,size_1,by'_1)

def zjM (x':Int) (x'_1:Int) (x'_2:Int) (l_1:Tp9):Option Tp7:=
  G (room l_1 ([(x',(x'_1,(x'_2,())))]) 24) (
  G (fits (((l_1++([(x',(x'_1,(x'_2,())))])).length:Int) - (1:Int))) (
  some (((l_1++([(x',(x'_1,(x'_2,())))])).length:Int) - (1:Int),l_1++([(x',(x'_1,(x'_2,())))]))))
def zhL (zh2:Tf5) (a:Tp1) (by':Tp15) (q:Int) (l:Tp9):Option Tp7:=
  G (0<=q/\q < (by'.length:Int)) (
  G (0<=ix by' q/\ix by' q < (a.2.2.1.length:Int)) (
  if (decide ((0:Int)<=(((ix a.2.2.1 (ix by' q)).2).1)))=true then
  (zh2 (a.1,(a.2.1,(a.2.2.1,(a.2.2.2.1,(a.2.2.2.2.1,()))))) by' (((ix a.2.2.1 (ix by' q)).2).1) l).bind (fun y'_7=>
  (zh2 (a.1,(a.2.1,(a.2.2.1,(a.2.2.2.1,(a.2.2.2.2.1,()))))) by' ((((ix a.2.2.1 (ix by' q)).2).2).1) y'_7.2).bind (fun y'_6=>
  zjM ((ix a.2.2.1 (ix by' q)).1) y'_7.1 y'_6.1 y'_6.2)) else
  zjM ((ix a.2.2.1 (ix by' q)).1) (-1:Int) (-1:Int) l))
theorem zr6 (zh2:Nat->Tf5) (zoo:Tf5) (zmp:∀ a0 a1 a2 a3,ChO (fun κ=>zh2 κ a0 a1 a2 a3) (zoo a0 a1 a2 a3)) (a:Tp1) (by':Tp15) (q:Int) (l:Tp9):ChO (fun κ=>zhL (zh2 κ) a by' q l) (zhL zoo a by' q l):=by
  unfold zhL
  repeat' with_reducible first | exact ChO.const _ | exact zmp _ _ _ _ | apply ChO.ite | apply ChO.G | apply ChO.both | (apply ChO.bind;intro _) | (apply ChO.bind2 (zmp _ _ _ _);intro _)
def zlg:(Tp1×Tp15×Int×Tp9->Option Tp7)->Tp1×Tp15×Int×Tp9->Option Tp7:=
  fun rec X=>zhL (fun a by' q l=>rec (a,by',q,l)) X.1 X.2.1 X.2.2.1 X.2.2.2
def ziC (a:Tp1) (by':Tp15) (q:Int) (l:Tp9):Option Tp7:=LFix zlg (a,by',q,l)
theorem zue:Cn zlg:=fun g h hg X=>zr6 _ _ (fun a by' q l=>hg (a,by',q,l)) X.1 X.2.1 X.2.2.1 X.2.2.2
theorem zuf (a:Tp1) (by':Tp15) (q:Int) (l:Tp9):ziC a by' q l=zhL ziC a by' q l:=zaH zue (a,by',q,l)

def zdO (a:Tp1) (y':Tp15) (y'_1:Tp15) (r4:Int->Int->Option Tp2) (best:Int) (t:Int):Option Tp2:=
  if (decide (t < (y'.length:Int)))=true then
  G (0<=t/\t < (y'.length:Int)) (
  G ((t).toNat < y'.length) (
  if (decide ((0:Int) < (ix y' t)))=true then
  G (0<=t/\t < (a.2.2.2.2.1.length:Int)) (
  if (decide ((ix a.2.2.2.2.1 t)=(1:Int)))=true then
  if (decide (best < (0:Int)))=true then
  G (fits (t+(1:Int))) (
  r4 t (t+(1:Int))) else
  G (0<=best/\best < (y'.length:Int)) (
  G ((best).toNat < y'.length) (
  if (decide ((ix y' t) < (ix y' best)))=true then
  G (fits (t+(1:Int))) (
  r4 t (t+(1:Int))) else
  G (fits (t+(1:Int))) (
  r4 best (t+(1:Int))))) else
  G (fits (t+(1:Int))) (
  r4 best (t+(1:Int)))) else
  G (fits (t+(1:Int))) (
  r4 best (t+(1:Int))))) else
  if (decide (best < (0:Int)))=true then
  some (([],()),false,(0:Int)) else
  (ziC (a.1,(a.2.1,(a.2.2.1,(a.2.2.2.1,(a.2.2.2.2.1,()))))) y'_1 best ([]:List Tp12)).bind (fun y'_6=>
  some ((y'_6.2,()),true,(0:Int)))
def zlN (a:Tp1) (y':Tp15) (y'_1:Tp15):(Int×Int->Option Tp2)->Int×Int->Option Tp2:=
  fun rec x=>zdO a y' y'_1 (fun best t=>rec (best,t)) x.1 x.2
def zf4 (a:Tp1) (y':Tp15) (y'_1:Tp15) (best:Int) (t:Int):Option Tp2:=LFix (zlN a y' y'_1 ) (best,t)
def zjm (a:Tp1):Option Tp2:=
  (zjk (a.1,(a.2.1,(a.2.2.1,(a.2.2.2.1,(a.2.2.2.2.1,())))))).bind (fun y'_7=>
  zf4 a y'_7.1 y'_7.2 (-1:Int) (0:Int))
theorem znT (r4:Nat->Int->Int->Option Tp2) (r4':Int->Int->Option Tp2) (h_r4:∀ a0 a1,ChO (fun κ=>r4 κ a0 a1) (r4' a0 a1)) (a:Tp1) (y':Tp15) (y'_1:Tp15) (best:Int) (t:Int):ChO (fun κ=>zdO a y' y'_1 (r4 κ) best t) (zdO a y' y'_1 r4' best t):=by
  unfold zdO
  repeat' with_reducible first | exact ChO.const _ | exact h_r4 _ _ | apply ChO.ite | apply ChO.G | apply ChO.both | (apply ChO.bind;intro _)
theorem zp5  (a:Tp1) (y':Tp15) (y'_1:Tp15):Cn (zlN a y' y'_1):=fun g h hg x=>znT  (fun κ best t=>g κ (best,t)) (fun best t=>h (best,t)) (fun best t=>hg (best,t)) a y' y'_1 x.1 x.2
theorem zkY  (a:Tp1) (y':Tp15) (y'_1:Tp15) (best:Int) (t:Int):zf4 a y' y'_1 best t=zdO a y' y'_1 (zf4 a y' y'_1) best t:=zaH (zp5 a y' y'_1) (best,t)

def zd6 (s:Tp15) (v:Int) (r2:Int->Option (Int)) (t:Int):Option (Int):=
  if (decide (t < (s.length:Int)))=true then
  G (0<=t/\t < (s.length:Int)) (
  if (decide (v=(ix s t)))=true then
  some t else
  G (fits (t+(1:Int))) (
  r2 (t+(1:Int)))) else
  some (-1:Int)
def zi9 (s:Tp15) (v:Int):(Int->Option (Int))->Int->Option (Int):=
  fun rec x=>zd6 s v (fun t=>rec t) x
def zia (s:Tp15) (v:Int) (t:Int):Option (Int):=LFix (zi9 s v ) t
def zor (s:Tp15) (v:Int):Option (Int):=
  zia s v (0:Int)
theorem zll (r2:Nat->Int->Option (Int)) (r2':Int->Option (Int)) (h_r2:∀ a0,ChO (fun κ=>r2 κ a0) (r2' a0)) (s:Tp15) (v:Int) (t:Int):ChO (fun κ=>zd6 s v (r2 κ) t) (zd6 s v r2' t):=by
  unfold zd6
  repeat' with_reducible first | exact ChO.const _ | exact h_r2 _ | apply ChO.ite | apply ChO.G | apply ChO.both | (apply ChO.bind;intro _)
theorem zm0  (s:Tp15) (v:Int):Cn (zi9 s v):=fun g h hg x=>zll  (fun κ t=>g κ t) (fun t=>h t) (fun t=>hg t) s v x
theorem zm1  (s:Tp15) (v:Int) (t:Int):zia s v t=zd6 s v (zia s v) t:=zaH (zm0 s v) t

def zgk (s:Tp15) (v:Int):Option (Bool):=
  (zor s v).bind (fun y'=>
  some (decide ((0:Int)<=y')))

def zbi (a:Tp1) (b:Tp1) (r2:Int->Option Tp2) (t:Int):Option Tp2:=
  if (decide (t < (([(a.1,(a.2.1,(a.2.2.1,(a.2.2.2.1,(a.2.2.2.2.1,()))))),(b.1,(b.2.1,(b.2.2.1,(b.2.2.2.1,(b.2.2.2.2.1,())))))]).length:Int)))=true then
  G (0<=t/\t < (([(a.1,(a.2.1,(a.2.2.1,(a.2.2.2.1,(a.2.2.2.2.1,()))))),(b.1,(b.2.1,(b.2.2.1,(b.2.2.2.1,(b.2.2.2.2.1,())))))]).length:Int)) (
  G ((t).toNat < ([(a.1,(a.2.1,(a.2.2.1,(a.2.2.2.1,(a.2.2.2.2.1,()))))),(b.1,(b.2.1,(b.2.2.1,(b.2.2.2.1,(b.2.2.2.2.1,())))))]).length) (
  (zlf ((ix ([(a.1,(a.2.1,(a.2.2.1,(a.2.2.2.1,(a.2.2.2.2.1,()))))),(b.1,(b.2.1,(b.2.2.1,(b.2.2.2.1,(b.2.2.2.2.1,())))))]) t).1,(((ix ([(a.1,(a.2.1,(a.2.2.1,(a.2.2.2.1,(a.2.2.2.2.1,()))))),(b.1,(b.2.1,(b.2.2.1,(b.2.2.2.1,(b.2.2.2.2.1,())))))]) t).2).1,((((ix ([(a.1,(a.2.1,(a.2.2.1,(a.2.2.2.1,(a.2.2.2.2.1,()))))),(b.1,(b.2.1,(b.2.2.1,(b.2.2.2.1,(b.2.2.2.2.1,())))))]) t).2).2).1,(((((ix ([(a.1,(a.2.1,(a.2.2.1,(a.2.2.2.1,(a.2.2.2.2.1,()))))),(b.1,(b.2.1,(b.2.2.1,(b.2.2.2.1,(b.2.2.2.2.1,())))))]) t).2).2).2).1,((((((ix ([(a.1,(a.2.1,(a.2.2.1,(a.2.2.2.1,(a.2.2.2.2.1,()))))),(b.1,(b.2.1,(b.2.2.1,(b.2.2.2.1,(b.2.2.2.2.1,())))))]) t).2).2).2).2).1,())))))).bind (fun y'=>
  if (decide (¬ y'=(0:Int)))=true then
  some (([],()),false,y') else
  G (fits (t+(1:Int))) (
  r2 (t+(1:Int)))))) else
  if (decide (¬ a.1=b.1))=true then
  some (([],()),false,(3:Int)) else
  if (decide ((3:Int) < a.2.1))=true then
  some (([],()),false,(1:Int)) else
  if (decide ((3:Int) < b.2.1))=true then
  some (([],()),false,(1:Int)) else
  if (decide ((2:Int) < a.1))=true then
  some (([],()),false,(1:Int)) else
  (zkQ a.1 (a.1,(a.2.1,(a.2.2.1,(a.2.2.2.1,(a.2.2.2.2.1,()))))) (b.1,(b.2.1,(b.2.2.1,(b.2.2.2.1,(b.2.2.2.2.1,()))))) (a.1,(a.2.1,(a.2.2.1,(a.2.2.2.1,(a.2.2.2.2.1,()))))) (b.1,(b.2.1,(b.2.2.1,(b.2.2.2.1,(b.2.2.2.2.1,())))))).bind (fun y'_1=>
  (zjm (y'_1.1,(y'_1.2.1,(y'_1.2.2.1,(y'_1.2.2.2.1,(y'_1.2.2.2.2.1,())))))).bind (fun y'_7=>
  if (!y'_7.2.1)=true then
  (zgk y'_1.2.2.2.2.1 (1:Int)).bind (fun y'_6=>
  if y'_6=true then
  some (([],()),false,(7:Int)) else
  some ((y'_7.1.1,()),!y'_7.2.1,(0:Int))) else
  some ((y'_7.1.1,()),!y'_7.2.1,(0:Int))))
def zj4 (a:Tp1) (b:Tp1):(Int->Option Tp2)->Int->Option Tp2:=
  fun rec x=>zbi a b (fun t=>rec t) x
def ziP (a:Tp1) (b:Tp1) (t:Int):Option Tp2:=LFix (zj4 a b ) t
def zfR (a:Tp1) (b:Tp1):Option Tp2:=
  ziP a b (0:Int)
theorem zl3 (r2:Nat->Int->Option Tp2) (r2':Int->Option Tp2) (h_r2:∀ a0,ChO (fun κ=>r2 κ a0) (r2' a0)) (a:Tp1) (b:Tp1) (t:Int):ChO (fun κ=>zbi a b (r2 κ) t) (zbi a b r2' t):=by
  unfold zbi
  repeat' with_reducible first | exact ChO.const _ | exact h_r2 _ | apply ChO.ite | apply ChO.G | apply ChO.both | (apply ChO.bind;intro _)
theorem znQ  (a:Tp1) (b:Tp1):Cn (zj4 a b):=fun g h hg x=>zl3  (fun κ t=>g κ t) (fun t=>h t) (fun t=>hg t) a b x
theorem zc9  (a:Tp1) (b:Tp1) (t:Int):ziP a b t=zbi a b (ziP a b) t:=zaH (znQ a b) t

def zmI (x':Tp10) (y':Tp10):Option (Bool):=
  if (decide (¬ x'.1=y'.1))=true then
  some (decide (x'.1 < y'.1)) else
  if (decide (¬ x'.2.1=y'.2.1))=true then
  some (decide (x'.2.1 < y'.2.1)) else
  if (decide (¬ x'.2.2.1=y'.2.2.1))=true then
  some (decide (x'.2.2.1 < y'.2.2.1)) else
  some (decide (x'.2.2.2.1 < y'.2.2.2.1))

def zbY (t:Tp1) (i:Int) (r6:(Int->Option (Int))) (leaf:Bool) (both':Bool):Option (Int):=
  if (decide (((ix t.2.2.1 i).1) < (0:Int)))=true then
  some (2:Int) else
  if (decide (t.1<=((ix t.2.2.1 i).1)))=true then
  some (2:Int) else
  if (decide ((((((ix t.2.2.1 i).2).2).2).1) < (0:Int)))=true then
  some (2:Int) else
  if (decide (t.2.1<=(((((ix t.2.2.1 i).2).2).2).1)))=true then
  some (2:Int) else
  if (!leaf)=true then
  if (!both')=true then
  some (2:Int) else
  G (fits (i+(1:Int))) (
  r6 (i+(1:Int))) else
  G (fits (i+(1:Int))) (
  r6 (i+(1:Int)))
def zdu (t:Tp1) (i:Int) (r6:(Int->Option (Int))) (leaf:Bool):Option (Int):=
  if (decide ((0:Int)<=(((ix t.2.2.1 i).2).1)))=true then
  if (decide ((((ix t.2.2.1 i).2).1) < t.2.1))=true then
  if (decide ((0:Int)<=((((ix t.2.2.1 i).2).2).1)))=true then
  zbY t i r6 leaf (decide (((((ix t.2.2.1 i).2).2).1) < t.2.1)) else
  zbY t i r6 leaf false else
  zbY t i r6 leaf false else
  zbY t i r6 leaf false
def zcz (t:Tp1) (r19:Int->Option (Int)) (i_2:Int):Option (Int):=
  if (decide (i_2 < (t.2.2.1.length:Int)))=true then
  G (fits (i_2 - (1:Int))) (
  G (0<=i_2 - (1:Int)/\i_2 - (1:Int) < (t.2.2.1.length:Int)) (
  G (0<=i_2/\i_2 < (t.2.2.1.length:Int)) (
  (zmI (ix t.2.2.1 (i_2 - (1:Int))) (ix t.2.2.1 i_2)).bind (fun y'=>
  if (!y')=true then
  some (3:Int) else
  G (fits (i_2+(1:Int))) (
  r19 (i_2+(1:Int))))))) else
  if (decide (¬ t.2.2.2.1=(0:Int)))=true then
  some (3:Int) else
  some (0:Int)
def zkB (t:Tp1):(Int->Option (Int))->Int->Option (Int):=
  fun rec x=>zcz t (fun i_2=>rec i_2) x
def zgg (t:Tp1) (i_2:Int):Option (Int):=LFix (zkB t ) i_2
def zcy (t:Tp1) (r14:Int->Option (Int)) (i_1:Int):Option (Int):=
  if (decide (i_1 < (t.2.2.2.2.1.length:Int)))=true then
  G (0<=i_1/\i_1 < (t.2.2.2.2.1.length:Int)) (
  if (decide (¬ (ix t.2.2.2.2.1 i_1)=(0:Int)))=true then
  G (0<=i_1/\i_1 < (t.2.2.2.2.1.length:Int)) (
  if (decide (¬ (ix t.2.2.2.2.1 i_1)=(1:Int)))=true then
  some (2:Int) else
  G (fits (i_1+(1:Int))) (
  r14 (i_1+(1:Int)))) else
  G (fits (i_1+(1:Int))) (
  r14 (i_1+(1:Int)))) else
  zgg t (1:Int)
def zkA (t:Tp1):(Int->Option (Int))->Int->Option (Int):=
  fun rec x=>zcy t (fun i_1=>rec i_1) x
def zjC (t:Tp1) (i_1:Int):Option (Int):=LFix (zkA t ) i_1
def zc1 (t:Tp1) (r6:Int->Option (Int)) (i:Int):Option (Int):=
  if (decide (i < (t.2.2.1.length:Int)))=true then
  G (0<=i/\i < (t.2.2.1.length:Int)) (
  if (decide ((((ix t.2.2.1 i).2).1)=(-1:Int)))=true then
  zdu t i r6 (decide (((((ix t.2.2.1 i).2).2).1)=(-1:Int))) else
  zdu t i r6 false) else
  zjC t (0:Int)
def zlv (t:Tp1):(Int->Option (Int))->Int->Option (Int):=
  fun rec x=>zc1 t (fun i=>rec i) x
def zkC (t:Tp1) (i:Int):Option (Int):=LFix (zlv t ) i
def zkz (t:Tp1):Option (Int):=
  if (decide (t.1 < (1:Int)))=true then
  some (2:Int) else
  if (decide ((4:Int) < t.1))=true then
  some (2:Int) else
  if (decide (t.2.1 < (1:Int)))=true then
  some (1:Int) else
  if (decide ((300:Int) < t.2.1))=true then
  some (1:Int) else
  if (decide ((40000:Int) < (t.2.2.1.length:Int)))=true then
  some (1:Int) else
  if (decide (¬ (t.2.2.2.2.1.length:Int)=t.2.1))=true then
  some (1:Int) else
  zkC t (0:Int)
theorem zfG (r6:Nat->Int->Option (Int)) (r6':Int->Option (Int)) (h_r6:∀ a0,ChO (fun κ=>r6 κ a0) (r6' a0)) (t:Tp1) (i:Int) (leaf:Bool) (both':Bool):ChO (fun κ=>zbY t i (r6 κ) leaf both') (zbY t i r6' leaf both'):=by
  unfold zbY
  repeat' with_reducible first | exact ChO.const _ | exact h_r6 _ | apply ChO.ite | apply ChO.G | apply ChO.both | (apply ChO.bind;intro _)
theorem zhY (r6:Nat->Int->Option (Int)) (r6':Int->Option (Int)) (h_r6:∀ a0,ChO (fun κ=>r6 κ a0) (r6' a0)) (t:Tp1) (i:Int) (leaf:Bool):ChO (fun κ=>zdu t i (r6 κ) leaf) (zdu t i r6' leaf):=by
  unfold zdu
  repeat' with_reducible first | exact ChO.const _ | exact h_r6 _ | (apply zfG<;>assumption) | apply ChO.ite | apply ChO.G | apply ChO.both | (apply ChO.bind;intro _)
theorem zmQ (r19:Nat->Int->Option (Int)) (r19':Int->Option (Int)) (h_r19:∀ a0,ChO (fun κ=>r19 κ a0) (r19' a0)) (t:Tp1) (i_2:Int):ChO (fun κ=>zcz t (r19 κ) i_2) (zcz t r19' i_2):=by
  unfold zcz
  repeat' with_reducible first | exact ChO.const _ | exact h_r19 _ | (apply zfG<;>assumption) | (apply zhY<;>assumption) | apply ChO.ite | apply ChO.G | apply ChO.both | (apply ChO.bind;intro _)
theorem zoJ  (t:Tp1):Cn (zkB t):=fun g h hg x=>zmQ  (fun κ i_2=>g κ i_2) (fun i_2=>h i_2) (fun i_2=>hg i_2) t x
theorem zhk  (t:Tp1) (i_2:Int):zgg t i_2=zcz t (zgg t) i_2:=zaH (zoJ t) i_2
theorem zmP (r14:Nat->Int->Option (Int)) (r14':Int->Option (Int)) (h_r14:∀ a0,ChO (fun κ=>r14 κ a0) (r14' a0)) (t:Tp1) (i_1:Int):ChO (fun κ=>zcy t (r14 κ) i_1) (zcy t r14' i_1):=by
  unfold zcy
  repeat' with_reducible first | exact ChO.const _ | exact h_r14 _ | (apply zfG<;>assumption) | (apply zhY<;>assumption) | apply ChO.ite | apply ChO.G | apply ChO.both | (apply ChO.bind;intro _)
theorem zoI  (t:Tp1):Cn (zkA t):=fun g h hg x=>zmP  (fun κ i_1=>g κ i_1) (fun i_1=>h i_1) (fun i_1=>hg i_1) t x
theorem zhj  (t:Tp1) (i_1:Int):zjC t i_1=zcy t (zjC t) i_1:=zaH (zoI t) i_1
theorem znG (r6:Nat->Int->Option (Int)) (r6':Int->Option (Int)) (h_r6:∀ a0,ChO (fun κ=>r6 κ a0) (r6' a0)) (t:Tp1) (i:Int):ChO (fun κ=>zc1 t (r6 κ) i) (zc1 t r6' i):=by
  unfold zc1
  repeat' with_reducible first | exact ChO.const _ | exact h_r6 _ | (apply zfG<;>assumption) | (apply zhY<;>assumption) | apply ChO.ite | apply ChO.G | apply ChO.both | (apply ChO.bind;intro _)
theorem zpN  (t:Tp1):Cn (zlv t):=fun g h hg x=>znG  (fun κ i=>g κ i) (fun i=>h i) (fun i=>hg i) t x
theorem zhZ  (t:Tp1) (i:Int):zkC t i=zc1 t (zkC t) i:=zaH (zpN t) i

def zdK (a:Tp1) (letter:Int) (left:Int) (right:Int) (r3:Int->Int->Option (Int)) (s:Int) (k:Int):Option (Int):=
  if (decide (k < (a.2.2.1.length:Int)))=true then
  G (0<=k/\k < (a.2.2.1.length:Int)) (
  if (decide (¬ ((ix a.2.2.1 k).1)=letter))=true then
  G (fits (k+(1:Int))) (
  r3 s (k+(1:Int))) else
  if (decide (¬ (decide ((((ix a.2.2.1 k).2).1)=(-1:Int)))=(decide (left=(-1:Int)))))=true then
  G (fits (k+(1:Int))) (
  r3 s (k+(1:Int))) else
  if (decide (left=(-1:Int)))=true then
  G (0<=((((ix a.2.2.1 k).2).2).2).1) (
  G (fits (k+(1:Int))) (
  r3 (ior .i64 s (ishl .i64 (1:Int) (((((ix a.2.2.1 k).2).2).2).1))) (k+(1:Int)))) else
  G (0<=((ix a.2.2.1 k).2).1) (
  if (decide ((iand .i64 (ishr .i64 left (((ix a.2.2.1 k).2).1)) (1:Int))=(1:Int)))=true then
  G (0<=(((ix a.2.2.1 k).2).2).1) (
  if (decide ((iand .i64 (ishr .i64 right ((((ix a.2.2.1 k).2).2).1)) (1:Int))=(1:Int)))=true then
  G (0<=((((ix a.2.2.1 k).2).2).2).1) (
  G (fits (k+(1:Int))) (
  r3 (ior .i64 s (ishl .i64 (1:Int) (((((ix a.2.2.1 k).2).2).2).1))) (k+(1:Int)))) else
  G (fits (k+(1:Int))) (
  r3 s (k+(1:Int)))) else
  G (fits (k+(1:Int))) (
  r3 s (k+(1:Int))))) else
  some s
def zly (a:Tp1) (letter:Int) (left:Int) (right:Int):(Int×Int->Option (Int))->Int×Int->Option (Int):=
  fun rec x=>zdK a letter left right (fun s k=>rec (s,k)) x.1 x.2
def zfU (a:Tp1) (letter:Int) (left:Int) (right:Int) (s:Int) (k:Int):Option (Int):=LFix (zly a letter left right ) (s,k)
def zgh (a:Tp1) (letter:Int) (left:Int) (right:Int):Option (Int):=
  zfU a letter left right (0:Int) (0:Int)
theorem znJ (r3:Nat->Int->Int->Option (Int)) (r3':Int->Int->Option (Int)) (h_r3:∀ a0 a1,ChO (fun κ=>r3 κ a0 a1) (r3' a0 a1)) (a:Tp1) (letter:Int) (left:Int) (right:Int) (s:Int) (k:Int):ChO (fun κ=>zdK a letter left right (r3 κ) s k) (zdK a letter left right r3' s k):=by
  unfold zdK
  repeat' with_reducible first | exact ChO.const _ | exact h_r3 _ _ | apply ChO.ite | apply ChO.G | apply ChO.both | (apply ChO.bind;intro _)
theorem zpQ  (a:Tp1) (letter:Int) (left:Int) (right:Int):Cn (zly a letter left right):=fun g h hg x=>znJ  (fun κ s k=>g κ (s,k)) (fun s k=>h (s,k)) (fun s k=>hg (s,k)) a letter left right x.1 x.2
theorem zkE  (a:Tp1) (letter:Int) (left:Int) (right:Int) (s:Int) (k:Int):zfU a letter left right s k=zdK a letter left right (zfU a letter left right) s k:=zaH (zpQ a letter left right) (s,k)

def zet (a:Tp1) (s:Int) (r2:Int->Option (Bool)) (q:Int):Option (Bool):=
  if (decide (q < a.2.1))=true then
  G (0<=q) (
  if (decide ((iand .i64 (ishr .i64 s q) (1:Int))=(1:Int)))=true then
  G (0<=q/\q < (a.2.2.2.2.1.length:Int)) (
  if (decide ((ix a.2.2.2.2.1 q)=(1:Int)))=true then
  some true else
  G (fits (q+(1:Int))) (
  r2 (q+(1:Int)))) else
  G (fits (q+(1:Int))) (
  r2 (q+(1:Int)))) else
  some false
def zmW (a:Tp1) (s:Int):(Int->Option (Bool))->Int->Option (Bool):=
  fun rec x=>zet a s (fun q=>rec q) x
def zjE (a:Tp1) (s:Int) (q:Int):Option (Bool):=LFix (zmW a s ) q
def zo5 (a:Tp1) (s:Int):Option (Bool):=
  zjE a s (0:Int)
theorem zoM (r2:Nat->Int->Option (Bool)) (r2':Int->Option (Bool)) (h_r2:∀ a0,ChO (fun κ=>r2 κ a0) (r2' a0)) (a:Tp1) (s:Int) (q:Int):ChO (fun κ=>zet a s (r2 κ) q) (zet a s r2' q):=by
  unfold zet
  repeat' with_reducible first | exact ChO.const _ | exact h_r2 _ | apply ChO.ite | apply ChO.G | apply ChO.both | (apply ChO.bind;intro _)
theorem zqr  (a:Tp1) (s:Int):Cn (zmW a s):=fun g h hg x=>zoM  (fun κ q=>g κ q) (fun q=>h q) (fun q=>hg q) a s x
theorem zlz  (a:Tp1) (s:Int) (q:Int):zjE a s q=zet a s (zjE a s) q:=zaH (zqr a s) q

def zer (again_4:Bool) (q:Int) (size_4:Tp15) (r17:(Bool->Int->Tp15->Option (Int))) (y'_2:Int) (y'_3:Int) (n:Int) (t:Bool):Option (Int):=
  if t=true then
  G (fits ((8:Int) * y'_3)) (
  G (fits (y'_2+((8:Int) * y'_3))) (
  G (0<=y'_2+((8:Int) * y'_3)/\y'_2+((8:Int) * y'_3) < (size_4.length:Int)) (
  G ((y'_2+((8:Int) * y'_3)).toNat < size_4.length) (
  G (fits (q+(1:Int))) (
  r17 true (q+(1:Int)) (size_4.set (y'_2+((8:Int) * y'_3)).toNat n)))))) else
  G (fits (q+(1:Int))) (
  r17 again_4 (q+(1:Int)) size_4)
def zdt (again_4:Bool) (q:Int) (size_4:Tp15) (r17:(Bool->Int->Tp15->Option (Int))) (y'_2:Int) (y'_3:Int) (n:Int):Option (Int):=
  G (fits ((8:Int) * y'_3)) (
  G (fits (y'_2+((8:Int) * y'_3))) (
  G (0<=y'_2+((8:Int) * y'_3)/\y'_2+((8:Int) * y'_3) < (size_4.length:Int)) (
  G ((y'_2+((8:Int) * y'_3)).toNat < size_4.length) (
  if (decide ((ix size_4 (y'_2+((8:Int) * y'_3)))=(0:Int)))=true then
  zer again_4 q size_4 r17 y'_2 y'_3 n true else
  G (fits ((8:Int) * y'_3)) (
  G (fits (y'_2+((8:Int) * y'_3))) (
  G (0<=y'_2+((8:Int) * y'_3)/\y'_2+((8:Int) * y'_3) < (size_4.length:Int)) (
  G ((y'_2+((8:Int) * y'_3)).toNat < size_4.length) (
  zer again_4 q size_4 r17 y'_2 y'_3 n (decide (n < (ix size_4 (y'_2+((8:Int) * y'_3)))))))))))))
def zbX (a:Tp1) (b:Tp1) (l:Int) (p:Int) (r14:(Bool->Int->Tp15->Option (Int))) (r17:Tf8) (again_4:Bool) (q:Int) (size_4:Tp15):Option (Int):=
  if (decide (q < (64:Int)))=true then
  G (0<=p/\p < (size_4.length:Int)) (
  G ((p).toNat < size_4.length) (
  if (decide ((ix size_4 p)=(0:Int)))=true then
  G (fits (q+(1:Int))) (
  r17 again_4 (q+(1:Int)) size_4) else
  G (0<=q/\q < (size_4.length:Int)) (
  G ((q).toNat < size_4.length) (
  if (decide ((ix size_4 q)=(0:Int)))=true then
  G (fits (q+(1:Int))) (
  r17 again_4 (q+(1:Int)) size_4) else
  G ((8:Int)≠0) (
  G ((8:Int)≠0) (
  (zgh (a.1,(a.2.1,(a.2.2.1,(a.2.2.2.1,(a.2.2.2.2.1,()))))) l (Int.tmod p (8:Int)) (Int.tmod q (8:Int))).bind (fun y'_2=>
  G ((8:Int)≠0) (
  G (fits (Int.tdiv p (8:Int))) (
  G ((8:Int)≠0) (
  G (fits (Int.tdiv q (8:Int))) (
  (zgh (b.1,(b.2.1,(b.2.2.1,(b.2.2.2.1,(b.2.2.2.2.1,()))))) l (Int.tdiv p (8:Int)) (Int.tdiv q (8:Int))).bind (fun y'_3=>
  G (0<=p/\p < (size_4.length:Int)) (
  G ((p).toNat < size_4.length) (
  G (0<=q/\q < (size_4.length:Int)) (
  G ((q).toNat < size_4.length) (
  G (fits ((ix size_4 p)+(ix size_4 q))) (
  G (fits (((ix size_4 p)+(ix size_4 q))+(1:Int))) (
  if (decide ((1000:Int) < (((ix size_4 p)+(ix size_4 q))+(1:Int))))=true then
  zdt again_4 q size_4 r17 y'_2 y'_3 (1000:Int) else
  zdt again_4 q size_4 r17 y'_2 y'_3 (((ix size_4 p)+(ix size_4 q))+(1:Int)))))))))))))))))))) else
  G (fits (p+(1:Int))) (
  r14 again_4 (p+(1:Int)) size_4)
def zku (a:Tp1) (b:Tp1) (l:Int) (p:Int) (r14:(Bool->Int->Tp15->Option (Int))):(Bool×Int×Tp15->Option (Int))->Bool×Int×Tp15->Option (Int):=
  fun rec x=>zbX a b l p r14 (fun again_4 q size_4=>rec (again_4,q,size_4)) x.1 x.2.1 x.2.2
def zbW (a:Tp1) (b:Tp1) (l:Int) (p:Int) (r14:(Bool->Int->Tp15->Option (Int))) (again_4:Bool) (q:Int) (size_4:Tp15):Option (Int):=LFix (zku a b l p r14 ) (again_4,q,size_4)
def zdb (a:Tp1) (b:Tp1) (l:Int) (r6:(Bool->Int->Tp15->Option (Int))) (r14:Tf8) (again_3:Bool) (p:Int) (size_3:Tp15):Option (Int):=
  if (decide (p < (64:Int)))=true then
  zbW a b l p r14 again_3 (0:Int) size_3 else
  G (fits (l+(1:Int))) (
  r6 again_3 (l+(1:Int)) size_3)
def zkt (a:Tp1) (b:Tp1) (l:Int) (r6:(Bool->Int->Tp15->Option (Int))):(Bool×Int×Tp15->Option (Int))->Bool×Int×Tp15->Option (Int):=
  fun rec x=>zdb a b l r6 (fun again_3 p size_3=>rec (again_3,p,size_3)) x.1 x.2.1 x.2.2
def zcQ (a:Tp1) (b:Tp1) (l:Int) (r6:(Bool->Int->Tp15->Option (Int))) (again_3:Bool) (p:Int) (size_3:Tp15):Option (Int):=LFix (zkt a b l r6 ) (again_3,p,size_3)
def zcP (a:Tp1) (b:Tp1) (l:Int) (r6:(Bool->Int->Tp15->Option (Int))) (again_2:Bool) (size_2:Tp15):Option (Int):=
  zcQ a b l r6 again_2 (0:Int) size_2
def zdJ (a:Tp1) (b:Tp1) (r3:(Bool->Tp15->Option (Int))) (r6:Tf8) (again_1:Bool) (l:Int) (size_1:Tp15):Option (Int):=
  if (decide (l < a.1))=true then
  (zgh (a.1,(a.2.1,(a.2.2.1,(a.2.2.2.1,(a.2.2.2.2.1,()))))) l (-1:Int) (-1:Int)).bind (fun y'=>
  (zgh (b.1,(b.2.1,(b.2.2.1,(b.2.2.2.1,(b.2.2.2.2.1,()))))) l (-1:Int) (-1:Int)).bind (fun y'_1=>
  G (fits ((8:Int) * y'_1)) (
  G (fits (y'+((8:Int) * y'_1))) (
  G (0<=y'+((8:Int) * y'_1)/\y'+((8:Int) * y'_1) < (size_1.length:Int)) (
  G ((y'+((8:Int) * y'_1)).toNat < size_1.length) (
  if (decide (¬ (ix size_1 (y'+((8:Int) * y'_1)))=(1:Int)))=true then
  G (fits ((8:Int) * y'_1)) (
  G (fits (y'+((8:Int) * y'_1))) (
  G (0<=y'+((8:Int) * y'_1)/\y'+((8:Int) * y'_1) < (size_1.length:Int)) (
  G ((y'+((8:Int) * y'_1)).toNat < size_1.length) (
  zcP a b l r6 true (size_1.set (y'+((8:Int) * y'_1)).toNat (1:Int)))))) else
  zcP a b l r6 again_1 size_1)))))) else
  r3 again_1 size_1
def zlu (a:Tp1) (b:Tp1) (r3:(Bool->Tp15->Option (Int))):(Bool×Int×Tp15->Option (Int))->Bool×Int×Tp15->Option (Int):=
  fun rec x=>zdJ a b r3 (fun again_1 l size_1=>rec (again_1,l,size_1)) x.1 x.2.1 x.2.2
def zbw (a:Tp1) (b:Tp1) (r3:(Bool->Tp15->Option (Int))) (again_1:Bool) (l:Int) (size_1:Tp15):Option (Int):=LFix (zlu a b r3 ) (again_1,l,size_1)
def zdc (a:Tp1) (b:Tp1) (size:Tp15) (r30:Int->Int->Option (Int)) (best:Int) (s:Int):Option (Int):=
  if (decide (s < (64:Int)))=true then
  G ((8:Int)≠0) (
  (zo5 (a.1,(a.2.1,(a.2.2.1,(a.2.2.2.1,(a.2.2.2.2.1,()))))) (Int.tmod s (8:Int))).bind (fun y'_4=>
  G ((8:Int)≠0) (
  G (fits (Int.tdiv s (8:Int))) (
  (zo5 (b.1,(b.2.1,(b.2.2.1,(b.2.2.2.1,(b.2.2.2.2.1,()))))) (Int.tdiv s (8:Int))).bind (fun y'_5=>
  G (0<=s/\s < (size.length:Int)) (
  G ((s).toNat < size.length) (
  if (decide ((0:Int) < (ix size s)))=true then
  if y'_4=true then
  if (!y'_5)=true then
  if (decide (best=(0:Int)))=true then
  G (0<=s/\s < (size.length:Int)) (
  G ((s).toNat < size.length) (
  G (fits (s+(1:Int))) (
  r30 (ix size s) (s+(1:Int))))) else
  G (0<=s/\s < (size.length:Int)) (
  G ((s).toNat < size.length) (
  if (decide ((ix size s) < best))=true then
  G (0<=s/\s < (size.length:Int)) (
  G ((s).toNat < size.length) (
  G (fits (s+(1:Int))) (
  r30 (ix size s) (s+(1:Int))))) else
  G (fits (s+(1:Int))) (
  r30 best (s+(1:Int))))) else
  G (fits (s+(1:Int))) (
  r30 best (s+(1:Int))) else
  G (fits (s+(1:Int))) (
  r30 best (s+(1:Int))) else
  G (fits (s+(1:Int))) (
  r30 best (s+(1:Int)))))))))) else
  some best
def zkv (a:Tp1) (b:Tp1) (size:Tp15):(Int×Int->Option (Int))->Int×Int->Option (Int):=
  fun rec x=>zdc a b size (fun best s=>rec (best,s)) x.1 x.2
def zfb (a:Tp1) (b:Tp1) (size:Tp15) (best:Int) (s:Int):Option (Int):=LFix (zkv a b size ) (best,s)
def zdI (a:Tp1) (b:Tp1) (r3:Bool->Tp15->Option (Int)) (again:Bool) (size:Tp15):Option (Int):=
  if again=true then
  zbw a b r3 false (0:Int) size else
  zfb a b size (0:Int) (0:Int)
def zlt (a:Tp1) (b:Tp1):(Bool×Tp15->Option (Int))->Bool×Tp15->Option (Int):=
  fun rec x=>zdI a b (fun again size=>rec (again,size)) x.1 x.2
def zg0 (a:Tp1) (b:Tp1) (again:Bool) (size:Tp15):Option (Int):=LFix (zlt a b ) (again,size)
def zmL (a:Tp1) (b:Tp1):Option (Int):=
  G (mkOK (64:Int) (64:Int) 8) (
  zg0 a b true (List.replicate ((64:Int)).toNat (0:Int)))
theorem zcK (r17:Nat->Tf8) (r17':Tf8) (h_r17:∀ a0 a1 a2,ChO (fun κ=>r17 κ a0 a1 a2) (r17' a0 a1 a2)) (again_4:Bool) (q:Int) (size_4:Tp15) (y'_2:Int) (y'_3:Int) (n:Int) (t:Bool):ChO (fun κ=>zer again_4 q size_4 (r17 κ) y'_2 y'_3 n t) (zer again_4 q size_4 r17' y'_2 y'_3 n t):=by
  unfold zer
  repeat' with_reducible first | exact ChO.const _ | exact h_r17 _ _ _ | apply ChO.ite | apply ChO.G | apply ChO.both | (apply ChO.bind;intro _)
theorem zdr (r17:Nat->Tf8) (r17':Tf8) (h_r17:∀ a0 a1 a2,ChO (fun κ=>r17 κ a0 a1 a2) (r17' a0 a1 a2)) (again_4:Bool) (q:Int) (size_4:Tp15) (y'_2:Int) (y'_3:Int) (n:Int):ChO (fun κ=>zdt again_4 q size_4 (r17 κ) y'_2 y'_3 n) (zdt again_4 q size_4 r17' y'_2 y'_3 n):=by
  unfold zdt
  repeat' with_reducible first | exact ChO.const _ | exact h_r17 _ _ _ | (apply zcK<;>assumption) | apply ChO.ite | apply ChO.G | apply ChO.both | (apply ChO.bind;intro _)
theorem ziu (r14:Nat->Tf8) (r14':Tf8) (h_r14:∀ a0 a1 a2,ChO (fun κ=>r14 κ a0 a1 a2) (r14' a0 a1 a2)) (r17:Nat->Tf8) (r17':Tf8) (h_r17:∀ a0 a1 a2,ChO (fun κ=>r17 κ a0 a1 a2) (r17' a0 a1 a2)) (a:Tp1) (b:Tp1) (l:Int) (p:Int) (again_4:Bool) (q:Int) (size_4:Tp15):ChO (fun κ=>zbX a b l p (r14 κ) (r17 κ) again_4 q size_4) (zbX a b l p r14' r17' again_4 q size_4):=by
  unfold zbX
  repeat' with_reducible first | exact ChO.const _ | exact h_r14 _ _ _ | exact h_r17 _ _ _ | (apply zcK<;>assumption) | (apply zdr<;>assumption) | apply ChO.ite | apply ChO.G | apply ChO.both | (apply ChO.bind;intro _)
theorem zhi (r14:Tf8) (a:Tp1) (b:Tp1) (l:Int) (p:Int):Cn (zku a b l p r14):=fun g h hg x=>ziu (fun _=>r14) r14 (fun _ _ _=>ChO.const _) (fun κ again_4 q size_4=>g κ (again_4,q,size_4)) (fun again_4 q size_4=>h (again_4,q,size_4)) (fun again_4 q size_4=>hg (again_4,q,size_4)) a b l p x.1 x.2.1 x.2.2
theorem zfF (r14:Tf8) (a:Tp1) (b:Tp1) (l:Int) (p:Int) (again_4:Bool) (q:Int) (size_4:Tp15):zbW a b l p r14 again_4 q size_4=zbX a b l p r14 (zbW a b l p r14) again_4 q size_4:=zaH (zhi r14 a b l p) (again_4,q,size_4)
theorem zez (r14:Nat->Tf8) (r14':Tf8) (h_r14:∀ a0 a1 a2,ChO (fun κ=>r14 κ a0 a1 a2) (r14' a0 a1 a2)) (a:Tp1) (b:Tp1) (l:Int) (p:Int) (again_4:Bool) (q:Int) (size_4:Tp15):ChO (fun κ=>zbW a b l p (r14 κ) again_4 q size_4) (zbW a b l p r14' again_4 q size_4):=by
  unfold zbW
  exact zfk (fun κ=>(zhi (r14 κ) a b l p).mono) (zhi r14' a b l p).mono (fun g h hg x=>ziu r14 r14' h_r14 (fun κ again_4 q size_4=>g κ (again_4,q,size_4)) (fun again_4 q size_4=>h (again_4,q,size_4)) (fun again_4 q size_4=>hg (again_4,q,size_4)) a b l p x.1 x.2.1 x.2.2) _
theorem zit (r6:Nat->Tf8) (r6':Tf8) (h_r6:∀ a0 a1 a2,ChO (fun κ=>r6 κ a0 a1 a2) (r6' a0 a1 a2)) (r14:Nat->Tf8) (r14':Tf8) (h_r14:∀ a0 a1 a2,ChO (fun κ=>r14 κ a0 a1 a2) (r14' a0 a1 a2)) (a:Tp1) (b:Tp1) (l:Int) (again_3:Bool) (p:Int) (size_3:Tp15):ChO (fun κ=>zdb a b l (r6 κ) (r14 κ) again_3 p size_3) (zdb a b l r6' r14' again_3 p size_3):=by
  unfold zdb
  repeat' with_reducible first | exact ChO.const _ | exact h_r6 _ _ _ | exact h_r14 _ _ _ | (apply zcK<;>assumption) | (apply zdr<;>assumption) | (apply zez<;>assumption) | apply ChO.ite | apply ChO.G | apply ChO.both | (apply ChO.bind;intro _)
theorem zhh (r6:Tf8) (a:Tp1) (b:Tp1) (l:Int):Cn (zkt a b l r6):=fun g h hg x=>zit (fun _=>r6) r6 (fun _ _ _=>ChO.const _) (fun κ again_3 p size_3=>g κ (again_3,p,size_3)) (fun again_3 p size_3=>h (again_3,p,size_3)) (fun again_3 p size_3=>hg (again_3,p,size_3)) a b l x.1 x.2.1 x.2.2
theorem zjP (r6:Tf8) (a:Tp1) (b:Tp1) (l:Int) (again_3:Bool) (p:Int) (size_3:Tp15):zcQ a b l r6 again_3 p size_3=zdb a b l r6 (zcQ a b l r6) again_3 p size_3:=zaH (zhh r6 a b l) (again_3,p,size_3)
theorem zfE (r6:Nat->Tf8) (r6':Tf8) (h_r6:∀ a0 a1 a2,ChO (fun κ=>r6 κ a0 a1 a2) (r6' a0 a1 a2)) (a:Tp1) (b:Tp1) (l:Int) (again_3:Bool) (p:Int) (size_3:Tp15):ChO (fun κ=>zcQ a b l (r6 κ) again_3 p size_3) (zcQ a b l r6' again_3 p size_3):=by
  unfold zcQ
  exact zfk (fun κ=>(zhh (r6 κ) a b l).mono) (zhh r6' a b l).mono (fun g h hg x=>zit r6 r6' h_r6 (fun κ again_3 p size_3=>g κ (again_3,p,size_3)) (fun again_3 p size_3=>h (again_3,p,size_3)) (fun again_3 p size_3=>hg (again_3,p,size_3)) a b l x.1 x.2.1 x.2.2) _
theorem zhg (r6:Nat->Tf8) (r6':Tf8) (h_r6:∀ a0 a1 a2,ChO (fun κ=>r6 κ a0 a1 a2) (r6' a0 a1 a2)) (a:Tp1) (b:Tp1) (l:Int) (again_2:Bool) (size_2:Tp15):ChO (fun κ=>zcP a b l (r6 κ) again_2 size_2) (zcP a b l r6' again_2 size_2):=by
  unfold zcP
  repeat' with_reducible first | exact ChO.const _ | exact h_r6 _ _ _ | (apply zcK<;>assumption) | (apply zdr<;>assumption) | (apply zez<;>assumption) | (apply zfE<;>assumption) | apply ChO.ite | apply ChO.G | apply ChO.both | (apply ChO.bind;intro _)
theorem zi4 (r3:Nat->Bool->Tp15->Option (Int)) (r3':Bool->Tp15->Option (Int)) (h_r3:∀ a0 a1,ChO (fun κ=>r3 κ a0 a1) (r3' a0 a1)) (r6:Nat->Tf8) (r6':Tf8) (h_r6:∀ a0 a1 a2,ChO (fun κ=>r6 κ a0 a1 a2) (r6' a0 a1 a2)) (a:Tp1) (b:Tp1) (again_1:Bool) (l:Int) (size_1:Tp15):ChO (fun κ=>zdJ a b (r3 κ) (r6 κ) again_1 l size_1) (zdJ a b r3' r6' again_1 l size_1):=by
  unfold zdJ
  repeat' with_reducible first | exact ChO.const _ | exact h_r3 _ _ | exact h_r6 _ _ _ | (apply zcK<;>assumption) | (apply zdr<;>assumption) | (apply zez<;>assumption) | (apply zfE<;>assumption) | (apply zhg<;>assumption) | apply ChO.ite | apply ChO.G | apply ChO.both | (apply ChO.bind;intro _)
theorem zhX (r3:Bool->Tp15->Option (Int)) (a:Tp1) (b:Tp1):Cn (zlu a b r3):=fun g h hg x=>zi4 (fun _=>r3) r3 (fun _ _=>ChO.const _) (fun κ again_1 l size_1=>g κ (again_1,l,size_1)) (fun again_1 l size_1=>h (again_1,l,size_1)) (fun again_1 l size_1=>hg (again_1,l,size_1)) a b x.1 x.2.1 x.2.2
theorem zky (r3:Bool->Tp15->Option (Int)) (a:Tp1) (b:Tp1) (again_1:Bool) (l:Int) (size_1:Tp15):zbw a b r3 again_1 l size_1=zdJ a b r3 (zbw a b r3) again_1 l size_1:=zaH (zhX r3 a b) (again_1,l,size_1)
theorem zkx (r3:Nat->Bool->Tp15->Option (Int)) (r3':Bool->Tp15->Option (Int)) (h_r3:∀ a0 a1,ChO (fun κ=>r3 κ a0 a1) (r3' a0 a1)) (a:Tp1) (b:Tp1) (again_1:Bool) (l:Int) (size_1:Tp15):ChO (fun κ=>zbw a b (r3 κ) again_1 l size_1) (zbw a b r3' again_1 l size_1):=by
  unfold zbw
  exact zfk (fun κ=>(zhX (r3 κ) a b).mono) (zhX r3' a b).mono (fun g h hg x=>zi4 r3 r3' h_r3 (fun κ again_1 l size_1=>g κ (again_1,l,size_1)) (fun again_1 l size_1=>h (again_1,l,size_1)) (fun again_1 l size_1=>hg (again_1,l,size_1)) a b x.1 x.2.1 x.2.2) _
theorem zmM (r30:Nat->Int->Int->Option (Int)) (r30':Int->Int->Option (Int)) (h_r30:∀ a0 a1,ChO (fun κ=>r30 κ a0 a1) (r30' a0 a1)) (a:Tp1) (b:Tp1) (size:Tp15) (best:Int) (s:Int):ChO (fun κ=>zdc a b size (r30 κ) best s) (zdc a b size r30' best s):=by
  unfold zdc
  repeat' with_reducible first | exact ChO.const _ | exact h_r30 _ _ | (apply zcK<;>assumption) | (apply zdr<;>assumption) | (apply zez<;>assumption) | (apply zfE<;>assumption) | (apply zhg<;>assumption) | (apply zkx<;>assumption) | apply ChO.ite | apply ChO.G | apply ChO.both | (apply ChO.bind;intro _)
theorem zoH  (a:Tp1) (b:Tp1) (size:Tp15):Cn (zkv a b size):=fun g h hg x=>zmM  (fun κ best s=>g κ (best,s)) (fun best s=>h (best,s)) (fun best s=>hg (best,s)) a b size x.1 x.2
theorem zjQ  (a:Tp1) (b:Tp1) (size:Tp15) (best:Int) (s:Int):zfb a b size best s=zdc a b size (zfb a b size) best s:=zaH (zoH a b size) (best,s)
theorem znF (r3:Nat->Bool->Tp15->Option (Int)) (r3':Bool->Tp15->Option (Int)) (h_r3:∀ a0 a1,ChO (fun κ=>r3 κ a0 a1) (r3' a0 a1)) (a:Tp1) (b:Tp1) (again:Bool) (size:Tp15):ChO (fun κ=>zdI a b (r3 κ) again size) (zdI a b r3' again size):=by
  unfold zdI
  repeat' with_reducible first | exact ChO.const _ | exact h_r3 _ _ | (apply zcK<;>assumption) | (apply zdr<;>assumption) | (apply zez<;>assumption) | (apply zfE<;>assumption) | (apply zhg<;>assumption) | (apply zkx<;>assumption) | apply ChO.ite | apply ChO.G | apply ChO.both | (apply ChO.bind;intro _)
theorem zpM  (a:Tp1) (b:Tp1):Cn (zlt a b):=fun g h hg x=>znF  (fun κ again size=>g κ (again,size)) (fun again size=>h (again,size)) (fun again size=>hg (again,size)) a b x.1 x.2
theorem zkw  (a:Tp1) (b:Tp1) (again:Bool) (size:Tp15):zg0 a b again size=zdI a b (zg0 a b) again size:=zaH (zpM a b) (again,size)

def zeh (t:Tp6) (i:Int) (child:Tp14) (r8:(Int->Tp14->Option (Int))):Option (Int):=
  if (decide ((((ix t.1 i).2).1) < (0:Int)))=true then
  some (3:Int) else
  if (decide (i<=(((ix t.1 i).2).1)))=true then
  some (3:Int) else
  G (0<=((ix t.1 i).2).1/\((ix t.1 i).2).1 < (child.length:Int)) (
  G ((((ix t.1 i).2).1).toNat < child.length) (
  if (ix child (((ix t.1 i).2).1))=true then
  some (3:Int) else
  G (0<=((ix t.1 i).2).1/\((ix t.1 i).2).1 < (child.length:Int)) (
  G ((((ix t.1 i).2).1).toNat < child.length) (
  if (decide (((((ix t.1 i).2).2).1) < (0:Int)))=true then
  some (3:Int) else
  if (decide (i<=((((ix t.1 i).2).2).1)))=true then
  some (3:Int) else
  G (0<=(((ix t.1 i).2).2).1/\(((ix t.1 i).2).2).1 < ((child.set (((ix t.1 i).2).1).toNat true).length:Int)) (
  G (((((ix t.1 i).2).2).1).toNat < (child.set (((ix t.1 i).2).1).toNat true).length) (
  if (ix (child.set (((ix t.1 i).2).1).toNat true) ((((ix t.1 i).2).2).1))=true then
  some (3:Int) else
  G (0<=(((ix t.1 i).2).2).1/\(((ix t.1 i).2).2).1 < ((child.set (((ix t.1 i).2).1).toNat true).length:Int)) (
  G (((((ix t.1 i).2).2).1).toNat < (child.set (((ix t.1 i).2).1).toNat true).length) (
  G (fits (i+(1:Int))) (
  r8 (i+(1:Int)) ((child.set (((ix t.1 i).2).1).toNat true).set ((((ix t.1 i).2).2).1).toNat true))))))))))
def zc2 (t:Tp6) (child:Tp14) (r21:Int->Option (Int)) (i_1:Int):Option (Int):=
  G (fits ((t.1.length:Int) - (1:Int))) (
  if (decide (i_1 < ((t.1.length:Int) - (1:Int))))=true then
  G (0<=i_1/\i_1 < (child.length:Int)) (
  G ((i_1).toNat < child.length) (
  if (!(ix child i_1))=true then
  some (3:Int) else
  G (fits (i_1+(1:Int))) (
  r21 (i_1+(1:Int))))) else
  some (0:Int))
def zlw (t:Tp6) (child:Tp14):(Int->Option (Int))->Int->Option (Int):=
  fun rec x=>zc2 t child (fun i_1=>rec i_1) x
def ziv (t:Tp6) (child:Tp14) (i_1:Int):Option (Int):=LFix (zlw t child ) i_1
def zes (letters:Int) (t:Tp6) (r8:Int->Tp14->Option (Int)) (i:Int) (child:Tp14):Option (Int):=
  if (decide (i < (t.1.length:Int)))=true then
  G (0<=i/\i < (t.1.length:Int)) (
  if (decide (((ix t.1 i).1) < (0:Int)))=true then
  some (2:Int) else
  if (decide (letters<=((ix t.1 i).1)))=true then
  some (2:Int) else
  if (decide ((((ix t.1 i).2).1)=(-1:Int)))=true then
  if (decide (((((ix t.1 i).2).2).1)=(-1:Int)))=true then
  G (fits (i+(1:Int))) (
  r8 (i+(1:Int)) child) else
  zeh t i child r8 else
  zeh t i child r8) else
  ziv t child (0:Int)
def zmT (letters:Int) (t:Tp6):(Int×Tp14->Option (Int))->Int×Tp14->Option (Int):=
  fun rec x=>zes letters t (fun i child=>rec (i,child)) x.1 x.2
def zh1 (letters:Int) (t:Tp6) (i:Int) (child:Tp14):Option (Int):=LFix (zmT letters t ) (i,child)
def zhC (letters:Int) (t:Tp6):Option (Int):=
  if (decide (letters < (1:Int)))=true then
  some (2:Int) else
  if (decide ((4:Int) < letters))=true then
  some (2:Int) else
  if (decide ((t.1.length:Int) < (1:Int)))=true then
  some (1:Int) else
  if (decide ((60:Int) < (t.1.length:Int)))=true then
  some (1:Int) else
  G (mkOK (t.1.length:Int) (t.1.length:Int) 1) (
  zh1 letters t (0:Int) (List.replicate ((t.1.length:Int)).toNat (false:Bool)))
theorem zkD (r8:Nat->Int->Tp14->Option (Int)) (r8':Int->Tp14->Option (Int)) (h_r8:∀ a0 a1,ChO (fun κ=>r8 κ a0 a1) (r8' a0 a1)) (t:Tp6) (i:Int) (child:Tp14):ChO (fun κ=>zeh t i child (r8 κ)) (zeh t i child r8'):=by
  unfold zeh
  repeat' with_reducible first | exact ChO.const _ | exact h_r8 _ _ | apply ChO.ite | apply ChO.G | apply ChO.both | (apply ChO.bind;intro _)
theorem znH (r21:Nat->Int->Option (Int)) (r21':Int->Option (Int)) (h_r21:∀ a0,ChO (fun κ=>r21 κ a0) (r21' a0)) (t:Tp6) (child:Tp14) (i_1:Int):ChO (fun κ=>zc2 t child (r21 κ) i_1) (zc2 t child r21' i_1):=by
  unfold zc2
  repeat' with_reducible first | exact ChO.const _ | exact h_r21 _ | (apply zkD<;>assumption) | apply ChO.ite | apply ChO.G | apply ChO.both | (apply ChO.bind;intro _)
theorem zpO  (t:Tp6) (child:Tp14):Cn (zlw t child):=fun g h hg x=>znH  (fun κ i_1=>g κ i_1) (fun i_1=>h i_1) (fun i_1=>hg i_1) t child x
theorem zh0  (t:Tp6) (child:Tp14) (i_1:Int):ziv t child i_1=zc2 t child (ziv t child) i_1:=zaH (zpO t child) i_1
theorem zoK (r8:Nat->Int->Tp14->Option (Int)) (r8':Int->Tp14->Option (Int)) (h_r8:∀ a0 a1,ChO (fun κ=>r8 κ a0 a1) (r8' a0 a1)) (letters:Int) (t:Tp6) (i:Int) (child:Tp14):ChO (fun κ=>zes letters t (r8 κ) i child) (zes letters t r8' i child):=by
  unfold zes
  repeat' with_reducible first | exact ChO.const _ | exact h_r8 _ _ | (apply zkD<;>assumption) | apply ChO.ite | apply ChO.G | apply ChO.both | (apply ChO.bind;intro _)
theorem zqq  (letters:Int) (t:Tp6):Cn (zmT letters t):=fun g h hg x=>zoK  (fun κ i child=>g κ (i,child)) (fun i child=>h (i,child)) (fun i child=>hg (i,child)) letters t x.1 x.2
theorem zlx  (letters:Int) (t:Tp6) (i:Int) (child:Tp14):zh1 letters t i child=zes letters t (zh1 letters t) i child:=zaH (zqq letters t) (i,child)

def zcx (a:Tp1) (k:Int) (own:Tp14) (r8:(Int->Tp14->Option (Bool))) (t_1:Bool):Option (Bool):=
  if t_1=true then
  G (0<=((((ix a.2.2.1 k).2).2).2).1/\((((ix a.2.2.1 k).2).2).2).1 < (own.length:Int)) (
  G ((((((ix a.2.2.1 k).2).2).2).1).toNat < own.length) (
  G (fits (k+(1:Int))) (
  r8 (k+(1:Int)) (own.set (((((ix a.2.2.1 k).2).2).2).1).toNat true)))) else
  G (fits (k+(1:Int))) (
  r8 (k+(1:Int)) own)
def zca (a:Tp1) (t:Tp6) (i:Int) (can:Tp13) (r3:(Int->Tp13->Option (Bool))) (r8:Int->Tp14->Option (Bool)) (k:Int) (own:Tp14):Option (Bool):=
  if (decide (k < (a.2.2.1.length:Int)))=true then
  G (0<=k/\k < (a.2.2.1.length:Int)) (
  if (decide (¬ ((ix a.2.2.1 k).1)=((ix t.1 i).1)))=true then
  G (fits (k+(1:Int))) (
  r8 (k+(1:Int)) own) else
  if (decide (¬ (decide ((((ix a.2.2.1 k).2).1)=(-1:Int)))=(decide ((((ix t.1 i).2).1)=(-1:Int)))))=true then
  G (fits (k+(1:Int))) (
  r8 (k+(1:Int)) own) else
  if (decide ((((ix a.2.2.1 k).2).1)=(-1:Int)))=true then
  zcx a k own r8 true else
  G (0<=((ix t.1 i).2).1/\((ix t.1 i).2).1 < (can.length:Int)) (
  G ((((ix t.1 i).2).1).toNat < can.length) (
  G (0<=((ix a.2.2.1 k).2).1/\((ix a.2.2.1 k).2).1 < ((ix can (((ix t.1 i).2).1)).length:Int)) (
  if (ix (ix can (((ix t.1 i).2).1)) (((ix a.2.2.1 k).2).1))=true then
  G (0<=(((ix t.1 i).2).2).1/\(((ix t.1 i).2).2).1 < (can.length:Int)) (
  G (((((ix t.1 i).2).2).1).toNat < can.length) (
  G (0<=(((ix a.2.2.1 k).2).2).1/\(((ix a.2.2.1 k).2).2).1 < ((ix can ((((ix t.1 i).2).2).1)).length:Int)) (
  zcx a k own r8 (ix (ix can ((((ix t.1 i).2).2).1)) ((((ix a.2.2.1 k).2).2).1))))) else
  zcx a k own r8 false)))) else
  G (room can ([own]) 24) (
  G (fits (i+(1:Int))) (
  r3 (i+(1:Int)) (can++([own]))))
def zjO (a:Tp1) (t:Tp6) (i:Int) (can:Tp13) (r3:(Int->Tp13->Option (Bool))):(Int×Tp14->Option (Bool))->Int×Tp14->Option (Bool):=
  fun rec x=>zca a t i can r3 (fun k own=>rec (k,own)) x.1 x.2
def zbG (a:Tp1) (t:Tp6) (i:Int) (can:Tp13) (r3:(Int->Tp13->Option (Bool))) (k:Int) (own:Tp14):Option (Bool):=LFix (zjO a t i can r3 ) (k,own)
def zbz (a:Tp1) (can:Tp13) (r17:Int->Option (Bool)) (q:Int):Option (Bool):=
  if (decide (q < a.2.1))=true then
  G (0<=q/\q < ((ix can ((can.length:Int) - (1:Int))).length:Int)) (
  if (ix (ix can ((can.length:Int) - (1:Int))) q)=true then
  G (0<=q/\q < (a.2.2.2.2.1.length:Int)) (
  if (decide ((ix a.2.2.2.2.1 q)=(1:Int)))=true then
  some true else
  G (fits (q+(1:Int))) (
  r17 (q+(1:Int)))) else
  G (fits (q+(1:Int))) (
  r17 (q+(1:Int)))) else
  some false
def zi2 (a:Tp1) (can:Tp13):(Int->Option (Bool))->Int->Option (Bool):=
  fun rec x=>zbz a can (fun q=>rec q) x
def ze0 (a:Tp1) (can:Tp13) (q:Int):Option (Bool):=LFix (zi2 a can ) q
def zbI (a:Tp1) (t:Tp6) (r3:Int->Tp13->Option (Bool)) (i:Int) (can:Tp13):Option (Bool):=
  if (decide (i < (t.1.length:Int)))=true then
  G (0<=i/\i < (t.1.length:Int)) (
  G (mkOK a.2.1 a.2.1 1) (
  zbG a t i can r3 (0:Int) (List.replicate (a.2.1).toNat (false:Bool)))) else
  G (fits ((can.length:Int) - (1:Int))) (
  G (0<=(can.length:Int) - (1:Int)/\(can.length:Int) - (1:Int) < (can.length:Int)) (
  G (((can.length:Int) - (1:Int)).toNat < can.length) (
  ze0 a can (0:Int))))
def zjN (a:Tp1) (t:Tp6):(Int×Tp13->Option (Bool))->Int×Tp13->Option (Bool):=
  fun rec x=>zbI a t (fun i can=>rec (i,can)) x.1 x.2
def zbF (a:Tp1) (t:Tp6) (i:Int) (can:Tp13):Option (Bool):=LFix (zjN a t ) (i,can)
def zbN (a:Tp1) (t:Tp6):Option (Bool):=
  zbF a t (0:Int) ([])
theorem zgf (r8:Nat->Int->Tp14->Option (Bool)) (r8':Int->Tp14->Option (Bool)) (h_r8:∀ a0 a1,ChO (fun κ=>r8 κ a0 a1) (r8' a0 a1)) (a:Tp1) (k:Int) (own:Tp14) (t_1:Bool):ChO (fun κ=>zcx a k own (r8 κ) t_1) (zcx a k own r8' t_1):=by
  unfold zcx
  repeat' with_reducible first | exact ChO.const _ | exact h_r8 _ _ | apply ChO.ite | apply ChO.G | apply ChO.both | (apply ChO.bind;intro _)
theorem zhW (r3:Nat->Int->Tp13->Option (Bool)) (r3':Int->Tp13->Option (Bool)) (h_r3:∀ a0 a1,ChO (fun κ=>r3 κ a0 a1) (r3' a0 a1)) (r8:Nat->Int->Tp14->Option (Bool)) (r8':Int->Tp14->Option (Bool)) (h_r8:∀ a0 a1,ChO (fun κ=>r8 κ a0 a1) (r8' a0 a1)) (a:Tp1) (t:Tp6) (i:Int) (can:Tp13) (k:Int) (own:Tp14):ChO (fun κ=>zca a t i can (r3 κ) (r8 κ) k own) (zca a t i can r3' r8' k own):=by
  unfold zca
  repeat' with_reducible first | exact ChO.const _ | exact h_r3 _ _ | exact h_r8 _ _ | (apply zgf<;>assumption) | apply ChO.ite | apply ChO.G | apply ChO.both | (apply ChO.bind;intro _)
theorem zgH (r3:Int->Tp13->Option (Bool)) (a:Tp1) (t:Tp6) (i:Int) (can:Tp13):Cn (zjO a t i can r3):=fun g h hg x=>zhW (fun _=>r3) r3 (fun _ _=>ChO.const _) (fun κ k own=>g κ (k,own)) (fun k own=>h (k,own)) (fun k own=>hg (k,own)) a t i can x.1 x.2
theorem zgI (r3:Int->Tp13->Option (Bool)) (a:Tp1) (t:Tp6) (i:Int) (can:Tp13) (k:Int) (own:Tp14):zbG a t i can r3 k own=zca a t i can r3 (zbG a t i can r3) k own:=zaH (zgH r3 a t i can) (k,own)
theorem zi3 (r3:Nat->Int->Tp13->Option (Bool)) (r3':Int->Tp13->Option (Bool)) (h_r3:∀ a0 a1,ChO (fun κ=>r3 κ a0 a1) (r3' a0 a1)) (a:Tp1) (t:Tp6) (i:Int) (can:Tp13) (k:Int) (own:Tp14):ChO (fun κ=>zbG a t i can (r3 κ) k own) (zbG a t i can r3' k own):=by
  unfold zbG
  exact zfk (fun κ=>(zgH (r3 κ) a t i can).mono) (zgH r3' a t i can).mono (fun g h hg x=>zhW r3 r3' h_r3 (fun κ k own=>g κ (k,own)) (fun k own=>h (k,own)) (fun k own=>hg (k,own)) a t i can x.1 x.2) _
theorem zlj (r17:Nat->Int->Option (Bool)) (r17':Int->Option (Bool)) (h_r17:∀ a0,ChO (fun κ=>r17 κ a0) (r17' a0)) (a:Tp1) (can:Tp13) (q:Int):ChO (fun κ=>zbz a can (r17 κ) q) (zbz a can r17' q):=by
  unfold zbz
  repeat' with_reducible first | exact ChO.const _ | exact h_r17 _ | (apply zgf<;>assumption) | (apply zi3<;>assumption) | apply ChO.ite | apply ChO.G | apply ChO.both | (apply ChO.bind;intro _)
theorem zmH  (a:Tp1) (can:Tp13):Cn (zi2 a can):=fun g h hg x=>zlj  (fun κ q=>g κ q) (fun q=>h q) (fun q=>hg q) a can x
theorem zeM  (a:Tp1) (can:Tp13) (q:Int):ze0 a can q=zbz a can (ze0 a can) q:=zaH (zmH a can) q
theorem zlZ (r3:Nat->Int->Tp13->Option (Bool)) (r3':Int->Tp13->Option (Bool)) (h_r3:∀ a0 a1,ChO (fun κ=>r3 κ a0 a1) (r3' a0 a1)) (a:Tp1) (t:Tp6) (i:Int) (can:Tp13):ChO (fun κ=>zbI a t (r3 κ) i can) (zbI a t r3' i can):=by
  unfold zbI
  repeat' with_reducible first | exact ChO.const _ | exact h_r3 _ _ | (apply zgf<;>assumption) | (apply zi3<;>assumption) | apply ChO.ite | apply ChO.G | apply ChO.both | (apply ChO.bind;intro _)
theorem znE  (a:Tp1) (t:Tp6):Cn (zjN a t):=fun g h hg x=>zlZ  (fun κ i can=>g κ (i,can)) (fun i can=>h (i,can)) (fun i can=>hg (i,can)) a t x.1 x.2
theorem zfa  (a:Tp1) (t:Tp6) (i:Int) (can:Tp13):zbF a t i can=zbI a t (zbF a t) i can:=zaH (znE a t) (i,can)

def zbs (a:Tp1) (b:Tp1) (t:Tp6) (y':Tp6) (y'_1:Bool) (y'_2:Int) (no_3:Int) (least:Int):Option (Bool):=
  if (decide (¬ no_3=(0:Int)))=true then
  if (decide (y'_2=no_3))=true then
  if (!y'_1)=true then
  some (decide ((y'.1.length:Int)=(0:Int))) else
  some false else
  some false else
  if (decide (¬ y'_2=(0:Int)))=true then
  some false else
  if (decide (¬ y'_1=(decide (least=(0:Int)))))=true then
  some false else
  if (!y'_1)=true then
  (zhC a.1 (y'.1,())).bind (fun y'_7=>
  if (decide (¬ y'_7=(0:Int)))=true then
  some false else
  (zbN (a.1,(a.2.1,(a.2.2.1,(a.2.2.2.1,(a.2.2.2.2.1,()))))) (y'.1,())).bind (fun y'_8=>
  (zbN (b.1,(b.2.1,(b.2.2.1,(b.2.2.2.1,(b.2.2.2.2.1,()))))) (y'.1,())).bind (fun y'_9=>
  if y'_8=true then
  some (!y'_9) else
  some false))) else
  (zhC a.1 (t.1,())).bind (fun y'_10=>
  if (decide (¬ y'_10=(0:Int)))=true then
  some (decide ((y'.1.length:Int)=(0:Int))) else
  (zbN (a.1,(a.2.1,(a.2.2.1,(a.2.2.2.1,(a.2.2.2.2.1,()))))) (t.1,())).bind (fun y'_11=>
  (zbN (b.1,(b.2.1,(b.2.2.1,(b.2.2.2.1,(b.2.2.2.2.1,()))))) (t.1,())).bind (fun y'_12=>
  if (decide ((y'.1.length:Int)=(0:Int)))=true then
  if (!y'_11)=true then
  some true else
  some y'_12 else
  some false)))
def zd5 (a:Tp1) (b:Tp1) (t:Tp6) (y':Tp6) (y'_1:Bool) (y'_2:Int) (no_2:Int):Option (Bool):=
  if (decide (no_2=(0:Int)))=true then
  (zmL (a.1,(a.2.1,(a.2.2.1,(a.2.2.2.1,(a.2.2.2.2.1,()))))) (b.1,(b.2.1,(b.2.2.1,(b.2.2.2.1,(b.2.2.2.2.1,())))))).bind (fun y'_6=>
  if (decide ((60:Int) < y'_6))=true then
  zbs a b t y' y'_1 y'_2 (7:Int) y'_6 else
  zbs a b t y' y'_1 y'_2 no_2 y'_6) else
  zbs a b t y' y'_1 y'_2 no_2 (0:Int)
def zby (a:Tp1) (b:Tp1) (t:Tp6) (y':Tp6) (y'_1:Bool) (y'_2:Int) (no_1:Int) (t_2:Bool):Option (Bool):=
  if t_2=true then
  zd5 a b t y' y'_1 y'_2 (1:Int) else
  zd5 a b t y' y'_1 y'_2 no_1
def zc8 (a:Tp1) (b:Tp1) (t:Tp6) (y':Tp6) (y'_1:Bool) (y'_2:Int) (no_1:Int):Option (Bool):=
  if (decide (no_1=(0:Int)))=true then
  if (decide ((3:Int) < a.2.1))=true then
  zby a b t y' y'_1 y'_2 no_1 true else
  if (decide ((3:Int) < b.2.1))=true then
  zby a b t y' y'_1 y'_2 no_1 true else
  zby a b t y' y'_1 y'_2 no_1 (decide ((2:Int) < a.1)) else
  zby a b t y' y'_1 y'_2 no_1 false
def zc7 (a:Tp1) (b:Tp1) (t:Tp6) (y':Tp6) (y'_1:Bool) (y'_2:Int) (no:Int) (t_1:Bool):Option (Bool):=
  if t_1=true then
  zc8 a b t y' y'_1 y'_2 (3:Int) else
  zc8 a b t y' y'_1 y'_2 no
def zbO (a:Tp1) (b:Tp1) (t:Tp6) (y':Tp6) (y'_1:Bool) (y'_2:Int) (no:Int):Option (Bool):=
  if (decide (no=(0:Int)))=true then
  zc7 a b t y' y'_1 y'_2 no (decide (¬ a.1=b.1)) else
  zc7 a b t y' y'_1 y'_2 no false
def ziJ (a:Tp1) (b:Tp1) (t:Tp6):Option (Bool):=
  (zfR (a.1,(a.2.1,(a.2.2.1,(a.2.2.2.1,(a.2.2.2.2.1,()))))) (b.1,(b.2.1,(b.2.2.1,(b.2.2.2.1,(b.2.2.2.2.1,())))))).bind (fun y'_13=>
  (zkz (a.1,(a.2.1,(a.2.2.1,(a.2.2.2.1,(a.2.2.2.2.1,())))))).bind (fun y'_4=>
  if (decide (y'_4=(0:Int)))=true then
  (zkz (b.1,(b.2.1,(b.2.2.1,(b.2.2.2.1,(b.2.2.2.2.1,())))))).bind (fun y'_5=>
  zbO a b t y'_13.1 y'_13.2.1 y'_13.2.2 y'_5) else
  zbO a b t y'_13.1 y'_13.2.1 y'_13.2.2 y'_4))

end
end Go.Proofs.Ytecclpahhnajfaa.treeWithinW
