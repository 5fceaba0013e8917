/- What the functions that 'TreeOther' reaches compute: plain functions. -/
import Derived.Test.YtkmeeljlokeboaaEv31n21
set_option maxHeartbeats 1000000
set_option maxRecDepth 20000
set_option linter.unusedSimpArgs false
set_option linter.unusedVariables false
set_option linter.unusedSectionVars false
namespace Go.Proofs.Ytkmeeljlokeboaa.treeOtherW
open Go Go.Ab
noncomputable section
abbrev Tp12:=(List Int)
abbrev Tp11:=(List Bool)
abbrev Tp10:=(List Tp11)
abbrev Tp9:=(Int×Int×Int×Unit)
abbrev Tp8:=(Int×Int×Int×Int×Unit)
abbrev Tp7:=(List Tp9)
abbrev Tc9:Ty:=(.pair (.list (.int .i64)) .unit)
abbrev Tp6:=(List Tp8)
abbrev Tp5:=(Tp7×Unit)
abbrev Tc8:Ty:=(.pair (.int .i64) (.pair (.int .i64) .unit))
abbrev Tp4:=(Int×Tp6)
abbrev Tp3:=(Bool×Tp6)
abbrev Tp2:=(Int×Bool×Tp6)
abbrev Tc7:Ty:=(.pair (.int .i64) Tc9)
abbrev Tc6:Ty:=(.pair (.int .i64) Tc8)
abbrev Tp1:=(Int×Int×Tp6×Int×Tp12×Unit)
abbrev Tc5:Ty:=(.pair (.int .i64) Tc6)
abbrev Tc4:Ty:=(.list Tc5)
abbrev Tc3:Ty:=(.pair Tc4 Tc7)
abbrev Tc2:Ty:=(.pair (.int .i64) Tc3)
abbrev Tc1:Ty:=(.pair (.int .i64) Tc2)
abbrev Tf1:=Int->Int->Int->Int->Tp12->Tp12->Tp12->Tp6->Option Tp1
abbrev Tf2:=Int->Int->Int->Bool->Bool->Tp6->Option Tp6
abbrev Tf3:=Int->Int->Int->Int->Tp6->Tp12->Option Tp1
abbrev Tf4:=Int->Int->Int->Tp6->Option Tp6
def zmL (l:Tp12):Option Tp12:=
  G (fits ((l.length:Int)+(3:Int))) (
  G (mkOK (l.length:Int) ((l.length:Int)+(3:Int)) 8) (
  some (l.take (List.replicate ((l.length:Int)).toNat (0:Int)).length++(List.replicate ((l.length:Int)).toNat (0:Int)).drop l.length)))

def znn (t:Tp1):Option Tp1:=
  G (room ([]:List Tp8) t.2.2.1 32) (
  (zmL t.2.2.2.2.1).bind (fun y'=>
  some (t.1,(t.2.1,(([]:List Tp8)++t.2.2.1,(t.2.2.2.1,(y',())))))))

def zff (q:Int) (t:Tp1):Option (Bool):=
  if (decide (q < (0:Int)))=true then
  some true else
  some (decide (t.2.1<=q))

def zgg (m:Int):Option (Bool):=
  if (decide (¬ m=(0:Int)))=true then
  some (decide (¬ m=(1:Int))) else
  some false

def zck (s:Tp12) (r2:Int->Option (Int)) (t:Int):Option (Int):=
  if (decide (t < (s.length:Int)))=true then
  G (0<=t/\t < (s.length:Int)) (
  (zgg (ix s t)).bind (fun y'=>
  if y'=true then
  some t else
  G (fits (t+(1:Int))) (
  r2 (t+(1:Int))))) else
  some (-1:Int)
def zga (s:Tp12):(Int->Option (Int))->Int->Option (Int):=
  fun rec x=>zck s (fun t=>rec t) x
def zeZ (s:Tp12) (t:Int):Option (Int):=LFix (zga s ) t
def zir (s:Tp12):Option (Int):=
  zeZ s (0:Int)
theorem zhX (r2:Nat->Int->Option (Int)) (r2':Int->Option (Int)) (h_r2:∀ a0,ChO (fun κ=>r2 κ a0) (r2' a0)) (s:Tp12) (t:Int):ChO (fun κ=>zck s (r2 κ) t) (zck s r2' t):=by
  unfold zck
  repeat' with_reducible first | exact ChO.const _ | exact h_r2 _ | apply ChO.ite | apply ChO.G | apply ChO.both | (apply ChO.bind;intro _)
theorem ziI  (s:Tp12):Cn (zga s):=fun g h hg x=>zhX  (fun κ t=>g κ t) (fun t=>h t) (fun t=>hg t) s x
theorem ziJ  (s:Tp12) (t:Int):zeZ s t=zck s (zeZ s) t:=zbc (ziI s) t

def zeY (s:Tp12):Option (Bool):=
  (zir s).bind (fun y'=>
  some (decide ((0:Int)<=y')))

def zkh (x':Int):Option (Bool):=
  some (decide (¬ x'=x'))

def zeW (x':Int) (y':Int):Option (Int):=
  (zkh x').bind (fun y'_1=>
  (zkh y').bind (fun y'_2=>
  if y'_1=true then
  if y'_2=true then
  some (0:Int) else
  some (-1:Int) else
  if y'_2=true then
  some (1:Int) else
  if (decide (x' < y'))=true then
  some (-1:Int) else
  if (decide (y' < x'))=true then
  some (1:Int) else
  some (0:Int)))

def zde (vals:Tp12) (r3:Int->Option (Int)) (t:Int):Option (Int):=
  if (decide (t < (vals.length:Int)))=true then
  G (0<=t/\t < (vals.length:Int)) (
  if (decide (¬ (ix vals t)=(0:Int)))=true then
  some (ix vals t) else
  G (fits (t+(1:Int))) (
  r3 (t+(1:Int)))) else
  some (0:Int)
def zm3 (vals:Tp12):(Int->Option (Int))->Int->Option (Int):=
  fun rec x=>zde vals (fun t=>rec t) x
def zm2 (vals:Tp12) (t:Int):Option (Int):=LFix (zm3 vals ) t
def zrJ (vals:Tp12):Option (Int):=
  zm2 vals (0:Int)
theorem znY (r3:Nat->Int->Option (Int)) (r3':Int->Option (Int)) (h_r3:∀ a0,ChO (fun κ=>r3 κ a0) (r3' a0)) (vals:Tp12) (t:Int):ChO (fun κ=>zde vals (r3 κ) t) (zde vals r3' t):=by
  unfold zde
  repeat' with_reducible first | exact ChO.const _ | exact h_r3 _ | apply ChO.ite | apply ChO.G | apply ChO.both | (apply ChO.bind;intro _)
theorem zpR  (vals:Tp12):Cn (zm3 vals):=fun g h hg x=>znY  (fun κ t=>g κ t) (fun t=>h t) (fun t=>hg t) vals x
theorem zf4  (vals:Tp12) (t:Int):zm2 vals t=zde vals (zm2 vals) t:=zbc (zpR vals) t

def zbu (x':Tp8) (y':Tp8):Option (Int):=
  (zeW x'.1 y'.1).bind (fun y'_1=>
  (zeW x'.2.1 y'.2.1).bind (fun y'_2=>
  (zeW x'.2.2.1 y'.2.2.1).bind (fun y'_3=>
  (zeW x'.2.2.2.1 y'.2.2.2.1).bind (fun y'_4=>
  (zrJ ([y'_1,y'_2,y'_3,y'_4])).bind (fun y'_5=>
  some y'_5)))))

def zcE (t:Tp1) (t_1:Int) (r7:(Int->Option (Int))) (leaf:Bool):Option (Int):=
  if (decide (((ix t.2.2.1 t_1).1) < (0:Int)))=true then
  some (2:Int) else
  if (decide (t.1<=((ix t.2.2.1 t_1).1)))=true then
  some (2:Int) else
  (zff (((((ix t.2.2.1 t_1).2).2).2).1) (t.1,(t.2.1,(t.2.2.1,(t.2.2.2.1,(t.2.2.2.2.1,())))))).bind (fun y'=>
  if y'=true then
  some (2:Int) else
  if (!leaf)=true then
  (zff (((ix t.2.2.1 t_1).2).1) (t.1,(t.2.1,(t.2.2.1,(t.2.2.2.1,(t.2.2.2.2.1,())))))).bind (fun y'_1=>
  if y'_1=true then
  some (2:Int) else
  (zff ((((ix t.2.2.1 t_1).2).2).1) (t.1,(t.2.1,(t.2.2.1,(t.2.2.2.1,(t.2.2.2.2.1,())))))).bind (fun y'_2=>
  if y'_2=true then
  some (2:Int) else
  G (fits (t_1+(1:Int))) (
  r7 (t_1+(1:Int))))) else
  G (fits (t_1+(1:Int))) (
  r7 (t_1+(1:Int))))
def zbW (t:Tp1) (r16:Int->Option (Int)) (t_2:Int):Option (Int):=
  if (decide (t_2 < (t.2.2.1.length:Int)))=true then
  if (decide ((0:Int) < t_2))=true then
  G (fits (t_2 - (1:Int))) (
  G (0<=t_2 - (1:Int)/\t_2 - (1:Int) < (t.2.2.1.length:Int)) (
  G (0<=t_2/\t_2 < (t.2.2.1.length:Int)) (
  (zbu (ix t.2.2.1 (t_2 - (1:Int))) (ix t.2.2.1 t_2)).bind (fun y'_4=>
  if (decide ((0:Int)<=y'_4))=true then
  some (3:Int) else
  G (fits (t_2+(1:Int))) (
  r16 (t_2+(1:Int))))))) else
  G (fits (t_2+(1:Int))) (
  r16 (t_2+(1:Int))) else
  if (decide (¬ t.2.2.2.1=(0:Int)))=true then
  some (3:Int) else
  some (0:Int)
def zix (t:Tp1):(Int->Option (Int))->Int->Option (Int):=
  fun rec x=>zbW t (fun t_2=>rec t_2) x
def zhB (t:Tp1) (t_2:Int):Option (Int):=LFix (zix t ) t_2
def zcq (t:Tp1) (r7:Int->Option (Int)) (t_1:Int):Option (Int):=
  if (decide (t_1 < (t.2.2.1.length:Int)))=true then
  G (0<=t_1/\t_1 < (t.2.2.1.length:Int)) (
  if (decide ((((ix t.2.2.1 t_1).2).1)=(-1:Int)))=true then
  zcE t t_1 r7 (decide (((((ix t.2.2.1 t_1).2).2).1)=(-1:Int))) else
  zcE t t_1 r7 false) else
  (zeY t.2.2.2.2.1).bind (fun y'_3=>
  if y'_3=true then
  some (2:Int) else
  zhB t (0:Int))
def zi8 (t:Tp1):(Int->Option (Int))->Int->Option (Int):=
  fun rec x=>zcq t (fun t_1=>rec t_1) x
def zim (t:Tp1) (t_1:Int):Option (Int):=LFix (zi8 t ) t_1
def zjy (t:Tp1):Option (Int):=
  if (decide (t.1 < (1:Int)))=true then
  some (2:Int) else
  if (decide ((4:Int) < t.1))=true then
  some (2:Int) else
  if (decide (t.2.1 < (1:Int)))=true then
  some (1:Int) else
  if (decide ((300:Int) < t.2.1))=true then
  some (1:Int) else
  if (decide ((40000:Int) < (t.2.2.1.length:Int)))=true then
  some (1:Int) else
  if (decide (¬ (t.2.2.2.2.1.length:Int)=t.2.1))=true then
  some (1:Int) else
  zim t (0:Int)
theorem ziw (r7:Nat->Int->Option (Int)) (r7':Int->Option (Int)) (h_r7:∀ a0,ChO (fun κ=>r7 κ a0) (r7' a0)) (t:Tp1) (t_1:Int) (leaf:Bool):ChO (fun κ=>zcE t t_1 (r7 κ) leaf) (zcE t t_1 r7' leaf):=by
  unfold zcE
  repeat' with_reducible first | exact ChO.const _ | exact h_r7 _ | apply ChO.ite | apply ChO.G | apply ChO.both | (apply ChO.bind;intro _)
theorem zkb (r16:Nat->Int->Option (Int)) (r16':Int->Option (Int)) (h_r16:∀ a0,ChO (fun κ=>r16 κ a0) (r16' a0)) (t:Tp1) (t_2:Int):ChO (fun κ=>zbW t (r16 κ) t_2) (zbW t r16' t_2):=by
  unfold zbW
  repeat' with_reducible first | exact ChO.const _ | exact h_r16 _ | (apply ziw<;>assumption) | apply ChO.ite | apply ChO.G | apply ChO.both | (apply ChO.bind;intro _)
theorem zlI  (t:Tp1):Cn (zix t):=fun g h hg x=>zkb  (fun κ t_2=>g κ t_2) (fun t_2=>h t_2) (fun t_2=>hg t_2) t x
theorem zfZ  (t:Tp1) (t_2:Int):zhB t t_2=zbW t (zhB t) t_2:=zbc (zlI t) t_2
theorem zk2 (r7:Nat->Int->Option (Int)) (r7':Int->Option (Int)) (h_r7:∀ a0,ChO (fun κ=>r7 κ a0) (r7' a0)) (t:Tp1) (t_1:Int):ChO (fun κ=>zcq t (r7 κ) t_1) (zcq t r7' t_1):=by
  unfold zcq
  repeat' with_reducible first | exact ChO.const _ | exact h_r7 _ | (apply ziw<;>assumption) | apply ChO.ite | apply ChO.G | apply ChO.both | (apply ChO.bind;intro _)
theorem zmz  (t:Tp1):Cn (zi8 t):=fun g h hg x=>zk2  (fun κ t_1=>g κ t_1) (fun t_1=>h t_1) (fun t_1=>hg t_1) t x
theorem zgu  (t:Tp1) (t_1:Int):zim t t_1=zcq t (zim t) t_1:=zbc (zmz t) t_1

def zdi (a:Tp1) (letter:Int) (left:Int) (right:Int) (r3:Int->Int->Option (Int)) (s:Int) (t:Int):Option (Int):=
  if (decide (t < (a.2.2.1.length:Int)))=true then
  G (0<=t/\t < (a.2.2.1.length:Int)) (
  if (decide (¬ ((ix a.2.2.1 t).1)=letter))=true then
  G (fits (t+(1:Int))) (
  r3 s (t+(1:Int))) else
  if (decide (¬ (decide ((((ix a.2.2.1 t).2).1) < (0:Int)))=(decide (left < (0:Int)))))=true then
  G (fits (t+(1:Int))) (
  r3 s (t+(1:Int))) else
  if (decide (left < (0:Int)))=true then
  G (0<=((((ix a.2.2.1 t).2).2).2).1) (
  G (fits (t+(1:Int))) (
  r3 (ior .i64 s (ishl .i64 (1:Int) (((((ix a.2.2.1 t).2).2).2).1))) (t+(1:Int)))) else
  G (0<=((ix a.2.2.1 t).2).1) (
  if (decide ((iand .i64 (ishr .i64 left (((ix a.2.2.1 t).2).1)) (1:Int))=(1:Int)))=true then
  G (0<=(((ix a.2.2.1 t).2).2).1) (
  if (decide ((iand .i64 (ishr .i64 right ((((ix a.2.2.1 t).2).2).1)) (1:Int))=(1:Int)))=true then
  G (0<=((((ix a.2.2.1 t).2).2).2).1) (
  G (fits (t+(1:Int))) (
  r3 (ior .i64 s (ishl .i64 (1:Int) (((((ix a.2.2.1 t).2).2).2).1))) (t+(1:Int)))) else
  G (fits (t+(1:Int))) (
  r3 s (t+(1:Int)))) else
  G (fits (t+(1:Int))) (
  r3 s (t+(1:Int))))) else
  some s
def zjY (a:Tp1) (letter:Int) (left:Int) (right:Int):(Int×Int->Option (Int))->Int×Int->Option (Int):=
  fun rec x=>zdi a letter left right (fun s t=>rec (s,t)) x.1 x.2
def zfg (a:Tp1) (letter:Int) (left:Int) (right:Int) (s:Int) (t:Int):Option (Int):=LFix (zjY a letter left right ) (s,t)
def zlc (a:Tp1) (letter:Int) (left:Int) (right:Int):Option (Int):=
  zfg a letter left right (0:Int) (0:Int)
theorem zlL (r3:Nat->Int->Int->Option (Int)) (r3':Int->Int->Option (Int)) (h_r3:∀ a0 a1,ChO (fun κ=>r3 κ a0 a1) (r3' a0 a1)) (a:Tp1) (letter:Int) (left:Int) (right:Int) (s:Int) (t:Int):ChO (fun κ=>zdi a letter left right (r3 κ) s t) (zdi a letter left right r3' s t):=by
  unfold zdi
  repeat' with_reducible first | exact ChO.const _ | exact h_r3 _ _ | apply ChO.ite | apply ChO.G | apply ChO.both | (apply ChO.bind;intro _)
theorem znN  (a:Tp1) (letter:Int) (left:Int) (right:Int):Cn (zjY a letter left right):=fun g h hg x=>zlL  (fun κ s t=>g κ (s,t)) (fun s t=>h (s,t)) (fun s t=>hg (s,t)) a letter left right x.1 x.2
theorem zjj  (a:Tp1) (letter:Int) (left:Int) (right:Int) (s:Int) (t:Int):zfg a letter left right s t=zdi a letter left right (zfg a letter left right) s t:=zbc (znN a letter left right) (s,t)

def zda (letter:Int) (left:Int) (right:Int) (t:Tp1):Option (Int):=
  (zlc t letter left right).bind (fun y'=>
  some y')

def zb8 (s:Int) (c:Tp12) (c_1:Tp12) (l:Tp12):Option (Int×Tp12×Tp12×Tp12):=
  if (!(mhas c s))=true then
  G (room l ([s]) 8) (
  some ((l.length:Int),l++([s]),zjA c s,zmu c c_1 s (l.length:Int))) else
  some (mget c c_1 s (0:Int),l,c,c_1)

def zdg (a:Tp1) (s:Int) (r2:Int->Option (Bool)) (t:Int):Option (Bool):=
  if (decide (t < (a.2.2.2.2.1.length:Int)))=true then
  G (0<=t/\t < (a.2.2.2.2.1.length:Int)) (
  if (decide ((ix a.2.2.2.2.1 t)=(1:Int)))=true then
  G (0<=t) (
  if (decide ((iand .i64 (ishr .i64 s t) (1:Int))=(1:Int)))=true then
  some true else
  G (fits (t+(1:Int))) (
  r2 (t+(1:Int)))) else
  G (fits (t+(1:Int))) (
  r2 (t+(1:Int)))) else
  some false
def zjV (a:Tp1) (s:Int):(Int->Option (Bool))->Int->Option (Bool):=
  fun rec x=>zdg a s (fun t=>rec t) x
def zhq (a:Tp1) (s:Int) (t:Int):Option (Bool):=LFix (zjV a s ) t
def znK (a:Tp1) (s:Int):Option (Bool):=
  zhq a s (0:Int)
theorem zlJ (r2:Nat->Int->Option (Bool)) (r2':Int->Option (Bool)) (h_r2:∀ a0,ChO (fun κ=>r2 κ a0) (r2' a0)) (a:Tp1) (s:Int) (t:Int):ChO (fun κ=>zdg a s (r2 κ) t) (zdg a s r2' t):=by
  unfold zdg
  repeat' with_reducible first | exact ChO.const _ | exact h_r2 _ | apply ChO.ite | apply ChO.G | apply ChO.both | (apply ChO.bind;intro _)
theorem znL  (a:Tp1) (s:Int):Cn (zjV a s):=fun g h hg x=>zlJ  (fun κ t=>g κ t) (fun t=>h t) (fun t=>hg t) a s x
theorem zjb  (a:Tp1) (s:Int) (t:Int):zhq a s t=zdg a s (zhq a s) t:=zbc (znL a s) t

def zhp (s:Int) (t:Tp1):Option (Int):=
  (znK t s).bind (fun y'=>
  if y'=true then
  some (0:Int) else
  some (1:Int))

def zgC (x'_3:Int) (n_2:Int):Option (Int):=
  G (0<=IntKind.wrap .u8 x'_3/\IntKind.wrap .u8 x'_3 < (([0,1,2,2,3,3,3,3,4,4,4,4,4,4,4,4,5,5,5,5,5,5,5,5,5,5,5,5,5,5,5,5,6,6,6,6,6,6,6,6,6,6,6,6,6,6,6,6,6,6,6,6,6,6,6,6,6,6,6,6,6,6,6,6,7,7,7,7,7,7,7,7,7,7,7,7,7,7,7,7,7,7,7,7,7,7,7,7,7,7,7,7,7,7,7,7,7,7,7,7,7,7,7,7,7,7,7,7,7,7,7,7,7,7,7,7,7,7,7,7,7,7,7,7,7,7,7,7,8,8,8,8,8,8,8,8,8,8,8,8,8,8,8,8,8,8,8,8,8,8,8,8,8,8,8,8,8,8,8,8,8,8,8,8,8,8,8,8,8,8,8,8,8,8,8,8,8,8,8,8,8,8,8,8,8,8,8,8,8,8,8,8,8,8,8,8,8,8,8,8,8,8,8,8,8,8,8,8,8,8,8,8,8,8,8,8,8,8,8,8,8,8,8,8,8,8,8,8,8,8,8,8,8,8,8,8,8,8,8,8,8,8,8,8,8,8,8,8,8,8,8,8,8,8,8,8]).length:Int)) (
  G (fits (n_2+(IntKind.wrap .i64 (bAt ([0,1,2,2,3,3,3,3,4,4,4,4,4,4,4,4,5,5,5,5,5,5,5,5,5,5,5,5,5,5,5,5,6,6,6,6,6,6,6,6,6,6,6,6,6,6,6,6,6,6,6,6,6,6,6,6,6,6,6,6,6,6,6,6,7,7,7,7,7,7,7,7,7,7,7,7,7,7,7,7,7,7,7,7,7,7,7,7,7,7,7,7,7,7,7,7,7,7,7,7,7,7,7,7,7,7,7,7,7,7,7,7,7,7,7,7,7,7,7,7,7,7,7,7,7,7,7,7,8,8,8,8,8,8,8,8,8,8,8,8,8,8,8,8,8,8,8,8,8,8,8,8,8,8,8,8,8,8,8,8,8,8,8,8,8,8,8,8,8,8,8,8,8,8,8,8,8,8,8,8,8,8,8,8,8,8,8,8,8,8,8,8,8,8,8,8,8,8,8,8,8,8,8,8,8,8,8,8,8,8,8,8,8,8,8,8,8,8,8,8,8,8,8,8,8,8,8,8,8,8,8,8,8,8,8,8,8,8,8,8,8,8,8,8,8,8,8,8,8,8,8,8,8,8,8,8]) (IntKind.wrap .u8 x'_3))))) (
  some (n_2+(IntKind.wrap .i64 (bAt ([0,1,2,2,3,3,3,3,4,4,4,4,4,4,4,4,5,5,5,5,5,5,5,5,5,5,5,5,5,5,5,5,6,6,6,6,6,6,6,6,6,6,6,6,6,6,6,6,6,6,6,6,6,6,6,6,6,6,6,6,6,6,6,6,7,7,7,7,7,7,7,7,7,7,7,7,7,7,7,7,7,7,7,7,7,7,7,7,7,7,7,7,7,7,7,7,7,7,7,7,7,7,7,7,7,7,7,7,7,7,7,7,7,7,7,7,7,7,7,7,7,7,7,7,7,7,7,7,8,8,8,8,8,8,8,8,8,8,8,8,8,8,8,8,8,8,8,8,8,8,8,8,8,8,8,8,8,8,8,8,8,8,8,8,8,8,8,8,8,8,8,8,8,8,8,8,8,8,8,8,8,8,8,8,8,8,8,8,8,8,8,8,8,8,8,8,8,8,8,8,8,8,8,8,8,8,8,8,8,8,8,8,8,8,8,8,8,8,8,8,8,8,8,8,8,8,8,8,8,8,8,8,8,8,8,8,8,8,8,8,8,8,8,8,8,8,8,8,8,8,8,8,8,8,8,8]) (IntKind.wrap .u8 x'_3))))))
def zgB (x'_2:Int) (n_1:Int):Option (Int):=
  if (decide ((256:Int)<=x'_2))=true then
  G (0<=(8:Int)) (
  G (fits (n_1+(8:Int))) (
  zgC (ishr .u64 x'_2 (8:Int)) (n_1+(8:Int)))) else
  zgC x'_2 n_1
def zgA (x'_1:Int) (n:Int):Option (Int):=
  if (decide ((65536:Int)<=x'_1))=true then
  G (0<=(16:Int)) (
  G (fits (n+(16:Int))) (
  zgB (ishr .u64 x'_1 (16:Int)) (n+(16:Int)))) else
  zgB x'_1 n
def zlk (x':Int):Option (Int):=
  if (decide ((4294967296:Int)<=x'))=true then
  G (0<=(32:Int)) (
  zgA (ishr .u64 x' (32:Int)) (32:Int)) else
  zgA x' (0:Int)

def zke (x':Int):Option (Int):=
  (zlk x').bind (fun y'=>
  some y')

def zay (a:Int) (i:Int) (r1:(Int->Tp6->Option Tp6)) (r4:Int->Tp6->Option Tp6) (j:Int) (data_2:Tp6):Option Tp6:=
  if (decide (a < j))=true then
  G (0<=j/\j < (data_2.length:Int)) (
  G ((j).toNat < data_2.length) (
  G (fits (j - (1:Int))) (
  G (0<=j - (1:Int)/\j - (1:Int) < (data_2.length:Int)) (
  G ((j - (1:Int)).toNat < data_2.length) (
  (zbu (ix data_2 j) (ix data_2 (j - (1:Int)))).bind (fun y'=>
  if (decide (y' < (0:Int)))=true then
  G (fits (j - (1:Int))) (
  G (fits (j - (1:Int))) (
  G (0<=j - (1:Int)/\j - (1:Int) < (data_2.length:Int)) (
  G ((j - (1:Int)).toNat < data_2.length) (
  G (0<=j/\j < (data_2.length:Int)) (
  G ((j).toNat < data_2.length) (
  G (0<=j/\j < (data_2.length:Int)) (
  G ((j).toNat < data_2.length) (
  G (0<=j - (1:Int)/\j - (1:Int) < ((data_2.set (j).toNat (ix data_2 (j - (1:Int)))).length:Int)) (
  G ((j - (1:Int)).toNat < (data_2.set (j).toNat (ix data_2 (j - (1:Int)))).length) (
  G (fits (j - (1:Int))) (
  r4 (j - (1:Int)) ((data_2.set (j).toNat (ix data_2 (j - (1:Int)))).set (j - (1:Int)).toNat (ix data_2 j))))))))))))) else
  G (fits (i+(1:Int))) (
  r1 (i+(1:Int)) data_2))))))) else
  G (fits (i+(1:Int))) (
  r1 (i+(1:Int)) data_2)
def zdm (a:Int) (i:Int) (r1:(Int->Tp6->Option Tp6)):(Int×Tp6->Option Tp6)->Int×Tp6->Option Tp6:=
  fun rec x=>zay a i r1 (fun j data_2=>rec (j,data_2)) x.1 x.2
def zaH (a:Int) (i:Int) (r1:(Int->Tp6->Option Tp6)) (j:Int) (data_2:Tp6):Option Tp6:=LFix (zdm a i r1 ) (j,data_2)
def zax (a:Int) (b:Int) (r1:Int->Tp6->Option Tp6) (i:Int) (data_1:Tp6):Option Tp6:=
  if (decide (i < b))=true then
  zaH a i r1 i data_1 else
  some data_1
def zdl (a:Int) (b:Int):(Int×Tp6->Option Tp6)->Int×Tp6->Option Tp6:=
  fun rec x=>zax a b (fun i data_1=>rec (i,data_1)) x.1 x.2
def zbw (a:Int) (b:Int) (i:Int) (data_1:Tp6):Option Tp6:=LFix (zdl a b ) (i,data_1)
def zbO (a:Int) (b:Int) (data:Tp6):Option Tp6:=
  G (fits (a+(1:Int))) (
  zbw a b (a+(1:Int)) data)
theorem zcN (r1:Nat->Int->Tp6->Option Tp6) (r1':Int->Tp6->Option Tp6) (h_r1:∀ a0 a1,ChO (fun κ=>r1 κ a0 a1) (r1' a0 a1)) (r4:Nat->Int->Tp6->Option Tp6) (r4':Int->Tp6->Option Tp6) (h_r4:∀ a0 a1,ChO (fun κ=>r4 κ a0 a1) (r4' a0 a1)) (a:Int) (i:Int) (j:Int) (data_2:Tp6):ChO (fun κ=>zay a i (r1 κ) (r4 κ) j data_2) (zay a i r1' r4' j data_2):=by
  unfold zay
  repeat' with_reducible first | exact ChO.const _ | exact h_r1 _ _ | exact h_r4 _ _ | apply ChO.ite | apply ChO.G | apply ChO.both | (apply ChO.bind;intro _)
theorem zbP (r1:Int->Tp6->Option Tp6) (a:Int) (i:Int):Cn (zdm a i r1):=fun g h hg x=>zcN (fun _=>r1) r1 (fun _ _=>ChO.const _) (fun κ j data_2=>g κ (j,data_2)) (fun j data_2=>h (j,data_2)) (fun j data_2=>hg (j,data_2)) a i x.1 x.2
theorem zc5 (r1:Int->Tp6->Option Tp6) (a:Int) (i:Int) (j:Int) (data_2:Tp6):zaH a i r1 j data_2=zay a i r1 (zaH a i r1) j data_2:=zbc (zbP r1 a i) (j,data_2)
theorem zfA (r1:Nat->Int->Tp6->Option Tp6) (r1':Int->Tp6->Option Tp6) (h_r1:∀ a0 a1,ChO (fun κ=>r1 κ a0 a1) (r1' a0 a1)) (a:Int) (i:Int) (j:Int) (data_2:Tp6):ChO (fun κ=>zaH a i (r1 κ) j data_2) (zaH a i r1' j data_2):=by
  unfold zaH
  exact zgk (fun κ=>(zbP (r1 κ) a i).mono) (zbP r1' a i).mono (fun g h hg x=>zcN r1 r1' h_r1 (fun κ j data_2=>g κ (j,data_2)) (fun j data_2=>h (j,data_2)) (fun j data_2=>hg (j,data_2)) a i x.1 x.2) _
theorem ze1 (r1:Nat->Int->Tp6->Option Tp6) (r1':Int->Tp6->Option Tp6) (h_r1:∀ a0 a1,ChO (fun κ=>r1 κ a0 a1) (r1' a0 a1)) (a:Int) (b:Int) (i:Int) (data_1:Tp6):ChO (fun κ=>zax a b (r1 κ) i data_1) (zax a b r1' i data_1):=by
  unfold zax
  repeat' with_reducible first | exact ChO.const _ | exact h_r1 _ _ | (apply zfA<;>assumption) | apply ChO.ite | apply ChO.G | apply ChO.both | (apply ChO.bind;intro _)
theorem zfz  (a:Int) (b:Int):Cn (zdl a b):=fun g h hg x=>ze1  (fun κ i data_1=>g κ (i,data_1)) (fun i data_1=>h (i,data_1)) (fun i data_1=>hg (i,data_1)) a b x.1 x.2
theorem zc4  (a:Int) (b:Int) (i:Int) (data_1:Tp6):zbw a b i data_1=zax a b (zbw a b) i data_1:=zbc (zfz a b) (i,data_1)

def za6 (first:Int) (root:Int) (data_1:Tp6) (r1:(Int->Tp6->Option Tp6)) (child:Int):Option Tp6:=
  G (fits (first+root)) (
  G (0<=first+root/\first+root < (data_1.length:Int)) (
  G ((first+root).toNat < data_1.length) (
  G (fits (first+child)) (
  G (0<=first+child/\first+child < (data_1.length:Int)) (
  G ((first+child).toNat < data_1.length) (
  (zbu (ix data_1 (first+root)) (ix data_1 (first+child))).bind (fun y'_1=>
  if (!(decide (y'_1 < (0:Int))))=true then
  some data_1 else
  G (fits (first+root)) (
  G (fits (first+child)) (
  G (fits (first+child)) (
  G (0<=first+child/\first+child < (data_1.length:Int)) (
  G ((first+child).toNat < data_1.length) (
  G (fits (first+root)) (
  G (0<=first+root/\first+root < (data_1.length:Int)) (
  G ((first+root).toNat < data_1.length) (
  G (0<=first+root/\first+root < (data_1.length:Int)) (
  G ((first+root).toNat < data_1.length) (
  G (0<=first+child/\first+child < ((data_1.set (first+root).toNat (ix data_1 (first+child))).length:Int)) (
  G ((first+child).toNat < (data_1.set (first+root).toNat (ix data_1 (first+child))).length) (
  r1 child ((data_1.set (first+root).toNat (ix data_1 (first+child))).set (first+child).toNat (ix data_1 (first+root))))))))))))))))))))))
def za5 (first:Int) (root:Int) (data_1:Tp6) (r1:(Int->Tp6->Option Tp6)) (t:Bool):Option Tp6:=
  if t=true then
  G (fits ((((2:Int) * root)+(1:Int))+(1:Int))) (
  za6 first root data_1 r1 ((((2:Int) * root)+(1:Int))+(1:Int))) else
  za6 first root data_1 r1 (((2:Int) * root)+(1:Int))
def zaX (hi:Int) (first:Int) (r1:Int->Tp6->Option Tp6) (root:Int) (data_1:Tp6):Option Tp6:=
  G (fits ((2:Int) * root)) (
  G (fits (((2:Int) * root)+(1:Int))) (
  if (decide (hi<=(((2:Int) * root)+(1:Int))))=true then
  some data_1 else
  G (fits ((((2:Int) * root)+(1:Int))+(1:Int))) (
  if (decide (((((2:Int) * root)+(1:Int))+(1:Int)) < hi))=true then
  G (fits (first+(((2:Int) * root)+(1:Int)))) (
  G (0<=first+(((2:Int) * root)+(1:Int))/\first+(((2:Int) * root)+(1:Int)) < (data_1.length:Int)) (
  G ((first+(((2:Int) * root)+(1:Int))).toNat < data_1.length) (
  G (fits (first+(((2:Int) * root)+(1:Int)))) (
  G (fits ((first+(((2:Int) * root)+(1:Int)))+(1:Int))) (
  G (0<=(first+(((2:Int) * root)+(1:Int)))+(1:Int)/\(first+(((2:Int) * root)+(1:Int)))+(1:Int) < (data_1.length:Int)) (
  G (((first+(((2:Int) * root)+(1:Int)))+(1:Int)).toNat < data_1.length) (
  (zbu (ix data_1 (first+(((2:Int) * root)+(1:Int)))) (ix data_1 ((first+(((2:Int) * root)+(1:Int)))+(1:Int)))).bind (fun y'=>
  za5 first root data_1 r1 (decide (y' < (0:Int))))))))))) else
  za5 first root data_1 r1 false)))
def zeq (hi:Int) (first:Int):(Int×Tp6->Option Tp6)->Int×Tp6->Option Tp6:=
  fun rec x=>zaX hi first (fun root data_1=>rec (root,data_1)) x.1 x.2
def zbj (hi:Int) (first:Int) (root:Int) (data_1:Tp6):Option Tp6:=LFix (zeq hi first ) (root,data_1)
def zb6 (lo:Int) (hi:Int) (first:Int) (data:Tp6):Option Tp6:=
  zbj hi first lo data
theorem zee (r1:Nat->Int->Tp6->Option Tp6) (r1':Int->Tp6->Option Tp6) (h_r1:∀ a0 a1,ChO (fun κ=>r1 κ a0 a1) (r1' a0 a1)) (first:Int) (root:Int) (data_1:Tp6) (child:Int):ChO (fun κ=>za6 first root data_1 (r1 κ) child) (za6 first root data_1 r1' child):=by
  unfold za6
  repeat' with_reducible first | exact ChO.const _ | exact h_r1 _ _ | apply ChO.ite | apply ChO.G | apply ChO.both | (apply ChO.bind;intro _)
theorem zgI (r1:Nat->Int->Tp6->Option Tp6) (r1':Int->Tp6->Option Tp6) (h_r1:∀ a0 a1,ChO (fun κ=>r1 κ a0 a1) (r1' a0 a1)) (first:Int) (root:Int) (data_1:Tp6) (t:Bool):ChO (fun κ=>za5 first root data_1 (r1 κ) t) (za5 first root data_1 r1' t):=by
  unfold za5
  repeat' with_reducible first | exact ChO.const _ | exact h_r1 _ _ | (apply zee<;>assumption) | apply ChO.ite | apply ChO.G | apply ChO.both | (apply ChO.bind;intro _)
theorem zgf (r1:Nat->Int->Tp6->Option Tp6) (r1':Int->Tp6->Option Tp6) (h_r1:∀ a0 a1,ChO (fun κ=>r1 κ a0 a1) (r1' a0 a1)) (hi:Int) (first:Int) (root:Int) (data_1:Tp6):ChO (fun κ=>zaX hi first (r1 κ) root data_1) (zaX hi first r1' root data_1):=by
  unfold zaX
  repeat' with_reducible first | exact ChO.const _ | exact h_r1 _ _ | (apply zee<;>assumption) | (apply zgI<;>assumption) | apply ChO.ite | apply ChO.G | apply ChO.both | (apply ChO.bind;intro _)
theorem zgJ  (hi:Int) (first:Int):Cn (zeq hi first):=fun g h hg x=>zgf  (fun κ root data_1=>g κ (root,data_1)) (fun root data_1=>h (root,data_1)) (fun root data_1=>hg (root,data_1)) hi first x.1 x.2
theorem zef  (hi:Int) (first:Int) (root:Int) (data_1:Tp6):zbj hi first root data_1=zaX hi first (zbj hi first) root data_1:=zbc (zgJ hi first) (root,data_1)

def zaS (a:Int) (r8:Int->Tp6->Option Tp6) (i_1:Int) (data_2:Tp6):Option Tp6:=
  if (decide ((0:Int)<=i_1))=true then
  G (fits (a+i_1)) (
  G (fits (a+i_1)) (
  G (0<=a+i_1/\a+i_1 < (data_2.length:Int)) (
  G ((a+i_1).toNat < data_2.length) (
  G (0<=a/\a < (data_2.length:Int)) (
  G ((a).toNat < data_2.length) (
  G (0<=a/\a < (data_2.length:Int)) (
  G ((a).toNat < data_2.length) (
  G (0<=a+i_1/\a+i_1 < ((data_2.set (a).toNat (ix data_2 (a+i_1))).length:Int)) (
  G ((a+i_1).toNat < (data_2.set (a).toNat (ix data_2 (a+i_1))).length) (
  (zb6 (0:Int) i_1 a ((data_2.set (a).toNat (ix data_2 (a+i_1))).set (a+i_1).toNat (ix data_2 a))).bind (fun y'_1=>
  G (fits (i_1 - (1:Int))) (
  r8 (i_1 - (1:Int)) y'_1)))))))))))) else
  some data_2
def zem (a:Int):(Int×Tp6->Option Tp6)->Int×Tp6->Option Tp6:=
  fun rec x=>zaS a (fun i_1 data_2=>rec (i_1,data_2)) x.1 x.2
def zcg (a:Int) (i_1:Int) (data_2:Tp6):Option Tp6:=LFix (zem a ) (i_1,data_2)
def zaR (a:Int) (b:Int) (r4:Int->Tp6->Option Tp6) (i:Int) (data_1:Tp6):Option Tp6:=
  if (decide ((0:Int)<=i))=true then
  (zb6 i (b - a) a data_1).bind (fun y'=>
  G (fits (i - (1:Int))) (
  r4 (i - (1:Int)) y')) else
  G (fits ((b - a) - (1:Int))) (
  zcg a ((b - a) - (1:Int)) data_1)
def zel (a:Int) (b:Int):(Int×Tp6->Option Tp6)->Int×Tp6->Option Tp6:=
  fun rec x=>zaR a b (fun i data_1=>rec (i,data_1)) x.1 x.2
def zcf (a:Int) (b:Int) (i:Int) (data_1:Tp6):Option Tp6:=LFix (zel a b ) (i,data_1)
def zcV (a:Int) (b:Int) (data:Tp6):Option Tp6:=
  G (fits (b - a)) (
  G (fits ((b - a) - (1:Int))) (
  G ((2:Int)≠0) (
  G (fits (Int.tdiv ((b - a) - (1:Int)) (2:Int))) (
  zcf a b (Int.tdiv ((b - a) - (1:Int)) (2:Int)) data))))
theorem zgd (r8:Nat->Int->Tp6->Option Tp6) (r8':Int->Tp6->Option Tp6) (h_r8:∀ a0 a1,ChO (fun κ=>r8 κ a0 a1) (r8' a0 a1)) (a:Int) (i_1:Int) (data_2:Tp6):ChO (fun κ=>zaS a (r8 κ) i_1 data_2) (zaS a r8' i_1 data_2):=by
  unfold zaS
  repeat' with_reducible first | exact ChO.const _ | exact h_r8 _ _ | apply ChO.ite | apply ChO.G | apply ChO.both | (apply ChO.bind;intro _)
theorem zgH  (a:Int):Cn (zem a):=fun g h hg x=>zgd  (fun κ i_1 data_2=>g κ (i_1,data_2)) (fun i_1 data_2=>h (i_1,data_2)) (fun i_1 data_2=>hg (i_1,data_2)) a x.1 x.2
theorem zeb  (a:Int) (i_1:Int) (data_2:Tp6):zcg a i_1 data_2=zaS a (zcg a) i_1 data_2:=zbc (zgH a) (i_1,data_2)
theorem zgc (r4:Nat->Int->Tp6->Option Tp6) (r4':Int->Tp6->Option Tp6) (h_r4:∀ a0 a1,ChO (fun κ=>r4 κ a0 a1) (r4' a0 a1)) (a:Int) (b:Int) (i:Int) (data_1:Tp6):ChO (fun κ=>zaR a b (r4 κ) i data_1) (zaR a b r4' i data_1):=by
  unfold zaR
  repeat' with_reducible first | exact ChO.const _ | exact h_r4 _ _ | apply ChO.ite | apply ChO.G | apply ChO.both | (apply ChO.bind;intro _)
theorem zgG  (a:Int) (b:Int):Cn (zel a b):=fun g h hg x=>zgc  (fun κ i data_1=>g κ (i,data_1)) (fun i data_1=>h (i,data_1)) (fun i data_1=>hg (i,data_1)) a b x.1 x.2
theorem zea  (a:Int) (b:Int) (i:Int) (data_1:Tp6):zcf a b i data_1=zaR a b (zcf a b) i data_1:=zbc (zgG a b) (i,data_1)

def zc6 (length:Int):Option (Int):=
  (zke (IntKind.wrap .u64 length)).bind (fun y'=>
  G (0<=y') (
  some (ishl .u64 (1:Int) y')))

def zeB (c:Int):Option (Int×Int):=
  G (0<=(13:Int)) (
  G (0<=(7:Int)) (
  G (0<=(17:Int)) (
  some (ixor .u64 (ixor .u64 (ixor .u64 c (ishl .u64 c (13:Int))) (ishr .u64 (ixor .u64 c (ishl .u64 c (13:Int))) (7:Int))) (ishl .u64 (ixor .u64 (ixor .u64 c (ishl .u64 c (13:Int))) (ishr .u64 (ixor .u64 c (ishl .u64 c (13:Int))) (7:Int))) (17:Int)),ixor .u64 (ixor .u64 (ixor .u64 c (ishl .u64 c (13:Int))) (ishr .u64 (ixor .u64 c (ishl .u64 c (13:Int))) (7:Int))) (ishl .u64 (ixor .u64 (ixor .u64 c (ishl .u64 c (13:Int))) (ishr .u64 (ixor .u64 c (ishl .u64 c (13:Int))) (7:Int))) (17:Int))))))

def zaG (a:Int) (idx:Int) (data_1:Tp6) (r5:(Int->Tp6->Int->Option Tp6)) (y'_2:Int) (other:Int):Option Tp6:=
  G (fits (a+other)) (
  G (fits (a+other)) (
  G (0<=a+other/\a+other < (data_1.length:Int)) (
  G ((a+other).toNat < data_1.length) (
  G (0<=idx/\idx < (data_1.length:Int)) (
  G ((idx).toNat < data_1.length) (
  G (0<=idx/\idx < (data_1.length:Int)) (
  G ((idx).toNat < data_1.length) (
  G (0<=a+other/\a+other < ((data_1.set (idx).toNat (ix data_1 (a+other))).length:Int)) (
  G ((a+other).toNat < (data_1.set (idx).toNat (ix data_1 (a+other))).length) (
  G (fits (idx+(1:Int))) (
  r5 (idx+(1:Int)) ((data_1.set (idx).toNat (ix data_1 (a+other))).set (a+other).toNat (ix data_1 idx)) y'_2)))))))))))
def zaw (a:Int) (b:Int) (y':Int) (r5:Int->Tp6->Int->Option Tp6) (idx:Int) (data_1:Tp6) (random:Int):Option Tp6:=
  G ((4:Int)≠0) (
  G (fits (Int.tdiv (b - a) (4:Int))) (
  G (fits ((Int.tdiv (b - a) (4:Int)) * (2:Int))) (
  G (fits (a+((Int.tdiv (b - a) (4:Int)) * (2:Int)))) (
  G (fits ((a+((Int.tdiv (b - a) (4:Int)) * (2:Int)))+(1:Int))) (
  if (decide (idx<=((a+((Int.tdiv (b - a) (4:Int)) * (2:Int)))+(1:Int))))=true then
  (zeB random).bind (fun y'_4=>
  if (decide ((b - a)<=(IntKind.wrap .i64 (iand .u64 y'_4.1 (IntKind.wrap .u64 (y' - (1:Int)))))))=true then
  G (fits ((IntKind.wrap .i64 (iand .u64 y'_4.1 (IntKind.wrap .u64 (y' - (1:Int))))) - (b - a))) (
  zaG a idx data_1 r5 y'_4.2 ((IntKind.wrap .i64 (iand .u64 y'_4.1 (IntKind.wrap .u64 (y' - (1:Int))))) - (b - a))) else
  zaG a idx data_1 r5 y'_4.2 (IntKind.wrap .i64 (iand .u64 y'_4.1 (IntKind.wrap .u64 (y' - (1:Int)))))) else
  some data_1)))))
def zdk (a:Int) (b:Int) (y':Int):(Int×Tp6×Int->Option Tp6)->Int×Tp6×Int->Option Tp6:=
  fun rec x=>zaw a b y' (fun idx data_1 random=>rec (idx,data_1,random)) x.1 x.2.1 x.2.2
def zbd (a:Int) (b:Int) (y':Int) (idx:Int) (data_1:Tp6) (random:Int):Option Tp6:=LFix (zdk a b y' ) (idx,data_1,random)
def zbN (a:Int) (b:Int) (data:Tp6):Option Tp6:=
  G (fits (b - a)) (
  if (decide ((8:Int)<=(b - a)))=true then
  (zc6 (b - a)).bind (fun y'=>
  G ((4:Int)≠0) (
  G (fits (Int.tdiv (b - a) (4:Int))) (
  G (fits ((Int.tdiv (b - a) (4:Int)) * (2:Int))) (
  G (fits (a+((Int.tdiv (b - a) (4:Int)) * (2:Int)))) (
  G (fits ((a+((Int.tdiv (b - a) (4:Int)) * (2:Int))) - (1:Int))) (
  zbd a b y' ((a+((Int.tdiv (b - a) (4:Int)) * (2:Int))) - (1:Int)) data (IntKind.wrap .u64 (b - a)))))))) else
  some data)
theorem zfx (r5:Nat->Int->Tp6->Int->Option Tp6) (r5':Int->Tp6->Int->Option Tp6) (h_r5:∀ a0 a1 a2,ChO (fun κ=>r5 κ a0 a1 a2) (r5' a0 a1 a2)) (a:Int) (idx:Int) (data_1:Tp6) (y'_2:Int) (other:Int):ChO (fun κ=>zaG a idx data_1 (r5 κ) y'_2 other) (zaG a idx data_1 r5' y'_2 other):=by
  unfold zaG
  repeat' with_reducible first | exact ChO.const _ | exact h_r5 _ _ _ | apply ChO.ite | apply ChO.G | apply ChO.both | (apply ChO.bind;intro _)
theorem ze0 (r5:Nat->Int->Tp6->Int->Option Tp6) (r5':Int->Tp6->Int->Option Tp6) (h_r5:∀ a0 a1 a2,ChO (fun κ=>r5 κ a0 a1 a2) (r5' a0 a1 a2)) (a:Int) (b:Int) (y':Int) (idx:Int) (data_1:Tp6) (random:Int):ChO (fun κ=>zaw a b y' (r5 κ) idx data_1 random) (zaw a b y' r5' idx data_1 random):=by
  unfold zaw
  repeat' with_reducible first | exact ChO.const _ | exact h_r5 _ _ _ | (apply zfx<;>assumption) | apply ChO.ite | apply ChO.G | apply ChO.both | (apply ChO.bind;intro _)
theorem zfy  (a:Int) (b:Int) (y':Int):Cn (zdk a b y'):=fun g h hg x=>ze0  (fun κ idx data_1 random=>g κ (idx,data_1,random)) (fun idx data_1 random=>h (idx,data_1,random)) (fun idx data_1 random=>hg (idx,data_1,random)) a b y' x.1 x.2.1 x.2.2
theorem zc3  (a:Int) (b:Int) (y':Int) (idx:Int) (data_1:Tp6) (random:Int):zbd a b y' idx data_1 random=zaw a b y' (zbd a b y') idx data_1 random:=zbc (zfy a b y') (idx,data_1,random)

def zbS (data:Tp6) (a:Int) (b:Int) (c:Int):Option (Int×Int×Int):=
  G (0<=b/\b < (data.length:Int)) (
  G (0<=a/\a < (data.length:Int)) (
  (zbu (ix data b) (ix data a)).bind (fun y'=>
  if (decide (y' < (0:Int)))=true then
  G (fits (c+(1:Int))) (
  some (b,a,c+(1:Int))) else
  some (a,b,c))))

def zcx (data:Tp6) (a:Int) (b:Int) (c:Int) (c_1:Int):Option (Int×Int):=
  (zbS data a b c_1).bind (fun y'_14=>
  (zbS data y'_14.2.1 c y'_14.2.2).bind (fun y'_13=>
  (zbS data y'_14.1 y'_13.1 y'_13.2.2).bind (fun y'_12=>
  some (y'_12.2.1,y'_12.2.2))))

def za7 (data:Tp6) (a:Int) (c:Int):Option (Int×Int):=
  G (fits (a - (1:Int))) (
  G (fits (a+(1:Int))) (
  (zcx data (a - (1:Int)) a (a+(1:Int)) c).bind (fun y'_3=>
  some (y'_3.1,y'_3.2))))

def zbz (j_1:Int) (swaps_1:Int):Option (Int×Int):=
  if (decide (swaps_1=(0:Int)))=true then
  some (j_1,(1:Int)) else
  if (decide (swaps_1=(12:Int)))=true then
  some (j_1,(2:Int)) else
  some (j_1,(0:Int))
def zby (data:Tp6) (i:Int) (j:Int) (k:Int) (swaps:Int):Option (Int×Int):=
  (zcx data i j k swaps).bind (fun y'_12=>
  zbz y'_12.1 y'_12.2)
def zce (data:Tp6) (a:Int) (b:Int):Option (Int×Int):=
  G (fits (b - a)) (
  G ((4:Int)≠0) (
  G (fits (Int.tdiv (b - a) (4:Int))) (
  G (fits ((Int.tdiv (b - a) (4:Int)) * (1:Int))) (
  G (fits (a+((Int.tdiv (b - a) (4:Int)) * (1:Int)))) (
  G ((4:Int)≠0) (
  G (fits (Int.tdiv (b - a) (4:Int))) (
  G (fits ((Int.tdiv (b - a) (4:Int)) * (2:Int))) (
  G (fits (a+((Int.tdiv (b - a) (4:Int)) * (2:Int)))) (
  G ((4:Int)≠0) (
  G (fits (Int.tdiv (b - a) (4:Int))) (
  G (fits ((Int.tdiv (b - a) (4:Int)) * (3:Int))) (
  G (fits (a+((Int.tdiv (b - a) (4:Int)) * (3:Int)))) (
  if (decide ((8:Int)<=(b - a)))=true then
  if (decide ((50:Int)<=(b - a)))=true then
  (za7 data (a+((Int.tdiv (b - a) (4:Int)) * (1:Int))) (0:Int)).bind (fun y'_15=>
  (za7 data (a+((Int.tdiv (b - a) (4:Int)) * (2:Int))) y'_15.2).bind (fun y'_14=>
  (za7 data (a+((Int.tdiv (b - a) (4:Int)) * (3:Int))) y'_14.2).bind (fun y'_13=>
  zby data y'_15.1 y'_14.1 y'_13.1 y'_13.2))) else
  zby data (a+((Int.tdiv (b - a) (4:Int)) * (1:Int))) (a+((Int.tdiv (b - a) (4:Int)) * (2:Int))) (a+((Int.tdiv (b - a) (4:Int)) * (3:Int))) (0:Int) else
  zbz (a+((Int.tdiv (b - a) (4:Int)) * (2:Int))) (0:Int))))))))))))))

def zaE  (r2:Int->Int->Tp6->Option Tp6) (i:Int) (j:Int) (data_1:Tp6):Option Tp6:=
  if (decide (i < j))=true then
  G (0<=j/\j < (data_1.length:Int)) (
  G ((j).toNat < data_1.length) (
  G (0<=i/\i < (data_1.length:Int)) (
  G ((i).toNat < data_1.length) (
  G (0<=i/\i < (data_1.length:Int)) (
  G ((i).toNat < data_1.length) (
  G (0<=j/\j < ((data_1.set (i).toNat (ix data_1 j)).length:Int)) (
  G ((j).toNat < (data_1.set (i).toNat (ix data_1 j)).length) (
  G (fits (i+(1:Int))) (
  G (fits (j - (1:Int))) (
  r2 (i+(1:Int)) (j - (1:Int)) ((data_1.set (i).toNat (ix data_1 j)).set (j).toNat (ix data_1 i)))))))))))) else
  some data_1
def zdF:(Int×Int×Tp6->Option Tp6)->Int×Int×Tp6->Option Tp6:=
  fun rec x=>zaE (fun i j data_1=>rec (i,j,data_1)) x.1 x.2.1 x.2.2
def zbA  (i:Int) (j:Int) (data_1:Tp6):Option Tp6:=LFix (zdF ) (i,j,data_1)
def zb3 (a:Int) (b:Int) (data:Tp6):Option Tp6:=
  G (fits (b - (1:Int))) (
  zbA a (b - (1:Int)) data)
theorem zfj (r2:Nat->Int->Int->Tp6->Option Tp6) (r2':Int->Int->Tp6->Option Tp6) (h_r2:∀ a0 a1 a2,ChO (fun κ=>r2 κ a0 a1 a2) (r2' a0 a1 a2)) (i:Int) (j:Int) (data_1:Tp6):ChO (fun κ=>zaE (r2 κ) i j data_1) (zaE r2' i j data_1):=by
  unfold zaE
  repeat' with_reducible first | exact ChO.const _ | exact h_r2 _ _ _ | apply ChO.ite | apply ChO.G | apply ChO.both | (apply ChO.bind;intro _)
theorem zfJ:Cn (zdF):=fun g h hg x=>zfj  (fun κ i j data_1=>g κ (i,j,data_1)) (fun i j data_1=>h (i,j,data_1)) (fun i j data_1=>hg (i,j,data_1))  x.1 x.2.1 x.2.2
theorem zdt   (i:Int) (j:Int) (data_1:Tp6):zbA i j data_1=zaE (zbA) i j data_1:=zbc (zfJ ) (i,j,data_1)

def zan (b:Int) (j:Int) (r3:(Int->Int->Tp6->Option Tp3)) (i_2:Int) (r20:Int->Tp6->Option Tp3) (j_2:Int) (data_4:Tp6):Option Tp3:=
  if (decide (j_2 < b))=true then
  G (0<=j_2/\j_2 < (data_4.length:Int)) (
  G ((j_2).toNat < data_4.length) (
  G (fits (j_2 - (1:Int))) (
  G (0<=j_2 - (1:Int)/\j_2 - (1:Int) < (data_4.length:Int)) (
  G ((j_2 - (1:Int)).toNat < data_4.length) (
  (zbu (ix data_4 j_2) (ix data_4 (j_2 - (1:Int)))).bind (fun y'_2=>
  if (!(decide (y'_2 < (0:Int))))=true then
  G (fits (j+(1:Int))) (
  r3 i_2 (j+(1:Int)) data_4) else
  G (fits (j_2 - (1:Int))) (
  G (fits (j_2 - (1:Int))) (
  G (0<=j_2 - (1:Int)/\j_2 - (1:Int) < (data_4.length:Int)) (
  G ((j_2 - (1:Int)).toNat < data_4.length) (
  G (0<=j_2/\j_2 < (data_4.length:Int)) (
  G ((j_2).toNat < data_4.length) (
  G (0<=j_2/\j_2 < (data_4.length:Int)) (
  G ((j_2).toNat < data_4.length) (
  G (0<=j_2 - (1:Int)/\j_2 - (1:Int) < ((data_4.set (j_2).toNat (ix data_4 (j_2 - (1:Int)))).length:Int)) (
  G ((j_2 - (1:Int)).toNat < (data_4.set (j_2).toNat (ix data_4 (j_2 - (1:Int)))).length) (
  G (fits (j_2+(1:Int))) (
  r20 (j_2+(1:Int)) ((data_4.set (j_2).toNat (ix data_4 (j_2 - (1:Int)))).set (j_2 - (1:Int)).toNat (ix data_4 j_2))))))))))))))))))) else
  G (fits (j+(1:Int))) (
  r3 i_2 (j+(1:Int)) data_4)
def zcb (b:Int) (j:Int) (r3:(Int->Int->Tp6->Option Tp3)) (i_2:Int):(Int×Tp6->Option Tp3)->Int×Tp6->Option Tp3:=
  fun rec x=>zan b j r3 i_2 (fun j_2 data_4=>rec (j_2,data_4)) x.1 x.2
def zar (b:Int) (j:Int) (r3:(Int->Int->Tp6->Option Tp3)) (i_2:Int) (j_2:Int) (data_4:Tp6):Option Tp3:=LFix (zcb b j r3 i_2 ) (j_2,data_4)
def zae (b:Int) (j:Int) (r3:(Int->Int->Tp6->Option Tp3)) (i_2:Int) (data_3:Tp6):Option Tp3:=
  G (fits (b - i_2)) (
  if (decide ((2:Int)<=(b - i_2)))=true then
  G (fits (i_2+(1:Int))) (
  zar b j r3 i_2 (i_2+(1:Int)) data_3) else
  G (fits (j+(1:Int))) (
  r3 i_2 (j+(1:Int)) data_3))
def zam (b:Int) (j:Int) (r3:(Int->Int->Tp6->Option Tp3)) (i_2:Int) (r14:Int->Tp6->Option Tp3) (j_1:Int) (data_2:Tp6):Option Tp3:=
  if (decide ((1:Int)<=j_1))=true then
  G (0<=j_1/\j_1 < (data_2.length:Int)) (
  G ((j_1).toNat < data_2.length) (
  G (fits (j_1 - (1:Int))) (
  G (0<=j_1 - (1:Int)/\j_1 - (1:Int) < (data_2.length:Int)) (
  G ((j_1 - (1:Int)).toNat < data_2.length) (
  (zbu (ix data_2 j_1) (ix data_2 (j_1 - (1:Int)))).bind (fun y'_1=>
  if (!(decide (y'_1 < (0:Int))))=true then
  zae b j r3 i_2 data_2 else
  G (fits (j_1 - (1:Int))) (
  G (fits (j_1 - (1:Int))) (
  G (0<=j_1 - (1:Int)/\j_1 - (1:Int) < (data_2.length:Int)) (
  G ((j_1 - (1:Int)).toNat < data_2.length) (
  G (0<=j_1/\j_1 < (data_2.length:Int)) (
  G ((j_1).toNat < data_2.length) (
  G (0<=j_1/\j_1 < (data_2.length:Int)) (
  G ((j_1).toNat < data_2.length) (
  G (0<=j_1 - (1:Int)/\j_1 - (1:Int) < ((data_2.set (j_1).toNat (ix data_2 (j_1 - (1:Int)))).length:Int)) (
  G ((j_1 - (1:Int)).toNat < (data_2.set (j_1).toNat (ix data_2 (j_1 - (1:Int)))).length) (
  G (fits (j_1 - (1:Int))) (
  r14 (j_1 - (1:Int)) ((data_2.set (j_1).toNat (ix data_2 (j_1 - (1:Int)))).set (j_1 - (1:Int)).toNat (ix data_2 j_1))))))))))))))))))) else
  zae b j r3 i_2 data_2
def zca (b:Int) (j:Int) (r3:(Int->Int->Tp6->Option Tp3)) (i_2:Int):(Int×Tp6->Option Tp3)->Int×Tp6->Option Tp3:=
  fun rec x=>zam b j r3 i_2 (fun j_1 data_2=>rec (j_1,data_2)) x.1 x.2
def zaq (b:Int) (j:Int) (r3:(Int->Int->Tp6->Option Tp3)) (i_2:Int) (j_1:Int) (data_2:Tp6):Option Tp3:=LFix (zca b j r3 i_2 ) (j_1,data_2)
def zas (a:Int) (b:Int) (j:Int) (data_1:Tp6) (r3:(Int->Int->Tp6->Option Tp3)) (i_2:Int):Option Tp3:=
  if (decide (i_2=b))=true then
  some (true,data_1) else
  G (fits (b - a)) (
  if (decide ((b - a) < (50:Int)))=true then
  some (false,data_1) else
  G (fits (i_2 - (1:Int))) (
  G (fits (i_2 - (1:Int))) (
  G (0<=i_2 - (1:Int)/\i_2 - (1:Int) < (data_1.length:Int)) (
  G ((i_2 - (1:Int)).toNat < data_1.length) (
  G (0<=i_2/\i_2 < (data_1.length:Int)) (
  G ((i_2).toNat < data_1.length) (
  G (0<=i_2/\i_2 < (data_1.length:Int)) (
  G ((i_2).toNat < data_1.length) (
  G (0<=i_2 - (1:Int)/\i_2 - (1:Int) < ((data_1.set (i_2).toNat (ix data_1 (i_2 - (1:Int)))).length:Int)) (
  G ((i_2 - (1:Int)).toNat < (data_1.set (i_2).toNat (ix data_1 (i_2 - (1:Int)))).length) (
  G (fits (i_2 - a)) (
  if (decide ((2:Int)<=(i_2 - a)))=true then
  G (fits (i_2 - (1:Int))) (
  zaq b j r3 i_2 (i_2 - (1:Int)) ((data_1.set (i_2).toNat (ix data_1 (i_2 - (1:Int)))).set (i_2 - (1:Int)).toNat (ix data_1 i_2))) else
  zae b j r3 i_2 ((data_1.set (i_2).toNat (ix data_1 (i_2 - (1:Int)))).set (i_2 - (1:Int)).toNat (ix data_1 i_2))))))))))))))
def zap (a:Int) (b:Int) (j:Int) (data_1:Tp6) (r3:(Int->Int->Tp6->Option Tp3)) (r5:Int->Option Tp3) (i_1:Int):Option Tp3:=
  if (decide (i_1 < b))=true then
  G (0<=i_1/\i_1 < (data_1.length:Int)) (
  G ((i_1).toNat < data_1.length) (
  G (fits (i_1 - (1:Int))) (
  G (0<=i_1 - (1:Int)/\i_1 - (1:Int) < (data_1.length:Int)) (
  G ((i_1 - (1:Int)).toNat < data_1.length) (
  (zbu (ix data_1 i_1) (ix data_1 (i_1 - (1:Int)))).bind (fun y'=>
  if (!(decide (y' < (0:Int))))=true then
  G (fits (i_1+(1:Int))) (
  r5 (i_1+(1:Int))) else
  zas a b j data_1 r3 i_1)))))) else
  zas a b j data_1 r3 i_1
def zcm (a:Int) (b:Int) (j:Int) (data_1:Tp6) (r3:(Int->Int->Tp6->Option Tp3)):(Int->Option Tp3)->Int->Option Tp3:=
  fun rec x=>zap a b j data_1 r3 (fun i_1=>rec i_1) x
def zat (a:Int) (b:Int) (j:Int) (data_1:Tp6) (r3:(Int->Int->Tp6->Option Tp3)) (i_1:Int):Option Tp3:=LFix (zcm a b j data_1 r3 ) i_1
def zao (a:Int) (b:Int) (r3:Int->Int->Tp6->Option Tp3) (i:Int) (j:Int) (data_1:Tp6):Option Tp3:=
  if (decide (j < (5:Int)))=true then
  zat a b j data_1 r3 i else
  some (false,data_1)
def zcl (a:Int) (b:Int):(Int×Int×Tp6->Option Tp3)->Int×Int×Tp6->Option Tp3:=
  fun rec x=>zao a b (fun i j data_1=>rec (i,j,data_1)) x.1 x.2.1 x.2.2
def zaM (a:Int) (b:Int) (i:Int) (j:Int) (data_1:Tp6):Option Tp3:=LFix (zcl a b ) (i,j,data_1)
def zbh (a:Int) (b:Int) (data:Tp6):Option Tp3:=
  G (fits (a+(1:Int))) (
  zaM a b (a+(1:Int)) (0:Int) data)
theorem zbR (r3:Nat->Int->Int->Tp6->Option Tp3) (r3':Int->Int->Tp6->Option Tp3) (h_r3:∀ a0 a1 a2,ChO (fun κ=>r3 κ a0 a1 a2) (r3' a0 a1 a2)) (r20:Nat->Int->Tp6->Option Tp3) (r20':Int->Tp6->Option Tp3) (h_r20:∀ a0 a1,ChO (fun κ=>r20 κ a0 a1) (r20' a0 a1)) (b:Int) (j:Int) (i_2:Int) (j_2:Int) (data_4:Tp6):ChO (fun κ=>zan b j (r3 κ) i_2 (r20 κ) j_2 data_4) (zan b j r3' i_2 r20' j_2 data_4):=by
  unfold zan
  repeat' with_reducible first | exact ChO.const _ | exact h_r3 _ _ _ | exact h_r20 _ _ | apply ChO.ite | apply ChO.G | apply ChO.both | (apply ChO.bind;intro _)
theorem zbn (r3:Int->Int->Tp6->Option Tp3) (b:Int) (j:Int) (i_2:Int):Cn (zcb b j r3 i_2):=fun g h hg x=>zbR (fun _=>r3) r3 (fun _ _ _=>ChO.const _) (fun κ j_2 data_4=>g κ (j_2,data_4)) (fun j_2 data_4=>h (j_2,data_4)) (fun j_2 data_4=>hg (j_2,data_4)) b j i_2 x.1 x.2
theorem zb5 (r3:Int->Int->Tp6->Option Tp3) (b:Int) (j:Int) (i_2:Int) (j_2:Int) (data_4:Tp6):zar b j r3 i_2 j_2 data_4=zan b j r3 i_2 (zar b j r3 i_2) j_2 data_4:=zbc (zbn r3 b j i_2) (j_2,data_4)
theorem zaz (r3:Nat->Int->Int->Tp6->Option Tp3) (r3':Int->Int->Tp6->Option Tp3) (h_r3:∀ a0 a1 a2,ChO (fun κ=>r3 κ a0 a1 a2) (r3' a0 a1 a2)) (b:Int) (j:Int) (i_2:Int) (j_2:Int) (data_4:Tp6):ChO (fun κ=>zar b j (r3 κ) i_2 j_2 data_4) (zar b j r3' i_2 j_2 data_4):=by
  unfold zar
  exact zgk (fun κ=>(zbn (r3 κ) b j i_2).mono) (zbn r3' b j i_2).mono (fun g h hg x=>zbR r3 r3' h_r3 (fun κ j_2 data_4=>g κ (j_2,data_4)) (fun j_2 data_4=>h (j_2,data_4)) (fun j_2 data_4=>hg (j_2,data_4)) b j i_2 x.1 x.2) _
theorem zaZ (r3:Nat->Int->Int->Tp6->Option Tp3) (r3':Int->Int->Tp6->Option Tp3) (h_r3:∀ a0 a1 a2,ChO (fun κ=>r3 κ a0 a1 a2) (r3' a0 a1 a2)) (b:Int) (j:Int) (i_2:Int) (data_3:Tp6):ChO (fun κ=>zae b j (r3 κ) i_2 data_3) (zae b j r3' i_2 data_3):=by
  unfold zae
  repeat' with_reducible first | exact ChO.const _ | exact h_r3 _ _ _ | (apply zaz<;>assumption) | apply ChO.ite | apply ChO.G | apply ChO.both | (apply ChO.bind;intro _)
theorem zbQ (r3:Nat->Int->Int->Tp6->Option Tp3) (r3':Int->Int->Tp6->Option Tp3) (h_r3:∀ a0 a1 a2,ChO (fun κ=>r3 κ a0 a1 a2) (r3' a0 a1 a2)) (r14:Nat->Int->Tp6->Option Tp3) (r14':Int->Tp6->Option Tp3) (h_r14:∀ a0 a1,ChO (fun κ=>r14 κ a0 a1) (r14' a0 a1)) (b:Int) (j:Int) (i_2:Int) (j_1:Int) (data_2:Tp6):ChO (fun κ=>zam b j (r3 κ) i_2 (r14 κ) j_1 data_2) (zam b j r3' i_2 r14' j_1 data_2):=by
  unfold zam
  repeat' with_reducible first | exact ChO.const _ | exact h_r3 _ _ _ | exact h_r14 _ _ | (apply zaz<;>assumption) | (apply zaZ<;>assumption) | apply ChO.ite | apply ChO.G | apply ChO.both | (apply ChO.bind;intro _)
theorem zbm (r3:Int->Int->Tp6->Option Tp3) (b:Int) (j:Int) (i_2:Int):Cn (zca b j r3 i_2):=fun g h hg x=>zbQ (fun _=>r3) r3 (fun _ _ _=>ChO.const _) (fun κ j_1 data_2=>g κ (j_1,data_2)) (fun j_1 data_2=>h (j_1,data_2)) (fun j_1 data_2=>hg (j_1,data_2)) b j i_2 x.1 x.2
theorem zb4 (r3:Int->Int->Tp6->Option Tp3) (b:Int) (j:Int) (i_2:Int) (j_1:Int) (data_2:Tp6):zaq b j r3 i_2 j_1 data_2=zam b j r3 i_2 (zaq b j r3 i_2) j_1 data_2:=zbc (zbm r3 b j i_2) (j_1,data_2)
theorem zbl (r3:Nat->Int->Int->Tp6->Option Tp3) (r3':Int->Int->Tp6->Option Tp3) (h_r3:∀ a0 a1 a2,ChO (fun κ=>r3 κ a0 a1 a2) (r3' a0 a1 a2)) (b:Int) (j:Int) (i_2:Int) (j_1:Int) (data_2:Tp6):ChO (fun κ=>zaq b j (r3 κ) i_2 j_1 data_2) (zaq b j r3' i_2 j_1 data_2):=by
  unfold zaq
  exact zgk (fun κ=>(zbm (r3 κ) b j i_2).mono) (zbm r3' b j i_2).mono (fun g h hg x=>zbQ r3 r3' h_r3 (fun κ j_1 data_2=>g κ (j_1,data_2)) (fun j_1 data_2=>h (j_1,data_2)) (fun j_1 data_2=>hg (j_1,data_2)) b j i_2 x.1 x.2) _
theorem zb9 (r3:Nat->Int->Int->Tp6->Option Tp3) (r3':Int->Int->Tp6->Option Tp3) (h_r3:∀ a0 a1 a2,ChO (fun κ=>r3 κ a0 a1 a2) (r3' a0 a1 a2)) (a:Int) (b:Int) (j:Int) (data_1:Tp6) (i_2:Int):ChO (fun κ=>zas a b j data_1 (r3 κ) i_2) (zas a b j data_1 r3' i_2):=by
  unfold zas
  repeat' with_reducible first | exact ChO.const _ | exact h_r3 _ _ _ | (apply zaz<;>assumption) | (apply zaZ<;>assumption) | (apply zbl<;>assumption) | apply ChO.ite | apply ChO.G | apply ChO.both | (apply ChO.bind;intro _)
theorem zbV (r3:Nat->Int->Int->Tp6->Option Tp3) (r3':Int->Int->Tp6->Option Tp3) (h_r3:∀ a0 a1 a2,ChO (fun κ=>r3 κ a0 a1 a2) (r3' a0 a1 a2)) (r5:Nat->Int->Option Tp3) (r5':Int->Option Tp3) (h_r5:∀ a0,ChO (fun κ=>r5 κ a0) (r5' a0)) (a:Int) (b:Int) (j:Int) (data_1:Tp6) (i_1:Int):ChO (fun κ=>zap a b j data_1 (r3 κ) (r5 κ) i_1) (zap a b j data_1 r3' r5' i_1):=by
  unfold zap
  repeat' with_reducible first | exact ChO.const _ | exact h_r3 _ _ _ | exact h_r5 _ | (apply zaz<;>assumption) | (apply zaZ<;>assumption) | (apply zbl<;>assumption) | (apply zb9<;>assumption) | apply ChO.ite | apply ChO.G | apply ChO.both | (apply ChO.bind;intro _)
theorem zbq (r3:Int->Int->Tp6->Option Tp3) (a:Int) (b:Int) (j:Int) (data_1:Tp6):Cn (zcm a b j data_1 r3):=fun g h hg x=>zbV (fun _=>r3) r3 (fun _ _ _=>ChO.const _) (fun κ i_1=>g κ i_1) (fun i_1=>h i_1) (fun i_1=>hg i_1) a b j data_1 x
theorem zcd (r3:Int->Int->Tp6->Option Tp3) (a:Int) (b:Int) (j:Int) (data_1:Tp6) (i_1:Int):zat a b j data_1 r3 i_1=zap a b j data_1 r3 (zat a b j data_1 r3) i_1:=zbc (zbq r3 a b j data_1) i_1
theorem zeh (r3:Nat->Int->Int->Tp6->Option Tp3) (r3':Int->Int->Tp6->Option Tp3) (h_r3:∀ a0 a1 a2,ChO (fun κ=>r3 κ a0 a1 a2) (r3' a0 a1 a2)) (a:Int) (b:Int) (j:Int) (data_1:Tp6) (i_1:Int):ChO (fun κ=>zat a b j data_1 (r3 κ) i_1) (zat a b j data_1 r3' i_1):=by
  unfold zat
  exact zgk (fun κ=>(zbq (r3 κ) a b j data_1).mono) (zbq r3' a b j data_1).mono (fun g h hg x=>zbV r3 r3' h_r3 (fun κ i_1=>g κ i_1) (fun i_1=>h i_1) (fun i_1=>hg i_1) a b j data_1 x) _
theorem zd0 (r3:Nat->Int->Int->Tp6->Option Tp3) (r3':Int->Int->Tp6->Option Tp3) (h_r3:∀ a0 a1 a2,ChO (fun κ=>r3 κ a0 a1 a2) (r3' a0 a1 a2)) (a:Int) (b:Int) (i:Int) (j:Int) (data_1:Tp6):ChO (fun κ=>zao a b (r3 κ) i j data_1) (zao a b r3' i j data_1):=by
  unfold zao
  repeat' with_reducible first | exact ChO.const _ | exact h_r3 _ _ _ | (apply zaz<;>assumption) | (apply zaZ<;>assumption) | (apply zbl<;>assumption) | (apply zb9<;>assumption) | (apply zeh<;>assumption) | apply ChO.ite | apply ChO.G | apply ChO.both | (apply ChO.bind;intro _)
theorem zeg  (a:Int) (b:Int):Cn (zcl a b):=fun g h hg x=>zd0  (fun κ i j data_1=>g κ (i,j,data_1)) (fun i j data_1=>h (i,j,data_1)) (fun i j data_1=>hg (i,j,data_1)) a b x.1 x.2.1 x.2.2
theorem zcc  (a:Int) (b:Int) (i:Int) (j:Int) (data_1:Tp6):zaM a b i j data_1=zao a b (zaM a b) i j data_1:=zbc (zeg a b) (i,j,data_1)

def zaB (data_1:Tp6) (r3o:(Int->Int->Tp6->Option Tp4)) (i_2:Int) (j_2:Int):Option Tp4:=
  if (decide (j_2 < i_2))=true then
  some (i_2,data_1) else
  G (0<=j_2/\j_2 < (data_1.length:Int)) (
  G ((j_2).toNat < data_1.length) (
  G (0<=i_2/\i_2 < (data_1.length:Int)) (
  G ((i_2).toNat < data_1.length) (
  G (0<=i_2/\i_2 < (data_1.length:Int)) (
  G ((i_2).toNat < data_1.length) (
  G (0<=j_2/\j_2 < ((data_1.set (i_2).toNat (ix data_1 j_2)).length:Int)) (
  G ((j_2).toNat < (data_1.set (i_2).toNat (ix data_1 j_2)).length) (
  G (fits (i_2+(1:Int))) (
  G (fits (j_2 - (1:Int))) (
  r3o (i_2+(1:Int)) (j_2 - (1:Int)) ((data_1.set (i_2).toNat (ix data_1 j_2)).set (j_2).toNat (ix data_1 i_2))))))))))))
def zav (a:Int) (data_1:Tp6) (r3o:(Int->Int->Tp6->Option Tp4)) (i_2:Int) (r5:Int->Option Tp4) (j_1:Int):Option Tp4:=
  if (decide (i_2<=j_1))=true then
  G (0<=a/\a < (data_1.length:Int)) (
  G ((a).toNat < data_1.length) (
  G (0<=j_1/\j_1 < (data_1.length:Int)) (
  G ((j_1).toNat < data_1.length) (
  (zbu (ix data_1 a) (ix data_1 j_1)).bind (fun y'_1=>
  if (decide (y'_1 < (0:Int)))=true then
  G (fits (j_1 - (1:Int))) (
  r5 (j_1 - (1:Int))) else
  zaB data_1 r3o i_2 j_1))))) else
  zaB data_1 r3o i_2 j_1
def zc8 (a:Int) (data_1:Tp6) (r3o:(Int->Int->Tp6->Option Tp4)) (i_2:Int):(Int->Option Tp4)->Int->Option Tp4:=
  fun rec x=>zav a data_1 r3o i_2 (fun j_1=>rec j_1) x
def zaD (a:Int) (data_1:Tp6) (r3o:(Int->Int->Tp6->Option Tp4)) (i_2:Int) (j_1:Int):Option Tp4:=LFix (zc8 a data_1 r3o i_2 ) j_1
def zaA (a:Int) (j:Int) (data_1:Tp6) (r3o:(Int->Int->Tp6->Option Tp4)) (i_2:Int):Option Tp4:=
  zaD a data_1 r3o i_2 j
def zau (a:Int) (j:Int) (data_1:Tp6) (r3o:(Int->Int->Tp6->Option Tp4)) (r3:Int->Option Tp4) (i_1:Int):Option Tp4:=
  if (decide (i_1<=j))=true then
  G (0<=a/\a < (data_1.length:Int)) (
  G ((a).toNat < data_1.length) (
  G (0<=i_1/\i_1 < (data_1.length:Int)) (
  G ((i_1).toNat < data_1.length) (
  (zbu (ix data_1 a) (ix data_1 i_1)).bind (fun y'=>
  if (!(decide (y' < (0:Int))))=true then
  G (fits (i_1+(1:Int))) (
  r3 (i_1+(1:Int))) else
  zaA a j data_1 r3o i_1))))) else
  zaA a j data_1 r3o i_1
def zc7 (a:Int) (j:Int) (data_1:Tp6) (r3o:(Int->Int->Tp6->Option Tp4)):(Int->Option Tp4)->Int->Option Tp4:=
  fun rec x=>zau a j data_1 r3o (fun i_1=>rec i_1) x
def zaC (a:Int) (j:Int) (data_1:Tp6) (r3o:(Int->Int->Tp6->Option Tp4)) (i_1:Int):Option Tp4:=LFix (zc7 a j data_1 r3o ) i_1
def zaF (a:Int) (r3o:Int->Int->Tp6->Option Tp4) (i:Int) (j:Int) (data_1:Tp6):Option Tp4:=
  zaC a j data_1 r3o i
def zcY (a:Int):(Int×Int×Tp6->Option Tp4)->Int×Int×Tp6->Option Tp4:=
  fun rec x=>zaF a (fun i j data_1=>rec (i,j,data_1)) x.1 x.2.1 x.2.2
def zbr (a:Int) (i:Int) (j:Int) (data_1:Tp6):Option Tp4:=LFix (zcY a ) (i,j,data_1)
def zbE (a:Int) (b:Int) (pivot:Int) (data:Tp6):Option Tp4:=
  G (0<=pivot/\pivot < (data.length:Int)) (
  G ((pivot).toNat < data.length) (
  G (0<=a/\a < (data.length:Int)) (
  G ((a).toNat < data.length) (
  G (0<=a/\a < (data.length:Int)) (
  G ((a).toNat < data.length) (
  G (0<=pivot/\pivot < ((data.set (a).toNat (ix data pivot)).length:Int)) (
  G ((pivot).toNat < (data.set (a).toNat (ix data pivot)).length) (
  G (fits (a+(1:Int))) (
  G (fits (b - (1:Int))) (
  zbr a (a+(1:Int)) (b - (1:Int)) ((data.set (a).toNat (ix data pivot)).set (pivot).toNat (ix data a))))))))))))
theorem zbi (r3o:Nat->Int->Int->Tp6->Option Tp4) (r3o':Int->Int->Tp6->Option Tp4) (h_r3o:∀ a0 a1 a2,ChO (fun κ=>r3o κ a0 a1 a2) (r3o' a0 a1 a2)) (data_1:Tp6) (i_2:Int) (j_2:Int):ChO (fun κ=>zaB data_1 (r3o κ) i_2 j_2) (zaB data_1 r3o' i_2 j_2):=by
  unfold zaB
  repeat' with_reducible first | exact ChO.const _ | exact h_r3o _ _ _ | apply ChO.ite | apply ChO.G | apply ChO.both | (apply ChO.bind;intro _)
theorem zcM (r3o:Nat->Int->Int->Tp6->Option Tp4) (r3o':Int->Int->Tp6->Option Tp4) (h_r3o:∀ a0 a1 a2,ChO (fun κ=>r3o κ a0 a1 a2) (r3o' a0 a1 a2)) (r5:Nat->Int->Option Tp4) (r5':Int->Option Tp4) (h_r5:∀ a0,ChO (fun κ=>r5 κ a0) (r5' a0)) (a:Int) (data_1:Tp6) (i_2:Int) (j_1:Int):ChO (fun κ=>zav a data_1 (r3o κ) i_2 (r5 κ) j_1) (zav a data_1 r3o' i_2 r5' j_1):=by
  unfold zav
  repeat' with_reducible first | exact ChO.const _ | exact h_r3o _ _ _ | exact h_r5 _ | (apply zbi<;>assumption) | apply ChO.ite | apply ChO.G | apply ChO.both | (apply ChO.bind;intro _)
theorem zbI (r3o:Int->Int->Tp6->Option Tp4) (a:Int) (data_1:Tp6) (i_2:Int):Cn (zc8 a data_1 r3o i_2):=fun g h hg x=>zcM (fun _=>r3o) r3o (fun _ _ _=>ChO.const _) (fun κ j_1=>g κ j_1) (fun j_1=>h j_1) (fun j_1=>hg j_1) a data_1 i_2 x
theorem zcZ (r3o:Int->Int->Tp6->Option Tp4) (a:Int) (data_1:Tp6) (i_2:Int) (j_1:Int):zaD a data_1 r3o i_2 j_1=zav a data_1 r3o i_2 (zaD a data_1 r3o i_2) j_1:=zbc (zbI r3o a data_1 i_2) j_1
theorem zbH (r3o:Nat->Int->Int->Tp6->Option Tp4) (r3o':Int->Int->Tp6->Option Tp4) (h_r3o:∀ a0 a1 a2,ChO (fun κ=>r3o κ a0 a1 a2) (r3o' a0 a1 a2)) (a:Int) (data_1:Tp6) (i_2:Int) (j_1:Int):ChO (fun κ=>zaD a data_1 (r3o κ) i_2 j_1) (zaD a data_1 r3o' i_2 j_1):=by
  unfold zaD
  exact zgk (fun κ=>(zbI (r3o κ) a data_1 i_2).mono) (zbI r3o' a data_1 i_2).mono (fun g h hg x=>zcM r3o r3o' h_r3o (fun κ j_1=>g κ j_1) (fun j_1=>h j_1) (fun j_1=>hg j_1) a data_1 i_2 x) _
theorem zcW (r3o:Nat->Int->Int->Tp6->Option Tp4) (r3o':Int->Int->Tp6->Option Tp4) (h_r3o:∀ a0 a1 a2,ChO (fun κ=>r3o κ a0 a1 a2) (r3o' a0 a1 a2)) (a:Int) (j:Int) (data_1:Tp6) (i_2:Int):ChO (fun κ=>zaA a j data_1 (r3o κ) i_2) (zaA a j data_1 r3o' i_2):=by
  unfold zaA
  repeat' with_reducible first | exact ChO.const _ | exact h_r3o _ _ _ | (apply zbi<;>assumption) | (apply zbH<;>assumption) | apply ChO.ite | apply ChO.G | apply ChO.both | (apply ChO.bind;intro _)
theorem zcL (r3o:Nat->Int->Int->Tp6->Option Tp4) (r3o':Int->Int->Tp6->Option Tp4) (h_r3o:∀ a0 a1 a2,ChO (fun κ=>r3o κ a0 a1 a2) (r3o' a0 a1 a2)) (r3:Nat->Int->Option Tp4) (r3':Int->Option Tp4) (h_r3:∀ a0,ChO (fun κ=>r3 κ a0) (r3' a0)) (a:Int) (j:Int) (data_1:Tp6) (i_1:Int):ChO (fun κ=>zau a j data_1 (r3o κ) (r3 κ) i_1) (zau a j data_1 r3o' r3' i_1):=by
  unfold zau
  repeat' with_reducible first | exact ChO.const _ | exact h_r3o _ _ _ | exact h_r3 _ | (apply zbi<;>assumption) | (apply zbH<;>assumption) | (apply zcW<;>assumption) | apply ChO.ite | apply ChO.G | apply ChO.both | (apply ChO.bind;intro _)
theorem zbG (r3o:Int->Int->Tp6->Option Tp4) (a:Int) (j:Int) (data_1:Tp6):Cn (zc7 a j data_1 r3o):=fun g h hg x=>zcL (fun _=>r3o) r3o (fun _ _ _=>ChO.const _) (fun κ i_1=>g κ i_1) (fun i_1=>h i_1) (fun i_1=>hg i_1) a j data_1 x
theorem zcX (r3o:Int->Int->Tp6->Option Tp4) (a:Int) (j:Int) (data_1:Tp6) (i_1:Int):zaC a j data_1 r3o i_1=zau a j data_1 r3o (zaC a j data_1 r3o) i_1:=zbc (zbG r3o a j data_1) i_1
theorem zfi (r3o:Nat->Int->Int->Tp6->Option Tp4) (r3o':Int->Int->Tp6->Option Tp4) (h_r3o:∀ a0 a1 a2,ChO (fun κ=>r3o κ a0 a1 a2) (r3o' a0 a1 a2)) (a:Int) (j:Int) (data_1:Tp6) (i_1:Int):ChO (fun κ=>zaC a j data_1 (r3o κ) i_1) (zaC a j data_1 r3o' i_1):=by
  unfold zaC
  exact zgk (fun κ=>(zbG (r3o κ) a j data_1).mono) (zbG r3o' a j data_1).mono (fun g h hg x=>zcL r3o r3o' h_r3o (fun κ i_1=>g κ i_1) (fun i_1=>h i_1) (fun i_1=>hg i_1) a j data_1 x) _
theorem zeA (r3o:Nat->Int->Int->Tp6->Option Tp4) (r3o':Int->Int->Tp6->Option Tp4) (h_r3o:∀ a0 a1 a2,ChO (fun κ=>r3o κ a0 a1 a2) (r3o' a0 a1 a2)) (a:Int) (i:Int) (j:Int) (data_1:Tp6):ChO (fun κ=>zaF a (r3o κ) i j data_1) (zaF a r3o' i j data_1):=by
  unfold zaF
  repeat' with_reducible first | exact ChO.const _ | exact h_r3o _ _ _ | (apply zbi<;>assumption) | (apply zbH<;>assumption) | (apply zcW<;>assumption) | (apply zfi<;>assumption) | apply ChO.ite | apply ChO.G | apply ChO.both | (apply ChO.bind;intro _)
theorem ze2  (a:Int):Cn (zcY a):=fun g h hg x=>zeA  (fun κ i j data_1=>g κ (i,j,data_1)) (fun i j data_1=>h (i,j,data_1)) (fun i j data_1=>hg (i,j,data_1)) a x.1 x.2.1 x.2.2
theorem ze3  (a:Int) (i:Int) (j:Int) (data_1:Tp6):zbr a i j data_1=zaF a (zbr a) i j data_1:=zbc (ze2 a) (i,j,data_1)

def zaU (a:Int) (data_1:Tp6) (r13o:(Int->Int->Tp6->Option Tp2)) (i_4:Int) (j_4:Int):Option Tp2:=
  if (decide (j_4 < i_4))=true then
  G (0<=a/\a < (data_1.length:Int)) (
  G ((a).toNat < data_1.length) (
  G (0<=j_4/\j_4 < (data_1.length:Int)) (
  G ((j_4).toNat < data_1.length) (
  G (0<=j_4/\j_4 < (data_1.length:Int)) (
  G ((j_4).toNat < data_1.length) (
  G (0<=a/\a < ((data_1.set (j_4).toNat (ix data_1 a)).length:Int)) (
  G ((a).toNat < (data_1.set (j_4).toNat (ix data_1 a)).length) (
  some (j_4,false,(data_1.set (j_4).toNat (ix data_1 a)).set (a).toNat (ix data_1 j_4)))))))))) else
  G (0<=j_4/\j_4 < (data_1.length:Int)) (
  G ((j_4).toNat < data_1.length) (
  G (0<=i_4/\i_4 < (data_1.length:Int)) (
  G ((i_4).toNat < data_1.length) (
  G (0<=i_4/\i_4 < (data_1.length:Int)) (
  G ((i_4).toNat < data_1.length) (
  G (0<=j_4/\j_4 < ((data_1.set (i_4).toNat (ix data_1 j_4)).length:Int)) (
  G ((j_4).toNat < (data_1.set (i_4).toNat (ix data_1 j_4)).length) (
  G (fits (i_4+(1:Int))) (
  G (fits (j_4 - (1:Int))) (
  r13o (i_4+(1:Int)) (j_4 - (1:Int)) ((data_1.set (i_4).toNat (ix data_1 j_4)).set (j_4).toNat (ix data_1 i_4))))))))))))
def zaK (a:Int) (data_1:Tp6) (r13o:(Int->Int->Tp6->Option Tp2)) (i_4:Int) (r15:Int->Option Tp2) (j_3:Int):Option Tp2:=
  if (decide (i_4<=j_3))=true then
  G (0<=j_3/\j_3 < (data_1.length:Int)) (
  G ((j_3).toNat < data_1.length) (
  G (0<=a/\a < (data_1.length:Int)) (
  G ((a).toNat < data_1.length) (
  (zbu (ix data_1 j_3) (ix data_1 a)).bind (fun y'_3=>
  if (!(decide (y'_3 < (0:Int))))=true then
  G (fits (j_3 - (1:Int))) (
  r15 (j_3 - (1:Int))) else
  zaU a data_1 r13o i_4 j_3))))) else
  zaU a data_1 r13o i_4 j_3
def zd2 (a:Int) (data_1:Tp6) (r13o:(Int->Int->Tp6->Option Tp2)) (i_4:Int):(Int->Option Tp2)->Int->Option Tp2:=
  fun rec x=>zaK a data_1 r13o i_4 (fun j_3=>rec j_3) x
def zaW (a:Int) (data_1:Tp6) (r13o:(Int->Int->Tp6->Option Tp2)) (i_4:Int) (j_3:Int):Option Tp2:=LFix (zd2 a data_1 r13o i_4 ) j_3
def zaT (a:Int) (j_2:Int) (data_1:Tp6) (r13o:(Int->Int->Tp6->Option Tp2)) (i_4:Int):Option Tp2:=
  zaW a data_1 r13o i_4 j_2
def zaJ (a:Int) (j_2:Int) (data_1:Tp6) (r13o:(Int->Int->Tp6->Option Tp2)) (r13:Int->Option Tp2) (i_3:Int):Option Tp2:=
  if (decide (i_3<=j_2))=true then
  G (0<=i_3/\i_3 < (data_1.length:Int)) (
  G ((i_3).toNat < data_1.length) (
  G (0<=a/\a < (data_1.length:Int)) (
  G ((a).toNat < data_1.length) (
  (zbu (ix data_1 i_3) (ix data_1 a)).bind (fun y'_2=>
  if (decide (y'_2 < (0:Int)))=true then
  G (fits (i_3+(1:Int))) (
  r13 (i_3+(1:Int))) else
  zaT a j_2 data_1 r13o i_3))))) else
  zaT a j_2 data_1 r13o i_3
def zd1 (a:Int) (j_2:Int) (data_1:Tp6) (r13o:(Int->Int->Tp6->Option Tp2)):(Int->Option Tp2)->Int->Option Tp2:=
  fun rec x=>zaJ a j_2 data_1 r13o (fun i_3=>rec i_3) x
def zaV (a:Int) (j_2:Int) (data_1:Tp6) (r13o:(Int->Int->Tp6->Option Tp2)) (i_3:Int):Option Tp2:=LFix (zd1 a j_2 data_1 r13o ) i_3
def za1 (a:Int) (r13o:Int->Int->Tp6->Option Tp2) (i_2:Int) (j_2:Int) (data_1:Tp6):Option Tp2:=
  zaV a j_2 data_1 r13o i_2
def zdM (a:Int):(Int×Int×Tp6->Option Tp2)->Int×Int×Tp6->Option Tp2:=
  fun rec x=>za1 a (fun i_2 j_2 data_1=>rec (i_2,j_2,data_1)) x.1 x.2.1 x.2.2
def zbD (a:Int) (i_2:Int) (j_2:Int) (data_1:Tp6):Option Tp2:=LFix (zdM a ) (i_2,j_2,data_1)
def zb0 (a:Int) (pivot:Int) (data:Tp6) (i_1:Int) (j_1:Int):Option Tp2:=
  if (decide (j_1 < i_1))=true then
  G (0<=a/\a < (((data.set (a).toNat (ix data pivot)).set (pivot).toNat (ix data a)).length:Int)) (
  G ((a).toNat < ((data.set (a).toNat (ix data pivot)).set (pivot).toNat (ix data a)).length) (
  G (0<=j_1/\j_1 < (((data.set (a).toNat (ix data pivot)).set (pivot).toNat (ix data a)).length:Int)) (
  G ((j_1).toNat < ((data.set (a).toNat (ix data pivot)).set (pivot).toNat (ix data a)).length) (
  G (0<=j_1/\j_1 < (((data.set (a).toNat (ix data pivot)).set (pivot).toNat (ix data a)).length:Int)) (
  G ((j_1).toNat < ((data.set (a).toNat (ix data pivot)).set (pivot).toNat (ix data a)).length) (
  G (0<=a/\a < ((((data.set (a).toNat (ix data pivot)).set (pivot).toNat (ix data a)).set (j_1).toNat (ix ((data.set (a).toNat (ix data pivot)).set (pivot).toNat (ix data a)) a)).length:Int)) (
  G ((a).toNat < (((data.set (a).toNat (ix data pivot)).set (pivot).toNat (ix data a)).set (j_1).toNat (ix ((data.set (a).toNat (ix data pivot)).set (pivot).toNat (ix data a)) a)).length) (
  some (j_1,true,(((data.set (a).toNat (ix data pivot)).set (pivot).toNat (ix data a)).set (j_1).toNat (ix ((data.set (a).toNat (ix data pivot)).set (pivot).toNat (ix data a)) a)).set (a).toNat (ix ((data.set (a).toNat (ix data pivot)).set (pivot).toNat (ix data a)) j_1)))))))))) else
  G (0<=j_1/\j_1 < (((data.set (a).toNat (ix data pivot)).set (pivot).toNat (ix data a)).length:Int)) (
  G ((j_1).toNat < ((data.set (a).toNat (ix data pivot)).set (pivot).toNat (ix data a)).length) (
  G (0<=i_1/\i_1 < (((data.set (a).toNat (ix data pivot)).set (pivot).toNat (ix data a)).length:Int)) (
  G ((i_1).toNat < ((data.set (a).toNat (ix data pivot)).set (pivot).toNat (ix data a)).length) (
  G (0<=i_1/\i_1 < (((data.set (a).toNat (ix data pivot)).set (pivot).toNat (ix data a)).length:Int)) (
  G ((i_1).toNat < ((data.set (a).toNat (ix data pivot)).set (pivot).toNat (ix data a)).length) (
  G (0<=j_1/\j_1 < ((((data.set (a).toNat (ix data pivot)).set (pivot).toNat (ix data a)).set (i_1).toNat (ix ((data.set (a).toNat (ix data pivot)).set (pivot).toNat (ix data a)) j_1)).length:Int)) (
  G ((j_1).toNat < (((data.set (a).toNat (ix data pivot)).set (pivot).toNat (ix data a)).set (i_1).toNat (ix ((data.set (a).toNat (ix data pivot)).set (pivot).toNat (ix data a)) j_1)).length) (
  G (fits (i_1+(1:Int))) (
  G (fits (j_1 - (1:Int))) (
  zbD a (i_1+(1:Int)) (j_1 - (1:Int)) ((((data.set (a).toNat (ix data pivot)).set (pivot).toNat (ix data a)).set (i_1).toNat (ix ((data.set (a).toNat (ix data pivot)).set (pivot).toNat (ix data a)) j_1)).set (j_1).toNat (ix ((data.set (a).toNat (ix data pivot)).set (pivot).toNat (ix data a)) i_1))))))))))))
def zaO (a:Int) (pivot:Int) (data:Tp6) (i_1:Int) (r5:Int->Option Tp2) (j:Int):Option Tp2:=
  if (decide (i_1<=j))=true then
  G (0<=j/\j < (((data.set (a).toNat (ix data pivot)).set (pivot).toNat (ix data a)).length:Int)) (
  G ((j).toNat < ((data.set (a).toNat (ix data pivot)).set (pivot).toNat (ix data a)).length) (
  G (0<=a/\a < (((data.set (a).toNat (ix data pivot)).set (pivot).toNat (ix data a)).length:Int)) (
  G ((a).toNat < ((data.set (a).toNat (ix data pivot)).set (pivot).toNat (ix data a)).length) (
  (zbu (ix ((data.set (a).toNat (ix data pivot)).set (pivot).toNat (ix data a)) j) (ix ((data.set (a).toNat (ix data pivot)).set (pivot).toNat (ix data a)) a)).bind (fun y'_1=>
  if (!(decide (y'_1 < (0:Int))))=true then
  G (fits (j - (1:Int))) (
  r5 (j - (1:Int))) else
  zb0 a pivot data i_1 j))))) else
  zb0 a pivot data i_1 j
def zed (a:Int) (pivot:Int) (data:Tp6) (i_1:Int):(Int->Option Tp2)->Int->Option Tp2:=
  fun rec x=>zaO a pivot data i_1 (fun j=>rec j) x
def zb2 (a:Int) (pivot:Int) (data:Tp6) (i_1:Int) (j:Int):Option Tp2:=LFix (zed a pivot data i_1 ) j
def zbZ (a:Int) (b:Int) (pivot:Int) (data:Tp6) (i_1:Int):Option Tp2:=
  zb2 a pivot data i_1 (b - (1:Int))
def zaN (a:Int) (b:Int) (pivot:Int) (data:Tp6) (r3:Int->Option Tp2) (i:Int):Option Tp2:=
  if (decide (i<=(b - (1:Int))))=true then
  G (0<=i/\i < (((data.set (a).toNat (ix data pivot)).set (pivot).toNat (ix data a)).length:Int)) (
  G ((i).toNat < ((data.set (a).toNat (ix data pivot)).set (pivot).toNat (ix data a)).length) (
  G (0<=a/\a < (((data.set (a).toNat (ix data pivot)).set (pivot).toNat (ix data a)).length:Int)) (
  G ((a).toNat < ((data.set (a).toNat (ix data pivot)).set (pivot).toNat (ix data a)).length) (
  (zbu (ix ((data.set (a).toNat (ix data pivot)).set (pivot).toNat (ix data a)) i) (ix ((data.set (a).toNat (ix data pivot)).set (pivot).toNat (ix data a)) a)).bind (fun y'=>
  if (decide (y' < (0:Int)))=true then
  G (fits (i+(1:Int))) (
  r3 (i+(1:Int))) else
  zbZ a b pivot data i))))) else
  zbZ a b pivot data i
def zec (a:Int) (b:Int) (pivot:Int) (data:Tp6):(Int->Option Tp2)->Int->Option Tp2:=
  fun rec x=>zaN a b pivot data (fun i=>rec i) x
def zb1 (a:Int) (b:Int) (pivot:Int) (data:Tp6) (i:Int):Option Tp2:=LFix (zec a b pivot data ) i
def zcB (a:Int) (b:Int) (pivot:Int) (data:Tp6):Option Tp2:=
  G (0<=pivot/\pivot < (data.length:Int)) (
  G ((pivot).toNat < data.length) (
  G (0<=a/\a < (data.length:Int)) (
  G ((a).toNat < data.length) (
  G (0<=a/\a < (data.length:Int)) (
  G ((a).toNat < data.length) (
  G (0<=pivot/\pivot < ((data.set (a).toNat (ix data pivot)).length:Int)) (
  G ((pivot).toNat < (data.set (a).toNat (ix data pivot)).length) (
  G (fits (a+(1:Int))) (
  G (fits (b - (1:Int))) (
  zb1 a b pivot data (a+(1:Int))))))))))))
theorem za0 (r13o:Nat->Int->Int->Tp6->Option Tp2) (r13o':Int->Int->Tp6->Option Tp2) (h_r13o:∀ a0 a1 a2,ChO (fun κ=>r13o κ a0 a1 a2) (r13o' a0 a1 a2)) (a:Int) (data_1:Tp6) (i_4:Int) (j_4:Int):ChO (fun κ=>zaU a data_1 (r13o κ) i_4 j_4) (zaU a data_1 r13o' i_4 j_4):=by
  unfold zaU
  repeat' with_reducible first | exact ChO.const _ | exact h_r13o _ _ _ | apply ChO.ite | apply ChO.G | apply ChO.both | (apply ChO.bind;intro _)
theorem zdq (r13o:Nat->Int->Int->Tp6->Option Tp2) (r13o':Int->Int->Tp6->Option Tp2) (h_r13o:∀ a0 a1 a2,ChO (fun κ=>r13o κ a0 a1 a2) (r13o' a0 a1 a2)) (r15:Nat->Int->Option Tp2) (r15':Int->Option Tp2) (h_r15:∀ a0,ChO (fun κ=>r15 κ a0) (r15' a0)) (a:Int) (data_1:Tp6) (i_4:Int) (j_3:Int):ChO (fun κ=>zaK a data_1 (r13o κ) i_4 (r15 κ) j_3) (zaK a data_1 r13o' i_4 r15' j_3):=by
  unfold zaK
  repeat' with_reducible first | exact ChO.const _ | exact h_r13o _ _ _ | exact h_r15 _ | (apply za0<;>assumption) | apply ChO.ite | apply ChO.G | apply ChO.both | (apply ChO.bind;intro _)
theorem zcp (r13o:Int->Int->Tp6->Option Tp2) (a:Int) (data_1:Tp6) (i_4:Int):Cn (zd2 a data_1 r13o i_4):=fun g h hg x=>zdq (fun _=>r13o) r13o (fun _ _ _=>ChO.const _) (fun κ j_3=>g κ j_3) (fun j_3=>h j_3) (fun j_3=>hg j_3) a data_1 i_4 x
theorem zdN (r13o:Int->Int->Tp6->Option Tp2) (a:Int) (data_1:Tp6) (i_4:Int) (j_3:Int):zaW a data_1 r13o i_4 j_3=zaK a data_1 r13o i_4 (zaW a data_1 r13o i_4) j_3:=zbc (zcp r13o a data_1 i_4) j_3
theorem zbe (r13o:Nat->Int->Int->Tp6->Option Tp2) (r13o':Int->Int->Tp6->Option Tp2) (h_r13o:∀ a0 a1 a2,ChO (fun κ=>r13o κ a0 a1 a2) (r13o' a0 a1 a2)) (a:Int) (data_1:Tp6) (i_4:Int) (j_3:Int):ChO (fun κ=>zaW a data_1 (r13o κ) i_4 j_3) (zaW a data_1 r13o' i_4 j_3):=by
  unfold zaW
  exact zgk (fun κ=>(zcp (r13o κ) a data_1 i_4).mono) (zcp r13o' a data_1 i_4).mono (fun g h hg x=>zdq r13o r13o' h_r13o (fun κ j_3=>g κ j_3) (fun j_3=>h j_3) (fun j_3=>hg j_3) a data_1 i_4 x) _
theorem zbx (r13o:Nat->Int->Int->Tp6->Option Tp2) (r13o':Int->Int->Tp6->Option Tp2) (h_r13o:∀ a0 a1 a2,ChO (fun κ=>r13o κ a0 a1 a2) (r13o' a0 a1 a2)) (a:Int) (j_2:Int) (data_1:Tp6) (i_4:Int):ChO (fun κ=>zaT a j_2 data_1 (r13o κ) i_4) (zaT a j_2 data_1 r13o' i_4):=by
  unfold zaT
  repeat' with_reducible first | exact ChO.const _ | exact h_r13o _ _ _ | (apply za0<;>assumption) | (apply zbe<;>assumption) | apply ChO.ite | apply ChO.G | apply ChO.both | (apply ChO.bind;intro _)
theorem zdp (r13o:Nat->Int->Int->Tp6->Option Tp2) (r13o':Int->Int->Tp6->Option Tp2) (h_r13o:∀ a0 a1 a2,ChO (fun κ=>r13o κ a0 a1 a2) (r13o' a0 a1 a2)) (r13:Nat->Int->Option Tp2) (r13':Int->Option Tp2) (h_r13:∀ a0,ChO (fun κ=>r13 κ a0) (r13' a0)) (a:Int) (j_2:Int) (data_1:Tp6) (i_3:Int):ChO (fun κ=>zaJ a j_2 data_1 (r13o κ) (r13 κ) i_3) (zaJ a j_2 data_1 r13o' r13' i_3):=by
  unfold zaJ
  repeat' with_reducible first | exact ChO.const _ | exact h_r13o _ _ _ | exact h_r13 _ | (apply za0<;>assumption) | (apply zbe<;>assumption) | (apply zbx<;>assumption) | apply ChO.ite | apply ChO.G | apply ChO.both | (apply ChO.bind;intro _)
theorem zco (r13o:Int->Int->Tp6->Option Tp2) (a:Int) (j_2:Int) (data_1:Tp6):Cn (zd1 a j_2 data_1 r13o):=fun g h hg x=>zdp (fun _=>r13o) r13o (fun _ _ _=>ChO.const _) (fun κ i_3=>g κ i_3) (fun i_3=>h i_3) (fun i_3=>hg i_3) a j_2 data_1 x
theorem zdL (r13o:Int->Int->Tp6->Option Tp2) (a:Int) (j_2:Int) (data_1:Tp6) (i_3:Int):zaV a j_2 data_1 r13o i_3=zaJ a j_2 data_1 r13o (zaV a j_2 data_1 r13o) i_3:=zbc (zco r13o a j_2 data_1) i_3
theorem zcn (r13o:Nat->Int->Int->Tp6->Option Tp2) (r13o':Int->Int->Tp6->Option Tp2) (h_r13o:∀ a0 a1 a2,ChO (fun κ=>r13o κ a0 a1 a2) (r13o' a0 a1 a2)) (a:Int) (j_2:Int) (data_1:Tp6) (i_3:Int):ChO (fun κ=>zaV a j_2 data_1 (r13o κ) i_3) (zaV a j_2 data_1 r13o' i_3):=by
  unfold zaV
  exact zgk (fun κ=>(zco (r13o κ) a j_2 data_1).mono) (zco r13o' a j_2 data_1).mono (fun g h hg x=>zdp r13o r13o' h_r13o (fun κ i_3=>g κ i_3) (fun i_3=>h i_3) (fun i_3=>hg i_3) a j_2 data_1 x) _
theorem zfD (r13o:Nat->Int->Int->Tp6->Option Tp2) (r13o':Int->Int->Tp6->Option Tp2) (h_r13o:∀ a0 a1 a2,ChO (fun κ=>r13o κ a0 a1 a2) (r13o' a0 a1 a2)) (a:Int) (i_2:Int) (j_2:Int) (data_1:Tp6):ChO (fun κ=>za1 a (r13o κ) i_2 j_2 data_1) (za1 a r13o' i_2 j_2 data_1):=by
  unfold za1
  repeat' with_reducible first | exact ChO.const _ | exact h_r13o _ _ _ | (apply za0<;>assumption) | (apply zbe<;>assumption) | (apply zbx<;>assumption) | (apply zcn<;>assumption) | apply ChO.ite | apply ChO.G | apply ChO.both | (apply ChO.bind;intro _)
theorem zfU  (a:Int):Cn (zdM a):=fun g h hg x=>zfD  (fun κ i_2 j_2 data_1=>g κ (i_2,j_2,data_1)) (fun i_2 j_2 data_1=>h (i_2,j_2,data_1)) (fun i_2 j_2 data_1=>hg (i_2,j_2,data_1)) a x.1 x.2.1 x.2.2
theorem zfV  (a:Int) (i_2:Int) (j_2:Int) (data_1:Tp6):zbD a i_2 j_2 data_1=za1 a (zbD a) i_2 j_2 data_1:=zbc (zfU a) (i_2,j_2,data_1)
theorem zfX (r5:Nat->Int->Option Tp2) (r5':Int->Option Tp2) (h_r5:∀ a0,ChO (fun κ=>r5 κ a0) (r5' a0)) (a:Int) (pivot:Int) (data:Tp6) (i_1:Int) (j:Int):ChO (fun κ=>zaO a pivot data i_1 (r5 κ) j) (zaO a pivot data i_1 r5' j):=by
  unfold zaO
  repeat' with_reducible first | exact ChO.const _ | exact h_r5 _ | (apply za0<;>assumption) | (apply zbe<;>assumption) | (apply zbx<;>assumption) | (apply zcn<;>assumption) | apply ChO.ite | apply ChO.G | apply ChO.both | (apply ChO.bind;intro _)
theorem zgs  (a:Int) (pivot:Int) (data:Tp6) (i_1:Int):Cn (zed a pivot data i_1):=fun g h hg x=>zfX  (fun κ j=>g κ j) (fun j=>h j) (fun j=>hg j) a pivot data i_1 x
theorem zd4  (a:Int) (pivot:Int) (data:Tp6) (i_1:Int) (j:Int):zb2 a pivot data i_1 j=zaO a pivot data i_1 (zb2 a pivot data i_1) j:=zbc (zgs a pivot data i_1) j
theorem zfW (r3:Nat->Int->Option Tp2) (r3':Int->Option Tp2) (h_r3:∀ a0,ChO (fun κ=>r3 κ a0) (r3' a0)) (a:Int) (b:Int) (pivot:Int) (data:Tp6) (i:Int):ChO (fun κ=>zaN a b pivot data (r3 κ) i) (zaN a b pivot data r3' i):=by
  unfold zaN
  repeat' with_reducible first | exact ChO.const _ | exact h_r3 _ | (apply za0<;>assumption) | (apply zbe<;>assumption) | (apply zbx<;>assumption) | (apply zcn<;>assumption) | apply ChO.ite | apply ChO.G | apply ChO.both | (apply ChO.bind;intro _)
theorem zgr  (a:Int) (b:Int) (pivot:Int) (data:Tp6):Cn (zec a b pivot data):=fun g h hg x=>zfW  (fun κ i=>g κ i) (fun i=>h i) (fun i=>hg i) a b pivot data x
theorem zd3  (a:Int) (b:Int) (pivot:Int) (data:Tp6) (i:Int):zb1 a b pivot data i=zaN a b pivot data (zb1 a b pivot data) i:=zbc (zgr a b pivot data) i

def za4 (zaa:Tf4) (a_1:Int) (b_1:Int) (wasBalanced:Bool) (wasPartitioned:Bool) (r2:(Int->Int->Int->Bool->Bool->Tp6->Option Tp6)) (limit_2:Int) (pivot:Int) (data_4:Tp6) (t_1:Bool):Option Tp6:=
  if t_1=true then
  (zbE a_1 b_1 pivot data_4).bind (fun y'_14=>
  r2 y'_14.1 b_1 limit_2 wasBalanced wasPartitioned y'_14.2) else
  (zcB a_1 b_1 pivot data_4).bind (fun y'_21=>
  G (fits (y'_21.1 - a_1)) (
  G (fits (b_1 - y'_21.1)) (
  G ((8:Int)≠0) (
  G (fits (Int.tdiv (b_1 - a_1) (8:Int))) (
  if (decide ((y'_21.1 - a_1) < (b_1 - y'_21.1)))=true then
  (zaa a_1 y'_21.1 limit_2 y'_21.2.2).bind (fun y'_19=>
  G (fits (y'_21.1+(1:Int))) (
  r2 (y'_21.1+(1:Int)) b_1 limit_2 (decide ((Int.tdiv (b_1 - a_1) (8:Int))<=(y'_21.1 - a_1))) y'_21.2.1 y'_19)) else
  G (fits (y'_21.1+(1:Int))) (
  (zaa (y'_21.1+(1:Int)) b_1 limit_2 y'_21.2.2).bind (fun y'_20=>
  r2 a_1 y'_21.1 limit_2 (decide ((Int.tdiv (b_1 - a_1) (8:Int))<=(b_1 - y'_21.1))) y'_21.2.1 y'_20)))))))
def za3 (zaa:Tf4) (a_1:Int) (b_1:Int) (wasBalanced:Bool) (wasPartitioned:Bool) (r2:(Int->Int->Int->Bool->Bool->Tp6->Option Tp6)) (limit_2:Int) (pivot:Int) (data_4:Tp6):Option Tp6:=
  if (decide ((0:Int) < a_1))=true then
  G (fits (a_1 - (1:Int))) (
  G (0<=a_1 - (1:Int)/\a_1 - (1:Int) < (data_4.length:Int)) (
  G ((a_1 - (1:Int)).toNat < data_4.length) (
  G (0<=pivot/\pivot < (data_4.length:Int)) (
  G ((pivot).toNat < data_4.length) (
  (zbu (ix data_4 (a_1 - (1:Int))) (ix data_4 pivot)).bind (fun y'_10=>
  za4 zaa a_1 b_1 wasBalanced wasPartitioned r2 limit_2 pivot data_4 (!(decide (y'_10 < (0:Int)))))))))) else
  za4 zaa a_1 b_1 wasBalanced wasPartitioned r2 limit_2 pivot data_4 false
def zaP (zaa:Tf4) (a_1:Int) (b_1:Int) (wasBalanced:Bool) (wasPartitioned:Bool) (r2:(Int->Int->Int->Bool->Bool->Tp6->Option Tp6)) (limit_2:Int) (pivot:Int) (data_3:Tp6) (t:Bool):Option Tp6:=
  if t=true then
  (zbh a_1 b_1 data_3).bind (fun y'_22=>
  if y'_22.1=true then
  some y'_22.2 else
  za3 zaa a_1 b_1 wasBalanced wasPartitioned r2 limit_2 pivot y'_22.2) else
  za3 zaa a_1 b_1 wasBalanced wasPartitioned r2 limit_2 pivot data_3
def za2 (zaa:Tf4) (a_1:Int) (b_1:Int) (wasBalanced:Bool) (wasPartitioned:Bool) (r2:(Int->Int->Int->Bool->Bool->Tp6->Option Tp6)) (limit_2:Int) (pivot:Int) (hint:Int) (data_3:Tp6):Option Tp6:=
  if wasBalanced=true then
  if wasPartitioned=true then
  zaP zaa a_1 b_1 wasBalanced wasPartitioned r2 limit_2 pivot data_3 (decide (hint=(1:Int))) else
  zaP zaa a_1 b_1 wasBalanced wasPartitioned r2 limit_2 pivot data_3 false else
  zaP zaa a_1 b_1 wasBalanced wasPartitioned r2 limit_2 pivot data_3 false
def zbb (zaa:Tf4) (a_1:Int) (b_1:Int) (wasBalanced:Bool) (wasPartitioned:Bool) (r2:(Int->Int->Int->Bool->Bool->Tp6->Option Tp6)) (limit_2:Int) (data_2:Tp6):Option Tp6:=
  (zce data_2 a_1 b_1).bind (fun y'_23=>
  if (decide (y'_23.2=(2:Int)))=true then
  (zb3 a_1 b_1 data_2).bind (fun y'_6=>
  G (fits (b_1 - (1:Int))) (
  G (fits (y'_23.1 - a_1)) (
  G (fits ((b_1 - (1:Int)) - (y'_23.1 - a_1))) (
  za2 zaa a_1 b_1 wasBalanced wasPartitioned r2 limit_2 ((b_1 - (1:Int)) - (y'_23.1 - a_1)) (1:Int) y'_6)))) else
  za2 zaa a_1 b_1 wasBalanced wasPartitioned r2 limit_2 y'_23.1 y'_23.2 data_2)
def zbf (zaa:Tf4)  (r2:Tf2) (a_1:Int) (b_1:Int) (limit_1:Int) (wasBalanced:Bool) (wasPartitioned:Bool) (data_1:Tp6):Option Tp6:=
  G (fits (b_1 - a_1)) (
  if (decide ((b_1 - a_1)<=(12:Int)))=true then
  (zbO a_1 b_1 data_1).bind (fun y'=>
  some y') else
  if (decide (limit_1=(0:Int)))=true then
  (zcV a_1 b_1 data_1).bind (fun y'_1=>
  some y'_1) else
  if (!wasBalanced)=true then
  (zbN a_1 b_1 data_1).bind (fun y'_2=>
  G (fits (limit_1 - (1:Int))) (
  zbb zaa a_1 b_1 wasBalanced wasPartitioned r2 (limit_1 - (1:Int)) y'_2)) else
  zbb zaa a_1 b_1 wasBalanced wasPartitioned r2 limit_1 data_1)
def zew (zaa:Tf4):(Int×Int×Int×Bool×Bool×Tp6->Option Tp6)->Int×Int×Int×Bool×Bool×Tp6->Option Tp6:=
  fun rec x=>zbf zaa (fun a_1 b_1 limit_1 wasBalanced wasPartitioned data_1=>rec (a_1,b_1,limit_1,wasBalanced,wasPartitioned,data_1)) x.1 x.2.1 x.2.2.1 x.2.2.2.1 x.2.2.2.2.1 x.2.2.2.2.2
def zag (zaa:Tf4)  (a_1:Int) (b_1:Int) (limit_1:Int) (wasBalanced:Bool) (wasPartitioned:Bool) (data_1:Tp6):Option Tp6:=LFix (zew zaa ) (a_1,b_1,limit_1,wasBalanced,wasPartitioned,data_1)
def zbt (zaa:Tf4) (a:Int) (b:Int) (limit:Int) (data:Tp6):Option Tp6:=
  zag zaa a b limit true true data
theorem za8 (zaa:Nat->Tf4) (zac:Tf4) (zad:∀ a0 a1 a2 a3,ChO (fun κ=>zaa κ a0 a1 a2 a3) (zac a0 a1 a2 a3)) (r2:Nat->Tf2) (r2':Tf2) (h_r2:∀ a0 a1 a2 a3 a4 a5,ChO (fun κ=>r2 κ a0 a1 a2 a3 a4 a5) (r2' a0 a1 a2 a3 a4 a5)) (a_1:Int) (b_1:Int) (wasBalanced:Bool) (wasPartitioned:Bool) (limit_2:Int) (pivot:Int) (data_4:Tp6) (t_1:Bool):ChO (fun κ=>za4 (zaa κ) a_1 b_1 wasBalanced wasPartitioned (r2 κ) limit_2 pivot data_4 t_1) (za4 zac a_1 b_1 wasBalanced wasPartitioned r2' limit_2 pivot data_4 t_1):=by
  unfold za4
  repeat' with_reducible first | exact ChO.const _ | exact zad _ _ _ _ | exact h_r2 _ _ _ _ _ _ | apply ChO.ite | apply ChO.G | apply ChO.both | (apply ChO.bind;intro _) | (apply ChO.bind2 (zad _ _ _ _);intro _)
theorem zbp (zaa:Nat->Tf4) (zac:Tf4) (zad:∀ a0 a1 a2 a3,ChO (fun κ=>zaa κ a0 a1 a2 a3) (zac a0 a1 a2 a3)) (r2:Nat->Tf2) (r2':Tf2) (h_r2:∀ a0 a1 a2 a3 a4 a5,ChO (fun κ=>r2 κ a0 a1 a2 a3 a4 a5) (r2' a0 a1 a2 a3 a4 a5)) (a_1:Int) (b_1:Int) (wasBalanced:Bool) (wasPartitioned:Bool) (limit_2:Int) (pivot:Int) (data_4:Tp6):ChO (fun κ=>za3 (zaa κ) a_1 b_1 wasBalanced wasPartitioned (r2 κ) limit_2 pivot data_4) (za3 zac a_1 b_1 wasBalanced wasPartitioned r2' limit_2 pivot data_4):=by
  unfold za3
  repeat' with_reducible first | exact ChO.const _ | exact zad _ _ _ _ | exact h_r2 _ _ _ _ _ _ | (apply za8<;>assumption) | apply ChO.ite | apply ChO.G | apply ChO.both | (apply ChO.bind;intro _) | (apply ChO.bind2 (zad _ _ _ _);intro _)
theorem zbF (zaa:Nat->Tf4) (zac:Tf4) (zad:∀ a0 a1 a2 a3,ChO (fun κ=>zaa κ a0 a1 a2 a3) (zac a0 a1 a2 a3)) (r2:Nat->Tf2) (r2':Tf2) (h_r2:∀ a0 a1 a2 a3 a4 a5,ChO (fun κ=>r2 κ a0 a1 a2 a3 a4 a5) (r2' a0 a1 a2 a3 a4 a5)) (a_1:Int) (b_1:Int) (wasBalanced:Bool) (wasPartitioned:Bool) (limit_2:Int) (pivot:Int) (data_3:Tp6) (t:Bool):ChO (fun κ=>zaP (zaa κ) a_1 b_1 wasBalanced wasPartitioned (r2 κ) limit_2 pivot data_3 t) (zaP zac a_1 b_1 wasBalanced wasPartitioned r2' limit_2 pivot data_3 t):=by
  unfold zaP
  repeat' with_reducible first | exact ChO.const _ | exact zad _ _ _ _ | exact h_r2 _ _ _ _ _ _ | (apply za8<;>assumption) | (apply zbp<;>assumption) | apply ChO.ite | apply ChO.G | apply ChO.both | (apply ChO.bind;intro _) | (apply ChO.bind2 (zad _ _ _ _);intro _)
theorem zcD (zaa:Nat->Tf4) (zac:Tf4) (zad:∀ a0 a1 a2 a3,ChO (fun κ=>zaa κ a0 a1 a2 a3) (zac a0 a1 a2 a3)) (r2:Nat->Tf2) (r2':Tf2) (h_r2:∀ a0 a1 a2 a3 a4 a5,ChO (fun κ=>r2 κ a0 a1 a2 a3 a4 a5) (r2' a0 a1 a2 a3 a4 a5)) (a_1:Int) (b_1:Int) (wasBalanced:Bool) (wasPartitioned:Bool) (limit_2:Int) (pivot:Int) (hint:Int) (data_3:Tp6):ChO (fun κ=>za2 (zaa κ) a_1 b_1 wasBalanced wasPartitioned (r2 κ) limit_2 pivot hint data_3) (za2 zac a_1 b_1 wasBalanced wasPartitioned r2' limit_2 pivot hint data_3):=by
  unfold za2
  repeat' with_reducible first | exact ChO.const _ | exact zad _ _ _ _ | exact h_r2 _ _ _ _ _ _ | (apply za8<;>assumption) | (apply zbp<;>assumption) | (apply zbF<;>assumption) | apply ChO.ite | apply ChO.G | apply ChO.both | (apply ChO.bind;intro _) | (apply ChO.bind2 (zad _ _ _ _);intro _)
theorem zep (zaa:Nat->Tf4) (zac:Tf4) (zad:∀ a0 a1 a2 a3,ChO (fun κ=>zaa κ a0 a1 a2 a3) (zac a0 a1 a2 a3)) (r2:Nat->Tf2) (r2':Tf2) (h_r2:∀ a0 a1 a2 a3 a4 a5,ChO (fun κ=>r2 κ a0 a1 a2 a3 a4 a5) (r2' a0 a1 a2 a3 a4 a5)) (a_1:Int) (b_1:Int) (wasBalanced:Bool) (wasPartitioned:Bool) (limit_2:Int) (data_2:Tp6):ChO (fun κ=>zbb (zaa κ) a_1 b_1 wasBalanced wasPartitioned (r2 κ) limit_2 data_2) (zbb zac a_1 b_1 wasBalanced wasPartitioned r2' limit_2 data_2):=by
  unfold zbb
  repeat' with_reducible first | exact ChO.const _ | exact zad _ _ _ _ | exact h_r2 _ _ _ _ _ _ | (apply za8<;>assumption) | (apply zbp<;>assumption) | (apply zbF<;>assumption) | (apply zcD<;>assumption) | apply ChO.ite | apply ChO.G | apply ChO.both | (apply ChO.bind;intro _) | (apply ChO.bind2 (zad _ _ _ _);intro _)
theorem zd5 (zaa:Nat->Tf4) (zac:Tf4) (zad:∀ a0 a1 a2 a3,ChO (fun κ=>zaa κ a0 a1 a2 a3) (zac a0 a1 a2 a3)) (r2:Nat->Tf2) (r2':Tf2) (h_r2:∀ a0 a1 a2 a3 a4 a5,ChO (fun κ=>r2 κ a0 a1 a2 a3 a4 a5) (r2' a0 a1 a2 a3 a4 a5)) (a_1:Int) (b_1:Int) (limit_1:Int) (wasBalanced:Bool) (wasPartitioned:Bool) (data_1:Tp6):ChO (fun κ=>zbf (zaa κ) (r2 κ) a_1 b_1 limit_1 wasBalanced wasPartitioned data_1) (zbf zac r2' a_1 b_1 limit_1 wasBalanced wasPartitioned data_1):=by
  unfold zbf
  repeat' with_reducible first | exact ChO.const _ | exact zad _ _ _ _ | exact h_r2 _ _ _ _ _ _ | (apply za8<;>assumption) | (apply zbp<;>assumption) | (apply zbF<;>assumption) | (apply zcD<;>assumption) | (apply zep<;>assumption) | apply ChO.ite | apply ChO.G | apply ChO.both | (apply ChO.bind;intro _) | (apply ChO.bind2 (zad _ _ _ _);intro _)
theorem zcO (zaa:Tf4):Cn (zew zaa):=fun g h hg x=>zd5 (fun _=>zaa) zaa (fun _ _ _ _=>ChO.const _) (fun κ a_1 b_1 limit_1 wasBalanced wasPartitioned data_1=>g κ (a_1,b_1,limit_1,wasBalanced,wasPartitioned,data_1)) (fun a_1 b_1 limit_1 wasBalanced wasPartitioned data_1=>h (a_1,b_1,limit_1,wasBalanced,wasPartitioned,data_1)) (fun a_1 b_1 limit_1 wasBalanced wasPartitioned data_1=>hg (a_1,b_1,limit_1,wasBalanced,wasPartitioned,data_1))  x.1 x.2.1 x.2.2.1 x.2.2.2.1 x.2.2.2.2.1 x.2.2.2.2.2
theorem zhb (zaa:Tf4)  (a_1:Int) (b_1:Int) (limit_1:Int) (wasBalanced:Bool) (wasPartitioned:Bool) (data_1:Tp6):zag zaa a_1 b_1 limit_1 wasBalanced wasPartitioned data_1=zbf zaa (zag zaa) a_1 b_1 limit_1 wasBalanced wasPartitioned data_1:=zbc (zcO zaa) (a_1,b_1,limit_1,wasBalanced,wasPartitioned,data_1)
theorem zha (zaa:Nat->Tf4) (zac:Tf4) (zad:∀ a0 a1 a2 a3,ChO (fun κ=>zaa κ a0 a1 a2 a3) (zac a0 a1 a2 a3))  (a_1:Int) (b_1:Int) (limit_1:Int) (wasBalanced:Bool) (wasPartitioned:Bool) (data_1:Tp6):ChO (fun κ=>zag (zaa κ) a_1 b_1 limit_1 wasBalanced wasPartitioned data_1) (zag zac a_1 b_1 limit_1 wasBalanced wasPartitioned data_1):=by
  unfold zag
  exact zgk (fun κ=>(zcO (zaa κ) ).mono) (zcO zac ).mono (fun g h hg x=>zd5 zaa zac zad (fun κ a_1 b_1 limit_1 wasBalanced wasPartitioned data_1=>g κ (a_1,b_1,limit_1,wasBalanced,wasPartitioned,data_1)) (fun a_1 b_1 limit_1 wasBalanced wasPartitioned data_1=>h (a_1,b_1,limit_1,wasBalanced,wasPartitioned,data_1)) (fun a_1 b_1 limit_1 wasBalanced wasPartitioned data_1=>hg (a_1,b_1,limit_1,wasBalanced,wasPartitioned,data_1))  x.1 x.2.1 x.2.2.1 x.2.2.2.1 x.2.2.2.2.1 x.2.2.2.2.2) _
theorem zhe (zaa:Nat->Tf4) (zac:Tf4) (zad:∀ a0 a1 a2 a3,ChO (fun κ=>zaa κ a0 a1 a2 a3) (zac a0 a1 a2 a3)) (a:Int) (b:Int) (limit:Int) (data:Tp6):ChO (fun κ=>zbt (zaa κ) a b limit data) (zbt zac a b limit data):=by
  unfold zbt
  repeat' with_reducible first | exact ChO.const _ | exact zad _ _ _ _ | (apply za8<;>assumption) | (apply zbp<;>assumption) | (apply zbF<;>assumption) | (apply zcD<;>assumption) | (apply zep<;>assumption) | (apply zha<;>assumption) | apply ChO.ite | apply ChO.G | apply ChO.both | (apply ChO.bind;intro _) | (apply ChO.bind2 (zad _ _ _ _);intro _)
def zcC:(Int×Int×Int×Tp6->Option Tp6)->Int×Int×Int×Tp6->Option Tp6:=
  fun rec X=>zbt (fun a b limit data=>rec (a,b,limit,data)) X.1 X.2.1 X.2.2.1 X.2.2.2
def zaf (a:Int) (b:Int) (limit:Int) (data:Tp6):Option Tp6:=LFix zcC (a,b,limit,data)
theorem zhZ:Cn zcC:=fun g h hg X=>zhe _ _ (fun a b limit data=>hg (a,b,limit,data)) X.1 X.2.1 X.2.2.1 X.2.2.2
theorem zh0 (a:Int) (b:Int) (limit:Int) (data:Tp6):zaf a b limit data=zbt zaf a b limit data:=zbc zhZ (a,b,limit,data)

def zg7 (x':Tp6):Option Tp6:=
  (zke (IntKind.wrap .u64 (x'.length:Int))).bind (fun y'=>
  (zaf (0:Int) (x'.length:Int) y' x').bind (fun y'_1=>
  some y'_1))

def zdQ (t:Int) (r6:(Int->Int->Int->Int->Tp12->Tp12->Tp12->Tp6->Option Tp1)) (out_4:Int) (out_5:Int) (out_6:Int) (l_3:Tp12) (l_4:Tp12) (l_5:Tp12) (l_6:Tp6):Option Tp1:=
  G (fits (t+(1:Int))) (
  r6 (t+(1:Int)) out_4 out_5 out_6 l_4 l_5 l_3 l_6)
def zcG (t_2:Int) (r17:(Int->Int->Int->Int->Tp12->Tp12->Tp12->Tp6->Option Tp1)) (out_19:Int) (out_20:Int) (out_21:Int) (l_23:Tp12) (l_24:Tp12) (l_25:Tp12) (l_26:Tp6):Option Tp1:=
  G (fits (t_2+(1:Int))) (
  r17 (t_2+(1:Int)) out_19 out_20 out_21 l_23 l_24 l_25 l_26)
def zdb (c:Tp1) (i:Int) (t_1:Int) (t_2:Int) (r17:(Int->Int->Int->Int->Tp12->Tp12->Tp12->Tp6->Option Tp1)) (out_16:Int) (out_17:Int) (out_18:Int) (l_19:Tp12) (l_20:Tp12) (l_21:Tp12) (l_22:Tp6):Option Tp1:=
  if (decide (t_2 < i))=true then
  G (0<=t_2/\t_2 < (l_19.length:Int)) (
  G ((t_2).toNat < l_19.length) (
  G (0<=i/\i < (l_19.length:Int)) (
  G ((i).toNat < l_19.length) (
  both [Tc1] (
  (zda t_1 (ix l_19 t_2) (ix l_19 i) c).bind (fun y'_26=>
  (zb8 y'_26 l_20 l_21 l_19).bind (fun y'_32=>
  G (room l_22 ([(t_1,(t_2,(i,(y'_32.1,()))))]) 32) (
  zcG t_2 r17 out_16 out_17 out_18 y'_32.2.1 y'_32.2.2.1 y'_32.2.2.2 (l_22++([(t_1,(t_2,(i,(y'_32.1,()))))])))))) (
  (zda t_1 (ix l_19 t_2) (ix l_19 i) c).bind (fun y'_33=>
  both [Tc1] (
  (zb8 y'_33 l_20 l_21 l_19).bind (fun y'_39=>
  G (room l_22 ([(t_1,(t_2,(i,(y'_39.1,()))))]) 32) (
  zcG t_2 r17 out_16 out_17 out_18 y'_39.2.1 y'_39.2.2.1 y'_39.2.2.2 (l_22++([(t_1,(t_2,(i,(y'_39.1,()))))]))))) (
  (zb8 y'_33 l_20 l_21 l_19).bind (fun y'_45=>
  G (room l_22 ([(t_1,(t_2,(i,(y'_45.1,()))))]) 32) (
  zcG t_2 r17 out_16 out_17 out_18 y'_45.2.1 y'_45.2.2.1 y'_45.2.2.2 (l_22++([(t_1,(t_2,(i,(y'_45.1,()))))]))))))))))) else
  zcG t_2 r17 out_16 out_17 out_18 l_19 l_20 l_21 l_22
def zcS (c:Tp1) (i:Int) (t_1:Int) (r14:(Int->Int->Int->Int->Tp12->Tp12->Tp12->Tp6->Option Tp1)) (r17:Tf1) (t_2:Int) (out_13:Int) (out_14:Int) (out_15:Int) (l_15:Tp12) (l_16:Tp12) (l_17:Tp12) (l_18:Tp6):Option Tp1:=
  if (decide (t_2 < (i+(1:Int))))=true then
  G (0<=i/\i < (l_15.length:Int)) (
  G ((i).toNat < l_15.length) (
  G (0<=t_2/\t_2 < (l_15.length:Int)) (
  G ((t_2).toNat < l_15.length) (
  both [Tc1] (
  (zda t_1 (ix l_15 i) (ix l_15 t_2) c).bind (fun y'_20=>
  (zb8 y'_20 l_16 l_17 l_15).bind (fun y'_46=>
  G (room l_18 ([(t_1,(i,(t_2,(y'_46.1,()))))]) 32) (
  zdb c i t_1 t_2 r17 out_13 out_14 out_15 y'_46.2.1 y'_46.2.2.1 y'_46.2.2.2 (l_18++([(t_1,(i,(t_2,(y'_46.1,()))))])))))) (
  (zda t_1 (ix l_15 i) (ix l_15 t_2) c).bind (fun y'_47=>
  both [Tc1] (
  (zb8 y'_47 l_16 l_17 l_15).bind (fun y'_53=>
  G (room l_18 ([(t_1,(i,(t_2,(y'_53.1,()))))]) 32) (
  zdb c i t_1 t_2 r17 out_13 out_14 out_15 y'_53.2.1 y'_53.2.2.1 y'_53.2.2.2 (l_18++([(t_1,(i,(t_2,(y'_53.1,()))))]))))) (
  (zb8 y'_47 l_16 l_17 l_15).bind (fun y'_59=>
  G (room l_18 ([(t_1,(i,(t_2,(y'_59.1,()))))]) 32) (
  zdb c i t_1 t_2 r17 out_13 out_14 out_15 y'_59.2.1 y'_59.2.2.1 y'_59.2.2.2 (l_18++([(t_1,(i,(t_2,(y'_59.1,()))))]))))))))))) else
  G (fits (t_1+(1:Int))) (
  r14 (t_1+(1:Int)) out_13 out_14 out_15 l_15 l_16 l_17 l_18)
def zjg (c:Tp1) (i:Int) (t_1:Int) (r14:(Int->Int->Int->Int->Tp12->Tp12->Tp12->Tp6->Option Tp1)):(Int×Int×Int×Int×Tp12×Tp12×Tp12×Tp6->Option Tp1)->Int×Int×Int×Int×Tp12×Tp12×Tp12×Tp6->Option Tp1:=
  fun rec x=>zcS c i t_1 r14 (fun t_2 out_13 out_14 out_15 l_15 l_16 l_17 l_18=>rec (t_2,out_13,out_14,out_15,l_15,l_16,l_17,l_18)) x.1 x.2.1 x.2.2.1 x.2.2.2.1 x.2.2.2.2.1 x.2.2.2.2.2.1 x.2.2.2.2.2.2.1 x.2.2.2.2.2.2.2
def zcH (c:Tp1) (i:Int) (t_1:Int) (r14:(Int->Int->Int->Int->Tp12->Tp12->Tp12->Tp6->Option Tp1)) (t_2:Int) (out_13:Int) (out_14:Int) (out_15:Int) (l_15:Tp12) (l_16:Tp12) (l_17:Tp12) (l_18:Tp6):Option Tp1:=LFix (zjg c i t_1 r14 ) (t_2,out_13,out_14,out_15,l_15,l_16,l_17,l_18)
def zcR (letters:Int) (c:Tp1) (i:Int) (r11:(Int->Int->Int->Int->Tp12->Tp12->Tp12->Tp6->Option Tp1)) (r14:Tf1) (t_1:Int) (out_10:Int) (out_11:Int) (out_12:Int) (l_11:Tp12) (l_12:Tp12) (l_13:Tp12) (l_14:Tp6):Option Tp1:=
  if (decide (t_1 < letters))=true then
  G (fits (i+(1:Int))) (
  zcH c i t_1 r14 (0:Int) out_10 out_11 out_12 l_11 l_12 l_13 l_14) else
  G (fits (i+(1:Int))) (
  r11 (i+(1:Int)) out_10 out_11 out_12 l_11 l_12 l_13 l_14)
def zjf (letters:Int) (c:Tp1) (i:Int) (r11:(Int->Int->Int->Int->Tp12->Tp12->Tp12->Tp6->Option Tp1)):(Int×Int×Int×Int×Tp12×Tp12×Tp12×Tp6->Option Tp1)->Int×Int×Int×Int×Tp12×Tp12×Tp12×Tp6->Option Tp1:=
  fun rec x=>zcR letters c i r11 (fun t_1 out_10 out_11 out_12 l_11 l_12 l_13 l_14=>rec (t_1,out_10,out_11,out_12,l_11,l_12,l_13,l_14)) x.1 x.2.1 x.2.2.1 x.2.2.2.1 x.2.2.2.2.1 x.2.2.2.2.2.1 x.2.2.2.2.2.2.1 x.2.2.2.2.2.2.2
def zdc (letters:Int) (c:Tp1) (i:Int) (r11:(Int->Int->Int->Int->Tp12->Tp12->Tp12->Tp6->Option Tp1)) (t_1:Int) (out_10:Int) (out_11:Int) (out_12:Int) (l_11:Tp12) (l_12:Tp12) (l_13:Tp12) (l_14:Tp6):Option Tp1:=LFix (zjf letters c i r11 ) (t_1,out_10,out_11,out_12,l_11,l_12,l_13,l_14)
def zcT (c_1:Tp1) (l_7:Tp12) (r25:Tf3) (t_3:Int) (out_22:Int) (out_23:Int) (out_24:Int) (l_27:Tp6) (out_25:Tp12):Option Tp1:=
  if (decide (t_3 < (l_7.length:Int)))=true then
  G (0<=t_3/\t_3 < (l_7.length:Int)) (
  G ((t_3).toNat < l_7.length) (
  (zhp (ix l_7 t_3) c_1).bind (fun y'_60=>
  G (room out_25 ([y'_60]) 8) (
  G (fits (t_3+(1:Int))) (
  r25 (t_3+(1:Int)) out_22 out_23 out_24 l_27 (out_25++([y'_60]))))))) else
  (zg7 l_27).bind (fun y'_61=>
  some (out_22,((l_7.length:Int),(y'_61,(out_24,(out_25,()))))))
def zjh (c_1:Tp1) (l_7:Tp12):(Int×Int×Int×Int×Tp6×Tp12->Option Tp1)->Int×Int×Int×Int×Tp6×Tp12->Option Tp1:=
  fun rec x=>zcT c_1 l_7 (fun t_3 out_22 out_23 out_24 l_27 out_25=>rec (t_3,out_22,out_23,out_24,l_27,out_25)) x.1 x.2.1 x.2.2.1 x.2.2.2.1 x.2.2.2.2.1 x.2.2.2.2.2
def zdU (c_1:Tp1) (l_7:Tp12) (t_3:Int) (out_22:Int) (out_23:Int) (out_24:Int) (l_27:Tp6) (out_25:Tp12):Option Tp1:=LFix (zjh c_1 l_7 ) (t_3,out_22,out_23,out_24,l_27,out_25)
def zcQ (letters:Int) (c:Tp1) (c_1:Tp1) (r11:Tf1) (i:Int) (out_7:Int) (out_8:Int) (out_9:Int) (l_7:Tp12) (l_8:Tp12) (l_9:Tp12) (l_10:Tp6):Option Tp1:=
  if (decide (i < (l_7.length:Int)))=true then
  zdc letters c i r11 (0:Int) out_7 out_8 out_9 l_7 l_8 l_9 l_10 else
  zdU c_1 l_7 (0:Int) out_7 out_8 out_9 l_10 ([]:List Int)
def zje (letters:Int) (c:Tp1) (c_1:Tp1):(Int×Int×Int×Int×Tp12×Tp12×Tp12×Tp6->Option Tp1)->Int×Int×Int×Int×Tp12×Tp12×Tp12×Tp6->Option Tp1:=
  fun rec x=>zcQ letters c c_1 (fun i out_7 out_8 out_9 l_7 l_8 l_9 l_10=>rec (i,out_7,out_8,out_9,l_7,l_8,l_9,l_10)) x.1 x.2.1 x.2.2.1 x.2.2.2.1 x.2.2.2.2.1 x.2.2.2.2.2.1 x.2.2.2.2.2.2.1 x.2.2.2.2.2.2.2
def zfG (letters:Int) (c:Tp1) (c_1:Tp1) (i:Int) (out_7:Int) (out_8:Int) (out_9:Int) (l_7:Tp12) (l_8:Tp12) (l_9:Tp12) (l_10:Tp6):Option Tp1:=LFix (zje letters c c_1 ) (i,out_7,out_8,out_9,l_7,l_8,l_9,l_10)
def zdh (letters:Int) (c:Tp1) (c_1:Tp1) (r6:Tf1) (t:Int) (out:Int) (out_1:Int) (out_2:Int) (l:Tp12) (l_1:Tp12) (l_2:Tp12) (out_3:Tp6):Option Tp1:=
  if (decide (t < letters))=true then
  both [Tc1] (
  (zda t (-1:Int) (-1:Int) c).bind (fun y'=>
  (zb8 y' l l_1 l_2).bind (fun y'_6=>
  G (room out_3 ([(t,((-1:Int),((-1:Int),(y'_6.1,()))))]) 32) (
  zdQ t r6 out out_1 out_2 y'_6.2.1 y'_6.2.2.1 y'_6.2.2.2 (out_3++([(t,((-1:Int),((-1:Int),(y'_6.1,()))))])))))) (
  (zda t (-1:Int) (-1:Int) c).bind (fun y'_7=>
  both [Tc1] (
  (zb8 y'_7 l l_1 l_2).bind (fun y'_13=>
  G (room out_3 ([(t,((-1:Int),((-1:Int),(y'_13.1,()))))]) 32) (
  zdQ t r6 out out_1 out_2 y'_13.2.1 y'_13.2.2.1 y'_13.2.2.2 (out_3++([(t,((-1:Int),((-1:Int),(y'_13.1,()))))]))))) (
  (zb8 y'_7 l l_1 l_2).bind (fun y'_19=>
  G (room out_3 ([(t,((-1:Int),((-1:Int),(y'_19.1,()))))]) 32) (
  zdQ t r6 out out_1 out_2 y'_19.2.1 y'_19.2.2.1 y'_19.2.2.2 (out_3++([(t,((-1:Int),((-1:Int),(y'_19.1,()))))]))))))) else
  zfG letters c c_1 (0:Int) out out_1 out_2 l_2 l l_1 out_3
def zjX (letters:Int) (c:Tp1) (c_1:Tp1):(Int×Int×Int×Int×Tp12×Tp12×Tp12×Tp6->Option Tp1)->Int×Int×Int×Int×Tp12×Tp12×Tp12×Tp6->Option Tp1:=
  fun rec x=>zdh letters c c_1 (fun t out out_1 out_2 l l_1 l_2 out_3=>rec (t,out,out_1,out_2,l,l_1,l_2,out_3)) x.1 x.2.1 x.2.2.1 x.2.2.2.1 x.2.2.2.2.1 x.2.2.2.2.2.1 x.2.2.2.2.2.2.1 x.2.2.2.2.2.2.2
def zgh (letters:Int) (c:Tp1) (c_1:Tp1) (t:Int) (out:Int) (out_1:Int) (out_2:Int) (l:Tp12) (l_1:Tp12) (l_2:Tp12) (out_3:Tp6):Option Tp1:=LFix (zjX letters c c_1 ) (t,out,out_1,out_2,l,l_1,l_2,out_3)
def zk7 (letters:Int) (c:Tp1) (c_1:Tp1):Option Tp1:=
  zgh letters c c_1 (0:Int) letters (0:Int) (0:Int) ([]:List Int) ([]:List Int) ([]:List Int) ([]:List Tp8)
theorem zcP (r6:Nat->Tf1) (r6':Tf1) (h_r6:∀ a0 a1 a2 a3 a4 a5 a6 a7,ChO (fun κ=>r6 κ a0 a1 a2 a3 a4 a5 a6 a7) (r6' a0 a1 a2 a3 a4 a5 a6 a7)) (t:Int) (out_4:Int) (out_5:Int) (out_6:Int) (l_3:Tp12) (l_4:Tp12) (l_5:Tp12) (l_6:Tp6):ChO (fun κ=>zdQ t (r6 κ) out_4 out_5 out_6 l_3 l_4 l_5 l_6) (zdQ t r6' out_4 out_5 out_6 l_3 l_4 l_5 l_6):=by
  unfold zdQ
  repeat' with_reducible first | exact ChO.const _ | exact h_r6 _ _ _ _ _ _ _ _ | apply ChO.ite | apply ChO.G | apply ChO.both | (apply ChO.bind;intro _)
theorem zc1 (r17:Nat->Tf1) (r17':Tf1) (h_r17:∀ a0 a1 a2 a3 a4 a5 a6 a7,ChO (fun κ=>r17 κ a0 a1 a2 a3 a4 a5 a6 a7) (r17' a0 a1 a2 a3 a4 a5 a6 a7)) (t_2:Int) (out_19:Int) (out_20:Int) (out_21:Int) (l_23:Tp12) (l_24:Tp12) (l_25:Tp12) (l_26:Tp6):ChO (fun κ=>zcG t_2 (r17 κ) out_19 out_20 out_21 l_23 l_24 l_25 l_26) (zcG t_2 r17' out_19 out_20 out_21 l_23 l_24 l_25 l_26):=by
  unfold zcG
  repeat' with_reducible first | exact ChO.const _ | exact h_r17 _ _ _ _ _ _ _ _ | (apply zcP<;>assumption) | apply ChO.ite | apply ChO.G | apply ChO.both | (apply ChO.bind;intro _)
theorem zd7 (r17:Nat->Tf1) (r17':Tf1) (h_r17:∀ a0 a1 a2 a3 a4 a5 a6 a7,ChO (fun κ=>r17 κ a0 a1 a2 a3 a4 a5 a6 a7) (r17' a0 a1 a2 a3 a4 a5 a6 a7)) (c:Tp1) (i:Int) (t_1:Int) (t_2:Int) (out_16:Int) (out_17:Int) (out_18:Int) (l_19:Tp12) (l_20:Tp12) (l_21:Tp12) (l_22:Tp6):ChO (fun κ=>zdb c i t_1 t_2 (r17 κ) out_16 out_17 out_18 l_19 l_20 l_21 l_22) (zdb c i t_1 t_2 r17' out_16 out_17 out_18 l_19 l_20 l_21 l_22):=by
  unfold zdb
  repeat' with_reducible first | exact ChO.const _ | exact h_r17 _ _ _ _ _ _ _ _ | (apply zcP<;>assumption) | (apply zc1<;>assumption) | apply ChO.ite | apply ChO.G | apply ChO.both | (apply ChO.bind;intro _)
theorem zhs (r14:Nat->Tf1) (r14':Tf1) (h_r14:∀ a0 a1 a2 a3 a4 a5 a6 a7,ChO (fun κ=>r14 κ a0 a1 a2 a3 a4 a5 a6 a7) (r14' a0 a1 a2 a3 a4 a5 a6 a7)) (r17:Nat->Tf1) (r17':Tf1) (h_r17:∀ a0 a1 a2 a3 a4 a5 a6 a7,ChO (fun κ=>r17 κ a0 a1 a2 a3 a4 a5 a6 a7) (r17' a0 a1 a2 a3 a4 a5 a6 a7)) (c:Tp1) (i:Int) (t_1:Int) (t_2:Int) (out_13:Int) (out_14:Int) (out_15:Int) (l_15:Tp12) (l_16:Tp12) (l_17:Tp12) (l_18:Tp6):ChO (fun κ=>zcS c i t_1 (r14 κ) (r17 κ) t_2 out_13 out_14 out_15 l_15 l_16 l_17 l_18) (zcS c i t_1 r14' r17' t_2 out_13 out_14 out_15 l_15 l_16 l_17 l_18):=by
  unfold zcS
  repeat' with_reducible first | exact ChO.const _ | exact h_r14 _ _ _ _ _ _ _ _ | exact h_r17 _ _ _ _ _ _ _ _ | (apply zcP<;>assumption) | (apply zc1<;>assumption) | (apply zd7<;>assumption) | apply ChO.ite | apply ChO.G | apply ChO.both | (apply ChO.bind;intro _)
theorem zgx (r14:Tf1) (c:Tp1) (i:Int) (t_1:Int):Cn (zjg c i t_1 r14):=fun g h hg x=>zhs (fun _=>r14) r14 (fun _ _ _ _ _ _ _ _=>ChO.const _) (fun κ t_2 out_13 out_14 out_15 l_15 l_16 l_17 l_18=>g κ (t_2,out_13,out_14,out_15,l_15,l_16,l_17,l_18)) (fun t_2 out_13 out_14 out_15 l_15 l_16 l_17 l_18=>h (t_2,out_13,out_14,out_15,l_15,l_16,l_17,l_18)) (fun t_2 out_13 out_14 out_15 l_15 l_16 l_17 l_18=>hg (t_2,out_13,out_14,out_15,l_15,l_16,l_17,l_18)) c i t_1 x.1 x.2.1 x.2.2.1 x.2.2.2.1 x.2.2.2.2.1 x.2.2.2.2.2.1 x.2.2.2.2.2.2.1 x.2.2.2.2.2.2.2
theorem ziE (r14:Tf1) (c:Tp1) (i:Int) (t_1:Int) (t_2:Int) (out_13:Int) (out_14:Int) (out_15:Int) (l_15:Tp12) (l_16:Tp12) (l_17:Tp12) (l_18:Tp6):zcH c i t_1 r14 t_2 out_13 out_14 out_15 l_15 l_16 l_17 l_18=zcS c i t_1 r14 (zcH c i t_1 r14) t_2 out_13 out_14 out_15 l_15 l_16 l_17 l_18:=zbc (zgx r14 c i t_1) (t_2,out_13,out_14,out_15,l_15,l_16,l_17,l_18)
theorem zeU (r14:Nat->Tf1) (r14':Tf1) (h_r14:∀ a0 a1 a2 a3 a4 a5 a6 a7,ChO (fun κ=>r14 κ a0 a1 a2 a3 a4 a5 a6 a7) (r14' a0 a1 a2 a3 a4 a5 a6 a7)) (c:Tp1) (i:Int) (t_1:Int) (t_2:Int) (out_13:Int) (out_14:Int) (out_15:Int) (l_15:Tp12) (l_16:Tp12) (l_17:Tp12) (l_18:Tp6):ChO (fun κ=>zcH c i t_1 (r14 κ) t_2 out_13 out_14 out_15 l_15 l_16 l_17 l_18) (zcH c i t_1 r14' t_2 out_13 out_14 out_15 l_15 l_16 l_17 l_18):=by
  unfold zcH
  exact zgk (fun κ=>(zgx (r14 κ) c i t_1).mono) (zgx r14' c i t_1).mono (fun g h hg x=>zhs r14 r14' h_r14 (fun κ t_2 out_13 out_14 out_15 l_15 l_16 l_17 l_18=>g κ (t_2,out_13,out_14,out_15,l_15,l_16,l_17,l_18)) (fun t_2 out_13 out_14 out_15 l_15 l_16 l_17 l_18=>h (t_2,out_13,out_14,out_15,l_15,l_16,l_17,l_18)) (fun t_2 out_13 out_14 out_15 l_15 l_16 l_17 l_18=>hg (t_2,out_13,out_14,out_15,l_15,l_16,l_17,l_18)) c i t_1 x.1 x.2.1 x.2.2.1 x.2.2.2.1 x.2.2.2.2.1 x.2.2.2.2.2.1 x.2.2.2.2.2.2.1 x.2.2.2.2.2.2.2) _
theorem zhr (r11:Nat->Tf1) (r11':Tf1) (h_r11:∀ a0 a1 a2 a3 a4 a5 a6 a7,ChO (fun κ=>r11 κ a0 a1 a2 a3 a4 a5 a6 a7) (r11' a0 a1 a2 a3 a4 a5 a6 a7)) (r14:Nat->Tf1) (r14':Tf1) (h_r14:∀ a0 a1 a2 a3 a4 a5 a6 a7,ChO (fun κ=>r14 κ a0 a1 a2 a3 a4 a5 a6 a7) (r14' a0 a1 a2 a3 a4 a5 a6 a7)) (letters:Int) (c:Tp1) (i:Int) (t_1:Int) (out_10:Int) (out_11:Int) (out_12:Int) (l_11:Tp12) (l_12:Tp12) (l_13:Tp12) (l_14:Tp6):ChO (fun κ=>zcR letters c i (r11 κ) (r14 κ) t_1 out_10 out_11 out_12 l_11 l_12 l_13 l_14) (zcR letters c i r11' r14' t_1 out_10 out_11 out_12 l_11 l_12 l_13 l_14):=by
  unfold zcR
  repeat' with_reducible first | exact ChO.const _ | exact h_r11 _ _ _ _ _ _ _ _ | exact h_r14 _ _ _ _ _ _ _ _ | (apply zcP<;>assumption) | (apply zc1<;>assumption) | (apply zd7<;>assumption) | (apply zeU<;>assumption) | apply ChO.ite | apply ChO.G | apply ChO.both | (apply ChO.bind;intro _)
theorem zgw (r11:Tf1) (letters:Int) (c:Tp1) (i:Int):Cn (zjf letters c i r11):=fun g h hg x=>zhr (fun _=>r11) r11 (fun _ _ _ _ _ _ _ _=>ChO.const _) (fun κ t_1 out_10 out_11 out_12 l_11 l_12 l_13 l_14=>g κ (t_1,out_10,out_11,out_12,l_11,l_12,l_13,l_14)) (fun t_1 out_10 out_11 out_12 l_11 l_12 l_13 l_14=>h (t_1,out_10,out_11,out_12,l_11,l_12,l_13,l_14)) (fun t_1 out_10 out_11 out_12 l_11 l_12 l_13 l_14=>hg (t_1,out_10,out_11,out_12,l_11,l_12,l_13,l_14)) letters c i x.1 x.2.1 x.2.2.1 x.2.2.2.1 x.2.2.2.2.1 x.2.2.2.2.2.1 x.2.2.2.2.2.2.1 x.2.2.2.2.2.2.2
theorem ziD (r11:Tf1) (letters:Int) (c:Tp1) (i:Int) (t_1:Int) (out_10:Int) (out_11:Int) (out_12:Int) (l_11:Tp12) (l_12:Tp12) (l_13:Tp12) (l_14:Tp6):zdc letters c i r11 t_1 out_10 out_11 out_12 l_11 l_12 l_13 l_14=zcR letters c i r11 (zdc letters c i r11) t_1 out_10 out_11 out_12 l_11 l_12 l_13 l_14:=zbc (zgw r11 letters c i) (t_1,out_10,out_11,out_12,l_11,l_12,l_13,l_14)
theorem zgv (r11:Nat->Tf1) (r11':Tf1) (h_r11:∀ a0 a1 a2 a3 a4 a5 a6 a7,ChO (fun κ=>r11 κ a0 a1 a2 a3 a4 a5 a6 a7) (r11' a0 a1 a2 a3 a4 a5 a6 a7)) (letters:Int) (c:Tp1) (i:Int) (t_1:Int) (out_10:Int) (out_11:Int) (out_12:Int) (l_11:Tp12) (l_12:Tp12) (l_13:Tp12) (l_14:Tp6):ChO (fun κ=>zdc letters c i (r11 κ) t_1 out_10 out_11 out_12 l_11 l_12 l_13 l_14) (zdc letters c i r11' t_1 out_10 out_11 out_12 l_11 l_12 l_13 l_14):=by
  unfold zdc
  exact zgk (fun κ=>(zgw (r11 κ) letters c i).mono) (zgw r11' letters c i).mono (fun g h hg x=>zhr r11 r11' h_r11 (fun κ t_1 out_10 out_11 out_12 l_11 l_12 l_13 l_14=>g κ (t_1,out_10,out_11,out_12,l_11,l_12,l_13,l_14)) (fun t_1 out_10 out_11 out_12 l_11 l_12 l_13 l_14=>h (t_1,out_10,out_11,out_12,l_11,l_12,l_13,l_14)) (fun t_1 out_10 out_11 out_12 l_11 l_12 l_13 l_14=>hg (t_1,out_10,out_11,out_12,l_11,l_12,l_13,l_14)) letters c i x.1 x.2.1 x.2.2.1 x.2.2.2.1 x.2.2.2.2.1 x.2.2.2.2.2.1 x.2.2.2.2.2.2.1 x.2.2.2.2.2.2.2) _
theorem zk9 (r25:Nat->Tf3) (r25':Tf3) (h_r25:∀ a0 a1 a2 a3 a4 a5,ChO (fun κ=>r25 κ a0 a1 a2 a3 a4 a5) (r25' a0 a1 a2 a3 a4 a5)) (c_1:Tp1) (l_7:Tp12) (t_3:Int) (out_22:Int) (out_23:Int) (out_24:Int) (l_27:Tp6) (out_25:Tp12):ChO (fun κ=>zcT c_1 l_7 (r25 κ) t_3 out_22 out_23 out_24 l_27 out_25) (zcT c_1 l_7 r25' t_3 out_22 out_23 out_24 l_27 out_25):=by
  unfold zcT
  repeat' with_reducible first | exact ChO.const _ | exact h_r25 _ _ _ _ _ _ | (apply zcP<;>assumption) | (apply zc1<;>assumption) | (apply zd7<;>assumption) | (apply zeU<;>assumption) | (apply zgv<;>assumption) | apply ChO.ite | apply ChO.G | apply ChO.both | (apply ChO.bind;intro _)
theorem zmB  (c_1:Tp1) (l_7:Tp12):Cn (zjh c_1 l_7):=fun g h hg x=>zk9  (fun κ t_3 out_22 out_23 out_24 l_27 out_25=>g κ (t_3,out_22,out_23,out_24,l_27,out_25)) (fun t_3 out_22 out_23 out_24 l_27 out_25=>h (t_3,out_22,out_23,out_24,l_27,out_25)) (fun t_3 out_22 out_23 out_24 l_27 out_25=>hg (t_3,out_22,out_23,out_24,l_27,out_25)) c_1 l_7 x.1 x.2.1 x.2.2.1 x.2.2.2.1 x.2.2.2.2.1 x.2.2.2.2.2
theorem ziF  (c_1:Tp1) (l_7:Tp12) (t_3:Int) (out_22:Int) (out_23:Int) (out_24:Int) (l_27:Tp6) (out_25:Tp12):zdU c_1 l_7 t_3 out_22 out_23 out_24 l_27 out_25=zcT c_1 l_7 (zdU c_1 l_7) t_3 out_22 out_23 out_24 l_27 out_25:=zbc (zmB c_1 l_7) (t_3,out_22,out_23,out_24,l_27,out_25)
theorem zk8 (r11:Nat->Tf1) (r11':Tf1) (h_r11:∀ a0 a1 a2 a3 a4 a5 a6 a7,ChO (fun κ=>r11 κ a0 a1 a2 a3 a4 a5 a6 a7) (r11' a0 a1 a2 a3 a4 a5 a6 a7)) (letters:Int) (c:Tp1) (c_1:Tp1) (i:Int) (out_7:Int) (out_8:Int) (out_9:Int) (l_7:Tp12) (l_8:Tp12) (l_9:Tp12) (l_10:Tp6):ChO (fun κ=>zcQ letters c c_1 (r11 κ) i out_7 out_8 out_9 l_7 l_8 l_9 l_10) (zcQ letters c c_1 r11' i out_7 out_8 out_9 l_7 l_8 l_9 l_10):=by
  unfold zcQ
  repeat' with_reducible first | exact ChO.const _ | exact h_r11 _ _ _ _ _ _ _ _ | (apply zcP<;>assumption) | (apply zc1<;>assumption) | (apply zd7<;>assumption) | (apply zeU<;>assumption) | (apply zgv<;>assumption) | apply ChO.ite | apply ChO.G | apply ChO.both | (apply ChO.bind;intro _)
theorem zmA  (letters:Int) (c:Tp1) (c_1:Tp1):Cn (zje letters c c_1):=fun g h hg x=>zk8  (fun κ i out_7 out_8 out_9 l_7 l_8 l_9 l_10=>g κ (i,out_7,out_8,out_9,l_7,l_8,l_9,l_10)) (fun i out_7 out_8 out_9 l_7 l_8 l_9 l_10=>h (i,out_7,out_8,out_9,l_7,l_8,l_9,l_10)) (fun i out_7 out_8 out_9 l_7 l_8 l_9 l_10=>hg (i,out_7,out_8,out_9,l_7,l_8,l_9,l_10)) letters c c_1 x.1 x.2.1 x.2.2.1 x.2.2.2.1 x.2.2.2.2.1 x.2.2.2.2.2.1 x.2.2.2.2.2.2.1 x.2.2.2.2.2.2.2
theorem ziC  (letters:Int) (c:Tp1) (c_1:Tp1) (i:Int) (out_7:Int) (out_8:Int) (out_9:Int) (l_7:Tp12) (l_8:Tp12) (l_9:Tp12) (l_10:Tp6):zfG letters c c_1 i out_7 out_8 out_9 l_7 l_8 l_9 l_10=zcQ letters c c_1 (zfG letters c c_1) i out_7 out_8 out_9 l_7 l_8 l_9 l_10:=zbc (zmA letters c c_1) (i,out_7,out_8,out_9,l_7,l_8,l_9,l_10)
theorem zlK (r6:Nat->Tf1) (r6':Tf1) (h_r6:∀ a0 a1 a2 a3 a4 a5 a6 a7,ChO (fun κ=>r6 κ a0 a1 a2 a3 a4 a5 a6 a7) (r6' a0 a1 a2 a3 a4 a5 a6 a7)) (letters:Int) (c:Tp1) (c_1:Tp1) (t:Int) (out:Int) (out_1:Int) (out_2:Int) (l:Tp12) (l_1:Tp12) (l_2:Tp12) (out_3:Tp6):ChO (fun κ=>zdh letters c c_1 (r6 κ) t out out_1 out_2 l l_1 l_2 out_3) (zdh letters c c_1 r6' t out out_1 out_2 l l_1 l_2 out_3):=by
  unfold zdh
  repeat' with_reducible first | exact ChO.const _ | exact h_r6 _ _ _ _ _ _ _ _ | (apply zcP<;>assumption) | (apply zc1<;>assumption) | (apply zd7<;>assumption) | (apply zeU<;>assumption) | (apply zgv<;>assumption) | apply ChO.ite | apply ChO.G | apply ChO.both | (apply ChO.bind;intro _)
theorem znM  (letters:Int) (c:Tp1) (c_1:Tp1):Cn (zjX letters c c_1):=fun g h hg x=>zlK  (fun κ t out out_1 out_2 l l_1 l_2 out_3=>g κ (t,out,out_1,out_2,l,l_1,l_2,out_3)) (fun t out out_1 out_2 l l_1 l_2 out_3=>h (t,out,out_1,out_2,l,l_1,l_2,out_3)) (fun t out out_1 out_2 l l_1 l_2 out_3=>hg (t,out,out_1,out_2,l,l_1,l_2,out_3)) letters c c_1 x.1 x.2.1 x.2.2.1 x.2.2.2.1 x.2.2.2.2.1 x.2.2.2.2.2.1 x.2.2.2.2.2.2.1 x.2.2.2.2.2.2.2
theorem zji  (letters:Int) (c:Tp1) (c_1:Tp1) (t:Int) (out:Int) (out_1:Int) (out_2:Int) (l:Tp12) (l_1:Tp12) (l_2:Tp12) (out_3:Tp6):zgh letters c c_1 t out out_1 out_2 l l_1 l_2 out_3=zdh letters c c_1 (zgh letters c c_1) t out out_1 out_2 l l_1 l_2 out_3:=zbc (znM letters c c_1) (t,out,out_1,out_2,l,l_1,l_2,out_3)

def zgN (a:Tp1):Option (Tp1×Int):=
  (zjy (a.1,(a.2.1,(a.2.2.1,(a.2.2.2.1,(a.2.2.2.2.1,())))))).bind (fun y'=>
  if (decide (¬ y'=(0:Int)))=true then
  some (((0:Int),((0:Int),([],((0:Int),([],()))))),y') else
  if (decide ((6:Int) < a.2.1))=true then
  some (((0:Int),((0:Int),([],((0:Int),([],()))))),(1:Int)) else
  if (decide ((2:Int) < a.1))=true then
  some (((0:Int),((0:Int),([],((0:Int),([],()))))),(1:Int)) else
  (zk7 a.1 (a.1,(a.2.1,(a.2.2.1,(a.2.2.2.1,(a.2.2.2.2.1,()))))) (a.1,(a.2.1,(a.2.2.1,(a.2.2.2.1,(a.2.2.2.2.1,())))))).bind (fun y'_1=>
  some ((y'_1.1,(y'_1.2.1,(y'_1.2.2.1,(y'_1.2.2.2.1,(y'_1.2.2.2.2.1,()))))),(0:Int))))

def zkQ (x':Tp8) (y':Tp8):Option (Bool):=
  if (decide (¬ x'.1=y'.1))=true then
  some (decide (x'.1 < y'.1)) else
  if (decide (¬ x'.2.1=y'.2.1))=true then
  some (decide (x'.2.1 < y'.2.1)) else
  if (decide (¬ x'.2.2.1=y'.2.2.1))=true then
  some (decide (x'.2.2.1 < y'.2.2.1)) else
  some (decide (x'.2.2.2.1 < y'.2.2.2.1))

def zbL (t:Tp1) (i:Int) (r6:(Int->Option (Int))) (leaf:Bool) (both':Bool):Option (Int):=
  if (decide (((ix t.2.2.1 i).1) < (0:Int)))=true then
  some (2:Int) else
  if (decide (t.1<=((ix t.2.2.1 i).1)))=true then
  some (2:Int) else
  if (decide ((((((ix t.2.2.1 i).2).2).2).1) < (0:Int)))=true then
  some (2:Int) else
  if (decide (t.2.1<=(((((ix t.2.2.1 i).2).2).2).1)))=true then
  some (2:Int) else
  if (!leaf)=true then
  if (!both')=true then
  some (2:Int) else
  G (fits (i+(1:Int))) (
  r6 (i+(1:Int))) else
  G (fits (i+(1:Int))) (
  r6 (i+(1:Int)))
def zc2 (t:Tp1) (i:Int) (r6:(Int->Option (Int))) (leaf:Bool):Option (Int):=
  if (decide ((0:Int)<=(((ix t.2.2.1 i).2).1)))=true then
  if (decide ((((ix t.2.2.1 i).2).1) < t.2.1))=true then
  if (decide ((0:Int)<=((((ix t.2.2.1 i).2).2).1)))=true then
  zbL t i r6 leaf (decide (((((ix t.2.2.1 i).2).2).1) < t.2.1)) else
  zbL t i r6 leaf false else
  zbL t i r6 leaf false else
  zbL t i r6 leaf false
def zcj (t:Tp1) (r19:Int->Option (Int)) (i_2:Int):Option (Int):=
  if (decide (i_2 < (t.2.2.1.length:Int)))=true then
  G (fits (i_2 - (1:Int))) (
  G (0<=i_2 - (1:Int)/\i_2 - (1:Int) < (t.2.2.1.length:Int)) (
  G (0<=i_2/\i_2 < (t.2.2.1.length:Int)) (
  (zkQ (ix t.2.2.1 (i_2 - (1:Int))) (ix t.2.2.1 i_2)).bind (fun y'=>
  if (!y')=true then
  some (3:Int) else
  G (fits (i_2+(1:Int))) (
  r19 (i_2+(1:Int))))))) else
  if (decide (¬ t.2.2.2.1=(0:Int)))=true then
  some (3:Int) else
  some (0:Int)
def zi1 (t:Tp1):(Int->Option (Int))->Int->Option (Int):=
  fun rec x=>zcj t (fun i_2=>rec i_2) x
def zfs (t:Tp1) (i_2:Int):Option (Int):=LFix (zi1 t ) i_2
def zci (t:Tp1) (r14:Int->Option (Int)) (i_1:Int):Option (Int):=
  if (decide (i_1 < (t.2.2.2.2.1.length:Int)))=true then
  G (0<=i_1/\i_1 < (t.2.2.2.2.1.length:Int)) (
  if (decide (¬ (ix t.2.2.2.2.1 i_1)=(0:Int)))=true then
  G (0<=i_1/\i_1 < (t.2.2.2.2.1.length:Int)) (
  if (decide (¬ (ix t.2.2.2.2.1 i_1)=(1:Int)))=true then
  some (2:Int) else
  G (fits (i_1+(1:Int))) (
  r14 (i_1+(1:Int)))) else
  G (fits (i_1+(1:Int))) (
  r14 (i_1+(1:Int)))) else
  zfs t (1:Int)
def zi0 (t:Tp1):(Int->Option (Int))->Int->Option (Int):=
  fun rec x=>zci t (fun i_1=>rec i_1) x
def zig (t:Tp1) (i_1:Int):Option (Int):=LFix (zi0 t ) i_1
def zcJ (t:Tp1) (r6:Int->Option (Int)) (i:Int):Option (Int):=
  if (decide (i < (t.2.2.1.length:Int)))=true then
  G (0<=i/\i < (t.2.2.1.length:Int)) (
  if (decide ((((ix t.2.2.1 i).2).1)=(-1:Int)))=true then
  zc2 t i r6 (decide (((((ix t.2.2.1 i).2).2).1)=(-1:Int))) else
  zc2 t i r6 false) else
  zig t (0:Int)
def zjJ (t:Tp1):(Int->Option (Int))->Int->Option (Int):=
  fun rec x=>zcJ t (fun i=>rec i) x
def zi2 (t:Tp1) (i:Int):Option (Int):=LFix (zjJ t ) i
def ziZ (t:Tp1):Option (Int):=
  if (decide (t.1 < (1:Int)))=true then
  some (2:Int) else
  if (decide ((4:Int) < t.1))=true then
  some (2:Int) else
  if (decide (t.2.1 < (1:Int)))=true then
  some (1:Int) else
  if (decide ((300:Int) < t.2.1))=true then
  some (1:Int) else
  if (decide ((40000:Int) < (t.2.2.1.length:Int)))=true then
  some (1:Int) else
  if (decide (¬ (t.2.2.2.2.1.length:Int)=t.2.1))=true then
  some (1:Int) else
  zi2 t (0:Int)
theorem zeT (r6:Nat->Int->Option (Int)) (r6':Int->Option (Int)) (h_r6:∀ a0,ChO (fun κ=>r6 κ a0) (r6' a0)) (t:Tp1) (i:Int) (leaf:Bool) (both':Bool):ChO (fun κ=>zbL t i (r6 κ) leaf both') (zbL t i r6' leaf both'):=by
  unfold zbL
  repeat' with_reducible first | exact ChO.const _ | exact h_r6 _ | apply ChO.ite | apply ChO.G | apply ChO.both | (apply ChO.bind;intro _)
theorem zgY (r6:Nat->Int->Option (Int)) (r6':Int->Option (Int)) (h_r6:∀ a0,ChO (fun κ=>r6 κ a0) (r6' a0)) (t:Tp1) (i:Int) (leaf:Bool):ChO (fun κ=>zc2 t i (r6 κ) leaf) (zc2 t i r6' leaf):=by
  unfold zc2
  repeat' with_reducible first | exact ChO.const _ | exact h_r6 _ | (apply zeT<;>assumption) | apply ChO.ite | apply ChO.G | apply ChO.both | (apply ChO.bind;intro _)
theorem zkU (r19:Nat->Int->Option (Int)) (r19':Int->Option (Int)) (h_r19:∀ a0,ChO (fun κ=>r19 κ a0) (r19' a0)) (t:Tp1) (i_2:Int):ChO (fun κ=>zcj t (r19 κ) i_2) (zcj t r19' i_2):=by
  unfold zcj
  repeat' with_reducible first | exact ChO.const _ | exact h_r19 _ | (apply zeT<;>assumption) | (apply zgY<;>assumption) | apply ChO.ite | apply ChO.G | apply ChO.both | (apply ChO.bind;intro _)
theorem zmw  (t:Tp1):Cn (zi1 t):=fun g h hg x=>zkU  (fun κ i_2=>g κ i_2) (fun i_2=>h i_2) (fun i_2=>hg i_2) t x
theorem zgq  (t:Tp1) (i_2:Int):zfs t i_2=zcj t (zfs t) i_2:=zbc (zmw t) i_2
theorem zkT (r14:Nat->Int->Option (Int)) (r14':Int->Option (Int)) (h_r14:∀ a0,ChO (fun κ=>r14 κ a0) (r14' a0)) (t:Tp1) (i_1:Int):ChO (fun κ=>zci t (r14 κ) i_1) (zci t r14' i_1):=by
  unfold zci
  repeat' with_reducible first | exact ChO.const _ | exact h_r14 _ | (apply zeT<;>assumption) | (apply zgY<;>assumption) | apply ChO.ite | apply ChO.G | apply ChO.both | (apply ChO.bind;intro _)
theorem zmv  (t:Tp1):Cn (zi0 t):=fun g h hg x=>zkT  (fun κ i_1=>g κ i_1) (fun i_1=>h i_1) (fun i_1=>hg i_1) t x
theorem zgp  (t:Tp1) (i_1:Int):zig t i_1=zci t (zig t) i_1:=zbc (zmv t) i_1
theorem zlA (r6:Nat->Int->Option (Int)) (r6':Int->Option (Int)) (h_r6:∀ a0,ChO (fun κ=>r6 κ a0) (r6' a0)) (t:Tp1) (i:Int):ChO (fun κ=>zcJ t (r6 κ) i) (zcJ t r6' i):=by
  unfold zcJ
  repeat' with_reducible first | exact ChO.const _ | exact h_r6 _ | (apply zeT<;>assumption) | (apply zgY<;>assumption) | apply ChO.ite | apply ChO.G | apply ChO.both | (apply ChO.bind;intro _)
theorem zny  (t:Tp1):Cn (zjJ t):=fun g h hg x=>zlA  (fun κ i=>g κ i) (fun i=>h i) (fun i=>hg i) t x
theorem zgZ  (t:Tp1) (i:Int):zi2 t i=zcJ t (zi2 t) i:=zbc (zny t) i

def zdI (t:Tp5) (i:Int) (child:Tp11) (r8:(Int->Tp11->Option (Int))):Option (Int):=
  if (decide ((((ix t.1 i).2).1) < (0:Int)))=true then
  some (3:Int) else
  if (decide (i<=(((ix t.1 i).2).1)))=true then
  some (3:Int) else
  G (0<=((ix t.1 i).2).1/\((ix t.1 i).2).1 < (child.length:Int)) (
  G ((((ix t.1 i).2).1).toNat < child.length) (
  if (ix child (((ix t.1 i).2).1))=true then
  some (3:Int) else
  G (0<=((ix t.1 i).2).1/\((ix t.1 i).2).1 < (child.length:Int)) (
  G ((((ix t.1 i).2).1).toNat < child.length) (
  if (decide (((((ix t.1 i).2).2).1) < (0:Int)))=true then
  some (3:Int) else
  if (decide (i<=((((ix t.1 i).2).2).1)))=true then
  some (3:Int) else
  G (0<=(((ix t.1 i).2).2).1/\(((ix t.1 i).2).2).1 < ((child.set (((ix t.1 i).2).1).toNat true).length:Int)) (
  G (((((ix t.1 i).2).2).1).toNat < (child.set (((ix t.1 i).2).1).toNat true).length) (
  if (ix (child.set (((ix t.1 i).2).1).toNat true) ((((ix t.1 i).2).2).1))=true then
  some (3:Int) else
  G (0<=(((ix t.1 i).2).2).1/\(((ix t.1 i).2).2).1 < ((child.set (((ix t.1 i).2).1).toNat true).length:Int)) (
  G (((((ix t.1 i).2).2).1).toNat < (child.set (((ix t.1 i).2).1).toNat true).length) (
  G (fits (i+(1:Int))) (
  r8 (i+(1:Int)) ((child.set (((ix t.1 i).2).1).toNat true).set ((((ix t.1 i).2).2).1).toNat true))))))))))
def zcK (t:Tp5) (child:Tp11) (r21:Int->Option (Int)) (i_1:Int):Option (Int):=
  G (fits ((t.1.length:Int) - (1:Int))) (
  if (decide (i_1 < ((t.1.length:Int) - (1:Int))))=true then
  G (0<=i_1/\i_1 < (child.length:Int)) (
  G ((i_1).toNat < child.length) (
  if (!(ix child i_1))=true then
  some (3:Int) else
  G (fits (i_1+(1:Int))) (
  r21 (i_1+(1:Int))))) else
  some (0:Int))
def zjK (t:Tp5) (child:Tp11):(Int->Option (Int))->Int->Option (Int):=
  fun rec x=>zcK t child (fun i_1=>rec i_1) x
def zhl (t:Tp5) (child:Tp11) (i_1:Int):Option (Int):=LFix (zjK t child ) i_1
def zdS (letters:Int) (t:Tp5) (r8:Int->Tp11->Option (Int)) (i:Int) (child:Tp11):Option (Int):=
  if (decide (i < (t.1.length:Int)))=true then
  G (0<=i/\i < (t.1.length:Int)) (
  if (decide (((ix t.1 i).1) < (0:Int)))=true then
  some (2:Int) else
  if (decide (letters<=((ix t.1 i).1)))=true then
  some (2:Int) else
  if (decide ((((ix t.1 i).2).1)=(-1:Int)))=true then
  if (decide (((((ix t.1 i).2).2).1)=(-1:Int)))=true then
  G (fits (i+(1:Int))) (
  r8 (i+(1:Int)) child) else
  zdI t i child r8 else
  zdI t i child r8) else
  zhl t child (0:Int)
def zkX (letters:Int) (t:Tp5):(Int×Tp11->Option (Int))->Int×Tp11->Option (Int):=
  fun rec x=>zdS letters t (fun i child=>rec (i,child)) x.1 x.2
def zg1 (letters:Int) (t:Tp5) (i:Int) (child:Tp11):Option (Int):=LFix (zkX letters t ) (i,child)
def zmO (letters:Int) (t:Tp5):Option (Int):=
  if (decide (letters < (1:Int)))=true then
  some (2:Int) else
  if (decide ((4:Int) < letters))=true then
  some (2:Int) else
  if (decide ((t.1.length:Int) < (1:Int)))=true then
  some (1:Int) else
  if (decide ((60:Int) < (t.1.length:Int)))=true then
  some (1:Int) else
  G (mkOK (t.1.length:Int) (t.1.length:Int) 1) (
  zg1 letters t (0:Int) (List.replicate ((t.1.length:Int)).toNat (false:Bool)))
theorem zi3 (r8:Nat->Int->Tp11->Option (Int)) (r8':Int->Tp11->Option (Int)) (h_r8:∀ a0 a1,ChO (fun κ=>r8 κ a0 a1) (r8' a0 a1)) (t:Tp5) (i:Int) (child:Tp11):ChO (fun κ=>zdI t i child (r8 κ)) (zdI t i child r8'):=by
  unfold zdI
  repeat' with_reducible first | exact ChO.const _ | exact h_r8 _ _ | apply ChO.ite | apply ChO.G | apply ChO.both | (apply ChO.bind;intro _)
theorem zlB (r21:Nat->Int->Option (Int)) (r21':Int->Option (Int)) (h_r21:∀ a0,ChO (fun κ=>r21 κ a0) (r21' a0)) (t:Tp5) (child:Tp11) (i_1:Int):ChO (fun κ=>zcK t child (r21 κ) i_1) (zcK t child r21' i_1):=by
  unfold zcK
  repeat' with_reducible first | exact ChO.const _ | exact h_r21 _ | (apply zi3<;>assumption) | apply ChO.ite | apply ChO.G | apply ChO.both | (apply ChO.bind;intro _)
theorem znz  (t:Tp5) (child:Tp11):Cn (zjK t child):=fun g h hg x=>zlB  (fun κ i_1=>g κ i_1) (fun i_1=>h i_1) (fun i_1=>hg i_1) t child x
theorem zg0  (t:Tp5) (child:Tp11) (i_1:Int):zhl t child i_1=zcK t child (zhl t child) i_1:=zbc (znz t child) i_1
theorem zmx (r8:Nat->Int->Tp11->Option (Int)) (r8':Int->Tp11->Option (Int)) (h_r8:∀ a0 a1,ChO (fun κ=>r8 κ a0 a1) (r8' a0 a1)) (letters:Int) (t:Tp5) (i:Int) (child:Tp11):ChO (fun κ=>zdS letters t (r8 κ) i child) (zdS letters t r8' i child):=by
  unfold zdS
  repeat' with_reducible first | exact ChO.const _ | exact h_r8 _ _ | (apply zi3<;>assumption) | apply ChO.ite | apply ChO.G | apply ChO.both | (apply ChO.bind;intro _)
theorem zn8  (letters:Int) (t:Tp5):Cn (zkX letters t):=fun g h hg x=>zmx  (fun κ i child=>g κ (i,child)) (fun i child=>h (i,child)) (fun i child=>hg (i,child)) letters t x.1 x.2
theorem zjL  (letters:Int) (t:Tp5) (i:Int) (child:Tp11):zg1 letters t i child=zdS letters t (zg1 letters t) i child:=zbc (zn8 letters t) (i,child)

def zch (a:Tp1) (k:Int) (own:Tp11) (r8:(Int->Tp11->Option (Bool))) (t_1:Bool):Option (Bool):=
  if t_1=true then
  G (0<=((((ix a.2.2.1 k).2).2).2).1/\((((ix a.2.2.1 k).2).2).2).1 < (own.length:Int)) (
  G ((((((ix a.2.2.1 k).2).2).2).1).toNat < own.length) (
  G (fits (k+(1:Int))) (
  r8 (k+(1:Int)) (own.set (((((ix a.2.2.1 k).2).2).2).1).toNat true)))) else
  G (fits (k+(1:Int))) (
  r8 (k+(1:Int)) own)
def zcv (a:Tp1) (t:Tp5) (i:Int) (can:Tp10) (r3:(Int->Tp10->Option (Bool))) (r8:Int->Tp11->Option (Bool)) (k:Int) (own:Tp11):Option (Bool):=
  if (decide (k < (a.2.2.1.length:Int)))=true then
  G (0<=k/\k < (a.2.2.1.length:Int)) (
  if (decide (¬ ((ix a.2.2.1 k).1)=((ix t.1 i).1)))=true then
  G (fits (k+(1:Int))) (
  r8 (k+(1:Int)) own) else
  if (decide (¬ (decide ((((ix a.2.2.1 k).2).1)=(-1:Int)))=(decide ((((ix t.1 i).2).1)=(-1:Int)))))=true then
  G (fits (k+(1:Int))) (
  r8 (k+(1:Int)) own) else
  if (decide ((((ix a.2.2.1 k).2).1)=(-1:Int)))=true then
  zch a k own r8 true else
  G (0<=((ix t.1 i).2).1/\((ix t.1 i).2).1 < (can.length:Int)) (
  G ((((ix t.1 i).2).1).toNat < can.length) (
  G (0<=((ix a.2.2.1 k).2).1/\((ix a.2.2.1 k).2).1 < ((ix can (((ix t.1 i).2).1)).length:Int)) (
  if (ix (ix can (((ix t.1 i).2).1)) (((ix a.2.2.1 k).2).1))=true then
  G (0<=(((ix t.1 i).2).2).1/\(((ix t.1 i).2).2).1 < (can.length:Int)) (
  G (((((ix t.1 i).2).2).1).toNat < can.length) (
  G (0<=(((ix a.2.2.1 k).2).2).1/\(((ix a.2.2.1 k).2).2).1 < ((ix can ((((ix t.1 i).2).2).1)).length:Int)) (
  zch a k own r8 (ix (ix can ((((ix t.1 i).2).2).1)) ((((ix a.2.2.1 k).2).2).1))))) else
  zch a k own r8 false)))) else
  G (room can ([own]) 24) (
  G (fits (i+(1:Int))) (
  r3 (i+(1:Int)) (can++([own]))))
def zio (a:Tp1) (t:Tp5) (i:Int) (can:Tp10) (r3:(Int->Tp10->Option (Bool))):(Int×Tp11->Option (Bool))->Int×Tp11->Option (Bool):=
  fun rec x=>zcv a t i can r3 (fun k own=>rec (k,own)) x.1 x.2
def zbJ (a:Tp1) (t:Tp5) (i:Int) (can:Tp10) (r3:(Int->Tp10->Option (Bool))) (k:Int) (own:Tp11):Option (Bool):=LFix (zio a t i can r3 ) (k,own)
def zb7 (a:Tp1) (can:Tp10) (r17:Int->Option (Bool)) (q:Int):Option (Bool):=
  if (decide (q < a.2.1))=true then
  G (0<=q/\q < ((ix can ((can.length:Int) - (1:Int))).length:Int)) (
  if (ix (ix can ((can.length:Int) - (1:Int))) q)=true then
  G (0<=q/\q < (a.2.2.2.2.1.length:Int)) (
  if (decide ((ix a.2.2.2.2.1 q)=(1:Int)))=true then
  some true else
  G (fits (q+(1:Int))) (
  r17 (q+(1:Int)))) else
  G (fits (q+(1:Int))) (
  r17 (q+(1:Int)))) else
  some false
def zhQ (a:Tp1) (can:Tp10):(Int->Option (Bool))->Int->Option (Bool):=
  fun rec x=>zb7 a can (fun q=>rec q) x
def zfr (a:Tp1) (can:Tp10) (q:Int):Option (Bool):=LFix (zhQ a can ) q
def zcu (a:Tp1) (t:Tp5) (r3:Int->Tp10->Option (Bool)) (i:Int) (can:Tp10):Option (Bool):=
  if (decide (i < (t.1.length:Int)))=true then
  G (0<=i/\i < (t.1.length:Int)) (
  G (mkOK a.2.1 a.2.1 1) (
  zbJ a t i can r3 (0:Int) (List.replicate (a.2.1).toNat (false:Bool)))) else
  G (fits ((can.length:Int) - (1:Int))) (
  G (0<=(can.length:Int) - (1:Int)/\(can.length:Int) - (1:Int) < (can.length:Int)) (
  G (((can.length:Int) - (1:Int)).toNat < can.length) (
  zfr a can (0:Int))))
def zin (a:Tp1) (t:Tp5):(Int×Tp10->Option (Bool))->Int×Tp10->Option (Bool):=
  fun rec x=>zcu a t (fun i can=>rec (i,can)) x.1 x.2
def zd8 (a:Tp1) (t:Tp5) (i:Int) (can:Tp10):Option (Bool):=LFix (zin a t ) (i,can)
def zeX (a:Tp1) (t:Tp5):Option (Bool):=
  zd8 a t (0:Int) ([])
theorem zfq (r8:Nat->Int->Tp11->Option (Bool)) (r8':Int->Tp11->Option (Bool)) (h_r8:∀ a0 a1,ChO (fun κ=>r8 κ a0 a1) (r8' a0 a1)) (a:Tp1) (k:Int) (own:Tp11) (t_1:Bool):ChO (fun κ=>zch a k own (r8 κ) t_1) (zch a k own r8' t_1):=by
  unfold zch
  repeat' with_reducible first | exact ChO.const _ | exact h_r8 _ _ | apply ChO.ite | apply ChO.G | apply ChO.both | (apply ChO.bind;intro _)
theorem zgX (r3:Nat->Int->Tp10->Option (Bool)) (r3':Int->Tp10->Option (Bool)) (h_r3:∀ a0 a1,ChO (fun κ=>r3 κ a0 a1) (r3' a0 a1)) (r8:Nat->Int->Tp11->Option (Bool)) (r8':Int->Tp11->Option (Bool)) (h_r8:∀ a0 a1,ChO (fun κ=>r8 κ a0 a1) (r8' a0 a1)) (a:Tp1) (t:Tp5) (i:Int) (can:Tp10) (k:Int) (own:Tp11):ChO (fun κ=>zcv a t i can (r3 κ) (r8 κ) k own) (zcv a t i can r3' r8' k own):=by
  unfold zcv
  repeat' with_reducible first | exact ChO.const _ | exact h_r3 _ _ | exact h_r8 _ _ | (apply zfq<;>assumption) | apply ChO.ite | apply ChO.G | apply ChO.both | (apply ChO.bind;intro _)
theorem zfR (r3:Int->Tp10->Option (Bool)) (a:Tp1) (t:Tp5) (i:Int) (can:Tp10):Cn (zio a t i can r3):=fun g h hg x=>zgX (fun _=>r3) r3 (fun _ _=>ChO.const _) (fun κ k own=>g κ (k,own)) (fun k own=>h (k,own)) (fun k own=>hg (k,own)) a t i can x.1 x.2
theorem zhT (r3:Int->Tp10->Option (Bool)) (a:Tp1) (t:Tp5) (i:Int) (can:Tp10) (k:Int) (own:Tp11):zbJ a t i can r3 k own=zcv a t i can r3 (zbJ a t i can r3) k own:=zbc (zfR r3 a t i can) (k,own)
theorem zhS (r3:Nat->Int->Tp10->Option (Bool)) (r3':Int->Tp10->Option (Bool)) (h_r3:∀ a0 a1,ChO (fun κ=>r3 κ a0 a1) (r3' a0 a1)) (a:Tp1) (t:Tp5) (i:Int) (can:Tp10) (k:Int) (own:Tp11):ChO (fun κ=>zbJ a t i can (r3 κ) k own) (zbJ a t i can r3' k own):=by
  unfold zbJ
  exact zgk (fun κ=>(zfR (r3 κ) a t i can).mono) (zfR r3' a t i can).mono (fun g h hg x=>zgX r3 r3' h_r3 (fun κ k own=>g κ (k,own)) (fun k own=>h (k,own)) (fun k own=>hg (k,own)) a t i can x.1 x.2) _
theorem zjC (r17:Nat->Int->Option (Bool)) (r17':Int->Option (Bool)) (h_r17:∀ a0,ChO (fun κ=>r17 κ a0) (r17' a0)) (a:Tp1) (can:Tp10) (q:Int):ChO (fun κ=>zb7 a can (r17 κ) q) (zb7 a can r17' q):=by
  unfold zb7
  repeat' with_reducible first | exact ChO.const _ | exact h_r17 _ | (apply zfq<;>assumption) | (apply zhS<;>assumption) | apply ChO.ite | apply ChO.G | apply ChO.both | (apply ChO.bind;intro _)
theorem zkP  (a:Tp1) (can:Tp10):Cn (zhQ a can):=fun g h hg x=>zjC  (fun κ q=>g κ q) (fun q=>h q) (fun q=>hg q) a can x
theorem zhk  (a:Tp1) (can:Tp10) (q:Int):zfr a can q=zb7 a can (zfr a can) q:=zbc (zkP a can) q
theorem zj9 (r3:Nat->Int->Tp10->Option (Bool)) (r3':Int->Tp10->Option (Bool)) (h_r3:∀ a0 a1,ChO (fun κ=>r3 κ a0 a1) (r3' a0 a1)) (a:Tp1) (t:Tp5) (i:Int) (can:Tp10):ChO (fun κ=>zcu a t (r3 κ) i can) (zcu a t r3' i can):=by
  unfold zcu
  repeat' with_reducible first | exact ChO.const _ | exact h_r3 _ _ | (apply zfq<;>assumption) | (apply zhS<;>assumption) | apply ChO.ite | apply ChO.G | apply ChO.both | (apply ChO.bind;intro _)
theorem zlz  (a:Tp1) (t:Tp5):Cn (zin a t):=fun g h hg x=>zj9  (fun κ i can=>g κ (i,can)) (fun i can=>h (i,can)) (fun i can=>hg (i,can)) a t x.1 x.2
theorem zhR  (a:Tp1) (t:Tp5) (i:Int) (can:Tp10):zd8 a t i can=zcu a t (zd8 a t) i can:=zbc (zlz a t) (i,can)

def zdX (a:Tp1) (t:Tp5) (y'_1:Tp1) (y'_2:Int) (no:Int):Option (Bool):=
  if (decide (¬ no=(0:Int)))=true then
  if (decide (y'_2=no))=true then
  if (decide (y'_1.1=(0:Int)))=true then
  if (decide (y'_1.2.1=(0:Int)))=true then
  if (decide (y'_1.2.2.2.1=(0:Int)))=true then
  G (fits ((y'_1.2.2.1.length:Int)+(y'_1.2.2.2.2.1.length:Int))) (
  some (decide (((y'_1.2.2.1.length:Int)+(y'_1.2.2.2.2.1.length:Int))=(0:Int)))) else
  some false else
  some false else
  some false else
  some false else
  (ziZ (y'_1.1,(y'_1.2.1,(y'_1.2.2.1,(y'_1.2.2.2.1,(y'_1.2.2.2.2.1,())))))).bind (fun y'_5=>
  if (decide (¬ y'_2=(0:Int)))=true then
  some false else
  if (decide (¬ y'_5=(0:Int)))=true then
  some false else
  if (decide (¬ y'_1.1=a.1))=true then
  some false else
  (zmO a.1 (t.1,())).bind (fun y'_6=>
  if (decide (¬ y'_6=(0:Int)))=true then
  some true else
  (zeX (a.1,(a.2.1,(a.2.2.1,(a.2.2.2.1,(a.2.2.2.2.1,()))))) (t.1,())).bind (fun y'_7=>
  (zeX (y'_1.1,(y'_1.2.1,(y'_1.2.2.1,(y'_1.2.2.2.1,(y'_1.2.2.2.2.1,()))))) (t.1,())).bind (fun y'_8=>
  some (decide (¬ y'_7=y'_8))))))
def zct (a:Tp1) (t:Tp5) (y'_1:Tp1) (y'_2:Int) (y'_4:Int) (t_1:Bool):Option (Bool):=
  if t_1=true then
  zdX a t y'_1 y'_2 (1:Int) else
  zdX a t y'_1 y'_2 y'_4
def zh8 (a:Tp1) (t:Tp5):Option (Bool):=
  (znn (a.1,(a.2.1,(a.2.2.1,(a.2.2.2.1,(a.2.2.2.2.1,())))))).bind (fun y'=>
  (zgN (y'.1,(y'.2.1,(y'.2.2.1,(y'.2.2.2.1,(y'.2.2.2.2.1,())))))).bind (fun y'_9=>
  (ziZ (a.1,(a.2.1,(a.2.2.1,(a.2.2.2.1,(a.2.2.2.2.1,())))))).bind (fun y'_4=>
  if (decide (y'_4=(0:Int)))=true then
  if (decide ((6:Int) < a.2.1))=true then
  zct a t y'_9.1 y'_9.2 y'_4 true else
  zct a t y'_9.1 y'_9.2 y'_4 (decide ((2:Int) < a.1)) else
  zct a t y'_9.1 y'_9.2 y'_4 false)))

end
end Go.Proofs.Ytkmeeljlokeboaa.treeOtherW
