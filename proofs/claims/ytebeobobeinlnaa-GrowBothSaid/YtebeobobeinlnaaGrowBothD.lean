/- What the functions that 'GrowBoth' reaches compute: plain functions. -/
import Derived.Test.YtebeobobeinlnaaEv31n21
set_option maxHeartbeats 1000000
set_option maxRecDepth 20000
set_option linter.unusedSimpArgs false
set_option linter.unusedVariables false
set_option linter.unusedSectionVars false
namespace Go.Proofs.Ytebeobobeinlnaa.growBothW
open Go Go.Ab
noncomputable section
abbrev Tp16:=(List Int)
abbrev Tp15:=(List Bool)
abbrev Tp14:=(List Tp16)
abbrev Tp13:=(Bool×Int×Tp16)
abbrev Tp12:=(Int×Bool×Tp16)
abbrev Tp11:=(Int×Int×Int×Int×Unit)
abbrev Tp10:=(Tp16×Tp16×Unit)
abbrev Tc7:Ty:=(.pair (.list (.int .i64)) .unit)
abbrev Tp9:=(List Tp11)
abbrev Tc6:Ty:=(.pair (.list (.list (.int .i64))) .unit)
abbrev Tp8:=(Tp16×Tp16×Tp14×Unit)
abbrev Tp7:=(Tp16×Tp16×Tp16×Tp16×Unit)
abbrev Tc5:Ty:=(.pair (.list (.int .i64)) Tc7)
abbrev Tc4:Ty:=(.pair (.list (.int .i64)) Tc6)
abbrev Tp6:=(Tp7×Bool×Int)
abbrev Tp5:=(Int×Int×Tp9×Int×Tp16×Unit)
abbrev Tp4:=(Int×Int×Int×Tp9×Int×Tp16×Unit)
abbrev Tp3:=(Tp8×Tp16×Tp16×Unit)
abbrev Tc3:Ty:=(.pair (.list (.int .i64)) Tc5)
abbrev Tc2:Ty:=(.pair (.list (.int .i64)) Tc4)
abbrev Tp2:=(Tp16×Tp16×Tp14×Tp14×Tp16×Tp16×Tp15)
abbrev Tc1:Ty:=(.pair (.list (.int .i64)) Tc3)
abbrev Tp1:=(Tp15×Tp16×Tp16×Tp14×Tp14×Tp16×Tp16×Tp16×Tp15)
abbrev Tf1:=Int->Tp16->Tp16->Tp14->Tp14->Tp15->Tp16->Tp16->Tp16->Tp16->Option Tp1
abbrev Tf2:=Tp16->Tp16->Tp14->Tp14->Tp15->Tp16->Tp16->Tp16->Tp16->Option Tp1
abbrev Tf3:=Int->Tp16->Tp16->Tp14->Tp15->Tp14->Tp16->Tp16->Option Tp10
abbrev Tf4:=Int->Tp16->Tp16->Tp16->Tp16->Tp16->Tp16->Tp16->Option Tp6
abbrev Tf5:=Tp16->Tp16->Tp14->Tp14->Tp15->Tp16->Tp16->Option Tp2
abbrev Tf6:=Int->Tp16->Tp16->Tp14->Tp14->Tp16->Tp16->Option Tp10
abbrev Tf7:=Int->Tp16->Tp16->Tp14->Tp14->Tp16->Tp16->Option Tp2
abbrev Tf8:=Int->Int->Int->Bool->Bool->Tp16->Option Tp16
abbrev Tf9:=Tp5->Int->Tp16->Tp16->Tp14->Option Tp3
abbrev Tf10:=Int->Tp15->Tp16->Tp14->Option (Bool)
abbrev Tf11:=Tp14->Int->Tp15->Tp16->Option (Bool)
abbrev Tf12:=Int->Tp16->Tp16->Tp14->Option Tp3
abbrev Tf13:=Int->Int->Int->Tp16->Option Tp16
abbrev Tf14:=Int->Tp15->Tp16->Option (Bool)
abbrev Tf15:=Int->Tp16->Int->Option Tp16
abbrev Tf16:=Int->Int->Tp16->Option Tp16
abbrev Tf17:=Int->Int->Tp16->Option Tp12
def zpV (l:Tp16):Option Tp16:=
  G (fits ((l.length:Int)+(3:Int))) (
  G (mkOK (l.length:Int) ((l.length:Int)+(3:Int)) 8) (
  some (l.take (List.replicate ((l.length:Int)).toNat (0:Int)).length++(List.replicate ((l.length:Int)).toNat (0:Int)).drop l.length)))

def zqF (t:Tp5):Option Tp5:=
  G (room ([]:List Tp11) t.2.2.1 32) (
  (zpV t.2.2.2.2.1).bind (fun y'=>
  some (t.1,(t.2.1,(([]:List Tp11)++t.2.2.1,(t.2.2.2.1,(y',())))))))

def zfm (q:Int) (t:Tp5):Option (Bool):=
  if (decide (q < (0:Int)))=true then
  some true else
  some (decide (t.2.1<=q))

def zh1 (r:Tp11) (t:Tp5) (c:Tp5):Option (Bool×Int×Int×Tp9×Int×Tp16×Unit):=
  if (decide (r.1 < (0:Int)))=true then
  some (true,c) else
  if (decide (t.1<=r.1))=true then
  some (true,c) else
  (zfm r.2.1 c).bind (fun y'=>
  if y'=true then
  some (true,c) else
  (zfm r.2.2.1 c).bind (fun y'_1=>
  if y'_1=true then
  some (true,c) else
  (zfm r.2.2.2.1 c).bind (fun y'_2=>
  some (y'_2,c))))

def zc3 (s:Tp9) (r2:Tp5->Int->Tp5->Option Tp4) (f:Tp5) (t:Int) (l:Tp5):Option Tp4:=
  if (decide (t < (s.length:Int)))=true then
  G (0<=t/\t < (s.length:Int)) (
  (zh1 (ix s t) f l).bind (fun y'_3=>
  if y'_3.1=true then
  some (t,y'_3.2) else
  G (fits (t+(1:Int))) (
  r2 f (t+(1:Int)) y'_3.2))) else
  some ((-1:Int),l)
def zh9 (s:Tp9):(Tp5×Int×Int×Int×Tp9×Int×Tp16×Unit->Option Tp4)->Tp5×Int×Int×Int×Tp9×Int×Tp16×Unit->Option Tp4:=
  fun rec x=>zc3 s (fun f t l=>rec (f,t,l)) x.1 x.2.1 x.2.2
def zeO (s:Tp9) (f:Tp5) (t:Int) (l:Tp5):Option Tp4:=LFix (zh9 s ) (f,t,l)
def zit (s:Tp9) (c:Tp5) (c_1:Tp5):Option Tp4:=
  zeO s c (0:Int) c_1
theorem zky (r2:Nat->Tp5->Int->Tp5->Option Tp4) (r2':Tp5->Int->Tp5->Option Tp4) (h_r2:∀ a0 a1 a2,ChO (fun κ=>r2 κ a0 a1 a2) (r2' a0 a1 a2)) (s:Tp9) (f:Tp5) (t:Int) (l:Tp5):ChO (fun κ=>zc3 s (r2 κ) f t l) (zc3 s r2' f t l):=by
  unfold zc3
  repeat' with_reducible first | exact ChO.const _ | exact h_r2 _ _ _ | apply ChO.ite | apply ChO.G | apply ChO.both | (apply ChO.bind;intro _)
theorem zlt  (s:Tp9):Cn (zh9 s):=fun g h hg x=>zky  (fun κ f t l=>g κ (f,t,l)) (fun f t l=>h (f,t,l)) (fun f t l=>hg (f,t,l)) s x.1 x.2.1 x.2.2
theorem zlu  (s:Tp9) (f:Tp5) (t:Int) (l:Tp5):zeO s f t l=zc3 s (zeO s) f t l:=zaE (zlt s) (f,t,l)

def zeN (s:Tp9) (c:Tp5) (c_1:Tp5):Option (Bool×Int×Int×Tp9×Int×Tp16×Unit):=
  (zit s c c_1).bind (fun y'_3=>
  some (decide ((0:Int)<=y'_3.1),y'_3.2))

def zh2 (m:Int):Option (Bool):=
  if (decide (m < (0:Int)))=true then
  some true else
  some (decide ((9:Int) < m))

def zcr (s:Tp16) (r2:Int->Option (Int)) (t:Int):Option (Int):=
  if (decide (t < (s.length:Int)))=true then
  G (0<=t/\t < (s.length:Int)) (
  (zh2 (ix s t)).bind (fun y'=>
  if y'=true then
  some t else
  G (fits (t+(1:Int))) (
  r2 (t+(1:Int))))) else
  some (-1:Int)
def zhd (s:Tp16):(Int->Option (Int))->Int->Option (Int):=
  fun rec x=>zcr s (fun t=>rec t) x
def zfy (s:Tp16) (t:Int):Option (Int):=LFix (zhd s ) t
def zjN (s:Tp16):Option (Int):=
  zfy s (0:Int)
theorem zjr (r2:Nat->Int->Option (Int)) (r2':Int->Option (Int)) (h_r2:∀ a0,ChO (fun κ=>r2 κ a0) (r2' a0)) (s:Tp16) (t:Int):ChO (fun κ=>zcr s (r2 κ) t) (zcr s r2' t):=by
  unfold zcr
  repeat' with_reducible first | exact ChO.const _ | exact h_r2 _ | apply ChO.ite | apply ChO.G | apply ChO.both | (apply ChO.bind;intro _)
theorem zku  (s:Tp16):Cn (zhd s):=fun g h hg x=>zjr  (fun κ t=>g κ t) (fun t=>h t) (fun t=>hg t) s x
theorem zkv  (s:Tp16) (t:Int):zfy s t=zcr s (zfy s) t:=zaE (zku s) t

def zfx (s:Tp16):Option (Bool):=
  (zjN s).bind (fun y'=>
  some (decide ((0:Int)<=y')))

def ziY (x':Int):Option (Bool):=
  some (decide (¬ x'=x'))

def zgl (x':Int) (y':Int):Option (Int):=
  (ziY x').bind (fun y'_1=>
  (ziY y').bind (fun y'_2=>
  if y'_1=true then
  if y'_2=true then
  some (0:Int) else
  some (-1:Int) else
  if y'_2=true then
  some (1:Int) else
  if (decide (x' < y'))=true then
  some (-1:Int) else
  if (decide (y' < x'))=true then
  some (1:Int) else
  some (0:Int)))

def zdX (vals:Tp16) (r3:Int->Option (Int)) (t:Int):Option (Int):=
  if (decide (t < (vals.length:Int)))=true then
  G (0<=t/\t < (vals.length:Int)) (
  if (decide (¬ (ix vals t)=(0:Int)))=true then
  some (ix vals t) else
  G (fits (t+(1:Int))) (
  r3 (t+(1:Int)))) else
  some (0:Int)
def zqc (vals:Tp16):(Int->Option (Int))->Int->Option (Int):=
  fun rec x=>zdX vals (fun t=>rec t) x
def zqb (vals:Tp16) (t:Int):Option (Int):=LFix (zqc vals ) t
def zu3 (vals:Tp16):Option (Int):=
  zqb vals (0:Int)
theorem zrc (r3:Nat->Int->Option (Int)) (r3':Int->Option (Int)) (h_r3:∀ a0,ChO (fun κ=>r3 κ a0) (r3' a0)) (vals:Tp16) (t:Int):ChO (fun κ=>zdX vals (r3 κ) t) (zdX vals r3' t):=by
  unfold zdX
  repeat' with_reducible first | exact ChO.const _ | exact h_r3 _ | apply ChO.ite | apply ChO.G | apply ChO.both | (apply ChO.bind;intro _)
theorem zs8  (vals:Tp16):Cn (zqc vals):=fun g h hg x=>zrc  (fun κ t=>g κ t) (fun t=>h t) (fun t=>hg t) vals x
theorem zhT  (vals:Tp16) (t:Int):zqb vals t=zdX vals (zqb vals) t:=zaE (zs8 vals) t

def zmr (x':Tp11) (y':Tp11):Option (Int):=
  (zgl x'.1 y'.1).bind (fun y'_1=>
  (zgl x'.2.1 y'.2.1).bind (fun y'_2=>
  (zgl x'.2.2.1 y'.2.2.1).bind (fun y'_3=>
  (zgl x'.2.2.2.1 y'.2.2.2.1).bind (fun y'_4=>
  (zu3 ([y'_1,y'_2,y'_3,y'_4])).bind (fun y'_5=>
  some y'_5)))))

def zcY (a:Tp5) (r9:Int->Option (Int)) (t:Int):Option (Int):=
  if (decide (t < (a.2.2.1.length:Int)))=true then
  if (decide ((0:Int) < t))=true then
  G (fits (t - (1:Int))) (
  G (0<=t - (1:Int)/\t - (1:Int) < (a.2.2.1.length:Int)) (
  G (0<=t/\t < (a.2.2.1.length:Int)) (
  (zmr (ix a.2.2.1 (t - (1:Int))) (ix a.2.2.1 t)).bind (fun y'_5=>
  if (decide ((0:Int)<=y'_5))=true then
  some (3:Int) else
  G (fits (t+(1:Int))) (
  r9 (t+(1:Int))))))) else
  G (fits (t+(1:Int))) (
  r9 (t+(1:Int))) else
  some (0:Int)
def zlI (a:Tp5):(Int->Option (Int))->Int->Option (Int):=
  fun rec x=>zcY a (fun t=>rec t) x
def zkK (a:Tp5) (t:Int):Option (Int):=LFix (zlI a ) t
def ziU (a:Tp5):Option (Int):=
  if (decide (a.1 < (1:Int)))=true then
  some (2:Int) else
  if (decide ((4:Int) < a.1))=true then
  some (2:Int) else
  if (decide (a.2.1 < (1:Int)))=true then
  some (1:Int) else
  if (decide ((6:Int) < a.2.1))=true then
  some (1:Int) else
  if (decide ((60:Int) < (a.2.2.1.length:Int)))=true then
  some (1:Int) else
  if (decide (¬ (a.2.2.2.2.1.length:Int)=a.2.1))=true then
  some (1:Int) else
  (zeN a.2.2.1 (a.1,(a.2.1,(a.2.2.1,(a.2.2.2.1,(a.2.2.2.2.1,()))))) (a.1,(a.2.1,(a.2.2.1,(a.2.2.2.1,(a.2.2.2.2.1,())))))).bind (fun y'_6=>
  if y'_6.1=true then
  some (2:Int) else
  (zfm a.2.2.2.1 y'_6.2).bind (fun y'_3=>
  if y'_3=true then
  some (2:Int) else
  (zfx a.2.2.2.2.1).bind (fun y'_4=>
  if y'_4=true then
  some (2:Int) else
  zkK a (0:Int))))
theorem znE (r9:Nat->Int->Option (Int)) (r9':Int->Option (Int)) (h_r9:∀ a0,ChO (fun κ=>r9 κ a0) (r9' a0)) (a:Tp5) (t:Int):ChO (fun κ=>zcY a (r9 κ) t) (zcY a r9' t):=by
  unfold zcY
  repeat' with_reducible first | exact ChO.const _ | exact h_r9 _ | apply ChO.ite | apply ChO.G | apply ChO.both | (apply ChO.bind;intro _)
theorem zpD  (a:Tp5):Cn (zlI a):=fun g h hg x=>znE  (fun κ t=>g κ t) (fun t=>h t) (fun t=>hg t) a x
theorem zij  (a:Tp5) (t:Int):zkK a t=zcY a (zkK a) t:=zaE (zpD a) t

def ziE (x'_3:Int) (n_2:Int):Option (Int):=
  G (0<=IntKind.wrap .u8 x'_3/\IntKind.wrap .u8 x'_3 < (([0,1,2,2,3,3,3,3,4,4,4,4,4,4,4,4,5,5,5,5,5,5,5,5,5,5,5,5,5,5,5,5,6,6,6,6,6,6,6,6,6,6,6,6,6,6,6,6,6,6,6,6,6,6,6,6,6,6,6,6,6,6,6,6,7,7,7,7,7,7,7,7,7,7,7,7,7,7,7,7,7,7,7,7,7,7,7,7,7,7,7,7,7,7,7,7,7,7,7,7,7,7,7,7,7,7,7,7,7,7,7,7,7,7,7,7,7,7,7,7,7,7,7,7,7,7,7,7,8,8,8,8,8,8,8,8,8,8,8,8,8,8,8,8,8,8,8,8,8,8,8,8,8,8,8,8,8,8,8,8,8,8,8,8,8,8,8,8,8,8,8,8,8,8,8,8,8,8,8,8,8,8,8,8,8,8,8,8,8,8,8,8,8,8,8,8,8,8,8,8,8,8,8,8,8,8,8,8,8,8,8,8,8,8,8,8,8,8,8,8,8,8,8,8,8,8,8,8,8,8,8,8,8,8,8,8,8,8,8,8,8,8,8,8,8,8,8,8,8,8,8,8,8,8,8,8]).length:Int)) (
  G (fits (n_2+(IntKind.wrap .i64 (bAt ([0,1,2,2,3,3,3,3,4,4,4,4,4,4,4,4,5,5,5,5,5,5,5,5,5,5,5,5,5,5,5,5,6,6,6,6,6,6,6,6,6,6,6,6,6,6,6,6,6,6,6,6,6,6,6,6,6,6,6,6,6,6,6,6,7,7,7,7,7,7,7,7,7,7,7,7,7,7,7,7,7,7,7,7,7,7,7,7,7,7,7,7,7,7,7,7,7,7,7,7,7,7,7,7,7,7,7,7,7,7,7,7,7,7,7,7,7,7,7,7,7,7,7,7,7,7,7,7,8,8,8,8,8,8,8,8,8,8,8,8,8,8,8,8,8,8,8,8,8,8,8,8,8,8,8,8,8,8,8,8,8,8,8,8,8,8,8,8,8,8,8,8,8,8,8,8,8,8,8,8,8,8,8,8,8,8,8,8,8,8,8,8,8,8,8,8,8,8,8,8,8,8,8,8,8,8,8,8,8,8,8,8,8,8,8,8,8,8,8,8,8,8,8,8,8,8,8,8,8,8,8,8,8,8,8,8,8,8,8,8,8,8,8,8,8,8,8,8,8,8,8,8,8,8,8,8]) (IntKind.wrap .u8 x'_3))))) (
  some (n_2+(IntKind.wrap .i64 (bAt ([0,1,2,2,3,3,3,3,4,4,4,4,4,4,4,4,5,5,5,5,5,5,5,5,5,5,5,5,5,5,5,5,6,6,6,6,6,6,6,6,6,6,6,6,6,6,6,6,6,6,6,6,6,6,6,6,6,6,6,6,6,6,6,6,7,7,7,7,7,7,7,7,7,7,7,7,7,7,7,7,7,7,7,7,7,7,7,7,7,7,7,7,7,7,7,7,7,7,7,7,7,7,7,7,7,7,7,7,7,7,7,7,7,7,7,7,7,7,7,7,7,7,7,7,7,7,7,7,8,8,8,8,8,8,8,8,8,8,8,8,8,8,8,8,8,8,8,8,8,8,8,8,8,8,8,8,8,8,8,8,8,8,8,8,8,8,8,8,8,8,8,8,8,8,8,8,8,8,8,8,8,8,8,8,8,8,8,8,8,8,8,8,8,8,8,8,8,8,8,8,8,8,8,8,8,8,8,8,8,8,8,8,8,8,8,8,8,8,8,8,8,8,8,8,8,8,8,8,8,8,8,8,8,8,8,8,8,8,8,8,8,8,8,8,8,8,8,8,8,8,8,8,8,8,8,8]) (IntKind.wrap .u8 x'_3))))))
def ziD (x'_2:Int) (n_1:Int):Option (Int):=
  if (decide ((256:Int)<=x'_2))=true then
  G (0<=(8:Int)) (
  G (fits (n_1+(8:Int))) (
  ziE (ishr .u64 x'_2 (8:Int)) (n_1+(8:Int)))) else
  ziE x'_2 n_1
def ziC (x'_1:Int) (n:Int):Option (Int):=
  if (decide ((65536:Int)<=x'_1))=true then
  G (0<=(16:Int)) (
  G (fits (n+(16:Int))) (
  ziD (ishr .u64 x'_1 (16:Int)) (n+(16:Int)))) else
  ziD x'_1 n
def zop (x':Int):Option (Int):=
  if (decide ((4294967296:Int)<=x'))=true then
  G (0<=(32:Int)) (
  ziC (ishr .u64 x' (32:Int)) (32:Int)) else
  ziC x' (0:Int)

def zni (x':Int):Option (Int):=
  (zop x').bind (fun y'=>
  some y')

def zdM (x':Int) (y':Int):Option (Bool):=
  (ziY x').bind (fun y'_1=>
  if y'_1=true then
  (ziY y').bind (fun y'_2=>
  if (!y'_2)=true then
  some true else
  some (decide (x' < y'))) else
  some (decide (x' < y')))

def zaK (a:Int) (i:Int) (r1:(Int->Tp16->Option Tp16)) (r4:Int->Tp16->Option Tp16) (j:Int) (data_2:Tp16):Option Tp16:=
  if (decide (a < j))=true then
  G (0<=j/\j < (data_2.length:Int)) (
  G ((j).toNat < data_2.length) (
  G (fits (j - (1:Int))) (
  G (0<=j - (1:Int)/\j - (1:Int) < (data_2.length:Int)) (
  G ((j - (1:Int)).toNat < data_2.length) (
  (zdM (ix data_2 j) (ix data_2 (j - (1:Int)))).bind (fun y'=>
  if y'=true then
  G (fits (j - (1:Int))) (
  G (fits (j - (1:Int))) (
  G (0<=j - (1:Int)/\j - (1:Int) < (data_2.length:Int)) (
  G ((j - (1:Int)).toNat < data_2.length) (
  G (0<=j/\j < (data_2.length:Int)) (
  G ((j).toNat < data_2.length) (
  G (0<=j/\j < (data_2.length:Int)) (
  G ((j).toNat < data_2.length) (
  G (0<=j - (1:Int)/\j - (1:Int) < ((data_2.set (j).toNat (ix data_2 (j - (1:Int)))).length:Int)) (
  G ((j - (1:Int)).toNat < (data_2.set (j).toNat (ix data_2 (j - (1:Int)))).length) (
  G (fits (j - (1:Int))) (
  r4 (j - (1:Int)) ((data_2.set (j).toNat (ix data_2 (j - (1:Int)))).set (j - (1:Int)).toNat (ix data_2 j))))))))))))) else
  G (fits (i+(1:Int))) (
  r1 (i+(1:Int)) data_2))))))) else
  G (fits (i+(1:Int))) (
  r1 (i+(1:Int)) data_2)
def zd6 (a:Int) (i:Int) (r1:(Int->Tp16->Option Tp16)):(Int×Tp16->Option Tp16)->Int×Tp16->Option Tp16:=
  fun rec x=>zaK a i r1 (fun j data_2=>rec (j,data_2)) x.1 x.2
def zaV (a:Int) (i:Int) (r1:(Int->Tp16->Option Tp16)) (j:Int) (data_2:Tp16):Option Tp16:=LFix (zd6 a i r1 ) (j,data_2)
def zaJ (a:Int) (b:Int) (r1:Int->Tp16->Option Tp16) (i:Int) (data_1:Tp16):Option Tp16:=
  if (decide (i < b))=true then
  zaV a i r1 i data_1 else
  some data_1
def zd5 (a:Int) (b:Int):(Int×Tp16->Option Tp16)->Int×Tp16->Option Tp16:=
  fun rec x=>zaJ a b (fun i data_1=>rec (i,data_1)) x.1 x.2
def zb4 (a:Int) (b:Int) (i:Int) (data_1:Tp16):Option Tp16:=LFix (zd5 a b ) (i,data_1)
def zcu (a:Int) (b:Int) (data:Tp16):Option Tp16:=
  G (fits (a+(1:Int))) (
  zb4 a b (a+(1:Int)) data)
theorem zdD (r1:Nat->Int->Tp16->Option Tp16) (r1':Int->Tp16->Option Tp16) (h_r1:∀ a0 a1,ChO (fun κ=>r1 κ a0 a1) (r1' a0 a1)) (r4:Nat->Int->Tp16->Option Tp16) (r4':Int->Tp16->Option Tp16) (h_r4:∀ a0 a1,ChO (fun κ=>r4 κ a0 a1) (r4' a0 a1)) (a:Int) (i:Int) (j:Int) (data_2:Tp16):ChO (fun κ=>zaK a i (r1 κ) (r4 κ) j data_2) (zaK a i r1' r4' j data_2):=by
  unfold zaK
  repeat' with_reducible first | exact ChO.const _ | exact h_r1 _ _ | exact h_r4 _ _ | apply ChO.ite | apply ChO.G | apply ChO.both | (apply ChO.bind;intro _)
theorem zcv (r1:Int->Tp16->Option Tp16) (a:Int) (i:Int):Cn (zd6 a i r1):=fun g h hg x=>zdD (fun _=>r1) r1 (fun _ _=>ChO.const _) (fun κ j data_2=>g κ (j,data_2)) (fun j data_2=>h (j,data_2)) (fun j data_2=>hg (j,data_2)) a i x.1 x.2
theorem zdR (r1:Int->Tp16->Option Tp16) (a:Int) (i:Int) (j:Int) (data_2:Tp16):zaV a i r1 j data_2=zaK a i r1 (zaV a i r1) j data_2:=zaE (zcv r1 a i) (j,data_2)
theorem zhj (r1:Nat->Int->Tp16->Option Tp16) (r1':Int->Tp16->Option Tp16) (h_r1:∀ a0 a1,ChO (fun κ=>r1 κ a0 a1) (r1' a0 a1)) (a:Int) (i:Int) (j:Int) (data_2:Tp16):ChO (fun κ=>zaV a i (r1 κ) j data_2) (zaV a i r1' j data_2):=by
  unfold zaV
  exact zdV (fun κ=>(zcv (r1 κ) a i).mono) (zcv r1' a i).mono (fun g h hg x=>zdD r1 r1' h_r1 (fun κ j data_2=>g κ (j,data_2)) (fun j data_2=>h (j,data_2)) (fun j data_2=>hg (j,data_2)) a i x.1 x.2) _
theorem zgq (r1:Nat->Int->Tp16->Option Tp16) (r1':Int->Tp16->Option Tp16) (h_r1:∀ a0 a1,ChO (fun κ=>r1 κ a0 a1) (r1' a0 a1)) (a:Int) (b:Int) (i:Int) (data_1:Tp16):ChO (fun κ=>zaJ a b (r1 κ) i data_1) (zaJ a b r1' i data_1):=by
  unfold zaJ
  repeat' with_reducible first | exact ChO.const _ | exact h_r1 _ _ | (apply zhj<;>assumption) | apply ChO.ite | apply ChO.G | apply ChO.both | (apply ChO.bind;intro _)
theorem zhi  (a:Int) (b:Int):Cn (zd5 a b):=fun g h hg x=>zgq  (fun κ i data_1=>g κ (i,data_1)) (fun i data_1=>h (i,data_1)) (fun i data_1=>hg (i,data_1)) a b x.1 x.2
theorem zdQ  (a:Int) (b:Int) (i:Int) (data_1:Tp16):zb4 a b i data_1=zaJ a b (zb4 a b) i data_1:=zaE (zhi a b) (i,data_1)

def zbt (first:Int) (root:Int) (data_1:Tp16) (r1:(Int->Tp16->Option Tp16)) (child:Int):Option Tp16:=
  G (fits (first+root)) (
  G (0<=first+root/\first+root < (data_1.length:Int)) (
  G ((first+root).toNat < data_1.length) (
  G (fits (first+child)) (
  G (0<=first+child/\first+child < (data_1.length:Int)) (
  G ((first+child).toNat < data_1.length) (
  (zdM (ix data_1 (first+root)) (ix data_1 (first+child))).bind (fun y'_1=>
  if (!y'_1)=true then
  some data_1 else
  G (fits (first+root)) (
  G (fits (first+child)) (
  G (fits (first+child)) (
  G (0<=first+child/\first+child < (data_1.length:Int)) (
  G ((first+child).toNat < data_1.length) (
  G (fits (first+root)) (
  G (0<=first+root/\first+root < (data_1.length:Int)) (
  G ((first+root).toNat < data_1.length) (
  G (0<=first+root/\first+root < (data_1.length:Int)) (
  G ((first+root).toNat < data_1.length) (
  G (0<=first+child/\first+child < ((data_1.set (first+root).toNat (ix data_1 (first+child))).length:Int)) (
  G ((first+child).toNat < (data_1.set (first+root).toNat (ix data_1 (first+child))).length) (
  r1 child ((data_1.set (first+root).toNat (ix data_1 (first+child))).set (first+child).toNat (ix data_1 (first+root))))))))))))))))))))))
def zbs (first:Int) (root:Int) (data_1:Tp16) (r1:(Int->Tp16->Option Tp16)) (t:Bool):Option Tp16:=
  if t=true then
  G (fits ((((2:Int) * root)+(1:Int))+(1:Int))) (
  zbt first root data_1 r1 ((((2:Int) * root)+(1:Int))+(1:Int))) else
  zbt first root data_1 r1 (((2:Int) * root)+(1:Int))
def zbg (hi:Int) (first:Int) (r1:Int->Tp16->Option Tp16) (root:Int) (data_1:Tp16):Option Tp16:=
  G (fits ((2:Int) * root)) (
  G (fits (((2:Int) * root)+(1:Int))) (
  if (decide (hi<=(((2:Int) * root)+(1:Int))))=true then
  some data_1 else
  G (fits ((((2:Int) * root)+(1:Int))+(1:Int))) (
  if (decide (((((2:Int) * root)+(1:Int))+(1:Int)) < hi))=true then
  G (fits (first+(((2:Int) * root)+(1:Int)))) (
  G (0<=first+(((2:Int) * root)+(1:Int))/\first+(((2:Int) * root)+(1:Int)) < (data_1.length:Int)) (
  G ((first+(((2:Int) * root)+(1:Int))).toNat < data_1.length) (
  G (fits (first+(((2:Int) * root)+(1:Int)))) (
  G (fits ((first+(((2:Int) * root)+(1:Int)))+(1:Int))) (
  G (0<=(first+(((2:Int) * root)+(1:Int)))+(1:Int)/\(first+(((2:Int) * root)+(1:Int)))+(1:Int) < (data_1.length:Int)) (
  G (((first+(((2:Int) * root)+(1:Int)))+(1:Int)).toNat < data_1.length) (
  (zdM (ix data_1 (first+(((2:Int) * root)+(1:Int)))) (ix data_1 ((first+(((2:Int) * root)+(1:Int)))+(1:Int)))).bind (fun y'=>
  zbs first root data_1 r1 y')))))))) else
  zbs first root data_1 r1 false)))
def zfF (hi:Int) (first:Int):(Int×Tp16->Option Tp16)->Int×Tp16->Option Tp16:=
  fun rec x=>zbg hi first (fun root data_1=>rec (root,data_1)) x.1 x.2
def zbN (hi:Int) (first:Int) (root:Int) (data_1:Tp16):Option Tp16:=LFix (zfF hi first ) (root,data_1)
def zcJ (lo:Int) (hi:Int) (first:Int) (data:Tp16):Option Tp16:=
  zbN hi first lo data
theorem zfb (r1:Nat->Int->Tp16->Option Tp16) (r1':Int->Tp16->Option Tp16) (h_r1:∀ a0 a1,ChO (fun κ=>r1 κ a0 a1) (r1' a0 a1)) (first:Int) (root:Int) (data_1:Tp16) (child:Int):ChO (fun κ=>zbt first root data_1 (r1 κ) child) (zbt first root data_1 r1' child):=by
  unfold zbt
  repeat' with_reducible first | exact ChO.const _ | exact h_r1 _ _ | apply ChO.ite | apply ChO.G | apply ChO.both | (apply ChO.bind;intro _)
theorem ziO (r1:Nat->Int->Tp16->Option Tp16) (r1':Int->Tp16->Option Tp16) (h_r1:∀ a0 a1,ChO (fun κ=>r1 κ a0 a1) (r1' a0 a1)) (first:Int) (root:Int) (data_1:Tp16) (t:Bool):ChO (fun κ=>zbs first root data_1 (r1 κ) t) (zbs first root data_1 r1' t):=by
  unfold zbs
  repeat' with_reducible first | exact ChO.const _ | exact h_r1 _ _ | (apply zfb<;>assumption) | apply ChO.ite | apply ChO.G | apply ChO.both | (apply ChO.bind;intro _)
theorem zie (r1:Nat->Int->Tp16->Option Tp16) (r1':Int->Tp16->Option Tp16) (h_r1:∀ a0 a1,ChO (fun κ=>r1 κ a0 a1) (r1' a0 a1)) (hi:Int) (first:Int) (root:Int) (data_1:Tp16):ChO (fun κ=>zbg hi first (r1 κ) root data_1) (zbg hi first r1' root data_1):=by
  unfold zbg
  repeat' with_reducible first | exact ChO.const _ | exact h_r1 _ _ | (apply zfb<;>assumption) | (apply ziO<;>assumption) | apply ChO.ite | apply ChO.G | apply ChO.both | (apply ChO.bind;intro _)
theorem ziP  (hi:Int) (first:Int):Cn (zfF hi first):=fun g h hg x=>zie  (fun κ root data_1=>g κ (root,data_1)) (fun root data_1=>h (root,data_1)) (fun root data_1=>hg (root,data_1)) hi first x.1 x.2
theorem zfc  (hi:Int) (first:Int) (root:Int) (data_1:Tp16):zbN hi first root data_1=zbg hi first (zbN hi first) root data_1:=zaE (ziP hi first) (root,data_1)

def zbb (a:Int) (r8:Int->Tp16->Option Tp16) (i_1:Int) (data_2:Tp16):Option Tp16:=
  if (decide ((0:Int)<=i_1))=true then
  G (fits (a+i_1)) (
  G (fits (a+i_1)) (
  G (0<=a+i_1/\a+i_1 < (data_2.length:Int)) (
  G ((a+i_1).toNat < data_2.length) (
  G (0<=a/\a < (data_2.length:Int)) (
  G ((a).toNat < data_2.length) (
  G (0<=a/\a < (data_2.length:Int)) (
  G ((a).toNat < data_2.length) (
  G (0<=a+i_1/\a+i_1 < ((data_2.set (a).toNat (ix data_2 (a+i_1))).length:Int)) (
  G ((a+i_1).toNat < (data_2.set (a).toNat (ix data_2 (a+i_1))).length) (
  (zcJ (0:Int) i_1 a ((data_2.set (a).toNat (ix data_2 (a+i_1))).set (a+i_1).toNat (ix data_2 a))).bind (fun y'_1=>
  G (fits (i_1 - (1:Int))) (
  r8 (i_1 - (1:Int)) y'_1)))))))))))) else
  some data_2
def zfB (a:Int):(Int×Tp16->Option Tp16)->Int×Tp16->Option Tp16:=
  fun rec x=>zbb a (fun i_1 data_2=>rec (i_1,data_2)) x.1 x.2
def zcV (a:Int) (i_1:Int) (data_2:Tp16):Option Tp16:=LFix (zfB a ) (i_1,data_2)
def zba (a:Int) (b:Int) (r4:Int->Tp16->Option Tp16) (i:Int) (data_1:Tp16):Option Tp16:=
  if (decide ((0:Int)<=i))=true then
  (zcJ i (b - a) a data_1).bind (fun y'=>
  G (fits (i - (1:Int))) (
  r4 (i - (1:Int)) y')) else
  G (fits ((b - a) - (1:Int))) (
  zcV a ((b - a) - (1:Int)) data_1)
def zfA (a:Int) (b:Int):(Int×Tp16->Option Tp16)->Int×Tp16->Option Tp16:=
  fun rec x=>zba a b (fun i data_1=>rec (i,data_1)) x.1 x.2
def zcU (a:Int) (b:Int) (i:Int) (data_1:Tp16):Option Tp16:=LFix (zfA a b ) (i,data_1)
def zdG (a:Int) (b:Int) (data:Tp16):Option Tp16:=
  G (fits (b - a)) (
  G (fits ((b - a) - (1:Int))) (
  G ((2:Int)≠0) (
  G (fits (Int.tdiv ((b - a) - (1:Int)) (2:Int))) (
  zcU a b (Int.tdiv ((b - a) - (1:Int)) (2:Int)) data))))
theorem zic (r8:Nat->Int->Tp16->Option Tp16) (r8':Int->Tp16->Option Tp16) (h_r8:∀ a0 a1,ChO (fun κ=>r8 κ a0 a1) (r8' a0 a1)) (a:Int) (i_1:Int) (data_2:Tp16):ChO (fun κ=>zbb a (r8 κ) i_1 data_2) (zbb a r8' i_1 data_2):=by
  unfold zbb
  repeat' with_reducible first | exact ChO.const _ | exact h_r8 _ _ | apply ChO.ite | apply ChO.G | apply ChO.both | (apply ChO.bind;intro _)
theorem ziN  (a:Int):Cn (zfB a):=fun g h hg x=>zic  (fun κ i_1 data_2=>g κ (i_1,data_2)) (fun i_1 data_2=>h (i_1,data_2)) (fun i_1 data_2=>hg (i_1,data_2)) a x.1 x.2
theorem ze8  (a:Int) (i_1:Int) (data_2:Tp16):zcV a i_1 data_2=zbb a (zcV a) i_1 data_2:=zaE (ziN a) (i_1,data_2)
theorem zib (r4:Nat->Int->Tp16->Option Tp16) (r4':Int->Tp16->Option Tp16) (h_r4:∀ a0 a1,ChO (fun κ=>r4 κ a0 a1) (r4' a0 a1)) (a:Int) (b:Int) (i:Int) (data_1:Tp16):ChO (fun κ=>zba a b (r4 κ) i data_1) (zba a b r4' i data_1):=by
  unfold zba
  repeat' with_reducible first | exact ChO.const _ | exact h_r4 _ _ | apply ChO.ite | apply ChO.G | apply ChO.both | (apply ChO.bind;intro _)
theorem ziM  (a:Int) (b:Int):Cn (zfA a b):=fun g h hg x=>zib  (fun κ i data_1=>g κ (i,data_1)) (fun i data_1=>h (i,data_1)) (fun i data_1=>hg (i,data_1)) a b x.1 x.2
theorem ze7  (a:Int) (b:Int) (i:Int) (data_1:Tp16):zcU a b i data_1=zba a b (zcU a b) i data_1:=zaE (ziM a b) (i,data_1)

def zdS (length:Int):Option (Int):=
  (zni (IntKind.wrap .u64 length)).bind (fun y'=>
  G (0<=y') (
  some (ishl .u64 (1:Int) y')))

def zfY (c:Int):Option (Int×Int):=
  G (0<=(13:Int)) (
  G (0<=(7:Int)) (
  G (0<=(17:Int)) (
  some (ixor .u64 (ixor .u64 (ixor .u64 c (ishl .u64 c (13:Int))) (ishr .u64 (ixor .u64 c (ishl .u64 c (13:Int))) (7:Int))) (ishl .u64 (ixor .u64 (ixor .u64 c (ishl .u64 c (13:Int))) (ishr .u64 (ixor .u64 c (ishl .u64 c (13:Int))) (7:Int))) (17:Int)),ixor .u64 (ixor .u64 (ixor .u64 c (ishl .u64 c (13:Int))) (ishr .u64 (ixor .u64 c (ishl .u64 c (13:Int))) (7:Int))) (ishl .u64 (ixor .u64 (ixor .u64 c (ishl .u64 c (13:Int))) (ishr .u64 (ixor .u64 c (ishl .u64 c (13:Int))) (7:Int))) (17:Int))))))

def zaU (a:Int) (idx:Int) (data_1:Tp16) (r5:(Int->Tp16->Int->Option Tp16)) (y'_2:Int) (other:Int):Option Tp16:=
  G (fits (a+other)) (
  G (fits (a+other)) (
  G (0<=a+other/\a+other < (data_1.length:Int)) (
  G ((a+other).toNat < data_1.length) (
  G (0<=idx/\idx < (data_1.length:Int)) (
  G ((idx).toNat < data_1.length) (
  G (0<=idx/\idx < (data_1.length:Int)) (
  G ((idx).toNat < data_1.length) (
  G (0<=a+other/\a+other < ((data_1.set (idx).toNat (ix data_1 (a+other))).length:Int)) (
  G ((a+other).toNat < (data_1.set (idx).toNat (ix data_1 (a+other))).length) (
  G (fits (idx+(1:Int))) (
  r5 (idx+(1:Int)) ((data_1.set (idx).toNat (ix data_1 (a+other))).set (a+other).toNat (ix data_1 idx)) y'_2)))))))))))
def zaI (a:Int) (b:Int) (y':Int) (r5:Tf15) (idx:Int) (data_1:Tp16) (random:Int):Option Tp16:=
  G ((4:Int)≠0) (
  G (fits (Int.tdiv (b - a) (4:Int))) (
  G (fits ((Int.tdiv (b - a) (4:Int)) * (2:Int))) (
  G (fits (a+((Int.tdiv (b - a) (4:Int)) * (2:Int)))) (
  G (fits ((a+((Int.tdiv (b - a) (4:Int)) * (2:Int)))+(1:Int))) (
  if (decide (idx<=((a+((Int.tdiv (b - a) (4:Int)) * (2:Int)))+(1:Int))))=true then
  (zfY random).bind (fun y'_4=>
  if (decide ((b - a)<=(IntKind.wrap .i64 (iand .u64 y'_4.1 (IntKind.wrap .u64 (y' - (1:Int)))))))=true then
  G (fits ((IntKind.wrap .i64 (iand .u64 y'_4.1 (IntKind.wrap .u64 (y' - (1:Int))))) - (b - a))) (
  zaU a idx data_1 r5 y'_4.2 ((IntKind.wrap .i64 (iand .u64 y'_4.1 (IntKind.wrap .u64 (y' - (1:Int))))) - (b - a))) else
  zaU a idx data_1 r5 y'_4.2 (IntKind.wrap .i64 (iand .u64 y'_4.1 (IntKind.wrap .u64 (y' - (1:Int)))))) else
  some data_1)))))
def zd4 (a:Int) (b:Int) (y':Int):(Int×Tp16×Int->Option Tp16)->Int×Tp16×Int->Option Tp16:=
  fun rec x=>zaI a b y' (fun idx data_1 random=>rec (idx,data_1,random)) x.1 x.2.1 x.2.2
def zbC (a:Int) (b:Int) (y':Int) (idx:Int) (data_1:Tp16) (random:Int):Option Tp16:=LFix (zd4 a b y' ) (idx,data_1,random)
def zct (a:Int) (b:Int) (data:Tp16):Option Tp16:=
  G (fits (b - a)) (
  if (decide ((8:Int)<=(b - a)))=true then
  (zdS (b - a)).bind (fun y'=>
  G ((4:Int)≠0) (
  G (fits (Int.tdiv (b - a) (4:Int))) (
  G (fits ((Int.tdiv (b - a) (4:Int)) * (2:Int))) (
  G (fits (a+((Int.tdiv (b - a) (4:Int)) * (2:Int)))) (
  G (fits ((a+((Int.tdiv (b - a) (4:Int)) * (2:Int))) - (1:Int))) (
  zbC a b y' ((a+((Int.tdiv (b - a) (4:Int)) * (2:Int))) - (1:Int)) data (IntKind.wrap .u64 (b - a)))))))) else
  some data)
theorem zhg (r5:Nat->Tf15) (r5':Tf15) (h_r5:∀ a0 a1 a2,ChO (fun κ=>r5 κ a0 a1 a2) (r5' a0 a1 a2)) (a:Int) (idx:Int) (data_1:Tp16) (y'_2:Int) (other:Int):ChO (fun κ=>zaU a idx data_1 (r5 κ) y'_2 other) (zaU a idx data_1 r5' y'_2 other):=by
  unfold zaU
  repeat' with_reducible first | exact ChO.const _ | exact h_r5 _ _ _ | apply ChO.ite | apply ChO.G | apply ChO.both | (apply ChO.bind;intro _)
theorem zgp (r5:Nat->Tf15) (r5':Tf15) (h_r5:∀ a0 a1 a2,ChO (fun κ=>r5 κ a0 a1 a2) (r5' a0 a1 a2)) (a:Int) (b:Int) (y':Int) (idx:Int) (data_1:Tp16) (random:Int):ChO (fun κ=>zaI a b y' (r5 κ) idx data_1 random) (zaI a b y' r5' idx data_1 random):=by
  unfold zaI
  repeat' with_reducible first | exact ChO.const _ | exact h_r5 _ _ _ | (apply zhg<;>assumption) | apply ChO.ite | apply ChO.G | apply ChO.both | (apply ChO.bind;intro _)
theorem zhh  (a:Int) (b:Int) (y':Int):Cn (zd4 a b y'):=fun g h hg x=>zgp  (fun κ idx data_1 random=>g κ (idx,data_1,random)) (fun idx data_1 random=>h (idx,data_1,random)) (fun idx data_1 random=>hg (idx,data_1,random)) a b y' x.1 x.2.1 x.2.2
theorem zdP  (a:Int) (b:Int) (y':Int) (idx:Int) (data_1:Tp16) (random:Int):zbC a b y' idx data_1 random=zaI a b y' (zbC a b y') idx data_1 random:=zaE (zhh a b y') (idx,data_1,random)

def zcy (data:Tp16) (a:Int) (b:Int) (c:Int):Option (Int×Int×Int):=
  G (0<=b/\b < (data.length:Int)) (
  G (0<=a/\a < (data.length:Int)) (
  (zdM (ix data b) (ix data a)).bind (fun y'=>
  if y'=true then
  G (fits (c+(1:Int))) (
  some (b,a,c+(1:Int))) else
  some (a,b,c))))

def zdi (data:Tp16) (a:Int) (b:Int) (c:Int) (c_1:Int):Option (Int×Int):=
  (zcy data a b c_1).bind (fun y'_14=>
  (zcy data y'_14.2.1 c y'_14.2.2).bind (fun y'_13=>
  (zcy data y'_14.1 y'_13.1 y'_13.2.2).bind (fun y'_12=>
  some (y'_12.2.1,y'_12.2.2))))

def zbu (data:Tp16) (a:Int) (c:Int):Option (Int×Int):=
  G (fits (a - (1:Int))) (
  G (fits (a+(1:Int))) (
  (zdi data (a - (1:Int)) a (a+(1:Int)) c).bind (fun y'_3=>
  some (y'_3.1,y'_3.2))))

def zb8 (j_1:Int) (swaps_1:Int):Option (Int×Int):=
  if (decide (swaps_1=(0:Int)))=true then
  some (j_1,(1:Int)) else
  if (decide (swaps_1=(12:Int)))=true then
  some (j_1,(2:Int)) else
  some (j_1,(0:Int))
def zb7 (data:Tp16) (i:Int) (j:Int) (k:Int) (swaps:Int):Option (Int×Int):=
  (zdi data i j k swaps).bind (fun y'_12=>
  zb8 y'_12.1 y'_12.2)
def zcT (data:Tp16) (a:Int) (b:Int):Option (Int×Int):=
  G (fits (b - a)) (
  G ((4:Int)≠0) (
  G (fits (Int.tdiv (b - a) (4:Int))) (
  G (fits ((Int.tdiv (b - a) (4:Int)) * (1:Int))) (
  G (fits (a+((Int.tdiv (b - a) (4:Int)) * (1:Int)))) (
  G ((4:Int)≠0) (
  G (fits (Int.tdiv (b - a) (4:Int))) (
  G (fits ((Int.tdiv (b - a) (4:Int)) * (2:Int))) (
  G (fits (a+((Int.tdiv (b - a) (4:Int)) * (2:Int)))) (
  G ((4:Int)≠0) (
  G (fits (Int.tdiv (b - a) (4:Int))) (
  G (fits ((Int.tdiv (b - a) (4:Int)) * (3:Int))) (
  G (fits (a+((Int.tdiv (b - a) (4:Int)) * (3:Int)))) (
  if (decide ((8:Int)<=(b - a)))=true then
  if (decide ((50:Int)<=(b - a)))=true then
  (zbu data (a+((Int.tdiv (b - a) (4:Int)) * (1:Int))) (0:Int)).bind (fun y'_15=>
  (zbu data (a+((Int.tdiv (b - a) (4:Int)) * (2:Int))) y'_15.2).bind (fun y'_14=>
  (zbu data (a+((Int.tdiv (b - a) (4:Int)) * (3:Int))) y'_14.2).bind (fun y'_13=>
  zb7 data y'_15.1 y'_14.1 y'_13.1 y'_13.2))) else
  zb7 data (a+((Int.tdiv (b - a) (4:Int)) * (1:Int))) (a+((Int.tdiv (b - a) (4:Int)) * (2:Int))) (a+((Int.tdiv (b - a) (4:Int)) * (3:Int))) (0:Int) else
  zb8 (a+((Int.tdiv (b - a) (4:Int)) * (2:Int))) (0:Int))))))))))))))

def zaQ  (r2:Tf16) (i:Int) (j:Int) (data_1:Tp16):Option Tp16:=
  if (decide (i < j))=true then
  G (0<=j/\j < (data_1.length:Int)) (
  G ((j).toNat < data_1.length) (
  G (0<=i/\i < (data_1.length:Int)) (
  G ((i).toNat < data_1.length) (
  G (0<=i/\i < (data_1.length:Int)) (
  G ((i).toNat < data_1.length) (
  G (0<=j/\j < ((data_1.set (i).toNat (ix data_1 j)).length:Int)) (
  G ((j).toNat < (data_1.set (i).toNat (ix data_1 j)).length) (
  G (fits (i+(1:Int))) (
  G (fits (j - (1:Int))) (
  r2 (i+(1:Int)) (j - (1:Int)) ((data_1.set (i).toNat (ix data_1 j)).set (j).toNat (ix data_1 i)))))))))))) else
  some data_1
def zet:(Int×Int×Tp16->Option Tp16)->Int×Int×Tp16->Option Tp16:=
  fun rec x=>zaQ (fun i j data_1=>rec (i,j,data_1)) x.1 x.2.1 x.2.2
def zb9  (i:Int) (j:Int) (data_1:Tp16):Option Tp16:=LFix (zet ) (i,j,data_1)
def zcG (a:Int) (b:Int) (data:Tp16):Option Tp16:=
  G (fits (b - (1:Int))) (
  zb9 a (b - (1:Int)) data)
theorem zgP (r2:Nat->Tf16) (r2':Tf16) (h_r2:∀ a0 a1 a2,ChO (fun κ=>r2 κ a0 a1 a2) (r2' a0 a1 a2)) (i:Int) (j:Int) (data_1:Tp16):ChO (fun κ=>zaQ (r2 κ) i j data_1) (zaQ r2' i j data_1):=by
  unfold zaQ
  repeat' with_reducible first | exact ChO.const _ | exact h_r2 _ _ _ | apply ChO.ite | apply ChO.G | apply ChO.both | (apply ChO.bind;intro _)
theorem zhp:Cn (zet):=fun g h hg x=>zgP  (fun κ i j data_1=>g κ (i,j,data_1)) (fun i j data_1=>h (i,j,data_1)) (fun i j data_1=>hg (i,j,data_1))  x.1 x.2.1 x.2.2
theorem zed   (i:Int) (j:Int) (data_1:Tp16):zb9 i j data_1=zaQ (zb9) i j data_1:=zaE (zhp ) (i,j,data_1)

def zas (b:Int) (j:Int) (r3:(Int->Int->Tp16->Option (Bool×Tp16))) (i_2:Int) (r20:Int->Tp16->Option (Bool×Tp16)) (j_2:Int) (data_4:Tp16):Option (Bool×Tp16):=
  if (decide (j_2 < b))=true then
  G (0<=j_2/\j_2 < (data_4.length:Int)) (
  G ((j_2).toNat < data_4.length) (
  G (fits (j_2 - (1:Int))) (
  G (0<=j_2 - (1:Int)/\j_2 - (1:Int) < (data_4.length:Int)) (
  G ((j_2 - (1:Int)).toNat < data_4.length) (
  (zdM (ix data_4 j_2) (ix data_4 (j_2 - (1:Int)))).bind (fun y'_2=>
  if (!y'_2)=true then
  G (fits (j+(1:Int))) (
  r3 i_2 (j+(1:Int)) data_4) else
  G (fits (j_2 - (1:Int))) (
  G (fits (j_2 - (1:Int))) (
  G (0<=j_2 - (1:Int)/\j_2 - (1:Int) < (data_4.length:Int)) (
  G ((j_2 - (1:Int)).toNat < data_4.length) (
  G (0<=j_2/\j_2 < (data_4.length:Int)) (
  G ((j_2).toNat < data_4.length) (
  G (0<=j_2/\j_2 < (data_4.length:Int)) (
  G ((j_2).toNat < data_4.length) (
  G (0<=j_2 - (1:Int)/\j_2 - (1:Int) < ((data_4.set (j_2).toNat (ix data_4 (j_2 - (1:Int)))).length:Int)) (
  G ((j_2 - (1:Int)).toNat < (data_4.set (j_2).toNat (ix data_4 (j_2 - (1:Int)))).length) (
  G (fits (j_2+(1:Int))) (
  r20 (j_2+(1:Int)) ((data_4.set (j_2).toNat (ix data_4 (j_2 - (1:Int)))).set (j_2 - (1:Int)).toNat (ix data_4 j_2))))))))))))))))))) else
  G (fits (j+(1:Int))) (
  r3 i_2 (j+(1:Int)) data_4)
def zcP (b:Int) (j:Int) (r3:(Int->Int->Tp16->Option (Bool×Tp16))) (i_2:Int):(Int×Tp16->Option (Bool×Tp16))->Int×Tp16->Option (Bool×Tp16):=
  fun rec x=>zas b j r3 i_2 (fun j_2 data_4=>rec (j_2,data_4)) x.1 x.2
def zax (b:Int) (j:Int) (r3:(Int->Int->Tp16->Option (Bool×Tp16))) (i_2:Int) (j_2:Int) (data_4:Tp16):Option (Bool×Tp16):=LFix (zcP b j r3 i_2 ) (j_2,data_4)
def zaj (b:Int) (j:Int) (r3:(Int->Int->Tp16->Option (Bool×Tp16))) (i_2:Int) (data_3:Tp16):Option (Bool×Tp16):=
  G (fits (b - i_2)) (
  if (decide ((2:Int)<=(b - i_2)))=true then
  G (fits (i_2+(1:Int))) (
  zax b j r3 i_2 (i_2+(1:Int)) data_3) else
  G (fits (j+(1:Int))) (
  r3 i_2 (j+(1:Int)) data_3))
def zar (b:Int) (j:Int) (r3:(Int->Int->Tp16->Option (Bool×Tp16))) (i_2:Int) (r14:Int->Tp16->Option (Bool×Tp16)) (j_1:Int) (data_2:Tp16):Option (Bool×Tp16):=
  if (decide ((1:Int)<=j_1))=true then
  G (0<=j_1/\j_1 < (data_2.length:Int)) (
  G ((j_1).toNat < data_2.length) (
  G (fits (j_1 - (1:Int))) (
  G (0<=j_1 - (1:Int)/\j_1 - (1:Int) < (data_2.length:Int)) (
  G ((j_1 - (1:Int)).toNat < data_2.length) (
  (zdM (ix data_2 j_1) (ix data_2 (j_1 - (1:Int)))).bind (fun y'_1=>
  if (!y'_1)=true then
  zaj b j r3 i_2 data_2 else
  G (fits (j_1 - (1:Int))) (
  G (fits (j_1 - (1:Int))) (
  G (0<=j_1 - (1:Int)/\j_1 - (1:Int) < (data_2.length:Int)) (
  G ((j_1 - (1:Int)).toNat < data_2.length) (
  G (0<=j_1/\j_1 < (data_2.length:Int)) (
  G ((j_1).toNat < data_2.length) (
  G (0<=j_1/\j_1 < (data_2.length:Int)) (
  G ((j_1).toNat < data_2.length) (
  G (0<=j_1 - (1:Int)/\j_1 - (1:Int) < ((data_2.set (j_1).toNat (ix data_2 (j_1 - (1:Int)))).length:Int)) (
  G ((j_1 - (1:Int)).toNat < (data_2.set (j_1).toNat (ix data_2 (j_1 - (1:Int)))).length) (
  G (fits (j_1 - (1:Int))) (
  r14 (j_1 - (1:Int)) ((data_2.set (j_1).toNat (ix data_2 (j_1 - (1:Int)))).set (j_1 - (1:Int)).toNat (ix data_2 j_1))))))))))))))))))) else
  zaj b j r3 i_2 data_2
def zcO (b:Int) (j:Int) (r3:(Int->Int->Tp16->Option (Bool×Tp16))) (i_2:Int):(Int×Tp16->Option (Bool×Tp16))->Int×Tp16->Option (Bool×Tp16):=
  fun rec x=>zar b j r3 i_2 (fun j_1 data_2=>rec (j_1,data_2)) x.1 x.2
def zaw (b:Int) (j:Int) (r3:(Int->Int->Tp16->Option (Bool×Tp16))) (i_2:Int) (j_1:Int) (data_2:Tp16):Option (Bool×Tp16):=LFix (zcO b j r3 i_2 ) (j_1,data_2)
def zay (a:Int) (b:Int) (j:Int) (data_1:Tp16) (r3:(Int->Int->Tp16->Option (Bool×Tp16))) (i_2:Int):Option (Bool×Tp16):=
  if (decide (i_2=b))=true then
  some (true,data_1) else
  G (fits (b - a)) (
  if (decide ((b - a) < (50:Int)))=true then
  some (false,data_1) else
  G (fits (i_2 - (1:Int))) (
  G (fits (i_2 - (1:Int))) (
  G (0<=i_2 - (1:Int)/\i_2 - (1:Int) < (data_1.length:Int)) (
  G ((i_2 - (1:Int)).toNat < data_1.length) (
  G (0<=i_2/\i_2 < (data_1.length:Int)) (
  G ((i_2).toNat < data_1.length) (
  G (0<=i_2/\i_2 < (data_1.length:Int)) (
  G ((i_2).toNat < data_1.length) (
  G (0<=i_2 - (1:Int)/\i_2 - (1:Int) < ((data_1.set (i_2).toNat (ix data_1 (i_2 - (1:Int)))).length:Int)) (
  G ((i_2 - (1:Int)).toNat < (data_1.set (i_2).toNat (ix data_1 (i_2 - (1:Int)))).length) (
  G (fits (i_2 - a)) (
  if (decide ((2:Int)<=(i_2 - a)))=true then
  G (fits (i_2 - (1:Int))) (
  zaw b j r3 i_2 (i_2 - (1:Int)) ((data_1.set (i_2).toNat (ix data_1 (i_2 - (1:Int)))).set (i_2 - (1:Int)).toNat (ix data_1 i_2))) else
  zaj b j r3 i_2 ((data_1.set (i_2).toNat (ix data_1 (i_2 - (1:Int)))).set (i_2 - (1:Int)).toNat (ix data_1 i_2))))))))))))))
def zav (a:Int) (b:Int) (j:Int) (data_1:Tp16) (r3:(Int->Int->Tp16->Option (Bool×Tp16))) (r5:Int->Option (Bool×Tp16)) (i_1:Int):Option (Bool×Tp16):=
  if (decide (i_1 < b))=true then
  G (0<=i_1/\i_1 < (data_1.length:Int)) (
  G ((i_1).toNat < data_1.length) (
  G (fits (i_1 - (1:Int))) (
  G (0<=i_1 - (1:Int)/\i_1 - (1:Int) < (data_1.length:Int)) (
  G ((i_1 - (1:Int)).toNat < data_1.length) (
  (zdM (ix data_1 i_1) (ix data_1 (i_1 - (1:Int)))).bind (fun y'=>
  if (!y')=true then
  G (fits (i_1+(1:Int))) (
  r5 (i_1+(1:Int))) else
  zay a b j data_1 r3 i_1)))))) else
  zay a b j data_1 r3 i_1
def zc5 (a:Int) (b:Int) (j:Int) (data_1:Tp16) (r3:(Int->Int->Tp16->Option (Bool×Tp16))):(Int->Option (Bool×Tp16))->Int->Option (Bool×Tp16):=
  fun rec x=>zav a b j data_1 r3 (fun i_1=>rec i_1) x
def zaz (a:Int) (b:Int) (j:Int) (data_1:Tp16) (r3:(Int->Int->Tp16->Option (Bool×Tp16))) (i_1:Int):Option (Bool×Tp16):=LFix (zc5 a b j data_1 r3 ) i_1
def zau (a:Int) (b:Int) (r3:Int->Int->Tp16->Option (Bool×Tp16)) (i:Int) (j:Int) (data_1:Tp16):Option (Bool×Tp16):=
  if (decide (j < (5:Int)))=true then
  zaz a b j data_1 r3 i else
  some (false,data_1)
def zc4 (a:Int) (b:Int):(Int×Int×Tp16->Option (Bool×Tp16))->Int×Int×Tp16->Option (Bool×Tp16):=
  fun rec x=>zau a b (fun i j data_1=>rec (i,j,data_1)) x.1 x.2.1 x.2.2
def za3 (a:Int) (b:Int) (i:Int) (j:Int) (data_1:Tp16):Option (Bool×Tp16):=LFix (zc4 a b ) (i,j,data_1)
def zbK (a:Int) (b:Int) (data:Tp16):Option (Bool×Tp16):=
  G (fits (a+(1:Int))) (
  za3 a b (a+(1:Int)) (0:Int) data)
theorem zcx (r3:Nat->Int->Int->Tp16->Option (Bool×Tp16)) (r3':Int->Int->Tp16->Option (Bool×Tp16)) (h_r3:∀ a0 a1 a2,ChO (fun κ=>r3 κ a0 a1 a2) (r3' a0 a1 a2)) (r20:Nat->Int->Tp16->Option (Bool×Tp16)) (r20':Int->Tp16->Option (Bool×Tp16)) (h_r20:∀ a0 a1,ChO (fun κ=>r20 κ a0 a1) (r20' a0 a1)) (b:Int) (j:Int) (i_2:Int) (j_2:Int) (data_4:Tp16):ChO (fun κ=>zas b j (r3 κ) i_2 (r20 κ) j_2 data_4) (zas b j r3' i_2 r20' j_2 data_4):=by
  unfold zas
  repeat' with_reducible first | exact ChO.const _ | exact h_r3 _ _ _ | exact h_r20 _ _ | apply ChO.ite | apply ChO.G | apply ChO.both | (apply ChO.bind;intro _)
theorem zbS (r3:Int->Int->Tp16->Option (Bool×Tp16)) (b:Int) (j:Int) (i_2:Int):Cn (zcP b j r3 i_2):=fun g h hg x=>zcx (fun _=>r3) r3 (fun _ _ _=>ChO.const _) (fun κ j_2 data_4=>g κ (j_2,data_4)) (fun j_2 data_4=>h (j_2,data_4)) (fun j_2 data_4=>hg (j_2,data_4)) b j i_2 x.1 x.2
theorem zcI (r3:Int->Int->Tp16->Option (Bool×Tp16)) (b:Int) (j:Int) (i_2:Int) (j_2:Int) (data_4:Tp16):zax b j r3 i_2 j_2 data_4=zas b j r3 i_2 (zax b j r3 i_2) j_2 data_4:=zaE (zbS r3 b j i_2) (j_2,data_4)
theorem zaL (r3:Nat->Int->Int->Tp16->Option (Bool×Tp16)) (r3':Int->Int->Tp16->Option (Bool×Tp16)) (h_r3:∀ a0 a1 a2,ChO (fun κ=>r3 κ a0 a1 a2) (r3' a0 a1 a2)) (b:Int) (j:Int) (i_2:Int) (j_2:Int) (data_4:Tp16):ChO (fun κ=>zax b j (r3 κ) i_2 j_2 data_4) (zax b j r3' i_2 j_2 data_4):=by
  unfold zax
  exact zdV (fun κ=>(zbS (r3 κ) b j i_2).mono) (zbS r3' b j i_2).mono (fun g h hg x=>zcx r3 r3' h_r3 (fun κ j_2 data_4=>g κ (j_2,data_4)) (fun j_2 data_4=>h (j_2,data_4)) (fun j_2 data_4=>hg (j_2,data_4)) b j i_2 x.1 x.2) _
theorem zbi (r3:Nat->Int->Int->Tp16->Option (Bool×Tp16)) (r3':Int->Int->Tp16->Option (Bool×Tp16)) (h_r3:∀ a0 a1 a2,ChO (fun κ=>r3 κ a0 a1 a2) (r3' a0 a1 a2)) (b:Int) (j:Int) (i_2:Int) (data_3:Tp16):ChO (fun κ=>zaj b j (r3 κ) i_2 data_3) (zaj b j r3' i_2 data_3):=by
  unfold zaj
  repeat' with_reducible first | exact ChO.const _ | exact h_r3 _ _ _ | (apply zaL<;>assumption) | apply ChO.ite | apply ChO.G | apply ChO.both | (apply ChO.bind;intro _)
theorem zcw (r3:Nat->Int->Int->Tp16->Option (Bool×Tp16)) (r3':Int->Int->Tp16->Option (Bool×Tp16)) (h_r3:∀ a0 a1 a2,ChO (fun κ=>r3 κ a0 a1 a2) (r3' a0 a1 a2)) (r14:Nat->Int->Tp16->Option (Bool×Tp16)) (r14':Int->Tp16->Option (Bool×Tp16)) (h_r14:∀ a0 a1,ChO (fun κ=>r14 κ a0 a1) (r14' a0 a1)) (b:Int) (j:Int) (i_2:Int) (j_1:Int) (data_2:Tp16):ChO (fun κ=>zar b j (r3 κ) i_2 (r14 κ) j_1 data_2) (zar b j r3' i_2 r14' j_1 data_2):=by
  unfold zar
  repeat' with_reducible first | exact ChO.const _ | exact h_r3 _ _ _ | exact h_r14 _ _ | (apply zaL<;>assumption) | (apply zbi<;>assumption) | apply ChO.ite | apply ChO.G | apply ChO.both | (apply ChO.bind;intro _)
theorem zbR (r3:Int->Int->Tp16->Option (Bool×Tp16)) (b:Int) (j:Int) (i_2:Int):Cn (zcO b j r3 i_2):=fun g h hg x=>zcw (fun _=>r3) r3 (fun _ _ _=>ChO.const _) (fun κ j_1 data_2=>g κ (j_1,data_2)) (fun j_1 data_2=>h (j_1,data_2)) (fun j_1 data_2=>hg (j_1,data_2)) b j i_2 x.1 x.2
theorem zcH (r3:Int->Int->Tp16->Option (Bool×Tp16)) (b:Int) (j:Int) (i_2:Int) (j_1:Int) (data_2:Tp16):zaw b j r3 i_2 j_1 data_2=zar b j r3 i_2 (zaw b j r3 i_2) j_1 data_2:=zaE (zbR r3 b j i_2) (j_1,data_2)
theorem zbQ (r3:Nat->Int->Int->Tp16->Option (Bool×Tp16)) (r3':Int->Int->Tp16->Option (Bool×Tp16)) (h_r3:∀ a0 a1 a2,ChO (fun κ=>r3 κ a0 a1 a2) (r3' a0 a1 a2)) (b:Int) (j:Int) (i_2:Int) (j_1:Int) (data_2:Tp16):ChO (fun κ=>zaw b j (r3 κ) i_2 j_1 data_2) (zaw b j r3' i_2 j_1 data_2):=by
  unfold zaw
  exact zdV (fun κ=>(zbR (r3 κ) b j i_2).mono) (zbR r3' b j i_2).mono (fun g h hg x=>zcw r3 r3' h_r3 (fun κ j_1 data_2=>g κ (j_1,data_2)) (fun j_1 data_2=>h (j_1,data_2)) (fun j_1 data_2=>hg (j_1,data_2)) b j i_2 x.1 x.2) _
theorem zcN (r3:Nat->Int->Int->Tp16->Option (Bool×Tp16)) (r3':Int->Int->Tp16->Option (Bool×Tp16)) (h_r3:∀ a0 a1 a2,ChO (fun κ=>r3 κ a0 a1 a2) (r3' a0 a1 a2)) (a:Int) (b:Int) (j:Int) (data_1:Tp16) (i_2:Int):ChO (fun κ=>zay a b j data_1 (r3 κ) i_2) (zay a b j data_1 r3' i_2):=by
  unfold zay
  repeat' with_reducible first | exact ChO.const _ | exact h_r3 _ _ _ | (apply zaL<;>assumption) | (apply zbi<;>assumption) | (apply zbQ<;>assumption) | apply ChO.ite | apply ChO.G | apply ChO.both | (apply ChO.bind;intro _)
theorem zcB (r3:Nat->Int->Int->Tp16->Option (Bool×Tp16)) (r3':Int->Int->Tp16->Option (Bool×Tp16)) (h_r3:∀ a0 a1 a2,ChO (fun κ=>r3 κ a0 a1 a2) (r3' a0 a1 a2)) (r5:Nat->Int->Option (Bool×Tp16)) (r5':Int->Option (Bool×Tp16)) (h_r5:∀ a0,ChO (fun κ=>r5 κ a0) (r5' a0)) (a:Int) (b:Int) (j:Int) (data_1:Tp16) (i_1:Int):ChO (fun κ=>zav a b j data_1 (r3 κ) (r5 κ) i_1) (zav a b j data_1 r3' r5' i_1):=by
  unfold zav
  repeat' with_reducible first | exact ChO.const _ | exact h_r3 _ _ _ | exact h_r5 _ | (apply zaL<;>assumption) | (apply zbi<;>assumption) | (apply zbQ<;>assumption) | (apply zcN<;>assumption) | apply ChO.ite | apply ChO.G | apply ChO.both | (apply ChO.bind;intro _)
theorem zbV (r3:Int->Int->Tp16->Option (Bool×Tp16)) (a:Int) (b:Int) (j:Int) (data_1:Tp16):Cn (zc5 a b j data_1 r3):=fun g h hg x=>zcB (fun _=>r3) r3 (fun _ _ _=>ChO.const _) (fun κ i_1=>g κ i_1) (fun i_1=>h i_1) (fun i_1=>hg i_1) a b j data_1 x
theorem zcR (r3:Int->Int->Tp16->Option (Bool×Tp16)) (a:Int) (b:Int) (j:Int) (data_1:Tp16) (i_1:Int):zaz a b j data_1 r3 i_1=zav a b j data_1 r3 (zaz a b j data_1 r3) i_1:=zaE (zbV r3 a b j data_1) i_1
theorem zfe (r3:Nat->Int->Int->Tp16->Option (Bool×Tp16)) (r3':Int->Int->Tp16->Option (Bool×Tp16)) (h_r3:∀ a0 a1 a2,ChO (fun κ=>r3 κ a0 a1 a2) (r3' a0 a1 a2)) (a:Int) (b:Int) (j:Int) (data_1:Tp16) (i_1:Int):ChO (fun κ=>zaz a b j data_1 (r3 κ) i_1) (zaz a b j data_1 r3' i_1):=by
  unfold zaz
  exact zdV (fun κ=>(zbV (r3 κ) a b j data_1).mono) (zbV r3' a b j data_1).mono (fun g h hg x=>zcB r3 r3' h_r3 (fun κ i_1=>g κ i_1) (fun i_1=>h i_1) (fun i_1=>hg i_1) a b j data_1 x) _
theorem zeV (r3:Nat->Int->Int->Tp16->Option (Bool×Tp16)) (r3':Int->Int->Tp16->Option (Bool×Tp16)) (h_r3:∀ a0 a1 a2,ChO (fun κ=>r3 κ a0 a1 a2) (r3' a0 a1 a2)) (a:Int) (b:Int) (i:Int) (j:Int) (data_1:Tp16):ChO (fun κ=>zau a b (r3 κ) i j data_1) (zau a b r3' i j data_1):=by
  unfold zau
  repeat' with_reducible first | exact ChO.const _ | exact h_r3 _ _ _ | (apply zaL<;>assumption) | (apply zbi<;>assumption) | (apply zbQ<;>assumption) | (apply zcN<;>assumption) | (apply zfe<;>assumption) | apply ChO.ite | apply ChO.G | apply ChO.both | (apply ChO.bind;intro _)
theorem zfd  (a:Int) (b:Int):Cn (zc4 a b):=fun g h hg x=>zeV  (fun κ i j data_1=>g κ (i,j,data_1)) (fun i j data_1=>h (i,j,data_1)) (fun i j data_1=>hg (i,j,data_1)) a b x.1 x.2.1 x.2.2
theorem zcQ  (a:Int) (b:Int) (i:Int) (j:Int) (data_1:Tp16):za3 a b i j data_1=zau a b (za3 a b) i j data_1:=zaE (zfd a b) (i,j,data_1)

def zaN (data_1:Tp16) (r3o:(Int->Int->Tp16->Option (Int×Tp16))) (i_2:Int) (j_2:Int):Option (Int×Tp16):=
  if (decide (j_2 < i_2))=true then
  some (i_2,data_1) else
  G (0<=j_2/\j_2 < (data_1.length:Int)) (
  G ((j_2).toNat < data_1.length) (
  G (0<=i_2/\i_2 < (data_1.length:Int)) (
  G ((i_2).toNat < data_1.length) (
  G (0<=i_2/\i_2 < (data_1.length:Int)) (
  G ((i_2).toNat < data_1.length) (
  G (0<=j_2/\j_2 < ((data_1.set (i_2).toNat (ix data_1 j_2)).length:Int)) (
  G ((j_2).toNat < (data_1.set (i_2).toNat (ix data_1 j_2)).length) (
  G (fits (i_2+(1:Int))) (
  G (fits (j_2 - (1:Int))) (
  r3o (i_2+(1:Int)) (j_2 - (1:Int)) ((data_1.set (i_2).toNat (ix data_1 j_2)).set (j_2).toNat (ix data_1 i_2))))))))))))
def zaG (a:Int) (data_1:Tp16) (r3o:(Int->Int->Tp16->Option (Int×Tp16))) (i_2:Int) (r5:Int->Option (Int×Tp16)) (j_1:Int):Option (Int×Tp16):=
  if (decide (i_2<=j_1))=true then
  G (0<=a/\a < (data_1.length:Int)) (
  G ((a).toNat < data_1.length) (
  G (0<=j_1/\j_1 < (data_1.length:Int)) (
  G ((j_1).toNat < data_1.length) (
  (zdM (ix data_1 a) (ix data_1 j_1)).bind (fun y'_1=>
  if y'_1=true then
  G (fits (j_1 - (1:Int))) (
  r5 (j_1 - (1:Int))) else
  zaN data_1 r3o i_2 j_1))))) else
  zaN data_1 r3o i_2 j_1
def zdU (a:Int) (data_1:Tp16) (r3o:(Int->Int->Tp16->Option (Int×Tp16))) (i_2:Int):(Int->Option (Int×Tp16))->Int->Option (Int×Tp16):=
  fun rec x=>zaG a data_1 r3o i_2 (fun j_1=>rec j_1) x
def zaP (a:Int) (data_1:Tp16) (r3o:(Int->Int->Tp16->Option (Int×Tp16))) (i_2:Int) (j_1:Int):Option (Int×Tp16):=LFix (zdU a data_1 r3o i_2 ) j_1
def zaM (a:Int) (j:Int) (data_1:Tp16) (r3o:(Int->Int->Tp16->Option (Int×Tp16))) (i_2:Int):Option (Int×Tp16):=
  zaP a data_1 r3o i_2 j
def zaF (a:Int) (j:Int) (data_1:Tp16) (r3o:(Int->Int->Tp16->Option (Int×Tp16))) (r3:Int->Option (Int×Tp16)) (i_1:Int):Option (Int×Tp16):=
  if (decide (i_1<=j))=true then
  G (0<=a/\a < (data_1.length:Int)) (
  G ((a).toNat < data_1.length) (
  G (0<=i_1/\i_1 < (data_1.length:Int)) (
  G ((i_1).toNat < data_1.length) (
  (zdM (ix data_1 a) (ix data_1 i_1)).bind (fun y'=>
  if (!y')=true then
  G (fits (i_1+(1:Int))) (
  r3 (i_1+(1:Int))) else
  zaM a j data_1 r3o i_1))))) else
  zaM a j data_1 r3o i_1
def zdT (a:Int) (j:Int) (data_1:Tp16) (r3o:(Int->Int->Tp16->Option (Int×Tp16))):(Int->Option (Int×Tp16))->Int->Option (Int×Tp16):=
  fun rec x=>zaF a j data_1 r3o (fun i_1=>rec i_1) x
def zaO (a:Int) (j:Int) (data_1:Tp16) (r3o:(Int->Int->Tp16->Option (Int×Tp16))) (i_1:Int):Option (Int×Tp16):=LFix (zdT a j data_1 r3o ) i_1
def zaR (a:Int) (r3o:Int->Int->Tp16->Option (Int×Tp16)) (i:Int) (j:Int) (data_1:Tp16):Option (Int×Tp16):=
  zaO a j data_1 r3o i
def zdK (a:Int):(Int×Int×Tp16->Option (Int×Tp16))->Int×Int×Tp16->Option (Int×Tp16):=
  fun rec x=>zaR a (fun i j data_1=>rec (i,j,data_1)) x.1 x.2.1 x.2.2
def zbW (a:Int) (i:Int) (j:Int) (data_1:Tp16):Option (Int×Tp16):=LFix (zdK a ) (i,j,data_1)
def zcg (a:Int) (b:Int) (pivot:Int) (data:Tp16):Option (Int×Tp16):=
  G (0<=pivot/\pivot < (data.length:Int)) (
  G ((pivot).toNat < data.length) (
  G (0<=a/\a < (data.length:Int)) (
  G ((a).toNat < data.length) (
  G (0<=a/\a < (data.length:Int)) (
  G ((a).toNat < data.length) (
  G (0<=pivot/\pivot < ((data.set (a).toNat (ix data pivot)).length:Int)) (
  G ((pivot).toNat < (data.set (a).toNat (ix data pivot)).length) (
  G (fits (a+(1:Int))) (
  G (fits (b - (1:Int))) (
  zbW a (a+(1:Int)) (b - (1:Int)) ((data.set (a).toNat (ix data pivot)).set (pivot).toNat (ix data a))))))))))))
theorem zbL (r3o:Nat->Int->Int->Tp16->Option (Int×Tp16)) (r3o':Int->Int->Tp16->Option (Int×Tp16)) (h_r3o:∀ a0 a1 a2,ChO (fun κ=>r3o κ a0 a1 a2) (r3o' a0 a1 a2)) (data_1:Tp16) (i_2:Int) (j_2:Int):ChO (fun κ=>zaN data_1 (r3o κ) i_2 j_2) (zaN data_1 r3o' i_2 j_2):=by
  unfold zaN
  repeat' with_reducible first | exact ChO.const _ | exact h_r3o _ _ _ | apply ChO.ite | apply ChO.G | apply ChO.both | (apply ChO.bind;intro _)
theorem zdw (r3o:Nat->Int->Int->Tp16->Option (Int×Tp16)) (r3o':Int->Int->Tp16->Option (Int×Tp16)) (h_r3o:∀ a0 a1 a2,ChO (fun κ=>r3o κ a0 a1 a2) (r3o' a0 a1 a2)) (r5:Nat->Int->Option (Int×Tp16)) (r5':Int->Option (Int×Tp16)) (h_r5:∀ a0,ChO (fun κ=>r5 κ a0) (r5' a0)) (a:Int) (data_1:Tp16) (i_2:Int) (j_1:Int):ChO (fun κ=>zaG a data_1 (r3o κ) i_2 (r5 κ) j_1) (zaG a data_1 r3o' i_2 r5' j_1):=by
  unfold zaG
  repeat' with_reducible first | exact ChO.const _ | exact h_r3o _ _ _ | exact h_r5 _ | (apply zbL<;>assumption) | apply ChO.ite | apply ChO.G | apply ChO.both | (apply ChO.bind;intro _)
theorem zcl (r3o:Int->Int->Tp16->Option (Int×Tp16)) (a:Int) (data_1:Tp16) (i_2:Int):Cn (zdU a data_1 r3o i_2):=fun g h hg x=>zdw (fun _=>r3o) r3o (fun _ _ _=>ChO.const _) (fun κ j_1=>g κ j_1) (fun j_1=>h j_1) (fun j_1=>hg j_1) a data_1 i_2 x
theorem zdL (r3o:Int->Int->Tp16->Option (Int×Tp16)) (a:Int) (data_1:Tp16) (i_2:Int) (j_1:Int):zaP a data_1 r3o i_2 j_1=zaG a data_1 r3o i_2 (zaP a data_1 r3o i_2) j_1:=zaE (zcl r3o a data_1 i_2) j_1
theorem zck (r3o:Nat->Int->Int->Tp16->Option (Int×Tp16)) (r3o':Int->Int->Tp16->Option (Int×Tp16)) (h_r3o:∀ a0 a1 a2,ChO (fun κ=>r3o κ a0 a1 a2) (r3o' a0 a1 a2)) (a:Int) (data_1:Tp16) (i_2:Int) (j_1:Int):ChO (fun κ=>zaP a data_1 (r3o κ) i_2 j_1) (zaP a data_1 r3o' i_2 j_1):=by
  unfold zaP
  exact zdV (fun κ=>(zcl (r3o κ) a data_1 i_2).mono) (zcl r3o' a data_1 i_2).mono (fun g h hg x=>zdw r3o r3o' h_r3o (fun κ j_1=>g κ j_1) (fun j_1=>h j_1) (fun j_1=>hg j_1) a data_1 i_2 x) _
theorem zdI (r3o:Nat->Int->Int->Tp16->Option (Int×Tp16)) (r3o':Int->Int->Tp16->Option (Int×Tp16)) (h_r3o:∀ a0 a1 a2,ChO (fun κ=>r3o κ a0 a1 a2) (r3o' a0 a1 a2)) (a:Int) (j:Int) (data_1:Tp16) (i_2:Int):ChO (fun κ=>zaM a j data_1 (r3o κ) i_2) (zaM a j data_1 r3o' i_2):=by
  unfold zaM
  repeat' with_reducible first | exact ChO.const _ | exact h_r3o _ _ _ | (apply zbL<;>assumption) | (apply zck<;>assumption) | apply ChO.ite | apply ChO.G | apply ChO.both | (apply ChO.bind;intro _)
theorem zdv (r3o:Nat->Int->Int->Tp16->Option (Int×Tp16)) (r3o':Int->Int->Tp16->Option (Int×Tp16)) (h_r3o:∀ a0 a1 a2,ChO (fun κ=>r3o κ a0 a1 a2) (r3o' a0 a1 a2)) (r3:Nat->Int->Option (Int×Tp16)) (r3':Int->Option (Int×Tp16)) (h_r3:∀ a0,ChO (fun κ=>r3 κ a0) (r3' a0)) (a:Int) (j:Int) (data_1:Tp16) (i_1:Int):ChO (fun κ=>zaF a j data_1 (r3o κ) (r3 κ) i_1) (zaF a j data_1 r3o' r3' i_1):=by
  unfold zaF
  repeat' with_reducible first | exact ChO.const _ | exact h_r3o _ _ _ | exact h_r3 _ | (apply zbL<;>assumption) | (apply zck<;>assumption) | (apply zdI<;>assumption) | apply ChO.ite | apply ChO.G | apply ChO.both | (apply ChO.bind;intro _)
theorem zcj (r3o:Int->Int->Tp16->Option (Int×Tp16)) (a:Int) (j:Int) (data_1:Tp16):Cn (zdT a j data_1 r3o):=fun g h hg x=>zdv (fun _=>r3o) r3o (fun _ _ _=>ChO.const _) (fun κ i_1=>g κ i_1) (fun i_1=>h i_1) (fun i_1=>hg i_1) a j data_1 x
theorem zdJ (r3o:Int->Int->Tp16->Option (Int×Tp16)) (a:Int) (j:Int) (data_1:Tp16) (i_1:Int):zaO a j data_1 r3o i_1=zaF a j data_1 r3o (zaO a j data_1 r3o) i_1:=zaE (zcj r3o a j data_1) i_1
theorem zgO (r3o:Nat->Int->Int->Tp16->Option (Int×Tp16)) (r3o':Int->Int->Tp16->Option (Int×Tp16)) (h_r3o:∀ a0 a1 a2,ChO (fun κ=>r3o κ a0 a1 a2) (r3o' a0 a1 a2)) (a:Int) (j:Int) (data_1:Tp16) (i_1:Int):ChO (fun κ=>zaO a j data_1 (r3o κ) i_1) (zaO a j data_1 r3o' i_1):=by
  unfold zaO
  exact zdV (fun κ=>(zcj (r3o κ) a j data_1).mono) (zcj r3o' a j data_1).mono (fun g h hg x=>zdv r3o r3o' h_r3o (fun κ i_1=>g κ i_1) (fun i_1=>h i_1) (fun i_1=>hg i_1) a j data_1 x) _
theorem zfX (r3o:Nat->Int->Int->Tp16->Option (Int×Tp16)) (r3o':Int->Int->Tp16->Option (Int×Tp16)) (h_r3o:∀ a0 a1 a2,ChO (fun κ=>r3o κ a0 a1 a2) (r3o' a0 a1 a2)) (a:Int) (i:Int) (j:Int) (data_1:Tp16):ChO (fun κ=>zaR a (r3o κ) i j data_1) (zaR a r3o' i j data_1):=by
  unfold zaR
  repeat' with_reducible first | exact ChO.const _ | exact h_r3o _ _ _ | (apply zbL<;>assumption) | (apply zck<;>assumption) | (apply zdI<;>assumption) | (apply zgO<;>assumption) | apply ChO.ite | apply ChO.G | apply ChO.both | (apply ChO.bind;intro _)
theorem zgr  (a:Int):Cn (zdK a):=fun g h hg x=>zfX  (fun κ i j data_1=>g κ (i,j,data_1)) (fun i j data_1=>h (i,j,data_1)) (fun i j data_1=>hg (i,j,data_1)) a x.1 x.2.1 x.2.2
theorem zgs  (a:Int) (i:Int) (j:Int) (data_1:Tp16):zbW a i j data_1=zaR a (zbW a) i j data_1:=zaE (zgr a) (i,j,data_1)

def zbd (a:Int) (data_1:Tp16) (r13o:(Int->Int->Tp16->Option Tp12)) (i_4:Int) (j_4:Int):Option Tp12:=
  if (decide (j_4 < i_4))=true then
  G (0<=a/\a < (data_1.length:Int)) (
  G ((a).toNat < data_1.length) (
  G (0<=j_4/\j_4 < (data_1.length:Int)) (
  G ((j_4).toNat < data_1.length) (
  G (0<=j_4/\j_4 < (data_1.length:Int)) (
  G ((j_4).toNat < data_1.length) (
  G (0<=a/\a < ((data_1.set (j_4).toNat (ix data_1 a)).length:Int)) (
  G ((a).toNat < (data_1.set (j_4).toNat (ix data_1 a)).length) (
  some (j_4,false,(data_1.set (j_4).toNat (ix data_1 a)).set (a).toNat (ix data_1 j_4)))))))))) else
  G (0<=j_4/\j_4 < (data_1.length:Int)) (
  G ((j_4).toNat < data_1.length) (
  G (0<=i_4/\i_4 < (data_1.length:Int)) (
  G ((i_4).toNat < data_1.length) (
  G (0<=i_4/\i_4 < (data_1.length:Int)) (
  G ((i_4).toNat < data_1.length) (
  G (0<=j_4/\j_4 < ((data_1.set (i_4).toNat (ix data_1 j_4)).length:Int)) (
  G ((j_4).toNat < (data_1.set (i_4).toNat (ix data_1 j_4)).length) (
  G (fits (i_4+(1:Int))) (
  G (fits (j_4 - (1:Int))) (
  r13o (i_4+(1:Int)) (j_4 - (1:Int)) ((data_1.set (i_4).toNat (ix data_1 j_4)).set (j_4).toNat (ix data_1 i_4))))))))))))
def za0 (a:Int) (data_1:Tp16) (r13o:(Int->Int->Tp16->Option Tp12)) (i_4:Int) (r15:Int->Option Tp12) (j_3:Int):Option Tp12:=
  if (decide (i_4<=j_3))=true then
  G (0<=j_3/\j_3 < (data_1.length:Int)) (
  G ((j_3).toNat < data_1.length) (
  G (0<=a/\a < (data_1.length:Int)) (
  G ((a).toNat < data_1.length) (
  (zdM (ix data_1 j_3) (ix data_1 a)).bind (fun y'_3=>
  if (!y'_3)=true then
  G (fits (j_3 - (1:Int))) (
  r15 (j_3 - (1:Int))) else
  zbd a data_1 r13o i_4 j_3))))) else
  zbd a data_1 r13o i_4 j_3
def zeX (a:Int) (data_1:Tp16) (r13o:(Int->Int->Tp16->Option Tp12)) (i_4:Int):(Int->Option Tp12)->Int->Option Tp12:=
  fun rec x=>za0 a data_1 r13o i_4 (fun j_3=>rec j_3) x
def zbf (a:Int) (data_1:Tp16) (r13o:(Int->Int->Tp16->Option Tp12)) (i_4:Int) (j_3:Int):Option Tp12:=LFix (zeX a data_1 r13o i_4 ) j_3
def zbc (a:Int) (j_2:Int) (data_1:Tp16) (r13o:(Int->Int->Tp16->Option Tp12)) (i_4:Int):Option Tp12:=
  zbf a data_1 r13o i_4 j_2
def zaZ (a:Int) (j_2:Int) (data_1:Tp16) (r13o:(Int->Int->Tp16->Option Tp12)) (r13:Int->Option Tp12) (i_3:Int):Option Tp12:=
  if (decide (i_3<=j_2))=true then
  G (0<=i_3/\i_3 < (data_1.length:Int)) (
  G ((i_3).toNat < data_1.length) (
  G (0<=a/\a < (data_1.length:Int)) (
  G ((a).toNat < data_1.length) (
  (zdM (ix data_1 i_3) (ix data_1 a)).bind (fun y'_2=>
  if y'_2=true then
  G (fits (i_3+(1:Int))) (
  r13 (i_3+(1:Int))) else
  zbc a j_2 data_1 r13o i_3))))) else
  zbc a j_2 data_1 r13o i_3
def zeW (a:Int) (j_2:Int) (data_1:Tp16) (r13o:(Int->Int->Tp16->Option Tp12)):(Int->Option Tp12)->Int->Option Tp12:=
  fun rec x=>zaZ a j_2 data_1 r13o (fun i_3=>rec i_3) x
def zbe (a:Int) (j_2:Int) (data_1:Tp16) (r13o:(Int->Int->Tp16->Option Tp12)) (i_3:Int):Option Tp12:=LFix (zeW a j_2 data_1 r13o ) i_3
def zbl (a:Int) (r13o:Tf17) (i_2:Int) (j_2:Int) (data_1:Tp16):Option Tp12:=
  zbe a j_2 data_1 r13o i_2
def zeA (a:Int):(Int×Int×Tp16->Option Tp12)->Int×Int×Tp16->Option Tp12:=
  fun rec x=>zbl a (fun i_2 j_2 data_1=>rec (i_2,j_2,data_1)) x.1 x.2.1 x.2.2
def zch (a:Int) (i_2:Int) (j_2:Int) (data_1:Tp16):Option Tp12:=LFix (zeA a ) (i_2,j_2,data_1)
def zcD (a:Int) (pivot:Int) (data:Tp16) (i_1:Int) (j_1:Int):Option Tp12:=
  if (decide (j_1 < i_1))=true then
  G (0<=a/\a < (((data.set (a).toNat (ix data pivot)).set (pivot).toNat (ix data a)).length:Int)) (
  G ((a).toNat < ((data.set (a).toNat (ix data pivot)).set (pivot).toNat (ix data a)).length) (
  G (0<=j_1/\j_1 < (((data.set (a).toNat (ix data pivot)).set (pivot).toNat (ix data a)).length:Int)) (
  G ((j_1).toNat < ((data.set (a).toNat (ix data pivot)).set (pivot).toNat (ix data a)).length) (
  G (0<=j_1/\j_1 < (((data.set (a).toNat (ix data pivot)).set (pivot).toNat (ix data a)).length:Int)) (
  G ((j_1).toNat < ((data.set (a).toNat (ix data pivot)).set (pivot).toNat (ix data a)).length) (
  G (0<=a/\a < ((((data.set (a).toNat (ix data pivot)).set (pivot).toNat (ix data a)).set (j_1).toNat (ix ((data.set (a).toNat (ix data pivot)).set (pivot).toNat (ix data a)) a)).length:Int)) (
  G ((a).toNat < (((data.set (a).toNat (ix data pivot)).set (pivot).toNat (ix data a)).set (j_1).toNat (ix ((data.set (a).toNat (ix data pivot)).set (pivot).toNat (ix data a)) a)).length) (
  some (j_1,true,(((data.set (a).toNat (ix data pivot)).set (pivot).toNat (ix data a)).set (j_1).toNat (ix ((data.set (a).toNat (ix data pivot)).set (pivot).toNat (ix data a)) a)).set (a).toNat (ix ((data.set (a).toNat (ix data pivot)).set (pivot).toNat (ix data a)) j_1)))))))))) else
  G (0<=j_1/\j_1 < (((data.set (a).toNat (ix data pivot)).set (pivot).toNat (ix data a)).length:Int)) (
  G ((j_1).toNat < ((data.set (a).toNat (ix data pivot)).set (pivot).toNat (ix data a)).length) (
  G (0<=i_1/\i_1 < (((data.set (a).toNat (ix data pivot)).set (pivot).toNat (ix data a)).length:Int)) (
  G ((i_1).toNat < ((data.set (a).toNat (ix data pivot)).set (pivot).toNat (ix data a)).length) (
  G (0<=i_1/\i_1 < (((data.set (a).toNat (ix data pivot)).set (pivot).toNat (ix data a)).length:Int)) (
  G ((i_1).toNat < ((data.set (a).toNat (ix data pivot)).set (pivot).toNat (ix data a)).length) (
  G (0<=j_1/\j_1 < ((((data.set (a).toNat (ix data pivot)).set (pivot).toNat (ix data a)).set (i_1).toNat (ix ((data.set (a).toNat (ix data pivot)).set (pivot).toNat (ix data a)) j_1)).length:Int)) (
  G ((j_1).toNat < (((data.set (a).toNat (ix data pivot)).set (pivot).toNat (ix data a)).set (i_1).toNat (ix ((data.set (a).toNat (ix data pivot)).set (pivot).toNat (ix data a)) j_1)).length) (
  G (fits (i_1+(1:Int))) (
  G (fits (j_1 - (1:Int))) (
  zch a (i_1+(1:Int)) (j_1 - (1:Int)) ((((data.set (a).toNat (ix data pivot)).set (pivot).toNat (ix data a)).set (i_1).toNat (ix ((data.set (a).toNat (ix data pivot)).set (pivot).toNat (ix data a)) j_1)).set (j_1).toNat (ix ((data.set (a).toNat (ix data pivot)).set (pivot).toNat (ix data a)) i_1))))))))))))
def za5 (a:Int) (pivot:Int) (data:Tp16) (i_1:Int) (r5:Int->Option Tp12) (j:Int):Option Tp12:=
  if (decide (i_1<=j))=true then
  G (0<=j/\j < (((data.set (a).toNat (ix data pivot)).set (pivot).toNat (ix data a)).length:Int)) (
  G ((j).toNat < ((data.set (a).toNat (ix data pivot)).set (pivot).toNat (ix data a)).length) (
  G (0<=a/\a < (((data.set (a).toNat (ix data pivot)).set (pivot).toNat (ix data a)).length:Int)) (
  G ((a).toNat < ((data.set (a).toNat (ix data pivot)).set (pivot).toNat (ix data a)).length) (
  (zdM (ix ((data.set (a).toNat (ix data pivot)).set (pivot).toNat (ix data a)) j) (ix ((data.set (a).toNat (ix data pivot)).set (pivot).toNat (ix data a)) a)).bind (fun y'_1=>
  if (!y'_1)=true then
  G (fits (j - (1:Int))) (
  r5 (j - (1:Int))) else
  zcD a pivot data i_1 j))))) else
  zcD a pivot data i_1 j
def zfa (a:Int) (pivot:Int) (data:Tp16) (i_1:Int):(Int->Option Tp12)->Int->Option Tp12:=
  fun rec x=>za5 a pivot data i_1 (fun j=>rec j) x
def zcF (a:Int) (pivot:Int) (data:Tp16) (i_1:Int) (j:Int):Option Tp12:=LFix (zfa a pivot data i_1 ) j
def zcC (a:Int) (b:Int) (pivot:Int) (data:Tp16) (i_1:Int):Option Tp12:=
  zcF a pivot data i_1 (b - (1:Int))
def za4 (a:Int) (b:Int) (pivot:Int) (data:Tp16) (r3:Int->Option Tp12) (i:Int):Option Tp12:=
  if (decide (i<=(b - (1:Int))))=true then
  G (0<=i/\i < (((data.set (a).toNat (ix data pivot)).set (pivot).toNat (ix data a)).length:Int)) (
  G ((i).toNat < ((data.set (a).toNat (ix data pivot)).set (pivot).toNat (ix data a)).length) (
  G (0<=a/\a < (((data.set (a).toNat (ix data pivot)).set (pivot).toNat (ix data a)).length:Int)) (
  G ((a).toNat < ((data.set (a).toNat (ix data pivot)).set (pivot).toNat (ix data a)).length) (
  (zdM (ix ((data.set (a).toNat (ix data pivot)).set (pivot).toNat (ix data a)) i) (ix ((data.set (a).toNat (ix data pivot)).set (pivot).toNat (ix data a)) a)).bind (fun y'=>
  if y'=true then
  G (fits (i+(1:Int))) (
  r3 (i+(1:Int))) else
  zcC a b pivot data i))))) else
  zcC a b pivot data i
def ze9 (a:Int) (b:Int) (pivot:Int) (data:Tp16):(Int->Option Tp12)->Int->Option Tp12:=
  fun rec x=>za4 a b pivot data (fun i=>rec i) x
def zcE (a:Int) (b:Int) (pivot:Int) (data:Tp16) (i:Int):Option Tp12:=LFix (ze9 a b pivot data ) i
def zdq (a:Int) (b:Int) (pivot:Int) (data:Tp16):Option Tp12:=
  G (0<=pivot/\pivot < (data.length:Int)) (
  G ((pivot).toNat < data.length) (
  G (0<=a/\a < (data.length:Int)) (
  G ((a).toNat < data.length) (
  G (0<=a/\a < (data.length:Int)) (
  G ((a).toNat < data.length) (
  G (0<=pivot/\pivot < ((data.set (a).toNat (ix data pivot)).length:Int)) (
  G ((pivot).toNat < (data.set (a).toNat (ix data pivot)).length) (
  G (fits (a+(1:Int))) (
  G (fits (b - (1:Int))) (
  zcE a b pivot data (a+(1:Int))))))))))))
theorem zbk (r13o:Nat->Tf17) (r13o':Tf17) (h_r13o:∀ a0 a1 a2,ChO (fun κ=>r13o κ a0 a1 a2) (r13o' a0 a1 a2)) (a:Int) (data_1:Tp16) (i_4:Int) (j_4:Int):ChO (fun κ=>zbd a data_1 (r13o κ) i_4 j_4) (zbd a data_1 r13o' i_4 j_4):=by
  unfold zbd
  repeat' with_reducible first | exact ChO.const _ | exact h_r13o _ _ _ | apply ChO.ite | apply ChO.G | apply ChO.both | (apply ChO.bind;intro _)
theorem zec (r13o:Nat->Tf17) (r13o':Tf17) (h_r13o:∀ a0 a1 a2,ChO (fun κ=>r13o κ a0 a1 a2) (r13o' a0 a1 a2)) (r15:Nat->Int->Option Tp12) (r15':Int->Option Tp12) (h_r15:∀ a0,ChO (fun κ=>r15 κ a0) (r15' a0)) (a:Int) (data_1:Tp16) (i_4:Int) (j_3:Int):ChO (fun κ=>za0 a data_1 (r13o κ) i_4 (r15 κ) j_3) (za0 a data_1 r13o' i_4 r15' j_3):=by
  unfold za0
  repeat' with_reducible first | exact ChO.const _ | exact h_r13o _ _ _ | exact h_r15 _ | (apply zbk<;>assumption) | apply ChO.ite | apply ChO.G | apply ChO.both | (apply ChO.bind;intro _)
theorem zc8 (r13o:Tf17) (a:Int) (data_1:Tp16) (i_4:Int):Cn (zeX a data_1 r13o i_4):=fun g h hg x=>zec (fun _=>r13o) r13o (fun _ _ _=>ChO.const _) (fun κ j_3=>g κ j_3) (fun j_3=>h j_3) (fun j_3=>hg j_3) a data_1 i_4 x
theorem zeB (r13o:Tf17) (a:Int) (data_1:Tp16) (i_4:Int) (j_3:Int):zbf a data_1 r13o i_4 j_3=za0 a data_1 r13o i_4 (zbf a data_1 r13o i_4) j_3:=zaE (zc8 r13o a data_1 i_4) j_3
theorem zbD (r13o:Nat->Tf17) (r13o':Tf17) (h_r13o:∀ a0 a1 a2,ChO (fun κ=>r13o κ a0 a1 a2) (r13o' a0 a1 a2)) (a:Int) (data_1:Tp16) (i_4:Int) (j_3:Int):ChO (fun κ=>zbf a data_1 (r13o κ) i_4 j_3) (zbf a data_1 r13o' i_4 j_3):=by
  unfold zbf
  exact zdV (fun κ=>(zc8 (r13o κ) a data_1 i_4).mono) (zc8 r13o' a data_1 i_4).mono (fun g h hg x=>zec r13o r13o' h_r13o (fun κ j_3=>g κ j_3) (fun j_3=>h j_3) (fun j_3=>hg j_3) a data_1 i_4 x) _
theorem zb5 (r13o:Nat->Tf17) (r13o':Tf17) (h_r13o:∀ a0 a1 a2,ChO (fun κ=>r13o κ a0 a1 a2) (r13o' a0 a1 a2)) (a:Int) (j_2:Int) (data_1:Tp16) (i_4:Int):ChO (fun κ=>zbc a j_2 data_1 (r13o κ) i_4) (zbc a j_2 data_1 r13o' i_4):=by
  unfold zbc
  repeat' with_reducible first | exact ChO.const _ | exact h_r13o _ _ _ | (apply zbk<;>assumption) | (apply zbD<;>assumption) | apply ChO.ite | apply ChO.G | apply ChO.both | (apply ChO.bind;intro _)
theorem zeb (r13o:Nat->Tf17) (r13o':Tf17) (h_r13o:∀ a0 a1 a2,ChO (fun κ=>r13o κ a0 a1 a2) (r13o' a0 a1 a2)) (r13:Nat->Int->Option Tp12) (r13':Int->Option Tp12) (h_r13:∀ a0,ChO (fun κ=>r13 κ a0) (r13' a0)) (a:Int) (j_2:Int) (data_1:Tp16) (i_3:Int):ChO (fun κ=>zaZ a j_2 data_1 (r13o κ) (r13 κ) i_3) (zaZ a j_2 data_1 r13o' r13' i_3):=by
  unfold zaZ
  repeat' with_reducible first | exact ChO.const _ | exact h_r13o _ _ _ | exact h_r13 _ | (apply zbk<;>assumption) | (apply zbD<;>assumption) | (apply zb5<;>assumption) | apply ChO.ite | apply ChO.G | apply ChO.both | (apply ChO.bind;intro _)
theorem zc7 (r13o:Tf17) (a:Int) (j_2:Int) (data_1:Tp16):Cn (zeW a j_2 data_1 r13o):=fun g h hg x=>zeb (fun _=>r13o) r13o (fun _ _ _=>ChO.const _) (fun κ i_3=>g κ i_3) (fun i_3=>h i_3) (fun i_3=>hg i_3) a j_2 data_1 x
theorem zez (r13o:Tf17) (a:Int) (j_2:Int) (data_1:Tp16) (i_3:Int):zbe a j_2 data_1 r13o i_3=zaZ a j_2 data_1 r13o (zbe a j_2 data_1 r13o) i_3:=zaE (zc7 r13o a j_2 data_1) i_3
theorem zc6 (r13o:Nat->Tf17) (r13o':Tf17) (h_r13o:∀ a0 a1 a2,ChO (fun κ=>r13o κ a0 a1 a2) (r13o' a0 a1 a2)) (a:Int) (j_2:Int) (data_1:Tp16) (i_3:Int):ChO (fun κ=>zbe a j_2 data_1 (r13o κ) i_3) (zbe a j_2 data_1 r13o' i_3):=by
  unfold zbe
  exact zdV (fun κ=>(zc7 (r13o κ) a j_2 data_1).mono) (zc7 r13o' a j_2 data_1).mono (fun g h hg x=>zeb r13o r13o' h_r13o (fun κ i_3=>g κ i_3) (fun i_3=>h i_3) (fun i_3=>hg i_3) a j_2 data_1 x) _
theorem zhm (r13o:Nat->Tf17) (r13o':Tf17) (h_r13o:∀ a0 a1 a2,ChO (fun κ=>r13o κ a0 a1 a2) (r13o' a0 a1 a2)) (a:Int) (i_2:Int) (j_2:Int) (data_1:Tp16):ChO (fun κ=>zbl a (r13o κ) i_2 j_2 data_1) (zbl a r13o' i_2 j_2 data_1):=by
  unfold zbl
  repeat' with_reducible first | exact ChO.const _ | exact h_r13o _ _ _ | (apply zbk<;>assumption) | (apply zbD<;>assumption) | (apply zb5<;>assumption) | (apply zc6<;>assumption) | apply ChO.ite | apply ChO.G | apply ChO.both | (apply ChO.bind;intro _)
theorem zhK  (a:Int):Cn (zeA a):=fun g h hg x=>zhm  (fun κ i_2 j_2 data_1=>g κ (i_2,j_2,data_1)) (fun i_2 j_2 data_1=>h (i_2,j_2,data_1)) (fun i_2 j_2 data_1=>hg (i_2,j_2,data_1)) a x.1 x.2.1 x.2.2
theorem zhL  (a:Int) (i_2:Int) (j_2:Int) (data_1:Tp16):zch a i_2 j_2 data_1=zbl a (zch a) i_2 j_2 data_1:=zaE (zhK a) (i_2,j_2,data_1)
theorem zhN (r5:Nat->Int->Option Tp12) (r5':Int->Option Tp12) (h_r5:∀ a0,ChO (fun κ=>r5 κ a0) (r5' a0)) (a:Int) (pivot:Int) (data:Tp16) (i_1:Int) (j:Int):ChO (fun κ=>za5 a pivot data i_1 (r5 κ) j) (za5 a pivot data i_1 r5' j):=by
  unfold za5
  repeat' with_reducible first | exact ChO.const _ | exact h_r5 _ | (apply zbk<;>assumption) | (apply zbD<;>assumption) | (apply zb5<;>assumption) | (apply zc6<;>assumption) | apply ChO.ite | apply ChO.G | apply ChO.both | (apply ChO.bind;intro _)
theorem ziv  (a:Int) (pivot:Int) (data:Tp16) (i_1:Int):Cn (zfa a pivot data i_1):=fun g h hg x=>zhN  (fun κ j=>g κ j) (fun j=>h j) (fun j=>hg j) a pivot data i_1 x
theorem zeZ  (a:Int) (pivot:Int) (data:Tp16) (i_1:Int) (j:Int):zcF a pivot data i_1 j=za5 a pivot data i_1 (zcF a pivot data i_1) j:=zaE (ziv a pivot data i_1) j
theorem zhM (r3:Nat->Int->Option Tp12) (r3':Int->Option Tp12) (h_r3:∀ a0,ChO (fun κ=>r3 κ a0) (r3' a0)) (a:Int) (b:Int) (pivot:Int) (data:Tp16) (i:Int):ChO (fun κ=>za4 a b pivot data (r3 κ) i) (za4 a b pivot data r3' i):=by
  unfold za4
  repeat' with_reducible first | exact ChO.const _ | exact h_r3 _ | (apply zbk<;>assumption) | (apply zbD<;>assumption) | (apply zb5<;>assumption) | (apply zc6<;>assumption) | apply ChO.ite | apply ChO.G | apply ChO.both | (apply ChO.bind;intro _)
theorem ziu  (a:Int) (b:Int) (pivot:Int) (data:Tp16):Cn (ze9 a b pivot data):=fun g h hg x=>zhM  (fun κ i=>g κ i) (fun i=>h i) (fun i=>hg i) a b pivot data x
theorem zeY  (a:Int) (b:Int) (pivot:Int) (data:Tp16) (i:Int):zcE a b pivot data i=za4 a b pivot data (zcE a b pivot data) i:=zaE (ziu a b pivot data) i

def zbr (zab:Tf13) (a_1:Int) (b_1:Int) (wasBalanced:Bool) (wasPartitioned:Bool) (r2:(Int->Int->Int->Bool->Bool->Tp16->Option Tp16)) (limit_2:Int) (pivot:Int) (data_4:Tp16) (t_1:Bool):Option Tp16:=
  if t_1=true then
  (zcg a_1 b_1 pivot data_4).bind (fun y'_14=>
  r2 y'_14.1 b_1 limit_2 wasBalanced wasPartitioned y'_14.2) else
  (zdq a_1 b_1 pivot data_4).bind (fun y'_21=>
  G (fits (y'_21.1 - a_1)) (
  G (fits (b_1 - y'_21.1)) (
  G ((8:Int)≠0) (
  G (fits (Int.tdiv (b_1 - a_1) (8:Int))) (
  if (decide ((y'_21.1 - a_1) < (b_1 - y'_21.1)))=true then
  (zab a_1 y'_21.1 limit_2 y'_21.2.2).bind (fun y'_19=>
  G (fits (y'_21.1+(1:Int))) (
  r2 (y'_21.1+(1:Int)) b_1 limit_2 (decide ((Int.tdiv (b_1 - a_1) (8:Int))<=(y'_21.1 - a_1))) y'_21.2.1 y'_19)) else
  G (fits (y'_21.1+(1:Int))) (
  (zab (y'_21.1+(1:Int)) b_1 limit_2 y'_21.2.2).bind (fun y'_20=>
  r2 a_1 y'_21.1 limit_2 (decide ((Int.tdiv (b_1 - a_1) (8:Int))<=(b_1 - y'_21.1))) y'_21.2.1 y'_20)))))))
def zbq (zab:Tf13) (a_1:Int) (b_1:Int) (wasBalanced:Bool) (wasPartitioned:Bool) (r2:(Int->Int->Int->Bool->Bool->Tp16->Option Tp16)) (limit_2:Int) (pivot:Int) (data_4:Tp16):Option Tp16:=
  if (decide ((0:Int) < a_1))=true then
  G (fits (a_1 - (1:Int))) (
  G (0<=a_1 - (1:Int)/\a_1 - (1:Int) < (data_4.length:Int)) (
  G ((a_1 - (1:Int)).toNat < data_4.length) (
  G (0<=pivot/\pivot < (data_4.length:Int)) (
  G ((pivot).toNat < data_4.length) (
  (zdM (ix data_4 (a_1 - (1:Int))) (ix data_4 pivot)).bind (fun y'_10=>
  zbr zab a_1 b_1 wasBalanced wasPartitioned r2 limit_2 pivot data_4 (!y'_10))))))) else
  zbr zab a_1 b_1 wasBalanced wasPartitioned r2 limit_2 pivot data_4 false
def za7 (zab:Tf13) (a_1:Int) (b_1:Int) (wasBalanced:Bool) (wasPartitioned:Bool) (r2:(Int->Int->Int->Bool->Bool->Tp16->Option Tp16)) (limit_2:Int) (pivot:Int) (data_3:Tp16) (t:Bool):Option Tp16:=
  if t=true then
  (zbK a_1 b_1 data_3).bind (fun y'_22=>
  if y'_22.1=true then
  some y'_22.2 else
  zbq zab a_1 b_1 wasBalanced wasPartitioned r2 limit_2 pivot y'_22.2) else
  zbq zab a_1 b_1 wasBalanced wasPartitioned r2 limit_2 pivot data_3
def zbp (zab:Tf13) (a_1:Int) (b_1:Int) (wasBalanced:Bool) (wasPartitioned:Bool) (r2:(Int->Int->Int->Bool->Bool->Tp16->Option Tp16)) (limit_2:Int) (pivot:Int) (hint:Int) (data_3:Tp16):Option Tp16:=
  if wasBalanced=true then
  if wasPartitioned=true then
  za7 zab a_1 b_1 wasBalanced wasPartitioned r2 limit_2 pivot data_3 (decide (hint=(1:Int))) else
  za7 zab a_1 b_1 wasBalanced wasPartitioned r2 limit_2 pivot data_3 false else
  za7 zab a_1 b_1 wasBalanced wasPartitioned r2 limit_2 pivot data_3 false
def zbB (zab:Tf13) (a_1:Int) (b_1:Int) (wasBalanced:Bool) (wasPartitioned:Bool) (r2:(Int->Int->Int->Bool->Bool->Tp16->Option Tp16)) (limit_2:Int) (data_2:Tp16):Option Tp16:=
  (zcT data_2 a_1 b_1).bind (fun y'_23=>
  if (decide (y'_23.2=(2:Int)))=true then
  (zcG a_1 b_1 data_2).bind (fun y'_6=>
  G (fits (b_1 - (1:Int))) (
  G (fits (y'_23.1 - a_1)) (
  G (fits ((b_1 - (1:Int)) - (y'_23.1 - a_1))) (
  zbp zab a_1 b_1 wasBalanced wasPartitioned r2 limit_2 ((b_1 - (1:Int)) - (y'_23.1 - a_1)) (1:Int) y'_6)))) else
  zbp zab a_1 b_1 wasBalanced wasPartitioned r2 limit_2 y'_23.1 y'_23.2 data_2)
def zbE (zab:Tf13)  (r2:Tf8) (a_1:Int) (b_1:Int) (limit_1:Int) (wasBalanced:Bool) (wasPartitioned:Bool) (data_1:Tp16):Option Tp16:=
  G (fits (b_1 - a_1)) (
  if (decide ((b_1 - a_1)<=(12:Int)))=true then
  (zcu a_1 b_1 data_1).bind (fun y'=>
  some y') else
  if (decide (limit_1=(0:Int)))=true then
  (zdG a_1 b_1 data_1).bind (fun y'_1=>
  some y'_1) else
  if (!wasBalanced)=true then
  (zct a_1 b_1 data_1).bind (fun y'_2=>
  G (fits (limit_1 - (1:Int))) (
  zbB zab a_1 b_1 wasBalanced wasPartitioned r2 (limit_1 - (1:Int)) y'_2)) else
  zbB zab a_1 b_1 wasBalanced wasPartitioned r2 limit_1 data_1)
def zfS (zab:Tf13):(Int×Int×Int×Bool×Bool×Tp16->Option Tp16)->Int×Int×Int×Bool×Bool×Tp16->Option Tp16:=
  fun rec x=>zbE zab (fun a_1 b_1 limit_1 wasBalanced wasPartitioned data_1=>rec (a_1,b_1,limit_1,wasBalanced,wasPartitioned,data_1)) x.1 x.2.1 x.2.2.1 x.2.2.2.1 x.2.2.2.2.1 x.2.2.2.2.2
def zal (zab:Tf13)  (a_1:Int) (b_1:Int) (limit_1:Int) (wasBalanced:Bool) (wasPartitioned:Bool) (data_1:Tp16):Option Tp16:=LFix (zfS zab ) (a_1,b_1,limit_1,wasBalanced,wasPartitioned,data_1)
def zb2 (zab:Tf13) (a:Int) (b:Int) (limit:Int) (data:Tp16):Option Tp16:=
  zal zab a b limit true true data
theorem zbv (zab:Nat->Tf13) (zag:Tf13) (zah:∀ a0 a1 a2 a3,ChO (fun κ=>zab κ a0 a1 a2 a3) (zag a0 a1 a2 a3)) (r2:Nat->Tf8) (r2':Tf8) (h_r2:∀ a0 a1 a2 a3 a4 a5,ChO (fun κ=>r2 κ a0 a1 a2 a3 a4 a5) (r2' a0 a1 a2 a3 a4 a5)) (a_1:Int) (b_1:Int) (wasBalanced:Bool) (wasPartitioned:Bool) (limit_2:Int) (pivot:Int) (data_4:Tp16) (t_1:Bool):ChO (fun κ=>zbr (zab κ) a_1 b_1 wasBalanced wasPartitioned (r2 κ) limit_2 pivot data_4 t_1) (zbr zag a_1 b_1 wasBalanced wasPartitioned r2' limit_2 pivot data_4 t_1):=by
  unfold zbr
  repeat' with_reducible first | exact ChO.const _ | exact zah _ _ _ _ | exact h_r2 _ _ _ _ _ _ | apply ChO.ite | apply ChO.G | apply ChO.both | (apply ChO.bind;intro _) | (apply ChO.bind2 (zah _ _ _ _);intro _)
theorem zbU (zab:Nat->Tf13) (zag:Tf13) (zah:∀ a0 a1 a2 a3,ChO (fun κ=>zab κ a0 a1 a2 a3) (zag a0 a1 a2 a3)) (r2:Nat->Tf8) (r2':Tf8) (h_r2:∀ a0 a1 a2 a3 a4 a5,ChO (fun κ=>r2 κ a0 a1 a2 a3 a4 a5) (r2' a0 a1 a2 a3 a4 a5)) (a_1:Int) (b_1:Int) (wasBalanced:Bool) (wasPartitioned:Bool) (limit_2:Int) (pivot:Int) (data_4:Tp16):ChO (fun κ=>zbq (zab κ) a_1 b_1 wasBalanced wasPartitioned (r2 κ) limit_2 pivot data_4) (zbq zag a_1 b_1 wasBalanced wasPartitioned r2' limit_2 pivot data_4):=by
  unfold zbq
  repeat' with_reducible first | exact ChO.const _ | exact zah _ _ _ _ | exact h_r2 _ _ _ _ _ _ | (apply zbv<;>assumption) | apply ChO.ite | apply ChO.G | apply ChO.both | (apply ChO.bind;intro _) | (apply ChO.bind2 (zah _ _ _ _);intro _)
theorem zci (zab:Nat->Tf13) (zag:Tf13) (zah:∀ a0 a1 a2 a3,ChO (fun κ=>zab κ a0 a1 a2 a3) (zag a0 a1 a2 a3)) (r2:Nat->Tf8) (r2':Tf8) (h_r2:∀ a0 a1 a2 a3 a4 a5,ChO (fun κ=>r2 κ a0 a1 a2 a3 a4 a5) (r2' a0 a1 a2 a3 a4 a5)) (a_1:Int) (b_1:Int) (wasBalanced:Bool) (wasPartitioned:Bool) (limit_2:Int) (pivot:Int) (data_3:Tp16) (t:Bool):ChO (fun κ=>za7 (zab κ) a_1 b_1 wasBalanced wasPartitioned (r2 κ) limit_2 pivot data_3 t) (za7 zag a_1 b_1 wasBalanced wasPartitioned r2' limit_2 pivot data_3 t):=by
  unfold za7
  repeat' with_reducible first | exact ChO.const _ | exact zah _ _ _ _ | exact h_r2 _ _ _ _ _ _ | (apply zbv<;>assumption) | (apply zbU<;>assumption) | apply ChO.ite | apply ChO.G | apply ChO.both | (apply ChO.bind;intro _) | (apply ChO.bind2 (zah _ _ _ _);intro _)
theorem zds (zab:Nat->Tf13) (zag:Tf13) (zah:∀ a0 a1 a2 a3,ChO (fun κ=>zab κ a0 a1 a2 a3) (zag a0 a1 a2 a3)) (r2:Nat->Tf8) (r2':Tf8) (h_r2:∀ a0 a1 a2 a3 a4 a5,ChO (fun κ=>r2 κ a0 a1 a2 a3 a4 a5) (r2' a0 a1 a2 a3 a4 a5)) (a_1:Int) (b_1:Int) (wasBalanced:Bool) (wasPartitioned:Bool) (limit_2:Int) (pivot:Int) (hint:Int) (data_3:Tp16):ChO (fun κ=>zbp (zab κ) a_1 b_1 wasBalanced wasPartitioned (r2 κ) limit_2 pivot hint data_3) (zbp zag a_1 b_1 wasBalanced wasPartitioned r2' limit_2 pivot hint data_3):=by
  unfold zbp
  repeat' with_reducible first | exact ChO.const _ | exact zah _ _ _ _ | exact h_r2 _ _ _ _ _ _ | (apply zbv<;>assumption) | (apply zbU<;>assumption) | (apply zci<;>assumption) | apply ChO.ite | apply ChO.G | apply ChO.both | (apply ChO.bind;intro _) | (apply ChO.bind2 (zah _ _ _ _);intro _)
theorem zfE (zab:Nat->Tf13) (zag:Tf13) (zah:∀ a0 a1 a2 a3,ChO (fun κ=>zab κ a0 a1 a2 a3) (zag a0 a1 a2 a3)) (r2:Nat->Tf8) (r2':Tf8) (h_r2:∀ a0 a1 a2 a3 a4 a5,ChO (fun κ=>r2 κ a0 a1 a2 a3 a4 a5) (r2' a0 a1 a2 a3 a4 a5)) (a_1:Int) (b_1:Int) (wasBalanced:Bool) (wasPartitioned:Bool) (limit_2:Int) (data_2:Tp16):ChO (fun κ=>zbB (zab κ) a_1 b_1 wasBalanced wasPartitioned (r2 κ) limit_2 data_2) (zbB zag a_1 b_1 wasBalanced wasPartitioned r2' limit_2 data_2):=by
  unfold zbB
  repeat' with_reducible first | exact ChO.const _ | exact zah _ _ _ _ | exact h_r2 _ _ _ _ _ _ | (apply zbv<;>assumption) | (apply zbU<;>assumption) | (apply zci<;>assumption) | (apply zds<;>assumption) | apply ChO.ite | apply ChO.G | apply ChO.both | (apply ChO.bind;intro _) | (apply ChO.bind2 (zah _ _ _ _);intro _)
theorem ze0 (zab:Nat->Tf13) (zag:Tf13) (zah:∀ a0 a1 a2 a3,ChO (fun κ=>zab κ a0 a1 a2 a3) (zag a0 a1 a2 a3)) (r2:Nat->Tf8) (r2':Tf8) (h_r2:∀ a0 a1 a2 a3 a4 a5,ChO (fun κ=>r2 κ a0 a1 a2 a3 a4 a5) (r2' a0 a1 a2 a3 a4 a5)) (a_1:Int) (b_1:Int) (limit_1:Int) (wasBalanced:Bool) (wasPartitioned:Bool) (data_1:Tp16):ChO (fun κ=>zbE (zab κ) (r2 κ) a_1 b_1 limit_1 wasBalanced wasPartitioned data_1) (zbE zag r2' a_1 b_1 limit_1 wasBalanced wasPartitioned data_1):=by
  unfold zbE
  repeat' with_reducible first | exact ChO.const _ | exact zah _ _ _ _ | exact h_r2 _ _ _ _ _ _ | (apply zbv<;>assumption) | (apply zbU<;>assumption) | (apply zci<;>assumption) | (apply zds<;>assumption) | (apply zfE<;>assumption) | apply ChO.ite | apply ChO.G | apply ChO.both | (apply ChO.bind;intro _) | (apply ChO.bind2 (zah _ _ _ _);intro _)
theorem zdE (zab:Tf13):Cn (zfS zab):=fun g h hg x=>ze0 (fun _=>zab) zab (fun _ _ _ _=>ChO.const _) (fun κ a_1 b_1 limit_1 wasBalanced wasPartitioned data_1=>g κ (a_1,b_1,limit_1,wasBalanced,wasPartitioned,data_1)) (fun a_1 b_1 limit_1 wasBalanced wasPartitioned data_1=>h (a_1,b_1,limit_1,wasBalanced,wasPartitioned,data_1)) (fun a_1 b_1 limit_1 wasBalanced wasPartitioned data_1=>hg (a_1,b_1,limit_1,wasBalanced,wasPartitioned,data_1))  x.1 x.2.1 x.2.2.1 x.2.2.2.1 x.2.2.2.2.1 x.2.2.2.2.2
theorem zjn (zab:Tf13)  (a_1:Int) (b_1:Int) (limit_1:Int) (wasBalanced:Bool) (wasPartitioned:Bool) (data_1:Tp16):zal zab a_1 b_1 limit_1 wasBalanced wasPartitioned data_1=zbE zab (zal zab) a_1 b_1 limit_1 wasBalanced wasPartitioned data_1:=zaE (zdE zab) (a_1,b_1,limit_1,wasBalanced,wasPartitioned,data_1)
theorem zjm (zab:Nat->Tf13) (zag:Tf13) (zah:∀ a0 a1 a2 a3,ChO (fun κ=>zab κ a0 a1 a2 a3) (zag a0 a1 a2 a3))  (a_1:Int) (b_1:Int) (limit_1:Int) (wasBalanced:Bool) (wasPartitioned:Bool) (data_1:Tp16):ChO (fun κ=>zal (zab κ) a_1 b_1 limit_1 wasBalanced wasPartitioned data_1) (zal zag a_1 b_1 limit_1 wasBalanced wasPartitioned data_1):=by
  unfold zal
  exact zdV (fun κ=>(zdE (zab κ) ).mono) (zdE zag ).mono (fun g h hg x=>ze0 zab zag zah (fun κ a_1 b_1 limit_1 wasBalanced wasPartitioned data_1=>g κ (a_1,b_1,limit_1,wasBalanced,wasPartitioned,data_1)) (fun a_1 b_1 limit_1 wasBalanced wasPartitioned data_1=>h (a_1,b_1,limit_1,wasBalanced,wasPartitioned,data_1)) (fun a_1 b_1 limit_1 wasBalanced wasPartitioned data_1=>hg (a_1,b_1,limit_1,wasBalanced,wasPartitioned,data_1))  x.1 x.2.1 x.2.2.1 x.2.2.2.1 x.2.2.2.2.1 x.2.2.2.2.2) _
theorem zju (zab:Nat->Tf13) (zag:Tf13) (zah:∀ a0 a1 a2 a3,ChO (fun κ=>zab κ a0 a1 a2 a3) (zag a0 a1 a2 a3)) (a:Int) (b:Int) (limit:Int) (data:Tp16):ChO (fun κ=>zb2 (zab κ) a b limit data) (zb2 zag a b limit data):=by
  unfold zb2
  repeat' with_reducible first | exact ChO.const _ | exact zah _ _ _ _ | (apply zbv<;>assumption) | (apply zbU<;>assumption) | (apply zci<;>assumption) | (apply zds<;>assumption) | (apply zfE<;>assumption) | (apply zjm<;>assumption) | apply ChO.ite | apply ChO.G | apply ChO.both | (apply ChO.bind;intro _) | (apply ChO.bind2 (zah _ _ _ _);intro _)
def zdr:(Int×Int×Int×Tp16->Option Tp16)->Int×Int×Int×Tp16->Option Tp16:=
  fun rec X=>zb2 (fun a b limit data=>rec (a,b,limit,data)) X.1 X.2.1 X.2.2.1 X.2.2.2
def zak (a:Int) (b:Int) (limit:Int) (data:Tp16):Option Tp16:=LFix zdr (a,b,limit,data)
theorem zkA:Cn zdr:=fun g h hg X=>zju _ _ (fun a b limit data=>hg (a,b,limit,data)) X.1 X.2.1 X.2.2.1 X.2.2.2
theorem zkB (a:Int) (b:Int) (limit:Int) (data:Tp16):zak a b limit data=zb2 zak a b limit data:=zaE zkA (a,b,limit,data)

def zkY (x':Tp16):Option Tp16:=
  (zni (IntKind.wrap .u64 (x'.length:Int))).bind (fun y'=>
  (zak (0:Int) (x'.length:Int) y' x').bind (fun y'_1=>
  some y'_1))

def zcc (s:Tp16) (k:Int) (r9:Tf16) (k_1:Int) (k2:Int) (s_1:Tp16):Option Tp16:=
  if (decide (k2 < ((s.length - (k).toNat:Nat):Int)))=true then
  G (0<=k2/\k2 < ((s.length - (k).toNat:Nat):Int)) (
  G ((((((k).toNat)+(k2).toNat:Nat):Int)).toNat < s_1.length) (
  G (fits (k2 - (1:Int))) (
  G (0<=k2 - (1:Int)/\k2 - (1:Int) < ((s.length - (k).toNat:Nat):Int)) (
  G ((((((k).toNat)+(k2 - (1:Int)).toNat:Nat):Int)).toNat < s_1.length) (
  if (decide (¬ (ix s_1 ((((k).toNat)+(k2).toNat:Nat):Int))=(ix s_1 ((((k).toNat)+(k2 - (1:Int)).toNat:Nat):Int))))=true then
  G (0<=k2/\k2 < ((s.length - (k).toNat:Nat):Int)) (
  G ((((((k).toNat)+(k2).toNat:Nat):Int)).toNat < s_1.length) (
  G (0<=k_1/\k_1 < (s_1.length:Int)) (
  G ((k_1).toNat < s_1.length) (
  G (fits (k_1+(1:Int))) (
  G (fits (k2+(1:Int))) (
  r9 (k_1+(1:Int)) (k2+(1:Int)) (s_1.set (k_1).toNat (ix s_1 ((((k).toNat)+(k2).toNat:Nat):Int))))))))) else
  G (fits (k2+(1:Int))) (
  r9 k_1 (k2+(1:Int)) s_1)))))) else
  G (0<=k_1/\k_1<=(s_1.length:Int)) (
  G (((k_1).toNat)+(s_1.length - (k_1).toNat)<=s_1.length) (
  G (0<=k_1/\k_1<=((s_1.take ((k_1).toNat)++List.replicate (s_1.length - (k_1).toNat) (0:Int)++s_1.drop (((k_1).toNat)+(s_1.length - (k_1).toNat))).length:Int)) (
  some ((s_1.take ((k_1).toNat)++List.replicate (s_1.length - (k_1).toNat) (0:Int)++s_1.drop (((k_1).toNat)+(s_1.length - (k_1).toNat))).take (k_1).toNat))))
def zjk (s:Tp16) (k:Int):(Int×Int×Tp16->Option Tp16)->Int×Int×Tp16->Option Tp16:=
  fun rec x=>zcc s k (fun k_1 k2 s_1=>rec (k_1,k2,s_1)) x.1 x.2.1 x.2.2
def zfJ (s:Tp16) (k:Int) (k_1:Int) (k2:Int) (s_1:Tp16):Option Tp16:=LFix (zjk s k ) (k_1,k2,s_1)
def zcb (s:Tp16) (r4:Int->Option Tp16) (k:Int):Option Tp16:=
  if (decide (k < (s.length:Int)))=true then
  G (0<=k/\k < (s.length:Int)) (
  G ((k).toNat < s.length) (
  G (fits (k - (1:Int))) (
  G (0<=k - (1:Int)/\k - (1:Int) < (s.length:Int)) (
  G ((k - (1:Int)).toNat < s.length) (
  if (decide ((ix s k)=(ix s (k - (1:Int)))))=true then
  G (0<=k/\k<=(s.length:Int)) (
  zfJ s k k (1:Int) s) else
  G (fits (k+(1:Int))) (
  r4 (k+(1:Int)))))))) else
  some s
def zjj (s:Tp16):(Int->Option Tp16)->Int->Option Tp16:=
  fun rec x=>zcb s (fun k=>rec k) x
def zfI (s:Tp16) (k:Int):Option Tp16:=LFix (zjj s ) k
def zd3 (s:Tp16):Option Tp16:=
  if (decide ((s.length:Int) < (2:Int)))=true then
  some s else
  zfI s (1:Int)
theorem zlr (r9:Nat->Tf16) (r9':Tf16) (h_r9:∀ a0 a1 a2,ChO (fun κ=>r9 κ a0 a1 a2) (r9' a0 a1 a2)) (s:Tp16) (k:Int) (k_1:Int) (k2:Int) (s_1:Tp16):ChO (fun κ=>zcc s k (r9 κ) k_1 k2 s_1) (zcc s k r9' k_1 k2 s_1):=by
  unfold zcc
  repeat' with_reducible first | exact ChO.const _ | exact h_r9 _ _ _ | apply ChO.ite | apply ChO.G | apply ChO.both | (apply ChO.bind;intro _)
theorem zmB  (s:Tp16) (k:Int):Cn (zjk s k):=fun g h hg x=>zlr  (fun κ k_1 k2 s_1=>g κ (k_1,k2,s_1)) (fun k_1 k2 s_1=>h (k_1,k2,s_1)) (fun k_1 k2 s_1=>hg (k_1,k2,s_1)) s k x.1 x.2.1 x.2.2
theorem ziz  (s:Tp16) (k:Int) (k_1:Int) (k2:Int) (s_1:Tp16):zfJ s k k_1 k2 s_1=zcc s k (zfJ s k) k_1 k2 s_1:=zaE (zmB s k) (k_1,k2,s_1)
theorem zlq (r4:Nat->Int->Option Tp16) (r4':Int->Option Tp16) (h_r4:∀ a0,ChO (fun κ=>r4 κ a0) (r4' a0)) (s:Tp16) (k:Int):ChO (fun κ=>zcb s (r4 κ) k) (zcb s r4' k):=by
  unfold zcb
  repeat' with_reducible first | exact ChO.const _ | exact h_r4 _ | apply ChO.ite | apply ChO.G | apply ChO.both | (apply ChO.bind;intro _)
theorem zmA  (s:Tp16):Cn (zjj s):=fun g h hg x=>zlq  (fun κ k=>g κ k) (fun k=>h k) (fun k=>hg k) s x
theorem ziy  (s:Tp16) (k:Int):zfI s k=zcb s (zfI s) k:=zaE (zmA s) k

def zjI (s:Tp16):Option Tp16:=
  if s.length=0 then both [(.list (.int .i64))] (
  some ([])) (
  G (room ([]:List Int) s 8) (
  some (([]:List Int)++s))) else
  G (room ([]:List Int) s 8) (
  some (([]:List Int)++s))

def za1 (c_2:Tp14) (within:Tp15) (t:Int) (r4:(Int->Tp16->Option Tp1)) (r7:Int->Tp16->Option Tp1) (t_1:Int) (left_1:Tp16):Option Tp1:=
  if (decide (t_1 < ((ix c_2 t).length:Int)))=true then
  G (0<=t_1/\t_1 < ((ix c_2 t).length:Int)) (
  G (0<=ix (ix c_2 t) t_1/\ix (ix c_2 t) t_1 < (within.length:Int)) (
  G ((ix (ix c_2 t) t_1).toNat < within.length) (
  if (ix within (ix (ix c_2 t) t_1))=true then
  G (0<=t/\t < (left_1.length:Int)) (
  G ((t).toNat < left_1.length) (
  G (fits ((ix left_1 t)+(1:Int))) (
  G (0<=t/\t < (left_1.length:Int)) (
  G ((t).toNat < left_1.length) (
  G (fits (t_1+(1:Int))) (
  r7 (t_1+(1:Int)) (left_1.set (t).toNat ((ix left_1 t)+(1:Int))))))))) else
  G (fits (t_1+(1:Int))) (
  r7 (t_1+(1:Int)) left_1)))) else
  G (fits (t+(1:Int))) (
  r4 (t+(1:Int)) left_1)
def zfL (c_2:Tp14) (within:Tp15) (t:Int) (r4:(Int->Tp16->Option Tp1)):(Int×Tp16->Option Tp1)->Int×Tp16->Option Tp1:=
  fun rec x=>za1 c_2 within t r4 (fun t_1 left_1=>rec (t_1,left_1)) x.1 x.2
def zby (c_2:Tp14) (within:Tp15) (t:Int) (r4:(Int->Tp16->Option Tp1)) (t_1:Int) (left_1:Tp16):Option Tp1:=LFix (zfL c_2 within t r4 ) (t_1,left_1)
def zbo (s_3:Tp14) (row:Tp16) (t_3:Int) (in'_2:Tp15) (left_3:Tp16) (row_1:Tp16) (r22:(Int->Tp16->Tp16->Tp14->Tp14->Tp15->Tp16->Tp16->Tp16->Tp16->Option Tp1)) (s_8:Tp16) (s_9:Tp16) (s_10:Tp14) (s_11:Tp14) (l_6:Tp16) (l_7:Tp16):Option Tp1:=
  G (0<=ix (ix s_3 (ix row (0:Int))) t_3/\ix (ix s_3 (ix row (0:Int))) t_3 < (in'_2.length:Int)) (
  G ((ix (ix s_3 (ix row (0:Int))) t_3).toNat < in'_2.length) (
  G (room row_1 ([ix (ix s_3 (ix row (0:Int))) t_3]) 8) (
  G (fits (t_3+(1:Int))) (
  r22 (t_3+(1:Int)) s_8 s_9 s_10 s_11 (in'_2.set (ix (ix s_3 (ix row (0:Int))) t_3).toNat true) (left_3.set (ix (ix s_3 (ix row (0:Int))) t_3).toNat ((ix left_3 (ix (ix s_3 (ix row (0:Int))) t_3)) - (1:Int))) (row_1++([ix (ix s_3 (ix row (0:Int))) t_3])) l_6 l_7))))
def zan (player:Int) (within:Tp15) (s_3:Tp14) (row:Tp16) (r19:(Tp16->Tp16->Tp14->Tp14->Tp15->Tp16->Tp16->Tp16->Tp16->Option Tp1)) (r22:Tf1) (t_3:Int) (s_4:Tp16) (s_5:Tp16) (s_6:Tp14) (s_7:Tp14) (in'_2:Tp15) (left_3:Tp16) (row_1:Tp16) (l_4:Tp16) (l_5:Tp16):Option Tp1:=
  if (decide (t_3 < ((ix s_3 (ix row (0:Int))).length:Int)))=true then
  G (0<=t_3/\t_3 < ((ix s_3 (ix row (0:Int))).length:Int)) (
  G (0<=ix (ix s_3 (ix row (0:Int))) t_3/\ix (ix s_3 (ix row (0:Int))) t_3 < (within.length:Int)) (
  G ((ix (ix s_3 (ix row (0:Int))) t_3).toNat < within.length) (
  if (!(ix within (ix (ix s_3 (ix row (0:Int))) t_3)))=true then
  G (fits (t_3+(1:Int))) (
  r22 (t_3+(1:Int)) s_4 s_5 s_6 s_7 in'_2 left_3 row_1 l_4 l_5) else
  G (0<=ix (ix s_3 (ix row (0:Int))) t_3/\ix (ix s_3 (ix row (0:Int))) t_3 < (in'_2.length:Int)) (
  G ((ix (ix s_3 (ix row (0:Int))) t_3).toNat < in'_2.length) (
  if (ix in'_2 (ix (ix s_3 (ix row (0:Int))) t_3))=true then
  G (fits (t_3+(1:Int))) (
  r22 (t_3+(1:Int)) s_4 s_5 s_6 s_7 in'_2 left_3 row_1 l_4 l_5) else
  G (0<=ix (ix s_3 (ix row (0:Int))) t_3/\ix (ix s_3 (ix row (0:Int))) t_3 < (left_3.length:Int)) (
  G ((ix (ix s_3 (ix row (0:Int))) t_3).toNat < left_3.length) (
  G (fits ((ix left_3 (ix (ix s_3 (ix row (0:Int))) t_3)) - (1:Int))) (
  G (0<=ix (ix s_3 (ix row (0:Int))) t_3/\ix (ix s_3 (ix row (0:Int))) t_3 < (left_3.length:Int)) (
  G ((ix (ix s_3 (ix row (0:Int))) t_3).toNat < left_3.length) (
  G (0<=ix (ix s_3 (ix row (0:Int))) t_3/\ix (ix s_3 (ix row (0:Int))) t_3 < (s_4.length:Int)) (
  if (decide ((ix s_4 (ix (ix s_3 (ix row (0:Int))) t_3))=player))=true then
  G (0<=(0:Int)/\(0:Int) < (row_1.length:Int)) (
  G (((0:Int)).toNat < row_1.length) (
  G (0<=ix (ix s_3 (ix row (0:Int))) t_3/\ix (ix s_3 (ix row (0:Int))) t_3 < (l_5.length:Int)) (
  G ((ix (ix s_3 (ix row (0:Int))) t_3).toNat < l_5.length) (
  zbo s_3 row t_3 in'_2 left_3 row_1 r22 s_4 s_5 s_6 s_7 l_4 (l_5.set (ix (ix s_3 (ix row (0:Int))) t_3).toNat (ix row_1 (0:Int))))))) else
  G (0<=ix (ix s_3 (ix row (0:Int))) t_3/\ix (ix s_3 (ix row (0:Int))) t_3 < ((left_3.set (ix (ix s_3 (ix row (0:Int))) t_3).toNat ((ix left_3 (ix (ix s_3 (ix row (0:Int))) t_3)) - (1:Int))).length:Int)) (
  G ((ix (ix s_3 (ix row (0:Int))) t_3).toNat < (left_3.set (ix (ix s_3 (ix row (0:Int))) t_3).toNat ((ix left_3 (ix (ix s_3 (ix row (0:Int))) t_3)) - (1:Int))).length) (
  if (decide ((0:Int) < (ix (left_3.set (ix (ix s_3 (ix row (0:Int))) t_3).toNat ((ix left_3 (ix (ix s_3 (ix row (0:Int))) t_3)) - (1:Int))) (ix (ix s_3 (ix row (0:Int))) t_3))))=true then
  G (fits (t_3+(1:Int))) (
  r22 (t_3+(1:Int)) s_4 s_5 s_6 s_7 in'_2 (left_3.set (ix (ix s_3 (ix row (0:Int))) t_3).toNat ((ix left_3 (ix (ix s_3 (ix row (0:Int))) t_3)) - (1:Int))) row_1 l_4 l_5) else
  zbo s_3 row t_3 in'_2 left_3 row_1 r22 s_4 s_5 s_6 s_7 l_4 l_5))))))))))))) else
  G (0<=(1:Int)/\(1:Int)<=(row_1.length:Int)) (
  r19 s_4 s_5 s_6 s_7 in'_2 left_3 (row_1.drop ((1:Int)).toNat) l_4 l_5)
def zfj (player:Int) (within:Tp15) (s_3:Tp14) (row:Tp16) (r19:(Tp16->Tp16->Tp14->Tp14->Tp15->Tp16->Tp16->Tp16->Tp16->Option Tp1)):(Int×Tp16×Tp16×Tp14×Tp14×Tp15×Tp16×Tp16×Tp16×Tp16->Option Tp1)->Int×Tp16×Tp16×Tp14×Tp14×Tp15×Tp16×Tp16×Tp16×Tp16->Option Tp1:=
  fun rec x=>zan player within s_3 row r19 (fun t_3 s_4 s_5 s_6 s_7 in'_2 left_3 row_1 l_4 l_5=>rec (t_3,s_4,s_5,s_6,s_7,in'_2,left_3,row_1,l_4,l_5)) x.1 x.2.1 x.2.2.1 x.2.2.2.1 x.2.2.2.2.1 x.2.2.2.2.2.1 x.2.2.2.2.2.2.1 x.2.2.2.2.2.2.2.1 x.2.2.2.2.2.2.2.2.1 x.2.2.2.2.2.2.2.2.2
def zaB (player:Int) (within:Tp15) (s_3:Tp14) (row:Tp16) (r19:(Tp16->Tp16->Tp14->Tp14->Tp15->Tp16->Tp16->Tp16->Tp16->Option Tp1)) (t_3:Int) (s_4:Tp16) (s_5:Tp16) (s_6:Tp14) (s_7:Tp14) (in'_2:Tp15) (left_3:Tp16) (row_1:Tp16) (l_4:Tp16) (l_5:Tp16):Option Tp1:=LFix (zfj player within s_3 row r19 ) (t_3,s_4,s_5,s_6,s_7,in'_2,left_3,row_1,l_4,l_5)
def zaT (player:Int) (to:Tp16) (within:Tp15) (r19:Tf2) (s:Tp16) (s_1:Tp16) (s_2:Tp14) (s_3:Tp14) (in'_1:Tp15) (left_2:Tp16) (row:Tp16) (l_2:Tp16) (l_3:Tp16):Option Tp1:=
  if (decide ((0:Int) < (row.length:Int)))=true then
  G (0<=(0:Int)/\(0:Int) < (row.length:Int)) (
  G (((0:Int)).toNat < row.length) (
  G (0<=ix row (0:Int)/\ix row (0:Int) < (s_3.length:Int)) (
  zaB player within s_3 row r19 (0:Int) s s_1 s_2 s_3 in'_1 left_2 row l_2 l_3))) else
  some (in'_1,s,s_1,s_2,s_3,l_2,l_3,to,within)
def zfi (player:Int) (to:Tp16) (within:Tp15):(Tp16×Tp16×Tp14×Tp14×Tp15×Tp16×Tp16×Tp16×Tp16->Option Tp1)->Tp16×Tp16×Tp14×Tp14×Tp15×Tp16×Tp16×Tp16×Tp16->Option Tp1:=
  fun rec x=>zaT player to within (fun s s_1 s_2 s_3 in'_1 left_2 row l_2 l_3=>rec (s,s_1,s_2,s_3,in'_1,left_2,row,l_2,l_3)) x.1 x.2.1 x.2.2.1 x.2.2.2.1 x.2.2.2.2.1 x.2.2.2.2.2.1 x.2.2.2.2.2.2.1 x.2.2.2.2.2.2.2.1 x.2.2.2.2.2.2.2.2
def zbM (player:Int) (to:Tp16) (within:Tp15) (s:Tp16) (s_1:Tp16) (s_2:Tp14) (s_3:Tp14) (in'_1:Tp15) (left_2:Tp16) (row:Tp16) (l_2:Tp16) (l_3:Tp16):Option Tp1:=LFix (zfi player to within ) (s,s_1,s_2,s_3,in'_1,left_2,row,l_2,l_3)
def za9 (player:Int) (c:Tp16) (c_1:Tp16) (c_2:Tp14) (c_3:Tp14) (to:Tp16) (within:Tp15) (l:Tp16) (l_1:Tp16) (left:Tp16) (r14:Int->Tp15->Option Tp1) (t_2:Int) (in':Tp15):Option Tp1:=
  if (decide (t_2 < (to.length:Int)))=true then
  G (0<=t_2/\t_2 < (to.length:Int)) (
  G ((t_2).toNat < to.length) (
  G (0<=ix to t_2/\ix to t_2 < (in'.length:Int)) (
  G ((ix to t_2).toNat < in'.length) (
  G (fits (t_2+(1:Int))) (
  r14 (t_2+(1:Int)) (in'.set (ix to t_2).toNat true)))))) else
  (zjI to).bind (fun y'=>
  zbM player to within c c_1 c_2 c_3 in' left y' l l_1)
def zfh (player:Int) (c:Tp16) (c_1:Tp16) (c_2:Tp14) (c_3:Tp14) (to:Tp16) (within:Tp15) (l:Tp16) (l_1:Tp16) (left:Tp16):(Int×Tp15->Option Tp1)->Int×Tp15->Option Tp1:=
  fun rec x=>za9 player c c_1 c_2 c_3 to within l l_1 left (fun t_2 in'=>rec (t_2,in')) x.1 x.2
def zb6 (player:Int) (c:Tp16) (c_1:Tp16) (c_2:Tp14) (c_3:Tp14) (to:Tp16) (within:Tp15) (l:Tp16) (l_1:Tp16) (left:Tp16) (t_2:Int) (in':Tp15):Option Tp1:=LFix (zfh player c c_1 c_2 c_3 to within l l_1 left ) (t_2,in')
def zbm (player:Int) (c:Tp16) (c_1:Tp16) (c_2:Tp14) (c_3:Tp14) (to:Tp16) (within:Tp15) (l:Tp16) (l_1:Tp16) (r4:Int->Tp16->Option Tp1) (t:Int) (left:Tp16):Option Tp1:=
  if (decide (t < (c_2.length:Int)))=true then
  G (0<=t/\t < (c_2.length:Int)) (
  zby c_2 within t r4 (0:Int) left) else
  zb6 player c c_1 c_2 c_3 to within l l_1 left (0:Int) (List.replicate ((c.length:Int)).toNat (false:Bool))
def zfK (player:Int) (c:Tp16) (c_1:Tp16) (c_2:Tp14) (c_3:Tp14) (to:Tp16) (within:Tp15) (l:Tp16) (l_1:Tp16):(Int×Tp16->Option Tp1)->Int×Tp16->Option Tp1:=
  fun rec x=>zbm player c c_1 c_2 c_3 to within l l_1 (fun t left=>rec (t,left)) x.1 x.2
def zcd (player:Int) (c:Tp16) (c_1:Tp16) (c_2:Tp14) (c_3:Tp14) (to:Tp16) (within:Tp15) (l:Tp16) (l_1:Tp16) (t:Int) (left:Tp16):Option Tp1:=LFix (zfK player c c_1 c_2 c_3 to within l l_1 ) (t,left)
def zcW (player:Int) (c:Tp16) (c_1:Tp16) (c_2:Tp14) (c_3:Tp14) (to:Tp16) (within:Tp15) (l:Tp16) (l_1:Tp16):Option Tp1:=
  G (mkOK (c.length:Int) (c.length:Int) 1) (
  G (mkOK (c.length:Int) (c.length:Int) 8) (
  zcd player c c_1 c_2 c_3 to within l l_1 (0:Int) (List.replicate ((c.length:Int)).toNat (0:Int))))
theorem zeS (r4:Nat->Int->Tp16->Option Tp1) (r4':Int->Tp16->Option Tp1) (h_r4:∀ a0 a1,ChO (fun κ=>r4 κ a0 a1) (r4' a0 a1)) (r7:Nat->Int->Tp16->Option Tp1) (r7':Int->Tp16->Option Tp1) (h_r7:∀ a0 a1,ChO (fun κ=>r7 κ a0 a1) (r7' a0 a1)) (c_2:Tp14) (within:Tp15) (t:Int) (t_1:Int) (left_1:Tp16):ChO (fun κ=>za1 c_2 within t (r4 κ) (r7 κ) t_1 left_1) (za1 c_2 within t r4' r7' t_1 left_1):=by
  unfold za1
  repeat' with_reducible first | exact ChO.const _ | exact h_r4 _ _ | exact h_r7 _ _ | apply ChO.ite | apply ChO.G | apply ChO.both | (apply ChO.bind;intro _)
theorem zdy (r4:Int->Tp16->Option Tp1) (c_2:Tp14) (within:Tp15) (t:Int):Cn (zfL c_2 within t r4):=fun g h hg x=>zeS (fun _=>r4) r4 (fun _ _=>ChO.const _) (fun κ t_1 left_1=>g κ (t_1,left_1)) (fun t_1 left_1=>h (t_1,left_1)) (fun t_1 left_1=>hg (t_1,left_1)) c_2 within t x.1 x.2
theorem zdz (r4:Int->Tp16->Option Tp1) (c_2:Tp14) (within:Tp15) (t:Int) (t_1:Int) (left_1:Tp16):zby c_2 within t r4 t_1 left_1=za1 c_2 within t r4 (zby c_2 within t r4) t_1 left_1:=zaE (zdy r4 c_2 within t) (t_1,left_1)
theorem zbX (r4:Nat->Int->Tp16->Option Tp1) (r4':Int->Tp16->Option Tp1) (h_r4:∀ a0 a1,ChO (fun κ=>r4 κ a0 a1) (r4' a0 a1)) (c_2:Tp14) (within:Tp15) (t:Int) (t_1:Int) (left_1:Tp16):ChO (fun κ=>zby c_2 within t (r4 κ) t_1 left_1) (zby c_2 within t r4' t_1 left_1):=by
  unfold zby
  exact zdV (fun κ=>(zdy (r4 κ) c_2 within t).mono) (zdy r4' c_2 within t).mono (fun g h hg x=>zeS r4 r4' h_r4 (fun κ t_1 left_1=>g κ (t_1,left_1)) (fun t_1 left_1=>h (t_1,left_1)) (fun t_1 left_1=>hg (t_1,left_1)) c_2 within t x.1 x.2) _
theorem zcf (r22:Nat->Tf1) (r22':Tf1) (h_r22:∀ a0 a1 a2 a3 a4 a5 a6 a7 a8 a9,ChO (fun κ=>r22 κ a0 a1 a2 a3 a4 a5 a6 a7 a8 a9) (r22' a0 a1 a2 a3 a4 a5 a6 a7 a8 a9)) (s_3:Tp14) (row:Tp16) (t_3:Int) (in'_2:Tp15) (left_3:Tp16) (row_1:Tp16) (s_8:Tp16) (s_9:Tp16) (s_10:Tp14) (s_11:Tp14) (l_6:Tp16) (l_7:Tp16):ChO (fun κ=>zbo s_3 row t_3 in'_2 left_3 row_1 (r22 κ) s_8 s_9 s_10 s_11 l_6 l_7) (zbo s_3 row t_3 in'_2 left_3 row_1 r22' s_8 s_9 s_10 s_11 l_6 l_7):=by
  unfold zbo
  repeat' with_reducible first | exact ChO.const _ | exact h_r22 _ _ _ _ _ _ _ _ _ _ | (apply zbX<;>assumption) | apply ChO.ite | apply ChO.G | apply ChO.both | (apply ChO.bind;intro _)
theorem zev (r19:Nat->Tf2) (r19':Tf2) (h_r19:∀ a0 a1 a2 a3 a4 a5 a6 a7 a8,ChO (fun κ=>r19 κ a0 a1 a2 a3 a4 a5 a6 a7 a8) (r19' a0 a1 a2 a3 a4 a5 a6 a7 a8)) (r22:Nat->Tf1) (r22':Tf1) (h_r22:∀ a0 a1 a2 a3 a4 a5 a6 a7 a8 a9,ChO (fun κ=>r22 κ a0 a1 a2 a3 a4 a5 a6 a7 a8 a9) (r22' a0 a1 a2 a3 a4 a5 a6 a7 a8 a9)) (player:Int) (within:Tp15) (s_3:Tp14) (row:Tp16) (t_3:Int) (s_4:Tp16) (s_5:Tp16) (s_6:Tp14) (s_7:Tp14) (in'_2:Tp15) (left_3:Tp16) (row_1:Tp16) (l_4:Tp16) (l_5:Tp16):ChO (fun κ=>zan player within s_3 row (r19 κ) (r22 κ) t_3 s_4 s_5 s_6 s_7 in'_2 left_3 row_1 l_4 l_5) (zan player within s_3 row r19' r22' t_3 s_4 s_5 s_6 s_7 in'_2 left_3 row_1 l_4 l_5):=by
  unfold zan
  repeat' with_reducible first | exact ChO.const _ | exact h_r19 _ _ _ _ _ _ _ _ _ | exact h_r22 _ _ _ _ _ _ _ _ _ _ | (apply zbX<;>assumption) | (apply zcf<;>assumption) | apply ChO.ite | apply ChO.G | apply ChO.both | (apply ChO.bind;intro _)
theorem zdm (r19:Tf2) (player:Int) (within:Tp15) (s_3:Tp14) (row:Tp16):Cn (zfj player within s_3 row r19):=fun g h hg x=>zev (fun _=>r19) r19 (fun _ _ _ _ _ _ _ _ _=>ChO.const _) (fun κ t_3 s_4 s_5 s_6 s_7 in'_2 left_3 row_1 l_4 l_5=>g κ (t_3,s_4,s_5,s_6,s_7,in'_2,left_3,row_1,l_4,l_5)) (fun t_3 s_4 s_5 s_6 s_7 in'_2 left_3 row_1 l_4 l_5=>h (t_3,s_4,s_5,s_6,s_7,in'_2,left_3,row_1,l_4,l_5)) (fun t_3 s_4 s_5 s_6 s_7 in'_2 left_3 row_1 l_4 l_5=>hg (t_3,s_4,s_5,s_6,s_7,in'_2,left_3,row_1,l_4,l_5)) player within s_3 row x.1 x.2.1 x.2.2.1 x.2.2.2.1 x.2.2.2.2.1 x.2.2.2.2.2.1 x.2.2.2.2.2.2.1 x.2.2.2.2.2.2.2.1 x.2.2.2.2.2.2.2.2.1 x.2.2.2.2.2.2.2.2.2
theorem ze4 (r19:Tf2) (player:Int) (within:Tp15) (s_3:Tp14) (row:Tp16) (t_3:Int) (s_4:Tp16) (s_5:Tp16) (s_6:Tp14) (s_7:Tp14) (in'_2:Tp15) (left_3:Tp16) (row_1:Tp16) (l_4:Tp16) (l_5:Tp16):zaB player within s_3 row r19 t_3 s_4 s_5 s_6 s_7 in'_2 left_3 row_1 l_4 l_5=zan player within s_3 row r19 (zaB player within s_3 row r19) t_3 s_4 s_5 s_6 s_7 in'_2 left_3 row_1 l_4 l_5:=zaE (zdm r19 player within s_3 row) (t_3,s_4,s_5,s_6,s_7,in'_2,left_3,row_1,l_4,l_5)
theorem zdl (r19:Nat->Tf2) (r19':Tf2) (h_r19:∀ a0 a1 a2 a3 a4 a5 a6 a7 a8,ChO (fun κ=>r19 κ a0 a1 a2 a3 a4 a5 a6 a7 a8) (r19' a0 a1 a2 a3 a4 a5 a6 a7 a8)) (player:Int) (within:Tp15) (s_3:Tp14) (row:Tp16) (t_3:Int) (s_4:Tp16) (s_5:Tp16) (s_6:Tp14) (s_7:Tp14) (in'_2:Tp15) (left_3:Tp16) (row_1:Tp16) (l_4:Tp16) (l_5:Tp16):ChO (fun κ=>zaB player within s_3 row (r19 κ) t_3 s_4 s_5 s_6 s_7 in'_2 left_3 row_1 l_4 l_5) (zaB player within s_3 row r19' t_3 s_4 s_5 s_6 s_7 in'_2 left_3 row_1 l_4 l_5):=by
  unfold zaB
  exact zdV (fun κ=>(zdm (r19 κ) player within s_3 row).mono) (zdm r19' player within s_3 row).mono (fun g h hg x=>zev r19 r19' h_r19 (fun κ t_3 s_4 s_5 s_6 s_7 in'_2 left_3 row_1 l_4 l_5=>g κ (t_3,s_4,s_5,s_6,s_7,in'_2,left_3,row_1,l_4,l_5)) (fun t_3 s_4 s_5 s_6 s_7 in'_2 left_3 row_1 l_4 l_5=>h (t_3,s_4,s_5,s_6,s_7,in'_2,left_3,row_1,l_4,l_5)) (fun t_3 s_4 s_5 s_6 s_7 in'_2 left_3 row_1 l_4 l_5=>hg (t_3,s_4,s_5,s_6,s_7,in'_2,left_3,row_1,l_4,l_5)) player within s_3 row x.1 x.2.1 x.2.2.1 x.2.2.2.1 x.2.2.2.2.1 x.2.2.2.2.2.1 x.2.2.2.2.2.2.1 x.2.2.2.2.2.2.2.1 x.2.2.2.2.2.2.2.2.1 x.2.2.2.2.2.2.2.2.2) _
theorem zhX (r19:Nat->Tf2) (r19':Tf2) (h_r19:∀ a0 a1 a2 a3 a4 a5 a6 a7 a8,ChO (fun κ=>r19 κ a0 a1 a2 a3 a4 a5 a6 a7 a8) (r19' a0 a1 a2 a3 a4 a5 a6 a7 a8)) (player:Int) (to:Tp16) (within:Tp15) (s:Tp16) (s_1:Tp16) (s_2:Tp14) (s_3:Tp14) (in'_1:Tp15) (left_2:Tp16) (row:Tp16) (l_2:Tp16) (l_3:Tp16):ChO (fun κ=>zaT player to within (r19 κ) s s_1 s_2 s_3 in'_1 left_2 row l_2 l_3) (zaT player to within r19' s s_1 s_2 s_3 in'_1 left_2 row l_2 l_3):=by
  unfold zaT
  repeat' with_reducible first | exact ChO.const _ | exact h_r19 _ _ _ _ _ _ _ _ _ | (apply zbX<;>assumption) | (apply zcf<;>assumption) | (apply zdl<;>assumption) | apply ChO.ite | apply ChO.G | apply ChO.both | (apply ChO.bind;intro _)
theorem ziH  (player:Int) (to:Tp16) (within:Tp15):Cn (zfi player to within):=fun g h hg x=>zhX  (fun κ s s_1 s_2 s_3 in'_1 left_2 row l_2 l_3=>g κ (s,s_1,s_2,s_3,in'_1,left_2,row,l_2,l_3)) (fun s s_1 s_2 s_3 in'_1 left_2 row l_2 l_3=>h (s,s_1,s_2,s_3,in'_1,left_2,row,l_2,l_3)) (fun s s_1 s_2 s_3 in'_1 left_2 row l_2 l_3=>hg (s,s_1,s_2,s_3,in'_1,left_2,row,l_2,l_3)) player to within x.1 x.2.1 x.2.2.1 x.2.2.2.1 x.2.2.2.2.1 x.2.2.2.2.2.1 x.2.2.2.2.2.2.1 x.2.2.2.2.2.2.2.1 x.2.2.2.2.2.2.2.2
theorem zdk  (player:Int) (to:Tp16) (within:Tp15) (s:Tp16) (s_1:Tp16) (s_2:Tp14) (s_3:Tp14) (in'_1:Tp15) (left_2:Tp16) (row:Tp16) (l_2:Tp16) (l_3:Tp16):zbM player to within s s_1 s_2 s_3 in'_1 left_2 row l_2 l_3=zaT player to within (zbM player to within) s s_1 s_2 s_3 in'_1 left_2 row l_2 l_3:=zaE (ziH player to within) (s,s_1,s_2,s_3,in'_1,left_2,row,l_2,l_3)
theorem zhW (r14:Nat->Int->Tp15->Option Tp1) (r14':Int->Tp15->Option Tp1) (h_r14:∀ a0 a1,ChO (fun κ=>r14 κ a0 a1) (r14' a0 a1)) (player:Int) (c:Tp16) (c_1:Tp16) (c_2:Tp14) (c_3:Tp14) (to:Tp16) (within:Tp15) (l:Tp16) (l_1:Tp16) (left:Tp16) (t_2:Int) (in':Tp15):ChO (fun κ=>za9 player c c_1 c_2 c_3 to within l l_1 left (r14 κ) t_2 in') (za9 player c c_1 c_2 c_3 to within l l_1 left r14' t_2 in'):=by
  unfold za9
  repeat' with_reducible first | exact ChO.const _ | exact h_r14 _ _ | (apply zbX<;>assumption) | (apply zcf<;>assumption) | (apply zdl<;>assumption) | apply ChO.ite | apply ChO.G | apply ChO.both | (apply ChO.bind;intro _)
theorem ziG  (player:Int) (c:Tp16) (c_1:Tp16) (c_2:Tp14) (c_3:Tp14) (to:Tp16) (within:Tp15) (l:Tp16) (l_1:Tp16) (left:Tp16):Cn (zfh player c c_1 c_2 c_3 to within l l_1 left):=fun g h hg x=>zhW  (fun κ t_2 in'=>g κ (t_2,in')) (fun t_2 in'=>h (t_2,in')) (fun t_2 in'=>hg (t_2,in')) player c c_1 c_2 c_3 to within l l_1 left x.1 x.2
theorem ze3  (player:Int) (c:Tp16) (c_1:Tp16) (c_2:Tp14) (c_3:Tp14) (to:Tp16) (within:Tp15) (l:Tp16) (l_1:Tp16) (left:Tp16) (t_2:Int) (in':Tp15):zb6 player c c_1 c_2 c_3 to within l l_1 left t_2 in'=za9 player c c_1 c_2 c_3 to within l l_1 left (zb6 player c c_1 c_2 c_3 to within l l_1 left) t_2 in':=zaE (ziG player c c_1 c_2 c_3 to within l l_1 left) (t_2,in')
theorem zii (r4:Nat->Int->Tp16->Option Tp1) (r4':Int->Tp16->Option Tp1) (h_r4:∀ a0 a1,ChO (fun κ=>r4 κ a0 a1) (r4' a0 a1)) (player:Int) (c:Tp16) (c_1:Tp16) (c_2:Tp14) (c_3:Tp14) (to:Tp16) (within:Tp15) (l:Tp16) (l_1:Tp16) (t:Int) (left:Tp16):ChO (fun κ=>zbm player c c_1 c_2 c_3 to within l l_1 (r4 κ) t left) (zbm player c c_1 c_2 c_3 to within l l_1 r4' t left):=by
  unfold zbm
  repeat' with_reducible first | exact ChO.const _ | exact h_r4 _ _ | (apply zbX<;>assumption) | (apply zcf<;>assumption) | (apply zdl<;>assumption) | apply ChO.ite | apply ChO.G | apply ChO.both | (apply ChO.bind;intro _)
theorem zi3  (player:Int) (c:Tp16) (c_1:Tp16) (c_2:Tp14) (c_3:Tp14) (to:Tp16) (within:Tp15) (l:Tp16) (l_1:Tp16):Cn (zfK player c c_1 c_2 c_3 to within l l_1):=fun g h hg x=>zii  (fun κ t left=>g κ (t,left)) (fun t left=>h (t,left)) (fun t left=>hg (t,left)) player c c_1 c_2 c_3 to within l l_1 x.1 x.2
theorem zfk  (player:Int) (c:Tp16) (c_1:Tp16) (c_2:Tp14) (c_3:Tp14) (to:Tp16) (within:Tp15) (l:Tp16) (l_1:Tp16) (t:Int) (left:Tp16):zcd player c c_1 c_2 c_3 to within l l_1 t left=zbm player c c_1 c_2 c_3 to within l l_1 (zcd player c c_1 c_2 c_3 to within l l_1) t left:=zaE (zi3 player c c_1 c_2 c_3 to within l l_1) (t,left)

def zhR (s:Tp15):Option Tp15:=
  if s.length=0 then both [(.list .bool)] (
  some ([])) (
  G (room ([]:List Bool) s 1) (
  some (([]:List Bool)++s))) else
  G (room ([]:List Bool) s 1) (
  some (([]:List Bool)++s))

def zcL (a:Tp15) (b:Tp15) (r3:Int->Tp15->Option Tp15) (t:Int) (out:Tp15):Option Tp15:=
  if (decide (t < (b.length:Int)))=true then
  G (0<=t/\t < (a.length:Int)) (
  if (ix a t)=true then
  G (0<=t/\t < (b.length:Int)) (
  G (0<=t/\t < (out.length:Int)) (
  G ((t).toNat < out.length) (
  G (fits (t+(1:Int))) (
  r3 (t+(1:Int)) (out.set (t).toNat (!(ix b t))))))) else
  G (0<=t/\t < (out.length:Int)) (
  G ((t).toNat < out.length) (
  G (fits (t+(1:Int))) (
  r3 (t+(1:Int)) (out.set (t).toNat false))))) else
  some out
def zkh (a:Tp15) (b:Tp15):(Int×Tp15->Option Tp15)->Int×Tp15->Option Tp15:=
  fun rec x=>zcL a b (fun t out=>rec (t,out)) x.1 x.2
def zg1 (a:Tp15) (b:Tp15) (t:Int) (out:Tp15):Option Tp15:=LFix (zkh a b ) (t,out)
def zh0 (a:Tp15) (b:Tp15):Option Tp15:=
  (zhR a).bind (fun y'=>
  zg1 a b (0:Int) y')
theorem zmv (r3:Nat->Int->Tp15->Option Tp15) (r3':Int->Tp15->Option Tp15) (h_r3:∀ a0 a1,ChO (fun κ=>r3 κ a0 a1) (r3' a0 a1)) (a:Tp15) (b:Tp15) (t:Int) (out:Tp15):ChO (fun κ=>zcL a b (r3 κ) t out) (zcL a b r3' t out):=by
  unfold zcL
  repeat' with_reducible first | exact ChO.const _ | exact h_r3 _ _ | apply ChO.ite | apply ChO.G | apply ChO.both | (apply ChO.bind;intro _)
theorem znB  (a:Tp15) (b:Tp15):Cn (zkh a b):=fun g h hg x=>zmv  (fun κ t out=>g κ (t,out)) (fun t out=>h (t,out)) (fun t out=>hg (t,out)) a b x.1 x.2
theorem zjz  (a:Tp15) (b:Tp15) (t:Int) (out:Tp15):zg1 a b t out=zcL a b (zg1 a b) t out:=zaE (znB a b) (t,out)

def zeF (q:Int) (t:Tp15):Option (Bool):=
  G (0<=q/\q < (t.length:Int)) (
  some (ix t q))

def zcs (s:Tp16) (c:Tp15) (r2:Int->Option (Int)) (t:Int):Option (Int):=
  if (decide (t < (s.length:Int)))=true then
  G (0<=t/\t < (s.length:Int)) (
  (zeF (ix s t) c).bind (fun y'=>
  if y'=true then
  some t else
  G (fits (t+(1:Int))) (
  r2 (t+(1:Int))))) else
  some (-1:Int)
def zhf (s:Tp16) (c:Tp15):(Int->Option (Int))->Int->Option (Int):=
  fun rec x=>zcs s c (fun t=>rec t) x
def zfz (s:Tp16) (c:Tp15) (t:Int):Option (Int):=LFix (zhf s c ) t
def zhe (s:Tp16) (c:Tp15):Option (Int):=
  zfz s c (0:Int)
theorem zjs (r2:Nat->Int->Option (Int)) (r2':Int->Option (Int)) (h_r2:∀ a0,ChO (fun κ=>r2 κ a0) (r2' a0)) (s:Tp16) (c:Tp15) (t:Int):ChO (fun κ=>zcs s c (r2 κ) t) (zcs s c r2' t):=by
  unfold zcs
  repeat' with_reducible first | exact ChO.const _ | exact h_r2 _ | apply ChO.ite | apply ChO.G | apply ChO.both | (apply ChO.bind;intro _)
theorem zkw  (s:Tp16) (c:Tp15):Cn (zhf s c):=fun g h hg x=>zjs  (fun κ t=>g κ t) (fun t=>h t) (fun t=>hg t) s c x
theorem zkx  (s:Tp16) (c:Tp15) (t:Int):zfz s c t=zcs s c (zfz s c) t:=zaE (zkw s c) t

def zbZ (t_1:Int) (best:Tp16) (r12:(Int->Tp16->Option Tp2)) (t_2:Bool):Option Tp2:=
  if t_2=true then
  G (room best ([t_1]) 8) (
  G (fits (t_1+(1:Int))) (
  r12 (t_1+(1:Int)) (best++([t_1])))) else
  G (fits (t_1+(1:Int))) (
  r12 (t_1+(1:Int)) best)
def zb0 (t_3:Int) (lost:Tp16) (r22:(Int->Tp16->Option Tp2)) (t_4:Bool):Option Tp2:=
  if t_4=true then
  G (room lost ([t_3]) 8) (
  G (fits (t_3+(1:Int))) (
  r22 (t_3+(1:Int)) (lost++([t_3])))) else
  G (fits (t_3+(1:Int))) (
  r22 (t_3+(1:Int)) lost)
def zbH (least:Int) (y'_7:Tp16) (y'_8:Tp15) (r35:Tf7) (t_6:Int) (s_4:Tp16) (s_5:Tp16) (s_6:Tp14) (s_7:Tp14) (l_4:Tp16) (l_5:Tp16):Option Tp2:=
  if (decide (t_6 < (y'_7.length:Int)))=true then
  G (0<=t_6/\t_6 < (y'_7.length:Int)) (
  G ((t_6).toNat < y'_7.length) (
  G (0<=ix y'_7 t_6/\ix y'_7 t_6 < (s_4.length:Int)) (
  if (decide ((ix s_4 (ix y'_7 t_6))=(Int.tmod least (2:Int))))=true then
  G (0<=ix y'_7 t_6/\ix y'_7 t_6 < (s_6.length:Int)) (
  G (0<=ix y'_7 t_6/\ix y'_7 t_6 < (s_6.length:Int)) (
  (zhe (ix s_6 (ix y'_7 t_6)) y'_8).bind (fun y'_19=>
  G (0<=y'_19/\y'_19 < ((ix s_6 (ix y'_7 t_6)).length:Int)) (
  G (0<=ix y'_7 t_6/\ix y'_7 t_6 < (l_5.length:Int)) (
  G ((ix y'_7 t_6).toNat < l_5.length) (
  G (fits (t_6+(1:Int))) (
  r35 (t_6+(1:Int)) s_4 s_5 s_6 s_7 l_4 (l_5.set (ix y'_7 t_6).toNat (ix (ix s_6 (ix y'_7 t_6)) y'_19))))))))) else
  G (fits (t_6+(1:Int))) (
  r35 (t_6+(1:Int)) s_4 s_5 s_6 s_7 l_4 l_5)))) else
  some (s_4,s_5,s_6,s_7,l_4,l_5,y'_8)
def zgZ (least:Int) (y'_7:Tp16) (y'_8:Tp15):(Int×Tp16×Tp16×Tp14×Tp14×Tp16×Tp16->Option Tp2)->Int×Tp16×Tp16×Tp14×Tp14×Tp16×Tp16->Option Tp2:=
  fun rec x=>zbH least y'_7 y'_8 (fun t_6 s_4 s_5 s_6 s_7 l_4 l_5=>rec (t_6,s_4,s_5,s_6,s_7,l_4,l_5)) x.1 x.2.1 x.2.2.1 x.2.2.2.1 x.2.2.2.2.1 x.2.2.2.2.2.1 x.2.2.2.2.2.2
def zb1 (least:Int) (y'_7:Tp16) (y'_8:Tp15) (t_6:Int) (s_4:Tp16) (s_5:Tp16) (s_6:Tp14) (s_7:Tp14) (l_4:Tp16) (l_5:Tp16):Option Tp2:=LFix (zgZ least y'_7 y'_8 ) (t_6,s_4,s_5,s_6,s_7,l_4,l_5)
def zbG (least:Int) (y'_7:Tp16) (y'_8:Tp15) (r29:Tf7) (t_5:Int) (s:Tp16) (s_1:Tp16) (s_2:Tp14) (s_3:Tp14) (l_2:Tp16) (l_3:Tp16):Option Tp2:=
  if (decide (t_5 < (y'_8.length:Int)))=true then
  G (0<=t_5/\t_5 < (y'_8.length:Int)) (
  G ((t_5).toNat < y'_8.length) (
  if (ix y'_8 t_5)=true then
  G (0<=t_5/\t_5 < (l_2.length:Int)) (
  G ((t_5).toNat < l_2.length) (
  G (fits (t_5+(1:Int))) (
  r29 (t_5+(1:Int)) s s_1 s_2 s_3 (l_2.set (t_5).toNat (Int.tmod least (2:Int))) l_3))) else
  G (fits (t_5+(1:Int))) (
  r29 (t_5+(1:Int)) s s_1 s_2 s_3 l_2 l_3))) else
  zb1 least y'_7 y'_8 (0:Int) s s_1 s_2 s_3 l_2 l_3
def zgY (least:Int) (y'_7:Tp16) (y'_8:Tp15):(Int×Tp16×Tp16×Tp14×Tp14×Tp16×Tp16->Option Tp2)->Int×Tp16×Tp16×Tp14×Tp14×Tp16×Tp16->Option Tp2:=
  fun rec x=>zbG least y'_7 y'_8 (fun t_5 s s_1 s_2 s_3 l_2 l_3=>rec (t_5,s,s_1,s_2,s_3,l_2,l_3)) x.1 x.2.1 x.2.2.1 x.2.2.2.1 x.2.2.2.2.1 x.2.2.2.2.2.1 x.2.2.2.2.2.2
def zcX (least:Int) (y'_7:Tp16) (y'_8:Tp15) (t_5:Int) (s:Tp16) (s_1:Tp16) (s_2:Tp14) (s_3:Tp14) (l_2:Tp16) (l_3:Tp16):Option Tp2:=LFix (zgY least y'_7 y'_8 ) (t_5,s,s_1,s_2,s_3,l_2,l_3)
def zbI (zaa:Tf5) (least:Int) (y'_20:Tp15) (y'_28:Tp15) (r42:Tf7) (t_7:Int) (s_8:Tp16) (s_9:Tp16) (s_10:Tp14) (s_11:Tp14) (l_6:Tp16) (l_7:Tp16):Option Tp2:=
  if (decide (t_7 < (y'_20.length:Int)))=true then
  G (0<=t_7/\t_7 < (y'_20.length:Int)) (
  G ((t_7).toNat < y'_20.length) (
  if (ix y'_20 t_7)=true then
  G (fits ((1:Int) - (Int.tmod least (2:Int)))) (
  G (0<=t_7/\t_7 < (l_6.length:Int)) (
  G ((t_7).toNat < l_6.length) (
  G (fits (t_7+(1:Int))) (
  r42 (t_7+(1:Int)) s_8 s_9 s_10 s_11 (l_6.set (t_7).toNat ((1:Int) - (Int.tmod least (2:Int)))) l_7)))) else
  G (fits (t_7+(1:Int))) (
  r42 (t_7+(1:Int)) s_8 s_9 s_10 s_11 l_6 l_7))) else
  (zh0 y'_28 y'_20).bind (fun y'_30=>
  (zaa s_8 s_9 s_10 s_11 y'_30 l_6 l_7).bind (fun y'_39=>
  some (y'_39.1,y'_39.2.1,y'_39.2.2.1,y'_39.2.2.2.1,y'_39.2.2.2.2.1,y'_39.2.2.2.2.2.1,y'_28)))
def zg0 (zaa:Tf5) (least:Int) (y'_20:Tp15) (y'_28:Tp15):(Int×Tp16×Tp16×Tp14×Tp14×Tp16×Tp16->Option Tp2)->Int×Tp16×Tp16×Tp14×Tp14×Tp16×Tp16->Option Tp2:=
  fun rec x=>zbI zaa least y'_20 y'_28 (fun t_7 s_8 s_9 s_10 s_11 l_6 l_7=>rec (t_7,s_8,s_9,s_10,s_11,l_6,l_7)) x.1 x.2.1 x.2.2.1 x.2.2.2.1 x.2.2.2.2.1 x.2.2.2.2.2.1 x.2.2.2.2.2.2
def za6 (zaa:Tf5) (least:Int) (y'_20:Tp15) (y'_28:Tp15) (t_7:Int) (s_8:Tp16) (s_9:Tp16) (s_10:Tp14) (s_11:Tp14) (l_6:Tp16) (l_7:Tp16):Option Tp2:=LFix (zg0 zaa least y'_20 y'_28 ) (t_7,s_8,s_9,s_10,s_11,l_6,l_7)
def zbn (zaa:Tf5) (least:Int) (y'_7:Tp16) (y'_8:Tp15) (y'_11:Tp16) (y'_12:Tp16) (y'_13:Tp14) (y'_14:Tp14) (y'_15:Tp16) (y'_16:Tp16) (y'_17:Tp15) (r22:Int->Tp16->Option Tp2) (t_3:Int) (lost:Tp16):Option Tp2:=
  if (decide (t_3 < (y'_17.length:Int)))=true then
  G (0<=t_3/\t_3 < (y'_17.length:Int)) (
  G ((t_3).toNat < y'_17.length) (
  if (ix y'_17 t_3)=true then
  G (0<=t_3/\t_3 < (y'_15.length:Int)) (
  G ((t_3).toNat < y'_15.length) (
  zb0 t_3 lost r22 (decide (¬ (ix y'_15 t_3)=(Int.tmod least (2:Int)))))) else
  zb0 t_3 lost r22 false)) else
  if (decide ((lost.length:Int)=(0:Int)))=true then
  zcX least y'_7 y'_8 (0:Int) y'_11 y'_12 y'_13 y'_14 y'_15 y'_16 else
  G (fits ((1:Int) - (Int.tmod least (2:Int)))) (
  (zcW ((1:Int) - (Int.tmod least (2:Int))) y'_11 y'_12 y'_13 y'_14 lost y'_8 y'_15 y'_16).bind (fun y'_40=>
  za6 zaa least y'_40.1 y'_40.2.2.2.2.2.2.2.2 (0:Int) y'_40.2.1 y'_40.2.2.1 y'_40.2.2.2.1 y'_40.2.2.2.2.1 y'_40.2.2.2.2.2.1 y'_40.2.2.2.2.2.2.1))
def zgX (zaa:Tf5) (least:Int) (y'_7:Tp16) (y'_8:Tp15) (y'_11:Tp16) (y'_12:Tp16) (y'_13:Tp14) (y'_14:Tp14) (y'_15:Tp16) (y'_16:Tp16) (y'_17:Tp15):(Int×Tp16->Option Tp2)->Int×Tp16->Option Tp2:=
  fun rec x=>zbn zaa least y'_7 y'_8 y'_11 y'_12 y'_13 y'_14 y'_15 y'_16 y'_17 (fun t_3 lost=>rec (t_3,lost)) x.1 x.2
def zaC (zaa:Tf5) (least:Int) (y'_7:Tp16) (y'_8:Tp15) (y'_11:Tp16) (y'_12:Tp16) (y'_13:Tp14) (y'_14:Tp14) (y'_15:Tp16) (y'_16:Tp16) (y'_17:Tp15) (t_3:Int) (lost:Tp16):Option Tp2:=LFix (zgX zaa least y'_7 y'_8 y'_11 y'_12 y'_13 y'_14 y'_15 y'_16 y'_17 ) (t_3,lost)
def zbF (zaa:Tf5) (c:Tp16) (c_1:Tp16) (c_2:Tp14) (c_3:Tp14) (within:Tp15) (l:Tp16) (l_1:Tp16) (least:Int) (r12:Int->Tp16->Option Tp2) (t_1:Int) (best:Tp16):Option Tp2:=
  if (decide (t_1 < (within.length:Int)))=true then
  G (0<=t_1/\t_1 < (within.length:Int)) (
  G ((t_1).toNat < within.length) (
  if (ix within t_1)=true then
  G (0<=t_1/\t_1 < (c_1.length:Int)) (
  zbZ t_1 best r12 (decide ((ix c_1 t_1)=least))) else
  zbZ t_1 best r12 false)) else
  (zcW (Int.tmod least (2:Int)) c c_1 c_2 c_3 best within l l_1).bind (fun y'_42=>
  (zh0 y'_42.2.2.2.2.2.2.2.2 y'_42.1).bind (fun y'_10=>
  (zaa y'_42.2.1 y'_42.2.2.1 y'_42.2.2.2.1 y'_42.2.2.2.2.1 y'_10 y'_42.2.2.2.2.2.1 y'_42.2.2.2.2.2.2.1).bind (fun y'_41=>
  zaC zaa least y'_42.2.2.2.2.2.2.2.1 y'_42.2.2.2.2.2.2.2.2 y'_41.1 y'_41.2.1 y'_41.2.2.1 y'_41.2.2.2.1 y'_41.2.2.2.2.1 y'_41.2.2.2.2.2.1 y'_41.2.2.2.2.2.2 (0:Int) ([]))))
def zgW (zaa:Tf5) (c:Tp16) (c_1:Tp16) (c_2:Tp14) (c_3:Tp14) (within:Tp15) (l:Tp16) (l_1:Tp16) (least:Int):(Int×Tp16->Option Tp2)->Int×Tp16->Option Tp2:=
  fun rec x=>zbF zaa c c_1 c_2 c_3 within l l_1 least (fun t_1 best=>rec (t_1,best)) x.1 x.2
def zaH (zaa:Tf5) (c:Tp16) (c_1:Tp16) (c_2:Tp14) (c_3:Tp14) (within:Tp15) (l:Tp16) (l_1:Tp16) (least:Int) (t_1:Int) (best:Tp16):Option Tp2:=LFix (zgW zaa c c_1 c_2 c_3 within l l_1 least ) (t_1,best)
def zaA (zaa:Tf5) (c:Tp16) (c_1:Tp16) (c_2:Tp14) (c_3:Tp14) (within:Tp15) (l:Tp16) (l_1:Tp16) (r3:Int->Int->Option Tp2) (least:Int) (t:Int):Option Tp2:=
  if (decide (t < (within.length:Int)))=true then
  G (0<=t/\t < (within.length:Int)) (
  G ((t).toNat < within.length) (
  if (ix within t)=true then
  if (decide (least < (0:Int)))=true then
  G (0<=t/\t < (c_1.length:Int)) (
  G (fits (t+(1:Int))) (
  r3 (ix c_1 t) (t+(1:Int)))) else
  G (0<=t/\t < (c_1.length:Int)) (
  if (decide ((ix c_1 t) < least))=true then
  G (0<=t/\t < (c_1.length:Int)) (
  G (fits (t+(1:Int))) (
  r3 (ix c_1 t) (t+(1:Int)))) else
  G (fits (t+(1:Int))) (
  r3 least (t+(1:Int)))) else
  G (fits (t+(1:Int))) (
  r3 least (t+(1:Int))))) else
  if (decide (least < (0:Int)))=true then
  some (c,c_1,c_2,c_3,l,l_1,within) else
  G ((2:Int)≠0) (
  zaH zaa c c_1 c_2 c_3 within l l_1 least (0:Int) ([]))
def zhr (zaa:Tf5) (c:Tp16) (c_1:Tp16) (c_2:Tp14) (c_3:Tp14) (within:Tp15) (l:Tp16) (l_1:Tp16):(Int×Int->Option Tp2)->Int×Int->Option Tp2:=
  fun rec x=>zaA zaa c c_1 c_2 c_3 within l l_1 (fun least t=>rec (least,t)) x.1 x.2
def zat (zaa:Tf5) (c:Tp16) (c_1:Tp16) (c_2:Tp14) (c_3:Tp14) (within:Tp15) (l:Tp16) (l_1:Tp16) (least:Int) (t:Int):Option Tp2:=LFix (zhr zaa c c_1 c_2 c_3 within l l_1 ) (least,t)
def zbY (zaa:Tf5) (c:Tp16) (c_1:Tp16) (c_2:Tp14) (c_3:Tp14) (within:Tp15) (l:Tp16) (l_1:Tp16):Option Tp2:=
  zat zaa c c_1 c_2 c_3 within l l_1 (-1:Int) (0:Int)
theorem zbj (r12:Nat->Int->Tp16->Option Tp2) (r12':Int->Tp16->Option Tp2) (h_r12:∀ a0 a1,ChO (fun κ=>r12 κ a0 a1) (r12' a0 a1)) (t_1:Int) (best:Tp16) (t_2:Bool):ChO (fun κ=>zbZ t_1 best (r12 κ) t_2) (zbZ t_1 best r12' t_2):=by
  unfold zbZ
  repeat' with_reducible first | exact ChO.const _ | exact h_r12 _ _ | apply ChO.ite | apply ChO.G | apply ChO.both | (apply ChO.bind;intro _)
theorem zbA (r22:Nat->Int->Tp16->Option Tp2) (r22':Int->Tp16->Option Tp2) (h_r22:∀ a0 a1,ChO (fun κ=>r22 κ a0 a1) (r22' a0 a1)) (t_3:Int) (lost:Tp16) (t_4:Bool):ChO (fun κ=>zb0 t_3 lost (r22 κ) t_4) (zb0 t_3 lost r22' t_4):=by
  unfold zb0
  repeat' with_reducible first | exact ChO.const _ | exact h_r22 _ _ | (apply zbj<;>assumption) | apply ChO.ite | apply ChO.G | apply ChO.both | (apply ChO.bind;intro _)
theorem zjq (r35:Nat->Tf7) (r35':Tf7) (h_r35:∀ a0 a1 a2 a3 a4 a5 a6,ChO (fun κ=>r35 κ a0 a1 a2 a3 a4 a5 a6) (r35' a0 a1 a2 a3 a4 a5 a6)) (least:Int) (y'_7:Tp16) (y'_8:Tp15) (t_6:Int) (s_4:Tp16) (s_5:Tp16) (s_6:Tp14) (s_7:Tp14) (l_4:Tp16) (l_5:Tp16):ChO (fun κ=>zbH least y'_7 y'_8 (r35 κ) t_6 s_4 s_5 s_6 s_7 l_4 l_5) (zbH least y'_7 y'_8 r35' t_6 s_4 s_5 s_6 s_7 l_4 l_5):=by
  unfold zbH
  repeat' with_reducible first | exact ChO.const _ | exact h_r35 _ _ _ _ _ _ _ | (apply zbj<;>assumption) | (apply zbA<;>assumption) | apply ChO.ite | apply ChO.G | apply ChO.both | (apply ChO.bind;intro _)
theorem zkg  (least:Int) (y'_7:Tp16) (y'_8:Tp15):Cn (zgZ least y'_7 y'_8):=fun g h hg x=>zjq  (fun κ t_6 s_4 s_5 s_6 s_7 l_4 l_5=>g κ (t_6,s_4,s_5,s_6,s_7,l_4,l_5)) (fun t_6 s_4 s_5 s_6 s_7 l_4 l_5=>h (t_6,s_4,s_5,s_6,s_7,l_4,l_5)) (fun t_6 s_4 s_5 s_6 s_7 l_4 l_5=>hg (t_6,s_4,s_5,s_6,s_7,l_4,l_5)) least y'_7 y'_8 x.1 x.2.1 x.2.2.1 x.2.2.2.1 x.2.2.2.2.1 x.2.2.2.2.2.1 x.2.2.2.2.2.2
theorem zgy  (least:Int) (y'_7:Tp16) (y'_8:Tp15) (t_6:Int) (s_4:Tp16) (s_5:Tp16) (s_6:Tp14) (s_7:Tp14) (l_4:Tp16) (l_5:Tp16):zb1 least y'_7 y'_8 t_6 s_4 s_5 s_6 s_7 l_4 l_5=zbH least y'_7 y'_8 (zb1 least y'_7 y'_8) t_6 s_4 s_5 s_6 s_7 l_4 l_5:=zaE (zkg least y'_7 y'_8) (t_6,s_4,s_5,s_6,s_7,l_4,l_5)
theorem zjp (r29:Nat->Tf7) (r29':Tf7) (h_r29:∀ a0 a1 a2 a3 a4 a5 a6,ChO (fun κ=>r29 κ a0 a1 a2 a3 a4 a5 a6) (r29' a0 a1 a2 a3 a4 a5 a6)) (least:Int) (y'_7:Tp16) (y'_8:Tp15) (t_5:Int) (s:Tp16) (s_1:Tp16) (s_2:Tp14) (s_3:Tp14) (l_2:Tp16) (l_3:Tp16):ChO (fun κ=>zbG least y'_7 y'_8 (r29 κ) t_5 s s_1 s_2 s_3 l_2 l_3) (zbG least y'_7 y'_8 r29' t_5 s s_1 s_2 s_3 l_2 l_3):=by
  unfold zbG
  repeat' with_reducible first | exact ChO.const _ | exact h_r29 _ _ _ _ _ _ _ | (apply zbj<;>assumption) | (apply zbA<;>assumption) | apply ChO.ite | apply ChO.G | apply ChO.both | (apply ChO.bind;intro _)
theorem zkf  (least:Int) (y'_7:Tp16) (y'_8:Tp15):Cn (zgY least y'_7 y'_8):=fun g h hg x=>zjp  (fun κ t_5 s s_1 s_2 s_3 l_2 l_3=>g κ (t_5,s,s_1,s_2,s_3,l_2,l_3)) (fun t_5 s s_1 s_2 s_3 l_2 l_3=>h (t_5,s,s_1,s_2,s_3,l_2,l_3)) (fun t_5 s s_1 s_2 s_3 l_2 l_3=>hg (t_5,s,s_1,s_2,s_3,l_2,l_3)) least y'_7 y'_8 x.1 x.2.1 x.2.2.1 x.2.2.2.1 x.2.2.2.2.1 x.2.2.2.2.2.1 x.2.2.2.2.2.2
theorem zgx  (least:Int) (y'_7:Tp16) (y'_8:Tp15) (t_5:Int) (s:Tp16) (s_1:Tp16) (s_2:Tp14) (s_3:Tp14) (l_2:Tp16) (l_3:Tp16):zcX least y'_7 y'_8 t_5 s s_1 s_2 s_3 l_2 l_3=zbG least y'_7 y'_8 (zcX least y'_7 y'_8) t_5 s s_1 s_2 s_3 l_2 l_3:=zaE (zkf least y'_7 y'_8) (t_5,s,s_1,s_2,s_3,l_2,l_3)
theorem zfO (zaa:Nat->Tf5) (zae:Tf5) (zai:∀ a0 a1 a2 a3 a4 a5 a6,ChO (fun κ=>zaa κ a0 a1 a2 a3 a4 a5 a6) (zae a0 a1 a2 a3 a4 a5 a6)) (r42:Nat->Tf7) (r42':Tf7) (h_r42:∀ a0 a1 a2 a3 a4 a5 a6,ChO (fun κ=>r42 κ a0 a1 a2 a3 a4 a5 a6) (r42' a0 a1 a2 a3 a4 a5 a6)) (least:Int) (y'_20:Tp15) (y'_28:Tp15) (t_7:Int) (s_8:Tp16) (s_9:Tp16) (s_10:Tp14) (s_11:Tp14) (l_6:Tp16) (l_7:Tp16):ChO (fun κ=>zbI (zaa κ) least y'_20 y'_28 (r42 κ) t_7 s_8 s_9 s_10 s_11 l_6 l_7) (zbI zae least y'_20 y'_28 r42' t_7 s_8 s_9 s_10 s_11 l_6 l_7):=by
  unfold zbI
  repeat' with_reducible first | exact ChO.const _ | exact zai _ _ _ _ _ _ _ | exact h_r42 _ _ _ _ _ _ _ | (apply zbj<;>assumption) | (apply zbA<;>assumption) | apply ChO.ite | apply ChO.G | apply ChO.both | (apply ChO.bind;intro _) | (apply ChO.bind2 (zai _ _ _ _ _ _ _);intro _)
theorem zem (zaa:Tf5) (least:Int) (y'_20:Tp15) (y'_28:Tp15):Cn (zg0 zaa least y'_20 y'_28):=fun g h hg x=>zfO (fun _=>zaa) zaa (fun _ _ _ _ _ _ _=>ChO.const _) (fun κ t_7 s_8 s_9 s_10 s_11 l_6 l_7=>g κ (t_7,s_8,s_9,s_10,s_11,l_6,l_7)) (fun t_7 s_8 s_9 s_10 s_11 l_6 l_7=>h (t_7,s_8,s_9,s_10,s_11,l_6,l_7)) (fun t_7 s_8 s_9 s_10 s_11 l_6 l_7=>hg (t_7,s_8,s_9,s_10,s_11,l_6,l_7)) least y'_20 y'_28 x.1 x.2.1 x.2.2.1 x.2.2.2.1 x.2.2.2.2.1 x.2.2.2.2.2.1 x.2.2.2.2.2.2
theorem zgz (zaa:Tf5) (least:Int) (y'_20:Tp15) (y'_28:Tp15) (t_7:Int) (s_8:Tp16) (s_9:Tp16) (s_10:Tp14) (s_11:Tp14) (l_6:Tp16) (l_7:Tp16):za6 zaa least y'_20 y'_28 t_7 s_8 s_9 s_10 s_11 l_6 l_7=zbI zaa least y'_20 y'_28 (za6 zaa least y'_20 y'_28) t_7 s_8 s_9 s_10 s_11 l_6 l_7:=zaE (zem zaa least y'_20 y'_28) (t_7,s_8,s_9,s_10,s_11,l_6,l_7)
theorem zda (zaa:Nat->Tf5) (zae:Tf5) (zai:∀ a0 a1 a2 a3 a4 a5 a6,ChO (fun κ=>zaa κ a0 a1 a2 a3 a4 a5 a6) (zae a0 a1 a2 a3 a4 a5 a6)) (least:Int) (y'_20:Tp15) (y'_28:Tp15) (t_7:Int) (s_8:Tp16) (s_9:Tp16) (s_10:Tp14) (s_11:Tp14) (l_6:Tp16) (l_7:Tp16):ChO (fun κ=>za6 (zaa κ) least y'_20 y'_28 t_7 s_8 s_9 s_10 s_11 l_6 l_7) (za6 zae least y'_20 y'_28 t_7 s_8 s_9 s_10 s_11 l_6 l_7):=by
  unfold za6
  exact zdV (fun κ=>(zem (zaa κ) least y'_20 y'_28).mono) (zem zae least y'_20 y'_28).mono (fun g h hg x=>zfO zaa zae zai (fun κ t_7 s_8 s_9 s_10 s_11 l_6 l_7=>g κ (t_7,s_8,s_9,s_10,s_11,l_6,l_7)) (fun t_7 s_8 s_9 s_10 s_11 l_6 l_7=>h (t_7,s_8,s_9,s_10,s_11,l_6,l_7)) (fun t_7 s_8 s_9 s_10 s_11 l_6 l_7=>hg (t_7,s_8,s_9,s_10,s_11,l_6,l_7)) least y'_20 y'_28 x.1 x.2.1 x.2.2.1 x.2.2.2.1 x.2.2.2.2.1 x.2.2.2.2.2.1 x.2.2.2.2.2.2) _
theorem zfN (zaa:Nat->Tf5) (zae:Tf5) (zai:∀ a0 a1 a2 a3 a4 a5 a6,ChO (fun κ=>zaa κ a0 a1 a2 a3 a4 a5 a6) (zae a0 a1 a2 a3 a4 a5 a6)) (r22:Nat->Int->Tp16->Option Tp2) (r22':Int->Tp16->Option Tp2) (h_r22:∀ a0 a1,ChO (fun κ=>r22 κ a0 a1) (r22' a0 a1)) (least:Int) (y'_7:Tp16) (y'_8:Tp15) (y'_11:Tp16) (y'_12:Tp16) (y'_13:Tp14) (y'_14:Tp14) (y'_15:Tp16) (y'_16:Tp16) (y'_17:Tp15) (t_3:Int) (lost:Tp16):ChO (fun κ=>zbn (zaa κ) least y'_7 y'_8 y'_11 y'_12 y'_13 y'_14 y'_15 y'_16 y'_17 (r22 κ) t_3 lost) (zbn zae least y'_7 y'_8 y'_11 y'_12 y'_13 y'_14 y'_15 y'_16 y'_17 r22' t_3 lost):=by
  unfold zbn
  repeat' with_reducible first | exact ChO.const _ | exact zai _ _ _ _ _ _ _ | exact h_r22 _ _ | (apply zbj<;>assumption) | (apply zbA<;>assumption) | (apply zda<;>assumption) | apply ChO.ite | apply ChO.G | apply ChO.both | (apply ChO.bind;intro _) | (apply ChO.bind2 (zai _ _ _ _ _ _ _);intro _)
theorem zek (zaa:Tf5) (least:Int) (y'_7:Tp16) (y'_8:Tp15) (y'_11:Tp16) (y'_12:Tp16) (y'_13:Tp14) (y'_14:Tp14) (y'_15:Tp16) (y'_16:Tp16) (y'_17:Tp15):Cn (zgX zaa least y'_7 y'_8 y'_11 y'_12 y'_13 y'_14 y'_15 y'_16 y'_17):=fun g h hg x=>zfN (fun _=>zaa) zaa (fun _ _ _ _ _ _ _=>ChO.const _) (fun κ t_3 lost=>g κ (t_3,lost)) (fun t_3 lost=>h (t_3,lost)) (fun t_3 lost=>hg (t_3,lost)) least y'_7 y'_8 y'_11 y'_12 y'_13 y'_14 y'_15 y'_16 y'_17 x.1 x.2
theorem zel (zaa:Tf5) (least:Int) (y'_7:Tp16) (y'_8:Tp15) (y'_11:Tp16) (y'_12:Tp16) (y'_13:Tp14) (y'_14:Tp14) (y'_15:Tp16) (y'_16:Tp16) (y'_17:Tp15) (t_3:Int) (lost:Tp16):zaC zaa least y'_7 y'_8 y'_11 y'_12 y'_13 y'_14 y'_15 y'_16 y'_17 t_3 lost=zbn zaa least y'_7 y'_8 y'_11 y'_12 y'_13 y'_14 y'_15 y'_16 y'_17 (zaC zaa least y'_7 y'_8 y'_11 y'_12 y'_13 y'_14 y'_15 y'_16 y'_17) t_3 lost:=zaE (zek zaa least y'_7 y'_8 y'_11 y'_12 y'_13 y'_14 y'_15 y'_16 y'_17) (t_3,lost)
theorem zej (zaa:Nat->Tf5) (zae:Tf5) (zai:∀ a0 a1 a2 a3 a4 a5 a6,ChO (fun κ=>zaa κ a0 a1 a2 a3 a4 a5 a6) (zae a0 a1 a2 a3 a4 a5 a6)) (least:Int) (y'_7:Tp16) (y'_8:Tp15) (y'_11:Tp16) (y'_12:Tp16) (y'_13:Tp14) (y'_14:Tp14) (y'_15:Tp16) (y'_16:Tp16) (y'_17:Tp15) (t_3:Int) (lost:Tp16):ChO (fun κ=>zaC (zaa κ) least y'_7 y'_8 y'_11 y'_12 y'_13 y'_14 y'_15 y'_16 y'_17 t_3 lost) (zaC zae least y'_7 y'_8 y'_11 y'_12 y'_13 y'_14 y'_15 y'_16 y'_17 t_3 lost):=by
  unfold zaC
  exact zdV (fun κ=>(zek (zaa κ) least y'_7 y'_8 y'_11 y'_12 y'_13 y'_14 y'_15 y'_16 y'_17).mono) (zek zae least y'_7 y'_8 y'_11 y'_12 y'_13 y'_14 y'_15 y'_16 y'_17).mono (fun g h hg x=>zfN zaa zae zai (fun κ t_3 lost=>g κ (t_3,lost)) (fun t_3 lost=>h (t_3,lost)) (fun t_3 lost=>hg (t_3,lost)) least y'_7 y'_8 y'_11 y'_12 y'_13 y'_14 y'_15 y'_16 y'_17 x.1 x.2) _
theorem zfM (zaa:Nat->Tf5) (zae:Tf5) (zai:∀ a0 a1 a2 a3 a4 a5 a6,ChO (fun κ=>zaa κ a0 a1 a2 a3 a4 a5 a6) (zae a0 a1 a2 a3 a4 a5 a6)) (r12:Nat->Int->Tp16->Option Tp2) (r12':Int->Tp16->Option Tp2) (h_r12:∀ a0 a1,ChO (fun κ=>r12 κ a0 a1) (r12' a0 a1)) (c:Tp16) (c_1:Tp16) (c_2:Tp14) (c_3:Tp14) (within:Tp15) (l:Tp16) (l_1:Tp16) (least:Int) (t_1:Int) (best:Tp16):ChO (fun κ=>zbF (zaa κ) c c_1 c_2 c_3 within l l_1 least (r12 κ) t_1 best) (zbF zae c c_1 c_2 c_3 within l l_1 least r12' t_1 best):=by
  unfold zbF
  repeat' with_reducible first | exact ChO.const _ | exact zai _ _ _ _ _ _ _ | exact h_r12 _ _ | (apply zbj<;>assumption) | (apply zbA<;>assumption) | (apply zda<;>assumption) | (apply zej<;>assumption) | apply ChO.ite | apply ChO.G | apply ChO.both | (apply ChO.bind;intro _) | (apply ChO.bind2 (zai _ _ _ _ _ _ _);intro _)
theorem zei (zaa:Tf5) (c:Tp16) (c_1:Tp16) (c_2:Tp14) (c_3:Tp14) (within:Tp15) (l:Tp16) (l_1:Tp16) (least:Int):Cn (zgW zaa c c_1 c_2 c_3 within l l_1 least):=fun g h hg x=>zfM (fun _=>zaa) zaa (fun _ _ _ _ _ _ _=>ChO.const _) (fun κ t_1 best=>g κ (t_1,best)) (fun t_1 best=>h (t_1,best)) (fun t_1 best=>hg (t_1,best)) c c_1 c_2 c_3 within l l_1 least x.1 x.2
theorem zgw (zaa:Tf5) (c:Tp16) (c_1:Tp16) (c_2:Tp14) (c_3:Tp14) (within:Tp15) (l:Tp16) (l_1:Tp16) (least:Int) (t_1:Int) (best:Tp16):zaH zaa c c_1 c_2 c_3 within l l_1 least t_1 best=zbF zaa c c_1 c_2 c_3 within l l_1 least (zaH zaa c c_1 c_2 c_3 within l l_1 least) t_1 best:=zaE (zei zaa c c_1 c_2 c_3 within l l_1 least) (t_1,best)
theorem zgv (zaa:Nat->Tf5) (zae:Tf5) (zai:∀ a0 a1 a2 a3 a4 a5 a6,ChO (fun κ=>zaa κ a0 a1 a2 a3 a4 a5 a6) (zae a0 a1 a2 a3 a4 a5 a6)) (c:Tp16) (c_1:Tp16) (c_2:Tp14) (c_3:Tp14) (within:Tp15) (l:Tp16) (l_1:Tp16) (least:Int) (t_1:Int) (best:Tp16):ChO (fun κ=>zaH (zaa κ) c c_1 c_2 c_3 within l l_1 least t_1 best) (zaH zae c c_1 c_2 c_3 within l l_1 least t_1 best):=by
  unfold zaH
  exact zdV (fun κ=>(zei (zaa κ) c c_1 c_2 c_3 within l l_1 least).mono) (zei zae c c_1 c_2 c_3 within l l_1 least).mono (fun g h hg x=>zfM zaa zae zai (fun κ t_1 best=>g κ (t_1,best)) (fun t_1 best=>h (t_1,best)) (fun t_1 best=>hg (t_1,best)) c c_1 c_2 c_3 within l l_1 least x.1 x.2) _
theorem zf2 (zaa:Nat->Tf5) (zae:Tf5) (zai:∀ a0 a1 a2 a3 a4 a5 a6,ChO (fun κ=>zaa κ a0 a1 a2 a3 a4 a5 a6) (zae a0 a1 a2 a3 a4 a5 a6)) (r3:Nat->Int->Int->Option Tp2) (r3':Int->Int->Option Tp2) (h_r3:∀ a0 a1,ChO (fun κ=>r3 κ a0 a1) (r3' a0 a1)) (c:Tp16) (c_1:Tp16) (c_2:Tp14) (c_3:Tp14) (within:Tp15) (l:Tp16) (l_1:Tp16) (least:Int) (t:Int):ChO (fun κ=>zaA (zaa κ) c c_1 c_2 c_3 within l l_1 (r3 κ) least t) (zaA zae c c_1 c_2 c_3 within l l_1 r3' least t):=by
  unfold zaA
  repeat' with_reducible first | exact ChO.const _ | exact zai _ _ _ _ _ _ _ | exact h_r3 _ _ | (apply zbj<;>assumption) | (apply zbA<;>assumption) | (apply zda<;>assumption) | (apply zej<;>assumption) | (apply zgv<;>assumption) | apply ChO.ite | apply ChO.G | apply ChO.both | (apply ChO.bind;intro _) | (apply ChO.bind2 (zai _ _ _ _ _ _ _);intro _)
theorem zeH (zaa:Tf5) (c:Tp16) (c_1:Tp16) (c_2:Tp14) (c_3:Tp14) (within:Tp15) (l:Tp16) (l_1:Tp16):Cn (zhr zaa c c_1 c_2 c_3 within l l_1):=fun g h hg x=>zf2 (fun _=>zaa) zaa (fun _ _ _ _ _ _ _=>ChO.const _) (fun κ least t=>g κ (least,t)) (fun least t=>h (least,t)) (fun least t=>hg (least,t)) c c_1 c_2 c_3 within l l_1 x.1 x.2
theorem zdn (zaa:Tf5) (c:Tp16) (c_1:Tp16) (c_2:Tp14) (c_3:Tp14) (within:Tp15) (l:Tp16) (l_1:Tp16) (least:Int) (t:Int):zat zaa c c_1 c_2 c_3 within l l_1 least t=zaA zaa c c_1 c_2 c_3 within l l_1 (zat zaa c c_1 c_2 c_3 within l l_1) least t:=zaE (zeH zaa c c_1 c_2 c_3 within l l_1) (least,t)
theorem zkJ (zaa:Nat->Tf5) (zae:Tf5) (zai:∀ a0 a1 a2 a3 a4 a5 a6,ChO (fun κ=>zaa κ a0 a1 a2 a3 a4 a5 a6) (zae a0 a1 a2 a3 a4 a5 a6)) (c:Tp16) (c_1:Tp16) (c_2:Tp14) (c_3:Tp14) (within:Tp15) (l:Tp16) (l_1:Tp16) (least:Int) (t:Int):ChO (fun κ=>zat (zaa κ) c c_1 c_2 c_3 within l l_1 least t) (zat zae c c_1 c_2 c_3 within l l_1 least t):=by
  unfold zat
  exact zdV (fun κ=>(zeH (zaa κ) c c_1 c_2 c_3 within l l_1).mono) (zeH zae c c_1 c_2 c_3 within l l_1).mono (fun g h hg x=>zf2 zaa zae zai (fun κ least t=>g κ (least,t)) (fun least t=>h (least,t)) (fun least t=>hg (least,t)) c c_1 c_2 c_3 within l l_1 x.1 x.2) _
theorem zlp (zaa:Nat->Tf5) (zae:Tf5) (zai:∀ a0 a1 a2 a3 a4 a5 a6,ChO (fun κ=>zaa κ a0 a1 a2 a3 a4 a5 a6) (zae a0 a1 a2 a3 a4 a5 a6)) (c:Tp16) (c_1:Tp16) (c_2:Tp14) (c_3:Tp14) (within:Tp15) (l:Tp16) (l_1:Tp16):ChO (fun κ=>zbY (zaa κ) c c_1 c_2 c_3 within l l_1) (zbY zae c c_1 c_2 c_3 within l l_1):=by
  unfold zbY
  repeat' with_reducible first | exact ChO.const _ | exact zai _ _ _ _ _ _ _ | (apply zbj<;>assumption) | (apply zbA<;>assumption) | (apply zda<;>assumption) | (apply zej<;>assumption) | (apply zgv<;>assumption) | (apply zkJ<;>assumption) | apply ChO.ite | apply ChO.G | apply ChO.both | (apply ChO.bind;intro _) | (apply ChO.bind2 (zai _ _ _ _ _ _ _);intro _)
def zeG:(Tp16×Tp16×Tp14×Tp14×Tp15×Tp16×Tp16->Option Tp2)->Tp16×Tp16×Tp14×Tp14×Tp15×Tp16×Tp16->Option Tp2:=
  fun rec X=>zbY (fun c c_1 c_2 c_3 within l l_1=>rec (c,c_1,c_2,c_3,within,l,l_1)) X.1 X.2.1 X.2.2.1 X.2.2.2.1 X.2.2.2.2.1 X.2.2.2.2.2.1 X.2.2.2.2.2.2
def zbz (c:Tp16) (c_1:Tp16) (c_2:Tp14) (c_3:Tp14) (within:Tp15) (l:Tp16) (l_1:Tp16):Option Tp2:=LFix zeG (c,c_1,c_2,c_3,within,l,l_1)
theorem zmt:Cn zeG:=fun g h hg X=>zlp _ _ (fun c c_1 c_2 c_3 within l l_1=>hg (c,c_1,c_2,c_3,within,l,l_1)) X.1 X.2.1 X.2.2.1 X.2.2.2.1 X.2.2.2.2.1 X.2.2.2.2.2.1 X.2.2.2.2.2.2
theorem zfV (c:Tp16) (c_1:Tp16) (c_2:Tp14) (c_3:Tp14) (within:Tp15) (l:Tp16) (l_1:Tp16):zbz c c_1 c_2 c_3 within l l_1=zbY zbz c c_1 c_2 c_3 within l l_1:=zaE zmt (c,c_1,c_2,c_3,within,l,l_1)

def zdx (t_1:Int) (r9:(Int->Tp16->Tp16->Tp14->Tp14->Tp16->Tp16->Option Tp10)) (s_9:Tp16) (s_10:Tp16) (s_11:Tp14) (l_9:Tp14) (l_10:Tp16) (l_11:Tp16):Option Tp10:=
  G (fits (t_1+(1:Int))) (
  r9 (t_1+(1:Int)) s_9 s_10 s_11 l_9 l_10 l_11)
def zde (g'_3:Tp14) (t:Int) (all':Tp15) (r5:(Int->Tp16->Tp16->Tp14->Tp15->Tp14->Tp16->Tp16->Option Tp10)) (r9:Tf6) (t_1:Int) (s_6:Tp16) (s_7:Tp16) (s_8:Tp14) (l_6:Tp14) (l_7:Tp16) (l_8:Tp16):Option Tp10:=
  if (decide (t_1 < ((ix g'_3 t).length:Int)))=true then
  G (0<=t_1/\t_1 < ((ix g'_3 t).length:Int)) (
  G (0<=ix (ix g'_3 t) t_1/\ix (ix g'_3 t) t_1 < (l_6.length:Int)) (
  G ((ix (ix g'_3 t) t_1).toNat < l_6.length) (
  both [Tc5] (
  G ((ix (ix g'_3 t) t_1).toNat < l_6.length) (
  G (room (ix l_6 (ix (ix g'_3 t) t_1)) ([t]) 8) (
  G (0<=ix (ix g'_3 t) t_1/\ix (ix g'_3 t) t_1 < (l_6.length:Int)) (
  G ((ix (ix g'_3 t) t_1).toNat=(ix (ix g'_3 t) t_1).toNat) (
  zdx t_1 r9 s_6 s_7 s_8 (l_6.set (ix (ix g'_3 t) t_1).toNat ((ix l_6 (ix (ix g'_3 t) t_1))++([t]))) l_7 l_8))))) (
  G ((ix (ix g'_3 t) t_1).toNat < l_6.length) (
  G (room (ix l_6 (ix (ix g'_3 t) t_1)) ([t]) 8) (
  G (0<=ix (ix g'_3 t) t_1/\ix (ix g'_3 t) t_1 < (l_6.length:Int)) (
  G ((ix (ix g'_3 t) t_1).toNat=(ix (ix g'_3 t) t_1).toNat) (
  zdx t_1 r9 s_6 s_7 s_8 (l_6.set (ix (ix g'_3 t) t_1).toNat ((ix l_6 (ix (ix g'_3 t) t_1))++([t]))) l_7 l_8)))))))) else
  G (fits (t+(1:Int))) (
  r5 (t+(1:Int)) s_6 s_7 s_8 (all'.set (t).toNat true) l_6 l_7 l_8)
def zk2 (g'_3:Tp14) (t:Int) (all':Tp15) (r5:(Int->Tp16->Tp16->Tp14->Tp15->Tp14->Tp16->Tp16->Option Tp10)):(Int×Tp16×Tp16×Tp14×Tp14×Tp16×Tp16->Option Tp10)->Int×Tp16×Tp16×Tp14×Tp14×Tp16×Tp16->Option Tp10:=
  fun rec x=>zde g'_3 t all' r5 (fun t_1 s_6 s_7 s_8 l_6 l_7 l_8=>rec (t_1,s_6,s_7,s_8,l_6,l_7,l_8)) x.1 x.2.1 x.2.2.1 x.2.2.2.1 x.2.2.2.2.1 x.2.2.2.2.2.1 x.2.2.2.2.2.2
def zcS (g'_3:Tp14) (t:Int) (all':Tp15) (r5:(Int->Tp16->Tp16->Tp14->Tp15->Tp14->Tp16->Tp16->Option Tp10)) (t_1:Int) (s_6:Tp16) (s_7:Tp16) (s_8:Tp14) (l_6:Tp14) (l_7:Tp16) (l_8:Tp16):Option Tp10:=LFix (zk2 g'_3 t all' r5 ) (t_1,s_6,s_7,s_8,l_6,l_7,l_8)
def zcK (g':Tp8) (g'_1:Tp16) (r16:Tf6) (t_2:Int) (s_12:Tp16) (s_13:Tp16) (s_14:Tp14) (s_15:Tp14) (l_12:Tp16) (l_13:Tp16):Option Tp10:=
  if (decide (t_2 < (g'.1.length:Int)))=true then
  G (0<=t_2/\t_2 < (g'_1.length:Int)) (
  G (0<=t_2/\t_2 < (l_12.length:Int)) (
  G ((t_2).toNat < l_12.length) (
  if (decide (¬ (ix g'_1 t_2)=(ix l_12 t_2)))=true then
  G (0<=t_2/\t_2 < (l_13.length:Int)) (
  G ((t_2).toNat < l_13.length) (
  G (fits (t_2+(1:Int))) (
  r16 (t_2+(1:Int)) s_12 s_13 s_14 s_15 l_12 (l_13.set (t_2).toNat (-1:Int))))) else
  G (fits (t_2+(1:Int))) (
  r16 (t_2+(1:Int)) s_12 s_13 s_14 s_15 l_12 l_13)))) else
  some (l_12,(l_13,()))
def zka (g':Tp8) (g'_1:Tp16):(Int×Tp16×Tp16×Tp14×Tp14×Tp16×Tp16->Option Tp10)->Int×Tp16×Tp16×Tp14×Tp14×Tp16×Tp16->Option Tp10:=
  fun rec x=>zcK g' g'_1 (fun t_2 s_12 s_13 s_14 s_15 l_12 l_13=>rec (t_2,s_12,s_13,s_14,s_15,l_12,l_13)) x.1 x.2.1 x.2.2.1 x.2.2.2.1 x.2.2.2.2.1 x.2.2.2.2.2.1 x.2.2.2.2.2.2
def zgT (g':Tp8) (g'_1:Tp16) (t_2:Int) (s_12:Tp16) (s_13:Tp16) (s_14:Tp14) (s_15:Tp14) (l_12:Tp16) (l_13:Tp16):Option Tp10:=LFix (zka g' g'_1 ) (t_2,s_12,s_13,s_14,s_15,l_12,l_13)
def zdd (g':Tp8) (g'_1:Tp16) (g'_3:Tp14) (r5:Tf3) (t:Int) (s_3:Tp16) (s_4:Tp16) (s_5:Tp14) (all':Tp15) (l_3:Tp14) (l_4:Tp16) (l_5:Tp16):Option Tp10:=
  if (decide (t < (g'_3.length:Int)))=true then
  G (0<=t/\t < (g'_3.length:Int)) (
  G (0<=t/\t < (all'.length:Int)) (
  G ((t).toNat < all'.length) (
  zcS g'_3 t all' r5 (0:Int) s_3 s_4 s_5 l_3 l_4 l_5))) else
  (zbz s_3 s_4 s_5 l_3 all' l_4 l_5).bind (fun y'_8=>
  zgT g' g'_1 (0:Int) y'_8.1 y'_8.2.1 y'_8.2.2.1 y'_8.2.2.2.1 y'_8.2.2.2.2.1 y'_8.2.2.2.2.2.1)
def zk1 (g':Tp8) (g'_1:Tp16) (g'_3:Tp14):(Int×Tp16×Tp16×Tp14×Tp15×Tp14×Tp16×Tp16->Option Tp10)->Int×Tp16×Tp16×Tp14×Tp15×Tp14×Tp16×Tp16->Option Tp10:=
  fun rec x=>zdd g' g'_1 g'_3 (fun t s_3 s_4 s_5 all' l_3 l_4 l_5=>rec (t,s_3,s_4,s_5,all',l_3,l_4,l_5)) x.1 x.2.1 x.2.2.1 x.2.2.2.1 x.2.2.2.2.1 x.2.2.2.2.2.1 x.2.2.2.2.2.2.1 x.2.2.2.2.2.2.2
def ze2 (g':Tp8) (g'_1:Tp16) (g'_3:Tp14) (t:Int) (s_3:Tp16) (s_4:Tp16) (s_5:Tp14) (all':Tp15) (l_3:Tp14) (l_4:Tp16) (l_5:Tp16):Option Tp10:=LFix (zk1 g' g'_1 g'_3 ) (t,s_3,s_4,s_5,all',l_3,l_4,l_5)
def zaX (g':Tp8) (g'_1:Tp16) (g'_2:Tp16) (g'_3:Tp14) (s:Tp16) (s_1:Tp16) (s_2:Tp14) (l:Tp14) (l_1:Tp16) (l_2:Tp16):Option Tp10:=
  G (mkOK (g'.1.length:Int) (g'.1.length:Int) 1) (
  ze2 g' g'_1 g'_3 (0:Int) s s_1 s_2 (List.replicate ((g'.1.length:Int)).toNat (false:Bool)) l l_1 l_2)
def zi1 (g':Tp8):Option Tp10:=
  both [Tc5] (
  both [Tc5] (
  G (mkOK (g'.1.length:Int) (g'.1.length:Int) 24) (
  both [Tc5] (
  G (mkOK (g'.1.length:Int) (g'.1.length:Int) 8) (
  G (mkOK (g'.1.length:Int) (g'.1.length:Int) 8) (
  zaX g' g'.1 g'.2.1 g'.2.2.1 g'.1 g'.2.1 g'.2.2.1 (List.replicate ((g'.1.length:Int)).toNat ([]:List Int)) (List.replicate ((g'.1.length:Int)).toNat (0:Int)) (List.replicate ((g'.1.length:Int)).toNat (0:Int))))) (
  G (mkOK (g'.1.length:Int) (g'.1.length:Int) 8) (
  G (mkOK (g'.1.length:Int) (g'.1.length:Int) 8) (
  zaX g' g'.1 g'.2.1 g'.2.2.1 g'.1 g'.2.1 g'.2.2.1 (List.replicate ((g'.1.length:Int)).toNat ([]:List Int)) (List.replicate ((g'.1.length:Int)).toNat (0:Int)) (List.replicate ((g'.1.length:Int)).toNat (0:Int))))))) (
  both [Tc5] (
  G (mkOK (g'.1.length:Int) (g'.1.length:Int) 8) (
  both [Tc5] (
  G (mkOK (g'.1.length:Int) (g'.1.length:Int) 24) (
  G (mkOK (g'.1.length:Int) (g'.1.length:Int) 8) (
  zaX g' g'.1 g'.2.1 g'.2.2.1 g'.1 g'.2.1 g'.2.2.1 (List.replicate ((g'.1.length:Int)).toNat ([]:List Int)) (List.replicate ((g'.1.length:Int)).toNat (0:Int)) (List.replicate ((g'.1.length:Int)).toNat (0:Int))))) (
  G (mkOK (g'.1.length:Int) (g'.1.length:Int) 8) (
  both [Tc5] (
  G (mkOK (g'.1.length:Int) (g'.1.length:Int) 24) (
  zaX g' g'.1 g'.2.1 g'.2.2.1 g'.1 g'.2.1 g'.2.2.1 (List.replicate ((g'.1.length:Int)).toNat ([]:List Int)) (List.replicate ((g'.1.length:Int)).toNat (0:Int)) (List.replicate ((g'.1.length:Int)).toNat (0:Int)))) (
  G (mkOK (g'.1.length:Int) (g'.1.length:Int) 24) (
  zaX g' g'.1 g'.2.1 g'.2.2.1 g'.1 g'.2.1 g'.2.2.1 (List.replicate ((g'.1.length:Int)).toNat ([]:List Int)) (List.replicate ((g'.1.length:Int)).toNat (0:Int)) (List.replicate ((g'.1.length:Int)).toNat (0:Int)))))))) (
  G (mkOK (g'.1.length:Int) (g'.1.length:Int) 8) (
  both [Tc5] (
  G (mkOK (g'.1.length:Int) (g'.1.length:Int) 24) (
  G (mkOK (g'.1.length:Int) (g'.1.length:Int) 8) (
  zaX g' g'.1 g'.2.1 g'.2.2.1 g'.1 g'.2.1 g'.2.2.1 (List.replicate ((g'.1.length:Int)).toNat ([]:List Int)) (List.replicate ((g'.1.length:Int)).toNat (0:Int)) (List.replicate ((g'.1.length:Int)).toNat (0:Int))))) (
  G (mkOK (g'.1.length:Int) (g'.1.length:Int) 8) (
  both [Tc5] (
  G (mkOK (g'.1.length:Int) (g'.1.length:Int) 24) (
  zaX g' g'.1 g'.2.1 g'.2.2.1 g'.1 g'.2.1 g'.2.2.1 (List.replicate ((g'.1.length:Int)).toNat ([]:List Int)) (List.replicate ((g'.1.length:Int)).toNat (0:Int)) (List.replicate ((g'.1.length:Int)).toNat (0:Int)))) (
  G (mkOK (g'.1.length:Int) (g'.1.length:Int) 24) (
  zaX g' g'.1 g'.2.1 g'.2.2.1 g'.1 g'.2.1 g'.2.2.1 (List.replicate ((g'.1.length:Int)).toNat ([]:List Int)) (List.replicate ((g'.1.length:Int)).toNat (0:Int)) (List.replicate ((g'.1.length:Int)).toNat (0:Int)))))))))) (
  both [Tc5] (
  G (mkOK (g'.1.length:Int) (g'.1.length:Int) 24) (
  both [Tc5] (
  G (mkOK (g'.1.length:Int) (g'.1.length:Int) 8) (
  G (mkOK (g'.1.length:Int) (g'.1.length:Int) 8) (
  zaX g' g'.1 g'.2.1 g'.2.2.1 g'.1 g'.2.1 g'.2.2.1 (List.replicate ((g'.1.length:Int)).toNat ([]:List Int)) (List.replicate ((g'.1.length:Int)).toNat (0:Int)) (List.replicate ((g'.1.length:Int)).toNat (0:Int))))) (
  G (mkOK (g'.1.length:Int) (g'.1.length:Int) 8) (
  G (mkOK (g'.1.length:Int) (g'.1.length:Int) 8) (
  zaX g' g'.1 g'.2.1 g'.2.2.1 g'.1 g'.2.1 g'.2.2.1 (List.replicate ((g'.1.length:Int)).toNat ([]:List Int)) (List.replicate ((g'.1.length:Int)).toNat (0:Int)) (List.replicate ((g'.1.length:Int)).toNat (0:Int))))))) (
  both [Tc5] (
  G (mkOK (g'.1.length:Int) (g'.1.length:Int) 8) (
  both [Tc5] (
  G (mkOK (g'.1.length:Int) (g'.1.length:Int) 24) (
  G (mkOK (g'.1.length:Int) (g'.1.length:Int) 8) (
  zaX g' g'.1 g'.2.1 g'.2.2.1 g'.1 g'.2.1 g'.2.2.1 (List.replicate ((g'.1.length:Int)).toNat ([]:List Int)) (List.replicate ((g'.1.length:Int)).toNat (0:Int)) (List.replicate ((g'.1.length:Int)).toNat (0:Int))))) (
  G (mkOK (g'.1.length:Int) (g'.1.length:Int) 8) (
  both [Tc5] (
  G (mkOK (g'.1.length:Int) (g'.1.length:Int) 24) (
  zaX g' g'.1 g'.2.1 g'.2.2.1 g'.1 g'.2.1 g'.2.2.1 (List.replicate ((g'.1.length:Int)).toNat ([]:List Int)) (List.replicate ((g'.1.length:Int)).toNat (0:Int)) (List.replicate ((g'.1.length:Int)).toNat (0:Int)))) (
  G (mkOK (g'.1.length:Int) (g'.1.length:Int) 24) (
  zaX g' g'.1 g'.2.1 g'.2.2.1 g'.1 g'.2.1 g'.2.2.1 (List.replicate ((g'.1.length:Int)).toNat ([]:List Int)) (List.replicate ((g'.1.length:Int)).toNat (0:Int)) (List.replicate ((g'.1.length:Int)).toNat (0:Int)))))))) (
  G (mkOK (g'.1.length:Int) (g'.1.length:Int) 8) (
  both [Tc5] (
  G (mkOK (g'.1.length:Int) (g'.1.length:Int) 24) (
  G (mkOK (g'.1.length:Int) (g'.1.length:Int) 8) (
  zaX g' g'.1 g'.2.1 g'.2.2.1 g'.1 g'.2.1 g'.2.2.1 (List.replicate ((g'.1.length:Int)).toNat ([]:List Int)) (List.replicate ((g'.1.length:Int)).toNat (0:Int)) (List.replicate ((g'.1.length:Int)).toNat (0:Int))))) (
  G (mkOK (g'.1.length:Int) (g'.1.length:Int) 8) (
  both [Tc5] (
  G (mkOK (g'.1.length:Int) (g'.1.length:Int) 24) (
  zaX g' g'.1 g'.2.1 g'.2.2.1 g'.1 g'.2.1 g'.2.2.1 (List.replicate ((g'.1.length:Int)).toNat ([]:List Int)) (List.replicate ((g'.1.length:Int)).toNat (0:Int)) (List.replicate ((g'.1.length:Int)).toNat (0:Int)))) (
  G (mkOK (g'.1.length:Int) (g'.1.length:Int) 24) (
  zaX g' g'.1 g'.2.1 g'.2.2.1 g'.1 g'.2.1 g'.2.2.1 (List.replicate ((g'.1.length:Int)).toNat ([]:List Int)) (List.replicate ((g'.1.length:Int)).toNat (0:Int)) (List.replicate ((g'.1.length:Int)).toNat (0:Int))))))))))
theorem zgS (r9:Nat->Tf6) (r9':Tf6) (h_r9:∀ a0 a1 a2 a3 a4 a5 a6,ChO (fun κ=>r9 κ a0 a1 a2 a3 a4 a5 a6) (r9' a0 a1 a2 a3 a4 a5 a6)) (t_1:Int) (s_9:Tp16) (s_10:Tp16) (s_11:Tp14) (l_9:Tp14) (l_10:Tp16) (l_11:Tp16):ChO (fun κ=>zdx t_1 (r9 κ) s_9 s_10 s_11 l_9 l_10 l_11) (zdx t_1 r9' s_9 s_10 s_11 l_9 l_10 l_11):=by
  unfold zdx
  repeat' with_reducible first | exact ChO.const _ | exact h_r9 _ _ _ _ _ _ _ | apply ChO.ite | apply ChO.G | apply ChO.both | (apply ChO.bind;intro _)
theorem zi2 (r5:Nat->Tf3) (r5':Tf3) (h_r5:∀ a0 a1 a2 a3 a4 a5 a6 a7,ChO (fun κ=>r5 κ a0 a1 a2 a3 a4 a5 a6 a7) (r5' a0 a1 a2 a3 a4 a5 a6 a7)) (r9:Nat->Tf6) (r9':Tf6) (h_r9:∀ a0 a1 a2 a3 a4 a5 a6,ChO (fun κ=>r9 κ a0 a1 a2 a3 a4 a5 a6) (r9' a0 a1 a2 a3 a4 a5 a6)) (g'_3:Tp14) (t:Int) (all':Tp15) (t_1:Int) (s_6:Tp16) (s_7:Tp16) (s_8:Tp14) (l_6:Tp14) (l_7:Tp16) (l_8:Tp16):ChO (fun κ=>zde g'_3 t all' (r5 κ) (r9 κ) t_1 s_6 s_7 s_8 l_6 l_7 l_8) (zde g'_3 t all' r5' r9' t_1 s_6 s_7 s_8 l_6 l_7 l_8):=by
  unfold zde
  repeat' with_reducible first | exact ChO.const _ | exact h_r5 _ _ _ _ _ _ _ _ | exact h_r9 _ _ _ _ _ _ _ | (apply zgS<;>assumption) | apply ChO.ite | apply ChO.G | apply ChO.both | (apply ChO.bind;intro _)
theorem zhB (r5:Tf3) (g'_3:Tp14) (t:Int) (all':Tp15):Cn (zk2 g'_3 t all' r5):=fun g h hg x=>zi2 (fun _=>r5) r5 (fun _ _ _ _ _ _ _ _=>ChO.const _) (fun κ t_1 s_6 s_7 s_8 l_6 l_7 l_8=>g κ (t_1,s_6,s_7,s_8,l_6,l_7,l_8)) (fun t_1 s_6 s_7 s_8 l_6 l_7 l_8=>h (t_1,s_6,s_7,s_8,l_6,l_7,l_8)) (fun t_1 s_6 s_7 s_8 l_6 l_7 l_8=>hg (t_1,s_6,s_7,s_8,l_6,l_7,l_8)) g'_3 t all' x.1 x.2.1 x.2.2.1 x.2.2.2.1 x.2.2.2.2.1 x.2.2.2.2.2.1 x.2.2.2.2.2.2
theorem zkd (r5:Tf3) (g'_3:Tp14) (t:Int) (all':Tp15) (t_1:Int) (s_6:Tp16) (s_7:Tp16) (s_8:Tp14) (l_6:Tp14) (l_7:Tp16) (l_8:Tp16):zcS g'_3 t all' r5 t_1 s_6 s_7 s_8 l_6 l_7 l_8=zde g'_3 t all' r5 (zcS g'_3 t all' r5) t_1 s_6 s_7 s_8 l_6 l_7 l_8:=zaE (zhB r5 g'_3 t all') (t_1,s_6,s_7,s_8,l_6,l_7,l_8)
theorem zkc (r5:Nat->Tf3) (r5':Tf3) (h_r5:∀ a0 a1 a2 a3 a4 a5 a6 a7,ChO (fun κ=>r5 κ a0 a1 a2 a3 a4 a5 a6 a7) (r5' a0 a1 a2 a3 a4 a5 a6 a7)) (g'_3:Tp14) (t:Int) (all':Tp15) (t_1:Int) (s_6:Tp16) (s_7:Tp16) (s_8:Tp14) (l_6:Tp14) (l_7:Tp16) (l_8:Tp16):ChO (fun κ=>zcS g'_3 t all' (r5 κ) t_1 s_6 s_7 s_8 l_6 l_7 l_8) (zcS g'_3 t all' r5' t_1 s_6 s_7 s_8 l_6 l_7 l_8):=by
  unfold zcS
  exact zdV (fun κ=>(zhB (r5 κ) g'_3 t all').mono) (zhB r5' g'_3 t all').mono (fun g h hg x=>zi2 r5 r5' h_r5 (fun κ t_1 s_6 s_7 s_8 l_6 l_7 l_8=>g κ (t_1,s_6,s_7,s_8,l_6,l_7,l_8)) (fun t_1 s_6 s_7 s_8 l_6 l_7 l_8=>h (t_1,s_6,s_7,s_8,l_6,l_7,l_8)) (fun t_1 s_6 s_7 s_8 l_6 l_7 l_8=>hg (t_1,s_6,s_7,s_8,l_6,l_7,l_8)) g'_3 t all' x.1 x.2.1 x.2.2.1 x.2.2.2.1 x.2.2.2.2.1 x.2.2.2.2.2.1 x.2.2.2.2.2.2) _
theorem zms (r16:Nat->Tf6) (r16':Tf6) (h_r16:∀ a0 a1 a2 a3 a4 a5 a6,ChO (fun κ=>r16 κ a0 a1 a2 a3 a4 a5 a6) (r16' a0 a1 a2 a3 a4 a5 a6)) (g':Tp8) (g'_1:Tp16) (t_2:Int) (s_12:Tp16) (s_13:Tp16) (s_14:Tp14) (s_15:Tp14) (l_12:Tp16) (l_13:Tp16):ChO (fun κ=>zcK g' g'_1 (r16 κ) t_2 s_12 s_13 s_14 s_15 l_12 l_13) (zcK g' g'_1 r16' t_2 s_12 s_13 s_14 s_15 l_12 l_13):=by
  unfold zcK
  repeat' with_reducible first | exact ChO.const _ | exact h_r16 _ _ _ _ _ _ _ | (apply zgS<;>assumption) | (apply zkc<;>assumption) | apply ChO.ite | apply ChO.G | apply ChO.both | (apply ChO.bind;intro _)
theorem znA  (g':Tp8) (g'_1:Tp16):Cn (zka g' g'_1):=fun g h hg x=>zms  (fun κ t_2 s_12 s_13 s_14 s_15 l_12 l_13=>g κ (t_2,s_12,s_13,s_14,s_15,l_12,l_13)) (fun t_2 s_12 s_13 s_14 s_15 l_12 l_13=>h (t_2,s_12,s_13,s_14,s_15,l_12,l_13)) (fun t_2 s_12 s_13 s_14 s_15 l_12 l_13=>hg (t_2,s_12,s_13,s_14,s_15,l_12,l_13)) g' g'_1 x.1 x.2.1 x.2.2.1 x.2.2.2.1 x.2.2.2.2.1 x.2.2.2.2.2.1 x.2.2.2.2.2.2
theorem zjy  (g':Tp8) (g'_1:Tp16) (t_2:Int) (s_12:Tp16) (s_13:Tp16) (s_14:Tp14) (s_15:Tp14) (l_12:Tp16) (l_13:Tp16):zgT g' g'_1 t_2 s_12 s_13 s_14 s_15 l_12 l_13=zcK g' g'_1 (zgT g' g'_1) t_2 s_12 s_13 s_14 s_15 l_12 l_13:=zaE (znA g' g'_1) (t_2,s_12,s_13,s_14,s_15,l_12,l_13)
theorem zna (r5:Nat->Tf3) (r5':Tf3) (h_r5:∀ a0 a1 a2 a3 a4 a5 a6 a7,ChO (fun κ=>r5 κ a0 a1 a2 a3 a4 a5 a6 a7) (r5' a0 a1 a2 a3 a4 a5 a6 a7)) (g':Tp8) (g'_1:Tp16) (g'_3:Tp14) (t:Int) (s_3:Tp16) (s_4:Tp16) (s_5:Tp14) (all':Tp15) (l_3:Tp14) (l_4:Tp16) (l_5:Tp16):ChO (fun κ=>zdd g' g'_1 g'_3 (r5 κ) t s_3 s_4 s_5 all' l_3 l_4 l_5) (zdd g' g'_1 g'_3 r5' t s_3 s_4 s_5 all' l_3 l_4 l_5):=by
  unfold zdd
  repeat' with_reducible first | exact ChO.const _ | exact h_r5 _ _ _ _ _ _ _ _ | (apply zgS<;>assumption) | (apply zkc<;>assumption) | apply ChO.ite | apply ChO.G | apply ChO.both | (apply ChO.bind;intro _)
theorem zoz  (g':Tp8) (g'_1:Tp16) (g'_3:Tp14):Cn (zk1 g' g'_1 g'_3):=fun g h hg x=>zna  (fun κ t s_3 s_4 s_5 all' l_3 l_4 l_5=>g κ (t,s_3,s_4,s_5,all',l_3,l_4,l_5)) (fun t s_3 s_4 s_5 all' l_3 l_4 l_5=>h (t,s_3,s_4,s_5,all',l_3,l_4,l_5)) (fun t s_3 s_4 s_5 all' l_3 l_4 l_5=>hg (t,s_3,s_4,s_5,all',l_3,l_4,l_5)) g' g'_1 g'_3 x.1 x.2.1 x.2.2.1 x.2.2.2.1 x.2.2.2.2.1 x.2.2.2.2.2.1 x.2.2.2.2.2.2.1 x.2.2.2.2.2.2.2
theorem zkb  (g':Tp8) (g'_1:Tp16) (g'_3:Tp14) (t:Int) (s_3:Tp16) (s_4:Tp16) (s_5:Tp14) (all':Tp15) (l_3:Tp14) (l_4:Tp16) (l_5:Tp16):ze2 g' g'_1 g'_3 t s_3 s_4 s_5 all' l_3 l_4 l_5=zdd g' g'_1 g'_3 (ze2 g' g'_1 g'_3) t s_3 s_4 s_5 all' l_3 l_4 l_5:=zaE (zoz g' g'_1 g'_3) (t,s_3,s_4,s_5,all',l_3,l_4,l_5)

def zaD (t:Int) (r4:(Tp5->Int->Tp16->Tp16->Tp14->Option Tp3)) (a_2:Tp5) (l_2:Tp16) (l_3:Tp16) (l_4:Tp14):Option Tp3:=
  G (fits (t+(1:Int))) (
  r4 a_2 (t+(1:Int)) l_2 l_3 l_4)
def zdA (a_1:Tp5) (t:Int) (g':Tp16) (g'_1:Tp16) (g'_2:Tp14) (r4:(Tp5->Int->Tp16->Tp16->Tp14->Option Tp3)) (l_1:Tp16):Option Tp3:=
  G (0<=t/\t < (a_1.2.2.2.2.1.length:Int)) (
  both [Tc2,Tc5] (
  both [Tc2,Tc5] (
  G (room g' ([(0:Int)]) 8) (
  both [Tc2,Tc5] (
  both [Tc2,Tc5] (
  G (room g'_1 ([ix a_1.2.2.2.2.1 t]) 8) (
  G (room g'_2 ([l_1]) 24) (
  zaD t r4 a_1 (g'++([(0:Int)])) (g'_1++([ix a_1.2.2.2.2.1 t])) (g'_2++([l_1]))))) (
  G (room g'_1 ([ix a_1.2.2.2.2.1 t]) 8) (
  G (room g'_2 ([l_1]) 24) (
  zaD t r4 a_1 (g'++([(0:Int)])) (g'_1++([ix a_1.2.2.2.2.1 t])) (g'_2++([l_1])))))) (
  G (room g'_1 ([ix a_1.2.2.2.2.1 t]) 8) (
  G (room g'_2 ([l_1]) 24) (
  zaD t r4 a_1 (g'++([(0:Int)])) (g'_1++([ix a_1.2.2.2.2.1 t])) (g'_2++([l_1]))))))) (
  both [Tc2,Tc5] (
  both [Tc2,Tc5] (
  G (room g' ([(0:Int)]) 8) (
  both [Tc2,Tc5] (
  G (room g'_1 ([ix a_1.2.2.2.2.1 t]) 8) (
  G (room g'_2 ([l_1]) 24) (
  zaD t r4 a_1 (g'++([(0:Int)])) (g'_1++([ix a_1.2.2.2.2.1 t])) (g'_2++([l_1]))))) (
  G (room g'_1 ([ix a_1.2.2.2.2.1 t]) 8) (
  G (room g'_2 ([l_1]) 24) (
  zaD t r4 a_1 (g'++([(0:Int)])) (g'_1++([ix a_1.2.2.2.2.1 t])) (g'_2++([l_1]))))))) (
  G (room g' ([(0:Int)]) 8) (
  G (room g'_1 ([ix a_1.2.2.2.2.1 t]) 8) (
  G (room g'_2 ([l_1]) 24) (
  zaD t r4 a_1 (g'++([(0:Int)])) (g'_1++([ix a_1.2.2.2.2.1 t])) (g'_2++([l_1]))))))) (
  both [Tc2,Tc5] (
  G (room g' ([(0:Int)]) 8) (
  G (room g'_1 ([ix a_1.2.2.2.2.1 t]) 8) (
  G (room g'_2 ([l_1]) 24) (
  zaD t r4 a_1 (g'++([(0:Int)])) (g'_1++([ix a_1.2.2.2.2.1 t])) (g'_2++([l_1])))))) (
  G (room g' ([(0:Int)]) 8) (
  G (room g'_1 ([ix a_1.2.2.2.2.1 t]) 8) (
  G (room g'_2 ([l_1]) 24) (
  zaD t r4 a_1 (g'++([(0:Int)])) (g'_1++([ix a_1.2.2.2.2.1 t])) (g'_2++([l_1]))))))))) (
  both [Tc2,Tc5] (
  both [Tc2,Tc5] (
  both [Tc2,Tc5] (
  G (room g' ([(0:Int)]) 8) (
  both [Tc2,Tc5] (
  G (room g'_1 ([ix a_1.2.2.2.2.1 t]) 8) (
  G (room g'_2 ([l_1]) 24) (
  zaD t r4 a_1 (g'++([(0:Int)])) (g'_1++([ix a_1.2.2.2.2.1 t])) (g'_2++([l_1]))))) (
  G (room g'_1 ([ix a_1.2.2.2.2.1 t]) 8) (
  G (room g'_2 ([l_1]) 24) (
  zaD t r4 a_1 (g'++([(0:Int)])) (g'_1++([ix a_1.2.2.2.2.1 t])) (g'_2++([l_1]))))))) (
  G (room g' ([(0:Int)]) 8) (
  G (room g'_1 ([ix a_1.2.2.2.2.1 t]) 8) (
  G (room g'_2 ([l_1]) 24) (
  zaD t r4 a_1 (g'++([(0:Int)])) (g'_1++([ix a_1.2.2.2.2.1 t])) (g'_2++([l_1]))))))) (
  G (room g' ([(0:Int)]) 8) (
  G (room g'_1 ([ix a_1.2.2.2.2.1 t]) 8) (
  G (room g'_2 ([l_1]) 24) (
  zaD t r4 a_1 (g'++([(0:Int)])) (g'_1++([ix a_1.2.2.2.2.1 t])) (g'_2++([l_1]))))))) (
  both [Tc2,Tc5] (
  both [Tc2,Tc5] (
  G (room g' ([(0:Int)]) 8) (
  G (room g'_1 ([ix a_1.2.2.2.2.1 t]) 8) (
  G (room g'_2 ([l_1]) 24) (
  zaD t r4 a_1 (g'++([(0:Int)])) (g'_1++([ix a_1.2.2.2.2.1 t])) (g'_2++([l_1])))))) (
  G (room g' ([(0:Int)]) 8) (
  G (room g'_1 ([ix a_1.2.2.2.2.1 t]) 8) (
  G (room g'_2 ([l_1]) 24) (
  zaD t r4 a_1 (g'++([(0:Int)])) (g'_1++([ix a_1.2.2.2.2.1 t])) (g'_2++([l_1]))))))) (
  G (room g' ([(0:Int)]) 8) (
  G (room g'_1 ([ix a_1.2.2.2.2.1 t]) 8) (
  G (room g'_2 ([l_1]) 24) (
  zaD t r4 a_1 (g'++([(0:Int)])) (g'_1++([ix a_1.2.2.2.2.1 t])) (g'_2++([l_1])))))))))
def zdg (a:Tp5) (a_1:Tp5) (t:Int) (g':Tp16) (g'_1:Tp16) (g'_2:Tp14) (r4:(Tp5->Int->Tp16->Tp16->Tp14->Option Tp3)) (r8:Int->Tp16->Option Tp3) (t_1:Int) (l:Tp16):Option Tp3:=
  if (decide (t_1 < (a_1.2.2.1.length:Int)))=true then
  G (0<=t_1/\t_1 < (a_1.2.2.1.length:Int)) (
  if (decide ((((((ix a_1.2.2.1 t_1).2).2).2).1)=t))=true then
  G (fits (a_1.2.1+t_1)) (
  G (room l ([a_1.2.1+t_1]) 8) (
  G (fits (t_1+(1:Int))) (
  r8 (t_1+(1:Int)) (l++([a_1.2.1+t_1]))))) else
  G (fits (t_1+(1:Int))) (
  r8 (t_1+(1:Int)) l)) else
  if (decide ((l.length:Int)=(0:Int)))=true then
  zdA a_1 t g' g'_1 g'_2 r4 ([a.2.1+(a.2.2.1.length:Int)]) else
  zdA a_1 t g' g'_1 g'_2 r4 l
def zlc (a:Tp5) (a_1:Tp5) (t:Int) (g':Tp16) (g'_1:Tp16) (g'_2:Tp14) (r4:(Tp5->Int->Tp16->Tp16->Tp14->Option Tp3)):(Int×Tp16->Option Tp3)->Int×Tp16->Option Tp3:=
  fun rec x=>zdg a a_1 t g' g'_1 g'_2 r4 (fun t_1 l=>rec (t_1,l)) x.1 x.2
def zdY (a:Tp5) (a_1:Tp5) (t:Int) (g':Tp16) (g'_1:Tp16) (g'_2:Tp14) (r4:(Tp5->Int->Tp16->Tp16->Tp14->Option Tp3)) (t_1:Int) (l:Tp16):Option Tp3:=LFix (zlc a a_1 t g' g'_1 g'_2 r4 ) (t_1,l)
def zc0 (t_2:Int) (r18:(Int->Tp16->Tp16->Tp14->Option Tp3)) (l_8:Tp16) (l_9:Tp16) (l_10:Tp14):Option Tp3:=
  G (fits (t_2+(1:Int))) (
  r18 (t_2+(1:Int)) l_8 l_9 l_10)
def zaf (l_11:Tp16) (l_12:Tp16) (l_13:Tp14):Option Tp3:=
  (zi1 (l_11,(l_12,(l_13,())))).bind (fun y'_4=>
  some ((l_11,(l_12,(l_13,()))),(y'_4.1,(y'_4.2.1,()))))
def zcM (a:Tp5) (a_1:Tp5) (r18:Tf12) (t_2:Int) (l_5:Tp16) (l_6:Tp16) (l_7:Tp14):Option Tp3:=
  if (decide (t_2 < (a_1.2.2.1.length:Int)))=true then
  G (0<=t_2/\t_2 < (a_1.2.2.1.length:Int)) (
  (zkY ([((ix a_1.2.2.1 t_2).2).1,(((ix a_1.2.2.1 t_2).2).2).1])).bind (fun y'=>
  both [Tc2,Tc5] (
  both [Tc2,Tc5] (
  G (room l_5 ([(1:Int)]) 8) (
  G (room l_6 ([(9:Int)]) 8) (
  (zd3 y').bind (fun y'_1=>
  G (room l_7 ([y'_1]) 24) (
  zc0 t_2 r18 (l_5++([(1:Int)])) (l_6++([(9:Int)])) (l_7++([y'_1]))))))) (
  G (room l_5 ([(1:Int)]) 8) (
  G (room l_6 ([(9:Int)]) 8) (
  (zd3 y').bind (fun y'_2=>
  G (room l_7 ([y'_2]) 24) (
  zc0 t_2 r18 (l_5++([(1:Int)])) (l_6++([(9:Int)])) (l_7++([y'_2])))))))) (
  G (room l_5 ([(1:Int)]) 8) (
  G (room l_6 ([(9:Int)]) 8) (
  (zd3 y').bind (fun y'_3=>
  G (room l_7 ([y'_3]) 24) (
  zc0 t_2 r18 (l_5++([(1:Int)])) (l_6++([(9:Int)])) (l_7++([y'_3]))))))))) else
  both [Tc2,Tc5] (
  both [Tc2,Tc5] (
  G (room l_5 ([(0:Int)]) 8) (
  both [Tc2,Tc5] (
  both [Tc2,Tc5] (
  G (room l_6 ([(1:Int)]) 8) (
  G (room l_7 ([[a.2.1+(a.2.2.1.length:Int)]]) 24) (
  zaf (l_5++([(0:Int)])) (l_6++([(1:Int)])) (l_7++([[a.2.1+(a.2.2.1.length:Int)]]))))) (
  both [Tc2,Tc5] (
  G (room l_6 ([(1:Int)]) 8) (
  G (room l_7 ([[a.2.1+(a.2.2.1.length:Int)]]) 24) (
  zaf (l_5++([(0:Int)])) (l_6++([(1:Int)])) (l_7++([[a.2.1+(a.2.2.1.length:Int)]]))))) (
  G (room l_6 ([(1:Int)]) 8) (
  G (room l_7 ([[a.2.1+(a.2.2.1.length:Int)]]) 24) (
  zaf (l_5++([(0:Int)])) (l_6++([(1:Int)])) (l_7++([[a.2.1+(a.2.2.1.length:Int)]]))))))) (
  both [Tc2,Tc5] (
  both [Tc2,Tc5] (
  G (room l_6 ([(1:Int)]) 8) (
  G (room l_7 ([[a.2.1+(a.2.2.1.length:Int)]]) 24) (
  zaf (l_5++([(0:Int)])) (l_6++([(1:Int)])) (l_7++([[a.2.1+(a.2.2.1.length:Int)]]))))) (
  G (room l_6 ([(1:Int)]) 8) (
  G (room l_7 ([[a.2.1+(a.2.2.1.length:Int)]]) 24) (
  zaf (l_5++([(0:Int)])) (l_6++([(1:Int)])) (l_7++([[a.2.1+(a.2.2.1.length:Int)]])))))) (
  G (room l_6 ([(1:Int)]) 8) (
  G (room l_7 ([[a.2.1+(a.2.2.1.length:Int)]]) 24) (
  zaf (l_5++([(0:Int)])) (l_6++([(1:Int)])) (l_7++([[a.2.1+(a.2.2.1.length:Int)]])))))))) (
  both [Tc2,Tc5] (
  both [Tc2,Tc5] (
  G (room l_5 ([(0:Int)]) 8) (
  both [Tc2,Tc5] (
  G (room l_6 ([(1:Int)]) 8) (
  G (room l_7 ([[a.2.1+(a.2.2.1.length:Int)]]) 24) (
  zaf (l_5++([(0:Int)])) (l_6++([(1:Int)])) (l_7++([[a.2.1+(a.2.2.1.length:Int)]]))))) (
  both [Tc2,Tc5] (
  G (room l_6 ([(1:Int)]) 8) (
  G (room l_7 ([[a.2.1+(a.2.2.1.length:Int)]]) 24) (
  zaf (l_5++([(0:Int)])) (l_6++([(1:Int)])) (l_7++([[a.2.1+(a.2.2.1.length:Int)]]))))) (
  G (room l_6 ([(1:Int)]) 8) (
  G (room l_7 ([[a.2.1+(a.2.2.1.length:Int)]]) 24) (
  zaf (l_5++([(0:Int)])) (l_6++([(1:Int)])) (l_7++([[a.2.1+(a.2.2.1.length:Int)]])))))))) (
  both [Tc2,Tc5] (
  G (room l_5 ([(0:Int)]) 8) (
  both [Tc2,Tc5] (
  G (room l_6 ([(1:Int)]) 8) (
  G (room l_7 ([[a.2.1+(a.2.2.1.length:Int)]]) 24) (
  zaf (l_5++([(0:Int)])) (l_6++([(1:Int)])) (l_7++([[a.2.1+(a.2.2.1.length:Int)]]))))) (
  G (room l_6 ([(1:Int)]) 8) (
  G (room l_7 ([[a.2.1+(a.2.2.1.length:Int)]]) 24) (
  zaf (l_5++([(0:Int)])) (l_6++([(1:Int)])) (l_7++([[a.2.1+(a.2.2.1.length:Int)]]))))))) (
  G (room l_5 ([(0:Int)]) 8) (
  G (room l_6 ([(1:Int)]) 8) (
  G (room l_7 ([[a.2.1+(a.2.2.1.length:Int)]]) 24) (
  zaf (l_5++([(0:Int)])) (l_6++([(1:Int)])) (l_7++([[a.2.1+(a.2.2.1.length:Int)]])))))))) (
  both [Tc2,Tc5] (
  G (room l_5 ([(0:Int)]) 8) (
  both [Tc2,Tc5] (
  both [Tc2,Tc5] (
  G (room l_6 ([(1:Int)]) 8) (
  G (room l_7 ([[a.2.1+(a.2.2.1.length:Int)]]) 24) (
  zaf (l_5++([(0:Int)])) (l_6++([(1:Int)])) (l_7++([[a.2.1+(a.2.2.1.length:Int)]]))))) (
  G (room l_6 ([(1:Int)]) 8) (
  G (room l_7 ([[a.2.1+(a.2.2.1.length:Int)]]) 24) (
  zaf (l_5++([(0:Int)])) (l_6++([(1:Int)])) (l_7++([[a.2.1+(a.2.2.1.length:Int)]])))))) (
  G (room l_6 ([(1:Int)]) 8) (
  G (room l_7 ([[a.2.1+(a.2.2.1.length:Int)]]) 24) (
  zaf (l_5++([(0:Int)])) (l_6++([(1:Int)])) (l_7++([[a.2.1+(a.2.2.1.length:Int)]]))))))) (
  both [Tc2,Tc5] (
  both [Tc2,Tc5] (
  G (room l_5 ([(0:Int)]) 8) (
  both [Tc2,Tc5] (
  G (room l_6 ([(1:Int)]) 8) (
  G (room l_7 ([[a.2.1+(a.2.2.1.length:Int)]]) 24) (
  zaf (l_5++([(0:Int)])) (l_6++([(1:Int)])) (l_7++([[a.2.1+(a.2.2.1.length:Int)]]))))) (
  G (room l_6 ([(1:Int)]) 8) (
  G (room l_7 ([[a.2.1+(a.2.2.1.length:Int)]]) 24) (
  zaf (l_5++([(0:Int)])) (l_6++([(1:Int)])) (l_7++([[a.2.1+(a.2.2.1.length:Int)]]))))))) (
  G (room l_5 ([(0:Int)]) 8) (
  G (room l_6 ([(1:Int)]) 8) (
  G (room l_7 ([[a.2.1+(a.2.2.1.length:Int)]]) 24) (
  zaf (l_5++([(0:Int)])) (l_6++([(1:Int)])) (l_7++([[a.2.1+(a.2.2.1.length:Int)]]))))))) (
  both [Tc2,Tc5] (
  G (room l_5 ([(0:Int)]) 8) (
  G (room l_6 ([(1:Int)]) 8) (
  G (room l_7 ([[a.2.1+(a.2.2.1.length:Int)]]) 24) (
  zaf (l_5++([(0:Int)])) (l_6++([(1:Int)])) (l_7++([[a.2.1+(a.2.2.1.length:Int)]])))))) (
  G (room l_5 ([(0:Int)]) 8) (
  G (room l_6 ([(1:Int)]) 8) (
  G (room l_7 ([[a.2.1+(a.2.2.1.length:Int)]]) 24) (
  zaf (l_5++([(0:Int)])) (l_6++([(1:Int)])) (l_7++([[a.2.1+(a.2.2.1.length:Int)]]))))))))))) (
  both [Tc2,Tc5] (
  both [Tc2,Tc5] (
  both [Tc2,Tc5] (
  G (room l_5 ([(0:Int)]) 8) (
  both [Tc2,Tc5] (
  G (room l_6 ([(1:Int)]) 8) (
  G (room l_7 ([[a.2.1+(a.2.2.1.length:Int)]]) 24) (
  zaf (l_5++([(0:Int)])) (l_6++([(1:Int)])) (l_7++([[a.2.1+(a.2.2.1.length:Int)]]))))) (
  both [Tc2,Tc5] (
  G (room l_6 ([(1:Int)]) 8) (
  G (room l_7 ([[a.2.1+(a.2.2.1.length:Int)]]) 24) (
  zaf (l_5++([(0:Int)])) (l_6++([(1:Int)])) (l_7++([[a.2.1+(a.2.2.1.length:Int)]]))))) (
  G (room l_6 ([(1:Int)]) 8) (
  G (room l_7 ([[a.2.1+(a.2.2.1.length:Int)]]) 24) (
  zaf (l_5++([(0:Int)])) (l_6++([(1:Int)])) (l_7++([[a.2.1+(a.2.2.1.length:Int)]])))))))) (
  both [Tc2,Tc5] (
  G (room l_5 ([(0:Int)]) 8) (
  both [Tc2,Tc5] (
  G (room l_6 ([(1:Int)]) 8) (
  G (room l_7 ([[a.2.1+(a.2.2.1.length:Int)]]) 24) (
  zaf (l_5++([(0:Int)])) (l_6++([(1:Int)])) (l_7++([[a.2.1+(a.2.2.1.length:Int)]]))))) (
  G (room l_6 ([(1:Int)]) 8) (
  G (room l_7 ([[a.2.1+(a.2.2.1.length:Int)]]) 24) (
  zaf (l_5++([(0:Int)])) (l_6++([(1:Int)])) (l_7++([[a.2.1+(a.2.2.1.length:Int)]]))))))) (
  G (room l_5 ([(0:Int)]) 8) (
  G (room l_6 ([(1:Int)]) 8) (
  G (room l_7 ([[a.2.1+(a.2.2.1.length:Int)]]) 24) (
  zaf (l_5++([(0:Int)])) (l_6++([(1:Int)])) (l_7++([[a.2.1+(a.2.2.1.length:Int)]])))))))) (
  both [Tc2,Tc5] (
  both [Tc2,Tc5] (
  G (room l_5 ([(0:Int)]) 8) (
  both [Tc2,Tc5] (
  G (room l_6 ([(1:Int)]) 8) (
  G (room l_7 ([[a.2.1+(a.2.2.1.length:Int)]]) 24) (
  zaf (l_5++([(0:Int)])) (l_6++([(1:Int)])) (l_7++([[a.2.1+(a.2.2.1.length:Int)]]))))) (
  G (room l_6 ([(1:Int)]) 8) (
  G (room l_7 ([[a.2.1+(a.2.2.1.length:Int)]]) 24) (
  zaf (l_5++([(0:Int)])) (l_6++([(1:Int)])) (l_7++([[a.2.1+(a.2.2.1.length:Int)]]))))))) (
  G (room l_5 ([(0:Int)]) 8) (
  G (room l_6 ([(1:Int)]) 8) (
  G (room l_7 ([[a.2.1+(a.2.2.1.length:Int)]]) 24) (
  zaf (l_5++([(0:Int)])) (l_6++([(1:Int)])) (l_7++([[a.2.1+(a.2.2.1.length:Int)]]))))))) (
  G (room l_5 ([(0:Int)]) 8) (
  G (room l_6 ([(1:Int)]) 8) (
  G (room l_7 ([[a.2.1+(a.2.2.1.length:Int)]]) 24) (
  zaf (l_5++([(0:Int)])) (l_6++([(1:Int)])) (l_7++([[a.2.1+(a.2.2.1.length:Int)]])))))))) (
  both [Tc2,Tc5] (
  both [Tc2,Tc5] (
  G (room l_5 ([(0:Int)]) 8) (
  both [Tc2,Tc5] (
  both [Tc2,Tc5] (
  G (room l_6 ([(1:Int)]) 8) (
  G (room l_7 ([[a.2.1+(a.2.2.1.length:Int)]]) 24) (
  zaf (l_5++([(0:Int)])) (l_6++([(1:Int)])) (l_7++([[a.2.1+(a.2.2.1.length:Int)]]))))) (
  G (room l_6 ([(1:Int)]) 8) (
  G (room l_7 ([[a.2.1+(a.2.2.1.length:Int)]]) 24) (
  zaf (l_5++([(0:Int)])) (l_6++([(1:Int)])) (l_7++([[a.2.1+(a.2.2.1.length:Int)]])))))) (
  G (room l_6 ([(1:Int)]) 8) (
  G (room l_7 ([[a.2.1+(a.2.2.1.length:Int)]]) 24) (
  zaf (l_5++([(0:Int)])) (l_6++([(1:Int)])) (l_7++([[a.2.1+(a.2.2.1.length:Int)]]))))))) (
  both [Tc2,Tc5] (
  both [Tc2,Tc5] (
  G (room l_5 ([(0:Int)]) 8) (
  both [Tc2,Tc5] (
  G (room l_6 ([(1:Int)]) 8) (
  G (room l_7 ([[a.2.1+(a.2.2.1.length:Int)]]) 24) (
  zaf (l_5++([(0:Int)])) (l_6++([(1:Int)])) (l_7++([[a.2.1+(a.2.2.1.length:Int)]]))))) (
  G (room l_6 ([(1:Int)]) 8) (
  G (room l_7 ([[a.2.1+(a.2.2.1.length:Int)]]) 24) (
  zaf (l_5++([(0:Int)])) (l_6++([(1:Int)])) (l_7++([[a.2.1+(a.2.2.1.length:Int)]]))))))) (
  G (room l_5 ([(0:Int)]) 8) (
  G (room l_6 ([(1:Int)]) 8) (
  G (room l_7 ([[a.2.1+(a.2.2.1.length:Int)]]) 24) (
  zaf (l_5++([(0:Int)])) (l_6++([(1:Int)])) (l_7++([[a.2.1+(a.2.2.1.length:Int)]]))))))) (
  both [Tc2,Tc5] (
  G (room l_5 ([(0:Int)]) 8) (
  G (room l_6 ([(1:Int)]) 8) (
  G (room l_7 ([[a.2.1+(a.2.2.1.length:Int)]]) 24) (
  zaf (l_5++([(0:Int)])) (l_6++([(1:Int)])) (l_7++([[a.2.1+(a.2.2.1.length:Int)]])))))) (
  G (room l_5 ([(0:Int)]) 8) (
  G (room l_6 ([(1:Int)]) 8) (
  G (room l_7 ([[a.2.1+(a.2.2.1.length:Int)]]) 24) (
  zaf (l_5++([(0:Int)])) (l_6++([(1:Int)])) (l_7++([[a.2.1+(a.2.2.1.length:Int)]]))))))))) (
  both [Tc2,Tc5] (
  both [Tc2,Tc5] (
  both [Tc2,Tc5] (
  G (room l_5 ([(0:Int)]) 8) (
  both [Tc2,Tc5] (
  G (room l_6 ([(1:Int)]) 8) (
  G (room l_7 ([[a.2.1+(a.2.2.1.length:Int)]]) 24) (
  zaf (l_5++([(0:Int)])) (l_6++([(1:Int)])) (l_7++([[a.2.1+(a.2.2.1.length:Int)]]))))) (
  G (room l_6 ([(1:Int)]) 8) (
  G (room l_7 ([[a.2.1+(a.2.2.1.length:Int)]]) 24) (
  zaf (l_5++([(0:Int)])) (l_6++([(1:Int)])) (l_7++([[a.2.1+(a.2.2.1.length:Int)]]))))))) (
  G (room l_5 ([(0:Int)]) 8) (
  G (room l_6 ([(1:Int)]) 8) (
  G (room l_7 ([[a.2.1+(a.2.2.1.length:Int)]]) 24) (
  zaf (l_5++([(0:Int)])) (l_6++([(1:Int)])) (l_7++([[a.2.1+(a.2.2.1.length:Int)]]))))))) (
  G (room l_5 ([(0:Int)]) 8) (
  G (room l_6 ([(1:Int)]) 8) (
  G (room l_7 ([[a.2.1+(a.2.2.1.length:Int)]]) 24) (
  zaf (l_5++([(0:Int)])) (l_6++([(1:Int)])) (l_7++([[a.2.1+(a.2.2.1.length:Int)]]))))))) (
  both [Tc2,Tc5] (
  both [Tc2,Tc5] (
  G (room l_5 ([(0:Int)]) 8) (
  G (room l_6 ([(1:Int)]) 8) (
  G (room l_7 ([[a.2.1+(a.2.2.1.length:Int)]]) 24) (
  zaf (l_5++([(0:Int)])) (l_6++([(1:Int)])) (l_7++([[a.2.1+(a.2.2.1.length:Int)]])))))) (
  G (room l_5 ([(0:Int)]) 8) (
  G (room l_6 ([(1:Int)]) 8) (
  G (room l_7 ([[a.2.1+(a.2.2.1.length:Int)]]) 24) (
  zaf (l_5++([(0:Int)])) (l_6++([(1:Int)])) (l_7++([[a.2.1+(a.2.2.1.length:Int)]]))))))) (
  G (room l_5 ([(0:Int)]) 8) (
  G (room l_6 ([(1:Int)]) 8) (
  G (room l_7 ([[a.2.1+(a.2.2.1.length:Int)]]) 24) (
  zaf (l_5++([(0:Int)])) (l_6++([(1:Int)])) (l_7++([[a.2.1+(a.2.2.1.length:Int)]]))))))))))
def zki (a:Tp5) (a_1:Tp5):(Int×Tp16×Tp16×Tp14->Option Tp3)->Int×Tp16×Tp16×Tp14->Option Tp3:=
  fun rec x=>zcM a a_1 (fun t_2 l_5 l_6 l_7=>rec (t_2,l_5,l_6,l_7)) x.1 x.2.1 x.2.2.1 x.2.2.2
def zfn (a:Tp5) (a_1:Tp5) (t_2:Int) (l_5:Tp16) (l_6:Tp16) (l_7:Tp14):Option Tp3:=LFix (zki a a_1 ) (t_2,l_5,l_6,l_7)
def zdf (a:Tp5) (r4:Tf9) (a_1:Tp5) (t:Int) (g':Tp16) (g'_1:Tp16) (g'_2:Tp14):Option Tp3:=
  if (decide (t < a.2.1))=true then
  zdY a a_1 t g' g'_1 g'_2 r4 (0:Int) ([]) else
  zfn a a_1 (0:Int) g' g'_1 g'_2
def zlb (a:Tp5):(Tp5×Int×Tp16×Tp16×Tp14->Option Tp3)->Tp5×Int×Tp16×Tp16×Tp14->Option Tp3:=
  fun rec x=>zdf a (fun a_1 t g' g'_1 g'_2=>rec (a_1,t,g',g'_1,g'_2)) x.1 x.2.1 x.2.2.1 x.2.2.2.1 x.2.2.2.2
def zf3 (a:Tp5) (a_1:Tp5) (t:Int) (g':Tp16) (g'_1:Tp16) (g'_2:Tp14):Option Tp3:=LFix (zlb a ) (a_1,t,g',g'_1,g'_2)
def zi6 (a:Tp5):Option Tp3:=
  G (fits (a.2.1+(a.2.2.1.length:Int))) (
  zf3 a (a.1,(a.2.1,(a.2.2.1,(a.2.2.2.1,(a.2.2.2.2.1,()))))) (0:Int) ([]:List Int) ([]:List Int) ([]:List Tp16))
theorem zdN (r4:Nat->Tf9) (r4':Tf9) (h_r4:∀ a0 a1 a2 a3 a4,ChO (fun κ=>r4 κ a0 a1 a2 a3 a4) (r4' a0 a1 a2 a3 a4)) (t:Int) (a_2:Tp5) (l_2:Tp16) (l_3:Tp16) (l_4:Tp14):ChO (fun κ=>zaD t (r4 κ) a_2 l_2 l_3 l_4) (zaD t r4' a_2 l_2 l_3 l_4):=by
  unfold zaD
  repeat' with_reducible first | exact ChO.const _ | exact h_r4 _ _ _ _ _ | apply ChO.ite | apply ChO.G | apply ChO.both | (apply ChO.bind;intro _)
theorem ze5 (r4:Nat->Tf9) (r4':Tf9) (h_r4:∀ a0 a1 a2 a3 a4,ChO (fun κ=>r4 κ a0 a1 a2 a3 a4) (r4' a0 a1 a2 a3 a4)) (a_1:Tp5) (t:Int) (g':Tp16) (g'_1:Tp16) (g'_2:Tp14) (l_1:Tp16):ChO (fun κ=>zdA a_1 t g' g'_1 g'_2 (r4 κ) l_1) (zdA a_1 t g' g'_1 g'_2 r4' l_1):=by
  unfold zdA
  repeat' with_reducible first | exact ChO.const _ | exact h_r4 _ _ _ _ _ | (apply zdN<;>assumption) | apply ChO.ite | apply ChO.G | apply ChO.both | (apply ChO.bind;intro _)
theorem zi7 (r4:Nat->Tf9) (r4':Tf9) (h_r4:∀ a0 a1 a2 a3 a4,ChO (fun κ=>r4 κ a0 a1 a2 a3 a4) (r4' a0 a1 a2 a3 a4)) (r8:Nat->Int->Tp16->Option Tp3) (r8':Int->Tp16->Option Tp3) (h_r8:∀ a0 a1,ChO (fun κ=>r8 κ a0 a1) (r8' a0 a1)) (a:Tp5) (a_1:Tp5) (t:Int) (g':Tp16) (g'_1:Tp16) (g'_2:Tp14) (t_1:Int) (l:Tp16):ChO (fun κ=>zdg a a_1 t g' g'_1 g'_2 (r4 κ) (r8 κ) t_1 l) (zdg a a_1 t g' g'_1 g'_2 r4' r8' t_1 l):=by
  unfold zdg
  repeat' with_reducible first | exact ChO.const _ | exact h_r4 _ _ _ _ _ | exact h_r8 _ _ | (apply zdN<;>assumption) | (apply ze5<;>assumption) | apply ChO.ite | apply ChO.G | apply ChO.both | (apply ChO.bind;intro _)
theorem zhE (r4:Tf9) (a:Tp5) (a_1:Tp5) (t:Int) (g':Tp16) (g'_1:Tp16) (g'_2:Tp14):Cn (zlc a a_1 t g' g'_1 g'_2 r4):=fun g h hg x=>zi7 (fun _=>r4) r4 (fun _ _ _ _ _=>ChO.const _) (fun κ t_1 l=>g κ (t_1,l)) (fun t_1 l=>h (t_1,l)) (fun t_1 l=>hg (t_1,l)) a a_1 t g' g'_1 g'_2 x.1 x.2
theorem zkk (r4:Tf9) (a:Tp5) (a_1:Tp5) (t:Int) (g':Tp16) (g'_1:Tp16) (g'_2:Tp14) (t_1:Int) (l:Tp16):zdY a a_1 t g' g'_1 g'_2 r4 t_1 l=zdg a a_1 t g' g'_1 g'_2 r4 (zdY a a_1 t g' g'_1 g'_2 r4) t_1 l:=zaE (zhE r4 a a_1 t g' g'_1 g'_2) (t_1,l)
theorem zhD (r4:Nat->Tf9) (r4':Tf9) (h_r4:∀ a0 a1 a2 a3 a4,ChO (fun κ=>r4 κ a0 a1 a2 a3 a4) (r4' a0 a1 a2 a3 a4)) (a:Tp5) (a_1:Tp5) (t:Int) (g':Tp16) (g'_1:Tp16) (g'_2:Tp14) (t_1:Int) (l:Tp16):ChO (fun κ=>zdY a a_1 t g' g'_1 g'_2 (r4 κ) t_1 l) (zdY a a_1 t g' g'_1 g'_2 r4' t_1 l):=by
  unfold zdY
  exact zdV (fun κ=>(zhE (r4 κ) a a_1 t g' g'_1 g'_2).mono) (zhE r4' a a_1 t g' g'_1 g'_2).mono (fun g h hg x=>zi7 r4 r4' h_r4 (fun κ t_1 l=>g κ (t_1,l)) (fun t_1 l=>h (t_1,l)) (fun t_1 l=>hg (t_1,l)) a a_1 t g' g'_1 g'_2 x.1 x.2) _
theorem zjA (r18:Nat->Tf12) (r18':Tf12) (h_r18:∀ a0 a1 a2 a3,ChO (fun κ=>r18 κ a0 a1 a2 a3) (r18' a0 a1 a2 a3)) (t_2:Int) (l_8:Tp16) (l_9:Tp16) (l_10:Tp14):ChO (fun κ=>zc0 t_2 (r18 κ) l_8 l_9 l_10) (zc0 t_2 r18' l_8 l_9 l_10):=by
  unfold zc0
  repeat' with_reducible first | exact ChO.const _ | exact h_r18 _ _ _ _ | (apply zdN<;>assumption) | (apply ze5<;>assumption) | (apply zhD<;>assumption) | apply ChO.ite | apply ChO.G | apply ChO.both | (apply ChO.bind;intro _)
theorem zmw (r18:Nat->Tf12) (r18':Tf12) (h_r18:∀ a0 a1 a2 a3,ChO (fun κ=>r18 κ a0 a1 a2 a3) (r18' a0 a1 a2 a3)) (a:Tp5) (a_1:Tp5) (t_2:Int) (l_5:Tp16) (l_6:Tp16) (l_7:Tp14):ChO (fun κ=>zcM a a_1 (r18 κ) t_2 l_5 l_6 l_7) (zcM a a_1 r18' t_2 l_5 l_6 l_7):=by
  unfold zcM
  repeat' with_reducible first | exact ChO.const _ | exact h_r18 _ _ _ _ | (apply zdN<;>assumption) | (apply ze5<;>assumption) | (apply zhD<;>assumption) | (apply zjA<;>assumption) | apply ChO.ite | apply ChO.G | apply ChO.both | (apply ChO.bind;intro _)
theorem znI  (a:Tp5) (a_1:Tp5):Cn (zki a a_1):=fun g h hg x=>zmw  (fun κ t_2 l_5 l_6 l_7=>g κ (t_2,l_5,l_6,l_7)) (fun t_2 l_5 l_6 l_7=>h (t_2,l_5,l_6,l_7)) (fun t_2 l_5 l_6 l_7=>hg (t_2,l_5,l_6,l_7)) a a_1 x.1 x.2.1 x.2.2.1 x.2.2.2
theorem zjB  (a:Tp5) (a_1:Tp5) (t_2:Int) (l_5:Tp16) (l_6:Tp16) (l_7:Tp14):zfn a a_1 t_2 l_5 l_6 l_7=zcM a a_1 (zfn a a_1) t_2 l_5 l_6 l_7:=zaE (znI a a_1) (t_2,l_5,l_6,l_7)
theorem znb (r4:Nat->Tf9) (r4':Tf9) (h_r4:∀ a0 a1 a2 a3 a4,ChO (fun κ=>r4 κ a0 a1 a2 a3 a4) (r4' a0 a1 a2 a3 a4)) (a:Tp5) (a_1:Tp5) (t:Int) (g':Tp16) (g'_1:Tp16) (g'_2:Tp14):ChO (fun κ=>zdf a (r4 κ) a_1 t g' g'_1 g'_2) (zdf a r4' a_1 t g' g'_1 g'_2):=by
  unfold zdf
  repeat' with_reducible first | exact ChO.const _ | exact h_r4 _ _ _ _ _ | (apply zdN<;>assumption) | (apply ze5<;>assumption) | (apply zhD<;>assumption) | (apply zjA<;>assumption) | apply ChO.ite | apply ChO.G | apply ChO.both | (apply ChO.bind;intro _)
theorem zoA  (a:Tp5):Cn (zlb a):=fun g h hg x=>znb  (fun κ a_1 t g' g'_1 g'_2=>g κ (a_1,t,g',g'_1,g'_2)) (fun a_1 t g' g'_1 g'_2=>h (a_1,t,g',g'_1,g'_2)) (fun a_1 t g' g'_1 g'_2=>hg (a_1,t,g',g'_1,g'_2)) a x.1 x.2.1 x.2.2.1 x.2.2.2.1 x.2.2.2.2
theorem zkj  (a:Tp5) (a_1:Tp5) (t:Int) (g':Tp16) (g'_1:Tp16) (g'_2:Tp14):zf3 a a_1 t g' g'_1 g'_2=zdf a (zf3 a) a_1 t g' g'_1 g'_2:=zaE (zoA a) (a_1,t,g',g'_1,g'_2)

def zgn (q:Int) (c:Tp16) (c_1:Tp16) (l:Tp16):Option (Int×Tp16×Tp16×Tp16):=
  if (!(mhas c q))=true then
  G (room l ([q]) 8) (
  some ((l.length:Int),l++([q]),zmx c q,zpG c c_1 q (l.length:Int))) else
  some (mget c c_1 q (0:Int),l,c,c_1)

def zco (k:Int) (l:Tp16) (l_1:Tp16) (l_2:Tp16) (r12:(Int->Tp16->Tp16->Tp16->Tp16->Tp16->Tp16->Tp16->Option Tp6)) (r:Tp11) (l_3:Tp16) (l_4:Tp16) (l_5:Tp16) (l_6:Tp16):Option Tp6:=
  (zgn r.2.1 l_1 l_2 l).bind (fun y'_20=>
  G (room l_5 ([y'_20.1]) 8) (
  (zgn r.2.2.1 y'_20.2.2.1 y'_20.2.2.2 y'_20.2.1).bind (fun y'_19=>
  G (room l_6 ([y'_19.1]) 8) (
  G (fits (k+(1:Int))) (
  r12 (k+(1:Int)) y'_19.2.1 y'_19.2.2.1 y'_19.2.2.2 l_3 l_4 (l_5++([y'_20.1])) (l_6++([y'_19.1])))))))
def zcZ (a:Tp5) (y'_2:Tp10) (r12:Tf4) (k:Int) (l:Tp16) (l_1:Tp16) (l_2:Tp16) (g':Tp16) (g'_1:Tp16) (g'_2:Tp16) (g'_3:Tp16):Option Tp6:=
  if (decide (k < (l.length:Int)))=true then
  G (0<=k/\k < (l.length:Int)) (
  G ((k).toNat < l.length) (
  G (0<=ix l k/\ix l k < (y'_2.2.1.length:Int)) (
  G (fits ((ix y'_2.2.1 (ix l k)) - a.2.1)) (
  G (0<=(ix y'_2.2.1 (ix l k)) - a.2.1/\(ix y'_2.2.1 (ix l k)) - a.2.1 < (a.2.2.1.length:Int)) (
  G (0<=k/\k < (l.length:Int)) (
  both [Tc1,.bool,(.int .i64)] (
  both [Tc1,.bool,(.int .i64)] (
  G (room g' ([(ix a.2.2.1 ((ix y'_2.2.1 (ix l k)) - a.2.1)).1]) 8) (
  G ((k).toNat < l.length) (
  G (room g'_1 ([ix l k]) 8) (
  zco k l l_1 l_2 r12 ((ix a.2.2.1 ((ix y'_2.2.1 (ix l k)) - a.2.1)).1,(((ix a.2.2.1 ((ix y'_2.2.1 (ix l k)) - a.2.1)).2).1,((((ix a.2.2.1 ((ix y'_2.2.1 (ix l k)) - a.2.1)).2).2).1,(((((ix a.2.2.1 ((ix y'_2.2.1 (ix l k)) - a.2.1)).2).2).2).1,())))) (g'++([(ix a.2.2.1 ((ix y'_2.2.1 (ix l k)) - a.2.1)).1])) (g'_1++([ix l k])) g'_2 g'_3)))) (
  G ((k).toNat < l.length) (
  both [Tc1,.bool,(.int .i64)] (
  G (room g' ([(ix a.2.2.1 ((ix y'_2.2.1 (ix l k)) - a.2.1)).1]) 8) (
  G (room g'_1 ([ix l k]) 8) (
  zco k l l_1 l_2 r12 ((ix a.2.2.1 ((ix y'_2.2.1 (ix l k)) - a.2.1)).1,(((ix a.2.2.1 ((ix y'_2.2.1 (ix l k)) - a.2.1)).2).1,((((ix a.2.2.1 ((ix y'_2.2.1 (ix l k)) - a.2.1)).2).2).1,(((((ix a.2.2.1 ((ix y'_2.2.1 (ix l k)) - a.2.1)).2).2).2).1,())))) (g'++([(ix a.2.2.1 ((ix y'_2.2.1 (ix l k)) - a.2.1)).1])) (g'_1++([ix l k])) g'_2 g'_3))) (
  G (room g' ([(ix a.2.2.1 ((ix y'_2.2.1 (ix l k)) - a.2.1)).1]) 8) (
  G (room g'_1 ([ix l k]) 8) (
  zco k l l_1 l_2 r12 ((ix a.2.2.1 ((ix y'_2.2.1 (ix l k)) - a.2.1)).1,(((ix a.2.2.1 ((ix y'_2.2.1 (ix l k)) - a.2.1)).2).1,((((ix a.2.2.1 ((ix y'_2.2.1 (ix l k)) - a.2.1)).2).2).1,(((((ix a.2.2.1 ((ix y'_2.2.1 (ix l k)) - a.2.1)).2).2).2).1,())))) (g'++([(ix a.2.2.1 ((ix y'_2.2.1 (ix l k)) - a.2.1)).1])) (g'_1++([ix l k])) g'_2 g'_3)))))) (
  G ((k).toNat < l.length) (
  both [Tc1,.bool,(.int .i64)] (
  both [Tc1,.bool,(.int .i64)] (
  G (room g' ([(ix a.2.2.1 ((ix y'_2.2.1 (ix l k)) - a.2.1)).1]) 8) (
  G (room g'_1 ([ix l k]) 8) (
  zco k l l_1 l_2 r12 ((ix a.2.2.1 ((ix y'_2.2.1 (ix l k)) - a.2.1)).1,(((ix a.2.2.1 ((ix y'_2.2.1 (ix l k)) - a.2.1)).2).1,((((ix a.2.2.1 ((ix y'_2.2.1 (ix l k)) - a.2.1)).2).2).1,(((((ix a.2.2.1 ((ix y'_2.2.1 (ix l k)) - a.2.1)).2).2).2).1,())))) (g'++([(ix a.2.2.1 ((ix y'_2.2.1 (ix l k)) - a.2.1)).1])) (g'_1++([ix l k])) g'_2 g'_3))) (
  G (room g' ([(ix a.2.2.1 ((ix y'_2.2.1 (ix l k)) - a.2.1)).1]) 8) (
  G (room g'_1 ([ix l k]) 8) (
  zco k l l_1 l_2 r12 ((ix a.2.2.1 ((ix y'_2.2.1 (ix l k)) - a.2.1)).1,(((ix a.2.2.1 ((ix y'_2.2.1 (ix l k)) - a.2.1)).2).1,((((ix a.2.2.1 ((ix y'_2.2.1 (ix l k)) - a.2.1)).2).2).1,(((((ix a.2.2.1 ((ix y'_2.2.1 (ix l k)) - a.2.1)).2).2).2).1,())))) (g'++([(ix a.2.2.1 ((ix y'_2.2.1 (ix l k)) - a.2.1)).1])) (g'_1++([ix l k])) g'_2 g'_3)))) (
  G (room g' ([(ix a.2.2.1 ((ix y'_2.2.1 (ix l k)) - a.2.1)).1]) 8) (
  G (room g'_1 ([ix l k]) 8) (
  zco k l l_1 l_2 r12 ((ix a.2.2.1 ((ix y'_2.2.1 (ix l k)) - a.2.1)).1,(((ix a.2.2.1 ((ix y'_2.2.1 (ix l k)) - a.2.1)).2).1,((((ix a.2.2.1 ((ix y'_2.2.1 (ix l k)) - a.2.1)).2).2).1,(((((ix a.2.2.1 ((ix y'_2.2.1 (ix l k)) - a.2.1)).2).2).2).1,())))) (g'++([(ix a.2.2.1 ((ix y'_2.2.1 (ix l k)) - a.2.1)).1])) (g'_1++([ix l k])) g'_2 g'_3))))))))))) else
  some ((g',(g'_1,(g'_2,(g'_3,())))),true,(0:Int))
def zlM (a:Tp5) (y'_2:Tp10):(Int×Tp16×Tp16×Tp16×Tp16×Tp16×Tp16×Tp16->Option Tp6)->Int×Tp16×Tp16×Tp16×Tp16×Tp16×Tp16×Tp16->Option Tp6:=
  fun rec x=>zcZ a y'_2 (fun k l l_1 l_2 g' g'_1 g'_2 g'_3=>rec (k,l,l_1,l_2,g',g'_1,g'_2,g'_3)) x.1 x.2.1 x.2.2.1 x.2.2.2.1 x.2.2.2.2.1 x.2.2.2.2.2.1 x.2.2.2.2.2.2.1 x.2.2.2.2.2.2.2
def zg2 (a:Tp5) (y'_2:Tp10) (k:Int) (l:Tp16) (l_1:Tp16) (l_2:Tp16) (g':Tp16) (g'_1:Tp16) (g'_2:Tp16) (g'_3:Tp16):Option Tp6:=LFix (zlM a y'_2 ) (k,l,l_1,l_2,g',g'_1,g'_2,g'_3)
def zlJ (a:Tp5):Option Tp6:=
  (ziU (a.1,(a.2.1,(a.2.2.1,(a.2.2.2.1,(a.2.2.2.2.1,())))))).bind (fun y'=>
  if (decide (¬ y'=(0:Int)))=true then
  some (([],([],([],([],())))),false,y') else
  (zi6 (a.1,(a.2.1,(a.2.2.1,(a.2.2.2.1,(a.2.2.2.2.1,())))))).bind (fun y'_22=>
  G (0<=a.2.2.2.1/\a.2.2.2.1 < (y'_22.2.1.length:Int)) (
  if (decide (¬ (ix y'_22.2.1 a.2.2.2.1)=(0:Int)))=true then
  some (([],([],([],([],())))),false,(0:Int)) else
  (zgn a.2.2.2.1 ([]:List Int) ([]:List Int) ([]:List Int)).bind (fun y'_21=>
  zg2 a y'_22.2 (0:Int) y'_21.2.1 y'_21.2.2.1 y'_21.2.2.2 ([]:List Int) ([]:List Int) ([]:List Int) ([]:List Int)))))
theorem zpE (r12:Nat->Tf4) (r12':Tf4) (h_r12:∀ a0 a1 a2 a3 a4 a5 a6 a7,ChO (fun κ=>r12 κ a0 a1 a2 a3 a4 a5 a6 a7) (r12' a0 a1 a2 a3 a4 a5 a6 a7)) (k:Int) (l:Tp16) (l_1:Tp16) (l_2:Tp16) (r:Tp11) (l_3:Tp16) (l_4:Tp16) (l_5:Tp16) (l_6:Tp16):ChO (fun κ=>zco k l l_1 l_2 (r12 κ) r l_3 l_4 l_5 l_6) (zco k l l_1 l_2 r12' r l_3 l_4 l_5 l_6):=by
  unfold zco
  repeat' with_reducible first | exact ChO.const _ | exact h_r12 _ _ _ _ _ _ _ _ | apply ChO.ite | apply ChO.G | apply ChO.both | (apply ChO.bind;intro _)
theorem znF (r12:Nat->Tf4) (r12':Tf4) (h_r12:∀ a0 a1 a2 a3 a4 a5 a6 a7,ChO (fun κ=>r12 κ a0 a1 a2 a3 a4 a5 a6 a7) (r12' a0 a1 a2 a3 a4 a5 a6 a7)) (a:Tp5) (y'_2:Tp10) (k:Int) (l:Tp16) (l_1:Tp16) (l_2:Tp16) (g':Tp16) (g'_1:Tp16) (g'_2:Tp16) (g'_3:Tp16):ChO (fun κ=>zcZ a y'_2 (r12 κ) k l l_1 l_2 g' g'_1 g'_2 g'_3) (zcZ a y'_2 r12' k l l_1 l_2 g' g'_1 g'_2 g'_3):=by
  unfold zcZ
  repeat' with_reducible first | exact ChO.const _ | exact h_r12 _ _ _ _ _ _ _ _ | (apply zpE<;>assumption) | apply ChO.ite | apply ChO.G | apply ChO.both | (apply ChO.bind;intro _)
theorem zpF  (a:Tp5) (y'_2:Tp10):Cn (zlM a y'_2):=fun g h hg x=>znF  (fun κ k l l_1 l_2 g' g'_1 g'_2 g'_3=>g κ (k,l,l_1,l_2,g',g'_1,g'_2,g'_3)) (fun k l l_1 l_2 g' g'_1 g'_2 g'_3=>h (k,l,l_1,l_2,g',g'_1,g'_2,g'_3)) (fun k l l_1 l_2 g' g'_1 g'_2 g'_3=>hg (k,l,l_1,l_2,g',g'_1,g'_2,g'_3)) a y'_2 x.1 x.2.1 x.2.2.1 x.2.2.2.1 x.2.2.2.2.1 x.2.2.2.2.2.1 x.2.2.2.2.2.2.1 x.2.2.2.2.2.2.2
theorem zik  (a:Tp5) (y'_2:Tp10) (k:Int) (l:Tp16) (l_1:Tp16) (l_2:Tp16) (g':Tp16) (g'_1:Tp16) (g'_2:Tp16) (g'_3:Tp16):zg2 a y'_2 k l l_1 l_2 g' g'_1 g'_2 g'_3=zcZ a y'_2 (zg2 a y'_2) k l l_1 l_2 g' g'_1 g'_2 g'_3:=zaE (zpF a y'_2) (k,l,l_1,l_2,g',g'_1,g'_2,g'_3)

def zfl (t:Int) (ways:Tp16) (r8:(Int->Tp16->Option Tp13)) (t_1:Bool):Option Tp13:=
  if t_1=true then
  G (room ways ([(1:Int)]) 8) (
  G (fits (t+(1:Int))) (
  r8 (t+(1:Int)) (ways++([(1:Int)])))) else
  G (room ways ([(0:Int)]) 8) (
  G (fits (t+(1:Int))) (
  r8 (t+(1:Int)) (ways++([(0:Int)]))))
def zeI (a:Tp5) (y'_2:Tp10) (r8:Int->Tp16->Option Tp13) (t:Int) (ways:Tp16):Option Tp13:=
  if (decide (t < (a.2.2.1.length:Int)))=true then
  G (0<=t/\t < (a.2.2.1.length:Int)) (
  G (fits (a.2.1+t)) (
  G (0<=a.2.1+t/\a.2.1+t < (y'_2.2.1.length:Int)) (
  if (decide ((0:Int)<=(ix y'_2.2.1 (a.2.1+t))))=true then
  zfl t ways r8 (decide (¬ (ix y'_2.2.1 (a.2.1+t))=(((ix a.2.2.1 t).2).1))) else
  zfl t ways r8 false))) else
  some (true,(0:Int),ways)
def znD (a:Tp5) (y'_2:Tp10):(Int×Tp16->Option Tp13)->Int×Tp16->Option Tp13:=
  fun rec x=>zeI a y'_2 (fun t ways=>rec (t,ways)) x.1 x.2
def zi4 (a:Tp5) (y'_2:Tp10) (t:Int) (ways:Tp16):Option Tp13:=LFix (znD a y'_2 ) (t,ways)
def znC (a:Tp5):Option Tp13:=
  (ziU (a.1,(a.2.1,(a.2.2.1,(a.2.2.2.1,(a.2.2.2.2.1,())))))).bind (fun y'=>
  if (decide (¬ y'=(0:Int)))=true then
  some (false,y',[]) else
  (zi6 (a.1,(a.2.1,(a.2.2.1,(a.2.2.2.1,(a.2.2.2.2.1,())))))).bind (fun y'_4=>
  G (0<=a.2.2.2.1/\a.2.2.2.1 < (y'_4.2.1.length:Int)) (
  if (decide ((ix y'_4.2.1 a.2.2.2.1)=(0:Int)))=true then
  some (false,(0:Int),[]) else
  zi4 a y'_4.2 (0:Int) ([]))))
theorem zqr (r8:Nat->Int->Tp16->Option Tp13) (r8':Int->Tp16->Option Tp13) (h_r8:∀ a0 a1,ChO (fun κ=>r8 κ a0 a1) (r8' a0 a1)) (t:Int) (ways:Tp16) (t_1:Bool):ChO (fun κ=>zfl t ways (r8 κ) t_1) (zfl t ways r8' t_1):=by
  unfold zfl
  repeat' with_reducible first | exact ChO.const _ | exact h_r8 _ _ | apply ChO.ite | apply ChO.G | apply ChO.both | (apply ChO.bind;intro _)
theorem zpC (r8:Nat->Int->Tp16->Option Tp13) (r8':Int->Tp16->Option Tp13) (h_r8:∀ a0 a1,ChO (fun κ=>r8 κ a0 a1) (r8' a0 a1)) (a:Tp5) (y'_2:Tp10) (t:Int) (ways:Tp16):ChO (fun κ=>zeI a y'_2 (r8 κ) t ways) (zeI a y'_2 r8' t ways):=by
  unfold zeI
  repeat' with_reducible first | exact ChO.const _ | exact h_r8 _ _ | (apply zqr<;>assumption) | apply ChO.ite | apply ChO.G | apply ChO.both | (apply ChO.bind;intro _)
theorem zrl  (a:Tp5) (y'_2:Tp10):Cn (znD a y'_2):=fun g h hg x=>zpC  (fun κ t ways=>g κ (t,ways)) (fun t ways=>h (t,ways)) (fun t ways=>hg (t,ways)) a y'_2 x.1 x.2
theorem zmJ  (a:Tp5) (y'_2:Tp10) (t:Int) (ways:Tp16):zi4 a y'_2 t ways=zeI a y'_2 (zi4 a y'_2) t ways:=zaE (zrl a y'_2) (t,ways)

def zn5 (x':Tp11) (y':Tp11):Option (Bool):=
  if (decide (¬ x'.1=y'.1))=true then
  some (decide (x'.1 < y'.1)) else
  if (decide (¬ x'.2.1=y'.2.1))=true then
  some (decide (x'.2.1 < y'.2.1)) else
  if (decide (¬ x'.2.2.1=y'.2.2.1))=true then
  some (decide (x'.2.2.1 < y'.2.2.1)) else
  some (decide (x'.2.2.2.1 < y'.2.2.2.1))

def zc2 (t:Tp5) (r19:Int->Option (Int)) (i_2:Int):Option (Int):=
  if (decide (i_2 < (t.2.2.1.length:Int)))=true then
  G (fits (i_2 - (1:Int))) (
  G (0<=i_2 - (1:Int)/\i_2 - (1:Int) < (t.2.2.1.length:Int)) (
  G (0<=i_2/\i_2 < (t.2.2.1.length:Int)) (
  (zn5 (ix t.2.2.1 (i_2 - (1:Int))) (ix t.2.2.1 i_2)).bind (fun y'=>
  if (!y')=true then
  some (3:Int) else
  G (fits (i_2+(1:Int))) (
  r19 (i_2+(1:Int))))))) else
  some (0:Int)
def zl1 (t:Tp5):(Int->Option (Int))->Int->Option (Int):=
  fun rec x=>zc2 t (fun i_2=>rec i_2) x
def ziK (t:Tp5) (i_2:Int):Option (Int):=LFix (zl1 t ) i_2
def zc1 (t:Tp5) (r14:Int->Option (Int)) (i_1:Int):Option (Int):=
  if (decide (i_1 < (t.2.2.2.2.1.length:Int)))=true then
  G (0<=i_1/\i_1 < (t.2.2.2.2.1.length:Int)) (
  if (decide ((ix t.2.2.2.2.1 i_1) < (0:Int)))=true then
  some (2:Int) else
  G (0<=i_1/\i_1 < (t.2.2.2.2.1.length:Int)) (
  if (decide ((9:Int) < (ix t.2.2.2.2.1 i_1)))=true then
  some (2:Int) else
  G (fits (i_1+(1:Int))) (
  r14 (i_1+(1:Int))))) else
  ziK t (1:Int)
def zl0 (t:Tp5):(Int->Option (Int))->Int->Option (Int):=
  fun rec x=>zc1 t (fun i_1=>rec i_1) x
def zkU (t:Tp5) (i_1:Int):Option (Int):=LFix (zl0 t ) i_1
def zdu (t:Tp5) (r6:Int->Option (Int)) (i:Int):Option (Int):=
  if (decide (i < (t.2.2.1.length:Int)))=true then
  G (0<=i/\i < (t.2.2.1.length:Int)) (
  if (decide (((ix t.2.2.1 i).1) < (0:Int)))=true then
  some (2:Int) else
  if (decide (t.1<=((ix t.2.2.1 i).1)))=true then
  some (2:Int) else
  if (decide ((((((ix t.2.2.1 i).2).2).2).1) < (0:Int)))=true then
  some (2:Int) else
  if (decide (t.2.1<=(((((ix t.2.2.1 i).2).2).2).1)))=true then
  some (2:Int) else
  if (decide ((((ix t.2.2.1 i).2).1) < (0:Int)))=true then
  some (2:Int) else
  if (decide (t.2.1<=(((ix t.2.2.1 i).2).1)))=true then
  some (2:Int) else
  if (decide (((((ix t.2.2.1 i).2).2).1) < (0:Int)))=true then
  some (2:Int) else
  if (decide (t.2.1<=((((ix t.2.2.1 i).2).2).1)))=true then
  some (2:Int) else
  G (fits (i+(1:Int))) (
  r6 (i+(1:Int)))) else
  if (decide (t.2.2.2.1 < (0:Int)))=true then
  some (2:Int) else
  if (decide (t.2.1<=t.2.2.2.1))=true then
  some (2:Int) else
  zkU t (0:Int)
def zmU (t:Tp5):(Int->Option (Int))->Int->Option (Int):=
  fun rec x=>zdu t (fun i=>rec i) x
def zl2 (t:Tp5) (i:Int):Option (Int):=LFix (zmU t ) i
def zn9 (t:Tp5):Option (Int):=
  if (decide (t.1 < (1:Int)))=true then
  some (2:Int) else
  if (decide ((4:Int) < t.1))=true then
  some (2:Int) else
  if (decide (t.2.1 < (1:Int)))=true then
  some (1:Int) else
  if (decide ((6:Int) < t.2.1))=true then
  some (1:Int) else
  if (decide ((60:Int) < (t.2.2.1.length:Int)))=true then
  some (1:Int) else
  if (decide (¬ (t.2.2.2.2.1.length:Int)=t.2.1))=true then
  some (1:Int) else
  zl2 t (0:Int)
theorem zob (r19:Nat->Int->Option (Int)) (r19':Int->Option (Int)) (h_r19:∀ a0,ChO (fun κ=>r19 κ a0) (r19' a0)) (t:Tp5) (i_2:Int):ChO (fun κ=>zc2 t (r19 κ) i_2) (zc2 t r19' i_2):=by
  unfold zc2
  repeat' with_reducible first | exact ChO.const _ | exact h_r19 _ | apply ChO.ite | apply ChO.G | apply ChO.both | (apply ChO.bind;intro _)
theorem zpJ  (t:Tp5):Cn (zl1 t):=fun g h hg x=>zob  (fun κ i_2=>g κ i_2) (fun i_2=>h i_2) (fun i_2=>hg i_2) t x
theorem zir  (t:Tp5) (i_2:Int):ziK t i_2=zc2 t (ziK t) i_2:=zaE (zpJ t) i_2
theorem zoa (r14:Nat->Int->Option (Int)) (r14':Int->Option (Int)) (h_r14:∀ a0,ChO (fun κ=>r14 κ a0) (r14' a0)) (t:Tp5) (i_1:Int):ChO (fun κ=>zc1 t (r14 κ) i_1) (zc1 t r14' i_1):=by
  unfold zc1
  repeat' with_reducible first | exact ChO.const _ | exact h_r14 _ | apply ChO.ite | apply ChO.G | apply ChO.both | (apply ChO.bind;intro _)
theorem zpI  (t:Tp5):Cn (zl0 t):=fun g h hg x=>zoa  (fun κ i_1=>g κ i_1) (fun i_1=>h i_1) (fun i_1=>hg i_1) t x
theorem ziq  (t:Tp5) (i_1:Int):zkU t i_1=zc1 t (zkU t) i_1:=zaE (zpI t) i_1
theorem zoI (r6:Nat->Int->Option (Int)) (r6':Int->Option (Int)) (h_r6:∀ a0,ChO (fun κ=>r6 κ a0) (r6' a0)) (t:Tp5) (i:Int):ChO (fun κ=>zdu t (r6 κ) i) (zdu t r6' i):=by
  unfold zdu
  repeat' with_reducible first | exact ChO.const _ | exact h_r6 _ | apply ChO.ite | apply ChO.G | apply ChO.both | (apply ChO.bind;intro _)
theorem zqV  (t:Tp5):Cn (zmU t):=fun g h hg x=>zoI  (fun κ i=>g κ i) (fun i=>h i) (fun i=>hg i) t x
theorem zje  (t:Tp5) (i:Int):zl2 t i=zdu t (zl2 t) i:=zaE (zqV t) i

def zfp (next':Tp14) (i:Int) (row:Tp16) (k:Int) (seen_1:Tp15) (row_1:Tp16) (r12:(Int->Tp15->Tp16->Option (Bool))) (t:Bool):Option (Bool):=
  if t=true then
  G (0<=ix (ix next' (ix row i)) k/\ix (ix next' (ix row i)) k < (seen_1.length:Int)) (
  G ((ix (ix next' (ix row i)) k).toNat < seen_1.length) (
  G (room row_1 ([ix (ix next' (ix row i)) k]) 8) (
  G (fits (k+(1:Int))) (
  r12 (k+(1:Int)) (seen_1.set (ix (ix next' (ix row i)) k).toNat true) (row_1++([ix (ix next' (ix row i)) k])))))) else
  G (fits (k+(1:Int))) (
  r12 (k+(1:Int)) seen_1 row_1)
def zeK (mark:Tp16) (next':Tp14) (in':Tp15) (p:Int) (i:Int) (row:Tp16) (r8:(Int->Tp15->Tp16->Option (Bool))) (r12:Tf14) (k:Int) (seen_1:Tp15) (row_1:Tp16):Option (Bool):=
  if (decide (k < ((ix next' (ix row i)).length:Int)))=true then
  G (0<=k/\k < ((ix next' (ix row i)).length:Int)) (
  if (decide ((ix (ix next' (ix row i)) k)=p))=true then
  some true else
  G (0<=ix (ix next' (ix row i)) k/\ix (ix next' (ix row i)) k < (in'.length:Int)) (
  if (ix in' (ix (ix next' (ix row i)) k))=true then
  G (0<=ix (ix next' (ix row i)) k/\ix (ix next' (ix row i)) k < (mark.length:Int)) (
  G (0<=p/\p < (mark.length:Int)) (
  if (decide ((ix mark p)<=(ix mark (ix (ix next' (ix row i)) k))))=true then
  G (0<=ix (ix next' (ix row i)) k/\ix (ix next' (ix row i)) k < (seen_1.length:Int)) (
  G ((ix (ix next' (ix row i)) k).toNat < seen_1.length) (
  zfp next' i row k seen_1 row_1 r12 (!(ix seen_1 (ix (ix next' (ix row i)) k))))) else
  zfp next' i row k seen_1 row_1 r12 false)) else
  zfp next' i row k seen_1 row_1 r12 false)) else
  G (fits (i+(1:Int))) (
  r8 (i+(1:Int)) seen_1 row_1)
def zn2 (mark:Tp16) (next':Tp14) (in':Tp15) (p:Int) (i:Int) (row:Tp16) (r8:(Int->Tp15->Tp16->Option (Bool))):(Int×Tp15×Tp16->Option (Bool))->Int×Tp15×Tp16->Option (Bool):=
  fun rec x=>zeK mark next' in' p i row r8 (fun k seen_1 row_1=>rec (k,seen_1,row_1)) x.1 x.2.1 x.2.2
def zdZ (mark:Tp16) (next':Tp14) (in':Tp15) (p:Int) (i:Int) (row:Tp16) (r8:(Int->Tp15->Tp16->Option (Bool))) (k:Int) (seen_1:Tp15) (row_1:Tp16):Option (Bool):=LFix (zn2 mark next' in' p i row r8 ) (k,seen_1,row_1)
def zfr (mark:Tp16) (next':Tp14) (in':Tp15) (p:Int) (r2:(Int->Option (Bool))) (r8:Tf14) (i:Int) (seen:Tp15) (row:Tp16):Option (Bool):=
  if (decide (i < (row.length:Int)))=true then
  G (0<=i/\i < (row.length:Int)) (
  G ((i).toNat < row.length) (
  G (0<=ix row i/\ix row i < (next'.length:Int)) (
  zdZ mark next' in' p i row r8 (0:Int) seen row))) else
  G (fits (p+(1:Int))) (
  r2 (p+(1:Int)))
def zpl (mark:Tp16) (next':Tp14) (in':Tp15) (p:Int) (r2:(Int->Option (Bool))):(Int×Tp15×Tp16->Option (Bool))->Int×Tp15×Tp16->Option (Bool):=
  fun rec x=>zfr mark next' in' p r2 (fun i seen row=>rec (i,seen,row)) x.1 x.2.1 x.2.2
def zgC (mark:Tp16) (next':Tp14) (in':Tp15) (p:Int) (r2:(Int->Option (Bool))) (i:Int) (seen:Tp15) (row:Tp16):Option (Bool):=LFix (zpl mark next' in' p r2 ) (i,seen,row)
def zfq (mark:Tp16) (next':Tp14) (in':Tp15) (player:Int) (r2:Int->Option (Bool)) (p:Int):Option (Bool):=
  if (decide (p < (mark.length:Int)))=true then
  G (0<=p/\p < (in'.length:Int)) (
  if (!(ix in' p))=true then
  G (fits (p+(1:Int))) (
  r2 (p+(1:Int))) else
  G (0<=p/\p < (mark.length:Int)) (
  G ((2:Int)≠0) (
  if (decide ((Int.tmod (ix mark p) (2:Int))=player))=true then
  G (fits (p+(1:Int))) (
  r2 (p+(1:Int))) else
  G (mkOK (mark.length:Int) (mark.length:Int) 1) (
  zgC mark next' in' p r2 (0:Int) (List.replicate ((mark.length:Int)).toNat (false:Bool)) ([p]))))) else
  some false
def zpk (mark:Tp16) (next':Tp14) (in':Tp15) (player:Int):(Int->Option (Bool))->Int->Option (Bool):=
  fun rec x=>zfq mark next' in' player (fun p=>rec p) x
def zhG (mark:Tp16) (next':Tp14) (in':Tp15) (player:Int) (p:Int):Option (Bool):=LFix (zpk mark next' in' player ) p
def zoF (mark:Tp16) (next':Tp14) (in':Tp15) (player:Int):Option (Bool):=
  zhG mark next' in' player (0:Int)
theorem zjV (r12:Nat->Tf14) (r12':Tf14) (h_r12:∀ a0 a1 a2,ChO (fun κ=>r12 κ a0 a1 a2) (r12' a0 a1 a2)) (next':Tp14) (i:Int) (row:Tp16) (k:Int) (seen_1:Tp15) (row_1:Tp16) (t:Bool):ChO (fun κ=>zfp next' i row k seen_1 row_1 (r12 κ) t) (zfp next' i row k seen_1 row_1 r12' t):=by
  unfold zfp
  repeat' with_reducible first | exact ChO.const _ | exact h_r12 _ _ _ | apply ChO.ite | apply ChO.G | apply ChO.both | (apply ChO.bind;intro _)
theorem zlg (r8:Nat->Tf14) (r8':Tf14) (h_r8:∀ a0 a1 a2,ChO (fun κ=>r8 κ a0 a1 a2) (r8' a0 a1 a2)) (r12:Nat->Tf14) (r12':Tf14) (h_r12:∀ a0 a1 a2,ChO (fun κ=>r12 κ a0 a1 a2) (r12' a0 a1 a2)) (mark:Tp16) (next':Tp14) (in':Tp15) (p:Int) (i:Int) (row:Tp16) (k:Int) (seen_1:Tp15) (row_1:Tp16):ChO (fun κ=>zeK mark next' in' p i row (r8 κ) (r12 κ) k seen_1 row_1) (zeK mark next' in' p i row r8' r12' k seen_1 row_1):=by
  unfold zeK
  repeat' with_reducible first | exact ChO.const _ | exact h_r8 _ _ _ | exact h_r12 _ _ _ | (apply zjV<;>assumption) | apply ChO.ite | apply ChO.G | apply ChO.both | (apply ChO.bind;intro _)
theorem zjW (r8:Tf14) (mark:Tp16) (next':Tp14) (in':Tp15) (p:Int) (i:Int) (row:Tp16):Cn (zn2 mark next' in' p i row r8):=fun g h hg x=>zlg (fun _=>r8) r8 (fun _ _ _=>ChO.const _) (fun κ k seen_1 row_1=>g κ (k,seen_1,row_1)) (fun k seen_1 row_1=>h (k,seen_1,row_1)) (fun k seen_1 row_1=>hg (k,seen_1,row_1)) mark next' in' p i row x.1 x.2.1 x.2.2
theorem zmQ (r8:Tf14) (mark:Tp16) (next':Tp14) (in':Tp15) (p:Int) (i:Int) (row:Tp16) (k:Int) (seen_1:Tp15) (row_1:Tp16):zdZ mark next' in' p i row r8 k seen_1 row_1=zeK mark next' in' p i row r8 (zdZ mark next' in' p i row r8) k seen_1 row_1:=zaE (zjW r8 mark next' in' p i row) (k,seen_1,row_1)
theorem zmP (r8:Nat->Tf14) (r8':Tf14) (h_r8:∀ a0 a1 a2,ChO (fun κ=>r8 κ a0 a1 a2) (r8' a0 a1 a2)) (mark:Tp16) (next':Tp14) (in':Tp15) (p:Int) (i:Int) (row:Tp16) (k:Int) (seen_1:Tp15) (row_1:Tp16):ChO (fun κ=>zdZ mark next' in' p i row (r8 κ) k seen_1 row_1) (zdZ mark next' in' p i row r8' k seen_1 row_1):=by
  unfold zdZ
  exact zdV (fun κ=>(zjW (r8 κ) mark next' in' p i row).mono) (zjW r8' mark next' in' p i row).mono (fun g h hg x=>zlg r8 r8' h_r8 (fun κ k seen_1 row_1=>g κ (k,seen_1,row_1)) (fun k seen_1 row_1=>h (k,seen_1,row_1)) (fun k seen_1 row_1=>hg (k,seen_1,row_1)) mark next' in' p i row x.1 x.2.1 x.2.2) _
theorem zlW (r2:Nat->Int->Option (Bool)) (r2':Int->Option (Bool)) (h_r2:∀ a0,ChO (fun κ=>r2 κ a0) (r2' a0)) (r8:Nat->Tf14) (r8':Tf14) (h_r8:∀ a0 a1 a2,ChO (fun κ=>r8 κ a0 a1 a2) (r8' a0 a1 a2)) (mark:Tp16) (next':Tp14) (in':Tp15) (p:Int) (i:Int) (seen:Tp15) (row:Tp16):ChO (fun κ=>zfr mark next' in' p (r2 κ) (r8 κ) i seen row) (zfr mark next' in' p r2' r8' i seen row):=by
  unfold zfr
  repeat' with_reducible first | exact ChO.const _ | exact h_r2 _ | exact h_r8 _ _ _ | (apply zjV<;>assumption) | (apply zmP<;>assumption) | apply ChO.ite | apply ChO.G | apply ChO.both | (apply ChO.bind;intro _)
theorem zkT (r2:Int->Option (Bool)) (mark:Tp16) (next':Tp14) (in':Tp15) (p:Int):Cn (zpl mark next' in' p r2):=fun g h hg x=>zlW (fun _=>r2) r2 (fun _=>ChO.const _) (fun κ i seen row=>g κ (i,seen,row)) (fun i seen row=>h (i,seen,row)) (fun i seen row=>hg (i,seen,row)) mark next' in' p x.1 x.2.1 x.2.2
theorem zn4 (r2:Int->Option (Bool)) (mark:Tp16) (next':Tp14) (in':Tp15) (p:Int) (i:Int) (seen:Tp15) (row:Tp16):zgC mark next' in' p r2 i seen row=zfr mark next' in' p r2 (zgC mark next' in' p r2) i seen row:=zaE (zkT r2 mark next' in' p) (i,seen,row)
theorem zsR (r2:Nat->Int->Option (Bool)) (r2':Int->Option (Bool)) (h_r2:∀ a0,ChO (fun κ=>r2 κ a0) (r2' a0)) (mark:Tp16) (next':Tp14) (in':Tp15) (p:Int) (i:Int) (seen:Tp15) (row:Tp16):ChO (fun κ=>zgC mark next' in' p (r2 κ) i seen row) (zgC mark next' in' p r2' i seen row):=by
  unfold zgC
  exact zdV (fun κ=>(zkT (r2 κ) mark next' in' p).mono) (zkT r2' mark next' in' p).mono (fun g h hg x=>zlW r2 r2' h_r2 (fun κ i seen row=>g κ (i,seen,row)) (fun i seen row=>h (i,seen,row)) (fun i seen row=>hg (i,seen,row)) mark next' in' p x.1 x.2.1 x.2.2) _
theorem zqQ (r2:Nat->Int->Option (Bool)) (r2':Int->Option (Bool)) (h_r2:∀ a0,ChO (fun κ=>r2 κ a0) (r2' a0)) (mark:Tp16) (next':Tp14) (in':Tp15) (player:Int) (p:Int):ChO (fun κ=>zfq mark next' in' player (r2 κ) p) (zfq mark next' in' player r2' p):=by
  unfold zfq
  repeat' with_reducible first | exact ChO.const _ | exact h_r2 _ | (apply zjV<;>assumption) | (apply zmP<;>assumption) | (apply zsR<;>assumption) | apply ChO.ite | apply ChO.G | apply ChO.both | (apply ChO.bind;intro _)
theorem zsQ  (mark:Tp16) (next':Tp14) (in':Tp15) (player:Int):Cn (zpk mark next' in' player):=fun g h hg x=>zqQ  (fun κ p=>g κ p) (fun p=>h p) (fun p=>hg p) mark next' in' player x
theorem zn3  (mark:Tp16) (next':Tp14) (in':Tp15) (player:Int) (p:Int):zhG mark next' in' player p=zfq mark next' in' player (zhG mark next' in' player) p:=zaE (zsQ mark next' in' player) p

def zdC (t:Tp5) (g':Tp7) (p_1:Int) (in':Tp15) (mark:Tp16) (next':Tp14) (r13:(Int->Tp15->Tp16->Tp14->Option (Bool))) (r17:Bool->Int->Option (Bool)) (there:Bool) (k:Int):Option (Bool):=
  if (decide (k < (t.2.2.1.length:Int)))=true then
  G (0<=k/\k < (t.2.2.1.length:Int)) (
  if there=true then
  G (fits (k+(1:Int))) (
  r17 true (k+(1:Int))) else
  G (0<=p_1/\p_1 < (g'.1.length:Int)) (
  if (decide (((ix t.2.2.1 k).1)=(ix g'.1 p_1)))=true then
  G (0<=p_1/\p_1 < (g'.2.1.length:Int)) (
  if (decide ((((((ix t.2.2.1 k).2).2).2).1)=(ix g'.2.1 p_1)))=true then
  G (0<=p_1/\p_1 < (g'.2.2.1.length:Int)) (
  G (0<=ix g'.2.2.1 p_1/\ix g'.2.2.1 p_1 < (g'.2.1.length:Int)) (
  if (decide ((((ix t.2.2.1 k).2).1)=(ix g'.2.1 (ix g'.2.2.1 p_1))))=true then
  G (0<=p_1/\p_1 < (g'.2.2.2.1.length:Int)) (
  G (0<=ix g'.2.2.2.1 p_1/\ix g'.2.2.2.1 p_1 < (g'.2.1.length:Int)) (
  G (fits (k+(1:Int))) (
  r17 (decide (((((ix t.2.2.1 k).2).2).1)=(ix g'.2.1 (ix g'.2.2.2.1 p_1)))) (k+(1:Int))))) else
  G (fits (k+(1:Int))) (
  r17 false (k+(1:Int))))) else
  G (fits (k+(1:Int))) (
  r17 false (k+(1:Int)))) else
  G (fits (k+(1:Int))) (
  r17 false (k+(1:Int))))) else
  if (!there)=true then
  some false else
  G (0<=p_1/\p_1 < (g'.2.1.length:Int)) (
  G (0<=ix g'.2.1 p_1/\ix g'.2.1 p_1 < (t.2.2.2.2.1.length:Int)) (
  G (room mark ([ix t.2.2.2.2.1 (ix g'.2.1 p_1)]) 8) (
  G (0<=p_1/\p_1 < (g'.2.2.1.length:Int)) (
  G (0<=p_1/\p_1 < (g'.2.2.2.1.length:Int)) (
  G (room next' ([[ix g'.2.2.1 p_1,ix g'.2.2.2.1 p_1]]) 24) (
  G (0<=p_1/\p_1 < (in'.length:Int)) (
  G ((p_1).toNat < in'.length) (
  G (fits (p_1+(1:Int))) (
  r13 (p_1+(1:Int)) (in'.set (p_1).toNat true) (mark++([ix t.2.2.2.2.1 (ix g'.2.1 p_1)])) (next'++([[ix g'.2.2.1 p_1,ix g'.2.2.2.1 p_1]])))))))))))
def zl4 (t:Tp5) (g':Tp7) (p_1:Int) (in':Tp15) (mark:Tp16) (next':Tp14) (r13:(Int->Tp15->Tp16->Tp14->Option (Bool))):(Bool×Int->Option (Bool))->Bool×Int->Option (Bool):=
  fun rec x=>zdC t g' p_1 in' mark next' r13 (fun there k=>rec (there,k)) x.1 x.2
def zdO (t:Tp5) (g':Tp7) (p_1:Int) (in':Tp15) (mark:Tp16) (next':Tp14) (r13:(Int->Tp15->Tp16->Tp14->Option (Bool))) (there:Bool) (k:Int):Option (Bool):=LFix (zl4 t g' p_1 in' mark next' r13 ) (there,k)
def zdB (t:Tp5) (g':Tp7) (r13:Tf10) (p_1:Int) (in':Tp15) (mark:Tp16) (next':Tp14):Option (Bool):=
  if (decide (p_1 < (g'.2.1.length:Int)))=true then
  zdO t g' p_1 in' mark next' r13 false (0:Int) else
  (zoF mark next' in' (0:Int)).bind (fun y'=>
  some (!y'))
def zl3 (t:Tp5) (g':Tp7):(Int×Tp15×Tp16×Tp14->Option (Bool))->Int×Tp15×Tp16×Tp14->Option (Bool):=
  fun rec x=>zdB t g' (fun p_1 in' mark next'=>rec (p_1,in',mark,next')) x.1 x.2.1 x.2.2.1 x.2.2.2
def zeM (t:Tp5) (g':Tp7) (p_1:Int) (in':Tp15) (mark:Tp16) (next':Tp14):Option (Bool):=LFix (zl3 t g' ) (p_1,in',mark,next')
def zd2 (t:Tp5) (g':Tp7) (r8:Int->Option (Bool)) (p:Int):Option (Bool):=
  if (decide (p < (g'.2.1.length:Int)))=true then
  G (0<=p/\p < (g'.2.2.1.length:Int)) (
  if (decide ((ix g'.2.2.1 p) < (0:Int)))=true then
  some false else
  G (0<=p/\p < (g'.2.2.1.length:Int)) (
  if (decide ((g'.2.1.length:Int)<=(ix g'.2.2.1 p)))=true then
  some false else
  G (0<=p/\p < (g'.2.2.2.1.length:Int)) (
  if (decide ((ix g'.2.2.2.1 p) < (0:Int)))=true then
  some false else
  G (0<=p/\p < (g'.2.2.2.1.length:Int)) (
  if (decide ((g'.2.1.length:Int)<=(ix g'.2.2.2.1 p)))=true then
  some false else
  G (0<=p/\p < (g'.2.1.length:Int)) (
  if (decide ((ix g'.2.1 p) < (0:Int)))=true then
  some false else
  G (0<=p/\p < (g'.2.1.length:Int)) (
  if (decide (t.2.1<=(ix g'.2.1 p)))=true then
  some false else
  G (fits (p+(1:Int))) (
  r8 (p+(1:Int))))))))) else
  zeM t g' (0:Int) (List.replicate ((g'.2.1.length:Int)).toNat (false:Bool)) ([]) ([])
def zmV (t:Tp5) (g':Tp7):(Int->Option (Bool))->Int->Option (Bool):=
  fun rec x=>zd2 t g' (fun p=>rec p) x
def zjF (t:Tp5) (g':Tp7) (p:Int):Option (Bool):=LFix (zmV t g' ) p
def zoe (t:Tp5) (g':Tp7):Option (Bool):=
  if (decide ((g'.2.1.length:Int) < (1:Int)))=true then
  some false else
  if (decide ((60:Int) < (g'.2.1.length:Int)))=true then
  some false else
  if (decide (¬ (g'.1.length:Int)=(g'.2.1.length:Int)))=true then
  some false else
  if (decide (¬ (g'.2.2.1.length:Int)=(g'.2.1.length:Int)))=true then
  some false else
  if (decide (¬ (g'.2.2.2.1.length:Int)=(g'.2.1.length:Int)))=true then
  some false else
  G (0<=(0:Int)/\(0:Int) < (g'.2.1.length:Int)) (
  if (decide (¬ (ix g'.2.1 (0:Int))=t.2.2.2.1))=true then
  some false else
  G (mkOK (g'.2.1.length:Int) (g'.2.1.length:Int) 1) (
  zjF t g' (0:Int)))
theorem zjE (r13:Nat->Tf10) (r13':Tf10) (h_r13:∀ a0 a1 a2 a3,ChO (fun κ=>r13 κ a0 a1 a2 a3) (r13' a0 a1 a2 a3)) (r17:Nat->Bool->Int->Option (Bool)) (r17':Bool->Int->Option (Bool)) (h_r17:∀ a0 a1,ChO (fun κ=>r17 κ a0 a1) (r17' a0 a1)) (t:Tp5) (g':Tp7) (p_1:Int) (in':Tp15) (mark:Tp16) (next':Tp14) (there:Bool) (k:Int):ChO (fun κ=>zdC t g' p_1 in' mark next' (r13 κ) (r17 κ) there k) (zdC t g' p_1 in' mark next' r13' r17' there k):=by
  unfold zdC
  repeat' with_reducible first | exact ChO.const _ | exact h_r13 _ _ _ _ | exact h_r17 _ _ | apply ChO.ite | apply ChO.G | apply ChO.both | (apply ChO.bind;intro _)
theorem zis (r13:Tf10) (t:Tp5) (g':Tp7) (p_1:Int) (in':Tp15) (mark:Tp16) (next':Tp14):Cn (zl4 t g' p_1 in' mark next' r13):=fun g h hg x=>zjE (fun _=>r13) r13 (fun _ _ _ _=>ChO.const _) (fun κ there k=>g κ (there,k)) (fun there k=>h (there,k)) (fun there k=>hg (there,k)) t g' p_1 in' mark next' x.1 x.2
theorem zlj (r13:Tf10) (t:Tp5) (g':Tp7) (p_1:Int) (in':Tp15) (mark:Tp16) (next':Tp14) (there:Bool) (k:Int):zdO t g' p_1 in' mark next' r13 there k=zdC t g' p_1 in' mark next' r13 (zdO t g' p_1 in' mark next' r13) there k:=zaE (zis r13 t g' p_1 in' mark next') (there,k)
theorem zli (r13:Nat->Tf10) (r13':Tf10) (h_r13:∀ a0 a1 a2 a3,ChO (fun κ=>r13 κ a0 a1 a2 a3) (r13' a0 a1 a2 a3)) (t:Tp5) (g':Tp7) (p_1:Int) (in':Tp15) (mark:Tp16) (next':Tp14) (there:Bool) (k:Int):ChO (fun κ=>zdO t g' p_1 in' mark next' (r13 κ) there k) (zdO t g' p_1 in' mark next' r13' there k):=by
  unfold zdO
  exact zdV (fun κ=>(zis (r13 κ) t g' p_1 in' mark next').mono) (zis r13' t g' p_1 in' mark next').mono (fun g h hg x=>zjE r13 r13' h_r13 (fun κ there k=>g κ (there,k)) (fun there k=>h (there,k)) (fun there k=>hg (there,k)) t g' p_1 in' mark next' x.1 x.2) _
theorem zof (r13:Nat->Tf10) (r13':Tf10) (h_r13:∀ a0 a1 a2 a3,ChO (fun κ=>r13 κ a0 a1 a2 a3) (r13' a0 a1 a2 a3)) (t:Tp5) (g':Tp7) (p_1:Int) (in':Tp15) (mark:Tp16) (next':Tp14):ChO (fun κ=>zdB t g' (r13 κ) p_1 in' mark next') (zdB t g' r13' p_1 in' mark next'):=by
  unfold zdB
  repeat' with_reducible first | exact ChO.const _ | exact h_r13 _ _ _ _ | (apply zli<;>assumption) | apply ChO.ite | apply ChO.G | apply ChO.both | (apply ChO.bind;intro _)
theorem zpK  (t:Tp5) (g':Tp7):Cn (zl3 t g'):=fun g h hg x=>zof  (fun κ p_1 in' mark next'=>g κ (p_1,in',mark,next')) (fun p_1 in' mark next'=>h (p_1,in',mark,next')) (fun p_1 in' mark next'=>hg (p_1,in',mark,next')) t g' x.1 x.2.1 x.2.2.1 x.2.2.2
theorem zlh  (t:Tp5) (g':Tp7) (p_1:Int) (in':Tp15) (mark:Tp16) (next':Tp14):zeM t g' p_1 in' mark next'=zdB t g' (zeM t g') p_1 in' mark next':=zaE (zpK t g') (p_1,in',mark,next')
theorem zoJ (r8:Nat->Int->Option (Bool)) (r8':Int->Option (Bool)) (h_r8:∀ a0,ChO (fun κ=>r8 κ a0) (r8' a0)) (t:Tp5) (g':Tp7) (p:Int):ChO (fun κ=>zd2 t g' (r8 κ) p) (zd2 t g' r8' p):=by
  unfold zd2
  repeat' with_reducible first | exact ChO.const _ | exact h_r8 _ | (apply zli<;>assumption) | apply ChO.ite | apply ChO.G | apply ChO.both | (apply ChO.bind;intro _)
theorem zqW  (t:Tp5) (g':Tp7):Cn (zmV t g'):=fun g h hg x=>zoJ  (fun κ p=>g κ p) (fun p=>h p) (fun p=>hg p) t g' x
theorem zl5  (t:Tp5) (g':Tp7) (p:Int):zjF t g' p=zd2 t g' (zjF t g') p:=zaE (zqW t g') p

def zft (k:Int) (r5:(Int->Tp14->Option (Bool))) (next'_1:Tp14):Option (Bool):=
  G (fits (k+(1:Int))) (
  r5 (k+(1:Int)) next'_1)
def zfs (t:Tp5) (k:Int) (next':Tp14) (r5:(Int->Tp14->Option (Bool))) (to:Int):Option (Bool):=
  G (0<=((((ix t.2.2.1 k).2).2).2).1/\((((ix t.2.2.1 k).2).2).2).1 < (next'.length:Int)) (
  G ((((((ix t.2.2.1 k).2).2).2).1).toNat < next'.length) (
  both [.bool] (
  G ((((((ix t.2.2.1 k).2).2).2).1).toNat < next'.length) (
  G (room (ix next' (((((ix t.2.2.1 k).2).2).2).1)) ([to]) 8) (
  G (0<=((((ix t.2.2.1 k).2).2).2).1/\((((ix t.2.2.1 k).2).2).2).1 < (next'.length:Int)) (
  G ((((((ix t.2.2.1 k).2).2).2).1).toNat=(((((ix t.2.2.1 k).2).2).2).1).toNat) (
  zft k r5 (next'.set (((((ix t.2.2.1 k).2).2).2).1).toNat ((ix next' (((((ix t.2.2.1 k).2).2).2).1))++([to])))))))) (
  G ((((((ix t.2.2.1 k).2).2).2).1).toNat < next'.length) (
  G (room (ix next' (((((ix t.2.2.1 k).2).2).2).1)) ([to]) 8) (
  G (0<=((((ix t.2.2.1 k).2).2).2).1/\((((ix t.2.2.1 k).2).2).2).1 < (next'.length:Int)) (
  G ((((((ix t.2.2.1 k).2).2).2).1).toNat=(((((ix t.2.2.1 k).2).2).2).1).toNat) (
  zft k r5 (next'.set (((((ix t.2.2.1 k).2).2).2).1).toNat ((ix next' (((((ix t.2.2.1 k).2).2).2).1))++([to]))))))))))
def zgo (t:Tp5) (ways:Tp16) (k:Int) (next':Tp14) (r5:(Int->Tp14->Option (Bool))) (t_1:Bool):Option (Bool):=
  if t_1=true then
  some false else
  G (0<=k/\k < (ways.length:Int)) (
  if (decide ((ix ways k)=(1:Int)))=true then
  zfs t k next' r5 ((((ix t.2.2.1 k).2).2).1) else
  zfs t k next' r5 (((ix t.2.2.1 k).2).1))
def zd1 (next'_2:Tp14) (i:Int) (row:Tp16) (r18:(Tp14->Int->Tp15->Tp16->Option (Bool))) (r22:Tf14) (k_1:Int) (in'_1:Tp15) (row_1:Tp16):Option (Bool):=
  if (decide (k_1 < ((ix next'_2 (ix row i)).length:Int)))=true then
  G (0<=k_1/\k_1 < ((ix next'_2 (ix row i)).length:Int)) (
  G (0<=ix (ix next'_2 (ix row i)) k_1/\ix (ix next'_2 (ix row i)) k_1 < (in'_1.length:Int)) (
  G ((ix (ix next'_2 (ix row i)) k_1).toNat < in'_1.length) (
  if (!(ix in'_1 (ix (ix next'_2 (ix row i)) k_1)))=true then
  G (0<=k_1/\k_1 < ((ix next'_2 (ix row i)).length:Int)) (
  G (0<=ix (ix next'_2 (ix row i)) k_1/\ix (ix next'_2 (ix row i)) k_1 < (in'_1.length:Int)) (
  G ((ix (ix next'_2 (ix row i)) k_1).toNat < in'_1.length) (
  G (0<=k_1/\k_1 < ((ix next'_2 (ix row i)).length:Int)) (
  G (room row_1 ([ix (ix next'_2 (ix row i)) k_1]) 8) (
  G (fits (k_1+(1:Int))) (
  r22 (k_1+(1:Int)) (in'_1.set (ix (ix next'_2 (ix row i)) k_1).toNat true) (row_1++([ix (ix next'_2 (ix row i)) k_1])))))))) else
  G (fits (k_1+(1:Int))) (
  r22 (k_1+(1:Int)) in'_1 row_1)))) else
  G (fits (i+(1:Int))) (
  r18 next'_2 (i+(1:Int)) in'_1 row_1)
def zmS (next'_2:Tp14) (i:Int) (row:Tp16) (r18:(Tp14->Int->Tp15->Tp16->Option (Bool))):(Int×Tp15×Tp16->Option (Bool))->Int×Tp15×Tp16->Option (Bool):=
  fun rec x=>zd1 next'_2 i row r18 (fun k_1 in'_1 row_1=>rec (k_1,in'_1,row_1)) x.1 x.2.1 x.2.2
def zfv (next'_2:Tp14) (i:Int) (row:Tp16) (r18:(Tp14->Int->Tp15->Tp16->Option (Bool))) (k_1:Int) (in'_1:Tp15) (row_1:Tp16):Option (Bool):=LFix (zmS next'_2 i row r18 ) (k_1,in'_1,row_1)
def zd0 (t:Tp5) (r18:Tf11) (next'_2:Tp14) (i:Int) (in':Tp15) (row:Tp16):Option (Bool):=
  if (decide (i < (row.length:Int)))=true then
  G (0<=i/\i < (row.length:Int)) (
  G ((i).toNat < row.length) (
  G (0<=ix row i/\ix row i < (next'_2.length:Int)) (
  zfv next'_2 i row r18 (0:Int) in' row))) else
  (zoF t.2.2.2.2.1 next'_2 in' (1:Int)).bind (fun y'=>
  some (!y'))
def zmR (t:Tp5):(Tp14×Int×Tp15×Tp16->Option (Bool))->Tp14×Int×Tp15×Tp16->Option (Bool):=
  fun rec x=>zd0 t (fun next'_2 i in' row=>rec (next'_2,i,in',row)) x.1 x.2.1 x.2.2.1 x.2.2.2
def zh4 (t:Tp5) (next'_2:Tp14) (i:Int) (in':Tp15) (row:Tp16):Option (Bool):=LFix (zmR t ) (next'_2,i,in',row)
def zeL (t:Tp5) (ways:Tp16) (r5:Int->Tp14->Option (Bool)) (k:Int) (next':Tp14):Option (Bool):=
  if (decide (k < (t.2.2.1.length:Int)))=true then
  G (0<=k/\k < (t.2.2.1.length:Int)) (
  G (0<=k/\k < (ways.length:Int)) (
  if (decide (¬ (ix ways k)=(0:Int)))=true then
  G (0<=k/\k < (ways.length:Int)) (
  zgo t ways k next' r5 (decide (¬ (ix ways k)=(1:Int)))) else
  zgo t ways k next' r5 false)) else
  G (mkOK t.2.1 t.2.1 1) (
  G (0<=t.2.2.2.1/\t.2.2.2.1 < ((List.replicate (t.2.1).toNat (false:Bool)).length:Int)) (
  G ((t.2.2.2.1).toNat < (List.replicate (t.2.1).toNat (false:Bool)).length) (
  zh4 t next' (0:Int) ((List.replicate (t.2.1).toNat (false:Bool)).set (t.2.2.2.1).toNat true) ([t.2.2.2.1]))))
def zn8 (t:Tp5) (ways:Tp16):(Int×Tp14->Option (Bool))->Int×Tp14->Option (Bool):=
  fun rec x=>zeL t ways (fun k next'=>rec (k,next')) x.1 x.2
def zfw (t:Tp5) (ways:Tp16) (k:Int) (next':Tp14):Option (Bool):=LFix (zn8 t ways ) (k,next')
def zpX (t:Tp5) (ways:Tp16):Option (Bool):=
  if (decide (¬ (ways.length:Int)=(t.2.2.1.length:Int)))=true then
  some false else
  G (mkOK t.2.1 t.2.1 24) (
  zfw t ways (0:Int) (List.replicate (t.2.1).toNat ([]:List Int)))
theorem zfu (r5:Nat->Int->Tp14->Option (Bool)) (r5':Int->Tp14->Option (Bool)) (h_r5:∀ a0 a1,ChO (fun κ=>r5 κ a0 a1) (r5' a0 a1)) (k:Int) (next'_1:Tp14):ChO (fun κ=>zft k (r5 κ) next'_1) (zft k r5' next'_1):=by
  unfold zft
  repeat' with_reducible first | exact ChO.const _ | exact h_r5 _ _ | apply ChO.ite | apply ChO.G | apply ChO.both | (apply ChO.bind;intro _)
theorem zg8 (r5:Nat->Int->Tp14->Option (Bool)) (r5':Int->Tp14->Option (Bool)) (h_r5:∀ a0 a1,ChO (fun κ=>r5 κ a0 a1) (r5' a0 a1)) (t:Tp5) (k:Int) (next':Tp14) (to:Int):ChO (fun κ=>zfs t k next' (r5 κ) to) (zfs t k next' r5' to):=by
  unfold zfs
  repeat' with_reducible first | exact ChO.const _ | exact h_r5 _ _ | (apply zfu<;>assumption) | apply ChO.ite | apply ChO.G | apply ChO.both | (apply ChO.bind;intro _)
theorem zjX (r5:Nat->Int->Tp14->Option (Bool)) (r5':Int->Tp14->Option (Bool)) (h_r5:∀ a0 a1,ChO (fun κ=>r5 κ a0 a1) (r5' a0 a1)) (t:Tp5) (ways:Tp16) (k:Int) (next':Tp14) (t_1:Bool):ChO (fun κ=>zgo t ways k next' (r5 κ) t_1) (zgo t ways k next' r5' t_1):=by
  unfold zgo
  repeat' with_reducible first | exact ChO.const _ | exact h_r5 _ _ | (apply zfu<;>assumption) | (apply zg8<;>assumption) | apply ChO.ite | apply ChO.G | apply ChO.both | (apply ChO.bind;intro _)
theorem zkn (r18:Nat->Tf11) (r18':Tf11) (h_r18:∀ a0 a1 a2 a3,ChO (fun κ=>r18 κ a0 a1 a2 a3) (r18' a0 a1 a2 a3)) (r22:Nat->Tf14) (r22':Tf14) (h_r22:∀ a0 a1 a2,ChO (fun κ=>r22 κ a0 a1 a2) (r22' a0 a1 a2)) (next'_2:Tp14) (i:Int) (row:Tp16) (k_1:Int) (in'_1:Tp15) (row_1:Tp16):ChO (fun κ=>zd1 next'_2 i row (r18 κ) (r22 κ) k_1 in'_1 row_1) (zd1 next'_2 i row r18' r22' k_1 in'_1 row_1):=by
  unfold zd1
  repeat' with_reducible first | exact ChO.const _ | exact h_r18 _ _ _ _ | exact h_r22 _ _ _ | (apply zfu<;>assumption) | (apply zg8<;>assumption) | (apply zjX<;>assumption) | apply ChO.ite | apply ChO.G | apply ChO.both | (apply ChO.bind;intro _)
theorem zjd (r18:Tf11) (next'_2:Tp14) (i:Int) (row:Tp16):Cn (zmS next'_2 i row r18):=fun g h hg x=>zkn (fun _=>r18) r18 (fun _ _ _ _=>ChO.const _) (fun κ k_1 in'_1 row_1=>g κ (k_1,in'_1,row_1)) (fun k_1 in'_1 row_1=>h (k_1,in'_1,row_1)) (fun k_1 in'_1 row_1=>hg (k_1,in'_1,row_1)) next'_2 i row x.1 x.2.1 x.2.2
theorem zlZ (r18:Tf11) (next'_2:Tp14) (i:Int) (row:Tp16) (k_1:Int) (in'_1:Tp15) (row_1:Tp16):zfv next'_2 i row r18 k_1 in'_1 row_1=zd1 next'_2 i row r18 (zfv next'_2 i row r18) k_1 in'_1 row_1:=zaE (zjd r18 next'_2 i row) (k_1,in'_1,row_1)
theorem zlY (r18:Nat->Tf11) (r18':Tf11) (h_r18:∀ a0 a1 a2 a3,ChO (fun κ=>r18 κ a0 a1 a2 a3) (r18' a0 a1 a2 a3)) (next'_2:Tp14) (i:Int) (row:Tp16) (k_1:Int) (in'_1:Tp15) (row_1:Tp16):ChO (fun κ=>zfv next'_2 i row (r18 κ) k_1 in'_1 row_1) (zfv next'_2 i row r18' k_1 in'_1 row_1):=by
  unfold zfv
  exact zdV (fun κ=>(zjd (r18 κ) next'_2 i row).mono) (zjd r18' next'_2 i row).mono (fun g h hg x=>zkn r18 r18' h_r18 (fun κ k_1 in'_1 row_1=>g κ (k_1,in'_1,row_1)) (fun k_1 in'_1 row_1=>h (k_1,in'_1,row_1)) (fun k_1 in'_1 row_1=>hg (k_1,in'_1,row_1)) next'_2 i row x.1 x.2.1 x.2.2) _
theorem zoH (r18:Nat->Tf11) (r18':Tf11) (h_r18:∀ a0 a1 a2 a3,ChO (fun κ=>r18 κ a0 a1 a2 a3) (r18' a0 a1 a2 a3)) (t:Tp5) (next'_2:Tp14) (i:Int) (in':Tp15) (row:Tp16):ChO (fun κ=>zd0 t (r18 κ) next'_2 i in' row) (zd0 t r18' next'_2 i in' row):=by
  unfold zd0
  repeat' with_reducible first | exact ChO.const _ | exact h_r18 _ _ _ _ | (apply zfu<;>assumption) | (apply zg8<;>assumption) | (apply zjX<;>assumption) | (apply zlY<;>assumption) | apply ChO.ite | apply ChO.G | apply ChO.both | (apply ChO.bind;intro _)
theorem zqT  (t:Tp5):Cn (zmR t):=fun g h hg x=>zoH  (fun κ next'_2 i in' row=>g κ (next'_2,i,in',row)) (fun next'_2 i in' row=>h (next'_2,i,in',row)) (fun next'_2 i in' row=>hg (next'_2,i,in',row)) t x.1 x.2.1 x.2.2.1 x.2.2.2
theorem zlX  (t:Tp5) (next'_2:Tp14) (i:Int) (in':Tp15) (row:Tp16):zh4 t next'_2 i in' row=zd0 t (zh4 t) next'_2 i in' row:=zaE (zqT t) (next'_2,i,in',row)
theorem zpH (r5:Nat->Int->Tp14->Option (Bool)) (r5':Int->Tp14->Option (Bool)) (h_r5:∀ a0 a1,ChO (fun κ=>r5 κ a0 a1) (r5' a0 a1)) (t:Tp5) (ways:Tp16) (k:Int) (next':Tp14):ChO (fun κ=>zeL t ways (r5 κ) k next') (zeL t ways r5' k next'):=by
  unfold zeL
  repeat' with_reducible first | exact ChO.const _ | exact h_r5 _ _ | (apply zfu<;>assumption) | (apply zg8<;>assumption) | (apply zjX<;>assumption) | (apply zlY<;>assumption) | apply ChO.ite | apply ChO.G | apply ChO.both | (apply ChO.bind;intro _)
theorem zro  (t:Tp5) (ways:Tp16):Cn (zn8 t ways):=fun g h hg x=>zpH  (fun κ k next'=>g κ (k,next')) (fun k next'=>h (k,next')) (fun k next'=>hg (k,next')) t ways x.1 x.2
theorem zmT  (t:Tp5) (ways:Tp16) (k:Int) (next':Tp14):zfw t ways k next'=zeL t ways (zfw t ways) k next':=zaE (zro t ways) (k,next')

def zlR (a:Tp5):Option (Bool):=
  (zqF (a.1,(a.2.1,(a.2.2.1,(a.2.2.2.1,(a.2.2.2.2.1,())))))).bind (fun y'=>
  (zlJ (y'.1,(y'.2.1,(y'.2.2.1,(y'.2.2.2.1,(y'.2.2.2.2.1,())))))).bind (fun y'_14=>
  (znC (y'.1,(y'.2.1,(y'.2.2.1,(y'.2.2.2.1,(y'.2.2.2.2.1,())))))).bind (fun y'_13=>
  (ziU (y'.1,(y'.2.1,(y'.2.2.1,(y'.2.2.2.1,(y'.2.2.2.2.1,())))))).bind (fun y'_9=>
  (zn9 (a.1,(a.2.1,(a.2.2.1,(a.2.2.2.1,(a.2.2.2.2.1,())))))).bind (fun y'_10=>
  G (fits ((y'_14.1.1.length:Int)+(y'_14.1.2.1.length:Int))) (
  G (fits (((y'_14.1.1.length:Int)+(y'_14.1.2.1.length:Int))+(y'_14.1.2.2.1.length:Int))) (
  G (fits ((((y'_14.1.1.length:Int)+(y'_14.1.2.1.length:Int))+(y'_14.1.2.2.1.length:Int))+(y'_14.1.2.2.2.1.length:Int))) (
  if (decide (¬ y'_9=y'_10))=true then
  some false else
  if (decide (¬ y'_14.2.2=y'_10))=true then
  some false else
  if (decide (¬ y'_13.2.1=y'_10))=true then
  some false else
  if (decide (¬ y'_10=(0:Int)))=true then
  if (!y'_14.2.1)=true then
  if (!y'_13.1)=true then
  if (decide (((((y'_14.1.1.length:Int)+(y'_14.1.2.1.length:Int))+(y'_14.1.2.2.1.length:Int))+(y'_14.1.2.2.2.1.length:Int))=(0:Int)))=true then
  some (decide ((y'_13.2.2.length:Int)=(0:Int))) else
  some false else
  some false else
  some false else
  if (decide (y'_14.2.1=y'_13.1))=true then
  some false else
  if y'_14.2.1=true then
  (zoe (a.1,(a.2.1,(a.2.2.1,(a.2.2.2.1,(a.2.2.2.2.1,()))))) (y'_14.1.1,(y'_14.1.2.1,(y'_14.1.2.2.1,(y'_14.1.2.2.2.1,()))))).bind (fun y'_11=>
  if y'_11=true then
  some (decide ((y'_13.2.2.length:Int)=(0:Int))) else
  some false) else
  (zpX (a.1,(a.2.1,(a.2.2.1,(a.2.2.2.1,(a.2.2.2.2.1,()))))) y'_13.2.2).bind (fun y'_12=>
  if y'_12=true then
  some (decide (((((y'_14.1.1.length:Int)+(y'_14.1.2.1.length:Int))+(y'_14.1.2.2.1.length:Int))+(y'_14.1.2.2.2.1.length:Int))=(0:Int))) else
  some false)))))))))

end
end Go.Proofs.Ytebeobobeinlnaa.growBothW
