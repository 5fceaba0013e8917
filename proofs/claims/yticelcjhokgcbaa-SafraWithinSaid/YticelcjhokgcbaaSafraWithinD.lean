import Derived.Test.YticelcjhokgcbaaEv40n21
set_option maxHeartbeats 1000000
set_option maxRecDepth 20000
set_option linter.unusedVariables false
namespace Go.Proofs.Yticelcjhokgcbaa.safraWithinW
open Go Go.Ab
noncomputable section
abbrev Tp27:=(List Int)
abbrev Tp26:=(List Bool)
abbrev Tp25:=(List Tp27)
abbrev Tp24:=(Int×Int×Int×Unit)
abbrev Tp23:=(Int×Bool×Tp27)
abbrev Tp22:=(List (Int×Int×Unit))
abbrev Tp21:=(Int×Int×Int×Int×Unit)
abbrev Tp20:=(List Tp24)
abbrev Tp19:=(Tp27×Tp27×Unit)
abbrev Tp18:=(List Tp22)
abbrev Tc16:Ty:=(.pair (.list (.int .i64)) .unit)
abbrev Tp17:=(Int×Int×Bool×Bool×Bool×Unit)
abbrev Tp16:=(Tp19×Bool)
abbrev Tc15:Ty:=(.pair (.int .i64) (.pair (.int .i64) .unit))
abbrev Tp15:=(List Tp17)
abbrev Tp14:=(Tp19×Bool×Int)
abbrev Tp13:=(Int×Int×Tp25×Tp27×Unit)
abbrev Tc14:Ty:=(.list Tc15)
abbrev Tp12:=(Tp13×Bool)
abbrev Tc13:Ty:=(.list Tc14)
abbrev Tc12:Ty:=(.pair (.int .i64) Tc15)
abbrev Tc11:Ty:=(.pair (.list (.list (.int .i64))) Tc16)
abbrev Tc10:Ty:=(.list Tc12)
abbrev Tc9:Ty:=(.pair Tc13 .unit)
abbrev Tp11:=(Int×Tp21×Tp21×Unit)
abbrev Tp10:=(Int×Int×Tp27×Tp20×Tp27×Unit)
abbrev Tp9:=(Int×Int×Int×Tp27×Tp20×Tp27×Unit)
abbrev Tc8:Ty:=(.pair (.int .i64) Tc11)
abbrev Tp8:=(Tp11×Int×Unit)
abbrev Tp7:=(List Tp8)
abbrev Tc7:Ty:=(.pair (.int .i64) Tc8)
abbrev Tc6:Ty:=(.pair Tc10 Tc16)
abbrev Tp6:=(Tp21×Tp21×Tp21×Tp21×Unit)
abbrev Tc5:Ty:=(.pair (.list (.int .i64)) Tc6)
abbrev Tp5:=(Tp6×Int×Unit)
abbrev Tc4:Ty:=(.pair (.int .i64) Tc5)
abbrev Tp4:=(Tp10×Tp13×Tp18×Unit)
abbrev Tc3:Ty:=(.pair (.int .i64) Tc4)
abbrev Tc2:Ty:=(.pair Tc7 Tc9)
abbrev Tp3:=(Int×Bool×Tp27×Tp10×Tp13×Tp18×Unit)
abbrev Tp2:=(Tp13×Bool×Tp6×Int×Unit)
abbrev Tp1:=(Int×Bool×Tp27×Int×Tp4×Int)
abbrev Tc1:Ty:=(.pair Tc3 Tc2)
abbrev Tf1:=Int->Int->Int->Int->Int->Int->Int->Int->Int->Int->Int->Int->Int->Int->Int->Int->Int->Int->Int->Int->Int->Int->Int->Option Tp8
abbrev Tf2:=Int->Int->Int->Int->Int->Int->Int->Int->Int->Int->Int->Int->Int->Int->Int->Int->Int->Int->Option Tp13
abbrev Tf3:=Int->Int->Int->Tp27->Tp20->Tp27->Int->Int->Tp25->Tp27->Tp18->Option Tp4
abbrev Tf4:=Tp5->Int->Int->Tp7->Tp27->Tp7->Tp25->Tp27->Option Tp2
abbrev Tf5:=Int->Int->Int->Int->Tp4->Int->Tp20->Tp26->Option Tp1
abbrev Tf6:=Int->Int->Tp27->Tp27->Tp27->Tp25->Tp27->Option Tp12
abbrev Tf7:=Int->Int->Int->Bool->Bool->Bool->Option Tp8
abbrev Tf8:=Int->Tp5->Tp7->Tp27->Tp7->Tp27->Option Tp2
abbrev Tf9:=Int->Tp27->Tp27->Tp27->Tp27->Option Tp12
abbrev Tf10:=Int->Int->Tp20->Tp26->Tp4->Option Tp3
abbrev Tf11:=Bool->Int->Tp26->Tp26->Option (Bool)
abbrev Tf12:=Int->Int->Tp4->Int->Option Tp16
abbrev Tf13:=Bool->Tp26->Tp26->Option (Bool)
abbrev Tf14:=Int->Tp26->Tp26->Option (Bool)
abbrev Tf15:=Bool->Int->Tp26->Option (Bool)
abbrev Tf16:=Int->Tp20->Tp26->Option Tp23
abbrev Tf17:=Tp10->Int->Tp10->Option Tp9
abbrev Tf18:=Int->Int->Tp27->Option Tp27
def zc5 (q:Int) (t:Tp10):Option (Bool):=
  if (decide (q < (0:Int)))=true then
  some true else
  some (decide (t.2.1<=q))

def zbV (s:Tp27) (c:Tp10) (r2:Int->Option (Int)) (t:Int):Option (Int):=
  if (decide (t < (s.length:Int)))=true then
  G (0<=t/\t < (s.length:Int)) (
  (zc5 (ix s t) c).bind (fun y'=>
  if y'=true then
  some t else
  G (fits (t+(1:Int))) (
  r2 (t+(1:Int))))) else
  some (-1:Int)
def zgH (s:Tp27) (c:Tp10):(Int->Option (Int))->Int->Option (Int):=
  fun rec x=>zbV s c (fun t=>rec t) x
def zep (s:Tp27) (c:Tp10) (t:Int):Option (Int):=LFix (zgH s c ) t
def zkS (s:Tp27) (c:Tp10):Option (Int):=
  zep s c (0:Int)
theorem zjS (r2:Nat->Int->Option (Int)) (r2':Int->Option (Int)) (h_r2:∀ a0,ChO (fun κ=>r2 κ a0) (r2' a0)) (s c t):ChO (fun κ=>zbV s c (r2 κ) t) (zbV s c r2' t):=by
  unfold zbV
  repeat' with_reducible first | exact ChO.const _ | exact h_r2 _ | apply ChO.ite | apply ChO.G | (apply ChO.bind;intro _)
theorem zk3 (s c):Cn (zgH s c):=fun g h hg x=>zjS  _ _ (fun a=>hg a) s c x
theorem zk4 (s c t):zep s c t=zbV s c (zep s c) t:=zaj (zk3 s c) t

def zdh (s:Tp27) (c:Tp10):Option (Bool):=
  (zkS s c).bind (fun y'=>
  some (decide ((0:Int)<=y')))

def zeH (x':Tp24) (t c:Tp10):Option (Bool×Int×Int×Tp27×Tp20×Tp27×Unit):=
  (zc5 x'.1 c).bind (fun y'=>
  if y'=true then
  some (true,c) else
  (zc5 x'.2.2.1 c).bind (fun y'_1=>
  if y'_1=true then
  some (true,c) else
  if (decide (x'.2.1 < (0:Int)))=true then
  some (true,c) else
  some (decide (t.1<=x'.2.1),c)))

def zbE (s:Tp20) (r2:Tf17) (f:Tp10) (t:Int) (l:Tp10):Option Tp9:=
  if (decide (t < (s.length:Int)))=true then
  G (0<=t/\t < (s.length:Int)) (
  (zeH (ix s t) f l).bind (fun y'_3=>
  if y'_3.1=true then
  some (t,y'_3.2) else
  G (fits (t+(1:Int))) (
  r2 f (t+(1:Int)) y'_3.2))) else
  some ((-1:Int),l)
def zfc (s:Tp20):(Tp10×Int×Int×Int×Tp27×Tp20×Tp27×Unit->Option Tp9)->Tp10×Int×Int×Int×Tp27×Tp20×Tp27×Unit->Option Tp9:=
  fun rec x=>zbE s (fun f t l=>rec (f,t,l)) x.1 x.2.1 x.2.2
def zcI (s:Tp20) (f:Tp10) (t:Int) (l:Tp10):Option Tp9:=LFix (zfc s ) (f,t,l)
def ziu (s:Tp20) (c c_1:Tp10):Option Tp9:=
  zcI s c (0:Int) c_1
theorem zh5 (r2:Nat->Tf17) (r2':Tf17) (h_r2:∀ a0 a1 a2,ChO (fun κ=>r2 κ a0 a1 a2) (r2' a0 a1 a2)) (s f t l):ChO (fun κ=>zbE s (r2 κ) f t l) (zbE s r2' f t l):=by
  unfold zbE
  repeat' with_reducible first | exact ChO.const _ | exact h_r2 _ _ _ | apply ChO.ite | apply ChO.G | (apply ChO.bind;intro _)
theorem zjQ (s):Cn (zfc s):=fun g h hg x=>zh5  _ _ (fun a0 a1 a2=>hg (a0,a1,a2)) s x.1 x.2.1 x.2.2
theorem zjR (s f t l):zcI s f t l=zbE s (zcI s) f t l:=zaj (zjQ s) (f,t,l)

def zdM (s:Tp20) (c c_1:Tp10):Option (Bool×Int×Int×Tp27×Tp20×Tp27×Unit):=
  (ziu s c c_1).bind (fun y'_3=>
  some (decide ((0:Int)<=y'_3.1),y'_3.2))

def zbO (l:Tp27) (r2:Int->Option (Bool)) (t:Int):Option (Bool):=
  if (decide (t < (l.length:Int)))=true then
  if (decide ((0:Int) < t))=true then
  G (fits (t - (1:Int))) (
  G (0<=t - (1:Int)/\t - (1:Int) < (l.length:Int)) (
  G (0<=t/\t < (l.length:Int)) (
  if (decide ((ix l t)<=(ix l (t - (1:Int)))))=true then
  some false else
  G (fits (t+(1:Int))) (
  r2 (t+(1:Int)))))) else
  G (fits (t+(1:Int))) (
  r2 (t+(1:Int))) else
  some true
def zi2 (l:Tp27):(Int->Option (Bool))->Int->Option (Bool):=
  fun rec x=>zbO l (fun t=>rec t) x
def zeJ (l:Tp27) (t:Int):Option (Bool):=LFix (zi2 l ) t
def zgb (l:Tp27):Option (Bool):=
  zeJ l (0:Int)
theorem zms (r2:Nat->Int->Option (Bool)) (r2':Int->Option (Bool)) (h_r2:∀ a0,ChO (fun κ=>r2 κ a0) (r2' a0)) (l t):ChO (fun κ=>zbO l (r2 κ) t) (zbO l r2' t):=by
  unfold zbO
  repeat' with_reducible first | exact ChO.const _ | exact h_r2 _ | apply ChO.ite | apply ChO.G
theorem znE (l):Cn (zi2 l):=fun g h hg x=>zms  _ _ (fun a=>hg a) l x
theorem zh6 (l t):zeJ l t=zbO l (zeJ l) t:=zaj (znE l) t

def znG (x':Int):Option (Bool):=
  some (decide (¬ x'=x'))

def zfR (x' y':Int):Option (Int):=
  (znG x').bind (fun y'_1=>
  (znG y').bind (fun y'_2=>
  if y'_1=true then
  if y'_2=true then
  some (0:Int) else
  some (-1:Int) else
  if y'_2=true then
  some (1:Int) else
  if (decide (x' < y'))=true then
  some (-1:Int) else
  if (decide (y' < x'))=true then
  some (1:Int) else
  some (0:Int)))

def zc6 (vals:Tp27) (r3:Int->Option (Int)) (t:Int):Option (Int):=
  if (decide (t < (vals.length:Int)))=true then
  G (0<=t/\t < (vals.length:Int)) (
  if (decide (¬ (ix vals t)=(0:Int)))=true then
  some (ix vals t) else
  G (fits (t+(1:Int))) (
  r3 (t+(1:Int)))) else
  some (0:Int)
def zqT (vals:Tp27):(Int->Option (Int))->Int->Option (Int):=
  fun rec x=>zc6 vals (fun t=>rec t) x
def zqS (vals:Tp27) (t:Int):Option (Int):=LFix (zqT vals ) t
def zwu (vals:Tp27):Option (Int):=
  zqS vals (0:Int)
theorem zse (r3:Nat->Int->Option (Int)) (r3':Int->Option (Int)) (h_r3:∀ a0,ChO (fun κ=>r3 κ a0) (r3' a0)) (vals t):ChO (fun κ=>zc6 vals (r3 κ) t) (zc6 vals r3' t):=by
  unfold zc6
  repeat' with_reducible first | exact ChO.const _ | exact h_r3 _ | apply ChO.ite | apply ChO.G
theorem zuh (vals):Cn (zqT vals):=fun g h hg x=>zse  _ _ (fun a=>hg a) vals x
theorem zh9 (vals t):zqS vals t=zc6 vals (zqS vals) t:=zaj (zuh vals) t

def zjV (x' y':Tp24):Option (Int):=
  (zfR x'.1 y'.1).bind (fun y'_1=>
  (zfR x'.2.1 y'.2.1).bind (fun y'_2=>
  (zfR x'.2.2.1 y'.2.2.1).bind (fun y'_3=>
  (zwu ([y'_1,y'_2,y'_3])).bind (fun y'_4=>
  some y'_4))))

def zbs (a:Tp10) (r11:Int->Option (Int)) (t:Int):Option (Int):=
  if (decide (t < (a.2.2.2.1.length:Int)))=true then
  if (decide ((0:Int) < t))=true then
  G (fits (t - (1:Int))) (
  G (0<=t - (1:Int)/\t - (1:Int) < (a.2.2.2.1.length:Int)) (
  G (0<=t/\t < (a.2.2.2.1.length:Int)) (
  (zjV (ix a.2.2.2.1 (t - (1:Int))) (ix a.2.2.2.1 t)).bind (fun y'_7=>
  if (decide ((0:Int)<=y'_7))=true then
  some (3:Int) else
  G (fits (t+(1:Int))) (
  r11 (t+(1:Int))))))) else
  G (fits (t+(1:Int))) (
  r11 (t+(1:Int))) else
  some (0:Int)
def zi1 (a:Tp10):(Int->Option (Int))->Int->Option (Int):=
  fun rec x=>zbs a (fun t=>rec t) x
def zhg (a:Tp10) (t:Int):Option (Int):=LFix (zi1 a ) t
def zdB (a:Tp10):Option (Int):=
  if (decide (a.1 < (1:Int)))=true then
  some (2:Int) else
  if (decide ((4:Int) < a.1))=true then
  some (2:Int) else
  if (decide (a.2.1 < (1:Int)))=true then
  some (1:Int) else
  if (decide ((300:Int) < a.2.1))=true then
  some (1:Int) else
  if (decide ((40000:Int) < (a.2.2.2.1.length:Int)))=true then
  some (1:Int) else
  (zdh a.2.2.1 (a.1,(a.2.1,(a.2.2.1,(a.2.2.2.1,(a.2.2.2.2.1,())))))).bind (fun y'=>
  if y'=true then
  some (2:Int) else
  (zdh a.2.2.2.2.1 (a.1,(a.2.1,(a.2.2.1,(a.2.2.2.1,(a.2.2.2.2.1,())))))).bind (fun y'_1=>
  if y'_1=true then
  some (2:Int) else
  (zdM a.2.2.2.1 (a.1,(a.2.1,(a.2.2.1,(a.2.2.2.1,(a.2.2.2.2.1,()))))) (a.1,(a.2.1,(a.2.2.1,(a.2.2.2.1,(a.2.2.2.2.1,())))))).bind (fun y'_8=>
  if y'_8.1=true then
  some (2:Int) else
  (zgb a.2.2.1).bind (fun y'_5=>
  if (!y'_5)=true then
  some (3:Int) else
  (zgb a.2.2.2.2.1).bind (fun y'_6=>
  if (!y'_6)=true then
  some (3:Int) else
  zhg a (0:Int))))))
theorem zmr (r11:Nat->Int->Option (Int)) (r11':Int->Option (Int)) (h_r11:∀ a0,ChO (fun κ=>r11 κ a0) (r11' a0)) (a t):ChO (fun κ=>zbs a (r11 κ) t) (zbs a r11' t):=by
  unfold zbs
  repeat' with_reducible first | exact ChO.const _ | exact h_r11 _ | apply ChO.ite | apply ChO.G | (apply ChO.bind;intro _)
theorem znD (a):Cn (zi1 a):=fun g h hg x=>zmr  _ _ (fun a=>hg a) a x
theorem zeI (a t):zhg a t=zbs a (zhg a) t:=zaj (znD a) t

def zcv (l:Tp27) (r3:Int->Int->Option (Int)) (n t:Int):Option (Int):=
  if (decide (t < (l.length:Int)))=true then
  G (0<=t/\t < (l.length:Int)) (
  G (0<=ix l t) (
  G (fits (t+(1:Int))) (
  r3 (ior .i64 n (ishl .i64 (1:Int) (ix l t))) (t+(1:Int))))) else
  some n
def zlO (l:Tp27):(Int×Int->Option (Int))->Int×Int->Option (Int):=
  fun rec x=>zcv l (fun n t=>rec (n,t)) x.1 x.2
def zg7 (l:Tp27) (n t:Int):Option (Int):=LFix (zlO l ) (n,t)
def zhe (l:Tp27):Option (Int):=
  zg7 l (0:Int) (0:Int)
theorem zos (r3:Nat->Int->Int->Option (Int)) (r3':Int->Int->Option (Int)) (h_r3:∀ a0 a1,ChO (fun κ=>r3 κ a0 a1) (r3' a0 a1)) (l n t):ChO (fun κ=>zcv l (r3 κ) n t) (zcv l r3' n t):=by
  unfold zcv
  repeat' with_reducible first | exact ChO.const _ | exact h_r3 _ _ | apply ChO.ite | apply ChO.G
theorem zqf (l):Cn (zlO l):=fun g h hg x=>zos  _ _ (fun a0 a1=>hg (a0,a1)) l x.1 x.2
theorem zkL (l n t):zg7 l n t=zcv l (zg7 l) n t:=zaj (zqf l) (n,t)

def zb7 (t:Int) (r1:(Int->Tp15->Option Tp15)) (r6:Int->Tp15->Option Tp15) (t_1:Int) (l_3:Tp15):Option Tp15:=
  if (decide (t_1 < t))=true then
  G (0<=t_1/\t_1 < (l_3.length:Int)) (
  G ((t_1).toNat < l_3.length) (
  G (0<=t/\t < (l_3.length:Int)) (
  G ((t).toNat < l_3.length) (
  if (decide ((((ix l_3 t_1).2).1)=(((ix l_3 t).2).1)))=true then
  G (0<=t/\t < (l_3.length:Int)) (
  G ((t).toNat < l_3.length) (
  G (0<=t_1/\t_1 < (l_3.length:Int)) (
  G ((t_1).toNat < l_3.length) (
  G (0<=t/\t < (l_3.length:Int)) (
  G ((t).toNat < l_3.length) (
  G (fits (t_1+(1:Int))) (
  r6 (t_1+(1:Int)) (l_3.set (t).toNat (zvS .i64 ((ix l_3 t).1) ((ix l_3 t_1).1),(ix l_3 t).2))))))))) else
  G (fits (t_1+(1:Int))) (
  r6 (t_1+(1:Int)) l_3))))) else
  G (0<=t/\t < (l_3.length:Int)) (
  G ((t).toNat < l_3.length) (
  G (0<=t/\t < (l_3.length:Int)) (
  G ((t).toNat < l_3.length) (
  G (fits (t+(1:Int))) (
  r1 (t+(1:Int)) (l_3.set (t).toNat ((ix l_3 t).1,(((ix l_3 t).2).1,((((ix l_3 t).2).2).1,(decide (((ix l_3 t).1)=(0:Int)),((((ix l_3 t).2).2).2).2))))))))))
def zkN (t:Int) (r1:(Int->Tp15->Option Tp15)):(Int×Tp15->Option Tp15)->Int×Tp15->Option Tp15:=
  fun rec x=>zb7 t r1 (fun t_1 l_3=>rec (t_1,l_3)) x.1 x.2
def zcn (t:Int) (r1:(Int->Tp15->Option Tp15)) (t_1:Int) (l_3:Tp15):Option Tp15:=LFix (zkN t r1 ) (t_1,l_3)
def zcM (t:Int) (r1:(Int->Tp15->Option Tp15)) (l_2:Tp15):Option Tp15:=
  zcn t r1 (0:Int) l_2
def zbJ (l:Tp15) (r1:Int->Tp15->Option Tp15) (t:Int) (l_1:Tp15):Option Tp15:=
  if (decide (t < (l.length:Int)))=true then
  G (0<=t/\t < (l_1.length:Int)) (
  G ((t).toNat < l_1.length) (
  if (decide ((0:Int)<=(((ix l_1 t).2).1)))=true then
  G (0<=t/\t < (l_1.length:Int)) (
  G ((t).toNat < l_1.length) (
  G (0<=t/\t < (l_1.length:Int)) (
  G ((t).toNat < l_1.length) (
  G (0<=((ix l_1 t).2).1/\((ix l_1 t).2).1 < (l_1.length:Int)) (
  G ((((ix l_1 t).2).1).toNat < l_1.length) (
  G (0<=t/\t < (l_1.length:Int)) (
  G ((t).toNat < l_1.length) (
  zcM t r1 (l_1.set (t).toNat (iand .i64 ((ix l_1 t).1) ((ix l_1 (((ix l_1 t).2).1)).1),(ix l_1 t).2)))))))))) else
  zcM t r1 l_1)) else
  some l_1
def zkM (l:Tp15):(Int×Tp15->Option Tp15)->Int×Tp15->Option Tp15:=
  fun rec x=>zbJ l (fun t l_1=>rec (t,l_1)) x.1 x.2
def zcN (l:Tp15) (t:Int) (l_1:Tp15):Option Tp15:=LFix (zkM l ) (t,l_1)
def zhN (l:Tp15):Option Tp15:=
  zcN l (0:Int) l
theorem zhO (r1:Nat->Int->Tp15->Option Tp15) (r1':Int->Tp15->Option Tp15) (h_r1:∀ a0 a1,ChO (fun κ=>r1 κ a0 a1) (r1' a0 a1)) (r6:Nat->Int->Tp15->Option Tp15) (r6':Int->Tp15->Option Tp15) (h_r6:∀ a0 a1,ChO (fun κ=>r6 κ a0 a1) (r6' a0 a1)) (t t_1 l_3):ChO (fun κ=>zb7 t (r1 κ) (r6 κ) t_1 l_3) (zb7 t r1' r6' t_1 l_3):=by
  unfold zb7
  repeat' with_reducible first | exact ChO.const _ | exact h_r1 _ _ | exact h_r6 _ _ | apply ChO.ite | apply ChO.G
theorem zf2 (r1 t):Cn (zkN t r1):=fun g h hg x=>zhO (fun _=>r1) r1 (fun _ _=>ChO.const _) _ _ (fun a0 a1=>hg (a0,a1)) t x.1 x.2
theorem zjH (r1 t t_1 l_3):zcn t r1 t_1 l_3=zb7 t r1 (zcn t r1) t_1 l_3:=zaj (zf2 r1 t) (t_1,l_3)
theorem zpi (r1:Nat->Int->Tp15->Option Tp15) (r1':Int->Tp15->Option Tp15) (h_r1:∀ a0 a1,ChO (fun κ=>r1 κ a0 a1) (r1' a0 a1)) (t t_1 l_3):ChO (fun κ=>zcn t (r1 κ) t_1 l_3) (zcn t r1' t_1 l_3):=by
  unfold zcn
  exact zdp (fun κ=>(zf2 (r1 κ) t).mono) (zf2 r1' t).mono (fun g h hg x=>zhO r1 r1' h_r1 _ _ (fun a0 a1=>hg (a0,a1)) t x.1 x.2) _
theorem zpg (r1:Nat->Int->Tp15->Option Tp15) (r1':Int->Tp15->Option Tp15) (h_r1:∀ a0 a1,ChO (fun κ=>r1 κ a0 a1) (r1' a0 a1)) (t l_2):ChO (fun κ=>zcM t (r1 κ) l_2) (zcM t r1' l_2):=by
  unfold zcM
  repeat' with_reducible first | exact ChO.const _ | exact h_r1 _ _ | (apply zpi<;>assumption)
theorem znv (r1:Nat->Int->Tp15->Option Tp15) (r1':Int->Tp15->Option Tp15) (h_r1:∀ a0 a1,ChO (fun κ=>r1 κ a0 a1) (r1' a0 a1)) (l t l_1):ChO (fun κ=>zbJ l (r1 κ) t l_1) (zbJ l r1' t l_1):=by
  unfold zbJ
  repeat' with_reducible first | exact ChO.const _ | exact h_r1 _ _ | (apply zpg<;>assumption) | apply ChO.ite | apply ChO.G
theorem zph (l):Cn (zkM l):=fun g h hg x=>znv  _ _ (fun a0 a1=>hg (a0,a1)) l x.1 x.2
theorem zf1 (l t l_1):zcN l t l_1=zbJ l (zcN l) t l_1:=zaj (zph l) (t,l_1)

def zdT (k:Int) (r1:(Int->Tp15->Option Tp15)) (l_2:Tp15):Option Tp15:=
  G (fits (k+(1:Int))) (
  r1 (k+(1:Int)) l_2)
def zcH (k:Int) (l_1:Tp15) (r1:(Int->Tp15->Option Tp15)) (t:Bool):Option Tp15:=
  if t=true then
  G (0<=k/\k < (l_1.length:Int)) (
  G ((k).toNat < l_1.length) (
  zdT k r1 (l_1.set (k).toNat ((ix l_1 k).1,(((ix l_1 k).2).1,((((ix l_1 k).2).2).1,(true,((((ix l_1 k).2).2).2).2))))))) else
  zdT k r1 l_1
def zcx (i:Int) (r1:Int->Tp15->Option Tp15) (k:Int) (l_1:Tp15):Option Tp15:=
  if (decide (k < (l_1.length:Int)))=true then
  G (0<=k/\k < (l_1.length:Int)) (
  G ((k).toNat < l_1.length) (
  if (decide ((((ix l_1 k).2).1)=i))=true then
  zcH k l_1 r1 true else
  if (decide ((0:Int)<=(((ix l_1 k).2).1)))=true then
  G (0<=((ix l_1 k).2).1/\((ix l_1 k).2).1 < (l_1.length:Int)) (
  G ((((ix l_1 k).2).1).toNat < l_1.length) (
  if (((((ix l_1 (((ix l_1 k).2).1)).2).2).2).1)=true then
  zcH k l_1 r1 (decide (i < (((ix l_1 k).2).1))) else
  zcH k l_1 r1 false)) else
  zcH k l_1 r1 false)) else
  some l_1
def zl2 (i:Int):(Int×Tp15->Option Tp15)->Int×Tp15->Option Tp15:=
  fun rec x=>zcx i (fun k l_1=>rec (k,l_1)) x.1 x.2
def zg8 (i k:Int) (l_1:Tp15):Option Tp15:=LFix (zl2 i ) (k,l_1)
def zjJ (i:Int) (l:Tp15):Option Tp15:=
  G (fits (i+(1:Int))) (
  zg8 i (i+(1:Int)) l)
theorem zqh (r1:Nat->Int->Tp15->Option Tp15) (r1':Int->Tp15->Option Tp15) (h_r1:∀ a0 a1,ChO (fun κ=>r1 κ a0 a1) (r1' a0 a1)) (k l_2):ChO (fun κ=>zdT k (r1 κ) l_2) (zdT k r1' l_2):=by
  unfold zdT
  repeat' with_reducible first | exact ChO.const _ | exact h_r1 _ _ | apply ChO.G
theorem zqg (r1:Nat->Int->Tp15->Option Tp15) (r1':Int->Tp15->Option Tp15) (h_r1:∀ a0 a1,ChO (fun κ=>r1 κ a0 a1) (r1' a0 a1)) (k l_1 t):ChO (fun κ=>zcH k l_1 (r1 κ) t) (zcH k l_1 r1' t):=by
  unfold zcH
  repeat' with_reducible first | exact ChO.const _ | exact h_r1 _ _ | (apply zqh<;>assumption) | apply ChO.ite | apply ChO.G
theorem zov (r1:Nat->Int->Tp15->Option Tp15) (r1':Int->Tp15->Option Tp15) (h_r1:∀ a0 a1,ChO (fun κ=>r1 κ a0 a1) (r1' a0 a1)) (i k l_1):ChO (fun κ=>zcx i (r1 κ) k l_1) (zcx i r1' k l_1):=by
  unfold zcx
  repeat' with_reducible first | exact ChO.const _ | exact h_r1 _ _ | (apply zqg<;>assumption) | apply ChO.ite | apply ChO.G
theorem zqi (i):Cn (zl2 i):=fun g h hg x=>zov  _ _ (fun a0 a1=>hg (a0,a1)) i x.1 x.2
theorem zkO (i k l_1):zg8 i k l_1=zcx i (zg8 i) k l_1:=zaj (zqi i) (k,l_1)

def zco (t:Int) (r4:(Int->Int->Int->Int->Int->Int->Int->Int->Int->Int->Int->Int->Int->Int->Int->Int->Int->Int->Int->Int->Int->Int->Int->Option Tp8)) (p_20 p_21 p_22 p_23 p_24 p_25 p_26 p_27 p_28 p_29 now_12 now_13 now_14 now_15 now_16 now_17 now_18 now_19 now_20 now_21 now_22 now_23:Int):Option Tp8:=
  G (fits (t+(1:Int))) (
  r4 (t+(1:Int)) p_20 p_21 p_22 p_23 p_24 p_25 p_26 p_27 p_28 p_29 now_12 now_13 now_14 now_15 now_16 now_17 now_18 now_19 now_20 now_21 now_22 now_23)
def zcO (t now now_1 now_2 now_3 now_4 now_5 now_6 now_7 now_8 now_9 now_10 now_11:Int) (r4:(Int->Int->Int->Int->Int->Int->Int->Int->Int->Int->Int->Int->Int->Int->Int->Int->Int->Int->Int->Int->Int->Int->Int->Option Tp8)) (p_10 p_30 p_31 p_32 p_33 p_34 p_35 p_36 p_37 p_38 p_39:Int):Option Tp8:=
  G (fits (p_30+(1:Int))) (
  zco t r4 (p_30+(1:Int)) p_31 p_32 p_33 p_34 p_35 p_36 p_37 p_38 p_39 (([now,now_1,now_2,now_3,now_4,now_5,now_6,now_7,now_8,now_9,now_10,now_11].set ((t).toNat) p_10).getD 0 0) (([now,now_1,now_2,now_3,now_4,now_5,now_6,now_7,now_8,now_9,now_10,now_11].set ((t).toNat) p_10).getD 1 0) (([now,now_1,now_2,now_3,now_4,now_5,now_6,now_7,now_8,now_9,now_10,now_11].set ((t).toNat) p_10).getD 2 0) (([now,now_1,now_2,now_3,now_4,now_5,now_6,now_7,now_8,now_9,now_10,now_11].set ((t).toNat) p_10).getD 3 0) (([now,now_1,now_2,now_3,now_4,now_5,now_6,now_7,now_8,now_9,now_10,now_11].set ((t).toNat) p_10).getD 4 0) (([now,now_1,now_2,now_3,now_4,now_5,now_6,now_7,now_8,now_9,now_10,now_11].set ((t).toNat) p_10).getD 5 0) (([now,now_1,now_2,now_3,now_4,now_5,now_6,now_7,now_8,now_9,now_10,now_11].set ((t).toNat) p_10).getD 6 0) (([now,now_1,now_2,now_3,now_4,now_5,now_6,now_7,now_8,now_9,now_10,now_11].set ((t).toNat) p_10).getD 7 0) (([now,now_1,now_2,now_3,now_4,now_5,now_6,now_7,now_8,now_9,now_10,now_11].set ((t).toNat) p_10).getD 8 0) (([now,now_1,now_2,now_3,now_4,now_5,now_6,now_7,now_8,now_9,now_10,now_11].set ((t).toNat) p_10).getD 9 0) (([now,now_1,now_2,now_3,now_4,now_5,now_6,now_7,now_8,now_9,now_10,now_11].set ((t).toNat) p_10).getD 10 0) (([now,now_1,now_2,now_3,now_4,now_5,now_6,now_7,now_8,now_9,now_10,now_11].set ((t).toNat) p_10).getD 11 0))
def zbi (l:Tp15) (t now now_1 now_2 now_3 now_4 now_5 now_6 now_7 now_8 now_9 now_10 now_11:Int) (r4:(Int->Int->Int->Int->Int->Int->Int->Int->Int->Int->Int->Int->Int->Int->Int->Int->Int->Int->Int->Int->Int->Int->Int->Option Tp8)) (p_10 p_11 p_12 p_13 p_14 p_15 p_16 p_17 p_18 p_19:Int):Option Tp8:=
  if (((((ix l t).2).2).2).1)=true then
  zco t r4 p_10 p_11 p_12 p_13 p_14 p_15 p_16 p_17 p_18 p_19 now now_1 now_2 now_3 now_4 now_5 now_6 now_7 now_8 now_9 now_10 now_11 else
  G (0<=t/\t < (12:Int)) (
  G ((t).toNat < 12) (
  G (0<=p_10/\p_10 < (4:Int)) (
  G ((p_10).toNat < 4) (
  G (0<=p_10/\p_10 < (4:Int)) (
  G ((p_10).toNat < 4) (
  if (decide ((0:Int)<=(((ix l t).2).1)))=true then
  G (0<=((ix l t).2).1/\((ix l t).2).1 < (12:Int)) (
  G ((((ix l t).2).1).toNat < 12) (
  G (0<=p_10/\p_10 < (4:Int)) (
  G ((p_10).toNat < 4) (
  zcO t now now_1 now_2 now_3 now_4 now_5 now_6 now_7 now_8 now_9 now_10 now_11 r4 p_10 p_10 (([p_11,p_12,p_13,p_14].set ((p_10).toNat) ((ix l t).1)).getD 0 0) (([p_11,p_12,p_13,p_14].set ((p_10).toNat) ((ix l t).1)).getD 1 0) (([p_11,p_12,p_13,p_14].set ((p_10).toNat) ((ix l t).1)).getD 2 0) (([p_11,p_12,p_13,p_14].set ((p_10).toNat) ((ix l t).1)).getD 3 0) (([([p_15,p_16,p_17,p_18].set ((p_10).toNat) (-1:Int)).getD 0 0,([p_15,p_16,p_17,p_18].set ((p_10).toNat) (-1:Int)).getD 1 0,([p_15,p_16,p_17,p_18].set ((p_10).toNat) (-1:Int)).getD 2 0,([p_15,p_16,p_17,p_18].set ((p_10).toNat) (-1:Int)).getD 3 0].set ((p_10).toNat) ([([now,now_1,now_2,now_3,now_4,now_5,now_6,now_7,now_8,now_9,now_10,now_11].set ((t).toNat) p_10).getD 0 0,([now,now_1,now_2,now_3,now_4,now_5,now_6,now_7,now_8,now_9,now_10,now_11].set ((t).toNat) p_10).getD 1 0,([now,now_1,now_2,now_3,now_4,now_5,now_6,now_7,now_8,now_9,now_10,now_11].set ((t).toNat) p_10).getD 2 0,([now,now_1,now_2,now_3,now_4,now_5,now_6,now_7,now_8,now_9,now_10,now_11].set ((t).toNat) p_10).getD 3 0,([now,now_1,now_2,now_3,now_4,now_5,now_6,now_7,now_8,now_9,now_10,now_11].set ((t).toNat) p_10).getD 4 0,([now,now_1,now_2,now_3,now_4,now_5,now_6,now_7,now_8,now_9,now_10,now_11].set ((t).toNat) p_10).getD 5 0,([now,now_1,now_2,now_3,now_4,now_5,now_6,now_7,now_8,now_9,now_10,now_11].set ((t).toNat) p_10).getD 6 0,([now,now_1,now_2,now_3,now_4,now_5,now_6,now_7,now_8,now_9,now_10,now_11].set ((t).toNat) p_10).getD 7 0,([now,now_1,now_2,now_3,now_4,now_5,now_6,now_7,now_8,now_9,now_10,now_11].set ((t).toNat) p_10).getD 8 0,([now,now_1,now_2,now_3,now_4,now_5,now_6,now_7,now_8,now_9,now_10,now_11].set ((t).toNat) p_10).getD 9 0,([now,now_1,now_2,now_3,now_4,now_5,now_6,now_7,now_8,now_9,now_10,now_11].set ((t).toNat) p_10).getD 10 0,([now,now_1,now_2,now_3,now_4,now_5,now_6,now_7,now_8,now_9,now_10,now_11].set ((t).toNat) p_10).getD 11 0].getD ((((ix l t).2).1).toNat) 0)).getD 0 0) (([([p_15,p_16,p_17,p_18].set ((p_10).toNat) (-1:Int)).getD 0 0,([p_15,p_16,p_17,p_18].set ((p_10).toNat) (-1:Int)).getD 1 0,([p_15,p_16,p_17,p_18].set ((p_10).toNat) (-1:Int)).getD 2 0,([p_15,p_16,p_17,p_18].set ((p_10).toNat) (-1:Int)).getD 3 0].set ((p_10).toNat) ([([now,now_1,now_2,now_3,now_4,now_5,now_6,now_7,now_8,now_9,now_10,now_11].set ((t).toNat) p_10).getD 0 0,([now,now_1,now_2,now_3,now_4,now_5,now_6,now_7,now_8,now_9,now_10,now_11].set ((t).toNat) p_10).getD 1 0,([now,now_1,now_2,now_3,now_4,now_5,now_6,now_7,now_8,now_9,now_10,now_11].set ((t).toNat) p_10).getD 2 0,([now,now_1,now_2,now_3,now_4,now_5,now_6,now_7,now_8,now_9,now_10,now_11].set ((t).toNat) p_10).getD 3 0,([now,now_1,now_2,now_3,now_4,now_5,now_6,now_7,now_8,now_9,now_10,now_11].set ((t).toNat) p_10).getD 4 0,([now,now_1,now_2,now_3,now_4,now_5,now_6,now_7,now_8,now_9,now_10,now_11].set ((t).toNat) p_10).getD 5 0,([now,now_1,now_2,now_3,now_4,now_5,now_6,now_7,now_8,now_9,now_10,now_11].set ((t).toNat) p_10).getD 6 0,([now,now_1,now_2,now_3,now_4,now_5,now_6,now_7,now_8,now_9,now_10,now_11].set ((t).toNat) p_10).getD 7 0,([now,now_1,now_2,now_3,now_4,now_5,now_6,now_7,now_8,now_9,now_10,now_11].set ((t).toNat) p_10).getD 8 0,([now,now_1,now_2,now_3,now_4,now_5,now_6,now_7,now_8,now_9,now_10,now_11].set ((t).toNat) p_10).getD 9 0,([now,now_1,now_2,now_3,now_4,now_5,now_6,now_7,now_8,now_9,now_10,now_11].set ((t).toNat) p_10).getD 10 0,([now,now_1,now_2,now_3,now_4,now_5,now_6,now_7,now_8,now_9,now_10,now_11].set ((t).toNat) p_10).getD 11 0].getD ((((ix l t).2).1).toNat) 0)).getD 1 0) (([([p_15,p_16,p_17,p_18].set ((p_10).toNat) (-1:Int)).getD 0 0,([p_15,p_16,p_17,p_18].set ((p_10).toNat) (-1:Int)).getD 1 0,([p_15,p_16,p_17,p_18].set ((p_10).toNat) (-1:Int)).getD 2 0,([p_15,p_16,p_17,p_18].set ((p_10).toNat) (-1:Int)).getD 3 0].set ((p_10).toNat) ([([now,now_1,now_2,now_3,now_4,now_5,now_6,now_7,now_8,now_9,now_10,now_11].set ((t).toNat) p_10).getD 0 0,([now,now_1,now_2,now_3,now_4,now_5,now_6,now_7,now_8,now_9,now_10,now_11].set ((t).toNat) p_10).getD 1 0,([now,now_1,now_2,now_3,now_4,now_5,now_6,now_7,now_8,now_9,now_10,now_11].set ((t).toNat) p_10).getD 2 0,([now,now_1,now_2,now_3,now_4,now_5,now_6,now_7,now_8,now_9,now_10,now_11].set ((t).toNat) p_10).getD 3 0,([now,now_1,now_2,now_3,now_4,now_5,now_6,now_7,now_8,now_9,now_10,now_11].set ((t).toNat) p_10).getD 4 0,([now,now_1,now_2,now_3,now_4,now_5,now_6,now_7,now_8,now_9,now_10,now_11].set ((t).toNat) p_10).getD 5 0,([now,now_1,now_2,now_3,now_4,now_5,now_6,now_7,now_8,now_9,now_10,now_11].set ((t).toNat) p_10).getD 6 0,([now,now_1,now_2,now_3,now_4,now_5,now_6,now_7,now_8,now_9,now_10,now_11].set ((t).toNat) p_10).getD 7 0,([now,now_1,now_2,now_3,now_4,now_5,now_6,now_7,now_8,now_9,now_10,now_11].set ((t).toNat) p_10).getD 8 0,([now,now_1,now_2,now_3,now_4,now_5,now_6,now_7,now_8,now_9,now_10,now_11].set ((t).toNat) p_10).getD 9 0,([now,now_1,now_2,now_3,now_4,now_5,now_6,now_7,now_8,now_9,now_10,now_11].set ((t).toNat) p_10).getD 10 0,([now,now_1,now_2,now_3,now_4,now_5,now_6,now_7,now_8,now_9,now_10,now_11].set ((t).toNat) p_10).getD 11 0].getD ((((ix l t).2).1).toNat) 0)).getD 2 0) (([([p_15,p_16,p_17,p_18].set ((p_10).toNat) (-1:Int)).getD 0 0,([p_15,p_16,p_17,p_18].set ((p_10).toNat) (-1:Int)).getD 1 0,([p_15,p_16,p_17,p_18].set ((p_10).toNat) (-1:Int)).getD 2 0,([p_15,p_16,p_17,p_18].set ((p_10).toNat) (-1:Int)).getD 3 0].set ((p_10).toNat) ([([now,now_1,now_2,now_3,now_4,now_5,now_6,now_7,now_8,now_9,now_10,now_11].set ((t).toNat) p_10).getD 0 0,([now,now_1,now_2,now_3,now_4,now_5,now_6,now_7,now_8,now_9,now_10,now_11].set ((t).toNat) p_10).getD 1 0,([now,now_1,now_2,now_3,now_4,now_5,now_6,now_7,now_8,now_9,now_10,now_11].set ((t).toNat) p_10).getD 2 0,([now,now_1,now_2,now_3,now_4,now_5,now_6,now_7,now_8,now_9,now_10,now_11].set ((t).toNat) p_10).getD 3 0,([now,now_1,now_2,now_3,now_4,now_5,now_6,now_7,now_8,now_9,now_10,now_11].set ((t).toNat) p_10).getD 4 0,([now,now_1,now_2,now_3,now_4,now_5,now_6,now_7,now_8,now_9,now_10,now_11].set ((t).toNat) p_10).getD 5 0,([now,now_1,now_2,now_3,now_4,now_5,now_6,now_7,now_8,now_9,now_10,now_11].set ((t).toNat) p_10).getD 6 0,([now,now_1,now_2,now_3,now_4,now_5,now_6,now_7,now_8,now_9,now_10,now_11].set ((t).toNat) p_10).getD 7 0,([now,now_1,now_2,now_3,now_4,now_5,now_6,now_7,now_8,now_9,now_10,now_11].set ((t).toNat) p_10).getD 8 0,([now,now_1,now_2,now_3,now_4,now_5,now_6,now_7,now_8,now_9,now_10,now_11].set ((t).toNat) p_10).getD 9 0,([now,now_1,now_2,now_3,now_4,now_5,now_6,now_7,now_8,now_9,now_10,now_11].set ((t).toNat) p_10).getD 10 0,([now,now_1,now_2,now_3,now_4,now_5,now_6,now_7,now_8,now_9,now_10,now_11].set ((t).toNat) p_10).getD 11 0].getD ((((ix l t).2).1).toNat) 0)).getD 3 0) p_19)))) else
  zcO t now now_1 now_2 now_3 now_4 now_5 now_6 now_7 now_8 now_9 now_10 now_11 r4 p_10 p_10 (([p_11,p_12,p_13,p_14].set ((p_10).toNat) ((ix l t).1)).getD 0 0) (([p_11,p_12,p_13,p_14].set ((p_10).toNat) ((ix l t).1)).getD 1 0) (([p_11,p_12,p_13,p_14].set ((p_10).toNat) ((ix l t).1)).getD 2 0) (([p_11,p_12,p_13,p_14].set ((p_10).toNat) ((ix l t).1)).getD 3 0) (([p_15,p_16,p_17,p_18].set ((p_10).toNat) (-1:Int)).getD 0 0) (([p_15,p_16,p_17,p_18].set ((p_10).toNat) (-1:Int)).getD 1 0) (([p_15,p_16,p_17,p_18].set ((p_10).toNat) (-1:Int)).getD 2 0) (([p_15,p_16,p_17,p_18].set ((p_10).toNat) (-1:Int)).getD 3 0) p_19))))))
def zbp (l:Tp15) (r4:Tf1) (t p p_1 p_2 p_3 p_4 p_5 p_6 p_7 p_8 p_9 now now_1 now_2 now_3 now_4 now_5 now_6 now_7 now_8 now_9 now_10 now_11:Int):Option Tp8:=
  if (decide (t < (l.length:Int)))=true then
  G (0<=t/\t < (l.length:Int)) (
  if ((((ix l t).2).2).1)=true then
  if (((((ix l t).2).2).2).1)=true then
  G (fits ((2:Int) * t)) (
  G (fits (((2:Int) * t)+(1:Int))) (
  zbi l t now now_1 now_2 now_3 now_4 now_5 now_6 now_7 now_8 now_9 now_10 now_11 r4 p p_1 p_2 p_3 p_4 p_5 p_6 p_7 p_8 (imin p_9 (((2:Int) * t)+(1:Int))))) else
  if ((((((ix l t).2).2).2).2).1)=true then
  G (fits ((2:Int) * t)) (
  G (fits (((2:Int) * t)+(2:Int))) (
  zbi l t now now_1 now_2 now_3 now_4 now_5 now_6 now_7 now_8 now_9 now_10 now_11 r4 p p_1 p_2 p_3 p_4 p_5 p_6 p_7 p_8 (imin p_9 (((2:Int) * t)+(2:Int))))) else
  zbi l t now now_1 now_2 now_3 now_4 now_5 now_6 now_7 now_8 now_9 now_10 now_11 r4 p p_1 p_2 p_3 p_4 p_5 p_6 p_7 p_8 p_9 else
  zbi l t now now_1 now_2 now_3 now_4 now_5 now_6 now_7 now_8 now_9 now_10 now_11 r4 p p_1 p_2 p_3 p_4 p_5 p_6 p_7 p_8 p_9) else
  some ((p,((p_1,(p_2,(p_3,(p_4,())))),((p_5,(p_6,(p_7,(p_8,())))),()))),(p_9,()))
def zl4 (l:Tp15):(Int×Int×Int×Int×Int×Int×Int×Int×Int×Int×Int×Int×Int×Int×Int×Int×Int×Int×Int×Int×Int×Int×Int->Option Tp8)->Int×Int×Int×Int×Int×Int×Int×Int×Int×Int×Int×Int×Int×Int×Int×Int×Int×Int×Int×Int×Int×Int×Int->Option Tp8:=
  fun rec x=>zbp l (fun t p p_1 p_2 p_3 p_4 p_5 p_6 p_7 p_8 p_9 now now_1 now_2 now_3 now_4 now_5 now_6 now_7 now_8 now_9 now_10 now_11=>rec (t,p,p_1,p_2,p_3,p_4,p_5,p_6,p_7,p_8,p_9,now,now_1,now_2,now_3,now_4,now_5,now_6,now_7,now_8,now_9,now_10,now_11)) x.1 x.2.1 x.2.2.1 x.2.2.2.1 x.2.2.2.2.1 x.2.2.2.2.2.1 x.2.2.2.2.2.2.1 x.2.2.2.2.2.2.2.1 x.2.2.2.2.2.2.2.2.1 x.2.2.2.2.2.2.2.2.2.1 x.2.2.2.2.2.2.2.2.2.2.1 x.2.2.2.2.2.2.2.2.2.2.2.1 x.2.2.2.2.2.2.2.2.2.2.2.2.1 x.2.2.2.2.2.2.2.2.2.2.2.2.2.1 x.2.2.2.2.2.2.2.2.2.2.2.2.2.2.1 x.2.2.2.2.2.2.2.2.2.2.2.2.2.2.2.1 x.2.2.2.2.2.2.2.2.2.2.2.2.2.2.2.2.1 x.2.2.2.2.2.2.2.2.2.2.2.2.2.2.2.2.2.1 x.2.2.2.2.2.2.2.2.2.2.2.2.2.2.2.2.2.2.1 x.2.2.2.2.2.2.2.2.2.2.2.2.2.2.2.2.2.2.2.1 x.2.2.2.2.2.2.2.2.2.2.2.2.2.2.2.2.2.2.2.2.1 x.2.2.2.2.2.2.2.2.2.2.2.2.2.2.2.2.2.2.2.2.2.1 x.2.2.2.2.2.2.2.2.2.2.2.2.2.2.2.2.2.2.2.2.2.2
def zdU (l:Tp15) (t p p_1 p_2 p_3 p_4 p_5 p_6 p_7 p_8 p_9 now now_1 now_2 now_3 now_4 now_5 now_6 now_7 now_8 now_9 now_10 now_11:Int):Option Tp8:=LFix (zl4 l ) (t,p,p_1,p_2,p_3,p_4,p_5,p_6,p_7,p_8,p_9,now,now_1,now_2,now_3,now_4,now_5,now_6,now_7,now_8,now_9,now_10,now_11)
def zjM (l:Tp15):Option Tp8:=
  zdU l (0:Int) (0:Int) (0:Int) (0:Int) (0:Int) (0:Int) (0:Int) (0:Int) (0:Int) (0:Int) (9:Int) (0:Int) (0:Int) (0:Int) (0:Int) (0:Int) (0:Int) (0:Int) (0:Int) (0:Int) (0:Int) (0:Int) (0:Int)
theorem zjN (r4:Nat->Tf1) (r4':Tf1) (h_r4:∀ a0 a1 a2 a3 a4 a5 a6 a7 a8 a9 a10 a11 a12 a13 a14 a15 a16 a17 a18 a19 a20 a21 a22,ChO (fun κ=>r4 κ a0 a1 a2 a3 a4 a5 a6 a7 a8 a9 a10 a11 a12 a13 a14 a15 a16 a17 a18 a19 a20 a21 a22) (r4' a0 a1 a2 a3 a4 a5 a6 a7 a8 a9 a10 a11 a12 a13 a14 a15 a16 a17 a18 a19 a20 a21 a22)) (t p_20 p_21 p_22 p_23 p_24 p_25 p_26 p_27 p_28 p_29 now_12 now_13 now_14 now_15 now_16 now_17 now_18 now_19 now_20 now_21 now_22 now_23):ChO (fun κ=>zco t (r4 κ) p_20 p_21 p_22 p_23 p_24 p_25 p_26 p_27 p_28 p_29 now_12 now_13 now_14 now_15 now_16 now_17 now_18 now_19 now_20 now_21 now_22 now_23) (zco t r4' p_20 p_21 p_22 p_23 p_24 p_25 p_26 p_27 p_28 p_29 now_12 now_13 now_14 now_15 now_16 now_17 now_18 now_19 now_20 now_21 now_22 now_23):=by
  unfold zco
  repeat' with_reducible first | exact ChO.const _ | exact h_r4 _ _ _ _ _ _ _ _ _ _ _ _ _ _ _ _ _ _ _ _ _ _ _ | apply ChO.G
theorem zpk (r4:Nat->Tf1) (r4':Tf1) (h_r4:∀ a0 a1 a2 a3 a4 a5 a6 a7 a8 a9 a10 a11 a12 a13 a14 a15 a16 a17 a18 a19 a20 a21 a22,ChO (fun κ=>r4 κ a0 a1 a2 a3 a4 a5 a6 a7 a8 a9 a10 a11 a12 a13 a14 a15 a16 a17 a18 a19 a20 a21 a22) (r4' a0 a1 a2 a3 a4 a5 a6 a7 a8 a9 a10 a11 a12 a13 a14 a15 a16 a17 a18 a19 a20 a21 a22)) (t now now_1 now_2 now_3 now_4 now_5 now_6 now_7 now_8 now_9 now_10 now_11 p_10 p_30 p_31 p_32 p_33 p_34 p_35 p_36 p_37 p_38 p_39):ChO (fun κ=>zcO t now now_1 now_2 now_3 now_4 now_5 now_6 now_7 now_8 now_9 now_10 now_11 (r4 κ) p_10 p_30 p_31 p_32 p_33 p_34 p_35 p_36 p_37 p_38 p_39) (zcO t now now_1 now_2 now_3 now_4 now_5 now_6 now_7 now_8 now_9 now_10 now_11 r4' p_10 p_30 p_31 p_32 p_33 p_34 p_35 p_36 p_37 p_38 p_39):=by
  unfold zcO
  repeat' with_reducible first | exact ChO.const _ | exact h_r4 _ _ _ _ _ _ _ _ _ _ _ _ _ _ _ _ _ _ _ _ _ _ _ | (apply zjN<;>assumption) | apply ChO.G
theorem zpj (r4:Nat->Tf1) (r4':Tf1) (h_r4:∀ a0 a1 a2 a3 a4 a5 a6 a7 a8 a9 a10 a11 a12 a13 a14 a15 a16 a17 a18 a19 a20 a21 a22,ChO (fun κ=>r4 κ a0 a1 a2 a3 a4 a5 a6 a7 a8 a9 a10 a11 a12 a13 a14 a15 a16 a17 a18 a19 a20 a21 a22) (r4' a0 a1 a2 a3 a4 a5 a6 a7 a8 a9 a10 a11 a12 a13 a14 a15 a16 a17 a18 a19 a20 a21 a22)) (l t now now_1 now_2 now_3 now_4 now_5 now_6 now_7 now_8 now_9 now_10 now_11 p_10 p_11 p_12 p_13 p_14 p_15 p_16 p_17 p_18 p_19):ChO (fun κ=>zbi l t now now_1 now_2 now_3 now_4 now_5 now_6 now_7 now_8 now_9 now_10 now_11 (r4 κ) p_10 p_11 p_12 p_13 p_14 p_15 p_16 p_17 p_18 p_19) (zbi l t now now_1 now_2 now_3 now_4 now_5 now_6 now_7 now_8 now_9 now_10 now_11 r4' p_10 p_11 p_12 p_13 p_14 p_15 p_16 p_17 p_18 p_19):=by
  unfold zbi
  repeat' with_reducible first | exact ChO.const _ | exact h_r4 _ _ _ _ _ _ _ _ _ _ _ _ _ _ _ _ _ _ _ _ _ _ _ | (apply zjN<;>assumption) | (apply zpk<;>assumption) | apply ChO.ite | apply ChO.G
theorem zox (r4:Nat->Tf1) (r4':Tf1) (h_r4:∀ a0 a1 a2 a3 a4 a5 a6 a7 a8 a9 a10 a11 a12 a13 a14 a15 a16 a17 a18 a19 a20 a21 a22,ChO (fun κ=>r4 κ a0 a1 a2 a3 a4 a5 a6 a7 a8 a9 a10 a11 a12 a13 a14 a15 a16 a17 a18 a19 a20 a21 a22) (r4' a0 a1 a2 a3 a4 a5 a6 a7 a8 a9 a10 a11 a12 a13 a14 a15 a16 a17 a18 a19 a20 a21 a22)) (l t p p_1 p_2 p_3 p_4 p_5 p_6 p_7 p_8 p_9 now now_1 now_2 now_3 now_4 now_5 now_6 now_7 now_8 now_9 now_10 now_11):ChO (fun κ=>zbp l (r4 κ) t p p_1 p_2 p_3 p_4 p_5 p_6 p_7 p_8 p_9 now now_1 now_2 now_3 now_4 now_5 now_6 now_7 now_8 now_9 now_10 now_11) (zbp l r4' t p p_1 p_2 p_3 p_4 p_5 p_6 p_7 p_8 p_9 now now_1 now_2 now_3 now_4 now_5 now_6 now_7 now_8 now_9 now_10 now_11):=by
  unfold zbp
  repeat' with_reducible first | exact ChO.const _ | exact h_r4 _ _ _ _ _ _ _ _ _ _ _ _ _ _ _ _ _ _ _ _ _ _ _ | (apply zpj<;>assumption) | apply ChO.ite | apply ChO.G
theorem zqk (l):Cn (zl4 l):=fun g h hg x=>zox  _ _ (fun a0 a1 a2 a3 a4 a5 a6 a7 a8 a9 a10 a11 a12 a13 a14 a15 a16 a17 a18 a19 a20 a21 a22=>hg (a0,a1,a2,a3,a4,a5,a6,a7,a8,a9,a10,a11,a12,a13,a14,a15,a16,a17,a18,a19,a20,a21,a22)) l x.1 x.2.1 x.2.2.1 x.2.2.2.1 x.2.2.2.2.1 x.2.2.2.2.2.1 x.2.2.2.2.2.2.1 x.2.2.2.2.2.2.2.1 x.2.2.2.2.2.2.2.2.1 x.2.2.2.2.2.2.2.2.2.1 x.2.2.2.2.2.2.2.2.2.2.1 x.2.2.2.2.2.2.2.2.2.2.2.1 x.2.2.2.2.2.2.2.2.2.2.2.2.1 x.2.2.2.2.2.2.2.2.2.2.2.2.2.1 x.2.2.2.2.2.2.2.2.2.2.2.2.2.2.1 x.2.2.2.2.2.2.2.2.2.2.2.2.2.2.2.1 x.2.2.2.2.2.2.2.2.2.2.2.2.2.2.2.2.1 x.2.2.2.2.2.2.2.2.2.2.2.2.2.2.2.2.2.1 x.2.2.2.2.2.2.2.2.2.2.2.2.2.2.2.2.2.2.1 x.2.2.2.2.2.2.2.2.2.2.2.2.2.2.2.2.2.2.2.1 x.2.2.2.2.2.2.2.2.2.2.2.2.2.2.2.2.2.2.2.2.1 x.2.2.2.2.2.2.2.2.2.2.2.2.2.2.2.2.2.2.2.2.2.1 x.2.2.2.2.2.2.2.2.2.2.2.2.2.2.2.2.2.2.2.2.2.2
theorem zdn (l t p p_1 p_2 p_3 p_4 p_5 p_6 p_7 p_8 p_9 now now_1 now_2 now_3 now_4 now_5 now_6 now_7 now_8 now_9 now_10 now_11):zdU l t p p_1 p_2 p_3 p_4 p_5 p_6 p_7 p_8 p_9 now now_1 now_2 now_3 now_4 now_5 now_6 now_7 now_8 now_9 now_10 now_11=zbp l (zdU l) t p p_1 p_2 p_3 p_4 p_5 p_6 p_7 p_8 p_9 now now_1 now_2 now_3 now_4 now_5 now_6 now_7 now_8 now_9 now_10 now_11:=zaj (zqk l) (t,p,p_1,p_2,p_3,p_4,p_5,p_6,p_7,p_8,p_9,now,now_1,now_2,now_3,now_4,now_5,now_6,now_7,now_8,now_9,now_10,now_11)

def zbn (t_2:Int) (r7:(Int->Int->Int->Bool->Bool->Bool->Option Tp8)) (x'_5 x'_6:Int) (x'_7 x'_8 x'_9:Bool):Option Tp8:=
  G (fits (t_2+(1:Int))) (
  r7 (t_2+(1:Int)) x'_5 x'_6 x'_7 x'_8 x'_9)
def zaU (b:Tp5) (t:Tp11) (letter t_1:Int) (l:Tp15) (r3:(Int->Tp15->Option Tp8)) (r7:Tf7) (t_2 x' x'_1:Int) (x'_2 x'_3 x'_4:Bool):Option Tp8:=
  if (decide (t_2 < (4:Int)))=true then
  G (0<=t_1/\t_1 < (4:Int)) (
  G ((t_1).toNat < 4) (
  G (0<=t_2) (
  if (decide ((iand .i64 (ishr .i64 ([t.2.1.1,t.2.1.2.1,t.2.1.2.2.1,t.2.1.2.2.2.1].getD ((t_1).toNat) 0) t_2) (1:Int))=(1:Int)))=true then
  G (0<=t_2/\t_2 < (4:Int)) (
  G (0<=letter/\letter < (4:Int)) (
  zbn t_2 r7 (ior .i64 x' (vget (.int .i64) 4 (vget (.pair (.int .i64) Tc12) 4 b.1 (t_2).toNat) (letter).toNat)) x'_1 x'_2 x'_3 x'_4)) else
  zbn t_2 r7 x' x'_1 x'_2 x'_3 x'_4))) else
  G (room l ([(x',(x'_1,(x'_2,(x'_3,(x'_4,())))))]) 24) (
  G (fits (t_1+(1:Int))) (
  r3 (t_1+(1:Int)) (l++([(x',(x'_1,(x'_2,(x'_3,(x'_4,())))))]))))
def ze9 (b:Tp5) (t:Tp11) (letter t_1:Int) (l:Tp15) (r3:(Int->Tp15->Option Tp8)):(Int×Int×Int×Bool×Bool×Bool->Option Tp8)->Int×Int×Int×Bool×Bool×Bool->Option Tp8:=
  fun rec x=>zaU b t letter t_1 l r3 (fun t_2 x' x'_1 x'_2 x'_3 x'_4=>rec (t_2,x',x'_1,x'_2,x'_3,x'_4)) x.1 x.2.1 x.2.2.1 x.2.2.2.1 x.2.2.2.2.1 x.2.2.2.2.2
def zbd (b:Tp5) (t:Tp11) (letter t_1:Int) (l:Tp15) (r3:(Int->Tp15->Option Tp8)) (t_2 x' x'_1:Int) (x'_2 x'_3 x'_4:Bool):Option Tp8:=LFix (ze9 b t letter t_1 l r3 ) (t_2,x',x'_1,x'_2,x'_3,x'_4)
def zbo (l_2:Tp15) (kids t_5:Int) (r27:(Int->Int->Option Tp8)) (t_6:Bool):Option Tp8:=
  if t_6=true then
  G (0<=t_5/\t_5 < (l_2.length:Int)) (
  G ((t_5).toNat < l_2.length) (
  G (fits (t_5+(1:Int))) (
  r27 (ior .i64 kids ((ix l_2 t_5).1)) (t_5+(1:Int))))) else
  G (fits (t_5+(1:Int))) (
  r27 kids (t_5+(1:Int)))
def zaD (t_4:Int) (l_2:Tp15) (r23:(Int->Tp15->Option Tp8)) (t_7:Bool):Option Tp8:=
  if t_7=true then
  G (0<=t_4/\t_4 < (l_2.length:Int)) (
  G ((t_4).toNat < l_2.length) (
  (zjJ t_4 (l_2.set (t_4).toNat ((ix l_2 t_4).1,(((ix l_2 t_4).2).1,((((ix l_2 t_4).2).2).1,(((((ix l_2 t_4).2).2).2).1,(true,(((((ix l_2 t_4).2).2).2).2).2))))))).bind (fun y'_1=>
  G (fits (t_4+(1:Int))) (
  r23 (t_4+(1:Int)) y'_1)))) else
  G (fits (t_4+(1:Int))) (
  r23 (t_4+(1:Int)) l_2)
def zaP (t_4:Int) (l_2:Tp15) (r23:(Int->Tp15->Option Tp8)) (r27:Int->Int->Option Tp8) (kids t_5:Int):Option Tp8:=
  if (decide (t_5 < (l_2.length:Int)))=true then
  G (0<=t_5/\t_5 < (l_2.length:Int)) (
  G ((t_5).toNat < l_2.length) (
  if (decide ((((ix l_2 t_5).2).1)=t_4))=true then
  G (0<=t_5/\t_5 < (l_2.length:Int)) (
  G ((t_5).toNat < l_2.length) (
  zbo l_2 kids t_5 r27 (!(((((ix l_2 t_5).2).2).2).1)))) else
  zbo l_2 kids t_5 r27 false)) else
  G (0<=t_4/\t_4 < (l_2.length:Int)) (
  G ((t_4).toNat < l_2.length) (
  if (!(((((ix l_2 t_4).2).2).2).1))=true then
  G (0<=t_4/\t_4 < (l_2.length:Int)) (
  G ((t_4).toNat < l_2.length) (
  if (decide (kids=((ix l_2 t_4).1)))=true then
  zaD t_4 l_2 r23 (decide (¬ kids=(0:Int))) else
  zaD t_4 l_2 r23 false)) else
  zaD t_4 l_2 r23 false))
def zeB (t_4:Int) (l_2:Tp15) (r23:(Int->Tp15->Option Tp8)):(Int×Int->Option Tp8)->Int×Int->Option Tp8:=
  fun rec x=>zaP t_4 l_2 r23 (fun kids t_5=>rec (kids,t_5)) x.1 x.2
def za3 (t_4:Int) (l_2:Tp15) (r23:(Int->Tp15->Option Tp8)) (kids t_5:Int):Option Tp8:=LFix (zeB t_4 l_2 r23 ) (kids,t_5)
def zaO (y':Tp15) (r23:Int->Tp15->Option Tp8) (t_4:Int) (l_2:Tp15):Option Tp8:=
  if (decide (t_4 < (y'.length:Int)))=true then
  za3 t_4 l_2 r23 (0:Int) (0:Int) else
  (zjM l_2).bind (fun y'_2=>
  some ((y'_2.1.1,((y'_2.1.2.1.1,(y'_2.1.2.1.2.1,(y'_2.1.2.1.2.2.1,(y'_2.1.2.1.2.2.2.1,())))),((y'_2.1.2.2.1.1,(y'_2.1.2.2.1.2.1,(y'_2.1.2.2.1.2.2.1,(y'_2.1.2.2.1.2.2.2.1,())))),()))),(y'_2.2.1,())))
def zeA (y':Tp15):(Int×Tp15->Option Tp8)->Int×Tp15->Option Tp8:=
  fun rec x=>zaO y' (fun t_4 l_2=>rec (t_4,l_2)) x.1 x.2
def zaE (y':Tp15) (t_4:Int) (l_2:Tp15):Option Tp8:=LFix (zeA y' ) (t_4,l_2)
def zaN (b:Tp5) (t:Tp11) (r15:Int->Tp15->Option Tp8) (t_3:Int) (l_1:Tp15):Option Tp8:=
  if (decide (t_3 < t.1))=true then
  G (0<=t_3/\t_3 < (l_1.length:Int)) (
  G ((t_3).toNat < l_1.length) (
  if (decide (¬ (iand .i64 ((ix l_1 t_3).1) b.2.1)=(0:Int)))=true then
  G (room l_1 ([(iand .i64 ((ix l_1 t_3).1) b.2.1,(t_3,(false,(false,(false,())))))]) 24) (
  G (fits (t_3+(1:Int))) (
  r15 (t_3+(1:Int)) (l_1++([(iand .i64 ((ix l_1 t_3).1) b.2.1,(t_3,(false,(false,(false,())))))])))) else
  G (fits (t_3+(1:Int))) (
  r15 (t_3+(1:Int)) l_1))) else
  (zhN l_1).bind (fun y'=>
  zaE y' (0:Int) y')
def zez (b:Tp5) (t:Tp11):(Int×Tp15->Option Tp8)->Int×Tp15->Option Tp8:=
  fun rec x=>zaN b t (fun t_3 l_1=>rec (t_3,l_1)) x.1 x.2
def zbM (b:Tp5) (t:Tp11) (t_3:Int) (l_1:Tp15):Option Tp8:=LFix (zez b t ) (t_3,l_1)
def zaT (b:Tp5) (t:Tp11) (letter:Int) (r3:Int->Tp15->Option Tp8) (t_1:Int) (l:Tp15):Option Tp8:=
  if (decide (t_1 < t.1))=true then
  G (0<=t_1/\t_1 < (4:Int)) (
  G ((t_1).toNat < 4) (
  zbd b t letter t_1 l r3 (0:Int) (0:Int) ([t.2.2.1.1,t.2.2.1.2.1,t.2.2.1.2.2.1,t.2.2.1.2.2.2.1].getD ((t_1).toNat) 0) true false false)) else
  zbM b t (0:Int) l
def ze8 (b:Tp5) (t:Tp11) (letter:Int):(Int×Tp15->Option Tp8)->Int×Tp15->Option Tp8:=
  fun rec x=>zaT b t letter (fun t_1 l=>rec (t_1,l)) x.1 x.2
def zbU (b:Tp5) (t:Tp11) (letter t_1:Int) (l:Tp15):Option Tp8:=LFix (ze8 b t letter ) (t_1,l)
def zbZ (b:Tp5) (t:Tp11) (letter:Int):Option Tp8:=
  zbU b t letter (0:Int) ([])
theorem ziM (r7:Nat->Tf7) (r7':Tf7) (h_r7:∀ a0 a1 a2 a3 a4 a5,ChO (fun κ=>r7 κ a0 a1 a2 a3 a4 a5) (r7' a0 a1 a2 a3 a4 a5)) (t_2 x'_5 x'_6 x'_7 x'_8 x'_9):ChO (fun κ=>zbn t_2 (r7 κ) x'_5 x'_6 x'_7 x'_8 x'_9) (zbn t_2 r7' x'_5 x'_6 x'_7 x'_8 x'_9):=by
  unfold zbn
  repeat' with_reducible first | exact ChO.const _ | exact h_r7 _ _ _ _ _ _ | apply ChO.G
theorem zd0 (r3:Nat->Int->Tp15->Option Tp8) (r3':Int->Tp15->Option Tp8) (h_r3:∀ a0 a1,ChO (fun κ=>r3 κ a0 a1) (r3' a0 a1)) (r7:Nat->Tf7) (r7':Tf7) (h_r7:∀ a0 a1 a2 a3 a4 a5,ChO (fun κ=>r7 κ a0 a1 a2 a3 a4 a5) (r7' a0 a1 a2 a3 a4 a5)) (b t letter t_1 l t_2 x' x'_1 x'_2 x'_3 x'_4):ChO (fun κ=>zaU b t letter t_1 l (r3 κ) (r7 κ) t_2 x' x'_1 x'_2 x'_3 x'_4) (zaU b t letter t_1 l r3' r7' t_2 x' x'_1 x'_2 x'_3 x'_4):=by
  unfold zaU
  repeat' with_reducible first | exact ChO.const _ | exact h_r3 _ _ | exact h_r7 _ _ _ _ _ _ | (apply ziM<;>assumption) | apply ChO.ite | apply ChO.G
theorem zcX (r3 b t letter t_1 l):Cn (ze9 b t letter t_1 l r3):=fun g h hg x=>zd0 (fun _=>r3) r3 (fun _ _=>ChO.const _) _ _ (fun a0 a1 a2 a3 a4 a5=>hg (a0,a1,a2,a3,a4,a5)) b t letter t_1 l x.1 x.2.1 x.2.2.1 x.2.2.2.1 x.2.2.2.2.1 x.2.2.2.2.2
theorem zeD (r3 b t letter t_1 l t_2 x' x'_1 x'_2 x'_3 x'_4):zbd b t letter t_1 l r3 t_2 x' x'_1 x'_2 x'_3 x'_4=zaU b t letter t_1 l r3 (zbd b t letter t_1 l r3) t_2 x' x'_1 x'_2 x'_3 x'_4:=zaj (zcX r3 b t letter t_1 l) (t_2,x',x'_1,x'_2,x'_3,x'_4)
theorem zjG (r3:Nat->Int->Tp15->Option Tp8) (r3':Int->Tp15->Option Tp8) (h_r3:∀ a0 a1,ChO (fun κ=>r3 κ a0 a1) (r3' a0 a1)) (b t letter t_1 l t_2 x' x'_1 x'_2 x'_3 x'_4):ChO (fun κ=>zbd b t letter t_1 l (r3 κ) t_2 x' x'_1 x'_2 x'_3 x'_4) (zbd b t letter t_1 l r3' t_2 x' x'_1 x'_2 x'_3 x'_4):=by
  unfold zbd
  exact zdp (fun κ=>(zcX (r3 κ) b t letter t_1 l).mono) (zcX r3' b t letter t_1 l).mono (fun g h hg x=>zd0 r3 r3' h_r3 _ _ (fun a0 a1 a2 a3 a4 a5=>hg (a0,a1,a2,a3,a4,a5)) b t letter t_1 l x.1 x.2.1 x.2.2.1 x.2.2.2.1 x.2.2.2.2.1 x.2.2.2.2.2) _
theorem ziN (r27:Nat->Int->Int->Option Tp8) (r27':Int->Int->Option Tp8) (h_r27:∀ a0 a1,ChO (fun κ=>r27 κ a0 a1) (r27' a0 a1)) (l_2 kids t_5 t_6):ChO (fun κ=>zbo l_2 kids t_5 (r27 κ) t_6) (zbo l_2 kids t_5 r27' t_6):=by
  unfold zbo
  repeat' with_reducible first | exact ChO.const _ | exact h_r27 _ _ | apply ChO.ite | apply ChO.G
theorem ziO (r23:Nat->Int->Tp15->Option Tp8) (r23':Int->Tp15->Option Tp8) (h_r23:∀ a0 a1,ChO (fun κ=>r23 κ a0 a1) (r23' a0 a1)) (t_4 l_2 t_7):ChO (fun κ=>zaD t_4 l_2 (r23 κ) t_7) (zaD t_4 l_2 r23' t_7):=by
  unfold zaD
  repeat' with_reducible first | exact ChO.const _ | exact h_r23 _ _ | apply ChO.ite | apply ChO.G | (apply ChO.bind;intro _)
theorem zdL (r23:Nat->Int->Tp15->Option Tp8) (r23':Int->Tp15->Option Tp8) (h_r23:∀ a0 a1,ChO (fun κ=>r23 κ a0 a1) (r23' a0 a1)) (r27:Nat->Int->Int->Option Tp8) (r27':Int->Int->Option Tp8) (h_r27:∀ a0 a1,ChO (fun κ=>r27 κ a0 a1) (r27' a0 a1)) (t_4 l_2 kids t_5):ChO (fun κ=>zaP t_4 l_2 (r23 κ) (r27 κ) kids t_5) (zaP t_4 l_2 r23' r27' kids t_5):=by
  unfold zaP
  repeat' with_reducible first | exact ChO.const _ | exact h_r23 _ _ | exact h_r27 _ _ | (apply ziN<;>assumption) | (apply ziO<;>assumption) | apply ChO.ite | apply ChO.G
theorem zcL (r23 t_4 l_2):Cn (zeB t_4 l_2 r23):=fun g h hg x=>zdL (fun _=>r23) r23 (fun _ _=>ChO.const _) _ _ (fun a0 a1=>hg (a0,a1)) t_4 l_2 x.1 x.2
theorem zd8 (r23 t_4 l_2 kids t_5):za3 t_4 l_2 r23 kids t_5=zaP t_4 l_2 r23 (za3 t_4 l_2 r23) kids t_5:=zaj (zcL r23 t_4 l_2) (kids,t_5)
theorem ziR (r23:Nat->Int->Tp15->Option Tp8) (r23':Int->Tp15->Option Tp8) (h_r23:∀ a0 a1,ChO (fun κ=>r23 κ a0 a1) (r23' a0 a1)) (t_4 l_2 kids t_5):ChO (fun κ=>za3 t_4 l_2 (r23 κ) kids t_5) (za3 t_4 l_2 r23' kids t_5):=by
  unfold za3
  exact zdp (fun κ=>(zcL (r23 κ) t_4 l_2).mono) (zcL r23' t_4 l_2).mono (fun g h hg x=>zdL r23 r23' h_r23 _ _ (fun a0 a1=>hg (a0,a1)) t_4 l_2 x.1 x.2) _
theorem zhM (r23:Nat->Int->Tp15->Option Tp8) (r23':Int->Tp15->Option Tp8) (h_r23:∀ a0 a1,ChO (fun κ=>r23 κ a0 a1) (r23' a0 a1)) (y' t_4 l_2):ChO (fun κ=>zaO y' (r23 κ) t_4 l_2) (zaO y' r23' t_4 l_2):=by
  unfold zaO
  repeat' with_reducible first | exact ChO.const _ | exact h_r23 _ _ | (apply ziR<;>assumption) | apply ChO.ite | (apply ChO.bind;intro _)
theorem ziQ (y'):Cn (zeA y'):=fun g h hg x=>zhM  _ _ (fun a0 a1=>hg (a0,a1)) y' x.1 x.2
theorem zd7 (y' t_4 l_2):zaE y' t_4 l_2=zaO y' (zaE y') t_4 l_2:=zaj (ziQ y') (t_4,l_2)
theorem zhL (r15:Nat->Int->Tp15->Option Tp8) (r15':Int->Tp15->Option Tp8) (h_r15:∀ a0 a1,ChO (fun κ=>r15 κ a0 a1) (r15' a0 a1)) (b t t_3 l_1):ChO (fun κ=>zaN b t (r15 κ) t_3 l_1) (zaN b t r15' t_3 l_1):=by
  unfold zaN
  repeat' with_reducible first | exact ChO.const _ | exact h_r15 _ _ | apply ChO.ite | apply ChO.G | (apply ChO.bind;intro _)
theorem ziP (b t):Cn (zez b t):=fun g h hg x=>zhL  _ _ (fun a0 a1=>hg (a0,a1)) b t x.1 x.2
theorem zd6 (b t t_3 l_1):zbM b t t_3 l_1=zaN b t (zbM b t) t_3 l_1:=zaj (ziP b t) (t_3,l_1)
theorem zh4 (r3:Nat->Int->Tp15->Option Tp8) (r3':Int->Tp15->Option Tp8) (h_r3:∀ a0 a1,ChO (fun κ=>r3 κ a0 a1) (r3' a0 a1)) (b t letter t_1 l):ChO (fun κ=>zaT b t letter (r3 κ) t_1 l) (zaT b t letter r3' t_1 l):=by
  unfold zaT
  repeat' with_reducible first | exact ChO.const _ | exact h_r3 _ _ | (apply zjG<;>assumption) | apply ChO.ite | apply ChO.G
theorem zjF (b t letter):Cn (ze8 b t letter):=fun g h hg x=>zh4  _ _ (fun a0 a1=>hg (a0,a1)) b t letter x.1 x.2
theorem zeC (b t letter t_1 l):zbU b t letter t_1 l=zaT b t letter (zbU b t letter) t_1 l:=zaj (zjF b t letter) (t_1,l)

def zbB (p:Tp8) (letter:Int) (c:Tp5):Option (Tp8×Tp6×Int×Unit):=
  if (decide (p.1.1=(0:Int)))=true then
  some ((((0:Int),(((0:Int),((0:Int),((0:Int),((0:Int),())))),(((0:Int),((0:Int),((0:Int),((0:Int),())))),()))),((1:Int),())),c) else
  (zbZ c (p.1.1,((p.1.2.1.1,(p.1.2.1.2.1,(p.1.2.1.2.2.1,(p.1.2.1.2.2.2.1,())))),((p.1.2.2.1.1,(p.1.2.2.1.2.1,(p.1.2.2.1.2.2.1,(p.1.2.2.1.2.2.2.1,())))),()))) letter).bind (fun y'=>
  some (((y'.1.1,((y'.1.2.1.1,(y'.1.2.1.2.1,(y'.1.2.1.2.2.1,(y'.1.2.1.2.2.2.1,())))),((y'.1.2.2.1.1,(y'.1.2.2.1.2.1,(y'.1.2.2.1.2.2.1,(y'.1.2.2.1.2.2.2.1,())))),()))),(y'.2.1,())),c))

def zdz (p:Tp8):Option (Int):=
  some p.2.1

def zcS (t:Int) (row:Tp27) (r8:(Int->Tp5->Tp7->Tp27->Tp7->Tp27->Option Tp2)) (y'_1:Tp5) (n:Int) (number_4:Tp7) (number_5:Tp27) (l_4:Tp7):Option Tp2:=
  G (0<=t/\t < (row.length:Int)) (
  G ((t).toNat < row.length) (
  G (fits (t+(1:Int))) (
  r8 (t+(1:Int)) y'_1 number_4 number_5 l_4 (row.set (t).toNat n))))
def zb2 (letters most d d_1:Int) (l_1:Tp7) (d_2:Tp25) (d_3:Tp27) (r4:(Tp5->Int->Int->Tp7->Tp27->Tp7->Tp25->Tp27->Option Tp2)) (r8:Tf8) (t:Int) (l_2:Tp5) (number_2:Tp7) (number_3:Tp27) (l_3:Tp7) (row:Tp27):Option Tp2:=
  if (decide (t < letters))=true then
  (zbB ((((ix l_1 (d_2.length:Int)).1).1,((((((ix l_1 (d_2.length:Int)).1).2).1).1,((((((ix l_1 (d_2.length:Int)).1).2).1).2).1,(((((((ix l_1 (d_2.length:Int)).1).2).1).2).2).1,((((((((ix l_1 (d_2.length:Int)).1).2).1).2).2).2).1,())))),(((((((ix l_1 (d_2.length:Int)).1).2).2).1).1,(((((((ix l_1 (d_2.length:Int)).1).2).2).1).2).1,((((((((ix l_1 (d_2.length:Int)).1).2).2).1).2).2).1,(((((((((ix l_1 (d_2.length:Int)).1).2).2).1).2).2).2).1,())))),()))),(((ix l_1 (d_2.length:Int)).2).1,())) t l_2).bind (fun y'_3=>
  if (!(mhas number_2 ((y'_3.1.1.1,((y'_3.1.1.2.1.1,(y'_3.1.1.2.1.2.1,(y'_3.1.1.2.1.2.2.1,(y'_3.1.1.2.1.2.2.2.1,())))),((y'_3.1.1.2.2.1.1,(y'_3.1.1.2.2.1.2.1,(y'_3.1.1.2.2.1.2.2.1,(y'_3.1.1.2.2.1.2.2.2.1,())))),()))),(y'_3.1.2.1,()))))=true then
  if (decide ((l_3.length:Int)=most))=true then
  some (((0:Int),((0:Int),([],([],())))),false,y'_3.2) else
  G (room l_3 ([((y'_3.1.1.1,((y'_3.1.1.2.1.1,(y'_3.1.1.2.1.2.1,(y'_3.1.1.2.1.2.2.1,(y'_3.1.1.2.1.2.2.2.1,())))),((y'_3.1.1.2.2.1.1,(y'_3.1.1.2.2.1.2.1,(y'_3.1.1.2.2.1.2.2.1,(y'_3.1.1.2.2.1.2.2.2.1,())))),()))),(y'_3.1.2.1,()))]) 80) (
  zcS t row r8 y'_3.2 (l_3.length:Int) (znl number_2 ((y'_3.1.1.1,((y'_3.1.1.2.1.1,(y'_3.1.1.2.1.2.1,(y'_3.1.1.2.1.2.2.1,(y'_3.1.1.2.1.2.2.2.1,())))),((y'_3.1.1.2.2.1.1,(y'_3.1.1.2.2.1.2.1,(y'_3.1.1.2.2.1.2.2.1,(y'_3.1.1.2.2.1.2.2.2.1,())))),()))),(y'_3.1.2.1,()))) (znm number_2 number_3 ((y'_3.1.1.1,((y'_3.1.1.2.1.1,(y'_3.1.1.2.1.2.1,(y'_3.1.1.2.1.2.2.1,(y'_3.1.1.2.1.2.2.2.1,())))),((y'_3.1.1.2.2.1.1,(y'_3.1.1.2.2.1.2.1,(y'_3.1.1.2.2.1.2.2.1,(y'_3.1.1.2.2.1.2.2.2.1,())))),()))),(y'_3.1.2.1,())) (l_3.length:Int)) (l_3++([((y'_3.1.1.1,((y'_3.1.1.2.1.1,(y'_3.1.1.2.1.2.1,(y'_3.1.1.2.1.2.2.1,(y'_3.1.1.2.1.2.2.2.1,())))),((y'_3.1.1.2.2.1.1,(y'_3.1.1.2.2.1.2.1,(y'_3.1.1.2.2.1.2.2.1,(y'_3.1.1.2.2.1.2.2.2.1,())))),()))),(y'_3.1.2.1,()))]))) else
  zcS t row r8 y'_3.2 (mget number_2 number_3 ((y'_3.1.1.1,((y'_3.1.1.2.1.1,(y'_3.1.1.2.1.2.1,(y'_3.1.1.2.1.2.2.1,(y'_3.1.1.2.1.2.2.2.1,())))),((y'_3.1.1.2.2.1.1,(y'_3.1.1.2.2.1.2.1,(y'_3.1.1.2.2.1.2.2.1,(y'_3.1.1.2.2.1.2.2.2.1,())))),()))),(y'_3.1.2.1,())) (0:Int)) number_2 number_3 l_3) else
  G (room d_2 ([row]) 24) (
  (zdz ((((ix l_1 (d_2.length:Int)).1).1,((((((ix l_1 (d_2.length:Int)).1).2).1).1,((((((ix l_1 (d_2.length:Int)).1).2).1).2).1,(((((((ix l_1 (d_2.length:Int)).1).2).1).2).2).1,((((((((ix l_1 (d_2.length:Int)).1).2).1).2).2).2).1,())))),(((((((ix l_1 (d_2.length:Int)).1).2).2).1).1,(((((((ix l_1 (d_2.length:Int)).1).2).2).1).2).1,((((((((ix l_1 (d_2.length:Int)).1).2).2).1).2).2).1,(((((((((ix l_1 (d_2.length:Int)).1).2).2).1).2).2).2).1,())))),()))),(((ix l_1 (d_2.length:Int)).2).1,()))).bind (fun y'_4=>
  G (room d_3 ([y'_4]) 8) (
  r4 l_2 d d_1 number_2 number_3 l_3 (d_2++([row])) (d_3++([y'_4])))))
def zkx (letters most d d_1:Int) (l_1:Tp7) (d_2:Tp25) (d_3:Tp27) (r4:(Tp5->Int->Int->Tp7->Tp27->Tp7->Tp25->Tp27->Option Tp2)):(Int×Tp5×Tp7×Tp27×Tp7×Tp27->Option Tp2)->Int×Tp5×Tp7×Tp27×Tp7×Tp27->Option Tp2:=
  fun rec x=>zb2 letters most d d_1 l_1 d_2 d_3 r4 (fun t l_2 number_2 number_3 l_3 row=>rec (t,l_2,number_2,number_3,l_3,row)) x.1 x.2.1 x.2.2.1 x.2.2.2.1 x.2.2.2.2.1 x.2.2.2.2.2
def zbv (letters most d d_1:Int) (l_1:Tp7) (d_2:Tp25) (d_3:Tp27) (r4:(Tp5->Int->Int->Tp7->Tp27->Tp7->Tp25->Tp27->Option Tp2)) (t:Int) (l_2:Tp5) (number_2:Tp7) (number_3:Tp27) (l_3:Tp7) (row:Tp27):Option Tp2:=LFix (zkx letters most d d_1 l_1 d_2 d_3 r4 ) (t,l_2,number_2,number_3,l_3,row)
def zb1 (letters most:Int) (r4:Tf4) (l:Tp5) (d d_1:Int) (number:Tp7) (number_1:Tp27) (l_1:Tp7) (d_2:Tp25) (d_3:Tp27):Option Tp2:=
  if (decide ((d_2.length:Int) < (l_1.length:Int)))=true then
  G (0<=(d_2.length:Int)/\(d_2.length:Int) < (l_1.length:Int)) (
  G (((d_2.length:Int)).toNat < l_1.length) (
  G (mkOK letters letters 8) (
  zbv letters most d d_1 l_1 d_2 d_3 r4 (0:Int) l number number_1 l_1 (List.replicate (letters).toNat (0:Int))))) else
  some ((d,(d_1,(d_2,(d_3,())))),true,l)
def zkw (letters most:Int):(Tp5×Int×Int×Tp7×Tp27×Tp7×Tp25×Tp27->Option Tp2)->Tp5×Int×Int×Tp7×Tp27×Tp7×Tp25×Tp27->Option Tp2:=
  fun rec x=>zb1 letters most (fun l d d_1 number number_1 l_1 d_2 d_3=>rec (l,d,d_1,number,number_1,l_1,d_2,d_3)) x.1 x.2.1 x.2.2.1 x.2.2.2.1 x.2.2.2.2.1 x.2.2.2.2.2.1 x.2.2.2.2.2.2.1 x.2.2.2.2.2.2.2
def zf5 (letters most:Int) (l:Tp5) (d d_1:Int) (number:Tp7) (number_1:Tp27) (l_1:Tp7) (d_2:Tp25) (d_3:Tp27):Option Tp2:=LFix (zkw letters most ) (l,d,d_1,number,number_1,l_1,d_2,d_3)
def zhk (letters:Int) (first:Tp8) (most:Int) (c:Tp5):Option Tp2:=
  zf5 letters most c letters (0:Int) (znl ([]:List Tp8) ((first.1.1,((first.1.2.1.1,(first.1.2.1.2.1,(first.1.2.1.2.2.1,(first.1.2.1.2.2.2.1,())))),((first.1.2.2.1.1,(first.1.2.2.1.2.1,(first.1.2.2.1.2.2.1,(first.1.2.2.1.2.2.2.1,())))),()))),(first.2.1,()))) (znm ([]:List Tp8) ([]:List Int) ((first.1.1,((first.1.2.1.1,(first.1.2.1.2.1,(first.1.2.1.2.2.1,(first.1.2.1.2.2.2.1,())))),((first.1.2.2.1.1,(first.1.2.2.1.2.1,(first.1.2.2.1.2.2.1,(first.1.2.2.1.2.2.2.1,())))),()))),(first.2.1,())) (0:Int)) ([((first.1.1,((first.1.2.1.1,(first.1.2.1.2.1,(first.1.2.1.2.2.1,(first.1.2.1.2.2.2.1,())))),((first.1.2.2.1.1,(first.1.2.2.1.2.1,(first.1.2.2.1.2.2.1,(first.1.2.2.1.2.2.2.1,())))),()))),(first.2.1,()))]) ([]:List Tp27) ([]:List Int)
theorem znM (r8:Nat->Tf8) (r8':Tf8) (h_r8:∀ a0 a1 a2 a3 a4 a5,ChO (fun κ=>r8 κ a0 a1 a2 a3 a4 a5) (r8' a0 a1 a2 a3 a4 a5)) (t row y'_1 n number_4 number_5 l_4):ChO (fun κ=>zcS t row (r8 κ) y'_1 n number_4 number_5 l_4) (zcS t row r8' y'_1 n number_4 number_5 l_4):=by
  unfold zcS
  repeat' with_reducible first | exact ChO.const _ | exact h_r8 _ _ _ _ _ _ | apply ChO.G
theorem zhm (r4:Nat->Tf4) (r4':Tf4) (h_r4:∀ a0 a1 a2 a3 a4 a5 a6 a7,ChO (fun κ=>r4 κ a0 a1 a2 a3 a4 a5 a6 a7) (r4' a0 a1 a2 a3 a4 a5 a6 a7)) (r8:Nat->Tf8) (r8':Tf8) (h_r8:∀ a0 a1 a2 a3 a4 a5,ChO (fun κ=>r8 κ a0 a1 a2 a3 a4 a5) (r8' a0 a1 a2 a3 a4 a5)) (letters most d d_1 l_1 d_2 d_3 t l_2 number_2 number_3 l_3 row):ChO (fun κ=>zb2 letters most d d_1 l_1 d_2 d_3 (r4 κ) (r8 κ) t l_2 number_2 number_3 l_3 row) (zb2 letters most d d_1 l_1 d_2 d_3 r4' r8' t l_2 number_2 number_3 l_3 row):=by
  unfold zb2
  repeat' with_reducible first | exact ChO.const _ | exact h_r4 _ _ _ _ _ _ _ _ | exact h_r8 _ _ _ _ _ _ | (apply znM<;>assumption) | apply ChO.ite | apply ChO.G | (apply ChO.bind;intro _)
theorem zfT (r4 letters most d d_1 l_1 d_2 d_3):Cn (zkx letters most d d_1 l_1 d_2 d_3 r4):=fun g h hg x=>zhm (fun _=>r4) r4 (fun _ _ _ _ _ _ _ _=>ChO.const _) _ _ (fun a0 a1 a2 a3 a4 a5=>hg (a0,a1,a2,a3,a4,a5)) letters most d d_1 l_1 d_2 d_3 x.1 x.2.1 x.2.2.1 x.2.2.2.1 x.2.2.2.2.1 x.2.2.2.2.2
theorem zjb (r4 letters most d d_1 l_1 d_2 d_3 t l_2 number_2 number_3 l_3 row):zbv letters most d d_1 l_1 d_2 d_3 r4 t l_2 number_2 number_3 l_3 row=zb2 letters most d d_1 l_1 d_2 d_3 r4 (zbv letters most d d_1 l_1 d_2 d_3 r4) t l_2 number_2 number_3 l_3 row:=zaj (zfT r4 letters most d d_1 l_1 d_2 d_3) (t,l_2,number_2,number_3,l_3,row)
theorem zoP (r4:Nat->Tf4) (r4':Tf4) (h_r4:∀ a0 a1 a2 a3 a4 a5 a6 a7,ChO (fun κ=>r4 κ a0 a1 a2 a3 a4 a5 a6 a7) (r4' a0 a1 a2 a3 a4 a5 a6 a7)) (letters most d d_1 l_1 d_2 d_3 t l_2 number_2 number_3 l_3 row):ChO (fun κ=>zbv letters most d d_1 l_1 d_2 d_3 (r4 κ) t l_2 number_2 number_3 l_3 row) (zbv letters most d d_1 l_1 d_2 d_3 r4' t l_2 number_2 number_3 l_3 row):=by
  unfold zbv
  exact zdp (fun κ=>(zfT (r4 κ) letters most d d_1 l_1 d_2 d_3).mono) (zfT r4' letters most d d_1 l_1 d_2 d_3).mono (fun g h hg x=>zhm r4 r4' h_r4 _ _ (fun a0 a1 a2 a3 a4 a5=>hg (a0,a1,a2,a3,a4,a5)) letters most d d_1 l_1 d_2 d_3 x.1 x.2.1 x.2.2.1 x.2.2.2.1 x.2.2.2.2.1 x.2.2.2.2.2) _
theorem zng (r4:Nat->Tf4) (r4':Tf4) (h_r4:∀ a0 a1 a2 a3 a4 a5 a6 a7,ChO (fun κ=>r4 κ a0 a1 a2 a3 a4 a5 a6 a7) (r4' a0 a1 a2 a3 a4 a5 a6 a7)) (letters most l d d_1 number number_1 l_1 d_2 d_3):ChO (fun κ=>zb1 letters most (r4 κ) l d d_1 number number_1 l_1 d_2 d_3) (zb1 letters most r4' l d d_1 number number_1 l_1 d_2 d_3):=by
  unfold zb1
  repeat' with_reducible first | exact ChO.const _ | exact h_r4 _ _ _ _ _ _ _ _ | (apply zoP<;>assumption) | apply ChO.ite | apply ChO.G
theorem zoO (letters most):Cn (zkw letters most):=fun g h hg x=>zng  _ _ (fun a0 a1 a2 a3 a4 a5 a6 a7=>hg (a0,a1,a2,a3,a4,a5,a6,a7)) letters most x.1 x.2.1 x.2.2.1 x.2.2.2.1 x.2.2.2.2.1 x.2.2.2.2.2.1 x.2.2.2.2.2.2.1 x.2.2.2.2.2.2.2
theorem zja (letters most l d d_1 number number_1 l_1 d_2 d_3):zf5 letters most l d d_1 number number_1 l_1 d_2 d_3=zb1 letters most (zf5 letters most) l d d_1 number number_1 l_1 d_2 d_3:=zaj (zoO letters most) (l,d,d_1,number,number_1,l_1,d_2,d_3)

def zis (s:Tp27):Option Tp27:=
  if s.length=0 then both [(.list (.int .i64))] (
  some ([])) (
  G (room ([]:List Int) s 8) (
  some (([]:List Int)++s))) else
  G (room ([]:List Int) s 8) (
  some (([]:List Int)++s))

def zbx (class':Tp27) (t:Int) (next':Tp27) (r6:(Int->(List (Int×(List UInt8)×Unit))->Tp27->Tp27->Option Tp27)) (b:Tp27) (number_2:(List (Int×(List UInt8)×Unit))) (number_3:Tp27):Option Tp27:=
  G (0<=t/\t < (next'.length:Int)) (
  G ((t).toNat < next'.length) (
  G (fits (t+(1:Int))) (
  r6 (t+(1:Int)) number_2 number_3 (next'.set (t).toNat (mget number_2 number_3 (ix class' t,(bstr b,())) (0:Int))))))
def zbP (d:Tp13) (class':Tp27) (t:Int) (number:(List (Int×(List UInt8)×Unit))) (number_1 next':Tp27) (r6:(Int->(List (Int×(List UInt8)×Unit))->Tp27->Tp27->Option Tp27)) (r10:Int->Tp27->Option Tp27) (t_1:Int) (b:Tp27):Option Tp27:=
  if (decide (t_1 < ((ix d.2.2.1 t).length:Int)))=true then
  G (0<=t_1/\t_1 < ((ix d.2.2.1 t).length:Int)) (
  G (0<=ix (ix d.2.2.1 t) t_1/\ix (ix d.2.2.1 t) t_1 < (class'.length:Int)) (
  G ((ix (ix d.2.2.1 t) t_1).toNat < class'.length) (
  G (0<=ix (ix d.2.2.1 t) t_1/\ix (ix d.2.2.1 t) t_1 < (class'.length:Int)) (
  G ((ix (ix d.2.2.1 t) t_1).toNat < class'.length) (
  G (0<=(8:Int)) (
  G (room b ([IntKind.wrap .u8 (ix class' (ix (ix d.2.2.1 t) t_1)),IntKind.wrap .u8 (ishr .i64 (ix class' (ix (ix d.2.2.1 t) t_1)) (8:Int))]) 1) (
  G (fits (t_1+(1:Int))) (
  r10 (t_1+(1:Int)) (b++([IntKind.wrap .u8 (ix class' (ix (ix d.2.2.1 t) t_1)),IntKind.wrap .u8 (ishr .i64 (ix class' (ix (ix d.2.2.1 t) t_1)) (8:Int))])))))))))) else
  G (0<=t/\t < (class'.length:Int)) (
  G ((t).toNat < class'.length) (
  if (!(mhas number (ix class' t,(bstr b,()))))=true then
  zbx class' t next' r6 b (znl number (ix class' t,(bstr b,()))) (znm number number_1 (ix class' t,(bstr b,())) (number.length:Int)) else
  zbx class' t next' r6 b number number_1))
def zi6 (d:Tp13) (class':Tp27) (t:Int) (number:(List (Int×(List UInt8)×Unit))) (number_1 next':Tp27) (r6:(Int->(List (Int×(List UInt8)×Unit))->Tp27->Tp27->Option Tp27)):(Int×Tp27->Option Tp27)->Int×Tp27->Option Tp27:=
  fun rec x=>zbP d class' t number number_1 next' r6 (fun t_1 b=>rec (t_1,b)) x.1 x.2
def zby (d:Tp13) (class':Tp27) (t:Int) (number:(List (Int×(List UInt8)×Unit))) (number_1 next':Tp27) (r6:(Int->(List (Int×(List UInt8)×Unit))->Tp27->Tp27->Option Tp27)) (t_1:Int) (b:Tp27):Option Tp27:=LFix (zi6 d class' t number number_1 next' r6 ) (t_1,b)
def zb0 (d:Tp13) (count:Int) (class':Tp27) (r3:(Int->Tp27->Option Tp27)) (r6:Int->(List (Int×(List UInt8)×Unit))->Tp27->Tp27->Option Tp27) (t:Int) (number:(List (Int×(List UInt8)×Unit))) (number_1 next':Tp27):Option Tp27:=
  if (decide (t < (d.2.2.1.length:Int)))=true then
  G (0<=t/\t < (d.2.2.1.length:Int)) (
  zby d class' t number number_1 next' r6 (0:Int) ([])) else
  if (decide ((number.length:Int)=count))=true then
  some next' else
  r3 (number.length:Int) next'
def zku (d:Tp13) (count:Int) (class':Tp27) (r3:(Int->Tp27->Option Tp27)):(Int×(List (Int×(List UInt8)×Unit))×Tp27×Tp27->Option Tp27)->Int×(List (Int×(List UInt8)×Unit))×Tp27×Tp27->Option Tp27:=
  fun rec x=>zb0 d count class' r3 (fun t number number_1 next'=>rec (t,number,number_1,next')) x.1 x.2.1 x.2.2.1 x.2.2.2
def zce (d:Tp13) (count:Int) (class':Tp27) (r3:(Int->Tp27->Option Tp27)) (t:Int) (number:(List (Int×(List UInt8)×Unit))) (number_1 next':Tp27):Option Tp27:=LFix (zku d count class' r3 ) (t,number,number_1,next')
def zcz (d:Tp13) (r3:Int->Tp27->Option Tp27) (count:Int) (class':Tp27):Option Tp27:=
  G (mkOK (class'.length:Int) (class'.length:Int) 8) (
  zce d count class' r3 (0:Int) ([]:List (Int×(List UInt8)×Unit)) ([]:List Int) (List.replicate ((class'.length:Int)).toNat (0:Int)))
def zkt (d:Tp13):(Int×Tp27->Option Tp27)->Int×Tp27->Option Tp27:=
  fun rec x=>zcz d (fun count class'=>rec (count,class')) x.1 x.2
def zdo (d:Tp13) (count:Int) (class':Tp27):Option Tp27:=LFix (zkt d ) (count,class')
def zjX (d:Tp13):Option Tp27:=
  (zis d.2.2.2.1).bind (fun y'=>
  zdo d (0:Int) y')
theorem znK (r6:Nat->Int->(List (Int×(List UInt8)×Unit))->Tp27->Tp27->Option Tp27) (r6':Int->(List (Int×(List UInt8)×Unit))->Tp27->Tp27->Option Tp27) (h_r6:∀ a0 a1 a2 a3,ChO (fun κ=>r6 κ a0 a1 a2 a3) (r6' a0 a1 a2 a3)) (class' t next' b number_2 number_3):ChO (fun κ=>zbx class' t next' (r6 κ) b number_2 number_3) (zbx class' t next' r6' b number_2 number_3):=by
  unfold zbx
  repeat' with_reducible first | exact ChO.const _ | exact h_r6 _ _ _ _ | apply ChO.G
theorem zgN (r6:Nat->Int->(List (Int×(List UInt8)×Unit))->Tp27->Tp27->Option Tp27) (r6':Int->(List (Int×(List UInt8)×Unit))->Tp27->Tp27->Option Tp27) (h_r6:∀ a0 a1 a2 a3,ChO (fun κ=>r6 κ a0 a1 a2 a3) (r6' a0 a1 a2 a3)) (r10:Nat->Int->Tp27->Option Tp27) (r10':Int->Tp27->Option Tp27) (h_r10:∀ a0 a1,ChO (fun κ=>r10 κ a0 a1) (r10' a0 a1)) (d class' t number number_1 next' t_1 b):ChO (fun κ=>zbP d class' t number number_1 next' (r6 κ) (r10 κ) t_1 b) (zbP d class' t number number_1 next' r6' r10' t_1 b):=by
  unfold zbP
  repeat' with_reducible first | exact ChO.const _ | exact h_r6 _ _ _ _ | exact h_r10 _ _ | (apply znK<;>assumption) | apply ChO.ite | apply ChO.G
theorem zeK (r6 d class' t number number_1 next'):Cn (zi6 d class' t number number_1 next' r6):=fun g h hg x=>zgN (fun _=>r6) r6 (fun _ _ _ _=>ChO.const _) _ _ (fun a0 a1=>hg (a0,a1)) d class' t number number_1 next' x.1 x.2
theorem zib (r6 d class' t number number_1 next' t_1 b):zby d class' t number number_1 next' r6 t_1 b=zbP d class' t number number_1 next' r6 (zby d class' t number number_1 next' r6) t_1 b:=zaj (zeK r6 d class' t number number_1 next') (t_1,b)
theorem znL (r6:Nat->Int->(List (Int×(List UInt8)×Unit))->Tp27->Tp27->Option Tp27) (r6':Int->(List (Int×(List UInt8)×Unit))->Tp27->Tp27->Option Tp27) (h_r6:∀ a0 a1 a2 a3,ChO (fun κ=>r6 κ a0 a1 a2 a3) (r6' a0 a1 a2 a3)) (d class' t number number_1 next' t_1 b):ChO (fun κ=>zby d class' t number number_1 next' (r6 κ) t_1 b) (zby d class' t number number_1 next' r6' t_1 b):=by
  unfold zby
  exact zdp (fun κ=>(zeK (r6 κ) d class' t number number_1 next').mono) (zeK r6' d class' t number number_1 next').mono (fun g h hg x=>zgN r6 r6' h_r6 _ _ (fun a0 a1=>hg (a0,a1)) d class' t number number_1 next' x.1 x.2) _
theorem zhj (r3:Nat->Int->Tp27->Option Tp27) (r3':Int->Tp27->Option Tp27) (h_r3:∀ a0 a1,ChO (fun κ=>r3 κ a0 a1) (r3' a0 a1)) (r6:Nat->Int->(List (Int×(List UInt8)×Unit))->Tp27->Tp27->Option Tp27) (r6':Int->(List (Int×(List UInt8)×Unit))->Tp27->Tp27->Option Tp27) (h_r6:∀ a0 a1 a2 a3,ChO (fun κ=>r6 κ a0 a1 a2 a3) (r6' a0 a1 a2 a3)) (d count class' t number number_1 next'):ChO (fun κ=>zb0 d count class' (r3 κ) (r6 κ) t number number_1 next') (zb0 d count class' r3' r6' t number number_1 next'):=by
  unfold zb0
  repeat' with_reducible first | exact ChO.const _ | exact h_r3 _ _ | exact h_r6 _ _ _ _ | (apply znL<;>assumption) | apply ChO.ite | apply ChO.G
theorem zfS (r3 d count class'):Cn (zku d count class' r3):=fun g h hg x=>zhj (fun _=>r3) r3 (fun _ _=>ChO.const _) _ _ (fun a0 a1 a2 a3=>hg (a0,a1,a2,a3)) d count class' x.1 x.2.1 x.2.2.1 x.2.2.2
theorem zi7 (r3 d count class' t number number_1 next'):zce d count class' r3 t number number_1 next'=zb0 d count class' r3 (zce d count class' r3) t number number_1 next':=zaj (zfS r3 d count class') (t,number,number_1,next')
theorem zoN (r3:Nat->Int->Tp27->Option Tp27) (r3':Int->Tp27->Option Tp27) (h_r3:∀ a0 a1,ChO (fun κ=>r3 κ a0 a1) (r3' a0 a1)) (d count class' t number number_1 next'):ChO (fun κ=>zce d count class' (r3 κ) t number number_1 next') (zce d count class' r3' t number number_1 next'):=by
  unfold zce
  exact zdp (fun κ=>(zfS (r3 κ) d count class').mono) (zfS r3' d count class').mono (fun g h hg x=>zhj r3 r3' h_r3 _ _ (fun a0 a1 a2 a3=>hg (a0,a1,a2,a3)) d count class' x.1 x.2.1 x.2.2.1 x.2.2.2) _
theorem znc (r3:Nat->Int->Tp27->Option Tp27) (r3':Int->Tp27->Option Tp27) (h_r3:∀ a0 a1,ChO (fun κ=>r3 κ a0 a1) (r3' a0 a1)) (d count class'):ChO (fun κ=>zcz d (r3 κ) count class') (zcz d r3' count class'):=by
  unfold zcz
  repeat' with_reducible first | exact ChO.const _ | exact h_r3 _ _ | (apply zoN<;>assumption) | apply ChO.G
theorem zoL (d):Cn (zkt d):=fun g h hg x=>znc  _ _ (fun a0 a1=>hg (a0,a1)) d x.1 x.2
theorem zoM (d count class'):zdo d count class'=zcz d (zdo d) count class':=zaj (zoL d) (count,class')

def zf6 (c a:Int) (t:Tp27) (t_1:Tp13) (t_2:Tp27):Option (Int):=
  G (0<=c/\c < (t_2.length:Int)) (
  G (0<=ix t_2 c/\ix t_2 c < (t_1.2.2.1.length:Int)) (
  G (0<=a/\a < ((ix t_1.2.2.1 (ix t_2 c)).length:Int)) (
  G (0<=ix (ix t_1.2.2.1 (ix t_2 c)) a/\ix (ix t_1.2.2.1 (ix t_2 c)) a < (t.length:Int)) (
  some (ix t (ix (ix t_1.2.2.1 (ix t_2 c)) a))))))

def zix (c:Int) (t:Tp13) (t_1:Tp27):Option (Int):=
  G (0<=c/\c < (t_1.length:Int)) (
  G (0<=ix t_1 c/\ix t_1 c < (t.2.2.2.1.length:Int)) (
  some (ix t.2.2.2.1 (ix t_1 c))))

def zcp (t:Int) (row:Tp27) (r8:(Int->Tp27->Tp27->Tp27->Tp27->Option Tp12)) (n:Int) (number_4 number_5 l_2:Tp27):Option Tp12:=
  G (0<=t/\t < (row.length:Int)) (
  G ((t).toNat < row.length) (
  G (fits (t+(1:Int))) (
  r8 (t+(1:Int)) number_4 number_5 l_2 (row.set (t).toNat n))))
def zbz (letters:Int) (c:Tp27) (c_1:Tp13) (c_2:Tp27) (c_3:Tp13) (c_4:Tp27) (most d d_1:Int) (l:Tp27) (d_2:Tp25) (d_3:Tp27) (r4:(Int->Int->Tp27->Tp27->Tp27->Tp25->Tp27->Option Tp12)) (r8:Tf9) (t:Int) (number_2 number_3 l_1 row:Tp27):Option Tp12:=
  if (decide (t < letters))=true then
  (zf6 (ix l (d_2.length:Int)) t c c_1 c_2).bind (fun y'=>
  if (!(mhas number_2 y'))=true then
  if (decide ((l_1.length:Int)=most))=true then
  some (((0:Int),((0:Int),([],([],())))),false) else
  G (room l_1 ([y']) 8) (
  zcp t row r8 (l_1.length:Int) (znl number_2 y') (znm number_2 number_3 y' (l_1.length:Int)) (l_1++([y']))) else
  zcp t row r8 (mget number_2 number_3 y' (0:Int)) number_2 number_3 l_1) else
  G (room d_2 ([row]) 24) (
  (zix (ix l (d_2.length:Int)) c_3 c_4).bind (fun y'_1=>
  G (room d_3 ([y'_1]) 8) (
  r4 d d_1 number_2 number_3 l_1 (d_2++([row])) (d_3++([y'_1])))))
def zid (letters:Int) (c:Tp27) (c_1:Tp13) (c_2:Tp27) (c_3:Tp13) (c_4:Tp27) (most d d_1:Int) (l:Tp27) (d_2:Tp25) (d_3:Tp27) (r4:(Int->Int->Tp27->Tp27->Tp27->Tp25->Tp27->Option Tp12)):(Int×Tp27×Tp27×Tp27×Tp27->Option Tp12)->Int×Tp27×Tp27×Tp27×Tp27->Option Tp12:=
  fun rec x=>zbz letters c c_1 c_2 c_3 c_4 most d d_1 l d_2 d_3 r4 (fun t number_2 number_3 l_1 row=>rec (t,number_2,number_3,l_1,row)) x.1 x.2.1 x.2.2.1 x.2.2.2.1 x.2.2.2.2
def zbf (letters:Int) (c:Tp27) (c_1:Tp13) (c_2:Tp27) (c_3:Tp13) (c_4:Tp27) (most d d_1:Int) (l:Tp27) (d_2:Tp25) (d_3:Tp27) (r4:(Int->Int->Tp27->Tp27->Tp27->Tp25->Tp27->Option Tp12)) (t:Int) (number_2 number_3 l_1 row:Tp27):Option Tp12:=LFix (zid letters c c_1 c_2 c_3 c_4 most d d_1 l d_2 d_3 r4 ) (t,number_2,number_3,l_1,row)
def zbW (letters:Int) (c:Tp27) (c_1:Tp13) (c_2:Tp27) (c_3:Tp13) (c_4:Tp27) (most:Int) (r4:Tf6) (d d_1:Int) (number number_1 l:Tp27) (d_2:Tp25) (d_3:Tp27):Option Tp12:=
  if (decide ((d_2.length:Int) < (l.length:Int)))=true then
  G (0<=(d_2.length:Int)/\(d_2.length:Int) < (l.length:Int)) (
  G (((d_2.length:Int)).toNat < l.length) (
  G (mkOK letters letters 8) (
  zbf letters c c_1 c_2 c_3 c_4 most d d_1 l d_2 d_3 r4 (0:Int) number number_1 l (List.replicate (letters).toNat (0:Int))))) else
  some ((d,(d_1,(d_2,(d_3,())))),true)
def zic (letters:Int) (c:Tp27) (c_1:Tp13) (c_2:Tp27) (c_3:Tp13) (c_4:Tp27) (most:Int):(Int×Int×Tp27×Tp27×Tp27×Tp25×Tp27->Option Tp12)->Int×Int×Tp27×Tp27×Tp27×Tp25×Tp27->Option Tp12:=
  fun rec x=>zbW letters c c_1 c_2 c_3 c_4 most (fun d d_1 number number_1 l d_2 d_3=>rec (d,d_1,number,number_1,l,d_2,d_3)) x.1 x.2.1 x.2.2.1 x.2.2.2.1 x.2.2.2.2.1 x.2.2.2.2.2.1 x.2.2.2.2.2.2
def zdj (letters:Int) (c:Tp27) (c_1:Tp13) (c_2:Tp27) (c_3:Tp13) (c_4:Tp27) (most d d_1:Int) (number number_1 l:Tp27) (d_2:Tp25) (d_3:Tp27):Option Tp12:=LFix (zic letters c c_1 c_2 c_3 c_4 most ) (d,d_1,number,number_1,l,d_2,d_3)
def zg2 (letters first:Int) (c:Tp27) (c_1:Tp13) (c_2:Tp27) (c_3:Tp13) (c_4:Tp27) (most:Int):Option Tp12:=
  zdj letters c c_1 c_2 c_3 c_4 most letters (0:Int) (znl ([]:List Int) first) (znm ([]:List Int) ([]:List Int) first (0:Int)) ([first]) ([]:List Tp27) ([]:List Int)
theorem zmt (r8:Nat->Tf9) (r8':Tf9) (h_r8:∀ a0 a1 a2 a3 a4,ChO (fun κ=>r8 κ a0 a1 a2 a3 a4) (r8' a0 a1 a2 a3 a4)) (t row n number_4 number_5 l_2):ChO (fun κ=>zcp t row (r8 κ) n number_4 number_5 l_2) (zcp t row r8' n number_4 number_5 l_2):=by
  unfold zcp
  repeat' with_reducible first | exact ChO.const _ | exact h_r8 _ _ _ _ _ | apply ChO.G
theorem zge (r4:Nat->Tf6) (r4':Tf6) (h_r4:∀ a0 a1 a2 a3 a4 a5 a6,ChO (fun κ=>r4 κ a0 a1 a2 a3 a4 a5 a6) (r4' a0 a1 a2 a3 a4 a5 a6)) (r8:Nat->Tf9) (r8':Tf9) (h_r8:∀ a0 a1 a2 a3 a4,ChO (fun κ=>r8 κ a0 a1 a2 a3 a4) (r8' a0 a1 a2 a3 a4)) (letters c c_1 c_2 c_3 c_4 most d d_1 l d_2 d_3 t number_2 number_3 l_1 row):ChO (fun κ=>zbz letters c c_1 c_2 c_3 c_4 most d d_1 l d_2 d_3 (r4 κ) (r8 κ) t number_2 number_3 l_1 row) (zbz letters c c_1 c_2 c_3 c_4 most d d_1 l d_2 d_3 r4' r8' t number_2 number_3 l_1 row):=by
  unfold zbz
  repeat' with_reducible first | exact ChO.const _ | exact h_r4 _ _ _ _ _ _ _ | exact h_r8 _ _ _ _ _ | (apply zmt<;>assumption) | apply ChO.ite | apply ChO.G | (apply ChO.bind;intro _)
theorem zej (r4 letters c c_1 c_2 c_3 c_4 most d d_1 l d_2 d_3):Cn (zid letters c c_1 c_2 c_3 c_4 most d d_1 l d_2 d_3 r4):=fun g h hg x=>zge (fun _=>r4) r4 (fun _ _ _ _ _ _ _=>ChO.const _) _ _ (fun a0 a1 a2 a3 a4=>hg (a0,a1,a2,a3,a4)) letters c c_1 c_2 c_3 c_4 most d d_1 l d_2 d_3 x.1 x.2.1 x.2.2.1 x.2.2.2.1 x.2.2.2.2
theorem zhl (r4 letters c c_1 c_2 c_3 c_4 most d d_1 l d_2 d_3 t number_2 number_3 l_1 row):zbf letters c c_1 c_2 c_3 c_4 most d d_1 l d_2 d_3 r4 t number_2 number_3 l_1 row=zbz letters c c_1 c_2 c_3 c_4 most d d_1 l d_2 d_3 r4 (zbf letters c c_1 c_2 c_3 c_4 most d d_1 l d_2 d_3 r4) t number_2 number_3 l_1 row:=zaj (zej r4 letters c c_1 c_2 c_3 c_4 most d d_1 l d_2 d_3) (t,number_2,number_3,l_1,row)
theorem znf (r4:Nat->Tf6) (r4':Tf6) (h_r4:∀ a0 a1 a2 a3 a4 a5 a6,ChO (fun κ=>r4 κ a0 a1 a2 a3 a4 a5 a6) (r4' a0 a1 a2 a3 a4 a5 a6)) (letters c c_1 c_2 c_3 c_4 most d d_1 l d_2 d_3 t number_2 number_3 l_1 row):ChO (fun κ=>zbf letters c c_1 c_2 c_3 c_4 most d d_1 l d_2 d_3 (r4 κ) t number_2 number_3 l_1 row) (zbf letters c c_1 c_2 c_3 c_4 most d d_1 l d_2 d_3 r4' t number_2 number_3 l_1 row):=by
  unfold zbf
  exact zdp (fun κ=>(zej (r4 κ) letters c c_1 c_2 c_3 c_4 most d d_1 l d_2 d_3).mono) (zej r4' letters c c_1 c_2 c_3 c_4 most d d_1 l d_2 d_3).mono (fun g h hg x=>zge r4 r4' h_r4 _ _ (fun a0 a1 a2 a3 a4=>hg (a0,a1,a2,a3,a4)) letters c c_1 c_2 c_3 c_4 most d d_1 l d_2 d_3 x.1 x.2.1 x.2.2.1 x.2.2.2.1 x.2.2.2.2) _
theorem zlg (r4:Nat->Tf6) (r4':Tf6) (h_r4:∀ a0 a1 a2 a3 a4 a5 a6,ChO (fun κ=>r4 κ a0 a1 a2 a3 a4 a5 a6) (r4' a0 a1 a2 a3 a4 a5 a6)) (letters c c_1 c_2 c_3 c_4 most d d_1 number number_1 l d_2 d_3):ChO (fun κ=>zbW letters c c_1 c_2 c_3 c_4 most (r4 κ) d d_1 number number_1 l d_2 d_3) (zbW letters c c_1 c_2 c_3 c_4 most r4' d d_1 number number_1 l d_2 d_3):=by
  unfold zbW
  repeat' with_reducible first | exact ChO.const _ | exact h_r4 _ _ _ _ _ _ _ | (apply znf<;>assumption) | apply ChO.ite | apply ChO.G
theorem znd (letters c c_1 c_2 c_3 c_4 most):Cn (zic letters c c_1 c_2 c_3 c_4 most):=fun g h hg x=>zlg  _ _ (fun a0 a1 a2 a3 a4 a5 a6=>hg (a0,a1,a2,a3,a4,a5,a6)) letters c c_1 c_2 c_3 c_4 most x.1 x.2.1 x.2.2.1 x.2.2.2.1 x.2.2.2.2.1 x.2.2.2.2.2.1 x.2.2.2.2.2.2
theorem zne (letters c c_1 c_2 c_3 c_4 most d d_1 number number_1 l d_2 d_3):zdj letters c c_1 c_2 c_3 c_4 most d d_1 number number_1 l d_2 d_3=zbW letters c c_1 c_2 c_3 c_4 most (zdj letters c c_1 c_2 c_3 c_4 most) d d_1 number number_1 l d_2 d_3:=zaj (znd letters c c_1 c_2 c_3 c_4 most) (d,d_1,number,number_1,l,d_2,d_3)

def zlj (out out_1:Int) (out_2:Tp25) (out_3:Tp27):Option Tp13:=
  some (out,(out_1,(out_2,(out_3,()))))
def zbQ (d:Tp13) (y':Tp27) (r4:Int->Tp27->Option Tp13) (t:Int) (l:Tp27):Option Tp13:=
  if (decide (t < (y'.length:Int)))=true then
  G (0<=t/\t < (y'.length:Int)) (
  G ((t).toNat < y'.length) (
  G (0<=ix y' t/\ix y' t < (l.length:Int)) (
  G ((ix y' t).toNat < l.length) (
  G (fits (t+(1:Int))) (
  r4 (t+(1:Int)) (l.set (ix y' t).toNat t)))))) else
  G (0<=d.2.1/\d.2.1 < (y'.length:Int)) (
  G ((d.2.1).toNat < y'.length) (
  G (fits ((y'.length:Int)+(1:Int))) (
  both [Tc7] (
  (zg2 d.1 (ix y' d.2.1) y' (d.1,(d.2.1,(d.2.2.1,(d.2.2.2.1,())))) l (d.1,(d.2.1,(d.2.2.1,(d.2.2.2.1,())))) l ((y'.length:Int)+(1:Int))).bind (fun y'_4=>
  zlj y'_4.1.1 y'_4.1.2.1 y'_4.1.2.2.1 y'_4.1.2.2.2.1)) (
  (zg2 d.1 (ix y' d.2.1) y' (d.1,(d.2.1,(d.2.2.1,(d.2.2.2.1,())))) l (d.1,(d.2.1,(d.2.2.1,(d.2.2.2.1,())))) l ((y'.length:Int)+(1:Int))).bind (fun y'_8=>
  zlj y'_8.1.1 y'_8.1.2.1 y'_8.1.2.2.1 y'_8.1.2.2.2.1)))))
def zje (d:Tp13) (y':Tp27):(Int×Tp27->Option Tp13)->Int×Tp27->Option Tp13:=
  fun rec x=>zbQ d y' (fun t l=>rec (t,l)) x.1 x.2
def zcq (d:Tp13) (y':Tp27) (t:Int) (l:Tp27):Option Tp13:=LFix (zje d y' ) (t,l)
def zgf (d:Tp13):Option Tp13:=
  (zjX (d.1,(d.2.1,(d.2.2.1,(d.2.2.2.1,()))))).bind (fun y'=>
  G (mkOK (y'.length:Int) (y'.length:Int) 8) (
  zcq d y' (0:Int) (List.replicate ((y'.length:Int)).toNat (0:Int))))
theorem zmu (r4:Nat->Int->Tp27->Option Tp13) (r4':Int->Tp27->Option Tp13) (h_r4:∀ a0 a1,ChO (fun κ=>r4 κ a0 a1) (r4' a0 a1)) (d y' t l):ChO (fun κ=>zbQ d y' (r4 κ) t l) (zbQ d y' r4' t l):=by
  unfold zbQ
  repeat' with_reducible first | exact ChO.const _ | exact h_r4 _ _ | apply ChO.ite | apply ChO.G | apply ChO.both | (apply ChO.bind;intro _)
theorem znN (d y'):Cn (zje d y'):=fun g h hg x=>zmu  _ _ (fun a0 a1=>hg (a0,a1)) d y' x.1 x.2
theorem zii (d y' t l):zcq d y' t l=zbQ d y' (zcq d y') t l:=zaj (znN d y') (t,l)

def zd1 (a:Tp10) (l l_1 l_2 l_3 l_4 l_5 l_6 l_7 l_8 l_9 l_10 l_11 l_12 l_13 l_14 l_15 l_16 first first_1 first_2 first_3 first_4 first_5 first_6 first_7 first_8 first_9:Int):Option Tp13:=
  (zhk a.1 ((first,((first_1,(first_2,(first_3,(first_4,())))),((first_5,(first_6,(first_7,(first_8,())))),()))),(first_9,())) (1048576:Int) (((l,(l_1,(l_2,(l_3,())))),((l_4,(l_5,(l_6,(l_7,())))),((l_8,(l_9,(l_10,(l_11,())))),((l_12,(l_13,(l_14,(l_15,())))),())))),(l_16,()))).bind (fun y'_7=>
  (zgf (y'_7.1.1,(y'_7.1.2.1,(y'_7.1.2.2.1,(y'_7.1.2.2.2.1,()))))).bind (fun y'_6=>
  some (y'_6.1,(y'_6.2.1,(y'_6.2.2.1,(y'_6.2.2.2.1,()))))))
def zbe (a:Tp10) (r3:Tf2) (t l l_1 l_2 l_3 l_4 l_5 l_6 l_7 l_8 l_9 l_10 l_11 l_12 l_13 l_14 l_15 l_16:Int):Option Tp13:=
  if (decide (t < (a.2.2.2.1.length:Int)))=true then
  G (0<=t/\t < (a.2.2.2.1.length:Int)) (
  G (0<=(ix a.2.2.2.1 t).1/\(ix a.2.2.2.1 t).1 < (4:Int)) (
  G (0<=((ix a.2.2.2.1 t).2).1/\((ix a.2.2.2.1 t).2).1 < (4:Int)) (
  G (((ix a.2.2.2.1 t).1).toNat * 4+(((ix a.2.2.2.1 t).2).1).toNat < 16) (
  G (0<=(((ix a.2.2.2.1 t).2).2).1) (
  G (0<=(ix a.2.2.2.1 t).1/\(ix a.2.2.2.1 t).1 < (4:Int)) (
  G (0<=((ix a.2.2.2.1 t).2).1/\((ix a.2.2.2.1 t).2).1 < (4:Int)) (
  G (((ix a.2.2.2.1 t).1).toNat * 4+(((ix a.2.2.2.1 t).2).1).toNat < 16) (
  G (fits (t+(1:Int))) (
  r3 (t+(1:Int)) (([l,l_1,l_2,l_3,l_4,l_5,l_6,l_7,l_8,l_9,l_10,l_11,l_12,l_13,l_14,l_15].set (((ix a.2.2.2.1 t).1).toNat * 4+(((ix a.2.2.2.1 t).2).1).toNat) (ior .i64 ([l,l_1,l_2,l_3,l_4,l_5,l_6,l_7,l_8,l_9,l_10,l_11,l_12,l_13,l_14,l_15].getD (((ix a.2.2.2.1 t).1).toNat * 4+(((ix a.2.2.2.1 t).2).1).toNat) 0) (ishl .i64 (1:Int) ((((ix a.2.2.2.1 t).2).2).1)))).getD 0 0) (([l,l_1,l_2,l_3,l_4,l_5,l_6,l_7,l_8,l_9,l_10,l_11,l_12,l_13,l_14,l_15].set (((ix a.2.2.2.1 t).1).toNat * 4+(((ix a.2.2.2.1 t).2).1).toNat) (ior .i64 ([l,l_1,l_2,l_3,l_4,l_5,l_6,l_7,l_8,l_9,l_10,l_11,l_12,l_13,l_14,l_15].getD (((ix a.2.2.2.1 t).1).toNat * 4+(((ix a.2.2.2.1 t).2).1).toNat) 0) (ishl .i64 (1:Int) ((((ix a.2.2.2.1 t).2).2).1)))).getD 1 0) (([l,l_1,l_2,l_3,l_4,l_5,l_6,l_7,l_8,l_9,l_10,l_11,l_12,l_13,l_14,l_15].set (((ix a.2.2.2.1 t).1).toNat * 4+(((ix a.2.2.2.1 t).2).1).toNat) (ior .i64 ([l,l_1,l_2,l_3,l_4,l_5,l_6,l_7,l_8,l_9,l_10,l_11,l_12,l_13,l_14,l_15].getD (((ix a.2.2.2.1 t).1).toNat * 4+(((ix a.2.2.2.1 t).2).1).toNat) 0) (ishl .i64 (1:Int) ((((ix a.2.2.2.1 t).2).2).1)))).getD 2 0) (([l,l_1,l_2,l_3,l_4,l_5,l_6,l_7,l_8,l_9,l_10,l_11,l_12,l_13,l_14,l_15].set (((ix a.2.2.2.1 t).1).toNat * 4+(((ix a.2.2.2.1 t).2).1).toNat) (ior .i64 ([l,l_1,l_2,l_3,l_4,l_5,l_6,l_7,l_8,l_9,l_10,l_11,l_12,l_13,l_14,l_15].getD (((ix a.2.2.2.1 t).1).toNat * 4+(((ix a.2.2.2.1 t).2).1).toNat) 0) (ishl .i64 (1:Int) ((((ix a.2.2.2.1 t).2).2).1)))).getD 3 0) (([l,l_1,l_2,l_3,l_4,l_5,l_6,l_7,l_8,l_9,l_10,l_11,l_12,l_13,l_14,l_15].set (((ix a.2.2.2.1 t).1).toNat * 4+(((ix a.2.2.2.1 t).2).1).toNat) (ior .i64 ([l,l_1,l_2,l_3,l_4,l_5,l_6,l_7,l_8,l_9,l_10,l_11,l_12,l_13,l_14,l_15].getD (((ix a.2.2.2.1 t).1).toNat * 4+(((ix a.2.2.2.1 t).2).1).toNat) 0) (ishl .i64 (1:Int) ((((ix a.2.2.2.1 t).2).2).1)))).getD 4 0) (([l,l_1,l_2,l_3,l_4,l_5,l_6,l_7,l_8,l_9,l_10,l_11,l_12,l_13,l_14,l_15].set (((ix a.2.2.2.1 t).1).toNat * 4+(((ix a.2.2.2.1 t).2).1).toNat) (ior .i64 ([l,l_1,l_2,l_3,l_4,l_5,l_6,l_7,l_8,l_9,l_10,l_11,l_12,l_13,l_14,l_15].getD (((ix a.2.2.2.1 t).1).toNat * 4+(((ix a.2.2.2.1 t).2).1).toNat) 0) (ishl .i64 (1:Int) ((((ix a.2.2.2.1 t).2).2).1)))).getD 5 0) (([l,l_1,l_2,l_3,l_4,l_5,l_6,l_7,l_8,l_9,l_10,l_11,l_12,l_13,l_14,l_15].set (((ix a.2.2.2.1 t).1).toNat * 4+(((ix a.2.2.2.1 t).2).1).toNat) (ior .i64 ([l,l_1,l_2,l_3,l_4,l_5,l_6,l_7,l_8,l_9,l_10,l_11,l_12,l_13,l_14,l_15].getD (((ix a.2.2.2.1 t).1).toNat * 4+(((ix a.2.2.2.1 t).2).1).toNat) 0) (ishl .i64 (1:Int) ((((ix a.2.2.2.1 t).2).2).1)))).getD 6 0) (([l,l_1,l_2,l_3,l_4,l_5,l_6,l_7,l_8,l_9,l_10,l_11,l_12,l_13,l_14,l_15].set (((ix a.2.2.2.1 t).1).toNat * 4+(((ix a.2.2.2.1 t).2).1).toNat) (ior .i64 ([l,l_1,l_2,l_3,l_4,l_5,l_6,l_7,l_8,l_9,l_10,l_11,l_12,l_13,l_14,l_15].getD (((ix a.2.2.2.1 t).1).toNat * 4+(((ix a.2.2.2.1 t).2).1).toNat) 0) (ishl .i64 (1:Int) ((((ix a.2.2.2.1 t).2).2).1)))).getD 7 0) (([l,l_1,l_2,l_3,l_4,l_5,l_6,l_7,l_8,l_9,l_10,l_11,l_12,l_13,l_14,l_15].set (((ix a.2.2.2.1 t).1).toNat * 4+(((ix a.2.2.2.1 t).2).1).toNat) (ior .i64 ([l,l_1,l_2,l_3,l_4,l_5,l_6,l_7,l_8,l_9,l_10,l_11,l_12,l_13,l_14,l_15].getD (((ix a.2.2.2.1 t).1).toNat * 4+(((ix a.2.2.2.1 t).2).1).toNat) 0) (ishl .i64 (1:Int) ((((ix a.2.2.2.1 t).2).2).1)))).getD 8 0) (([l,l_1,l_2,l_3,l_4,l_5,l_6,l_7,l_8,l_9,l_10,l_11,l_12,l_13,l_14,l_15].set (((ix a.2.2.2.1 t).1).toNat * 4+(((ix a.2.2.2.1 t).2).1).toNat) (ior .i64 ([l,l_1,l_2,l_3,l_4,l_5,l_6,l_7,l_8,l_9,l_10,l_11,l_12,l_13,l_14,l_15].getD (((ix a.2.2.2.1 t).1).toNat * 4+(((ix a.2.2.2.1 t).2).1).toNat) 0) (ishl .i64 (1:Int) ((((ix a.2.2.2.1 t).2).2).1)))).getD 9 0) (([l,l_1,l_2,l_3,l_4,l_5,l_6,l_7,l_8,l_9,l_10,l_11,l_12,l_13,l_14,l_15].set (((ix a.2.2.2.1 t).1).toNat * 4+(((ix a.2.2.2.1 t).2).1).toNat) (ior .i64 ([l,l_1,l_2,l_3,l_4,l_5,l_6,l_7,l_8,l_9,l_10,l_11,l_12,l_13,l_14,l_15].getD (((ix a.2.2.2.1 t).1).toNat * 4+(((ix a.2.2.2.1 t).2).1).toNat) 0) (ishl .i64 (1:Int) ((((ix a.2.2.2.1 t).2).2).1)))).getD 10 0) (([l,l_1,l_2,l_3,l_4,l_5,l_6,l_7,l_8,l_9,l_10,l_11,l_12,l_13,l_14,l_15].set (((ix a.2.2.2.1 t).1).toNat * 4+(((ix a.2.2.2.1 t).2).1).toNat) (ior .i64 ([l,l_1,l_2,l_3,l_4,l_5,l_6,l_7,l_8,l_9,l_10,l_11,l_12,l_13,l_14,l_15].getD (((ix a.2.2.2.1 t).1).toNat * 4+(((ix a.2.2.2.1 t).2).1).toNat) 0) (ishl .i64 (1:Int) ((((ix a.2.2.2.1 t).2).2).1)))).getD 11 0) (([l,l_1,l_2,l_3,l_4,l_5,l_6,l_7,l_8,l_9,l_10,l_11,l_12,l_13,l_14,l_15].set (((ix a.2.2.2.1 t).1).toNat * 4+(((ix a.2.2.2.1 t).2).1).toNat) (ior .i64 ([l,l_1,l_2,l_3,l_4,l_5,l_6,l_7,l_8,l_9,l_10,l_11,l_12,l_13,l_14,l_15].getD (((ix a.2.2.2.1 t).1).toNat * 4+(((ix a.2.2.2.1 t).2).1).toNat) 0) (ishl .i64 (1:Int) ((((ix a.2.2.2.1 t).2).2).1)))).getD 12 0) (([l,l_1,l_2,l_3,l_4,l_5,l_6,l_7,l_8,l_9,l_10,l_11,l_12,l_13,l_14,l_15].set (((ix a.2.2.2.1 t).1).toNat * 4+(((ix a.2.2.2.1 t).2).1).toNat) (ior .i64 ([l,l_1,l_2,l_3,l_4,l_5,l_6,l_7,l_8,l_9,l_10,l_11,l_12,l_13,l_14,l_15].getD (((ix a.2.2.2.1 t).1).toNat * 4+(((ix a.2.2.2.1 t).2).1).toNat) 0) (ishl .i64 (1:Int) ((((ix a.2.2.2.1 t).2).2).1)))).getD 13 0) (([l,l_1,l_2,l_3,l_4,l_5,l_6,l_7,l_8,l_9,l_10,l_11,l_12,l_13,l_14,l_15].set (((ix a.2.2.2.1 t).1).toNat * 4+(((ix a.2.2.2.1 t).2).1).toNat) (ior .i64 ([l,l_1,l_2,l_3,l_4,l_5,l_6,l_7,l_8,l_9,l_10,l_11,l_12,l_13,l_14,l_15].getD (((ix a.2.2.2.1 t).1).toNat * 4+(((ix a.2.2.2.1 t).2).1).toNat) 0) (ishl .i64 (1:Int) ((((ix a.2.2.2.1 t).2).2).1)))).getD 14 0) (([l,l_1,l_2,l_3,l_4,l_5,l_6,l_7,l_8,l_9,l_10,l_11,l_12,l_13,l_14,l_15].set (((ix a.2.2.2.1 t).1).toNat * 4+(((ix a.2.2.2.1 t).2).1).toNat) (ior .i64 ([l,l_1,l_2,l_3,l_4,l_5,l_6,l_7,l_8,l_9,l_10,l_11,l_12,l_13,l_14,l_15].getD (((ix a.2.2.2.1 t).1).toNat * 4+(((ix a.2.2.2.1 t).2).1).toNat) 0) (ishl .i64 (1:Int) ((((ix a.2.2.2.1 t).2).2).1)))).getD 15 0) l_16))))))))) else
  (zhe a.2.2.1).bind (fun y'_1=>
  if (decide (¬ y'_1=(0:Int)))=true then
  zd1 a l l_1 l_2 l_3 l_4 l_5 l_6 l_7 l_8 l_9 l_10 l_11 l_12 l_13 l_14 l_15 l_16 (1:Int) y'_1 (0:Int) (0:Int) (0:Int) (-1:Int) (0:Int) (0:Int) (0:Int) (9:Int) else
  zd1 a l l_1 l_2 l_3 l_4 l_5 l_6 l_7 l_8 l_9 l_10 l_11 l_12 l_13 l_14 l_15 l_16 (0:Int) (0:Int) (0:Int) (0:Int) (0:Int) (0:Int) (0:Int) (0:Int) (0:Int) (9:Int))
def zgE (a:Tp10):(Int×Int×Int×Int×Int×Int×Int×Int×Int×Int×Int×Int×Int×Int×Int×Int×Int×Int->Option Tp13)->Int×Int×Int×Int×Int×Int×Int×Int×Int×Int×Int×Int×Int×Int×Int×Int×Int×Int->Option Tp13:=
  fun rec x=>zbe a (fun t l l_1 l_2 l_3 l_4 l_5 l_6 l_7 l_8 l_9 l_10 l_11 l_12 l_13 l_14 l_15 l_16=>rec (t,l,l_1,l_2,l_3,l_4,l_5,l_6,l_7,l_8,l_9,l_10,l_11,l_12,l_13,l_14,l_15,l_16)) x.1 x.2.1 x.2.2.1 x.2.2.2.1 x.2.2.2.2.1 x.2.2.2.2.2.1 x.2.2.2.2.2.2.1 x.2.2.2.2.2.2.2.1 x.2.2.2.2.2.2.2.2.1 x.2.2.2.2.2.2.2.2.2.1 x.2.2.2.2.2.2.2.2.2.2.1 x.2.2.2.2.2.2.2.2.2.2.2.1 x.2.2.2.2.2.2.2.2.2.2.2.2.1 x.2.2.2.2.2.2.2.2.2.2.2.2.2.1 x.2.2.2.2.2.2.2.2.2.2.2.2.2.2.1 x.2.2.2.2.2.2.2.2.2.2.2.2.2.2.2.1 x.2.2.2.2.2.2.2.2.2.2.2.2.2.2.2.2.1 x.2.2.2.2.2.2.2.2.2.2.2.2.2.2.2.2.2
def zdg (a:Tp10) (t l l_1 l_2 l_3 l_4 l_5 l_6 l_7 l_8 l_9 l_10 l_11 l_12 l_13 l_14 l_15 l_16:Int):Option Tp13:=LFix (zgE a ) (t,l,l_1,l_2,l_3,l_4,l_5,l_6,l_7,l_8,l_9,l_10,l_11,l_12,l_13,l_14,l_15,l_16)
def zdl (a:Tp10):Option Tp13:=
  (zhe a.2.2.2.2.1).bind (fun y'=>
  zdg a (0:Int) (0:Int) (0:Int) (0:Int) (0:Int) (0:Int) (0:Int) (0:Int) (0:Int) (0:Int) (0:Int) (0:Int) (0:Int) (0:Int) (0:Int) (0:Int) (0:Int) y')
theorem zjI (r3:Nat->Tf2) (r3':Tf2) (h_r3:∀ a0 a1 a2 a3 a4 a5 a6 a7 a8 a9 a10 a11 a12 a13 a14 a15 a16 a17,ChO (fun κ=>r3 κ a0 a1 a2 a3 a4 a5 a6 a7 a8 a9 a10 a11 a12 a13 a14 a15 a16 a17) (r3' a0 a1 a2 a3 a4 a5 a6 a7 a8 a9 a10 a11 a12 a13 a14 a15 a16 a17)) (a t l l_1 l_2 l_3 l_4 l_5 l_6 l_7 l_8 l_9 l_10 l_11 l_12 l_13 l_14 l_15 l_16):ChO (fun κ=>zbe a (r3 κ) t l l_1 l_2 l_3 l_4 l_5 l_6 l_7 l_8 l_9 l_10 l_11 l_12 l_13 l_14 l_15 l_16) (zbe a r3' t l l_1 l_2 l_3 l_4 l_5 l_6 l_7 l_8 l_9 l_10 l_11 l_12 l_13 l_14 l_15 l_16):=by
  unfold zbe
  repeat' with_reducible first | exact ChO.const _ | exact h_r3 _ _ _ _ _ _ _ _ _ _ _ _ _ _ _ _ _ _ | apply ChO.ite | apply ChO.G | (apply ChO.bind;intro _)
theorem zk1 (a):Cn (zgE a):=fun g h hg x=>zjI  _ _ (fun a0 a1 a2 a3 a4 a5 a6 a7 a8 a9 a10 a11 a12 a13 a14 a15 a16 a17=>hg (a0,a1,a2,a3,a4,a5,a6,a7,a8,a9,a10,a11,a12,a13,a14,a15,a16,a17)) a x.1 x.2.1 x.2.2.1 x.2.2.2.1 x.2.2.2.2.1 x.2.2.2.2.2.1 x.2.2.2.2.2.2.1 x.2.2.2.2.2.2.2.1 x.2.2.2.2.2.2.2.2.1 x.2.2.2.2.2.2.2.2.2.1 x.2.2.2.2.2.2.2.2.2.2.1 x.2.2.2.2.2.2.2.2.2.2.2.1 x.2.2.2.2.2.2.2.2.2.2.2.2.1 x.2.2.2.2.2.2.2.2.2.2.2.2.2.1 x.2.2.2.2.2.2.2.2.2.2.2.2.2.2.1 x.2.2.2.2.2.2.2.2.2.2.2.2.2.2.2.1 x.2.2.2.2.2.2.2.2.2.2.2.2.2.2.2.2.1 x.2.2.2.2.2.2.2.2.2.2.2.2.2.2.2.2.2
theorem zfL (a t l l_1 l_2 l_3 l_4 l_5 l_6 l_7 l_8 l_9 l_10 l_11 l_12 l_13 l_14 l_15 l_16):zdg a t l l_1 l_2 l_3 l_4 l_5 l_6 l_7 l_8 l_9 l_10 l_11 l_12 l_13 l_14 l_15 l_16=zbe a (zdg a) t l l_1 l_2 l_3 l_4 l_5 l_6 l_7 l_8 l_9 l_10 l_11 l_12 l_13 l_14 l_15 l_16:=zaj (zk1 a) (t,l,l_1,l_2,l_3,l_4,l_5,l_6,l_7,l_8,l_9,l_10,l_11,l_12,l_13,l_14,l_15,l_16)

def zcB (t_1:Int) (r6:(Int->Int->Int->Tp27->Tp20->Tp27->Int->Int->Tp25->Tp27->Tp18->Option Tp4)) (p_27 p_28:Int) (p_29:Tp27) (p_30:Tp20) (p_31:Tp27) (p_32 p_33:Int) (p_34:Tp25) (p_35:Tp27) (l_3:Tp18):Option Tp4:=
  G (fits (t_1+(1:Int))) (
  r6 (t_1+(1:Int)) p_27 p_28 p_29 p_30 p_31 p_32 p_33 p_34 p_35 l_3)
def zbD (a:Tp10) (d:Tp13) (t:Int) (r3:(Int->Int->Int->Tp27->Tp20->Tp27->Int->Int->Tp25->Tp27->Tp18->Option Tp4)) (r6:Tf3) (t_1 p_18 p_19:Int) (p_20:Tp27) (p_21:Tp20) (p_22:Tp27) (p_23 p_24:Int) (p_25:Tp25) (p_26:Tp27) (l_2:Tp18):Option Tp4:=
  if (decide (t_1 < (a.2.2.2.1.length:Int)))=true then
  G (0<=t_1/\t_1 < (a.2.2.2.1.length:Int)) (
  G (fits (t * a.2.1)) (
  G (fits ((t * a.2.1)+((ix a.2.2.2.1 t_1).1))) (
  G (0<=(t * a.2.1)+((ix a.2.2.2.1 t_1).1)/\(t * a.2.1)+((ix a.2.2.2.1 t_1).1) < (l_2.length:Int)) (
  G (((t * a.2.1)+((ix a.2.2.2.1 t_1).1)).toNat < l_2.length) (
  G (0<=t/\t < (d.2.2.1.length:Int)) (
  G (0<=((ix a.2.2.2.1 t_1).2).1/\((ix a.2.2.2.1 t_1).2).1 < ((ix d.2.2.1 t).length:Int)) (
  G (fits ((ix (ix d.2.2.1 t) (((ix a.2.2.2.1 t_1).2).1)) * a.2.1)) (
  G (fits (((ix (ix d.2.2.1 t) (((ix a.2.2.2.1 t_1).2).1)) * a.2.1)+((((ix a.2.2.2.1 t_1).2).2).1))) (
  both [Tc1] (
  G (((t * a.2.1)+((ix a.2.2.2.1 t_1).1)).toNat < l_2.length) (
  G (room (ix l_2 ((t * a.2.1)+((ix a.2.2.2.1 t_1).1))) ([(((ix (ix d.2.2.1 t) (((ix a.2.2.2.1 t_1).2).1)) * a.2.1)+((((ix a.2.2.2.1 t_1).2).2).1),(((ix a.2.2.2.1 t_1).2).1,()))]) 16) (
  G (0<=(t * a.2.1)+((ix a.2.2.2.1 t_1).1)/\(t * a.2.1)+((ix a.2.2.2.1 t_1).1) < (l_2.length:Int)) (
  G (((t * a.2.1)+((ix a.2.2.2.1 t_1).1)).toNat=((t * a.2.1)+((ix a.2.2.2.1 t_1).1)).toNat) (
  zcB t_1 r6 p_18 p_19 p_20 p_21 p_22 p_23 p_24 p_25 p_26 (l_2.set ((t * a.2.1)+((ix a.2.2.2.1 t_1).1)).toNat ((ix l_2 ((t * a.2.1)+((ix a.2.2.2.1 t_1).1)))++([(((ix (ix d.2.2.1 t) (((ix a.2.2.2.1 t_1).2).1)) * a.2.1)+((((ix a.2.2.2.1 t_1).2).2).1),(((ix a.2.2.2.1 t_1).2).1,()))])))))))) (
  G (((t * a.2.1)+((ix a.2.2.2.1 t_1).1)).toNat < l_2.length) (
  G (room (ix l_2 ((t * a.2.1)+((ix a.2.2.2.1 t_1).1))) ([(((ix (ix d.2.2.1 t) (((ix a.2.2.2.1 t_1).2).1)) * a.2.1)+((((ix a.2.2.2.1 t_1).2).2).1),(((ix a.2.2.2.1 t_1).2).1,()))]) 16) (
  G (0<=(t * a.2.1)+((ix a.2.2.2.1 t_1).1)/\(t * a.2.1)+((ix a.2.2.2.1 t_1).1) < (l_2.length:Int)) (
  G (((t * a.2.1)+((ix a.2.2.2.1 t_1).1)).toNat=((t * a.2.1)+((ix a.2.2.2.1 t_1).1)).toNat) (
  zcB t_1 r6 p_18 p_19 p_20 p_21 p_22 p_23 p_24 p_25 p_26 (l_2.set ((t * a.2.1)+((ix a.2.2.2.1 t_1).1)).toNat ((ix l_2 ((t * a.2.1)+((ix a.2.2.2.1 t_1).1)))++([(((ix (ix d.2.2.1 t) (((ix a.2.2.2.1 t_1).2).1)) * a.2.1)+((((ix a.2.2.2.1 t_1).2).2).1),(((ix a.2.2.2.1 t_1).2).1,()))]))))))))))))))))) else
  G (fits (t+(1:Int))) (
  r3 (t+(1:Int)) p_18 p_19 p_20 p_21 p_22 p_23 p_24 p_25 p_26 l_2)
def zio (a:Tp10) (d:Tp13) (t:Int) (r3:(Int->Int->Int->Tp27->Tp20->Tp27->Int->Int->Tp25->Tp27->Tp18->Option Tp4)):(Int×Int×Int×Tp27×Tp20×Tp27×Int×Int×Tp25×Tp27×Tp18->Option Tp4)->Int×Int×Int×Tp27×Tp20×Tp27×Int×Int×Tp25×Tp27×Tp18->Option Tp4:=
  fun rec x=>zbD a d t r3 (fun t_1 p_18 p_19 p_20 p_21 p_22 p_23 p_24 p_25 p_26 l_2=>rec (t_1,p_18,p_19,p_20,p_21,p_22,p_23,p_24,p_25,p_26,l_2)) x.1 x.2.1 x.2.2.1 x.2.2.2.1 x.2.2.2.2.1 x.2.2.2.2.2.1 x.2.2.2.2.2.2.1 x.2.2.2.2.2.2.2.1 x.2.2.2.2.2.2.2.2.1 x.2.2.2.2.2.2.2.2.2.1 x.2.2.2.2.2.2.2.2.2.2
def zb8 (a:Tp10) (d:Tp13) (t:Int) (r3:(Int->Int->Int->Tp27->Tp20->Tp27->Int->Int->Tp25->Tp27->Tp18->Option Tp4)) (t_1 p_18 p_19:Int) (p_20:Tp27) (p_21:Tp20) (p_22:Tp27) (p_23 p_24:Int) (p_25:Tp25) (p_26:Tp27) (l_2:Tp18):Option Tp4:=LFix (zio a d t r3 ) (t_1,p_18,p_19,p_20,p_21,p_22,p_23,p_24,p_25,p_26,l_2)
def zbC (a:Tp10) (d:Tp13) (r3:Tf3) (t p_9 p_10:Int) (p_11:Tp27) (p_12:Tp20) (p_13:Tp27) (p_14 p_15:Int) (p_16:Tp25) (p_17:Tp27) (l_1:Tp18):Option Tp4:=
  if (decide (t < (d.2.2.1.length:Int)))=true then
  zb8 a d t r3 (0:Int) p_9 p_10 p_11 p_12 p_13 p_14 p_15 p_16 p_17 l_1 else
  some ((p_9,(p_10,(p_11,(p_12,(p_13,()))))),((p_14,(p_15,(p_16,(p_17,())))),(l_1,())))
def zin (a:Tp10) (d:Tp13):(Int×Int×Int×Tp27×Tp20×Tp27×Int×Int×Tp25×Tp27×Tp18->Option Tp4)->Int×Int×Int×Tp27×Tp20×Tp27×Int×Int×Tp25×Tp27×Tp18->Option Tp4:=
  fun rec x=>zbC a d (fun t p_9 p_10 p_11 p_12 p_13 p_14 p_15 p_16 p_17 l_1=>rec (t,p_9,p_10,p_11,p_12,p_13,p_14,p_15,p_16,p_17,l_1)) x.1 x.2.1 x.2.2.1 x.2.2.2.1 x.2.2.2.2.1 x.2.2.2.2.2.1 x.2.2.2.2.2.2.1 x.2.2.2.2.2.2.2.1 x.2.2.2.2.2.2.2.2.1 x.2.2.2.2.2.2.2.2.2.1 x.2.2.2.2.2.2.2.2.2.2
def zdm (a:Tp10) (d:Tp13) (t p_9 p_10:Int) (p_11:Tp27) (p_12:Tp20) (p_13:Tp27) (p_14 p_15:Int) (p_16:Tp25) (p_17:Tp27) (l_1:Tp18):Option Tp4:=LFix (zin a d ) (t,p_9,p_10,p_11,p_12,p_13,p_14,p_15,p_16,p_17,l_1)
def zeh (a:Tp10) (d:Tp13) (p p_1:Int) (p_2:Tp27) (p_3:Tp20) (p_4:Tp27) (p_5 p_6:Int) (p_7:Tp25) (p_8:Tp27) (l:Tp18):Option Tp4:=
  zdm a d (0:Int) p p_1 p_2 p_3 p_4 p_5 p_6 p_7 p_8 l
def zg9 (a:Tp10) (d:Tp13):Option Tp4:=
  G (fits (a.2.1 * (d.2.2.1.length:Int))) (
  both [Tc1] (
  both [Tc1] (
  G (mkOK (a.2.1 * (d.2.2.1.length:Int)) (a.2.1 * (d.2.2.1.length:Int)) 24) (
  zeh a d a.1 a.2.1 a.2.2.1 a.2.2.2.1 a.2.2.2.2.1 d.1 d.2.1 d.2.2.1 d.2.2.2.1 (List.replicate (a.2.1 * (d.2.2.1.length:Int)).toNat ([]:List (Int×Int×Unit))))) (
  G (mkOK (a.2.1 * (d.2.2.1.length:Int)) (a.2.1 * (d.2.2.1.length:Int)) 24) (
  zeh a d a.1 a.2.1 a.2.2.1 a.2.2.2.1 a.2.2.2.2.1 d.1 d.2.1 d.2.2.1 d.2.2.2.1 (List.replicate (a.2.1 * (d.2.2.1.length:Int)).toNat ([]:List (Int×Int×Unit)))))) (
  both [Tc1] (
  G (mkOK (a.2.1 * (d.2.2.1.length:Int)) (a.2.1 * (d.2.2.1.length:Int)) 24) (
  zeh a d a.1 a.2.1 a.2.2.1 a.2.2.2.1 a.2.2.2.2.1 d.1 d.2.1 d.2.2.1 d.2.2.2.1 (List.replicate (a.2.1 * (d.2.2.1.length:Int)).toNat ([]:List (Int×Int×Unit))))) (
  G (mkOK (a.2.1 * (d.2.2.1.length:Int)) (a.2.1 * (d.2.2.1.length:Int)) 24) (
  zeh a d a.1 a.2.1 a.2.2.1 a.2.2.2.1 a.2.2.2.2.1 d.1 d.2.1 d.2.2.1 d.2.2.2.1 (List.replicate (a.2.1 * (d.2.2.1.length:Int)).toNat ([]:List (Int×Int×Unit)))))))
theorem znx (r6:Nat->Tf3) (r6':Tf3) (h_r6:∀ a0 a1 a2 a3 a4 a5 a6 a7 a8 a9 a10,ChO (fun κ=>r6 κ a0 a1 a2 a3 a4 a5 a6 a7 a8 a9 a10) (r6' a0 a1 a2 a3 a4 a5 a6 a7 a8 a9 a10)) (t_1 p_27 p_28 p_29 p_30 p_31 p_32 p_33 p_34 p_35 l_3):ChO (fun κ=>zcB t_1 (r6 κ) p_27 p_28 p_29 p_30 p_31 p_32 p_33 p_34 p_35 l_3) (zcB t_1 r6' p_27 p_28 p_29 p_30 p_31 p_32 p_33 p_34 p_35 l_3):=by
  unfold zcB
  repeat' with_reducible first | exact ChO.const _ | exact h_r6 _ _ _ _ _ _ _ _ _ _ _ | apply ChO.G
theorem zgF (r3:Nat->Tf3) (r3':Tf3) (h_r3:∀ a0 a1 a2 a3 a4 a5 a6 a7 a8 a9 a10,ChO (fun κ=>r3 κ a0 a1 a2 a3 a4 a5 a6 a7 a8 a9 a10) (r3' a0 a1 a2 a3 a4 a5 a6 a7 a8 a9 a10)) (r6:Nat->Tf3) (r6':Tf3) (h_r6:∀ a0 a1 a2 a3 a4 a5 a6 a7 a8 a9 a10,ChO (fun κ=>r6 κ a0 a1 a2 a3 a4 a5 a6 a7 a8 a9 a10) (r6' a0 a1 a2 a3 a4 a5 a6 a7 a8 a9 a10)) (a d t t_1 p_18 p_19 p_20 p_21 p_22 p_23 p_24 p_25 p_26 l_2):ChO (fun κ=>zbD a d t (r3 κ) (r6 κ) t_1 p_18 p_19 p_20 p_21 p_22 p_23 p_24 p_25 p_26 l_2) (zbD a d t r3' r6' t_1 p_18 p_19 p_20 p_21 p_22 p_23 p_24 p_25 p_26 l_2):=by
  unfold zbD
  repeat' with_reducible first | exact ChO.const _ | exact h_r3 _ _ _ _ _ _ _ _ _ _ _ | exact h_r6 _ _ _ _ _ _ _ _ _ _ _ | (apply znx<;>assumption) | apply ChO.ite | apply ChO.G | apply ChO.both
theorem zeo (r3 a d t):Cn (zio a d t r3):=fun g h hg x=>zgF (fun _=>r3) r3 (fun _ _ _ _ _ _ _ _ _ _ _=>ChO.const _) _ _ (fun a0 a1 a2 a3 a4 a5 a6 a7 a8 a9 a10=>hg (a0,a1,a2,a3,a4,a5,a6,a7,a8,a9,a10)) a d t x.1 x.2.1 x.2.2.1 x.2.2.2.1 x.2.2.2.2.1 x.2.2.2.2.2.1 x.2.2.2.2.2.2.1 x.2.2.2.2.2.2.2.1 x.2.2.2.2.2.2.2.2.1 x.2.2.2.2.2.2.2.2.2.1 x.2.2.2.2.2.2.2.2.2.2
theorem zhR (r3 a d t t_1 p_18 p_19 p_20 p_21 p_22 p_23 p_24 p_25 p_26 l_2):zb8 a d t r3 t_1 p_18 p_19 p_20 p_21 p_22 p_23 p_24 p_25 p_26 l_2=zbD a d t r3 (zb8 a d t r3) t_1 p_18 p_19 p_20 p_21 p_22 p_23 p_24 p_25 p_26 l_2:=zaj (zeo r3 a d t) (t_1,p_18,p_19,p_20,p_21,p_22,p_23,p_24,p_25,p_26,l_2)
theorem znz (r3:Nat->Tf3) (r3':Tf3) (h_r3:∀ a0 a1 a2 a3 a4 a5 a6 a7 a8 a9 a10,ChO (fun κ=>r3 κ a0 a1 a2 a3 a4 a5 a6 a7 a8 a9 a10) (r3' a0 a1 a2 a3 a4 a5 a6 a7 a8 a9 a10)) (a d t t_1 p_18 p_19 p_20 p_21 p_22 p_23 p_24 p_25 p_26 l_2):ChO (fun κ=>zb8 a d t (r3 κ) t_1 p_18 p_19 p_20 p_21 p_22 p_23 p_24 p_25 p_26 l_2) (zb8 a d t r3' t_1 p_18 p_19 p_20 p_21 p_22 p_23 p_24 p_25 p_26 l_2):=by
  unfold zb8
  exact zdp (fun κ=>(zeo (r3 κ) a d t).mono) (zeo r3' a d t).mono (fun g h hg x=>zgF r3 r3' h_r3 _ _ (fun a0 a1 a2 a3 a4 a5 a6 a7 a8 a9 a10=>hg (a0,a1,a2,a3,a4,a5,a6,a7,a8,a9,a10)) a d t x.1 x.2.1 x.2.2.1 x.2.2.2.1 x.2.2.2.2.1 x.2.2.2.2.2.1 x.2.2.2.2.2.2.1 x.2.2.2.2.2.2.2.1 x.2.2.2.2.2.2.2.2.1 x.2.2.2.2.2.2.2.2.2.1 x.2.2.2.2.2.2.2.2.2.2) _
theorem zl3 (r3:Nat->Tf3) (r3':Tf3) (h_r3:∀ a0 a1 a2 a3 a4 a5 a6 a7 a8 a9 a10,ChO (fun κ=>r3 κ a0 a1 a2 a3 a4 a5 a6 a7 a8 a9 a10) (r3' a0 a1 a2 a3 a4 a5 a6 a7 a8 a9 a10)) (a d t p_9 p_10 p_11 p_12 p_13 p_14 p_15 p_16 p_17 l_1):ChO (fun κ=>zbC a d (r3 κ) t p_9 p_10 p_11 p_12 p_13 p_14 p_15 p_16 p_17 l_1) (zbC a d r3' t p_9 p_10 p_11 p_12 p_13 p_14 p_15 p_16 p_17 l_1):=by
  unfold zbC
  repeat' with_reducible first | exact ChO.const _ | exact h_r3 _ _ _ _ _ _ _ _ _ _ _ | (apply znz<;>assumption) | apply ChO.ite
theorem zny (a d):Cn (zin a d):=fun g h hg x=>zl3  _ _ (fun a0 a1 a2 a3 a4 a5 a6 a7 a8 a9 a10=>hg (a0,a1,a2,a3,a4,a5,a6,a7,a8,a9,a10)) a d x.1 x.2.1 x.2.2.1 x.2.2.2.1 x.2.2.2.2.1 x.2.2.2.2.2.1 x.2.2.2.2.2.2.1 x.2.2.2.2.2.2.2.1 x.2.2.2.2.2.2.2.2.1 x.2.2.2.2.2.2.2.2.2.1 x.2.2.2.2.2.2.2.2.2.2
theorem zhQ (a d t p_9 p_10 p_11 p_12 p_13 p_14 p_15 p_16 p_17 l_1):zdm a d t p_9 p_10 p_11 p_12 p_13 p_14 p_15 p_16 p_17 l_1=zbC a d (zdm a d) t p_9 p_10 p_11 p_12 p_13 p_14 p_15 p_16 p_17 l_1:=zaj (zny a d) (t,p_9,p_10,p_11,p_12,p_13,p_14,p_15,p_16,p_17,l_1)

def zbA (at':Int) (c:Tp4):Option (Int×Tp10×Tp13×Tp18×Unit):=
  G (c.1.2.1≠0) (
  G (fits (Int.tdiv at' c.1.2.1)) (
  G (0<=Int.tdiv at' c.1.2.1/\Int.tdiv at' c.1.2.1 < (c.2.1.2.2.2.1.length:Int)) (
  some (ix c.2.1.2.2.2.1 (Int.tdiv at' c.1.2.1),c))))

def zcZ (s:Tp27) (v:Int) (r2:Int->Option (Int)) (t:Int):Option (Int):=
  if (decide (t < (s.length:Int)))=true then
  G (0<=t/\t < (s.length:Int)) (
  if (decide (v=(ix s t)))=true then
  some t else
  G (fits (t+(1:Int))) (
  r2 (t+(1:Int)))) else
  some (-1:Int)
def zjT (s:Tp27) (v:Int):(Int->Option (Int))->Int->Option (Int):=
  fun rec x=>zcZ s v (fun t=>rec t) x
def zhX (s:Tp27) (v t:Int):Option (Int):=LFix (zjT s v ) t
def zpW (s:Tp27) (v:Int):Option (Int):=
  zhX s v (0:Int)
theorem zmA (r2:Nat->Int->Option (Int)) (r2':Int->Option (Int)) (h_r2:∀ a0,ChO (fun κ=>r2 κ a0) (r2' a0)) (s v t):ChO (fun κ=>zcZ s v (r2 κ) t) (zcZ s v r2' t):=by
  unfold zcZ
  repeat' with_reducible first | exact ChO.const _ | exact h_r2 _ | apply ChO.ite | apply ChO.G
theorem zoB (s v):Cn (zjT s v):=fun g h hg x=>zmA  _ _ (fun a=>hg a) s v x
theorem zoC (s v t):zhX s v t=zcZ s v (zhX s v) t:=zaj (zoB s v) t

def zcY (s:Tp27) (v:Int):Option (Bool):=
  (zpW s v).bind (fun y'=>
  some (decide ((0:Int)<=y')))

def zeV (t:Int):Option (Bool):=
  some true

def zdw (x' t:Int):Option (Bool):=
  some (decide (x'=t))

def zbR (r1:Tf18) (i j:Int) (s_1:Tp27):Option Tp27:=
  if (decide (i < j))=true then
  G (0<=j/\j < (s_1.length:Int)) (
  G ((j).toNat < s_1.length) (
  G (0<=i/\i < (s_1.length:Int)) (
  G ((i).toNat < s_1.length) (
  G (0<=i/\i < (s_1.length:Int)) (
  G ((i).toNat < s_1.length) (
  G (0<=j/\j < ((s_1.set (i).toNat (ix s_1 j)).length:Int)) (
  G ((j).toNat < (s_1.set (i).toNat (ix s_1 j)).length) (
  G (fits (i+(1:Int))) (
  G (fits (j - (1:Int))) (
  r1 (i+(1:Int)) (j - (1:Int)) ((s_1.set (i).toNat (ix s_1 j)).set (j).toNat (ix s_1 i)))))))))))) else
  some s_1
def zhY:(Int×Int×Tp27->Option Tp27)->Int×Int×Tp27->Option Tp27:=
  fun rec x=>zbR (fun i j s_1=>rec (i,j,s_1)) x.1 x.2.1 x.2.2
def zdV (i j:Int) (s_1:Tp27):Option Tp27:=LFix (zhY ) (i,j,s_1)
def zcP (s:Tp27):Option Tp27:=
  G (fits ((s.length:Int) - (1:Int))) (
  zdV (0:Int) ((s.length:Int) - (1:Int)) s)
theorem zk5 (r1:Nat->Tf18) (r1':Tf18) (h_r1:∀ a0 a1 a2,ChO (fun κ=>r1 κ a0 a1 a2) (r1' a0 a1 a2)) (i j s_1):ChO (fun κ=>zbR (r1 κ) i j s_1) (zbR r1' i j s_1):=by
  unfold zbR
  repeat' with_reducible first | exact ChO.const _ | exact h_r1 _ _ _ | apply ChO.ite | apply ChO.G
theorem zmB:Cn (zhY):=fun g h hg x=>zk5  _ _ (fun a0 a1 a2=>hg (a0,a1,a2))  x.1 x.2.1 x.2.2
theorem zmC (i j s_1):zdV i j s_1=zbR (zdV) i j s_1:=zaj (zmB ) (i,j,s_1)

def zaS (p:Tp4) (i:Int) (l_1:Tp20) (t_1:Int) (l_2:Tp20) (r20:Int->Tp27->Option Tp23) (k:Int) (w:Tp27):Option Tp23:=
  G (0<=k/\k < ((l_2++([((ix (ix p.2.2.1 ((ix l_1 i).1)) t_1).1,(i,(((ix (ix p.2.2.1 ((ix l_1 i).1)) t_1).2).1,())))])).length:Int)) (
  G ((k).toNat < (l_2++([((ix (ix p.2.2.1 ((ix l_1 i).1)) t_1).1,(i,(((ix (ix p.2.2.1 ((ix l_1 i).1)) t_1).2).1,())))])).length) (
  if (decide ((0:Int)<=(((ix (l_2++([((ix (ix p.2.2.1 ((ix l_1 i).1)) t_1).1,(i,(((ix (ix p.2.2.1 ((ix l_1 i).1)) t_1).2).1,())))])) k).2).1)))=true then
  G (0<=k/\k < ((l_2++([((ix (ix p.2.2.1 ((ix l_1 i).1)) t_1).1,(i,(((ix (ix p.2.2.1 ((ix l_1 i).1)) t_1).2).1,())))])).length:Int)) (
  G ((k).toNat < (l_2++([((ix (ix p.2.2.1 ((ix l_1 i).1)) t_1).1,(i,(((ix (ix p.2.2.1 ((ix l_1 i).1)) t_1).2).1,())))])).length) (
  G (room w ([(((ix (l_2++([((ix (ix p.2.2.1 ((ix l_1 i).1)) t_1).1,(i,(((ix (ix p.2.2.1 ((ix l_1 i).1)) t_1).2).1,())))])) k).2).2).1]) 8) (
  G (0<=k/\k < ((l_2++([((ix (ix p.2.2.1 ((ix l_1 i).1)) t_1).1,(i,(((ix (ix p.2.2.1 ((ix l_1 i).1)) t_1).2).1,())))])).length:Int)) (
  G ((k).toNat < (l_2++([((ix (ix p.2.2.1 ((ix l_1 i).1)) t_1).1,(i,(((ix (ix p.2.2.1 ((ix l_1 i).1)) t_1).2).1,())))])).length) (
  r20 (((ix (l_2++([((ix (ix p.2.2.1 ((ix l_1 i).1)) t_1).1,(i,(((ix (ix p.2.2.1 ((ix l_1 i).1)) t_1).2).1,())))])) k).2).1) (w++([(((ix (l_2++([((ix (ix p.2.2.1 ((ix l_1 i).1)) t_1).1,(i,(((ix (ix p.2.2.1 ((ix l_1 i).1)) t_1).2).1,())))])) k).2).2).1]))))))) else
  (zcP w).bind (fun y'_2=>
  some ((ix (ix p.2.2.1 ((ix l_1 i).1)) t_1).1,true,y'_2))))
def zgy (p:Tp4) (i:Int) (l_1:Tp20) (t_1:Int) (l_2:Tp20):(Int×Tp27->Option Tp23)->Int×Tp27->Option Tp23:=
  fun rec x=>zaS p i l_1 t_1 l_2 (fun k w=>rec (k,w)) x.1 x.2
def zbr (p:Tp4) (i:Int) (l_1:Tp20) (t_1:Int) (l_2:Tp20) (k:Int) (w:Tp27):Option Tp23:=LFix (zgy p i l_1 t_1 l_2 ) (k,w)
def zaA (p:Tp4) (c i:Int) (l_1:Tp20) (r9:(Int->Tp20->Tp26->Option Tp23)) (r12:Tf16) (t_1:Int) (l_2:Tp20) (seen_1:Tp26):Option Tp23:=
  if (decide (t_1 < ((ix p.2.2.1 ((ix l_1 i).1)).length:Int)))=true then
  G (0<=t_1/\t_1 < ((ix p.2.2.1 ((ix l_1 i).1)).length:Int)) (
  G (0<=(ix (ix p.2.2.1 ((ix l_1 i).1)) t_1).1/\(ix (ix p.2.2.1 ((ix l_1 i).1)) t_1).1 < (seen_1.length:Int)) (
  G (((ix (ix p.2.2.1 ((ix l_1 i).1)) t_1).1).toNat < seen_1.length) (
  if (ix seen_1 ((ix (ix p.2.2.1 ((ix l_1 i).1)) t_1).1))=true then
  G (fits (t_1+(1:Int))) (
  r12 (t_1+(1:Int)) l_2 seen_1) else
  (zeV ((ix (ix p.2.2.1 ((ix l_1 i).1)) t_1).1)).bind (fun y'=>
  if (!y')=true then
  G (fits (t_1+(1:Int))) (
  r12 (t_1+(1:Int)) l_2 seen_1) else
  G (0<=(ix (ix p.2.2.1 ((ix l_1 i).1)) t_1).1/\(ix (ix p.2.2.1 ((ix l_1 i).1)) t_1).1 < (seen_1.length:Int)) (
  G (((ix (ix p.2.2.1 ((ix l_1 i).1)) t_1).1).toNat < seen_1.length) (
  G (room l_2 ([((ix (ix p.2.2.1 ((ix l_1 i).1)) t_1).1,(i,(((ix (ix p.2.2.1 ((ix l_1 i).1)) t_1).2).1,())))]) 24) (
  (zdw ((ix (ix p.2.2.1 ((ix l_1 i).1)) t_1).1) c).bind (fun y'_1=>
  if (!y'_1)=true then
  G (fits (t_1+(1:Int))) (
  r12 (t_1+(1:Int)) (l_2++([((ix (ix p.2.2.1 ((ix l_1 i).1)) t_1).1,(i,(((ix (ix p.2.2.1 ((ix l_1 i).1)) t_1).2).1,())))])) (seen_1.set ((ix (ix p.2.2.1 ((ix l_1 i).1)) t_1).1).toNat true)) else
  G (fits (((l_2++([((ix (ix p.2.2.1 ((ix l_1 i).1)) t_1).1,(i,(((ix (ix p.2.2.1 ((ix l_1 i).1)) t_1).2).1,())))])).length:Int) - (1:Int))) (
  zbr p i l_1 t_1 l_2 (((l_2++([((ix (ix p.2.2.1 ((ix l_1 i).1)) t_1).1,(i,(((ix (ix p.2.2.1 ((ix l_1 i).1)) t_1).2).1,())))])).length:Int) - (1:Int)) ([])))))))))) else
  G (fits (i+(1:Int))) (
  r9 (i+(1:Int)) l_2 seen_1)
def zgx (p:Tp4) (c i:Int) (l_1:Tp20) (r9:(Int->Tp20->Tp26->Option Tp23)):(Int×Tp20×Tp26->Option Tp23)->Int×Tp20×Tp26->Option Tp23:=
  fun rec x=>zaA p c i l_1 r9 (fun t_1 l_2 seen_1=>rec (t_1,l_2,seen_1)) x.1 x.2.1 x.2.2
def zaB (p:Tp4) (c i:Int) (l_1:Tp20) (r9:(Int->Tp20->Tp26->Option Tp23)) (t_1:Int) (l_2:Tp20) (seen_1:Tp26):Option Tp23:=LFix (zgx p c i l_1 r9 ) (t_1,l_2,seen_1)
def zbl (p:Tp4) (c:Int) (r9:Tf16) (i:Int) (l_1:Tp20) (seen:Tp26):Option Tp23:=
  if (decide (i < (l_1.length:Int)))=true then
  G (0<=i/\i < (l_1.length:Int)) (
  G ((i).toNat < l_1.length) (
  G (0<=(ix l_1 i).1/\(ix l_1 i).1 < (p.2.2.1.length:Int)) (
  zaB p c i l_1 r9 (0:Int) l_1 seen))) else
  some ((0:Int),false,[])
def zgX (p:Tp4) (c:Int):(Int×Tp20×Tp26->Option Tp23)->Int×Tp20×Tp26->Option Tp23:=
  fun rec x=>zbl p c (fun i l_1 seen=>rec (i,l_1,seen)) x.1 x.2.1 x.2.2
def zao (p:Tp4) (c i:Int) (l_1:Tp20) (seen:Tp26):Option Tp23:=LFix (zgX p c ) (i,l_1,seen)
def zbk (p:Tp4) (from':Tp27) (c:Int) (r3:Int->Tp20->Option Tp23) (t:Int) (l:Tp20):Option Tp23:=
  if (decide (t < (from'.length:Int)))=true then
  G (0<=t/\t < (from'.length:Int)) (
  G (room l ([(ix from' t,((-1:Int),((0:Int),())))]) 24) (
  G (fits (t+(1:Int))) (
  r3 (t+(1:Int)) (l++([(ix from' t,((-1:Int),((0:Int),())))]))))) else
  G (mkOK (p.2.2.1.length:Int) (p.2.2.1.length:Int) 1) (
  zao p c (0:Int) l (List.replicate ((p.2.2.1.length:Int)).toNat (false:Bool)))
def zgW (p:Tp4) (from':Tp27) (c:Int):(Int×Tp20->Option Tp23)->Int×Tp20->Option Tp23:=
  fun rec x=>zbk p from' c (fun t l=>rec (t,l)) x.1 x.2
def zcG (p:Tp4) (from':Tp27) (c t:Int) (l:Tp20):Option Tp23:=LFix (zgW p from' c ) (t,l)
def zcw (p:Tp4) (from':Tp27) (c:Int):Option Tp23:=
  zcG p from' c (0:Int) ([])
theorem zjE (r20:Nat->Int->Tp27->Option Tp23) (r20':Int->Tp27->Option Tp23) (h_r20:∀ a0 a1,ChO (fun κ=>r20 κ a0 a1) (r20' a0 a1)) (p i l_1 t_1 l_2 k w):ChO (fun κ=>zaS p i l_1 t_1 l_2 (r20 κ) k w) (zaS p i l_1 t_1 l_2 r20' k w):=by
  unfold zaS
  repeat' with_reducible first | exact ChO.const _ | exact h_r20 _ _ | apply ChO.ite | apply ChO.G | (apply ChO.bind;intro _)
theorem zkZ (p i l_1 t_1 l_2):Cn (zgy p i l_1 t_1 l_2):=fun g h hg x=>zjE  _ _ (fun a0 a1=>hg (a0,a1)) p i l_1 t_1 l_2 x.1 x.2
theorem zk0 (p i l_1 t_1 l_2 k w):zbr p i l_1 t_1 l_2 k w=zaS p i l_1 t_1 l_2 (zbr p i l_1 t_1 l_2) k w:=zaj (zkZ p i l_1 t_1 l_2) (k,w)
theorem zey (r9:Nat->Tf16) (r9':Tf16) (h_r9:∀ a0 a1 a2,ChO (fun κ=>r9 κ a0 a1 a2) (r9' a0 a1 a2)) (r12:Nat->Tf16) (r12':Tf16) (h_r12:∀ a0 a1 a2,ChO (fun κ=>r12 κ a0 a1 a2) (r12' a0 a1 a2)) (p c i l_1 t_1 l_2 seen_1):ChO (fun κ=>zaA p c i l_1 (r9 κ) (r12 κ) t_1 l_2 seen_1) (zaA p c i l_1 r9' r12' t_1 l_2 seen_1):=by
  unfold zaA
  repeat' with_reducible first | exact ChO.const _ | exact h_r9 _ _ _ | exact h_r12 _ _ _ | apply ChO.ite | apply ChO.G | (apply ChO.bind;intro _)
theorem zdr (r9 p c i l_1):Cn (zgx p c i l_1 r9):=fun g h hg x=>zey (fun _=>r9) r9 (fun _ _ _=>ChO.const _) _ _ (fun a0 a1 a2=>hg (a0,a1,a2)) p c i l_1 x.1 x.2.1 x.2.2
theorem zfE (r9 p c i l_1 t_1 l_2 seen_1):zaB p c i l_1 r9 t_1 l_2 seen_1=zaA p c i l_1 r9 (zaB p c i l_1 r9) t_1 l_2 seen_1:=zaj (zdr r9 p c i l_1) (t_1,l_2,seen_1)
theorem zkY (r9:Nat->Tf16) (r9':Tf16) (h_r9:∀ a0 a1 a2,ChO (fun κ=>r9 κ a0 a1 a2) (r9' a0 a1 a2)) (p c i l_1 t_1 l_2 seen_1):ChO (fun κ=>zaB p c i l_1 (r9 κ) t_1 l_2 seen_1) (zaB p c i l_1 r9' t_1 l_2 seen_1):=by
  unfold zaB
  exact zdp (fun κ=>(zdr (r9 κ) p c i l_1).mono) (zdr r9' p c i l_1).mono (fun g h hg x=>zey r9 r9' h_r9 _ _ (fun a0 a1 a2=>hg (a0,a1,a2)) p c i l_1 x.1 x.2.1 x.2.2) _
theorem zkn (r9:Nat->Tf16) (r9':Tf16) (h_r9:∀ a0 a1 a2,ChO (fun κ=>r9 κ a0 a1 a2) (r9' a0 a1 a2)) (p c i l_1 seen):ChO (fun κ=>zbl p c (r9 κ) i l_1 seen) (zbl p c r9' i l_1 seen):=by
  unfold zbl
  repeat' with_reducible first | exact ChO.const _ | exact h_r9 _ _ _ | (apply zkY<;>assumption) | apply ChO.ite | apply ChO.G
theorem zlW (p c):Cn (zgX p c):=fun g h hg x=>zkn  _ _ (fun a0 a1 a2=>hg (a0,a1,a2)) p c x.1 x.2.1 x.2.2
theorem zgA (p c i l_1 seen):zao p c i l_1 seen=zbl p c (zao p c) i l_1 seen:=zaj (zlW p c) (i,l_1,seen)
theorem zkm (r3:Nat->Int->Tp20->Option Tp23) (r3':Int->Tp20->Option Tp23) (h_r3:∀ a0 a1,ChO (fun κ=>r3 κ a0 a1) (r3' a0 a1)) (p from' c t l):ChO (fun κ=>zbk p from' c (r3 κ) t l) (zbk p from' c r3' t l):=by
  unfold zbk
  repeat' with_reducible first | exact ChO.const _ | exact h_r3 _ _ | apply ChO.ite | apply ChO.G
theorem zlV (p from' c):Cn (zgW p from' c):=fun g h hg x=>zkm  _ _ (fun a0 a1=>hg (a0,a1)) p from' c x.1 x.2
theorem zgz (p from' c t l):zcG p from' c t l=zbk p from' c (zcG p from' c) t l:=zaj (zlV p from' c) (t,l)

def zcE (x' t:Int) (c:Tp4):Option (Bool×Tp10×Tp13×Tp18×Unit):=
  G (c.1.2.1≠0) (
  some (decide ((Int.tmod x' c.1.2.1)=t),c))

def za4 (at' t:Int) (c:Tp4):Option (Bool×Tp10×Tp13×Tp18×Unit):=
  both [.bool,Tc1] (
  (zbA at' c).bind (fun y'_3=>
  some (decide (t<=y'_3.1),y'_3.2))) (
  (zbA at' c).bind (fun y'_7=>
  some (decide (t<=y'_7.1),y'_7.2)))

def zdy (x' t:Int):Option (Bool):=
  some (decide (x'=t))

def zaH (p:Tp4) (i:Int) (l_1:Tp20) (t_1:Int) (l_3:Tp20) (y'_1:Tp4) (r20:Int->Tp27->Option Tp3) (k:Int) (w:Tp27):Option Tp3:=
  G (0<=k/\k < ((l_3++([((ix (ix p.2.2.1 ((ix l_1 i).1)) t_1).1,(i,(((ix (ix p.2.2.1 ((ix l_1 i).1)) t_1).2).1,())))])).length:Int)) (
  G ((k).toNat < (l_3++([((ix (ix p.2.2.1 ((ix l_1 i).1)) t_1).1,(i,(((ix (ix p.2.2.1 ((ix l_1 i).1)) t_1).2).1,())))])).length) (
  if (decide ((0:Int)<=(((ix (l_3++([((ix (ix p.2.2.1 ((ix l_1 i).1)) t_1).1,(i,(((ix (ix p.2.2.1 ((ix l_1 i).1)) t_1).2).1,())))])) k).2).1)))=true then
  G (0<=k/\k < ((l_3++([((ix (ix p.2.2.1 ((ix l_1 i).1)) t_1).1,(i,(((ix (ix p.2.2.1 ((ix l_1 i).1)) t_1).2).1,())))])).length:Int)) (
  G ((k).toNat < (l_3++([((ix (ix p.2.2.1 ((ix l_1 i).1)) t_1).1,(i,(((ix (ix p.2.2.1 ((ix l_1 i).1)) t_1).2).1,())))])).length) (
  G (room w ([(((ix (l_3++([((ix (ix p.2.2.1 ((ix l_1 i).1)) t_1).1,(i,(((ix (ix p.2.2.1 ((ix l_1 i).1)) t_1).2).1,())))])) k).2).2).1]) 8) (
  G (0<=k/\k < ((l_3++([((ix (ix p.2.2.1 ((ix l_1 i).1)) t_1).1,(i,(((ix (ix p.2.2.1 ((ix l_1 i).1)) t_1).2).1,())))])).length:Int)) (
  G ((k).toNat < (l_3++([((ix (ix p.2.2.1 ((ix l_1 i).1)) t_1).1,(i,(((ix (ix p.2.2.1 ((ix l_1 i).1)) t_1).2).1,())))])).length) (
  r20 (((ix (l_3++([((ix (ix p.2.2.1 ((ix l_1 i).1)) t_1).1,(i,(((ix (ix p.2.2.1 ((ix l_1 i).1)) t_1).2).1,())))])) k).2).1) (w++([(((ix (l_3++([((ix (ix p.2.2.1 ((ix l_1 i).1)) t_1).1,(i,(((ix (ix p.2.2.1 ((ix l_1 i).1)) t_1).2).1,())))])) k).2).2).1]))))))) else
  (zcP w).bind (fun y'_4=>
  some ((ix (ix p.2.2.1 ((ix l_1 i).1)) t_1).1,true,y'_4,y'_1))))
def ze1 (p:Tp4) (i:Int) (l_1:Tp20) (t_1:Int) (l_3:Tp20) (y'_1:Tp4):(Int×Tp27->Option Tp3)->Int×Tp27->Option Tp3:=
  fun rec x=>zaH p i l_1 t_1 l_3 y'_1 (fun k w=>rec (k,w)) x.1 x.2
def zbb (p:Tp4) (i:Int) (l_1:Tp20) (t_1:Int) (l_3:Tp20) (y'_1:Tp4) (k:Int) (w:Tp27):Option Tp3:=LFix (ze1 p i l_1 t_1 l_3 y'_1 ) (k,w)
def zar (p:Tp4) (c_1 i:Int) (l_1:Tp20) (r9:(Int->Int->Tp20->Tp26->Tp4->Option Tp3)) (r12:Tf10) (may_1 t_1:Int) (l_3:Tp20) (seen_1:Tp26) (l_4:Tp4):Option Tp3:=
  if (decide (t_1 < ((ix p.2.2.1 ((ix l_1 i).1)).length:Int)))=true then
  G (0<=t_1/\t_1 < ((ix p.2.2.1 ((ix l_1 i).1)).length:Int)) (
  G (0<=(ix (ix p.2.2.1 ((ix l_1 i).1)) t_1).1/\(ix (ix p.2.2.1 ((ix l_1 i).1)) t_1).1 < (seen_1.length:Int)) (
  G (((ix (ix p.2.2.1 ((ix l_1 i).1)) t_1).1).toNat < seen_1.length) (
  if (ix seen_1 ((ix (ix p.2.2.1 ((ix l_1 i).1)) t_1).1))=true then
  G (fits (t_1+(1:Int))) (
  r12 may_1 (t_1+(1:Int)) l_3 seen_1 l_4) else
  (za4 ((ix (ix p.2.2.1 ((ix l_1 i).1)) t_1).1) may_1 l_4).bind (fun y'_5=>
  if (!y'_5.1)=true then
  G (fits (t_1+(1:Int))) (
  r12 may_1 (t_1+(1:Int)) l_3 seen_1 y'_5.2) else
  G (0<=(ix (ix p.2.2.1 ((ix l_1 i).1)) t_1).1/\(ix (ix p.2.2.1 ((ix l_1 i).1)) t_1).1 < (seen_1.length:Int)) (
  G (((ix (ix p.2.2.1 ((ix l_1 i).1)) t_1).1).toNat < seen_1.length) (
  G (room l_3 ([((ix (ix p.2.2.1 ((ix l_1 i).1)) t_1).1,(i,(((ix (ix p.2.2.1 ((ix l_1 i).1)) t_1).2).1,())))]) 24) (
  (zdy ((ix (ix p.2.2.1 ((ix l_1 i).1)) t_1).1) c_1).bind (fun y'_3=>
  if (!y'_3)=true then
  G (fits (t_1+(1:Int))) (
  r12 may_1 (t_1+(1:Int)) (l_3++([((ix (ix p.2.2.1 ((ix l_1 i).1)) t_1).1,(i,(((ix (ix p.2.2.1 ((ix l_1 i).1)) t_1).2).1,())))])) (seen_1.set ((ix (ix p.2.2.1 ((ix l_1 i).1)) t_1).1).toNat true) y'_5.2) else
  G (fits (((l_3++([((ix (ix p.2.2.1 ((ix l_1 i).1)) t_1).1,(i,(((ix (ix p.2.2.1 ((ix l_1 i).1)) t_1).2).1,())))])).length:Int) - (1:Int))) (
  zbb p i l_1 t_1 l_3 y'_5.2 (((l_3++([((ix (ix p.2.2.1 ((ix l_1 i).1)) t_1).1,(i,(((ix (ix p.2.2.1 ((ix l_1 i).1)) t_1).2).1,())))])).length:Int) - (1:Int)) ([])))))))))) else
  G (fits (i+(1:Int))) (
  r9 may_1 (i+(1:Int)) l_3 seen_1 l_4)
def ze0 (p:Tp4) (c_1 i:Int) (l_1:Tp20) (r9:(Int->Int->Tp20->Tp26->Tp4->Option Tp3)):(Int×Int×Tp20×Tp26×Tp10×Tp13×Tp18×Unit->Option Tp3)->Int×Int×Tp20×Tp26×Tp10×Tp13×Tp18×Unit->Option Tp3:=
  fun rec x=>zar p c_1 i l_1 r9 (fun may_1 t_1 l_3 seen_1 l_4=>rec (may_1,t_1,l_3,seen_1,l_4)) x.1 x.2.1 x.2.2.1 x.2.2.2.1 x.2.2.2.2
def zav (p:Tp4) (c_1 i:Int) (l_1:Tp20) (r9:(Int->Int->Tp20->Tp26->Tp4->Option Tp3)) (may_1 t_1:Int) (l_3:Tp20) (seen_1:Tp26) (l_4:Tp4):Option Tp3:=LFix (ze0 p c_1 i l_1 r9 ) (may_1,t_1,l_3,seen_1,l_4)
def za0 (p:Tp4) (c_1:Int) (r9:Tf10) (may i:Int) (l_1:Tp20) (seen:Tp26) (l_2:Tp4):Option Tp3:=
  if (decide (i < (l_1.length:Int)))=true then
  G (0<=i/\i < (l_1.length:Int)) (
  G ((i).toNat < l_1.length) (
  G (0<=(ix l_1 i).1/\(ix l_1 i).1 < (p.2.2.1.length:Int)) (
  zav p c_1 i l_1 r9 may (0:Int) l_1 seen l_2))) else
  some ((0:Int),false,[],l_2)
def zfB (p:Tp4) (c_1:Int):(Int×Int×Tp20×Tp26×Tp10×Tp13×Tp18×Unit->Option Tp3)->Int×Int×Tp20×Tp26×Tp10×Tp13×Tp18×Unit->Option Tp3:=
  fun rec x=>za0 p c_1 (fun may i l_1 seen l_2=>rec (may,i,l_1,seen,l_2)) x.1 x.2.1 x.2.2.1 x.2.2.2.1 x.2.2.2.2
def zal (p:Tp4) (c_1 may i:Int) (l_1:Tp20) (seen:Tp26) (l_2:Tp4):Option Tp3:=LFix (zfB p c_1 ) (may,i,l_1,seen,l_2)
def zaZ (p:Tp4) (from':Tp27) (c c_1:Int) (c_2:Tp4) (r3:Int->Tp20->Option Tp3) (t:Int) (l:Tp20):Option Tp3:=
  if (decide (t < (from'.length:Int)))=true then
  G (0<=t/\t < (from'.length:Int)) (
  G (room l ([(ix from' t,((-1:Int),((0:Int),())))]) 24) (
  G (fits (t+(1:Int))) (
  r3 (t+(1:Int)) (l++([(ix from' t,((-1:Int),((0:Int),())))]))))) else
  G (mkOK (p.2.2.1.length:Int) (p.2.2.1.length:Int) 1) (
  zal p c_1 c (0:Int) l (List.replicate ((p.2.2.1.length:Int)).toNat (false:Bool)) c_2)
def zfA (p:Tp4) (from':Tp27) (c c_1:Int) (c_2:Tp4):(Int×Tp20->Option Tp3)->Int×Tp20->Option Tp3:=
  fun rec x=>zaZ p from' c c_1 c_2 (fun t l=>rec (t,l)) x.1 x.2
def zca (p:Tp4) (from':Tp27) (c c_1:Int) (c_2:Tp4) (t:Int) (l:Tp20):Option Tp3:=LFix (zfA p from' c c_1 c_2 ) (t,l)
def zdS (p:Tp4) (from':Tp27) (c c_1:Int) (c_2:Tp4):Option Tp3:=
  zca p from' c c_1 c_2 (0:Int) ([])
theorem zh2 (r20:Nat->Int->Tp27->Option Tp3) (r20':Int->Tp27->Option Tp3) (h_r20:∀ a0 a1,ChO (fun κ=>r20 κ a0 a1) (r20' a0 a1)) (p i l_1 t_1 l_3 y'_1 k w):ChO (fun κ=>zaH p i l_1 t_1 l_3 y'_1 (r20 κ) k w) (zaH p i l_1 t_1 l_3 y'_1 r20' k w):=by
  unfold zaH
  repeat' with_reducible first | exact ChO.const _ | exact h_r20 _ _ | apply ChO.ite | apply ChO.G | (apply ChO.bind;intro _)
theorem zjz (p i l_1 t_1 l_3 y'_1):Cn (ze1 p i l_1 t_1 l_3 y'_1):=fun g h hg x=>zh2  _ _ (fun a0 a1=>hg (a0,a1)) p i l_1 t_1 l_3 y'_1 x.1 x.2
theorem zjA (p i l_1 t_1 l_3 y'_1 k w):zbb p i l_1 t_1 l_3 y'_1 k w=zaH p i l_1 t_1 l_3 y'_1 (zbb p i l_1 t_1 l_3 y'_1) k w:=zaj (zjz p i l_1 t_1 l_3 y'_1) (k,w)
theorem zdY (r9:Nat->Tf10) (r9':Tf10) (h_r9:∀ a0 a1 a2 a3 a4,ChO (fun κ=>r9 κ a0 a1 a2 a3 a4) (r9' a0 a1 a2 a3 a4)) (r12:Nat->Tf10) (r12':Tf10) (h_r12:∀ a0 a1 a2 a3 a4,ChO (fun κ=>r12 κ a0 a1 a2 a3 a4) (r12' a0 a1 a2 a3 a4)) (p c_1 i l_1 may_1 t_1 l_3 seen_1 l_4):ChO (fun κ=>zar p c_1 i l_1 (r9 κ) (r12 κ) may_1 t_1 l_3 seen_1 l_4) (zar p c_1 i l_1 r9' r12' may_1 t_1 l_3 seen_1 l_4):=by
  unfold zar
  repeat' with_reducible first | exact ChO.const _ | exact h_r9 _ _ _ _ _ | exact h_r12 _ _ _ _ _ | apply ChO.ite | apply ChO.G | (apply ChO.bind;intro _)
theorem zcU (r9 p c_1 i l_1):Cn (ze0 p c_1 i l_1 r9):=fun g h hg x=>zdY (fun _=>r9) r9 (fun _ _ _ _ _=>ChO.const _) _ _ (fun a0 a1 a2 a3 a4=>hg (a0,a1,a2,a3,a4)) p c_1 i l_1 x.1 x.2.1 x.2.2.1 x.2.2.2.1 x.2.2.2.2
theorem zew (r9 p c_1 i l_1 may_1 t_1 l_3 seen_1 l_4):zav p c_1 i l_1 r9 may_1 t_1 l_3 seen_1 l_4=zar p c_1 i l_1 r9 (zav p c_1 i l_1 r9) may_1 t_1 l_3 seen_1 l_4:=zaj (zcU r9 p c_1 i l_1) (may_1,t_1,l_3,seen_1,l_4)
theorem zjy (r9:Nat->Tf10) (r9':Tf10) (h_r9:∀ a0 a1 a2 a3 a4,ChO (fun κ=>r9 κ a0 a1 a2 a3 a4) (r9' a0 a1 a2 a3 a4)) (p c_1 i l_1 may_1 t_1 l_3 seen_1 l_4):ChO (fun κ=>zav p c_1 i l_1 (r9 κ) may_1 t_1 l_3 seen_1 l_4) (zav p c_1 i l_1 r9' may_1 t_1 l_3 seen_1 l_4):=by
  unfold zav
  exact zdp (fun κ=>(zcU (r9 κ) p c_1 i l_1).mono) (zcU r9' p c_1 i l_1).mono (fun g h hg x=>zdY r9 r9' h_r9 _ _ (fun a0 a1 a2 a3 a4=>hg (a0,a1,a2,a3,a4)) p c_1 i l_1 x.1 x.2.1 x.2.2.1 x.2.2.2.1 x.2.2.2.2) _
theorem ziJ (r9:Nat->Tf10) (r9':Tf10) (h_r9:∀ a0 a1 a2 a3 a4,ChO (fun κ=>r9 κ a0 a1 a2 a3 a4) (r9' a0 a1 a2 a3 a4)) (p c_1 may i l_1 seen l_2):ChO (fun κ=>za0 p c_1 (r9 κ) may i l_1 seen l_2) (za0 p c_1 r9' may i l_1 seen l_2):=by
  unfold za0
  repeat' with_reducible first | exact ChO.const _ | exact h_r9 _ _ _ _ _ | (apply zjy<;>assumption) | apply ChO.ite | apply ChO.G
theorem zkj (p c_1):Cn (zfB p c_1):=fun g h hg x=>ziJ  _ _ (fun a0 a1 a2 a3 a4=>hg (a0,a1,a2,a3,a4)) p c_1 x.1 x.2.1 x.2.2.1 x.2.2.2.1 x.2.2.2.2
theorem ze3 (p c_1 may i l_1 seen l_2):zal p c_1 may i l_1 seen l_2=za0 p c_1 (zal p c_1) may i l_1 seen l_2:=zaj (zkj p c_1) (may,i,l_1,seen,l_2)
theorem ziI (r3:Nat->Int->Tp20->Option Tp3) (r3':Int->Tp20->Option Tp3) (h_r3:∀ a0 a1,ChO (fun κ=>r3 κ a0 a1) (r3' a0 a1)) (p from' c c_1 c_2 t l):ChO (fun κ=>zaZ p from' c c_1 c_2 (r3 κ) t l) (zaZ p from' c c_1 c_2 r3' t l):=by
  unfold zaZ
  repeat' with_reducible first | exact ChO.const _ | exact h_r3 _ _ | apply ChO.ite | apply ChO.G
theorem zki (p from' c c_1 c_2):Cn (zfA p from' c c_1 c_2):=fun g h hg x=>ziI  _ _ (fun a0 a1=>hg (a0,a1)) p from' c c_1 c_2 x.1 x.2
theorem ze2 (p from' c c_1 c_2 t l):zca p from' c c_1 c_2 t l=zaZ p from' c c_1 c_2 (zca p from' c c_1 c_2) t l:=zaj (zki p from' c c_1 c_2) (t,l)

def zeg (p:Tp4) (from' to c:Int) (c_1:Tp4):Option (Bool×Tp10×Tp13×Tp18×Unit):=
  (zdS p ([from']) c to c_1).bind (fun y'_5=>
  some (y'_5.2.1,y'_5.2.2.2))

def zcF (x' t c:Int) (c_1:Tp4) (c_2:Int):Option (Bool×Int×Tp4×Int):=
  (zcE x' c c_1).bind (fun y'_7=>
  if y'_7.1=true then
  (zeg y'_7.2 x' t c_2 y'_7.2).bind (fun y'_6=>
  some (y'_6.1,c,y'_6.2,c_2)) else
  some (false,c,y'_7.2,c_2))

def zaG (p:Tp4) (i:Int) (l_4:Tp20) (t_1:Int) (l_8:Tp20) (y'_4:Int) (y'_5:Tp4) (y'_6:Int) (r20:Int->Tp27->Option Tp1) (k:Int) (w:Tp27):Option Tp1:=
  G (0<=k/\k < ((l_8++([((ix (ix p.2.2.1 ((ix l_4 i).1)) t_1).1,(i,(((ix (ix p.2.2.1 ((ix l_4 i).1)) t_1).2).1,())))])).length:Int)) (
  G ((k).toNat < (l_8++([((ix (ix p.2.2.1 ((ix l_4 i).1)) t_1).1,(i,(((ix (ix p.2.2.1 ((ix l_4 i).1)) t_1).2).1,())))])).length) (
  if (decide ((0:Int)<=(((ix (l_8++([((ix (ix p.2.2.1 ((ix l_4 i).1)) t_1).1,(i,(((ix (ix p.2.2.1 ((ix l_4 i).1)) t_1).2).1,())))])) k).2).1)))=true then
  G (0<=k/\k < ((l_8++([((ix (ix p.2.2.1 ((ix l_4 i).1)) t_1).1,(i,(((ix (ix p.2.2.1 ((ix l_4 i).1)) t_1).2).1,())))])).length:Int)) (
  G ((k).toNat < (l_8++([((ix (ix p.2.2.1 ((ix l_4 i).1)) t_1).1,(i,(((ix (ix p.2.2.1 ((ix l_4 i).1)) t_1).2).1,())))])).length) (
  G (room w ([(((ix (l_8++([((ix (ix p.2.2.1 ((ix l_4 i).1)) t_1).1,(i,(((ix (ix p.2.2.1 ((ix l_4 i).1)) t_1).2).1,())))])) k).2).2).1]) 8) (
  G (0<=k/\k < ((l_8++([((ix (ix p.2.2.1 ((ix l_4 i).1)) t_1).1,(i,(((ix (ix p.2.2.1 ((ix l_4 i).1)) t_1).2).1,())))])).length:Int)) (
  G ((k).toNat < (l_8++([((ix (ix p.2.2.1 ((ix l_4 i).1)) t_1).1,(i,(((ix (ix p.2.2.1 ((ix l_4 i).1)) t_1).2).1,())))])).length) (
  r20 (((ix (l_8++([((ix (ix p.2.2.1 ((ix l_4 i).1)) t_1).1,(i,(((ix (ix p.2.2.1 ((ix l_4 i).1)) t_1).2).1,())))])) k).2).1) (w++([(((ix (l_8++([((ix (ix p.2.2.1 ((ix l_4 i).1)) t_1).1,(i,(((ix (ix p.2.2.1 ((ix l_4 i).1)) t_1).2).1,())))])) k).2).2).1]))))))) else
  (zcP w).bind (fun y'_8=>
  some ((ix (ix p.2.2.1 ((ix l_4 i).1)) t_1).1,true,y'_8,y'_4,y'_5,y'_6))))
def zeX (p:Tp4) (i:Int) (l_4:Tp20) (t_1:Int) (l_8:Tp20) (y'_4:Int) (y'_5:Tp4) (y'_6:Int):(Int×Tp27->Option Tp1)->Int×Tp27->Option Tp1:=
  fun rec x=>zaG p i l_4 t_1 l_8 y'_4 y'_5 y'_6 (fun k w=>rec (k,w)) x.1 x.2
def zba (p:Tp4) (i:Int) (l_4:Tp20) (t_1:Int) (l_8:Tp20) (y'_4:Int) (y'_5:Tp4) (y'_6 k:Int) (w:Tp27):Option Tp1:=LFix (zeX p i l_4 t_1 l_8 y'_4 y'_5 y'_6 ) (k,w)
def zaq (p:Tp4) (i:Int) (l_4:Tp20) (r9:(Int->Int->Int->Int->Tp4->Int->Tp20->Tp26->Option Tp1)) (r12:Tf5) (may_1 ok_1 t_1 l_5:Int) (l_6:Tp4) (l_7:Int) (l_8:Tp20) (seen_1:Tp26):Option Tp1:=
  if (decide (t_1 < ((ix p.2.2.1 ((ix l_4 i).1)).length:Int)))=true then
  G (0<=t_1/\t_1 < ((ix p.2.2.1 ((ix l_4 i).1)).length:Int)) (
  G (0<=(ix (ix p.2.2.1 ((ix l_4 i).1)) t_1).1/\(ix (ix p.2.2.1 ((ix l_4 i).1)) t_1).1 < (seen_1.length:Int)) (
  G (((ix (ix p.2.2.1 ((ix l_4 i).1)) t_1).1).toNat < seen_1.length) (
  if (ix seen_1 ((ix (ix p.2.2.1 ((ix l_4 i).1)) t_1).1))=true then
  G (fits (t_1+(1:Int))) (
  r12 may_1 ok_1 (t_1+(1:Int)) l_5 l_6 l_7 l_8 seen_1) else
  (za4 ((ix (ix p.2.2.1 ((ix l_4 i).1)) t_1).1) may_1 l_6).bind (fun y'_10=>
  if (!y'_10.1)=true then
  G (fits (t_1+(1:Int))) (
  r12 may_1 ok_1 (t_1+(1:Int)) l_5 y'_10.2 l_7 l_8 seen_1) else
  G (0<=(ix (ix p.2.2.1 ((ix l_4 i).1)) t_1).1/\(ix (ix p.2.2.1 ((ix l_4 i).1)) t_1).1 < (seen_1.length:Int)) (
  G (((ix (ix p.2.2.1 ((ix l_4 i).1)) t_1).1).toNat < seen_1.length) (
  G (room l_8 ([((ix (ix p.2.2.1 ((ix l_4 i).1)) t_1).1,(i,(((ix (ix p.2.2.1 ((ix l_4 i).1)) t_1).2).1,())))]) 24) (
  (zcF ((ix (ix p.2.2.1 ((ix l_4 i).1)) t_1).1) ok_1 l_5 y'_10.2 l_7).bind (fun y'_9=>
  if (!y'_9.1)=true then
  G (fits (t_1+(1:Int))) (
  r12 may_1 ok_1 (t_1+(1:Int)) y'_9.2.1 y'_9.2.2.1 y'_9.2.2.2 (l_8++([((ix (ix p.2.2.1 ((ix l_4 i).1)) t_1).1,(i,(((ix (ix p.2.2.1 ((ix l_4 i).1)) t_1).2).1,())))])) (seen_1.set ((ix (ix p.2.2.1 ((ix l_4 i).1)) t_1).1).toNat true)) else
  G (fits (((l_8++([((ix (ix p.2.2.1 ((ix l_4 i).1)) t_1).1,(i,(((ix (ix p.2.2.1 ((ix l_4 i).1)) t_1).2).1,())))])).length:Int) - (1:Int))) (
  zba p i l_4 t_1 l_8 y'_9.2.1 y'_9.2.2.1 y'_9.2.2.2 (((l_8++([((ix (ix p.2.2.1 ((ix l_4 i).1)) t_1).1,(i,(((ix (ix p.2.2.1 ((ix l_4 i).1)) t_1).2).1,())))])).length:Int) - (1:Int)) ([])))))))))) else
  G (fits (i+(1:Int))) (
  r9 may_1 ok_1 (i+(1:Int)) l_5 l_6 l_7 l_8 seen_1)
def zeW (p:Tp4) (i:Int) (l_4:Tp20) (r9:(Int->Int->Int->Int->Tp4->Int->Tp20->Tp26->Option Tp1)):(Int×Int×Int×Int×Tp4×Int×Tp20×Tp26->Option Tp1)->Int×Int×Int×Int×Tp4×Int×Tp20×Tp26->Option Tp1:=
  fun rec x=>zaq p i l_4 r9 (fun may_1 ok_1 t_1 l_5 l_6 l_7 l_8 seen_1=>rec (may_1,ok_1,t_1,l_5,l_6,l_7,l_8,seen_1)) x.1 x.2.1 x.2.2.1 x.2.2.2.1 x.2.2.2.2.1 x.2.2.2.2.2.1 x.2.2.2.2.2.2.1 x.2.2.2.2.2.2.2
def zau (p:Tp4) (i:Int) (l_4:Tp20) (r9:(Int->Int->Int->Int->Tp4->Int->Tp20->Tp26->Option Tp1)) (may_1 ok_1 t_1 l_5:Int) (l_6:Tp4) (l_7:Int) (l_8:Tp20) (seen_1:Tp26):Option Tp1:=LFix (zeW p i l_4 r9 ) (may_1,ok_1,t_1,l_5,l_6,l_7,l_8,seen_1)
def zaY (p:Tp4) (r9:Tf5) (may ok i l_1:Int) (l_2:Tp4) (l_3:Int) (l_4:Tp20) (seen:Tp26):Option Tp1:=
  if (decide (i < (l_4.length:Int)))=true then
  G (0<=i/\i < (l_4.length:Int)) (
  G ((i).toNat < l_4.length) (
  G (0<=(ix l_4 i).1/\(ix l_4 i).1 < (p.2.2.1.length:Int)) (
  zau p i l_4 r9 may ok (0:Int) l_1 l_2 l_3 l_4 seen))) else
  some ((0:Int),false,[],l_1,l_2,l_3)
def zfz (p:Tp4):(Int×Int×Int×Int×Tp4×Int×Tp20×Tp26->Option Tp1)->Int×Int×Int×Int×Tp4×Int×Tp20×Tp26->Option Tp1:=
  fun rec x=>zaY p (fun may ok i l_1 l_2 l_3 l_4 seen=>rec (may,ok,i,l_1,l_2,l_3,l_4,seen)) x.1 x.2.1 x.2.2.1 x.2.2.2.1 x.2.2.2.2.1 x.2.2.2.2.2.1 x.2.2.2.2.2.2.1 x.2.2.2.2.2.2.2
def zak (p:Tp4) (may ok i l_1:Int) (l_2:Tp4) (l_3:Int) (l_4:Tp20) (seen:Tp26):Option Tp1:=LFix (zfz p ) (may,ok,i,l_1,l_2,l_3,l_4,seen)
def zaX (p:Tp4) (from':Tp27) (c c_1 c_2:Int) (c_3:Tp4) (c_4:Int) (r3:Int->Tp20->Option Tp1) (t:Int) (l:Tp20):Option Tp1:=
  if (decide (t < (from'.length:Int)))=true then
  G (0<=t/\t < (from'.length:Int)) (
  G (room l ([(ix from' t,((-1:Int),((0:Int),())))]) 24) (
  G (fits (t+(1:Int))) (
  r3 (t+(1:Int)) (l++([(ix from' t,((-1:Int),((0:Int),())))]))))) else
  G (mkOK (p.2.2.1.length:Int) (p.2.2.1.length:Int) 1) (
  zak p c c_1 (0:Int) c_2 c_3 c_4 l (List.replicate ((p.2.2.1.length:Int)).toNat (false:Bool)))
def zfy (p:Tp4) (from':Tp27) (c c_1 c_2:Int) (c_3:Tp4) (c_4:Int):(Int×Tp20->Option Tp1)->Int×Tp20->Option Tp1:=
  fun rec x=>zaX p from' c c_1 c_2 c_3 c_4 (fun t l=>rec (t,l)) x.1 x.2
def zb9 (p:Tp4) (from':Tp27) (c c_1 c_2:Int) (c_3:Tp4) (c_4 t:Int) (l:Tp20):Option Tp1:=LFix (zfy p from' c c_1 c_2 c_3 c_4 ) (t,l)
def zdR (p:Tp4) (from':Tp27) (c c_1 c_2:Int) (c_3:Tp4) (c_4:Int):Option Tp1:=
  zb9 p from' c c_1 c_2 c_3 c_4 (0:Int) ([])
theorem zh1 (r20:Nat->Int->Tp27->Option Tp1) (r20':Int->Tp27->Option Tp1) (h_r20:∀ a0 a1,ChO (fun κ=>r20 κ a0 a1) (r20' a0 a1)) (p i l_4 t_1 l_8 y'_4 y'_5 y'_6 k w):ChO (fun κ=>zaG p i l_4 t_1 l_8 y'_4 y'_5 y'_6 (r20 κ) k w) (zaG p i l_4 t_1 l_8 y'_4 y'_5 y'_6 r20' k w):=by
  unfold zaG
  repeat' with_reducible first | exact ChO.const _ | exact h_r20 _ _ | apply ChO.ite | apply ChO.G | (apply ChO.bind;intro _)
theorem zjw (p i l_4 t_1 l_8 y'_4 y'_5 y'_6):Cn (zeX p i l_4 t_1 l_8 y'_4 y'_5 y'_6):=fun g h hg x=>zh1  _ _ (fun a0 a1=>hg (a0,a1)) p i l_4 t_1 l_8 y'_4 y'_5 y'_6 x.1 x.2
theorem zjx (p i l_4 t_1 l_8 y'_4 y'_5 y'_6 k w):zba p i l_4 t_1 l_8 y'_4 y'_5 y'_6 k w=zaG p i l_4 t_1 l_8 y'_4 y'_5 y'_6 (zba p i l_4 t_1 l_8 y'_4 y'_5 y'_6) k w:=zaj (zjw p i l_4 t_1 l_8 y'_4 y'_5 y'_6) (k,w)
theorem zdX (r9:Nat->Tf5) (r9':Tf5) (h_r9:∀ a0 a1 a2 a3 a4 a5 a6 a7,ChO (fun κ=>r9 κ a0 a1 a2 a3 a4 a5 a6 a7) (r9' a0 a1 a2 a3 a4 a5 a6 a7)) (r12:Nat->Tf5) (r12':Tf5) (h_r12:∀ a0 a1 a2 a3 a4 a5 a6 a7,ChO (fun κ=>r12 κ a0 a1 a2 a3 a4 a5 a6 a7) (r12' a0 a1 a2 a3 a4 a5 a6 a7)) (p i l_4 may_1 ok_1 t_1 l_5 l_6 l_7 l_8 seen_1):ChO (fun κ=>zaq p i l_4 (r9 κ) (r12 κ) may_1 ok_1 t_1 l_5 l_6 l_7 l_8 seen_1) (zaq p i l_4 r9' r12' may_1 ok_1 t_1 l_5 l_6 l_7 l_8 seen_1):=by
  unfold zaq
  repeat' with_reducible first | exact ChO.const _ | exact h_r9 _ _ _ _ _ _ _ _ | exact h_r12 _ _ _ _ _ _ _ _ | apply ChO.ite | apply ChO.G | (apply ChO.bind;intro _)
theorem zcT (r9 p i l_4):Cn (zeW p i l_4 r9):=fun g h hg x=>zdX (fun _=>r9) r9 (fun _ _ _ _ _ _ _ _=>ChO.const _) _ _ (fun a0 a1 a2 a3 a4 a5 a6 a7=>hg (a0,a1,a2,a3,a4,a5,a6,a7)) p i l_4 x.1 x.2.1 x.2.2.1 x.2.2.2.1 x.2.2.2.2.1 x.2.2.2.2.2.1 x.2.2.2.2.2.2.1 x.2.2.2.2.2.2.2
theorem zev (r9 p i l_4 may_1 ok_1 t_1 l_5 l_6 l_7 l_8 seen_1):zau p i l_4 r9 may_1 ok_1 t_1 l_5 l_6 l_7 l_8 seen_1=zaq p i l_4 r9 (zau p i l_4 r9) may_1 ok_1 t_1 l_5 l_6 l_7 l_8 seen_1:=zaj (zcT r9 p i l_4) (may_1,ok_1,t_1,l_5,l_6,l_7,l_8,seen_1)
theorem zjv (r9:Nat->Tf5) (r9':Tf5) (h_r9:∀ a0 a1 a2 a3 a4 a5 a6 a7,ChO (fun κ=>r9 κ a0 a1 a2 a3 a4 a5 a6 a7) (r9' a0 a1 a2 a3 a4 a5 a6 a7)) (p i l_4 may_1 ok_1 t_1 l_5 l_6 l_7 l_8 seen_1):ChO (fun κ=>zau p i l_4 (r9 κ) may_1 ok_1 t_1 l_5 l_6 l_7 l_8 seen_1) (zau p i l_4 r9' may_1 ok_1 t_1 l_5 l_6 l_7 l_8 seen_1):=by
  unfold zau
  exact zdp (fun κ=>(zcT (r9 κ) p i l_4).mono) (zcT r9' p i l_4).mono (fun g h hg x=>zdX r9 r9' h_r9 _ _ (fun a0 a1 a2 a3 a4 a5 a6 a7=>hg (a0,a1,a2,a3,a4,a5,a6,a7)) p i l_4 x.1 x.2.1 x.2.2.1 x.2.2.2.1 x.2.2.2.2.1 x.2.2.2.2.2.1 x.2.2.2.2.2.2.1 x.2.2.2.2.2.2.2) _
theorem ziH (r9:Nat->Tf5) (r9':Tf5) (h_r9:∀ a0 a1 a2 a3 a4 a5 a6 a7,ChO (fun κ=>r9 κ a0 a1 a2 a3 a4 a5 a6 a7) (r9' a0 a1 a2 a3 a4 a5 a6 a7)) (p may ok i l_1 l_2 l_3 l_4 seen):ChO (fun κ=>zaY p (r9 κ) may ok i l_1 l_2 l_3 l_4 seen) (zaY p r9' may ok i l_1 l_2 l_3 l_4 seen):=by
  unfold zaY
  repeat' with_reducible first | exact ChO.const _ | exact h_r9 _ _ _ _ _ _ _ _ | (apply zjv<;>assumption) | apply ChO.ite | apply ChO.G
theorem zkh (p):Cn (zfz p):=fun g h hg x=>ziH  _ _ (fun a0 a1 a2 a3 a4 a5 a6 a7=>hg (a0,a1,a2,a3,a4,a5,a6,a7)) p x.1 x.2.1 x.2.2.1 x.2.2.2.1 x.2.2.2.2.1 x.2.2.2.2.2.1 x.2.2.2.2.2.2.1 x.2.2.2.2.2.2.2
theorem zeZ (p may ok i l_1 l_2 l_3 l_4 seen):zak p may ok i l_1 l_2 l_3 l_4 seen=zaY p (zak p) may ok i l_1 l_2 l_3 l_4 seen:=zaj (zkh p) (may,ok,i,l_1,l_2,l_3,l_4,seen)
theorem ziG (r3:Nat->Int->Tp20->Option Tp1) (r3':Int->Tp20->Option Tp1) (h_r3:∀ a0 a1,ChO (fun κ=>r3 κ a0 a1) (r3' a0 a1)) (p from' c c_1 c_2 c_3 c_4 t l):ChO (fun κ=>zaX p from' c c_1 c_2 c_3 c_4 (r3 κ) t l) (zaX p from' c c_1 c_2 c_3 c_4 r3' t l):=by
  unfold zaX
  repeat' with_reducible first | exact ChO.const _ | exact h_r3 _ _ | apply ChO.ite | apply ChO.G
theorem zkg (p from' c c_1 c_2 c_3 c_4):Cn (zfy p from' c c_1 c_2 c_3 c_4):=fun g h hg x=>ziG  _ _ (fun a0 a1=>hg (a0,a1)) p from' c c_1 c_2 c_3 c_4 x.1 x.2
theorem zeY (p from' c c_1 c_2 c_3 c_4 t l):zb9 p from' c c_1 c_2 c_3 c_4 t l=zaX p from' c c_1 c_2 c_3 c_4 (zb9 p from' c c_1 c_2 c_3 c_4) t l:=zaj (zkg p from' c c_1 c_2 c_3 c_4) (t,l)

def zdx (x' t:Int):Option (Bool):=
  some (decide (x'=t))

def zaI (p:Tp4) (i:Int) (l_1:Tp20) (t_1:Int) (l_3:Tp20) (y'_1:Tp4) (r20:Int->Tp27->Option Tp3) (k:Int) (w:Tp27):Option Tp3:=
  G (0<=k/\k < ((l_3++([((ix (ix p.2.2.1 ((ix l_1 i).1)) t_1).1,(i,(((ix (ix p.2.2.1 ((ix l_1 i).1)) t_1).2).1,())))])).length:Int)) (
  G ((k).toNat < (l_3++([((ix (ix p.2.2.1 ((ix l_1 i).1)) t_1).1,(i,(((ix (ix p.2.2.1 ((ix l_1 i).1)) t_1).2).1,())))])).length) (
  if (decide ((0:Int)<=(((ix (l_3++([((ix (ix p.2.2.1 ((ix l_1 i).1)) t_1).1,(i,(((ix (ix p.2.2.1 ((ix l_1 i).1)) t_1).2).1,())))])) k).2).1)))=true then
  G (0<=k/\k < ((l_3++([((ix (ix p.2.2.1 ((ix l_1 i).1)) t_1).1,(i,(((ix (ix p.2.2.1 ((ix l_1 i).1)) t_1).2).1,())))])).length:Int)) (
  G ((k).toNat < (l_3++([((ix (ix p.2.2.1 ((ix l_1 i).1)) t_1).1,(i,(((ix (ix p.2.2.1 ((ix l_1 i).1)) t_1).2).1,())))])).length) (
  G (room w ([(((ix (l_3++([((ix (ix p.2.2.1 ((ix l_1 i).1)) t_1).1,(i,(((ix (ix p.2.2.1 ((ix l_1 i).1)) t_1).2).1,())))])) k).2).2).1]) 8) (
  G (0<=k/\k < ((l_3++([((ix (ix p.2.2.1 ((ix l_1 i).1)) t_1).1,(i,(((ix (ix p.2.2.1 ((ix l_1 i).1)) t_1).2).1,())))])).length:Int)) (
  G ((k).toNat < (l_3++([((ix (ix p.2.2.1 ((ix l_1 i).1)) t_1).1,(i,(((ix (ix p.2.2.1 ((ix l_1 i).1)) t_1).2).1,())))])).length) (
  r20 (((ix (l_3++([((ix (ix p.2.2.1 ((ix l_1 i).1)) t_1).1,(i,(((ix (ix p.2.2.1 ((ix l_1 i).1)) t_1).2).1,())))])) k).2).1) (w++([(((ix (l_3++([((ix (ix p.2.2.1 ((ix l_1 i).1)) t_1).1,(i,(((ix (ix p.2.2.1 ((ix l_1 i).1)) t_1).2).1,())))])) k).2).2).1]))))))) else
  (zcP w).bind (fun y'_4=>
  some ((ix (ix p.2.2.1 ((ix l_1 i).1)) t_1).1,true,y'_4,y'_1))))
def ze5 (p:Tp4) (i:Int) (l_1:Tp20) (t_1:Int) (l_3:Tp20) (y'_1:Tp4):(Int×Tp27->Option Tp3)->Int×Tp27->Option Tp3:=
  fun rec x=>zaI p i l_1 t_1 l_3 y'_1 (fun k w=>rec (k,w)) x.1 x.2
def zbc (p:Tp4) (i:Int) (l_1:Tp20) (t_1:Int) (l_3:Tp20) (y'_1:Tp4) (k:Int) (w:Tp27):Option Tp3:=LFix (ze5 p i l_1 t_1 l_3 y'_1 ) (k,w)
def zas (p:Tp4) (c_1 i:Int) (l_1:Tp20) (r9:(Int->Int->Tp20->Tp26->Tp4->Option Tp3)) (r12:Tf10) (may_1 t_1:Int) (l_3:Tp20) (seen_1:Tp26) (l_4:Tp4):Option Tp3:=
  if (decide (t_1 < ((ix p.2.2.1 ((ix l_1 i).1)).length:Int)))=true then
  G (0<=t_1/\t_1 < ((ix p.2.2.1 ((ix l_1 i).1)).length:Int)) (
  G (0<=(ix (ix p.2.2.1 ((ix l_1 i).1)) t_1).1/\(ix (ix p.2.2.1 ((ix l_1 i).1)) t_1).1 < (seen_1.length:Int)) (
  G (((ix (ix p.2.2.1 ((ix l_1 i).1)) t_1).1).toNat < seen_1.length) (
  if (ix seen_1 ((ix (ix p.2.2.1 ((ix l_1 i).1)) t_1).1))=true then
  G (fits (t_1+(1:Int))) (
  r12 may_1 (t_1+(1:Int)) l_3 seen_1 l_4) else
  (za4 ((ix (ix p.2.2.1 ((ix l_1 i).1)) t_1).1) may_1 l_4).bind (fun y'_5=>
  if (!y'_5.1)=true then
  G (fits (t_1+(1:Int))) (
  r12 may_1 (t_1+(1:Int)) l_3 seen_1 y'_5.2) else
  G (0<=(ix (ix p.2.2.1 ((ix l_1 i).1)) t_1).1/\(ix (ix p.2.2.1 ((ix l_1 i).1)) t_1).1 < (seen_1.length:Int)) (
  G (((ix (ix p.2.2.1 ((ix l_1 i).1)) t_1).1).toNat < seen_1.length) (
  G (room l_3 ([((ix (ix p.2.2.1 ((ix l_1 i).1)) t_1).1,(i,(((ix (ix p.2.2.1 ((ix l_1 i).1)) t_1).2).1,())))]) 24) (
  (zdx ((ix (ix p.2.2.1 ((ix l_1 i).1)) t_1).1) c_1).bind (fun y'_3=>
  if (!y'_3)=true then
  G (fits (t_1+(1:Int))) (
  r12 may_1 (t_1+(1:Int)) (l_3++([((ix (ix p.2.2.1 ((ix l_1 i).1)) t_1).1,(i,(((ix (ix p.2.2.1 ((ix l_1 i).1)) t_1).2).1,())))])) (seen_1.set ((ix (ix p.2.2.1 ((ix l_1 i).1)) t_1).1).toNat true) y'_5.2) else
  G (fits (((l_3++([((ix (ix p.2.2.1 ((ix l_1 i).1)) t_1).1,(i,(((ix (ix p.2.2.1 ((ix l_1 i).1)) t_1).2).1,())))])).length:Int) - (1:Int))) (
  zbc p i l_1 t_1 l_3 y'_5.2 (((l_3++([((ix (ix p.2.2.1 ((ix l_1 i).1)) t_1).1,(i,(((ix (ix p.2.2.1 ((ix l_1 i).1)) t_1).2).1,())))])).length:Int) - (1:Int)) ([])))))))))) else
  G (fits (i+(1:Int))) (
  r9 may_1 (i+(1:Int)) l_3 seen_1 l_4)
def ze4 (p:Tp4) (c_1 i:Int) (l_1:Tp20) (r9:(Int->Int->Tp20->Tp26->Tp4->Option Tp3)):(Int×Int×Tp20×Tp26×Tp10×Tp13×Tp18×Unit->Option Tp3)->Int×Int×Tp20×Tp26×Tp10×Tp13×Tp18×Unit->Option Tp3:=
  fun rec x=>zas p c_1 i l_1 r9 (fun may_1 t_1 l_3 seen_1 l_4=>rec (may_1,t_1,l_3,seen_1,l_4)) x.1 x.2.1 x.2.2.1 x.2.2.2.1 x.2.2.2.2
def zaw (p:Tp4) (c_1 i:Int) (l_1:Tp20) (r9:(Int->Int->Tp20->Tp26->Tp4->Option Tp3)) (may_1 t_1:Int) (l_3:Tp20) (seen_1:Tp26) (l_4:Tp4):Option Tp3:=LFix (ze4 p c_1 i l_1 r9 ) (may_1,t_1,l_3,seen_1,l_4)
def za2 (p:Tp4) (c_1:Int) (r9:Tf10) (may i:Int) (l_1:Tp20) (seen:Tp26) (l_2:Tp4):Option Tp3:=
  if (decide (i < (l_1.length:Int)))=true then
  G (0<=i/\i < (l_1.length:Int)) (
  G ((i).toNat < l_1.length) (
  G (0<=(ix l_1 i).1/\(ix l_1 i).1 < (p.2.2.1.length:Int)) (
  zaw p c_1 i l_1 r9 may (0:Int) l_1 seen l_2))) else
  some ((0:Int),false,[],l_2)
def zfD (p:Tp4) (c_1:Int):(Int×Int×Tp20×Tp26×Tp10×Tp13×Tp18×Unit->Option Tp3)->Int×Int×Tp20×Tp26×Tp10×Tp13×Tp18×Unit->Option Tp3:=
  fun rec x=>za2 p c_1 (fun may i l_1 seen l_2=>rec (may,i,l_1,seen,l_2)) x.1 x.2.1 x.2.2.1 x.2.2.2.1 x.2.2.2.2
def zam (p:Tp4) (c_1 may i:Int) (l_1:Tp20) (seen:Tp26) (l_2:Tp4):Option Tp3:=LFix (zfD p c_1 ) (may,i,l_1,seen,l_2)
def za1 (p:Tp4) (from':Tp27) (c c_1:Int) (c_2:Tp4) (r3:Int->Tp20->Option Tp3) (t:Int) (l:Tp20):Option Tp3:=
  if (decide (t < (from'.length:Int)))=true then
  G (0<=t/\t < (from'.length:Int)) (
  G (room l ([(ix from' t,((-1:Int),((0:Int),())))]) 24) (
  G (fits (t+(1:Int))) (
  r3 (t+(1:Int)) (l++([(ix from' t,((-1:Int),((0:Int),())))]))))) else
  G (mkOK (p.2.2.1.length:Int) (p.2.2.1.length:Int) 1) (
  zam p c_1 c (0:Int) l (List.replicate ((p.2.2.1.length:Int)).toNat (false:Bool)) c_2)
def zfC (p:Tp4) (from':Tp27) (c c_1:Int) (c_2:Tp4):(Int×Tp20->Option Tp3)->Int×Tp20->Option Tp3:=
  fun rec x=>za1 p from' c c_1 c_2 (fun t l=>rec (t,l)) x.1 x.2
def zcb (p:Tp4) (from':Tp27) (c c_1:Int) (c_2:Tp4) (t:Int) (l:Tp20):Option Tp3:=LFix (zfC p from' c c_1 c_2 ) (t,l)
def zcV (p:Tp4) (from':Tp27) (c c_1:Int) (c_2:Tp4):Option Tp3:=
  zcb p from' c c_1 c_2 (0:Int) ([])
theorem zh3 (r20:Nat->Int->Tp27->Option Tp3) (r20':Int->Tp27->Option Tp3) (h_r20:∀ a0 a1,ChO (fun κ=>r20 κ a0 a1) (r20' a0 a1)) (p i l_1 t_1 l_3 y'_1 k w):ChO (fun κ=>zaI p i l_1 t_1 l_3 y'_1 (r20 κ) k w) (zaI p i l_1 t_1 l_3 y'_1 r20' k w):=by
  unfold zaI
  repeat' with_reducible first | exact ChO.const _ | exact h_r20 _ _ | apply ChO.ite | apply ChO.G | (apply ChO.bind;intro _)
theorem zjC (p i l_1 t_1 l_3 y'_1):Cn (ze5 p i l_1 t_1 l_3 y'_1):=fun g h hg x=>zh3  _ _ (fun a0 a1=>hg (a0,a1)) p i l_1 t_1 l_3 y'_1 x.1 x.2
theorem zjD (p i l_1 t_1 l_3 y'_1 k w):zbc p i l_1 t_1 l_3 y'_1 k w=zaI p i l_1 t_1 l_3 y'_1 (zbc p i l_1 t_1 l_3 y'_1) k w:=zaj (zjC p i l_1 t_1 l_3 y'_1) (k,w)
theorem zdZ (r9:Nat->Tf10) (r9':Tf10) (h_r9:∀ a0 a1 a2 a3 a4,ChO (fun κ=>r9 κ a0 a1 a2 a3 a4) (r9' a0 a1 a2 a3 a4)) (r12:Nat->Tf10) (r12':Tf10) (h_r12:∀ a0 a1 a2 a3 a4,ChO (fun κ=>r12 κ a0 a1 a2 a3 a4) (r12' a0 a1 a2 a3 a4)) (p c_1 i l_1 may_1 t_1 l_3 seen_1 l_4):ChO (fun κ=>zas p c_1 i l_1 (r9 κ) (r12 κ) may_1 t_1 l_3 seen_1 l_4) (zas p c_1 i l_1 r9' r12' may_1 t_1 l_3 seen_1 l_4):=by
  unfold zas
  repeat' with_reducible first | exact ChO.const _ | exact h_r9 _ _ _ _ _ | exact h_r12 _ _ _ _ _ | apply ChO.ite | apply ChO.G | (apply ChO.bind;intro _)
theorem zcW (r9 p c_1 i l_1):Cn (ze4 p c_1 i l_1 r9):=fun g h hg x=>zdZ (fun _=>r9) r9 (fun _ _ _ _ _=>ChO.const _) _ _ (fun a0 a1 a2 a3 a4=>hg (a0,a1,a2,a3,a4)) p c_1 i l_1 x.1 x.2.1 x.2.2.1 x.2.2.2.1 x.2.2.2.2
theorem zex (r9 p c_1 i l_1 may_1 t_1 l_3 seen_1 l_4):zaw p c_1 i l_1 r9 may_1 t_1 l_3 seen_1 l_4=zas p c_1 i l_1 r9 (zaw p c_1 i l_1 r9) may_1 t_1 l_3 seen_1 l_4:=zaj (zcW r9 p c_1 i l_1) (may_1,t_1,l_3,seen_1,l_4)
theorem zjB (r9:Nat->Tf10) (r9':Tf10) (h_r9:∀ a0 a1 a2 a3 a4,ChO (fun κ=>r9 κ a0 a1 a2 a3 a4) (r9' a0 a1 a2 a3 a4)) (p c_1 i l_1 may_1 t_1 l_3 seen_1 l_4):ChO (fun κ=>zaw p c_1 i l_1 (r9 κ) may_1 t_1 l_3 seen_1 l_4) (zaw p c_1 i l_1 r9' may_1 t_1 l_3 seen_1 l_4):=by
  unfold zaw
  exact zdp (fun κ=>(zcW (r9 κ) p c_1 i l_1).mono) (zcW r9' p c_1 i l_1).mono (fun g h hg x=>zdZ r9 r9' h_r9 _ _ (fun a0 a1 a2 a3 a4=>hg (a0,a1,a2,a3,a4)) p c_1 i l_1 x.1 x.2.1 x.2.2.1 x.2.2.2.1 x.2.2.2.2) _
theorem ziL (r9:Nat->Tf10) (r9':Tf10) (h_r9:∀ a0 a1 a2 a3 a4,ChO (fun κ=>r9 κ a0 a1 a2 a3 a4) (r9' a0 a1 a2 a3 a4)) (p c_1 may i l_1 seen l_2):ChO (fun κ=>za2 p c_1 (r9 κ) may i l_1 seen l_2) (za2 p c_1 r9' may i l_1 seen l_2):=by
  unfold za2
  repeat' with_reducible first | exact ChO.const _ | exact h_r9 _ _ _ _ _ | (apply zjB<;>assumption) | apply ChO.ite | apply ChO.G
theorem zkl (p c_1):Cn (zfD p c_1):=fun g h hg x=>ziL  _ _ (fun a0 a1 a2 a3 a4=>hg (a0,a1,a2,a3,a4)) p c_1 x.1 x.2.1 x.2.2.1 x.2.2.2.1 x.2.2.2.2
theorem ze7 (p c_1 may i l_1 seen l_2):zam p c_1 may i l_1 seen l_2=za2 p c_1 (zam p c_1) may i l_1 seen l_2:=zaj (zkl p c_1) (may,i,l_1,seen,l_2)
theorem ziK (r3:Nat->Int->Tp20->Option Tp3) (r3':Int->Tp20->Option Tp3) (h_r3:∀ a0 a1,ChO (fun κ=>r3 κ a0 a1) (r3' a0 a1)) (p from' c c_1 c_2 t l):ChO (fun κ=>za1 p from' c c_1 c_2 (r3 κ) t l) (za1 p from' c c_1 c_2 r3' t l):=by
  unfold za1
  repeat' with_reducible first | exact ChO.const _ | exact h_r3 _ _ | apply ChO.ite | apply ChO.G
theorem zkk (p from' c c_1 c_2):Cn (zfC p from' c c_1 c_2):=fun g h hg x=>ziK  _ _ (fun a0 a1=>hg (a0,a1)) p from' c c_1 c_2 x.1 x.2
theorem ze6 (p from' c c_1 c_2 t l):zcb p from' c c_1 c_2 t l=za1 p from' c c_1 c_2 (zcb p from' c c_1 c_2) t l:=zaj (zkk p from' c c_1 c_2) (t,l)

def zaL (head:Tp27) (at' t_2:Int) (r19:(Int->Int->Tp4->Int->Option Tp16)) (mid:Int) (p_4:Tp4) (may_2:Int) (one:Tp27):Option Tp16:=
  (zcV p_4 ([mid]) may_2 at' p_4).bind (fun y'_23=>
  if y'_23.2.1=true then
  G (room one y'_23.2.2.1 8) (
  some ((head,(one++y'_23.2.2.1,())),true)) else
  G (fits (t_2+(1:Int))) (
  r19 at' (t_2+(1:Int)) y'_23.2.2.2 may_2))
def zaC (t_1:Int) (r11:(Int->Tp4->Int->Option Tp16)) (p_2:Tp4) (head:Tp27) (r19:Tf12) (at' t_2:Int) (p_3:Tp4) (may_1:Int):Option Tp16:=
  if (decide (t_2 < (p_2.1.2.2.2.2.1.length:Int)))=true then
  G (0<=t_2/\t_2 < (p_2.1.2.2.2.2.1.length:Int)) (
  (zcE at' (ix p_2.1.2.2.2.2.1 t_2) p_3).bind (fun y'_25=>
  if (!y'_25.1)=true then
  (zdR y'_25.2 ([at']) may_1 at' (ix p_2.1.2.2.2.2.1 t_2) y'_25.2 may_1).bind (fun y'_24=>
  if (!y'_24.2.1)=true then
  G (fits (t_2+(1:Int))) (
  r19 at' (t_2+(1:Int)) y'_24.2.2.2.2.1 y'_24.2.2.2.2.2) else
  zaL head at' t_2 r19 y'_24.1 y'_24.2.2.2.2.1 y'_24.2.2.2.2.2 y'_24.2.2.1) else
  zaL head at' t_2 r19 at' y'_25.2 may_1 ([]))) else
  G (fits (t_1+(1:Int))) (
  r11 (t_1+(1:Int)) p_3 may_1)
def zfu (t_1:Int) (r11:(Int->Tp4->Int->Option Tp16)) (p_2:Tp4) (head:Tp27):(Int×Int×Tp4×Int->Option Tp16)->Int×Int×Tp4×Int->Option Tp16:=
  fun rec x=>zaC t_1 r11 p_2 head (fun at' t_2 p_3 may_1=>rec (at',t_2,p_3,may_1)) x.1 x.2.1 x.2.2.1 x.2.2.2
def zae (t_1:Int) (r11:(Int->Tp4->Int->Option Tp16)) (p_2:Tp4) (head:Tp27) (at' t_2:Int) (p_3:Tp4) (may_1:Int):Option Tp16:=LFix (zfu t_1 r11 p_2 head ) (at',t_2,p_3,may_1)
def zah (t_1 may:Int) (r11:(Int->Tp4->Int->Option Tp16)) (p_2:Tp4) (ok:Bool) (head:Tp27):Option Tp16:=
  if (!ok)=true then
  G (fits (t_1+(1:Int))) (
  r11 (t_1+(1:Int)) p_2 may) else
  zae t_1 r11 p_2 head t_1 (0:Int) p_2 may
def zbj (start:Tp27) (t_1 may:Int) (r11:(Int->Tp4->Int->Option Tp16)) (p_2:Tp4):Option Tp16:=
  (zcY start t_1).bind (fun y'_3=>
  if (!y'_3)=true then
  (zcw p_2 start t_1).bind (fun y'_26=>
  zah t_1 may r11 p_2 y'_26.2.1 y'_26.2.2) else
  zah t_1 may r11 p_2 y'_3 ([]))
def zaK (p:Tp4) (m:Int) (start:Tp27) (r11:Int->Tp4->Int->Option Tp16) (t_1:Int) (p_1:Tp4) (may:Int):Option Tp16:=
  if (decide (t_1 < (p.2.2.1.length:Int)))=true then
  both [(.pair (.list (.int .i64)) Tc16),.bool] (
  (zbA t_1 p_1).bind (fun y'_27=>
  if (decide (¬ y'_27.1=m))=true then
  G (fits (t_1+(1:Int))) (
  r11 (t_1+(1:Int)) y'_27.2 may) else
  zbj start t_1 may r11 y'_27.2)) (
  (zbA t_1 p_1).bind (fun y'_31=>
  if (decide (¬ y'_31.1=m))=true then
  G (fits (t_1+(1:Int))) (
  r11 (t_1+(1:Int)) y'_31.2 may) else
  zbj start t_1 may r11 y'_31.2)) else
  some (([],([],())),false)
def zft (p:Tp4) (m:Int) (start:Tp27):(Int×Tp4×Int->Option Tp16)->Int×Tp4×Int->Option Tp16:=
  fun rec x=>zaK p m start (fun t_1 p_1 may=>rec (t_1,p_1,may)) x.1 x.2.1 x.2.2
def zad (p:Tp4) (m:Int) (start:Tp27) (t_1:Int) (p_1:Tp4) (may:Int):Option Tp16:=LFix (zft p m start ) (t_1,p_1,may)
def za9 (p:Tp4) (m:Int) (r5:Int->Tp27->Option Tp16) (t:Int) (start:Tp27):Option Tp16:=
  if (decide (t < (p.1.2.2.1.length:Int)))=true then
  G (0<=t/\t < (p.1.2.2.1.length:Int)) (
  G (fits (p.2.1.2.1 * p.1.2.1)) (
  G (fits ((p.2.1.2.1 * p.1.2.1)+(ix p.1.2.2.1 t))) (
  G (room start ([(p.2.1.2.1 * p.1.2.1)+(ix p.1.2.2.1 t)]) 8) (
  G (fits (t+(1:Int))) (
  r5 (t+(1:Int)) (start++([(p.2.1.2.1 * p.1.2.1)+(ix p.1.2.2.1 t)]))))))) else
  zad p m start (0:Int) p m
def zgp (p:Tp4) (m:Int):(Int×Tp27->Option Tp16)->Int×Tp27->Option Tp16:=
  fun rec x=>za9 p m (fun t start=>rec (t,start)) x.1 x.2
def zdf (p:Tp4) (m t:Int) (start:Tp27):Option Tp16:=LFix (zgp p m ) (t,start)
def zef (p:Tp4) (m:Int):Option Tp16:=
  zdf p m (0:Int) ([])
theorem zkd (r19:Nat->Tf12) (r19':Tf12) (h_r19:∀ a0 a1 a2 a3,ChO (fun κ=>r19 κ a0 a1 a2 a3) (r19' a0 a1 a2 a3)) (head at' t_2 mid p_4 may_2 one):ChO (fun κ=>zaL head at' t_2 (r19 κ) mid p_4 may_2 one) (zaL head at' t_2 r19' mid p_4 may_2 one):=by
  unfold zaL
  repeat' with_reducible first | exact ChO.const _ | exact h_r19 _ _ _ _ | apply ChO.ite | apply ChO.G | (apply ChO.bind;intro _)
theorem zd5 (r11:Nat->Int->Tp4->Int->Option Tp16) (r11':Int->Tp4->Int->Option Tp16) (h_r11:∀ a0 a1 a2,ChO (fun κ=>r11 κ a0 a1 a2) (r11' a0 a1 a2)) (r19:Nat->Tf12) (r19':Tf12) (h_r19:∀ a0 a1 a2 a3,ChO (fun κ=>r19 κ a0 a1 a2 a3) (r19' a0 a1 a2 a3)) (t_1 p_2 head at' t_2 p_3 may_1):ChO (fun κ=>zaC t_1 (r11 κ) p_2 head (r19 κ) at' t_2 p_3 may_1) (zaC t_1 r11' p_2 head r19' at' t_2 p_3 may_1):=by
  unfold zaC
  repeat' with_reducible first | exact ChO.const _ | exact h_r11 _ _ _ | exact h_r19 _ _ _ _ | (apply zkd<;>assumption) | apply ChO.ite | apply ChO.G | (apply ChO.bind;intro _)
theorem zde (r11 t_1 p_2 head):Cn (zfu t_1 r11 p_2 head):=fun g h hg x=>zd5 (fun _=>r11) r11 (fun _ _ _=>ChO.const _) _ _ (fun a0 a1 a2 a3=>hg (a0,a1,a2,a3)) t_1 p_2 head x.1 x.2.1 x.2.2.1 x.2.2.2
theorem zcd (r11 t_1 p_2 head at' t_2 p_3 may_1):zae t_1 r11 p_2 head at' t_2 p_3 may_1=zaC t_1 r11 p_2 head (zae t_1 r11 p_2 head) at' t_2 p_3 may_1:=zaj (zde r11 t_1 p_2 head) (at',t_2,p_3,may_1)
theorem zkf (r11:Nat->Int->Tp4->Int->Option Tp16) (r11':Int->Tp4->Int->Option Tp16) (h_r11:∀ a0 a1 a2,ChO (fun κ=>r11 κ a0 a1 a2) (r11' a0 a1 a2)) (t_1 p_2 head at' t_2 p_3 may_1):ChO (fun κ=>zae t_1 (r11 κ) p_2 head at' t_2 p_3 may_1) (zae t_1 r11' p_2 head at' t_2 p_3 may_1):=by
  unfold zae
  exact zdp (fun κ=>(zde (r11 κ) t_1 p_2 head).mono) (zde r11' t_1 p_2 head).mono (fun g h hg x=>zd5 r11 r11' h_r11 _ _ (fun a0 a1 a2 a3=>hg (a0,a1,a2,a3)) t_1 p_2 head x.1 x.2.1 x.2.2.1 x.2.2.2) _
theorem zkc (r11:Nat->Int->Tp4->Int->Option Tp16) (r11':Int->Tp4->Int->Option Tp16) (h_r11:∀ a0 a1 a2,ChO (fun κ=>r11 κ a0 a1 a2) (r11' a0 a1 a2)) (t_1 may p_2 ok head):ChO (fun κ=>zah t_1 may (r11 κ) p_2 ok head) (zah t_1 may r11' p_2 ok head):=by
  unfold zah
  repeat' with_reducible first | exact ChO.const _ | exact h_r11 _ _ _ | (apply zkf<;>assumption) | apply ChO.ite | apply ChO.G
theorem zkb (r11:Nat->Int->Tp4->Int->Option Tp16) (r11':Int->Tp4->Int->Option Tp16) (h_r11:∀ a0 a1 a2,ChO (fun κ=>r11 κ a0 a1 a2) (r11' a0 a1 a2)) (start t_1 may p_2):ChO (fun κ=>zbj start t_1 may (r11 κ) p_2) (zbj start t_1 may r11' p_2):=by
  unfold zbj
  repeat' with_reducible first | exact ChO.const _ | exact h_r11 _ _ _ | (apply zkc<;>assumption) | apply ChO.ite | (apply ChO.bind;intro _)
theorem ziF (r11:Nat->Int->Tp4->Int->Option Tp16) (r11':Int->Tp4->Int->Option Tp16) (h_r11:∀ a0 a1 a2,ChO (fun κ=>r11 κ a0 a1 a2) (r11' a0 a1 a2)) (p m start t_1 p_1 may):ChO (fun κ=>zaK p m start (r11 κ) t_1 p_1 may) (zaK p m start r11' t_1 p_1 may):=by
  unfold zaK
  repeat' with_reducible first | exact ChO.const _ | exact h_r11 _ _ _ | (apply zkb<;>assumption) | apply ChO.ite | apply ChO.G | apply ChO.both | (apply ChO.bind;intro _)
theorem zke (p m start):Cn (zft p m start):=fun g h hg x=>ziF  _ _ (fun a0 a1 a2=>hg (a0,a1,a2)) p m start x.1 x.2.1 x.2.2
theorem zdd (p m start t_1 p_1 may):zad p m start t_1 p_1 may=zaK p m start (zad p m start) t_1 p_1 may:=zaj (zke p m start) (t_1,p_1,may)
theorem zju (r5:Nat->Int->Tp27->Option Tp16) (r5':Int->Tp27->Option Tp16) (h_r5:∀ a0 a1,ChO (fun κ=>r5 κ a0 a1) (r5' a0 a1)) (p m t start):ChO (fun κ=>za9 p m (r5 κ) t start) (za9 p m r5' t start):=by
  unfold za9
  repeat' with_reducible first | exact ChO.const _ | exact h_r5 _ _ | apply ChO.ite | apply ChO.G
theorem zkX (p m):Cn (zgp p m):=fun g h hg x=>zju  _ _ (fun a0 a1=>hg (a0,a1)) p m x.1 x.2
theorem zfv (p m t start):zdf p m t start=za9 p m (zdf p m) t start:=zaj (zkX p m) (t,start)

def zbm (y'_2:Tp4) (r15:Int->Option Tp14) (m:Int):Option Tp14:=
  if (decide (m<=(9:Int)))=true then
  (zef y'_2 m).bind (fun y'_6=>
  if y'_6.2=true then
  some ((y'_6.1.1,(y'_6.1.2.1,())),false,(0:Int)) else
  G (fits (m+(2:Int))) (
  r15 (m+(2:Int)))) else
  some (([],([],())),true,(0:Int))
def zil (y'_2:Tp4):(Int->Option Tp14)->Int->Option Tp14:=
  fun rec x=>zbm y'_2 (fun m=>rec m) x
def zbI (y'_2:Tp4) (m:Int):Option Tp14:=LFix (zil y'_2 ) m
def zaM (a b:Tp10) (r2:Int->Option Tp14) (t:Int):Option Tp14:=
  if (decide (t < (([(a.1,(a.2.1,(a.2.2.1,(a.2.2.2.1,(a.2.2.2.2.1,()))))),(b.1,(b.2.1,(b.2.2.1,(b.2.2.2.1,(b.2.2.2.2.1,())))))]).length:Int)))=true then
  G (0<=t/\t < (([(a.1,(a.2.1,(a.2.2.1,(a.2.2.2.1,(a.2.2.2.2.1,()))))),(b.1,(b.2.1,(b.2.2.1,(b.2.2.2.1,(b.2.2.2.2.1,())))))]).length:Int)) (
  G ((t).toNat < ([(a.1,(a.2.1,(a.2.2.1,(a.2.2.2.1,(a.2.2.2.2.1,()))))),(b.1,(b.2.1,(b.2.2.1,(b.2.2.2.1,(b.2.2.2.2.1,())))))]).length) (
  (zdB ((ix ([(a.1,(a.2.1,(a.2.2.1,(a.2.2.2.1,(a.2.2.2.2.1,()))))),(b.1,(b.2.1,(b.2.2.1,(b.2.2.2.1,(b.2.2.2.2.1,())))))]) t).1,(((ix ([(a.1,(a.2.1,(a.2.2.1,(a.2.2.2.1,(a.2.2.2.2.1,()))))),(b.1,(b.2.1,(b.2.2.1,(b.2.2.2.1,(b.2.2.2.2.1,())))))]) t).2).1,((((ix ([(a.1,(a.2.1,(a.2.2.1,(a.2.2.2.1,(a.2.2.2.2.1,()))))),(b.1,(b.2.1,(b.2.2.1,(b.2.2.2.1,(b.2.2.2.2.1,())))))]) t).2).2).1,(((((ix ([(a.1,(a.2.1,(a.2.2.1,(a.2.2.2.1,(a.2.2.2.2.1,()))))),(b.1,(b.2.1,(b.2.2.1,(b.2.2.2.1,(b.2.2.2.2.1,())))))]) t).2).2).2).1,((((((ix ([(a.1,(a.2.1,(a.2.2.1,(a.2.2.2.1,(a.2.2.2.2.1,()))))),(b.1,(b.2.1,(b.2.2.1,(b.2.2.2.1,(b.2.2.2.2.1,())))))]) t).2).2).2).2).1,())))))).bind (fun y'=>
  if (decide (¬ y'=(0:Int)))=true then
  some (([],([],())),false,y') else
  G (fits (t+(1:Int))) (
  r2 (t+(1:Int)))))) else
  if (decide (¬ a.1=b.1))=true then
  some (([],([],())),false,(3:Int)) else
  if (decide ((4:Int) < a.2.1))=true then
  some (([],([],())),false,(1:Int)) else
  if (decide ((4:Int) < b.2.1))=true then
  some (([],([],())),false,(1:Int)) else
  (zdl (b.1,(b.2.1,(b.2.2.1,(b.2.2.2.1,(b.2.2.2.2.1,())))))).bind (fun y'_1=>
  (zg9 (a.1,(a.2.1,(a.2.2.1,(a.2.2.2.1,(a.2.2.2.2.1,()))))) (y'_1.1,(y'_1.2.1,(y'_1.2.2.1,(y'_1.2.2.2.1,()))))).bind (fun y'_2=>
  zbI y'_2 (1:Int)))
def zjt (a b:Tp10):(Int->Option Tp14)->Int->Option Tp14:=
  fun rec x=>zaM a b (fun t=>rec t) x
def zhG (a b:Tp10) (t:Int):Option Tp14:=LFix (zjt a b ) t
def zdH (a b:Tp10):Option Tp14:=
  zhG a b (0:Int)
theorem zlM (r15:Nat->Int->Option Tp14) (r15':Int->Option Tp14) (h_r15:∀ a0,ChO (fun κ=>r15 κ a0) (r15' a0)) (y'_2 m):ChO (fun κ=>zbm y'_2 (r15 κ) m) (zbm y'_2 r15' m):=by
  unfold zbm
  repeat' with_reducible first | exact ChO.const _ | exact h_r15 _ | apply ChO.ite | apply ChO.G | (apply ChO.bind;intro _)
theorem zns (y'_2):Cn (zil y'_2):=fun g h hg x=>zlM  _ _ (fun a=>hg a) y'_2 x
theorem zen (y'_2 m):zbI y'_2 m=zbm y'_2 (zbI y'_2) m:=zaj (zns y'_2) m
theorem zmw (r2:Nat->Int->Option Tp14) (r2':Int->Option Tp14) (h_r2:∀ a0,ChO (fun κ=>r2 κ a0) (r2' a0)) (a b t):ChO (fun κ=>zaM a b (r2 κ) t) (zaM a b r2' t):=by
  unfold zaM
  repeat' with_reducible first | exact ChO.const _ | exact h_r2 _ | apply ChO.ite | apply ChO.G | (apply ChO.bind;intro _)
theorem zor (a b):Cn (zjt a b):=fun g h hg x=>zmw  _ _ (fun a=>hg a) a b x
theorem zbY (a b t):zhG a b t=zaM a b (zhG a b) t:=zaj (zor a b) t

def zj3 (l:Tp19):Option (Bool):=
  G (fits ((l.1.length:Int)+(l.2.1.length:Int))) (
  some (decide (((l.1.length:Int)+(l.2.1.length:Int))=(0:Int))))

def zqz (x' y':Tp24):Option (Bool):=
  if (decide (¬ x'.1=y'.1))=true then
  some (decide (x'.1 < y'.1)) else
  if (decide (¬ x'.2.1=y'.2.1))=true then
  some (decide (x'.2.1 < y'.2.1)) else
  some (decide (x'.2.2.1 < y'.2.2.1))

def zcl (a:Tp10) (r32:Int->Option (Int)) (i_5:Int):Option (Int):=
  if (decide (i_5 < (a.2.2.2.1.length:Int)))=true then
  G (fits (i_5 - (1:Int))) (
  G (0<=i_5 - (1:Int)/\i_5 - (1:Int) < (a.2.2.2.1.length:Int)) (
  G (0<=i_5/\i_5 < (a.2.2.2.1.length:Int)) (
  (zqz (ix a.2.2.2.1 (i_5 - (1:Int))) (ix a.2.2.2.1 i_5)).bind (fun y'=>
  if (!y')=true then
  some (3:Int) else
  G (fits (i_5+(1:Int))) (
  r32 (i_5+(1:Int))))))) else
  some (0:Int)
def zmU (a:Tp10):(Int->Option (Int))->Int->Option (Int):=
  fun rec x=>zcl a (fun i_5=>rec i_5) x
def zlI (a:Tp10) (i_5:Int):Option (Int):=LFix (zmU a ) i_5
def zck (a:Tp10) (r27:Int->Option (Int)) (i_4:Int):Option (Int):=
  if (decide (i_4 < (a.2.2.2.2.1.length:Int)))=true then
  G (fits (i_4 - (1:Int))) (
  G (0<=i_4 - (1:Int)/\i_4 - (1:Int) < (a.2.2.2.2.1.length:Int)) (
  G (0<=i_4/\i_4 < (a.2.2.2.2.1.length:Int)) (
  if (decide ((ix a.2.2.2.2.1 i_4)<=(ix a.2.2.2.2.1 (i_4 - (1:Int)))))=true then
  some (3:Int) else
  G (fits (i_4+(1:Int))) (
  r27 (i_4+(1:Int)))))) else
  zlI a (1:Int)
def zmT (a:Tp10):(Int->Option (Int))->Int->Option (Int):=
  fun rec x=>zck a (fun i_4=>rec i_4) x
def zlH (a:Tp10) (i_4:Int):Option (Int):=LFix (zmT a ) i_4
def zcj (a:Tp10) (r22:Int->Option (Int)) (i_3:Int):Option (Int):=
  if (decide (i_3 < (a.2.2.1.length:Int)))=true then
  G (fits (i_3 - (1:Int))) (
  G (0<=i_3 - (1:Int)/\i_3 - (1:Int) < (a.2.2.1.length:Int)) (
  G (0<=i_3/\i_3 < (a.2.2.1.length:Int)) (
  if (decide ((ix a.2.2.1 i_3)<=(ix a.2.2.1 (i_3 - (1:Int)))))=true then
  some (3:Int) else
  G (fits (i_3+(1:Int))) (
  r22 (i_3+(1:Int)))))) else
  zlH a (1:Int)
def zmS (a:Tp10):(Int->Option (Int))->Int->Option (Int):=
  fun rec x=>zcj a (fun i_3=>rec i_3) x
def zlG (a:Tp10) (i_3:Int):Option (Int):=LFix (zmS a ) i_3
def zci (a:Tp10) (r16:Int->Option (Int)) (i_2:Int):Option (Int):=
  if (decide (i_2 < (a.2.2.2.1.length:Int)))=true then
  G (0<=i_2/\i_2 < (a.2.2.2.1.length:Int)) (
  if (decide (((ix a.2.2.2.1 i_2).1) < (0:Int)))=true then
  some (2:Int) else
  if (decide (a.2.1<=((ix a.2.2.2.1 i_2).1)))=true then
  some (2:Int) else
  if (decide (((((ix a.2.2.2.1 i_2).2).2).1) < (0:Int)))=true then
  some (2:Int) else
  if (decide (a.2.1<=((((ix a.2.2.2.1 i_2).2).2).1)))=true then
  some (2:Int) else
  if (decide ((((ix a.2.2.2.1 i_2).2).1) < (0:Int)))=true then
  some (2:Int) else
  if (decide (a.1<=(((ix a.2.2.2.1 i_2).2).1)))=true then
  some (2:Int) else
  G (fits (i_2+(1:Int))) (
  r16 (i_2+(1:Int)))) else
  zlG a (1:Int)
def zmR (a:Tp10):(Int->Option (Int))->Int->Option (Int):=
  fun rec x=>zci a (fun i_2=>rec i_2) x
def zlF (a:Tp10) (i_2:Int):Option (Int):=LFix (zmR a ) i_2
def zch (a:Tp10) (r11:Int->Option (Int)) (i_1:Int):Option (Int):=
  if (decide (i_1 < (a.2.2.2.2.1.length:Int)))=true then
  G (0<=i_1/\i_1 < (a.2.2.2.2.1.length:Int)) (
  if (decide ((ix a.2.2.2.2.1 i_1) < (0:Int)))=true then
  some (2:Int) else
  G (0<=i_1/\i_1 < (a.2.2.2.2.1.length:Int)) (
  if (decide (a.2.1<=(ix a.2.2.2.2.1 i_1)))=true then
  some (2:Int) else
  G (fits (i_1+(1:Int))) (
  r11 (i_1+(1:Int))))) else
  zlF a (0:Int)
def zmQ (a:Tp10):(Int->Option (Int))->Int->Option (Int):=
  fun rec x=>zch a (fun i_1=>rec i_1) x
def zlE (a:Tp10) (i_1:Int):Option (Int):=LFix (zmQ a ) i_1
def zcC (a:Tp10) (r6:Int->Option (Int)) (i:Int):Option (Int):=
  if (decide (i < (a.2.2.1.length:Int)))=true then
  G (0<=i/\i < (a.2.2.1.length:Int)) (
  if (decide ((ix a.2.2.1 i) < (0:Int)))=true then
  some (2:Int) else
  G (0<=i/\i < (a.2.2.1.length:Int)) (
  if (decide (a.2.1<=(ix a.2.2.1 i)))=true then
  some (2:Int) else
  G (fits (i+(1:Int))) (
  r6 (i+(1:Int))))) else
  zlE a (0:Int)
def zom (a:Tp10):(Int->Option (Int))->Int->Option (Int):=
  fun rec x=>zcC a (fun i=>rec i) x
def znr (a:Tp10) (i:Int):Option (Int):=LFix (zom a ) i
def zol (a:Tp10):Option (Int):=
  if (decide (a.1 < (1:Int)))=true then
  some (2:Int) else
  if (decide ((4:Int) < a.1))=true then
  some (2:Int) else
  if (decide (a.2.1 < (1:Int)))=true then
  some (1:Int) else
  if (decide ((300:Int) < a.2.1))=true then
  some (1:Int) else
  if (decide ((40000:Int) < (a.2.2.2.1.length:Int)))=true then
  some (1:Int) else
  znr a (0:Int)
theorem zpf (r32:Nat->Int->Option (Int)) (r32':Int->Option (Int)) (h_r32:∀ a0,ChO (fun κ=>r32 κ a0) (r32' a0)) (a i_5):ChO (fun κ=>zcl a (r32 κ) i_5) (zcl a r32' i_5):=by
  unfold zcl
  repeat' with_reducible first | exact ChO.const _ | exact h_r32 _ | apply ChO.ite | apply ChO.G | (apply ChO.bind;intro _)
theorem zrF (a):Cn (zmU a):=fun g h hg x=>zpf  _ _ (fun a=>hg a) a x
theorem zhA (a i_5):zlI a i_5=zcl a (zlI a) i_5:=zaj (zrF a) i_5
theorem zpe (r27:Nat->Int->Option (Int)) (r27':Int->Option (Int)) (h_r27:∀ a0,ChO (fun κ=>r27 κ a0) (r27' a0)) (a i_4):ChO (fun κ=>zck a (r27 κ) i_4) (zck a r27' i_4):=by
  unfold zck
  repeat' with_reducible first | exact ChO.const _ | exact h_r27 _ | apply ChO.ite | apply ChO.G
theorem zrE (a):Cn (zmT a):=fun g h hg x=>zpe  _ _ (fun a=>hg a) a x
theorem zhz (a i_4):zlH a i_4=zck a (zlH a) i_4:=zaj (zrE a) i_4
theorem zpd (r22:Nat->Int->Option (Int)) (r22':Int->Option (Int)) (h_r22:∀ a0,ChO (fun κ=>r22 κ a0) (r22' a0)) (a i_3):ChO (fun κ=>zcj a (r22 κ) i_3) (zcj a r22' i_3):=by
  unfold zcj
  repeat' with_reducible first | exact ChO.const _ | exact h_r22 _ | apply ChO.ite | apply ChO.G
theorem zrD (a):Cn (zmS a):=fun g h hg x=>zpd  _ _ (fun a=>hg a) a x
theorem zhy (a i_3):zlG a i_3=zcj a (zlG a) i_3:=zaj (zrD a) i_3
theorem zpc (r16:Nat->Int->Option (Int)) (r16':Int->Option (Int)) (h_r16:∀ a0,ChO (fun κ=>r16 κ a0) (r16' a0)) (a i_2):ChO (fun κ=>zci a (r16 κ) i_2) (zci a r16' i_2):=by
  unfold zci
  repeat' with_reducible first | exact ChO.const _ | exact h_r16 _ | apply ChO.ite | apply ChO.G
theorem zrC (a):Cn (zmR a):=fun g h hg x=>zpc  _ _ (fun a=>hg a) a x
theorem zhx (a i_2):zlF a i_2=zci a (zlF a) i_2:=zaj (zrC a) i_2
theorem zpb (r11:Nat->Int->Option (Int)) (r11':Int->Option (Int)) (h_r11:∀ a0,ChO (fun κ=>r11 κ a0) (r11' a0)) (a i_1):ChO (fun κ=>zch a (r11 κ) i_1) (zch a r11' i_1):=by
  unfold zch
  repeat' with_reducible first | exact ChO.const _ | exact h_r11 _ | apply ChO.ite | apply ChO.G
theorem zrB (a):Cn (zmQ a):=fun g h hg x=>zpb  _ _ (fun a=>hg a) a x
theorem zhw (a i_1):zlE a i_1=zch a (zlE a) i_1:=zaj (zrB a) i_1
theorem zqd (r6:Nat->Int->Option (Int)) (r6':Int->Option (Int)) (h_r6:∀ a0,ChO (fun κ=>r6 κ a0) (r6' a0)) (a i):ChO (fun κ=>zcC a (r6 κ) i) (zcC a r6' i):=by
  unfold zcC
  repeat' with_reducible first | exact ChO.const _ | exact h_r6 _ | apply ChO.ite | apply ChO.G
theorem zsq (a):Cn (zom a):=fun g h hg x=>zqd  _ _ (fun a=>hg a) a x
theorem ziC (a i):znr a i=zcC a (znr a) i:=zaj (zsq a) i

def zAz (l:Tp19) (n:Int):Option (Int):=
  if (decide (n < (l.1.length:Int)))=true then
  G (0<=n/\n < (l.1.length:Int)) (
  some (ix l.1 n)) else
  G (fits (n - (l.1.length:Int))) (
  G ((l.2.1.length:Int)≠0) (
  G (0<=Int.tmod (n - (l.1.length:Int)) (l.2.1.length:Int)/\Int.tmod (n - (l.1.length:Int)) (l.2.1.length:Int) < (l.2.1.length:Int)) (
  some (ix l.2.1 (Int.tmod (n - (l.1.length:Int)) (l.2.1.length:Int))))))

def zda (l:Tp19) (letters:Int) (r4:Int->Option (Bool)) (i:Int):Option (Bool):=
  G (fits ((l.1.length:Int)+(l.2.1.length:Int))) (
  if (decide (i < ((l.1.length:Int)+(l.2.1.length:Int))))=true then
  (zAz (l.1,(l.2.1,())) i).bind (fun y'=>
  if (decide (y' < (0:Int)))=true then
  some false else
  if (decide (letters<=y'))=true then
  some false else
  G (fits (i+(1:Int))) (
  r4 (i+(1:Int)))) else
  some true)
def zn4 (l:Tp19) (letters:Int):(Int->Option (Bool))->Int->Option (Bool):=
  fun rec x=>zda l letters (fun i=>rec i) x
def zj2 (l:Tp19) (letters i:Int):Option (Bool):=LFix (zn4 l letters ) i
def zqu (l:Tp19) (letters most:Int):Option (Bool):=
  if (decide (most < (l.1.length:Int)))=true then
  some false else
  if (decide (most < (l.2.1.length:Int)))=true then
  some false else
  if (decide ((l.2.1.length:Int)=(0:Int)))=true then
  some false else
  zj2 l letters (0:Int)
theorem zqa (r4:Nat->Int->Option (Bool)) (r4':Int->Option (Bool)) (h_r4:∀ a0,ChO (fun κ=>r4 κ a0) (r4' a0)) (l letters i):ChO (fun κ=>zda l letters (r4 κ) i) (zda l letters r4' i):=by
  unfold zda
  repeat' with_reducible first | exact ChO.const _ | exact h_r4 _ | apply ChO.ite | apply ChO.G | (apply ChO.bind;intro _)
theorem zsm (l letters):Cn (zn4 l letters):=fun g h hg x=>zqa  _ _ (fun a=>hg a) l letters x
theorem zmM (l letters i):zj2 l letters i=zda l letters (zj2 l letters) i:=zaj (zsm l letters) i

def zka (a:Tp10) (i:Int) (out:Tp26) (r3:(Int->Tp26->Option Tp26)) (t:Bool):Option Tp26:=
  if t=true then
  G (0<=(((ix a.2.2.2.1 i).2).2).1/\(((ix a.2.2.2.1 i).2).2).1 < (out.length:Int)) (
  G (((((ix a.2.2.2.1 i).2).2).1).toNat < out.length) (
  G (fits (i+(1:Int))) (
  r3 (i+(1:Int)) (out.set ((((ix a.2.2.2.1 i).2).2).1).toNat true)))) else
  G (fits (i+(1:Int))) (
  r3 (i+(1:Int)) out)
def zf0 (a:Tp10) (from':Tp26) (letter:Int) (r3:Int->Tp26->Option Tp26) (i:Int) (out:Tp26):Option Tp26:=
  if (decide (i < (a.2.2.2.1.length:Int)))=true then
  G (0<=i/\i < (a.2.2.2.1.length:Int)) (
  if (decide ((((ix a.2.2.2.1 i).2).1)=letter))=true then
  G (0<=(ix a.2.2.2.1 i).1/\(ix a.2.2.2.1 i).1 < (from'.length:Int)) (
  zka a i out r3 (ix from' ((ix a.2.2.2.1 i).1))) else
  zka a i out r3 false) else
  some out
def zsR (a:Tp10) (from':Tp26) (letter:Int):(Int×Tp26->Option Tp26)->Int×Tp26->Option Tp26:=
  fun rec x=>zf0 a from' letter (fun i out=>rec (i,out)) x.1 x.2
def zop (a:Tp10) (from':Tp26) (letter i:Int) (out:Tp26):Option Tp26:=LFix (zsR a from' letter ) (i,out)
def zuX (a:Tp10) (from':Tp26) (letter:Int):Option Tp26:=
  G (mkOK a.2.1 a.2.1 1) (
  zop a from' letter (0:Int) (List.replicate (a.2.1).toNat (false:Bool)))
theorem zv8 (r3:Nat->Int->Tp26->Option Tp26) (r3':Int->Tp26->Option Tp26) (h_r3:∀ a0 a1,ChO (fun κ=>r3 κ a0 a1) (r3' a0 a1)) (a i out t):ChO (fun κ=>zka a i out (r3 κ) t) (zka a i out r3' t):=by
  unfold zka
  repeat' with_reducible first | exact ChO.const _ | exact h_r3 _ _ | apply ChO.ite | apply ChO.G
theorem ztQ (r3:Nat->Int->Tp26->Option Tp26) (r3':Int->Tp26->Option Tp26) (h_r3:∀ a0 a1,ChO (fun κ=>r3 κ a0 a1) (r3' a0 a1)) (a from' letter i out):ChO (fun κ=>zf0 a from' letter (r3 κ) i out) (zf0 a from' letter r3' i out):=by
  unfold zf0
  repeat' with_reducible first | exact ChO.const _ | exact h_r3 _ _ | (apply zv8<;>assumption) | apply ChO.ite | apply ChO.G
theorem zv9 (a from' letter):Cn (zsR a from' letter):=fun g h hg x=>ztQ  _ _ (fun a0 a1=>hg (a0,a1)) a from' letter x.1 x.2
theorem zrO (a from' letter i out):zop a from' letter i out=zf0 a from' letter (zop a from' letter) i out:=zaj (zv9 a from' letter) (i,out)

def zbT (a:Tp10) (loop:Tp27) (final:Tp26) (i:Int) (p:Tp26) (r10:(Int->Tp26->Tp26->Option (Bool))) (r13:Int->Tp26->Option (Bool)) (k:Int) (g'_1:Tp26):Option (Bool):=
  if (decide (k < a.2.1))=true then
  G (0<=k/\k < (g'_1.length:Int)) (
  G ((k).toNat < g'_1.length) (
  if (ix g'_1 k)=true then
  G (0<=k/\k < (g'_1.length:Int)) (
  G ((k).toNat < g'_1.length) (
  G (fits (k+(1:Int))) (
  r13 (k+(1:Int)) (g'_1.set (k).toNat true)))) else
  G (0<=k/\k < (p.length:Int)) (
  G ((k).toNat < p.length) (
  if (ix p k)=true then
  G (0<=k/\k < (final.length:Int)) (
  G (0<=k/\k < (g'_1.length:Int)) (
  G ((k).toNat < g'_1.length) (
  G (fits (k+(1:Int))) (
  r13 (k+(1:Int)) (g'_1.set (k).toNat (ix final k)))))) else
  G (0<=k/\k < (g'_1.length:Int)) (
  G ((k).toNat < g'_1.length) (
  G (fits (k+(1:Int))) (
  r13 (k+(1:Int)) (g'_1.set (k).toNat false)))))))) else
  G (0<=i/\i < (loop.length:Int)) (
  (zuX (a.1,(a.2.1,(a.2.2.1,(a.2.2.2.1,(a.2.2.2.2.1,()))))) p (ix loop i)).bind (fun y'=>
  G (0<=i/\i < (loop.length:Int)) (
  (zuX (a.1,(a.2.1,(a.2.2.1,(a.2.2.2.1,(a.2.2.2.2.1,()))))) g'_1 (ix loop i)).bind (fun y'_1=>
  G (fits (i+(1:Int))) (
  r10 (i+(1:Int)) y' y'_1)))))
def zmW (a:Tp10) (loop:Tp27) (final:Tp26) (i:Int) (p:Tp26) (r10:(Int->Tp26->Tp26->Option (Bool))):(Int×Tp26->Option (Bool))->Int×Tp26->Option (Bool):=
  fun rec x=>zbT a loop final i p r10 (fun k g'_1=>rec (k,g'_1)) x.1 x.2
def zcm (a:Tp10) (loop:Tp27) (final:Tp26) (i:Int) (p:Tp26) (r10:(Int->Tp26->Tp26->Option (Bool))) (k:Int) (g'_1:Tp26):Option (Bool):=LFix (zmW a loop final i p r10 ) (k,g'_1)
def zdF (g':Tp26) (k_1:Int) (good_1:Tp26) (r21:(Bool->Int->Tp26->Tp26->Option (Bool))) (again_2:Bool) (plain_2:Tp26):Option (Bool):=
  G (0<=k_1/\k_1 < (good_1.length:Int)) (
  G ((k_1).toNat < good_1.length) (
  if (ix good_1 k_1)=true then
  G (0<=k_1/\k_1 < (good_1.length:Int)) (
  G ((k_1).toNat < good_1.length) (
  G (fits (k_1+(1:Int))) (
  r21 again_2 (k_1+(1:Int)) plain_2 (good_1.set (k_1).toNat true)))) else
  G (0<=k_1/\k_1 < (g'.length:Int)) (
  G ((k_1).toNat < g'.length) (
  G (0<=k_1/\k_1 < (good_1.length:Int)) (
  G ((k_1).toNat < good_1.length) (
  G (fits (k_1+(1:Int))) (
  r21 again_2 (k_1+(1:Int)) plain_2 (good_1.set (k_1).toNat (ix g' k_1)))))))))
def zbH (p g':Tp26) (k_1:Int) (plain_1 good_1:Tp26) (r21:(Bool->Int->Tp26->Tp26->Option (Bool))) (again_2:Bool):Option (Bool):=
  G (0<=k_1/\k_1 < (plain_1.length:Int)) (
  G ((k_1).toNat < plain_1.length) (
  if (ix plain_1 k_1)=true then
  G (0<=k_1/\k_1 < (plain_1.length:Int)) (
  G ((k_1).toNat < plain_1.length) (
  zdF g' k_1 good_1 r21 again_2 (plain_1.set (k_1).toNat true))) else
  G (0<=k_1/\k_1 < (p.length:Int)) (
  G ((k_1).toNat < p.length) (
  G (0<=k_1/\k_1 < (plain_1.length:Int)) (
  G ((k_1).toNat < plain_1.length) (
  zdF g' k_1 good_1 r21 again_2 (plain_1.set (k_1).toNat (ix p k_1))))))))
def zbh (a:Tp10) (r5:(Bool->Tp26->Tp26->Option (Bool))) (p g':Tp26) (r21:Tf11) (again_1:Bool) (k_1:Int) (plain_1 good_1:Tp26):Option (Bool):=
  if (decide (k_1 < a.2.1))=true then
  if again_1=true then
  zbH p g' k_1 plain_1 good_1 r21 true else
  G (0<=k_1/\k_1 < (p.length:Int)) (
  G ((k_1).toNat < p.length) (
  if (ix p k_1)=true then
  G (0<=k_1/\k_1 < (plain_1.length:Int)) (
  G ((k_1).toNat < plain_1.length) (
  if (!(ix plain_1 k_1))=true then
  zbH p g' k_1 plain_1 good_1 r21 true else
  G (0<=k_1/\k_1 < (g'.length:Int)) (
  G ((k_1).toNat < g'.length) (
  if (ix g' k_1)=true then
  G (0<=k_1/\k_1 < (good_1.length:Int)) (
  G ((k_1).toNat < good_1.length) (
  zbH p g' k_1 plain_1 good_1 r21 (!(ix good_1 k_1)))) else
  zbH p g' k_1 plain_1 good_1 r21 false)))) else
  G (0<=k_1/\k_1 < (g'.length:Int)) (
  G ((k_1).toNat < g'.length) (
  if (ix g' k_1)=true then
  G (0<=k_1/\k_1 < (good_1.length:Int)) (
  G ((k_1).toNat < good_1.length) (
  zbH p g' k_1 plain_1 good_1 r21 (!(ix good_1 k_1)))) else
  zbH p g' k_1 plain_1 good_1 r21 false)))) else
  r5 again_1 plain_1 good_1
def zmX (a:Tp10) (r5:(Bool->Tp26->Tp26->Option (Bool))) (p g':Tp26):(Bool×Int×Tp26×Tp26->Option (Bool))->Bool×Int×Tp26×Tp26->Option (Bool):=
  fun rec x=>zbh a r5 p g' (fun again_1 k_1 plain_1 good_1=>rec (again_1,k_1,plain_1,good_1)) x.1 x.2.1 x.2.2.1 x.2.2.2
def za8 (a:Tp10) (r5:(Bool->Tp26->Tp26->Option (Bool))) (p g':Tp26) (again_1:Bool) (k_1:Int) (plain_1 good_1:Tp26):Option (Bool):=LFix (zmX a r5 p g' ) (again_1,k_1,plain_1,good_1)
def zcK (a:Tp10) (loop:Tp27) (final:Tp26) (q:Int) (plain good:Tp26) (r5:(Bool->Tp26->Tp26->Option (Bool))) (r10:Tf14) (i:Int) (p g':Tp26):Option (Bool):=
  if (decide (i < (loop.length:Int)))=true then
  zcm a loop final i p r10 (0:Int) g' else
  G (0<=q/\q < (g'.length:Int)) (
  G ((q).toNat < g'.length) (
  if (ix g' q)=true then
  some true else
  za8 a r5 p g' false (0:Int) plain good))
def zmV (a:Tp10) (loop:Tp27) (final:Tp26) (q:Int) (plain good:Tp26) (r5:(Bool->Tp26->Tp26->Option (Bool))):(Int×Tp26×Tp26->Option (Bool))->Int×Tp26×Tp26->Option (Bool):=
  fun rec x=>zcK a loop final q plain good r5 (fun i p g'=>rec (i,p,g')) x.1 x.2.1 x.2.2
def zc3 (a:Tp10) (loop:Tp27) (final:Tp26) (q:Int) (plain good:Tp26) (r5:(Bool->Tp26->Tp26->Option (Bool))) (i:Int) (p g':Tp26):Option (Bool):=LFix (zmV a loop final q plain good r5 ) (i,p,g')
def zdc (a:Tp10) (loop:Tp27) (final:Tp26) (q:Int) (r5:Tf13) (again:Bool) (plain good:Tp26):Option (Bool):=
  if again=true then
  G (room ([]:List Bool) plain 1) (
  G (room ([]:List Bool) good 1) (
  zc3 a loop final q plain good r5 (0:Int) (([]:List Bool)++plain) (([]:List Bool)++good))) else
  some false
def zoo (a:Tp10) (loop:Tp27) (final:Tp26) (q:Int):(Bool×Tp26×Tp26->Option (Bool))->Bool×Tp26×Tp26->Option (Bool):=
  fun rec x=>zdc a loop final q (fun again plain good=>rec (again,plain,good)) x.1 x.2.1 x.2.2
def zdG (a:Tp10) (loop:Tp27) (final:Tp26) (q:Int) (again:Bool) (plain good:Tp26):Option (Bool):=LFix (zoo a loop final q ) (again,plain,good)
def zqA (a:Tp10) (loop:Tp27) (final:Tp26) (q:Int):Option (Bool):=
  G (mkOK a.2.1 a.2.1 1) (
  G (mkOK a.2.1 a.2.1 1) (
  G (0<=q/\q < ((List.replicate (a.2.1).toNat (false:Bool)).length:Int)) (
  G ((q).toNat < (List.replicate (a.2.1).toNat (false:Bool)).length) (
  zdG a loop final q true ((List.replicate (a.2.1).toNat (false:Bool)).set (q).toNat true) (List.replicate (a.2.1).toNat (false:Bool))))))
theorem zjq (r10:Nat->Tf14) (r10':Tf14) (h_r10:∀ a0 a1 a2,ChO (fun κ=>r10 κ a0 a1 a2) (r10' a0 a1 a2)) (r13:Nat->Int->Tp26->Option (Bool)) (r13':Int->Tp26->Option (Bool)) (h_r13:∀ a0 a1,ChO (fun κ=>r13 κ a0 a1) (r13' a0 a1)) (a loop final i p k g'_1):ChO (fun κ=>zbT a loop final i p (r10 κ) (r13 κ) k g'_1) (zbT a loop final i p r10' r13' k g'_1):=by
  unfold zbT
  repeat' with_reducible first | exact ChO.const _ | exact h_r10 _ _ _ | exact h_r13 _ _ | apply ChO.ite | apply ChO.G | (apply ChO.bind;intro _)
theorem zhC (r10 a loop final i p):Cn (zmW a loop final i p r10):=fun g h hg x=>zjq (fun _=>r10) r10 (fun _ _ _=>ChO.const _) _ _ (fun a0 a1=>hg (a0,a1)) a loop final i p x.1 x.2
theorem zeT (r10 a loop final i p k g'_1):zcm a loop final i p r10 k g'_1=zbT a loop final i p r10 (zcm a loop final i p r10) k g'_1:=zaj (zhC r10 a loop final i p) (k,g'_1)
theorem zrL (r10:Nat->Tf14) (r10':Tf14) (h_r10:∀ a0 a1 a2,ChO (fun κ=>r10 κ a0 a1 a2) (r10' a0 a1 a2)) (a loop final i p k g'_1):ChO (fun κ=>zcm a loop final i p (r10 κ) k g'_1) (zcm a loop final i p r10' k g'_1):=by
  unfold zcm
  exact zdp (fun κ=>(zhC (r10 κ) a loop final i p).mono) (zhC r10' a loop final i p).mono (fun g h hg x=>zjq r10 r10' h_r10 _ _ (fun a0 a1=>hg (a0,a1)) a loop final i p x.1 x.2) _
theorem zrJ (r21:Nat->Tf11) (r21':Tf11) (h_r21:∀ a0 a1 a2 a3,ChO (fun κ=>r21 κ a0 a1 a2 a3) (r21' a0 a1 a2 a3)) (g' k_1 good_1 again_2 plain_2):ChO (fun κ=>zdF g' k_1 good_1 (r21 κ) again_2 plain_2) (zdF g' k_1 good_1 r21' again_2 plain_2):=by
  unfold zdF
  repeat' with_reducible first | exact ChO.const _ | exact h_r21 _ _ _ _ | apply ChO.ite | apply ChO.G
theorem zrI (r21:Nat->Tf11) (r21':Tf11) (h_r21:∀ a0 a1 a2 a3,ChO (fun κ=>r21 κ a0 a1 a2 a3) (r21' a0 a1 a2 a3)) (p g' k_1 plain_1 good_1 again_2):ChO (fun κ=>zbH p g' k_1 plain_1 good_1 (r21 κ) again_2) (zbH p g' k_1 plain_1 good_1 r21' again_2):=by
  unfold zbH
  repeat' with_reducible first | exact ChO.const _ | exact h_r21 _ _ _ _ | (apply zrJ<;>assumption) | apply ChO.ite | apply ChO.G
theorem zjr (r5:Nat->Tf13) (r5':Tf13) (h_r5:∀ a0 a1 a2,ChO (fun κ=>r5 κ a0 a1 a2) (r5' a0 a1 a2)) (r21:Nat->Tf11) (r21':Tf11) (h_r21:∀ a0 a1 a2 a3,ChO (fun κ=>r21 κ a0 a1 a2 a3) (r21' a0 a1 a2 a3)) (a p g' again_1 k_1 plain_1 good_1):ChO (fun κ=>zbh a (r5 κ) p g' (r21 κ) again_1 k_1 plain_1 good_1) (zbh a r5' p g' r21' again_1 k_1 plain_1 good_1):=by
  unfold zbh
  repeat' with_reducible first | exact ChO.const _ | exact h_r5 _ _ _ | exact h_r21 _ _ _ _ | (apply zrI<;>assumption) | apply ChO.ite | apply ChO.G
theorem zhD (r5 a p g'):Cn (zmX a r5 p g'):=fun g h hg x=>zjr (fun _=>r5) r5 (fun _ _ _=>ChO.const _) _ _ (fun a0 a1 a2 a3=>hg (a0,a1,a2,a3)) a p g' x.1 x.2.1 x.2.2.1 x.2.2.2
theorem zct (r5 a p g' again_1 k_1 plain_1 good_1):za8 a r5 p g' again_1 k_1 plain_1 good_1=zbh a r5 p g' (za8 a r5 p g') again_1 k_1 plain_1 good_1:=zaj (zhD r5 a p g') (again_1,k_1,plain_1,good_1)
theorem zrM (r5:Nat->Tf13) (r5':Tf13) (h_r5:∀ a0 a1 a2,ChO (fun κ=>r5 κ a0 a1 a2) (r5' a0 a1 a2)) (a p g' again_1 k_1 plain_1 good_1):ChO (fun κ=>za8 a (r5 κ) p g' again_1 k_1 plain_1 good_1) (za8 a r5' p g' again_1 k_1 plain_1 good_1):=by
  unfold za8
  exact zdp (fun κ=>(zhD (r5 κ) a p g').mono) (zhD r5' a p g').mono (fun g h hg x=>zjr r5 r5' h_r5 _ _ (fun a0 a1 a2 a3=>hg (a0,a1,a2,a3)) a p g' x.1 x.2.1 x.2.2.1 x.2.2.2) _
theorem zjp (r5:Nat->Tf13) (r5':Tf13) (h_r5:∀ a0 a1 a2,ChO (fun κ=>r5 κ a0 a1 a2) (r5' a0 a1 a2)) (r10:Nat->Tf14) (r10':Tf14) (h_r10:∀ a0 a1 a2,ChO (fun κ=>r10 κ a0 a1 a2) (r10' a0 a1 a2)) (a loop final q plain good i p g'):ChO (fun κ=>zcK a loop final q plain good (r5 κ) (r10 κ) i p g') (zcK a loop final q plain good r5' r10' i p g'):=by
  unfold zcK
  repeat' with_reducible first | exact ChO.const _ | exact h_r5 _ _ _ | exact h_r10 _ _ _ | (apply zrL<;>assumption) | (apply zrM<;>assumption) | apply ChO.ite | apply ChO.G
theorem zhB (r5 a loop final q plain good):Cn (zmV a loop final q plain good r5):=fun g h hg x=>zjp (fun _=>r5) r5 (fun _ _ _=>ChO.const _) _ _ (fun a0 a1 a2=>hg (a0,a1,a2)) a loop final q plain good x.1 x.2.1 x.2.2
theorem zlJ (r5 a loop final q plain good i p g'):zc3 a loop final q plain good r5 i p g'=zcK a loop final q plain good r5 (zc3 a loop final q plain good r5) i p g':=zaj (zhB r5 a loop final q plain good) (i,p,g')
theorem zrK (r5:Nat->Tf13) (r5':Tf13) (h_r5:∀ a0 a1 a2,ChO (fun κ=>r5 κ a0 a1 a2) (r5' a0 a1 a2)) (a loop final q plain good i p g'):ChO (fun κ=>zc3 a loop final q plain good (r5 κ) i p g') (zc3 a loop final q plain good r5' i p g'):=by
  unfold zc3
  exact zdp (fun κ=>(zhB (r5 κ) a loop final q plain good).mono) (zhB r5' a loop final q plain good).mono (fun g h hg x=>zjp r5 r5' h_r5 _ _ (fun a0 a1 a2=>hg (a0,a1,a2)) a loop final q plain good x.1 x.2.1 x.2.2) _
theorem zqe (r5:Nat->Tf13) (r5':Tf13) (h_r5:∀ a0 a1 a2,ChO (fun κ=>r5 κ a0 a1 a2) (r5' a0 a1 a2)) (a loop final q again plain good):ChO (fun κ=>zdc a loop final q (r5 κ) again plain good) (zdc a loop final q r5' again plain good):=by
  unfold zdc
  repeat' with_reducible first | exact ChO.const _ | exact h_r5 _ _ _ | (apply zrK<;>assumption) | apply ChO.ite | apply ChO.G
theorem zsr (a loop final q):Cn (zoo a loop final q):=fun g h hg x=>zqe  _ _ (fun a0 a1 a2=>hg (a0,a1,a2)) a loop final q x.1 x.2.1 x.2.2
theorem zmY (a loop final q again plain good):zdG a loop final q again plain good=zdc a loop final q (zdG a loop final q) again plain good:=zaj (zsr a loop final q) (again,plain,good)

def zbS (next':Tp26) (q:Int) (far_4:Tp26) (r19:(Bool->Int->Tp26->Option (Bool))) (again_2:Bool):Option (Bool):=
  G (0<=q/\q < (far_4.length:Int)) (
  G ((q).toNat < far_4.length) (
  if (ix far_4 q)=true then
  G (0<=q/\q < (far_4.length:Int)) (
  G ((q).toNat < far_4.length) (
  G (fits (q+(1:Int))) (
  r19 again_2 (q+(1:Int)) (far_4.set (q).toNat true)))) else
  G (0<=q/\q < (next'.length:Int)) (
  G ((q).toNat < next'.length) (
  G (0<=q/\q < (far_4.length:Int)) (
  G ((q).toNat < far_4.length) (
  G (fits (q+(1:Int))) (
  r19 again_2 (q+(1:Int)) (far_4.set (q).toNat (ix next' q)))))))))
def zbq (a:Tp10) (r11:(Bool->Tp26->Option (Bool))) (next':Tp26) (r19:Tf15) (again_1:Bool) (q:Int) (far_4:Tp26):Option (Bool):=
  if (decide (q < a.2.1))=true then
  if again_1=true then
  zbS next' q far_4 r19 true else
  G (0<=q/\q < (next'.length:Int)) (
  G ((q).toNat < next'.length) (
  if (ix next' q)=true then
  G (0<=q/\q < (far_4.length:Int)) (
  G ((q).toNat < far_4.length) (
  zbS next' q far_4 r19 (!(ix far_4 q)))) else
  zbS next' q far_4 r19 false)) else
  r11 again_1 far_4
def zkC (a:Tp10) (r11:(Bool->Tp26->Option (Bool))) (next':Tp26):(Bool×Int×Tp26->Option (Bool))->Bool×Int×Tp26->Option (Bool):=
  fun rec x=>zbq a r11 next' (fun again_1 q far_4=>rec (again_1,q,far_4)) x.1 x.2.1 x.2.2
def zbg (a:Tp10) (r11:(Bool->Tp26->Option (Bool))) (next':Tp26) (again_1:Bool) (q:Int) (far_4:Tp26):Option (Bool):=LFix (zkC a r11 next' ) (again_1,q,far_4)
def zb4 (a:Tp10) (l:Tp19) (r11:(Bool->Tp26->Option (Bool))) (r15:Tf14) (i_2:Int) (far_3 next':Tp26):Option (Bool):=
  if (decide (i_2 < (l.2.1.length:Int)))=true then
  G (0<=i_2/\i_2 < (l.2.1.length:Int)) (
  (zuX (a.1,(a.2.1,(a.2.2.1,(a.2.2.2.1,(a.2.2.2.2.1,()))))) next' (ix l.2.1 i_2)).bind (fun y'_2=>
  G (fits (i_2+(1:Int))) (
  r15 (i_2+(1:Int)) far_3 y'_2))) else
  zbg a r11 next' false (0:Int) far_3
def zkB (a:Tp10) (l:Tp19) (r11:(Bool->Tp26->Option (Bool))):(Int×Tp26×Tp26->Option (Bool))->Int×Tp26×Tp26->Option (Bool):=
  fun rec x=>zb4 a l r11 (fun i_2 far_3 next'=>rec (i_2,far_3,next')) x.1 x.2.1 x.2.2
def zcJ (a:Tp10) (l:Tp19) (r11:(Bool->Tp26->Option (Bool))) (i_2:Int) (far_3 next':Tp26):Option (Bool):=LFix (zkB a l r11 ) (i_2,far_3,next')
def zb6 (a:Tp10) (l:Tp19) (far_2 final:Tp26) (r29:Int->Option (Bool)) (q_1:Int):Option (Bool):=
  if (decide (q_1 < a.2.1))=true then
  G (0<=q_1/\q_1 < (far_2.length:Int)) (
  G ((q_1).toNat < far_2.length) (
  if (!(ix far_2 q_1))=true then
  G (fits (q_1+(1:Int))) (
  r29 (q_1+(1:Int))) else
  (zqA (a.1,(a.2.1,(a.2.2.1,(a.2.2.2.1,(a.2.2.2.2.1,()))))) l.2.1 final q_1).bind (fun y'_3=>
  if y'_3=true then
  some true else
  G (fits (q_1+(1:Int))) (
  r29 (q_1+(1:Int)))))) else
  some false
def zkE (a:Tp10) (l:Tp19) (far_2 final:Tp26):(Int->Option (Bool))->Int->Option (Bool):=
  fun rec x=>zb6 a l far_2 final (fun q_1=>rec q_1) x
def zd4 (a:Tp10) (l:Tp19) (far_2 final:Tp26) (q_1:Int):Option (Bool):=LFix (zkE a l far_2 final ) q_1
def zb5 (a:Tp10) (l:Tp19) (far_2:Tp26) (r25:Int->Tp26->Option (Bool)) (i_3:Int) (final:Tp26):Option (Bool):=
  if (decide (i_3 < (a.2.2.2.2.1.length:Int)))=true then
  G (0<=i_3/\i_3 < (a.2.2.2.2.1.length:Int)) (
  G (0<=ix a.2.2.2.2.1 i_3/\ix a.2.2.2.2.1 i_3 < (final.length:Int)) (
  G ((ix a.2.2.2.2.1 i_3).toNat < final.length) (
  G (fits (i_3+(1:Int))) (
  r25 (i_3+(1:Int)) (final.set (ix a.2.2.2.2.1 i_3).toNat true))))) else
  zd4 a l far_2 final (0:Int)
def zkD (a:Tp10) (l:Tp19) (far_2:Tp26):(Int×Tp26->Option (Bool))->Int×Tp26->Option (Bool):=
  fun rec x=>zb5 a l far_2 (fun i_3 final=>rec (i_3,final)) x.1 x.2
def zf9 (a:Tp10) (l:Tp19) (far_2:Tp26) (i_3:Int) (final:Tp26):Option (Bool):=LFix (zkD a l far_2 ) (i_3,final)
def zb3 (a:Tp10) (l:Tp19) (r11:Bool->Tp26->Option (Bool)) (again:Bool) (far_2:Tp26):Option (Bool):=
  if again=true then
  if (decide ((0:Int) < (l.2.1.length:Int)))=true then
  G (0<=(0:Int)/\(0:Int) < (l.2.1.length:Int)) (
  (zuX (a.1,(a.2.1,(a.2.2.1,(a.2.2.2.1,(a.2.2.2.2.1,()))))) far_2 (ix l.2.1 (0:Int))).bind (fun y'_1=>
  G (fits ((0:Int)+(1:Int))) (
  zcJ a l r11 ((0:Int)+(1:Int)) far_2 y'_1))) else
  none else
  G (mkOK a.2.1 a.2.1 1) (
  zf9 a l far_2 (0:Int) (List.replicate (a.2.1).toNat (false:Bool)))
def zkA (a:Tp10) (l:Tp19):(Bool×Tp26->Option (Bool))->Bool×Tp26->Option (Bool):=
  fun rec x=>zb3 a l (fun again far_2=>rec (again,far_2)) x.1 x.2
def zcg (a:Tp10) (l:Tp19) (again:Bool) (far_2:Tp26):Option (Bool):=LFix (zkA a l ) (again,far_2)
def zcs (a:Tp10) (l:Tp19) (r7:Int->Tp26->Option (Bool)) (i_1:Int) (far_1:Tp26):Option (Bool):=
  if (decide (i_1 < (l.1.length:Int)))=true then
  G (0<=i_1/\i_1 < (l.1.length:Int)) (
  (zuX (a.1,(a.2.1,(a.2.2.1,(a.2.2.2.1,(a.2.2.2.2.1,()))))) far_1 (ix l.1 i_1)).bind (fun y'=>
  G (fits (i_1+(1:Int))) (
  r7 (i_1+(1:Int)) y'))) else
  zcg a l true far_1
def zlD (a:Tp10) (l:Tp19):(Int×Tp26->Option (Bool))->Int×Tp26->Option (Bool):=
  fun rec x=>zcs a l (fun i_1 far_1=>rec (i_1,far_1)) x.1 x.2
def zg6 (a:Tp10) (l:Tp19) (i_1:Int) (far_1:Tp26):Option (Bool):=LFix (zlD a l ) (i_1,far_1)
def zcr (a:Tp10) (l:Tp19) (r3:Int->Tp26->Option (Bool)) (i:Int) (far:Tp26):Option (Bool):=
  if (decide (i < (a.2.2.1.length:Int)))=true then
  G (0<=i/\i < (a.2.2.1.length:Int)) (
  G (0<=ix a.2.2.1 i/\ix a.2.2.1 i < (far.length:Int)) (
  G ((ix a.2.2.1 i).toNat < far.length) (
  G (fits (i+(1:Int))) (
  r3 (i+(1:Int)) (far.set (ix a.2.2.1 i).toNat true))))) else
  zg6 a l (0:Int) far
def zlC (a:Tp10) (l:Tp19):(Int×Tp26->Option (Bool))->Int×Tp26->Option (Bool):=
  fun rec x=>zcr a l (fun i far=>rec (i,far)) x.1 x.2
def zg5 (a:Tp10) (l:Tp19) (i:Int) (far:Tp26):Option (Bool):=LFix (zlC a l ) (i,far)
def zfX (a:Tp10) (l:Tp19):Option (Bool):=
  G (mkOK a.2.1 a.2.1 1) (
  zg5 a l (0:Int) (List.replicate (a.2.1).toNat (false:Bool)))
theorem zo5 (r19:Nat->Tf15) (r19':Tf15) (h_r19:∀ a0 a1 a2,ChO (fun κ=>r19 κ a0 a1 a2) (r19' a0 a1 a2)) (next' q far_4 again_2):ChO (fun κ=>zbS next' q far_4 (r19 κ) again_2) (zbS next' q far_4 r19' again_2):=by
  unfold zbS
  repeat' with_reducible first | exact ChO.const _ | exact h_r19 _ _ _ | apply ChO.ite | apply ChO.G
theorem zhv (r11:Nat->Bool->Tp26->Option (Bool)) (r11':Bool->Tp26->Option (Bool)) (h_r11:∀ a0 a1,ChO (fun κ=>r11 κ a0 a1) (r11' a0 a1)) (r19:Nat->Tf15) (r19':Tf15) (h_r19:∀ a0 a1 a2,ChO (fun κ=>r19 κ a0 a1 a2) (r19' a0 a1 a2)) (a next' again_1 q far_4):ChO (fun κ=>zbq a (r11 κ) next' (r19 κ) again_1 q far_4) (zbq a r11' next' r19' again_1 q far_4):=by
  unfold zbq
  repeat' with_reducible first | exact ChO.const _ | exact h_r11 _ _ | exact h_r19 _ _ _ | (apply zo5<;>assumption) | apply ChO.ite | apply ChO.G
theorem zfZ (r11 a next'):Cn (zkC a r11 next'):=fun g h hg x=>zhv (fun _=>r11) r11 (fun _ _=>ChO.const _) _ _ (fun a0 a1 a2=>hg (a0,a1,a2)) a next' x.1 x.2.1 x.2.2
theorem zdQ (r11 a next' again_1 q far_4):zbg a r11 next' again_1 q far_4=zbq a r11 next' (zbg a r11 next') again_1 q far_4:=zaj (zfZ r11 a next') (again_1,q,far_4)
theorem zo8 (r11:Nat->Bool->Tp26->Option (Bool)) (r11':Bool->Tp26->Option (Bool)) (h_r11:∀ a0 a1,ChO (fun κ=>r11 κ a0 a1) (r11' a0 a1)) (a next' again_1 q far_4):ChO (fun κ=>zbg a (r11 κ) next' again_1 q far_4) (zbg a r11' next' again_1 q far_4):=by
  unfold zbg
  exact zdp (fun κ=>(zfZ (r11 κ) a next').mono) (zfZ r11' a next').mono (fun g h hg x=>zhv r11 r11' h_r11 _ _ (fun a0 a1 a2=>hg (a0,a1,a2)) a next' x.1 x.2.1 x.2.2) _
theorem zhu (r11:Nat->Bool->Tp26->Option (Bool)) (r11':Bool->Tp26->Option (Bool)) (h_r11:∀ a0 a1,ChO (fun κ=>r11 κ a0 a1) (r11' a0 a1)) (r15:Nat->Tf14) (r15':Tf14) (h_r15:∀ a0 a1 a2,ChO (fun κ=>r15 κ a0 a1 a2) (r15' a0 a1 a2)) (a l i_2 far_3 next'):ChO (fun κ=>zb4 a l (r11 κ) (r15 κ) i_2 far_3 next') (zb4 a l r11' r15' i_2 far_3 next'):=by
  unfold zb4
  repeat' with_reducible first | exact ChO.const _ | exact h_r11 _ _ | exact h_r15 _ _ _ | (apply zo8<;>assumption) | apply ChO.ite | apply ChO.G | (apply ChO.bind;intro _)
theorem zfY (r11 a l):Cn (zkB a l r11):=fun g h hg x=>zhu (fun _=>r11) r11 (fun _ _=>ChO.const _) _ _ (fun a0 a1 a2=>hg (a0,a1,a2)) a l x.1 x.2.1 x.2.2
theorem zjm (r11 a l i_2 far_3 next'):zcJ a l r11 i_2 far_3 next'=zb4 a l r11 (zcJ a l r11) i_2 far_3 next':=zaj (zfY r11 a l) (i_2,far_3,next')
theorem zo7 (r11:Nat->Bool->Tp26->Option (Bool)) (r11':Bool->Tp26->Option (Bool)) (h_r11:∀ a0 a1,ChO (fun κ=>r11 κ a0 a1) (r11' a0 a1)) (a l i_2 far_3 next'):ChO (fun κ=>zcJ a l (r11 κ) i_2 far_3 next') (zcJ a l r11' i_2 far_3 next'):=by
  unfold zcJ
  exact zdp (fun κ=>(zfY (r11 κ) a l).mono) (zfY r11' a l).mono (fun g h hg x=>zhu r11 r11' h_r11 _ _ (fun a0 a1 a2=>hg (a0,a1,a2)) a l x.1 x.2.1 x.2.2) _
theorem znq (r29:Nat->Int->Option (Bool)) (r29':Int->Option (Bool)) (h_r29:∀ a0,ChO (fun κ=>r29 κ a0) (r29' a0)) (a l far_2 final q_1):ChO (fun κ=>zb6 a l far_2 final (r29 κ) q_1) (zb6 a l far_2 final r29' q_1):=by
  unfold zb6
  repeat' with_reducible first | exact ChO.const _ | exact h_r29 _ | apply ChO.ite | apply ChO.G | (apply ChO.bind;intro _)
theorem zpa (a l far_2 final):Cn (zkE a l far_2 final):=fun g h hg x=>znq  _ _ (fun a=>hg a) a l far_2 final x
theorem zjo (a l far_2 final q_1):zd4 a l far_2 final q_1=zb6 a l far_2 final (zd4 a l far_2 final) q_1:=zaj (zpa a l far_2 final) q_1
theorem znp (r25:Nat->Int->Tp26->Option (Bool)) (r25':Int->Tp26->Option (Bool)) (h_r25:∀ a0 a1,ChO (fun κ=>r25 κ a0 a1) (r25' a0 a1)) (a l far_2 i_3 final):ChO (fun κ=>zb5 a l far_2 (r25 κ) i_3 final) (zb5 a l far_2 r25' i_3 final):=by
  unfold zb5
  repeat' with_reducible first | exact ChO.const _ | exact h_r25 _ _ | apply ChO.ite | apply ChO.G
theorem zo9 (a l far_2):Cn (zkD a l far_2):=fun g h hg x=>znp  _ _ (fun a0 a1=>hg (a0,a1)) a l far_2 x.1 x.2
theorem zjn (a l far_2 i_3 final):zf9 a l far_2 i_3 final=zb5 a l far_2 (zf9 a l far_2) i_3 final:=zaj (zo9 a l far_2) (i_3,final)
theorem zno (r11:Nat->Bool->Tp26->Option (Bool)) (r11':Bool->Tp26->Option (Bool)) (h_r11:∀ a0 a1,ChO (fun κ=>r11 κ a0 a1) (r11' a0 a1)) (a l again far_2):ChO (fun κ=>zb3 a l (r11 κ) again far_2) (zb3 a l r11' again far_2):=by
  unfold zb3
  repeat' with_reducible first | exact ChO.const _ | exact h_r11 _ _ | (apply zo7<;>assumption) | apply ChO.ite | apply ChO.G | (apply ChO.bind;intro _)
theorem zo6 (a l):Cn (zkA a l):=fun g h hg x=>zno  _ _ (fun a0 a1=>hg (a0,a1)) a l x.1 x.2
theorem zjl (a l again far_2):zcg a l again far_2=zb3 a l (zcg a l) again far_2:=zaj (zo6 a l) (again,far_2)
theorem zoi (r7:Nat->Int->Tp26->Option (Bool)) (r7':Int->Tp26->Option (Bool)) (h_r7:∀ a0 a1,ChO (fun κ=>r7 κ a0 a1) (r7' a0 a1)) (a l i_1 far_1):ChO (fun κ=>zcs a l (r7 κ) i_1 far_1) (zcs a l r7' i_1 far_1):=by
  unfold zcs
  repeat' with_reducible first | exact ChO.const _ | exact h_r7 _ _ | apply ChO.ite | apply ChO.G | (apply ChO.bind;intro _)
theorem zqc (a l):Cn (zlD a l):=fun g h hg x=>zoi  _ _ (fun a0 a1=>hg (a0,a1)) a l x.1 x.2
theorem zkG (a l i_1 far_1):zg6 a l i_1 far_1=zcs a l (zg6 a l) i_1 far_1:=zaj (zqc a l) (i_1,far_1)
theorem zoh (r3:Nat->Int->Tp26->Option (Bool)) (r3':Int->Tp26->Option (Bool)) (h_r3:∀ a0 a1,ChO (fun κ=>r3 κ a0 a1) (r3' a0 a1)) (a l i far):ChO (fun κ=>zcr a l (r3 κ) i far) (zcr a l r3' i far):=by
  unfold zcr
  repeat' with_reducible first | exact ChO.const _ | exact h_r3 _ _ | apply ChO.ite | apply ChO.G
theorem zqb (a l):Cn (zlC a l):=fun g h hg x=>zoh  _ _ (fun a0 a1=>hg (a0,a1)) a l x.1 x.2
theorem zkF (a l i far):zg5 a l i far=zcr a l (zg5 a l) i far:=zaj (zqb a l) (i,far)

def zem (letters:Int) (w:Tp27) (r6:Int->Option (Int)) (i:Int):Option (Int):=
  if (decide (i < (w.length:Int)))=true then
  G (0<=i/\i < (w.length:Int)) (
  if (decide ((ix w i) < (0:Int)))=true then
  some (2:Int) else
  G (0<=i/\i < (w.length:Int)) (
  if (decide (letters<=(ix w i)))=true then
  some (2:Int) else
  G (fits (i+(1:Int))) (
  r6 (i+(1:Int))))) else
  some (0:Int)
def zry (letters:Int) (w:Tp27):(Int->Option (Int))->Int->Option (Int):=
  fun rec x=>zem letters w (fun i=>rec i) x
def zog (letters:Int) (w:Tp27) (i:Int):Option (Int):=LFix (zry letters w ) i
def zuU (letters:Int) (w:Tp27):Option (Int):=
  if (decide (letters < (1:Int)))=true then
  some (2:Int) else
  if (decide ((4:Int) < letters))=true then
  some (2:Int) else
  if (decide ((60:Int) < (w.length:Int)))=true then
  some (1:Int) else
  zog letters w (0:Int)
theorem zso (r6:Nat->Int->Option (Int)) (r6':Int->Option (Int)) (h_r6:∀ a0,ChO (fun κ=>r6 κ a0) (r6' a0)) (letters w i):ChO (fun κ=>zem letters w (r6 κ) i) (zem letters w r6' i):=by
  unfold zem
  repeat' with_reducible first | exact ChO.const _ | exact h_r6 _ | apply ChO.ite | apply ChO.G
theorem zuV (letters w):Cn (zry letters w):=fun g h hg x=>zso  _ _ (fun a=>hg a) letters w x
theorem zpM (letters w i):zog letters w i=zem letters w (zog letters w) i:=zaj (zuV letters w) i

def zqy (letters:Int) (l:Tp19):Option (Int):=
  (zuU letters l.1).bind (fun y'=>
  if (decide (¬ y'=(0:Int)))=true then
  some y' else
  (zuU letters l.2.1).bind (fun y'_1=>
  if (decide (¬ y'_1=(0:Int)))=true then
  some y'_1 else
  if (decide ((l.2.1.length:Int)=(0:Int)))=true then
  some (1:Int) else
  some (0:Int)))

def ztP (a:Tp10) (l:Tp19):Option (Int):=
  (zqy a.1 (l.1,(l.2.1,()))).bind (fun y'=>
  some y')

def zbX (a b:Tp10) (l y':Tp19) (y'_1:Bool) (y'_2:Int) (y'_4:Bool) (no_2:Int):Option (Bool):=
  if (decide (¬ no_2=(0:Int)))=true then
  if (decide (y'_2=no_2))=true then
  if y'_4=true then
  some (!y'_1) else
  some false else
  some false else
  if (decide (¬ y'_2=(0:Int)))=true then
  some false else
  if (!y'_1)=true then
  (zqu (y'.1,(y'.2.1,())) a.1 (20000:Int)).bind (fun y'_7=>
  if (!y'_7)=true then
  some false else
  (zfX (a.1,(a.2.1,(a.2.2.1,(a.2.2.2.1,(a.2.2.2.2.1,()))))) (y'.1,(y'.2.1,()))).bind (fun y'_8=>
  (zfX (b.1,(b.2.1,(b.2.2.1,(b.2.2.2.1,(b.2.2.2.2.1,()))))) (y'.1,(y'.2.1,()))).bind (fun y'_9=>
  if y'_8=true then
  some (!y'_9) else
  some false))) else
  (ztP (a.1,(a.2.1,(a.2.2.1,(a.2.2.2.1,(a.2.2.2.2.1,()))))) (l.1,(l.2.1,()))).bind (fun y'_10=>
  if (!y'_4)=true then
  some y'_4 else
  if (decide (¬ y'_10=(0:Int)))=true then
  some y'_4 else
  (zfX (a.1,(a.2.1,(a.2.2.1,(a.2.2.2.1,(a.2.2.2.2.1,()))))) (l.1,(l.2.1,()))).bind (fun y'_11=>
  (zfX (b.1,(b.2.1,(b.2.2.1,(b.2.2.2.1,(b.2.2.2.2.1,()))))) (l.1,(l.2.1,()))).bind (fun y'_12=>
  if (!y'_11)=true then
  some true else
  some y'_12)))
def zdv (a b:Tp10) (l y':Tp19) (y'_1:Bool) (y'_2:Int) (y'_4:Bool) (no_1:Int) (t_1:Bool):Option (Bool):=
  if t_1=true then
  zbX a b l y' y'_1 y'_2 y'_4 (1:Int) else
  zbX a b l y' y'_1 y'_2 y'_4 no_1
def zdu (a b:Tp10) (l y':Tp19) (y'_1:Bool) (y'_2:Int) (y'_4:Bool) (no_1:Int):Option (Bool):=
  if (decide (no_1=(0:Int)))=true then
  if (decide ((4:Int) < a.2.1))=true then
  zdv a b l y' y'_1 y'_2 y'_4 no_1 true else
  zdv a b l y' y'_1 y'_2 y'_4 no_1 (decide ((4:Int) < b.2.1)) else
  zdv a b l y' y'_1 y'_2 y'_4 no_1 false
def zdt (a b:Tp10) (l y':Tp19) (y'_1:Bool) (y'_2:Int) (y'_4:Bool) (no:Int) (t:Bool):Option (Bool):=
  if t=true then
  zdu a b l y' y'_1 y'_2 y'_4 (3:Int) else
  zdu a b l y' y'_1 y'_2 y'_4 no
def zds (a b:Tp10) (l y':Tp19) (y'_1:Bool) (y'_2:Int) (y'_4:Bool) (no:Int):Option (Bool):=
  if (decide (no=(0:Int)))=true then
  zdt a b l y' y'_1 y'_2 y'_4 no (decide (¬ a.1=b.1)) else
  zdt a b l y' y'_1 y'_2 y'_4 no false
def zhp (a b:Tp10) (l:Tp19):Option (Bool):=
  (zdH (a.1,(a.2.1,(a.2.2.1,(a.2.2.2.1,(a.2.2.2.2.1,()))))) (b.1,(b.2.1,(b.2.2.1,(b.2.2.2.1,(b.2.2.2.2.1,())))))).bind (fun y'_13=>
  (zj3 (y'_13.1.1,(y'_13.1.2.1,()))).bind (fun y'_4=>
  (zol (a.1,(a.2.1,(a.2.2.1,(a.2.2.2.1,(a.2.2.2.2.1,())))))).bind (fun y'_5=>
  if (decide (y'_5=(0:Int)))=true then
  (zol (b.1,(b.2.1,(b.2.2.1,(b.2.2.2.1,(b.2.2.2.2.1,())))))).bind (fun y'_6=>
  zds a b l y'_13.1 y'_13.2.1 y'_13.2.2 y'_4 y'_6) else
  zds a b l y'_13.1 y'_13.2.1 y'_13.2.2 y'_4 y'_5)))

end
end Go.Proofs.Yticelcjhokgcbaa.safraWithinW
