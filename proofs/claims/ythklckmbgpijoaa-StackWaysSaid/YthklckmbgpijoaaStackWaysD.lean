/- What the functions that 'StackWays' reaches compute: plain functions. -/
import Derived.Test.YthklckmbgpijoaaEv33n21
set_option maxHeartbeats 1000000
set_option maxRecDepth 20000
set_option linter.unusedSimpArgs false
set_option linter.unusedVariables false
set_option linter.unusedSectionVars false
namespace Go.Proofs.Ythklckmbgpijoaa.stackWaysW
open Go Go.Ab
noncomputable section
abbrev Tp20:=(List Int)
abbrev Tp19:=(List Tp20)
abbrev Tp18:=(Int×Int×Int×Unit)
abbrev Tp17:=(Bool×Int×Tp20)
abbrev Tp16:=(Int×Tp20×Unit)
abbrev Tp15:=(List Tp18)
abbrev Tp14:=(List Tp16)
abbrev Tp13:=(Int×Int×Int×Tp20×Unit)
abbrev Tp12:=(List Tp13)
abbrev Tc7:Ty:=(.pair (.int .i64) (.pair (.int .i64) .unit))
abbrev Tp11:=(Int×Int×Tp19×Tp20×Unit)
abbrev Tp10:=(Int×Int×Tp15×Unit)
abbrev Tp9:=(List Tp11)
abbrev Tp8:=(List Tp10)
abbrev Tp7:=(Tp11×Bool)
abbrev Tc6:Ty:=(.pair (.int .i64) Tc7)
abbrev Tp6:=(Int×Tp9)
abbrev Tc5:Ty:=(.list Tc6)
abbrev Tc4:Ty:=(.pair Tc5 .unit)
abbrev Tc3:Ty:=(.pair (.int .i64) Tc4)
abbrev Tp5:=(Int×Tp20×Tp15×Tp8)
abbrev Tp4:=(Int×Int×Tp20×Tp15×Tp8)
abbrev Tc2:Ty:=(.pair (.int .i64) Tc3)
abbrev Tp3:=(Tp20×Int×Tp20×Tp15×Tp8)
abbrev Tc1:Ty:=(.list Tc2)
abbrev Tp2:=(Tp11×Bool×Int×Tp20×Tp15×Tp8)
abbrev Tp1:=(Tp8×Int×Tp20×Tp15×Tp8)
abbrev Tf1:=Int->Int->Tp20->Tp20->Tp20->Int->Tp20->Tp15->Tp8->Tp19->Tp20->Option Tp2
abbrev Tf2:=Int->Tp20->Tp20->Tp20->Tp20->Int->Tp20->Tp15->Tp8->Option Tp2
abbrev Tf3:=Int->Int->Tp20->Tp20->Tp20->Tp19->Tp20->Option Tp7
abbrev Tf4:=Int->Tp20->Tp20->Int->Int->Tp19->Tp20->Option Tp11
abbrev Tf5:=Int->Int->Tp20->Tp20->Tp8->Tp15->Tp8->Option Tp1
abbrev Tf6:=Tp18->Int->Tp20->Tp20->Tp15->Tp8->Option Tp3
abbrev Tf7:=Int->Tp20->Int->Tp20->Tp15->Tp8->Option Tp17
abbrev Tf8:=Int->Int->Tp20->Tp15->Tp8->Tp20->Option Tp17
abbrev Tf9:=Bool->Int->Int->Tp20->Tp15->Tp8->Option Tp5
abbrev Tf10:=Int->Int->Tp20->Tp20->Tp15->Tp8->Option Tp3
abbrev Tf11:=Int->Int->Tp20->Tp15->Tp8->Tp8->Option Tp1
abbrev Tf12:=Int->Int->Tp20->Tp8->Tp15->Tp8->Option Tp1
abbrev Tf13:=Int->Int->Int->Tp20->Tp15->Tp8->Option Tp4
abbrev Tf14:=Int->Int->Tp20->Tp15->Tp8->Tp9->Option Tp6
abbrev Tf15:=Int->Tp20->Tp20->Tp20->Tp20->Option Tp7
abbrev Tf16:=Bool->Int->Tp20->Tp15->Tp8->Option Tp5
abbrev Tf17:=Int->Int->Tp20->Tp15->Tp8->Option Tp5
abbrev Tf18:=Int->Tp20->Tp20->Tp20->Option Tp11
abbrev Tf19:=Int->Int->Tp20->Tp20->Option Tp20
abbrev Tf20:=Tp10->Int->Tp20->Tp8->Option Tp1
abbrev Tf21:=Int->Tp14->Tp20->Option (Bool)
abbrev Tf22:=Int->Int->Tp20->Option (Bool)
def ziu (r:Tp13):Option (Bool):=
  some (decide ((2:Int) < (r.2.2.2.1.length:Int)))

def zbz (s:Tp12) (r2:Int->Option (Int)) (t:Int):Option (Int):=
  if (decide (t < (s.length:Int)))=true then
  G (0<=t/\t < (s.length:Int)) (
  (ziu (ix s t)).bind (fun y'=>
  if y'=true then
  some t else
  G (fits (t+(1:Int))) (
  r2 (t+(1:Int))))) else
  some (-1:Int)
def zfi (s:Tp12):(Int->Option (Int))->Int->Option (Int):=
  fun rec x=>zbz s (fun t=>rec t) x
def zdZ (s:Tp12) (t:Int):Option (Int):=LFix (zfi s ) t
def ziQ (s:Tp12):Option (Int):=
  zdZ s (0:Int)
theorem zh0 (r2:Nat->Int->Option (Int)) (r2':Int->Option (Int)) (h_r2:∀ a0,ChO (fun κ=>r2 κ a0) (r2' a0)) (s:Tp12) (t:Int):ChO (fun κ=>zbz s (r2 κ) t) (zbz s r2' t):=by
  unfold zbz
  repeat' with_reducible first | exact ChO.const _ | exact h_r2 _ | apply ChO.ite | apply ChO.G | apply ChO.both | (apply ChO.bind;intro _)
theorem zi5  (s:Tp12):Cn (zfi s):=fun g h hg x=>zh0  (fun κ t=>g κ t) (fun t=>h t) (fun t=>hg t) s x
theorem zi6  (s:Tp12) (t:Int):zdZ s t=zbz s (zdZ s) t:=zam (zi5 s) t

def zdY (s:Tp12):Option (Bool):=
  (ziQ s).bind (fun y'=>
  some (decide ((0:Int)<=y')))

def zfI (n:Int):Option (Bool):=
  if (decide (n < (0:Int)))=true then
  some true else
  some (decide ((3:Int)<=n))

def zbg (s:Tp20) (r2:Int->Option (Int)) (t:Int):Option (Int):=
  if (decide (t < (s.length:Int)))=true then
  G (0<=t/\t < (s.length:Int)) (
  (zfI (ix s t)).bind (fun y'=>
  if y'=true then
  some t else
  G (fits (t+(1:Int))) (
  r2 (t+(1:Int))))) else
  some (-1:Int)
def zez (s:Tp20):(Int->Option (Int))->Int->Option (Int):=
  fun rec x=>zbg s (fun t=>rec t) x
def zdd (s:Tp20) (t:Int):Option (Int):=LFix (zez s ) t
def zgZ (s:Tp20):Option (Int):=
  zdd s (0:Int)
theorem zgw (r2:Nat->Int->Option (Int)) (r2':Int->Option (Int)) (h_r2:∀ a0,ChO (fun κ=>r2 κ a0) (r2' a0)) (s:Tp20) (t:Int):ChO (fun κ=>zbg s (r2 κ) t) (zbg s r2' t):=by
  unfold zbg
  repeat' with_reducible first | exact ChO.const _ | exact h_r2 _ | apply ChO.ite | apply ChO.G | apply ChO.both | (apply ChO.bind;intro _)
theorem zhY  (s:Tp20):Cn (zez s):=fun g h hg x=>zgw  (fun κ t=>g κ t) (fun t=>h t) (fun t=>hg t) s x
theorem zhZ  (s:Tp20) (t:Int):zdd s t=zbg s (zdd s) t:=zam (zhY s) t

def zcr (s:Tp20):Option (Bool):=
  (zgZ s).bind (fun y'=>
  some (decide ((0:Int)<=y')))

def zfG (r:Tp13):Option (Bool):=
  (zfI r.1).bind (fun y'=>
  if y'=true then
  some true else
  (zfI r.2.1).bind (fun y'_1=>
  if y'_1=true then
  some true else
  (zfI r.2.2.1).bind (fun y'_2=>
  if y'_2=true then
  some true else
  (zcr r.2.2.2.1).bind (fun y'_3=>
  some y'_3))))

def zbf (s:Tp12) (r2:Int->Option (Int)) (t:Int):Option (Int):=
  if (decide (t < (s.length:Int)))=true then
  G (0<=t/\t < (s.length:Int)) (
  (zfG (ix s t)).bind (fun y'=>
  if y'=true then
  some t else
  G (fits (t+(1:Int))) (
  r2 (t+(1:Int))))) else
  some (-1:Int)
def zey (s:Tp12):(Int->Option (Int))->Int->Option (Int):=
  fun rec x=>zbf s (fun t=>rec t) x
def zdc (s:Tp12) (t:Int):Option (Int):=LFix (zey s ) t
def zgY (s:Tp12):Option (Int):=
  zdc s (0:Int)
theorem zgv (r2:Nat->Int->Option (Int)) (r2':Int->Option (Int)) (h_r2:∀ a0,ChO (fun κ=>r2 κ a0) (r2' a0)) (s:Tp12) (t:Int):ChO (fun κ=>zbf s (r2 κ) t) (zbf s r2' t):=by
  unfold zbf
  repeat' with_reducible first | exact ChO.const _ | exact h_r2 _ | apply ChO.ite | apply ChO.G | apply ChO.both | (apply ChO.bind;intro _)
theorem zhW  (s:Tp12):Cn (zey s):=fun g h hg x=>zgv  (fun κ t=>g κ t) (fun t=>h t) (fun t=>hg t) s x
theorem zhX  (s:Tp12) (t:Int):zdc s t=zbf s (zdc s) t:=zam (zhW s) t

def zdb (s:Tp12):Option (Bool):=
  (zgY s).bind (fun y'=>
  some (decide ((0:Int)<=y')))

def zit (l:Tp12):Option (Int):=
  if (decide ((8:Int) < (l.length:Int)))=true then
  some (1:Int) else
  (zdY l).bind (fun y'=>
  if y'=true then
  some (1:Int) else
  (zdb l).bind (fun y'_1=>
  if y'_1=true then
  some (2:Int) else
  some (0:Int)))

def zg8 (c:Tp16):Option (Int):=
  if (decide ((20:Int) < (c.2.1.length:Int)))=true then
  some (1:Int) else
  (zfI c.1).bind (fun y'=>
  if y'=true then
  some (2:Int) else
  (zcr c.2.1).bind (fun y'_1=>
  if y'_1=true then
  some (2:Int) else
  some (0:Int)))

def zat (cs:Tp14) (r5:Int->Option (Int)) (t:Int):Option (Int):=
  if (decide (t < (cs.length:Int)))=true then
  G (0<=t/\t < (cs.length:Int)) (
  (zg8 ((ix cs t).1,(((ix cs t).2).1,()))).bind (fun y'_1=>
  if (decide (¬ y'_1=(0:Int)))=true then
  some y'_1 else
  G (fits (t+(1:Int))) (
  r5 (t+(1:Int))))) else
  some (0:Int)
def zg7 (cs:Tp14):(Int->Option (Int))->Int->Option (Int):=
  fun rec x=>zat cs (fun t=>rec t) x
def zbJ (cs:Tp14) (t:Int):Option (Int):=LFix (zg7 cs ) t
def zdo (l:Tp12) (cs:Tp14):Option (Int):=
  (zit l).bind (fun y'=>
  if (decide (¬ y'=(0:Int)))=true then
  some y' else
  zbJ cs (0:Int))
theorem zjU (r5:Nat->Int->Option (Int)) (r5':Int->Option (Int)) (h_r5:∀ a0,ChO (fun κ=>r5 κ a0) (r5' a0)) (cs:Tp14) (t:Int):ChO (fun κ=>zat cs (r5 κ) t) (zat cs r5' t):=by
  unfold zat
  repeat' with_reducible first | exact ChO.const _ | exact h_r5 _ | apply ChO.ite | apply ChO.G | apply ChO.both | (apply ChO.bind;intro _)
theorem zll  (cs:Tp14):Cn (zg7 cs):=fun g h hg x=>zjU  (fun κ t=>g κ t) (fun t=>h t) (fun t=>hg t) cs x
theorem zgs  (cs:Tp14) (t:Int):zbJ cs t=zat cs (zbJ cs) t:=zam (zll cs) t

def zcS (l:Tp12) (cs:Tp14):Option (Int):=
  (zdo l cs).bind (fun y'=>
  if (decide (¬ y'=(0:Int)))=true then
  some y' else
  G (fits ((cs.length:Int) - (1:Int))) (
  G (0<=(cs.length:Int) - (1:Int)/\(cs.length:Int) - (1:Int) < (cs.length:Int)) (
  if (decide ((3:Int) < ((((ix cs ((cs.length:Int) - (1:Int))).2).1).length:Int)))=true then
  some (1:Int) else
  some (0:Int))))

def zaP (c:Int) (c_1:Tp20) (c_2:Tp15) (c_3:Tp8):Option Tp4:=
  G (fits ((3:Int)+(c_1.length:Int))) (
  G (fits (((3:Int)+(c_1.length:Int))+(1:Int))) (
  some (((3:Int)+(c_1.length:Int))+(1:Int),c,c_1,c_2,c_3)))

def zal (c:Int) (c_1:Tp20) (c_2:Tp15) (c_3:Tp8):Option Tp4:=
  (zaP c c_1 c_2 c_3).bind (fun y'_6=>
  G (fits (y'_6.1 - (1:Int))) (
  some (y'_6.1 - (1:Int),y'_6.2.1,y'_6.2.2.1,y'_6.2.2.2.1,y'_6.2.2.2.2)))

def zaw (s:Tp15):Option Tp15:=
  if s.length=0 then both [Tc5] (
  some ([])) (
  G (room ([]:List Tp18) s 24) (
  some (([]:List Tp18)++s))) else
  G (room ([]:List Tp18) s 24) (
  some (([]:List Tp18)++s))

def zab (t_3:Int) (best_2:Tp20) (best_3:Tp8) (r12:(Tp10->Int->Tp20->Tp8->Option Tp1)) (w_1:Tp10) (x':Int) (x'_1:Int) (x'_2:Tp15):Option Tp1:=
  if (!(mhas best_2 t_3))=true then
  G (fits (t_3+(1:Int))) (
  r12 w_1 (t_3+(1:Int)) (zb5 best_2 t_3) (zcM best_2 best_3 t_3 (x',(x'_1,(x'_2,()))))) else
  if (decide (x'_1 < (((mget best_2 best_3 t_3 ((0,(0,([],()))):Int×Int×Tp15×Unit)).2).1)))=true then
  G (fits (t_3+(1:Int))) (
  r12 w_1 (t_3+(1:Int)) (zb5 best_2 t_3) (zcM best_2 best_3 t_3 (x',(x'_1,(x'_2,()))))) else
  G (fits (t_3+(1:Int))) (
  r12 w_1 (t_3+(1:Int)) best_2 best_3)
def zax (signs:Tp20) (t_1:Int) (t_2:Int) (r9:(Int->Int->Tp20->Tp20->Tp8->Tp15->Tp8->Option Tp1)) (y'_6:Int) (y'_7:Int) (y'_8:Tp20) (y'_9:Tp15) (y'_10:Tp8) (r12:Tf20) (w:Tp10) (t_3:Int) (best_2:Tp20) (best_3:Tp8):Option Tp1:=
  if (decide (t_3 < y'_6))=true then
  if (!(mhas y'_9 (w.1,(ix signs t_1,(t_3,())))))=true then
  G (fits (t_3+(1:Int))) (
  r12 w (t_3+(1:Int)) best_2 best_3) else
  G (fits (w.2.1+(((mget y'_9 y'_10 (w.1,(ix signs t_1,(t_3,()))) ((0,(0,([],()))):Int×Int×Tp15×Unit)).2).1))) (
  both [Tc1,(.int .i64),(.list (.int .i64)),Tc5,Tc1] (
  both [Tc1,(.int .i64),(.list (.int .i64)),Tc5,Tc1] (
  (zaw w.2.2.1).bind (fun y'_12=>
  both [Tc1,(.int .i64),(.list (.int .i64)),Tc5,Tc1] (
  both [Tc1,(.int .i64),(.list (.int .i64)),Tc5,Tc1] (
  G (room y'_12 ([(w.1,(ix signs t_1,(t_3,())))]) 24) (
  zab t_3 best_2 best_3 r12 w t_3 (imin (w.2.1+(((mget y'_9 y'_10 (w.1,(ix signs t_1,(t_3,()))) ((0,(0,([],()))):Int×Int×Tp15×Unit)).2).1)) (1099511627776:Int)) (y'_12++([(w.1,(ix signs t_1,(t_3,())))])))) (
  G (room y'_12 ([(w.1,(ix signs t_1,(t_3,())))]) 24) (
  zab t_3 best_2 best_3 r12 w t_3 (imin (w.2.1+(((mget y'_9 y'_10 (w.1,(ix signs t_1,(t_3,()))) ((0,(0,([],()))):Int×Int×Tp15×Unit)).2).1)) (1099511627776:Int)) (y'_12++([(w.1,(ix signs t_1,(t_3,())))]))))) (
  G (room y'_12 ([(w.1,(ix signs t_1,(t_3,())))]) 24) (
  zab t_3 best_2 best_3 r12 w t_3 (imin (w.2.1+(((mget y'_9 y'_10 (w.1,(ix signs t_1,(t_3,()))) ((0,(0,([],()))):Int×Int×Tp15×Unit)).2).1)) (1099511627776:Int)) (y'_12++([(w.1,(ix signs t_1,(t_3,())))])))))) (
  both [Tc1,(.int .i64),(.list (.int .i64)),Tc5,Tc1] (
  both [Tc1,(.int .i64),(.list (.int .i64)),Tc5,Tc1] (
  (zaw w.2.2.1).bind (fun y'_13=>
  both [Tc1,(.int .i64),(.list (.int .i64)),Tc5,Tc1] (
  G (room y'_13 ([(w.1,(ix signs t_1,(t_3,())))]) 24) (
  zab t_3 best_2 best_3 r12 w t_3 (imin (w.2.1+(((mget y'_9 y'_10 (w.1,(ix signs t_1,(t_3,()))) ((0,(0,([],()))):Int×Int×Tp15×Unit)).2).1)) (1099511627776:Int)) (y'_13++([(w.1,(ix signs t_1,(t_3,())))])))) (
  G (room y'_13 ([(w.1,(ix signs t_1,(t_3,())))]) 24) (
  zab t_3 best_2 best_3 r12 w t_3 (imin (w.2.1+(((mget y'_9 y'_10 (w.1,(ix signs t_1,(t_3,()))) ((0,(0,([],()))):Int×Int×Tp15×Unit)).2).1)) (1099511627776:Int)) (y'_13++([(w.1,(ix signs t_1,(t_3,())))])))))) (
  (zaw w.2.2.1).bind (fun y'_14=>
  G (room y'_14 ([(w.1,(ix signs t_1,(t_3,())))]) 24) (
  zab t_3 best_2 best_3 r12 w t_3 (imin (w.2.1+(((mget y'_9 y'_10 (w.1,(ix signs t_1,(t_3,()))) ((0,(0,([],()))):Int×Int×Tp15×Unit)).2).1)) (1099511627776:Int)) (y'_14++([(w.1,(ix signs t_1,(t_3,())))])))))) (
  both [Tc1,(.int .i64),(.list (.int .i64)),Tc5,Tc1] (
  (zaw w.2.2.1).bind (fun y'_15=>
  G (room y'_15 ([(w.1,(ix signs t_1,(t_3,())))]) 24) (
  zab t_3 best_2 best_3 r12 w t_3 (imin (w.2.1+(((mget y'_9 y'_10 (w.1,(ix signs t_1,(t_3,()))) ((0,(0,([],()))):Int×Int×Tp15×Unit)).2).1)) (1099511627776:Int)) (y'_15++([(w.1,(ix signs t_1,(t_3,())))]))))) (
  (zaw w.2.2.1).bind (fun y'_16=>
  G (room y'_16 ([(w.1,(ix signs t_1,(t_3,())))]) 24) (
  zab t_3 best_2 best_3 r12 w t_3 (imin (w.2.1+(((mget y'_9 y'_10 (w.1,(ix signs t_1,(t_3,()))) ((0,(0,([],()))):Int×Int×Tp15×Unit)).2).1)) (1099511627776:Int)) (y'_16++([(w.1,(ix signs t_1,(t_3,())))])))))))) (
  both [Tc1,(.int .i64),(.list (.int .i64)),Tc5,Tc1] (
  (zaw w.2.2.1).bind (fun y'_17=>
  both [Tc1,(.int .i64),(.list (.int .i64)),Tc5,Tc1] (
  both [Tc1,(.int .i64),(.list (.int .i64)),Tc5,Tc1] (
  both [Tc1,(.int .i64),(.list (.int .i64)),Tc5,Tc1] (
  G (room y'_17 ([(w.1,(ix signs t_1,(t_3,())))]) 24) (
  zab t_3 best_2 best_3 r12 w t_3 (imin (w.2.1+(((mget y'_9 y'_10 (w.1,(ix signs t_1,(t_3,()))) ((0,(0,([],()))):Int×Int×Tp15×Unit)).2).1)) (1099511627776:Int)) (y'_17++([(w.1,(ix signs t_1,(t_3,())))])))) (
  G (room y'_17 ([(w.1,(ix signs t_1,(t_3,())))]) 24) (
  zab t_3 best_2 best_3 r12 w t_3 (imin (w.2.1+(((mget y'_9 y'_10 (w.1,(ix signs t_1,(t_3,()))) ((0,(0,([],()))):Int×Int×Tp15×Unit)).2).1)) (1099511627776:Int)) (y'_17++([(w.1,(ix signs t_1,(t_3,())))]))))) (
  G (room y'_17 ([(w.1,(ix signs t_1,(t_3,())))]) 24) (
  zab t_3 best_2 best_3 r12 w t_3 (imin (w.2.1+(((mget y'_9 y'_10 (w.1,(ix signs t_1,(t_3,()))) ((0,(0,([],()))):Int×Int×Tp15×Unit)).2).1)) (1099511627776:Int)) (y'_17++([(w.1,(ix signs t_1,(t_3,())))]))))) (
  both [Tc1,(.int .i64),(.list (.int .i64)),Tc5,Tc1] (
  both [Tc1,(.int .i64),(.list (.int .i64)),Tc5,Tc1] (
  both [Tc1,(.int .i64),(.list (.int .i64)),Tc5,Tc1] (
  G (room y'_17 ([(w.1,(ix signs t_1,(t_3,())))]) 24) (
  zab t_3 best_2 best_3 r12 w t_3 (imin (w.2.1+(((mget y'_9 y'_10 (w.1,(ix signs t_1,(t_3,()))) ((0,(0,([],()))):Int×Int×Tp15×Unit)).2).1)) (1099511627776:Int)) (y'_17++([(w.1,(ix signs t_1,(t_3,())))])))) (
  G (room y'_17 ([(w.1,(ix signs t_1,(t_3,())))]) 24) (
  zab t_3 best_2 best_3 r12 w t_3 (imin (w.2.1+(((mget y'_9 y'_10 (w.1,(ix signs t_1,(t_3,()))) ((0,(0,([],()))):Int×Int×Tp15×Unit)).2).1)) (1099511627776:Int)) (y'_17++([(w.1,(ix signs t_1,(t_3,())))]))))) (
  both [Tc1,(.int .i64),(.list (.int .i64)),Tc5,Tc1] (
  G (room y'_17 ([(w.1,(ix signs t_1,(t_3,())))]) 24) (
  zab t_3 best_2 best_3 r12 w t_3 (imin (w.2.1+(((mget y'_9 y'_10 (w.1,(ix signs t_1,(t_3,()))) ((0,(0,([],()))):Int×Int×Tp15×Unit)).2).1)) (1099511627776:Int)) (y'_17++([(w.1,(ix signs t_1,(t_3,())))])))) (
  both [Tc1,(.int .i64),(.list (.int .i64)),Tc5,Tc1] (
  G (room y'_17 ([(w.1,(ix signs t_1,(t_3,())))]) 24) (
  zab t_3 best_2 best_3 r12 w t_3 (imin (w.2.1+(((mget y'_9 y'_10 (w.1,(ix signs t_1,(t_3,()))) ((0,(0,([],()))):Int×Int×Tp15×Unit)).2).1)) (1099511627776:Int)) (y'_17++([(w.1,(ix signs t_1,(t_3,())))])))) (
  G (room y'_17 ([(w.1,(ix signs t_1,(t_3,())))]) 24) (
  zab t_3 best_2 best_3 r12 w t_3 (imin (w.2.1+(((mget y'_9 y'_10 (w.1,(ix signs t_1,(t_3,()))) ((0,(0,([],()))):Int×Int×Tp15×Unit)).2).1)) (1099511627776:Int)) (y'_17++([(w.1,(ix signs t_1,(t_3,())))]))))))) (
  both [Tc1,(.int .i64),(.list (.int .i64)),Tc5,Tc1] (
  G (room y'_17 ([(w.1,(ix signs t_1,(t_3,())))]) 24) (
  zab t_3 best_2 best_3 r12 w t_3 (imin (w.2.1+(((mget y'_9 y'_10 (w.1,(ix signs t_1,(t_3,()))) ((0,(0,([],()))):Int×Int×Tp15×Unit)).2).1)) (1099511627776:Int)) (y'_17++([(w.1,(ix signs t_1,(t_3,())))])))) (
  both [Tc1,(.int .i64),(.list (.int .i64)),Tc5,Tc1] (
  G (room y'_17 ([(w.1,(ix signs t_1,(t_3,())))]) 24) (
  zab t_3 best_2 best_3 r12 w t_3 (imin (w.2.1+(((mget y'_9 y'_10 (w.1,(ix signs t_1,(t_3,()))) ((0,(0,([],()))):Int×Int×Tp15×Unit)).2).1)) (1099511627776:Int)) (y'_17++([(w.1,(ix signs t_1,(t_3,())))])))) (
  G (room y'_17 ([(w.1,(ix signs t_1,(t_3,())))]) 24) (
  zab t_3 best_2 best_3 r12 w t_3 (imin (w.2.1+(((mget y'_9 y'_10 (w.1,(ix signs t_1,(t_3,()))) ((0,(0,([],()))):Int×Int×Tp15×Unit)).2).1)) (1099511627776:Int)) (y'_17++([(w.1,(ix signs t_1,(t_3,())))]))))))))) (
  both [Tc1,(.int .i64),(.list (.int .i64)),Tc5,Tc1] (
  both [Tc1,(.int .i64),(.list (.int .i64)),Tc5,Tc1] (
  both [Tc1,(.int .i64),(.list (.int .i64)),Tc5,Tc1] (
  (zaw w.2.2.1).bind (fun y'_18=>
  both [Tc1,(.int .i64),(.list (.int .i64)),Tc5,Tc1] (
  G (room y'_18 ([(w.1,(ix signs t_1,(t_3,())))]) 24) (
  zab t_3 best_2 best_3 r12 w t_3 (imin (w.2.1+(((mget y'_9 y'_10 (w.1,(ix signs t_1,(t_3,()))) ((0,(0,([],()))):Int×Int×Tp15×Unit)).2).1)) (1099511627776:Int)) (y'_18++([(w.1,(ix signs t_1,(t_3,())))])))) (
  G (room y'_18 ([(w.1,(ix signs t_1,(t_3,())))]) 24) (
  zab t_3 best_2 best_3 r12 w t_3 (imin (w.2.1+(((mget y'_9 y'_10 (w.1,(ix signs t_1,(t_3,()))) ((0,(0,([],()))):Int×Int×Tp15×Unit)).2).1)) (1099511627776:Int)) (y'_18++([(w.1,(ix signs t_1,(t_3,())))])))))) (
  (zaw w.2.2.1).bind (fun y'_19=>
  G (room y'_19 ([(w.1,(ix signs t_1,(t_3,())))]) 24) (
  zab t_3 best_2 best_3 r12 w t_3 (imin (w.2.1+(((mget y'_9 y'_10 (w.1,(ix signs t_1,(t_3,()))) ((0,(0,([],()))):Int×Int×Tp15×Unit)).2).1)) (1099511627776:Int)) (y'_19++([(w.1,(ix signs t_1,(t_3,())))])))))) (
  both [Tc1,(.int .i64),(.list (.int .i64)),Tc5,Tc1] (
  (zaw w.2.2.1).bind (fun y'_20=>
  both [Tc1,(.int .i64),(.list (.int .i64)),Tc5,Tc1] (
  both [Tc1,(.int .i64),(.list (.int .i64)),Tc5,Tc1] (
  G (room y'_20 ([(w.1,(ix signs t_1,(t_3,())))]) 24) (
  zab t_3 best_2 best_3 r12 w t_3 (imin (w.2.1+(((mget y'_9 y'_10 (w.1,(ix signs t_1,(t_3,()))) ((0,(0,([],()))):Int×Int×Tp15×Unit)).2).1)) (1099511627776:Int)) (y'_20++([(w.1,(ix signs t_1,(t_3,())))])))) (
  G (room y'_20 ([(w.1,(ix signs t_1,(t_3,())))]) 24) (
  zab t_3 best_2 best_3 r12 w t_3 (imin (w.2.1+(((mget y'_9 y'_10 (w.1,(ix signs t_1,(t_3,()))) ((0,(0,([],()))):Int×Int×Tp15×Unit)).2).1)) (1099511627776:Int)) (y'_20++([(w.1,(ix signs t_1,(t_3,())))]))))) (
  both [Tc1,(.int .i64),(.list (.int .i64)),Tc5,Tc1] (
  G (room y'_20 ([(w.1,(ix signs t_1,(t_3,())))]) 24) (
  zab t_3 best_2 best_3 r12 w t_3 (imin (w.2.1+(((mget y'_9 y'_10 (w.1,(ix signs t_1,(t_3,()))) ((0,(0,([],()))):Int×Int×Tp15×Unit)).2).1)) (1099511627776:Int)) (y'_20++([(w.1,(ix signs t_1,(t_3,())))])))) (
  both [Tc1,(.int .i64),(.list (.int .i64)),Tc5,Tc1] (
  G (room y'_20 ([(w.1,(ix signs t_1,(t_3,())))]) 24) (
  zab t_3 best_2 best_3 r12 w t_3 (imin (w.2.1+(((mget y'_9 y'_10 (w.1,(ix signs t_1,(t_3,()))) ((0,(0,([],()))):Int×Int×Tp15×Unit)).2).1)) (1099511627776:Int)) (y'_20++([(w.1,(ix signs t_1,(t_3,())))])))) (
  G (room y'_20 ([(w.1,(ix signs t_1,(t_3,())))]) 24) (
  zab t_3 best_2 best_3 r12 w t_3 (imin (w.2.1+(((mget y'_9 y'_10 (w.1,(ix signs t_1,(t_3,()))) ((0,(0,([],()))):Int×Int×Tp15×Unit)).2).1)) (1099511627776:Int)) (y'_20++([(w.1,(ix signs t_1,(t_3,())))])))))))) (
  both [Tc1,(.int .i64),(.list (.int .i64)),Tc5,Tc1] (
  (zaw w.2.2.1).bind (fun y'_21=>
  G (room y'_21 ([(w.1,(ix signs t_1,(t_3,())))]) 24) (
  zab t_3 best_2 best_3 r12 w t_3 (imin (w.2.1+(((mget y'_9 y'_10 (w.1,(ix signs t_1,(t_3,()))) ((0,(0,([],()))):Int×Int×Tp15×Unit)).2).1)) (1099511627776:Int)) (y'_21++([(w.1,(ix signs t_1,(t_3,())))]))))) (
  (zaw w.2.2.1).bind (fun y'_22=>
  both [Tc1,(.int .i64),(.list (.int .i64)),Tc5,Tc1] (
  G (room y'_22 ([(w.1,(ix signs t_1,(t_3,())))]) 24) (
  zab t_3 best_2 best_3 r12 w t_3 (imin (w.2.1+(((mget y'_9 y'_10 (w.1,(ix signs t_1,(t_3,()))) ((0,(0,([],()))):Int×Int×Tp15×Unit)).2).1)) (1099511627776:Int)) (y'_22++([(w.1,(ix signs t_1,(t_3,())))])))) (
  G (room y'_22 ([(w.1,(ix signs t_1,(t_3,())))]) 24) (
  zab t_3 best_2 best_3 r12 w t_3 (imin (w.2.1+(((mget y'_9 y'_10 (w.1,(ix signs t_1,(t_3,()))) ((0,(0,([],()))):Int×Int×Tp15×Unit)).2).1)) (1099511627776:Int)) (y'_22++([(w.1,(ix signs t_1,(t_3,())))]))))))))) (
  both [Tc1,(.int .i64),(.list (.int .i64)),Tc5,Tc1] (
  both [Tc1,(.int .i64),(.list (.int .i64)),Tc5,Tc1] (
  (zaw w.2.2.1).bind (fun y'_23=>
  G (room y'_23 ([(w.1,(ix signs t_1,(t_3,())))]) 24) (
  zab t_3 best_2 best_3 r12 w t_3 (imin (w.2.1+(((mget y'_9 y'_10 (w.1,(ix signs t_1,(t_3,()))) ((0,(0,([],()))):Int×Int×Tp15×Unit)).2).1)) (1099511627776:Int)) (y'_23++([(w.1,(ix signs t_1,(t_3,())))]))))) (
  (zaw w.2.2.1).bind (fun y'_24=>
  G (room y'_24 ([(w.1,(ix signs t_1,(t_3,())))]) 24) (
  zab t_3 best_2 best_3 r12 w t_3 (imin (w.2.1+(((mget y'_9 y'_10 (w.1,(ix signs t_1,(t_3,()))) ((0,(0,([],()))):Int×Int×Tp15×Unit)).2).1)) (1099511627776:Int)) (y'_24++([(w.1,(ix signs t_1,(t_3,())))])))))) (
  both [Tc1,(.int .i64),(.list (.int .i64)),Tc5,Tc1] (
  (zaw w.2.2.1).bind (fun y'_25=>
  both [Tc1,(.int .i64),(.list (.int .i64)),Tc5,Tc1] (
  G (room y'_25 ([(w.1,(ix signs t_1,(t_3,())))]) 24) (
  zab t_3 best_2 best_3 r12 w t_3 (imin (w.2.1+(((mget y'_9 y'_10 (w.1,(ix signs t_1,(t_3,()))) ((0,(0,([],()))):Int×Int×Tp15×Unit)).2).1)) (1099511627776:Int)) (y'_25++([(w.1,(ix signs t_1,(t_3,())))])))) (
  both [Tc1,(.int .i64),(.list (.int .i64)),Tc5,Tc1] (
  G (room y'_25 ([(w.1,(ix signs t_1,(t_3,())))]) 24) (
  zab t_3 best_2 best_3 r12 w t_3 (imin (w.2.1+(((mget y'_9 y'_10 (w.1,(ix signs t_1,(t_3,()))) ((0,(0,([],()))):Int×Int×Tp15×Unit)).2).1)) (1099511627776:Int)) (y'_25++([(w.1,(ix signs t_1,(t_3,())))])))) (
  G (room y'_25 ([(w.1,(ix signs t_1,(t_3,())))]) 24) (
  zab t_3 best_2 best_3 r12 w t_3 (imin (w.2.1+(((mget y'_9 y'_10 (w.1,(ix signs t_1,(t_3,()))) ((0,(0,([],()))):Int×Int×Tp15×Unit)).2).1)) (1099511627776:Int)) (y'_25++([(w.1,(ix signs t_1,(t_3,())))]))))))) (
  both [Tc1,(.int .i64),(.list (.int .i64)),Tc5,Tc1] (
  (zaw w.2.2.1).bind (fun y'_26=>
  G (room y'_26 ([(w.1,(ix signs t_1,(t_3,())))]) 24) (
  zab t_3 best_2 best_3 r12 w t_3 (imin (w.2.1+(((mget y'_9 y'_10 (w.1,(ix signs t_1,(t_3,()))) ((0,(0,([],()))):Int×Int×Tp15×Unit)).2).1)) (1099511627776:Int)) (y'_26++([(w.1,(ix signs t_1,(t_3,())))]))))) (
  (zaw w.2.2.1).bind (fun y'_27=>
  both [Tc1,(.int .i64),(.list (.int .i64)),Tc5,Tc1] (
  G (room y'_27 ([(w.1,(ix signs t_1,(t_3,())))]) 24) (
  zab t_3 best_2 best_3 r12 w t_3 (imin (w.2.1+(((mget y'_9 y'_10 (w.1,(ix signs t_1,(t_3,()))) ((0,(0,([],()))):Int×Int×Tp15×Unit)).2).1)) (1099511627776:Int)) (y'_27++([(w.1,(ix signs t_1,(t_3,())))])))) (
  G (room y'_27 ([(w.1,(ix signs t_1,(t_3,())))]) 24) (
  zab t_3 best_2 best_3 r12 w t_3 (imin (w.2.1+(((mget y'_9 y'_10 (w.1,(ix signs t_1,(t_3,()))) ((0,(0,([],()))):Int×Int×Tp15×Unit)).2).1)) (1099511627776:Int)) (y'_27++([(w.1,(ix signs t_1,(t_3,())))])))))))))))) else
  G (fits (t_2+(1:Int))) (
  r9 (t_2+(1:Int)) y'_7 y'_8 best_2 best_3 y'_9 y'_10)
def zds (signs:Tp20) (t_1:Int) (t_2:Int) (r9:(Int->Int->Tp20->Tp20->Tp8->Tp15->Tp8->Option Tp1)) (y'_6:Int) (y'_7:Int) (y'_8:Tp20) (y'_9:Tp15) (y'_10:Tp8):(Tp10×Int×Tp20×Tp8->Option Tp1)->Tp10×Int×Tp20×Tp8->Option Tp1:=
  fun rec x=>zax signs t_1 t_2 r9 y'_6 y'_7 y'_8 y'_9 y'_10 (fun w t_3 best_2 best_3=>rec (w,t_3,best_2,best_3)) x.1 x.2.1 x.2.2.1 x.2.2.2
def zak (signs:Tp20) (t_1:Int) (t_2:Int) (r9:(Int->Int->Tp20->Tp20->Tp8->Tp15->Tp8->Option Tp1)) (y'_6:Int) (y'_7:Int) (y'_8:Tp20) (y'_9:Tp15) (y'_10:Tp8) (w:Tp10) (t_3:Int) (best_2:Tp20) (best_3:Tp8):Option Tp1:=LFix (zds signs t_1 t_2 r9 y'_6 y'_7 y'_8 y'_9 y'_10 ) (w,t_3,best_2,best_3)
def zah (t_4:Int) (r25:(Int->Int->Tp20->Tp15->Tp8->Tp8->Option Tp1)) (s_8:Int) (s_9:Tp20) (l_11:Tp8) (l_12:Tp15) (l_13:Tp8):Option Tp1:=
  G (fits (t_4+(1:Int))) (
  r25 (t_4+(1:Int)) s_8 s_9 l_12 l_13 l_11)
def zaJ (best:Tp20) (best_1:Tp8) (t_4:Int) (s_6:Int) (s_7:Tp20) (l_8:Tp15) (l_9:Tp8) (l_10:Tp8) (r25:(Int->Int->Tp20->Tp15->Tp8->Tp8->Option Tp1)) (t_5:Bool):Option Tp1:=
  if t_5=true then
  both [Tc1,(.int .i64),(.list (.int .i64)),Tc5,Tc1] (
  both [Tc1,(.int .i64),(.list (.int .i64)),Tc5,Tc1] (
  (zal s_6 s_7 l_8 l_9).bind (fun y'_41=>
  G (room (l_10++([((mget best best_1 t_4 ((0,(0,([],()))):Int×Int×Tp15×Unit)).1,(((mget best best_1 t_4 ((0,(0,([],()))):Int×Int×Tp15×Unit)).2).1,((((mget best best_1 t_4 ((0,(0,([],()))):Int×Int×Tp15×Unit)).2).2).1,())))]:List Tp10)) ([(y'_41.1,(((mget best best_1 t_4 ((0,(0,([],()))):Int×Int×Tp15×Unit)).2).1,((((mget best best_1 t_4 ((0,(0,([],()))):Int×Int×Tp15×Unit)).2).2).1,())))]:List Tp10) 40) (
  zah t_4 r25 y'_41.2.1 y'_41.2.2.1 ((l_10++([((mget best best_1 t_4 ((0,(0,([],()))):Int×Int×Tp15×Unit)).1,(((mget best best_1 t_4 ((0,(0,([],()))):Int×Int×Tp15×Unit)).2).1,((((mget best best_1 t_4 ((0,(0,([],()))):Int×Int×Tp15×Unit)).2).2).1,())))]:List Tp10))++([(y'_41.1,(((mget best best_1 t_4 ((0,(0,([],()))):Int×Int×Tp15×Unit)).2).1,((((mget best best_1 t_4 ((0,(0,([],()))):Int×Int×Tp15×Unit)).2).2).1,())))]:List Tp10)) y'_41.2.2.2.1 y'_41.2.2.2.2))) (
  (zal s_6 s_7 l_8 l_9).bind (fun y'_48=>
  G (room (l_10++([((mget best best_1 t_4 ((0,(0,([],()))):Int×Int×Tp15×Unit)).1,(((mget best best_1 t_4 ((0,(0,([],()))):Int×Int×Tp15×Unit)).2).1,((((mget best best_1 t_4 ((0,(0,([],()))):Int×Int×Tp15×Unit)).2).2).1,())))]:List Tp10)) ([(y'_48.1,(((mget best best_1 t_4 ((0,(0,([],()))):Int×Int×Tp15×Unit)).2).1,((((mget best best_1 t_4 ((0,(0,([],()))):Int×Int×Tp15×Unit)).2).2).1,())))]:List Tp10) 40) (
  zah t_4 r25 y'_48.2.1 y'_48.2.2.1 ((l_10++([((mget best best_1 t_4 ((0,(0,([],()))):Int×Int×Tp15×Unit)).1,(((mget best best_1 t_4 ((0,(0,([],()))):Int×Int×Tp15×Unit)).2).1,((((mget best best_1 t_4 ((0,(0,([],()))):Int×Int×Tp15×Unit)).2).2).1,())))]:List Tp10))++([(y'_48.1,(((mget best best_1 t_4 ((0,(0,([],()))):Int×Int×Tp15×Unit)).2).1,((((mget best best_1 t_4 ((0,(0,([],()))):Int×Int×Tp15×Unit)).2).2).1,())))]:List Tp10)) y'_48.2.2.2.1 y'_48.2.2.2.2)))) (
  both [Tc1,(.int .i64),(.list (.int .i64)),Tc5,Tc1] (
  (zal s_6 s_7 l_8 l_9).bind (fun y'_55=>
  G (room (l_10++([((mget best best_1 t_4 ((0,(0,([],()))):Int×Int×Tp15×Unit)).1,(((mget best best_1 t_4 ((0,(0,([],()))):Int×Int×Tp15×Unit)).2).1,((((mget best best_1 t_4 ((0,(0,([],()))):Int×Int×Tp15×Unit)).2).2).1,())))]:List Tp10)) ([(y'_55.1,(((mget best best_1 t_4 ((0,(0,([],()))):Int×Int×Tp15×Unit)).2).1,((((mget best best_1 t_4 ((0,(0,([],()))):Int×Int×Tp15×Unit)).2).2).1,())))]:List Tp10) 40) (
  zah t_4 r25 y'_55.2.1 y'_55.2.2.1 ((l_10++([((mget best best_1 t_4 ((0,(0,([],()))):Int×Int×Tp15×Unit)).1,(((mget best best_1 t_4 ((0,(0,([],()))):Int×Int×Tp15×Unit)).2).1,((((mget best best_1 t_4 ((0,(0,([],()))):Int×Int×Tp15×Unit)).2).2).1,())))]:List Tp10))++([(y'_55.1,(((mget best best_1 t_4 ((0,(0,([],()))):Int×Int×Tp15×Unit)).2).1,((((mget best best_1 t_4 ((0,(0,([],()))):Int×Int×Tp15×Unit)).2).2).1,())))]:List Tp10)) y'_55.2.2.2.1 y'_55.2.2.2.2))) (
  (zal s_6 s_7 l_8 l_9).bind (fun y'_62=>
  G (room (l_10++([((mget best best_1 t_4 ((0,(0,([],()))):Int×Int×Tp15×Unit)).1,(((mget best best_1 t_4 ((0,(0,([],()))):Int×Int×Tp15×Unit)).2).1,((((mget best best_1 t_4 ((0,(0,([],()))):Int×Int×Tp15×Unit)).2).2).1,())))]:List Tp10)) ([(y'_62.1,(((mget best best_1 t_4 ((0,(0,([],()))):Int×Int×Tp15×Unit)).2).1,((((mget best best_1 t_4 ((0,(0,([],()))):Int×Int×Tp15×Unit)).2).2).1,())))]:List Tp10) 40) (
  zah t_4 r25 y'_62.2.1 y'_62.2.2.1 ((l_10++([((mget best best_1 t_4 ((0,(0,([],()))):Int×Int×Tp15×Unit)).1,(((mget best best_1 t_4 ((0,(0,([],()))):Int×Int×Tp15×Unit)).2).1,((((mget best best_1 t_4 ((0,(0,([],()))):Int×Int×Tp15×Unit)).2).2).1,())))]:List Tp10))++([(y'_62.1,(((mget best best_1 t_4 ((0,(0,([],()))):Int×Int×Tp15×Unit)).2).1,((((mget best best_1 t_4 ((0,(0,([],()))):Int×Int×Tp15×Unit)).2).2).1,())))]:List Tp10)) y'_62.2.2.2.1 y'_62.2.2.2.2)))) else
  zah t_4 r25 s_6 s_7 (l_10++([((mget best best_1 t_4 ((0,(0,([],()))):Int×Int×Tp15×Unit)).1,(((mget best best_1 t_4 ((0,(0,([],()))):Int×Int×Tp15×Unit)).2).1,((((mget best best_1 t_4 ((0,(0,([],()))):Int×Int×Tp15×Unit)).2).2).1,())))]:List Tp10)) l_8 l_9
def zay (t_1:Int) (r5:(Int->Int->Tp20->Tp8->Tp15->Tp8->Option Tp1)) (best:Tp20) (best_1:Tp8) (y'_29:Int) (r25:Tf11) (t_4:Int) (s_6:Int) (s_7:Tp20) (l_8:Tp15) (l_9:Tp8) (l_10:Tp8):Option Tp1:=
  if (decide (t_4 < y'_29))=true then
  if (mhas best t_4)=true then
  G (room l_10 ([((mget best best_1 t_4 ((0,(0,([],()))):Int×Int×Tp15×Unit)).1,(((mget best best_1 t_4 ((0,(0,([],()))):Int×Int×Tp15×Unit)).2).1,((((mget best best_1 t_4 ((0,(0,([],()))):Int×Int×Tp15×Unit)).2).2).1,())))]:List Tp10) 40) (
  if (decide (t_4=s_6))=true then
  zaJ best best_1 t_4 s_6 s_7 l_8 l_9 l_10 r25 (decide ((s_7.length:Int)=(0:Int))) else
  zaJ best best_1 t_4 s_6 s_7 l_8 l_9 l_10 r25 false) else
  zah t_4 r25 s_6 s_7 l_10 l_8 l_9 else
  G (fits (t_1+(1:Int))) (
  r5 (t_1+(1:Int)) s_6 s_7 l_10 l_8 l_9)
def zdt (t_1:Int) (r5:(Int->Int->Tp20->Tp8->Tp15->Tp8->Option Tp1)) (best:Tp20) (best_1:Tp8) (y'_29:Int):(Int×Int×Tp20×Tp15×Tp8×Tp8->Option Tp1)->Int×Int×Tp20×Tp15×Tp8×Tp8->Option Tp1:=
  fun rec x=>zay t_1 r5 best best_1 y'_29 (fun t_4 s_6 s_7 l_8 l_9 l_10=>rec (t_4,s_6,s_7,l_8,l_9,l_10)) x.1 x.2.1 x.2.2.1 x.2.2.2.1 x.2.2.2.2.1 x.2.2.2.2.2
def zao (t_1:Int) (r5:(Int->Int->Tp20->Tp8->Tp15->Tp8->Option Tp1)) (best:Tp20) (best_1:Tp8) (y'_29:Int) (t_4:Int) (s_6:Int) (s_7:Tp20) (l_8:Tp15) (l_9:Tp8) (l_10:Tp8):Option Tp1:=LFix (zdt t_1 r5 best best_1 y'_29 ) (t_4,s_6,s_7,l_8,l_9,l_10)
def zaD (signs:Tp20) (t_1:Int) (l_3:Tp8) (r5:(Int->Int->Tp20->Tp8->Tp15->Tp8->Option Tp1)) (r9:Tf5) (t_2:Int) (s_4:Int) (s_5:Tp20) (best:Tp20) (best_1:Tp8) (l_6:Tp15) (l_7:Tp8):Option Tp1:=
  if (decide (t_2 < (l_3.length:Int)))=true then
  G (0<=t_2/\t_2 < (l_3.length:Int)) (
  G ((t_2).toNat < l_3.length) (
  (zaP s_4 s_5 l_6 l_7).bind (fun y'_28=>
  zak signs t_1 t_2 r9 y'_28.1 y'_28.2.1 y'_28.2.2.1 y'_28.2.2.2.1 y'_28.2.2.2.2 ((ix l_3 t_2).1,(((ix l_3 t_2).2).1,((((ix l_3 t_2).2).2).1,()))) (0:Int) best best_1))) else
  (zaP s_4 s_5 l_6 l_7).bind (fun y'_63=>
  zao t_1 r5 best best_1 y'_63.1 (0:Int) y'_63.2.1 y'_63.2.2.1 y'_63.2.2.2.1 y'_63.2.2.2.2 ([]))
def zdL (signs:Tp20) (t_1:Int) (l_3:Tp8) (r5:(Int->Int->Tp20->Tp8->Tp15->Tp8->Option Tp1)):(Int×Int×Tp20×Tp20×Tp8×Tp15×Tp8->Option Tp1)->Int×Int×Tp20×Tp20×Tp8×Tp15×Tp8->Option Tp1:=
  fun rec x=>zaD signs t_1 l_3 r5 (fun t_2 s_4 s_5 best best_1 l_6 l_7=>rec (t_2,s_4,s_5,best,best_1,l_6,l_7)) x.1 x.2.1 x.2.2.1 x.2.2.2.1 x.2.2.2.2.1 x.2.2.2.2.2.1 x.2.2.2.2.2.2
def zar (signs:Tp20) (t_1:Int) (l_3:Tp8) (r5:(Int->Int->Tp20->Tp8->Tp15->Tp8->Option Tp1)) (t_2:Int) (s_4:Int) (s_5:Tp20) (best:Tp20) (best_1:Tp8) (l_6:Tp15) (l_7:Tp8):Option Tp1:=LFix (zdL signs t_1 l_3 r5 ) (t_2,s_4,s_5,best,best_1,l_6,l_7)
def zaC (signs:Tp20) (r5:Tf12) (t_1:Int) (s_2:Int) (s_3:Tp20) (l_3:Tp8) (l_4:Tp15) (l_5:Tp8):Option Tp1:=
  if (decide (t_1 < (signs.length:Int)))=true then
  G (0<=t_1/\t_1 < (signs.length:Int)) (
  zar signs t_1 l_3 r5 (0:Int) s_2 s_3 ([]:List Int) ([]:List Tp10) l_4 l_5) else
  some (l_3,s_2,s_3,l_4,l_5)
def zdK (signs:Tp20):(Int×Int×Tp20×Tp8×Tp15×Tp8->Option Tp1)->Int×Int×Tp20×Tp8×Tp15×Tp8->Option Tp1:=
  fun rec x=>zaC signs (fun t_1 s_2 s_3 l_3 l_4 l_5=>rec (t_1,s_2,s_3,l_3,l_4,l_5)) x.1 x.2.1 x.2.2.1 x.2.2.2.1 x.2.2.2.2.1 x.2.2.2.2.2
def zbj (signs:Tp20) (t_1:Int) (s_2:Int) (s_3:Tp20) (l_3:Tp8) (l_4:Tp15) (l_5:Tp8):Option Tp1:=LFix (zdK signs ) (t_1,s_2,s_3,l_3,l_4,l_5)
def zeF (signs:Tp20) (s:Int) (s_1:Tp20) (l:Tp8) (l_1:Tp15) (l_2:Tp8):Option Tp1:=
  zbj signs (0:Int) s s_1 l l_1 l_2
def zbQ (from':Int) (signs:Tp20) (c:Int) (c_1:Tp20) (c_2:Tp15) (c_3:Tp8) (t:Bool):Option Tp1:=
  if t=true then
  (zal c c_1 c_2 c_3).bind (fun y'_64=>
  G (room ([(from',((0:Int),([],())))]:List Tp10) ([(y'_64.1,((0:Int),([],())))]:List Tp10) 40) (
  zeF signs y'_64.2.1 y'_64.2.2.1 (([(from',((0:Int),([],())))]:List Tp10)++([(y'_64.1,((0:Int),([],())))]:List Tp10)) y'_64.2.2.2.1 y'_64.2.2.2.2)) else
  zeF signs c c_1 ([(from',((0:Int),([],())))]:List Tp10) c_2 c_3
def zaX (from':Int) (signs:Tp20) (c:Int) (c_1:Tp20) (c_2:Tp15) (c_3:Tp8):Option Tp1:=
  if (decide ((c_1.length:Int)=(0:Int)))=true then
  zbQ from' signs c c_1 c_2 c_3 (decide (from'=c)) else
  zbQ from' signs c c_1 c_2 c_3 false
theorem zaI (r12:Nat->Tf20) (r12':Tf20) (h_r12:∀ a0 a1 a2 a3,ChO (fun κ=>r12 κ a0 a1 a2 a3) (r12' a0 a1 a2 a3)) (t_3:Int) (best_2:Tp20) (best_3:Tp8) (w_1:Tp10) (x':Int) (x'_1:Int) (x'_2:Tp15):ChO (fun κ=>zab t_3 best_2 best_3 (r12 κ) w_1 x' x'_1 x'_2) (zab t_3 best_2 best_3 r12' w_1 x' x'_1 x'_2):=by
  unfold zab
  repeat' with_reducible first | exact ChO.const _ | exact h_r12 _ _ _ _ | apply ChO.ite | apply ChO.G | apply ChO.both | (apply ChO.bind;intro _)
theorem zcX (r9:Nat->Tf5) (r9':Tf5) (h_r9:∀ a0 a1 a2 a3 a4 a5 a6,ChO (fun κ=>r9 κ a0 a1 a2 a3 a4 a5 a6) (r9' a0 a1 a2 a3 a4 a5 a6)) (r12:Nat->Tf20) (r12':Tf20) (h_r12:∀ a0 a1 a2 a3,ChO (fun κ=>r12 κ a0 a1 a2 a3) (r12' a0 a1 a2 a3)) (signs:Tp20) (t_1:Int) (t_2:Int) (y'_6:Int) (y'_7:Int) (y'_8:Tp20) (y'_9:Tp15) (y'_10:Tp8) (w:Tp10) (t_3:Int) (best_2:Tp20) (best_3:Tp8):ChO (fun κ=>zax signs t_1 t_2 (r9 κ) y'_6 y'_7 y'_8 y'_9 y'_10 (r12 κ) w t_3 best_2 best_3) (zax signs t_1 t_2 r9' y'_6 y'_7 y'_8 y'_9 y'_10 r12' w t_3 best_2 best_3):=by
  unfold zax
  repeat' with_reducible first | exact ChO.const _ | exact h_r9 _ _ _ _ _ _ _ | exact h_r12 _ _ _ _ | (apply zaI<;>assumption) | apply ChO.ite | apply ChO.G | apply ChO.both | (apply ChO.bind;intro _)
theorem zcg (r9:Tf5) (signs:Tp20) (t_1:Int) (t_2:Int) (y'_6:Int) (y'_7:Int) (y'_8:Tp20) (y'_9:Tp15) (y'_10:Tp8):Cn (zds signs t_1 t_2 r9 y'_6 y'_7 y'_8 y'_9 y'_10):=fun g h hg x=>zcX (fun _=>r9) r9 (fun _ _ _ _ _ _ _=>ChO.const _) (fun κ w t_3 best_2 best_3=>g κ (w,t_3,best_2,best_3)) (fun w t_3 best_2 best_3=>h (w,t_3,best_2,best_3)) (fun w t_3 best_2 best_3=>hg (w,t_3,best_2,best_3)) signs t_1 t_2 y'_6 y'_7 y'_8 y'_9 y'_10 x.1 x.2.1 x.2.2.1 x.2.2.2
theorem zde (r9:Tf5) (signs:Tp20) (t_1:Int) (t_2:Int) (y'_6:Int) (y'_7:Int) (y'_8:Tp20) (y'_9:Tp15) (y'_10:Tp8) (w:Tp10) (t_3:Int) (best_2:Tp20) (best_3:Tp8):zak signs t_1 t_2 r9 y'_6 y'_7 y'_8 y'_9 y'_10 w t_3 best_2 best_3=zax signs t_1 t_2 r9 y'_6 y'_7 y'_8 y'_9 y'_10 (zak signs t_1 t_2 r9 y'_6 y'_7 y'_8 y'_9 y'_10) w t_3 best_2 best_3:=zam (zcg r9 signs t_1 t_2 y'_6 y'_7 y'_8 y'_9 y'_10) (w,t_3,best_2,best_3)
theorem zaR (r9:Nat->Tf5) (r9':Tf5) (h_r9:∀ a0 a1 a2 a3 a4 a5 a6,ChO (fun κ=>r9 κ a0 a1 a2 a3 a4 a5 a6) (r9' a0 a1 a2 a3 a4 a5 a6)) (signs:Tp20) (t_1:Int) (t_2:Int) (y'_6:Int) (y'_7:Int) (y'_8:Tp20) (y'_9:Tp15) (y'_10:Tp8) (w:Tp10) (t_3:Int) (best_2:Tp20) (best_3:Tp8):ChO (fun κ=>zak signs t_1 t_2 (r9 κ) y'_6 y'_7 y'_8 y'_9 y'_10 w t_3 best_2 best_3) (zak signs t_1 t_2 r9' y'_6 y'_7 y'_8 y'_9 y'_10 w t_3 best_2 best_3):=by
  unfold zak
  exact zcE (fun κ=>(zcg (r9 κ) signs t_1 t_2 y'_6 y'_7 y'_8 y'_9 y'_10).mono) (zcg r9' signs t_1 t_2 y'_6 y'_7 y'_8 y'_9 y'_10).mono (fun g h hg x=>zcX r9 r9' h_r9 (fun κ w t_3 best_2 best_3=>g κ (w,t_3,best_2,best_3)) (fun w t_3 best_2 best_3=>h (w,t_3,best_2,best_3)) (fun w t_3 best_2 best_3=>hg (w,t_3,best_2,best_3)) signs t_1 t_2 y'_6 y'_7 y'_8 y'_9 y'_10 x.1 x.2.1 x.2.2.1 x.2.2.2) _
theorem zbi (r25:Nat->Tf11) (r25':Tf11) (h_r25:∀ a0 a1 a2 a3 a4 a5,ChO (fun κ=>r25 κ a0 a1 a2 a3 a4 a5) (r25' a0 a1 a2 a3 a4 a5)) (t_4:Int) (s_8:Int) (s_9:Tp20) (l_11:Tp8) (l_12:Tp15) (l_13:Tp8):ChO (fun κ=>zah t_4 (r25 κ) s_8 s_9 l_11 l_12 l_13) (zah t_4 r25' s_8 s_9 l_11 l_12 l_13):=by
  unfold zah
  repeat' with_reducible first | exact ChO.const _ | exact h_r25 _ _ _ _ _ _ | (apply zaI<;>assumption) | (apply zaR<;>assumption) | apply ChO.ite | apply ChO.G | apply ChO.both | (apply ChO.bind;intro _)
theorem zcf (r25:Nat->Tf11) (r25':Tf11) (h_r25:∀ a0 a1 a2 a3 a4 a5,ChO (fun κ=>r25 κ a0 a1 a2 a3 a4 a5) (r25' a0 a1 a2 a3 a4 a5)) (best:Tp20) (best_1:Tp8) (t_4:Int) (s_6:Int) (s_7:Tp20) (l_8:Tp15) (l_9:Tp8) (l_10:Tp8) (t_5:Bool):ChO (fun κ=>zaJ best best_1 t_4 s_6 s_7 l_8 l_9 l_10 (r25 κ) t_5) (zaJ best best_1 t_4 s_6 s_7 l_8 l_9 l_10 r25' t_5):=by
  unfold zaJ
  repeat' with_reducible first | exact ChO.const _ | exact h_r25 _ _ _ _ _ _ | (apply zaI<;>assumption) | (apply zaR<;>assumption) | (apply zbi<;>assumption) | apply ChO.ite | apply ChO.G | apply ChO.both | (apply ChO.bind;intro _)
theorem zcY (r5:Nat->Tf12) (r5':Tf12) (h_r5:∀ a0 a1 a2 a3 a4 a5,ChO (fun κ=>r5 κ a0 a1 a2 a3 a4 a5) (r5' a0 a1 a2 a3 a4 a5)) (r25:Nat->Tf11) (r25':Tf11) (h_r25:∀ a0 a1 a2 a3 a4 a5,ChO (fun κ=>r25 κ a0 a1 a2 a3 a4 a5) (r25' a0 a1 a2 a3 a4 a5)) (t_1:Int) (best:Tp20) (best_1:Tp8) (y'_29:Int) (t_4:Int) (s_6:Int) (s_7:Tp20) (l_8:Tp15) (l_9:Tp8) (l_10:Tp8):ChO (fun κ=>zay t_1 (r5 κ) best best_1 y'_29 (r25 κ) t_4 s_6 s_7 l_8 l_9 l_10) (zay t_1 r5' best best_1 y'_29 r25' t_4 s_6 s_7 l_8 l_9 l_10):=by
  unfold zay
  repeat' with_reducible first | exact ChO.const _ | exact h_r5 _ _ _ _ _ _ | exact h_r25 _ _ _ _ _ _ | (apply zaI<;>assumption) | (apply zaR<;>assumption) | (apply zbi<;>assumption) | (apply zcf<;>assumption) | apply ChO.ite | apply ChO.G | apply ChO.both | (apply ChO.bind;intro _)
theorem zch (r5:Tf12) (t_1:Int) (best:Tp20) (best_1:Tp8) (y'_29:Int):Cn (zdt t_1 r5 best best_1 y'_29):=fun g h hg x=>zcY (fun _=>r5) r5 (fun _ _ _ _ _ _=>ChO.const _) (fun κ t_4 s_6 s_7 l_8 l_9 l_10=>g κ (t_4,s_6,s_7,l_8,l_9,l_10)) (fun t_4 s_6 s_7 l_8 l_9 l_10=>h (t_4,s_6,s_7,l_8,l_9,l_10)) (fun t_4 s_6 s_7 l_8 l_9 l_10=>hg (t_4,s_6,s_7,l_8,l_9,l_10)) t_1 best best_1 y'_29 x.1 x.2.1 x.2.2.1 x.2.2.2.1 x.2.2.2.2.1 x.2.2.2.2.2
theorem zdg (r5:Tf12) (t_1:Int) (best:Tp20) (best_1:Tp8) (y'_29:Int) (t_4:Int) (s_6:Int) (s_7:Tp20) (l_8:Tp15) (l_9:Tp8) (l_10:Tp8):zao t_1 r5 best best_1 y'_29 t_4 s_6 s_7 l_8 l_9 l_10=zay t_1 r5 best best_1 y'_29 (zao t_1 r5 best best_1 y'_29) t_4 s_6 s_7 l_8 l_9 l_10:=zam (zch r5 t_1 best best_1 y'_29) (t_4,s_6,s_7,l_8,l_9,l_10)
theorem zdf (r5:Nat->Tf12) (r5':Tf12) (h_r5:∀ a0 a1 a2 a3 a4 a5,ChO (fun κ=>r5 κ a0 a1 a2 a3 a4 a5) (r5' a0 a1 a2 a3 a4 a5)) (t_1:Int) (best:Tp20) (best_1:Tp8) (y'_29:Int) (t_4:Int) (s_6:Int) (s_7:Tp20) (l_8:Tp15) (l_9:Tp8) (l_10:Tp8):ChO (fun κ=>zao t_1 (r5 κ) best best_1 y'_29 t_4 s_6 s_7 l_8 l_9 l_10) (zao t_1 r5' best best_1 y'_29 t_4 s_6 s_7 l_8 l_9 l_10):=by
  unfold zao
  exact zcE (fun κ=>(zch (r5 κ) t_1 best best_1 y'_29).mono) (zch r5' t_1 best best_1 y'_29).mono (fun g h hg x=>zcY r5 r5' h_r5 (fun κ t_4 s_6 s_7 l_8 l_9 l_10=>g κ (t_4,s_6,s_7,l_8,l_9,l_10)) (fun t_4 s_6 s_7 l_8 l_9 l_10=>h (t_4,s_6,s_7,l_8,l_9,l_10)) (fun t_4 s_6 s_7 l_8 l_9 l_10=>hg (t_4,s_6,s_7,l_8,l_9,l_10)) t_1 best best_1 y'_29 x.1 x.2.1 x.2.2.1 x.2.2.2.1 x.2.2.2.2.1 x.2.2.2.2.2) _
theorem zc4 (r5:Nat->Tf12) (r5':Tf12) (h_r5:∀ a0 a1 a2 a3 a4 a5,ChO (fun κ=>r5 κ a0 a1 a2 a3 a4 a5) (r5' a0 a1 a2 a3 a4 a5)) (r9:Nat->Tf5) (r9':Tf5) (h_r9:∀ a0 a1 a2 a3 a4 a5 a6,ChO (fun κ=>r9 κ a0 a1 a2 a3 a4 a5 a6) (r9' a0 a1 a2 a3 a4 a5 a6)) (signs:Tp20) (t_1:Int) (l_3:Tp8) (t_2:Int) (s_4:Int) (s_5:Tp20) (best:Tp20) (best_1:Tp8) (l_6:Tp15) (l_7:Tp8):ChO (fun κ=>zaD signs t_1 l_3 (r5 κ) (r9 κ) t_2 s_4 s_5 best best_1 l_6 l_7) (zaD signs t_1 l_3 r5' r9' t_2 s_4 s_5 best best_1 l_6 l_7):=by
  unfold zaD
  repeat' with_reducible first | exact ChO.const _ | exact h_r5 _ _ _ _ _ _ | exact h_r9 _ _ _ _ _ _ _ | (apply zaI<;>assumption) | (apply zaR<;>assumption) | (apply zbi<;>assumption) | (apply zcf<;>assumption) | (apply zdf<;>assumption) | apply ChO.ite | apply ChO.G | apply ChO.both | (apply ChO.bind;intro _)
theorem zcl (r5:Tf12) (signs:Tp20) (t_1:Int) (l_3:Tp8):Cn (zdL signs t_1 l_3 r5):=fun g h hg x=>zc4 (fun _=>r5) r5 (fun _ _ _ _ _ _=>ChO.const _) (fun κ t_2 s_4 s_5 best best_1 l_6 l_7=>g κ (t_2,s_4,s_5,best,best_1,l_6,l_7)) (fun t_2 s_4 s_5 best best_1 l_6 l_7=>h (t_2,s_4,s_5,best,best_1,l_6,l_7)) (fun t_2 s_4 s_5 best best_1 l_6 l_7=>hg (t_2,s_4,s_5,best,best_1,l_6,l_7)) signs t_1 l_3 x.1 x.2.1 x.2.2.1 x.2.2.2.1 x.2.2.2.2.1 x.2.2.2.2.2.1 x.2.2.2.2.2.2
theorem zdv (r5:Tf12) (signs:Tp20) (t_1:Int) (l_3:Tp8) (t_2:Int) (s_4:Int) (s_5:Tp20) (best:Tp20) (best_1:Tp8) (l_6:Tp15) (l_7:Tp8):zar signs t_1 l_3 r5 t_2 s_4 s_5 best best_1 l_6 l_7=zaD signs t_1 l_3 r5 (zar signs t_1 l_3 r5) t_2 s_4 s_5 best best_1 l_6 l_7:=zam (zcl r5 signs t_1 l_3) (t_2,s_4,s_5,best,best_1,l_6,l_7)
theorem zgz (r5:Nat->Tf12) (r5':Tf12) (h_r5:∀ a0 a1 a2 a3 a4 a5,ChO (fun κ=>r5 κ a0 a1 a2 a3 a4 a5) (r5' a0 a1 a2 a3 a4 a5)) (signs:Tp20) (t_1:Int) (l_3:Tp8) (t_2:Int) (s_4:Int) (s_5:Tp20) (best:Tp20) (best_1:Tp8) (l_6:Tp15) (l_7:Tp8):ChO (fun κ=>zar signs t_1 l_3 (r5 κ) t_2 s_4 s_5 best best_1 l_6 l_7) (zar signs t_1 l_3 r5' t_2 s_4 s_5 best best_1 l_6 l_7):=by
  unfold zar
  exact zcE (fun κ=>(zcl (r5 κ) signs t_1 l_3).mono) (zcl r5' signs t_1 l_3).mono (fun g h hg x=>zc4 r5 r5' h_r5 (fun κ t_2 s_4 s_5 best best_1 l_6 l_7=>g κ (t_2,s_4,s_5,best,best_1,l_6,l_7)) (fun t_2 s_4 s_5 best best_1 l_6 l_7=>h (t_2,s_4,s_5,best,best_1,l_6,l_7)) (fun t_2 s_4 s_5 best best_1 l_6 l_7=>hg (t_2,s_4,s_5,best,best_1,l_6,l_7)) signs t_1 l_3 x.1 x.2.1 x.2.2.1 x.2.2.2.1 x.2.2.2.2.1 x.2.2.2.2.2.1 x.2.2.2.2.2.2) _
theorem zfJ (r5:Nat->Tf12) (r5':Tf12) (h_r5:∀ a0 a1 a2 a3 a4 a5,ChO (fun κ=>r5 κ a0 a1 a2 a3 a4 a5) (r5' a0 a1 a2 a3 a4 a5)) (signs:Tp20) (t_1:Int) (s_2:Int) (s_3:Tp20) (l_3:Tp8) (l_4:Tp15) (l_5:Tp8):ChO (fun κ=>zaC signs (r5 κ) t_1 s_2 s_3 l_3 l_4 l_5) (zaC signs r5' t_1 s_2 s_3 l_3 l_4 l_5):=by
  unfold zaC
  repeat' with_reducible first | exact ChO.const _ | exact h_r5 _ _ _ _ _ _ | (apply zaI<;>assumption) | (apply zaR<;>assumption) | (apply zbi<;>assumption) | (apply zcf<;>assumption) | (apply zdf<;>assumption) | (apply zgz<;>assumption) | apply ChO.ite | apply ChO.G | apply ChO.both | (apply ChO.bind;intro _)
theorem zgy  (signs:Tp20):Cn (zdK signs):=fun g h hg x=>zfJ  (fun κ t_1 s_2 s_3 l_3 l_4 l_5=>g κ (t_1,s_2,s_3,l_3,l_4,l_5)) (fun t_1 s_2 s_3 l_3 l_4 l_5=>h (t_1,s_2,s_3,l_3,l_4,l_5)) (fun t_1 s_2 s_3 l_3 l_4 l_5=>hg (t_1,s_2,s_3,l_3,l_4,l_5)) signs x.1 x.2.1 x.2.2.1 x.2.2.2.1 x.2.2.2.2.1 x.2.2.2.2.2
theorem zdu  (signs:Tp20) (t_1:Int) (s_2:Int) (s_3:Tp20) (l_3:Tp8) (l_4:Tp15) (l_5:Tp8):zbj signs t_1 s_2 s_3 l_3 l_4 l_5=zaC signs (zbj signs) t_1 s_2 s_3 l_3 l_4 l_5:=zam (zgy signs) (t_1,s_2,s_3,l_3,l_4,l_5)

def zcz (goal:Tp16) (t:Int) (r3:(Int->Int->Tp20->Tp15->Tp8->Option Tp5)) (s_2:Int) (s_3:Tp20) (l_3:Tp15) (l_4:Tp8):Option Tp5:=
  G (fits (((3:Int)+t)+(1:Int))) (
  G (fits (t+(1:Int))) (
  r3 (t+(1:Int)) s_2 s_3 (zb5 l_3 ((3:Int)+t,(ix goal.2.1 t,(((3:Int)+t)+(1:Int),())))) (zcM l_3 l_4 ((3:Int)+t,(ix goal.2.1 t,(((3:Int)+t)+(1:Int),()))) ((-1:Int),((0:Int),([],()))))))
def zcd (t_2:Int) (r17:(Bool->Int->Int->Tp20->Tp15->Tp8->Option Tp5)) (again_3:Bool) (s_10:Int) (s_11:Tp20) (l_11:Tp15) (l_12:Tp8):Option Tp5:=
  G (fits (t_2+(1:Int))) (
  r17 again_3 (t_2+(1:Int)) s_10 s_11 l_11 l_12)
def zbA (l:Tp12) (t_1:Int) (y':Tp8) (again_2:Bool) (t_2:Int) (s_8:Int) (s_9:Tp20) (l_9:Tp15) (l_10:Tp8) (r17:(Bool->Int->Int->Tp20->Tp15->Tp8->Option Tp5)) (t_3:Bool):Option Tp5:=
  if t_3=true then
  zcd t_2 r17 true s_8 s_9 (zb5 l_9 ((ix l t_1).1,(((ix l t_1).2).1,((ix y' t_2).1,())))) (zcM l_9 l_10 ((ix l t_1).1,(((ix l t_1).2).1,((ix y' t_2).1,()))) (t_1,(imin ((((ix y' t_2).2).1)+(1:Int)) (1099511627776:Int),((((ix y' t_2).2).2).1,())))) else
  zcd t_2 r17 again_2 s_8 s_9 l_9 l_10
def za6 (l:Tp12) (t_1:Int) (r14:(Bool->Int->Int->Tp20->Tp15->Tp8->Option Tp5)) (y':Tp8) (r17:Tf9) (again_2:Bool) (t_2:Int) (s_8:Int) (s_9:Tp20) (l_9:Tp15) (l_10:Tp8):Option Tp5:=
  if (decide (t_2 < (y'.length:Int)))=true then
  G (0<=t_2/\t_2 < (y'.length:Int)) (
  G ((t_2).toNat < y'.length) (
  G (fits ((((ix y' t_2).2).1)+(1:Int))) (
  if (!(mhas l_9 ((ix l t_1).1,(((ix l t_1).2).1,((ix y' t_2).1,())))))=true then
  zbA l t_1 y' again_2 t_2 s_8 s_9 l_9 l_10 r17 true else
  zbA l t_1 y' again_2 t_2 s_8 s_9 l_9 l_10 r17 (decide (((((ix y' t_2).2).1)+(1:Int)) < (((mget l_9 l_10 ((ix l t_1).1,(((ix l t_1).2).1,((ix y' t_2).1,()))) ((0,(0,([],()))):Int×Int×Tp15×Unit)).2).1)))))) else
  G (fits (t_1+(1:Int))) (
  r14 again_2 (t_1+(1:Int)) s_8 s_9 l_9 l_10)
def zic (l:Tp12) (t_1:Int) (r14:(Bool->Int->Int->Tp20->Tp15->Tp8->Option Tp5)) (y':Tp8):(Bool×Int×Int×Tp20×Tp15×Tp8->Option Tp5)->Bool×Int×Int×Tp20×Tp15×Tp8->Option Tp5:=
  fun rec x=>za6 l t_1 r14 y' (fun again_2 t_2 s_8 s_9 l_9 l_10=>rec (again_2,t_2,s_8,s_9,l_9,l_10)) x.1 x.2.1 x.2.2.1 x.2.2.2.1 x.2.2.2.2.1 x.2.2.2.2.2
def zbC (l:Tp12) (t_1:Int) (r14:(Bool->Int->Int->Tp20->Tp15->Tp8->Option Tp5)) (y':Tp8) (again_2:Bool) (t_2:Int) (s_8:Int) (s_9:Tp20) (l_9:Tp15) (l_10:Tp8):Option Tp5:=LFix (zic l t_1 r14 y' ) (again_2,t_2,s_8,s_9,l_9,l_10)
def zbt (l:Tp12) (r11:(Bool->Int->Tp20->Tp15->Tp8->Option Tp5)) (r14:Tf9) (again_1:Bool) (t_1:Int) (s_6:Int) (s_7:Tp20) (l_7:Tp15) (l_8:Tp8):Option Tp5:=
  if (decide (t_1 < (l.length:Int)))=true then
  G (0<=t_1/\t_1 < (l.length:Int)) (
  (zaX ((((ix l t_1).2).2).1) (((((ix l t_1).2).2).2).1) s_6 s_7 l_7 l_8).bind (fun y'_6=>
  zbC l t_1 r14 y'_6.1 again_1 (0:Int) y'_6.2.1 y'_6.2.2.1 y'_6.2.2.2.1 y'_6.2.2.2.2)) else
  r11 again_1 s_6 s_7 l_7 l_8
def zib (l:Tp12) (r11:(Bool->Int->Tp20->Tp15->Tp8->Option Tp5)):(Bool×Int×Int×Tp20×Tp15×Tp8->Option Tp5)->Bool×Int×Int×Tp20×Tp15×Tp8->Option Tp5:=
  fun rec x=>zbt l r11 (fun again_1 t_1 s_6 s_7 l_7 l_8=>rec (again_1,t_1,s_6,s_7,l_7,l_8)) x.1 x.2.1 x.2.2.1 x.2.2.2.1 x.2.2.2.2.1 x.2.2.2.2.2
def zbB (l:Tp12) (r11:(Bool->Int->Tp20->Tp15->Tp8->Option Tp5)) (again_1:Bool) (t_1:Int) (s_6:Int) (s_7:Tp20) (l_7:Tp15) (l_8:Tp8):Option Tp5:=LFix (zib l r11 ) (again_1,t_1,s_6,s_7,l_7,l_8)
def zbs (l:Tp12) (r11:Tf16) (again:Bool) (s_4:Int) (s_5:Tp20) (l_5:Tp15) (l_6:Tp8):Option Tp5:=
  if again=true then
  zbB l r11 false (0:Int) s_4 s_5 l_5 l_6 else
  some (s_4,s_5,l_5,l_6)
def zia (l:Tp12):(Bool×Int×Tp20×Tp15×Tp8->Option Tp5)->Bool×Int×Tp20×Tp15×Tp8->Option Tp5:=
  fun rec x=>zbs l (fun again s_4 s_5 l_5 l_6=>rec (again,s_4,s_5,l_5,l_6)) x.1 x.2.1 x.2.2.1 x.2.2.2.1 x.2.2.2.2
def zce (l:Tp12) (again:Bool) (s_4:Int) (s_5:Tp20) (l_5:Tp15) (l_6:Tp8):Option Tp5:=LFix (zia l ) (again,s_4,s_5,l_5,l_6)
def zbK (l:Tp12) (goal:Tp16) (r3:Tf17) (t:Int) (s:Int) (s_1:Tp20) (l_1:Tp15) (l_2:Tp8):Option Tp5:=
  if (decide (t < (goal.2.1.length:Int)))=true then
  G (0<=t/\t < (goal.2.1.length:Int)) (
  G (fits ((3:Int)+t)) (
  if (decide (t=(0:Int)))=true then
  G (fits (((3:Int)+t)+(1:Int))) (
  zcz goal t r3 s s_1 (zb5 l_1 (goal.1,(ix goal.2.1 t,(((3:Int)+t)+(1:Int),())))) (zcM l_1 l_2 (goal.1,(ix goal.2.1 t,(((3:Int)+t)+(1:Int),()))) ((-1:Int),((0:Int),([],()))))) else
  zcz goal t r3 s s_1 l_1 l_2)) else
  zce l true s s_1 l_1 l_2
def zi0 (l:Tp12) (goal:Tp16):(Int×Int×Tp20×Tp15×Tp8->Option Tp5)->Int×Int×Tp20×Tp15×Tp8->Option Tp5:=
  fun rec x=>zbK l goal (fun t s s_1 l_1 l_2=>rec (t,s,s_1,l_1,l_2)) x.1 x.2.1 x.2.2.1 x.2.2.2.1 x.2.2.2.2
def zdI (l:Tp12) (goal:Tp16) (t:Int) (s:Int) (s_1:Tp20) (l_1:Tp15) (l_2:Tp8):Option Tp5:=LFix (zi0 l goal ) (t,s,s_1,l_1,l_2)
def zgt (l:Tp12) (goal:Tp16):Option Tp5:=
  zdI l goal (0:Int) goal.1 goal.2.1 ([]:List Tp18) ([]:List Tp10)
theorem zb8 (r3:Nat->Tf17) (r3':Tf17) (h_r3:∀ a0 a1 a2 a3 a4,ChO (fun κ=>r3 κ a0 a1 a2 a3 a4) (r3' a0 a1 a2 a3 a4)) (goal:Tp16) (t:Int) (s_2:Int) (s_3:Tp20) (l_3:Tp15) (l_4:Tp8):ChO (fun κ=>zcz goal t (r3 κ) s_2 s_3 l_3 l_4) (zcz goal t r3' s_2 s_3 l_3 l_4):=by
  unfold zcz
  repeat' with_reducible first | exact ChO.const _ | exact h_r3 _ _ _ _ _ | apply ChO.ite | apply ChO.G | apply ChO.both | (apply ChO.bind;intro _)
theorem zcs (r17:Nat->Tf9) (r17':Tf9) (h_r17:∀ a0 a1 a2 a3 a4 a5,ChO (fun κ=>r17 κ a0 a1 a2 a3 a4 a5) (r17' a0 a1 a2 a3 a4 a5)) (t_2:Int) (again_3:Bool) (s_10:Int) (s_11:Tp20) (l_11:Tp15) (l_12:Tp8):ChO (fun κ=>zcd t_2 (r17 κ) again_3 s_10 s_11 l_11 l_12) (zcd t_2 r17' again_3 s_10 s_11 l_11 l_12):=by
  unfold zcd
  repeat' with_reducible first | exact ChO.const _ | exact h_r17 _ _ _ _ _ _ | (apply zb8<;>assumption) | apply ChO.ite | apply ChO.G | apply ChO.both | (apply ChO.bind;intro _)
theorem zc2 (r17:Nat->Tf9) (r17':Tf9) (h_r17:∀ a0 a1 a2 a3 a4 a5,ChO (fun κ=>r17 κ a0 a1 a2 a3 a4 a5) (r17' a0 a1 a2 a3 a4 a5)) (l:Tp12) (t_1:Int) (y':Tp8) (again_2:Bool) (t_2:Int) (s_8:Int) (s_9:Tp20) (l_9:Tp15) (l_10:Tp8) (t_3:Bool):ChO (fun κ=>zbA l t_1 y' again_2 t_2 s_8 s_9 l_9 l_10 (r17 κ) t_3) (zbA l t_1 y' again_2 t_2 s_8 s_9 l_9 l_10 r17' t_3):=by
  unfold zbA
  repeat' with_reducible first | exact ChO.const _ | exact h_r17 _ _ _ _ _ _ | (apply zb8<;>assumption) | (apply zcs<;>assumption) | apply ChO.ite | apply ChO.G | apply ChO.both | (apply ChO.bind;intro _)
theorem zfB (r14:Nat->Tf9) (r14':Tf9) (h_r14:∀ a0 a1 a2 a3 a4 a5,ChO (fun κ=>r14 κ a0 a1 a2 a3 a4 a5) (r14' a0 a1 a2 a3 a4 a5)) (r17:Nat->Tf9) (r17':Tf9) (h_r17:∀ a0 a1 a2 a3 a4 a5,ChO (fun κ=>r17 κ a0 a1 a2 a3 a4 a5) (r17' a0 a1 a2 a3 a4 a5)) (l:Tp12) (t_1:Int) (y':Tp8) (again_2:Bool) (t_2:Int) (s_8:Int) (s_9:Tp20) (l_9:Tp15) (l_10:Tp8):ChO (fun κ=>za6 l t_1 (r14 κ) y' (r17 κ) again_2 t_2 s_8 s_9 l_9 l_10) (za6 l t_1 r14' y' r17' again_2 t_2 s_8 s_9 l_9 l_10):=by
  unfold za6
  repeat' with_reducible first | exact ChO.const _ | exact h_r14 _ _ _ _ _ _ | exact h_r17 _ _ _ _ _ _ | (apply zb8<;>assumption) | (apply zcs<;>assumption) | (apply zc2<;>assumption) | apply ChO.ite | apply ChO.G | apply ChO.both | (apply ChO.bind;intro _)
theorem zeC (r14:Tf9) (l:Tp12) (t_1:Int) (y':Tp8):Cn (zic l t_1 r14 y'):=fun g h hg x=>zfB (fun _=>r14) r14 (fun _ _ _ _ _ _=>ChO.const _) (fun κ again_2 t_2 s_8 s_9 l_9 l_10=>g κ (again_2,t_2,s_8,s_9,l_9,l_10)) (fun again_2 t_2 s_8 s_9 l_9 l_10=>h (again_2,t_2,s_8,s_9,l_9,l_10)) (fun again_2 t_2 s_8 s_9 l_9 l_10=>hg (again_2,t_2,s_8,s_9,l_9,l_10)) l t_1 y' x.1 x.2.1 x.2.2.1 x.2.2.2.1 x.2.2.2.2.1 x.2.2.2.2.2
theorem zeD (r14:Tf9) (l:Tp12) (t_1:Int) (y':Tp8) (again_2:Bool) (t_2:Int) (s_8:Int) (s_9:Tp20) (l_9:Tp15) (l_10:Tp8):zbC l t_1 r14 y' again_2 t_2 s_8 s_9 l_9 l_10=za6 l t_1 r14 y' (zbC l t_1 r14 y') again_2 t_2 s_8 s_9 l_9 l_10:=zam (zeC r14 l t_1 y') (again_2,t_2,s_8,s_9,l_9,l_10)
theorem zeB (r14:Nat->Tf9) (r14':Tf9) (h_r14:∀ a0 a1 a2 a3 a4 a5,ChO (fun κ=>r14 κ a0 a1 a2 a3 a4 a5) (r14' a0 a1 a2 a3 a4 a5)) (l:Tp12) (t_1:Int) (y':Tp8) (again_2:Bool) (t_2:Int) (s_8:Int) (s_9:Tp20) (l_9:Tp15) (l_10:Tp8):ChO (fun κ=>zbC l t_1 (r14 κ) y' again_2 t_2 s_8 s_9 l_9 l_10) (zbC l t_1 r14' y' again_2 t_2 s_8 s_9 l_9 l_10):=by
  unfold zbC
  exact zcE (fun κ=>(zeC (r14 κ) l t_1 y').mono) (zeC r14' l t_1 y').mono (fun g h hg x=>zfB r14 r14' h_r14 (fun κ again_2 t_2 s_8 s_9 l_9 l_10=>g κ (again_2,t_2,s_8,s_9,l_9,l_10)) (fun again_2 t_2 s_8 s_9 l_9 l_10=>h (again_2,t_2,s_8,s_9,l_9,l_10)) (fun again_2 t_2 s_8 s_9 l_9 l_10=>hg (again_2,t_2,s_8,s_9,l_9,l_10)) l t_1 y' x.1 x.2.1 x.2.2.1 x.2.2.2.1 x.2.2.2.2.1 x.2.2.2.2.2) _
theorem zfA (r11:Nat->Tf16) (r11':Tf16) (h_r11:∀ a0 a1 a2 a3 a4,ChO (fun κ=>r11 κ a0 a1 a2 a3 a4) (r11' a0 a1 a2 a3 a4)) (r14:Nat->Tf9) (r14':Tf9) (h_r14:∀ a0 a1 a2 a3 a4 a5,ChO (fun κ=>r14 κ a0 a1 a2 a3 a4 a5) (r14' a0 a1 a2 a3 a4 a5)) (l:Tp12) (again_1:Bool) (t_1:Int) (s_6:Int) (s_7:Tp20) (l_7:Tp15) (l_8:Tp8):ChO (fun κ=>zbt l (r11 κ) (r14 κ) again_1 t_1 s_6 s_7 l_7 l_8) (zbt l r11' r14' again_1 t_1 s_6 s_7 l_7 l_8):=by
  unfold zbt
  repeat' with_reducible first | exact ChO.const _ | exact h_r11 _ _ _ _ _ | exact h_r14 _ _ _ _ _ _ | (apply zb8<;>assumption) | (apply zcs<;>assumption) | (apply zc2<;>assumption) | (apply zeB<;>assumption) | apply ChO.ite | apply ChO.G | apply ChO.both | (apply ChO.bind;intro _)
theorem zeA (r11:Tf16) (l:Tp12):Cn (zib l r11):=fun g h hg x=>zfA (fun _=>r11) r11 (fun _ _ _ _ _=>ChO.const _) (fun κ again_1 t_1 s_6 s_7 l_7 l_8=>g κ (again_1,t_1,s_6,s_7,l_7,l_8)) (fun again_1 t_1 s_6 s_7 l_7 l_8=>h (again_1,t_1,s_6,s_7,l_7,l_8)) (fun again_1 t_1 s_6 s_7 l_7 l_8=>hg (again_1,t_1,s_6,s_7,l_7,l_8)) l x.1 x.2.1 x.2.2.1 x.2.2.2.1 x.2.2.2.2.1 x.2.2.2.2.2
theorem zhb (r11:Tf16) (l:Tp12) (again_1:Bool) (t_1:Int) (s_6:Int) (s_7:Tp20) (l_7:Tp15) (l_8:Tp8):zbB l r11 again_1 t_1 s_6 s_7 l_7 l_8=zbt l r11 (zbB l r11) again_1 t_1 s_6 s_7 l_7 l_8:=zam (zeA r11 l) (again_1,t_1,s_6,s_7,l_7,l_8)
theorem zha (r11:Nat->Tf16) (r11':Tf16) (h_r11:∀ a0 a1 a2 a3 a4,ChO (fun κ=>r11 κ a0 a1 a2 a3 a4) (r11' a0 a1 a2 a3 a4)) (l:Tp12) (again_1:Bool) (t_1:Int) (s_6:Int) (s_7:Tp20) (l_7:Tp15) (l_8:Tp8):ChO (fun κ=>zbB l (r11 κ) again_1 t_1 s_6 s_7 l_7 l_8) (zbB l r11' again_1 t_1 s_6 s_7 l_7 l_8):=by
  unfold zbB
  exact zcE (fun κ=>(zeA (r11 κ) l).mono) (zeA r11' l).mono (fun g h hg x=>zfA r11 r11' h_r11 (fun κ again_1 t_1 s_6 s_7 l_7 l_8=>g κ (again_1,t_1,s_6,s_7,l_7,l_8)) (fun again_1 t_1 s_6 s_7 l_7 l_8=>h (again_1,t_1,s_6,s_7,l_7,l_8)) (fun again_1 t_1 s_6 s_7 l_7 l_8=>hg (again_1,t_1,s_6,s_7,l_7,l_8)) l x.1 x.2.1 x.2.2.1 x.2.2.2.1 x.2.2.2.2.1 x.2.2.2.2.2) _
theorem zku (r11:Nat->Tf16) (r11':Tf16) (h_r11:∀ a0 a1 a2 a3 a4,ChO (fun κ=>r11 κ a0 a1 a2 a3 a4) (r11' a0 a1 a2 a3 a4)) (l:Tp12) (again:Bool) (s_4:Int) (s_5:Tp20) (l_5:Tp15) (l_6:Tp8):ChO (fun κ=>zbs l (r11 κ) again s_4 s_5 l_5 l_6) (zbs l r11' again s_4 s_5 l_5 l_6):=by
  unfold zbs
  repeat' with_reducible first | exact ChO.const _ | exact h_r11 _ _ _ _ _ | (apply zb8<;>assumption) | (apply zcs<;>assumption) | (apply zc2<;>assumption) | (apply zeB<;>assumption) | (apply zha<;>assumption) | apply ChO.ite | apply ChO.G | apply ChO.both | (apply ChO.bind;intro _)
theorem zmp  (l:Tp12):Cn (zia l):=fun g h hg x=>zku  (fun κ again s_4 s_5 l_5 l_6=>g κ (again,s_4,s_5,l_5,l_6)) (fun again s_4 s_5 l_5 l_6=>h (again,s_4,s_5,l_5,l_6)) (fun again s_4 s_5 l_5 l_6=>hg (again,s_4,s_5,l_5,l_6)) l x.1 x.2.1 x.2.2.1 x.2.2.2.1 x.2.2.2.2
theorem zg9  (l:Tp12) (again:Bool) (s_4:Int) (s_5:Tp20) (l_5:Tp15) (l_6:Tp8):zce l again s_4 s_5 l_5 l_6=zbs l (zce l) again s_4 s_5 l_5 l_6:=zam (zmp l) (again,s_4,s_5,l_5,l_6)
theorem zlm (r3:Nat->Tf17) (r3':Tf17) (h_r3:∀ a0 a1 a2 a3 a4,ChO (fun κ=>r3 κ a0 a1 a2 a3 a4) (r3' a0 a1 a2 a3 a4)) (l:Tp12) (goal:Tp16) (t:Int) (s:Int) (s_1:Tp20) (l_1:Tp15) (l_2:Tp8):ChO (fun κ=>zbK l goal (r3 κ) t s s_1 l_1 l_2) (zbK l goal r3' t s s_1 l_1 l_2):=by
  unfold zbK
  repeat' with_reducible first | exact ChO.const _ | exact h_r3 _ _ _ _ _ | (apply zb8<;>assumption) | (apply zcs<;>assumption) | (apply zc2<;>assumption) | (apply zeB<;>assumption) | (apply zha<;>assumption) | apply ChO.ite | apply ChO.G | apply ChO.both | (apply ChO.bind;intro _)
theorem zm9  (l:Tp12) (goal:Tp16):Cn (zi0 l goal):=fun g h hg x=>zlm  (fun κ t s s_1 l_1 l_2=>g κ (t,s,s_1,l_1,l_2)) (fun t s s_1 l_1 l_2=>h (t,s,s_1,l_1,l_2)) (fun t s s_1 l_1 l_2=>hg (t,s,s_1,l_1,l_2)) l goal x.1 x.2.1 x.2.2.1 x.2.2.2.1 x.2.2.2.2
theorem zid  (l:Tp12) (goal:Tp16) (t:Int) (s:Int) (s_1:Tp20) (l_1:Tp15) (l_2:Tp8):zdI l goal t s s_1 l_1 l_2=zbK l goal (zdI l goal) t s s_1 l_1 l_2:=zam (zm9 l goal) (t,s,s_1,l_1,l_2)

def zaB (zac:Tf6) (e:Tp18) (c_2:Tp15) (c_3:Tp8) (r6:Tf10) (t:Int) (s:Int) (s_1:Tp20) (out_1:Tp20) (l:Tp15) (l_1:Tp8):Option Tp3:=
  if (decide (t < (((((mget c_2 c_3 (e.1,(e.2.1,(e.2.2.1,()))) ((0,(0,([],()))):Int×Int×Tp15×Unit)).2).2).1).length:Int)))=true then
  G (0<=t/\t < (((((mget c_2 c_3 (e.1,(e.2.1,(e.2.2.1,()))) ((0,(0,([],()))):Int×Int×Tp15×Unit)).2).2).1).length:Int)) (
  (zac ((ix ((((mget c_2 c_3 (e.1,(e.2.1,(e.2.2.1,()))) ((0,(0,([],()))):Int×Int×Tp15×Unit)).2).2).1) t).1,(((ix ((((mget c_2 c_3 (e.1,(e.2.1,(e.2.2.1,()))) ((0,(0,([],()))):Int×Int×Tp15×Unit)).2).2).1) t).2).1,((((ix ((((mget c_2 c_3 (e.1,(e.2.1,(e.2.2.1,()))) ((0,(0,([],()))):Int×Int×Tp15×Unit)).2).2).1) t).2).2).1,()))) s s_1 out_1 l l_1).bind (fun y'_6=>
  G (fits (t+(1:Int))) (
  r6 (t+(1:Int)) y'_6.2.1 y'_6.2.2.1 y'_6.1 y'_6.2.2.2.1 y'_6.2.2.2.2))) else
  some (out_1,s,s_1,l,l_1)
def zdJ (zac:Tf6) (e:Tp18) (c_2:Tp15) (c_3:Tp8):(Int×Int×Tp20×Tp20×Tp15×Tp8->Option Tp3)->Int×Int×Tp20×Tp20×Tp15×Tp8->Option Tp3:=
  fun rec x=>zaB zac e c_2 c_3 (fun t s s_1 out_1 l l_1=>rec (t,s,s_1,out_1,l,l_1)) x.1 x.2.1 x.2.2.1 x.2.2.2.1 x.2.2.2.2.1 x.2.2.2.2.2
def zaL (zac:Tf6) (e:Tp18) (c_2:Tp15) (c_3:Tp8) (t:Int) (s:Int) (s_1:Tp20) (out_1:Tp20) (l:Tp15) (l_1:Tp8):Option Tp3:=LFix (zdJ zac e c_2 c_3 ) (t,s,s_1,out_1,l,l_1)
def zaZ (zac:Tf6) (e:Tp18) (c:Int) (c_1:Tp20) (out:Tp20) (c_2:Tp15) (c_3:Tp8):Option Tp3:=
  if (decide (((mget c_2 c_3 (e.1,(e.2.1,(e.2.2.1,()))) ((0,(0,([],()))):Int×Int×Tp15×Unit)).1) < (0:Int)))=true then
  some (out,c,c_1,c_2,c_3) else
  G (room out ([(mget c_2 c_3 (e.1,(e.2.1,(e.2.2.1,()))) ((0,(0,([],()))):Int×Int×Tp15×Unit)).1]) 8) (
  zaL zac e c_2 c_3 (0:Int) c c_1 (out++([(mget c_2 c_3 (e.1,(e.2.1,(e.2.2.1,()))) ((0,(0,([],()))):Int×Int×Tp15×Unit)).1])) c_2 c_3)
theorem zc3 (zac:Nat->Tf6) (zaj:Tf6) (zaA:∀ a0 a1 a2 a3 a4 a5,ChO (fun κ=>zac κ a0 a1 a2 a3 a4 a5) (zaj a0 a1 a2 a3 a4 a5)) (r6:Nat->Tf10) (r6':Tf10) (h_r6:∀ a0 a1 a2 a3 a4 a5,ChO (fun κ=>r6 κ a0 a1 a2 a3 a4 a5) (r6' a0 a1 a2 a3 a4 a5)) (e:Tp18) (c_2:Tp15) (c_3:Tp8) (t:Int) (s:Int) (s_1:Tp20) (out_1:Tp20) (l:Tp15) (l_1:Tp8):ChO (fun κ=>zaB (zac κ) e c_2 c_3 (r6 κ) t s s_1 out_1 l l_1) (zaB zaj e c_2 c_3 r6' t s s_1 out_1 l l_1):=by
  unfold zaB
  repeat' with_reducible first | exact ChO.const _ | exact zaA _ _ _ _ _ _ | exact h_r6 _ _ _ _ _ _ | apply ChO.ite | apply ChO.G | apply ChO.both | (apply ChO.bind;intro _) | (apply ChO.bind2 (zaA _ _ _ _ _ _);intro _)
theorem zck (zac:Tf6) (e:Tp18) (c_2:Tp15) (c_3:Tp8):Cn (zdJ zac e c_2 c_3):=fun g h hg x=>zc3 (fun _=>zac) zac (fun _ _ _ _ _ _=>ChO.const _) (fun κ t s s_1 out_1 l l_1=>g κ (t,s,s_1,out_1,l,l_1)) (fun t s s_1 out_1 l l_1=>h (t,s,s_1,out_1,l,l_1)) (fun t s s_1 out_1 l l_1=>hg (t,s,s_1,out_1,l,l_1)) e c_2 c_3 x.1 x.2.1 x.2.2.1 x.2.2.2.1 x.2.2.2.2.1 x.2.2.2.2.2
theorem zdr (zac:Tf6) (e:Tp18) (c_2:Tp15) (c_3:Tp8) (t:Int) (s:Int) (s_1:Tp20) (out_1:Tp20) (l:Tp15) (l_1:Tp8):zaL zac e c_2 c_3 t s s_1 out_1 l l_1=zaB zac e c_2 c_3 (zaL zac e c_2 c_3) t s s_1 out_1 l l_1:=zam (zck zac e c_2 c_3) (t,s,s_1,out_1,l,l_1)
theorem zgx (zac:Nat->Tf6) (zaj:Tf6) (zaA:∀ a0 a1 a2 a3 a4 a5,ChO (fun κ=>zac κ a0 a1 a2 a3 a4 a5) (zaj a0 a1 a2 a3 a4 a5)) (e:Tp18) (c_2:Tp15) (c_3:Tp8) (t:Int) (s:Int) (s_1:Tp20) (out_1:Tp20) (l:Tp15) (l_1:Tp8):ChO (fun κ=>zaL (zac κ) e c_2 c_3 t s s_1 out_1 l l_1) (zaL zaj e c_2 c_3 t s s_1 out_1 l l_1):=by
  unfold zaL
  exact zcE (fun κ=>(zck (zac κ) e c_2 c_3).mono) (zck zaj e c_2 c_3).mono (fun g h hg x=>zc3 zac zaj zaA (fun κ t s s_1 out_1 l l_1=>g κ (t,s,s_1,out_1,l,l_1)) (fun t s s_1 out_1 l l_1=>h (t,s,s_1,out_1,l,l_1)) (fun t s s_1 out_1 l l_1=>hg (t,s,s_1,out_1,l,l_1)) e c_2 c_3 x.1 x.2.1 x.2.2.1 x.2.2.2.1 x.2.2.2.2.1 x.2.2.2.2.2) _
theorem zhn (zac:Nat->Tf6) (zaj:Tf6) (zaA:∀ a0 a1 a2 a3 a4 a5,ChO (fun κ=>zac κ a0 a1 a2 a3 a4 a5) (zaj a0 a1 a2 a3 a4 a5)) (e:Tp18) (c:Int) (c_1:Tp20) (out:Tp20) (c_2:Tp15) (c_3:Tp8):ChO (fun κ=>zaZ (zac κ) e c c_1 out c_2 c_3) (zaZ zaj e c c_1 out c_2 c_3):=by
  unfold zaZ
  repeat' with_reducible first | exact ChO.const _ | exact zaA _ _ _ _ _ _ | (apply zgx<;>assumption) | apply ChO.ite | apply ChO.G | apply ChO.both | (apply ChO.bind;intro _) | (apply ChO.bind2 (zaA _ _ _ _ _ _);intro _)
def zcj:(Tp18×Int×Tp20×Tp20×Tp15×Tp8->Option Tp3)->Tp18×Int×Tp20×Tp20×Tp15×Tp8->Option Tp3:=
  fun rec X=>zaZ (fun e c c_1 out c_2 c_3=>rec (e,c,c_1,out,c_2,c_3)) X.1 X.2.1 X.2.2.1 X.2.2.2.1 X.2.2.2.2.1 X.2.2.2.2.2
def zaW (e:Tp18) (c:Int) (c_1:Tp20) (out:Tp20) (c_2:Tp15) (c_3:Tp8):Option Tp3:=LFix zcj (e,c,c_1,out,c_2,c_3)
theorem ziw:Cn zcj:=fun g h hg X=>zhn _ _ (fun e c c_1 out c_2 c_3=>hg (e,c,c_1,out,c_2,c_3)) X.1 X.2.1 X.2.2.1 X.2.2.2.1 X.2.2.2.2.1 X.2.2.2.2.2
theorem zix (e:Tp18) (c:Int) (c_1:Tp20) (out:Tp20) (c_2:Tp15) (c_3:Tp8):zaW e c c_1 out c_2 c_3=zaZ zaW e c c_1 out c_2 c_3:=zam ziw (e,c,c_1,out,c_2,c_3)

def zcc (y'_6:Tp8) (t:Int) (r12:Tf7) (t_1:Int) (rules_1:Tp20) (s_4:Int) (s_5:Tp20) (l_5:Tp15) (l_6:Tp8):Option Tp17:=
  if (decide (t_1 < (((((ix y'_6 t).2).2).1).length:Int)))=true then
  G (0<=t_1/\t_1 < (((((ix y'_6 t).2).2).1).length:Int)) (
  (zaW ((ix ((((ix y'_6 t).2).2).1) t_1).1,(((ix ((((ix y'_6 t).2).2).1) t_1).2).1,((((ix ((((ix y'_6 t).2).2).1) t_1).2).2).1,()))) s_4 s_5 rules_1 l_5 l_6).bind (fun y'_24=>
  G (fits (t_1+(1:Int))) (
  r12 (t_1+(1:Int)) y'_24.1 y'_24.2.1 y'_24.2.2.1 y'_24.2.2.2.1 y'_24.2.2.2.2))) else
  some (true,(0:Int),rules_1)
def zjR (y'_6:Tp8) (t:Int):(Int×Tp20×Int×Tp20×Tp15×Tp8->Option Tp17)->Int×Tp20×Int×Tp20×Tp15×Tp8->Option Tp17:=
  fun rec x=>zcc y'_6 t (fun t_1 rules_1 s_4 s_5 l_5 l_6=>rec (t_1,rules_1,s_4,s_5,l_5,l_6)) x.1 x.2.1 x.2.2.1 x.2.2.2.1 x.2.2.2.2.1 x.2.2.2.2.2
def zfH (y'_6:Tp8) (t:Int) (t_1:Int) (rules_1:Tp20) (s_4:Int) (s_5:Tp20) (l_5:Tp15) (l_6:Tp8):Option Tp17:=LFix (zjR y'_6 t ) (t_1,rules_1,s_4,s_5,l_5,l_6)
def zg6 (y'_6:Tp8) (t:Int) (rules:Tp20) (s_2:Int) (s_3:Tp20) (l_3:Tp15) (l_4:Tp8):Option Tp17:=
  if (decide ((2000:Int) < (((ix y'_6 t).2).1)))=true then
  some (false,(7:Int),[]) else
  zfH y'_6 t (0:Int) rules s_2 s_3 l_3 l_4
def zb2 (y'_6:Tp8) (r6:Tf8) (t:Int) (s:Int) (s_1:Tp20) (l_1:Tp15) (l_2:Tp8) (rules:Tp20):Option Tp17:=
  if (decide (t < (y'_6.length:Int)))=true then
  G (0<=t/\t < (y'_6.length:Int)) (
  G ((t).toNat < y'_6.length) (
  both [.bool,(.int .i64),(.list (.int .i64))] (
  (zal s s_1 l_1 l_2).bind (fun y'_25=>
  if (decide (¬ ((ix y'_6 t).1)=y'_25.1))=true then
  G (fits (t+(1:Int))) (
  r6 (t+(1:Int)) y'_25.2.1 y'_25.2.2.1 y'_25.2.2.2.1 y'_25.2.2.2.2 rules) else
  zg6 y'_6 t rules y'_25.2.1 y'_25.2.2.1 y'_25.2.2.2.1 y'_25.2.2.2.2)) (
  (zal s s_1 l_1 l_2).bind (fun y'_32=>
  if (decide (¬ ((ix y'_6 t).1)=y'_32.1))=true then
  G (fits (t+(1:Int))) (
  r6 (t+(1:Int)) y'_32.2.1 y'_32.2.2.1 y'_32.2.2.2.1 y'_32.2.2.2.2 rules) else
  zg6 y'_6 t rules y'_32.2.1 y'_32.2.2.1 y'_32.2.2.2.1 y'_32.2.2.2.2)))) else
  some (false,(0:Int),[])
def zkW (y'_6:Tp8):(Int×Int×Tp20×Tp15×Tp8×Tp20->Option Tp17)->Int×Int×Tp20×Tp15×Tp8×Tp20->Option Tp17:=
  fun rec x=>zb2 y'_6 (fun t s s_1 l_1 l_2 rules=>rec (t,s,s_1,l_1,l_2,rules)) x.1 x.2.1 x.2.2.1 x.2.2.2.1 x.2.2.2.2.1 x.2.2.2.2.2
def za5 (y'_6:Tp8) (t:Int) (s:Int) (s_1:Tp20) (l_1:Tp15) (l_2:Tp8) (rules:Tp20):Option Tp17:=LFix (zkW y'_6 ) (t,s,s_1,l_1,l_2,rules)
def zgq (l:Tp12) (from':Tp16) (goal:Tp16):Option Tp17:=
  (zcS l ([(from'.1,(from'.2.1,())),(goal.1,(goal.2.1,()))])).bind (fun y'=>
  if (decide (¬ y'=(0:Int)))=true then
  some (false,y',[]) else
  (zgt l (goal.1,(goal.2.1,()))).bind (fun y'_34=>
  (zaX from'.1 from'.2.1 y'_34.1 y'_34.2.1 y'_34.2.2.1 y'_34.2.2.2).bind (fun y'_33=>
  za5 y'_33.1 (0:Int) y'_33.2.1 y'_33.2.2.1 y'_33.2.2.2.1 y'_33.2.2.2.2 ([]))))
theorem zmm (r12:Nat->Tf7) (r12':Tf7) (h_r12:∀ a0 a1 a2 a3 a4 a5,ChO (fun κ=>r12 κ a0 a1 a2 a3 a4 a5) (r12' a0 a1 a2 a3 a4 a5)) (y'_6:Tp8) (t:Int) (t_1:Int) (rules_1:Tp20) (s_4:Int) (s_5:Tp20) (l_5:Tp15) (l_6:Tp8):ChO (fun κ=>zcc y'_6 t (r12 κ) t_1 rules_1 s_4 s_5 l_5 l_6) (zcc y'_6 t r12' t_1 rules_1 s_4 s_5 l_5 l_6):=by
  unfold zcc
  repeat' with_reducible first | exact ChO.const _ | exact h_r12 _ _ _ _ _ _ | apply ChO.ite | apply ChO.G | apply ChO.both | (apply ChO.bind;intro _)
theorem zn8  (y'_6:Tp8) (t:Int):Cn (zjR y'_6 t):=fun g h hg x=>zmm  (fun κ t_1 rules_1 s_4 s_5 l_5 l_6=>g κ (t_1,rules_1,s_4,s_5,l_5,l_6)) (fun t_1 rules_1 s_4 s_5 l_5 l_6=>h (t_1,rules_1,s_4,s_5,l_5,l_6)) (fun t_1 rules_1 s_4 s_5 l_5 l_6=>hg (t_1,rules_1,s_4,s_5,l_5,l_6)) y'_6 t x.1 x.2.1 x.2.2.1 x.2.2.2.1 x.2.2.2.2.1 x.2.2.2.2.2
theorem ziW  (y'_6:Tp8) (t:Int) (t_1:Int) (rules_1:Tp20) (s_4:Int) (s_5:Tp20) (l_5:Tp15) (l_6:Tp8):zfH y'_6 t t_1 rules_1 s_4 s_5 l_5 l_6=zcc y'_6 t (zfH y'_6 t) t_1 rules_1 s_4 s_5 l_5 l_6:=zam (zn8 y'_6 t) (t_1,rules_1,s_4,s_5,l_5,l_6)
theorem zm8 (r6:Nat->Tf8) (r6':Tf8) (h_r6:∀ a0 a1 a2 a3 a4 a5,ChO (fun κ=>r6 κ a0 a1 a2 a3 a4 a5) (r6' a0 a1 a2 a3 a4 a5)) (y'_6:Tp8) (t:Int) (s:Int) (s_1:Tp20) (l_1:Tp15) (l_2:Tp8) (rules:Tp20):ChO (fun κ=>zb2 y'_6 (r6 κ) t s s_1 l_1 l_2 rules) (zb2 y'_6 r6' t s s_1 l_1 l_2 rules):=by
  unfold zb2
  repeat' with_reducible first | exact ChO.const _ | exact h_r6 _ _ _ _ _ _ | apply ChO.ite | apply ChO.G | apply ChO.both | (apply ChO.bind;intro _)
theorem zpC  (y'_6:Tp8):Cn (zkW y'_6):=fun g h hg x=>zm8  (fun κ t s s_1 l_1 l_2 rules=>g κ (t,s,s_1,l_1,l_2,rules)) (fun t s s_1 l_1 l_2 rules=>h (t,s,s_1,l_1,l_2,rules)) (fun t s s_1 l_1 l_2 rules=>hg (t,s,s_1,l_1,l_2,rules)) y'_6 x.1 x.2.1 x.2.2.1 x.2.2.2.1 x.2.2.2.2.1 x.2.2.2.2.2
theorem zgr  (y'_6:Tp8) (t:Int) (s:Int) (s_1:Tp20) (l_1:Tp15) (l_2:Tp8) (rules:Tp20):za5 y'_6 t s s_1 l_1 l_2 rules=zb2 y'_6 (za5 y'_6) t s s_1 l_1 l_2 rules:=zam (zpC y'_6) (t,s,s_1,l_1,l_2,rules)

def za4 (t:Int) (r3:(Int->Int->Int->Tp20->Tp15->Tp8->Option Tp4)) (y'_6:Tp8) (y'_7:Int) (y'_8:Tp20) (y'_9:Tp15) (y'_10:Tp8) (r7:Int->Int->Option Tp4) (next'_1:Int) (t_3:Int):Option Tp4:=
  if (decide (t_3 < (y'_6.length:Int)))=true then
  G (0<=t_3/\t_3 < (y'_6.length:Int)) (
  G ((t_3).toNat < y'_6.length) (
  G (0<=(ix y'_6 t_3).1) (
  G (fits (t_3+(1:Int))) (
  r7 (ior .i64 next'_1 (ishl .i64 (1:Int) ((ix y'_6 t_3).1))) (t_3+(1:Int)))))) else
  G (fits (t+(1:Int))) (
  r3 next'_1 (t+(1:Int)) y'_7 y'_8 y'_9 y'_10)
def zgo (t:Int) (r3:(Int->Int->Int->Tp20->Tp15->Tp8->Option Tp4)) (y'_6:Tp8) (y'_7:Int) (y'_8:Tp20) (y'_9:Tp15) (y'_10:Tp8):(Int×Int->Option Tp4)->Int×Int->Option Tp4:=
  fun rec x=>za4 t r3 y'_6 y'_7 y'_8 y'_9 y'_10 (fun next'_1 t_3=>rec (next'_1,t_3)) x.1 x.2
def zbq (t:Int) (r3:(Int->Int->Int->Tp20->Tp15->Tp8->Option Tp4)) (y'_6:Tp8) (y'_7:Int) (y'_8:Tp20) (y'_9:Tp15) (y'_10:Tp8) (next'_1:Int) (t_3:Int):Option Tp4:=LFix (zgo t r3 y'_6 y'_7 y'_8 y'_9 y'_10 ) (next'_1,t_3)
def za3 (set':Int) (sign:Int) (y':Int) (r3:Tf13) (next':Int) (t:Int) (t_1:Int) (t_2:Tp20) (l:Tp15) (l_1:Tp8):Option Tp4:=
  if (decide (t < y'))=true then
  G (0<=t) (
  if (decide ((iand .i64 (ishr .i64 set' t) (1:Int))=(1:Int)))=true then
  (zaX t ([sign]) t_1 t_2 l l_1).bind (fun y'_12=>
  zbq t r3 y'_12.1 y'_12.2.1 y'_12.2.2.1 y'_12.2.2.2.1 y'_12.2.2.2.2 next' (0:Int)) else
  G (fits (t+(1:Int))) (
  r3 next' (t+(1:Int)) t_1 t_2 l l_1)) else
  some (next',t_1,t_2,l,l_1)
def zgn (set':Int) (sign:Int) (y':Int):(Int×Int×Int×Tp20×Tp15×Tp8->Option Tp4)->Int×Int×Int×Tp20×Tp15×Tp8->Option Tp4:=
  fun rec x=>za3 set' sign y' (fun next' t t_1 t_2 l l_1=>rec (next',t,t_1,t_2,l,l_1)) x.1 x.2.1 x.2.2.1 x.2.2.2.1 x.2.2.2.2.1 x.2.2.2.2.2
def zb7 (set':Int) (sign:Int) (y':Int) (next':Int) (t:Int) (t_1:Int) (t_2:Tp20) (l:Tp15) (l_1:Tp8):Option Tp4:=LFix (zgn set' sign y' ) (next',t,t_1,t_2,l,l_1)
def zc1 (set':Int) (sign:Int) (c:Int) (c_1:Tp20) (c_2:Tp15) (c_3:Tp8):Option Tp4:=
  (zaP c c_1 c_2 c_3).bind (fun y'_13=>
  zb7 set' sign y'_13.1 (0:Int) (0:Int) y'_13.2.1 y'_13.2.2.1 y'_13.2.2.2.1 y'_13.2.2.2.2)
theorem zeN (r3:Nat->Tf13) (r3':Tf13) (h_r3:∀ a0 a1 a2 a3 a4 a5,ChO (fun κ=>r3 κ a0 a1 a2 a3 a4 a5) (r3' a0 a1 a2 a3 a4 a5)) (r7:Nat->Int->Int->Option Tp4) (r7':Int->Int->Option Tp4) (h_r7:∀ a0 a1,ChO (fun κ=>r7 κ a0 a1) (r7' a0 a1)) (t:Int) (y'_6:Tp8) (y'_7:Int) (y'_8:Tp20) (y'_9:Tp15) (y'_10:Tp8) (next'_1:Int) (t_3:Int):ChO (fun κ=>za4 t (r3 κ) y'_6 y'_7 y'_8 y'_9 y'_10 (r7 κ) next'_1 t_3) (za4 t r3' y'_6 y'_7 y'_8 y'_9 y'_10 r7' next'_1 t_3):=by
  unfold za4
  repeat' with_reducible first | exact ChO.const _ | exact h_r3 _ _ _ _ _ _ | exact h_r7 _ _ | apply ChO.ite | apply ChO.G | apply ChO.both | (apply ChO.bind;intro _)
theorem zdx (r3:Tf13) (t:Int) (y'_6:Tp8) (y'_7:Int) (y'_8:Tp20) (y'_9:Tp15) (y'_10:Tp8):Cn (zgo t r3 y'_6 y'_7 y'_8 y'_9 y'_10):=fun g h hg x=>zeN (fun _=>r3) r3 (fun _ _ _ _ _ _=>ChO.const _) (fun κ next'_1 t_3=>g κ (next'_1,t_3)) (fun next'_1 t_3=>h (next'_1,t_3)) (fun next'_1 t_3=>hg (next'_1,t_3)) t y'_6 y'_7 y'_8 y'_9 y'_10 x.1 x.2
theorem zfz (r3:Tf13) (t:Int) (y'_6:Tp8) (y'_7:Int) (y'_8:Tp20) (y'_9:Tp15) (y'_10:Tp8) (next'_1:Int) (t_3:Int):zbq t r3 y'_6 y'_7 y'_8 y'_9 y'_10 next'_1 t_3=za4 t r3 y'_6 y'_7 y'_8 y'_9 y'_10 (zbq t r3 y'_6 y'_7 y'_8 y'_9 y'_10) next'_1 t_3:=zam (zdx r3 t y'_6 y'_7 y'_8 y'_9 y'_10) (next'_1,t_3)
theorem zks (r3:Nat->Tf13) (r3':Tf13) (h_r3:∀ a0 a1 a2 a3 a4 a5,ChO (fun κ=>r3 κ a0 a1 a2 a3 a4 a5) (r3' a0 a1 a2 a3 a4 a5)) (t:Int) (y'_6:Tp8) (y'_7:Int) (y'_8:Tp20) (y'_9:Tp15) (y'_10:Tp8) (next'_1:Int) (t_3:Int):ChO (fun κ=>zbq t (r3 κ) y'_6 y'_7 y'_8 y'_9 y'_10 next'_1 t_3) (zbq t r3' y'_6 y'_7 y'_8 y'_9 y'_10 next'_1 t_3):=by
  unfold zbq
  exact zcE (fun κ=>(zdx (r3 κ) t y'_6 y'_7 y'_8 y'_9 y'_10).mono) (zdx r3' t y'_6 y'_7 y'_8 y'_9 y'_10).mono (fun g h hg x=>zeN r3 r3' h_r3 (fun κ next'_1 t_3=>g κ (next'_1,t_3)) (fun next'_1 t_3=>h (next'_1,t_3)) (fun next'_1 t_3=>hg (next'_1,t_3)) t y'_6 y'_7 y'_8 y'_9 y'_10 x.1 x.2) _
theorem zi7 (r3:Nat->Tf13) (r3':Tf13) (h_r3:∀ a0 a1 a2 a3 a4 a5,ChO (fun κ=>r3 κ a0 a1 a2 a3 a4 a5) (r3' a0 a1 a2 a3 a4 a5)) (set':Int) (sign:Int) (y':Int) (next':Int) (t:Int) (t_1:Int) (t_2:Tp20) (l:Tp15) (l_1:Tp8):ChO (fun κ=>za3 set' sign y' (r3 κ) next' t t_1 t_2 l l_1) (za3 set' sign y' r3' next' t t_1 t_2 l l_1):=by
  unfold za3
  repeat' with_reducible first | exact ChO.const _ | exact h_r3 _ _ _ _ _ _ | (apply zks<;>assumption) | apply ChO.ite | apply ChO.G | apply ChO.both | (apply ChO.bind;intro _)
theorem zkr  (set':Int) (sign:Int) (y':Int):Cn (zgn set' sign y'):=fun g h hg x=>zi7  (fun κ next' t t_1 t_2 l l_1=>g κ (next',t,t_1,t_2,l,l_1)) (fun next' t t_1 t_2 l l_1=>h (next',t,t_1,t_2,l,l_1)) (fun next' t t_1 t_2 l l_1=>hg (next',t,t_1,t_2,l,l_1)) set' sign y' x.1 x.2.1 x.2.2.1 x.2.2.2.1 x.2.2.2.2.1 x.2.2.2.2.2
theorem zfy  (set':Int) (sign:Int) (y':Int) (next':Int) (t:Int) (t_1:Int) (t_2:Tp20) (l:Tp15) (l_1:Tp8):zb7 set' sign y' next' t t_1 t_2 l l_1=za3 set' sign y' (zb7 set' sign y') next' t t_1 t_2 l l_1:=zam (zkr set' sign y') (next',t,t_1,t_2,l,l_1)

def zcy (set':Int) (c:Int) (c_1:Tp20) (c_2:Tp15) (c_3:Tp8):Option Tp4:=
  (zal c c_1 c_2 c_3).bind (fun y'_6=>
  G (0<=y'_6.1) (
  some (iand .i64 (ishr .i64 set' y'_6.1) (1:Int),y'_6.2.1,y'_6.2.2.1,y'_6.2.2.2.1,y'_6.2.2.2.2)))

def zcF (t:Int) (row:Tp20) (r8:(Int->Tp20->Tp20->Tp20->Tp20->Int->Tp20->Tp15->Tp8->Option Tp2)) (y'_1:Int) (y'_2:Tp20) (y'_3:Tp15) (y'_4:Tp8) (n:Int) (number_4:Tp20) (number_5:Tp20) (l_10:Tp20):Option Tp2:=
  G (0<=t/\t < (row.length:Int)) (
  G ((t).toNat < row.length) (
  G (fits (t+(1:Int))) (
  r8 (t+(1:Int)) number_4 number_5 l_10 (row.set (t).toNat n) y'_1 y'_2 y'_3 y'_4)))
def zbG (letters:Int) (most:Int) (d:Int) (d_1:Int) (l:Tp20) (d_2:Tp19) (d_3:Tp20) (r4:(Int->Int->Tp20->Tp20->Tp20->Int->Tp20->Tp15->Tp8->Tp19->Tp20->Option Tp2)) (r8:Tf2) (t:Int) (number_2:Tp20) (number_3:Tp20) (l_5:Tp20) (row:Tp20) (l_6:Int) (l_7:Tp20) (l_8:Tp15) (l_9:Tp8):Option Tp2:=
  if (decide (t < letters))=true then
  (zc1 (ix l (d_2.length:Int)) t l_6 l_7 l_8 l_9).bind (fun y'_6=>
  if (!(mhas number_2 y'_6.1))=true then
  if (decide ((l_5.length:Int)=most))=true then
  some (((0:Int),((0:Int),([],([],())))),false,y'_6.2.1,y'_6.2.2.1,y'_6.2.2.2.1,y'_6.2.2.2.2) else
  G (room l_5 ([y'_6.1]) 8) (
  zcF t row r8 y'_6.2.1 y'_6.2.2.1 y'_6.2.2.2.1 y'_6.2.2.2.2 (l_5.length:Int) (zb5 number_2 y'_6.1) (zcM number_2 number_3 y'_6.1 (l_5.length:Int)) (l_5++([y'_6.1]))) else
  zcF t row r8 y'_6.2.1 y'_6.2.2.1 y'_6.2.2.2.1 y'_6.2.2.2.2 (mget number_2 number_3 y'_6.1 (0:Int)) number_2 number_3 l_5) else
  G (room d_2 ([row]) 24) (
  both [(.pair (.int .i64) (.pair (.int .i64) (.pair (.list (.list (.int .i64))) (.pair (.list (.int .i64)) .unit)))),.bool,(.int .i64),(.list (.int .i64)),Tc5,Tc1] (
  (zcy (ix l (d_2.length:Int)) l_6 l_7 l_8 l_9).bind (fun y'_13=>
  G (room d_3 ([y'_13.1]) 8) (
  r4 d d_1 number_2 number_3 l_5 y'_13.2.1 y'_13.2.2.1 y'_13.2.2.2.1 y'_13.2.2.2.2 (d_2++([row])) (d_3++([y'_13.1]))))) (
  (zcy (ix l (d_2.length:Int)) l_6 l_7 l_8 l_9).bind (fun y'_20=>
  G (room d_3 ([y'_20.1]) 8) (
  r4 d d_1 number_2 number_3 l_5 y'_20.2.1 y'_20.2.2.1 y'_20.2.2.2.1 y'_20.2.2.2.2 (d_2++([row])) (d_3++([y'_20.1]))))))
def ziE (letters:Int) (most:Int) (d:Int) (d_1:Int) (l:Tp20) (d_2:Tp19) (d_3:Tp20) (r4:(Int->Int->Tp20->Tp20->Tp20->Int->Tp20->Tp15->Tp8->Tp19->Tp20->Option Tp2)):(Int×Tp20×Tp20×Tp20×Tp20×Int×Tp20×Tp15×Tp8->Option Tp2)->Int×Tp20×Tp20×Tp20×Tp20×Int×Tp20×Tp15×Tp8->Option Tp2:=
  fun rec x=>zbG letters most d d_1 l d_2 d_3 r4 (fun t number_2 number_3 l_5 row l_6 l_7 l_8 l_9=>rec (t,number_2,number_3,l_5,row,l_6,l_7,l_8,l_9)) x.1 x.2.1 x.2.2.1 x.2.2.2.1 x.2.2.2.2.1 x.2.2.2.2.2.1 x.2.2.2.2.2.2.1 x.2.2.2.2.2.2.2.1 x.2.2.2.2.2.2.2.2
def za8 (letters:Int) (most:Int) (d:Int) (d_1:Int) (l:Tp20) (d_2:Tp19) (d_3:Tp20) (r4:(Int->Int->Tp20->Tp20->Tp20->Int->Tp20->Tp15->Tp8->Tp19->Tp20->Option Tp2)) (t:Int) (number_2:Tp20) (number_3:Tp20) (l_5:Tp20) (row:Tp20) (l_6:Int) (l_7:Tp20) (l_8:Tp15) (l_9:Tp8):Option Tp2:=LFix (ziE letters most d d_1 l d_2 d_3 r4 ) (t,number_2,number_3,l_5,row,l_6,l_7,l_8,l_9)
def zjc (d_4:Int) (d_5:Int) (l_11:Int) (l_12:Tp20) (l_13:Tp19) (l_14:Tp20) (l_15:Tp15) (l_16:Tp8):Option Tp2:=
  some ((d_4,(d_5,(l_13,(l_14,())))),true,l_11,l_12,l_15,l_16)
def zbF (letters:Int) (most:Int) (r4:Tf1) (d:Int) (d_1:Int) (number:Tp20) (number_1:Tp20) (l:Tp20) (l_1:Int) (l_2:Tp20) (l_3:Tp15) (l_4:Tp8) (d_2:Tp19) (d_3:Tp20):Option Tp2:=
  if (decide ((d_2.length:Int) < (l.length:Int)))=true then
  G (0<=(d_2.length:Int)/\(d_2.length:Int) < (l.length:Int)) (
  G (((d_2.length:Int)).toNat < l.length) (
  G (mkOK letters letters 8) (
  za8 letters most d d_1 l d_2 d_3 r4 (0:Int) number number_1 l (List.replicate (letters).toNat (0:Int)) l_1 l_2 l_3 l_4))) else
  zjc d d_1 l_1 l_2 d_2 d_3 l_3 l_4
def ziD (letters:Int) (most:Int):(Int×Int×Tp20×Tp20×Tp20×Int×Tp20×Tp15×Tp8×Tp19×Tp20->Option Tp2)->Int×Int×Tp20×Tp20×Tp20×Int×Tp20×Tp15×Tp8×Tp19×Tp20->Option Tp2:=
  fun rec x=>zbF letters most (fun d d_1 number number_1 l l_1 l_2 l_3 l_4 d_2 d_3=>rec (d,d_1,number,number_1,l,l_1,l_2,l_3,l_4,d_2,d_3)) x.1 x.2.1 x.2.2.1 x.2.2.2.1 x.2.2.2.2.1 x.2.2.2.2.2.1 x.2.2.2.2.2.2.1 x.2.2.2.2.2.2.2.1 x.2.2.2.2.2.2.2.2.1 x.2.2.2.2.2.2.2.2.2.1 x.2.2.2.2.2.2.2.2.2.2
def ze3 (letters:Int) (most:Int) (d:Int) (d_1:Int) (number:Tp20) (number_1:Tp20) (l:Tp20) (l_1:Int) (l_2:Tp20) (l_3:Tp15) (l_4:Tp8) (d_2:Tp19) (d_3:Tp20):Option Tp2:=LFix (ziD letters most ) (d,d_1,number,number_1,l,l_1,l_2,l_3,l_4,d_2,d_3)
def zfU (letters:Int) (first:Int) (most:Int) (c:Int) (c_1:Tp20) (c_2:Tp15) (c_3:Tp8):Option Tp2:=
  ze3 letters most letters (0:Int) (zb5 ([]:List Int) first) (zcM ([]:List Int) ([]:List Int) first (0:Int)) ([first]) c c_1 c_2 c_3 ([]:List Tp20) ([]:List Int)
theorem zgH (r8:Nat->Tf2) (r8':Tf2) (h_r8:∀ a0 a1 a2 a3 a4 a5 a6 a7 a8,ChO (fun κ=>r8 κ a0 a1 a2 a3 a4 a5 a6 a7 a8) (r8' a0 a1 a2 a3 a4 a5 a6 a7 a8)) (t:Int) (row:Tp20) (y'_1:Int) (y'_2:Tp20) (y'_3:Tp15) (y'_4:Tp8) (n:Int) (number_4:Tp20) (number_5:Tp20) (l_10:Tp20):ChO (fun κ=>zcF t row (r8 κ) y'_1 y'_2 y'_3 y'_4 n number_4 number_5 l_10) (zcF t row r8' y'_1 y'_2 y'_3 y'_4 n number_4 number_5 l_10):=by
  unfold zcF
  repeat' with_reducible first | exact ChO.const _ | exact h_r8 _ _ _ _ _ _ _ _ _ | apply ChO.ite | apply ChO.G | apply ChO.both | (apply ChO.bind;intro _)
theorem zfW (r4:Nat->Tf1) (r4':Tf1) (h_r4:∀ a0 a1 a2 a3 a4 a5 a6 a7 a8 a9 a10,ChO (fun κ=>r4 κ a0 a1 a2 a3 a4 a5 a6 a7 a8 a9 a10) (r4' a0 a1 a2 a3 a4 a5 a6 a7 a8 a9 a10)) (r8:Nat->Tf2) (r8':Tf2) (h_r8:∀ a0 a1 a2 a3 a4 a5 a6 a7 a8,ChO (fun κ=>r8 κ a0 a1 a2 a3 a4 a5 a6 a7 a8) (r8' a0 a1 a2 a3 a4 a5 a6 a7 a8)) (letters:Int) (most:Int) (d:Int) (d_1:Int) (l:Tp20) (d_2:Tp19) (d_3:Tp20) (t:Int) (number_2:Tp20) (number_3:Tp20) (l_5:Tp20) (row:Tp20) (l_6:Int) (l_7:Tp20) (l_8:Tp15) (l_9:Tp8):ChO (fun κ=>zbG letters most d d_1 l d_2 d_3 (r4 κ) (r8 κ) t number_2 number_3 l_5 row l_6 l_7 l_8 l_9) (zbG letters most d d_1 l d_2 d_3 r4' r8' t number_2 number_3 l_5 row l_6 l_7 l_8 l_9):=by
  unfold zbG
  repeat' with_reducible first | exact ChO.const _ | exact h_r4 _ _ _ _ _ _ _ _ _ _ _ | exact h_r8 _ _ _ _ _ _ _ _ _ | (apply zgH<;>assumption) | apply ChO.ite | apply ChO.G | apply ChO.both | (apply ChO.bind;intro _)
theorem zeR (r4:Tf1) (letters:Int) (most:Int) (d:Int) (d_1:Int) (l:Tp20) (d_2:Tp19) (d_3:Tp20):Cn (ziE letters most d d_1 l d_2 d_3 r4):=fun g h hg x=>zfW (fun _=>r4) r4 (fun _ _ _ _ _ _ _ _ _ _ _=>ChO.const _) (fun κ t number_2 number_3 l_5 row l_6 l_7 l_8 l_9=>g κ (t,number_2,number_3,l_5,row,l_6,l_7,l_8,l_9)) (fun t number_2 number_3 l_5 row l_6 l_7 l_8 l_9=>h (t,number_2,number_3,l_5,row,l_6,l_7,l_8,l_9)) (fun t number_2 number_3 l_5 row l_6 l_7 l_8 l_9=>hg (t,number_2,number_3,l_5,row,l_6,l_7,l_8,l_9)) letters most d d_1 l d_2 d_3 x.1 x.2.1 x.2.2.1 x.2.2.2.1 x.2.2.2.2.1 x.2.2.2.2.2.1 x.2.2.2.2.2.2.1 x.2.2.2.2.2.2.2.1 x.2.2.2.2.2.2.2.2
theorem zhz (r4:Tf1) (letters:Int) (most:Int) (d:Int) (d_1:Int) (l:Tp20) (d_2:Tp19) (d_3:Tp20) (t:Int) (number_2:Tp20) (number_3:Tp20) (l_5:Tp20) (row:Tp20) (l_6:Int) (l_7:Tp20) (l_8:Tp15) (l_9:Tp8):za8 letters most d d_1 l d_2 d_3 r4 t number_2 number_3 l_5 row l_6 l_7 l_8 l_9=zbG letters most d d_1 l d_2 d_3 r4 (za8 letters most d d_1 l d_2 d_3 r4) t number_2 number_3 l_5 row l_6 l_7 l_8 l_9:=zam (zeR r4 letters most d d_1 l d_2 d_3) (t,number_2,number_3,l_5,row,l_6,l_7,l_8,l_9)
theorem zmI (r4:Nat->Tf1) (r4':Tf1) (h_r4:∀ a0 a1 a2 a3 a4 a5 a6 a7 a8 a9 a10,ChO (fun κ=>r4 κ a0 a1 a2 a3 a4 a5 a6 a7 a8 a9 a10) (r4' a0 a1 a2 a3 a4 a5 a6 a7 a8 a9 a10)) (letters:Int) (most:Int) (d:Int) (d_1:Int) (l:Tp20) (d_2:Tp19) (d_3:Tp20) (t:Int) (number_2:Tp20) (number_3:Tp20) (l_5:Tp20) (row:Tp20) (l_6:Int) (l_7:Tp20) (l_8:Tp15) (l_9:Tp8):ChO (fun κ=>za8 letters most d d_1 l d_2 d_3 (r4 κ) t number_2 number_3 l_5 row l_6 l_7 l_8 l_9) (za8 letters most d d_1 l d_2 d_3 r4' t number_2 number_3 l_5 row l_6 l_7 l_8 l_9):=by
  unfold za8
  exact zcE (fun κ=>(zeR (r4 κ) letters most d d_1 l d_2 d_3).mono) (zeR r4' letters most d d_1 l d_2 d_3).mono (fun g h hg x=>zfW r4 r4' h_r4 (fun κ t number_2 number_3 l_5 row l_6 l_7 l_8 l_9=>g κ (t,number_2,number_3,l_5,row,l_6,l_7,l_8,l_9)) (fun t number_2 number_3 l_5 row l_6 l_7 l_8 l_9=>h (t,number_2,number_3,l_5,row,l_6,l_7,l_8,l_9)) (fun t number_2 number_3 l_5 row l_6 l_7 l_8 l_9=>hg (t,number_2,number_3,l_5,row,l_6,l_7,l_8,l_9)) letters most d d_1 l d_2 d_3 x.1 x.2.1 x.2.2.1 x.2.2.2.1 x.2.2.2.2.1 x.2.2.2.2.2.1 x.2.2.2.2.2.2.1 x.2.2.2.2.2.2.2.1 x.2.2.2.2.2.2.2.2) _
theorem zla (r4:Nat->Tf1) (r4':Tf1) (h_r4:∀ a0 a1 a2 a3 a4 a5 a6 a7 a8 a9 a10,ChO (fun κ=>r4 κ a0 a1 a2 a3 a4 a5 a6 a7 a8 a9 a10) (r4' a0 a1 a2 a3 a4 a5 a6 a7 a8 a9 a10)) (letters:Int) (most:Int) (d:Int) (d_1:Int) (number:Tp20) (number_1:Tp20) (l:Tp20) (l_1:Int) (l_2:Tp20) (l_3:Tp15) (l_4:Tp8) (d_2:Tp19) (d_3:Tp20):ChO (fun κ=>zbF letters most (r4 κ) d d_1 number number_1 l l_1 l_2 l_3 l_4 d_2 d_3) (zbF letters most r4' d d_1 number number_1 l l_1 l_2 l_3 l_4 d_2 d_3):=by
  unfold zbF
  repeat' with_reducible first | exact ChO.const _ | exact h_r4 _ _ _ _ _ _ _ _ _ _ _ | (apply zgH<;>assumption) | (apply zmI<;>assumption) | apply ChO.ite | apply ChO.G | apply ChO.both | (apply ChO.bind;intro _)
theorem zmH  (letters:Int) (most:Int):Cn (ziD letters most):=fun g h hg x=>zla  (fun κ d d_1 number number_1 l l_1 l_2 l_3 l_4 d_2 d_3=>g κ (d,d_1,number,number_1,l,l_1,l_2,l_3,l_4,d_2,d_3)) (fun d d_1 number number_1 l l_1 l_2 l_3 l_4 d_2 d_3=>h (d,d_1,number,number_1,l,l_1,l_2,l_3,l_4,d_2,d_3)) (fun d d_1 number number_1 l l_1 l_2 l_3 l_4 d_2 d_3=>hg (d,d_1,number,number_1,l,l_1,l_2,l_3,l_4,d_2,d_3)) letters most x.1 x.2.1 x.2.2.1 x.2.2.2.1 x.2.2.2.2.1 x.2.2.2.2.2.1 x.2.2.2.2.2.2.1 x.2.2.2.2.2.2.2.1 x.2.2.2.2.2.2.2.2.1 x.2.2.2.2.2.2.2.2.2.1 x.2.2.2.2.2.2.2.2.2.2
theorem zhy  (letters:Int) (most:Int) (d:Int) (d_1:Int) (number:Tp20) (number_1:Tp20) (l:Tp20) (l_1:Int) (l_2:Tp20) (l_3:Tp15) (l_4:Tp8) (d_2:Tp19) (d_3:Tp20):ze3 letters most d d_1 number number_1 l l_1 l_2 l_3 l_4 d_2 d_3=zbF letters most (ze3 letters most) d d_1 number number_1 l l_1 l_2 l_3 l_4 d_2 d_3:=zam (zmH letters most) (d,d_1,number,number_1,l,l_1,l_2,l_3,l_4,d_2,d_3)

def ze8 (s:Tp20):Option Tp20:=
  if s.length=0 then both [(.list (.int .i64))] (
  some ([])) (
  G (room ([]:List Int) s 8) (
  some (([]:List Int)++s))) else
  G (room ([]:List Int) s 8) (
  some (([]:List Int)++s))

def za9 (class':Tp20) (t:Int) (next':Tp20) (r6:(Int->(List (Int×(List UInt8)×Unit))->Tp20->Tp20->Option Tp20)) (b:Tp20) (number_2:(List (Int×(List UInt8)×Unit))) (number_3:Tp20):Option Tp20:=
  G (0<=t/\t < (next'.length:Int)) (
  G ((t).toNat < next'.length) (
  G (fits (t+(1:Int))) (
  r6 (t+(1:Int)) number_2 number_3 (next'.set (t).toNat (mget number_2 number_3 (ix class' t,(bstr b,())) (0:Int))))))
def zbo (d:Tp11) (class':Tp20) (t:Int) (number:(List (Int×(List UInt8)×Unit))) (number_1:Tp20) (next':Tp20) (r6:(Int->(List (Int×(List UInt8)×Unit))->Tp20->Tp20->Option Tp20)) (r10:Int->Tp20->Option Tp20) (t_1:Int) (b:Tp20):Option Tp20:=
  if (decide (t_1 < ((ix d.2.2.1 t).length:Int)))=true then
  G (0<=t_1/\t_1 < ((ix d.2.2.1 t).length:Int)) (
  G (0<=ix (ix d.2.2.1 t) t_1/\ix (ix d.2.2.1 t) t_1 < (class'.length:Int)) (
  G ((ix (ix d.2.2.1 t) t_1).toNat < class'.length) (
  G (0<=ix (ix d.2.2.1 t) t_1/\ix (ix d.2.2.1 t) t_1 < (class'.length:Int)) (
  G ((ix (ix d.2.2.1 t) t_1).toNat < class'.length) (
  G (0<=(8:Int)) (
  G (room b ([IntKind.wrap .u8 (ix class' (ix (ix d.2.2.1 t) t_1)),IntKind.wrap .u8 (ishr .i64 (ix class' (ix (ix d.2.2.1 t) t_1)) (8:Int))]) 1) (
  G (fits (t_1+(1:Int))) (
  r10 (t_1+(1:Int)) (b++([IntKind.wrap .u8 (ix class' (ix (ix d.2.2.1 t) t_1)),IntKind.wrap .u8 (ishr .i64 (ix class' (ix (ix d.2.2.1 t) t_1)) (8:Int))])))))))))) else
  G (0<=t/\t < (class'.length:Int)) (
  G ((t).toNat < class'.length) (
  if (!(mhas number (ix class' t,(bstr b,()))))=true then
  za9 class' t next' r6 b (zb5 number (ix class' t,(bstr b,()))) (zcM number number_1 (ix class' t,(bstr b,())) (number.length:Int)) else
  za9 class' t next' r6 b number number_1))
def zhu (d:Tp11) (class':Tp20) (t:Int) (number:(List (Int×(List UInt8)×Unit))) (number_1:Tp20) (next':Tp20) (r6:(Int->(List (Int×(List UInt8)×Unit))->Tp20->Tp20->Option Tp20)):(Int×Tp20->Option Tp20)->Int×Tp20->Option Tp20:=
  fun rec x=>zbo d class' t number number_1 next' r6 (fun t_1 b=>rec (t_1,b)) x.1 x.2
def zba (d:Tp11) (class':Tp20) (t:Int) (number:(List (Int×(List UInt8)×Unit))) (number_1:Tp20) (next':Tp20) (r6:(Int->(List (Int×(List UInt8)×Unit))->Tp20->Tp20->Option Tp20)) (t_1:Int) (b:Tp20):Option Tp20:=LFix (zhu d class' t number number_1 next' r6 ) (t_1,b)
def zbE (d:Tp11) (count:Int) (class':Tp20) (r3:(Int->Tp20->Option Tp20)) (r6:Int->(List (Int×(List UInt8)×Unit))->Tp20->Tp20->Option Tp20) (t:Int) (number:(List (Int×(List UInt8)×Unit))) (number_1:Tp20) (next':Tp20):Option Tp20:=
  if (decide (t < (d.2.2.1.length:Int)))=true then
  G (0<=t/\t < (d.2.2.1.length:Int)) (
  zba d class' t number number_1 next' r6 (0:Int) ([])) else
  if (decide ((number.length:Int)=count))=true then
  some next' else
  r3 (number.length:Int) next'
def ziB (d:Tp11) (count:Int) (class':Tp20) (r3:(Int->Tp20->Option Tp20)):(Int×(List (Int×(List UInt8)×Unit))×Tp20×Tp20->Option Tp20)->Int×(List (Int×(List UInt8)×Unit))×Tp20×Tp20->Option Tp20:=
  fun rec x=>zbE d count class' r3 (fun t number number_1 next'=>rec (t,number,number_1,next')) x.1 x.2.1 x.2.2.1 x.2.2.2
def zbS (d:Tp11) (count:Int) (class':Tp20) (r3:(Int->Tp20->Option Tp20)) (t:Int) (number:(List (Int×(List UInt8)×Unit))) (number_1:Tp20) (next':Tp20):Option Tp20:=LFix (ziB d count class' r3 ) (t,number,number_1,next')
def zcm (d:Tp11) (r3:Int->Tp20->Option Tp20) (count:Int) (class':Tp20):Option Tp20:=
  G (mkOK (class'.length:Int) (class'.length:Int) 8) (
  zbS d count class' r3 (0:Int) ([]:List (Int×(List UInt8)×Unit)) ([]:List Int) (List.replicate ((class'.length:Int)).toNat (0:Int)))
def ziA (d:Tp11):(Int×Tp20->Option Tp20)->Int×Tp20->Option Tp20:=
  fun rec x=>zcm d (fun count class'=>rec (count,class')) x.1 x.2
def zcZ (d:Tp11) (count:Int) (class':Tp20):Option Tp20:=LFix (ziA d ) (count,class')
def zig (d:Tp11):Option Tp20:=
  (ze8 d.2.2.2.1).bind (fun y'=>
  zcZ d (0:Int) y')
theorem zeh (r6:Nat->Int->(List (Int×(List UInt8)×Unit))->Tp20->Tp20->Option Tp20) (r6':Int->(List (Int×(List UInt8)×Unit))->Tp20->Tp20->Option Tp20) (h_r6:∀ a0 a1 a2 a3,ChO (fun κ=>r6 κ a0 a1 a2 a3) (r6' a0 a1 a2 a3)) (class':Tp20) (t:Int) (next':Tp20) (b:Tp20) (number_2:(List (Int×(List UInt8)×Unit))) (number_3:Tp20):ChO (fun κ=>za9 class' t next' (r6 κ) b number_2 number_3) (za9 class' t next' r6' b number_2 number_3):=by
  unfold za9
  repeat' with_reducible first | exact ChO.const _ | exact h_r6 _ _ _ _ | apply ChO.ite | apply ChO.G | apply ChO.both | (apply ChO.bind;intro _)
theorem zft (r6:Nat->Int->(List (Int×(List UInt8)×Unit))->Tp20->Tp20->Option Tp20) (r6':Int->(List (Int×(List UInt8)×Unit))->Tp20->Tp20->Option Tp20) (h_r6:∀ a0 a1 a2 a3,ChO (fun κ=>r6 κ a0 a1 a2 a3) (r6' a0 a1 a2 a3)) (r10:Nat->Int->Tp20->Option Tp20) (r10':Int->Tp20->Option Tp20) (h_r10:∀ a0 a1,ChO (fun κ=>r10 κ a0 a1) (r10' a0 a1)) (d:Tp11) (class':Tp20) (t:Int) (number:(List (Int×(List UInt8)×Unit))) (number_1:Tp20) (next':Tp20) (t_1:Int) (b:Tp20):ChO (fun κ=>zbo d class' t number number_1 next' (r6 κ) (r10 κ) t_1 b) (zbo d class' t number number_1 next' r6' r10' t_1 b):=by
  unfold zbo
  repeat' with_reducible first | exact ChO.const _ | exact h_r6 _ _ _ _ | exact h_r10 _ _ | (apply zeh<;>assumption) | apply ChO.ite | apply ChO.G | apply ChO.both | (apply ChO.bind;intro _)
theorem zei (r6:Int->(List (Int×(List UInt8)×Unit))->Tp20->Tp20->Option Tp20) (d:Tp11) (class':Tp20) (t:Int) (number:(List (Int×(List UInt8)×Unit))) (number_1:Tp20) (next':Tp20):Cn (zhu d class' t number number_1 next' r6):=fun g h hg x=>zft (fun _=>r6) r6 (fun _ _ _ _=>ChO.const _) (fun κ t_1 b=>g κ (t_1,b)) (fun t_1 b=>h (t_1,b)) (fun t_1 b=>hg (t_1,b)) d class' t number number_1 next' x.1 x.2
theorem zgE (r6:Int->(List (Int×(List UInt8)×Unit))->Tp20->Tp20->Option Tp20) (d:Tp11) (class':Tp20) (t:Int) (number:(List (Int×(List UInt8)×Unit))) (number_1:Tp20) (next':Tp20) (t_1:Int) (b:Tp20):zba d class' t number number_1 next' r6 t_1 b=zbo d class' t number number_1 next' r6 (zba d class' t number number_1 next' r6) t_1 b:=zam (zei r6 d class' t number number_1 next') (t_1,b)
theorem zgD (r6:Nat->Int->(List (Int×(List UInt8)×Unit))->Tp20->Tp20->Option Tp20) (r6':Int->(List (Int×(List UInt8)×Unit))->Tp20->Tp20->Option Tp20) (h_r6:∀ a0 a1 a2 a3,ChO (fun κ=>r6 κ a0 a1 a2 a3) (r6' a0 a1 a2 a3)) (d:Tp11) (class':Tp20) (t:Int) (number:(List (Int×(List UInt8)×Unit))) (number_1:Tp20) (next':Tp20) (t_1:Int) (b:Tp20):ChO (fun κ=>zba d class' t number number_1 next' (r6 κ) t_1 b) (zba d class' t number number_1 next' r6' t_1 b):=by
  unfold zba
  exact zcE (fun κ=>(zei (r6 κ) d class' t number number_1 next').mono) (zei r6' d class' t number number_1 next').mono (fun g h hg x=>zft r6 r6' h_r6 (fun κ t_1 b=>g κ (t_1,b)) (fun t_1 b=>h (t_1,b)) (fun t_1 b=>hg (t_1,b)) d class' t number number_1 next' x.1 x.2) _
theorem zfT (r3:Nat->Int->Tp20->Option Tp20) (r3':Int->Tp20->Option Tp20) (h_r3:∀ a0 a1,ChO (fun κ=>r3 κ a0 a1) (r3' a0 a1)) (r6:Nat->Int->(List (Int×(List UInt8)×Unit))->Tp20->Tp20->Option Tp20) (r6':Int->(List (Int×(List UInt8)×Unit))->Tp20->Tp20->Option Tp20) (h_r6:∀ a0 a1 a2 a3,ChO (fun κ=>r6 κ a0 a1 a2 a3) (r6' a0 a1 a2 a3)) (d:Tp11) (count:Int) (class':Tp20) (t:Int) (number:(List (Int×(List UInt8)×Unit))) (number_1:Tp20) (next':Tp20):ChO (fun κ=>zbE d count class' (r3 κ) (r6 κ) t number number_1 next') (zbE d count class' r3' r6' t number number_1 next'):=by
  unfold zbE
  repeat' with_reducible first | exact ChO.const _ | exact h_r3 _ _ | exact h_r6 _ _ _ _ | (apply zeh<;>assumption) | (apply zgD<;>assumption) | apply ChO.ite | apply ChO.G | apply ChO.both | (apply ChO.bind;intro _)
theorem zeQ (r3:Int->Tp20->Option Tp20) (d:Tp11) (count:Int) (class':Tp20):Cn (ziB d count class' r3):=fun g h hg x=>zfT (fun _=>r3) r3 (fun _ _=>ChO.const _) (fun κ t number number_1 next'=>g κ (t,number,number_1,next')) (fun t number number_1 next'=>h (t,number,number_1,next')) (fun t number number_1 next'=>hg (t,number,number_1,next')) d count class' x.1 x.2.1 x.2.2.1 x.2.2.2
theorem zhv (r3:Int->Tp20->Option Tp20) (d:Tp11) (count:Int) (class':Tp20) (t:Int) (number:(List (Int×(List UInt8)×Unit))) (number_1:Tp20) (next':Tp20):zbS d count class' r3 t number number_1 next'=zbE d count class' r3 (zbS d count class' r3) t number number_1 next':=zam (zeQ r3 d count class') (t,number,number_1,next')
theorem zmG (r3:Nat->Int->Tp20->Option Tp20) (r3':Int->Tp20->Option Tp20) (h_r3:∀ a0 a1,ChO (fun κ=>r3 κ a0 a1) (r3' a0 a1)) (d:Tp11) (count:Int) (class':Tp20) (t:Int) (number:(List (Int×(List UInt8)×Unit))) (number_1:Tp20) (next':Tp20):ChO (fun κ=>zbS d count class' (r3 κ) t number number_1 next') (zbS d count class' r3' t number number_1 next'):=by
  unfold zbS
  exact zcE (fun κ=>(zeQ (r3 κ) d count class').mono) (zeQ r3' d count class').mono (fun g h hg x=>zfT r3 r3' h_r3 (fun κ t number number_1 next'=>g κ (t,number,number_1,next')) (fun t number number_1 next'=>h (t,number,number_1,next')) (fun t number number_1 next'=>hg (t,number,number_1,next')) d count class' x.1 x.2.1 x.2.2.1 x.2.2.2) _
theorem zk6 (r3:Nat->Int->Tp20->Option Tp20) (r3':Int->Tp20->Option Tp20) (h_r3:∀ a0 a1,ChO (fun κ=>r3 κ a0 a1) (r3' a0 a1)) (d:Tp11) (count:Int) (class':Tp20):ChO (fun κ=>zcm d (r3 κ) count class') (zcm d r3' count class'):=by
  unfold zcm
  repeat' with_reducible first | exact ChO.const _ | exact h_r3 _ _ | (apply zeh<;>assumption) | (apply zgD<;>assumption) | (apply zmG<;>assumption) | apply ChO.ite | apply ChO.G | apply ChO.both | (apply ChO.bind;intro _)
theorem zmE  (d:Tp11):Cn (ziA d):=fun g h hg x=>zk6  (fun κ count class'=>g κ (count,class')) (fun count class'=>h (count,class')) (fun count class'=>hg (count,class')) d x.1 x.2
theorem zmF  (d:Tp11) (count:Int) (class':Tp20):zcZ d count class'=zcm d (zcZ d) count class':=zam (zmE d) (count,class')

def ze4 (c:Int) (a:Int) (t:Tp20) (t_1:Tp11) (t_2:Tp20):Option (Int):=
  G (0<=c/\c < (t_2.length:Int)) (
  G (0<=ix t_2 c/\ix t_2 c < (t_1.2.2.1.length:Int)) (
  G (0<=a/\a < ((ix t_1.2.2.1 (ix t_2 c)).length:Int)) (
  G (0<=ix (ix t_1.2.2.1 (ix t_2 c)) a/\ix (ix t_1.2.2.1 (ix t_2 c)) a < (t.length:Int)) (
  some (ix t (ix (ix t_1.2.2.1 (ix t_2 c)) a))))))

def zhe (c:Int) (t:Tp11) (t_1:Tp20):Option (Int):=
  G (0<=c/\c < (t_1.length:Int)) (
  G (0<=ix t_1 c/\ix t_1 c < (t.2.2.2.1.length:Int)) (
  some (ix t.2.2.2.1 (ix t_1 c))))

def zb3 (t:Int) (row:Tp20) (r8:(Int->Tp20->Tp20->Tp20->Tp20->Option Tp7)) (n:Int) (number_4:Tp20) (number_5:Tp20) (l_2:Tp20):Option Tp7:=
  G (0<=t/\t < (row.length:Int)) (
  G ((t).toNat < row.length) (
  G (fits (t+(1:Int))) (
  r8 (t+(1:Int)) number_4 number_5 l_2 (row.set (t).toNat n))))
def zbb (letters:Int) (c:Tp20) (c_1:Tp11) (c_2:Tp20) (c_3:Tp11) (c_4:Tp20) (most:Int) (d:Int) (d_1:Int) (l:Tp20) (d_2:Tp19) (d_3:Tp20) (r4:(Int->Int->Tp20->Tp20->Tp20->Tp19->Tp20->Option Tp7)) (r8:Tf15) (t:Int) (number_2:Tp20) (number_3:Tp20) (l_1:Tp20) (row:Tp20):Option Tp7:=
  if (decide (t < letters))=true then
  (ze4 (ix l (d_2.length:Int)) t c c_1 c_2).bind (fun y'=>
  if (!(mhas number_2 y'))=true then
  if (decide ((l_1.length:Int)=most))=true then
  some (((0:Int),((0:Int),([],([],())))),false) else
  G (room l_1 ([y']) 8) (
  zb3 t row r8 (l_1.length:Int) (zb5 number_2 y') (zcM number_2 number_3 y' (l_1.length:Int)) (l_1++([y']))) else
  zb3 t row r8 (mget number_2 number_3 y' (0:Int)) number_2 number_3 l_1) else
  G (room d_2 ([row]) 24) (
  (zhe (ix l (d_2.length:Int)) c_3 c_4).bind (fun y'_1=>
  G (room d_3 ([y'_1]) 8) (
  r4 d d_1 number_2 number_3 l_1 (d_2++([row])) (d_3++([y'_1])))))
def zgG (letters:Int) (c:Tp20) (c_1:Tp11) (c_2:Tp20) (c_3:Tp11) (c_4:Tp20) (most:Int) (d:Int) (d_1:Int) (l:Tp20) (d_2:Tp19) (d_3:Tp20) (r4:(Int->Int->Tp20->Tp20->Tp20->Tp19->Tp20->Option Tp7)):(Int×Tp20×Tp20×Tp20×Tp20->Option Tp7)->Int×Tp20×Tp20×Tp20×Tp20->Option Tp7:=
  fun rec x=>zbb letters c c_1 c_2 c_3 c_4 most d d_1 l d_2 d_3 r4 (fun t number_2 number_3 l_1 row=>rec (t,number_2,number_3,l_1,row)) x.1 x.2.1 x.2.2.1 x.2.2.2.1 x.2.2.2.2
def zaS (letters:Int) (c:Tp20) (c_1:Tp11) (c_2:Tp20) (c_3:Tp11) (c_4:Tp20) (most:Int) (d:Int) (d_1:Int) (l:Tp20) (d_2:Tp19) (d_3:Tp20) (r4:(Int->Int->Tp20->Tp20->Tp20->Tp19->Tp20->Option Tp7)) (t:Int) (number_2:Tp20) (number_3:Tp20) (l_1:Tp20) (row:Tp20):Option Tp7:=LFix (zgG letters c c_1 c_2 c_3 c_4 most d d_1 l d_2 d_3 r4 ) (t,number_2,number_3,l_1,row)
def zbD (letters:Int) (c:Tp20) (c_1:Tp11) (c_2:Tp20) (c_3:Tp11) (c_4:Tp20) (most:Int) (r4:Tf3) (d:Int) (d_1:Int) (number:Tp20) (number_1:Tp20) (l:Tp20) (d_2:Tp19) (d_3:Tp20):Option Tp7:=
  if (decide ((d_2.length:Int) < (l.length:Int)))=true then
  G (0<=(d_2.length:Int)/\(d_2.length:Int) < (l.length:Int)) (
  G (((d_2.length:Int)).toNat < l.length) (
  G (mkOK letters letters 8) (
  zaS letters c c_1 c_2 c_3 c_4 most d d_1 l d_2 d_3 r4 (0:Int) number number_1 l (List.replicate (letters).toNat (0:Int))))) else
  some ((d,(d_1,(d_2,(d_3,())))),true)
def zgF (letters:Int) (c:Tp20) (c_1:Tp11) (c_2:Tp20) (c_3:Tp11) (c_4:Tp20) (most:Int):(Int×Int×Tp20×Tp20×Tp20×Tp19×Tp20->Option Tp7)->Int×Int×Tp20×Tp20×Tp20×Tp19×Tp20->Option Tp7:=
  fun rec x=>zbD letters c c_1 c_2 c_3 c_4 most (fun d d_1 number number_1 l d_2 d_3=>rec (d,d_1,number,number_1,l,d_2,d_3)) x.1 x.2.1 x.2.2.1 x.2.2.2.1 x.2.2.2.2.1 x.2.2.2.2.2.1 x.2.2.2.2.2.2
def zcV (letters:Int) (c:Tp20) (c_1:Tp11) (c_2:Tp20) (c_3:Tp11) (c_4:Tp20) (most:Int) (d:Int) (d_1:Int) (number:Tp20) (number_1:Tp20) (l:Tp20) (d_2:Tp19) (d_3:Tp20):Option Tp7:=LFix (zgF letters c c_1 c_2 c_3 c_4 most ) (d,d_1,number,number_1,l,d_2,d_3)
def zfC (letters:Int) (first:Int) (c:Tp20) (c_1:Tp11) (c_2:Tp20) (c_3:Tp11) (c_4:Tp20) (most:Int):Option Tp7:=
  zcV letters c c_1 c_2 c_3 c_4 most letters (0:Int) (zb5 ([]:List Int) first) (zcM ([]:List Int) ([]:List Int) first (0:Int)) ([first]) ([]:List Tp20) ([]:List Int)
theorem zfu (r8:Nat->Tf15) (r8':Tf15) (h_r8:∀ a0 a1 a2 a3 a4,ChO (fun κ=>r8 κ a0 a1 a2 a3 a4) (r8' a0 a1 a2 a3 a4)) (t:Int) (row:Tp20) (n:Int) (number_4:Tp20) (number_5:Tp20) (l_2:Tp20):ChO (fun κ=>zb3 t row (r8 κ) n number_4 number_5 l_2) (zb3 t row r8' n number_4 number_5 l_2):=by
  unfold zb3
  repeat' with_reducible first | exact ChO.const _ | exact h_r8 _ _ _ _ _ | apply ChO.ite | apply ChO.G | apply ChO.both | (apply ChO.bind;intro _)
theorem zfa (r4:Nat->Tf3) (r4':Tf3) (h_r4:∀ a0 a1 a2 a3 a4 a5 a6,ChO (fun κ=>r4 κ a0 a1 a2 a3 a4 a5 a6) (r4' a0 a1 a2 a3 a4 a5 a6)) (r8:Nat->Tf15) (r8':Tf15) (h_r8:∀ a0 a1 a2 a3 a4,ChO (fun κ=>r8 κ a0 a1 a2 a3 a4) (r8' a0 a1 a2 a3 a4)) (letters:Int) (c:Tp20) (c_1:Tp11) (c_2:Tp20) (c_3:Tp11) (c_4:Tp20) (most:Int) (d:Int) (d_1:Int) (l:Tp20) (d_2:Tp19) (d_3:Tp20) (t:Int) (number_2:Tp20) (number_3:Tp20) (l_1:Tp20) (row:Tp20):ChO (fun κ=>zbb letters c c_1 c_2 c_3 c_4 most d d_1 l d_2 d_3 (r4 κ) (r8 κ) t number_2 number_3 l_1 row) (zbb letters c c_1 c_2 c_3 c_4 most d d_1 l d_2 d_3 r4' r8' t number_2 number_3 l_1 row):=by
  unfold zbb
  repeat' with_reducible first | exact ChO.const _ | exact h_r4 _ _ _ _ _ _ _ | exact h_r8 _ _ _ _ _ | (apply zfu<;>assumption) | apply ChO.ite | apply ChO.G | apply ChO.both | (apply ChO.bind;intro _)
theorem zdT (r4:Tf3) (letters:Int) (c:Tp20) (c_1:Tp11) (c_2:Tp20) (c_3:Tp11) (c_4:Tp20) (most:Int) (d:Int) (d_1:Int) (l:Tp20) (d_2:Tp19) (d_3:Tp20):Cn (zgG letters c c_1 c_2 c_3 c_4 most d d_1 l d_2 d_3 r4):=fun g h hg x=>zfa (fun _=>r4) r4 (fun _ _ _ _ _ _ _=>ChO.const _) (fun κ t number_2 number_3 l_1 row=>g κ (t,number_2,number_3,l_1,row)) (fun t number_2 number_3 l_1 row=>h (t,number_2,number_3,l_1,row)) (fun t number_2 number_3 l_1 row=>hg (t,number_2,number_3,l_1,row)) letters c c_1 c_2 c_3 c_4 most d d_1 l d_2 d_3 x.1 x.2.1 x.2.2.1 x.2.2.2.1 x.2.2.2.2
theorem zfV (r4:Tf3) (letters:Int) (c:Tp20) (c_1:Tp11) (c_2:Tp20) (c_3:Tp11) (c_4:Tp20) (most:Int) (d:Int) (d_1:Int) (l:Tp20) (d_2:Tp19) (d_3:Tp20) (t:Int) (number_2:Tp20) (number_3:Tp20) (l_1:Tp20) (row:Tp20):zaS letters c c_1 c_2 c_3 c_4 most d d_1 l d_2 d_3 r4 t number_2 number_3 l_1 row=zbb letters c c_1 c_2 c_3 c_4 most d d_1 l d_2 d_3 r4 (zaS letters c c_1 c_2 c_3 c_4 most d d_1 l d_2 d_3 r4) t number_2 number_3 l_1 row:=zam (zdT r4 letters c c_1 c_2 c_3 c_4 most d d_1 l d_2 d_3) (t,number_2,number_3,l_1,row)
theorem zk9 (r4:Nat->Tf3) (r4':Tf3) (h_r4:∀ a0 a1 a2 a3 a4 a5 a6,ChO (fun κ=>r4 κ a0 a1 a2 a3 a4 a5 a6) (r4' a0 a1 a2 a3 a4 a5 a6)) (letters:Int) (c:Tp20) (c_1:Tp11) (c_2:Tp20) (c_3:Tp11) (c_4:Tp20) (most:Int) (d:Int) (d_1:Int) (l:Tp20) (d_2:Tp19) (d_3:Tp20) (t:Int) (number_2:Tp20) (number_3:Tp20) (l_1:Tp20) (row:Tp20):ChO (fun κ=>zaS letters c c_1 c_2 c_3 c_4 most d d_1 l d_2 d_3 (r4 κ) t number_2 number_3 l_1 row) (zaS letters c c_1 c_2 c_3 c_4 most d d_1 l d_2 d_3 r4' t number_2 number_3 l_1 row):=by
  unfold zaS
  exact zcE (fun κ=>(zdT (r4 κ) letters c c_1 c_2 c_3 c_4 most d d_1 l d_2 d_3).mono) (zdT r4' letters c c_1 c_2 c_3 c_4 most d d_1 l d_2 d_3).mono (fun g h hg x=>zfa r4 r4' h_r4 (fun κ t number_2 number_3 l_1 row=>g κ (t,number_2,number_3,l_1,row)) (fun t number_2 number_3 l_1 row=>h (t,number_2,number_3,l_1,row)) (fun t number_2 number_3 l_1 row=>hg (t,number_2,number_3,l_1,row)) letters c c_1 c_2 c_3 c_4 most d d_1 l d_2 d_3 x.1 x.2.1 x.2.2.1 x.2.2.2.1 x.2.2.2.2) _
theorem zjb (r4:Nat->Tf3) (r4':Tf3) (h_r4:∀ a0 a1 a2 a3 a4 a5 a6,ChO (fun κ=>r4 κ a0 a1 a2 a3 a4 a5 a6) (r4' a0 a1 a2 a3 a4 a5 a6)) (letters:Int) (c:Tp20) (c_1:Tp11) (c_2:Tp20) (c_3:Tp11) (c_4:Tp20) (most:Int) (d:Int) (d_1:Int) (number:Tp20) (number_1:Tp20) (l:Tp20) (d_2:Tp19) (d_3:Tp20):ChO (fun κ=>zbD letters c c_1 c_2 c_3 c_4 most (r4 κ) d d_1 number number_1 l d_2 d_3) (zbD letters c c_1 c_2 c_3 c_4 most r4' d d_1 number number_1 l d_2 d_3):=by
  unfold zbD
  repeat' with_reducible first | exact ChO.const _ | exact h_r4 _ _ _ _ _ _ _ | (apply zfu<;>assumption) | (apply zk9<;>assumption) | apply ChO.ite | apply ChO.G | apply ChO.both | (apply ChO.bind;intro _)
theorem zk7  (letters:Int) (c:Tp20) (c_1:Tp11) (c_2:Tp20) (c_3:Tp11) (c_4:Tp20) (most:Int):Cn (zgF letters c c_1 c_2 c_3 c_4 most):=fun g h hg x=>zjb  (fun κ d d_1 number number_1 l d_2 d_3=>g κ (d,d_1,number,number_1,l,d_2,d_3)) (fun d d_1 number number_1 l d_2 d_3=>h (d,d_1,number,number_1,l,d_2,d_3)) (fun d d_1 number number_1 l d_2 d_3=>hg (d,d_1,number,number_1,l,d_2,d_3)) letters c c_1 c_2 c_3 c_4 most x.1 x.2.1 x.2.2.1 x.2.2.2.1 x.2.2.2.2.1 x.2.2.2.2.2.1 x.2.2.2.2.2.2
theorem zk8  (letters:Int) (c:Tp20) (c_1:Tp11) (c_2:Tp20) (c_3:Tp11) (c_4:Tp20) (most:Int) (d:Int) (d_1:Int) (number:Tp20) (number_1:Tp20) (l:Tp20) (d_2:Tp19) (d_3:Tp20):zcV letters c c_1 c_2 c_3 c_4 most d d_1 number number_1 l d_2 d_3=zbD letters c c_1 c_2 c_3 c_4 most (zcV letters c c_1 c_2 c_3 c_4 most) d d_1 number number_1 l d_2 d_3:=zam (zk7 letters c c_1 c_2 c_3 c_4 most) (d,d_1,number,number_1,l,d_2,d_3)

def zjf (out:Int) (out_1:Int) (out_2:Tp19) (out_3:Tp20):Option Tp11:=
  some (out,(out_1,(out_2,(out_3,()))))
def zbp (d:Tp11) (y':Tp20) (r4:Int->Tp20->Option Tp11) (t:Int) (l:Tp20):Option Tp11:=
  if (decide (t < (y'.length:Int)))=true then
  G (0<=t/\t < (y'.length:Int)) (
  G ((t).toNat < y'.length) (
  G (0<=ix y' t/\ix y' t < (l.length:Int)) (
  G ((ix y' t).toNat < l.length) (
  G (fits (t+(1:Int))) (
  r4 (t+(1:Int)) (l.set (ix y' t).toNat t)))))) else
  G (0<=d.2.1/\d.2.1 < (y'.length:Int)) (
  G ((d.2.1).toNat < y'.length) (
  G (fits ((y'.length:Int)+(1:Int))) (
  both [(.pair (.int .i64) (.pair (.int .i64) (.pair (.list (.list (.int .i64))) (.pair (.list (.int .i64)) .unit))))] (
  (zfC d.1 (ix y' d.2.1) y' (d.1,(d.2.1,(d.2.2.1,(d.2.2.2.1,())))) l (d.1,(d.2.1,(d.2.2.1,(d.2.2.2.1,())))) l ((y'.length:Int)+(1:Int))).bind (fun y'_4=>
  zjf y'_4.1.1 y'_4.1.2.1 y'_4.1.2.2.1 y'_4.1.2.2.2.1)) (
  (zfC d.1 (ix y' d.2.1) y' (d.1,(d.2.1,(d.2.2.1,(d.2.2.2.1,())))) l (d.1,(d.2.1,(d.2.2.1,(d.2.2.2.1,())))) l ((y'.length:Int)+(1:Int))).bind (fun y'_8=>
  zjf y'_8.1.1 y'_8.1.2.1 y'_8.1.2.2.1 y'_8.1.2.2.2.1)))))
def zhC (d:Tp11) (y':Tp20):(Int×Tp20->Option Tp11)->Int×Tp20->Option Tp11:=
  fun rec x=>zbp d y' (fun t l=>rec (t,l)) x.1 x.2
def zb9 (d:Tp11) (y':Tp20) (t:Int) (l:Tp20):Option Tp11:=LFix (zhC d y' ) (t,l)
def zd2 (d:Tp11):Option Tp11:=
  (zig (d.1,(d.2.1,(d.2.2.1,(d.2.2.2.1,()))))).bind (fun y'=>
  G (mkOK (y'.length:Int) (y'.length:Int) 8) (
  zb9 d y' (0:Int) (List.replicate ((y'.length:Int)).toNat (0:Int))))
theorem zkm (r4:Nat->Int->Tp20->Option Tp11) (r4':Int->Tp20->Option Tp11) (h_r4:∀ a0 a1,ChO (fun κ=>r4 κ a0 a1) (r4' a0 a1)) (d:Tp11) (y':Tp20) (t:Int) (l:Tp20):ChO (fun κ=>zbp d y' (r4 κ) t l) (zbp d y' r4' t l):=by
  unfold zbp
  repeat' with_reducible first | exact ChO.const _ | exact h_r4 _ _ | apply ChO.ite | apply ChO.G | apply ChO.both | (apply ChO.bind;intro _)
theorem zlt  (d:Tp11) (y':Tp20):Cn (zhC d y'):=fun g h hg x=>zkm  (fun κ t l=>g κ (t,l)) (fun t l=>h (t,l)) (fun t l=>hg (t,l)) d y' x.1 x.2
theorem zgM  (d:Tp11) (y':Tp20) (t:Int) (l:Tp20):zb9 d y' t l=zbp d y' (zb9 d y') t l:=zam (zlt d y') (t,l)

def zbh (t:Int) (out:Tp9) (r7:(Int->Int->Tp20->Tp15->Tp8->Tp9->Option Tp6)) (y'_6:Tp8) (y'_7:Int) (y'_8:Tp20) (y'_9:Tp15) (y'_10:Tp8) (r11:Int->Int->Option Tp6) (first:Int) (t_1:Int):Option Tp6:=
  if (decide (t_1 < (y'_6.length:Int)))=true then
  G (0<=t_1/\t_1 < (y'_6.length:Int)) (
  G ((t_1).toNat < y'_6.length) (
  G (0<=(ix y'_6 t_1).1) (
  G (fits (t_1+(1:Int))) (
  r11 (ior .i64 first (ishl .i64 (1:Int) ((ix y'_6 t_1).1))) (t_1+(1:Int)))))) else
  (zfU (3:Int) first (3000:Int) y'_7 y'_8 y'_9 y'_10).bind (fun y'_20=>
  (zd2 (y'_20.1.1,(y'_20.1.2.1,(y'_20.1.2.2.1,(y'_20.1.2.2.2.1,()))))).bind (fun y'_19=>
  G (room out ([y'_19]) 64) (
  G (fits (t+(1:Int))) (
  r7 (t+(1:Int)) y'_20.2.2.1 y'_20.2.2.2.1 y'_20.2.2.2.2.1 y'_20.2.2.2.2.2 (out++([y'_19]))))))
def zg4 (t:Int) (out:Tp9) (r7:(Int->Int->Tp20->Tp15->Tp8->Tp9->Option Tp6)) (y'_6:Tp8) (y'_7:Int) (y'_8:Tp20) (y'_9:Tp15) (y'_10:Tp8):(Int×Int->Option Tp6)->Int×Int->Option Tp6:=
  fun rec x=>zbh t out r7 y'_6 y'_7 y'_8 y'_9 y'_10 (fun first t_1=>rec (first,t_1)) x.1 x.2
def zbI (t:Int) (out:Tp9) (r7:(Int->Int->Tp20->Tp15->Tp8->Tp9->Option Tp6)) (y'_6:Tp8) (y'_7:Int) (y'_8:Tp20) (y'_9:Tp15) (y'_10:Tp8) (first:Int) (t_1:Int):Option Tp6:=LFix (zg4 t out r7 y'_6 y'_7 y'_8 y'_9 y'_10 ) (first,t_1)
def zbr  (r7:Tf14) (t:Int) (l_1:Int) (l_2:Tp20) (l_3:Tp15) (l_4:Tp8) (out:Tp9):Option Tp6:=
  if (decide (t < (3:Int)))=true then
  (zaX t ([]) l_1 l_2 l_3 l_4).bind (fun y'_21=>
  zbI t out r7 y'_21.1 y'_21.2.1 y'_21.2.2.1 y'_21.2.2.2.1 y'_21.2.2.2.2 (0:Int) (0:Int)) else
  some ((0:Int),out)
def zh3:(Int×Int×Tp20×Tp15×Tp8×Tp9->Option Tp6)->Int×Int×Tp20×Tp15×Tp8×Tp9->Option Tp6:=
  fun rec x=>zbr (fun t l_1 l_2 l_3 l_4 out=>rec (t,l_1,l_2,l_3,l_4,out)) x.1 x.2.1 x.2.2.1 x.2.2.2.1 x.2.2.2.2.1 x.2.2.2.2.2
def zcb  (t:Int) (l_1:Int) (l_2:Tp20) (l_3:Tp15) (l_4:Tp8) (out:Tp9):Option Tp6:=LFix (zh3 ) (t,l_1,l_2,l_3,l_4,out)
def zd8 (l:Tp12) (goal:Tp16):Option Tp6:=
  (zcS l ([(goal.1,(goal.2.1,()))])).bind (fun y'=>
  if (decide (¬ y'=(0:Int)))=true then
  some (y',[]) else
  (zgt l (goal.1,(goal.2.1,()))).bind (fun y'_22=>
  zcb (0:Int) y'_22.1 y'_22.2.1 y'_22.2.2.1 y'_22.2.2.2 ([])))
theorem zfj (r7:Nat->Tf14) (r7':Tf14) (h_r7:∀ a0 a1 a2 a3 a4 a5,ChO (fun κ=>r7 κ a0 a1 a2 a3 a4 a5) (r7' a0 a1 a2 a3 a4 a5)) (r11:Nat->Int->Int->Option Tp6) (r11':Int->Int->Option Tp6) (h_r11:∀ a0 a1,ChO (fun κ=>r11 κ a0 a1) (r11' a0 a1)) (t:Int) (out:Tp9) (y'_6:Tp8) (y'_7:Int) (y'_8:Tp20) (y'_9:Tp15) (y'_10:Tp8) (first:Int) (t_1:Int):ChO (fun κ=>zbh t out (r7 κ) y'_6 y'_7 y'_8 y'_9 y'_10 (r11 κ) first t_1) (zbh t out r7' y'_6 y'_7 y'_8 y'_9 y'_10 r11' first t_1):=by
  unfold zbh
  repeat' with_reducible first | exact ChO.const _ | exact h_r7 _ _ _ _ _ _ | exact h_r11 _ _ | apply ChO.ite | apply ChO.G | apply ChO.both | (apply ChO.bind;intro _)
theorem zd1 (r7:Tf14) (t:Int) (out:Tp9) (y'_6:Tp8) (y'_7:Int) (y'_8:Tp20) (y'_9:Tp15) (y'_10:Tp8):Cn (zg4 t out r7 y'_6 y'_7 y'_8 y'_9 y'_10):=fun g h hg x=>zfj (fun _=>r7) r7 (fun _ _ _ _ _ _=>ChO.const _) (fun κ first t_1=>g κ (first,t_1)) (fun first t_1=>h (first,t_1)) (fun first t_1=>hg (first,t_1)) t out y'_6 y'_7 y'_8 y'_9 y'_10 x.1 x.2
theorem zgp (r7:Tf14) (t:Int) (out:Tp9) (y'_6:Tp8) (y'_7:Int) (y'_8:Tp20) (y'_9:Tp15) (y'_10:Tp8) (first:Int) (t_1:Int):zbI t out r7 y'_6 y'_7 y'_8 y'_9 y'_10 first t_1=zbh t out r7 y'_6 y'_7 y'_8 y'_9 y'_10 (zbI t out r7 y'_6 y'_7 y'_8 y'_9 y'_10) first t_1:=zam (zd1 r7 t out y'_6 y'_7 y'_8 y'_9 y'_10) (first,t_1)
theorem zlk (r7:Nat->Tf14) (r7':Tf14) (h_r7:∀ a0 a1 a2 a3 a4 a5,ChO (fun κ=>r7 κ a0 a1 a2 a3 a4 a5) (r7' a0 a1 a2 a3 a4 a5)) (t:Int) (out:Tp9) (y'_6:Tp8) (y'_7:Int) (y'_8:Tp20) (y'_9:Tp15) (y'_10:Tp8) (first:Int) (t_1:Int):ChO (fun κ=>zbI t out (r7 κ) y'_6 y'_7 y'_8 y'_9 y'_10 first t_1) (zbI t out r7' y'_6 y'_7 y'_8 y'_9 y'_10 first t_1):=by
  unfold zbI
  exact zcE (fun κ=>(zd1 (r7 κ) t out y'_6 y'_7 y'_8 y'_9 y'_10).mono) (zd1 r7' t out y'_6 y'_7 y'_8 y'_9 y'_10).mono (fun g h hg x=>zfj r7 r7' h_r7 (fun κ first t_1=>g κ (first,t_1)) (fun first t_1=>h (first,t_1)) (fun first t_1=>hg (first,t_1)) t out y'_6 y'_7 y'_8 y'_9 y'_10 x.1 x.2) _
theorem zkt (r7:Nat->Tf14) (r7':Tf14) (h_r7:∀ a0 a1 a2 a3 a4 a5,ChO (fun κ=>r7 κ a0 a1 a2 a3 a4 a5) (r7' a0 a1 a2 a3 a4 a5)) (t:Int) (l_1:Int) (l_2:Tp20) (l_3:Tp15) (l_4:Tp8) (out:Tp9):ChO (fun κ=>zbr (r7 κ) t l_1 l_2 l_3 l_4 out) (zbr r7' t l_1 l_2 l_3 l_4 out):=by
  unfold zbr
  repeat' with_reducible first | exact ChO.const _ | exact h_r7 _ _ _ _ _ _ | (apply zlk<;>assumption) | apply ChO.ite | apply ChO.G | apply ChO.both | (apply ChO.bind;intro _)
theorem zml:Cn (zh3):=fun g h hg x=>zkt  (fun κ t l_1 l_2 l_3 l_4 out=>g κ (t,l_1,l_2,l_3,l_4,out)) (fun t l_1 l_2 l_3 l_4 out=>h (t,l_1,l_2,l_3,l_4,out)) (fun t l_1 l_2 l_3 l_4 out=>hg (t,l_1,l_2,l_3,l_4,out))  x.1 x.2.1 x.2.2.1 x.2.2.2.1 x.2.2.2.2.1 x.2.2.2.2.2
theorem zg5   (t:Int) (l_1:Int) (l_2:Tp20) (l_3:Tp15) (l_4:Tp8) (out:Tp9):zcb t l_1 l_2 l_3 l_4 out=zbr (zcb) t l_1 l_2 l_3 l_4 out:=zam (zml ) (t,l_1,l_2,l_3,l_4,out)

def zbd (l:Tp12) (i_1:Int) (r9:(Int->Option (Int))) (r15:Int->Option (Int)) (k:Int):Option (Int):=
  if (decide (k < ((((((ix l i_1).2).2).2).1).length:Int)))=true then
  G (0<=k/\k < ((((((ix l i_1).2).2).2).1).length:Int)) (
  if (decide ((ix (((((ix l i_1).2).2).2).1) k) < (0:Int)))=true then
  some (2:Int) else
  G (0<=k/\k < ((((((ix l i_1).2).2).2).1).length:Int)) (
  if (decide ((2:Int) < (ix (((((ix l i_1).2).2).2).1) k)))=true then
  some (2:Int) else
  G (fits (k+(1:Int))) (
  r15 (k+(1:Int))))) else
  G (fits (i_1+(1:Int))) (
  r9 (i_1+(1:Int)))
def zjx (l:Tp12) (i_1:Int) (r9:(Int->Option (Int))):(Int->Option (Int))->Int->Option (Int):=
  fun rec x=>zbd l i_1 r9 (fun k=>rec k) x
def zdl (l:Tp12) (i_1:Int) (r9:(Int->Option (Int))) (k:Int):Option (Int):=LFix (zjx l i_1 r9 ) k
def zbV (l:Tp12) (r9:Int->Option (Int)) (i_1:Int):Option (Int):=
  if (decide (i_1 < (l.length:Int)))=true then
  G (0<=i_1/\i_1 < (l.length:Int)) (
  if (decide (((ix l i_1).1) < (0:Int)))=true then
  some (2:Int) else
  if (decide ((2:Int) < ((ix l i_1).1)))=true then
  some (2:Int) else
  if (decide ((((ix l i_1).2).1) < (0:Int)))=true then
  some (2:Int) else
  if (decide ((2:Int) < (((ix l i_1).2).1)))=true then
  some (2:Int) else
  if (decide (((((ix l i_1).2).2).1) < (0:Int)))=true then
  some (2:Int) else
  if (decide ((2:Int) < ((((ix l i_1).2).2).1)))=true then
  some (2:Int) else
  zdl l i_1 r9 (0:Int)) else
  some (0:Int)
def zkC (l:Tp12):(Int->Option (Int))->Int->Option (Int):=
  fun rec x=>zbV l (fun i_1=>rec i_1) x
def zjz (l:Tp12) (i_1:Int):Option (Int):=LFix (zkC l ) i_1
def zbU (l:Tp12) (r4:Int->Option (Int)) (i:Int):Option (Int):=
  if (decide (i < (l.length:Int)))=true then
  G (0<=i/\i < (l.length:Int)) (
  if (decide ((2:Int) < ((((((ix l i).2).2).2).1).length:Int)))=true then
  some (1:Int) else
  G (fits (i+(1:Int))) (
  r4 (i+(1:Int)))) else
  zjz l (0:Int)
def zkB (l:Tp12):(Int->Option (Int))->Int->Option (Int):=
  fun rec x=>zbU l (fun i=>rec i) x
def zjy (l:Tp12) (i:Int):Option (Int):=LFix (zkB l ) i
def zl1 (l:Tp12):Option (Int):=
  if (decide ((8:Int) < (l.length:Int)))=true then
  some (1:Int) else
  zjy l (0:Int)
theorem zgQ (r9:Nat->Int->Option (Int)) (r9':Int->Option (Int)) (h_r9:∀ a0,ChO (fun κ=>r9 κ a0) (r9' a0)) (r15:Nat->Int->Option (Int)) (r15':Int->Option (Int)) (h_r15:∀ a0,ChO (fun κ=>r15 κ a0) (r15' a0)) (l:Tp12) (i_1:Int) (k:Int):ChO (fun κ=>zbd l i_1 (r9 κ) (r15 κ) k) (zbd l i_1 r9' r15' k):=by
  unfold zbd
  repeat' with_reducible first | exact ChO.const _ | exact h_r9 _ | exact h_r15 _ | apply ChO.ite | apply ChO.G | apply ChO.both | (apply ChO.bind;intro _)
theorem zfp (r9:Int->Option (Int)) (l:Tp12) (i_1:Int):Cn (zjx l i_1 r9):=fun g h hg x=>zgQ (fun _=>r9) r9 (fun _=>ChO.const _) (fun κ k=>g κ k) (fun k=>h k) (fun k=>hg k) l i_1 x
theorem zdR (r9:Int->Option (Int)) (l:Tp12) (i_1:Int) (k:Int):zdl l i_1 r9 k=zbd l i_1 r9 (zdl l i_1 r9) k:=zam (zfp r9 l i_1) k
theorem ziI (r9:Nat->Int->Option (Int)) (r9':Int->Option (Int)) (h_r9:∀ a0,ChO (fun κ=>r9 κ a0) (r9' a0)) (l:Tp12) (i_1:Int) (k:Int):ChO (fun κ=>zdl l i_1 (r9 κ) k) (zdl l i_1 r9' k):=by
  unfold zdl
  exact zcE (fun κ=>(zfp (r9 κ) l i_1).mono) (zfp r9' l i_1).mono (fun g h hg x=>zgQ r9 r9' h_r9 (fun κ k=>g κ k) (fun k=>h k) (fun k=>hg k) l i_1 x) _
theorem zmY (r9:Nat->Int->Option (Int)) (r9':Int->Option (Int)) (h_r9:∀ a0,ChO (fun κ=>r9 κ a0) (r9' a0)) (l:Tp12) (i_1:Int):ChO (fun κ=>zbV l (r9 κ) i_1) (zbV l r9' i_1):=by
  unfold zbV
  repeat' with_reducible first | exact ChO.const _ | exact h_r9 _ | (apply ziI<;>assumption) | apply ChO.ite | apply ChO.G | apply ChO.both | (apply ChO.bind;intro _)
theorem zpg  (l:Tp12):Cn (zkC l):=fun g h hg x=>zmY  (fun κ i_1=>g κ i_1) (fun i_1=>h i_1) (fun i_1=>hg i_1) l x
theorem zf5  (l:Tp12) (i_1:Int):zjz l i_1=zbV l (zjz l) i_1:=zam (zpg l) i_1
theorem zmX (r4:Nat->Int->Option (Int)) (r4':Int->Option (Int)) (h_r4:∀ a0,ChO (fun κ=>r4 κ a0) (r4' a0)) (l:Tp12) (i:Int):ChO (fun κ=>zbU l (r4 κ) i) (zbU l r4' i):=by
  unfold zbU
  repeat' with_reducible first | exact ChO.const _ | exact h_r4 _ | (apply ziI<;>assumption) | apply ChO.ite | apply ChO.G | apply ChO.both | (apply ChO.bind;intro _)
theorem zpf  (l:Tp12):Cn (zkB l):=fun g h hg x=>zmX  (fun κ i=>g κ i) (fun i=>h i) (fun i=>hg i) l x
theorem zf4  (l:Tp12) (i:Int):zjy l i=zbU l (zjy l) i:=zam (zpf l) i

def zby (c:Tp16) (r6:Int->Option (Int)) (i:Int):Option (Int):=
  if (decide (i < (c.2.1.length:Int)))=true then
  G (0<=i/\i < (c.2.1.length:Int)) (
  if (decide ((ix c.2.1 i) < (0:Int)))=true then
  some (2:Int) else
  G (0<=i/\i < (c.2.1.length:Int)) (
  if (decide ((2:Int) < (ix c.2.1 i)))=true then
  some (2:Int) else
  G (fits (i+(1:Int))) (
  r6 (i+(1:Int))))) else
  some (0:Int)
def zjA (c:Tp16):(Int->Option (Int))->Int->Option (Int):=
  fun rec x=>zby c (fun i=>rec i) x
def zio (c:Tp16) (i:Int):Option (Int):=LFix (zjA c ) i
def zhK (c:Tp16):Option (Int):=
  if (decide ((20:Int) < (c.2.1.length:Int)))=true then
  some (1:Int) else
  if (decide (c.1 < (0:Int)))=true then
  some (2:Int) else
  if (decide ((2:Int) < c.1))=true then
  some (2:Int) else
  zio c (0:Int)
theorem zl4 (r6:Nat->Int->Option (Int)) (r6':Int->Option (Int)) (h_r6:∀ a0,ChO (fun κ=>r6 κ a0) (r6' a0)) (c:Tp16) (i:Int):ChO (fun κ=>zby c (r6 κ) i) (zby c r6' i):=by
  unfold zby
  repeat' with_reducible first | exact ChO.const _ | exact h_r6 _ | apply ChO.ite | apply ChO.G | apply ChO.both | (apply ChO.bind;intro _)
theorem znX  (c:Tp16):Cn (zjA c):=fun g h hg x=>zl4  (fun κ i=>g κ i) (fun i=>h i) (fun i=>hg i) c x
theorem zfq  (c:Tp16) (i:Int):zio c i=zby c (zio c) i:=zam (znX c) i

def zgN (goal:Tp16) (e:Int):Option (Int):=
  if (decide (e=(0:Int)))=true then
  (zhK (goal.1,(goal.2.1,()))).bind (fun y'_2=>
  if (decide (y'_2=(0:Int)))=true then
  if (decide ((3:Int) < (goal.2.1.length:Int)))=true then
  some (1:Int) else
  some y'_2 else
  some y'_2) else
  if (decide (e=(0:Int)))=true then
  if (decide ((3:Int) < (goal.2.1.length:Int)))=true then
  some (1:Int) else
  some e else
  some e
def zf1 (l:Tp12) (from':Tp16) (goal:Tp16):Option (Int):=
  (zl1 l).bind (fun y'=>
  if (decide (y'=(0:Int)))=true then
  (zhK (from'.1,(from'.2.1,()))).bind (fun y'_1=>
  zgN goal y'_1) else
  zgN goal y')

def zbu (d:Tp11) (i_1:Int) (r16:(Int->Option (Int))) (r19:Int->Option (Int)) (k:Int):Option (Int):=
  if (decide (k < d.1))=true then
  G (0<=i_1/\i_1 < (d.2.2.1.length:Int)) (
  G (0<=k/\k < ((ix d.2.2.1 i_1).length:Int)) (
  if (decide ((ix (ix d.2.2.1 i_1) k) < (0:Int)))=true then
  some (2:Int) else
  G (0<=i_1/\i_1 < (d.2.2.1.length:Int)) (
  G (0<=k/\k < ((ix d.2.2.1 i_1).length:Int)) (
  if (decide ((d.2.2.1.length:Int)<=(ix (ix d.2.2.1 i_1) k)))=true then
  some (2:Int) else
  G (fits (k+(1:Int))) (
  r19 (k+(1:Int))))))) else
  G (fits (i_1+(1:Int))) (
  r16 (i_1+(1:Int)))
def zkL (d:Tp11) (i_1:Int) (r16:(Int->Option (Int))):(Int->Option (Int))->Int->Option (Int):=
  fun rec x=>zbu d i_1 r16 (fun k=>rec k) x
def zd4 (d:Tp11) (i_1:Int) (r16:(Int->Option (Int))) (k:Int):Option (Int):=LFix (zkL d i_1 r16 ) k
def zbY (d:Tp11) (r24:Int->Option (Int)) (i_2:Int):Option (Int):=
  if (decide (i_2 < (d.2.2.1.length:Int)))=true then
  G (0<=i_2/\i_2 < (d.2.2.2.1.length:Int)) (
  if (decide (¬ (ix d.2.2.2.1 i_2)=(0:Int)))=true then
  G (0<=i_2/\i_2 < (d.2.2.2.1.length:Int)) (
  if (decide (¬ (ix d.2.2.2.1 i_2)=(1:Int)))=true then
  some (2:Int) else
  G (fits (i_2+(1:Int))) (
  r24 (i_2+(1:Int)))) else
  G (fits (i_2+(1:Int))) (
  r24 (i_2+(1:Int)))) else
  some (0:Int)
def zkM (d:Tp11):(Int->Option (Int))->Int->Option (Int):=
  fun rec x=>zbY d (fun i_2=>rec i_2) x
def zjF (d:Tp11) (i_2:Int):Option (Int):=LFix (zkM d ) i_2
def zbX (d:Tp11) (r16:Int->Option (Int)) (i_1:Int):Option (Int):=
  if (decide (i_1 < (d.2.2.1.length:Int)))=true then
  zd4 d i_1 r16 (0:Int) else
  zjF d (0:Int)
def zkK (d:Tp11):(Int->Option (Int))->Int->Option (Int):=
  fun rec x=>zbX d (fun i_1=>rec i_1) x
def zjE (d:Tp11) (i_1:Int):Option (Int):=LFix (zkK d ) i_1
def zcp (d:Tp11) (r9:Int->Option (Int)) (i:Int):Option (Int):=
  if (decide (i < (d.2.2.1.length:Int)))=true then
  G (0<=i/\i < (d.2.2.1.length:Int)) (
  if (decide (¬ ((ix d.2.2.1 i).length:Int)=d.1))=true then
  some (3:Int) else
  G (fits (i+(1:Int))) (
  r9 (i+(1:Int)))) else
  if (decide (d.2.1 < (0:Int)))=true then
  some (2:Int) else
  if (decide ((d.2.2.1.length:Int)<=d.2.1))=true then
  some (2:Int) else
  zjE d (0:Int)
def zmb (d:Tp11):(Int->Option (Int))->Int->Option (Int):=
  fun rec x=>zcp d (fun i=>rec i) x
def zlg (d:Tp11) (i:Int):Option (Int):=LFix (zmb d ) i
def zma (d:Tp11):Option (Int):=
  if (decide (d.1 < (1:Int)))=true then
  some (2:Int) else
  if (decide ((4:Int) < d.1))=true then
  some (2:Int) else
  if (decide ((d.2.2.1.length:Int) < (1:Int)))=true then
  some (1:Int) else
  if (decide ((3000:Int) < (d.2.2.1.length:Int)))=true then
  some (1:Int) else
  if (decide (¬ (d.2.2.2.1.length:Int)=(d.2.2.1.length:Int)))=true then
  some (3:Int) else
  zlg d (0:Int)
theorem zhM (r16:Nat->Int->Option (Int)) (r16':Int->Option (Int)) (h_r16:∀ a0,ChO (fun κ=>r16 κ a0) (r16' a0)) (r19:Nat->Int->Option (Int)) (r19':Int->Option (Int)) (h_r19:∀ a0,ChO (fun κ=>r19 κ a0) (r19' a0)) (d:Tp11) (i_1:Int) (k:Int):ChO (fun κ=>zbu d i_1 (r16 κ) (r19 κ) k) (zbu d i_1 r16' r19' k):=by
  unfold zbu
  repeat' with_reducible first | exact ChO.const _ | exact h_r16 _ | exact h_r19 _ | apply ChO.ite | apply ChO.G | apply ChO.both | (apply ChO.bind;intro _)
theorem zgc (r16:Int->Option (Int)) (d:Tp11) (i_1:Int):Cn (zkL d i_1 r16):=fun g h hg x=>zhM (fun _=>r16) r16 (fun _=>ChO.const _) (fun κ k=>g κ k) (fun k=>h k) (fun k=>hg k) d i_1 x
theorem zet (r16:Int->Option (Int)) (d:Tp11) (i_1:Int) (k:Int):zd4 d i_1 r16 k=zbu d i_1 r16 (zd4 d i_1 r16) k:=zam (zgc r16 d i_1) k
theorem zgb (r16:Nat->Int->Option (Int)) (r16':Int->Option (Int)) (h_r16:∀ a0,ChO (fun κ=>r16 κ a0) (r16' a0)) (d:Tp11) (i_1:Int) (k:Int):ChO (fun κ=>zd4 d i_1 (r16 κ) k) (zd4 d i_1 r16' k):=by
  unfold zd4
  exact zcE (fun κ=>(zgc (r16 κ) d i_1).mono) (zgc r16' d i_1).mono (fun g h hg x=>zhM r16 r16' h_r16 (fun κ k=>g κ k) (fun k=>h k) (fun k=>hg k) d i_1 x) _
theorem zm0 (r24:Nat->Int->Option (Int)) (r24':Int->Option (Int)) (h_r24:∀ a0,ChO (fun κ=>r24 κ a0) (r24' a0)) (d:Tp11) (i_2:Int):ChO (fun κ=>zbY d (r24 κ) i_2) (zbY d r24' i_2):=by
  unfold zbY
  repeat' with_reducible first | exact ChO.const _ | exact h_r24 _ | (apply zgb<;>assumption) | apply ChO.ite | apply ChO.G | apply ChO.both | (apply ChO.bind;intro _)
theorem zpm  (d:Tp11):Cn (zkM d):=fun g h hg x=>zm0  (fun κ i_2=>g κ i_2) (fun i_2=>h i_2) (fun i_2=>hg i_2) d x
theorem zgd  (d:Tp11) (i_2:Int):zjF d i_2=zbY d (zjF d) i_2:=zam (zpm d) i_2
theorem zmZ (r16:Nat->Int->Option (Int)) (r16':Int->Option (Int)) (h_r16:∀ a0,ChO (fun κ=>r16 κ a0) (r16' a0)) (d:Tp11) (i_1:Int):ChO (fun κ=>zbX d (r16 κ) i_1) (zbX d r16' i_1):=by
  unfold zbX
  repeat' with_reducible first | exact ChO.const _ | exact h_r16 _ | (apply zgb<;>assumption) | apply ChO.ite | apply ChO.G | apply ChO.both | (apply ChO.bind;intro _)
theorem zpl  (d:Tp11):Cn (zkK d):=fun g h hg x=>zmZ  (fun κ i_1=>g κ i_1) (fun i_1=>h i_1) (fun i_1=>hg i_1) d x
theorem zga  (d:Tp11) (i_1:Int):zjE d i_1=zbX d (zjE d) i_1:=zam (zpl d) i_1
theorem zn1 (r9:Nat->Int->Option (Int)) (r9':Int->Option (Int)) (h_r9:∀ a0,ChO (fun κ=>r9 κ a0) (r9' a0)) (d:Tp11) (i:Int):ChO (fun κ=>zcp d (r9 κ) i) (zcp d r9' i):=by
  unfold zcp
  repeat' with_reducible first | exact ChO.const _ | exact h_r9 _ | (apply zgb<;>assumption) | apply ChO.ite | apply ChO.G | apply ChO.both | (apply ChO.bind;intro _)
theorem zp0  (d:Tp11):Cn (zmb d):=fun g h hg x=>zn1  (fun κ i=>g κ i) (fun i=>h i) (fun i=>hg i) d x
theorem zhj  (d:Tp11) (i:Int):zlg d i=zcp d (zlg d) i:=zam (zp0 d) i

def zcw (q:Int) (next':Tp20) (r7:(Int->Int->Tp20->Tp20->Option Tp20)) (k_1:Int) (n_1:Int) (first_1:Tp20):Option Tp20:=
  G (0<=q/\q < (next'.length:Int)) (
  G ((q).toNat < next'.length) (
  G (fits (q+(1:Int))) (
  r7 n_1 (q+(1:Int)) (next'.set (q).toNat k_1) first_1)))
def zbv (n:Int) (q:Int) (next':Tp20) (first:Tp20) (r7:(Int->Int->Tp20->Tp20->Option Tp20)) (k_1:Int):Option Tp20:=
  if (decide (k_1=n))=true then
  G (room first ([q]) 8) (
  G (fits (n+(1:Int))) (
  zcw q next' r7 k_1 (n+(1:Int)) (first++([q])))) else
  zcw q next' r7 k_1 n first
def zbZ (n:Int) (q:Int) (next':Tp20) (first:Tp20) (r7:(Int->Int->Tp20->Tp20->Option Tp20)) (k:Int) (r10:(Int->Option Tp20)) (same_1:Bool):Option Tp20:=
  if same_1=true then
  zbv n q next' first r7 k else
  G (fits (k+(1:Int))) (
  r10 (k+(1:Int)))
def zbn (d:Tp11) (class':Tp20) (n:Int) (q:Int) (next':Tp20) (first:Tp20) (r7:(Int->Int->Tp20->Tp20->Option Tp20)) (k:Int) (r10:(Int->Option Tp20)) (r14:Bool->Int->Option Tp20) (same:Bool) (a:Int):Option Tp20:=
  if (decide (a < d.1))=true then
  if same=true then
  G (0<=ix first k/\ix first k < (d.2.2.1.length:Int)) (
  G (0<=a/\a < ((ix d.2.2.1 (ix first k)).length:Int)) (
  G (0<=ix (ix d.2.2.1 (ix first k)) a/\ix (ix d.2.2.1 (ix first k)) a < (class'.length:Int)) (
  G ((ix (ix d.2.2.1 (ix first k)) a).toNat < class'.length) (
  G (0<=q/\q < (d.2.2.1.length:Int)) (
  G (0<=a/\a < ((ix d.2.2.1 q).length:Int)) (
  G (0<=ix (ix d.2.2.1 q) a/\ix (ix d.2.2.1 q) a < (class'.length:Int)) (
  G ((ix (ix d.2.2.1 q) a).toNat < class'.length) (
  G (fits (a+(1:Int))) (
  r14 (decide ((ix class' (ix (ix d.2.2.1 (ix first k)) a))=(ix class' (ix (ix d.2.2.1 q) a)))) (a+(1:Int))))))))))) else
  zbZ n q next' first r7 k r10 same else
  zbZ n q next' first r7 k r10 same
def ziK (d:Tp11) (class':Tp20) (n:Int) (q:Int) (next':Tp20) (first:Tp20) (r7:(Int->Int->Tp20->Tp20->Option Tp20)) (k:Int) (r10:(Int->Option Tp20)):(Bool×Int->Option Tp20)->Bool×Int->Option Tp20:=
  fun rec x=>zbn d class' n q next' first r7 k r10 (fun same a=>rec (same,a)) x.1 x.2
def zb0 (d:Tp11) (class':Tp20) (n:Int) (q:Int) (next':Tp20) (first:Tp20) (r7:(Int->Int->Tp20->Tp20->Option Tp20)) (k:Int) (r10:(Int->Option Tp20)) (same:Bool) (a:Int):Option Tp20:=LFix (ziK d class' n q next' first r7 k r10 ) (same,a)
def zbH (d:Tp11) (class':Tp20) (n:Int) (q:Int) (next':Tp20) (first:Tp20) (r7:(Int->Int->Tp20->Tp20->Option Tp20)) (r10:Int->Option Tp20) (k:Int):Option Tp20:=
  if (decide (k < n))=true then
  G (0<=k/\k < (first.length:Int)) (
  G ((k).toNat < first.length) (
  G (0<=ix first k/\ix first k < (class'.length:Int)) (
  G ((ix first k).toNat < class'.length) (
  G (0<=q/\q < (class'.length:Int)) (
  G ((q).toNat < class'.length) (
  zb0 d class' n q next' first r7 k r10 (decide ((ix class' (ix first k))=(ix class' q))) (0:Int))))))) else
  zbv n q next' first r7 k
def ziJ (d:Tp11) (class':Tp20) (n:Int) (q:Int) (next':Tp20) (first:Tp20) (r7:(Int->Int->Tp20->Tp20->Option Tp20)):(Int->Option Tp20)->Int->Option Tp20:=
  fun rec x=>zbH d class' n q next' first r7 (fun k=>rec k) x
def zbw (d:Tp11) (class':Tp20) (n:Int) (q:Int) (next':Tp20) (first:Tp20) (r7:(Int->Int->Tp20->Tp20->Option Tp20)) (k:Int):Option Tp20:=LFix (ziJ d class' n q next' first r7 ) k
def zca (d:Tp11) (count:Int) (class':Tp20) (r3:(Int->Tp20->Option Tp20)) (r7:Tf19) (n:Int) (q:Int) (next':Tp20) (first:Tp20):Option Tp20:=
  if (decide (q < (class'.length:Int)))=true then
  zbw d class' n q next' first r7 (0:Int) else
  if (decide (n=count))=true then
  some next' else
  r3 n next'
def zjH (d:Tp11) (count:Int) (class':Tp20) (r3:(Int->Tp20->Option Tp20)):(Int×Int×Tp20×Tp20->Option Tp20)->Int×Int×Tp20×Tp20->Option Tp20:=
  fun rec x=>zca d count class' r3 (fun n q next' first=>rec (n,q,next',first)) x.1 x.2.1 x.2.2.1 x.2.2.2
def zcq (d:Tp11) (count:Int) (class':Tp20) (r3:(Int->Tp20->Option Tp20)) (n:Int) (q:Int) (next':Tp20) (first:Tp20):Option Tp20:=LFix (zjH d count class' r3 ) (n,q,next',first)
def zcJ (d:Tp11) (r3:Int->Tp20->Option Tp20) (count:Int) (class':Tp20):Option Tp20:=
  G (mkOK (class'.length:Int) (class'.length:Int) 8) (
  zcq d count class' r3 (0:Int) (0:Int) (List.replicate ((class'.length:Int)).toNat (0:Int)) ([]))
def zjG (d:Tp11):(Int×Tp20->Option Tp20)->Int×Tp20->Option Tp20:=
  fun rec x=>zcJ d (fun count class'=>rec (count,class')) x.1 x.2
def zdn (d:Tp11) (count:Int) (class':Tp20):Option Tp20:=LFix (zjG d ) (count,class')
def zkh (d:Tp11):Option Tp20:=
  G (room ([]:List Int) d.2.2.2.1 8) (
  zdn d (0:Int) (([]:List Int)++d.2.2.2.1))
theorem zb6 (r7:Nat->Tf19) (r7':Tf19) (h_r7:∀ a0 a1 a2 a3,ChO (fun κ=>r7 κ a0 a1 a2 a3) (r7' a0 a1 a2 a3)) (q:Int) (next':Tp20) (k_1:Int) (n_1:Int) (first_1:Tp20):ChO (fun κ=>zcw q next' (r7 κ) k_1 n_1 first_1) (zcw q next' r7' k_1 n_1 first_1):=by
  unfold zcw
  repeat' with_reducible first | exact ChO.const _ | exact h_r7 _ _ _ _ | apply ChO.ite | apply ChO.G | apply ChO.both | (apply ChO.bind;intro _)
theorem zcI (r7:Nat->Tf19) (r7':Tf19) (h_r7:∀ a0 a1 a2 a3,ChO (fun κ=>r7 κ a0 a1 a2 a3) (r7' a0 a1 a2 a3)) (n:Int) (q:Int) (next':Tp20) (first:Tp20) (k_1:Int):ChO (fun κ=>zbv n q next' first (r7 κ) k_1) (zbv n q next' first r7' k_1):=by
  unfold zbv
  repeat' with_reducible first | exact ChO.const _ | exact h_r7 _ _ _ _ | (apply zb6<;>assumption) | apply ChO.ite | apply ChO.G | apply ChO.both | (apply ChO.bind;intro _)
theorem zdm (r7:Nat->Tf19) (r7':Tf19) (h_r7:∀ a0 a1 a2 a3,ChO (fun κ=>r7 κ a0 a1 a2 a3) (r7' a0 a1 a2 a3)) (r10:Nat->Int->Option Tp20) (r10':Int->Option Tp20) (h_r10:∀ a0,ChO (fun κ=>r10 κ a0) (r10' a0)) (n:Int) (q:Int) (next':Tp20) (first:Tp20) (k:Int) (same_1:Bool):ChO (fun κ=>zbZ n q next' first (r7 κ) k (r10 κ) same_1) (zbZ n q next' first r7' k r10' same_1):=by
  unfold zbZ
  repeat' with_reducible first | exact ChO.const _ | exact h_r7 _ _ _ _ | exact h_r10 _ | (apply zb6<;>assumption) | (apply zcI<;>assumption) | apply ChO.ite | apply ChO.G | apply ChO.both | (apply ChO.bind;intro _)
theorem zgf (r7:Nat->Tf19) (r7':Tf19) (h_r7:∀ a0 a1 a2 a3,ChO (fun κ=>r7 κ a0 a1 a2 a3) (r7' a0 a1 a2 a3)) (r10:Nat->Int->Option Tp20) (r10':Int->Option Tp20) (h_r10:∀ a0,ChO (fun κ=>r10 κ a0) (r10' a0)) (r14:Nat->Bool->Int->Option Tp20) (r14':Bool->Int->Option Tp20) (h_r14:∀ a0 a1,ChO (fun κ=>r14 κ a0 a1) (r14' a0 a1)) (d:Tp11) (class':Tp20) (n:Int) (q:Int) (next':Tp20) (first:Tp20) (k:Int) (same:Bool) (a:Int):ChO (fun κ=>zbn d class' n q next' first (r7 κ) k (r10 κ) (r14 κ) same a) (zbn d class' n q next' first r7' k r10' r14' same a):=by
  unfold zbn
  repeat' with_reducible first | exact ChO.const _ | exact h_r7 _ _ _ _ | exact h_r10 _ | exact h_r14 _ _ | (apply zb6<;>assumption) | (apply zcI<;>assumption) | (apply zdm<;>assumption) | apply ChO.ite | apply ChO.G | apply ChO.both | (apply ChO.bind;intro _)
theorem zeX (r7:Tf19) (r10:Int->Option Tp20) (d:Tp11) (class':Tp20) (n:Int) (q:Int) (next':Tp20) (first:Tp20) (k:Int):Cn (ziK d class' n q next' first r7 k r10):=fun g h hg x=>zgf (fun _=>r7) r7 (fun _ _ _ _=>ChO.const _) (fun _=>r10) r10 (fun _=>ChO.const _) (fun κ same a=>g κ (same,a)) (fun same a=>h (same,a)) (fun same a=>hg (same,a)) d class' n q next' first k x.1 x.2
theorem zeY (r7:Tf19) (r10:Int->Option Tp20) (d:Tp11) (class':Tp20) (n:Int) (q:Int) (next':Tp20) (first:Tp20) (k:Int) (same:Bool) (a:Int):zb0 d class' n q next' first r7 k r10 same a=zbn d class' n q next' first r7 k r10 (zb0 d class' n q next' first r7 k r10) same a:=zam (zeX r7 r10 d class' n q next' first k) (same,a)
theorem zeW (r7:Nat->Tf19) (r7':Tf19) (h_r7:∀ a0 a1 a2 a3,ChO (fun κ=>r7 κ a0 a1 a2 a3) (r7' a0 a1 a2 a3)) (r10:Nat->Int->Option Tp20) (r10':Int->Option Tp20) (h_r10:∀ a0,ChO (fun κ=>r10 κ a0) (r10' a0)) (d:Tp11) (class':Tp20) (n:Int) (q:Int) (next':Tp20) (first:Tp20) (k:Int) (same:Bool) (a:Int):ChO (fun κ=>zb0 d class' n q next' first (r7 κ) k (r10 κ) same a) (zb0 d class' n q next' first r7' k r10' same a):=by
  unfold zb0
  exact zcE (fun κ=>(zeX (r7 κ) (r10 κ) d class' n q next' first k).mono) (zeX r7' r10' d class' n q next' first k).mono (fun g h hg x=>zgf r7 r7' h_r7 r10 r10' h_r10 (fun κ same a=>g κ (same,a)) (fun same a=>h (same,a)) (fun same a=>hg (same,a)) d class' n q next' first k x.1 x.2) _
theorem zge (r7:Nat->Tf19) (r7':Tf19) (h_r7:∀ a0 a1 a2 a3,ChO (fun κ=>r7 κ a0 a1 a2 a3) (r7' a0 a1 a2 a3)) (r10:Nat->Int->Option Tp20) (r10':Int->Option Tp20) (h_r10:∀ a0,ChO (fun κ=>r10 κ a0) (r10' a0)) (d:Tp11) (class':Tp20) (n:Int) (q:Int) (next':Tp20) (first:Tp20) (k:Int):ChO (fun κ=>zbH d class' n q next' first (r7 κ) (r10 κ) k) (zbH d class' n q next' first r7' r10' k):=by
  unfold zbH
  repeat' with_reducible first | exact ChO.const _ | exact h_r7 _ _ _ _ | exact h_r10 _ | (apply zb6<;>assumption) | (apply zcI<;>assumption) | (apply zdm<;>assumption) | (apply zeW<;>assumption) | apply ChO.ite | apply ChO.G | apply ChO.both | (apply ChO.bind;intro _)
theorem zeV (r7:Tf19) (d:Tp11) (class':Tp20) (n:Int) (q:Int) (next':Tp20) (first:Tp20):Cn (ziJ d class' n q next' first r7):=fun g h hg x=>zge (fun _=>r7) r7 (fun _ _ _ _=>ChO.const _) (fun κ k=>g κ k) (fun k=>h k) (fun k=>hg k) d class' n q next' first x
theorem zhO (r7:Tf19) (d:Tp11) (class':Tp20) (n:Int) (q:Int) (next':Tp20) (first:Tp20) (k:Int):zbw d class' n q next' first r7 k=zbH d class' n q next' first r7 (zbw d class' n q next' first r7) k:=zam (zeV r7 d class' n q next' first) k
theorem zhN (r7:Nat->Tf19) (r7':Tf19) (h_r7:∀ a0 a1 a2 a3,ChO (fun κ=>r7 κ a0 a1 a2 a3) (r7' a0 a1 a2 a3)) (d:Tp11) (class':Tp20) (n:Int) (q:Int) (next':Tp20) (first:Tp20) (k:Int):ChO (fun κ=>zbw d class' n q next' first (r7 κ) k) (zbw d class' n q next' first r7' k):=by
  unfold zbw
  exact zcE (fun κ=>(zeV (r7 κ) d class' n q next' first).mono) (zeV r7' d class' n q next' first).mono (fun g h hg x=>zge r7 r7' h_r7 (fun κ k=>g κ k) (fun k=>h k) (fun k=>hg k) d class' n q next' first x) _
theorem zgR (r3:Nat->Int->Tp20->Option Tp20) (r3':Int->Tp20->Option Tp20) (h_r3:∀ a0 a1,ChO (fun κ=>r3 κ a0 a1) (r3' a0 a1)) (r7:Nat->Tf19) (r7':Tf19) (h_r7:∀ a0 a1 a2 a3,ChO (fun κ=>r7 κ a0 a1 a2 a3) (r7' a0 a1 a2 a3)) (d:Tp11) (count:Int) (class':Tp20) (n:Int) (q:Int) (next':Tp20) (first:Tp20):ChO (fun κ=>zca d count class' (r3 κ) (r7 κ) n q next' first) (zca d count class' r3' r7' n q next' first):=by
  unfold zca
  repeat' with_reducible first | exact ChO.const _ | exact h_r3 _ _ | exact h_r7 _ _ _ _ | (apply zb6<;>assumption) | (apply zcI<;>assumption) | (apply zdm<;>assumption) | (apply zeW<;>assumption) | (apply zhN<;>assumption) | apply ChO.ite | apply ChO.G | apply ChO.both | (apply ChO.bind;intro _)
theorem zfr (r3:Int->Tp20->Option Tp20) (d:Tp11) (count:Int) (class':Tp20):Cn (zjH d count class' r3):=fun g h hg x=>zgR (fun _=>r3) r3 (fun _ _=>ChO.const _) (fun κ n q next' first=>g κ (n,q,next',first)) (fun n q next' first=>h (n,q,next',first)) (fun n q next' first=>hg (n,q,next',first)) d count class' x.1 x.2.1 x.2.2.1 x.2.2.2
theorem ziL (r3:Int->Tp20->Option Tp20) (d:Tp11) (count:Int) (class':Tp20) (n:Int) (q:Int) (next':Tp20) (first:Tp20):zcq d count class' r3 n q next' first=zca d count class' r3 (zcq d count class' r3) n q next' first:=zam (zfr r3 d count class') (n,q,next',first)
theorem zn4 (r3:Nat->Int->Tp20->Option Tp20) (r3':Int->Tp20->Option Tp20) (h_r3:∀ a0 a1,ChO (fun κ=>r3 κ a0 a1) (r3' a0 a1)) (d:Tp11) (count:Int) (class':Tp20) (n:Int) (q:Int) (next':Tp20) (first:Tp20):ChO (fun κ=>zcq d count class' (r3 κ) n q next' first) (zcq d count class' r3' n q next' first):=by
  unfold zcq
  exact zcE (fun κ=>(zfr (r3 κ) d count class').mono) (zfr r3' d count class').mono (fun g h hg x=>zgR r3 r3' h_r3 (fun κ n q next' first=>g κ (n,q,next',first)) (fun n q next' first=>h (n,q,next',first)) (fun n q next' first=>hg (n,q,next',first)) d count class' x.1 x.2.1 x.2.2.1 x.2.2.2) _
theorem zmc (r3:Nat->Int->Tp20->Option Tp20) (r3':Int->Tp20->Option Tp20) (h_r3:∀ a0 a1,ChO (fun κ=>r3 κ a0 a1) (r3' a0 a1)) (d:Tp11) (count:Int) (class':Tp20):ChO (fun κ=>zcJ d (r3 κ) count class') (zcJ d r3' count class'):=by
  unfold zcJ
  repeat' with_reducible first | exact ChO.const _ | exact h_r3 _ _ | (apply zb6<;>assumption) | (apply zcI<;>assumption) | (apply zdm<;>assumption) | (apply zeW<;>assumption) | (apply zhN<;>assumption) | (apply zn4<;>assumption) | apply ChO.ite | apply ChO.G | apply ChO.both | (apply ChO.bind;intro _)
theorem zn2  (d:Tp11):Cn (zjG d):=fun g h hg x=>zmc  (fun κ count class'=>g κ (count,class')) (fun count class'=>h (count,class')) (fun count class'=>hg (count,class')) d x.1 x.2
theorem zn3  (d:Tp11) (count:Int) (class':Tp20):zdn d count class'=zcJ d (zdn d) count class':=zam (zn2 d) (count,class')

def zd5 (d:Tp11) (y':Tp20) (i_1:Int) (a:Int) (row_1:Tp20) (next':Tp20) (r15:(Int->Tp20->Tp20->Tp20->Option Tp11)) (number_3:Tp20) (row_2:Tp20):Option Tp11:=
  G (0<=ix (ix d.2.2.1 (ix row_1 i_1)) a/\ix (ix d.2.2.1 (ix row_1 i_1)) a < (y'.length:Int)) (
  G ((ix (ix d.2.2.1 (ix row_1 i_1)) a).toNat < y'.length) (
  G (0<=ix y' (ix (ix d.2.2.1 (ix row_1 i_1)) a)/\ix y' (ix (ix d.2.2.1 (ix row_1 i_1)) a) < (number_3.length:Int)) (
  G ((ix y' (ix (ix d.2.2.1 (ix row_1 i_1)) a)).toNat < number_3.length) (
  G (0<=a/\a < (next'.length:Int)) (
  G ((a).toNat < next'.length) (
  G (fits (a+(1:Int))) (
  r15 (a+(1:Int)) number_3 row_2 (next'.set (a).toNat (ix number_3 (ix y' (ix (ix d.2.2.1 (ix row_1 i_1)) a)))))))))))
def zcx (d:Tp11) (y':Tp20) (i_1:Int) (out:Int) (out_1:Int) (out_2:Tp19) (out_3:Tp20) (r11:(Int->Tp20->Tp20->Int->Int->Tp19->Tp20->Option Tp11)) (r15:Tf18) (a:Int) (number_2:Tp20) (row_1:Tp20) (next':Tp20):Option Tp11:=
  if (decide (a < d.1))=true then
  G (0<=i_1/\i_1 < (row_1.length:Int)) (
  G ((i_1).toNat < row_1.length) (
  G (0<=ix row_1 i_1/\ix row_1 i_1 < (d.2.2.1.length:Int)) (
  G (0<=a/\a < ((ix d.2.2.1 (ix row_1 i_1)).length:Int)) (
  G (0<=ix (ix d.2.2.1 (ix row_1 i_1)) a/\ix (ix d.2.2.1 (ix row_1 i_1)) a < (y'.length:Int)) (
  G ((ix (ix d.2.2.1 (ix row_1 i_1)) a).toNat < y'.length) (
  G (0<=ix y' (ix (ix d.2.2.1 (ix row_1 i_1)) a)/\ix y' (ix (ix d.2.2.1 (ix row_1 i_1)) a) < (number_2.length:Int)) (
  G ((ix y' (ix (ix d.2.2.1 (ix row_1 i_1)) a)).toNat < number_2.length) (
  if (decide ((ix number_2 (ix y' (ix (ix d.2.2.1 (ix row_1 i_1)) a))) < (0:Int)))=true then
  G (0<=ix (ix d.2.2.1 (ix row_1 i_1)) a/\ix (ix d.2.2.1 (ix row_1 i_1)) a < (y'.length:Int)) (
  G ((ix (ix d.2.2.1 (ix row_1 i_1)) a).toNat < y'.length) (
  G (0<=ix y' (ix (ix d.2.2.1 (ix row_1 i_1)) a)/\ix y' (ix (ix d.2.2.1 (ix row_1 i_1)) a) < (number_2.length:Int)) (
  G ((ix y' (ix (ix d.2.2.1 (ix row_1 i_1)) a)).toNat < number_2.length) (
  G (room row_1 ([ix (ix d.2.2.1 (ix row_1 i_1)) a]) 8) (
  zd5 d y' i_1 a row_1 next' r15 (number_2.set (ix y' (ix (ix d.2.2.1 (ix row_1 i_1)) a)).toNat (row_1.length:Int)) (row_1++([ix (ix d.2.2.1 (ix row_1 i_1)) a]))))))) else
  zd5 d y' i_1 a row_1 next' r15 number_2 row_1)))))))) else
  G (room out_2 ([next']) 24) (
  G (0<=i_1/\i_1 < (row_1.length:Int)) (
  G ((i_1).toNat < row_1.length) (
  G (0<=ix row_1 i_1/\ix row_1 i_1 < (d.2.2.2.1.length:Int)) (
  G (room out_3 ([ix d.2.2.2.1 (ix row_1 i_1)]) 8) (
  G (fits (i_1+(1:Int))) (
  r11 (i_1+(1:Int)) number_2 row_1 out out_1 (out_2++([next'])) (out_3++([ix d.2.2.2.1 (ix row_1 i_1)]))))))))
def zkQ (d:Tp11) (y':Tp20) (i_1:Int) (out:Int) (out_1:Int) (out_2:Tp19) (out_3:Tp20) (r11:(Int->Tp20->Tp20->Int->Int->Tp19->Tp20->Option Tp11)):(Int×Tp20×Tp20×Tp20->Option Tp11)->Int×Tp20×Tp20×Tp20->Option Tp11:=
  fun rec x=>zcx d y' i_1 out out_1 out_2 out_3 r11 (fun a number_2 row_1 next'=>rec (a,number_2,row_1,next')) x.1 x.2.1 x.2.2.1 x.2.2.2
def zb1 (d:Tp11) (y':Tp20) (i_1:Int) (out:Int) (out_1:Int) (out_2:Tp19) (out_3:Tp20) (r11:(Int->Tp20->Tp20->Int->Int->Tp19->Tp20->Option Tp11)) (a:Int) (number_2:Tp20) (row_1:Tp20) (next':Tp20):Option Tp11:=LFix (zkQ d y' i_1 out out_1 out_2 out_3 r11 ) (a,number_2,row_1,next')
def zc0 (d:Tp11) (y':Tp20) (r11:Tf4) (i_1:Int) (number_1:Tp20) (row:Tp20) (out:Int) (out_1:Int) (out_2:Tp19) (out_3:Tp20):Option Tp11:=
  if (decide (i_1 < (row.length:Int)))=true then
  G (mkOK d.1 d.1 8) (
  zb1 d y' i_1 out out_1 out_2 out_3 r11 (0:Int) number_1 row (List.replicate (d.1).toNat (0:Int))) else
  some (out,(out_1,(out_2,(out_3,()))))
def zkP (d:Tp11) (y':Tp20):(Int×Tp20×Tp20×Int×Int×Tp19×Tp20->Option Tp11)->Int×Tp20×Tp20×Int×Int×Tp19×Tp20->Option Tp11:=
  fun rec x=>zc0 d y' (fun i_1 number_1 row out out_1 out_2 out_3=>rec (i_1,number_1,row,out,out_1,out_2,out_3)) x.1 x.2.1 x.2.2.1 x.2.2.2.1 x.2.2.2.2.1 x.2.2.2.2.2.1 x.2.2.2.2.2.2
def zfe (d:Tp11) (y':Tp20) (i_1:Int) (number_1:Tp20) (row:Tp20) (out:Int) (out_1:Int) (out_2:Tp19) (out_3:Tp20):Option Tp11:=LFix (zkP d y' ) (i_1,number_1,row,out,out_1,out_2,out_3)
def zcQ (d:Tp11) (y':Tp20) (r4:Int->Tp20->Option Tp11) (i:Int) (number:Tp20):Option Tp11:=
  if (decide (i < (number.length:Int)))=true then
  G (0<=i/\i < (number.length:Int)) (
  G ((i).toNat < number.length) (
  G (fits (i+(1:Int))) (
  r4 (i+(1:Int)) (number.set (i).toNat (-1:Int))))) else
  G (0<=d.2.1/\d.2.1 < (y'.length:Int)) (
  G ((d.2.1).toNat < y'.length) (
  G (0<=ix y' d.2.1/\ix y' d.2.1 < (number.length:Int)) (
  G ((ix y' d.2.1).toNat < number.length) (
  zfe d y' (0:Int) (number.set (ix y' d.2.1).toNat (0:Int)) ([d.2.1]) d.1 (0:Int) ([]:List Tp20) ([]:List Int)))))
def zmf (d:Tp11) (y':Tp20):(Int×Tp20->Option Tp11)->Int×Tp20->Option Tp11:=
  fun rec x=>zcQ d y' (fun i number=>rec (i,number)) x.1 x.2
def zdW (d:Tp11) (y':Tp20) (i:Int) (number:Tp20):Option Tp11:=LFix (zmf d y' ) (i,number)
def zme (d:Tp11):Option Tp11:=
  (zkh (d.1,(d.2.1,(d.2.2.1,(d.2.2.2.1,()))))).bind (fun y'=>
  G (mkOK (y'.length:Int) (y'.length:Int) 8) (
  zdW d y' (0:Int) (List.replicate ((y'.length:Int)).toNat (0:Int))))
theorem zgg (r15:Nat->Tf18) (r15':Tf18) (h_r15:∀ a0 a1 a2 a3,ChO (fun κ=>r15 κ a0 a1 a2 a3) (r15' a0 a1 a2 a3)) (d:Tp11) (y':Tp20) (i_1:Int) (a:Int) (row_1:Tp20) (next':Tp20) (number_3:Tp20) (row_2:Tp20):ChO (fun κ=>zd5 d y' i_1 a row_1 next' (r15 κ) number_3 row_2) (zd5 d y' i_1 a row_1 next' r15' number_3 row_2):=by
  unfold zd5
  repeat' with_reducible first | exact ChO.const _ | exact h_r15 _ _ _ _ | apply ChO.ite | apply ChO.G | apply ChO.both | (apply ChO.bind;intro _)
theorem zhP (r11:Nat->Tf4) (r11':Tf4) (h_r11:∀ a0 a1 a2 a3 a4 a5 a6,ChO (fun κ=>r11 κ a0 a1 a2 a3 a4 a5 a6) (r11' a0 a1 a2 a3 a4 a5 a6)) (r15:Nat->Tf18) (r15':Tf18) (h_r15:∀ a0 a1 a2 a3,ChO (fun κ=>r15 κ a0 a1 a2 a3) (r15' a0 a1 a2 a3)) (d:Tp11) (y':Tp20) (i_1:Int) (out:Int) (out_1:Int) (out_2:Tp19) (out_3:Tp20) (a:Int) (number_2:Tp20) (row_1:Tp20) (next':Tp20):ChO (fun κ=>zcx d y' i_1 out out_1 out_2 out_3 (r11 κ) (r15 κ) a number_2 row_1 next') (zcx d y' i_1 out out_1 out_2 out_3 r11' r15' a number_2 row_1 next'):=by
  unfold zcx
  repeat' with_reducible first | exact ChO.const _ | exact h_r11 _ _ _ _ _ _ _ | exact h_r15 _ _ _ _ | (apply zgg<;>assumption) | apply ChO.ite | apply ChO.G | apply ChO.both | (apply ChO.bind;intro _)
theorem zgh (r11:Tf4) (d:Tp11) (y':Tp20) (i_1:Int) (out:Int) (out_1:Int) (out_2:Tp19) (out_3:Tp20):Cn (zkQ d y' i_1 out out_1 out_2 out_3 r11):=fun g h hg x=>zhP (fun _=>r11) r11 (fun _ _ _ _ _ _ _=>ChO.const _) (fun κ a number_2 row_1 next'=>g κ (a,number_2,row_1,next')) (fun a number_2 row_1 next'=>h (a,number_2,row_1,next')) (fun a number_2 row_1 next'=>hg (a,number_2,row_1,next')) d y' i_1 out out_1 out_2 out_3 x.1 x.2.1 x.2.2.1 x.2.2.2
theorem zjJ (r11:Tf4) (d:Tp11) (y':Tp20) (i_1:Int) (out:Int) (out_1:Int) (out_2:Tp19) (out_3:Tp20) (a:Int) (number_2:Tp20) (row_1:Tp20) (next':Tp20):zb1 d y' i_1 out out_1 out_2 out_3 r11 a number_2 row_1 next'=zcx d y' i_1 out out_1 out_2 out_3 r11 (zb1 d y' i_1 out out_1 out_2 out_3 r11) a number_2 row_1 next':=zam (zgh r11 d y' i_1 out out_1 out_2 out_3) (a,number_2,row_1,next')
theorem zjI (r11:Nat->Tf4) (r11':Tf4) (h_r11:∀ a0 a1 a2 a3 a4 a5 a6,ChO (fun κ=>r11 κ a0 a1 a2 a3 a4 a5 a6) (r11' a0 a1 a2 a3 a4 a5 a6)) (d:Tp11) (y':Tp20) (i_1:Int) (out:Int) (out_1:Int) (out_2:Tp19) (out_3:Tp20) (a:Int) (number_2:Tp20) (row_1:Tp20) (next':Tp20):ChO (fun κ=>zb1 d y' i_1 out out_1 out_2 out_3 (r11 κ) a number_2 row_1 next') (zb1 d y' i_1 out out_1 out_2 out_3 r11' a number_2 row_1 next'):=by
  unfold zb1
  exact zcE (fun κ=>(zgh (r11 κ) d y' i_1 out out_1 out_2 out_3).mono) (zgh r11' d y' i_1 out out_1 out_2 out_3).mono (fun g h hg x=>zhP r11 r11' h_r11 (fun κ a number_2 row_1 next'=>g κ (a,number_2,row_1,next')) (fun a number_2 row_1 next'=>h (a,number_2,row_1,next')) (fun a number_2 row_1 next'=>hg (a,number_2,row_1,next')) d y' i_1 out out_1 out_2 out_3 x.1 x.2.1 x.2.2.1 x.2.2.2) _
theorem zm2 (r11:Nat->Tf4) (r11':Tf4) (h_r11:∀ a0 a1 a2 a3 a4 a5 a6,ChO (fun κ=>r11 κ a0 a1 a2 a3 a4 a5 a6) (r11' a0 a1 a2 a3 a4 a5 a6)) (d:Tp11) (y':Tp20) (i_1:Int) (number_1:Tp20) (row:Tp20) (out:Int) (out_1:Int) (out_2:Tp19) (out_3:Tp20):ChO (fun κ=>zc0 d y' (r11 κ) i_1 number_1 row out out_1 out_2 out_3) (zc0 d y' r11' i_1 number_1 row out out_1 out_2 out_3):=by
  unfold zc0
  repeat' with_reducible first | exact ChO.const _ | exact h_r11 _ _ _ _ _ _ _ | (apply zgg<;>assumption) | (apply zjI<;>assumption) | apply ChO.ite | apply ChO.G | apply ChO.both | (apply ChO.bind;intro _)
theorem zpp  (d:Tp11) (y':Tp20):Cn (zkP d y'):=fun g h hg x=>zm2  (fun κ i_1 number_1 row out out_1 out_2 out_3=>g κ (i_1,number_1,row,out,out_1,out_2,out_3)) (fun i_1 number_1 row out out_1 out_2 out_3=>h (i_1,number_1,row,out,out_1,out_2,out_3)) (fun i_1 number_1 row out out_1 out_2 out_3=>hg (i_1,number_1,row,out,out_1,out_2,out_3)) d y' x.1 x.2.1 x.2.2.1 x.2.2.2.1 x.2.2.2.2.1 x.2.2.2.2.2.1 x.2.2.2.2.2.2
theorem zpq  (d:Tp11) (y':Tp20) (i_1:Int) (number_1:Tp20) (row:Tp20) (out:Int) (out_1:Int) (out_2:Tp19) (out_3:Tp20):zfe d y' i_1 number_1 row out out_1 out_2 out_3=zc0 d y' (zfe d y') i_1 number_1 row out out_1 out_2 out_3:=zam (zpp d y') (i_1,number_1,row,out,out_1,out_2,out_3)
theorem zn5 (r4:Nat->Int->Tp20->Option Tp11) (r4':Int->Tp20->Option Tp11) (h_r4:∀ a0 a1,ChO (fun κ=>r4 κ a0 a1) (r4' a0 a1)) (d:Tp11) (y':Tp20) (i:Int) (number:Tp20):ChO (fun κ=>zcQ d y' (r4 κ) i number) (zcQ d y' r4' i number):=by
  unfold zcQ
  repeat' with_reducible first | exact ChO.const _ | exact h_r4 _ _ | (apply zgg<;>assumption) | (apply zjI<;>assumption) | apply ChO.ite | apply ChO.G | apply ChO.both | (apply ChO.bind;intro _)
theorem zp1  (d:Tp11) (y':Tp20):Cn (zmf d y'):=fun g h hg x=>zn5  (fun κ i number=>g κ (i,number)) (fun i number=>h (i,number)) (fun i number=>hg (i,number)) d y' x.1 x.2
theorem zkR  (d:Tp11) (y':Tp20) (i:Int) (number:Tp20):zdW d y' i number=zcQ d y' (zdW d y') i number:=zam (zp1 d y') (i,number)

def zcR (a:Tp11) (b:Tp11) (i_1:Int) (r9:(Int->Option (Bool))) (r14:Int->Option (Bool)) (k:Int):Option (Bool):=
  G (0<=i_1/\i_1 < (a.2.2.1.length:Int)) (
  if (decide (k < ((ix a.2.2.1 i_1).length:Int)))=true then
  G (0<=i_1/\i_1 < (a.2.2.1.length:Int)) (
  G (0<=k/\k < ((ix a.2.2.1 i_1).length:Int)) (
  G (0<=i_1/\i_1 < (b.2.2.1.length:Int)) (
  G (0<=k/\k < ((ix b.2.2.1 i_1).length:Int)) (
  if (decide (¬ (ix (ix a.2.2.1 i_1) k)=(ix (ix b.2.2.1 i_1) k)))=true then
  some false else
  G (fits (k+(1:Int))) (
  r14 (k+(1:Int))))))) else
  G (fits (i_1+(1:Int))) (
  r9 (i_1+(1:Int))))
def zmg (a:Tp11) (b:Tp11) (i_1:Int) (r9:(Int->Option (Bool))):(Int->Option (Bool))->Int->Option (Bool):=
  fun rec x=>zcR a b i_1 r9 (fun k=>rec k) x
def zdX (a:Tp11) (b:Tp11) (i_1:Int) (r9:(Int->Option (Bool))) (k:Int):Option (Bool):=LFix (zmg a b i_1 r9 ) k
def zda (a:Tp11) (b:Tp11) (r9:Int->Option (Bool)) (i_1:Int):Option (Bool):=
  if (decide (i_1 < (a.2.2.1.length:Int)))=true then
  G (0<=i_1/\i_1 < (a.2.2.1.length:Int)) (
  G (0<=i_1/\i_1 < (b.2.2.1.length:Int)) (
  if (decide (¬ ((ix a.2.2.1 i_1).length:Int)=((ix b.2.2.1 i_1).length:Int)))=true then
  some false else
  zdX a b i_1 r9 (0:Int))) else
  some true
def znH (a:Tp11) (b:Tp11):(Int->Option (Bool))->Int->Option (Bool):=
  fun rec x=>zda a b (fun i_1=>rec i_1) x
def zkj (a:Tp11) (b:Tp11) (i_1:Int):Option (Bool):=LFix (znH a b ) i_1
def zc9 (a:Tp11) (b:Tp11) (r4:Int->Option (Bool)) (i:Int):Option (Bool):=
  if (decide (i < (a.2.2.2.1.length:Int)))=true then
  G (0<=i/\i < (a.2.2.2.1.length:Int)) (
  G (0<=i/\i < (b.2.2.2.1.length:Int)) (
  if (decide (¬ (ix a.2.2.2.1 i)=(ix b.2.2.2.1 i)))=true then
  some false else
  G (fits (i+(1:Int))) (
  r4 (i+(1:Int))))) else
  zkj a b (0:Int)
def znG (a:Tp11) (b:Tp11):(Int->Option (Bool))->Int->Option (Bool):=
  fun rec x=>zc9 a b (fun i=>rec i) x
def zki (a:Tp11) (b:Tp11) (i:Int):Option (Bool):=LFix (znG a b ) i
def zps (a:Tp11) (b:Tp11):Option (Bool):=
  if (decide (¬ a.1=b.1))=true then
  some false else
  if (decide (¬ a.2.1=b.2.1))=true then
  some false else
  if (decide (¬ (a.2.2.1.length:Int)=(b.2.2.1.length:Int)))=true then
  some false else
  if (decide (¬ (a.2.2.2.1.length:Int)=(b.2.2.2.1.length:Int)))=true then
  some false else
  zki a b (0:Int)
theorem ziM (r9:Nat->Int->Option (Bool)) (r9':Int->Option (Bool)) (h_r9:∀ a0,ChO (fun κ=>r9 κ a0) (r9' a0)) (r14:Nat->Int->Option (Bool)) (r14':Int->Option (Bool)) (h_r14:∀ a0,ChO (fun κ=>r14 κ a0) (r14' a0)) (a:Tp11) (b:Tp11) (i_1:Int) (k:Int):ChO (fun κ=>zcR a b i_1 (r9 κ) (r14 κ) k) (zcR a b i_1 r9' r14' k):=by
  unfold zcR
  repeat' with_reducible first | exact ChO.const _ | exact h_r9 _ | exact h_r14 _ | apply ChO.ite | apply ChO.G | apply ChO.both | (apply ChO.bind;intro _)
theorem zhk (r9:Int->Option (Bool)) (a:Tp11) (b:Tp11) (i_1:Int):Cn (zmg a b i_1 r9):=fun g h hg x=>ziM (fun _=>r9) r9 (fun _=>ChO.const _) (fun κ k=>g κ k) (fun k=>h k) (fun k=>hg k) a b i_1 x
theorem zkT (r9:Int->Option (Bool)) (a:Tp11) (b:Tp11) (i_1:Int) (k:Int):zdX a b i_1 r9 k=zcR a b i_1 r9 (zdX a b i_1 r9) k:=zam (zhk r9 a b i_1) k
theorem zkS (r9:Nat->Int->Option (Bool)) (r9':Int->Option (Bool)) (h_r9:∀ a0,ChO (fun κ=>r9 κ a0) (r9' a0)) (a:Tp11) (b:Tp11) (i_1:Int) (k:Int):ChO (fun κ=>zdX a b i_1 (r9 κ) k) (zdX a b i_1 r9' k):=by
  unfold zdX
  exact zcE (fun κ=>(zhk (r9 κ) a b i_1).mono) (zhk r9' a b i_1).mono (fun g h hg x=>ziM r9 r9' h_r9 (fun κ k=>g κ k) (fun k=>h k) (fun k=>hg k) a b i_1 x) _
theorem zpu (r9:Nat->Int->Option (Bool)) (r9':Int->Option (Bool)) (h_r9:∀ a0,ChO (fun κ=>r9 κ a0) (r9' a0)) (a:Tp11) (b:Tp11) (i_1:Int):ChO (fun κ=>zda a b (r9 κ) i_1) (zda a b r9' i_1):=by
  unfold zda
  repeat' with_reducible first | exact ChO.const _ | exact h_r9 _ | (apply zkS<;>assumption) | apply ChO.ite | apply ChO.G | apply ChO.both | (apply ChO.bind;intro _)
theorem zrv  (a:Tp11) (b:Tp11):Cn (znH a b):=fun g h hg x=>zpu  (fun κ i_1=>g κ i_1) (fun i_1=>h i_1) (fun i_1=>hg i_1) a b x
theorem zmi  (a:Tp11) (b:Tp11) (i_1:Int):zkj a b i_1=zda a b (zkj a b) i_1:=zam (zrv a b) i_1
theorem zpt (r4:Nat->Int->Option (Bool)) (r4':Int->Option (Bool)) (h_r4:∀ a0,ChO (fun κ=>r4 κ a0) (r4' a0)) (a:Tp11) (b:Tp11) (i:Int):ChO (fun κ=>zc9 a b (r4 κ) i) (zc9 a b r4' i):=by
  unfold zc9
  repeat' with_reducible first | exact ChO.const _ | exact h_r4 _ | (apply zkS<;>assumption) | apply ChO.ite | apply ChO.G | apply ChO.both | (apply ChO.bind;intro _)
theorem zru  (a:Tp11) (b:Tp11):Cn (znG a b):=fun g h hg x=>zpt  (fun κ i=>g κ i) (fun i=>h i) (fun i=>hg i) a b x
theorem zmh  (a:Tp11) (b:Tp11) (i:Int):zki a b i=zc9 a b (zki a b) i:=zam (zru a b) i

def zcP (d:Tp11) (w:Tp20) (r2:Int->Int->Option (Int)) (q_1:Int) (i:Int):Option (Int):=
  if (decide (i < (w.length:Int)))=true then
  G (0<=q_1/\q_1 < (d.2.2.1.length:Int)) (
  G (0<=i/\i < (w.length:Int)) (
  G (0<=ix w i/\ix w i < ((ix d.2.2.1 q_1).length:Int)) (
  G (fits (i+(1:Int))) (
  r2 (ix (ix d.2.2.1 q_1) (ix w i)) (i+(1:Int)))))) else
  some q_1
def zl9 (d:Tp11) (w:Tp20):(Int×Int->Option (Int))->Int×Int->Option (Int):=
  fun rec x=>zcP d w (fun q_1 i=>rec (q_1,i)) x.1 x.2
def ziq (d:Tp11) (w:Tp20) (q_1:Int) (i:Int):Option (Int):=LFix (zl9 d w ) (q_1,i)
def zom (d:Tp11) (q:Int) (w:Tp20):Option (Int):=
  ziq d w q (0:Int)
theorem zn0 (r2:Nat->Int->Int->Option (Int)) (r2':Int->Int->Option (Int)) (h_r2:∀ a0 a1,ChO (fun κ=>r2 κ a0 a1) (r2' a0 a1)) (d:Tp11) (w:Tp20) (q_1:Int) (i:Int):ChO (fun κ=>zcP d w (r2 κ) q_1 i) (zcP d w r2' q_1 i):=by
  unfold zcP
  repeat' with_reducible first | exact ChO.const _ | exact h_r2 _ _ | apply ChO.ite | apply ChO.G | apply ChO.both | (apply ChO.bind;intro _)
theorem zpZ  (d:Tp11) (w:Tp20):Cn (zl9 d w):=fun g h hg x=>zn0  (fun κ q_1 i=>g κ (q_1,i)) (fun q_1 i=>h (q_1,i)) (fun q_1 i=>hg (q_1,i)) d w x.1 x.2
theorem zkJ  (d:Tp11) (w:Tp20) (q_1:Int) (i:Int):ziq d w q_1 i=zcP d w (ziq d w) q_1 i:=zam (zpZ d w) (q_1,i)

def zkg (d:Tp11) (w:Tp20):Option (Bool):=
  (zom (d.1,(d.2.1,(d.2.2.1,(d.2.2.2.1,())))) d.2.1 w).bind (fun y'=>
  G (0<=y'/\y' < (d.2.2.2.1.length:Int)) (
  some (decide ((ix d.2.2.2.1 y')=(1:Int)))))

def zbM (a:Tp16) (b:Tp16) (r4:Int->Option (Bool)) (i:Int):Option (Bool):=
  if (decide (i < (a.2.1.length:Int)))=true then
  G (0<=i/\i < (a.2.1.length:Int)) (
  G (0<=i/\i < (b.2.1.length:Int)) (
  if (decide (¬ (ix a.2.1 i)=(ix b.2.1 i)))=true then
  some false else
  G (fits (i+(1:Int))) (
  r4 (i+(1:Int))))) else
  some true
def zl7 (a:Tp16) (b:Tp16):(Int->Option (Bool))->Int->Option (Bool):=
  fun rec x=>zbM a b (fun i=>rec i) x
def zf9 (a:Tp16) (b:Tp16) (i:Int):Option (Bool):=LFix (zl7 a b ) i
def zkf (a:Tp16) (b:Tp16):Option (Bool):=
  if (decide (¬ a.1=b.1))=true then
  some false else
  if (decide (¬ (a.2.1.length:Int)=(b.2.1.length:Int)))=true then
  some false else
  zf9 a b (0:Int)
theorem znZ (r4:Nat->Int->Option (Bool)) (r4':Int->Option (Bool)) (h_r4:∀ a0,ChO (fun κ=>r4 κ a0) (r4' a0)) (a:Tp16) (b:Tp16) (i:Int):ChO (fun κ=>zbM a b (r4 κ) i) (zbM a b r4' i):=by
  unfold zbM
  repeat' with_reducible first | exact ChO.const _ | exact h_r4 _ | apply ChO.ite | apply ChO.G | apply ChO.both | (apply ChO.bind;intro _)
theorem zpY  (a:Tp16) (b:Tp16):Cn (zl7 a b):=fun g h hg x=>znZ  (fun κ i=>g κ i) (fun i=>h i) (fun i=>hg i) a b x
theorem ze6  (a:Tp16) (b:Tp16) (i:Int):zf9 a b i=zbM a b (zf9 a b) i:=zam (zpY a b) i

def zpc (r:Tp13) (c:Tp16):Option (Bool):=
  if (decide (c.1=r.1))=true then
  if (decide ((0:Int) < (c.2.1.length:Int)))=true then
  G (0<=(0:Int)/\(0:Int) < (c.2.1.length:Int)) (
  some (decide ((ix c.2.1 (0:Int))=r.2.1))) else
  some false else
  some false

def zfO (r:Tp13) (c:Tp16):Option Tp16:=
  G (room ([]:List Int) r.2.2.2.1 8) (
  G (0<=(1:Int)/\(1:Int)<=(c.2.1.length:Int)/\(c.2.1.length:Int)<=(c.2.1.length:Int)) (
  G (room r.2.2.2.1 (cut c.2.1 (1:Int) (c.2.1.length:Int)) 8) (
  some (r.2.2.1,(r.2.2.2.1++(cut c.2.1 (1:Int) (c.2.1.length:Int)),())))))

def zc8 (i:Int) (k:Int) (all'_1:Tp14) (steps_1:Tp20) (r11:(Int->Tp14->Tp20->Option (Bool))) (x':Int) (x'_1:Tp20):Option (Bool):=
  G (room all'_1 ([(x',(x'_1,()))]) 32) (
  G (0<=i/\i < (steps_1.length:Int)) (
  G ((i).toNat < steps_1.length) (
  G (fits ((ix steps_1 i)+(1:Int))) (
  G (room steps_1 ([(ix steps_1 i)+(1:Int)]) 8) (
  G (fits (k+(1:Int))) (
  r11 (k+(1:Int)) (all'_1++([(x',(x'_1,()))])) (steps_1++([(ix steps_1 i)+(1:Int)]))))))))
def zbW (l:Tp12) (i:Int) (k:Int) (all'_1:Tp14) (steps_1:Tp20) (r11:(Int->Tp14->Tp20->Option (Bool))) (t:Bool):Option (Bool):=
  if t=true then
  G (0<=k/\k < (l.length:Int)) (
  G (0<=i/\i < (all'_1.length:Int)) (
  G ((i).toNat < all'_1.length) (
  both [.bool] (
  (zfO (ix l k) (ix all'_1 i)).bind (fun y'_2=>
  zc8 i k all'_1 steps_1 r11 y'_2.1 y'_2.2.1)) (
  (zfO (ix l k) (ix all'_1 i)).bind (fun y'_3=>
  zc8 i k all'_1 steps_1 r11 y'_3.1 y'_3.2.1))))) else
  G (fits (k+(1:Int))) (
  r11 (k+(1:Int)) all'_1 steps_1)
def zcv (l:Tp12) (i:Int) (r4:(Int->Tp14->Tp20->Option (Bool))) (r11:Tf21) (k:Int) (all'_1:Tp14) (steps_1:Tp20):Option (Bool):=
  if (decide (k < (l.length:Int)))=true then
  G (0<=k/\k < (l.length:Int)) (
  G (0<=i/\i < (all'_1.length:Int)) (
  G ((i).toNat < all'_1.length) (
  (zpc (ix l k) (ix all'_1 i)).bind (fun y'_1=>
  if y'_1=true then
  G (0<=i/\i < (all'_1.length:Int)) (
  G ((i).toNat < all'_1.length) (
  zbW l i k all'_1 steps_1 r11 (decide (((((ix all'_1 i).2).1).length:Int) < (30:Int))))) else
  zbW l i k all'_1 steps_1 r11 false)))) else
  G (fits (i+(1:Int))) (
  r4 (i+(1:Int)) all'_1 steps_1)
def zkF (l:Tp12) (i:Int) (r4:(Int->Tp14->Tp20->Option (Bool))):(Int×Tp14×Tp20->Option (Bool))->Int×Tp14×Tp20->Option (Bool):=
  fun rec x=>zcv l i r4 (fun k all'_1 steps_1=>rec (k,all'_1,steps_1)) x.1 x.2.1 x.2.2
def zbm (l:Tp12) (i:Int) (r4:(Int->Tp14->Tp20->Option (Bool))) (k:Int) (all'_1:Tp14) (steps_1:Tp20):Option (Bool):=LFix (zkF l i r4 ) (k,all'_1,steps_1)
def zcO (l:Tp12) (goal:Tp16) (most:Int) (r4:Tf21) (i:Int) (all':Tp14) (steps:Tp20):Option (Bool):=
  if (decide (i < (all'.length:Int)))=true then
  if (decide ((all'.length:Int) < (400:Int)))=true then
  G (0<=i/\i < (all'.length:Int)) (
  G ((i).toNat < all'.length) (
  (zkf (ix all' i) (goal.1,(goal.2.1,()))).bind (fun y'=>
  if y'=true then
  some true else
  G (0<=i/\i < (steps.length:Int)) (
  G ((i).toNat < steps.length) (
  if (decide ((ix steps i)=most))=true then
  G (fits (i+(1:Int))) (
  r4 (i+(1:Int)) all' steps) else
  zbm l i r4 (0:Int) all' steps))))) else
  some false else
  some false
def zl6 (l:Tp12) (goal:Tp16) (most:Int):(Int×Tp14×Tp20->Option (Bool))->Int×Tp14×Tp20->Option (Bool):=
  fun rec x=>zcO l goal most (fun i all' steps=>rec (i,all',steps)) x.1 x.2.1 x.2.2
def zf8 (l:Tp12) (goal:Tp16) (most:Int) (i:Int) (all':Tp14) (steps:Tp20):Option (Bool):=LFix (zl6 l goal most ) (i,all',steps)
def zol (l:Tp12) (from':Tp16) (goal:Tp16) (most:Int):Option (Bool):=
  zf8 l goal most (0:Int) ([(from'.1,(from'.2.1,()))]) ([(0:Int)])
theorem zf6 (r11:Nat->Tf21) (r11':Tf21) (h_r11:∀ a0 a1 a2,ChO (fun κ=>r11 κ a0 a1 a2) (r11' a0 a1 a2)) (i:Int) (k:Int) (all'_1:Tp14) (steps_1:Tp20) (x':Int) (x'_1:Tp20):ChO (fun κ=>zc8 i k all'_1 steps_1 (r11 κ) x' x'_1) (zc8 i k all'_1 steps_1 r11' x' x'_1):=by
  unfold zc8
  repeat' with_reducible first | exact ChO.const _ | exact h_r11 _ _ _ | apply ChO.ite | apply ChO.G | apply ChO.both | (apply ChO.bind;intro _)
theorem zjC (r11:Nat->Tf21) (r11':Tf21) (h_r11:∀ a0 a1 a2,ChO (fun κ=>r11 κ a0 a1 a2) (r11' a0 a1 a2)) (l:Tp12) (i:Int) (k:Int) (all'_1:Tp14) (steps_1:Tp20) (t:Bool):ChO (fun κ=>zbW l i k all'_1 steps_1 (r11 κ) t) (zbW l i k all'_1 steps_1 r11' t):=by
  unfold zbW
  repeat' with_reducible first | exact ChO.const _ | exact h_r11 _ _ _ | (apply zf6<;>assumption) | apply ChO.ite | apply ChO.G | apply ChO.both | (apply ChO.bind;intro _)
theorem zhL (r4:Nat->Tf21) (r4':Tf21) (h_r4:∀ a0 a1 a2,ChO (fun κ=>r4 κ a0 a1 a2) (r4' a0 a1 a2)) (r11:Nat->Tf21) (r11':Tf21) (h_r11:∀ a0 a1 a2,ChO (fun κ=>r11 κ a0 a1 a2) (r11' a0 a1 a2)) (l:Tp12) (i:Int) (k:Int) (all'_1:Tp14) (steps_1:Tp20):ChO (fun κ=>zcv l i (r4 κ) (r11 κ) k all'_1 steps_1) (zcv l i r4' r11' k all'_1 steps_1):=by
  unfold zcv
  repeat' with_reducible first | exact ChO.const _ | exact h_r4 _ _ _ | exact h_r11 _ _ _ | (apply zf6<;>assumption) | (apply zjC<;>assumption) | apply ChO.ite | apply ChO.G | apply ChO.both | (apply ChO.bind;intro _)
theorem zf7 (r4:Tf21) (l:Tp12) (i:Int):Cn (zkF l i r4):=fun g h hg x=>zhL (fun _=>r4) r4 (fun _ _ _=>ChO.const _) (fun κ k all'_1 steps_1=>g κ (k,all'_1,steps_1)) (fun k all'_1 steps_1=>h (k,all'_1,steps_1)) (fun k all'_1 steps_1=>hg (k,all'_1,steps_1)) l i x.1 x.2.1 x.2.2
theorem zjD (r4:Tf21) (l:Tp12) (i:Int) (k:Int) (all'_1:Tp14) (steps_1:Tp20):zbm l i r4 k all'_1 steps_1=zcv l i r4 (zbm l i r4) k all'_1 steps_1:=zam (zf7 r4 l i) (k,all'_1,steps_1)
theorem zph (r4:Nat->Tf21) (r4':Tf21) (h_r4:∀ a0 a1 a2,ChO (fun κ=>r4 κ a0 a1 a2) (r4' a0 a1 a2)) (l:Tp12) (i:Int) (k:Int) (all'_1:Tp14) (steps_1:Tp20):ChO (fun κ=>zbm l i (r4 κ) k all'_1 steps_1) (zbm l i r4' k all'_1 steps_1):=by
  unfold zbm
  exact zcE (fun κ=>(zf7 (r4 κ) l i).mono) (zf7 r4' l i).mono (fun g h hg x=>zhL r4 r4' h_r4 (fun κ k all'_1 steps_1=>g κ (k,all'_1,steps_1)) (fun k all'_1 steps_1=>h (k,all'_1,steps_1)) (fun k all'_1 steps_1=>hg (k,all'_1,steps_1)) l i x.1 x.2.1 x.2.2) _
theorem znY (r4:Nat->Tf21) (r4':Tf21) (h_r4:∀ a0 a1 a2,ChO (fun κ=>r4 κ a0 a1 a2) (r4' a0 a1 a2)) (l:Tp12) (goal:Tp16) (most:Int) (i:Int) (all':Tp14) (steps:Tp20):ChO (fun κ=>zcO l goal most (r4 κ) i all' steps) (zcO l goal most r4' i all' steps):=by
  unfold zcO
  repeat' with_reducible first | exact ChO.const _ | exact h_r4 _ _ _ | (apply zf6<;>assumption) | (apply zjC<;>assumption) | (apply zph<;>assumption) | apply ChO.ite | apply ChO.G | apply ChO.both | (apply ChO.bind;intro _)
theorem zpX  (l:Tp12) (goal:Tp16) (most:Int):Cn (zl6 l goal most):=fun g h hg x=>znY  (fun κ i all' steps=>g κ (i,all',steps)) (fun i all' steps=>h (i,all',steps)) (fun i all' steps=>hg (i,all',steps)) l goal most x.1 x.2.1 x.2.2
theorem zkG  (l:Tp12) (goal:Tp16) (most:Int) (i:Int) (all':Tp14) (steps:Tp20):zf8 l goal most i all' steps=zcO l goal most (zf8 l goal most) i all' steps:=zam (zpX l goal most) (i,all',steps)

def za2 (l:Tp12) (goal:Tp16) (y'_2:Tp20) (r33:Tf22) (i_1:Int) (now:Int) (now_1:Tp20):Option (Bool):=
  if (decide (i_1 < (y'_2.length:Int)))=true then
  G (0<=i_1/\i_1 < (y'_2.length:Int)) (
  G ((i_1).toNat < y'_2.length) (
  if (decide ((ix y'_2 i_1) < (0:Int)))=true then
  some false else
  G (0<=i_1/\i_1 < (y'_2.length:Int)) (
  G ((i_1).toNat < y'_2.length) (
  if (decide ((l.length:Int)<=(ix y'_2 i_1)))=true then
  some false else
  G (0<=i_1/\i_1 < (y'_2.length:Int)) (
  G ((i_1).toNat < y'_2.length) (
  G (0<=ix y'_2 i_1/\ix y'_2 i_1 < (l.length:Int)) (
  (zpc (ix l (ix y'_2 i_1)) (now,(now_1,()))).bind (fun y'_14=>
  if (!y'_14)=true then
  some false else
  G (0<=i_1/\i_1 < (y'_2.length:Int)) (
  G ((i_1).toNat < y'_2.length) (
  G (0<=ix y'_2 i_1/\ix y'_2 i_1 < (l.length:Int)) (
  (zfO (ix l (ix y'_2 i_1)) (now,(now_1,()))).bind (fun y'_15=>
  G (fits (i_1+(1:Int))) (
  r33 (i_1+(1:Int)) y'_15.1 y'_15.2.1))))))))))))) else
  (zkf (now,(now_1,())) (goal.1,(goal.2.1,()))).bind (fun y'_16=>
  some y'_16)
def zf0 (l:Tp12) (goal:Tp16) (y'_2:Tp20):(Int×Int×Tp20->Option (Bool))->Int×Int×Tp20->Option (Bool):=
  fun rec x=>za2 l goal y'_2 (fun i_1 now now_1=>rec (i_1,now,now_1)) x.1 x.2.1 x.2.2
def zdk (l:Tp12) (goal:Tp16) (y'_2:Tp20) (i_1:Int) (now:Int) (now_1:Tp20):Option (Bool):=LFix (zf0 l goal y'_2 ) (i_1,now,now_1)
def zb4 (l:Tp12) (from':Tp16) (goal:Tp16) (y':Bool) (y'_1:Int) (y'_2:Tp20) (y'_12:Bool) (y'_13:Bool) (t:Bool):Option (Bool):=
  if t=true then
  some false else
  if (decide (y'_1=(7:Int)))=true then
  if y'_12=true then
  if (!y'_13)=true then
  if (!y')=true then
  some (decide ((y'_2.length:Int)=(0:Int))) else
  some false else
  some false else
  some false else
  if (decide (¬ y'_1=(0:Int)))=true then
  some false else
  if (decide (¬ y'=y'_12))=true then
  some false else
  if (decide ((2000:Int) < (y'_2.length:Int)))=true then
  some false else
  if (!y')=true then
  some (decide ((y'_2.length:Int)=(0:Int))) else
  zdk l goal y'_2 (0:Int) from'.1 from'.2.1
def zaQ (l:Tp12) (from':Tp16) (goal:Tp16) (y':Bool) (y'_1:Int) (y'_2:Tp20) (y'_5:Tp9) (y'_8:Int) (r10:Int->Option (Bool)) (i:Int):Option (Bool):=
  if (decide (i < (y'_5.length:Int)))=true then
  G (0<=i/\i < (y'_5.length:Int)) (
  G ((i).toNat < y'_5.length) (
  (zma (ix y'_5 i)).bind (fun y'_9=>
  if (decide (¬ y'_9=(0:Int)))=true then
  some false else
  G (0<=i/\i < (y'_5.length:Int)) (
  G ((i).toNat < y'_5.length) (
  if (decide (¬ ((ix y'_5 i).1)=(3:Int)))=true then
  some false else
  G (0<=i/\i < (y'_5.length:Int)) (
  G ((i).toNat < y'_5.length) (
  (zme (ix y'_5 i)).bind (fun y'_10=>
  G (0<=i/\i < (y'_5.length:Int)) (
  G ((i).toNat < y'_5.length) (
  (zps (ix y'_5 i) (y'_10.1,(y'_10.2.1,(y'_10.2.2.1,(y'_10.2.2.2.1,()))))).bind (fun y'_11=>
  if (!y'_11)=true then
  some false else
  G (fits (i+(1:Int))) (
  r10 (i+(1:Int)))))))))))))) else
  if (decide (¬ y'_8=(0:Int)))=true then
  if (decide (y'_1=y'_8))=true then
  if (!y')=true then
  some (decide ((y'_2.length:Int)=(0:Int))) else
  some false else
  some false else
  G (0<=from'.1/\from'.1 < (y'_5.length:Int)) (
  G ((from'.1).toNat < y'_5.length) (
  (zkg (ix y'_5 from'.1) from'.2.1).bind (fun y'_12=>
  (zol l (from'.1,(from'.2.1,())) (goal.1,(goal.2.1,())) (6:Int)).bind (fun y'_13=>
  if y'_13=true then
  zb4 l from' goal y' y'_1 y'_2 y'_12 y'_13 (!y'_12) else
  zb4 l from' goal y' y'_1 y'_2 y'_12 y'_13 false))))
def zfZ (l:Tp12) (from':Tp16) (goal:Tp16) (y':Bool) (y'_1:Int) (y'_2:Tp20) (y'_5:Tp9) (y'_8:Int):(Int->Option (Bool))->Int->Option (Bool):=
  fun rec x=>zaQ l from' goal y' y'_1 y'_2 y'_5 y'_8 (fun i=>rec i) x
def zaU (l:Tp12) (from':Tp16) (goal:Tp16) (y':Bool) (y'_1:Int) (y'_2:Tp20) (y'_5:Tp9) (y'_8:Int) (i:Int):Option (Bool):=LFix (zfZ l from' goal y' y'_1 y'_2 y'_5 y'_8 ) i
def zep (l:Tp12) (from':Tp16) (goal:Tp16):Option (Bool):=
  (zgq l (from'.1,(from'.2.1,())) (goal.1,(goal.2.1,()))).bind (fun y'_18=>
  (zd8 l (goal.1,(goal.2.1,()))).bind (fun y'_17=>
  (zf1 l (goal.1,(goal.2.1,())) (goal.1,(goal.2.1,()))).bind (fun y'_7=>
  (zf1 l (from'.1,(from'.2.1,())) (goal.1,(goal.2.1,()))).bind (fun y'_8=>
  if (decide (¬ y'_7=(0:Int)))=true then
  if (decide (y'_17.1=y'_7))=true then
  if (decide ((y'_17.2.length:Int)=(0:Int)))=true then
  if (decide (y'_18.2.1=y'_8))=true then
  if (!y'_18.1)=true then
  some (decide ((y'_18.2.2.length:Int)=(0:Int))) else
  some false else
  some false else
  some false else
  some false else
  if (decide (¬ y'_17.1=(0:Int)))=true then
  some false else
  if (decide (¬ (y'_17.2.length:Int)=(3:Int)))=true then
  some false else
  zaU l from' goal y'_18.1 y'_18.2.1 y'_18.2.2 y'_17.2 y'_8 (0:Int)))))
theorem zi3 (r33:Nat->Tf22) (r33':Tf22) (h_r33:∀ a0 a1 a2,ChO (fun κ=>r33 κ a0 a1 a2) (r33' a0 a1 a2)) (l:Tp12) (goal:Tp16) (y'_2:Tp20) (i_1:Int) (now:Int) (now_1:Tp20):ChO (fun κ=>za2 l goal y'_2 (r33 κ) i_1 now now_1) (za2 l goal y'_2 r33' i_1 now now_1):=by
  unfold za2
  repeat' with_reducible first | exact ChO.const _ | exact h_r33 _ _ _ | apply ChO.ite | apply ChO.G | apply ChO.both | (apply ChO.bind;intro _)
theorem zko  (l:Tp12) (goal:Tp16) (y'_2:Tp20):Cn (zf0 l goal y'_2):=fun g h hg x=>zi3  (fun κ i_1 now now_1=>g κ (i_1,now,now_1)) (fun i_1 now now_1=>h (i_1,now,now_1)) (fun i_1 now now_1=>hg (i_1,now,now_1)) l goal y'_2 x.1 x.2.1 x.2.2
theorem zfv  (l:Tp12) (goal:Tp16) (y'_2:Tp20) (i_1:Int) (now:Int) (now_1:Tp20):zdk l goal y'_2 i_1 now now_1=za2 l goal y'_2 (zdk l goal y'_2) i_1 now now_1:=zam (zko l goal y'_2) (i_1,now,now_1)
theorem zi2 (r10:Nat->Int->Option (Bool)) (r10':Int->Option (Bool)) (h_r10:∀ a0,ChO (fun κ=>r10 κ a0) (r10' a0)) (l:Tp12) (from':Tp16) (goal:Tp16) (y':Bool) (y'_1:Int) (y'_2:Tp20) (y'_5:Tp9) (y'_8:Int) (i:Int):ChO (fun κ=>zaQ l from' goal y' y'_1 y'_2 y'_5 y'_8 (r10 κ) i) (zaQ l from' goal y' y'_1 y'_2 y'_5 y'_8 r10' i):=by
  unfold zaQ
  repeat' with_reducible first | exact ChO.const _ | exact h_r10 _ | apply ChO.ite | apply ChO.G | apply ChO.both | (apply ChO.bind;intro _)
theorem zkn  (l:Tp12) (from':Tp16) (goal:Tp16) (y':Bool) (y'_1:Int) (y'_2:Tp20) (y'_5:Tp9) (y'_8:Int):Cn (zfZ l from' goal y' y'_1 y'_2 y'_5 y'_8):=fun g h hg x=>zi2  (fun κ i=>g κ i) (fun i=>h i) (fun i=>hg i) l from' goal y' y'_1 y'_2 y'_5 y'_8 x
theorem zdw  (l:Tp12) (from':Tp16) (goal:Tp16) (y':Bool) (y'_1:Int) (y'_2:Tp20) (y'_5:Tp9) (y'_8:Int) (i:Int):zaU l from' goal y' y'_1 y'_2 y'_5 y'_8 i=zaQ l from' goal y' y'_1 y'_2 y'_5 y'_8 (zaU l from' goal y' y'_1 y'_2 y'_5 y'_8) i:=zam (zkn l from' goal y' y'_1 y'_2 y'_5 y'_8) i

end
end Go.Proofs.Ythklckmbgpijoaa.stackWaysW
