/- What the functions that 'GramSome' reaches compute: plain functions. -/
import Derived.Test.YtfkonehmieejdaaEv32n21
set_option maxHeartbeats 1000000
set_option maxRecDepth 20000
set_option linter.unusedSimpArgs false
set_option linter.unusedVariables false
set_option linter.unusedSectionVars false
namespace Go.Proofs.Ytfkonehmieejdaa.gramSomeW
open Go Go.Ab
noncomputable section
abbrev Tp15:=(List Int)
abbrev Tp14:=(List Tp15)
abbrev Tp13:=(Int×Int×Int×Unit)
abbrev Tp12:=(Tp15×Bool×Int)
abbrev Tp11:=(Int×Tp15×Unit)
abbrev Tp10:=(Tp15×Bool×Bool)
abbrev Tp9:=(List Tp13)
abbrev Tp8:=(List Tp11)
abbrev Tc6:Ty:=(.pair (.list (.int .i64)) .unit)
abbrev Tp7:=(Bool×Bool×Tp15×Unit)
abbrev Tp6:=(List Tp7)
abbrev Tc5:Ty:=(.pair (.int .i64) (.pair (.int .i64) .unit))
abbrev Tp5:=(Int×Int×Tp14×Tp15×Unit)
abbrev Tc4:Ty:=(.pair (.int .i64) Tc6)
abbrev Tp4:=(Int×Int×Tp8×Unit)
abbrev Tc3:Ty:=(.list Tc4)
abbrev Tc2:Ty:=(.pair (.int .i64) Tc5)
abbrev Tc1:Ty:=(.list Tc2)
abbrev Tp3:=(Int×Int×Tp8×Int×Int×Tp14×Tp15×Tp6×Bool)
abbrev Tp2:=(Int×Int×Tp8×Int×Int×Tp14×Tp15×Tp9×Tp14×Tp9×Tp15)
abbrev Tp1:=(Int×Int×Tp8×Int×Int×Tp14×Tp15×Bool×Tp9×Tp14×Tp9×Tp15)
abbrev Tf1:=Tp15->Int->Tp15->Bool->Tp11->Int->Int->Int->Tp8->Int->Int->Tp14->Tp15->Bool->Tp9->Tp14->Tp9->Tp15->Option Tp1
abbrev Tf2:=Tp11->Int->Int->Int->Int->Tp8->Int->Int->Tp14->Tp15->Bool->Tp9->Tp14->Tp9->Tp15->Option Tp1
abbrev Tf3:=Int->Int->Tp15->Int->Tp15->Bool->Int->Int->Tp8->Int->Int->Tp14->Tp15->Bool->Tp6->Option Tp3
abbrev Tf4:=Tp11->Int->Bool->Int->Int->Tp8->Int->Int->Tp14->Tp15->Tp9->Tp14->Tp9->Tp15->Option Tp2
abbrev Tf5:=Int->Bool->Int->Int->Tp8->Int->Int->Tp14->Tp15->Tp9->Tp14->Tp9->Tp15->Option Tp2
abbrev Tf6:=Bool->Int->Int->Tp8->Int->Int->Tp14->Tp15->Tp9->Tp14->Tp9->Tp15->Option Tp2
abbrev Tf7:=Int->Int->Int->Tp8->Int->Int->Tp14->Tp15->Bool->Tp6->Option Tp10
abbrev Tf8:=Int->Int->Int->Tp8->Int->Int->Tp14->Tp15->Bool->Tp6->Option Tp3
abbrev Tf9:=Int->Int->Tp8->Int->Int->Tp14->Tp15->Bool->Tp6->Option Tp10
abbrev Tf10:=Tp15->Bool->Bool->Int->Option Tp12
abbrev Tf11:=Tp15->Bool->Bool->Int->Option Tp10
def zef (s:Int) (t:Tp4):Option (Bool):=
  if (decide (s < (0:Int)))=true then
  some true else
  G (fits (t.1+t.2.1)) (
  some (decide ((t.1+t.2.1)<=s)))

def za1 (s:Tp15) (c:Tp4) (r2:Int->Option (Int)) (t:Int):Option (Int):=
  if (decide (t < (s.length:Int)))=true then
  G (0<=t/\t < (s.length:Int)) (
  (zef (ix s t) c).bind (fun y'=>
  if y'=true then
  some t else
  G (fits (t+(1:Int))) (
  r2 (t+(1:Int))))) else
  some (-1:Int)
def zde (s:Tp15) (c:Tp4):(Int->Option (Int))->Int->Option (Int):=
  fun rec x=>za1 s c (fun t=>rec t) x
def zcj (s:Tp15) (c:Tp4) (t:Int):Option (Int):=LFix (zde s c ) t
def zfu (s:Tp15) (c:Tp4):Option (Int):=
  zcj s c (0:Int)
theorem zeZ (r2:Nat->Int->Option (Int)) (r2':Int->Option (Int)) (h_r2:∀ a0,ChO (fun κ=>r2 κ a0) (r2' a0)) (s:Tp15) (c:Tp4) (t:Int):ChO (fun κ=>za1 s c (r2 κ) t) (za1 s c r2' t):=by
  unfold za1
  repeat' with_reducible first | exact ChO.const _ | exact h_r2 _ | apply ChO.ite | apply ChO.G | apply ChO.both | (apply ChO.bind;intro _)
theorem zfD  (s:Tp15) (c:Tp4):Cn (zde s c):=fun g h hg x=>zeZ  (fun κ t=>g κ t) (fun t=>h t) (fun t=>hg t) s c x
theorem zfE  (s:Tp15) (c:Tp4) (t:Int):zcj s c t=za1 s c (zcj s c) t:=zbl (zfD s c) t

def zci (s:Tp15) (c:Tp4):Option (Bool):=
  (zfu s c).bind (fun y'=>
  some (decide ((0:Int)<=y')))

def zbc (g':Tp4) (r6:Int->Option (Int)) (t:Int):Option (Int):=
  if (decide (t < (g'.2.2.1.length:Int)))=true then
  G (0<=t/\t < (g'.2.2.1.length:Int)) (
  if (decide (((ix g'.2.2.1 t).1) < (0:Int)))=true then
  some (2:Int) else
  if (decide (g'.2.1<=((ix g'.2.2.1 t).1)))=true then
  some (2:Int) else
  if (decide ((3:Int) < ((((ix g'.2.2.1 t).2).1).length:Int)))=true then
  some (1:Int) else
  (zci (((ix g'.2.2.1 t).2).1) (g'.1,(g'.2.1,(g'.2.2.1,())))).bind (fun y'=>
  if y'=true then
  some (2:Int) else
  G (fits (t+(1:Int))) (
  r6 (t+(1:Int))))) else
  some (0:Int)
def zfN (g':Tp4):(Int->Option (Int))->Int->Option (Int):=
  fun rec x=>zbc g' (fun t=>rec t) x
def zdz (g':Tp4) (t:Int):Option (Int):=LFix (zfN g' ) t
def zgo (g':Tp4):Option (Int):=
  if (decide (g'.1 < (1:Int)))=true then
  some (2:Int) else
  if (decide ((4:Int) < g'.1))=true then
  some (2:Int) else
  if (decide (g'.2.1 < (1:Int)))=true then
  some (1:Int) else
  if (decide ((6:Int) < g'.2.1))=true then
  some (1:Int) else
  if (decide ((20:Int) < (g'.2.2.1.length:Int)))=true then
  some (1:Int) else
  zdz g' (0:Int)
theorem zhv (r6:Nat->Int->Option (Int)) (r6':Int->Option (Int)) (h_r6:∀ a0,ChO (fun κ=>r6 κ a0) (r6' a0)) (g':Tp4) (t:Int):ChO (fun κ=>zbc g' (r6 κ) t) (zbc g' r6' t):=by
  unfold zbc
  repeat' with_reducible first | exact ChO.const _ | exact h_r6 _ | apply ChO.ite | apply ChO.G | apply ChO.both | (apply ChO.bind;intro _)
theorem zi0  (g':Tp4):Cn (zfN g'):=fun g h hg x=>zhv  (fun κ t=>g κ t) (fun t=>h t) (fun t=>hg t) g' x
theorem zfj  (g':Tp4) (t:Int):zdz g' t=zbc g' (zdz g') t:=zbl (zi0 g') t

def zbb (s:Tp15):Option Tp15:=
  if s.length=0 then both [(.list (.int .i64))] (
  some ([])) (
  G (room ([]:List Int) s 8) (
  some (([]:List Int)++s))) else
  G (room ([]:List Int) s 8) (
  some (([]:List Int)++s))

def zhg (x':Int):Option (Bool):=
  some (decide (¬ x'=x'))

def ze3 (x':Int) (y':Int):Option (Int):=
  (zhg x').bind (fun y'_1=>
  (zhg y').bind (fun y'_2=>
  if y'_1=true then
  if y'_2=true then
  some (0:Int) else
  some (-1:Int) else
  if y'_2=true then
  some (1:Int) else
  if (decide (x' < y'))=true then
  some (-1:Int) else
  if (decide (y' < x'))=true then
  some (1:Int) else
  some (0:Int)))

def zaK (s1:Tp15) (s2:Tp15) (r2:Int->Option (Int)) (t:Int):Option (Int):=
  if (decide (t < (s1.length:Int)))=true then
  G (0<=t/\t < (s1.length:Int)) (
  if (decide ((s2.length:Int)<=t))=true then
  some (1:Int) else
  G (0<=t/\t < (s2.length:Int)) (
  (ze3 (ix s1 t) (ix s2 t)).bind (fun y'=>
  if (decide (¬ y'=(0:Int)))=true then
  some y' else
  G (fits (t+(1:Int))) (
  r2 (t+(1:Int)))))) else
  if (decide ((s1.length:Int) < (s2.length:Int)))=true then
  some (-1:Int) else
  some (0:Int)
def zd7 (s1:Tp15) (s2:Tp15):(Int->Option (Int))->Int->Option (Int):=
  fun rec x=>zaK s1 s2 (fun t=>rec t) x
def zb0 (s1:Tp15) (s2:Tp15) (t:Int):Option (Int):=LFix (zd7 s1 s2 ) t
def zey (s1:Tp15) (s2:Tp15):Option (Int):=
  zb0 s1 s2 (0:Int)
theorem zfA (r2:Nat->Int->Option (Int)) (r2':Int->Option (Int)) (h_r2:∀ a0,ChO (fun κ=>r2 κ a0) (r2' a0)) (s1:Tp15) (s2:Tp15) (t:Int):ChO (fun κ=>zaK s1 s2 (r2 κ) t) (zaK s1 s2 r2' t):=by
  unfold zaK
  repeat' with_reducible first | exact ChO.const _ | exact h_r2 _ | apply ChO.ite | apply ChO.G | apply ChO.both | (apply ChO.bind;intro _)
theorem zgE  (s1:Tp15) (s2:Tp15):Cn (zd7 s1 s2):=fun g h hg x=>zfA  (fun κ t=>g κ t) (fun t=>h t) (fun t=>hg t) s1 s2 x
theorem zb2  (s1:Tp15) (s2:Tp15) (t:Int):zb0 s1 s2 t=zaK s1 s2 (zb0 s1 s2) t:=zbl (zgE s1 s2) t

def zdN (a:Tp15) (b:Tp15):Option (Bool):=
  if (decide (¬ (a.length:Int)=(b.length:Int)))=true then
  some (decide ((a.length:Int) < (b.length:Int))) else
  (zey a b).bind (fun y'=>
  some (decide (y' < (0:Int))))

def zaR (q:Int) (w:Tp15) (t:Tp11) (t_1:Int) (t_2:Bool) (t_3:Int) (t_4:Int) (t_5:Tp8) (t_6:Int) (t_7:Int) (t_8:Tp14) (t_9:Tp15) (l:Tp9) (l_1:Tp14) (l_2:Tp9) (l_3:Tp15) (t_10:Bool):Option (Bool×Int×Int×Tp8×Int×Int×Tp14×Tp15×Tp9×Tp14×Tp9×Tp15):=
  if t_10=true then
  (zbb w).bind (fun y'=>
  G (0<=mpos l (t.1,(t_1,(q,())))/\mpos l (t.1,(t_1,(q,()))) < ((zdk l l_1 (t.1,(t_1,(q,()))) ([]:List Int)).length:Int)) (
  some (true,t_3,t_4,t_5,t_6,t_7,t_8,t_9,zbV l (t.1,(t_1,(q,()))),(zdk l l_1 (t.1,(t_1,(q,()))) ([]:List Int)).set (mpos l (t.1,(t_1,(q,())))).toNat y',l_2,l_3))) else
  some (t_2,t_3,t_4,t_5,t_6,t_7,t_8,t_9,l,l_1,l_2,l_3)
def zbj (q:Int) (w:Tp15) (short:Bool) (t:Tp11) (t_1:Int) (t_2:Bool) (t_3:Int) (t_4:Int) (t_5:Tp8) (t_6:Int) (t_7:Int) (t_8:Tp14) (t_9:Tp15) (l:Tp9) (l_1:Tp14) (l_2:Tp9) (l_3:Tp15):Option (Bool×Int×Int×Tp8×Int×Int×Tp14×Tp15×Tp9×Tp14×Tp9×Tp15):=
  if short=true then
  if (!(mhas l (t.1,(t_1,(q,())))))=true then
  zaR q w t t_1 t_2 t_3 t_4 t_5 t_6 t_7 t_8 t_9 l l_1 l_2 l_3 true else
  (zdN w (mget l l_1 (t.1,(t_1,(q,()))) ([]:List Int))).bind (fun y'_1=>
  zaR q w t t_1 t_2 t_3 t_4 t_5 t_6 t_7 t_8 t_9 l l_1 l_2 l_3 y'_1) else
  zaR q w t t_1 t_2 t_3 t_4 t_5 t_6 t_7 t_8 t_9 l l_1 l_2 l_3 false
def zbR (q:Int) (w:Tp15) (short:Bool) (t:Tp11) (t_1:Int) (c:Bool) (c_1:Int) (c_2:Int) (c_3:Tp8) (c_4:Int) (c_5:Int) (c_6:Tp14) (c_7:Tp15) (c_8:Tp9) (c_9:Tp14) (c_10:Tp9) (c_11:Tp15):Option (Bool×Int×Int×Tp8×Int×Int×Tp14×Tp15×Tp9×Tp14×Tp9×Tp15):=
  if (decide ((mget c_10 c_11 (t.1,(t_1,(q,()))) (0:Int))=(0:Int)))=true then
  G (0<=mpos c_10 (t.1,(t_1,(q,())))/\mpos c_10 (t.1,(t_1,(q,()))) < ((zdk c_10 c_11 (t.1,(t_1,(q,()))) (0:Int)).length:Int)) (
  zbj q w short t t_1 true c_1 c_2 c_3 c_4 c_5 c_6 c_7 c_8 c_9 (zbV c_10 (t.1,(t_1,(q,())))) ((zdk c_10 c_11 (t.1,(t_1,(q,()))) (0:Int)).set (mpos c_10 (t.1,(t_1,(q,())))).toNat (1:Int))) else
  zbj q w short t t_1 c c_1 c_2 c_3 c_4 c_5 c_6 c_7 c_8 c_9 c_10 c_11

def zfg (n:Int):Option Tp15:=
  if (decide (n < (0:Int)))=true then
  none else
  G (fits ((0:Int) - (0:Int))) (
  G (fits (n - ((0:Int) - (0:Int)))) (
  if (decide ((0:Int) < (n - ((0:Int) - (0:Int)))))=true then
  G ((0:Int)=(0:Int)) (
  G (0 < n - ((0:Int) - (0:Int))/\(n - ((0:Int) - (0:Int))) * 8<=140737488355328) (
  G (0<=(0:Int)/\(0:Int)<=((List.replicate (n - ((0:Int) - (0:Int))).toNat (0:Int)).length:Int)) (
  some ((List.replicate (n - ((0:Int) - (0:Int))).toNat (0:Int)).take ((0:Int)).toNat)))) else
  some ([])))

def zaQ (slices:Tp14) (r11:Int->Tp15->Option Tp15) (t_1:Int) (newslice:Tp15):Option Tp15:=
  if (decide (t_1 < (slices.length:Int)))=true then
  G (0<=t_1/\t_1 < (slices.length:Int)) (
  G (room newslice (ix slices t_1) 8) (
  G (fits (t_1+(1:Int))) (
  r11 (t_1+(1:Int)) (newslice++(ix slices t_1))))) else
  some newslice
def zd8 (slices:Tp14):(Int×Tp15->Option Tp15)->Int×Tp15->Option Tp15:=
  fun rec x=>zaQ slices (fun t_1 newslice=>rec (t_1,newslice)) x.1 x.2
def zb1 (slices:Tp14) (t_1:Int) (newslice:Tp15):Option Tp15:=LFix (zd8 slices ) (t_1,newslice)
def zaV (slices:Tp14) (r3:Int->Int->Option Tp15) (size:Int) (t:Int):Option Tp15:=
  if (decide (t < (slices.length:Int)))=true then
  G (0<=t/\t < (slices.length:Int)) (
  G (fits (size+((ix slices t).length:Int))) (
  if (decide ((size+((ix slices t).length:Int)) < (0:Int)))=true then
  none else
  G (fits (t+(1:Int))) (
  r3 (size+((ix slices t).length:Int)) (t+(1:Int))))) else
  (zfg size).bind (fun y'=>
  zb1 slices (0:Int) y')
def zes (slices:Tp14):(Int×Int->Option Tp15)->Int×Int->Option Tp15:=
  fun rec x=>zaV slices (fun size t=>rec (size,t)) x.1 x.2
def zcd (slices:Tp14) (size:Int) (t:Int):Option Tp15:=LFix (zes slices ) (size,t)
def zdC (slices:Tp14):Option Tp15:=
  zcd slices (0:Int) (0:Int)
theorem zfB (r11:Nat->Int->Tp15->Option Tp15) (r11':Int->Tp15->Option Tp15) (h_r11:∀ a0 a1,ChO (fun κ=>r11 κ a0 a1) (r11' a0 a1)) (slices:Tp14) (t_1:Int) (newslice:Tp15):ChO (fun κ=>zaQ slices (r11 κ) t_1 newslice) (zaQ slices r11' t_1 newslice):=by
  unfold zaQ
  repeat' with_reducible first | exact ChO.const _ | exact h_r11 _ _ | apply ChO.ite | apply ChO.G | apply ChO.both | (apply ChO.bind;intro _)
theorem zgF  (slices:Tp14):Cn (zd8 slices):=fun g h hg x=>zfB  (fun κ t_1 newslice=>g κ (t_1,newslice)) (fun t_1 newslice=>h (t_1,newslice)) (fun t_1 newslice=>hg (t_1,newslice)) slices x.1 x.2
theorem zdv  (slices:Tp14) (t_1:Int) (newslice:Tp15):zb1 slices t_1 newslice=zaQ slices (zb1 slices) t_1 newslice:=zbl (zgF slices) (t_1,newslice)
theorem zgd (r3:Nat->Int->Int->Option Tp15) (r3':Int->Int->Option Tp15) (h_r3:∀ a0 a1,ChO (fun κ=>r3 κ a0 a1) (r3' a0 a1)) (slices:Tp14) (size:Int) (t:Int):ChO (fun κ=>zaV slices (r3 κ) size t) (zaV slices r3' size t):=by
  unfold zaV
  repeat' with_reducible first | exact ChO.const _ | exact h_r3 _ _ | apply ChO.ite | apply ChO.G | apply ChO.both | (apply ChO.bind;intro _)
theorem zha  (slices:Tp14):Cn (zes slices):=fun g h hg x=>zgd  (fun κ size t=>g κ (size,t)) (fun size t=>h (size,t)) (fun size t=>hg (size,t)) slices x.1 x.2
theorem zd9  (slices:Tp14) (size:Int) (t:Int):zcd slices size t=zaV slices (zcd slices) size t:=zbl (zha slices) (size,t)

def zaL (zab:Tf1) (signs:Tp15) (tell:Tp11) (tell_1:Int) (t:Int) (f:Int) (f_1:Int) (f_2:Tp8) (f_3:Int) (f_4:Int) (f_5:Tp14) (f_6:Tp15) (l:Bool) (l_1:Tp9) (l_2:Tp14) (l_3:Tp9) (l_4:Tp15) (r6:(Tp11->Int->Int->Int->Int->Tp8->Int->Int->Tp14->Tp15->Bool->Tp9->Tp14->Tp9->Tp15->Option Tp1)) (next':Bool) (both':Tp15):Option Tp1:=
  G (0<=(1:Int)/\(1:Int)<=(signs.length:Int)/\(signs.length:Int)<=(signs.length:Int)) (
  (zab (cut signs (1:Int) (signs.length:Int)) t both' next' tell tell_1 f f_1 f_2 f_3 f_4 f_5 f_6 l l_1 l_2 l_3 l_4).bind (fun y'_257=>
  G (fits (t+(1:Int))) (
  r6 tell tell_1 (t+(1:Int)) y'_257.1 y'_257.2.1 y'_257.2.2.1 y'_257.2.2.2.1 y'_257.2.2.2.2.1 y'_257.2.2.2.2.2.1 y'_257.2.2.2.2.2.2.1 y'_257.2.2.2.2.2.2.2.1 y'_257.2.2.2.2.2.2.2.2.1 y'_257.2.2.2.2.2.2.2.2.2.1 y'_257.2.2.2.2.2.2.2.2.2.2.1 y'_257.2.2.2.2.2.2.2.2.2.2.2)))
def zaA (zab:Tf1) (signs:Tp15) (p:Int) (w:Tp15) (tell:Tp11) (tell_1:Int) (t:Int) (f:Int) (f_1:Int) (f_2:Tp8) (f_3:Int) (f_4:Int) (f_5:Tp14) (f_6:Tp15) (l:Bool) (l_1:Tp9) (l_2:Tp14) (l_3:Tp9) (l_4:Tp15) (r6:(Tp11->Int->Int->Int->Int->Tp8->Int->Int->Tp14->Tp15->Bool->Tp9->Tp14->Tp9->Tp15->Option Tp1)) (next':Bool):Option Tp1:=
  if next'=true then
  (zdC ([w,mget l_1 l_2 ((ix signs (0:Int)) - f,(p,(t,()))) ([]:List Int)])).bind (fun y'_243=>
  zaL zab signs tell tell_1 t f f_1 f_2 f_3 f_4 f_5 f_6 l l_1 l_2 l_3 l_4 r6 next' y'_243) else
  zaL zab signs tell tell_1 t f f_1 f_2 f_3 f_4 f_5 f_6 l l_1 l_2 l_3 l_4 r6 next' ([])
def zaH (zab:Tf1) (signs:Tp15) (p:Int) (w:Tp15) (short:Bool) (c_7:Tp14) (r6:Tf2) (tell:Tp11) (tell_1:Int) (t:Int) (f:Int) (f_1:Int) (f_2:Tp8) (f_3:Int) (f_4:Int) (f_5:Tp14) (f_6:Tp15) (l:Bool) (l_1:Tp9) (l_2:Tp14) (l_3:Tp9) (l_4:Tp15):Option Tp1:=
  if (decide (t < (c_7.length:Int)))=true then
  G (0<=(0:Int)/\(0:Int) < (signs.length:Int)) (
  G (fits ((ix signs (0:Int)) - f)) (
  if (decide ((mget l_3 l_4 ((ix signs (0:Int)) - f,(p,(t,()))) (0:Int))=(0:Int)))=true then
  G (fits (t+(1:Int))) (
  r6 tell tell_1 (t+(1:Int)) f f_1 f_2 f_3 f_4 f_5 f_6 l l_1 l_2 l_3 l_4) else
  if short=true then
  if (mhas l_1 ((ix signs (0:Int)) - f,(p,(t,()))))=true then
  G (fits ((w.length:Int)+((mget l_1 l_2 ((ix signs (0:Int)) - f,(p,(t,()))) ([]:List Int)).length:Int))) (
  zaA zab signs p w tell tell_1 t f f_1 f_2 f_3 f_4 f_5 f_6 l l_1 l_2 l_3 l_4 r6 (decide (((w.length:Int)+((mget l_1 l_2 ((ix signs (0:Int)) - f,(p,(t,()))) ([]:List Int)).length:Int))<=(60:Int)))) else
  zaA zab signs p w tell tell_1 t f f_1 f_2 f_3 f_4 f_5 f_6 l l_1 l_2 l_3 l_4 r6 false else
  zaA zab signs p w tell tell_1 t f f_1 f_2 f_3 f_4 f_5 f_6 l l_1 l_2 l_3 l_4 r6 false)) else
  some (f,f_1,f_2,f_3,f_4,f_5,f_6,l,l_1,l_2,l_3,l_4)
def zc6 (zab:Tf1) (signs:Tp15) (p:Int) (w:Tp15) (short:Bool) (c_7:Tp14):(Tp11×Int×Int×Int×Int×Tp8×Int×Int×Tp14×Tp15×Bool×Tp9×Tp14×Tp9×Tp15->Option Tp1)->Tp11×Int×Int×Int×Int×Tp8×Int×Int×Tp14×Tp15×Bool×Tp9×Tp14×Tp9×Tp15->Option Tp1:=
  fun rec x=>zaH zab signs p w short c_7 (fun tell tell_1 t f f_1 f_2 f_3 f_4 f_5 f_6 l l_1 l_2 l_3 l_4=>rec (tell,tell_1,t,f,f_1,f_2,f_3,f_4,f_5,f_6,l,l_1,l_2,l_3,l_4)) x.1 x.2.1 x.2.2.1 x.2.2.2.1 x.2.2.2.2.1 x.2.2.2.2.2.1 x.2.2.2.2.2.2.1 x.2.2.2.2.2.2.2.1 x.2.2.2.2.2.2.2.2.1 x.2.2.2.2.2.2.2.2.2.1 x.2.2.2.2.2.2.2.2.2.2.1 x.2.2.2.2.2.2.2.2.2.2.2.1 x.2.2.2.2.2.2.2.2.2.2.2.2.1 x.2.2.2.2.2.2.2.2.2.2.2.2.2.1 x.2.2.2.2.2.2.2.2.2.2.2.2.2.2
def zav (zab:Tf1) (signs:Tp15) (p:Int) (w:Tp15) (short:Bool) (c_7:Tp14) (tell:Tp11) (tell_1:Int) (t:Int) (f:Int) (f_1:Int) (f_2:Tp8) (f_3:Int) (f_4:Int) (f_5:Tp14) (f_6:Tp15) (l:Bool) (l_1:Tp9) (l_2:Tp14) (l_3:Tp9) (l_4:Tp15):Option Tp1:=LFix (zc6 zab signs p w short c_7 ) (tell,tell_1,t,f,f_1,f_2,f_3,f_4,f_5,f_6,l,l_1,l_2,l_3,l_4)
def zbC (zab:Tf1) (signs:Tp15) (p:Int) (w:Tp15) (short:Bool) (c:Tp11) (c_1:Int) (c_2:Int) (c_3:Int) (c_4:Tp8) (c_5:Int) (c_6:Int) (c_7:Tp14) (c_8:Tp15) (c_9:Bool) (c_10:Tp9) (c_11:Tp14) (c_12:Tp9) (c_13:Tp15):Option Tp1:=
  zav zab signs p w short c_7 c c_1 (0:Int) c_2 c_3 c_4 c_5 c_6 c_7 c_8 c_9 c_10 c_11 c_12 c_13
def zaN (zab:Tf1) (signs:Tp15) (p:Int) (w:Tp15) (short:Bool) (c:Tp11) (c_1:Int) (c_2:Int) (c_3:Int) (c_4:Tp8) (c_5:Int) (c_6:Int) (c_7:Tp14) (c_8:Tp15) (c_9:Bool) (c_10:Tp9) (c_11:Tp14) (c_12:Tp9) (c_13:Tp15):Option Tp1:=
  if (decide ((signs.length:Int)=(0:Int)))=true then
  (zbR p w short c c_1 c_9 c_2 c_3 c_4 c_5 c_6 c_7 c_8 c_10 c_11 c_12 c_13).bind (fun y'_13=>
  some (y'_13.2.1,y'_13.2.2.1,y'_13.2.2.2.1,y'_13.2.2.2.2.1,y'_13.2.2.2.2.2.1,y'_13.2.2.2.2.2.2.1,y'_13.2.2.2.2.2.2.2.1,y'_13.1,y'_13.2.2.2.2.2.2.2.2.1,y'_13.2.2.2.2.2.2.2.2.2.1,y'_13.2.2.2.2.2.2.2.2.2.2.1,y'_13.2.2.2.2.2.2.2.2.2.2.2)) else
  G (0<=(0:Int)/\(0:Int) < (signs.length:Int)) (
  if (decide ((ix signs (0:Int)) < c_2))=true then
  G (0<=(1:Int)/\(1:Int)<=(signs.length:Int)/\(signs.length:Int)<=(signs.length:Int)) (
  both [(.int .i64),(.int .i64),Tc3,(.int .i64),(.int .i64),(.list (.list (.int .i64))),(.list (.int .i64)),.bool,Tc1,(.list (.list (.int .i64))),Tc1,(.list (.int .i64))] (
  G (0<=p/\p < (c_7.length:Int)) (
  G (0<=ix signs (0:Int)/\ix signs (0:Int) < ((ix c_7 p).length:Int)) (
  both [(.int .i64),(.int .i64),Tc3,(.int .i64),(.int .i64),(.list (.list (.int .i64))),(.list (.int .i64)),.bool,Tc1,(.list (.list (.int .i64))),Tc1,(.list (.int .i64))] (
  (zbb w).bind (fun y'_14=>
  G (room y'_14 ([ix signs (0:Int)]) 8) (
  if short=true then
  (zab (cut signs (1:Int) (signs.length:Int)) (ix (ix c_7 p) (ix signs (0:Int))) (y'_14++([ix signs (0:Int)])) (decide ((w.length:Int) < (60:Int))) c c_1 c_2 c_3 c_4 c_5 c_6 c_7 c_8 c_9 c_10 c_11 c_12 c_13).bind (fun y'_28=>
  some (y'_28.1,y'_28.2.1,y'_28.2.2.1,y'_28.2.2.2.1,y'_28.2.2.2.2.1,y'_28.2.2.2.2.2.1,y'_28.2.2.2.2.2.2.1,y'_28.2.2.2.2.2.2.2.1,y'_28.2.2.2.2.2.2.2.2.1,y'_28.2.2.2.2.2.2.2.2.2.1,y'_28.2.2.2.2.2.2.2.2.2.2.1,y'_28.2.2.2.2.2.2.2.2.2.2.2)) else
  (zab (cut signs (1:Int) (signs.length:Int)) (ix (ix c_7 p) (ix signs (0:Int))) (y'_14++([ix signs (0:Int)])) false c c_1 c_2 c_3 c_4 c_5 c_6 c_7 c_8 c_9 c_10 c_11 c_12 c_13).bind (fun y'_42=>
  some (y'_42.1,y'_42.2.1,y'_42.2.2.1,y'_42.2.2.2.1,y'_42.2.2.2.2.1,y'_42.2.2.2.2.2.1,y'_42.2.2.2.2.2.2.1,y'_42.2.2.2.2.2.2.2.1,y'_42.2.2.2.2.2.2.2.2.1,y'_42.2.2.2.2.2.2.2.2.2.1,y'_42.2.2.2.2.2.2.2.2.2.2.1,y'_42.2.2.2.2.2.2.2.2.2.2.2))))) (
  (zbb w).bind (fun y'_43=>
  G (room y'_43 ([ix signs (0:Int)]) 8) (
  if short=true then
  (zab (cut signs (1:Int) (signs.length:Int)) (ix (ix c_7 p) (ix signs (0:Int))) (y'_43++([ix signs (0:Int)])) (decide ((w.length:Int) < (60:Int))) c c_1 c_2 c_3 c_4 c_5 c_6 c_7 c_8 c_9 c_10 c_11 c_12 c_13).bind (fun y'_57=>
  some (y'_57.1,y'_57.2.1,y'_57.2.2.1,y'_57.2.2.2.1,y'_57.2.2.2.2.1,y'_57.2.2.2.2.2.1,y'_57.2.2.2.2.2.2.1,y'_57.2.2.2.2.2.2.2.1,y'_57.2.2.2.2.2.2.2.2.1,y'_57.2.2.2.2.2.2.2.2.2.1,y'_57.2.2.2.2.2.2.2.2.2.2.1,y'_57.2.2.2.2.2.2.2.2.2.2.2)) else
  (zab (cut signs (1:Int) (signs.length:Int)) (ix (ix c_7 p) (ix signs (0:Int))) (y'_43++([ix signs (0:Int)])) false c c_1 c_2 c_3 c_4 c_5 c_6 c_7 c_8 c_9 c_10 c_11 c_12 c_13).bind (fun y'_71=>
  some (y'_71.1,y'_71.2.1,y'_71.2.2.1,y'_71.2.2.2.1,y'_71.2.2.2.2.1,y'_71.2.2.2.2.2.1,y'_71.2.2.2.2.2.2.1,y'_71.2.2.2.2.2.2.2.1,y'_71.2.2.2.2.2.2.2.2.1,y'_71.2.2.2.2.2.2.2.2.2.1,y'_71.2.2.2.2.2.2.2.2.2.2.1,y'_71.2.2.2.2.2.2.2.2.2.2.2)))))))) (
  both [(.int .i64),(.int .i64),Tc3,(.int .i64),(.int .i64),(.list (.list (.int .i64))),(.list (.int .i64)),.bool,Tc1,(.list (.list (.int .i64))),Tc1,(.list (.int .i64))] (
  (zbb w).bind (fun y'_72=>
  both [(.int .i64),(.int .i64),Tc3,(.int .i64),(.int .i64),(.list (.list (.int .i64))),(.list (.int .i64)),.bool,Tc1,(.list (.list (.int .i64))),Tc1,(.list (.int .i64))] (
  G (0<=p/\p < (c_7.length:Int)) (
  G (0<=ix signs (0:Int)/\ix signs (0:Int) < ((ix c_7 p).length:Int)) (
  G (room y'_72 ([ix signs (0:Int)]) 8) (
  if short=true then
  (zab (cut signs (1:Int) (signs.length:Int)) (ix (ix c_7 p) (ix signs (0:Int))) (y'_72++([ix signs (0:Int)])) (decide ((w.length:Int) < (60:Int))) c c_1 c_2 c_3 c_4 c_5 c_6 c_7 c_8 c_9 c_10 c_11 c_12 c_13).bind (fun y'_86=>
  some (y'_86.1,y'_86.2.1,y'_86.2.2.1,y'_86.2.2.2.1,y'_86.2.2.2.2.1,y'_86.2.2.2.2.2.1,y'_86.2.2.2.2.2.2.1,y'_86.2.2.2.2.2.2.2.1,y'_86.2.2.2.2.2.2.2.2.1,y'_86.2.2.2.2.2.2.2.2.2.1,y'_86.2.2.2.2.2.2.2.2.2.2.1,y'_86.2.2.2.2.2.2.2.2.2.2.2)) else
  (zab (cut signs (1:Int) (signs.length:Int)) (ix (ix c_7 p) (ix signs (0:Int))) (y'_72++([ix signs (0:Int)])) false c c_1 c_2 c_3 c_4 c_5 c_6 c_7 c_8 c_9 c_10 c_11 c_12 c_13).bind (fun y'_100=>
  some (y'_100.1,y'_100.2.1,y'_100.2.2.1,y'_100.2.2.2.1,y'_100.2.2.2.2.1,y'_100.2.2.2.2.2.1,y'_100.2.2.2.2.2.2.1,y'_100.2.2.2.2.2.2.2.1,y'_100.2.2.2.2.2.2.2.2.1,y'_100.2.2.2.2.2.2.2.2.2.1,y'_100.2.2.2.2.2.2.2.2.2.2.1,y'_100.2.2.2.2.2.2.2.2.2.2.2)))))) (
  both [(.int .i64),(.int .i64),Tc3,(.int .i64),(.int .i64),(.list (.list (.int .i64))),(.list (.int .i64)),.bool,Tc1,(.list (.list (.int .i64))),Tc1,(.list (.int .i64))] (
  G (0<=p/\p < (c_7.length:Int)) (
  G (0<=ix signs (0:Int)/\ix signs (0:Int) < ((ix c_7 p).length:Int)) (
  G (room y'_72 ([ix signs (0:Int)]) 8) (
  if short=true then
  (zab (cut signs (1:Int) (signs.length:Int)) (ix (ix c_7 p) (ix signs (0:Int))) (y'_72++([ix signs (0:Int)])) (decide ((w.length:Int) < (60:Int))) c c_1 c_2 c_3 c_4 c_5 c_6 c_7 c_8 c_9 c_10 c_11 c_12 c_13).bind (fun y'_114=>
  some (y'_114.1,y'_114.2.1,y'_114.2.2.1,y'_114.2.2.2.1,y'_114.2.2.2.2.1,y'_114.2.2.2.2.2.1,y'_114.2.2.2.2.2.2.1,y'_114.2.2.2.2.2.2.2.1,y'_114.2.2.2.2.2.2.2.2.1,y'_114.2.2.2.2.2.2.2.2.2.1,y'_114.2.2.2.2.2.2.2.2.2.2.1,y'_114.2.2.2.2.2.2.2.2.2.2.2)) else
  (zab (cut signs (1:Int) (signs.length:Int)) (ix (ix c_7 p) (ix signs (0:Int))) (y'_72++([ix signs (0:Int)])) false c c_1 c_2 c_3 c_4 c_5 c_6 c_7 c_8 c_9 c_10 c_11 c_12 c_13).bind (fun y'_128=>
  some (y'_128.1,y'_128.2.1,y'_128.2.2.1,y'_128.2.2.2.1,y'_128.2.2.2.2.1,y'_128.2.2.2.2.2.1,y'_128.2.2.2.2.2.2.1,y'_128.2.2.2.2.2.2.2.1,y'_128.2.2.2.2.2.2.2.2.1,y'_128.2.2.2.2.2.2.2.2.2.1,y'_128.2.2.2.2.2.2.2.2.2.2.1,y'_128.2.2.2.2.2.2.2.2.2.2.2)))))) (
  G (room y'_72 ([ix signs (0:Int)]) 8) (
  if short=true then
  G (0<=p/\p < (c_7.length:Int)) (
  G (0<=ix signs (0:Int)/\ix signs (0:Int) < ((ix c_7 p).length:Int)) (
  (zab (cut signs (1:Int) (signs.length:Int)) (ix (ix c_7 p) (ix signs (0:Int))) (y'_72++([ix signs (0:Int)])) (decide ((w.length:Int) < (60:Int))) c c_1 c_2 c_3 c_4 c_5 c_6 c_7 c_8 c_9 c_10 c_11 c_12 c_13).bind (fun y'_142=>
  some (y'_142.1,y'_142.2.1,y'_142.2.2.1,y'_142.2.2.2.1,y'_142.2.2.2.2.1,y'_142.2.2.2.2.2.1,y'_142.2.2.2.2.2.2.1,y'_142.2.2.2.2.2.2.2.1,y'_142.2.2.2.2.2.2.2.2.1,y'_142.2.2.2.2.2.2.2.2.2.1,y'_142.2.2.2.2.2.2.2.2.2.2.1,y'_142.2.2.2.2.2.2.2.2.2.2.2)))) else
  G (0<=p/\p < (c_7.length:Int)) (
  G (0<=ix signs (0:Int)/\ix signs (0:Int) < ((ix c_7 p).length:Int)) (
  (zab (cut signs (1:Int) (signs.length:Int)) (ix (ix c_7 p) (ix signs (0:Int))) (y'_72++([ix signs (0:Int)])) false c c_1 c_2 c_3 c_4 c_5 c_6 c_7 c_8 c_9 c_10 c_11 c_12 c_13).bind (fun y'_156=>
  some (y'_156.1,y'_156.2.1,y'_156.2.2.1,y'_156.2.2.2.1,y'_156.2.2.2.2.1,y'_156.2.2.2.2.2.1,y'_156.2.2.2.2.2.2.1,y'_156.2.2.2.2.2.2.2.1,y'_156.2.2.2.2.2.2.2.2.1,y'_156.2.2.2.2.2.2.2.2.2.1,y'_156.2.2.2.2.2.2.2.2.2.2.1,y'_156.2.2.2.2.2.2.2.2.2.2.2))))))))) (
  both [(.int .i64),(.int .i64),Tc3,(.int .i64),(.int .i64),(.list (.list (.int .i64))),(.list (.int .i64)),.bool,Tc1,(.list (.list (.int .i64))),Tc1,(.list (.int .i64))] (
  G (0<=p/\p < (c_7.length:Int)) (
  G (0<=ix signs (0:Int)/\ix signs (0:Int) < ((ix c_7 p).length:Int)) (
  (zbb w).bind (fun y'_157=>
  G (room y'_157 ([ix signs (0:Int)]) 8) (
  if short=true then
  (zab (cut signs (1:Int) (signs.length:Int)) (ix (ix c_7 p) (ix signs (0:Int))) (y'_157++([ix signs (0:Int)])) (decide ((w.length:Int) < (60:Int))) c c_1 c_2 c_3 c_4 c_5 c_6 c_7 c_8 c_9 c_10 c_11 c_12 c_13).bind (fun y'_171=>
  some (y'_171.1,y'_171.2.1,y'_171.2.2.1,y'_171.2.2.2.1,y'_171.2.2.2.2.1,y'_171.2.2.2.2.2.1,y'_171.2.2.2.2.2.2.1,y'_171.2.2.2.2.2.2.2.1,y'_171.2.2.2.2.2.2.2.2.1,y'_171.2.2.2.2.2.2.2.2.2.1,y'_171.2.2.2.2.2.2.2.2.2.2.1,y'_171.2.2.2.2.2.2.2.2.2.2.2)) else
  (zab (cut signs (1:Int) (signs.length:Int)) (ix (ix c_7 p) (ix signs (0:Int))) (y'_157++([ix signs (0:Int)])) false c c_1 c_2 c_3 c_4 c_5 c_6 c_7 c_8 c_9 c_10 c_11 c_12 c_13).bind (fun y'_185=>
  some (y'_185.1,y'_185.2.1,y'_185.2.2.1,y'_185.2.2.2.1,y'_185.2.2.2.2.1,y'_185.2.2.2.2.2.1,y'_185.2.2.2.2.2.2.1,y'_185.2.2.2.2.2.2.2.1,y'_185.2.2.2.2.2.2.2.2.1,y'_185.2.2.2.2.2.2.2.2.2.1,y'_185.2.2.2.2.2.2.2.2.2.2.1,y'_185.2.2.2.2.2.2.2.2.2.2.2))))))) (
  (zbb w).bind (fun y'_186=>
  both [(.int .i64),(.int .i64),Tc3,(.int .i64),(.int .i64),(.list (.list (.int .i64))),(.list (.int .i64)),.bool,Tc1,(.list (.list (.int .i64))),Tc1,(.list (.int .i64))] (
  G (0<=p/\p < (c_7.length:Int)) (
  G (0<=ix signs (0:Int)/\ix signs (0:Int) < ((ix c_7 p).length:Int)) (
  G (room y'_186 ([ix signs (0:Int)]) 8) (
  if short=true then
  (zab (cut signs (1:Int) (signs.length:Int)) (ix (ix c_7 p) (ix signs (0:Int))) (y'_186++([ix signs (0:Int)])) (decide ((w.length:Int) < (60:Int))) c c_1 c_2 c_3 c_4 c_5 c_6 c_7 c_8 c_9 c_10 c_11 c_12 c_13).bind (fun y'_200=>
  some (y'_200.1,y'_200.2.1,y'_200.2.2.1,y'_200.2.2.2.1,y'_200.2.2.2.2.1,y'_200.2.2.2.2.2.1,y'_200.2.2.2.2.2.2.1,y'_200.2.2.2.2.2.2.2.1,y'_200.2.2.2.2.2.2.2.2.1,y'_200.2.2.2.2.2.2.2.2.2.1,y'_200.2.2.2.2.2.2.2.2.2.2.1,y'_200.2.2.2.2.2.2.2.2.2.2.2)) else
  (zab (cut signs (1:Int) (signs.length:Int)) (ix (ix c_7 p) (ix signs (0:Int))) (y'_186++([ix signs (0:Int)])) false c c_1 c_2 c_3 c_4 c_5 c_6 c_7 c_8 c_9 c_10 c_11 c_12 c_13).bind (fun y'_214=>
  some (y'_214.1,y'_214.2.1,y'_214.2.2.1,y'_214.2.2.2.1,y'_214.2.2.2.2.1,y'_214.2.2.2.2.2.1,y'_214.2.2.2.2.2.2.1,y'_214.2.2.2.2.2.2.2.1,y'_214.2.2.2.2.2.2.2.2.1,y'_214.2.2.2.2.2.2.2.2.2.1,y'_214.2.2.2.2.2.2.2.2.2.2.1,y'_214.2.2.2.2.2.2.2.2.2.2.2)))))) (
  G (room y'_186 ([ix signs (0:Int)]) 8) (
  if short=true then
  G (0<=p/\p < (c_7.length:Int)) (
  G (0<=ix signs (0:Int)/\ix signs (0:Int) < ((ix c_7 p).length:Int)) (
  (zab (cut signs (1:Int) (signs.length:Int)) (ix (ix c_7 p) (ix signs (0:Int))) (y'_186++([ix signs (0:Int)])) (decide ((w.length:Int) < (60:Int))) c c_1 c_2 c_3 c_4 c_5 c_6 c_7 c_8 c_9 c_10 c_11 c_12 c_13).bind (fun y'_228=>
  some (y'_228.1,y'_228.2.1,y'_228.2.2.1,y'_228.2.2.2.1,y'_228.2.2.2.2.1,y'_228.2.2.2.2.2.1,y'_228.2.2.2.2.2.2.1,y'_228.2.2.2.2.2.2.2.1,y'_228.2.2.2.2.2.2.2.2.1,y'_228.2.2.2.2.2.2.2.2.2.1,y'_228.2.2.2.2.2.2.2.2.2.2.1,y'_228.2.2.2.2.2.2.2.2.2.2.2)))) else
  G (0<=p/\p < (c_7.length:Int)) (
  G (0<=ix signs (0:Int)/\ix signs (0:Int) < ((ix c_7 p).length:Int)) (
  (zab (cut signs (1:Int) (signs.length:Int)) (ix (ix c_7 p) (ix signs (0:Int))) (y'_186++([ix signs (0:Int)])) false c c_1 c_2 c_3 c_4 c_5 c_6 c_7 c_8 c_9 c_10 c_11 c_12 c_13).bind (fun y'_242=>
  some (y'_242.1,y'_242.2.1,y'_242.2.2.1,y'_242.2.2.2.1,y'_242.2.2.2.2.1,y'_242.2.2.2.2.2.1,y'_242.2.2.2.2.2.2.1,y'_242.2.2.2.2.2.2.2.1,y'_242.2.2.2.2.2.2.2.2.1,y'_242.2.2.2.2.2.2.2.2.2.1,y'_242.2.2.2.2.2.2.2.2.2.2.1,y'_242.2.2.2.2.2.2.2.2.2.2.2))))))))))) else
  zbC zab signs p w short c c_1 c_2 c_3 c_4 c_5 c_6 c_7 c_8 c_9 c_10 c_11 c_12 c_13)
theorem za5 (zab:Nat->Tf1) (zad:Tf1) (zag:∀ a0 a1 a2 a3 a4 a5 a6 a7 a8 a9 a10 a11 a12 a13 a14 a15 a16 a17,ChO (fun κ=>zab κ a0 a1 a2 a3 a4 a5 a6 a7 a8 a9 a10 a11 a12 a13 a14 a15 a16 a17) (zad a0 a1 a2 a3 a4 a5 a6 a7 a8 a9 a10 a11 a12 a13 a14 a15 a16 a17)) (r6:Nat->Tf2) (r6':Tf2) (h_r6:∀ a0 a1 a2 a3 a4 a5 a6 a7 a8 a9 a10 a11 a12 a13 a14,ChO (fun κ=>r6 κ a0 a1 a2 a3 a4 a5 a6 a7 a8 a9 a10 a11 a12 a13 a14) (r6' a0 a1 a2 a3 a4 a5 a6 a7 a8 a9 a10 a11 a12 a13 a14)) (signs:Tp15) (tell:Tp11) (tell_1:Int) (t:Int) (f:Int) (f_1:Int) (f_2:Tp8) (f_3:Int) (f_4:Int) (f_5:Tp14) (f_6:Tp15) (l:Bool) (l_1:Tp9) (l_2:Tp14) (l_3:Tp9) (l_4:Tp15) (next':Bool) (both':Tp15):ChO (fun κ=>zaL (zab κ) signs tell tell_1 t f f_1 f_2 f_3 f_4 f_5 f_6 l l_1 l_2 l_3 l_4 (r6 κ) next' both') (zaL zad signs tell tell_1 t f f_1 f_2 f_3 f_4 f_5 f_6 l l_1 l_2 l_3 l_4 r6' next' both'):=by
  unfold zaL
  repeat' with_reducible first | exact ChO.const _ | exact zag _ _ _ _ _ _ _ _ _ _ _ _ _ _ _ _ _ _ | exact h_r6 _ _ _ _ _ _ _ _ _ _ _ _ _ _ _ | apply ChO.ite | apply ChO.G | apply ChO.both | (apply ChO.bind;intro _) | (apply ChO.bind2 (zag _ _ _ _ _ _ _ _ _ _ _ _ _ _ _ _ _ _);intro _)
theorem zbB (zab:Nat->Tf1) (zad:Tf1) (zag:∀ a0 a1 a2 a3 a4 a5 a6 a7 a8 a9 a10 a11 a12 a13 a14 a15 a16 a17,ChO (fun κ=>zab κ a0 a1 a2 a3 a4 a5 a6 a7 a8 a9 a10 a11 a12 a13 a14 a15 a16 a17) (zad a0 a1 a2 a3 a4 a5 a6 a7 a8 a9 a10 a11 a12 a13 a14 a15 a16 a17)) (r6:Nat->Tf2) (r6':Tf2) (h_r6:∀ a0 a1 a2 a3 a4 a5 a6 a7 a8 a9 a10 a11 a12 a13 a14,ChO (fun κ=>r6 κ a0 a1 a2 a3 a4 a5 a6 a7 a8 a9 a10 a11 a12 a13 a14) (r6' a0 a1 a2 a3 a4 a5 a6 a7 a8 a9 a10 a11 a12 a13 a14)) (signs:Tp15) (p:Int) (w:Tp15) (tell:Tp11) (tell_1:Int) (t:Int) (f:Int) (f_1:Int) (f_2:Tp8) (f_3:Int) (f_4:Int) (f_5:Tp14) (f_6:Tp15) (l:Bool) (l_1:Tp9) (l_2:Tp14) (l_3:Tp9) (l_4:Tp15) (next':Bool):ChO (fun κ=>zaA (zab κ) signs p w tell tell_1 t f f_1 f_2 f_3 f_4 f_5 f_6 l l_1 l_2 l_3 l_4 (r6 κ) next') (zaA zad signs p w tell tell_1 t f f_1 f_2 f_3 f_4 f_5 f_6 l l_1 l_2 l_3 l_4 r6' next'):=by
  unfold zaA
  repeat' with_reducible first | exact ChO.const _ | exact zag _ _ _ _ _ _ _ _ _ _ _ _ _ _ _ _ _ _ | exact h_r6 _ _ _ _ _ _ _ _ _ _ _ _ _ _ _ | (apply za5<;>assumption) | apply ChO.ite | apply ChO.G | apply ChO.both | (apply ChO.bind;intro _) | (apply ChO.bind2 (zag _ _ _ _ _ _ _ _ _ _ _ _ _ _ _ _ _ _);intro _)
theorem zco (zab:Nat->Tf1) (zad:Tf1) (zag:∀ a0 a1 a2 a3 a4 a5 a6 a7 a8 a9 a10 a11 a12 a13 a14 a15 a16 a17,ChO (fun κ=>zab κ a0 a1 a2 a3 a4 a5 a6 a7 a8 a9 a10 a11 a12 a13 a14 a15 a16 a17) (zad a0 a1 a2 a3 a4 a5 a6 a7 a8 a9 a10 a11 a12 a13 a14 a15 a16 a17)) (r6:Nat->Tf2) (r6':Tf2) (h_r6:∀ a0 a1 a2 a3 a4 a5 a6 a7 a8 a9 a10 a11 a12 a13 a14,ChO (fun κ=>r6 κ a0 a1 a2 a3 a4 a5 a6 a7 a8 a9 a10 a11 a12 a13 a14) (r6' a0 a1 a2 a3 a4 a5 a6 a7 a8 a9 a10 a11 a12 a13 a14)) (signs:Tp15) (p:Int) (w:Tp15) (short:Bool) (c_7:Tp14) (tell:Tp11) (tell_1:Int) (t:Int) (f:Int) (f_1:Int) (f_2:Tp8) (f_3:Int) (f_4:Int) (f_5:Tp14) (f_6:Tp15) (l:Bool) (l_1:Tp9) (l_2:Tp14) (l_3:Tp9) (l_4:Tp15):ChO (fun κ=>zaH (zab κ) signs p w short c_7 (r6 κ) tell tell_1 t f f_1 f_2 f_3 f_4 f_5 f_6 l l_1 l_2 l_3 l_4) (zaH zad signs p w short c_7 r6' tell tell_1 t f f_1 f_2 f_3 f_4 f_5 f_6 l l_1 l_2 l_3 l_4):=by
  unfold zaH
  repeat' with_reducible first | exact ChO.const _ | exact zag _ _ _ _ _ _ _ _ _ _ _ _ _ _ _ _ _ _ | exact h_r6 _ _ _ _ _ _ _ _ _ _ _ _ _ _ _ | (apply za5<;>assumption) | (apply zbB<;>assumption) | apply ChO.ite | apply ChO.G | apply ChO.both | (apply ChO.bind;intro _) | (apply ChO.bind2 (zag _ _ _ _ _ _ _ _ _ _ _ _ _ _ _ _ _ _);intro _)
theorem zbQ (zab:Tf1) (signs:Tp15) (p:Int) (w:Tp15) (short:Bool) (c_7:Tp14):Cn (zc6 zab signs p w short c_7):=fun g h hg x=>zco (fun _=>zab) zab (fun _ _ _ _ _ _ _ _ _ _ _ _ _ _ _ _ _ _=>ChO.const _) (fun κ tell tell_1 t f f_1 f_2 f_3 f_4 f_5 f_6 l l_1 l_2 l_3 l_4=>g κ (tell,tell_1,t,f,f_1,f_2,f_3,f_4,f_5,f_6,l,l_1,l_2,l_3,l_4)) (fun tell tell_1 t f f_1 f_2 f_3 f_4 f_5 f_6 l l_1 l_2 l_3 l_4=>h (tell,tell_1,t,f,f_1,f_2,f_3,f_4,f_5,f_6,l,l_1,l_2,l_3,l_4)) (fun tell tell_1 t f f_1 f_2 f_3 f_4 f_5 f_6 l l_1 l_2 l_3 l_4=>hg (tell,tell_1,t,f,f_1,f_2,f_3,f_4,f_5,f_6,l,l_1,l_2,l_3,l_4)) signs p w short c_7 x.1 x.2.1 x.2.2.1 x.2.2.2.1 x.2.2.2.2.1 x.2.2.2.2.2.1 x.2.2.2.2.2.2.1 x.2.2.2.2.2.2.2.1 x.2.2.2.2.2.2.2.2.1 x.2.2.2.2.2.2.2.2.2.1 x.2.2.2.2.2.2.2.2.2.2.1 x.2.2.2.2.2.2.2.2.2.2.2.1 x.2.2.2.2.2.2.2.2.2.2.2.2.1 x.2.2.2.2.2.2.2.2.2.2.2.2.2.1 x.2.2.2.2.2.2.2.2.2.2.2.2.2.2
theorem zcO (zab:Tf1) (signs:Tp15) (p:Int) (w:Tp15) (short:Bool) (c_7:Tp14) (tell:Tp11) (tell_1:Int) (t:Int) (f:Int) (f_1:Int) (f_2:Tp8) (f_3:Int) (f_4:Int) (f_5:Tp14) (f_6:Tp15) (l:Bool) (l_1:Tp9) (l_2:Tp14) (l_3:Tp9) (l_4:Tp15):zav zab signs p w short c_7 tell tell_1 t f f_1 f_2 f_3 f_4 f_5 f_6 l l_1 l_2 l_3 l_4=zaH zab signs p w short c_7 (zav zab signs p w short c_7) tell tell_1 t f f_1 f_2 f_3 f_4 f_5 f_6 l l_1 l_2 l_3 l_4:=zbl (zbQ zab signs p w short c_7) (tell,tell_1,t,f,f_1,f_2,f_3,f_4,f_5,f_6,l,l_1,l_2,l_3,l_4)
theorem zcN (zab:Nat->Tf1) (zad:Tf1) (zag:∀ a0 a1 a2 a3 a4 a5 a6 a7 a8 a9 a10 a11 a12 a13 a14 a15 a16 a17,ChO (fun κ=>zab κ a0 a1 a2 a3 a4 a5 a6 a7 a8 a9 a10 a11 a12 a13 a14 a15 a16 a17) (zad a0 a1 a2 a3 a4 a5 a6 a7 a8 a9 a10 a11 a12 a13 a14 a15 a16 a17)) (signs:Tp15) (p:Int) (w:Tp15) (short:Bool) (c_7:Tp14) (tell:Tp11) (tell_1:Int) (t:Int) (f:Int) (f_1:Int) (f_2:Tp8) (f_3:Int) (f_4:Int) (f_5:Tp14) (f_6:Tp15) (l:Bool) (l_1:Tp9) (l_2:Tp14) (l_3:Tp9) (l_4:Tp15):ChO (fun κ=>zav (zab κ) signs p w short c_7 tell tell_1 t f f_1 f_2 f_3 f_4 f_5 f_6 l l_1 l_2 l_3 l_4) (zav zad signs p w short c_7 tell tell_1 t f f_1 f_2 f_3 f_4 f_5 f_6 l l_1 l_2 l_3 l_4):=by
  unfold zav
  exact zgX (fun κ=>(zbQ (zab κ) signs p w short c_7).mono) (zbQ zad signs p w short c_7).mono (fun g h hg x=>zco zab zad zag (fun κ tell tell_1 t f f_1 f_2 f_3 f_4 f_5 f_6 l l_1 l_2 l_3 l_4=>g κ (tell,tell_1,t,f,f_1,f_2,f_3,f_4,f_5,f_6,l,l_1,l_2,l_3,l_4)) (fun tell tell_1 t f f_1 f_2 f_3 f_4 f_5 f_6 l l_1 l_2 l_3 l_4=>h (tell,tell_1,t,f,f_1,f_2,f_3,f_4,f_5,f_6,l,l_1,l_2,l_3,l_4)) (fun tell tell_1 t f f_1 f_2 f_3 f_4 f_5 f_6 l l_1 l_2 l_3 l_4=>hg (tell,tell_1,t,f,f_1,f_2,f_3,f_4,f_5,f_6,l,l_1,l_2,l_3,l_4)) signs p w short c_7 x.1 x.2.1 x.2.2.1 x.2.2.2.1 x.2.2.2.2.1 x.2.2.2.2.2.1 x.2.2.2.2.2.2.1 x.2.2.2.2.2.2.2.1 x.2.2.2.2.2.2.2.2.1 x.2.2.2.2.2.2.2.2.2.1 x.2.2.2.2.2.2.2.2.2.2.1 x.2.2.2.2.2.2.2.2.2.2.2.1 x.2.2.2.2.2.2.2.2.2.2.2.2.1 x.2.2.2.2.2.2.2.2.2.2.2.2.2.1 x.2.2.2.2.2.2.2.2.2.2.2.2.2.2) _
theorem zfy (zab:Nat->Tf1) (zad:Tf1) (zag:∀ a0 a1 a2 a3 a4 a5 a6 a7 a8 a9 a10 a11 a12 a13 a14 a15 a16 a17,ChO (fun κ=>zab κ a0 a1 a2 a3 a4 a5 a6 a7 a8 a9 a10 a11 a12 a13 a14 a15 a16 a17) (zad a0 a1 a2 a3 a4 a5 a6 a7 a8 a9 a10 a11 a12 a13 a14 a15 a16 a17)) (signs:Tp15) (p:Int) (w:Tp15) (short:Bool) (c:Tp11) (c_1:Int) (c_2:Int) (c_3:Int) (c_4:Tp8) (c_5:Int) (c_6:Int) (c_7:Tp14) (c_8:Tp15) (c_9:Bool) (c_10:Tp9) (c_11:Tp14) (c_12:Tp9) (c_13:Tp15):ChO (fun κ=>zbC (zab κ) signs p w short c c_1 c_2 c_3 c_4 c_5 c_6 c_7 c_8 c_9 c_10 c_11 c_12 c_13) (zbC zad signs p w short c c_1 c_2 c_3 c_4 c_5 c_6 c_7 c_8 c_9 c_10 c_11 c_12 c_13):=by
  unfold zbC
  repeat' with_reducible first | exact ChO.const _ | exact zag _ _ _ _ _ _ _ _ _ _ _ _ _ _ _ _ _ _ | (apply za5<;>assumption) | (apply zbB<;>assumption) | (apply zcN<;>assumption) | apply ChO.ite | apply ChO.G | apply ChO.both | (apply ChO.bind;intro _) | (apply ChO.bind2 (zag _ _ _ _ _ _ _ _ _ _ _ _ _ _ _ _ _ _);intro _)
theorem zfR (zab:Nat->Tf1) (zad:Tf1) (zag:∀ a0 a1 a2 a3 a4 a5 a6 a7 a8 a9 a10 a11 a12 a13 a14 a15 a16 a17,ChO (fun κ=>zab κ a0 a1 a2 a3 a4 a5 a6 a7 a8 a9 a10 a11 a12 a13 a14 a15 a16 a17) (zad a0 a1 a2 a3 a4 a5 a6 a7 a8 a9 a10 a11 a12 a13 a14 a15 a16 a17)) (signs:Tp15) (p:Int) (w:Tp15) (short:Bool) (c:Tp11) (c_1:Int) (c_2:Int) (c_3:Int) (c_4:Tp8) (c_5:Int) (c_6:Int) (c_7:Tp14) (c_8:Tp15) (c_9:Bool) (c_10:Tp9) (c_11:Tp14) (c_12:Tp9) (c_13:Tp15):ChO (fun κ=>zaN (zab κ) signs p w short c c_1 c_2 c_3 c_4 c_5 c_6 c_7 c_8 c_9 c_10 c_11 c_12 c_13) (zaN zad signs p w short c c_1 c_2 c_3 c_4 c_5 c_6 c_7 c_8 c_9 c_10 c_11 c_12 c_13):=by
  unfold zaN
  repeat' with_reducible first | exact ChO.const _ | exact zag _ _ _ _ _ _ _ _ _ _ _ _ _ _ _ _ _ _ | (apply za5<;>assumption) | (apply zbB<;>assumption) | (apply zcN<;>assumption) | (apply zfy<;>assumption) | apply ChO.ite | apply ChO.G | apply ChO.both | (apply ChO.bind;intro _) | (apply ChO.bind2 (zag _ _ _ _ _ _ _ _ _ _ _ _ _ _ _ _ _ _);intro _)
def zbS:(Tp15×Int×Tp15×Bool×Tp11×Int×Int×Int×Tp8×Int×Int×Tp14×Tp15×Bool×Tp9×Tp14×Tp9×Tp15->Option Tp1)->Tp15×Int×Tp15×Bool×Tp11×Int×Int×Int×Tp8×Int×Int×Tp14×Tp15×Bool×Tp9×Tp14×Tp9×Tp15->Option Tp1:=
  fun rec X=>zaN (fun signs p w short c c_1 c_2 c_3 c_4 c_5 c_6 c_7 c_8 c_9 c_10 c_11 c_12 c_13=>rec (signs,p,w,short,c,c_1,c_2,c_3,c_4,c_5,c_6,c_7,c_8,c_9,c_10,c_11,c_12,c_13)) X.1 X.2.1 X.2.2.1 X.2.2.2.1 X.2.2.2.2.1 X.2.2.2.2.2.1 X.2.2.2.2.2.2.1 X.2.2.2.2.2.2.2.1 X.2.2.2.2.2.2.2.2.1 X.2.2.2.2.2.2.2.2.2.1 X.2.2.2.2.2.2.2.2.2.2.1 X.2.2.2.2.2.2.2.2.2.2.2.1 X.2.2.2.2.2.2.2.2.2.2.2.2.1 X.2.2.2.2.2.2.2.2.2.2.2.2.2.1 X.2.2.2.2.2.2.2.2.2.2.2.2.2.2.1 X.2.2.2.2.2.2.2.2.2.2.2.2.2.2.2.1 X.2.2.2.2.2.2.2.2.2.2.2.2.2.2.2.2.1 X.2.2.2.2.2.2.2.2.2.2.2.2.2.2.2.2.2
def zay (signs:Tp15) (p:Int) (w:Tp15) (short:Bool) (c:Tp11) (c_1:Int) (c_2:Int) (c_3:Int) (c_4:Tp8) (c_5:Int) (c_6:Int) (c_7:Tp14) (c_8:Tp15) (c_9:Bool) (c_10:Tp9) (c_11:Tp14) (c_12:Tp9) (c_13:Tp15):Option Tp1:=LFix zbS (signs,p,w,short,c,c_1,c_2,c_3,c_4,c_5,c_6,c_7,c_8,c_9,c_10,c_11,c_12,c_13)
theorem zg5:Cn zbS:=fun g h hg X=>zfR _ _ (fun signs p w short c c_1 c_2 c_3 c_4 c_5 c_6 c_7 c_8 c_9 c_10 c_11 c_12 c_13=>hg (signs,p,w,short,c,c_1,c_2,c_3,c_4,c_5,c_6,c_7,c_8,c_9,c_10,c_11,c_12,c_13)) X.1 X.2.1 X.2.2.1 X.2.2.2.1 X.2.2.2.2.1 X.2.2.2.2.2.1 X.2.2.2.2.2.2.1 X.2.2.2.2.2.2.2.1 X.2.2.2.2.2.2.2.2.1 X.2.2.2.2.2.2.2.2.2.1 X.2.2.2.2.2.2.2.2.2.2.1 X.2.2.2.2.2.2.2.2.2.2.2.1 X.2.2.2.2.2.2.2.2.2.2.2.2.1 X.2.2.2.2.2.2.2.2.2.2.2.2.2.1 X.2.2.2.2.2.2.2.2.2.2.2.2.2.2.1 X.2.2.2.2.2.2.2.2.2.2.2.2.2.2.2.1 X.2.2.2.2.2.2.2.2.2.2.2.2.2.2.2.2.1 X.2.2.2.2.2.2.2.2.2.2.2.2.2.2.2.2.2
theorem zcg (signs:Tp15) (p:Int) (w:Tp15) (short:Bool) (c:Tp11) (c_1:Int) (c_2:Int) (c_3:Int) (c_4:Tp8) (c_5:Int) (c_6:Int) (c_7:Tp14) (c_8:Tp15) (c_9:Bool) (c_10:Tp9) (c_11:Tp14) (c_12:Tp9) (c_13:Tp15):zay signs p w short c c_1 c_2 c_3 c_4 c_5 c_6 c_7 c_8 c_9 c_10 c_11 c_12 c_13=zaN zay signs p w short c c_1 c_2 c_3 c_4 c_5 c_6 c_7 c_8 c_9 c_10 c_11 c_12 c_13:=zbl zg5 (signs,p,w,short,c,c_1,c_2,c_3,c_4,c_5,c_6,c_7,c_8,c_9,c_10,c_11,c_12,c_13)

def zaG (t:Int) (l_16:Tp14) (r5:(Int->Bool->Int->Int->Tp8->Int->Int->Tp14->Tp15->Tp9->Tp14->Tp9->Tp15->Option Tp2)) (r8:Tf4) (m:Tp11) (t_1:Int) (again_2:Bool) (l_22:Int) (l_23:Int) (l_24:Tp8) (l_25:Int) (l_26:Int) (l_27:Tp14) (l_28:Tp15) (l_29:Tp9) (l_30:Tp14) (l_31:Tp9) (l_32:Tp15):Option Tp2:=
  if (decide (t_1 < (l_16.length:Int)))=true then
  (zay m.2.1 t_1 ([]) true m t_1 l_22 l_23 l_24 l_25 l_26 l_27 l_28 again_2 l_29 l_30 l_31 l_32).bind (fun y'_13=>
  G (fits (t_1+(1:Int))) (
  r8 m (t_1+(1:Int)) y'_13.2.2.2.2.2.2.2.1 y'_13.1 y'_13.2.1 y'_13.2.2.1 y'_13.2.2.2.1 y'_13.2.2.2.2.1 y'_13.2.2.2.2.2.1 y'_13.2.2.2.2.2.2.1 y'_13.2.2.2.2.2.2.2.2.1 y'_13.2.2.2.2.2.2.2.2.2.1 y'_13.2.2.2.2.2.2.2.2.2.2.1 y'_13.2.2.2.2.2.2.2.2.2.2.2)) else
  G (fits (t+(1:Int))) (
  r5 (t+(1:Int)) again_2 l_22 l_23 l_24 l_25 l_26 l_27 l_28 l_29 l_30 l_31 l_32)
def zc5 (t:Int) (l_16:Tp14) (r5:(Int->Bool->Int->Int->Tp8->Int->Int->Tp14->Tp15->Tp9->Tp14->Tp9->Tp15->Option Tp2)):(Tp11×Int×Bool×Int×Int×Tp8×Int×Int×Tp14×Tp15×Tp9×Tp14×Tp9×Tp15->Option Tp2)->Tp11×Int×Bool×Int×Int×Tp8×Int×Int×Tp14×Tp15×Tp9×Tp14×Tp9×Tp15->Option Tp2:=
  fun rec x=>zaG t l_16 r5 (fun m t_1 again_2 l_22 l_23 l_24 l_25 l_26 l_27 l_28 l_29 l_30 l_31 l_32=>rec (m,t_1,again_2,l_22,l_23,l_24,l_25,l_26,l_27,l_28,l_29,l_30,l_31,l_32)) x.1 x.2.1 x.2.2.1 x.2.2.2.1 x.2.2.2.2.1 x.2.2.2.2.2.1 x.2.2.2.2.2.2.1 x.2.2.2.2.2.2.2.1 x.2.2.2.2.2.2.2.2.1 x.2.2.2.2.2.2.2.2.2.1 x.2.2.2.2.2.2.2.2.2.2.1 x.2.2.2.2.2.2.2.2.2.2.2.1 x.2.2.2.2.2.2.2.2.2.2.2.2.1 x.2.2.2.2.2.2.2.2.2.2.2.2.2
def zaP (t:Int) (l_16:Tp14) (r5:(Int->Bool->Int->Int->Tp8->Int->Int->Tp14->Tp15->Tp9->Tp14->Tp9->Tp15->Option Tp2)) (m:Tp11) (t_1:Int) (again_2:Bool) (l_22:Int) (l_23:Int) (l_24:Tp8) (l_25:Int) (l_26:Int) (l_27:Tp14) (l_28:Tp15) (l_29:Tp9) (l_30:Tp14) (l_31:Tp9) (l_32:Tp15):Option Tp2:=LFix (zc5 t l_16 r5 ) (m,t_1,again_2,l_22,l_23,l_24,l_25,l_26,l_27,l_28,l_29,l_30,l_31,l_32)
def zaF (l_2:Tp8) (r2:(Bool->Int->Int->Tp8->Int->Int->Tp14->Tp15->Tp9->Tp14->Tp9->Tp15->Option Tp2)) (r5:Tf5) (t:Int) (again_1:Bool) (l_11:Int) (l_12:Int) (l_13:Tp8) (l_14:Int) (l_15:Int) (l_16:Tp14) (l_17:Tp15) (l_18:Tp9) (l_19:Tp14) (l_20:Tp9) (l_21:Tp15):Option Tp2:=
  if (decide (t < (l_2.length:Int)))=true then
  G (0<=t/\t < (l_2.length:Int)) (
  zaP t l_16 r5 ((ix l_2 t).1,(((ix l_2 t).2).1,())) (0:Int) again_1 l_11 l_12 l_13 l_14 l_15 l_16 l_17 l_18 l_19 l_20 l_21) else
  r2 again_1 l_11 l_12 l_13 l_14 l_15 l_16 l_17 l_18 l_19 l_20 l_21
def zc4 (l_2:Tp8) (r2:(Bool->Int->Int->Tp8->Int->Int->Tp14->Tp15->Tp9->Tp14->Tp9->Tp15->Option Tp2)):(Int×Bool×Int×Int×Tp8×Int×Int×Tp14×Tp15×Tp9×Tp14×Tp9×Tp15->Option Tp2)->Int×Bool×Int×Int×Tp8×Int×Int×Tp14×Tp15×Tp9×Tp14×Tp9×Tp15->Option Tp2:=
  fun rec x=>zaF l_2 r2 (fun t again_1 l_11 l_12 l_13 l_14 l_15 l_16 l_17 l_18 l_19 l_20 l_21=>rec (t,again_1,l_11,l_12,l_13,l_14,l_15,l_16,l_17,l_18,l_19,l_20,l_21)) x.1 x.2.1 x.2.2.1 x.2.2.2.1 x.2.2.2.2.1 x.2.2.2.2.2.1 x.2.2.2.2.2.2.1 x.2.2.2.2.2.2.2.1 x.2.2.2.2.2.2.2.2.1 x.2.2.2.2.2.2.2.2.2.1 x.2.2.2.2.2.2.2.2.2.2.1 x.2.2.2.2.2.2.2.2.2.2.2.1 x.2.2.2.2.2.2.2.2.2.2.2.2
def zaE (l_2:Tp8) (r2:(Bool->Int->Int->Tp8->Int->Int->Tp14->Tp15->Tp9->Tp14->Tp9->Tp15->Option Tp2)) (t:Int) (again_1:Bool) (l_11:Int) (l_12:Int) (l_13:Tp8) (l_14:Int) (l_15:Int) (l_16:Tp14) (l_17:Tp15) (l_18:Tp9) (l_19:Tp14) (l_20:Tp9) (l_21:Tp15):Option Tp2:=LFix (zc4 l_2 r2 ) (t,again_1,l_11,l_12,l_13,l_14,l_15,l_16,l_17,l_18,l_19,l_20,l_21)
def zaS  (r2:Tf6) (again:Bool) (l:Int) (l_1:Int) (l_2:Tp8) (l_3:Int) (l_4:Int) (l_5:Tp14) (l_6:Tp15) (l_7:Tp9) (l_8:Tp14) (l_9:Tp9) (l_10:Tp15):Option Tp2:=
  if again=true then
  zaE l_2 r2 (0:Int) false l l_1 l_2 l_3 l_4 l_5 l_6 l_7 l_8 l_9 l_10 else
  some (l,l_1,l_2,l_3,l_4,l_5,l_6,l_7,l_8,l_9,l_10)
def zc3:(Bool×Int×Int×Tp8×Int×Int×Tp14×Tp15×Tp9×Tp14×Tp9×Tp15->Option Tp2)->Bool×Int×Int×Tp8×Int×Int×Tp14×Tp15×Tp9×Tp14×Tp9×Tp15->Option Tp2:=
  fun rec x=>zaS (fun again l l_1 l_2 l_3 l_4 l_5 l_6 l_7 l_8 l_9 l_10=>rec (again,l,l_1,l_2,l_3,l_4,l_5,l_6,l_7,l_8,l_9,l_10)) x.1 x.2.1 x.2.2.1 x.2.2.2.1 x.2.2.2.2.1 x.2.2.2.2.2.1 x.2.2.2.2.2.2.1 x.2.2.2.2.2.2.2.1 x.2.2.2.2.2.2.2.2.1 x.2.2.2.2.2.2.2.2.2.1 x.2.2.2.2.2.2.2.2.2.2.1 x.2.2.2.2.2.2.2.2.2.2.2
def zbd  (again:Bool) (l:Int) (l_1:Int) (l_2:Tp8) (l_3:Int) (l_4:Int) (l_5:Tp14) (l_6:Tp15) (l_7:Tp9) (l_8:Tp14) (l_9:Tp9) (l_10:Tp15):Option Tp2:=LFix (zc3 ) (again,l,l_1,l_2,l_3,l_4,l_5,l_6,l_7,l_8,l_9,l_10)
def zdj (c:Int) (c_1:Int) (c_2:Tp8) (c_3:Int) (c_4:Int) (c_5:Tp14) (c_6:Tp15) (c_7:Tp9) (c_8:Tp14) (c_9:Tp9) (c_10:Tp15):Option Tp2:=
  zbd true c c_1 c_2 c_3 c_4 c_5 c_6 c_7 c_8 c_9 c_10
theorem zcn (r5:Nat->Tf5) (r5':Tf5) (h_r5:∀ a0 a1 a2 a3 a4 a5 a6 a7 a8 a9 a10 a11 a12,ChO (fun κ=>r5 κ a0 a1 a2 a3 a4 a5 a6 a7 a8 a9 a10 a11 a12) (r5' a0 a1 a2 a3 a4 a5 a6 a7 a8 a9 a10 a11 a12)) (r8:Nat->Tf4) (r8':Tf4) (h_r8:∀ a0 a1 a2 a3 a4 a5 a6 a7 a8 a9 a10 a11 a12 a13,ChO (fun κ=>r8 κ a0 a1 a2 a3 a4 a5 a6 a7 a8 a9 a10 a11 a12 a13) (r8' a0 a1 a2 a3 a4 a5 a6 a7 a8 a9 a10 a11 a12 a13)) (t:Int) (l_16:Tp14) (m:Tp11) (t_1:Int) (again_2:Bool) (l_22:Int) (l_23:Int) (l_24:Tp8) (l_25:Int) (l_26:Int) (l_27:Tp14) (l_28:Tp15) (l_29:Tp9) (l_30:Tp14) (l_31:Tp9) (l_32:Tp15):ChO (fun κ=>zaG t l_16 (r5 κ) (r8 κ) m t_1 again_2 l_22 l_23 l_24 l_25 l_26 l_27 l_28 l_29 l_30 l_31 l_32) (zaG t l_16 r5' r8' m t_1 again_2 l_22 l_23 l_24 l_25 l_26 l_27 l_28 l_29 l_30 l_31 l_32):=by
  unfold zaG
  repeat' with_reducible first | exact ChO.const _ | exact h_r5 _ _ _ _ _ _ _ _ _ _ _ _ _ | exact h_r8 _ _ _ _ _ _ _ _ _ _ _ _ _ _ | apply ChO.ite | apply ChO.G | apply ChO.both | (apply ChO.bind;intro _)
theorem zbP (r5:Tf5) (t:Int) (l_16:Tp14):Cn (zc5 t l_16 r5):=fun g h hg x=>zcn (fun _=>r5) r5 (fun _ _ _ _ _ _ _ _ _ _ _ _ _=>ChO.const _) (fun κ m t_1 again_2 l_22 l_23 l_24 l_25 l_26 l_27 l_28 l_29 l_30 l_31 l_32=>g κ (m,t_1,again_2,l_22,l_23,l_24,l_25,l_26,l_27,l_28,l_29,l_30,l_31,l_32)) (fun m t_1 again_2 l_22 l_23 l_24 l_25 l_26 l_27 l_28 l_29 l_30 l_31 l_32=>h (m,t_1,again_2,l_22,l_23,l_24,l_25,l_26,l_27,l_28,l_29,l_30,l_31,l_32)) (fun m t_1 again_2 l_22 l_23 l_24 l_25 l_26 l_27 l_28 l_29 l_30 l_31 l_32=>hg (m,t_1,again_2,l_22,l_23,l_24,l_25,l_26,l_27,l_28,l_29,l_30,l_31,l_32)) t l_16 x.1 x.2.1 x.2.2.1 x.2.2.2.1 x.2.2.2.2.1 x.2.2.2.2.2.1 x.2.2.2.2.2.2.1 x.2.2.2.2.2.2.2.1 x.2.2.2.2.2.2.2.2.1 x.2.2.2.2.2.2.2.2.2.1 x.2.2.2.2.2.2.2.2.2.2.1 x.2.2.2.2.2.2.2.2.2.2.2.1 x.2.2.2.2.2.2.2.2.2.2.2.2.1 x.2.2.2.2.2.2.2.2.2.2.2.2.2
theorem zcM (r5:Tf5) (t:Int) (l_16:Tp14) (m:Tp11) (t_1:Int) (again_2:Bool) (l_22:Int) (l_23:Int) (l_24:Tp8) (l_25:Int) (l_26:Int) (l_27:Tp14) (l_28:Tp15) (l_29:Tp9) (l_30:Tp14) (l_31:Tp9) (l_32:Tp15):zaP t l_16 r5 m t_1 again_2 l_22 l_23 l_24 l_25 l_26 l_27 l_28 l_29 l_30 l_31 l_32=zaG t l_16 r5 (zaP t l_16 r5) m t_1 again_2 l_22 l_23 l_24 l_25 l_26 l_27 l_28 l_29 l_30 l_31 l_32:=zbl (zbP r5 t l_16) (m,t_1,again_2,l_22,l_23,l_24,l_25,l_26,l_27,l_28,l_29,l_30,l_31,l_32)
theorem zcL (r5:Nat->Tf5) (r5':Tf5) (h_r5:∀ a0 a1 a2 a3 a4 a5 a6 a7 a8 a9 a10 a11 a12,ChO (fun κ=>r5 κ a0 a1 a2 a3 a4 a5 a6 a7 a8 a9 a10 a11 a12) (r5' a0 a1 a2 a3 a4 a5 a6 a7 a8 a9 a10 a11 a12)) (t:Int) (l_16:Tp14) (m:Tp11) (t_1:Int) (again_2:Bool) (l_22:Int) (l_23:Int) (l_24:Tp8) (l_25:Int) (l_26:Int) (l_27:Tp14) (l_28:Tp15) (l_29:Tp9) (l_30:Tp14) (l_31:Tp9) (l_32:Tp15):ChO (fun κ=>zaP t l_16 (r5 κ) m t_1 again_2 l_22 l_23 l_24 l_25 l_26 l_27 l_28 l_29 l_30 l_31 l_32) (zaP t l_16 r5' m t_1 again_2 l_22 l_23 l_24 l_25 l_26 l_27 l_28 l_29 l_30 l_31 l_32):=by
  unfold zaP
  exact zgX (fun κ=>(zbP (r5 κ) t l_16).mono) (zbP r5' t l_16).mono (fun g h hg x=>zcn r5 r5' h_r5 (fun κ m t_1 again_2 l_22 l_23 l_24 l_25 l_26 l_27 l_28 l_29 l_30 l_31 l_32=>g κ (m,t_1,again_2,l_22,l_23,l_24,l_25,l_26,l_27,l_28,l_29,l_30,l_31,l_32)) (fun m t_1 again_2 l_22 l_23 l_24 l_25 l_26 l_27 l_28 l_29 l_30 l_31 l_32=>h (m,t_1,again_2,l_22,l_23,l_24,l_25,l_26,l_27,l_28,l_29,l_30,l_31,l_32)) (fun m t_1 again_2 l_22 l_23 l_24 l_25 l_26 l_27 l_28 l_29 l_30 l_31 l_32=>hg (m,t_1,again_2,l_22,l_23,l_24,l_25,l_26,l_27,l_28,l_29,l_30,l_31,l_32)) t l_16 x.1 x.2.1 x.2.2.1 x.2.2.2.1 x.2.2.2.2.1 x.2.2.2.2.2.1 x.2.2.2.2.2.2.1 x.2.2.2.2.2.2.2.1 x.2.2.2.2.2.2.2.2.1 x.2.2.2.2.2.2.2.2.2.1 x.2.2.2.2.2.2.2.2.2.2.1 x.2.2.2.2.2.2.2.2.2.2.2.1 x.2.2.2.2.2.2.2.2.2.2.2.2.1 x.2.2.2.2.2.2.2.2.2.2.2.2.2) _
theorem zcm (r2:Nat->Tf6) (r2':Tf6) (h_r2:∀ a0 a1 a2 a3 a4 a5 a6 a7 a8 a9 a10 a11,ChO (fun κ=>r2 κ a0 a1 a2 a3 a4 a5 a6 a7 a8 a9 a10 a11) (r2' a0 a1 a2 a3 a4 a5 a6 a7 a8 a9 a10 a11)) (r5:Nat->Tf5) (r5':Tf5) (h_r5:∀ a0 a1 a2 a3 a4 a5 a6 a7 a8 a9 a10 a11 a12,ChO (fun κ=>r5 κ a0 a1 a2 a3 a4 a5 a6 a7 a8 a9 a10 a11 a12) (r5' a0 a1 a2 a3 a4 a5 a6 a7 a8 a9 a10 a11 a12)) (l_2:Tp8) (t:Int) (again_1:Bool) (l_11:Int) (l_12:Int) (l_13:Tp8) (l_14:Int) (l_15:Int) (l_16:Tp14) (l_17:Tp15) (l_18:Tp9) (l_19:Tp14) (l_20:Tp9) (l_21:Tp15):ChO (fun κ=>zaF l_2 (r2 κ) (r5 κ) t again_1 l_11 l_12 l_13 l_14 l_15 l_16 l_17 l_18 l_19 l_20 l_21) (zaF l_2 r2' r5' t again_1 l_11 l_12 l_13 l_14 l_15 l_16 l_17 l_18 l_19 l_20 l_21):=by
  unfold zaF
  repeat' with_reducible first | exact ChO.const _ | exact h_r2 _ _ _ _ _ _ _ _ _ _ _ _ | exact h_r5 _ _ _ _ _ _ _ _ _ _ _ _ _ | (apply zcL<;>assumption) | apply ChO.ite | apply ChO.G | apply ChO.both | (apply ChO.bind;intro _)
theorem zbO (r2:Tf6) (l_2:Tp8):Cn (zc4 l_2 r2):=fun g h hg x=>zcm (fun _=>r2) r2 (fun _ _ _ _ _ _ _ _ _ _ _ _=>ChO.const _) (fun κ t again_1 l_11 l_12 l_13 l_14 l_15 l_16 l_17 l_18 l_19 l_20 l_21=>g κ (t,again_1,l_11,l_12,l_13,l_14,l_15,l_16,l_17,l_18,l_19,l_20,l_21)) (fun t again_1 l_11 l_12 l_13 l_14 l_15 l_16 l_17 l_18 l_19 l_20 l_21=>h (t,again_1,l_11,l_12,l_13,l_14,l_15,l_16,l_17,l_18,l_19,l_20,l_21)) (fun t again_1 l_11 l_12 l_13 l_14 l_15 l_16 l_17 l_18 l_19 l_20 l_21=>hg (t,again_1,l_11,l_12,l_13,l_14,l_15,l_16,l_17,l_18,l_19,l_20,l_21)) l_2 x.1 x.2.1 x.2.2.1 x.2.2.2.1 x.2.2.2.2.1 x.2.2.2.2.2.1 x.2.2.2.2.2.2.1 x.2.2.2.2.2.2.2.1 x.2.2.2.2.2.2.2.2.1 x.2.2.2.2.2.2.2.2.2.1 x.2.2.2.2.2.2.2.2.2.2.1 x.2.2.2.2.2.2.2.2.2.2.2.1 x.2.2.2.2.2.2.2.2.2.2.2.2
theorem zcK (r2:Tf6) (l_2:Tp8) (t:Int) (again_1:Bool) (l_11:Int) (l_12:Int) (l_13:Tp8) (l_14:Int) (l_15:Int) (l_16:Tp14) (l_17:Tp15) (l_18:Tp9) (l_19:Tp14) (l_20:Tp9) (l_21:Tp15):zaE l_2 r2 t again_1 l_11 l_12 l_13 l_14 l_15 l_16 l_17 l_18 l_19 l_20 l_21=zaF l_2 r2 (zaE l_2 r2) t again_1 l_11 l_12 l_13 l_14 l_15 l_16 l_17 l_18 l_19 l_20 l_21:=zbl (zbO r2 l_2) (t,again_1,l_11,l_12,l_13,l_14,l_15,l_16,l_17,l_18,l_19,l_20,l_21)
theorem zfx (r2:Nat->Tf6) (r2':Tf6) (h_r2:∀ a0 a1 a2 a3 a4 a5 a6 a7 a8 a9 a10 a11,ChO (fun κ=>r2 κ a0 a1 a2 a3 a4 a5 a6 a7 a8 a9 a10 a11) (r2' a0 a1 a2 a3 a4 a5 a6 a7 a8 a9 a10 a11)) (l_2:Tp8) (t:Int) (again_1:Bool) (l_11:Int) (l_12:Int) (l_13:Tp8) (l_14:Int) (l_15:Int) (l_16:Tp14) (l_17:Tp15) (l_18:Tp9) (l_19:Tp14) (l_20:Tp9) (l_21:Tp15):ChO (fun κ=>zaE l_2 (r2 κ) t again_1 l_11 l_12 l_13 l_14 l_15 l_16 l_17 l_18 l_19 l_20 l_21) (zaE l_2 r2' t again_1 l_11 l_12 l_13 l_14 l_15 l_16 l_17 l_18 l_19 l_20 l_21):=by
  unfold zaE
  exact zgX (fun κ=>(zbO (r2 κ) l_2).mono) (zbO r2' l_2).mono (fun g h hg x=>zcm r2 r2' h_r2 (fun κ t again_1 l_11 l_12 l_13 l_14 l_15 l_16 l_17 l_18 l_19 l_20 l_21=>g κ (t,again_1,l_11,l_12,l_13,l_14,l_15,l_16,l_17,l_18,l_19,l_20,l_21)) (fun t again_1 l_11 l_12 l_13 l_14 l_15 l_16 l_17 l_18 l_19 l_20 l_21=>h (t,again_1,l_11,l_12,l_13,l_14,l_15,l_16,l_17,l_18,l_19,l_20,l_21)) (fun t again_1 l_11 l_12 l_13 l_14 l_15 l_16 l_17 l_18 l_19 l_20 l_21=>hg (t,again_1,l_11,l_12,l_13,l_14,l_15,l_16,l_17,l_18,l_19,l_20,l_21)) l_2 x.1 x.2.1 x.2.2.1 x.2.2.2.1 x.2.2.2.2.1 x.2.2.2.2.2.1 x.2.2.2.2.2.2.1 x.2.2.2.2.2.2.2.1 x.2.2.2.2.2.2.2.2.1 x.2.2.2.2.2.2.2.2.2.1 x.2.2.2.2.2.2.2.2.2.2.1 x.2.2.2.2.2.2.2.2.2.2.2.1 x.2.2.2.2.2.2.2.2.2.2.2.2) _
theorem zeH (r2:Nat->Tf6) (r2':Tf6) (h_r2:∀ a0 a1 a2 a3 a4 a5 a6 a7 a8 a9 a10 a11,ChO (fun κ=>r2 κ a0 a1 a2 a3 a4 a5 a6 a7 a8 a9 a10 a11) (r2' a0 a1 a2 a3 a4 a5 a6 a7 a8 a9 a10 a11)) (again:Bool) (l:Int) (l_1:Int) (l_2:Tp8) (l_3:Int) (l_4:Int) (l_5:Tp14) (l_6:Tp15) (l_7:Tp9) (l_8:Tp14) (l_9:Tp9) (l_10:Tp15):ChO (fun κ=>zaS (r2 κ) again l l_1 l_2 l_3 l_4 l_5 l_6 l_7 l_8 l_9 l_10) (zaS r2' again l l_1 l_2 l_3 l_4 l_5 l_6 l_7 l_8 l_9 l_10):=by
  unfold zaS
  repeat' with_reducible first | exact ChO.const _ | exact h_r2 _ _ _ _ _ _ _ _ _ _ _ _ | (apply zcL<;>assumption) | (apply zfx<;>assumption) | apply ChO.ite | apply ChO.G | apply ChO.both | (apply ChO.bind;intro _)
theorem zfw:Cn (zc3):=fun g h hg x=>zeH  (fun κ again l l_1 l_2 l_3 l_4 l_5 l_6 l_7 l_8 l_9 l_10=>g κ (again,l,l_1,l_2,l_3,l_4,l_5,l_6,l_7,l_8,l_9,l_10)) (fun again l l_1 l_2 l_3 l_4 l_5 l_6 l_7 l_8 l_9 l_10=>h (again,l,l_1,l_2,l_3,l_4,l_5,l_6,l_7,l_8,l_9,l_10)) (fun again l l_1 l_2 l_3 l_4 l_5 l_6 l_7 l_8 l_9 l_10=>hg (again,l,l_1,l_2,l_3,l_4,l_5,l_6,l_7,l_8,l_9,l_10))  x.1 x.2.1 x.2.2.1 x.2.2.2.1 x.2.2.2.2.1 x.2.2.2.2.2.1 x.2.2.2.2.2.2.1 x.2.2.2.2.2.2.2.1 x.2.2.2.2.2.2.2.2.1 x.2.2.2.2.2.2.2.2.2.1 x.2.2.2.2.2.2.2.2.2.2.1 x.2.2.2.2.2.2.2.2.2.2.2
theorem zcJ   (again:Bool) (l:Int) (l_1:Int) (l_2:Tp8) (l_3:Int) (l_4:Int) (l_5:Tp14) (l_6:Tp15) (l_7:Tp9) (l_8:Tp14) (l_9:Tp9) (l_10:Tp15):zbd again l l_1 l_2 l_3 l_4 l_5 l_6 l_7 l_8 l_9 l_10=zaS (zbd) again l l_1 l_2 l_3 l_4 l_5 l_6 l_7 l_8 l_9 l_10:=zbl (zfw ) (again,l,l_1,l_2,l_3,l_4,l_5,l_6,l_7,l_8,l_9,l_10)

def zaX (c_1:Int) (l_1:Tp15) (y'_7:Tp9) (y'_8:Tp14) (y'_9:Tp9) (y'_10:Tp15) (r6:Tf10) (best:Tp15) (found:Bool) (any:Bool) (t:Int):Option Tp12:=
  if (decide (t < (l_1.length:Int)))=true then
  G (0<=t/\t < (l_1.length:Int)) (
  if (decide ((ix l_1 t)=(0:Int)))=true then
  G (fits (t+(1:Int))) (
  r6 best found any (t+(1:Int))) else
  if (decide ((mget y'_9 y'_10 ((0:Int),(c_1,(t,()))) (0:Int))=(0:Int)))=true then
  G (fits (t+(1:Int))) (
  r6 best found any (t+(1:Int))) else
  if (mhas y'_7 ((0:Int),(c_1,(t,()))))=true then
  if (!found)=true then
  G (fits (t+(1:Int))) (
  r6 (mget y'_7 y'_8 ((0:Int),(c_1,(t,()))) ([]:List Int)) true true (t+(1:Int))) else
  (zdN (mget y'_7 y'_8 ((0:Int),(c_1,(t,()))) ([]:List Int)) best).bind (fun y'_12=>
  if y'_12=true then
  G (fits (t+(1:Int))) (
  r6 (mget y'_7 y'_8 ((0:Int),(c_1,(t,()))) ([]:List Int)) true true (t+(1:Int))) else
  G (fits (t+(1:Int))) (
  r6 best found true (t+(1:Int)))) else
  G (fits (t+(1:Int))) (
  r6 best found true (t+(1:Int)))) else
  if any=true then
  if (!found)=true then
  some ([],false,(7:Int)) else
  some (best,found,(0:Int)) else
  some (best,found,(0:Int))
def zeI (c_1:Int) (l_1:Tp15) (y'_7:Tp9) (y'_8:Tp14) (y'_9:Tp9) (y'_10:Tp15):(Tp15×Bool×Bool×Int->Option Tp12)->Tp15×Bool×Bool×Int->Option Tp12:=
  fun rec x=>zaX c_1 l_1 y'_7 y'_8 y'_9 y'_10 (fun best found any t=>rec (best,found,any,t)) x.1 x.2.1 x.2.2.1 x.2.2.2
def zcu (c_1:Int) (l_1:Tp15) (y'_7:Tp9) (y'_8:Tp14) (y'_9:Tp9) (y'_10:Tp15) (best:Tp15) (found:Bool) (any:Bool) (t:Int):Option Tp12:=LFix (zeI c_1 l_1 y'_7 y'_8 y'_9 y'_10 ) (best,found,any,t)
def zaY (g':Tp4) (c:Int) (c_1:Int) (l:Tp14) (l_1:Tp15):Option Tp12:=
  (zdj g'.1 g'.2.1 g'.2.2.1 c c_1 l l_1 ([]:List Tp13) ([]:List Tp15) ([]:List Tp13) ([]:List Int)).bind (fun y'_13=>
  zcu c_1 l_1 y'_13.2.2.2.2.2.2.2.1 y'_13.2.2.2.2.2.2.2.2.1 y'_13.2.2.2.2.2.2.2.2.2.1 y'_13.2.2.2.2.2.2.2.2.2.2 ([]) false false (0:Int))
theorem zgx (r6:Nat->Tf10) (r6':Tf10) (h_r6:∀ a0 a1 a2 a3,ChO (fun κ=>r6 κ a0 a1 a2 a3) (r6' a0 a1 a2 a3)) (c_1:Int) (l_1:Tp15) (y'_7:Tp9) (y'_8:Tp14) (y'_9:Tp9) (y'_10:Tp15) (best:Tp15) (found:Bool) (any:Bool) (t:Int):ChO (fun κ=>zaX c_1 l_1 y'_7 y'_8 y'_9 y'_10 (r6 κ) best found any t) (zaX c_1 l_1 y'_7 y'_8 y'_9 y'_10 r6' best found any t):=by
  unfold zaX
  repeat' with_reducible first | exact ChO.const _ | exact h_r6 _ _ _ _ | apply ChO.ite | apply ChO.G | apply ChO.both | (apply ChO.bind;intro _)
theorem zhz  (c_1:Int) (l_1:Tp15) (y'_7:Tp9) (y'_8:Tp14) (y'_9:Tp9) (y'_10:Tp15):Cn (zeI c_1 l_1 y'_7 y'_8 y'_9 y'_10):=fun g h hg x=>zgx  (fun κ best found any t=>g κ (best,found,any,t)) (fun best found any t=>h (best,found,any,t)) (fun best found any t=>hg (best,found,any,t)) c_1 l_1 y'_7 y'_8 y'_9 y'_10 x.1 x.2.1 x.2.2.1 x.2.2.2
theorem zeg  (c_1:Int) (l_1:Tp15) (y'_7:Tp9) (y'_8:Tp14) (y'_9:Tp9) (y'_10:Tp15) (best:Tp15) (found:Bool) (any:Bool) (t:Int):zcu c_1 l_1 y'_7 y'_8 y'_9 y'_10 best found any t=zaX c_1 l_1 y'_7 y'_8 y'_9 y'_10 (zcu c_1 l_1 y'_7 y'_8 y'_9 y'_10) best found any t:=zbl (zhz c_1 l_1 y'_7 y'_8 y'_9 y'_10) (best,found,any,t)

def zjJ (g':Tp4):Option Tp12:=
  (zgo (g'.1,(g'.2.1,(g'.2.2.1,())))).bind (fun y'=>
  if (decide (¬ y'=(0:Int)))=true then
  some ([],false,y') else
  both [(.list (.int .i64)),.bool,(.int .i64)] (
  G (mkOK g'.1 g'.1 8) (
  both [(.list (.int .i64)),.bool,(.int .i64)] (
  (zaY (g'.1,(g'.2.1,(g'.2.2.1,()))) g'.1 (0:Int) ([List.replicate (g'.1).toNat (0:Int)]) ([(1:Int)])).bind (fun y'_5=>
  some (y'_5.1,y'_5.2.1,y'_5.2.2))) (
  (zaY (g'.1,(g'.2.1,(g'.2.2.1,()))) g'.1 (0:Int) ([List.replicate (g'.1).toNat (0:Int)]) ([(1:Int)])).bind (fun y'_10=>
  some (y'_10.1,y'_10.2.1,y'_10.2.2))))) (
  G (mkOK g'.1 g'.1 8) (
  (zaY (g'.1,(g'.2.1,(g'.2.2.1,()))) g'.1 (0:Int) ([List.replicate (g'.1).toNat (0:Int)]) ([(1:Int)])).bind (fun y'_15=>
  some (y'_15.1,y'_15.2.1,y'_15.2.2)))))

def za0 (g':Tp4) (i:Int) (r6:(Int->Option (Int))) (r14:Int->Option (Int)) (k:Int):Option (Int):=
  if (decide (k < ((((ix g'.2.2.1 i).2).1).length:Int)))=true then
  G (0<=k/\k < ((((ix g'.2.2.1 i).2).1).length:Int)) (
  if (decide ((ix (((ix g'.2.2.1 i).2).1) k) < (0:Int)))=true then
  some (2:Int) else
  G (0<=k/\k < ((((ix g'.2.2.1 i).2).1).length:Int)) (
  G (fits (g'.1+g'.2.1)) (
  if (decide ((g'.1+g'.2.1)<=(ix (((ix g'.2.2.1 i).2).1) k)))=true then
  some (2:Int) else
  G (fits (k+(1:Int))) (
  r14 (k+(1:Int)))))) else
  G (fits (i+(1:Int))) (
  r6 (i+(1:Int)))
def zf2 (g':Tp4) (i:Int) (r6:(Int->Option (Int))):(Int->Option (Int))->Int->Option (Int):=
  fun rec x=>za0 g' i r6 (fun k=>rec k) x
def za6 (g':Tp4) (i:Int) (r6:(Int->Option (Int))) (k:Int):Option (Int):=LFix (zf2 g' i r6 ) k
def zbn (g':Tp4) (r6:Int->Option (Int)) (i:Int):Option (Int):=
  if (decide (i < (g'.2.2.1.length:Int)))=true then
  G (0<=i/\i < (g'.2.2.1.length:Int)) (
  if (decide (((ix g'.2.2.1 i).1) < (0:Int)))=true then
  some (2:Int) else
  if (decide (g'.2.1<=((ix g'.2.2.1 i).1)))=true then
  some (2:Int) else
  if (decide ((3:Int) < ((((ix g'.2.2.1 i).2).1).length:Int)))=true then
  some (1:Int) else
  za6 g' i r6 (0:Int)) else
  some (0:Int)
def zgL (g':Tp4):(Int->Option (Int))->Int->Option (Int):=
  fun rec x=>zbn g' (fun i=>rec i) x
def zc8 (g':Tp4) (i:Int):Option (Int):=LFix (zgL g' ) i
def zhQ (g':Tp4):Option (Int):=
  if (decide (g'.1 < (1:Int)))=true then
  some (2:Int) else
  if (decide ((4:Int) < g'.1))=true then
  some (2:Int) else
  if (decide (g'.2.1 < (1:Int)))=true then
  some (1:Int) else
  if (decide ((6:Int) < g'.2.1))=true then
  some (1:Int) else
  if (decide ((20:Int) < (g'.2.2.1.length:Int)))=true then
  some (1:Int) else
  zc8 g' (0:Int)
theorem zei (r6:Nat->Int->Option (Int)) (r6':Int->Option (Int)) (h_r6:∀ a0,ChO (fun κ=>r6 κ a0) (r6' a0)) (r14:Nat->Int->Option (Int)) (r14':Int->Option (Int)) (h_r14:∀ a0,ChO (fun κ=>r14 κ a0) (r14' a0)) (g':Tp4) (i:Int) (k:Int):ChO (fun κ=>za0 g' i (r6 κ) (r14 κ) k) (za0 g' i r6' r14' k):=by
  unfold za0
  repeat' with_reducible first | exact ChO.const _ | exact h_r6 _ | exact h_r14 _ | apply ChO.ite | apply ChO.G | apply ChO.both | (apply ChO.bind;intro _)
theorem zdm (r6:Int->Option (Int)) (g':Tp4) (i:Int):Cn (zf2 g' i r6):=fun g h hg x=>zei (fun _=>r6) r6 (fun _=>ChO.const _) (fun κ k=>g κ k) (fun k=>h k) (fun k=>hg k) g' i x
theorem zdn (r6:Int->Option (Int)) (g':Tp4) (i:Int) (k:Int):za6 g' i r6 k=za0 g' i r6 (za6 g' i r6) k:=zbl (zdm r6 g' i) k
theorem zi2 (r6:Nat->Int->Option (Int)) (r6':Int->Option (Int)) (h_r6:∀ a0,ChO (fun κ=>r6 κ a0) (r6' a0)) (g':Tp4) (i:Int) (k:Int):ChO (fun κ=>za6 g' i (r6 κ) k) (za6 g' i r6' k):=by
  unfold za6
  exact zgX (fun κ=>(zdm (r6 κ) g' i).mono) (zdm r6' g' i).mono (fun g h hg x=>zei r6 r6' h_r6 (fun κ k=>g κ k) (fun k=>h k) (fun k=>hg k) g' i x) _
theorem zim (r6:Nat->Int->Option (Int)) (r6':Int->Option (Int)) (h_r6:∀ a0,ChO (fun κ=>r6 κ a0) (r6' a0)) (g':Tp4) (i:Int):ChO (fun κ=>zbn g' (r6 κ) i) (zbn g' r6' i):=by
  unfold zbn
  repeat' with_reducible first | exact ChO.const _ | exact h_r6 _ | (apply zi2<;>assumption) | apply ChO.ite | apply ChO.G | apply ChO.both | (apply ChO.bind;intro _)
theorem zj1  (g':Tp4):Cn (zgL g'):=fun g h hg x=>zim  (fun κ i=>g κ i) (fun i=>h i) (fun i=>hg i) g' x
theorem zf3  (g':Tp4) (i:Int):zc8 g' i=zbn g' (zc8 g') i:=zbl (zj1 g') i

def za7 (s:(Tp4×Tp5×Tp6×Bool×Unit)) (a:Int) (p:Int) (q:Int):Option (Int):=
  G (fits (a * (s.2.1.2.2.1.length:Int))) (
  G (fits ((a * (s.2.1.2.2.1.length:Int))+p)) (
  G (fits (((a * (s.2.1.2.2.1.length:Int))+p) * (s.2.1.2.2.1.length:Int))) (
  G (fits ((((a * (s.2.1.2.2.1.length:Int))+p) * (s.2.1.2.2.1.length:Int))+q)) (
  some ((((a * (s.2.1.2.2.1.length:Int))+p) * (s.2.1.2.2.1.length:Int))+q)))))

def zbq (a:Tp15) (b:Tp15) (r4:Int->Option (Bool)) (i:Int):Option (Bool):=
  if (decide (i < (a.length:Int)))=true then
  G (0<=i/\i < (a.length:Int)) (
  G (0<=i/\i < (b.length:Int)) (
  if (decide (¬ (ix a i)=(ix b i)))=true then
  G (0<=i/\i < (a.length:Int)) (
  G (0<=i/\i < (b.length:Int)) (
  some (decide ((ix a i) < (ix b i))))) else
  G (fits (i+(1:Int))) (
  r4 (i+(1:Int))))) else
  some false
def zgQ (a:Tp15) (b:Tp15):(Int->Option (Bool))->Int->Option (Bool):=
  fun rec x=>zbq a b (fun i=>rec i) x
def zem (a:Tp15) (b:Tp15) (i:Int):Option (Bool):=LFix (zgQ a b ) i
def zdc (a:Tp15) (b:Tp15):Option (Bool):=
  if (decide (¬ (a.length:Int)=(b.length:Int)))=true then
  some (decide ((a.length:Int) < (b.length:Int))) else
  zem a b (0:Int)
theorem ziq (r4:Nat->Int->Option (Bool)) (r4':Int->Option (Bool)) (h_r4:∀ a0,ChO (fun κ=>r4 κ a0) (r4' a0)) (a:Tp15) (b:Tp15) (i:Int):ChO (fun κ=>zbq a b (r4 κ) i) (zbq a b r4' i):=by
  unfold zbq
  repeat' with_reducible first | exact ChO.const _ | exact h_r4 _ | apply ChO.ite | apply ChO.G | apply ChO.both | (apply ChO.bind;intro _)
theorem zj3  (a:Tp15) (b:Tp15):Cn (zgQ a b):=fun g h hg x=>ziq  (fun κ i=>g κ i) (fun i=>h i) (fun i=>hg i) a b x
theorem zf8  (a:Tp15) (b:Tp15) (i:Int):zem a b i=zbq a b (zem a b) i:=zbl (zj3 a b) i

def zeQ (y':Int) (s:Int) (s_1:Int) (s_2:Tp8) (s_3:Int) (s_4:Int) (s_5:Tp14) (s_6:Tp15) (s_7:Bool) (l_1:Tp6) (t:Bool):Option Tp3:=
  if t=true then
  G (0<=y'/\y' < (l_1.length:Int)) (
  G ((y').toNat < l_1.length) (
  G (0<=y'/\y' < ((l_1.set (y').toNat ((ix l_1 y').1,(true,((ix l_1 y').2).2))).length:Int)) (
  G ((y').toNat < (l_1.set (y').toNat ((ix l_1 y').1,(true,((ix l_1 y').2).2))).length) (
  some (s,s_1,s_2,s_3,s_4,s_5,s_6,(l_1.set (y').toNat ((ix l_1 y').1,(true,((ix l_1 y').2).2))).set (y').toNat ((ix (l_1.set (y').toNat ((ix l_1 y').1,(true,((ix l_1 y').2).2))) y').1,(((ix (l_1.set (y').toNat ((ix l_1 y').1,(true,((ix l_1 y').2).2))) y').2).1,([],(((ix (l_1.set (y').toNat ((ix l_1 y').1,(true,((ix l_1 y').2).2))) y').2).2).2))),true))))) else
  some (s,s_1,s_2,s_3,s_4,s_5,s_6,l_1,s_7)
def zeP (has:Bool) (y':Int) (s:Int) (s_1:Int) (s_2:Tp8) (s_3:Int) (s_4:Int) (s_5:Tp14) (s_6:Tp15) (s_7:Bool) (l_1:Tp6):Option Tp3:=
  if (!has)=true then
  some (s,s_1,s_2,s_3,s_4,s_5,s_6,l_1,s_7) else
  G (0<=y'/\y' < (l_1.length:Int)) (
  G ((y').toNat < l_1.length) (
  (zdc ([]) ((((ix l_1 y').2).2).1)).bind (fun y'_1=>
  G (0<=y'/\y' < (l_1.length:Int)) (
  G ((y').toNat < l_1.length) (
  if (!(((ix l_1 y').2).1))=true then
  zeQ y' s s_1 s_2 s_3 s_4 s_5 s_6 s_7 l_1 true else
  zeQ y' s s_1 s_2 s_3 s_4 s_5 s_6 s_7 l_1 y'_1)))))
def zgP (from':Int) (p:Int) (q:Int) (has:Bool) (c:Int) (c_1:Int) (c_2:Tp8) (c_3:Int) (c_4:Int) (c_5:Tp14) (c_6:Tp15) (c_7:Bool) (l:Tp6):Option Tp3:=
  (za7 ((c,(c_1,(c_2,()))),((c_3,(c_4,(c_5,(c_6,())))),(l,(c_7,())))) from' p q).bind (fun y'=>
  G (0<=y'/\y' < (l.length:Int)) (
  G ((y').toNat < l.length) (
  if (!((ix l y').1))=true then
  G (0<=y'/\y' < (l.length:Int)) (
  G ((y').toNat < l.length) (
  zeP has y' c c_1 c_2 c_3 c_4 c_5 c_6 true (l.set (y').toNat (true,(ix l y').2)))) else
  zeP has y' c c_1 c_2 c_3 c_4 c_5 c_6 c_7 l)))

def zbf (w:Tp15) (y':Int) (s:Int) (s_1:Int) (s_2:Tp8) (s_3:Int) (s_4:Int) (s_5:Tp14) (s_6:Tp15) (s_7:Bool) (l_1:Tp6) (t:Bool):Option Tp3:=
  if t=true then
  G (0<=y'/\y' < (l_1.length:Int)) (
  G ((y').toNat < l_1.length) (
  G (0<=y'/\y' < ((l_1.set (y').toNat ((ix l_1 y').1,(true,((ix l_1 y').2).2))).length:Int)) (
  G ((y').toNat < (l_1.set (y').toNat ((ix l_1 y').1,(true,((ix l_1 y').2).2))).length) (
  some (s,s_1,s_2,s_3,s_4,s_5,s_6,(l_1.set (y').toNat ((ix l_1 y').1,(true,((ix l_1 y').2).2))).set (y').toNat ((ix (l_1.set (y').toNat ((ix l_1 y').1,(true,((ix l_1 y').2).2))) y').1,(((ix (l_1.set (y').toNat ((ix l_1 y').1,(true,((ix l_1 y').2).2))) y').2).1,(w,(((ix (l_1.set (y').toNat ((ix l_1 y').1,(true,((ix l_1 y').2).2))) y').2).2).2))),true))))) else
  some (s,s_1,s_2,s_3,s_4,s_5,s_6,l_1,s_7)
def zbG (w:Tp15) (has:Bool) (y':Int) (s:Int) (s_1:Int) (s_2:Tp8) (s_3:Int) (s_4:Int) (s_5:Tp14) (s_6:Tp15) (s_7:Bool) (l_1:Tp6):Option Tp3:=
  if (!has)=true then
  some (s,s_1,s_2,s_3,s_4,s_5,s_6,l_1,s_7) else
  G (0<=y'/\y' < (l_1.length:Int)) (
  G ((y').toNat < l_1.length) (
  (zdc w ((((ix l_1 y').2).2).1)).bind (fun y'_1=>
  G (0<=y'/\y' < (l_1.length:Int)) (
  G ((y').toNat < l_1.length) (
  if (!(((ix l_1 y').2).1))=true then
  zbf w y' s s_1 s_2 s_3 s_4 s_5 s_6 s_7 l_1 true else
  zbf w y' s s_1 s_2 s_3 s_4 s_5 s_6 s_7 l_1 y'_1)))))
def zcc (from':Int) (p:Int) (q:Int) (w:Tp15) (has:Bool) (c:Int) (c_1:Int) (c_2:Tp8) (c_3:Int) (c_4:Int) (c_5:Tp14) (c_6:Tp15) (c_7:Bool) (l:Tp6):Option Tp3:=
  (za7 ((c,(c_1,(c_2,()))),((c_3,(c_4,(c_5,(c_6,())))),(l,(c_7,())))) from' p q).bind (fun y'=>
  G (0<=y'/\y' < (l.length:Int)) (
  G ((y').toNat < l.length) (
  if (!((ix l y').1))=true then
  G (0<=y'/\y' < (l.length:Int)) (
  G ((y').toNat < l.length) (
  zbG w has y' c c_1 c_2 c_3 c_4 c_5 c_6 true (l.set (y').toNat (true,(ix l y').2)))) else
  zbG w has y' c c_1 c_2 c_3 c_4 c_5 c_6 c_7 l)))

def zaJ (zac:Tf3) (from':Int) (start:Int) (signs:Tp15) (q:Int) (s:Int) (s_1:Int) (s_2:Tp8) (s_3:Int) (s_4:Int) (s_5:Tp14) (s_6:Tp15) (s_7:Bool) (l_1:Tp6) (r7:(Int->Int->Int->Tp8->Int->Int->Tp14->Tp15->Bool->Tp6->Option Tp3)) (ok:Bool) (x':Tp15):Option Tp3:=
  G (0<=(1:Int)/\(1:Int)<=(signs.length:Int)/\(signs.length:Int)<=(signs.length:Int)) (
  (zac from' start (cut signs (1:Int) (signs.length:Int)) q x' ok s s_1 s_2 s_3 s_4 s_5 s_6 s_7 l_1).bind (fun y'_44=>
  G (fits (q+(1:Int))) (
  r7 (q+(1:Int)) y'_44.1 y'_44.2.1 y'_44.2.2.1 y'_44.2.2.2.1 y'_44.2.2.2.2.1 y'_44.2.2.2.2.2.1 y'_44.2.2.2.2.2.2.1 y'_44.2.2.2.2.2.2.2.2 y'_44.2.2.2.2.2.2.2.1)))
def zau (zac:Tf3) (from':Int) (start:Int) (signs:Tp15) (w:Tp15) (q:Int) (s:Int) (s_1:Int) (s_2:Tp8) (s_3:Int) (s_4:Int) (s_5:Tp14) (s_6:Tp15) (s_7:Bool) (l_1:Tp6) (r7:(Int->Int->Int->Tp8->Int->Int->Tp14->Tp15->Bool->Tp6->Option Tp3)) (y'_33:Int) (ok:Bool):Option Tp3:=
  if ok=true then
  G (room ([]:List Int) w 8) (
  G (0<=y'_33/\y'_33 < (l_1.length:Int)) (
  G ((y'_33).toNat < l_1.length) (
  G (room w ((((ix l_1 y'_33).2).2).1) 8) (
  zaJ zac from' start signs q s s_1 s_2 s_3 s_4 s_5 s_6 s_7 l_1 r7 ok (w++((((ix l_1 y'_33).2).2).1)))))) else
  zaJ zac from' start signs q s s_1 s_2 s_3 s_4 s_5 s_6 s_7 l_1 r7 ok ([])
def zaB (zac:Tf3) (from':Int) (start:Int) (signs:Tp15) (p:Int) (w:Tp15) (has:Bool) (r7:Tf8) (q:Int) (s:Int) (s_1:Int) (s_2:Tp8) (s_3:Int) (s_4:Int) (s_5:Tp14) (s_6:Tp15) (s_7:Bool) (l_1:Tp6):Option Tp3:=
  if (decide (q < (s_5.length:Int)))=true then
  G (0<=(0:Int)/\(0:Int) < (signs.length:Int)) (
  G (fits ((ix signs (0:Int)) - s)) (
  (za7 ((s,(s_1,(s_2,()))),((s_3,(s_4,(s_5,(s_6,())))),(l_1,(s_7,())))) ((ix signs (0:Int)) - s) p q).bind (fun y'_33=>
  G (0<=y'_33/\y'_33 < (l_1.length:Int)) (
  G ((y'_33).toNat < l_1.length) (
  if (!((ix l_1 y'_33).1))=true then
  G (fits (q+(1:Int))) (
  r7 (q+(1:Int)) s s_1 s_2 s_3 s_4 s_5 s_6 s_7 l_1) else
  if has=true then
  G (0<=y'_33/\y'_33 < (l_1.length:Int)) (
  G ((y'_33).toNat < l_1.length) (
  if (((ix l_1 y'_33).2).1)=true then
  G (0<=y'_33/\y'_33 < (l_1.length:Int)) (
  G ((y'_33).toNat < l_1.length) (
  G (fits ((w.length:Int)+(((((ix l_1 y'_33).2).2).1).length:Int))) (
  zau zac from' start signs w q s s_1 s_2 s_3 s_4 s_5 s_6 s_7 l_1 r7 y'_33 (decide (((w.length:Int)+(((((ix l_1 y'_33).2).2).1).length:Int))<=(60:Int)))))) else
  zau zac from' start signs w q s s_1 s_2 s_3 s_4 s_5 s_6 s_7 l_1 r7 y'_33 false)) else
  zau zac from' start signs w q s s_1 s_2 s_3 s_4 s_5 s_6 s_7 l_1 r7 y'_33 false))))) else
  some (s,s_1,s_2,s_3,s_4,s_5,s_6,l_1,s_7)
def zcP (zac:Tf3) (from':Int) (start:Int) (signs:Tp15) (p:Int) (w:Tp15) (has:Bool):(Int×Int×Int×Tp8×Int×Int×Tp14×Tp15×Bool×Tp6->Option Tp3)->Int×Int×Int×Tp8×Int×Int×Tp14×Tp15×Bool×Tp6->Option Tp3:=
  fun rec x=>zaB zac from' start signs p w has (fun q s s_1 s_2 s_3 s_4 s_5 s_6 s_7 l_1=>rec (q,s,s_1,s_2,s_3,s_4,s_5,s_6,s_7,l_1)) x.1 x.2.1 x.2.2.1 x.2.2.2.1 x.2.2.2.2.1 x.2.2.2.2.2.1 x.2.2.2.2.2.2.1 x.2.2.2.2.2.2.2.1 x.2.2.2.2.2.2.2.2.1 x.2.2.2.2.2.2.2.2.2
def zas (zac:Tf3) (from':Int) (start:Int) (signs:Tp15) (p:Int) (w:Tp15) (has:Bool) (q:Int) (s:Int) (s_1:Int) (s_2:Tp8) (s_3:Int) (s_4:Int) (s_5:Tp14) (s_6:Tp15) (s_7:Bool) (l_1:Tp6):Option Tp3:=LFix (zcP zac from' start signs p w has ) (q,s,s_1,s_2,s_3,s_4,s_5,s_6,s_7,l_1)
def zaI (zac:Tf3) (from':Int) (start:Int) (signs:Tp15) (p:Int) (w:Tp15) (has:Bool) (c:Int) (c_1:Int) (c_2:Tp8) (c_3:Int) (c_4:Int) (c_5:Tp14) (c_6:Tp15) (c_7:Bool) (l:Tp6):Option Tp3:=
  if (decide ((signs.length:Int)=(0:Int)))=true then
  (zcc from' start p w has c c_1 c_2 c_3 c_4 c_5 c_6 c_7 l).bind (fun y'_10=>
  some (y'_10.1,y'_10.2.1,y'_10.2.2.1,y'_10.2.2.2.1,y'_10.2.2.2.2.1,y'_10.2.2.2.2.2.1,y'_10.2.2.2.2.2.2.1,y'_10.2.2.2.2.2.2.2.1,y'_10.2.2.2.2.2.2.2.2)) else
  G (0<=(0:Int)/\(0:Int) < (signs.length:Int)) (
  if (decide ((ix signs (0:Int)) < c))=true then
  G (room ([]:List Int) w 8) (
  G (0<=(0:Int)/\(0:Int) < (signs.length:Int)) (
  G (room (([]:List Int)++w) ([ix signs (0:Int)]) 8) (
  G (0<=(1:Int)/\(1:Int)<=(signs.length:Int)/\(signs.length:Int)<=(signs.length:Int)) (
  G (0<=p/\p < (c_5.length:Int)) (
  G (0<=(0:Int)/\(0:Int) < (signs.length:Int)) (
  G (0<=ix signs (0:Int)/\ix signs (0:Int) < ((ix c_5 p).length:Int)) (
  if has=true then
  (zac from' start (cut signs (1:Int) (signs.length:Int)) (ix (ix c_5 p) (ix signs (0:Int))) ((([]:List Int)++w)++([ix signs (0:Int)])) (decide ((((([]:List Int)++w)++([ix signs (0:Int)])).length:Int)<=(60:Int))) c c_1 c_2 c_3 c_4 c_5 c_6 c_7 l).bind (fun y'_21=>
  some (y'_21.1,y'_21.2.1,y'_21.2.2.1,y'_21.2.2.2.1,y'_21.2.2.2.2.1,y'_21.2.2.2.2.2.1,y'_21.2.2.2.2.2.2.1,y'_21.2.2.2.2.2.2.2.1,y'_21.2.2.2.2.2.2.2.2)) else
  (zac from' start (cut signs (1:Int) (signs.length:Int)) (ix (ix c_5 p) (ix signs (0:Int))) ((([]:List Int)++w)++([ix signs (0:Int)])) false c c_1 c_2 c_3 c_4 c_5 c_6 c_7 l).bind (fun y'_32=>
  some (y'_32.1,y'_32.2.1,y'_32.2.2.1,y'_32.2.2.2.1,y'_32.2.2.2.2.1,y'_32.2.2.2.2.2.1,y'_32.2.2.2.2.2.2.1,y'_32.2.2.2.2.2.2.2.1,y'_32.2.2.2.2.2.2.2.2))))))))) else
  zas zac from' start signs p w has (0:Int) c c_1 c_2 c_3 c_4 c_5 c_6 c_7 l)
theorem zbx (zac:Nat->Tf3) (zah:Tf3) (zak:∀ a0 a1 a2 a3 a4 a5 a6 a7 a8 a9 a10 a11 a12 a13 a14,ChO (fun κ=>zac κ a0 a1 a2 a3 a4 a5 a6 a7 a8 a9 a10 a11 a12 a13 a14) (zah a0 a1 a2 a3 a4 a5 a6 a7 a8 a9 a10 a11 a12 a13 a14)) (r7:Nat->Tf8) (r7':Tf8) (h_r7:∀ a0 a1 a2 a3 a4 a5 a6 a7 a8 a9,ChO (fun κ=>r7 κ a0 a1 a2 a3 a4 a5 a6 a7 a8 a9) (r7' a0 a1 a2 a3 a4 a5 a6 a7 a8 a9)) (from':Int) (start:Int) (signs:Tp15) (q:Int) (s:Int) (s_1:Int) (s_2:Tp8) (s_3:Int) (s_4:Int) (s_5:Tp14) (s_6:Tp15) (s_7:Bool) (l_1:Tp6) (ok:Bool) (x':Tp15):ChO (fun κ=>zaJ (zac κ) from' start signs q s s_1 s_2 s_3 s_4 s_5 s_6 s_7 l_1 (r7 κ) ok x') (zaJ zah from' start signs q s s_1 s_2 s_3 s_4 s_5 s_6 s_7 l_1 r7' ok x'):=by
  unfold zaJ
  repeat' with_reducible first | exact ChO.const _ | exact zak _ _ _ _ _ _ _ _ _ _ _ _ _ _ _ | exact h_r7 _ _ _ _ _ _ _ _ _ _ | apply ChO.ite | apply ChO.G | apply ChO.both | (apply ChO.bind;intro _) | (apply ChO.bind2 (zak _ _ _ _ _ _ _ _ _ _ _ _ _ _ _);intro _)
theorem zcq (zac:Nat->Tf3) (zah:Tf3) (zak:∀ a0 a1 a2 a3 a4 a5 a6 a7 a8 a9 a10 a11 a12 a13 a14,ChO (fun κ=>zac κ a0 a1 a2 a3 a4 a5 a6 a7 a8 a9 a10 a11 a12 a13 a14) (zah a0 a1 a2 a3 a4 a5 a6 a7 a8 a9 a10 a11 a12 a13 a14)) (r7:Nat->Tf8) (r7':Tf8) (h_r7:∀ a0 a1 a2 a3 a4 a5 a6 a7 a8 a9,ChO (fun κ=>r7 κ a0 a1 a2 a3 a4 a5 a6 a7 a8 a9) (r7' a0 a1 a2 a3 a4 a5 a6 a7 a8 a9)) (from':Int) (start:Int) (signs:Tp15) (w:Tp15) (q:Int) (s:Int) (s_1:Int) (s_2:Tp8) (s_3:Int) (s_4:Int) (s_5:Tp14) (s_6:Tp15) (s_7:Bool) (l_1:Tp6) (y'_33:Int) (ok:Bool):ChO (fun κ=>zau (zac κ) from' start signs w q s s_1 s_2 s_3 s_4 s_5 s_6 s_7 l_1 (r7 κ) y'_33 ok) (zau zah from' start signs w q s s_1 s_2 s_3 s_4 s_5 s_6 s_7 l_1 r7' y'_33 ok):=by
  unfold zau
  repeat' with_reducible first | exact ChO.const _ | exact zak _ _ _ _ _ _ _ _ _ _ _ _ _ _ _ | exact h_r7 _ _ _ _ _ _ _ _ _ _ | (apply zbx<;>assumption) | apply ChO.ite | apply ChO.G | apply ChO.both | (apply ChO.bind;intro _) | (apply ChO.bind2 (zak _ _ _ _ _ _ _ _ _ _ _ _ _ _ _);intro _)
theorem zb6 (zac:Nat->Tf3) (zah:Tf3) (zak:∀ a0 a1 a2 a3 a4 a5 a6 a7 a8 a9 a10 a11 a12 a13 a14,ChO (fun κ=>zac κ a0 a1 a2 a3 a4 a5 a6 a7 a8 a9 a10 a11 a12 a13 a14) (zah a0 a1 a2 a3 a4 a5 a6 a7 a8 a9 a10 a11 a12 a13 a14)) (r7:Nat->Tf8) (r7':Tf8) (h_r7:∀ a0 a1 a2 a3 a4 a5 a6 a7 a8 a9,ChO (fun κ=>r7 κ a0 a1 a2 a3 a4 a5 a6 a7 a8 a9) (r7' a0 a1 a2 a3 a4 a5 a6 a7 a8 a9)) (from':Int) (start:Int) (signs:Tp15) (p:Int) (w:Tp15) (has:Bool) (q:Int) (s:Int) (s_1:Int) (s_2:Tp8) (s_3:Int) (s_4:Int) (s_5:Tp14) (s_6:Tp15) (s_7:Bool) (l_1:Tp6):ChO (fun κ=>zaB (zac κ) from' start signs p w has (r7 κ) q s s_1 s_2 s_3 s_4 s_5 s_6 s_7 l_1) (zaB zah from' start signs p w has r7' q s s_1 s_2 s_3 s_4 s_5 s_6 s_7 l_1):=by
  unfold zaB
  repeat' with_reducible first | exact ChO.const _ | exact zak _ _ _ _ _ _ _ _ _ _ _ _ _ _ _ | exact h_r7 _ _ _ _ _ _ _ _ _ _ | (apply zbx<;>assumption) | (apply zcq<;>assumption) | apply ChO.ite | apply ChO.G | apply ChO.both | (apply ChO.bind;intro _) | (apply ChO.bind2 (zak _ _ _ _ _ _ _ _ _ _ _ _ _ _ _);intro _)
theorem zbI (zac:Tf3) (from':Int) (start:Int) (signs:Tp15) (p:Int) (w:Tp15) (has:Bool):Cn (zcP zac from' start signs p w has):=fun g h hg x=>zb6 (fun _=>zac) zac (fun _ _ _ _ _ _ _ _ _ _ _ _ _ _ _=>ChO.const _) (fun κ q s s_1 s_2 s_3 s_4 s_5 s_6 s_7 l_1=>g κ (q,s,s_1,s_2,s_3,s_4,s_5,s_6,s_7,l_1)) (fun q s s_1 s_2 s_3 s_4 s_5 s_6 s_7 l_1=>h (q,s,s_1,s_2,s_3,s_4,s_5,s_6,s_7,l_1)) (fun q s s_1 s_2 s_3 s_4 s_5 s_6 s_7 l_1=>hg (q,s,s_1,s_2,s_3,s_4,s_5,s_6,s_7,l_1)) from' start signs p w has x.1 x.2.1 x.2.2.1 x.2.2.2.1 x.2.2.2.2.1 x.2.2.2.2.2.1 x.2.2.2.2.2.2.1 x.2.2.2.2.2.2.2.1 x.2.2.2.2.2.2.2.2.1 x.2.2.2.2.2.2.2.2.2
theorem zcA (zac:Tf3) (from':Int) (start:Int) (signs:Tp15) (p:Int) (w:Tp15) (has:Bool) (q:Int) (s:Int) (s_1:Int) (s_2:Tp8) (s_3:Int) (s_4:Int) (s_5:Tp14) (s_6:Tp15) (s_7:Bool) (l_1:Tp6):zas zac from' start signs p w has q s s_1 s_2 s_3 s_4 s_5 s_6 s_7 l_1=zaB zac from' start signs p w has (zas zac from' start signs p w has) q s s_1 s_2 s_3 s_4 s_5 s_6 s_7 l_1:=zbl (zbI zac from' start signs p w has) (q,s,s_1,s_2,s_3,s_4,s_5,s_6,s_7,l_1)
theorem zfb (zac:Nat->Tf3) (zah:Tf3) (zak:∀ a0 a1 a2 a3 a4 a5 a6 a7 a8 a9 a10 a11 a12 a13 a14,ChO (fun κ=>zac κ a0 a1 a2 a3 a4 a5 a6 a7 a8 a9 a10 a11 a12 a13 a14) (zah a0 a1 a2 a3 a4 a5 a6 a7 a8 a9 a10 a11 a12 a13 a14)) (from':Int) (start:Int) (signs:Tp15) (p:Int) (w:Tp15) (has:Bool) (q:Int) (s:Int) (s_1:Int) (s_2:Tp8) (s_3:Int) (s_4:Int) (s_5:Tp14) (s_6:Tp15) (s_7:Bool) (l_1:Tp6):ChO (fun κ=>zas (zac κ) from' start signs p w has q s s_1 s_2 s_3 s_4 s_5 s_6 s_7 l_1) (zas zah from' start signs p w has q s s_1 s_2 s_3 s_4 s_5 s_6 s_7 l_1):=by
  unfold zas
  exact zgX (fun κ=>(zbI (zac κ) from' start signs p w has).mono) (zbI zah from' start signs p w has).mono (fun g h hg x=>zb6 zac zah zak (fun κ q s s_1 s_2 s_3 s_4 s_5 s_6 s_7 l_1=>g κ (q,s,s_1,s_2,s_3,s_4,s_5,s_6,s_7,l_1)) (fun q s s_1 s_2 s_3 s_4 s_5 s_6 s_7 l_1=>h (q,s,s_1,s_2,s_3,s_4,s_5,s_6,s_7,l_1)) (fun q s s_1 s_2 s_3 s_4 s_5 s_6 s_7 l_1=>hg (q,s,s_1,s_2,s_3,s_4,s_5,s_6,s_7,l_1)) from' start signs p w has x.1 x.2.1 x.2.2.1 x.2.2.2.1 x.2.2.2.2.1 x.2.2.2.2.2.1 x.2.2.2.2.2.2.1 x.2.2.2.2.2.2.2.1 x.2.2.2.2.2.2.2.2.1 x.2.2.2.2.2.2.2.2.2) _
theorem zfz (zac:Nat->Tf3) (zah:Tf3) (zak:∀ a0 a1 a2 a3 a4 a5 a6 a7 a8 a9 a10 a11 a12 a13 a14,ChO (fun κ=>zac κ a0 a1 a2 a3 a4 a5 a6 a7 a8 a9 a10 a11 a12 a13 a14) (zah a0 a1 a2 a3 a4 a5 a6 a7 a8 a9 a10 a11 a12 a13 a14)) (from':Int) (start:Int) (signs:Tp15) (p:Int) (w:Tp15) (has:Bool) (c:Int) (c_1:Int) (c_2:Tp8) (c_3:Int) (c_4:Int) (c_5:Tp14) (c_6:Tp15) (c_7:Bool) (l:Tp6):ChO (fun κ=>zaI (zac κ) from' start signs p w has c c_1 c_2 c_3 c_4 c_5 c_6 c_7 l) (zaI zah from' start signs p w has c c_1 c_2 c_3 c_4 c_5 c_6 c_7 l):=by
  unfold zaI
  repeat' with_reducible first | exact ChO.const _ | exact zak _ _ _ _ _ _ _ _ _ _ _ _ _ _ _ | (apply zbx<;>assumption) | (apply zcq<;>assumption) | (apply zfb<;>assumption) | apply ChO.ite | apply ChO.G | apply ChO.both | (apply ChO.bind;intro _) | (apply ChO.bind2 (zak _ _ _ _ _ _ _ _ _ _ _ _ _ _ _);intro _)
def zbH:(Int×Int×Tp15×Int×Tp15×Bool×Int×Int×Tp8×Int×Int×Tp14×Tp15×Bool×Tp6->Option Tp3)->Int×Int×Tp15×Int×Tp15×Bool×Int×Int×Tp8×Int×Int×Tp14×Tp15×Bool×Tp6->Option Tp3:=
  fun rec X=>zaI (fun from' start signs p w has c c_1 c_2 c_3 c_4 c_5 c_6 c_7 l=>rec (from',start,signs,p,w,has,c,c_1,c_2,c_3,c_4,c_5,c_6,c_7,l)) X.1 X.2.1 X.2.2.1 X.2.2.2.1 X.2.2.2.2.1 X.2.2.2.2.2.1 X.2.2.2.2.2.2.1 X.2.2.2.2.2.2.2.1 X.2.2.2.2.2.2.2.2.1 X.2.2.2.2.2.2.2.2.2.1 X.2.2.2.2.2.2.2.2.2.2.1 X.2.2.2.2.2.2.2.2.2.2.2.1 X.2.2.2.2.2.2.2.2.2.2.2.2.1 X.2.2.2.2.2.2.2.2.2.2.2.2.2.1 X.2.2.2.2.2.2.2.2.2.2.2.2.2.2
def zap (from':Int) (start:Int) (signs:Tp15) (p:Int) (w:Tp15) (has:Bool) (c:Int) (c_1:Int) (c_2:Tp8) (c_3:Int) (c_4:Int) (c_5:Tp14) (c_6:Tp15) (c_7:Bool) (l:Tp6):Option Tp3:=LFix zbH (from',start,signs,p,w,has,c,c_1,c_2,c_3,c_4,c_5,c_6,c_7,l)
theorem zgz:Cn zbH:=fun g h hg X=>zfz _ _ (fun from' start signs p w has c c_1 c_2 c_3 c_4 c_5 c_6 c_7 l=>hg (from',start,signs,p,w,has,c,c_1,c_2,c_3,c_4,c_5,c_6,c_7,l)) X.1 X.2.1 X.2.2.1 X.2.2.2.1 X.2.2.2.2.1 X.2.2.2.2.2.1 X.2.2.2.2.2.2.1 X.2.2.2.2.2.2.2.1 X.2.2.2.2.2.2.2.2.1 X.2.2.2.2.2.2.2.2.2.1 X.2.2.2.2.2.2.2.2.2.2.1 X.2.2.2.2.2.2.2.2.2.2.2.1 X.2.2.2.2.2.2.2.2.2.2.2.2.1 X.2.2.2.2.2.2.2.2.2.2.2.2.2.1 X.2.2.2.2.2.2.2.2.2.2.2.2.2.2
theorem zbs (from':Int) (start:Int) (signs:Tp15) (p:Int) (w:Tp15) (has:Bool) (c:Int) (c_1:Int) (c_2:Tp8) (c_3:Int) (c_4:Int) (c_5:Tp14) (c_6:Tp15) (c_7:Bool) (l:Tp6):zap from' start signs p w has c c_1 c_2 c_3 c_4 c_5 c_6 c_7 l=zaI zap from' start signs p w has c c_1 c_2 c_3 c_4 c_5 c_6 c_7 l:=zbl zgz (from',start,signs,p,w,has,c,c_1,c_2,c_3,c_4,c_5,c_6,c_7,l)

def zdZ (from':Int) (start:Int) (signs:Tp15) (q:Int) (s:Int) (s_1:Int) (s_2:Tp8) (s_3:Int) (s_4:Int) (s_5:Tp14) (s_6:Tp15) (s_7:Bool) (l_1:Tp6) (r7:(Int->Int->Int->Tp8->Int->Int->Tp14->Tp15->Bool->Tp6->Option Tp3)) (ok:Bool) (x':Tp15):Option Tp3:=
  G (0<=(1:Int)/\(1:Int)<=(signs.length:Int)/\(signs.length:Int)<=(signs.length:Int)) (
  (zap from' start (cut signs (1:Int) (signs.length:Int)) q x' ok s s_1 s_2 s_3 s_4 s_5 s_6 s_7 l_1).bind (fun y'_44=>
  G (fits (q+(1:Int))) (
  r7 (q+(1:Int)) y'_44.1 y'_44.2.1 y'_44.2.2.1 y'_44.2.2.2.1 y'_44.2.2.2.2.1 y'_44.2.2.2.2.2.1 y'_44.2.2.2.2.2.2.1 y'_44.2.2.2.2.2.2.2.2 y'_44.2.2.2.2.2.2.2.1)))
def zch (from':Int) (start:Int) (signs:Tp15) (q:Int) (s:Int) (s_1:Int) (s_2:Tp8) (s_3:Int) (s_4:Int) (s_5:Tp14) (s_6:Tp15) (s_7:Bool) (l_1:Tp6) (r7:(Int->Int->Int->Tp8->Int->Int->Tp14->Tp15->Bool->Tp6->Option Tp3)) (y'_33:Int) (ok:Bool):Option Tp3:=
  if ok=true then
  G (room ([]:List Int) ([]:List Int) 8) (
  G (0<=y'_33/\y'_33 < (l_1.length:Int)) (
  G ((y'_33).toNat < l_1.length) (
  G (room ([]:List Int) ((((ix l_1 y'_33).2).2).1) 8) (
  zdZ from' start signs q s s_1 s_2 s_3 s_4 s_5 s_6 s_7 l_1 r7 ok (([]:List Int)++((((ix l_1 y'_33).2).2).1)))))) else
  zdZ from' start signs q s s_1 s_2 s_3 s_4 s_5 s_6 s_7 l_1 r7 ok ([])
def zgB (from':Int) (start:Int) (signs:Tp15) (p:Int) (has:Bool) (r7:Tf8) (q:Int) (s:Int) (s_1:Int) (s_2:Tp8) (s_3:Int) (s_4:Int) (s_5:Tp14) (s_6:Tp15) (s_7:Bool) (l_1:Tp6):Option Tp3:=
  if (decide (q < (s_5.length:Int)))=true then
  G (0<=(0:Int)/\(0:Int) < (signs.length:Int)) (
  G (fits ((ix signs (0:Int)) - s)) (
  (za7 ((s,(s_1,(s_2,()))),((s_3,(s_4,(s_5,(s_6,())))),(l_1,(s_7,())))) ((ix signs (0:Int)) - s) p q).bind (fun y'_33=>
  G (0<=y'_33/\y'_33 < (l_1.length:Int)) (
  G ((y'_33).toNat < l_1.length) (
  if (!((ix l_1 y'_33).1))=true then
  G (fits (q+(1:Int))) (
  r7 (q+(1:Int)) s s_1 s_2 s_3 s_4 s_5 s_6 s_7 l_1) else
  if has=true then
  G (0<=y'_33/\y'_33 < (l_1.length:Int)) (
  G ((y'_33).toNat < l_1.length) (
  if (((ix l_1 y'_33).2).1)=true then
  G (0<=y'_33/\y'_33 < (l_1.length:Int)) (
  G ((y'_33).toNat < l_1.length) (
  G (fits ((0:Int)+(((((ix l_1 y'_33).2).2).1).length:Int))) (
  zch from' start signs q s s_1 s_2 s_3 s_4 s_5 s_6 s_7 l_1 r7 y'_33 (decide (((0:Int)+(((((ix l_1 y'_33).2).2).1).length:Int))<=(60:Int)))))) else
  zch from' start signs q s s_1 s_2 s_3 s_4 s_5 s_6 s_7 l_1 r7 y'_33 false)) else
  zch from' start signs q s s_1 s_2 s_3 s_4 s_5 s_6 s_7 l_1 r7 y'_33 false))))) else
  some (s,s_1,s_2,s_3,s_4,s_5,s_6,l_1,s_7)
def zgC (from':Int) (start:Int) (signs:Tp15) (p:Int) (has:Bool):(Int×Int×Int×Tp8×Int×Int×Tp14×Tp15×Bool×Tp6->Option Tp3)->Int×Int×Int×Tp8×Int×Int×Tp14×Tp15×Bool×Tp6->Option Tp3:=
  fun rec x=>zgB from' start signs p has (fun q s s_1 s_2 s_3 s_4 s_5 s_6 s_7 l_1=>rec (q,s,s_1,s_2,s_3,s_4,s_5,s_6,s_7,l_1)) x.1 x.2.1 x.2.2.1 x.2.2.2.1 x.2.2.2.2.1 x.2.2.2.2.2.1 x.2.2.2.2.2.2.1 x.2.2.2.2.2.2.2.1 x.2.2.2.2.2.2.2.2.1 x.2.2.2.2.2.2.2.2.2
def zhX (from':Int) (start:Int) (signs:Tp15) (p:Int) (has:Bool) (q:Int) (s:Int) (s_1:Int) (s_2:Tp8) (s_3:Int) (s_4:Int) (s_5:Tp14) (s_6:Tp15) (s_7:Bool) (l_1:Tp6):Option Tp3:=LFix (zgC from' start signs p has ) (q,s,s_1,s_2,s_3,s_4,s_5,s_6,s_7,l_1)
def zdY (from':Int) (start:Int) (signs:Tp15) (p:Int) (has:Bool) (c:Int) (c_1:Int) (c_2:Tp8) (c_3:Int) (c_4:Int) (c_5:Tp14) (c_6:Tp15) (c_7:Bool) (l:Tp6):Option Tp3:=
  if (decide ((signs.length:Int)=(0:Int)))=true then
  (zgP from' start p has c c_1 c_2 c_3 c_4 c_5 c_6 c_7 l).bind (fun y'_10=>
  some (y'_10.1,y'_10.2.1,y'_10.2.2.1,y'_10.2.2.2.1,y'_10.2.2.2.2.1,y'_10.2.2.2.2.2.1,y'_10.2.2.2.2.2.2.1,y'_10.2.2.2.2.2.2.2.1,y'_10.2.2.2.2.2.2.2.2)) else
  G (0<=(0:Int)/\(0:Int) < (signs.length:Int)) (
  if (decide ((ix signs (0:Int)) < c))=true then
  G (room ([]:List Int) ([]:List Int) 8) (
  G (0<=(0:Int)/\(0:Int) < (signs.length:Int)) (
  G (room (([]:List Int)++([]:List Int)) ([ix signs (0:Int)]) 8) (
  G (0<=(1:Int)/\(1:Int)<=(signs.length:Int)/\(signs.length:Int)<=(signs.length:Int)) (
  G (0<=p/\p < (c_5.length:Int)) (
  G (0<=(0:Int)/\(0:Int) < (signs.length:Int)) (
  G (0<=ix signs (0:Int)/\ix signs (0:Int) < ((ix c_5 p).length:Int)) (
  if has=true then
  (zap from' start (cut signs (1:Int) (signs.length:Int)) (ix (ix c_5 p) (ix signs (0:Int))) ((([]:List Int)++([]:List Int))++([ix signs (0:Int)])) (decide ((((([]:List Int)++([]:List Int))++([ix signs (0:Int)])).length:Int)<=(60:Int))) c c_1 c_2 c_3 c_4 c_5 c_6 c_7 l).bind (fun y'_21=>
  some (y'_21.1,y'_21.2.1,y'_21.2.2.1,y'_21.2.2.2.1,y'_21.2.2.2.2.1,y'_21.2.2.2.2.2.1,y'_21.2.2.2.2.2.2.1,y'_21.2.2.2.2.2.2.2.1,y'_21.2.2.2.2.2.2.2.2)) else
  (zap from' start (cut signs (1:Int) (signs.length:Int)) (ix (ix c_5 p) (ix signs (0:Int))) ((([]:List Int)++([]:List Int))++([ix signs (0:Int)])) false c c_1 c_2 c_3 c_4 c_5 c_6 c_7 l).bind (fun y'_32=>
  some (y'_32.1,y'_32.2.1,y'_32.2.2.1,y'_32.2.2.2.1,y'_32.2.2.2.2.1,y'_32.2.2.2.2.2.1,y'_32.2.2.2.2.2.2.1,y'_32.2.2.2.2.2.2.2.1,y'_32.2.2.2.2.2.2.2.2))))))))) else
  zhX from' start signs p has (0:Int) c c_1 c_2 c_3 c_4 c_5 c_6 c_7 l)
def zbp (g':Tp4) (d:Tp5) (k:Int) (r6:(Int->Int->Int->Tp8->Int->Int->Tp14->Tp15->Bool->Tp6->Option Tp10)) (r9:Tf7) (p:Int) (s_16:Int) (s_17:Int) (s_18:Tp8) (s_19:Int) (s_20:Int) (s_21:Tp14) (s_22:Tp15) (s_23:Bool) (l_2:Tp6):Option Tp10:=
  if (decide (p < (d.2.2.1.length:Int)))=true then
  G (0<=k/\k < (g'.2.2.1.length:Int)) (
  G (0<=k/\k < (g'.2.2.1.length:Int)) (
  (zdY ((ix g'.2.2.1 k).1) p (((ix g'.2.2.1 k).2).1) p true s_16 s_17 s_18 s_19 s_20 s_21 s_22 s_23 l_2).bind (fun y'_10=>
  G (fits (p+(1:Int))) (
  r9 (p+(1:Int)) y'_10.1 y'_10.2.1 y'_10.2.2.1 y'_10.2.2.2.1 y'_10.2.2.2.2.1 y'_10.2.2.2.2.2.1 y'_10.2.2.2.2.2.2.1 y'_10.2.2.2.2.2.2.2.2 y'_10.2.2.2.2.2.2.2.1)))) else
  G (fits (k+(1:Int))) (
  r6 (k+(1:Int)) s_16 s_17 s_18 s_19 s_20 s_21 s_22 s_23 l_2)
def zgO (g':Tp4) (d:Tp5) (k:Int) (r6:(Int->Int->Int->Tp8->Int->Int->Tp14->Tp15->Bool->Tp6->Option Tp10)):(Int×Int×Int×Tp8×Int×Int×Tp14×Tp15×Bool×Tp6->Option Tp10)->Int×Int×Int×Tp8×Int×Int×Tp14×Tp15×Bool×Tp6->Option Tp10:=
  fun rec x=>zbp g' d k r6 (fun p s_16 s_17 s_18 s_19 s_20 s_21 s_22 s_23 l_2=>rec (p,s_16,s_17,s_18,s_19,s_20,s_21,s_22,s_23,l_2)) x.1 x.2.1 x.2.2.1 x.2.2.2.1 x.2.2.2.2.1 x.2.2.2.2.2.1 x.2.2.2.2.2.2.1 x.2.2.2.2.2.2.2.1 x.2.2.2.2.2.2.2.2.1 x.2.2.2.2.2.2.2.2.2
def zbX (g':Tp4) (d:Tp5) (k:Int) (r6:(Int->Int->Int->Tp8->Int->Int->Tp14->Tp15->Bool->Tp6->Option Tp10)) (p:Int) (s_16:Int) (s_17:Int) (s_18:Tp8) (s_19:Int) (s_20:Int) (s_21:Tp14) (s_22:Tp15) (s_23:Bool) (l_2:Tp6):Option Tp10:=LFix (zgO g' d k r6 ) (p,s_16,s_17,s_18,s_19,s_20,s_21,s_22,s_23,l_2)
def zbo (g':Tp4) (d:Tp5) (r3:(Int->Int->Tp8->Int->Int->Tp14->Tp15->Bool->Tp6->Option Tp10)) (r6:Tf7) (k:Int) (s_8:Int) (s_9:Int) (s_10:Tp8) (s_11:Int) (s_12:Int) (s_13:Tp14) (s_14:Tp15) (s_15:Bool) (l_1:Tp6):Option Tp10:=
  if (decide (k < (g'.2.2.1.length:Int)))=true then
  zbX g' d k r6 (0:Int) s_8 s_9 s_10 s_11 s_12 s_13 s_14 s_15 l_1 else
  r3 s_8 s_9 s_10 s_11 s_12 s_13 s_14 s_15 l_1
def zgN (g':Tp4) (d:Tp5) (r3:(Int->Int->Tp8->Int->Int->Tp14->Tp15->Bool->Tp6->Option Tp10)):(Int×Int×Int×Tp8×Int×Int×Tp14×Tp15×Bool×Tp6->Option Tp10)->Int×Int×Int×Tp8×Int×Int×Tp14×Tp15×Bool×Tp6->Option Tp10:=
  fun rec x=>zbo g' d r3 (fun k s_8 s_9 s_10 s_11 s_12 s_13 s_14 s_15 l_1=>rec (k,s_8,s_9,s_10,s_11,s_12,s_13,s_14,s_15,l_1)) x.1 x.2.1 x.2.2.1 x.2.2.2.1 x.2.2.2.2.1 x.2.2.2.2.2.1 x.2.2.2.2.2.2.1 x.2.2.2.2.2.2.2.1 x.2.2.2.2.2.2.2.2.1 x.2.2.2.2.2.2.2.2.2
def zbA (g':Tp4) (d:Tp5) (r3:(Int->Int->Tp8->Int->Int->Tp14->Tp15->Bool->Tp6->Option Tp10)) (k:Int) (s_8:Int) (s_9:Int) (s_10:Tp8) (s_11:Int) (s_12:Int) (s_13:Tp14) (s_14:Tp15) (s_15:Bool) (l_1:Tp6):Option Tp10:=LFix (zgN g' d r3 ) (k,s_8,s_9,s_10,s_11,s_12,s_13,s_14,s_15,l_1)
def zbk (d:Tp5) (best:Tp15) (any:Bool) (has:Bool) (q:Int) (r16:(Tp15->Bool->Bool->Int->Option Tp10)) (x':Bool) (x'_1:Bool) (x'_2:Tp15):Option Tp10:=
  G (0<=q/\q < (d.2.2.2.1.length:Int)) (
  if (decide ((ix d.2.2.2.1 q)=(0:Int)))=true then
  G (fits (q+(1:Int))) (
  r16 best any has (q+(1:Int))) else
  if (!x')=true then
  G (fits (q+(1:Int))) (
  r16 best any has (q+(1:Int))) else
  (zdc x'_2 best).bind (fun y'_12=>
  if x'_1=true then
  if (!has)=true then
  G (fits (q+(1:Int))) (
  r16 x'_2 true true (q+(1:Int))) else
  if y'_12=true then
  G (fits (q+(1:Int))) (
  r16 x'_2 true true (q+(1:Int))) else
  G (fits (q+(1:Int))) (
  r16 best true has (q+(1:Int))) else
  G (fits (q+(1:Int))) (
  r16 best true has (q+(1:Int)))))
def zbe (d:Tp5) (s:Int) (s_1:Int) (s_2:Tp8) (s_3:Int) (s_4:Int) (s_5:Tp14) (s_6:Tp15) (s_7:Bool) (l:Tp6) (r16:Tf11) (best:Tp15) (any:Bool) (has:Bool) (q:Int):Option Tp10:=
  if (decide (q < (d.2.2.1.length:Int)))=true then
  both [(.list (.int .i64)),.bool,.bool] (
  (za7 ((s,(s_1,(s_2,()))),((s_3,(s_4,(s_5,(s_6,())))),(l,(s_7,())))) (0:Int) d.2.1 q).bind (fun y'_11=>
  G (0<=y'_11/\y'_11 < (l.length:Int)) (
  G ((y'_11).toNat < l.length) (
  zbk d best any has q r16 ((ix l y'_11).1) (((ix l y'_11).2).1) ((((ix l y'_11).2).2).1))))) (
  (za7 ((s,(s_1,(s_2,()))),((s_3,(s_4,(s_5,(s_6,())))),(l,(s_7,())))) (0:Int) d.2.1 q).bind (fun y'_13=>
  G (0<=y'_13/\y'_13 < (l.length:Int)) (
  G ((y'_13).toNat < l.length) (
  zbk d best any has q r16 ((ix l y'_13).1) (((ix l y'_13).2).1) ((((ix l y'_13).2).2).1))))) else
  some (best,any,has)
def zf4 (d:Tp5) (s:Int) (s_1:Int) (s_2:Tp8) (s_3:Int) (s_4:Int) (s_5:Tp14) (s_6:Tp15) (s_7:Bool) (l:Tp6):(Tp15×Bool×Bool×Int->Option Tp10)->Tp15×Bool×Bool×Int->Option Tp10:=
  fun rec x=>zbe d s s_1 s_2 s_3 s_4 s_5 s_6 s_7 l (fun best any has q=>rec (best,any,has,q)) x.1 x.2.1 x.2.2.1 x.2.2.2
def zaD (d:Tp5) (s:Int) (s_1:Int) (s_2:Tp8) (s_3:Int) (s_4:Int) (s_5:Tp14) (s_6:Tp15) (s_7:Bool) (l:Tp6) (best:Tp15) (any:Bool) (has:Bool) (q:Int):Option Tp10:=LFix (zf4 d s s_1 s_2 s_3 s_4 s_5 s_6 s_7 l ) (best,any,has,q)
def zbN (g':Tp4) (d:Tp5) (r3:Tf9) (s:Int) (s_1:Int) (s_2:Tp8) (s_3:Int) (s_4:Int) (s_5:Tp14) (s_6:Tp15) (s_7:Bool) (l:Tp6):Option Tp10:=
  if s_7=true then
  zbA g' d r3 (0:Int) s s_1 s_2 s_3 s_4 s_5 s_6 false l else
  zaD d s s_1 s_2 s_3 s_4 s_5 s_6 s_7 l ([]) false false (0:Int)
def zgM (g':Tp4) (d:Tp5):(Int×Int×Tp8×Int×Int×Tp14×Tp15×Bool×Tp6->Option Tp10)->Int×Int×Tp8×Int×Int×Tp14×Tp15×Bool×Tp6->Option Tp10:=
  fun rec x=>zbN g' d (fun s s_1 s_2 s_3 s_4 s_5 s_6 s_7 l=>rec (s,s_1,s_2,s_3,s_4,s_5,s_6,s_7,l)) x.1 x.2.1 x.2.2.1 x.2.2.2.1 x.2.2.2.2.1 x.2.2.2.2.2.1 x.2.2.2.2.2.2.1 x.2.2.2.2.2.2.2.1 x.2.2.2.2.2.2.2.2
def zc9 (g':Tp4) (d:Tp5) (s:Int) (s_1:Int) (s_2:Tp8) (s_3:Int) (s_4:Int) (s_5:Tp14) (s_6:Tp15) (s_7:Bool) (l:Tp6):Option Tp10:=LFix (zgM g' d ) (s,s_1,s_2,s_3,s_4,s_5,s_6,s_7,l)
def zhT (g':Tp4) (d:Tp5):Option Tp10:=
  G (fits (g'.2.1 * (d.2.2.1.length:Int))) (
  G (fits ((g'.2.1 * (d.2.2.1.length:Int)) * (d.2.2.1.length:Int))) (
  G (mkOK ((g'.2.1 * (d.2.2.1.length:Int)) * (d.2.2.1.length:Int)) ((g'.2.1 * (d.2.2.1.length:Int)) * (d.2.2.1.length:Int)) 32) (
  zc9 g' d g'.1 g'.2.1 g'.2.2.1 d.1 d.2.1 d.2.2.1 d.2.2.2.1 true (List.replicate ((g'.2.1 * (d.2.2.1.length:Int)) * (d.2.2.1.length:Int)).toNat ((false,(false,([],()))):Bool×Bool×Tp15×Unit)))))
theorem zeM (r6:Nat->Tf7) (r6':Tf7) (h_r6:∀ a0 a1 a2 a3 a4 a5 a6 a7 a8 a9,ChO (fun κ=>r6 κ a0 a1 a2 a3 a4 a5 a6 a7 a8 a9) (r6' a0 a1 a2 a3 a4 a5 a6 a7 a8 a9)) (r9:Nat->Tf7) (r9':Tf7) (h_r9:∀ a0 a1 a2 a3 a4 a5 a6 a7 a8 a9,ChO (fun κ=>r9 κ a0 a1 a2 a3 a4 a5 a6 a7 a8 a9) (r9' a0 a1 a2 a3 a4 a5 a6 a7 a8 a9)) (g':Tp4) (d:Tp5) (k:Int) (p:Int) (s_16:Int) (s_17:Int) (s_18:Tp8) (s_19:Int) (s_20:Int) (s_21:Tp14) (s_22:Tp15) (s_23:Bool) (l_2:Tp6):ChO (fun κ=>zbp g' d k (r6 κ) (r9 κ) p s_16 s_17 s_18 s_19 s_20 s_21 s_22 s_23 l_2) (zbp g' d k r6' r9' p s_16 s_17 s_18 s_19 s_20 s_21 s_22 s_23 l_2):=by
  unfold zbp
  repeat' with_reducible first | exact ChO.const _ | exact h_r6 _ _ _ _ _ _ _ _ _ _ | exact h_r9 _ _ _ _ _ _ _ _ _ _ | apply ChO.ite | apply ChO.G | apply ChO.both | (apply ChO.bind;intro _)
theorem zdW (r6:Tf7) (g':Tp4) (d:Tp5) (k:Int):Cn (zgO g' d k r6):=fun g h hg x=>zeM (fun _=>r6) r6 (fun _ _ _ _ _ _ _ _ _ _=>ChO.const _) (fun κ p s_16 s_17 s_18 s_19 s_20 s_21 s_22 s_23 l_2=>g κ (p,s_16,s_17,s_18,s_19,s_20,s_21,s_22,s_23,l_2)) (fun p s_16 s_17 s_18 s_19 s_20 s_21 s_22 s_23 l_2=>h (p,s_16,s_17,s_18,s_19,s_20,s_21,s_22,s_23,l_2)) (fun p s_16 s_17 s_18 s_19 s_20 s_21 s_22 s_23 l_2=>hg (p,s_16,s_17,s_18,s_19,s_20,s_21,s_22,s_23,l_2)) g' d k x.1 x.2.1 x.2.2.1 x.2.2.2.1 x.2.2.2.2.1 x.2.2.2.2.2.1 x.2.2.2.2.2.2.1 x.2.2.2.2.2.2.2.1 x.2.2.2.2.2.2.2.2.1 x.2.2.2.2.2.2.2.2.2
theorem zf7 (r6:Tf7) (g':Tp4) (d:Tp5) (k:Int) (p:Int) (s_16:Int) (s_17:Int) (s_18:Tp8) (s_19:Int) (s_20:Int) (s_21:Tp14) (s_22:Tp15) (s_23:Bool) (l_2:Tp6):zbX g' d k r6 p s_16 s_17 s_18 s_19 s_20 s_21 s_22 s_23 l_2=zbp g' d k r6 (zbX g' d k r6) p s_16 s_17 s_18 s_19 s_20 s_21 s_22 s_23 l_2:=zbl (zdW r6 g' d k) (p,s_16,s_17,s_18,s_19,s_20,s_21,s_22,s_23,l_2)
theorem zcz (r6:Nat->Tf7) (r6':Tf7) (h_r6:∀ a0 a1 a2 a3 a4 a5 a6 a7 a8 a9,ChO (fun κ=>r6 κ a0 a1 a2 a3 a4 a5 a6 a7 a8 a9) (r6' a0 a1 a2 a3 a4 a5 a6 a7 a8 a9)) (g':Tp4) (d:Tp5) (k:Int) (p:Int) (s_16:Int) (s_17:Int) (s_18:Tp8) (s_19:Int) (s_20:Int) (s_21:Tp14) (s_22:Tp15) (s_23:Bool) (l_2:Tp6):ChO (fun κ=>zbX g' d k (r6 κ) p s_16 s_17 s_18 s_19 s_20 s_21 s_22 s_23 l_2) (zbX g' d k r6' p s_16 s_17 s_18 s_19 s_20 s_21 s_22 s_23 l_2):=by
  unfold zbX
  exact zgX (fun κ=>(zdW (r6 κ) g' d k).mono) (zdW r6' g' d k).mono (fun g h hg x=>zeM r6 r6' h_r6 (fun κ p s_16 s_17 s_18 s_19 s_20 s_21 s_22 s_23 l_2=>g κ (p,s_16,s_17,s_18,s_19,s_20,s_21,s_22,s_23,l_2)) (fun p s_16 s_17 s_18 s_19 s_20 s_21 s_22 s_23 l_2=>h (p,s_16,s_17,s_18,s_19,s_20,s_21,s_22,s_23,l_2)) (fun p s_16 s_17 s_18 s_19 s_20 s_21 s_22 s_23 l_2=>hg (p,s_16,s_17,s_18,s_19,s_20,s_21,s_22,s_23,l_2)) g' d k x.1 x.2.1 x.2.2.1 x.2.2.2.1 x.2.2.2.2.1 x.2.2.2.2.2.1 x.2.2.2.2.2.2.1 x.2.2.2.2.2.2.2.1 x.2.2.2.2.2.2.2.2.1 x.2.2.2.2.2.2.2.2.2) _
theorem zeL (r3:Nat->Tf9) (r3':Tf9) (h_r3:∀ a0 a1 a2 a3 a4 a5 a6 a7 a8,ChO (fun κ=>r3 κ a0 a1 a2 a3 a4 a5 a6 a7 a8) (r3' a0 a1 a2 a3 a4 a5 a6 a7 a8)) (r6:Nat->Tf7) (r6':Tf7) (h_r6:∀ a0 a1 a2 a3 a4 a5 a6 a7 a8 a9,ChO (fun κ=>r6 κ a0 a1 a2 a3 a4 a5 a6 a7 a8 a9) (r6' a0 a1 a2 a3 a4 a5 a6 a7 a8 a9)) (g':Tp4) (d:Tp5) (k:Int) (s_8:Int) (s_9:Int) (s_10:Tp8) (s_11:Int) (s_12:Int) (s_13:Tp14) (s_14:Tp15) (s_15:Bool) (l_1:Tp6):ChO (fun κ=>zbo g' d (r3 κ) (r6 κ) k s_8 s_9 s_10 s_11 s_12 s_13 s_14 s_15 l_1) (zbo g' d r3' r6' k s_8 s_9 s_10 s_11 s_12 s_13 s_14 s_15 l_1):=by
  unfold zbo
  repeat' with_reducible first | exact ChO.const _ | exact h_r3 _ _ _ _ _ _ _ _ _ | exact h_r6 _ _ _ _ _ _ _ _ _ _ | (apply zcz<;>assumption) | apply ChO.ite | apply ChO.G | apply ChO.both | (apply ChO.bind;intro _)
theorem zdV (r3:Tf9) (g':Tp4) (d:Tp5):Cn (zgN g' d r3):=fun g h hg x=>zeL (fun _=>r3) r3 (fun _ _ _ _ _ _ _ _ _=>ChO.const _) (fun κ k s_8 s_9 s_10 s_11 s_12 s_13 s_14 s_15 l_1=>g κ (k,s_8,s_9,s_10,s_11,s_12,s_13,s_14,s_15,l_1)) (fun k s_8 s_9 s_10 s_11 s_12 s_13 s_14 s_15 l_1=>h (k,s_8,s_9,s_10,s_11,s_12,s_13,s_14,s_15,l_1)) (fun k s_8 s_9 s_10 s_11 s_12 s_13 s_14 s_15 l_1=>hg (k,s_8,s_9,s_10,s_11,s_12,s_13,s_14,s_15,l_1)) g' d x.1 x.2.1 x.2.2.1 x.2.2.2.1 x.2.2.2.2.1 x.2.2.2.2.2.1 x.2.2.2.2.2.2.1 x.2.2.2.2.2.2.2.1 x.2.2.2.2.2.2.2.2.1 x.2.2.2.2.2.2.2.2.2
theorem zf6 (r3:Tf9) (g':Tp4) (d:Tp5) (k:Int) (s_8:Int) (s_9:Int) (s_10:Tp8) (s_11:Int) (s_12:Int) (s_13:Tp14) (s_14:Tp15) (s_15:Bool) (l_1:Tp6):zbA g' d r3 k s_8 s_9 s_10 s_11 s_12 s_13 s_14 s_15 l_1=zbo g' d r3 (zbA g' d r3) k s_8 s_9 s_10 s_11 s_12 s_13 s_14 s_15 l_1:=zbl (zdV r3 g' d) (k,s_8,s_9,s_10,s_11,s_12,s_13,s_14,s_15,l_1)
theorem zdU (r3:Nat->Tf9) (r3':Tf9) (h_r3:∀ a0 a1 a2 a3 a4 a5 a6 a7 a8,ChO (fun κ=>r3 κ a0 a1 a2 a3 a4 a5 a6 a7 a8) (r3' a0 a1 a2 a3 a4 a5 a6 a7 a8)) (g':Tp4) (d:Tp5) (k:Int) (s_8:Int) (s_9:Int) (s_10:Tp8) (s_11:Int) (s_12:Int) (s_13:Tp14) (s_14:Tp15) (s_15:Bool) (l_1:Tp6):ChO (fun κ=>zbA g' d (r3 κ) k s_8 s_9 s_10 s_11 s_12 s_13 s_14 s_15 l_1) (zbA g' d r3' k s_8 s_9 s_10 s_11 s_12 s_13 s_14 s_15 l_1):=by
  unfold zbA
  exact zgX (fun κ=>(zdV (r3 κ) g' d).mono) (zdV r3' g' d).mono (fun g h hg x=>zeL r3 r3' h_r3 (fun κ k s_8 s_9 s_10 s_11 s_12 s_13 s_14 s_15 l_1=>g κ (k,s_8,s_9,s_10,s_11,s_12,s_13,s_14,s_15,l_1)) (fun k s_8 s_9 s_10 s_11 s_12 s_13 s_14 s_15 l_1=>h (k,s_8,s_9,s_10,s_11,s_12,s_13,s_14,s_15,l_1)) (fun k s_8 s_9 s_10 s_11 s_12 s_13 s_14 s_15 l_1=>hg (k,s_8,s_9,s_10,s_11,s_12,s_13,s_14,s_15,l_1)) g' d x.1 x.2.1 x.2.2.1 x.2.2.2.1 x.2.2.2.2.1 x.2.2.2.2.2.1 x.2.2.2.2.2.2.1 x.2.2.2.2.2.2.2.1 x.2.2.2.2.2.2.2.2.1 x.2.2.2.2.2.2.2.2.2) _
theorem zfo (r16:Nat->Tf11) (r16':Tf11) (h_r16:∀ a0 a1 a2 a3,ChO (fun κ=>r16 κ a0 a1 a2 a3) (r16' a0 a1 a2 a3)) (d:Tp5) (best:Tp15) (any:Bool) (has:Bool) (q:Int) (x':Bool) (x'_1:Bool) (x'_2:Tp15):ChO (fun κ=>zbk d best any has q (r16 κ) x' x'_1 x'_2) (zbk d best any has q r16' x' x'_1 x'_2):=by
  unfold zbk
  repeat' with_reducible first | exact ChO.const _ | exact h_r16 _ _ _ _ | (apply zcz<;>assumption) | (apply zdU<;>assumption) | apply ChO.ite | apply ChO.G | apply ChO.both | (apply ChO.bind;intro _)
theorem zhU (r16:Nat->Tf11) (r16':Tf11) (h_r16:∀ a0 a1 a2 a3,ChO (fun κ=>r16 κ a0 a1 a2 a3) (r16' a0 a1 a2 a3)) (d:Tp5) (s:Int) (s_1:Int) (s_2:Tp8) (s_3:Int) (s_4:Int) (s_5:Tp14) (s_6:Tp15) (s_7:Bool) (l:Tp6) (best:Tp15) (any:Bool) (has:Bool) (q:Int):ChO (fun κ=>zbe d s s_1 s_2 s_3 s_4 s_5 s_6 s_7 l (r16 κ) best any has q) (zbe d s s_1 s_2 s_3 s_4 s_5 s_6 s_7 l r16' best any has q):=by
  unfold zbe
  repeat' with_reducible first | exact ChO.const _ | exact h_r16 _ _ _ _ | (apply zcz<;>assumption) | (apply zdU<;>assumption) | (apply zfo<;>assumption) | apply ChO.ite | apply ChO.G | apply ChO.both | (apply ChO.bind;intro _)
theorem zi3  (d:Tp5) (s:Int) (s_1:Int) (s_2:Tp8) (s_3:Int) (s_4:Int) (s_5:Tp14) (s_6:Tp15) (s_7:Bool) (l:Tp6):Cn (zf4 d s s_1 s_2 s_3 s_4 s_5 s_6 s_7 l):=fun g h hg x=>zhU  (fun κ best any has q=>g κ (best,any,has,q)) (fun best any has q=>h (best,any,has,q)) (fun best any has q=>hg (best,any,has,q)) d s s_1 s_2 s_3 s_4 s_5 s_6 s_7 l x.1 x.2.1 x.2.2.1 x.2.2.2
theorem zfp  (d:Tp5) (s:Int) (s_1:Int) (s_2:Tp8) (s_3:Int) (s_4:Int) (s_5:Tp14) (s_6:Tp15) (s_7:Bool) (l:Tp6) (best:Tp15) (any:Bool) (has:Bool) (q:Int):zaD d s s_1 s_2 s_3 s_4 s_5 s_6 s_7 l best any has q=zbe d s s_1 s_2 s_3 s_4 s_5 s_6 s_7 l (zaD d s s_1 s_2 s_3 s_4 s_5 s_6 s_7 l) best any has q:=zbl (zi3 d s s_1 s_2 s_3 s_4 s_5 s_6 s_7 l) (best,any,has,q)
theorem zin (r3:Nat->Tf9) (r3':Tf9) (h_r3:∀ a0 a1 a2 a3 a4 a5 a6 a7 a8,ChO (fun κ=>r3 κ a0 a1 a2 a3 a4 a5 a6 a7 a8) (r3' a0 a1 a2 a3 a4 a5 a6 a7 a8)) (g':Tp4) (d:Tp5) (s:Int) (s_1:Int) (s_2:Tp8) (s_3:Int) (s_4:Int) (s_5:Tp14) (s_6:Tp15) (s_7:Bool) (l:Tp6):ChO (fun κ=>zbN g' d (r3 κ) s s_1 s_2 s_3 s_4 s_5 s_6 s_7 l) (zbN g' d r3' s s_1 s_2 s_3 s_4 s_5 s_6 s_7 l):=by
  unfold zbN
  repeat' with_reducible first | exact ChO.const _ | exact h_r3 _ _ _ _ _ _ _ _ _ | (apply zcz<;>assumption) | (apply zdU<;>assumption) | (apply zfo<;>assumption) | apply ChO.ite | apply ChO.G | apply ChO.both | (apply ChO.bind;intro _)
theorem zj2  (g':Tp4) (d:Tp5):Cn (zgM g' d):=fun g h hg x=>zin  (fun κ s s_1 s_2 s_3 s_4 s_5 s_6 s_7 l=>g κ (s,s_1,s_2,s_3,s_4,s_5,s_6,s_7,l)) (fun s s_1 s_2 s_3 s_4 s_5 s_6 s_7 l=>h (s,s_1,s_2,s_3,s_4,s_5,s_6,s_7,l)) (fun s s_1 s_2 s_3 s_4 s_5 s_6 s_7 l=>hg (s,s_1,s_2,s_3,s_4,s_5,s_6,s_7,l)) g' d x.1 x.2.1 x.2.2.1 x.2.2.2.1 x.2.2.2.2.1 x.2.2.2.2.2.1 x.2.2.2.2.2.2.1 x.2.2.2.2.2.2.2.1 x.2.2.2.2.2.2.2.2
theorem zf5  (g':Tp4) (d:Tp5) (s:Int) (s_1:Int) (s_2:Tp8) (s_3:Int) (s_4:Int) (s_5:Tp14) (s_6:Tp15) (s_7:Bool) (l:Tp6):zc9 g' d s s_1 s_2 s_3 s_4 s_5 s_6 s_7 l=zbN g' d (zc9 g' d) s s_1 s_2 s_3 s_4 s_5 s_6 s_7 l:=zbl (zj2 g' d) (s,s_1,s_2,s_3,s_4,s_5,s_6,s_7,l)

def zbJ (a:Tp15) (b:Tp15) (r4:Int->Option (Bool)) (i:Int):Option (Bool):=
  if (decide (i < (a.length:Int)))=true then
  G (0<=i/\i < (a.length:Int)) (
  G (0<=i/\i < (b.length:Int)) (
  if (decide (¬ (ix a i)=(ix b i)))=true then
  some false else
  G (fits (i+(1:Int))) (
  r4 (i+(1:Int))))) else
  some true
def zh1 (a:Tp15) (b:Tp15):(Int->Option (Bool))->Int->Option (Bool):=
  fun rec x=>zbJ a b (fun i=>rec i) x
def zfc (a:Tp15) (b:Tp15) (i:Int):Option (Bool):=LFix (zh1 a b ) i
def zgu (a:Tp15) (b:Tp15):Option (Bool):=
  if (decide (¬ (a.length:Int)=(b.length:Int)))=true then
  some false else
  zfc a b (0:Int)
theorem zi4 (r4:Nat->Int->Option (Bool)) (r4':Int->Option (Bool)) (h_r4:∀ a0,ChO (fun κ=>r4 κ a0) (r4' a0)) (a:Tp15) (b:Tp15) (i:Int):ChO (fun κ=>zbJ a b (r4 κ) i) (zbJ a b r4' i):=by
  unfold zbJ
  repeat' with_reducible first | exact ChO.const _ | exact h_r4 _ | apply ChO.ite | apply ChO.G | apply ChO.both | (apply ChO.bind;intro _)
theorem zkp  (a:Tp15) (b:Tp15):Cn (zh1 a b):=fun g h hg x=>zi4  (fun κ i=>g κ i) (fun i=>h i) (fun i=>hg i) a b x
theorem zgR  (a:Tp15) (b:Tp15) (i:Int):zfc a b i=zbJ a b (zfc a b) i:=zbl (zkp a b) i

def zbU (y':Tp15) (y'_1:Bool) (y'_2:Int) (y'_5:Tp15) (y'_6:Bool) (t:Bool):Option (Bool):=
  if t=true then
  if (decide (y'_2=(7:Int)))=true then
  if (!y'_1)=true then
  some (decide ((y'.length:Int)=(0:Int))) else
  some false else
  some false else
  (zgu y' y'_5).bind (fun y'_9=>
  if (decide (y'_2=(0:Int)))=true then
  if (decide (y'_1=y'_6))=true then
  some y'_9 else
  some false else
  some false)
def zaq (g':Tp4) (y':Tp15) (y'_1:Bool) (y'_2:Int) (d:Int) (d_1:Int) (d_2:Tp14) (d_3:Tp15):Option (Bool):=
  (zhT (g'.1,(g'.2.1,(g'.2.2.1,()))) (d,(d_1,(d_2,(d_3,()))))).bind (fun y'_10=>
  if y'_10.2.1=true then
  zbU y' y'_1 y'_2 y'_10.1 y'_10.2.1 (!y'_10.2.2) else
  zbU y' y'_1 y'_2 y'_10.1 y'_10.2.1 false)
def zfX (g':Tp4):Option (Bool):=
  (zjJ (g'.1,(g'.2.1,(g'.2.2.1,())))).bind (fun y'_11=>
  (zhQ (g'.1,(g'.2.1,(g'.2.2.1,())))).bind (fun y'_4=>
  if (decide (y'_4=(0:Int)))=true then
  both [.bool] (
  G (mkOK g'.1 g'.1 8) (
  both [.bool] (
  both [.bool] (
  zaq g' y'_11.1 y'_11.2.1 y'_11.2.2 g'.1 (0:Int) ([List.replicate (g'.1).toNat (0:Int)]) ([(1:Int)])) (
  zaq g' y'_11.1 y'_11.2.1 y'_11.2.2 g'.1 (0:Int) ([List.replicate (g'.1).toNat (0:Int)]) ([(1:Int)]))) (
  both [.bool] (
  both [.bool] (
  zaq g' y'_11.1 y'_11.2.1 y'_11.2.2 g'.1 (0:Int) ([List.replicate (g'.1).toNat (0:Int)]) ([(1:Int)])) (
  zaq g' y'_11.1 y'_11.2.1 y'_11.2.2 g'.1 (0:Int) ([List.replicate (g'.1).toNat (0:Int)]) ([(1:Int)]))) (
  both [.bool] (
  zaq g' y'_11.1 y'_11.2.1 y'_11.2.2 g'.1 (0:Int) ([List.replicate (g'.1).toNat (0:Int)]) ([(1:Int)])) (
  zaq g' y'_11.1 y'_11.2.1 y'_11.2.2 g'.1 (0:Int) ([List.replicate (g'.1).toNat (0:Int)]) ([(1:Int)])))))) (
  both [.bool] (
  both [.bool] (
  G (mkOK g'.1 g'.1 8) (
  both [.bool] (
  zaq g' y'_11.1 y'_11.2.1 y'_11.2.2 g'.1 (0:Int) ([List.replicate (g'.1).toNat (0:Int)]) ([(1:Int)])) (
  zaq g' y'_11.1 y'_11.2.1 y'_11.2.2 g'.1 (0:Int) ([List.replicate (g'.1).toNat (0:Int)]) ([(1:Int)])))) (
  G (mkOK g'.1 g'.1 8) (
  zaq g' y'_11.1 y'_11.2.1 y'_11.2.2 g'.1 (0:Int) ([List.replicate (g'.1).toNat (0:Int)]) ([(1:Int)])))) (
  both [.bool] (
  G (mkOK g'.1 g'.1 8) (
  both [.bool] (
  zaq g' y'_11.1 y'_11.2.1 y'_11.2.2 g'.1 (0:Int) ([List.replicate (g'.1).toNat (0:Int)]) ([(1:Int)])) (
  zaq g' y'_11.1 y'_11.2.1 y'_11.2.2 g'.1 (0:Int) ([List.replicate (g'.1).toNat (0:Int)]) ([(1:Int)])))) (
  G (mkOK g'.1 g'.1 8) (
  zaq g' y'_11.1 y'_11.2.1 y'_11.2.2 g'.1 (0:Int) ([List.replicate (g'.1).toNat (0:Int)]) ([(1:Int)]))))) else
  if (decide (y'_11.2.2=y'_4))=true then
  if (!y'_11.2.1)=true then
  some (decide ((y'_11.1.length:Int)=(0:Int))) else
  some false else
  some false))

end
end Go.Proofs.Ytfkonehmieejdaa.gramSomeW
