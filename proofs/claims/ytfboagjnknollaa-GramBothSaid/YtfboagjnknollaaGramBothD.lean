/- What the functions that 'GramBoth' reaches compute: plain functions. -/
import Derived.Test.YtfboagjnknollaaEv32n21
set_option maxHeartbeats 1000000
set_option maxRecDepth 20000
set_option linter.unusedSimpArgs false
set_option linter.unusedVariables false
set_option linter.unusedSectionVars false
namespace Go.Proofs.Ytfboagjnknollaa.gramBothW
open Go Go.Ab
noncomputable section
abbrev Tp15:=(List Int)
abbrev Tp14:=(List Tp15)
abbrev Tp13:=(Int×Int×Int×Unit)
abbrev Tp12:=(Tp15×Bool×Int)
abbrev Tp11:=(Int×Tp15×Unit)
abbrev Tp10:=(Tp15×Bool×Bool)
abbrev Tp9:=(List Tp13)
abbrev Tp8:=(List Tp11)
abbrev Tc6:Ty:=(.pair (.list (.int .i64)) .unit)
abbrev Tp7:=(Bool×Bool×Tp15×Unit)
abbrev Tp6:=(List Tp7)
abbrev Tc5:Ty:=(.pair (.int .i64) (.pair (.int .i64) .unit))
abbrev Tp5:=(Int×Int×Tp14×Tp15×Unit)
abbrev Tc4:Ty:=(.pair (.int .i64) Tc6)
abbrev Tp4:=(Int×Int×Tp8×Unit)
abbrev Tc3:Ty:=(.list Tc4)
abbrev Tc2:Ty:=(.pair (.int .i64) Tc5)
abbrev Tc1:Ty:=(.list Tc2)
abbrev Tp3:=(Int×Int×Tp8×Int×Int×Tp14×Tp15×Tp6×Bool)
abbrev Tp2:=(Int×Int×Tp8×Int×Int×Tp14×Tp15×Tp9×Tp14×Tp9×Tp15)
abbrev Tp1:=(Int×Int×Tp8×Int×Int×Tp14×Tp15×Bool×Tp9×Tp14×Tp9×Tp15)
abbrev Tf1:=Tp15->Int->Tp15->Bool->Tp11->Int->Int->Int->Tp8->Int->Int->Tp14->Tp15->Bool->Tp9->Tp14->Tp9->Tp15->Option Tp1
abbrev Tf2:=Tp11->Int->Int->Int->Int->Tp8->Int->Int->Tp14->Tp15->Bool->Tp9->Tp14->Tp9->Tp15->Option Tp1
abbrev Tf3:=Int->Int->Tp15->Int->Tp15->Bool->Int->Int->Tp8->Int->Int->Tp14->Tp15->Bool->Tp6->Option Tp3
abbrev Tf4:=Tp11->Int->Bool->Int->Int->Tp8->Int->Int->Tp14->Tp15->Tp9->Tp14->Tp9->Tp15->Option Tp2
abbrev Tf5:=Int->Bool->Int->Int->Tp8->Int->Int->Tp14->Tp15->Tp9->Tp14->Tp9->Tp15->Option Tp2
abbrev Tf6:=Bool->Int->Int->Tp8->Int->Int->Tp14->Tp15->Tp9->Tp14->Tp9->Tp15->Option Tp2
abbrev Tf7:=Int->Int->Int->Tp8->Int->Int->Tp14->Tp15->Bool->Tp6->Option Tp10
abbrev Tf8:=Int->Int->Int->Tp8->Int->Int->Tp14->Tp15->Bool->Tp6->Option Tp3
abbrev Tf9:=Int->Int->Tp8->Int->Int->Tp14->Tp15->Bool->Tp6->Option Tp10
abbrev Tf10:=Tp15->Bool->Bool->Int->Option Tp12
abbrev Tf11:=Tp15->Bool->Bool->Int->Option Tp10
def zff (s:Int) (t:Tp4):Option (Bool):=
  if (decide (s < (0:Int)))=true then
  some true else
  G (fits (t.1+t.2.1)) (
  some (decide ((t.1+t.2.1)<=s)))

def za6 (s:Tp15) (c:Tp4) (r2:Int->Option (Int)) (t:Int):Option (Int):=
  if (decide (t < (s.length:Int)))=true then
  G (0<=t/\t < (s.length:Int)) (
  (zff (ix s t) c).bind (fun y'=>
  if y'=true then
  some t else
  G (fits (t+(1:Int))) (
  r2 (t+(1:Int))))) else
  some (-1:Int)
def zd4 (s:Tp15) (c:Tp4):(Int->Option (Int))->Int->Option (Int):=
  fun rec x=>za6 s c (fun t=>rec t) x
def zcN (s:Tp15) (c:Tp4) (t:Int):Option (Int):=LFix (zd4 s c ) t
def zgK (s:Tp15) (c:Tp4):Option (Int):=
  zcN s c (0:Int)
theorem zgg (r2:Nat->Int->Option (Int)) (r2':Int->Option (Int)) (h_r2:∀ a0,ChO (fun κ=>r2 κ a0) (r2' a0)) (s:Tp15) (c:Tp4) (t:Int):ChO (fun κ=>za6 s c (r2 κ) t) (za6 s c r2' t):=by
  unfold za6
  repeat' with_reducible first | exact ChO.const _ | exact h_r2 _ | apply ChO.ite | apply ChO.G | apply ChO.both | (apply ChO.bind;intro _)
theorem zgT  (s:Tp15) (c:Tp4):Cn (zd4 s c):=fun g h hg x=>zgg  (fun κ t=>g κ t) (fun t=>h t) (fun t=>hg t) s c x
theorem zgU  (s:Tp15) (c:Tp4) (t:Int):zcN s c t=za6 s c (zcN s c) t:=zaV (zgT s c) t

def zcM (s:Tp15) (c:Tp4):Option (Bool):=
  (zgK s c).bind (fun y'=>
  some (decide ((0:Int)<=y')))

def zbj (g':Tp4) (r6:Int->Option (Int)) (t:Int):Option (Int):=
  if (decide (t < (g'.2.2.1.length:Int)))=true then
  G (0<=t/\t < (g'.2.2.1.length:Int)) (
  if (decide (((ix g'.2.2.1 t).1) < (0:Int)))=true then
  some (2:Int) else
  if (decide (g'.2.1<=((ix g'.2.2.1 t).1)))=true then
  some (2:Int) else
  if (decide ((3:Int) < ((((ix g'.2.2.1 t).2).1).length:Int)))=true then
  some (1:Int) else
  (zcM (((ix g'.2.2.1 t).2).1) (g'.1,(g'.2.1,(g'.2.2.1,())))).bind (fun y'=>
  if y'=true then
  some (2:Int) else
  G (fits (t+(1:Int))) (
  r6 (t+(1:Int))))) else
  some (0:Int)
def zhd (g':Tp4):(Int->Option (Int))->Int->Option (Int):=
  fun rec x=>zbj g' (fun t=>rec t) x
def zep (g':Tp4) (t:Int):Option (Int):=LFix (zhd g' ) t
def zhU (g':Tp4):Option (Int):=
  if (decide (g'.1 < (1:Int)))=true then
  some (2:Int) else
  if (decide ((4:Int) < g'.1))=true then
  some (2:Int) else
  if (decide (g'.2.1 < (1:Int)))=true then
  some (1:Int) else
  if (decide ((6:Int) < g'.2.1))=true then
  some (1:Int) else
  if (decide ((20:Int) < (g'.2.2.1.length:Int)))=true then
  some (1:Int) else
  zep g' (0:Int)
theorem zjg (r6:Nat->Int->Option (Int)) (r6':Int->Option (Int)) (h_r6:∀ a0,ChO (fun κ=>r6 κ a0) (r6' a0)) (g':Tp4) (t:Int):ChO (fun κ=>zbj g' (r6 κ) t) (zbj g' r6' t):=by
  unfold zbj
  repeat' with_reducible first | exact ChO.const _ | exact h_r6 _ | apply ChO.ite | apply ChO.G | apply ChO.both | (apply ChO.bind;intro _)
theorem zkR  (g':Tp4):Cn (zhd g'):=fun g h hg x=>zjg  (fun κ t=>g κ t) (fun t=>h t) (fun t=>hg t) g' x
theorem zgA  (g':Tp4) (t:Int):zep g' t=zbj g' (zep g') t:=zaV (zkR g') t

def ziH (r:Tp15) (t:Tp5):Option (Bool):=
  some (decide (¬ (r.length:Int)=t.1))

def zaZ (s:Tp14) (c:Tp5) (r2:Int->Option (Int)) (t:Int):Option (Int):=
  if (decide (t < (s.length:Int)))=true then
  G (0<=t/\t < (s.length:Int)) (
  (ziH (ix s t) c).bind (fun y'=>
  if y'=true then
  some t else
  G (fits (t+(1:Int))) (
  r2 (t+(1:Int))))) else
  some (-1:Int)
def zde (s:Tp14) (c:Tp5):(Int->Option (Int))->Int->Option (Int):=
  fun rec x=>zaZ s c (fun t=>rec t) x
def zcg (s:Tp14) (c:Tp5) (t:Int):Option (Int):=LFix (zde s c ) t
def zfs (s:Tp14) (c:Tp5):Option (Int):=
  zcg s c (0:Int)
theorem ze8 (r2:Nat->Int->Option (Int)) (r2':Int->Option (Int)) (h_r2:∀ a0,ChO (fun κ=>r2 κ a0) (r2' a0)) (s:Tp14) (c:Tp5) (t:Int):ChO (fun κ=>zaZ s c (r2 κ) t) (zaZ s c r2' t):=by
  unfold zaZ
  repeat' with_reducible first | exact ChO.const _ | exact h_r2 _ | apply ChO.ite | apply ChO.G | apply ChO.both | (apply ChO.bind;intro _)
theorem zf8  (s:Tp14) (c:Tp5):Cn (zde s c):=fun g h hg x=>ze8  (fun κ t=>g κ t) (fun t=>h t) (fun t=>hg t) s c x
theorem zf9  (s:Tp14) (c:Tp5) (t:Int):zcg s c t=zaZ s c (zcg s c) t:=zaV (zf8 s c) t

def zcc (s:Tp14) (c:Tp5):Option (Bool):=
  (zfs s c).bind (fun y'=>
  some (decide ((0:Int)<=y')))

def zdE (q:Int) (t:Int):Option (Bool):=
  if (decide (q < (0:Int)))=true then
  some true else
  some (decide (t<=q))

def za1 (s:Tp15) (c:Int) (r2:Int->Option (Int)) (t:Int):Option (Int):=
  if (decide (t < (s.length:Int)))=true then
  G (0<=t/\t < (s.length:Int)) (
  (zdE (ix s t) c).bind (fun y'=>
  if y'=true then
  some t else
  G (fits (t+(1:Int))) (
  r2 (t+(1:Int))))) else
  some (-1:Int)
def zdg (s:Tp15) (c:Int):(Int->Option (Int))->Int->Option (Int):=
  fun rec x=>za1 s c (fun t=>rec t) x
def zci (s:Tp15) (c:Int) (t:Int):Option (Int):=LFix (zdg s c ) t
def zfu (s:Tp15) (c:Int):Option (Int):=
  zci s c (0:Int)
theorem zfa (r2:Nat->Int->Option (Int)) (r2':Int->Option (Int)) (h_r2:∀ a0,ChO (fun κ=>r2 κ a0) (r2' a0)) (s:Tp15) (c:Int) (t:Int):ChO (fun κ=>za1 s c (r2 κ) t) (za1 s c r2' t):=by
  unfold za1
  repeat' with_reducible first | exact ChO.const _ | exact h_r2 _ | apply ChO.ite | apply ChO.G | apply ChO.both | (apply ChO.bind;intro _)
theorem zgc  (s:Tp15) (c:Int):Cn (zdg s c):=fun g h hg x=>zfa  (fun κ t=>g κ t) (fun t=>h t) (fun t=>hg t) s c x
theorem zgd  (s:Tp15) (c:Int) (t:Int):zci s c t=za1 s c (zci s c) t:=zaV (zgc s c) t

def zce (s:Tp15) (c:Int):Option (Bool):=
  (zfu s c).bind (fun y'=>
  some (decide ((0:Int)<=y')))

def zgl (r:Tp15) (c:Int):Option (Bool×Int):=
  (zce r c).bind (fun y'=>
  some (y',c))

def za0 (s:Tp14) (r2:Int->Int->Option (Int×Int)) (t:Int) (l:Int):Option (Int×Int):=
  if (decide (t < (s.length:Int)))=true then
  G (0<=t/\t < (s.length:Int)) (
  (zgl (ix s t) l).bind (fun y'_3=>
  if y'_3.1=true then
  some (t,y'_3.2) else
  G (fits (t+(1:Int))) (
  r2 (t+(1:Int)) y'_3.2))) else
  some ((-1:Int),l)
def zdf (s:Tp14):(Int×Int->Option (Int×Int))->Int×Int->Option (Int×Int):=
  fun rec x=>za0 s (fun t l=>rec (t,l)) x.1 x.2
def zch (s:Tp14) (t:Int) (l:Int):Option (Int×Int):=LFix (zdf s ) (t,l)
def zft (s:Tp14) (c:Int):Option (Int×Int):=
  zch s (0:Int) c
theorem ze9 (r2:Nat->Int->Int->Option (Int×Int)) (r2':Int->Int->Option (Int×Int)) (h_r2:∀ a0 a1,ChO (fun κ=>r2 κ a0 a1) (r2' a0 a1)) (s:Tp14) (t:Int) (l:Int):ChO (fun κ=>za0 s (r2 κ) t l) (za0 s r2' t l):=by
  unfold za0
  repeat' with_reducible first | exact ChO.const _ | exact h_r2 _ _ | apply ChO.ite | apply ChO.G | apply ChO.both | (apply ChO.bind;intro _)
theorem zga  (s:Tp14):Cn (zdf s):=fun g h hg x=>ze9  (fun κ t l=>g κ (t,l)) (fun t l=>h (t,l)) (fun t l=>hg (t,l)) s x.1 x.2
theorem zgb  (s:Tp14) (t:Int) (l:Int):zch s t l=za0 s (zch s) t l:=zaV (zga s) (t,l)

def zcd (s:Tp14) (c:Int):Option (Bool×Int):=
  (zft s c).bind (fun y'_3=>
  some (decide ((0:Int)<=y'_3.1),y'_3.2))

def zeC (m:Int):Option (Bool):=
  if (decide (¬ m=(0:Int)))=true then
  some (decide (¬ m=(1:Int))) else
  some false

def za2 (s:Tp15) (r2:Int->Option (Int)) (t:Int):Option (Int):=
  if (decide (t < (s.length:Int)))=true then
  G (0<=t/\t < (s.length:Int)) (
  (zeC (ix s t)).bind (fun y'=>
  if y'=true then
  some t else
  G (fits (t+(1:Int))) (
  r2 (t+(1:Int))))) else
  some (-1:Int)
def zdh (s:Tp15):(Int->Option (Int))->Int->Option (Int):=
  fun rec x=>za2 s (fun t=>rec t) x
def zcj (s:Tp15) (t:Int):Option (Int):=LFix (zdh s ) t
def zfv (s:Tp15):Option (Int):=
  zcj s (0:Int)
theorem zfb (r2:Nat->Int->Option (Int)) (r2':Int->Option (Int)) (h_r2:∀ a0,ChO (fun κ=>r2 κ a0) (r2' a0)) (s:Tp15) (t:Int):ChO (fun κ=>za2 s (r2 κ) t) (za2 s r2' t):=by
  unfold za2
  repeat' with_reducible first | exact ChO.const _ | exact h_r2 _ | apply ChO.ite | apply ChO.G | apply ChO.both | (apply ChO.bind;intro _)
theorem zge  (s:Tp15):Cn (zdh s):=fun g h hg x=>zfb  (fun κ t=>g κ t) (fun t=>h t) (fun t=>hg t) s x
theorem zgf  (s:Tp15) (t:Int):zcj s t=za2 s (zcj s) t:=zaV (zge s) t

def zcf (s:Tp15):Option (Bool):=
  (zfv s).bind (fun y'=>
  some (decide ((0:Int)<=y')))

def zgZ (d:Tp5):Option (Int):=
  if (decide (d.1 < (1:Int)))=true then
  some (2:Int) else
  if (decide ((4:Int) < d.1))=true then
  some (2:Int) else
  if (decide ((d.2.2.1.length:Int) < (1:Int)))=true then
  some (1:Int) else
  if (decide ((3000:Int) < (d.2.2.1.length:Int)))=true then
  some (1:Int) else
  if (decide (¬ (d.2.2.2.1.length:Int)=(d.2.2.1.length:Int)))=true then
  some (3:Int) else
  (zcc d.2.2.1 (d.1,(d.2.1,(d.2.2.1,(d.2.2.2.1,()))))).bind (fun y'=>
  if y'=true then
  some (3:Int) else
  (zdE d.2.1 (d.2.2.1.length:Int)).bind (fun y'_1=>
  if y'_1=true then
  some (2:Int) else
  (zcd d.2.2.1 (d.2.2.1.length:Int)).bind (fun y'_6=>
  if y'_6.1=true then
  some (2:Int) else
  (zcf d.2.2.2.1).bind (fun y'_5=>
  if y'_5=true then
  some (2:Int) else
  some (0:Int)))))

def zbh (s:Tp15):Option Tp15:=
  if s.length=0 then both [(.list (.int .i64))] (
  some ([])) (
  G (room ([]:List Int) s 8) (
  some (([]:List Int)++s))) else
  G (room ([]:List Int) s 8) (
  some (([]:List Int)++s))

def ziX (x':Int):Option (Bool):=
  some (decide (¬ x'=x'))

def zgj (x':Int) (y':Int):Option (Int):=
  (ziX x').bind (fun y'_1=>
  (ziX y').bind (fun y'_2=>
  if y'_1=true then
  if y'_2=true then
  some (0:Int) else
  some (-1:Int) else
  if y'_2=true then
  some (1:Int) else
  if (decide (x' < y'))=true then
  some (-1:Int) else
  if (decide (y' < x'))=true then
  some (1:Int) else
  some (0:Int)))

def zaL (s1:Tp15) (s2:Tp15) (r2:Int->Option (Int)) (t:Int):Option (Int):=
  if (decide (t < (s1.length:Int)))=true then
  G (0<=t/\t < (s1.length:Int)) (
  if (decide ((s2.length:Int)<=t))=true then
  some (1:Int) else
  G (0<=t/\t < (s2.length:Int)) (
  (zgj (ix s1 t) (ix s2 t)).bind (fun y'=>
  if (decide (¬ y'=(0:Int)))=true then
  some y' else
  G (fits (t+(1:Int))) (
  r2 (t+(1:Int)))))) else
  if (decide ((s1.length:Int) < (s2.length:Int)))=true then
  some (-1:Int) else
  some (0:Int)
def ze3 (s1:Tp15) (s2:Tp15):(Int->Option (Int))->Int->Option (Int):=
  fun rec x=>zaL s1 s2 (fun t=>rec t) x
def zcm (s1:Tp15) (s2:Tp15) (t:Int):Option (Int):=LFix (ze3 s1 s2 ) t
def zfD (s1:Tp15) (s2:Tp15):Option (Int):=
  zcm s1 s2 (0:Int)
theorem zgQ (r2:Nat->Int->Option (Int)) (r2':Int->Option (Int)) (h_r2:∀ a0,ChO (fun κ=>r2 κ a0) (r2' a0)) (s1:Tp15) (s2:Tp15) (t:Int):ChO (fun κ=>zaL s1 s2 (r2 κ) t) (zaL s1 s2 r2' t):=by
  unfold zaL
  repeat' with_reducible first | exact ChO.const _ | exact h_r2 _ | apply ChO.ite | apply ChO.G | apply ChO.both | (apply ChO.bind;intro _)
theorem zia  (s1:Tp15) (s2:Tp15):Cn (ze3 s1 s2):=fun g h hg x=>zgQ  (fun κ t=>g κ t) (fun t=>h t) (fun t=>hg t) s1 s2 x
theorem zco  (s1:Tp15) (s2:Tp15) (t:Int):zcm s1 s2 t=zaL s1 s2 (zcm s1 s2) t:=zaV (zia s1 s2) t

def zeF (a:Tp15) (b:Tp15):Option (Bool):=
  if (decide (¬ (a.length:Int)=(b.length:Int)))=true then
  some (decide ((a.length:Int) < (b.length:Int))) else
  (zfD a b).bind (fun y'=>
  some (decide (y' < (0:Int))))

def zaT (q:Int) (w:Tp15) (t:Tp11) (t_1:Int) (t_2:Bool) (t_3:Int) (t_4:Int) (t_5:Tp8) (t_6:Int) (t_7:Int) (t_8:Tp14) (t_9:Tp15) (l:Tp9) (l_1:Tp14) (l_2:Tp9) (l_3:Tp15) (t_10:Bool):Option (Bool×Int×Int×Tp8×Int×Int×Tp14×Tp15×Tp9×Tp14×Tp9×Tp15):=
  if t_10=true then
  (zbh w).bind (fun y'=>
  G (0<=mpos l (t.1,(t_1,(q,())))/\mpos l (t.1,(t_1,(q,()))) < ((zea l l_1 (t.1,(t_1,(q,()))) ([]:List Int)).length:Int)) (
  some (true,t_3,t_4,t_5,t_6,t_7,t_8,t_9,zb9 l (t.1,(t_1,(q,()))),(zea l l_1 (t.1,(t_1,(q,()))) ([]:List Int)).set (mpos l (t.1,(t_1,(q,())))).toNat y',l_2,l_3))) else
  some (t_2,t_3,t_4,t_5,t_6,t_7,t_8,t_9,l,l_1,l_2,l_3)
def zbt (q:Int) (w:Tp15) (short:Bool) (t:Tp11) (t_1:Int) (t_2:Bool) (t_3:Int) (t_4:Int) (t_5:Tp8) (t_6:Int) (t_7:Int) (t_8:Tp14) (t_9:Tp15) (l:Tp9) (l_1:Tp14) (l_2:Tp9) (l_3:Tp15):Option (Bool×Int×Int×Tp8×Int×Int×Tp14×Tp15×Tp9×Tp14×Tp9×Tp15):=
  if short=true then
  if (!(mhas l (t.1,(t_1,(q,())))))=true then
  zaT q w t t_1 t_2 t_3 t_4 t_5 t_6 t_7 t_8 t_9 l l_1 l_2 l_3 true else
  (zeF w (mget l l_1 (t.1,(t_1,(q,()))) ([]:List Int))).bind (fun y'_1=>
  zaT q w t t_1 t_2 t_3 t_4 t_5 t_6 t_7 t_8 t_9 l l_1 l_2 l_3 y'_1) else
  zaT q w t t_1 t_2 t_3 t_4 t_5 t_6 t_7 t_8 t_9 l l_1 l_2 l_3 false
def zb5 (q:Int) (w:Tp15) (short:Bool) (t:Tp11) (t_1:Int) (c:Bool) (c_1:Int) (c_2:Int) (c_3:Tp8) (c_4:Int) (c_5:Int) (c_6:Tp14) (c_7:Tp15) (c_8:Tp9) (c_9:Tp14) (c_10:Tp9) (c_11:Tp15):Option (Bool×Int×Int×Tp8×Int×Int×Tp14×Tp15×Tp9×Tp14×Tp9×Tp15):=
  if (decide ((mget c_10 c_11 (t.1,(t_1,(q,()))) (0:Int))=(0:Int)))=true then
  G (0<=mpos c_10 (t.1,(t_1,(q,())))/\mpos c_10 (t.1,(t_1,(q,()))) < ((zea c_10 c_11 (t.1,(t_1,(q,()))) (0:Int)).length:Int)) (
  zbt q w short t t_1 true c_1 c_2 c_3 c_4 c_5 c_6 c_7 c_8 c_9 (zb9 c_10 (t.1,(t_1,(q,())))) ((zea c_10 c_11 (t.1,(t_1,(q,()))) (0:Int)).set (mpos c_10 (t.1,(t_1,(q,())))).toNat (1:Int))) else
  zbt q w short t t_1 c c_1 c_2 c_3 c_4 c_5 c_6 c_7 c_8 c_9 c_10 c_11

def zgx (n:Int):Option Tp15:=
  if (decide (n < (0:Int)))=true then
  none else
  G (fits ((0:Int) - (0:Int))) (
  G (fits (n - ((0:Int) - (0:Int)))) (
  if (decide ((0:Int) < (n - ((0:Int) - (0:Int)))))=true then
  G ((0:Int)=(0:Int)) (
  G (0 < n - ((0:Int) - (0:Int))/\(n - ((0:Int) - (0:Int))) * 8<=140737488355328) (
  G (0<=(0:Int)/\(0:Int)<=((List.replicate (n - ((0:Int) - (0:Int))).toNat (0:Int)).length:Int)) (
  some ((List.replicate (n - ((0:Int) - (0:Int))).toNat (0:Int)).take ((0:Int)).toNat)))) else
  some ([])))

def zaS (slices:Tp14) (r11:Int->Tp15->Option Tp15) (t_1:Int) (newslice:Tp15):Option Tp15:=
  if (decide (t_1 < (slices.length:Int)))=true then
  G (0<=t_1/\t_1 < (slices.length:Int)) (
  G (room newslice (ix slices t_1) 8) (
  G (fits (t_1+(1:Int))) (
  r11 (t_1+(1:Int)) (newslice++(ix slices t_1))))) else
  some newslice
def ze4 (slices:Tp14):(Int×Tp15->Option Tp15)->Int×Tp15->Option Tp15:=
  fun rec x=>zaS slices (fun t_1 newslice=>rec (t_1,newslice)) x.1 x.2
def zcn (slices:Tp14) (t_1:Int) (newslice:Tp15):Option Tp15:=LFix (ze4 slices ) (t_1,newslice)
def zaY (slices:Tp14) (r3:Int->Int->Option Tp15) (size:Int) (t:Int):Option Tp15:=
  if (decide (t < (slices.length:Int)))=true then
  G (0<=t/\t < (slices.length:Int)) (
  G (fits (size+((ix slices t).length:Int))) (
  if (decide ((size+((ix slices t).length:Int)) < (0:Int)))=true then
  none else
  G (fits (t+(1:Int))) (
  r3 (size+((ix slices t).length:Int)) (t+(1:Int))))) else
  (zgx size).bind (fun y'=>
  zcn slices (0:Int) y')
def zfr (slices:Tp14):(Int×Int->Option Tp15)->Int×Int->Option Tp15:=
  fun rec x=>zaY slices (fun size t=>rec (size,t)) x.1 x.2
def zcH (slices:Tp14) (size:Int) (t:Int):Option Tp15:=LFix (zfr slices ) (size,t)
def zet (slices:Tp14):Option Tp15:=
  zcH slices (0:Int) (0:Int)
theorem zgR (r11:Nat->Int->Tp15->Option Tp15) (r11':Int->Tp15->Option Tp15) (h_r11:∀ a0 a1,ChO (fun κ=>r11 κ a0 a1) (r11' a0 a1)) (slices:Tp14) (t_1:Int) (newslice:Tp15):ChO (fun κ=>zaS slices (r11 κ) t_1 newslice) (zaS slices r11' t_1 newslice):=by
  unfold zaS
  repeat' with_reducible first | exact ChO.const _ | exact h_r11 _ _ | apply ChO.ite | apply ChO.G | apply ChO.both | (apply ChO.bind;intro _)
theorem zib  (slices:Tp14):Cn (ze4 slices):=fun g h hg x=>zgR  (fun κ t_1 newslice=>g κ (t_1,newslice)) (fun t_1 newslice=>h (t_1,newslice)) (fun t_1 newslice=>hg (t_1,newslice)) slices x.1 x.2
theorem zel  (slices:Tp14) (t_1:Int) (newslice:Tp15):zcn slices t_1 newslice=zaS slices (zcn slices) t_1 newslice:=zaV (zib slices) (t_1,newslice)
theorem zhF (r3:Nat->Int->Int->Option Tp15) (r3':Int->Int->Option Tp15) (h_r3:∀ a0 a1,ChO (fun κ=>r3 κ a0 a1) (r3' a0 a1)) (slices:Tp14) (size:Int) (t:Int):ChO (fun κ=>zaY slices (r3 κ) size t) (zaY slices r3' size t):=by
  unfold zaY
  repeat' with_reducible first | exact ChO.const _ | exact h_r3 _ _ | apply ChO.ite | apply ChO.G | apply ChO.both | (apply ChO.bind;intro _)
theorem ziR  (slices:Tp14):Cn (zfr slices):=fun g h hg x=>zhF  (fun κ size t=>g κ (size,t)) (fun size t=>h (size,t)) (fun size t=>hg (size,t)) slices x.1 x.2
theorem ze5  (slices:Tp14) (size:Int) (t:Int):zcH slices size t=zaY slices (zcH slices) size t:=zaV (ziR slices) (size,t)

def zaN (zab:Tf1) (signs:Tp15) (tell:Tp11) (tell_1:Int) (t:Int) (f:Int) (f_1:Int) (f_2:Tp8) (f_3:Int) (f_4:Int) (f_5:Tp14) (f_6:Tp15) (l:Bool) (l_1:Tp9) (l_2:Tp14) (l_3:Tp9) (l_4:Tp15) (r6:(Tp11->Int->Int->Int->Int->Tp8->Int->Int->Tp14->Tp15->Bool->Tp9->Tp14->Tp9->Tp15->Option Tp1)) (next':Bool) (both':Tp15):Option Tp1:=
  G (0<=(1:Int)/\(1:Int)<=(signs.length:Int)/\(signs.length:Int)<=(signs.length:Int)) (
  (zab (cut signs (1:Int) (signs.length:Int)) t both' next' tell tell_1 f f_1 f_2 f_3 f_4 f_5 f_6 l l_1 l_2 l_3 l_4).bind (fun y'_257=>
  G (fits (t+(1:Int))) (
  r6 tell tell_1 (t+(1:Int)) y'_257.1 y'_257.2.1 y'_257.2.2.1 y'_257.2.2.2.1 y'_257.2.2.2.2.1 y'_257.2.2.2.2.2.1 y'_257.2.2.2.2.2.2.1 y'_257.2.2.2.2.2.2.2.1 y'_257.2.2.2.2.2.2.2.2.1 y'_257.2.2.2.2.2.2.2.2.2.1 y'_257.2.2.2.2.2.2.2.2.2.2.1 y'_257.2.2.2.2.2.2.2.2.2.2.2)))
def zaB (zab:Tf1) (signs:Tp15) (p:Int) (w:Tp15) (tell:Tp11) (tell_1:Int) (t:Int) (f:Int) (f_1:Int) (f_2:Tp8) (f_3:Int) (f_4:Int) (f_5:Tp14) (f_6:Tp15) (l:Bool) (l_1:Tp9) (l_2:Tp14) (l_3:Tp9) (l_4:Tp15) (r6:(Tp11->Int->Int->Int->Int->Tp8->Int->Int->Tp14->Tp15->Bool->Tp9->Tp14->Tp9->Tp15->Option Tp1)) (next':Bool):Option Tp1:=
  if next'=true then
  (zet ([w,mget l_1 l_2 ((ix signs (0:Int)) - f,(p,(t,()))) ([]:List Int)])).bind (fun y'_243=>
  zaN zab signs tell tell_1 t f f_1 f_2 f_3 f_4 f_5 f_6 l l_1 l_2 l_3 l_4 r6 next' y'_243) else
  zaN zab signs tell tell_1 t f f_1 f_2 f_3 f_4 f_5 f_6 l l_1 l_2 l_3 l_4 r6 next' ([])
def zaI (zab:Tf1) (signs:Tp15) (p:Int) (w:Tp15) (short:Bool) (c_7:Tp14) (r6:Tf2) (tell:Tp11) (tell_1:Int) (t:Int) (f:Int) (f_1:Int) (f_2:Tp8) (f_3:Int) (f_4:Int) (f_5:Tp14) (f_6:Tp15) (l:Bool) (l_1:Tp9) (l_2:Tp14) (l_3:Tp9) (l_4:Tp15):Option Tp1:=
  if (decide (t < (c_7.length:Int)))=true then
  G (0<=(0:Int)/\(0:Int) < (signs.length:Int)) (
  G (fits ((ix signs (0:Int)) - f)) (
  if (decide ((mget l_3 l_4 ((ix signs (0:Int)) - f,(p,(t,()))) (0:Int))=(0:Int)))=true then
  G (fits (t+(1:Int))) (
  r6 tell tell_1 (t+(1:Int)) f f_1 f_2 f_3 f_4 f_5 f_6 l l_1 l_2 l_3 l_4) else
  if short=true then
  if (mhas l_1 ((ix signs (0:Int)) - f,(p,(t,()))))=true then
  G (fits ((w.length:Int)+((mget l_1 l_2 ((ix signs (0:Int)) - f,(p,(t,()))) ([]:List Int)).length:Int))) (
  zaB zab signs p w tell tell_1 t f f_1 f_2 f_3 f_4 f_5 f_6 l l_1 l_2 l_3 l_4 r6 (decide (((w.length:Int)+((mget l_1 l_2 ((ix signs (0:Int)) - f,(p,(t,()))) ([]:List Int)).length:Int))<=(60:Int)))) else
  zaB zab signs p w tell tell_1 t f f_1 f_2 f_3 f_4 f_5 f_6 l l_1 l_2 l_3 l_4 r6 false else
  zaB zab signs p w tell tell_1 t f f_1 f_2 f_3 f_4 f_5 f_6 l l_1 l_2 l_3 l_4 r6 false)) else
  some (f,f_1,f_2,f_3,f_4,f_5,f_6,l,l_1,l_2,l_3,l_4)
def zdS (zab:Tf1) (signs:Tp15) (p:Int) (w:Tp15) (short:Bool) (c_7:Tp14):(Tp11×Int×Int×Int×Int×Tp8×Int×Int×Tp14×Tp15×Bool×Tp9×Tp14×Tp9×Tp15->Option Tp1)->Tp11×Int×Int×Int×Int×Tp8×Int×Int×Tp14×Tp15×Bool×Tp9×Tp14×Tp9×Tp15->Option Tp1:=
  fun rec x=>zaI zab signs p w short c_7 (fun tell tell_1 t f f_1 f_2 f_3 f_4 f_5 f_6 l l_1 l_2 l_3 l_4=>rec (tell,tell_1,t,f,f_1,f_2,f_3,f_4,f_5,f_6,l,l_1,l_2,l_3,l_4)) x.1 x.2.1 x.2.2.1 x.2.2.2.1 x.2.2.2.2.1 x.2.2.2.2.2.1 x.2.2.2.2.2.2.1 x.2.2.2.2.2.2.2.1 x.2.2.2.2.2.2.2.2.1 x.2.2.2.2.2.2.2.2.2.1 x.2.2.2.2.2.2.2.2.2.2.1 x.2.2.2.2.2.2.2.2.2.2.2.1 x.2.2.2.2.2.2.2.2.2.2.2.2.1 x.2.2.2.2.2.2.2.2.2.2.2.2.2.1 x.2.2.2.2.2.2.2.2.2.2.2.2.2.2
def zaw (zab:Tf1) (signs:Tp15) (p:Int) (w:Tp15) (short:Bool) (c_7:Tp14) (tell:Tp11) (tell_1:Int) (t:Int) (f:Int) (f_1:Int) (f_2:Tp8) (f_3:Int) (f_4:Int) (f_5:Tp14) (f_6:Tp15) (l:Bool) (l_1:Tp9) (l_2:Tp14) (l_3:Tp9) (l_4:Tp15):Option Tp1:=LFix (zdS zab signs p w short c_7 ) (tell,tell_1,t,f,f_1,f_2,f_3,f_4,f_5,f_6,l,l_1,l_2,l_3,l_4)
def zbQ (zab:Tf1) (signs:Tp15) (p:Int) (w:Tp15) (short:Bool) (c:Tp11) (c_1:Int) (c_2:Int) (c_3:Int) (c_4:Tp8) (c_5:Int) (c_6:Int) (c_7:Tp14) (c_8:Tp15) (c_9:Bool) (c_10:Tp9) (c_11:Tp14) (c_12:Tp9) (c_13:Tp15):Option Tp1:=
  zaw zab signs p w short c_7 c c_1 (0:Int) c_2 c_3 c_4 c_5 c_6 c_7 c_8 c_9 c_10 c_11 c_12 c_13
def zaP (zab:Tf1) (signs:Tp15) (p:Int) (w:Tp15) (short:Bool) (c:Tp11) (c_1:Int) (c_2:Int) (c_3:Int) (c_4:Tp8) (c_5:Int) (c_6:Int) (c_7:Tp14) (c_8:Tp15) (c_9:Bool) (c_10:Tp9) (c_11:Tp14) (c_12:Tp9) (c_13:Tp15):Option Tp1:=
  if (decide ((signs.length:Int)=(0:Int)))=true then
  (zb5 p w short c c_1 c_9 c_2 c_3 c_4 c_5 c_6 c_7 c_8 c_10 c_11 c_12 c_13).bind (fun y'_13=>
  some (y'_13.2.1,y'_13.2.2.1,y'_13.2.2.2.1,y'_13.2.2.2.2.1,y'_13.2.2.2.2.2.1,y'_13.2.2.2.2.2.2.1,y'_13.2.2.2.2.2.2.2.1,y'_13.1,y'_13.2.2.2.2.2.2.2.2.1,y'_13.2.2.2.2.2.2.2.2.2.1,y'_13.2.2.2.2.2.2.2.2.2.2.1,y'_13.2.2.2.2.2.2.2.2.2.2.2)) else
  G (0<=(0:Int)/\(0:Int) < (signs.length:Int)) (
  if (decide ((ix signs (0:Int)) < c_2))=true then
  G (0<=(1:Int)/\(1:Int)<=(signs.length:Int)/\(signs.length:Int)<=(signs.length:Int)) (
  both [(.int .i64),(.int .i64),Tc3,(.int .i64),(.int .i64),(.list (.list (.int .i64))),(.list (.int .i64)),.bool,Tc1,(.list (.list (.int .i64))),Tc1,(.list (.int .i64))] (
  G (0<=p/\p < (c_7.length:Int)) (
  G (0<=ix signs (0:Int)/\ix signs (0:Int) < ((ix c_7 p).length:Int)) (
  both [(.int .i64),(.int .i64),Tc3,(.int .i64),(.int .i64),(.list (.list (.int .i64))),(.list (.int .i64)),.bool,Tc1,(.list (.list (.int .i64))),Tc1,(.list (.int .i64))] (
  (zbh w).bind (fun y'_14=>
  G (room y'_14 ([ix signs (0:Int)]) 8) (
  if short=true then
  (zab (cut signs (1:Int) (signs.length:Int)) (ix (ix c_7 p) (ix signs (0:Int))) (y'_14++([ix signs (0:Int)])) (decide ((w.length:Int) < (60:Int))) c c_1 c_2 c_3 c_4 c_5 c_6 c_7 c_8 c_9 c_10 c_11 c_12 c_13).bind (fun y'_28=>
  some (y'_28.1,y'_28.2.1,y'_28.2.2.1,y'_28.2.2.2.1,y'_28.2.2.2.2.1,y'_28.2.2.2.2.2.1,y'_28.2.2.2.2.2.2.1,y'_28.2.2.2.2.2.2.2.1,y'_28.2.2.2.2.2.2.2.2.1,y'_28.2.2.2.2.2.2.2.2.2.1,y'_28.2.2.2.2.2.2.2.2.2.2.1,y'_28.2.2.2.2.2.2.2.2.2.2.2)) else
  (zab (cut signs (1:Int) (signs.length:Int)) (ix (ix c_7 p) (ix signs (0:Int))) (y'_14++([ix signs (0:Int)])) false c c_1 c_2 c_3 c_4 c_5 c_6 c_7 c_8 c_9 c_10 c_11 c_12 c_13).bind (fun y'_42=>
  some (y'_42.1,y'_42.2.1,y'_42.2.2.1,y'_42.2.2.2.1,y'_42.2.2.2.2.1,y'_42.2.2.2.2.2.1,y'_42.2.2.2.2.2.2.1,y'_42.2.2.2.2.2.2.2.1,y'_42.2.2.2.2.2.2.2.2.1,y'_42.2.2.2.2.2.2.2.2.2.1,y'_42.2.2.2.2.2.2.2.2.2.2.1,y'_42.2.2.2.2.2.2.2.2.2.2.2))))) (
  (zbh w).bind (fun y'_43=>
  G (room y'_43 ([ix signs (0:Int)]) 8) (
  if short=true then
  (zab (cut signs (1:Int) (signs.length:Int)) (ix (ix c_7 p) (ix signs (0:Int))) (y'_43++([ix signs (0:Int)])) (decide ((w.length:Int) < (60:Int))) c c_1 c_2 c_3 c_4 c_5 c_6 c_7 c_8 c_9 c_10 c_11 c_12 c_13).bind (fun y'_57=>
  some (y'_57.1,y'_57.2.1,y'_57.2.2.1,y'_57.2.2.2.1,y'_57.2.2.2.2.1,y'_57.2.2.2.2.2.1,y'_57.2.2.2.2.2.2.1,y'_57.2.2.2.2.2.2.2.1,y'_57.2.2.2.2.2.2.2.2.1,y'_57.2.2.2.2.2.2.2.2.2.1,y'_57.2.2.2.2.2.2.2.2.2.2.1,y'_57.2.2.2.2.2.2.2.2.2.2.2)) else
  (zab (cut signs (1:Int) (signs.length:Int)) (ix (ix c_7 p) (ix signs (0:Int))) (y'_43++([ix signs (0:Int)])) false c c_1 c_2 c_3 c_4 c_5 c_6 c_7 c_8 c_9 c_10 c_11 c_12 c_13).bind (fun y'_71=>
  some (y'_71.1,y'_71.2.1,y'_71.2.2.1,y'_71.2.2.2.1,y'_71.2.2.2.2.1,y'_71.2.2.2.2.2.1,y'_71.2.2.2.2.2.2.1,y'_71.2.2.2.2.2.2.2.1,y'_71.2.2.2.2.2.2.2.2.1,y'_71.2.2.2.2.2.2.2.2.2.1,y'_71.2.2.2.2.2.2.2.2.2.2.1,y'_71.2.2.2.2.2.2.2.2.2.2.2)))))))) (
  both [(.int .i64),(.int .i64),Tc3,(.int .i64),(.int .i64),(.list (.list (.int .i64))),(.list (.int .i64)),.bool,Tc1,(.list (.list (.int .i64))),Tc1,(.list (.int .i64))] (
  (zbh w).bind (fun y'_72=>
  both [(.int .i64),(.int .i64),Tc3,(.int .i64),(.int .i64),(.list (.list (.int .i64))),(.list (.int .i64)),.bool,Tc1,(.list (.list (.int .i64))),Tc1,(.list (.int .i64))] (
  G (0<=p/\p < (c_7.length:Int)) (
  G (0<=ix signs (0:Int)/\ix signs (0:Int) < ((ix c_7 p).length:Int)) (
  G (room y'_72 ([ix signs (0:Int)]) 8) (
  if short=true then
  (zab (cut signs (1:Int) (signs.length:Int)) (ix (ix c_7 p) (ix signs (0:Int))) (y'_72++([ix signs (0:Int)])) (decide ((w.length:Int) < (60:Int))) c c_1 c_2 c_3 c_4 c_5 c_6 c_7 c_8 c_9 c_10 c_11 c_12 c_13).bind (fun y'_86=>
  some (y'_86.1,y'_86.2.1,y'_86.2.2.1,y'_86.2.2.2.1,y'_86.2.2.2.2.1,y'_86.2.2.2.2.2.1,y'_86.2.2.2.2.2.2.1,y'_86.2.2.2.2.2.2.2.1,y'_86.2.2.2.2.2.2.2.2.1,y'_86.2.2.2.2.2.2.2.2.2.1,y'_86.2.2.2.2.2.2.2.2.2.2.1,y'_86.2.2.2.2.2.2.2.2.2.2.2)) else
  (zab (cut signs (1:Int) (signs.length:Int)) (ix (ix c_7 p) (ix signs (0:Int))) (y'_72++([ix signs (0:Int)])) false c c_1 c_2 c_3 c_4 c_5 c_6 c_7 c_8 c_9 c_10 c_11 c_12 c_13).bind (fun y'_100=>
  some (y'_100.1,y'_100.2.1,y'_100.2.2.1,y'_100.2.2.2.1,y'_100.2.2.2.2.1,y'_100.2.2.2.2.2.1,y'_100.2.2.2.2.2.2.1,y'_100.2.2.2.2.2.2.2.1,y'_100.2.2.2.2.2.2.2.2.1,y'_100.2.2.2.2.2.2.2.2.2.1,y'_100.2.2.2.2.2.2.2.2.2.2.1,y'_100.2.2.2.2.2.2.2.2.2.2.2)))))) (
  both [(.int .i64),(.int .i64),Tc3,(.int .i64),(.int .i64),(.list (.list (.int .i64))),(.list (.int .i64)),.bool,Tc1,(.list (.list (.int .i64))),Tc1,(.list (.int .i64))] (
  G (0<=p/\p < (c_7.length:Int)) (
  G (0<=ix signs (0:Int)/\ix signs (0:Int) < ((ix c_7 p).length:Int)) (
  G (room y'_72 ([ix signs (0:Int)]) 8) (
  if short=true then
  (zab (cut signs (1:Int) (signs.length:Int)) (ix (ix c_7 p) (ix signs (0:Int))) (y'_72++([ix signs (0:Int)])) (decide ((w.length:Int) < (60:Int))) c c_1 c_2 c_3 c_4 c_5 c_6 c_7 c_8 c_9 c_10 c_11 c_12 c_13).bind (fun y'_114=>
  some (y'_114.1,y'_114.2.1,y'_114.2.2.1,y'_114.2.2.2.1,y'_114.2.2.2.2.1,y'_114.2.2.2.2.2.1,y'_114.2.2.2.2.2.2.1,y'_114.2.2.2.2.2.2.2.1,y'_114.2.2.2.2.2.2.2.2.1,y'_114.2.2.2.2.2.2.2.2.2.1,y'_114.2.2.2.2.2.2.2.2.2.2.1,y'_114.2.2.2.2.2.2.2.2.2.2.2)) else
  (zab (cut signs (1:Int) (signs.length:Int)) (ix (ix c_7 p) (ix signs (0:Int))) (y'_72++([ix signs (0:Int)])) false c c_1 c_2 c_3 c_4 c_5 c_6 c_7 c_8 c_9 c_10 c_11 c_12 c_13).bind (fun y'_128=>
  some (y'_128.1,y'_128.2.1,y'_128.2.2.1,y'_128.2.2.2.1,y'_128.2.2.2.2.1,y'_128.2.2.2.2.2.1,y'_128.2.2.2.2.2.2.1,y'_128.2.2.2.2.2.2.2.1,y'_128.2.2.2.2.2.2.2.2.1,y'_128.2.2.2.2.2.2.2.2.2.1,y'_128.2.2.2.2.2.2.2.2.2.2.1,y'_128.2.2.2.2.2.2.2.2.2.2.2)))))) (
  G (room y'_72 ([ix signs (0:Int)]) 8) (
  if short=true then
  G (0<=p/\p < (c_7.length:Int)) (
  G (0<=ix signs (0:Int)/\ix signs (0:Int) < ((ix c_7 p).length:Int)) (
  (zab (cut signs (1:Int) (signs.length:Int)) (ix (ix c_7 p) (ix signs (0:Int))) (y'_72++([ix signs (0:Int)])) (decide ((w.length:Int) < (60:Int))) c c_1 c_2 c_3 c_4 c_5 c_6 c_7 c_8 c_9 c_10 c_11 c_12 c_13).bind (fun y'_142=>
  some (y'_142.1,y'_142.2.1,y'_142.2.2.1,y'_142.2.2.2.1,y'_142.2.2.2.2.1,y'_142.2.2.2.2.2.1,y'_142.2.2.2.2.2.2.1,y'_142.2.2.2.2.2.2.2.1,y'_142.2.2.2.2.2.2.2.2.1,y'_142.2.2.2.2.2.2.2.2.2.1,y'_142.2.2.2.2.2.2.2.2.2.2.1,y'_142.2.2.2.2.2.2.2.2.2.2.2)))) else
  G (0<=p/\p < (c_7.length:Int)) (
  G (0<=ix signs (0:Int)/\ix signs (0:Int) < ((ix c_7 p).length:Int)) (
  (zab (cut signs (1:Int) (signs.length:Int)) (ix (ix c_7 p) (ix signs (0:Int))) (y'_72++([ix signs (0:Int)])) false c c_1 c_2 c_3 c_4 c_5 c_6 c_7 c_8 c_9 c_10 c_11 c_12 c_13).bind (fun y'_156=>
  some (y'_156.1,y'_156.2.1,y'_156.2.2.1,y'_156.2.2.2.1,y'_156.2.2.2.2.1,y'_156.2.2.2.2.2.1,y'_156.2.2.2.2.2.2.1,y'_156.2.2.2.2.2.2.2.1,y'_156.2.2.2.2.2.2.2.2.1,y'_156.2.2.2.2.2.2.2.2.2.1,y'_156.2.2.2.2.2.2.2.2.2.2.1,y'_156.2.2.2.2.2.2.2.2.2.2.2))))))))) (
  both [(.int .i64),(.int .i64),Tc3,(.int .i64),(.int .i64),(.list (.list (.int .i64))),(.list (.int .i64)),.bool,Tc1,(.list (.list (.int .i64))),Tc1,(.list (.int .i64))] (
  G (0<=p/\p < (c_7.length:Int)) (
  G (0<=ix signs (0:Int)/\ix signs (0:Int) < ((ix c_7 p).length:Int)) (
  (zbh w).bind (fun y'_157=>
  G (room y'_157 ([ix signs (0:Int)]) 8) (
  if short=true then
  (zab (cut signs (1:Int) (signs.length:Int)) (ix (ix c_7 p) (ix signs (0:Int))) (y'_157++([ix signs (0:Int)])) (decide ((w.length:Int) < (60:Int))) c c_1 c_2 c_3 c_4 c_5 c_6 c_7 c_8 c_9 c_10 c_11 c_12 c_13).bind (fun y'_171=>
  some (y'_171.1,y'_171.2.1,y'_171.2.2.1,y'_171.2.2.2.1,y'_171.2.2.2.2.1,y'_171.2.2.2.2.2.1,y'_171.2.2.2.2.2.2.1,y'_171.2.2.2.2.2.2.2.1,y'_171.2.2.2.2.2.2.2.2.1,y'_171.2.2.2.2.2.2.2.2.2.1,y'_171.2.2.2.2.2.2.2.2.2.2.1,y'_171.2.2.2.2.2.2.2.2.2.2.2)) else
  (zab (cut signs (1:Int) (signs.length:Int)) (ix (ix c_7 p) (ix signs (0:Int))) (y'_157++([ix signs (0:Int)])) false c c_1 c_2 c_3 c_4 c_5 c_6 c_7 c_8 c_9 c_10 c_11 c_12 c_13).bind (fun y'_185=>
  some (y'_185.1,y'_185.2.1,y'_185.2.2.1,y'_185.2.2.2.1,y'_185.2.2.2.2.1,y'_185.2.2.2.2.2.1,y'_185.2.2.2.2.2.2.1,y'_185.2.2.2.2.2.2.2.1,y'_185.2.2.2.2.2.2.2.2.1,y'_185.2.2.2.2.2.2.2.2.2.1,y'_185.2.2.2.2.2.2.2.2.2.2.1,y'_185.2.2.2.2.2.2.2.2.2.2.2))))))) (
  (zbh w).bind (fun y'_186=>
  both [(.int .i64),(.int .i64),Tc3,(.int .i64),(.int .i64),(.list (.list (.int .i64))),(.list (.int .i64)),.bool,Tc1,(.list (.list (.int .i64))),Tc1,(.list (.int .i64))] (
  G (0<=p/\p < (c_7.length:Int)) (
  G (0<=ix signs (0:Int)/\ix signs (0:Int) < ((ix c_7 p).length:Int)) (
  G (room y'_186 ([ix signs (0:Int)]) 8) (
  if short=true then
  (zab (cut signs (1:Int) (signs.length:Int)) (ix (ix c_7 p) (ix signs (0:Int))) (y'_186++([ix signs (0:Int)])) (decide ((w.length:Int) < (60:Int))) c c_1 c_2 c_3 c_4 c_5 c_6 c_7 c_8 c_9 c_10 c_11 c_12 c_13).bind (fun y'_200=>
  some (y'_200.1,y'_200.2.1,y'_200.2.2.1,y'_200.2.2.2.1,y'_200.2.2.2.2.1,y'_200.2.2.2.2.2.1,y'_200.2.2.2.2.2.2.1,y'_200.2.2.2.2.2.2.2.1,y'_200.2.2.2.2.2.2.2.2.1,y'_200.2.2.2.2.2.2.2.2.2.1,y'_200.2.2.2.2.2.2.2.2.2.2.1,y'_200.2.2.2.2.2.2.2.2.2.2.2)) else
  (zab (cut signs (1:Int) (signs.length:Int)) (ix (ix c_7 p) (ix signs (0:Int))) (y'_186++([ix signs (0:Int)])) false c c_1 c_2 c_3 c_4 c_5 c_6 c_7 c_8 c_9 c_10 c_11 c_12 c_13).bind (fun y'_214=>
  some (y'_214.1,y'_214.2.1,y'_214.2.2.1,y'_214.2.2.2.1,y'_214.2.2.2.2.1,y'_214.2.2.2.2.2.1,y'_214.2.2.2.2.2.2.1,y'_214.2.2.2.2.2.2.2.1,y'_214.2.2.2.2.2.2.2.2.1,y'_214.2.2.2.2.2.2.2.2.2.1,y'_214.2.2.2.2.2.2.2.2.2.2.1,y'_214.2.2.2.2.2.2.2.2.2.2.2)))))) (
  G (room y'_186 ([ix signs (0:Int)]) 8) (
  if short=true then
  G (0<=p/\p < (c_7.length:Int)) (
  G (0<=ix signs (0:Int)/\ix signs (0:Int) < ((ix c_7 p).length:Int)) (
  (zab (cut signs (1:Int) (signs.length:Int)) (ix (ix c_7 p) (ix signs (0:Int))) (y'_186++([ix signs (0:Int)])) (decide ((w.length:Int) < (60:Int))) c c_1 c_2 c_3 c_4 c_5 c_6 c_7 c_8 c_9 c_10 c_11 c_12 c_13).bind (fun y'_228=>
  some (y'_228.1,y'_228.2.1,y'_228.2.2.1,y'_228.2.2.2.1,y'_228.2.2.2.2.1,y'_228.2.2.2.2.2.1,y'_228.2.2.2.2.2.2.1,y'_228.2.2.2.2.2.2.2.1,y'_228.2.2.2.2.2.2.2.2.1,y'_228.2.2.2.2.2.2.2.2.2.1,y'_228.2.2.2.2.2.2.2.2.2.2.1,y'_228.2.2.2.2.2.2.2.2.2.2.2)))) else
  G (0<=p/\p < (c_7.length:Int)) (
  G (0<=ix signs (0:Int)/\ix signs (0:Int) < ((ix c_7 p).length:Int)) (
  (zab (cut signs (1:Int) (signs.length:Int)) (ix (ix c_7 p) (ix signs (0:Int))) (y'_186++([ix signs (0:Int)])) false c c_1 c_2 c_3 c_4 c_5 c_6 c_7 c_8 c_9 c_10 c_11 c_12 c_13).bind (fun y'_242=>
  some (y'_242.1,y'_242.2.1,y'_242.2.2.1,y'_242.2.2.2.1,y'_242.2.2.2.2.1,y'_242.2.2.2.2.2.1,y'_242.2.2.2.2.2.2.1,y'_242.2.2.2.2.2.2.2.1,y'_242.2.2.2.2.2.2.2.2.1,y'_242.2.2.2.2.2.2.2.2.2.1,y'_242.2.2.2.2.2.2.2.2.2.2.1,y'_242.2.2.2.2.2.2.2.2.2.2.2))))))))))) else
  zbQ zab signs p w short c c_1 c_2 c_3 c_4 c_5 c_6 c_7 c_8 c_9 c_10 c_11 c_12 c_13)
theorem za9 (zab:Nat->Tf1) (zad:Tf1) (zag:∀ a0 a1 a2 a3 a4 a5 a6 a7 a8 a9 a10 a11 a12 a13 a14 a15 a16 a17,ChO (fun κ=>zab κ a0 a1 a2 a3 a4 a5 a6 a7 a8 a9 a10 a11 a12 a13 a14 a15 a16 a17) (zad a0 a1 a2 a3 a4 a5 a6 a7 a8 a9 a10 a11 a12 a13 a14 a15 a16 a17)) (r6:Nat->Tf2) (r6':Tf2) (h_r6:∀ a0 a1 a2 a3 a4 a5 a6 a7 a8 a9 a10 a11 a12 a13 a14,ChO (fun κ=>r6 κ a0 a1 a2 a3 a4 a5 a6 a7 a8 a9 a10 a11 a12 a13 a14) (r6' a0 a1 a2 a3 a4 a5 a6 a7 a8 a9 a10 a11 a12 a13 a14)) (signs:Tp15) (tell:Tp11) (tell_1:Int) (t:Int) (f:Int) (f_1:Int) (f_2:Tp8) (f_3:Int) (f_4:Int) (f_5:Tp14) (f_6:Tp15) (l:Bool) (l_1:Tp9) (l_2:Tp14) (l_3:Tp9) (l_4:Tp15) (next':Bool) (both':Tp15):ChO (fun κ=>zaN (zab κ) signs tell tell_1 t f f_1 f_2 f_3 f_4 f_5 f_6 l l_1 l_2 l_3 l_4 (r6 κ) next' both') (zaN zad signs tell tell_1 t f f_1 f_2 f_3 f_4 f_5 f_6 l l_1 l_2 l_3 l_4 r6' next' both'):=by
  unfold zaN
  repeat' with_reducible first | exact ChO.const _ | exact zag _ _ _ _ _ _ _ _ _ _ _ _ _ _ _ _ _ _ | exact h_r6 _ _ _ _ _ _ _ _ _ _ _ _ _ _ _ | apply ChO.ite | apply ChO.G | apply ChO.both | (apply ChO.bind;intro _) | (apply ChO.bind2 (zag _ _ _ _ _ _ _ _ _ _ _ _ _ _ _ _ _ _);intro _)
theorem zbP (zab:Nat->Tf1) (zad:Tf1) (zag:∀ a0 a1 a2 a3 a4 a5 a6 a7 a8 a9 a10 a11 a12 a13 a14 a15 a16 a17,ChO (fun κ=>zab κ a0 a1 a2 a3 a4 a5 a6 a7 a8 a9 a10 a11 a12 a13 a14 a15 a16 a17) (zad a0 a1 a2 a3 a4 a5 a6 a7 a8 a9 a10 a11 a12 a13 a14 a15 a16 a17)) (r6:Nat->Tf2) (r6':Tf2) (h_r6:∀ a0 a1 a2 a3 a4 a5 a6 a7 a8 a9 a10 a11 a12 a13 a14,ChO (fun κ=>r6 κ a0 a1 a2 a3 a4 a5 a6 a7 a8 a9 a10 a11 a12 a13 a14) (r6' a0 a1 a2 a3 a4 a5 a6 a7 a8 a9 a10 a11 a12 a13 a14)) (signs:Tp15) (p:Int) (w:Tp15) (tell:Tp11) (tell_1:Int) (t:Int) (f:Int) (f_1:Int) (f_2:Tp8) (f_3:Int) (f_4:Int) (f_5:Tp14) (f_6:Tp15) (l:Bool) (l_1:Tp9) (l_2:Tp14) (l_3:Tp9) (l_4:Tp15) (next':Bool):ChO (fun κ=>zaB (zab κ) signs p w tell tell_1 t f f_1 f_2 f_3 f_4 f_5 f_6 l l_1 l_2 l_3 l_4 (r6 κ) next') (zaB zad signs p w tell tell_1 t f f_1 f_2 f_3 f_4 f_5 f_6 l l_1 l_2 l_3 l_4 r6' next'):=by
  unfold zaB
  repeat' with_reducible first | exact ChO.const _ | exact zag _ _ _ _ _ _ _ _ _ _ _ _ _ _ _ _ _ _ | exact h_r6 _ _ _ _ _ _ _ _ _ _ _ _ _ _ _ | (apply za9<;>assumption) | apply ChO.ite | apply ChO.G | apply ChO.both | (apply ChO.bind;intro _) | (apply ChO.bind2 (zag _ _ _ _ _ _ _ _ _ _ _ _ _ _ _ _ _ _);intro _)
theorem zcS (zab:Nat->Tf1) (zad:Tf1) (zag:∀ a0 a1 a2 a3 a4 a5 a6 a7 a8 a9 a10 a11 a12 a13 a14 a15 a16 a17,ChO (fun κ=>zab κ a0 a1 a2 a3 a4 a5 a6 a7 a8 a9 a10 a11 a12 a13 a14 a15 a16 a17) (zad a0 a1 a2 a3 a4 a5 a6 a7 a8 a9 a10 a11 a12 a13 a14 a15 a16 a17)) (r6:Nat->Tf2) (r6':Tf2) (h_r6:∀ a0 a1 a2 a3 a4 a5 a6 a7 a8 a9 a10 a11 a12 a13 a14,ChO (fun κ=>r6 κ a0 a1 a2 a3 a4 a5 a6 a7 a8 a9 a10 a11 a12 a13 a14) (r6' a0 a1 a2 a3 a4 a5 a6 a7 a8 a9 a10 a11 a12 a13 a14)) (signs:Tp15) (p:Int) (w:Tp15) (short:Bool) (c_7:Tp14) (tell:Tp11) (tell_1:Int) (t:Int) (f:Int) (f_1:Int) (f_2:Tp8) (f_3:Int) (f_4:Int) (f_5:Tp14) (f_6:Tp15) (l:Bool) (l_1:Tp9) (l_2:Tp14) (l_3:Tp9) (l_4:Tp15):ChO (fun κ=>zaI (zab κ) signs p w short c_7 (r6 κ) tell tell_1 t f f_1 f_2 f_3 f_4 f_5 f_6 l l_1 l_2 l_3 l_4) (zaI zad signs p w short c_7 r6' tell tell_1 t f f_1 f_2 f_3 f_4 f_5 f_6 l l_1 l_2 l_3 l_4):=by
  unfold zaI
  repeat' with_reducible first | exact ChO.const _ | exact zag _ _ _ _ _ _ _ _ _ _ _ _ _ _ _ _ _ _ | exact h_r6 _ _ _ _ _ _ _ _ _ _ _ _ _ _ _ | (apply za9<;>assumption) | (apply zbP<;>assumption) | apply ChO.ite | apply ChO.G | apply ChO.both | (apply ChO.bind;intro _) | (apply ChO.bind2 (zag _ _ _ _ _ _ _ _ _ _ _ _ _ _ _ _ _ _);intro _)
theorem zb4 (zab:Tf1) (signs:Tp15) (p:Int) (w:Tp15) (short:Bool) (c_7:Tp14):Cn (zdS zab signs p w short c_7):=fun g h hg x=>zcS (fun _=>zab) zab (fun _ _ _ _ _ _ _ _ _ _ _ _ _ _ _ _ _ _=>ChO.const _) (fun κ tell tell_1 t f f_1 f_2 f_3 f_4 f_5 f_6 l l_1 l_2 l_3 l_4=>g κ (tell,tell_1,t,f,f_1,f_2,f_3,f_4,f_5,f_6,l,l_1,l_2,l_3,l_4)) (fun tell tell_1 t f f_1 f_2 f_3 f_4 f_5 f_6 l l_1 l_2 l_3 l_4=>h (tell,tell_1,t,f,f_1,f_2,f_3,f_4,f_5,f_6,l,l_1,l_2,l_3,l_4)) (fun tell tell_1 t f f_1 f_2 f_3 f_4 f_5 f_6 l l_1 l_2 l_3 l_4=>hg (tell,tell_1,t,f,f_1,f_2,f_3,f_4,f_5,f_6,l,l_1,l_2,l_3,l_4)) signs p w short c_7 x.1 x.2.1 x.2.2.1 x.2.2.2.1 x.2.2.2.2.1 x.2.2.2.2.2.1 x.2.2.2.2.2.2.1 x.2.2.2.2.2.2.2.1 x.2.2.2.2.2.2.2.2.1 x.2.2.2.2.2.2.2.2.2.1 x.2.2.2.2.2.2.2.2.2.2.1 x.2.2.2.2.2.2.2.2.2.2.2.1 x.2.2.2.2.2.2.2.2.2.2.2.2.1 x.2.2.2.2.2.2.2.2.2.2.2.2.2.1 x.2.2.2.2.2.2.2.2.2.2.2.2.2.2
theorem zdr (zab:Tf1) (signs:Tp15) (p:Int) (w:Tp15) (short:Bool) (c_7:Tp14) (tell:Tp11) (tell_1:Int) (t:Int) (f:Int) (f_1:Int) (f_2:Tp8) (f_3:Int) (f_4:Int) (f_5:Tp14) (f_6:Tp15) (l:Bool) (l_1:Tp9) (l_2:Tp14) (l_3:Tp9) (l_4:Tp15):zaw zab signs p w short c_7 tell tell_1 t f f_1 f_2 f_3 f_4 f_5 f_6 l l_1 l_2 l_3 l_4=zaI zab signs p w short c_7 (zaw zab signs p w short c_7) tell tell_1 t f f_1 f_2 f_3 f_4 f_5 f_6 l l_1 l_2 l_3 l_4:=zaV (zb4 zab signs p w short c_7) (tell,tell_1,t,f,f_1,f_2,f_3,f_4,f_5,f_6,l,l_1,l_2,l_3,l_4)
theorem zdq (zab:Nat->Tf1) (zad:Tf1) (zag:∀ a0 a1 a2 a3 a4 a5 a6 a7 a8 a9 a10 a11 a12 a13 a14 a15 a16 a17,ChO (fun κ=>zab κ a0 a1 a2 a3 a4 a5 a6 a7 a8 a9 a10 a11 a12 a13 a14 a15 a16 a17) (zad a0 a1 a2 a3 a4 a5 a6 a7 a8 a9 a10 a11 a12 a13 a14 a15 a16 a17)) (signs:Tp15) (p:Int) (w:Tp15) (short:Bool) (c_7:Tp14) (tell:Tp11) (tell_1:Int) (t:Int) (f:Int) (f_1:Int) (f_2:Tp8) (f_3:Int) (f_4:Int) (f_5:Tp14) (f_6:Tp15) (l:Bool) (l_1:Tp9) (l_2:Tp14) (l_3:Tp9) (l_4:Tp15):ChO (fun κ=>zaw (zab κ) signs p w short c_7 tell tell_1 t f f_1 f_2 f_3 f_4 f_5 f_6 l l_1 l_2 l_3 l_4) (zaw zad signs p w short c_7 tell tell_1 t f f_1 f_2 f_3 f_4 f_5 f_6 l l_1 l_2 l_3 l_4):=by
  unfold zaw
  exact zgV (fun κ=>(zb4 (zab κ) signs p w short c_7).mono) (zb4 zad signs p w short c_7).mono (fun g h hg x=>zcS zab zad zag (fun κ tell tell_1 t f f_1 f_2 f_3 f_4 f_5 f_6 l l_1 l_2 l_3 l_4=>g κ (tell,tell_1,t,f,f_1,f_2,f_3,f_4,f_5,f_6,l,l_1,l_2,l_3,l_4)) (fun tell tell_1 t f f_1 f_2 f_3 f_4 f_5 f_6 l l_1 l_2 l_3 l_4=>h (tell,tell_1,t,f,f_1,f_2,f_3,f_4,f_5,f_6,l,l_1,l_2,l_3,l_4)) (fun tell tell_1 t f f_1 f_2 f_3 f_4 f_5 f_6 l l_1 l_2 l_3 l_4=>hg (tell,tell_1,t,f,f_1,f_2,f_3,f_4,f_5,f_6,l,l_1,l_2,l_3,l_4)) signs p w short c_7 x.1 x.2.1 x.2.2.1 x.2.2.2.1 x.2.2.2.2.1 x.2.2.2.2.2.1 x.2.2.2.2.2.2.1 x.2.2.2.2.2.2.2.1 x.2.2.2.2.2.2.2.2.1 x.2.2.2.2.2.2.2.2.2.1 x.2.2.2.2.2.2.2.2.2.2.1 x.2.2.2.2.2.2.2.2.2.2.2.1 x.2.2.2.2.2.2.2.2.2.2.2.2.1 x.2.2.2.2.2.2.2.2.2.2.2.2.2.1 x.2.2.2.2.2.2.2.2.2.2.2.2.2.2) _
theorem zgO (zab:Nat->Tf1) (zad:Tf1) (zag:∀ a0 a1 a2 a3 a4 a5 a6 a7 a8 a9 a10 a11 a12 a13 a14 a15 a16 a17,ChO (fun κ=>zab κ a0 a1 a2 a3 a4 a5 a6 a7 a8 a9 a10 a11 a12 a13 a14 a15 a16 a17) (zad a0 a1 a2 a3 a4 a5 a6 a7 a8 a9 a10 a11 a12 a13 a14 a15 a16 a17)) (signs:Tp15) (p:Int) (w:Tp15) (short:Bool) (c:Tp11) (c_1:Int) (c_2:Int) (c_3:Int) (c_4:Tp8) (c_5:Int) (c_6:Int) (c_7:Tp14) (c_8:Tp15) (c_9:Bool) (c_10:Tp9) (c_11:Tp14) (c_12:Tp9) (c_13:Tp15):ChO (fun κ=>zbQ (zab κ) signs p w short c c_1 c_2 c_3 c_4 c_5 c_6 c_7 c_8 c_9 c_10 c_11 c_12 c_13) (zbQ zad signs p w short c c_1 c_2 c_3 c_4 c_5 c_6 c_7 c_8 c_9 c_10 c_11 c_12 c_13):=by
  unfold zbQ
  repeat' with_reducible first | exact ChO.const _ | exact zag _ _ _ _ _ _ _ _ _ _ _ _ _ _ _ _ _ _ | (apply za9<;>assumption) | (apply zbP<;>assumption) | (apply zdq<;>assumption) | apply ChO.ite | apply ChO.G | apply ChO.both | (apply ChO.bind;intro _) | (apply ChO.bind2 (zag _ _ _ _ _ _ _ _ _ _ _ _ _ _ _ _ _ _);intro _)
theorem zhh (zab:Nat->Tf1) (zad:Tf1) (zag:∀ a0 a1 a2 a3 a4 a5 a6 a7 a8 a9 a10 a11 a12 a13 a14 a15 a16 a17,ChO (fun κ=>zab κ a0 a1 a2 a3 a4 a5 a6 a7 a8 a9 a10 a11 a12 a13 a14 a15 a16 a17) (zad a0 a1 a2 a3 a4 a5 a6 a7 a8 a9 a10 a11 a12 a13 a14 a15 a16 a17)) (signs:Tp15) (p:Int) (w:Tp15) (short:Bool) (c:Tp11) (c_1:Int) (c_2:Int) (c_3:Int) (c_4:Tp8) (c_5:Int) (c_6:Int) (c_7:Tp14) (c_8:Tp15) (c_9:Bool) (c_10:Tp9) (c_11:Tp14) (c_12:Tp9) (c_13:Tp15):ChO (fun κ=>zaP (zab κ) signs p w short c c_1 c_2 c_3 c_4 c_5 c_6 c_7 c_8 c_9 c_10 c_11 c_12 c_13) (zaP zad signs p w short c c_1 c_2 c_3 c_4 c_5 c_6 c_7 c_8 c_9 c_10 c_11 c_12 c_13):=by
  unfold zaP
  repeat' with_reducible first | exact ChO.const _ | exact zag _ _ _ _ _ _ _ _ _ _ _ _ _ _ _ _ _ _ | (apply za9<;>assumption) | (apply zbP<;>assumption) | (apply zdq<;>assumption) | (apply zgO<;>assumption) | apply ChO.ite | apply ChO.G | apply ChO.both | (apply ChO.bind;intro _) | (apply ChO.bind2 (zag _ _ _ _ _ _ _ _ _ _ _ _ _ _ _ _ _ _);intro _)
def zb6:(Tp15×Int×Tp15×Bool×Tp11×Int×Int×Int×Tp8×Int×Int×Tp14×Tp15×Bool×Tp9×Tp14×Tp9×Tp15->Option Tp1)->Tp15×Int×Tp15×Bool×Tp11×Int×Int×Int×Tp8×Int×Int×Tp14×Tp15×Bool×Tp9×Tp14×Tp9×Tp15->Option Tp1:=
  fun rec X=>zaP (fun signs p w short c c_1 c_2 c_3 c_4 c_5 c_6 c_7 c_8 c_9 c_10 c_11 c_12 c_13=>rec (signs,p,w,short,c,c_1,c_2,c_3,c_4,c_5,c_6,c_7,c_8,c_9,c_10,c_11,c_12,c_13)) X.1 X.2.1 X.2.2.1 X.2.2.2.1 X.2.2.2.2.1 X.2.2.2.2.2.1 X.2.2.2.2.2.2.1 X.2.2.2.2.2.2.2.1 X.2.2.2.2.2.2.2.2.1 X.2.2.2.2.2.2.2.2.2.1 X.2.2.2.2.2.2.2.2.2.2.1 X.2.2.2.2.2.2.2.2.2.2.2.1 X.2.2.2.2.2.2.2.2.2.2.2.2.1 X.2.2.2.2.2.2.2.2.2.2.2.2.2.1 X.2.2.2.2.2.2.2.2.2.2.2.2.2.2.1 X.2.2.2.2.2.2.2.2.2.2.2.2.2.2.2.1 X.2.2.2.2.2.2.2.2.2.2.2.2.2.2.2.2.1 X.2.2.2.2.2.2.2.2.2.2.2.2.2.2.2.2.2
def zaz (signs:Tp15) (p:Int) (w:Tp15) (short:Bool) (c:Tp11) (c_1:Int) (c_2:Int) (c_3:Int) (c_4:Tp8) (c_5:Int) (c_6:Int) (c_7:Tp14) (c_8:Tp15) (c_9:Bool) (c_10:Tp9) (c_11:Tp14) (c_12:Tp9) (c_13:Tp15):Option Tp1:=LFix zb6 (signs,p,w,short,c,c_1,c_2,c_3,c_4,c_5,c_6,c_7,c_8,c_9,c_10,c_11,c_12,c_13)
theorem ziL:Cn zb6:=fun g h hg X=>zhh _ _ (fun signs p w short c c_1 c_2 c_3 c_4 c_5 c_6 c_7 c_8 c_9 c_10 c_11 c_12 c_13=>hg (signs,p,w,short,c,c_1,c_2,c_3,c_4,c_5,c_6,c_7,c_8,c_9,c_10,c_11,c_12,c_13)) X.1 X.2.1 X.2.2.1 X.2.2.2.1 X.2.2.2.2.1 X.2.2.2.2.2.1 X.2.2.2.2.2.2.1 X.2.2.2.2.2.2.2.1 X.2.2.2.2.2.2.2.2.1 X.2.2.2.2.2.2.2.2.2.1 X.2.2.2.2.2.2.2.2.2.2.1 X.2.2.2.2.2.2.2.2.2.2.2.1 X.2.2.2.2.2.2.2.2.2.2.2.2.1 X.2.2.2.2.2.2.2.2.2.2.2.2.2.1 X.2.2.2.2.2.2.2.2.2.2.2.2.2.2.1 X.2.2.2.2.2.2.2.2.2.2.2.2.2.2.2.1 X.2.2.2.2.2.2.2.2.2.2.2.2.2.2.2.2.1 X.2.2.2.2.2.2.2.2.2.2.2.2.2.2.2.2.2
theorem zcK (signs:Tp15) (p:Int) (w:Tp15) (short:Bool) (c:Tp11) (c_1:Int) (c_2:Int) (c_3:Int) (c_4:Tp8) (c_5:Int) (c_6:Int) (c_7:Tp14) (c_8:Tp15) (c_9:Bool) (c_10:Tp9) (c_11:Tp14) (c_12:Tp9) (c_13:Tp15):zaz signs p w short c c_1 c_2 c_3 c_4 c_5 c_6 c_7 c_8 c_9 c_10 c_11 c_12 c_13=zaP zaz signs p w short c c_1 c_2 c_3 c_4 c_5 c_6 c_7 c_8 c_9 c_10 c_11 c_12 c_13:=zaV ziL (signs,p,w,short,c,c_1,c_2,c_3,c_4,c_5,c_6,c_7,c_8,c_9,c_10,c_11,c_12,c_13)

def zaH (t:Int) (l_16:Tp14) (r5:(Int->Bool->Int->Int->Tp8->Int->Int->Tp14->Tp15->Tp9->Tp14->Tp9->Tp15->Option Tp2)) (r8:Tf4) (m:Tp11) (t_1:Int) (again_2:Bool) (l_22:Int) (l_23:Int) (l_24:Tp8) (l_25:Int) (l_26:Int) (l_27:Tp14) (l_28:Tp15) (l_29:Tp9) (l_30:Tp14) (l_31:Tp9) (l_32:Tp15):Option Tp2:=
  if (decide (t_1 < (l_16.length:Int)))=true then
  (zaz m.2.1 t_1 ([]) true m t_1 l_22 l_23 l_24 l_25 l_26 l_27 l_28 again_2 l_29 l_30 l_31 l_32).bind (fun y'_13=>
  G (fits (t_1+(1:Int))) (
  r8 m (t_1+(1:Int)) y'_13.2.2.2.2.2.2.2.1 y'_13.1 y'_13.2.1 y'_13.2.2.1 y'_13.2.2.2.1 y'_13.2.2.2.2.1 y'_13.2.2.2.2.2.1 y'_13.2.2.2.2.2.2.1 y'_13.2.2.2.2.2.2.2.2.1 y'_13.2.2.2.2.2.2.2.2.2.1 y'_13.2.2.2.2.2.2.2.2.2.2.1 y'_13.2.2.2.2.2.2.2.2.2.2.2)) else
  G (fits (t+(1:Int))) (
  r5 (t+(1:Int)) again_2 l_22 l_23 l_24 l_25 l_26 l_27 l_28 l_29 l_30 l_31 l_32)
def zdR (t:Int) (l_16:Tp14) (r5:(Int->Bool->Int->Int->Tp8->Int->Int->Tp14->Tp15->Tp9->Tp14->Tp9->Tp15->Option Tp2)):(Tp11×Int×Bool×Int×Int×Tp8×Int×Int×Tp14×Tp15×Tp9×Tp14×Tp9×Tp15->Option Tp2)->Tp11×Int×Bool×Int×Int×Tp8×Int×Int×Tp14×Tp15×Tp9×Tp14×Tp9×Tp15->Option Tp2:=
  fun rec x=>zaH t l_16 r5 (fun m t_1 again_2 l_22 l_23 l_24 l_25 l_26 l_27 l_28 l_29 l_30 l_31 l_32=>rec (m,t_1,again_2,l_22,l_23,l_24,l_25,l_26,l_27,l_28,l_29,l_30,l_31,l_32)) x.1 x.2.1 x.2.2.1 x.2.2.2.1 x.2.2.2.2.1 x.2.2.2.2.2.1 x.2.2.2.2.2.2.1 x.2.2.2.2.2.2.2.1 x.2.2.2.2.2.2.2.2.1 x.2.2.2.2.2.2.2.2.2.1 x.2.2.2.2.2.2.2.2.2.2.1 x.2.2.2.2.2.2.2.2.2.2.2.1 x.2.2.2.2.2.2.2.2.2.2.2.2.1 x.2.2.2.2.2.2.2.2.2.2.2.2.2
def zaR (t:Int) (l_16:Tp14) (r5:(Int->Bool->Int->Int->Tp8->Int->Int->Tp14->Tp15->Tp9->Tp14->Tp9->Tp15->Option Tp2)) (m:Tp11) (t_1:Int) (again_2:Bool) (l_22:Int) (l_23:Int) (l_24:Tp8) (l_25:Int) (l_26:Int) (l_27:Tp14) (l_28:Tp15) (l_29:Tp9) (l_30:Tp14) (l_31:Tp9) (l_32:Tp15):Option Tp2:=LFix (zdR t l_16 r5 ) (m,t_1,again_2,l_22,l_23,l_24,l_25,l_26,l_27,l_28,l_29,l_30,l_31,l_32)
def zaG (l_2:Tp8) (r2:(Bool->Int->Int->Tp8->Int->Int->Tp14->Tp15->Tp9->Tp14->Tp9->Tp15->Option Tp2)) (r5:Tf5) (t:Int) (again_1:Bool) (l_11:Int) (l_12:Int) (l_13:Tp8) (l_14:Int) (l_15:Int) (l_16:Tp14) (l_17:Tp15) (l_18:Tp9) (l_19:Tp14) (l_20:Tp9) (l_21:Tp15):Option Tp2:=
  if (decide (t < (l_2.length:Int)))=true then
  G (0<=t/\t < (l_2.length:Int)) (
  zaR t l_16 r5 ((ix l_2 t).1,(((ix l_2 t).2).1,())) (0:Int) again_1 l_11 l_12 l_13 l_14 l_15 l_16 l_17 l_18 l_19 l_20 l_21) else
  r2 again_1 l_11 l_12 l_13 l_14 l_15 l_16 l_17 l_18 l_19 l_20 l_21
def zdQ (l_2:Tp8) (r2:(Bool->Int->Int->Tp8->Int->Int->Tp14->Tp15->Tp9->Tp14->Tp9->Tp15->Option Tp2)):(Int×Bool×Int×Int×Tp8×Int×Int×Tp14×Tp15×Tp9×Tp14×Tp9×Tp15->Option Tp2)->Int×Bool×Int×Int×Tp8×Int×Int×Tp14×Tp15×Tp9×Tp14×Tp9×Tp15->Option Tp2:=
  fun rec x=>zaG l_2 r2 (fun t again_1 l_11 l_12 l_13 l_14 l_15 l_16 l_17 l_18 l_19 l_20 l_21=>rec (t,again_1,l_11,l_12,l_13,l_14,l_15,l_16,l_17,l_18,l_19,l_20,l_21)) x.1 x.2.1 x.2.2.1 x.2.2.2.1 x.2.2.2.2.1 x.2.2.2.2.2.1 x.2.2.2.2.2.2.1 x.2.2.2.2.2.2.2.1 x.2.2.2.2.2.2.2.2.1 x.2.2.2.2.2.2.2.2.2.1 x.2.2.2.2.2.2.2.2.2.2.1 x.2.2.2.2.2.2.2.2.2.2.2.1 x.2.2.2.2.2.2.2.2.2.2.2.2
def zaF (l_2:Tp8) (r2:(Bool->Int->Int->Tp8->Int->Int->Tp14->Tp15->Tp9->Tp14->Tp9->Tp15->Option Tp2)) (t:Int) (again_1:Bool) (l_11:Int) (l_12:Int) (l_13:Tp8) (l_14:Int) (l_15:Int) (l_16:Tp14) (l_17:Tp15) (l_18:Tp9) (l_19:Tp14) (l_20:Tp9) (l_21:Tp15):Option Tp2:=LFix (zdQ l_2 r2 ) (t,again_1,l_11,l_12,l_13,l_14,l_15,l_16,l_17,l_18,l_19,l_20,l_21)
def zaU  (r2:Tf6) (again:Bool) (l:Int) (l_1:Int) (l_2:Tp8) (l_3:Int) (l_4:Int) (l_5:Tp14) (l_6:Tp15) (l_7:Tp9) (l_8:Tp14) (l_9:Tp9) (l_10:Tp15):Option Tp2:=
  if again=true then
  zaF l_2 r2 (0:Int) false l l_1 l_2 l_3 l_4 l_5 l_6 l_7 l_8 l_9 l_10 else
  some (l,l_1,l_2,l_3,l_4,l_5,l_6,l_7,l_8,l_9,l_10)
def zdP:(Bool×Int×Int×Tp8×Int×Int×Tp14×Tp15×Tp9×Tp14×Tp9×Tp15->Option Tp2)->Bool×Int×Int×Tp8×Int×Int×Tp14×Tp15×Tp9×Tp14×Tp9×Tp15->Option Tp2:=
  fun rec x=>zaU (fun again l l_1 l_2 l_3 l_4 l_5 l_6 l_7 l_8 l_9 l_10=>rec (again,l,l_1,l_2,l_3,l_4,l_5,l_6,l_7,l_8,l_9,l_10)) x.1 x.2.1 x.2.2.1 x.2.2.2.1 x.2.2.2.2.1 x.2.2.2.2.2.1 x.2.2.2.2.2.2.1 x.2.2.2.2.2.2.2.1 x.2.2.2.2.2.2.2.2.1 x.2.2.2.2.2.2.2.2.2.1 x.2.2.2.2.2.2.2.2.2.2.1 x.2.2.2.2.2.2.2.2.2.2.2
def zbk  (again:Bool) (l:Int) (l_1:Int) (l_2:Tp8) (l_3:Int) (l_4:Int) (l_5:Tp14) (l_6:Tp15) (l_7:Tp9) (l_8:Tp14) (l_9:Tp9) (l_10:Tp15):Option Tp2:=LFix (zdP ) (again,l,l_1,l_2,l_3,l_4,l_5,l_6,l_7,l_8,l_9,l_10)
def zd9 (c:Int) (c_1:Int) (c_2:Tp8) (c_3:Int) (c_4:Int) (c_5:Tp14) (c_6:Tp15) (c_7:Tp9) (c_8:Tp14) (c_9:Tp9) (c_10:Tp15):Option Tp2:=
  zbk true c c_1 c_2 c_3 c_4 c_5 c_6 c_7 c_8 c_9 c_10
theorem zcR (r5:Nat->Tf5) (r5':Tf5) (h_r5:∀ a0 a1 a2 a3 a4 a5 a6 a7 a8 a9 a10 a11 a12,ChO (fun κ=>r5 κ a0 a1 a2 a3 a4 a5 a6 a7 a8 a9 a10 a11 a12) (r5' a0 a1 a2 a3 a4 a5 a6 a7 a8 a9 a10 a11 a12)) (r8:Nat->Tf4) (r8':Tf4) (h_r8:∀ a0 a1 a2 a3 a4 a5 a6 a7 a8 a9 a10 a11 a12 a13,ChO (fun κ=>r8 κ a0 a1 a2 a3 a4 a5 a6 a7 a8 a9 a10 a11 a12 a13) (r8' a0 a1 a2 a3 a4 a5 a6 a7 a8 a9 a10 a11 a12 a13)) (t:Int) (l_16:Tp14) (m:Tp11) (t_1:Int) (again_2:Bool) (l_22:Int) (l_23:Int) (l_24:Tp8) (l_25:Int) (l_26:Int) (l_27:Tp14) (l_28:Tp15) (l_29:Tp9) (l_30:Tp14) (l_31:Tp9) (l_32:Tp15):ChO (fun κ=>zaH t l_16 (r5 κ) (r8 κ) m t_1 again_2 l_22 l_23 l_24 l_25 l_26 l_27 l_28 l_29 l_30 l_31 l_32) (zaH t l_16 r5' r8' m t_1 again_2 l_22 l_23 l_24 l_25 l_26 l_27 l_28 l_29 l_30 l_31 l_32):=by
  unfold zaH
  repeat' with_reducible first | exact ChO.const _ | exact h_r5 _ _ _ _ _ _ _ _ _ _ _ _ _ | exact h_r8 _ _ _ _ _ _ _ _ _ _ _ _ _ _ | apply ChO.ite | apply ChO.G | apply ChO.both | (apply ChO.bind;intro _)
theorem zb3 (r5:Tf5) (t:Int) (l_16:Tp14):Cn (zdR t l_16 r5):=fun g h hg x=>zcR (fun _=>r5) r5 (fun _ _ _ _ _ _ _ _ _ _ _ _ _=>ChO.const _) (fun κ m t_1 again_2 l_22 l_23 l_24 l_25 l_26 l_27 l_28 l_29 l_30 l_31 l_32=>g κ (m,t_1,again_2,l_22,l_23,l_24,l_25,l_26,l_27,l_28,l_29,l_30,l_31,l_32)) (fun m t_1 again_2 l_22 l_23 l_24 l_25 l_26 l_27 l_28 l_29 l_30 l_31 l_32=>h (m,t_1,again_2,l_22,l_23,l_24,l_25,l_26,l_27,l_28,l_29,l_30,l_31,l_32)) (fun m t_1 again_2 l_22 l_23 l_24 l_25 l_26 l_27 l_28 l_29 l_30 l_31 l_32=>hg (m,t_1,again_2,l_22,l_23,l_24,l_25,l_26,l_27,l_28,l_29,l_30,l_31,l_32)) t l_16 x.1 x.2.1 x.2.2.1 x.2.2.2.1 x.2.2.2.2.1 x.2.2.2.2.2.1 x.2.2.2.2.2.2.1 x.2.2.2.2.2.2.2.1 x.2.2.2.2.2.2.2.2.1 x.2.2.2.2.2.2.2.2.2.1 x.2.2.2.2.2.2.2.2.2.2.1 x.2.2.2.2.2.2.2.2.2.2.2.1 x.2.2.2.2.2.2.2.2.2.2.2.2.1 x.2.2.2.2.2.2.2.2.2.2.2.2.2
theorem zdp (r5:Tf5) (t:Int) (l_16:Tp14) (m:Tp11) (t_1:Int) (again_2:Bool) (l_22:Int) (l_23:Int) (l_24:Tp8) (l_25:Int) (l_26:Int) (l_27:Tp14) (l_28:Tp15) (l_29:Tp9) (l_30:Tp14) (l_31:Tp9) (l_32:Tp15):zaR t l_16 r5 m t_1 again_2 l_22 l_23 l_24 l_25 l_26 l_27 l_28 l_29 l_30 l_31 l_32=zaH t l_16 r5 (zaR t l_16 r5) m t_1 again_2 l_22 l_23 l_24 l_25 l_26 l_27 l_28 l_29 l_30 l_31 l_32:=zaV (zb3 r5 t l_16) (m,t_1,again_2,l_22,l_23,l_24,l_25,l_26,l_27,l_28,l_29,l_30,l_31,l_32)
theorem zdo (r5:Nat->Tf5) (r5':Tf5) (h_r5:∀ a0 a1 a2 a3 a4 a5 a6 a7 a8 a9 a10 a11 a12,ChO (fun κ=>r5 κ a0 a1 a2 a3 a4 a5 a6 a7 a8 a9 a10 a11 a12) (r5' a0 a1 a2 a3 a4 a5 a6 a7 a8 a9 a10 a11 a12)) (t:Int) (l_16:Tp14) (m:Tp11) (t_1:Int) (again_2:Bool) (l_22:Int) (l_23:Int) (l_24:Tp8) (l_25:Int) (l_26:Int) (l_27:Tp14) (l_28:Tp15) (l_29:Tp9) (l_30:Tp14) (l_31:Tp9) (l_32:Tp15):ChO (fun κ=>zaR t l_16 (r5 κ) m t_1 again_2 l_22 l_23 l_24 l_25 l_26 l_27 l_28 l_29 l_30 l_31 l_32) (zaR t l_16 r5' m t_1 again_2 l_22 l_23 l_24 l_25 l_26 l_27 l_28 l_29 l_30 l_31 l_32):=by
  unfold zaR
  exact zgV (fun κ=>(zb3 (r5 κ) t l_16).mono) (zb3 r5' t l_16).mono (fun g h hg x=>zcR r5 r5' h_r5 (fun κ m t_1 again_2 l_22 l_23 l_24 l_25 l_26 l_27 l_28 l_29 l_30 l_31 l_32=>g κ (m,t_1,again_2,l_22,l_23,l_24,l_25,l_26,l_27,l_28,l_29,l_30,l_31,l_32)) (fun m t_1 again_2 l_22 l_23 l_24 l_25 l_26 l_27 l_28 l_29 l_30 l_31 l_32=>h (m,t_1,again_2,l_22,l_23,l_24,l_25,l_26,l_27,l_28,l_29,l_30,l_31,l_32)) (fun m t_1 again_2 l_22 l_23 l_24 l_25 l_26 l_27 l_28 l_29 l_30 l_31 l_32=>hg (m,t_1,again_2,l_22,l_23,l_24,l_25,l_26,l_27,l_28,l_29,l_30,l_31,l_32)) t l_16 x.1 x.2.1 x.2.2.1 x.2.2.2.1 x.2.2.2.2.1 x.2.2.2.2.2.1 x.2.2.2.2.2.2.1 x.2.2.2.2.2.2.2.1 x.2.2.2.2.2.2.2.2.1 x.2.2.2.2.2.2.2.2.2.1 x.2.2.2.2.2.2.2.2.2.2.1 x.2.2.2.2.2.2.2.2.2.2.2.1 x.2.2.2.2.2.2.2.2.2.2.2.2.1 x.2.2.2.2.2.2.2.2.2.2.2.2.2) _
theorem zcQ (r2:Nat->Tf6) (r2':Tf6) (h_r2:∀ a0 a1 a2 a3 a4 a5 a6 a7 a8 a9 a10 a11,ChO (fun κ=>r2 κ a0 a1 a2 a3 a4 a5 a6 a7 a8 a9 a10 a11) (r2' a0 a1 a2 a3 a4 a5 a6 a7 a8 a9 a10 a11)) (r5:Nat->Tf5) (r5':Tf5) (h_r5:∀ a0 a1 a2 a3 a4 a5 a6 a7 a8 a9 a10 a11 a12,ChO (fun κ=>r5 κ a0 a1 a2 a3 a4 a5 a6 a7 a8 a9 a10 a11 a12) (r5' a0 a1 a2 a3 a4 a5 a6 a7 a8 a9 a10 a11 a12)) (l_2:Tp8) (t:Int) (again_1:Bool) (l_11:Int) (l_12:Int) (l_13:Tp8) (l_14:Int) (l_15:Int) (l_16:Tp14) (l_17:Tp15) (l_18:Tp9) (l_19:Tp14) (l_20:Tp9) (l_21:Tp15):ChO (fun κ=>zaG l_2 (r2 κ) (r5 κ) t again_1 l_11 l_12 l_13 l_14 l_15 l_16 l_17 l_18 l_19 l_20 l_21) (zaG l_2 r2' r5' t again_1 l_11 l_12 l_13 l_14 l_15 l_16 l_17 l_18 l_19 l_20 l_21):=by
  unfold zaG
  repeat' with_reducible first | exact ChO.const _ | exact h_r2 _ _ _ _ _ _ _ _ _ _ _ _ | exact h_r5 _ _ _ _ _ _ _ _ _ _ _ _ _ | (apply zdo<;>assumption) | apply ChO.ite | apply ChO.G | apply ChO.both | (apply ChO.bind;intro _)
theorem zb2 (r2:Tf6) (l_2:Tp8):Cn (zdQ l_2 r2):=fun g h hg x=>zcQ (fun _=>r2) r2 (fun _ _ _ _ _ _ _ _ _ _ _ _=>ChO.const _) (fun κ t again_1 l_11 l_12 l_13 l_14 l_15 l_16 l_17 l_18 l_19 l_20 l_21=>g κ (t,again_1,l_11,l_12,l_13,l_14,l_15,l_16,l_17,l_18,l_19,l_20,l_21)) (fun t again_1 l_11 l_12 l_13 l_14 l_15 l_16 l_17 l_18 l_19 l_20 l_21=>h (t,again_1,l_11,l_12,l_13,l_14,l_15,l_16,l_17,l_18,l_19,l_20,l_21)) (fun t again_1 l_11 l_12 l_13 l_14 l_15 l_16 l_17 l_18 l_19 l_20 l_21=>hg (t,again_1,l_11,l_12,l_13,l_14,l_15,l_16,l_17,l_18,l_19,l_20,l_21)) l_2 x.1 x.2.1 x.2.2.1 x.2.2.2.1 x.2.2.2.2.1 x.2.2.2.2.2.1 x.2.2.2.2.2.2.1 x.2.2.2.2.2.2.2.1 x.2.2.2.2.2.2.2.2.1 x.2.2.2.2.2.2.2.2.2.1 x.2.2.2.2.2.2.2.2.2.2.1 x.2.2.2.2.2.2.2.2.2.2.2.1 x.2.2.2.2.2.2.2.2.2.2.2.2
theorem zdn (r2:Tf6) (l_2:Tp8) (t:Int) (again_1:Bool) (l_11:Int) (l_12:Int) (l_13:Tp8) (l_14:Int) (l_15:Int) (l_16:Tp14) (l_17:Tp15) (l_18:Tp9) (l_19:Tp14) (l_20:Tp9) (l_21:Tp15):zaF l_2 r2 t again_1 l_11 l_12 l_13 l_14 l_15 l_16 l_17 l_18 l_19 l_20 l_21=zaG l_2 r2 (zaF l_2 r2) t again_1 l_11 l_12 l_13 l_14 l_15 l_16 l_17 l_18 l_19 l_20 l_21:=zaV (zb2 r2 l_2) (t,again_1,l_11,l_12,l_13,l_14,l_15,l_16,l_17,l_18,l_19,l_20,l_21)
theorem zgN (r2:Nat->Tf6) (r2':Tf6) (h_r2:∀ a0 a1 a2 a3 a4 a5 a6 a7 a8 a9 a10 a11,ChO (fun κ=>r2 κ a0 a1 a2 a3 a4 a5 a6 a7 a8 a9 a10 a11) (r2' a0 a1 a2 a3 a4 a5 a6 a7 a8 a9 a10 a11)) (l_2:Tp8) (t:Int) (again_1:Bool) (l_11:Int) (l_12:Int) (l_13:Tp8) (l_14:Int) (l_15:Int) (l_16:Tp14) (l_17:Tp15) (l_18:Tp9) (l_19:Tp14) (l_20:Tp9) (l_21:Tp15):ChO (fun κ=>zaF l_2 (r2 κ) t again_1 l_11 l_12 l_13 l_14 l_15 l_16 l_17 l_18 l_19 l_20 l_21) (zaF l_2 r2' t again_1 l_11 l_12 l_13 l_14 l_15 l_16 l_17 l_18 l_19 l_20 l_21):=by
  unfold zaF
  exact zgV (fun κ=>(zb2 (r2 κ) l_2).mono) (zb2 r2' l_2).mono (fun g h hg x=>zcQ r2 r2' h_r2 (fun κ t again_1 l_11 l_12 l_13 l_14 l_15 l_16 l_17 l_18 l_19 l_20 l_21=>g κ (t,again_1,l_11,l_12,l_13,l_14,l_15,l_16,l_17,l_18,l_19,l_20,l_21)) (fun t again_1 l_11 l_12 l_13 l_14 l_15 l_16 l_17 l_18 l_19 l_20 l_21=>h (t,again_1,l_11,l_12,l_13,l_14,l_15,l_16,l_17,l_18,l_19,l_20,l_21)) (fun t again_1 l_11 l_12 l_13 l_14 l_15 l_16 l_17 l_18 l_19 l_20 l_21=>hg (t,again_1,l_11,l_12,l_13,l_14,l_15,l_16,l_17,l_18,l_19,l_20,l_21)) l_2 x.1 x.2.1 x.2.2.1 x.2.2.2.1 x.2.2.2.2.1 x.2.2.2.2.2.1 x.2.2.2.2.2.2.1 x.2.2.2.2.2.2.2.1 x.2.2.2.2.2.2.2.2.1 x.2.2.2.2.2.2.2.2.2.1 x.2.2.2.2.2.2.2.2.2.2.1 x.2.2.2.2.2.2.2.2.2.2.2.1 x.2.2.2.2.2.2.2.2.2.2.2.2) _
theorem zfM (r2:Nat->Tf6) (r2':Tf6) (h_r2:∀ a0 a1 a2 a3 a4 a5 a6 a7 a8 a9 a10 a11,ChO (fun κ=>r2 κ a0 a1 a2 a3 a4 a5 a6 a7 a8 a9 a10 a11) (r2' a0 a1 a2 a3 a4 a5 a6 a7 a8 a9 a10 a11)) (again:Bool) (l:Int) (l_1:Int) (l_2:Tp8) (l_3:Int) (l_4:Int) (l_5:Tp14) (l_6:Tp15) (l_7:Tp9) (l_8:Tp14) (l_9:Tp9) (l_10:Tp15):ChO (fun κ=>zaU (r2 κ) again l l_1 l_2 l_3 l_4 l_5 l_6 l_7 l_8 l_9 l_10) (zaU r2' again l l_1 l_2 l_3 l_4 l_5 l_6 l_7 l_8 l_9 l_10):=by
  unfold zaU
  repeat' with_reducible first | exact ChO.const _ | exact h_r2 _ _ _ _ _ _ _ _ _ _ _ _ | (apply zdo<;>assumption) | (apply zgN<;>assumption) | apply ChO.ite | apply ChO.G | apply ChO.both | (apply ChO.bind;intro _)
theorem zgM:Cn (zdP):=fun g h hg x=>zfM  (fun κ again l l_1 l_2 l_3 l_4 l_5 l_6 l_7 l_8 l_9 l_10=>g κ (again,l,l_1,l_2,l_3,l_4,l_5,l_6,l_7,l_8,l_9,l_10)) (fun again l l_1 l_2 l_3 l_4 l_5 l_6 l_7 l_8 l_9 l_10=>h (again,l,l_1,l_2,l_3,l_4,l_5,l_6,l_7,l_8,l_9,l_10)) (fun again l l_1 l_2 l_3 l_4 l_5 l_6 l_7 l_8 l_9 l_10=>hg (again,l,l_1,l_2,l_3,l_4,l_5,l_6,l_7,l_8,l_9,l_10))  x.1 x.2.1 x.2.2.1 x.2.2.2.1 x.2.2.2.2.1 x.2.2.2.2.2.1 x.2.2.2.2.2.2.1 x.2.2.2.2.2.2.2.1 x.2.2.2.2.2.2.2.2.1 x.2.2.2.2.2.2.2.2.2.1 x.2.2.2.2.2.2.2.2.2.2.1 x.2.2.2.2.2.2.2.2.2.2.2
theorem zdm   (again:Bool) (l:Int) (l_1:Int) (l_2:Tp8) (l_3:Int) (l_4:Int) (l_5:Tp14) (l_6:Tp15) (l_7:Tp9) (l_8:Tp14) (l_9:Tp9) (l_10:Tp15):zbk again l l_1 l_2 l_3 l_4 l_5 l_6 l_7 l_8 l_9 l_10=zaU (zbk) again l l_1 l_2 l_3 l_4 l_5 l_6 l_7 l_8 l_9 l_10:=zaV (zgM ) (again,l,l_1,l_2,l_3,l_4,l_5,l_6,l_7,l_8,l_9,l_10)

def zbl (d:Tp5) (y'_7:Tp9) (y'_8:Tp14) (y'_9:Tp9) (y'_10:Tp15) (r6:Tf10) (best:Tp15) (found:Bool) (any:Bool) (t:Int):Option Tp12:=
  if (decide (t < (d.2.2.2.1.length:Int)))=true then
  G (0<=t/\t < (d.2.2.2.1.length:Int)) (
  if (decide ((ix d.2.2.2.1 t)=(0:Int)))=true then
  G (fits (t+(1:Int))) (
  r6 best found any (t+(1:Int))) else
  if (decide ((mget y'_9 y'_10 ((0:Int),(d.2.1,(t,()))) (0:Int))=(0:Int)))=true then
  G (fits (t+(1:Int))) (
  r6 best found any (t+(1:Int))) else
  if (mhas y'_7 ((0:Int),(d.2.1,(t,()))))=true then
  if (!found)=true then
  G (fits (t+(1:Int))) (
  r6 (mget y'_7 y'_8 ((0:Int),(d.2.1,(t,()))) ([]:List Int)) true true (t+(1:Int))) else
  (zeF (mget y'_7 y'_8 ((0:Int),(d.2.1,(t,()))) ([]:List Int)) best).bind (fun y'_12=>
  if y'_12=true then
  G (fits (t+(1:Int))) (
  r6 (mget y'_7 y'_8 ((0:Int),(d.2.1,(t,()))) ([]:List Int)) true true (t+(1:Int))) else
  G (fits (t+(1:Int))) (
  r6 best found true (t+(1:Int)))) else
  G (fits (t+(1:Int))) (
  r6 best found true (t+(1:Int)))) else
  if any=true then
  if (!found)=true then
  some ([],false,(7:Int)) else
  some (best,found,(0:Int)) else
  some (best,found,(0:Int))
def zhi (d:Tp5) (y'_7:Tp9) (y'_8:Tp14) (y'_9:Tp9) (y'_10:Tp15):(Tp15×Bool×Bool×Int->Option Tp12)->Tp15×Bool×Bool×Int->Option Tp12:=
  fun rec x=>zbl d y'_7 y'_8 y'_9 y'_10 (fun best found any t=>rec (best,found,any,t)) x.1 x.2.1 x.2.2.1 x.2.2.2
def zeq (d:Tp5) (y'_7:Tp9) (y'_8:Tp14) (y'_9:Tp9) (y'_10:Tp15) (best:Tp15) (found:Bool) (any:Bool) (t:Int):Option Tp12:=LFix (zhi d y'_7 y'_8 y'_9 y'_10 ) (best,found,any,t)
def zhV (g':Tp4) (d:Tp5):Option Tp12:=
  (zd9 g'.1 g'.2.1 g'.2.2.1 d.1 d.2.1 d.2.2.1 d.2.2.2.1 ([]:List Tp13) ([]:List Tp15) ([]:List Tp13) ([]:List Int)).bind (fun y'_13=>
  zeq d y'_13.2.2.2.2.2.2.2.1 y'_13.2.2.2.2.2.2.2.2.1 y'_13.2.2.2.2.2.2.2.2.2.1 y'_13.2.2.2.2.2.2.2.2.2.2 ([]) false false (0:Int))
theorem zji (r6:Nat->Tf10) (r6':Tf10) (h_r6:∀ a0 a1 a2 a3,ChO (fun κ=>r6 κ a0 a1 a2 a3) (r6' a0 a1 a2 a3)) (d:Tp5) (y'_7:Tp9) (y'_8:Tp14) (y'_9:Tp9) (y'_10:Tp15) (best:Tp15) (found:Bool) (any:Bool) (t:Int):ChO (fun κ=>zbl d y'_7 y'_8 y'_9 y'_10 (r6 κ) best found any t) (zbl d y'_7 y'_8 y'_9 y'_10 r6' best found any t):=by
  unfold zbl
  repeat' with_reducible first | exact ChO.const _ | exact h_r6 _ _ _ _ | apply ChO.ite | apply ChO.G | apply ChO.both | (apply ChO.bind;intro _)
theorem zkS  (d:Tp5) (y'_7:Tp9) (y'_8:Tp14) (y'_9:Tp9) (y'_10:Tp15):Cn (zhi d y'_7 y'_8 y'_9 y'_10):=fun g h hg x=>zji  (fun κ best found any t=>g κ (best,found,any,t)) (fun best found any t=>h (best,found,any,t)) (fun best found any t=>hg (best,found,any,t)) d y'_7 y'_8 y'_9 y'_10 x.1 x.2.1 x.2.2.1 x.2.2.2
theorem zgB  (d:Tp5) (y'_7:Tp9) (y'_8:Tp14) (y'_9:Tp9) (y'_10:Tp15) (best:Tp15) (found:Bool) (any:Bool) (t:Int):zeq d y'_7 y'_8 y'_9 y'_10 best found any t=zbl d y'_7 y'_8 y'_9 y'_10 (zeq d y'_7 y'_8 y'_9 y'_10) best found any t:=zaV (zkS d y'_7 y'_8 y'_9 y'_10) (best,found,any,t)

def zlC (g':Tp4) (d:Tp5):Option Tp12:=
  (zhU (g'.1,(g'.2.1,(g'.2.2.1,())))).bind (fun y'=>
  if (decide (¬ y'=(0:Int)))=true then
  some ([],false,y') else
  (zgZ (d.1,(d.2.1,(d.2.2.1,(d.2.2.2.1,()))))).bind (fun y'_1=>
  if (decide (¬ y'_1=(0:Int)))=true then
  some ([],false,y'_1) else
  if (decide (¬ g'.1=d.1))=true then
  some ([],false,(3:Int)) else
  if (decide ((4:Int) < (d.2.2.1.length:Int)))=true then
  some ([],false,(1:Int)) else
  (zhV (g'.1,(g'.2.1,(g'.2.2.1,()))) (d.1,(d.2.1,(d.2.2.1,(d.2.2.2.1,()))))).bind (fun y'_6=>
  some (y'_6.1,y'_6.2.1,y'_6.2.2))))

def za5 (g':Tp4) (i:Int) (r6:(Int->Option (Int))) (r14:Int->Option (Int)) (k:Int):Option (Int):=
  if (decide (k < ((((ix g'.2.2.1 i).2).1).length:Int)))=true then
  G (0<=k/\k < ((((ix g'.2.2.1 i).2).1).length:Int)) (
  if (decide ((ix (((ix g'.2.2.1 i).2).1) k) < (0:Int)))=true then
  some (2:Int) else
  G (0<=k/\k < ((((ix g'.2.2.1 i).2).1).length:Int)) (
  G (fits (g'.1+g'.2.1)) (
  if (decide ((g'.1+g'.2.1)<=(ix (((ix g'.2.2.1 i).2).1) k)))=true then
  some (2:Int) else
  G (fits (k+(1:Int))) (
  r14 (k+(1:Int)))))) else
  G (fits (i+(1:Int))) (
  r6 (i+(1:Int)))
def zhs (g':Tp4) (i:Int) (r6:(Int->Option (Int))):(Int->Option (Int))->Int->Option (Int):=
  fun rec x=>za5 g' i r6 (fun k=>rec k) x
def zba (g':Tp4) (i:Int) (r6:(Int->Option (Int))) (k:Int):Option (Int):=LFix (zhs g' i r6 ) k
def zbx (g':Tp4) (r6:Int->Option (Int)) (i:Int):Option (Int):=
  if (decide (i < (g'.2.2.1.length:Int)))=true then
  G (0<=i/\i < (g'.2.2.1.length:Int)) (
  if (decide (((ix g'.2.2.1 i).1) < (0:Int)))=true then
  some (2:Int) else
  if (decide (g'.2.1<=((ix g'.2.2.1 i).1)))=true then
  some (2:Int) else
  if (decide ((3:Int) < ((((ix g'.2.2.1 i).2).1).length:Int)))=true then
  some (1:Int) else
  zba g' i r6 (0:Int)) else
  some (0:Int)
def zin (g':Tp4):(Int->Option (Int))->Int->Option (Int):=
  fun rec x=>zbx g' (fun i=>rec i) x
def zdU (g':Tp4) (i:Int):Option (Int):=LFix (zin g' ) i
def zjA (g':Tp4):Option (Int):=
  if (decide (g'.1 < (1:Int)))=true then
  some (2:Int) else
  if (decide ((4:Int) < g'.1))=true then
  some (2:Int) else
  if (decide (g'.2.1 < (1:Int)))=true then
  some (1:Int) else
  if (decide ((6:Int) < g'.2.1))=true then
  some (1:Int) else
  if (decide ((20:Int) < (g'.2.2.1.length:Int)))=true then
  some (1:Int) else
  zdU g' (0:Int)
theorem zfh (r6:Nat->Int->Option (Int)) (r6':Int->Option (Int)) (h_r6:∀ a0,ChO (fun κ=>r6 κ a0) (r6' a0)) (r14:Nat->Int->Option (Int)) (r14':Int->Option (Int)) (h_r14:∀ a0,ChO (fun κ=>r14 κ a0) (r14' a0)) (g':Tp4) (i:Int) (k:Int):ChO (fun κ=>za5 g' i (r6 κ) (r14 κ) k) (za5 g' i r6' r14' k):=by
  unfold za5
  repeat' with_reducible first | exact ChO.const _ | exact h_r6 _ | exact h_r14 _ | apply ChO.ite | apply ChO.G | apply ChO.both | (apply ChO.bind;intro _)
theorem zec (r6:Int->Option (Int)) (g':Tp4) (i:Int):Cn (zhs g' i r6):=fun g h hg x=>zfh (fun _=>r6) r6 (fun _=>ChO.const _) (fun κ k=>g κ k) (fun k=>h k) (fun k=>hg k) g' i x
theorem zed (r6:Int->Option (Int)) (g':Tp4) (i:Int) (k:Int):zba g' i r6 k=za5 g' i r6 (zba g' i r6) k:=zaV (zec r6 g' i) k
theorem zkU (r6:Nat->Int->Option (Int)) (r6':Int->Option (Int)) (h_r6:∀ a0,ChO (fun κ=>r6 κ a0) (r6' a0)) (g':Tp4) (i:Int) (k:Int):ChO (fun κ=>zba g' i (r6 κ) k) (zba g' i r6' k):=by
  unfold zba
  exact zgV (fun κ=>(zec (r6 κ) g' i).mono) (zec r6' g' i).mono (fun g h hg x=>zfh r6 r6' h_r6 (fun κ k=>g κ k) (fun k=>h k) (fun k=>hg k) g' i x) _
theorem zj8 (r6:Nat->Int->Option (Int)) (r6':Int->Option (Int)) (h_r6:∀ a0,ChO (fun κ=>r6 κ a0) (r6' a0)) (g':Tp4) (i:Int):ChO (fun κ=>zbx g' (r6 κ) i) (zbx g' r6' i):=by
  unfold zbx
  repeat' with_reducible first | exact ChO.const _ | exact h_r6 _ | (apply zkU<;>assumption) | apply ChO.ite | apply ChO.G | apply ChO.both | (apply ChO.bind;intro _)
theorem zlU  (g':Tp4):Cn (zin g'):=fun g h hg x=>zj8  (fun κ i=>g κ i) (fun i=>h i) (fun i=>hg i) g' x
theorem zht  (g':Tp4) (i:Int):zdU g' i=zbx g' (zdU g') i:=zaV (zlU g') i

def za4 (d:Tp5) (i_1:Int) (r16:(Int->Option (Int))) (r19:Int->Option (Int)) (k:Int):Option (Int):=
  if (decide (k < d.1))=true then
  G (0<=i_1/\i_1 < (d.2.2.1.length:Int)) (
  G (0<=k/\k < ((ix d.2.2.1 i_1).length:Int)) (
  if (decide ((ix (ix d.2.2.1 i_1) k) < (0:Int)))=true then
  some (2:Int) else
  G (0<=i_1/\i_1 < (d.2.2.1.length:Int)) (
  G (0<=k/\k < ((ix d.2.2.1 i_1).length:Int)) (
  if (decide ((d.2.2.1.length:Int)<=(ix (ix d.2.2.1 i_1) k)))=true then
  some (2:Int) else
  G (fits (k+(1:Int))) (
  r19 (k+(1:Int))))))) else
  G (fits (i_1+(1:Int))) (
  r16 (i_1+(1:Int)))
def ziw (d:Tp5) (i_1:Int) (r16:(Int->Option (Int))):(Int->Option (Int))->Int->Option (Int):=
  fun rec x=>za4 d i_1 r16 (fun k=>rec k) x
def zcV (d:Tp5) (i_1:Int) (r16:(Int->Option (Int))) (k:Int):Option (Int):=LFix (ziw d i_1 r16 ) k
def zbg (d:Tp5) (r24:Int->Option (Int)) (i_2:Int):Option (Int):=
  if (decide (i_2 < (d.2.2.1.length:Int)))=true then
  G (0<=i_2/\i_2 < (d.2.2.2.1.length:Int)) (
  if (decide (¬ (ix d.2.2.2.1 i_2)=(0:Int)))=true then
  G (0<=i_2/\i_2 < (d.2.2.2.1.length:Int)) (
  if (decide (¬ (ix d.2.2.2.1 i_2)=(1:Int)))=true then
  some (2:Int) else
  G (fits (i_2+(1:Int))) (
  r24 (i_2+(1:Int)))) else
  G (fits (i_2+(1:Int))) (
  r24 (i_2+(1:Int)))) else
  some (0:Int)
def zix (d:Tp5):(Int->Option (Int))->Int->Option (Int):=
  fun rec x=>zbg d (fun i_2=>rec i_2) x
def zhB (d:Tp5) (i_2:Int):Option (Int):=LFix (zix d ) i_2
def zbf (d:Tp5) (r16:Int->Option (Int)) (i_1:Int):Option (Int):=
  if (decide (i_1 < (d.2.2.1.length:Int)))=true then
  zcV d i_1 r16 (0:Int) else
  zhB d (0:Int)
def ziv (d:Tp5):(Int->Option (Int))->Int->Option (Int):=
  fun rec x=>zbf d (fun i_1=>rec i_1) x
def zhA (d:Tp5) (i_1:Int):Option (Int):=LFix (ziv d ) i_1
def zbv (d:Tp5) (r9:Int->Option (Int)) (i:Int):Option (Int):=
  if (decide (i < (d.2.2.1.length:Int)))=true then
  G (0<=i/\i < (d.2.2.1.length:Int)) (
  if (decide (¬ ((ix d.2.2.1 i).length:Int)=d.1))=true then
  some (3:Int) else
  G (fits (i+(1:Int))) (
  r9 (i+(1:Int)))) else
  if (decide (d.2.1 < (0:Int)))=true then
  some (2:Int) else
  if (decide ((d.2.2.1.length:Int)<=d.2.1))=true then
  some (2:Int) else
  zhA d (0:Int)
def zjN (d:Tp5):(Int->Option (Int))->Int->Option (Int):=
  fun rec x=>zbv d (fun i=>rec i) x
def ziQ (d:Tp5) (i:Int):Option (Int):=LFix (zjN d ) i
def zjM (d:Tp5):Option (Int):=
  if (decide (d.1 < (1:Int)))=true then
  some (2:Int) else
  if (decide ((4:Int) < d.1))=true then
  some (2:Int) else
  if (decide ((d.2.2.1.length:Int) < (1:Int)))=true then
  some (1:Int) else
  if (decide ((3000:Int) < (d.2.2.1.length:Int)))=true then
  some (1:Int) else
  if (decide (¬ (d.2.2.2.1.length:Int)=(d.2.2.1.length:Int)))=true then
  some (3:Int) else
  ziQ d (0:Int)
theorem zfW (r16:Nat->Int->Option (Int)) (r16':Int->Option (Int)) (h_r16:∀ a0,ChO (fun κ=>r16 κ a0) (r16' a0)) (r19:Nat->Int->Option (Int)) (r19':Int->Option (Int)) (h_r19:∀ a0,ChO (fun κ=>r19 κ a0) (r19' a0)) (d:Tp5) (i_1:Int) (k:Int):ChO (fun κ=>za4 d i_1 (r16 κ) (r19 κ) k) (za4 d i_1 r16' r19' k):=by
  unfold za4
  repeat' with_reducible first | exact ChO.const _ | exact h_r16 _ | exact h_r19 _ | apply ChO.ite | apply ChO.G | apply ChO.both | (apply ChO.bind;intro _)
theorem zeW (r16:Int->Option (Int)) (d:Tp5) (i_1:Int):Cn (ziw d i_1 r16):=fun g h hg x=>zfW (fun _=>r16) r16 (fun _=>ChO.const _) (fun κ k=>g κ k) (fun k=>h k) (fun k=>hg k) d i_1 x
theorem zc9 (r16:Int->Option (Int)) (d:Tp5) (i_1:Int) (k:Int):zcV d i_1 r16 k=za4 d i_1 r16 (zcV d i_1 r16) k:=zaV (zeW r16 d i_1) k
theorem zeV (r16:Nat->Int->Option (Int)) (r16':Int->Option (Int)) (h_r16:∀ a0,ChO (fun κ=>r16 κ a0) (r16' a0)) (d:Tp5) (i_1:Int) (k:Int):ChO (fun κ=>zcV d i_1 (r16 κ) k) (zcV d i_1 r16' k):=by
  unfold zcV
  exact zgV (fun κ=>(zeW (r16 κ) d i_1).mono) (zeW r16' d i_1).mono (fun g h hg x=>zfW r16 r16' h_r16 (fun κ k=>g κ k) (fun k=>h k) (fun k=>hg k) d i_1 x) _
theorem zkd (r24:Nat->Int->Option (Int)) (r24':Int->Option (Int)) (h_r24:∀ a0,ChO (fun κ=>r24 κ a0) (r24' a0)) (d:Tp5) (i_2:Int):ChO (fun κ=>zbg d (r24 κ) i_2) (zbg d r24' i_2):=by
  unfold zbg
  repeat' with_reducible first | exact ChO.const _ | exact h_r24 _ | (apply zeV<;>assumption) | apply ChO.ite | apply ChO.G | apply ChO.both | (apply ChO.bind;intro _)
theorem zlZ  (d:Tp5):Cn (zix d):=fun g h hg x=>zkd  (fun κ i_2=>g κ i_2) (fun i_2=>h i_2) (fun i_2=>hg i_2) d x
theorem zeX  (d:Tp5) (i_2:Int):zhB d i_2=zbg d (zhB d) i_2:=zaV (zlZ d) i_2
theorem zkc (r16:Nat->Int->Option (Int)) (r16':Int->Option (Int)) (h_r16:∀ a0,ChO (fun κ=>r16 κ a0) (r16' a0)) (d:Tp5) (i_1:Int):ChO (fun κ=>zbf d (r16 κ) i_1) (zbf d r16' i_1):=by
  unfold zbf
  repeat' with_reducible first | exact ChO.const _ | exact h_r16 _ | (apply zeV<;>assumption) | apply ChO.ite | apply ChO.G | apply ChO.both | (apply ChO.bind;intro _)
theorem zlY  (d:Tp5):Cn (ziv d):=fun g h hg x=>zkc  (fun κ i_1=>g κ i_1) (fun i_1=>h i_1) (fun i_1=>hg i_1) d x
theorem zeU  (d:Tp5) (i_1:Int):zhA d i_1=zbf d (zhA d) i_1:=zaV (zlY d) i_1
theorem zkY (r9:Nat->Int->Option (Int)) (r9':Int->Option (Int)) (h_r9:∀ a0,ChO (fun κ=>r9 κ a0) (r9' a0)) (d:Tp5) (i:Int):ChO (fun κ=>zbv d (r9 κ) i) (zbv d r9' i):=by
  unfold zbv
  repeat' with_reducible first | exact ChO.const _ | exact h_r9 _ | (apply zeV<;>assumption) | apply ChO.ite | apply ChO.G | apply ChO.both | (apply ChO.bind;intro _)
theorem zmq  (d:Tp5):Cn (zjN d):=fun g h hg x=>zkY  (fun κ i=>g κ i) (fun i=>h i) (fun i=>hg i) d x
theorem zfC  (d:Tp5) (i:Int):ziQ d i=zbv d (ziQ d) i:=zaV (zmq d) i

def zbb (s:(Tp4×Tp5×Tp6×Bool×Unit)) (a:Int) (p:Int) (q:Int):Option (Int):=
  G (fits (a * (s.2.1.2.2.1.length:Int))) (
  G (fits ((a * (s.2.1.2.2.1.length:Int))+p)) (
  G (fits (((a * (s.2.1.2.2.1.length:Int))+p) * (s.2.1.2.2.1.length:Int))) (
  G (fits ((((a * (s.2.1.2.2.1.length:Int))+p) * (s.2.1.2.2.1.length:Int))+q)) (
  some ((((a * (s.2.1.2.2.1.length:Int))+p) * (s.2.1.2.2.1.length:Int))+q)))))

def zbA (a:Tp15) (b:Tp15) (r4:Int->Option (Bool)) (i:Int):Option (Bool):=
  if (decide (i < (a.length:Int)))=true then
  G (0<=i/\i < (a.length:Int)) (
  G (0<=i/\i < (b.length:Int)) (
  if (decide (¬ (ix a i)=(ix b i)))=true then
  G (0<=i/\i < (a.length:Int)) (
  G (0<=i/\i < (b.length:Int)) (
  some (decide ((ix a i) < (ix b i))))) else
  G (fits (i+(1:Int))) (
  r4 (i+(1:Int))))) else
  some false
def zit (a:Tp15) (b:Tp15):(Int->Option (Bool))->Int->Option (Bool):=
  fun rec x=>zbA a b (fun i=>rec i) x
def zfl (a:Tp15) (b:Tp15) (i:Int):Option (Bool):=LFix (zit a b ) i
def zdY (a:Tp15) (b:Tp15):Option (Bool):=
  if (decide (¬ (a.length:Int)=(b.length:Int)))=true then
  some (decide ((a.length:Int) < (b.length:Int))) else
  zfl a b (0:Int)
theorem zkb (r4:Nat->Int->Option (Bool)) (r4':Int->Option (Bool)) (h_r4:∀ a0,ChO (fun κ=>r4 κ a0) (r4' a0)) (a:Tp15) (b:Tp15) (i:Int):ChO (fun κ=>zbA a b (r4 κ) i) (zbA a b r4' i):=by
  unfold zbA
  repeat' with_reducible first | exact ChO.const _ | exact h_r4 _ | apply ChO.ite | apply ChO.G | apply ChO.both | (apply ChO.bind;intro _)
theorem zlW  (a:Tp15) (b:Tp15):Cn (zit a b):=fun g h hg x=>zkb  (fun κ i=>g κ i) (fun i=>h i) (fun i=>hg i) a b x
theorem zhy  (a:Tp15) (b:Tp15) (i:Int):zfl a b i=zbA a b (zfl a b) i:=zaV (zlW a b) i

def zfU (y':Int) (s:Int) (s_1:Int) (s_2:Tp8) (s_3:Int) (s_4:Int) (s_5:Tp14) (s_6:Tp15) (s_7:Bool) (l_1:Tp6) (t:Bool):Option Tp3:=
  if t=true then
  G (0<=y'/\y' < (l_1.length:Int)) (
  G ((y').toNat < l_1.length) (
  G (0<=y'/\y' < ((l_1.set (y').toNat ((ix l_1 y').1,(true,((ix l_1 y').2).2))).length:Int)) (
  G ((y').toNat < (l_1.set (y').toNat ((ix l_1 y').1,(true,((ix l_1 y').2).2))).length) (
  some (s,s_1,s_2,s_3,s_4,s_5,s_6,(l_1.set (y').toNat ((ix l_1 y').1,(true,((ix l_1 y').2).2))).set (y').toNat ((ix (l_1.set (y').toNat ((ix l_1 y').1,(true,((ix l_1 y').2).2))) y').1,(((ix (l_1.set (y').toNat ((ix l_1 y').1,(true,((ix l_1 y').2).2))) y').2).1,([],(((ix (l_1.set (y').toNat ((ix l_1 y').1,(true,((ix l_1 y').2).2))) y').2).2).2))),true))))) else
  some (s,s_1,s_2,s_3,s_4,s_5,s_6,l_1,s_7)
def zfT (has:Bool) (y':Int) (s:Int) (s_1:Int) (s_2:Tp8) (s_3:Int) (s_4:Int) (s_5:Tp14) (s_6:Tp15) (s_7:Bool) (l_1:Tp6):Option Tp3:=
  if (!has)=true then
  some (s,s_1,s_2,s_3,s_4,s_5,s_6,l_1,s_7) else
  G (0<=y'/\y' < (l_1.length:Int)) (
  G ((y').toNat < l_1.length) (
  (zdY ([]) ((((ix l_1 y').2).2).1)).bind (fun y'_1=>
  G (0<=y'/\y' < (l_1.length:Int)) (
  G ((y').toNat < l_1.length) (
  if (!(((ix l_1 y').2).1))=true then
  zfU y' s s_1 s_2 s_3 s_4 s_5 s_6 s_7 l_1 true else
  zfU y' s s_1 s_2 s_3 s_4 s_5 s_6 s_7 l_1 y'_1)))))
def zis (from':Int) (p:Int) (q:Int) (has:Bool) (c:Int) (c_1:Int) (c_2:Tp8) (c_3:Int) (c_4:Int) (c_5:Tp14) (c_6:Tp15) (c_7:Bool) (l:Tp6):Option Tp3:=
  (zbb ((c,(c_1,(c_2,()))),((c_3,(c_4,(c_5,(c_6,())))),(l,(c_7,())))) from' p q).bind (fun y'=>
  G (0<=y'/\y' < (l.length:Int)) (
  G ((y').toNat < l.length) (
  if (!((ix l y').1))=true then
  G (0<=y'/\y' < (l.length:Int)) (
  G ((y').toNat < l.length) (
  zfT has y' c c_1 c_2 c_3 c_4 c_5 c_6 true (l.set (y').toNat (true,(ix l y').2)))) else
  zfT has y' c c_1 c_2 c_3 c_4 c_5 c_6 c_7 l)))

def zbp (w:Tp15) (y':Int) (s:Int) (s_1:Int) (s_2:Tp8) (s_3:Int) (s_4:Int) (s_5:Tp14) (s_6:Tp15) (s_7:Bool) (l_1:Tp6) (t:Bool):Option Tp3:=
  if t=true then
  G (0<=y'/\y' < (l_1.length:Int)) (
  G ((y').toNat < l_1.length) (
  G (0<=y'/\y' < ((l_1.set (y').toNat ((ix l_1 y').1,(true,((ix l_1 y').2).2))).length:Int)) (
  G ((y').toNat < (l_1.set (y').toNat ((ix l_1 y').1,(true,((ix l_1 y').2).2))).length) (
  some (s,s_1,s_2,s_3,s_4,s_5,s_6,(l_1.set (y').toNat ((ix l_1 y').1,(true,((ix l_1 y').2).2))).set (y').toNat ((ix (l_1.set (y').toNat ((ix l_1 y').1,(true,((ix l_1 y').2).2))) y').1,(((ix (l_1.set (y').toNat ((ix l_1 y').1,(true,((ix l_1 y').2).2))) y').2).1,(w,(((ix (l_1.set (y').toNat ((ix l_1 y').1,(true,((ix l_1 y').2).2))) y').2).2).2))),true))))) else
  some (s,s_1,s_2,s_3,s_4,s_5,s_6,l_1,s_7)
def zbT (w:Tp15) (has:Bool) (y':Int) (s:Int) (s_1:Int) (s_2:Tp8) (s_3:Int) (s_4:Int) (s_5:Tp14) (s_6:Tp15) (s_7:Bool) (l_1:Tp6):Option Tp3:=
  if (!has)=true then
  some (s,s_1,s_2,s_3,s_4,s_5,s_6,l_1,s_7) else
  G (0<=y'/\y' < (l_1.length:Int)) (
  G ((y').toNat < l_1.length) (
  (zdY w ((((ix l_1 y').2).2).1)).bind (fun y'_1=>
  G (0<=y'/\y' < (l_1.length:Int)) (
  G ((y').toNat < l_1.length) (
  if (!(((ix l_1 y').2).1))=true then
  zbp w y' s s_1 s_2 s_3 s_4 s_5 s_6 s_7 l_1 true else
  zbp w y' s s_1 s_2 s_3 s_4 s_5 s_6 s_7 l_1 y'_1)))))
def zcG (from':Int) (p:Int) (q:Int) (w:Tp15) (has:Bool) (c:Int) (c_1:Int) (c_2:Tp8) (c_3:Int) (c_4:Int) (c_5:Tp14) (c_6:Tp15) (c_7:Bool) (l:Tp6):Option Tp3:=
  (zbb ((c,(c_1,(c_2,()))),((c_3,(c_4,(c_5,(c_6,())))),(l,(c_7,())))) from' p q).bind (fun y'=>
  G (0<=y'/\y' < (l.length:Int)) (
  G ((y').toNat < l.length) (
  if (!((ix l y').1))=true then
  G (0<=y'/\y' < (l.length:Int)) (
  G ((y').toNat < l.length) (
  zbT w has y' c c_1 c_2 c_3 c_4 c_5 c_6 true (l.set (y').toNat (true,(ix l y').2)))) else
  zbT w has y' c c_1 c_2 c_3 c_4 c_5 c_6 c_7 l)))

def zaK (zac:Tf3) (from':Int) (start:Int) (signs:Tp15) (q:Int) (s:Int) (s_1:Int) (s_2:Tp8) (s_3:Int) (s_4:Int) (s_5:Tp14) (s_6:Tp15) (s_7:Bool) (l_1:Tp6) (r7:(Int->Int->Int->Tp8->Int->Int->Tp14->Tp15->Bool->Tp6->Option Tp3)) (ok:Bool) (x':Tp15):Option Tp3:=
  G (0<=(1:Int)/\(1:Int)<=(signs.length:Int)/\(signs.length:Int)<=(signs.length:Int)) (
  (zac from' start (cut signs (1:Int) (signs.length:Int)) q x' ok s s_1 s_2 s_3 s_4 s_5 s_6 s_7 l_1).bind (fun y'_44=>
  G (fits (q+(1:Int))) (
  r7 (q+(1:Int)) y'_44.1 y'_44.2.1 y'_44.2.2.1 y'_44.2.2.2.1 y'_44.2.2.2.2.1 y'_44.2.2.2.2.2.1 y'_44.2.2.2.2.2.2.1 y'_44.2.2.2.2.2.2.2.2 y'_44.2.2.2.2.2.2.2.1)))
def zav (zac:Tf3) (from':Int) (start:Int) (signs:Tp15) (w:Tp15) (q:Int) (s:Int) (s_1:Int) (s_2:Tp8) (s_3:Int) (s_4:Int) (s_5:Tp14) (s_6:Tp15) (s_7:Bool) (l_1:Tp6) (r7:(Int->Int->Int->Tp8->Int->Int->Tp14->Tp15->Bool->Tp6->Option Tp3)) (y'_33:Int) (ok:Bool):Option Tp3:=
  if ok=true then
  G (room ([]:List Int) w 8) (
  G (0<=y'_33/\y'_33 < (l_1.length:Int)) (
  G ((y'_33).toNat < l_1.length) (
  G (room w ((((ix l_1 y'_33).2).2).1) 8) (
  zaK zac from' start signs q s s_1 s_2 s_3 s_4 s_5 s_6 s_7 l_1 r7 ok (w++((((ix l_1 y'_33).2).2).1)))))) else
  zaK zac from' start signs q s s_1 s_2 s_3 s_4 s_5 s_6 s_7 l_1 r7 ok ([])
def zaC (zac:Tf3) (from':Int) (start:Int) (signs:Tp15) (p:Int) (w:Tp15) (has:Bool) (r7:Tf8) (q:Int) (s:Int) (s_1:Int) (s_2:Tp8) (s_3:Int) (s_4:Int) (s_5:Tp14) (s_6:Tp15) (s_7:Bool) (l_1:Tp6):Option Tp3:=
  if (decide (q < (s_5.length:Int)))=true then
  G (0<=(0:Int)/\(0:Int) < (signs.length:Int)) (
  G (fits ((ix signs (0:Int)) - s)) (
  (zbb ((s,(s_1,(s_2,()))),((s_3,(s_4,(s_5,(s_6,())))),(l_1,(s_7,())))) ((ix signs (0:Int)) - s) p q).bind (fun y'_33=>
  G (0<=y'_33/\y'_33 < (l_1.length:Int)) (
  G ((y'_33).toNat < l_1.length) (
  if (!((ix l_1 y'_33).1))=true then
  G (fits (q+(1:Int))) (
  r7 (q+(1:Int)) s s_1 s_2 s_3 s_4 s_5 s_6 s_7 l_1) else
  if has=true then
  G (0<=y'_33/\y'_33 < (l_1.length:Int)) (
  G ((y'_33).toNat < l_1.length) (
  if (((ix l_1 y'_33).2).1)=true then
  G (0<=y'_33/\y'_33 < (l_1.length:Int)) (
  G ((y'_33).toNat < l_1.length) (
  G (fits ((w.length:Int)+(((((ix l_1 y'_33).2).2).1).length:Int))) (
  zav zac from' start signs w q s s_1 s_2 s_3 s_4 s_5 s_6 s_7 l_1 r7 y'_33 (decide (((w.length:Int)+(((((ix l_1 y'_33).2).2).1).length:Int))<=(60:Int)))))) else
  zav zac from' start signs w q s s_1 s_2 s_3 s_4 s_5 s_6 s_7 l_1 r7 y'_33 false)) else
  zav zac from' start signs w q s s_1 s_2 s_3 s_4 s_5 s_6 s_7 l_1 r7 y'_33 false))))) else
  some (s,s_1,s_2,s_3,s_4,s_5,s_6,l_1,s_7)
def zds (zac:Tf3) (from':Int) (start:Int) (signs:Tp15) (p:Int) (w:Tp15) (has:Bool):(Int×Int×Int×Tp8×Int×Int×Tp14×Tp15×Bool×Tp6->Option Tp3)->Int×Int×Int×Tp8×Int×Int×Tp14×Tp15×Bool×Tp6->Option Tp3:=
  fun rec x=>zaC zac from' start signs p w has (fun q s s_1 s_2 s_3 s_4 s_5 s_6 s_7 l_1=>rec (q,s,s_1,s_2,s_3,s_4,s_5,s_6,s_7,l_1)) x.1 x.2.1 x.2.2.1 x.2.2.2.1 x.2.2.2.2.1 x.2.2.2.2.2.1 x.2.2.2.2.2.2.1 x.2.2.2.2.2.2.2.1 x.2.2.2.2.2.2.2.2.1 x.2.2.2.2.2.2.2.2.2
def zas (zac:Tf3) (from':Int) (start:Int) (signs:Tp15) (p:Int) (w:Tp15) (has:Bool) (q:Int) (s:Int) (s_1:Int) (s_2:Tp8) (s_3:Int) (s_4:Int) (s_5:Tp14) (s_6:Tp15) (s_7:Bool) (l_1:Tp6):Option Tp3:=LFix (zds zac from' start signs p w has ) (q,s,s_1,s_2,s_3,s_4,s_5,s_6,s_7,l_1)
def zaJ (zac:Tf3) (from':Int) (start:Int) (signs:Tp15) (p:Int) (w:Tp15) (has:Bool) (c:Int) (c_1:Int) (c_2:Tp8) (c_3:Int) (c_4:Int) (c_5:Tp14) (c_6:Tp15) (c_7:Bool) (l:Tp6):Option Tp3:=
  if (decide ((signs.length:Int)=(0:Int)))=true then
  (zcG from' start p w has c c_1 c_2 c_3 c_4 c_5 c_6 c_7 l).bind (fun y'_10=>
  some (y'_10.1,y'_10.2.1,y'_10.2.2.1,y'_10.2.2.2.1,y'_10.2.2.2.2.1,y'_10.2.2.2.2.2.1,y'_10.2.2.2.2.2.2.1,y'_10.2.2.2.2.2.2.2.1,y'_10.2.2.2.2.2.2.2.2)) else
  G (0<=(0:Int)/\(0:Int) < (signs.length:Int)) (
  if (decide ((ix signs (0:Int)) < c))=true then
  G (room ([]:List Int) w 8) (
  G (0<=(0:Int)/\(0:Int) < (signs.length:Int)) (
  G (room (([]:List Int)++w) ([ix signs (0:Int)]) 8) (
  G (0<=(1:Int)/\(1:Int)<=(signs.length:Int)/\(signs.length:Int)<=(signs.length:Int)) (
  G (0<=p/\p < (c_5.length:Int)) (
  G (0<=(0:Int)/\(0:Int) < (signs.length:Int)) (
  G (0<=ix signs (0:Int)/\ix signs (0:Int) < ((ix c_5 p).length:Int)) (
  if has=true then
  (zac from' start (cut signs (1:Int) (signs.length:Int)) (ix (ix c_5 p) (ix signs (0:Int))) ((([]:List Int)++w)++([ix signs (0:Int)])) (decide ((((([]:List Int)++w)++([ix signs (0:Int)])).length:Int)<=(60:Int))) c c_1 c_2 c_3 c_4 c_5 c_6 c_7 l).bind (fun y'_21=>
  some (y'_21.1,y'_21.2.1,y'_21.2.2.1,y'_21.2.2.2.1,y'_21.2.2.2.2.1,y'_21.2.2.2.2.2.1,y'_21.2.2.2.2.2.2.1,y'_21.2.2.2.2.2.2.2.1,y'_21.2.2.2.2.2.2.2.2)) else
  (zac from' start (cut signs (1:Int) (signs.length:Int)) (ix (ix c_5 p) (ix signs (0:Int))) ((([]:List Int)++w)++([ix signs (0:Int)])) false c c_1 c_2 c_3 c_4 c_5 c_6 c_7 l).bind (fun y'_32=>
  some (y'_32.1,y'_32.2.1,y'_32.2.2.1,y'_32.2.2.2.1,y'_32.2.2.2.2.1,y'_32.2.2.2.2.2.1,y'_32.2.2.2.2.2.2.1,y'_32.2.2.2.2.2.2.2.1,y'_32.2.2.2.2.2.2.2.2))))))))) else
  zas zac from' start signs p w has (0:Int) c c_1 c_2 c_3 c_4 c_5 c_6 c_7 l)
theorem zbK (zac:Nat->Tf3) (zah:Tf3) (zak:∀ a0 a1 a2 a3 a4 a5 a6 a7 a8 a9 a10 a11 a12 a13 a14,ChO (fun κ=>zac κ a0 a1 a2 a3 a4 a5 a6 a7 a8 a9 a10 a11 a12 a13 a14) (zah a0 a1 a2 a3 a4 a5 a6 a7 a8 a9 a10 a11 a12 a13 a14)) (r7:Nat->Tf8) (r7':Tf8) (h_r7:∀ a0 a1 a2 a3 a4 a5 a6 a7 a8 a9,ChO (fun κ=>r7 κ a0 a1 a2 a3 a4 a5 a6 a7 a8 a9) (r7' a0 a1 a2 a3 a4 a5 a6 a7 a8 a9)) (from':Int) (start:Int) (signs:Tp15) (q:Int) (s:Int) (s_1:Int) (s_2:Tp8) (s_3:Int) (s_4:Int) (s_5:Tp14) (s_6:Tp15) (s_7:Bool) (l_1:Tp6) (ok:Bool) (x':Tp15):ChO (fun κ=>zaK (zac κ) from' start signs q s s_1 s_2 s_3 s_4 s_5 s_6 s_7 l_1 (r7 κ) ok x') (zaK zah from' start signs q s s_1 s_2 s_3 s_4 s_5 s_6 s_7 l_1 r7' ok x'):=by
  unfold zaK
  repeat' with_reducible first | exact ChO.const _ | exact zak _ _ _ _ _ _ _ _ _ _ _ _ _ _ _ | exact h_r7 _ _ _ _ _ _ _ _ _ _ | apply ChO.ite | apply ChO.G | apply ChO.both | (apply ChO.bind;intro _) | (apply ChO.bind2 (zak _ _ _ _ _ _ _ _ _ _ _ _ _ _ _);intro _)
theorem zcU (zac:Nat->Tf3) (zah:Tf3) (zak:∀ a0 a1 a2 a3 a4 a5 a6 a7 a8 a9 a10 a11 a12 a13 a14,ChO (fun κ=>zac κ a0 a1 a2 a3 a4 a5 a6 a7 a8 a9 a10 a11 a12 a13 a14) (zah a0 a1 a2 a3 a4 a5 a6 a7 a8 a9 a10 a11 a12 a13 a14)) (r7:Nat->Tf8) (r7':Tf8) (h_r7:∀ a0 a1 a2 a3 a4 a5 a6 a7 a8 a9,ChO (fun κ=>r7 κ a0 a1 a2 a3 a4 a5 a6 a7 a8 a9) (r7' a0 a1 a2 a3 a4 a5 a6 a7 a8 a9)) (from':Int) (start:Int) (signs:Tp15) (w:Tp15) (q:Int) (s:Int) (s_1:Int) (s_2:Tp8) (s_3:Int) (s_4:Int) (s_5:Tp14) (s_6:Tp15) (s_7:Bool) (l_1:Tp6) (y'_33:Int) (ok:Bool):ChO (fun κ=>zav (zac κ) from' start signs w q s s_1 s_2 s_3 s_4 s_5 s_6 s_7 l_1 (r7 κ) y'_33 ok) (zav zah from' start signs w q s s_1 s_2 s_3 s_4 s_5 s_6 s_7 l_1 r7' y'_33 ok):=by
  unfold zav
  repeat' with_reducible first | exact ChO.const _ | exact zak _ _ _ _ _ _ _ _ _ _ _ _ _ _ _ | exact h_r7 _ _ _ _ _ _ _ _ _ _ | (apply zbK<;>assumption) | apply ChO.ite | apply ChO.G | apply ChO.both | (apply ChO.bind;intro _) | (apply ChO.bind2 (zak _ _ _ _ _ _ _ _ _ _ _ _ _ _ _);intro _)
theorem zcs (zac:Nat->Tf3) (zah:Tf3) (zak:∀ a0 a1 a2 a3 a4 a5 a6 a7 a8 a9 a10 a11 a12 a13 a14,ChO (fun κ=>zac κ a0 a1 a2 a3 a4 a5 a6 a7 a8 a9 a10 a11 a12 a13 a14) (zah a0 a1 a2 a3 a4 a5 a6 a7 a8 a9 a10 a11 a12 a13 a14)) (r7:Nat->Tf8) (r7':Tf8) (h_r7:∀ a0 a1 a2 a3 a4 a5 a6 a7 a8 a9,ChO (fun κ=>r7 κ a0 a1 a2 a3 a4 a5 a6 a7 a8 a9) (r7' a0 a1 a2 a3 a4 a5 a6 a7 a8 a9)) (from':Int) (start:Int) (signs:Tp15) (p:Int) (w:Tp15) (has:Bool) (q:Int) (s:Int) (s_1:Int) (s_2:Tp8) (s_3:Int) (s_4:Int) (s_5:Tp14) (s_6:Tp15) (s_7:Bool) (l_1:Tp6):ChO (fun κ=>zaC (zac κ) from' start signs p w has (r7 κ) q s s_1 s_2 s_3 s_4 s_5 s_6 s_7 l_1) (zaC zah from' start signs p w has r7' q s s_1 s_2 s_3 s_4 s_5 s_6 s_7 l_1):=by
  unfold zaC
  repeat' with_reducible first | exact ChO.const _ | exact zak _ _ _ _ _ _ _ _ _ _ _ _ _ _ _ | exact h_r7 _ _ _ _ _ _ _ _ _ _ | (apply zbK<;>assumption) | (apply zcU<;>assumption) | apply ChO.ite | apply ChO.G | apply ChO.both | (apply ChO.bind;intro _) | (apply ChO.bind2 (zak _ _ _ _ _ _ _ _ _ _ _ _ _ _ _);intro _)
theorem zbV (zac:Tf3) (from':Int) (start:Int) (signs:Tp15) (p:Int) (w:Tp15) (has:Bool):Cn (zds zac from' start signs p w has):=fun g h hg x=>zcs (fun _=>zac) zac (fun _ _ _ _ _ _ _ _ _ _ _ _ _ _ _=>ChO.const _) (fun κ q s s_1 s_2 s_3 s_4 s_5 s_6 s_7 l_1=>g κ (q,s,s_1,s_2,s_3,s_4,s_5,s_6,s_7,l_1)) (fun q s s_1 s_2 s_3 s_4 s_5 s_6 s_7 l_1=>h (q,s,s_1,s_2,s_3,s_4,s_5,s_6,s_7,l_1)) (fun q s s_1 s_2 s_3 s_4 s_5 s_6 s_7 l_1=>hg (q,s,s_1,s_2,s_3,s_4,s_5,s_6,s_7,l_1)) from' start signs p w has x.1 x.2.1 x.2.2.1 x.2.2.2.1 x.2.2.2.2.1 x.2.2.2.2.2.1 x.2.2.2.2.2.2.1 x.2.2.2.2.2.2.2.1 x.2.2.2.2.2.2.2.2.1 x.2.2.2.2.2.2.2.2.2
theorem zc8 (zac:Tf3) (from':Int) (start:Int) (signs:Tp15) (p:Int) (w:Tp15) (has:Bool) (q:Int) (s:Int) (s_1:Int) (s_2:Tp8) (s_3:Int) (s_4:Int) (s_5:Tp14) (s_6:Tp15) (s_7:Bool) (l_1:Tp6):zas zac from' start signs p w has q s s_1 s_2 s_3 s_4 s_5 s_6 s_7 l_1=zaC zac from' start signs p w has (zas zac from' start signs p w has) q s s_1 s_2 s_3 s_4 s_5 s_6 s_7 l_1:=zaV (zbV zac from' start signs p w has) (q,s,s_1,s_2,s_3,s_4,s_5,s_6,s_7,l_1)
theorem zgs (zac:Nat->Tf3) (zah:Tf3) (zak:∀ a0 a1 a2 a3 a4 a5 a6 a7 a8 a9 a10 a11 a12 a13 a14,ChO (fun κ=>zac κ a0 a1 a2 a3 a4 a5 a6 a7 a8 a9 a10 a11 a12 a13 a14) (zah a0 a1 a2 a3 a4 a5 a6 a7 a8 a9 a10 a11 a12 a13 a14)) (from':Int) (start:Int) (signs:Tp15) (p:Int) (w:Tp15) (has:Bool) (q:Int) (s:Int) (s_1:Int) (s_2:Tp8) (s_3:Int) (s_4:Int) (s_5:Tp14) (s_6:Tp15) (s_7:Bool) (l_1:Tp6):ChO (fun κ=>zas (zac κ) from' start signs p w has q s s_1 s_2 s_3 s_4 s_5 s_6 s_7 l_1) (zas zah from' start signs p w has q s s_1 s_2 s_3 s_4 s_5 s_6 s_7 l_1):=by
  unfold zas
  exact zgV (fun κ=>(zbV (zac κ) from' start signs p w has).mono) (zbV zah from' start signs p w has).mono (fun g h hg x=>zcs zac zah zak (fun κ q s s_1 s_2 s_3 s_4 s_5 s_6 s_7 l_1=>g κ (q,s,s_1,s_2,s_3,s_4,s_5,s_6,s_7,l_1)) (fun q s s_1 s_2 s_3 s_4 s_5 s_6 s_7 l_1=>h (q,s,s_1,s_2,s_3,s_4,s_5,s_6,s_7,l_1)) (fun q s s_1 s_2 s_3 s_4 s_5 s_6 s_7 l_1=>hg (q,s,s_1,s_2,s_3,s_4,s_5,s_6,s_7,l_1)) from' start signs p w has x.1 x.2.1 x.2.2.1 x.2.2.2.1 x.2.2.2.2.1 x.2.2.2.2.2.1 x.2.2.2.2.2.2.1 x.2.2.2.2.2.2.2.1 x.2.2.2.2.2.2.2.2.1 x.2.2.2.2.2.2.2.2.2) _
theorem zgP (zac:Nat->Tf3) (zah:Tf3) (zak:∀ a0 a1 a2 a3 a4 a5 a6 a7 a8 a9 a10 a11 a12 a13 a14,ChO (fun κ=>zac κ a0 a1 a2 a3 a4 a5 a6 a7 a8 a9 a10 a11 a12 a13 a14) (zah a0 a1 a2 a3 a4 a5 a6 a7 a8 a9 a10 a11 a12 a13 a14)) (from':Int) (start:Int) (signs:Tp15) (p:Int) (w:Tp15) (has:Bool) (c:Int) (c_1:Int) (c_2:Tp8) (c_3:Int) (c_4:Int) (c_5:Tp14) (c_6:Tp15) (c_7:Bool) (l:Tp6):ChO (fun κ=>zaJ (zac κ) from' start signs p w has c c_1 c_2 c_3 c_4 c_5 c_6 c_7 l) (zaJ zah from' start signs p w has c c_1 c_2 c_3 c_4 c_5 c_6 c_7 l):=by
  unfold zaJ
  repeat' with_reducible first | exact ChO.const _ | exact zak _ _ _ _ _ _ _ _ _ _ _ _ _ _ _ | (apply zbK<;>assumption) | (apply zcU<;>assumption) | (apply zgs<;>assumption) | apply ChO.ite | apply ChO.G | apply ChO.both | (apply ChO.bind;intro _) | (apply ChO.bind2 (zak _ _ _ _ _ _ _ _ _ _ _ _ _ _ _);intro _)
def zbU:(Int×Int×Tp15×Int×Tp15×Bool×Int×Int×Tp8×Int×Int×Tp14×Tp15×Bool×Tp6->Option Tp3)->Int×Int×Tp15×Int×Tp15×Bool×Int×Int×Tp8×Int×Int×Tp14×Tp15×Bool×Tp6->Option Tp3:=
  fun rec X=>zaJ (fun from' start signs p w has c c_1 c_2 c_3 c_4 c_5 c_6 c_7 l=>rec (from',start,signs,p,w,has,c,c_1,c_2,c_3,c_4,c_5,c_6,c_7,l)) X.1 X.2.1 X.2.2.1 X.2.2.2.1 X.2.2.2.2.1 X.2.2.2.2.2.1 X.2.2.2.2.2.2.1 X.2.2.2.2.2.2.2.1 X.2.2.2.2.2.2.2.2.1 X.2.2.2.2.2.2.2.2.2.1 X.2.2.2.2.2.2.2.2.2.2.1 X.2.2.2.2.2.2.2.2.2.2.2.1 X.2.2.2.2.2.2.2.2.2.2.2.2.1 X.2.2.2.2.2.2.2.2.2.2.2.2.2.1 X.2.2.2.2.2.2.2.2.2.2.2.2.2.2
def zaq (from':Int) (start:Int) (signs:Tp15) (p:Int) (w:Tp15) (has:Bool) (c:Int) (c_1:Int) (c_2:Tp8) (c_3:Int) (c_4:Int) (c_5:Tp14) (c_6:Tp15) (c_7:Bool) (l:Tp6):Option Tp3:=LFix zbU (from',start,signs,p,w,has,c,c_1,c_2,c_3,c_4,c_5,c_6,c_7,l)
theorem zh5:Cn zbU:=fun g h hg X=>zgP _ _ (fun from' start signs p w has c c_1 c_2 c_3 c_4 c_5 c_6 c_7 l=>hg (from',start,signs,p,w,has,c,c_1,c_2,c_3,c_4,c_5,c_6,c_7,l)) X.1 X.2.1 X.2.2.1 X.2.2.2.1 X.2.2.2.2.1 X.2.2.2.2.2.1 X.2.2.2.2.2.2.1 X.2.2.2.2.2.2.2.1 X.2.2.2.2.2.2.2.2.1 X.2.2.2.2.2.2.2.2.2.1 X.2.2.2.2.2.2.2.2.2.2.1 X.2.2.2.2.2.2.2.2.2.2.2.1 X.2.2.2.2.2.2.2.2.2.2.2.2.1 X.2.2.2.2.2.2.2.2.2.2.2.2.2.1 X.2.2.2.2.2.2.2.2.2.2.2.2.2.2
theorem zbC (from':Int) (start:Int) (signs:Tp15) (p:Int) (w:Tp15) (has:Bool) (c:Int) (c_1:Int) (c_2:Tp8) (c_3:Int) (c_4:Int) (c_5:Tp14) (c_6:Tp15) (c_7:Bool) (l:Tp6):zaq from' start signs p w has c c_1 c_2 c_3 c_4 c_5 c_6 c_7 l=zaJ zaq from' start signs p w has c c_1 c_2 c_3 c_4 c_5 c_6 c_7 l:=zaV zh5 (from',start,signs,p,w,has,c,c_1,c_2,c_3,c_4,c_5,c_6,c_7,l)

def zeR (from':Int) (start:Int) (signs:Tp15) (q:Int) (s:Int) (s_1:Int) (s_2:Tp8) (s_3:Int) (s_4:Int) (s_5:Tp14) (s_6:Tp15) (s_7:Bool) (l_1:Tp6) (r7:(Int->Int->Int->Tp8->Int->Int->Tp14->Tp15->Bool->Tp6->Option Tp3)) (ok:Bool) (x':Tp15):Option Tp3:=
  G (0<=(1:Int)/\(1:Int)<=(signs.length:Int)/\(signs.length:Int)<=(signs.length:Int)) (
  (zaq from' start (cut signs (1:Int) (signs.length:Int)) q x' ok s s_1 s_2 s_3 s_4 s_5 s_6 s_7 l_1).bind (fun y'_44=>
  G (fits (q+(1:Int))) (
  r7 (q+(1:Int)) y'_44.1 y'_44.2.1 y'_44.2.2.1 y'_44.2.2.2.1 y'_44.2.2.2.2.1 y'_44.2.2.2.2.2.1 y'_44.2.2.2.2.2.2.1 y'_44.2.2.2.2.2.2.2.2 y'_44.2.2.2.2.2.2.2.1)))
def zcL (from':Int) (start:Int) (signs:Tp15) (q:Int) (s:Int) (s_1:Int) (s_2:Tp8) (s_3:Int) (s_4:Int) (s_5:Tp14) (s_6:Tp15) (s_7:Bool) (l_1:Tp6) (r7:(Int->Int->Int->Tp8->Int->Int->Tp14->Tp15->Bool->Tp6->Option Tp3)) (y'_33:Int) (ok:Bool):Option Tp3:=
  if ok=true then
  G (room ([]:List Int) ([]:List Int) 8) (
  G (0<=y'_33/\y'_33 < (l_1.length:Int)) (
  G ((y'_33).toNat < l_1.length) (
  G (room ([]:List Int) ((((ix l_1 y'_33).2).2).1) 8) (
  zeR from' start signs q s s_1 s_2 s_3 s_4 s_5 s_6 s_7 l_1 r7 ok (([]:List Int)++((((ix l_1 y'_33).2).2).1)))))) else
  zeR from' start signs q s s_1 s_2 s_3 s_4 s_5 s_6 s_7 l_1 r7 ok ([])
def zh7 (from':Int) (start:Int) (signs:Tp15) (p:Int) (has:Bool) (r7:Tf8) (q:Int) (s:Int) (s_1:Int) (s_2:Tp8) (s_3:Int) (s_4:Int) (s_5:Tp14) (s_6:Tp15) (s_7:Bool) (l_1:Tp6):Option Tp3:=
  if (decide (q < (s_5.length:Int)))=true then
  G (0<=(0:Int)/\(0:Int) < (signs.length:Int)) (
  G (fits ((ix signs (0:Int)) - s)) (
  (zbb ((s,(s_1,(s_2,()))),((s_3,(s_4,(s_5,(s_6,())))),(l_1,(s_7,())))) ((ix signs (0:Int)) - s) p q).bind (fun y'_33=>
  G (0<=y'_33/\y'_33 < (l_1.length:Int)) (
  G ((y'_33).toNat < l_1.length) (
  if (!((ix l_1 y'_33).1))=true then
  G (fits (q+(1:Int))) (
  r7 (q+(1:Int)) s s_1 s_2 s_3 s_4 s_5 s_6 s_7 l_1) else
  if has=true then
  G (0<=y'_33/\y'_33 < (l_1.length:Int)) (
  G ((y'_33).toNat < l_1.length) (
  if (((ix l_1 y'_33).2).1)=true then
  G (0<=y'_33/\y'_33 < (l_1.length:Int)) (
  G ((y'_33).toNat < l_1.length) (
  G (fits ((0:Int)+(((((ix l_1 y'_33).2).2).1).length:Int))) (
  zcL from' start signs q s s_1 s_2 s_3 s_4 s_5 s_6 s_7 l_1 r7 y'_33 (decide (((0:Int)+(((((ix l_1 y'_33).2).2).1).length:Int))<=(60:Int)))))) else
  zcL from' start signs q s s_1 s_2 s_3 s_4 s_5 s_6 s_7 l_1 r7 y'_33 false)) else
  zcL from' start signs q s s_1 s_2 s_3 s_4 s_5 s_6 s_7 l_1 r7 y'_33 false))))) else
  some (s,s_1,s_2,s_3,s_4,s_5,s_6,l_1,s_7)
def zh8 (from':Int) (start:Int) (signs:Tp15) (p:Int) (has:Bool):(Int×Int×Int×Tp8×Int×Int×Tp14×Tp15×Bool×Tp6->Option Tp3)->Int×Int×Int×Tp8×Int×Int×Tp14×Tp15×Bool×Tp6->Option Tp3:=
  fun rec x=>zh7 from' start signs p has (fun q s s_1 s_2 s_3 s_4 s_5 s_6 s_7 l_1=>rec (q,s,s_1,s_2,s_3,s_4,s_5,s_6,s_7,l_1)) x.1 x.2.1 x.2.2.1 x.2.2.2.1 x.2.2.2.2.1 x.2.2.2.2.2.1 x.2.2.2.2.2.2.1 x.2.2.2.2.2.2.2.1 x.2.2.2.2.2.2.2.2.1 x.2.2.2.2.2.2.2.2.2
def zjH (from':Int) (start:Int) (signs:Tp15) (p:Int) (has:Bool) (q:Int) (s:Int) (s_1:Int) (s_2:Tp8) (s_3:Int) (s_4:Int) (s_5:Tp14) (s_6:Tp15) (s_7:Bool) (l_1:Tp6):Option Tp3:=LFix (zh8 from' start signs p has ) (q,s,s_1,s_2,s_3,s_4,s_5,s_6,s_7,l_1)
def zeQ (from':Int) (start:Int) (signs:Tp15) (p:Int) (has:Bool) (c:Int) (c_1:Int) (c_2:Tp8) (c_3:Int) (c_4:Int) (c_5:Tp14) (c_6:Tp15) (c_7:Bool) (l:Tp6):Option Tp3:=
  if (decide ((signs.length:Int)=(0:Int)))=true then
  (zis from' start p has c c_1 c_2 c_3 c_4 c_5 c_6 c_7 l).bind (fun y'_10=>
  some (y'_10.1,y'_10.2.1,y'_10.2.2.1,y'_10.2.2.2.1,y'_10.2.2.2.2.1,y'_10.2.2.2.2.2.1,y'_10.2.2.2.2.2.2.1,y'_10.2.2.2.2.2.2.2.1,y'_10.2.2.2.2.2.2.2.2)) else
  G (0<=(0:Int)/\(0:Int) < (signs.length:Int)) (
  if (decide ((ix signs (0:Int)) < c))=true then
  G (room ([]:List Int) ([]:List Int) 8) (
  G (0<=(0:Int)/\(0:Int) < (signs.length:Int)) (
  G (room (([]:List Int)++([]:List Int)) ([ix signs (0:Int)]) 8) (
  G (0<=(1:Int)/\(1:Int)<=(signs.length:Int)/\(signs.length:Int)<=(signs.length:Int)) (
  G (0<=p/\p < (c_5.length:Int)) (
  G (0<=(0:Int)/\(0:Int) < (signs.length:Int)) (
  G (0<=ix signs (0:Int)/\ix signs (0:Int) < ((ix c_5 p).length:Int)) (
  if has=true then
  (zaq from' start (cut signs (1:Int) (signs.length:Int)) (ix (ix c_5 p) (ix signs (0:Int))) ((([]:List Int)++([]:List Int))++([ix signs (0:Int)])) (decide ((((([]:List Int)++([]:List Int))++([ix signs (0:Int)])).length:Int)<=(60:Int))) c c_1 c_2 c_3 c_4 c_5 c_6 c_7 l).bind (fun y'_21=>
  some (y'_21.1,y'_21.2.1,y'_21.2.2.1,y'_21.2.2.2.1,y'_21.2.2.2.2.1,y'_21.2.2.2.2.2.1,y'_21.2.2.2.2.2.2.1,y'_21.2.2.2.2.2.2.2.1,y'_21.2.2.2.2.2.2.2.2)) else
  (zaq from' start (cut signs (1:Int) (signs.length:Int)) (ix (ix c_5 p) (ix signs (0:Int))) ((([]:List Int)++([]:List Int))++([ix signs (0:Int)])) false c c_1 c_2 c_3 c_4 c_5 c_6 c_7 l).bind (fun y'_32=>
  some (y'_32.1,y'_32.2.1,y'_32.2.2.1,y'_32.2.2.2.1,y'_32.2.2.2.2.1,y'_32.2.2.2.2.2.1,y'_32.2.2.2.2.2.2.1,y'_32.2.2.2.2.2.2.2.1,y'_32.2.2.2.2.2.2.2.2))))))))) else
  zjH from' start signs p has (0:Int) c c_1 c_2 c_3 c_4 c_5 c_6 c_7 l)
def zbz (g':Tp4) (d:Tp5) (k:Int) (r6:(Int->Int->Int->Tp8->Int->Int->Tp14->Tp15->Bool->Tp6->Option Tp10)) (r9:Tf7) (p:Int) (s_16:Int) (s_17:Int) (s_18:Tp8) (s_19:Int) (s_20:Int) (s_21:Tp14) (s_22:Tp15) (s_23:Bool) (l_2:Tp6):Option Tp10:=
  if (decide (p < (d.2.2.1.length:Int)))=true then
  G (0<=k/\k < (g'.2.2.1.length:Int)) (
  G (0<=k/\k < (g'.2.2.1.length:Int)) (
  (zeQ ((ix g'.2.2.1 k).1) p (((ix g'.2.2.1 k).2).1) p true s_16 s_17 s_18 s_19 s_20 s_21 s_22 s_23 l_2).bind (fun y'_10=>
  G (fits (p+(1:Int))) (
  r9 (p+(1:Int)) y'_10.1 y'_10.2.1 y'_10.2.2.1 y'_10.2.2.2.1 y'_10.2.2.2.2.1 y'_10.2.2.2.2.2.1 y'_10.2.2.2.2.2.2.1 y'_10.2.2.2.2.2.2.2.2 y'_10.2.2.2.2.2.2.2.1)))) else
  G (fits (k+(1:Int))) (
  r6 (k+(1:Int)) s_16 s_17 s_18 s_19 s_20 s_21 s_22 s_23 l_2)
def zir (g':Tp4) (d:Tp5) (k:Int) (r6:(Int->Int->Int->Tp8->Int->Int->Tp14->Tp15->Bool->Tp6->Option Tp10)):(Int×Int×Int×Tp8×Int×Int×Tp14×Tp15×Bool×Tp6->Option Tp10)->Int×Int×Int×Tp8×Int×Int×Tp14×Tp15×Bool×Tp6->Option Tp10:=
  fun rec x=>zbz g' d k r6 (fun p s_16 s_17 s_18 s_19 s_20 s_21 s_22 s_23 l_2=>rec (p,s_16,s_17,s_18,s_19,s_20,s_21,s_22,s_23,l_2)) x.1 x.2.1 x.2.2.1 x.2.2.2.1 x.2.2.2.2.1 x.2.2.2.2.2.1 x.2.2.2.2.2.2.1 x.2.2.2.2.2.2.2.1 x.2.2.2.2.2.2.2.2.1 x.2.2.2.2.2.2.2.2.2
def zcb (g':Tp4) (d:Tp5) (k:Int) (r6:(Int->Int->Int->Tp8->Int->Int->Tp14->Tp15->Bool->Tp6->Option Tp10)) (p:Int) (s_16:Int) (s_17:Int) (s_18:Tp8) (s_19:Int) (s_20:Int) (s_21:Tp14) (s_22:Tp15) (s_23:Bool) (l_2:Tp6):Option Tp10:=LFix (zir g' d k r6 ) (p,s_16,s_17,s_18,s_19,s_20,s_21,s_22,s_23,l_2)
def zby (g':Tp4) (d:Tp5) (r3:(Int->Int->Tp8->Int->Int->Tp14->Tp15->Bool->Tp6->Option Tp10)) (r6:Tf7) (k:Int) (s_8:Int) (s_9:Int) (s_10:Tp8) (s_11:Int) (s_12:Int) (s_13:Tp14) (s_14:Tp15) (s_15:Bool) (l_1:Tp6):Option Tp10:=
  if (decide (k < (g'.2.2.1.length:Int)))=true then
  zcb g' d k r6 (0:Int) s_8 s_9 s_10 s_11 s_12 s_13 s_14 s_15 l_1 else
  r3 s_8 s_9 s_10 s_11 s_12 s_13 s_14 s_15 l_1
def ziq (g':Tp4) (d:Tp5) (r3:(Int->Int->Tp8->Int->Int->Tp14->Tp15->Bool->Tp6->Option Tp10)):(Int×Int×Int×Tp8×Int×Int×Tp14×Tp15×Bool×Tp6->Option Tp10)->Int×Int×Int×Tp8×Int×Int×Tp14×Tp15×Bool×Tp6->Option Tp10:=
  fun rec x=>zby g' d r3 (fun k s_8 s_9 s_10 s_11 s_12 s_13 s_14 s_15 l_1=>rec (k,s_8,s_9,s_10,s_11,s_12,s_13,s_14,s_15,l_1)) x.1 x.2.1 x.2.2.1 x.2.2.2.1 x.2.2.2.2.1 x.2.2.2.2.2.1 x.2.2.2.2.2.2.1 x.2.2.2.2.2.2.2.1 x.2.2.2.2.2.2.2.2.1 x.2.2.2.2.2.2.2.2.2
def zbO (g':Tp4) (d:Tp5) (r3:(Int->Int->Tp8->Int->Int->Tp14->Tp15->Bool->Tp6->Option Tp10)) (k:Int) (s_8:Int) (s_9:Int) (s_10:Tp8) (s_11:Int) (s_12:Int) (s_13:Tp14) (s_14:Tp15) (s_15:Bool) (l_1:Tp6):Option Tp10:=LFix (ziq g' d r3 ) (k,s_8,s_9,s_10,s_11,s_12,s_13,s_14,s_15,l_1)
def zbu (d:Tp5) (best:Tp15) (any:Bool) (has:Bool) (q:Int) (r16:(Tp15->Bool->Bool->Int->Option Tp10)) (x':Bool) (x'_1:Bool) (x'_2:Tp15):Option Tp10:=
  G (0<=q/\q < (d.2.2.2.1.length:Int)) (
  if (decide ((ix d.2.2.2.1 q)=(0:Int)))=true then
  G (fits (q+(1:Int))) (
  r16 best any has (q+(1:Int))) else
  if (!x')=true then
  G (fits (q+(1:Int))) (
  r16 best any has (q+(1:Int))) else
  (zdY x'_2 best).bind (fun y'_12=>
  if x'_1=true then
  if (!has)=true then
  G (fits (q+(1:Int))) (
  r16 x'_2 true true (q+(1:Int))) else
  if y'_12=true then
  G (fits (q+(1:Int))) (
  r16 x'_2 true true (q+(1:Int))) else
  G (fits (q+(1:Int))) (
  r16 best true has (q+(1:Int))) else
  G (fits (q+(1:Int))) (
  r16 best true has (q+(1:Int)))))
def zbo (d:Tp5) (s:Int) (s_1:Int) (s_2:Tp8) (s_3:Int) (s_4:Int) (s_5:Tp14) (s_6:Tp15) (s_7:Bool) (l:Tp6) (r16:Tf11) (best:Tp15) (any:Bool) (has:Bool) (q:Int):Option Tp10:=
  if (decide (q < (d.2.2.1.length:Int)))=true then
  both [(.list (.int .i64)),.bool,.bool] (
  (zbb ((s,(s_1,(s_2,()))),((s_3,(s_4,(s_5,(s_6,())))),(l,(s_7,())))) (0:Int) d.2.1 q).bind (fun y'_11=>
  G (0<=y'_11/\y'_11 < (l.length:Int)) (
  G ((y'_11).toNat < l.length) (
  zbu d best any has q r16 ((ix l y'_11).1) (((ix l y'_11).2).1) ((((ix l y'_11).2).2).1))))) (
  (zbb ((s,(s_1,(s_2,()))),((s_3,(s_4,(s_5,(s_6,())))),(l,(s_7,())))) (0:Int) d.2.1 q).bind (fun y'_13=>
  G (0<=y'_13/\y'_13 < (l.length:Int)) (
  G ((y'_13).toNat < l.length) (
  zbu d best any has q r16 ((ix l y'_13).1) (((ix l y'_13).2).1) ((((ix l y'_13).2).2).1))))) else
  some (best,any,has)
def zhu (d:Tp5) (s:Int) (s_1:Int) (s_2:Tp8) (s_3:Int) (s_4:Int) (s_5:Tp14) (s_6:Tp15) (s_7:Bool) (l:Tp6):(Tp15×Bool×Bool×Int->Option Tp10)->Tp15×Bool×Bool×Int->Option Tp10:=
  fun rec x=>zbo d s s_1 s_2 s_3 s_4 s_5 s_6 s_7 l (fun best any has q=>rec (best,any,has,q)) x.1 x.2.1 x.2.2.1 x.2.2.2
def zaE (d:Tp5) (s:Int) (s_1:Int) (s_2:Tp8) (s_3:Int) (s_4:Int) (s_5:Tp14) (s_6:Tp15) (s_7:Bool) (l:Tp6) (best:Tp15) (any:Bool) (has:Bool) (q:Int):Option Tp10:=LFix (zhu d s s_1 s_2 s_3 s_4 s_5 s_6 s_7 l ) (best,any,has,q)
def zb1 (g':Tp4) (d:Tp5) (r3:Tf9) (s:Int) (s_1:Int) (s_2:Tp8) (s_3:Int) (s_4:Int) (s_5:Tp14) (s_6:Tp15) (s_7:Bool) (l:Tp6):Option Tp10:=
  if s_7=true then
  zbO g' d r3 (0:Int) s s_1 s_2 s_3 s_4 s_5 s_6 false l else
  zaE d s s_1 s_2 s_3 s_4 s_5 s_6 s_7 l ([]) false false (0:Int)
def zio (g':Tp4) (d:Tp5):(Int×Int×Tp8×Int×Int×Tp14×Tp15×Bool×Tp6->Option Tp10)->Int×Int×Tp8×Int×Int×Tp14×Tp15×Bool×Tp6->Option Tp10:=
  fun rec x=>zb1 g' d (fun s s_1 s_2 s_3 s_4 s_5 s_6 s_7 l=>rec (s,s_1,s_2,s_3,s_4,s_5,s_6,s_7,l)) x.1 x.2.1 x.2.2.1 x.2.2.2.1 x.2.2.2.2.1 x.2.2.2.2.2.1 x.2.2.2.2.2.2.1 x.2.2.2.2.2.2.2.1 x.2.2.2.2.2.2.2.2
def zdV (g':Tp4) (d:Tp5) (s:Int) (s_1:Int) (s_2:Tp8) (s_3:Int) (s_4:Int) (s_5:Tp14) (s_6:Tp15) (s_7:Bool) (l:Tp6):Option Tp10:=LFix (zio g' d ) (s,s_1,s_2,s_3,s_4,s_5,s_6,s_7,l)
def zjD (g':Tp4) (d:Tp5):Option Tp10:=
  G (fits (g'.2.1 * (d.2.2.1.length:Int))) (
  G (fits ((g'.2.1 * (d.2.2.1.length:Int)) * (d.2.2.1.length:Int))) (
  G (mkOK ((g'.2.1 * (d.2.2.1.length:Int)) * (d.2.2.1.length:Int)) ((g'.2.1 * (d.2.2.1.length:Int)) * (d.2.2.1.length:Int)) 32) (
  zdV g' d g'.1 g'.2.1 g'.2.2.1 d.1 d.2.1 d.2.2.1 d.2.2.2.1 true (List.replicate ((g'.2.1 * (d.2.2.1.length:Int)) * (d.2.2.1.length:Int)).toNat ((false,(false,([],()))):Bool×Bool×Tp15×Unit)))))
theorem zfQ (r6:Nat->Tf7) (r6':Tf7) (h_r6:∀ a0 a1 a2 a3 a4 a5 a6 a7 a8 a9,ChO (fun κ=>r6 κ a0 a1 a2 a3 a4 a5 a6 a7 a8 a9) (r6' a0 a1 a2 a3 a4 a5 a6 a7 a8 a9)) (r9:Nat->Tf7) (r9':Tf7) (h_r9:∀ a0 a1 a2 a3 a4 a5 a6 a7 a8 a9,ChO (fun κ=>r9 κ a0 a1 a2 a3 a4 a5 a6 a7 a8 a9) (r9' a0 a1 a2 a3 a4 a5 a6 a7 a8 a9)) (g':Tp4) (d:Tp5) (k:Int) (p:Int) (s_16:Int) (s_17:Int) (s_18:Tp8) (s_19:Int) (s_20:Int) (s_21:Tp14) (s_22:Tp15) (s_23:Bool) (l_2:Tp6):ChO (fun κ=>zbz g' d k (r6 κ) (r9 κ) p s_16 s_17 s_18 s_19 s_20 s_21 s_22 s_23 l_2) (zbz g' d k r6' r9' p s_16 s_17 s_18 s_19 s_20 s_21 s_22 s_23 l_2):=by
  unfold zbz
  repeat' with_reducible first | exact ChO.const _ | exact h_r6 _ _ _ _ _ _ _ _ _ _ | exact h_r9 _ _ _ _ _ _ _ _ _ _ | apply ChO.ite | apply ChO.G | apply ChO.both | (apply ChO.bind;intro _)
theorem zeO (r6:Tf7) (g':Tp4) (d:Tp5) (k:Int):Cn (zir g' d k r6):=fun g h hg x=>zfQ (fun _=>r6) r6 (fun _ _ _ _ _ _ _ _ _ _=>ChO.const _) (fun κ p s_16 s_17 s_18 s_19 s_20 s_21 s_22 s_23 l_2=>g κ (p,s_16,s_17,s_18,s_19,s_20,s_21,s_22,s_23,l_2)) (fun p s_16 s_17 s_18 s_19 s_20 s_21 s_22 s_23 l_2=>h (p,s_16,s_17,s_18,s_19,s_20,s_21,s_22,s_23,l_2)) (fun p s_16 s_17 s_18 s_19 s_20 s_21 s_22 s_23 l_2=>hg (p,s_16,s_17,s_18,s_19,s_20,s_21,s_22,s_23,l_2)) g' d k x.1 x.2.1 x.2.2.1 x.2.2.2.1 x.2.2.2.2.1 x.2.2.2.2.2.1 x.2.2.2.2.2.2.1 x.2.2.2.2.2.2.2.1 x.2.2.2.2.2.2.2.2.1 x.2.2.2.2.2.2.2.2.2
theorem zhx (r6:Tf7) (g':Tp4) (d:Tp5) (k:Int) (p:Int) (s_16:Int) (s_17:Int) (s_18:Tp8) (s_19:Int) (s_20:Int) (s_21:Tp14) (s_22:Tp15) (s_23:Bool) (l_2:Tp6):zcb g' d k r6 p s_16 s_17 s_18 s_19 s_20 s_21 s_22 s_23 l_2=zbz g' d k r6 (zcb g' d k r6) p s_16 s_17 s_18 s_19 s_20 s_21 s_22 s_23 l_2:=zaV (zeO r6 g' d k) (p,s_16,s_17,s_18,s_19,s_20,s_21,s_22,s_23,l_2)
theorem zc7 (r6:Nat->Tf7) (r6':Tf7) (h_r6:∀ a0 a1 a2 a3 a4 a5 a6 a7 a8 a9,ChO (fun κ=>r6 κ a0 a1 a2 a3 a4 a5 a6 a7 a8 a9) (r6' a0 a1 a2 a3 a4 a5 a6 a7 a8 a9)) (g':Tp4) (d:Tp5) (k:Int) (p:Int) (s_16:Int) (s_17:Int) (s_18:Tp8) (s_19:Int) (s_20:Int) (s_21:Tp14) (s_22:Tp15) (s_23:Bool) (l_2:Tp6):ChO (fun κ=>zcb g' d k (r6 κ) p s_16 s_17 s_18 s_19 s_20 s_21 s_22 s_23 l_2) (zcb g' d k r6' p s_16 s_17 s_18 s_19 s_20 s_21 s_22 s_23 l_2):=by
  unfold zcb
  exact zgV (fun κ=>(zeO (r6 κ) g' d k).mono) (zeO r6' g' d k).mono (fun g h hg x=>zfQ r6 r6' h_r6 (fun κ p s_16 s_17 s_18 s_19 s_20 s_21 s_22 s_23 l_2=>g κ (p,s_16,s_17,s_18,s_19,s_20,s_21,s_22,s_23,l_2)) (fun p s_16 s_17 s_18 s_19 s_20 s_21 s_22 s_23 l_2=>h (p,s_16,s_17,s_18,s_19,s_20,s_21,s_22,s_23,l_2)) (fun p s_16 s_17 s_18 s_19 s_20 s_21 s_22 s_23 l_2=>hg (p,s_16,s_17,s_18,s_19,s_20,s_21,s_22,s_23,l_2)) g' d k x.1 x.2.1 x.2.2.1 x.2.2.2.1 x.2.2.2.2.1 x.2.2.2.2.2.1 x.2.2.2.2.2.2.1 x.2.2.2.2.2.2.2.1 x.2.2.2.2.2.2.2.2.1 x.2.2.2.2.2.2.2.2.2) _
theorem zfP (r3:Nat->Tf9) (r3':Tf9) (h_r3:∀ a0 a1 a2 a3 a4 a5 a6 a7 a8,ChO (fun κ=>r3 κ a0 a1 a2 a3 a4 a5 a6 a7 a8) (r3' a0 a1 a2 a3 a4 a5 a6 a7 a8)) (r6:Nat->Tf7) (r6':Tf7) (h_r6:∀ a0 a1 a2 a3 a4 a5 a6 a7 a8 a9,ChO (fun κ=>r6 κ a0 a1 a2 a3 a4 a5 a6 a7 a8 a9) (r6' a0 a1 a2 a3 a4 a5 a6 a7 a8 a9)) (g':Tp4) (d:Tp5) (k:Int) (s_8:Int) (s_9:Int) (s_10:Tp8) (s_11:Int) (s_12:Int) (s_13:Tp14) (s_14:Tp15) (s_15:Bool) (l_1:Tp6):ChO (fun κ=>zby g' d (r3 κ) (r6 κ) k s_8 s_9 s_10 s_11 s_12 s_13 s_14 s_15 l_1) (zby g' d r3' r6' k s_8 s_9 s_10 s_11 s_12 s_13 s_14 s_15 l_1):=by
  unfold zby
  repeat' with_reducible first | exact ChO.const _ | exact h_r3 _ _ _ _ _ _ _ _ _ | exact h_r6 _ _ _ _ _ _ _ _ _ _ | (apply zc7<;>assumption) | apply ChO.ite | apply ChO.G | apply ChO.both | (apply ChO.bind;intro _)
theorem zeN (r3:Tf9) (g':Tp4) (d:Tp5):Cn (ziq g' d r3):=fun g h hg x=>zfP (fun _=>r3) r3 (fun _ _ _ _ _ _ _ _ _=>ChO.const _) (fun κ k s_8 s_9 s_10 s_11 s_12 s_13 s_14 s_15 l_1=>g κ (k,s_8,s_9,s_10,s_11,s_12,s_13,s_14,s_15,l_1)) (fun k s_8 s_9 s_10 s_11 s_12 s_13 s_14 s_15 l_1=>h (k,s_8,s_9,s_10,s_11,s_12,s_13,s_14,s_15,l_1)) (fun k s_8 s_9 s_10 s_11 s_12 s_13 s_14 s_15 l_1=>hg (k,s_8,s_9,s_10,s_11,s_12,s_13,s_14,s_15,l_1)) g' d x.1 x.2.1 x.2.2.1 x.2.2.2.1 x.2.2.2.2.1 x.2.2.2.2.2.1 x.2.2.2.2.2.2.1 x.2.2.2.2.2.2.2.1 x.2.2.2.2.2.2.2.2.1 x.2.2.2.2.2.2.2.2.2
theorem zhw (r3:Tf9) (g':Tp4) (d:Tp5) (k:Int) (s_8:Int) (s_9:Int) (s_10:Tp8) (s_11:Int) (s_12:Int) (s_13:Tp14) (s_14:Tp15) (s_15:Bool) (l_1:Tp6):zbO g' d r3 k s_8 s_9 s_10 s_11 s_12 s_13 s_14 s_15 l_1=zby g' d r3 (zbO g' d r3) k s_8 s_9 s_10 s_11 s_12 s_13 s_14 s_15 l_1:=zaV (zeN r3 g' d) (k,s_8,s_9,s_10,s_11,s_12,s_13,s_14,s_15,l_1)
theorem zeM (r3:Nat->Tf9) (r3':Tf9) (h_r3:∀ a0 a1 a2 a3 a4 a5 a6 a7 a8,ChO (fun κ=>r3 κ a0 a1 a2 a3 a4 a5 a6 a7 a8) (r3' a0 a1 a2 a3 a4 a5 a6 a7 a8)) (g':Tp4) (d:Tp5) (k:Int) (s_8:Int) (s_9:Int) (s_10:Tp8) (s_11:Int) (s_12:Int) (s_13:Tp14) (s_14:Tp15) (s_15:Bool) (l_1:Tp6):ChO (fun κ=>zbO g' d (r3 κ) k s_8 s_9 s_10 s_11 s_12 s_13 s_14 s_15 l_1) (zbO g' d r3' k s_8 s_9 s_10 s_11 s_12 s_13 s_14 s_15 l_1):=by
  unfold zbO
  exact zgV (fun κ=>(zeN (r3 κ) g' d).mono) (zeN r3' g' d).mono (fun g h hg x=>zfP r3 r3' h_r3 (fun κ k s_8 s_9 s_10 s_11 s_12 s_13 s_14 s_15 l_1=>g κ (k,s_8,s_9,s_10,s_11,s_12,s_13,s_14,s_15,l_1)) (fun k s_8 s_9 s_10 s_11 s_12 s_13 s_14 s_15 l_1=>h (k,s_8,s_9,s_10,s_11,s_12,s_13,s_14,s_15,l_1)) (fun k s_8 s_9 s_10 s_11 s_12 s_13 s_14 s_15 l_1=>hg (k,s_8,s_9,s_10,s_11,s_12,s_13,s_14,s_15,l_1)) g' d x.1 x.2.1 x.2.2.1 x.2.2.2.1 x.2.2.2.2.1 x.2.2.2.2.2.1 x.2.2.2.2.2.2.1 x.2.2.2.2.2.2.2.1 x.2.2.2.2.2.2.2.2.1 x.2.2.2.2.2.2.2.2.2) _
theorem zgE (r16:Nat->Tf11) (r16':Tf11) (h_r16:∀ a0 a1 a2 a3,ChO (fun κ=>r16 κ a0 a1 a2 a3) (r16' a0 a1 a2 a3)) (d:Tp5) (best:Tp15) (any:Bool) (has:Bool) (q:Int) (x':Bool) (x'_1:Bool) (x'_2:Tp15):ChO (fun κ=>zbu d best any has q (r16 κ) x' x'_1 x'_2) (zbu d best any has q r16' x' x'_1 x'_2):=by
  unfold zbu
  repeat' with_reducible first | exact ChO.const _ | exact h_r16 _ _ _ _ | (apply zc7<;>assumption) | (apply zeM<;>assumption) | apply ChO.ite | apply ChO.G | apply ChO.both | (apply ChO.bind;intro _)
theorem zjE (r16:Nat->Tf11) (r16':Tf11) (h_r16:∀ a0 a1 a2 a3,ChO (fun κ=>r16 κ a0 a1 a2 a3) (r16' a0 a1 a2 a3)) (d:Tp5) (s:Int) (s_1:Int) (s_2:Tp8) (s_3:Int) (s_4:Int) (s_5:Tp14) (s_6:Tp15) (s_7:Bool) (l:Tp6) (best:Tp15) (any:Bool) (has:Bool) (q:Int):ChO (fun κ=>zbo d s s_1 s_2 s_3 s_4 s_5 s_6 s_7 l (r16 κ) best any has q) (zbo d s s_1 s_2 s_3 s_4 s_5 s_6 s_7 l r16' best any has q):=by
  unfold zbo
  repeat' with_reducible first | exact ChO.const _ | exact h_r16 _ _ _ _ | (apply zc7<;>assumption) | (apply zeM<;>assumption) | (apply zgE<;>assumption) | apply ChO.ite | apply ChO.G | apply ChO.both | (apply ChO.bind;intro _)
theorem zkV  (d:Tp5) (s:Int) (s_1:Int) (s_2:Tp8) (s_3:Int) (s_4:Int) (s_5:Tp14) (s_6:Tp15) (s_7:Bool) (l:Tp6):Cn (zhu d s s_1 s_2 s_3 s_4 s_5 s_6 s_7 l):=fun g h hg x=>zjE  (fun κ best any has q=>g κ (best,any,has,q)) (fun best any has q=>h (best,any,has,q)) (fun best any has q=>hg (best,any,has,q)) d s s_1 s_2 s_3 s_4 s_5 s_6 s_7 l x.1 x.2.1 x.2.2.1 x.2.2.2
theorem zgF  (d:Tp5) (s:Int) (s_1:Int) (s_2:Tp8) (s_3:Int) (s_4:Int) (s_5:Tp14) (s_6:Tp15) (s_7:Bool) (l:Tp6) (best:Tp15) (any:Bool) (has:Bool) (q:Int):zaE d s s_1 s_2 s_3 s_4 s_5 s_6 s_7 l best any has q=zbo d s s_1 s_2 s_3 s_4 s_5 s_6 s_7 l (zaE d s s_1 s_2 s_3 s_4 s_5 s_6 s_7 l) best any has q:=zaV (zkV d s s_1 s_2 s_3 s_4 s_5 s_6 s_7 l) (best,any,has,q)
theorem zj9 (r3:Nat->Tf9) (r3':Tf9) (h_r3:∀ a0 a1 a2 a3 a4 a5 a6 a7 a8,ChO (fun κ=>r3 κ a0 a1 a2 a3 a4 a5 a6 a7 a8) (r3' a0 a1 a2 a3 a4 a5 a6 a7 a8)) (g':Tp4) (d:Tp5) (s:Int) (s_1:Int) (s_2:Tp8) (s_3:Int) (s_4:Int) (s_5:Tp14) (s_6:Tp15) (s_7:Bool) (l:Tp6):ChO (fun κ=>zb1 g' d (r3 κ) s s_1 s_2 s_3 s_4 s_5 s_6 s_7 l) (zb1 g' d r3' s s_1 s_2 s_3 s_4 s_5 s_6 s_7 l):=by
  unfold zb1
  repeat' with_reducible first | exact ChO.const _ | exact h_r3 _ _ _ _ _ _ _ _ _ | (apply zc7<;>assumption) | (apply zeM<;>assumption) | (apply zgE<;>assumption) | apply ChO.ite | apply ChO.G | apply ChO.both | (apply ChO.bind;intro _)
theorem zlV  (g':Tp4) (d:Tp5):Cn (zio g' d):=fun g h hg x=>zj9  (fun κ s s_1 s_2 s_3 s_4 s_5 s_6 s_7 l=>g κ (s,s_1,s_2,s_3,s_4,s_5,s_6,s_7,l)) (fun s s_1 s_2 s_3 s_4 s_5 s_6 s_7 l=>h (s,s_1,s_2,s_3,s_4,s_5,s_6,s_7,l)) (fun s s_1 s_2 s_3 s_4 s_5 s_6 s_7 l=>hg (s,s_1,s_2,s_3,s_4,s_5,s_6,s_7,l)) g' d x.1 x.2.1 x.2.2.1 x.2.2.2.1 x.2.2.2.2.1 x.2.2.2.2.2.1 x.2.2.2.2.2.2.1 x.2.2.2.2.2.2.2.1 x.2.2.2.2.2.2.2.2
theorem zhv  (g':Tp4) (d:Tp5) (s:Int) (s_1:Int) (s_2:Tp8) (s_3:Int) (s_4:Int) (s_5:Tp14) (s_6:Tp15) (s_7:Bool) (l:Tp6):zdV g' d s s_1 s_2 s_3 s_4 s_5 s_6 s_7 l=zb1 g' d (zdV g' d) s s_1 s_2 s_3 s_4 s_5 s_6 s_7 l:=zaV (zlV g' d) (s,s_1,s_2,s_3,s_4,s_5,s_6,s_7,l)

def zbW (a:Tp15) (b:Tp15) (r4:Int->Option (Bool)) (i:Int):Option (Bool):=
  if (decide (i < (a.length:Int)))=true then
  G (0<=i/\i < (a.length:Int)) (
  G (0<=i/\i < (b.length:Int)) (
  if (decide (¬ (ix a i)=(ix b i)))=true then
  some false else
  G (fits (i+(1:Int))) (
  r4 (i+(1:Int))))) else
  some true
def zjL (a:Tp15) (b:Tp15):(Int->Option (Bool))->Int->Option (Bool):=
  fun rec x=>zbW a b (fun i=>rec i) x
def zgt (a:Tp15) (b:Tp15) (i:Int):Option (Bool):=LFix (zjL a b ) i
def zh1 (a:Tp15) (b:Tp15):Option (Bool):=
  if (decide (¬ (a.length:Int)=(b.length:Int)))=true then
  some false else
  zgt a b (0:Int)
theorem zkW (r4:Nat->Int->Option (Bool)) (r4':Int->Option (Bool)) (h_r4:∀ a0,ChO (fun κ=>r4 κ a0) (r4' a0)) (a:Tp15) (b:Tp15) (i:Int):ChO (fun κ=>zbW a b (r4 κ) i) (zbW a b r4' i):=by
  unfold zbW
  repeat' with_reducible first | exact ChO.const _ | exact h_r4 _ | apply ChO.ite | apply ChO.G | apply ChO.both | (apply ChO.bind;intro _)
theorem zmp  (a:Tp15) (b:Tp15):Cn (zjL a b):=fun g h hg x=>zkW  (fun κ i=>g κ i) (fun i=>h i) (fun i=>hg i) a b x
theorem ziu  (a:Tp15) (b:Tp15) (i:Int):zgt a b i=zbW a b (zgt a b) i:=zaV (zmp a b) i

def zbZ (y':Tp15) (y'_1:Bool) (y'_2:Int) (y'_6:Tp15) (y'_7:Bool) (t_2:Bool):Option (Bool):=
  if t_2=true then
  if (decide (y'_2=(7:Int)))=true then
  if (!y'_1)=true then
  some (decide ((y'.length:Int)=(0:Int))) else
  some false else
  some false else
  (zh1 y' y'_6).bind (fun y'_10=>
  if (decide (y'_2=(0:Int)))=true then
  if (decide (y'_1=y'_7))=true then
  some y'_10 else
  some false else
  some false)
def zb8 (g':Tp4) (d:Tp5) (y':Tp15) (y'_1:Bool) (y'_2:Int) (no_2:Int):Option (Bool):=
  if (decide (no_2=(0:Int)))=true then
  (zjD (g'.1,(g'.2.1,(g'.2.2.1,()))) (d.1,(d.2.1,(d.2.2.1,(d.2.2.2.1,()))))).bind (fun y'_11=>
  if y'_11.2.1=true then
  zbZ y' y'_1 y'_2 y'_11.1 y'_11.2.1 (!y'_11.2.2) else
  zbZ y' y'_1 y'_2 y'_11.1 y'_11.2.1 false) else
  if (decide (y'_2=no_2))=true then
  if (!y'_1)=true then
  some (decide ((y'.length:Int)=(0:Int))) else
  some false else
  some false
def zbI (g':Tp4) (d:Tp5) (y':Tp15) (y'_1:Bool) (y'_2:Int) (no_1:Int) (t_1:Bool):Option (Bool):=
  if t_1=true then
  zb8 g' d y' y'_1 y'_2 (1:Int) else
  zb8 g' d y' y'_1 y'_2 no_1
def zbH (g':Tp4) (d:Tp5) (y':Tp15) (y'_1:Bool) (y'_2:Int) (no_1:Int):Option (Bool):=
  if (decide (no_1=(0:Int)))=true then
  zbI g' d y' y'_1 y'_2 no_1 (decide ((4:Int) < (d.2.2.1.length:Int))) else
  zbI g' d y' y'_1 y'_2 no_1 false
def zbG (g':Tp4) (d:Tp5) (y':Tp15) (y'_1:Bool) (y'_2:Int) (no:Int) (t:Bool):Option (Bool):=
  if t=true then
  zbH g' d y' y'_1 y'_2 (3:Int) else
  zbH g' d y' y'_1 y'_2 no
def zbn (g':Tp4) (d:Tp5) (y':Tp15) (y'_1:Bool) (y'_2:Int) (no:Int):Option (Bool):=
  if (decide (no=(0:Int)))=true then
  zbG g' d y' y'_1 y'_2 no (decide (¬ g'.1=d.1)) else
  zbG g' d y' y'_1 y'_2 no false
def zhn (g':Tp4) (d:Tp5):Option (Bool):=
  (zlC (g'.1,(g'.2.1,(g'.2.2.1,()))) (d.1,(d.2.1,(d.2.2.1,(d.2.2.2.1,()))))).bind (fun y'_12=>
  (zjA (g'.1,(g'.2.1,(g'.2.2.1,())))).bind (fun y'_4=>
  if (decide (y'_4=(0:Int)))=true then
  (zjM (d.1,(d.2.1,(d.2.2.1,(d.2.2.2.1,()))))).bind (fun y'_5=>
  zbn g' d y'_12.1 y'_12.2.1 y'_12.2.2 y'_5) else
  zbn g' d y'_12.1 y'_12.2.1 y'_12.2.2 y'_4))

end
end Go.Proofs.Ytfboagjnknollaa.gramBothW
