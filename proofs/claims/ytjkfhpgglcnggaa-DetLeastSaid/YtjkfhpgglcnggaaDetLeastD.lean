/- What the functions that 'DetLeast' reaches compute: plain functions. -/
import Derived.Test.YtjkfhpgglcnggaaEv33n21
set_option maxHeartbeats 1000000
set_option maxRecDepth 20000
set_option linter.unusedSimpArgs false
set_option linter.unusedVariables false
set_option linter.unusedSectionVars false
namespace Go.Proofs.Ytjkfhpgglcnggaa.detLeastW
open Go Go.Ab
noncomputable section
abbrev Tp9:=(List Int)
abbrev Tp8:=(List Bool)
abbrev Tp7:=(List Tp9)
abbrev Tp6:=(List (Int×Int×Unit))
abbrev Tp5:=(Bool×Tp7×Tp9)
abbrev Tp4:=(Int×Int×Tp7×Tp9)
abbrev Tp3:=(Int×Int×Tp7×Tp9×Bool)
abbrev Tp2:=(Int×Int×Tp7×Tp9×Unit)
abbrev Tp1:=(Tp9×Tp9×Tp7×Unit)
abbrev Tf1:=Int->Int->Tp9->Tp9->Tp9->Tp7->Tp9->Option Tp3
abbrev Tf2:=Int->Tp9->Tp9->Int->Int->Tp7->Tp9->Option Tp2
abbrev Tf3:=Int->Tp9->Tp9->Tp9->Tp9->Option Tp3
abbrev Tf4:=Int->Tp8->Tp9->Tp9->Tp7->Option Tp1
abbrev Tf5:=Int->Int->Tp9->Tp9->Option Tp9
abbrev Tf6:=Int->Tp9->Tp9->Tp9->Option Tp2
def ziX (l:Tp9):Option Tp9:=
  G (fits ((l.length:Int)+(3:Int))) (
  G (mkOK (l.length:Int) ((l.length:Int)+(3:Int)) 8) (
  some (l.take (List.replicate ((l.length:Int)).toNat (0:Int)).length++(List.replicate ((l.length:Int)).toNat (0:Int)).drop l.length)))

def zbj (l:Tp7) (r3:Int->Tp7->Option Tp7) (i:Int) (out:Tp7):Option Tp7:=
  if (decide (i < (l.length:Int)))=true then
  G (0<=i/\i < (l.length:Int)) (
  (ziX (ix l i)).bind (fun y'=>
  G (room out ([y']) 24) (
  G (fits (i+(1:Int))) (
  r3 (i+(1:Int)) (out++([y'])))))) else
  some out
def zhL (l:Tp7):(Int×Tp7->Option Tp7)->Int×Tp7->Option Tp7:=
  fun rec x=>zbj l (fun i out=>rec (i,out)) x.1 x.2
def zeB (l:Tp7) (i:Int) (out:Tp7):Option Tp7:=LFix (zhL l ) (i,out)
def ziY (l:Tp7):Option Tp7:=
  zeB l (0:Int) ([])
theorem zjV (r3:Nat->Int->Tp7->Option Tp7) (r3':Int->Tp7->Option Tp7) (h_r3:∀ a0 a1,ChO (fun κ=>r3 κ a0 a1) (r3' a0 a1)) (l:Tp7) (i:Int) (out:Tp7):ChO (fun κ=>zbj l (r3 κ) i out) (zbj l r3' i out):=by
  unfold zbj
  repeat' with_reducible first | exact ChO.const _ | exact h_r3 _ _ | apply ChO.ite | apply ChO.G | apply ChO.both | (apply ChO.bind;intro _)
theorem zlZ  (l:Tp7):Cn (zhL l):=fun g h hg x=>zjV  (fun κ i out=>g κ (i,out)) (fun i out=>h (i,out)) (fun i out=>hg (i,out)) l x.1 x.2
theorem zgL  (l:Tp7) (i:Int) (out:Tp7):zeB l i out=zbj l (zeB l) i out:=zar (zlZ l) (i,out)

def ziU (d:Tp2):Option Tp2:=
  (ziY d.2.2.1).bind (fun y'=>
  (ziX d.2.2.2.1).bind (fun y'_1=>
  some (d.1,(d.2.1,(y',(y'_1,()))))))

def zic (r:Tp9) (t:Tp2):Option (Bool):=
  some (decide (¬ (r.length:Int)=t.1))

def zaP (s:Tp7) (c:Tp2) (r2:Int->Option (Int)) (t:Int):Option (Int):=
  if (decide (t < (s.length:Int)))=true then
  G (0<=t/\t < (s.length:Int)) (
  (zic (ix s t) c).bind (fun y'=>
  if y'=true then
  some t else
  G (fits (t+(1:Int))) (
  r2 (t+(1:Int))))) else
  some (-1:Int)
def zdy (s:Tp7) (c:Tp2):(Int->Option (Int))->Int->Option (Int):=
  fun rec x=>zaP s c (fun t=>rec t) x
def zcq (s:Tp7) (c:Tp2) (t:Int):Option (Int):=LFix (zdy s c ) t
def zf9 (s:Tp7) (c:Tp2):Option (Int):=
  zcq s c (0:Int)
theorem zfC (r2:Nat->Int->Option (Int)) (r2':Int->Option (Int)) (h_r2:∀ a0,ChO (fun κ=>r2 κ a0) (r2' a0)) (s:Tp7) (c:Tp2) (t:Int):ChO (fun κ=>zaP s c (r2 κ) t) (zaP s c r2' t):=by
  unfold zaP
  repeat' with_reducible first | exact ChO.const _ | exact h_r2 _ | apply ChO.ite | apply ChO.G | apply ChO.both | (apply ChO.bind;intro _)
theorem zgc  (s:Tp7) (c:Tp2):Cn (zdy s c):=fun g h hg x=>zfC  (fun κ t=>g κ t) (fun t=>h t) (fun t=>hg t) s c x
theorem zgd  (s:Tp7) (c:Tp2) (t:Int):zcq s c t=zaP s c (zcq s c) t:=zar (zgc s c) t

def zcp (s:Tp7) (c:Tp2):Option (Bool):=
  (zf9 s c).bind (fun y'=>
  some (decide ((0:Int)<=y')))

def zc2 (q:Int) (t:Int):Option (Bool):=
  if (decide (q < (0:Int)))=true then
  some true else
  some (decide (t<=q))

def zaE (s:Tp9) (c:Int) (r2:Int->Option (Int)) (t:Int):Option (Int):=
  if (decide (t < (s.length:Int)))=true then
  G (0<=t/\t < (s.length:Int)) (
  (zc2 (ix s t) c).bind (fun y'=>
  if y'=true then
  some t else
  G (fits (t+(1:Int))) (
  r2 (t+(1:Int))))) else
  some (-1:Int)
def zcP (s:Tp9) (c:Int):(Int->Option (Int))->Int->Option (Int):=
  fun rec x=>zaE s c (fun t=>rec t) x
def zbX (s:Tp9) (c:Int) (t:Int):Option (Int):=LFix (zcP s c ) t
def zeL (s:Tp9) (c:Int):Option (Int):=
  zbX s c (0:Int)
theorem zem (r2:Nat->Int->Option (Int)) (r2':Int->Option (Int)) (h_r2:∀ a0,ChO (fun κ=>r2 κ a0) (r2' a0)) (s:Tp9) (c:Int) (t:Int):ChO (fun κ=>zaE s c (r2 κ) t) (zaE s c r2' t):=by
  unfold zaE
  repeat' with_reducible first | exact ChO.const _ | exact h_r2 _ | apply ChO.ite | apply ChO.G | apply ChO.both | (apply ChO.bind;intro _)
theorem zfy  (s:Tp9) (c:Int):Cn (zcP s c):=fun g h hg x=>zem  (fun κ t=>g κ t) (fun t=>h t) (fun t=>hg t) s c x
theorem zfz  (s:Tp9) (c:Int) (t:Int):zbX s c t=zaE s c (zbX s c) t:=zar (zfy s c) t

def zbU (s:Tp9) (c:Int):Option (Bool):=
  (zeL s c).bind (fun y'=>
  some (decide ((0:Int)<=y')))

def zfG (r:Tp9) (c:Int):Option (Bool×Int):=
  (zbU r c).bind (fun y'=>
  some (y',c))

def zaD (s:Tp7) (r2:Int->Int->Option (Int×Int)) (t:Int) (l:Int):Option (Int×Int):=
  if (decide (t < (s.length:Int)))=true then
  G (0<=t/\t < (s.length:Int)) (
  (zfG (ix s t) l).bind (fun y'_3=>
  if y'_3.1=true then
  some (t,y'_3.2) else
  G (fits (t+(1:Int))) (
  r2 (t+(1:Int)) y'_3.2))) else
  some ((-1:Int),l)
def zcO (s:Tp7):(Int×Int->Option (Int×Int))->Int×Int->Option (Int×Int):=
  fun rec x=>zaD s (fun t l=>rec (t,l)) x.1 x.2
def zbW (s:Tp7) (t:Int) (l:Int):Option (Int×Int):=LFix (zcO s ) (t,l)
def zeK (s:Tp7) (c:Int):Option (Int×Int):=
  zbW s (0:Int) c
theorem zel (r2:Nat->Int->Int->Option (Int×Int)) (r2':Int->Int->Option (Int×Int)) (h_r2:∀ a0 a1,ChO (fun κ=>r2 κ a0 a1) (r2' a0 a1)) (s:Tp7) (t:Int) (l:Int):ChO (fun κ=>zaD s (r2 κ) t l) (zaD s r2' t l):=by
  unfold zaD
  repeat' with_reducible first | exact ChO.const _ | exact h_r2 _ _ | apply ChO.ite | apply ChO.G | apply ChO.both | (apply ChO.bind;intro _)
theorem zfw  (s:Tp7):Cn (zcO s):=fun g h hg x=>zel  (fun κ t l=>g κ (t,l)) (fun t l=>h (t,l)) (fun t l=>hg (t,l)) s x.1 x.2
theorem zfx  (s:Tp7) (t:Int) (l:Int):zbW s t l=zaD s (zbW s) t l:=zar (zfw s) (t,l)

def zbT (s:Tp7) (c:Int):Option (Bool×Int):=
  (zeK s c).bind (fun y'_3=>
  some (decide ((0:Int)<=y'_3.1),y'_3.2))

def zdV (m:Int):Option (Bool):=
  if (decide (¬ m=(0:Int)))=true then
  some (decide (¬ m=(1:Int))) else
  some false

def zaF (s:Tp9) (r2:Int->Option (Int)) (t:Int):Option (Int):=
  if (decide (t < (s.length:Int)))=true then
  G (0<=t/\t < (s.length:Int)) (
  (zdV (ix s t)).bind (fun y'=>
  if y'=true then
  some t else
  G (fits (t+(1:Int))) (
  r2 (t+(1:Int))))) else
  some (-1:Int)
def zcQ (s:Tp9):(Int->Option (Int))->Int->Option (Int):=
  fun rec x=>zaF s (fun t=>rec t) x
def zbY (s:Tp9) (t:Int):Option (Int):=LFix (zcQ s ) t
def zeM (s:Tp9):Option (Int):=
  zbY s (0:Int)
theorem zen (r2:Nat->Int->Option (Int)) (r2':Int->Option (Int)) (h_r2:∀ a0,ChO (fun κ=>r2 κ a0) (r2' a0)) (s:Tp9) (t:Int):ChO (fun κ=>zaF s (r2 κ) t) (zaF s r2' t):=by
  unfold zaF
  repeat' with_reducible first | exact ChO.const _ | exact h_r2 _ | apply ChO.ite | apply ChO.G | apply ChO.both | (apply ChO.bind;intro _)
theorem zfA  (s:Tp9):Cn (zcQ s):=fun g h hg x=>zen  (fun κ t=>g κ t) (fun t=>h t) (fun t=>hg t) s x
theorem zfB  (s:Tp9) (t:Int):zbY s t=zaF s (zbY s) t:=zar (zfA s) t

def zbV (s:Tp9):Option (Bool):=
  (zeM s).bind (fun y'=>
  some (decide ((0:Int)<=y')))

def ze4 (d:Tp2):Option (Int):=
  if (decide (d.1 < (1:Int)))=true then
  some (2:Int) else
  if (decide ((4:Int) < d.1))=true then
  some (2:Int) else
  if (decide ((d.2.2.1.length:Int) < (1:Int)))=true then
  some (1:Int) else
  if (decide ((3000:Int) < (d.2.2.1.length:Int)))=true then
  some (1:Int) else
  if (decide (¬ (d.2.2.2.1.length:Int)=(d.2.2.1.length:Int)))=true then
  some (3:Int) else
  (zcp d.2.2.1 (d.1,(d.2.1,(d.2.2.1,(d.2.2.2.1,()))))).bind (fun y'=>
  if y'=true then
  some (3:Int) else
  (zc2 d.2.1 (d.2.2.1.length:Int)).bind (fun y'_1=>
  if y'_1=true then
  some (2:Int) else
  (zbT d.2.2.1 (d.2.2.1.length:Int)).bind (fun y'_6=>
  if y'_6.1=true then
  some (2:Int) else
  (zbV d.2.2.2.1).bind (fun y'_5=>
  if y'_5=true then
  some (2:Int) else
  some (0:Int)))))

def za7 (s:Tp9):Option Tp9:=
  if s.length=0 then both [(.list (.int .i64))] (
  some ([])) (
  G (room ([]:List Int) s 8) (
  some (([]:List Int)++s))) else
  G (room ([]:List Int) s 8) (
  some (([]:List Int)++s))

def zaz (class':Tp9) (t:Int) (next':Tp9) (r6:(Int->(List (Int×(List UInt8)×Unit))->Tp9->Tp9->Option Tp9)) (b:Tp9) (number_2:(List (Int×(List UInt8)×Unit))) (number_3:Tp9):Option Tp9:=
  G (0<=t/\t < (next'.length:Int)) (
  G ((t).toNat < next'.length) (
  G (fits (t+(1:Int))) (
  r6 (t+(1:Int)) number_2 number_3 (next'.set (t).toNat (mget number_2 number_3 (ix class' t,(bstr b,())) (0:Int))))))
def zaJ (d:Tp2) (class':Tp9) (t:Int) (number:(List (Int×(List UInt8)×Unit))) (number_1:Tp9) (next':Tp9) (r6:(Int->(List (Int×(List UInt8)×Unit))->Tp9->Tp9->Option Tp9)) (r10:Int->Tp9->Option Tp9) (t_1:Int) (b:Tp9):Option Tp9:=
  if (decide (t_1 < ((ix d.2.2.1 t).length:Int)))=true then
  G (0<=t_1/\t_1 < ((ix d.2.2.1 t).length:Int)) (
  G (0<=ix (ix d.2.2.1 t) t_1/\ix (ix d.2.2.1 t) t_1 < (class'.length:Int)) (
  G ((ix (ix d.2.2.1 t) t_1).toNat < class'.length) (
  G (0<=ix (ix d.2.2.1 t) t_1/\ix (ix d.2.2.1 t) t_1 < (class'.length:Int)) (
  G ((ix (ix d.2.2.1 t) t_1).toNat < class'.length) (
  G (0<=(8:Int)) (
  G (room b ([IntKind.wrap .u8 (ix class' (ix (ix d.2.2.1 t) t_1)),IntKind.wrap .u8 (ishr .i64 (ix class' (ix (ix d.2.2.1 t) t_1)) (8:Int))]) 1) (
  G (fits (t_1+(1:Int))) (
  r10 (t_1+(1:Int)) (b++([IntKind.wrap .u8 (ix class' (ix (ix d.2.2.1 t) t_1)),IntKind.wrap .u8 (ishr .i64 (ix class' (ix (ix d.2.2.1 t) t_1)) (8:Int))])))))))))) else
  G (0<=t/\t < (class'.length:Int)) (
  G ((t).toNat < class'.length) (
  if (!(mhas number (ix class' t,(bstr b,()))))=true then
  zaz class' t next' r6 b (zc9 number (ix class' t,(bstr b,()))) (zdD number number_1 (ix class' t,(bstr b,())) (number.length:Int)) else
  zaz class' t next' r6 b number number_1))
def ze5 (d:Tp2) (class':Tp9) (t:Int) (number:(List (Int×(List UInt8)×Unit))) (number_1:Tp9) (next':Tp9) (r6:(Int->(List (Int×(List UInt8)×Unit))->Tp9->Tp9->Option Tp9)):(Int×Tp9->Option Tp9)->Int×Tp9->Option Tp9:=
  fun rec x=>zaJ d class' t number number_1 next' r6 (fun t_1 b=>rec (t_1,b)) x.1 x.2
def zaA (d:Tp2) (class':Tp9) (t:Int) (number:(List (Int×(List UInt8)×Unit))) (number_1:Tp9) (next':Tp9) (r6:(Int->(List (Int×(List UInt8)×Unit))->Tp9->Tp9->Option Tp9)) (t_1:Int) (b:Tp9):Option Tp9:=LFix (ze5 d class' t number number_1 next' r6 ) (t_1,b)
def zaQ (d:Tp2) (count:Int) (class':Tp9) (r3:(Int->Tp9->Option Tp9)) (r6:Int->(List (Int×(List UInt8)×Unit))->Tp9->Tp9->Option Tp9) (t:Int) (number:(List (Int×(List UInt8)×Unit))) (number_1:Tp9) (next':Tp9):Option Tp9:=
  if (decide (t < (d.2.2.1.length:Int)))=true then
  G (0<=t/\t < (d.2.2.1.length:Int)) (
  zaA d class' t number number_1 next' r6 (0:Int) ([])) else
  if (decide ((number.length:Int)=count))=true then
  some next' else
  r3 (number.length:Int) next'
def zfS (d:Tp2) (count:Int) (class':Tp9) (r3:(Int->Tp9->Option Tp9)):(Int×(List (Int×(List UInt8)×Unit))×Tp9×Tp9->Option Tp9)->Int×(List (Int×(List UInt8)×Unit))×Tp9×Tp9->Option Tp9:=
  fun rec x=>zaQ d count class' r3 (fun t number number_1 next'=>rec (t,number,number_1,next')) x.1 x.2.1 x.2.2.1 x.2.2.2
def zaZ (d:Tp2) (count:Int) (class':Tp9) (r3:(Int->Tp9->Option Tp9)) (t:Int) (number:(List (Int×(List UInt8)×Unit))) (number_1:Tp9) (next':Tp9):Option Tp9:=LFix (zfS d count class' r3 ) (t,number,number_1,next')
def zbc (d:Tp2) (r3:Int->Tp9->Option Tp9) (count:Int) (class':Tp9):Option Tp9:=
  G (mkOK (class'.length:Int) (class'.length:Int) 8) (
  zaZ d count class' r3 (0:Int) ([]:List (Int×(List UInt8)×Unit)) ([]:List Int) (List.replicate ((class'.length:Int)).toNat (0:Int)))
def zfR (d:Tp2):(Int×Tp9->Option Tp9)->Int×Tp9->Option Tp9:=
  fun rec x=>zbc d (fun count class'=>rec (count,class')) x.1 x.2
def zbK (d:Tp2) (count:Int) (class':Tp9):Option Tp9:=LFix (zfR d ) (count,class')
def zfH (d:Tp2):Option Tp9:=
  (za7 d.2.2.2.1).bind (fun y'=>
  zbK d (0:Int) y')
theorem zcA (r6:Nat->Int->(List (Int×(List UInt8)×Unit))->Tp9->Tp9->Option Tp9) (r6':Int->(List (Int×(List UInt8)×Unit))->Tp9->Tp9->Option Tp9) (h_r6:∀ a0 a1 a2 a3,ChO (fun κ=>r6 κ a0 a1 a2 a3) (r6' a0 a1 a2 a3)) (class':Tp9) (t:Int) (next':Tp9) (b:Tp9) (number_2:(List (Int×(List UInt8)×Unit))) (number_3:Tp9):ChO (fun κ=>zaz class' t next' (r6 κ) b number_2 number_3) (zaz class' t next' r6' b number_2 number_3):=by
  unfold zaz
  repeat' with_reducible first | exact ChO.const _ | exact h_r6 _ _ _ _ | apply ChO.ite | apply ChO.G | apply ChO.both | (apply ChO.bind;intro _)
theorem zdH (r6:Nat->Int->(List (Int×(List UInt8)×Unit))->Tp9->Tp9->Option Tp9) (r6':Int->(List (Int×(List UInt8)×Unit))->Tp9->Tp9->Option Tp9) (h_r6:∀ a0 a1 a2 a3,ChO (fun κ=>r6 κ a0 a1 a2 a3) (r6' a0 a1 a2 a3)) (r10:Nat->Int->Tp9->Option Tp9) (r10':Int->Tp9->Option Tp9) (h_r10:∀ a0 a1,ChO (fun κ=>r10 κ a0 a1) (r10' a0 a1)) (d:Tp2) (class':Tp9) (t:Int) (number:(List (Int×(List UInt8)×Unit))) (number_1:Tp9) (next':Tp9) (t_1:Int) (b:Tp9):ChO (fun κ=>zaJ d class' t number number_1 next' (r6 κ) (r10 κ) t_1 b) (zaJ d class' t number number_1 next' r6' r10' t_1 b):=by
  unfold zaJ
  repeat' with_reducible first | exact ChO.const _ | exact h_r6 _ _ _ _ | exact h_r10 _ _ | (apply zcA<;>assumption) | apply ChO.ite | apply ChO.G | apply ChO.both | (apply ChO.bind;intro _)
theorem zcB (r6:Int->(List (Int×(List UInt8)×Unit))->Tp9->Tp9->Option Tp9) (d:Tp2) (class':Tp9) (t:Int) (number:(List (Int×(List UInt8)×Unit))) (number_1:Tp9) (next':Tp9):Cn (ze5 d class' t number number_1 next' r6):=fun g h hg x=>zdH (fun _=>r6) r6 (fun _ _ _ _=>ChO.const _) (fun κ t_1 b=>g κ (t_1,b)) (fun t_1 b=>h (t_1,b)) (fun t_1 b=>hg (t_1,b)) d class' t number number_1 next' x.1 x.2
theorem zes (r6:Int->(List (Int×(List UInt8)×Unit))->Tp9->Tp9->Option Tp9) (d:Tp2) (class':Tp9) (t:Int) (number:(List (Int×(List UInt8)×Unit))) (number_1:Tp9) (next':Tp9) (t_1:Int) (b:Tp9):zaA d class' t number number_1 next' r6 t_1 b=zaJ d class' t number number_1 next' r6 (zaA d class' t number number_1 next' r6) t_1 b:=zar (zcB r6 d class' t number number_1 next') (t_1,b)
theorem zer (r6:Nat->Int->(List (Int×(List UInt8)×Unit))->Tp9->Tp9->Option Tp9) (r6':Int->(List (Int×(List UInt8)×Unit))->Tp9->Tp9->Option Tp9) (h_r6:∀ a0 a1 a2 a3,ChO (fun κ=>r6 κ a0 a1 a2 a3) (r6' a0 a1 a2 a3)) (d:Tp2) (class':Tp9) (t:Int) (number:(List (Int×(List UInt8)×Unit))) (number_1:Tp9) (next':Tp9) (t_1:Int) (b:Tp9):ChO (fun κ=>zaA d class' t number number_1 next' (r6 κ) t_1 b) (zaA d class' t number number_1 next' r6' t_1 b):=by
  unfold zaA
  exact zdB (fun κ=>(zcB (r6 κ) d class' t number number_1 next').mono) (zcB r6' d class' t number number_1 next').mono (fun g h hg x=>zdH r6 r6' h_r6 (fun κ t_1 b=>g κ (t_1,b)) (fun t_1 b=>h (t_1,b)) (fun t_1 b=>hg (t_1,b)) d class' t number number_1 next' x.1 x.2) _
theorem zdW (r3:Nat->Int->Tp9->Option Tp9) (r3':Int->Tp9->Option Tp9) (h_r3:∀ a0 a1,ChO (fun κ=>r3 κ a0 a1) (r3' a0 a1)) (r6:Nat->Int->(List (Int×(List UInt8)×Unit))->Tp9->Tp9->Option Tp9) (r6':Int->(List (Int×(List UInt8)×Unit))->Tp9->Tp9->Option Tp9) (h_r6:∀ a0 a1 a2 a3,ChO (fun κ=>r6 κ a0 a1 a2 a3) (r6' a0 a1 a2 a3)) (d:Tp2) (count:Int) (class':Tp9) (t:Int) (number:(List (Int×(List UInt8)×Unit))) (number_1:Tp9) (next':Tp9):ChO (fun κ=>zaQ d count class' (r3 κ) (r6 κ) t number number_1 next') (zaQ d count class' r3' r6' t number number_1 next'):=by
  unfold zaQ
  repeat' with_reducible first | exact ChO.const _ | exact h_r3 _ _ | exact h_r6 _ _ _ _ | (apply zcA<;>assumption) | (apply zer<;>assumption) | apply ChO.ite | apply ChO.G | apply ChO.both | (apply ChO.bind;intro _)
theorem zc3 (r3:Int->Tp9->Option Tp9) (d:Tp2) (count:Int) (class':Tp9):Cn (zfS d count class' r3):=fun g h hg x=>zdW (fun _=>r3) r3 (fun _ _=>ChO.const _) (fun κ t number number_1 next'=>g κ (t,number,number_1,next')) (fun t number number_1 next'=>h (t,number,number_1,next')) (fun t number number_1 next'=>hg (t,number,number_1,next')) d count class' x.1 x.2.1 x.2.2.1 x.2.2.2
theorem ze6 (r3:Int->Tp9->Option Tp9) (d:Tp2) (count:Int) (class':Tp9) (t:Int) (number:(List (Int×(List UInt8)×Unit))) (number_1:Tp9) (next':Tp9):zaZ d count class' r3 t number number_1 next'=zaQ d count class' r3 (zaZ d count class' r3) t number number_1 next':=zar (zc3 r3 d count class') (t,number,number_1,next')
theorem zjK (r3:Nat->Int->Tp9->Option Tp9) (r3':Int->Tp9->Option Tp9) (h_r3:∀ a0 a1,ChO (fun κ=>r3 κ a0 a1) (r3' a0 a1)) (d:Tp2) (count:Int) (class':Tp9) (t:Int) (number:(List (Int×(List UInt8)×Unit))) (number_1:Tp9) (next':Tp9):ChO (fun κ=>zaZ d count class' (r3 κ) t number number_1 next') (zaZ d count class' r3' t number number_1 next'):=by
  unfold zaZ
  exact zdB (fun κ=>(zc3 (r3 κ) d count class').mono) (zc3 r3' d count class').mono (fun g h hg x=>zdW r3 r3' h_r3 (fun κ t number number_1 next'=>g κ (t,number,number_1,next')) (fun t number number_1 next'=>h (t,number,number_1,next')) (fun t number number_1 next'=>hg (t,number,number_1,next')) d count class' x.1 x.2.1 x.2.2.1 x.2.2.2) _
theorem zid (r3:Nat->Int->Tp9->Option Tp9) (r3':Int->Tp9->Option Tp9) (h_r3:∀ a0 a1,ChO (fun κ=>r3 κ a0 a1) (r3' a0 a1)) (d:Tp2) (count:Int) (class':Tp9):ChO (fun κ=>zbc d (r3 κ) count class') (zbc d r3' count class'):=by
  unfold zbc
  repeat' with_reducible first | exact ChO.const _ | exact h_r3 _ _ | (apply zcA<;>assumption) | (apply zer<;>assumption) | (apply zjK<;>assumption) | apply ChO.ite | apply ChO.G | apply ChO.both | (apply ChO.bind;intro _)
theorem zjI  (d:Tp2):Cn (zfR d):=fun g h hg x=>zid  (fun κ count class'=>g κ (count,class')) (fun count class'=>h (count,class')) (fun count class'=>hg (count,class')) d x.1 x.2
theorem zjJ  (d:Tp2) (count:Int) (class':Tp9):zbK d count class'=zbc d (zbK d) count class':=zar (zjI d) (count,class')

def zdh (c:Int) (a:Int) (t:Tp9) (t_1:Tp2) (t_2:Tp9):Option (Int):=
  G (0<=c/\c < (t_2.length:Int)) (
  G (0<=ix t_2 c/\ix t_2 c < (t_1.2.2.1.length:Int)) (
  G (0<=a/\a < ((ix t_1.2.2.1 (ix t_2 c)).length:Int)) (
  G (0<=ix (ix t_1.2.2.1 (ix t_2 c)) a/\ix (ix t_1.2.2.1 (ix t_2 c)) a < (t.length:Int)) (
  some (ix t (ix (ix t_1.2.2.1 (ix t_2 c)) a))))))

def zeQ (c:Int) (t:Tp2) (t_1:Tp9):Option (Int):=
  G (0<=c/\c < (t_1.length:Int)) (
  G (0<=ix t_1 c/\ix t_1 c < (t.2.2.2.1.length:Int)) (
  some (ix t.2.2.2.1 (ix t_1 c))))

def zbs (t:Int) (row:Tp9) (r8:(Int->Tp9->Tp9->Tp9->Tp9->Option Tp3)) (n:Int) (number_4:Tp9) (number_5:Tp9) (l_2:Tp9):Option Tp3:=
  G (0<=t/\t < (row.length:Int)) (
  G ((t).toNat < row.length) (
  G (fits (t+(1:Int))) (
  r8 (t+(1:Int)) number_4 number_5 l_2 (row.set (t).toNat n))))
def zaR (letters:Int) (c:Tp9) (c_1:Tp2) (c_2:Tp9) (c_3:Tp2) (c_4:Tp9) (most:Int) (d:Int) (d_1:Int) (l:Tp9) (d_2:Tp7) (d_3:Tp9) (r4:(Int->Int->Tp9->Tp9->Tp9->Tp7->Tp9->Option Tp3)) (r8:Tf3) (t:Int) (number_2:Tp9) (number_3:Tp9) (l_1:Tp9) (row:Tp9):Option Tp3:=
  if (decide (t < letters))=true then
  (zdh (ix l (d_2.length:Int)) t c c_1 c_2).bind (fun y'=>
  if (!(mhas number_2 y'))=true then
  if (decide ((l_1.length:Int)=most))=true then
  some ((0:Int),(0:Int),([]:List Tp9),([]:List Int),false) else
  G (room l_1 ([y']) 8) (
  zbs t row r8 (l_1.length:Int) (zc9 number_2 y') (zdD number_2 number_3 y' (l_1.length:Int)) (l_1++([y']))) else
  zbs t row r8 (mget number_2 number_3 y' (0:Int)) number_2 number_3 l_1) else
  G (room d_2 ([row]) 24) (
  (zeQ (ix l (d_2.length:Int)) c_3 c_4).bind (fun y'_1=>
  G (room d_3 ([y'_1]) 8) (
  r4 d d_1 number_2 number_3 l_1 (d_2++([row])) (d_3++([y'_1])))))
def zfU (letters:Int) (c:Tp9) (c_1:Tp2) (c_2:Tp9) (c_3:Tp2) (c_4:Tp9) (most:Int) (d:Int) (d_1:Int) (l:Tp9) (d_2:Tp7) (d_3:Tp9) (r4:(Int->Int->Tp9->Tp9->Tp9->Tp7->Tp9->Option Tp3)):(Int×Tp9×Tp9×Tp9×Tp9->Option Tp3)->Int×Tp9×Tp9×Tp9×Tp9->Option Tp3:=
  fun rec x=>zaR letters c c_1 c_2 c_3 c_4 most d d_1 l d_2 d_3 r4 (fun t number_2 number_3 l_1 row=>rec (t,number_2,number_3,l_1,row)) x.1 x.2.1 x.2.2.1 x.2.2.2.1 x.2.2.2.2
def zax (letters:Int) (c:Tp9) (c_1:Tp2) (c_2:Tp9) (c_3:Tp2) (c_4:Tp9) (most:Int) (d:Int) (d_1:Int) (l:Tp9) (d_2:Tp7) (d_3:Tp9) (r4:(Int->Int->Tp9->Tp9->Tp9->Tp7->Tp9->Option Tp3)) (t:Int) (number_2:Tp9) (number_3:Tp9) (l_1:Tp9) (row:Tp9):Option Tp3:=LFix (zfU letters c c_1 c_2 c_3 c_4 most d d_1 l d_2 d_3 r4 ) (t,number_2,number_3,l_1,row)
def zbd (letters:Int) (c:Tp9) (c_1:Tp2) (c_2:Tp9) (c_3:Tp2) (c_4:Tp9) (most:Int) (r4:Tf1) (d:Int) (d_1:Int) (number:Tp9) (number_1:Tp9) (l:Tp9) (d_2:Tp7) (d_3:Tp9):Option Tp3:=
  if (decide ((d_2.length:Int) < (l.length:Int)))=true then
  G (0<=(d_2.length:Int)/\(d_2.length:Int) < (l.length:Int)) (
  G (((d_2.length:Int)).toNat < l.length) (
  G (mkOK letters letters 8) (
  zax letters c c_1 c_2 c_3 c_4 most d d_1 l d_2 d_3 r4 (0:Int) number number_1 l (List.replicate (letters).toNat (0:Int))))) else
  some (d,d_1,d_2,d_3,true)
def zfT (letters:Int) (c:Tp9) (c_1:Tp2) (c_2:Tp9) (c_3:Tp2) (c_4:Tp9) (most:Int):(Int×Int×Tp9×Tp9×Tp9×Tp7×Tp9->Option Tp3)->Int×Int×Tp9×Tp9×Tp9×Tp7×Tp9->Option Tp3:=
  fun rec x=>zbd letters c c_1 c_2 c_3 c_4 most (fun d d_1 number number_1 l d_2 d_3=>rec (d,d_1,number,number_1,l,d_2,d_3)) x.1 x.2.1 x.2.2.1 x.2.2.2.1 x.2.2.2.2.1 x.2.2.2.2.2.1 x.2.2.2.2.2.2
def zb6 (letters:Int) (c:Tp9) (c_1:Tp2) (c_2:Tp9) (c_3:Tp2) (c_4:Tp9) (most:Int) (d:Int) (d_1:Int) (number:Tp9) (number_1:Tp9) (l:Tp9) (d_2:Tp7) (d_3:Tp9):Option Tp3:=LFix (zfT letters c c_1 c_2 c_3 c_4 most ) (d,d_1,number,number_1,l,d_2,d_3)
def zfI (letters:Int) (first:Int) (c:Tp9) (c_1:Tp2) (c_2:Tp9) (c_3:Tp2) (c_4:Tp9) (most:Int):Option Tp3:=
  zb6 letters c c_1 c_2 c_3 c_4 most letters (0:Int) (zc9 ([]:List Int) first) (zdD ([]:List Int) ([]:List Int) first (0:Int)) ([first]) ([]:List Tp9) ([]:List Int)
theorem zet (r8:Nat->Tf3) (r8':Tf3) (h_r8:∀ a0 a1 a2 a3 a4,ChO (fun κ=>r8 κ a0 a1 a2 a3 a4) (r8' a0 a1 a2 a3 a4)) (t:Int) (row:Tp9) (n:Int) (number_4:Tp9) (number_5:Tp9) (l_2:Tp9):ChO (fun κ=>zbs t row (r8 κ) n number_4 number_5 l_2) (zbs t row r8' n number_4 number_5 l_2):=by
  unfold zbs
  repeat' with_reducible first | exact ChO.const _ | exact h_r8 _ _ _ _ _ | apply ChO.ite | apply ChO.G | apply ChO.both | (apply ChO.bind;intro _)
theorem zdX (r4:Nat->Tf1) (r4':Tf1) (h_r4:∀ a0 a1 a2 a3 a4 a5 a6,ChO (fun κ=>r4 κ a0 a1 a2 a3 a4 a5 a6) (r4' a0 a1 a2 a3 a4 a5 a6)) (r8:Nat->Tf3) (r8':Tf3) (h_r8:∀ a0 a1 a2 a3 a4,ChO (fun κ=>r8 κ a0 a1 a2 a3 a4) (r8' a0 a1 a2 a3 a4)) (letters:Int) (c:Tp9) (c_1:Tp2) (c_2:Tp9) (c_3:Tp2) (c_4:Tp9) (most:Int) (d:Int) (d_1:Int) (l:Tp9) (d_2:Tp7) (d_3:Tp9) (t:Int) (number_2:Tp9) (number_3:Tp9) (l_1:Tp9) (row:Tp9):ChO (fun κ=>zaR letters c c_1 c_2 c_3 c_4 most d d_1 l d_2 d_3 (r4 κ) (r8 κ) t number_2 number_3 l_1 row) (zaR letters c c_1 c_2 c_3 c_4 most d d_1 l d_2 d_3 r4' r8' t number_2 number_3 l_1 row):=by
  unfold zaR
  repeat' with_reducible first | exact ChO.const _ | exact h_r4 _ _ _ _ _ _ _ | exact h_r8 _ _ _ _ _ | (apply zet<;>assumption) | apply ChO.ite | apply ChO.G | apply ChO.both | (apply ChO.bind;intro _)
theorem zc4 (r4:Tf1) (letters:Int) (c:Tp9) (c_1:Tp2) (c_2:Tp9) (c_3:Tp2) (c_4:Tp9) (most:Int) (d:Int) (d_1:Int) (l:Tp9) (d_2:Tp7) (d_3:Tp9):Cn (zfU letters c c_1 c_2 c_3 c_4 most d d_1 l d_2 d_3 r4):=fun g h hg x=>zdX (fun _=>r4) r4 (fun _ _ _ _ _ _ _=>ChO.const _) (fun κ t number_2 number_3 l_1 row=>g κ (t,number_2,number_3,l_1,row)) (fun t number_2 number_3 l_1 row=>h (t,number_2,number_3,l_1,row)) (fun t number_2 number_3 l_1 row=>hg (t,number_2,number_3,l_1,row)) letters c c_1 c_2 c_3 c_4 most d d_1 l d_2 d_3 x.1 x.2.1 x.2.2.1 x.2.2.2.1 x.2.2.2.2
theorem ze7 (r4:Tf1) (letters:Int) (c:Tp9) (c_1:Tp2) (c_2:Tp9) (c_3:Tp2) (c_4:Tp9) (most:Int) (d:Int) (d_1:Int) (l:Tp9) (d_2:Tp7) (d_3:Tp9) (t:Int) (number_2:Tp9) (number_3:Tp9) (l_1:Tp9) (row:Tp9):zax letters c c_1 c_2 c_3 c_4 most d d_1 l d_2 d_3 r4 t number_2 number_3 l_1 row=zaR letters c c_1 c_2 c_3 c_4 most d d_1 l d_2 d_3 r4 (zax letters c c_1 c_2 c_3 c_4 most d d_1 l d_2 d_3 r4) t number_2 number_3 l_1 row:=zar (zc4 r4 letters c c_1 c_2 c_3 c_4 most d d_1 l d_2 d_3) (t,number_2,number_3,l_1,row)
theorem zjN (r4:Nat->Tf1) (r4':Tf1) (h_r4:∀ a0 a1 a2 a3 a4 a5 a6,ChO (fun κ=>r4 κ a0 a1 a2 a3 a4 a5 a6) (r4' a0 a1 a2 a3 a4 a5 a6)) (letters:Int) (c:Tp9) (c_1:Tp2) (c_2:Tp9) (c_3:Tp2) (c_4:Tp9) (most:Int) (d:Int) (d_1:Int) (l:Tp9) (d_2:Tp7) (d_3:Tp9) (t:Int) (number_2:Tp9) (number_3:Tp9) (l_1:Tp9) (row:Tp9):ChO (fun κ=>zax letters c c_1 c_2 c_3 c_4 most d d_1 l d_2 d_3 (r4 κ) t number_2 number_3 l_1 row) (zax letters c c_1 c_2 c_3 c_4 most d d_1 l d_2 d_3 r4' t number_2 number_3 l_1 row):=by
  unfold zax
  exact zdB (fun κ=>(zc4 (r4 κ) letters c c_1 c_2 c_3 c_4 most d d_1 l d_2 d_3).mono) (zc4 r4' letters c c_1 c_2 c_3 c_4 most d d_1 l d_2 d_3).mono (fun g h hg x=>zdX r4 r4' h_r4 (fun κ t number_2 number_3 l_1 row=>g κ (t,number_2,number_3,l_1,row)) (fun t number_2 number_3 l_1 row=>h (t,number_2,number_3,l_1,row)) (fun t number_2 number_3 l_1 row=>hg (t,number_2,number_3,l_1,row)) letters c c_1 c_2 c_3 c_4 most d d_1 l d_2 d_3 x.1 x.2.1 x.2.2.1 x.2.2.2.1 x.2.2.2.2) _
theorem zie (r4:Nat->Tf1) (r4':Tf1) (h_r4:∀ a0 a1 a2 a3 a4 a5 a6,ChO (fun κ=>r4 κ a0 a1 a2 a3 a4 a5 a6) (r4' a0 a1 a2 a3 a4 a5 a6)) (letters:Int) (c:Tp9) (c_1:Tp2) (c_2:Tp9) (c_3:Tp2) (c_4:Tp9) (most:Int) (d:Int) (d_1:Int) (number:Tp9) (number_1:Tp9) (l:Tp9) (d_2:Tp7) (d_3:Tp9):ChO (fun κ=>zbd letters c c_1 c_2 c_3 c_4 most (r4 κ) d d_1 number number_1 l d_2 d_3) (zbd letters c c_1 c_2 c_3 c_4 most r4' d d_1 number number_1 l d_2 d_3):=by
  unfold zbd
  repeat' with_reducible first | exact ChO.const _ | exact h_r4 _ _ _ _ _ _ _ | (apply zet<;>assumption) | (apply zjN<;>assumption) | apply ChO.ite | apply ChO.G | apply ChO.both | (apply ChO.bind;intro _)
theorem zjL  (letters:Int) (c:Tp9) (c_1:Tp2) (c_2:Tp9) (c_3:Tp2) (c_4:Tp9) (most:Int):Cn (zfT letters c c_1 c_2 c_3 c_4 most):=fun g h hg x=>zie  (fun κ d d_1 number number_1 l d_2 d_3=>g κ (d,d_1,number,number_1,l,d_2,d_3)) (fun d d_1 number number_1 l d_2 d_3=>h (d,d_1,number,number_1,l,d_2,d_3)) (fun d d_1 number number_1 l d_2 d_3=>hg (d,d_1,number,number_1,l,d_2,d_3)) letters c c_1 c_2 c_3 c_4 most x.1 x.2.1 x.2.2.1 x.2.2.2.1 x.2.2.2.2.1 x.2.2.2.2.2.1 x.2.2.2.2.2.2
theorem zjM  (letters:Int) (c:Tp9) (c_1:Tp2) (c_2:Tp9) (c_3:Tp2) (c_4:Tp9) (most:Int) (d:Int) (d_1:Int) (number:Tp9) (number_1:Tp9) (l:Tp9) (d_2:Tp7) (d_3:Tp9):zb6 letters c c_1 c_2 c_3 c_4 most d d_1 number number_1 l d_2 d_3=zbd letters c c_1 c_2 c_3 c_4 most (zb6 letters c c_1 c_2 c_3 c_4 most) d d_1 number number_1 l d_2 d_3:=zar (zjL letters c c_1 c_2 c_3 c_4 most) (d,d_1,number,number_1,l,d_2,d_3)

def zgx (out:Int) (out_1:Int) (l_1:Tp7) (l_2:Tp9):Option Tp4:=
  some (out,out_1,l_1,l_2)
def zaK (d:Tp2) (y':Tp9) (r4:Int->Tp9->Option Tp4) (t:Int) (l:Tp9):Option Tp4:=
  if (decide (t < (y'.length:Int)))=true then
  G (0<=t/\t < (y'.length:Int)) (
  G ((t).toNat < y'.length) (
  G (0<=ix y' t/\ix y' t < (l.length:Int)) (
  G ((ix y' t).toNat < l.length) (
  G (fits (t+(1:Int))) (
  r4 (t+(1:Int)) (l.set (ix y' t).toNat t)))))) else
  G (0<=d.2.1/\d.2.1 < (y'.length:Int)) (
  G ((d.2.1).toNat < y'.length) (
  G (fits ((y'.length:Int)+(1:Int))) (
  both [(.int .i64),(.int .i64),(.list (.list (.int .i64))),(.list (.int .i64))] (
  (zfI d.1 (ix y' d.2.1) y' (d.1,(d.2.1,(d.2.2.1,(d.2.2.2.1,())))) l (d.1,(d.2.1,(d.2.2.1,(d.2.2.2.1,())))) l ((y'.length:Int)+(1:Int))).bind (fun y'_7=>
  zgx y'_7.1 y'_7.2.1 y'_7.2.2.1 y'_7.2.2.2.1)) (
  (zfI d.1 (ix y' d.2.1) y' (d.1,(d.2.1,(d.2.2.1,(d.2.2.2.1,())))) l (d.1,(d.2.1,(d.2.2.1,(d.2.2.2.1,())))) l ((y'.length:Int)+(1:Int))).bind (fun y'_14=>
  zgx y'_14.1 y'_14.2.1 y'_14.2.2.1 y'_14.2.2.2.1)))))
def zfb (d:Tp2) (y':Tp9):(Int×Tp9->Option Tp4)->Int×Tp9->Option Tp4:=
  fun rec x=>zaK d y' (fun t l=>rec (t,l)) x.1 x.2
def za9 (d:Tp2) (y':Tp9) (t:Int) (l:Tp9):Option Tp4:=LFix (zfb d y' ) (t,l)
def zeu (d:Tp2):Option Tp4:=
  (zfH (d.1,(d.2.1,(d.2.2.1,(d.2.2.2.1,()))))).bind (fun y'=>
  G (mkOK (y'.length:Int) (y'.length:Int) 8) (
  za9 d y' (0:Int) (List.replicate ((y'.length:Int)).toNat (0:Int))))
theorem zhw (r4:Nat->Int->Tp9->Option Tp4) (r4':Int->Tp9->Option Tp4) (h_r4:∀ a0 a1,ChO (fun κ=>r4 κ a0 a1) (r4' a0 a1)) (d:Tp2) (y':Tp9) (t:Int) (l:Tp9):ChO (fun κ=>zaK d y' (r4 κ) t l) (zaK d y' r4' t l):=by
  unfold zaK
  repeat' with_reducible first | exact ChO.const _ | exact h_r4 _ _ | apply ChO.ite | apply ChO.G | apply ChO.both | (apply ChO.bind;intro _)
theorem ziD  (d:Tp2) (y':Tp9):Cn (zfb d y'):=fun g h hg x=>zhw  (fun κ t l=>g κ (t,l)) (fun t l=>h (t,l)) (fun t l=>hg (t,l)) d y' x.1 x.2
theorem zez  (d:Tp2) (y':Tp9) (t:Int) (l:Tp9):za9 d y' t l=zaK d y' (za9 d y') t l:=zar (ziD d y') (t,l)

def ze8 (d:Tp2):Option (Int×Int×Tp7×Tp9×Int):=
  (ze4 (d.1,(d.2.1,(d.2.2.1,(d.2.2.2.1,()))))).bind (fun y'=>
  if (decide (¬ y'=(0:Int)))=true then
  some ((0:Int),(0:Int),([]:List Tp9),([]:List Int),y') else
  (zeu (d.1,(d.2.1,(d.2.2.1,(d.2.2.2.1,()))))).bind (fun y'_6=>
  some (y'_6.1,y'_6.2.1,y'_6.2.2.1,y'_6.2.2.2,(0:Int))))

def zdU (c:(Int×Int×Unit)) (t:Tp2):Option (Bool):=
  G (0<=c.1/\c.1 < (t.2.2.2.1.length:Int)) (
  G (0<=c.2.1/\c.2.1 < (t.2.2.2.1.length:Int)) (
  some (decide (¬ (ix t.2.2.2.1 c.1)=(ix t.2.2.2.1 c.2.1)))))

def zc1 (c:(Int×Int×Unit)) (a:Int) (t:Tp2):Option (Int×Int×Unit):=
  G (0<=c.1/\c.1 < (t.2.2.1.length:Int)) (
  G (0<=a/\a < ((ix t.2.2.1 c.1).length:Int)) (
  G (0<=c.2.1/\c.2.1 < (t.2.2.1.length:Int)) (
  G (0<=a/\a < ((ix t.2.2.1 c.2.1).length:Int)) (
  some (ix (ix t.2.2.1 c.1) a,(ix (ix t.2.2.1 c.2.1) a,()))))))

def zau (t:Int) (l_1:Tp6) (r8:(Int->Tp6->Tp7->Tp6->Option (Tp9×Bool))) (ways_4:Tp6) (ways_5:Tp7) (to:Int) (to_1:Int):Option (Tp9×Bool):=
  G (room l_1 ([(to,(to_1,()))]) 16) (
  G (fits (t+(1:Int))) (
  r8 (t+(1:Int)) ways_4 ways_5 (l_1++([(to,(to_1,()))]))))
def zbi (letters:Int) (c:Tp2) (r3:(Tp6->Tp7->Tp6->Option (Tp9×Bool))) (r8:Int->Tp6->Tp7->Tp6->Option (Tp9×Bool)) (t:Int) (ways_2:Tp6) (ways_3:Tp7) (l_1:Tp6):Option (Tp9×Bool):=
  if (decide (t < letters))=true then
  G (0<=(0:Int)/\(0:Int) < (l_1.length:Int)) (
  G (((0:Int)).toNat < l_1.length) (
  (zc1 (ix l_1 (0:Int)) t c).bind (fun y'_1=>
  if (!(mhas ways_2 (y'_1.1,(y'_1.2.1,()))))=true then
  G (0<=(0:Int)/\(0:Int) < (l_1.length:Int)) (
  G (((0:Int)).toNat < l_1.length) (
  both [(.list (.int .i64)),.bool] (
  both [(.list (.int .i64)),.bool] (
  (za7 (mget ways_2 ways_3 (ix l_1 (0:Int)) ([]:List Int))).bind (fun y'_2=>
  G (room y'_2 ([t]) 8) (
  zau t l_1 r8 (zc9 ways_2 (y'_1.1,(y'_1.2.1,()))) (zdD ways_2 ways_3 (y'_1.1,(y'_1.2.1,())) (y'_2++([t]))) y'_1.1 y'_1.2.1))) (
  (za7 (mget ways_2 ways_3 (ix l_1 (0:Int)) ([]:List Int))).bind (fun y'_3=>
  G (room y'_3 ([t]) 8) (
  zau t l_1 r8 (zc9 ways_2 (y'_1.1,(y'_1.2.1,()))) (zdD ways_2 ways_3 (y'_1.1,(y'_1.2.1,())) (y'_3++([t]))) y'_1.1 y'_1.2.1)))) (
  both [(.list (.int .i64)),.bool] (
  (za7 (mget ways_2 ways_3 (ix l_1 (0:Int)) ([]:List Int))).bind (fun y'_4=>
  both [(.list (.int .i64)),.bool] (
  G (room y'_4 ([t]) 8) (
  zau t l_1 r8 (zc9 ways_2 (y'_1.1,(y'_1.2.1,()))) (zdD ways_2 ways_3 (y'_1.1,(y'_1.2.1,())) (y'_4++([t]))) y'_1.1 y'_1.2.1)) (
  G (room y'_4 ([t]) 8) (
  zau t l_1 r8 (zc9 ways_2 (y'_1.1,(y'_1.2.1,()))) (zdD ways_2 ways_3 (y'_1.1,(y'_1.2.1,())) (y'_4++([t]))) y'_1.1 y'_1.2.1)))) (
  both [(.list (.int .i64)),.bool] (
  (za7 (mget ways_2 ways_3 (ix l_1 (0:Int)) ([]:List Int))).bind (fun y'_5=>
  G (room y'_5 ([t]) 8) (
  zau t l_1 r8 (zc9 ways_2 (y'_1.1,(y'_1.2.1,()))) (zdD ways_2 ways_3 (y'_1.1,(y'_1.2.1,())) (y'_5++([t]))) y'_1.1 y'_1.2.1))) (
  (za7 (mget ways_2 ways_3 (ix l_1 (0:Int)) ([]:List Int))).bind (fun y'_6=>
  both [(.list (.int .i64)),.bool] (
  G (room y'_6 ([t]) 8) (
  zau t l_1 r8 (zc9 ways_2 (y'_1.1,(y'_1.2.1,()))) (zdD ways_2 ways_3 (y'_1.1,(y'_1.2.1,())) (y'_6++([t]))) y'_1.1 y'_1.2.1)) (
  G (room y'_6 ([t]) 8) (
  zau t l_1 r8 (zc9 ways_2 (y'_1.1,(y'_1.2.1,()))) (zdD ways_2 ways_3 (y'_1.1,(y'_1.2.1,())) (y'_6++([t]))) y'_1.1 y'_1.2.1)))))))) else
  G (fits (t+(1:Int))) (
  r8 (t+(1:Int)) ways_2 ways_3 l_1)))) else
  G (0<=(1:Int)/\(1:Int)<=(l_1.length:Int)) (
  r3 ways_2 ways_3 (l_1.drop ((1:Int)).toNat))
def zhJ (letters:Int) (c:Tp2) (r3:(Tp6->Tp7->Tp6->Option (Tp9×Bool))):(Int×Tp6×Tp7×Tp6->Option (Tp9×Bool))->Int×Tp6×Tp7×Tp6->Option (Tp9×Bool):=
  fun rec x=>zbi letters c r3 (fun t ways_2 ways_3 l_1=>rec (t,ways_2,ways_3,l_1)) x.1 x.2.1 x.2.2.1 x.2.2.2
def zbx (letters:Int) (c:Tp2) (r3:(Tp6->Tp7->Tp6->Option (Tp9×Bool))) (t:Int) (ways_2:Tp6) (ways_3:Tp7) (l_1:Tp6):Option (Tp9×Bool):=LFix (zhJ letters c r3 ) (t,ways_2,ways_3,l_1)
def zbh (letters:Int) (c:Tp2) (c_1:Tp2) (r3:Tp6->Tp7->Tp6->Option (Tp9×Bool)) (ways:Tp6) (ways_1:Tp7) (l:Tp6):Option (Tp9×Bool):=
  if (decide ((0:Int) < (l.length:Int)))=true then
  G (0<=(0:Int)/\(0:Int) < (l.length:Int)) (
  G (((0:Int)).toNat < l.length) (
  (zdU (ix l (0:Int)) c_1).bind (fun y'=>
  if y'=true then
  G (0<=(0:Int)/\(0:Int) < (l.length:Int)) (
  G (((0:Int)).toNat < l.length) (
  some (mget ways ways_1 (ix l (0:Int)) ([]:List Int),true))) else
  zbx letters c r3 (0:Int) ways ways_1 l))) else
  some ([],false)
def zhI (letters:Int) (c:Tp2) (c_1:Tp2):(Tp6×Tp7×Tp6->Option (Tp9×Bool))->Tp6×Tp7×Tp6->Option (Tp9×Bool):=
  fun rec x=>zbh letters c c_1 (fun ways ways_1 l=>rec (ways,ways_1,l)) x.1 x.2.1 x.2.2
def zeA (letters:Int) (c:Tp2) (c_1:Tp2) (ways:Tp6) (ways_1:Tp7) (l:Tp6):Option (Tp9×Bool):=LFix (zhI letters c c_1 ) (ways,ways_1,l)
def zlD (first:(Int×Int×Unit)) (letters:Int) (c:Tp2) (c_1:Tp2):Option (Tp9×Bool):=
  zeA letters c c_1 (zc9 ([]:List (Int×Int×Unit)) (first.1,(first.2.1,()))) (zdD ([]:List (Int×Int×Unit)) ([]:List Tp9) (first.1,(first.2.1,())) ([]:List Int)) ([(first.1,(first.2.1,()))])
theorem zfX (r8:Nat->Int->Tp6->Tp7->Tp6->Option (Tp9×Bool)) (r8':Int->Tp6->Tp7->Tp6->Option (Tp9×Bool)) (h_r8:∀ a0 a1 a2 a3,ChO (fun κ=>r8 κ a0 a1 a2 a3) (r8' a0 a1 a2 a3)) (t:Int) (l_1:Tp6) (ways_4:Tp6) (ways_5:Tp7) (to:Int) (to_1:Int):ChO (fun κ=>zau t l_1 (r8 κ) ways_4 ways_5 to to_1) (zau t l_1 r8' ways_4 ways_5 to to_1):=by
  unfold zau
  repeat' with_reducible first | exact ChO.const _ | exact h_r8 _ _ _ _ | apply ChO.ite | apply ChO.G | apply ChO.both | (apply ChO.bind;intro _)
theorem zfc (r3:Nat->Tp6->Tp7->Tp6->Option (Tp9×Bool)) (r3':Tp6->Tp7->Tp6->Option (Tp9×Bool)) (h_r3:∀ a0 a1 a2,ChO (fun κ=>r3 κ a0 a1 a2) (r3' a0 a1 a2)) (r8:Nat->Int->Tp6->Tp7->Tp6->Option (Tp9×Bool)) (r8':Int->Tp6->Tp7->Tp6->Option (Tp9×Bool)) (h_r8:∀ a0 a1 a2 a3,ChO (fun κ=>r8 κ a0 a1 a2 a3) (r8' a0 a1 a2 a3)) (letters:Int) (c:Tp2) (t:Int) (ways_2:Tp6) (ways_3:Tp7) (l_1:Tp6):ChO (fun κ=>zbi letters c (r3 κ) (r8 κ) t ways_2 ways_3 l_1) (zbi letters c r3' r8' t ways_2 ways_3 l_1):=by
  unfold zbi
  repeat' with_reducible first | exact ChO.const _ | exact h_r3 _ _ _ | exact h_r8 _ _ _ _ | (apply zfX<;>assumption) | apply ChO.ite | apply ChO.G | apply ChO.both | (apply ChO.bind;intro _)
theorem zdY (r3:Tp6->Tp7->Tp6->Option (Tp9×Bool)) (letters:Int) (c:Tp2):Cn (zhJ letters c r3):=fun g h hg x=>zfc (fun _=>r3) r3 (fun _ _ _=>ChO.const _) (fun κ t ways_2 ways_3 l_1=>g κ (t,ways_2,ways_3,l_1)) (fun t ways_2 ways_3 l_1=>h (t,ways_2,ways_3,l_1)) (fun t ways_2 ways_3 l_1=>hg (t,ways_2,ways_3,l_1)) letters c x.1 x.2.1 x.2.2.1 x.2.2.2
theorem zgA (r3:Tp6->Tp7->Tp6->Option (Tp9×Bool)) (letters:Int) (c:Tp2) (t:Int) (ways_2:Tp6) (ways_3:Tp7) (l_1:Tp6):zbx letters c r3 t ways_2 ways_3 l_1=zbi letters c r3 (zbx letters c r3) t ways_2 ways_3 l_1:=zar (zdY r3 letters c) (t,ways_2,ways_3,l_1)
theorem zlF (r3:Nat->Tp6->Tp7->Tp6->Option (Tp9×Bool)) (r3':Tp6->Tp7->Tp6->Option (Tp9×Bool)) (h_r3:∀ a0 a1 a2,ChO (fun κ=>r3 κ a0 a1 a2) (r3' a0 a1 a2)) (letters:Int) (c:Tp2) (t:Int) (ways_2:Tp6) (ways_3:Tp7) (l_1:Tp6):ChO (fun κ=>zbx letters c (r3 κ) t ways_2 ways_3 l_1) (zbx letters c r3' t ways_2 ways_3 l_1):=by
  unfold zbx
  exact zdB (fun κ=>(zdY (r3 κ) letters c).mono) (zdY r3' letters c).mono (fun g h hg x=>zfc r3 r3' h_r3 (fun κ t ways_2 ways_3 l_1=>g κ (t,ways_2,ways_3,l_1)) (fun t ways_2 ways_3 l_1=>h (t,ways_2,ways_3,l_1)) (fun t ways_2 ways_3 l_1=>hg (t,ways_2,ways_3,l_1)) letters c x.1 x.2.1 x.2.2.1 x.2.2.2) _
theorem zjQ (r3:Nat->Tp6->Tp7->Tp6->Option (Tp9×Bool)) (r3':Tp6->Tp7->Tp6->Option (Tp9×Bool)) (h_r3:∀ a0 a1 a2,ChO (fun κ=>r3 κ a0 a1 a2) (r3' a0 a1 a2)) (letters:Int) (c:Tp2) (c_1:Tp2) (ways:Tp6) (ways_1:Tp7) (l:Tp6):ChO (fun κ=>zbh letters c c_1 (r3 κ) ways ways_1 l) (zbh letters c c_1 r3' ways ways_1 l):=by
  unfold zbh
  repeat' with_reducible first | exact ChO.const _ | exact h_r3 _ _ _ | (apply zfX<;>assumption) | (apply zlF<;>assumption) | apply ChO.ite | apply ChO.G | apply ChO.both | (apply ChO.bind;intro _)
theorem zlE  (letters:Int) (c:Tp2) (c_1:Tp2):Cn (zhI letters c c_1):=fun g h hg x=>zjQ  (fun κ ways ways_1 l=>g κ (ways,ways_1,l)) (fun ways ways_1 l=>h (ways,ways_1,l)) (fun ways ways_1 l=>hg (ways,ways_1,l)) letters c c_1 x.1 x.2.1 x.2.2
theorem zgz  (letters:Int) (c:Tp2) (c_1:Tp2) (ways:Tp6) (ways_1:Tp7) (l:Tp6):zeA letters c c_1 ways ways_1 l=zbh letters c c_1 (zeA letters c c_1) ways ways_1 l:=zar (zlE letters c c_1) (ways,ways_1,l)

def zdn (d:Tp2) (p:Int) (q:Int):Option (Tp9×Bool×Int):=
  (ze4 (d.1,(d.2.1,(d.2.2.1,(d.2.2.2.1,()))))).bind (fun y'=>
  if (decide (¬ y'=(0:Int)))=true then
  some ([],false,y') else
  if (decide (p < (0:Int)))=true then
  some ([],false,(2:Int)) else
  if (decide (q < (0:Int)))=true then
  some ([],false,(2:Int)) else
  if (decide ((d.2.2.1.length:Int)<=p))=true then
  some ([],false,(2:Int)) else
  if (decide ((d.2.2.1.length:Int)<=q))=true then
  some ([],false,(2:Int)) else
  (zlD (p,(q,())) d.1 (d.1,(d.2.1,(d.2.2.1,(d.2.2.2.1,())))) (d.1,(d.2.1,(d.2.2.1,(d.2.2.2.1,()))))).bind (fun y'_4=>
  some (y'_4.1,y'_4.2,(0:Int))))

def zbF (a:Tp2) (b:Tp2) (i_1:Int) (r9:(Int->Option (Bool))) (r14:Int->Option (Bool)) (k:Int):Option (Bool):=
  G (0<=i_1/\i_1 < (a.2.2.1.length:Int)) (
  if (decide (k < ((ix a.2.2.1 i_1).length:Int)))=true then
  G (0<=i_1/\i_1 < (a.2.2.1.length:Int)) (
  G (0<=k/\k < ((ix a.2.2.1 i_1).length:Int)) (
  G (0<=i_1/\i_1 < (b.2.2.1.length:Int)) (
  G (0<=k/\k < ((ix b.2.2.1 i_1).length:Int)) (
  if (decide (¬ (ix (ix a.2.2.1 i_1) k)=(ix (ix b.2.2.1 i_1) k)))=true then
  some false else
  G (fits (k+(1:Int))) (
  r14 (k+(1:Int))))))) else
  G (fits (i_1+(1:Int))) (
  r9 (i_1+(1:Int))))
def zjq (a:Tp2) (b:Tp2) (i_1:Int) (r9:(Int->Option (Bool))):(Int->Option (Bool))->Int->Option (Bool):=
  fun rec x=>zbF a b i_1 r9 (fun k=>rec k) x
def zco (a:Tp2) (b:Tp2) (i_1:Int) (r9:(Int->Option (Bool))) (k:Int):Option (Bool):=LFix (zjq a b i_1 r9 ) k
def zbR (a:Tp2) (b:Tp2) (r9:Int->Option (Bool)) (i_1:Int):Option (Bool):=
  if (decide (i_1 < (a.2.2.1.length:Int)))=true then
  G (0<=i_1/\i_1 < (a.2.2.1.length:Int)) (
  G (0<=i_1/\i_1 < (b.2.2.1.length:Int)) (
  if (decide (¬ ((ix a.2.2.1 i_1).length:Int)=((ix b.2.2.1 i_1).length:Int)))=true then
  some false else
  zco a b i_1 r9 (0:Int))) else
  some true
def zkN (a:Tp2) (b:Tp2):(Int->Option (Bool))->Int->Option (Bool):=
  fun rec x=>zbR a b (fun i_1=>rec i_1) x
def zht (a:Tp2) (b:Tp2) (i_1:Int):Option (Bool):=LFix (zkN a b ) i_1
def zbQ (a:Tp2) (b:Tp2) (r4:Int->Option (Bool)) (i:Int):Option (Bool):=
  if (decide (i < (a.2.2.2.1.length:Int)))=true then
  G (0<=i/\i < (a.2.2.2.1.length:Int)) (
  G (0<=i/\i < (b.2.2.2.1.length:Int)) (
  if (decide (¬ (ix a.2.2.2.1 i)=(ix b.2.2.2.1 i)))=true then
  some false else
  G (fits (i+(1:Int))) (
  r4 (i+(1:Int))))) else
  zht a b (0:Int)
def zkM (a:Tp2) (b:Tp2):(Int->Option (Bool))->Int->Option (Bool):=
  fun rec x=>zbQ a b (fun i=>rec i) x
def zhs (a:Tp2) (b:Tp2) (i:Int):Option (Bool):=LFix (zkM a b ) i
def zj6 (a:Tp2) (b:Tp2):Option (Bool):=
  if (decide (¬ a.1=b.1))=true then
  some false else
  if (decide (¬ a.2.1=b.2.1))=true then
  some false else
  if (decide (¬ (a.2.2.1.length:Int)=(b.2.2.1.length:Int)))=true then
  some false else
  if (decide (¬ (a.2.2.2.1.length:Int)=(b.2.2.2.1.length:Int)))=true then
  some false else
  zhs a b (0:Int)
theorem zf5 (r9:Nat->Int->Option (Bool)) (r9':Int->Option (Bool)) (h_r9:∀ a0,ChO (fun κ=>r9 κ a0) (r9' a0)) (r14:Nat->Int->Option (Bool)) (r14':Int->Option (Bool)) (h_r14:∀ a0,ChO (fun κ=>r14 κ a0) (r14' a0)) (a:Tp2) (b:Tp2) (i_1:Int) (k:Int):ChO (fun κ=>zbF a b i_1 (r9 κ) (r14 κ) k) (zbF a b i_1 r9' r14' k):=by
  unfold zbF
  repeat' with_reducible first | exact ChO.const _ | exact h_r9 _ | exact h_r14 _ | apply ChO.ite | apply ChO.G | apply ChO.both | (apply ChO.bind;intro _)
theorem zeW (r9:Int->Option (Bool)) (a:Tp2) (b:Tp2) (i_1:Int):Cn (zjq a b i_1 r9):=fun g h hg x=>zf5 (fun _=>r9) r9 (fun _=>ChO.const _) (fun κ k=>g κ k) (fun k=>h k) (fun k=>hg k) a b i_1 x
theorem zh0 (r9:Int->Option (Bool)) (a:Tp2) (b:Tp2) (i_1:Int) (k:Int):zco a b i_1 r9 k=zbF a b i_1 r9 (zco a b i_1 r9) k:=zar (zeW r9 a b i_1) k
theorem zhZ (r9:Nat->Int->Option (Bool)) (r9':Int->Option (Bool)) (h_r9:∀ a0,ChO (fun κ=>r9 κ a0) (r9' a0)) (a:Tp2) (b:Tp2) (i_1:Int) (k:Int):ChO (fun κ=>zco a b i_1 (r9 κ) k) (zco a b i_1 r9' k):=by
  unfold zco
  exact zdB (fun κ=>(zeW (r9 κ) a b i_1).mono) (zeW r9' a b i_1).mono (fun g h hg x=>zf5 r9 r9' h_r9 (fun κ k=>g κ k) (fun k=>h k) (fun k=>hg k) a b i_1 x) _
theorem zmp (r9:Nat->Int->Option (Bool)) (r9':Int->Option (Bool)) (h_r9:∀ a0,ChO (fun κ=>r9 κ a0) (r9' a0)) (a:Tp2) (b:Tp2) (i_1:Int):ChO (fun κ=>zbR a b (r9 κ) i_1) (zbR a b r9' i_1):=by
  unfold zbR
  repeat' with_reducible first | exact ChO.const _ | exact h_r9 _ | (apply zhZ<;>assumption) | apply ChO.ite | apply ChO.G | apply ChO.both | (apply ChO.bind;intro _)
theorem zom  (a:Tp2) (b:Tp2):Cn (zkN a b):=fun g h hg x=>zmp  (fun κ i_1=>g κ i_1) (fun i_1=>h i_1) (fun i_1=>hg i_1) a b x
theorem zjs  (a:Tp2) (b:Tp2) (i_1:Int):zht a b i_1=zbR a b (zht a b) i_1:=zar (zom a b) i_1
theorem zmo (r4:Nat->Int->Option (Bool)) (r4':Int->Option (Bool)) (h_r4:∀ a0,ChO (fun κ=>r4 κ a0) (r4' a0)) (a:Tp2) (b:Tp2) (i:Int):ChO (fun κ=>zbQ a b (r4 κ) i) (zbQ a b r4' i):=by
  unfold zbQ
  repeat' with_reducible first | exact ChO.const _ | exact h_r4 _ | (apply zhZ<;>assumption) | apply ChO.ite | apply ChO.G | apply ChO.both | (apply ChO.bind;intro _)
theorem zol  (a:Tp2) (b:Tp2):Cn (zkM a b):=fun g h hg x=>zmo  (fun κ i=>g κ i) (fun i=>h i) (fun i=>hg i) a b x
theorem zjr  (a:Tp2) (b:Tp2) (i:Int):zhs a b i=zbQ a b (zhs a b) i:=zar (zol a b) i

def zaM (d:Tp2) (i_1:Int) (r16:(Int->Option (Int))) (r19:Int->Option (Int)) (k:Int):Option (Int):=
  if (decide (k < d.1))=true then
  G (0<=i_1/\i_1 < (d.2.2.1.length:Int)) (
  G (0<=k/\k < ((ix d.2.2.1 i_1).length:Int)) (
  if (decide ((ix (ix d.2.2.1 i_1) k) < (0:Int)))=true then
  some (2:Int) else
  G (0<=i_1/\i_1 < (d.2.2.1.length:Int)) (
  G (0<=k/\k < ((ix d.2.2.1 i_1).length:Int)) (
  if (decide ((d.2.2.1.length:Int)<=(ix (ix d.2.2.1 i_1) k)))=true then
  some (2:Int) else
  G (fits (k+(1:Int))) (
  r19 (k+(1:Int))))))) else
  G (fits (i_1+(1:Int))) (
  r16 (i_1+(1:Int)))
def zhQ (d:Tp2) (i_1:Int) (r16:(Int->Option (Int))):(Int->Option (Int))->Int->Option (Int):=
  fun rec x=>zaM d i_1 r16 (fun k=>rec k) x
def zct (d:Tp2) (i_1:Int) (r16:(Int->Option (Int))) (k:Int):Option (Int):=LFix (zhQ d i_1 r16 ) k
def za2 (d:Tp2) (r24:Int->Option (Int)) (i_2:Int):Option (Int):=
  if (decide (i_2 < (d.2.2.1.length:Int)))=true then
  G (0<=i_2/\i_2 < (d.2.2.2.1.length:Int)) (
  if (decide (¬ (ix d.2.2.2.1 i_2)=(0:Int)))=true then
  G (0<=i_2/\i_2 < (d.2.2.2.1.length:Int)) (
  if (decide (¬ (ix d.2.2.2.1 i_2)=(1:Int)))=true then
  some (2:Int) else
  G (fits (i_2+(1:Int))) (
  r24 (i_2+(1:Int)))) else
  G (fits (i_2+(1:Int))) (
  r24 (i_2+(1:Int)))) else
  some (0:Int)
def zhR (d:Tp2):(Int->Option (Int))->Int->Option (Int):=
  fun rec x=>za2 d (fun i_2=>rec i_2) x
def zgW (d:Tp2) (i_2:Int):Option (Int):=LFix (zhR d ) i_2
def za1 (d:Tp2) (r16:Int->Option (Int)) (i_1:Int):Option (Int):=
  if (decide (i_1 < (d.2.2.1.length:Int)))=true then
  zct d i_1 r16 (0:Int) else
  zgW d (0:Int)
def zhP (d:Tp2):(Int->Option (Int))->Int->Option (Int):=
  fun rec x=>za1 d (fun i_1=>rec i_1) x
def zgV (d:Tp2) (i_1:Int):Option (Int):=LFix (zhP d ) i_1
def zbe (d:Tp2) (r9:Int->Option (Int)) (i:Int):Option (Int):=
  if (decide (i < (d.2.2.1.length:Int)))=true then
  G (0<=i/\i < (d.2.2.1.length:Int)) (
  if (decide (¬ ((ix d.2.2.1 i).length:Int)=d.1))=true then
  some (3:Int) else
  G (fits (i+(1:Int))) (
  r9 (i+(1:Int)))) else
  if (decide (d.2.1 < (0:Int)))=true then
  some (2:Int) else
  if (decide ((d.2.2.1.length:Int)<=d.2.1))=true then
  some (2:Int) else
  zgV d (0:Int)
def zjj (d:Tp2):(Int->Option (Int))->Int->Option (Int):=
  fun rec x=>zbe d (fun i=>rec i) x
def zin (d:Tp2) (i:Int):Option (Int):=LFix (zjj d ) i
def zji (d:Tp2):Option (Int):=
  if (decide (d.1 < (1:Int)))=true then
  some (2:Int) else
  if (decide ((4:Int) < d.1))=true then
  some (2:Int) else
  if (decide ((d.2.2.1.length:Int) < (1:Int)))=true then
  some (1:Int) else
  if (decide ((3000:Int) < (d.2.2.1.length:Int)))=true then
  some (1:Int) else
  if (decide (¬ (d.2.2.2.1.length:Int)=(d.2.2.1.length:Int)))=true then
  some (3:Int) else
  zin d (0:Int)
theorem zfj (r16:Nat->Int->Option (Int)) (r16':Int->Option (Int)) (h_r16:∀ a0,ChO (fun κ=>r16 κ a0) (r16' a0)) (r19:Nat->Int->Option (Int)) (r19':Int->Option (Int)) (h_r19:∀ a0,ChO (fun κ=>r19 κ a0) (r19' a0)) (d:Tp2) (i_1:Int) (k:Int):ChO (fun κ=>zaM d i_1 (r16 κ) (r19 κ) k) (zaM d i_1 r16' r19' k):=by
  unfold zaM
  repeat' with_reducible first | exact ChO.const _ | exact h_r16 _ | exact h_r19 _ | apply ChO.ite | apply ChO.G | apply ChO.both | (apply ChO.bind;intro _)
theorem zd6 (r16:Int->Option (Int)) (d:Tp2) (i_1:Int):Cn (zhQ d i_1 r16):=fun g h hg x=>zfj (fun _=>r16) r16 (fun _=>ChO.const _) (fun κ k=>g κ k) (fun k=>h k) (fun k=>hg k) d i_1 x
theorem zcI (r16:Int->Option (Int)) (d:Tp2) (i_1:Int) (k:Int):zct d i_1 r16 k=zaM d i_1 r16 (zct d i_1 r16) k:=zar (zd6 r16 d i_1) k
theorem zd5 (r16:Nat->Int->Option (Int)) (r16':Int->Option (Int)) (h_r16:∀ a0,ChO (fun κ=>r16 κ a0) (r16' a0)) (d:Tp2) (i_1:Int) (k:Int):ChO (fun κ=>zct d i_1 (r16 κ) k) (zct d i_1 r16' k):=by
  unfold zct
  exact zdB (fun κ=>(zd6 (r16 κ) d i_1).mono) (zd6 r16' d i_1).mono (fun g h hg x=>zfj r16 r16' h_r16 (fun κ k=>g κ k) (fun k=>h k) (fun k=>hg k) d i_1 x) _
theorem zj3 (r24:Nat->Int->Option (Int)) (r24':Int->Option (Int)) (h_r24:∀ a0,ChO (fun κ=>r24 κ a0) (r24' a0)) (d:Tp2) (i_2:Int):ChO (fun κ=>za2 d (r24 κ) i_2) (za2 d r24' i_2):=by
  unfold za2
  repeat' with_reducible first | exact ChO.const _ | exact h_r24 _ | (apply zd5<;>assumption) | apply ChO.ite | apply ChO.G | apply ChO.both | (apply ChO.bind;intro _)
theorem zmg  (d:Tp2):Cn (zhR d):=fun g h hg x=>zj3  (fun κ i_2=>g κ i_2) (fun i_2=>h i_2) (fun i_2=>hg i_2) d x
theorem zd7  (d:Tp2) (i_2:Int):zgW d i_2=za2 d (zgW d) i_2:=zar (zmg d) i_2
theorem zj2 (r16:Nat->Int->Option (Int)) (r16':Int->Option (Int)) (h_r16:∀ a0,ChO (fun κ=>r16 κ a0) (r16' a0)) (d:Tp2) (i_1:Int):ChO (fun κ=>za1 d (r16 κ) i_1) (za1 d r16' i_1):=by
  unfold za1
  repeat' with_reducible first | exact ChO.const _ | exact h_r16 _ | (apply zd5<;>assumption) | apply ChO.ite | apply ChO.G | apply ChO.both | (apply ChO.bind;intro _)
theorem zmf  (d:Tp2):Cn (zhP d):=fun g h hg x=>zj2  (fun κ i_1=>g κ i_1) (fun i_1=>h i_1) (fun i_1=>hg i_1) d x
theorem zd4  (d:Tp2) (i_1:Int):zgV d i_1=za1 d (zgV d) i_1:=zar (zmf d) i_1
theorem zk1 (r9:Nat->Int->Option (Int)) (r9':Int->Option (Int)) (h_r9:∀ a0,ChO (fun κ=>r9 κ a0) (r9' a0)) (d:Tp2) (i:Int):ChO (fun κ=>zbe d (r9 κ) i) (zbe d r9' i):=by
  unfold zbe
  repeat' with_reducible first | exact ChO.const _ | exact h_r9 _ | (apply zd5<;>assumption) | apply ChO.ite | apply ChO.G | apply ChO.both | (apply ChO.bind;intro _)
theorem zmY  (d:Tp2):Cn (zjj d):=fun g h hg x=>zk1  (fun κ i=>g κ i) (fun i=>h i) (fun i=>hg i) d x
theorem zeV  (d:Tp2) (i:Int):zin d i=zbe d (zin d) i:=zar (zmY d) i

def zo4 (d:Tp2):Option (Bool):=
  if (decide (d.1=(0:Int)))=true then
  if (decide (d.2.1=(0:Int)))=true then
  G (fits ((d.2.2.1.length:Int)+(d.2.2.2.1.length:Int))) (
  some (decide (((d.2.2.1.length:Int)+(d.2.2.2.1.length:Int))=(0:Int)))) else
  some false else
  some false

def zbk (q:Int) (next':Tp9) (r7:(Int->Int->Tp9->Tp9->Option Tp9)) (k_1:Int) (n_1:Int) (first_1:Tp9):Option Tp9:=
  G (0<=q/\q < (next'.length:Int)) (
  G ((q).toNat < next'.length) (
  G (fits (q+(1:Int))) (
  r7 n_1 (q+(1:Int)) (next'.set (q).toNat k_1) first_1)))
def zaN (n:Int) (q:Int) (next':Tp9) (first:Tp9) (r7:(Int->Int->Tp9->Tp9->Option Tp9)) (k_1:Int):Option Tp9:=
  if (decide (k_1=n))=true then
  G (room first ([q]) 8) (
  G (fits (n+(1:Int))) (
  zbk q next' r7 k_1 (n+(1:Int)) (first++([q])))) else
  zbk q next' r7 k_1 n first
def za3 (n:Int) (q:Int) (next':Tp9) (first:Tp9) (r7:(Int->Int->Tp9->Tp9->Option Tp9)) (k:Int) (r10:(Int->Option Tp9)) (same_1:Bool):Option Tp9:=
  if same_1=true then
  zaN n q next' first r7 k else
  G (fits (k+(1:Int))) (
  r10 (k+(1:Int)))
def zaH (d:Tp2) (class':Tp9) (n:Int) (q:Int) (next':Tp9) (first:Tp9) (r7:(Int->Int->Tp9->Tp9->Option Tp9)) (k:Int) (r10:(Int->Option Tp9)) (r14:Bool->Int->Option Tp9) (same:Bool) (a:Int):Option Tp9:=
  if (decide (a < d.1))=true then
  if same=true then
  G (0<=ix first k/\ix first k < (d.2.2.1.length:Int)) (
  G (0<=a/\a < ((ix d.2.2.1 (ix first k)).length:Int)) (
  G (0<=ix (ix d.2.2.1 (ix first k)) a/\ix (ix d.2.2.1 (ix first k)) a < (class'.length:Int)) (
  G ((ix (ix d.2.2.1 (ix first k)) a).toNat < class'.length) (
  G (0<=q/\q < (d.2.2.1.length:Int)) (
  G (0<=a/\a < ((ix d.2.2.1 q).length:Int)) (
  G (0<=ix (ix d.2.2.1 q) a/\ix (ix d.2.2.1 q) a < (class'.length:Int)) (
  G ((ix (ix d.2.2.1 q) a).toNat < class'.length) (
  G (fits (a+(1:Int))) (
  r14 (decide ((ix class' (ix (ix d.2.2.1 (ix first k)) a))=(ix class' (ix (ix d.2.2.1 q) a)))) (a+(1:Int))))))))))) else
  za3 n q next' first r7 k r10 same else
  za3 n q next' first r7 k r10 same
def zf1 (d:Tp2) (class':Tp9) (n:Int) (q:Int) (next':Tp9) (first:Tp9) (r7:(Int->Int->Tp9->Tp9->Option Tp9)) (k:Int) (r10:(Int->Option Tp9)):(Bool×Int->Option Tp9)->Bool×Int->Option Tp9:=
  fun rec x=>zaH d class' n q next' first r7 k r10 (fun same a=>rec (same,a)) x.1 x.2
def za4 (d:Tp2) (class':Tp9) (n:Int) (q:Int) (next':Tp9) (first:Tp9) (r7:(Int->Int->Tp9->Tp9->Option Tp9)) (k:Int) (r10:(Int->Option Tp9)) (same:Bool) (a:Int):Option Tp9:=LFix (zf1 d class' n q next' first r7 k r10 ) (same,a)
def zaU (d:Tp2) (class':Tp9) (n:Int) (q:Int) (next':Tp9) (first:Tp9) (r7:(Int->Int->Tp9->Tp9->Option Tp9)) (r10:Int->Option Tp9) (k:Int):Option Tp9:=
  if (decide (k < n))=true then
  G (0<=k/\k < (first.length:Int)) (
  G ((k).toNat < first.length) (
  G (0<=ix first k/\ix first k < (class'.length:Int)) (
  G ((ix first k).toNat < class'.length) (
  G (0<=q/\q < (class'.length:Int)) (
  G ((q).toNat < class'.length) (
  za4 d class' n q next' first r7 k r10 (decide ((ix class' (ix first k))=(ix class' q))) (0:Int))))))) else
  zaN n q next' first r7 k
def zf0 (d:Tp2) (class':Tp9) (n:Int) (q:Int) (next':Tp9) (first:Tp9) (r7:(Int->Int->Tp9->Tp9->Option Tp9)):(Int->Option Tp9)->Int->Option Tp9:=
  fun rec x=>zaU d class' n q next' first r7 (fun k=>rec k) x
def zaO (d:Tp2) (class':Tp9) (n:Int) (q:Int) (next':Tp9) (first:Tp9) (r7:(Int->Int->Tp9->Tp9->Option Tp9)) (k:Int):Option Tp9:=LFix (zf0 d class' n q next' first r7 ) k
def zba (d:Tp2) (count:Int) (class':Tp9) (r3:(Int->Tp9->Option Tp9)) (r7:Tf5) (n:Int) (q:Int) (next':Tp9) (first:Tp9):Option Tp9:=
  if (decide (q < (class'.length:Int)))=true then
  zaO d class' n q next' first r7 (0:Int) else
  if (decide (n=count))=true then
  some next' else
  r3 n next'
def zgY (d:Tp2) (count:Int) (class':Tp9) (r3:(Int->Tp9->Option Tp9)):(Int×Int×Tp9×Tp9->Option Tp9)->Int×Int×Tp9×Tp9->Option Tp9:=
  fun rec x=>zba d count class' r3 (fun n q next' first=>rec (n,q,next',first)) x.1 x.2.1 x.2.2.1 x.2.2.2
def zbf (d:Tp2) (count:Int) (class':Tp9) (r3:(Int->Tp9->Option Tp9)) (n:Int) (q:Int) (next':Tp9) (first:Tp9):Option Tp9:=LFix (zgY d count class' r3 ) (n,q,next',first)
def zbw (d:Tp2) (r3:Int->Tp9->Option Tp9) (count:Int) (class':Tp9):Option Tp9:=
  G (mkOK (class'.length:Int) (class'.length:Int) 8) (
  zbf d count class' r3 (0:Int) (0:Int) (List.replicate ((class'.length:Int)).toNat (0:Int)) ([]))
def zgX (d:Tp2):(Int×Tp9->Option Tp9)->Int×Tp9->Option Tp9:=
  fun rec x=>zbw d (fun count class'=>rec (count,class')) x.1 x.2
def zb3 (d:Tp2) (count:Int) (class':Tp9):Option Tp9:=LFix (zgX d ) (count,class')
def zhr (d:Tp2):Option Tp9:=
  G (room ([]:List Int) d.2.2.2.1 8) (
  zb3 d (0:Int) (([]:List Int)++d.2.2.2.1))
theorem za8 (r7:Nat->Tf5) (r7':Tf5) (h_r7:∀ a0 a1 a2 a3,ChO (fun κ=>r7 κ a0 a1 a2 a3) (r7' a0 a1 a2 a3)) (q:Int) (next':Tp9) (k_1:Int) (n_1:Int) (first_1:Tp9):ChO (fun κ=>zbk q next' (r7 κ) k_1 n_1 first_1) (zbk q next' r7' k_1 n_1 first_1):=by
  unfold zbk
  repeat' with_reducible first | exact ChO.const _ | exact h_r7 _ _ _ _ | apply ChO.ite | apply ChO.G | apply ChO.both | (apply ChO.bind;intro _)
theorem zbv (r7:Nat->Tf5) (r7':Tf5) (h_r7:∀ a0 a1 a2 a3,ChO (fun κ=>r7 κ a0 a1 a2 a3) (r7' a0 a1 a2 a3)) (n:Int) (q:Int) (next':Tp9) (first:Tp9) (k_1:Int):ChO (fun κ=>zaN n q next' first (r7 κ) k_1) (zaN n q next' first r7' k_1):=by
  unfold zaN
  repeat' with_reducible first | exact ChO.const _ | exact h_r7 _ _ _ _ | (apply za8<;>assumption) | apply ChO.ite | apply ChO.G | apply ChO.both | (apply ChO.bind;intro _)
theorem zb2 (r7:Nat->Tf5) (r7':Tf5) (h_r7:∀ a0 a1 a2 a3,ChO (fun κ=>r7 κ a0 a1 a2 a3) (r7' a0 a1 a2 a3)) (r10:Nat->Int->Option Tp9) (r10':Int->Option Tp9) (h_r10:∀ a0,ChO (fun κ=>r10 κ a0) (r10' a0)) (n:Int) (q:Int) (next':Tp9) (first:Tp9) (k:Int) (same_1:Bool):ChO (fun κ=>za3 n q next' first (r7 κ) k (r10 κ) same_1) (za3 n q next' first r7' k r10' same_1):=by
  unfold za3
  repeat' with_reducible first | exact ChO.const _ | exact h_r7 _ _ _ _ | exact h_r10 _ | (apply za8<;>assumption) | (apply zbv<;>assumption) | apply ChO.ite | apply ChO.G | apply ChO.both | (apply ChO.bind;intro _)
theorem zd9 (r7:Nat->Tf5) (r7':Tf5) (h_r7:∀ a0 a1 a2 a3,ChO (fun κ=>r7 κ a0 a1 a2 a3) (r7' a0 a1 a2 a3)) (r10:Nat->Int->Option Tp9) (r10':Int->Option Tp9) (h_r10:∀ a0,ChO (fun κ=>r10 κ a0) (r10' a0)) (r14:Nat->Bool->Int->Option Tp9) (r14':Bool->Int->Option Tp9) (h_r14:∀ a0 a1,ChO (fun κ=>r14 κ a0 a1) (r14' a0 a1)) (d:Tp2) (class':Tp9) (n:Int) (q:Int) (next':Tp9) (first:Tp9) (k:Int) (same:Bool) (a:Int):ChO (fun κ=>zaH d class' n q next' first (r7 κ) k (r10 κ) (r14 κ) same a) (zaH d class' n q next' first r7' k r10' r14' same a):=by
  unfold zaH
  repeat' with_reducible first | exact ChO.const _ | exact h_r7 _ _ _ _ | exact h_r10 _ | exact h_r14 _ _ | (apply za8<;>assumption) | (apply zbv<;>assumption) | (apply zb2<;>assumption) | apply ChO.ite | apply ChO.G | apply ChO.both | (apply ChO.bind;intro _)
theorem zdc (r7:Tf5) (r10:Int->Option Tp9) (d:Tp2) (class':Tp9) (n:Int) (q:Int) (next':Tp9) (first:Tp9) (k:Int):Cn (zf1 d class' n q next' first r7 k r10):=fun g h hg x=>zd9 (fun _=>r7) r7 (fun _ _ _ _=>ChO.const _) (fun _=>r10) r10 (fun _=>ChO.const _) (fun κ same a=>g κ (same,a)) (fun same a=>h (same,a)) (fun same a=>hg (same,a)) d class' n q next' first k x.1 x.2
theorem zdd (r7:Tf5) (r10:Int->Option Tp9) (d:Tp2) (class':Tp9) (n:Int) (q:Int) (next':Tp9) (first:Tp9) (k:Int) (same:Bool) (a:Int):za4 d class' n q next' first r7 k r10 same a=zaH d class' n q next' first r7 k r10 (za4 d class' n q next' first r7 k r10) same a:=zar (zdc r7 r10 d class' n q next' first k) (same,a)
theorem zdb (r7:Nat->Tf5) (r7':Tf5) (h_r7:∀ a0 a1 a2 a3,ChO (fun κ=>r7 κ a0 a1 a2 a3) (r7' a0 a1 a2 a3)) (r10:Nat->Int->Option Tp9) (r10':Int->Option Tp9) (h_r10:∀ a0,ChO (fun κ=>r10 κ a0) (r10' a0)) (d:Tp2) (class':Tp9) (n:Int) (q:Int) (next':Tp9) (first:Tp9) (k:Int) (same:Bool) (a:Int):ChO (fun κ=>za4 d class' n q next' first (r7 κ) k (r10 κ) same a) (za4 d class' n q next' first r7' k r10' same a):=by
  unfold za4
  exact zdB (fun κ=>(zdc (r7 κ) (r10 κ) d class' n q next' first k).mono) (zdc r7' r10' d class' n q next' first k).mono (fun g h hg x=>zd9 r7 r7' h_r7 r10 r10' h_r10 (fun κ same a=>g κ (same,a)) (fun same a=>h (same,a)) (fun same a=>hg (same,a)) d class' n q next' first k x.1 x.2) _
theorem zd8 (r7:Nat->Tf5) (r7':Tf5) (h_r7:∀ a0 a1 a2 a3,ChO (fun κ=>r7 κ a0 a1 a2 a3) (r7' a0 a1 a2 a3)) (r10:Nat->Int->Option Tp9) (r10':Int->Option Tp9) (h_r10:∀ a0,ChO (fun κ=>r10 κ a0) (r10' a0)) (d:Tp2) (class':Tp9) (n:Int) (q:Int) (next':Tp9) (first:Tp9) (k:Int):ChO (fun κ=>zaU d class' n q next' first (r7 κ) (r10 κ) k) (zaU d class' n q next' first r7' r10' k):=by
  unfold zaU
  repeat' with_reducible first | exact ChO.const _ | exact h_r7 _ _ _ _ | exact h_r10 _ | (apply za8<;>assumption) | (apply zbv<;>assumption) | (apply zb2<;>assumption) | (apply zdb<;>assumption) | apply ChO.ite | apply ChO.G | apply ChO.both | (apply ChO.bind;intro _)
theorem zda (r7:Tf5) (d:Tp2) (class':Tp9) (n:Int) (q:Int) (next':Tp9) (first:Tp9):Cn (zf0 d class' n q next' first r7):=fun g h hg x=>zd8 (fun _=>r7) r7 (fun _ _ _ _=>ChO.const _) (fun κ k=>g κ k) (fun k=>h k) (fun k=>hg k) d class' n q next' first x
theorem zfl (r7:Tf5) (d:Tp2) (class':Tp9) (n:Int) (q:Int) (next':Tp9) (first:Tp9) (k:Int):zaO d class' n q next' first r7 k=zaU d class' n q next' first r7 (zaO d class' n q next' first r7) k:=zar (zda r7 d class' n q next' first) k
theorem zfk (r7:Nat->Tf5) (r7':Tf5) (h_r7:∀ a0 a1 a2 a3,ChO (fun κ=>r7 κ a0 a1 a2 a3) (r7' a0 a1 a2 a3)) (d:Tp2) (class':Tp9) (n:Int) (q:Int) (next':Tp9) (first:Tp9) (k:Int):ChO (fun κ=>zaO d class' n q next' first (r7 κ) k) (zaO d class' n q next' first r7' k):=by
  unfold zaO
  exact zdB (fun κ=>(zda (r7 κ) d class' n q next' first).mono) (zda r7' d class' n q next' first).mono (fun g h hg x=>zd8 r7 r7' h_r7 (fun κ k=>g κ k) (fun k=>h k) (fun k=>hg k) d class' n q next' first x) _
theorem zeD (r3:Nat->Int->Tp9->Option Tp9) (r3':Int->Tp9->Option Tp9) (h_r3:∀ a0 a1,ChO (fun κ=>r3 κ a0 a1) (r3' a0 a1)) (r7:Nat->Tf5) (r7':Tf5) (h_r7:∀ a0 a1 a2 a3,ChO (fun κ=>r7 κ a0 a1 a2 a3) (r7' a0 a1 a2 a3)) (d:Tp2) (count:Int) (class':Tp9) (n:Int) (q:Int) (next':Tp9) (first:Tp9):ChO (fun κ=>zba d count class' (r3 κ) (r7 κ) n q next' first) (zba d count class' r3' r7' n q next' first):=by
  unfold zba
  repeat' with_reducible first | exact ChO.const _ | exact h_r3 _ _ | exact h_r7 _ _ _ _ | (apply za8<;>assumption) | (apply zbv<;>assumption) | (apply zb2<;>assumption) | (apply zdb<;>assumption) | (apply zfk<;>assumption) | apply ChO.ite | apply ChO.G | apply ChO.both | (apply ChO.bind;intro _)
theorem zdF (r3:Int->Tp9->Option Tp9) (d:Tp2) (count:Int) (class':Tp9):Cn (zgY d count class' r3):=fun g h hg x=>zeD (fun _=>r3) r3 (fun _ _=>ChO.const _) (fun κ n q next' first=>g κ (n,q,next',first)) (fun n q next' first=>h (n,q,next',first)) (fun n q next' first=>hg (n,q,next',first)) d count class' x.1 x.2.1 x.2.2.1 x.2.2.2
theorem zf2 (r3:Int->Tp9->Option Tp9) (d:Tp2) (count:Int) (class':Tp9) (n:Int) (q:Int) (next':Tp9) (first:Tp9):zbf d count class' r3 n q next' first=zba d count class' r3 (zbf d count class' r3) n q next' first:=zar (zdF r3 d count class') (n,q,next',first)
theorem zk4 (r3:Nat->Int->Tp9->Option Tp9) (r3':Int->Tp9->Option Tp9) (h_r3:∀ a0 a1,ChO (fun κ=>r3 κ a0 a1) (r3' a0 a1)) (d:Tp2) (count:Int) (class':Tp9) (n:Int) (q:Int) (next':Tp9) (first:Tp9):ChO (fun κ=>zbf d count class' (r3 κ) n q next' first) (zbf d count class' r3' n q next' first):=by
  unfold zbf
  exact zdB (fun κ=>(zdF (r3 κ) d count class').mono) (zdF r3' d count class').mono (fun g h hg x=>zeD r3 r3' h_r3 (fun κ n q next' first=>g κ (n,q,next',first)) (fun n q next' first=>h (n,q,next',first)) (fun n q next' first=>hg (n,q,next',first)) d count class' x.1 x.2.1 x.2.2.1 x.2.2.2) _
theorem zjl (r3:Nat->Int->Tp9->Option Tp9) (r3':Int->Tp9->Option Tp9) (h_r3:∀ a0 a1,ChO (fun κ=>r3 κ a0 a1) (r3' a0 a1)) (d:Tp2) (count:Int) (class':Tp9):ChO (fun κ=>zbw d (r3 κ) count class') (zbw d r3' count class'):=by
  unfold zbw
  repeat' with_reducible first | exact ChO.const _ | exact h_r3 _ _ | (apply za8<;>assumption) | (apply zbv<;>assumption) | (apply zb2<;>assumption) | (apply zdb<;>assumption) | (apply zfk<;>assumption) | (apply zk4<;>assumption) | apply ChO.ite | apply ChO.G | apply ChO.both | (apply ChO.bind;intro _)
theorem zk2  (d:Tp2):Cn (zgX d):=fun g h hg x=>zjl  (fun κ count class'=>g κ (count,class')) (fun count class'=>h (count,class')) (fun count class'=>hg (count,class')) d x.1 x.2
theorem zk3  (d:Tp2) (count:Int) (class':Tp9):zb3 d count class'=zbw d (zb3 d) count class':=zar (zk2 d) (count,class')

def zcu (d:Tp2) (y':Tp9) (i_1:Int) (a:Int) (row_1:Tp9) (next':Tp9) (r15:(Int->Tp9->Tp9->Tp9->Option Tp2)) (number_3:Tp9) (row_2:Tp9):Option Tp2:=
  G (0<=ix (ix d.2.2.1 (ix row_1 i_1)) a/\ix (ix d.2.2.1 (ix row_1 i_1)) a < (y'.length:Int)) (
  G ((ix (ix d.2.2.1 (ix row_1 i_1)) a).toNat < y'.length) (
  G (0<=ix y' (ix (ix d.2.2.1 (ix row_1 i_1)) a)/\ix y' (ix (ix d.2.2.1 (ix row_1 i_1)) a) < (number_3.length:Int)) (
  G ((ix y' (ix (ix d.2.2.1 (ix row_1 i_1)) a)).toNat < number_3.length) (
  G (0<=a/\a < (next'.length:Int)) (
  G ((a).toNat < next'.length) (
  G (fits (a+(1:Int))) (
  r15 (a+(1:Int)) number_3 row_2 (next'.set (a).toNat (ix number_3 (ix y' (ix (ix d.2.2.1 (ix row_1 i_1)) a)))))))))))
def zbl (d:Tp2) (y':Tp9) (i_1:Int) (out:Int) (out_1:Int) (out_2:Tp7) (out_3:Tp9) (r11:(Int->Tp9->Tp9->Int->Int->Tp7->Tp9->Option Tp2)) (r15:Tf6) (a:Int) (number_2:Tp9) (row_1:Tp9) (next':Tp9):Option Tp2:=
  if (decide (a < d.1))=true then
  G (0<=i_1/\i_1 < (row_1.length:Int)) (
  G ((i_1).toNat < row_1.length) (
  G (0<=ix row_1 i_1/\ix row_1 i_1 < (d.2.2.1.length:Int)) (
  G (0<=a/\a < ((ix d.2.2.1 (ix row_1 i_1)).length:Int)) (
  G (0<=ix (ix d.2.2.1 (ix row_1 i_1)) a/\ix (ix d.2.2.1 (ix row_1 i_1)) a < (y'.length:Int)) (
  G ((ix (ix d.2.2.1 (ix row_1 i_1)) a).toNat < y'.length) (
  G (0<=ix y' (ix (ix d.2.2.1 (ix row_1 i_1)) a)/\ix y' (ix (ix d.2.2.1 (ix row_1 i_1)) a) < (number_2.length:Int)) (
  G ((ix y' (ix (ix d.2.2.1 (ix row_1 i_1)) a)).toNat < number_2.length) (
  if (decide ((ix number_2 (ix y' (ix (ix d.2.2.1 (ix row_1 i_1)) a))) < (0:Int)))=true then
  G (0<=ix (ix d.2.2.1 (ix row_1 i_1)) a/\ix (ix d.2.2.1 (ix row_1 i_1)) a < (y'.length:Int)) (
  G ((ix (ix d.2.2.1 (ix row_1 i_1)) a).toNat < y'.length) (
  G (0<=ix y' (ix (ix d.2.2.1 (ix row_1 i_1)) a)/\ix y' (ix (ix d.2.2.1 (ix row_1 i_1)) a) < (number_2.length:Int)) (
  G ((ix y' (ix (ix d.2.2.1 (ix row_1 i_1)) a)).toNat < number_2.length) (
  G (room row_1 ([ix (ix d.2.2.1 (ix row_1 i_1)) a]) 8) (
  zcu d y' i_1 a row_1 next' r15 (number_2.set (ix y' (ix (ix d.2.2.1 (ix row_1 i_1)) a)).toNat (row_1.length:Int)) (row_1++([ix (ix d.2.2.1 (ix row_1 i_1)) a]))))))) else
  zcu d y' i_1 a row_1 next' r15 number_2 row_1)))))))) else
  G (room out_2 ([next']) 24) (
  G (0<=i_1/\i_1 < (row_1.length:Int)) (
  G ((i_1).toNat < row_1.length) (
  G (0<=ix row_1 i_1/\ix row_1 i_1 < (d.2.2.2.1.length:Int)) (
  G (room out_3 ([ix d.2.2.2.1 (ix row_1 i_1)]) 8) (
  G (fits (i_1+(1:Int))) (
  r11 (i_1+(1:Int)) number_2 row_1 out out_1 (out_2++([next'])) (out_3++([ix d.2.2.2.1 (ix row_1 i_1)]))))))))
def zhV (d:Tp2) (y':Tp9) (i_1:Int) (out:Int) (out_1:Int) (out_2:Tp7) (out_3:Tp9) (r11:(Int->Tp9->Tp9->Int->Int->Tp7->Tp9->Option Tp2)):(Int×Tp9×Tp9×Tp9->Option Tp2)->Int×Tp9×Tp9×Tp9->Option Tp2:=
  fun rec x=>zbl d y' i_1 out out_1 out_2 out_3 r11 (fun a number_2 row_1 next'=>rec (a,number_2,row_1,next')) x.1 x.2.1 x.2.2.1 x.2.2.2
def za5 (d:Tp2) (y':Tp9) (i_1:Int) (out:Int) (out_1:Int) (out_2:Tp7) (out_3:Tp9) (r11:(Int->Tp9->Tp9->Int->Int->Tp7->Tp9->Option Tp2)) (a:Int) (number_2:Tp9) (row_1:Tp9) (next':Tp9):Option Tp2:=LFix (zhV d y' i_1 out out_1 out_2 out_3 r11 ) (a,number_2,row_1,next')
def zbL (d:Tp2) (y':Tp9) (r11:Tf2) (i_1:Int) (number_1:Tp9) (row:Tp9) (out:Int) (out_1:Int) (out_2:Tp7) (out_3:Tp9):Option Tp2:=
  if (decide (i_1 < (row.length:Int)))=true then
  G (mkOK d.1 d.1 8) (
  za5 d y' i_1 out out_1 out_2 out_3 r11 (0:Int) number_1 row (List.replicate (d.1).toNat (0:Int))) else
  some (out,(out_1,(out_2,(out_3,()))))
def zhU (d:Tp2) (y':Tp9):(Int×Tp9×Tp9×Int×Int×Tp7×Tp9->Option Tp2)->Int×Tp9×Tp9×Int×Int×Tp7×Tp9->Option Tp2:=
  fun rec x=>zbL d y' (fun i_1 number_1 row out out_1 out_2 out_3=>rec (i_1,number_1,row,out,out_1,out_2,out_3)) x.1 x.2.1 x.2.2.1 x.2.2.2.1 x.2.2.2.2.1 x.2.2.2.2.2.1 x.2.2.2.2.2.2
def zds (d:Tp2) (y':Tp9) (i_1:Int) (number_1:Tp9) (row:Tp9) (out:Int) (out_1:Int) (out_2:Tp7) (out_3:Tp9):Option Tp2:=LFix (zhU d y' ) (i_1,number_1,row,out,out_1,out_2,out_3)
def zbD (d:Tp2) (y':Tp9) (r4:Int->Tp9->Option Tp2) (i:Int) (number:Tp9):Option Tp2:=
  if (decide (i < (number.length:Int)))=true then
  G (0<=i/\i < (number.length:Int)) (
  G ((i).toNat < number.length) (
  G (fits (i+(1:Int))) (
  r4 (i+(1:Int)) (number.set (i).toNat (-1:Int))))) else
  G (0<=d.2.1/\d.2.1 < (y'.length:Int)) (
  G ((d.2.1).toNat < y'.length) (
  G (0<=ix y' d.2.1/\ix y' d.2.1 < (number.length:Int)) (
  G ((ix y' d.2.1).toNat < number.length) (
  zds d y' (0:Int) (number.set (ix y' d.2.1).toNat (0:Int)) ([d.2.1]) d.1 (0:Int) ([]:List Tp9) ([]:List Int)))))
def zjn (d:Tp2) (y':Tp9):(Int×Tp9->Option Tp2)->Int×Tp9->Option Tp2:=
  fun rec x=>zbD d y' (fun i number=>rec (i,number)) x.1 x.2
def zcn (d:Tp2) (y':Tp9) (i:Int) (number:Tp9):Option Tp2:=LFix (zjn d y' ) (i,number)
def zlj (d:Tp2):Option Tp2:=
  (zhr (d.1,(d.2.1,(d.2.2.1,(d.2.2.2.1,()))))).bind (fun y'=>
  G (mkOK (y'.length:Int) (y'.length:Int) 8) (
  zcn d y' (0:Int) (List.replicate ((y'.length:Int)).toNat (0:Int))))
theorem zea (r15:Nat->Tf6) (r15':Tf6) (h_r15:∀ a0 a1 a2 a3,ChO (fun κ=>r15 κ a0 a1 a2 a3) (r15' a0 a1 a2 a3)) (d:Tp2) (y':Tp9) (i_1:Int) (a:Int) (row_1:Tp9) (next':Tp9) (number_3:Tp9) (row_2:Tp9):ChO (fun κ=>zcu d y' i_1 a row_1 next' (r15 κ) number_3 row_2) (zcu d y' i_1 a row_1 next' r15' number_3 row_2):=by
  unfold zcu
  repeat' with_reducible first | exact ChO.const _ | exact h_r15 _ _ _ _ | apply ChO.ite | apply ChO.G | apply ChO.both | (apply ChO.bind;intro _)
theorem zfm (r11:Nat->Tf2) (r11':Tf2) (h_r11:∀ a0 a1 a2 a3 a4 a5 a6,ChO (fun κ=>r11 κ a0 a1 a2 a3 a4 a5 a6) (r11' a0 a1 a2 a3 a4 a5 a6)) (r15:Nat->Tf6) (r15':Tf6) (h_r15:∀ a0 a1 a2 a3,ChO (fun κ=>r15 κ a0 a1 a2 a3) (r15' a0 a1 a2 a3)) (d:Tp2) (y':Tp9) (i_1:Int) (out:Int) (out_1:Int) (out_2:Tp7) (out_3:Tp9) (a:Int) (number_2:Tp9) (row_1:Tp9) (next':Tp9):ChO (fun κ=>zbl d y' i_1 out out_1 out_2 out_3 (r11 κ) (r15 κ) a number_2 row_1 next') (zbl d y' i_1 out out_1 out_2 out_3 r11' r15' a number_2 row_1 next'):=by
  unfold zbl
  repeat' with_reducible first | exact ChO.const _ | exact h_r11 _ _ _ _ _ _ _ | exact h_r15 _ _ _ _ | (apply zea<;>assumption) | apply ChO.ite | apply ChO.G | apply ChO.both | (apply ChO.bind;intro _)
theorem zeb (r11:Tf2) (d:Tp2) (y':Tp9) (i_1:Int) (out:Int) (out_1:Int) (out_2:Tp7) (out_3:Tp9):Cn (zhV d y' i_1 out out_1 out_2 out_3 r11):=fun g h hg x=>zfm (fun _=>r11) r11 (fun _ _ _ _ _ _ _=>ChO.const _) (fun κ a number_2 row_1 next'=>g κ (a,number_2,row_1,next')) (fun a number_2 row_1 next'=>h (a,number_2,row_1,next')) (fun a number_2 row_1 next'=>hg (a,number_2,row_1,next')) d y' i_1 out out_1 out_2 out_3 x.1 x.2.1 x.2.2.1 x.2.2.2
theorem zg0 (r11:Tf2) (d:Tp2) (y':Tp9) (i_1:Int) (out:Int) (out_1:Int) (out_2:Tp7) (out_3:Tp9) (a:Int) (number_2:Tp9) (row_1:Tp9) (next':Tp9):za5 d y' i_1 out out_1 out_2 out_3 r11 a number_2 row_1 next'=zbl d y' i_1 out out_1 out_2 out_3 r11 (za5 d y' i_1 out out_1 out_2 out_3 r11) a number_2 row_1 next':=zar (zeb r11 d y' i_1 out out_1 out_2 out_3) (a,number_2,row_1,next')
theorem zgZ (r11:Nat->Tf2) (r11':Tf2) (h_r11:∀ a0 a1 a2 a3 a4 a5 a6,ChO (fun κ=>r11 κ a0 a1 a2 a3 a4 a5 a6) (r11' a0 a1 a2 a3 a4 a5 a6)) (d:Tp2) (y':Tp9) (i_1:Int) (out:Int) (out_1:Int) (out_2:Tp7) (out_3:Tp9) (a:Int) (number_2:Tp9) (row_1:Tp9) (next':Tp9):ChO (fun κ=>za5 d y' i_1 out out_1 out_2 out_3 (r11 κ) a number_2 row_1 next') (za5 d y' i_1 out out_1 out_2 out_3 r11' a number_2 row_1 next'):=by
  unfold za5
  exact zdB (fun κ=>(zeb (r11 κ) d y' i_1 out out_1 out_2 out_3).mono) (zeb r11' d y' i_1 out out_1 out_2 out_3).mono (fun g h hg x=>zfm r11 r11' h_r11 (fun κ a number_2 row_1 next'=>g κ (a,number_2,row_1,next')) (fun a number_2 row_1 next'=>h (a,number_2,row_1,next')) (fun a number_2 row_1 next'=>hg (a,number_2,row_1,next')) d y' i_1 out out_1 out_2 out_3 x.1 x.2.1 x.2.2.1 x.2.2.2) _
theorem zj5 (r11:Nat->Tf2) (r11':Tf2) (h_r11:∀ a0 a1 a2 a3 a4 a5 a6,ChO (fun κ=>r11 κ a0 a1 a2 a3 a4 a5 a6) (r11' a0 a1 a2 a3 a4 a5 a6)) (d:Tp2) (y':Tp9) (i_1:Int) (number_1:Tp9) (row:Tp9) (out:Int) (out_1:Int) (out_2:Tp7) (out_3:Tp9):ChO (fun κ=>zbL d y' (r11 κ) i_1 number_1 row out out_1 out_2 out_3) (zbL d y' r11' i_1 number_1 row out out_1 out_2 out_3):=by
  unfold zbL
  repeat' with_reducible first | exact ChO.const _ | exact h_r11 _ _ _ _ _ _ _ | (apply zea<;>assumption) | (apply zgZ<;>assumption) | apply ChO.ite | apply ChO.G | apply ChO.both | (apply ChO.bind;intro _)
theorem zmj  (d:Tp2) (y':Tp9):Cn (zhU d y'):=fun g h hg x=>zj5  (fun κ i_1 number_1 row out out_1 out_2 out_3=>g κ (i_1,number_1,row,out,out_1,out_2,out_3)) (fun i_1 number_1 row out out_1 out_2 out_3=>h (i_1,number_1,row,out,out_1,out_2,out_3)) (fun i_1 number_1 row out out_1 out_2 out_3=>hg (i_1,number_1,row,out,out_1,out_2,out_3)) d y' x.1 x.2.1 x.2.2.1 x.2.2.2.1 x.2.2.2.2.1 x.2.2.2.2.2.1 x.2.2.2.2.2.2
theorem zmk  (d:Tp2) (y':Tp9) (i_1:Int) (number_1:Tp9) (row:Tp9) (out:Int) (out_1:Int) (out_2:Tp7) (out_3:Tp9):zds d y' i_1 number_1 row out out_1 out_2 out_3=zbL d y' (zds d y') i_1 number_1 row out out_1 out_2 out_3:=zar (zmj d y') (i_1,number_1,row,out,out_1,out_2,out_3)
theorem zk5 (r4:Nat->Int->Tp9->Option Tp2) (r4':Int->Tp9->Option Tp2) (h_r4:∀ a0 a1,ChO (fun κ=>r4 κ a0 a1) (r4' a0 a1)) (d:Tp2) (y':Tp9) (i:Int) (number:Tp9):ChO (fun κ=>zbD d y' (r4 κ) i number) (zbD d y' r4' i number):=by
  unfold zbD
  repeat' with_reducible first | exact ChO.const _ | exact h_r4 _ _ | (apply zea<;>assumption) | (apply zgZ<;>assumption) | apply ChO.ite | apply ChO.G | apply ChO.both | (apply ChO.bind;intro _)
theorem zmZ  (d:Tp2) (y':Tp9):Cn (zjn d y'):=fun g h hg x=>zk5  (fun κ i number=>g κ (i,number)) (fun i number=>h (i,number)) (fun i number=>hg (i,number)) d y' x.1 x.2
theorem zhW  (d:Tp2) (y':Tp9) (i:Int) (number:Tp9):zcn d y' i number=zbD d y' (zcn d y') i number:=zar (zmZ d y') (i,number)

def zc7 (c:Int) (c_1:Int) (l:Tp7) (l_1:Tp9):Option Tp5:=
  if (decide (c=(0:Int)))=true then
  if (decide (c_1=(0:Int)))=true then
  G (fits ((l.length:Int)+(l_1.length:Int))) (
  some (decide (((l.length:Int)+(l_1.length:Int))=(0:Int)),l,l_1)) else
  some (false,l,l_1) else
  some (false,l,l_1)

def zbb (b:Tp2) (l:Tp7) (l_1:Tp9) (i_1:Int) (r9:(Int->Option Tp5)) (r14:Int->Option Tp5) (k:Int):Option Tp5:=
  G (0<=i_1/\i_1 < (l.length:Int)) (
  G ((i_1).toNat < l.length) (
  G ((i_1).toNat < l.length) (
  if (decide (k < ((ix l i_1).length:Int)))=true then
  G (0<=i_1/\i_1 < (l.length:Int)) (
  G ((i_1).toNat < l.length) (
  G (0<=k/\k < ((ix l i_1).length:Int)) (
  G ((k).toNat < (ix l i_1).length) (
  G (0<=i_1/\i_1 < (b.2.2.1.length:Int)) (
  G (0<=k/\k < ((ix b.2.2.1 i_1).length:Int)) (
  if (decide (¬ (ix (ix l i_1) k)=(ix (ix b.2.2.1 i_1) k)))=true then
  some (false,l,l_1) else
  G (fits (k+(1:Int))) (
  r14 (k+(1:Int))))))))) else
  G (fits (i_1+(1:Int))) (
  r9 (i_1+(1:Int))))))
def zg2 (b:Tp2) (l:Tp7) (l_1:Tp9) (i_1:Int) (r9:(Int->Option Tp5)):(Int->Option Tp5)->Int->Option Tp5:=
  fun rec x=>zbb b l l_1 i_1 r9 (fun k=>rec k) x
def zbE (b:Tp2) (l:Tp7) (l_1:Tp9) (i_1:Int) (r9:(Int->Option Tp5)) (k:Int):Option Tp5:=LFix (zg2 b l l_1 i_1 r9 ) k
def zbn (b:Tp2) (l:Tp7) (l_1:Tp9) (r9:Int->Option Tp5) (i_1:Int):Option Tp5:=
  if (decide (i_1 < (l.length:Int)))=true then
  G (0<=i_1/\i_1 < (l.length:Int)) (
  G ((i_1).toNat < l.length) (
  G ((i_1).toNat < l.length) (
  G (0<=i_1/\i_1 < (b.2.2.1.length:Int)) (
  if (decide (¬ ((ix l i_1).length:Int)=((ix b.2.2.1 i_1).length:Int)))=true then
  some (false,l,l_1) else
  zbE b l l_1 i_1 r9 (0:Int))))) else
  some (true,l,l_1)
def zhY (b:Tp2) (l:Tp7) (l_1:Tp9):(Int->Option Tp5)->Int->Option Tp5:=
  fun rec x=>zbn b l l_1 (fun i_1=>rec i_1) x
def zeG (b:Tp2) (l:Tp7) (l_1:Tp9) (i_1:Int):Option Tp5:=LFix (zhY b l l_1 ) i_1
def zbm (b:Tp2) (l:Tp7) (l_1:Tp9) (r4:Int->Option Tp5) (i:Int):Option Tp5:=
  if (decide (i < (l_1.length:Int)))=true then
  G (0<=i/\i < (l_1.length:Int)) (
  G ((i).toNat < l_1.length) (
  G (0<=i/\i < (b.2.2.2.1.length:Int)) (
  if (decide (¬ (ix l_1 i)=(ix b.2.2.2.1 i)))=true then
  some (false,l,l_1) else
  G (fits (i+(1:Int))) (
  r4 (i+(1:Int)))))) else
  zeG b l l_1 (0:Int)
def zhX (b:Tp2) (l:Tp7) (l_1:Tp9):(Int->Option Tp5)->Int->Option Tp5:=
  fun rec x=>zbm b l l_1 (fun i=>rec i) x
def zeF (b:Tp2) (l:Tp7) (l_1:Tp9) (i:Int):Option Tp5:=LFix (zhX b l l_1 ) i
def zg1 (c:Int) (c_1:Int) (b:Tp2) (l:Tp7) (l_1:Tp9):Option Tp5:=
  if (decide (¬ c=b.1))=true then
  some (false,l,l_1) else
  if (decide (¬ c_1=b.2.1))=true then
  some (false,l,l_1) else
  if (decide (¬ (l.length:Int)=(b.2.2.1.length:Int)))=true then
  some (false,l,l_1) else
  if (decide (¬ (l_1.length:Int)=(b.2.2.2.1.length:Int)))=true then
  some (false,l,l_1) else
  zeF b l l_1 (0:Int)
theorem zeE (r9:Nat->Int->Option Tp5) (r9':Int->Option Tp5) (h_r9:∀ a0,ChO (fun κ=>r9 κ a0) (r9' a0)) (r14:Nat->Int->Option Tp5) (r14':Int->Option Tp5) (h_r14:∀ a0,ChO (fun κ=>r14 κ a0) (r14' a0)) (b:Tp2) (l:Tp7) (l_1:Tp9) (i_1:Int) (k:Int):ChO (fun κ=>zbb b l l_1 i_1 (r9 κ) (r14 κ) k) (zbb b l l_1 i_1 r9' r14' k):=by
  unfold zbb
  repeat' with_reducible first | exact ChO.const _ | exact h_r9 _ | exact h_r14 _ | apply ChO.ite | apply ChO.G | apply ChO.both | (apply ChO.bind;intro _)
theorem zdG (r9:Int->Option Tp5) (b:Tp2) (l:Tp7) (l_1:Tp9) (i_1:Int):Cn (zg2 b l l_1 i_1 r9):=fun g h hg x=>zeE (fun _=>r9) r9 (fun _=>ChO.const _) (fun κ k=>g κ k) (fun k=>h k) (fun k=>hg k) b l l_1 i_1 x
theorem zf4 (r9:Int->Option Tp5) (b:Tp2) (l:Tp7) (l_1:Tp9) (i_1:Int) (k:Int):zbE b l l_1 i_1 r9 k=zbb b l l_1 i_1 r9 (zbE b l l_1 i_1 r9) k:=zar (zdG r9 b l l_1 i_1) k
theorem zf3 (r9:Nat->Int->Option Tp5) (r9':Int->Option Tp5) (h_r9:∀ a0,ChO (fun κ=>r9 κ a0) (r9' a0)) (b:Tp2) (l:Tp7) (l_1:Tp9) (i_1:Int) (k:Int):ChO (fun κ=>zbE b l l_1 i_1 (r9 κ) k) (zbE b l l_1 i_1 r9' k):=by
  unfold zbE
  exact zdB (fun κ=>(zdG (r9 κ) b l l_1 i_1).mono) (zdG r9' b l l_1 i_1).mono (fun g h hg x=>zeE r9 r9' h_r9 (fun κ k=>g κ k) (fun k=>h k) (fun k=>hg k) b l l_1 i_1 x) _
theorem zj8 (r9:Nat->Int->Option Tp5) (r9':Int->Option Tp5) (h_r9:∀ a0,ChO (fun κ=>r9 κ a0) (r9' a0)) (b:Tp2) (l:Tp7) (l_1:Tp9) (i_1:Int):ChO (fun κ=>zbn b l l_1 (r9 κ) i_1) (zbn b l l_1 r9' i_1):=by
  unfold zbn
  repeat' with_reducible first | exact ChO.const _ | exact h_r9 _ | (apply zf3<;>assumption) | apply ChO.ite | apply ChO.G | apply ChO.both | (apply ChO.bind;intro _)
theorem zmn  (b:Tp2) (l:Tp7) (l_1:Tp9):Cn (zhY b l l_1):=fun g h hg x=>zj8  (fun κ i_1=>g κ i_1) (fun i_1=>h i_1) (fun i_1=>hg i_1) b l l_1 x
theorem zg4  (b:Tp2) (l:Tp7) (l_1:Tp9) (i_1:Int):zeG b l l_1 i_1=zbn b l l_1 (zeG b l l_1) i_1:=zar (zmn b l l_1) i_1
theorem zj7 (r4:Nat->Int->Option Tp5) (r4':Int->Option Tp5) (h_r4:∀ a0,ChO (fun κ=>r4 κ a0) (r4' a0)) (b:Tp2) (l:Tp7) (l_1:Tp9) (i:Int):ChO (fun κ=>zbm b l l_1 (r4 κ) i) (zbm b l l_1 r4' i):=by
  unfold zbm
  repeat' with_reducible first | exact ChO.const _ | exact h_r4 _ | (apply zf3<;>assumption) | apply ChO.ite | apply ChO.G | apply ChO.both | (apply ChO.bind;intro _)
theorem zmm  (b:Tp2) (l:Tp7) (l_1:Tp9):Cn (zhX b l l_1):=fun g h hg x=>zj7  (fun κ i=>g κ i) (fun i=>h i) (fun i=>hg i) b l l_1 x
theorem zg3  (b:Tp2) (l:Tp7) (l_1:Tp9) (i:Int):zeF b l l_1 i=zbm b l l_1 (zeF b l l_1) i:=zar (zmm b l l_1) i

def zdi (a b:Int) (l:List Tp9) (m:List Int):Option Unit:=some ()

def za6 (a:Tp2) (b:Tp2) (i:Int) (r5:(Int->Tp8->Tp9->Tp9->Tp7->Option Tp1)) (r8:Tf4) (k:Int) (seen_1:Tp8) (l_3:Tp9) (l_4:Tp9) (l_5:Tp7):Option Tp1:=
  if (decide (k < a.1))=true then
  G (0<=i/\i < (l_3.length:Int)) (
  G ((i).toNat < l_3.length) (
  G (0<=ix l_3 i/\ix l_3 i < (a.2.2.1.length:Int)) (
  G (0<=k/\k < ((ix a.2.2.1 (ix l_3 i)).length:Int)) (
  G (0<=i/\i < (l_4.length:Int)) (
  G ((i).toNat < l_4.length) (
  G (0<=ix l_4 i/\ix l_4 i < (b.2.2.1.length:Int)) (
  G (0<=k/\k < ((ix b.2.2.1 (ix l_4 i)).length:Int)) (
  G (fits ((ix (ix a.2.2.1 (ix l_3 i)) k) * (b.2.2.1.length:Int))) (
  G (fits (((ix (ix a.2.2.1 (ix l_3 i)) k) * (b.2.2.1.length:Int))+(ix (ix b.2.2.1 (ix l_4 i)) k))) (
  G (0<=((ix (ix a.2.2.1 (ix l_3 i)) k) * (b.2.2.1.length:Int))+(ix (ix b.2.2.1 (ix l_4 i)) k)/\((ix (ix a.2.2.1 (ix l_3 i)) k) * (b.2.2.1.length:Int))+(ix (ix b.2.2.1 (ix l_4 i)) k) < (seen_1.length:Int)) (
  G ((((ix (ix a.2.2.1 (ix l_3 i)) k) * (b.2.2.1.length:Int))+(ix (ix b.2.2.1 (ix l_4 i)) k)).toNat < seen_1.length) (
  if (ix seen_1 (((ix (ix a.2.2.1 (ix l_3 i)) k) * (b.2.2.1.length:Int))+(ix (ix b.2.2.1 (ix l_4 i)) k)))=true then
  G (fits (k+(1:Int))) (
  r8 (k+(1:Int)) seen_1 l_3 l_4 l_5) else
  G (fits ((ix (ix a.2.2.1 (ix l_3 i)) k) * (b.2.2.1.length:Int))) (
  G (fits (((ix (ix a.2.2.1 (ix l_3 i)) k) * (b.2.2.1.length:Int))+(ix (ix b.2.2.1 (ix l_4 i)) k))) (
  G (0<=((ix (ix a.2.2.1 (ix l_3 i)) k) * (b.2.2.1.length:Int))+(ix (ix b.2.2.1 (ix l_4 i)) k)/\((ix (ix a.2.2.1 (ix l_3 i)) k) * (b.2.2.1.length:Int))+(ix (ix b.2.2.1 (ix l_4 i)) k) < (seen_1.length:Int)) (
  G ((((ix (ix a.2.2.1 (ix l_3 i)) k) * (b.2.2.1.length:Int))+(ix (ix b.2.2.1 (ix l_4 i)) k)).toNat < seen_1.length) (
  G (0<=i/\i < (l_5.length:Int)) (
  G ((i).toNat < l_5.length) (
  G (room ([]:List Int) (ix l_5 i) 8) (
  G (room (([]:List Int)++(ix l_5 i)) ([k]) 8) (
  G (room l_3 ([ix (ix a.2.2.1 (ix l_3 i)) k]) 8) (
  G (room l_4 ([ix (ix b.2.2.1 (ix l_4 i)) k]) 8) (
  G (room l_5 ([(([]:List Int)++(ix l_5 i))++([k])]) 24) (
  G (fits (k+(1:Int))) (
  r8 (k+(1:Int)) (seen_1.set (((ix (ix a.2.2.1 (ix l_3 i)) k) * (b.2.2.1.length:Int))+(ix (ix b.2.2.1 (ix l_4 i)) k)).toNat true) (l_3++([ix (ix a.2.2.1 (ix l_3 i)) k])) (l_4++([ix (ix b.2.2.1 (ix l_4 i)) k])) (l_5++([(([]:List Int)++(ix l_5 i))++([k])])))))))))))))))))))))))))) else
  G (fits (i+(1:Int))) (
  r5 (i+(1:Int)) seen_1 l_3 l_4 l_5)
def zh2 (a:Tp2) (b:Tp2) (i:Int) (r5:(Int->Tp8->Tp9->Tp9->Tp7->Option Tp1)):(Int×Tp8×Tp9×Tp9×Tp7->Option Tp1)->Int×Tp8×Tp9×Tp9×Tp7->Option Tp1:=
  fun rec x=>za6 a b i r5 (fun k seen_1 l_3 l_4 l_5=>rec (k,seen_1,l_3,l_4,l_5)) x.1 x.2.1 x.2.2.1 x.2.2.2.1 x.2.2.2.2
def zbS (a:Tp2) (b:Tp2) (i:Int) (r5:(Int->Tp8->Tp9->Tp9->Tp7->Option Tp1)) (k:Int) (seen_1:Tp8) (l_3:Tp9) (l_4:Tp9) (l_5:Tp7):Option Tp1:=LFix (zh2 a b i r5 ) (k,seen_1,l_3,l_4,l_5)
def zbo (a:Tp2) (b:Tp2) (r5:Tf4) (i:Int) (seen:Tp8) (l:Tp9) (l_1:Tp9) (l_2:Tp7):Option Tp1:=
  if (decide (i < (l.length:Int)))=true then
  zbS a b i r5 (0:Int) seen l l_1 l_2 else
  some (l,(l_1,(l_2,())))
def zh1 (a:Tp2) (b:Tp2):(Int×Tp8×Tp9×Tp9×Tp7->Option Tp1)->Int×Tp8×Tp9×Tp9×Tp7->Option Tp1:=
  fun rec x=>zbo a b (fun i seen l l_1 l_2=>rec (i,seen,l,l_1,l_2)) x.1 x.2.1 x.2.2.1 x.2.2.2.1 x.2.2.2.2
def zdt (a:Tp2) (b:Tp2) (i:Int) (seen:Tp8) (l:Tp9) (l_1:Tp9) (l_2:Tp7):Option Tp1:=LFix (zh1 a b ) (i,seen,l,l_1,l_2)
def zjt (a:Tp2) (b:Tp2) (p:Int) (q:Int):Option Tp1:=
  G (fits ((a.2.2.1.length:Int) * (b.2.2.1.length:Int))) (
  G (mkOK ((a.2.2.1.length:Int) * (b.2.2.1.length:Int)) ((a.2.2.1.length:Int) * (b.2.2.1.length:Int)) 1) (
  G (fits (p * (b.2.2.1.length:Int))) (
  G (fits ((p * (b.2.2.1.length:Int))+q)) (
  G (0<=(p * (b.2.2.1.length:Int))+q/\(p * (b.2.2.1.length:Int))+q < ((List.replicate ((a.2.2.1.length:Int) * (b.2.2.1.length:Int)).toNat (false:Bool)).length:Int)) (
  G (((p * (b.2.2.1.length:Int))+q).toNat < (List.replicate ((a.2.2.1.length:Int) * (b.2.2.1.length:Int)).toNat (false:Bool)).length) (
  zdt a b (0:Int) ((List.replicate ((a.2.2.1.length:Int) * (b.2.2.1.length:Int)).toNat (false:Bool)).set ((p * (b.2.2.1.length:Int))+q).toNat true) ([p]) ([q]) ([([]:List Int)])))))))
theorem zfn (r5:Nat->Tf4) (r5':Tf4) (h_r5:∀ a0 a1 a2 a3 a4,ChO (fun κ=>r5 κ a0 a1 a2 a3 a4) (r5' a0 a1 a2 a3 a4)) (r8:Nat->Tf4) (r8':Tf4) (h_r8:∀ a0 a1 a2 a3 a4,ChO (fun κ=>r8 κ a0 a1 a2 a3 a4) (r8' a0 a1 a2 a3 a4)) (a:Tp2) (b:Tp2) (i:Int) (k:Int) (seen_1:Tp8) (l_3:Tp9) (l_4:Tp9) (l_5:Tp7):ChO (fun κ=>za6 a b i (r5 κ) (r8 κ) k seen_1 l_3 l_4 l_5) (za6 a b i r5' r8' k seen_1 l_3 l_4 l_5):=by
  unfold za6
  repeat' with_reducible first | exact ChO.const _ | exact h_r5 _ _ _ _ _ | exact h_r8 _ _ _ _ _ | apply ChO.ite | apply ChO.G | apply ChO.both | (apply ChO.bind;intro _)
theorem zec (r5:Tf4) (a:Tp2) (b:Tp2) (i:Int):Cn (zh2 a b i r5):=fun g h hg x=>zfn (fun _=>r5) r5 (fun _ _ _ _ _=>ChO.const _) (fun κ k seen_1 l_3 l_4 l_5=>g κ (k,seen_1,l_3,l_4,l_5)) (fun k seen_1 l_3 l_4 l_5=>h (k,seen_1,l_3,l_4,l_5)) (fun k seen_1 l_3 l_4 l_5=>hg (k,seen_1,l_3,l_4,l_5)) a b i x.1 x.2.1 x.2.2.1 x.2.2.2.1 x.2.2.2.2
theorem zed (r5:Tf4) (a:Tp2) (b:Tp2) (i:Int) (k:Int) (seen_1:Tp8) (l_3:Tp9) (l_4:Tp9) (l_5:Tp7):zbS a b i r5 k seen_1 l_3 l_4 l_5=za6 a b i r5 (zbS a b i r5) k seen_1 l_3 l_4 l_5:=zar (zec r5 a b i) (k,seen_1,l_3,l_4,l_5)
theorem zmt (r5:Nat->Tf4) (r5':Tf4) (h_r5:∀ a0 a1 a2 a3 a4,ChO (fun κ=>r5 κ a0 a1 a2 a3 a4) (r5' a0 a1 a2 a3 a4)) (a:Tp2) (b:Tp2) (i:Int) (k:Int) (seen_1:Tp8) (l_3:Tp9) (l_4:Tp9) (l_5:Tp7):ChO (fun κ=>zbS a b i (r5 κ) k seen_1 l_3 l_4 l_5) (zbS a b i r5' k seen_1 l_3 l_4 l_5):=by
  unfold zbS
  exact zdB (fun κ=>(zec (r5 κ) a b i).mono) (zec r5' a b i).mono (fun g h hg x=>zfn r5 r5' h_r5 (fun κ k seen_1 l_3 l_4 l_5=>g κ (k,seen_1,l_3,l_4,l_5)) (fun k seen_1 l_3 l_4 l_5=>h (k,seen_1,l_3,l_4,l_5)) (fun k seen_1 l_3 l_4 l_5=>hg (k,seen_1,l_3,l_4,l_5)) a b i x.1 x.2.1 x.2.2.1 x.2.2.2.1 x.2.2.2.2) _
theorem zj9 (r5:Nat->Tf4) (r5':Tf4) (h_r5:∀ a0 a1 a2 a3 a4,ChO (fun κ=>r5 κ a0 a1 a2 a3 a4) (r5' a0 a1 a2 a3 a4)) (a:Tp2) (b:Tp2) (i:Int) (seen:Tp8) (l:Tp9) (l_1:Tp9) (l_2:Tp7):ChO (fun κ=>zbo a b (r5 κ) i seen l l_1 l_2) (zbo a b r5' i seen l l_1 l_2):=by
  unfold zbo
  repeat' with_reducible first | exact ChO.const _ | exact h_r5 _ _ _ _ _ | (apply zmt<;>assumption) | apply ChO.ite | apply ChO.G | apply ChO.both | (apply ChO.bind;intro _)
theorem zms  (a:Tp2) (b:Tp2):Cn (zh1 a b):=fun g h hg x=>zj9  (fun κ i seen l l_1 l_2=>g κ (i,seen,l,l_1,l_2)) (fun i seen l l_1 l_2=>h (i,seen,l,l_1,l_2)) (fun i seen l l_1 l_2=>hg (i,seen,l,l_1,l_2)) a b x.1 x.2.1 x.2.2.1 x.2.2.2.1 x.2.2.2.2
theorem zg5  (a:Tp2) (b:Tp2) (i:Int) (seen:Tp8) (l:Tp9) (l_1:Tp9) (l_2:Tp7):zdt a b i seen l l_1 l_2=zbo a b (zdt a b) i seen l l_1 l_2:=zar (zms a b) (i,seen,l,l_1,l_2)

def zbC (a:Tp2) (b:Tp2) (y':Tp1) (r3:Int->Option (Tp9×Bool)) (i:Int):Option (Tp9×Bool):=
  if (decide (i < (y'.1.length:Int)))=true then
  G (0<=i/\i < (y'.1.length:Int)) (
  G (0<=ix y'.1 i/\ix y'.1 i < (a.2.2.2.1.length:Int)) (
  G (0<=i/\i < (y'.2.1.length:Int)) (
  G (0<=ix y'.2.1 i/\ix y'.2.1 i < (b.2.2.2.1.length:Int)) (
  if (decide (¬ (ix a.2.2.2.1 (ix y'.1 i))=(ix b.2.2.2.1 (ix y'.2.1 i))))=true then
  G (0<=i/\i < (y'.2.2.1.length:Int)) (
  some (ix y'.2.2.1 i,true)) else
  G (fits (i+(1:Int))) (
  r3 (i+(1:Int))))))) else
  some ([],false)
def zjh (a:Tp2) (b:Tp2) (y':Tp1):(Int->Option (Tp9×Bool))->Int->Option (Tp9×Bool):=
  fun rec x=>zbC a b y' (fun i=>rec i) x
def zd3 (a:Tp2) (b:Tp2) (y':Tp1) (i:Int):Option (Tp9×Bool):=LFix (zjh a b y' ) i
def zli (a:Tp2) (b:Tp2) (p:Int) (q:Int):Option (Tp9×Bool):=
  (zjt (a.1,(a.2.1,(a.2.2.1,(a.2.2.2.1,())))) (b.1,(b.2.1,(b.2.2.1,(b.2.2.2.1,())))) p q).bind (fun y'=>
  zd3 a b y' (0:Int))
theorem zk0 (r3:Nat->Int->Option (Tp9×Bool)) (r3':Int->Option (Tp9×Bool)) (h_r3:∀ a0,ChO (fun κ=>r3 κ a0) (r3' a0)) (a:Tp2) (b:Tp2) (y':Tp1) (i:Int):ChO (fun κ=>zbC a b y' (r3 κ) i) (zbC a b y' r3' i):=by
  unfold zbC
  repeat' with_reducible first | exact ChO.const _ | exact h_r3 _ | apply ChO.ite | apply ChO.G | apply ChO.both | (apply ChO.bind;intro _)
theorem zmX  (a:Tp2) (b:Tp2) (y':Tp1):Cn (zjh a b y'):=fun g h hg x=>zk0  (fun κ i=>g κ i) (fun i=>h i) (fun i=>hg i) a b y' x
theorem zhO  (a:Tp2) (b:Tp2) (y':Tp1) (i:Int):zd3 a b y' i=zbC a b y' (zd3 a b y') i:=zar (zmX a b y') i

def zbB (a:Tp9) (b:Tp9) (r4:Int->Option (Bool)) (i:Int):Option (Bool):=
  if (decide (i < (a.length:Int)))=true then
  G (0<=i/\i < (a.length:Int)) (
  G (0<=i/\i < (b.length:Int)) (
  if (decide (¬ (ix a i)=(ix b i)))=true then
  some false else
  G (fits (i+(1:Int))) (
  r4 (i+(1:Int))))) else
  some true
def zjg (a:Tp9) (b:Tp9):(Int->Option (Bool))->Int->Option (Bool):=
  fun rec x=>zbB a b (fun i=>rec i) x
def zfO (a:Tp9) (b:Tp9) (i:Int):Option (Bool):=LFix (zjg a b ) i
def zlh (a:Tp9) (b:Tp9):Option (Bool):=
  if (decide (¬ (a.length:Int)=(b.length:Int)))=true then
  some false else
  zfO a b (0:Int)
theorem zkY (r4:Nat->Int->Option (Bool)) (r4':Int->Option (Bool)) (h_r4:∀ a0,ChO (fun κ=>r4 κ a0) (r4' a0)) (a:Tp9) (b:Tp9) (i:Int):ChO (fun κ=>zbB a b (r4 κ) i) (zbB a b r4' i):=by
  unfold zbB
  repeat' with_reducible first | exact ChO.const _ | exact h_r4 _ | apply ChO.ite | apply ChO.G | apply ChO.both | (apply ChO.bind;intro _)
theorem zmW  (a:Tp9) (b:Tp9):Cn (zjg a b):=fun g h hg x=>zkY  (fun κ i=>g κ i) (fun i=>h i) (fun i=>hg i) a b x
theorem zhN  (a:Tp9) (b:Tp9) (i:Int):zfO a b i=zbB a b (zfO a b) i:=zar (zmW a b) i

def zgK (d:Tp2) (p:Int) (q:Int):Option (Bool):=
  (ziU (d.1,(d.2.1,(d.2.2.1,(d.2.2.2.1,()))))).bind (fun y'=>
  (ze8 (y'.1,(y'.2.1,(y'.2.2.1,(y'.2.2.2.1,()))))).bind (fun y'_31=>
  (zdn (y'.1,(y'.2.1,(y'.2.2.1,(y'.2.2.2.1,())))) p q).bind (fun y'_30=>
  (zj6 (y'.1,(y'.2.1,(y'.2.2.1,(y'.2.2.2.1,())))) (d.1,(d.2.1,(d.2.2.1,(d.2.2.2.1,()))))).bind (fun y'_11=>
  (zji (d.1,(d.2.1,(d.2.2.1,(d.2.2.2.1,()))))).bind (fun y'_12=>
  (zc7 y'_31.1 y'_31.2.1 y'_31.2.2.1 y'_31.2.2.2.1).bind (fun y'_29=>
  if (!y'_11)=true then
  some false else
  if (decide (¬ y'_12=(0:Int)))=true then
  if (decide (y'_31.2.2.2.2=y'_12))=true then
  if (decide (y'_30.2.2=y'_12))=true then
  if y'_29.1=true then
  if (!y'_30.2.1)=true then
  some (decide ((y'_30.1.length:Int)=(0:Int))) else
  some false else
  some false else
  some false else
  some false else
  (zlj (d.1,(d.2.1,(d.2.2.1,(d.2.2.2.1,()))))).bind (fun y'_17=>
  (zg1 y'_31.1 y'_31.2.1 (y'_17.1,(y'_17.2.1,(y'_17.2.2.1,(y'_17.2.2.2.1,())))) y'_29.2.1 y'_29.2.2).bind (fun y'_28=>
  if (decide (¬ y'_31.2.2.2.2=(0:Int)))=true then
  some false else
  if (!y'_28.1)=true then
  some false else
  (zdi y'_31.1 y'_31.2.1 y'_28.2.1 y'_28.2.2).bind (fun _=>
  (zj6 (y'.1,(y'.2.1,(y'.2.2.1,(y'.2.2.2.1,())))) (d.1,(d.2.1,(d.2.2.1,(d.2.2.2.1,()))))).bind (fun y'_22=>
  if (!y'_22)=true then
  some false else
  if (decide (p < (0:Int)))=true then
  if (decide (y'_30.2.2=(2:Int)))=true then
  if (!y'_30.2.1)=true then
  some (decide ((y'_30.1.length:Int)=(0:Int))) else
  some false else
  some false else
  if (decide (q < (0:Int)))=true then
  if (decide (y'_30.2.2=(2:Int)))=true then
  if (!y'_30.2.1)=true then
  some (decide ((y'_30.1.length:Int)=(0:Int))) else
  some false else
  some false else
  if (decide ((d.2.2.1.length:Int)<=p))=true then
  if (decide (y'_30.2.2=(2:Int)))=true then
  if (!y'_30.2.1)=true then
  some (decide ((y'_30.1.length:Int)=(0:Int))) else
  some false else
  some false else
  if (decide ((d.2.2.1.length:Int)<=q))=true then
  if (decide (y'_30.2.2=(2:Int)))=true then
  if (!y'_30.2.1)=true then
  some (decide ((y'_30.1.length:Int)=(0:Int))) else
  some false else
  some false else
  (zli (d.1,(d.2.1,(d.2.2.1,(d.2.2.2.1,())))) (d.1,(d.2.1,(d.2.2.1,(d.2.2.2.1,())))) p q).bind (fun y'_27=>
  (zlh y'_30.1 y'_27.1).bind (fun y'_26=>
  if (decide (y'_30.2.2=(0:Int)))=true then
  if (decide (y'_30.2.1=y'_27.2))=true then
  some y'_26 else
  some false else
  some false))))))))))))

end
end Go.Proofs.Ytjkfhpgglcnggaa.detLeastW
