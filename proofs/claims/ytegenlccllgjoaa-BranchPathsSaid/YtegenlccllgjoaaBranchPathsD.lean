/- What the functions that 'BranchPaths' reaches compute: plain functions. -/
import Derived.Test.YtegenlccllgjoaaEv29n21
set_option maxHeartbeats 1000000
set_option maxRecDepth 20000
set_option linter.unusedSimpArgs false
set_option linter.unusedVariables false
set_option linter.unusedSectionVars false
namespace Go.Proofs.Ytegenlccllgjoaa.branchPathsW
open Go Go.Ab
noncomputable section
abbrev Tp17:=(List Int)
abbrev Tp16:=(List Bool)
abbrev Tp15:=(List Tp17)
abbrev Tp14:=(Int×Int×Int×Unit)
abbrev Tp13:=(Int×Bool×Int×Unit)
abbrev Tp12:=(List Tp14)
abbrev Tp11:=(Tp17×Tp17×Unit)
abbrev Tp10:=(Int×Bool×Int×Int×Int×Unit)
abbrev Tc8:Ty:=(.pair (.list (.list (.int .i64))) .unit)
abbrev Tp9:=(List Tp10)
abbrev Tc7:Ty:=(.pair (.int .i64) (.pair (.int .i64) .unit))
abbrev Tp8:=(Tp11×Tp16)
abbrev Tp7:=(Int×Int×Tp12×Unit)
abbrev Tp6:=(Int×Int×Int×Tp12×Unit)
abbrev Tc6:Ty:=(.pair (.int .i64) Tc7)
abbrev Tc5:Ty:=(.list Tc6)
abbrev Tp5:=(Tp7×Tp15×Unit)
abbrev Tc4:Ty:=(.pair Tc5 .unit)
abbrev Tp4:=(Bool×Tp7×Tp15×Unit)
abbrev Tp3:=(Tp16×Tp7×Tp15×Unit)
abbrev Tc3:Ty:=(.pair (.int .i64) Tc4)
abbrev Tp2:=(Tp16×Tp16×Tp7×Tp15×Unit)
abbrev Tp1:=(Tp16×Tp16×Tp16×Tp7×Tp15×Unit)
abbrev Tc2:Ty:=(.pair (.int .i64) Tc3)
abbrev Tc1:Ty:=(.pair Tc2 Tc8)
abbrev Tf1:=Tp16->Tp16->Int->Tp5->Tp16->Option Tp3
abbrev Tf2:=Int->Tp16->Tp5->Tp16->Tp16->Option Tp1
abbrev Tf3:=Int->Int->Int->Tp12->Tp15->Option Tp5
abbrev Tf4:=Int->Tp17->Tp17->Tp17->Option Tp17
abbrev Tf5:=Tp16->Int->Tp5->Tp16->Option Tp3
abbrev Tf6:=Int->Tp5->Tp16->Tp16->Option Tp2
abbrev Tf7:=Tp17->Tp17->Tp17->Option Tp17
abbrev Tf8:=Tp5->Tp16->Tp16->Option Tp16
abbrev Tf9:=Int->Int->Tp17->Option Tp17
def zjB (p:Int) (t:Tp7):Option (Bool):=
  if (decide (p < (0:Int)))=true then
  some true else
  some (decide (t.2.1<=p))

def zjC (x':Tp14) (t:Tp7) (c:Tp7):Option (Bool×Int×Int×Tp12×Unit):=
  (zjB x'.1 c).bind (fun y'=>
  if y'=true then
  some (true,c) else
  (zjB x'.2.2.1 c).bind (fun y'_1=>
  if y'_1=true then
  some (true,c) else
  if (decide (x'.2.1 < (0:Int)))=true then
  some (true,c) else
  some (decide (t.1<=x'.2.1),c)))

def zcS (s:Tp12) (r2:Tp7->Int->Tp7->Option Tp6) (f:Tp7) (t:Int) (l:Tp7):Option Tp6:=
  if (decide (t < (s.length:Int)))=true then
  G (0<=t/\t < (s.length:Int)) (
  (zjC (ix s t) f l).bind (fun y'_3=>
  if y'_3.1=true then
  some (t,y'_3.2) else
  G (fits (t+(1:Int))) (
  r2 f (t+(1:Int)) y'_3.2))) else
  some ((-1:Int),l)
def zjL (s:Tp12):(Tp7×Int×Int×Int×Tp12×Unit->Option Tp6)->Tp7×Int×Int×Int×Tp12×Unit->Option Tp6:=
  fun rec x=>zcS s (fun f t l=>rec (f,t,l)) x.1 x.2.1 x.2.2
def zgR (s:Tp12) (f:Tp7) (t:Int) (l:Tp7):Option Tp6:=LFix (zjL s ) (f,t,l)
def zoa (s:Tp12) (c:Tp7) (c_1:Tp7):Option Tp6:=
  zgR s c (0:Int) c_1
theorem znc (r2:Nat->Tp7->Int->Tp7->Option Tp6) (r2':Tp7->Int->Tp7->Option Tp6) (h_r2:∀ a0 a1 a2,ChO (fun κ=>r2 κ a0 a1 a2) (r2' a0 a1 a2)) (s:Tp12) (f:Tp7) (t:Int) (l:Tp7):ChO (fun κ=>zcS s (r2 κ) f t l) (zcS s r2' f t l):=by
  unfold zcS
  repeat' with_reducible first | exact ChO.const _ | exact h_r2 _ _ _ | apply ChO.ite | apply ChO.G | apply ChO.both | (apply ChO.bind;intro _)
theorem zom  (s:Tp12):Cn (zjL s):=fun g h hg x=>znc  (fun κ f t l=>g κ (f,t,l)) (fun f t l=>h (f,t,l)) (fun f t l=>hg (f,t,l)) s x.1 x.2.1 x.2.2
theorem zon  (s:Tp12) (f:Tp7) (t:Int) (l:Tp7):zgR s f t l=zcS s (zgR s) f t l:=zaz (zom s) (f,t,l)

def zgQ (s:Tp12) (c:Tp7) (c_1:Tp7):Option (Bool×Int×Int×Tp12×Unit):=
  (zoa s c c_1).bind (fun y'_3=>
  some (decide ((0:Int)<=y'_3.1),y'_3.2))

def zqU (x':Int):Option (Bool):=
  some (decide (¬ x'=x'))

def zi1 (x':Int) (y':Int):Option (Int):=
  (zqU x').bind (fun y'_1=>
  (zqU y').bind (fun y'_2=>
  if y'_1=true then
  if y'_2=true then
  some (0:Int) else
  some (-1:Int) else
  if y'_2=true then
  some (1:Int) else
  if (decide (x' < y'))=true then
  some (-1:Int) else
  if (decide (y' < x'))=true then
  some (1:Int) else
  some (0:Int)))

def zeF (vals:Tp17) (r3:Int->Option (Int)) (t:Int):Option (Int):=
  if (decide (t < (vals.length:Int)))=true then
  G (0<=t/\t < (vals.length:Int)) (
  if (decide (¬ (ix vals t)=(0:Int)))=true then
  some (ix vals t) else
  G (fits (t+(1:Int))) (
  r3 (t+(1:Int)))) else
  some (0:Int)
def zt8 (vals:Tp17):(Int->Option (Int))->Int->Option (Int):=
  fun rec x=>zeF vals (fun t=>rec t) x
def zt7 (vals:Tp17) (t:Int):Option (Int):=LFix (zt8 vals ) t
def zyO (vals:Tp17):Option (Int):=
  zt7 vals (0:Int)
theorem zu4 (r3:Nat->Int->Option (Int)) (r3':Int->Option (Int)) (h_r3:∀ a0,ChO (fun κ=>r3 κ a0) (r3' a0)) (vals:Tp17) (t:Int):ChO (fun κ=>zeF vals (r3 κ) t) (zeF vals r3' t):=by
  unfold zeF
  repeat' with_reducible first | exact ChO.const _ | exact h_r3 _ | apply ChO.ite | apply ChO.G | apply ChO.both | (apply ChO.bind;intro _)
theorem zw1  (vals:Tp17):Cn (zt8 vals):=fun g h hg x=>zu4  (fun κ t=>g κ t) (fun t=>h t) (fun t=>hg t) vals x
theorem zly  (vals:Tp17) (t:Int):zt7 vals t=zeF vals (zt7 vals) t:=zaz (zw1 vals) t

def zpM (x':Tp14) (y':Tp14):Option (Int):=
  (zi1 x'.1 y'.1).bind (fun y'_1=>
  (zi1 x'.2.1 y'.2.1).bind (fun y'_2=>
  (zi1 x'.2.2.1 y'.2.2.1).bind (fun y'_3=>
  (zyO ([y'_1,y'_2,y'_3])).bind (fun y'_4=>
  some y'_4))))

def zcR (g':Tp7) (r9:Int->Option (Int)) (t:Int):Option (Int):=
  if (decide (t < (g'.2.2.1.length:Int)))=true then
  if (decide ((0:Int) < t))=true then
  G (fits (t - (1:Int))) (
  G (0<=t - (1:Int)/\t - (1:Int) < (g'.2.2.1.length:Int)) (
  G (0<=t/\t < (g'.2.2.1.length:Int)) (
  (zpM (ix g'.2.2.1 (t - (1:Int))) (ix g'.2.2.1 t)).bind (fun y'_3=>
  if (decide ((0:Int)<=y'_3))=true then
  some (3:Int) else
  G (fits (t+(1:Int))) (
  r9 (t+(1:Int))))))) else
  G (fits (t+(1:Int))) (
  r9 (t+(1:Int))) else
  some (0:Int)
def zpk (g':Tp7):(Int->Option (Int))->Int->Option (Int):=
  fun rec x=>zcR g' (fun t=>rec t) x
def znK (g':Tp7) (t:Int):Option (Int):=LFix (zpk g' ) t
def zdH (g':Tp7):Option (Int):=
  if (decide (g'.1 < (1:Int)))=true then
  some (2:Int) else
  if (decide ((4:Int) < g'.1))=true then
  some (2:Int) else
  if (decide (g'.2.1 < (1:Int)))=true then
  some (1:Int) else
  if (decide ((12:Int) < g'.2.1))=true then
  some (1:Int) else
  if (decide ((60:Int) < (g'.2.2.1.length:Int)))=true then
  some (1:Int) else
  (zgQ g'.2.2.1 (g'.1,(g'.2.1,(g'.2.2.1,()))) (g'.1,(g'.2.1,(g'.2.2.1,())))).bind (fun y'_4=>
  if y'_4.1=true then
  some (2:Int) else
  znK g' (0:Int))
theorem zr6 (r9:Nat->Int->Option (Int)) (r9':Int->Option (Int)) (h_r9:∀ a0,ChO (fun κ=>r9 κ a0) (r9' a0)) (g':Tp7) (t:Int):ChO (fun κ=>zcR g' (r9 κ) t) (zcR g' r9' t):=by
  unfold zcR
  repeat' with_reducible first | exact ChO.const _ | exact h_r9 _ | apply ChO.ite | apply ChO.G | apply ChO.both | (apply ChO.bind;intro _)
theorem ztF  (g':Tp7):Cn (zpk g'):=fun g h hg x=>zr6  (fun κ t=>g κ t) (fun t=>h t) (fun t=>hg t) g' x
theorem zjT  (g':Tp7) (t:Int):znK g' t=zcR g' (znK g') t:=zaz (ztF g') t

def zb8 (r:((List UInt8)×Int×Int×Int×Unit)):Option (Int):=
  if (decide (r.2.1 < (r.1.length:Int)))=true then
  G (0<=r.2.1/\r.2.1 < (r.1.length:Int)) (
  some (bAt r.1 r.2.1)) else
  some (0:Int)

def zbO (r:((List UInt8)×Int×Int×Int×Unit)) (code:Int):Option ((Unit)⊕(Int×Int)):=
  some (.inr ((((code,(r.2.1,())),())).1.1,(((code,(r.2.1,())),())).1.2.1))

def zaO (c:(List UInt8)) (c_1:Int) (c_2:Int) (c_3:Int):Option (((List UInt8)×Int×Int×Int)⊕(Int×Int)):=
  G (fits (c_3+(1:Int))) (
  if (decide ((30:Int) < (c_3+(1:Int))))=true then
  pbind (zbO (c,(c_1,(c_2,(c_3+(1:Int),())))) (7:Int)) (fun _=>
  G (fits (c_1+(1:Int))) (
  some (.inl (c,c_1+(1:Int),c_2,c_3+(1:Int))))) (fun p=>some (.inr (p.1,p.2))) else
  G (fits (c_1+(1:Int))) (
  some (.inl (c,c_1+(1:Int),c_2,c_3+(1:Int)))))

def zdI (c:(List UInt8)) (c_1:Int) (c_2:Int) (c_3:Int):Option (((List UInt8)×Int×Int×Int)⊕(Int×Int)):=
  if (decide (c_2=(40:Int)))=true then
  pbind (zbO (c,(c_1,(c_2,(c_3,())))) (7:Int)) (fun _=>
  G (fits (c_2+(1:Int))) (
  G (fits (c_1+(1:Int))) (
  some (.inl (c,c_1+(1:Int),c_2+(1:Int),c_3))))) (fun p=>some (.inr (p.1,p.2))) else
  G (fits (c_2+(1:Int))) (
  G (fits (c_1+(1:Int))) (
  some (.inl (c,c_1+(1:Int),c_2+(1:Int),c_3))))

def zdK (c:Int) (c_1:(List UInt8)) (c_2:Int) (c_3:Int) (c_4:Int):Option (((List UInt8)×Int×Int×Int)⊕(Int×Int)):=
  (zb8 (c_1,(c_2,(c_3,(c_4,()))))).bind (fun y'=>
  if (decide (¬ y'=c))=true then
  pbind (zbO (c_1,(c_2,(c_3,(c_4,())))) (4:Int)) (fun _=>
  G (fits (c_2+(1:Int))) (
  some (.inl (c_1,c_2+(1:Int),c_3,c_4)))) (fun p=>some (.inr (p.1,p.2))) else
  G (fits (c_2+(1:Int))) (
  some (.inl (c_1,c_2+(1:Int),c_3,c_4))))

def zdJ (c:(List UInt8)) (c_1:Int) (c_2:Int) (c_3:Int):Option (((List UInt8)×Int×Int×Int)⊕(Int×Int)):=
  pbind (zdK (41:Int) c c_1 c_2 c_3) (fun y'_4=>
  G (fits (y'_4.2.2.1 - (1:Int))) (
  some (.inl (y'_4.1,y'_4.2.1,y'_4.2.2.1 - (1:Int),y'_4.2.2.2)))) (fun p=>some (.inr (p.1,p.2)))

def zbE (zaa:(List UInt8)->Int->Int->Int->Option (((Tr Tp13)×(List UInt8)×Int×Int×Int)⊕(Int×Int)))  (r2:(Tr Tp13)->(List UInt8)->Int->Int->Int->Option (((Tr Tp13)×(List UInt8)×Int×Int×Int)⊕(Int×Int))) (n:(Tr Tp13)) (r:(List UInt8)) (r_1:Int) (r_2:Int) (r_3:Int):Option (((Tr Tp13)×(List UInt8)×Int×Int×Int)⊕(Int×Int)):=
  (zb8 (r,(r_1,(r_2,(r_3,()))))).bind (fun y'_6=>
  if (decide (y'_6=(38:Int)))=true then
  pbind (zaO r r_1 r_2 r_3) (fun y'_11=>
  pbind (zaa y'_11.1 y'_11.2.1 y'_11.2.2.1 y'_11.2.2.2) (fun y'_17=>
  r2 (Tr.mk ((38:Int),(false,((0:Int),()))) ([n,y'_17.1])) y'_17.2.1 y'_17.2.2.1 y'_17.2.2.2.1 y'_17.2.2.2.2) (fun p=>some (.inr (p.1,p.2)))) (fun p=>some (.inr (p.1,p.2))) else
  some (.inl (n,r,r_1,r_2,r_3)))
def zhC (zaa:(List UInt8)->Int->Int->Int->Option (((Tr Tp13)×(List UInt8)×Int×Int×Int)⊕(Int×Int))):((Tr Tp13)×(List UInt8)×Int×Int×Int->Option (((Tr Tp13)×(List UInt8)×Int×Int×Int)⊕(Int×Int)))->(Tr Tp13)×(List UInt8)×Int×Int×Int->Option (((Tr Tp13)×(List UInt8)×Int×Int×Int)⊕(Int×Int)):=
  fun rec x=>zbE zaa (fun n r r_1 r_2 r_3=>rec (n,r,r_1,r_2,r_3)) x.1 x.2.1 x.2.2.1 x.2.2.2.1 x.2.2.2.2
def zbz (zaa:(List UInt8)->Int->Int->Int->Option (((Tr Tp13)×(List UInt8)×Int×Int×Int)⊕(Int×Int)))  (n:(Tr Tp13)) (r:(List UInt8)) (r_1:Int) (r_2:Int) (r_3:Int):Option (((Tr Tp13)×(List UInt8)×Int×Int×Int)⊕(Int×Int)):=LFix (zhC zaa ) (n,r,r_1,r_2,r_3)
def zbq (zaa:(List UInt8)->Int->Int->Int->Option (((Tr Tp13)×(List UInt8)×Int×Int×Int)⊕(Int×Int))) (c:(List UInt8)) (c_1:Int) (c_2:Int) (c_3:Int):Option (((Tr Tp13)×(List UInt8)×Int×Int×Int)⊕(Int×Int)):=
  pbind (zaa c c_1 c_2 c_3) (fun y'_5=>
  zbz zaa y'_5.1 y'_5.2.1 y'_5.2.2.1 y'_5.2.2.2.1 y'_5.2.2.2.2) (fun p=>some (.inr (p.1,p.2)))
def zbv (zaa:(List UInt8)->Int->Int->Int->Option (((Tr Tp13)×(List UInt8)×Int×Int×Int)⊕(Int×Int)))  (r2:(Tr Tp13)->(List UInt8)->Int->Int->Int->Option (((Tr Tp13)×(List UInt8)×Int×Int×Int)⊕(Int×Int))) (n:(Tr Tp13)) (r:(List UInt8)) (r_1:Int) (r_2:Int) (r_3:Int):Option (((Tr Tp13)×(List UInt8)×Int×Int×Int)⊕(Int×Int)):=
  (zb8 (r,(r_1,(r_2,(r_3,()))))).bind (fun y'_6=>
  if (decide (y'_6=(124:Int)))=true then
  pbind (zaO r r_1 r_2 r_3) (fun y'_11=>
  pbind (zbq zaa y'_11.1 y'_11.2.1 y'_11.2.2.1 y'_11.2.2.2) (fun y'_17=>
  r2 (Tr.mk ((124:Int),(false,((0:Int),()))) ([n,y'_17.1])) y'_17.2.1 y'_17.2.2.1 y'_17.2.2.2.1 y'_17.2.2.2.2) (fun p=>some (.inr (p.1,p.2)))) (fun p=>some (.inr (p.1,p.2))) else
  some (.inl (n,r,r_1,r_2,r_3)))
def zgU (zaa:(List UInt8)->Int->Int->Int->Option (((Tr Tp13)×(List UInt8)×Int×Int×Int)⊕(Int×Int))):((Tr Tp13)×(List UInt8)×Int×Int×Int->Option (((Tr Tp13)×(List UInt8)×Int×Int×Int)⊕(Int×Int)))->(Tr Tp13)×(List UInt8)×Int×Int×Int->Option (((Tr Tp13)×(List UInt8)×Int×Int×Int)⊕(Int×Int)):=
  fun rec x=>zbv zaa (fun n r r_1 r_2 r_3=>rec (n,r,r_1,r_2,r_3)) x.1 x.2.1 x.2.2.1 x.2.2.2.1 x.2.2.2.2
def zbn (zaa:(List UInt8)->Int->Int->Int->Option (((Tr Tp13)×(List UInt8)×Int×Int×Int)⊕(Int×Int)))  (n:(Tr Tp13)) (r:(List UInt8)) (r_1:Int) (r_2:Int) (r_3:Int):Option (((Tr Tp13)×(List UInt8)×Int×Int×Int)⊕(Int×Int)):=LFix (zgU zaa ) (n,r,r_1,r_2,r_3)
def zaS (zaa:(List UInt8)->Int->Int->Int->Option (((Tr Tp13)×(List UInt8)×Int×Int×Int)⊕(Int×Int))) (c:(List UInt8)) (c_1:Int) (c_2:Int) (c_3:Int):Option (((Tr Tp13)×(List UInt8)×Int×Int×Int)⊕(Int×Int)):=
  pbind (zbq zaa c c_1 c_2 c_3) (fun y'_5=>
  zbn zaa y'_5.1 y'_5.2.1 y'_5.2.2.1 y'_5.2.2.2.1 y'_5.2.2.2.2) (fun p=>some (.inr (p.1,p.2)))
def za1 (zaa:(List UInt8)->Int->Int->Int->Option (((Tr Tp13)×(List UInt8)×Int×Int×Int)⊕(Int×Int))) (all':Bool) (y':(List UInt8)) (y'_1:Int) (y'_2:Int) (y'_3:Int) (y'_5:Int) (t:Bool):Option (((Tr Tp13)×(List UInt8)×Int×Int×Int)⊕(Int×Int)):=
  if t=true then
  G (fits (y'_1+(1:Int))) (
  pbind (zaa y' (y'_1+(1:Int)) y'_2 y'_3) (fun y'_11=>
  some (.inl (Tr.mk (y'_5,(all',((0:Int),()))) ([y'_11.1]),y'_11.2.1,y'_11.2.2.1,y'_11.2.2.2.1,y'_11.2.2.2.2))) (fun p=>some (.inr (p.1,p.2)))) else
  if (decide (y'_5=(40:Int)))=true then
  pbind (zdI y' y'_1 y'_2 y'_3) (fun y'_16=>
  pbind (zaS zaa y'_16.1 y'_16.2.1 y'_16.2.2.1 y'_16.2.2.2) (fun y'_22=>
  pbind (zdK (85:Int) y'_22.2.1 y'_22.2.2.1 y'_22.2.2.2.1 y'_22.2.2.2.2) (fun y'_27=>
  pbind (zaS zaa y'_27.1 y'_27.2.1 y'_27.2.2.1 y'_27.2.2.2) (fun y'_33=>
  pbind (zdJ y'_33.2.1 y'_33.2.2.1 y'_33.2.2.2.1 y'_33.2.2.2.2) (fun y'_38=>
  some (.inl (Tr.mk ((85:Int),(all',((0:Int),()))) ([y'_22.1,y'_33.1]),y'_38.1,y'_38.2.1,y'_38.2.2.1,y'_38.2.2.2))) (fun p=>some (.inr (p.1,p.2)))) (fun p=>some (.inr (p.1,p.2)))) (fun p=>some (.inr (p.1,p.2)))) (fun p=>some (.inr (p.1,p.2)))) (fun p=>some (.inr (p.1,p.2))) else
  pbind (zbO (y',(y'_1,(y'_2,(y'_3,())))) (4:Int)) (fun _=>
  some (.inl (Tr.nil,y',y'_1,y'_2,y'_3))) (fun p=>some (.inr (p.1,p.2)))
def zce (zaa:(List UInt8)->Int->Int->Int->Option (((Tr Tp13)×(List UInt8)×Int×Int×Int)⊕(Int×Int))) (all':Bool) (c:(List UInt8)) (c_1:Int) (c_2:Int) (c_3:Int):Option (((Tr Tp13)×(List UInt8)×Int×Int×Int)⊕(Int×Int)):=
  pbind (zaO c c_1 c_2 c_3) (fun y'_4=>
  (zb8 (y'_4.1,(y'_4.2.1,(y'_4.2.2.1,(y'_4.2.2.2,()))))).bind (fun y'_5=>
  if (decide (y'_5=(88:Int)))=true then
  za1 zaa all' y'_4.1 y'_4.2.1 y'_4.2.2.1 y'_4.2.2.2 y'_5 (decide (y'_5=(88:Int))) else
  if (decide (y'_5=(70:Int)))=true then
  za1 zaa all' y'_4.1 y'_4.2.1 y'_4.2.2.1 y'_4.2.2.2 y'_5 (decide (y'_5=(70:Int))) else
  za1 zaa all' y'_4.1 y'_4.2.1 y'_4.2.2.1 y'_4.2.2.2 y'_5 (decide (y'_5=(71:Int))))) (fun p=>some (.inr (p.1,p.2)))
def zbS (zaa:(List UInt8)->Int->Int->Int->Option (((Tr Tp13)×(List UInt8)×Int×Int×Int)⊕(Int×Int))) (c:(List UInt8)) (c_1:Int) (c_2:Int) (c_3:Int):Option (((Tr Tp13)×(List UInt8)×Int×Int×Int)⊕(Int×Int)):=
  pbind (zdI c c_1 c_2 c_3) (fun y'_33=>
  pbind (zaS zaa y'_33.1 y'_33.2.1 y'_33.2.2.1 y'_33.2.2.2) (fun y'_39=>
  pbind (zdJ y'_39.2.1 y'_39.2.2.1 y'_39.2.2.2.1 y'_39.2.2.2.2) (fun y'_44=>
  some (.inl (y'_39.1,y'_44.1,y'_44.2.1,y'_44.2.2.1,y'_44.2.2.2))) (fun p=>some (.inr (p.1,p.2)))) (fun p=>some (.inr (p.1,p.2)))) (fun p=>some (.inr (p.1,p.2)))
def za8 (zaa:(List UInt8)->Int->Int->Int->Option (((Tr Tp13)×(List UInt8)×Int×Int×Int)⊕(Int×Int))) (c:(List UInt8)) (c_1:Int) (c_2:Int) (c_3:Int) (y':Int) (t_2:Bool):Option (((Tr Tp13)×(List UInt8)×Int×Int×Int)⊕(Int×Int)):=
  if t_2=true then
  pbind (zce zaa (decide (y'=(65:Int))) c c_1 c_2 c_3) (fun y'_27=>
  some (.inl (y'_27.1,y'_27.2.1,y'_27.2.2.1,y'_27.2.2.2.1,y'_27.2.2.2.2))) (fun p=>some (.inr (p.1,p.2))) else
  if (decide (¬ y'=(40:Int)))=true then
  pbind (zbO (c,(c_1,(c_2,(c_3,())))) (4:Int)) (fun _=>
  zbS zaa c c_1 c_2 c_3) (fun p=>some (.inr (p.1,p.2))) else
  zbS zaa c c_1 c_2 c_3
def zbi (zaa:(List UInt8)->Int->Int->Int->Option (((Tr Tp13)×(List UInt8)×Int×Int×Int)⊕(Int×Int))) (c:(List UInt8)) (c_1:Int) (c_2:Int) (c_3:Int) (y':Int) (t_1:Bool):Option (((Tr Tp13)×(List UInt8)×Int×Int×Int)⊕(Int×Int)):=
  if t_1=true then
  pbind (zaO c c_1 c_2 c_3) (fun y'_10=>
  some (.inl (Tr.mk ((97:Int),(false,(IntKind.wrap .i64 (IntKind.wrap .u8 (y' - (97:Int))),()))) ([]),y'_10.1,y'_10.2.1,y'_10.2.2.1,y'_10.2.2.2))) (fun p=>some (.inr (p.1,p.2))) else
  if (decide (y'=(33:Int)))=true then
  pbind (zaO c c_1 c_2 c_3) (fun y'_15=>
  pbind (zaa y'_15.1 y'_15.2.1 y'_15.2.2.1 y'_15.2.2.2) (fun y'_21=>
  some (.inl (Tr.mk ((33:Int),(false,((0:Int),()))) ([y'_21.1]),y'_21.2.1,y'_21.2.2.1,y'_21.2.2.2.1,y'_21.2.2.2.2))) (fun p=>some (.inr (p.1,p.2)))) (fun p=>some (.inr (p.1,p.2))) else
  if (decide (y'=(69:Int)))=true then
  za8 zaa c c_1 c_2 c_3 y' true else
  za8 zaa c c_1 c_2 c_3 y' (decide (y'=(65:Int)))
def zbh (zaa:(List UInt8)->Int->Int->Int->Option (((Tr Tp13)×(List UInt8)×Int×Int×Int)⊕(Int×Int))) (c:(List UInt8)) (c_1:Int) (c_2:Int) (c_3:Int) (y':Int) (t:Bool):Option (((Tr Tp13)×(List UInt8)×Int×Int×Int)⊕(Int×Int)):=
  if t=true then
  pbind (zaO c c_1 c_2 c_3) (fun y'_5=>
  some (.inl (Tr.mk (y',(false,((0:Int),()))) ([]),y'_5.1,y'_5.2.1,y'_5.2.2.1,y'_5.2.2.2))) (fun p=>some (.inr (p.1,p.2))) else
  if (decide ((97:Int)<=y'))=true then
  zbi zaa c c_1 c_2 c_3 y' (decide (y'<=(100:Int))) else
  zbi zaa c c_1 c_2 c_3 y' false
def zbK (zaa:(List UInt8)->Int->Int->Int->Option (((Tr Tp13)×(List UInt8)×Int×Int×Int)⊕(Int×Int))) (c:(List UInt8)) (c_1:Int) (c_2:Int) (c_3:Int):Option (((Tr Tp13)×(List UInt8)×Int×Int×Int)⊕(Int×Int)):=
  (zb8 (c,(c_1,(c_2,(c_3,()))))).bind (fun y'=>
  if (decide (y'=(48:Int)))=true then
  zbh zaa c c_1 c_2 c_3 y' true else
  zbh zaa c c_1 c_2 c_3 y' (decide (y'=(49:Int))))
theorem zfG (zaa:Nat->(List UInt8)->Int->Int->Int->Option (((Tr Tp13)×(List UInt8)×Int×Int×Int)⊕(Int×Int))) (zae:(List UInt8)->Int->Int->Int->Option (((Tr Tp13)×(List UInt8)×Int×Int×Int)⊕(Int×Int))) (zaf:∀ a0 a1 a2 a3,ChO (fun κ=>zaa κ a0 a1 a2 a3) (zae a0 a1 a2 a3)) (r2:Nat->(Tr Tp13)->(List UInt8)->Int->Int->Int->Option (((Tr Tp13)×(List UInt8)×Int×Int×Int)⊕(Int×Int))) (r2':(Tr Tp13)->(List UInt8)->Int->Int->Int->Option (((Tr Tp13)×(List UInt8)×Int×Int×Int)⊕(Int×Int))) (h_r2:∀ a0 a1 a2 a3 a4,ChO (fun κ=>r2 κ a0 a1 a2 a3 a4) (r2' a0 a1 a2 a3 a4)) (n:(Tr Tp13)) (r:(List UInt8)) (r_1:Int) (r_2:Int) (r_3:Int):ChO (fun κ=>zbE (zaa κ) (r2 κ) n r r_1 r_2 r_3) (zbE zae r2' n r r_1 r_2 r_3):=by
  unfold zbE
  repeat' with_reducible first | exact ChO.const _ | exact zaf _ _ _ _ | exact h_r2 _ _ _ _ _ | apply ChO.ite | apply ChO.G | apply ChO.both | apply ChO.bothS | (apply ChO.bind;intro _) | (apply ChO.bind2 (zaf _ _ _ _);intro _) | (refine ChO.bind2 ?_ (fun _ => ?_)) | (refine ChO.pbind (fun _ => ?_) (fun _ => ?_)) | (refine ChO.pbind2 ?_ (fun _ => ?_) (fun _ => ?_))
theorem zeu (zaa:(List UInt8)->Int->Int->Int->Option (((Tr Tp13)×(List UInt8)×Int×Int×Int)⊕(Int×Int))):Cn (zhC zaa):=fun g h hg x=>zfG (fun _=>zaa) zaa (fun _ _ _ _=>ChO.const _) (fun κ n r r_1 r_2 r_3=>g κ (n,r,r_1,r_2,r_3)) (fun n r r_1 r_2 r_3=>h (n,r,r_1,r_2,r_3)) (fun n r r_1 r_2 r_3=>hg (n,r,r_1,r_2,r_3))  x.1 x.2.1 x.2.2.1 x.2.2.2.1 x.2.2.2.2
theorem zmn (zaa:(List UInt8)->Int->Int->Int->Option (((Tr Tp13)×(List UInt8)×Int×Int×Int)⊕(Int×Int)))  (n:(Tr Tp13)) (r:(List UInt8)) (r_1:Int) (r_2:Int) (r_3:Int):zbz zaa n r r_1 r_2 r_3=zbE zaa (zbz zaa) n r r_1 r_2 r_3:=zaz (zeu zaa) (n,r,r_1,r_2,r_3)
theorem zaD (zaa:Nat->(List UInt8)->Int->Int->Int->Option (((Tr Tp13)×(List UInt8)×Int×Int×Int)⊕(Int×Int))) (zae:(List UInt8)->Int->Int->Int->Option (((Tr Tp13)×(List UInt8)×Int×Int×Int)⊕(Int×Int))) (zaf:∀ a0 a1 a2 a3,ChO (fun κ=>zaa κ a0 a1 a2 a3) (zae a0 a1 a2 a3))  (n:(Tr Tp13)) (r:(List UInt8)) (r_1:Int) (r_2:Int) (r_3:Int):ChO (fun κ=>zbz (zaa κ) n r r_1 r_2 r_3) (zbz zae n r r_1 r_2 r_3):=by
  unfold zbz
  exact zqv (fun κ=>(zeu (zaa κ) ).mono) (zeu zae ).mono (fun g h hg x=>zfG zaa zae zaf (fun κ n r r_1 r_2 r_3=>g κ (n,r,r_1,r_2,r_3)) (fun n r r_1 r_2 r_3=>h (n,r,r_1,r_2,r_3)) (fun n r r_1 r_2 r_3=>hg (n,r,r_1,r_2,r_3))  x.1 x.2.1 x.2.2.1 x.2.2.2.1 x.2.2.2.2) _
theorem za0 (zaa:Nat->(List UInt8)->Int->Int->Int->Option (((Tr Tp13)×(List UInt8)×Int×Int×Int)⊕(Int×Int))) (zae:(List UInt8)->Int->Int->Int->Option (((Tr Tp13)×(List UInt8)×Int×Int×Int)⊕(Int×Int))) (zaf:∀ a0 a1 a2 a3,ChO (fun κ=>zaa κ a0 a1 a2 a3) (zae a0 a1 a2 a3)) (c:(List UInt8)) (c_1:Int) (c_2:Int) (c_3:Int):ChO (fun κ=>zbq (zaa κ) c c_1 c_2 c_3) (zbq zae c c_1 c_2 c_3):=by
  unfold zbq
  repeat' with_reducible first | exact ChO.const _ | exact zaf _ _ _ _ | (apply zaD<;>assumption) | apply ChO.ite | apply ChO.G | apply ChO.both | apply ChO.bothS | (apply ChO.bind;intro _) | (apply ChO.bind2 (zaf _ _ _ _);intro _) | (refine ChO.bind2 ?_ (fun _ => ?_)) | (refine ChO.pbind (fun _ => ?_) (fun _ => ?_)) | (refine ChO.pbind2 ?_ (fun _ => ?_) (fun _ => ?_))
theorem zfa (zaa:Nat->(List UInt8)->Int->Int->Int->Option (((Tr Tp13)×(List UInt8)×Int×Int×Int)⊕(Int×Int))) (zae:(List UInt8)->Int->Int->Int->Option (((Tr Tp13)×(List UInt8)×Int×Int×Int)⊕(Int×Int))) (zaf:∀ a0 a1 a2 a3,ChO (fun κ=>zaa κ a0 a1 a2 a3) (zae a0 a1 a2 a3)) (r2:Nat->(Tr Tp13)->(List UInt8)->Int->Int->Int->Option (((Tr Tp13)×(List UInt8)×Int×Int×Int)⊕(Int×Int))) (r2':(Tr Tp13)->(List UInt8)->Int->Int->Int->Option (((Tr Tp13)×(List UInt8)×Int×Int×Int)⊕(Int×Int))) (h_r2:∀ a0 a1 a2 a3 a4,ChO (fun κ=>r2 κ a0 a1 a2 a3 a4) (r2' a0 a1 a2 a3 a4)) (n:(Tr Tp13)) (r:(List UInt8)) (r_1:Int) (r_2:Int) (r_3:Int):ChO (fun κ=>zbv (zaa κ) (r2 κ) n r r_1 r_2 r_3) (zbv zae r2' n r r_1 r_2 r_3):=by
  unfold zbv
  repeat' with_reducible first | exact ChO.const _ | exact zaf _ _ _ _ | exact h_r2 _ _ _ _ _ | (apply zaD<;>assumption) | (apply za0<;>assumption) | apply ChO.ite | apply ChO.G | apply ChO.both | apply ChO.bothS | (apply ChO.bind;intro _) | (apply ChO.bind2 (zaf _ _ _ _);intro _) | (refine ChO.bind2 ?_ (fun _ => ?_)) | (refine ChO.pbind (fun _ => ?_) (fun _ => ?_)) | (refine ChO.pbind2 ?_ (fun _ => ?_) (fun _ => ?_))
theorem zee (zaa:(List UInt8)->Int->Int->Int->Option (((Tr Tp13)×(List UInt8)×Int×Int×Int)⊕(Int×Int))):Cn (zgU zaa):=fun g h hg x=>zfa (fun _=>zaa) zaa (fun _ _ _ _=>ChO.const _) (fun κ n r r_1 r_2 r_3=>g κ (n,r,r_1,r_2,r_3)) (fun n r r_1 r_2 r_3=>h (n,r,r_1,r_2,r_3)) (fun n r r_1 r_2 r_3=>hg (n,r,r_1,r_2,r_3))  x.1 x.2.1 x.2.2.1 x.2.2.2.1 x.2.2.2.2
theorem zl1 (zaa:(List UInt8)->Int->Int->Int->Option (((Tr Tp13)×(List UInt8)×Int×Int×Int)⊕(Int×Int)))  (n:(Tr Tp13)) (r:(List UInt8)) (r_1:Int) (r_2:Int) (r_3:Int):zbn zaa n r r_1 r_2 r_3=zbv zaa (zbn zaa) n r r_1 r_2 r_3:=zaz (zee zaa) (n,r,r_1,r_2,r_3)
theorem zaP (zaa:Nat->(List UInt8)->Int->Int->Int->Option (((Tr Tp13)×(List UInt8)×Int×Int×Int)⊕(Int×Int))) (zae:(List UInt8)->Int->Int->Int->Option (((Tr Tp13)×(List UInt8)×Int×Int×Int)⊕(Int×Int))) (zaf:∀ a0 a1 a2 a3,ChO (fun κ=>zaa κ a0 a1 a2 a3) (zae a0 a1 a2 a3))  (n:(Tr Tp13)) (r:(List UInt8)) (r_1:Int) (r_2:Int) (r_3:Int):ChO (fun κ=>zbn (zaa κ) n r r_1 r_2 r_3) (zbn zae n r r_1 r_2 r_3):=by
  unfold zbn
  exact zqv (fun κ=>(zee (zaa κ) ).mono) (zee zae ).mono (fun g h hg x=>zfa zaa zae zaf (fun κ n r r_1 r_2 r_3=>g κ (n,r,r_1,r_2,r_3)) (fun n r r_1 r_2 r_3=>h (n,r,r_1,r_2,r_3)) (fun n r r_1 r_2 r_3=>hg (n,r,r_1,r_2,r_3))  x.1 x.2.1 x.2.2.1 x.2.2.2.1 x.2.2.2.2) _
theorem zbo (zaa:Nat->(List UInt8)->Int->Int->Int->Option (((Tr Tp13)×(List UInt8)×Int×Int×Int)⊕(Int×Int))) (zae:(List UInt8)->Int->Int->Int->Option (((Tr Tp13)×(List UInt8)×Int×Int×Int)⊕(Int×Int))) (zaf:∀ a0 a1 a2 a3,ChO (fun κ=>zaa κ a0 a1 a2 a3) (zae a0 a1 a2 a3)) (c:(List UInt8)) (c_1:Int) (c_2:Int) (c_3:Int):ChO (fun κ=>zaS (zaa κ) c c_1 c_2 c_3) (zaS zae c c_1 c_2 c_3):=by
  unfold zaS
  repeat' with_reducible first | exact ChO.const _ | exact zaf _ _ _ _ | (apply zaD<;>assumption) | (apply za0<;>assumption) | (apply zaP<;>assumption) | apply ChO.ite | apply ChO.G | apply ChO.both | apply ChO.bothS | (apply ChO.bind;intro _) | (apply ChO.bind2 (zaf _ _ _ _);intro _) | (refine ChO.bind2 ?_ (fun _ => ?_)) | (refine ChO.pbind (fun _ => ?_) (fun _ => ?_)) | (refine ChO.pbind2 ?_ (fun _ => ?_) (fun _ => ?_))
theorem zbu (zaa:Nat->(List UInt8)->Int->Int->Int->Option (((Tr Tp13)×(List UInt8)×Int×Int×Int)⊕(Int×Int))) (zae:(List UInt8)->Int->Int->Int->Option (((Tr Tp13)×(List UInt8)×Int×Int×Int)⊕(Int×Int))) (zaf:∀ a0 a1 a2 a3,ChO (fun κ=>zaa κ a0 a1 a2 a3) (zae a0 a1 a2 a3)) (all':Bool) (y':(List UInt8)) (y'_1:Int) (y'_2:Int) (y'_3:Int) (y'_5:Int) (t:Bool):ChO (fun κ=>za1 (zaa κ) all' y' y'_1 y'_2 y'_3 y'_5 t) (za1 zae all' y' y'_1 y'_2 y'_3 y'_5 t):=by
  unfold za1
  repeat' with_reducible first | exact ChO.const _ | exact zaf _ _ _ _ | (apply zaD<;>assumption) | (apply za0<;>assumption) | (apply zaP<;>assumption) | (apply zbo<;>assumption) | apply ChO.ite | apply ChO.G | apply ChO.both | apply ChO.bothS | (apply ChO.bind;intro _) | (apply ChO.bind2 (zaf _ _ _ _);intro _) | (refine ChO.bind2 ?_ (fun _ => ?_)) | (refine ChO.pbind (fun _ => ?_) (fun _ => ?_)) | (refine ChO.pbind2 ?_ (fun _ => ?_) (fun _ => ?_))
theorem zcM (zaa:Nat->(List UInt8)->Int->Int->Int->Option (((Tr Tp13)×(List UInt8)×Int×Int×Int)⊕(Int×Int))) (zae:(List UInt8)->Int->Int->Int->Option (((Tr Tp13)×(List UInt8)×Int×Int×Int)⊕(Int×Int))) (zaf:∀ a0 a1 a2 a3,ChO (fun κ=>zaa κ a0 a1 a2 a3) (zae a0 a1 a2 a3)) (all':Bool) (c:(List UInt8)) (c_1:Int) (c_2:Int) (c_3:Int):ChO (fun κ=>zce (zaa κ) all' c c_1 c_2 c_3) (zce zae all' c c_1 c_2 c_3):=by
  unfold zce
  repeat' with_reducible first | exact ChO.const _ | exact zaf _ _ _ _ | (apply zaD<;>assumption) | (apply za0<;>assumption) | (apply zaP<;>assumption) | (apply zbo<;>assumption) | (apply zbu<;>assumption) | apply ChO.ite | apply ChO.G | apply ChO.both | apply ChO.bothS | (apply ChO.bind;intro _) | (apply ChO.bind2 (zaf _ _ _ _);intro _) | (refine ChO.bind2 ?_ (fun _ => ?_)) | (refine ChO.pbind (fun _ => ?_) (fun _ => ?_)) | (refine ChO.pbind2 ?_ (fun _ => ?_) (fun _ => ?_))
theorem zcJ (zaa:Nat->(List UInt8)->Int->Int->Int->Option (((Tr Tp13)×(List UInt8)×Int×Int×Int)⊕(Int×Int))) (zae:(List UInt8)->Int->Int->Int->Option (((Tr Tp13)×(List UInt8)×Int×Int×Int)⊕(Int×Int))) (zaf:∀ a0 a1 a2 a3,ChO (fun κ=>zaa κ a0 a1 a2 a3) (zae a0 a1 a2 a3)) (c:(List UInt8)) (c_1:Int) (c_2:Int) (c_3:Int):ChO (fun κ=>zbS (zaa κ) c c_1 c_2 c_3) (zbS zae c c_1 c_2 c_3):=by
  unfold zbS
  repeat' with_reducible first | exact ChO.const _ | exact zaf _ _ _ _ | (apply zaD<;>assumption) | (apply za0<;>assumption) | (apply zaP<;>assumption) | (apply zbo<;>assumption) | (apply zbu<;>assumption) | (apply zcM<;>assumption) | apply ChO.ite | apply ChO.G | apply ChO.both | apply ChO.bothS | (apply ChO.bind;intro _) | (apply ChO.bind2 (zaf _ _ _ _);intro _) | (refine ChO.bind2 ?_ (fun _ => ?_)) | (refine ChO.pbind (fun _ => ?_) (fun _ => ?_)) | (refine ChO.pbind2 ?_ (fun _ => ?_) (fun _ => ?_))
theorem zed (zaa:Nat->(List UInt8)->Int->Int->Int->Option (((Tr Tp13)×(List UInt8)×Int×Int×Int)⊕(Int×Int))) (zae:(List UInt8)->Int->Int->Int->Option (((Tr Tp13)×(List UInt8)×Int×Int×Int)⊕(Int×Int))) (zaf:∀ a0 a1 a2 a3,ChO (fun κ=>zaa κ a0 a1 a2 a3) (zae a0 a1 a2 a3)) (c:(List UInt8)) (c_1:Int) (c_2:Int) (c_3:Int) (y':Int) (t_2:Bool):ChO (fun κ=>za8 (zaa κ) c c_1 c_2 c_3 y' t_2) (za8 zae c c_1 c_2 c_3 y' t_2):=by
  unfold za8
  repeat' with_reducible first | exact ChO.const _ | exact zaf _ _ _ _ | (apply zaD<;>assumption) | (apply za0<;>assumption) | (apply zaP<;>assumption) | (apply zbo<;>assumption) | (apply zbu<;>assumption) | (apply zcM<;>assumption) | (apply zcJ<;>assumption) | apply ChO.ite | apply ChO.G | apply ChO.both | apply ChO.bothS | (apply ChO.bind;intro _) | (apply ChO.bind2 (zaf _ _ _ _);intro _) | (refine ChO.bind2 ?_ (fun _ => ?_)) | (refine ChO.pbind (fun _ => ?_) (fun _ => ?_)) | (refine ChO.pbind2 ?_ (fun _ => ?_) (fun _ => ?_))
theorem zgT (zaa:Nat->(List UInt8)->Int->Int->Int->Option (((Tr Tp13)×(List UInt8)×Int×Int×Int)⊕(Int×Int))) (zae:(List UInt8)->Int->Int->Int->Option (((Tr Tp13)×(List UInt8)×Int×Int×Int)⊕(Int×Int))) (zaf:∀ a0 a1 a2 a3,ChO (fun κ=>zaa κ a0 a1 a2 a3) (zae a0 a1 a2 a3)) (c:(List UInt8)) (c_1:Int) (c_2:Int) (c_3:Int) (y':Int) (t_1:Bool):ChO (fun κ=>zbi (zaa κ) c c_1 c_2 c_3 y' t_1) (zbi zae c c_1 c_2 c_3 y' t_1):=by
  unfold zbi
  repeat' with_reducible first | exact ChO.const _ | exact zaf _ _ _ _ | (apply zaD<;>assumption) | (apply za0<;>assumption) | (apply zaP<;>assumption) | (apply zbo<;>assumption) | (apply zbu<;>assumption) | (apply zcM<;>assumption) | (apply zcJ<;>assumption) | (apply zed<;>assumption) | apply ChO.ite | apply ChO.G | apply ChO.both | apply ChO.bothS | (apply ChO.bind;intro _) | (apply ChO.bind2 (zaf _ _ _ _);intro _) | (refine ChO.bind2 ?_ (fun _ => ?_)) | (refine ChO.pbind (fun _ => ?_) (fun _ => ?_)) | (refine ChO.pbind2 ?_ (fun _ => ?_) (fun _ => ?_))
theorem zmm (zaa:Nat->(List UInt8)->Int->Int->Int->Option (((Tr Tp13)×(List UInt8)×Int×Int×Int)⊕(Int×Int))) (zae:(List UInt8)->Int->Int->Int->Option (((Tr Tp13)×(List UInt8)×Int×Int×Int)⊕(Int×Int))) (zaf:∀ a0 a1 a2 a3,ChO (fun κ=>zaa κ a0 a1 a2 a3) (zae a0 a1 a2 a3)) (c:(List UInt8)) (c_1:Int) (c_2:Int) (c_3:Int) (y':Int) (t:Bool):ChO (fun κ=>zbh (zaa κ) c c_1 c_2 c_3 y' t) (zbh zae c c_1 c_2 c_3 y' t):=by
  unfold zbh
  repeat' with_reducible first | exact ChO.const _ | exact zaf _ _ _ _ | (apply zaD<;>assumption) | (apply za0<;>assumption) | (apply zaP<;>assumption) | (apply zbo<;>assumption) | (apply zbu<;>assumption) | (apply zcM<;>assumption) | (apply zcJ<;>assumption) | (apply zed<;>assumption) | (apply zgT<;>assumption) | apply ChO.ite | apply ChO.G | apply ChO.both | apply ChO.bothS | (apply ChO.bind;intro _) | (apply ChO.bind2 (zaf _ _ _ _);intro _) | (refine ChO.bind2 ?_ (fun _ => ?_)) | (refine ChO.pbind (fun _ => ?_) (fun _ => ?_)) | (refine ChO.pbind2 ?_ (fun _ => ?_) (fun _ => ?_))
theorem zng (zaa:Nat->(List UInt8)->Int->Int->Int->Option (((Tr Tp13)×(List UInt8)×Int×Int×Int)⊕(Int×Int))) (zae:(List UInt8)->Int->Int->Int->Option (((Tr Tp13)×(List UInt8)×Int×Int×Int)⊕(Int×Int))) (zaf:∀ a0 a1 a2 a3,ChO (fun κ=>zaa κ a0 a1 a2 a3) (zae a0 a1 a2 a3)) (c:(List UInt8)) (c_1:Int) (c_2:Int) (c_3:Int):ChO (fun κ=>zbK (zaa κ) c c_1 c_2 c_3) (zbK zae c c_1 c_2 c_3):=by
  unfold zbK
  repeat' with_reducible first | exact ChO.const _ | exact zaf _ _ _ _ | (apply zaD<;>assumption) | (apply za0<;>assumption) | (apply zaP<;>assumption) | (apply zbo<;>assumption) | (apply zbu<;>assumption) | (apply zcM<;>assumption) | (apply zcJ<;>assumption) | (apply zed<;>assumption) | (apply zgT<;>assumption) | (apply zmm<;>assumption) | apply ChO.ite | apply ChO.G | apply ChO.both | apply ChO.bothS | (apply ChO.bind;intro _) | (apply ChO.bind2 (zaf _ _ _ _);intro _) | (refine ChO.bind2 ?_ (fun _ => ?_)) | (refine ChO.pbind (fun _ => ?_) (fun _ => ?_)) | (refine ChO.pbind2 ?_ (fun _ => ?_) (fun _ => ?_))
def zc4:((List UInt8)×Int×Int×Int->Option (((Tr Tp13)×(List UInt8)×Int×Int×Int)⊕(Int×Int)))->(List UInt8)×Int×Int×Int->Option (((Tr Tp13)×(List UInt8)×Int×Int×Int)⊕(Int×Int)):=
  fun rec X=>zbK (fun c c_1 c_2 c_3=>rec (c,c_1,c_2,c_3)) X.1 X.2.1 X.2.2.1 X.2.2.2
def zaA (c:(List UInt8)) (c_1:Int) (c_2:Int) (c_3:Int):Option (((Tr Tp13)×(List UInt8)×Int×Int×Int)⊕(Int×Int)):=LFix zc4 (c,c_1,c_2,c_3)
theorem zov:Cn zc4:=fun g h hg X=>zng _ _ (fun c c_1 c_2 c_3=>hg (c,c_1,c_2,c_3)) X.1 X.2.1 X.2.2.1 X.2.2.2
theorem zjj (c:(List UInt8)) (c_1:Int) (c_2:Int) (c_3:Int):zaA c c_1 c_2 c_3=zbK zaA c c_1 c_2 c_3:=zaz zov (c,c_1,c_2,c_3)
def zfb (c:(List UInt8)) (c_1:Int) (c_2:Int) (c_3:Int):Option (((Tr Tp13)×(List UInt8)×Int×Int×Int)⊕(Int×Int)):=zaS zaA c c_1 c_2 c_3
def zbN (text:(List UInt8)):Option ((Tr Tp13)×Int×Int×Unit):=
  if (decide ((4000:Int) < (text.length:Int)))=true then
  some (Tr.nil,((1:Int),((0:Int),()))) else
  pbind (zfb text (0:Int) (0:Int) (0:Int)) (fun y'_5=>
  if (decide (y'_5.2.2.1 < (text.length:Int)))=true then
  pbind (zbO (y'_5.2.1,(y'_5.2.2.1,(y'_5.2.2.2.1,(y'_5.2.2.2.2,())))) (4:Int)) (fun _=>
  some (y'_5.1,((0:Int),((0:Int),())))) (fun p=>some (Tr.nil,(p.1,(p.2,())))) else
  some (y'_5.1,((0:Int),((0:Int),())))) (fun p=>some (Tr.nil,(p.1,(p.2,()))))

def zeD (s:Tp17) (v:Int) (r2:Int->Option (Int)) (t:Int):Option (Int):=
  if (decide (t < (s.length:Int)))=true then
  G (0<=t/\t < (s.length:Int)) (
  if (decide (v=(ix s t)))=true then
  some t else
  G (fits (t+(1:Int))) (
  r2 (t+(1:Int)))) else
  some (-1:Int)
def znd (s:Tp17) (v:Int):(Int->Option (Int))->Int->Option (Int):=
  fun rec x=>zeD s v (fun t=>rec t) x
def zk4 (s:Tp17) (v:Int) (t:Int):Option (Int):=LFix (znd s v ) t
def ztd (s:Tp17) (v:Int):Option (Int):=
  zk4 s v (0:Int)
theorem zpZ (r2:Nat->Int->Option (Int)) (r2':Int->Option (Int)) (h_r2:∀ a0,ChO (fun κ=>r2 κ a0) (r2' a0)) (s:Tp17) (v:Int) (t:Int):ChO (fun κ=>zeD s v (r2 κ) t) (zeD s v r2' t):=by
  unfold zeD
  repeat' with_reducible first | exact ChO.const _ | exact h_r2 _ | apply ChO.ite | apply ChO.G | apply ChO.both | (apply ChO.bind;intro _)
theorem zsb  (s:Tp17) (v:Int):Cn (znd s v):=fun g h hg x=>zpZ  (fun κ t=>g κ t) (fun t=>h t) (fun t=>hg t) s v x
theorem zsc  (s:Tp17) (v:Int) (t:Int):zk4 s v t=zeD s v (zk4 s v) t:=zaz (zsb s v) t

def zfv (s:Tp17) (v:Int):Option (Bool):=
  (ztd s v).bind (fun y'=>
  some (decide ((0:Int)<=y')))

def zdw (s:Tp17) (v:Int) (r2:Int->Option (Int)) (t:Int):Option (Int):=
  if (decide (t < (s.length:Int)))=true then
  G (0<=t/\t < (s.length:Int)) (
  if (decide (v=(ix s t)))=true then
  some t else
  G (fits (t+(1:Int))) (
  r2 (t+(1:Int)))) else
  some (-1:Int)
def zk3 (s:Tp17) (v:Int):(Int->Option (Int))->Int->Option (Int):=
  fun rec x=>zdw s v (fun t=>rec t) x
def zcH (s:Tp17) (v:Int) (t:Int):Option (Int):=LFix (zk3 s v ) t
def zeW (s:Tp17) (v:Int):Option (Int):=
  zcH s v (0:Int)
theorem zoo (r2:Nat->Int->Option (Int)) (r2':Int->Option (Int)) (h_r2:∀ a0,ChO (fun κ=>r2 κ a0) (r2' a0)) (s:Tp17) (v:Int) (t:Int):ChO (fun κ=>zdw s v (r2 κ) t) (zdw s v r2' t):=by
  unfold zdw
  repeat' with_reducible first | exact ChO.const _ | exact h_r2 _ | apply ChO.ite | apply ChO.G | apply ChO.both | (apply ChO.bind;intro _)
theorem zpY  (s:Tp17) (v:Int):Cn (zk3 s v):=fun g h hg x=>zoo  (fun κ t=>g κ t) (fun t=>h t) (fun t=>hg t) s v x
theorem zfS  (s:Tp17) (v:Int) (t:Int):zcH s v t=zdw s v (zcH s v) t:=zaz (zpY s v) t

def zi9 (s:Tp17) (v:Int):Option (Bool):=
  (zeW s v).bind (fun y'=>
  some (decide ((0:Int)<=y')))

def zbm (t:Int) (r3:(Int->Int->Int->Tp12->Tp15->Option Tp5)) (w_6:Int) (w_7:Int) (w_8:Tp12) (l_2:Tp15):Option Tp5:=
  G (fits (t+(1:Int))) (
  r3 (t+(1:Int)) w_6 w_7 w_8 l_2)
def zb4 (l_1:Tp15) (r9:Tf3) (t_1:Int) (w_9:Int) (w_10:Int) (w_11:Tp12) (t_2:Tp15):Option Tp5:=
  if (decide (t_1 < (l_1.length:Int)))=true then
  G (0<=t_1/\t_1 < (t_2.length:Int)) (
  G ((t_1).toNat < t_2.length) (
  G ((t_1).toNat < t_2.length) (
  if (decide (((ix t_2 t_1).length:Int)=(0:Int)))=true then
  G (0<=t_1/\t_1 < (t_2.length:Int)) (
  G (fits (t_1+(1:Int))) (
  r9 (t_1+(1:Int)) w_9 w_10 w_11 (t_2.set (t_1).toNat ([t_1])))) else
  G (fits (t_1+(1:Int))) (
  r9 (t_1+(1:Int)) w_9 w_10 w_11 t_2)))) else
  some ((w_9,(w_10,(w_11,()))),(t_2,()))
def zks (l_1:Tp15):(Int×Int×Int×Tp12×Tp15->Option Tp5)->Int×Int×Int×Tp12×Tp15->Option Tp5:=
  fun rec x=>zb4 l_1 (fun t_1 w_9 w_10 w_11 t_2=>rec (t_1,w_9,w_10,w_11,t_2)) x.1 x.2.1 x.2.2.1 x.2.2.2.1 x.2.2.2.2
def zcE (l_1:Tp15) (t_1:Int) (w_9:Int) (w_10:Int) (w_11:Tp12) (t_2:Tp15):Option Tp5:=LFix (zks l_1 ) (t_1,w_9,w_10,w_11,t_2)
def zb3 (g':Tp7) (r3:Tf3) (t:Int) (w_3:Int) (w_4:Int) (w_5:Tp12) (l_1:Tp15):Option Tp5:=
  if (decide (t < (g'.2.2.1.length:Int)))=true then
  G (0<=t/\t < (g'.2.2.1.length:Int)) (
  G (0<=(ix g'.2.2.1 t).1/\(ix g'.2.2.1 t).1 < (l_1.length:Int)) (
  G (((ix g'.2.2.1 t).1).toNat < l_1.length) (
  G (((ix g'.2.2.1 t).1).toNat < l_1.length) (
  (zi9 (ix l_1 ((ix g'.2.2.1 t).1)) ((((ix g'.2.2.1 t).2).2).1)).bind (fun y'=>
  if (!y')=true then
  G (0<=(ix g'.2.2.1 t).1/\(ix g'.2.2.1 t).1 < (l_1.length:Int)) (
  G (((ix g'.2.2.1 t).1).toNat < l_1.length) (
  both [Tc1] (
  both [Tc1] (
  G (((ix g'.2.2.1 t).1).toNat < l_1.length) (
  G (room (ix l_1 ((ix g'.2.2.1 t).1)) ([(((ix g'.2.2.1 t).2).2).1]) 8) (
  G (0<=(ix g'.2.2.1 t).1/\(ix g'.2.2.1 t).1 < (l_1.length:Int)) (
  G (((ix g'.2.2.1 t).1).toNat=((ix g'.2.2.1 t).1).toNat) (
  zbm t r3 w_3 w_4 w_5 (l_1.set ((ix g'.2.2.1 t).1).toNat ((ix l_1 ((ix g'.2.2.1 t).1))++([(((ix g'.2.2.1 t).2).2).1])))))))) (
  G (((ix g'.2.2.1 t).1).toNat < l_1.length) (
  G (room (ix l_1 ((ix g'.2.2.1 t).1)) ([(((ix g'.2.2.1 t).2).2).1]) 8) (
  G (0<=(ix g'.2.2.1 t).1/\(ix g'.2.2.1 t).1 < (l_1.length:Int)) (
  G (((ix g'.2.2.1 t).1).toNat=((ix g'.2.2.1 t).1).toNat) (
  zbm t r3 w_3 w_4 w_5 (l_1.set ((ix g'.2.2.1 t).1).toNat ((ix l_1 ((ix g'.2.2.1 t).1))++([(((ix g'.2.2.1 t).2).2).1]))))))))) (
  both [Tc1] (
  G (((ix g'.2.2.1 t).1).toNat < l_1.length) (
  G (room (ix l_1 ((ix g'.2.2.1 t).1)) ([(((ix g'.2.2.1 t).2).2).1]) 8) (
  G (0<=(ix g'.2.2.1 t).1/\(ix g'.2.2.1 t).1 < (l_1.length:Int)) (
  G (((ix g'.2.2.1 t).1).toNat=((ix g'.2.2.1 t).1).toNat) (
  zbm t r3 w_3 w_4 w_5 (l_1.set ((ix g'.2.2.1 t).1).toNat ((ix l_1 ((ix g'.2.2.1 t).1))++([(((ix g'.2.2.1 t).2).2).1])))))))) (
  G (((ix g'.2.2.1 t).1).toNat < l_1.length) (
  G (room (ix l_1 ((ix g'.2.2.1 t).1)) ([(((ix g'.2.2.1 t).2).2).1]) 8) (
  G (0<=(ix g'.2.2.1 t).1/\(ix g'.2.2.1 t).1 < (l_1.length:Int)) (
  G (((ix g'.2.2.1 t).1).toNat=((ix g'.2.2.1 t).1).toNat) (
  zbm t r3 w_3 w_4 w_5 (l_1.set ((ix g'.2.2.1 t).1).toNat ((ix l_1 ((ix g'.2.2.1 t).1))++([(((ix g'.2.2.1 t).2).2).1]))))))))))) else
  zbm t r3 w_3 w_4 w_5 l_1))))) else
  zcE l_1 (0:Int) w_3 w_4 w_5 l_1
def zkr (g':Tp7):(Int×Int×Int×Tp12×Tp15->Option Tp5)->Int×Int×Int×Tp12×Tp15->Option Tp5:=
  fun rec x=>zb3 g' (fun t w_3 w_4 w_5 l_1=>rec (t,w_3,w_4,w_5,l_1)) x.1 x.2.1 x.2.2.1 x.2.2.2.1 x.2.2.2.2
def zcD (g':Tp7) (t:Int) (w_3:Int) (w_4:Int) (w_5:Tp12) (l_1:Tp15):Option Tp5:=LFix (zkr g' ) (t,w_3,w_4,w_5,l_1)
def zfy (g':Tp7) (w:Int) (w_1:Int) (w_2:Tp12) (l:Tp15):Option Tp5:=
  zcD g' (0:Int) w w_1 w_2 l
def zcd (g':Tp7):Option Tp5:=
  both [Tc1] (
  G (mkOK g'.2.1 g'.2.1 24) (
  zfy g' g'.1 g'.2.1 g'.2.2.1 (List.replicate (g'.2.1).toNat ([]:List Int)))) (
  G (mkOK g'.2.1 g'.2.1 24) (
  zfy g' g'.1 g'.2.1 g'.2.2.1 (List.replicate (g'.2.1).toNat ([]:List Int))))
theorem zjV (r3:Nat->Tf3) (r3':Tf3) (h_r3:∀ a0 a1 a2 a3 a4,ChO (fun κ=>r3 κ a0 a1 a2 a3 a4) (r3' a0 a1 a2 a3 a4)) (t:Int) (w_6:Int) (w_7:Int) (w_8:Tp12) (l_2:Tp15):ChO (fun κ=>zbm t (r3 κ) w_6 w_7 w_8 l_2) (zbm t r3' w_6 w_7 w_8 l_2):=by
  unfold zbm
  repeat' with_reducible first | exact ChO.const _ | exact h_r3 _ _ _ _ _ | apply ChO.ite | apply ChO.G | apply ChO.both | (apply ChO.bind;intro _)
theorem zoj (r9:Nat->Tf3) (r9':Tf3) (h_r9:∀ a0 a1 a2 a3 a4,ChO (fun κ=>r9 κ a0 a1 a2 a3 a4) (r9' a0 a1 a2 a3 a4)) (l_1:Tp15) (t_1:Int) (w_9:Int) (w_10:Int) (w_11:Tp12) (t_2:Tp15):ChO (fun κ=>zb4 l_1 (r9 κ) t_1 w_9 w_10 w_11 t_2) (zb4 l_1 r9' t_1 w_9 w_10 w_11 t_2):=by
  unfold zb4
  repeat' with_reducible first | exact ChO.const _ | exact h_r9 _ _ _ _ _ | (apply zjV<;>assumption) | apply ChO.ite | apply ChO.G | apply ChO.both | (apply ChO.bind;intro _)
theorem zpS  (l_1:Tp15):Cn (zks l_1):=fun g h hg x=>zoj  (fun κ t_1 w_9 w_10 w_11 t_2=>g κ (t_1,w_9,w_10,w_11,t_2)) (fun t_1 w_9 w_10 w_11 t_2=>h (t_1,w_9,w_10,w_11,t_2)) (fun t_1 w_9 w_10 w_11 t_2=>hg (t_1,w_9,w_10,w_11,t_2)) l_1 x.1 x.2.1 x.2.2.1 x.2.2.2.1 x.2.2.2.2
theorem zjX  (l_1:Tp15) (t_1:Int) (w_9:Int) (w_10:Int) (w_11:Tp12) (t_2:Tp15):zcE l_1 t_1 w_9 w_10 w_11 t_2=zb4 l_1 (zcE l_1) t_1 w_9 w_10 w_11 t_2:=zaz (zpS l_1) (t_1,w_9,w_10,w_11,t_2)
theorem zoi (r3:Nat->Tf3) (r3':Tf3) (h_r3:∀ a0 a1 a2 a3 a4,ChO (fun κ=>r3 κ a0 a1 a2 a3 a4) (r3' a0 a1 a2 a3 a4)) (g':Tp7) (t:Int) (w_3:Int) (w_4:Int) (w_5:Tp12) (l_1:Tp15):ChO (fun κ=>zb3 g' (r3 κ) t w_3 w_4 w_5 l_1) (zb3 g' r3' t w_3 w_4 w_5 l_1):=by
  unfold zb3
  repeat' with_reducible first | exact ChO.const _ | exact h_r3 _ _ _ _ _ | (apply zjV<;>assumption) | apply ChO.ite | apply ChO.G | apply ChO.both | (apply ChO.bind;intro _)
theorem zpR  (g':Tp7):Cn (zkr g'):=fun g h hg x=>zoi  (fun κ t w_3 w_4 w_5 l_1=>g κ (t,w_3,w_4,w_5,l_1)) (fun t w_3 w_4 w_5 l_1=>h (t,w_3,w_4,w_5,l_1)) (fun t w_3 w_4 w_5 l_1=>hg (t,w_3,w_4,w_5,l_1)) g' x.1 x.2.1 x.2.2.1 x.2.2.2.1 x.2.2.2.2
theorem zjW  (g':Tp7) (t:Int) (w_3:Int) (w_4:Int) (w_5:Tp12) (l_1:Tp15):zcD g' t w_3 w_4 w_5 l_1=zb3 g' (zcD g') t w_3 w_4 w_5 l_1:=zaz (zpR g') (t,w_3,w_4,w_5,l_1)

def zdS (t:Int) (t_1:(Tr Tp13)):Option (Bool):=
  G (t_1.isMk=true) (
  some (decide (((t_1.val (0,(false,(0,())))).1)=(49:Int))))

def zci (w:Tp5) (c:(Tr Tp13)) (r3:Int->Tp16->Option Tp16) (t:Int) (out:Tp16):Option Tp16:=
  if (decide (t < ((List.replicate (w.1.2.1).toNat (false:Bool)).length:Int)))=true then
  (zdS t c).bind (fun y'=>
  G (0<=t/\t < (out.length:Int)) (
  G ((t).toNat < out.length) (
  G (fits (t+(1:Int))) (
  r3 (t+(1:Int)) (out.set (t).toNat y'))))) else
  some out
def zhM (w:Tp5) (c:(Tr Tp13)):(Int×Tp16->Option Tp16)->Int×Tp16->Option Tp16:=
  fun rec x=>zci w c (fun t out=>rec (t,out)) x.1 x.2
def zdO (w:Tp5) (c:(Tr Tp13)) (t:Int) (out:Tp16):Option Tp16:=LFix (zhM w c ) (t,out)
def zdL (w:Tp5) (c:(Tr Tp13)):Option Tp16:=
  G (mkOK w.1.2.1 w.1.2.1 1) (
  zdO w c (0:Int) (List.replicate (w.1.2.1).toNat (false:Bool)))
theorem zli (r3:Nat->Int->Tp16->Option Tp16) (r3':Int->Tp16->Option Tp16) (h_r3:∀ a0 a1,ChO (fun κ=>r3 κ a0 a1) (r3' a0 a1)) (w:Tp5) (c:(Tr Tp13)) (t:Int) (out:Tp16):ChO (fun κ=>zci w c (r3 κ) t out) (zci w c r3' t out):=by
  unfold zci
  repeat' with_reducible first | exact ChO.const _ | exact h_r3 _ _ | apply ChO.ite | apply ChO.G | apply ChO.both | (apply ChO.bind;intro _)
theorem zmr  (w:Tp5) (c:(Tr Tp13)):Cn (zhM w c):=fun g h hg x=>zli  (fun κ t out=>g κ (t,out)) (fun t out=>h (t,out)) (fun t out=>hg (t,out)) w c x.1 x.2
theorem zms  (w:Tp5) (c:(Tr Tp13)) (t:Int) (out:Tp16):zdO w c t out=zci w c (zdO w c) t out:=zaz (zmr w c) (t,out)

def zcj (x':Tp14) (t:Int) (t_1:(Tr Tp13)):Option (Bool):=
  if (decide (x'.1=t))=true then
  G (t_1.isMk=true) (
  some (decide (x'.2.1=((t_1.val (0,(false,(0,())))).2.2.1)))) else
  some false

def zct (s:Tp12) (c:Int) (c_1:(Tr Tp13)) (r2:Int->Option (Int)) (t:Int):Option (Int):=
  if (decide (t < (s.length:Int)))=true then
  G (0<=t/\t < (s.length:Int)) (
  (zcj (ix s t) c c_1).bind (fun y'=>
  if y'=true then
  some t else
  G (fits (t+(1:Int))) (
  r2 (t+(1:Int))))) else
  some (-1:Int)
def zij (s:Tp12) (c:Int) (c_1:(Tr Tp13)):(Int->Option (Int))->Int->Option (Int):=
  fun rec x=>zct s c c_1 (fun t=>rec t) x
def zd8 (s:Tp12) (c:Int) (c_1:(Tr Tp13)) (t:Int):Option (Int):=LFix (zij s c c_1 ) t
def zii (s:Tp12) (c:Int) (c_1:(Tr Tp13)):Option (Int):=
  zd8 s c c_1 (0:Int)
theorem zlp (r2:Nat->Int->Option (Int)) (r2':Int->Option (Int)) (h_r2:∀ a0,ChO (fun κ=>r2 κ a0) (r2' a0)) (s:Tp12) (c:Int) (c_1:(Tr Tp13)) (t:Int):ChO (fun κ=>zct s c c_1 (r2 κ) t) (zct s c c_1 r2' t):=by
  unfold zct
  repeat' with_reducible first | exact ChO.const _ | exact h_r2 _ | apply ChO.ite | apply ChO.G | apply ChO.both | (apply ChO.bind;intro _)
theorem zm5  (s:Tp12) (c:Int) (c_1:(Tr Tp13)):Cn (zij s c c_1):=fun g h hg x=>zlp  (fun κ t=>g κ t) (fun t=>h t) (fun t=>hg t) s c c_1 x
theorem zm6  (s:Tp12) (c:Int) (c_1:(Tr Tp13)) (t:Int):zd8 s c c_1 t=zct s c c_1 (zd8 s c c_1) t:=zaz (zm5 s c c_1) t

def zd6 (s:Tp12) (c:Int) (c_1:(Tr Tp13)):Option (Bool):=
  (zii s c c_1).bind (fun y'=>
  some (decide ((0:Int)<=y')))

def zdT (p:Int) (t:(Tr Tp13)) (c:Tp5):Option Tp4:=
  (zd6 c.1.2.2.1 p t).bind (fun y'=>
  some (y',c))

def za5 (w:Tp5) (r3:(Tr Tp13)->Int->Tp5->Tp16->Option Tp3) (rule:(Tr Tp13)) (t:Int) (l:Tp5) (out:Tp16):Option Tp3:=
  if (decide (t < ((List.replicate (w.1.2.1).toNat (false:Bool)).length:Int)))=true then
  (zdT t rule l).bind (fun y'_3=>
  G (0<=t/\t < (out.length:Int)) (
  G ((t).toNat < out.length) (
  G (fits (t+(1:Int))) (
  r3 rule (t+(1:Int)) y'_3.2 (out.set (t).toNat y'_3.1))))) else
  some (out,l)
def zf0 (w:Tp5):((Tr Tp13)×Int×Tp5×Tp16->Option Tp3)->(Tr Tp13)×Int×Tp5×Tp16->Option Tp3:=
  fun rec x=>za5 w (fun rule t l out=>rec (rule,t,l,out)) x.1 x.2.1 x.2.2.1 x.2.2.2
def zcf (w:Tp5) (rule:(Tr Tp13)) (t:Int) (l:Tp5) (out:Tp16):Option Tp3:=LFix (zf0 w ) (rule,t,l,out)
def zem (w:Tp5) (c:(Tr Tp13)) (c_1:Tp5):Option Tp3:=
  G (mkOK w.1.2.1 w.1.2.1 1) (
  zcf w c (0:Int) c_1 (List.replicate (w.1.2.1).toNat (false:Bool)))
theorem zj4 (r3:Nat->(Tr Tp13)->Int->Tp5->Tp16->Option Tp3) (r3':(Tr Tp13)->Int->Tp5->Tp16->Option Tp3) (h_r3:∀ a0 a1 a2 a3,ChO (fun κ=>r3 κ a0 a1 a2 a3) (r3' a0 a1 a2 a3)) (w:Tp5) (rule:(Tr Tp13)) (t:Int) (l:Tp5) (out:Tp16):ChO (fun κ=>za5 w (r3 κ) rule t l out) (za5 w r3' rule t l out):=by
  unfold za5
  repeat' with_reducible first | exact ChO.const _ | exact h_r3 _ _ _ _ | apply ChO.ite | apply ChO.G | apply ChO.both | (apply ChO.bind;intro _)
theorem zk7  (w:Tp5):Cn (zf0 w):=fun g h hg x=>zj4  (fun κ rule t l out=>g κ (rule,t,l,out)) (fun rule t l out=>h (rule,t,l,out)) (fun rule t l out=>hg (rule,t,l,out)) w x.1 x.2.1 x.2.2.1 x.2.2.2
theorem zfJ  (w:Tp5) (rule:(Tr Tp13)) (t:Int) (l:Tp5) (out:Tp16):zcf w rule t l out=za5 w (zcf w) rule t l out:=zaz (zk7 w) (rule,t,l,out)

def zhv (s:Tp16):Option Tp16:=
  if s.length=0 then both [(.list .bool)] (
  some ([])) (
  G (room ([]:List Bool) s 1) (
  some (([]:List Bool)++s))) else
  G (room ([]:List Bool) s 1) (
  some (([]:List Bool)++s))

def zdm (a:Tp16) (r3:Int->Tp16->Option Tp16) (t:Int) (out:Tp16):Option Tp16:=
  if (decide (t < (a.length:Int)))=true then
  G (0<=t/\t < (a.length:Int)) (
  G (0<=t/\t < (out.length:Int)) (
  G ((t).toNat < out.length) (
  G (fits (t+(1:Int))) (
  r3 (t+(1:Int)) (out.set (t).toNat (!(ix a t))))))) else
  some out
def zos (a:Tp16):(Int×Tp16->Option Tp16)->Int×Tp16->Option Tp16:=
  fun rec x=>zdm a (fun t out=>rec (t,out)) x.1 x.2
def zfx (a:Tp16) (t:Int) (out:Tp16):Option Tp16:=LFix (zos a ) (t,out)
def zcT (a:Tp16):Option Tp16:=
  (zhv a).bind (fun y'=>
  zfx a (0:Int) y')
theorem zqP (r3:Nat->Int->Tp16->Option Tp16) (r3':Int->Tp16->Option Tp16) (h_r3:∀ a0 a1,ChO (fun κ=>r3 κ a0 a1) (r3' a0 a1)) (a:Tp16) (t:Int) (out:Tp16):ChO (fun κ=>zdm a (r3 κ) t out) (zdm a r3' t out):=by
  unfold zdm
  repeat' with_reducible first | exact ChO.const _ | exact h_r3 _ _ | apply ChO.ite | apply ChO.G | apply ChO.both | (apply ChO.bind;intro _)
theorem ztn  (a:Tp16):Cn (zos a):=fun g h hg x=>zqP  (fun κ t out=>g κ (t,out)) (fun t out=>h (t,out)) (fun t out=>hg (t,out)) a x.1 x.2
theorem znO  (a:Tp16) (t:Int) (out:Tp16):zfx a t out=zdm a (zfx a) t out:=zaz (ztn a) (t,out)

def zdU (p:Int) (t:Tp16) (t_1:Tp16):Option (Bool):=
  G (0<=p/\p < (t.length:Int)) (
  if (ix t p)=true then
  G (0<=p/\p < (t_1.length:Int)) (
  some (ix t_1 p)) else
  some false)

def zbT (w:Tp5) (c:Tp16) (c_1:Tp16) (r3:Int->Tp16->Option Tp16) (t:Int) (out:Tp16):Option Tp16:=
  if (decide (t < ((List.replicate (w.1.2.1).toNat (false:Bool)).length:Int)))=true then
  (zdU t c c_1).bind (fun y'=>
  G (0<=t/\t < (out.length:Int)) (
  G ((t).toNat < out.length) (
  G (fits (t+(1:Int))) (
  r3 (t+(1:Int)) (out.set (t).toNat y'))))) else
  some out
def zf1 (w:Tp5) (c:Tp16) (c_1:Tp16):(Int×Tp16->Option Tp16)->Int×Tp16->Option Tp16:=
  fun rec x=>zbT w c c_1 (fun t out=>rec (t,out)) x.1 x.2
def zc7 (w:Tp5) (c:Tp16) (c_1:Tp16) (t:Int) (out:Tp16):Option Tp16:=LFix (zf1 w c c_1 ) (t,out)
def zen (w:Tp5) (c:Tp16) (c_1:Tp16):Option Tp16:=
  G (mkOK w.1.2.1 w.1.2.1 1) (
  zc7 w c c_1 (0:Int) (List.replicate (w.1.2.1).toNat (false:Bool)))
theorem zj5 (r3:Nat->Int->Tp16->Option Tp16) (r3':Int->Tp16->Option Tp16) (h_r3:∀ a0 a1,ChO (fun κ=>r3 κ a0 a1) (r3' a0 a1)) (w:Tp5) (c:Tp16) (c_1:Tp16) (t:Int) (out:Tp16):ChO (fun κ=>zbT w c c_1 (r3 κ) t out) (zbT w c c_1 r3' t out):=by
  unfold zbT
  repeat' with_reducible first | exact ChO.const _ | exact h_r3 _ _ | apply ChO.ite | apply ChO.G | apply ChO.both | (apply ChO.bind;intro _)
theorem zk8  (w:Tp5) (c:Tp16) (c_1:Tp16):Cn (zf1 w c c_1):=fun g h hg x=>zj5  (fun κ t out=>g κ (t,out)) (fun t out=>h (t,out)) (fun t out=>hg (t,out)) w c c_1 x.1 x.2
theorem zk9  (w:Tp5) (c:Tp16) (c_1:Tp16) (t:Int) (out:Tp16):zc7 w c c_1 t out=zbT w c c_1 (zc7 w c c_1) t out:=zaz (zk8 w c c_1) (t,out)

def zdV (p:Int) (t:Tp16) (t_1:Tp16):Option (Bool):=
  G (0<=p/\p < (t.length:Int)) (
  if (ix t p)=true then
  some true else
  G (0<=p/\p < (t_1.length:Int)) (
  some (ix t_1 p)))

def zbU (w:Tp5) (c:Tp16) (c_1:Tp16) (r3:Int->Tp16->Option Tp16) (t:Int) (out:Tp16):Option Tp16:=
  if (decide (t < ((List.replicate (w.1.2.1).toNat (false:Bool)).length:Int)))=true then
  (zdV t c c_1).bind (fun y'=>
  G (0<=t/\t < (out.length:Int)) (
  G ((t).toNat < out.length) (
  G (fits (t+(1:Int))) (
  r3 (t+(1:Int)) (out.set (t).toNat y'))))) else
  some out
def zf2 (w:Tp5) (c:Tp16) (c_1:Tp16):(Int×Tp16->Option Tp16)->Int×Tp16->Option Tp16:=
  fun rec x=>zbU w c c_1 (fun t out=>rec (t,out)) x.1 x.2
def zc8 (w:Tp5) (c:Tp16) (c_1:Tp16) (t:Int) (out:Tp16):Option Tp16:=LFix (zf2 w c c_1 ) (t,out)
def zeo (w:Tp5) (c:Tp16) (c_1:Tp16):Option Tp16:=
  G (mkOK w.1.2.1 w.1.2.1 1) (
  zc8 w c c_1 (0:Int) (List.replicate (w.1.2.1).toNat (false:Bool)))
theorem zj6 (r3:Nat->Int->Tp16->Option Tp16) (r3':Int->Tp16->Option Tp16) (h_r3:∀ a0 a1,ChO (fun κ=>r3 κ a0 a1) (r3' a0 a1)) (w:Tp5) (c:Tp16) (c_1:Tp16) (t:Int) (out:Tp16):ChO (fun κ=>zbU w c c_1 (r3 κ) t out) (zbU w c c_1 r3' t out):=by
  unfold zbU
  repeat' with_reducible first | exact ChO.const _ | exact h_r3 _ _ | apply ChO.ite | apply ChO.G | apply ChO.both | (apply ChO.bind;intro _)
theorem zla  (w:Tp5) (c:Tp16) (c_1:Tp16):Cn (zf2 w c c_1):=fun g h hg x=>zj6  (fun κ t out=>g κ (t,out)) (fun t out=>h (t,out)) (fun t out=>hg (t,out)) w c c_1 x.1 x.2
theorem zlb  (w:Tp5) (c:Tp16) (c_1:Tp16) (t:Int) (out:Tp16):zc8 w c c_1 t out=zbU w c c_1 (zc8 w c c_1) t out:=zaz (zla w c c_1) (t,out)

def zcN (q:Int) (t:Tp16):Option (Bool):=
  G (0<=q/\q < (t.length:Int)) (
  some (ix t q))

def zcu (s:Tp17) (c:Tp16) (r2:Int->Option (Int)) (t:Int):Option (Int):=
  if (decide (t < (s.length:Int)))=true then
  G (0<=t/\t < (s.length:Int)) (
  (zcN (ix s t) c).bind (fun y'=>
  if y'=true then
  some t else
  G (fits (t+(1:Int))) (
  r2 (t+(1:Int))))) else
  some (-1:Int)
def zil (s:Tp17) (c:Tp16):(Int->Option (Int))->Int->Option (Int):=
  fun rec x=>zcu s c (fun t=>rec t) x
def zd9 (s:Tp17) (c:Tp16) (t:Int):Option (Int):=LFix (zil s c ) t
def zik (s:Tp17) (c:Tp16):Option (Int):=
  zd9 s c (0:Int)
theorem zlq (r2:Nat->Int->Option (Int)) (r2':Int->Option (Int)) (h_r2:∀ a0,ChO (fun κ=>r2 κ a0) (r2' a0)) (s:Tp17) (c:Tp16) (t:Int):ChO (fun κ=>zcu s c (r2 κ) t) (zcu s c r2' t):=by
  unfold zcu
  repeat' with_reducible first | exact ChO.const _ | exact h_r2 _ | apply ChO.ite | apply ChO.G | apply ChO.both | (apply ChO.bind;intro _)
theorem zm7  (s:Tp17) (c:Tp16):Cn (zil s c):=fun g h hg x=>zlq  (fun κ t=>g κ t) (fun t=>h t) (fun t=>hg t) s c x
theorem zm8  (s:Tp17) (c:Tp16) (t:Int):zd9 s c t=zcu s c (zd9 s c) t:=zaz (zm7 s c) t

def zd7 (s:Tp17) (c:Tp16):Option (Bool):=
  (zik s c).bind (fun y'=>
  some (decide ((0:Int)<=y')))

def zcB (w:Tp5) (p:Int) (a:Tp16):Option (Bool):=
  G (0<=p/\p < (w.2.1.length:Int)) (
  (zd7 (ix w.2.1 p) a).bind (fun y'=>
  some y'))

def zcb (s1:Tp16) (s2:Tp16) (r4:Int->Option (Bool)) (t:Int):Option (Bool):=
  if (decide (t < (s1.length:Int)))=true then
  G (0<=t/\t < (s1.length:Int)) (
  G (0<=t/\t < (s2.length:Int)) (
  if (decide (¬ (ix s1 t)=(ix s2 t)))=true then
  some false else
  G (fits (t+(1:Int))) (
  r4 (t+(1:Int))))) else
  some true
def zm4 (s1:Tp16) (s2:Tp16):(Int->Option (Bool))->Int->Option (Bool):=
  fun rec x=>zcb s1 s2 (fun t=>rec t) x
def zk0 (s1:Tp16) (s2:Tp16) (t:Int):Option (Bool):=LFix (zm4 s1 s2 ) t
def zjG (s1:Tp16) (s2:Tp16):Option (Bool):=
  if (decide (¬ (s1.length:Int)=(s2.length:Int)))=true then
  some false else
  zk0 s1 s2 (0:Int)
theorem zpX (r4:Nat->Int->Option (Bool)) (r4':Int->Option (Bool)) (h_r4:∀ a0,ChO (fun κ=>r4 κ a0) (r4' a0)) (s1:Tp16) (s2:Tp16) (t:Int):ChO (fun κ=>zcb s1 s2 (r4 κ) t) (zcb s1 s2 r4' t):=by
  unfold zcb
  repeat' with_reducible first | exact ChO.const _ | exact h_r4 _ | apply ChO.ite | apply ChO.G | apply ChO.both | (apply ChO.bind;intro _)
theorem zsa  (s1:Tp16) (s2:Tp16):Cn (zm4 s1 s2):=fun g h hg x=>zpX  (fun κ t=>g κ t) (fun t=>h t) (fun t=>hg t) s1 s2 x
theorem zih  (s1:Tp16) (s2:Tp16) (t:Int):zk0 s1 s2 t=zcb s1 s2 (zk0 s1 s2) t:=zaz (zsa s1 s2) t

def zdb (p:Int) (c:Tp16) (c_1:Tp5) (l:Tp16):Option (Bool×Tp16×Tp16×Tp7×Tp15×Unit):=
  G (0<=p/\p < (l.length:Int)) (
  G ((p).toNat < l.length) (
  if (ix l p)=true then
  some (true,l,c,c_1) else
  G (0<=p/\p < (c.length:Int)) (
  if (ix c p)=true then
  (zcB c_1 p l).bind (fun y'=>
  some (y',l,c,c_1)) else
  some (false,l,c,c_1))))

def za6 (w:Tp5) (r3:Tf2) (t:Int) (l_1:Tp16) (l_2:Tp5) (out:Tp16) (l_3:Tp16):Option Tp1:=
  if (decide (t < ((List.replicate (w.1.2.1).toNat (false:Bool)).length:Int)))=true then
  (zdb t l_1 l_2 l_3).bind (fun y'_5=>
  G (0<=t/\t < (out.length:Int)) (
  G ((t).toNat < out.length) (
  G (fits (t+(1:Int))) (
  r3 (t+(1:Int)) y'_5.2.2.1 y'_5.2.2.2 (out.set (t).toNat y'_5.1) y'_5.2.1)))) else
  some (out,l_3,l_1,l_2)
def zf3 (w:Tp5):(Int×Tp16×Tp5×Tp16×Tp16->Option Tp1)->Int×Tp16×Tp5×Tp16×Tp16->Option Tp1:=
  fun rec x=>za6 w (fun t l_1 l_2 out l_3=>rec (t,l_1,l_2,out,l_3)) x.1 x.2.1 x.2.2.1 x.2.2.2.1 x.2.2.2.2
def zcg (w:Tp5) (t:Int) (l_1:Tp16) (l_2:Tp5) (out:Tp16) (l_3:Tp16):Option Tp1:=LFix (zf3 w ) (t,l_1,l_2,out,l_3)
def zep (w:Tp5) (c:Tp16) (c_1:Tp5) (l:Tp16):Option Tp1:=
  G (mkOK w.1.2.1 w.1.2.1 1) (
  zcg w (0:Int) c c_1 (List.replicate (w.1.2.1).toNat (false:Bool)) l)
theorem zj7 (r3:Nat->Tf2) (r3':Tf2) (h_r3:∀ a0 a1 a2 a3 a4,ChO (fun κ=>r3 κ a0 a1 a2 a3 a4) (r3' a0 a1 a2 a3 a4)) (w:Tp5) (t:Int) (l_1:Tp16) (l_2:Tp5) (out:Tp16) (l_3:Tp16):ChO (fun κ=>za6 w (r3 κ) t l_1 l_2 out l_3) (za6 w r3' t l_1 l_2 out l_3):=by
  unfold za6
  repeat' with_reducible first | exact ChO.const _ | exact h_r3 _ _ _ _ _ | apply ChO.ite | apply ChO.G | apply ChO.both | (apply ChO.bind;intro _)
theorem zlc  (w:Tp5):Cn (zf3 w):=fun g h hg x=>zj7  (fun κ t l_1 l_2 out l_3=>g κ (t,l_1,l_2,out,l_3)) (fun t l_1 l_2 out l_3=>h (t,l_1,l_2,out,l_3)) (fun t l_1 l_2 out l_3=>hg (t,l_1,l_2,out,l_3)) w x.1 x.2.1 x.2.2.1 x.2.2.2.1 x.2.2.2.2
theorem zfK  (w:Tp5) (t:Int) (l_1:Tp16) (l_2:Tp5) (out:Tp16) (l_3:Tp16):zcg w t l_1 l_2 out l_3=za6 w (zcg w) t l_1 l_2 out l_3:=zaz (zlc w) (t,l_1,l_2,out,l_3)

def zbx  (r2:Tf8) (w_1:Tp5) (a_1:Tp16) (l:Tp16):Option Tp16:=
  (zep w_1 a_1 w_1 l).bind (fun y'_7=>
  (zjG y'_7.1 y'_7.2.1).bind (fun y'_6=>
  if y'_6=true then
  some y'_7.2.1 else
  r2 y'_7.2.2.2 y'_7.2.2.1 y'_7.1))
def zhh:(Tp5×Tp16×Tp16->Option Tp16)->Tp5×Tp16×Tp16->Option Tp16:=
  fun rec x=>zbx (fun w_1 a_1 l=>rec (w_1,a_1,l)) x.1 x.2.1 x.2.2
def zdB  (w_1:Tp5) (a_1:Tp16) (l:Tp16):Option Tp16:=LFix (zhh ) (w_1,a_1,l)
def zaT (w:Tp5) (a:Tp16) (b:Tp16):Option Tp16:=
  (zhv b).bind (fun y'=>
  zdB w a y')
theorem zkq (r2:Nat->Tf8) (r2':Tf8) (h_r2:∀ a0 a1 a2,ChO (fun κ=>r2 κ a0 a1 a2) (r2' a0 a1 a2)) (w_1:Tp5) (a_1:Tp16) (l:Tp16):ChO (fun κ=>zbx (r2 κ) w_1 a_1 l) (zbx r2' w_1 a_1 l):=by
  unfold zbx
  repeat' with_reducible first | exact ChO.const _ | exact h_r2 _ _ _ | apply ChO.ite | apply ChO.G | apply ChO.both | (apply ChO.bind;intro _)
theorem zl6:Cn (zhh):=fun g h hg x=>zkq  (fun κ w_1 a_1 l=>g κ (w_1,a_1,l)) (fun w_1 a_1 l=>h (w_1,a_1,l)) (fun w_1 a_1 l=>hg (w_1,a_1,l))  x.1 x.2.1 x.2.2
theorem zl7   (w_1:Tp5) (a_1:Tp16) (l:Tp16):zdB w_1 a_1 l=zbx (zdB) w_1 a_1 l:=zaz (zl6 ) (w_1,a_1,l)

def zdy (p:Int) (c:Tp5) (l:Tp16):Option (Bool×Tp16×Tp7×Tp15×Unit):=
  G (0<=p/\p < (l.length:Int)) (
  G ((p).toNat < l.length) (
  if (ix l p)=true then
  (zcB c p l).bind (fun y'=>
  some (y',l,c)) else
  some (false,l,c)))

def za7 (w:Tp5) (r3:Tf6) (t:Int) (l_1:Tp5) (out:Tp16) (l_2:Tp16):Option Tp2:=
  if (decide (t < ((List.replicate (w.1.2.1).toNat (false:Bool)).length:Int)))=true then
  (zdy t l_1 l_2).bind (fun y'_4=>
  G (0<=t/\t < (out.length:Int)) (
  G ((t).toNat < out.length) (
  G (fits (t+(1:Int))) (
  r3 (t+(1:Int)) y'_4.2.2 (out.set (t).toNat y'_4.1) y'_4.2.1)))) else
  some (out,l_2,l_1)
def zf4 (w:Tp5):(Int×Tp5×Tp16×Tp16->Option Tp2)->Int×Tp5×Tp16×Tp16->Option Tp2:=
  fun rec x=>za7 w (fun t l_1 out l_2=>rec (t,l_1,out,l_2)) x.1 x.2.1 x.2.2.1 x.2.2.2
def zch (w:Tp5) (t:Int) (l_1:Tp5) (out:Tp16) (l_2:Tp16):Option Tp2:=LFix (zf4 w ) (t,l_1,out,l_2)
def zeq (w:Tp5) (c:Tp5) (l:Tp16):Option Tp2:=
  G (mkOK w.1.2.1 w.1.2.1 1) (
  zch w (0:Int) c (List.replicate (w.1.2.1).toNat (false:Bool)) l)
theorem zj8 (r3:Nat->Tf6) (r3':Tf6) (h_r3:∀ a0 a1 a2 a3,ChO (fun κ=>r3 κ a0 a1 a2 a3) (r3' a0 a1 a2 a3)) (w:Tp5) (t:Int) (l_1:Tp5) (out:Tp16) (l_2:Tp16):ChO (fun κ=>za7 w (r3 κ) t l_1 out l_2) (za7 w r3' t l_1 out l_2):=by
  unfold za7
  repeat' with_reducible first | exact ChO.const _ | exact h_r3 _ _ _ _ | apply ChO.ite | apply ChO.G | apply ChO.both | (apply ChO.bind;intro _)
theorem zld  (w:Tp5):Cn (zf4 w):=fun g h hg x=>zj8  (fun κ t l_1 out l_2=>g κ (t,l_1,out,l_2)) (fun t l_1 out l_2=>h (t,l_1,out,l_2)) (fun t l_1 out l_2=>hg (t,l_1,out,l_2)) w x.1 x.2.1 x.2.2.1 x.2.2.2
theorem zfL  (w:Tp5) (t:Int) (l_1:Tp5) (out:Tp16) (l_2:Tp16):zch w t l_1 out l_2=za7 w (zch w) t l_1 out l_2:=zaz (zld w) (t,l_1,out,l_2)

def zbF  (r2:Tp5->Tp16->Option Tp16) (w_1:Tp5) (l:Tp16):Option Tp16:=
  (zeq w_1 w_1 l).bind (fun y'_6=>
  (zjG y'_6.1 y'_6.2.1).bind (fun y'_5=>
  if y'_5=true then
  some y'_6.2.1 else
  r2 y'_6.2.2 y'_6.1))
def zhN:(Tp5×Tp16->Option Tp16)->Tp5×Tp16->Option Tp16:=
  fun rec x=>zbF (fun w_1 l=>rec (w_1,l)) x.1 x.2
def zdP  (w_1:Tp5) (l:Tp16):Option Tp16:=LFix (zhN ) (w_1,l)
def zbP (w:Tp5) (a:Tp16):Option Tp16:=
  (zhv a).bind (fun y'=>
  zdP w y')
theorem zlj (r2:Nat->Tp5->Tp16->Option Tp16) (r2':Tp5->Tp16->Option Tp16) (h_r2:∀ a0 a1,ChO (fun κ=>r2 κ a0 a1) (r2' a0 a1)) (w_1:Tp5) (l:Tp16):ChO (fun κ=>zbF (r2 κ) w_1 l) (zbF r2' w_1 l):=by
  unfold zbF
  repeat' with_reducible first | exact ChO.const _ | exact h_r2 _ _ | apply ChO.ite | apply ChO.G | apply ChO.both | (apply ChO.bind;intro _)
theorem zmt:Cn (zhN):=fun g h hg x=>zlj  (fun κ w_1 l=>g κ (w_1,l)) (fun w_1 l=>h (w_1,l)) (fun w_1 l=>hg (w_1,l))  x.1 x.2
theorem zmu   (w_1:Tp5) (l:Tp16):zdP w_1 l=zbF (zdP) w_1 l:=zaz (zmt ) (w_1,l)

def zdW (p:Int) (t:Tp16) (t_1:Tp16):Option (Bool):=
  G (0<=p/\p < (t.length:Int)) (
  if (!(ix t p))=true then
  G (0<=p/\p < (t_1.length:Int)) (
  some (!(ix t_1 p))) else
  some false)

def zbV (w:Tp5) (c:Tp16) (c_1:Tp16) (r3:Int->Tp16->Option Tp16) (t:Int) (out:Tp16):Option Tp16:=
  if (decide (t < ((List.replicate (w.1.2.1).toNat (false:Bool)).length:Int)))=true then
  (zdW t c c_1).bind (fun y'=>
  G (0<=t/\t < (out.length:Int)) (
  G ((t).toNat < out.length) (
  G (fits (t+(1:Int))) (
  r3 (t+(1:Int)) (out.set (t).toNat y'))))) else
  some out
def zf5 (w:Tp5) (c:Tp16) (c_1:Tp16):(Int×Tp16->Option Tp16)->Int×Tp16->Option Tp16:=
  fun rec x=>zbV w c c_1 (fun t out=>rec (t,out)) x.1 x.2
def zc9 (w:Tp5) (c:Tp16) (c_1:Tp16) (t:Int) (out:Tp16):Option Tp16:=LFix (zf5 w c c_1 ) (t,out)
def zcy (w:Tp5) (c:Tp16) (c_1:Tp16):Option Tp16:=
  G (mkOK w.1.2.1 w.1.2.1 1) (
  zc9 w c c_1 (0:Int) (List.replicate (w.1.2.1).toNat (false:Bool)))
theorem zj9 (r3:Nat->Int->Tp16->Option Tp16) (r3':Int->Tp16->Option Tp16) (h_r3:∀ a0 a1,ChO (fun κ=>r3 κ a0 a1) (r3' a0 a1)) (w:Tp5) (c:Tp16) (c_1:Tp16) (t:Int) (out:Tp16):ChO (fun κ=>zbV w c c_1 (r3 κ) t out) (zbV w c c_1 r3' t out):=by
  unfold zbV
  repeat' with_reducible first | exact ChO.const _ | exact h_r3 _ _ | apply ChO.ite | apply ChO.G | apply ChO.both | (apply ChO.bind;intro _)
theorem zle  (w:Tp5) (c:Tp16) (c_1:Tp16):Cn (zf5 w c c_1):=fun g h hg x=>zj9  (fun κ t out=>g κ (t,out)) (fun t out=>h (t,out)) (fun t out=>hg (t,out)) w c c_1 x.1 x.2
theorem zlf  (w:Tp5) (c:Tp16) (c_1:Tp16) (t:Int) (out:Tp16):zc9 w c c_1 t out=zbV w c c_1 (zc9 w c c_1) t out:=zaz (zle w c c_1) (t,out)

def zdX (p:Int) (t:Tp16) (t_1:Tp16):Option (Bool):=
  G (0<=p/\p < (t.length:Int)) (
  if (!(ix t p))=true then
  G (0<=p/\p < (t_1.length:Int)) (
  some (!(ix t_1 p))) else
  some false)

def zbW (w:Tp5) (c:Tp16) (c_1:Tp16) (r3:Int->Tp16->Option Tp16) (t:Int) (out:Tp16):Option Tp16:=
  if (decide (t < ((List.replicate (w.1.2.1).toNat (false:Bool)).length:Int)))=true then
  (zdX t c c_1).bind (fun y'=>
  G (0<=t/\t < (out.length:Int)) (
  G ((t).toNat < out.length) (
  G (fits (t+(1:Int))) (
  r3 (t+(1:Int)) (out.set (t).toNat y'))))) else
  some out
def zf6 (w:Tp5) (c:Tp16) (c_1:Tp16):(Int×Tp16->Option Tp16)->Int×Tp16->Option Tp16:=
  fun rec x=>zbW w c c_1 (fun t out=>rec (t,out)) x.1 x.2
def zda (w:Tp5) (c:Tp16) (c_1:Tp16) (t:Int) (out:Tp16):Option Tp16:=LFix (zf6 w c c_1 ) (t,out)
def zer (w:Tp5) (c:Tp16) (c_1:Tp16):Option Tp16:=
  G (mkOK w.1.2.1 w.1.2.1 1) (
  zda w c c_1 (0:Int) (List.replicate (w.1.2.1).toNat (false:Bool)))
theorem zka (r3:Nat->Int->Tp16->Option Tp16) (r3':Int->Tp16->Option Tp16) (h_r3:∀ a0 a1,ChO (fun κ=>r3 κ a0 a1) (r3' a0 a1)) (w:Tp5) (c:Tp16) (c_1:Tp16) (t:Int) (out:Tp16):ChO (fun κ=>zbW w c c_1 (r3 κ) t out) (zbW w c c_1 r3' t out):=by
  unfold zbW
  repeat' with_reducible first | exact ChO.const _ | exact h_r3 _ _ | apply ChO.ite | apply ChO.G | apply ChO.both | (apply ChO.bind;intro _)
theorem zlg  (w:Tp5) (c:Tp16) (c_1:Tp16):Cn (zf6 w c c_1):=fun g h hg x=>zka  (fun κ t out=>g κ (t,out)) (fun t out=>h (t,out)) (fun t out=>hg (t,out)) w c c_1 x.1 x.2
theorem zlh  (w:Tp5) (c:Tp16) (c_1:Tp16) (t:Int) (out:Tp16):zda w c c_1 t out=zbW w c c_1 (zda w c c_1) t out:=zaz (zlg w c c_1) (t,out)

def zfj (p:Int) (t:Tp16) (c:Tp5):Option Tp4:=
  (zcB c p t).bind (fun y'=>
  some (y',c))

def zaY (w:Tp5) (r3:Tf5) (rule:Tp16) (t:Int) (l:Tp5) (out:Tp16):Option Tp3:=
  if (decide (t < ((List.replicate (w.1.2.1).toNat (false:Bool)).length:Int)))=true then
  (zfj t rule l).bind (fun y'_3=>
  G (0<=t/\t < (out.length:Int)) (
  G ((t).toNat < out.length) (
  G (fits (t+(1:Int))) (
  r3 rule (t+(1:Int)) y'_3.2 (out.set (t).toNat y'_3.1))))) else
  some (out,l)
def zfH (w:Tp5):(Tp16×Int×Tp5×Tp16->Option Tp3)->Tp16×Int×Tp5×Tp16->Option Tp3:=
  fun rec x=>zaY w (fun rule t l out=>rec (rule,t,l,out)) x.1 x.2.1 x.2.2.1 x.2.2.2
def zb9 (w:Tp5) (rule:Tp16) (t:Int) (l:Tp5) (out:Tp16):Option Tp3:=LFix (zfH w ) (rule,t,l,out)
def zdM (w:Tp5) (c:Tp16) (c_1:Tp5):Option Tp3:=
  G (mkOK w.1.2.1 w.1.2.1 1) (
  zb9 w c (0:Int) c_1 (List.replicate (w.1.2.1).toNat (false:Bool)))
theorem zjN (r3:Nat->Tf5) (r3':Tf5) (h_r3:∀ a0 a1 a2 a3,ChO (fun κ=>r3 κ a0 a1 a2 a3) (r3' a0 a1 a2 a3)) (w:Tp5) (rule:Tp16) (t:Int) (l:Tp5) (out:Tp16):ChO (fun κ=>zaY w (r3 κ) rule t l out) (zaY w r3' rule t l out):=by
  unfold zaY
  repeat' with_reducible first | exact ChO.const _ | exact h_r3 _ _ _ _ | apply ChO.ite | apply ChO.G | apply ChO.both | (apply ChO.bind;intro _)
theorem zkk  (w:Tp5):Cn (zfH w):=fun g h hg x=>zjN  (fun κ rule t l out=>g κ (rule,t,l,out)) (fun rule t l out=>h (rule,t,l,out)) (fun rule t l out=>hg (rule,t,l,out)) w x.1 x.2.1 x.2.2.1 x.2.2.2
theorem zfc  (w:Tp5) (rule:Tp16) (t:Int) (l:Tp5) (out:Tp16):zb9 w rule t l out=zaY w (zb9 w) rule t l out:=zaz (zkk w) (rule,t,l,out)

def zgN (t:Int):Option (Bool):=
  some true

def zbI (w:Tp5) (r3:Int->Tp16->Option Tp16) (t:Int) (out:Tp16):Option Tp16:=
  if (decide (t < ((List.replicate (w.1.2.1).toNat (false:Bool)).length:Int)))=true then
  (zgN t).bind (fun y'=>
  G (0<=t/\t < (out.length:Int)) (
  G ((t).toNat < out.length) (
  G (fits (t+(1:Int))) (
  r3 (t+(1:Int)) (out.set (t).toNat y'))))) else
  some out
def zfI (w:Tp5):(Int×Tp16->Option Tp16)->Int×Tp16->Option Tp16:=
  fun rec x=>zbI w (fun t out=>rec (t,out)) x.1 x.2
def zcV (w:Tp5) (t:Int) (out:Tp16):Option Tp16:=LFix (zfI w ) (t,out)
def zdN (w:Tp5):Option Tp16:=
  G (mkOK w.1.2.1 w.1.2.1 1) (
  zcV w (0:Int) (List.replicate (w.1.2.1).toNat (false:Bool)))
theorem zjO (r3:Nat->Int->Tp16->Option Tp16) (r3':Int->Tp16->Option Tp16) (h_r3:∀ a0 a1,ChO (fun κ=>r3 κ a0 a1) (r3' a0 a1)) (w:Tp5) (t:Int) (out:Tp16):ChO (fun κ=>zbI w (r3 κ) t out) (zbI w r3' t out):=by
  unfold zbI
  repeat' with_reducible first | exact ChO.const _ | exact h_r3 _ _ | apply ChO.ite | apply ChO.G | apply ChO.both | (apply ChO.bind;intro _)
theorem zkl  (w:Tp5):Cn (zfI w):=fun g h hg x=>zjO  (fun κ t out=>g κ (t,out)) (fun t out=>h (t,out)) (fun t out=>hg (t,out)) w x.1 x.2
theorem zkm  (w:Tp5) (t:Int) (out:Tp16):zcV w t out=zbI w (zcV w) t out:=zaz (zkl w) (t,out)

def zca (w:Tp5):Option Tp16:=
  (zdN w).bind (fun y'=>
  some y')

def zcl (w:Tp5) (never:Tp16) (bad:Tp16):Option Tp16:=
  (zer w never bad).bind (fun y'_16=>
  some y'_16)
def zck (w:Tp5) (a:Tp16) (b:Tp16) (never:Tp16):Option Tp16:=
  both [(.list .bool)] (
  (zcT b).bind (fun y'_13=>
  both [(.list .bool)] (
  (zcy w a b).bind (fun y'_14=>
  both [(.list .bool)] (
  (zaT w y'_13 y'_14).bind (fun y'_15=>
  zcl w never y'_15)) (
  (zaT w y'_13 y'_14).bind (fun y'_17=>
  zcl w never y'_17)))) (
  (zcy w a b).bind (fun y'_18=>
  (zaT w y'_13 y'_18).bind (fun y'_19=>
  zcl w never y'_19))))) (
  (zcT b).bind (fun y'_20=>
  (zcy w a b).bind (fun y'_21=>
  (zaT w y'_20 y'_21).bind (fun y'_22=>
  zcl w never y'_22))))
def zap (w:Tp5) (n:(Tr Tp13)) (a:Tp16) (b:Tp16):Option Tp16:=
  G (n.isMk=true) (
  if (decide (((n.val (0,(false,(0,())))).1)=(38:Int)))=true then
  (zen w a b).bind (fun y'_8=>
  some y'_8) else
  G (n.isMk=true) (
  if (decide (((n.val (0,(false,(0,())))).1)=(124:Int)))=true then
  (zeo w a b).bind (fun y'_9=>
  some y'_9) else
  G (n.isMk=true) (
  if (!((n.val (0,(false,(0,())))).2.1))=true then
  (zaT w a b).bind (fun y'_10=>
  some y'_10) else
  both [(.list .bool)] (
  (zcT b).bind (fun y'_11=>
  both [(.list .bool)] (
  (zbP w y'_11).bind (fun y'_12=>
  zck w a b y'_12)) (
  (zbP w y'_11).bind (fun y'_23=>
  zck w a b y'_23)))) (
  (zcT b).bind (fun y'_24=>
  (zbP w y'_24).bind (fun y'_25=>
  zck w a b y'_25))))))
def zaw (w:Tp5) (n:(Tr Tp13)) (a_1:Tp16):Option Tp16:=
  G (n.isMk=true) (
  if (decide (((n.val (0,(false,(0,())))).1)=(88:Int)))=true then
  (zdM w a_1 w).bind (fun y'_32=>
  G (n.isMk=true) (
  if ((n.val (0,(false,(0,())))).2.1)=true then
  (zcT y'_32.1).bind (fun y'_31=>
  some y'_31) else
  some y'_32.1)) else
  G (n.isMk=true) (
  G (n.isMk=true) (
  if (decide (¬ (decide (((n.val (0,(false,(0,())))).1)=(70:Int)))=((n.val (0,(false,(0,())))).2.1)))=true then
  (zca w).bind (fun y'_33=>
  (zaT w y'_33 a_1).bind (fun y'_34=>
  G (n.isMk=true) (
  if ((n.val (0,(false,(0,())))).2.1)=true then
  (zcT y'_34).bind (fun y'_35=>
  some y'_35) else
  some y'_34))) else
  (zbP w a_1).bind (fun y'_36=>
  G (n.isMk=true) (
  if ((n.val (0,(false,(0,())))).2.1)=true then
  (zcT y'_36).bind (fun y'_37=>
  some y'_37) else
  some y'_36)))))
def zaH (zaj:Tp5->(Tr Tp13)->Option Tp16) (w:Tp5) (n:(Tr Tp13)) (a:Tp16) (t_1:Bool):Option Tp16:=
  if t_1=true then
  G (n.isMk=true) (
  G (0<=(1:Int)/\(1:Int) < (n.kids.length:Int)) (
  both [(.list .bool)] (
  (zaj w (ix n.kids (1:Int))).bind (fun y'_7=>
  zap w n a y'_7)) (
  (zaj w (ix n.kids (1:Int))).bind (fun y'_26=>
  zap w n a y'_26)))) else
  G (n.isMk=true) (
  if ((n.val (0,(false,(0,())))).2.1)=true then
  (zcT a).bind (fun y'_27=>
  zaw w n y'_27) else
  zaw w n a)
def zao (zaj:Tp5->(Tr Tp13)->Option Tp16) (w:Tp5) (n:(Tr Tp13)) (a:Tp16):Option Tp16:=
  G (n.isMk=true) (
  if (decide (((n.val (0,(false,(0,())))).1)=(33:Int)))=true then
  (zcT a).bind (fun y'_6=>
  some y'_6) else
  if (decide (((n.val (0,(false,(0,())))).1)=(38:Int)))=true then
  zaH zaj w n a (decide (((n.val (0,(false,(0,())))).1)=(38:Int))) else
  if (decide (((n.val (0,(false,(0,())))).1)=(124:Int)))=true then
  zaH zaj w n a (decide (((n.val (0,(false,(0,())))).1)=(124:Int))) else
  zaH zaj w n a (decide (((n.val (0,(false,(0,())))).1)=(85:Int))))
def zba (zaj:Tp5->(Tr Tp13)->Option Tp16) (w:Tp5) (n:(Tr Tp13)) (t:Bool):Option Tp16:=
  if t=true then
  (zdL w n).bind (fun y'=>
  some y') else
  if (decide (((n.val (0,(false,(0,())))).1)=(97:Int)))=true then
  (zem w n w).bind (fun y'_4=>
  some y'_4.1) else
  G (n.isMk=true) (
  G (0<=(0:Int)/\(0:Int) < (n.kids.length:Int)) (
  both [(.list .bool)] (
  (zaj w (ix n.kids (0:Int))).bind (fun y'_5=>
  zao zaj w n y'_5)) (
  (zaj w (ix n.kids (0:Int))).bind (fun y'_38=>
  zao zaj w n y'_38))))
def zbk (zaj:Tp5->(Tr Tp13)->Option Tp16) (w:Tp5) (n:(Tr Tp13)):Option Tp16:=
  G (n.isMk=true) (
  if (decide (((n.val (0,(false,(0,())))).1)=(48:Int)))=true then
  zba zaj w n (decide (((n.val (0,(false,(0,())))).1)=(48:Int))) else
  zba zaj w n (decide (((n.val (0,(false,(0,())))).1)=(49:Int))))
theorem zdF (zaj:Nat->Tp5->(Tr Tp13)->Option Tp16) (zaB:Tp5->(Tr Tp13)->Option Tp16) (zay:∀ a0 a1,ChO (fun κ=>zaj κ a0 a1) (zaB a0 a1)) (w:Tp5) (n:(Tr Tp13)) (a:Tp16) (t_1:Bool):ChO (fun κ=>zaH (zaj κ) w n a t_1) (zaH zaB w n a t_1):=by
  unfold zaH
  repeat' with_reducible first | exact ChO.const _ | exact zay _ _ | apply ChO.ite | apply ChO.G | apply ChO.both | (apply ChO.bind;intro _) | (apply ChO.bind2 (zay _ _);intro _)
theorem zgu (zaj:Nat->Tp5->(Tr Tp13)->Option Tp16) (zaB:Tp5->(Tr Tp13)->Option Tp16) (zay:∀ a0 a1,ChO (fun κ=>zaj κ a0 a1) (zaB a0 a1)) (w:Tp5) (n:(Tr Tp13)) (a:Tp16):ChO (fun κ=>zao (zaj κ) w n a) (zao zaB w n a):=by
  unfold zao
  repeat' with_reducible first | exact ChO.const _ | exact zay _ _ | (apply zdF<;>assumption) | apply ChO.ite | apply ChO.G | apply ChO.both | (apply ChO.bind;intro _) | (apply ChO.bind2 (zay _ _);intro _)
theorem zl8 (zaj:Nat->Tp5->(Tr Tp13)->Option Tp16) (zaB:Tp5->(Tr Tp13)->Option Tp16) (zay:∀ a0 a1,ChO (fun κ=>zaj κ a0 a1) (zaB a0 a1)) (w:Tp5) (n:(Tr Tp13)) (t:Bool):ChO (fun κ=>zba (zaj κ) w n t) (zba zaB w n t):=by
  unfold zba
  repeat' with_reducible first | exact ChO.const _ | exact zay _ _ | (apply zdF<;>assumption) | (apply zgu<;>assumption) | apply ChO.ite | apply ChO.G | apply ChO.both | (apply ChO.bind;intro _) | (apply ChO.bind2 (zay _ _);intro _)
theorem zmH (zaj:Nat->Tp5->(Tr Tp13)->Option Tp16) (zaB:Tp5->(Tr Tp13)->Option Tp16) (zay:∀ a0 a1,ChO (fun κ=>zaj κ a0 a1) (zaB a0 a1)) (w:Tp5) (n:(Tr Tp13)):ChO (fun κ=>zbk (zaj κ) w n) (zbk zaB w n):=by
  unfold zbk
  repeat' with_reducible first | exact ChO.const _ | exact zay _ _ | (apply zdF<;>assumption) | (apply zgu<;>assumption) | (apply zl8<;>assumption) | apply ChO.ite | apply ChO.G | apply ChO.both | (apply ChO.bind;intro _) | (apply ChO.bind2 (zay _ _);intro _)
def zdY:(Tp5×(Tr Tp13)->Option Tp16)->Tp5×(Tr Tp13)->Option Tp16:=
  fun rec X=>zbk (fun w n=>rec (w,n)) X.1 X.2
def zai (w:Tp5) (n:(Tr Tp13)):Option Tp16:=LFix zdY (w,n)
theorem zog:Cn zdY:=fun g h hg X=>zmH _ _ (fun w n=>hg (w,n)) X.1 X.2
theorem ze1 (w:Tp5) (n:(Tr Tp13)):zai w n=zbk zai w n:=zaz zog (w,n)

def zhB (q:Int) (t:Tp16):Option (Bool):=
  G (0<=q/\q < (t.length:Int)) (
  some (ix t q))

def zcv (s:Tp17) (c:Tp16) (r2:Int->Option (Int)) (t:Int):Option (Int):=
  if (decide (t < (s.length:Int)))=true then
  G (0<=t/\t < (s.length:Int)) (
  (zhB (ix s t) c).bind (fun y'=>
  if y'=true then
  some t else
  G (fits (t+(1:Int))) (
  r2 (t+(1:Int))))) else
  some (-1:Int)
def zim (s:Tp17) (c:Tp16):(Int->Option (Int))->Int->Option (Int):=
  fun rec x=>zcv s c (fun t=>rec t) x
def zea (s:Tp17) (c:Tp16) (t:Int):Option (Int):=LFix (zim s c ) t
def zlV (s:Tp17) (c:Tp16):Option (Int):=
  zea s c (0:Int)
theorem zlr (r2:Nat->Int->Option (Int)) (r2':Int->Option (Int)) (h_r2:∀ a0,ChO (fun κ=>r2 κ a0) (r2' a0)) (s:Tp17) (c:Tp16) (t:Int):ChO (fun κ=>zcv s c (r2 κ) t) (zcv s c r2' t):=by
  unfold zcv
  repeat' with_reducible first | exact ChO.const _ | exact h_r2 _ | apply ChO.ite | apply ChO.G | apply ChO.both | (apply ChO.bind;intro _)
theorem zm9  (s:Tp17) (c:Tp16):Cn (zim s c):=fun g h hg x=>zlr  (fun κ t=>g κ t) (fun t=>h t) (fun t=>hg t) s c x
theorem zna  (s:Tp17) (c:Tp16) (t:Int):zea s c t=zcv s c (zea s c) t:=zaz (zm9 s c) t

def zbj (q:Int) (t:Tp16):Option (Bool):=
  G (0<=q/\q < (t.length:Int)) (
  some (ix t q))

def zcw (s:Tp17) (c:Tp16) (r2:Int->Option (Int)) (t:Int):Option (Int):=
  if (decide (t < (s.length:Int)))=true then
  G (0<=t/\t < (s.length:Int)) (
  (zbj (ix s t) c).bind (fun y'=>
  if y'=true then
  some t else
  G (fits (t+(1:Int))) (
  r2 (t+(1:Int))))) else
  some (-1:Int)
def zin (s:Tp17) (c:Tp16):(Int->Option (Int))->Int->Option (Int):=
  fun rec x=>zcw s c (fun t=>rec t) x
def zbD (s:Tp17) (c:Tp16) (t:Int):Option (Int):=LFix (zin s c ) t
def zeb (s:Tp17) (c:Tp16):Option (Int):=
  zbD s c (0:Int)
theorem zls (r2:Nat->Int->Option (Int)) (r2':Int->Option (Int)) (h_r2:∀ a0,ChO (fun κ=>r2 κ a0) (r2' a0)) (s:Tp17) (c:Tp16) (t:Int):ChO (fun κ=>zcw s c (r2 κ) t) (zcw s c r2' t):=by
  unfold zcw
  repeat' with_reducible first | exact ChO.const _ | exact h_r2 _ | apply ChO.ite | apply ChO.G | apply ChO.both | (apply ChO.bind;intro _)
theorem znb  (s:Tp17) (c:Tp16):Cn (zin s c):=fun g h hg x=>zls  (fun κ t=>g κ t) (fun t=>h t) (fun t=>hg t) s c x
theorem zhy  (s:Tp17) (c:Tp16) (t:Int):zbD s c t=zcw s c (zbD s c) t:=zaz (znb s c) t

def zel (s:Tp17):Option Tp17:=
  if s.length=0 then both [(.list (.int .i64))] (
  some ([])) (
  G (room ([]:List Int) s 8) (
  some (([]:List Int)++s))) else
  G (room ([]:List Int) s 8) (
  some (([]:List Int)++s))

def zbw (w:Tp5) (in':Tp16) (r1:Tp17->Option Tp8) (row_1:Tp17):Option Tp8:=
  G (fits ((row_1.length:Int) - (1:Int))) (
  G (0<=(row_1.length:Int) - (1:Int)/\(row_1.length:Int) - (1:Int) < (row_1.length:Int)) (
  G (((row_1.length:Int) - (1:Int)).toNat < row_1.length) (
  G (0<=ix row_1 ((row_1.length:Int) - (1:Int))/\ix row_1 ((row_1.length:Int) - (1:Int)) < (w.2.1.length:Int)) (
  (zeb (ix w.2.1 (ix row_1 ((row_1.length:Int) - (1:Int)))) in').bind (fun y'=>
  G (0<=ix row_1 ((row_1.length:Int) - (1:Int))/\ix row_1 ((row_1.length:Int) - (1:Int)) < (w.2.1.length:Int)) (
  G (0<=y'/\y' < ((ix w.2.1 (ix row_1 ((row_1.length:Int) - (1:Int)))).length:Int)) (
  (zeW row_1 (ix (ix w.2.1 (ix row_1 ((row_1.length:Int) - (1:Int)))) y')).bind (fun y'_1=>
  if (decide ((0:Int)<=y'_1))=true then
  G (0<=y'_1/\y'_1<=(row_1.length:Int)) (
  G (0<=y'_1/\y'_1<=(row_1.length:Int)) (
  (zel ((row_1.drop 0).take ((y'_1).toNat))).bind (fun y'_2=>
  (zel ((row_1.drop ((y'_1).toNat)).take (row_1.length - (y'_1).toNat))).bind (fun y'_3=>
  some ((y'_2,(y'_3,())),in'))))) else
  G (room row_1 ([ix (ix w.2.1 (ix row_1 ((row_1.length:Int) - (1:Int)))) y']) 8) (
  r1 (row_1++([ix (ix w.2.1 (ix row_1 ((row_1.length:Int) - (1:Int)))) y'])))))))))))
def zhg (w:Tp5) (in':Tp16):(List Int->Option Tp8)->List Int->Option Tp8:=
  fun rec x=>zbw w in' (fun row_1=>rec row_1) x
def zdA (w:Tp5) (in':Tp16) (row_1:Tp17):Option Tp8:=LFix (zhg w in' ) row_1
def zcC (w:Tp5) (row:Tp17) (in':Tp16):Option Tp8:=
  zdA w in' row
theorem zkp (r1:Nat->Tp17->Option Tp8) (r1':Tp17->Option Tp8) (h_r1:∀ a0,ChO (fun κ=>r1 κ a0) (r1' a0)) (w:Tp5) (in':Tp16) (row_1:Tp17):ChO (fun κ=>zbw w in' (r1 κ) row_1) (zbw w in' r1' row_1):=by
  unfold zbw
  repeat' with_reducible first | exact ChO.const _ | exact h_r1 _ | apply ChO.ite | apply ChO.G | apply ChO.both | (apply ChO.bind;intro _)
theorem zl4  (w:Tp5) (in':Tp16):Cn (zhg w in'):=fun g h hg x=>zkp  (fun κ row_1=>g κ row_1) (fun row_1=>h row_1) (fun row_1=>hg row_1) w in' x
theorem zl5  (w:Tp5) (in':Tp16) (row_1:Tp17):zdA w in' row_1=zbw w in' (zdA w in') row_1:=zaz (zl4 w in') row_1

def zbl (w:Tp5) (in':Tp16) (r1:Tp17->Option Tp11) (row_1:Tp17):Option Tp11:=
  G (fits ((row_1.length:Int) - (1:Int))) (
  G (0<=(row_1.length:Int) - (1:Int)/\(row_1.length:Int) - (1:Int) < (row_1.length:Int)) (
  G (((row_1.length:Int) - (1:Int)).toNat < row_1.length) (
  G (0<=ix row_1 ((row_1.length:Int) - (1:Int))/\ix row_1 ((row_1.length:Int) - (1:Int)) < (w.2.1.length:Int)) (
  (zeb (ix w.2.1 (ix row_1 ((row_1.length:Int) - (1:Int)))) in').bind (fun y'=>
  G (0<=ix row_1 ((row_1.length:Int) - (1:Int))/\ix row_1 ((row_1.length:Int) - (1:Int)) < (w.2.1.length:Int)) (
  G (0<=y'/\y' < ((ix w.2.1 (ix row_1 ((row_1.length:Int) - (1:Int)))).length:Int)) (
  (zeW row_1 (ix (ix w.2.1 (ix row_1 ((row_1.length:Int) - (1:Int)))) y')).bind (fun y'_1=>
  if (decide ((0:Int)<=y'_1))=true then
  G (0<=y'_1/\y'_1<=(row_1.length:Int)) (
  G (0<=y'_1/\y'_1<=(row_1.length:Int)) (
  (zel ((row_1.drop 0).take ((y'_1).toNat))).bind (fun y'_2=>
  (zel ((row_1.drop ((y'_1).toNat)).take (row_1.length - (y'_1).toNat))).bind (fun y'_3=>
  some (y'_2,(y'_3,())))))) else
  G (room row_1 ([ix (ix w.2.1 (ix row_1 ((row_1.length:Int) - (1:Int)))) y']) 8) (
  r1 (row_1++([ix (ix w.2.1 (ix row_1 ((row_1.length:Int) - (1:Int)))) y'])))))))))))
def zfO (w:Tp5) (in':Tp16):(List Int->Option Tp11)->List Int->Option Tp11:=
  fun rec x=>zbl w in' (fun row_1=>rec row_1) x
def zcW (w:Tp5) (in':Tp16) (row_1:Tp17):Option Tp11:=LFix (zfO w in' ) row_1
def zdR (w:Tp5) (in':Tp16) (row:Tp17):Option Tp11:=
  zcW w in' row
theorem zjP (r1:Nat->Tp17->Option Tp11) (r1':Tp17->Option Tp11) (h_r1:∀ a0,ChO (fun κ=>r1 κ a0) (r1' a0)) (w:Tp5) (in':Tp16) (row_1:Tp17):ChO (fun κ=>zbl w in' (r1 κ) row_1) (zbl w in' r1' row_1):=by
  unfold zbl
  repeat' with_reducible first | exact ChO.const _ | exact h_r1 _ | apply ChO.ite | apply ChO.G | apply ChO.both | (apply ChO.bind;intro _)
theorem zkn  (w:Tp5) (in':Tp16):Cn (zfO w in'):=fun g h hg x=>zjP  (fun κ row_1=>g κ row_1) (fun row_1=>h row_1) (fun row_1=>hg row_1) w in' x
theorem zko  (w:Tp5) (in':Tp16) (row_1:Tp17):zcW w in' row_1=zbl w in' (zcW w in') row_1:=zaz (zkn w in') row_1

def zcI  (r1:Tf9) (i:Int) (j:Int) (s_1:Tp17):Option Tp17:=
  if (decide (i < j))=true then
  G (0<=j/\j < (s_1.length:Int)) (
  G ((j).toNat < s_1.length) (
  G (0<=i/\i < (s_1.length:Int)) (
  G ((i).toNat < s_1.length) (
  G (0<=i/\i < (s_1.length:Int)) (
  G ((i).toNat < s_1.length) (
  G (0<=j/\j < ((s_1.set (i).toNat (ix s_1 j)).length:Int)) (
  G ((j).toNat < (s_1.set (i).toNat (ix s_1 j)).length) (
  G (fits (i+(1:Int))) (
  G (fits (j - (1:Int))) (
  r1 (i+(1:Int)) (j - (1:Int)) ((s_1.set (i).toNat (ix s_1 j)).set (j).toNat (ix s_1 i)))))))))))) else
  some s_1
def zk5:(Int×Int×Tp17->Option Tp17)->Int×Int×Tp17->Option Tp17:=
  fun rec x=>zcI (fun i j s_1=>rec (i,j,s_1)) x.1 x.2.1 x.2.2
def zfF  (i:Int) (j:Int) (s_1:Tp17):Option Tp17:=LFix (zk5 ) (i,j,s_1)
def zjf (s:Tp17):Option Tp17:=
  G (fits ((s.length:Int) - (1:Int))) (
  zfF (0:Int) ((s.length:Int) - (1:Int)) s)
theorem zop (r1:Nat->Tf9) (r1':Tf9) (h_r1:∀ a0 a1 a2,ChO (fun κ=>r1 κ a0 a1 a2) (r1' a0 a1 a2)) (i:Int) (j:Int) (s_1:Tp17):ChO (fun κ=>zcI (r1 κ) i j s_1) (zcI r1' i j s_1):=by
  unfold zcI
  repeat' with_reducible first | exact ChO.const _ | exact h_r1 _ _ _ | apply ChO.ite | apply ChO.G | apply ChO.both | (apply ChO.bind;intro _)
theorem zp0:Cn (zk5):=fun g h hg x=>zop  (fun κ i j s_1=>g κ (i,j,s_1)) (fun i j s_1=>h (i,j,s_1)) (fun i j s_1=>hg (i,j,s_1))  x.1 x.2.1 x.2.2
theorem zp1   (i:Int) (j:Int) (s_1:Tp17):zfF i j s_1=zcI (zfF) i j s_1:=zaz (zp0 ) (i,j,s_1)

def za2 (from':Tp17) (from'_1:Tp17) (r8:Int->Tp17->Option Tp17) (q:Int) (row:Tp17):Option Tp17:=
  if (decide ((0:Int)<=q))=true then
  G (room row ([q]) 8) (
  r8 (mget from' from'_1 q (0:Int)) (row++([q]))) else
  (zjf row).bind (fun y'=>
  some y')
def zhT (from':Tp17) (from'_1:Tp17):(Int×Tp17->Option Tp17)->Int×Tp17->Option Tp17:=
  fun rec x=>za2 from' from'_1 (fun q row=>rec (q,row)) x.1 x.2
def zbA (from':Tp17) (from'_1:Tp17) (q:Int) (row:Tp17):Option Tp17:=LFix (zhT from' from'_1 ) (q,row)
def za9 (t:Int) (r14:(Int->Tp17->Tp17->Tp17->Option Tp17)) (from'_4:Tp17) (from'_5:Tp17) (l_2:Tp17):Option Tp17:=
  G (fits (t+(1:Int))) (
  r14 (t+(1:Int)) from'_4 from'_5 l_2)
def zaL (w:Tp5) (l:Tp17) (t:Int) (from'_2:Tp17) (from'_3:Tp17) (l_1:Tp17) (r14:(Int->Tp17->Tp17->Tp17->Option Tp17)) (t_1:Bool):Option Tp17:=
  if t_1=true then
  G (room l_1 ([ix (ix w.2.1 (ix l (0:Int))) t]) 8) (
  za9 t r14 (zok from'_2 (ix (ix w.2.1 (ix l (0:Int))) t)) (zrn from'_2 from'_3 (ix (ix w.2.1 (ix l (0:Int))) t) (ix l (0:Int))) (l_1++([ix (ix w.2.1 (ix l (0:Int))) t]))) else
  za9 t r14 from'_2 from'_3 l_1
def zbd (w:Tp5) (a:Tp16) (b:Tp16) (l:Tp17) (r4:(Tp17->Tp17->Tp17->Option Tp17)) (r14:Tf4) (t:Int) (from'_2:Tp17) (from'_3:Tp17) (l_1:Tp17):Option Tp17:=
  if (decide (t < ((ix w.2.1 (ix l (0:Int))).length:Int)))=true then
  G (0<=t/\t < ((ix w.2.1 (ix l (0:Int))).length:Int)) (
  if (!(mhas from'_2 (ix (ix w.2.1 (ix l (0:Int))) t)))=true then
  G (0<=ix (ix w.2.1 (ix l (0:Int))) t/\ix (ix w.2.1 (ix l (0:Int))) t < (a.length:Int)) (
  if (ix a (ix (ix w.2.1 (ix l (0:Int))) t))=true then
  zaL w l t from'_2 from'_3 l_1 r14 true else
  G (0<=ix (ix w.2.1 (ix l (0:Int))) t/\ix (ix w.2.1 (ix l (0:Int))) t < (b.length:Int)) (
  zaL w l t from'_2 from'_3 l_1 r14 (ix b (ix (ix w.2.1 (ix l (0:Int))) t)))) else
  zaL w l t from'_2 from'_3 l_1 r14 false) else
  G (0<=(1:Int)/\(1:Int)<=(l_1.length:Int)) (
  r4 from'_2 from'_3 (l_1.drop ((1:Int)).toNat))
def zhd (w:Tp5) (a:Tp16) (b:Tp16) (l:Tp17) (r4:(Tp17->Tp17->Tp17->Option Tp17)):(Int×Tp17×Tp17×Tp17->Option Tp17)->Int×Tp17×Tp17×Tp17->Option Tp17:=
  fun rec x=>zbd w a b l r4 (fun t from'_2 from'_3 l_1=>rec (t,from'_2,from'_3,l_1)) x.1 x.2.1 x.2.2.1 x.2.2.2
def zat (w:Tp5) (a:Tp16) (b:Tp16) (l:Tp17) (r4:(Tp17->Tp17->Tp17->Option Tp17)) (t:Int) (from'_2:Tp17) (from'_3:Tp17) (l_1:Tp17):Option Tp17:=LFix (zhd w a b l r4 ) (t,from'_2,from'_3,l_1)
def zbG (w:Tp5) (a:Tp16) (b:Tp16) (r4:Tf7) (from':Tp17) (from'_1:Tp17) (l:Tp17):Option Tp17:=
  G (0<=(0:Int)/\(0:Int) < (l.length:Int)) (
  G (((0:Int)).toNat < l.length) (
  G (0<=ix l (0:Int)/\ix l (0:Int) < (b.length:Int)) (
  if (ix b (ix l (0:Int)))=true then
  zbA from' from'_1 (ix l (0:Int)) ([]) else
  G (0<=ix l (0:Int)/\ix l (0:Int) < (w.2.1.length:Int)) (
  zat w a b l r4 (0:Int) from' from'_1 l))))
def zhS (w:Tp5) (a:Tp16) (b:Tp16):(Tp17×Tp17×Tp17->Option Tp17)->Tp17×Tp17×Tp17->Option Tp17:=
  fun rec x=>zbG w a b (fun from' from'_1 l=>rec (from',from'_1,l)) x.1 x.2.1 x.2.2
def zaI (w:Tp5) (a:Tp16) (b:Tp16) (from':Tp17) (from'_1:Tp17) (l:Tp17):Option Tp17:=LFix (zhS w a b ) (from',from'_1,l)
def zdQ (w:Tp5) (p:Int) (a:Tp16) (b:Tp16):Option Tp17:=
  zaI w a b (zok ([]:List Int) p) (zrn ([]:List Int) ([]:List Int) p (-1:Int)) ([p])
theorem zll (r8:Nat->Int->Tp17->Option Tp17) (r8':Int->Tp17->Option Tp17) (h_r8:∀ a0 a1,ChO (fun κ=>r8 κ a0 a1) (r8' a0 a1)) (from':Tp17) (from'_1:Tp17) (q:Int) (row:Tp17):ChO (fun κ=>za2 from' from'_1 (r8 κ) q row) (za2 from' from'_1 r8' q row):=by
  unfold za2
  repeat' with_reducible first | exact ChO.const _ | exact h_r8 _ _ | apply ChO.ite | apply ChO.G | apply ChO.both | (apply ChO.bind;intro _)
theorem zmy  (from':Tp17) (from'_1:Tp17):Cn (zhT from' from'_1):=fun g h hg x=>zll  (fun κ q row=>g κ (q,row)) (fun q row=>h (q,row)) (fun q row=>hg (q,row)) from' from'_1 x.1 x.2
theorem zev  (from':Tp17) (from'_1:Tp17) (q:Int) (row:Tp17):zbA from' from'_1 q row=za2 from' from'_1 (zbA from' from'_1) q row:=zaz (zmy from' from'_1) (q,row)
theorem zef (r14:Nat->Tf4) (r14':Tf4) (h_r14:∀ a0 a1 a2 a3,ChO (fun κ=>r14 κ a0 a1 a2 a3) (r14' a0 a1 a2 a3)) (t:Int) (from'_4:Tp17) (from'_5:Tp17) (l_2:Tp17):ChO (fun κ=>za9 t (r14 κ) from'_4 from'_5 l_2) (za9 t r14' from'_4 from'_5 l_2):=by
  unfold za9
  repeat' with_reducible first | exact ChO.const _ | exact h_r14 _ _ _ _ | apply ChO.ite | apply ChO.G | apply ChO.both | (apply ChO.bind;intro _)
theorem zga (r14:Nat->Tf4) (r14':Tf4) (h_r14:∀ a0 a1 a2 a3,ChO (fun κ=>r14 κ a0 a1 a2 a3) (r14' a0 a1 a2 a3)) (w:Tp5) (l:Tp17) (t:Int) (from'_2:Tp17) (from'_3:Tp17) (l_1:Tp17) (t_1:Bool):ChO (fun κ=>zaL w l t from'_2 from'_3 l_1 (r14 κ) t_1) (zaL w l t from'_2 from'_3 l_1 r14' t_1):=by
  unfold zaL
  repeat' with_reducible first | exact ChO.const _ | exact h_r14 _ _ _ _ | (apply zef<;>assumption) | apply ChO.ite | apply ChO.G | apply ChO.both | (apply ChO.bind;intro _)
theorem zfe (r4:Nat->Tf7) (r4':Tf7) (h_r4:∀ a0 a1 a2,ChO (fun κ=>r4 κ a0 a1 a2) (r4' a0 a1 a2)) (r14:Nat->Tf4) (r14':Tf4) (h_r14:∀ a0 a1 a2 a3,ChO (fun κ=>r14 κ a0 a1 a2 a3) (r14' a0 a1 a2 a3)) (w:Tp5) (a:Tp16) (b:Tp16) (l:Tp17) (t:Int) (from'_2:Tp17) (from'_3:Tp17) (l_1:Tp17):ChO (fun κ=>zbd w a b l (r4 κ) (r14 κ) t from'_2 from'_3 l_1) (zbd w a b l r4' r14' t from'_2 from'_3 l_1):=by
  unfold zbd
  repeat' with_reducible first | exact ChO.const _ | exact h_r4 _ _ _ | exact h_r14 _ _ _ _ | (apply zef<;>assumption) | (apply zga<;>assumption) | apply ChO.ite | apply ChO.G | apply ChO.both | (apply ChO.bind;intro _)
theorem zeg (r4:Tf7) (w:Tp5) (a:Tp16) (b:Tp16) (l:Tp17):Cn (zhd w a b l r4):=fun g h hg x=>zfe (fun _=>r4) r4 (fun _ _ _=>ChO.const _) (fun κ t from'_2 from'_3 l_1=>g κ (t,from'_2,from'_3,l_1)) (fun t from'_2 from'_3 l_1=>h (t,from'_2,from'_3,l_1)) (fun t from'_2 from'_3 l_1=>hg (t,from'_2,from'_3,l_1)) w a b l x.1 x.2.1 x.2.2.1 x.2.2.2
theorem zgb (r4:Tf7) (w:Tp5) (a:Tp16) (b:Tp16) (l:Tp17) (t:Int) (from'_2:Tp17) (from'_3:Tp17) (l_1:Tp17):zat w a b l r4 t from'_2 from'_3 l_1=zbd w a b l r4 (zat w a b l r4) t from'_2 from'_3 l_1:=zaz (zeg r4 w a b l) (t,from'_2,from'_3,l_1)
theorem zl3 (r4:Nat->Tf7) (r4':Tf7) (h_r4:∀ a0 a1 a2,ChO (fun κ=>r4 κ a0 a1 a2) (r4' a0 a1 a2)) (w:Tp5) (a:Tp16) (b:Tp16) (l:Tp17) (t:Int) (from'_2:Tp17) (from'_3:Tp17) (l_1:Tp17):ChO (fun κ=>zat w a b l (r4 κ) t from'_2 from'_3 l_1) (zat w a b l r4' t from'_2 from'_3 l_1):=by
  unfold zat
  exact zqv (fun κ=>(zeg (r4 κ) w a b l).mono) (zeg r4' w a b l).mono (fun g h hg x=>zfe r4 r4' h_r4 (fun κ t from'_2 from'_3 l_1=>g κ (t,from'_2,from'_3,l_1)) (fun t from'_2 from'_3 l_1=>h (t,from'_2,from'_3,l_1)) (fun t from'_2 from'_3 l_1=>hg (t,from'_2,from'_3,l_1)) w a b l x.1 x.2.1 x.2.2.1 x.2.2.2) _
theorem zlk (r4:Nat->Tf7) (r4':Tf7) (h_r4:∀ a0 a1 a2,ChO (fun κ=>r4 κ a0 a1 a2) (r4' a0 a1 a2)) (w:Tp5) (a:Tp16) (b:Tp16) (from':Tp17) (from'_1:Tp17) (l:Tp17):ChO (fun κ=>zbG w a b (r4 κ) from' from'_1 l) (zbG w a b r4' from' from'_1 l):=by
  unfold zbG
  repeat' with_reducible first | exact ChO.const _ | exact h_r4 _ _ _ | (apply zef<;>assumption) | (apply zga<;>assumption) | (apply zl3<;>assumption) | apply ChO.ite | apply ChO.G | apply ChO.both | (apply ChO.bind;intro _)
theorem zmw  (w:Tp5) (a:Tp16) (b:Tp16):Cn (zhS w a b):=fun g h hg x=>zlk  (fun κ from' from'_1 l=>g κ (from',from'_1,l)) (fun from' from'_1 l=>h (from',from'_1,l)) (fun from' from'_1 l=>hg (from',from'_1,l)) w a b x.1 x.2.1 x.2.2
theorem zmx  (w:Tp5) (a:Tp16) (b:Tp16) (from':Tp17) (from'_1:Tp17) (l:Tp17):zaI w a b from' from'_1 l=zbG w a b (zaI w a b) from' from'_1 l:=zaz (zmw w a b) (from',from'_1,l)

def zaM (g':Tp7) (text:(List UInt8)) (p:Int):Option (Tp11×Bool×Int):=
  (zdH (g'.1,(g'.2.1,(g'.2.2.1,())))).bind (fun y'=>
  if (decide (¬ y'=(0:Int)))=true then
  some (([],([],())),false,y') else
  (zbN text).bind (fun y'_30=>
  if (decide (¬ y'_30.2.1=(0:Int)))=true then
  some (([],([],())),false,(4:Int)) else
  G (0<=(0:Int)/\(0:Int) < (text.length:Int)) (
  if (decide (¬ (bAt text (0:Int))=(69:Int)))=true then
  some (([],([],())),false,(3:Int)) else
  G (y'_30.1.isMk=true) (
  (zfv ([(88:Int),(70:Int),(71:Int),(85:Int)]) ((y'_30.1.val (0,(false,(0,())))).1)).bind (fun y'_4=>
  if (!y'_4)=true then
  some (([],([],())),false,(3:Int)) else
  if (decide (p < (0:Int)))=true then
  some (([],([],())),false,(2:Int)) else
  if (decide (g'.2.1<=p))=true then
  some (([],([],())),false,(2:Int)) else
  (zcd (g'.1,(g'.2.1,(g'.2.2.1,())))).bind (fun y'_5=>
  (zai y'_5 y'_30.1).bind (fun y'_6=>
  G (0<=p/\p < (y'_6.length:Int)) (
  if (!(ix y'_6 p))=true then
  some (([],([],())),false,(0:Int)) else
  G (y'_30.1.isMk=true) (
  G (0<=(0:Int)/\(0:Int) < (y'_30.1.kids.length:Int)) (
  (zai y'_5 (ix y'_30.1.kids (0:Int))).bind (fun y'_7=>
  G (y'_30.1.isMk=true) (
  if (decide (((y'_30.1.val (0,(false,(0,())))).1)=(88:Int)))=true then
  G (0<=p/\p < (y'_5.2.1.length:Int)) (
  (zlV (ix y'_5.2.1 p) y'_7).bind (fun y'_8=>
  G (0<=p/\p < (y'_5.2.1.length:Int)) (
  G (0<=y'_8/\y'_8 < ((ix y'_5.2.1 p).length:Int)) (
  if (decide (¬ (ix (ix y'_5.2.1 p) y'_8)=p))=true then
  (zca y'_5).bind (fun y'_9=>
  (zcC y'_5 ([p,ix (ix y'_5.2.1 p) y'_8]) y'_9).bind (fun y'_13=>
  some ((y'_13.1.1,(y'_13.1.2.1,())),true,(0:Int)))) else
  some (([],([p],())),true,(0:Int)))))) else
  if (decide (((y'_30.1.val (0,(false,(0,())))).1)=(71:Int)))=true then
  (zbP y'_5 y'_7).bind (fun y'_14=>
  (zdR y'_5 y'_14 ([p])).bind (fun y'_15=>
  some ((y'_15.1,(y'_15.2.1,())),true,(0:Int)))) else
  if (decide (((y'_30.1.val (0,(false,(0,())))).1)=(70:Int)))=true then
  (zca y'_5).bind (fun y'_16=>
  (zdQ y'_5 p y'_16 y'_7).bind (fun y'_17=>
  (zca y'_5).bind (fun y'_18=>
  (zcC y'_5 y'_17 y'_18).bind (fun y'_22=>
  some ((y'_22.1.1,(y'_22.1.2.1,())),true,(0:Int)))))) else
  G (y'_30.1.isMk=true) (
  G (0<=(1:Int)/\(1:Int) < (y'_30.1.kids.length:Int)) (
  (zai y'_5 (ix y'_30.1.kids (1:Int))).bind (fun y'_23=>
  (zdQ y'_5 p y'_7 y'_23).bind (fun y'_24=>
  (zca y'_5).bind (fun y'_25=>
  (zcC y'_5 y'_24 y'_25).bind (fun y'_29=>
  some ((y'_29.1.1,(y'_29.1.2.1,())),true,(0:Int))))))))))))))))))))

def zfl (l:Tp11):Option (Bool):=
  G (fits ((l.1.length:Int)+(l.2.1.length:Int))) (
  some (decide (((l.1.length:Int)+(l.2.1.length:Int))=(0:Int))))

def zru (x':Tp14) (y':Tp14):Option (Bool):=
  if (decide (¬ x'.1=y'.1))=true then
  some (decide (x'.1 < y'.1)) else
  if (decide (¬ x'.2.1=y'.2.1))=true then
  some (decide (x'.2.1 < y'.2.1)) else
  some (decide (x'.2.2.1 < y'.2.2.1))

def zcn (g':Tp7) (r12:Int->Option (Int)) (i_1:Int):Option (Int):=
  if (decide (i_1 < (g'.2.2.1.length:Int)))=true then
  G (fits (i_1 - (1:Int))) (
  G (0<=i_1 - (1:Int)/\i_1 - (1:Int) < (g'.2.2.1.length:Int)) (
  G (0<=i_1/\i_1 < (g'.2.2.1.length:Int)) (
  (zru (ix g'.2.2.1 (i_1 - (1:Int))) (ix g'.2.2.1 i_1)).bind (fun y'=>
  if (!y')=true then
  some (3:Int) else
  G (fits (i_1+(1:Int))) (
  r12 (i_1+(1:Int))))))) else
  some (0:Int)
def zoX (g':Tp7):(Int->Option (Int))->Int->Option (Int):=
  fun rec x=>zcn g' (fun i_1=>rec i_1) x
def znA (g':Tp7) (i_1:Int):Option (Int):=LFix (zoX g' ) i_1
def zdi (g':Tp7) (r6:Int->Option (Int)) (i:Int):Option (Int):=
  if (decide (i < (g'.2.2.1.length:Int)))=true then
  G (0<=i/\i < (g'.2.2.1.length:Int)) (
  if (decide (((ix g'.2.2.1 i).1) < (0:Int)))=true then
  some (2:Int) else
  if (decide (g'.2.1<=((ix g'.2.2.1 i).1)))=true then
  some (2:Int) else
  if (decide (((((ix g'.2.2.1 i).2).2).1) < (0:Int)))=true then
  some (2:Int) else
  if (decide (g'.2.1<=((((ix g'.2.2.1 i).2).2).1)))=true then
  some (2:Int) else
  if (decide ((((ix g'.2.2.1 i).2).1) < (0:Int)))=true then
  some (2:Int) else
  if (decide (g'.1<=(((ix g'.2.2.1 i).2).1)))=true then
  some (2:Int) else
  G (fits (i+(1:Int))) (
  r6 (i+(1:Int)))) else
  znA g' (1:Int)
def zqc (g':Tp7):(Int->Option (Int))->Int->Option (Int):=
  fun rec x=>zdi g' (fun i=>rec i) x
def zoY (g':Tp7) (i:Int):Option (Int):=LFix (zqc g' ) i
def zrz (g':Tp7):Option (Int):=
  if (decide (g'.1 < (1:Int)))=true then
  some (2:Int) else
  if (decide ((4:Int) < g'.1))=true then
  some (2:Int) else
  if (decide (g'.2.1 < (1:Int)))=true then
  some (1:Int) else
  if (decide ((12:Int) < g'.2.1))=true then
  some (1:Int) else
  if (decide ((60:Int) < (g'.2.2.1.length:Int)))=true then
  some (1:Int) else
  zoY g' (0:Int)
theorem zrA (r12:Nat->Int->Option (Int)) (r12':Int->Option (Int)) (h_r12:∀ a0,ChO (fun κ=>r12 κ a0) (r12' a0)) (g':Tp7) (i_1:Int):ChO (fun κ=>zcn g' (r12 κ) i_1) (zcn g' r12' i_1):=by
  unfold zcn
  repeat' with_reducible first | exact ChO.const _ | exact h_r12 _ | apply ChO.ite | apply ChO.G | apply ChO.both | (apply ChO.bind;intro _)
theorem ztq  (g':Tp7):Cn (zoX g'):=fun g h hg x=>zrA  (fun κ i_1=>g κ i_1) (fun i_1=>h i_1) (fun i_1=>hg i_1) g' x
theorem zgH  (g':Tp7) (i_1:Int):znA g' i_1=zcn g' (znA g') i_1:=zaz (ztq g') i_1
theorem zsy (r6:Nat->Int->Option (Int)) (r6':Int->Option (Int)) (h_r6:∀ a0,ChO (fun κ=>r6 κ a0) (r6' a0)) (g':Tp7) (i:Int):ChO (fun κ=>zdi g' (r6 κ) i) (zdi g' r6' i):=by
  unfold zdi
  repeat' with_reducible first | exact ChO.const _ | exact h_r6 _ | apply ChO.ite | apply ChO.G | apply ChO.both | (apply ChO.bind;intro _)
theorem zuF  (g':Tp7):Cn (zqc g'):=fun g h hg x=>zsy  (fun κ i=>g κ i) (fun i=>h i) (fun i=>hg i) g' x
theorem zkC  (g':Tp7) (i:Int):zoY g' i=zdi g' (zoY g') i:=zaz (zuF g') i

def zh5 (r:((List UInt8)×Int×Int×Int×Tp9×(Int×Int×Unit)×Unit)):Option (Bool):=
  some (decide (r.2.2.2.2.2.1.1=(0:Int)))

def zdj (r:((List UInt8)×Int×Int×Int×Tp9×(Int×Int×Unit)×Unit)):Option (Int):=
  if (decide ((r.1.length:Int)<=r.2.1))=true then
  some (0:Int) else
  G (0<=r.2.1/\r.2.1 < (r.1.length:Int)) (
  some (bAt r.1 r.2.1))

def zco (code:Int) (c:(List UInt8)) (c_1:Int) (c_2:Int) (c_3:Int) (c_4:Int) (c_5:Int) (l:Tp9):Option ((List UInt8)×Int×Int×Int×Tp9×Int×Int):=
  if (decide (c_4=(0:Int)))=true then
  some (c,c_1,c_2,c_3,l,code,c_1) else
  some (c,c_1,c_2,c_3,l,c_4,c_5)

def zbg (c:(List UInt8)) (c_1:Int) (c_2:Int) (c_3:Int) (c_4:Int) (c_5:Int) (l:Tp9):Option ((List UInt8)×Int×Int×Int×Tp9×Int×Int):=
  G (fits (c_3+(1:Int))) (
  if (decide ((30:Int) < (c_3+(1:Int))))=true then
  (zco (7:Int) c c_1 c_2 (c_3+(1:Int)) c_4 c_5 l).bind (fun y'_8=>
  G (fits (y'_8.2.1+(1:Int))) (
  some (y'_8.1,y'_8.2.1+(1:Int),y'_8.2.2.1,y'_8.2.2.2.1,y'_8.2.2.2.2.1,y'_8.2.2.2.2.2.1,y'_8.2.2.2.2.2.2))) else
  G (fits (c_1+(1:Int))) (
  some (c,c_1+(1:Int),c_2,c_3+(1:Int),l,c_4,c_5)))

def zbY (n:Tp10) (c:(List UInt8)) (c_1:Int) (c_2:Int) (c_3:Int) (c_4:Int) (c_5:Int) (l:Tp9):Option (Int×(List UInt8)×Int×Int×Int×Tp9×Int×Int):=
  G (room l ([(n.1,(n.2.1,(n.2.2.1,(n.2.2.2.1,(n.2.2.2.2.1,())))))]) 32) (
  G (fits (((l++([(n.1,(n.2.1,(n.2.2.1,(n.2.2.2.1,(n.2.2.2.2.1,())))))])).length:Int) - (1:Int))) (
  some (((l++([(n.1,(n.2.1,(n.2.2.1,(n.2.2.2.1,(n.2.2.2.2.1,())))))])).length:Int) - (1:Int),c,c_1,c_2,c_3,l++([(n.1,(n.2.1,(n.2.2.1,(n.2.2.2.1,(n.2.2.2.2.1,())))))]),c_4,c_5)))

def zdn (c:(List UInt8)) (c_1:Int) (c_2:Int) (c_3:Int) (c_4:Int) (c_5:Int) (l:Tp9):Option ((List UInt8)×Int×Int×Int×Tp9×Int×Int):=
  if (decide (c_2=(40:Int)))=true then
  (zco (7:Int) c c_1 c_2 c_3 c_4 c_5 l).bind (fun y'_8=>
  G (fits (y'_8.2.2.1+(1:Int))) (
  G (fits (y'_8.2.1+(1:Int))) (
  some (y'_8.1,y'_8.2.1+(1:Int),y'_8.2.2.1+(1:Int),y'_8.2.2.2.1,y'_8.2.2.2.2.1,y'_8.2.2.2.2.2.1,y'_8.2.2.2.2.2.2)))) else
  G (fits (c_2+(1:Int))) (
  G (fits (c_1+(1:Int))) (
  some (c,c_1+(1:Int),c_2+(1:Int),c_3,l,c_4,c_5)))

def zcP (c:Int) (c_1:(List UInt8)) (c_2:Int) (c_3:Int) (c_4:Int) (c_5:Int) (c_6:Int) (l:Tp9):Option ((List UInt8)×Int×Int×Int×Tp9×Int×Int):=
  (zdj (c_1,(c_2,(c_3,(c_4,(l,((c_5,(c_6,())),()))))))).bind (fun y'=>
  if (decide (¬ y'=c))=true then
  (zco (4:Int) c_1 c_2 c_3 c_4 c_5 c_6 l).bind (fun y'_9=>
  G (fits (y'_9.2.1+(1:Int))) (
  some (y'_9.1,y'_9.2.1+(1:Int),y'_9.2.2.1,y'_9.2.2.2.1,y'_9.2.2.2.2.1,y'_9.2.2.2.2.2.1,y'_9.2.2.2.2.2.2))) else
  G (fits (c_2+(1:Int))) (
  some (c_1,c_2+(1:Int),c_3,c_4,l,c_5,c_6)))

def zbL (zab:(List UInt8)->Int->Int->Int->Int->Int->Tp9->Option (Int×(List UInt8)×Int×Int×Int×Tp9×Int×Int))  (r2:Int->(List UInt8)->Int->Int->Int->Int->Int->Tp9->Option (Int×(List UInt8)×Int×Int×Int×Tp9×Int×Int)) (a:Int) (r:(List UInt8)) (r_1:Int) (r_2:Int) (r_3:Int) (r_4:Int) (r_5:Int) (l_1:Tp9):Option (Int×(List UInt8)×Int×Int×Int×Tp9×Int×Int):=
  (zdj (r,(r_1,(r_2,(r_3,(l_1,((r_4,(r_5,())),()))))))).bind (fun y'_9=>
  (zh5 (r,(r_1,(r_2,(r_3,(l_1,((r_4,(r_5,())),()))))))).bind (fun y'_10=>
  if (!y'_10)=true then
  some (a,r,r_1,r_2,r_3,l_1,r_4,r_5) else
  if (decide (¬ y'_9=(38:Int)))=true then
  some (a,r,r_1,r_2,r_3,l_1,r_4,r_5) else
  (zbg r r_1 r_2 r_3 r_4 r_5 l_1).bind (fun y'_39=>
  (zab y'_39.1 y'_39.2.1 y'_39.2.2.1 y'_39.2.2.2.1 y'_39.2.2.2.2.2.1 y'_39.2.2.2.2.2.2 y'_39.2.2.2.2.1).bind (fun y'_38=>
  (zbY ((38:Int),(false,((0:Int),(a,(y'_38.1,()))))) y'_38.2.1 y'_38.2.2.1 y'_38.2.2.2.1 y'_38.2.2.2.2.1 y'_38.2.2.2.2.2.2.1 y'_38.2.2.2.2.2.2.2 y'_38.2.2.2.2.2.1).bind (fun y'_37=>
  r2 y'_37.1 y'_37.2.1 y'_37.2.2.1 y'_37.2.2.2.1 y'_37.2.2.2.2.1 y'_37.2.2.2.2.2.2.1 y'_37.2.2.2.2.2.2.2 y'_37.2.2.2.2.2.1)))))
def zjY (zab:(List UInt8)->Int->Int->Int->Int->Int->Tp9->Option (Int×(List UInt8)×Int×Int×Int×Tp9×Int×Int)):(Int×(List UInt8)×Int×Int×Int×Int×Int×Tp9->Option (Int×(List UInt8)×Int×Int×Int×Tp9×Int×Int))->Int×(List UInt8)×Int×Int×Int×Int×Int×Tp9->Option (Int×(List UInt8)×Int×Int×Int×Tp9×Int×Int):=
  fun rec x=>zbL zab (fun a r r_1 r_2 r_3 r_4 r_5 l_1=>rec (a,r,r_1,r_2,r_3,r_4,r_5,l_1)) x.1 x.2.1 x.2.2.1 x.2.2.2.1 x.2.2.2.2.1 x.2.2.2.2.2.1 x.2.2.2.2.2.2.1 x.2.2.2.2.2.2.2
def zbQ (zab:(List UInt8)->Int->Int->Int->Int->Int->Tp9->Option (Int×(List UInt8)×Int×Int×Int×Tp9×Int×Int))  (a:Int) (r:(List UInt8)) (r_1:Int) (r_2:Int) (r_3:Int) (r_4:Int) (r_5:Int) (l_1:Tp9):Option (Int×(List UInt8)×Int×Int×Int×Tp9×Int×Int):=LFix (zjY zab ) (a,r,r_1,r_2,r_3,r_4,r_5,l_1)
def zbZ (zab:(List UInt8)->Int->Int->Int->Int->Int->Tp9->Option (Int×(List UInt8)×Int×Int×Int×Tp9×Int×Int)) (c:(List UInt8)) (c_1:Int) (c_2:Int) (c_3:Int) (c_4:Int) (c_5:Int) (l:Tp9):Option (Int×(List UInt8)×Int×Int×Int×Tp9×Int×Int):=
  (zab c c_1 c_2 c_3 c_4 c_5 l).bind (fun y'_40=>
  zbQ zab y'_40.1 y'_40.2.1 y'_40.2.2.1 y'_40.2.2.2.1 y'_40.2.2.2.2.1 y'_40.2.2.2.2.2.2.1 y'_40.2.2.2.2.2.2.2 y'_40.2.2.2.2.2.1)
def zbC (zab:(List UInt8)->Int->Int->Int->Int->Int->Tp9->Option (Int×(List UInt8)×Int×Int×Int×Tp9×Int×Int))  (r2:Int->(List UInt8)->Int->Int->Int->Int->Int->Tp9->Option (Int×(List UInt8)×Int×Int×Int×Tp9×Int×Int)) (a:Int) (r:(List UInt8)) (r_1:Int) (r_2:Int) (r_3:Int) (r_4:Int) (r_5:Int) (l_1:Tp9):Option (Int×(List UInt8)×Int×Int×Int×Tp9×Int×Int):=
  (zdj (r,(r_1,(r_2,(r_3,(l_1,((r_4,(r_5,())),()))))))).bind (fun y'_9=>
  (zh5 (r,(r_1,(r_2,(r_3,(l_1,((r_4,(r_5,())),()))))))).bind (fun y'_10=>
  if (!y'_10)=true then
  some (a,r,r_1,r_2,r_3,l_1,r_4,r_5) else
  if (decide (¬ y'_9=(124:Int)))=true then
  some (a,r,r_1,r_2,r_3,l_1,r_4,r_5) else
  (zbg r r_1 r_2 r_3 r_4 r_5 l_1).bind (fun y'_39=>
  (zbZ zab y'_39.1 y'_39.2.1 y'_39.2.2.1 y'_39.2.2.2.1 y'_39.2.2.2.2.2.1 y'_39.2.2.2.2.2.2 y'_39.2.2.2.2.1).bind (fun y'_38=>
  (zbY ((124:Int),(false,((0:Int),(a,(y'_38.1,()))))) y'_38.2.1 y'_38.2.2.1 y'_38.2.2.2.1 y'_38.2.2.2.2.1 y'_38.2.2.2.2.2.2.1 y'_38.2.2.2.2.2.2.2 y'_38.2.2.2.2.2.1).bind (fun y'_37=>
  r2 y'_37.1 y'_37.2.1 y'_37.2.2.1 y'_37.2.2.2.1 y'_37.2.2.2.2.1 y'_37.2.2.2.2.2.2.1 y'_37.2.2.2.2.2.2.2 y'_37.2.2.2.2.2.1)))))
def zjx (zab:(List UInt8)->Int->Int->Int->Int->Int->Tp9->Option (Int×(List UInt8)×Int×Int×Int×Tp9×Int×Int)):(Int×(List UInt8)×Int×Int×Int×Int×Int×Tp9->Option (Int×(List UInt8)×Int×Int×Int×Tp9×Int×Int))->Int×(List UInt8)×Int×Int×Int×Int×Int×Tp9->Option (Int×(List UInt8)×Int×Int×Int×Tp9×Int×Int):=
  fun rec x=>zbC zab (fun a r r_1 r_2 r_3 r_4 r_5 l_1=>rec (a,r,r_1,r_2,r_3,r_4,r_5,l_1)) x.1 x.2.1 x.2.2.1 x.2.2.2.1 x.2.2.2.2.1 x.2.2.2.2.2.1 x.2.2.2.2.2.2.1 x.2.2.2.2.2.2.2
def zbB (zab:(List UInt8)->Int->Int->Int->Int->Int->Tp9->Option (Int×(List UInt8)×Int×Int×Int×Tp9×Int×Int))  (a:Int) (r:(List UInt8)) (r_1:Int) (r_2:Int) (r_3:Int) (r_4:Int) (r_5:Int) (l_1:Tp9):Option (Int×(List UInt8)×Int×Int×Int×Tp9×Int×Int):=LFix (zjx zab ) (a,r,r_1,r_2,r_3,r_4,r_5,l_1)
def zbc (zab:(List UInt8)->Int->Int->Int->Int->Int->Tp9->Option (Int×(List UInt8)×Int×Int×Int×Tp9×Int×Int)) (c:(List UInt8)) (c_1:Int) (c_2:Int) (c_3:Int) (c_4:Int) (c_5:Int) (l:Tp9):Option (Int×(List UInt8)×Int×Int×Int×Tp9×Int×Int):=
  (zbZ zab c c_1 c_2 c_3 c_4 c_5 l).bind (fun y'_40=>
  zbB zab y'_40.1 y'_40.2.1 y'_40.2.2.1 y'_40.2.2.2.1 y'_40.2.2.2.2.1 y'_40.2.2.2.2.2.2.1 y'_40.2.2.2.2.2.2.2 y'_40.2.2.2.2.2.1)
def zaR (zab:(List UInt8)->Int->Int->Int->Int->Int->Tp9->Option (Int×(List UInt8)×Int×Int×Int×Tp9×Int×Int)) (all':Bool) (y':(List UInt8)) (y'_1:Int) (y'_2:Int) (y'_3:Int) (y'_4:Tp9) (y'_5:Int) (y'_6:Int) (y'_8:Int) (t:Bool):Option (Int×(List UInt8)×Int×Int×Int×Tp9×Int×Int):=
  if t=true then
  G (fits (y'_1+(1:Int))) (
  (zab y' (y'_1+(1:Int)) y'_2 y'_3 y'_5 y'_6 y'_4).bind (fun y'_28=>
  (zbY (y'_8,(all',((0:Int),(y'_28.1,((0:Int),()))))) y'_28.2.1 y'_28.2.2.1 y'_28.2.2.2.1 y'_28.2.2.2.2.1 y'_28.2.2.2.2.2.2.1 y'_28.2.2.2.2.2.2.2 y'_28.2.2.2.2.2.1).bind (fun y'_27=>
  some (y'_27.1,y'_27.2.1,y'_27.2.2.1,y'_27.2.2.2.1,y'_27.2.2.2.2.1,y'_27.2.2.2.2.2.1,y'_27.2.2.2.2.2.2.1,y'_27.2.2.2.2.2.2.2)))) else
  if (decide (¬ y'_8=(40:Int)))=true then
  (zco (4:Int) y' y'_1 y'_2 y'_3 y'_5 y'_6 y'_4).bind (fun y'_37=>
  some ((0:Int),y'_37.1,y'_37.2.1,y'_37.2.2.1,y'_37.2.2.2.1,y'_37.2.2.2.2.1,y'_37.2.2.2.2.2.1,y'_37.2.2.2.2.2.2)) else
  (zdn y' y'_1 y'_2 y'_3 y'_5 y'_6 y'_4).bind (fun y'_94=>
  (zbc zab y'_94.1 y'_94.2.1 y'_94.2.2.1 y'_94.2.2.2.1 y'_94.2.2.2.2.2.1 y'_94.2.2.2.2.2.2 y'_94.2.2.2.2.1).bind (fun y'_93=>
  (zcP (85:Int) y'_93.2.1 y'_93.2.2.1 y'_93.2.2.2.1 y'_93.2.2.2.2.1 y'_93.2.2.2.2.2.2.1 y'_93.2.2.2.2.2.2.2 y'_93.2.2.2.2.2.1).bind (fun y'_92=>
  (zbc zab y'_92.1 y'_92.2.1 y'_92.2.2.1 y'_92.2.2.2.1 y'_92.2.2.2.2.2.1 y'_92.2.2.2.2.2.2 y'_92.2.2.2.2.1).bind (fun y'_91=>
  (zcP (41:Int) y'_91.2.1 y'_91.2.2.1 y'_91.2.2.2.1 y'_91.2.2.2.2.1 y'_91.2.2.2.2.2.2.1 y'_91.2.2.2.2.2.2.2 y'_91.2.2.2.2.2.1).bind (fun y'_90=>
  G (fits (y'_90.2.2.1 - (1:Int))) (
  (zbY ((85:Int),(all',((0:Int),(y'_93.1,(y'_91.1,()))))) y'_90.1 y'_90.2.1 (y'_90.2.2.1 - (1:Int)) y'_90.2.2.2.1 y'_90.2.2.2.2.2.1 y'_90.2.2.2.2.2.2 y'_90.2.2.2.2.1).bind (fun y'_89=>
  some (y'_89.1,y'_89.2.1,y'_89.2.2.1,y'_89.2.2.2.1,y'_89.2.2.2.2.1,y'_89.2.2.2.2.2.1,y'_89.2.2.2.2.2.2.1,y'_89.2.2.2.2.2.2.2))))))))
def zdo (zab:(List UInt8)->Int->Int->Int->Int->Int->Tp9->Option (Int×(List UInt8)×Int×Int×Int×Tp9×Int×Int)) (all':Bool) (c:(List UInt8)) (c_1:Int) (c_2:Int) (c_3:Int) (c_4:Int) (c_5:Int) (l:Tp9):Option (Int×(List UInt8)×Int×Int×Int×Tp9×Int×Int):=
  (zbg c c_1 c_2 c_3 c_4 c_5 l).bind (fun y'_95=>
  (zdj (y'_95.1,(y'_95.2.1,(y'_95.2.2.1,(y'_95.2.2.2.1,(y'_95.2.2.2.2.1,((y'_95.2.2.2.2.2.1,(y'_95.2.2.2.2.2.2,())),()))))))).bind (fun y'_8=>
  if (decide (y'_8=(88:Int)))=true then
  zaR zab all' y'_95.1 y'_95.2.1 y'_95.2.2.1 y'_95.2.2.2.1 y'_95.2.2.2.2.1 y'_95.2.2.2.2.2.1 y'_95.2.2.2.2.2.2 y'_8 true else
  if (decide (y'_8=(70:Int)))=true then
  zaR zab all' y'_95.1 y'_95.2.1 y'_95.2.2.1 y'_95.2.2.2.1 y'_95.2.2.2.2.1 y'_95.2.2.2.2.2.1 y'_95.2.2.2.2.2.2 y'_8 true else
  zaR zab all' y'_95.1 y'_95.2.1 y'_95.2.2.1 y'_95.2.2.2.1 y'_95.2.2.2.2.1 y'_95.2.2.2.2.2.1 y'_95.2.2.2.2.2.2 y'_8 (decide (y'_8=(71:Int)))))
def zb5 (zab:(List UInt8)->Int->Int->Int->Int->Int->Tp9->Option (Int×(List UInt8)×Int×Int×Int×Tp9×Int×Int)) (c:(List UInt8)) (c_1:Int) (c_2:Int) (c_3:Int) (c_4:Int) (c_5:Int) (l:Tp9) (y'_1:Int) (t_2:Bool):Option (Int×(List UInt8)×Int×Int×Int×Tp9×Int×Int):=
  if t_2=true then
  (zdo zab (decide (y'_1=(65:Int))) c c_1 c_2 c_3 c_4 c_5 l).bind (fun y'_78=>
  some (y'_78.1,y'_78.2.1,y'_78.2.2.1,y'_78.2.2.2.1,y'_78.2.2.2.2.1,y'_78.2.2.2.2.2.1,y'_78.2.2.2.2.2.2.1,y'_78.2.2.2.2.2.2.2)) else
  if (decide (¬ y'_1=(40:Int)))=true then
  (zco (4:Int) c c_1 c_2 c_3 c_4 c_5 l).bind (fun y'_87=>
  some ((0:Int),y'_87.1,y'_87.2.1,y'_87.2.2.1,y'_87.2.2.2.1,y'_87.2.2.2.2.1,y'_87.2.2.2.2.2.1,y'_87.2.2.2.2.2.2)) else
  (zdn c c_1 c_2 c_3 c_4 c_5 l).bind (fun y'_115=>
  (zbc zab y'_115.1 y'_115.2.1 y'_115.2.2.1 y'_115.2.2.2.1 y'_115.2.2.2.2.2.1 y'_115.2.2.2.2.2.2 y'_115.2.2.2.2.1).bind (fun y'_114=>
  (zcP (41:Int) y'_114.2.1 y'_114.2.2.1 y'_114.2.2.2.1 y'_114.2.2.2.2.1 y'_114.2.2.2.2.2.2.1 y'_114.2.2.2.2.2.2.2 y'_114.2.2.2.2.2.1).bind (fun y'_113=>
  G (fits (y'_113.2.2.1 - (1:Int))) (
  some (y'_114.1,y'_113.1,y'_113.2.1,y'_113.2.2.1 - (1:Int),y'_113.2.2.2.1,y'_113.2.2.2.2.1,y'_113.2.2.2.2.2.1,y'_113.2.2.2.2.2.2)))))
def zcr (zab:(List UInt8)->Int->Int->Int->Int->Int->Tp9->Option (Int×(List UInt8)×Int×Int×Int×Tp9×Int×Int)) (c:(List UInt8)) (c_1:Int) (c_2:Int) (c_3:Int) (c_4:Int) (c_5:Int) (l:Tp9) (y'_1:Int) (t_1:Bool):Option (Int×(List UInt8)×Int×Int×Int×Tp9×Int×Int):=
  if t_1=true then
  (zbg c c_1 c_2 c_3 c_4 c_5 l).bind (fun y'_39=>
  G (fits ((IntKind.wrap .i64 y'_1) - (97:Int))) (
  (zbY ((97:Int),(false,((IntKind.wrap .i64 y'_1) - (97:Int),((0:Int),((0:Int),()))))) y'_39.1 y'_39.2.1 y'_39.2.2.1 y'_39.2.2.2.1 y'_39.2.2.2.2.2.1 y'_39.2.2.2.2.2.2 y'_39.2.2.2.2.1).bind (fun y'_38=>
  some (y'_38.1,y'_38.2.1,y'_38.2.2.1,y'_38.2.2.2.1,y'_38.2.2.2.2.1,y'_38.2.2.2.2.2.1,y'_38.2.2.2.2.2.2.1,y'_38.2.2.2.2.2.2.2)))) else
  if (decide (y'_1=(33:Int)))=true then
  (zbg c c_1 c_2 c_3 c_4 c_5 l).bind (fun y'_68=>
  (zab y'_68.1 y'_68.2.1 y'_68.2.2.1 y'_68.2.2.2.1 y'_68.2.2.2.2.2.1 y'_68.2.2.2.2.2.2 y'_68.2.2.2.2.1).bind (fun y'_67=>
  (zbY ((33:Int),(false,((0:Int),(y'_67.1,((0:Int),()))))) y'_67.2.1 y'_67.2.2.1 y'_67.2.2.2.1 y'_67.2.2.2.2.1 y'_67.2.2.2.2.2.2.1 y'_67.2.2.2.2.2.2.2 y'_67.2.2.2.2.2.1).bind (fun y'_66=>
  some (y'_66.1,y'_66.2.1,y'_66.2.2.1,y'_66.2.2.2.1,y'_66.2.2.2.2.1,y'_66.2.2.2.2.2.1,y'_66.2.2.2.2.2.2.1,y'_66.2.2.2.2.2.2.2)))) else
  if (decide (y'_1=(69:Int)))=true then
  zb5 zab c c_1 c_2 c_3 c_4 c_5 l y'_1 true else
  zb5 zab c c_1 c_2 c_3 c_4 c_5 l y'_1 (decide (y'_1=(65:Int)))
def zcq (zab:(List UInt8)->Int->Int->Int->Int->Int->Tp9->Option (Int×(List UInt8)×Int×Int×Int×Tp9×Int×Int)) (c:(List UInt8)) (c_1:Int) (c_2:Int) (c_3:Int) (c_4:Int) (c_5:Int) (l:Tp9) (y'_1:Int) (t:Bool):Option (Int×(List UInt8)×Int×Int×Int×Tp9×Int×Int):=
  if t=true then
  (zbg c c_1 c_2 c_3 c_4 c_5 l).bind (fun y'_20=>
  (zbY (y'_1,(false,((0:Int),((0:Int),((0:Int),()))))) y'_20.1 y'_20.2.1 y'_20.2.2.1 y'_20.2.2.2.1 y'_20.2.2.2.2.2.1 y'_20.2.2.2.2.2.2 y'_20.2.2.2.2.1).bind (fun y'_19=>
  some (y'_19.1,y'_19.2.1,y'_19.2.2.1,y'_19.2.2.2.1,y'_19.2.2.2.2.1,y'_19.2.2.2.2.2.1,y'_19.2.2.2.2.2.2.1,y'_19.2.2.2.2.2.2.2))) else
  if (decide ((97:Int)<=y'_1))=true then
  zcr zab c c_1 c_2 c_3 c_4 c_5 l y'_1 (decide (y'_1<=(100:Int))) else
  zcr zab c c_1 c_2 c_3 c_4 c_5 l y'_1 false
def zcF (zab:(List UInt8)->Int->Int->Int->Int->Int->Tp9->Option (Int×(List UInt8)×Int×Int×Int×Tp9×Int×Int)) (c:(List UInt8)) (c_1:Int) (c_2:Int) (c_3:Int) (c_4:Int) (c_5:Int) (l:Tp9):Option (Int×(List UInt8)×Int×Int×Int×Tp9×Int×Int):=
  (zh5 (c,(c_1,(c_2,(c_3,(l,((c_4,(c_5,())),()))))))).bind (fun y'=>
  if (!y')=true then
  some ((0:Int),c,c_1,c_2,c_3,l,c_4,c_5) else
  (zdj (c,(c_1,(c_2,(c_3,(l,((c_4,(c_5,())),()))))))).bind (fun y'_1=>
  if (decide (y'_1=(48:Int)))=true then
  zcq zab c c_1 c_2 c_3 c_4 c_5 l y'_1 true else
  zcq zab c c_1 c_2 c_3 c_4 c_5 l y'_1 (decide (y'_1=(49:Int)))))
theorem zh7 (zab:Nat->(List UInt8)->Int->Int->Int->Int->Int->Tp9->Option (Int×(List UInt8)×Int×Int×Int×Tp9×Int×Int)) (zag:(List UInt8)->Int->Int->Int->Int->Int->Tp9->Option (Int×(List UInt8)×Int×Int×Int×Tp9×Int×Int)) (zah:∀ a0 a1 a2 a3 a4 a5 a6,ChO (fun κ=>zab κ a0 a1 a2 a3 a4 a5 a6) (zag a0 a1 a2 a3 a4 a5 a6)) (r2:Nat->Int->(List UInt8)->Int->Int->Int->Int->Int->Tp9->Option (Int×(List UInt8)×Int×Int×Int×Tp9×Int×Int)) (r2':Int->(List UInt8)->Int->Int->Int->Int->Int->Tp9->Option (Int×(List UInt8)×Int×Int×Int×Tp9×Int×Int)) (h_r2:∀ a0 a1 a2 a3 a4 a5 a6 a7,ChO (fun κ=>r2 κ a0 a1 a2 a3 a4 a5 a6 a7) (r2' a0 a1 a2 a3 a4 a5 a6 a7)) (a:Int) (r:(List UInt8)) (r_1:Int) (r_2:Int) (r_3:Int) (r_4:Int) (r_5:Int) (l_1:Tp9):ChO (fun κ=>zbL (zab κ) (r2 κ) a r r_1 r_2 r_3 r_4 r_5 l_1) (zbL zag r2' a r r_1 r_2 r_3 r_4 r_5 l_1):=by
  unfold zbL
  repeat' with_reducible first | exact ChO.const _ | exact zah _ _ _ _ _ _ _ | exact h_r2 _ _ _ _ _ _ _ _ | apply ChO.ite | apply ChO.G | apply ChO.both | (apply ChO.bind;intro _) | (apply ChO.bind2 (zah _ _ _ _ _ _ _);intro _) | (refine ChO.bind2 ?_ (fun _ => ?_))
theorem zfo (zab:(List UInt8)->Int->Int->Int->Int->Int->Tp9->Option (Int×(List UInt8)×Int×Int×Int×Tp9×Int×Int)):Cn (zjY zab):=fun g h hg x=>zh7 (fun _=>zab) zab (fun _ _ _ _ _ _ _=>ChO.const _) (fun κ a r r_1 r_2 r_3 r_4 r_5 l_1=>g κ (a,r,r_1,r_2,r_3,r_4,r_5,l_1)) (fun a r r_1 r_2 r_3 r_4 r_5 l_1=>h (a,r,r_1,r_2,r_3,r_4,r_5,l_1)) (fun a r r_1 r_2 r_3 r_4 r_5 l_1=>hg (a,r,r_1,r_2,r_3,r_4,r_5,l_1))  x.1 x.2.1 x.2.2.1 x.2.2.2.1 x.2.2.2.2.1 x.2.2.2.2.2.1 x.2.2.2.2.2.2.1 x.2.2.2.2.2.2.2
theorem zjw (zab:(List UInt8)->Int->Int->Int->Int->Int->Tp9->Option (Int×(List UInt8)×Int×Int×Int×Tp9×Int×Int))  (a:Int) (r:(List UInt8)) (r_1:Int) (r_2:Int) (r_3:Int) (r_4:Int) (r_5:Int) (l_1:Tp9):zbQ zab a r r_1 r_2 r_3 r_4 r_5 l_1=zbL zab (zbQ zab) a r r_1 r_2 r_3 r_4 r_5 l_1:=zaz (zfo zab) (a,r,r_1,r_2,r_3,r_4,r_5,l_1)
theorem za4 (zab:Nat->(List UInt8)->Int->Int->Int->Int->Int->Tp9->Option (Int×(List UInt8)×Int×Int×Int×Tp9×Int×Int)) (zag:(List UInt8)->Int->Int->Int->Int->Int->Tp9->Option (Int×(List UInt8)×Int×Int×Int×Tp9×Int×Int)) (zah:∀ a0 a1 a2 a3 a4 a5 a6,ChO (fun κ=>zab κ a0 a1 a2 a3 a4 a5 a6) (zag a0 a1 a2 a3 a4 a5 a6))  (a:Int) (r:(List UInt8)) (r_1:Int) (r_2:Int) (r_3:Int) (r_4:Int) (r_5:Int) (l_1:Tp9):ChO (fun κ=>zbQ (zab κ) a r r_1 r_2 r_3 r_4 r_5 l_1) (zbQ zag a r r_1 r_2 r_3 r_4 r_5 l_1):=by
  unfold zbQ
  exact zqv (fun κ=>(zfo (zab κ) ).mono) (zfo zag ).mono (fun g h hg x=>zh7 zab zag zah (fun κ a r r_1 r_2 r_3 r_4 r_5 l_1=>g κ (a,r,r_1,r_2,r_3,r_4,r_5,l_1)) (fun a r r_1 r_2 r_3 r_4 r_5 l_1=>h (a,r,r_1,r_2,r_3,r_4,r_5,l_1)) (fun a r r_1 r_2 r_3 r_4 r_5 l_1=>hg (a,r,r_1,r_2,r_3,r_4,r_5,l_1))  x.1 x.2.1 x.2.2.1 x.2.2.2.1 x.2.2.2.2.1 x.2.2.2.2.2.1 x.2.2.2.2.2.2.1 x.2.2.2.2.2.2.2) _
theorem zbR (zab:Nat->(List UInt8)->Int->Int->Int->Int->Int->Tp9->Option (Int×(List UInt8)×Int×Int×Int×Tp9×Int×Int)) (zag:(List UInt8)->Int->Int->Int->Int->Int->Tp9->Option (Int×(List UInt8)×Int×Int×Int×Tp9×Int×Int)) (zah:∀ a0 a1 a2 a3 a4 a5 a6,ChO (fun κ=>zab κ a0 a1 a2 a3 a4 a5 a6) (zag a0 a1 a2 a3 a4 a5 a6)) (c:(List UInt8)) (c_1:Int) (c_2:Int) (c_3:Int) (c_4:Int) (c_5:Int) (l:Tp9):ChO (fun κ=>zbZ (zab κ) c c_1 c_2 c_3 c_4 c_5 l) (zbZ zag c c_1 c_2 c_3 c_4 c_5 l):=by
  unfold zbZ
  repeat' with_reducible first | exact ChO.const _ | exact zah _ _ _ _ _ _ _ | (apply za4<;>assumption) | apply ChO.ite | apply ChO.G | apply ChO.both | (apply ChO.bind;intro _) | (apply ChO.bind2 (zah _ _ _ _ _ _ _);intro _) | (refine ChO.bind2 ?_ (fun _ => ?_))
theorem zhs (zab:Nat->(List UInt8)->Int->Int->Int->Int->Int->Tp9->Option (Int×(List UInt8)×Int×Int×Int×Tp9×Int×Int)) (zag:(List UInt8)->Int->Int->Int->Int->Int->Tp9->Option (Int×(List UInt8)×Int×Int×Int×Tp9×Int×Int)) (zah:∀ a0 a1 a2 a3 a4 a5 a6,ChO (fun κ=>zab κ a0 a1 a2 a3 a4 a5 a6) (zag a0 a1 a2 a3 a4 a5 a6)) (r2:Nat->Int->(List UInt8)->Int->Int->Int->Int->Int->Tp9->Option (Int×(List UInt8)×Int×Int×Int×Tp9×Int×Int)) (r2':Int->(List UInt8)->Int->Int->Int->Int->Int->Tp9->Option (Int×(List UInt8)×Int×Int×Int×Tp9×Int×Int)) (h_r2:∀ a0 a1 a2 a3 a4 a5 a6 a7,ChO (fun κ=>r2 κ a0 a1 a2 a3 a4 a5 a6 a7) (r2' a0 a1 a2 a3 a4 a5 a6 a7)) (a:Int) (r:(List UInt8)) (r_1:Int) (r_2:Int) (r_3:Int) (r_4:Int) (r_5:Int) (l_1:Tp9):ChO (fun κ=>zbC (zab κ) (r2 κ) a r r_1 r_2 r_3 r_4 r_5 l_1) (zbC zag r2' a r r_1 r_2 r_3 r_4 r_5 l_1):=by
  unfold zbC
  repeat' with_reducible first | exact ChO.const _ | exact zah _ _ _ _ _ _ _ | exact h_r2 _ _ _ _ _ _ _ _ | (apply za4<;>assumption) | (apply zbR<;>assumption) | apply ChO.ite | apply ChO.G | apply ChO.both | (apply ChO.bind;intro _) | (apply ChO.bind2 (zah _ _ _ _ _ _ _);intro _) | (refine ChO.bind2 ?_ (fun _ => ?_))
theorem ze3 (zab:(List UInt8)->Int->Int->Int->Int->Int->Tp9->Option (Int×(List UInt8)×Int×Int×Int×Tp9×Int×Int)):Cn (zjx zab):=fun g h hg x=>zhs (fun _=>zab) zab (fun _ _ _ _ _ _ _=>ChO.const _) (fun κ a r r_1 r_2 r_3 r_4 r_5 l_1=>g κ (a,r,r_1,r_2,r_3,r_4,r_5,l_1)) (fun a r r_1 r_2 r_3 r_4 r_5 l_1=>h (a,r,r_1,r_2,r_3,r_4,r_5,l_1)) (fun a r r_1 r_2 r_3 r_4 r_5 l_1=>hg (a,r,r_1,r_2,r_3,r_4,r_5,l_1))  x.1 x.2.1 x.2.2.1 x.2.2.2.1 x.2.2.2.2.1 x.2.2.2.2.2.1 x.2.2.2.2.2.2.1 x.2.2.2.2.2.2.2
theorem ziN (zab:(List UInt8)->Int->Int->Int->Int->Int->Tp9->Option (Int×(List UInt8)×Int×Int×Int×Tp9×Int×Int))  (a:Int) (r:(List UInt8)) (r_1:Int) (r_2:Int) (r_3:Int) (r_4:Int) (r_5:Int) (l_1:Tp9):zbB zab a r r_1 r_2 r_3 r_4 r_5 l_1=zbC zab (zbB zab) a r r_1 r_2 r_3 r_4 r_5 l_1:=zaz (ze3 zab) (a,r,r_1,r_2,r_3,r_4,r_5,l_1)
theorem zbp (zab:Nat->(List UInt8)->Int->Int->Int->Int->Int->Tp9->Option (Int×(List UInt8)×Int×Int×Int×Tp9×Int×Int)) (zag:(List UInt8)->Int->Int->Int->Int->Int->Tp9->Option (Int×(List UInt8)×Int×Int×Int×Tp9×Int×Int)) (zah:∀ a0 a1 a2 a3 a4 a5 a6,ChO (fun κ=>zab κ a0 a1 a2 a3 a4 a5 a6) (zag a0 a1 a2 a3 a4 a5 a6))  (a:Int) (r:(List UInt8)) (r_1:Int) (r_2:Int) (r_3:Int) (r_4:Int) (r_5:Int) (l_1:Tp9):ChO (fun κ=>zbB (zab κ) a r r_1 r_2 r_3 r_4 r_5 l_1) (zbB zag a r r_1 r_2 r_3 r_4 r_5 l_1):=by
  unfold zbB
  exact zqv (fun κ=>(ze3 (zab κ) ).mono) (ze3 zag ).mono (fun g h hg x=>zhs zab zag zah (fun κ a r r_1 r_2 r_3 r_4 r_5 l_1=>g κ (a,r,r_1,r_2,r_3,r_4,r_5,l_1)) (fun a r r_1 r_2 r_3 r_4 r_5 l_1=>h (a,r,r_1,r_2,r_3,r_4,r_5,l_1)) (fun a r r_1 r_2 r_3 r_4 r_5 l_1=>hg (a,r,r_1,r_2,r_3,r_4,r_5,l_1))  x.1 x.2.1 x.2.2.1 x.2.2.2.1 x.2.2.2.2.1 x.2.2.2.2.2.1 x.2.2.2.2.2.2.1 x.2.2.2.2.2.2.2) _
theorem zcG (zab:Nat->(List UInt8)->Int->Int->Int->Int->Int->Tp9->Option (Int×(List UInt8)×Int×Int×Int×Tp9×Int×Int)) (zag:(List UInt8)->Int->Int->Int->Int->Int->Tp9->Option (Int×(List UInt8)×Int×Int×Int×Tp9×Int×Int)) (zah:∀ a0 a1 a2 a3 a4 a5 a6,ChO (fun κ=>zab κ a0 a1 a2 a3 a4 a5 a6) (zag a0 a1 a2 a3 a4 a5 a6)) (c:(List UInt8)) (c_1:Int) (c_2:Int) (c_3:Int) (c_4:Int) (c_5:Int) (l:Tp9):ChO (fun κ=>zbc (zab κ) c c_1 c_2 c_3 c_4 c_5 l) (zbc zag c c_1 c_2 c_3 c_4 c_5 l):=by
  unfold zbc
  repeat' with_reducible first | exact ChO.const _ | exact zah _ _ _ _ _ _ _ | (apply za4<;>assumption) | (apply zbR<;>assumption) | (apply zbp<;>assumption) | apply ChO.ite | apply ChO.G | apply ChO.both | (apply ChO.bind;intro _) | (apply ChO.bind2 (zah _ _ _ _ _ _ _);intro _) | (refine ChO.bind2 ?_ (fun _ => ?_))
theorem zcQ (zab:Nat->(List UInt8)->Int->Int->Int->Int->Int->Tp9->Option (Int×(List UInt8)×Int×Int×Int×Tp9×Int×Int)) (zag:(List UInt8)->Int->Int->Int->Int->Int->Tp9->Option (Int×(List UInt8)×Int×Int×Int×Tp9×Int×Int)) (zah:∀ a0 a1 a2 a3 a4 a5 a6,ChO (fun κ=>zab κ a0 a1 a2 a3 a4 a5 a6) (zag a0 a1 a2 a3 a4 a5 a6)) (all':Bool) (y':(List UInt8)) (y'_1:Int) (y'_2:Int) (y'_3:Int) (y'_4:Tp9) (y'_5:Int) (y'_6:Int) (y'_8:Int) (t:Bool):ChO (fun κ=>zaR (zab κ) all' y' y'_1 y'_2 y'_3 y'_4 y'_5 y'_6 y'_8 t) (zaR zag all' y' y'_1 y'_2 y'_3 y'_4 y'_5 y'_6 y'_8 t):=by
  unfold zaR
  repeat' with_reducible first | exact ChO.const _ | exact zah _ _ _ _ _ _ _ | (apply za4<;>assumption) | (apply zbR<;>assumption) | (apply zbp<;>assumption) | (apply zcG<;>assumption) | apply ChO.ite | apply ChO.G | apply ChO.both | (apply ChO.bind;intro _) | (apply ChO.bind2 (zah _ _ _ _ _ _ _);intro _) | (refine ChO.bind2 ?_ (fun _ => ?_))
theorem ze5 (zab:Nat->(List UInt8)->Int->Int->Int->Int->Int->Tp9->Option (Int×(List UInt8)×Int×Int×Int×Tp9×Int×Int)) (zag:(List UInt8)->Int->Int->Int->Int->Int->Tp9->Option (Int×(List UInt8)×Int×Int×Int×Tp9×Int×Int)) (zah:∀ a0 a1 a2 a3 a4 a5 a6,ChO (fun κ=>zab κ a0 a1 a2 a3 a4 a5 a6) (zag a0 a1 a2 a3 a4 a5 a6)) (all':Bool) (c:(List UInt8)) (c_1:Int) (c_2:Int) (c_3:Int) (c_4:Int) (c_5:Int) (l:Tp9):ChO (fun κ=>zdo (zab κ) all' c c_1 c_2 c_3 c_4 c_5 l) (zdo zag all' c c_1 c_2 c_3 c_4 c_5 l):=by
  unfold zdo
  repeat' with_reducible first | exact ChO.const _ | exact zah _ _ _ _ _ _ _ | (apply za4<;>assumption) | (apply zbR<;>assumption) | (apply zbp<;>assumption) | (apply zcG<;>assumption) | (apply zcQ<;>assumption) | apply ChO.ite | apply ChO.G | apply ChO.both | (apply ChO.bind;intro _) | (apply ChO.bind2 (zah _ _ _ _ _ _ _);intro _) | (refine ChO.bind2 ?_ (fun _ => ?_))
theorem ze2 (zab:Nat->(List UInt8)->Int->Int->Int->Int->Int->Tp9->Option (Int×(List UInt8)×Int×Int×Int×Tp9×Int×Int)) (zag:(List UInt8)->Int->Int->Int->Int->Int->Tp9->Option (Int×(List UInt8)×Int×Int×Int×Tp9×Int×Int)) (zah:∀ a0 a1 a2 a3 a4 a5 a6,ChO (fun κ=>zab κ a0 a1 a2 a3 a4 a5 a6) (zag a0 a1 a2 a3 a4 a5 a6)) (c:(List UInt8)) (c_1:Int) (c_2:Int) (c_3:Int) (c_4:Int) (c_5:Int) (l:Tp9) (y'_1:Int) (t_2:Bool):ChO (fun κ=>zb5 (zab κ) c c_1 c_2 c_3 c_4 c_5 l y'_1 t_2) (zb5 zag c c_1 c_2 c_3 c_4 c_5 l y'_1 t_2):=by
  unfold zb5
  repeat' with_reducible first | exact ChO.const _ | exact zah _ _ _ _ _ _ _ | (apply za4<;>assumption) | (apply zbR<;>assumption) | (apply zbp<;>assumption) | (apply zcG<;>assumption) | (apply zcQ<;>assumption) | (apply ze5<;>assumption) | apply ChO.ite | apply ChO.G | apply ChO.both | (apply ChO.bind;intro _) | (apply ChO.bind2 (zah _ _ _ _ _ _ _);intro _) | (refine ChO.bind2 ?_ (fun _ => ?_))
theorem zjv (zab:Nat->(List UInt8)->Int->Int->Int->Int->Int->Tp9->Option (Int×(List UInt8)×Int×Int×Int×Tp9×Int×Int)) (zag:(List UInt8)->Int->Int->Int->Int->Int->Tp9->Option (Int×(List UInt8)×Int×Int×Int×Tp9×Int×Int)) (zah:∀ a0 a1 a2 a3 a4 a5 a6,ChO (fun κ=>zab κ a0 a1 a2 a3 a4 a5 a6) (zag a0 a1 a2 a3 a4 a5 a6)) (c:(List UInt8)) (c_1:Int) (c_2:Int) (c_3:Int) (c_4:Int) (c_5:Int) (l:Tp9) (y'_1:Int) (t_1:Bool):ChO (fun κ=>zcr (zab κ) c c_1 c_2 c_3 c_4 c_5 l y'_1 t_1) (zcr zag c c_1 c_2 c_3 c_4 c_5 l y'_1 t_1):=by
  unfold zcr
  repeat' with_reducible first | exact ChO.const _ | exact zah _ _ _ _ _ _ _ | (apply za4<;>assumption) | (apply zbR<;>assumption) | (apply zbp<;>assumption) | (apply zcG<;>assumption) | (apply zcQ<;>assumption) | (apply ze5<;>assumption) | (apply ze2<;>assumption) | apply ChO.ite | apply ChO.G | apply ChO.both | (apply ChO.bind;intro _) | (apply ChO.bind2 (zah _ _ _ _ _ _ _);intro _) | (refine ChO.bind2 ?_ (fun _ => ?_))
theorem zo1 (zab:Nat->(List UInt8)->Int->Int->Int->Int->Int->Tp9->Option (Int×(List UInt8)×Int×Int×Int×Tp9×Int×Int)) (zag:(List UInt8)->Int->Int->Int->Int->Int->Tp9->Option (Int×(List UInt8)×Int×Int×Int×Tp9×Int×Int)) (zah:∀ a0 a1 a2 a3 a4 a5 a6,ChO (fun κ=>zab κ a0 a1 a2 a3 a4 a5 a6) (zag a0 a1 a2 a3 a4 a5 a6)) (c:(List UInt8)) (c_1:Int) (c_2:Int) (c_3:Int) (c_4:Int) (c_5:Int) (l:Tp9) (y'_1:Int) (t:Bool):ChO (fun κ=>zcq (zab κ) c c_1 c_2 c_3 c_4 c_5 l y'_1 t) (zcq zag c c_1 c_2 c_3 c_4 c_5 l y'_1 t):=by
  unfold zcq
  repeat' with_reducible first | exact ChO.const _ | exact zah _ _ _ _ _ _ _ | (apply za4<;>assumption) | (apply zbR<;>assumption) | (apply zbp<;>assumption) | (apply zcG<;>assumption) | (apply zcQ<;>assumption) | (apply ze5<;>assumption) | (apply ze2<;>assumption) | (apply zjv<;>assumption) | apply ChO.ite | apply ChO.G | apply ChO.both | (apply ChO.bind;intro _) | (apply ChO.bind2 (zah _ _ _ _ _ _ _);intro _) | (refine ChO.bind2 ?_ (fun _ => ?_))
theorem zpU (zab:Nat->(List UInt8)->Int->Int->Int->Int->Int->Tp9->Option (Int×(List UInt8)×Int×Int×Int×Tp9×Int×Int)) (zag:(List UInt8)->Int->Int->Int->Int->Int->Tp9->Option (Int×(List UInt8)×Int×Int×Int×Tp9×Int×Int)) (zah:∀ a0 a1 a2 a3 a4 a5 a6,ChO (fun κ=>zab κ a0 a1 a2 a3 a4 a5 a6) (zag a0 a1 a2 a3 a4 a5 a6)) (c:(List UInt8)) (c_1:Int) (c_2:Int) (c_3:Int) (c_4:Int) (c_5:Int) (l:Tp9):ChO (fun κ=>zcF (zab κ) c c_1 c_2 c_3 c_4 c_5 l) (zcF zag c c_1 c_2 c_3 c_4 c_5 l):=by
  unfold zcF
  repeat' with_reducible first | exact ChO.const _ | exact zah _ _ _ _ _ _ _ | (apply za4<;>assumption) | (apply zbR<;>assumption) | (apply zbp<;>assumption) | (apply zcG<;>assumption) | (apply zcQ<;>assumption) | (apply ze5<;>assumption) | (apply ze2<;>assumption) | (apply zjv<;>assumption) | (apply zo1<;>assumption) | apply ChO.ite | apply ChO.G | apply ChO.both | (apply ChO.bind;intro _) | (apply ChO.bind2 (zah _ _ _ _ _ _ _);intro _) | (refine ChO.bind2 ?_ (fun _ => ?_))
def zeA:((List UInt8)×Int×Int×Int×Int×Int×Tp9->Option (Int×(List UInt8)×Int×Int×Int×Tp9×Int×Int))->(List UInt8)×Int×Int×Int×Int×Int×Tp9->Option (Int×(List UInt8)×Int×Int×Int×Tp9×Int×Int):=
  fun rec X=>zcF (fun c c_1 c_2 c_3 c_4 c_5 l=>rec (c,c_1,c_2,c_3,c_4,c_5,l)) X.1 X.2.1 X.2.2.1 X.2.2.2.1 X.2.2.2.2.1 X.2.2.2.2.2.1 X.2.2.2.2.2.2
def zau (c:(List UInt8)) (c_1:Int) (c_2:Int) (c_3:Int) (c_4:Int) (c_5:Int) (l:Tp9):Option (Int×(List UInt8)×Int×Int×Int×Tp9×Int×Int):=LFix zeA (c,c_1,c_2,c_3,c_4,c_5,l)
theorem zrJ:Cn zeA:=fun g h hg X=>zpU _ _ (fun c c_1 c_2 c_3 c_4 c_5 l=>hg (c,c_1,c_2,c_3,c_4,c_5,l)) X.1 X.2.1 X.2.2.1 X.2.2.2.1 X.2.2.2.2.1 X.2.2.2.2.2.1 X.2.2.2.2.2.2
theorem zlH (c:(List UInt8)) (c_1:Int) (c_2:Int) (c_3:Int) (c_4:Int) (c_5:Int) (l:Tp9):zau c c_1 c_2 c_3 c_4 c_5 l=zcF zau c c_1 c_2 c_3 c_4 c_5 l:=zaz zrJ (c,c_1,c_2,c_3,c_4,c_5,l)
def zlN (c:(List UInt8)) (c_1:Int) (c_2:Int) (c_3:Int) (c_4:Int) (c_5:Int) (l:Tp9):Option (Int×(List UInt8)×Int×Int×Int×Tp9×Int×Int):=zbc zau c c_1 c_2 c_3 c_4 c_5 l
def zkE (text:(List UInt8)):Option (Int×(Int×Int×Unit)×Tp9):=
  if (decide ((4000:Int) < (text.length:Int)))=true then
  some ((0:Int),((1:Int),((0:Int),())),[]) else
  (zlN text (0:Int) (0:Int) (0:Int) (0:Int) (0:Int) ([]:List Tp10)).bind (fun y'_18=>
  if (decide (y'_18.2.2.1 < (text.length:Int)))=true then
  (zco (4:Int) y'_18.2.1 y'_18.2.2.1 y'_18.2.2.2.1 y'_18.2.2.2.2.1 y'_18.2.2.2.2.2.2.1 y'_18.2.2.2.2.2.2.2 y'_18.2.2.2.2.2.1).bind (fun y'_17=>
  if (decide (¬ y'_17.2.2.2.2.2.1=(0:Int)))=true then
  some ((0:Int),(y'_17.2.2.2.2.2.1,(y'_17.2.2.2.2.2.2,())),[]) else
  some (y'_18.1,((0:Int),((0:Int),())),y'_17.2.2.2.2.1)) else
  if (decide (¬ y'_18.2.2.2.2.2.2.1=(0:Int)))=true then
  some ((0:Int),(y'_18.2.2.2.2.2.2.1,(y'_18.2.2.2.2.2.2.2,())),[]) else
  some (y'_18.1,((0:Int),((0:Int),())),y'_18.2.2.2.2.2.1))

def zeI (g':Tp7) (p:Int) (q:Int) (r3:Bool->Int->Option (Bool)) (any:Bool) (i:Int):Option (Bool):=
  if (decide (i < (g'.2.2.1.length:Int)))=true then
  G (0<=i/\i < (g'.2.2.1.length:Int)) (
  if (decide (((ix g'.2.2.1 i).1)=p))=true then
  G (0<=i/\i < (g'.2.2.1.length:Int)) (
  if (decide (((((ix g'.2.2.1 i).2).2).1)=q))=true then
  some true else
  G (fits (i+(1:Int))) (
  r3 true (i+(1:Int)))) else
  G (fits (i+(1:Int))) (
  r3 any (i+(1:Int)))) else
  if (!any)=true then
  some (decide (p=q)) else
  some false
def zrF (g':Tp7) (p:Int) (q:Int):(Bool×Int->Option (Bool))->Bool×Int->Option (Bool):=
  fun rec x=>zeI g' p q (fun any i=>rec (any,i)) x.1 x.2
def znC (g':Tp7) (p:Int) (q:Int) (any:Bool) (i:Int):Option (Bool):=LFix (zrF g' p q ) (any,i)
def znB (g':Tp7) (p:Int) (q:Int):Option (Bool):=
  znC g' p q false (0:Int)
theorem ztr (r3:Nat->Bool->Int->Option (Bool)) (r3':Bool->Int->Option (Bool)) (h_r3:∀ a0 a1,ChO (fun κ=>r3 κ a0 a1) (r3' a0 a1)) (g':Tp7) (p:Int) (q:Int) (any:Bool) (i:Int):ChO (fun κ=>zeI g' p q (r3 κ) any i) (zeI g' p q r3' any i):=by
  unfold zeI
  repeat' with_reducible first | exact ChO.const _ | exact h_r3 _ _ | apply ChO.ite | apply ChO.G | apply ChO.both | (apply ChO.bind;intro _)
theorem zvb  (g':Tp7) (p:Int) (q:Int):Cn (zrF g' p q):=fun g h hg x=>ztr  (fun κ any i=>g κ (any,i)) (fun any i=>h (any,i)) (fun any i=>hg (any,i)) g' p q x.1 x.2
theorem zqe  (g':Tp7) (p:Int) (q:Int) (any:Bool) (i:Int):znC g' p q any i=zeI g' p q (znC g' p q) any i:=zaz (zvb g' p q) (any,i)

def zdc (g':Tp7) (p:Int) (in':Tp16) (r2:Int->Option (Bool)) (q:Int):Option (Bool):=
  if (decide (q < g'.2.1))=true then
  (znB (g'.1,(g'.2.1,(g'.2.2.1,()))) p q).bind (fun y'=>
  if y'=true then
  G (0<=q/\q < (in'.length:Int)) (
  if (ix in' q)=true then
  some true else
  G (fits (q+(1:Int))) (
  r2 (q+(1:Int)))) else
  G (fits (q+(1:Int))) (
  r2 (q+(1:Int)))) else
  some false
def zrT (g':Tp7) (p:Int) (in':Tp16):(Int->Option (Bool))->Int->Option (Bool):=
  fun rec x=>zdc g' p in' (fun q=>rec q) x
def zqH (g':Tp7) (p:Int) (in':Tp16) (q:Int):Option (Bool):=LFix (zrT g' p in' ) q
def znF (g':Tp7) (p:Int) (in':Tp16):Option (Bool):=
  zqH g' p in' (0:Int)
theorem ztw (r2:Nat->Int->Option (Bool)) (r2':Int->Option (Bool)) (h_r2:∀ a0,ChO (fun κ=>r2 κ a0) (r2' a0)) (g':Tp7) (p:Int) (in':Tp16) (q:Int):ChO (fun κ=>zdc g' p in' (r2 κ) q) (zdc g' p in' r2' q):=by
  unfold zdc
  repeat' with_reducible first | exact ChO.const _ | exact h_r2 _ | apply ChO.ite | apply ChO.G | apply ChO.both | (apply ChO.bind;intro _)
theorem zvc  (g':Tp7) (p:Int) (in':Tp16):Cn (zrT g' p in'):=fun g h hg x=>ztw  (fun κ q=>g κ q) (fun q=>h q) (fun q=>hg q) g' p in' x
theorem zje  (g':Tp7) (p:Int) (in':Tp16) (q:Int):zqH g' p in' q=zdc g' p in' (zqH g' p in') q:=zaz (zvc g' p in') q

def zcK (g':Tp7) (p:Int) (in':Tp16) (r2:Int->Option (Bool)) (q:Int):Option (Bool):=
  if (decide (q < g'.2.1))=true then
  (znB (g'.1,(g'.2.1,(g'.2.2.1,()))) p q).bind (fun y'=>
  if y'=true then
  G (0<=q/\q < (in'.length:Int)) (
  if (!(ix in' q))=true then
  some false else
  G (fits (q+(1:Int))) (
  r2 (q+(1:Int)))) else
  G (fits (q+(1:Int))) (
  r2 (q+(1:Int)))) else
  some true
def zqd (g':Tp7) (p:Int) (in':Tp16):(Int->Option (Bool))->Int->Option (Bool):=
  fun rec x=>zcK g' p in' (fun q=>rec q) x
def zoZ (g':Tp7) (p:Int) (in':Tp16) (q:Int):Option (Bool):=LFix (zqd g' p in' ) q
def zkD (g':Tp7) (p:Int) (in':Tp16):Option (Bool):=
  zoZ g' p in' (0:Int)
theorem zsz (r2:Nat->Int->Option (Bool)) (r2':Int->Option (Bool)) (h_r2:∀ a0,ChO (fun κ=>r2 κ a0) (r2' a0)) (g':Tp7) (p:Int) (in':Tp16) (q:Int):ChO (fun κ=>zcK g' p in' (r2 κ) q) (zcK g' p in' r2' q):=by
  unfold zcK
  repeat' with_reducible first | exact ChO.const _ | exact h_r2 _ | apply ChO.ite | apply ChO.G | apply ChO.both | (apply ChO.bind;intro _)
theorem zuG  (g':Tp7) (p:Int) (in':Tp16):Cn (zqd g' p in'):=fun g h hg x=>zsz  (fun κ q=>g κ q) (fun q=>h q) (fun q=>hg q) g' p in' x
theorem zh4  (g':Tp7) (p:Int) (in':Tp16) (q:Int):zoZ g' p in' q=zcK g' p in' (zoZ g' p in') q:=zaz (zuG g' p in') q

def zdh (a:Tp16) (b:Tp16) (r4:Int->Option (Bool)) (i:Int):Option (Bool):=
  if (decide (i < (a.length:Int)))=true then
  G (0<=i/\i < (a.length:Int)) (
  G (0<=i/\i < (b.length:Int)) (
  if (decide (¬ (ix a i)=(ix b i)))=true then
  some false else
  G (fits (i+(1:Int))) (
  r4 (i+(1:Int))))) else
  some true
def zqb (a:Tp16) (b:Tp16):(Int->Option (Bool))->Int->Option (Bool):=
  fun rec x=>zdh a b (fun i=>rec i) x
def zoV (a:Tp16) (b:Tp16) (i:Int):Option (Bool):=LFix (zqb a b ) i
def zfn (a:Tp16) (b:Tp16):Option (Bool):=
  if (decide (¬ (a.length:Int)=(b.length:Int)))=true then
  some false else
  zoV a b (0:Int)
theorem zsx (r4:Nat->Int->Option (Bool)) (r4':Int->Option (Bool)) (h_r4:∀ a0,ChO (fun κ=>r4 κ a0) (r4' a0)) (a:Tp16) (b:Tp16) (i:Int):ChO (fun κ=>zdh a b (r4 κ) i) (zdh a b r4' i):=by
  unfold zdh
  repeat' with_reducible first | exact ChO.const _ | exact h_r4 _ | apply ChO.ite | apply ChO.G | apply ChO.both | (apply ChO.bind;intro _)
theorem zuE  (a:Tp16) (b:Tp16):Cn (zqb a b):=fun g h hg x=>zsx  (fun κ i=>g κ i) (fun i=>h i) (fun i=>hg i) a b x
theorem zkB  (a:Tp16) (b:Tp16) (i:Int):zoV a b i=zdh a b (zoV a b) i:=zaz (zuE a b) i

def zfs (b:Tp16) (p_1:Int) (r8:(Int->Tp16->Option Tp16)) (next'_1:Tp16) (t:Bool):Option Tp16:=
  if t=true then
  G (0<=p_1/\p_1 < (b.length:Int)) (
  if (ix b p_1)=true then
  G (0<=p_1/\p_1 < (next'_1.length:Int)) (
  G ((p_1).toNat < next'_1.length) (
  G (fits (p_1+(1:Int))) (
  r8 (p_1+(1:Int)) (next'_1.set (p_1).toNat true)))) else
  G (0<=p_1/\p_1 < (next'_1.length:Int)) (
  G ((p_1).toNat < next'_1.length) (
  G (0<=p_1/\p_1 < (next'_1.length:Int)) (
  G ((p_1).toNat < next'_1.length) (
  G (fits (p_1+(1:Int))) (
  r8 (p_1+(1:Int)) (next'_1.set (p_1).toNat (ix next'_1 p_1)))))))) else
  G (fits (p_1+(1:Int))) (
  r8 (p_1+(1:Int)) next'_1)
def zfr (b:Tp16) (p_1:Int) (r8:(Int->Tp16->Option Tp16)) (next'_1:Tp16):Option Tp16:=
  if b.length=0 then both [(.list .bool)] (
  zfs b p_1 r8 next'_1 true) (
  zfs b p_1 r8 next'_1 false) else
  zfs b p_1 r8 next'_1 true
def zfq (a:Tp16) (b:Tp16) (p_1:Int) (next':Tp16) (r8:(Int->Tp16->Option Tp16)) (goes:Bool):Option Tp16:=
  G (0<=p_1/\p_1 < (a.length:Int)) (
  if (ix a p_1)=true then
  G (0<=p_1/\p_1 < (next'.length:Int)) (
  G ((p_1).toNat < next'.length) (
  zfr b p_1 r8 (next'.set (p_1).toNat goes))) else
  G (0<=p_1/\p_1 < (next'.length:Int)) (
  G ((p_1).toNat < next'.length) (
  zfr b p_1 r8 (next'.set (p_1).toNat false))))
def zeM (g':Tp7) (all':Bool) (a:Tp16) (b:Tp16) (out_1:Tp16) (r6:(Tp16->Option Tp16)) (r8:Int->Tp16->Option Tp16) (p_1:Int) (next':Tp16):Option Tp16:=
  if (decide (p_1 < g'.2.1))=true then
  (znF (g'.1,(g'.2.1,(g'.2.2.1,()))) p_1 out_1).bind (fun y'=>
  if all'=true then
  (zkD (g'.1,(g'.2.1,(g'.2.2.1,()))) p_1 out_1).bind (fun y'_1=>
  zfq a b p_1 next' r8 y'_1) else
  zfq a b p_1 next' r8 y') else
  (zfn next' out_1).bind (fun y'_2=>
  if y'_2=true then
  some out_1 else
  r6 next')
def zrZ (g':Tp7) (all':Bool) (a:Tp16) (b:Tp16) (out_1:Tp16) (r6:(Tp16->Option Tp16)):(Int×Tp16->Option Tp16)->Int×Tp16->Option Tp16:=
  fun rec x=>zeM g' all' a b out_1 r6 (fun p_1 next'=>rec (p_1,next')) x.1 x.2
def zcZ (g':Tp7) (all':Bool) (a:Tp16) (b:Tp16) (out_1:Tp16) (r6:(Tp16->Option Tp16)) (p_1:Int) (next':Tp16):Option Tp16:=LFix (zrZ g' all' a b out_1 r6 ) (p_1,next')
def zfC (g':Tp7) (all':Bool) (a:Tp16) (b:Tp16) (r6:Tp16->Option Tp16) (out_1:Tp16):Option Tp16:=
  G (mkOK g'.2.1 g'.2.1 1) (
  zcZ g' all' a b out_1 r6 (0:Int) (List.replicate (g'.2.1).toNat (false:Bool)))
def zrY (g':Tp7) (all':Bool) (a:Tp16) (b:Tp16):(List Bool->Option Tp16)->List Bool->Option Tp16:=
  fun rec x=>zfC g' all' a b (fun out_1=>rec out_1) x
def zbM (g':Tp7) (all':Bool) (a:Tp16) (b:Tp16) (out_1:Tp16):Option Tp16:=LFix (zrY g' all' a b ) out_1
def zeL (g':Tp7) (all':Bool) (a:Tp16) (b:Tp16) (r3:Int->Tp16->Option Tp16) (p:Int) (out:Tp16):Option Tp16:=
  if (decide (p < g'.2.1))=true then
  if b.length=0 then both [(.list .bool)] (
  G (0<=p/\p < (out.length:Int)) (
  G ((p).toNat < out.length) (
  G (fits (p+(1:Int))) (
  r3 (p+(1:Int)) (out.set (p).toNat true))))) (
  G (0<=p/\p < (out.length:Int)) (
  G ((p).toNat < out.length) (
  G (fits (p+(1:Int))) (
  r3 (p+(1:Int)) (out.set (p).toNat false))))) else
  G (0<=p/\p < (out.length:Int)) (
  G ((p).toNat < out.length) (
  G (fits (p+(1:Int))) (
  r3 (p+(1:Int)) (out.set (p).toNat false)))) else
  zbM g' all' a b out
def zrX (g':Tp7) (all':Bool) (a:Tp16) (b:Tp16):(Int×Tp16->Option Tp16)->Int×Tp16->Option Tp16:=
  fun rec x=>zeL g' all' a b (fun p out=>rec (p,out)) x.1 x.2
def zkQ (g':Tp7) (all':Bool) (a:Tp16) (b:Tp16) (p:Int) (out:Tp16):Option Tp16:=LFix (zrX g' all' a b ) (p,out)
def zlO (g':Tp7) (all':Bool) (a:Tp16) (b:Tp16):Option Tp16:=
  G (mkOK g'.2.1 g'.2.1 1) (
  zkQ g' all' a b (0:Int) (List.replicate (g'.2.1).toNat (false:Bool)))
theorem zft (r8:Nat->Int->Tp16->Option Tp16) (r8':Int->Tp16->Option Tp16) (h_r8:∀ a0 a1,ChO (fun κ=>r8 κ a0 a1) (r8' a0 a1)) (b:Tp16) (p_1:Int) (next'_1:Tp16) (t:Bool):ChO (fun κ=>zfs b p_1 (r8 κ) next'_1 t) (zfs b p_1 r8' next'_1 t):=by
  unfold zfs
  repeat' with_reducible first | exact ChO.const _ | exact h_r8 _ _ | apply ChO.ite | apply ChO.G | apply ChO.both | (apply ChO.bind;intro _)
theorem zic (r8:Nat->Int->Tp16->Option Tp16) (r8':Int->Tp16->Option Tp16) (h_r8:∀ a0 a1,ChO (fun κ=>r8 κ a0 a1) (r8' a0 a1)) (b:Tp16) (p_1:Int) (next'_1:Tp16):ChO (fun κ=>zfr b p_1 (r8 κ) next'_1) (zfr b p_1 r8' next'_1):=by
  unfold zfr
  repeat' with_reducible first | exact ChO.const _ | exact h_r8 _ _ | (apply zft<;>assumption) | apply ChO.ite | apply ChO.G | apply ChO.both | (apply ChO.bind;intro _)
theorem zkP (r8:Nat->Int->Tp16->Option Tp16) (r8':Int->Tp16->Option Tp16) (h_r8:∀ a0 a1,ChO (fun κ=>r8 κ a0 a1) (r8' a0 a1)) (a:Tp16) (b:Tp16) (p_1:Int) (next':Tp16) (goes:Bool):ChO (fun κ=>zfq a b p_1 next' (r8 κ) goes) (zfq a b p_1 next' r8' goes):=by
  unfold zfq
  repeat' with_reducible first | exact ChO.const _ | exact h_r8 _ _ | (apply zft<;>assumption) | (apply zic<;>assumption) | apply ChO.ite | apply ChO.G | apply ChO.both | (apply ChO.bind;intro _)
theorem znX (r6:Nat->Tp16->Option Tp16) (r6':Tp16->Option Tp16) (h_r6:∀ a0,ChO (fun κ=>r6 κ a0) (r6' a0)) (r8:Nat->Int->Tp16->Option Tp16) (r8':Int->Tp16->Option Tp16) (h_r8:∀ a0 a1,ChO (fun κ=>r8 κ a0 a1) (r8' a0 a1)) (g':Tp7) (all':Bool) (a:Tp16) (b:Tp16) (out_1:Tp16) (p_1:Int) (next':Tp16):ChO (fun κ=>zeM g' all' a b out_1 (r6 κ) (r8 κ) p_1 next') (zeM g' all' a b out_1 r6' r8' p_1 next'):=by
  unfold zeM
  repeat' with_reducible first | exact ChO.const _ | exact h_r6 _ | exact h_r8 _ _ | (apply zft<;>assumption) | (apply zic<;>assumption) | (apply zkP<;>assumption) | apply ChO.ite | apply ChO.G | apply ChO.both | (apply ChO.bind;intro _)
theorem zmd (r6:Tp16->Option Tp16) (g':Tp7) (all':Bool) (a:Tp16) (b:Tp16) (out_1:Tp16):Cn (zrZ g' all' a b out_1 r6):=fun g h hg x=>znX (fun _=>r6) r6 (fun _=>ChO.const _) (fun κ p_1 next'=>g κ (p_1,next')) (fun p_1 next'=>h (p_1,next')) (fun p_1 next'=>hg (p_1,next')) g' all' a b out_1 x.1 x.2
theorem zqk (r6:Tp16->Option Tp16) (g':Tp7) (all':Bool) (a:Tp16) (b:Tp16) (out_1:Tp16) (p_1:Int) (next':Tp16):zcZ g' all' a b out_1 r6 p_1 next'=zeM g' all' a b out_1 r6 (zcZ g' all' a b out_1 r6) p_1 next':=zaz (zmd r6 g' all' a b out_1) (p_1,next')
theorem zqj (r6:Nat->Tp16->Option Tp16) (r6':Tp16->Option Tp16) (h_r6:∀ a0,ChO (fun κ=>r6 κ a0) (r6' a0)) (g':Tp7) (all':Bool) (a:Tp16) (b:Tp16) (out_1:Tp16) (p_1:Int) (next':Tp16):ChO (fun κ=>zcZ g' all' a b out_1 (r6 κ) p_1 next') (zcZ g' all' a b out_1 r6' p_1 next'):=by
  unfold zcZ
  exact zqv (fun κ=>(zmd (r6 κ) g' all' a b out_1).mono) (zmd r6' g' all' a b out_1).mono (fun g h hg x=>znX r6 r6' h_r6 (fun κ p_1 next'=>g κ (p_1,next')) (fun p_1 next'=>h (p_1,next')) (fun p_1 next'=>hg (p_1,next')) g' all' a b out_1 x.1 x.2) _
theorem ztB (r6:Nat->Tp16->Option Tp16) (r6':Tp16->Option Tp16) (h_r6:∀ a0,ChO (fun κ=>r6 κ a0) (r6' a0)) (g':Tp7) (all':Bool) (a:Tp16) (b:Tp16) (out_1:Tp16):ChO (fun κ=>zfC g' all' a b (r6 κ) out_1) (zfC g' all' a b r6' out_1):=by
  unfold zfC
  repeat' with_reducible first | exact ChO.const _ | exact h_r6 _ | (apply zft<;>assumption) | (apply zic<;>assumption) | (apply zkP<;>assumption) | (apply zqj<;>assumption) | apply ChO.ite | apply ChO.G | apply ChO.both | (apply ChO.bind;intro _)
theorem zve  (g':Tp7) (all':Bool) (a:Tp16) (b:Tp16):Cn (zrY g' all' a b):=fun g h hg x=>ztB  (fun κ out_1=>g κ out_1) (fun out_1=>h out_1) (fun out_1=>hg out_1) g' all' a b x
theorem zvf  (g':Tp7) (all':Bool) (a:Tp16) (b:Tp16) (out_1:Tp16):zbM g' all' a b out_1=zfC g' all' a b (zbM g' all' a b) out_1:=zaz (zve g' all' a b) out_1
theorem ztA (r3:Nat->Int->Tp16->Option Tp16) (r3':Int->Tp16->Option Tp16) (h_r3:∀ a0 a1,ChO (fun κ=>r3 κ a0 a1) (r3' a0 a1)) (g':Tp7) (all':Bool) (a:Tp16) (b:Tp16) (p:Int) (out:Tp16):ChO (fun κ=>zeL g' all' a b (r3 κ) p out) (zeL g' all' a b r3' p out):=by
  unfold zeL
  repeat' with_reducible first | exact ChO.const _ | exact h_r3 _ _ | (apply zft<;>assumption) | (apply zic<;>assumption) | (apply zkP<;>assumption) | (apply zqj<;>assumption) | apply ChO.ite | apply ChO.G | apply ChO.both | (apply ChO.bind;intro _)
theorem zvd  (g':Tp7) (all':Bool) (a:Tp16) (b:Tp16):Cn (zrX g' all' a b):=fun g h hg x=>ztA  (fun κ p out=>g κ (p,out)) (fun p out=>h (p,out)) (fun p out=>hg (p,out)) g' all' a b x.1 x.2
theorem zqi  (g':Tp7) (all':Bool) (a:Tp16) (b:Tp16) (p:Int) (out:Tp16):zkQ g' all' a b p out=zeL g' all' a b (zkQ g' all' a b) p out:=zaz (zvd g' all' a b) (p,out)

def zei (a:Tp16) (p_1:Int) (next':Tp16) (r8:(Int->Tp16->Option Tp16)) (goes:Bool):Option Tp16:=
  G (0<=p_1/\p_1 < (a.length:Int)) (
  if (ix a p_1)=true then
  G (0<=p_1/\p_1 < (next'.length:Int)) (
  G ((p_1).toNat < next'.length) (
  G (fits (p_1+(1:Int))) (
  r8 (p_1+(1:Int)) (next'.set (p_1).toNat goes)))) else
  G (0<=p_1/\p_1 < (next'.length:Int)) (
  G ((p_1).toNat < next'.length) (
  G (fits (p_1+(1:Int))) (
  r8 (p_1+(1:Int)) (next'.set (p_1).toNat false)))))
def zdt (g':Tp7) (all':Bool) (a:Tp16) (out_1:Tp16) (r6:(Tp16->Option Tp16)) (r8:Int->Tp16->Option Tp16) (p_1:Int) (next':Tp16):Option Tp16:=
  if (decide (p_1 < g'.2.1))=true then
  (znF (g'.1,(g'.2.1,(g'.2.2.1,()))) p_1 out_1).bind (fun y'=>
  if all'=true then
  (zkD (g'.1,(g'.2.1,(g'.2.2.1,()))) p_1 out_1).bind (fun y'_1=>
  zei a p_1 next' r8 y'_1) else
  zei a p_1 next' r8 y') else
  (zfn next' out_1).bind (fun y'_2=>
  if y'_2=true then
  some out_1 else
  r6 next')
def zpa (g':Tp7) (all':Bool) (a:Tp16) (out_1:Tp16) (r6:(Tp16->Option Tp16)):(Int×Tp16->Option Tp16)->Int×Tp16->Option Tp16:=
  fun rec x=>zdt g' all' a out_1 r6 (fun p_1 next'=>rec (p_1,next')) x.1 x.2
def zcL (g':Tp7) (all':Bool) (a:Tp16) (out_1:Tp16) (r6:(Tp16->Option Tp16)) (p_1:Int) (next':Tp16):Option Tp16:=LFix (zpa g' all' a out_1 r6 ) (p_1,next')
def zeC (g':Tp7) (all':Bool) (a:Tp16) (r6:Tp16->Option Tp16) (out_1:Tp16):Option Tp16:=
  G (mkOK g'.2.1 g'.2.1 1) (
  zcL g' all' a out_1 r6 (0:Int) (List.replicate (g'.2.1).toNat (false:Bool)))
def zo9 (g':Tp7) (all':Bool) (a:Tp16):(List Bool->Option Tp16)->List Bool->Option Tp16:=
  fun rec x=>zeC g' all' a (fun out_1=>rec out_1) x
def zbs (g':Tp7) (all':Bool) (a:Tp16) (out_1:Tp16):Option Tp16:=LFix (zo9 g' all' a ) out_1
def zds (g':Tp7) (all':Bool) (a:Tp16) (r3:Int->Tp16->Option Tp16) (p:Int) (out:Tp16):Option Tp16:=
  if (decide (p < g'.2.1))=true then
  G (0<=p/\p < (out.length:Int)) (
  G ((p).toNat < out.length) (
  G (fits (p+(1:Int))) (
  r3 (p+(1:Int)) (out.set (p).toNat true)))) else
  zbs g' all' a out
def zo8 (g':Tp7) (all':Bool) (a:Tp16):(Int×Tp16->Option Tp16)->Int×Tp16->Option Tp16:=
  fun rec x=>zds g' all' a (fun p out=>rec (p,out)) x.1 x.2
def zib (g':Tp7) (all':Bool) (a:Tp16) (p:Int) (out:Tp16):Option Tp16:=LFix (zo8 g' all' a ) (p,out)
def zmX (g':Tp7) (all':Bool) (a:Tp16):Option Tp16:=
  G (mkOK g'.2.1 g'.2.1 1) (
  zib g' all' a (0:Int) (List.replicate (g'.2.1).toNat (false:Bool)))
theorem zi6 (r8:Nat->Int->Tp16->Option Tp16) (r8':Int->Tp16->Option Tp16) (h_r8:∀ a0 a1,ChO (fun κ=>r8 κ a0 a1) (r8' a0 a1)) (a:Tp16) (p_1:Int) (next':Tp16) (goes:Bool):ChO (fun κ=>zei a p_1 next' (r8 κ) goes) (zei a p_1 next' r8' goes):=by
  unfold zei
  repeat' with_reducible first | exact ChO.const _ | exact h_r8 _ _ | apply ChO.ite | apply ChO.G | apply ChO.both | (apply ChO.bind;intro _)
theorem zlP (r6:Nat->Tp16->Option Tp16) (r6':Tp16->Option Tp16) (h_r6:∀ a0,ChO (fun κ=>r6 κ a0) (r6' a0)) (r8:Nat->Int->Tp16->Option Tp16) (r8':Int->Tp16->Option Tp16) (h_r8:∀ a0 a1,ChO (fun κ=>r8 κ a0 a1) (r8' a0 a1)) (g':Tp7) (all':Bool) (a:Tp16) (out_1:Tp16) (p_1:Int) (next':Tp16):ChO (fun κ=>zdt g' all' a out_1 (r6 κ) (r8 κ) p_1 next') (zdt g' all' a out_1 r6' r8' p_1 next'):=by
  unfold zdt
  repeat' with_reducible first | exact ChO.const _ | exact h_r6 _ | exact h_r8 _ _ | (apply zi6<;>assumption) | apply ChO.ite | apply ChO.G | apply ChO.both | (apply ChO.bind;intro _)
theorem zjS (r6:Tp16->Option Tp16) (g':Tp7) (all':Bool) (a:Tp16) (out_1:Tp16):Cn (zpa g' all' a out_1 r6):=fun g h hg x=>zlP (fun _=>r6) r6 (fun _=>ChO.const _) (fun κ p_1 next'=>g κ (p_1,next')) (fun p_1 next'=>h (p_1,next')) (fun p_1 next'=>hg (p_1,next')) g' all' a out_1 x.1 x.2
theorem znW (r6:Tp16->Option Tp16) (g':Tp7) (all':Bool) (a:Tp16) (out_1:Tp16) (p_1:Int) (next':Tp16):zcL g' all' a out_1 r6 p_1 next'=zdt g' all' a out_1 r6 (zcL g' all' a out_1 r6) p_1 next':=zaz (zjS r6 g' all' a out_1) (p_1,next')
theorem znV (r6:Nat->Tp16->Option Tp16) (r6':Tp16->Option Tp16) (h_r6:∀ a0,ChO (fun κ=>r6 κ a0) (r6' a0)) (g':Tp7) (all':Bool) (a:Tp16) (out_1:Tp16) (p_1:Int) (next':Tp16):ChO (fun κ=>zcL g' all' a out_1 (r6 κ) p_1 next') (zcL g' all' a out_1 r6' p_1 next'):=by
  unfold zcL
  exact zqv (fun κ=>(zjS (r6 κ) g' all' a out_1).mono) (zjS r6' g' all' a out_1).mono (fun g h hg x=>zlP r6 r6' h_r6 (fun κ p_1 next'=>g κ (p_1,next')) (fun p_1 next'=>h (p_1,next')) (fun p_1 next'=>hg (p_1,next')) g' all' a out_1 x.1 x.2) _
theorem zrV (r6:Nat->Tp16->Option Tp16) (r6':Tp16->Option Tp16) (h_r6:∀ a0,ChO (fun κ=>r6 κ a0) (r6' a0)) (g':Tp7) (all':Bool) (a:Tp16) (out_1:Tp16):ChO (fun κ=>zeC g' all' a (r6 κ) out_1) (zeC g' all' a r6' out_1):=by
  unfold zeC
  repeat' with_reducible first | exact ChO.const _ | exact h_r6 _ | (apply zi6<;>assumption) | (apply znV<;>assumption) | apply ChO.ite | apply ChO.G | apply ChO.both | (apply ChO.bind;intro _)
theorem zty  (g':Tp7) (all':Bool) (a:Tp16):Cn (zo9 g' all' a):=fun g h hg x=>zrV  (fun κ out_1=>g κ out_1) (fun out_1=>h out_1) (fun out_1=>hg out_1) g' all' a x
theorem ztz  (g':Tp7) (all':Bool) (a:Tp16) (out_1:Tp16):zbs g' all' a out_1=zeC g' all' a (zbs g' all' a) out_1:=zaz (zty g' all' a) out_1
theorem zrU (r3:Nat->Int->Tp16->Option Tp16) (r3':Int->Tp16->Option Tp16) (h_r3:∀ a0 a1,ChO (fun κ=>r3 κ a0 a1) (r3' a0 a1)) (g':Tp7) (all':Bool) (a:Tp16) (p:Int) (out:Tp16):ChO (fun κ=>zds g' all' a (r3 κ) p out) (zds g' all' a r3' p out):=by
  unfold zds
  repeat' with_reducible first | exact ChO.const _ | exact h_r3 _ _ | (apply zi6<;>assumption) | (apply znV<;>assumption) | apply ChO.ite | apply ChO.G | apply ChO.both | (apply ChO.bind;intro _)
theorem ztx  (g':Tp7) (all':Bool) (a:Tp16):Cn (zo8 g' all' a):=fun g h hg x=>zrU  (fun κ p out=>g κ (p,out)) (fun p out=>h (p,out)) (fun p out=>hg (p,out)) g' all' a x.1 x.2
theorem znU  (g':Tp7) (all':Bool) (a:Tp16) (p:Int) (out:Tp16):zib g' all' a p out=zds g' all' a (zib g' all' a) p out:=zaz (ztx g' all' a) (p,out)

def zeN (g':Tp7) (i:Int) (out_1:Tp16) (r11:(Int->Tp16->Option Tp16)) (t_1:Bool):Option Tp16:=
  if t_1=true then
  G (0<=i/\i < (g'.2.2.1.length:Int)) (
  G (0<=(ix g'.2.2.1 i).1/\(ix g'.2.2.1 i).1 < (out_1.length:Int)) (
  G (((ix g'.2.2.1 i).1).toNat < out_1.length) (
  G (fits (i+(1:Int))) (
  r11 (i+(1:Int)) (out_1.set ((ix g'.2.2.1 i).1).toNat true))))) else
  G (fits (i+(1:Int))) (
  r11 (i+(1:Int)) out_1)
def zcs (g':Tp7) (l:Tp9) (k:Int) (r11:Int->Tp16->Option Tp16) (i:Int) (out_1:Tp16):Option Tp16:=
  if (decide (i < (g'.2.2.1.length:Int)))=true then
  if (decide (((ix l k).1)=(97:Int)))=true then
  G (0<=i/\i < (g'.2.2.1.length:Int)) (
  zeN g' i out_1 r11 (decide ((((ix g'.2.2.1 i).2).1)=((((ix l k).2).2).1)))) else
  zeN g' i out_1 r11 false else
  some out_1
def zpb (g':Tp7) (l:Tp9) (k:Int):(Int×Tp16->Option Tp16)->Int×Tp16->Option Tp16:=
  fun rec x=>zcs g' l k (fun i out_1=>rec (i,out_1)) x.1 x.2
def zb1 (g':Tp7) (l:Tp9) (k:Int) (i:Int) (out_1:Tp16):Option Tp16:=LFix (zpb g' l k ) (i,out_1)
def zek (g':Tp7) (l:Tp9) (k:Int) (r7:Int->Tp16->Option Tp16) (p:Int) (out:Tp16):Option Tp16:=
  if (decide (p < g'.2.1))=true then
  G (0<=p/\p < (out.length:Int)) (
  G ((p).toNat < out.length) (
  G (fits (p+(1:Int))) (
  r7 (p+(1:Int)) (out.set (p).toNat (decide (((ix l k).1)=(49:Int))))))) else
  zb1 g' l k (0:Int) out
def zql (g':Tp7) (l:Tp9) (k:Int):(Int×Tp16->Option Tp16)->Int×Tp16->Option Tp16:=
  fun rec x=>zek g' l k (fun p out=>rec (p,out)) x.1 x.2
def zhu (g':Tp7) (l:Tp9) (k:Int) (p:Int) (out:Tp16):Option Tp16:=LFix (zql g' l k ) (p,out)
def zdu (g':Tp7) (l:Tp9) (k:Int) (y':Tp16) (r27:Int->Tp16->Option Tp16) (p_1:Int) (b_1:Tp16):Option Tp16:=
  if (decide (p_1 < g'.2.1))=true then
  G (0<=p_1/\p_1 < (b_1.length:Int)) (
  G ((p_1).toNat < b_1.length) (
  G (fits (p_1+(1:Int))) (
  r27 (p_1+(1:Int)) (b_1.set (p_1).toNat true)))) else
  (zlO (g'.1,(g'.2.1,(g'.2.2.1,()))) (((ix l k).2).1) b_1 y').bind (fun y'_4=>
  some y'_4)
def zpc (g':Tp7) (l:Tp9) (k:Int) (y':Tp16):(Int×Tp16->Option Tp16)->Int×Tp16->Option Tp16:=
  fun rec x=>zdu g' l k y' (fun p_1 b_1=>rec (p_1,b_1)) x.1 x.2
def zfD (g':Tp7) (l:Tp9) (k:Int) (y':Tp16) (p_1:Int) (b_1:Tp16):Option Tp16:=LFix (zpc g' l k y' ) (p_1,b_1)
def zdv (g':Tp7) (l:Tp9) (k:Int) (y':Tp16) (b:Tp16) (r32:Int->Tp16->Option Tp16) (p_2:Int) (out_2:Tp16):Option Tp16:=
  if (decide (p_2 < g'.2.1))=true then
  if (decide (((ix l k).1)=(33:Int)))=true then
  G (0<=p_2/\p_2 < (y'.length:Int)) (
  G ((p_2).toNat < y'.length) (
  G (0<=p_2/\p_2 < (out_2.length:Int)) (
  G ((p_2).toNat < out_2.length) (
  G (fits (p_2+(1:Int))) (
  r32 (p_2+(1:Int)) (out_2.set (p_2).toNat (!(ix y' p_2)))))))) else
  if (decide (((ix l k).1)=(38:Int)))=true then
  G (0<=p_2/\p_2 < (y'.length:Int)) (
  G ((p_2).toNat < y'.length) (
  if (ix y' p_2)=true then
  G (0<=p_2/\p_2 < (b.length:Int)) (
  G ((p_2).toNat < b.length) (
  G (0<=p_2/\p_2 < (out_2.length:Int)) (
  G ((p_2).toNat < out_2.length) (
  G (fits (p_2+(1:Int))) (
  r32 (p_2+(1:Int)) (out_2.set (p_2).toNat (ix b p_2))))))) else
  G (0<=p_2/\p_2 < (out_2.length:Int)) (
  G ((p_2).toNat < out_2.length) (
  G (fits (p_2+(1:Int))) (
  r32 (p_2+(1:Int)) (out_2.set (p_2).toNat false)))))) else
  if (decide (((ix l k).1)=(124:Int)))=true then
  G (0<=p_2/\p_2 < (y'.length:Int)) (
  G ((p_2).toNat < y'.length) (
  if (ix y' p_2)=true then
  G (0<=p_2/\p_2 < (out_2.length:Int)) (
  G ((p_2).toNat < out_2.length) (
  G (fits (p_2+(1:Int))) (
  r32 (p_2+(1:Int)) (out_2.set (p_2).toNat true)))) else
  G (0<=p_2/\p_2 < (b.length:Int)) (
  G ((p_2).toNat < b.length) (
  G (0<=p_2/\p_2 < (out_2.length:Int)) (
  G ((p_2).toNat < out_2.length) (
  G (fits (p_2+(1:Int))) (
  r32 (p_2+(1:Int)) (out_2.set (p_2).toNat (ix b p_2))))))))) else
  if (decide (((ix l k).1)=(88:Int)))=true then
  (znF (g'.1,(g'.2.1,(g'.2.2.1,()))) p_2 y').bind (fun y'_5=>
  G (0<=p_2/\p_2 < (out_2.length:Int)) (
  G ((p_2).toNat < out_2.length) (
  if (((ix l k).2).1)=true then
  (zkD (g'.1,(g'.2.1,(g'.2.2.1,()))) p_2 y').bind (fun y'_6=>
  G (0<=p_2/\p_2 < ((out_2.set (p_2).toNat y'_5).length:Int)) (
  G ((p_2).toNat < (out_2.set (p_2).toNat y'_5).length) (
  G (fits (p_2+(1:Int))) (
  r32 (p_2+(1:Int)) ((out_2.set (p_2).toNat y'_5).set (p_2).toNat y'_6))))) else
  G (fits (p_2+(1:Int))) (
  r32 (p_2+(1:Int)) (out_2.set (p_2).toNat y'_5))))) else
  G (fits (p_2+(1:Int))) (
  r32 (p_2+(1:Int)) out_2) else
  some out_2
def zpd (g':Tp7) (l:Tp9) (k:Int) (y':Tp16) (b:Tp16):(Int×Tp16->Option Tp16)->Int×Tp16->Option Tp16:=
  fun rec x=>zdv g' l k y' b (fun p_2 out_2=>rec (p_2,out_2)) x.1 x.2
def zeO (g':Tp7) (l:Tp9) (k:Int) (y':Tp16) (b:Tp16) (p_2:Int) (out_2:Tp16):Option Tp16:=LFix (zpd g' l k y' b ) (p_2,out_2)
def zbH (g':Tp7) (l:Tp9) (k:Int) (y':Tp16) (b:Tp16):Option Tp16:=
  if (decide (((ix l k).1)=(85:Int)))=true then
  (zlO (g'.1,(g'.2.1,(g'.2.2.1,()))) (((ix l k).2).1) y' b).bind (fun y'_2=>
  some y'_2) else
  if (decide (((ix l k).1)=(71:Int)))=true then
  (zmX (g'.1,(g'.2.1,(g'.2.2.1,()))) (((ix l k).2).1) y').bind (fun y'_3=>
  some y'_3) else
  if (decide (((ix l k).1)=(70:Int)))=true then
  zfD g' l k y' (0:Int) b else
  zeO g' l k y' b (0:Int) (List.replicate (g'.2.1).toNat (false:Bool))
def zdd (zbb:Tp7->Tp9->Int->Option Tp16) (g':Tp7) (l:Tp9) (k:Int) (y':Tp16) (t_2:Bool):Option Tp16:=
  if t_2=true then
  (zbb (g'.1,(g'.2.1,(g'.2.2.1,()))) l ((((((ix l k).2).2).2).2).1)).bind (fun y'_1=>
  zbH g' l k y' y'_1) else
  zbH g' l k y' (List.replicate (g'.2.1).toNat (false:Bool))
def zd4 (zbb:Tp7->Tp9->Int->Option Tp16) (g':Tp7) (l:Tp9) (k:Int) (t:Bool):Option Tp16:=
  if t=true then
  zhu g' l k (0:Int) (List.replicate (g'.2.1).toNat (false:Bool)) else
  (zbb (g'.1,(g'.2.1,(g'.2.2.1,()))) l (((((ix l k).2).2).2).1)).bind (fun y'=>
  G (mkOK g'.2.1 g'.2.1 1) (
  if (decide (((ix l k).1)=(38:Int)))=true then
  zdd zbb g' l k y' true else
  if (decide (((ix l k).1)=(124:Int)))=true then
  zdd zbb g' l k y' true else
  zdd zbb g' l k y' (decide (((ix l k).1)=(85:Int)))))
def zej (zbb:Tp7->Tp9->Int->Option Tp16) (g':Tp7) (l:Tp9) (k:Int):Option Tp16:=
  G (0<=k/\k < (l.length:Int)) (
  G (mkOK g'.2.1 g'.2.1 1) (
  if (decide (((ix l k).1)=(48:Int)))=true then
  some (List.replicate (g'.2.1).toNat (false:Bool)) else
  if (decide (((ix l k).1)=(49:Int)))=true then
  zd4 zbb g' l k true else
  zd4 zbb g' l k (decide (((ix l k).1)=(97:Int)))))
theorem zc0 (r11:Nat->Int->Tp16->Option Tp16) (r11':Int->Tp16->Option Tp16) (h_r11:∀ a0 a1,ChO (fun κ=>r11 κ a0 a1) (r11' a0 a1)) (g':Tp7) (i:Int) (out_1:Tp16) (t_1:Bool):ChO (fun κ=>zeN g' i out_1 (r11 κ) t_1) (zeN g' i out_1 r11' t_1):=by
  unfold zeN
  repeat' with_reducible first | exact ChO.const _ | exact h_r11 _ _ | apply ChO.ite | apply ChO.G | apply ChO.both | (apply ChO.bind;intro _)
theorem zr0 (r11:Nat->Int->Tp16->Option Tp16) (r11':Int->Tp16->Option Tp16) (h_r11:∀ a0 a1,ChO (fun κ=>r11 κ a0 a1) (r11' a0 a1)) (g':Tp7) (l:Tp9) (k:Int) (i:Int) (out_1:Tp16):ChO (fun κ=>zcs g' l k (r11 κ) i out_1) (zcs g' l k r11' i out_1):=by
  unfold zcs
  repeat' with_reducible first | exact ChO.const _ | exact h_r11 _ _ | (apply zc0<;>assumption) | apply ChO.ite | apply ChO.G | apply ChO.both | (apply ChO.bind;intro _)
theorem ztC  (g':Tp7) (l:Tp9) (k:Int):Cn (zpb g' l k):=fun g h hg x=>zr0  (fun κ i out_1=>g κ (i,out_1)) (fun i out_1=>h (i,out_1)) (fun i out_1=>hg (i,out_1)) g' l k x.1 x.2
theorem zgJ  (g':Tp7) (l:Tp9) (k:Int) (i:Int) (out_1:Tp16):zb1 g' l k i out_1=zcs g' l k (zb1 g' l k) i out_1:=zaz (ztC g' l k) (i,out_1)
theorem zsB (r7:Nat->Int->Tp16->Option Tp16) (r7':Int->Tp16->Option Tp16) (h_r7:∀ a0 a1,ChO (fun κ=>r7 κ a0 a1) (r7' a0 a1)) (g':Tp7) (l:Tp9) (k:Int) (p:Int) (out:Tp16):ChO (fun κ=>zek g' l k (r7 κ) p out) (zek g' l k r7' p out):=by
  unfold zek
  repeat' with_reducible first | exact ChO.const _ | exact h_r7 _ _ | (apply zc0<;>assumption) | apply ChO.ite | apply ChO.G | apply ChO.both | (apply ChO.bind;intro _)
theorem zuK  (g':Tp7) (l:Tp9) (k:Int):Cn (zql g' l k):=fun g h hg x=>zsB  (fun κ p out=>g κ (p,out)) (fun p out=>h (p,out)) (fun p out=>hg (p,out)) g' l k x.1 x.2
theorem zpe  (g':Tp7) (l:Tp9) (k:Int) (p:Int) (out:Tp16):zhu g' l k p out=zek g' l k (zhu g' l k) p out:=zaz (zuK g' l k) (p,out)
theorem zr1 (r27:Nat->Int->Tp16->Option Tp16) (r27':Int->Tp16->Option Tp16) (h_r27:∀ a0 a1,ChO (fun κ=>r27 κ a0 a1) (r27' a0 a1)) (g':Tp7) (l:Tp9) (k:Int) (y':Tp16) (p_1:Int) (b_1:Tp16):ChO (fun κ=>zdu g' l k y' (r27 κ) p_1 b_1) (zdu g' l k y' r27' p_1 b_1):=by
  unfold zdu
  repeat' with_reducible first | exact ChO.const _ | exact h_r27 _ _ | (apply zc0<;>assumption) | apply ChO.ite | apply ChO.G | apply ChO.both | (apply ChO.bind;intro _)
theorem ztD  (g':Tp7) (l:Tp9) (k:Int) (y':Tp16):Cn (zpc g' l k y'):=fun g h hg x=>zr1  (fun κ p_1 b_1=>g κ (p_1,b_1)) (fun p_1 b_1=>h (p_1,b_1)) (fun p_1 b_1=>hg (p_1,b_1)) g' l k y' x.1 x.2
theorem znZ  (g':Tp7) (l:Tp9) (k:Int) (y':Tp16) (p_1:Int) (b_1:Tp16):zfD g' l k y' p_1 b_1=zdu g' l k y' (zfD g' l k y') p_1 b_1:=zaz (ztD g' l k y') (p_1,b_1)
theorem zr2 (r32:Nat->Int->Tp16->Option Tp16) (r32':Int->Tp16->Option Tp16) (h_r32:∀ a0 a1,ChO (fun κ=>r32 κ a0 a1) (r32' a0 a1)) (g':Tp7) (l:Tp9) (k:Int) (y':Tp16) (b:Tp16) (p_2:Int) (out_2:Tp16):ChO (fun κ=>zdv g' l k y' b (r32 κ) p_2 out_2) (zdv g' l k y' b r32' p_2 out_2):=by
  unfold zdv
  repeat' with_reducible first | exact ChO.const _ | exact h_r32 _ _ | (apply zc0<;>assumption) | apply ChO.ite | apply ChO.G | apply ChO.both | (apply ChO.bind;intro _)
theorem ztE  (g':Tp7) (l:Tp9) (k:Int) (y':Tp16) (b:Tp16):Cn (zpd g' l k y' b):=fun g h hg x=>zr2  (fun κ p_2 out_2=>g κ (p_2,out_2)) (fun p_2 out_2=>h (p_2,out_2)) (fun p_2 out_2=>hg (p_2,out_2)) g' l k y' b x.1 x.2
theorem zn0  (g':Tp7) (l:Tp9) (k:Int) (y':Tp16) (b:Tp16) (p_2:Int) (out_2:Tp16):zeO g' l k y' b p_2 out_2=zdv g' l k y' b (zeO g' l k y' b) p_2 out_2:=zaz (ztE g' l k y' b) (p_2,out_2)
theorem znY (zbb:Nat->Tp7->Tp9->Int->Option Tp16) (zd5:Tp7->Tp9->Int->Option Tp16) (zde:∀ a0 a1 a2,ChO (fun κ=>zbb κ a0 a1 a2) (zd5 a0 a1 a2)) (g':Tp7) (l:Tp9) (k:Int) (y':Tp16) (t_2:Bool):ChO (fun κ=>zdd (zbb κ) g' l k y' t_2) (zdd zd5 g' l k y' t_2):=by
  unfold zdd
  repeat' with_reducible first | exact ChO.const _ | exact zde _ _ _ | (apply zc0<;>assumption) | apply ChO.ite | apply ChO.G | apply ChO.both | (apply ChO.bind;intro _) | (apply ChO.bind2 (zde _ _ _);intro _)
theorem zuJ (zbb:Nat->Tp7->Tp9->Int->Option Tp16) (zd5:Tp7->Tp9->Int->Option Tp16) (zde:∀ a0 a1 a2,ChO (fun κ=>zbb κ a0 a1 a2) (zd5 a0 a1 a2)) (g':Tp7) (l:Tp9) (k:Int) (t:Bool):ChO (fun κ=>zd4 (zbb κ) g' l k t) (zd4 zd5 g' l k t):=by
  unfold zd4
  repeat' with_reducible first | exact ChO.const _ | exact zde _ _ _ | (apply zc0<;>assumption) | (apply znY<;>assumption) | apply ChO.ite | apply ChO.G | apply ChO.both | (apply ChO.bind;intro _) | (apply ChO.bind2 (zde _ _ _);intro _)
theorem zvg (zbb:Nat->Tp7->Tp9->Int->Option Tp16) (zd5:Tp7->Tp9->Int->Option Tp16) (zde:∀ a0 a1 a2,ChO (fun κ=>zbb κ a0 a1 a2) (zd5 a0 a1 a2)) (g':Tp7) (l:Tp9) (k:Int):ChO (fun κ=>zej (zbb κ) g' l k) (zej zd5 g' l k):=by
  unfold zej
  repeat' with_reducible first | exact ChO.const _ | exact zde _ _ _ | (apply zc0<;>assumption) | (apply znY<;>assumption) | (apply zuJ<;>assumption) | apply ChO.ite | apply ChO.G | apply ChO.both | (apply ChO.bind;intro _) | (apply ChO.bind2 (zde _ _ _);intro _)
def znH:(Tp7×Tp9×Int->Option Tp16)->Tp7×Tp9×Int->Option Tp16:=
  fun rec X=>zej (fun g' l k=>rec (g',l,k)) X.1 X.2.1 X.2.2
def zaJ (g':Tp7) (l:Tp9) (k:Int):Option Tp16:=LFix znH (g',l,k)
theorem zxB:Cn znH:=fun g h hg X=>zvg _ _ (fun g' l k=>hg (g',l,k)) X.1 X.2.1 X.2.2
theorem zjz (g':Tp7) (l:Tp9) (k:Int):zaJ g' l k=zej zaJ g' l k:=zaz zxB (g',l,k)

def zeK (g':Tp7) (w:Tp11) (i_1:Int) (r11:(Int->Option (Bool))) (to:Int):Option (Bool):=
  G (0<=i_1/\i_1 < (((([]:List Int)++w.1)++w.2.1).length:Int)) (
  G ((i_1).toNat < ((([]:List Int)++w.1)++w.2.1).length) (
  (znB (g'.1,(g'.2.1,(g'.2.2.1,()))) (ix ((([]:List Int)++w.1)++w.2.1) i_1) to).bind (fun y'=>
  if (!y')=true then
  some false else
  G (fits (i_1+(1:Int))) (
  r11 (i_1+(1:Int))))))
def znE (y'_1:Tp16) (second:Int):Option (Bool):=
  G (0<=second/\second < (y'_1.length:Int)) (
  G ((second).toNat < y'_1.length) (
  some (ix y'_1 second)))
def zdp (w:Tp11) (y'_1:Tp16) (r29:Int->Option (Bool)) (i_2:Int):Option (Bool):=
  if (decide (i_2 < (((([]:List Int)++w.1)++w.2.1).length:Int)))=true then
  G (0<=i_2/\i_2 < (((([]:List Int)++w.1)++w.2.1).length:Int)) (
  G ((i_2).toNat < ((([]:List Int)++w.1)++w.2.1).length) (
  G (0<=ix ((([]:List Int)++w.1)++w.2.1) i_2/\ix ((([]:List Int)++w.1)++w.2.1) i_2 < (y'_1.length:Int)) (
  G ((ix ((([]:List Int)++w.1)++w.2.1) i_2).toNat < y'_1.length) (
  if (!(ix y'_1 (ix ((([]:List Int)++w.1)++w.2.1) i_2)))=true then
  some false else
  G (fits (i_2+(1:Int))) (
  r29 (i_2+(1:Int))))))) else
  some true
def zo4 (w:Tp11) (y'_1:Tp16):(Int->Option (Bool))->Int->Option (Bool):=
  fun rec x=>zdp w y'_1 (fun i_2=>rec i_2) x
def zh9 (w:Tp11) (y'_1:Tp16) (i_2:Int):Option (Bool):=LFix (zo4 w y'_1 ) i_2
def zdq (w:Tp11) (y'_1:Tp16) (r36:Int->Option (Bool)) (i_3:Int):Option (Bool):=
  if (decide (i_3 < (((([]:List Int)++w.1)++w.2.1).length:Int)))=true then
  G (0<=i_3/\i_3 < (((([]:List Int)++w.1)++w.2.1).length:Int)) (
  G ((i_3).toNat < ((([]:List Int)++w.1)++w.2.1).length) (
  G (0<=ix ((([]:List Int)++w.1)++w.2.1) i_3/\ix ((([]:List Int)++w.1)++w.2.1) i_3 < (y'_1.length:Int)) (
  G ((ix ((([]:List Int)++w.1)++w.2.1) i_3).toNat < y'_1.length) (
  if (ix y'_1 (ix ((([]:List Int)++w.1)++w.2.1) i_3))=true then
  some true else
  G (fits (i_3+(1:Int))) (
  r36 (i_3+(1:Int))))))) else
  some false
def zo5 (w:Tp11) (y'_1:Tp16):(Int->Option (Bool))->Int->Option (Bool):=
  fun rec x=>zdq w y'_1 (fun i_3=>rec i_3) x
def zia (w:Tp11) (y'_1:Tp16) (i_3:Int):Option (Bool):=LFix (zo5 w y'_1 ) i_3
def zdr (w:Tp11) (y'_1:Tp16) (y'_2:Tp16) (r43:Int->Option (Bool)) (i_4:Int):Option (Bool):=
  if (decide (i_4 < (((([]:List Int)++w.1)++w.2.1).length:Int)))=true then
  G (0<=i_4/\i_4 < (((([]:List Int)++w.1)++w.2.1).length:Int)) (
  G ((i_4).toNat < ((([]:List Int)++w.1)++w.2.1).length) (
  G (0<=ix ((([]:List Int)++w.1)++w.2.1) i_4/\ix ((([]:List Int)++w.1)++w.2.1) i_4 < (y'_2.length:Int)) (
  G ((ix ((([]:List Int)++w.1)++w.2.1) i_4).toNat < y'_2.length) (
  if (ix y'_2 (ix ((([]:List Int)++w.1)++w.2.1) i_4))=true then
  some true else
  G (0<=i_4/\i_4 < (((([]:List Int)++w.1)++w.2.1).length:Int)) (
  G ((i_4).toNat < ((([]:List Int)++w.1)++w.2.1).length) (
  G (0<=ix ((([]:List Int)++w.1)++w.2.1) i_4/\ix ((([]:List Int)++w.1)++w.2.1) i_4 < (y'_1.length:Int)) (
  G ((ix ((([]:List Int)++w.1)++w.2.1) i_4).toNat < y'_1.length) (
  if (!(ix y'_1 (ix ((([]:List Int)++w.1)++w.2.1) i_4)))=true then
  some false else
  G (fits (i_4+(1:Int))) (
  r43 (i_4+(1:Int))))))))))) else
  some false
def zo6 (w:Tp11) (y'_1:Tp16) (y'_2:Tp16):(Int->Option (Bool))->Int->Option (Bool):=
  fun rec x=>zdr w y'_1 y'_2 (fun i_4=>rec i_4) x
def zd3 (w:Tp11) (y'_1:Tp16) (y'_2:Tp16) (i_4:Int):Option (Bool):=LFix (zo6 w y'_1 y'_2 ) i_4
def zb0 (g':Tp7) (l:Tp9) (k:Int) (w:Tp11) (r11:Int->Option (Bool)) (i_1:Int):Option (Bool):=
  if (decide (i_1 < (((([]:List Int)++w.1)++w.2.1).length:Int)))=true then
  G (0<=(w.1.length:Int)/\(w.1.length:Int) < (((([]:List Int)++w.1)++w.2.1).length:Int)) (
  G (((w.1.length:Int)).toNat < ((([]:List Int)++w.1)++w.2.1).length) (
  G (fits (i_1+(1:Int))) (
  if (decide ((i_1+(1:Int)) < (((([]:List Int)++w.1)++w.2.1).length:Int)))=true then
  G (fits (i_1+(1:Int))) (
  G (0<=i_1+(1:Int)/\i_1+(1:Int) < (((([]:List Int)++w.1)++w.2.1).length:Int)) (
  G ((i_1+(1:Int)).toNat < ((([]:List Int)++w.1)++w.2.1).length) (
  zeK g' w i_1 r11 (ix ((([]:List Int)++w.1)++w.2.1) (i_1+(1:Int)))))) else
  zeK g' w i_1 r11 (ix ((([]:List Int)++w.1)++w.2.1) (w.1.length:Int))))) else
  G (0<=k/\k < (l.length:Int)) (
  (zaJ (g'.1,(g'.2.1,(g'.2.2.1,()))) l (((((ix l k).2).2).2).1)).bind (fun y'_1=>
  if (decide (((ix l k).1)=(88:Int)))=true then
  G (0<=(w.1.length:Int)/\(w.1.length:Int) < (((([]:List Int)++w.1)++w.2.1).length:Int)) (
  G (((w.1.length:Int)).toNat < ((([]:List Int)++w.1)++w.2.1).length) (
  if (decide ((1:Int) < (((([]:List Int)++w.1)++w.2.1).length:Int)))=true then
  G (0<=(1:Int)/\(1:Int) < (((([]:List Int)++w.1)++w.2.1).length:Int)) (
  G (((1:Int)).toNat < ((([]:List Int)++w.1)++w.2.1).length) (
  znE y'_1 (ix ((([]:List Int)++w.1)++w.2.1) (1:Int)))) else
  znE y'_1 (ix ((([]:List Int)++w.1)++w.2.1) (w.1.length:Int)))) else
  if (decide (((ix l k).1)=(71:Int)))=true then
  zh9 w y'_1 (0:Int) else
  if (decide (((ix l k).1)=(70:Int)))=true then
  zia w y'_1 (0:Int) else
  (zaJ (g'.1,(g'.2.1,(g'.2.2.1,()))) l ((((((ix l k).2).2).2).2).1)).bind (fun y'_2=>
  zd3 w y'_1 y'_2 (0:Int))))
def zo3 (g':Tp7) (l:Tp9) (k:Int) (w:Tp11):(Int->Option (Bool))->Int->Option (Bool):=
  fun rec x=>zb0 g' l k w (fun i_1=>rec i_1) x
def zd2 (g':Tp7) (l:Tp9) (k:Int) (w:Tp11) (i_1:Int):Option (Bool):=LFix (zo3 g' l k w ) i_1
def zeh (g':Tp7) (l:Tp9) (k:Int) (w:Tp11) (r6:Int->Option (Bool)) (i:Int):Option (Bool):=
  if (decide (i < (((([]:List Int)++w.1)++w.2.1).length:Int)))=true then
  G (0<=i/\i < (((([]:List Int)++w.1)++w.2.1).length:Int)) (
  G ((i).toNat < ((([]:List Int)++w.1)++w.2.1).length) (
  if (decide ((ix ((([]:List Int)++w.1)++w.2.1) i) < (0:Int)))=true then
  some false else
  G (0<=i/\i < (((([]:List Int)++w.1)++w.2.1).length:Int)) (
  G ((i).toNat < ((([]:List Int)++w.1)++w.2.1).length) (
  if (decide (g'.2.1<=(ix ((([]:List Int)++w.1)++w.2.1) i)))=true then
  some false else
  G (fits (i+(1:Int))) (
  r6 (i+(1:Int))))))) else
  zd2 g' l k w (0:Int)
def zqf (g':Tp7) (l:Tp9) (k:Int) (w:Tp11):(Int->Option (Bool))->Int->Option (Bool):=
  fun rec x=>zeh g' l k w (fun i=>rec i) x
def zht (g':Tp7) (l:Tp9) (k:Int) (w:Tp11) (i:Int):Option (Bool):=LFix (zqf g' l k w ) i
def zfp (g':Tp7) (l:Tp9) (k:Int) (w:Tp11) (p:Int):Option (Bool):=
  G (room ([]:List Int) w.1 8) (
  G (room (([]:List Int)++w.1) w.2.1 8) (
  if (decide ((w.2.1.length:Int)=(0:Int)))=true then
  some false else
  G (0<=(0:Int)/\(0:Int) < (((([]:List Int)++w.1)++w.2.1).length:Int)) (
  G (((0:Int)).toNat < ((([]:List Int)++w.1)++w.2.1).length) (
  if (decide (¬ (ix ((([]:List Int)++w.1)++w.2.1) (0:Int))=p))=true then
  some false else
  zht g' l k w (0:Int)))))
theorem zeT (r11:Nat->Int->Option (Bool)) (r11':Int->Option (Bool)) (h_r11:∀ a0,ChO (fun κ=>r11 κ a0) (r11' a0)) (g':Tp7) (w:Tp11) (i_1:Int) (to:Int):ChO (fun κ=>zeK g' w i_1 (r11 κ) to) (zeK g' w i_1 r11' to):=by
  unfold zeK
  repeat' with_reducible first | exact ChO.const _ | exact h_r11 _ | apply ChO.ite | apply ChO.G | apply ChO.both | (apply ChO.bind;intro _)
theorem zrO (r29:Nat->Int->Option (Bool)) (r29':Int->Option (Bool)) (h_r29:∀ a0,ChO (fun κ=>r29 κ a0) (r29' a0)) (w:Tp11) (y'_1:Tp16) (i_2:Int):ChO (fun κ=>zdp w y'_1 (r29 κ) i_2) (zdp w y'_1 r29' i_2):=by
  unfold zdp
  repeat' with_reducible first | exact ChO.const _ | exact h_r29 _ | (apply zeT<;>assumption) | apply ChO.ite | apply ChO.G | apply ChO.both | (apply ChO.bind;intro _)
theorem ztt  (w:Tp11) (y'_1:Tp16):Cn (zo4 w y'_1):=fun g h hg x=>zrO  (fun κ i_2=>g κ i_2) (fun i_2=>h i_2) (fun i_2=>hg i_2) w y'_1 x
theorem znR  (w:Tp11) (y'_1:Tp16) (i_2:Int):zh9 w y'_1 i_2=zdp w y'_1 (zh9 w y'_1) i_2:=zaz (ztt w y'_1) i_2
theorem zrP (r36:Nat->Int->Option (Bool)) (r36':Int->Option (Bool)) (h_r36:∀ a0,ChO (fun κ=>r36 κ a0) (r36' a0)) (w:Tp11) (y'_1:Tp16) (i_3:Int):ChO (fun κ=>zdq w y'_1 (r36 κ) i_3) (zdq w y'_1 r36' i_3):=by
  unfold zdq
  repeat' with_reducible first | exact ChO.const _ | exact h_r36 _ | (apply zeT<;>assumption) | apply ChO.ite | apply ChO.G | apply ChO.both | (apply ChO.bind;intro _)
theorem ztu  (w:Tp11) (y'_1:Tp16):Cn (zo5 w y'_1):=fun g h hg x=>zrP  (fun κ i_3=>g κ i_3) (fun i_3=>h i_3) (fun i_3=>hg i_3) w y'_1 x
theorem znS  (w:Tp11) (y'_1:Tp16) (i_3:Int):zia w y'_1 i_3=zdq w y'_1 (zia w y'_1) i_3:=zaz (ztu w y'_1) i_3
theorem zrQ (r43:Nat->Int->Option (Bool)) (r43':Int->Option (Bool)) (h_r43:∀ a0,ChO (fun κ=>r43 κ a0) (r43' a0)) (w:Tp11) (y'_1:Tp16) (y'_2:Tp16) (i_4:Int):ChO (fun κ=>zdr w y'_1 y'_2 (r43 κ) i_4) (zdr w y'_1 y'_2 r43' i_4):=by
  unfold zdr
  repeat' with_reducible first | exact ChO.const _ | exact h_r43 _ | (apply zeT<;>assumption) | apply ChO.ite | apply ChO.G | apply ChO.both | (apply ChO.bind;intro _)
theorem ztv  (w:Tp11) (y'_1:Tp16) (y'_2:Tp16):Cn (zo6 w y'_1 y'_2):=fun g h hg x=>zrQ  (fun κ i_4=>g κ i_4) (fun i_4=>h i_4) (fun i_4=>hg i_4) w y'_1 y'_2 x
theorem znT  (w:Tp11) (y'_1:Tp16) (y'_2:Tp16) (i_4:Int):zd3 w y'_1 y'_2 i_4=zdr w y'_1 y'_2 (zd3 w y'_1 y'_2) i_4:=zaz (ztv w y'_1 y'_2) i_4
theorem zrN (r11:Nat->Int->Option (Bool)) (r11':Int->Option (Bool)) (h_r11:∀ a0,ChO (fun κ=>r11 κ a0) (r11' a0)) (g':Tp7) (l:Tp9) (k:Int) (w:Tp11) (i_1:Int):ChO (fun κ=>zb0 g' l k w (r11 κ) i_1) (zb0 g' l k w r11' i_1):=by
  unfold zb0
  repeat' with_reducible first | exact ChO.const _ | exact h_r11 _ | (apply zeT<;>assumption) | apply ChO.ite | apply ChO.G | apply ChO.both | (apply ChO.bind;intro _)
theorem zts  (g':Tp7) (l:Tp9) (k:Int) (w:Tp11):Cn (zo3 g' l k w):=fun g h hg x=>zrN  (fun κ i_1=>g κ i_1) (fun i_1=>h i_1) (fun i_1=>hg i_1) g' l k w x
theorem zeU  (g':Tp7) (l:Tp9) (k:Int) (w:Tp11) (i_1:Int):zd2 g' l k w i_1=zb0 g' l k w (zd2 g' l k w) i_1:=zaz (zts g' l k w) i_1
theorem zsA (r6:Nat->Int->Option (Bool)) (r6':Int->Option (Bool)) (h_r6:∀ a0,ChO (fun κ=>r6 κ a0) (r6' a0)) (g':Tp7) (l:Tp9) (k:Int) (w:Tp11) (i:Int):ChO (fun κ=>zeh g' l k w (r6 κ) i) (zeh g' l k w r6' i):=by
  unfold zeh
  repeat' with_reducible first | exact ChO.const _ | exact h_r6 _ | (apply zeT<;>assumption) | apply ChO.ite | apply ChO.G | apply ChO.both | (apply ChO.bind;intro _)
theorem zuH  (g':Tp7) (l:Tp9) (k:Int) (w:Tp11):Cn (zqf g' l k w):=fun g h hg x=>zsA  (fun κ i=>g κ i) (fun i=>h i) (fun i=>hg i) g' l k w x
theorem zo7  (g':Tp7) (l:Tp9) (k:Int) (w:Tp11) (i:Int):zht g' l k w i=zeh g' l k w (zht g' l k w) i:=zaz (zuH g' l k w) i

def zam (g':Tp7) (p:Int) (y':Tp11) (y'_1:Bool) (y'_2:Int) (y'_4:Bool) (y'_6:Int) (y'_8:Tp9) (no_1:Int):Option (Bool):=
  if (decide (¬ no_1=(0:Int)))=true then
  if (decide (y'_2=no_1))=true then
  if (!y'_1)=true then
  some y'_4 else
  some false else
  some false else
  (zaJ (g'.1,(g'.2.1,(g'.2.2.1,()))) y'_8 y'_6).bind (fun y'_10=>
  if (decide (¬ y'_2=(0:Int)))=true then
  some false else
  G (0<=p/\p < (y'_10.length:Int)) (
  G ((p).toNat < y'_10.length) (
  if (decide (¬ y'_1=(ix y'_10 p)))=true then
  some false else
  if (!y'_1)=true then
  some y'_4 else
  (zfp (g'.1,(g'.2.1,(g'.2.2.1,()))) y'_8 y'_6 (y'.1,(y'.2.1,())) p).bind (fun y'_11=>
  some y'_11))))
def zbr (g':Tp7) (p:Int) (y':Tp11) (y'_1:Bool) (y'_2:Int) (y'_4:Bool) (y'_6:Int) (y'_8:Tp9) (no:Int) (t_1:Bool):Option (Bool):=
  if t_1=true then
  zam g' p y' y'_1 y'_2 y'_4 y'_6 y'_8 (3:Int) else
  if (decide (p < (0:Int)))=true then
  zam g' p y' y'_1 y'_2 y'_4 y'_6 y'_8 (2:Int) else
  if (decide (g'.2.1<=p))=true then
  zam g' p y' y'_1 y'_2 y'_4 y'_6 y'_8 (2:Int) else
  zam g' p y' y'_1 y'_2 y'_4 y'_6 y'_8 no
def zbf (g':Tp7) (text:(List UInt8)) (p:Int) (y':Tp11) (y'_1:Bool) (y'_2:Int) (y'_4:Bool) (y'_6:Int) (y'_8:Tp9) (no:Int):Option (Bool):=
  if (decide (no=(0:Int)))=true then
  G (0<=y'_6/\y'_6 < (y'_8.length:Int)) (
  G ((y'_6).toNat < y'_8.length) (
  G (0<=(0:Int)/\(0:Int) < (text.length:Int)) (
  if (decide (¬ (bAt text (0:Int))=(69:Int)))=true then
  zbr g' p y' y'_1 y'_2 y'_4 y'_6 y'_8 no true else
  if (decide (¬ ((ix y'_8 y'_6).1)=(88:Int)))=true then
  if (decide (¬ ((ix y'_8 y'_6).1)=(70:Int)))=true then
  if (decide (¬ ((ix y'_8 y'_6).1)=(71:Int)))=true then
  zbr g' p y' y'_1 y'_2 y'_4 y'_6 y'_8 no (decide (¬ ((ix y'_8 y'_6).1)=(85:Int))) else
  zbr g' p y' y'_1 y'_2 y'_4 y'_6 y'_8 no false else
  zbr g' p y' y'_1 y'_2 y'_4 y'_6 y'_8 no false else
  zbr g' p y' y'_1 y'_2 y'_4 y'_6 y'_8 no false))) else
  zam g' p y' y'_1 y'_2 y'_4 y'_6 y'_8 no
def zcX (g':Tp7) (text:(List UInt8)) (p:Int) (y':Tp11) (y'_1:Bool) (y'_2:Int) (y'_4:Bool) (y'_5:Int) (y'_6:Int) (y'_8:Tp9) (t:Bool):Option (Bool):=
  if t=true then
  zbf g' text p y' y'_1 y'_2 y'_4 y'_6 y'_8 (4:Int) else
  zbf g' text p y' y'_1 y'_2 y'_4 y'_6 y'_8 y'_5
def zey (g':Tp7) (text:(List UInt8)) (p:Int):Option (Bool):=
  (zaM (g'.1,(g'.2.1,(g'.2.2.1,()))) text p).bind (fun y'_13=>
  (zfl (y'_13.1.1,(y'_13.1.2.1,()))).bind (fun y'_4=>
  (zrz (g'.1,(g'.2.1,(g'.2.2.1,())))).bind (fun y'_5=>
  (zkE text).bind (fun y'_12=>
  if (decide (y'_5=(0:Int)))=true then
  zcX g' text p y'_13.1 y'_13.2.1 y'_13.2.2 y'_4 y'_5 y'_12.1 y'_12.2.2 (decide (¬ y'_12.2.1.1=(0:Int))) else
  zcX g' text p y'_13.1 y'_13.2.1 y'_13.2.2 y'_4 y'_5 y'_12.1 y'_12.2.2 false))))

end
end Go.Proofs.Ytegenlccllgjoaa.branchPathsW
