/- What the functions that 'BranchPaths' reaches compute: plain functions. -/
import Derived.Test.YtegenlccllgjoaaEv29n21
set_option maxHeartbeats 1000000
set_option maxRecDepth 20000
set_option linter.unusedSimpArgs false
set_option linter.unusedVariables false
set_option linter.unusedSectionVars false
namespace Go.Proofs.Ytegenlccllgjoaa.branchPathsW
open Go Go.Ab
noncomputable section
abbrev Tp17:=(List Int)
abbrev Tp16:=(List Bool)
abbrev Tp15:=(List Tp17)
abbrev Tp14:=(Int×Int×Int×Unit)
abbrev Tp13:=(Int×Bool×Int×Unit)
abbrev Tp12:=(List Tp14)
abbrev Tp11:=(Tp17×Tp17×Unit)
abbrev Tp10:=(Int×Bool×Int×Int×Int×Unit)
abbrev Tc8:Ty:=(.pair (.list (.list (.int .i64))) .unit)
abbrev Tp9:=(List Tp10)
abbrev Tc7:Ty:=(.pair (.int .i64) (.pair (.int .i64) .unit))
abbrev Tp8:=(Tp11×Tp16)
abbrev Tp7:=(Int×Int×Tp12×Unit)
abbrev Tp6:=(Int×Int×Int×Tp12×Unit)
abbrev Tc6:Ty:=(.pair (.int .i64) Tc7)
abbrev Tc5:Ty:=(.list Tc6)
abbrev Tp5:=(Tp7×Tp15×Unit)
abbrev Tc4:Ty:=(.pair Tc5 .unit)
abbrev Tp4:=(Bool×Tp7×Tp15×Unit)
abbrev Tp3:=(Tp16×Tp7×Tp15×Unit)
abbrev Tc3:Ty:=(.pair (.int .i64) Tc4)
abbrev Tp2:=(Tp16×Tp16×Tp7×Tp15×Unit)
abbrev Tp1:=(Tp16×Tp16×Tp16×Tp7×Tp15×Unit)
abbrev Tc2:Ty:=(.pair (.int .i64) Tc3)
abbrev Tc1:Ty:=(.pair Tc2 Tc8)
abbrev Tf1:=Tp16->Tp16->Int->Tp5->Tp16->Option Tp3
abbrev Tf2:=Int->Tp16->Tp5->Tp16->Tp16->Option Tp1
abbrev Tf3:=Int->Int->Int->Tp12->Tp15->Option Tp5
abbrev Tf4:=Int->Tp17->Tp17->Tp17->Option Tp17
abbrev Tf5:=Tp16->Int->Tp5->Tp16->Option Tp3
abbrev Tf6:=Int->Tp5->Tp16->Tp16->Option Tp2
abbrev Tf7:=Tp17->Tp17->Tp17->Option Tp17
abbrev Tf8:=Tp5->Tp16->Tp16->Option Tp16
abbrev Tf9:=Int->Int->Tp17->Option Tp17
def zjw (p:Int) (t:Tp7):Option (Bool):=
  if (decide (p < (0:Int)))=true then
  some true else
  some (decide (t.2.1<=p))

def zjx (x':Tp14) (t:Tp7) (c:Tp7):Option (Bool×Int×Int×Tp12×Unit):=
  (zjw x'.1 c).bind (fun y'=>
  if y'=true then
  some (true,c) else
  (zjw x'.2.2.1 c).bind (fun y'_1=>
  if y'_1=true then
  some (true,c) else
  if (decide (x'.2.1 < (0:Int)))=true then
  some (true,c) else
  some (decide (t.1<=x'.2.1),c)))

def zcQ (s:Tp12) (r2:Tp7->Int->Tp7->Option Tp6) (f:Tp7) (t:Int) (l:Tp7):Option Tp6:=
  if (decide (t < (s.length:Int)))=true then
  G (0<=t/\t < (s.length:Int)) (
  (zjx (ix s t) f l).bind (fun y'_3=>
  if y'_3.1=true then
  some (t,y'_3.2) else
  G (fits (t+(1:Int))) (
  r2 f (t+(1:Int)) y'_3.2))) else
  some ((-1:Int),l)
def zjG (s:Tp12):(Tp7×Int×Int×Int×Tp12×Unit->Option Tp6)->Tp7×Int×Int×Int×Tp12×Unit->Option Tp6:=
  fun rec x=>zcQ s (fun f t l=>rec (f,t,l)) x.1 x.2.1 x.2.2
def zgO (s:Tp12) (f:Tp7) (t:Int) (l:Tp7):Option Tp6:=LFix (zjG s ) (f,t,l)
def zn4 (s:Tp12) (c:Tp7) (c_1:Tp7):Option Tp6:=
  zgO s c (0:Int) c_1
theorem zm7 (r2:Nat->Tp7->Int->Tp7->Option Tp6) (r2':Tp7->Int->Tp7->Option Tp6) (h_r2:∀ a0 a1 a2,ChO (fun κ=>r2 κ a0 a1 a2) (r2' a0 a1 a2)) (s:Tp12) (f:Tp7) (t:Int) (l:Tp7):ChO (fun κ=>zcQ s (r2 κ) f t l) (zcQ s r2' f t l):=by
  unfold zcQ
  repeat' with_reducible first | exact ChO.const _ | exact h_r2 _ _ _ | apply ChO.ite | apply ChO.G | apply ChO.both | (apply ChO.bind;intro _)
theorem zof  (s:Tp12):Cn (zjG s):=fun g h hg x=>zm7  (fun κ f t l=>g κ (f,t,l)) (fun f t l=>h (f,t,l)) (fun f t l=>hg (f,t,l)) s x.1 x.2.1 x.2.2
theorem zog  (s:Tp12) (f:Tp7) (t:Int) (l:Tp7):zgO s f t l=zcQ s (zgO s) f t l:=zaz (zof s) (f,t,l)

def zgN (s:Tp12) (c:Tp7) (c_1:Tp7):Option (Bool×Int×Int×Tp12×Unit):=
  (zn4 s c c_1).bind (fun y'_3=>
  some (decide ((0:Int)<=y'_3.1),y'_3.2))

def zqO (x':Int):Option (Bool):=
  some (decide (¬ x'=x'))

def ziY (x':Int) (y':Int):Option (Int):=
  (zqO x').bind (fun y'_1=>
  (zqO y').bind (fun y'_2=>
  if y'_1=true then
  if y'_2=true then
  some (0:Int) else
  some (-1:Int) else
  if y'_2=true then
  some (1:Int) else
  if (decide (x' < y'))=true then
  some (-1:Int) else
  if (decide (y' < x'))=true then
  some (1:Int) else
  some (0:Int)))

def zeC (vals:Tp17) (r3:Int->Option (Int)) (t:Int):Option (Int):=
  if (decide (t < (vals.length:Int)))=true then
  G (0<=t/\t < (vals.length:Int)) (
  if (decide (¬ (ix vals t)=(0:Int)))=true then
  some (ix vals t) else
  G (fits (t+(1:Int))) (
  r3 (t+(1:Int)))) else
  some (0:Int)
def zt1 (vals:Tp17):(Int->Option (Int))->Int->Option (Int):=
  fun rec x=>zeC vals (fun t=>rec t) x
def zt0 (vals:Tp17) (t:Int):Option (Int):=LFix (zt1 vals ) t
def zyG (vals:Tp17):Option (Int):=
  zt0 vals (0:Int)
theorem zuW (r3:Nat->Int->Option (Int)) (r3':Int->Option (Int)) (h_r3:∀ a0,ChO (fun κ=>r3 κ a0) (r3' a0)) (vals:Tp17) (t:Int):ChO (fun κ=>zeC vals (r3 κ) t) (zeC vals r3' t):=by
  unfold zeC
  repeat' with_reducible first | exact ChO.const _ | exact h_r3 _ | apply ChO.ite | apply ChO.G | apply ChO.both | (apply ChO.bind;intro _)
theorem zwU  (vals:Tp17):Cn (zt1 vals):=fun g h hg x=>zuW  (fun κ t=>g κ t) (fun t=>h t) (fun t=>hg t) vals x
theorem zlt  (vals:Tp17) (t:Int):zt0 vals t=zeC vals (zt0 vals) t:=zaz (zwU vals) t

def zpF (x':Tp14) (y':Tp14):Option (Int):=
  (ziY x'.1 y'.1).bind (fun y'_1=>
  (ziY x'.2.1 y'.2.1).bind (fun y'_2=>
  (ziY x'.2.2.1 y'.2.2.1).bind (fun y'_3=>
  (zyG ([y'_1,y'_2,y'_3])).bind (fun y'_4=>
  some y'_4))))

def zcP (g':Tp7) (r9:Int->Option (Int)) (t:Int):Option (Int):=
  if (decide (t < (g'.2.2.1.length:Int)))=true then
  if (decide ((0:Int) < t))=true then
  G (fits (t - (1:Int))) (
  G (0<=t - (1:Int)/\t - (1:Int) < (g'.2.2.1.length:Int)) (
  G (0<=t/\t < (g'.2.2.1.length:Int)) (
  (zpF (ix g'.2.2.1 (t - (1:Int))) (ix g'.2.2.1 t)).bind (fun y'_3=>
  if (decide ((0:Int)<=y'_3))=true then
  some (3:Int) else
  G (fits (t+(1:Int))) (
  r9 (t+(1:Int))))))) else
  G (fits (t+(1:Int))) (
  r9 (t+(1:Int))) else
  some (0:Int)
def zpd (g':Tp7):(Int->Option (Int))->Int->Option (Int):=
  fun rec x=>zcP g' (fun t=>rec t) x
def znE (g':Tp7) (t:Int):Option (Int):=LFix (zpd g' ) t
def zdF (g':Tp7):Option (Int):=
  if (decide (g'.1 < (1:Int)))=true then
  some (2:Int) else
  if (decide ((4:Int) < g'.1))=true then
  some (2:Int) else
  if (decide (g'.2.1 < (1:Int)))=true then
  some (1:Int) else
  if (decide ((12:Int) < g'.2.1))=true then
  some (1:Int) else
  if (decide ((60:Int) < (g'.2.2.1.length:Int)))=true then
  some (1:Int) else
  (zgN g'.2.2.1 (g'.1,(g'.2.1,(g'.2.2.1,()))) (g'.1,(g'.2.1,(g'.2.2.1,())))).bind (fun y'_4=>
  if y'_4.1=true then
  some (2:Int) else
  znE g' (0:Int))
theorem zrZ (r9:Nat->Int->Option (Int)) (r9':Int->Option (Int)) (h_r9:∀ a0,ChO (fun κ=>r9 κ a0) (r9' a0)) (g':Tp7) (t:Int):ChO (fun κ=>zcP g' (r9 κ) t) (zcP g' r9' t):=by
  unfold zcP
  repeat' with_reducible first | exact ChO.const _ | exact h_r9 _ | apply ChO.ite | apply ChO.G | apply ChO.both | (apply ChO.bind;intro _)
theorem zty  (g':Tp7):Cn (zpd g'):=fun g h hg x=>zrZ  (fun κ t=>g κ t) (fun t=>h t) (fun t=>hg t) g' x
theorem zjO  (g':Tp7) (t:Int):znE g' t=zcP g' (znE g') t:=zaz (zty g') t

def zb5 (r:((List UInt8)×Int×Int×Int×Unit)):Option (Int):=
  if (decide (r.2.1 < (r.1.length:Int)))=true then
  G (0<=r.2.1/\r.2.1 < (r.1.length:Int)) (
  some (bAt r.1 r.2.1)) else
  some (0:Int)

def zcb (r:((List UInt8)×Int×Int×Int×Unit)) (code:Int):Option ((Unit)⊕(Int×Int)):=
  some (.inr ((((code,(r.2.1,())),())).1.1,(((code,(r.2.1,())),())).1.2.1))

def zaO (c:(List UInt8)) (c_1:Int) (c_2:Int) (c_3:Int):Option (((List UInt8)×Int×Int×Int)⊕(Int×Int)):=
  G (fits (c_3+(1:Int))) (
  if (decide ((30:Int) < (c_3+(1:Int))))=true then
  pbind (zcb (c,(c_1,(c_2,(c_3+(1:Int),())))) (7:Int)) (fun _=>
  G (fits (c_1+(1:Int))) (
  some (.inl (c,c_1+(1:Int),c_2,c_3+(1:Int))))) (fun p=>some (.inr (p.1,p.2))) else
  G (fits (c_1+(1:Int))) (
  some (.inl (c,c_1+(1:Int),c_2,c_3+(1:Int)))))

def zdG (c:(List UInt8)) (c_1:Int) (c_2:Int) (c_3:Int):Option (((List UInt8)×Int×Int×Int)⊕(Int×Int)):=
  if (decide (c_2=(40:Int)))=true then
  pbind (zcb (c,(c_1,(c_2,(c_3,())))) (7:Int)) (fun _=>
  G (fits (c_2+(1:Int))) (
  G (fits (c_1+(1:Int))) (
  some (.inl (c,c_1+(1:Int),c_2+(1:Int),c_3))))) (fun p=>some (.inr (p.1,p.2))) else
  G (fits (c_2+(1:Int))) (
  G (fits (c_1+(1:Int))) (
  some (.inl (c,c_1+(1:Int),c_2+(1:Int),c_3))))

def zdI (c:Int) (c_1:(List UInt8)) (c_2:Int) (c_3:Int) (c_4:Int):Option (((List UInt8)×Int×Int×Int)⊕(Int×Int)):=
  (zb5 (c_1,(c_2,(c_3,(c_4,()))))).bind (fun y'=>
  if (decide (¬ y'=c))=true then
  pbind (zcb (c_1,(c_2,(c_3,(c_4,())))) (4:Int)) (fun _=>
  G (fits (c_2+(1:Int))) (
  some (.inl (c_1,c_2+(1:Int),c_3,c_4)))) (fun p=>some (.inr (p.1,p.2))) else
  G (fits (c_2+(1:Int))) (
  some (.inl (c_1,c_2+(1:Int),c_3,c_4))))

def zdH (c:(List UInt8)) (c_1:Int) (c_2:Int) (c_3:Int):Option (((List UInt8)×Int×Int×Int)⊕(Int×Int)):=
  pbind (zdI (41:Int) c c_1 c_2 c_3) (fun y'_4=>
  G (fits (y'_4.2.2.1 - (1:Int))) (
  some (.inl (y'_4.1,y'_4.2.1,y'_4.2.2.1 - (1:Int),y'_4.2.2.2)))) (fun p=>some (.inr (p.1,p.2)))

def zbD (zaa:(List UInt8)->Int->Int->Int->Option (((Tr Tp13)×(List UInt8)×Int×Int×Int)⊕(Int×Int)))  (r2:(Tr Tp13)->(List UInt8)->Int->Int->Int->Option (((Tr Tp13)×(List UInt8)×Int×Int×Int)⊕(Int×Int))) (n:(Tr Tp13)) (r:(List UInt8)) (r_1:Int) (r_2:Int) (r_3:Int):Option (((Tr Tp13)×(List UInt8)×Int×Int×Int)⊕(Int×Int)):=
  (zb5 (r,(r_1,(r_2,(r_3,()))))).bind (fun y'_6=>
  if (decide (y'_6=(38:Int)))=true then
  pbind (zaO r r_1 r_2 r_3) (fun y'_11=>
  pbind (zaa y'_11.1 y'_11.2.1 y'_11.2.2.1 y'_11.2.2.2) (fun y'_17=>
  r2 (Tr.mk ((38:Int),(false,((0:Int),()))) ([n,y'_17.1])) y'_17.2.1 y'_17.2.2.1 y'_17.2.2.2.1 y'_17.2.2.2.2) (fun p=>some (.inr (p.1,p.2)))) (fun p=>some (.inr (p.1,p.2))) else
  some (.inl (n,r,r_1,r_2,r_3)))
def zhz (zaa:(List UInt8)->Int->Int->Int->Option (((Tr Tp13)×(List UInt8)×Int×Int×Int)⊕(Int×Int))):((Tr Tp13)×(List UInt8)×Int×Int×Int->Option (((Tr Tp13)×(List UInt8)×Int×Int×Int)⊕(Int×Int)))->(Tr Tp13)×(List UInt8)×Int×Int×Int->Option (((Tr Tp13)×(List UInt8)×Int×Int×Int)⊕(Int×Int)):=
  fun rec x=>zbD zaa (fun n r r_1 r_2 r_3=>rec (n,r,r_1,r_2,r_3)) x.1 x.2.1 x.2.2.1 x.2.2.2.1 x.2.2.2.2
def zby (zaa:(List UInt8)->Int->Int->Int->Option (((Tr Tp13)×(List UInt8)×Int×Int×Int)⊕(Int×Int)))  (n:(Tr Tp13)) (r:(List UInt8)) (r_1:Int) (r_2:Int) (r_3:Int):Option (((Tr Tp13)×(List UInt8)×Int×Int×Int)⊕(Int×Int)):=LFix (zhz zaa ) (n,r,r_1,r_2,r_3)
def zbp (zaa:(List UInt8)->Int->Int->Int->Option (((Tr Tp13)×(List UInt8)×Int×Int×Int)⊕(Int×Int))) (c:(List UInt8)) (c_1:Int) (c_2:Int) (c_3:Int):Option (((Tr Tp13)×(List UInt8)×Int×Int×Int)⊕(Int×Int)):=
  pbind (zaa c c_1 c_2 c_3) (fun y'_5=>
  zby zaa y'_5.1 y'_5.2.1 y'_5.2.2.1 y'_5.2.2.2.1 y'_5.2.2.2.2) (fun p=>some (.inr (p.1,p.2)))
def zbu (zaa:(List UInt8)->Int->Int->Int->Option (((Tr Tp13)×(List UInt8)×Int×Int×Int)⊕(Int×Int)))  (r2:(Tr Tp13)->(List UInt8)->Int->Int->Int->Option (((Tr Tp13)×(List UInt8)×Int×Int×Int)⊕(Int×Int))) (n:(Tr Tp13)) (r:(List UInt8)) (r_1:Int) (r_2:Int) (r_3:Int):Option (((Tr Tp13)×(List UInt8)×Int×Int×Int)⊕(Int×Int)):=
  (zb5 (r,(r_1,(r_2,(r_3,()))))).bind (fun y'_6=>
  if (decide (y'_6=(124:Int)))=true then
  pbind (zaO r r_1 r_2 r_3) (fun y'_11=>
  pbind (zbp zaa y'_11.1 y'_11.2.1 y'_11.2.2.1 y'_11.2.2.2) (fun y'_17=>
  r2 (Tr.mk ((124:Int),(false,((0:Int),()))) ([n,y'_17.1])) y'_17.2.1 y'_17.2.2.1 y'_17.2.2.2.1 y'_17.2.2.2.2) (fun p=>some (.inr (p.1,p.2)))) (fun p=>some (.inr (p.1,p.2))) else
  some (.inl (n,r,r_1,r_2,r_3)))
def zgR (zaa:(List UInt8)->Int->Int->Int->Option (((Tr Tp13)×(List UInt8)×Int×Int×Int)⊕(Int×Int))):((Tr Tp13)×(List UInt8)×Int×Int×Int->Option (((Tr Tp13)×(List UInt8)×Int×Int×Int)⊕(Int×Int)))->(Tr Tp13)×(List UInt8)×Int×Int×Int->Option (((Tr Tp13)×(List UInt8)×Int×Int×Int)⊕(Int×Int)):=
  fun rec x=>zbu zaa (fun n r r_1 r_2 r_3=>rec (n,r,r_1,r_2,r_3)) x.1 x.2.1 x.2.2.1 x.2.2.2.1 x.2.2.2.2
def zbm (zaa:(List UInt8)->Int->Int->Int->Option (((Tr Tp13)×(List UInt8)×Int×Int×Int)⊕(Int×Int)))  (n:(Tr Tp13)) (r:(List UInt8)) (r_1:Int) (r_2:Int) (r_3:Int):Option (((Tr Tp13)×(List UInt8)×Int×Int×Int)⊕(Int×Int)):=LFix (zgR zaa ) (n,r,r_1,r_2,r_3)
def zaS (zaa:(List UInt8)->Int->Int->Int->Option (((Tr Tp13)×(List UInt8)×Int×Int×Int)⊕(Int×Int))) (c:(List UInt8)) (c_1:Int) (c_2:Int) (c_3:Int):Option (((Tr Tp13)×(List UInt8)×Int×Int×Int)⊕(Int×Int)):=
  pbind (zbp zaa c c_1 c_2 c_3) (fun y'_5=>
  zbm zaa y'_5.1 y'_5.2.1 y'_5.2.2.1 y'_5.2.2.2.1 y'_5.2.2.2.2) (fun p=>some (.inr (p.1,p.2)))
def za1 (zaa:(List UInt8)->Int->Int->Int->Option (((Tr Tp13)×(List UInt8)×Int×Int×Int)⊕(Int×Int))) (all':Bool) (y':(List UInt8)) (y'_1:Int) (y'_2:Int) (y'_3:Int) (y'_5:Int) (t:Bool):Option (((Tr Tp13)×(List UInt8)×Int×Int×Int)⊕(Int×Int)):=
  if t=true then
  G (fits (y'_1+(1:Int))) (
  pbind (zaa y' (y'_1+(1:Int)) y'_2 y'_3) (fun y'_11=>
  some (.inl (Tr.mk (y'_5,(all',((0:Int),()))) ([y'_11.1]),y'_11.2.1,y'_11.2.2.1,y'_11.2.2.2.1,y'_11.2.2.2.2))) (fun p=>some (.inr (p.1,p.2)))) else
  if (decide (y'_5=(40:Int)))=true then
  pbind (zdG y' y'_1 y'_2 y'_3) (fun y'_16=>
  pbind (zaS zaa y'_16.1 y'_16.2.1 y'_16.2.2.1 y'_16.2.2.2) (fun y'_22=>
  pbind (zdI (85:Int) y'_22.2.1 y'_22.2.2.1 y'_22.2.2.2.1 y'_22.2.2.2.2) (fun y'_27=>
  pbind (zaS zaa y'_27.1 y'_27.2.1 y'_27.2.2.1 y'_27.2.2.2) (fun y'_33=>
  pbind (zdH y'_33.2.1 y'_33.2.2.1 y'_33.2.2.2.1 y'_33.2.2.2.2) (fun y'_38=>
  some (.inl (Tr.mk ((85:Int),(all',((0:Int),()))) ([y'_22.1,y'_33.1]),y'_38.1,y'_38.2.1,y'_38.2.2.1,y'_38.2.2.2))) (fun p=>some (.inr (p.1,p.2)))) (fun p=>some (.inr (p.1,p.2)))) (fun p=>some (.inr (p.1,p.2)))) (fun p=>some (.inr (p.1,p.2)))) (fun p=>some (.inr (p.1,p.2))) else
  pbind (zcb (y',(y'_1,(y'_2,(y'_3,())))) (4:Int)) (fun _=>
  some (.inl (Tr.nil,y',y'_1,y'_2,y'_3))) (fun p=>some (.inr (p.1,p.2)))
def zcc (zaa:(List UInt8)->Int->Int->Int->Option (((Tr Tp13)×(List UInt8)×Int×Int×Int)⊕(Int×Int))) (all':Bool) (c:(List UInt8)) (c_1:Int) (c_2:Int) (c_3:Int):Option (((Tr Tp13)×(List UInt8)×Int×Int×Int)⊕(Int×Int)):=
  pbind (zaO c c_1 c_2 c_3) (fun y'_4=>
  (zb5 (y'_4.1,(y'_4.2.1,(y'_4.2.2.1,(y'_4.2.2.2,()))))).bind (fun y'_5=>
  if (decide (y'_5=(88:Int)))=true then
  za1 zaa all' y'_4.1 y'_4.2.1 y'_4.2.2.1 y'_4.2.2.2 y'_5 (decide (y'_5=(88:Int))) else
  if (decide (y'_5=(70:Int)))=true then
  za1 zaa all' y'_4.1 y'_4.2.1 y'_4.2.2.1 y'_4.2.2.2 y'_5 (decide (y'_5=(70:Int))) else
  za1 zaa all' y'_4.1 y'_4.2.1 y'_4.2.2.1 y'_4.2.2.2 y'_5 (decide (y'_5=(71:Int))))) (fun p=>some (.inr (p.1,p.2)))
def zbP (zaa:(List UInt8)->Int->Int->Int->Option (((Tr Tp13)×(List UInt8)×Int×Int×Int)⊕(Int×Int))) (c:(List UInt8)) (c_1:Int) (c_2:Int) (c_3:Int):Option (((Tr Tp13)×(List UInt8)×Int×Int×Int)⊕(Int×Int)):=
  pbind (zdG c c_1 c_2 c_3) (fun y'_33=>
  pbind (zaS zaa y'_33.1 y'_33.2.1 y'_33.2.2.1 y'_33.2.2.2) (fun y'_39=>
  pbind (zdH y'_39.2.1 y'_39.2.2.1 y'_39.2.2.2.1 y'_39.2.2.2.2) (fun y'_44=>
  some (.inl (y'_39.1,y'_44.1,y'_44.2.1,y'_44.2.2.1,y'_44.2.2.2))) (fun p=>some (.inr (p.1,p.2)))) (fun p=>some (.inr (p.1,p.2)))) (fun p=>some (.inr (p.1,p.2)))
def za7 (zaa:(List UInt8)->Int->Int->Int->Option (((Tr Tp13)×(List UInt8)×Int×Int×Int)⊕(Int×Int))) (c:(List UInt8)) (c_1:Int) (c_2:Int) (c_3:Int) (y':Int) (t_2:Bool):Option (((Tr Tp13)×(List UInt8)×Int×Int×Int)⊕(Int×Int)):=
  if t_2=true then
  pbind (zcc zaa (decide (y'=(65:Int))) c c_1 c_2 c_3) (fun y'_27=>
  some (.inl (y'_27.1,y'_27.2.1,y'_27.2.2.1,y'_27.2.2.2.1,y'_27.2.2.2.2))) (fun p=>some (.inr (p.1,p.2))) else
  if (decide (¬ y'=(40:Int)))=true then
  pbind (zcb (c,(c_1,(c_2,(c_3,())))) (4:Int)) (fun _=>
  zbP zaa c c_1 c_2 c_3) (fun p=>some (.inr (p.1,p.2))) else
  zbP zaa c c_1 c_2 c_3
def zbh (zaa:(List UInt8)->Int->Int->Int->Option (((Tr Tp13)×(List UInt8)×Int×Int×Int)⊕(Int×Int))) (c:(List UInt8)) (c_1:Int) (c_2:Int) (c_3:Int) (y':Int) (t_1:Bool):Option (((Tr Tp13)×(List UInt8)×Int×Int×Int)⊕(Int×Int)):=
  if t_1=true then
  pbind (zaO c c_1 c_2 c_3) (fun y'_10=>
  some (.inl (Tr.mk ((97:Int),(false,(IntKind.wrap .i64 (IntKind.wrap .u8 (y' - (97:Int))),()))) ([]),y'_10.1,y'_10.2.1,y'_10.2.2.1,y'_10.2.2.2))) (fun p=>some (.inr (p.1,p.2))) else
  if (decide (y'=(33:Int)))=true then
  pbind (zaO c c_1 c_2 c_3) (fun y'_15=>
  pbind (zaa y'_15.1 y'_15.2.1 y'_15.2.2.1 y'_15.2.2.2) (fun y'_21=>
  some (.inl (Tr.mk ((33:Int),(false,((0:Int),()))) ([y'_21.1]),y'_21.2.1,y'_21.2.2.1,y'_21.2.2.2.1,y'_21.2.2.2.2))) (fun p=>some (.inr (p.1,p.2)))) (fun p=>some (.inr (p.1,p.2))) else
  if (decide (y'=(69:Int)))=true then
  za7 zaa c c_1 c_2 c_3 y' true else
  za7 zaa c c_1 c_2 c_3 y' (decide (y'=(65:Int)))
def zbg (zaa:(List UInt8)->Int->Int->Int->Option (((Tr Tp13)×(List UInt8)×Int×Int×Int)⊕(Int×Int))) (c:(List UInt8)) (c_1:Int) (c_2:Int) (c_3:Int) (y':Int) (t:Bool):Option (((Tr Tp13)×(List UInt8)×Int×Int×Int)⊕(Int×Int)):=
  if t=true then
  pbind (zaO c c_1 c_2 c_3) (fun y'_5=>
  some (.inl (Tr.mk (y',(false,((0:Int),()))) ([]),y'_5.1,y'_5.2.1,y'_5.2.2.1,y'_5.2.2.2))) (fun p=>some (.inr (p.1,p.2))) else
  if (decide ((97:Int)<=y'))=true then
  zbh zaa c c_1 c_2 c_3 y' (decide (y'<=(100:Int))) else
  zbh zaa c c_1 c_2 c_3 y' false
def zbI (zaa:(List UInt8)->Int->Int->Int->Option (((Tr Tp13)×(List UInt8)×Int×Int×Int)⊕(Int×Int))) (c:(List UInt8)) (c_1:Int) (c_2:Int) (c_3:Int):Option (((Tr Tp13)×(List UInt8)×Int×Int×Int)⊕(Int×Int)):=
  (zb5 (c,(c_1,(c_2,(c_3,()))))).bind (fun y'=>
  if (decide (y'=(48:Int)))=true then
  zbg zaa c c_1 c_2 c_3 y' true else
  zbg zaa c c_1 c_2 c_3 y' (decide (y'=(49:Int))))
theorem zfD (zaa:Nat->(List UInt8)->Int->Int->Int->Option (((Tr Tp13)×(List UInt8)×Int×Int×Int)⊕(Int×Int))) (zae:(List UInt8)->Int->Int->Int->Option (((Tr Tp13)×(List UInt8)×Int×Int×Int)⊕(Int×Int))) (zaf:∀ a0 a1 a2 a3,ChO (fun κ=>zaa κ a0 a1 a2 a3) (zae a0 a1 a2 a3)) (r2:Nat->(Tr Tp13)->(List UInt8)->Int->Int->Int->Option (((Tr Tp13)×(List UInt8)×Int×Int×Int)⊕(Int×Int))) (r2':(Tr Tp13)->(List UInt8)->Int->Int->Int->Option (((Tr Tp13)×(List UInt8)×Int×Int×Int)⊕(Int×Int))) (h_r2:∀ a0 a1 a2 a3 a4,ChO (fun κ=>r2 κ a0 a1 a2 a3 a4) (r2' a0 a1 a2 a3 a4)) (n:(Tr Tp13)) (r:(List UInt8)) (r_1:Int) (r_2:Int) (r_3:Int):ChO (fun κ=>zbD (zaa κ) (r2 κ) n r r_1 r_2 r_3) (zbD zae r2' n r r_1 r_2 r_3):=by
  unfold zbD
  repeat' with_reducible first | exact ChO.const _ | exact zaf _ _ _ _ | exact h_r2 _ _ _ _ _ | apply ChO.ite | apply ChO.G | apply ChO.both | apply ChO.bothS | (apply ChO.bind;intro _) | (apply ChO.bind2 (zaf _ _ _ _);intro _) | (refine ChO.bind2 ?_ (fun _ => ?_)) | (refine ChO.pbind (fun _ => ?_) (fun _ => ?_)) | (refine ChO.pbind2 ?_ (fun _ => ?_) (fun _ => ?_))
theorem zer (zaa:(List UInt8)->Int->Int->Int->Option (((Tr Tp13)×(List UInt8)×Int×Int×Int)⊕(Int×Int))):Cn (zhz zaa):=fun g h hg x=>zfD (fun _=>zaa) zaa (fun _ _ _ _=>ChO.const _) (fun κ n r r_1 r_2 r_3=>g κ (n,r,r_1,r_2,r_3)) (fun n r r_1 r_2 r_3=>h (n,r,r_1,r_2,r_3)) (fun n r r_1 r_2 r_3=>hg (n,r,r_1,r_2,r_3))  x.1 x.2.1 x.2.2.1 x.2.2.2.1 x.2.2.2.2
theorem zmi (zaa:(List UInt8)->Int->Int->Int->Option (((Tr Tp13)×(List UInt8)×Int×Int×Int)⊕(Int×Int)))  (n:(Tr Tp13)) (r:(List UInt8)) (r_1:Int) (r_2:Int) (r_3:Int):zby zaa n r r_1 r_2 r_3=zbD zaa (zby zaa) n r r_1 r_2 r_3:=zaz (zer zaa) (n,r,r_1,r_2,r_3)
theorem zaD (zaa:Nat->(List UInt8)->Int->Int->Int->Option (((Tr Tp13)×(List UInt8)×Int×Int×Int)⊕(Int×Int))) (zae:(List UInt8)->Int->Int->Int->Option (((Tr Tp13)×(List UInt8)×Int×Int×Int)⊕(Int×Int))) (zaf:∀ a0 a1 a2 a3,ChO (fun κ=>zaa κ a0 a1 a2 a3) (zae a0 a1 a2 a3))  (n:(Tr Tp13)) (r:(List UInt8)) (r_1:Int) (r_2:Int) (r_3:Int):ChO (fun κ=>zby (zaa κ) n r r_1 r_2 r_3) (zby zae n r r_1 r_2 r_3):=by
  unfold zby
  exact zqp (fun κ=>(zer (zaa κ) ).mono) (zer zae ).mono (fun g h hg x=>zfD zaa zae zaf (fun κ n r r_1 r_2 r_3=>g κ (n,r,r_1,r_2,r_3)) (fun n r r_1 r_2 r_3=>h (n,r,r_1,r_2,r_3)) (fun n r r_1 r_2 r_3=>hg (n,r,r_1,r_2,r_3))  x.1 x.2.1 x.2.2.1 x.2.2.2.1 x.2.2.2.2) _
theorem za0 (zaa:Nat->(List UInt8)->Int->Int->Int->Option (((Tr Tp13)×(List UInt8)×Int×Int×Int)⊕(Int×Int))) (zae:(List UInt8)->Int->Int->Int->Option (((Tr Tp13)×(List UInt8)×Int×Int×Int)⊕(Int×Int))) (zaf:∀ a0 a1 a2 a3,ChO (fun κ=>zaa κ a0 a1 a2 a3) (zae a0 a1 a2 a3)) (c:(List UInt8)) (c_1:Int) (c_2:Int) (c_3:Int):ChO (fun κ=>zbp (zaa κ) c c_1 c_2 c_3) (zbp zae c c_1 c_2 c_3):=by
  unfold zbp
  repeat' with_reducible first | exact ChO.const _ | exact zaf _ _ _ _ | (apply zaD<;>assumption) | apply ChO.ite | apply ChO.G | apply ChO.both | apply ChO.bothS | (apply ChO.bind;intro _) | (apply ChO.bind2 (zaf _ _ _ _);intro _) | (refine ChO.bind2 ?_ (fun _ => ?_)) | (refine ChO.pbind (fun _ => ?_) (fun _ => ?_)) | (refine ChO.pbind2 ?_ (fun _ => ?_) (fun _ => ?_))
theorem ze7 (zaa:Nat->(List UInt8)->Int->Int->Int->Option (((Tr Tp13)×(List UInt8)×Int×Int×Int)⊕(Int×Int))) (zae:(List UInt8)->Int->Int->Int->Option (((Tr Tp13)×(List UInt8)×Int×Int×Int)⊕(Int×Int))) (zaf:∀ a0 a1 a2 a3,ChO (fun κ=>zaa κ a0 a1 a2 a3) (zae a0 a1 a2 a3)) (r2:Nat->(Tr Tp13)->(List UInt8)->Int->Int->Int->Option (((Tr Tp13)×(List UInt8)×Int×Int×Int)⊕(Int×Int))) (r2':(Tr Tp13)->(List UInt8)->Int->Int->Int->Option (((Tr Tp13)×(List UInt8)×Int×Int×Int)⊕(Int×Int))) (h_r2:∀ a0 a1 a2 a3 a4,ChO (fun κ=>r2 κ a0 a1 a2 a3 a4) (r2' a0 a1 a2 a3 a4)) (n:(Tr Tp13)) (r:(List UInt8)) (r_1:Int) (r_2:Int) (r_3:Int):ChO (fun κ=>zbu (zaa κ) (r2 κ) n r r_1 r_2 r_3) (zbu zae r2' n r r_1 r_2 r_3):=by
  unfold zbu
  repeat' with_reducible first | exact ChO.const _ | exact zaf _ _ _ _ | exact h_r2 _ _ _ _ _ | (apply zaD<;>assumption) | (apply za0<;>assumption) | apply ChO.ite | apply ChO.G | apply ChO.both | apply ChO.bothS | (apply ChO.bind;intro _) | (apply ChO.bind2 (zaf _ _ _ _);intro _) | (refine ChO.bind2 ?_ (fun _ => ?_)) | (refine ChO.pbind (fun _ => ?_) (fun _ => ?_)) | (refine ChO.pbind2 ?_ (fun _ => ?_) (fun _ => ?_))
theorem zeb (zaa:(List UInt8)->Int->Int->Int->Option (((Tr Tp13)×(List UInt8)×Int×Int×Int)⊕(Int×Int))):Cn (zgR zaa):=fun g h hg x=>ze7 (fun _=>zaa) zaa (fun _ _ _ _=>ChO.const _) (fun κ n r r_1 r_2 r_3=>g κ (n,r,r_1,r_2,r_3)) (fun n r r_1 r_2 r_3=>h (n,r,r_1,r_2,r_3)) (fun n r r_1 r_2 r_3=>hg (n,r,r_1,r_2,r_3))  x.1 x.2.1 x.2.2.1 x.2.2.2.1 x.2.2.2.2
theorem zlW (zaa:(List UInt8)->Int->Int->Int->Option (((Tr Tp13)×(List UInt8)×Int×Int×Int)⊕(Int×Int)))  (n:(Tr Tp13)) (r:(List UInt8)) (r_1:Int) (r_2:Int) (r_3:Int):zbm zaa n r r_1 r_2 r_3=zbu zaa (zbm zaa) n r r_1 r_2 r_3:=zaz (zeb zaa) (n,r,r_1,r_2,r_3)
theorem zaP (zaa:Nat->(List UInt8)->Int->Int->Int->Option (((Tr Tp13)×(List UInt8)×Int×Int×Int)⊕(Int×Int))) (zae:(List UInt8)->Int->Int->Int->Option (((Tr Tp13)×(List UInt8)×Int×Int×Int)⊕(Int×Int))) (zaf:∀ a0 a1 a2 a3,ChO (fun κ=>zaa κ a0 a1 a2 a3) (zae a0 a1 a2 a3))  (n:(Tr Tp13)) (r:(List UInt8)) (r_1:Int) (r_2:Int) (r_3:Int):ChO (fun κ=>zbm (zaa κ) n r r_1 r_2 r_3) (zbm zae n r r_1 r_2 r_3):=by
  unfold zbm
  exact zqp (fun κ=>(zeb (zaa κ) ).mono) (zeb zae ).mono (fun g h hg x=>ze7 zaa zae zaf (fun κ n r r_1 r_2 r_3=>g κ (n,r,r_1,r_2,r_3)) (fun n r r_1 r_2 r_3=>h (n,r,r_1,r_2,r_3)) (fun n r r_1 r_2 r_3=>hg (n,r,r_1,r_2,r_3))  x.1 x.2.1 x.2.2.1 x.2.2.2.1 x.2.2.2.2) _
theorem zbn (zaa:Nat->(List UInt8)->Int->Int->Int->Option (((Tr Tp13)×(List UInt8)×Int×Int×Int)⊕(Int×Int))) (zae:(List UInt8)->Int->Int->Int->Option (((Tr Tp13)×(List UInt8)×Int×Int×Int)⊕(Int×Int))) (zaf:∀ a0 a1 a2 a3,ChO (fun κ=>zaa κ a0 a1 a2 a3) (zae a0 a1 a2 a3)) (c:(List UInt8)) (c_1:Int) (c_2:Int) (c_3:Int):ChO (fun κ=>zaS (zaa κ) c c_1 c_2 c_3) (zaS zae c c_1 c_2 c_3):=by
  unfold zaS
  repeat' with_reducible first | exact ChO.const _ | exact zaf _ _ _ _ | (apply zaD<;>assumption) | (apply za0<;>assumption) | (apply zaP<;>assumption) | apply ChO.ite | apply ChO.G | apply ChO.both | apply ChO.bothS | (apply ChO.bind;intro _) | (apply ChO.bind2 (zaf _ _ _ _);intro _) | (refine ChO.bind2 ?_ (fun _ => ?_)) | (refine ChO.pbind (fun _ => ?_) (fun _ => ?_)) | (refine ChO.pbind2 ?_ (fun _ => ?_) (fun _ => ?_))
theorem zbt (zaa:Nat->(List UInt8)->Int->Int->Int->Option (((Tr Tp13)×(List UInt8)×Int×Int×Int)⊕(Int×Int))) (zae:(List UInt8)->Int->Int->Int->Option (((Tr Tp13)×(List UInt8)×Int×Int×Int)⊕(Int×Int))) (zaf:∀ a0 a1 a2 a3,ChO (fun κ=>zaa κ a0 a1 a2 a3) (zae a0 a1 a2 a3)) (all':Bool) (y':(List UInt8)) (y'_1:Int) (y'_2:Int) (y'_3:Int) (y'_5:Int) (t:Bool):ChO (fun κ=>za1 (zaa κ) all' y' y'_1 y'_2 y'_3 y'_5 t) (za1 zae all' y' y'_1 y'_2 y'_3 y'_5 t):=by
  unfold za1
  repeat' with_reducible first | exact ChO.const _ | exact zaf _ _ _ _ | (apply zaD<;>assumption) | (apply za0<;>assumption) | (apply zaP<;>assumption) | (apply zbn<;>assumption) | apply ChO.ite | apply ChO.G | apply ChO.both | apply ChO.bothS | (apply ChO.bind;intro _) | (apply ChO.bind2 (zaf _ _ _ _);intro _) | (refine ChO.bind2 ?_ (fun _ => ?_)) | (refine ChO.pbind (fun _ => ?_) (fun _ => ?_)) | (refine ChO.pbind2 ?_ (fun _ => ?_) (fun _ => ?_))
theorem zcK (zaa:Nat->(List UInt8)->Int->Int->Int->Option (((Tr Tp13)×(List UInt8)×Int×Int×Int)⊕(Int×Int))) (zae:(List UInt8)->Int->Int->Int->Option (((Tr Tp13)×(List UInt8)×Int×Int×Int)⊕(Int×Int))) (zaf:∀ a0 a1 a2 a3,ChO (fun κ=>zaa κ a0 a1 a2 a3) (zae a0 a1 a2 a3)) (all':Bool) (c:(List UInt8)) (c_1:Int) (c_2:Int) (c_3:Int):ChO (fun κ=>zcc (zaa κ) all' c c_1 c_2 c_3) (zcc zae all' c c_1 c_2 c_3):=by
  unfold zcc
  repeat' with_reducible first | exact ChO.const _ | exact zaf _ _ _ _ | (apply zaD<;>assumption) | (apply za0<;>assumption) | (apply zaP<;>assumption) | (apply zbn<;>assumption) | (apply zbt<;>assumption) | apply ChO.ite | apply ChO.G | apply ChO.both | apply ChO.bothS | (apply ChO.bind;intro _) | (apply ChO.bind2 (zaf _ _ _ _);intro _) | (refine ChO.bind2 ?_ (fun _ => ?_)) | (refine ChO.pbind (fun _ => ?_) (fun _ => ?_)) | (refine ChO.pbind2 ?_ (fun _ => ?_) (fun _ => ?_))
theorem zcH (zaa:Nat->(List UInt8)->Int->Int->Int->Option (((Tr Tp13)×(List UInt8)×Int×Int×Int)⊕(Int×Int))) (zae:(List UInt8)->Int->Int->Int->Option (((Tr Tp13)×(List UInt8)×Int×Int×Int)⊕(Int×Int))) (zaf:∀ a0 a1 a2 a3,ChO (fun κ=>zaa κ a0 a1 a2 a3) (zae a0 a1 a2 a3)) (c:(List UInt8)) (c_1:Int) (c_2:Int) (c_3:Int):ChO (fun κ=>zbP (zaa κ) c c_1 c_2 c_3) (zbP zae c c_1 c_2 c_3):=by
  unfold zbP
  repeat' with_reducible first | exact ChO.const _ | exact zaf _ _ _ _ | (apply zaD<;>assumption) | (apply za0<;>assumption) | (apply zaP<;>assumption) | (apply zbn<;>assumption) | (apply zbt<;>assumption) | (apply zcK<;>assumption) | apply ChO.ite | apply ChO.G | apply ChO.both | apply ChO.bothS | (apply ChO.bind;intro _) | (apply ChO.bind2 (zaf _ _ _ _);intro _) | (refine ChO.bind2 ?_ (fun _ => ?_)) | (refine ChO.pbind (fun _ => ?_) (fun _ => ?_)) | (refine ChO.pbind2 ?_ (fun _ => ?_) (fun _ => ?_))
theorem zea (zaa:Nat->(List UInt8)->Int->Int->Int->Option (((Tr Tp13)×(List UInt8)×Int×Int×Int)⊕(Int×Int))) (zae:(List UInt8)->Int->Int->Int->Option (((Tr Tp13)×(List UInt8)×Int×Int×Int)⊕(Int×Int))) (zaf:∀ a0 a1 a2 a3,ChO (fun κ=>zaa κ a0 a1 a2 a3) (zae a0 a1 a2 a3)) (c:(List UInt8)) (c_1:Int) (c_2:Int) (c_3:Int) (y':Int) (t_2:Bool):ChO (fun κ=>za7 (zaa κ) c c_1 c_2 c_3 y' t_2) (za7 zae c c_1 c_2 c_3 y' t_2):=by
  unfold za7
  repeat' with_reducible first | exact ChO.const _ | exact zaf _ _ _ _ | (apply zaD<;>assumption) | (apply za0<;>assumption) | (apply zaP<;>assumption) | (apply zbn<;>assumption) | (apply zbt<;>assumption) | (apply zcK<;>assumption) | (apply zcH<;>assumption) | apply ChO.ite | apply ChO.G | apply ChO.both | apply ChO.bothS | (apply ChO.bind;intro _) | (apply ChO.bind2 (zaf _ _ _ _);intro _) | (refine ChO.bind2 ?_ (fun _ => ?_)) | (refine ChO.pbind (fun _ => ?_) (fun _ => ?_)) | (refine ChO.pbind2 ?_ (fun _ => ?_) (fun _ => ?_))
theorem zgQ (zaa:Nat->(List UInt8)->Int->Int->Int->Option (((Tr Tp13)×(List UInt8)×Int×Int×Int)⊕(Int×Int))) (zae:(List UInt8)->Int->Int->Int->Option (((Tr Tp13)×(List UInt8)×Int×Int×Int)⊕(Int×Int))) (zaf:∀ a0 a1 a2 a3,ChO (fun κ=>zaa κ a0 a1 a2 a3) (zae a0 a1 a2 a3)) (c:(List UInt8)) (c_1:Int) (c_2:Int) (c_3:Int) (y':Int) (t_1:Bool):ChO (fun κ=>zbh (zaa κ) c c_1 c_2 c_3 y' t_1) (zbh zae c c_1 c_2 c_3 y' t_1):=by
  unfold zbh
  repeat' with_reducible first | exact ChO.const _ | exact zaf _ _ _ _ | (apply zaD<;>assumption) | (apply za0<;>assumption) | (apply zaP<;>assumption) | (apply zbn<;>assumption) | (apply zbt<;>assumption) | (apply zcK<;>assumption) | (apply zcH<;>assumption) | (apply zea<;>assumption) | apply ChO.ite | apply ChO.G | apply ChO.both | apply ChO.bothS | (apply ChO.bind;intro _) | (apply ChO.bind2 (zaf _ _ _ _);intro _) | (refine ChO.bind2 ?_ (fun _ => ?_)) | (refine ChO.pbind (fun _ => ?_) (fun _ => ?_)) | (refine ChO.pbind2 ?_ (fun _ => ?_) (fun _ => ?_))
theorem zmh (zaa:Nat->(List UInt8)->Int->Int->Int->Option (((Tr Tp13)×(List UInt8)×Int×Int×Int)⊕(Int×Int))) (zae:(List UInt8)->Int->Int->Int->Option (((Tr Tp13)×(List UInt8)×Int×Int×Int)⊕(Int×Int))) (zaf:∀ a0 a1 a2 a3,ChO (fun κ=>zaa κ a0 a1 a2 a3) (zae a0 a1 a2 a3)) (c:(List UInt8)) (c_1:Int) (c_2:Int) (c_3:Int) (y':Int) (t:Bool):ChO (fun κ=>zbg (zaa κ) c c_1 c_2 c_3 y' t) (zbg zae c c_1 c_2 c_3 y' t):=by
  unfold zbg
  repeat' with_reducible first | exact ChO.const _ | exact zaf _ _ _ _ | (apply zaD<;>assumption) | (apply za0<;>assumption) | (apply zaP<;>assumption) | (apply zbn<;>assumption) | (apply zbt<;>assumption) | (apply zcK<;>assumption) | (apply zcH<;>assumption) | (apply zea<;>assumption) | (apply zgQ<;>assumption) | apply ChO.ite | apply ChO.G | apply ChO.both | apply ChO.bothS | (apply ChO.bind;intro _) | (apply ChO.bind2 (zaf _ _ _ _);intro _) | (refine ChO.bind2 ?_ (fun _ => ?_)) | (refine ChO.pbind (fun _ => ?_) (fun _ => ?_)) | (refine ChO.pbind2 ?_ (fun _ => ?_) (fun _ => ?_))
theorem znb (zaa:Nat->(List UInt8)->Int->Int->Int->Option (((Tr Tp13)×(List UInt8)×Int×Int×Int)⊕(Int×Int))) (zae:(List UInt8)->Int->Int->Int->Option (((Tr Tp13)×(List UInt8)×Int×Int×Int)⊕(Int×Int))) (zaf:∀ a0 a1 a2 a3,ChO (fun κ=>zaa κ a0 a1 a2 a3) (zae a0 a1 a2 a3)) (c:(List UInt8)) (c_1:Int) (c_2:Int) (c_3:Int):ChO (fun κ=>zbI (zaa κ) c c_1 c_2 c_3) (zbI zae c c_1 c_2 c_3):=by
  unfold zbI
  repeat' with_reducible first | exact ChO.const _ | exact zaf _ _ _ _ | (apply zaD<;>assumption) | (apply za0<;>assumption) | (apply zaP<;>assumption) | (apply zbn<;>assumption) | (apply zbt<;>assumption) | (apply zcK<;>assumption) | (apply zcH<;>assumption) | (apply zea<;>assumption) | (apply zgQ<;>assumption) | (apply zmh<;>assumption) | apply ChO.ite | apply ChO.G | apply ChO.both | apply ChO.bothS | (apply ChO.bind;intro _) | (apply ChO.bind2 (zaf _ _ _ _);intro _) | (refine ChO.bind2 ?_ (fun _ => ?_)) | (refine ChO.pbind (fun _ => ?_) (fun _ => ?_)) | (refine ChO.pbind2 ?_ (fun _ => ?_) (fun _ => ?_))
def zc1:((List UInt8)×Int×Int×Int->Option (((Tr Tp13)×(List UInt8)×Int×Int×Int)⊕(Int×Int)))->(List UInt8)×Int×Int×Int->Option (((Tr Tp13)×(List UInt8)×Int×Int×Int)⊕(Int×Int)):=
  fun rec X=>zbI (fun c c_1 c_2 c_3=>rec (c,c_1,c_2,c_3)) X.1 X.2.1 X.2.2.1 X.2.2.2
def zaA (c:(List UInt8)) (c_1:Int) (c_2:Int) (c_3:Int):Option (((Tr Tp13)×(List UInt8)×Int×Int×Int)⊕(Int×Int)):=LFix zc1 (c,c_1,c_2,c_3)
theorem zoo:Cn zc1:=fun g h hg X=>znb _ _ (fun c c_1 c_2 c_3=>hg (c,c_1,c_2,c_3)) X.1 X.2.1 X.2.2.1 X.2.2.2
theorem zje (c:(List UInt8)) (c_1:Int) (c_2:Int) (c_3:Int):zaA c c_1 c_2 c_3=zbI zaA c c_1 c_2 c_3:=zaz zoo (c,c_1,c_2,c_3)
def ze8 (c:(List UInt8)) (c_1:Int) (c_2:Int) (c_3:Int):Option (((Tr Tp13)×(List UInt8)×Int×Int×Int)⊕(Int×Int)):=zaS zaA c c_1 c_2 c_3
def zbL (text:(List UInt8)):Option ((Tr Tp13)×Int×Int×Unit):=
  if (decide ((4000:Int) < (text.length:Int)))=true then
  some (Tr.nil,((1:Int),((0:Int),()))) else
  pbind (ze8 text (0:Int) (0:Int) (0:Int)) (fun y'_5=>
  if (decide (y'_5.2.2.1 < (text.length:Int)))=true then
  pbind (zcb (y'_5.2.1,(y'_5.2.2.1,(y'_5.2.2.2.1,(y'_5.2.2.2.2,())))) (4:Int)) (fun _=>
  some (y'_5.1,((0:Int),((0:Int),())))) (fun p=>some (Tr.nil,(p.1,(p.2,())))) else
  some (y'_5.1,((0:Int),((0:Int),())))) (fun p=>some (Tr.nil,(p.1,(p.2,()))))

def zeA (s:Tp17) (v:Int) (r2:Int->Option (Int)) (t:Int):Option (Int):=
  if (decide (t < (s.length:Int)))=true then
  G (0<=t/\t < (s.length:Int)) (
  if (decide (v=(ix s t)))=true then
  some t else
  G (fits (t+(1:Int))) (
  r2 (t+(1:Int)))) else
  some (-1:Int)
def zm8 (s:Tp17) (v:Int):(Int->Option (Int))->Int->Option (Int):=
  fun rec x=>zeA s v (fun t=>rec t) x
def zkZ (s:Tp17) (v:Int) (t:Int):Option (Int):=LFix (zm8 s v ) t
def zs6 (s:Tp17) (v:Int):Option (Int):=
  zkZ s v (0:Int)
theorem zpT (r2:Nat->Int->Option (Int)) (r2':Int->Option (Int)) (h_r2:∀ a0,ChO (fun κ=>r2 κ a0) (r2' a0)) (s:Tp17) (v:Int) (t:Int):ChO (fun κ=>zeA s v (r2 κ) t) (zeA s v r2' t):=by
  unfold zeA
  repeat' with_reducible first | exact ChO.const _ | exact h_r2 _ | apply ChO.ite | apply ChO.G | apply ChO.both | (apply ChO.bind;intro _)
theorem zr4  (s:Tp17) (v:Int):Cn (zm8 s v):=fun g h hg x=>zpT  (fun κ t=>g κ t) (fun t=>h t) (fun t=>hg t) s v x
theorem zr5  (s:Tp17) (v:Int) (t:Int):zkZ s v t=zeA s v (zkZ s v) t:=zaz (zr4 s v) t

def zfs (s:Tp17) (v:Int):Option (Bool):=
  (zs6 s v).bind (fun y'=>
  some (decide ((0:Int)<=y')))

def zdu (s:Tp17) (v:Int) (r2:Int->Option (Int)) (t:Int):Option (Int):=
  if (decide (t < (s.length:Int)))=true then
  G (0<=t/\t < (s.length:Int)) (
  if (decide (v=(ix s t)))=true then
  some t else
  G (fits (t+(1:Int))) (
  r2 (t+(1:Int)))) else
  some (-1:Int)
def zkY (s:Tp17) (v:Int):(Int->Option (Int))->Int->Option (Int):=
  fun rec x=>zdu s v (fun t=>rec t) x
def zcF (s:Tp17) (v:Int) (t:Int):Option (Int):=LFix (zkY s v ) t
def zeS (s:Tp17) (v:Int):Option (Int):=
  zcF s v (0:Int)
theorem zoh (r2:Nat->Int->Option (Int)) (r2':Int->Option (Int)) (h_r2:∀ a0,ChO (fun κ=>r2 κ a0) (r2' a0)) (s:Tp17) (v:Int) (t:Int):ChO (fun κ=>zdu s v (r2 κ) t) (zdu s v r2' t):=by
  unfold zdu
  repeat' with_reducible first | exact ChO.const _ | exact h_r2 _ | apply ChO.ite | apply ChO.G | apply ChO.both | (apply ChO.bind;intro _)
theorem zpS  (s:Tp17) (v:Int):Cn (zkY s v):=fun g h hg x=>zoh  (fun κ t=>g κ t) (fun t=>h t) (fun t=>hg t) s v x
theorem zfP  (s:Tp17) (v:Int) (t:Int):zcF s v t=zdu s v (zcF s v) t:=zaz (zpS s v) t

def zi4 (s:Tp17) (v:Int):Option (Bool):=
  (zeS s v).bind (fun y'=>
  some (decide ((0:Int)<=y')))

def zbl (t:Int) (r3:(Int->Int->Int->Tp12->Tp15->Option Tp5)) (w_6:Int) (w_7:Int) (w_8:Tp12) (l_2:Tp15):Option Tp5:=
  G (fits (t+(1:Int))) (
  r3 (t+(1:Int)) w_6 w_7 w_8 l_2)
def zb1 (l_1:Tp15) (r9:Tf3) (t_1:Int) (w_9:Int) (w_10:Int) (w_11:Tp12) (t_2:Tp15):Option Tp5:=
  if (decide (t_1 < (l_1.length:Int)))=true then
  G (0<=t_1/\t_1 < (t_2.length:Int)) (
  G ((t_1).toNat < t_2.length) (
  G ((t_1).toNat < t_2.length) (
  if (decide (((ix t_2 t_1).length:Int)=(0:Int)))=true then
  G (0<=t_1/\t_1 < (t_2.length:Int)) (
  G (fits (t_1+(1:Int))) (
  r9 (t_1+(1:Int)) w_9 w_10 w_11 (t_2.set (t_1).toNat ([t_1])))) else
  G (fits (t_1+(1:Int))) (
  r9 (t_1+(1:Int)) w_9 w_10 w_11 t_2)))) else
  some ((w_9,(w_10,(w_11,()))),(t_2,()))
def zkn (l_1:Tp15):(Int×Int×Int×Tp12×Tp15->Option Tp5)->Int×Int×Int×Tp12×Tp15->Option Tp5:=
  fun rec x=>zb1 l_1 (fun t_1 w_9 w_10 w_11 t_2=>rec (t_1,w_9,w_10,w_11,t_2)) x.1 x.2.1 x.2.2.1 x.2.2.2.1 x.2.2.2.2
def zcC (l_1:Tp15) (t_1:Int) (w_9:Int) (w_10:Int) (w_11:Tp12) (t_2:Tp15):Option Tp5:=LFix (zkn l_1 ) (t_1,w_9,w_10,w_11,t_2)
def zb0 (g':Tp7) (r3:Tf3) (t:Int) (w_3:Int) (w_4:Int) (w_5:Tp12) (l_1:Tp15):Option Tp5:=
  if (decide (t < (g'.2.2.1.length:Int)))=true then
  G (0<=t/\t < (g'.2.2.1.length:Int)) (
  G (0<=(ix g'.2.2.1 t).1/\(ix g'.2.2.1 t).1 < (l_1.length:Int)) (
  G (((ix g'.2.2.1 t).1).toNat < l_1.length) (
  G (((ix g'.2.2.1 t).1).toNat < l_1.length) (
  (zi4 (ix l_1 ((ix g'.2.2.1 t).1)) ((((ix g'.2.2.1 t).2).2).1)).bind (fun y'=>
  if (!y')=true then
  G (0<=(ix g'.2.2.1 t).1/\(ix g'.2.2.1 t).1 < (l_1.length:Int)) (
  G (((ix g'.2.2.1 t).1).toNat < l_1.length) (
  both [Tc1] (
  both [Tc1] (
  G (((ix g'.2.2.1 t).1).toNat < l_1.length) (
  G (room (ix l_1 ((ix g'.2.2.1 t).1)) ([(((ix g'.2.2.1 t).2).2).1]) 8) (
  G (0<=(ix g'.2.2.1 t).1/\(ix g'.2.2.1 t).1 < (l_1.length:Int)) (
  G (((ix g'.2.2.1 t).1).toNat=((ix g'.2.2.1 t).1).toNat) (
  zbl t r3 w_3 w_4 w_5 (l_1.set ((ix g'.2.2.1 t).1).toNat ((ix l_1 ((ix g'.2.2.1 t).1))++([(((ix g'.2.2.1 t).2).2).1])))))))) (
  G (((ix g'.2.2.1 t).1).toNat < l_1.length) (
  G (room (ix l_1 ((ix g'.2.2.1 t).1)) ([(((ix g'.2.2.1 t).2).2).1]) 8) (
  G (0<=(ix g'.2.2.1 t).1/\(ix g'.2.2.1 t).1 < (l_1.length:Int)) (
  G (((ix g'.2.2.1 t).1).toNat=((ix g'.2.2.1 t).1).toNat) (
  zbl t r3 w_3 w_4 w_5 (l_1.set ((ix g'.2.2.1 t).1).toNat ((ix l_1 ((ix g'.2.2.1 t).1))++([(((ix g'.2.2.1 t).2).2).1]))))))))) (
  both [Tc1] (
  G (((ix g'.2.2.1 t).1).toNat < l_1.length) (
  G (room (ix l_1 ((ix g'.2.2.1 t).1)) ([(((ix g'.2.2.1 t).2).2).1]) 8) (
  G (0<=(ix g'.2.2.1 t).1/\(ix g'.2.2.1 t).1 < (l_1.length:Int)) (
  G (((ix g'.2.2.1 t).1).toNat=((ix g'.2.2.1 t).1).toNat) (
  zbl t r3 w_3 w_4 w_5 (l_1.set ((ix g'.2.2.1 t).1).toNat ((ix l_1 ((ix g'.2.2.1 t).1))++([(((ix g'.2.2.1 t).2).2).1])))))))) (
  G (((ix g'.2.2.1 t).1).toNat < l_1.length) (
  G (room (ix l_1 ((ix g'.2.2.1 t).1)) ([(((ix g'.2.2.1 t).2).2).1]) 8) (
  G (0<=(ix g'.2.2.1 t).1/\(ix g'.2.2.1 t).1 < (l_1.length:Int)) (
  G (((ix g'.2.2.1 t).1).toNat=((ix g'.2.2.1 t).1).toNat) (
  zbl t r3 w_3 w_4 w_5 (l_1.set ((ix g'.2.2.1 t).1).toNat ((ix l_1 ((ix g'.2.2.1 t).1))++([(((ix g'.2.2.1 t).2).2).1]))))))))))) else
  zbl t r3 w_3 w_4 w_5 l_1))))) else
  zcC l_1 (0:Int) w_3 w_4 w_5 l_1
def zkm (g':Tp7):(Int×Int×Int×Tp12×Tp15->Option Tp5)->Int×Int×Int×Tp12×Tp15->Option Tp5:=
  fun rec x=>zb0 g' (fun t w_3 w_4 w_5 l_1=>rec (t,w_3,w_4,w_5,l_1)) x.1 x.2.1 x.2.2.1 x.2.2.2.1 x.2.2.2.2
def zcB (g':Tp7) (t:Int) (w_3:Int) (w_4:Int) (w_5:Tp12) (l_1:Tp15):Option Tp5:=LFix (zkm g' ) (t,w_3,w_4,w_5,l_1)
def zfv (g':Tp7) (w:Int) (w_1:Int) (w_2:Tp12) (l:Tp15):Option Tp5:=
  zcB g' (0:Int) w w_1 w_2 l
def zca (g':Tp7):Option Tp5:=
  both [Tc1] (
  G (mkOK g'.2.1 g'.2.1 24) (
  zfv g' g'.1 g'.2.1 g'.2.2.1 (List.replicate (g'.2.1).toNat ([]:List Int)))) (
  G (mkOK g'.2.1 g'.2.1 24) (
  zfv g' g'.1 g'.2.1 g'.2.2.1 (List.replicate (g'.2.1).toNat ([]:List Int))))
theorem zjQ (r3:Nat->Tf3) (r3':Tf3) (h_r3:∀ a0 a1 a2 a3 a4,ChO (fun κ=>r3 κ a0 a1 a2 a3 a4) (r3' a0 a1 a2 a3 a4)) (t:Int) (w_6:Int) (w_7:Int) (w_8:Tp12) (l_2:Tp15):ChO (fun κ=>zbl t (r3 κ) w_6 w_7 w_8 l_2) (zbl t r3' w_6 w_7 w_8 l_2):=by
  unfold zbl
  repeat' with_reducible first | exact ChO.const _ | exact h_r3 _ _ _ _ _ | apply ChO.ite | apply ChO.G | apply ChO.both | (apply ChO.bind;intro _)
theorem zod (r9:Nat->Tf3) (r9':Tf3) (h_r9:∀ a0 a1 a2 a3 a4,ChO (fun κ=>r9 κ a0 a1 a2 a3 a4) (r9' a0 a1 a2 a3 a4)) (l_1:Tp15) (t_1:Int) (w_9:Int) (w_10:Int) (w_11:Tp12) (t_2:Tp15):ChO (fun κ=>zb1 l_1 (r9 κ) t_1 w_9 w_10 w_11 t_2) (zb1 l_1 r9' t_1 w_9 w_10 w_11 t_2):=by
  unfold zb1
  repeat' with_reducible first | exact ChO.const _ | exact h_r9 _ _ _ _ _ | (apply zjQ<;>assumption) | apply ChO.ite | apply ChO.G | apply ChO.both | (apply ChO.bind;intro _)
theorem zpL  (l_1:Tp15):Cn (zkn l_1):=fun g h hg x=>zod  (fun κ t_1 w_9 w_10 w_11 t_2=>g κ (t_1,w_9,w_10,w_11,t_2)) (fun t_1 w_9 w_10 w_11 t_2=>h (t_1,w_9,w_10,w_11,t_2)) (fun t_1 w_9 w_10 w_11 t_2=>hg (t_1,w_9,w_10,w_11,t_2)) l_1 x.1 x.2.1 x.2.2.1 x.2.2.2.1 x.2.2.2.2
theorem zjS  (l_1:Tp15) (t_1:Int) (w_9:Int) (w_10:Int) (w_11:Tp12) (t_2:Tp15):zcC l_1 t_1 w_9 w_10 w_11 t_2=zb1 l_1 (zcC l_1) t_1 w_9 w_10 w_11 t_2:=zaz (zpL l_1) (t_1,w_9,w_10,w_11,t_2)
theorem zoc (r3:Nat->Tf3) (r3':Tf3) (h_r3:∀ a0 a1 a2 a3 a4,ChO (fun κ=>r3 κ a0 a1 a2 a3 a4) (r3' a0 a1 a2 a3 a4)) (g':Tp7) (t:Int) (w_3:Int) (w_4:Int) (w_5:Tp12) (l_1:Tp15):ChO (fun κ=>zb0 g' (r3 κ) t w_3 w_4 w_5 l_1) (zb0 g' r3' t w_3 w_4 w_5 l_1):=by
  unfold zb0
  repeat' with_reducible first | exact ChO.const _ | exact h_r3 _ _ _ _ _ | (apply zjQ<;>assumption) | apply ChO.ite | apply ChO.G | apply ChO.both | (apply ChO.bind;intro _)
theorem zpK  (g':Tp7):Cn (zkm g'):=fun g h hg x=>zoc  (fun κ t w_3 w_4 w_5 l_1=>g κ (t,w_3,w_4,w_5,l_1)) (fun t w_3 w_4 w_5 l_1=>h (t,w_3,w_4,w_5,l_1)) (fun t w_3 w_4 w_5 l_1=>hg (t,w_3,w_4,w_5,l_1)) g' x.1 x.2.1 x.2.2.1 x.2.2.2.1 x.2.2.2.2
theorem zjR  (g':Tp7) (t:Int) (w_3:Int) (w_4:Int) (w_5:Tp12) (l_1:Tp15):zcB g' t w_3 w_4 w_5 l_1=zb0 g' (zcB g') t w_3 w_4 w_5 l_1:=zaz (zpK g') (t,w_3,w_4,w_5,l_1)

def zdQ (t:Int) (t_1:(Tr Tp13)):Option (Bool):=
  G (t_1.isMk=true) (
  some (decide (((t_1.val (0,(false,(0,())))).1)=(49:Int))))

def zcg (w:Tp5) (c:(Tr Tp13)) (r3:Int->Tp16->Option Tp16) (t:Int) (out:Tp16):Option Tp16:=
  if (decide (t < ((List.replicate (w.1.2.1).toNat (false:Bool)).length:Int)))=true then
  (zdQ t c).bind (fun y'=>
  G (0<=t/\t < (out.length:Int)) (
  G ((t).toNat < out.length) (
  G (fits (t+(1:Int))) (
  r3 (t+(1:Int)) (out.set (t).toNat y'))))) else
  some out
def zhJ (w:Tp5) (c:(Tr Tp13)):(Int×Tp16->Option Tp16)->Int×Tp16->Option Tp16:=
  fun rec x=>zcg w c (fun t out=>rec (t,out)) x.1 x.2
def zdM (w:Tp5) (c:(Tr Tp13)) (t:Int) (out:Tp16):Option Tp16:=LFix (zhJ w c ) (t,out)
def zdJ (w:Tp5) (c:(Tr Tp13)):Option Tp16:=
  G (mkOK w.1.2.1 w.1.2.1 1) (
  zdM w c (0:Int) (List.replicate (w.1.2.1).toNat (false:Bool)))
theorem zld (r3:Nat->Int->Tp16->Option Tp16) (r3':Int->Tp16->Option Tp16) (h_r3:∀ a0 a1,ChO (fun κ=>r3 κ a0 a1) (r3' a0 a1)) (w:Tp5) (c:(Tr Tp13)) (t:Int) (out:Tp16):ChO (fun κ=>zcg w c (r3 κ) t out) (zcg w c r3' t out):=by
  unfold zcg
  repeat' with_reducible first | exact ChO.const _ | exact h_r3 _ _ | apply ChO.ite | apply ChO.G | apply ChO.both | (apply ChO.bind;intro _)
theorem zmm  (w:Tp5) (c:(Tr Tp13)):Cn (zhJ w c):=fun g h hg x=>zld  (fun κ t out=>g κ (t,out)) (fun t out=>h (t,out)) (fun t out=>hg (t,out)) w c x.1 x.2
theorem zmn  (w:Tp5) (c:(Tr Tp13)) (t:Int) (out:Tp16):zdM w c t out=zcg w c (zdM w c) t out:=zaz (zmm w c) (t,out)

def zch (x':Tp14) (t:Int) (t_1:(Tr Tp13)):Option (Bool):=
  if (decide (x'.1=t))=true then
  G (t_1.isMk=true) (
  some (decide (x'.2.1=((t_1.val (0,(false,(0,())))).2.2.1)))) else
  some false

def zcr (s:Tp12) (c:Int) (c_1:(Tr Tp13)) (r2:Int->Option (Int)) (t:Int):Option (Int):=
  if (decide (t < (s.length:Int)))=true then
  G (0<=t/\t < (s.length:Int)) (
  (zch (ix s t) c c_1).bind (fun y'=>
  if y'=true then
  some t else
  G (fits (t+(1:Int))) (
  r2 (t+(1:Int))))) else
  some (-1:Int)
def zig (s:Tp12) (c:Int) (c_1:(Tr Tp13)):(Int->Option (Int))->Int->Option (Int):=
  fun rec x=>zcr s c c_1 (fun t=>rec t) x
def zd5 (s:Tp12) (c:Int) (c_1:(Tr Tp13)) (t:Int):Option (Int):=LFix (zig s c c_1 ) t
def zif (s:Tp12) (c:Int) (c_1:(Tr Tp13)):Option (Int):=
  zd5 s c c_1 (0:Int)
theorem zlk (r2:Nat->Int->Option (Int)) (r2':Int->Option (Int)) (h_r2:∀ a0,ChO (fun κ=>r2 κ a0) (r2' a0)) (s:Tp12) (c:Int) (c_1:(Tr Tp13)) (t:Int):ChO (fun κ=>zcr s c c_1 (r2 κ) t) (zcr s c c_1 r2' t):=by
  unfold zcr
  repeat' with_reducible first | exact ChO.const _ | exact h_r2 _ | apply ChO.ite | apply ChO.G | apply ChO.both | (apply ChO.bind;intro _)
theorem zm0  (s:Tp12) (c:Int) (c_1:(Tr Tp13)):Cn (zig s c c_1):=fun g h hg x=>zlk  (fun κ t=>g κ t) (fun t=>h t) (fun t=>hg t) s c c_1 x
theorem zm1  (s:Tp12) (c:Int) (c_1:(Tr Tp13)) (t:Int):zd5 s c c_1 t=zcr s c c_1 (zd5 s c c_1) t:=zaz (zm0 s c c_1) t

def zd3 (s:Tp12) (c:Int) (c_1:(Tr Tp13)):Option (Bool):=
  (zif s c c_1).bind (fun y'=>
  some (decide ((0:Int)<=y')))

def zdR (p:Int) (t:(Tr Tp13)) (c:Tp5):Option Tp4:=
  (zd3 c.1.2.2.1 p t).bind (fun y'=>
  some (y',c))

def za4 (w:Tp5) (r3:(Tr Tp13)->Int->Tp5->Tp16->Option Tp3) (rule:(Tr Tp13)) (t:Int) (l:Tp5) (out:Tp16):Option Tp3:=
  if (decide (t < ((List.replicate (w.1.2.1).toNat (false:Bool)).length:Int)))=true then
  (zdR t rule l).bind (fun y'_3=>
  G (0<=t/\t < (out.length:Int)) (
  G ((t).toNat < out.length) (
  G (fits (t+(1:Int))) (
  r3 rule (t+(1:Int)) y'_3.2 (out.set (t).toNat y'_3.1))))) else
  some (out,l)
def zfX (w:Tp5):((Tr Tp13)×Int×Tp5×Tp16->Option Tp3)->(Tr Tp13)×Int×Tp5×Tp16->Option Tp3:=
  fun rec x=>za4 w (fun rule t l out=>rec (rule,t,l,out)) x.1 x.2.1 x.2.2.1 x.2.2.2
def zcd (w:Tp5) (rule:(Tr Tp13)) (t:Int) (l:Tp5) (out:Tp16):Option Tp3:=LFix (zfX w ) (rule,t,l,out)
def zej (w:Tp5) (c:(Tr Tp13)) (c_1:Tp5):Option Tp3:=
  G (mkOK w.1.2.1 w.1.2.1 1) (
  zcd w c (0:Int) c_1 (List.replicate (w.1.2.1).toNat (false:Bool)))
theorem zjZ (r3:Nat->(Tr Tp13)->Int->Tp5->Tp16->Option Tp3) (r3':(Tr Tp13)->Int->Tp5->Tp16->Option Tp3) (h_r3:∀ a0 a1 a2 a3,ChO (fun κ=>r3 κ a0 a1 a2 a3) (r3' a0 a1 a2 a3)) (w:Tp5) (rule:(Tr Tp13)) (t:Int) (l:Tp5) (out:Tp16):ChO (fun κ=>za4 w (r3 κ) rule t l out) (za4 w r3' rule t l out):=by
  unfold za4
  repeat' with_reducible first | exact ChO.const _ | exact h_r3 _ _ _ _ | apply ChO.ite | apply ChO.G | apply ChO.both | (apply ChO.bind;intro _)
theorem zk2  (w:Tp5):Cn (zfX w):=fun g h hg x=>zjZ  (fun κ rule t l out=>g κ (rule,t,l,out)) (fun rule t l out=>h (rule,t,l,out)) (fun rule t l out=>hg (rule,t,l,out)) w x.1 x.2.1 x.2.2.1 x.2.2.2
theorem zfG  (w:Tp5) (rule:(Tr Tp13)) (t:Int) (l:Tp5) (out:Tp16):zcd w rule t l out=za4 w (zcd w) rule t l out:=zaz (zk2 w) (rule,t,l,out)

def zhs (s:Tp16):Option Tp16:=
  if s.length=0 then both [(.list .bool)] (
  some ([])) (
  G (room ([]:List Bool) s 1) (
  some (([]:List Bool)++s))) else
  G (room ([]:List Bool) s 1) (
  some (([]:List Bool)++s))

def zdk (a:Tp16) (r3:Int->Tp16->Option Tp16) (t:Int) (out:Tp16):Option Tp16:=
  if (decide (t < (a.length:Int)))=true then
  G (0<=t/\t < (a.length:Int)) (
  G (0<=t/\t < (out.length:Int)) (
  G ((t).toNat < out.length) (
  G (fits (t+(1:Int))) (
  r3 (t+(1:Int)) (out.set (t).toNat (!(ix a t))))))) else
  some out
def zol (a:Tp16):(Int×Tp16->Option Tp16)->Int×Tp16->Option Tp16:=
  fun rec x=>zdk a (fun t out=>rec (t,out)) x.1 x.2
def zfu (a:Tp16) (t:Int) (out:Tp16):Option Tp16:=LFix (zol a ) (t,out)
def zcR (a:Tp16):Option Tp16:=
  (zhs a).bind (fun y'=>
  zfu a (0:Int) y')
theorem zqJ (r3:Nat->Int->Tp16->Option Tp16) (r3':Int->Tp16->Option Tp16) (h_r3:∀ a0 a1,ChO (fun κ=>r3 κ a0 a1) (r3' a0 a1)) (a:Tp16) (t:Int) (out:Tp16):ChO (fun κ=>zdk a (r3 κ) t out) (zdk a r3' t out):=by
  unfold zdk
  repeat' with_reducible first | exact ChO.const _ | exact h_r3 _ _ | apply ChO.ite | apply ChO.G | apply ChO.both | (apply ChO.bind;intro _)
theorem ztg  (a:Tp16):Cn (zol a):=fun g h hg x=>zqJ  (fun κ t out=>g κ (t,out)) (fun t out=>h (t,out)) (fun t out=>hg (t,out)) a x.1 x.2
theorem znI  (a:Tp16) (t:Int) (out:Tp16):zfu a t out=zdk a (zfu a) t out:=zaz (ztg a) (t,out)

def zdS (p:Int) (t:Tp16) (t_1:Tp16):Option (Bool):=
  G (0<=p/\p < (t.length:Int)) (
  if (ix t p)=true then
  G (0<=p/\p < (t_1.length:Int)) (
  some (ix t_1 p)) else
  some false)

def zbQ (w:Tp5) (c:Tp16) (c_1:Tp16) (r3:Int->Tp16->Option Tp16) (t:Int) (out:Tp16):Option Tp16:=
  if (decide (t < ((List.replicate (w.1.2.1).toNat (false:Bool)).length:Int)))=true then
  (zdS t c c_1).bind (fun y'=>
  G (0<=t/\t < (out.length:Int)) (
  G ((t).toNat < out.length) (
  G (fits (t+(1:Int))) (
  r3 (t+(1:Int)) (out.set (t).toNat y'))))) else
  some out
def zfY (w:Tp5) (c:Tp16) (c_1:Tp16):(Int×Tp16->Option Tp16)->Int×Tp16->Option Tp16:=
  fun rec x=>zbQ w c c_1 (fun t out=>rec (t,out)) x.1 x.2
def zc4 (w:Tp5) (c:Tp16) (c_1:Tp16) (t:Int) (out:Tp16):Option Tp16:=LFix (zfY w c c_1 ) (t,out)
def zek (w:Tp5) (c:Tp16) (c_1:Tp16):Option Tp16:=
  G (mkOK w.1.2.1 w.1.2.1 1) (
  zc4 w c c_1 (0:Int) (List.replicate (w.1.2.1).toNat (false:Bool)))
theorem zj0 (r3:Nat->Int->Tp16->Option Tp16) (r3':Int->Tp16->Option Tp16) (h_r3:∀ a0 a1,ChO (fun κ=>r3 κ a0 a1) (r3' a0 a1)) (w:Tp5) (c:Tp16) (c_1:Tp16) (t:Int) (out:Tp16):ChO (fun κ=>zbQ w c c_1 (r3 κ) t out) (zbQ w c c_1 r3' t out):=by
  unfold zbQ
  repeat' with_reducible first | exact ChO.const _ | exact h_r3 _ _ | apply ChO.ite | apply ChO.G | apply ChO.both | (apply ChO.bind;intro _)
theorem zk3  (w:Tp5) (c:Tp16) (c_1:Tp16):Cn (zfY w c c_1):=fun g h hg x=>zj0  (fun κ t out=>g κ (t,out)) (fun t out=>h (t,out)) (fun t out=>hg (t,out)) w c c_1 x.1 x.2
theorem zk4  (w:Tp5) (c:Tp16) (c_1:Tp16) (t:Int) (out:Tp16):zc4 w c c_1 t out=zbQ w c c_1 (zc4 w c c_1) t out:=zaz (zk3 w c c_1) (t,out)

def zdT (p:Int) (t:Tp16) (t_1:Tp16):Option (Bool):=
  G (0<=p/\p < (t.length:Int)) (
  if (ix t p)=true then
  some true else
  G (0<=p/\p < (t_1.length:Int)) (
  some (ix t_1 p)))

def zbR (w:Tp5) (c:Tp16) (c_1:Tp16) (r3:Int->Tp16->Option Tp16) (t:Int) (out:Tp16):Option Tp16:=
  if (decide (t < ((List.replicate (w.1.2.1).toNat (false:Bool)).length:Int)))=true then
  (zdT t c c_1).bind (fun y'=>
  G (0<=t/\t < (out.length:Int)) (
  G ((t).toNat < out.length) (
  G (fits (t+(1:Int))) (
  r3 (t+(1:Int)) (out.set (t).toNat y'))))) else
  some out
def zfZ (w:Tp5) (c:Tp16) (c_1:Tp16):(Int×Tp16->Option Tp16)->Int×Tp16->Option Tp16:=
  fun rec x=>zbR w c c_1 (fun t out=>rec (t,out)) x.1 x.2
def zc5 (w:Tp5) (c:Tp16) (c_1:Tp16) (t:Int) (out:Tp16):Option Tp16:=LFix (zfZ w c c_1 ) (t,out)
def zel (w:Tp5) (c:Tp16) (c_1:Tp16):Option Tp16:=
  G (mkOK w.1.2.1 w.1.2.1 1) (
  zc5 w c c_1 (0:Int) (List.replicate (w.1.2.1).toNat (false:Bool)))
theorem zj1 (r3:Nat->Int->Tp16->Option Tp16) (r3':Int->Tp16->Option Tp16) (h_r3:∀ a0 a1,ChO (fun κ=>r3 κ a0 a1) (r3' a0 a1)) (w:Tp5) (c:Tp16) (c_1:Tp16) (t:Int) (out:Tp16):ChO (fun κ=>zbR w c c_1 (r3 κ) t out) (zbR w c c_1 r3' t out):=by
  unfold zbR
  repeat' with_reducible first | exact ChO.const _ | exact h_r3 _ _ | apply ChO.ite | apply ChO.G | apply ChO.both | (apply ChO.bind;intro _)
theorem zk5  (w:Tp5) (c:Tp16) (c_1:Tp16):Cn (zfZ w c c_1):=fun g h hg x=>zj1  (fun κ t out=>g κ (t,out)) (fun t out=>h (t,out)) (fun t out=>hg (t,out)) w c c_1 x.1 x.2
theorem zk6  (w:Tp5) (c:Tp16) (c_1:Tp16) (t:Int) (out:Tp16):zc5 w c c_1 t out=zbR w c c_1 (zc5 w c c_1) t out:=zaz (zk5 w c c_1) (t,out)

def zcL (q:Int) (t:Tp16):Option (Bool):=
  G (0<=q/\q < (t.length:Int)) (
  some (ix t q))

def zcs (s:Tp17) (c:Tp16) (r2:Int->Option (Int)) (t:Int):Option (Int):=
  if (decide (t < (s.length:Int)))=true then
  G (0<=t/\t < (s.length:Int)) (
  (zcL (ix s t) c).bind (fun y'=>
  if y'=true then
  some t else
  G (fits (t+(1:Int))) (
  r2 (t+(1:Int))))) else
  some (-1:Int)
def zii (s:Tp17) (c:Tp16):(Int->Option (Int))->Int->Option (Int):=
  fun rec x=>zcs s c (fun t=>rec t) x
def zd6 (s:Tp17) (c:Tp16) (t:Int):Option (Int):=LFix (zii s c ) t
def zih (s:Tp17) (c:Tp16):Option (Int):=
  zd6 s c (0:Int)
theorem zll (r2:Nat->Int->Option (Int)) (r2':Int->Option (Int)) (h_r2:∀ a0,ChO (fun κ=>r2 κ a0) (r2' a0)) (s:Tp17) (c:Tp16) (t:Int):ChO (fun κ=>zcs s c (r2 κ) t) (zcs s c r2' t):=by
  unfold zcs
  repeat' with_reducible first | exact ChO.const _ | exact h_r2 _ | apply ChO.ite | apply ChO.G | apply ChO.both | (apply ChO.bind;intro _)
theorem zm2  (s:Tp17) (c:Tp16):Cn (zii s c):=fun g h hg x=>zll  (fun κ t=>g κ t) (fun t=>h t) (fun t=>hg t) s c x
theorem zm3  (s:Tp17) (c:Tp16) (t:Int):zd6 s c t=zcs s c (zd6 s c) t:=zaz (zm2 s c) t

def zd4 (s:Tp17) (c:Tp16):Option (Bool):=
  (zih s c).bind (fun y'=>
  some (decide ((0:Int)<=y')))

def zcz (w:Tp5) (p:Int) (a:Tp16):Option (Bool):=
  G (0<=p/\p < (w.2.1.length:Int)) (
  (zd4 (ix w.2.1 p) a).bind (fun y'=>
  some y'))

def zb8 (s1:Tp16) (s2:Tp16) (r4:Int->Option (Bool)) (t:Int):Option (Bool):=
  if (decide (t < (s1.length:Int)))=true then
  G (0<=t/\t < (s1.length:Int)) (
  G (0<=t/\t < (s2.length:Int)) (
  if (decide (¬ (ix s1 t)=(ix s2 t)))=true then
  some false else
  G (fits (t+(1:Int))) (
  r4 (t+(1:Int))))) else
  some true
def zmZ (s1:Tp16) (s2:Tp16):(Int->Option (Bool))->Int->Option (Bool):=
  fun rec x=>zb8 s1 s2 (fun t=>rec t) x
def zkV (s1:Tp16) (s2:Tp16) (t:Int):Option (Bool):=LFix (zmZ s1 s2 ) t
def zjB (s1:Tp16) (s2:Tp16):Option (Bool):=
  if (decide (¬ (s1.length:Int)=(s2.length:Int)))=true then
  some false else
  zkV s1 s2 (0:Int)
theorem zpR (r4:Nat->Int->Option (Bool)) (r4':Int->Option (Bool)) (h_r4:∀ a0,ChO (fun κ=>r4 κ a0) (r4' a0)) (s1:Tp16) (s2:Tp16) (t:Int):ChO (fun κ=>zb8 s1 s2 (r4 κ) t) (zb8 s1 s2 r4' t):=by
  unfold zb8
  repeat' with_reducible first | exact ChO.const _ | exact h_r4 _ | apply ChO.ite | apply ChO.G | apply ChO.both | (apply ChO.bind;intro _)
theorem zr3  (s1:Tp16) (s2:Tp16):Cn (zmZ s1 s2):=fun g h hg x=>zpR  (fun κ t=>g κ t) (fun t=>h t) (fun t=>hg t) s1 s2 x
theorem zie  (s1:Tp16) (s2:Tp16) (t:Int):zkV s1 s2 t=zb8 s1 s2 (zkV s1 s2) t:=zaz (zr3 s1 s2) t

def zc8 (p:Int) (c:Tp16) (c_1:Tp5) (l:Tp16):Option (Bool×Tp16×Tp16×Tp7×Tp15×Unit):=
  G (0<=p/\p < (l.length:Int)) (
  G ((p).toNat < l.length) (
  if (ix l p)=true then
  some (true,l,c,c_1) else
  G (0<=p/\p < (c.length:Int)) (
  if (ix c p)=true then
  (zcz c_1 p l).bind (fun y'=>
  some (y',l,c,c_1)) else
  some (false,l,c,c_1))))

def za5 (w:Tp5) (r3:Tf2) (t:Int) (l_1:Tp16) (l_2:Tp5) (out:Tp16) (l_3:Tp16):Option Tp1:=
  if (decide (t < ((List.replicate (w.1.2.1).toNat (false:Bool)).length:Int)))=true then
  (zc8 t l_1 l_2 l_3).bind (fun y'_5=>
  G (0<=t/\t < (out.length:Int)) (
  G ((t).toNat < out.length) (
  G (fits (t+(1:Int))) (
  r3 (t+(1:Int)) y'_5.2.2.1 y'_5.2.2.2 (out.set (t).toNat y'_5.1) y'_5.2.1)))) else
  some (out,l_3,l_1,l_2)
def zf0 (w:Tp5):(Int×Tp16×Tp5×Tp16×Tp16->Option Tp1)->Int×Tp16×Tp5×Tp16×Tp16->Option Tp1:=
  fun rec x=>za5 w (fun t l_1 l_2 out l_3=>rec (t,l_1,l_2,out,l_3)) x.1 x.2.1 x.2.2.1 x.2.2.2.1 x.2.2.2.2
def zce (w:Tp5) (t:Int) (l_1:Tp16) (l_2:Tp5) (out:Tp16) (l_3:Tp16):Option Tp1:=LFix (zf0 w ) (t,l_1,l_2,out,l_3)
def zem (w:Tp5) (c:Tp16) (c_1:Tp5) (l:Tp16):Option Tp1:=
  G (mkOK w.1.2.1 w.1.2.1 1) (
  zce w (0:Int) c c_1 (List.replicate (w.1.2.1).toNat (false:Bool)) l)
theorem zj2 (r3:Nat->Tf2) (r3':Tf2) (h_r3:∀ a0 a1 a2 a3 a4,ChO (fun κ=>r3 κ a0 a1 a2 a3 a4) (r3' a0 a1 a2 a3 a4)) (w:Tp5) (t:Int) (l_1:Tp16) (l_2:Tp5) (out:Tp16) (l_3:Tp16):ChO (fun κ=>za5 w (r3 κ) t l_1 l_2 out l_3) (za5 w r3' t l_1 l_2 out l_3):=by
  unfold za5
  repeat' with_reducible first | exact ChO.const _ | exact h_r3 _ _ _ _ _ | apply ChO.ite | apply ChO.G | apply ChO.both | (apply ChO.bind;intro _)
theorem zk7  (w:Tp5):Cn (zf0 w):=fun g h hg x=>zj2  (fun κ t l_1 l_2 out l_3=>g κ (t,l_1,l_2,out,l_3)) (fun t l_1 l_2 out l_3=>h (t,l_1,l_2,out,l_3)) (fun t l_1 l_2 out l_3=>hg (t,l_1,l_2,out,l_3)) w x.1 x.2.1 x.2.2.1 x.2.2.2.1 x.2.2.2.2
theorem zfH  (w:Tp5) (t:Int) (l_1:Tp16) (l_2:Tp5) (out:Tp16) (l_3:Tp16):zce w t l_1 l_2 out l_3=za5 w (zce w) t l_1 l_2 out l_3:=zaz (zk7 w) (t,l_1,l_2,out,l_3)

def zbw  (r2:Tf8) (w_1:Tp5) (a_1:Tp16) (l:Tp16):Option Tp16:=
  (zem w_1 a_1 w_1 l).bind (fun y'_7=>
  (zjB y'_7.1 y'_7.2.1).bind (fun y'_6=>
  if y'_6=true then
  some y'_7.2.1 else
  r2 y'_7.2.2.2 y'_7.2.2.1 y'_7.1))
def zhe:(Tp5×Tp16×Tp16->Option Tp16)->Tp5×Tp16×Tp16->Option Tp16:=
  fun rec x=>zbw (fun w_1 a_1 l=>rec (w_1,a_1,l)) x.1 x.2.1 x.2.2
def zdz  (w_1:Tp5) (a_1:Tp16) (l:Tp16):Option Tp16:=LFix (zhe ) (w_1,a_1,l)
def zaT (w:Tp5) (a:Tp16) (b:Tp16):Option Tp16:=
  (zhs b).bind (fun y'=>
  zdz w a y')
theorem zkl (r2:Nat->Tf8) (r2':Tf8) (h_r2:∀ a0 a1 a2,ChO (fun κ=>r2 κ a0 a1 a2) (r2' a0 a1 a2)) (w_1:Tp5) (a_1:Tp16) (l:Tp16):ChO (fun κ=>zbw (r2 κ) w_1 a_1 l) (zbw r2' w_1 a_1 l):=by
  unfold zbw
  repeat' with_reducible first | exact ChO.const _ | exact h_r2 _ _ _ | apply ChO.ite | apply ChO.G | apply ChO.both | (apply ChO.bind;intro _)
theorem zl1:Cn (zhe):=fun g h hg x=>zkl  (fun κ w_1 a_1 l=>g κ (w_1,a_1,l)) (fun w_1 a_1 l=>h (w_1,a_1,l)) (fun w_1 a_1 l=>hg (w_1,a_1,l))  x.1 x.2.1 x.2.2
theorem zl2   (w_1:Tp5) (a_1:Tp16) (l:Tp16):zdz w_1 a_1 l=zbw (zdz) w_1 a_1 l:=zaz (zl1 ) (w_1,a_1,l)

def zdw (p:Int) (c:Tp5) (l:Tp16):Option (Bool×Tp16×Tp7×Tp15×Unit):=
  G (0<=p/\p < (l.length:Int)) (
  G ((p).toNat < l.length) (
  if (ix l p)=true then
  (zcz c p l).bind (fun y'=>
  some (y',l,c)) else
  some (false,l,c)))

def za6 (w:Tp5) (r3:Tf6) (t:Int) (l_1:Tp5) (out:Tp16) (l_2:Tp16):Option Tp2:=
  if (decide (t < ((List.replicate (w.1.2.1).toNat (false:Bool)).length:Int)))=true then
  (zdw t l_1 l_2).bind (fun y'_4=>
  G (0<=t/\t < (out.length:Int)) (
  G ((t).toNat < out.length) (
  G (fits (t+(1:Int))) (
  r3 (t+(1:Int)) y'_4.2.2 (out.set (t).toNat y'_4.1) y'_4.2.1)))) else
  some (out,l_2,l_1)
def zf1 (w:Tp5):(Int×Tp5×Tp16×Tp16->Option Tp2)->Int×Tp5×Tp16×Tp16->Option Tp2:=
  fun rec x=>za6 w (fun t l_1 out l_2=>rec (t,l_1,out,l_2)) x.1 x.2.1 x.2.2.1 x.2.2.2
def zcf (w:Tp5) (t:Int) (l_1:Tp5) (out:Tp16) (l_2:Tp16):Option Tp2:=LFix (zf1 w ) (t,l_1,out,l_2)
def zen (w:Tp5) (c:Tp5) (l:Tp16):Option Tp2:=
  G (mkOK w.1.2.1 w.1.2.1 1) (
  zcf w (0:Int) c (List.replicate (w.1.2.1).toNat (false:Bool)) l)
theorem zj3 (r3:Nat->Tf6) (r3':Tf6) (h_r3:∀ a0 a1 a2 a3,ChO (fun κ=>r3 κ a0 a1 a2 a3) (r3' a0 a1 a2 a3)) (w:Tp5) (t:Int) (l_1:Tp5) (out:Tp16) (l_2:Tp16):ChO (fun κ=>za6 w (r3 κ) t l_1 out l_2) (za6 w r3' t l_1 out l_2):=by
  unfold za6
  repeat' with_reducible first | exact ChO.const _ | exact h_r3 _ _ _ _ | apply ChO.ite | apply ChO.G | apply ChO.both | (apply ChO.bind;intro _)
theorem zk8  (w:Tp5):Cn (zf1 w):=fun g h hg x=>zj3  (fun κ t l_1 out l_2=>g κ (t,l_1,out,l_2)) (fun t l_1 out l_2=>h (t,l_1,out,l_2)) (fun t l_1 out l_2=>hg (t,l_1,out,l_2)) w x.1 x.2.1 x.2.2.1 x.2.2.2
theorem zfI  (w:Tp5) (t:Int) (l_1:Tp5) (out:Tp16) (l_2:Tp16):zcf w t l_1 out l_2=za6 w (zcf w) t l_1 out l_2:=zaz (zk8 w) (t,l_1,out,l_2)

def zbE  (r2:Tp5->Tp16->Option Tp16) (w_1:Tp5) (l:Tp16):Option Tp16:=
  (zen w_1 w_1 l).bind (fun y'_6=>
  (zjB y'_6.1 y'_6.2.1).bind (fun y'_5=>
  if y'_5=true then
  some y'_6.2.1 else
  r2 y'_6.2.2 y'_6.1))
def zhK:(Tp5×Tp16->Option Tp16)->Tp5×Tp16->Option Tp16:=
  fun rec x=>zbE (fun w_1 l=>rec (w_1,l)) x.1 x.2
def zdN  (w_1:Tp5) (l:Tp16):Option Tp16:=LFix (zhK ) (w_1,l)
def zbM (w:Tp5) (a:Tp16):Option Tp16:=
  (zhs a).bind (fun y'=>
  zdN w y')
theorem zle (r2:Nat->Tp5->Tp16->Option Tp16) (r2':Tp5->Tp16->Option Tp16) (h_r2:∀ a0 a1,ChO (fun κ=>r2 κ a0 a1) (r2' a0 a1)) (w_1:Tp5) (l:Tp16):ChO (fun κ=>zbE (r2 κ) w_1 l) (zbE r2' w_1 l):=by
  unfold zbE
  repeat' with_reducible first | exact ChO.const _ | exact h_r2 _ _ | apply ChO.ite | apply ChO.G | apply ChO.both | (apply ChO.bind;intro _)
theorem zmo:Cn (zhK):=fun g h hg x=>zle  (fun κ w_1 l=>g κ (w_1,l)) (fun w_1 l=>h (w_1,l)) (fun w_1 l=>hg (w_1,l))  x.1 x.2
theorem zmp   (w_1:Tp5) (l:Tp16):zdN w_1 l=zbE (zdN) w_1 l:=zaz (zmo ) (w_1,l)

def zdU (p:Int) (t:Tp16) (t_1:Tp16):Option (Bool):=
  G (0<=p/\p < (t.length:Int)) (
  if (!(ix t p))=true then
  G (0<=p/\p < (t_1.length:Int)) (
  some (!(ix t_1 p))) else
  some false)

def zbS (w:Tp5) (c:Tp16) (c_1:Tp16) (r3:Int->Tp16->Option Tp16) (t:Int) (out:Tp16):Option Tp16:=
  if (decide (t < ((List.replicate (w.1.2.1).toNat (false:Bool)).length:Int)))=true then
  (zdU t c c_1).bind (fun y'=>
  G (0<=t/\t < (out.length:Int)) (
  G ((t).toNat < out.length) (
  G (fits (t+(1:Int))) (
  r3 (t+(1:Int)) (out.set (t).toNat y'))))) else
  some out
def zf2 (w:Tp5) (c:Tp16) (c_1:Tp16):(Int×Tp16->Option Tp16)->Int×Tp16->Option Tp16:=
  fun rec x=>zbS w c c_1 (fun t out=>rec (t,out)) x.1 x.2
def zc6 (w:Tp5) (c:Tp16) (c_1:Tp16) (t:Int) (out:Tp16):Option Tp16:=LFix (zf2 w c c_1 ) (t,out)
def zcw (w:Tp5) (c:Tp16) (c_1:Tp16):Option Tp16:=
  G (mkOK w.1.2.1 w.1.2.1 1) (
  zc6 w c c_1 (0:Int) (List.replicate (w.1.2.1).toNat (false:Bool)))
theorem zj4 (r3:Nat->Int->Tp16->Option Tp16) (r3':Int->Tp16->Option Tp16) (h_r3:∀ a0 a1,ChO (fun κ=>r3 κ a0 a1) (r3' a0 a1)) (w:Tp5) (c:Tp16) (c_1:Tp16) (t:Int) (out:Tp16):ChO (fun κ=>zbS w c c_1 (r3 κ) t out) (zbS w c c_1 r3' t out):=by
  unfold zbS
  repeat' with_reducible first | exact ChO.const _ | exact h_r3 _ _ | apply ChO.ite | apply ChO.G | apply ChO.both | (apply ChO.bind;intro _)
theorem zk9  (w:Tp5) (c:Tp16) (c_1:Tp16):Cn (zf2 w c c_1):=fun g h hg x=>zj4  (fun κ t out=>g κ (t,out)) (fun t out=>h (t,out)) (fun t out=>hg (t,out)) w c c_1 x.1 x.2
theorem zla  (w:Tp5) (c:Tp16) (c_1:Tp16) (t:Int) (out:Tp16):zc6 w c c_1 t out=zbS w c c_1 (zc6 w c c_1) t out:=zaz (zk9 w c c_1) (t,out)

def zdV (p:Int) (t:Tp16) (t_1:Tp16):Option (Bool):=
  G (0<=p/\p < (t.length:Int)) (
  if (!(ix t p))=true then
  G (0<=p/\p < (t_1.length:Int)) (
  some (!(ix t_1 p))) else
  some false)

def zbT (w:Tp5) (c:Tp16) (c_1:Tp16) (r3:Int->Tp16->Option Tp16) (t:Int) (out:Tp16):Option Tp16:=
  if (decide (t < ((List.replicate (w.1.2.1).toNat (false:Bool)).length:Int)))=true then
  (zdV t c c_1).bind (fun y'=>
  G (0<=t/\t < (out.length:Int)) (
  G ((t).toNat < out.length) (
  G (fits (t+(1:Int))) (
  r3 (t+(1:Int)) (out.set (t).toNat y'))))) else
  some out
def zf3 (w:Tp5) (c:Tp16) (c_1:Tp16):(Int×Tp16->Option Tp16)->Int×Tp16->Option Tp16:=
  fun rec x=>zbT w c c_1 (fun t out=>rec (t,out)) x.1 x.2
def zc7 (w:Tp5) (c:Tp16) (c_1:Tp16) (t:Int) (out:Tp16):Option Tp16:=LFix (zf3 w c c_1 ) (t,out)
def zeo (w:Tp5) (c:Tp16) (c_1:Tp16):Option Tp16:=
  G (mkOK w.1.2.1 w.1.2.1 1) (
  zc7 w c c_1 (0:Int) (List.replicate (w.1.2.1).toNat (false:Bool)))
theorem zj5 (r3:Nat->Int->Tp16->Option Tp16) (r3':Int->Tp16->Option Tp16) (h_r3:∀ a0 a1,ChO (fun κ=>r3 κ a0 a1) (r3' a0 a1)) (w:Tp5) (c:Tp16) (c_1:Tp16) (t:Int) (out:Tp16):ChO (fun κ=>zbT w c c_1 (r3 κ) t out) (zbT w c c_1 r3' t out):=by
  unfold zbT
  repeat' with_reducible first | exact ChO.const _ | exact h_r3 _ _ | apply ChO.ite | apply ChO.G | apply ChO.both | (apply ChO.bind;intro _)
theorem zlb  (w:Tp5) (c:Tp16) (c_1:Tp16):Cn (zf3 w c c_1):=fun g h hg x=>zj5  (fun κ t out=>g κ (t,out)) (fun t out=>h (t,out)) (fun t out=>hg (t,out)) w c c_1 x.1 x.2
theorem zlc  (w:Tp5) (c:Tp16) (c_1:Tp16) (t:Int) (out:Tp16):zc7 w c c_1 t out=zbT w c c_1 (zc7 w c c_1) t out:=zaz (zlb w c c_1) (t,out)

def zfg (p:Int) (t:Tp16) (c:Tp5):Option Tp4:=
  (zcz c p t).bind (fun y'=>
  some (y',c))

def zaY (w:Tp5) (r3:Tf5) (rule:Tp16) (t:Int) (l:Tp5) (out:Tp16):Option Tp3:=
  if (decide (t < ((List.replicate (w.1.2.1).toNat (false:Bool)).length:Int)))=true then
  (zfg t rule l).bind (fun y'_3=>
  G (0<=t/\t < (out.length:Int)) (
  G ((t).toNat < out.length) (
  G (fits (t+(1:Int))) (
  r3 rule (t+(1:Int)) y'_3.2 (out.set (t).toNat y'_3.1))))) else
  some (out,l)
def zfE (w:Tp5):(Tp16×Int×Tp5×Tp16->Option Tp3)->Tp16×Int×Tp5×Tp16->Option Tp3:=
  fun rec x=>zaY w (fun rule t l out=>rec (rule,t,l,out)) x.1 x.2.1 x.2.2.1 x.2.2.2
def zb6 (w:Tp5) (rule:Tp16) (t:Int) (l:Tp5) (out:Tp16):Option Tp3:=LFix (zfE w ) (rule,t,l,out)
def zdK (w:Tp5) (c:Tp16) (c_1:Tp5):Option Tp3:=
  G (mkOK w.1.2.1 w.1.2.1 1) (
  zb6 w c (0:Int) c_1 (List.replicate (w.1.2.1).toNat (false:Bool)))
theorem zjI (r3:Nat->Tf5) (r3':Tf5) (h_r3:∀ a0 a1 a2 a3,ChO (fun κ=>r3 κ a0 a1 a2 a3) (r3' a0 a1 a2 a3)) (w:Tp5) (rule:Tp16) (t:Int) (l:Tp5) (out:Tp16):ChO (fun κ=>zaY w (r3 κ) rule t l out) (zaY w r3' rule t l out):=by
  unfold zaY
  repeat' with_reducible first | exact ChO.const _ | exact h_r3 _ _ _ _ | apply ChO.ite | apply ChO.G | apply ChO.both | (apply ChO.bind;intro _)
theorem zkf  (w:Tp5):Cn (zfE w):=fun g h hg x=>zjI  (fun κ rule t l out=>g κ (rule,t,l,out)) (fun rule t l out=>h (rule,t,l,out)) (fun rule t l out=>hg (rule,t,l,out)) w x.1 x.2.1 x.2.2.1 x.2.2.2
theorem ze9  (w:Tp5) (rule:Tp16) (t:Int) (l:Tp5) (out:Tp16):zb6 w rule t l out=zaY w (zb6 w) rule t l out:=zaz (zkf w) (rule,t,l,out)

def zgK (t:Int):Option (Bool):=
  some true

def zbH (w:Tp5) (r3:Int->Tp16->Option Tp16) (t:Int) (out:Tp16):Option Tp16:=
  if (decide (t < ((List.replicate (w.1.2.1).toNat (false:Bool)).length:Int)))=true then
  (zgK t).bind (fun y'=>
  G (0<=t/\t < (out.length:Int)) (
  G ((t).toNat < out.length) (
  G (fits (t+(1:Int))) (
  r3 (t+(1:Int)) (out.set (t).toNat y'))))) else
  some out
def zfF (w:Tp5):(Int×Tp16->Option Tp16)->Int×Tp16->Option Tp16:=
  fun rec x=>zbH w (fun t out=>rec (t,out)) x.1 x.2
def zcT (w:Tp5) (t:Int) (out:Tp16):Option Tp16:=LFix (zfF w ) (t,out)
def zdL (w:Tp5):Option Tp16:=
  G (mkOK w.1.2.1 w.1.2.1 1) (
  zcT w (0:Int) (List.replicate (w.1.2.1).toNat (false:Bool)))
theorem zjJ (r3:Nat->Int->Tp16->Option Tp16) (r3':Int->Tp16->Option Tp16) (h_r3:∀ a0 a1,ChO (fun κ=>r3 κ a0 a1) (r3' a0 a1)) (w:Tp5) (t:Int) (out:Tp16):ChO (fun κ=>zbH w (r3 κ) t out) (zbH w r3' t out):=by
  unfold zbH
  repeat' with_reducible first | exact ChO.const _ | exact h_r3 _ _ | apply ChO.ite | apply ChO.G | apply ChO.both | (apply ChO.bind;intro _)
theorem zkg  (w:Tp5):Cn (zfF w):=fun g h hg x=>zjJ  (fun κ t out=>g κ (t,out)) (fun t out=>h (t,out)) (fun t out=>hg (t,out)) w x.1 x.2
theorem zkh  (w:Tp5) (t:Int) (out:Tp16):zcT w t out=zbH w (zcT w) t out:=zaz (zkg w) (t,out)

def zb7 (w:Tp5):Option Tp16:=
  (zdL w).bind (fun y'=>
  some y')

def zcj (w:Tp5) (never:Tp16) (bad:Tp16):Option Tp16:=
  (zeo w never bad).bind (fun y'_16=>
  some y'_16)
def zci (w:Tp5) (a:Tp16) (b:Tp16) (never:Tp16):Option Tp16:=
  both [(.list .bool)] (
  (zcR b).bind (fun y'_13=>
  both [(.list .bool)] (
  (zcw w a b).bind (fun y'_14=>
  both [(.list .bool)] (
  (zaT w y'_13 y'_14).bind (fun y'_15=>
  zcj w never y'_15)) (
  (zaT w y'_13 y'_14).bind (fun y'_17=>
  zcj w never y'_17)))) (
  (zcw w a b).bind (fun y'_18=>
  (zaT w y'_13 y'_18).bind (fun y'_19=>
  zcj w never y'_19))))) (
  (zcR b).bind (fun y'_20=>
  (zcw w a b).bind (fun y'_21=>
  (zaT w y'_20 y'_21).bind (fun y'_22=>
  zcj w never y'_22))))
def zap (w:Tp5) (n:(Tr Tp13)) (a:Tp16) (b:Tp16):Option Tp16:=
  G (n.isMk=true) (
  if (decide (((n.val (0,(false,(0,())))).1)=(38:Int)))=true then
  (zek w a b).bind (fun y'_8=>
  some y'_8) else
  G (n.isMk=true) (
  if (decide (((n.val (0,(false,(0,())))).1)=(124:Int)))=true then
  (zel w a b).bind (fun y'_9=>
  some y'_9) else
  G (n.isMk=true) (
  if (!((n.val (0,(false,(0,())))).2.1))=true then
  (zaT w a b).bind (fun y'_10=>
  some y'_10) else
  both [(.list .bool)] (
  (zcR b).bind (fun y'_11=>
  both [(.list .bool)] (
  (zbM w y'_11).bind (fun y'_12=>
  zci w a b y'_12)) (
  (zbM w y'_11).bind (fun y'_23=>
  zci w a b y'_23)))) (
  (zcR b).bind (fun y'_24=>
  (zbM w y'_24).bind (fun y'_25=>
  zci w a b y'_25))))))
def zaw (w:Tp5) (n:(Tr Tp13)) (a_1:Tp16):Option Tp16:=
  G (n.isMk=true) (
  if (decide (((n.val (0,(false,(0,())))).1)=(88:Int)))=true then
  (zdK w a_1 w).bind (fun y'_32=>
  G (n.isMk=true) (
  if ((n.val (0,(false,(0,())))).2.1)=true then
  (zcR y'_32.1).bind (fun y'_31=>
  some y'_31) else
  some y'_32.1)) else
  G (n.isMk=true) (
  G (n.isMk=true) (
  if (decide (¬ (decide (((n.val (0,(false,(0,())))).1)=(70:Int)))=((n.val (0,(false,(0,())))).2.1)))=true then
  (zb7 w).bind (fun y'_33=>
  (zaT w y'_33 a_1).bind (fun y'_34=>
  G (n.isMk=true) (
  if ((n.val (0,(false,(0,())))).2.1)=true then
  (zcR y'_34).bind (fun y'_35=>
  some y'_35) else
  some y'_34))) else
  (zbM w a_1).bind (fun y'_36=>
  G (n.isMk=true) (
  if ((n.val (0,(false,(0,())))).2.1)=true then
  (zcR y'_36).bind (fun y'_37=>
  some y'_37) else
  some y'_36)))))
def zaH (zaj:Tp5->(Tr Tp13)->Option Tp16) (w:Tp5) (n:(Tr Tp13)) (a:Tp16) (t_1:Bool):Option Tp16:=
  if t_1=true then
  G (n.isMk=true) (
  G (0<=(1:Int)/\(1:Int) < (n.kids.length:Int)) (
  both [(.list .bool)] (
  (zaj w (ix n.kids (1:Int))).bind (fun y'_7=>
  zap w n a y'_7)) (
  (zaj w (ix n.kids (1:Int))).bind (fun y'_26=>
  zap w n a y'_26)))) else
  G (n.isMk=true) (
  if ((n.val (0,(false,(0,())))).2.1)=true then
  (zcR a).bind (fun y'_27=>
  zaw w n y'_27) else
  zaw w n a)
def zao (zaj:Tp5->(Tr Tp13)->Option Tp16) (w:Tp5) (n:(Tr Tp13)) (a:Tp16):Option Tp16:=
  G (n.isMk=true) (
  if (decide (((n.val (0,(false,(0,())))).1)=(33:Int)))=true then
  (zcR a).bind (fun y'_6=>
  some y'_6) else
  if (decide (((n.val (0,(false,(0,())))).1)=(38:Int)))=true then
  zaH zaj w n a (decide (((n.val (0,(false,(0,())))).1)=(38:Int))) else
  if (decide (((n.val (0,(false,(0,())))).1)=(124:Int)))=true then
  zaH zaj w n a (decide (((n.val (0,(false,(0,())))).1)=(124:Int))) else
  zaH zaj w n a (decide (((n.val (0,(false,(0,())))).1)=(85:Int))))
def za9 (zaj:Tp5->(Tr Tp13)->Option Tp16) (w:Tp5) (n:(Tr Tp13)) (t:Bool):Option Tp16:=
  if t=true then
  (zdJ w n).bind (fun y'=>
  some y') else
  if (decide (((n.val (0,(false,(0,())))).1)=(97:Int)))=true then
  (zej w n w).bind (fun y'_4=>
  some y'_4.1) else
  G (n.isMk=true) (
  G (0<=(0:Int)/\(0:Int) < (n.kids.length:Int)) (
  both [(.list .bool)] (
  (zaj w (ix n.kids (0:Int))).bind (fun y'_5=>
  zao zaj w n y'_5)) (
  (zaj w (ix n.kids (0:Int))).bind (fun y'_38=>
  zao zaj w n y'_38))))
def zbj (zaj:Tp5->(Tr Tp13)->Option Tp16) (w:Tp5) (n:(Tr Tp13)):Option Tp16:=
  G (n.isMk=true) (
  if (decide (((n.val (0,(false,(0,())))).1)=(48:Int)))=true then
  za9 zaj w n (decide (((n.val (0,(false,(0,())))).1)=(48:Int))) else
  za9 zaj w n (decide (((n.val (0,(false,(0,())))).1)=(49:Int))))
theorem zdD (zaj:Nat->Tp5->(Tr Tp13)->Option Tp16) (zaB:Tp5->(Tr Tp13)->Option Tp16) (zay:∀ a0 a1,ChO (fun κ=>zaj κ a0 a1) (zaB a0 a1)) (w:Tp5) (n:(Tr Tp13)) (a:Tp16) (t_1:Bool):ChO (fun κ=>zaH (zaj κ) w n a t_1) (zaH zaB w n a t_1):=by
  unfold zaH
  repeat' with_reducible first | exact ChO.const _ | exact zay _ _ | apply ChO.ite | apply ChO.G | apply ChO.both | (apply ChO.bind;intro _) | (apply ChO.bind2 (zay _ _);intro _)
theorem zgr (zaj:Nat->Tp5->(Tr Tp13)->Option Tp16) (zaB:Tp5->(Tr Tp13)->Option Tp16) (zay:∀ a0 a1,ChO (fun κ=>zaj κ a0 a1) (zaB a0 a1)) (w:Tp5) (n:(Tr Tp13)) (a:Tp16):ChO (fun κ=>zao (zaj κ) w n a) (zao zaB w n a):=by
  unfold zao
  repeat' with_reducible first | exact ChO.const _ | exact zay _ _ | (apply zdD<;>assumption) | apply ChO.ite | apply ChO.G | apply ChO.both | (apply ChO.bind;intro _) | (apply ChO.bind2 (zay _ _);intro _)
theorem zl3 (zaj:Nat->Tp5->(Tr Tp13)->Option Tp16) (zaB:Tp5->(Tr Tp13)->Option Tp16) (zay:∀ a0 a1,ChO (fun κ=>zaj κ a0 a1) (zaB a0 a1)) (w:Tp5) (n:(Tr Tp13)) (t:Bool):ChO (fun κ=>za9 (zaj κ) w n t) (za9 zaB w n t):=by
  unfold za9
  repeat' with_reducible first | exact ChO.const _ | exact zay _ _ | (apply zdD<;>assumption) | (apply zgr<;>assumption) | apply ChO.ite | apply ChO.G | apply ChO.both | (apply ChO.bind;intro _) | (apply ChO.bind2 (zay _ _);intro _)
theorem zmC (zaj:Nat->Tp5->(Tr Tp13)->Option Tp16) (zaB:Tp5->(Tr Tp13)->Option Tp16) (zay:∀ a0 a1,ChO (fun κ=>zaj κ a0 a1) (zaB a0 a1)) (w:Tp5) (n:(Tr Tp13)):ChO (fun κ=>zbj (zaj κ) w n) (zbj zaB w n):=by
  unfold zbj
  repeat' with_reducible first | exact ChO.const _ | exact zay _ _ | (apply zdD<;>assumption) | (apply zgr<;>assumption) | (apply zl3<;>assumption) | apply ChO.ite | apply ChO.G | apply ChO.both | (apply ChO.bind;intro _) | (apply ChO.bind2 (zay _ _);intro _)
def zdW:(Tp5×(Tr Tp13)->Option Tp16)->Tp5×(Tr Tp13)->Option Tp16:=
  fun rec X=>zbj (fun w n=>rec (w,n)) X.1 X.2
def zai (w:Tp5) (n:(Tr Tp13)):Option Tp16:=LFix zdW (w,n)
theorem zoa:Cn zdW:=fun g h hg X=>zmC _ _ (fun w n=>hg (w,n)) X.1 X.2
theorem zeX (w:Tp5) (n:(Tr Tp13)):zai w n=zbj zai w n:=zaz zoa (w,n)

def zhy (q:Int) (t:Tp16):Option (Bool):=
  G (0<=q/\q < (t.length:Int)) (
  some (ix t q))

def zct (s:Tp17) (c:Tp16) (r2:Int->Option (Int)) (t:Int):Option (Int):=
  if (decide (t < (s.length:Int)))=true then
  G (0<=t/\t < (s.length:Int)) (
  (zhy (ix s t) c).bind (fun y'=>
  if y'=true then
  some t else
  G (fits (t+(1:Int))) (
  r2 (t+(1:Int))))) else
  some (-1:Int)
def zij (s:Tp17) (c:Tp16):(Int->Option (Int))->Int->Option (Int):=
  fun rec x=>zct s c (fun t=>rec t) x
def zd7 (s:Tp17) (c:Tp16) (t:Int):Option (Int):=LFix (zij s c ) t
def zlQ (s:Tp17) (c:Tp16):Option (Int):=
  zd7 s c (0:Int)
theorem zlm (r2:Nat->Int->Option (Int)) (r2':Int->Option (Int)) (h_r2:∀ a0,ChO (fun κ=>r2 κ a0) (r2' a0)) (s:Tp17) (c:Tp16) (t:Int):ChO (fun κ=>zct s c (r2 κ) t) (zct s c r2' t):=by
  unfold zct
  repeat' with_reducible first | exact ChO.const _ | exact h_r2 _ | apply ChO.ite | apply ChO.G | apply ChO.both | (apply ChO.bind;intro _)
theorem zm4  (s:Tp17) (c:Tp16):Cn (zij s c):=fun g h hg x=>zlm  (fun κ t=>g κ t) (fun t=>h t) (fun t=>hg t) s c x
theorem zm5  (s:Tp17) (c:Tp16) (t:Int):zd7 s c t=zct s c (zd7 s c) t:=zaz (zm4 s c) t

def zbi (q:Int) (t:Tp16):Option (Bool):=
  G (0<=q/\q < (t.length:Int)) (
  some (ix t q))

def zcu (s:Tp17) (c:Tp16) (r2:Int->Option (Int)) (t:Int):Option (Int):=
  if (decide (t < (s.length:Int)))=true then
  G (0<=t/\t < (s.length:Int)) (
  (zbi (ix s t) c).bind (fun y'=>
  if y'=true then
  some t else
  G (fits (t+(1:Int))) (
  r2 (t+(1:Int))))) else
  some (-1:Int)
def zik (s:Tp17) (c:Tp16):(Int->Option (Int))->Int->Option (Int):=
  fun rec x=>zcu s c (fun t=>rec t) x
def zbC (s:Tp17) (c:Tp16) (t:Int):Option (Int):=LFix (zik s c ) t
def zd8 (s:Tp17) (c:Tp16):Option (Int):=
  zbC s c (0:Int)
theorem zln (r2:Nat->Int->Option (Int)) (r2':Int->Option (Int)) (h_r2:∀ a0,ChO (fun κ=>r2 κ a0) (r2' a0)) (s:Tp17) (c:Tp16) (t:Int):ChO (fun κ=>zcu s c (r2 κ) t) (zcu s c r2' t):=by
  unfold zcu
  repeat' with_reducible first | exact ChO.const _ | exact h_r2 _ | apply ChO.ite | apply ChO.G | apply ChO.both | (apply ChO.bind;intro _)
theorem zm6  (s:Tp17) (c:Tp16):Cn (zik s c):=fun g h hg x=>zln  (fun κ t=>g κ t) (fun t=>h t) (fun t=>hg t) s c x
theorem zhv  (s:Tp17) (c:Tp16) (t:Int):zbC s c t=zcu s c (zbC s c) t:=zaz (zm6 s c) t

def zei (s:Tp17):Option Tp17:=
  if s.length=0 then both [(.list (.int .i64))] (
  some ([])) (
  G (room ([]:List Int) s 8) (
  some (([]:List Int)++s))) else
  G (room ([]:List Int) s 8) (
  some (([]:List Int)++s))

def zbv (w:Tp5) (in':Tp16) (r1:Tp17->Option Tp8) (row_1:Tp17):Option Tp8:=
  G (fits ((row_1.length:Int) - (1:Int))) (
  G (0<=(row_1.length:Int) - (1:Int)/\(row_1.length:Int) - (1:Int) < (row_1.length:Int)) (
  G (((row_1.length:Int) - (1:Int)).toNat < row_1.length) (
  G (0<=ix row_1 ((row_1.length:Int) - (1:Int))/\ix row_1 ((row_1.length:Int) - (1:Int)) < (w.2.1.length:Int)) (
  (zd8 (ix w.2.1 (ix row_1 ((row_1.length:Int) - (1:Int)))) in').bind (fun y'=>
  G (0<=ix row_1 ((row_1.length:Int) - (1:Int))/\ix row_1 ((row_1.length:Int) - (1:Int)) < (w.2.1.length:Int)) (
  G (0<=y'/\y' < ((ix w.2.1 (ix row_1 ((row_1.length:Int) - (1:Int)))).length:Int)) (
  (zeS row_1 (ix (ix w.2.1 (ix row_1 ((row_1.length:Int) - (1:Int)))) y')).bind (fun y'_1=>
  if (decide ((0:Int)<=y'_1))=true then
  G (0<=y'_1/\y'_1<=(row_1.length:Int)) (
  G (0<=y'_1/\y'_1<=(row_1.length:Int)) (
  (zei ((row_1.drop 0).take ((y'_1).toNat))).bind (fun y'_2=>
  (zei ((row_1.drop ((y'_1).toNat)).take (row_1.length - (y'_1).toNat))).bind (fun y'_3=>
  some ((y'_2,(y'_3,())),in'))))) else
  G (room row_1 ([ix (ix w.2.1 (ix row_1 ((row_1.length:Int) - (1:Int)))) y']) 8) (
  r1 (row_1++([ix (ix w.2.1 (ix row_1 ((row_1.length:Int) - (1:Int)))) y'])))))))))))
def zhd (w:Tp5) (in':Tp16):(List Int->Option Tp8)->List Int->Option Tp8:=
  fun rec x=>zbv w in' (fun row_1=>rec row_1) x
def zdy (w:Tp5) (in':Tp16) (row_1:Tp17):Option Tp8:=LFix (zhd w in' ) row_1
def zcA (w:Tp5) (row:Tp17) (in':Tp16):Option Tp8:=
  zdy w in' row
theorem zkk (r1:Nat->Tp17->Option Tp8) (r1':Tp17->Option Tp8) (h_r1:∀ a0,ChO (fun κ=>r1 κ a0) (r1' a0)) (w:Tp5) (in':Tp16) (row_1:Tp17):ChO (fun κ=>zbv w in' (r1 κ) row_1) (zbv w in' r1' row_1):=by
  unfold zbv
  repeat' with_reducible first | exact ChO.const _ | exact h_r1 _ | apply ChO.ite | apply ChO.G | apply ChO.both | (apply ChO.bind;intro _)
theorem zlZ  (w:Tp5) (in':Tp16):Cn (zhd w in'):=fun g h hg x=>zkk  (fun κ row_1=>g κ row_1) (fun row_1=>h row_1) (fun row_1=>hg row_1) w in' x
theorem zl0  (w:Tp5) (in':Tp16) (row_1:Tp17):zdy w in' row_1=zbv w in' (zdy w in') row_1:=zaz (zlZ w in') row_1

def zbk (w:Tp5) (in':Tp16) (r1:Tp17->Option Tp11) (row_1:Tp17):Option Tp11:=
  G (fits ((row_1.length:Int) - (1:Int))) (
  G (0<=(row_1.length:Int) - (1:Int)/\(row_1.length:Int) - (1:Int) < (row_1.length:Int)) (
  G (((row_1.length:Int) - (1:Int)).toNat < row_1.length) (
  G (0<=ix row_1 ((row_1.length:Int) - (1:Int))/\ix row_1 ((row_1.length:Int) - (1:Int)) < (w.2.1.length:Int)) (
  (zd8 (ix w.2.1 (ix row_1 ((row_1.length:Int) - (1:Int)))) in').bind (fun y'=>
  G (0<=ix row_1 ((row_1.length:Int) - (1:Int))/\ix row_1 ((row_1.length:Int) - (1:Int)) < (w.2.1.length:Int)) (
  G (0<=y'/\y' < ((ix w.2.1 (ix row_1 ((row_1.length:Int) - (1:Int)))).length:Int)) (
  (zeS row_1 (ix (ix w.2.1 (ix row_1 ((row_1.length:Int) - (1:Int)))) y')).bind (fun y'_1=>
  if (decide ((0:Int)<=y'_1))=true then
  G (0<=y'_1/\y'_1<=(row_1.length:Int)) (
  G (0<=y'_1/\y'_1<=(row_1.length:Int)) (
  (zei ((row_1.drop 0).take ((y'_1).toNat))).bind (fun y'_2=>
  (zei ((row_1.drop ((y'_1).toNat)).take (row_1.length - (y'_1).toNat))).bind (fun y'_3=>
  some (y'_2,(y'_3,())))))) else
  G (room row_1 ([ix (ix w.2.1 (ix row_1 ((row_1.length:Int) - (1:Int)))) y']) 8) (
  r1 (row_1++([ix (ix w.2.1 (ix row_1 ((row_1.length:Int) - (1:Int)))) y'])))))))))))
def zfL (w:Tp5) (in':Tp16):(List Int->Option Tp11)->List Int->Option Tp11:=
  fun rec x=>zbk w in' (fun row_1=>rec row_1) x
def zcU (w:Tp5) (in':Tp16) (row_1:Tp17):Option Tp11:=LFix (zfL w in' ) row_1
def zdP (w:Tp5) (in':Tp16) (row:Tp17):Option Tp11:=
  zcU w in' row
theorem zjK (r1:Nat->Tp17->Option Tp11) (r1':Tp17->Option Tp11) (h_r1:∀ a0,ChO (fun κ=>r1 κ a0) (r1' a0)) (w:Tp5) (in':Tp16) (row_1:Tp17):ChO (fun κ=>zbk w in' (r1 κ) row_1) (zbk w in' r1' row_1):=by
  unfold zbk
  repeat' with_reducible first | exact ChO.const _ | exact h_r1 _ | apply ChO.ite | apply ChO.G | apply ChO.both | (apply ChO.bind;intro _)
theorem zki  (w:Tp5) (in':Tp16):Cn (zfL w in'):=fun g h hg x=>zjK  (fun κ row_1=>g κ row_1) (fun row_1=>h row_1) (fun row_1=>hg row_1) w in' x
theorem zkj  (w:Tp5) (in':Tp16) (row_1:Tp17):zcU w in' row_1=zbk w in' (zcU w in') row_1:=zaz (zki w in') row_1

def zcG  (r1:Tf9) (i:Int) (j:Int) (s_1:Tp17):Option Tp17:=
  if (decide (i < j))=true then
  G (0<=j/\j < (s_1.length:Int)) (
  G ((j).toNat < s_1.length) (
  G (0<=i/\i < (s_1.length:Int)) (
  G ((i).toNat < s_1.length) (
  G (0<=i/\i < (s_1.length:Int)) (
  G ((i).toNat < s_1.length) (
  G (0<=j/\j < ((s_1.set (i).toNat (ix s_1 j)).length:Int)) (
  G ((j).toNat < (s_1.set (i).toNat (ix s_1 j)).length) (
  G (fits (i+(1:Int))) (
  G (fits (j - (1:Int))) (
  r1 (i+(1:Int)) (j - (1:Int)) ((s_1.set (i).toNat (ix s_1 j)).set (j).toNat (ix s_1 i)))))))))))) else
  some s_1
def zk0:(Int×Int×Tp17->Option Tp17)->Int×Int×Tp17->Option Tp17:=
  fun rec x=>zcG (fun i j s_1=>rec (i,j,s_1)) x.1 x.2.1 x.2.2
def zfC  (i:Int) (j:Int) (s_1:Tp17):Option Tp17:=LFix (zk0 ) (i,j,s_1)
def zja (s:Tp17):Option Tp17:=
  G (fits ((s.length:Int) - (1:Int))) (
  zfC (0:Int) ((s.length:Int) - (1:Int)) s)
theorem zoi (r1:Nat->Tf9) (r1':Tf9) (h_r1:∀ a0 a1 a2,ChO (fun κ=>r1 κ a0 a1 a2) (r1' a0 a1 a2)) (i:Int) (j:Int) (s_1:Tp17):ChO (fun κ=>zcG (r1 κ) i j s_1) (zcG r1' i j s_1):=by
  unfold zcG
  repeat' with_reducible first | exact ChO.const _ | exact h_r1 _ _ _ | apply ChO.ite | apply ChO.G | apply ChO.both | (apply ChO.bind;intro _)
theorem zpU:Cn (zk0):=fun g h hg x=>zoi  (fun κ i j s_1=>g κ (i,j,s_1)) (fun i j s_1=>h (i,j,s_1)) (fun i j s_1=>hg (i,j,s_1))  x.1 x.2.1 x.2.2
theorem zpV   (i:Int) (j:Int) (s_1:Tp17):zfC i j s_1=zcG (zfC) i j s_1:=zaz (zpU ) (i,j,s_1)

def za2 (from':Tp17) (from'_1:Tp17) (r8:Int->Tp17->Option Tp17) (q:Int) (row:Tp17):Option Tp17:=
  if (decide ((0:Int)<=q))=true then
  G (room row ([q]) 8) (
  r8 (mget from' from'_1 q (0:Int)) (row++([q]))) else
  (zja row).bind (fun y'=>
  some y')
def zhQ (from':Tp17) (from'_1:Tp17):(Int×Tp17->Option Tp17)->Int×Tp17->Option Tp17:=
  fun rec x=>za2 from' from'_1 (fun q row=>rec (q,row)) x.1 x.2
def zbz (from':Tp17) (from'_1:Tp17) (q:Int) (row:Tp17):Option Tp17:=LFix (zhQ from' from'_1 ) (q,row)
def za8 (t:Int) (r14:(Int->Tp17->Tp17->Tp17->Option Tp17)) (from'_4:Tp17) (from'_5:Tp17) (l_2:Tp17):Option Tp17:=
  G (fits (t+(1:Int))) (
  r14 (t+(1:Int)) from'_4 from'_5 l_2)
def zaL (w:Tp5) (l:Tp17) (t:Int) (from'_2:Tp17) (from'_3:Tp17) (l_1:Tp17) (r14:(Int->Tp17->Tp17->Tp17->Option Tp17)) (t_1:Bool):Option Tp17:=
  if t_1=true then
  G (room l_1 ([ix (ix w.2.1 (ix l (0:Int))) t]) 8) (
  za8 t r14 (zpM from'_2 (ix (ix w.2.1 (ix l (0:Int))) t)) (zu2 from'_2 from'_3 (ix (ix w.2.1 (ix l (0:Int))) t) (ix l (0:Int))) (l_1++([ix (ix w.2.1 (ix l (0:Int))) t]))) else
  za8 t r14 from'_2 from'_3 l_1
def zbc (w:Tp5) (a:Tp16) (b:Tp16) (l:Tp17) (r4:(Tp17->Tp17->Tp17->Option Tp17)) (r14:Tf4) (t:Int) (from'_2:Tp17) (from'_3:Tp17) (l_1:Tp17):Option Tp17:=
  if (decide (t < ((ix w.2.1 (ix l (0:Int))).length:Int)))=true then
  G (0<=t/\t < ((ix w.2.1 (ix l (0:Int))).length:Int)) (
  if (!(mhas from'_2 (ix (ix w.2.1 (ix l (0:Int))) t)))=true then
  G (0<=ix (ix w.2.1 (ix l (0:Int))) t/\ix (ix w.2.1 (ix l (0:Int))) t < (a.length:Int)) (
  if (ix a (ix (ix w.2.1 (ix l (0:Int))) t))=true then
  zaL w l t from'_2 from'_3 l_1 r14 true else
  G (0<=ix (ix w.2.1 (ix l (0:Int))) t/\ix (ix w.2.1 (ix l (0:Int))) t < (b.length:Int)) (
  zaL w l t from'_2 from'_3 l_1 r14 (ix b (ix (ix w.2.1 (ix l (0:Int))) t)))) else
  zaL w l t from'_2 from'_3 l_1 r14 false) else
  G (0<=(1:Int)/\(1:Int)<=(l_1.length:Int)) (
  r4 from'_2 from'_3 (l_1.drop ((1:Int)).toNat))
def zha (w:Tp5) (a:Tp16) (b:Tp16) (l:Tp17) (r4:(Tp17->Tp17->Tp17->Option Tp17)):(Int×Tp17×Tp17×Tp17->Option Tp17)->Int×Tp17×Tp17×Tp17->Option Tp17:=
  fun rec x=>zbc w a b l r4 (fun t from'_2 from'_3 l_1=>rec (t,from'_2,from'_3,l_1)) x.1 x.2.1 x.2.2.1 x.2.2.2
def zat (w:Tp5) (a:Tp16) (b:Tp16) (l:Tp17) (r4:(Tp17->Tp17->Tp17->Option Tp17)) (t:Int) (from'_2:Tp17) (from'_3:Tp17) (l_1:Tp17):Option Tp17:=LFix (zha w a b l r4 ) (t,from'_2,from'_3,l_1)
def zbF (w:Tp5) (a:Tp16) (b:Tp16) (r4:Tf7) (from':Tp17) (from'_1:Tp17) (l:Tp17):Option Tp17:=
  G (0<=(0:Int)/\(0:Int) < (l.length:Int)) (
  G (((0:Int)).toNat < l.length) (
  G (0<=ix l (0:Int)/\ix l (0:Int) < (b.length:Int)) (
  if (ix b (ix l (0:Int)))=true then
  zbz from' from'_1 (ix l (0:Int)) ([]) else
  G (0<=ix l (0:Int)/\ix l (0:Int) < (w.2.1.length:Int)) (
  zat w a b l r4 (0:Int) from' from'_1 l))))
def zhP (w:Tp5) (a:Tp16) (b:Tp16):(Tp17×Tp17×Tp17->Option Tp17)->Tp17×Tp17×Tp17->Option Tp17:=
  fun rec x=>zbF w a b (fun from' from'_1 l=>rec (from',from'_1,l)) x.1 x.2.1 x.2.2
def zaI (w:Tp5) (a:Tp16) (b:Tp16) (from':Tp17) (from'_1:Tp17) (l:Tp17):Option Tp17:=LFix (zhP w a b ) (from',from'_1,l)
def zdO (w:Tp5) (p:Int) (a:Tp16) (b:Tp16):Option Tp17:=
  zaI w a b (zpM ([]:List Int) p) (zu2 ([]:List Int) ([]:List Int) p (-1:Int)) ([p])
theorem zlg (r8:Nat->Int->Tp17->Option Tp17) (r8':Int->Tp17->Option Tp17) (h_r8:∀ a0 a1,ChO (fun κ=>r8 κ a0 a1) (r8' a0 a1)) (from':Tp17) (from'_1:Tp17) (q:Int) (row:Tp17):ChO (fun κ=>za2 from' from'_1 (r8 κ) q row) (za2 from' from'_1 r8' q row):=by
  unfold za2
  repeat' with_reducible first | exact ChO.const _ | exact h_r8 _ _ | apply ChO.ite | apply ChO.G | apply ChO.both | (apply ChO.bind;intro _)
theorem zmt  (from':Tp17) (from'_1:Tp17):Cn (zhQ from' from'_1):=fun g h hg x=>zlg  (fun κ q row=>g κ (q,row)) (fun q row=>h (q,row)) (fun q row=>hg (q,row)) from' from'_1 x.1 x.2
theorem zes  (from':Tp17) (from'_1:Tp17) (q:Int) (row:Tp17):zbz from' from'_1 q row=za2 from' from'_1 (zbz from' from'_1) q row:=zaz (zmt from' from'_1) (q,row)
theorem zec (r14:Nat->Tf4) (r14':Tf4) (h_r14:∀ a0 a1 a2 a3,ChO (fun κ=>r14 κ a0 a1 a2 a3) (r14' a0 a1 a2 a3)) (t:Int) (from'_4:Tp17) (from'_5:Tp17) (l_2:Tp17):ChO (fun κ=>za8 t (r14 κ) from'_4 from'_5 l_2) (za8 t r14' from'_4 from'_5 l_2):=by
  unfold za8
  repeat' with_reducible first | exact ChO.const _ | exact h_r14 _ _ _ _ | apply ChO.ite | apply ChO.G | apply ChO.both | (apply ChO.bind;intro _)
theorem zf7 (r14:Nat->Tf4) (r14':Tf4) (h_r14:∀ a0 a1 a2 a3,ChO (fun κ=>r14 κ a0 a1 a2 a3) (r14' a0 a1 a2 a3)) (w:Tp5) (l:Tp17) (t:Int) (from'_2:Tp17) (from'_3:Tp17) (l_1:Tp17) (t_1:Bool):ChO (fun κ=>zaL w l t from'_2 from'_3 l_1 (r14 κ) t_1) (zaL w l t from'_2 from'_3 l_1 r14' t_1):=by
  unfold zaL
  repeat' with_reducible first | exact ChO.const _ | exact h_r14 _ _ _ _ | (apply zec<;>assumption) | apply ChO.ite | apply ChO.G | apply ChO.both | (apply ChO.bind;intro _)
theorem zfb (r4:Nat->Tf7) (r4':Tf7) (h_r4:∀ a0 a1 a2,ChO (fun κ=>r4 κ a0 a1 a2) (r4' a0 a1 a2)) (r14:Nat->Tf4) (r14':Tf4) (h_r14:∀ a0 a1 a2 a3,ChO (fun κ=>r14 κ a0 a1 a2 a3) (r14' a0 a1 a2 a3)) (w:Tp5) (a:Tp16) (b:Tp16) (l:Tp17) (t:Int) (from'_2:Tp17) (from'_3:Tp17) (l_1:Tp17):ChO (fun κ=>zbc w a b l (r4 κ) (r14 κ) t from'_2 from'_3 l_1) (zbc w a b l r4' r14' t from'_2 from'_3 l_1):=by
  unfold zbc
  repeat' with_reducible first | exact ChO.const _ | exact h_r4 _ _ _ | exact h_r14 _ _ _ _ | (apply zec<;>assumption) | (apply zf7<;>assumption) | apply ChO.ite | apply ChO.G | apply ChO.both | (apply ChO.bind;intro _)
theorem zed (r4:Tf7) (w:Tp5) (a:Tp16) (b:Tp16) (l:Tp17):Cn (zha w a b l r4):=fun g h hg x=>zfb (fun _=>r4) r4 (fun _ _ _=>ChO.const _) (fun κ t from'_2 from'_3 l_1=>g κ (t,from'_2,from'_3,l_1)) (fun t from'_2 from'_3 l_1=>h (t,from'_2,from'_3,l_1)) (fun t from'_2 from'_3 l_1=>hg (t,from'_2,from'_3,l_1)) w a b l x.1 x.2.1 x.2.2.1 x.2.2.2
theorem zf8 (r4:Tf7) (w:Tp5) (a:Tp16) (b:Tp16) (l:Tp17) (t:Int) (from'_2:Tp17) (from'_3:Tp17) (l_1:Tp17):zat w a b l r4 t from'_2 from'_3 l_1=zbc w a b l r4 (zat w a b l r4) t from'_2 from'_3 l_1:=zaz (zed r4 w a b l) (t,from'_2,from'_3,l_1)
theorem zlY (r4:Nat->Tf7) (r4':Tf7) (h_r4:∀ a0 a1 a2,ChO (fun κ=>r4 κ a0 a1 a2) (r4' a0 a1 a2)) (w:Tp5) (a:Tp16) (b:Tp16) (l:Tp17) (t:Int) (from'_2:Tp17) (from'_3:Tp17) (l_1:Tp17):ChO (fun κ=>zat w a b l (r4 κ) t from'_2 from'_3 l_1) (zat w a b l r4' t from'_2 from'_3 l_1):=by
  unfold zat
  exact zqp (fun κ=>(zed (r4 κ) w a b l).mono) (zed r4' w a b l).mono (fun g h hg x=>zfb r4 r4' h_r4 (fun κ t from'_2 from'_3 l_1=>g κ (t,from'_2,from'_3,l_1)) (fun t from'_2 from'_3 l_1=>h (t,from'_2,from'_3,l_1)) (fun t from'_2 from'_3 l_1=>hg (t,from'_2,from'_3,l_1)) w a b l x.1 x.2.1 x.2.2.1 x.2.2.2) _
theorem zlf (r4:Nat->Tf7) (r4':Tf7) (h_r4:∀ a0 a1 a2,ChO (fun κ=>r4 κ a0 a1 a2) (r4' a0 a1 a2)) (w:Tp5) (a:Tp16) (b:Tp16) (from':Tp17) (from'_1:Tp17) (l:Tp17):ChO (fun κ=>zbF w a b (r4 κ) from' from'_1 l) (zbF w a b r4' from' from'_1 l):=by
  unfold zbF
  repeat' with_reducible first | exact ChO.const _ | exact h_r4 _ _ _ | (apply zec<;>assumption) | (apply zf7<;>assumption) | (apply zlY<;>assumption) | apply ChO.ite | apply ChO.G | apply ChO.both | (apply ChO.bind;intro _)
theorem zmr  (w:Tp5) (a:Tp16) (b:Tp16):Cn (zhP w a b):=fun g h hg x=>zlf  (fun κ from' from'_1 l=>g κ (from',from'_1,l)) (fun from' from'_1 l=>h (from',from'_1,l)) (fun from' from'_1 l=>hg (from',from'_1,l)) w a b x.1 x.2.1 x.2.2
theorem zms  (w:Tp5) (a:Tp16) (b:Tp16) (from':Tp17) (from'_1:Tp17) (l:Tp17):zaI w a b from' from'_1 l=zbF w a b (zaI w a b) from' from'_1 l:=zaz (zmr w a b) (from',from'_1,l)

def zaM (g':Tp7) (text:(List UInt8)) (p:Int):Option (Tp11×Bool×Int):=
  (zdF (g'.1,(g'.2.1,(g'.2.2.1,())))).bind (fun y'=>
  if (decide (¬ y'=(0:Int)))=true then
  some (([],([],())),false,y') else
  (zbL text).bind (fun y'_30=>
  if (decide (¬ y'_30.2.1=(0:Int)))=true then
  some (([],([],())),false,(4:Int)) else
  G (0<=(0:Int)/\(0:Int) < (text.length:Int)) (
  if (decide (¬ (bAt text (0:Int))=(69:Int)))=true then
  some (([],([],())),false,(3:Int)) else
  G (y'_30.1.isMk=true) (
  (zfs ([(88:Int),(70:Int),(71:Int),(85:Int)]) ((y'_30.1.val (0,(false,(0,())))).1)).bind (fun y'_4=>
  if (!y'_4)=true then
  some (([],([],())),false,(3:Int)) else
  if (decide (p < (0:Int)))=true then
  some (([],([],())),false,(2:Int)) else
  if (decide (g'.2.1<=p))=true then
  some (([],([],())),false,(2:Int)) else
  (zca (g'.1,(g'.2.1,(g'.2.2.1,())))).bind (fun y'_5=>
  (zai y'_5 y'_30.1).bind (fun y'_6=>
  G (0<=p/\p < (y'_6.length:Int)) (
  if (!(ix y'_6 p))=true then
  some (([],([],())),false,(0:Int)) else
  G (y'_30.1.isMk=true) (
  G (0<=(0:Int)/\(0:Int) < (y'_30.1.kids.length:Int)) (
  (zai y'_5 (ix y'_30.1.kids (0:Int))).bind (fun y'_7=>
  G (y'_30.1.isMk=true) (
  if (decide (((y'_30.1.val (0,(false,(0,())))).1)=(88:Int)))=true then
  G (0<=p/\p < (y'_5.2.1.length:Int)) (
  (zlQ (ix y'_5.2.1 p) y'_7).bind (fun y'_8=>
  G (0<=p/\p < (y'_5.2.1.length:Int)) (
  G (0<=y'_8/\y'_8 < ((ix y'_5.2.1 p).length:Int)) (
  if (decide (¬ (ix (ix y'_5.2.1 p) y'_8)=p))=true then
  (zb7 y'_5).bind (fun y'_9=>
  (zcA y'_5 ([p,ix (ix y'_5.2.1 p) y'_8]) y'_9).bind (fun y'_13=>
  some ((y'_13.1.1,(y'_13.1.2.1,())),true,(0:Int)))) else
  some (([],([p],())),true,(0:Int)))))) else
  if (decide (((y'_30.1.val (0,(false,(0,())))).1)=(71:Int)))=true then
  (zbM y'_5 y'_7).bind (fun y'_14=>
  (zdP y'_5 y'_14 ([p])).bind (fun y'_15=>
  some ((y'_15.1,(y'_15.2.1,())),true,(0:Int)))) else
  if (decide (((y'_30.1.val (0,(false,(0,())))).1)=(70:Int)))=true then
  (zb7 y'_5).bind (fun y'_16=>
  (zdO y'_5 p y'_16 y'_7).bind (fun y'_17=>
  (zb7 y'_5).bind (fun y'_18=>
  (zcA y'_5 y'_17 y'_18).bind (fun y'_22=>
  some ((y'_22.1.1,(y'_22.1.2.1,())),true,(0:Int)))))) else
  G (y'_30.1.isMk=true) (
  G (0<=(1:Int)/\(1:Int) < (y'_30.1.kids.length:Int)) (
  (zai y'_5 (ix y'_30.1.kids (1:Int))).bind (fun y'_23=>
  (zdO y'_5 p y'_7 y'_23).bind (fun y'_24=>
  (zb7 y'_5).bind (fun y'_25=>
  (zcA y'_5 y'_24 y'_25).bind (fun y'_29=>
  some ((y'_29.1.1,(y'_29.1.2.1,())),true,(0:Int))))))))))))))))))))

def zfi (l:Tp11):Option (Bool):=
  G (fits ((l.1.length:Int)+(l.2.1.length:Int))) (
  some (decide (((l.1.length:Int)+(l.2.1.length:Int))=(0:Int))))

def zrm (x':Tp14) (y':Tp14):Option (Bool):=
  if (decide (¬ x'.1=y'.1))=true then
  some (decide (x'.1 < y'.1)) else
  if (decide (¬ x'.2.1=y'.2.1))=true then
  some (decide (x'.2.1 < y'.2.1)) else
  some (decide (x'.2.2.1 < y'.2.2.1))

def zcl (g':Tp7) (r12:Int->Option (Int)) (i_1:Int):Option (Int):=
  if (decide (i_1 < (g'.2.2.1.length:Int)))=true then
  G (fits (i_1 - (1:Int))) (
  G (0<=i_1 - (1:Int)/\i_1 - (1:Int) < (g'.2.2.1.length:Int)) (
  G (0<=i_1/\i_1 < (g'.2.2.1.length:Int)) (
  (zrm (ix g'.2.2.1 (i_1 - (1:Int))) (ix g'.2.2.1 i_1)).bind (fun y'=>
  if (!y')=true then
  some (3:Int) else
  G (fits (i_1+(1:Int))) (
  r12 (i_1+(1:Int))))))) else
  some (0:Int)
def zoQ (g':Tp7):(Int->Option (Int))->Int->Option (Int):=
  fun rec x=>zcl g' (fun i_1=>rec i_1) x
def znu (g':Tp7) (i_1:Int):Option (Int):=LFix (zoQ g' ) i_1
def zdf (g':Tp7) (r6:Int->Option (Int)) (i:Int):Option (Int):=
  if (decide (i < (g'.2.2.1.length:Int)))=true then
  G (0<=i/\i < (g'.2.2.1.length:Int)) (
  if (decide (((ix g'.2.2.1 i).1) < (0:Int)))=true then
  some (2:Int) else
  if (decide (g'.2.1<=((ix g'.2.2.1 i).1)))=true then
  some (2:Int) else
  if (decide (((((ix g'.2.2.1 i).2).2).1) < (0:Int)))=true then
  some (2:Int) else
  if (decide (g'.2.1<=((((ix g'.2.2.1 i).2).2).1)))=true then
  some (2:Int) else
  if (decide ((((ix g'.2.2.1 i).2).1) < (0:Int)))=true then
  some (2:Int) else
  if (decide (g'.1<=(((ix g'.2.2.1 i).2).1)))=true then
  some (2:Int) else
  G (fits (i+(1:Int))) (
  r6 (i+(1:Int)))) else
  znu g' (1:Int)
def zp6 (g':Tp7):(Int->Option (Int))->Int->Option (Int):=
  fun rec x=>zdf g' (fun i=>rec i) x
def zoR (g':Tp7) (i:Int):Option (Int):=LFix (zp6 g' ) i
def zrr (g':Tp7):Option (Int):=
  if (decide (g'.1 < (1:Int)))=true then
  some (2:Int) else
  if (decide ((4:Int) < g'.1))=true then
  some (2:Int) else
  if (decide (g'.2.1 < (1:Int)))=true then
  some (1:Int) else
  if (decide ((12:Int) < g'.2.1))=true then
  some (1:Int) else
  if (decide ((60:Int) < (g'.2.2.1.length:Int)))=true then
  some (1:Int) else
  zoR g' (0:Int)
theorem zrt (r12:Nat->Int->Option (Int)) (r12':Int->Option (Int)) (h_r12:∀ a0,ChO (fun κ=>r12 κ a0) (r12' a0)) (g':Tp7) (i_1:Int):ChO (fun κ=>zcl g' (r12 κ) i_1) (zcl g' r12' i_1):=by
  unfold zcl
  repeat' with_reducible first | exact ChO.const _ | exact h_r12 _ | apply ChO.ite | apply ChO.G | apply ChO.both | (apply ChO.bind;intro _)
theorem ztj  (g':Tp7):Cn (zoQ g'):=fun g h hg x=>zrt  (fun κ i_1=>g κ i_1) (fun i_1=>h i_1) (fun i_1=>hg i_1) g' x
theorem zgE  (g':Tp7) (i_1:Int):znu g' i_1=zcl g' (znu g') i_1:=zaz (ztj g') i_1
theorem zsr (r6:Nat->Int->Option (Int)) (r6':Int->Option (Int)) (h_r6:∀ a0,ChO (fun κ=>r6 κ a0) (r6' a0)) (g':Tp7) (i:Int):ChO (fun κ=>zdf g' (r6 κ) i) (zdf g' r6' i):=by
  unfold zdf
  repeat' with_reducible first | exact ChO.const _ | exact h_r6 _ | apply ChO.ite | apply ChO.G | apply ChO.both | (apply ChO.bind;intro _)
theorem zux  (g':Tp7):Cn (zp6 g'):=fun g h hg x=>zsr  (fun κ i=>g κ i) (fun i=>h i) (fun i=>hg i) g' x
theorem zkx  (g':Tp7) (i:Int):zoR g' i=zdf g' (zoR g') i:=zaz (zux g') i

def zh2 (r:((List UInt8)×Int×Int×Int×Tp9×(Int×Int×Unit)×Unit)):Option (Bool):=
  some (decide (r.2.2.2.2.2.1.1=(0:Int)))

def zdg (r:((List UInt8)×Int×Int×Int×Tp9×(Int×Int×Unit)×Unit)):Option (Int):=
  if (decide ((r.1.length:Int)<=r.2.1))=true then
  some (0:Int) else
  G (0<=r.2.1/\r.2.1 < (r.1.length:Int)) (
  some (bAt r.1 r.2.1))

def zcm (code:Int) (c:(List UInt8)) (c_1:Int) (c_2:Int) (c_3:Int) (c_4:Int) (c_5:Int) (l:Tp9):Option ((List UInt8)×Int×Int×Int×Tp9×Int×Int):=
  if (decide (c_4=(0:Int)))=true then
  some (c,c_1,c_2,c_3,l,code,c_1) else
  some (c,c_1,c_2,c_3,l,c_4,c_5)

def zbf (c:(List UInt8)) (c_1:Int) (c_2:Int) (c_3:Int) (c_4:Int) (c_5:Int) (l:Tp9):Option ((List UInt8)×Int×Int×Int×Tp9×Int×Int):=
  G (fits (c_3+(1:Int))) (
  if (decide ((30:Int) < (c_3+(1:Int))))=true then
  (zcm (7:Int) c c_1 c_2 (c_3+(1:Int)) c_4 c_5 l).bind (fun y'_8=>
  G (fits (y'_8.2.1+(1:Int))) (
  some (y'_8.1,y'_8.2.1+(1:Int),y'_8.2.2.1,y'_8.2.2.2.1,y'_8.2.2.2.2.1,y'_8.2.2.2.2.2.1,y'_8.2.2.2.2.2.2))) else
  G (fits (c_1+(1:Int))) (
  some (c,c_1+(1:Int),c_2,c_3+(1:Int),l,c_4,c_5)))

def zbV (n:Tp10) (c:(List UInt8)) (c_1:Int) (c_2:Int) (c_3:Int) (c_4:Int) (c_5:Int) (l:Tp9):Option (Int×(List UInt8)×Int×Int×Int×Tp9×Int×Int):=
  G (room l ([(n.1,(n.2.1,(n.2.2.1,(n.2.2.2.1,(n.2.2.2.2.1,())))))]) 32) (
  G (fits (((l++([(n.1,(n.2.1,(n.2.2.1,(n.2.2.2.1,(n.2.2.2.2.1,())))))])).length:Int) - (1:Int))) (
  some (((l++([(n.1,(n.2.1,(n.2.2.1,(n.2.2.2.1,(n.2.2.2.2.1,())))))])).length:Int) - (1:Int),c,c_1,c_2,c_3,l++([(n.1,(n.2.1,(n.2.2.1,(n.2.2.2.1,(n.2.2.2.2.1,())))))]),c_4,c_5)))

def zdl (c:(List UInt8)) (c_1:Int) (c_2:Int) (c_3:Int) (c_4:Int) (c_5:Int) (l:Tp9):Option ((List UInt8)×Int×Int×Int×Tp9×Int×Int):=
  if (decide (c_2=(40:Int)))=true then
  (zcm (7:Int) c c_1 c_2 c_3 c_4 c_5 l).bind (fun y'_8=>
  G (fits (y'_8.2.2.1+(1:Int))) (
  G (fits (y'_8.2.1+(1:Int))) (
  some (y'_8.1,y'_8.2.1+(1:Int),y'_8.2.2.1+(1:Int),y'_8.2.2.2.1,y'_8.2.2.2.2.1,y'_8.2.2.2.2.2.1,y'_8.2.2.2.2.2.2)))) else
  G (fits (c_2+(1:Int))) (
  G (fits (c_1+(1:Int))) (
  some (c,c_1+(1:Int),c_2+(1:Int),c_3,l,c_4,c_5)))

def zcN (c:Int) (c_1:(List UInt8)) (c_2:Int) (c_3:Int) (c_4:Int) (c_5:Int) (c_6:Int) (l:Tp9):Option ((List UInt8)×Int×Int×Int×Tp9×Int×Int):=
  (zdg (c_1,(c_2,(c_3,(c_4,(l,((c_5,(c_6,())),()))))))).bind (fun y'=>
  if (decide (¬ y'=c))=true then
  (zcm (4:Int) c_1 c_2 c_3 c_4 c_5 c_6 l).bind (fun y'_9=>
  G (fits (y'_9.2.1+(1:Int))) (
  some (y'_9.1,y'_9.2.1+(1:Int),y'_9.2.2.1,y'_9.2.2.2.1,y'_9.2.2.2.2.1,y'_9.2.2.2.2.2.1,y'_9.2.2.2.2.2.2))) else
  G (fits (c_2+(1:Int))) (
  some (c_1,c_2+(1:Int),c_3,c_4,l,c_5,c_6)))

def zbJ (zab:(List UInt8)->Int->Int->Int->Int->Int->Tp9->Option (Int×(List UInt8)×Int×Int×Int×Tp9×Int×Int))  (r2:Int->(List UInt8)->Int->Int->Int->Int->Int->Tp9->Option (Int×(List UInt8)×Int×Int×Int×Tp9×Int×Int)) (a:Int) (r:(List UInt8)) (r_1:Int) (r_2:Int) (r_3:Int) (r_4:Int) (r_5:Int) (l_1:Tp9):Option (Int×(List UInt8)×Int×Int×Int×Tp9×Int×Int):=
  (zdg (r,(r_1,(r_2,(r_3,(l_1,((r_4,(r_5,())),()))))))).bind (fun y'_9=>
  (zh2 (r,(r_1,(r_2,(r_3,(l_1,((r_4,(r_5,())),()))))))).bind (fun y'_10=>
  if (!y'_10)=true then
  some (a,r,r_1,r_2,r_3,l_1,r_4,r_5) else
  if (decide (¬ y'_9=(38:Int)))=true then
  some (a,r,r_1,r_2,r_3,l_1,r_4,r_5) else
  (zbf r r_1 r_2 r_3 r_4 r_5 l_1).bind (fun y'_39=>
  (zab y'_39.1 y'_39.2.1 y'_39.2.2.1 y'_39.2.2.2.1 y'_39.2.2.2.2.2.1 y'_39.2.2.2.2.2.2 y'_39.2.2.2.2.1).bind (fun y'_38=>
  (zbV ((38:Int),(false,((0:Int),(a,(y'_38.1,()))))) y'_38.2.1 y'_38.2.2.1 y'_38.2.2.2.1 y'_38.2.2.2.2.1 y'_38.2.2.2.2.2.2.1 y'_38.2.2.2.2.2.2.2 y'_38.2.2.2.2.2.1).bind (fun y'_37=>
  r2 y'_37.1 y'_37.2.1 y'_37.2.2.1 y'_37.2.2.2.1 y'_37.2.2.2.2.1 y'_37.2.2.2.2.2.2.1 y'_37.2.2.2.2.2.2.2 y'_37.2.2.2.2.2.1)))))
def zjT (zab:(List UInt8)->Int->Int->Int->Int->Int->Tp9->Option (Int×(List UInt8)×Int×Int×Int×Tp9×Int×Int)):(Int×(List UInt8)×Int×Int×Int×Int×Int×Tp9->Option (Int×(List UInt8)×Int×Int×Int×Tp9×Int×Int))->Int×(List UInt8)×Int×Int×Int×Int×Int×Tp9->Option (Int×(List UInt8)×Int×Int×Int×Tp9×Int×Int):=
  fun rec x=>zbJ zab (fun a r r_1 r_2 r_3 r_4 r_5 l_1=>rec (a,r,r_1,r_2,r_3,r_4,r_5,l_1)) x.1 x.2.1 x.2.2.1 x.2.2.2.1 x.2.2.2.2.1 x.2.2.2.2.2.1 x.2.2.2.2.2.2.1 x.2.2.2.2.2.2.2
def zbN (zab:(List UInt8)->Int->Int->Int->Int->Int->Tp9->Option (Int×(List UInt8)×Int×Int×Int×Tp9×Int×Int))  (a:Int) (r:(List UInt8)) (r_1:Int) (r_2:Int) (r_3:Int) (r_4:Int) (r_5:Int) (l_1:Tp9):Option (Int×(List UInt8)×Int×Int×Int×Tp9×Int×Int):=LFix (zjT zab ) (a,r,r_1,r_2,r_3,r_4,r_5,l_1)
def zbW (zab:(List UInt8)->Int->Int->Int->Int->Int->Tp9->Option (Int×(List UInt8)×Int×Int×Int×Tp9×Int×Int)) (c:(List UInt8)) (c_1:Int) (c_2:Int) (c_3:Int) (c_4:Int) (c_5:Int) (l:Tp9):Option (Int×(List UInt8)×Int×Int×Int×Tp9×Int×Int):=
  (zab c c_1 c_2 c_3 c_4 c_5 l).bind (fun y'_40=>
  zbN zab y'_40.1 y'_40.2.1 y'_40.2.2.1 y'_40.2.2.2.1 y'_40.2.2.2.2.1 y'_40.2.2.2.2.2.2.1 y'_40.2.2.2.2.2.2.2 y'_40.2.2.2.2.2.1)
def zbB (zab:(List UInt8)->Int->Int->Int->Int->Int->Tp9->Option (Int×(List UInt8)×Int×Int×Int×Tp9×Int×Int))  (r2:Int->(List UInt8)->Int->Int->Int->Int->Int->Tp9->Option (Int×(List UInt8)×Int×Int×Int×Tp9×Int×Int)) (a:Int) (r:(List UInt8)) (r_1:Int) (r_2:Int) (r_3:Int) (r_4:Int) (r_5:Int) (l_1:Tp9):Option (Int×(List UInt8)×Int×Int×Int×Tp9×Int×Int):=
  (zdg (r,(r_1,(r_2,(r_3,(l_1,((r_4,(r_5,())),()))))))).bind (fun y'_9=>
  (zh2 (r,(r_1,(r_2,(r_3,(l_1,((r_4,(r_5,())),()))))))).bind (fun y'_10=>
  if (!y'_10)=true then
  some (a,r,r_1,r_2,r_3,l_1,r_4,r_5) else
  if (decide (¬ y'_9=(124:Int)))=true then
  some (a,r,r_1,r_2,r_3,l_1,r_4,r_5) else
  (zbf r r_1 r_2 r_3 r_4 r_5 l_1).bind (fun y'_39=>
  (zbW zab y'_39.1 y'_39.2.1 y'_39.2.2.1 y'_39.2.2.2.1 y'_39.2.2.2.2.2.1 y'_39.2.2.2.2.2.2 y'_39.2.2.2.2.1).bind (fun y'_38=>
  (zbV ((124:Int),(false,((0:Int),(a,(y'_38.1,()))))) y'_38.2.1 y'_38.2.2.1 y'_38.2.2.2.1 y'_38.2.2.2.2.1 y'_38.2.2.2.2.2.2.1 y'_38.2.2.2.2.2.2.2 y'_38.2.2.2.2.2.1).bind (fun y'_37=>
  r2 y'_37.1 y'_37.2.1 y'_37.2.2.1 y'_37.2.2.2.1 y'_37.2.2.2.2.1 y'_37.2.2.2.2.2.2.1 y'_37.2.2.2.2.2.2.2 y'_37.2.2.2.2.2.1)))))
def zjs (zab:(List UInt8)->Int->Int->Int->Int->Int->Tp9->Option (Int×(List UInt8)×Int×Int×Int×Tp9×Int×Int)):(Int×(List UInt8)×Int×Int×Int×Int×Int×Tp9->Option (Int×(List UInt8)×Int×Int×Int×Tp9×Int×Int))->Int×(List UInt8)×Int×Int×Int×Int×Int×Tp9->Option (Int×(List UInt8)×Int×Int×Int×Tp9×Int×Int):=
  fun rec x=>zbB zab (fun a r r_1 r_2 r_3 r_4 r_5 l_1=>rec (a,r,r_1,r_2,r_3,r_4,r_5,l_1)) x.1 x.2.1 x.2.2.1 x.2.2.2.1 x.2.2.2.2.1 x.2.2.2.2.2.1 x.2.2.2.2.2.2.1 x.2.2.2.2.2.2.2
def zbA (zab:(List UInt8)->Int->Int->Int->Int->Int->Tp9->Option (Int×(List UInt8)×Int×Int×Int×Tp9×Int×Int))  (a:Int) (r:(List UInt8)) (r_1:Int) (r_2:Int) (r_3:Int) (r_4:Int) (r_5:Int) (l_1:Tp9):Option (Int×(List UInt8)×Int×Int×Int×Tp9×Int×Int):=LFix (zjs zab ) (a,r,r_1,r_2,r_3,r_4,r_5,l_1)
def zbb (zab:(List UInt8)->Int->Int->Int->Int->Int->Tp9->Option (Int×(List UInt8)×Int×Int×Int×Tp9×Int×Int)) (c:(List UInt8)) (c_1:Int) (c_2:Int) (c_3:Int) (c_4:Int) (c_5:Int) (l:Tp9):Option (Int×(List UInt8)×Int×Int×Int×Tp9×Int×Int):=
  (zbW zab c c_1 c_2 c_3 c_4 c_5 l).bind (fun y'_40=>
  zbA zab y'_40.1 y'_40.2.1 y'_40.2.2.1 y'_40.2.2.2.1 y'_40.2.2.2.2.1 y'_40.2.2.2.2.2.2.1 y'_40.2.2.2.2.2.2.2 y'_40.2.2.2.2.2.1)
def zaR (zab:(List UInt8)->Int->Int->Int->Int->Int->Tp9->Option (Int×(List UInt8)×Int×Int×Int×Tp9×Int×Int)) (all':Bool) (y':(List UInt8)) (y'_1:Int) (y'_2:Int) (y'_3:Int) (y'_4:Tp9) (y'_5:Int) (y'_6:Int) (y'_8:Int) (t:Bool):Option (Int×(List UInt8)×Int×Int×Int×Tp9×Int×Int):=
  if t=true then
  G (fits (y'_1+(1:Int))) (
  (zab y' (y'_1+(1:Int)) y'_2 y'_3 y'_5 y'_6 y'_4).bind (fun y'_28=>
  (zbV (y'_8,(all',((0:Int),(y'_28.1,((0:Int),()))))) y'_28.2.1 y'_28.2.2.1 y'_28.2.2.2.1 y'_28.2.2.2.2.1 y'_28.2.2.2.2.2.2.1 y'_28.2.2.2.2.2.2.2 y'_28.2.2.2.2.2.1).bind (fun y'_27=>
  some (y'_27.1,y'_27.2.1,y'_27.2.2.1,y'_27.2.2.2.1,y'_27.2.2.2.2.1,y'_27.2.2.2.2.2.1,y'_27.2.2.2.2.2.2.1,y'_27.2.2.2.2.2.2.2)))) else
  if (decide (¬ y'_8=(40:Int)))=true then
  (zcm (4:Int) y' y'_1 y'_2 y'_3 y'_5 y'_6 y'_4).bind (fun y'_37=>
  some ((0:Int),y'_37.1,y'_37.2.1,y'_37.2.2.1,y'_37.2.2.2.1,y'_37.2.2.2.2.1,y'_37.2.2.2.2.2.1,y'_37.2.2.2.2.2.2)) else
  (zdl y' y'_1 y'_2 y'_3 y'_5 y'_6 y'_4).bind (fun y'_94=>
  (zbb zab y'_94.1 y'_94.2.1 y'_94.2.2.1 y'_94.2.2.2.1 y'_94.2.2.2.2.2.1 y'_94.2.2.2.2.2.2 y'_94.2.2.2.2.1).bind (fun y'_93=>
  (zcN (85:Int) y'_93.2.1 y'_93.2.2.1 y'_93.2.2.2.1 y'_93.2.2.2.2.1 y'_93.2.2.2.2.2.2.1 y'_93.2.2.2.2.2.2.2 y'_93.2.2.2.2.2.1).bind (fun y'_92=>
  (zbb zab y'_92.1 y'_92.2.1 y'_92.2.2.1 y'_92.2.2.2.1 y'_92.2.2.2.2.2.1 y'_92.2.2.2.2.2.2 y'_92.2.2.2.2.1).bind (fun y'_91=>
  (zcN (41:Int) y'_91.2.1 y'_91.2.2.1 y'_91.2.2.2.1 y'_91.2.2.2.2.1 y'_91.2.2.2.2.2.2.1 y'_91.2.2.2.2.2.2.2 y'_91.2.2.2.2.2.1).bind (fun y'_90=>
  G (fits (y'_90.2.2.1 - (1:Int))) (
  (zbV ((85:Int),(all',((0:Int),(y'_93.1,(y'_91.1,()))))) y'_90.1 y'_90.2.1 (y'_90.2.2.1 - (1:Int)) y'_90.2.2.2.1 y'_90.2.2.2.2.2.1 y'_90.2.2.2.2.2.2 y'_90.2.2.2.2.1).bind (fun y'_89=>
  some (y'_89.1,y'_89.2.1,y'_89.2.2.1,y'_89.2.2.2.1,y'_89.2.2.2.2.1,y'_89.2.2.2.2.2.1,y'_89.2.2.2.2.2.2.1,y'_89.2.2.2.2.2.2.2))))))))
def zdm (zab:(List UInt8)->Int->Int->Int->Int->Int->Tp9->Option (Int×(List UInt8)×Int×Int×Int×Tp9×Int×Int)) (all':Bool) (c:(List UInt8)) (c_1:Int) (c_2:Int) (c_3:Int) (c_4:Int) (c_5:Int) (l:Tp9):Option (Int×(List UInt8)×Int×Int×Int×Tp9×Int×Int):=
  (zbf c c_1 c_2 c_3 c_4 c_5 l).bind (fun y'_95=>
  (zdg (y'_95.1,(y'_95.2.1,(y'_95.2.2.1,(y'_95.2.2.2.1,(y'_95.2.2.2.2.1,((y'_95.2.2.2.2.2.1,(y'_95.2.2.2.2.2.2,())),()))))))).bind (fun y'_8=>
  if (decide (y'_8=(88:Int)))=true then
  zaR zab all' y'_95.1 y'_95.2.1 y'_95.2.2.1 y'_95.2.2.2.1 y'_95.2.2.2.2.1 y'_95.2.2.2.2.2.1 y'_95.2.2.2.2.2.2 y'_8 true else
  if (decide (y'_8=(70:Int)))=true then
  zaR zab all' y'_95.1 y'_95.2.1 y'_95.2.2.1 y'_95.2.2.2.1 y'_95.2.2.2.2.1 y'_95.2.2.2.2.2.1 y'_95.2.2.2.2.2.2 y'_8 true else
  zaR zab all' y'_95.1 y'_95.2.1 y'_95.2.2.1 y'_95.2.2.2.1 y'_95.2.2.2.2.1 y'_95.2.2.2.2.2.1 y'_95.2.2.2.2.2.2 y'_8 (decide (y'_8=(71:Int)))))
def zb2 (zab:(List UInt8)->Int->Int->Int->Int->Int->Tp9->Option (Int×(List UInt8)×Int×Int×Int×Tp9×Int×Int)) (c:(List UInt8)) (c_1:Int) (c_2:Int) (c_3:Int) (c_4:Int) (c_5:Int) (l:Tp9) (y'_1:Int) (t_2:Bool):Option (Int×(List UInt8)×Int×Int×Int×Tp9×Int×Int):=
  if t_2=true then
  (zdm zab (decide (y'_1=(65:Int))) c c_1 c_2 c_3 c_4 c_5 l).bind (fun y'_78=>
  some (y'_78.1,y'_78.2.1,y'_78.2.2.1,y'_78.2.2.2.1,y'_78.2.2.2.2.1,y'_78.2.2.2.2.2.1,y'_78.2.2.2.2.2.2.1,y'_78.2.2.2.2.2.2.2)) else
  if (decide (¬ y'_1=(40:Int)))=true then
  (zcm (4:Int) c c_1 c_2 c_3 c_4 c_5 l).bind (fun y'_87=>
  some ((0:Int),y'_87.1,y'_87.2.1,y'_87.2.2.1,y'_87.2.2.2.1,y'_87.2.2.2.2.1,y'_87.2.2.2.2.2.1,y'_87.2.2.2.2.2.2)) else
  (zdl c c_1 c_2 c_3 c_4 c_5 l).bind (fun y'_115=>
  (zbb zab y'_115.1 y'_115.2.1 y'_115.2.2.1 y'_115.2.2.2.1 y'_115.2.2.2.2.2.1 y'_115.2.2.2.2.2.2 y'_115.2.2.2.2.1).bind (fun y'_114=>
  (zcN (41:Int) y'_114.2.1 y'_114.2.2.1 y'_114.2.2.2.1 y'_114.2.2.2.2.1 y'_114.2.2.2.2.2.2.1 y'_114.2.2.2.2.2.2.2 y'_114.2.2.2.2.2.1).bind (fun y'_113=>
  G (fits (y'_113.2.2.1 - (1:Int))) (
  some (y'_114.1,y'_113.1,y'_113.2.1,y'_113.2.2.1 - (1:Int),y'_113.2.2.2.1,y'_113.2.2.2.2.1,y'_113.2.2.2.2.2.1,y'_113.2.2.2.2.2.2)))))
def zcp (zab:(List UInt8)->Int->Int->Int->Int->Int->Tp9->Option (Int×(List UInt8)×Int×Int×Int×Tp9×Int×Int)) (c:(List UInt8)) (c_1:Int) (c_2:Int) (c_3:Int) (c_4:Int) (c_5:Int) (l:Tp9) (y'_1:Int) (t_1:Bool):Option (Int×(List UInt8)×Int×Int×Int×Tp9×Int×Int):=
  if t_1=true then
  (zbf c c_1 c_2 c_3 c_4 c_5 l).bind (fun y'_39=>
  G (fits ((IntKind.wrap .i64 y'_1) - (97:Int))) (
  (zbV ((97:Int),(false,((IntKind.wrap .i64 y'_1) - (97:Int),((0:Int),((0:Int),()))))) y'_39.1 y'_39.2.1 y'_39.2.2.1 y'_39.2.2.2.1 y'_39.2.2.2.2.2.1 y'_39.2.2.2.2.2.2 y'_39.2.2.2.2.1).bind (fun y'_38=>
  some (y'_38.1,y'_38.2.1,y'_38.2.2.1,y'_38.2.2.2.1,y'_38.2.2.2.2.1,y'_38.2.2.2.2.2.1,y'_38.2.2.2.2.2.2.1,y'_38.2.2.2.2.2.2.2)))) else
  if (decide (y'_1=(33:Int)))=true then
  (zbf c c_1 c_2 c_3 c_4 c_5 l).bind (fun y'_68=>
  (zab y'_68.1 y'_68.2.1 y'_68.2.2.1 y'_68.2.2.2.1 y'_68.2.2.2.2.2.1 y'_68.2.2.2.2.2.2 y'_68.2.2.2.2.1).bind (fun y'_67=>
  (zbV ((33:Int),(false,((0:Int),(y'_67.1,((0:Int),()))))) y'_67.2.1 y'_67.2.2.1 y'_67.2.2.2.1 y'_67.2.2.2.2.1 y'_67.2.2.2.2.2.2.1 y'_67.2.2.2.2.2.2.2 y'_67.2.2.2.2.2.1).bind (fun y'_66=>
  some (y'_66.1,y'_66.2.1,y'_66.2.2.1,y'_66.2.2.2.1,y'_66.2.2.2.2.1,y'_66.2.2.2.2.2.1,y'_66.2.2.2.2.2.2.1,y'_66.2.2.2.2.2.2.2)))) else
  if (decide (y'_1=(69:Int)))=true then
  zb2 zab c c_1 c_2 c_3 c_4 c_5 l y'_1 true else
  zb2 zab c c_1 c_2 c_3 c_4 c_5 l y'_1 (decide (y'_1=(65:Int)))
def zco (zab:(List UInt8)->Int->Int->Int->Int->Int->Tp9->Option (Int×(List UInt8)×Int×Int×Int×Tp9×Int×Int)) (c:(List UInt8)) (c_1:Int) (c_2:Int) (c_3:Int) (c_4:Int) (c_5:Int) (l:Tp9) (y'_1:Int) (t:Bool):Option (Int×(List UInt8)×Int×Int×Int×Tp9×Int×Int):=
  if t=true then
  (zbf c c_1 c_2 c_3 c_4 c_5 l).bind (fun y'_20=>
  (zbV (y'_1,(false,((0:Int),((0:Int),((0:Int),()))))) y'_20.1 y'_20.2.1 y'_20.2.2.1 y'_20.2.2.2.1 y'_20.2.2.2.2.2.1 y'_20.2.2.2.2.2.2 y'_20.2.2.2.2.1).bind (fun y'_19=>
  some (y'_19.1,y'_19.2.1,y'_19.2.2.1,y'_19.2.2.2.1,y'_19.2.2.2.2.1,y'_19.2.2.2.2.2.1,y'_19.2.2.2.2.2.2.1,y'_19.2.2.2.2.2.2.2))) else
  if (decide ((97:Int)<=y'_1))=true then
  zcp zab c c_1 c_2 c_3 c_4 c_5 l y'_1 (decide (y'_1<=(100:Int))) else
  zcp zab c c_1 c_2 c_3 c_4 c_5 l y'_1 false
def zcD (zab:(List UInt8)->Int->Int->Int->Int->Int->Tp9->Option (Int×(List UInt8)×Int×Int×Int×Tp9×Int×Int)) (c:(List UInt8)) (c_1:Int) (c_2:Int) (c_3:Int) (c_4:Int) (c_5:Int) (l:Tp9):Option (Int×(List UInt8)×Int×Int×Int×Tp9×Int×Int):=
  (zh2 (c,(c_1,(c_2,(c_3,(l,((c_4,(c_5,())),()))))))).bind (fun y'=>
  if (!y')=true then
  some ((0:Int),c,c_1,c_2,c_3,l,c_4,c_5) else
  (zdg (c,(c_1,(c_2,(c_3,(l,((c_4,(c_5,())),()))))))).bind (fun y'_1=>
  if (decide (y'_1=(48:Int)))=true then
  zco zab c c_1 c_2 c_3 c_4 c_5 l y'_1 true else
  zco zab c c_1 c_2 c_3 c_4 c_5 l y'_1 (decide (y'_1=(49:Int)))))
theorem zh4 (zab:Nat->(List UInt8)->Int->Int->Int->Int->Int->Tp9->Option (Int×(List UInt8)×Int×Int×Int×Tp9×Int×Int)) (zag:(List UInt8)->Int->Int->Int->Int->Int->Tp9->Option (Int×(List UInt8)×Int×Int×Int×Tp9×Int×Int)) (zah:∀ a0 a1 a2 a3 a4 a5 a6,ChO (fun κ=>zab κ a0 a1 a2 a3 a4 a5 a6) (zag a0 a1 a2 a3 a4 a5 a6)) (r2:Nat->Int->(List UInt8)->Int->Int->Int->Int->Int->Tp9->Option (Int×(List UInt8)×Int×Int×Int×Tp9×Int×Int)) (r2':Int->(List UInt8)->Int->Int->Int->Int->Int->Tp9->Option (Int×(List UInt8)×Int×Int×Int×Tp9×Int×Int)) (h_r2:∀ a0 a1 a2 a3 a4 a5 a6 a7,ChO (fun κ=>r2 κ a0 a1 a2 a3 a4 a5 a6 a7) (r2' a0 a1 a2 a3 a4 a5 a6 a7)) (a:Int) (r:(List UInt8)) (r_1:Int) (r_2:Int) (r_3:Int) (r_4:Int) (r_5:Int) (l_1:Tp9):ChO (fun κ=>zbJ (zab κ) (r2 κ) a r r_1 r_2 r_3 r_4 r_5 l_1) (zbJ zag r2' a r r_1 r_2 r_3 r_4 r_5 l_1):=by
  unfold zbJ
  repeat' with_reducible first | exact ChO.const _ | exact zah _ _ _ _ _ _ _ | exact h_r2 _ _ _ _ _ _ _ _ | apply ChO.ite | apply ChO.G | apply ChO.both | (apply ChO.bind;intro _) | (apply ChO.bind2 (zah _ _ _ _ _ _ _);intro _) | (refine ChO.bind2 ?_ (fun _ => ?_))
theorem zfl (zab:(List UInt8)->Int->Int->Int->Int->Int->Tp9->Option (Int×(List UInt8)×Int×Int×Int×Tp9×Int×Int)):Cn (zjT zab):=fun g h hg x=>zh4 (fun _=>zab) zab (fun _ _ _ _ _ _ _=>ChO.const _) (fun κ a r r_1 r_2 r_3 r_4 r_5 l_1=>g κ (a,r,r_1,r_2,r_3,r_4,r_5,l_1)) (fun a r r_1 r_2 r_3 r_4 r_5 l_1=>h (a,r,r_1,r_2,r_3,r_4,r_5,l_1)) (fun a r r_1 r_2 r_3 r_4 r_5 l_1=>hg (a,r,r_1,r_2,r_3,r_4,r_5,l_1))  x.1 x.2.1 x.2.2.1 x.2.2.2.1 x.2.2.2.2.1 x.2.2.2.2.2.1 x.2.2.2.2.2.2.1 x.2.2.2.2.2.2.2
theorem zjr (zab:(List UInt8)->Int->Int->Int->Int->Int->Tp9->Option (Int×(List UInt8)×Int×Int×Int×Tp9×Int×Int))  (a:Int) (r:(List UInt8)) (r_1:Int) (r_2:Int) (r_3:Int) (r_4:Int) (r_5:Int) (l_1:Tp9):zbN zab a r r_1 r_2 r_3 r_4 r_5 l_1=zbJ zab (zbN zab) a r r_1 r_2 r_3 r_4 r_5 l_1:=zaz (zfl zab) (a,r,r_1,r_2,r_3,r_4,r_5,l_1)
theorem za3 (zab:Nat->(List UInt8)->Int->Int->Int->Int->Int->Tp9->Option (Int×(List UInt8)×Int×Int×Int×Tp9×Int×Int)) (zag:(List UInt8)->Int->Int->Int->Int->Int->Tp9->Option (Int×(List UInt8)×Int×Int×Int×Tp9×Int×Int)) (zah:∀ a0 a1 a2 a3 a4 a5 a6,ChO (fun κ=>zab κ a0 a1 a2 a3 a4 a5 a6) (zag a0 a1 a2 a3 a4 a5 a6))  (a:Int) (r:(List UInt8)) (r_1:Int) (r_2:Int) (r_3:Int) (r_4:Int) (r_5:Int) (l_1:Tp9):ChO (fun κ=>zbN (zab κ) a r r_1 r_2 r_3 r_4 r_5 l_1) (zbN zag a r r_1 r_2 r_3 r_4 r_5 l_1):=by
  unfold zbN
  exact zqp (fun κ=>(zfl (zab κ) ).mono) (zfl zag ).mono (fun g h hg x=>zh4 zab zag zah (fun κ a r r_1 r_2 r_3 r_4 r_5 l_1=>g κ (a,r,r_1,r_2,r_3,r_4,r_5,l_1)) (fun a r r_1 r_2 r_3 r_4 r_5 l_1=>h (a,r,r_1,r_2,r_3,r_4,r_5,l_1)) (fun a r r_1 r_2 r_3 r_4 r_5 l_1=>hg (a,r,r_1,r_2,r_3,r_4,r_5,l_1))  x.1 x.2.1 x.2.2.1 x.2.2.2.1 x.2.2.2.2.1 x.2.2.2.2.2.1 x.2.2.2.2.2.2.1 x.2.2.2.2.2.2.2) _
theorem zbO (zab:Nat->(List UInt8)->Int->Int->Int->Int->Int->Tp9->Option (Int×(List UInt8)×Int×Int×Int×Tp9×Int×Int)) (zag:(List UInt8)->Int->Int->Int->Int->Int->Tp9->Option (Int×(List UInt8)×Int×Int×Int×Tp9×Int×Int)) (zah:∀ a0 a1 a2 a3 a4 a5 a6,ChO (fun κ=>zab κ a0 a1 a2 a3 a4 a5 a6) (zag a0 a1 a2 a3 a4 a5 a6)) (c:(List UInt8)) (c_1:Int) (c_2:Int) (c_3:Int) (c_4:Int) (c_5:Int) (l:Tp9):ChO (fun κ=>zbW (zab κ) c c_1 c_2 c_3 c_4 c_5 l) (zbW zag c c_1 c_2 c_3 c_4 c_5 l):=by
  unfold zbW
  repeat' with_reducible first | exact ChO.const _ | exact zah _ _ _ _ _ _ _ | (apply za3<;>assumption) | apply ChO.ite | apply ChO.G | apply ChO.both | (apply ChO.bind;intro _) | (apply ChO.bind2 (zah _ _ _ _ _ _ _);intro _) | (refine ChO.bind2 ?_ (fun _ => ?_))
theorem zhp (zab:Nat->(List UInt8)->Int->Int->Int->Int->Int->Tp9->Option (Int×(List UInt8)×Int×Int×Int×Tp9×Int×Int)) (zag:(List UInt8)->Int->Int->Int->Int->Int->Tp9->Option (Int×(List UInt8)×Int×Int×Int×Tp9×Int×Int)) (zah:∀ a0 a1 a2 a3 a4 a5 a6,ChO (fun κ=>zab κ a0 a1 a2 a3 a4 a5 a6) (zag a0 a1 a2 a3 a4 a5 a6)) (r2:Nat->Int->(List UInt8)->Int->Int->Int->Int->Int->Tp9->Option (Int×(List UInt8)×Int×Int×Int×Tp9×Int×Int)) (r2':Int->(List UInt8)->Int->Int->Int->Int->Int->Tp9->Option (Int×(List UInt8)×Int×Int×Int×Tp9×Int×Int)) (h_r2:∀ a0 a1 a2 a3 a4 a5 a6 a7,ChO (fun κ=>r2 κ a0 a1 a2 a3 a4 a5 a6 a7) (r2' a0 a1 a2 a3 a4 a5 a6 a7)) (a:Int) (r:(List UInt8)) (r_1:Int) (r_2:Int) (r_3:Int) (r_4:Int) (r_5:Int) (l_1:Tp9):ChO (fun κ=>zbB (zab κ) (r2 κ) a r r_1 r_2 r_3 r_4 r_5 l_1) (zbB zag r2' a r r_1 r_2 r_3 r_4 r_5 l_1):=by
  unfold zbB
  repeat' with_reducible first | exact ChO.const _ | exact zah _ _ _ _ _ _ _ | exact h_r2 _ _ _ _ _ _ _ _ | (apply za3<;>assumption) | (apply zbO<;>assumption) | apply ChO.ite | apply ChO.G | apply ChO.both | (apply ChO.bind;intro _) | (apply ChO.bind2 (zah _ _ _ _ _ _ _);intro _) | (refine ChO.bind2 ?_ (fun _ => ?_))
theorem zeZ (zab:(List UInt8)->Int->Int->Int->Int->Int->Tp9->Option (Int×(List UInt8)×Int×Int×Int×Tp9×Int×Int)):Cn (zjs zab):=fun g h hg x=>zhp (fun _=>zab) zab (fun _ _ _ _ _ _ _=>ChO.const _) (fun κ a r r_1 r_2 r_3 r_4 r_5 l_1=>g κ (a,r,r_1,r_2,r_3,r_4,r_5,l_1)) (fun a r r_1 r_2 r_3 r_4 r_5 l_1=>h (a,r,r_1,r_2,r_3,r_4,r_5,l_1)) (fun a r r_1 r_2 r_3 r_4 r_5 l_1=>hg (a,r,r_1,r_2,r_3,r_4,r_5,l_1))  x.1 x.2.1 x.2.2.1 x.2.2.2.1 x.2.2.2.2.1 x.2.2.2.2.2.1 x.2.2.2.2.2.2.1 x.2.2.2.2.2.2.2
theorem ziK (zab:(List UInt8)->Int->Int->Int->Int->Int->Tp9->Option (Int×(List UInt8)×Int×Int×Int×Tp9×Int×Int))  (a:Int) (r:(List UInt8)) (r_1:Int) (r_2:Int) (r_3:Int) (r_4:Int) (r_5:Int) (l_1:Tp9):zbA zab a r r_1 r_2 r_3 r_4 r_5 l_1=zbB zab (zbA zab) a r r_1 r_2 r_3 r_4 r_5 l_1:=zaz (zeZ zab) (a,r,r_1,r_2,r_3,r_4,r_5,l_1)
theorem zbo (zab:Nat->(List UInt8)->Int->Int->Int->Int->Int->Tp9->Option (Int×(List UInt8)×Int×Int×Int×Tp9×Int×Int)) (zag:(List UInt8)->Int->Int->Int->Int->Int->Tp9->Option (Int×(List UInt8)×Int×Int×Int×Tp9×Int×Int)) (zah:∀ a0 a1 a2 a3 a4 a5 a6,ChO (fun κ=>zab κ a0 a1 a2 a3 a4 a5 a6) (zag a0 a1 a2 a3 a4 a5 a6))  (a:Int) (r:(List UInt8)) (r_1:Int) (r_2:Int) (r_3:Int) (r_4:Int) (r_5:Int) (l_1:Tp9):ChO (fun κ=>zbA (zab κ) a r r_1 r_2 r_3 r_4 r_5 l_1) (zbA zag a r r_1 r_2 r_3 r_4 r_5 l_1):=by
  unfold zbA
  exact zqp (fun κ=>(zeZ (zab κ) ).mono) (zeZ zag ).mono (fun g h hg x=>zhp zab zag zah (fun κ a r r_1 r_2 r_3 r_4 r_5 l_1=>g κ (a,r,r_1,r_2,r_3,r_4,r_5,l_1)) (fun a r r_1 r_2 r_3 r_4 r_5 l_1=>h (a,r,r_1,r_2,r_3,r_4,r_5,l_1)) (fun a r r_1 r_2 r_3 r_4 r_5 l_1=>hg (a,r,r_1,r_2,r_3,r_4,r_5,l_1))  x.1 x.2.1 x.2.2.1 x.2.2.2.1 x.2.2.2.2.1 x.2.2.2.2.2.1 x.2.2.2.2.2.2.1 x.2.2.2.2.2.2.2) _
theorem zcE (zab:Nat->(List UInt8)->Int->Int->Int->Int->Int->Tp9->Option (Int×(List UInt8)×Int×Int×Int×Tp9×Int×Int)) (zag:(List UInt8)->Int->Int->Int->Int->Int->Tp9->Option (Int×(List UInt8)×Int×Int×Int×Tp9×Int×Int)) (zah:∀ a0 a1 a2 a3 a4 a5 a6,ChO (fun κ=>zab κ a0 a1 a2 a3 a4 a5 a6) (zag a0 a1 a2 a3 a4 a5 a6)) (c:(List UInt8)) (c_1:Int) (c_2:Int) (c_3:Int) (c_4:Int) (c_5:Int) (l:Tp9):ChO (fun κ=>zbb (zab κ) c c_1 c_2 c_3 c_4 c_5 l) (zbb zag c c_1 c_2 c_3 c_4 c_5 l):=by
  unfold zbb
  repeat' with_reducible first | exact ChO.const _ | exact zah _ _ _ _ _ _ _ | (apply za3<;>assumption) | (apply zbO<;>assumption) | (apply zbo<;>assumption) | apply ChO.ite | apply ChO.G | apply ChO.both | (apply ChO.bind;intro _) | (apply ChO.bind2 (zah _ _ _ _ _ _ _);intro _) | (refine ChO.bind2 ?_ (fun _ => ?_))
theorem zcO (zab:Nat->(List UInt8)->Int->Int->Int->Int->Int->Tp9->Option (Int×(List UInt8)×Int×Int×Int×Tp9×Int×Int)) (zag:(List UInt8)->Int->Int->Int->Int->Int->Tp9->Option (Int×(List UInt8)×Int×Int×Int×Tp9×Int×Int)) (zah:∀ a0 a1 a2 a3 a4 a5 a6,ChO (fun κ=>zab κ a0 a1 a2 a3 a4 a5 a6) (zag a0 a1 a2 a3 a4 a5 a6)) (all':Bool) (y':(List UInt8)) (y'_1:Int) (y'_2:Int) (y'_3:Int) (y'_4:Tp9) (y'_5:Int) (y'_6:Int) (y'_8:Int) (t:Bool):ChO (fun κ=>zaR (zab κ) all' y' y'_1 y'_2 y'_3 y'_4 y'_5 y'_6 y'_8 t) (zaR zag all' y' y'_1 y'_2 y'_3 y'_4 y'_5 y'_6 y'_8 t):=by
  unfold zaR
  repeat' with_reducible first | exact ChO.const _ | exact zah _ _ _ _ _ _ _ | (apply za3<;>assumption) | (apply zbO<;>assumption) | (apply zbo<;>assumption) | (apply zcE<;>assumption) | apply ChO.ite | apply ChO.G | apply ChO.both | (apply ChO.bind;intro _) | (apply ChO.bind2 (zah _ _ _ _ _ _ _);intro _) | (refine ChO.bind2 ?_ (fun _ => ?_))
theorem ze1 (zab:Nat->(List UInt8)->Int->Int->Int->Int->Int->Tp9->Option (Int×(List UInt8)×Int×Int×Int×Tp9×Int×Int)) (zag:(List UInt8)->Int->Int->Int->Int->Int->Tp9->Option (Int×(List UInt8)×Int×Int×Int×Tp9×Int×Int)) (zah:∀ a0 a1 a2 a3 a4 a5 a6,ChO (fun κ=>zab κ a0 a1 a2 a3 a4 a5 a6) (zag a0 a1 a2 a3 a4 a5 a6)) (all':Bool) (c:(List UInt8)) (c_1:Int) (c_2:Int) (c_3:Int) (c_4:Int) (c_5:Int) (l:Tp9):ChO (fun κ=>zdm (zab κ) all' c c_1 c_2 c_3 c_4 c_5 l) (zdm zag all' c c_1 c_2 c_3 c_4 c_5 l):=by
  unfold zdm
  repeat' with_reducible first | exact ChO.const _ | exact zah _ _ _ _ _ _ _ | (apply za3<;>assumption) | (apply zbO<;>assumption) | (apply zbo<;>assumption) | (apply zcE<;>assumption) | (apply zcO<;>assumption) | apply ChO.ite | apply ChO.G | apply ChO.both | (apply ChO.bind;intro _) | (apply ChO.bind2 (zah _ _ _ _ _ _ _);intro _) | (refine ChO.bind2 ?_ (fun _ => ?_))
theorem zeY (zab:Nat->(List UInt8)->Int->Int->Int->Int->Int->Tp9->Option (Int×(List UInt8)×Int×Int×Int×Tp9×Int×Int)) (zag:(List UInt8)->Int->Int->Int->Int->Int->Tp9->Option (Int×(List UInt8)×Int×Int×Int×Tp9×Int×Int)) (zah:∀ a0 a1 a2 a3 a4 a5 a6,ChO (fun κ=>zab κ a0 a1 a2 a3 a4 a5 a6) (zag a0 a1 a2 a3 a4 a5 a6)) (c:(List UInt8)) (c_1:Int) (c_2:Int) (c_3:Int) (c_4:Int) (c_5:Int) (l:Tp9) (y'_1:Int) (t_2:Bool):ChO (fun κ=>zb2 (zab κ) c c_1 c_2 c_3 c_4 c_5 l y'_1 t_2) (zb2 zag c c_1 c_2 c_3 c_4 c_5 l y'_1 t_2):=by
  unfold zb2
  repeat' with_reducible first | exact ChO.const _ | exact zah _ _ _ _ _ _ _ | (apply za3<;>assumption) | (apply zbO<;>assumption) | (apply zbo<;>assumption) | (apply zcE<;>assumption) | (apply zcO<;>assumption) | (apply ze1<;>assumption) | apply ChO.ite | apply ChO.G | apply ChO.both | (apply ChO.bind;intro _) | (apply ChO.bind2 (zah _ _ _ _ _ _ _);intro _) | (refine ChO.bind2 ?_ (fun _ => ?_))
theorem zjq (zab:Nat->(List UInt8)->Int->Int->Int->Int->Int->Tp9->Option (Int×(List UInt8)×Int×Int×Int×Tp9×Int×Int)) (zag:(List UInt8)->Int->Int->Int->Int->Int->Tp9->Option (Int×(List UInt8)×Int×Int×Int×Tp9×Int×Int)) (zah:∀ a0 a1 a2 a3 a4 a5 a6,ChO (fun κ=>zab κ a0 a1 a2 a3 a4 a5 a6) (zag a0 a1 a2 a3 a4 a5 a6)) (c:(List UInt8)) (c_1:Int) (c_2:Int) (c_3:Int) (c_4:Int) (c_5:Int) (l:Tp9) (y'_1:Int) (t_1:Bool):ChO (fun κ=>zcp (zab κ) c c_1 c_2 c_3 c_4 c_5 l y'_1 t_1) (zcp zag c c_1 c_2 c_3 c_4 c_5 l y'_1 t_1):=by
  unfold zcp
  repeat' with_reducible first | exact ChO.const _ | exact zah _ _ _ _ _ _ _ | (apply za3<;>assumption) | (apply zbO<;>assumption) | (apply zbo<;>assumption) | (apply zcE<;>assumption) | (apply zcO<;>assumption) | (apply ze1<;>assumption) | (apply zeY<;>assumption) | apply ChO.ite | apply ChO.G | apply ChO.both | (apply ChO.bind;intro _) | (apply ChO.bind2 (zah _ _ _ _ _ _ _);intro _) | (refine ChO.bind2 ?_ (fun _ => ?_))
theorem zoU (zab:Nat->(List UInt8)->Int->Int->Int->Int->Int->Tp9->Option (Int×(List UInt8)×Int×Int×Int×Tp9×Int×Int)) (zag:(List UInt8)->Int->Int->Int->Int->Int->Tp9->Option (Int×(List UInt8)×Int×Int×Int×Tp9×Int×Int)) (zah:∀ a0 a1 a2 a3 a4 a5 a6,ChO (fun κ=>zab κ a0 a1 a2 a3 a4 a5 a6) (zag a0 a1 a2 a3 a4 a5 a6)) (c:(List UInt8)) (c_1:Int) (c_2:Int) (c_3:Int) (c_4:Int) (c_5:Int) (l:Tp9) (y'_1:Int) (t:Bool):ChO (fun κ=>zco (zab κ) c c_1 c_2 c_3 c_4 c_5 l y'_1 t) (zco zag c c_1 c_2 c_3 c_4 c_5 l y'_1 t):=by
  unfold zco
  repeat' with_reducible first | exact ChO.const _ | exact zah _ _ _ _ _ _ _ | (apply za3<;>assumption) | (apply zbO<;>assumption) | (apply zbo<;>assumption) | (apply zcE<;>assumption) | (apply zcO<;>assumption) | (apply ze1<;>assumption) | (apply zeY<;>assumption) | (apply zjq<;>assumption) | apply ChO.ite | apply ChO.G | apply ChO.both | (apply ChO.bind;intro _) | (apply ChO.bind2 (zah _ _ _ _ _ _ _);intro _) | (refine ChO.bind2 ?_ (fun _ => ?_))
theorem zpO (zab:Nat->(List UInt8)->Int->Int->Int->Int->Int->Tp9->Option (Int×(List UInt8)×Int×Int×Int×Tp9×Int×Int)) (zag:(List UInt8)->Int->Int->Int->Int->Int->Tp9->Option (Int×(List UInt8)×Int×Int×Int×Tp9×Int×Int)) (zah:∀ a0 a1 a2 a3 a4 a5 a6,ChO (fun κ=>zab κ a0 a1 a2 a3 a4 a5 a6) (zag a0 a1 a2 a3 a4 a5 a6)) (c:(List UInt8)) (c_1:Int) (c_2:Int) (c_3:Int) (c_4:Int) (c_5:Int) (l:Tp9):ChO (fun κ=>zcD (zab κ) c c_1 c_2 c_3 c_4 c_5 l) (zcD zag c c_1 c_2 c_3 c_4 c_5 l):=by
  unfold zcD
  repeat' with_reducible first | exact ChO.const _ | exact zah _ _ _ _ _ _ _ | (apply za3<;>assumption) | (apply zbO<;>assumption) | (apply zbo<;>assumption) | (apply zcE<;>assumption) | (apply zcO<;>assumption) | (apply ze1<;>assumption) | (apply zeY<;>assumption) | (apply zjq<;>assumption) | (apply zoU<;>assumption) | apply ChO.ite | apply ChO.G | apply ChO.both | (apply ChO.bind;intro _) | (apply ChO.bind2 (zah _ _ _ _ _ _ _);intro _) | (refine ChO.bind2 ?_ (fun _ => ?_))
def zex:((List UInt8)×Int×Int×Int×Int×Int×Tp9->Option (Int×(List UInt8)×Int×Int×Int×Tp9×Int×Int))->(List UInt8)×Int×Int×Int×Int×Int×Tp9->Option (Int×(List UInt8)×Int×Int×Int×Tp9×Int×Int):=
  fun rec X=>zcD (fun c c_1 c_2 c_3 c_4 c_5 l=>rec (c,c_1,c_2,c_3,c_4,c_5,l)) X.1 X.2.1 X.2.2.1 X.2.2.2.1 X.2.2.2.2.1 X.2.2.2.2.2.1 X.2.2.2.2.2.2
def zau (c:(List UInt8)) (c_1:Int) (c_2:Int) (c_3:Int) (c_4:Int) (c_5:Int) (l:Tp9):Option (Int×(List UInt8)×Int×Int×Int×Tp9×Int×Int):=LFix zex (c,c_1,c_2,c_3,c_4,c_5,l)
theorem zrC:Cn zex:=fun g h hg X=>zpO _ _ (fun c c_1 c_2 c_3 c_4 c_5 l=>hg (c,c_1,c_2,c_3,c_4,c_5,l)) X.1 X.2.1 X.2.2.1 X.2.2.2.1 X.2.2.2.2.1 X.2.2.2.2.2.1 X.2.2.2.2.2.2
theorem zlC (c:(List UInt8)) (c_1:Int) (c_2:Int) (c_3:Int) (c_4:Int) (c_5:Int) (l:Tp9):zau c c_1 c_2 c_3 c_4 c_5 l=zcD zau c c_1 c_2 c_3 c_4 c_5 l:=zaz zrC (c,c_1,c_2,c_3,c_4,c_5,l)
def zlI (c:(List UInt8)) (c_1:Int) (c_2:Int) (c_3:Int) (c_4:Int) (c_5:Int) (l:Tp9):Option (Int×(List UInt8)×Int×Int×Int×Tp9×Int×Int):=zbb zau c c_1 c_2 c_3 c_4 c_5 l
def zkz (text:(List UInt8)):Option (Int×(Int×Int×Unit)×Tp9):=
  if (decide ((4000:Int) < (text.length:Int)))=true then
  some ((0:Int),((1:Int),((0:Int),())),[]) else
  (zlI text (0:Int) (0:Int) (0:Int) (0:Int) (0:Int) ([]:List Tp10)).bind (fun y'_18=>
  if (decide (y'_18.2.2.1 < (text.length:Int)))=true then
  (zcm (4:Int) y'_18.2.1 y'_18.2.2.1 y'_18.2.2.2.1 y'_18.2.2.2.2.1 y'_18.2.2.2.2.2.2.1 y'_18.2.2.2.2.2.2.2 y'_18.2.2.2.2.2.1).bind (fun y'_17=>
  if (decide (¬ y'_17.2.2.2.2.2.1=(0:Int)))=true then
  some ((0:Int),(y'_17.2.2.2.2.2.1,(y'_17.2.2.2.2.2.2,())),[]) else
  some (y'_18.1,((0:Int),((0:Int),())),y'_17.2.2.2.2.1)) else
  if (decide (¬ y'_18.2.2.2.2.2.2.1=(0:Int)))=true then
  some ((0:Int),(y'_18.2.2.2.2.2.2.1,(y'_18.2.2.2.2.2.2.2,())),[]) else
  some (y'_18.1,((0:Int),((0:Int),())),y'_18.2.2.2.2.2.1))

def zeF (g':Tp7) (p:Int) (q:Int) (r3:Bool->Int->Option (Bool)) (any:Bool) (i:Int):Option (Bool):=
  if (decide (i < (g'.2.2.1.length:Int)))=true then
  G (0<=i/\i < (g'.2.2.1.length:Int)) (
  if (decide (((ix g'.2.2.1 i).1)=p))=true then
  G (0<=i/\i < (g'.2.2.1.length:Int)) (
  if (decide (((((ix g'.2.2.1 i).2).2).1)=q))=true then
  some true else
  G (fits (i+(1:Int))) (
  r3 true (i+(1:Int)))) else
  G (fits (i+(1:Int))) (
  r3 any (i+(1:Int)))) else
  if (!any)=true then
  some (decide (p=q)) else
  some false
def zry (g':Tp7) (p:Int) (q:Int):(Bool×Int->Option (Bool))->Bool×Int->Option (Bool):=
  fun rec x=>zeF g' p q (fun any i=>rec (any,i)) x.1 x.2
def znw (g':Tp7) (p:Int) (q:Int) (any:Bool) (i:Int):Option (Bool):=LFix (zry g' p q ) (any,i)
def znv (g':Tp7) (p:Int) (q:Int):Option (Bool):=
  znw g' p q false (0:Int)
theorem ztk (r3:Nat->Bool->Int->Option (Bool)) (r3':Bool->Int->Option (Bool)) (h_r3:∀ a0 a1,ChO (fun κ=>r3 κ a0 a1) (r3' a0 a1)) (g':Tp7) (p:Int) (q:Int) (any:Bool) (i:Int):ChO (fun κ=>zeF g' p q (r3 κ) any i) (zeF g' p q r3' any i):=by
  unfold zeF
  repeat' with_reducible first | exact ChO.const _ | exact h_r3 _ _ | apply ChO.ite | apply ChO.G | apply ChO.both | (apply ChO.bind;intro _)
theorem zu4  (g':Tp7) (p:Int) (q:Int):Cn (zry g' p q):=fun g h hg x=>ztk  (fun κ any i=>g κ (any,i)) (fun any i=>h (any,i)) (fun any i=>hg (any,i)) g' p q x.1 x.2
theorem zp8  (g':Tp7) (p:Int) (q:Int) (any:Bool) (i:Int):znw g' p q any i=zeF g' p q (znw g' p q) any i:=zaz (zu4 g' p q) (any,i)

def zc9 (g':Tp7) (p:Int) (in':Tp16) (r2:Int->Option (Bool)) (q:Int):Option (Bool):=
  if (decide (q < g'.2.1))=true then
  (znv (g'.1,(g'.2.1,(g'.2.2.1,()))) p q).bind (fun y'=>
  if y'=true then
  G (0<=q/\q < (in'.length:Int)) (
  if (ix in' q)=true then
  some true else
  G (fits (q+(1:Int))) (
  r2 (q+(1:Int)))) else
  G (fits (q+(1:Int))) (
  r2 (q+(1:Int)))) else
  some false
def zrM (g':Tp7) (p:Int) (in':Tp16):(Int->Option (Bool))->Int->Option (Bool):=
  fun rec x=>zc9 g' p in' (fun q=>rec q) x
def zqB (g':Tp7) (p:Int) (in':Tp16) (q:Int):Option (Bool):=LFix (zrM g' p in' ) q
def znz (g':Tp7) (p:Int) (in':Tp16):Option (Bool):=
  zqB g' p in' (0:Int)
theorem ztp (r2:Nat->Int->Option (Bool)) (r2':Int->Option (Bool)) (h_r2:∀ a0,ChO (fun κ=>r2 κ a0) (r2' a0)) (g':Tp7) (p:Int) (in':Tp16) (q:Int):ChO (fun κ=>zc9 g' p in' (r2 κ) q) (zc9 g' p in' r2' q):=by
  unfold zc9
  repeat' with_reducible first | exact ChO.const _ | exact h_r2 _ | apply ChO.ite | apply ChO.G | apply ChO.both | (apply ChO.bind;intro _)
theorem zu5  (g':Tp7) (p:Int) (in':Tp16):Cn (zrM g' p in'):=fun g h hg x=>ztp  (fun κ q=>g κ q) (fun q=>h q) (fun q=>hg q) g' p in' x
theorem zi9  (g':Tp7) (p:Int) (in':Tp16) (q:Int):zqB g' p in' q=zc9 g' p in' (zqB g' p in') q:=zaz (zu5 g' p in') q

def zcI (g':Tp7) (p:Int) (in':Tp16) (r2:Int->Option (Bool)) (q:Int):Option (Bool):=
  if (decide (q < g'.2.1))=true then
  (znv (g'.1,(g'.2.1,(g'.2.2.1,()))) p q).bind (fun y'=>
  if y'=true then
  G (0<=q/\q < (in'.length:Int)) (
  if (!(ix in' q))=true then
  some false else
  G (fits (q+(1:Int))) (
  r2 (q+(1:Int)))) else
  G (fits (q+(1:Int))) (
  r2 (q+(1:Int)))) else
  some true
def zp7 (g':Tp7) (p:Int) (in':Tp16):(Int->Option (Bool))->Int->Option (Bool):=
  fun rec x=>zcI g' p in' (fun q=>rec q) x
def zoS (g':Tp7) (p:Int) (in':Tp16) (q:Int):Option (Bool):=LFix (zp7 g' p in' ) q
def zky (g':Tp7) (p:Int) (in':Tp16):Option (Bool):=
  zoS g' p in' (0:Int)
theorem zss (r2:Nat->Int->Option (Bool)) (r2':Int->Option (Bool)) (h_r2:∀ a0,ChO (fun κ=>r2 κ a0) (r2' a0)) (g':Tp7) (p:Int) (in':Tp16) (q:Int):ChO (fun κ=>zcI g' p in' (r2 κ) q) (zcI g' p in' r2' q):=by
  unfold zcI
  repeat' with_reducible first | exact ChO.const _ | exact h_r2 _ | apply ChO.ite | apply ChO.G | apply ChO.both | (apply ChO.bind;intro _)
theorem zuy  (g':Tp7) (p:Int) (in':Tp16):Cn (zp7 g' p in'):=fun g h hg x=>zss  (fun κ q=>g κ q) (fun q=>h q) (fun q=>hg q) g' p in' x
theorem zh1  (g':Tp7) (p:Int) (in':Tp16) (q:Int):zoS g' p in' q=zcI g' p in' (zoS g' p in') q:=zaz (zuy g' p in') q

def zde (a:Tp16) (b:Tp16) (r4:Int->Option (Bool)) (i:Int):Option (Bool):=
  if (decide (i < (a.length:Int)))=true then
  G (0<=i/\i < (a.length:Int)) (
  G (0<=i/\i < (b.length:Int)) (
  if (decide (¬ (ix a i)=(ix b i)))=true then
  some false else
  G (fits (i+(1:Int))) (
  r4 (i+(1:Int))))) else
  some true
def zp5 (a:Tp16) (b:Tp16):(Int->Option (Bool))->Int->Option (Bool):=
  fun rec x=>zde a b (fun i=>rec i) x
def zoO (a:Tp16) (b:Tp16) (i:Int):Option (Bool):=LFix (zp5 a b ) i
def zfk (a:Tp16) (b:Tp16):Option (Bool):=
  if (decide (¬ (a.length:Int)=(b.length:Int)))=true then
  some false else
  zoO a b (0:Int)
theorem zsq (r4:Nat->Int->Option (Bool)) (r4':Int->Option (Bool)) (h_r4:∀ a0,ChO (fun κ=>r4 κ a0) (r4' a0)) (a:Tp16) (b:Tp16) (i:Int):ChO (fun κ=>zde a b (r4 κ) i) (zde a b r4' i):=by
  unfold zde
  repeat' with_reducible first | exact ChO.const _ | exact h_r4 _ | apply ChO.ite | apply ChO.G | apply ChO.both | (apply ChO.bind;intro _)
theorem zuw  (a:Tp16) (b:Tp16):Cn (zp5 a b):=fun g h hg x=>zsq  (fun κ i=>g κ i) (fun i=>h i) (fun i=>hg i) a b x
theorem zkw  (a:Tp16) (b:Tp16) (i:Int):zoO a b i=zde a b (zoO a b) i:=zaz (zuw a b) i

def zfp (b:Tp16) (p_1:Int) (r8:(Int->Tp16->Option Tp16)) (next'_1:Tp16) (t:Bool):Option Tp16:=
  if t=true then
  G (0<=p_1/\p_1 < (b.length:Int)) (
  if (ix b p_1)=true then
  G (0<=p_1/\p_1 < (next'_1.length:Int)) (
  G ((p_1).toNat < next'_1.length) (
  G (fits (p_1+(1:Int))) (
  r8 (p_1+(1:Int)) (next'_1.set (p_1).toNat true)))) else
  G (0<=p_1/\p_1 < (next'_1.length:Int)) (
  G ((p_1).toNat < next'_1.length) (
  G (0<=p_1/\p_1 < (next'_1.length:Int)) (
  G ((p_1).toNat < next'_1.length) (
  G (fits (p_1+(1:Int))) (
  r8 (p_1+(1:Int)) (next'_1.set (p_1).toNat (ix next'_1 p_1)))))))) else
  G (fits (p_1+(1:Int))) (
  r8 (p_1+(1:Int)) next'_1)
def zfo (b:Tp16) (p_1:Int) (r8:(Int->Tp16->Option Tp16)) (next'_1:Tp16):Option Tp16:=
  if b.length=0 then both [(.list .bool)] (
  zfp b p_1 r8 next'_1 true) (
  zfp b p_1 r8 next'_1 false) else
  zfp b p_1 r8 next'_1 true
def zfn (a:Tp16) (b:Tp16) (p_1:Int) (next':Tp16) (r8:(Int->Tp16->Option Tp16)) (goes:Bool):Option Tp16:=
  G (0<=p_1/\p_1 < (a.length:Int)) (
  if (ix a p_1)=true then
  G (0<=p_1/\p_1 < (next'.length:Int)) (
  G ((p_1).toNat < next'.length) (
  zfo b p_1 r8 (next'.set (p_1).toNat goes))) else
  G (0<=p_1/\p_1 < (next'.length:Int)) (
  G ((p_1).toNat < next'.length) (
  zfo b p_1 r8 (next'.set (p_1).toNat false))))
def zeJ (g':Tp7) (all':Bool) (a:Tp16) (b:Tp16) (out_1:Tp16) (r6:(Tp16->Option Tp16)) (r8:Int->Tp16->Option Tp16) (p_1:Int) (next':Tp16):Option Tp16:=
  if (decide (p_1 < g'.2.1))=true then
  (znz (g'.1,(g'.2.1,(g'.2.2.1,()))) p_1 out_1).bind (fun y'=>
  if all'=true then
  (zky (g'.1,(g'.2.1,(g'.2.2.1,()))) p_1 out_1).bind (fun y'_1=>
  zfn a b p_1 next' r8 y'_1) else
  zfn a b p_1 next' r8 y') else
  (zfk next' out_1).bind (fun y'_2=>
  if y'_2=true then
  some out_1 else
  r6 next')
def zrS (g':Tp7) (all':Bool) (a:Tp16) (b:Tp16) (out_1:Tp16) (r6:(Tp16->Option Tp16)):(Int×Tp16->Option Tp16)->Int×Tp16->Option Tp16:=
  fun rec x=>zeJ g' all' a b out_1 r6 (fun p_1 next'=>rec (p_1,next')) x.1 x.2
def zcX (g':Tp7) (all':Bool) (a:Tp16) (b:Tp16) (out_1:Tp16) (r6:(Tp16->Option Tp16)) (p_1:Int) (next':Tp16):Option Tp16:=LFix (zrS g' all' a b out_1 r6 ) (p_1,next')
def zfz (g':Tp7) (all':Bool) (a:Tp16) (b:Tp16) (r6:Tp16->Option Tp16) (out_1:Tp16):Option Tp16:=
  G (mkOK g'.2.1 g'.2.1 1) (
  zcX g' all' a b out_1 r6 (0:Int) (List.replicate (g'.2.1).toNat (false:Bool)))
def zrR (g':Tp7) (all':Bool) (a:Tp16) (b:Tp16):(List Bool->Option Tp16)->List Bool->Option Tp16:=
  fun rec x=>zfz g' all' a b (fun out_1=>rec out_1) x
def zbK (g':Tp7) (all':Bool) (a:Tp16) (b:Tp16) (out_1:Tp16):Option Tp16:=LFix (zrR g' all' a b ) out_1
def zeI (g':Tp7) (all':Bool) (a:Tp16) (b:Tp16) (r3:Int->Tp16->Option Tp16) (p:Int) (out:Tp16):Option Tp16:=
  if (decide (p < g'.2.1))=true then
  if b.length=0 then both [(.list .bool)] (
  G (0<=p/\p < (out.length:Int)) (
  G ((p).toNat < out.length) (
  G (fits (p+(1:Int))) (
  r3 (p+(1:Int)) (out.set (p).toNat true))))) (
  G (0<=p/\p < (out.length:Int)) (
  G ((p).toNat < out.length) (
  G (fits (p+(1:Int))) (
  r3 (p+(1:Int)) (out.set (p).toNat false))))) else
  G (0<=p/\p < (out.length:Int)) (
  G ((p).toNat < out.length) (
  G (fits (p+(1:Int))) (
  r3 (p+(1:Int)) (out.set (p).toNat false)))) else
  zbK g' all' a b out
def zrQ (g':Tp7) (all':Bool) (a:Tp16) (b:Tp16):(Int×Tp16->Option Tp16)->Int×Tp16->Option Tp16:=
  fun rec x=>zeI g' all' a b (fun p out=>rec (p,out)) x.1 x.2
def zkL (g':Tp7) (all':Bool) (a:Tp16) (b:Tp16) (p:Int) (out:Tp16):Option Tp16:=LFix (zrQ g' all' a b ) (p,out)
def zlJ (g':Tp7) (all':Bool) (a:Tp16) (b:Tp16):Option Tp16:=
  G (mkOK g'.2.1 g'.2.1 1) (
  zkL g' all' a b (0:Int) (List.replicate (g'.2.1).toNat (false:Bool)))
theorem zfq (r8:Nat->Int->Tp16->Option Tp16) (r8':Int->Tp16->Option Tp16) (h_r8:∀ a0 a1,ChO (fun κ=>r8 κ a0 a1) (r8' a0 a1)) (b:Tp16) (p_1:Int) (next'_1:Tp16) (t:Bool):ChO (fun κ=>zfp b p_1 (r8 κ) next'_1 t) (zfp b p_1 r8' next'_1 t):=by
  unfold zfp
  repeat' with_reducible first | exact ChO.const _ | exact h_r8 _ _ | apply ChO.ite | apply ChO.G | apply ChO.both | (apply ChO.bind;intro _)
theorem zh9 (r8:Nat->Int->Tp16->Option Tp16) (r8':Int->Tp16->Option Tp16) (h_r8:∀ a0 a1,ChO (fun κ=>r8 κ a0 a1) (r8' a0 a1)) (b:Tp16) (p_1:Int) (next'_1:Tp16):ChO (fun κ=>zfo b p_1 (r8 κ) next'_1) (zfo b p_1 r8' next'_1):=by
  unfold zfo
  repeat' with_reducible first | exact ChO.const _ | exact h_r8 _ _ | (apply zfq<;>assumption) | apply ChO.ite | apply ChO.G | apply ChO.both | (apply ChO.bind;intro _)
theorem zkK (r8:Nat->Int->Tp16->Option Tp16) (r8':Int->Tp16->Option Tp16) (h_r8:∀ a0 a1,ChO (fun κ=>r8 κ a0 a1) (r8' a0 a1)) (a:Tp16) (b:Tp16) (p_1:Int) (next':Tp16) (goes:Bool):ChO (fun κ=>zfn a b p_1 next' (r8 κ) goes) (zfn a b p_1 next' r8' goes):=by
  unfold zfn
  repeat' with_reducible first | exact ChO.const _ | exact h_r8 _ _ | (apply zfq<;>assumption) | (apply zh9<;>assumption) | apply ChO.ite | apply ChO.G | apply ChO.both | (apply ChO.bind;intro _)
theorem znR (r6:Nat->Tp16->Option Tp16) (r6':Tp16->Option Tp16) (h_r6:∀ a0,ChO (fun κ=>r6 κ a0) (r6' a0)) (r8:Nat->Int->Tp16->Option Tp16) (r8':Int->Tp16->Option Tp16) (h_r8:∀ a0 a1,ChO (fun κ=>r8 κ a0 a1) (r8' a0 a1)) (g':Tp7) (all':Bool) (a:Tp16) (b:Tp16) (out_1:Tp16) (p_1:Int) (next':Tp16):ChO (fun κ=>zeJ g' all' a b out_1 (r6 κ) (r8 κ) p_1 next') (zeJ g' all' a b out_1 r6' r8' p_1 next'):=by
  unfold zeJ
  repeat' with_reducible first | exact ChO.const _ | exact h_r6 _ | exact h_r8 _ _ | (apply zfq<;>assumption) | (apply zh9<;>assumption) | (apply zkK<;>assumption) | apply ChO.ite | apply ChO.G | apply ChO.both | (apply ChO.bind;intro _)
theorem zl8 (r6:Tp16->Option Tp16) (g':Tp7) (all':Bool) (a:Tp16) (b:Tp16) (out_1:Tp16):Cn (zrS g' all' a b out_1 r6):=fun g h hg x=>znR (fun _=>r6) r6 (fun _=>ChO.const _) (fun κ p_1 next'=>g κ (p_1,next')) (fun p_1 next'=>h (p_1,next')) (fun p_1 next'=>hg (p_1,next')) g' all' a b out_1 x.1 x.2
theorem zqe (r6:Tp16->Option Tp16) (g':Tp7) (all':Bool) (a:Tp16) (b:Tp16) (out_1:Tp16) (p_1:Int) (next':Tp16):zcX g' all' a b out_1 r6 p_1 next'=zeJ g' all' a b out_1 r6 (zcX g' all' a b out_1 r6) p_1 next':=zaz (zl8 r6 g' all' a b out_1) (p_1,next')
theorem zqd (r6:Nat->Tp16->Option Tp16) (r6':Tp16->Option Tp16) (h_r6:∀ a0,ChO (fun κ=>r6 κ a0) (r6' a0)) (g':Tp7) (all':Bool) (a:Tp16) (b:Tp16) (out_1:Tp16) (p_1:Int) (next':Tp16):ChO (fun κ=>zcX g' all' a b out_1 (r6 κ) p_1 next') (zcX g' all' a b out_1 r6' p_1 next'):=by
  unfold zcX
  exact zqp (fun κ=>(zl8 (r6 κ) g' all' a b out_1).mono) (zl8 r6' g' all' a b out_1).mono (fun g h hg x=>znR r6 r6' h_r6 (fun κ p_1 next'=>g κ (p_1,next')) (fun p_1 next'=>h (p_1,next')) (fun p_1 next'=>hg (p_1,next')) g' all' a b out_1 x.1 x.2) _
theorem ztu (r6:Nat->Tp16->Option Tp16) (r6':Tp16->Option Tp16) (h_r6:∀ a0,ChO (fun κ=>r6 κ a0) (r6' a0)) (g':Tp7) (all':Bool) (a:Tp16) (b:Tp16) (out_1:Tp16):ChO (fun κ=>zfz g' all' a b (r6 κ) out_1) (zfz g' all' a b r6' out_1):=by
  unfold zfz
  repeat' with_reducible first | exact ChO.const _ | exact h_r6 _ | (apply zfq<;>assumption) | (apply zh9<;>assumption) | (apply zkK<;>assumption) | (apply zqd<;>assumption) | apply ChO.ite | apply ChO.G | apply ChO.both | (apply ChO.bind;intro _)
theorem zu7  (g':Tp7) (all':Bool) (a:Tp16) (b:Tp16):Cn (zrR g' all' a b):=fun g h hg x=>ztu  (fun κ out_1=>g κ out_1) (fun out_1=>h out_1) (fun out_1=>hg out_1) g' all' a b x
theorem zu8  (g':Tp7) (all':Bool) (a:Tp16) (b:Tp16) (out_1:Tp16):zbK g' all' a b out_1=zfz g' all' a b (zbK g' all' a b) out_1:=zaz (zu7 g' all' a b) out_1
theorem ztt (r3:Nat->Int->Tp16->Option Tp16) (r3':Int->Tp16->Option Tp16) (h_r3:∀ a0 a1,ChO (fun κ=>r3 κ a0 a1) (r3' a0 a1)) (g':Tp7) (all':Bool) (a:Tp16) (b:Tp16) (p:Int) (out:Tp16):ChO (fun κ=>zeI g' all' a b (r3 κ) p out) (zeI g' all' a b r3' p out):=by
  unfold zeI
  repeat' with_reducible first | exact ChO.const _ | exact h_r3 _ _ | (apply zfq<;>assumption) | (apply zh9<;>assumption) | (apply zkK<;>assumption) | (apply zqd<;>assumption) | apply ChO.ite | apply ChO.G | apply ChO.both | (apply ChO.bind;intro _)
theorem zu6  (g':Tp7) (all':Bool) (a:Tp16) (b:Tp16):Cn (zrQ g' all' a b):=fun g h hg x=>ztt  (fun κ p out=>g κ (p,out)) (fun p out=>h (p,out)) (fun p out=>hg (p,out)) g' all' a b x.1 x.2
theorem zqc  (g':Tp7) (all':Bool) (a:Tp16) (b:Tp16) (p:Int) (out:Tp16):zkL g' all' a b p out=zeI g' all' a b (zkL g' all' a b) p out:=zaz (zu6 g' all' a b) (p,out)

def zef (a:Tp16) (p_1:Int) (next':Tp16) (r8:(Int->Tp16->Option Tp16)) (goes:Bool):Option Tp16:=
  G (0<=p_1/\p_1 < (a.length:Int)) (
  if (ix a p_1)=true then
  G (0<=p_1/\p_1 < (next'.length:Int)) (
  G ((p_1).toNat < next'.length) (
  G (fits (p_1+(1:Int))) (
  r8 (p_1+(1:Int)) (next'.set (p_1).toNat goes)))) else
  G (0<=p_1/\p_1 < (next'.length:Int)) (
  G ((p_1).toNat < next'.length) (
  G (fits (p_1+(1:Int))) (
  r8 (p_1+(1:Int)) (next'.set (p_1).toNat false)))))
def zdr (g':Tp7) (all':Bool) (a:Tp16) (out_1:Tp16) (r6:(Tp16->Option Tp16)) (r8:Int->Tp16->Option Tp16) (p_1:Int) (next':Tp16):Option Tp16:=
  if (decide (p_1 < g'.2.1))=true then
  (znz (g'.1,(g'.2.1,(g'.2.2.1,()))) p_1 out_1).bind (fun y'=>
  if all'=true then
  (zky (g'.1,(g'.2.1,(g'.2.2.1,()))) p_1 out_1).bind (fun y'_1=>
  zef a p_1 next' r8 y'_1) else
  zef a p_1 next' r8 y') else
  (zfk next' out_1).bind (fun y'_2=>
  if y'_2=true then
  some out_1 else
  r6 next')
def zo3 (g':Tp7) (all':Bool) (a:Tp16) (out_1:Tp16) (r6:(Tp16->Option Tp16)):(Int×Tp16->Option Tp16)->Int×Tp16->Option Tp16:=
  fun rec x=>zdr g' all' a out_1 r6 (fun p_1 next'=>rec (p_1,next')) x.1 x.2
def zcJ (g':Tp7) (all':Bool) (a:Tp16) (out_1:Tp16) (r6:(Tp16->Option Tp16)) (p_1:Int) (next':Tp16):Option Tp16:=LFix (zo3 g' all' a out_1 r6 ) (p_1,next')
def zez (g':Tp7) (all':Bool) (a:Tp16) (r6:Tp16->Option Tp16) (out_1:Tp16):Option Tp16:=
  G (mkOK g'.2.1 g'.2.1 1) (
  zcJ g' all' a out_1 r6 (0:Int) (List.replicate (g'.2.1).toNat (false:Bool)))
def zo2 (g':Tp7) (all':Bool) (a:Tp16):(List Bool->Option Tp16)->List Bool->Option Tp16:=
  fun rec x=>zez g' all' a (fun out_1=>rec out_1) x
def zbr (g':Tp7) (all':Bool) (a:Tp16) (out_1:Tp16):Option Tp16:=LFix (zo2 g' all' a ) out_1
def zdq (g':Tp7) (all':Bool) (a:Tp16) (r3:Int->Tp16->Option Tp16) (p:Int) (out:Tp16):Option Tp16:=
  if (decide (p < g'.2.1))=true then
  G (0<=p/\p < (out.length:Int)) (
  G ((p).toNat < out.length) (
  G (fits (p+(1:Int))) (
  r3 (p+(1:Int)) (out.set (p).toNat true)))) else
  zbr g' all' a out
def zo1 (g':Tp7) (all':Bool) (a:Tp16):(Int×Tp16->Option Tp16)->Int×Tp16->Option Tp16:=
  fun rec x=>zdq g' all' a (fun p out=>rec (p,out)) x.1 x.2
def zh8 (g':Tp7) (all':Bool) (a:Tp16) (p:Int) (out:Tp16):Option Tp16:=LFix (zo1 g' all' a ) (p,out)
def zmS (g':Tp7) (all':Bool) (a:Tp16):Option Tp16:=
  G (mkOK g'.2.1 g'.2.1 1) (
  zh8 g' all' a (0:Int) (List.replicate (g'.2.1).toNat (false:Bool)))
theorem zi1 (r8:Nat->Int->Tp16->Option Tp16) (r8':Int->Tp16->Option Tp16) (h_r8:∀ a0 a1,ChO (fun κ=>r8 κ a0 a1) (r8' a0 a1)) (a:Tp16) (p_1:Int) (next':Tp16) (goes:Bool):ChO (fun κ=>zef a p_1 next' (r8 κ) goes) (zef a p_1 next' r8' goes):=by
  unfold zef
  repeat' with_reducible first | exact ChO.const _ | exact h_r8 _ _ | apply ChO.ite | apply ChO.G | apply ChO.both | (apply ChO.bind;intro _)
theorem zlK (r6:Nat->Tp16->Option Tp16) (r6':Tp16->Option Tp16) (h_r6:∀ a0,ChO (fun κ=>r6 κ a0) (r6' a0)) (r8:Nat->Int->Tp16->Option Tp16) (r8':Int->Tp16->Option Tp16) (h_r8:∀ a0 a1,ChO (fun κ=>r8 κ a0 a1) (r8' a0 a1)) (g':Tp7) (all':Bool) (a:Tp16) (out_1:Tp16) (p_1:Int) (next':Tp16):ChO (fun κ=>zdr g' all' a out_1 (r6 κ) (r8 κ) p_1 next') (zdr g' all' a out_1 r6' r8' p_1 next'):=by
  unfold zdr
  repeat' with_reducible first | exact ChO.const _ | exact h_r6 _ | exact h_r8 _ _ | (apply zi1<;>assumption) | apply ChO.ite | apply ChO.G | apply ChO.both | (apply ChO.bind;intro _)
theorem zjN (r6:Tp16->Option Tp16) (g':Tp7) (all':Bool) (a:Tp16) (out_1:Tp16):Cn (zo3 g' all' a out_1 r6):=fun g h hg x=>zlK (fun _=>r6) r6 (fun _=>ChO.const _) (fun κ p_1 next'=>g κ (p_1,next')) (fun p_1 next'=>h (p_1,next')) (fun p_1 next'=>hg (p_1,next')) g' all' a out_1 x.1 x.2
theorem znQ (r6:Tp16->Option Tp16) (g':Tp7) (all':Bool) (a:Tp16) (out_1:Tp16) (p_1:Int) (next':Tp16):zcJ g' all' a out_1 r6 p_1 next'=zdr g' all' a out_1 r6 (zcJ g' all' a out_1 r6) p_1 next':=zaz (zjN r6 g' all' a out_1) (p_1,next')
theorem znP (r6:Nat->Tp16->Option Tp16) (r6':Tp16->Option Tp16) (h_r6:∀ a0,ChO (fun κ=>r6 κ a0) (r6' a0)) (g':Tp7) (all':Bool) (a:Tp16) (out_1:Tp16) (p_1:Int) (next':Tp16):ChO (fun κ=>zcJ g' all' a out_1 (r6 κ) p_1 next') (zcJ g' all' a out_1 r6' p_1 next'):=by
  unfold zcJ
  exact zqp (fun κ=>(zjN (r6 κ) g' all' a out_1).mono) (zjN r6' g' all' a out_1).mono (fun g h hg x=>zlK r6 r6' h_r6 (fun κ p_1 next'=>g κ (p_1,next')) (fun p_1 next'=>h (p_1,next')) (fun p_1 next'=>hg (p_1,next')) g' all' a out_1 x.1 x.2) _
theorem zrO (r6:Nat->Tp16->Option Tp16) (r6':Tp16->Option Tp16) (h_r6:∀ a0,ChO (fun κ=>r6 κ a0) (r6' a0)) (g':Tp7) (all':Bool) (a:Tp16) (out_1:Tp16):ChO (fun κ=>zez g' all' a (r6 κ) out_1) (zez g' all' a r6' out_1):=by
  unfold zez
  repeat' with_reducible first | exact ChO.const _ | exact h_r6 _ | (apply zi1<;>assumption) | (apply znP<;>assumption) | apply ChO.ite | apply ChO.G | apply ChO.both | (apply ChO.bind;intro _)
theorem ztr  (g':Tp7) (all':Bool) (a:Tp16):Cn (zo2 g' all' a):=fun g h hg x=>zrO  (fun κ out_1=>g κ out_1) (fun out_1=>h out_1) (fun out_1=>hg out_1) g' all' a x
theorem zts  (g':Tp7) (all':Bool) (a:Tp16) (out_1:Tp16):zbr g' all' a out_1=zez g' all' a (zbr g' all' a) out_1:=zaz (ztr g' all' a) out_1
theorem zrN (r3:Nat->Int->Tp16->Option Tp16) (r3':Int->Tp16->Option Tp16) (h_r3:∀ a0 a1,ChO (fun κ=>r3 κ a0 a1) (r3' a0 a1)) (g':Tp7) (all':Bool) (a:Tp16) (p:Int) (out:Tp16):ChO (fun κ=>zdq g' all' a (r3 κ) p out) (zdq g' all' a r3' p out):=by
  unfold zdq
  repeat' with_reducible first | exact ChO.const _ | exact h_r3 _ _ | (apply zi1<;>assumption) | (apply znP<;>assumption) | apply ChO.ite | apply ChO.G | apply ChO.both | (apply ChO.bind;intro _)
theorem ztq  (g':Tp7) (all':Bool) (a:Tp16):Cn (zo1 g' all' a):=fun g h hg x=>zrN  (fun κ p out=>g κ (p,out)) (fun p out=>h (p,out)) (fun p out=>hg (p,out)) g' all' a x.1 x.2
theorem znO  (g':Tp7) (all':Bool) (a:Tp16) (p:Int) (out:Tp16):zh8 g' all' a p out=zdq g' all' a (zh8 g' all' a) p out:=zaz (ztq g' all' a) (p,out)

def zeK (g':Tp7) (i:Int) (out_1:Tp16) (r11:(Int->Tp16->Option Tp16)) (t_1:Bool):Option Tp16:=
  if t_1=true then
  G (0<=i/\i < (g'.2.2.1.length:Int)) (
  G (0<=(ix g'.2.2.1 i).1/\(ix g'.2.2.1 i).1 < (out_1.length:Int)) (
  G (((ix g'.2.2.1 i).1).toNat < out_1.length) (
  G (fits (i+(1:Int))) (
  r11 (i+(1:Int)) (out_1.set ((ix g'.2.2.1 i).1).toNat true))))) else
  G (fits (i+(1:Int))) (
  r11 (i+(1:Int)) out_1)
def zcq (g':Tp7) (l:Tp9) (k:Int) (r11:Int->Tp16->Option Tp16) (i:Int) (out_1:Tp16):Option Tp16:=
  if (decide (i < (g'.2.2.1.length:Int)))=true then
  if (decide (((ix l k).1)=(97:Int)))=true then
  G (0<=i/\i < (g'.2.2.1.length:Int)) (
  zeK g' i out_1 r11 (decide ((((ix g'.2.2.1 i).2).1)=((((ix l k).2).2).1)))) else
  zeK g' i out_1 r11 false else
  some out_1
def zo4 (g':Tp7) (l:Tp9) (k:Int):(Int×Tp16->Option Tp16)->Int×Tp16->Option Tp16:=
  fun rec x=>zcq g' l k (fun i out_1=>rec (i,out_1)) x.1 x.2
def zbY (g':Tp7) (l:Tp9) (k:Int) (i:Int) (out_1:Tp16):Option Tp16:=LFix (zo4 g' l k ) (i,out_1)
def zeh (g':Tp7) (l:Tp9) (k:Int) (r7:Int->Tp16->Option Tp16) (p:Int) (out:Tp16):Option Tp16:=
  if (decide (p < g'.2.1))=true then
  G (0<=p/\p < (out.length:Int)) (
  G ((p).toNat < out.length) (
  G (fits (p+(1:Int))) (
  r7 (p+(1:Int)) (out.set (p).toNat (decide (((ix l k).1)=(49:Int))))))) else
  zbY g' l k (0:Int) out
def zqf (g':Tp7) (l:Tp9) (k:Int):(Int×Tp16->Option Tp16)->Int×Tp16->Option Tp16:=
  fun rec x=>zeh g' l k (fun p out=>rec (p,out)) x.1 x.2
def zhr (g':Tp7) (l:Tp9) (k:Int) (p:Int) (out:Tp16):Option Tp16:=LFix (zqf g' l k ) (p,out)
def zds (g':Tp7) (l:Tp9) (k:Int) (y':Tp16) (r27:Int->Tp16->Option Tp16) (p_1:Int) (b_1:Tp16):Option Tp16:=
  if (decide (p_1 < g'.2.1))=true then
  G (0<=p_1/\p_1 < (b_1.length:Int)) (
  G ((p_1).toNat < b_1.length) (
  G (fits (p_1+(1:Int))) (
  r27 (p_1+(1:Int)) (b_1.set (p_1).toNat true)))) else
  (zlJ (g'.1,(g'.2.1,(g'.2.2.1,()))) (((ix l k).2).1) b_1 y').bind (fun y'_4=>
  some y'_4)
def zo5 (g':Tp7) (l:Tp9) (k:Int) (y':Tp16):(Int×Tp16->Option Tp16)->Int×Tp16->Option Tp16:=
  fun rec x=>zds g' l k y' (fun p_1 b_1=>rec (p_1,b_1)) x.1 x.2
def zfA (g':Tp7) (l:Tp9) (k:Int) (y':Tp16) (p_1:Int) (b_1:Tp16):Option Tp16:=LFix (zo5 g' l k y' ) (p_1,b_1)
def zdt (g':Tp7) (l:Tp9) (k:Int) (y':Tp16) (b:Tp16) (r32:Int->Tp16->Option Tp16) (p_2:Int) (out_2:Tp16):Option Tp16:=
  if (decide (p_2 < g'.2.1))=true then
  if (decide (((ix l k).1)=(33:Int)))=true then
  G (0<=p_2/\p_2 < (y'.length:Int)) (
  G ((p_2).toNat < y'.length) (
  G (0<=p_2/\p_2 < (out_2.length:Int)) (
  G ((p_2).toNat < out_2.length) (
  G (fits (p_2+(1:Int))) (
  r32 (p_2+(1:Int)) (out_2.set (p_2).toNat (!(ix y' p_2)))))))) else
  if (decide (((ix l k).1)=(38:Int)))=true then
  G (0<=p_2/\p_2 < (y'.length:Int)) (
  G ((p_2).toNat < y'.length) (
  if (ix y' p_2)=true then
  G (0<=p_2/\p_2 < (b.length:Int)) (
  G ((p_2).toNat < b.length) (
  G (0<=p_2/\p_2 < (out_2.length:Int)) (
  G ((p_2).toNat < out_2.length) (
  G (fits (p_2+(1:Int))) (
  r32 (p_2+(1:Int)) (out_2.set (p_2).toNat (ix b p_2))))))) else
  G (0<=p_2/\p_2 < (out_2.length:Int)) (
  G ((p_2).toNat < out_2.length) (
  G (fits (p_2+(1:Int))) (
  r32 (p_2+(1:Int)) (out_2.set (p_2).toNat false)))))) else
  if (decide (((ix l k).1)=(124:Int)))=true then
  G (0<=p_2/\p_2 < (y'.length:Int)) (
  G ((p_2).toNat < y'.length) (
  if (ix y' p_2)=true then
  G (0<=p_2/\p_2 < (out_2.length:Int)) (
  G ((p_2).toNat < out_2.length) (
  G (fits (p_2+(1:Int))) (
  r32 (p_2+(1:Int)) (out_2.set (p_2).toNat true)))) else
  G (0<=p_2/\p_2 < (b.length:Int)) (
  G ((p_2).toNat < b.length) (
  G (0<=p_2/\p_2 < (out_2.length:Int)) (
  G ((p_2).toNat < out_2.length) (
  G (fits (p_2+(1:Int))) (
  r32 (p_2+(1:Int)) (out_2.set (p_2).toNat (ix b p_2))))))))) else
  if (decide (((ix l k).1)=(88:Int)))=true then
  (znz (g'.1,(g'.2.1,(g'.2.2.1,()))) p_2 y').bind (fun y'_5=>
  G (0<=p_2/\p_2 < (out_2.length:Int)) (
  G ((p_2).toNat < out_2.length) (
  if (((ix l k).2).1)=true then
  (zky (g'.1,(g'.2.1,(g'.2.2.1,()))) p_2 y').bind (fun y'_6=>
  G (0<=p_2/\p_2 < ((out_2.set (p_2).toNat y'_5).length:Int)) (
  G ((p_2).toNat < (out_2.set (p_2).toNat y'_5).length) (
  G (fits (p_2+(1:Int))) (
  r32 (p_2+(1:Int)) ((out_2.set (p_2).toNat y'_5).set (p_2).toNat y'_6))))) else
  G (fits (p_2+(1:Int))) (
  r32 (p_2+(1:Int)) (out_2.set (p_2).toNat y'_5))))) else
  G (fits (p_2+(1:Int))) (
  r32 (p_2+(1:Int)) out_2) else
  some out_2
def zo6 (g':Tp7) (l:Tp9) (k:Int) (y':Tp16) (b:Tp16):(Int×Tp16->Option Tp16)->Int×Tp16->Option Tp16:=
  fun rec x=>zdt g' l k y' b (fun p_2 out_2=>rec (p_2,out_2)) x.1 x.2
def zeL (g':Tp7) (l:Tp9) (k:Int) (y':Tp16) (b:Tp16) (p_2:Int) (out_2:Tp16):Option Tp16:=LFix (zo6 g' l k y' b ) (p_2,out_2)
def zbG (g':Tp7) (l:Tp9) (k:Int) (y':Tp16) (b:Tp16):Option Tp16:=
  if (decide (((ix l k).1)=(85:Int)))=true then
  (zlJ (g'.1,(g'.2.1,(g'.2.2.1,()))) (((ix l k).2).1) y' b).bind (fun y'_2=>
  some y'_2) else
  if (decide (((ix l k).1)=(71:Int)))=true then
  (zmS (g'.1,(g'.2.1,(g'.2.2.1,()))) (((ix l k).2).1) y').bind (fun y'_3=>
  some y'_3) else
  if (decide (((ix l k).1)=(70:Int)))=true then
  zfA g' l k y' (0:Int) b else
  zeL g' l k y' b (0:Int) (List.replicate (g'.2.1).toNat (false:Bool))
def zda (zba:Tp7->Tp9->Int->Option Tp16) (g':Tp7) (l:Tp9) (k:Int) (y':Tp16) (t_2:Bool):Option Tp16:=
  if t_2=true then
  (zba (g'.1,(g'.2.1,(g'.2.2.1,()))) l ((((((ix l k).2).2).2).2).1)).bind (fun y'_1=>
  zbG g' l k y' y'_1) else
  zbG g' l k y' (List.replicate (g'.2.1).toNat (false:Bool))
def zd1 (zba:Tp7->Tp9->Int->Option Tp16) (g':Tp7) (l:Tp9) (k:Int) (t:Bool):Option Tp16:=
  if t=true then
  zhr g' l k (0:Int) (List.replicate (g'.2.1).toNat (false:Bool)) else
  (zba (g'.1,(g'.2.1,(g'.2.2.1,()))) l (((((ix l k).2).2).2).1)).bind (fun y'=>
  G (mkOK g'.2.1 g'.2.1 1) (
  if (decide (((ix l k).1)=(38:Int)))=true then
  zda zba g' l k y' true else
  if (decide (((ix l k).1)=(124:Int)))=true then
  zda zba g' l k y' true else
  zda zba g' l k y' (decide (((ix l k).1)=(85:Int)))))
def zeg (zba:Tp7->Tp9->Int->Option Tp16) (g':Tp7) (l:Tp9) (k:Int):Option Tp16:=
  G (0<=k/\k < (l.length:Int)) (
  G (mkOK g'.2.1 g'.2.1 1) (
  if (decide (((ix l k).1)=(48:Int)))=true then
  some (List.replicate (g'.2.1).toNat (false:Bool)) else
  if (decide (((ix l k).1)=(49:Int)))=true then
  zd1 zba g' l k true else
  zd1 zba g' l k (decide (((ix l k).1)=(97:Int)))))
theorem zcY (r11:Nat->Int->Tp16->Option Tp16) (r11':Int->Tp16->Option Tp16) (h_r11:∀ a0 a1,ChO (fun κ=>r11 κ a0 a1) (r11' a0 a1)) (g':Tp7) (i:Int) (out_1:Tp16) (t_1:Bool):ChO (fun κ=>zeK g' i out_1 (r11 κ) t_1) (zeK g' i out_1 r11' t_1):=by
  unfold zeK
  repeat' with_reducible first | exact ChO.const _ | exact h_r11 _ _ | apply ChO.ite | apply ChO.G | apply ChO.both | (apply ChO.bind;intro _)
theorem zrT (r11:Nat->Int->Tp16->Option Tp16) (r11':Int->Tp16->Option Tp16) (h_r11:∀ a0 a1,ChO (fun κ=>r11 κ a0 a1) (r11' a0 a1)) (g':Tp7) (l:Tp9) (k:Int) (i:Int) (out_1:Tp16):ChO (fun κ=>zcq g' l k (r11 κ) i out_1) (zcq g' l k r11' i out_1):=by
  unfold zcq
  repeat' with_reducible first | exact ChO.const _ | exact h_r11 _ _ | (apply zcY<;>assumption) | apply ChO.ite | apply ChO.G | apply ChO.both | (apply ChO.bind;intro _)
theorem ztv  (g':Tp7) (l:Tp9) (k:Int):Cn (zo4 g' l k):=fun g h hg x=>zrT  (fun κ i out_1=>g κ (i,out_1)) (fun i out_1=>h (i,out_1)) (fun i out_1=>hg (i,out_1)) g' l k x.1 x.2
theorem zgG  (g':Tp7) (l:Tp9) (k:Int) (i:Int) (out_1:Tp16):zbY g' l k i out_1=zcq g' l k (zbY g' l k) i out_1:=zaz (ztv g' l k) (i,out_1)
theorem zsu (r7:Nat->Int->Tp16->Option Tp16) (r7':Int->Tp16->Option Tp16) (h_r7:∀ a0 a1,ChO (fun κ=>r7 κ a0 a1) (r7' a0 a1)) (g':Tp7) (l:Tp9) (k:Int) (p:Int) (out:Tp16):ChO (fun κ=>zeh g' l k (r7 κ) p out) (zeh g' l k r7' p out):=by
  unfold zeh
  repeat' with_reducible first | exact ChO.const _ | exact h_r7 _ _ | (apply zcY<;>assumption) | apply ChO.ite | apply ChO.G | apply ChO.both | (apply ChO.bind;intro _)
theorem zuC  (g':Tp7) (l:Tp9) (k:Int):Cn (zqf g' l k):=fun g h hg x=>zsu  (fun κ p out=>g κ (p,out)) (fun p out=>h (p,out)) (fun p out=>hg (p,out)) g' l k x.1 x.2
theorem zo7  (g':Tp7) (l:Tp9) (k:Int) (p:Int) (out:Tp16):zhr g' l k p out=zeh g' l k (zhr g' l k) p out:=zaz (zuC g' l k) (p,out)
theorem zrU (r27:Nat->Int->Tp16->Option Tp16) (r27':Int->Tp16->Option Tp16) (h_r27:∀ a0 a1,ChO (fun κ=>r27 κ a0 a1) (r27' a0 a1)) (g':Tp7) (l:Tp9) (k:Int) (y':Tp16) (p_1:Int) (b_1:Tp16):ChO (fun κ=>zds g' l k y' (r27 κ) p_1 b_1) (zds g' l k y' r27' p_1 b_1):=by
  unfold zds
  repeat' with_reducible first | exact ChO.const _ | exact h_r27 _ _ | (apply zcY<;>assumption) | apply ChO.ite | apply ChO.G | apply ChO.both | (apply ChO.bind;intro _)
theorem ztw  (g':Tp7) (l:Tp9) (k:Int) (y':Tp16):Cn (zo5 g' l k y'):=fun g h hg x=>zrU  (fun κ p_1 b_1=>g κ (p_1,b_1)) (fun p_1 b_1=>h (p_1,b_1)) (fun p_1 b_1=>hg (p_1,b_1)) g' l k y' x.1 x.2
theorem znT  (g':Tp7) (l:Tp9) (k:Int) (y':Tp16) (p_1:Int) (b_1:Tp16):zfA g' l k y' p_1 b_1=zds g' l k y' (zfA g' l k y') p_1 b_1:=zaz (ztw g' l k y') (p_1,b_1)
theorem zrV (r32:Nat->Int->Tp16->Option Tp16) (r32':Int->Tp16->Option Tp16) (h_r32:∀ a0 a1,ChO (fun κ=>r32 κ a0 a1) (r32' a0 a1)) (g':Tp7) (l:Tp9) (k:Int) (y':Tp16) (b:Tp16) (p_2:Int) (out_2:Tp16):ChO (fun κ=>zdt g' l k y' b (r32 κ) p_2 out_2) (zdt g' l k y' b r32' p_2 out_2):=by
  unfold zdt
  repeat' with_reducible first | exact ChO.const _ | exact h_r32 _ _ | (apply zcY<;>assumption) | apply ChO.ite | apply ChO.G | apply ChO.both | (apply ChO.bind;intro _)
theorem ztx  (g':Tp7) (l:Tp9) (k:Int) (y':Tp16) (b:Tp16):Cn (zo6 g' l k y' b):=fun g h hg x=>zrV  (fun κ p_2 out_2=>g κ (p_2,out_2)) (fun p_2 out_2=>h (p_2,out_2)) (fun p_2 out_2=>hg (p_2,out_2)) g' l k y' b x.1 x.2
theorem znU  (g':Tp7) (l:Tp9) (k:Int) (y':Tp16) (b:Tp16) (p_2:Int) (out_2:Tp16):zeL g' l k y' b p_2 out_2=zdt g' l k y' b (zeL g' l k y' b) p_2 out_2:=zaz (ztx g' l k y' b) (p_2,out_2)
theorem znS (zba:Nat->Tp7->Tp9->Int->Option Tp16) (zd2:Tp7->Tp9->Int->Option Tp16) (zdb:∀ a0 a1 a2,ChO (fun κ=>zba κ a0 a1 a2) (zd2 a0 a1 a2)) (g':Tp7) (l:Tp9) (k:Int) (y':Tp16) (t_2:Bool):ChO (fun κ=>zda (zba κ) g' l k y' t_2) (zda zd2 g' l k y' t_2):=by
  unfold zda
  repeat' with_reducible first | exact ChO.const _ | exact zdb _ _ _ | (apply zcY<;>assumption) | apply ChO.ite | apply ChO.G | apply ChO.both | (apply ChO.bind;intro _) | (apply ChO.bind2 (zdb _ _ _);intro _)
theorem zuB (zba:Nat->Tp7->Tp9->Int->Option Tp16) (zd2:Tp7->Tp9->Int->Option Tp16) (zdb:∀ a0 a1 a2,ChO (fun κ=>zba κ a0 a1 a2) (zd2 a0 a1 a2)) (g':Tp7) (l:Tp9) (k:Int) (t:Bool):ChO (fun κ=>zd1 (zba κ) g' l k t) (zd1 zd2 g' l k t):=by
  unfold zd1
  repeat' with_reducible first | exact ChO.const _ | exact zdb _ _ _ | (apply zcY<;>assumption) | (apply znS<;>assumption) | apply ChO.ite | apply ChO.G | apply ChO.both | (apply ChO.bind;intro _) | (apply ChO.bind2 (zdb _ _ _);intro _)
theorem zu9 (zba:Nat->Tp7->Tp9->Int->Option Tp16) (zd2:Tp7->Tp9->Int->Option Tp16) (zdb:∀ a0 a1 a2,ChO (fun κ=>zba κ a0 a1 a2) (zd2 a0 a1 a2)) (g':Tp7) (l:Tp9) (k:Int):ChO (fun κ=>zeg (zba κ) g' l k) (zeg zd2 g' l k):=by
  unfold zeg
  repeat' with_reducible first | exact ChO.const _ | exact zdb _ _ _ | (apply zcY<;>assumption) | (apply znS<;>assumption) | (apply zuB<;>assumption) | apply ChO.ite | apply ChO.G | apply ChO.both | (apply ChO.bind;intro _) | (apply ChO.bind2 (zdb _ _ _);intro _)
def znB:(Tp7×Tp9×Int->Option Tp16)->Tp7×Tp9×Int->Option Tp16:=
  fun rec X=>zeg (fun g' l k=>rec (g',l,k)) X.1 X.2.1 X.2.2
def zaJ (g':Tp7) (l:Tp9) (k:Int):Option Tp16:=LFix znB (g',l,k)
theorem zxu:Cn znB:=fun g h hg X=>zu9 _ _ (fun g' l k=>hg (g',l,k)) X.1 X.2.1 X.2.2
theorem zju (g':Tp7) (l:Tp9) (k:Int):zaJ g' l k=zeg zaJ g' l k:=zaz zxu (g',l,k)

def zeH (g':Tp7) (w:Tp11) (i_1:Int) (r11:(Int->Option (Bool))) (to:Int):Option (Bool):=
  G (0<=i_1/\i_1 < (((([]:List Int)++w.1)++w.2.1).length:Int)) (
  G ((i_1).toNat < ((([]:List Int)++w.1)++w.2.1).length) (
  (znv (g'.1,(g'.2.1,(g'.2.2.1,()))) (ix ((([]:List Int)++w.1)++w.2.1) i_1) to).bind (fun y'=>
  if (!y')=true then
  some false else
  G (fits (i_1+(1:Int))) (
  r11 (i_1+(1:Int))))))
def zny (y'_1:Tp16) (second:Int):Option (Bool):=
  G (0<=second/\second < (y'_1.length:Int)) (
  G ((second).toNat < y'_1.length) (
  some (ix y'_1 second)))
def zdn (w:Tp11) (y'_1:Tp16) (r29:Int->Option (Bool)) (i_2:Int):Option (Bool):=
  if (decide (i_2 < (((([]:List Int)++w.1)++w.2.1).length:Int)))=true then
  G (0<=i_2/\i_2 < (((([]:List Int)++w.1)++w.2.1).length:Int)) (
  G ((i_2).toNat < ((([]:List Int)++w.1)++w.2.1).length) (
  G (0<=ix ((([]:List Int)++w.1)++w.2.1) i_2/\ix ((([]:List Int)++w.1)++w.2.1) i_2 < (y'_1.length:Int)) (
  G ((ix ((([]:List Int)++w.1)++w.2.1) i_2).toNat < y'_1.length) (
  if (!(ix y'_1 (ix ((([]:List Int)++w.1)++w.2.1) i_2)))=true then
  some false else
  G (fits (i_2+(1:Int))) (
  r29 (i_2+(1:Int))))))) else
  some true
def zoX (w:Tp11) (y'_1:Tp16):(Int->Option (Bool))->Int->Option (Bool):=
  fun rec x=>zdn w y'_1 (fun i_2=>rec i_2) x
def zh6 (w:Tp11) (y'_1:Tp16) (i_2:Int):Option (Bool):=LFix (zoX w y'_1 ) i_2
def zdo (w:Tp11) (y'_1:Tp16) (r36:Int->Option (Bool)) (i_3:Int):Option (Bool):=
  if (decide (i_3 < (((([]:List Int)++w.1)++w.2.1).length:Int)))=true then
  G (0<=i_3/\i_3 < (((([]:List Int)++w.1)++w.2.1).length:Int)) (
  G ((i_3).toNat < ((([]:List Int)++w.1)++w.2.1).length) (
  G (0<=ix ((([]:List Int)++w.1)++w.2.1) i_3/\ix ((([]:List Int)++w.1)++w.2.1) i_3 < (y'_1.length:Int)) (
  G ((ix ((([]:List Int)++w.1)++w.2.1) i_3).toNat < y'_1.length) (
  if (ix y'_1 (ix ((([]:List Int)++w.1)++w.2.1) i_3))=true then
  some true else
  G (fits (i_3+(1:Int))) (
  r36 (i_3+(1:Int))))))) else
  some false
def zoY (w:Tp11) (y'_1:Tp16):(Int->Option (Bool))->Int->Option (Bool):=
  fun rec x=>zdo w y'_1 (fun i_3=>rec i_3) x
def zh7 (w:Tp11) (y'_1:Tp16) (i_3:Int):Option (Bool):=LFix (zoY w y'_1 ) i_3
def zdp (w:Tp11) (y'_1:Tp16) (y'_2:Tp16) (r43:Int->Option (Bool)) (i_4:Int):Option (Bool):=
  if (decide (i_4 < (((([]:List Int)++w.1)++w.2.1).length:Int)))=true then
  G (0<=i_4/\i_4 < (((([]:List Int)++w.1)++w.2.1).length:Int)) (
  G ((i_4).toNat < ((([]:List Int)++w.1)++w.2.1).length) (
  G (0<=ix ((([]:List Int)++w.1)++w.2.1) i_4/\ix ((([]:List Int)++w.1)++w.2.1) i_4 < (y'_2.length:Int)) (
  G ((ix ((([]:List Int)++w.1)++w.2.1) i_4).toNat < y'_2.length) (
  if (ix y'_2 (ix ((([]:List Int)++w.1)++w.2.1) i_4))=true then
  some true else
  G (0<=i_4/\i_4 < (((([]:List Int)++w.1)++w.2.1).length:Int)) (
  G ((i_4).toNat < ((([]:List Int)++w.1)++w.2.1).length) (
  G (0<=ix ((([]:List Int)++w.1)++w.2.1) i_4/\ix ((([]:List Int)++w.1)++w.2.1) i_4 < (y'_1.length:Int)) (
  G ((ix ((([]:List Int)++w.1)++w.2.1) i_4).toNat < y'_1.length) (
  if (!(ix y'_1 (ix ((([]:List Int)++w.1)++w.2.1) i_4)))=true then
  some false else
  G (fits (i_4+(1:Int))) (
  r43 (i_4+(1:Int))))))))))) else
  some false
def zoZ (w:Tp11) (y'_1:Tp16) (y'_2:Tp16):(Int->Option (Bool))->Int->Option (Bool):=
  fun rec x=>zdp w y'_1 y'_2 (fun i_4=>rec i_4) x
def zd0 (w:Tp11) (y'_1:Tp16) (y'_2:Tp16) (i_4:Int):Option (Bool):=LFix (zoZ w y'_1 y'_2 ) i_4
def zbX (g':Tp7) (l:Tp9) (k:Int) (w:Tp11) (r11:Int->Option (Bool)) (i_1:Int):Option (Bool):=
  if (decide (i_1 < (((([]:List Int)++w.1)++w.2.1).length:Int)))=true then
  G (0<=(w.1.length:Int)/\(w.1.length:Int) < (((([]:List Int)++w.1)++w.2.1).length:Int)) (
  G (((w.1.length:Int)).toNat < ((([]:List Int)++w.1)++w.2.1).length) (
  G (fits (i_1+(1:Int))) (
  if (decide ((i_1+(1:Int)) < (((([]:List Int)++w.1)++w.2.1).length:Int)))=true then
  G (fits (i_1+(1:Int))) (
  G (0<=i_1+(1:Int)/\i_1+(1:Int) < (((([]:List Int)++w.1)++w.2.1).length:Int)) (
  G ((i_1+(1:Int)).toNat < ((([]:List Int)++w.1)++w.2.1).length) (
  zeH g' w i_1 r11 (ix ((([]:List Int)++w.1)++w.2.1) (i_1+(1:Int)))))) else
  zeH g' w i_1 r11 (ix ((([]:List Int)++w.1)++w.2.1) (w.1.length:Int))))) else
  G (0<=k/\k < (l.length:Int)) (
  (zaJ (g'.1,(g'.2.1,(g'.2.2.1,()))) l (((((ix l k).2).2).2).1)).bind (fun y'_1=>
  if (decide (((ix l k).1)=(88:Int)))=true then
  G (0<=(w.1.length:Int)/\(w.1.length:Int) < (((([]:List Int)++w.1)++w.2.1).length:Int)) (
  G (((w.1.length:Int)).toNat < ((([]:List Int)++w.1)++w.2.1).length) (
  if (decide ((1:Int) < (((([]:List Int)++w.1)++w.2.1).length:Int)))=true then
  G (0<=(1:Int)/\(1:Int) < (((([]:List Int)++w.1)++w.2.1).length:Int)) (
  G (((1:Int)).toNat < ((([]:List Int)++w.1)++w.2.1).length) (
  zny y'_1 (ix ((([]:List Int)++w.1)++w.2.1) (1:Int)))) else
  zny y'_1 (ix ((([]:List Int)++w.1)++w.2.1) (w.1.length:Int)))) else
  if (decide (((ix l k).1)=(71:Int)))=true then
  zh6 w y'_1 (0:Int) else
  if (decide (((ix l k).1)=(70:Int)))=true then
  zh7 w y'_1 (0:Int) else
  (zaJ (g'.1,(g'.2.1,(g'.2.2.1,()))) l ((((((ix l k).2).2).2).2).1)).bind (fun y'_2=>
  zd0 w y'_1 y'_2 (0:Int))))
def zoW (g':Tp7) (l:Tp9) (k:Int) (w:Tp11):(Int->Option (Bool))->Int->Option (Bool):=
  fun rec x=>zbX g' l k w (fun i_1=>rec i_1) x
def zdZ (g':Tp7) (l:Tp9) (k:Int) (w:Tp11) (i_1:Int):Option (Bool):=LFix (zoW g' l k w ) i_1
def zee (g':Tp7) (l:Tp9) (k:Int) (w:Tp11) (r6:Int->Option (Bool)) (i:Int):Option (Bool):=
  if (decide (i < (((([]:List Int)++w.1)++w.2.1).length:Int)))=true then
  G (0<=i/\i < (((([]:List Int)++w.1)++w.2.1).length:Int)) (
  G ((i).toNat < ((([]:List Int)++w.1)++w.2.1).length) (
  if (decide ((ix ((([]:List Int)++w.1)++w.2.1) i) < (0:Int)))=true then
  some false else
  G (0<=i/\i < (((([]:List Int)++w.1)++w.2.1).length:Int)) (
  G ((i).toNat < ((([]:List Int)++w.1)++w.2.1).length) (
  if (decide (g'.2.1<=(ix ((([]:List Int)++w.1)++w.2.1) i)))=true then
  some false else
  G (fits (i+(1:Int))) (
  r6 (i+(1:Int))))))) else
  zdZ g' l k w (0:Int)
def zp9 (g':Tp7) (l:Tp9) (k:Int) (w:Tp11):(Int->Option (Bool))->Int->Option (Bool):=
  fun rec x=>zee g' l k w (fun i=>rec i) x
def zhq (g':Tp7) (l:Tp9) (k:Int) (w:Tp11) (i:Int):Option (Bool):=LFix (zp9 g' l k w ) i
def zfm (g':Tp7) (l:Tp9) (k:Int) (w:Tp11) (p:Int):Option (Bool):=
  G (room ([]:List Int) w.1 8) (
  G (room (([]:List Int)++w.1) w.2.1 8) (
  if (decide ((w.2.1.length:Int)=(0:Int)))=true then
  some false else
  G (0<=(0:Int)/\(0:Int) < (((([]:List Int)++w.1)++w.2.1).length:Int)) (
  G (((0:Int)).toNat < ((([]:List Int)++w.1)++w.2.1).length) (
  if (decide (¬ (ix ((([]:List Int)++w.1)++w.2.1) (0:Int))=p))=true then
  some false else
  zhq g' l k w (0:Int)))))
theorem zeQ (r11:Nat->Int->Option (Bool)) (r11':Int->Option (Bool)) (h_r11:∀ a0,ChO (fun κ=>r11 κ a0) (r11' a0)) (g':Tp7) (w:Tp11) (i_1:Int) (to:Int):ChO (fun κ=>zeH g' w i_1 (r11 κ) to) (zeH g' w i_1 r11' to):=by
  unfold zeH
  repeat' with_reducible first | exact ChO.const _ | exact h_r11 _ | apply ChO.ite | apply ChO.G | apply ChO.both | (apply ChO.bind;intro _)
theorem zrH (r29:Nat->Int->Option (Bool)) (r29':Int->Option (Bool)) (h_r29:∀ a0,ChO (fun κ=>r29 κ a0) (r29' a0)) (w:Tp11) (y'_1:Tp16) (i_2:Int):ChO (fun κ=>zdn w y'_1 (r29 κ) i_2) (zdn w y'_1 r29' i_2):=by
  unfold zdn
  repeat' with_reducible first | exact ChO.const _ | exact h_r29 _ | (apply zeQ<;>assumption) | apply ChO.ite | apply ChO.G | apply ChO.both | (apply ChO.bind;intro _)
theorem ztm  (w:Tp11) (y'_1:Tp16):Cn (zoX w y'_1):=fun g h hg x=>zrH  (fun κ i_2=>g κ i_2) (fun i_2=>h i_2) (fun i_2=>hg i_2) w y'_1 x
theorem znL  (w:Tp11) (y'_1:Tp16) (i_2:Int):zh6 w y'_1 i_2=zdn w y'_1 (zh6 w y'_1) i_2:=zaz (ztm w y'_1) i_2
theorem zrI (r36:Nat->Int->Option (Bool)) (r36':Int->Option (Bool)) (h_r36:∀ a0,ChO (fun κ=>r36 κ a0) (r36' a0)) (w:Tp11) (y'_1:Tp16) (i_3:Int):ChO (fun κ=>zdo w y'_1 (r36 κ) i_3) (zdo w y'_1 r36' i_3):=by
  unfold zdo
  repeat' with_reducible first | exact ChO.const _ | exact h_r36 _ | (apply zeQ<;>assumption) | apply ChO.ite | apply ChO.G | apply ChO.both | (apply ChO.bind;intro _)
theorem ztn  (w:Tp11) (y'_1:Tp16):Cn (zoY w y'_1):=fun g h hg x=>zrI  (fun κ i_3=>g κ i_3) (fun i_3=>h i_3) (fun i_3=>hg i_3) w y'_1 x
theorem znM  (w:Tp11) (y'_1:Tp16) (i_3:Int):zh7 w y'_1 i_3=zdo w y'_1 (zh7 w y'_1) i_3:=zaz (ztn w y'_1) i_3
theorem zrJ (r43:Nat->Int->Option (Bool)) (r43':Int->Option (Bool)) (h_r43:∀ a0,ChO (fun κ=>r43 κ a0) (r43' a0)) (w:Tp11) (y'_1:Tp16) (y'_2:Tp16) (i_4:Int):ChO (fun κ=>zdp w y'_1 y'_2 (r43 κ) i_4) (zdp w y'_1 y'_2 r43' i_4):=by
  unfold zdp
  repeat' with_reducible first | exact ChO.const _ | exact h_r43 _ | (apply zeQ<;>assumption) | apply ChO.ite | apply ChO.G | apply ChO.both | (apply ChO.bind;intro _)
theorem zto  (w:Tp11) (y'_1:Tp16) (y'_2:Tp16):Cn (zoZ w y'_1 y'_2):=fun g h hg x=>zrJ  (fun κ i_4=>g κ i_4) (fun i_4=>h i_4) (fun i_4=>hg i_4) w y'_1 y'_2 x
theorem znN  (w:Tp11) (y'_1:Tp16) (y'_2:Tp16) (i_4:Int):zd0 w y'_1 y'_2 i_4=zdp w y'_1 y'_2 (zd0 w y'_1 y'_2) i_4:=zaz (zto w y'_1 y'_2) i_4
theorem zrG (r11:Nat->Int->Option (Bool)) (r11':Int->Option (Bool)) (h_r11:∀ a0,ChO (fun κ=>r11 κ a0) (r11' a0)) (g':Tp7) (l:Tp9) (k:Int) (w:Tp11) (i_1:Int):ChO (fun κ=>zbX g' l k w (r11 κ) i_1) (zbX g' l k w r11' i_1):=by
  unfold zbX
  repeat' with_reducible first | exact ChO.const _ | exact h_r11 _ | (apply zeQ<;>assumption) | apply ChO.ite | apply ChO.G | apply ChO.both | (apply ChO.bind;intro _)
theorem ztl  (g':Tp7) (l:Tp9) (k:Int) (w:Tp11):Cn (zoW g' l k w):=fun g h hg x=>zrG  (fun κ i_1=>g κ i_1) (fun i_1=>h i_1) (fun i_1=>hg i_1) g' l k w x
theorem zeR  (g':Tp7) (l:Tp9) (k:Int) (w:Tp11) (i_1:Int):zdZ g' l k w i_1=zbX g' l k w (zdZ g' l k w) i_1:=zaz (ztl g' l k w) i_1
theorem zst (r6:Nat->Int->Option (Bool)) (r6':Int->Option (Bool)) (h_r6:∀ a0,ChO (fun κ=>r6 κ a0) (r6' a0)) (g':Tp7) (l:Tp9) (k:Int) (w:Tp11) (i:Int):ChO (fun κ=>zee g' l k w (r6 κ) i) (zee g' l k w r6' i):=by
  unfold zee
  repeat' with_reducible first | exact ChO.const _ | exact h_r6 _ | (apply zeQ<;>assumption) | apply ChO.ite | apply ChO.G | apply ChO.both | (apply ChO.bind;intro _)
theorem zuz  (g':Tp7) (l:Tp9) (k:Int) (w:Tp11):Cn (zp9 g' l k w):=fun g h hg x=>zst  (fun κ i=>g κ i) (fun i=>h i) (fun i=>hg i) g' l k w x
theorem zo0  (g':Tp7) (l:Tp9) (k:Int) (w:Tp11) (i:Int):zhq g' l k w i=zee g' l k w (zhq g' l k w) i:=zaz (zuz g' l k w) i

def zam (g':Tp7) (p:Int) (y':Tp11) (y'_1:Bool) (y'_2:Int) (y'_4:Bool) (y'_6:Int) (y'_8:Tp9) (no_1:Int):Option (Bool):=
  if (decide (¬ no_1=(0:Int)))=true then
  if (decide (y'_2=no_1))=true then
  if (!y'_1)=true then
  some y'_4 else
  some false else
  some false else
  (zaJ (g'.1,(g'.2.1,(g'.2.2.1,()))) y'_8 y'_6).bind (fun y'_10=>
  if (decide (¬ y'_2=(0:Int)))=true then
  some false else
  G (0<=p/\p < (y'_10.length:Int)) (
  G ((p).toNat < y'_10.length) (
  if (decide (¬ y'_1=(ix y'_10 p)))=true then
  some false else
  if (!y'_1)=true then
  some y'_4 else
  (zfm (g'.1,(g'.2.1,(g'.2.2.1,()))) y'_8 y'_6 (y'.1,(y'.2.1,())) p).bind (fun y'_11=>
  some y'_11))))
def zbq (g':Tp7) (p:Int) (y':Tp11) (y'_1:Bool) (y'_2:Int) (y'_4:Bool) (y'_6:Int) (y'_8:Tp9) (no:Int) (t_1:Bool):Option (Bool):=
  if t_1=true then
  zam g' p y' y'_1 y'_2 y'_4 y'_6 y'_8 (3:Int) else
  if (decide (p < (0:Int)))=true then
  zam g' p y' y'_1 y'_2 y'_4 y'_6 y'_8 (2:Int) else
  if (decide (g'.2.1<=p))=true then
  zam g' p y' y'_1 y'_2 y'_4 y'_6 y'_8 (2:Int) else
  zam g' p y' y'_1 y'_2 y'_4 y'_6 y'_8 no
def zbe (g':Tp7) (text:(List UInt8)) (p:Int) (y':Tp11) (y'_1:Bool) (y'_2:Int) (y'_4:Bool) (y'_6:Int) (y'_8:Tp9) (no:Int):Option (Bool):=
  if (decide (no=(0:Int)))=true then
  G (0<=y'_6/\y'_6 < (y'_8.length:Int)) (
  G ((y'_6).toNat < y'_8.length) (
  G (0<=(0:Int)/\(0:Int) < (text.length:Int)) (
  if (decide (¬ (bAt text (0:Int))=(69:Int)))=true then
  zbq g' p y' y'_1 y'_2 y'_4 y'_6 y'_8 no true else
  if (decide (¬ ((ix y'_8 y'_6).1)=(88:Int)))=true then
  if (decide (¬ ((ix y'_8 y'_6).1)=(70:Int)))=true then
  if (decide (¬ ((ix y'_8 y'_6).1)=(71:Int)))=true then
  zbq g' p y' y'_1 y'_2 y'_4 y'_6 y'_8 no (decide (¬ ((ix y'_8 y'_6).1)=(85:Int))) else
  zbq g' p y' y'_1 y'_2 y'_4 y'_6 y'_8 no false else
  zbq g' p y' y'_1 y'_2 y'_4 y'_6 y'_8 no false else
  zbq g' p y' y'_1 y'_2 y'_4 y'_6 y'_8 no false))) else
  zam g' p y' y'_1 y'_2 y'_4 y'_6 y'_8 no
def zcV (g':Tp7) (text:(List UInt8)) (p:Int) (y':Tp11) (y'_1:Bool) (y'_2:Int) (y'_4:Bool) (y'_5:Int) (y'_6:Int) (y'_8:Tp9) (t:Bool):Option (Bool):=
  if t=true then
  zbe g' text p y' y'_1 y'_2 y'_4 y'_6 y'_8 (4:Int) else
  zbe g' text p y' y'_1 y'_2 y'_4 y'_6 y'_8 y'_5
def zev (g':Tp7) (text:(List UInt8)) (p:Int):Option (Bool):=
  (zaM (g'.1,(g'.2.1,(g'.2.2.1,()))) text p).bind (fun y'_13=>
  (zfi (y'_13.1.1,(y'_13.1.2.1,()))).bind (fun y'_4=>
  (zrr (g'.1,(g'.2.1,(g'.2.2.1,())))).bind (fun y'_5=>
  (zkz text).bind (fun y'_12=>
  if (decide (y'_5=(0:Int)))=true then
  zcV g' text p y'_13.1 y'_13.2.1 y'_13.2.2 y'_4 y'_5 y'_12.1 y'_12.2.2 (decide (¬ y'_12.2.1.1=(0:Int))) else
  zcV g' text p y'_13.1 y'_13.2.1 y'_13.2.2 y'_4 y'_5 y'_12.1 y'_12.2.2 false))))

end
end Go.Proofs.Ytegenlccllgjoaa.branchPathsW
