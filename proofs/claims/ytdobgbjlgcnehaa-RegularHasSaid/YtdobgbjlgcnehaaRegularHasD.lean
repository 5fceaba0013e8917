/- What the functions that 'RegularHas' reaches compute: plain functions. -/
import Derived.Test.YtdobgbjlgcnehaaEv35n21
set_option maxHeartbeats 1000000
set_option maxRecDepth 20000
set_option linter.unusedSimpArgs false
set_option linter.unusedVariables false
set_option linter.unusedSectionVars false
namespace Go.Proofs.Ytdobgbjlgcnehaa.regularHasW
open Go Go.Ab
noncomputable section
abbrev Tp10:=(List Int)
abbrev Tp9:=(List Bool)
abbrev Tp8:=(List Tp10)
abbrev Tp7:=(Int×Int×Tp10×Unit)
abbrev Tp6:=(Tp10×Tp8)
abbrev Tc3:Ty:=(.pair (.list (.int .i64)) .unit)
abbrev Tp5:=(List Tp7)
abbrev Tp4:=(Tp10×Tp8×Unit)
abbrev Tp3:=(Bool×Tp10×Tp10×Unit)
abbrev Tp2:=(Tp4×Tp9)
abbrev Tc2:Ty:=(.pair (.list (.int .i64)) Tc3)
abbrev Tp1:=(Tp3×Tp10×Tp8)
abbrev Tc1:Ty:=(.pair .bool Tc2)
abbrev Tf1:=Int->Bool->Tp10->Tp8->Tp10->Tp10->Option Tp1
abbrev Tf2:=Int->Bool->Tp10->Tp10->Tp10->Tp8->Option Tp1
abbrev Tf3:=Tp5->Int->Tp10->Tp9->Option Tp9
def zbf (r:((List UInt8)×Int×Int×Unit)):Option (Int):=
  if (decide (r.2.1=(r.1.length:Int)))=true then
  some (0:Int) else
  G (0<=r.2.1/\r.2.1 < (r.1.length:Int)) (
  some (bAt r.1 r.2.1))

def zby (r:((List UInt8)×Int×Int×Unit)) (code:Int):Option ((Unit)⊕(Int×Int)):=
  some (.inr ((((code,(r.2.1,())),())).1.1,(((code,(r.2.1,())),())).1.2.1))

def zcW (s:List UInt8) (c:Int):Option Int:=some (znJ s c)

def zer (s:(List UInt8)) (c:Int):Option (Int):=
  (zcW s c).bind (fun y'=>
  some y')

def zbX (r:((List UInt8)×Int×Int×Unit)):Option (Bool):=
  if (decide (r.2.1 < (r.1.length:Int)))=true then
  (zbf r).bind (fun y'=>
  (zer ([48,49,97,98,99,100,40]) y').bind (fun y'_1=>
  some (decide ((0:Int)<=y'_1)))) else
  some false

def za6 (zaa:(List UInt8)->Int->Int->Option (((Tr (Int×Int×Unit))×(List UInt8)×Int×Int)⊕(Int×Int))) (c:(List UInt8)) (c_1:Int) (c_2:Int):Option (((Tr (Int×Int×Unit))×(List UInt8)×Int×Int)⊕(Int×Int)):=
  G (fits (c_2+(1:Int))) (
  G (fits (c_1+(1:Int))) (
  pbind (zaa c (c_1+(1:Int)) (c_2+(1:Int))) (fun y'_6=>
  (zbf (y'_6.2.1,(y'_6.2.2.1,(y'_6.2.2.2,())))).bind (fun y'_7=>
  if (decide (¬ y'_7=(41:Int)))=true then
  pbind (zby (y'_6.2.1,(y'_6.2.2.1,(y'_6.2.2.2,()))) (4:Int)) (fun _=>
  G (fits (y'_6.2.2.1+(1:Int))) (
  G (fits (y'_6.2.2.2 - (1:Int))) (
  some (.inl (y'_6.1,y'_6.2.1,y'_6.2.2.1+(1:Int),y'_6.2.2.2 - (1:Int)))))) (fun p=>some (.inr (p.1,p.2))) else
  G (fits (y'_6.2.2.1+(1:Int))) (
  G (fits (y'_6.2.2.2 - (1:Int))) (
  some (.inl (y'_6.1,y'_6.2.1,y'_6.2.2.1+(1:Int),y'_6.2.2.2 - (1:Int))))))) (fun p=>some (.inr (p.1,p.2)))))
def za0 (zaa:(List UInt8)->Int->Int->Option (((Tr (Int×Int×Unit))×(List UInt8)×Int×Int)⊕(Int×Int))) (c:(List UInt8)) (c_1:Int) (c_2:Int) (y':Int) (t:Bool):Option (((Tr (Int×Int×Unit))×(List UInt8)×Int×Int)⊕(Int×Int)):=
  if t=true then
  G (fits (c_1+(1:Int))) (
  some (.inl (Tr.mk ((2:Int),(IntKind.wrap .i64 (IntKind.wrap .u8 (y' - (97:Int))),())) ([]),c,c_1+(1:Int),c_2))) else
  if (decide (y'=(40:Int)))=true then
  if (decide (c_2=(40:Int)))=true then
  pbind (zby (c,(c_1,(c_2,()))) (7:Int)) (fun _=>
  za6 zaa c c_1 c_2) (fun p=>some (.inr (p.1,p.2))) else
  za6 zaa c c_1 c_2 else
  pbind (zby (c,(c_1,(c_2,()))) (4:Int)) (fun _=>
  some (.inl (Tr.nil,c,c_1,c_2))) (fun p=>some (.inr (p.1,p.2)))
def zbl (zaa:(List UInt8)->Int->Int->Option (((Tr (Int×Int×Unit))×(List UInt8)×Int×Int)⊕(Int×Int))) (c:(List UInt8)) (c_1:Int) (c_2:Int):Option (((Tr (Int×Int×Unit))×(List UInt8)×Int×Int)⊕(Int×Int)):=
  (zbf (c,(c_1,(c_2,())))).bind (fun y'=>
  if (decide (y'=(48:Int)))=true then
  G (fits (c_1+(1:Int))) (
  some (.inl (Tr.mk (IntKind.wrap .i64 (IntKind.wrap .u8 (y' - (48:Int))),((0:Int),())) ([]),c,c_1+(1:Int),c_2))) else
  if (decide (y'=(49:Int)))=true then
  G (fits (c_1+(1:Int))) (
  some (.inl (Tr.mk (IntKind.wrap .i64 (IntKind.wrap .u8 (y' - (48:Int))),((0:Int),())) ([]),c,c_1+(1:Int),c_2))) else
  if (decide ((97:Int)<=y'))=true then
  za0 zaa c c_1 c_2 y' (decide (y'<=(100:Int))) else
  za0 zaa c c_1 c_2 y' false)
def zaW  (r2:(Tr (Int×Int×Unit))->(List UInt8)->Int->Int->Option (((Tr (Int×Int×Unit))×(List UInt8)×Int×Int)⊕(Int×Int))) (p:(Tr (Int×Int×Unit))) (r:(List UInt8)) (r_1:Int) (r_2:Int):Option (((Tr (Int×Int×Unit))×(List UInt8)×Int×Int)⊕(Int×Int)):=
  (zbf (r,(r_1,(r_2,())))).bind (fun y'_5=>
  if (decide (y'_5=(42:Int)))=true then
  G (fits (r_1+(1:Int))) (
  r2 (Tr.mk ((5:Int),((0:Int),())) ([p])) r (r_1+(1:Int)) r_2) else
  some (.inl (p,r,r_1,r_2)))
def zdY:((Tr (Int×Int×Unit))×(List UInt8)×Int×Int->Option (((Tr (Int×Int×Unit))×(List UInt8)×Int×Int)⊕(Int×Int)))->(Tr (Int×Int×Unit))×(List UInt8)×Int×Int->Option (((Tr (Int×Int×Unit))×(List UInt8)×Int×Int)⊕(Int×Int)):=
  fun rec x=>zaW (fun p r r_1 r_2=>rec (p,r,r_1,r_2)) x.1 x.2.1 x.2.2.1 x.2.2.2
def zbZ  (p:(Tr (Int×Int×Unit))) (r:(List UInt8)) (r_1:Int) (r_2:Int):Option (((Tr (Int×Int×Unit))×(List UInt8)×Int×Int)⊕(Int×Int)):=LFix (zdY ) (p,r,r_1,r_2)
def zbg (zaa:(List UInt8)->Int->Int->Option (((Tr (Int×Int×Unit))×(List UInt8)×Int×Int)⊕(Int×Int))) (c:(List UInt8)) (c_1:Int) (c_2:Int):Option (((Tr (Int×Int×Unit))×(List UInt8)×Int×Int)⊕(Int×Int)):=
  pbind (zbl zaa c c_1 c_2) (fun y'_4=>
  zbZ y'_4.1 y'_4.2.1 y'_4.2.2.1 y'_4.2.2.2) (fun p=>some (.inr (p.1,p.2)))
def zeG (r_3:(List UInt8)) (r_4:Int) (r_5:Int) (p_2:Int) (p_3:Int) (l_1:(List (Tr (Int×Int×Unit)))):Option (((Tr (Int×Int×Unit))×(List UInt8)×Int×Int)⊕(Int×Int)):=
  some (.inl (Tr.mk (p_2,(p_3,())) l_1,r_3,r_4,r_5))
def za7 (zaa:(List UInt8)->Int->Int->Option (((Tr (Int×Int×Unit))×(List UInt8)×Int×Int)⊕(Int×Int)))  (r2:(List UInt8)->Int->Int->Int->Int->(List (Tr (Int×Int×Unit)))->Option (((Tr (Int×Int×Unit))×(List UInt8)×Int×Int)⊕(Int×Int))) (r:(List UInt8)) (r_1:Int) (r_2:Int) (p:Int) (p_1:Int) (l:(List (Tr (Int×Int×Unit)))):Option (((Tr (Int×Int×Unit))×(List UInt8)×Int×Int)⊕(Int×Int)):=
  (zbX (r,(r_1,(r_2,())))).bind (fun y'_5=>
  if y'_5=true then
  pbind (zbg zaa r r_1 r_2) (fun y'_10=>
  G (room l ([y'_10.1]) 8) (
  r2 y'_10.2.1 y'_10.2.2.1 y'_10.2.2.2 p p_1 (l++([y'_10.1])))) (fun p=>some (.inr (p.1,p.2))) else
  zeG r r_1 r_2 p p_1 l)
def zd1 (zaa:(List UInt8)->Int->Int->Option (((Tr (Int×Int×Unit))×(List UInt8)×Int×Int)⊕(Int×Int))):((List UInt8)×Int×Int×Int×Int×(List (Tr (Int×Int×Unit)))->Option (((Tr (Int×Int×Unit))×(List UInt8)×Int×Int)⊕(Int×Int)))->(List UInt8)×Int×Int×Int×Int×(List (Tr (Int×Int×Unit)))->Option (((Tr (Int×Int×Unit))×(List UInt8)×Int×Int)⊕(Int×Int)):=
  fun rec x=>za7 zaa (fun r r_1 r_2 p p_1 l=>rec (r,r_1,r_2,p,p_1,l)) x.1 x.2.1 x.2.2.1 x.2.2.2.1 x.2.2.2.2.1 x.2.2.2.2.2
def zaS (zaa:(List UInt8)->Int->Int->Option (((Tr (Int×Int×Unit))×(List UInt8)×Int×Int)⊕(Int×Int)))  (r:(List UInt8)) (r_1:Int) (r_2:Int) (p:Int) (p_1:Int) (l:(List (Tr (Int×Int×Unit)))):Option (((Tr (Int×Int×Unit))×(List UInt8)×Int×Int)⊕(Int×Int)):=LFix (zd1 zaa ) (r,r_1,r_2,p,p_1,l)
def zbh (zaa:(List UInt8)->Int->Int->Option (((Tr (Int×Int×Unit))×(List UInt8)×Int×Int)⊕(Int×Int))) (c:(List UInt8)) (c_1:Int) (c_2:Int):Option (((Tr (Int×Int×Unit))×(List UInt8)×Int×Int)⊕(Int×Int)):=
  pbind (zbg zaa c c_1 c_2) (fun y'_4=>
  zaS zaa y'_4.2.1 y'_4.2.2.1 y'_4.2.2.2 (4:Int) (0:Int) ([y'_4.1])) (fun p=>some (.inr (p.1,p.2)))
def zd2 (r_3:(List UInt8)) (r_4:Int) (r_5:Int) (p_2:Int) (p_3:Int) (l_1:(List (Tr (Int×Int×Unit)))):Option (((Tr (Int×Int×Unit))×(List UInt8)×Int×Int)⊕(Int×Int)):=
  some (.inl (Tr.mk (p_2,(p_3,())) l_1,r_3,r_4,r_5))
def zaZ (zaa:(List UInt8)->Int->Int->Option (((Tr (Int×Int×Unit))×(List UInt8)×Int×Int)⊕(Int×Int)))  (r2:(List UInt8)->Int->Int->Int->Int->(List (Tr (Int×Int×Unit)))->Option (((Tr (Int×Int×Unit))×(List UInt8)×Int×Int)⊕(Int×Int))) (r:(List UInt8)) (r_1:Int) (r_2:Int) (p:Int) (p_1:Int) (l:(List (Tr (Int×Int×Unit)))):Option (((Tr (Int×Int×Unit))×(List UInt8)×Int×Int)⊕(Int×Int)):=
  (zbf (r,(r_1,(r_2,())))).bind (fun y'_5=>
  if (decide (y'_5=(43:Int)))=true then
  G (fits (r_1+(1:Int))) (
  pbind (zbh zaa r (r_1+(1:Int)) r_2) (fun y'_10=>
  G (room l ([y'_10.1]) 8) (
  r2 y'_10.2.1 y'_10.2.2.1 y'_10.2.2.2 p p_1 (l++([y'_10.1])))) (fun p=>some (.inr (p.1,p.2)))) else
  zd2 r r_1 r_2 p p_1 l)
def zdi (zaa:(List UInt8)->Int->Int->Option (((Tr (Int×Int×Unit))×(List UInt8)×Int×Int)⊕(Int×Int))):((List UInt8)×Int×Int×Int×Int×(List (Tr (Int×Int×Unit)))->Option (((Tr (Int×Int×Unit))×(List UInt8)×Int×Int)⊕(Int×Int)))->(List UInt8)×Int×Int×Int×Int×(List (Tr (Int×Int×Unit)))->Option (((Tr (Int×Int×Unit))×(List UInt8)×Int×Int)⊕(Int×Int)):=
  fun rec x=>zaZ zaa (fun r r_1 r_2 p p_1 l=>rec (r,r_1,r_2,p,p_1,l)) x.1 x.2.1 x.2.2.1 x.2.2.2.1 x.2.2.2.2.1 x.2.2.2.2.2
def zaL (zaa:(List UInt8)->Int->Int->Option (((Tr (Int×Int×Unit))×(List UInt8)×Int×Int)⊕(Int×Int)))  (r:(List UInt8)) (r_1:Int) (r_2:Int) (p:Int) (p_1:Int) (l:(List (Tr (Int×Int×Unit)))):Option (((Tr (Int×Int×Unit))×(List UInt8)×Int×Int)⊕(Int×Int)):=LFix (zdi zaa ) (r,r_1,r_2,p,p_1,l)
def zbk (zaa:(List UInt8)->Int->Int->Option (((Tr (Int×Int×Unit))×(List UInt8)×Int×Int)⊕(Int×Int))) (c:(List UInt8)) (c_1:Int) (c_2:Int):Option (((Tr (Int×Int×Unit))×(List UInt8)×Int×Int)⊕(Int×Int)):=
  pbind (zbh zaa c c_1 c_2) (fun y'_4=>
  zaL zaa y'_4.2.1 y'_4.2.2.1 y'_4.2.2.2 (3:Int) (0:Int) ([y'_4.1])) (fun p=>some (.inr (p.1,p.2)))
theorem zaB (zaa:Nat->(List UInt8)->Int->Int->Option (((Tr (Int×Int×Unit))×(List UInt8)×Int×Int)⊕(Int×Int))) (zae:(List UInt8)->Int->Int->Option (((Tr (Int×Int×Unit))×(List UInt8)×Int×Int)⊕(Int×Int))) (zaf:∀ a0 a1 a2,ChO (fun κ=>zaa κ a0 a1 a2) (zae a0 a1 a2)) (c:(List UInt8)) (c_1:Int) (c_2:Int):ChO (fun κ=>za6 (zaa κ) c c_1 c_2) (za6 zae c c_1 c_2):=by
  unfold za6
  repeat' with_reducible first | exact ChO.const _ | exact zaf _ _ _ | apply ChO.ite | apply ChO.G | apply ChO.both | apply ChO.bothS | (apply ChO.bind;intro _) | (apply ChO.bind2 (zaf _ _ _);intro _) | (refine ChO.bind2 ?_ (fun _ => ?_)) | (refine ChO.pbind (fun _ => ?_) (fun _ => ?_)) | (refine ChO.pbind2 ?_ (fun _ => ?_) (fun _ => ?_))
theorem zaO (zaa:Nat->(List UInt8)->Int->Int->Option (((Tr (Int×Int×Unit))×(List UInt8)×Int×Int)⊕(Int×Int))) (zae:(List UInt8)->Int->Int->Option (((Tr (Int×Int×Unit))×(List UInt8)×Int×Int)⊕(Int×Int))) (zaf:∀ a0 a1 a2,ChO (fun κ=>zaa κ a0 a1 a2) (zae a0 a1 a2)) (c:(List UInt8)) (c_1:Int) (c_2:Int) (y':Int) (t:Bool):ChO (fun κ=>za0 (zaa κ) c c_1 c_2 y' t) (za0 zae c c_1 c_2 y' t):=by
  unfold za0
  repeat' with_reducible first | exact ChO.const _ | exact zaf _ _ _ | (apply zaB<;>assumption) | apply ChO.ite | apply ChO.G | apply ChO.both | apply ChO.bothS | (apply ChO.bind;intro _) | (apply ChO.bind2 (zaf _ _ _);intro _) | (refine ChO.bind2 ?_ (fun _ => ?_)) | (refine ChO.pbind (fun _ => ?_) (fun _ => ?_)) | (refine ChO.pbind2 ?_ (fun _ => ?_) (fun _ => ?_))
theorem zbj (zaa:Nat->(List UInt8)->Int->Int->Option (((Tr (Int×Int×Unit))×(List UInt8)×Int×Int)⊕(Int×Int))) (zae:(List UInt8)->Int->Int->Option (((Tr (Int×Int×Unit))×(List UInt8)×Int×Int)⊕(Int×Int))) (zaf:∀ a0 a1 a2,ChO (fun κ=>zaa κ a0 a1 a2) (zae a0 a1 a2)) (c:(List UInt8)) (c_1:Int) (c_2:Int):ChO (fun κ=>zbl (zaa κ) c c_1 c_2) (zbl zae c c_1 c_2):=by
  unfold zbl
  repeat' with_reducible first | exact ChO.const _ | exact zaf _ _ _ | (apply zaB<;>assumption) | (apply zaO<;>assumption) | apply ChO.ite | apply ChO.G | apply ChO.both | apply ChO.bothS | (apply ChO.bind;intro _) | (apply ChO.bind2 (zaf _ _ _);intro _) | (refine ChO.bind2 ?_ (fun _ => ?_)) | (refine ChO.pbind (fun _ => ?_) (fun _ => ?_)) | (refine ChO.pbind2 ?_ (fun _ => ?_) (fun _ => ?_))
theorem zfp (r2:Nat->(Tr (Int×Int×Unit))->(List UInt8)->Int->Int->Option (((Tr (Int×Int×Unit))×(List UInt8)×Int×Int)⊕(Int×Int))) (r2':(Tr (Int×Int×Unit))->(List UInt8)->Int->Int->Option (((Tr (Int×Int×Unit))×(List UInt8)×Int×Int)⊕(Int×Int))) (h_r2:∀ a0 a1 a2 a3,ChO (fun κ=>r2 κ a0 a1 a2 a3) (r2' a0 a1 a2 a3)) (p:(Tr (Int×Int×Unit))) (r:(List UInt8)) (r_1:Int) (r_2:Int):ChO (fun κ=>zaW (r2 κ) p r r_1 r_2) (zaW r2' p r r_1 r_2):=by
  unfold zaW
  repeat' with_reducible first | exact ChO.const _ | exact h_r2 _ _ _ _ | (apply zaB<;>assumption) | (apply zaO<;>assumption) | (apply zbj<;>assumption) | apply ChO.ite | apply ChO.G | apply ChO.both | apply ChO.bothS | (apply ChO.bind;intro _) | (refine ChO.bind2 ?_ (fun _ => ?_)) | (refine ChO.pbind (fun _ => ?_) (fun _ => ?_)) | (refine ChO.pbind2 ?_ (fun _ => ?_) (fun _ => ?_))
theorem zgC:Cn (zdY):=fun g h hg x=>zfp  (fun κ p r r_1 r_2=>g κ (p,r,r_1,r_2)) (fun p r r_1 r_2=>h (p,r,r_1,r_2)) (fun p r r_1 r_2=>hg (p,r,r_1,r_2))  x.1 x.2.1 x.2.2.1 x.2.2.2
theorem zdE   (p:(Tr (Int×Int×Unit))) (r:(List UInt8)) (r_1:Int) (r_2:Int):zbZ p r r_1 r_2=zaW (zbZ) p r r_1 r_2:=zbA (zgC ) (p,r,r_1,r_2)
theorem zb0 (zaa:Nat->(List UInt8)->Int->Int->Option (((Tr (Int×Int×Unit))×(List UInt8)×Int×Int)⊕(Int×Int))) (zae:(List UInt8)->Int->Int->Option (((Tr (Int×Int×Unit))×(List UInt8)×Int×Int)⊕(Int×Int))) (zaf:∀ a0 a1 a2,ChO (fun κ=>zaa κ a0 a1 a2) (zae a0 a1 a2)) (c:(List UInt8)) (c_1:Int) (c_2:Int):ChO (fun κ=>zbg (zaa κ) c c_1 c_2) (zbg zae c c_1 c_2):=by
  unfold zbg
  repeat' with_reducible first | exact ChO.const _ | exact zaf _ _ _ | (apply zaB<;>assumption) | (apply zaO<;>assumption) | (apply zbj<;>assumption) | apply ChO.ite | apply ChO.G | apply ChO.both | apply ChO.bothS | (apply ChO.bind;intro _) | (apply ChO.bind2 (zaf _ _ _);intro _) | (refine ChO.bind2 ?_ (fun _ => ?_)) | (refine ChO.pbind (fun _ => ?_) (fun _ => ?_)) | (refine ChO.pbind2 ?_ (fun _ => ?_) (fun _ => ?_))
theorem zc2 (zaa:Nat->(List UInt8)->Int->Int->Option (((Tr (Int×Int×Unit))×(List UInt8)×Int×Int)⊕(Int×Int))) (zae:(List UInt8)->Int->Int->Option (((Tr (Int×Int×Unit))×(List UInt8)×Int×Int)⊕(Int×Int))) (zaf:∀ a0 a1 a2,ChO (fun κ=>zaa κ a0 a1 a2) (zae a0 a1 a2)) (r2:Nat->(List UInt8)->Int->Int->Int->Int->(List (Tr (Int×Int×Unit)))->Option (((Tr (Int×Int×Unit))×(List UInt8)×Int×Int)⊕(Int×Int))) (r2':(List UInt8)->Int->Int->Int->Int->(List (Tr (Int×Int×Unit)))->Option (((Tr (Int×Int×Unit))×(List UInt8)×Int×Int)⊕(Int×Int))) (h_r2:∀ a0 a1 a2 a3 a4 a5,ChO (fun κ=>r2 κ a0 a1 a2 a3 a4 a5) (r2' a0 a1 a2 a3 a4 a5)) (r:(List UInt8)) (r_1:Int) (r_2:Int) (p:Int) (p_1:Int) (l:(List (Tr (Int×Int×Unit)))):ChO (fun κ=>za7 (zaa κ) (r2 κ) r r_1 r_2 p p_1 l) (za7 zae r2' r r_1 r_2 p p_1 l):=by
  unfold za7
  repeat' with_reducible first | exact ChO.const _ | exact zaf _ _ _ | exact h_r2 _ _ _ _ _ _ | (apply zaB<;>assumption) | (apply zaO<;>assumption) | (apply zbj<;>assumption) | (apply zb0<;>assumption) | apply ChO.ite | apply ChO.G | apply ChO.both | apply ChO.bothS | (apply ChO.bind;intro _) | (apply ChO.bind2 (zaf _ _ _);intro _) | (refine ChO.bind2 ?_ (fun _ => ?_)) | (refine ChO.pbind (fun _ => ?_) (fun _ => ?_)) | (refine ChO.pbind2 ?_ (fun _ => ?_) (fun _ => ?_))
theorem zcc (zaa:(List UInt8)->Int->Int->Option (((Tr (Int×Int×Unit))×(List UInt8)×Int×Int)⊕(Int×Int))):Cn (zd1 zaa):=fun g h hg x=>zc2 (fun _=>zaa) zaa (fun _ _ _=>ChO.const _) (fun κ r r_1 r_2 p p_1 l=>g κ (r,r_1,r_2,p,p_1,l)) (fun r r_1 r_2 p p_1 l=>h (r,r_1,r_2,p,p_1,l)) (fun r r_1 r_2 p p_1 l=>hg (r,r_1,r_2,p,p_1,l))  x.1 x.2.1 x.2.2.1 x.2.2.2.1 x.2.2.2.2.1 x.2.2.2.2.2
theorem zgD (zaa:(List UInt8)->Int->Int->Option (((Tr (Int×Int×Unit))×(List UInt8)×Int×Int)⊕(Int×Int)))  (r:(List UInt8)) (r_1:Int) (r_2:Int) (p:Int) (p_1:Int) (l:(List (Tr (Int×Int×Unit)))):zaS zaa r r_1 r_2 p p_1 l=za7 zaa (zaS zaa) r r_1 r_2 p p_1 l:=zbA (zcc zaa) (r,r_1,r_2,p,p_1,l)
theorem zcb (zaa:Nat->(List UInt8)->Int->Int->Option (((Tr (Int×Int×Unit))×(List UInt8)×Int×Int)⊕(Int×Int))) (zae:(List UInt8)->Int->Int->Option (((Tr (Int×Int×Unit))×(List UInt8)×Int×Int)⊕(Int×Int))) (zaf:∀ a0 a1 a2,ChO (fun κ=>zaa κ a0 a1 a2) (zae a0 a1 a2))  (r:(List UInt8)) (r_1:Int) (r_2:Int) (p:Int) (p_1:Int) (l:(List (Tr (Int×Int×Unit)))):ChO (fun κ=>zaS (zaa κ) r r_1 r_2 p p_1 l) (zaS zae r r_1 r_2 p p_1 l):=by
  unfold zaS
  exact zej (fun κ=>(zcc (zaa κ) ).mono) (zcc zae ).mono (fun g h hg x=>zc2 zaa zae zaf (fun κ r r_1 r_2 p p_1 l=>g κ (r,r_1,r_2,p,p_1,l)) (fun r r_1 r_2 p p_1 l=>h (r,r_1,r_2,p,p_1,l)) (fun r r_1 r_2 p p_1 l=>hg (r,r_1,r_2,p,p_1,l))  x.1 x.2.1 x.2.2.1 x.2.2.2.1 x.2.2.2.2.1 x.2.2.2.2.2) _
theorem zeI (zaa:Nat->(List UInt8)->Int->Int->Option (((Tr (Int×Int×Unit))×(List UInt8)×Int×Int)⊕(Int×Int))) (zae:(List UInt8)->Int->Int->Option (((Tr (Int×Int×Unit))×(List UInt8)×Int×Int)⊕(Int×Int))) (zaf:∀ a0 a1 a2,ChO (fun κ=>zaa κ a0 a1 a2) (zae a0 a1 a2)) (c:(List UInt8)) (c_1:Int) (c_2:Int):ChO (fun κ=>zbh (zaa κ) c c_1 c_2) (zbh zae c c_1 c_2):=by
  unfold zbh
  repeat' with_reducible first | exact ChO.const _ | exact zaf _ _ _ | (apply zaB<;>assumption) | (apply zaO<;>assumption) | (apply zbj<;>assumption) | (apply zb0<;>assumption) | (apply zcb<;>assumption) | apply ChO.ite | apply ChO.G | apply ChO.both | apply ChO.bothS | (apply ChO.bind;intro _) | (apply ChO.bind2 (zaf _ _ _);intro _) | (refine ChO.bind2 ?_ (fun _ => ?_)) | (refine ChO.pbind (fun _ => ?_) (fun _ => ?_)) | (refine ChO.pbind2 ?_ (fun _ => ?_) (fun _ => ?_))
theorem zcE (zaa:Nat->(List UInt8)->Int->Int->Option (((Tr (Int×Int×Unit))×(List UInt8)×Int×Int)⊕(Int×Int))) (zae:(List UInt8)->Int->Int->Option (((Tr (Int×Int×Unit))×(List UInt8)×Int×Int)⊕(Int×Int))) (zaf:∀ a0 a1 a2,ChO (fun κ=>zaa κ a0 a1 a2) (zae a0 a1 a2)) (r2:Nat->(List UInt8)->Int->Int->Int->Int->(List (Tr (Int×Int×Unit)))->Option (((Tr (Int×Int×Unit))×(List UInt8)×Int×Int)⊕(Int×Int))) (r2':(List UInt8)->Int->Int->Int->Int->(List (Tr (Int×Int×Unit)))->Option (((Tr (Int×Int×Unit))×(List UInt8)×Int×Int)⊕(Int×Int))) (h_r2:∀ a0 a1 a2 a3 a4 a5,ChO (fun κ=>r2 κ a0 a1 a2 a3 a4 a5) (r2' a0 a1 a2 a3 a4 a5)) (r:(List UInt8)) (r_1:Int) (r_2:Int) (p:Int) (p_1:Int) (l:(List (Tr (Int×Int×Unit)))):ChO (fun κ=>zaZ (zaa κ) (r2 κ) r r_1 r_2 p p_1 l) (zaZ zae r2' r r_1 r_2 p p_1 l):=by
  unfold zaZ
  repeat' with_reducible first | exact ChO.const _ | exact zaf _ _ _ | exact h_r2 _ _ _ _ _ _ | (apply zaB<;>assumption) | (apply zaO<;>assumption) | (apply zbj<;>assumption) | (apply zb0<;>assumption) | (apply zcb<;>assumption) | (apply zeI<;>assumption) | apply ChO.ite | apply ChO.G | apply ChO.both | apply ChO.bothS | (apply ChO.bind;intro _) | (apply ChO.bind2 (zaf _ _ _);intro _) | (refine ChO.bind2 ?_ (fun _ => ?_)) | (refine ChO.pbind (fun _ => ?_) (fun _ => ?_)) | (refine ChO.pbind2 ?_ (fun _ => ?_) (fun _ => ?_))
theorem zbR (zaa:(List UInt8)->Int->Int->Option (((Tr (Int×Int×Unit))×(List UInt8)×Int×Int)⊕(Int×Int))):Cn (zdi zaa):=fun g h hg x=>zcE (fun _=>zaa) zaa (fun _ _ _=>ChO.const _) (fun κ r r_1 r_2 p p_1 l=>g κ (r,r_1,r_2,p,p_1,l)) (fun r r_1 r_2 p p_1 l=>h (r,r_1,r_2,p,p_1,l)) (fun r r_1 r_2 p p_1 l=>hg (r,r_1,r_2,p,p_1,l))  x.1 x.2.1 x.2.2.1 x.2.2.2.1 x.2.2.2.2.1 x.2.2.2.2.2
theorem zfr (zaa:(List UInt8)->Int->Int->Option (((Tr (Int×Int×Unit))×(List UInt8)×Int×Int)⊕(Int×Int)))  (r:(List UInt8)) (r_1:Int) (r_2:Int) (p:Int) (p_1:Int) (l:(List (Tr (Int×Int×Unit)))):zaL zaa r r_1 r_2 p p_1 l=zaZ zaa (zaL zaa) r r_1 r_2 p p_1 l:=zbA (zbR zaa) (r,r_1,r_2,p,p_1,l)
theorem zfq (zaa:Nat->(List UInt8)->Int->Int->Option (((Tr (Int×Int×Unit))×(List UInt8)×Int×Int)⊕(Int×Int))) (zae:(List UInt8)->Int->Int->Option (((Tr (Int×Int×Unit))×(List UInt8)×Int×Int)⊕(Int×Int))) (zaf:∀ a0 a1 a2,ChO (fun κ=>zaa κ a0 a1 a2) (zae a0 a1 a2))  (r:(List UInt8)) (r_1:Int) (r_2:Int) (p:Int) (p_1:Int) (l:(List (Tr (Int×Int×Unit)))):ChO (fun κ=>zaL (zaa κ) r r_1 r_2 p p_1 l) (zaL zae r r_1 r_2 p p_1 l):=by
  unfold zaL
  exact zej (fun κ=>(zbR (zaa κ) ).mono) (zbR zae ).mono (fun g h hg x=>zcE zaa zae zaf (fun κ r r_1 r_2 p p_1 l=>g κ (r,r_1,r_2,p,p_1,l)) (fun r r_1 r_2 p p_1 l=>h (r,r_1,r_2,p,p_1,l)) (fun r r_1 r_2 p p_1 l=>hg (r,r_1,r_2,p,p_1,l))  x.1 x.2.1 x.2.2.1 x.2.2.2.1 x.2.2.2.2.1 x.2.2.2.2.2) _
theorem zf3 (zaa:Nat->(List UInt8)->Int->Int->Option (((Tr (Int×Int×Unit))×(List UInt8)×Int×Int)⊕(Int×Int))) (zae:(List UInt8)->Int->Int->Option (((Tr (Int×Int×Unit))×(List UInt8)×Int×Int)⊕(Int×Int))) (zaf:∀ a0 a1 a2,ChO (fun κ=>zaa κ a0 a1 a2) (zae a0 a1 a2)) (c:(List UInt8)) (c_1:Int) (c_2:Int):ChO (fun κ=>zbk (zaa κ) c c_1 c_2) (zbk zae c c_1 c_2):=by
  unfold zbk
  repeat' with_reducible first | exact ChO.const _ | exact zaf _ _ _ | (apply zaB<;>assumption) | (apply zaO<;>assumption) | (apply zbj<;>assumption) | (apply zb0<;>assumption) | (apply zcb<;>assumption) | (apply zeI<;>assumption) | (apply zfq<;>assumption) | apply ChO.ite | apply ChO.G | apply ChO.both | apply ChO.bothS | (apply ChO.bind;intro _) | (apply ChO.bind2 (zaf _ _ _);intro _) | (refine ChO.bind2 ?_ (fun _ => ?_)) | (refine ChO.pbind (fun _ => ?_) (fun _ => ?_)) | (refine ChO.pbind2 ?_ (fun _ => ?_) (fun _ => ?_))
def zbN:((List UInt8)×Int×Int->Option (((Tr (Int×Int×Unit))×(List UInt8)×Int×Int)⊕(Int×Int)))->(List UInt8)×Int×Int->Option (((Tr (Int×Int×Unit))×(List UInt8)×Int×Int)⊕(Int×Int)):=
  fun rec X=>zbk (fun c c_1 c_2=>rec (c,c_1,c_2)) X.1 X.2.1 X.2.2
def zaw (c:(List UInt8)) (c_1:Int) (c_2:Int):Option (((Tr (Int×Int×Unit))×(List UInt8)×Int×Int)⊕(Int×Int)):=LFix zbN (c,c_1,c_2)
theorem zgV:Cn zbN:=fun g h hg X=>zf3 _ _ (fun c c_1 c_2=>hg (c,c_1,c_2)) X.1 X.2.1 X.2.2
theorem zgW (c:(List UInt8)) (c_1:Int) (c_2:Int):zaw c c_1 c_2=zbk zaw c c_1 c_2:=zbA zgV (c,c_1,c_2)
def zcx (text:(List UInt8)):Option ((Tr (Int×Int×Unit))×Int×Int×Unit):=
  if (decide ((4000:Int) < (text.length:Int)))=true then
  some (Tr.nil,((1:Int),((0:Int),()))) else
  pbind (zaw text (0:Int) (0:Int)) (fun y'_4=>
  if (decide (y'_4.2.2.1 < (text.length:Int)))=true then
  pbind (zby (y'_4.2.1,(y'_4.2.2.1,(y'_4.2.2.2,()))) (4:Int)) (fun _=>
  some (y'_4.1,((0:Int),((0:Int),())))) (fun p=>some (Tr.nil,(p.1,(p.2,())))) else
  some (y'_4.1,((0:Int),((0:Int),())))) (fun p=>some (Tr.nil,(p.1,(p.2,()))))

def zco (letters:Int) (w:Tp10) (r6:Int->Option (Int)) (t:Int):Option (Int):=
  if (decide (t < (w.length:Int)))=true then
  G (0<=t/\t < (w.length:Int)) (
  if (decide ((ix w t) < (0:Int)))=true then
  some (2:Int) else
  if (decide (letters<=(ix w t)))=true then
  some (2:Int) else
  G (fits (t+(1:Int))) (
  r6 (t+(1:Int)))) else
  some (0:Int)
def zjv (letters:Int) (w:Tp10):(Int->Option (Int))->Int->Option (Int):=
  fun rec x=>zco letters w (fun t=>rec t) x
def zg0 (letters:Int) (w:Tp10) (t:Int):Option (Int):=LFix (zjv letters w ) t
def zkK (letters:Int) (w:Tp10):Option (Int):=
  if (decide (letters < (1:Int)))=true then
  some (2:Int) else
  if (decide ((4:Int) < letters))=true then
  some (2:Int) else
  if (decide ((60:Int) < (w.length:Int)))=true then
  some (1:Int) else
  zg0 letters w (0:Int)
theorem zkt (r6:Nat->Int->Option (Int)) (r6':Int->Option (Int)) (h_r6:∀ a0,ChO (fun κ=>r6 κ a0) (r6' a0)) (letters:Int) (w:Tp10) (t:Int):ChO (fun κ=>zco letters w (r6 κ) t) (zco letters w r6' t):=by
  unfold zco
  repeat' with_reducible first | exact ChO.const _ | exact h_r6 _ | apply ChO.ite | apply ChO.G | apply ChO.both | (apply ChO.bind;intro _)
theorem zlX  (letters:Int) (w:Tp10):Cn (zjv letters w):=fun g h hg x=>zkt  (fun κ t=>g κ t) (fun t=>h t) (fun t=>hg t) letters w x
theorem ziA  (letters:Int) (w:Tp10) (t:Int):zg0 letters w t=zco letters w (zg0 letters w) t:=zbA (zlX letters w) t

def za3 (t:Int) (r1:(Int->Tp10->Tp8->Option Tp6)) (l_4:Tp10) (l_5:Tp8):Option Tp6:=
  G (fits (t+(1:Int))) (
  r1 (t+(1:Int)) l_4 l_5)
def zaV (last:Tp10) (first:Tp10) (r1:Int->Tp10->Tp8->Option Tp6) (t:Int) (l_2:Tp10) (l_3:Tp8):Option Tp6:=
  if (decide (t < (last.length:Int)))=true then
  G (0<=t/\t < (last.length:Int)) (
  G (0<=ix last t/\ix last t < (l_3.length:Int)) (
  G ((ix last t).toNat < l_3.length) (
  both [(.list (.int .i64)),(.list (.list (.int .i64)))] (
  G ((ix last t).toNat < l_3.length) (
  G (room (ix l_3 (ix last t)) first 8) (
  G (0<=ix last t/\ix last t < (l_3.length:Int)) (
  G ((ix last t).toNat=(ix last t).toNat) (
  za3 t r1 l_2 (l_3.set (ix last t).toNat ((ix l_3 (ix last t))++first))))))) (
  G ((ix last t).toNat < l_3.length) (
  G (room (ix l_3 (ix last t)) first 8) (
  G (0<=ix last t/\ix last t < (l_3.length:Int)) (
  G ((ix last t).toNat=(ix last t).toNat) (
  za3 t r1 l_2 (l_3.set (ix last t).toNat ((ix l_3 (ix last t))++first)))))))))) else
  some (l_2,l_3)
def zdV (last:Tp10) (first:Tp10):(Int×Tp10×Tp8->Option Tp6)->Int×Tp10×Tp8->Option Tp6:=
  fun rec x=>zaV last first (fun t l_2 l_3=>rec (t,l_2,l_3)) x.1 x.2.1 x.2.2
def zaR (last:Tp10) (first:Tp10) (t:Int) (l_2:Tp10) (l_3:Tp8):Option Tp6:=LFix (zdV last first ) (t,l_2,l_3)
def zcD (last:Tp10) (first:Tp10) (l:Tp10) (l_1:Tp8):Option Tp6:=
  zaR last first (0:Int) l l_1
theorem zgz (r1:Nat->Int->Tp10->Tp8->Option Tp6) (r1':Int->Tp10->Tp8->Option Tp6) (h_r1:∀ a0 a1 a2,ChO (fun κ=>r1 κ a0 a1 a2) (r1' a0 a1 a2)) (t:Int) (l_4:Tp10) (l_5:Tp8):ChO (fun κ=>za3 t (r1 κ) l_4 l_5) (za3 t r1' l_4 l_5):=by
  unfold za3
  repeat' with_reducible first | exact ChO.const _ | exact h_r1 _ _ _ | apply ChO.ite | apply ChO.G | apply ChO.both | (apply ChO.bind;intro _)
theorem zfo (r1:Nat->Int->Tp10->Tp8->Option Tp6) (r1':Int->Tp10->Tp8->Option Tp6) (h_r1:∀ a0 a1 a2,ChO (fun κ=>r1 κ a0 a1 a2) (r1' a0 a1 a2)) (last:Tp10) (first:Tp10) (t:Int) (l_2:Tp10) (l_3:Tp8):ChO (fun κ=>zaV last first (r1 κ) t l_2 l_3) (zaV last first r1' t l_2 l_3):=by
  unfold zaV
  repeat' with_reducible first | exact ChO.const _ | exact h_r1 _ _ _ | (apply zgz<;>assumption) | apply ChO.ite | apply ChO.G | apply ChO.both | (apply ChO.bind;intro _)
theorem zgA  (last:Tp10) (first:Tp10):Cn (zdV last first):=fun g h hg x=>zfo  (fun κ t l_2 l_3=>g κ (t,l_2,l_3)) (fun t l_2 l_3=>h (t,l_2,l_3)) (fun t l_2 l_3=>hg (t,l_2,l_3)) last first x.1 x.2.1 x.2.2
theorem zdC  (last:Tp10) (first:Tp10) (t:Int) (l_2:Tp10) (l_3:Tp8):zaR last first t l_2 l_3=zaV last first (zaR last first) t l_2 l_3:=zbA (zgA last first) (t,l_2,l_3)

def za4 (s:Tp10):Option Tp10:=
  if s.length=0 then both [(.list (.int .i64))] (
  some ([])) (
  G (room ([]:List Int) s 8) (
  some (([]:List Int)++s))) else
  G (room ([]:List Int) s 8) (
  some (([]:List Int)++s))

def zbE (e:Tp3) (f:Tp3) (y':Tp10) (y'_1:Tp8) (g'_1:Bool) (l_4:Tp10) (l_5:Tp10):Option Tp1:=
  if f.1=true then
  G (room l_5 e.2.2.1 8) (
  some ((g'_1,(l_4,(l_5++e.2.2.1,()))),y',y'_1)) else
  some ((g'_1,(l_4,(l_5,()))),y',y'_1)
def zap (e:Tp3) (f:Tp3) (y':Tp10) (y'_1:Tp8) (g':Bool) (l_2:Tp10) (l_3:Tp10):Option Tp1:=
  if e.1=true then
  G (room l_2 f.2.1 8) (
  zbE e f y' y'_1 g' (l_2++f.2.1) l_3) else
  zbE e f y' y'_1 g' l_2 l_3
def zbC (e:Tp3) (f:Tp3) (l:Tp10) (l_1:Tp8):Option Tp1:=
  (zcD e.2.2.1 f.2.1 l l_1).bind (fun y'_13=>
  if e.1=true then
  both [Tc1,(.list (.int .i64)),(.list (.list (.int .i64)))] (
  (za4 e.2.1).bind (fun y'_3=>
  both [Tc1,(.list (.int .i64)),(.list (.list (.int .i64)))] (
  (za4 f.2.2.1).bind (fun y'_4=>
  both [Tc1,(.list (.int .i64)),(.list (.list (.int .i64)))] (
  zap e f y'_13.1 y'_13.2 f.1 y'_3 y'_4) (
  zap e f y'_13.1 y'_13.2 f.1 y'_3 y'_4))) (
  (za4 f.2.2.1).bind (fun y'_5=>
  zap e f y'_13.1 y'_13.2 f.1 y'_3 y'_5)))) (
  (za4 e.2.1).bind (fun y'_6=>
  (za4 f.2.2.1).bind (fun y'_7=>
  zap e f y'_13.1 y'_13.2 f.1 y'_6 y'_7))) else
  both [Tc1,(.list (.int .i64)),(.list (.list (.int .i64)))] (
  (za4 e.2.1).bind (fun y'_8=>
  both [Tc1,(.list (.int .i64)),(.list (.list (.int .i64)))] (
  (za4 f.2.2.1).bind (fun y'_9=>
  both [Tc1,(.list (.int .i64)),(.list (.list (.int .i64)))] (
  zap e f y'_13.1 y'_13.2 false y'_8 y'_9) (
  zap e f y'_13.1 y'_13.2 false y'_8 y'_9))) (
  (za4 f.2.2.1).bind (fun y'_10=>
  zap e f y'_13.1 y'_13.2 false y'_8 y'_10)))) (
  (za4 e.2.1).bind (fun y'_11=>
  (za4 f.2.2.1).bind (fun y'_12=>
  zap e f y'_13.1 y'_13.2 false y'_11 y'_12))))

def zaE (t:Int) (r14:(Int->Bool->Tp10->Tp8->Tp10->Tp10->Option Tp1)) (e_4:Bool) (l_6:Tp10) (l_7:Tp8) (l_8:Tp10) (l_9:Tp10):Option Tp1:=
  G (fits (t+(1:Int))) (
  r14 (t+(1:Int)) e_4 l_6 l_7 l_8 l_9)
def zaT (t:Int) (r14:(Int->Bool->Tp10->Tp8->Tp10->Tp10->Option Tp1)) (y':Tp3) (y'_1:Tp10) (y'_2:Tp8) (e_3:Bool) (l_4:Tp10) (l_5:Tp10):Option Tp1:=
  both [Tc1,(.list (.int .i64)),(.list (.list (.int .i64)))] (
  both [Tc1,(.list (.int .i64)),(.list (.list (.int .i64)))] (
  G (room l_4 y'.2.1 8) (
  G (room l_5 y'.2.2.1 8) (
  zaE t r14 e_3 y'_1 y'_2 (l_4++y'.2.1) (l_5++y'.2.2.1)))) (
  G (room l_4 y'.2.1 8) (
  G (room l_5 y'.2.2.1 8) (
  zaE t r14 e_3 y'_1 y'_2 (l_4++y'.2.1) (l_5++y'.2.2.1))))) (
  both [Tc1,(.list (.int .i64)),(.list (.list (.int .i64)))] (
  G (room l_4 y'.2.1 8) (
  G (room l_5 y'.2.2.1 8) (
  zaE t r14 e_3 y'_1 y'_2 (l_4++y'.2.1) (l_5++y'.2.2.1)))) (
  G (room l_4 y'.2.1 8) (
  G (room l_5 y'.2.2.1 8) (
  zaE t r14 e_3 y'_1 y'_2 (l_4++y'.2.1) (l_5++y'.2.2.1)))))
def zaM (zad:(Tr (Int×Int×Unit))->Tp10->Tp8->Option Tp1) (x':(Tr (Int×Int×Unit))) (r14:Tf1) (t:Int) (e:Bool) (l_2:Tp10) (l_3:Tp8) (e_1:Tp10) (e_2:Tp10):Option Tp1:=
  if (decide (t < (x'.kids.length:Int)))=true then
  G (0<=t/\t < (x'.kids.length:Int)) (
  (zad (ix x'.kids t) l_2 l_3).bind (fun y'_4=>
  if e=true then
  zaT t r14 y'_4.1 y'_4.2.1 y'_4.2.2 true e_1 e_2 else
  zaT t r14 y'_4.1 y'_4.2.1 y'_4.2.2 y'_4.1.1 e_1 e_2)) else
  some ((e,(e_1,(e_2,()))),l_2,l_3)
def zde (zad:(Tr (Int×Int×Unit))->Tp10->Tp8->Option Tp1) (x':(Tr (Int×Int×Unit))):(Int×Bool×Tp10×Tp8×Tp10×Tp10->Option Tp1)->Int×Bool×Tp10×Tp8×Tp10×Tp10->Option Tp1:=
  fun rec x=>zaM zad x' (fun t e l_2 l_3 e_1 e_2=>rec (t,e,l_2,l_3,e_1,e_2)) x.1 x.2.1 x.2.2.1 x.2.2.2.1 x.2.2.2.2.1 x.2.2.2.2.2
def zaF (zad:(Tr (Int×Int×Unit))->Tp10->Tp8->Option Tp1) (x':(Tr (Int×Int×Unit))) (t:Int) (e:Bool) (l_2:Tp10) (l_3:Tp8) (e_1:Tp10) (e_2:Tp10):Option Tp1:=LFix (zde zad x' ) (t,e,l_2,l_3,e_1,e_2)
def zaU (t_1:Int) (r24:(Int->Bool->Tp10->Tp10->Tp10->Tp8->Option Tp1)) (e_8:Bool) (e_9:Tp10) (e_10:Tp10) (l_12:Tp10) (l_13:Tp8):Option Tp1:=
  G (fits (t_1+(1:Int))) (
  r24 (t_1+(1:Int)) e_8 e_9 e_10 l_12 l_13)
def zaN (zad:(Tr (Int×Int×Unit))->Tp10->Tp8->Option Tp1) (x':(Tr (Int×Int×Unit))) (r24:Tf2) (t_1:Int) (e_5:Bool) (e_6:Tp10) (e_7:Tp10) (l_10:Tp10) (l_11:Tp8):Option Tp1:=
  if (decide (t_1 < ((cut x'.kids (1:Int) (x'.kids.length:Int)).length:Int)))=true then
  G (0<=t_1/\t_1 < ((cut x'.kids (1:Int) (x'.kids.length:Int)).length:Int)) (
  both [Tc1,(.list (.int .i64)),(.list (.list (.int .i64)))] (
  (zad (ix (cut x'.kids (1:Int) (x'.kids.length:Int)) t_1) l_10 l_11).bind (fun y'_18=>
  (zbC (e_5,(e_6,(e_7,()))) y'_18.1 y'_18.2.1 y'_18.2.2).bind (fun y'_17=>
  zaU t_1 r24 y'_17.1.1 y'_17.1.2.1 y'_17.1.2.2.1 y'_17.2.1 y'_17.2.2))) (
  (zad (ix (cut x'.kids (1:Int) (x'.kids.length:Int)) t_1) l_10 l_11).bind (fun y'_28=>
  (zbC (e_5,(e_6,(e_7,()))) y'_28.1 y'_28.2.1 y'_28.2.2).bind (fun y'_27=>
  zaU t_1 r24 y'_27.1.1 y'_27.1.2.1 y'_27.1.2.2.1 y'_27.2.1 y'_27.2.2)))) else
  some ((e_5,(e_6,(e_7,()))),l_10,l_11)
def zdf (zad:(Tr (Int×Int×Unit))->Tp10->Tp8->Option Tp1) (x':(Tr (Int×Int×Unit))):(Int×Bool×Tp10×Tp10×Tp10×Tp8->Option Tp1)->Int×Bool×Tp10×Tp10×Tp10×Tp8->Option Tp1:=
  fun rec x=>zaN zad x' (fun t_1 e_5 e_6 e_7 l_10 l_11=>rec (t_1,e_5,e_6,e_7,l_10,l_11)) x.1 x.2.1 x.2.2.1 x.2.2.2.1 x.2.2.2.2.1 x.2.2.2.2.2
def zaK (zad:(Tr (Int×Int×Unit))->Tp10->Tp8->Option Tp1) (x':(Tr (Int×Int×Unit))) (t_1:Int) (e_5:Bool) (e_6:Tp10) (e_7:Tp10) (l_10:Tp10) (l_11:Tp8):Option Tp1:=LFix (zdf zad x' ) (t_1,e_5,e_6,e_7,l_10,l_11)
def zbo (zad:(Tr (Int×Int×Unit))->Tp10->Tp8->Option Tp1) (x':(Tr (Int×Int×Unit))) (l:Tp10) (l_1:Tp8):Option Tp1:=
  G (x'.isMk=true) (
  if (decide (((x'.val (0,(0,()))).1)=(0:Int)))=true then
  some ((false,([],([],()))),l,l_1) else
  if (decide (((x'.val (0,(0,()))).1)=(1:Int)))=true then
  some ((true,([],([],()))),l,l_1) else
  if (decide (((x'.val (0,(0,()))).1)=(2:Int)))=true then
  G (x'.isMk=true) (
  G (room l ([(x'.val (0,(0,()))).2.1]) 8) (
  G (room l_1 ([([]:List Int)]) 24) (
  G (fits (((l++([(x'.val (0,(0,()))).2.1])).length:Int) - (1:Int))) (
  some ((false,([((l++([(x'.val (0,(0,()))).2.1])).length:Int) - (1:Int)],([((l++([(x'.val (0,(0,()))).2.1])).length:Int) - (1:Int)],()))),l++([(x'.val (0,(0,()))).2.1]),l_1++([([]:List Int)])))))) else
  if (decide (((x'.val (0,(0,()))).1)=(3:Int)))=true then
  G (x'.isMk=true) (
  zaF zad x' (0:Int) false l l_1 ([]:List Int) ([]:List Int)) else
  if (decide (((x'.val (0,(0,()))).1)=(4:Int)))=true then
  G (x'.isMk=true) (
  G (0<=(0:Int)/\(0:Int) < (x'.kids.length:Int)) (
  (zad (ix x'.kids (0:Int)) l l_1).bind (fun y'_29=>
  G (x'.isMk=true) (
  G (0<=(1:Int)/\(1:Int)<=(x'.kids.length:Int)/\(x'.kids.length:Int)<=(x'.kids.length:Int)) (
  zaK zad x' (0:Int) y'_29.1.1 y'_29.1.2.1 y'_29.1.2.2.1 y'_29.2.1 y'_29.2.2))))) else
  G (x'.isMk=true) (
  G (0<=(0:Int)/\(0:Int) < (x'.kids.length:Int)) (
  (zad (ix x'.kids (0:Int)) l l_1).bind (fun y'_38=>
  (zcD y'_38.1.2.2.1 y'_38.1.2.1 y'_38.2.1 y'_38.2.2).bind (fun y'_37=>
  some ((true,(y'_38.1.2.1,(y'_38.1.2.2.1,()))),y'_37.1,y'_37.2))))))
theorem za9 (r14:Nat->Tf1) (r14':Tf1) (h_r14:∀ a0 a1 a2 a3 a4 a5,ChO (fun κ=>r14 κ a0 a1 a2 a3 a4 a5) (r14' a0 a1 a2 a3 a4 a5)) (t:Int) (e_4:Bool) (l_6:Tp10) (l_7:Tp8) (l_8:Tp10) (l_9:Tp10):ChO (fun κ=>zaE t (r14 κ) e_4 l_6 l_7 l_8 l_9) (zaE t r14' e_4 l_6 l_7 l_8 l_9):=by
  unfold zaE
  repeat' with_reducible first | exact ChO.const _ | exact h_r14 _ _ _ _ _ _ | apply ChO.ite | apply ChO.G | apply ChO.both | (apply ChO.bind;intro _)
theorem zbt (r14:Nat->Tf1) (r14':Tf1) (h_r14:∀ a0 a1 a2 a3 a4 a5,ChO (fun κ=>r14 κ a0 a1 a2 a3 a4 a5) (r14' a0 a1 a2 a3 a4 a5)) (t:Int) (y':Tp3) (y'_1:Tp10) (y'_2:Tp8) (e_3:Bool) (l_4:Tp10) (l_5:Tp10):ChO (fun κ=>zaT t (r14 κ) y' y'_1 y'_2 e_3 l_4 l_5) (zaT t r14' y' y'_1 y'_2 e_3 l_4 l_5):=by
  unfold zaT
  repeat' with_reducible first | exact ChO.const _ | exact h_r14 _ _ _ _ _ _ | (apply za9<;>assumption) | apply ChO.ite | apply ChO.G | apply ChO.both | (apply ChO.bind;intro _)
theorem zcB (zad:Nat->(Tr (Int×Int×Unit))->Tp10->Tp8->Option Tp1) (zak:(Tr (Int×Int×Unit))->Tp10->Tp8->Option Tp1) (zao:∀ a0 a1 a2,ChO (fun κ=>zad κ a0 a1 a2) (zak a0 a1 a2)) (r14:Nat->Tf1) (r14':Tf1) (h_r14:∀ a0 a1 a2 a3 a4 a5,ChO (fun κ=>r14 κ a0 a1 a2 a3 a4 a5) (r14' a0 a1 a2 a3 a4 a5)) (x':(Tr (Int×Int×Unit))) (t:Int) (e:Bool) (l_2:Tp10) (l_3:Tp8) (e_1:Tp10) (e_2:Tp10):ChO (fun κ=>zaM (zad κ) x' (r14 κ) t e l_2 l_3 e_1 e_2) (zaM zak x' r14' t e l_2 l_3 e_1 e_2):=by
  unfold zaM
  repeat' with_reducible first | exact ChO.const _ | exact zao _ _ _ | exact h_r14 _ _ _ _ _ _ | (apply za9<;>assumption) | (apply zbt<;>assumption) | apply ChO.ite | apply ChO.G | apply ChO.both | (apply ChO.bind;intro _) | (apply ChO.bind2 (zao _ _ _);intro _)
theorem zbP (zad:(Tr (Int×Int×Unit))->Tp10->Tp8->Option Tp1) (x':(Tr (Int×Int×Unit))):Cn (zde zad x'):=fun g h hg x=>zcB (fun _=>zad) zad (fun _ _ _=>ChO.const _) (fun κ t e l_2 l_3 e_1 e_2=>g κ (t,e,l_2,l_3,e_1,e_2)) (fun t e l_2 l_3 e_1 e_2=>h (t,e,l_2,l_3,e_1,e_2)) (fun t e l_2 l_3 e_1 e_2=>hg (t,e,l_2,l_3,e_1,e_2)) x' x.1 x.2.1 x.2.2.1 x.2.2.2.1 x.2.2.2.2.1 x.2.2.2.2.2
theorem zc0 (zad:(Tr (Int×Int×Unit))->Tp10->Tp8->Option Tp1) (x':(Tr (Int×Int×Unit))) (t:Int) (e:Bool) (l_2:Tp10) (l_3:Tp8) (e_1:Tp10) (e_2:Tp10):zaF zad x' t e l_2 l_3 e_1 e_2=zaM zad x' (zaF zad x') t e l_2 l_3 e_1 e_2:=zbA (zbP zad x') (t,e,l_2,l_3,e_1,e_2)
theorem zbO (zad:Nat->(Tr (Int×Int×Unit))->Tp10->Tp8->Option Tp1) (zak:(Tr (Int×Int×Unit))->Tp10->Tp8->Option Tp1) (zao:∀ a0 a1 a2,ChO (fun κ=>zad κ a0 a1 a2) (zak a0 a1 a2)) (x':(Tr (Int×Int×Unit))) (t:Int) (e:Bool) (l_2:Tp10) (l_3:Tp8) (e_1:Tp10) (e_2:Tp10):ChO (fun κ=>zaF (zad κ) x' t e l_2 l_3 e_1 e_2) (zaF zak x' t e l_2 l_3 e_1 e_2):=by
  unfold zaF
  exact zej (fun κ=>(zbP (zad κ) x').mono) (zbP zak x').mono (fun g h hg x=>zcB zad zak zao (fun κ t e l_2 l_3 e_1 e_2=>g κ (t,e,l_2,l_3,e_1,e_2)) (fun t e l_2 l_3 e_1 e_2=>h (t,e,l_2,l_3,e_1,e_2)) (fun t e l_2 l_3 e_1 e_2=>hg (t,e,l_2,l_3,e_1,e_2)) x' x.1 x.2.1 x.2.2.1 x.2.2.2.1 x.2.2.2.2.1 x.2.2.2.2.2) _
theorem zcZ (r24:Nat->Tf2) (r24':Tf2) (h_r24:∀ a0 a1 a2 a3 a4 a5,ChO (fun κ=>r24 κ a0 a1 a2 a3 a4 a5) (r24' a0 a1 a2 a3 a4 a5)) (t_1:Int) (e_8:Bool) (e_9:Tp10) (e_10:Tp10) (l_12:Tp10) (l_13:Tp8):ChO (fun κ=>zaU t_1 (r24 κ) e_8 e_9 e_10 l_12 l_13) (zaU t_1 r24' e_8 e_9 e_10 l_12 l_13):=by
  unfold zaU
  repeat' with_reducible first | exact ChO.const _ | exact h_r24 _ _ _ _ _ _ | (apply za9<;>assumption) | (apply zbt<;>assumption) | (apply zbO<;>assumption) | apply ChO.ite | apply ChO.G | apply ChO.both | (apply ChO.bind;intro _)
theorem zcC (zad:Nat->(Tr (Int×Int×Unit))->Tp10->Tp8->Option Tp1) (zak:(Tr (Int×Int×Unit))->Tp10->Tp8->Option Tp1) (zao:∀ a0 a1 a2,ChO (fun κ=>zad κ a0 a1 a2) (zak a0 a1 a2)) (r24:Nat->Tf2) (r24':Tf2) (h_r24:∀ a0 a1 a2 a3 a4 a5,ChO (fun κ=>r24 κ a0 a1 a2 a3 a4 a5) (r24' a0 a1 a2 a3 a4 a5)) (x':(Tr (Int×Int×Unit))) (t_1:Int) (e_5:Bool) (e_6:Tp10) (e_7:Tp10) (l_10:Tp10) (l_11:Tp8):ChO (fun κ=>zaN (zad κ) x' (r24 κ) t_1 e_5 e_6 e_7 l_10 l_11) (zaN zak x' r24' t_1 e_5 e_6 e_7 l_10 l_11):=by
  unfold zaN
  repeat' with_reducible first | exact ChO.const _ | exact zao _ _ _ | exact h_r24 _ _ _ _ _ _ | (apply za9<;>assumption) | (apply zbt<;>assumption) | (apply zbO<;>assumption) | (apply zcZ<;>assumption) | apply ChO.ite | apply ChO.G | apply ChO.both | (apply ChO.bind;intro _) | (apply ChO.bind2 (zao _ _ _);intro _)
theorem zbQ (zad:(Tr (Int×Int×Unit))->Tp10->Tp8->Option Tp1) (x':(Tr (Int×Int×Unit))):Cn (zdf zad x'):=fun g h hg x=>zcC (fun _=>zad) zad (fun _ _ _=>ChO.const _) (fun κ t_1 e_5 e_6 e_7 l_10 l_11=>g κ (t_1,e_5,e_6,e_7,l_10,l_11)) (fun t_1 e_5 e_6 e_7 l_10 l_11=>h (t_1,e_5,e_6,e_7,l_10,l_11)) (fun t_1 e_5 e_6 e_7 l_10 l_11=>hg (t_1,e_5,e_6,e_7,l_10,l_11)) x' x.1 x.2.1 x.2.2.1 x.2.2.2.1 x.2.2.2.2.1 x.2.2.2.2.2
theorem zc1 (zad:(Tr (Int×Int×Unit))->Tp10->Tp8->Option Tp1) (x':(Tr (Int×Int×Unit))) (t_1:Int) (e_5:Bool) (e_6:Tp10) (e_7:Tp10) (l_10:Tp10) (l_11:Tp8):zaK zad x' t_1 e_5 e_6 e_7 l_10 l_11=zaN zad x' (zaK zad x') t_1 e_5 e_6 e_7 l_10 l_11:=zbA (zbQ zad x') (t_1,e_5,e_6,e_7,l_10,l_11)
theorem zfn (zad:Nat->(Tr (Int×Int×Unit))->Tp10->Tp8->Option Tp1) (zak:(Tr (Int×Int×Unit))->Tp10->Tp8->Option Tp1) (zao:∀ a0 a1 a2,ChO (fun κ=>zad κ a0 a1 a2) (zak a0 a1 a2)) (x':(Tr (Int×Int×Unit))) (t_1:Int) (e_5:Bool) (e_6:Tp10) (e_7:Tp10) (l_10:Tp10) (l_11:Tp8):ChO (fun κ=>zaK (zad κ) x' t_1 e_5 e_6 e_7 l_10 l_11) (zaK zak x' t_1 e_5 e_6 e_7 l_10 l_11):=by
  unfold zaK
  exact zej (fun κ=>(zbQ (zad κ) x').mono) (zbQ zak x').mono (fun g h hg x=>zcC zad zak zao (fun κ t_1 e_5 e_6 e_7 l_10 l_11=>g κ (t_1,e_5,e_6,e_7,l_10,l_11)) (fun t_1 e_5 e_6 e_7 l_10 l_11=>h (t_1,e_5,e_6,e_7,l_10,l_11)) (fun t_1 e_5 e_6 e_7 l_10 l_11=>hg (t_1,e_5,e_6,e_7,l_10,l_11)) x' x.1 x.2.1 x.2.2.1 x.2.2.2.1 x.2.2.2.2.1 x.2.2.2.2.2) _
theorem zgy (zad:Nat->(Tr (Int×Int×Unit))->Tp10->Tp8->Option Tp1) (zak:(Tr (Int×Int×Unit))->Tp10->Tp8->Option Tp1) (zao:∀ a0 a1 a2,ChO (fun κ=>zad κ a0 a1 a2) (zak a0 a1 a2)) (x':(Tr (Int×Int×Unit))) (l:Tp10) (l_1:Tp8):ChO (fun κ=>zbo (zad κ) x' l l_1) (zbo zak x' l l_1):=by
  unfold zbo
  repeat' with_reducible first | exact ChO.const _ | exact zao _ _ _ | (apply za9<;>assumption) | (apply zbt<;>assumption) | (apply zbO<;>assumption) | (apply zcZ<;>assumption) | (apply zfn<;>assumption) | apply ChO.ite | apply ChO.G | apply ChO.both | (apply ChO.bind;intro _) | (apply ChO.bind2 (zao _ _ _);intro _)
def zbW:((Tr (Int×Int×Unit))×Tp10×Tp8->Option Tp1)->(Tr (Int×Int×Unit))×Tp10×Tp8->Option Tp1:=
  fun rec X=>zbo (fun x' l l_1=>rec (x',l,l_1)) X.1 X.2.1 X.2.2
def zaJ (x':(Tr (Int×Int×Unit))) (l:Tp10) (l_1:Tp8):Option Tp1:=LFix zbW (x',l,l_1)
theorem zhi:Cn zbW:=fun g h hg X=>zgy _ _ (fun x' l l_1=>hg (x',l,l_1)) X.1 X.2.1 X.2.2
theorem zhj (x':(Tr (Int×Int×Unit))) (l:Tp10) (l_1:Tp8):zaJ x' l l_1=zbo zaJ x' l l_1:=zbA zhi (x',l,l_1)

def zbb (y':Tp3) (y'_1:Tp10) (y'_2:Tp8) (r6:Int->Tp9->Option Tp2) (t:Int) (good:Tp9):Option Tp2:=
  if (decide (t < (y'.2.2.1.length:Int)))=true then
  G (0<=t/\t < (y'.2.2.1.length:Int)) (
  G (0<=ix y'.2.2.1 t/\ix y'.2.2.1 t < (good.length:Int)) (
  G ((ix y'.2.2.1 t).toNat < good.length) (
  G (fits (t+(1:Int))) (
  r6 (t+(1:Int)) (good.set (ix y'.2.2.1 t).toNat true))))) else
  G (0<=(y'_1.length:Int)/\(y'_1.length:Int) < (good.length:Int)) (
  G (((y'_1.length:Int)).toNat < good.length) (
  G (room y'_2 ([y'.2.1]) 24) (
  some ((y'_1,(y'_2++([y'.2.1]),())),good.set ((y'_1.length:Int)).toNat y'.1))))
def zeT (y':Tp3) (y'_1:Tp10) (y'_2:Tp8):(Int×Tp9->Option Tp2)->Int×Tp9->Option Tp2:=
  fun rec x=>zbb y' y'_1 y'_2 (fun t good=>rec (t,good)) x.1 x.2
def zcA (y':Tp3) (y'_1:Tp10) (y'_2:Tp8) (t:Int) (good:Tp9):Option Tp2:=LFix (zeT y' y'_1 y'_2 ) (t,good)
def zdS (x':(Tr (Int×Int×Unit))):Option Tp2:=
  (zaJ x' ([]:List Int) ([]:List Tp10)).bind (fun y'_4=>
  G (fits ((y'_4.2.1.length:Int)+(1:Int))) (
  G (mkOK ((y'_4.2.1.length:Int)+(1:Int)) ((y'_4.2.1.length:Int)+(1:Int)) 1) (
  zcA y'_4.1 y'_4.2.1 y'_4.2.2 (0:Int) (List.replicate ((y'_4.2.1.length:Int)+(1:Int)).toNat (false:Bool)))))
theorem zgU (r6:Nat->Int->Tp9->Option Tp2) (r6':Int->Tp9->Option Tp2) (h_r6:∀ a0 a1,ChO (fun κ=>r6 κ a0 a1) (r6' a0 a1)) (y':Tp3) (y'_1:Tp10) (y'_2:Tp8) (t:Int) (good:Tp9):ChO (fun κ=>zbb y' y'_1 y'_2 (r6 κ) t good) (zbb y' y'_1 y'_2 r6' t good):=by
  unfold zbb
  repeat' with_reducible first | exact ChO.const _ | exact h_r6 _ _ | apply ChO.ite | apply ChO.G | apply ChO.both | (apply ChO.bind;intro _)
theorem zhI  (y':Tp3) (y'_1:Tp10) (y'_2:Tp8):Cn (zeT y' y'_1 y'_2):=fun g h hg x=>zgU  (fun κ t good=>g κ (t,good)) (fun t good=>h (t,good)) (fun t good=>hg (t,good)) y' y'_1 y'_2 x.1 x.2
theorem zeD  (y':Tp3) (y'_1:Tp10) (y'_2:Tp8) (t:Int) (good:Tp9):zcA y' y'_1 y'_2 t good=zbb y' y'_1 y'_2 (zcA y' y'_1 y'_2) t good:=zbA (zhI y' y'_1 y'_2) (t,good)

def zbx (w:Tp10) (y'_4:Tp4) (t:Int) (t_1:Int) (r15:(Int->Tp9->Option (Bool×Int))) (r19:Int->Tp9->Option (Bool×Int)) (t_2:Int) (next'_1:Tp9):Option (Bool×Int):=
  if (decide (t_2 < ((ix y'_4.2.1 t_1).length:Int)))=true then
  G (0<=t_2/\t_2 < ((ix y'_4.2.1 t_1).length:Int)) (
  G (0<=ix (ix y'_4.2.1 t_1) t_2/\ix (ix y'_4.2.1 t_1) t_2 < (y'_4.1.length:Int)) (
  if (decide ((ix y'_4.1 (ix (ix y'_4.2.1 t_1) t_2))=(ix w t)))=true then
  G (0<=ix (ix y'_4.2.1 t_1) t_2/\ix (ix y'_4.2.1 t_1) t_2 < (next'_1.length:Int)) (
  G ((ix (ix y'_4.2.1 t_1) t_2).toNat < next'_1.length) (
  G (fits (t_2+(1:Int))) (
  r19 (t_2+(1:Int)) (next'_1.set (ix (ix y'_4.2.1 t_1) t_2).toNat true)))) else
  G (fits (t_2+(1:Int))) (
  r19 (t_2+(1:Int)) next'_1))) else
  G (fits (t_1+(1:Int))) (
  r15 (t_1+(1:Int)) next'_1)
def zgu (w:Tp10) (y'_4:Tp4) (t:Int) (t_1:Int) (r15:(Int->Tp9->Option (Bool×Int))):(Int×Tp9->Option (Bool×Int))->Int×Tp9->Option (Bool×Int):=
  fun rec x=>zbx w y'_4 t t_1 r15 (fun t_2 next'_1=>rec (t_2,next'_1)) x.1 x.2
def zbB (w:Tp10) (y'_4:Tp4) (t:Int) (t_1:Int) (r15:(Int->Tp9->Option (Bool×Int))) (t_2:Int) (next'_1:Tp9):Option (Bool×Int):=LFix (zgu w y'_4 t t_1 r15 ) (t_2,next'_1)
def zbm (w:Tp10) (y'_4:Tp4) (t:Int) (now:Tp9) (r11:(Int->Tp9->Option (Bool×Int))) (r15:Int->Tp9->Option (Bool×Int)) (t_1:Int) (next':Tp9):Option (Bool×Int):=
  if (decide (t_1 < (now.length:Int)))=true then
  G (0<=t_1/\t_1 < (now.length:Int)) (
  G ((t_1).toNat < now.length) (
  if (!(ix now t_1))=true then
  G (fits (t_1+(1:Int))) (
  r15 (t_1+(1:Int)) next') else
  G (0<=t_1/\t_1 < (y'_4.2.1.length:Int)) (
  zbB w y'_4 t t_1 r15 (0:Int) next'))) else
  G (fits (t+(1:Int))) (
  r11 (t+(1:Int)) next')
def zgt (w:Tp10) (y'_4:Tp4) (t:Int) (now:Tp9) (r11:(Int->Tp9->Option (Bool×Int))):(Int×Tp9->Option (Bool×Int))->Int×Tp9->Option (Bool×Int):=
  fun rec x=>zbm w y'_4 t now r11 (fun t_1 next'=>rec (t_1,next')) x.1 x.2
def zbr (w:Tp10) (y'_4:Tp4) (t:Int) (now:Tp9) (r11:(Int->Tp9->Option (Bool×Int))) (t_1:Int) (next':Tp9):Option (Bool×Int):=LFix (zgt w y'_4 t now r11 ) (t_1,next')
def zbn (y'_5:Tp9) (now:Tp9) (r28:Int->Option (Bool×Int)) (t_3:Int):Option (Bool×Int):=
  if (decide (t_3 < (now.length:Int)))=true then
  G (0<=t_3/\t_3 < (now.length:Int)) (
  G ((t_3).toNat < now.length) (
  if (ix now t_3)=true then
  G (0<=t_3/\t_3 < (y'_5.length:Int)) (
  G ((t_3).toNat < y'_5.length) (
  if (ix y'_5 t_3)=true then
  some (true,(0:Int)) else
  G (fits (t_3+(1:Int))) (
  r28 (t_3+(1:Int))))) else
  G (fits (t_3+(1:Int))) (
  r28 (t_3+(1:Int))))) else
  some (false,(0:Int))
def zgv (y'_5:Tp9) (now:Tp9):(Int->Option (Bool×Int))->Int->Option (Bool×Int):=
  fun rec x=>zbn y'_5 now (fun t_3=>rec t_3) x
def zbM (y'_5:Tp9) (now:Tp9) (t_3:Int):Option (Bool×Int):=LFix (zgv y'_5 now ) t_3
def zbw (w:Tp10) (y'_4:Tp4) (y'_5:Tp9) (r11:Int->Tp9->Option (Bool×Int)) (t:Int) (now:Tp9):Option (Bool×Int):=
  if (decide (t < (w.length:Int)))=true then
  G (0<=t/\t < (w.length:Int)) (
  G (mkOK (y'_5.length:Int) (y'_5.length:Int) 1) (
  zbr w y'_4 t now r11 (0:Int) (List.replicate ((y'_5.length:Int)).toNat (false:Bool)))) else
  zbM y'_5 now (0:Int)
def zgs (w:Tp10) (y'_4:Tp4) (y'_5:Tp9):(Int×Tp9->Option (Bool×Int))->Int×Tp9->Option (Bool×Int):=
  fun rec x=>zbw w y'_4 y'_5 (fun t now=>rec (t,now)) x.1 x.2
def zcU (w:Tp10) (y'_4:Tp4) (y'_5:Tp9) (t:Int) (now:Tp9):Option (Bool×Int):=LFix (zgs w y'_4 y'_5 ) (t,now)
def zcT (text:(List UInt8)) (w:Tp10):Option (Bool×Int):=
  (zcx text).bind (fun y'_8=>
  if (decide (¬ y'_8.2.1=(0:Int)))=true then
  some (false,(4:Int)) else
  (zkK (4:Int) w).bind (fun y'_3=>
  if (decide (¬ y'_3=(0:Int)))=true then
  some (false,y'_3) else
  (zdS y'_8.1).bind (fun y'_7=>
  G (mkOK (y'_7.2.length:Int) (y'_7.2.length:Int) 1) (
  G (fits ((y'_7.2.length:Int) - (1:Int))) (
  G (0<=(y'_7.2.length:Int) - (1:Int)/\(y'_7.2.length:Int) - (1:Int) < ((List.replicate ((y'_7.2.length:Int)).toNat (false:Bool)).length:Int)) (
  G (((y'_7.2.length:Int) - (1:Int)).toNat < (List.replicate ((y'_7.2.length:Int)).toNat (false:Bool)).length) (
  zcU w y'_7.1 y'_7.2 (0:Int) ((List.replicate ((y'_7.2.length:Int)).toNat (false:Bool)).set ((y'_7.2.length:Int) - (1:Int)).toNat true))))))))
theorem zeS (r15:Nat->Int->Tp9->Option (Bool×Int)) (r15':Int->Tp9->Option (Bool×Int)) (h_r15:∀ a0 a1,ChO (fun κ=>r15 κ a0 a1) (r15' a0 a1)) (r19:Nat->Int->Tp9->Option (Bool×Int)) (r19':Int->Tp9->Option (Bool×Int)) (h_r19:∀ a0 a1,ChO (fun κ=>r19 κ a0 a1) (r19' a0 a1)) (w:Tp10) (y'_4:Tp4) (t:Int) (t_1:Int) (t_2:Int) (next'_1:Tp9):ChO (fun κ=>zbx w y'_4 t t_1 (r15 κ) (r19 κ) t_2 next'_1) (zbx w y'_4 t t_1 r15' r19' t_2 next'_1):=by
  unfold zbx
  repeat' with_reducible first | exact ChO.const _ | exact h_r15 _ _ | exact h_r19 _ _ | apply ChO.ite | apply ChO.G | apply ChO.both | (apply ChO.bind;intro _)
theorem zdQ (r15:Int->Tp9->Option (Bool×Int)) (w:Tp10) (y'_4:Tp4) (t:Int) (t_1:Int):Cn (zgu w y'_4 t t_1 r15):=fun g h hg x=>zeS (fun _=>r15) r15 (fun _ _=>ChO.const _) (fun κ t_2 next'_1=>g κ (t_2,next'_1)) (fun t_2 next'_1=>h (t_2,next'_1)) (fun t_2 next'_1=>hg (t_2,next'_1)) w y'_4 t t_1 x.1 x.2
theorem zfJ (r15:Int->Tp9->Option (Bool×Int)) (w:Tp10) (y'_4:Tp4) (t:Int) (t_1:Int) (t_2:Int) (next'_1:Tp9):zbB w y'_4 t t_1 r15 t_2 next'_1=zbx w y'_4 t t_1 r15 (zbB w y'_4 t t_1 r15) t_2 next'_1:=zbA (zdQ r15 w y'_4 t t_1) (t_2,next'_1)
theorem zdP (r15:Nat->Int->Tp9->Option (Bool×Int)) (r15':Int->Tp9->Option (Bool×Int)) (h_r15:∀ a0 a1,ChO (fun κ=>r15 κ a0 a1) (r15' a0 a1)) (w:Tp10) (y'_4:Tp4) (t:Int) (t_1:Int) (t_2:Int) (next'_1:Tp9):ChO (fun κ=>zbB w y'_4 t t_1 (r15 κ) t_2 next'_1) (zbB w y'_4 t t_1 r15' t_2 next'_1):=by
  unfold zbB
  exact zej (fun κ=>(zdQ (r15 κ) w y'_4 t t_1).mono) (zdQ r15' w y'_4 t t_1).mono (fun g h hg x=>zeS r15 r15' h_r15 (fun κ t_2 next'_1=>g κ (t_2,next'_1)) (fun t_2 next'_1=>h (t_2,next'_1)) (fun t_2 next'_1=>hg (t_2,next'_1)) w y'_4 t t_1 x.1 x.2) _
theorem zeR (r11:Nat->Int->Tp9->Option (Bool×Int)) (r11':Int->Tp9->Option (Bool×Int)) (h_r11:∀ a0 a1,ChO (fun κ=>r11 κ a0 a1) (r11' a0 a1)) (r15:Nat->Int->Tp9->Option (Bool×Int)) (r15':Int->Tp9->Option (Bool×Int)) (h_r15:∀ a0 a1,ChO (fun κ=>r15 κ a0 a1) (r15' a0 a1)) (w:Tp10) (y'_4:Tp4) (t:Int) (now:Tp9) (t_1:Int) (next':Tp9):ChO (fun κ=>zbm w y'_4 t now (r11 κ) (r15 κ) t_1 next') (zbm w y'_4 t now r11' r15' t_1 next'):=by
  unfold zbm
  repeat' with_reducible first | exact ChO.const _ | exact h_r11 _ _ | exact h_r15 _ _ | (apply zdP<;>assumption) | apply ChO.ite | apply ChO.G | apply ChO.both | (apply ChO.bind;intro _)
theorem zdN (r11:Int->Tp9->Option (Bool×Int)) (w:Tp10) (y'_4:Tp4) (t:Int) (now:Tp9):Cn (zgt w y'_4 t now r11):=fun g h hg x=>zeR (fun _=>r11) r11 (fun _ _=>ChO.const _) (fun κ t_1 next'=>g κ (t_1,next')) (fun t_1 next'=>h (t_1,next')) (fun t_1 next'=>hg (t_1,next')) w y'_4 t now x.1 x.2
theorem zdO (r11:Int->Tp9->Option (Bool×Int)) (w:Tp10) (y'_4:Tp4) (t:Int) (now:Tp9) (t_1:Int) (next':Tp9):zbr w y'_4 t now r11 t_1 next'=zbm w y'_4 t now r11 (zbr w y'_4 t now r11) t_1 next':=zbA (zdN r11 w y'_4 t now) (t_1,next')
theorem zfI (r11:Nat->Int->Tp9->Option (Bool×Int)) (r11':Int->Tp9->Option (Bool×Int)) (h_r11:∀ a0 a1,ChO (fun κ=>r11 κ a0 a1) (r11' a0 a1)) (w:Tp10) (y'_4:Tp4) (t:Int) (now:Tp9) (t_1:Int) (next':Tp9):ChO (fun κ=>zbr w y'_4 t now (r11 κ) t_1 next') (zbr w y'_4 t now r11' t_1 next'):=by
  unfold zbr
  exact zej (fun κ=>(zdN (r11 κ) w y'_4 t now).mono) (zdN r11' w y'_4 t now).mono (fun g h hg x=>zeR r11 r11' h_r11 (fun κ t_1 next'=>g κ (t_1,next')) (fun t_1 next'=>h (t_1,next')) (fun t_1 next'=>hg (t_1,next')) w y'_4 t now x.1 x.2) _
theorem zij (r28:Nat->Int->Option (Bool×Int)) (r28':Int->Option (Bool×Int)) (h_r28:∀ a0,ChO (fun κ=>r28 κ a0) (r28' a0)) (y'_5:Tp9) (now:Tp9) (t_3:Int):ChO (fun κ=>zbn y'_5 now (r28 κ) t_3) (zbn y'_5 now r28' t_3):=by
  unfold zbn
  repeat' with_reducible first | exact ChO.const _ | exact h_r28 _ | (apply zdP<;>assumption) | (apply zfI<;>assumption) | apply ChO.ite | apply ChO.G | apply ChO.both | (apply ChO.bind;intro _)
theorem zjr  (y'_5:Tp9) (now:Tp9):Cn (zgv y'_5 now):=fun g h hg x=>zij  (fun κ t_3=>g κ t_3) (fun t_3=>h t_3) (fun t_3=>hg t_3) y'_5 now x
theorem zdR  (y'_5:Tp9) (now:Tp9) (t_3:Int):zbM y'_5 now t_3=zbn y'_5 now (zbM y'_5 now) t_3:=zbA (zjr y'_5 now) t_3
theorem zii (r11:Nat->Int->Tp9->Option (Bool×Int)) (r11':Int->Tp9->Option (Bool×Int)) (h_r11:∀ a0 a1,ChO (fun κ=>r11 κ a0 a1) (r11' a0 a1)) (w:Tp10) (y'_4:Tp4) (y'_5:Tp9) (t:Int) (now:Tp9):ChO (fun κ=>zbw w y'_4 y'_5 (r11 κ) t now) (zbw w y'_4 y'_5 r11' t now):=by
  unfold zbw
  repeat' with_reducible first | exact ChO.const _ | exact h_r11 _ _ | (apply zdP<;>assumption) | (apply zfI<;>assumption) | apply ChO.ite | apply ChO.G | apply ChO.both | (apply ChO.bind;intro _)
theorem zjq  (w:Tp10) (y'_4:Tp4) (y'_5:Tp9):Cn (zgs w y'_4 y'_5):=fun g h hg x=>zii  (fun κ t now=>g κ (t,now)) (fun t now=>h (t,now)) (fun t now=>hg (t,now)) w y'_4 y'_5 x.1 x.2
theorem zfH  (w:Tp10) (y'_4:Tp4) (y'_5:Tp9) (t:Int) (now:Tp9):zcU w y'_4 y'_5 t now=zbw w y'_4 y'_5 (zcU w y'_4 y'_5) t now:=zbA (zjq w y'_4 y'_5) (t,now)

def zcM (r:((List UInt8)×Int×Int×Tp5×(Int×Int×Unit)×Unit)):Option (Bool):=
  some (decide (r.2.2.2.2.1.1=(0:Int)))

def zbS (r:((List UInt8)×Int×Int×Tp5×(Int×Int×Unit)×Unit)):Option (Int):=
  if (decide ((r.1.length:Int)<=r.2.1))=true then
  some (0:Int) else
  G (0<=r.2.1/\r.2.1 < (r.1.length:Int)) (
  some (bAt r.1 r.2.1))

def zbJ (p:Tp7) (c:(List UInt8)) (c_1:Int) (c_2:Int) (c_3:Int) (c_4:Int) (l:Tp5):Option (Int×(List UInt8)×Int×Int×Tp5×Int×Int):=
  G (room l ([(p.1,(p.2.1,(p.2.2.1,())))]) 40) (
  G (fits (((l++([(p.1,(p.2.1,(p.2.2.1,())))])).length:Int) - (1:Int))) (
  some (((l++([(p.1,(p.2.1,(p.2.2.1,())))])).length:Int) - (1:Int),c,c_1,c_2,l++([(p.1,(p.2.1,(p.2.2.1,())))]),c_3,c_4)))

def zb3 (code:Int) (c:(List UInt8)) (c_1:Int) (c_2:Int) (c_3:Int) (c_4:Int) (l:Tp5):Option ((List UInt8)×Int×Int×Tp5×Int×Int):=
  if (decide (c_3=(0:Int)))=true then
  some (c,c_1,c_2,l,code,c_1) else
  some (c,c_1,c_2,l,c_3,c_4)

def zbU (y'_45:Int) (r:(List UInt8)) (r_1:Int) (r_2:Int) (r_3:Int) (r_4:Int) (l_1:Tp5):Option (Int×(List UInt8)×Int×Int×Tp5×Int×Int):=
  (zcM (r,(r_1,(r_2,(l_1,((r_3,(r_4,())),())))))).bind (fun y'_61=>
  if y'_61=true then
  G (fits (r_1+(1:Int))) (
  G (fits (r_2 - (1:Int))) (
  some (y'_45,r,r_1+(1:Int),r_2 - (1:Int),l_1,r_3,r_4))) else
  G (fits (r_2 - (1:Int))) (
  some (y'_45,r,r_1,r_2 - (1:Int),l_1,r_3,r_4)))
def zbq (zab:(List UInt8)->Int->Int->Int->Int->Tp5->Option (Int×(List UInt8)×Int×Int×Tp5×Int×Int)) (c:(List UInt8)) (c_1:Int) (c_2:Int) (c_3:Int) (c_4:Int) (l:Tp5) (y'_1:Int) (t:Bool):Option (Int×(List UInt8)×Int×Int×Tp5×Int×Int):=
  if t=true then
  G (fits (c_1+(1:Int))) (
  (zbJ ((2:Int),(IntKind.wrap .i64 (IntKind.wrap .u8 (y'_1 - (97:Int))),([],()))) c (c_1+(1:Int)) c_2 c_3 c_4 l).bind (fun y'_28=>
  some (y'_28.1,y'_28.2.1,y'_28.2.2.1,y'_28.2.2.2.1,y'_28.2.2.2.2.1,y'_28.2.2.2.2.2.1,y'_28.2.2.2.2.2.2))) else
  if (decide (¬ y'_1=(40:Int)))=true then
  (zb3 (4:Int) c c_1 c_2 c_3 c_4 l).bind (fun y'_36=>
  some ((0:Int),y'_36.1,y'_36.2.1,y'_36.2.2.1,y'_36.2.2.2.1,y'_36.2.2.2.2.1,y'_36.2.2.2.2.2)) else
  if (decide (c_2=(40:Int)))=true then
  (zb3 (7:Int) c c_1 c_2 c_3 c_4 l).bind (fun y'_44=>
  some ((0:Int),y'_44.1,y'_44.2.1,y'_44.2.2.1,y'_44.2.2.2.1,y'_44.2.2.2.2.1,y'_44.2.2.2.2.2)) else
  G (fits (c_2+(1:Int))) (
  G (fits (c_1+(1:Int))) (
  (zab c (c_1+(1:Int)) (c_2+(1:Int)) c_3 c_4 l).bind (fun y'_63=>
  (zbS (y'_63.2.1,(y'_63.2.2.1,(y'_63.2.2.2.1,(y'_63.2.2.2.2.1,((y'_63.2.2.2.2.2.1,(y'_63.2.2.2.2.2.2,())),())))))).bind (fun y'_53=>
  if (decide (¬ y'_53=(41:Int)))=true then
  (zb3 (4:Int) y'_63.2.1 y'_63.2.2.1 y'_63.2.2.2.1 y'_63.2.2.2.2.2.1 y'_63.2.2.2.2.2.2 y'_63.2.2.2.2.1).bind (fun y'_62=>
  zbU y'_63.1 y'_62.1 y'_62.2.1 y'_62.2.2.1 y'_62.2.2.2.2.1 y'_62.2.2.2.2.2 y'_62.2.2.2.1) else
  zbU y'_63.1 y'_63.2.1 y'_63.2.2.1 y'_63.2.2.2.1 y'_63.2.2.2.2.2.1 y'_63.2.2.2.2.2.2 y'_63.2.2.2.2.1))))
def zb4 (zab:(List UInt8)->Int->Int->Int->Int->Tp5->Option (Int×(List UInt8)×Int×Int×Tp5×Int×Int)) (c:(List UInt8)) (c_1:Int) (c_2:Int) (c_3:Int) (c_4:Int) (l:Tp5):Option (Int×(List UInt8)×Int×Int×Tp5×Int×Int):=
  (zcM (c,(c_1,(c_2,(l,((c_3,(c_4,())),())))))).bind (fun y'=>
  if (!y')=true then
  some ((0:Int),c,c_1,c_2,l,c_3,c_4) else
  (zbS (c,(c_1,(c_2,(l,((c_3,(c_4,())),())))))).bind (fun y'_1=>
  if (decide (y'_1=(48:Int)))=true then
  G (fits (c_1+(1:Int))) (
  (zbJ ((0:Int),((0:Int),([],()))) c (c_1+(1:Int)) c_2 c_3 c_4 l).bind (fun y'_10=>
  some (y'_10.1,y'_10.2.1,y'_10.2.2.1,y'_10.2.2.2.1,y'_10.2.2.2.2.1,y'_10.2.2.2.2.2.1,y'_10.2.2.2.2.2.2))) else
  if (decide (y'_1=(49:Int)))=true then
  G (fits (c_1+(1:Int))) (
  (zbJ ((1:Int),((0:Int),([],()))) c (c_1+(1:Int)) c_2 c_3 c_4 l).bind (fun y'_19=>
  some (y'_19.1,y'_19.2.1,y'_19.2.2.1,y'_19.2.2.2.1,y'_19.2.2.2.2.1,y'_19.2.2.2.2.2.1,y'_19.2.2.2.2.2.2))) else
  if (decide ((97:Int)<=y'_1))=true then
  zbq zab c c_1 c_2 c_3 c_4 l y'_1 (decide (y'_1<=(100:Int))) else
  zbq zab c c_1 c_2 c_3 c_4 l y'_1 false))
def zbd  (r2:Int->(List UInt8)->Int->Int->Int->Int->Tp5->Option (Int×(List UInt8)×Int×Int×Tp5×Int×Int)) (k:Int) (r:(List UInt8)) (r_1:Int) (r_2:Int) (r_3:Int) (r_4:Int) (l_1:Tp5):Option (Int×(List UInt8)×Int×Int×Tp5×Int×Int):=
  (zbS (r,(r_1,(r_2,(l_1,((r_3,(r_4,())),())))))).bind (fun y'_8=>
  (zcM (r,(r_1,(r_2,(l_1,((r_3,(r_4,())),())))))).bind (fun y'_9=>
  if (!y'_9)=true then
  some (k,r,r_1,r_2,l_1,r_3,r_4) else
  if (decide (¬ y'_8=(42:Int)))=true then
  some (k,r,r_1,r_2,l_1,r_3,r_4) else
  G (fits (r_1+(1:Int))) (
  (zbJ ((5:Int),((0:Int),([k],()))) r (r_1+(1:Int)) r_2 r_3 r_4 l_1).bind (fun y'_18=>
  r2 y'_18.1 y'_18.2.1 y'_18.2.2.1 y'_18.2.2.2.1 y'_18.2.2.2.2.2.1 y'_18.2.2.2.2.2.2 y'_18.2.2.2.2.1))))
def zfC:(Int×(List UInt8)×Int×Int×Int×Int×Tp5->Option (Int×(List UInt8)×Int×Int×Tp5×Int×Int))->Int×(List UInt8)×Int×Int×Int×Int×Tp5->Option (Int×(List UInt8)×Int×Int×Tp5×Int×Int):=
  fun rec x=>zbd (fun k r r_1 r_2 r_3 r_4 l_1=>rec (k,r,r_1,r_2,r_3,r_4,l_1)) x.1 x.2.1 x.2.2.1 x.2.2.2.1 x.2.2.2.2.1 x.2.2.2.2.2.1 x.2.2.2.2.2.2
def zct  (k:Int) (r:(List UInt8)) (r_1:Int) (r_2:Int) (r_3:Int) (r_4:Int) (l_1:Tp5):Option (Int×(List UInt8)×Int×Int×Tp5×Int×Int):=LFix (zfC ) (k,r,r_1,r_2,r_3,r_4,l_1)
def zbT (zab:(List UInt8)->Int->Int->Int->Int->Tp5->Option (Int×(List UInt8)×Int×Int×Tp5×Int×Int)) (c:(List UInt8)) (c_1:Int) (c_2:Int) (c_3:Int) (c_4:Int) (l:Tp5):Option (Int×(List UInt8)×Int×Int×Tp5×Int×Int):=
  (zb4 zab c c_1 c_2 c_3 c_4 l).bind (fun y'_19=>
  zct y'_19.1 y'_19.2.1 y'_19.2.2.1 y'_19.2.2.2.1 y'_19.2.2.2.2.2.1 y'_19.2.2.2.2.2.2 y'_19.2.2.2.2.1)
def zdp (r_5:(List UInt8)) (r_6:Int) (r_7:Int) (r_8:Int) (r_9:Int) (kids_1:Tp10) (l_2:Tp5):Option (Int×(List UInt8)×Int×Int×Tp5×Int×Int):=
  (zbJ ((4:Int),((0:Int),(kids_1,()))) r_5 r_6 r_7 r_8 r_9 l_2).bind (fun y'_18=>
  some (y'_18.1,y'_18.2.1,y'_18.2.2.1,y'_18.2.2.2.1,y'_18.2.2.2.2.1,y'_18.2.2.2.2.2.1,y'_18.2.2.2.2.2.2))
def zaX (zab:(List UInt8)->Int->Int->Int->Int->Tp5->Option (Int×(List UInt8)×Int×Int×Tp5×Int×Int)) (r:(List UInt8)) (r_1:Int) (r_2:Int) (r_3:Int) (r_4:Int) (kids:Tp10) (l_1:Tp5) (r3:((List UInt8)->Int->Int->Int->Int->Tp10->Tp5->Option (Int×(List UInt8)×Int×Int×Tp5×Int×Int))) (y'_9:Bool) (begins:Bool):Option (Int×(List UInt8)×Int×Int×Tp5×Int×Int):=
  if (!y'_9)=true then
  zdp r r_1 r_2 r_3 r_4 kids l_1 else
  if (!begins)=true then
  zdp r r_1 r_2 r_3 r_4 kids l_1 else
  (zbT zab r r_1 r_2 r_3 r_4 l_1).bind (fun y'_27=>
  G (room kids ([y'_27.1]) 8) (
  r3 y'_27.2.1 y'_27.2.2.1 y'_27.2.2.2.1 y'_27.2.2.2.2.2.1 y'_27.2.2.2.2.2.2 (kids++([y'_27.1])) y'_27.2.2.2.2.1))
def zbe (zab:(List UInt8)->Int->Int->Int->Int->Tp5->Option (Int×(List UInt8)×Int×Int×Tp5×Int×Int))  (r3:(List UInt8)->Int->Int->Int->Int->Tp10->Tp5->Option (Int×(List UInt8)×Int×Int×Tp5×Int×Int)) (r:(List UInt8)) (r_1:Int) (r_2:Int) (r_3:Int) (r_4:Int) (kids:Tp10) (l_1:Tp5):Option (Int×(List UInt8)×Int×Int×Tp5×Int×Int):=
  (zbS (r,(r_1,(r_2,(l_1,((r_3,(r_4,())),())))))).bind (fun y'_8=>
  (zcM (r,(r_1,(r_2,(l_1,((r_3,(r_4,())),())))))).bind (fun y'_9=>
  if (decide (y'_8=(48:Int)))=true then
  zaX zab r r_1 r_2 r_3 r_4 kids l_1 r3 y'_9 true else
  if (decide (y'_8=(49:Int)))=true then
  zaX zab r r_1 r_2 r_3 r_4 kids l_1 r3 y'_9 true else
  if (decide ((97:Int)<=y'_8))=true then
  if (decide (y'_8<=(100:Int)))=true then
  zaX zab r r_1 r_2 r_3 r_4 kids l_1 r3 y'_9 true else
  zaX zab r r_1 r_2 r_3 r_4 kids l_1 r3 y'_9 (decide (y'_8=(40:Int))) else
  zaX zab r r_1 r_2 r_3 r_4 kids l_1 r3 y'_9 (decide (y'_8=(40:Int)))))
def zfF (zab:(List UInt8)->Int->Int->Int->Int->Tp5->Option (Int×(List UInt8)×Int×Int×Tp5×Int×Int)):((List UInt8)×Int×Int×Int×Int×Tp10×Tp5->Option (Int×(List UInt8)×Int×Int×Tp5×Int×Int))->(List UInt8)×Int×Int×Int×Int×Tp10×Tp5->Option (Int×(List UInt8)×Int×Int×Tp5×Int×Int):=
  fun rec x=>zbe zab (fun r r_1 r_2 r_3 r_4 kids l_1=>rec (r,r_1,r_2,r_3,r_4,kids,l_1)) x.1 x.2.1 x.2.2.1 x.2.2.2.1 x.2.2.2.2.1 x.2.2.2.2.2.1 x.2.2.2.2.2.2
def zaY (zab:(List UInt8)->Int->Int->Int->Int->Tp5->Option (Int×(List UInt8)×Int×Int×Tp5×Int×Int))  (r:(List UInt8)) (r_1:Int) (r_2:Int) (r_3:Int) (r_4:Int) (kids:Tp10) (l_1:Tp5):Option (Int×(List UInt8)×Int×Int×Tp5×Int×Int):=LFix (zfF zab ) (r,r_1,r_2,r_3,r_4,kids,l_1)
def zbV (zab:(List UInt8)->Int->Int->Int->Int->Tp5->Option (Int×(List UInt8)×Int×Int×Tp5×Int×Int)) (c:(List UInt8)) (c_1:Int) (c_2:Int) (c_3:Int) (c_4:Int) (l:Tp5):Option (Int×(List UInt8)×Int×Int×Tp5×Int×Int):=
  (zbT zab c c_1 c_2 c_3 c_4 l).bind (fun y'_28=>
  zaY zab y'_28.2.1 y'_28.2.2.1 y'_28.2.2.2.1 y'_28.2.2.2.2.2.1 y'_28.2.2.2.2.2.2 ([y'_28.1]) y'_28.2.2.2.2.1)
def zcz (r_5:(List UInt8)) (r_6:Int) (r_7:Int) (r_8:Int) (r_9:Int) (kids_1:Tp10) (l_2:Tp5):Option (Int×(List UInt8)×Int×Int×Tp5×Int×Int):=
  (zbJ ((3:Int),((0:Int),(kids_1,()))) r_5 r_6 r_7 r_8 r_9 l_2).bind (fun y'_18=>
  some (y'_18.1,y'_18.2.1,y'_18.2.2.1,y'_18.2.2.2.1,y'_18.2.2.2.2.1,y'_18.2.2.2.2.2.1,y'_18.2.2.2.2.2.2))
def zba (zab:(List UInt8)->Int->Int->Int->Int->Tp5->Option (Int×(List UInt8)×Int×Int×Tp5×Int×Int))  (r3:(List UInt8)->Int->Int->Int->Int->Tp10->Tp5->Option (Int×(List UInt8)×Int×Int×Tp5×Int×Int)) (r:(List UInt8)) (r_1:Int) (r_2:Int) (r_3:Int) (r_4:Int) (kids:Tp10) (l_1:Tp5):Option (Int×(List UInt8)×Int×Int×Tp5×Int×Int):=
  (zbS (r,(r_1,(r_2,(l_1,((r_3,(r_4,())),())))))).bind (fun y'_8=>
  (zcM (r,(r_1,(r_2,(l_1,((r_3,(r_4,())),())))))).bind (fun y'_9=>
  if (!y'_9)=true then
  zcz r r_1 r_2 r_3 r_4 kids l_1 else
  if (decide (¬ y'_8=(43:Int)))=true then
  zcz r r_1 r_2 r_3 r_4 kids l_1 else
  G (fits (r_1+(1:Int))) (
  (zbV zab r (r_1+(1:Int)) r_2 r_3 r_4 l_1).bind (fun y'_27=>
  G (room kids ([y'_27.1]) 8) (
  r3 y'_27.2.1 y'_27.2.2.1 y'_27.2.2.2.1 y'_27.2.2.2.2.2.1 y'_27.2.2.2.2.2.2 (kids++([y'_27.1])) y'_27.2.2.2.2.1)))))
def zeQ (zab:(List UInt8)->Int->Int->Int->Int->Tp5->Option (Int×(List UInt8)×Int×Int×Tp5×Int×Int)):((List UInt8)×Int×Int×Int×Int×Tp10×Tp5->Option (Int×(List UInt8)×Int×Int×Tp5×Int×Int))->(List UInt8)×Int×Int×Int×Int×Tp10×Tp5->Option (Int×(List UInt8)×Int×Int×Tp5×Int×Int):=
  fun rec x=>zba zab (fun r r_1 r_2 r_3 r_4 kids l_1=>rec (r,r_1,r_2,r_3,r_4,kids,l_1)) x.1 x.2.1 x.2.2.1 x.2.2.2.1 x.2.2.2.2.1 x.2.2.2.2.2.1 x.2.2.2.2.2.2
def za2 (zab:(List UInt8)->Int->Int->Int->Int->Tp5->Option (Int×(List UInt8)×Int×Int×Tp5×Int×Int))  (r:(List UInt8)) (r_1:Int) (r_2:Int) (r_3:Int) (r_4:Int) (kids:Tp10) (l_1:Tp5):Option (Int×(List UInt8)×Int×Int×Tp5×Int×Int):=LFix (zeQ zab ) (r,r_1,r_2,r_3,r_4,kids,l_1)
def zbL (zab:(List UInt8)->Int->Int->Int->Int->Tp5->Option (Int×(List UInt8)×Int×Int×Tp5×Int×Int)) (c:(List UInt8)) (c_1:Int) (c_2:Int) (c_3:Int) (c_4:Int) (l:Tp5):Option (Int×(List UInt8)×Int×Int×Tp5×Int×Int):=
  (zbV zab c c_1 c_2 c_3 c_4 l).bind (fun y'_28=>
  za2 zab y'_28.2.1 y'_28.2.2.1 y'_28.2.2.2.1 y'_28.2.2.2.2.2.1 y'_28.2.2.2.2.2.2 ([y'_28.1]) y'_28.2.2.2.2.1)
theorem zaQ (zab:Nat->(List UInt8)->Int->Int->Int->Int->Tp5->Option (Int×(List UInt8)×Int×Int×Tp5×Int×Int)) (zag:(List UInt8)->Int->Int->Int->Int->Tp5->Option (Int×(List UInt8)×Int×Int×Tp5×Int×Int)) (zai:∀ a0 a1 a2 a3 a4 a5,ChO (fun κ=>zab κ a0 a1 a2 a3 a4 a5) (zag a0 a1 a2 a3 a4 a5)) (c:(List UInt8)) (c_1:Int) (c_2:Int) (c_3:Int) (c_4:Int) (l:Tp5) (y'_1:Int) (t:Bool):ChO (fun κ=>zbq (zab κ) c c_1 c_2 c_3 c_4 l y'_1 t) (zbq zag c c_1 c_2 c_3 c_4 l y'_1 t):=by
  unfold zbq
  repeat' with_reducible first | exact ChO.const _ | exact zai _ _ _ _ _ _ | apply ChO.ite | apply ChO.G | apply ChO.both | (apply ChO.bind;intro _) | (apply ChO.bind2 (zai _ _ _ _ _ _);intro _) | (refine ChO.bind2 ?_ (fun _ => ?_))
theorem zbv (zab:Nat->(List UInt8)->Int->Int->Int->Int->Tp5->Option (Int×(List UInt8)×Int×Int×Tp5×Int×Int)) (zag:(List UInt8)->Int->Int->Int->Int->Tp5->Option (Int×(List UInt8)×Int×Int×Tp5×Int×Int)) (zai:∀ a0 a1 a2 a3 a4 a5,ChO (fun κ=>zab κ a0 a1 a2 a3 a4 a5) (zag a0 a1 a2 a3 a4 a5)) (c:(List UInt8)) (c_1:Int) (c_2:Int) (c_3:Int) (c_4:Int) (l:Tp5):ChO (fun κ=>zb4 (zab κ) c c_1 c_2 c_3 c_4 l) (zb4 zag c c_1 c_2 c_3 c_4 l):=by
  unfold zb4
  repeat' with_reducible first | exact ChO.const _ | exact zai _ _ _ _ _ _ | (apply zaQ<;>assumption) | apply ChO.ite | apply ChO.G | apply ChO.both | (apply ChO.bind;intro _) | (apply ChO.bind2 (zai _ _ _ _ _ _);intro _) | (refine ChO.bind2 ?_ (fun _ => ?_))
theorem zhE (r2:Nat->Int->(List UInt8)->Int->Int->Int->Int->Tp5->Option (Int×(List UInt8)×Int×Int×Tp5×Int×Int)) (r2':Int->(List UInt8)->Int->Int->Int->Int->Tp5->Option (Int×(List UInt8)×Int×Int×Tp5×Int×Int)) (h_r2:∀ a0 a1 a2 a3 a4 a5 a6,ChO (fun κ=>r2 κ a0 a1 a2 a3 a4 a5 a6) (r2' a0 a1 a2 a3 a4 a5 a6)) (k:Int) (r:(List UInt8)) (r_1:Int) (r_2:Int) (r_3:Int) (r_4:Int) (l_1:Tp5):ChO (fun κ=>zbd (r2 κ) k r r_1 r_2 r_3 r_4 l_1) (zbd r2' k r r_1 r_2 r_3 r_4 l_1):=by
  unfold zbd
  repeat' with_reducible first | exact ChO.const _ | exact h_r2 _ _ _ _ _ _ _ | (apply zaQ<;>assumption) | (apply zbv<;>assumption) | apply ChO.ite | apply ChO.G | apply ChO.both | (apply ChO.bind;intro _) | (refine ChO.bind2 ?_ (fun _ => ?_))
theorem ziI:Cn (zfC):=fun g h hg x=>zhE  (fun κ k r r_1 r_2 r_3 r_4 l_1=>g κ (k,r,r_1,r_2,r_3,r_4,l_1)) (fun k r r_1 r_2 r_3 r_4 l_1=>h (k,r,r_1,r_2,r_3,r_4,l_1)) (fun k r r_1 r_2 r_3 r_4 l_1=>hg (k,r,r_1,r_2,r_3,r_4,l_1))  x.1 x.2.1 x.2.2.1 x.2.2.2.1 x.2.2.2.2.1 x.2.2.2.2.2.1 x.2.2.2.2.2.2
theorem zdt   (k:Int) (r:(List UInt8)) (r_1:Int) (r_2:Int) (r_3:Int) (r_4:Int) (l_1:Tp5):zct k r r_1 r_2 r_3 r_4 l_1=zbd (zct) k r r_1 r_2 r_3 r_4 l_1:=zbA (ziI ) (k,r,r_1,r_2,r_3,r_4,l_1)
theorem zcu (zab:Nat->(List UInt8)->Int->Int->Int->Int->Tp5->Option (Int×(List UInt8)×Int×Int×Tp5×Int×Int)) (zag:(List UInt8)->Int->Int->Int->Int->Tp5->Option (Int×(List UInt8)×Int×Int×Tp5×Int×Int)) (zai:∀ a0 a1 a2 a3 a4 a5,ChO (fun κ=>zab κ a0 a1 a2 a3 a4 a5) (zag a0 a1 a2 a3 a4 a5)) (c:(List UInt8)) (c_1:Int) (c_2:Int) (c_3:Int) (c_4:Int) (l:Tp5):ChO (fun κ=>zbT (zab κ) c c_1 c_2 c_3 c_4 l) (zbT zag c c_1 c_2 c_3 c_4 l):=by
  unfold zbT
  repeat' with_reducible first | exact ChO.const _ | exact zai _ _ _ _ _ _ | (apply zaQ<;>assumption) | (apply zbv<;>assumption) | apply ChO.ite | apply ChO.G | apply ChO.both | (apply ChO.bind;intro _) | (apply ChO.bind2 (zai _ _ _ _ _ _);intro _) | (refine ChO.bind2 ?_ (fun _ => ?_))
theorem zcg (zab:Nat->(List UInt8)->Int->Int->Int->Int->Tp5->Option (Int×(List UInt8)×Int×Int×Tp5×Int×Int)) (zag:(List UInt8)->Int->Int->Int->Int->Tp5->Option (Int×(List UInt8)×Int×Int×Tp5×Int×Int)) (zai:∀ a0 a1 a2 a3 a4 a5,ChO (fun κ=>zab κ a0 a1 a2 a3 a4 a5) (zag a0 a1 a2 a3 a4 a5)) (r3:Nat->(List UInt8)->Int->Int->Int->Int->Tp10->Tp5->Option (Int×(List UInt8)×Int×Int×Tp5×Int×Int)) (r3':(List UInt8)->Int->Int->Int->Int->Tp10->Tp5->Option (Int×(List UInt8)×Int×Int×Tp5×Int×Int)) (h_r3:∀ a0 a1 a2 a3 a4 a5 a6,ChO (fun κ=>r3 κ a0 a1 a2 a3 a4 a5 a6) (r3' a0 a1 a2 a3 a4 a5 a6)) (r:(List UInt8)) (r_1:Int) (r_2:Int) (r_3:Int) (r_4:Int) (kids:Tp10) (l_1:Tp5) (y'_9:Bool) (begins:Bool):ChO (fun κ=>zaX (zab κ) r r_1 r_2 r_3 r_4 kids l_1 (r3 κ) y'_9 begins) (zaX zag r r_1 r_2 r_3 r_4 kids l_1 r3' y'_9 begins):=by
  unfold zaX
  repeat' with_reducible first | exact ChO.const _ | exact zai _ _ _ _ _ _ | exact h_r3 _ _ _ _ _ _ _ | (apply zaQ<;>assumption) | (apply zbv<;>assumption) | (apply zcu<;>assumption) | apply ChO.ite | apply ChO.G | apply ChO.both | (apply ChO.bind;intro _) | (apply ChO.bind2 (zai _ _ _ _ _ _);intro _) | (refine ChO.bind2 ?_ (fun _ => ?_))
theorem zeB (zab:Nat->(List UInt8)->Int->Int->Int->Int->Tp5->Option (Int×(List UInt8)×Int×Int×Tp5×Int×Int)) (zag:(List UInt8)->Int->Int->Int->Int->Tp5->Option (Int×(List UInt8)×Int×Int×Tp5×Int×Int)) (zai:∀ a0 a1 a2 a3 a4 a5,ChO (fun κ=>zab κ a0 a1 a2 a3 a4 a5) (zag a0 a1 a2 a3 a4 a5)) (r3:Nat->(List UInt8)->Int->Int->Int->Int->Tp10->Tp5->Option (Int×(List UInt8)×Int×Int×Tp5×Int×Int)) (r3':(List UInt8)->Int->Int->Int->Int->Tp10->Tp5->Option (Int×(List UInt8)×Int×Int×Tp5×Int×Int)) (h_r3:∀ a0 a1 a2 a3 a4 a5 a6,ChO (fun κ=>r3 κ a0 a1 a2 a3 a4 a5 a6) (r3' a0 a1 a2 a3 a4 a5 a6)) (r:(List UInt8)) (r_1:Int) (r_2:Int) (r_3:Int) (r_4:Int) (kids:Tp10) (l_1:Tp5):ChO (fun κ=>zbe (zab κ) (r3 κ) r r_1 r_2 r_3 r_4 kids l_1) (zbe zag r3' r r_1 r_2 r_3 r_4 kids l_1):=by
  unfold zbe
  repeat' with_reducible first | exact ChO.const _ | exact zai _ _ _ _ _ _ | exact h_r3 _ _ _ _ _ _ _ | (apply zaQ<;>assumption) | (apply zbv<;>assumption) | (apply zcu<;>assumption) | (apply zcg<;>assumption) | apply ChO.ite | apply ChO.G | apply ChO.both | (apply ChO.bind;intro _) | (apply ChO.bind2 (zai _ _ _ _ _ _);intro _) | (refine ChO.bind2 ?_ (fun _ => ?_))
theorem zdv (zab:(List UInt8)->Int->Int->Int->Int->Tp5->Option (Int×(List UInt8)×Int×Int×Tp5×Int×Int)):Cn (zfF zab):=fun g h hg x=>zeB (fun _=>zab) zab (fun _ _ _ _ _ _=>ChO.const _) (fun κ r r_1 r_2 r_3 r_4 kids l_1=>g κ (r,r_1,r_2,r_3,r_4,kids,l_1)) (fun r r_1 r_2 r_3 r_4 kids l_1=>h (r,r_1,r_2,r_3,r_4,kids,l_1)) (fun r r_1 r_2 r_3 r_4 kids l_1=>hg (r,r_1,r_2,r_3,r_4,kids,l_1))  x.1 x.2.1 x.2.2.1 x.2.2.2.1 x.2.2.2.2.1 x.2.2.2.2.2.1 x.2.2.2.2.2.2
theorem zfd (zab:(List UInt8)->Int->Int->Int->Int->Tp5->Option (Int×(List UInt8)×Int×Int×Tp5×Int×Int))  (r:(List UInt8)) (r_1:Int) (r_2:Int) (r_3:Int) (r_4:Int) (kids:Tp10) (l_1:Tp5):zaY zab r r_1 r_2 r_3 r_4 kids l_1=zbe zab (zaY zab) r r_1 r_2 r_3 r_4 kids l_1:=zbA (zdv zab) (r,r_1,r_2,r_3,r_4,kids,l_1)
theorem zdu (zab:Nat->(List UInt8)->Int->Int->Int->Int->Tp5->Option (Int×(List UInt8)×Int×Int×Tp5×Int×Int)) (zag:(List UInt8)->Int->Int->Int->Int->Tp5->Option (Int×(List UInt8)×Int×Int×Tp5×Int×Int)) (zai:∀ a0 a1 a2 a3 a4 a5,ChO (fun κ=>zab κ a0 a1 a2 a3 a4 a5) (zag a0 a1 a2 a3 a4 a5))  (r:(List UInt8)) (r_1:Int) (r_2:Int) (r_3:Int) (r_4:Int) (kids:Tp10) (l_1:Tp5):ChO (fun κ=>zaY (zab κ) r r_1 r_2 r_3 r_4 kids l_1) (zaY zag r r_1 r_2 r_3 r_4 kids l_1):=by
  unfold zaY
  exact zej (fun κ=>(zdv (zab κ) ).mono) (zdv zag ).mono (fun g h hg x=>zeB zab zag zai (fun κ r r_1 r_2 r_3 r_4 kids l_1=>g κ (r,r_1,r_2,r_3,r_4,kids,l_1)) (fun r r_1 r_2 r_3 r_4 kids l_1=>h (r,r_1,r_2,r_3,r_4,kids,l_1)) (fun r r_1 r_2 r_3 r_4 kids l_1=>hg (r,r_1,r_2,r_3,r_4,kids,l_1))  x.1 x.2.1 x.2.2.1 x.2.2.2.1 x.2.2.2.2.1 x.2.2.2.2.2.1 x.2.2.2.2.2.2) _
theorem zg7 (zab:Nat->(List UInt8)->Int->Int->Int->Int->Tp5->Option (Int×(List UInt8)×Int×Int×Tp5×Int×Int)) (zag:(List UInt8)->Int->Int->Int->Int->Tp5->Option (Int×(List UInt8)×Int×Int×Tp5×Int×Int)) (zai:∀ a0 a1 a2 a3 a4 a5,ChO (fun κ=>zab κ a0 a1 a2 a3 a4 a5) (zag a0 a1 a2 a3 a4 a5)) (c:(List UInt8)) (c_1:Int) (c_2:Int) (c_3:Int) (c_4:Int) (l:Tp5):ChO (fun κ=>zbV (zab κ) c c_1 c_2 c_3 c_4 l) (zbV zag c c_1 c_2 c_3 c_4 l):=by
  unfold zbV
  repeat' with_reducible first | exact ChO.const _ | exact zai _ _ _ _ _ _ | (apply zaQ<;>assumption) | (apply zbv<;>assumption) | (apply zcu<;>assumption) | (apply zcg<;>assumption) | (apply zdu<;>assumption) | apply ChO.ite | apply ChO.G | apply ChO.both | (apply ChO.bind;intro _) | (apply ChO.bind2 (zai _ _ _ _ _ _);intro _) | (refine ChO.bind2 ?_ (fun _ => ?_))
theorem zdM (zab:Nat->(List UInt8)->Int->Int->Int->Int->Tp5->Option (Int×(List UInt8)×Int×Int×Tp5×Int×Int)) (zag:(List UInt8)->Int->Int->Int->Int->Tp5->Option (Int×(List UInt8)×Int×Int×Tp5×Int×Int)) (zai:∀ a0 a1 a2 a3 a4 a5,ChO (fun κ=>zab κ a0 a1 a2 a3 a4 a5) (zag a0 a1 a2 a3 a4 a5)) (r3:Nat->(List UInt8)->Int->Int->Int->Int->Tp10->Tp5->Option (Int×(List UInt8)×Int×Int×Tp5×Int×Int)) (r3':(List UInt8)->Int->Int->Int->Int->Tp10->Tp5->Option (Int×(List UInt8)×Int×Int×Tp5×Int×Int)) (h_r3:∀ a0 a1 a2 a3 a4 a5 a6,ChO (fun κ=>r3 κ a0 a1 a2 a3 a4 a5 a6) (r3' a0 a1 a2 a3 a4 a5 a6)) (r:(List UInt8)) (r_1:Int) (r_2:Int) (r_3:Int) (r_4:Int) (kids:Tp10) (l_1:Tp5):ChO (fun κ=>zba (zab κ) (r3 κ) r r_1 r_2 r_3 r_4 kids l_1) (zba zag r3' r r_1 r_2 r_3 r_4 kids l_1):=by
  unfold zba
  repeat' with_reducible first | exact ChO.const _ | exact zai _ _ _ _ _ _ | exact h_r3 _ _ _ _ _ _ _ | (apply zaQ<;>assumption) | (apply zbv<;>assumption) | (apply zcu<;>assumption) | (apply zcg<;>assumption) | (apply zdu<;>assumption) | (apply zg7<;>assumption) | apply ChO.ite | apply ChO.G | apply ChO.both | (apply ChO.bind;intro _) | (apply ChO.bind2 (zai _ _ _ _ _ _);intro _) | (refine ChO.bind2 ?_ (fun _ => ?_))
theorem zcO (zab:(List UInt8)->Int->Int->Int->Int->Tp5->Option (Int×(List UInt8)×Int×Int×Tp5×Int×Int)):Cn (zeQ zab):=fun g h hg x=>zdM (fun _=>zab) zab (fun _ _ _ _ _ _=>ChO.const _) (fun κ r r_1 r_2 r_3 r_4 kids l_1=>g κ (r,r_1,r_2,r_3,r_4,kids,l_1)) (fun r r_1 r_2 r_3 r_4 kids l_1=>h (r,r_1,r_2,r_3,r_4,kids,l_1)) (fun r r_1 r_2 r_3 r_4 kids l_1=>hg (r,r_1,r_2,r_3,r_4,kids,l_1))  x.1 x.2.1 x.2.2.1 x.2.2.2.1 x.2.2.2.2.1 x.2.2.2.2.2.1 x.2.2.2.2.2.2
theorem zeC (zab:(List UInt8)->Int->Int->Int->Int->Tp5->Option (Int×(List UInt8)×Int×Int×Tp5×Int×Int))  (r:(List UInt8)) (r_1:Int) (r_2:Int) (r_3:Int) (r_4:Int) (kids:Tp10) (l_1:Tp5):za2 zab r r_1 r_2 r_3 r_4 kids l_1=zba zab (za2 zab) r r_1 r_2 r_3 r_4 kids l_1:=zbA (zcO zab) (r,r_1,r_2,r_3,r_4,kids,l_1)
theorem zhF (zab:Nat->(List UInt8)->Int->Int->Int->Int->Tp5->Option (Int×(List UInt8)×Int×Int×Tp5×Int×Int)) (zag:(List UInt8)->Int->Int->Int->Int->Tp5->Option (Int×(List UInt8)×Int×Int×Tp5×Int×Int)) (zai:∀ a0 a1 a2 a3 a4 a5,ChO (fun κ=>zab κ a0 a1 a2 a3 a4 a5) (zag a0 a1 a2 a3 a4 a5))  (r:(List UInt8)) (r_1:Int) (r_2:Int) (r_3:Int) (r_4:Int) (kids:Tp10) (l_1:Tp5):ChO (fun κ=>za2 (zab κ) r r_1 r_2 r_3 r_4 kids l_1) (za2 zag r r_1 r_2 r_3 r_4 kids l_1):=by
  unfold za2
  exact zej (fun κ=>(zcO (zab κ) ).mono) (zcO zag ).mono (fun g h hg x=>zdM zab zag zai (fun κ r r_1 r_2 r_3 r_4 kids l_1=>g κ (r,r_1,r_2,r_3,r_4,kids,l_1)) (fun r r_1 r_2 r_3 r_4 kids l_1=>h (r,r_1,r_2,r_3,r_4,kids,l_1)) (fun r r_1 r_2 r_3 r_4 kids l_1=>hg (r,r_1,r_2,r_3,r_4,kids,l_1))  x.1 x.2.1 x.2.2.1 x.2.2.2.1 x.2.2.2.2.1 x.2.2.2.2.2.1 x.2.2.2.2.2.2) _
theorem zih (zab:Nat->(List UInt8)->Int->Int->Int->Int->Tp5->Option (Int×(List UInt8)×Int×Int×Tp5×Int×Int)) (zag:(List UInt8)->Int->Int->Int->Int->Tp5->Option (Int×(List UInt8)×Int×Int×Tp5×Int×Int)) (zai:∀ a0 a1 a2 a3 a4 a5,ChO (fun κ=>zab κ a0 a1 a2 a3 a4 a5) (zag a0 a1 a2 a3 a4 a5)) (c:(List UInt8)) (c_1:Int) (c_2:Int) (c_3:Int) (c_4:Int) (l:Tp5):ChO (fun κ=>zbL (zab κ) c c_1 c_2 c_3 c_4 l) (zbL zag c c_1 c_2 c_3 c_4 l):=by
  unfold zbL
  repeat' with_reducible first | exact ChO.const _ | exact zai _ _ _ _ _ _ | (apply zaQ<;>assumption) | (apply zbv<;>assumption) | (apply zcu<;>assumption) | (apply zcg<;>assumption) | (apply zdu<;>assumption) | (apply zg7<;>assumption) | (apply zhF<;>assumption) | apply ChO.ite | apply ChO.G | apply ChO.both | (apply ChO.bind;intro _) | (apply ChO.bind2 (zai _ _ _ _ _ _);intro _) | (refine ChO.bind2 ?_ (fun _ => ?_))
def zcY:((List UInt8)×Int×Int×Int×Int×Tp5->Option (Int×(List UInt8)×Int×Int×Tp5×Int×Int))->(List UInt8)×Int×Int×Int×Int×Tp5->Option (Int×(List UInt8)×Int×Int×Tp5×Int×Int):=
  fun rec X=>zbL (fun c c_1 c_2 c_3 c_4 l=>rec (c,c_1,c_2,c_3,c_4,l)) X.1 X.2.1 X.2.2.1 X.2.2.2.1 X.2.2.2.2.1 X.2.2.2.2.2
def zau (c:(List UInt8)) (c_1:Int) (c_2:Int) (c_3:Int) (c_4:Int) (l:Tp5):Option (Int×(List UInt8)×Int×Int×Tp5×Int×Int):=LFix zcY (c,c_1,c_2,c_3,c_4,l)
theorem zjg:Cn zcY:=fun g h hg X=>zih _ _ (fun c c_1 c_2 c_3 c_4 l=>hg (c,c_1,c_2,c_3,c_4,l)) X.1 X.2.1 X.2.2.1 X.2.2.2.1 X.2.2.2.2.1 X.2.2.2.2.2
theorem zjh (c:(List UInt8)) (c_1:Int) (c_2:Int) (c_3:Int) (c_4:Int) (l:Tp5):zau c c_1 c_2 c_3 c_4 l=zbL zau c c_1 c_2 c_3 c_4 l:=zbA zjg (c,c_1,c_2,c_3,c_4,l)
def zjf (text:(List UInt8)):Option ((Int×Int×Unit)×Tp5):=
  if (decide ((4000:Int) < (text.length:Int)))=true then
  some (((1:Int),((0:Int),())),[]) else
  (zau text (0:Int) (0:Int) (0:Int) (0:Int) ([]:List Tp7)).bind (fun y'_16=>
  if (decide (y'_16.2.2.1 < (text.length:Int)))=true then
  (zb3 (4:Int) y'_16.2.1 y'_16.2.2.1 y'_16.2.2.2.1 y'_16.2.2.2.2.2.1 y'_16.2.2.2.2.2.2 y'_16.2.2.2.2.1).bind (fun y'_15=>
  if (decide (¬ y'_15.2.2.2.2.1=(0:Int)))=true then
  some ((y'_15.2.2.2.2.1,(y'_15.2.2.2.2.2,())),[]) else
  some (((0:Int),((0:Int),())),y'_15.2.2.2.1)) else
  if (decide (¬ y'_16.2.2.2.2.2.1=(0:Int)))=true then
  some ((y'_16.2.2.2.2.2.1,(y'_16.2.2.2.2.2.2,())),[]) else
  some (((0:Int),((0:Int),())),y'_16.2.2.2.2.1))

def zds (letters:Int) (w:Tp10) (r6:Int->Option (Int)) (i:Int):Option (Int):=
  if (decide (i < (w.length:Int)))=true then
  G (0<=i/\i < (w.length:Int)) (
  if (decide ((ix w i) < (0:Int)))=true then
  some (2:Int) else
  G (0<=i/\i < (w.length:Int)) (
  if (decide (letters<=(ix w i)))=true then
  some (2:Int) else
  G (fits (i+(1:Int))) (
  r6 (i+(1:Int))))) else
  some (0:Int)
def zlt (letters:Int) (w:Tp10):(Int->Option (Int))->Int->Option (Int):=
  fun rec x=>zds letters w (fun i=>rec i) x
def zje (letters:Int) (w:Tp10) (i:Int):Option (Int):=LFix (zlt letters w ) i
def zpw (letters:Int) (w:Tp10):Option (Int):=
  if (decide (letters < (1:Int)))=true then
  some (2:Int) else
  if (decide ((4:Int) < letters))=true then
  some (2:Int) else
  if (decide ((60:Int) < (w.length:Int)))=true then
  some (1:Int) else
  zje letters w (0:Int)
theorem zlQ (r6:Nat->Int->Option (Int)) (r6':Int->Option (Int)) (h_r6:∀ a0,ChO (fun κ=>r6 κ a0) (r6' a0)) (letters:Int) (w:Tp10) (i:Int):ChO (fun κ=>zds letters w (r6 κ) i) (zds letters w r6' i):=by
  unfold zds
  repeat' with_reducible first | exact ChO.const _ | exact h_r6 _ | apply ChO.ite | apply ChO.G | apply ChO.both | (apply ChO.bind;intro _)
theorem znT  (letters:Int) (w:Tp10):Cn (zlt letters w):=fun g h hg x=>zlQ  (fun κ i=>g κ i) (fun i=>h i) (fun i=>hg i) letters w x
theorem zka  (letters:Int) (w:Tp10) (i:Int):zje letters w i=zds letters w (zje letters w) i:=zbA (znT letters w) i

def zdw (out:Tp9):Option Tp9:=
  some out
def zcS (l:Tp5) (k:Int) (w:Tp10) (from':Tp9) (r8:Int->Tp9->Option Tp9) (i:Int) (out_1:Tp9):Option Tp9:=
  if (decide (i < (w.length:Int)))=true then
  G (fits (i+(1:Int))) (
  G (0<=i/\i < (from'.length:Int)) (
  if (ix from' i)=true then
  G (0<=i/\i < (w.length:Int)) (
  G (0<=i+(1:Int)/\i+(1:Int) < (out_1.length:Int)) (
  G ((i+(1:Int)).toNat < out_1.length) (
  G (fits (i+(1:Int))) (
  r8 (i+(1:Int)) (out_1.set (i+(1:Int)).toNat (decide ((ix w i)=(((ix l k).2).1)))))))) else
  G (0<=i+(1:Int)/\i+(1:Int) < (out_1.length:Int)) (
  G ((i+(1:Int)).toNat < out_1.length) (
  G (fits (i+(1:Int))) (
  r8 (i+(1:Int)) (out_1.set (i+(1:Int)).toNat false)))))) else
  zdw out_1
def zkd (l:Tp5) (k:Int) (w:Tp10) (from':Tp9):(Int×Tp9->Option Tp9)->Int×Tp9->Option Tp9:=
  fun rec x=>zcS l k w from' (fun i out_1=>rec (i,out_1)) x.1 x.2
def ze3 (l:Tp5) (k:Int) (w:Tp10) (from':Tp9) (i:Int) (out_1:Tp9):Option Tp9:=LFix (zkd l k w from' ) (i,out_1)
def zci (j:Int) (r13:(Int->Tp9->Option Tp9)) (y':Tp9) (r17:Int->Tp9->Option Tp9) (i_1:Int) (out_3:Tp9):Option Tp9:=
  if (decide (i_1 < (y'.length:Int)))=true then
  G (0<=i_1/\i_1 < (out_3.length:Int)) (
  G ((i_1).toNat < out_3.length) (
  if (ix out_3 i_1)=true then
  G (0<=i_1/\i_1 < (out_3.length:Int)) (
  G ((i_1).toNat < out_3.length) (
  G (fits (i_1+(1:Int))) (
  r17 (i_1+(1:Int)) (out_3.set (i_1).toNat true)))) else
  G (0<=i_1/\i_1 < (y'.length:Int)) (
  G ((i_1).toNat < y'.length) (
  G (0<=i_1/\i_1 < (out_3.length:Int)) (
  G ((i_1).toNat < out_3.length) (
  G (fits (i_1+(1:Int))) (
  r17 (i_1+(1:Int)) (out_3.set (i_1).toNat (ix y' i_1))))))))) else
  G (fits (j+(1:Int))) (
  r13 (j+(1:Int)) out_3)
def zjl (j:Int) (r13:(Int->Tp9->Option Tp9)) (y':Tp9):(Int×Tp9->Option Tp9)->Int×Tp9->Option Tp9:=
  fun rec x=>zci j r13 y' (fun i_1 out_3=>rec (i_1,out_3)) x.1 x.2
def zcR (j:Int) (r13:(Int->Tp9->Option Tp9)) (y':Tp9) (i_1:Int) (out_3:Tp9):Option Tp9:=LFix (zjl j r13 y' ) (i_1,out_3)
def zch (zah:Tf3) (l:Tp5) (k:Int) (w:Tp10) (from':Tp9) (r13:Int->Tp9->Option Tp9) (j:Int) (out_2:Tp9):Option Tp9:=
  if (decide (j < (((((ix l k).2).2).1).length:Int)))=true then
  G (0<=j/\j < (((((ix l k).2).2).1).length:Int)) (
  (zah l (ix ((((ix l k).2).2).1) j) w from').bind (fun y'=>
  zcR j r13 y' (0:Int) out_2)) else
  zdw out_2
def zjk (zah:Tf3) (l:Tp5) (k:Int) (w:Tp10) (from':Tp9):(Int×Tp9->Option Tp9)->Int×Tp9->Option Tp9:=
  fun rec x=>zch zah l k w from' (fun j out_2=>rec (j,out_2)) x.1 x.2
def zcQ (zah:Tf3) (l:Tp5) (k:Int) (w:Tp10) (from':Tp9) (j:Int) (out_2:Tp9):Option Tp9:=LFix (zjk zah l k w from' ) (j,out_2)
def zcj (zah:Tf3) (l:Tp5) (k:Int) (w:Tp10) (r23:Int->Tp9->Option Tp9) (j_1:Int) (out_4:Tp9):Option Tp9:=
  if (decide (j_1 < (((((ix l k).2).2).1).length:Int)))=true then
  G (0<=j_1/\j_1 < (((((ix l k).2).2).1).length:Int)) (
  (zah l (ix ((((ix l k).2).2).1) j_1) w out_4).bind (fun y'_1=>
  G (fits (j_1+(1:Int))) (
  r23 (j_1+(1:Int)) y'_1))) else
  zdw out_4
def zjm (zah:Tf3) (l:Tp5) (k:Int) (w:Tp10):(Int×Tp9->Option Tp9)->Int×Tp9->Option Tp9:=
  fun rec x=>zcj zah l k w (fun j_1 out_4=>rec (j_1,out_4)) x.1 x.2
def zdx (zah:Tf3) (l:Tp5) (k:Int) (w:Tp10) (j_1:Int) (out_4:Tp9):Option Tp9:=LFix (zjm zah l k w ) (j_1,out_4)
def zcP (y'_2:Tp9) (i_2:Int) (out_6:Tp9) (r33:(Bool->Int->Tp9->Option Tp9)) (again_2:Bool):Option Tp9:=
  G (0<=i_2/\i_2 < (out_6.length:Int)) (
  G ((i_2).toNat < out_6.length) (
  if (ix out_6 i_2)=true then
  G (0<=i_2/\i_2 < (out_6.length:Int)) (
  G ((i_2).toNat < out_6.length) (
  G (fits (i_2+(1:Int))) (
  r33 again_2 (i_2+(1:Int)) (out_6.set (i_2).toNat true)))) else
  G (0<=i_2/\i_2 < (y'_2.length:Int)) (
  G ((i_2).toNat < y'_2.length) (
  G (0<=i_2/\i_2 < (out_6.length:Int)) (
  G ((i_2).toNat < out_6.length) (
  G (fits (i_2+(1:Int))) (
  r33 again_2 (i_2+(1:Int)) (out_6.set (i_2).toNat (ix y'_2 i_2)))))))))
def zcm (r29:(Bool->Tp9->Option Tp9)) (y'_2:Tp9) (r33:Bool->Int->Tp9->Option Tp9) (again_1:Bool) (i_2:Int) (out_6:Tp9):Option Tp9:=
  if (decide (i_2 < (y'_2.length:Int)))=true then
  if again_1=true then
  zcP y'_2 i_2 out_6 r33 true else
  G (0<=i_2/\i_2 < (y'_2.length:Int)) (
  G ((i_2).toNat < y'_2.length) (
  if (ix y'_2 i_2)=true then
  G (0<=i_2/\i_2 < (out_6.length:Int)) (
  G ((i_2).toNat < out_6.length) (
  zcP y'_2 i_2 out_6 r33 (!(ix out_6 i_2)))) else
  zcP y'_2 i_2 out_6 r33 false)) else
  r29 again_1 out_6
def zjo (r29:(Bool->Tp9->Option Tp9)) (y'_2:Tp9):(Bool×Int×Tp9->Option Tp9)->Bool×Int×Tp9->Option Tp9:=
  fun rec x=>zcm r29 y'_2 (fun again_1 i_2 out_6=>rec (again_1,i_2,out_6)) x.1 x.2.1 x.2.2
def zcl (r29:(Bool->Tp9->Option Tp9)) (y'_2:Tp9) (again_1:Bool) (i_2:Int) (out_6:Tp9):Option Tp9:=LFix (zjo r29 y'_2 ) (again_1,i_2,out_6)
def zck (zah:Tf3) (l:Tp5) (k:Int) (w:Tp10) (r29:Bool->Tp9->Option Tp9) (again:Bool) (out_5:Tp9):Option Tp9:=
  if again=true then
  G (0<=(0:Int)/\(0:Int) < (((((ix l k).2).2).1).length:Int)) (
  (zah l (ix ((((ix l k).2).2).1) (0:Int)) w out_5).bind (fun y'_2=>
  zcl r29 y'_2 false (0:Int) out_5)) else
  zdw out_5
def zjn (zah:Tf3) (l:Tp5) (k:Int) (w:Tp10):(Bool×Tp9->Option Tp9)->Bool×Tp9->Option Tp9:=
  fun rec x=>zck zah l k w (fun again out_5=>rec (again,out_5)) x.1 x.2
def zb5 (zah:Tf3) (l:Tp5) (k:Int) (w:Tp10) (again:Bool) (out_5:Tp9):Option Tp9:=LFix (zjn zah l k w ) (again,out_5)
def zgr (zah:Tf3) (l:Tp5) (k:Int) (w:Tp10) (from':Tp9):Option Tp9:=
  G (0<=k/\k < (l.length:Int)) (
  G (mkOK (from'.length:Int) (from'.length:Int) 1) (
  if (decide (((ix l k).1)=(1:Int)))=true then
  zdw (from'.take (List.replicate ((from'.length:Int)).toNat (false:Bool)).length++(List.replicate ((from'.length:Int)).toNat (false:Bool)).drop from'.length) else
  if (decide (((ix l k).1)=(2:Int)))=true then
  ze3 l k w from' (0:Int) (List.replicate ((from'.length:Int)).toNat (false:Bool)) else
  if (decide (((ix l k).1)=(3:Int)))=true then
  zcQ zah l k w from' (0:Int) (List.replicate ((from'.length:Int)).toNat (false:Bool)) else
  if (decide (((ix l k).1)=(4:Int)))=true then
  zdx zah l k w (0:Int) (from'.take (List.replicate ((from'.length:Int)).toNat (false:Bool)).length++(List.replicate ((from'.length:Int)).toNat (false:Bool)).drop from'.length) else
  if (decide (((ix l k).1)=(5:Int)))=true then
  zb5 zah l k w true (from'.take (List.replicate ((from'.length:Int)).toNat (false:Bool)).length++(List.replicate ((from'.length:Int)).toNat (false:Bool)).drop from'.length) else
  zdw (List.replicate ((from'.length:Int)).toNat (false:Bool))))
theorem zlw (r8:Nat->Int->Tp9->Option Tp9) (r8':Int->Tp9->Option Tp9) (h_r8:∀ a0 a1,ChO (fun κ=>r8 κ a0 a1) (r8' a0 a1)) (l:Tp5) (k:Int) (w:Tp10) (from':Tp9) (i:Int) (out_1:Tp9):ChO (fun κ=>zcS l k w from' (r8 κ) i out_1) (zcS l k w from' r8' i out_1):=by
  unfold zcS
  repeat' with_reducible first | exact ChO.const _ | exact h_r8 _ _ | apply ChO.ite | apply ChO.G | apply ChO.both | (apply ChO.bind;intro _)
theorem zne  (l:Tp5) (k:Int) (w:Tp10) (from':Tp9):Cn (zkd l k w from'):=fun g h hg x=>zlw  (fun κ i out_1=>g κ (i,out_1)) (fun i out_1=>h (i,out_1)) (fun i out_1=>hg (i,out_1)) l k w from' x.1 x.2
theorem zjp  (l:Tp5) (k:Int) (w:Tp10) (from':Tp9) (i:Int) (out_1:Tp9):ze3 l k w from' i out_1=zcS l k w from' (ze3 l k w from') i out_1:=zbA (zne l k w from') (i,out_1)
theorem zg9 (r13:Nat->Int->Tp9->Option Tp9) (r13':Int->Tp9->Option Tp9) (h_r13:∀ a0 a1,ChO (fun κ=>r13 κ a0 a1) (r13' a0 a1)) (r17:Nat->Int->Tp9->Option Tp9) (r17':Int->Tp9->Option Tp9) (h_r17:∀ a0 a1,ChO (fun κ=>r17 κ a0 a1) (r17' a0 a1)) (j:Int) (y':Tp9) (i_1:Int) (out_3:Tp9):ChO (fun κ=>zci j (r13 κ) y' (r17 κ) i_1 out_3) (zci j r13' y' r17' i_1 out_3):=by
  unfold zci
  repeat' with_reducible first | exact ChO.const _ | exact h_r13 _ _ | exact h_r17 _ _ | apply ChO.ite | apply ChO.G | apply ChO.both | (apply ChO.bind;intro _)
theorem zfZ (r13:Int->Tp9->Option Tp9) (j:Int) (y':Tp9):Cn (zjl j r13 y'):=fun g h hg x=>zg9 (fun _=>r13) r13 (fun _ _=>ChO.const _) (fun κ i_1 out_3=>g κ (i_1,out_3)) (fun i_1 out_3=>h (i_1,out_3)) (fun i_1 out_3=>hg (i_1,out_3)) j y' x.1 x.2
theorem zir (r13:Int->Tp9->Option Tp9) (j:Int) (y':Tp9) (i_1:Int) (out_3:Tp9):zcR j r13 y' i_1 out_3=zci j r13 y' (zcR j r13 y') i_1 out_3:=zbA (zfZ r13 j y') (i_1,out_3)
theorem zcw (r13:Nat->Int->Tp9->Option Tp9) (r13':Int->Tp9->Option Tp9) (h_r13:∀ a0 a1,ChO (fun κ=>r13 κ a0 a1) (r13' a0 a1)) (j:Int) (y':Tp9) (i_1:Int) (out_3:Tp9):ChO (fun κ=>zcR j (r13 κ) y' i_1 out_3) (zcR j r13' y' i_1 out_3):=by
  unfold zcR
  exact zej (fun κ=>(zfZ (r13 κ) j y').mono) (zfZ r13' j y').mono (fun g h hg x=>zg9 r13 r13' h_r13 (fun κ i_1 out_3=>g κ (i_1,out_3)) (fun i_1 out_3=>h (i_1,out_3)) (fun i_1 out_3=>hg (i_1,out_3)) j y' x.1 x.2) _
theorem zg8 (zah:Nat->Tf3) (zax:Tf3) (zaP:∀ a0 a1 a2 a3,ChO (fun κ=>zah κ a0 a1 a2 a3) (zax a0 a1 a2 a3)) (r13:Nat->Int->Tp9->Option Tp9) (r13':Int->Tp9->Option Tp9) (h_r13:∀ a0 a1,ChO (fun κ=>r13 κ a0 a1) (r13' a0 a1)) (l:Tp5) (k:Int) (w:Tp10) (from':Tp9) (j:Int) (out_2:Tp9):ChO (fun κ=>zch (zah κ) l k w from' (r13 κ) j out_2) (zch zax l k w from' r13' j out_2):=by
  unfold zch
  repeat' with_reducible first | exact ChO.const _ | exact zaP _ _ _ _ | exact h_r13 _ _ | (apply zcw<;>assumption) | apply ChO.ite | apply ChO.G | apply ChO.both | (apply ChO.bind;intro _) | (apply ChO.bind2 (zaP _ _ _ _);intro _)
theorem zfY (zah:Tf3) (l:Tp5) (k:Int) (w:Tp10) (from':Tp9):Cn (zjk zah l k w from'):=fun g h hg x=>zg8 (fun _=>zah) zah (fun _ _ _ _=>ChO.const _) (fun κ j out_2=>g κ (j,out_2)) (fun j out_2=>h (j,out_2)) (fun j out_2=>hg (j,out_2)) l k w from' x.1 x.2
theorem ziq (zah:Tf3) (l:Tp5) (k:Int) (w:Tp10) (from':Tp9) (j:Int) (out_2:Tp9):zcQ zah l k w from' j out_2=zch zah l k w from' (zcQ zah l k w from') j out_2:=zbA (zfY zah l k w from') (j,out_2)
theorem zdb (zah:Nat->Tf3) (zax:Tf3) (zaP:∀ a0 a1 a2 a3,ChO (fun κ=>zah κ a0 a1 a2 a3) (zax a0 a1 a2 a3)) (l:Tp5) (k:Int) (w:Tp10) (from':Tp9) (j:Int) (out_2:Tp9):ChO (fun κ=>zcQ (zah κ) l k w from' j out_2) (zcQ zax l k w from' j out_2):=by
  unfold zcQ
  exact zej (fun κ=>(zfY (zah κ) l k w from').mono) (zfY zax l k w from').mono (fun g h hg x=>zg8 zah zax zaP (fun κ j out_2=>g κ (j,out_2)) (fun j out_2=>h (j,out_2)) (fun j out_2=>hg (j,out_2)) l k w from' x.1 x.2) _
theorem zha (zah:Nat->Tf3) (zax:Tf3) (zaP:∀ a0 a1 a2 a3,ChO (fun κ=>zah κ a0 a1 a2 a3) (zax a0 a1 a2 a3)) (r23:Nat->Int->Tp9->Option Tp9) (r23':Int->Tp9->Option Tp9) (h_r23:∀ a0 a1,ChO (fun κ=>r23 κ a0 a1) (r23' a0 a1)) (l:Tp5) (k:Int) (w:Tp10) (j_1:Int) (out_4:Tp9):ChO (fun κ=>zcj (zah κ) l k w (r23 κ) j_1 out_4) (zcj zax l k w r23' j_1 out_4):=by
  unfold zcj
  repeat' with_reducible first | exact ChO.const _ | exact zaP _ _ _ _ | exact h_r23 _ _ | (apply zcw<;>assumption) | (apply zdb<;>assumption) | apply ChO.ite | apply ChO.G | apply ChO.both | (apply ChO.bind;intro _) | (apply ChO.bind2 (zaP _ _ _ _);intro _)
theorem zf0 (zah:Tf3) (l:Tp5) (k:Int) (w:Tp10):Cn (zjm zah l k w):=fun g h hg x=>zha (fun _=>zah) zah (fun _ _ _ _=>ChO.const _) (fun κ j_1 out_4=>g κ (j_1,out_4)) (fun j_1 out_4=>h (j_1,out_4)) (fun j_1 out_4=>hg (j_1,out_4)) l k w x.1 x.2
theorem zis (zah:Tf3) (l:Tp5) (k:Int) (w:Tp10) (j_1:Int) (out_4:Tp9):zdx zah l k w j_1 out_4=zcj zah l k w (zdx zah l k w) j_1 out_4:=zbA (zf0 zah l k w) (j_1,out_4)
theorem zew (zah:Nat->Tf3) (zax:Tf3) (zaP:∀ a0 a1 a2 a3,ChO (fun κ=>zah κ a0 a1 a2 a3) (zax a0 a1 a2 a3)) (l:Tp5) (k:Int) (w:Tp10) (j_1:Int) (out_4:Tp9):ChO (fun κ=>zdx (zah κ) l k w j_1 out_4) (zdx zax l k w j_1 out_4):=by
  unfold zdx
  exact zej (fun κ=>(zf0 (zah κ) l k w).mono) (zf0 zax l k w).mono (fun g h hg x=>zha zah zax zaP (fun κ j_1 out_4=>g κ (j_1,out_4)) (fun j_1 out_4=>h (j_1,out_4)) (fun j_1 out_4=>hg (j_1,out_4)) l k w x.1 x.2) _
theorem zfX (r33:Nat->Bool->Int->Tp9->Option Tp9) (r33':Bool->Int->Tp9->Option Tp9) (h_r33:∀ a0 a1 a2,ChO (fun κ=>r33 κ a0 a1 a2) (r33' a0 a1 a2)) (y'_2:Tp9) (i_2:Int) (out_6:Tp9) (again_2:Bool):ChO (fun κ=>zcP y'_2 i_2 out_6 (r33 κ) again_2) (zcP y'_2 i_2 out_6 r33' again_2):=by
  unfold zcP
  repeat' with_reducible first | exact ChO.const _ | exact h_r33 _ _ _ | (apply zcw<;>assumption) | (apply zdb<;>assumption) | (apply zew<;>assumption) | apply ChO.ite | apply ChO.G | apply ChO.both | (apply ChO.bind;intro _)
theorem zhc (r29:Nat->Bool->Tp9->Option Tp9) (r29':Bool->Tp9->Option Tp9) (h_r29:∀ a0 a1,ChO (fun κ=>r29 κ a0 a1) (r29' a0 a1)) (r33:Nat->Bool->Int->Tp9->Option Tp9) (r33':Bool->Int->Tp9->Option Tp9) (h_r33:∀ a0 a1 a2,ChO (fun κ=>r33 κ a0 a1 a2) (r33' a0 a1 a2)) (y'_2:Tp9) (again_1:Bool) (i_2:Int) (out_6:Tp9):ChO (fun κ=>zcm (r29 κ) y'_2 (r33 κ) again_1 i_2 out_6) (zcm r29' y'_2 r33' again_1 i_2 out_6):=by
  unfold zcm
  repeat' with_reducible first | exact ChO.const _ | exact h_r29 _ _ | exact h_r33 _ _ _ | (apply zcw<;>assumption) | (apply zdb<;>assumption) | (apply zew<;>assumption) | (apply zfX<;>assumption) | apply ChO.ite | apply ChO.G | apply ChO.both | (apply ChO.bind;intro _)
theorem zf2 (r29:Bool->Tp9->Option Tp9) (y'_2:Tp9):Cn (zjo r29 y'_2):=fun g h hg x=>zhc (fun _=>r29) r29 (fun _ _=>ChO.const _) (fun κ again_1 i_2 out_6=>g κ (again_1,i_2,out_6)) (fun again_1 i_2 out_6=>h (again_1,i_2,out_6)) (fun again_1 i_2 out_6=>hg (again_1,i_2,out_6)) y'_2 x.1 x.2.1 x.2.2
theorem ziv (r29:Bool->Tp9->Option Tp9) (y'_2:Tp9) (again_1:Bool) (i_2:Int) (out_6:Tp9):zcl r29 y'_2 again_1 i_2 out_6=zcm r29 y'_2 (zcl r29 y'_2) again_1 i_2 out_6:=zbA (zf2 r29 y'_2) (again_1,i_2,out_6)
theorem ziu (r29:Nat->Bool->Tp9->Option Tp9) (r29':Bool->Tp9->Option Tp9) (h_r29:∀ a0 a1,ChO (fun κ=>r29 κ a0 a1) (r29' a0 a1)) (y'_2:Tp9) (again_1:Bool) (i_2:Int) (out_6:Tp9):ChO (fun κ=>zcl (r29 κ) y'_2 again_1 i_2 out_6) (zcl r29' y'_2 again_1 i_2 out_6):=by
  unfold zcl
  exact zej (fun κ=>(zf2 (r29 κ) y'_2).mono) (zf2 r29' y'_2).mono (fun g h hg x=>zhc r29 r29' h_r29 (fun κ again_1 i_2 out_6=>g κ (again_1,i_2,out_6)) (fun again_1 i_2 out_6=>h (again_1,i_2,out_6)) (fun again_1 i_2 out_6=>hg (again_1,i_2,out_6)) y'_2 x.1 x.2.1 x.2.2) _
theorem zhb (zah:Nat->Tf3) (zax:Tf3) (zaP:∀ a0 a1 a2 a3,ChO (fun κ=>zah κ a0 a1 a2 a3) (zax a0 a1 a2 a3)) (r29:Nat->Bool->Tp9->Option Tp9) (r29':Bool->Tp9->Option Tp9) (h_r29:∀ a0 a1,ChO (fun κ=>r29 κ a0 a1) (r29' a0 a1)) (l:Tp5) (k:Int) (w:Tp10) (again:Bool) (out_5:Tp9):ChO (fun κ=>zck (zah κ) l k w (r29 κ) again out_5) (zck zax l k w r29' again out_5):=by
  unfold zck
  repeat' with_reducible first | exact ChO.const _ | exact zaP _ _ _ _ | exact h_r29 _ _ | (apply zcw<;>assumption) | (apply zdb<;>assumption) | (apply zew<;>assumption) | (apply zfX<;>assumption) | (apply ziu<;>assumption) | apply ChO.ite | apply ChO.G | apply ChO.both | (apply ChO.bind;intro _) | (apply ChO.bind2 (zaP _ _ _ _);intro _)
theorem zf1 (zah:Tf3) (l:Tp5) (k:Int) (w:Tp10):Cn (zjn zah l k w):=fun g h hg x=>zhb (fun _=>zah) zah (fun _ _ _ _=>ChO.const _) (fun κ again out_5=>g κ (again,out_5)) (fun again out_5=>h (again,out_5)) (fun again out_5=>hg (again,out_5)) l k w x.1 x.2
theorem zit (zah:Tf3) (l:Tp5) (k:Int) (w:Tp10) (again:Bool) (out_5:Tp9):zb5 zah l k w again out_5=zck zah l k w (zb5 zah l k w) again out_5:=zbA (zf1 zah l k w) (again,out_5)
theorem zlS (zah:Nat->Tf3) (zax:Tf3) (zaP:∀ a0 a1 a2 a3,ChO (fun κ=>zah κ a0 a1 a2 a3) (zax a0 a1 a2 a3)) (l:Tp5) (k:Int) (w:Tp10) (again:Bool) (out_5:Tp9):ChO (fun κ=>zb5 (zah κ) l k w again out_5) (zb5 zax l k w again out_5):=by
  unfold zb5
  exact zej (fun κ=>(zf1 (zah κ) l k w).mono) (zf1 zax l k w).mono (fun g h hg x=>zhb zah zax zaP (fun κ again out_5=>g κ (again,out_5)) (fun again out_5=>h (again,out_5)) (fun again out_5=>hg (again,out_5)) l k w x.1 x.2) _
theorem znW (zah:Nat->Tf3) (zax:Tf3) (zaP:∀ a0 a1 a2 a3,ChO (fun κ=>zah κ a0 a1 a2 a3) (zax a0 a1 a2 a3)) (l:Tp5) (k:Int) (w:Tp10) (from':Tp9):ChO (fun κ=>zgr (zah κ) l k w from') (zgr zax l k w from'):=by
  unfold zgr
  repeat' with_reducible first | exact ChO.const _ | exact zaP _ _ _ _ | (apply zcw<;>assumption) | (apply zdb<;>assumption) | (apply zew<;>assumption) | (apply zfX<;>assumption) | (apply ziu<;>assumption) | (apply zlS<;>assumption) | apply ChO.ite | apply ChO.G | apply ChO.both | (apply ChO.bind;intro _) | (apply ChO.bind2 (zaP _ _ _ _);intro _)
def zjj:(Tp5×Int×Tp10×Tp9->Option Tp9)->Tp5×Int×Tp10×Tp9->Option Tp9:=
  fun rec X=>zgr (fun l k w from'=>rec (l,k,w,from')) X.1 X.2.1 X.2.2.1 X.2.2.2
def zfe (l:Tp5) (k:Int) (w:Tp10) (from':Tp9):Option Tp9:=LFix zjj (l,k,w,from')
theorem zp8:Cn zjj:=fun g h hg X=>znW _ _ (fun l k w from'=>hg (l,k,w,from')) X.1 X.2.1 X.2.2.1 X.2.2.2
theorem zp9 (l:Tp5) (k:Int) (w:Tp10) (from':Tp9):zfe l k w from'=zgr zfe l k w from':=zbA zp8 (l,k,w,from')

def zpx (l:Tp5) (w:Tp10):Option (Bool):=
  G (fits ((w.length:Int)+(1:Int))) (
  G (mkOK ((w.length:Int)+(1:Int)) ((w.length:Int)+(1:Int)) 1) (
  G (0<=(0:Int)/\(0:Int) < ((List.replicate ((w.length:Int)+(1:Int)).toNat (false:Bool)).length:Int)) (
  G (((0:Int)).toNat < (List.replicate ((w.length:Int)+(1:Int)).toNat (false:Bool)).length) (
  G (fits ((l.length:Int) - (1:Int))) (
  (zfe l ((l.length:Int) - (1:Int)) w ((List.replicate ((w.length:Int)+(1:Int)).toNat (false:Bool)).set ((0:Int)).toNat true)).bind (fun y'=>
  G (0<=(w.length:Int)/\(w.length:Int) < (y'.length:Int)) (
  G (((w.length:Int)).toNat < y'.length) (
  some (ix y' (w.length:Int))))))))))

def zc8 (text:(List UInt8)) (w:Tp10):Option (Bool):=
  (zcT text w).bind (fun y'_9=>
  (zjf text).bind (fun y'_8=>
  if (decide (¬ y'_8.1.1=(0:Int)))=true then
  if (decide (y'_9.2=(4:Int)))=true then
  some (!y'_9.1) else
  some false else
  (zpw (4:Int) w).bind (fun y'_6=>
  if (decide (¬ y'_6=(0:Int)))=true then
  if (decide (y'_9.2=y'_6))=true then
  some (!y'_9.1) else
  some false else
  (zpx y'_8.2 w).bind (fun y'_7=>
  if (decide (y'_9.2=(0:Int)))=true then
  some (decide (y'_9.1=y'_7)) else
  some false))))

end
end Go.Proofs.Ytdobgbjlgcnehaa.regularHasW
