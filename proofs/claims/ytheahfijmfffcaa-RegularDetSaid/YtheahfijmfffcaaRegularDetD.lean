import Derived.Test.YtheahfijmfffcaaEv36n21
set_option maxHeartbeats 1000000
set_option maxRecDepth 20000
set_option linter.unusedVariables false
namespace Go.Proofs.Ytheahfijmfffcaa.regularDetW
open Go Go.Ab
noncomputable section
abbrev Tp20:=(List Int)
abbrev Tp19:=(List Bool)
abbrev Tp18:=(List Tp20)
abbrev Tp17:=(Int×Int×Int×Unit)
abbrev Tp16:=(Bool×Int×Int×Unit)
abbrev Tp15:=(List Tp17)
abbrev Tp14:=(Int×Int×Tp20×Unit)
abbrev Tp13:=(List Tp16)
abbrev Tp12:=(Tp20×Tp18)
abbrev Tc3:Ty:=(.pair (.list (.int .i64)) .unit)
abbrev Tp11:=(List Tp14)
abbrev Tp10:=(Tp20×Tp18×Unit)
abbrev Tp9:=(Bool×Tp20×Tp20×Unit)
abbrev Tp8:=(Int×Tp20×Tp18×Unit)
abbrev Tp7:=(Int×Int×Tp18×Tp20×Unit)
abbrev Tp6:=(Tp10×Tp19)
abbrev Tp5:=(Tp7×Int)
abbrev Tp4:=(Tp7×Bool)
abbrev Tc2:Ty:=(.pair (.list (.int .i64)) Tc3)
abbrev Tp3:=(Tp9×Tp20×Tp18)
abbrev Tc1:Ty:=(.pair .bool Tc2)
abbrev Tp2:=(Int×Int×Tp20×Tp15×Tp20×Unit)
abbrev Tp1:=(Tp7×Bool×Tp20×Tp18×Unit)
abbrev Tf1:=Tp19->Tp10->Int->Int->Tp20->Tp20->Tp20->Tp18->Tp20->Option Tp1
abbrev Tf2:=Tp19->Int->Tp10->Tp20->Tp20->Tp20->Tp20->Option Tp1
abbrev Tf3:=Int->Int->Tp20->Tp20->Tp20->Tp18->Tp20->Option Tp4
abbrev Tf4:=Int->Tp20->Tp20->Int->Int->Tp18->Tp20->Option Tp7
abbrev Tf5:=Int->Bool->Tp20->Tp18->Tp20->Tp20->Option Tp3
abbrev Tf6:=Int->Bool->Tp20->Tp20->Tp20->Tp18->Option Tp3
abbrev Tf7:=Int->Int->Int->Tp20->Tp15->Tp20->Option Tp2
abbrev Tf8:=Int->Tp20->Tp20->Tp20->Tp20->Option Tp4
abbrev Tf9:=Int->Int->Tp20->Tp20->Tp13->Option Tp2
abbrev Tf10:=Int->Tp20->Bool->Int->Int->Option Tp2
abbrev Tf11:=Tp11->Int->Tp20->Tp19->Option Tp19
abbrev Tf12:=Int->Int->Tp20->Tp20->Option Tp20
abbrev Tf13:=Int->Tp20->Tp20->Tp20->Option Tp7
abbrev Tf14:=Int->Bool->Int->Int->Option Tp2
abbrev Tf15:=Int->Tp20->Tp18->Option Tp12
abbrev Tf16:=Bool->Int->Tp19->Option Tp19
def zbj (r:((List UInt8)×Int×Int×Unit)):Option (Int):=
  if (decide (r.2.1=(r.1.length:Int)))=true then
  some (0:Int) else
  G (0<=r.2.1/\r.2.1 < (r.1.length:Int)) (
  some (bAt r.1 r.2.1))

def zbM (r:((List UInt8)×Int×Int×Unit)) (code:Int):Option ((Unit)⊕(Int×Int)):=
  some (.inr ((((code,(r.2.1,())),())).1.1,(((code,(r.2.1,())),())).1.2.1))

def zdS (s:List UInt8) (c:Int):Option Int:=some (zt6 s c)

def zfK (s:(List UInt8)) (c:Int):Option (Int):=
  (zdS s c).bind (fun y'=>
  some y')

def zcF (r:((List UInt8)×Int×Int×Unit)):Option (Bool):=
  if (decide (r.2.1 < (r.1.length:Int)))=true then
  (zbj r).bind (fun y'=>
  (zfK ([48,49,97,98,99,100,40]) y').bind (fun y'_1=>
  some (decide ((0:Int)<=y'_1)))) else
  some false

def zbc (zaa:(List UInt8)->Int->Int->Option (((Tr (Int×Int×Unit))×(List UInt8)×Int×Int)⊕(Int×Int))) (c:(List UInt8)) (c_1 c_2:Int):Option (((Tr (Int×Int×Unit))×(List UInt8)×Int×Int)⊕(Int×Int)):=
  G (fits (c_2+(1:Int))) (
  G (fits (c_1+(1:Int))) (
  pbind (zaa c (c_1+(1:Int)) (c_2+(1:Int))) (fun y'_6=>
  (zbj (y'_6.2.1,(y'_6.2.2.1,(y'_6.2.2.2,())))).bind (fun y'_7=>
  if (decide (¬ y'_7=(41:Int)))=true then
  pbind (zbM (y'_6.2.1,(y'_6.2.2.1,(y'_6.2.2.2,()))) (4:Int)) (fun _=>
  G (fits (y'_6.2.2.1+(1:Int))) (
  G (fits (y'_6.2.2.2 - (1:Int))) (
  some (.inl (y'_6.1,y'_6.2.1,y'_6.2.2.1+(1:Int),y'_6.2.2.2 - (1:Int)))))) (fun p=>some (.inr (p.1,p.2))) else
  G (fits (y'_6.2.2.1+(1:Int))) (
  G (fits (y'_6.2.2.2 - (1:Int))) (
  some (.inl (y'_6.1,y'_6.2.1,y'_6.2.2.1+(1:Int),y'_6.2.2.2 - (1:Int))))))) (fun p=>some (.inr (p.1,p.2)))))
def za6 (zaa:(List UInt8)->Int->Int->Option (((Tr (Int×Int×Unit))×(List UInt8)×Int×Int)⊕(Int×Int))) (c:(List UInt8)) (c_1 c_2 y':Int) (t:Bool):Option (((Tr (Int×Int×Unit))×(List UInt8)×Int×Int)⊕(Int×Int)):=
  if t=true then
  G (fits (c_1+(1:Int))) (
  some (.inl (Tr.mk ((2:Int),(IntKind.wrap .i64 (IntKind.wrap .u8 (y' - (97:Int))),())) ([]),c,c_1+(1:Int),c_2))) else
  if (decide (y'=(40:Int)))=true then
  if (decide (c_2=(40:Int)))=true then
  pbind (zbM (c,(c_1,(c_2,()))) (7:Int)) (fun _=>
  zbc zaa c c_1 c_2) (fun p=>some (.inr (p.1,p.2))) else
  zbc zaa c c_1 c_2 else
  pbind (zbM (c,(c_1,(c_2,()))) (4:Int)) (fun _=>
  some (.inl (Tr.nil,c,c_1,c_2))) (fun p=>some (.inr (p.1,p.2)))
def zbq (zaa:(List UInt8)->Int->Int->Option (((Tr (Int×Int×Unit))×(List UInt8)×Int×Int)⊕(Int×Int))) (c:(List UInt8)) (c_1 c_2:Int):Option (((Tr (Int×Int×Unit))×(List UInt8)×Int×Int)⊕(Int×Int)):=
  (zbj (c,(c_1,(c_2,())))).bind (fun y'=>
  if (decide (y'=(48:Int)))=true then
  G (fits (c_1+(1:Int))) (
  some (.inl (Tr.mk (IntKind.wrap .i64 (IntKind.wrap .u8 (y' - (48:Int))),((0:Int),())) ([]),c,c_1+(1:Int),c_2))) else
  if (decide (y'=(49:Int)))=true then
  G (fits (c_1+(1:Int))) (
  some (.inl (Tr.mk (IntKind.wrap .i64 (IntKind.wrap .u8 (y' - (48:Int))),((0:Int),())) ([]),c,c_1+(1:Int),c_2))) else
  if (decide ((97:Int)<=y'))=true then
  za6 zaa c c_1 c_2 y' (decide (y'<=(100:Int))) else
  za6 zaa c c_1 c_2 y' false)
def zaY (r2:(Tr (Int×Int×Unit))->(List UInt8)->Int->Int->Option (((Tr (Int×Int×Unit))×(List UInt8)×Int×Int)⊕(Int×Int))) (p:(Tr (Int×Int×Unit))) (r:(List UInt8)) (r_1 r_2:Int):Option (((Tr (Int×Int×Unit))×(List UInt8)×Int×Int)⊕(Int×Int)):=
  (zbj (r,(r_1,(r_2,())))).bind (fun y'_5=>
  if (decide (y'_5=(42:Int)))=true then
  G (fits (r_1+(1:Int))) (
  r2 (Tr.mk ((5:Int),((0:Int),())) ([p])) r (r_1+(1:Int)) r_2) else
  some (.inl (p,r,r_1,r_2)))
def ze5:((Tr (Int×Int×Unit))×(List UInt8)×Int×Int->Option (((Tr (Int×Int×Unit))×(List UInt8)×Int×Int)⊕(Int×Int)))->(Tr (Int×Int×Unit))×(List UInt8)×Int×Int->Option (((Tr (Int×Int×Unit))×(List UInt8)×Int×Int)⊕(Int×Int)):=
  fun rec x=>zaY (fun p r r_1 r_2=>rec (p,r,r_1,r_2)) x.1 x.2.1 x.2.2.1 x.2.2.2
def zcH (p:(Tr (Int×Int×Unit))) (r:(List UInt8)) (r_1 r_2:Int):Option (((Tr (Int×Int×Unit))×(List UInt8)×Int×Int)⊕(Int×Int)):=LFix (ze5 ) (p,r,r_1,r_2)
def zbk (zaa:(List UInt8)->Int->Int->Option (((Tr (Int×Int×Unit))×(List UInt8)×Int×Int)⊕(Int×Int))) (c:(List UInt8)) (c_1 c_2:Int):Option (((Tr (Int×Int×Unit))×(List UInt8)×Int×Int)⊕(Int×Int)):=
  pbind (zbq zaa c c_1 c_2) (fun y'_4=>
  zcH y'_4.1 y'_4.2.1 y'_4.2.2.1 y'_4.2.2.2) (fun p=>some (.inr (p.1,p.2)))
def zf7 (r_3:(List UInt8)) (r_4 r_5 p_2 p_3:Int) (l_1:(List (Tr (Int×Int×Unit)))):Option (((Tr (Int×Int×Unit))×(List UInt8)×Int×Int)⊕(Int×Int)):=
  some (.inl (Tr.mk (p_2,(p_3,())) l_1,r_3,r_4,r_5))
def zbd (zaa:(List UInt8)->Int->Int->Option (((Tr (Int×Int×Unit))×(List UInt8)×Int×Int)⊕(Int×Int))) (r2:(List UInt8)->Int->Int->Int->Int->(List (Tr (Int×Int×Unit)))->Option (((Tr (Int×Int×Unit))×(List UInt8)×Int×Int)⊕(Int×Int))) (r:(List UInt8)) (r_1 r_2 p p_1:Int) (l:(List (Tr (Int×Int×Unit)))):Option (((Tr (Int×Int×Unit))×(List UInt8)×Int×Int)⊕(Int×Int)):=
  (zcF (r,(r_1,(r_2,())))).bind (fun y'_5=>
  if y'_5=true then
  pbind (zbk zaa r r_1 r_2) (fun y'_10=>
  G (room l ([y'_10.1]) 8) (
  r2 y'_10.2.1 y'_10.2.2.1 y'_10.2.2.2 p p_1 (l++([y'_10.1])))) (fun p=>some (.inr (p.1,p.2))) else
  zf7 r r_1 r_2 p p_1 l)
def ze8 (zaa:(List UInt8)->Int->Int->Option (((Tr (Int×Int×Unit))×(List UInt8)×Int×Int)⊕(Int×Int))):((List UInt8)×Int×Int×Int×Int×(List (Tr (Int×Int×Unit)))->Option (((Tr (Int×Int×Unit))×(List UInt8)×Int×Int)⊕(Int×Int)))->(List UInt8)×Int×Int×Int×Int×(List (Tr (Int×Int×Unit)))->Option (((Tr (Int×Int×Unit))×(List UInt8)×Int×Int)⊕(Int×Int)):=
  fun rec x=>zbd zaa (fun r r_1 r_2 p p_1 l=>rec (r,r_1,r_2,p,p_1,l)) x.1 x.2.1 x.2.2.1 x.2.2.2.1 x.2.2.2.2.1 x.2.2.2.2.2
def zaU (zaa:(List UInt8)->Int->Int->Option (((Tr (Int×Int×Unit))×(List UInt8)×Int×Int)⊕(Int×Int))) (r:(List UInt8)) (r_1 r_2 p p_1:Int) (l:(List (Tr (Int×Int×Unit)))):Option (((Tr (Int×Int×Unit))×(List UInt8)×Int×Int)⊕(Int×Int)):=LFix (ze8 zaa ) (r,r_1,r_2,p,p_1,l)
def zbl (zaa:(List UInt8)->Int->Int->Option (((Tr (Int×Int×Unit))×(List UInt8)×Int×Int)⊕(Int×Int))) (c:(List UInt8)) (c_1 c_2:Int):Option (((Tr (Int×Int×Unit))×(List UInt8)×Int×Int)⊕(Int×Int)):=
  pbind (zbk zaa c c_1 c_2) (fun y'_4=>
  zaU zaa y'_4.2.1 y'_4.2.2.1 y'_4.2.2.2 (4:Int) (0:Int) ([y'_4.1])) (fun p=>some (.inr (p.1,p.2)))
def ze9 (r_3:(List UInt8)) (r_4 r_5 p_2 p_3:Int) (l_1:(List (Tr (Int×Int×Unit)))):Option (((Tr (Int×Int×Unit))×(List UInt8)×Int×Int)⊕(Int×Int)):=
  some (.inl (Tr.mk (p_2,(p_3,())) l_1,r_3,r_4,r_5))
def za3 (zaa:(List UInt8)->Int->Int->Option (((Tr (Int×Int×Unit))×(List UInt8)×Int×Int)⊕(Int×Int))) (r2:(List UInt8)->Int->Int->Int->Int->(List (Tr (Int×Int×Unit)))->Option (((Tr (Int×Int×Unit))×(List UInt8)×Int×Int)⊕(Int×Int))) (r:(List UInt8)) (r_1 r_2 p p_1:Int) (l:(List (Tr (Int×Int×Unit)))):Option (((Tr (Int×Int×Unit))×(List UInt8)×Int×Int)⊕(Int×Int)):=
  (zbj (r,(r_1,(r_2,())))).bind (fun y'_5=>
  if (decide (y'_5=(43:Int)))=true then
  G (fits (r_1+(1:Int))) (
  pbind (zbl zaa r (r_1+(1:Int)) r_2) (fun y'_10=>
  G (room l ([y'_10.1]) 8) (
  r2 y'_10.2.1 y'_10.2.2.1 y'_10.2.2.2 p p_1 (l++([y'_10.1])))) (fun p=>some (.inr (p.1,p.2)))) else
  ze9 r r_1 r_2 p p_1 l)
def zee (zaa:(List UInt8)->Int->Int->Option (((Tr (Int×Int×Unit))×(List UInt8)×Int×Int)⊕(Int×Int))):((List UInt8)×Int×Int×Int×Int×(List (Tr (Int×Int×Unit)))->Option (((Tr (Int×Int×Unit))×(List UInt8)×Int×Int)⊕(Int×Int)))->(List UInt8)×Int×Int×Int×Int×(List (Tr (Int×Int×Unit)))->Option (((Tr (Int×Int×Unit))×(List UInt8)×Int×Int)⊕(Int×Int)):=
  fun rec x=>za3 zaa (fun r r_1 r_2 p p_1 l=>rec (r,r_1,r_2,p,p_1,l)) x.1 x.2.1 x.2.2.1 x.2.2.2.1 x.2.2.2.2.1 x.2.2.2.2.2
def zaN (zaa:(List UInt8)->Int->Int->Option (((Tr (Int×Int×Unit))×(List UInt8)×Int×Int)⊕(Int×Int))) (r:(List UInt8)) (r_1 r_2 p p_1:Int) (l:(List (Tr (Int×Int×Unit)))):Option (((Tr (Int×Int×Unit))×(List UInt8)×Int×Int)⊕(Int×Int)):=LFix (zee zaa ) (r,r_1,r_2,p,p_1,l)
def zbn (zaa:(List UInt8)->Int->Int->Option (((Tr (Int×Int×Unit))×(List UInt8)×Int×Int)⊕(Int×Int))) (c:(List UInt8)) (c_1 c_2:Int):Option (((Tr (Int×Int×Unit))×(List UInt8)×Int×Int)⊕(Int×Int)):=
  pbind (zbl zaa c c_1 c_2) (fun y'_4=>
  zaN zaa y'_4.2.1 y'_4.2.2.1 y'_4.2.2.2 (3:Int) (0:Int) ([y'_4.1])) (fun p=>some (.inr (p.1,p.2)))
theorem zhn (zaa:Nat->(List UInt8)->Int->Int->Option (((Tr (Int×Int×Unit))×(List UInt8)×Int×Int)⊕(Int×Int))) (zae:(List UInt8)->Int->Int->Option (((Tr (Int×Int×Unit))×(List UInt8)×Int×Int)⊕(Int×Int))) (zah:∀ a0 a1 a2,ChO (fun κ=>zaa κ a0 a1 a2) (zae a0 a1 a2)) (c c_1 c_2):ChO (fun κ=>zbc (zaa κ) c c_1 c_2) (zbc zae c c_1 c_2):=by
  unfold zbc
  repeat' with_reducible first | exact ChO.const _ | exact zah _ _ _ | apply ChO.ite | apply ChO.G | (apply ChO.bind;intro _) | (apply ChO.bind2 (zah _ _ _);intro _) | (refine ChO.bind2 ?_ (fun _ => ?_)) | (refine ChO.pbind (fun _ => ?_) (fun _ => ?_)) | (refine ChO.pbind2 ?_ (fun _ => ?_) (fun _ => ?_))
theorem zib (zaa:Nat->(List UInt8)->Int->Int->Option (((Tr (Int×Int×Unit))×(List UInt8)×Int×Int)⊕(Int×Int))) (zae:(List UInt8)->Int->Int->Option (((Tr (Int×Int×Unit))×(List UInt8)×Int×Int)⊕(Int×Int))) (zah:∀ a0 a1 a2,ChO (fun κ=>zaa κ a0 a1 a2) (zae a0 a1 a2)) (c c_1 c_2 y' t):ChO (fun κ=>za6 (zaa κ) c c_1 c_2 y' t) (za6 zae c c_1 c_2 y' t):=by
  unfold za6
  repeat' with_reducible first | exact ChO.const _ | exact zah _ _ _ | (apply zhn<;>assumption) | apply ChO.ite | apply ChO.G | (refine ChO.pbind (fun _ => ?_) (fun _ => ?_)) | (refine ChO.pbind2 ?_ (fun _ => ?_) (fun _ => ?_))
theorem zkg (zaa:Nat->(List UInt8)->Int->Int->Option (((Tr (Int×Int×Unit))×(List UInt8)×Int×Int)⊕(Int×Int))) (zae:(List UInt8)->Int->Int->Option (((Tr (Int×Int×Unit))×(List UInt8)×Int×Int)⊕(Int×Int))) (zah:∀ a0 a1 a2,ChO (fun κ=>zaa κ a0 a1 a2) (zae a0 a1 a2)) (c c_1 c_2):ChO (fun κ=>zbq (zaa κ) c c_1 c_2) (zbq zae c c_1 c_2):=by
  unfold zbq
  repeat' with_reducible first | exact ChO.const _ | exact zah _ _ _ | (apply zib<;>assumption) | apply ChO.ite | apply ChO.G | (apply ChO.bind;intro _) | (apply ChO.bind2 (zah _ _ _);intro _) | (refine ChO.bind2 ?_ (fun _ => ?_))
theorem zhm (r2:Nat->(Tr (Int×Int×Unit))->(List UInt8)->Int->Int->Option (((Tr (Int×Int×Unit))×(List UInt8)×Int×Int)⊕(Int×Int))) (r2':(Tr (Int×Int×Unit))->(List UInt8)->Int->Int->Option (((Tr (Int×Int×Unit))×(List UInt8)×Int×Int)⊕(Int×Int))) (h_r2:∀ a0 a1 a2 a3,ChO (fun κ=>r2 κ a0 a1 a2 a3) (r2' a0 a1 a2 a3)) (p r r_1 r_2):ChO (fun κ=>zaY (r2 κ) p r r_1 r_2) (zaY r2' p r r_1 r_2):=by
  unfold zaY
  repeat' with_reducible first | exact ChO.const _ | exact h_r2 _ _ _ _ | apply ChO.ite | apply ChO.G | (apply ChO.bind;intro _) | (refine ChO.bind2 ?_ (fun _ => ?_))
theorem zi5:Cn (ze5):=fun g h hg x=>zhm  _ _ (fun a0 a1 a2 a3=>hg (a0,a1,a2,a3))  x.1 x.2.1 x.2.2.1 x.2.2.2
theorem zeI (p r r_1 r_2):zcH p r r_1 r_2=zaY (zcH) p r r_1 r_2:=zax (zi5 ) (p,r,r_1,r_2)
theorem zf6 (zaa:Nat->(List UInt8)->Int->Int->Option (((Tr (Int×Int×Unit))×(List UInt8)×Int×Int)⊕(Int×Int))) (zae:(List UInt8)->Int->Int->Option (((Tr (Int×Int×Unit))×(List UInt8)×Int×Int)⊕(Int×Int))) (zah:∀ a0 a1 a2,ChO (fun κ=>zaa κ a0 a1 a2) (zae a0 a1 a2)) (c c_1 c_2):ChO (fun κ=>zbk (zaa κ) c c_1 c_2) (zbk zae c c_1 c_2):=by
  unfold zbk
  repeat' with_reducible first | exact ChO.const _ | exact zah _ _ _ | (apply zkg<;>assumption) | (refine ChO.pbind (fun _ => ?_) (fun _ => ?_)) | (refine ChO.pbind2 ?_ (fun _ => ?_) (fun _ => ?_))
theorem zd0 (zaa:Nat->(List UInt8)->Int->Int->Option (((Tr (Int×Int×Unit))×(List UInt8)×Int×Int)⊕(Int×Int))) (zae:(List UInt8)->Int->Int->Option (((Tr (Int×Int×Unit))×(List UInt8)×Int×Int)⊕(Int×Int))) (zah:∀ a0 a1 a2,ChO (fun κ=>zaa κ a0 a1 a2) (zae a0 a1 a2)) (r2:Nat->(List UInt8)->Int->Int->Int->Int->(List (Tr (Int×Int×Unit)))->Option (((Tr (Int×Int×Unit))×(List UInt8)×Int×Int)⊕(Int×Int))) (r2':(List UInt8)->Int->Int->Int->Int->(List (Tr (Int×Int×Unit)))->Option (((Tr (Int×Int×Unit))×(List UInt8)×Int×Int)⊕(Int×Int))) (h_r2:∀ a0 a1 a2 a3 a4 a5,ChO (fun κ=>r2 κ a0 a1 a2 a3 a4 a5) (r2' a0 a1 a2 a3 a4 a5)) (r r_1 r_2 p p_1 l):ChO (fun κ=>zbd (zaa κ) (r2 κ) r r_1 r_2 p p_1 l) (zbd zae r2' r r_1 r_2 p p_1 l):=by
  unfold zbd
  repeat' with_reducible first | exact ChO.const _ | exact zah _ _ _ | exact h_r2 _ _ _ _ _ _ | (apply zf6<;>assumption) | apply ChO.ite | apply ChO.G | (apply ChO.bind;intro _) | (apply ChO.bind2 (zah _ _ _);intro _) | (refine ChO.bind2 ?_ (fun _ => ?_)) | (refine ChO.pbind (fun _ => ?_) (fun _ => ?_)) | (refine ChO.pbind2 ?_ (fun _ => ?_) (fun _ => ?_))
theorem zc0 (zaa):Cn (ze8 zaa):=fun g h hg x=>zd0 (fun _=>zaa) zaa (fun _ _ _=>ChO.const _) _ _ (fun a0 a1 a2 a3 a4 a5=>hg (a0,a1,a2,a3,a4,a5))  x.1 x.2.1 x.2.2.1 x.2.2.2.1 x.2.2.2.2.1 x.2.2.2.2.2
theorem zi7 (zaa r r_1 r_2 p p_1 l):zaU zaa r r_1 r_2 p p_1 l=zbd zaa (zaU zaa) r r_1 r_2 p p_1 l:=zax (zc0 zaa) (r,r_1,r_2,p,p_1,l)
theorem zi6 (zaa:Nat->(List UInt8)->Int->Int->Option (((Tr (Int×Int×Unit))×(List UInt8)×Int×Int)⊕(Int×Int))) (zae:(List UInt8)->Int->Int->Option (((Tr (Int×Int×Unit))×(List UInt8)×Int×Int)⊕(Int×Int))) (zah:∀ a0 a1 a2,ChO (fun κ=>zaa κ a0 a1 a2) (zae a0 a1 a2)) (r r_1 r_2 p p_1 l):ChO (fun κ=>zaU (zaa κ) r r_1 r_2 p p_1 l) (zaU zae r r_1 r_2 p p_1 l):=by
  unfold zaU
  exact zbH (fun κ=>(zc0 (zaa κ) ).mono) (zc0 zae ).mono (fun g h hg x=>zd0 zaa zae zah _ _ (fun a0 a1 a2 a3 a4 a5=>hg (a0,a1,a2,a3,a4,a5))  x.1 x.2.1 x.2.2.1 x.2.2.2.1 x.2.2.2.2.1 x.2.2.2.2.2) _
theorem zf9 (zaa:Nat->(List UInt8)->Int->Int->Option (((Tr (Int×Int×Unit))×(List UInt8)×Int×Int)⊕(Int×Int))) (zae:(List UInt8)->Int->Int->Option (((Tr (Int×Int×Unit))×(List UInt8)×Int×Int)⊕(Int×Int))) (zah:∀ a0 a1 a2,ChO (fun κ=>zaa κ a0 a1 a2) (zae a0 a1 a2)) (c c_1 c_2):ChO (fun κ=>zbl (zaa κ) c c_1 c_2) (zbl zae c c_1 c_2):=by
  unfold zbl
  repeat' with_reducible first | exact ChO.const _ | exact zah _ _ _ | (apply zf6<;>assumption) | (apply zi6<;>assumption) | (refine ChO.pbind (fun _ => ?_) (fun _ => ?_)) | (refine ChO.pbind2 ?_ (fun _ => ?_) (fun _ => ?_))
theorem zdD (zaa:Nat->(List UInt8)->Int->Int->Option (((Tr (Int×Int×Unit))×(List UInt8)×Int×Int)⊕(Int×Int))) (zae:(List UInt8)->Int->Int->Option (((Tr (Int×Int×Unit))×(List UInt8)×Int×Int)⊕(Int×Int))) (zah:∀ a0 a1 a2,ChO (fun κ=>zaa κ a0 a1 a2) (zae a0 a1 a2)) (r2:Nat->(List UInt8)->Int->Int->Int->Int->(List (Tr (Int×Int×Unit)))->Option (((Tr (Int×Int×Unit))×(List UInt8)×Int×Int)⊕(Int×Int))) (r2':(List UInt8)->Int->Int->Int->Int->(List (Tr (Int×Int×Unit)))->Option (((Tr (Int×Int×Unit))×(List UInt8)×Int×Int)⊕(Int×Int))) (h_r2:∀ a0 a1 a2 a3 a4 a5,ChO (fun κ=>r2 κ a0 a1 a2 a3 a4 a5) (r2' a0 a1 a2 a3 a4 a5)) (r r_1 r_2 p p_1 l):ChO (fun κ=>za3 (zaa κ) (r2 κ) r r_1 r_2 p p_1 l) (za3 zae r2' r r_1 r_2 p p_1 l):=by
  unfold za3
  repeat' with_reducible first | exact ChO.const _ | exact zah _ _ _ | exact h_r2 _ _ _ _ _ _ | (apply zf9<;>assumption) | apply ChO.ite | apply ChO.G | (apply ChO.bind;intro _) | (apply ChO.bind2 (zah _ _ _);intro _) | (refine ChO.bind2 ?_ (fun _ => ?_)) | (refine ChO.pbind (fun _ => ?_) (fun _ => ?_)) | (refine ChO.pbind2 ?_ (fun _ => ?_) (fun _ => ?_))
theorem zcw (zaa):Cn (zee zaa):=fun g h hg x=>zdD (fun _=>zaa) zaa (fun _ _ _=>ChO.const _) _ _ (fun a0 a1 a2 a3 a4 a5=>hg (a0,a1,a2,a3,a4,a5))  x.1 x.2.1 x.2.2.1 x.2.2.2.1 x.2.2.2.2.1 x.2.2.2.2.2
theorem zhp (zaa r r_1 r_2 p p_1 l):zaN zaa r r_1 r_2 p p_1 l=za3 zaa (zaN zaa) r r_1 r_2 p p_1 l:=zax (zcw zaa) (r,r_1,r_2,p,p_1,l)
theorem zho (zaa:Nat->(List UInt8)->Int->Int->Option (((Tr (Int×Int×Unit))×(List UInt8)×Int×Int)⊕(Int×Int))) (zae:(List UInt8)->Int->Int->Option (((Tr (Int×Int×Unit))×(List UInt8)×Int×Int)⊕(Int×Int))) (zah:∀ a0 a1 a2,ChO (fun κ=>zaa κ a0 a1 a2) (zae a0 a1 a2)) (r r_1 r_2 p p_1 l):ChO (fun κ=>zaN (zaa κ) r r_1 r_2 p p_1 l) (zaN zae r r_1 r_2 p p_1 l):=by
  unfold zaN
  exact zbH (fun κ=>(zcw (zaa κ) ).mono) (zcw zae ).mono (fun g h hg x=>zdD zaa zae zah _ _ (fun a0 a1 a2 a3 a4 a5=>hg (a0,a1,a2,a3,a4,a5))  x.1 x.2.1 x.2.2.1 x.2.2.2.1 x.2.2.2.2.1 x.2.2.2.2.2) _
theorem zic (zaa:Nat->(List UInt8)->Int->Int->Option (((Tr (Int×Int×Unit))×(List UInt8)×Int×Int)⊕(Int×Int))) (zae:(List UInt8)->Int->Int->Option (((Tr (Int×Int×Unit))×(List UInt8)×Int×Int)⊕(Int×Int))) (zah:∀ a0 a1 a2,ChO (fun κ=>zaa κ a0 a1 a2) (zae a0 a1 a2)) (c c_1 c_2):ChO (fun κ=>zbn (zaa κ) c c_1 c_2) (zbn zae c c_1 c_2):=by
  unfold zbn
  repeat' with_reducible first | exact ChO.const _ | exact zah _ _ _ | (apply zf9<;>assumption) | (apply zho<;>assumption) | (refine ChO.pbind (fun _ => ?_) (fun _ => ?_)) | (refine ChO.pbind2 ?_ (fun _ => ?_) (fun _ => ?_))
def zct:((List UInt8)×Int×Int->Option (((Tr (Int×Int×Unit))×(List UInt8)×Int×Int)⊕(Int×Int)))->(List UInt8)×Int×Int->Option (((Tr (Int×Int×Unit))×(List UInt8)×Int×Int)⊕(Int×Int)):=
  fun rec X=>zbn (fun c c_1 c_2=>rec (c,c_1,c_2)) X.1 X.2.1 X.2.2
def zaA (c:(List UInt8)) (c_1 c_2:Int):Option (((Tr (Int×Int×Unit))×(List UInt8)×Int×Int)⊕(Int×Int)):=LFix zct (c,c_1,c_2)
theorem zju:Cn zct:=fun g h hg X=>zic _ _ (fun c c_1 c_2=>hg (c,c_1,c_2)) X.1 X.2.1 X.2.2
theorem zjv (c c_1 c_2):zaA c c_1 c_2=zbn zaA c c_1 c_2:=zax zju (c,c_1,c_2)
def zd7 (text:(List UInt8)):Option ((Tr (Int×Int×Unit))×Int×Int×Unit):=
  if (decide ((4000:Int) < (text.length:Int)))=true then
  some (Tr.nil,((1:Int),((0:Int),()))) else
  pbind (zaA text (0:Int) (0:Int)) (fun y'_4=>
  if (decide (y'_4.2.2.1 < (text.length:Int)))=true then
  pbind (zbM (y'_4.2.1,(y'_4.2.2.1,(y'_4.2.2.2,()))) (4:Int)) (fun _=>
  some (y'_4.1,((0:Int),((0:Int),())))) (fun p=>some (Tr.nil,(p.1,(p.2,())))) else
  some (y'_4.1,((0:Int),((0:Int),())))) (fun p=>some (Tr.nil,(p.1,(p.2,()))))

def zfM (s:List UInt8) (n:Int) (c:Bool):Option Int:=zt7 s n c

def zfL (s:(List UInt8)) (c:Int):Option (Int):=
  (zfM s c true).bind (fun y'=>
  some y')

def zcW (s:(List UInt8)) (c:Int):Option (Bool):=
  (zfL s c).bind (fun y'=>
  some (decide ((0:Int)<=y')))

def zba (t:Int) (r1:(Int->Tp20->Tp18->Option Tp12)) (l_4:Tp20) (l_5:Tp18):Option Tp12:=
  G (fits (t+(1:Int))) (
  r1 (t+(1:Int)) l_4 l_5)
def zaX (last first:Tp20) (r1:Tf15) (t:Int) (l_2:Tp20) (l_3:Tp18):Option Tp12:=
  if (decide (t < (last.length:Int)))=true then
  G (0<=t/\t < (last.length:Int)) (
  G (0<=ix last t/\ix last t < (l_3.length:Int)) (
  G ((ix last t).toNat < l_3.length) (
  both [(.list (.int .i64)),(.list (.list (.int .i64)))] (
  G ((ix last t).toNat < l_3.length) (
  G (room (ix l_3 (ix last t)) first 8) (
  G (0<=ix last t/\ix last t < (l_3.length:Int)) (
  G ((ix last t).toNat=(ix last t).toNat) (
  zba t r1 l_2 (l_3.set (ix last t).toNat ((ix l_3 (ix last t))++first))))))) (
  G ((ix last t).toNat < l_3.length) (
  G (room (ix l_3 (ix last t)) first 8) (
  G (0<=ix last t/\ix last t < (l_3.length:Int)) (
  G ((ix last t).toNat=(ix last t).toNat) (
  zba t r1 l_2 (l_3.set (ix last t).toNat ((ix l_3 (ix last t))++first)))))))))) else
  some (l_2,l_3)
def ze2 (last first:Tp20):(Int×Tp20×Tp18->Option Tp12)->Int×Tp20×Tp18->Option Tp12:=
  fun rec x=>zaX last first (fun t l_2 l_3=>rec (t,l_2,l_3)) x.1 x.2.1 x.2.2
def zaT (last first:Tp20) (t:Int) (l_2:Tp20) (l_3:Tp18):Option Tp12:=LFix (ze2 last first ) (t,l_2,l_3)
def zdC (last first l:Tp20) (l_1:Tp18):Option Tp12:=
  zaT last first (0:Int) l l_1
theorem zi2 (r1:Nat->Tf15) (r1':Tf15) (h_r1:∀ a0 a1 a2,ChO (fun κ=>r1 κ a0 a1 a2) (r1' a0 a1 a2)) (t l_4 l_5):ChO (fun κ=>zba t (r1 κ) l_4 l_5) (zba t r1' l_4 l_5):=by
  unfold zba
  repeat' with_reducible first | exact ChO.const _ | exact h_r1 _ _ _ | apply ChO.G
theorem zhl (r1:Nat->Tf15) (r1':Tf15) (h_r1:∀ a0 a1 a2,ChO (fun κ=>r1 κ a0 a1 a2) (r1' a0 a1 a2)) (last first t l_2 l_3):ChO (fun κ=>zaX last first (r1 κ) t l_2 l_3) (zaX last first r1' t l_2 l_3):=by
  unfold zaX
  repeat' with_reducible first | exact ChO.const _ | exact h_r1 _ _ _ | (apply zi2<;>assumption) | apply ChO.ite | apply ChO.G | apply ChO.both
theorem zi3 (last first):Cn (ze2 last first):=fun g h hg x=>zhl  _ _ (fun a0 a1 a2=>hg (a0,a1,a2)) last first x.1 x.2.1 x.2.2
theorem zeG (last first t l_2 l_3):zaT last first t l_2 l_3=zaX last first (zaT last first) t l_2 l_3:=zax (zi3 last first) (t,l_2,l_3)

def za5 (s:Tp20):Option Tp20:=
  if s.length=0 then both [(.list (.int .i64))] (
  some ([])) (
  G (room ([]:List Int) s 8) (
  some (([]:List Int)++s))) else
  G (room ([]:List Int) s 8) (
  some (([]:List Int)++s))

def zbX (e f:Tp9) (y':Tp20) (y'_1:Tp18) (g'_1:Bool) (l_4 l_5:Tp20):Option Tp3:=
  if f.1=true then
  G (room l_5 e.2.2.1 8) (
  some ((g'_1,(l_4,(l_5++e.2.2.1,()))),y',y'_1)) else
  some ((g'_1,(l_4,(l_5,()))),y',y'_1)
def zaq (e f:Tp9) (y':Tp20) (y'_1:Tp18) (g':Bool) (l_2 l_3:Tp20):Option Tp3:=
  if e.1=true then
  G (room l_2 f.2.1 8) (
  zbX e f y' y'_1 g' (l_2++f.2.1) l_3) else
  zbX e f y' y'_1 g' l_2 l_3
def zbU (e f:Tp9) (l:Tp20) (l_1:Tp18):Option Tp3:=
  (zdC e.2.2.1 f.2.1 l l_1).bind (fun y'_13=>
  if e.1=true then
  both [Tc1,(.list (.int .i64)),(.list (.list (.int .i64)))] (
  (za5 e.2.1).bind (fun y'_3=>
  both [Tc1,(.list (.int .i64)),(.list (.list (.int .i64)))] (
  (za5 f.2.2.1).bind (fun y'_4=>
  both [Tc1,(.list (.int .i64)),(.list (.list (.int .i64)))] (
  zaq e f y'_13.1 y'_13.2 f.1 y'_3 y'_4) (
  zaq e f y'_13.1 y'_13.2 f.1 y'_3 y'_4))) (
  (za5 f.2.2.1).bind (fun y'_5=>
  zaq e f y'_13.1 y'_13.2 f.1 y'_3 y'_5)))) (
  (za5 e.2.1).bind (fun y'_6=>
  (za5 f.2.2.1).bind (fun y'_7=>
  zaq e f y'_13.1 y'_13.2 f.1 y'_6 y'_7))) else
  both [Tc1,(.list (.int .i64)),(.list (.list (.int .i64)))] (
  (za5 e.2.1).bind (fun y'_8=>
  both [Tc1,(.list (.int .i64)),(.list (.list (.int .i64)))] (
  (za5 f.2.2.1).bind (fun y'_9=>
  both [Tc1,(.list (.int .i64)),(.list (.list (.int .i64)))] (
  zaq e f y'_13.1 y'_13.2 false y'_8 y'_9) (
  zaq e f y'_13.1 y'_13.2 false y'_8 y'_9))) (
  (za5 f.2.2.1).bind (fun y'_10=>
  zaq e f y'_13.1 y'_13.2 false y'_8 y'_10)))) (
  (za5 e.2.1).bind (fun y'_11=>
  (za5 f.2.2.1).bind (fun y'_12=>
  zaq e f y'_13.1 y'_13.2 false y'_11 y'_12))))

def zaG (t:Int) (r14:(Int->Bool->Tp20->Tp18->Tp20->Tp20->Option Tp3)) (e_4:Bool) (l_6:Tp20) (l_7:Tp18) (l_8 l_9:Tp20):Option Tp3:=
  G (fits (t+(1:Int))) (
  r14 (t+(1:Int)) e_4 l_6 l_7 l_8 l_9)
def zaV (t:Int) (r14:(Int->Bool->Tp20->Tp18->Tp20->Tp20->Option Tp3)) (y':Tp9) (y'_1:Tp20) (y'_2:Tp18) (e_3:Bool) (l_4 l_5:Tp20):Option Tp3:=
  both [Tc1,(.list (.int .i64)),(.list (.list (.int .i64)))] (
  both [Tc1,(.list (.int .i64)),(.list (.list (.int .i64)))] (
  G (room l_4 y'.2.1 8) (
  G (room l_5 y'.2.2.1 8) (
  zaG t r14 e_3 y'_1 y'_2 (l_4++y'.2.1) (l_5++y'.2.2.1)))) (
  G (room l_4 y'.2.1 8) (
  G (room l_5 y'.2.2.1 8) (
  zaG t r14 e_3 y'_1 y'_2 (l_4++y'.2.1) (l_5++y'.2.2.1))))) (
  both [Tc1,(.list (.int .i64)),(.list (.list (.int .i64)))] (
  G (room l_4 y'.2.1 8) (
  G (room l_5 y'.2.2.1 8) (
  zaG t r14 e_3 y'_1 y'_2 (l_4++y'.2.1) (l_5++y'.2.2.1)))) (
  G (room l_4 y'.2.1 8) (
  G (room l_5 y'.2.2.1 8) (
  zaG t r14 e_3 y'_1 y'_2 (l_4++y'.2.1) (l_5++y'.2.2.1)))))
def zaQ (zad:(Tr (Int×Int×Unit))->Tp20->Tp18->Option Tp3) (x':(Tr (Int×Int×Unit))) (r14:Tf5) (t:Int) (e:Bool) (l_2:Tp20) (l_3:Tp18) (e_1 e_2:Tp20):Option Tp3:=
  if (decide (t < (x'.kids.length:Int)))=true then
  G (0<=t/\t < (x'.kids.length:Int)) (
  (zad (ix x'.kids t) l_2 l_3).bind (fun y'_4=>
  if e=true then
  zaV t r14 y'_4.1 y'_4.2.1 y'_4.2.2 true e_1 e_2 else
  zaV t r14 y'_4.1 y'_4.2.1 y'_4.2.2 y'_4.1.1 e_1 e_2)) else
  some ((e,(e_1,(e_2,()))),l_2,l_3)
def zea (zad:(Tr (Int×Int×Unit))->Tp20->Tp18->Option Tp3) (x':(Tr (Int×Int×Unit))):(Int×Bool×Tp20×Tp18×Tp20×Tp20->Option Tp3)->Int×Bool×Tp20×Tp18×Tp20×Tp20->Option Tp3:=
  fun rec x=>zaQ zad x' (fun t e l_2 l_3 e_1 e_2=>rec (t,e,l_2,l_3,e_1,e_2)) x.1 x.2.1 x.2.2.1 x.2.2.2.1 x.2.2.2.2.1 x.2.2.2.2.2
def zaH (zad:(Tr (Int×Int×Unit))->Tp20->Tp18->Option Tp3) (x':(Tr (Int×Int×Unit))) (t:Int) (e:Bool) (l_2:Tp20) (l_3:Tp18) (e_1 e_2:Tp20):Option Tp3:=LFix (zea zad x' ) (t,e,l_2,l_3,e_1,e_2)
def zaW (t_1:Int) (r24:(Int->Bool->Tp20->Tp20->Tp20->Tp18->Option Tp3)) (e_8:Bool) (e_9 e_10 l_12:Tp20) (l_13:Tp18):Option Tp3:=
  G (fits (t_1+(1:Int))) (
  r24 (t_1+(1:Int)) e_8 e_9 e_10 l_12 l_13)
def zaR (zad:(Tr (Int×Int×Unit))->Tp20->Tp18->Option Tp3) (x':(Tr (Int×Int×Unit))) (r24:Tf6) (t_1:Int) (e_5:Bool) (e_6 e_7 l_10:Tp20) (l_11:Tp18):Option Tp3:=
  if (decide (t_1 < ((cut x'.kids (1:Int) (x'.kids.length:Int)).length:Int)))=true then
  G (0<=t_1/\t_1 < ((cut x'.kids (1:Int) (x'.kids.length:Int)).length:Int)) (
  both [Tc1,(.list (.int .i64)),(.list (.list (.int .i64)))] (
  (zad (ix (cut x'.kids (1:Int) (x'.kids.length:Int)) t_1) l_10 l_11).bind (fun y'_18=>
  (zbU (e_5,(e_6,(e_7,()))) y'_18.1 y'_18.2.1 y'_18.2.2).bind (fun y'_17=>
  zaW t_1 r24 y'_17.1.1 y'_17.1.2.1 y'_17.1.2.2.1 y'_17.2.1 y'_17.2.2))) (
  (zad (ix (cut x'.kids (1:Int) (x'.kids.length:Int)) t_1) l_10 l_11).bind (fun y'_28=>
  (zbU (e_5,(e_6,(e_7,()))) y'_28.1 y'_28.2.1 y'_28.2.2).bind (fun y'_27=>
  zaW t_1 r24 y'_27.1.1 y'_27.1.2.1 y'_27.1.2.2.1 y'_27.2.1 y'_27.2.2)))) else
  some ((e_5,(e_6,(e_7,()))),l_10,l_11)
def zeb (zad:(Tr (Int×Int×Unit))->Tp20->Tp18->Option Tp3) (x':(Tr (Int×Int×Unit))):(Int×Bool×Tp20×Tp20×Tp20×Tp18->Option Tp3)->Int×Bool×Tp20×Tp20×Tp20×Tp18->Option Tp3:=
  fun rec x=>zaR zad x' (fun t_1 e_5 e_6 e_7 l_10 l_11=>rec (t_1,e_5,e_6,e_7,l_10,l_11)) x.1 x.2.1 x.2.2.1 x.2.2.2.1 x.2.2.2.2.1 x.2.2.2.2.2
def zaM (zad:(Tr (Int×Int×Unit))->Tp20->Tp18->Option Tp3) (x':(Tr (Int×Int×Unit))) (t_1:Int) (e_5:Bool) (e_6 e_7 l_10:Tp20) (l_11:Tp18):Option Tp3:=LFix (zeb zad x' ) (t_1,e_5,e_6,e_7,l_10,l_11)
def zbt (zad:(Tr (Int×Int×Unit))->Tp20->Tp18->Option Tp3) (x':(Tr (Int×Int×Unit))) (l:Tp20) (l_1:Tp18):Option Tp3:=
  G (x'.isMk=true) (
  if (decide (((x'.val (0,(0,()))).1)=(0:Int)))=true then
  some ((false,([],([],()))),l,l_1) else
  if (decide (((x'.val (0,(0,()))).1)=(1:Int)))=true then
  some ((true,([],([],()))),l,l_1) else
  if (decide (((x'.val (0,(0,()))).1)=(2:Int)))=true then
  G (x'.isMk=true) (
  G (room l ([(x'.val (0,(0,()))).2.1]) 8) (
  G (room l_1 ([([]:List Int)]) 24) (
  G (fits (((l++([(x'.val (0,(0,()))).2.1])).length:Int) - (1:Int))) (
  some ((false,([((l++([(x'.val (0,(0,()))).2.1])).length:Int) - (1:Int)],([((l++([(x'.val (0,(0,()))).2.1])).length:Int) - (1:Int)],()))),l++([(x'.val (0,(0,()))).2.1]),l_1++([([]:List Int)])))))) else
  if (decide (((x'.val (0,(0,()))).1)=(3:Int)))=true then
  G (x'.isMk=true) (
  zaH zad x' (0:Int) false l l_1 ([]:List Int) ([]:List Int)) else
  if (decide (((x'.val (0,(0,()))).1)=(4:Int)))=true then
  G (x'.isMk=true) (
  G (0<=(0:Int)/\(0:Int) < (x'.kids.length:Int)) (
  (zad (ix x'.kids (0:Int)) l l_1).bind (fun y'_29=>
  G (x'.isMk=true) (
  G (0<=(1:Int)/\(1:Int)<=(x'.kids.length:Int)/\(x'.kids.length:Int)<=(x'.kids.length:Int)) (
  zaM zad x' (0:Int) y'_29.1.1 y'_29.1.2.1 y'_29.1.2.2.1 y'_29.2.1 y'_29.2.2))))) else
  G (x'.isMk=true) (
  G (0<=(0:Int)/\(0:Int) < (x'.kids.length:Int)) (
  (zad (ix x'.kids (0:Int)) l l_1).bind (fun y'_38=>
  (zdC y'_38.1.2.2.1 y'_38.1.2.1 y'_38.2.1 y'_38.2.2).bind (fun y'_37=>
  some ((true,(y'_38.1.2.1,(y'_38.1.2.2.1,()))),y'_37.1,y'_37.2))))))
theorem zhh (r14:Nat->Tf5) (r14':Tf5) (h_r14:∀ a0 a1 a2 a3 a4 a5,ChO (fun κ=>r14 κ a0 a1 a2 a3 a4 a5) (r14' a0 a1 a2 a3 a4 a5)) (t e_4 l_6 l_7 l_8 l_9):ChO (fun κ=>zaG t (r14 κ) e_4 l_6 l_7 l_8 l_9) (zaG t r14' e_4 l_6 l_7 l_8 l_9):=by
  unfold zaG
  repeat' with_reducible first | exact ChO.const _ | exact h_r14 _ _ _ _ _ _ | apply ChO.G
theorem zhg (r14:Nat->Tf5) (r14':Tf5) (h_r14:∀ a0 a1 a2 a3 a4 a5,ChO (fun κ=>r14 κ a0 a1 a2 a3 a4 a5) (r14' a0 a1 a2 a3 a4 a5)) (t y' y'_1 y'_2 e_3 l_4 l_5):ChO (fun κ=>zaV t (r14 κ) y' y'_1 y'_2 e_3 l_4 l_5) (zaV t r14' y' y'_1 y'_2 e_3 l_4 l_5):=by
  unfold zaV
  repeat' with_reducible first | exact ChO.const _ | exact h_r14 _ _ _ _ _ _ | (apply zhh<;>assumption) | apply ChO.G | apply ChO.both
theorem zdA (zad:Nat->(Tr (Int×Int×Unit))->Tp20->Tp18->Option Tp3) (zal:(Tr (Int×Int×Unit))->Tp20->Tp18->Option Tp3) (zap:∀ a0 a1 a2,ChO (fun κ=>zad κ a0 a1 a2) (zal a0 a1 a2)) (r14:Nat->Tf5) (r14':Tf5) (h_r14:∀ a0 a1 a2 a3 a4 a5,ChO (fun κ=>r14 κ a0 a1 a2 a3 a4 a5) (r14' a0 a1 a2 a3 a4 a5)) (x' t e l_2 l_3 e_1 e_2):ChO (fun κ=>zaQ (zad κ) x' (r14 κ) t e l_2 l_3 e_1 e_2) (zaQ zal x' r14' t e l_2 l_3 e_1 e_2):=by
  unfold zaQ
  repeat' with_reducible first | exact ChO.const _ | exact zap _ _ _ | exact h_r14 _ _ _ _ _ _ | (apply zhg<;>assumption) | apply ChO.ite | apply ChO.G | (apply ChO.bind;intro _) | (apply ChO.bind2 (zap _ _ _);intro _)
theorem zcu (zad x'):Cn (zea zad x'):=fun g h hg x=>zdA (fun _=>zad) zad (fun _ _ _=>ChO.const _) _ _ (fun a0 a1 a2 a3 a4 a5=>hg (a0,a1,a2,a3,a4,a5)) x' x.1 x.2.1 x.2.2.1 x.2.2.2.1 x.2.2.2.2.1 x.2.2.2.2.2
theorem zdY (zad x' t e l_2 l_3 e_1 e_2):zaH zad x' t e l_2 l_3 e_1 e_2=zaQ zad x' (zaH zad x') t e l_2 l_3 e_1 e_2:=zax (zcu zad x') (t,e,l_2,l_3,e_1,e_2)
theorem zhj (zad:Nat->(Tr (Int×Int×Unit))->Tp20->Tp18->Option Tp3) (zal:(Tr (Int×Int×Unit))->Tp20->Tp18->Option Tp3) (zap:∀ a0 a1 a2,ChO (fun κ=>zad κ a0 a1 a2) (zal a0 a1 a2)) (x' t e l_2 l_3 e_1 e_2):ChO (fun κ=>zaH (zad κ) x' t e l_2 l_3 e_1 e_2) (zaH zal x' t e l_2 l_3 e_1 e_2):=by
  unfold zaH
  exact zbH (fun κ=>(zcu (zad κ) x').mono) (zcu zal x').mono (fun g h hg x=>zdA zad zal zap _ _ (fun a0 a1 a2 a3 a4 a5=>hg (a0,a1,a2,a3,a4,a5)) x' x.1 x.2.1 x.2.2.1 x.2.2.2.1 x.2.2.2.2.1 x.2.2.2.2.2) _
theorem zhi (r24:Nat->Tf6) (r24':Tf6) (h_r24:∀ a0 a1 a2 a3 a4 a5,ChO (fun κ=>r24 κ a0 a1 a2 a3 a4 a5) (r24' a0 a1 a2 a3 a4 a5)) (t_1 e_8 e_9 e_10 l_12 l_13):ChO (fun κ=>zaW t_1 (r24 κ) e_8 e_9 e_10 l_12 l_13) (zaW t_1 r24' e_8 e_9 e_10 l_12 l_13):=by
  unfold zaW
  repeat' with_reducible first | exact ChO.const _ | exact h_r24 _ _ _ _ _ _ | apply ChO.G
theorem zdB (zad:Nat->(Tr (Int×Int×Unit))->Tp20->Tp18->Option Tp3) (zal:(Tr (Int×Int×Unit))->Tp20->Tp18->Option Tp3) (zap:∀ a0 a1 a2,ChO (fun κ=>zad κ a0 a1 a2) (zal a0 a1 a2)) (r24:Nat->Tf6) (r24':Tf6) (h_r24:∀ a0 a1 a2 a3 a4 a5,ChO (fun κ=>r24 κ a0 a1 a2 a3 a4 a5) (r24' a0 a1 a2 a3 a4 a5)) (x' t_1 e_5 e_6 e_7 l_10 l_11):ChO (fun κ=>zaR (zad κ) x' (r24 κ) t_1 e_5 e_6 e_7 l_10 l_11) (zaR zal x' r24' t_1 e_5 e_6 e_7 l_10 l_11):=by
  unfold zaR
  repeat' with_reducible first | exact ChO.const _ | exact zap _ _ _ | exact h_r24 _ _ _ _ _ _ | (apply zhi<;>assumption) | apply ChO.ite | apply ChO.G | apply ChO.both | (apply ChO.bind;intro _) | (apply ChO.bind2 (zap _ _ _);intro _)
theorem zcv (zad x'):Cn (zeb zad x'):=fun g h hg x=>zdB (fun _=>zad) zad (fun _ _ _=>ChO.const _) _ _ (fun a0 a1 a2 a3 a4 a5=>hg (a0,a1,a2,a3,a4,a5)) x' x.1 x.2.1 x.2.2.1 x.2.2.2.1 x.2.2.2.2.1 x.2.2.2.2.2
theorem zdZ (zad x' t_1 e_5 e_6 e_7 l_10 l_11):zaM zad x' t_1 e_5 e_6 e_7 l_10 l_11=zaR zad x' (zaM zad x') t_1 e_5 e_6 e_7 l_10 l_11:=zax (zcv zad x') (t_1,e_5,e_6,e_7,l_10,l_11)
theorem zhk (zad:Nat->(Tr (Int×Int×Unit))->Tp20->Tp18->Option Tp3) (zal:(Tr (Int×Int×Unit))->Tp20->Tp18->Option Tp3) (zap:∀ a0 a1 a2,ChO (fun κ=>zad κ a0 a1 a2) (zal a0 a1 a2)) (x' t_1 e_5 e_6 e_7 l_10 l_11):ChO (fun κ=>zaM (zad κ) x' t_1 e_5 e_6 e_7 l_10 l_11) (zaM zal x' t_1 e_5 e_6 e_7 l_10 l_11):=by
  unfold zaM
  exact zbH (fun κ=>(zcv (zad κ) x').mono) (zcv zal x').mono (fun g h hg x=>zdB zad zal zap _ _ (fun a0 a1 a2 a3 a4 a5=>hg (a0,a1,a2,a3,a4,a5)) x' x.1 x.2.1 x.2.2.1 x.2.2.2.1 x.2.2.2.2.1 x.2.2.2.2.2) _
theorem zi1 (zad:Nat->(Tr (Int×Int×Unit))->Tp20->Tp18->Option Tp3) (zal:(Tr (Int×Int×Unit))->Tp20->Tp18->Option Tp3) (zap:∀ a0 a1 a2,ChO (fun κ=>zad κ a0 a1 a2) (zal a0 a1 a2)) (x' l l_1):ChO (fun κ=>zbt (zad κ) x' l l_1) (zbt zal x' l l_1):=by
  unfold zbt
  repeat' with_reducible first | exact ChO.const _ | exact zap _ _ _ | (apply zhj<;>assumption) | (apply zhk<;>assumption) | apply ChO.ite | apply ChO.G | (apply ChO.bind;intro _) | (apply ChO.bind2 (zap _ _ _);intro _)
def zcE:((Tr (Int×Int×Unit))×Tp20×Tp18->Option Tp3)->(Tr (Int×Int×Unit))×Tp20×Tp18->Option Tp3:=
  fun rec X=>zbt (fun x' l l_1=>rec (x',l,l_1)) X.1 X.2.1 X.2.2
def zaJ (x':(Tr (Int×Int×Unit))) (l:Tp20) (l_1:Tp18):Option Tp3:=LFix zcE (x',l,l_1)
theorem zkd:Cn zcE:=fun g h hg X=>zi1 _ _ (fun x' l l_1=>hg (x',l,l_1)) X.1 X.2.1 X.2.2
theorem zke (x' l l_1):zaJ x' l l_1=zbt zaJ x' l l_1:=zax zkd (x',l,l_1)

def zbf (y':Tp9) (y'_1:Tp20) (y'_2:Tp18) (r6:Int->Tp19->Option Tp6) (t:Int) (good:Tp19):Option Tp6:=
  if (decide (t < (y'.2.2.1.length:Int)))=true then
  G (0<=t/\t < (y'.2.2.1.length:Int)) (
  G (0<=ix y'.2.2.1 t/\ix y'.2.2.1 t < (good.length:Int)) (
  G ((ix y'.2.2.1 t).toNat < good.length) (
  G (fits (t+(1:Int))) (
  r6 (t+(1:Int)) (good.set (ix y'.2.2.1 t).toNat true))))) else
  G (0<=(y'_1.length:Int)/\(y'_1.length:Int) < (good.length:Int)) (
  G (((y'_1.length:Int)).toNat < good.length) (
  G (room y'_2 ([y'.2.1]) 24) (
  some ((y'_1,(y'_2++([y'.2.1]),())),good.set ((y'_1.length:Int)).toNat y'.1))))
def zgq (y':Tp9) (y'_1:Tp20) (y'_2:Tp18):(Int×Tp19->Option Tp6)->Int×Tp19->Option Tp6:=
  fun rec x=>zbf y' y'_1 y'_2 (fun t good=>rec (t,good)) x.1 x.2
def zdz (y':Tp9) (y'_1:Tp20) (y'_2:Tp18) (t:Int) (good:Tp19):Option Tp6:=LFix (zgq y' y'_1 y'_2 ) (t,good)
def zeZ (x':(Tr (Int×Int×Unit))):Option Tp6:=
  (zaJ x' ([]:List Int) ([]:List Tp20)).bind (fun y'_4=>
  G (fits ((y'_4.2.1.length:Int)+(1:Int))) (
  G (mkOK ((y'_4.2.1.length:Int)+(1:Int)) ((y'_4.2.1.length:Int)+(1:Int)) 1) (
  zdz y'_4.1 y'_4.2.1 y'_4.2.2 (0:Int) (List.replicate ((y'_4.2.1.length:Int)+(1:Int)).toNat (false:Bool)))))
theorem zjt (r6:Nat->Int->Tp19->Option Tp6) (r6':Int->Tp19->Option Tp6) (h_r6:∀ a0 a1,ChO (fun κ=>r6 κ a0 a1) (r6' a0 a1)) (y' y'_1 y'_2 t good):ChO (fun κ=>zbf y' y'_1 y'_2 (r6 κ) t good) (zbf y' y'_1 y'_2 r6' t good):=by
  unfold zbf
  repeat' with_reducible first | exact ChO.const _ | exact h_r6 _ _ | apply ChO.ite | apply ChO.G
theorem zk0 (y' y'_1 y'_2):Cn (zgq y' y'_1 y'_2):=fun g h hg x=>zjt  _ _ (fun a0 a1=>hg (a0,a1)) y' y'_1 y'_2 x.1 x.2
theorem zf3 (y' y'_1 y'_2 t good):zdz y' y'_1 y'_2 t good=zbf y' y'_1 y'_2 (zdz y' y'_1 y'_2) t good:=zax (zk0 y' y'_1 y'_2) (t,good)

def zbi (a:Int) (c:Tp10) (t_1:Int) (r3:(Int->Int->Option Tp8)) (r7:Int->Int->Option Tp8) (to_1 t_2:Int):Option Tp8:=
  if (decide (t_2 < ((ix c.2.1 t_1).length:Int)))=true then
  G (0<=t_2/\t_2 < ((ix c.2.1 t_1).length:Int)) (
  G (0<=ix (ix c.2.1 t_1) t_2/\ix (ix c.2.1 t_1) t_2 < (c.1.length:Int)) (
  if (decide ((ix c.1 (ix (ix c.2.1 t_1) t_2))=a))=true then
  G (0<=ix (ix c.2.1 t_1) t_2) (
  G (fits (t_2+(1:Int))) (
  r7 (ior .i64 to_1 (ishl .i64 (1:Int) (ix (ix c.2.1 t_1) t_2))) (t_2+(1:Int)))) else
  G (fits (t_2+(1:Int))) (
  r7 to_1 (t_2+(1:Int))))) else
  G (fits (t_1+(1:Int))) (
  r3 to_1 (t_1+(1:Int)))
def zhP (a:Int) (c:Tp10) (t_1:Int) (r3:(Int->Int->Option Tp8)):(Int×Int->Option Tp8)->Int×Int->Option Tp8:=
  fun rec x=>zbi a c t_1 r3 (fun to_1 t_2=>rec (to_1,t_2)) x.1 x.2
def zb7 (a:Int) (c:Tp10) (t_1:Int) (r3:(Int->Int->Option Tp8)) (to_1 t_2:Int):Option Tp8:=LFix (zhP a c t_1 r3 ) (to_1,t_2)
def zbB (s a:Int) (t:Tp19) (c:Tp10) (r3:Int->Int->Option Tp8) (to t_1:Int):Option Tp8:=
  if (decide (t_1 < (t.length:Int)))=true then
  G (0<=t_1) (
  if (decide ((iand .i64 (ishr .i64 s t_1) (1:Int))=(0:Int)))=true then
  G (fits (t_1+(1:Int))) (
  r3 to (t_1+(1:Int))) else
  G (0<=t_1/\t_1 < (c.2.1.length:Int)) (
  zb7 a c t_1 r3 to (0:Int))) else
  some (to,c)
def zhO (s a:Int) (t:Tp19) (c:Tp10):(Int×Int->Option Tp8)->Int×Int->Option Tp8:=
  fun rec x=>zbB s a t c (fun to t_1=>rec (to,t_1)) x.1 x.2
def zdo (s a:Int) (t:Tp19) (c:Tp10) (to t_1:Int):Option Tp8:=LFix (zhO s a t c ) (to,t_1)
def zgA (s a:Int) (t:Tp19) (c:Tp10):Option Tp8:=
  zdo s a t c (0:Int) (0:Int)
theorem zf2 (r3:Nat->Int->Int->Option Tp8) (r3':Int->Int->Option Tp8) (h_r3:∀ a0 a1,ChO (fun κ=>r3 κ a0 a1) (r3' a0 a1)) (r7:Nat->Int->Int->Option Tp8) (r7':Int->Int->Option Tp8) (h_r7:∀ a0 a1,ChO (fun κ=>r7 κ a0 a1) (r7' a0 a1)) (a c t_1 to_1 t_2):ChO (fun κ=>zbi a c t_1 (r3 κ) (r7 κ) to_1 t_2) (zbi a c t_1 r3' r7' to_1 t_2):=by
  unfold zbi
  repeat' with_reducible first | exact ChO.const _ | exact h_r3 _ _ | exact h_r7 _ _ | apply ChO.ite | apply ChO.G
theorem zev (r3 a c t_1):Cn (zhP a c t_1 r3):=fun g h hg x=>zf2 (fun _=>r3) r3 (fun _ _=>ChO.const _) _ _ (fun a0 a1=>hg (a0,a1)) a c t_1 x.1 x.2
theorem zew (r3 a c t_1 to_1 t_2):zb7 a c t_1 r3 to_1 t_2=zbi a c t_1 r3 (zb7 a c t_1 r3) to_1 t_2:=zax (zev r3 a c t_1) (to_1,t_2)
theorem zmH (r3:Nat->Int->Int->Option Tp8) (r3':Int->Int->Option Tp8) (h_r3:∀ a0 a1,ChO (fun κ=>r3 κ a0 a1) (r3' a0 a1)) (a c t_1 to_1 t_2):ChO (fun κ=>zb7 a c t_1 (r3 κ) to_1 t_2) (zb7 a c t_1 r3' to_1 t_2):=by
  unfold zb7
  exact zbH (fun κ=>(zev (r3 κ) a c t_1).mono) (zev r3' a c t_1).mono (fun g h hg x=>zf2 r3 r3' h_r3 _ _ (fun a0 a1=>hg (a0,a1)) a c t_1 x.1 x.2) _
theorem zkX (r3:Nat->Int->Int->Option Tp8) (r3':Int->Int->Option Tp8) (h_r3:∀ a0 a1,ChO (fun κ=>r3 κ a0 a1) (r3' a0 a1)) (s a t c to t_1):ChO (fun κ=>zbB s a t c (r3 κ) to t_1) (zbB s a t c r3' to t_1):=by
  unfold zbB
  repeat' with_reducible first | exact ChO.const _ | exact h_r3 _ _ | (apply zmH<;>assumption) | apply ChO.ite | apply ChO.G
theorem zmG (s a t c):Cn (zhO s a t c):=fun g h hg x=>zkX  _ _ (fun a0 a1=>hg (a0,a1)) s a t c x.1 x.2
theorem zg6 (s a t c to t_1):zdo s a t c to t_1=zbB s a t c (zdo s a t c) to t_1:=zax (zmG s a t c) (to,t_1)

def zgB (s t:Int):Option (Int):=
  if (decide (¬ (iand .i64 s t)=(0:Int)))=true then
  some (1:Int) else
  some (0:Int)

def zcY (next'_1:Tp19) (t:Int) (row:Tp20) (r8:(Tp19->Int->Tp10->Tp20->Tp20->Tp20->Tp20->Option Tp1)) (y'_1:Tp10) (n:Int) (number_4 number_5 l_4:Tp20):Option Tp1:=
  G (0<=t/\t < (row.length:Int)) (
  G ((t).toNat < row.length) (
  G (fits (t+(1:Int))) (
  r8 next'_1 (t+(1:Int)) y'_1 number_4 number_5 l_4 (row.set (t).toNat n))))
def zb1 (letters c_1 most d d_1:Int) (l_1:Tp20) (d_2:Tp18) (d_3:Tp20) (r4:(Tp19->Tp10->Int->Int->Tp20->Tp20->Tp20->Tp18->Tp20->Option Tp1)) (r8:Tf2) (next'_1:Tp19) (t:Int) (l_2:Tp10) (number_2 number_3 l_3 row:Tp20):Option Tp1:=
  if (decide (t < letters))=true then
  (zgA (ix l_1 (d_2.length:Int)) t next'_1 l_2).bind (fun y'_3=>
  if (!(mhas number_2 y'_3.1))=true then
  if (decide ((l_3.length:Int)=most))=true then
  some (((0:Int),((0:Int),([],([],())))),false,y'_3.2) else
  G (room l_3 ([y'_3.1]) 8) (
  zcY next'_1 t row r8 y'_3.2 (l_3.length:Int) (zni number_2 y'_3.1) (znj number_2 number_3 y'_3.1 (l_3.length:Int)) (l_3++([y'_3.1]))) else
  zcY next'_1 t row r8 y'_3.2 (mget number_2 number_3 y'_3.1 (0:Int)) number_2 number_3 l_3) else
  G (room d_2 ([row]) 24) (
  (zgB (ix l_1 (d_2.length:Int)) c_1).bind (fun y'_4=>
  G (room d_3 ([y'_4]) 8) (
  r4 next'_1 l_2 d d_1 number_2 number_3 l_3 (d_2++([row])) (d_3++([y'_4])))))
def zjF (letters c_1 most d d_1:Int) (l_1:Tp20) (d_2:Tp18) (d_3:Tp20) (r4:(Tp19->Tp10->Int->Int->Tp20->Tp20->Tp20->Tp18->Tp20->Option Tp1)):(Tp19×Int×Tp10×Tp20×Tp20×Tp20×Tp20->Option Tp1)->Tp19×Int×Tp10×Tp20×Tp20×Tp20×Tp20->Option Tp1:=
  fun rec x=>zb1 letters c_1 most d d_1 l_1 d_2 d_3 r4 (fun next'_1 t l_2 number_2 number_3 l_3 row=>rec (next'_1,t,l_2,number_2,number_3,l_3,row)) x.1 x.2.1 x.2.2.1 x.2.2.2.1 x.2.2.2.2.1 x.2.2.2.2.2.1 x.2.2.2.2.2.2
def zcf (letters c_1 most d d_1:Int) (l_1:Tp20) (d_2:Tp18) (d_3:Tp20) (r4:(Tp19->Tp10->Int->Int->Tp20->Tp20->Tp20->Tp18->Tp20->Option Tp1)) (next'_1:Tp19) (t:Int) (l_2:Tp10) (number_2 number_3 l_3 row:Tp20):Option Tp1:=LFix (zjF letters c_1 most d d_1 l_1 d_2 d_3 r4 ) (next'_1,t,l_2,number_2,number_3,l_3,row)
def zb0 (letters c_1 most:Int) (r4:Tf1) (next':Tp19) (l:Tp10) (d d_1:Int) (number number_1 l_1:Tp20) (d_2:Tp18) (d_3:Tp20):Option Tp1:=
  if (decide ((d_2.length:Int) < (l_1.length:Int)))=true then
  G (0<=(d_2.length:Int)/\(d_2.length:Int) < (l_1.length:Int)) (
  G (((d_2.length:Int)).toNat < l_1.length) (
  G (mkOK letters letters 8) (
  zcf letters c_1 most d d_1 l_1 d_2 d_3 r4 next' (0:Int) l number number_1 l_1 (List.replicate (letters).toNat (0:Int))))) else
  some ((d,(d_1,(d_2,(d_3,())))),true,l)
def zjE (letters c_1 most:Int):(Tp19×Tp10×Int×Int×Tp20×Tp20×Tp20×Tp18×Tp20->Option Tp1)->Tp19×Tp10×Int×Int×Tp20×Tp20×Tp20×Tp18×Tp20->Option Tp1:=
  fun rec x=>zb0 letters c_1 most (fun next' l d d_1 number number_1 l_1 d_2 d_3=>rec (next',l,d,d_1,number,number_1,l_1,d_2,d_3)) x.1 x.2.1 x.2.2.1 x.2.2.2.1 x.2.2.2.2.1 x.2.2.2.2.2.1 x.2.2.2.2.2.2.1 x.2.2.2.2.2.2.2.1 x.2.2.2.2.2.2.2.2
def zfP (letters c_1 most:Int) (next':Tp19) (l:Tp10) (d d_1:Int) (number number_1 l_1:Tp20) (d_2:Tp18) (d_3:Tp20):Option Tp1:=LFix (zjE letters c_1 most ) (next',l,d,d_1,number,number_1,l_1,d_2,d_3)
def zjg (letters first:Int) (c:Tp19) (c_1 most:Int) (c_2:Tp10):Option Tp1:=
  zfP letters c_1 most c c_2 letters (0:Int) (zni ([]:List Int) first) (znj ([]:List Int) ([]:List Int) first (0:Int)) ([first]) ([]:List Tp20) ([]:List Int)
theorem zmS (r8:Nat->Tf2) (r8':Tf2) (h_r8:∀ a0 a1 a2 a3 a4 a5 a6,ChO (fun κ=>r8 κ a0 a1 a2 a3 a4 a5 a6) (r8' a0 a1 a2 a3 a4 a5 a6)) (next'_1 t row y'_1 n number_4 number_5 l_4):ChO (fun κ=>zcY next'_1 t row (r8 κ) y'_1 n number_4 number_5 l_4) (zcY next'_1 t row r8' y'_1 n number_4 number_5 l_4):=by
  unfold zcY
  repeat' with_reducible first | exact ChO.const _ | exact h_r8 _ _ _ _ _ _ _ | apply ChO.G
theorem zgM (r4:Nat->Tf1) (r4':Tf1) (h_r4:∀ a0 a1 a2 a3 a4 a5 a6 a7 a8,ChO (fun κ=>r4 κ a0 a1 a2 a3 a4 a5 a6 a7 a8) (r4' a0 a1 a2 a3 a4 a5 a6 a7 a8)) (r8:Nat->Tf2) (r8':Tf2) (h_r8:∀ a0 a1 a2 a3 a4 a5 a6,ChO (fun κ=>r8 κ a0 a1 a2 a3 a4 a5 a6) (r8' a0 a1 a2 a3 a4 a5 a6)) (letters c_1 most d d_1 l_1 d_2 d_3 next'_1 t l_2 number_2 number_3 l_3 row):ChO (fun κ=>zb1 letters c_1 most d d_1 l_1 d_2 d_3 (r4 κ) (r8 κ) next'_1 t l_2 number_2 number_3 l_3 row) (zb1 letters c_1 most d d_1 l_1 d_2 d_3 r4' r8' next'_1 t l_2 number_2 number_3 l_3 row):=by
  unfold zb1
  repeat' with_reducible first | exact ChO.const _ | exact h_r4 _ _ _ _ _ _ _ _ _ | exact h_r8 _ _ _ _ _ _ _ | (apply zmS<;>assumption) | apply ChO.ite | apply ChO.G | (apply ChO.bind;intro _)
theorem zfr (r4 letters c_1 most d d_1 l_1 d_2 d_3):Cn (zjF letters c_1 most d d_1 l_1 d_2 d_3 r4):=fun g h hg x=>zgM (fun _=>r4) r4 (fun _ _ _ _ _ _ _ _ _=>ChO.const _) _ _ (fun a0 a1 a2 a3 a4 a5 a6=>hg (a0,a1,a2,a3,a4,a5,a6)) letters c_1 most d d_1 l_1 d_2 d_3 x.1 x.2.1 x.2.2.1 x.2.2.2.1 x.2.2.2.2.1 x.2.2.2.2.2.1 x.2.2.2.2.2.2
theorem zir (r4 letters c_1 most d d_1 l_1 d_2 d_3 next'_1 t l_2 number_2 number_3 l_3 row):zcf letters c_1 most d d_1 l_1 d_2 d_3 r4 next'_1 t l_2 number_2 number_3 l_3 row=zb1 letters c_1 most d d_1 l_1 d_2 d_3 r4 (zcf letters c_1 most d d_1 l_1 d_2 d_3 r4) next'_1 t l_2 number_2 number_3 l_3 row:=zax (zfr r4 letters c_1 most d d_1 l_1 d_2 d_3) (next'_1,t,l_2,number_2,number_3,l_3,row)
theorem zn8 (r4:Nat->Tf1) (r4':Tf1) (h_r4:∀ a0 a1 a2 a3 a4 a5 a6 a7 a8,ChO (fun κ=>r4 κ a0 a1 a2 a3 a4 a5 a6 a7 a8) (r4' a0 a1 a2 a3 a4 a5 a6 a7 a8)) (letters c_1 most d d_1 l_1 d_2 d_3 next'_1 t l_2 number_2 number_3 l_3 row):ChO (fun κ=>zcf letters c_1 most d d_1 l_1 d_2 d_3 (r4 κ) next'_1 t l_2 number_2 number_3 l_3 row) (zcf letters c_1 most d d_1 l_1 d_2 d_3 r4' next'_1 t l_2 number_2 number_3 l_3 row):=by
  unfold zcf
  exact zbH (fun κ=>(zfr (r4 κ) letters c_1 most d d_1 l_1 d_2 d_3).mono) (zfr r4' letters c_1 most d d_1 l_1 d_2 d_3).mono (fun g h hg x=>zgM r4 r4' h_r4 _ _ (fun a0 a1 a2 a3 a4 a5 a6=>hg (a0,a1,a2,a3,a4,a5,a6)) letters c_1 most d d_1 l_1 d_2 d_3 x.1 x.2.1 x.2.2.1 x.2.2.2.1 x.2.2.2.2.1 x.2.2.2.2.2.1 x.2.2.2.2.2.2) _
theorem zmw (r4:Nat->Tf1) (r4':Tf1) (h_r4:∀ a0 a1 a2 a3 a4 a5 a6 a7 a8,ChO (fun κ=>r4 κ a0 a1 a2 a3 a4 a5 a6 a7 a8) (r4' a0 a1 a2 a3 a4 a5 a6 a7 a8)) (letters c_1 most next' l d d_1 number number_1 l_1 d_2 d_3):ChO (fun κ=>zb0 letters c_1 most (r4 κ) next' l d d_1 number number_1 l_1 d_2 d_3) (zb0 letters c_1 most r4' next' l d d_1 number number_1 l_1 d_2 d_3):=by
  unfold zb0
  repeat' with_reducible first | exact ChO.const _ | exact h_r4 _ _ _ _ _ _ _ _ _ | (apply zn8<;>assumption) | apply ChO.ite | apply ChO.G
theorem zn7 (letters c_1 most):Cn (zjE letters c_1 most):=fun g h hg x=>zmw  _ _ (fun a0 a1 a2 a3 a4 a5 a6 a7 a8=>hg (a0,a1,a2,a3,a4,a5,a6,a7,a8)) letters c_1 most x.1 x.2.1 x.2.2.1 x.2.2.2.1 x.2.2.2.2.1 x.2.2.2.2.2.1 x.2.2.2.2.2.2.1 x.2.2.2.2.2.2.2.1 x.2.2.2.2.2.2.2.2
theorem ziq (letters c_1 most next' l d d_1 number number_1 l_1 d_2 d_3):zfP letters c_1 most next' l d d_1 number number_1 l_1 d_2 d_3=zb0 letters c_1 most (zfP letters c_1 most) next' l d d_1 number number_1 l_1 d_2 d_3:=zax (zn7 letters c_1 most) (next',l,d,d_1,number,number_1,l_1,d_2,d_3)

def zbw (class':Tp20) (t:Int) (next':Tp20) (r6:(Int->(List (Int×(List UInt8)×Unit))->Tp20->Tp20->Option Tp20)) (b:Tp20) (number_2:(List (Int×(List UInt8)×Unit))) (number_3:Tp20):Option Tp20:=
  G (0<=t/\t < (next'.length:Int)) (
  G ((t).toNat < next'.length) (
  G (fits (t+(1:Int))) (
  r6 (t+(1:Int)) number_2 number_3 (next'.set (t).toNat (mget number_2 number_3 (ix class' t,(bstr b,())) (0:Int))))))
def zbJ (d:Tp7) (class':Tp20) (t:Int) (number:(List (Int×(List UInt8)×Unit))) (number_1 next':Tp20) (r6:(Int->(List (Int×(List UInt8)×Unit))->Tp20->Tp20->Option Tp20)) (r10:Int->Tp20->Option Tp20) (t_1:Int) (b:Tp20):Option Tp20:=
  if (decide (t_1 < ((ix d.2.2.1 t).length:Int)))=true then
  G (0<=t_1/\t_1 < ((ix d.2.2.1 t).length:Int)) (
  G (0<=ix (ix d.2.2.1 t) t_1/\ix (ix d.2.2.1 t) t_1 < (class'.length:Int)) (
  G ((ix (ix d.2.2.1 t) t_1).toNat < class'.length) (
  G (0<=ix (ix d.2.2.1 t) t_1/\ix (ix d.2.2.1 t) t_1 < (class'.length:Int)) (
  G ((ix (ix d.2.2.1 t) t_1).toNat < class'.length) (
  G (0<=(8:Int)) (
  G (room b ([IntKind.wrap .u8 (ix class' (ix (ix d.2.2.1 t) t_1)),IntKind.wrap .u8 (ishr .i64 (ix class' (ix (ix d.2.2.1 t) t_1)) (8:Int))]) 1) (
  G (fits (t_1+(1:Int))) (
  r10 (t_1+(1:Int)) (b++([IntKind.wrap .u8 (ix class' (ix (ix d.2.2.1 t) t_1)),IntKind.wrap .u8 (ishr .i64 (ix class' (ix (ix d.2.2.1 t) t_1)) (8:Int))])))))))))) else
  G (0<=t/\t < (class'.length:Int)) (
  G ((t).toNat < class'.length) (
  if (!(mhas number (ix class' t,(bstr b,()))))=true then
  zbw class' t next' r6 b (zni number (ix class' t,(bstr b,()))) (znj number number_1 (ix class' t,(bstr b,())) (number.length:Int)) else
  zbw class' t next' r6 b number number_1))
def zil (d:Tp7) (class':Tp20) (t:Int) (number:(List (Int×(List UInt8)×Unit))) (number_1 next':Tp20) (r6:(Int->(List (Int×(List UInt8)×Unit))->Tp20->Tp20->Option Tp20)):(Int×Tp20->Option Tp20)->Int×Tp20->Option Tp20:=
  fun rec x=>zbJ d class' t number number_1 next' r6 (fun t_1 b=>rec (t_1,b)) x.1 x.2
def zbx (d:Tp7) (class':Tp20) (t:Int) (number:(List (Int×(List UInt8)×Unit))) (number_1 next':Tp20) (r6:(Int->(List (Int×(List UInt8)×Unit))->Tp20->Tp20->Option Tp20)) (t_1:Int) (b:Tp20):Option Tp20:=LFix (zil d class' t number number_1 next' r6 ) (t_1,b)
def zbZ (d:Tp7) (count:Int) (class':Tp20) (r3:(Int->Tp20->Option Tp20)) (r6:Int->(List (Int×(List UInt8)×Unit))->Tp20->Tp20->Option Tp20) (t:Int) (number:(List (Int×(List UInt8)×Unit))) (number_1 next':Tp20):Option Tp20:=
  if (decide (t < (d.2.2.1.length:Int)))=true then
  G (0<=t/\t < (d.2.2.1.length:Int)) (
  zbx d class' t number number_1 next' r6 (0:Int) ([])) else
  if (decide ((number.length:Int)=count))=true then
  some next' else
  r3 (number.length:Int) next'
def zjC (d:Tp7) (count:Int) (class':Tp20) (r3:(Int->Tp20->Option Tp20)):(Int×(List (Int×(List UInt8)×Unit))×Tp20×Tp20->Option Tp20)->Int×(List (Int×(List UInt8)×Unit))×Tp20×Tp20->Option Tp20:=
  fun rec x=>zbZ d count class' r3 (fun t number number_1 next'=>rec (t,number,number_1,next')) x.1 x.2.1 x.2.2.1 x.2.2.2
def zce (d:Tp7) (count:Int) (class':Tp20) (r3:(Int->Tp20->Option Tp20)) (t:Int) (number:(List (Int×(List UInt8)×Unit))) (number_1 next':Tp20):Option Tp20:=LFix (zjC d count class' r3 ) (t,number,number_1,next')
def zcx (d:Tp7) (r3:Int->Tp20->Option Tp20) (count:Int) (class':Tp20):Option Tp20:=
  G (mkOK (class'.length:Int) (class'.length:Int) 8) (
  zce d count class' r3 (0:Int) ([]:List (Int×(List UInt8)×Unit)) ([]:List Int) (List.replicate ((class'.length:Int)).toNat (0:Int)))
def zjB (d:Tp7):(Int×Tp20->Option Tp20)->Int×Tp20->Option Tp20:=
  fun rec x=>zcx d (fun count class'=>rec (count,class')) x.1 x.2
def zdp (d:Tp7) (count:Int) (class':Tp20):Option Tp20:=LFix (zjB d ) (count,class')
def zjf (d:Tp7):Option Tp20:=
  (za5 d.2.2.2.1).bind (fun y'=>
  zdp d (0:Int) y')
theorem zmQ (r6:Nat->Int->(List (Int×(List UInt8)×Unit))->Tp20->Tp20->Option Tp20) (r6':Int->(List (Int×(List UInt8)×Unit))->Tp20->Tp20->Option Tp20) (h_r6:∀ a0 a1 a2 a3,ChO (fun κ=>r6 κ a0 a1 a2 a3) (r6' a0 a1 a2 a3)) (class' t next' b number_2 number_3):ChO (fun κ=>zbw class' t next' (r6 κ) b number_2 number_3) (zbw class' t next' r6' b number_2 number_3):=by
  unfold zbw
  repeat' with_reducible first | exact ChO.const _ | exact h_r6 _ _ _ _ | apply ChO.G
theorem zgm (r6:Nat->Int->(List (Int×(List UInt8)×Unit))->Tp20->Tp20->Option Tp20) (r6':Int->(List (Int×(List UInt8)×Unit))->Tp20->Tp20->Option Tp20) (h_r6:∀ a0 a1 a2 a3,ChO (fun κ=>r6 κ a0 a1 a2 a3) (r6' a0 a1 a2 a3)) (r10:Nat->Int->Tp20->Option Tp20) (r10':Int->Tp20->Option Tp20) (h_r10:∀ a0 a1,ChO (fun κ=>r10 κ a0 a1) (r10' a0 a1)) (d class' t number number_1 next' t_1 b):ChO (fun κ=>zbJ d class' t number number_1 next' (r6 κ) (r10 κ) t_1 b) (zbJ d class' t number number_1 next' r6' r10' t_1 b):=by
  unfold zbJ
  repeat' with_reducible first | exact ChO.const _ | exact h_r6 _ _ _ _ | exact h_r10 _ _ | (apply zmQ<;>assumption) | apply ChO.ite | apply ChO.G
theorem zeO (r6 d class' t number number_1 next'):Cn (zil d class' t number number_1 next' r6):=fun g h hg x=>zgm (fun _=>r6) r6 (fun _ _ _ _=>ChO.const _) _ _ (fun a0 a1=>hg (a0,a1)) d class' t number number_1 next' x.1 x.2
theorem zhu (r6 d class' t number number_1 next' t_1 b):zbx d class' t number number_1 next' r6 t_1 b=zbJ d class' t number number_1 next' r6 (zbx d class' t number number_1 next' r6) t_1 b:=zax (zeO r6 d class' t number number_1 next') (t_1,b)
theorem zmR (r6:Nat->Int->(List (Int×(List UInt8)×Unit))->Tp20->Tp20->Option Tp20) (r6':Int->(List (Int×(List UInt8)×Unit))->Tp20->Tp20->Option Tp20) (h_r6:∀ a0 a1 a2 a3,ChO (fun κ=>r6 κ a0 a1 a2 a3) (r6' a0 a1 a2 a3)) (d class' t number number_1 next' t_1 b):ChO (fun κ=>zbx d class' t number number_1 next' (r6 κ) t_1 b) (zbx d class' t number number_1 next' r6' t_1 b):=by
  unfold zbx
  exact zbH (fun κ=>(zeO (r6 κ) d class' t number number_1 next').mono) (zeO r6' d class' t number number_1 next').mono (fun g h hg x=>zgm r6 r6' h_r6 _ _ (fun a0 a1=>hg (a0,a1)) d class' t number number_1 next' x.1 x.2) _
theorem zgK (r3:Nat->Int->Tp20->Option Tp20) (r3':Int->Tp20->Option Tp20) (h_r3:∀ a0 a1,ChO (fun κ=>r3 κ a0 a1) (r3' a0 a1)) (r6:Nat->Int->(List (Int×(List UInt8)×Unit))->Tp20->Tp20->Option Tp20) (r6':Int->(List (Int×(List UInt8)×Unit))->Tp20->Tp20->Option Tp20) (h_r6:∀ a0 a1 a2 a3,ChO (fun κ=>r6 κ a0 a1 a2 a3) (r6' a0 a1 a2 a3)) (d count class' t number number_1 next'):ChO (fun κ=>zbZ d count class' (r3 κ) (r6 κ) t number number_1 next') (zbZ d count class' r3' r6' t number number_1 next'):=by
  unfold zbZ
  repeat' with_reducible first | exact ChO.const _ | exact h_r3 _ _ | exact h_r6 _ _ _ _ | (apply zmR<;>assumption) | apply ChO.ite | apply ChO.G
theorem zfq (r3 d count class'):Cn (zjC d count class' r3):=fun g h hg x=>zgK (fun _=>r3) r3 (fun _ _=>ChO.const _) _ _ (fun a0 a1 a2 a3=>hg (a0,a1,a2,a3)) d count class' x.1 x.2.1 x.2.2.1 x.2.2.2
theorem zim (r3 d count class' t number number_1 next'):zce d count class' r3 t number number_1 next'=zbZ d count class' r3 (zce d count class' r3) t number number_1 next':=zax (zfq r3 d count class') (t,number,number_1,next')
theorem zn6 (r3:Nat->Int->Tp20->Option Tp20) (r3':Int->Tp20->Option Tp20) (h_r3:∀ a0 a1,ChO (fun κ=>r3 κ a0 a1) (r3' a0 a1)) (d count class' t number number_1 next'):ChO (fun κ=>zce d count class' (r3 κ) t number number_1 next') (zce d count class' r3' t number number_1 next'):=by
  unfold zce
  exact zbH (fun κ=>(zfq (r3 κ) d count class').mono) (zfq r3' d count class').mono (fun g h hg x=>zgK r3 r3' h_r3 _ _ (fun a0 a1 a2 a3=>hg (a0,a1,a2,a3)) d count class' x.1 x.2.1 x.2.2.1 x.2.2.2) _
theorem zms (r3:Nat->Int->Tp20->Option Tp20) (r3':Int->Tp20->Option Tp20) (h_r3:∀ a0 a1,ChO (fun κ=>r3 κ a0 a1) (r3' a0 a1)) (d count class'):ChO (fun κ=>zcx d (r3 κ) count class') (zcx d r3' count class'):=by
  unfold zcx
  repeat' with_reducible first | exact ChO.const _ | exact h_r3 _ _ | (apply zn6<;>assumption) | apply ChO.G
theorem zn4 (d):Cn (zjB d):=fun g h hg x=>zms  _ _ (fun a0 a1=>hg (a0,a1)) d x.1 x.2
theorem zn5 (d count class'):zdp d count class'=zcx d (zdp d) count class':=zax (zn4 d) (count,class')

def zfQ (c a:Int) (t:Tp20) (t_1:Tp7) (t_2:Tp20):Option (Int):=
  G (0<=c/\c < (t_2.length:Int)) (
  G (0<=ix t_2 c/\ix t_2 c < (t_1.2.2.1.length:Int)) (
  G (0<=a/\a < ((ix t_1.2.2.1 (ix t_2 c)).length:Int)) (
  G (0<=ix (ix t_1.2.2.1 (ix t_2 c)) a/\ix (ix t_1.2.2.1 (ix t_2 c)) a < (t.length:Int)) (
  some (ix t (ix (ix t_1.2.2.1 (ix t_2 c)) a))))))

def zhY (c:Int) (t:Tp7) (t_1:Tp20):Option (Int):=
  G (0<=c/\c < (t_1.length:Int)) (
  G (0<=ix t_1 c/\ix t_1 c < (t.2.2.2.1.length:Int)) (
  some (ix t.2.2.2.1 (ix t_1 c))))

def zcn (t:Int) (row:Tp20) (r8:(Int->Tp20->Tp20->Tp20->Tp20->Option Tp4)) (n:Int) (number_4 number_5 l_2:Tp20):Option Tp4:=
  G (0<=t/\t < (row.length:Int)) (
  G ((t).toNat < row.length) (
  G (fits (t+(1:Int))) (
  r8 (t+(1:Int)) number_4 number_5 l_2 (row.set (t).toNat n))))
def zby (letters:Int) (c:Tp20) (c_1:Tp7) (c_2:Tp20) (c_3:Tp7) (c_4:Tp20) (most d d_1:Int) (l:Tp20) (d_2:Tp18) (d_3:Tp20) (r4:(Int->Int->Tp20->Tp20->Tp20->Tp18->Tp20->Option Tp4)) (r8:Tf8) (t:Int) (number_2 number_3 l_1 row:Tp20):Option Tp4:=
  if (decide (t < letters))=true then
  (zfQ (ix l (d_2.length:Int)) t c c_1 c_2).bind (fun y'=>
  if (!(mhas number_2 y'))=true then
  if (decide ((l_1.length:Int)=most))=true then
  some (((0:Int),((0:Int),([],([],())))),false) else
  G (room l_1 ([y']) 8) (
  zcn t row r8 (l_1.length:Int) (zni number_2 y') (znj number_2 number_3 y' (l_1.length:Int)) (l_1++([y']))) else
  zcn t row r8 (mget number_2 number_3 y' (0:Int)) number_2 number_3 l_1) else
  G (room d_2 ([row]) 24) (
  (zhY (ix l (d_2.length:Int)) c_3 c_4).bind (fun y'_1=>
  G (room d_3 ([y'_1]) 8) (
  r4 d d_1 number_2 number_3 l_1 (d_2++([row])) (d_3++([y'_1])))))
def zhw (letters:Int) (c:Tp20) (c_1:Tp7) (c_2:Tp20) (c_3:Tp7) (c_4:Tp20) (most d d_1:Int) (l:Tp20) (d_2:Tp18) (d_3:Tp20) (r4:(Int->Int->Tp20->Tp20->Tp20->Tp18->Tp20->Option Tp4)):(Int×Tp20×Tp20×Tp20×Tp20->Option Tp4)->Int×Tp20×Tp20×Tp20×Tp20->Option Tp4:=
  fun rec x=>zby letters c c_1 c_2 c_3 c_4 most d d_1 l d_2 d_3 r4 (fun t number_2 number_3 l_1 row=>rec (t,number_2,number_3,l_1,row)) x.1 x.2.1 x.2.2.1 x.2.2.2.1 x.2.2.2.2
def zbb (letters:Int) (c:Tp20) (c_1:Tp7) (c_2:Tp20) (c_3:Tp7) (c_4:Tp20) (most d d_1:Int) (l:Tp20) (d_2:Tp18) (d_3:Tp20) (r4:(Int->Int->Tp20->Tp20->Tp20->Tp18->Tp20->Option Tp4)) (t:Int) (number_2 number_3 l_1 row:Tp20):Option Tp4:=LFix (zhw letters c c_1 c_2 c_3 c_4 most d d_1 l d_2 d_3 r4 ) (t,number_2,number_3,l_1,row)
def zbW (letters:Int) (c:Tp20) (c_1:Tp7) (c_2:Tp20) (c_3:Tp7) (c_4:Tp20) (most:Int) (r4:Tf3) (d d_1:Int) (number number_1 l:Tp20) (d_2:Tp18) (d_3:Tp20):Option Tp4:=
  if (decide ((d_2.length:Int) < (l.length:Int)))=true then
  G (0<=(d_2.length:Int)/\(d_2.length:Int) < (l.length:Int)) (
  G (((d_2.length:Int)).toNat < l.length) (
  G (mkOK letters letters 8) (
  zbb letters c c_1 c_2 c_3 c_4 most d d_1 l d_2 d_3 r4 (0:Int) number number_1 l (List.replicate (letters).toNat (0:Int))))) else
  some ((d,(d_1,(d_2,(d_3,())))),true)
def zhv (letters:Int) (c:Tp20) (c_1:Tp7) (c_2:Tp20) (c_3:Tp7) (c_4:Tp20) (most:Int):(Int×Int×Tp20×Tp20×Tp20×Tp18×Tp20->Option Tp4)->Int×Int×Tp20×Tp20×Tp20×Tp18×Tp20->Option Tp4:=
  fun rec x=>zbW letters c c_1 c_2 c_3 c_4 most (fun d d_1 number number_1 l d_2 d_3=>rec (d,d_1,number,number_1,l,d_2,d_3)) x.1 x.2.1 x.2.2.1 x.2.2.2.1 x.2.2.2.2.1 x.2.2.2.2.2.1 x.2.2.2.2.2.2
def zdh (letters:Int) (c:Tp20) (c_1:Tp7) (c_2:Tp20) (c_3:Tp7) (c_4:Tp20) (most d d_1:Int) (number number_1 l:Tp20) (d_2:Tp18) (d_3:Tp20):Option Tp4:=LFix (zhv letters c c_1 c_2 c_3 c_4 most ) (d,d_1,number,number_1,l,d_2,d_3)
def zgv (letters first:Int) (c:Tp20) (c_1:Tp7) (c_2:Tp20) (c_3:Tp7) (c_4:Tp20) (most:Int):Option Tp4:=
  zdh letters c c_1 c_2 c_3 c_4 most letters (0:Int) (zni ([]:List Int) first) (znj ([]:List Int) ([]:List Int) first (0:Int)) ([first]) ([]:List Tp20) ([]:List Int)
theorem zlI (r8:Nat->Tf8) (r8':Tf8) (h_r8:∀ a0 a1 a2 a3 a4,ChO (fun κ=>r8 κ a0 a1 a2 a3 a4) (r8' a0 a1 a2 a3 a4)) (t row n number_4 number_5 l_2):ChO (fun κ=>zcn t row (r8 κ) n number_4 number_5 l_2) (zcn t row r8' n number_4 number_5 l_2):=by
  unfold zcn
  repeat' with_reducible first | exact ChO.const _ | exact h_r8 _ _ _ _ _ | apply ChO.G
theorem zfU (r4:Nat->Tf3) (r4':Tf3) (h_r4:∀ a0 a1 a2 a3 a4 a5 a6,ChO (fun κ=>r4 κ a0 a1 a2 a3 a4 a5 a6) (r4' a0 a1 a2 a3 a4 a5 a6)) (r8:Nat->Tf8) (r8':Tf8) (h_r8:∀ a0 a1 a2 a3 a4,ChO (fun κ=>r8 κ a0 a1 a2 a3 a4) (r8' a0 a1 a2 a3 a4)) (letters c c_1 c_2 c_3 c_4 most d d_1 l d_2 d_3 t number_2 number_3 l_1 row):ChO (fun κ=>zby letters c c_1 c_2 c_3 c_4 most d d_1 l d_2 d_3 (r4 κ) (r8 κ) t number_2 number_3 l_1 row) (zby letters c c_1 c_2 c_3 c_4 most d d_1 l d_2 d_3 r4' r8' t number_2 number_3 l_1 row):=by
  unfold zby
  repeat' with_reducible first | exact ChO.const _ | exact h_r4 _ _ _ _ _ _ _ | exact h_r8 _ _ _ _ _ | (apply zlI<;>assumption) | apply ChO.ite | apply ChO.G | (apply ChO.bind;intro _)
theorem zem (r4 letters c c_1 c_2 c_3 c_4 most d d_1 l d_2 d_3):Cn (zhw letters c c_1 c_2 c_3 c_4 most d d_1 l d_2 d_3 r4):=fun g h hg x=>zfU (fun _=>r4) r4 (fun _ _ _ _ _ _ _=>ChO.const _) _ _ (fun a0 a1 a2 a3 a4=>hg (a0,a1,a2,a3,a4)) letters c c_1 c_2 c_3 c_4 most d d_1 l d_2 d_3 x.1 x.2.1 x.2.2.1 x.2.2.2.1 x.2.2.2.2
theorem zgL (r4 letters c c_1 c_2 c_3 c_4 most d d_1 l d_2 d_3 t number_2 number_3 l_1 row):zbb letters c c_1 c_2 c_3 c_4 most d d_1 l d_2 d_3 r4 t number_2 number_3 l_1 row=zby letters c c_1 c_2 c_3 c_4 most d d_1 l d_2 d_3 r4 (zbb letters c c_1 c_2 c_3 c_4 most d d_1 l d_2 d_3 r4) t number_2 number_3 l_1 row:=zax (zem r4 letters c c_1 c_2 c_3 c_4 most d d_1 l d_2 d_3) (t,number_2,number_3,l_1,row)
theorem zmv (r4:Nat->Tf3) (r4':Tf3) (h_r4:∀ a0 a1 a2 a3 a4 a5 a6,ChO (fun κ=>r4 κ a0 a1 a2 a3 a4 a5 a6) (r4' a0 a1 a2 a3 a4 a5 a6)) (letters c c_1 c_2 c_3 c_4 most d d_1 l d_2 d_3 t number_2 number_3 l_1 row):ChO (fun κ=>zbb letters c c_1 c_2 c_3 c_4 most d d_1 l d_2 d_3 (r4 κ) t number_2 number_3 l_1 row) (zbb letters c c_1 c_2 c_3 c_4 most d d_1 l d_2 d_3 r4' t number_2 number_3 l_1 row):=by
  unfold zbb
  exact zbH (fun κ=>(zem (r4 κ) letters c c_1 c_2 c_3 c_4 most d d_1 l d_2 d_3).mono) (zem r4' letters c c_1 c_2 c_3 c_4 most d d_1 l d_2 d_3).mono (fun g h hg x=>zfU r4 r4' h_r4 _ _ (fun a0 a1 a2 a3 a4=>hg (a0,a1,a2,a3,a4)) letters c c_1 c_2 c_3 c_4 most d d_1 l d_2 d_3 x.1 x.2.1 x.2.2.1 x.2.2.2.1 x.2.2.2.2) _
theorem zkm (r4:Nat->Tf3) (r4':Tf3) (h_r4:∀ a0 a1 a2 a3 a4 a5 a6,ChO (fun κ=>r4 κ a0 a1 a2 a3 a4 a5 a6) (r4' a0 a1 a2 a3 a4 a5 a6)) (letters c c_1 c_2 c_3 c_4 most d d_1 number number_1 l d_2 d_3):ChO (fun κ=>zbW letters c c_1 c_2 c_3 c_4 most (r4 κ) d d_1 number number_1 l d_2 d_3) (zbW letters c c_1 c_2 c_3 c_4 most r4' d d_1 number number_1 l d_2 d_3):=by
  unfold zbW
  repeat' with_reducible first | exact ChO.const _ | exact h_r4 _ _ _ _ _ _ _ | (apply zmv<;>assumption) | apply ChO.ite | apply ChO.G
theorem zmt (letters c c_1 c_2 c_3 c_4 most):Cn (zhv letters c c_1 c_2 c_3 c_4 most):=fun g h hg x=>zkm  _ _ (fun a0 a1 a2 a3 a4 a5 a6=>hg (a0,a1,a2,a3,a4,a5,a6)) letters c c_1 c_2 c_3 c_4 most x.1 x.2.1 x.2.2.1 x.2.2.2.1 x.2.2.2.2.1 x.2.2.2.2.2.1 x.2.2.2.2.2.2
theorem zmu (letters c c_1 c_2 c_3 c_4 most d d_1 number number_1 l d_2 d_3):zdh letters c c_1 c_2 c_3 c_4 most d d_1 number number_1 l d_2 d_3=zbW letters c c_1 c_2 c_3 c_4 most (zdh letters c c_1 c_2 c_3 c_4 most) d d_1 number number_1 l d_2 d_3:=zax (zmt letters c c_1 c_2 c_3 c_4 most) (d,d_1,number,number_1,l,d_2,d_3)

def zkp (out out_1:Int) (out_2:Tp18) (out_3:Tp20):Option Tp7:=
  some (out,(out_1,(out_2,(out_3,()))))
def zbK (d:Tp7) (y':Tp20) (r4:Int->Tp20->Option Tp7) (t:Int) (l:Tp20):Option Tp7:=
  if (decide (t < (y'.length:Int)))=true then
  G (0<=t/\t < (y'.length:Int)) (
  G ((t).toNat < y'.length) (
  G (0<=ix y' t/\ix y' t < (l.length:Int)) (
  G ((ix y' t).toNat < l.length) (
  G (fits (t+(1:Int))) (
  r4 (t+(1:Int)) (l.set (ix y' t).toNat t)))))) else
  G (0<=d.2.1/\d.2.1 < (y'.length:Int)) (
  G ((d.2.1).toNat < y'.length) (
  G (fits ((y'.length:Int)+(1:Int))) (
  both [(.pair (.int .i64) (.pair (.int .i64) (.pair (.list (.list (.int .i64))) Tc3)))] (
  (zgv d.1 (ix y' d.2.1) y' (d.1,(d.2.1,(d.2.2.1,(d.2.2.2.1,())))) l (d.1,(d.2.1,(d.2.2.1,(d.2.2.2.1,())))) l ((y'.length:Int)+(1:Int))).bind (fun y'_4=>
  zkp y'_4.1.1 y'_4.1.2.1 y'_4.1.2.2.1 y'_4.1.2.2.2.1)) (
  (zgv d.1 (ix y' d.2.1) y' (d.1,(d.2.1,(d.2.2.1,(d.2.2.2.1,())))) l (d.1,(d.2.1,(d.2.2.1,(d.2.2.2.1,())))) l ((y'.length:Int)+(1:Int))).bind (fun y'_8=>
  zkp y'_8.1.1 y'_8.1.2.1 y'_8.1.2.2.1 y'_8.1.2.2.2.1)))))
def ziu (d:Tp7) (y':Tp20):(Int×Tp20->Option Tp7)->Int×Tp20->Option Tp7:=
  fun rec x=>zbK d y' (fun t l=>rec (t,l)) x.1 x.2
def zcq (d:Tp7) (y':Tp20) (t:Int) (l:Tp20):Option Tp7:=LFix (ziu d y' ) (t,l)
def zfV (d:Tp7):Option Tp7:=
  (zjf (d.1,(d.2.1,(d.2.2.1,(d.2.2.2.1,()))))).bind (fun y'=>
  G (mkOK (y'.length:Int) (y'.length:Int) 8) (
  zcq d y' (0:Int) (List.replicate ((y'.length:Int)).toNat (0:Int))))
theorem zlJ (r4:Nat->Int->Tp20->Option Tp7) (r4':Int->Tp20->Option Tp7) (h_r4:∀ a0 a1,ChO (fun κ=>r4 κ a0 a1) (r4' a0 a1)) (d y' t l):ChO (fun κ=>zbK d y' (r4 κ) t l) (zbK d y' r4' t l):=by
  unfold zbK
  repeat' with_reducible first | exact ChO.const _ | exact h_r4 _ _ | apply ChO.ite | apply ChO.G | apply ChO.both | (apply ChO.bind;intro _)
theorem zmT (d y'):Cn (ziu d y'):=fun g h hg x=>zlJ  _ _ (fun a0 a1=>hg (a0,a1)) d y' x.1 x.2
theorem zhB (d y' t l):zcq d y' t l=zbK d y' (zcq d y') t l:=zax (zmT d y') (t,l)

def zeX (d d_1:Int) (d_2:Tp18) (d_3:Tp20):Option Tp5:=
  (zfV (d,(d_1,(d_2,(d_3,()))))).bind (fun y'_11=>
  some ((y'_11.1,(y'_11.2.1,(y'_11.2.2.1,(y'_11.2.2.2.1,())))),(0:Int)))
def zbs (letters:Int) (y'_4:Tp10) (y'_5:Tp19) (r11:Int->Int->Option Tp5) (t last:Int):Option Tp5:=
  if (decide (t < (y'_5.length:Int)))=true then
  G (0<=t/\t < (y'_5.length:Int)) (
  G ((t).toNat < y'_5.length) (
  if (ix y'_5 t)=true then
  G (0<=t) (
  G (fits (t+(1:Int))) (
  r11 (t+(1:Int)) (ior .i64 last (ishl .i64 (1:Int) t)))) else
  G (fits (t+(1:Int))) (
  r11 (t+(1:Int)) last))) else
  G (0<=(y'_4.1.length:Int)) (
  both [(.pair (.int .i64) (.pair (.int .i64) (.pair (.list (.list (.int .i64))) Tc3))),(.int .i64)] (
  (zjg letters (ishl .i64 (1:Int) (y'_4.1.length:Int)) y'_5 last (3000:Int) y'_4).bind (fun y'_12=>
  zeX y'_12.1.1 y'_12.1.2.1 y'_12.1.2.2.1 y'_12.1.2.2.2.1)) (
  (zjg letters (ishl .i64 (1:Int) (y'_4.1.length:Int)) y'_5 last (3000:Int) y'_4).bind (fun y'_17=>
  zeX y'_17.1.1 y'_17.1.2.1 y'_17.1.2.2.1 y'_17.1.2.2.2.1)))
def ziY (letters:Int) (y'_4:Tp10) (y'_5:Tp19):(Int×Int->Option Tp5)->Int×Int->Option Tp5:=
  fun rec x=>zbs letters y'_4 y'_5 (fun t last=>rec (t,last)) x.1 x.2
def zbC (letters:Int) (y'_4:Tp10) (y'_5:Tp19) (t last:Int):Option Tp5:=LFix (ziY letters y'_4 y'_5 ) (t,last)
def zb6 (letters:Int) (text:(List UInt8)):Option Tp5:=
  (zd7 text).bind (fun y'_19=>
  if (decide (¬ y'_19.2.1=(0:Int)))=true then
  some (((0:Int),((0:Int),([],([],())))),(4:Int)) else
  if (decide (letters < (1:Int)))=true then
  some (((0:Int),((0:Int),([],([],())))),(2:Int)) else
  if (decide ((4:Int) < letters))=true then
  some (((0:Int),((0:Int),([],([],())))),(2:Int)) else
  (zcW text letters).bind (fun y'_3=>
  if y'_3=true then
  some (((0:Int),((0:Int),([],([],())))),(2:Int)) else
  (zeZ y'_19.1).bind (fun y'_18=>
  if (decide ((10:Int) < (y'_18.1.1.length:Int)))=true then
  some (((0:Int),((0:Int),([],([],())))),(7:Int)) else
  zbC letters y'_18.1 y'_18.2 (0:Int) (0:Int))))
theorem zlM (r11:Nat->Int->Int->Option Tp5) (r11':Int->Int->Option Tp5) (h_r11:∀ a0 a1,ChO (fun κ=>r11 κ a0 a1) (r11' a0 a1)) (letters y'_4 y'_5 t last):ChO (fun κ=>zbs letters y'_4 y'_5 (r11 κ) t last) (zbs letters y'_4 y'_5 r11' t last):=by
  unfold zbs
  repeat' with_reducible first | exact ChO.const _ | exact h_r11 _ _ | apply ChO.ite | apply ChO.G | apply ChO.both | (apply ChO.bind;intro _)
theorem znP (letters y'_4 y'_5):Cn (ziY letters y'_4 y'_5):=fun g h hg x=>zlM  _ _ (fun a0 a1=>hg (a0,a1)) letters y'_4 y'_5 x.1 x.2
theorem zeY (letters y'_4 y'_5 t last):zbC letters y'_4 y'_5 t last=zbs letters y'_4 y'_5 (zbC letters y'_4 y'_5) t last:=zax (znP letters y'_4 y'_5) (t,last)

def zix (d:Tp7):Option (Bool):=
  if (decide (d.1=(0:Int)))=true then
  if (decide (d.2.1=(0:Int)))=true then
  G (fits ((d.2.2.1.length:Int)+(d.2.2.2.1.length:Int))) (
  some (decide (((d.2.2.1.length:Int)+(d.2.2.2.1.length:Int))=(0:Int)))) else
  some false else
  some false

def zdH (r:((List UInt8)×Int×Int×Tp11×(Int×Int×Unit)×Unit)):Option (Bool):=
  some (decide (r.2.2.2.2.1.1=(0:Int)))

def zcz (r:((List UInt8)×Int×Int×Tp11×(Int×Int×Unit)×Unit)):Option (Int):=
  if (decide ((r.1.length:Int)<=r.2.1))=true then
  some (0:Int) else
  G (0<=r.2.1/\r.2.1 < (r.1.length:Int)) (
  some (bAt r.1 r.2.1))

def zcd (p:Tp14) (c:(List UInt8)) (c_1 c_2 c_3 c_4:Int) (l:Tp11):Option (Int×(List UInt8)×Int×Int×Tp11×Int×Int):=
  G (room l ([(p.1,(p.2.1,(p.2.2.1,())))]) 40) (
  G (fits (((l++([(p.1,(p.2.1,(p.2.2.1,())))])).length:Int) - (1:Int))) (
  some (((l++([(p.1,(p.2.1,(p.2.2.1,())))])).length:Int) - (1:Int),c,c_1,c_2,l++([(p.1,(p.2.1,(p.2.2.1,())))]),c_3,c_4)))

def zcO (code:Int) (c:(List UInt8)) (c_1 c_2 c_3 c_4:Int) (l:Tp11):Option ((List UInt8)×Int×Int×Tp11×Int×Int):=
  if (decide (c_3=(0:Int)))=true then
  some (c,c_1,c_2,l,code,c_1) else
  some (c,c_1,c_2,l,c_3,c_4)

def zcB (y'_45:Int) (r:(List UInt8)) (r_1 r_2 r_3 r_4:Int) (l_1:Tp11):Option (Int×(List UInt8)×Int×Int×Tp11×Int×Int):=
  (zdH (r,(r_1,(r_2,(l_1,((r_3,(r_4,())),())))))).bind (fun y'_61=>
  if y'_61=true then
  G (fits (r_1+(1:Int))) (
  G (fits (r_2 - (1:Int))) (
  some (y'_45,r,r_1+(1:Int),r_2 - (1:Int),l_1,r_3,r_4))) else
  G (fits (r_2 - (1:Int))) (
  some (y'_45,r,r_1,r_2 - (1:Int),l_1,r_3,r_4)))
def zbA (zab:(List UInt8)->Int->Int->Int->Int->Tp11->Option (Int×(List UInt8)×Int×Int×Tp11×Int×Int)) (c:(List UInt8)) (c_1 c_2 c_3 c_4:Int) (l:Tp11) (y'_1:Int) (t:Bool):Option (Int×(List UInt8)×Int×Int×Tp11×Int×Int):=
  if t=true then
  G (fits (c_1+(1:Int))) (
  (zcd ((2:Int),(IntKind.wrap .i64 (IntKind.wrap .u8 (y'_1 - (97:Int))),([],()))) c (c_1+(1:Int)) c_2 c_3 c_4 l).bind (fun y'_28=>
  some (y'_28.1,y'_28.2.1,y'_28.2.2.1,y'_28.2.2.2.1,y'_28.2.2.2.2.1,y'_28.2.2.2.2.2.1,y'_28.2.2.2.2.2.2))) else
  if (decide (¬ y'_1=(40:Int)))=true then
  (zcO (4:Int) c c_1 c_2 c_3 c_4 l).bind (fun y'_36=>
  some ((0:Int),y'_36.1,y'_36.2.1,y'_36.2.2.1,y'_36.2.2.2.1,y'_36.2.2.2.2.1,y'_36.2.2.2.2.2)) else
  if (decide (c_2=(40:Int)))=true then
  (zcO (7:Int) c c_1 c_2 c_3 c_4 l).bind (fun y'_44=>
  some ((0:Int),y'_44.1,y'_44.2.1,y'_44.2.2.1,y'_44.2.2.2.1,y'_44.2.2.2.2.1,y'_44.2.2.2.2.2)) else
  G (fits (c_2+(1:Int))) (
  G (fits (c_1+(1:Int))) (
  (zab c (c_1+(1:Int)) (c_2+(1:Int)) c_3 c_4 l).bind (fun y'_63=>
  (zcz (y'_63.2.1,(y'_63.2.2.1,(y'_63.2.2.2.1,(y'_63.2.2.2.2.1,((y'_63.2.2.2.2.2.1,(y'_63.2.2.2.2.2.2,())),())))))).bind (fun y'_53=>
  if (decide (¬ y'_53=(41:Int)))=true then
  (zcO (4:Int) y'_63.2.1 y'_63.2.2.1 y'_63.2.2.2.1 y'_63.2.2.2.2.2.1 y'_63.2.2.2.2.2.2 y'_63.2.2.2.2.1).bind (fun y'_62=>
  zcB y'_63.1 y'_62.1 y'_62.2.1 y'_62.2.2.1 y'_62.2.2.2.2.1 y'_62.2.2.2.2.2 y'_62.2.2.2.1) else
  zcB y'_63.1 y'_63.2.1 y'_63.2.2.1 y'_63.2.2.2.1 y'_63.2.2.2.2.2.1 y'_63.2.2.2.2.2.2 y'_63.2.2.2.2.1))))
def zcP (zab:(List UInt8)->Int->Int->Int->Int->Tp11->Option (Int×(List UInt8)×Int×Int×Tp11×Int×Int)) (c:(List UInt8)) (c_1 c_2 c_3 c_4:Int) (l:Tp11):Option (Int×(List UInt8)×Int×Int×Tp11×Int×Int):=
  (zdH (c,(c_1,(c_2,(l,((c_3,(c_4,())),())))))).bind (fun y'=>
  if (!y')=true then
  some ((0:Int),c,c_1,c_2,l,c_3,c_4) else
  (zcz (c,(c_1,(c_2,(l,((c_3,(c_4,())),())))))).bind (fun y'_1=>
  if (decide (y'_1=(48:Int)))=true then
  G (fits (c_1+(1:Int))) (
  (zcd ((0:Int),((0:Int),([],()))) c (c_1+(1:Int)) c_2 c_3 c_4 l).bind (fun y'_10=>
  some (y'_10.1,y'_10.2.1,y'_10.2.2.1,y'_10.2.2.2.1,y'_10.2.2.2.2.1,y'_10.2.2.2.2.2.1,y'_10.2.2.2.2.2.2))) else
  if (decide (y'_1=(49:Int)))=true then
  G (fits (c_1+(1:Int))) (
  (zcd ((1:Int),((0:Int),([],()))) c (c_1+(1:Int)) c_2 c_3 c_4 l).bind (fun y'_19=>
  some (y'_19.1,y'_19.2.1,y'_19.2.2.1,y'_19.2.2.2.1,y'_19.2.2.2.2.1,y'_19.2.2.2.2.2.1,y'_19.2.2.2.2.2.2))) else
  if (decide ((97:Int)<=y'_1))=true then
  zbA zab c c_1 c_2 c_3 c_4 l y'_1 (decide (y'_1<=(100:Int))) else
  zbA zab c c_1 c_2 c_3 c_4 l y'_1 false))
def zbg (r2:Int->(List UInt8)->Int->Int->Int->Int->Tp11->Option (Int×(List UInt8)×Int×Int×Tp11×Int×Int)) (k:Int) (r:(List UInt8)) (r_1 r_2 r_3 r_4:Int) (l_1:Tp11):Option (Int×(List UInt8)×Int×Int×Tp11×Int×Int):=
  (zcz (r,(r_1,(r_2,(l_1,((r_3,(r_4,())),())))))).bind (fun y'_8=>
  (zdH (r,(r_1,(r_2,(l_1,((r_3,(r_4,())),())))))).bind (fun y'_9=>
  if (!y'_9)=true then
  some (k,r,r_1,r_2,l_1,r_3,r_4) else
  if (decide (¬ y'_8=(42:Int)))=true then
  some (k,r,r_1,r_2,l_1,r_3,r_4) else
  G (fits (r_1+(1:Int))) (
  (zcd ((5:Int),((0:Int),([k],()))) r (r_1+(1:Int)) r_2 r_3 r_4 l_1).bind (fun y'_18=>
  r2 y'_18.1 y'_18.2.1 y'_18.2.2.1 y'_18.2.2.2.1 y'_18.2.2.2.2.2.1 y'_18.2.2.2.2.2.2 y'_18.2.2.2.2.1))))
def zhI:(Int×(List UInt8)×Int×Int×Int×Int×Tp11->Option (Int×(List UInt8)×Int×Int×Tp11×Int×Int))->Int×(List UInt8)×Int×Int×Int×Int×Tp11->Option (Int×(List UInt8)×Int×Int×Tp11×Int×Int):=
  fun rec x=>zbg (fun k r r_1 r_2 r_3 r_4 l_1=>rec (k,r,r_1,r_2,r_3,r_4,l_1)) x.1 x.2.1 x.2.2.1 x.2.2.2.1 x.2.2.2.2.1 x.2.2.2.2.2.1 x.2.2.2.2.2.2
def zdm (k:Int) (r:(List UInt8)) (r_1 r_2 r_3 r_4:Int) (l_1:Tp11):Option (Int×(List UInt8)×Int×Int×Tp11×Int×Int):=LFix (zhI ) (k,r,r_1,r_2,r_3,r_4,l_1)
def zcA (zab:(List UInt8)->Int->Int->Int->Int->Tp11->Option (Int×(List UInt8)×Int×Int×Tp11×Int×Int)) (c:(List UInt8)) (c_1 c_2 c_3 c_4:Int) (l:Tp11):Option (Int×(List UInt8)×Int×Int×Tp11×Int×Int):=
  (zcP zab c c_1 c_2 c_3 c_4 l).bind (fun y'_19=>
  zdm y'_19.1 y'_19.2.1 y'_19.2.2.1 y'_19.2.2.2.1 y'_19.2.2.2.2.2.1 y'_19.2.2.2.2.2.2 y'_19.2.2.2.2.1)
def zek (r_5:(List UInt8)) (r_6 r_7 r_8 r_9:Int) (kids_1:Tp20) (l_2:Tp11):Option (Int×(List UInt8)×Int×Int×Tp11×Int×Int):=
  (zcd ((4:Int),((0:Int),(kids_1,()))) r_5 r_6 r_7 r_8 r_9 l_2).bind (fun y'_18=>
  some (y'_18.1,y'_18.2.1,y'_18.2.2.1,y'_18.2.2.2.1,y'_18.2.2.2.2.1,y'_18.2.2.2.2.2.1,y'_18.2.2.2.2.2.2))
def za1 (zab:(List UInt8)->Int->Int->Int->Int->Tp11->Option (Int×(List UInt8)×Int×Int×Tp11×Int×Int)) (r:(List UInt8)) (r_1 r_2 r_3 r_4:Int) (kids:Tp20) (l_1:Tp11) (r3:((List UInt8)->Int->Int->Int->Int->Tp20->Tp11->Option (Int×(List UInt8)×Int×Int×Tp11×Int×Int))) (y'_9 begins:Bool):Option (Int×(List UInt8)×Int×Int×Tp11×Int×Int):=
  if (!y'_9)=true then
  zek r r_1 r_2 r_3 r_4 kids l_1 else
  if (!begins)=true then
  zek r r_1 r_2 r_3 r_4 kids l_1 else
  (zcA zab r r_1 r_2 r_3 r_4 l_1).bind (fun y'_27=>
  G (room kids ([y'_27.1]) 8) (
  r3 y'_27.2.1 y'_27.2.2.1 y'_27.2.2.2.1 y'_27.2.2.2.2.2.1 y'_27.2.2.2.2.2.2 (kids++([y'_27.1])) y'_27.2.2.2.2.1))
def zbh (zab:(List UInt8)->Int->Int->Int->Int->Tp11->Option (Int×(List UInt8)×Int×Int×Tp11×Int×Int)) (r3:(List UInt8)->Int->Int->Int->Int->Tp20->Tp11->Option (Int×(List UInt8)×Int×Int×Tp11×Int×Int)) (r:(List UInt8)) (r_1 r_2 r_3 r_4:Int) (kids:Tp20) (l_1:Tp11):Option (Int×(List UInt8)×Int×Int×Tp11×Int×Int):=
  (zcz (r,(r_1,(r_2,(l_1,((r_3,(r_4,())),())))))).bind (fun y'_8=>
  (zdH (r,(r_1,(r_2,(l_1,((r_3,(r_4,())),())))))).bind (fun y'_9=>
  if (decide (y'_8=(48:Int)))=true then
  za1 zab r r_1 r_2 r_3 r_4 kids l_1 r3 y'_9 true else
  if (decide (y'_8=(49:Int)))=true then
  za1 zab r r_1 r_2 r_3 r_4 kids l_1 r3 y'_9 true else
  if (decide ((97:Int)<=y'_8))=true then
  if (decide (y'_8<=(100:Int)))=true then
  za1 zab r r_1 r_2 r_3 r_4 kids l_1 r3 y'_9 true else
  za1 zab r r_1 r_2 r_3 r_4 kids l_1 r3 y'_9 (decide (y'_8=(40:Int))) else
  za1 zab r r_1 r_2 r_3 r_4 kids l_1 r3 y'_9 (decide (y'_8=(40:Int)))))
def zhL (zab:(List UInt8)->Int->Int->Int->Int->Tp11->Option (Int×(List UInt8)×Int×Int×Tp11×Int×Int)):((List UInt8)×Int×Int×Int×Int×Tp20×Tp11->Option (Int×(List UInt8)×Int×Int×Tp11×Int×Int))->(List UInt8)×Int×Int×Int×Int×Tp20×Tp11->Option (Int×(List UInt8)×Int×Int×Tp11×Int×Int):=
  fun rec x=>zbh zab (fun r r_1 r_2 r_3 r_4 kids l_1=>rec (r,r_1,r_2,r_3,r_4,kids,l_1)) x.1 x.2.1 x.2.2.1 x.2.2.2.1 x.2.2.2.2.1 x.2.2.2.2.2.1 x.2.2.2.2.2.2
def za2 (zab:(List UInt8)->Int->Int->Int->Int->Tp11->Option (Int×(List UInt8)×Int×Int×Tp11×Int×Int)) (r:(List UInt8)) (r_1 r_2 r_3 r_4:Int) (kids:Tp20) (l_1:Tp11):Option (Int×(List UInt8)×Int×Int×Tp11×Int×Int):=LFix (zhL zab ) (r,r_1,r_2,r_3,r_4,kids,l_1)
def zcC (zab:(List UInt8)->Int->Int->Int->Int->Tp11->Option (Int×(List UInt8)×Int×Int×Tp11×Int×Int)) (c:(List UInt8)) (c_1 c_2 c_3 c_4:Int) (l:Tp11):Option (Int×(List UInt8)×Int×Int×Tp11×Int×Int):=
  (zcA zab c c_1 c_2 c_3 c_4 l).bind (fun y'_28=>
  za2 zab y'_28.2.1 y'_28.2.2.1 y'_28.2.2.2.1 y'_28.2.2.2.2.2.1 y'_28.2.2.2.2.2.2 ([y'_28.1]) y'_28.2.2.2.2.1)
def zdy (r_5:(List UInt8)) (r_6 r_7 r_8 r_9:Int) (kids_1:Tp20) (l_2:Tp11):Option (Int×(List UInt8)×Int×Int×Tp11×Int×Int):=
  (zcd ((3:Int),((0:Int),(kids_1,()))) r_5 r_6 r_7 r_8 r_9 l_2).bind (fun y'_18=>
  some (y'_18.1,y'_18.2.1,y'_18.2.2.1,y'_18.2.2.2.1,y'_18.2.2.2.2.1,y'_18.2.2.2.2.2.1,y'_18.2.2.2.2.2.2))
def zbe (zab:(List UInt8)->Int->Int->Int->Int->Tp11->Option (Int×(List UInt8)×Int×Int×Tp11×Int×Int)) (r3:(List UInt8)->Int->Int->Int->Int->Tp20->Tp11->Option (Int×(List UInt8)×Int×Int×Tp11×Int×Int)) (r:(List UInt8)) (r_1 r_2 r_3 r_4:Int) (kids:Tp20) (l_1:Tp11):Option (Int×(List UInt8)×Int×Int×Tp11×Int×Int):=
  (zcz (r,(r_1,(r_2,(l_1,((r_3,(r_4,())),())))))).bind (fun y'_8=>
  (zdH (r,(r_1,(r_2,(l_1,((r_3,(r_4,())),())))))).bind (fun y'_9=>
  if (!y'_9)=true then
  zdy r r_1 r_2 r_3 r_4 kids l_1 else
  if (decide (¬ y'_8=(43:Int)))=true then
  zdy r r_1 r_2 r_3 r_4 kids l_1 else
  G (fits (r_1+(1:Int))) (
  (zcC zab r (r_1+(1:Int)) r_2 r_3 r_4 l_1).bind (fun y'_27=>
  G (room kids ([y'_27.1]) 8) (
  r3 y'_27.2.1 y'_27.2.2.1 y'_27.2.2.2.1 y'_27.2.2.2.2.2.1 y'_27.2.2.2.2.2.2 (kids++([y'_27.1])) y'_27.2.2.2.2.1)))))
def zgp (zab:(List UInt8)->Int->Int->Int->Int->Tp11->Option (Int×(List UInt8)×Int×Int×Tp11×Int×Int)):((List UInt8)×Int×Int×Int×Int×Tp20×Tp11->Option (Int×(List UInt8)×Int×Int×Tp11×Int×Int))->(List UInt8)×Int×Int×Int×Int×Tp20×Tp11->Option (Int×(List UInt8)×Int×Int×Tp11×Int×Int):=
  fun rec x=>zbe zab (fun r r_1 r_2 r_3 r_4 kids l_1=>rec (r,r_1,r_2,r_3,r_4,kids,l_1)) x.1 x.2.1 x.2.2.1 x.2.2.2.1 x.2.2.2.2.1 x.2.2.2.2.2.1 x.2.2.2.2.2.2
def za8 (zab:(List UInt8)->Int->Int->Int->Int->Tp11->Option (Int×(List UInt8)×Int×Int×Tp11×Int×Int)) (r:(List UInt8)) (r_1 r_2 r_3 r_4:Int) (kids:Tp20) (l_1:Tp11):Option (Int×(List UInt8)×Int×Int×Tp11×Int×Int):=LFix (zgp zab ) (r,r_1,r_2,r_3,r_4,kids,l_1)
def zcp (zab:(List UInt8)->Int->Int->Int->Int->Tp11->Option (Int×(List UInt8)×Int×Int×Tp11×Int×Int)) (c:(List UInt8)) (c_1 c_2 c_3 c_4:Int) (l:Tp11):Option (Int×(List UInt8)×Int×Int×Tp11×Int×Int):=
  (zcC zab c c_1 c_2 c_3 c_4 l).bind (fun y'_28=>
  za8 zab y'_28.2.1 y'_28.2.2.1 y'_28.2.2.2.1 y'_28.2.2.2.2.2.1 y'_28.2.2.2.2.2.2 ([y'_28.1]) y'_28.2.2.2.2.1)
theorem zkS (zab:Nat->(List UInt8)->Int->Int->Int->Int->Tp11->Option (Int×(List UInt8)×Int×Int×Tp11×Int×Int)) (zaf:(List UInt8)->Int->Int->Int->Int->Tp11->Option (Int×(List UInt8)×Int×Int×Tp11×Int×Int)) (zai:∀ a0 a1 a2 a3 a4 a5,ChO (fun κ=>zab κ a0 a1 a2 a3 a4 a5) (zaf a0 a1 a2 a3 a4 a5)) (c c_1 c_2 c_3 c_4 l y'_1 t):ChO (fun κ=>zbA (zab κ) c c_1 c_2 c_3 c_4 l y'_1 t) (zbA zaf c c_1 c_2 c_3 c_4 l y'_1 t):=by
  unfold zbA
  repeat' with_reducible first | exact ChO.const _ | exact zai _ _ _ _ _ _ | apply ChO.ite | apply ChO.G | (apply ChO.bind;intro _) | (apply ChO.bind2 (zai _ _ _ _ _ _);intro _) | (refine ChO.bind2 ?_ (fun _ => ?_))
theorem zoA (zab:Nat->(List UInt8)->Int->Int->Int->Int->Tp11->Option (Int×(List UInt8)×Int×Int×Tp11×Int×Int)) (zaf:(List UInt8)->Int->Int->Int->Int->Tp11->Option (Int×(List UInt8)×Int×Int×Tp11×Int×Int)) (zai:∀ a0 a1 a2 a3 a4 a5,ChO (fun κ=>zab κ a0 a1 a2 a3 a4 a5) (zaf a0 a1 a2 a3 a4 a5)) (c c_1 c_2 c_3 c_4 l):ChO (fun κ=>zcP (zab κ) c c_1 c_2 c_3 c_4 l) (zcP zaf c c_1 c_2 c_3 c_4 l):=by
  unfold zcP
  repeat' with_reducible first | exact ChO.const _ | exact zai _ _ _ _ _ _ | (apply zkS<;>assumption) | apply ChO.ite | apply ChO.G | (apply ChO.bind;intro _) | (apply ChO.bind2 (zai _ _ _ _ _ _);intro _) | (refine ChO.bind2 ?_ (fun _ => ?_))
theorem zkR (r2:Nat->Int->(List UInt8)->Int->Int->Int->Int->Tp11->Option (Int×(List UInt8)×Int×Int×Tp11×Int×Int)) (r2':Int->(List UInt8)->Int->Int->Int->Int->Tp11->Option (Int×(List UInt8)×Int×Int×Tp11×Int×Int)) (h_r2:∀ a0 a1 a2 a3 a4 a5 a6,ChO (fun κ=>r2 κ a0 a1 a2 a3 a4 a5 a6) (r2' a0 a1 a2 a3 a4 a5 a6)) (k r r_1 r_2 r_3 r_4 l_1):ChO (fun κ=>zbg (r2 κ) k r r_1 r_2 r_3 r_4 l_1) (zbg r2' k r r_1 r_2 r_3 r_4 l_1):=by
  unfold zbg
  repeat' with_reducible first | exact ChO.const _ | exact h_r2 _ _ _ _ _ _ _ | apply ChO.ite | apply ChO.G | (apply ChO.bind;intro _) | (refine ChO.bind2 ?_ (fun _ => ?_))
theorem zmC:Cn (zhI):=fun g h hg x=>zkR  _ _ (fun a0 a1 a2 a3 a4 a5 a6=>hg (a0,a1,a2,a3,a4,a5,a6))  x.1 x.2.1 x.2.2.1 x.2.2.2.1 x.2.2.2.2.1 x.2.2.2.2.2.1 x.2.2.2.2.2.2
theorem zeq (k r r_1 r_2 r_3 r_4 l_1):zdm k r r_1 r_2 r_3 r_4 l_1=zbg (zdm) k r r_1 r_2 r_3 r_4 l_1:=zax (zmC ) (k,r,r_1,r_2,r_3,r_4,l_1)
theorem zjT (zab:Nat->(List UInt8)->Int->Int->Int->Int->Tp11->Option (Int×(List UInt8)×Int×Int×Tp11×Int×Int)) (zaf:(List UInt8)->Int->Int->Int->Int->Tp11->Option (Int×(List UInt8)×Int×Int×Tp11×Int×Int)) (zai:∀ a0 a1 a2 a3 a4 a5,ChO (fun κ=>zab κ a0 a1 a2 a3 a4 a5) (zaf a0 a1 a2 a3 a4 a5)) (c c_1 c_2 c_3 c_4 l):ChO (fun κ=>zcA (zab κ) c c_1 c_2 c_3 c_4 l) (zcA zaf c c_1 c_2 c_3 c_4 l):=by
  unfold zcA
  repeat' with_reducible first | exact ChO.const _ | exact zai _ _ _ _ _ _ | (apply zoA<;>assumption) | (apply ChO.bind;intro _) | (apply ChO.bind2 (zai _ _ _ _ _ _);intro _) | (refine ChO.bind2 ?_ (fun _ => ?_))
theorem zmD (zab:Nat->(List UInt8)->Int->Int->Int->Int->Tp11->Option (Int×(List UInt8)×Int×Int×Tp11×Int×Int)) (zaf:(List UInt8)->Int->Int->Int->Int->Tp11->Option (Int×(List UInt8)×Int×Int×Tp11×Int×Int)) (zai:∀ a0 a1 a2 a3 a4 a5,ChO (fun κ=>zab κ a0 a1 a2 a3 a4 a5) (zaf a0 a1 a2 a3 a4 a5)) (r3:Nat->(List UInt8)->Int->Int->Int->Int->Tp20->Tp11->Option (Int×(List UInt8)×Int×Int×Tp11×Int×Int)) (r3':(List UInt8)->Int->Int->Int->Int->Tp20->Tp11->Option (Int×(List UInt8)×Int×Int×Tp11×Int×Int)) (h_r3:∀ a0 a1 a2 a3 a4 a5 a6,ChO (fun κ=>r3 κ a0 a1 a2 a3 a4 a5 a6) (r3' a0 a1 a2 a3 a4 a5 a6)) (r r_1 r_2 r_3 r_4 kids l_1 y'_9 begins):ChO (fun κ=>za1 (zab κ) r r_1 r_2 r_3 r_4 kids l_1 (r3 κ) y'_9 begins) (za1 zaf r r_1 r_2 r_3 r_4 kids l_1 r3' y'_9 begins):=by
  unfold za1
  repeat' with_reducible first | exact ChO.const _ | exact zai _ _ _ _ _ _ | exact h_r3 _ _ _ _ _ _ _ | (apply zjT<;>assumption) | apply ChO.ite | apply ChO.G | (apply ChO.bind;intro _) | (apply ChO.bind2 (zai _ _ _ _ _ _);intro _) | (refine ChO.bind2 ?_ (fun _ => ?_))
theorem zfZ (zab:Nat->(List UInt8)->Int->Int->Int->Int->Tp11->Option (Int×(List UInt8)×Int×Int×Tp11×Int×Int)) (zaf:(List UInt8)->Int->Int->Int->Int->Tp11->Option (Int×(List UInt8)×Int×Int×Tp11×Int×Int)) (zai:∀ a0 a1 a2 a3 a4 a5,ChO (fun κ=>zab κ a0 a1 a2 a3 a4 a5) (zaf a0 a1 a2 a3 a4 a5)) (r3:Nat->(List UInt8)->Int->Int->Int->Int->Tp20->Tp11->Option (Int×(List UInt8)×Int×Int×Tp11×Int×Int)) (r3':(List UInt8)->Int->Int->Int->Int->Tp20->Tp11->Option (Int×(List UInt8)×Int×Int×Tp11×Int×Int)) (h_r3:∀ a0 a1 a2 a3 a4 a5 a6,ChO (fun κ=>r3 κ a0 a1 a2 a3 a4 a5 a6) (r3' a0 a1 a2 a3 a4 a5 a6)) (r r_1 r_2 r_3 r_4 kids l_1):ChO (fun κ=>zbh (zab κ) (r3 κ) r r_1 r_2 r_3 r_4 kids l_1) (zbh zaf r3' r r_1 r_2 r_3 r_4 kids l_1):=by
  unfold zbh
  repeat' with_reducible first | exact ChO.const _ | exact zai _ _ _ _ _ _ | exact h_r3 _ _ _ _ _ _ _ | (apply zmD<;>assumption) | apply ChO.ite | (apply ChO.bind;intro _) | (apply ChO.bind2 (zai _ _ _ _ _ _);intro _) | (refine ChO.bind2 ?_ (fun _ => ?_))
theorem zer (zab):Cn (zhL zab):=fun g h hg x=>zfZ (fun _=>zab) zab (fun _ _ _ _ _ _=>ChO.const _) _ _ (fun a0 a1 a2 a3 a4 a5 a6=>hg (a0,a1,a2,a3,a4,a5,a6))  x.1 x.2.1 x.2.2.1 x.2.2.2.1 x.2.2.2.2.1 x.2.2.2.2.2.1 x.2.2.2.2.2.2
theorem zg1 (zab r r_1 r_2 r_3 r_4 kids l_1):za2 zab r r_1 r_2 r_3 r_4 kids l_1=zbh zab (za2 zab) r r_1 r_2 r_3 r_4 kids l_1:=zax (zer zab) (r,r_1,r_2,r_3,r_4,kids,l_1)
theorem zmE (zab:Nat->(List UInt8)->Int->Int->Int->Int->Tp11->Option (Int×(List UInt8)×Int×Int×Tp11×Int×Int)) (zaf:(List UInt8)->Int->Int->Int->Int->Tp11->Option (Int×(List UInt8)×Int×Int×Tp11×Int×Int)) (zai:∀ a0 a1 a2 a3 a4 a5,ChO (fun κ=>zab κ a0 a1 a2 a3 a4 a5) (zaf a0 a1 a2 a3 a4 a5)) (r r_1 r_2 r_3 r_4 kids l_1):ChO (fun κ=>za2 (zab κ) r r_1 r_2 r_3 r_4 kids l_1) (za2 zaf r r_1 r_2 r_3 r_4 kids l_1):=by
  unfold za2
  exact zbH (fun κ=>(zer (zab κ) ).mono) (zer zaf ).mono (fun g h hg x=>zfZ zab zaf zai _ _ (fun a0 a1 a2 a3 a4 a5 a6=>hg (a0,a1,a2,a3,a4,a5,a6))  x.1 x.2.1 x.2.2.1 x.2.2.2.1 x.2.2.2.2.1 x.2.2.2.2.2.1 x.2.2.2.2.2.2) _
theorem zjV (zab:Nat->(List UInt8)->Int->Int->Int->Int->Tp11->Option (Int×(List UInt8)×Int×Int×Tp11×Int×Int)) (zaf:(List UInt8)->Int->Int->Int->Int->Tp11->Option (Int×(List UInt8)×Int×Int×Tp11×Int×Int)) (zai:∀ a0 a1 a2 a3 a4 a5,ChO (fun κ=>zab κ a0 a1 a2 a3 a4 a5) (zaf a0 a1 a2 a3 a4 a5)) (c c_1 c_2 c_3 c_4 l):ChO (fun κ=>zcC (zab κ) c c_1 c_2 c_3 c_4 l) (zcC zaf c c_1 c_2 c_3 c_4 l):=by
  unfold zcC
  repeat' with_reducible first | exact ChO.const _ | exact zai _ _ _ _ _ _ | (apply zjT<;>assumption) | (apply zmE<;>assumption) | (apply ChO.bind;intro _) | (apply ChO.bind2 (zai _ _ _ _ _ _);intro _) | (refine ChO.bind2 ?_ (fun _ => ?_))
theorem zeW (zab:Nat->(List UInt8)->Int->Int->Int->Int->Tp11->Option (Int×(List UInt8)×Int×Int×Tp11×Int×Int)) (zaf:(List UInt8)->Int->Int->Int->Int->Tp11->Option (Int×(List UInt8)×Int×Int×Tp11×Int×Int)) (zai:∀ a0 a1 a2 a3 a4 a5,ChO (fun κ=>zab κ a0 a1 a2 a3 a4 a5) (zaf a0 a1 a2 a3 a4 a5)) (r3:Nat->(List UInt8)->Int->Int->Int->Int->Tp20->Tp11->Option (Int×(List UInt8)×Int×Int×Tp11×Int×Int)) (r3':(List UInt8)->Int->Int->Int->Int->Tp20->Tp11->Option (Int×(List UInt8)×Int×Int×Tp11×Int×Int)) (h_r3:∀ a0 a1 a2 a3 a4 a5 a6,ChO (fun κ=>r3 κ a0 a1 a2 a3 a4 a5 a6) (r3' a0 a1 a2 a3 a4 a5 a6)) (r r_1 r_2 r_3 r_4 kids l_1):ChO (fun κ=>zbe (zab κ) (r3 κ) r r_1 r_2 r_3 r_4 kids l_1) (zbe zaf r3' r r_1 r_2 r_3 r_4 kids l_1):=by
  unfold zbe
  repeat' with_reducible first | exact ChO.const _ | exact zai _ _ _ _ _ _ | exact h_r3 _ _ _ _ _ _ _ | (apply zjV<;>assumption) | apply ChO.ite | apply ChO.G | (apply ChO.bind;intro _) | (apply ChO.bind2 (zai _ _ _ _ _ _);intro _) | (refine ChO.bind2 ?_ (fun _ => ?_))
theorem zdJ (zab):Cn (zgp zab):=fun g h hg x=>zeW (fun _=>zab) zab (fun _ _ _ _ _ _=>ChO.const _) _ _ (fun a0 a1 a2 a3 a4 a5 a6=>hg (a0,a1,a2,a3,a4,a5,a6))  x.1 x.2.1 x.2.2.1 x.2.2.2.1 x.2.2.2.2.1 x.2.2.2.2.2.1 x.2.2.2.2.2.2
theorem zf0 (zab r r_1 r_2 r_3 r_4 kids l_1):za8 zab r r_1 r_2 r_3 r_4 kids l_1=zbe zab (za8 zab) r r_1 r_2 r_3 r_4 kids l_1:=zax (zdJ zab) (r,r_1,r_2,r_3,r_4,kids,l_1)
theorem zkT (zab:Nat->(List UInt8)->Int->Int->Int->Int->Tp11->Option (Int×(List UInt8)×Int×Int×Tp11×Int×Int)) (zaf:(List UInt8)->Int->Int->Int->Int->Tp11->Option (Int×(List UInt8)×Int×Int×Tp11×Int×Int)) (zai:∀ a0 a1 a2 a3 a4 a5,ChO (fun κ=>zab κ a0 a1 a2 a3 a4 a5) (zaf a0 a1 a2 a3 a4 a5)) (r r_1 r_2 r_3 r_4 kids l_1):ChO (fun κ=>za8 (zab κ) r r_1 r_2 r_3 r_4 kids l_1) (za8 zaf r r_1 r_2 r_3 r_4 kids l_1):=by
  unfold za8
  exact zbH (fun κ=>(zdJ (zab κ) ).mono) (zdJ zaf ).mono (fun g h hg x=>zeW zab zaf zai _ _ (fun a0 a1 a2 a3 a4 a5 a6=>hg (a0,a1,a2,a3,a4,a5,a6))  x.1 x.2.1 x.2.2.1 x.2.2.2.1 x.2.2.2.2.1 x.2.2.2.2.2.1 x.2.2.2.2.2.2) _
theorem zlL (zab:Nat->(List UInt8)->Int->Int->Int->Int->Tp11->Option (Int×(List UInt8)×Int×Int×Tp11×Int×Int)) (zaf:(List UInt8)->Int->Int->Int->Int->Tp11->Option (Int×(List UInt8)×Int×Int×Tp11×Int×Int)) (zai:∀ a0 a1 a2 a3 a4 a5,ChO (fun κ=>zab κ a0 a1 a2 a3 a4 a5) (zaf a0 a1 a2 a3 a4 a5)) (c c_1 c_2 c_3 c_4 l):ChO (fun κ=>zcp (zab κ) c c_1 c_2 c_3 c_4 l) (zcp zaf c c_1 c_2 c_3 c_4 l):=by
  unfold zcp
  repeat' with_reducible first | exact ChO.const _ | exact zai _ _ _ _ _ _ | (apply zjV<;>assumption) | (apply zkT<;>assumption) | (apply ChO.bind;intro _) | (apply ChO.bind2 (zai _ _ _ _ _ _);intro _) | (refine ChO.bind2 ?_ (fun _ => ?_))
def zdW:((List UInt8)×Int×Int×Int×Int×Tp11->Option (Int×(List UInt8)×Int×Int×Tp11×Int×Int))->(List UInt8)×Int×Int×Int×Int×Tp11->Option (Int×(List UInt8)×Int×Int×Tp11×Int×Int):=
  fun rec X=>zcp (fun c c_1 c_2 c_3 c_4 l=>rec (c,c_1,c_2,c_3,c_4,l)) X.1 X.2.1 X.2.2.1 X.2.2.2.1 X.2.2.2.2.1 X.2.2.2.2.2
def zay (c:(List UInt8)) (c_1 c_2 c_3 c_4:Int) (l:Tp11):Option (Int×(List UInt8)×Int×Int×Tp11×Int×Int):=LFix zdW (c,c_1,c_2,c_3,c_4,l)
theorem znx:Cn zdW:=fun g h hg X=>zlL _ _ (fun c c_1 c_2 c_3 c_4 l=>hg (c,c_1,c_2,c_3,c_4,l)) X.1 X.2.1 X.2.2.1 X.2.2.2.1 X.2.2.2.2.1 X.2.2.2.2.2
theorem zny (c c_1 c_2 c_3 c_4 l):zay c c_1 c_2 c_3 c_4 l=zcp zay c c_1 c_2 c_3 c_4 l:=zax znx (c,c_1,c_2,c_3,c_4,l)
def znw (text:(List UInt8)):Option ((Int×Int×Unit)×Tp11):=
  if (decide ((4000:Int) < (text.length:Int)))=true then
  some (((1:Int),((0:Int),())),[]) else
  (zay text (0:Int) (0:Int) (0:Int) (0:Int) ([]:List Tp14)).bind (fun y'_16=>
  if (decide (y'_16.2.2.1 < (text.length:Int)))=true then
  (zcO (4:Int) y'_16.2.1 y'_16.2.2.1 y'_16.2.2.2.1 y'_16.2.2.2.2.2.1 y'_16.2.2.2.2.2.2 y'_16.2.2.2.2.1).bind (fun y'_15=>
  if (decide (¬ y'_15.2.2.2.2.1=(0:Int)))=true then
  some ((y'_15.2.2.2.2.1,(y'_15.2.2.2.2.2,())),[]) else
  some (((0:Int),((0:Int),())),y'_15.2.2.2.1)) else
  if (decide (¬ y'_16.2.2.2.2.2.1=(0:Int)))=true then
  some ((y'_16.2.2.2.2.2.1,(y'_16.2.2.2.2.2.2,())),[]) else
  some (((0:Int),((0:Int),())),y'_16.2.2.2.2.1))

def zcr (l:Tp11) (r4:Int->Int->Int->Option (Int×Int)) (n most i:Int):Option (Int×Int):=
  if (decide (i < (l.length:Int)))=true then
  G (0<=i/\i < (l.length:Int)) (
  if (decide (((ix l i).1)=(2:Int)))=true then
  G (fits (n+(1:Int))) (
  G (0<=i/\i < (l.length:Int)) (
  if (decide (most < (((ix l i).2).1)))=true then
  G (0<=i/\i < (l.length:Int)) (
  G (fits (i+(1:Int))) (
  r4 (n+(1:Int)) (((ix l i).2).1) (i+(1:Int)))) else
  G (fits (i+(1:Int))) (
  r4 (n+(1:Int)) most (i+(1:Int))))) else
  G (fits (i+(1:Int))) (
  r4 n most (i+(1:Int)))) else
  some (n,most)
def zkQ (l:Tp11):(Int×Int×Int->Option (Int×Int))->Int×Int×Int->Option (Int×Int):=
  fun rec x=>zcr l (fun n most i=>rec (n,most,i)) x.1 x.2.1 x.2.2
def zgz (l:Tp11) (n most i:Int):Option (Int×Int):=LFix (zkQ l ) (n,most,i)
def zoz (l:Tp11):Option (Int×Int):=
  zgz l (0:Int) (-1:Int) (0:Int)
theorem znu (r4:Nat->Int->Int->Int->Option (Int×Int)) (r4':Int->Int->Int->Option (Int×Int)) (h_r4:∀ a0 a1 a2,ChO (fun κ=>r4 κ a0 a1 a2) (r4' a0 a1 a2)) (l n most i):ChO (fun κ=>zcr l (r4 κ) n most i) (zcr l r4' n most i):=by
  unfold zcr
  repeat' with_reducible first | exact ChO.const _ | exact h_r4 _ _ _ | apply ChO.ite | apply ChO.G
theorem zpt (l):Cn (zkQ l):=fun g h hg x=>znu  _ _ (fun a0 a1 a2=>hg (a0,a1,a2)) l x.1 x.2.1 x.2.2
theorem zjP (l n most i):zgz l n most i=zcr l (zgz l) n most i:=zax (zpt l) (n,most,i)

def zaS (i:Int) (e:Tp13) (r6:(Int->Int->Tp20->Tp20->Tp13->Option Tp2)) (at'_1:Int) (behind_1 sign_1:Tp20) (x':Bool) (x'_1 x'_2:Int):Option Tp2:=
  G (room e ([(x',(x'_1,(x'_2,())))]) 24) (
  G (fits (i+(1:Int))) (
  r6 at'_1 (i+(1:Int)) behind_1 sign_1 (e++([(x',(x'_1,(x'_2,())))]))))
def zdq (l:Tp11) (i:Int) (e:Tp13) (k:Int) (r20:(Int->Bool->Int->Int->Option Tp2)) (x'_6:Bool) (x'_7 x'_8:Int):Option Tp2:=
  G (fits (k+(1:Int))) (
  r20 (k+(1:Int)) x'_6 (ior .i64 x'_7 (((ix e (ix ((((ix l i).2).2).1) k)).2).1)) (ior .i64 x'_8 ((((ix e (ix ((((ix l i).2).2).1) k)).2).2).1)))
def zb2 (l:Tp11) (at' i:Int) (behind sign:Tp20) (e:Tp13) (r6:(Int->Int->Tp20->Tp20->Tp13->Option Tp2)) (r20:Tf14) (k:Int) (x'_3:Bool) (x'_4 x'_5:Int):Option Tp2:=
  if (decide (k < (((((ix l i).2).2).1).length:Int)))=true then
  G (0<=k/\k < (((((ix l i).2).2).1).length:Int)) (
  G (0<=ix ((((ix l i).2).2).1) k/\ix ((((ix l i).2).2).1) k < (e.length:Int)) (
  G ((ix ((((ix l i).2).2).1) k).toNat < e.length) (
  if x'_3=true then
  zdq l i e k r20 true x'_4 x'_5 else
  zdq l i e k r20 ((ix e (ix ((((ix l i).2).2).1) k)).1) x'_4 x'_5))) else
  zaS i e r6 at' behind sign x'_3 x'_4 x'_5
def zjI (l:Tp11) (at' i:Int) (behind sign:Tp20) (e:Tp13) (r6:(Int->Int->Tp20->Tp20->Tp13->Option Tp2)):(Int×Bool×Int×Int->Option Tp2)->Int×Bool×Int×Int->Option Tp2:=
  fun rec x=>zb2 l at' i behind sign e r6 (fun k x'_3 x'_4 x'_5=>rec (k,x'_3,x'_4,x'_5)) x.1 x.2.1 x.2.2.1 x.2.2.2
def zcK (l:Tp11) (at' i:Int) (behind sign:Tp20) (e:Tp13) (r6:(Int->Int->Tp20->Tp20->Tp13->Option Tp2)) (k:Int) (x'_3:Bool) (x'_4 x'_5:Int):Option Tp2:=LFix (zjI l at' i behind sign e r6 ) (k,x'_3,x'_4,x'_5)
def zdt (k_1:Int) (r29:(Int->Tp20->Bool->Int->Int->Option Tp2)) (behind_4:Tp20) (x'_18:Bool) (x'_19 x'_20:Int):Option Tp2:=
  G (fits (k_1+(1:Int))) (
  r29 (k_1+(1:Int)) behind_4 x'_18 x'_19 x'_20)
def zds (l:Tp11) (i:Int) (e:Tp13) (k_1:Int) (r29:(Int->Tp20->Bool->Int->Int->Option Tp2)) (behind_3:Tp20) (x'_15:Bool) (x'_16 x'_17:Int):Option Tp2:=
  if x'_15=true then
  zdt k_1 r29 behind_3 ((ix e (ix ((((ix l i).2).2).1) k_1)).1) x'_16 x'_17 else
  zdt k_1 r29 behind_3 false x'_16 x'_17
def zdr (l:Tp11) (i:Int) (e:Tp13) (k_1:Int) (r29:(Int->Tp20->Bool->Int->Int->Option Tp2)) (behind_3:Tp20) (x'_12:Bool) (x'_13 x'_14:Int):Option Tp2:=
  if ((ix e (ix ((((ix l i).2).2).1) k_1)).1)=true then
  zds l i e k_1 r29 behind_3 x'_12 x'_13 (ior .i64 x'_14 ((((ix e (ix ((((ix l i).2).2).1) k_1)).2).2).1)) else
  zds l i e k_1 r29 behind_3 x'_12 x'_13 ((((ix e (ix ((((ix l i).2).2).1) k_1)).2).2).1)
def zbE (l:Tp11) (n i:Int) (e:Tp13) (k_1:Int) (x'_9:Bool) (x'_10 x'_11:Int) (r29:(Int->Tp20->Bool->Int->Int->Option Tp2)) (r33:Int->Tp20->Option Tp2) (j:Int) (behind_3:Tp20):Option Tp2:=
  if (decide (j < n))=true then
  G (0<=j) (
  if (decide ((iand .i64 (ishr .i64 x'_11 j) (1:Int))=(1:Int)))=true then
  G (0<=j/\j < (behind_3.length:Int)) (
  G ((j).toNat < behind_3.length) (
  G (0<=j/\j < (behind_3.length:Int)) (
  G ((j).toNat < behind_3.length) (
  G (fits (j+(1:Int))) (
  r33 (j+(1:Int)) (behind_3.set (j).toNat (ior .i64 (ix behind_3 j) (((ix e (ix ((((ix l i).2).2).1) k_1)).2).1)))))))) else
  G (fits (j+(1:Int))) (
  r33 (j+(1:Int)) behind_3)) else
  if x'_9=true then
  zdr l i e k_1 r29 behind_3 x'_9 (ior .i64 x'_10 (((ix e (ix ((((ix l i).2).2).1) k_1)).2).1)) x'_11 else
  zdr l i e k_1 r29 behind_3 x'_9 x'_10 x'_11
def zjK (l:Tp11) (n i:Int) (e:Tp13) (k_1:Int) (x'_9:Bool) (x'_10 x'_11:Int) (r29:(Int->Tp20->Bool->Int->Int->Option Tp2)):(Int×Tp20->Option Tp2)->Int×Tp20->Option Tp2:=
  fun rec x=>zbE l n i e k_1 x'_9 x'_10 x'_11 r29 (fun j behind_3=>rec (j,behind_3)) x.1 x.2
def zbO (l:Tp11) (n i:Int) (e:Tp13) (k_1:Int) (x'_9:Bool) (x'_10 x'_11:Int) (r29:(Int->Tp20->Bool->Int->Int->Option Tp2)) (j:Int) (behind_3:Tp20):Option Tp2:=LFix (zjK l n i e k_1 x'_9 x'_10 x'_11 r29 ) (j,behind_3)
def zb3 (l:Tp11) (n at' i:Int) (sign:Tp20) (e:Tp13) (r6:(Int->Int->Tp20->Tp20->Tp13->Option Tp2)) (r29:Tf10) (k_1:Int) (behind_2:Tp20) (x'_9:Bool) (x'_10 x'_11:Int):Option Tp2:=
  if (decide (k_1 < (((((ix l i).2).2).1).length:Int)))=true then
  G (0<=k_1/\k_1 < (((((ix l i).2).2).1).length:Int)) (
  G (0<=ix ((((ix l i).2).2).1) k_1/\ix ((((ix l i).2).2).1) k_1 < (e.length:Int)) (
  G ((ix ((((ix l i).2).2).1) k_1).toNat < e.length) (
  zbO l n i e k_1 x'_9 x'_10 x'_11 r29 (0:Int) behind_2))) else
  zaS i e r6 at' behind_2 sign x'_9 x'_10 x'_11
def zjJ (l:Tp11) (n at' i:Int) (sign:Tp20) (e:Tp13) (r6:(Int->Int->Tp20->Tp20->Tp13->Option Tp2)):(Int×Tp20×Bool×Int×Int->Option Tp2)->Int×Tp20×Bool×Int×Int->Option Tp2:=
  fun rec x=>zb3 l n at' i sign e r6 (fun k_1 behind_2 x'_9 x'_10 x'_11=>rec (k_1,behind_2,x'_9,x'_10,x'_11)) x.1 x.2.1 x.2.2.1 x.2.2.2.1 x.2.2.2.2
def zch (l:Tp11) (n at' i:Int) (sign:Tp20) (e:Tp13) (r6:(Int->Int->Tp20->Tp20->Tp13->Option Tp2)) (k_1:Int) (behind_2:Tp20) (x'_9:Bool) (x'_10 x'_11:Int):Option Tp2:=LFix (zjJ l n at' i sign e r6 ) (k_1,behind_2,x'_9,x'_10,x'_11)
def zbF (l:Tp11) (n at' i:Int) (sign:Tp20) (e:Tp13) (r6:(Int->Int->Tp20->Tp20->Tp13->Option Tp2)) (r46:Int->Tp20->Option Tp2) (j_1:Int) (behind_5:Tp20):Option Tp2:=
  if (decide (j_1 < n))=true then
  G (0<=j_1) (
  if (decide ((iand .i64 (ishr .i64 ((((ix e (ix ((((ix l i).2).2).1) (0:Int))).2).2).1) j_1) (1:Int))=(1:Int)))=true then
  G (0<=j_1/\j_1 < (behind_5.length:Int)) (
  G ((j_1).toNat < behind_5.length) (
  G (0<=j_1/\j_1 < (behind_5.length:Int)) (
  G ((j_1).toNat < behind_5.length) (
  G (fits (j_1+(1:Int))) (
  r46 (j_1+(1:Int)) (behind_5.set (j_1).toNat (ior .i64 (ix behind_5 j_1) (((ix e (ix ((((ix l i).2).2).1) (0:Int))).2).1)))))))) else
  G (fits (j_1+(1:Int))) (
  r46 (j_1+(1:Int)) behind_5)) else
  zaS i e r6 at' behind_5 sign true (((ix e (ix ((((ix l i).2).2).1) (0:Int))).2).1) ((((ix e (ix ((((ix l i).2).2).1) (0:Int))).2).2).1)
def zjL (l:Tp11) (n at' i:Int) (sign:Tp20) (e:Tp13) (r6:(Int->Int->Tp20->Tp20->Tp13->Option Tp2)):(Int×Tp20->Option Tp2)->Int×Tp20->Option Tp2:=
  fun rec x=>zbF l n at' i sign e r6 (fun j_1 behind_5=>rec (j_1,behind_5)) x.1 x.2
def zbu (l:Tp11) (n at' i:Int) (sign:Tp20) (e:Tp13) (r6:(Int->Int->Tp20->Tp20->Tp13->Option Tp2)) (j_1:Int) (behind_5:Tp20):Option Tp2:=LFix (zjL l n at' i sign e r6 ) (j_1,behind_5)
def za0 (n:Int) (sign:Tp20) (e:Tp13) (j_2:Int) (r55:(Int->Int->Int->Tp20->Tp15->Tp20->Option Tp2)) (from':Int) (r61:Tf7) (k_2 out_5 out_6:Int) (out_7:Tp20) (l_1:Tp15) (l_2:Tp20):Option Tp2:=
  if (decide (k_2 < n))=true then
  G (0<=k_2) (
  if (decide ((iand .i64 (ishr .i64 from' k_2) (1:Int))=(1:Int)))=true then
  G (0<=k_2/\k_2 < (sign.length:Int)) (
  G ((k_2).toNat < sign.length) (
  G (room l_1 ([(j_2,(ix sign k_2,(k_2,())))]) 24) (
  G (fits (k_2+(1:Int))) (
  r61 (k_2+(1:Int)) out_5 out_6 out_7 (l_1++([(j_2,(ix sign k_2,(k_2,())))])) l_2)))) else
  G (fits (k_2+(1:Int))) (
  r61 (k_2+(1:Int)) out_5 out_6 out_7 l_1 l_2)) else
  if (decide (j_2 < n))=true then
  G (0<=j_2) (
  if (decide ((iand .i64 (ishr .i64 ((((ix e ((e.length:Int) - (1:Int))).2).2).1) j_2) (1:Int))=(1:Int)))=true then
  G (room l_2 ([j_2]) 8) (
  G (fits (j_2+(1:Int))) (
  r55 (j_2+(1:Int)) out_5 out_6 out_7 l_1 (l_2++([j_2])))) else
  if (decide (j_2=n))=true then
  if ((ix e ((e.length:Int) - (1:Int))).1)=true then
  G (room l_2 ([j_2]) 8) (
  G (fits (j_2+(1:Int))) (
  r55 (j_2+(1:Int)) out_5 out_6 out_7 l_1 (l_2++([j_2])))) else
  G (fits (j_2+(1:Int))) (
  r55 (j_2+(1:Int)) out_5 out_6 out_7 l_1 l_2) else
  G (fits (j_2+(1:Int))) (
  r55 (j_2+(1:Int)) out_5 out_6 out_7 l_1 l_2)) else
  if (decide (j_2=n))=true then
  if ((ix e ((e.length:Int) - (1:Int))).1)=true then
  G (room l_2 ([j_2]) 8) (
  G (fits (j_2+(1:Int))) (
  r55 (j_2+(1:Int)) out_5 out_6 out_7 l_1 (l_2++([j_2])))) else
  G (fits (j_2+(1:Int))) (
  r55 (j_2+(1:Int)) out_5 out_6 out_7 l_1 l_2) else
  G (fits (j_2+(1:Int))) (
  r55 (j_2+(1:Int)) out_5 out_6 out_7 l_1 l_2)
def zjN (n:Int) (sign:Tp20) (e:Tp13) (j_2:Int) (r55:(Int->Int->Int->Tp20->Tp15->Tp20->Option Tp2)) (from':Int):(Int×Int×Int×Tp20×Tp15×Tp20->Option Tp2)->Int×Int×Int×Tp20×Tp15×Tp20->Option Tp2:=
  fun rec x=>za0 n sign e j_2 r55 from' (fun k_2 out_5 out_6 out_7 l_1 l_2=>rec (k_2,out_5,out_6,out_7,l_1,l_2)) x.1 x.2.1 x.2.2.1 x.2.2.2.1 x.2.2.2.2.1 x.2.2.2.2.2
def zbv (n:Int) (sign:Tp20) (e:Tp13) (j_2:Int) (r55:(Int->Int->Int->Tp20->Tp15->Tp20->Option Tp2)) (from' k_2 out_5 out_6:Int) (out_7:Tp20) (l_1:Tp15) (l_2:Tp20):Option Tp2:=LFix (zjN n sign e j_2 r55 from' ) (k_2,out_5,out_6,out_7,l_1,l_2)
def zdu (n:Int) (sign:Tp20) (e:Tp13) (j_2 out out_1:Int) (out_2:Tp20) (out_3:Tp15) (out_4:Tp20) (r55:(Int->Int->Int->Tp20->Tp15->Tp20->Option Tp2)) (from':Int):Option Tp2:=
  zbv n sign e j_2 r55 from' (0:Int) out out_1 out_2 out_3 out_4
def zb4 (n:Int) (behind sign:Tp20) (e:Tp13) (r55:Tf7) (j_2 out out_1:Int) (out_2:Tp20) (out_3:Tp15) (out_4:Tp20):Option Tp2:=
  if (decide (j_2<=n))=true then
  if (decide (j_2 < n))=true then
  G (0<=j_2/\j_2 < (behind.length:Int)) (
  G ((j_2).toNat < behind.length) (
  zdu n sign e j_2 out out_1 out_2 out_3 out_4 r55 (ix behind j_2))) else
  zdu n sign e j_2 out out_1 out_2 out_3 out_4 r55 (((ix e ((e.length:Int) - (1:Int))).2).1) else
  some (out,(out_1,(out_2,(out_3,(out_4,())))))
def zjM (n:Int) (behind sign:Tp20) (e:Tp13):(Int×Int×Int×Tp20×Tp15×Tp20->Option Tp2)->Int×Int×Int×Tp20×Tp15×Tp20->Option Tp2:=
  fun rec x=>zb4 n behind sign e (fun j_2 out out_1 out_2 out_3 out_4=>rec (j_2,out,out_1,out_2,out_3,out_4)) x.1 x.2.1 x.2.2.1 x.2.2.2.1 x.2.2.2.2.1 x.2.2.2.2.2
def zci (n:Int) (behind sign:Tp20) (e:Tp13) (j_2 out out_1:Int) (out_2:Tp20) (out_3:Tp15) (out_4:Tp20):Option Tp2:=LFix (zjM n behind sign e ) (j_2,out,out_1,out_2,out_3,out_4)
def zbS (letters:Int) (l:Tp11) (n:Int) (r6:Tf9) (at' i:Int) (behind sign:Tp20) (e:Tp13):Option Tp2:=
  if (decide (i < (l.length:Int)))=true then
  G (0<=i/\i < (l.length:Int)) (
  if (decide (((ix l i).1)=(1:Int)))=true then
  zaS i e r6 at' behind sign true (0:Int) (0:Int) else
  if (decide (((ix l i).1)=(2:Int)))=true then
  G (0<=at'/\at' < (sign.length:Int)) (
  G ((at').toNat < sign.length) (
  G (0<=at') (
  G (0<=at') (
  G (fits (at'+(1:Int))) (
  zaS i e r6 (at'+(1:Int)) behind (sign.set (at').toNat (((ix l i).2).1)) false (ishl .i64 (1:Int) at') (ishl .i64 (1:Int) at')))))) else
  if (decide (((ix l i).1)=(3:Int)))=true then
  zcK l at' i behind sign e r6 (0:Int) false (0:Int) (0:Int) else
  if (decide (((ix l i).1)=(4:Int)))=true then
  zch l n at' i sign e r6 (0:Int) behind true (0:Int) (0:Int) else
  if (decide (((ix l i).1)=(5:Int)))=true then
  G (0<=(0:Int)/\(0:Int) < (((((ix l i).2).2).1).length:Int)) (
  G (0<=ix ((((ix l i).2).2).1) (0:Int)/\ix ((((ix l i).2).2).1) (0:Int) < (e.length:Int)) (
  G ((ix ((((ix l i).2).2).1) (0:Int)).toNat < e.length) (
  zbu l n at' i sign e r6 (0:Int) behind))) else
  zaS i e r6 at' behind sign false (0:Int) (0:Int)) else
  G (fits ((e.length:Int) - (1:Int))) (
  G (0<=(e.length:Int) - (1:Int)/\(e.length:Int) - (1:Int) < (e.length:Int)) (
  G (((e.length:Int) - (1:Int)).toNat < e.length) (
  G (fits (n+(1:Int))) (
  zci n behind sign e (0:Int) letters (n+(1:Int)) ([n]) ([]:List Tp17) ([]:List Int)))))
def zkM (letters:Int) (l:Tp11) (n:Int):(Int×Int×Tp20×Tp20×Tp13->Option Tp2)->Int×Int×Tp20×Tp20×Tp13->Option Tp2:=
  fun rec x=>zbS letters l n (fun at' i behind sign e=>rec (at',i,behind,sign,e)) x.1 x.2.1 x.2.2.1 x.2.2.2.1 x.2.2.2.2
def za7 (letters:Int) (l:Tp11) (n at' i:Int) (behind sign:Tp20) (e:Tp13):Option Tp2:=LFix (zkM letters l n ) (at',i,behind,sign,e)
def zly (letters:Int) (l:Tp11) (n:Int):Option Tp2:=
  G (mkOK n n 8) (
  G (mkOK n n 8) (
  za7 letters l n (0:Int) (0:Int) (List.replicate (n).toNat (0:Int)) (List.replicate (n).toNat (0:Int)) ([])))
theorem zdV (r6:Nat->Tf9) (r6':Tf9) (h_r6:∀ a0 a1 a2 a3 a4,ChO (fun κ=>r6 κ a0 a1 a2 a3 a4) (r6' a0 a1 a2 a3 a4)) (i e at'_1 behind_1 sign_1 x' x'_1 x'_2):ChO (fun κ=>zaS i e (r6 κ) at'_1 behind_1 sign_1 x' x'_1 x'_2) (zaS i e r6' at'_1 behind_1 sign_1 x' x'_1 x'_2):=by
  unfold zaS
  repeat' with_reducible first | exact ChO.const _ | exact h_r6 _ _ _ _ _ | apply ChO.G
theorem zom (r20:Nat->Tf14) (r20':Tf14) (h_r20:∀ a0 a1 a2 a3,ChO (fun κ=>r20 κ a0 a1 a2 a3) (r20' a0 a1 a2 a3)) (l i e k x'_6 x'_7 x'_8):ChO (fun κ=>zdq l i e k (r20 κ) x'_6 x'_7 x'_8) (zdq l i e k r20' x'_6 x'_7 x'_8):=by
  unfold zdq
  repeat' with_reducible first | exact ChO.const _ | exact h_r20 _ _ _ _ | apply ChO.G
theorem zgU (r6:Nat->Tf9) (r6':Tf9) (h_r6:∀ a0 a1 a2 a3 a4,ChO (fun κ=>r6 κ a0 a1 a2 a3 a4) (r6' a0 a1 a2 a3 a4)) (r20:Nat->Tf14) (r20':Tf14) (h_r20:∀ a0 a1 a2 a3,ChO (fun κ=>r20 κ a0 a1 a2 a3) (r20' a0 a1 a2 a3)) (l at' i behind sign e k x'_3 x'_4 x'_5):ChO (fun κ=>zb2 l at' i behind sign e (r6 κ) (r20 κ) k x'_3 x'_4 x'_5) (zb2 l at' i behind sign e r6' r20' k x'_3 x'_4 x'_5):=by
  unfold zb2
  repeat' with_reducible first | exact ChO.const _ | exact h_r6 _ _ _ _ _ | exact h_r20 _ _ _ _ | (apply zdV<;>assumption) | (apply zom<;>assumption) | apply ChO.ite | apply ChO.G
theorem zfw (r6 l at' i behind sign e):Cn (zjI l at' i behind sign e r6):=fun g h hg x=>zgU (fun _=>r6) r6 (fun _ _ _ _ _=>ChO.const _) _ _ (fun a0 a1 a2 a3=>hg (a0,a1,a2,a3)) l at' i behind sign e x.1 x.2.1 x.2.2.1 x.2.2.2
theorem ziB (r6 l at' i behind sign e k x'_3 x'_4 x'_5):zcK l at' i behind sign e r6 k x'_3 x'_4 x'_5=zb2 l at' i behind sign e r6 (zcK l at' i behind sign e r6) k x'_3 x'_4 x'_5:=zax (zfw r6 l at' i behind sign e) (k,x'_3,x'_4,x'_5)
theorem zor (r6:Nat->Tf9) (r6':Tf9) (h_r6:∀ a0 a1 a2 a3 a4,ChO (fun κ=>r6 κ a0 a1 a2 a3 a4) (r6' a0 a1 a2 a3 a4)) (l at' i behind sign e k x'_3 x'_4 x'_5):ChO (fun κ=>zcK l at' i behind sign e (r6 κ) k x'_3 x'_4 x'_5) (zcK l at' i behind sign e r6' k x'_3 x'_4 x'_5):=by
  unfold zcK
  exact zbH (fun κ=>(zfw (r6 κ) l at' i behind sign e).mono) (zfw r6' l at' i behind sign e).mono (fun g h hg x=>zgU r6 r6' h_r6 _ _ (fun a0 a1 a2 a3=>hg (a0,a1,a2,a3)) l at' i behind sign e x.1 x.2.1 x.2.2.1 x.2.2.2) _
theorem zop (r29:Nat->Tf10) (r29':Tf10) (h_r29:∀ a0 a1 a2 a3 a4,ChO (fun κ=>r29 κ a0 a1 a2 a3 a4) (r29' a0 a1 a2 a3 a4)) (k_1 behind_4 x'_18 x'_19 x'_20):ChO (fun κ=>zdt k_1 (r29 κ) behind_4 x'_18 x'_19 x'_20) (zdt k_1 r29' behind_4 x'_18 x'_19 x'_20):=by
  unfold zdt
  repeat' with_reducible first | exact ChO.const _ | exact h_r29 _ _ _ _ _ | apply ChO.G
theorem zoo (r29:Nat->Tf10) (r29':Tf10) (h_r29:∀ a0 a1 a2 a3 a4,ChO (fun κ=>r29 κ a0 a1 a2 a3 a4) (r29' a0 a1 a2 a3 a4)) (l i e k_1 behind_3 x'_15 x'_16 x'_17):ChO (fun κ=>zds l i e k_1 (r29 κ) behind_3 x'_15 x'_16 x'_17) (zds l i e k_1 r29' behind_3 x'_15 x'_16 x'_17):=by
  unfold zds
  repeat' with_reducible first | exact ChO.const _ | exact h_r29 _ _ _ _ _ | (apply zop<;>assumption) | apply ChO.ite
theorem zon (r29:Nat->Tf10) (r29':Tf10) (h_r29:∀ a0 a1 a2 a3 a4,ChO (fun κ=>r29 κ a0 a1 a2 a3 a4) (r29' a0 a1 a2 a3 a4)) (l i e k_1 behind_3 x'_12 x'_13 x'_14):ChO (fun κ=>zdr l i e k_1 (r29 κ) behind_3 x'_12 x'_13 x'_14) (zdr l i e k_1 r29' behind_3 x'_12 x'_13 x'_14):=by
  unfold zdr
  repeat' with_reducible first | exact ChO.const _ | exact h_r29 _ _ _ _ _ | (apply zoo<;>assumption) | apply ChO.ite
theorem zgW (r29:Nat->Tf10) (r29':Tf10) (h_r29:∀ a0 a1 a2 a3 a4,ChO (fun κ=>r29 κ a0 a1 a2 a3 a4) (r29' a0 a1 a2 a3 a4)) (r33:Nat->Int->Tp20->Option Tp2) (r33':Int->Tp20->Option Tp2) (h_r33:∀ a0 a1,ChO (fun κ=>r33 κ a0 a1) (r33' a0 a1)) (l n i e k_1 x'_9 x'_10 x'_11 j behind_3):ChO (fun κ=>zbE l n i e k_1 x'_9 x'_10 x'_11 (r29 κ) (r33 κ) j behind_3) (zbE l n i e k_1 x'_9 x'_10 x'_11 r29' r33' j behind_3):=by
  unfold zbE
  repeat' with_reducible first | exact ChO.const _ | exact h_r29 _ _ _ _ _ | exact h_r33 _ _ | (apply zon<;>assumption) | apply ChO.ite | apply ChO.G
theorem zfy (r29 l n i e k_1 x'_9 x'_10 x'_11):Cn (zjK l n i e k_1 x'_9 x'_10 x'_11 r29):=fun g h hg x=>zgW (fun _=>r29) r29 (fun _ _ _ _ _=>ChO.const _) _ _ (fun a0 a1=>hg (a0,a1)) l n i e k_1 x'_9 x'_10 x'_11 x.1 x.2
theorem zfz (r29 l n i e k_1 x'_9 x'_10 x'_11 j behind_3):zbO l n i e k_1 x'_9 x'_10 x'_11 r29 j behind_3=zbE l n i e k_1 x'_9 x'_10 x'_11 r29 (zbO l n i e k_1 x'_9 x'_10 x'_11 r29) j behind_3:=zax (zfy r29 l n i e k_1 x'_9 x'_10 x'_11) (j,behind_3)
theorem zot (r29:Nat->Tf10) (r29':Tf10) (h_r29:∀ a0 a1 a2 a3 a4,ChO (fun κ=>r29 κ a0 a1 a2 a3 a4) (r29' a0 a1 a2 a3 a4)) (l n i e k_1 x'_9 x'_10 x'_11 j behind_3):ChO (fun κ=>zbO l n i e k_1 x'_9 x'_10 x'_11 (r29 κ) j behind_3) (zbO l n i e k_1 x'_9 x'_10 x'_11 r29' j behind_3):=by
  unfold zbO
  exact zbH (fun κ=>(zfy (r29 κ) l n i e k_1 x'_9 x'_10 x'_11).mono) (zfy r29' l n i e k_1 x'_9 x'_10 x'_11).mono (fun g h hg x=>zgW r29 r29' h_r29 _ _ (fun a0 a1=>hg (a0,a1)) l n i e k_1 x'_9 x'_10 x'_11 x.1 x.2) _
theorem zgV (r6:Nat->Tf9) (r6':Tf9) (h_r6:∀ a0 a1 a2 a3 a4,ChO (fun κ=>r6 κ a0 a1 a2 a3 a4) (r6' a0 a1 a2 a3 a4)) (r29:Nat->Tf10) (r29':Tf10) (h_r29:∀ a0 a1 a2 a3 a4,ChO (fun κ=>r29 κ a0 a1 a2 a3 a4) (r29' a0 a1 a2 a3 a4)) (l n at' i sign e k_1 behind_2 x'_9 x'_10 x'_11):ChO (fun κ=>zb3 l n at' i sign e (r6 κ) (r29 κ) k_1 behind_2 x'_9 x'_10 x'_11) (zb3 l n at' i sign e r6' r29' k_1 behind_2 x'_9 x'_10 x'_11):=by
  unfold zb3
  repeat' with_reducible first | exact ChO.const _ | exact h_r6 _ _ _ _ _ | exact h_r29 _ _ _ _ _ | (apply zdV<;>assumption) | (apply zot<;>assumption) | apply ChO.ite | apply ChO.G
theorem zfx (r6 l n at' i sign e):Cn (zjJ l n at' i sign e r6):=fun g h hg x=>zgV (fun _=>r6) r6 (fun _ _ _ _ _=>ChO.const _) _ _ (fun a0 a1 a2 a3 a4=>hg (a0,a1,a2,a3,a4)) l n at' i sign e x.1 x.2.1 x.2.2.1 x.2.2.2.1 x.2.2.2.2
theorem ziC (r6 l n at' i sign e k_1 behind_2 x'_9 x'_10 x'_11):zch l n at' i sign e r6 k_1 behind_2 x'_9 x'_10 x'_11=zb3 l n at' i sign e r6 (zch l n at' i sign e r6) k_1 behind_2 x'_9 x'_10 x'_11:=zax (zfx r6 l n at' i sign e) (k_1,behind_2,x'_9,x'_10,x'_11)
theorem zos (r6:Nat->Tf9) (r6':Tf9) (h_r6:∀ a0 a1 a2 a3 a4,ChO (fun κ=>r6 κ a0 a1 a2 a3 a4) (r6' a0 a1 a2 a3 a4)) (l n at' i sign e k_1 behind_2 x'_9 x'_10 x'_11):ChO (fun κ=>zch l n at' i sign e (r6 κ) k_1 behind_2 x'_9 x'_10 x'_11) (zch l n at' i sign e r6' k_1 behind_2 x'_9 x'_10 x'_11):=by
  unfold zch
  exact zbH (fun κ=>(zfx (r6 κ) l n at' i sign e).mono) (zfx r6' l n at' i sign e).mono (fun g h hg x=>zgV r6 r6' h_r6 _ _ (fun a0 a1 a2 a3 a4=>hg (a0,a1,a2,a3,a4)) l n at' i sign e x.1 x.2.1 x.2.2.1 x.2.2.2.1 x.2.2.2.2) _
theorem zgX (r6:Nat->Tf9) (r6':Tf9) (h_r6:∀ a0 a1 a2 a3 a4,ChO (fun κ=>r6 κ a0 a1 a2 a3 a4) (r6' a0 a1 a2 a3 a4)) (r46:Nat->Int->Tp20->Option Tp2) (r46':Int->Tp20->Option Tp2) (h_r46:∀ a0 a1,ChO (fun κ=>r46 κ a0 a1) (r46' a0 a1)) (l n at' i sign e j_1 behind_5):ChO (fun κ=>zbF l n at' i sign e (r6 κ) (r46 κ) j_1 behind_5) (zbF l n at' i sign e r6' r46' j_1 behind_5):=by
  unfold zbF
  repeat' with_reducible first | exact ChO.const _ | exact h_r6 _ _ _ _ _ | exact h_r46 _ _ | (apply zdV<;>assumption) | apply ChO.ite | apply ChO.G
theorem zfA (r6 l n at' i sign e):Cn (zjL l n at' i sign e r6):=fun g h hg x=>zgX (fun _=>r6) r6 (fun _ _ _ _ _=>ChO.const _) _ _ (fun a0 a1=>hg (a0,a1)) l n at' i sign e x.1 x.2
theorem zfB (r6 l n at' i sign e j_1 behind_5):zbu l n at' i sign e r6 j_1 behind_5=zbF l n at' i sign e r6 (zbu l n at' i sign e r6) j_1 behind_5:=zax (zfA r6 l n at' i sign e) (j_1,behind_5)
theorem zou (r6:Nat->Tf9) (r6':Tf9) (h_r6:∀ a0 a1 a2 a3 a4,ChO (fun κ=>r6 κ a0 a1 a2 a3 a4) (r6' a0 a1 a2 a3 a4)) (l n at' i sign e j_1 behind_5):ChO (fun κ=>zbu l n at' i sign e (r6 κ) j_1 behind_5) (zbu l n at' i sign e r6' j_1 behind_5):=by
  unfold zbu
  exact zbH (fun κ=>(zfA (r6 κ) l n at' i sign e).mono) (zfA r6' l n at' i sign e).mono (fun g h hg x=>zgX r6 r6' h_r6 _ _ (fun a0 a1=>hg (a0,a1)) l n at' i sign e x.1 x.2) _
theorem zgY (r55:Nat->Tf7) (r55':Tf7) (h_r55:∀ a0 a1 a2 a3 a4 a5,ChO (fun κ=>r55 κ a0 a1 a2 a3 a4 a5) (r55' a0 a1 a2 a3 a4 a5)) (r61:Nat->Tf7) (r61':Tf7) (h_r61:∀ a0 a1 a2 a3 a4 a5,ChO (fun κ=>r61 κ a0 a1 a2 a3 a4 a5) (r61' a0 a1 a2 a3 a4 a5)) (n sign e j_2 from' k_2 out_5 out_6 out_7 l_1 l_2):ChO (fun κ=>za0 n sign e j_2 (r55 κ) from' (r61 κ) k_2 out_5 out_6 out_7 l_1 l_2) (za0 n sign e j_2 r55' from' r61' k_2 out_5 out_6 out_7 l_1 l_2):=by
  unfold za0
  repeat' with_reducible first | exact ChO.const _ | exact h_r55 _ _ _ _ _ _ | exact h_r61 _ _ _ _ _ _ | apply ChO.ite | apply ChO.G
theorem zfC (r55 n sign e j_2 from'):Cn (zjN n sign e j_2 r55 from'):=fun g h hg x=>zgY (fun _=>r55) r55 (fun _ _ _ _ _ _=>ChO.const _) _ _ (fun a0 a1 a2 a3 a4 a5=>hg (a0,a1,a2,a3,a4,a5)) n sign e j_2 from' x.1 x.2.1 x.2.2.1 x.2.2.2.1 x.2.2.2.2.1 x.2.2.2.2.2
theorem zco (r55 n sign e j_2 from' k_2 out_5 out_6 out_7 l_1 l_2):zbv n sign e j_2 r55 from' k_2 out_5 out_6 out_7 l_1 l_2=za0 n sign e j_2 r55 from' (zbv n sign e j_2 r55 from') k_2 out_5 out_6 out_7 l_1 l_2:=zax (zfC r55 n sign e j_2 from') (k_2,out_5,out_6,out_7,l_1,l_2)
theorem zow (r55:Nat->Tf7) (r55':Tf7) (h_r55:∀ a0 a1 a2 a3 a4 a5,ChO (fun κ=>r55 κ a0 a1 a2 a3 a4 a5) (r55' a0 a1 a2 a3 a4 a5)) (n sign e j_2 from' k_2 out_5 out_6 out_7 l_1 l_2):ChO (fun κ=>zbv n sign e j_2 (r55 κ) from' k_2 out_5 out_6 out_7 l_1 l_2) (zbv n sign e j_2 r55' from' k_2 out_5 out_6 out_7 l_1 l_2):=by
  unfold zbv
  exact zbH (fun κ=>(zfC (r55 κ) n sign e j_2 from').mono) (zfC r55' n sign e j_2 from').mono (fun g h hg x=>zgY r55 r55' h_r55 _ _ (fun a0 a1 a2 a3 a4 a5=>hg (a0,a1,a2,a3,a4,a5)) n sign e j_2 from' x.1 x.2.1 x.2.2.1 x.2.2.2.1 x.2.2.2.2.1 x.2.2.2.2.2) _
theorem zoq (r55:Nat->Tf7) (r55':Tf7) (h_r55:∀ a0 a1 a2 a3 a4 a5,ChO (fun κ=>r55 κ a0 a1 a2 a3 a4 a5) (r55' a0 a1 a2 a3 a4 a5)) (n sign e j_2 out out_1 out_2 out_3 out_4 from'):ChO (fun κ=>zdu n sign e j_2 out out_1 out_2 out_3 out_4 (r55 κ) from') (zdu n sign e j_2 out out_1 out_2 out_3 out_4 r55' from'):=by
  unfold zdu
  repeat' with_reducible first | exact ChO.const _ | exact h_r55 _ _ _ _ _ _ | (apply zow<;>assumption)
theorem zmB (r55:Nat->Tf7) (r55':Tf7) (h_r55:∀ a0 a1 a2 a3 a4 a5,ChO (fun κ=>r55 κ a0 a1 a2 a3 a4 a5) (r55' a0 a1 a2 a3 a4 a5)) (n behind sign e j_2 out out_1 out_2 out_3 out_4):ChO (fun κ=>zb4 n behind sign e (r55 κ) j_2 out out_1 out_2 out_3 out_4) (zb4 n behind sign e r55' j_2 out out_1 out_2 out_3 out_4):=by
  unfold zb4
  repeat' with_reducible first | exact ChO.const _ | exact h_r55 _ _ _ _ _ _ | (apply zoq<;>assumption) | apply ChO.ite | apply ChO.G
theorem zov (n behind sign e):Cn (zjM n behind sign e):=fun g h hg x=>zmB  _ _ (fun a0 a1 a2 a3 a4 a5=>hg (a0,a1,a2,a3,a4,a5)) n behind sign e x.1 x.2.1 x.2.2.1 x.2.2.2.1 x.2.2.2.2.1 x.2.2.2.2.2
theorem ziD (n behind sign e j_2 out out_1 out_2 out_3 out_4):zci n behind sign e j_2 out out_1 out_2 out_3 out_4=zb4 n behind sign e (zci n behind sign e) j_2 out out_1 out_2 out_3 out_4:=zax (zov n behind sign e) (j_2,out,out_1,out_2,out_3,out_4)
theorem znq (r6:Nat->Tf9) (r6':Tf9) (h_r6:∀ a0 a1 a2 a3 a4,ChO (fun κ=>r6 κ a0 a1 a2 a3 a4) (r6' a0 a1 a2 a3 a4)) (letters l n at' i behind sign e):ChO (fun κ=>zbS letters l n (r6 κ) at' i behind sign e) (zbS letters l n r6' at' i behind sign e):=by
  unfold zbS
  repeat' with_reducible first | exact ChO.const _ | exact h_r6 _ _ _ _ _ | (apply zdV<;>assumption) | (apply zor<;>assumption) | (apply zos<;>assumption) | (apply zou<;>assumption) | apply ChO.ite | apply ChO.G
theorem zpr (letters l n):Cn (zkM letters l n):=fun g h hg x=>znq  _ _ (fun a0 a1 a2 a3 a4=>hg (a0,a1,a2,a3,a4)) letters l n x.1 x.2.1 x.2.2.1 x.2.2.2.1 x.2.2.2.2
theorem zjO (letters l n at' i behind sign e):za7 letters l n at' i behind sign e=zbS letters l n (za7 letters l n) at' i behind sign e:=zax (zpr letters l n) (at',i,behind,sign,e)

def zcR (q:Int) (next':Tp20) (r7:(Int->Int->Tp20->Tp20->Option Tp20)) (k_1 n_1:Int) (first_1:Tp20):Option Tp20:=
  G (0<=q/\q < (next'.length:Int)) (
  G ((q).toNat < next'.length) (
  G (fits (q+(1:Int))) (
  r7 n_1 (q+(1:Int)) (next'.set (q).toNat k_1) first_1)))
def zbQ (n q:Int) (next' first:Tp20) (r7:(Int->Int->Tp20->Tp20->Option Tp20)) (k_1:Int):Option Tp20:=
  if (decide (k_1=n))=true then
  G (room first ([q]) 8) (
  G (fits (n+(1:Int))) (
  zcR q next' r7 k_1 (n+(1:Int)) (first++([q])))) else
  zcR q next' r7 k_1 n first
def zck (n q:Int) (next' first:Tp20) (r7:(Int->Int->Tp20->Tp20->Option Tp20)) (k:Int) (r10:(Int->Option Tp20)) (same_1:Bool):Option Tp20:=
  if same_1=true then
  zbQ n q next' first r7 k else
  G (fits (k+(1:Int))) (
  r10 (k+(1:Int)))
def zbG (d:Tp7) (class':Tp20) (n q:Int) (next' first:Tp20) (r7:(Int->Int->Tp20->Tp20->Option Tp20)) (k:Int) (r10:(Int->Option Tp20)) (r14:Bool->Int->Option Tp20) (same:Bool) (a:Int):Option Tp20:=
  if (decide (a < d.1))=true then
  if same=true then
  G (0<=ix first k/\ix first k < (d.2.2.1.length:Int)) (
  G (0<=a/\a < ((ix d.2.2.1 (ix first k)).length:Int)) (
  G (0<=ix (ix d.2.2.1 (ix first k)) a/\ix (ix d.2.2.1 (ix first k)) a < (class'.length:Int)) (
  G ((ix (ix d.2.2.1 (ix first k)) a).toNat < class'.length) (
  G (0<=q/\q < (d.2.2.1.length:Int)) (
  G (0<=a/\a < ((ix d.2.2.1 q).length:Int)) (
  G (0<=ix (ix d.2.2.1 q) a/\ix (ix d.2.2.1 q) a < (class'.length:Int)) (
  G ((ix (ix d.2.2.1 q) a).toNat < class'.length) (
  G (fits (a+(1:Int))) (
  r14 (decide ((ix class' (ix (ix d.2.2.1 (ix first k)) a))=(ix class' (ix (ix d.2.2.1 q) a)))) (a+(1:Int))))))))))) else
  zck n q next' first r7 k r10 same else
  zck n q next' first r7 k r10 same
def zj2 (d:Tp7) (class':Tp20) (n q:Int) (next' first:Tp20) (r7:(Int->Int->Tp20->Tp20->Option Tp20)) (k:Int) (r10:(Int->Option Tp20)):(Bool×Int->Option Tp20)->Bool×Int->Option Tp20:=
  fun rec x=>zbG d class' n q next' first r7 k r10 (fun same a=>rec (same,a)) x.1 x.2
def zcl (d:Tp7) (class':Tp20) (n q:Int) (next' first:Tp20) (r7:(Int->Int->Tp20->Tp20->Option Tp20)) (k:Int) (r10:(Int->Option Tp20)) (same:Bool) (a:Int):Option Tp20:=LFix (zj2 d class' n q next' first r7 k r10 ) (same,a)
def zb5 (d:Tp7) (class':Tp20) (n q:Int) (next' first:Tp20) (r7:(Int->Int->Tp20->Tp20->Option Tp20)) (r10:Int->Option Tp20) (k:Int):Option Tp20:=
  if (decide (k < n))=true then
  G (0<=k/\k < (first.length:Int)) (
  G ((k).toNat < first.length) (
  G (0<=ix first k/\ix first k < (class'.length:Int)) (
  G ((ix first k).toNat < class'.length) (
  G (0<=q/\q < (class'.length:Int)) (
  G ((q).toNat < class'.length) (
  zcl d class' n q next' first r7 k r10 (decide ((ix class' (ix first k))=(ix class' q))) (0:Int))))))) else
  zbQ n q next' first r7 k
def zj1 (d:Tp7) (class':Tp20) (n q:Int) (next' first:Tp20) (r7:(Int->Int->Tp20->Tp20->Option Tp20)):(Int->Option Tp20)->Int->Option Tp20:=
  fun rec x=>zb5 d class' n q next' first r7 (fun k=>rec k) x
def zbR (d:Tp7) (class':Tp20) (n q:Int) (next' first:Tp20) (r7:(Int->Int->Tp20->Tp20->Option Tp20)) (k:Int):Option Tp20:=LFix (zj1 d class' n q next' first r7 ) k
def zcs (d:Tp7) (count:Int) (class':Tp20) (r3:(Int->Tp20->Option Tp20)) (r7:Tf12) (n q:Int) (next' first:Tp20):Option Tp20:=
  if (decide (q < (class'.length:Int)))=true then
  zbR d class' n q next' first r7 (0:Int) else
  if (decide (n=count))=true then
  some next' else
  r3 n next'
def zkV (d:Tp7) (count:Int) (class':Tp20) (r3:(Int->Tp20->Option Tp20)):(Int×Int×Tp20×Tp20->Option Tp20)->Int×Int×Tp20×Tp20->Option Tp20:=
  fun rec x=>zcs d count class' r3 (fun n q next' first=>rec (n,q,next',first)) x.1 x.2.1 x.2.2.1 x.2.2.2
def zcD (d:Tp7) (count:Int) (class':Tp20) (r3:(Int->Tp20->Option Tp20)) (n q:Int) (next' first:Tp20):Option Tp20:=LFix (zkV d count class' r3 ) (n,q,next',first)
def zcZ (d:Tp7) (r3:Int->Tp20->Option Tp20) (count:Int) (class':Tp20):Option Tp20:=
  G (mkOK (class'.length:Int) (class'.length:Int) 8) (
  zcD d count class' r3 (0:Int) (0:Int) (List.replicate ((class'.length:Int)).toNat (0:Int)) ([]))
def zkU (d:Tp7):(Int×Tp20->Option Tp20)->Int×Tp20->Option Tp20:=
  fun rec x=>zcZ d (fun count class'=>rec (count,class')) x.1 x.2
def zdX (d:Tp7) (count:Int) (class':Tp20):Option Tp20:=LFix (zkU d ) (count,class')
def zlA (d:Tp7):Option Tp20:=
  G (room ([]:List Int) d.2.2.2.1 8) (
  zdX d (0:Int) (([]:List Int)++d.2.2.2.1))
theorem zoD (r7:Nat->Tf12) (r7':Tf12) (h_r7:∀ a0 a1 a2 a3,ChO (fun κ=>r7 κ a0 a1 a2 a3) (r7' a0 a1 a2 a3)) (q next' k_1 n_1 first_1):ChO (fun κ=>zcR q next' (r7 κ) k_1 n_1 first_1) (zcR q next' r7' k_1 n_1 first_1):=by
  unfold zcR
  repeat' with_reducible first | exact ChO.const _ | exact h_r7 _ _ _ _ | apply ChO.G
theorem ziR (r7:Nat->Tf12) (r7':Tf12) (h_r7:∀ a0 a1 a2 a3,ChO (fun κ=>r7 κ a0 a1 a2 a3) (r7' a0 a1 a2 a3)) (n q next' first k_1):ChO (fun κ=>zbQ n q next' first (r7 κ) k_1) (zbQ n q next' first r7' k_1):=by
  unfold zbQ
  repeat' with_reducible first | exact ChO.const _ | exact h_r7 _ _ _ _ | (apply zoD<;>assumption) | apply ChO.ite | apply ChO.G
theorem zoC (r7:Nat->Tf12) (r7':Tf12) (h_r7:∀ a0 a1 a2 a3,ChO (fun κ=>r7 κ a0 a1 a2 a3) (r7' a0 a1 a2 a3)) (r10:Nat->Int->Option Tp20) (r10':Int->Option Tp20) (h_r10:∀ a0,ChO (fun κ=>r10 κ a0) (r10' a0)) (n q next' first k same_1):ChO (fun κ=>zck n q next' first (r7 κ) k (r10 κ) same_1) (zck n q next' first r7' k r10' same_1):=by
  unfold zck
  repeat' with_reducible first | exact ChO.const _ | exact h_r7 _ _ _ _ | exact h_r10 _ | (apply ziR<;>assumption) | apply ChO.ite | apply ChO.G
theorem zg4 (r7:Nat->Tf12) (r7':Tf12) (h_r7:∀ a0 a1 a2 a3,ChO (fun κ=>r7 κ a0 a1 a2 a3) (r7' a0 a1 a2 a3)) (r10:Nat->Int->Option Tp20) (r10':Int->Option Tp20) (h_r10:∀ a0,ChO (fun κ=>r10 κ a0) (r10' a0)) (r14:Nat->Bool->Int->Option Tp20) (r14':Bool->Int->Option Tp20) (h_r14:∀ a0 a1,ChO (fun κ=>r14 κ a0 a1) (r14' a0 a1)) (d class' n q next' first k same a):ChO (fun κ=>zbG d class' n q next' first (r7 κ) k (r10 κ) (r14 κ) same a) (zbG d class' n q next' first r7' k r10' r14' same a):=by
  unfold zbG
  repeat' with_reducible first | exact ChO.const _ | exact h_r7 _ _ _ _ | exact h_r10 _ | exact h_r14 _ _ | (apply zoC<;>assumption) | apply ChO.ite | apply ChO.G
theorem zfG (r7 r10 d class' n q next' first k):Cn (zj2 d class' n q next' first r7 k r10):=fun g h hg x=>zg4 (fun _=>r7) r7 (fun _ _ _ _=>ChO.const _) (fun _=>r10) r10 (fun _=>ChO.const _) _ _ (fun a0 a1=>hg (a0,a1)) d class' n q next' first k x.1 x.2
theorem zfH (r7 r10 d class' n q next' first k same a):zcl d class' n q next' first r7 k r10 same a=zbG d class' n q next' first r7 k r10 (zcl d class' n q next' first r7 k r10) same a:=zax (zfG r7 r10 d class' n q next' first k) (same,a)
theorem zoF (r7:Nat->Tf12) (r7':Tf12) (h_r7:∀ a0 a1 a2 a3,ChO (fun κ=>r7 κ a0 a1 a2 a3) (r7' a0 a1 a2 a3)) (r10:Nat->Int->Option Tp20) (r10':Int->Option Tp20) (h_r10:∀ a0,ChO (fun κ=>r10 κ a0) (r10' a0)) (d class' n q next' first k same a):ChO (fun κ=>zcl d class' n q next' first (r7 κ) k (r10 κ) same a) (zcl d class' n q next' first r7' k r10' same a):=by
  unfold zcl
  exact zbH (fun κ=>(zfG (r7 κ) (r10 κ) d class' n q next' first k).mono) (zfG r7' r10' d class' n q next' first k).mono (fun g h hg x=>zg4 r7 r7' h_r7 r10 r10' h_r10 _ _ (fun a0 a1=>hg (a0,a1)) d class' n q next' first k x.1 x.2) _
theorem zg3 (r7:Nat->Tf12) (r7':Tf12) (h_r7:∀ a0 a1 a2 a3,ChO (fun κ=>r7 κ a0 a1 a2 a3) (r7' a0 a1 a2 a3)) (r10:Nat->Int->Option Tp20) (r10':Int->Option Tp20) (h_r10:∀ a0,ChO (fun κ=>r10 κ a0) (r10' a0)) (d class' n q next' first k):ChO (fun κ=>zb5 d class' n q next' first (r7 κ) (r10 κ) k) (zb5 d class' n q next' first r7' r10' k):=by
  unfold zb5
  repeat' with_reducible first | exact ChO.const _ | exact h_r7 _ _ _ _ | exact h_r10 _ | (apply ziR<;>assumption) | (apply zoF<;>assumption) | apply ChO.ite | apply ChO.G
theorem zfF (r7 d class' n q next' first):Cn (zj1 d class' n q next' first r7):=fun g h hg x=>zg3 (fun _=>r7) r7 (fun _ _ _ _=>ChO.const _) _ _ (fun a=>hg a) d class' n q next' first x
theorem ziS (r7 d class' n q next' first k):zbR d class' n q next' first r7 k=zb5 d class' n q next' first r7 (zbR d class' n q next' first r7) k:=zax (zfF r7 d class' n q next' first) k
theorem zoE (r7:Nat->Tf12) (r7':Tf12) (h_r7:∀ a0 a1 a2 a3,ChO (fun κ=>r7 κ a0 a1 a2 a3) (r7' a0 a1 a2 a3)) (d class' n q next' first k):ChO (fun κ=>zbR d class' n q next' first (r7 κ) k) (zbR d class' n q next' first r7' k):=by
  unfold zbR
  exact zbH (fun κ=>(zfF (r7 κ) d class' n q next' first).mono) (zfF r7' d class' n q next' first).mono (fun g h hg x=>zg3 r7 r7' h_r7 _ _ (fun a=>hg a) d class' n q next' first x) _
theorem zhN (r3:Nat->Int->Tp20->Option Tp20) (r3':Int->Tp20->Option Tp20) (h_r3:∀ a0 a1,ChO (fun κ=>r3 κ a0 a1) (r3' a0 a1)) (r7:Nat->Tf12) (r7':Tf12) (h_r7:∀ a0 a1 a2 a3,ChO (fun κ=>r7 κ a0 a1 a2 a3) (r7' a0 a1 a2 a3)) (d count class' n q next' first):ChO (fun κ=>zcs d count class' (r3 κ) (r7 κ) n q next' first) (zcs d count class' r3' r7' n q next' first):=by
  unfold zcs
  repeat' with_reducible first | exact ChO.const _ | exact h_r3 _ _ | exact h_r7 _ _ _ _ | (apply zoE<;>assumption) | apply ChO.ite
theorem zgk (r3 d count class'):Cn (zkV d count class' r3):=fun g h hg x=>zhN (fun _=>r3) r3 (fun _ _=>ChO.const _) _ _ (fun a0 a1 a2 a3=>hg (a0,a1,a2,a3)) d count class' x.1 x.2.1 x.2.2.1 x.2.2.2
theorem zj3 (r3 d count class' n q next' first):zcD d count class' r3 n q next' first=zcs d count class' r3 (zcD d count class' r3) n q next' first:=zax (zgk r3 d count class') (n,q,next',first)
theorem zpz (r3:Nat->Int->Tp20->Option Tp20) (r3':Int->Tp20->Option Tp20) (h_r3:∀ a0 a1,ChO (fun κ=>r3 κ a0 a1) (r3' a0 a1)) (d count class' n q next' first):ChO (fun κ=>zcD d count class' (r3 κ) n q next' first) (zcD d count class' r3' n q next' first):=by
  unfold zcD
  exact zbH (fun κ=>(zgk (r3 κ) d count class').mono) (zgk r3' d count class').mono (fun g h hg x=>zhN r3 r3' h_r3 _ _ (fun a0 a1 a2 a3=>hg (a0,a1,a2,a3)) d count class' x.1 x.2.1 x.2.2.1 x.2.2.2) _
theorem znJ (r3:Nat->Int->Tp20->Option Tp20) (r3':Int->Tp20->Option Tp20) (h_r3:∀ a0 a1,ChO (fun κ=>r3 κ a0 a1) (r3' a0 a1)) (d count class'):ChO (fun κ=>zcZ d (r3 κ) count class') (zcZ d r3' count class'):=by
  unfold zcZ
  repeat' with_reducible first | exact ChO.const _ | exact h_r3 _ _ | (apply zpz<;>assumption) | apply ChO.G
theorem zpx (d):Cn (zkU d):=fun g h hg x=>znJ  _ _ (fun a0 a1=>hg (a0,a1)) d x.1 x.2
theorem zpy (d count class'):zdX d count class'=zcZ d (zdX d) count class':=zax (zpx d) (count,class')

def zeE (d:Tp7) (y':Tp20) (i_1 a:Int) (row_1 next':Tp20) (r15:(Int->Tp20->Tp20->Tp20->Option Tp7)) (number_3 row_2:Tp20):Option Tp7:=
  G (0<=ix (ix d.2.2.1 (ix row_1 i_1)) a/\ix (ix d.2.2.1 (ix row_1 i_1)) a < (y'.length:Int)) (
  G ((ix (ix d.2.2.1 (ix row_1 i_1)) a).toNat < y'.length) (
  G (0<=ix y' (ix (ix d.2.2.1 (ix row_1 i_1)) a)/\ix y' (ix (ix d.2.2.1 (ix row_1 i_1)) a) < (number_3.length:Int)) (
  G ((ix y' (ix (ix d.2.2.1 (ix row_1 i_1)) a)).toNat < number_3.length) (
  G (0<=a/\a < (next'.length:Int)) (
  G ((a).toNat < next'.length) (
  G (fits (a+(1:Int))) (
  r15 (a+(1:Int)) number_3 row_2 (next'.set (a).toNat (ix number_3 (ix y' (ix (ix d.2.2.1 (ix row_1 i_1)) a)))))))))))
def zcS (d:Tp7) (y':Tp20) (i_1 out out_1:Int) (out_2:Tp18) (out_3:Tp20) (r11:(Int->Tp20->Tp20->Int->Int->Tp18->Tp20->Option Tp7)) (r15:Tf13) (a:Int) (number_2 row_1 next':Tp20):Option Tp7:=
  if (decide (a < d.1))=true then
  G (0<=i_1/\i_1 < (row_1.length:Int)) (
  G ((i_1).toNat < row_1.length) (
  G (0<=ix row_1 i_1/\ix row_1 i_1 < (d.2.2.1.length:Int)) (
  G (0<=a/\a < ((ix d.2.2.1 (ix row_1 i_1)).length:Int)) (
  G (0<=ix (ix d.2.2.1 (ix row_1 i_1)) a/\ix (ix d.2.2.1 (ix row_1 i_1)) a < (y'.length:Int)) (
  G ((ix (ix d.2.2.1 (ix row_1 i_1)) a).toNat < y'.length) (
  G (0<=ix y' (ix (ix d.2.2.1 (ix row_1 i_1)) a)/\ix y' (ix (ix d.2.2.1 (ix row_1 i_1)) a) < (number_2.length:Int)) (
  G ((ix y' (ix (ix d.2.2.1 (ix row_1 i_1)) a)).toNat < number_2.length) (
  if (decide ((ix number_2 (ix y' (ix (ix d.2.2.1 (ix row_1 i_1)) a))) < (0:Int)))=true then
  G (0<=ix (ix d.2.2.1 (ix row_1 i_1)) a/\ix (ix d.2.2.1 (ix row_1 i_1)) a < (y'.length:Int)) (
  G ((ix (ix d.2.2.1 (ix row_1 i_1)) a).toNat < y'.length) (
  G (0<=ix y' (ix (ix d.2.2.1 (ix row_1 i_1)) a)/\ix y' (ix (ix d.2.2.1 (ix row_1 i_1)) a) < (number_2.length:Int)) (
  G ((ix y' (ix (ix d.2.2.1 (ix row_1 i_1)) a)).toNat < number_2.length) (
  G (room row_1 ([ix (ix d.2.2.1 (ix row_1 i_1)) a]) 8) (
  zeE d y' i_1 a row_1 next' r15 (number_2.set (ix y' (ix (ix d.2.2.1 (ix row_1 i_1)) a)).toNat (row_1.length:Int)) (row_1++([ix (ix d.2.2.1 (ix row_1 i_1)) a]))))))) else
  zeE d y' i_1 a row_1 next' r15 number_2 row_1)))))))) else
  G (room out_2 ([next']) 24) (
  G (0<=i_1/\i_1 < (row_1.length:Int)) (
  G ((i_1).toNat < row_1.length) (
  G (0<=ix row_1 i_1/\ix row_1 i_1 < (d.2.2.2.1.length:Int)) (
  G (room out_3 ([ix d.2.2.2.1 (ix row_1 i_1)]) 8) (
  G (fits (i_1+(1:Int))) (
  r11 (i_1+(1:Int)) number_2 row_1 out out_1 (out_2++([next'])) (out_3++([ix d.2.2.2.1 (ix row_1 i_1)]))))))))
def zmg (d:Tp7) (y':Tp20) (i_1 out out_1:Int) (out_2:Tp18) (out_3:Tp20) (r11:(Int->Tp20->Tp20->Int->Int->Tp18->Tp20->Option Tp7)):(Int×Tp20×Tp20×Tp20->Option Tp7)->Int×Tp20×Tp20×Tp20->Option Tp7:=
  fun rec x=>zcS d y' i_1 out out_1 out_2 out_3 r11 (fun a number_2 row_1 next'=>rec (a,number_2,row_1,next')) x.1 x.2.1 x.2.2.1 x.2.2.2
def zcm (d:Tp7) (y':Tp20) (i_1 out out_1:Int) (out_2:Tp18) (out_3:Tp20) (r11:(Int->Tp20->Tp20->Int->Int->Tp18->Tp20->Option Tp7)) (a:Int) (number_2 row_1 next':Tp20):Option Tp7:=LFix (zmg d y' i_1 out out_1 out_2 out_3 r11 ) (a,number_2,row_1,next')
def zdv (d:Tp7) (y':Tp20) (r11:Tf4) (i_1:Int) (number_1 row:Tp20) (out out_1:Int) (out_2:Tp18) (out_3:Tp20):Option Tp7:=
  if (decide (i_1 < (row.length:Int)))=true then
  G (mkOK d.1 d.1 8) (
  zcm d y' i_1 out out_1 out_2 out_3 r11 (0:Int) number_1 row (List.replicate (d.1).toNat (0:Int))) else
  some (out,(out_1,(out_2,(out_3,()))))
def zmf (d:Tp7) (y':Tp20):(Int×Tp20×Tp20×Int×Int×Tp18×Tp20->Option Tp7)->Int×Tp20×Tp20×Int×Int×Tp18×Tp20->Option Tp7:=
  fun rec x=>zdv d y' (fun i_1 number_1 row out out_1 out_2 out_3=>rec (i_1,number_1,row,out,out_1,out_2,out_3)) x.1 x.2.1 x.2.2.1 x.2.2.2.1 x.2.2.2.2.1 x.2.2.2.2.2.1 x.2.2.2.2.2.2
def zf1 (d:Tp7) (y':Tp20) (i_1:Int) (number_1 row:Tp20) (out out_1:Int) (out_2:Tp18) (out_3:Tp20):Option Tp7:=LFix (zmf d y' ) (i_1,number_1,row,out,out_1,out_2,out_3)
def zdd (d:Tp7) (y':Tp20) (r4:Int->Tp20->Option Tp7) (i:Int) (number:Tp20):Option Tp7:=
  if (decide (i < (number.length:Int)))=true then
  G (0<=i/\i < (number.length:Int)) (
  G ((i).toNat < number.length) (
  G (fits (i+(1:Int))) (
  r4 (i+(1:Int)) (number.set (i).toNat (-1:Int))))) else
  G (0<=d.2.1/\d.2.1 < (y'.length:Int)) (
  G ((d.2.1).toNat < y'.length) (
  G (0<=ix y' d.2.1/\ix y' d.2.1 < (number.length:Int)) (
  G ((ix y' d.2.1).toNat < number.length) (
  zf1 d y' (0:Int) (number.set (ix y' d.2.1).toNat (0:Int)) ([d.2.1]) d.1 (0:Int) ([]:List Tp20) ([]:List Int)))))
def znL (d:Tp7) (y':Tp20):(Int×Tp20->Option Tp7)->Int×Tp20->Option Tp7:=
  fun rec x=>zdd d y' (fun i number=>rec (i,number)) x.1 x.2
def zet (d:Tp7) (y':Tp20) (i:Int) (number:Tp20):Option Tp7:=LFix (znL d y' ) (i,number)
def zlB (d:Tp7):Option Tp7:=
  (zlA (d.1,(d.2.1,(d.2.2.1,(d.2.2.2.1,()))))).bind (fun y'=>
  G (mkOK (y'.length:Int) (y'.length:Int) 8) (
  zet d y' (0:Int) (List.replicate ((y'.length:Int)).toNat (0:Int))))
theorem zqZ (r15:Nat->Tf13) (r15':Tf13) (h_r15:∀ a0 a1 a2 a3,ChO (fun κ=>r15 κ a0 a1 a2 a3) (r15' a0 a1 a2 a3)) (d y' i_1 a row_1 next' number_3 row_2):ChO (fun κ=>zeE d y' i_1 a row_1 next' (r15 κ) number_3 row_2) (zeE d y' i_1 a row_1 next' r15' number_3 row_2):=by
  unfold zeE
  repeat' with_reducible first | exact ChO.const _ | exact h_r15 _ _ _ _ | apply ChO.G
theorem ziT (r11:Nat->Tf4) (r11':Tf4) (h_r11:∀ a0 a1 a2 a3 a4 a5 a6,ChO (fun κ=>r11 κ a0 a1 a2 a3 a4 a5 a6) (r11' a0 a1 a2 a3 a4 a5 a6)) (r15:Nat->Tf13) (r15':Tf13) (h_r15:∀ a0 a1 a2 a3,ChO (fun κ=>r15 κ a0 a1 a2 a3) (r15' a0 a1 a2 a3)) (d y' i_1 out out_1 out_2 out_3 a number_2 row_1 next'):ChO (fun κ=>zcS d y' i_1 out out_1 out_2 out_3 (r11 κ) (r15 κ) a number_2 row_1 next') (zcS d y' i_1 out out_1 out_2 out_3 r11' r15' a number_2 row_1 next'):=by
  unfold zcS
  repeat' with_reducible first | exact ChO.const _ | exact h_r11 _ _ _ _ _ _ _ | exact h_r15 _ _ _ _ | (apply zqZ<;>assumption) | apply ChO.ite | apply ChO.G
theorem zg5 (r11 d y' i_1 out out_1 out_2 out_3):Cn (zmg d y' i_1 out out_1 out_2 out_3 r11):=fun g h hg x=>ziT (fun _=>r11) r11 (fun _ _ _ _ _ _ _=>ChO.const _) _ _ (fun a0 a1 a2 a3=>hg (a0,a1,a2,a3)) d y' i_1 out out_1 out_2 out_3 x.1 x.2.1 x.2.2.1 x.2.2.2
theorem zkW (r11 d y' i_1 out out_1 out_2 out_3 a number_2 row_1 next'):zcm d y' i_1 out out_1 out_2 out_3 r11 a number_2 row_1 next'=zcS d y' i_1 out out_1 out_2 out_3 r11 (zcm d y' i_1 out out_1 out_2 out_3 r11) a number_2 row_1 next':=zax (zg5 r11 d y' i_1 out out_1 out_2 out_3) (a,number_2,row_1,next')
theorem zq2 (r11:Nat->Tf4) (r11':Tf4) (h_r11:∀ a0 a1 a2 a3 a4 a5 a6,ChO (fun κ=>r11 κ a0 a1 a2 a3 a4 a5 a6) (r11' a0 a1 a2 a3 a4 a5 a6)) (d y' i_1 out out_1 out_2 out_3 a number_2 row_1 next'):ChO (fun κ=>zcm d y' i_1 out out_1 out_2 out_3 (r11 κ) a number_2 row_1 next') (zcm d y' i_1 out out_1 out_2 out_3 r11' a number_2 row_1 next'):=by
  unfold zcm
  exact zbH (fun κ=>(zg5 (r11 κ) d y' i_1 out out_1 out_2 out_3).mono) (zg5 r11' d y' i_1 out out_1 out_2 out_3).mono (fun g h hg x=>ziT r11 r11' h_r11 _ _ (fun a0 a1 a2 a3=>hg (a0,a1,a2,a3)) d y' i_1 out out_1 out_2 out_3 x.1 x.2.1 x.2.2.1 x.2.2.2) _
theorem zoH (r11:Nat->Tf4) (r11':Tf4) (h_r11:∀ a0 a1 a2 a3 a4 a5 a6,ChO (fun κ=>r11 κ a0 a1 a2 a3 a4 a5 a6) (r11' a0 a1 a2 a3 a4 a5 a6)) (d y' i_1 number_1 row out out_1 out_2 out_3):ChO (fun κ=>zdv d y' (r11 κ) i_1 number_1 row out out_1 out_2 out_3) (zdv d y' r11' i_1 number_1 row out out_1 out_2 out_3):=by
  unfold zdv
  repeat' with_reducible first | exact ChO.const _ | exact h_r11 _ _ _ _ _ _ _ | (apply zq2<;>assumption) | apply ChO.ite | apply ChO.G
theorem zq0 (d y'):Cn (zmf d y'):=fun g h hg x=>zoH  _ _ (fun a0 a1 a2 a3 a4 a5 a6=>hg (a0,a1,a2,a3,a4,a5,a6)) d y' x.1 x.2.1 x.2.2.1 x.2.2.2.1 x.2.2.2.2.1 x.2.2.2.2.2.1 x.2.2.2.2.2.2
theorem zq1 (d y' i_1 number_1 row out out_1 out_2 out_3):zf1 d y' i_1 number_1 row out out_1 out_2 out_3=zdv d y' (zf1 d y') i_1 number_1 row out out_1 out_2 out_3:=zax (zq0 d y') (i_1,number_1,row,out,out_1,out_2,out_3)
theorem zpA (r4:Nat->Int->Tp20->Option Tp7) (r4':Int->Tp20->Option Tp7) (h_r4:∀ a0 a1,ChO (fun κ=>r4 κ a0 a1) (r4' a0 a1)) (d y' i number):ChO (fun κ=>zdd d y' (r4 κ) i number) (zdd d y' r4' i number):=by
  unfold zdd
  repeat' with_reducible first | exact ChO.const _ | exact h_r4 _ _ | apply ChO.ite | apply ChO.G
theorem zrE (d y'):Cn (znL d y'):=fun g h hg x=>zpA  _ _ (fun a0 a1=>hg (a0,a1)) d y' x.1 x.2
theorem zmh (d y' i number):zet d y' i number=zdd d y' (zet d y') i number:=zax (zrE d y') (i,number)

def zc2 (a:Tp2) (s j:Int) (r24:(Int->Int->Option Tp7)) (t:Bool):Option Tp7:=
  if t=true then
  G (0<=(((ix a.2.2.2.1 j).2).2).1) (
  G (fits (j+(1:Int))) (
  r24 (ior .i64 s (ishl .i64 (1:Int) ((((ix a.2.2.2.1 j).2).2).1))) (j+(1:Int)))) else
  G (fits (j+(1:Int))) (
  r24 s (j+(1:Int)))
def zeC (k:Int) (next':Tp20) (r20:(Int->Tp20->Tp20->Tp20->Option Tp7)) (s:Int) (row_2 number_3:Tp20):Option Tp7:=
  G (0<=s/\s < (number_3.length:Int)) (
  G ((s).toNat < number_3.length) (
  G (room next' ([ix number_3 s]) 8) (
  G (fits (k+(1:Int))) (
  r20 (k+(1:Int)) row_2 number_3 (next'++([ix number_3 s]))))))
def zbP (a:Tp2) (i_2 k:Int) (row_1 number_2 next':Tp20) (r20:(Int->Tp20->Tp20->Tp20->Option Tp7)) (r24:Int->Int->Option Tp7) (s j:Int):Option Tp7:=
  if (decide (j < (a.2.2.2.1.length:Int)))=true then
  G (0<=j/\j < (a.2.2.2.1.length:Int)) (
  if (decide ((((ix a.2.2.2.1 j).2).1)=k))=true then
  G (0<=i_2/\i_2 < (row_1.length:Int)) (
  G ((i_2).toNat < row_1.length) (
  G (0<=(ix a.2.2.2.1 j).1) (
  zc2 a s j r24 (decide ((iand .i64 (ishr .i64 (ix row_1 i_2) ((ix a.2.2.2.1 j).1)) (1:Int))=(1:Int)))))) else
  zc2 a s j r24 false) else
  G (0<=s/\s < (number_2.length:Int)) (
  G ((s).toNat < number_2.length) (
  if (decide ((ix number_2 s) < (0:Int)))=true then
  G (0<=s/\s < (number_2.length:Int)) (
  G ((s).toNat < number_2.length) (
  G (room row_1 ([s]) 8) (
  zeC k next' r20 s (row_1++([s])) (number_2.set (s).toNat (row_1.length:Int))))) else
  zeC k next' r20 s row_1 number_2))
def zl1 (a:Tp2) (i_2 k:Int) (row_1 number_2 next':Tp20) (r20:(Int->Tp20->Tp20->Tp20->Option Tp7)):(Int×Int->Option Tp7)->Int×Int->Option Tp7:=
  fun rec x=>zbP a i_2 k row_1 number_2 next' r20 (fun s j=>rec (s,j)) x.1 x.2
def zbT (a:Tp2) (i_2 k:Int) (row_1 number_2 next':Tp20) (r20:(Int->Tp20->Tp20->Tp20->Option Tp7)) (s j:Int):Option Tp7:=LFix (zl1 a i_2 k row_1 number_2 next' r20 ) (s,j)
def zeD (i_2 out out_1:Int) (out_2:Tp18) (out_3:Tp20) (r16:(Int->Tp20->Tp20->Int->Int->Tp18->Tp20->Option Tp7)) (row_1 number_2 next':Tp20) (mark:Int):Option Tp7:=
  G (room out_2 ([next']) 24) (
  G (room out_3 ([mark]) 8) (
  G (fits (i_2+(1:Int))) (
  r16 (i_2+(1:Int)) row_1 number_2 out out_1 (out_2++([next'])) (out_3++([mark])))))
def zcN (a:Tp2) (final i_2 out out_1:Int) (out_2:Tp18) (out_3:Tp20) (r16:(Int->Tp20->Tp20->Int->Int->Tp18->Tp20->Option Tp7)) (r20:Tf13) (k:Int) (row_1 number_2 next':Tp20):Option Tp7:=
  if (decide (k < a.1))=true then
  zbT a i_2 k row_1 number_2 next' r20 (0:Int) (0:Int) else
  G (0<=i_2/\i_2 < (row_1.length:Int)) (
  G ((i_2).toNat < row_1.length) (
  if (decide (¬ (iand .i64 (ix row_1 i_2) final)=(0:Int)))=true then
  zeD i_2 out out_1 out_2 out_3 r16 row_1 number_2 next' (1:Int) else
  zeD i_2 out out_1 out_2 out_3 r16 row_1 number_2 next' (0:Int)))
def zl0 (a:Tp2) (final i_2 out out_1:Int) (out_2:Tp18) (out_3:Tp20) (r16:(Int->Tp20->Tp20->Int->Int->Tp18->Tp20->Option Tp7)):(Int×Tp20×Tp20×Tp20->Option Tp7)->Int×Tp20×Tp20×Tp20->Option Tp7:=
  fun rec x=>zcN a final i_2 out out_1 out_2 out_3 r16 (fun k row_1 number_2 next'=>rec (k,row_1,number_2,next')) x.1 x.2.1 x.2.2.1 x.2.2.2
def zcj (a:Tp2) (final i_2 out out_1:Int) (out_2:Tp18) (out_3:Tp20) (r16:(Int->Tp20->Tp20->Int->Int->Tp18->Tp20->Option Tp7)) (k:Int) (row_1 number_2 next':Tp20):Option Tp7:=LFix (zl0 a final i_2 out out_1 out_2 out_3 r16 ) (k,row_1,number_2,next')
def zcM (a:Tp2) (final:Int) (r16:Tf4) (i_2:Int) (row number_1:Tp20) (out out_1:Int) (out_2:Tp18) (out_3:Tp20):Option Tp7:=
  if (decide (i_2 < (row.length:Int)))=true then
  zcj a final i_2 out out_1 out_2 out_3 r16 (0:Int) row number_1 ([]) else
  (zlB (out,(out_1,(out_2,(out_3,()))))).bind (fun y'=>
  some (y'.1,(y'.2.1,(y'.2.2.1,(y'.2.2.2.1,())))))
def zlZ (a:Tp2) (final:Int):(Int×Tp20×Tp20×Int×Int×Tp18×Tp20->Option Tp7)->Int×Tp20×Tp20×Int×Int×Tp18×Tp20->Option Tp7:=
  fun rec x=>zcM a final (fun i_2 row number_1 out out_1 out_2 out_3=>rec (i_2,row,number_1,out,out_1,out_2,out_3)) x.1 x.2.1 x.2.2.1 x.2.2.2.1 x.2.2.2.2.1 x.2.2.2.2.2.1 x.2.2.2.2.2.2
def zfY (a:Tp2) (final i_2:Int) (row number_1:Tp20) (out out_1:Int) (out_2:Tp18) (out_3:Tp20):Option Tp7:=LFix (zlZ a final ) (i_2,row,number_1,out,out_1,out_2,out_3)
def zcL (a:Tp2) (number:Tp20) (r11:Int->Int->Option Tp7) (final i_1:Int):Option Tp7:=
  if (decide (i_1 < (a.2.2.2.2.1.length:Int)))=true then
  G (0<=i_1/\i_1 < (a.2.2.2.2.1.length:Int)) (
  G (0<=ix a.2.2.2.2.1 i_1) (
  G (fits (i_1+(1:Int))) (
  r11 (ior .i64 final (ishl .i64 (1:Int) (ix a.2.2.2.2.1 i_1))) (i_1+(1:Int))))) else
  zfY a final (0:Int) ([ishl .i64 (1:Int) (ix a.2.2.1 (0:Int))]) (number.set (ix ([ishl .i64 (1:Int) (ix a.2.2.1 (0:Int))]) (0:Int)).toNat (0:Int)) a.1 (0:Int) ([]:List Tp20) ([]:List Int)
def zlY (a:Tp2) (number:Tp20):(Int×Int->Option Tp7)->Int×Int->Option Tp7:=
  fun rec x=>zcL a number (fun final i_1=>rec (final,i_1)) x.1 x.2
def zhF (a:Tp2) (number:Tp20) (final i_1:Int):Option Tp7:=LFix (zlY a number ) (final,i_1)
def zc5 (a:Tp2) (r4:Int->Tp20->Option Tp7) (i:Int) (number:Tp20):Option Tp7:=
  if (decide (i < (number.length:Int)))=true then
  G (0<=i/\i < (number.length:Int)) (
  G ((i).toNat < number.length) (
  G (fits (i+(1:Int))) (
  r4 (i+(1:Int)) (number.set (i).toNat (-1:Int))))) else
  G (0<=(0:Int)/\(0:Int) < (a.2.2.1.length:Int)) (
  G (0<=ix a.2.2.1 (0:Int)) (
  G (room ([]:List Int) ([ishl .i64 (1:Int) (ix a.2.2.1 (0:Int))]) 8) (
  G (0<=(0:Int)/\(0:Int) < (([ishl .i64 (1:Int) (ix a.2.2.1 (0:Int))]).length:Int)) (
  G (((0:Int)).toNat < ([ishl .i64 (1:Int) (ix a.2.2.1 (0:Int))]).length) (
  G (0<=ix ([ishl .i64 (1:Int) (ix a.2.2.1 (0:Int))]) (0:Int)/\ix ([ishl .i64 (1:Int) (ix a.2.2.1 (0:Int))]) (0:Int) < (number.length:Int)) (
  G ((ix ([ishl .i64 (1:Int) (ix a.2.2.1 (0:Int))]) (0:Int)).toNat < number.length) (
  zhF a number (0:Int) (0:Int))))))))
def zns (a:Tp2):(Int×Tp20->Option Tp7)->Int×Tp20->Option Tp7:=
  fun rec x=>zc5 a (fun i number=>rec (i,number)) x.1 x.2
def zjr (a:Tp2) (i:Int) (number:Tp20):Option Tp7:=LFix (zns a ) (i,number)
def zpO (a:Tp2):Option Tp7:=
  G (0<=a.2.1) (
  G (mkOK (ishl .i64 (1:Int) a.2.1) (ishl .i64 (1:Int) a.2.1) 8) (
  zjr a (0:Int) (List.replicate (ishl .i64 (1:Int) a.2.1).toNat (0:Int))))
theorem zqK (r24:Nat->Int->Int->Option Tp7) (r24':Int->Int->Option Tp7) (h_r24:∀ a0 a1,ChO (fun κ=>r24 κ a0 a1) (r24' a0 a1)) (a s j t):ChO (fun κ=>zc2 a s j (r24 κ) t) (zc2 a s j r24' t):=by
  unfold zc2
  repeat' with_reducible first | exact ChO.const _ | exact h_r24 _ _ | apply ChO.ite | apply ChO.G
theorem zqL (r20:Nat->Tf13) (r20':Tf13) (h_r20:∀ a0 a1 a2 a3,ChO (fun κ=>r20 κ a0 a1 a2 a3) (r20' a0 a1 a2 a3)) (k next' s row_2 number_3):ChO (fun κ=>zeC k next' (r20 κ) s row_2 number_3) (zeC k next' r20' s row_2 number_3):=by
  unfold zeC
  repeat' with_reducible first | exact ChO.const _ | exact h_r20 _ _ _ _ | apply ChO.G
theorem ziF (r20:Nat->Tf13) (r20':Tf13) (h_r20:∀ a0 a1 a2 a3,ChO (fun κ=>r20 κ a0 a1 a2 a3) (r20' a0 a1 a2 a3)) (r24:Nat->Int->Int->Option Tp7) (r24':Int->Int->Option Tp7) (h_r24:∀ a0 a1,ChO (fun κ=>r24 κ a0 a1) (r24' a0 a1)) (a i_2 k row_1 number_2 next' s j):ChO (fun κ=>zbP a i_2 k row_1 number_2 next' (r20 κ) (r24 κ) s j) (zbP a i_2 k row_1 number_2 next' r20' r24' s j):=by
  unfold zbP
  repeat' with_reducible first | exact ChO.const _ | exact h_r20 _ _ _ _ | exact h_r24 _ _ | (apply zqK<;>assumption) | (apply zqL<;>assumption) | apply ChO.ite | apply ChO.G
theorem zg0 (r20 a i_2 k row_1 number_2 next'):Cn (zl1 a i_2 k row_1 number_2 next' r20):=fun g h hg x=>ziF (fun _=>r20) r20 (fun _ _ _ _=>ChO.const _) _ _ (fun a0 a1=>hg (a0,a1)) a i_2 k row_1 number_2 next' x.1 x.2
theorem zeU (r20 a i_2 k row_1 number_2 next' s j):zbT a i_2 k row_1 number_2 next' r20 s j=zbP a i_2 k row_1 number_2 next' r20 (zbT a i_2 k row_1 number_2 next' r20) s j:=zax (zg0 r20 a i_2 k row_1 number_2 next') (s,j)
theorem zqQ (r20:Nat->Tf13) (r20':Tf13) (h_r20:∀ a0 a1 a2 a3,ChO (fun κ=>r20 κ a0 a1 a2 a3) (r20' a0 a1 a2 a3)) (a i_2 k row_1 number_2 next' s j):ChO (fun κ=>zbT a i_2 k row_1 number_2 next' (r20 κ) s j) (zbT a i_2 k row_1 number_2 next' r20' s j):=by
  unfold zbT
  exact zbH (fun κ=>(zg0 (r20 κ) a i_2 k row_1 number_2 next').mono) (zg0 r20' a i_2 k row_1 number_2 next').mono (fun g h hg x=>ziF r20 r20' h_r20 _ _ (fun a0 a1=>hg (a0,a1)) a i_2 k row_1 number_2 next' x.1 x.2) _
theorem zqM (r16:Nat->Tf4) (r16':Tf4) (h_r16:∀ a0 a1 a2 a3 a4 a5 a6,ChO (fun κ=>r16 κ a0 a1 a2 a3 a4 a5 a6) (r16' a0 a1 a2 a3 a4 a5 a6)) (i_2 out out_1 out_2 out_3 row_1 number_2 next' mark):ChO (fun κ=>zeD i_2 out out_1 out_2 out_3 (r16 κ) row_1 number_2 next' mark) (zeD i_2 out out_1 out_2 out_3 r16' row_1 number_2 next' mark):=by
  unfold zeD
  repeat' with_reducible first | exact ChO.const _ | exact h_r16 _ _ _ _ _ _ _ | apply ChO.G
theorem ziE (r16:Nat->Tf4) (r16':Tf4) (h_r16:∀ a0 a1 a2 a3 a4 a5 a6,ChO (fun κ=>r16 κ a0 a1 a2 a3 a4 a5 a6) (r16' a0 a1 a2 a3 a4 a5 a6)) (r20:Nat->Tf13) (r20':Tf13) (h_r20:∀ a0 a1 a2 a3,ChO (fun κ=>r20 κ a0 a1 a2 a3) (r20' a0 a1 a2 a3)) (a final i_2 out out_1 out_2 out_3 k row_1 number_2 next'):ChO (fun κ=>zcN a final i_2 out out_1 out_2 out_3 (r16 κ) (r20 κ) k row_1 number_2 next') (zcN a final i_2 out out_1 out_2 out_3 r16' r20' k row_1 number_2 next'):=by
  unfold zcN
  repeat' with_reducible first | exact ChO.const _ | exact h_r16 _ _ _ _ _ _ _ | exact h_r20 _ _ _ _ | (apply zqQ<;>assumption) | (apply zqM<;>assumption) | apply ChO.ite | apply ChO.G
theorem zgZ (r16 a final i_2 out out_1 out_2 out_3):Cn (zl0 a final i_2 out out_1 out_2 out_3 r16):=fun g h hg x=>ziE (fun _=>r16) r16 (fun _ _ _ _ _ _ _=>ChO.const _) _ _ (fun a0 a1 a2 a3=>hg (a0,a1,a2,a3)) a final i_2 out out_1 out_2 out_3 x.1 x.2.1 x.2.2.1 x.2.2.2
theorem zkP (r16 a final i_2 out out_1 out_2 out_3 k row_1 number_2 next'):zcj a final i_2 out out_1 out_2 out_3 r16 k row_1 number_2 next'=zcN a final i_2 out out_1 out_2 out_3 r16 (zcj a final i_2 out out_1 out_2 out_3 r16) k row_1 number_2 next':=zax (zgZ r16 a final i_2 out out_1 out_2 out_3) (k,row_1,number_2,next')
theorem zqP (r16:Nat->Tf4) (r16':Tf4) (h_r16:∀ a0 a1 a2 a3 a4 a5 a6,ChO (fun κ=>r16 κ a0 a1 a2 a3 a4 a5 a6) (r16' a0 a1 a2 a3 a4 a5 a6)) (a final i_2 out out_1 out_2 out_3 k row_1 number_2 next'):ChO (fun κ=>zcj a final i_2 out out_1 out_2 out_3 (r16 κ) k row_1 number_2 next') (zcj a final i_2 out out_1 out_2 out_3 r16' k row_1 number_2 next'):=by
  unfold zcj
  exact zbH (fun κ=>(zgZ (r16 κ) a final i_2 out out_1 out_2 out_3).mono) (zgZ r16' a final i_2 out out_1 out_2 out_3).mono (fun g h hg x=>ziE r16 r16' h_r16 _ _ (fun a0 a1 a2 a3=>hg (a0,a1,a2,a3)) a final i_2 out out_1 out_2 out_3 x.1 x.2.1 x.2.2.1 x.2.2.2) _
theorem zoy (r16:Nat->Tf4) (r16':Tf4) (h_r16:∀ a0 a1 a2 a3 a4 a5 a6,ChO (fun κ=>r16 κ a0 a1 a2 a3 a4 a5 a6) (r16' a0 a1 a2 a3 a4 a5 a6)) (a final i_2 row number_1 out out_1 out_2 out_3):ChO (fun κ=>zcM a final (r16 κ) i_2 row number_1 out out_1 out_2 out_3) (zcM a final r16' i_2 row number_1 out out_1 out_2 out_3):=by
  unfold zcM
  repeat' with_reducible first | exact ChO.const _ | exact h_r16 _ _ _ _ _ _ _ | (apply zqP<;>assumption) | apply ChO.ite | (apply ChO.bind;intro _)
theorem zqO (a final):Cn (zlZ a final):=fun g h hg x=>zoy  _ _ (fun a0 a1 a2 a3 a4 a5 a6=>hg (a0,a1,a2,a3,a4,a5,a6)) a final x.1 x.2.1 x.2.2.1 x.2.2.2.1 x.2.2.2.2.1 x.2.2.2.2.2.1 x.2.2.2.2.2.2
theorem zkO (a final i_2 row number_1 out out_1 out_2 out_3):zfY a final i_2 row number_1 out out_1 out_2 out_3=zcM a final (zfY a final) i_2 row number_1 out out_1 out_2 out_3:=zax (zqO a final) (i_2,row,number_1,out,out_1,out_2,out_3)
theorem zox (r11:Nat->Int->Int->Option Tp7) (r11':Int->Int->Option Tp7) (h_r11:∀ a0 a1,ChO (fun κ=>r11 κ a0 a1) (r11' a0 a1)) (a number final i_1):ChO (fun κ=>zcL a number (r11 κ) final i_1) (zcL a number r11' final i_1):=by
  unfold zcL
  repeat' with_reducible first | exact ChO.const _ | exact h_r11 _ _ | apply ChO.ite | apply ChO.G
theorem zqN (a number):Cn (zlY a number):=fun g h hg x=>zox  _ _ (fun a0 a1=>hg (a0,a1)) a number x.1 x.2
theorem zkN (a number final i_1):zhF a number final i_1=zcL a number (zhF a number) final i_1:=zax (zqN a number) (final,i_1)
theorem zps (r4:Nat->Int->Tp20->Option Tp7) (r4':Int->Tp20->Option Tp7) (h_r4:∀ a0 a1,ChO (fun κ=>r4 κ a0 a1) (r4' a0 a1)) (a i number):ChO (fun κ=>zc5 a (r4 κ) i number) (zc5 a r4' i number):=by
  unfold zc5
  repeat' with_reducible first | exact ChO.const _ | exact h_r4 _ _ | apply ChO.ite | apply ChO.G
theorem zru (a):Cn (zns a):=fun g h hg x=>zps  _ _ (fun a0 a1=>hg (a0,a1)) a x.1 x.2
theorem zl2 (a i number):zjr a i number=zc5 a (zjr a) i number:=zax (zru a) (i,number)

def zh4 (letters:Int) (l:Tp11):Option Tp5:=
  (zoz l).bind (fun y'_5=>
  if (decide (letters < (1:Int)))=true then
  some (((0:Int),((0:Int),([],([],())))),(2:Int)) else
  if (decide ((4:Int) < letters))=true then
  some (((0:Int),((0:Int),([],([],())))),(2:Int)) else
  if (decide (letters<=y'_5.2))=true then
  some (((0:Int),((0:Int),([],([],())))),(2:Int)) else
  if (decide ((10:Int) < y'_5.1))=true then
  some (((0:Int),((0:Int),([],([],())))),(7:Int)) else
  (zly letters l y'_5.1).bind (fun y'_3=>
  (zpO (y'_3.1,(y'_3.2.1,(y'_3.2.2.1,(y'_3.2.2.2.1,(y'_3.2.2.2.2.1,())))))).bind (fun y'_4=>
  some ((y'_4.1,(y'_4.2.1,(y'_4.2.2.1,(y'_4.2.2.2.1,())))),(0:Int)))))

def zde (a b:Tp7) (i_1:Int) (r9:(Int->Option (Bool))) (r14:Int->Option (Bool)) (k:Int):Option (Bool):=
  G (0<=i_1/\i_1 < (a.2.2.1.length:Int)) (
  if (decide (k < ((ix a.2.2.1 i_1).length:Int)))=true then
  G (0<=i_1/\i_1 < (a.2.2.1.length:Int)) (
  G (0<=k/\k < ((ix a.2.2.1 i_1).length:Int)) (
  G (0<=i_1/\i_1 < (b.2.2.1.length:Int)) (
  G (0<=k/\k < ((ix b.2.2.1 i_1).length:Int)) (
  if (decide (¬ (ix (ix a.2.2.1 i_1) k)=(ix (ix b.2.2.1 i_1) k)))=true then
  some false else
  G (fits (k+(1:Int))) (
  r14 (k+(1:Int))))))) else
  G (fits (i_1+(1:Int))) (
  r9 (i_1+(1:Int))))
def znM (a b:Tp7) (i_1:Int) (r9:(Int->Option (Bool))):(Int->Option (Bool))->Int->Option (Bool):=
  fun rec x=>zde a b i_1 r9 (fun k=>rec k) x
def zeu (a b:Tp7) (i_1:Int) (r9:(Int->Option (Bool))) (k:Int):Option (Bool):=LFix (znM a b i_1 r9 ) k
def zdP (a b:Tp7) (r9:Int->Option (Bool)) (i_1:Int):Option (Bool):=
  if (decide (i_1 < (a.2.2.1.length:Int)))=true then
  G (0<=i_1/\i_1 < (a.2.2.1.length:Int)) (
  G (0<=i_1/\i_1 < (b.2.2.1.length:Int)) (
  if (decide (¬ ((ix a.2.2.1 i_1).length:Int)=((ix b.2.2.1 i_1).length:Int)))=true then
  some false else
  zeu a b i_1 r9 (0:Int))) else
  some true
def zpf (a b:Tp7):(Int->Option (Bool))->Int->Option (Bool):=
  fun rec x=>zdP a b (fun i_1=>rec i_1) x
def zlD (a b:Tp7) (i_1:Int):Option (Bool):=LFix (zpf a b ) i_1
def zdO (a b:Tp7) (r4:Int->Option (Bool)) (i:Int):Option (Bool):=
  if (decide (i < (a.2.2.2.1.length:Int)))=true then
  G (0<=i/\i < (a.2.2.2.1.length:Int)) (
  G (0<=i/\i < (b.2.2.2.1.length:Int)) (
  if (decide (¬ (ix a.2.2.2.1 i)=(ix b.2.2.2.1 i)))=true then
  some false else
  G (fits (i+(1:Int))) (
  r4 (i+(1:Int))))) else
  zlD a b (0:Int)
def zpe (a b:Tp7):(Int->Option (Bool))->Int->Option (Bool):=
  fun rec x=>zdO a b (fun i=>rec i) x
def zlC (a b:Tp7) (i:Int):Option (Bool):=LFix (zpe a b ) i
def ztr (a b:Tp7):Option (Bool):=
  if (decide (¬ a.1=b.1))=true then
  some false else
  if (decide (¬ a.2.1=b.2.1))=true then
  some false else
  if (decide (¬ (a.2.2.1.length:Int)=(b.2.2.1.length:Int)))=true then
  some false else
  if (decide (¬ (a.2.2.2.1.length:Int)=(b.2.2.2.1.length:Int)))=true then
  some false else
  zlC a b (0:Int)
theorem zj4 (r9:Nat->Int->Option (Bool)) (r9':Int->Option (Bool)) (h_r9:∀ a0,ChO (fun κ=>r9 κ a0) (r9' a0)) (r14:Nat->Int->Option (Bool)) (r14':Int->Option (Bool)) (h_r14:∀ a0,ChO (fun κ=>r14 κ a0) (r14' a0)) (a b i_1 k):ChO (fun κ=>zde a b i_1 (r9 κ) (r14 κ) k) (zde a b i_1 r9' r14' k):=by
  unfold zde
  repeat' with_reducible first | exact ChO.const _ | exact h_r9 _ | exact h_r14 _ | apply ChO.ite | apply ChO.G
theorem zia (r9 a b i_1):Cn (znM a b i_1 r9):=fun g h hg x=>zj4 (fun _=>r9) r9 (fun _=>ChO.const _) _ _ (fun a=>hg a) a b i_1 x
theorem zmi (r9 a b i_1 k):zeu a b i_1 r9 k=zde a b i_1 r9 (zeu a b i_1 r9) k:=zax (zia r9 a b i_1) k
theorem zrF (r9:Nat->Int->Option (Bool)) (r9':Int->Option (Bool)) (h_r9:∀ a0,ChO (fun κ=>r9 κ a0) (r9' a0)) (a b i_1 k):ChO (fun κ=>zeu a b i_1 (r9 κ) k) (zeu a b i_1 r9' k):=by
  unfold zeu
  exact zbH (fun κ=>(zia (r9 κ) a b i_1).mono) (zia r9' a b i_1).mono (fun g h hg x=>zj4 r9 r9' h_r9 _ _ (fun a=>hg a) a b i_1 x) _
theorem zq5 (r9:Nat->Int->Option (Bool)) (r9':Int->Option (Bool)) (h_r9:∀ a0,ChO (fun κ=>r9 κ a0) (r9' a0)) (a b i_1):ChO (fun κ=>zdP a b (r9 κ) i_1) (zdP a b r9' i_1):=by
  unfold zdP
  repeat' with_reducible first | exact ChO.const _ | exact h_r9 _ | (apply zrF<;>assumption) | apply ChO.ite | apply ChO.G
theorem ztt (a b):Cn (zpf a b):=fun g h hg x=>zq5  _ _ (fun a=>hg a) a b x
theorem znO (a b i_1):zlD a b i_1=zdP a b (zlD a b) i_1:=zax (ztt a b) i_1
theorem zq4 (r4:Nat->Int->Option (Bool)) (r4':Int->Option (Bool)) (h_r4:∀ a0,ChO (fun κ=>r4 κ a0) (r4' a0)) (a b i):ChO (fun κ=>zdO a b (r4 κ) i) (zdO a b r4' i):=by
  unfold zdO
  repeat' with_reducible first | exact ChO.const _ | exact h_r4 _ | apply ChO.ite | apply ChO.G
theorem zts (a b):Cn (zpe a b):=fun g h hg x=>zq4  _ _ (fun a=>hg a) a b x
theorem znN (a b i):zlC a b i=zdO a b (zlC a b) i:=zax (zts a b) i

def zep (letters:Int) (w:Tp20) (r6:Int->Option (Int)) (i:Int):Option (Int):=
  if (decide (i < (w.length:Int)))=true then
  G (0<=i/\i < (w.length:Int)) (
  if (decide ((ix w i) < (0:Int)))=true then
  some (2:Int) else
  G (0<=i/\i < (w.length:Int)) (
  if (decide (letters<=(ix w i)))=true then
  some (2:Int) else
  G (fits (i+(1:Int))) (
  r6 (i+(1:Int))))) else
  some (0:Int)
def zqS (letters:Int) (w:Tp20):(Int->Option (Int))->Int->Option (Int):=
  fun rec x=>zep letters w (fun i=>rec i) x
def znt (letters:Int) (w:Tp20) (i:Int):Option (Int):=LFix (zqS letters w ) i
def zwb (letters:Int) (w:Tp20):Option (Int):=
  if (decide (letters < (1:Int)))=true then
  some (2:Int) else
  if (decide ((4:Int) < letters))=true then
  some (2:Int) else
  if (decide ((60:Int) < (w.length:Int)))=true then
  some (1:Int) else
  znt letters w (0:Int)
theorem zrv (r6:Nat->Int->Option (Int)) (r6':Int->Option (Int)) (h_r6:∀ a0,ChO (fun κ=>r6 κ a0) (r6' a0)) (letters w i):ChO (fun κ=>zep letters w (r6 κ) i) (zep letters w r6' i):=by
  unfold zep
  repeat' with_reducible first | exact ChO.const _ | exact h_r6 _ | apply ChO.ite | apply ChO.G
theorem zuj (letters w):Cn (zqS letters w):=fun g h hg x=>zrv  _ _ (fun a=>hg a) letters w x
theorem zo6 (letters w i):znt letters w i=zep letters w (znt letters w) i:=zax (zuj letters w) i

def zdc (d:Tp7) (w:Tp20) (r2:Int->Int->Option (Int)) (q_1 i:Int):Option (Int):=
  if (decide (i < (w.length:Int)))=true then
  G (0<=q_1/\q_1 < (d.2.2.1.length:Int)) (
  G (0<=i/\i < (w.length:Int)) (
  G (0<=ix w i/\ix w i < ((ix d.2.2.1 q_1).length:Int)) (
  G (fits (i+(1:Int))) (
  r2 (ix (ix d.2.2.1 q_1) (ix w i)) (i+(1:Int)))))) else
  some q_1
def znI (d:Tp7) (w:Tp20):(Int×Int->Option (Int))->Int×Int->Option (Int):=
  fun rec x=>zdc d w (fun q_1 i=>rec (q_1,i)) x.1 x.2
def zjs (d:Tp7) (w:Tp20) (q_1 i:Int):Option (Int):=LFix (znI d w ) (q_1,i)
def zto (d:Tp7) (q:Int) (w:Tp20):Option (Int):=
  zjs d w q (0:Int)
theorem zpw (r2:Nat->Int->Int->Option (Int)) (r2':Int->Int->Option (Int)) (h_r2:∀ a0 a1,ChO (fun κ=>r2 κ a0 a1) (r2' a0 a1)) (d w q_1 i):ChO (fun κ=>zdc d w (r2 κ) q_1 i) (zdc d w r2' q_1 i):=by
  unfold zdc
  repeat' with_reducible first | exact ChO.const _ | exact h_r2 _ _ | apply ChO.ite | apply ChO.G
theorem zrD (d w):Cn (znI d w):=fun g h hg x=>zpw  _ _ (fun a0 a1=>hg (a0,a1)) d w x.1 x.2
theorem zmc (d w q_1 i):zjs d w q_1 i=zdc d w (zjs d w) q_1 i:=zax (zrD d w) (q_1,i)

def zlz (d:Tp7) (w:Tp20):Option (Bool):=
  (zto (d.1,(d.2.1,(d.2.2.1,(d.2.2.2.1,())))) d.2.1 w).bind (fun y'=>
  G (0<=y'/\y' < (d.2.2.2.1.length:Int)) (
  some (decide ((ix d.2.2.2.1 y')=(1:Int)))))

def zfE (out:Tp19):Option Tp19:=
  some out
def zdN (l:Tp11) (k:Int) (w:Tp20) (from':Tp19) (r8:Int->Tp19->Option Tp19) (i:Int) (out_1:Tp19):Option Tp19:=
  if (decide (i < (w.length:Int)))=true then
  G (fits (i+(1:Int))) (
  G (0<=i/\i < (from'.length:Int)) (
  if (ix from' i)=true then
  G (0<=i/\i < (w.length:Int)) (
  G (0<=i+(1:Int)/\i+(1:Int) < (out_1.length:Int)) (
  G ((i+(1:Int)).toNat < out_1.length) (
  G (fits (i+(1:Int))) (
  r8 (i+(1:Int)) (out_1.set (i+(1:Int)).toNat (decide ((ix w i)=(((ix l k).2).1)))))))) else
  G (0<=i+(1:Int)/\i+(1:Int) < (out_1.length:Int)) (
  G ((i+(1:Int)).toNat < out_1.length) (
  G (fits (i+(1:Int))) (
  r8 (i+(1:Int)) (out_1.set (i+(1:Int)).toNat false)))))) else
  zfE out_1
def zo9 (l:Tp11) (k:Int) (w:Tp20) (from':Tp19):(Int×Tp19->Option Tp19)->Int×Tp19->Option Tp19:=
  fun rec x=>zdN l k w from' (fun i out_1=>rec (i,out_1)) x.1 x.2
def zgG (l:Tp11) (k:Int) (w:Tp20) (from':Tp19) (i:Int) (out_1:Tp19):Option Tp19:=LFix (zo9 l k w from' ) (i,out_1)
def zc7 (j:Int) (r13:(Int->Tp19->Option Tp19)) (y':Tp19) (r17:Int->Tp19->Option Tp19) (i_1:Int) (out_3:Tp19):Option Tp19:=
  if (decide (i_1 < (y'.length:Int)))=true then
  G (0<=i_1/\i_1 < (out_3.length:Int)) (
  G ((i_1).toNat < out_3.length) (
  if (ix out_3 i_1)=true then
  G (0<=i_1/\i_1 < (out_3.length:Int)) (
  G ((i_1).toNat < out_3.length) (
  G (fits (i_1+(1:Int))) (
  r17 (i_1+(1:Int)) (out_3.set (i_1).toNat true)))) else
  G (0<=i_1/\i_1 < (y'.length:Int)) (
  G ((i_1).toNat < y'.length) (
  G (0<=i_1/\i_1 < (out_3.length:Int)) (
  G ((i_1).toNat < out_3.length) (
  G (fits (i_1+(1:Int))) (
  r17 (i_1+(1:Int)) (out_3.set (i_1).toNat (ix y' i_1))))))))) else
  G (fits (j+(1:Int))) (
  r13 (j+(1:Int)) out_3)
def znC (j:Int) (r13:(Int->Tp19->Option Tp19)) (y':Tp19):(Int×Tp19->Option Tp19)->Int×Tp19->Option Tp19:=
  fun rec x=>zc7 j r13 y' (fun i_1 out_3=>rec (i_1,out_3)) x.1 x.2
def zdM (j:Int) (r13:(Int->Tp19->Option Tp19)) (y':Tp19) (i_1:Int) (out_3:Tp19):Option Tp19:=LFix (znC j r13 y' ) (i_1,out_3)
def zc6 (zag:Tf11) (l:Tp11) (k:Int) (w:Tp20) (from':Tp19) (r13:Int->Tp19->Option Tp19) (j:Int) (out_2:Tp19):Option Tp19:=
  if (decide (j < (((((ix l k).2).2).1).length:Int)))=true then
  G (0<=j/\j < (((((ix l k).2).2).1).length:Int)) (
  (zag l (ix ((((ix l k).2).2).1) j) w from').bind (fun y'=>
  zdM j r13 y' (0:Int) out_2)) else
  zfE out_2
def znB (zag:Tf11) (l:Tp11) (k:Int) (w:Tp20) (from':Tp19):(Int×Tp19->Option Tp19)->Int×Tp19->Option Tp19:=
  fun rec x=>zc6 zag l k w from' (fun j out_2=>rec (j,out_2)) x.1 x.2
def zdL (zag:Tf11) (l:Tp11) (k:Int) (w:Tp20) (from':Tp19) (j:Int) (out_2:Tp19):Option Tp19:=LFix (znB zag l k w from' ) (j,out_2)
def zc8 (zag:Tf11) (l:Tp11) (k:Int) (w:Tp20) (r23:Int->Tp19->Option Tp19) (j_1:Int) (out_4:Tp19):Option Tp19:=
  if (decide (j_1 < (((((ix l k).2).2).1).length:Int)))=true then
  G (0<=j_1/\j_1 < (((((ix l k).2).2).1).length:Int)) (
  (zag l (ix ((((ix l k).2).2).1) j_1) w out_4).bind (fun y'_1=>
  G (fits (j_1+(1:Int))) (
  r23 (j_1+(1:Int)) y'_1))) else
  zfE out_4
def znD (zag:Tf11) (l:Tp11) (k:Int) (w:Tp20):(Int×Tp19->Option Tp19)->Int×Tp19->Option Tp19:=
  fun rec x=>zc8 zag l k w (fun j_1 out_4=>rec (j_1,out_4)) x.1 x.2
def zes (zag:Tf11) (l:Tp11) (k:Int) (w:Tp20) (j_1:Int) (out_4:Tp19):Option Tp19:=LFix (znD zag l k w ) (j_1,out_4)
def zdK (y'_2:Tp19) (i_2:Int) (out_6:Tp19) (r33:(Bool->Int->Tp19->Option Tp19)) (again_2:Bool):Option Tp19:=
  G (0<=i_2/\i_2 < (out_6.length:Int)) (
  G ((i_2).toNat < out_6.length) (
  if (ix out_6 i_2)=true then
  G (0<=i_2/\i_2 < (out_6.length:Int)) (
  G ((i_2).toNat < out_6.length) (
  G (fits (i_2+(1:Int))) (
  r33 again_2 (i_2+(1:Int)) (out_6.set (i_2).toNat true)))) else
  G (0<=i_2/\i_2 < (y'_2.length:Int)) (
  G ((i_2).toNat < y'_2.length) (
  G (0<=i_2/\i_2 < (out_6.length:Int)) (
  G ((i_2).toNat < out_6.length) (
  G (fits (i_2+(1:Int))) (
  r33 again_2 (i_2+(1:Int)) (out_6.set (i_2).toNat (ix y'_2 i_2)))))))))
def zdb (r29:(Bool->Tp19->Option Tp19)) (y'_2:Tp19) (r33:Tf16) (again_1:Bool) (i_2:Int) (out_6:Tp19):Option Tp19:=
  if (decide (i_2 < (y'_2.length:Int)))=true then
  if again_1=true then
  zdK y'_2 i_2 out_6 r33 true else
  G (0<=i_2/\i_2 < (y'_2.length:Int)) (
  G ((i_2).toNat < y'_2.length) (
  if (ix y'_2 i_2)=true then
  G (0<=i_2/\i_2 < (out_6.length:Int)) (
  G ((i_2).toNat < out_6.length) (
  zdK y'_2 i_2 out_6 r33 (!(ix out_6 i_2)))) else
  zdK y'_2 i_2 out_6 r33 false)) else
  r29 again_1 out_6
def znF (r29:(Bool->Tp19->Option Tp19)) (y'_2:Tp19):(Bool×Int×Tp19->Option Tp19)->Bool×Int×Tp19->Option Tp19:=
  fun rec x=>zdb r29 y'_2 (fun again_1 i_2 out_6=>rec (again_1,i_2,out_6)) x.1 x.2.1 x.2.2
def zda (r29:(Bool->Tp19->Option Tp19)) (y'_2:Tp19) (again_1:Bool) (i_2:Int) (out_6:Tp19):Option Tp19:=LFix (znF r29 y'_2 ) (again_1,i_2,out_6)
def zc9 (zag:Tf11) (l:Tp11) (k:Int) (w:Tp20) (r29:Bool->Tp19->Option Tp19) (again:Bool) (out_5:Tp19):Option Tp19:=
  if again=true then
  G (0<=(0:Int)/\(0:Int) < (((((ix l k).2).2).1).length:Int)) (
  (zag l (ix ((((ix l k).2).2).1) (0:Int)) w out_5).bind (fun y'_2=>
  zda r29 y'_2 false (0:Int) out_5)) else
  zfE out_5
def znE (zag:Tf11) (l:Tp11) (k:Int) (w:Tp20):(Bool×Tp19->Option Tp19)->Bool×Tp19->Option Tp19:=
  fun rec x=>zc9 zag l k w (fun again out_5=>rec (again,out_5)) x.1 x.2
def zcQ (zag:Tf11) (l:Tp11) (k:Int) (w:Tp20) (again:Bool) (out_5:Tp19):Option Tp19:=LFix (znE zag l k w ) (again,out_5)
def ziQ (zag:Tf11) (l:Tp11) (k:Int) (w:Tp20) (from':Tp19):Option Tp19:=
  G (0<=k/\k < (l.length:Int)) (
  G (mkOK (from'.length:Int) (from'.length:Int) 1) (
  if (decide (((ix l k).1)=(1:Int)))=true then
  zfE (from'.take (List.replicate ((from'.length:Int)).toNat (false:Bool)).length++(List.replicate ((from'.length:Int)).toNat (false:Bool)).drop from'.length) else
  if (decide (((ix l k).1)=(2:Int)))=true then
  zgG l k w from' (0:Int) (List.replicate ((from'.length:Int)).toNat (false:Bool)) else
  if (decide (((ix l k).1)=(3:Int)))=true then
  zdL zag l k w from' (0:Int) (List.replicate ((from'.length:Int)).toNat (false:Bool)) else
  if (decide (((ix l k).1)=(4:Int)))=true then
  zes zag l k w (0:Int) (from'.take (List.replicate ((from'.length:Int)).toNat (false:Bool)).length++(List.replicate ((from'.length:Int)).toNat (false:Bool)).drop from'.length) else
  if (decide (((ix l k).1)=(5:Int)))=true then
  zcQ zag l k w true (from'.take (List.replicate ((from'.length:Int)).toNat (false:Bool)).length++(List.replicate ((from'.length:Int)).toNat (false:Bool)).drop from'.length) else
  zfE (List.replicate ((from'.length:Int)).toNat (false:Bool))))
theorem zqU (r8:Nat->Int->Tp19->Option Tp19) (r8':Int->Tp19->Option Tp19) (h_r8:∀ a0 a1,ChO (fun κ=>r8 κ a0 a1) (r8' a0 a1)) (l k w from' i out_1):ChO (fun κ=>zdN l k w from' (r8 κ) i out_1) (zdN l k w from' r8' i out_1):=by
  unfold zdN
  repeat' with_reducible first | exact ChO.const _ | exact h_r8 _ _ | apply ChO.ite | apply ChO.G
theorem ztm (l k w from'):Cn (zo9 l k w from'):=fun g h hg x=>zqU  _ _ (fun a0 a1=>hg (a0,a1)) l k w from' x.1 x.2
theorem znG (l k w from' i out_1):zgG l k w from' i out_1=zdN l k w from' (zgG l k w from') i out_1:=zax (ztm l k w from') (i,out_1)
theorem zjX (r13:Nat->Int->Tp19->Option Tp19) (r13':Int->Tp19->Option Tp19) (h_r13:∀ a0 a1,ChO (fun κ=>r13 κ a0 a1) (r13' a0 a1)) (r17:Nat->Int->Tp19->Option Tp19) (r17':Int->Tp19->Option Tp19) (h_r17:∀ a0 a1,ChO (fun κ=>r17 κ a0 a1) (r17' a0 a1)) (j y' i_1 out_3):ChO (fun κ=>zc7 j (r13 κ) y' (r17 κ) i_1 out_3) (zc7 j r13' y' r17' i_1 out_3):=by
  unfold zc7
  repeat' with_reducible first | exact ChO.const _ | exact h_r13 _ _ | exact h_r17 _ _ | apply ChO.ite | apply ChO.G
theorem zh6 (r13 j y'):Cn (znC j r13 y'):=fun g h hg x=>zjX (fun _=>r13) r13 (fun _ _=>ChO.const _) _ _ (fun a0 a1=>hg (a0,a1)) j y' x.1 x.2
theorem zl6 (r13 j y' i_1 out_3):zdM j r13 y' i_1 out_3=zc7 j r13 y' (zdM j r13 y') i_1 out_3:=zax (zh6 r13 j y') (i_1,out_3)
theorem zrz (r13:Nat->Int->Tp19->Option Tp19) (r13':Int->Tp19->Option Tp19) (h_r13:∀ a0 a1,ChO (fun κ=>r13 κ a0 a1) (r13' a0 a1)) (j y' i_1 out_3):ChO (fun κ=>zdM j (r13 κ) y' i_1 out_3) (zdM j r13' y' i_1 out_3):=by
  unfold zdM
  exact zbH (fun κ=>(zh6 (r13 κ) j y').mono) (zh6 r13' j y').mono (fun g h hg x=>zjX r13 r13' h_r13 _ _ (fun a0 a1=>hg (a0,a1)) j y' x.1 x.2) _
theorem zjW (zag:Nat->Tf11) (zaB:Tf11) (za4:∀ a0 a1 a2 a3,ChO (fun κ=>zag κ a0 a1 a2 a3) (zaB a0 a1 a2 a3)) (r13:Nat->Int->Tp19->Option Tp19) (r13':Int->Tp19->Option Tp19) (h_r13:∀ a0 a1,ChO (fun κ=>r13 κ a0 a1) (r13' a0 a1)) (l k w from' j out_2):ChO (fun κ=>zc6 (zag κ) l k w from' (r13 κ) j out_2) (zc6 zaB l k w from' r13' j out_2):=by
  unfold zc6
  repeat' with_reducible first | exact ChO.const _ | exact za4 _ _ _ _ | exact h_r13 _ _ | (apply zrz<;>assumption) | apply ChO.ite | apply ChO.G | (apply ChO.bind;intro _) | (apply ChO.bind2 (za4 _ _ _ _);intro _)
theorem zh5 (zag l k w from'):Cn (znB zag l k w from'):=fun g h hg x=>zjW (fun _=>zag) zag (fun _ _ _ _=>ChO.const _) _ _ (fun a0 a1=>hg (a0,a1)) l k w from' x.1 x.2
theorem zl5 (zag l k w from' j out_2):zdL zag l k w from' j out_2=zc6 zag l k w from' (zdL zag l k w from') j out_2:=zax (zh5 zag l k w from') (j,out_2)
theorem zry (zag:Nat->Tf11) (zaB:Tf11) (za4:∀ a0 a1 a2 a3,ChO (fun κ=>zag κ a0 a1 a2 a3) (zaB a0 a1 a2 a3)) (l k w from' j out_2):ChO (fun κ=>zdL (zag κ) l k w from' j out_2) (zdL zaB l k w from' j out_2):=by
  unfold zdL
  exact zbH (fun κ=>(zh5 (zag κ) l k w from').mono) (zh5 zaB l k w from').mono (fun g h hg x=>zjW zag zaB za4 _ _ (fun a0 a1=>hg (a0,a1)) l k w from' x.1 x.2) _
theorem zjY (zag:Nat->Tf11) (zaB:Tf11) (za4:∀ a0 a1 a2 a3,ChO (fun κ=>zag κ a0 a1 a2 a3) (zaB a0 a1 a2 a3)) (r23:Nat->Int->Tp19->Option Tp19) (r23':Int->Tp19->Option Tp19) (h_r23:∀ a0 a1,ChO (fun κ=>r23 κ a0 a1) (r23' a0 a1)) (l k w j_1 out_4):ChO (fun κ=>zc8 (zag κ) l k w (r23 κ) j_1 out_4) (zc8 zaB l k w r23' j_1 out_4):=by
  unfold zc8
  repeat' with_reducible first | exact ChO.const _ | exact za4 _ _ _ _ | exact h_r23 _ _ | apply ChO.ite | apply ChO.G | (apply ChO.bind;intro _) | (apply ChO.bind2 (za4 _ _ _ _);intro _)
theorem zh7 (zag l k w):Cn (znD zag l k w):=fun g h hg x=>zjY (fun _=>zag) zag (fun _ _ _ _=>ChO.const _) _ _ (fun a0 a1=>hg (a0,a1)) l k w x.1 x.2
theorem zl7 (zag l k w j_1 out_4):zes zag l k w j_1 out_4=zc8 zag l k w (zes zag l k w) j_1 out_4:=zax (zh7 zag l k w) (j_1,out_4)
theorem zrA (zag:Nat->Tf11) (zaB:Tf11) (za4:∀ a0 a1 a2 a3,ChO (fun κ=>zag κ a0 a1 a2 a3) (zaB a0 a1 a2 a3)) (l k w j_1 out_4):ChO (fun κ=>zes (zag κ) l k w j_1 out_4) (zes zaB l k w j_1 out_4):=by
  unfold zes
  exact zbH (fun κ=>(zh7 (zag κ) l k w).mono) (zh7 zaB l k w).mono (fun g h hg x=>zjY zag zaB za4 _ _ (fun a0 a1=>hg (a0,a1)) l k w x.1 x.2) _
theorem zrx (r33:Nat->Tf16) (r33':Tf16) (h_r33:∀ a0 a1 a2,ChO (fun κ=>r33 κ a0 a1 a2) (r33' a0 a1 a2)) (y'_2 i_2 out_6 again_2):ChO (fun κ=>zdK y'_2 i_2 out_6 (r33 κ) again_2) (zdK y'_2 i_2 out_6 r33' again_2):=by
  unfold zdK
  repeat' with_reducible first | exact ChO.const _ | exact h_r33 _ _ _ | apply ChO.ite | apply ChO.G
theorem zj0 (r29:Nat->Bool->Tp19->Option Tp19) (r29':Bool->Tp19->Option Tp19) (h_r29:∀ a0 a1,ChO (fun κ=>r29 κ a0 a1) (r29' a0 a1)) (r33:Nat->Tf16) (r33':Tf16) (h_r33:∀ a0 a1 a2,ChO (fun κ=>r33 κ a0 a1 a2) (r33' a0 a1 a2)) (y'_2 again_1 i_2 out_6):ChO (fun κ=>zdb (r29 κ) y'_2 (r33 κ) again_1 i_2 out_6) (zdb r29' y'_2 r33' again_1 i_2 out_6):=by
  unfold zdb
  repeat' with_reducible first | exact ChO.const _ | exact h_r29 _ _ | exact h_r33 _ _ _ | (apply zrx<;>assumption) | apply ChO.ite | apply ChO.G
theorem zh9 (r29 y'_2):Cn (znF r29 y'_2):=fun g h hg x=>zj0 (fun _=>r29) r29 (fun _ _=>ChO.const _) _ _ (fun a0 a1 a2=>hg (a0,a1,a2)) y'_2 x.1 x.2.1 x.2.2
theorem zl9 (r29 y'_2 again_1 i_2 out_6):zda r29 y'_2 again_1 i_2 out_6=zdb r29 y'_2 (zda r29 y'_2) again_1 i_2 out_6:=zax (zh9 r29 y'_2) (again_1,i_2,out_6)
theorem zrC (r29:Nat->Bool->Tp19->Option Tp19) (r29':Bool->Tp19->Option Tp19) (h_r29:∀ a0 a1,ChO (fun κ=>r29 κ a0 a1) (r29' a0 a1)) (y'_2 again_1 i_2 out_6):ChO (fun κ=>zda (r29 κ) y'_2 again_1 i_2 out_6) (zda r29' y'_2 again_1 i_2 out_6):=by
  unfold zda
  exact zbH (fun κ=>(zh9 (r29 κ) y'_2).mono) (zh9 r29' y'_2).mono (fun g h hg x=>zj0 r29 r29' h_r29 _ _ (fun a0 a1 a2=>hg (a0,a1,a2)) y'_2 x.1 x.2.1 x.2.2) _
theorem zjZ (zag:Nat->Tf11) (zaB:Tf11) (za4:∀ a0 a1 a2 a3,ChO (fun κ=>zag κ a0 a1 a2 a3) (zaB a0 a1 a2 a3)) (r29:Nat->Bool->Tp19->Option Tp19) (r29':Bool->Tp19->Option Tp19) (h_r29:∀ a0 a1,ChO (fun κ=>r29 κ a0 a1) (r29' a0 a1)) (l k w again out_5):ChO (fun κ=>zc9 (zag κ) l k w (r29 κ) again out_5) (zc9 zaB l k w r29' again out_5):=by
  unfold zc9
  repeat' with_reducible first | exact ChO.const _ | exact za4 _ _ _ _ | exact h_r29 _ _ | (apply zrC<;>assumption) | apply ChO.ite | apply ChO.G | (apply ChO.bind;intro _) | (apply ChO.bind2 (za4 _ _ _ _);intro _)
theorem zh8 (zag l k w):Cn (znE zag l k w):=fun g h hg x=>zjZ (fun _=>zag) zag (fun _ _ _ _=>ChO.const _) _ _ (fun a0 a1=>hg (a0,a1)) l k w x.1 x.2
theorem zl8 (zag l k w again out_5):zcQ zag l k w again out_5=zc9 zag l k w (zcQ zag l k w) again out_5:=zax (zh8 zag l k w) (again,out_5)
theorem zrB (zag:Nat->Tf11) (zaB:Tf11) (za4:∀ a0 a1 a2 a3,ChO (fun κ=>zag κ a0 a1 a2 a3) (zaB a0 a1 a2 a3)) (l k w again out_5):ChO (fun κ=>zcQ (zag κ) l k w again out_5) (zcQ zaB l k w again out_5):=by
  unfold zcQ
  exact zbH (fun κ=>(zh8 (zag κ) l k w).mono) (zh8 zaB l k w).mono (fun g h hg x=>zjZ zag zaB za4 _ _ (fun a0 a1=>hg (a0,a1)) l k w x.1 x.2) _
theorem zum (zag:Nat->Tf11) (zaB:Tf11) (za4:∀ a0 a1 a2 a3,ChO (fun κ=>zag κ a0 a1 a2 a3) (zaB a0 a1 a2 a3)) (l k w from'):ChO (fun κ=>ziQ (zag κ) l k w from') (ziQ zaB l k w from'):=by
  unfold ziQ
  repeat' with_reducible first | exact ChO.const _ | exact za4 _ _ _ _ | (apply zry<;>assumption) | (apply zrA<;>assumption) | (apply zrB<;>assumption) | apply ChO.ite | apply ChO.G
def znA:(Tp11×Int×Tp20×Tp19->Option Tp19)->Tp11×Int×Tp20×Tp19->Option Tp19:=
  fun rec X=>ziQ (fun l k w from'=>rec (l,k,w,from')) X.1 X.2.1 X.2.2.1 X.2.2.2
def zg2 (l:Tp11) (k:Int) (w:Tp20) (from':Tp19):Option Tp19:=LFix znA (l,k,w,from')
theorem zwY:Cn znA:=fun g h hg X=>zum _ _ (fun l k w from'=>hg (l,k,w,from')) X.1 X.2.1 X.2.2.1 X.2.2.2
theorem zwZ (l k w from'):zg2 l k w from'=ziQ zg2 l k w from':=zax zwY (l,k,w,from')

def zwc (l:Tp11) (w:Tp20):Option (Bool):=
  G (fits ((w.length:Int)+(1:Int))) (
  G (mkOK ((w.length:Int)+(1:Int)) ((w.length:Int)+(1:Int)) 1) (
  G (0<=(0:Int)/\(0:Int) < ((List.replicate ((w.length:Int)+(1:Int)).toNat (false:Bool)).length:Int)) (
  G (((0:Int)).toNat < (List.replicate ((w.length:Int)+(1:Int)).toNat (false:Bool)).length) (
  G (fits ((l.length:Int) - (1:Int))) (
  (zg2 l ((l.length:Int) - (1:Int)) w ((List.replicate ((w.length:Int)+(1:Int)).toNat (false:Bool)).set ((0:Int)).toNat true)).bind (fun y'=>
  G (0<=(w.length:Int)/\(w.length:Int) < (y'.length:Int)) (
  G (((w.length:Int)).toNat < y'.length) (
  some (ix y' (w.length:Int))))))))))

def zcJ (letters:Int) (text:(List UInt8)) (w:Tp20):Option (Bool):=
  (zb6 letters text).bind (fun y'_16=>
  (zix (y'_16.1.1,(y'_16.1.2.1,(y'_16.1.2.2.1,(y'_16.1.2.2.2.1,()))))).bind (fun y'_3=>
  (znw text).bind (fun y'_15=>
  if (decide (¬ y'_15.1.1=(0:Int)))=true then
  if (decide (y'_16.2=(4:Int)))=true then
  some y'_3 else
  some false else
  (zh4 letters y'_15.2).bind (fun y'_14=>
  if (decide (¬ y'_14.2=(0:Int)))=true then
  if (decide (y'_16.2=y'_14.2))=true then
  some y'_3 else
  some false else
  (ztr (y'_16.1.1,(y'_16.1.2.1,(y'_16.1.2.2.1,(y'_16.1.2.2.2.1,())))) (y'_14.1.1,(y'_14.1.2.1,(y'_14.1.2.2.1,(y'_14.1.2.2.2.1,()))))).bind (fun y'_10=>
  if (decide (¬ y'_16.2=(0:Int)))=true then
  some false else
  if (!y'_10)=true then
  some false else
  (zwb letters w).bind (fun y'_11=>
  if (decide (¬ y'_11=(0:Int)))=true then
  some true else
  (zlz (y'_16.1.1,(y'_16.1.2.1,(y'_16.1.2.2.1,(y'_16.1.2.2.2.1,())))) w).bind (fun y'_12=>
  (zwc y'_15.2 w).bind (fun y'_13=>
  some (decide (y'_12=y'_13))))))))))

end
end Go.Proofs.Ytheahfijmfffcaa.regularDetW
