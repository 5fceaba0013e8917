import Derived.Test.YthmffpifpeddfaaEv38n21
set_option maxHeartbeats 1000000
set_option maxRecDepth 20000
set_option linter.unusedVariables false
namespace Go.Proofs.Ythmffpifpeddfaa.fixReadsW
open Go Go.Ab
noncomputable section
abbrev Tp4:=(List Bool)
abbrev Tp3:=(List (Int×Bool×Unit))
abbrev Tp2:=(Int×Int×Int×Int×Unit)
abbrev Tp1:=(List Tp2)
def zby (r:((List UInt8)×Int×Int×Int×Tp3×Unit)):Option (Int):=
  if (decide (r.2.1 < (r.1.length:Int)))=true then
  G (0<=r.2.1/\r.2.1 < (r.1.length:Int)) (
  some (bAt r.1 r.2.1)) else
  some (0:Int)

def za0 (r:((List UInt8)×Int×Int×Int×Tp3×Unit)) (code:Int):Option ((Unit)⊕(Int×Int)):=
  some (.inr ((((code,(r.2.1,())),())).1.1,(((code,(r.2.1,())),())).1.2.1))

def zaI (c:(List UInt8)) (c_1 c_2 c_3:Int) (l:Tp3):Option (((List UInt8)×Int×Int×Int×Tp3)⊕(Int×Int)):=
  G (fits (c_3+(1:Int))) (
  if (decide ((30:Int) < (c_3+(1:Int))))=true then
  pbind (za0 (c,(c_1,(c_2,(c_3+(1:Int),(l,()))))) (7:Int)) (fun _=>
  some (.inl (c,c_1,c_2,c_3+(1:Int),l))) (fun p=>some (.inr (p.1,p.2))) else
  some (.inl (c,c_1,c_2,c_3+(1:Int),l)))

def zaR (l:Tp3) (r1:Int->(List UInt8)->Int->Int->Int->Tp3->Option ((List UInt8)×Int×Int×Int×Tp3)) (t:Int) (r:(List UInt8)) (r_1 r_2 r_3:Int) (l_1:Tp3):Option ((List UInt8)×Int×Int×Int×Tp3):=
  if (decide (t < (l.length:Int)))=true then
  G (0<=t/\t < (l_1.length:Int)) (
  G ((t).toNat < l_1.length) (
  G (0<=t/\t < (l_1.length:Int)) (
  G ((t).toNat < l_1.length) (
  G (fits (t+(1:Int))) (
  r1 (t+(1:Int)) r r_1 r_2 r_3 (l_1.set (t).toNat ((ix l_1 t).1,(!(((ix l_1 t).2).1),((ix l_1 t).2).2)))))))) else
  some (r,r_1,r_2,r_3,l_1)
def zdC (l:Tp3):(Int×(List UInt8)×Int×Int×Int×Tp3->Option ((List UInt8)×Int×Int×Int×Tp3))->Int×(List UInt8)×Int×Int×Int×Tp3->Option ((List UInt8)×Int×Int×Int×Tp3):=
  fun rec x=>zaR l (fun t r r_1 r_2 r_3 l_1=>rec (t,r,r_1,r_2,r_3,l_1)) x.1 x.2.1 x.2.2.1 x.2.2.2.1 x.2.2.2.2.1 x.2.2.2.2.2
def zch (l:Tp3) (t:Int) (r:(List UInt8)) (r_1 r_2 r_3:Int) (l_1:Tp3):Option ((List UInt8)×Int×Int×Int×Tp3):=LFix (zdC l ) (t,r,r_1,r_2,r_3,l_1)
def zcm (c:(List UInt8)) (c_1 c_2 c_3:Int) (l:Tp3):Option ((List UInt8)×Int×Int×Int×Tp3):=
  zch l (0:Int) c c_1 c_2 c_3 l
theorem zfx (r1:Nat->Int->(List UInt8)->Int->Int->Int->Tp3->Option ((List UInt8)×Int×Int×Int×Tp3)) (r1':Int->(List UInt8)->Int->Int->Int->Tp3->Option ((List UInt8)×Int×Int×Int×Tp3)) (h_r1:∀ a0 a1 a2 a3 a4 a5,ChO (fun κ=>r1 κ a0 a1 a2 a3 a4 a5) (r1' a0 a1 a2 a3 a4 a5)) (l t r r_1 r_2 r_3 l_1):ChO (fun κ=>zaR l (r1 κ) t r r_1 r_2 r_3 l_1) (zaR l r1' t r r_1 r_2 r_3 l_1):=by
  unfold zaR
  repeat' with_reducible first | exact ChO.const _ | exact h_r1 _ _ _ _ _ _ | apply ChO.ite | apply ChO.G
theorem zgj (l):Cn (zdC l):=fun g h hg x=>zfx  _ _ (fun a0 a1 a2 a3 a4 a5=>hg (a0,a1,a2,a3,a4,a5)) l x.1 x.2.1 x.2.2.1 x.2.2.2.1 x.2.2.2.2.1 x.2.2.2.2.2
theorem zdj (l t r r_1 r_2 r_3 l_1):zch l t r r_1 r_2 r_3 l_1=zaR l (zch l) t r r_1 r_2 r_3 l_1:=zfr (zgj l) (t,r,r_1,r_2,r_3,l_1)

def zbD (c:Int) (c_1:(List UInt8)) (c_2 c_3 c_4:Int) (l:Tp3):Option (((List UInt8)×Int×Int×Int×Tp3)⊕(Int×Int)):=
  (zby (c_1,(c_2,(c_3,(c_4,(l,())))))).bind (fun y'=>
  if (decide (¬ y'=c))=true then
  pbind (za0 (c_1,(c_2,(c_3,(c_4,(l,()))))) (4:Int)) (fun _=>
  G (fits (c_2+(1:Int))) (
  some (.inl (c_1,c_2+(1:Int),c_3,c_4,l)))) (fun p=>some (.inr (p.1,p.2))) else
  G (fits (c_2+(1:Int))) (
  some (.inl (c_1,c_2+(1:Int),c_3,c_4,l))))

def zcH (ns:List (Int×Bool)) (c:Int):Nat->Option (Nat×Bool)
  | 0=>none
  | k+1=>if (ns.getD k (0,false)).1=c then some (k,(ns.getD k (0,false)).2) else zcH ns c k
abbrev FxNm:=List (Int×(Bool×Unit))
abbrev FxTr:=Tr (Int×(Int×Unit))
def nmP (ns:FxNm):List (Int×Bool):=ns.map fun x=>(x.1,x.2.1)
def zaU (c:Int) (s:List UInt8) (i dp cnt:Int) (ns:FxNm):Option ((FxTr×(List UInt8×(Int×(Int×(Int×FxNm)))))⊕(Int×Int)):=
  G (0<=i/\i<=1000000) (G (0<=cnt/\cnt<=1000000) (G (ns.length<=1000) (match zcH (nmP ns) c ns.length with
    | some (j,false)=>if 30 < cnt+1 then some (.inr (7,i)) else some (.inl (.mk (88,(j:Int),()) [],s,i+1,dp,cnt+1,ns))
    | _=>some (.inr (5,i)))))


def za4 (zaa:(List UInt8)->Int->Int->Int->Tp3->Option (((Tr (Int×Int×Unit))×(List UInt8)×Int×Int×Int×Tp3)⊕(Int×Int))) (c y'_6:Int) (r:(List UInt8)) (r_1 r_2 r_3:Int) (l_1:Tp3):Option (((Tr (Int×Int×Unit))×(List UInt8)×Int×Int×Int×Tp3)⊕(Int×Int)):=
  pbind (zaa r r_1 r_2 r_3 l_1) (fun y'_20=>
  some (.inl (Tr.mk (c,(IntKind.wrap .i64 (IntKind.wrap .u8 (y'_6 - (97:Int))),())) ([y'_20.1]),y'_20.2.1,y'_20.2.2.1,y'_20.2.2.2.1,y'_20.2.2.2.2.1,y'_20.2.2.2.2.2))) (fun p=>some (.inr (p.1,p.2)))
def zbs (zaa:(List UInt8)->Int->Int->Int->Tp3->Option (((Tr (Int×Int×Unit))×(List UInt8)×Int×Int×Int×Tp3)⊕(Int×Int))) (c:Int) (y':(List UInt8)) (y'_1 y'_2 y'_3:Int) (y'_4:Tp3) (y'_6:Int):Option (((Tr (Int×Int×Unit))×(List UInt8)×Int×Int×Int×Tp3)⊕(Int×Int)):=
  G (fits ((y'_1+(1:Int))+(1:Int))) (
  if (decide (c=(60:Int)))=true then
  pbind (zbD (62:Int) y' ((y'_1+(1:Int))+(1:Int)) y'_2 y'_3 y'_4) (fun y'_13=>
  za4 zaa c y'_6 y'_13.1 y'_13.2.1 y'_13.2.2.1 y'_13.2.2.2.1 y'_13.2.2.2.2) (fun p=>some (.inr (p.1,p.2))) else
  pbind (zbD (93:Int) y' ((y'_1+(1:Int))+(1:Int)) y'_2 y'_3 y'_4) (fun y'_26=>
  za4 zaa c y'_6 y'_26.1 y'_26.2.1 y'_26.2.2.1 y'_26.2.2.2.1 y'_26.2.2.2.2) (fun p=>some (.inr (p.1,p.2))))
def za3 (zaa:(List UInt8)->Int->Int->Int->Tp3->Option (((Tr (Int×Int×Unit))×(List UInt8)×Int×Int×Int×Tp3)⊕(Int×Int))) (c:Int) (y':(List UInt8)) (y'_1 y'_2 y'_3:Int) (y'_4:Tp3) (y'_6:Int) (t:Bool):Option (((Tr (Int×Int×Unit))×(List UInt8)×Int×Int×Int×Tp3)⊕(Int×Int)):=
  if t=true then
  pbind (za0 (y',(y'_1+(1:Int),(y'_2,(y'_3,(y'_4,()))))) (4:Int)) (fun _=>
  zbs zaa c y' y'_1 y'_2 y'_3 y'_4 y'_6) (fun p=>some (.inr (p.1,p.2))) else
  zbs zaa c y' y'_1 y'_2 y'_3 y'_4 y'_6
def zbJ (zaa:(List UInt8)->Int->Int->Int->Tp3->Option (((Tr (Int×Int×Unit))×(List UInt8)×Int×Int×Int×Tp3)⊕(Int×Int))) (c:Int) (c_1:(List UInt8)) (c_2 c_3 c_4:Int) (l:Tp3):Option (((Tr (Int×Int×Unit))×(List UInt8)×Int×Int×Int×Tp3)⊕(Int×Int)):=
  pbind (zaI c_1 c_2 c_3 c_4 l) (fun y'_5=>
  G (fits (y'_5.2.1+(1:Int))) (
  (zby (y'_5.1,(y'_5.2.1+(1:Int),(y'_5.2.2.1,(y'_5.2.2.2.1,(y'_5.2.2.2.2,())))))).bind (fun y'_6=>
  if (decide (y'_6 < (97:Int)))=true then
  za3 zaa c y'_5.1 y'_5.2.1 y'_5.2.2.1 y'_5.2.2.2.1 y'_5.2.2.2.2 y'_6 true else
  za3 zaa c y'_5.1 y'_5.2.1 y'_5.2.2.1 y'_5.2.2.2.1 y'_5.2.2.2.2 y'_6 (decide ((100:Int) < y'_6))))) (fun p=>some (.inr (p.1,p.2)))
def zbI (zaa:(List UInt8)->Int->Int->Int->Tp3->Option (((Tr (Int×Int×Unit))×(List UInt8)×Int×Int×Int×Tp3)⊕(Int×Int))) (c:Int) (y'_1:(List UInt8)) (y'_2 y'_3 y'_4:Int) (y'_5:Tp3) (y'_7:Int):Option (((Tr (Int×Int×Unit))×(List UInt8)×Int×Int×Int×Tp3)⊕(Int×Int)):=
  G (fits ((y'_2+(1:Int))+(1:Int))) (
  pbind (zbD (46:Int) y'_1 ((y'_2+(1:Int))+(1:Int)) y'_3 y'_4 y'_5) (fun y'_14=>
  G (room y'_14.2.2.2.2 ([(y'_7,(false,()))]) 2) (
  pbind (zaa y'_14.1 y'_14.2.1 y'_14.2.2.1 y'_14.2.2.2.1 (y'_14.2.2.2.2++([(y'_7,(false,()))]))) (fun y'_21=>
  G (fits ((y'_21.2.2.2.2.2.length:Int) - (1:Int))) (
  G (0<=(y'_21.2.2.2.2.2.length:Int) - (1:Int)/\(y'_21.2.2.2.2.2.length:Int) - (1:Int)<=(y'_21.2.2.2.2.2.length:Int)) (
  some (.inl (Tr.mk (c,(((y'_21.2.2.2.2.2.take ((y'_21.2.2.2.2.2.length:Int) - (1:Int)).toNat).length:Int),())) ([y'_21.1]),y'_21.2.1,y'_21.2.2.1,y'_21.2.2.2.1,y'_21.2.2.2.2.1,y'_21.2.2.2.2.2.take ((y'_21.2.2.2.2.2.length:Int) - (1:Int)).toNat))))) (fun p=>some (.inr (p.1,p.2))))) (fun p=>some (.inr (p.1,p.2))))
def zbh (zaa:(List UInt8)->Int->Int->Int->Tp3->Option (((Tr (Int×Int×Unit))×(List UInt8)×Int×Int×Int×Tp3)⊕(Int×Int))) (c:Int) (y'_1:(List UInt8)) (y'_2 y'_3 y'_4:Int) (y'_5:Tp3) (y'_7:Int) (t:Bool):Option (((Tr (Int×Int×Unit))×(List UInt8)×Int×Int×Int×Tp3)⊕(Int×Int)):=
  if t=true then
  pbind (za0 (y'_1,(y'_2+(1:Int),(y'_3,(y'_4,(y'_5,()))))) (4:Int)) (fun _=>
  zbI zaa c y'_1 y'_2 y'_3 y'_4 y'_5 y'_7) (fun p=>some (.inr (p.1,p.2))) else
  zbI zaa c y'_1 y'_2 y'_3 y'_4 y'_5 y'_7
def zbH (zaa:(List UInt8)->Int->Int->Int->Tp3->Option (((Tr (Int×Int×Unit))×(List UInt8)×Int×Int×Int×Tp3)⊕(Int×Int))) (c:Int) (c_1:(List UInt8)) (c_2 c_3 c_4:Int) (l:Tp3):Option (((Tr (Int×Int×Unit))×(List UInt8)×Int×Int×Int×Tp3)⊕(Int×Int)):=
  pbind (zaI c_1 c_2 c_3 c_4 l) (fun y'_6=>
  G (fits (y'_6.2.1+(1:Int))) (
  (zby (y'_6.1,(y'_6.2.1+(1:Int),(y'_6.2.2.1,(y'_6.2.2.2.1,(y'_6.2.2.2.2,())))))).bind (fun y'_7=>
  if (decide (y'_7 < (88:Int)))=true then
  zbh zaa c y'_6.1 y'_6.2.1 y'_6.2.2.1 y'_6.2.2.2.1 y'_6.2.2.2.2 y'_7 true else
  zbh zaa c y'_6.1 y'_6.2.1 y'_6.2.2.1 y'_6.2.2.2.1 y'_6.2.2.2.2 y'_7 (decide ((90:Int) < y'_7))))) (fun p=>some (.inr (p.1,p.2)))
def zbU (zaa:(List UInt8)->Int->Int->Int->Tp3->Option (((Tr (Int×Int×Unit))×(List UInt8)×Int×Int×Int×Tp3)⊕(Int×Int))) (c:Int) (c_1:(List UInt8)) (c_2 c_3 c_4:Int) (l:Tp3):Option (((Tr (Int×Int×Unit))×(List UInt8)×Int×Int×Int×Tp3)⊕(Int×Int)):=
  if (decide ((l.length:Int)=(3:Int)))=true then
  pbind (za0 (c_1,(c_2,(c_3,(c_4,(l,()))))) (7:Int)) (fun _=>
  zbH zaa c c_1 c_2 c_3 c_4 l) (fun p=>some (.inr (p.1,p.2))) else
  zbH zaa c c_1 c_2 c_3 c_4 l
def zbn (zaa:(List UInt8)->Int->Int->Int->Tp3->Option (((Tr (Int×Int×Unit))×(List UInt8)×Int×Int×Int×Tp3)⊕(Int×Int))) (r2:(Tr (Int×Int×Unit))->(List UInt8)->Int->Int->Int->Tp3->Option (((Tr (Int×Int×Unit))×(List UInt8)×Int×Int×Int×Tp3)⊕(Int×Int))) (n:(Tr (Int×Int×Unit))) (r:(List UInt8)) (r_1 r_2 r_3:Int) (l_1:Tp3):Option (((Tr (Int×Int×Unit))×(List UInt8)×Int×Int×Int×Tp3)⊕(Int×Int)):=
  (zby (r,(r_1,(r_2,(r_3,(l_1,())))))).bind (fun y'_7=>
  if (decide (y'_7=(38:Int)))=true then
  pbind (zaI r r_1 r_2 r_3 l_1) (fun y'_13=>
  G (fits (y'_13.2.1+(1:Int))) (
  pbind (zaa y'_13.1 (y'_13.2.1+(1:Int)) y'_13.2.2.1 y'_13.2.2.2.1 y'_13.2.2.2.2) (fun y'_20=>
  r2 (Tr.mk ((38:Int),((0:Int),())) ([n,y'_20.1])) y'_20.2.1 y'_20.2.2.1 y'_20.2.2.2.1 y'_20.2.2.2.2.1 y'_20.2.2.2.2.2) (fun p=>some (.inr (p.1,p.2))))) (fun p=>some (.inr (p.1,p.2))) else
  some (.inl (n,r,r_1,r_2,r_3,l_1)))
def zdB (zaa:(List UInt8)->Int->Int->Int->Tp3->Option (((Tr (Int×Int×Unit))×(List UInt8)×Int×Int×Int×Tp3)⊕(Int×Int))):((Tr (Int×Int×Unit))×(List UInt8)×Int×Int×Int×Tp3->Option (((Tr (Int×Int×Unit))×(List UInt8)×Int×Int×Int×Tp3)⊕(Int×Int)))->(Tr (Int×Int×Unit))×(List UInt8)×Int×Int×Int×Tp3->Option (((Tr (Int×Int×Unit))×(List UInt8)×Int×Int×Int×Tp3)⊕(Int×Int)):=
  fun rec x=>zbn zaa (fun n r r_1 r_2 r_3 l_1=>rec (n,r,r_1,r_2,r_3,l_1)) x.1 x.2.1 x.2.2.1 x.2.2.2.1 x.2.2.2.2.1 x.2.2.2.2.2
def zbj (zaa:(List UInt8)->Int->Int->Int->Tp3->Option (((Tr (Int×Int×Unit))×(List UInt8)×Int×Int×Int×Tp3)⊕(Int×Int))) (n:(Tr (Int×Int×Unit))) (r:(List UInt8)) (r_1 r_2 r_3:Int) (l_1:Tp3):Option (((Tr (Int×Int×Unit))×(List UInt8)×Int×Int×Int×Tp3)⊕(Int×Int)):=LFix (zdB zaa ) (n,r,r_1,r_2,r_3,l_1)
def zbC (zaa:(List UInt8)->Int->Int->Int->Tp3->Option (((Tr (Int×Int×Unit))×(List UInt8)×Int×Int×Int×Tp3)⊕(Int×Int))) (c:(List UInt8)) (c_1 c_2 c_3:Int) (l:Tp3):Option (((Tr (Int×Int×Unit))×(List UInt8)×Int×Int×Int×Tp3)⊕(Int×Int)):=
  pbind (zaa c c_1 c_2 c_3 l) (fun y'_6=>
  zbj zaa y'_6.1 y'_6.2.1 y'_6.2.2.1 y'_6.2.2.2.1 y'_6.2.2.2.2.1 y'_6.2.2.2.2.2) (fun p=>some (.inr (p.1,p.2)))
def zbd (zaa:(List UInt8)->Int->Int->Int->Tp3->Option (((Tr (Int×Int×Unit))×(List UInt8)×Int×Int×Int×Tp3)⊕(Int×Int))) (r2:(Tr (Int×Int×Unit))->(List UInt8)->Int->Int->Int->Tp3->Option (((Tr (Int×Int×Unit))×(List UInt8)×Int×Int×Int×Tp3)⊕(Int×Int))) (n:(Tr (Int×Int×Unit))) (r:(List UInt8)) (r_1 r_2 r_3:Int) (l_1:Tp3):Option (((Tr (Int×Int×Unit))×(List UInt8)×Int×Int×Int×Tp3)⊕(Int×Int)):=
  (zby (r,(r_1,(r_2,(r_3,(l_1,())))))).bind (fun y'_7=>
  if (decide (y'_7=(124:Int)))=true then
  pbind (zaI r r_1 r_2 r_3 l_1) (fun y'_13=>
  G (fits (y'_13.2.1+(1:Int))) (
  pbind (zbC zaa y'_13.1 (y'_13.2.1+(1:Int)) y'_13.2.2.1 y'_13.2.2.2.1 y'_13.2.2.2.2) (fun y'_20=>
  r2 (Tr.mk ((124:Int),((0:Int),())) ([n,y'_20.1])) y'_20.2.1 y'_20.2.2.1 y'_20.2.2.2.1 y'_20.2.2.2.2.1 y'_20.2.2.2.2.2) (fun p=>some (.inr (p.1,p.2))))) (fun p=>some (.inr (p.1,p.2))) else
  some (.inl (n,r,r_1,r_2,r_3,l_1)))
def zdk (zaa:(List UInt8)->Int->Int->Int->Tp3->Option (((Tr (Int×Int×Unit))×(List UInt8)×Int×Int×Int×Tp3)⊕(Int×Int))):((Tr (Int×Int×Unit))×(List UInt8)×Int×Int×Int×Tp3->Option (((Tr (Int×Int×Unit))×(List UInt8)×Int×Int×Int×Tp3)⊕(Int×Int)))->(Tr (Int×Int×Unit))×(List UInt8)×Int×Int×Int×Tp3->Option (((Tr (Int×Int×Unit))×(List UInt8)×Int×Int×Int×Tp3)⊕(Int×Int)):=
  fun rec x=>zbd zaa (fun n r r_1 r_2 r_3 l_1=>rec (n,r,r_1,r_2,r_3,l_1)) x.1 x.2.1 x.2.2.1 x.2.2.2.1 x.2.2.2.2.1 x.2.2.2.2.2
def za9 (zaa:(List UInt8)->Int->Int->Int->Tp3->Option (((Tr (Int×Int×Unit))×(List UInt8)×Int×Int×Int×Tp3)⊕(Int×Int))) (n:(Tr (Int×Int×Unit))) (r:(List UInt8)) (r_1 r_2 r_3:Int) (l_1:Tp3):Option (((Tr (Int×Int×Unit))×(List UInt8)×Int×Int×Int×Tp3)⊕(Int×Int)):=LFix (zdk zaa ) (n,r,r_1,r_2,r_3,l_1)
def zaP (zaa:(List UInt8)->Int->Int->Int->Tp3->Option (((Tr (Int×Int×Unit))×(List UInt8)×Int×Int×Int×Tp3)⊕(Int×Int))) (c:(List UInt8)) (c_1 c_2 c_3:Int) (l:Tp3):Option (((Tr (Int×Int×Unit))×(List UInt8)×Int×Int×Int×Tp3)⊕(Int×Int)):=
  pbind (zbC zaa c c_1 c_2 c_3 l) (fun y'_6=>
  za9 zaa y'_6.1 y'_6.2.1 y'_6.2.2.1 y'_6.2.2.2.1 y'_6.2.2.2.2.1 y'_6.2.2.2.2.2) (fun p=>some (.inr (p.1,p.2)))
def za8 (zaa:(List UInt8)->Int->Int->Int->Tp3->Option (((Tr (Int×Int×Unit))×(List UInt8)×Int×Int×Int×Tp3)⊕(Int×Int))) (c:(List UInt8)) (c_1 c_2 c_3:Int) (l:Tp3):Option (((Tr (Int×Int×Unit))×(List UInt8)×Int×Int×Int×Tp3)⊕(Int×Int)):=
  G (fits (c_2+(1:Int))) (
  G (fits (c_1+(1:Int))) (
  pbind (zaP zaa c (c_1+(1:Int)) (c_2+(1:Int)) c_3 l) (fun y'_62=>
  pbind (zbD (41:Int) y'_62.2.1 y'_62.2.2.1 y'_62.2.2.2.1 y'_62.2.2.2.2.1 y'_62.2.2.2.2.2) (fun y'_68=>
  G (fits (y'_68.2.2.1 - (1:Int))) (
  some (.inl (y'_62.1,y'_68.1,y'_68.2.1,y'_68.2.2.1 - (1:Int),y'_68.2.2.2.1,y'_68.2.2.2.2)))) (fun p=>some (.inr (p.1,p.2)))) (fun p=>some (.inr (p.1,p.2)))))
def za7 (zaa:(List UInt8)->Int->Int->Int->Tp3->Option (((Tr (Int×Int×Unit))×(List UInt8)×Int×Int×Int×Tp3)⊕(Int×Int))) (c:(List UInt8)) (c_1 c_2 c_3:Int) (l:Tp3) (y':Int) (t_3:Bool):Option (((Tr (Int×Int×Unit))×(List UInt8)×Int×Int×Int×Tp3)⊕(Int×Int)):=
  if t_3=true then
  pbind (zaU y' c c_1 c_2 c_3 l) (fun y'_54=>
  some (.inl (y'_54.1,y'_54.2.1,y'_54.2.2.1,y'_54.2.2.2.1,y'_54.2.2.2.2.1,y'_54.2.2.2.2.2))) (fun p=>some (.inr (p.1,p.2))) else
  if (decide (¬ y'=(40:Int)))=true then
  pbind (za0 (c,(c_1,(c_2,(c_3,(l,()))))) (4:Int)) (fun _=>
  za8 zaa c c_1 c_2 c_3 l) (fun p=>some (.inr (p.1,p.2))) else
  if (decide (c_2=(40:Int)))=true then
  pbind (za0 (c,(c_1,(c_2,(c_3,(l,()))))) (7:Int)) (fun _=>
  za8 zaa c c_1 c_2 c_3 l) (fun p=>some (.inr (p.1,p.2))) else
  za8 zaa c c_1 c_2 c_3 l
def za6 (zaa:(List UInt8)->Int->Int->Int->Tp3->Option (((Tr (Int×Int×Unit))×(List UInt8)×Int×Int×Int×Tp3)⊕(Int×Int))) (c:(List UInt8)) (c_1 c_2 c_3:Int) (l:Tp3) (y':Int) (t_2:Bool):Option (((Tr (Int×Int×Unit))×(List UInt8)×Int×Int×Int×Tp3)⊕(Int×Int)):=
  if t_2=true then
  pbind (zbU zaa y' c c_1 c_2 c_3 l) (fun y'_47=>
  some (.inl (y'_47.1,y'_47.2.1,y'_47.2.2.1,y'_47.2.2.2.1,y'_47.2.2.2.2.1,y'_47.2.2.2.2.2))) (fun p=>some (.inr (p.1,p.2))) else
  if (decide ((88:Int)<=y'))=true then
  za7 zaa c c_1 c_2 c_3 l y' (decide (y'<=(90:Int))) else
  za7 zaa c c_1 c_2 c_3 l y' false
def za5 (zaa:(List UInt8)->Int->Int->Int->Tp3->Option (((Tr (Int×Int×Unit))×(List UInt8)×Int×Int×Int×Tp3)⊕(Int×Int))) (c:(List UInt8)) (c_1 c_2 c_3:Int) (l:Tp3) (y':Int) (t_1:Bool):Option (((Tr (Int×Int×Unit))×(List UInt8)×Int×Int×Int×Tp3)⊕(Int×Int)):=
  if t_1=true then
  pbind (zbJ zaa y' c c_1 c_2 c_3 l) (fun y'_40=>
  some (.inl (y'_40.1,y'_40.2.1,y'_40.2.2.1,y'_40.2.2.2.1,y'_40.2.2.2.2.1,y'_40.2.2.2.2.2))) (fun p=>some (.inr (p.1,p.2))) else
  if (decide (y'=(109:Int)))=true then
  za6 zaa c c_1 c_2 c_3 l y' true else
  za6 zaa c c_1 c_2 c_3 l y' (decide (y'=(110:Int)))
def zbi (zaa:(List UInt8)->Int->Int->Int->Tp3->Option (((Tr (Int×Int×Unit))×(List UInt8)×Int×Int×Int×Tp3)⊕(Int×Int))) (c:(List UInt8)) (c_1 c_2 c_3:Int) (l:Tp3) (y':Int) (t:Bool):Option (((Tr (Int×Int×Unit))×(List UInt8)×Int×Int×Int×Tp3)⊕(Int×Int)):=
  if t=true then
  pbind (zaI c c_1 c_2 c_3 l) (fun y'_6=>
  G (fits (y'_6.2.1+(1:Int))) (
  some (.inl (Tr.mk (y',((0:Int),())) ([]),y'_6.1,y'_6.2.1+(1:Int),y'_6.2.2.1,y'_6.2.2.2.1,y'_6.2.2.2.2)))) (fun p=>some (.inr (p.1,p.2))) else
  if (decide (y'=(33:Int)))=true then
  pbind (zaI c c_1 c_2 c_3 l) (fun y'_12=>
  G (fits (y'_12.2.1+(1:Int))) (
  (zcm y'_12.1 (y'_12.2.1+(1:Int)) y'_12.2.2.1 y'_12.2.2.2.1 y'_12.2.2.2.2).bind (fun y'_33=>
  pbind (zaa y'_33.1 y'_33.2.1 y'_33.2.2.1 y'_33.2.2.2.1 y'_33.2.2.2.2) (fun y'_25=>
  (zcm y'_25.2.1 y'_25.2.2.1 y'_25.2.2.2.1 y'_25.2.2.2.2.1 y'_25.2.2.2.2.2).bind (fun y'_32=>
  some (.inl (Tr.mk ((33:Int),((0:Int),())) ([y'_25.1]),y'_32.1,y'_32.2.1,y'_32.2.2.1,y'_32.2.2.2.1,y'_32.2.2.2.2)))) (fun p=>some (.inr (p.1,p.2)))))) (fun p=>some (.inr (p.1,p.2))) else
  if (decide (y'=(60:Int)))=true then
  za5 zaa c c_1 c_2 c_3 l y' true else
  za5 zaa c c_1 c_2 c_3 l y' (decide (y'=(91:Int)))
def zbR (zaa:(List UInt8)->Int->Int->Int->Tp3->Option (((Tr (Int×Int×Unit))×(List UInt8)×Int×Int×Int×Tp3)⊕(Int×Int))) (c:(List UInt8)) (c_1 c_2 c_3:Int) (l:Tp3):Option (((Tr (Int×Int×Unit))×(List UInt8)×Int×Int×Int×Tp3)⊕(Int×Int)):=
  (zby (c,(c_1,(c_2,(c_3,(l,())))))).bind (fun y'=>
  if (decide (y'=(48:Int)))=true then
  zbi zaa c c_1 c_2 c_3 l y' true else
  zbi zaa c c_1 c_2 c_3 l y' (decide (y'=(49:Int))))
theorem zfO (zaa:Nat->(List UInt8)->Int->Int->Int->Tp3->Option (((Tr (Int×Int×Unit))×(List UInt8)×Int×Int×Int×Tp3)⊕(Int×Int))) (zad:(List UInt8)->Int->Int->Int->Tp3->Option (((Tr (Int×Int×Unit))×(List UInt8)×Int×Int×Int×Tp3)⊕(Int×Int))) (zag:∀ a0 a1 a2 a3 a4,ChO (fun κ=>zaa κ a0 a1 a2 a3 a4) (zad a0 a1 a2 a3 a4)) (c y'_6 r r_1 r_2 r_3 l_1):ChO (fun κ=>za4 (zaa κ) c y'_6 r r_1 r_2 r_3 l_1) (za4 zad c y'_6 r r_1 r_2 r_3 l_1):=by
  unfold za4
  repeat' with_reducible first | exact ChO.const _ | exact zag _ _ _ _ _ | (refine ChO.pbind (fun _ => ?_) (fun _ => ?_)) | (refine ChO.pbind2 ?_ (fun _ => ?_) (fun _ => ?_))
theorem zfN (zaa:Nat->(List UInt8)->Int->Int->Int->Tp3->Option (((Tr (Int×Int×Unit))×(List UInt8)×Int×Int×Int×Tp3)⊕(Int×Int))) (zad:(List UInt8)->Int->Int->Int->Tp3->Option (((Tr (Int×Int×Unit))×(List UInt8)×Int×Int×Int×Tp3)⊕(Int×Int))) (zag:∀ a0 a1 a2 a3 a4,ChO (fun κ=>zaa κ a0 a1 a2 a3 a4) (zad a0 a1 a2 a3 a4)) (c y' y'_1 y'_2 y'_3 y'_4 y'_6):ChO (fun κ=>zbs (zaa κ) c y' y'_1 y'_2 y'_3 y'_4 y'_6) (zbs zad c y' y'_1 y'_2 y'_3 y'_4 y'_6):=by
  unfold zbs
  repeat' with_reducible first | exact ChO.const _ | exact zag _ _ _ _ _ | (apply zfO<;>assumption) | apply ChO.ite | apply ChO.G | (refine ChO.pbind (fun _ => ?_) (fun _ => ?_)) | (refine ChO.pbind2 ?_ (fun _ => ?_) (fun _ => ?_))
theorem zfM (zaa:Nat->(List UInt8)->Int->Int->Int->Tp3->Option (((Tr (Int×Int×Unit))×(List UInt8)×Int×Int×Int×Tp3)⊕(Int×Int))) (zad:(List UInt8)->Int->Int->Int->Tp3->Option (((Tr (Int×Int×Unit))×(List UInt8)×Int×Int×Int×Tp3)⊕(Int×Int))) (zag:∀ a0 a1 a2 a3 a4,ChO (fun κ=>zaa κ a0 a1 a2 a3 a4) (zad a0 a1 a2 a3 a4)) (c y' y'_1 y'_2 y'_3 y'_4 y'_6 t):ChO (fun κ=>za3 (zaa κ) c y' y'_1 y'_2 y'_3 y'_4 y'_6 t) (za3 zad c y' y'_1 y'_2 y'_3 y'_4 y'_6 t):=by
  unfold za3
  repeat' with_reducible first | exact ChO.const _ | exact zag _ _ _ _ _ | (apply zfN<;>assumption) | apply ChO.ite | (refine ChO.pbind (fun _ => ?_) (fun _ => ?_)) | (refine ChO.pbind2 ?_ (fun _ => ?_) (fun _ => ?_))
theorem zhf (zaa:Nat->(List UInt8)->Int->Int->Int->Tp3->Option (((Tr (Int×Int×Unit))×(List UInt8)×Int×Int×Int×Tp3)⊕(Int×Int))) (zad:(List UInt8)->Int->Int->Int->Tp3->Option (((Tr (Int×Int×Unit))×(List UInt8)×Int×Int×Int×Tp3)⊕(Int×Int))) (zag:∀ a0 a1 a2 a3 a4,ChO (fun κ=>zaa κ a0 a1 a2 a3 a4) (zad a0 a1 a2 a3 a4)) (c c_1 c_2 c_3 c_4 l):ChO (fun κ=>zbJ (zaa κ) c c_1 c_2 c_3 c_4 l) (zbJ zad c c_1 c_2 c_3 c_4 l):=by
  unfold zbJ
  repeat' with_reducible first | exact ChO.const _ | exact zag _ _ _ _ _ | (apply zfM<;>assumption) | apply ChO.ite | apply ChO.G | (apply ChO.bind;intro _) | (apply ChO.bind2 (zag _ _ _ _ _);intro _) | (refine ChO.bind2 ?_ (fun _ => ?_)) | (refine ChO.pbind (fun _ => ?_) (fun _ => ?_)) | (refine ChO.pbind2 ?_ (fun _ => ?_) (fun _ => ?_))
theorem zge (zaa:Nat->(List UInt8)->Int->Int->Int->Tp3->Option (((Tr (Int×Int×Unit))×(List UInt8)×Int×Int×Int×Tp3)⊕(Int×Int))) (zad:(List UInt8)->Int->Int->Int->Tp3->Option (((Tr (Int×Int×Unit))×(List UInt8)×Int×Int×Int×Tp3)⊕(Int×Int))) (zag:∀ a0 a1 a2 a3 a4,ChO (fun κ=>zaa κ a0 a1 a2 a3 a4) (zad a0 a1 a2 a3 a4)) (c y'_1 y'_2 y'_3 y'_4 y'_5 y'_7):ChO (fun κ=>zbI (zaa κ) c y'_1 y'_2 y'_3 y'_4 y'_5 y'_7) (zbI zad c y'_1 y'_2 y'_3 y'_4 y'_5 y'_7):=by
  unfold zbI
  repeat' with_reducible first | exact ChO.const _ | exact zag _ _ _ _ _ | apply ChO.G | (refine ChO.pbind (fun _ => ?_) (fun _ => ?_)) | (refine ChO.pbind2 ?_ (fun _ => ?_) (fun _ => ?_))
theorem zgd (zaa:Nat->(List UInt8)->Int->Int->Int->Tp3->Option (((Tr (Int×Int×Unit))×(List UInt8)×Int×Int×Int×Tp3)⊕(Int×Int))) (zad:(List UInt8)->Int->Int->Int->Tp3->Option (((Tr (Int×Int×Unit))×(List UInt8)×Int×Int×Int×Tp3)⊕(Int×Int))) (zag:∀ a0 a1 a2 a3 a4,ChO (fun κ=>zaa κ a0 a1 a2 a3 a4) (zad a0 a1 a2 a3 a4)) (c y'_1 y'_2 y'_3 y'_4 y'_5 y'_7 t):ChO (fun κ=>zbh (zaa κ) c y'_1 y'_2 y'_3 y'_4 y'_5 y'_7 t) (zbh zad c y'_1 y'_2 y'_3 y'_4 y'_5 y'_7 t):=by
  unfold zbh
  repeat' with_reducible first | exact ChO.const _ | exact zag _ _ _ _ _ | (apply zge<;>assumption) | apply ChO.ite | (refine ChO.pbind (fun _ => ?_) (fun _ => ?_)) | (refine ChO.pbind2 ?_ (fun _ => ?_) (fun _ => ?_))
theorem zgc (zaa:Nat->(List UInt8)->Int->Int->Int->Tp3->Option (((Tr (Int×Int×Unit))×(List UInt8)×Int×Int×Int×Tp3)⊕(Int×Int))) (zad:(List UInt8)->Int->Int->Int->Tp3->Option (((Tr (Int×Int×Unit))×(List UInt8)×Int×Int×Int×Tp3)⊕(Int×Int))) (zag:∀ a0 a1 a2 a3 a4,ChO (fun κ=>zaa κ a0 a1 a2 a3 a4) (zad a0 a1 a2 a3 a4)) (c c_1 c_2 c_3 c_4 l):ChO (fun κ=>zbH (zaa κ) c c_1 c_2 c_3 c_4 l) (zbH zad c c_1 c_2 c_3 c_4 l):=by
  unfold zbH
  repeat' with_reducible first | exact ChO.const _ | exact zag _ _ _ _ _ | (apply zgd<;>assumption) | apply ChO.ite | apply ChO.G | (apply ChO.bind;intro _) | (apply ChO.bind2 (zag _ _ _ _ _);intro _) | (refine ChO.bind2 ?_ (fun _ => ?_)) | (refine ChO.pbind (fun _ => ?_) (fun _ => ?_)) | (refine ChO.pbind2 ?_ (fun _ => ?_) (fun _ => ?_))
theorem zhI (zaa:Nat->(List UInt8)->Int->Int->Int->Tp3->Option (((Tr (Int×Int×Unit))×(List UInt8)×Int×Int×Int×Tp3)⊕(Int×Int))) (zad:(List UInt8)->Int->Int->Int->Tp3->Option (((Tr (Int×Int×Unit))×(List UInt8)×Int×Int×Int×Tp3)⊕(Int×Int))) (zag:∀ a0 a1 a2 a3 a4,ChO (fun κ=>zaa κ a0 a1 a2 a3 a4) (zad a0 a1 a2 a3 a4)) (c c_1 c_2 c_3 c_4 l):ChO (fun κ=>zbU (zaa κ) c c_1 c_2 c_3 c_4 l) (zbU zad c c_1 c_2 c_3 c_4 l):=by
  unfold zbU
  repeat' with_reducible first | exact ChO.const _ | exact zag _ _ _ _ _ | (apply zgc<;>assumption) | apply ChO.ite | (refine ChO.pbind (fun _ => ?_) (fun _ => ?_)) | (refine ChO.pbind2 ?_ (fun _ => ?_) (fun _ => ?_))
theorem zcP (zaa:Nat->(List UInt8)->Int->Int->Int->Tp3->Option (((Tr (Int×Int×Unit))×(List UInt8)×Int×Int×Int×Tp3)⊕(Int×Int))) (zad:(List UInt8)->Int->Int->Int->Tp3->Option (((Tr (Int×Int×Unit))×(List UInt8)×Int×Int×Int×Tp3)⊕(Int×Int))) (zag:∀ a0 a1 a2 a3 a4,ChO (fun κ=>zaa κ a0 a1 a2 a3 a4) (zad a0 a1 a2 a3 a4)) (r2:Nat->(Tr (Int×Int×Unit))->(List UInt8)->Int->Int->Int->Tp3->Option (((Tr (Int×Int×Unit))×(List UInt8)×Int×Int×Int×Tp3)⊕(Int×Int))) (r2':(Tr (Int×Int×Unit))->(List UInt8)->Int->Int->Int->Tp3->Option (((Tr (Int×Int×Unit))×(List UInt8)×Int×Int×Int×Tp3)⊕(Int×Int))) (h_r2:∀ a0 a1 a2 a3 a4 a5,ChO (fun κ=>r2 κ a0 a1 a2 a3 a4 a5) (r2' a0 a1 a2 a3 a4 a5)) (n r r_1 r_2 r_3 l_1):ChO (fun κ=>zbn (zaa κ) (r2 κ) n r r_1 r_2 r_3 l_1) (zbn zad r2' n r r_1 r_2 r_3 l_1):=by
  unfold zbn
  repeat' with_reducible first | exact ChO.const _ | exact zag _ _ _ _ _ | exact h_r2 _ _ _ _ _ _ | apply ChO.ite | apply ChO.G | (apply ChO.bind;intro _) | (apply ChO.bind2 (zag _ _ _ _ _);intro _) | (refine ChO.bind2 ?_ (fun _ => ?_)) | (refine ChO.pbind (fun _ => ?_) (fun _ => ?_)) | (refine ChO.pbind2 ?_ (fun _ => ?_) (fun _ => ?_))
theorem zcl (zaa):Cn (zdB zaa):=fun g h hg x=>zcP (fun _=>zaa) zaa (fun _ _ _ _ _=>ChO.const _) _ _ (fun a0 a1 a2 a3 a4 a5=>hg (a0,a1,a2,a3,a4,a5))  x.1 x.2.1 x.2.2.1 x.2.2.2.1 x.2.2.2.2.1 x.2.2.2.2.2
theorem zgi (zaa n r r_1 r_2 r_3 l_1):zbj zaa n r r_1 r_2 r_3 l_1=zbn zaa (zbj zaa) n r r_1 r_2 r_3 l_1:=zfr (zcl zaa) (n,r,r_1,r_2,r_3,l_1)
theorem zgh (zaa:Nat->(List UInt8)->Int->Int->Int->Tp3->Option (((Tr (Int×Int×Unit))×(List UInt8)×Int×Int×Int×Tp3)⊕(Int×Int))) (zad:(List UInt8)->Int->Int->Int->Tp3->Option (((Tr (Int×Int×Unit))×(List UInt8)×Int×Int×Int×Tp3)⊕(Int×Int))) (zag:∀ a0 a1 a2 a3 a4,ChO (fun κ=>zaa κ a0 a1 a2 a3 a4) (zad a0 a1 a2 a3 a4)) (n r r_1 r_2 r_3 l_1):ChO (fun κ=>zbj (zaa κ) n r r_1 r_2 r_3 l_1) (zbj zad n r r_1 r_2 r_3 l_1):=by
  unfold zbj
  exact zkB (fun κ=>(zcl (zaa κ) ).mono) (zcl zad ).mono (fun g h hg x=>zcP zaa zad zag _ _ (fun a0 a1 a2 a3 a4 a5=>hg (a0,a1,a2,a3,a4,a5))  x.1 x.2.1 x.2.2.1 x.2.2.2.1 x.2.2.2.2.1 x.2.2.2.2.2) _
theorem zeG (zaa:Nat->(List UInt8)->Int->Int->Int->Tp3->Option (((Tr (Int×Int×Unit))×(List UInt8)×Int×Int×Int×Tp3)⊕(Int×Int))) (zad:(List UInt8)->Int->Int->Int->Tp3->Option (((Tr (Int×Int×Unit))×(List UInt8)×Int×Int×Int×Tp3)⊕(Int×Int))) (zag:∀ a0 a1 a2 a3 a4,ChO (fun κ=>zaa κ a0 a1 a2 a3 a4) (zad a0 a1 a2 a3 a4)) (c c_1 c_2 c_3 l):ChO (fun κ=>zbC (zaa κ) c c_1 c_2 c_3 l) (zbC zad c c_1 c_2 c_3 l):=by
  unfold zbC
  repeat' with_reducible first | exact ChO.const _ | exact zag _ _ _ _ _ | (apply zgh<;>assumption) | (refine ChO.pbind (fun _ => ?_) (fun _ => ?_)) | (refine ChO.pbind2 ?_ (fun _ => ?_) (fun _ => ?_))
theorem zcG (zaa:Nat->(List UInt8)->Int->Int->Int->Tp3->Option (((Tr (Int×Int×Unit))×(List UInt8)×Int×Int×Int×Tp3)⊕(Int×Int))) (zad:(List UInt8)->Int->Int->Int->Tp3->Option (((Tr (Int×Int×Unit))×(List UInt8)×Int×Int×Int×Tp3)⊕(Int×Int))) (zag:∀ a0 a1 a2 a3 a4,ChO (fun κ=>zaa κ a0 a1 a2 a3 a4) (zad a0 a1 a2 a3 a4)) (r2:Nat->(Tr (Int×Int×Unit))->(List UInt8)->Int->Int->Int->Tp3->Option (((Tr (Int×Int×Unit))×(List UInt8)×Int×Int×Int×Tp3)⊕(Int×Int))) (r2':(Tr (Int×Int×Unit))->(List UInt8)->Int->Int->Int->Tp3->Option (((Tr (Int×Int×Unit))×(List UInt8)×Int×Int×Int×Tp3)⊕(Int×Int))) (h_r2:∀ a0 a1 a2 a3 a4 a5,ChO (fun κ=>r2 κ a0 a1 a2 a3 a4 a5) (r2' a0 a1 a2 a3 a4 a5)) (n r r_1 r_2 r_3 l_1):ChO (fun κ=>zbd (zaa κ) (r2 κ) n r r_1 r_2 r_3 l_1) (zbd zad r2' n r r_1 r_2 r_3 l_1):=by
  unfold zbd
  repeat' with_reducible first | exact ChO.const _ | exact zag _ _ _ _ _ | exact h_r2 _ _ _ _ _ _ | (apply zeG<;>assumption) | apply ChO.ite | apply ChO.G | (apply ChO.bind;intro _) | (apply ChO.bind2 (zag _ _ _ _ _);intro _) | (refine ChO.bind2 ?_ (fun _ => ?_)) | (refine ChO.pbind (fun _ => ?_) (fun _ => ?_)) | (refine ChO.pbind2 ?_ (fun _ => ?_) (fun _ => ?_))
theorem zcf (zaa):Cn (zdk zaa):=fun g h hg x=>zcG (fun _=>zaa) zaa (fun _ _ _ _ _=>ChO.const _) _ _ (fun a0 a1 a2 a3 a4 a5=>hg (a0,a1,a2,a3,a4,a5))  x.1 x.2.1 x.2.2.1 x.2.2.2.1 x.2.2.2.2.1 x.2.2.2.2.2
theorem zfW (zaa n r r_1 r_2 r_3 l_1):za9 zaa n r r_1 r_2 r_3 l_1=zbd zaa (za9 zaa) n r r_1 r_2 r_3 l_1:=zfr (zcf zaa) (n,r,r_1,r_2,r_3,l_1)
theorem zfV (zaa:Nat->(List UInt8)->Int->Int->Int->Tp3->Option (((Tr (Int×Int×Unit))×(List UInt8)×Int×Int×Int×Tp3)⊕(Int×Int))) (zad:(List UInt8)->Int->Int->Int->Tp3->Option (((Tr (Int×Int×Unit))×(List UInt8)×Int×Int×Int×Tp3)⊕(Int×Int))) (zag:∀ a0 a1 a2 a3 a4,ChO (fun κ=>zaa κ a0 a1 a2 a3 a4) (zad a0 a1 a2 a3 a4)) (n r r_1 r_2 r_3 l_1):ChO (fun κ=>za9 (zaa κ) n r r_1 r_2 r_3 l_1) (za9 zad n r r_1 r_2 r_3 l_1):=by
  unfold za9
  exact zkB (fun κ=>(zcf (zaa κ) ).mono) (zcf zad ).mono (fun g h hg x=>zcG zaa zad zag _ _ (fun a0 a1 a2 a3 a4 a5=>hg (a0,a1,a2,a3,a4,a5))  x.1 x.2.1 x.2.2.1 x.2.2.2.1 x.2.2.2.2.1 x.2.2.2.2.2) _
theorem zhh (zaa:Nat->(List UInt8)->Int->Int->Int->Tp3->Option (((Tr (Int×Int×Unit))×(List UInt8)×Int×Int×Int×Tp3)⊕(Int×Int))) (zad:(List UInt8)->Int->Int->Int->Tp3->Option (((Tr (Int×Int×Unit))×(List UInt8)×Int×Int×Int×Tp3)⊕(Int×Int))) (zag:∀ a0 a1 a2 a3 a4,ChO (fun κ=>zaa κ a0 a1 a2 a3 a4) (zad a0 a1 a2 a3 a4)) (c c_1 c_2 c_3 l):ChO (fun κ=>zaP (zaa κ) c c_1 c_2 c_3 l) (zaP zad c c_1 c_2 c_3 l):=by
  unfold zaP
  repeat' with_reducible first | exact ChO.const _ | exact zag _ _ _ _ _ | (apply zeG<;>assumption) | (apply zfV<;>assumption) | (refine ChO.pbind (fun _ => ?_) (fun _ => ?_)) | (refine ChO.pbind2 ?_ (fun _ => ?_) (fun _ => ?_))
theorem zfU (zaa:Nat->(List UInt8)->Int->Int->Int->Tp3->Option (((Tr (Int×Int×Unit))×(List UInt8)×Int×Int×Int×Tp3)⊕(Int×Int))) (zad:(List UInt8)->Int->Int->Int->Tp3->Option (((Tr (Int×Int×Unit))×(List UInt8)×Int×Int×Int×Tp3)⊕(Int×Int))) (zag:∀ a0 a1 a2 a3 a4,ChO (fun κ=>zaa κ a0 a1 a2 a3 a4) (zad a0 a1 a2 a3 a4)) (c c_1 c_2 c_3 l):ChO (fun κ=>za8 (zaa κ) c c_1 c_2 c_3 l) (za8 zad c c_1 c_2 c_3 l):=by
  unfold za8
  repeat' with_reducible first | exact ChO.const _ | exact zag _ _ _ _ _ | (apply zhh<;>assumption) | apply ChO.G | (refine ChO.pbind (fun _ => ?_) (fun _ => ?_)) | (refine ChO.pbind2 ?_ (fun _ => ?_) (fun _ => ?_))
theorem zfT (zaa:Nat->(List UInt8)->Int->Int->Int->Tp3->Option (((Tr (Int×Int×Unit))×(List UInt8)×Int×Int×Int×Tp3)⊕(Int×Int))) (zad:(List UInt8)->Int->Int->Int->Tp3->Option (((Tr (Int×Int×Unit))×(List UInt8)×Int×Int×Int×Tp3)⊕(Int×Int))) (zag:∀ a0 a1 a2 a3 a4,ChO (fun κ=>zaa κ a0 a1 a2 a3 a4) (zad a0 a1 a2 a3 a4)) (c c_1 c_2 c_3 l y' t_3):ChO (fun κ=>za7 (zaa κ) c c_1 c_2 c_3 l y' t_3) (za7 zad c c_1 c_2 c_3 l y' t_3):=by
  unfold za7
  repeat' with_reducible first | exact ChO.const _ | exact zag _ _ _ _ _ | (apply zfU<;>assumption) | apply ChO.ite | (refine ChO.pbind (fun _ => ?_) (fun _ => ?_)) | (refine ChO.pbind2 ?_ (fun _ => ?_) (fun _ => ?_))
theorem zfS (zaa:Nat->(List UInt8)->Int->Int->Int->Tp3->Option (((Tr (Int×Int×Unit))×(List UInt8)×Int×Int×Int×Tp3)⊕(Int×Int))) (zad:(List UInt8)->Int->Int->Int->Tp3->Option (((Tr (Int×Int×Unit))×(List UInt8)×Int×Int×Int×Tp3)⊕(Int×Int))) (zag:∀ a0 a1 a2 a3 a4,ChO (fun κ=>zaa κ a0 a1 a2 a3 a4) (zad a0 a1 a2 a3 a4)) (c c_1 c_2 c_3 l y' t_2):ChO (fun κ=>za6 (zaa κ) c c_1 c_2 c_3 l y' t_2) (za6 zad c c_1 c_2 c_3 l y' t_2):=by
  unfold za6
  repeat' with_reducible first | exact ChO.const _ | exact zag _ _ _ _ _ | (apply zhI<;>assumption) | (apply zfT<;>assumption) | apply ChO.ite | (refine ChO.pbind (fun _ => ?_) (fun _ => ?_)) | (refine ChO.pbind2 ?_ (fun _ => ?_) (fun _ => ?_))
theorem zfR (zaa:Nat->(List UInt8)->Int->Int->Int->Tp3->Option (((Tr (Int×Int×Unit))×(List UInt8)×Int×Int×Int×Tp3)⊕(Int×Int))) (zad:(List UInt8)->Int->Int->Int->Tp3->Option (((Tr (Int×Int×Unit))×(List UInt8)×Int×Int×Int×Tp3)⊕(Int×Int))) (zag:∀ a0 a1 a2 a3 a4,ChO (fun κ=>zaa κ a0 a1 a2 a3 a4) (zad a0 a1 a2 a3 a4)) (c c_1 c_2 c_3 l y' t_1):ChO (fun κ=>za5 (zaa κ) c c_1 c_2 c_3 l y' t_1) (za5 zad c c_1 c_2 c_3 l y' t_1):=by
  unfold za5
  repeat' with_reducible first | exact ChO.const _ | exact zag _ _ _ _ _ | (apply zhf<;>assumption) | (apply zfS<;>assumption) | apply ChO.ite | (refine ChO.pbind (fun _ => ?_) (fun _ => ?_)) | (refine ChO.pbind2 ?_ (fun _ => ?_) (fun _ => ?_))
theorem zgg (zaa:Nat->(List UInt8)->Int->Int->Int->Tp3->Option (((Tr (Int×Int×Unit))×(List UInt8)×Int×Int×Int×Tp3)⊕(Int×Int))) (zad:(List UInt8)->Int->Int->Int->Tp3->Option (((Tr (Int×Int×Unit))×(List UInt8)×Int×Int×Int×Tp3)⊕(Int×Int))) (zag:∀ a0 a1 a2 a3 a4,ChO (fun κ=>zaa κ a0 a1 a2 a3 a4) (zad a0 a1 a2 a3 a4)) (c c_1 c_2 c_3 l y' t):ChO (fun κ=>zbi (zaa κ) c c_1 c_2 c_3 l y' t) (zbi zad c c_1 c_2 c_3 l y' t):=by
  unfold zbi
  repeat' with_reducible first | exact ChO.const _ | exact zag _ _ _ _ _ | (apply zfR<;>assumption) | apply ChO.ite | apply ChO.G | (apply ChO.bind;intro _) | (apply ChO.bind2 (zag _ _ _ _ _);intro _) | (refine ChO.bind2 ?_ (fun _ => ?_)) | (refine ChO.pbind (fun _ => ?_) (fun _ => ?_)) | (refine ChO.pbind2 ?_ (fun _ => ?_) (fun _ => ?_))
theorem zg3 (zaa:Nat->(List UInt8)->Int->Int->Int->Tp3->Option (((Tr (Int×Int×Unit))×(List UInt8)×Int×Int×Int×Tp3)⊕(Int×Int))) (zad:(List UInt8)->Int->Int->Int->Tp3->Option (((Tr (Int×Int×Unit))×(List UInt8)×Int×Int×Int×Tp3)⊕(Int×Int))) (zag:∀ a0 a1 a2 a3 a4,ChO (fun κ=>zaa κ a0 a1 a2 a3 a4) (zad a0 a1 a2 a3 a4)) (c c_1 c_2 c_3 l):ChO (fun κ=>zbR (zaa κ) c c_1 c_2 c_3 l) (zbR zad c c_1 c_2 c_3 l):=by
  unfold zbR
  repeat' with_reducible first | exact ChO.const _ | exact zag _ _ _ _ _ | (apply zgg<;>assumption) | apply ChO.ite | (apply ChO.bind;intro _) | (apply ChO.bind2 (zag _ _ _ _ _);intro _) | (refine ChO.bind2 ?_ (fun _ => ?_))
def zb1:((List UInt8)×Int×Int×Int×Tp3->Option (((Tr (Int×Int×Unit))×(List UInt8)×Int×Int×Int×Tp3)⊕(Int×Int)))->(List UInt8)×Int×Int×Int×Tp3->Option (((Tr (Int×Int×Unit))×(List UInt8)×Int×Int×Int×Tp3)⊕(Int×Int)):=
  fun rec X=>zbR (fun c c_1 c_2 c_3 l=>rec (c,c_1,c_2,c_3,l)) X.1 X.2.1 X.2.2.1 X.2.2.2.1 X.2.2.2.2
def zar (c:(List UInt8)) (c_1 c_2 c_3:Int) (l:Tp3):Option (((Tr (Int×Int×Unit))×(List UInt8)×Int×Int×Int×Tp3)⊕(Int×Int)):=LFix zb1 (c,c_1,c_2,c_3,l)
theorem zhL:Cn zb1:=fun g h hg X=>zg3 _ _ (fun c c_1 c_2 c_3 l=>hg (c,c_1,c_2,c_3,l)) X.1 X.2.1 X.2.2.1 X.2.2.2.1 X.2.2.2.2
theorem zhM (c c_1 c_2 c_3 l):zar c c_1 c_2 c_3 l=zbR zar c c_1 c_2 c_3 l:=zfr zhL (c,c_1,c_2,c_3,l)
def zeI (c:(List UInt8)) (c_1 c_2 c_3:Int) (l:Tp3):Option (((Tr (Int×Int×Unit))×(List UInt8)×Int×Int×Int×Tp3)⊕(Int×Int)):=zaP zar c c_1 c_2 c_3 l

def zgb (text:(List UInt8)):Option ((Tr (Int×Int×Unit))×Int×Int×Unit):=
  if (decide ((4000:Int) < (text.length:Int)))=true then
  some (Tr.nil,((1:Int),((0:Int),()))) else
  pbind (zeI text (0:Int) (0:Int) (0:Int) ([]:List (Int×Bool×Unit))) (fun y'_6=>
  if (decide (y'_6.2.2.1 < (text.length:Int)))=true then
  pbind (za0 (y'_6.2.1,(y'_6.2.2.1,(y'_6.2.2.2.1,(y'_6.2.2.2.2.1,(y'_6.2.2.2.2.2,()))))) (4:Int)) (fun _=>
  some (y'_6.1,((0:Int),((0:Int),())))) (fun p=>some (Tr.nil,(p.1,(p.2,())))) else
  some (y'_6.1,((0:Int),((0:Int),())))) (fun p=>some (Tr.nil,(p.1,(p.2,()))))

def zjv (text:(List UInt8)):Option (Int×Int×Unit):=
  (zgb text).bind (fun y'_3=>
  some (y'_3.2.1,(y'_3.2.2.1,())))

def zcT (r:((List UInt8)×Int×Int×Int×(List UInt8)×Tp4×Tp1×(Int×Int×Unit)×Unit)):Option (Bool):=
  some (decide (r.2.2.2.2.2.2.2.1.1=(0:Int)))

def zbz (r:((List UInt8)×Int×Int×Int×(List UInt8)×Tp4×Tp1×(Int×Int×Unit)×Unit)):Option (Int):=
  if (decide ((r.1.length:Int)<=r.2.1))=true then
  some (0:Int) else
  G (0<=r.2.1/\r.2.1 < (r.1.length:Int)) (
  some (bAt r.1 r.2.1))

def zaG (code:Int) (c:(List UInt8)) (c_1 c_2 c_3:Int) (c_4:(List UInt8)) (c_5 c_6:Int) (l:Tp4) (l_1:Tp1):Option ((List UInt8)×Int×Int×Int×(List UInt8)×Tp4×Tp1×Int×Int):=
  if (decide (c_5=(0:Int)))=true then
  some (c,c_1,c_2,c_3,c_4,l,l_1,code,c_1) else
  some (c,c_1,c_2,c_3,c_4,l,l_1,c_5,c_6)

def zaC (c:(List UInt8)) (c_1 c_2 c_3:Int) (c_4:(List UInt8)) (c_5 c_6:Int) (l:Tp4) (l_1:Tp1):Option ((List UInt8)×Int×Int×Int×(List UInt8)×Tp4×Tp1×Int×Int):=
  G (fits (c_3+(1:Int))) (
  if (decide ((30:Int) < (c_3+(1:Int))))=true then
  (zaG (7:Int) c c_1 c_2 (c_3+(1:Int)) c_4 c_5 c_6 l l_1).bind (fun y'_10=>
  G (fits (y'_10.2.1+(1:Int))) (
  some (y'_10.1,y'_10.2.1+(1:Int),y'_10.2.2.1,y'_10.2.2.2.1,y'_10.2.2.2.2.1,y'_10.2.2.2.2.2.1,y'_10.2.2.2.2.2.2.1,y'_10.2.2.2.2.2.2.2.1,y'_10.2.2.2.2.2.2.2.2))) else
  G (fits (c_1+(1:Int))) (
  some (c,c_1+(1:Int),c_2,c_3+(1:Int),c_4,l,l_1,c_5,c_6)))

def zbf (n:Tp2) (c:(List UInt8)) (c_1 c_2 c_3:Int) (c_4:(List UInt8)) (c_5 c_6:Int) (l:Tp4) (l_1:Tp1):Option (Int×(List UInt8)×Int×Int×Int×(List UInt8)×Tp4×Tp1×Int×Int):=
  G (room l_1 ([(n.1,(n.2.1,(n.2.2.1,(n.2.2.2.1,()))))]) 32) (
  G (fits (((l_1++([(n.1,(n.2.1,(n.2.2.1,(n.2.2.2.1,()))))])).length:Int) - (1:Int))) (
  some (((l_1++([(n.1,(n.2.1,(n.2.2.1,(n.2.2.2.1,()))))])).length:Int) - (1:Int),c,c_1,c_2,c_3,c_4,l,l_1++([(n.1,(n.2.1,(n.2.2.1,(n.2.2.2.1,()))))]),c_5,c_6)))

def zaT (r1:Int->(List UInt8)->Int->Int->Int->(List UInt8)->Int->Int->Tp4->Tp1->Option ((List UInt8)×Int×Int×Int×(List UInt8)×Tp4×Tp1×Int×Int)) (k:Int) (r:(List UInt8)) (r_1 r_2 r_3:Int) (r_4:(List UInt8)) (r_5 r_6:Int) (l_2:Tp4) (l_3:Tp1):Option ((List UInt8)×Int×Int×Int×(List UInt8)×Tp4×Tp1×Int×Int):=
  if (decide (k < (l_2.length:Int)))=true then
  G (0<=k/\k < (l_2.length:Int)) (
  G ((k).toNat < l_2.length) (
  G (0<=k/\k < (l_2.length:Int)) (
  G ((k).toNat < l_2.length) (
  G (fits (k+(1:Int))) (
  r1 (k+(1:Int)) r r_1 r_2 r_3 r_4 r_5 r_6 (l_2.set (k).toNat (!(ix l_2 k))) l_3))))) else
  some (r,r_1,r_2,r_3,r_4,l_2,l_3,r_5,r_6)
def zdL:(Int×(List UInt8)×Int×Int×Int×(List UInt8)×Int×Int×Tp4×Tp1->Option ((List UInt8)×Int×Int×Int×(List UInt8)×Tp4×Tp1×Int×Int))->Int×(List UInt8)×Int×Int×Int×(List UInt8)×Int×Int×Tp4×Tp1->Option ((List UInt8)×Int×Int×Int×(List UInt8)×Tp4×Tp1×Int×Int):=
  fun rec x=>zaT (fun k r r_1 r_2 r_3 r_4 r_5 r_6 l_2 l_3=>rec (k,r,r_1,r_2,r_3,r_4,r_5,r_6,l_2,l_3)) x.1 x.2.1 x.2.2.1 x.2.2.2.1 x.2.2.2.2.1 x.2.2.2.2.2.1 x.2.2.2.2.2.2.1 x.2.2.2.2.2.2.2.1 x.2.2.2.2.2.2.2.2.1 x.2.2.2.2.2.2.2.2.2
def zcj (k:Int) (r:(List UInt8)) (r_1 r_2 r_3:Int) (r_4:(List UInt8)) (r_5 r_6:Int) (l_2:Tp4) (l_3:Tp1):Option ((List UInt8)×Int×Int×Int×(List UInt8)×Tp4×Tp1×Int×Int):=LFix (zdL ) (k,r,r_1,r_2,r_3,r_4,r_5,r_6,l_2,l_3)
def zcp (c:(List UInt8)) (c_1 c_2 c_3:Int) (c_4:(List UInt8)) (c_5 c_6:Int) (l:Tp4) (l_1:Tp1):Option ((List UInt8)×Int×Int×Int×(List UInt8)×Tp4×Tp1×Int×Int):=
  zcj (0:Int) c c_1 c_2 c_3 c_4 c_5 c_6 l l_1
theorem zfD (r1:Nat->Int->(List UInt8)->Int->Int->Int->(List UInt8)->Int->Int->Tp4->Tp1->Option ((List UInt8)×Int×Int×Int×(List UInt8)×Tp4×Tp1×Int×Int)) (r1':Int->(List UInt8)->Int->Int->Int->(List UInt8)->Int->Int->Tp4->Tp1->Option ((List UInt8)×Int×Int×Int×(List UInt8)×Tp4×Tp1×Int×Int)) (h_r1:∀ a0 a1 a2 a3 a4 a5 a6 a7 a8 a9,ChO (fun κ=>r1 κ a0 a1 a2 a3 a4 a5 a6 a7 a8 a9) (r1' a0 a1 a2 a3 a4 a5 a6 a7 a8 a9)) (k r r_1 r_2 r_3 r_4 r_5 r_6 l_2 l_3):ChO (fun κ=>zaT (r1 κ) k r r_1 r_2 r_3 r_4 r_5 r_6 l_2 l_3) (zaT r1' k r r_1 r_2 r_3 r_4 r_5 r_6 l_2 l_3):=by
  unfold zaT
  repeat' with_reducible first | exact ChO.const _ | exact h_r1 _ _ _ _ _ _ _ _ _ _ | apply ChO.ite | apply ChO.G
theorem zgC:Cn (zdL):=fun g h hg x=>zfD  _ _ (fun a0 a1 a2 a3 a4 a5 a6 a7 a8 a9=>hg (a0,a1,a2,a3,a4,a5,a6,a7,a8,a9))  x.1 x.2.1 x.2.2.1 x.2.2.2.1 x.2.2.2.2.1 x.2.2.2.2.2.1 x.2.2.2.2.2.2.1 x.2.2.2.2.2.2.2.1 x.2.2.2.2.2.2.2.2.1 x.2.2.2.2.2.2.2.2.2
theorem zdo (k r r_1 r_2 r_3 r_4 r_5 r_6 l_2 l_3):zcj k r r_1 r_2 r_3 r_4 r_5 r_6 l_2 l_3=zaT (zcj) k r r_1 r_2 r_3 r_4 r_5 r_6 l_2 l_3:=zfr (zgC ) (k,r,r_1,r_2,r_3,r_4,r_5,r_6,l_2,l_3)

def za2 (c:Int) (c_1:(List UInt8)) (c_2 c_3 c_4:Int) (c_5:(List UInt8)) (c_6 c_7:Int) (l:Tp4) (l_1:Tp1):Option ((List UInt8)×Int×Int×Int×(List UInt8)×Tp4×Tp1×Int×Int):=
  (zbz (c_1,(c_2,(c_3,(c_4,(c_5,(l,(l_1,((c_6,(c_7,())),()))))))))).bind (fun y'=>
  if (decide (¬ y'=c))=true then
  (zaG (4:Int) c_1 c_2 c_3 c_4 c_5 c_6 c_7 l l_1).bind (fun y'_11=>
  G (fits (y'_11.2.1+(1:Int))) (
  some (y'_11.1,y'_11.2.1+(1:Int),y'_11.2.2.1,y'_11.2.2.2.1,y'_11.2.2.2.2.1,y'_11.2.2.2.2.2.1,y'_11.2.2.2.2.2.2.1,y'_11.2.2.2.2.2.2.2.1,y'_11.2.2.2.2.2.2.2.2))) else
  G (fits (c_2+(1:Int))) (
  some (c_1,c_2+(1:Int),c_3,c_4,c_5,l,l_1,c_6,c_7)))

def zb7 (c_1:(List UInt8)) (c_2 c_3 c_4:Int) (c_5:(List UInt8)) (c_6 c_7:Int) (l:Tp4) (l_1:Tp1):Option (Int×(List UInt8)×Int×Int×Int×(List UInt8)×Tp4×Tp1×Int×Int):=
  (zaG (5:Int) c_1 c_2 c_3 c_4 c_5 c_6 c_7 l l_1).bind (fun y'_10=>
  some ((0:Int),y'_10.1,y'_10.2.1,y'_10.2.2.1,y'_10.2.2.2.1,y'_10.2.2.2.2.1,y'_10.2.2.2.2.2.1,y'_10.2.2.2.2.2.2.1,y'_10.2.2.2.2.2.2.2.1,y'_10.2.2.2.2.2.2.2.2))
def zaM (c:Int) (c_1:(List UInt8)) (c_2 c_3 c_4:Int) (c_5:(List UInt8)) (c_6 c_7:Int) (l:Tp4) (l_1:Tp1) (r2:Int->Option (Int×(List UInt8)×Int×Int×Int×(List UInt8)×Tp4×Tp1×Int×Int)) (k:Int):Option (Int×(List UInt8)×Int×Int×Int×(List UInt8)×Tp4×Tp1×Int×Int):=
  if (decide ((0:Int)<=k))=true then
  G (0<=k/\k < (c_5.length:Int)) (
  if (decide ((bAt c_5 k)=c))=true then
  G (0<=k/\k < (l.length:Int)) (
  G ((k).toNat < l.length) (
  if (ix l k)=true then
  zb7 c_1 c_2 c_3 c_4 c_5 c_6 c_7 l l_1 else
  (zaC c_1 c_2 c_3 c_4 c_5 c_6 c_7 l l_1).bind (fun y'_33=>
  (zbf ((88:Int),(k,((0:Int),((0:Int),())))) y'_33.1 y'_33.2.1 y'_33.2.2.1 y'_33.2.2.2.1 y'_33.2.2.2.2.1 y'_33.2.2.2.2.2.2.2.1 y'_33.2.2.2.2.2.2.2.2 y'_33.2.2.2.2.2.1 y'_33.2.2.2.2.2.2.1).bind (fun y'_32=>
  some (y'_32.1,y'_32.2.1,y'_32.2.2.1,y'_32.2.2.2.1,y'_32.2.2.2.2.1,y'_32.2.2.2.2.2.1,y'_32.2.2.2.2.2.2.1,y'_32.2.2.2.2.2.2.2.1,y'_32.2.2.2.2.2.2.2.2.1,y'_32.2.2.2.2.2.2.2.2.2))))) else
  G (fits (k - (1:Int))) (
  r2 (k - (1:Int)))) else
  zb7 c_1 c_2 c_3 c_4 c_5 c_6 c_7 l l_1
def zdm (c:Int) (c_1:(List UInt8)) (c_2 c_3 c_4:Int) (c_5:(List UInt8)) (c_6 c_7:Int) (l:Tp4) (l_1:Tp1):(Int->Option (Int×(List UInt8)×Int×Int×Int×(List UInt8)×Tp4×Tp1×Int×Int))->Int->Option (Int×(List UInt8)×Int×Int×Int×(List UInt8)×Tp4×Tp1×Int×Int):=
  fun rec x=>zaM c c_1 c_2 c_3 c_4 c_5 c_6 c_7 l l_1 (fun k=>rec k) x
def zb8 (c:Int) (c_1:(List UInt8)) (c_2 c_3 c_4:Int) (c_5:(List UInt8)) (c_6 c_7:Int) (l:Tp4) (l_1:Tp1) (k:Int):Option (Int×(List UInt8)×Int×Int×Int×(List UInt8)×Tp4×Tp1×Int×Int):=LFix (zdm c c_1 c_2 c_3 c_4 c_5 c_6 c_7 l l_1 ) k
def zcz (c:Int) (c_1:(List UInt8)) (c_2 c_3 c_4:Int) (c_5:(List UInt8)) (c_6 c_7:Int) (l:Tp4) (l_1:Tp1):Option (Int×(List UInt8)×Int×Int×Int×(List UInt8)×Tp4×Tp1×Int×Int):=
  G (fits ((c_5.length:Int) - (1:Int))) (
  zb8 c c_1 c_2 c_3 c_4 c_5 c_6 c_7 l l_1 ((c_5.length:Int) - (1:Int)))
theorem zfi (r2:Nat->Int->Option (Int×(List UInt8)×Int×Int×Int×(List UInt8)×Tp4×Tp1×Int×Int)) (r2':Int->Option (Int×(List UInt8)×Int×Int×Int×(List UInt8)×Tp4×Tp1×Int×Int)) (h_r2:∀ a0,ChO (fun κ=>r2 κ a0) (r2' a0)) (c c_1 c_2 c_3 c_4 c_5 c_6 c_7 l l_1 k):ChO (fun κ=>zaM c c_1 c_2 c_3 c_4 c_5 c_6 c_7 l l_1 (r2 κ) k) (zaM c c_1 c_2 c_3 c_4 c_5 c_6 c_7 l l_1 r2' k):=by
  unfold zaM
  repeat' with_reducible first | exact ChO.const _ | exact h_r2 _ | apply ChO.ite | apply ChO.G | (apply ChO.bind;intro _)
theorem zf0 (c c_1 c_2 c_3 c_4 c_5 c_6 c_7 l l_1):Cn (zdm c c_1 c_2 c_3 c_4 c_5 c_6 c_7 l l_1):=fun g h hg x=>zfi  _ _ (fun a=>hg a) c c_1 c_2 c_3 c_4 c_5 c_6 c_7 l l_1 x
theorem zc4 (c c_1 c_2 c_3 c_4 c_5 c_6 c_7 l l_1 k):zb8 c c_1 c_2 c_3 c_4 c_5 c_6 c_7 l l_1 k=zaM c c_1 c_2 c_3 c_4 c_5 c_6 c_7 l l_1 (zb8 c c_1 c_2 c_3 c_4 c_5 c_6 c_7 l l_1) k:=zfr (zf0 c c_1 c_2 c_3 c_4 c_5 c_6 c_7 l l_1) k

def zaF (zab:(List UInt8)->Int->Int->Int->(List UInt8)->Int->Int->Tp4->Tp1->Option (Int×(List UInt8)×Int×Int×Int×(List UInt8)×Tp4×Tp1×Int×Int)) (c y'_10:Int) (r_7:(List UInt8)) (r_8 r_9 r_10:Int) (r_11:(List UInt8)) (r_12 r_13:Int) (l_4:Tp4) (l_5:Tp1):Option (Int×(List UInt8)×Int×Int×Int×(List UInt8)×Tp4×Tp1×Int×Int):=
  (zab r_7 r_8 r_9 r_10 r_11 r_12 r_13 l_4 l_5).bind (fun y'_54=>
  G (fits ((IntKind.wrap .i64 y'_10) - (97:Int))) (
  (zbf (c,((IntKind.wrap .i64 y'_10) - (97:Int),(y'_54.1,((0:Int),())))) y'_54.2.1 y'_54.2.2.1 y'_54.2.2.2.1 y'_54.2.2.2.2.1 y'_54.2.2.2.2.2.1 y'_54.2.2.2.2.2.2.2.2.1 y'_54.2.2.2.2.2.2.2.2.2 y'_54.2.2.2.2.2.2.1 y'_54.2.2.2.2.2.2.2.1).bind (fun y'_53=>
  some (y'_53.1,y'_53.2.1,y'_53.2.2.1,y'_53.2.2.2.1,y'_53.2.2.2.2.1,y'_53.2.2.2.2.2.1,y'_53.2.2.2.2.2.2.1,y'_53.2.2.2.2.2.2.2.1,y'_53.2.2.2.2.2.2.2.2.1,y'_53.2.2.2.2.2.2.2.2.2))))
def zaK (zab:(List UInt8)->Int->Int->Int->(List UInt8)->Int->Int->Tp4->Tp1->Option (Int×(List UInt8)×Int×Int×Int×(List UInt8)×Tp4×Tp1×Int×Int)) (c y'_10:Int) (r:(List UInt8)) (r_1 r_2 r_3:Int) (r_4:(List UInt8)) (r_5 r_6:Int) (l_2:Tp4) (l_3:Tp1):Option (Int×(List UInt8)×Int×Int×Int×(List UInt8)×Tp4×Tp1×Int×Int):=
  G (fits (r_1+(1:Int))) (
  if (decide (c=(60:Int)))=true then
  (za2 (62:Int) r (r_1+(1:Int)) r_2 r_3 r_4 r_5 r_6 l_2 l_3).bind (fun y'_55=>
  zaF zab c y'_10 y'_55.1 y'_55.2.1 y'_55.2.2.1 y'_55.2.2.2.1 y'_55.2.2.2.2.1 y'_55.2.2.2.2.2.2.2.1 y'_55.2.2.2.2.2.2.2.2 y'_55.2.2.2.2.2.1 y'_55.2.2.2.2.2.2.1) else
  (za2 (93:Int) r (r_1+(1:Int)) r_2 r_3 r_4 r_5 r_6 l_2 l_3).bind (fun y'_66=>
  zaF zab c y'_10 y'_66.1 y'_66.2.1 y'_66.2.2.1 y'_66.2.2.2.1 y'_66.2.2.2.2.1 y'_66.2.2.2.2.2.2.2.1 y'_66.2.2.2.2.2.2.2.2 y'_66.2.2.2.2.2.1 y'_66.2.2.2.2.2.2.1))
def zaB (zab:(List UInt8)->Int->Int->Int->(List UInt8)->Int->Int->Tp4->Tp1->Option (Int×(List UInt8)×Int×Int×Int×(List UInt8)×Tp4×Tp1×Int×Int)) (c:Int) (y':(List UInt8)) (y'_1 y'_2 y'_3:Int) (y'_4:(List UInt8)) (y'_5:Tp4) (y'_6:Tp1) (y'_7 y'_8 y'_10:Int) (t:Bool):Option (Int×(List UInt8)×Int×Int×Int×(List UInt8)×Tp4×Tp1×Int×Int):=
  if t=true then
  (zaG (4:Int) y' y'_1 y'_2 y'_3 y'_4 y'_7 y'_8 y'_5 y'_6).bind (fun y'_67=>
  zaK zab c y'_10 y'_67.1 y'_67.2.1 y'_67.2.2.1 y'_67.2.2.2.1 y'_67.2.2.2.2.1 y'_67.2.2.2.2.2.2.2.1 y'_67.2.2.2.2.2.2.2.2 y'_67.2.2.2.2.2.1 y'_67.2.2.2.2.2.2.1) else
  zaK zab c y'_10 y' y'_1 y'_2 y'_3 y'_4 y'_7 y'_8 y'_5 y'_6
def zbK (zab:(List UInt8)->Int->Int->Int->(List UInt8)->Int->Int->Tp4->Tp1->Option (Int×(List UInt8)×Int×Int×Int×(List UInt8)×Tp4×Tp1×Int×Int)) (c:Int) (c_1:(List UInt8)) (c_2 c_3 c_4:Int) (c_5:(List UInt8)) (c_6 c_7:Int) (l:Tp4) (l_1:Tp1):Option (Int×(List UInt8)×Int×Int×Int×(List UInt8)×Tp4×Tp1×Int×Int):=
  (zaC c_1 c_2 c_3 c_4 c_5 c_6 c_7 l l_1).bind (fun y'_68=>
  (zbz (y'_68.1,(y'_68.2.1,(y'_68.2.2.1,(y'_68.2.2.2.1,(y'_68.2.2.2.2.1,(y'_68.2.2.2.2.2.1,(y'_68.2.2.2.2.2.2.1,((y'_68.2.2.2.2.2.2.2.1,(y'_68.2.2.2.2.2.2.2.2,())),()))))))))).bind (fun y'_10=>
  if (decide (y'_10 < (97:Int)))=true then
  zaB zab c y'_68.1 y'_68.2.1 y'_68.2.2.1 y'_68.2.2.2.1 y'_68.2.2.2.2.1 y'_68.2.2.2.2.2.1 y'_68.2.2.2.2.2.2.1 y'_68.2.2.2.2.2.2.2.1 y'_68.2.2.2.2.2.2.2.2 y'_10 true else
  zaB zab c y'_68.1 y'_68.2.1 y'_68.2.2.1 y'_68.2.2.2.1 y'_68.2.2.2.2.1 y'_68.2.2.2.2.2.1 y'_68.2.2.2.2.2.2.1 y'_68.2.2.2.2.2.2.2.1 y'_68.2.2.2.2.2.2.2.2 y'_10 (decide ((100:Int) < y'_10))))
def zaJ (zab:(List UInt8)->Int->Int->Int->(List UInt8)->Int->Int->Tp4->Tp1->Option (Int×(List UInt8)×Int×Int×Int×(List UInt8)×Tp4×Tp1×Int×Int)) (c y'_21:Int) (r:(List UInt8)) (r_1 r_2 r_3:Int) (r_4:(List UInt8)) (r_5 r_6:Int) (l_2:Tp4) (l_3:Tp1):Option (Int×(List UInt8)×Int×Int×Int×(List UInt8)×Tp4×Tp1×Int×Int):=
  G (fits (r_1+(1:Int))) (
  (za2 (46:Int) r (r_1+(1:Int)) r_2 r_3 r_4 r_5 r_6 l_2 l_3).bind (fun y'_66=>
  G ((y'_66.2.2.2.2.1.length:Int)+(bstr ([y'_21])).length<=9223372036854775807) (
  G (room y'_66.2.2.2.2.2.1 ([false]) 1) (
  (zab y'_66.1 y'_66.2.1 y'_66.2.2.1 y'_66.2.2.2.1 (y'_66.2.2.2.2.1++(bstr ([y'_21]))) y'_66.2.2.2.2.2.2.2.1 y'_66.2.2.2.2.2.2.2.2 (y'_66.2.2.2.2.2.1++([false])) y'_66.2.2.2.2.2.2.1).bind (fun y'_65=>
  G (0<=(0:Int)/\(0:Int)<=(y'_66.2.2.2.2.1.length:Int)/\(y'_66.2.2.2.2.1.length:Int)<=(y'_65.2.2.2.2.2.1.length:Int)) (
  G (0<=(y'_66.2.2.2.2.1.length:Int)/\(y'_66.2.2.2.2.1.length:Int)<=(y'_65.2.2.2.2.2.2.1.length:Int)) (
  (zbf (c,((y'_66.2.2.2.2.1.length:Int),(y'_65.1,((0:Int),())))) y'_65.2.1 y'_65.2.2.1 y'_65.2.2.2.1 y'_65.2.2.2.2.1 (cut y'_65.2.2.2.2.2.1 (0:Int) (y'_66.2.2.2.2.1.length:Int)) y'_65.2.2.2.2.2.2.2.2.1 y'_65.2.2.2.2.2.2.2.2.2 (y'_65.2.2.2.2.2.2.1.take ((y'_66.2.2.2.2.1.length:Int)).toNat) y'_65.2.2.2.2.2.2.2.1).bind (fun y'_64=>
  some (y'_64.1,y'_64.2.1,y'_64.2.2.1,y'_64.2.2.2.1,y'_64.2.2.2.2.1,y'_64.2.2.2.2.2.1,y'_64.2.2.2.2.2.2.1,y'_64.2.2.2.2.2.2.2.1,y'_64.2.2.2.2.2.2.2.2.1,y'_64.2.2.2.2.2.2.2.2.2)))))))))
def zaD (zab:(List UInt8)->Int->Int->Int->(List UInt8)->Int->Int->Tp4->Tp1->Option (Int×(List UInt8)×Int×Int×Int×(List UInt8)×Tp4×Tp1×Int×Int)) (c:Int) (y'_11:(List UInt8)) (y'_12 y'_13 y'_14:Int) (y'_15:(List UInt8)) (y'_16:Tp4) (y'_17:Tp1) (y'_18 y'_19 y'_21:Int) (t:Bool):Option (Int×(List UInt8)×Int×Int×Int×(List UInt8)×Tp4×Tp1×Int×Int):=
  if t=true then
  (zaG (4:Int) y'_11 y'_12 y'_13 y'_14 y'_15 y'_18 y'_19 y'_16 y'_17).bind (fun y'_67=>
  zaJ zab c y'_21 y'_67.1 y'_67.2.1 y'_67.2.2.1 y'_67.2.2.2.1 y'_67.2.2.2.2.1 y'_67.2.2.2.2.2.2.2.1 y'_67.2.2.2.2.2.2.2.2 y'_67.2.2.2.2.2.1 y'_67.2.2.2.2.2.2.1) else
  zaJ zab c y'_21 y'_11 y'_12 y'_13 y'_14 y'_15 y'_18 y'_19 y'_16 y'_17
def zbV (zab:(List UInt8)->Int->Int->Int->(List UInt8)->Int->Int->Tp4->Tp1->Option (Int×(List UInt8)×Int×Int×Int×(List UInt8)×Tp4×Tp1×Int×Int)) (c:Int) (c_1:(List UInt8)) (c_2 c_3 c_4:Int) (c_5:(List UInt8)) (c_6 c_7:Int) (l:Tp4) (l_1:Tp1):Option (Int×(List UInt8)×Int×Int×Int×(List UInt8)×Tp4×Tp1×Int×Int):=
  if (decide ((c_5.length:Int)=(3:Int)))=true then
  (zaG (7:Int) c_1 c_2 c_3 c_4 c_5 c_6 c_7 l l_1).bind (fun y'_10=>
  some ((0:Int),y'_10.1,y'_10.2.1,y'_10.2.2.1,y'_10.2.2.2.1,y'_10.2.2.2.2.1,y'_10.2.2.2.2.2.1,y'_10.2.2.2.2.2.2.1,y'_10.2.2.2.2.2.2.2.1,y'_10.2.2.2.2.2.2.2.2)) else
  (zaC c_1 c_2 c_3 c_4 c_5 c_6 c_7 l l_1).bind (fun y'_68=>
  (zbz (y'_68.1,(y'_68.2.1,(y'_68.2.2.1,(y'_68.2.2.2.1,(y'_68.2.2.2.2.1,(y'_68.2.2.2.2.2.1,(y'_68.2.2.2.2.2.2.1,((y'_68.2.2.2.2.2.2.2.1,(y'_68.2.2.2.2.2.2.2.2,())),()))))))))).bind (fun y'_21=>
  if (decide (y'_21 < (88:Int)))=true then
  zaD zab c y'_68.1 y'_68.2.1 y'_68.2.2.1 y'_68.2.2.2.1 y'_68.2.2.2.2.1 y'_68.2.2.2.2.2.1 y'_68.2.2.2.2.2.2.1 y'_68.2.2.2.2.2.2.2.1 y'_68.2.2.2.2.2.2.2.2 y'_21 true else
  zaD zab c y'_68.1 y'_68.2.1 y'_68.2.2.1 y'_68.2.2.2.1 y'_68.2.2.2.2.1 y'_68.2.2.2.2.2.1 y'_68.2.2.2.2.2.2.1 y'_68.2.2.2.2.2.2.2.1 y'_68.2.2.2.2.2.2.2.2 y'_21 (decide ((90:Int) < y'_21))))
def zaS (zab:(List UInt8)->Int->Int->Int->(List UInt8)->Int->Int->Tp4->Tp1->Option (Int×(List UInt8)×Int×Int×Int×(List UInt8)×Tp4×Tp1×Int×Int)) (r2:Int->(List UInt8)->Int->Int->Int->(List UInt8)->Int->Int->Tp4->Tp1->Option (Int×(List UInt8)×Int×Int×Int×(List UInt8)×Tp4×Tp1×Int×Int)) (a:Int) (r:(List UInt8)) (r_1 r_2 r_3:Int) (r_4:(List UInt8)) (r_5 r_6:Int) (l_2:Tp4) (l_3:Tp1):Option (Int×(List UInt8)×Int×Int×Int×(List UInt8)×Tp4×Tp1×Int×Int):=
  (zbz (r,(r_1,(r_2,(r_3,(r_4,(l_2,(l_3,((r_5,(r_6,())),()))))))))).bind (fun y'_11=>
  (zcT (r,(r_1,(r_2,(r_3,(r_4,(l_2,(l_3,((r_5,(r_6,())),()))))))))).bind (fun y'_12=>
  if (!y'_12)=true then
  some (a,r,r_1,r_2,r_3,r_4,l_2,l_3,r_5,r_6) else
  if (decide (¬ y'_11=(38:Int)))=true then
  some (a,r,r_1,r_2,r_3,r_4,l_2,l_3,r_5,r_6) else
  (zaC r r_1 r_2 r_3 r_4 r_5 r_6 l_2 l_3).bind (fun y'_47=>
  (zab y'_47.1 y'_47.2.1 y'_47.2.2.1 y'_47.2.2.2.1 y'_47.2.2.2.2.1 y'_47.2.2.2.2.2.2.2.1 y'_47.2.2.2.2.2.2.2.2 y'_47.2.2.2.2.2.1 y'_47.2.2.2.2.2.2.1).bind (fun y'_46=>
  (zbf ((38:Int),((0:Int),(a,(y'_46.1,())))) y'_46.2.1 y'_46.2.2.1 y'_46.2.2.2.1 y'_46.2.2.2.2.1 y'_46.2.2.2.2.2.1 y'_46.2.2.2.2.2.2.2.2.1 y'_46.2.2.2.2.2.2.2.2.2 y'_46.2.2.2.2.2.2.1 y'_46.2.2.2.2.2.2.2.1).bind (fun y'_45=>
  r2 y'_45.1 y'_45.2.1 y'_45.2.2.1 y'_45.2.2.2.1 y'_45.2.2.2.2.1 y'_45.2.2.2.2.2.1 y'_45.2.2.2.2.2.2.2.2.1 y'_45.2.2.2.2.2.2.2.2.2 y'_45.2.2.2.2.2.2.1 y'_45.2.2.2.2.2.2.2.1)))))
def zdK (zab:(List UInt8)->Int->Int->Int->(List UInt8)->Int->Int->Tp4->Tp1->Option (Int×(List UInt8)×Int×Int×Int×(List UInt8)×Tp4×Tp1×Int×Int)):(Int×(List UInt8)×Int×Int×Int×(List UInt8)×Int×Int×Tp4×Tp1->Option (Int×(List UInt8)×Int×Int×Int×(List UInt8)×Tp4×Tp1×Int×Int))->Int×(List UInt8)×Int×Int×Int×(List UInt8)×Int×Int×Tp4×Tp1->Option (Int×(List UInt8)×Int×Int×Int×(List UInt8)×Tp4×Tp1×Int×Int):=
  fun rec x=>zaS zab (fun a r r_1 r_2 r_3 r_4 r_5 r_6 l_2 l_3=>rec (a,r,r_1,r_2,r_3,r_4,r_5,r_6,l_2,l_3)) x.1 x.2.1 x.2.2.1 x.2.2.2.1 x.2.2.2.2.1 x.2.2.2.2.2.1 x.2.2.2.2.2.2.1 x.2.2.2.2.2.2.2.1 x.2.2.2.2.2.2.2.2.1 x.2.2.2.2.2.2.2.2.2
def zaW (zab:(List UInt8)->Int->Int->Int->(List UInt8)->Int->Int->Tp4->Tp1->Option (Int×(List UInt8)×Int×Int×Int×(List UInt8)×Tp4×Tp1×Int×Int)) (a:Int) (r:(List UInt8)) (r_1 r_2 r_3:Int) (r_4:(List UInt8)) (r_5 r_6:Int) (l_2:Tp4) (l_3:Tp1):Option (Int×(List UInt8)×Int×Int×Int×(List UInt8)×Tp4×Tp1×Int×Int):=LFix (zdK zab ) (a,r,r_1,r_2,r_3,r_4,r_5,r_6,l_2,l_3)
def za1 (zab:(List UInt8)->Int->Int->Int->(List UInt8)->Int->Int->Tp4->Tp1->Option (Int×(List UInt8)×Int×Int×Int×(List UInt8)×Tp4×Tp1×Int×Int)) (c:(List UInt8)) (c_1 c_2 c_3:Int) (c_4:(List UInt8)) (c_5 c_6:Int) (l:Tp4) (l_1:Tp1):Option (Int×(List UInt8)×Int×Int×Int×(List UInt8)×Tp4×Tp1×Int×Int):=
  (zab c c_1 c_2 c_3 c_4 c_5 c_6 l l_1).bind (fun y'_48=>
  zaW zab y'_48.1 y'_48.2.1 y'_48.2.2.1 y'_48.2.2.2.1 y'_48.2.2.2.2.1 y'_48.2.2.2.2.2.1 y'_48.2.2.2.2.2.2.2.2.1 y'_48.2.2.2.2.2.2.2.2.2 y'_48.2.2.2.2.2.2.1 y'_48.2.2.2.2.2.2.2.1)
def zaO (zab:(List UInt8)->Int->Int->Int->(List UInt8)->Int->Int->Tp4->Tp1->Option (Int×(List UInt8)×Int×Int×Int×(List UInt8)×Tp4×Tp1×Int×Int)) (r2:Int->(List UInt8)->Int->Int->Int->(List UInt8)->Int->Int->Tp4->Tp1->Option (Int×(List UInt8)×Int×Int×Int×(List UInt8)×Tp4×Tp1×Int×Int)) (a:Int) (r:(List UInt8)) (r_1 r_2 r_3:Int) (r_4:(List UInt8)) (r_5 r_6:Int) (l_2:Tp4) (l_3:Tp1):Option (Int×(List UInt8)×Int×Int×Int×(List UInt8)×Tp4×Tp1×Int×Int):=
  (zbz (r,(r_1,(r_2,(r_3,(r_4,(l_2,(l_3,((r_5,(r_6,())),()))))))))).bind (fun y'_11=>
  (zcT (r,(r_1,(r_2,(r_3,(r_4,(l_2,(l_3,((r_5,(r_6,())),()))))))))).bind (fun y'_12=>
  if (!y'_12)=true then
  some (a,r,r_1,r_2,r_3,r_4,l_2,l_3,r_5,r_6) else
  if (decide (¬ y'_11=(124:Int)))=true then
  some (a,r,r_1,r_2,r_3,r_4,l_2,l_3,r_5,r_6) else
  (zaC r r_1 r_2 r_3 r_4 r_5 r_6 l_2 l_3).bind (fun y'_47=>
  (za1 zab y'_47.1 y'_47.2.1 y'_47.2.2.1 y'_47.2.2.2.1 y'_47.2.2.2.2.1 y'_47.2.2.2.2.2.2.2.1 y'_47.2.2.2.2.2.2.2.2 y'_47.2.2.2.2.2.1 y'_47.2.2.2.2.2.2.1).bind (fun y'_46=>
  (zbf ((124:Int),((0:Int),(a,(y'_46.1,())))) y'_46.2.1 y'_46.2.2.1 y'_46.2.2.2.1 y'_46.2.2.2.2.1 y'_46.2.2.2.2.2.1 y'_46.2.2.2.2.2.2.2.2.1 y'_46.2.2.2.2.2.2.2.2.2 y'_46.2.2.2.2.2.2.1 y'_46.2.2.2.2.2.2.2.1).bind (fun y'_45=>
  r2 y'_45.1 y'_45.2.1 y'_45.2.2.1 y'_45.2.2.2.1 y'_45.2.2.2.2.1 y'_45.2.2.2.2.2.1 y'_45.2.2.2.2.2.2.2.2.1 y'_45.2.2.2.2.2.2.2.2.2 y'_45.2.2.2.2.2.2.1 y'_45.2.2.2.2.2.2.2.1)))))
def zdp (zab:(List UInt8)->Int->Int->Int->(List UInt8)->Int->Int->Tp4->Tp1->Option (Int×(List UInt8)×Int×Int×Int×(List UInt8)×Tp4×Tp1×Int×Int)):(Int×(List UInt8)×Int×Int×Int×(List UInt8)×Int×Int×Tp4×Tp1->Option (Int×(List UInt8)×Int×Int×Int×(List UInt8)×Tp4×Tp1×Int×Int))->Int×(List UInt8)×Int×Int×Int×(List UInt8)×Int×Int×Tp4×Tp1->Option (Int×(List UInt8)×Int×Int×Int×(List UInt8)×Tp4×Tp1×Int×Int):=
  fun rec x=>zaO zab (fun a r r_1 r_2 r_3 r_4 r_5 r_6 l_2 l_3=>rec (a,r,r_1,r_2,r_3,r_4,r_5,r_6,l_2,l_3)) x.1 x.2.1 x.2.2.1 x.2.2.2.1 x.2.2.2.2.1 x.2.2.2.2.2.1 x.2.2.2.2.2.2.1 x.2.2.2.2.2.2.2.1 x.2.2.2.2.2.2.2.2.1 x.2.2.2.2.2.2.2.2.2
def zaN (zab:(List UInt8)->Int->Int->Int->(List UInt8)->Int->Int->Tp4->Tp1->Option (Int×(List UInt8)×Int×Int×Int×(List UInt8)×Tp4×Tp1×Int×Int)) (a:Int) (r:(List UInt8)) (r_1 r_2 r_3:Int) (r_4:(List UInt8)) (r_5 r_6:Int) (l_2:Tp4) (l_3:Tp1):Option (Int×(List UInt8)×Int×Int×Int×(List UInt8)×Tp4×Tp1×Int×Int):=LFix (zdp zab ) (a,r,r_1,r_2,r_3,r_4,r_5,r_6,l_2,l_3)
def zaQ (zab:(List UInt8)->Int->Int->Int->(List UInt8)->Int->Int->Tp4->Tp1->Option (Int×(List UInt8)×Int×Int×Int×(List UInt8)×Tp4×Tp1×Int×Int)) (c:(List UInt8)) (c_1 c_2 c_3:Int) (c_4:(List UInt8)) (c_5 c_6:Int) (l:Tp4) (l_1:Tp1):Option (Int×(List UInt8)×Int×Int×Int×(List UInt8)×Tp4×Tp1×Int×Int):=
  (za1 zab c c_1 c_2 c_3 c_4 c_5 c_6 l l_1).bind (fun y'_48=>
  zaN zab y'_48.1 y'_48.2.1 y'_48.2.2.1 y'_48.2.2.2.1 y'_48.2.2.2.2.1 y'_48.2.2.2.2.2.1 y'_48.2.2.2.2.2.2.2.2.1 y'_48.2.2.2.2.2.2.2.2.2 y'_48.2.2.2.2.2.2.1 y'_48.2.2.2.2.2.2.2.1)
def zav (zab:(List UInt8)->Int->Int->Int->(List UInt8)->Int->Int->Tp4->Tp1->Option (Int×(List UInt8)×Int×Int×Int×(List UInt8)×Tp4×Tp1×Int×Int)) (c:(List UInt8)) (c_1 c_2 c_3:Int) (c_4:(List UInt8)) (c_5 c_6:Int) (l:Tp4) (l_1:Tp1) (y'_1:Int) (t_3:Bool):Option (Int×(List UInt8)×Int×Int×Int×(List UInt8)×Tp4×Tp1×Int×Int):=
  if t_3=true then
  (zcz y'_1 c c_1 c_2 c_3 c_4 c_5 c_6 l l_1).bind (fun y'_117=>
  some (y'_117.1,y'_117.2.1,y'_117.2.2.1,y'_117.2.2.2.1,y'_117.2.2.2.2.1,y'_117.2.2.2.2.2.1,y'_117.2.2.2.2.2.2.1,y'_117.2.2.2.2.2.2.2.1,y'_117.2.2.2.2.2.2.2.2.1,y'_117.2.2.2.2.2.2.2.2.2)) else
  if (decide (¬ y'_1=(40:Int)))=true then
  (zaG (4:Int) c c_1 c_2 c_3 c_4 c_5 c_6 l l_1).bind (fun y'_128=>
  some ((0:Int),y'_128.1,y'_128.2.1,y'_128.2.2.1,y'_128.2.2.2.1,y'_128.2.2.2.2.1,y'_128.2.2.2.2.2.1,y'_128.2.2.2.2.2.2.1,y'_128.2.2.2.2.2.2.2.1,y'_128.2.2.2.2.2.2.2.2)) else
  if (decide (c_2=(40:Int)))=true then
  (zaG (7:Int) c c_1 c_2 c_3 c_4 c_5 c_6 l l_1).bind (fun y'_139=>
  some ((0:Int),y'_139.1,y'_139.2.1,y'_139.2.2.1,y'_139.2.2.2.1,y'_139.2.2.2.2.1,y'_139.2.2.2.2.2.1,y'_139.2.2.2.2.2.2.1,y'_139.2.2.2.2.2.2.2.1,y'_139.2.2.2.2.2.2.2.2)) else
  G (fits (c_2+(1:Int))) (
  G (fits (c_1+(1:Int))) (
  (zaQ zab c (c_1+(1:Int)) (c_2+(1:Int)) c_3 c_4 c_5 c_6 l l_1).bind (fun y'_162=>
  (za2 (41:Int) y'_162.2.1 y'_162.2.2.1 y'_162.2.2.2.1 y'_162.2.2.2.2.1 y'_162.2.2.2.2.2.1 y'_162.2.2.2.2.2.2.2.2.1 y'_162.2.2.2.2.2.2.2.2.2 y'_162.2.2.2.2.2.2.1 y'_162.2.2.2.2.2.2.2.1).bind (fun y'_161=>
  G (fits (y'_161.2.2.1 - (1:Int))) (
  some (y'_162.1,y'_161.1,y'_161.2.1,y'_161.2.2.1 - (1:Int),y'_161.2.2.2.1,y'_161.2.2.2.2.1,y'_161.2.2.2.2.2.1,y'_161.2.2.2.2.2.2.1,y'_161.2.2.2.2.2.2.2.1,y'_161.2.2.2.2.2.2.2.2))))))
def zbb (zab:(List UInt8)->Int->Int->Int->(List UInt8)->Int->Int->Tp4->Tp1->Option (Int×(List UInt8)×Int×Int×Int×(List UInt8)×Tp4×Tp1×Int×Int)) (c:(List UInt8)) (c_1 c_2 c_3:Int) (c_4:(List UInt8)) (c_5 c_6:Int) (l:Tp4) (l_1:Tp1) (y'_1:Int) (t_2:Bool):Option (Int×(List UInt8)×Int×Int×Int×(List UInt8)×Tp4×Tp1×Int×Int):=
  if t_2=true then
  (zbV zab y'_1 c c_1 c_2 c_3 c_4 c_5 c_6 l l_1).bind (fun y'_105=>
  some (y'_105.1,y'_105.2.1,y'_105.2.2.1,y'_105.2.2.2.1,y'_105.2.2.2.2.1,y'_105.2.2.2.2.2.1,y'_105.2.2.2.2.2.2.1,y'_105.2.2.2.2.2.2.2.1,y'_105.2.2.2.2.2.2.2.2.1,y'_105.2.2.2.2.2.2.2.2.2)) else
  if (decide (y'_1=(88:Int)))=true then
  zav zab c c_1 c_2 c_3 c_4 c_5 c_6 l l_1 y'_1 (decide (y'_1=(88:Int))) else
  if (decide (y'_1=(89:Int)))=true then
  zav zab c c_1 c_2 c_3 c_4 c_5 c_6 l l_1 y'_1 (decide (y'_1=(89:Int))) else
  zav zab c c_1 c_2 c_3 c_4 c_5 c_6 l l_1 y'_1 (decide (y'_1=(90:Int)))
def zba (zab:(List UInt8)->Int->Int->Int->(List UInt8)->Int->Int->Tp4->Tp1->Option (Int×(List UInt8)×Int×Int×Int×(List UInt8)×Tp4×Tp1×Int×Int)) (c:(List UInt8)) (c_1 c_2 c_3:Int) (c_4:(List UInt8)) (c_5 c_6:Int) (l:Tp4) (l_1:Tp1) (y'_1:Int) (t_1:Bool):Option (Int×(List UInt8)×Int×Int×Int×(List UInt8)×Tp4×Tp1×Int×Int):=
  if t_1=true then
  (zbK zab y'_1 c c_1 c_2 c_3 c_4 c_5 c_6 l l_1).bind (fun y'_93=>
  some (y'_93.1,y'_93.2.1,y'_93.2.2.1,y'_93.2.2.2.1,y'_93.2.2.2.2.1,y'_93.2.2.2.2.2.1,y'_93.2.2.2.2.2.2.1,y'_93.2.2.2.2.2.2.2.1,y'_93.2.2.2.2.2.2.2.2.1,y'_93.2.2.2.2.2.2.2.2.2)) else
  if (decide (y'_1=(109:Int)))=true then
  zbb zab c c_1 c_2 c_3 c_4 c_5 c_6 l l_1 y'_1 (decide (y'_1=(109:Int))) else
  zbb zab c c_1 c_2 c_3 c_4 c_5 c_6 l l_1 y'_1 (decide (y'_1=(110:Int)))
def zbm (zab:(List UInt8)->Int->Int->Int->(List UInt8)->Int->Int->Tp4->Tp1->Option (Int×(List UInt8)×Int×Int×Int×(List UInt8)×Tp4×Tp1×Int×Int)) (c:(List UInt8)) (c_1 c_2 c_3:Int) (c_4:(List UInt8)) (c_5 c_6:Int) (l:Tp4) (l_1:Tp1) (y'_1:Int) (t:Bool):Option (Int×(List UInt8)×Int×Int×Int×(List UInt8)×Tp4×Tp1×Int×Int):=
  if t=true then
  (zaC c c_1 c_2 c_3 c_4 c_5 c_6 l l_1).bind (fun y'_24=>
  (zbf (y'_1,((0:Int),((0:Int),((0:Int),())))) y'_24.1 y'_24.2.1 y'_24.2.2.1 y'_24.2.2.2.1 y'_24.2.2.2.2.1 y'_24.2.2.2.2.2.2.2.1 y'_24.2.2.2.2.2.2.2.2 y'_24.2.2.2.2.2.1 y'_24.2.2.2.2.2.2.1).bind (fun y'_23=>
  some (y'_23.1,y'_23.2.1,y'_23.2.2.1,y'_23.2.2.2.1,y'_23.2.2.2.2.1,y'_23.2.2.2.2.2.1,y'_23.2.2.2.2.2.2.1,y'_23.2.2.2.2.2.2.2.1,y'_23.2.2.2.2.2.2.2.2.1,y'_23.2.2.2.2.2.2.2.2.2))) else
  if (decide (y'_1=(33:Int)))=true then
  (zaC c c_1 c_2 c_3 c_4 c_5 c_6 l l_1).bind (fun y'_81=>
  (zcp y'_81.1 y'_81.2.1 y'_81.2.2.1 y'_81.2.2.2.1 y'_81.2.2.2.2.1 y'_81.2.2.2.2.2.2.2.1 y'_81.2.2.2.2.2.2.2.2 y'_81.2.2.2.2.2.1 y'_81.2.2.2.2.2.2.1).bind (fun y'_80=>
  (zab y'_80.1 y'_80.2.1 y'_80.2.2.1 y'_80.2.2.2.1 y'_80.2.2.2.2.1 y'_80.2.2.2.2.2.2.2.1 y'_80.2.2.2.2.2.2.2.2 y'_80.2.2.2.2.2.1 y'_80.2.2.2.2.2.2.1).bind (fun y'_79=>
  (zcp y'_79.2.1 y'_79.2.2.1 y'_79.2.2.2.1 y'_79.2.2.2.2.1 y'_79.2.2.2.2.2.1 y'_79.2.2.2.2.2.2.2.2.1 y'_79.2.2.2.2.2.2.2.2.2 y'_79.2.2.2.2.2.2.1 y'_79.2.2.2.2.2.2.2.1).bind (fun y'_78=>
  (zbf ((33:Int),((0:Int),(y'_79.1,((0:Int),())))) y'_78.1 y'_78.2.1 y'_78.2.2.1 y'_78.2.2.2.1 y'_78.2.2.2.2.1 y'_78.2.2.2.2.2.2.2.1 y'_78.2.2.2.2.2.2.2.2 y'_78.2.2.2.2.2.1 y'_78.2.2.2.2.2.2.1).bind (fun y'_77=>
  some (y'_77.1,y'_77.2.1,y'_77.2.2.1,y'_77.2.2.2.1,y'_77.2.2.2.2.1,y'_77.2.2.2.2.2.1,y'_77.2.2.2.2.2.2.1,y'_77.2.2.2.2.2.2.2.1,y'_77.2.2.2.2.2.2.2.2.1,y'_77.2.2.2.2.2.2.2.2.2)))))) else
  if (decide (y'_1=(60:Int)))=true then
  zba zab c c_1 c_2 c_3 c_4 c_5 c_6 l l_1 y'_1 (decide (y'_1=(60:Int))) else
  zba zab c c_1 c_2 c_3 c_4 c_5 c_6 l l_1 y'_1 (decide (y'_1=(91:Int)))
def zbv (zab:(List UInt8)->Int->Int->Int->(List UInt8)->Int->Int->Tp4->Tp1->Option (Int×(List UInt8)×Int×Int×Int×(List UInt8)×Tp4×Tp1×Int×Int)) (c:(List UInt8)) (c_1 c_2 c_3:Int) (c_4:(List UInt8)) (c_5 c_6:Int) (l:Tp4) (l_1:Tp1):Option (Int×(List UInt8)×Int×Int×Int×(List UInt8)×Tp4×Tp1×Int×Int):=
  (zcT (c,(c_1,(c_2,(c_3,(c_4,(l,(l_1,((c_5,(c_6,())),()))))))))).bind (fun y'=>
  if (!y')=true then
  some ((0:Int),c,c_1,c_2,c_3,c_4,l,l_1,c_5,c_6) else
  (zbz (c,(c_1,(c_2,(c_3,(c_4,(l,(l_1,((c_5,(c_6,())),()))))))))).bind (fun y'_1=>
  if (decide (y'_1=(48:Int)))=true then
  zbm zab c c_1 c_2 c_3 c_4 c_5 c_6 l l_1 y'_1 (decide (y'_1=(48:Int))) else
  zbm zab c c_1 c_2 c_3 c_4 c_5 c_6 l l_1 y'_1 (decide (y'_1=(49:Int)))))
theorem zfZ (zab:Nat->(List UInt8)->Int->Int->Int->(List UInt8)->Int->Int->Tp4->Tp1->Option (Int×(List UInt8)×Int×Int×Int×(List UInt8)×Tp4×Tp1×Int×Int)) (zae:(List UInt8)->Int->Int->Int->(List UInt8)->Int->Int->Tp4->Tp1->Option (Int×(List UInt8)×Int×Int×Int×(List UInt8)×Tp4×Tp1×Int×Int)) (zaf:∀ a0 a1 a2 a3 a4 a5 a6 a7 a8,ChO (fun κ=>zab κ a0 a1 a2 a3 a4 a5 a6 a7 a8) (zae a0 a1 a2 a3 a4 a5 a6 a7 a8)) (c y'_10 r_7 r_8 r_9 r_10 r_11 r_12 r_13 l_4 l_5):ChO (fun κ=>zaF (zab κ) c y'_10 r_7 r_8 r_9 r_10 r_11 r_12 r_13 l_4 l_5) (zaF zae c y'_10 r_7 r_8 r_9 r_10 r_11 r_12 r_13 l_4 l_5):=by
  unfold zaF
  repeat' with_reducible first | exact ChO.const _ | exact zaf _ _ _ _ _ _ _ _ _ | apply ChO.G | (apply ChO.bind;intro _) | (apply ChO.bind2 (zaf _ _ _ _ _ _ _ _ _);intro _) | (refine ChO.bind2 ?_ (fun _ => ?_))
theorem zfY (zab:Nat->(List UInt8)->Int->Int->Int->(List UInt8)->Int->Int->Tp4->Tp1->Option (Int×(List UInt8)×Int×Int×Int×(List UInt8)×Tp4×Tp1×Int×Int)) (zae:(List UInt8)->Int->Int->Int->(List UInt8)->Int->Int->Tp4->Tp1->Option (Int×(List UInt8)×Int×Int×Int×(List UInt8)×Tp4×Tp1×Int×Int)) (zaf:∀ a0 a1 a2 a3 a4 a5 a6 a7 a8,ChO (fun κ=>zab κ a0 a1 a2 a3 a4 a5 a6 a7 a8) (zae a0 a1 a2 a3 a4 a5 a6 a7 a8)) (c y'_10 r r_1 r_2 r_3 r_4 r_5 r_6 l_2 l_3):ChO (fun κ=>zaK (zab κ) c y'_10 r r_1 r_2 r_3 r_4 r_5 r_6 l_2 l_3) (zaK zae c y'_10 r r_1 r_2 r_3 r_4 r_5 r_6 l_2 l_3):=by
  unfold zaK
  repeat' with_reducible first | exact ChO.const _ | exact zaf _ _ _ _ _ _ _ _ _ | (apply zfZ<;>assumption) | apply ChO.ite | apply ChO.G | (apply ChO.bind;intro _) | (apply ChO.bind2 (zaf _ _ _ _ _ _ _ _ _);intro _) | (refine ChO.bind2 ?_ (fun _ => ?_))
theorem zfX (zab:Nat->(List UInt8)->Int->Int->Int->(List UInt8)->Int->Int->Tp4->Tp1->Option (Int×(List UInt8)×Int×Int×Int×(List UInt8)×Tp4×Tp1×Int×Int)) (zae:(List UInt8)->Int->Int->Int->(List UInt8)->Int->Int->Tp4->Tp1->Option (Int×(List UInt8)×Int×Int×Int×(List UInt8)×Tp4×Tp1×Int×Int)) (zaf:∀ a0 a1 a2 a3 a4 a5 a6 a7 a8,ChO (fun κ=>zab κ a0 a1 a2 a3 a4 a5 a6 a7 a8) (zae a0 a1 a2 a3 a4 a5 a6 a7 a8)) (c y' y'_1 y'_2 y'_3 y'_4 y'_5 y'_6 y'_7 y'_8 y'_10 t):ChO (fun κ=>zaB (zab κ) c y' y'_1 y'_2 y'_3 y'_4 y'_5 y'_6 y'_7 y'_8 y'_10 t) (zaB zae c y' y'_1 y'_2 y'_3 y'_4 y'_5 y'_6 y'_7 y'_8 y'_10 t):=by
  unfold zaB
  repeat' with_reducible first | exact ChO.const _ | exact zaf _ _ _ _ _ _ _ _ _ | (apply zfY<;>assumption) | apply ChO.ite | (apply ChO.bind;intro _) | (apply ChO.bind2 (zaf _ _ _ _ _ _ _ _ _);intro _) | (refine ChO.bind2 ?_ (fun _ => ?_))
theorem zhl (zab:Nat->(List UInt8)->Int->Int->Int->(List UInt8)->Int->Int->Tp4->Tp1->Option (Int×(List UInt8)×Int×Int×Int×(List UInt8)×Tp4×Tp1×Int×Int)) (zae:(List UInt8)->Int->Int->Int->(List UInt8)->Int->Int->Tp4->Tp1->Option (Int×(List UInt8)×Int×Int×Int×(List UInt8)×Tp4×Tp1×Int×Int)) (zaf:∀ a0 a1 a2 a3 a4 a5 a6 a7 a8,ChO (fun κ=>zab κ a0 a1 a2 a3 a4 a5 a6 a7 a8) (zae a0 a1 a2 a3 a4 a5 a6 a7 a8)) (c c_1 c_2 c_3 c_4 c_5 c_6 c_7 l l_1):ChO (fun κ=>zbK (zab κ) c c_1 c_2 c_3 c_4 c_5 c_6 c_7 l l_1) (zbK zae c c_1 c_2 c_3 c_4 c_5 c_6 c_7 l l_1):=by
  unfold zbK
  repeat' with_reducible first | exact ChO.const _ | exact zaf _ _ _ _ _ _ _ _ _ | (apply zfX<;>assumption) | apply ChO.ite | (apply ChO.bind;intro _) | (apply ChO.bind2 (zaf _ _ _ _ _ _ _ _ _);intro _) | (refine ChO.bind2 ?_ (fun _ => ?_))
theorem zgz (zab:Nat->(List UInt8)->Int->Int->Int->(List UInt8)->Int->Int->Tp4->Tp1->Option (Int×(List UInt8)×Int×Int×Int×(List UInt8)×Tp4×Tp1×Int×Int)) (zae:(List UInt8)->Int->Int->Int->(List UInt8)->Int->Int->Tp4->Tp1->Option (Int×(List UInt8)×Int×Int×Int×(List UInt8)×Tp4×Tp1×Int×Int)) (zaf:∀ a0 a1 a2 a3 a4 a5 a6 a7 a8,ChO (fun κ=>zab κ a0 a1 a2 a3 a4 a5 a6 a7 a8) (zae a0 a1 a2 a3 a4 a5 a6 a7 a8)) (c y'_21 r r_1 r_2 r_3 r_4 r_5 r_6 l_2 l_3):ChO (fun κ=>zaJ (zab κ) c y'_21 r r_1 r_2 r_3 r_4 r_5 r_6 l_2 l_3) (zaJ zae c y'_21 r r_1 r_2 r_3 r_4 r_5 r_6 l_2 l_3):=by
  unfold zaJ
  repeat' with_reducible first | exact ChO.const _ | exact zaf _ _ _ _ _ _ _ _ _ | apply ChO.G | (apply ChO.bind;intro _) | (apply ChO.bind2 (zaf _ _ _ _ _ _ _ _ _);intro _) | (refine ChO.bind2 ?_ (fun _ => ?_))
theorem zgy (zab:Nat->(List UInt8)->Int->Int->Int->(List UInt8)->Int->Int->Tp4->Tp1->Option (Int×(List UInt8)×Int×Int×Int×(List UInt8)×Tp4×Tp1×Int×Int)) (zae:(List UInt8)->Int->Int->Int->(List UInt8)->Int->Int->Tp4->Tp1->Option (Int×(List UInt8)×Int×Int×Int×(List UInt8)×Tp4×Tp1×Int×Int)) (zaf:∀ a0 a1 a2 a3 a4 a5 a6 a7 a8,ChO (fun κ=>zab κ a0 a1 a2 a3 a4 a5 a6 a7 a8) (zae a0 a1 a2 a3 a4 a5 a6 a7 a8)) (c y'_11 y'_12 y'_13 y'_14 y'_15 y'_16 y'_17 y'_18 y'_19 y'_21 t):ChO (fun κ=>zaD (zab κ) c y'_11 y'_12 y'_13 y'_14 y'_15 y'_16 y'_17 y'_18 y'_19 y'_21 t) (zaD zae c y'_11 y'_12 y'_13 y'_14 y'_15 y'_16 y'_17 y'_18 y'_19 y'_21 t):=by
  unfold zaD
  repeat' with_reducible first | exact ChO.const _ | exact zaf _ _ _ _ _ _ _ _ _ | (apply zgz<;>assumption) | apply ChO.ite | (apply ChO.bind;intro _) | (apply ChO.bind2 (zaf _ _ _ _ _ _ _ _ _);intro _) | (refine ChO.bind2 ?_ (fun _ => ?_))
theorem zh3 (zab:Nat->(List UInt8)->Int->Int->Int->(List UInt8)->Int->Int->Tp4->Tp1->Option (Int×(List UInt8)×Int×Int×Int×(List UInt8)×Tp4×Tp1×Int×Int)) (zae:(List UInt8)->Int->Int->Int->(List UInt8)->Int->Int->Tp4->Tp1->Option (Int×(List UInt8)×Int×Int×Int×(List UInt8)×Tp4×Tp1×Int×Int)) (zaf:∀ a0 a1 a2 a3 a4 a5 a6 a7 a8,ChO (fun κ=>zab κ a0 a1 a2 a3 a4 a5 a6 a7 a8) (zae a0 a1 a2 a3 a4 a5 a6 a7 a8)) (c c_1 c_2 c_3 c_4 c_5 c_6 c_7 l l_1):ChO (fun κ=>zbV (zab κ) c c_1 c_2 c_3 c_4 c_5 c_6 c_7 l l_1) (zbV zae c c_1 c_2 c_3 c_4 c_5 c_6 c_7 l l_1):=by
  unfold zbV
  repeat' with_reducible first | exact ChO.const _ | exact zaf _ _ _ _ _ _ _ _ _ | (apply zgy<;>assumption) | apply ChO.ite | (apply ChO.bind;intro _) | (apply ChO.bind2 (zaf _ _ _ _ _ _ _ _ _);intro _) | (refine ChO.bind2 ?_ (fun _ => ?_))
theorem zcU (zab:Nat->(List UInt8)->Int->Int->Int->(List UInt8)->Int->Int->Tp4->Tp1->Option (Int×(List UInt8)×Int×Int×Int×(List UInt8)×Tp4×Tp1×Int×Int)) (zae:(List UInt8)->Int->Int->Int->(List UInt8)->Int->Int->Tp4->Tp1->Option (Int×(List UInt8)×Int×Int×Int×(List UInt8)×Tp4×Tp1×Int×Int)) (zaf:∀ a0 a1 a2 a3 a4 a5 a6 a7 a8,ChO (fun κ=>zab κ a0 a1 a2 a3 a4 a5 a6 a7 a8) (zae a0 a1 a2 a3 a4 a5 a6 a7 a8)) (r2:Nat->Int->(List UInt8)->Int->Int->Int->(List UInt8)->Int->Int->Tp4->Tp1->Option (Int×(List UInt8)×Int×Int×Int×(List UInt8)×Tp4×Tp1×Int×Int)) (r2':Int->(List UInt8)->Int->Int->Int->(List UInt8)->Int->Int->Tp4->Tp1->Option (Int×(List UInt8)×Int×Int×Int×(List UInt8)×Tp4×Tp1×Int×Int)) (h_r2:∀ a0 a1 a2 a3 a4 a5 a6 a7 a8 a9,ChO (fun κ=>r2 κ a0 a1 a2 a3 a4 a5 a6 a7 a8 a9) (r2' a0 a1 a2 a3 a4 a5 a6 a7 a8 a9)) (a r r_1 r_2 r_3 r_4 r_5 r_6 l_2 l_3):ChO (fun κ=>zaS (zab κ) (r2 κ) a r r_1 r_2 r_3 r_4 r_5 r_6 l_2 l_3) (zaS zae r2' a r r_1 r_2 r_3 r_4 r_5 r_6 l_2 l_3):=by
  unfold zaS
  repeat' with_reducible first | exact ChO.const _ | exact zaf _ _ _ _ _ _ _ _ _ | exact h_r2 _ _ _ _ _ _ _ _ _ _ | apply ChO.ite | (apply ChO.bind;intro _) | (apply ChO.bind2 (zaf _ _ _ _ _ _ _ _ _);intro _) | (refine ChO.bind2 ?_ (fun _ => ?_))
theorem zco (zab):Cn (zdK zab):=fun g h hg x=>zcU (fun _=>zab) zab (fun _ _ _ _ _ _ _ _ _=>ChO.const _) _ _ (fun a0 a1 a2 a3 a4 a5 a6 a7 a8 a9=>hg (a0,a1,a2,a3,a4,a5,a6,a7,a8,a9))  x.1 x.2.1 x.2.2.1 x.2.2.2.1 x.2.2.2.2.1 x.2.2.2.2.2.1 x.2.2.2.2.2.2.1 x.2.2.2.2.2.2.2.1 x.2.2.2.2.2.2.2.2.1 x.2.2.2.2.2.2.2.2.2
theorem zdn (zab a r r_1 r_2 r_3 r_4 r_5 r_6 l_2 l_3):zaW zab a r r_1 r_2 r_3 r_4 r_5 r_6 l_2 l_3=zaS zab (zaW zab) a r r_1 r_2 r_3 r_4 r_5 r_6 l_2 l_3:=zfr (zco zab) (a,r,r_1,r_2,r_3,r_4,r_5,r_6,l_2,l_3)
theorem zgB (zab:Nat->(List UInt8)->Int->Int->Int->(List UInt8)->Int->Int->Tp4->Tp1->Option (Int×(List UInt8)×Int×Int×Int×(List UInt8)×Tp4×Tp1×Int×Int)) (zae:(List UInt8)->Int->Int->Int->(List UInt8)->Int->Int->Tp4->Tp1->Option (Int×(List UInt8)×Int×Int×Int×(List UInt8)×Tp4×Tp1×Int×Int)) (zaf:∀ a0 a1 a2 a3 a4 a5 a6 a7 a8,ChO (fun κ=>zab κ a0 a1 a2 a3 a4 a5 a6 a7 a8) (zae a0 a1 a2 a3 a4 a5 a6 a7 a8)) (a r r_1 r_2 r_3 r_4 r_5 r_6 l_2 l_3):ChO (fun κ=>zaW (zab κ) a r r_1 r_2 r_3 r_4 r_5 r_6 l_2 l_3) (zaW zae a r r_1 r_2 r_3 r_4 r_5 r_6 l_2 l_3):=by
  unfold zaW
  exact zkB (fun κ=>(zco (zab κ) ).mono) (zco zae ).mono (fun g h hg x=>zcU zab zae zaf _ _ (fun a0 a1 a2 a3 a4 a5 a6 a7 a8 a9=>hg (a0,a1,a2,a3,a4,a5,a6,a7,a8,a9))  x.1 x.2.1 x.2.2.1 x.2.2.2.1 x.2.2.2.2.1 x.2.2.2.2.2.1 x.2.2.2.2.2.2.1 x.2.2.2.2.2.2.2.1 x.2.2.2.2.2.2.2.2.1 x.2.2.2.2.2.2.2.2.2) _
theorem zeS (zab:Nat->(List UInt8)->Int->Int->Int->(List UInt8)->Int->Int->Tp4->Tp1->Option (Int×(List UInt8)×Int×Int×Int×(List UInt8)×Tp4×Tp1×Int×Int)) (zae:(List UInt8)->Int->Int->Int->(List UInt8)->Int->Int->Tp4->Tp1->Option (Int×(List UInt8)×Int×Int×Int×(List UInt8)×Tp4×Tp1×Int×Int)) (zaf:∀ a0 a1 a2 a3 a4 a5 a6 a7 a8,ChO (fun κ=>zab κ a0 a1 a2 a3 a4 a5 a6 a7 a8) (zae a0 a1 a2 a3 a4 a5 a6 a7 a8)) (c c_1 c_2 c_3 c_4 c_5 c_6 l l_1):ChO (fun κ=>za1 (zab κ) c c_1 c_2 c_3 c_4 c_5 c_6 l l_1) (za1 zae c c_1 c_2 c_3 c_4 c_5 c_6 l l_1):=by
  unfold za1
  repeat' with_reducible first | exact ChO.const _ | exact zaf _ _ _ _ _ _ _ _ _ | (apply zgB<;>assumption) | (apply ChO.bind;intro _) | (apply ChO.bind2 (zaf _ _ _ _ _ _ _ _ _);intro _) | (refine ChO.bind2 ?_ (fun _ => ?_))
theorem zcK (zab:Nat->(List UInt8)->Int->Int->Int->(List UInt8)->Int->Int->Tp4->Tp1->Option (Int×(List UInt8)×Int×Int×Int×(List UInt8)×Tp4×Tp1×Int×Int)) (zae:(List UInt8)->Int->Int->Int->(List UInt8)->Int->Int->Tp4->Tp1->Option (Int×(List UInt8)×Int×Int×Int×(List UInt8)×Tp4×Tp1×Int×Int)) (zaf:∀ a0 a1 a2 a3 a4 a5 a6 a7 a8,ChO (fun κ=>zab κ a0 a1 a2 a3 a4 a5 a6 a7 a8) (zae a0 a1 a2 a3 a4 a5 a6 a7 a8)) (r2:Nat->Int->(List UInt8)->Int->Int->Int->(List UInt8)->Int->Int->Tp4->Tp1->Option (Int×(List UInt8)×Int×Int×Int×(List UInt8)×Tp4×Tp1×Int×Int)) (r2':Int->(List UInt8)->Int->Int->Int->(List UInt8)->Int->Int->Tp4->Tp1->Option (Int×(List UInt8)×Int×Int×Int×(List UInt8)×Tp4×Tp1×Int×Int)) (h_r2:∀ a0 a1 a2 a3 a4 a5 a6 a7 a8 a9,ChO (fun κ=>r2 κ a0 a1 a2 a3 a4 a5 a6 a7 a8 a9) (r2' a0 a1 a2 a3 a4 a5 a6 a7 a8 a9)) (a r r_1 r_2 r_3 r_4 r_5 r_6 l_2 l_3):ChO (fun κ=>zaO (zab κ) (r2 κ) a r r_1 r_2 r_3 r_4 r_5 r_6 l_2 l_3) (zaO zae r2' a r r_1 r_2 r_3 r_4 r_5 r_6 l_2 l_3):=by
  unfold zaO
  repeat' with_reducible first | exact ChO.const _ | exact zaf _ _ _ _ _ _ _ _ _ | exact h_r2 _ _ _ _ _ _ _ _ _ _ | (apply zeS<;>assumption) | apply ChO.ite | (apply ChO.bind;intro _) | (apply ChO.bind2 (zaf _ _ _ _ _ _ _ _ _);intro _) | (refine ChO.bind2 ?_ (fun _ => ?_))
theorem zcg (zab):Cn (zdp zab):=fun g h hg x=>zcK (fun _=>zab) zab (fun _ _ _ _ _ _ _ _ _=>ChO.const _) _ _ (fun a0 a1 a2 a3 a4 a5 a6 a7 a8 a9=>hg (a0,a1,a2,a3,a4,a5,a6,a7,a8,a9))  x.1 x.2.1 x.2.2.1 x.2.2.2.1 x.2.2.2.2.1 x.2.2.2.2.2.1 x.2.2.2.2.2.2.1 x.2.2.2.2.2.2.2.1 x.2.2.2.2.2.2.2.2.1 x.2.2.2.2.2.2.2.2.2
theorem zc5 (zab a r r_1 r_2 r_3 r_4 r_5 r_6 l_2 l_3):zaN zab a r r_1 r_2 r_3 r_4 r_5 r_6 l_2 l_3=zaO zab (zaN zab) a r r_1 r_2 r_3 r_4 r_5 r_6 l_2 l_3:=zfr (zcg zab) (a,r,r_1,r_2,r_3,r_4,r_5,r_6,l_2,l_3)
theorem zf4 (zab:Nat->(List UInt8)->Int->Int->Int->(List UInt8)->Int->Int->Tp4->Tp1->Option (Int×(List UInt8)×Int×Int×Int×(List UInt8)×Tp4×Tp1×Int×Int)) (zae:(List UInt8)->Int->Int->Int->(List UInt8)->Int->Int->Tp4->Tp1->Option (Int×(List UInt8)×Int×Int×Int×(List UInt8)×Tp4×Tp1×Int×Int)) (zaf:∀ a0 a1 a2 a3 a4 a5 a6 a7 a8,ChO (fun κ=>zab κ a0 a1 a2 a3 a4 a5 a6 a7 a8) (zae a0 a1 a2 a3 a4 a5 a6 a7 a8)) (a r r_1 r_2 r_3 r_4 r_5 r_6 l_2 l_3):ChO (fun κ=>zaN (zab κ) a r r_1 r_2 r_3 r_4 r_5 r_6 l_2 l_3) (zaN zae a r r_1 r_2 r_3 r_4 r_5 r_6 l_2 l_3):=by
  unfold zaN
  exact zkB (fun κ=>(zcg (zab κ) ).mono) (zcg zae ).mono (fun g h hg x=>zcK zab zae zaf _ _ (fun a0 a1 a2 a3 a4 a5 a6 a7 a8 a9=>hg (a0,a1,a2,a3,a4,a5,a6,a7,a8,a9))  x.1 x.2.1 x.2.2.1 x.2.2.2.1 x.2.2.2.2.1 x.2.2.2.2.2.1 x.2.2.2.2.2.2.1 x.2.2.2.2.2.2.2.1 x.2.2.2.2.2.2.2.2.1 x.2.2.2.2.2.2.2.2.2) _
theorem zho (zab:Nat->(List UInt8)->Int->Int->Int->(List UInt8)->Int->Int->Tp4->Tp1->Option (Int×(List UInt8)×Int×Int×Int×(List UInt8)×Tp4×Tp1×Int×Int)) (zae:(List UInt8)->Int->Int->Int->(List UInt8)->Int->Int->Tp4->Tp1->Option (Int×(List UInt8)×Int×Int×Int×(List UInt8)×Tp4×Tp1×Int×Int)) (zaf:∀ a0 a1 a2 a3 a4 a5 a6 a7 a8,ChO (fun κ=>zab κ a0 a1 a2 a3 a4 a5 a6 a7 a8) (zae a0 a1 a2 a3 a4 a5 a6 a7 a8)) (c c_1 c_2 c_3 c_4 c_5 c_6 l l_1):ChO (fun κ=>zaQ (zab κ) c c_1 c_2 c_3 c_4 c_5 c_6 l l_1) (zaQ zae c c_1 c_2 c_3 c_4 c_5 c_6 l l_1):=by
  unfold zaQ
  repeat' with_reducible first | exact ChO.const _ | exact zaf _ _ _ _ _ _ _ _ _ | (apply zeS<;>assumption) | (apply zf4<;>assumption) | (apply ChO.bind;intro _) | (apply ChO.bind2 (zaf _ _ _ _ _ _ _ _ _);intro _) | (refine ChO.bind2 ?_ (fun _ => ?_))
theorem zf3 (zab:Nat->(List UInt8)->Int->Int->Int->(List UInt8)->Int->Int->Tp4->Tp1->Option (Int×(List UInt8)×Int×Int×Int×(List UInt8)×Tp4×Tp1×Int×Int)) (zae:(List UInt8)->Int->Int->Int->(List UInt8)->Int->Int->Tp4->Tp1->Option (Int×(List UInt8)×Int×Int×Int×(List UInt8)×Tp4×Tp1×Int×Int)) (zaf:∀ a0 a1 a2 a3 a4 a5 a6 a7 a8,ChO (fun κ=>zab κ a0 a1 a2 a3 a4 a5 a6 a7 a8) (zae a0 a1 a2 a3 a4 a5 a6 a7 a8)) (c c_1 c_2 c_3 c_4 c_5 c_6 l l_1 y'_1 t_3):ChO (fun κ=>zav (zab κ) c c_1 c_2 c_3 c_4 c_5 c_6 l l_1 y'_1 t_3) (zav zae c c_1 c_2 c_3 c_4 c_5 c_6 l l_1 y'_1 t_3):=by
  unfold zav
  repeat' with_reducible first | exact ChO.const _ | exact zaf _ _ _ _ _ _ _ _ _ | (apply zho<;>assumption) | apply ChO.ite | apply ChO.G | (apply ChO.bind;intro _) | (apply ChO.bind2 (zaf _ _ _ _ _ _ _ _ _);intro _) | (refine ChO.bind2 ?_ (fun _ => ?_))
theorem zf2 (zab:Nat->(List UInt8)->Int->Int->Int->(List UInt8)->Int->Int->Tp4->Tp1->Option (Int×(List UInt8)×Int×Int×Int×(List UInt8)×Tp4×Tp1×Int×Int)) (zae:(List UInt8)->Int->Int->Int->(List UInt8)->Int->Int->Tp4->Tp1->Option (Int×(List UInt8)×Int×Int×Int×(List UInt8)×Tp4×Tp1×Int×Int)) (zaf:∀ a0 a1 a2 a3 a4 a5 a6 a7 a8,ChO (fun κ=>zab κ a0 a1 a2 a3 a4 a5 a6 a7 a8) (zae a0 a1 a2 a3 a4 a5 a6 a7 a8)) (c c_1 c_2 c_3 c_4 c_5 c_6 l l_1 y'_1 t_2):ChO (fun κ=>zbb (zab κ) c c_1 c_2 c_3 c_4 c_5 c_6 l l_1 y'_1 t_2) (zbb zae c c_1 c_2 c_3 c_4 c_5 c_6 l l_1 y'_1 t_2):=by
  unfold zbb
  repeat' with_reducible first | exact ChO.const _ | exact zaf _ _ _ _ _ _ _ _ _ | (apply zh3<;>assumption) | (apply zf3<;>assumption) | apply ChO.ite | (apply ChO.bind;intro _) | (apply ChO.bind2 (zaf _ _ _ _ _ _ _ _ _);intro _) | (refine ChO.bind2 ?_ (fun _ => ?_))
theorem zf1 (zab:Nat->(List UInt8)->Int->Int->Int->(List UInt8)->Int->Int->Tp4->Tp1->Option (Int×(List UInt8)×Int×Int×Int×(List UInt8)×Tp4×Tp1×Int×Int)) (zae:(List UInt8)->Int->Int->Int->(List UInt8)->Int->Int->Tp4->Tp1->Option (Int×(List UInt8)×Int×Int×Int×(List UInt8)×Tp4×Tp1×Int×Int)) (zaf:∀ a0 a1 a2 a3 a4 a5 a6 a7 a8,ChO (fun κ=>zab κ a0 a1 a2 a3 a4 a5 a6 a7 a8) (zae a0 a1 a2 a3 a4 a5 a6 a7 a8)) (c c_1 c_2 c_3 c_4 c_5 c_6 l l_1 y'_1 t_1):ChO (fun κ=>zba (zab κ) c c_1 c_2 c_3 c_4 c_5 c_6 l l_1 y'_1 t_1) (zba zae c c_1 c_2 c_3 c_4 c_5 c_6 l l_1 y'_1 t_1):=by
  unfold zba
  repeat' with_reducible first | exact ChO.const _ | exact zaf _ _ _ _ _ _ _ _ _ | (apply zhl<;>assumption) | (apply zf2<;>assumption) | apply ChO.ite | (apply ChO.bind;intro _) | (apply ChO.bind2 (zaf _ _ _ _ _ _ _ _ _);intro _) | (refine ChO.bind2 ?_ (fun _ => ?_))
theorem zgA (zab:Nat->(List UInt8)->Int->Int->Int->(List UInt8)->Int->Int->Tp4->Tp1->Option (Int×(List UInt8)×Int×Int×Int×(List UInt8)×Tp4×Tp1×Int×Int)) (zae:(List UInt8)->Int->Int->Int->(List UInt8)->Int->Int->Tp4->Tp1->Option (Int×(List UInt8)×Int×Int×Int×(List UInt8)×Tp4×Tp1×Int×Int)) (zaf:∀ a0 a1 a2 a3 a4 a5 a6 a7 a8,ChO (fun κ=>zab κ a0 a1 a2 a3 a4 a5 a6 a7 a8) (zae a0 a1 a2 a3 a4 a5 a6 a7 a8)) (c c_1 c_2 c_3 c_4 c_5 c_6 l l_1 y'_1 t):ChO (fun κ=>zbm (zab κ) c c_1 c_2 c_3 c_4 c_5 c_6 l l_1 y'_1 t) (zbm zae c c_1 c_2 c_3 c_4 c_5 c_6 l l_1 y'_1 t):=by
  unfold zbm
  repeat' with_reducible first | exact ChO.const _ | exact zaf _ _ _ _ _ _ _ _ _ | (apply zf1<;>assumption) | apply ChO.ite | (apply ChO.bind;intro _) | (apply ChO.bind2 (zaf _ _ _ _ _ _ _ _ _);intro _) | (refine ChO.bind2 ?_ (fun _ => ?_))
theorem zg5 (zab:Nat->(List UInt8)->Int->Int->Int->(List UInt8)->Int->Int->Tp4->Tp1->Option (Int×(List UInt8)×Int×Int×Int×(List UInt8)×Tp4×Tp1×Int×Int)) (zae:(List UInt8)->Int->Int->Int->(List UInt8)->Int->Int->Tp4->Tp1->Option (Int×(List UInt8)×Int×Int×Int×(List UInt8)×Tp4×Tp1×Int×Int)) (zaf:∀ a0 a1 a2 a3 a4 a5 a6 a7 a8,ChO (fun κ=>zab κ a0 a1 a2 a3 a4 a5 a6 a7 a8) (zae a0 a1 a2 a3 a4 a5 a6 a7 a8)) (c c_1 c_2 c_3 c_4 c_5 c_6 l l_1):ChO (fun κ=>zbv (zab κ) c c_1 c_2 c_3 c_4 c_5 c_6 l l_1) (zbv zae c c_1 c_2 c_3 c_4 c_5 c_6 l l_1):=by
  unfold zbv
  repeat' with_reducible first | exact ChO.const _ | exact zaf _ _ _ _ _ _ _ _ _ | (apply zgA<;>assumption) | apply ChO.ite | (apply ChO.bind;intro _) | (apply ChO.bind2 (zaf _ _ _ _ _ _ _ _ _);intro _) | (refine ChO.bind2 ?_ (fun _ => ?_))
def zb2:((List UInt8)×Int×Int×Int×(List UInt8)×Int×Int×Tp4×Tp1->Option (Int×(List UInt8)×Int×Int×Int×(List UInt8)×Tp4×Tp1×Int×Int))->(List UInt8)×Int×Int×Int×(List UInt8)×Int×Int×Tp4×Tp1->Option (Int×(List UInt8)×Int×Int×Int×(List UInt8)×Tp4×Tp1×Int×Int):=
  fun rec X=>zbv (fun c c_1 c_2 c_3 c_4 c_5 c_6 l l_1=>rec (c,c_1,c_2,c_3,c_4,c_5,c_6,l,l_1)) X.1 X.2.1 X.2.2.1 X.2.2.2.1 X.2.2.2.2.1 X.2.2.2.2.2.1 X.2.2.2.2.2.2.1 X.2.2.2.2.2.2.2.1 X.2.2.2.2.2.2.2.2
def zah (c:(List UInt8)) (c_1 c_2 c_3:Int) (c_4:(List UInt8)) (c_5 c_6:Int) (l:Tp4) (l_1:Tp1):Option (Int×(List UInt8)×Int×Int×Int×(List UInt8)×Tp4×Tp1×Int×Int):=LFix zb2 (c,c_1,c_2,c_3,c_4,c_5,c_6,l,l_1)
theorem zh6:Cn zb2:=fun g h hg X=>zg5 _ _ (fun c c_1 c_2 c_3 c_4 c_5 c_6 l l_1=>hg (c,c_1,c_2,c_3,c_4,c_5,c_6,l,l_1)) X.1 X.2.1 X.2.2.1 X.2.2.2.1 X.2.2.2.2.1 X.2.2.2.2.2.1 X.2.2.2.2.2.2.1 X.2.2.2.2.2.2.2.1 X.2.2.2.2.2.2.2.2
theorem zeO (c c_1 c_2 c_3 c_4 c_5 c_6 l l_1):zah c c_1 c_2 c_3 c_4 c_5 c_6 l l_1=zbv zah c c_1 c_2 c_3 c_4 c_5 c_6 l l_1:=zfr zh6 (c,c_1,c_2,c_3,c_4,c_5,c_6,l,l_1)
def zeU (c:(List UInt8)) (c_1 c_2 c_3:Int) (c_4:(List UInt8)) (c_5 c_6:Int) (l:Tp4) (l_1:Tp1):Option (Int×(List UInt8)×Int×Int×Int×(List UInt8)×Tp4×Tp1×Int×Int):=zaQ zah c c_1 c_2 c_3 c_4 c_5 c_6 l l_1

def zgx (text:(List UInt8)):Option (Int×(Int×Int×Unit)×Tp1):=
  if (decide ((4000:Int) < (text.length:Int)))=true then
  some ((0:Int),((1:Int),((0:Int),())),[]) else
  (zeU text (0:Int) (0:Int) (0:Int) ([]) (0:Int) (0:Int) ([]:List Bool) ([]:List Tp2)).bind (fun y'_22=>
  if (decide (y'_22.2.2.1 < (text.length:Int)))=true then
  (zaG (4:Int) y'_22.2.1 y'_22.2.2.1 y'_22.2.2.2.1 y'_22.2.2.2.2.1 y'_22.2.2.2.2.2.1 y'_22.2.2.2.2.2.2.2.2.1 y'_22.2.2.2.2.2.2.2.2.2 y'_22.2.2.2.2.2.2.1 y'_22.2.2.2.2.2.2.2.1).bind (fun y'_21=>
  if (decide (¬ y'_21.2.2.2.2.2.2.2.1=(0:Int)))=true then
  some ((0:Int),(y'_21.2.2.2.2.2.2.2.1,(y'_21.2.2.2.2.2.2.2.2,())),[]) else
  some (y'_22.1,((0:Int),((0:Int),())),y'_21.2.2.2.2.2.2.1)) else
  if (decide (¬ y'_22.2.2.2.2.2.2.2.2.1=(0:Int)))=true then
  some ((0:Int),(y'_22.2.2.2.2.2.2.2.2.1,(y'_22.2.2.2.2.2.2.2.2.2,())),[]) else
  some (y'_22.1,((0:Int),((0:Int),())),y'_22.2.2.2.2.2.2.2.1))

def zgp (text:(List UInt8)):Option (Bool):=
  (zjv text).bind (fun y'=>
  (zgx text).bind (fun y'_5=>
  some (eqB (y'.1,(y'.2.1,())) (y'_5.2.1.1,(y'_5.2.1.2.1,())))))

end
end Go.Proofs.Ythmffpifpeddfaa.fixReadsW
