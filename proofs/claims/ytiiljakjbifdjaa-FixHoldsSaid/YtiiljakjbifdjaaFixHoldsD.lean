import Derived.Test.YtiiljakjbifdjaaEv38n21
set_option maxHeartbeats 1000000
set_option maxRecDepth 20000
set_option linter.unusedVariables false
namespace Go.Proofs.Ytiiljakjbifdjaa.fixHoldsW
open Go Go.Ab
noncomputable section
abbrev Tp9:=(List Bool)
abbrev Tp8:=(List Tp9)
abbrev Tp7:=(Int×Int×Int×Unit)
abbrev Tp6:=(List (Int×Bool×Unit))
abbrev Tp5:=(Int×Int×Int×Int×Unit)
abbrev Tp4:=(List Tp7)
abbrev Tp3:=(List Tp5)
abbrev Tp2:=(Int×Int×Tp4×Unit)
abbrev Tp1:=(Int×Int×Int×Tp4×Unit)
abbrev Tf1:=Tp2->Tp3->Int->Tp8->Option Tp9
def zeL (p:Int) (t:Tp2):Option (Bool):=
  if (decide (p < (0:Int)))=true then
  some true else
  some (decide (t.2.1<=p))

def zeM (x':Tp7) (t c:Tp2):Option (Bool×Int×Int×Tp4×Unit):=
  (zeL x'.1 c).bind (fun y'=>
  if y'=true then
  some (true,c) else
  (zeL x'.2.2.1 c).bind (fun y'_1=>
  if y'_1=true then
  some (true,c) else
  if (decide (x'.2.1 < (0:Int)))=true then
  some (true,c) else
  some (decide (t.1<=x'.2.1),c)))

def zb7 (s:Tp4) (r2:Tp2->Int->Tp2->Option Tp1) (f:Tp2) (t:Int) (l:Tp2):Option Tp1:=
  if (decide (t < (s.length:Int)))=true then
  G (0<=t/\t < (s.length:Int)) (
  (zeM (ix s t) f l).bind (fun y'_3=>
  if y'_3.1=true then
  some (t,y'_3.2) else
  G (fits (t+(1:Int))) (
  r2 f (t+(1:Int)) y'_3.2))) else
  some ((-1:Int),l)
def zeN (s:Tp4):(Tp2×Int×Int×Int×Tp4×Unit->Option Tp1)->Tp2×Int×Int×Int×Tp4×Unit->Option Tp1:=
  fun rec x=>zb7 s (fun f t l=>rec (f,t,l)) x.1 x.2.1 x.2.2
def zdJ (s:Tp4) (f:Tp2) (t:Int) (l:Tp2):Option Tp1:=LFix (zeN s ) (f,t,l)
def zh4 (s:Tp4) (c c_1:Tp2):Option Tp1:=
  zdJ s c (0:Int) c_1
theorem zhh (r2:Nat->Tp2->Int->Tp2->Option Tp1) (r2':Tp2->Int->Tp2->Option Tp1) (h_r2:∀ a0 a1 a2,ChO (fun κ=>r2 κ a0 a1 a2) (r2' a0 a1 a2)) (s f t l):ChO (fun κ=>zb7 s (r2 κ) f t l) (zb7 s r2' f t l):=by
  unfold zb7
  repeat' with_reducible first | exact ChO.const _ | exact h_r2 _ _ _ | apply ChO.ite | apply ChO.G | (apply ChO.bind;intro _)
theorem zis (s):Cn (zeN s):=fun g h hg x=>zhh  _ _ (fun a0 a1 a2=>hg (a0,a1,a2)) s x.1 x.2.1 x.2.2
theorem zit (s f t l):zdJ s f t l=zb7 s (zdJ s) f t l:=zbl (zis s) (f,t,l)

def zdI (s:Tp4) (c c_1:Tp2):Option (Bool×Int×Int×Tp4×Unit):=
  (zh4 s c c_1).bind (fun y'_3=>
  some (decide ((0:Int)<=y'_3.1),y'_3.2))

def zkN (x':Int):Option (Bool):=
  some (decide (¬ x'=x'))

def zek (x' y':Int):Option (Int):=
  (zkN x').bind (fun y'_1=>
  (zkN y').bind (fun y'_2=>
  if y'_1=true then
  if y'_2=true then
  some (0:Int) else
  some (-1:Int) else
  if y'_2=true then
  some (1:Int) else
  if (decide (x' < y'))=true then
  some (-1:Int) else
  if (decide (y' < x'))=true then
  some (1:Int) else
  some (0:Int)))

def zcR (vals:(List Int)) (r3:Int->Option (Int)) (t:Int):Option (Int):=
  if (decide (t < (vals.length:Int)))=true then
  G (0<=t/\t < (vals.length:Int)) (
  if (decide (¬ (ix vals t)=(0:Int)))=true then
  some (ix vals t) else
  G (fits (t+(1:Int))) (
  r3 (t+(1:Int)))) else
  some (0:Int)
def znG (vals:(List Int)):(Int->Option (Int))->Int->Option (Int):=
  fun rec x=>zcR vals (fun t=>rec t) x
def znF (vals:(List Int)) (t:Int):Option (Int):=LFix (znG vals ) t
def zsh (vals:(List Int)):Option (Int):=
  znF vals (0:Int)
theorem zoE (r3:Nat->Int->Option (Int)) (r3':Int->Option (Int)) (h_r3:∀ a0,ChO (fun κ=>r3 κ a0) (r3' a0)) (vals t):ChO (fun κ=>zcR vals (r3 κ) t) (zcR vals r3' t):=by
  unfold zcR
  repeat' with_reducible first | exact ChO.const _ | exact h_r3 _ | apply ChO.ite | apply ChO.G
theorem zqr (vals):Cn (znG vals):=fun g h hg x=>zoE  _ _ (fun a=>hg a) vals x
theorem zgg (vals t):znF vals t=zcR vals (znF vals) t:=zbl (zqr vals) t

def zj0 (x' y':Tp7):Option (Int):=
  (zek x'.1 y'.1).bind (fun y'_1=>
  (zek x'.2.1 y'.2.1).bind (fun y'_2=>
  (zek x'.2.2.1 y'.2.2.1).bind (fun y'_3=>
  (zsh ([y'_1,y'_2,y'_3])).bind (fun y'_4=>
  some y'_4))))

def zb6 (g':Tp2) (r9:Int->Option (Int)) (t:Int):Option (Int):=
  if (decide (t < (g'.2.2.1.length:Int)))=true then
  if (decide ((0:Int) < t))=true then
  G (fits (t - (1:Int))) (
  G (0<=t - (1:Int)/\t - (1:Int) < (g'.2.2.1.length:Int)) (
  G (0<=t/\t < (g'.2.2.1.length:Int)) (
  (zj0 (ix g'.2.2.1 (t - (1:Int))) (ix g'.2.2.1 t)).bind (fun y'_3=>
  if (decide ((0:Int)<=y'_3))=true then
  some (3:Int) else
  G (fits (t+(1:Int))) (
  r9 (t+(1:Int))))))) else
  G (fits (t+(1:Int))) (
  r9 (t+(1:Int))) else
  some (0:Int)
def zjy (g':Tp2):(Int->Option (Int))->Int->Option (Int):=
  fun rec x=>zb6 g' (fun t=>rec t) x
def zhJ (g':Tp2) (t:Int):Option (Int):=LFix (zjy g' ) t
def zjZ (g':Tp2):Option (Int):=
  if (decide (g'.1 < (1:Int)))=true then
  some (2:Int) else
  if (decide ((4:Int) < g'.1))=true then
  some (2:Int) else
  if (decide (g'.2.1 < (1:Int)))=true then
  some (1:Int) else
  if (decide ((12:Int) < g'.2.1))=true then
  some (1:Int) else
  if (decide ((60:Int) < (g'.2.2.1.length:Int)))=true then
  some (1:Int) else
  (zdI g'.2.2.1 (g'.1,(g'.2.1,(g'.2.2.1,()))) (g'.1,(g'.2.1,(g'.2.2.1,())))).bind (fun y'_4=>
  if y'_4.1=true then
  some (2:Int) else
  zhJ g' (0:Int))
theorem zlP (r9:Nat->Int->Option (Int)) (r9':Int->Option (Int)) (h_r9:∀ a0,ChO (fun κ=>r9 κ a0) (r9' a0)) (g' t):ChO (fun κ=>zb6 g' (r9 κ) t) (zb6 g' r9' t):=by
  unfold zb6
  repeat' with_reducible first | exact ChO.const _ | exact h_r9 _ | apply ChO.ite | apply ChO.G | (apply ChO.bind;intro _)
theorem zna (g'):Cn (zjy g'):=fun g h hg x=>zlP  _ _ (fun a=>hg a) g' x
theorem zeV (g' t):zhJ g' t=zb6 g' (zhJ g') t:=zbl (zna g') t

def zbY (r:((List UInt8)×Int×Int×Int×Tp6×Unit)):Option (Int):=
  if (decide (r.2.1 < (r.1.length:Int)))=true then
  G (0<=r.2.1/\r.2.1 < (r.1.length:Int)) (
  some (bAt r.1 r.2.1)) else
  some (0:Int)

def zbn (r:((List UInt8)×Int×Int×Int×Tp6×Unit)) (code:Int):Option ((Unit)⊕(Int×Int)):=
  some (.inr ((((code,(r.2.1,())),())).1.1,(((code,(r.2.1,())),())).1.2.1))

def zaX (c:(List UInt8)) (c_1 c_2 c_3:Int) (l:Tp6):Option (((List UInt8)×Int×Int×Int×Tp6)⊕(Int×Int)):=
  G (fits (c_3+(1:Int))) (
  if (decide ((30:Int) < (c_3+(1:Int))))=true then
  pbind (zbn (c,(c_1,(c_2,(c_3+(1:Int),(l,()))))) (7:Int)) (fun _=>
  some (.inl (c,c_1,c_2,c_3+(1:Int),l))) (fun p=>some (.inr (p.1,p.2))) else
  some (.inl (c,c_1,c_2,c_3+(1:Int),l)))

def zbc (l:Tp6) (r1:Int->(List UInt8)->Int->Int->Int->Tp6->Option ((List UInt8)×Int×Int×Int×Tp6)) (t:Int) (r:(List UInt8)) (r_1 r_2 r_3:Int) (l_1:Tp6):Option ((List UInt8)×Int×Int×Int×Tp6):=
  if (decide (t < (l.length:Int)))=true then
  G (0<=t/\t < (l_1.length:Int)) (
  G ((t).toNat < l_1.length) (
  G (0<=t/\t < (l_1.length:Int)) (
  G ((t).toNat < l_1.length) (
  G (fits (t+(1:Int))) (
  r1 (t+(1:Int)) r r_1 r_2 r_3 (l_1.set (t).toNat ((ix l_1 t).1,(!(((ix l_1 t).2).1),((ix l_1 t).2).2)))))))) else
  some (r,r_1,r_2,r_3,l_1)
def ze7 (l:Tp6):(Int×(List UInt8)×Int×Int×Int×Tp6->Option ((List UInt8)×Int×Int×Int×Tp6))->Int×(List UInt8)×Int×Int×Int×Tp6->Option ((List UInt8)×Int×Int×Int×Tp6):=
  fun rec x=>zbc l (fun t r r_1 r_2 r_3 l_1=>rec (t,r,r_1,r_2,r_3,l_1)) x.1 x.2.1 x.2.2.1 x.2.2.2.1 x.2.2.2.2.1 x.2.2.2.2.2
def zc5 (l:Tp6) (t:Int) (r:(List UInt8)) (r_1 r_2 r_3:Int) (l_1:Tp6):Option ((List UInt8)×Int×Int×Int×Tp6):=LFix (ze7 l ) (t,r,r_1,r_2,r_3,l_1)
def zde (c:(List UInt8)) (c_1 c_2 c_3:Int) (l:Tp6):Option ((List UInt8)×Int×Int×Int×Tp6):=
  zc5 l (0:Int) c c_1 c_2 c_3 l
theorem zhv (r1:Nat->Int->(List UInt8)->Int->Int->Int->Tp6->Option ((List UInt8)×Int×Int×Int×Tp6)) (r1':Int->(List UInt8)->Int->Int->Int->Tp6->Option ((List UInt8)×Int×Int×Int×Tp6)) (h_r1:∀ a0 a1 a2 a3 a4 a5,ChO (fun κ=>r1 κ a0 a1 a2 a3 a4 a5) (r1' a0 a1 a2 a3 a4 a5)) (l t r r_1 r_2 r_3 l_1):ChO (fun κ=>zbc l (r1 κ) t r r_1 r_2 r_3 l_1) (zbc l r1' t r r_1 r_2 r_3 l_1):=by
  unfold zbc
  repeat' with_reducible first | exact ChO.const _ | exact h_r1 _ _ _ _ _ _ | apply ChO.ite | apply ChO.G
theorem ziW (l):Cn (ze7 l):=fun g h hg x=>zhv  _ _ (fun a0 a1 a2 a3 a4 a5=>hg (a0,a1,a2,a3,a4,a5)) l x.1 x.2.1 x.2.2.1 x.2.2.2.1 x.2.2.2.2.1 x.2.2.2.2.2
theorem zeB (l t r r_1 r_2 r_3 l_1):zc5 l t r r_1 r_2 r_3 l_1=zbc l (zc5 l) t r r_1 r_2 r_3 l_1:=zbl (ziW l) (t,r,r_1,r_2,r_3,l_1)

def zb3 (c:Int) (c_1:(List UInt8)) (c_2 c_3 c_4:Int) (l:Tp6):Option (((List UInt8)×Int×Int×Int×Tp6)⊕(Int×Int)):=
  (zbY (c_1,(c_2,(c_3,(c_4,(l,())))))).bind (fun y'=>
  if (decide (¬ y'=c))=true then
  pbind (zbn (c_1,(c_2,(c_3,(c_4,(l,()))))) (4:Int)) (fun _=>
  G (fits (c_2+(1:Int))) (
  some (.inl (c_1,c_2+(1:Int),c_3,c_4,l)))) (fun p=>some (.inr (p.1,p.2))) else
  G (fits (c_2+(1:Int))) (
  some (.inl (c_1,c_2+(1:Int),c_3,c_4,l))))

def zdM (ns:List (Int×Bool)) (c:Int):Nat->Option (Nat×Bool)
  | 0=>none
  | k+1=>if (ns.getD k (0,false)).1=c then some (k,(ns.getD k (0,false)).2) else zdM ns c k
abbrev FxNm:=List (Int×(Bool×Unit))
abbrev FxTr:=Tr (Int×(Int×Unit))
def nmP (ns:FxNm):List (Int×Bool):=ns.map fun x=>(x.1,x.2.1)
def zbg (c:Int) (s:List UInt8) (i dp cnt:Int) (ns:FxNm):Option ((FxTr×(List UInt8×(Int×(Int×(Int×FxNm)))))⊕(Int×Int)):=
  G (0<=i/\i<=1000000) (G (0<=cnt/\cnt<=1000000) (G (ns.length<=1000) (match zdM (nmP ns) c ns.length with
    | some (j,false)=>if 30 < cnt+1 then some (.inr (7,i)) else some (.inl (.mk (88,(j:Int),()) [],s,i+1,dp,cnt+1,ns))
    | _=>some (.inr (5,i)))))


def zbr (zaa:(List UInt8)->Int->Int->Int->Tp6->Option (((Tr (Int×Int×Unit))×(List UInt8)×Int×Int×Int×Tp6)⊕(Int×Int))) (c y'_6:Int) (r:(List UInt8)) (r_1 r_2 r_3:Int) (l_1:Tp6):Option (((Tr (Int×Int×Unit))×(List UInt8)×Int×Int×Int×Tp6)⊕(Int×Int)):=
  pbind (zaa r r_1 r_2 r_3 l_1) (fun y'_20=>
  some (.inl (Tr.mk (c,(IntKind.wrap .i64 (IntKind.wrap .u8 (y'_6 - (97:Int))),())) ([y'_20.1]),y'_20.2.1,y'_20.2.2.1,y'_20.2.2.2.1,y'_20.2.2.2.2.1,y'_20.2.2.2.2.2))) (fun p=>some (.inr (p.1,p.2)))
def zbS (zaa:(List UInt8)->Int->Int->Int->Tp6->Option (((Tr (Int×Int×Unit))×(List UInt8)×Int×Int×Int×Tp6)⊕(Int×Int))) (c:Int) (y':(List UInt8)) (y'_1 y'_2 y'_3:Int) (y'_4:Tp6) (y'_6:Int):Option (((Tr (Int×Int×Unit))×(List UInt8)×Int×Int×Int×Tp6)⊕(Int×Int)):=
  G (fits ((y'_1+(1:Int))+(1:Int))) (
  if (decide (c=(60:Int)))=true then
  pbind (zb3 (62:Int) y' ((y'_1+(1:Int))+(1:Int)) y'_2 y'_3 y'_4) (fun y'_13=>
  zbr zaa c y'_6 y'_13.1 y'_13.2.1 y'_13.2.2.1 y'_13.2.2.2.1 y'_13.2.2.2.2) (fun p=>some (.inr (p.1,p.2))) else
  pbind (zb3 (93:Int) y' ((y'_1+(1:Int))+(1:Int)) y'_2 y'_3 y'_4) (fun y'_26=>
  zbr zaa c y'_6 y'_26.1 y'_26.2.1 y'_26.2.2.1 y'_26.2.2.2.1 y'_26.2.2.2.2) (fun p=>some (.inr (p.1,p.2))))
def zbq (zaa:(List UInt8)->Int->Int->Int->Tp6->Option (((Tr (Int×Int×Unit))×(List UInt8)×Int×Int×Int×Tp6)⊕(Int×Int))) (c:Int) (y':(List UInt8)) (y'_1 y'_2 y'_3:Int) (y'_4:Tp6) (y'_6:Int) (t:Bool):Option (((Tr (Int×Int×Unit))×(List UInt8)×Int×Int×Int×Tp6)⊕(Int×Int)):=
  if t=true then
  pbind (zbn (y',(y'_1+(1:Int),(y'_2,(y'_3,(y'_4,()))))) (4:Int)) (fun _=>
  zbS zaa c y' y'_1 y'_2 y'_3 y'_4 y'_6) (fun p=>some (.inr (p.1,p.2))) else
  zbS zaa c y' y'_1 y'_2 y'_3 y'_4 y'_6
def zcg (zaa:(List UInt8)->Int->Int->Int->Tp6->Option (((Tr (Int×Int×Unit))×(List UInt8)×Int×Int×Int×Tp6)⊕(Int×Int))) (c:Int) (c_1:(List UInt8)) (c_2 c_3 c_4:Int) (l:Tp6):Option (((Tr (Int×Int×Unit))×(List UInt8)×Int×Int×Int×Tp6)⊕(Int×Int)):=
  pbind (zaX c_1 c_2 c_3 c_4 l) (fun y'_5=>
  G (fits (y'_5.2.1+(1:Int))) (
  (zbY (y'_5.1,(y'_5.2.1+(1:Int),(y'_5.2.2.1,(y'_5.2.2.2.1,(y'_5.2.2.2.2,())))))).bind (fun y'_6=>
  if (decide (y'_6 < (97:Int)))=true then
  zbq zaa c y'_5.1 y'_5.2.1 y'_5.2.2.1 y'_5.2.2.2.1 y'_5.2.2.2.2 y'_6 true else
  zbq zaa c y'_5.1 y'_5.2.1 y'_5.2.2.1 y'_5.2.2.2.1 y'_5.2.2.2.2 y'_6 (decide ((100:Int) < y'_6))))) (fun p=>some (.inr (p.1,p.2)))
def zce (zaa:(List UInt8)->Int->Int->Int->Tp6->Option (((Tr (Int×Int×Unit))×(List UInt8)×Int×Int×Int×Tp6)⊕(Int×Int))) (c:Int) (y'_1:(List UInt8)) (y'_2 y'_3 y'_4:Int) (y'_5:Tp6) (y'_7:Int):Option (((Tr (Int×Int×Unit))×(List UInt8)×Int×Int×Int×Tp6)⊕(Int×Int)):=
  G (fits ((y'_2+(1:Int))+(1:Int))) (
  pbind (zb3 (46:Int) y'_1 ((y'_2+(1:Int))+(1:Int)) y'_3 y'_4 y'_5) (fun y'_14=>
  G (room y'_14.2.2.2.2 ([(y'_7,(false,()))]) 2) (
  pbind (zaa y'_14.1 y'_14.2.1 y'_14.2.2.1 y'_14.2.2.2.1 (y'_14.2.2.2.2++([(y'_7,(false,()))]))) (fun y'_21=>
  G (fits ((y'_21.2.2.2.2.2.length:Int) - (1:Int))) (
  G (0<=(y'_21.2.2.2.2.2.length:Int) - (1:Int)/\(y'_21.2.2.2.2.2.length:Int) - (1:Int)<=(y'_21.2.2.2.2.2.length:Int)) (
  some (.inl (Tr.mk (c,(((y'_21.2.2.2.2.2.take ((y'_21.2.2.2.2.2.length:Int) - (1:Int)).toNat).length:Int),())) ([y'_21.1]),y'_21.2.1,y'_21.2.2.1,y'_21.2.2.2.1,y'_21.2.2.2.2.1,y'_21.2.2.2.2.2.take ((y'_21.2.2.2.2.2.length:Int) - (1:Int)).toNat))))) (fun p=>some (.inr (p.1,p.2))))) (fun p=>some (.inr (p.1,p.2))))
def zbG (zaa:(List UInt8)->Int->Int->Int->Tp6->Option (((Tr (Int×Int×Unit))×(List UInt8)×Int×Int×Int×Tp6)⊕(Int×Int))) (c:Int) (y'_1:(List UInt8)) (y'_2 y'_3 y'_4:Int) (y'_5:Tp6) (y'_7:Int) (t:Bool):Option (((Tr (Int×Int×Unit))×(List UInt8)×Int×Int×Int×Tp6)⊕(Int×Int)):=
  if t=true then
  pbind (zbn (y'_1,(y'_2+(1:Int),(y'_3,(y'_4,(y'_5,()))))) (4:Int)) (fun _=>
  zce zaa c y'_1 y'_2 y'_3 y'_4 y'_5 y'_7) (fun p=>some (.inr (p.1,p.2))) else
  zce zaa c y'_1 y'_2 y'_3 y'_4 y'_5 y'_7
def zcd (zaa:(List UInt8)->Int->Int->Int->Tp6->Option (((Tr (Int×Int×Unit))×(List UInt8)×Int×Int×Int×Tp6)⊕(Int×Int))) (c:Int) (c_1:(List UInt8)) (c_2 c_3 c_4:Int) (l:Tp6):Option (((Tr (Int×Int×Unit))×(List UInt8)×Int×Int×Int×Tp6)⊕(Int×Int)):=
  pbind (zaX c_1 c_2 c_3 c_4 l) (fun y'_6=>
  G (fits (y'_6.2.1+(1:Int))) (
  (zbY (y'_6.1,(y'_6.2.1+(1:Int),(y'_6.2.2.1,(y'_6.2.2.2.1,(y'_6.2.2.2.2,())))))).bind (fun y'_7=>
  if (decide (y'_7 < (88:Int)))=true then
  zbG zaa c y'_6.1 y'_6.2.1 y'_6.2.2.1 y'_6.2.2.2.1 y'_6.2.2.2.2 y'_7 true else
  zbG zaa c y'_6.1 y'_6.2.1 y'_6.2.2.1 y'_6.2.2.2.1 y'_6.2.2.2.2 y'_7 (decide ((90:Int) < y'_7))))) (fun p=>some (.inr (p.1,p.2)))
def zcv (zaa:(List UInt8)->Int->Int->Int->Tp6->Option (((Tr (Int×Int×Unit))×(List UInt8)×Int×Int×Int×Tp6)⊕(Int×Int))) (c:Int) (c_1:(List UInt8)) (c_2 c_3 c_4:Int) (l:Tp6):Option (((Tr (Int×Int×Unit))×(List UInt8)×Int×Int×Int×Tp6)⊕(Int×Int)):=
  if (decide ((l.length:Int)=(3:Int)))=true then
  pbind (zbn (c_1,(c_2,(c_3,(c_4,(l,()))))) (7:Int)) (fun _=>
  zcd zaa c c_1 c_2 c_3 c_4 l) (fun p=>some (.inr (p.1,p.2))) else
  zcd zaa c c_1 c_2 c_3 c_4 l
def zbO (zaa:(List UInt8)->Int->Int->Int->Tp6->Option (((Tr (Int×Int×Unit))×(List UInt8)×Int×Int×Int×Tp6)⊕(Int×Int))) (r2:(Tr (Int×Int×Unit))->(List UInt8)->Int->Int->Int->Tp6->Option (((Tr (Int×Int×Unit))×(List UInt8)×Int×Int×Int×Tp6)⊕(Int×Int))) (n:(Tr (Int×Int×Unit))) (r:(List UInt8)) (r_1 r_2 r_3:Int) (l_1:Tp6):Option (((Tr (Int×Int×Unit))×(List UInt8)×Int×Int×Int×Tp6)⊕(Int×Int)):=
  (zbY (r,(r_1,(r_2,(r_3,(l_1,())))))).bind (fun y'_7=>
  if (decide (y'_7=(38:Int)))=true then
  pbind (zaX r r_1 r_2 r_3 l_1) (fun y'_13=>
  G (fits (y'_13.2.1+(1:Int))) (
  pbind (zaa y'_13.1 (y'_13.2.1+(1:Int)) y'_13.2.2.1 y'_13.2.2.2.1 y'_13.2.2.2.2) (fun y'_20=>
  r2 (Tr.mk ((38:Int),((0:Int),())) ([n,y'_20.1])) y'_20.2.1 y'_20.2.2.1 y'_20.2.2.2.1 y'_20.2.2.2.2.1 y'_20.2.2.2.2.2) (fun p=>some (.inr (p.1,p.2))))) (fun p=>some (.inr (p.1,p.2))) else
  some (.inl (n,r,r_1,r_2,r_3,l_1)))
def ze6 (zaa:(List UInt8)->Int->Int->Int->Tp6->Option (((Tr (Int×Int×Unit))×(List UInt8)×Int×Int×Int×Tp6)⊕(Int×Int))):((Tr (Int×Int×Unit))×(List UInt8)×Int×Int×Int×Tp6->Option (((Tr (Int×Int×Unit))×(List UInt8)×Int×Int×Int×Tp6)⊕(Int×Int)))->(Tr (Int×Int×Unit))×(List UInt8)×Int×Int×Int×Tp6->Option (((Tr (Int×Int×Unit))×(List UInt8)×Int×Int×Int×Tp6)⊕(Int×Int)):=
  fun rec x=>zbO zaa (fun n r r_1 r_2 r_3 l_1=>rec (n,r,r_1,r_2,r_3,l_1)) x.1 x.2.1 x.2.2.1 x.2.2.2.1 x.2.2.2.2.1 x.2.2.2.2.2
def zbI (zaa:(List UInt8)->Int->Int->Int->Tp6->Option (((Tr (Int×Int×Unit))×(List UInt8)×Int×Int×Int×Tp6)⊕(Int×Int))) (n:(Tr (Int×Int×Unit))) (r:(List UInt8)) (r_1 r_2 r_3:Int) (l_1:Tp6):Option (((Tr (Int×Int×Unit))×(List UInt8)×Int×Int×Int×Tp6)⊕(Int×Int)):=LFix (ze6 zaa ) (n,r,r_1,r_2,r_3,l_1)
def zb2 (zaa:(List UInt8)->Int->Int->Int->Tp6->Option (((Tr (Int×Int×Unit))×(List UInt8)×Int×Int×Int×Tp6)⊕(Int×Int))) (c:(List UInt8)) (c_1 c_2 c_3:Int) (l:Tp6):Option (((Tr (Int×Int×Unit))×(List UInt8)×Int×Int×Int×Tp6)⊕(Int×Int)):=
  pbind (zaa c c_1 c_2 c_3 l) (fun y'_6=>
  zbI zaa y'_6.1 y'_6.2.1 y'_6.2.2.1 y'_6.2.2.2.1 y'_6.2.2.2.2.1 y'_6.2.2.2.2.2) (fun p=>some (.inr (p.1,p.2)))
def zbA (zaa:(List UInt8)->Int->Int->Int->Tp6->Option (((Tr (Int×Int×Unit))×(List UInt8)×Int×Int×Int×Tp6)⊕(Int×Int))) (r2:(Tr (Int×Int×Unit))->(List UInt8)->Int->Int->Int->Tp6->Option (((Tr (Int×Int×Unit))×(List UInt8)×Int×Int×Int×Tp6)⊕(Int×Int))) (n:(Tr (Int×Int×Unit))) (r:(List UInt8)) (r_1 r_2 r_3:Int) (l_1:Tp6):Option (((Tr (Int×Int×Unit))×(List UInt8)×Int×Int×Int×Tp6)⊕(Int×Int)):=
  (zbY (r,(r_1,(r_2,(r_3,(l_1,())))))).bind (fun y'_7=>
  if (decide (y'_7=(124:Int)))=true then
  pbind (zaX r r_1 r_2 r_3 l_1) (fun y'_13=>
  G (fits (y'_13.2.1+(1:Int))) (
  pbind (zb2 zaa y'_13.1 (y'_13.2.1+(1:Int)) y'_13.2.2.1 y'_13.2.2.2.1 y'_13.2.2.2.2) (fun y'_20=>
  r2 (Tr.mk ((124:Int),((0:Int),())) ([n,y'_20.1])) y'_20.2.1 y'_20.2.2.1 y'_20.2.2.2.1 y'_20.2.2.2.2.1 y'_20.2.2.2.2.2) (fun p=>some (.inr (p.1,p.2))))) (fun p=>some (.inr (p.1,p.2))) else
  some (.inl (n,r,r_1,r_2,r_3,l_1)))
def zeC (zaa:(List UInt8)->Int->Int->Int->Tp6->Option (((Tr (Int×Int×Unit))×(List UInt8)×Int×Int×Int×Tp6)⊕(Int×Int))):((Tr (Int×Int×Unit))×(List UInt8)×Int×Int×Int×Tp6->Option (((Tr (Int×Int×Unit))×(List UInt8)×Int×Int×Int×Tp6)⊕(Int×Int)))->(Tr (Int×Int×Unit))×(List UInt8)×Int×Int×Int×Tp6->Option (((Tr (Int×Int×Unit))×(List UInt8)×Int×Int×Int×Tp6)⊕(Int×Int)):=
  fun rec x=>zbA zaa (fun n r r_1 r_2 r_3 l_1=>rec (n,r,r_1,r_2,r_3,l_1)) x.1 x.2.1 x.2.2.1 x.2.2.2.1 x.2.2.2.2.1 x.2.2.2.2.2
def zbw (zaa:(List UInt8)->Int->Int->Int->Tp6->Option (((Tr (Int×Int×Unit))×(List UInt8)×Int×Int×Int×Tp6)⊕(Int×Int))) (n:(Tr (Int×Int×Unit))) (r:(List UInt8)) (r_1 r_2 r_3:Int) (l_1:Tp6):Option (((Tr (Int×Int×Unit))×(List UInt8)×Int×Int×Int×Tp6)⊕(Int×Int)):=LFix (zeC zaa ) (n,r,r_1,r_2,r_3,l_1)
def za4 (zaa:(List UInt8)->Int->Int->Int->Tp6->Option (((Tr (Int×Int×Unit))×(List UInt8)×Int×Int×Int×Tp6)⊕(Int×Int))) (c:(List UInt8)) (c_1 c_2 c_3:Int) (l:Tp6):Option (((Tr (Int×Int×Unit))×(List UInt8)×Int×Int×Int×Tp6)⊕(Int×Int)):=
  pbind (zb2 zaa c c_1 c_2 c_3 l) (fun y'_6=>
  zbw zaa y'_6.1 y'_6.2.1 y'_6.2.2.1 y'_6.2.2.2.1 y'_6.2.2.2.2.1 y'_6.2.2.2.2.2) (fun p=>some (.inr (p.1,p.2)))
def zbv (zaa:(List UInt8)->Int->Int->Int->Tp6->Option (((Tr (Int×Int×Unit))×(List UInt8)×Int×Int×Int×Tp6)⊕(Int×Int))) (c:(List UInt8)) (c_1 c_2 c_3:Int) (l:Tp6):Option (((Tr (Int×Int×Unit))×(List UInt8)×Int×Int×Int×Tp6)⊕(Int×Int)):=
  G (fits (c_2+(1:Int))) (
  G (fits (c_1+(1:Int))) (
  pbind (za4 zaa c (c_1+(1:Int)) (c_2+(1:Int)) c_3 l) (fun y'_62=>
  pbind (zb3 (41:Int) y'_62.2.1 y'_62.2.2.1 y'_62.2.2.2.1 y'_62.2.2.2.2.1 y'_62.2.2.2.2.2) (fun y'_68=>
  G (fits (y'_68.2.2.1 - (1:Int))) (
  some (.inl (y'_62.1,y'_68.1,y'_68.2.1,y'_68.2.2.1 - (1:Int),y'_68.2.2.2.1,y'_68.2.2.2.2)))) (fun p=>some (.inr (p.1,p.2)))) (fun p=>some (.inr (p.1,p.2)))))
def zbu (zaa:(List UInt8)->Int->Int->Int->Tp6->Option (((Tr (Int×Int×Unit))×(List UInt8)×Int×Int×Int×Tp6)⊕(Int×Int))) (c:(List UInt8)) (c_1 c_2 c_3:Int) (l:Tp6) (y':Int) (t_3:Bool):Option (((Tr (Int×Int×Unit))×(List UInt8)×Int×Int×Int×Tp6)⊕(Int×Int)):=
  if t_3=true then
  pbind (zbg y' c c_1 c_2 c_3 l) (fun y'_54=>
  some (.inl (y'_54.1,y'_54.2.1,y'_54.2.2.1,y'_54.2.2.2.1,y'_54.2.2.2.2.1,y'_54.2.2.2.2.2))) (fun p=>some (.inr (p.1,p.2))) else
  if (decide (¬ y'=(40:Int)))=true then
  pbind (zbn (c,(c_1,(c_2,(c_3,(l,()))))) (4:Int)) (fun _=>
  zbv zaa c c_1 c_2 c_3 l) (fun p=>some (.inr (p.1,p.2))) else
  if (decide (c_2=(40:Int)))=true then
  pbind (zbn (c,(c_1,(c_2,(c_3,(l,()))))) (7:Int)) (fun _=>
  zbv zaa c c_1 c_2 c_3 l) (fun p=>some (.inr (p.1,p.2))) else
  zbv zaa c c_1 c_2 c_3 l
def zbt (zaa:(List UInt8)->Int->Int->Int->Tp6->Option (((Tr (Int×Int×Unit))×(List UInt8)×Int×Int×Int×Tp6)⊕(Int×Int))) (c:(List UInt8)) (c_1 c_2 c_3:Int) (l:Tp6) (y':Int) (t_2:Bool):Option (((Tr (Int×Int×Unit))×(List UInt8)×Int×Int×Int×Tp6)⊕(Int×Int)):=
  if t_2=true then
  pbind (zcv zaa y' c c_1 c_2 c_3 l) (fun y'_47=>
  some (.inl (y'_47.1,y'_47.2.1,y'_47.2.2.1,y'_47.2.2.2.1,y'_47.2.2.2.2.1,y'_47.2.2.2.2.2))) (fun p=>some (.inr (p.1,p.2))) else
  if (decide ((88:Int)<=y'))=true then
  zbu zaa c c_1 c_2 c_3 l y' (decide (y'<=(90:Int))) else
  zbu zaa c c_1 c_2 c_3 l y' false
def zbs (zaa:(List UInt8)->Int->Int->Int->Tp6->Option (((Tr (Int×Int×Unit))×(List UInt8)×Int×Int×Int×Tp6)⊕(Int×Int))) (c:(List UInt8)) (c_1 c_2 c_3:Int) (l:Tp6) (y':Int) (t_1:Bool):Option (((Tr (Int×Int×Unit))×(List UInt8)×Int×Int×Int×Tp6)⊕(Int×Int)):=
  if t_1=true then
  pbind (zcg zaa y' c c_1 c_2 c_3 l) (fun y'_40=>
  some (.inl (y'_40.1,y'_40.2.1,y'_40.2.2.1,y'_40.2.2.2.1,y'_40.2.2.2.2.1,y'_40.2.2.2.2.2))) (fun p=>some (.inr (p.1,p.2))) else
  if (decide (y'=(109:Int)))=true then
  zbt zaa c c_1 c_2 c_3 l y' true else
  zbt zaa c c_1 c_2 c_3 l y' (decide (y'=(110:Int)))
def zbH (zaa:(List UInt8)->Int->Int->Int->Tp6->Option (((Tr (Int×Int×Unit))×(List UInt8)×Int×Int×Int×Tp6)⊕(Int×Int))) (c:(List UInt8)) (c_1 c_2 c_3:Int) (l:Tp6) (y':Int) (t:Bool):Option (((Tr (Int×Int×Unit))×(List UInt8)×Int×Int×Int×Tp6)⊕(Int×Int)):=
  if t=true then
  pbind (zaX c c_1 c_2 c_3 l) (fun y'_6=>
  G (fits (y'_6.2.1+(1:Int))) (
  some (.inl (Tr.mk (y',((0:Int),())) ([]),y'_6.1,y'_6.2.1+(1:Int),y'_6.2.2.1,y'_6.2.2.2.1,y'_6.2.2.2.2)))) (fun p=>some (.inr (p.1,p.2))) else
  if (decide (y'=(33:Int)))=true then
  pbind (zaX c c_1 c_2 c_3 l) (fun y'_12=>
  G (fits (y'_12.2.1+(1:Int))) (
  (zde y'_12.1 (y'_12.2.1+(1:Int)) y'_12.2.2.1 y'_12.2.2.2.1 y'_12.2.2.2.2).bind (fun y'_33=>
  pbind (zaa y'_33.1 y'_33.2.1 y'_33.2.2.1 y'_33.2.2.2.1 y'_33.2.2.2.2) (fun y'_25=>
  (zde y'_25.2.1 y'_25.2.2.1 y'_25.2.2.2.1 y'_25.2.2.2.2.1 y'_25.2.2.2.2.2).bind (fun y'_32=>
  some (.inl (Tr.mk ((33:Int),((0:Int),())) ([y'_25.1]),y'_32.1,y'_32.2.1,y'_32.2.2.1,y'_32.2.2.2.1,y'_32.2.2.2.2)))) (fun p=>some (.inr (p.1,p.2)))))) (fun p=>some (.inr (p.1,p.2))) else
  if (decide (y'=(60:Int)))=true then
  zbs zaa c c_1 c_2 c_3 l y' true else
  zbs zaa c c_1 c_2 c_3 l y' (decide (y'=(91:Int)))
def zcs (zaa:(List UInt8)->Int->Int->Int->Tp6->Option (((Tr (Int×Int×Unit))×(List UInt8)×Int×Int×Int×Tp6)⊕(Int×Int))) (c:(List UInt8)) (c_1 c_2 c_3:Int) (l:Tp6):Option (((Tr (Int×Int×Unit))×(List UInt8)×Int×Int×Int×Tp6)⊕(Int×Int)):=
  (zbY (c,(c_1,(c_2,(c_3,(l,())))))).bind (fun y'=>
  if (decide (y'=(48:Int)))=true then
  zbH zaa c c_1 c_2 c_3 l y' true else
  zbH zaa c c_1 c_2 c_3 l y' (decide (y'=(49:Int))))
theorem zh9 (zaa:Nat->(List UInt8)->Int->Int->Int->Tp6->Option (((Tr (Int×Int×Unit))×(List UInt8)×Int×Int×Int×Tp6)⊕(Int×Int))) (zae:(List UInt8)->Int->Int->Int->Tp6->Option (((Tr (Int×Int×Unit))×(List UInt8)×Int×Int×Int×Tp6)⊕(Int×Int))) (zah:∀ a0 a1 a2 a3 a4,ChO (fun κ=>zaa κ a0 a1 a2 a3 a4) (zae a0 a1 a2 a3 a4)) (c y'_6 r r_1 r_2 r_3 l_1):ChO (fun κ=>zbr (zaa κ) c y'_6 r r_1 r_2 r_3 l_1) (zbr zae c y'_6 r r_1 r_2 r_3 l_1):=by
  unfold zbr
  repeat' with_reducible first | exact ChO.const _ | exact zah _ _ _ _ _ | (refine ChO.pbind (fun _ => ?_) (fun _ => ?_)) | (refine ChO.pbind2 ?_ (fun _ => ?_) (fun _ => ?_))
theorem zh8 (zaa:Nat->(List UInt8)->Int->Int->Int->Tp6->Option (((Tr (Int×Int×Unit))×(List UInt8)×Int×Int×Int×Tp6)⊕(Int×Int))) (zae:(List UInt8)->Int->Int->Int->Tp6->Option (((Tr (Int×Int×Unit))×(List UInt8)×Int×Int×Int×Tp6)⊕(Int×Int))) (zah:∀ a0 a1 a2 a3 a4,ChO (fun κ=>zaa κ a0 a1 a2 a3 a4) (zae a0 a1 a2 a3 a4)) (c y' y'_1 y'_2 y'_3 y'_4 y'_6):ChO (fun κ=>zbS (zaa κ) c y' y'_1 y'_2 y'_3 y'_4 y'_6) (zbS zae c y' y'_1 y'_2 y'_3 y'_4 y'_6):=by
  unfold zbS
  repeat' with_reducible first | exact ChO.const _ | exact zah _ _ _ _ _ | (apply zh9<;>assumption) | apply ChO.ite | apply ChO.G | (refine ChO.pbind (fun _ => ?_) (fun _ => ?_)) | (refine ChO.pbind2 ?_ (fun _ => ?_) (fun _ => ?_))
theorem zh7 (zaa:Nat->(List UInt8)->Int->Int->Int->Tp6->Option (((Tr (Int×Int×Unit))×(List UInt8)×Int×Int×Int×Tp6)⊕(Int×Int))) (zae:(List UInt8)->Int->Int->Int->Tp6->Option (((Tr (Int×Int×Unit))×(List UInt8)×Int×Int×Int×Tp6)⊕(Int×Int))) (zah:∀ a0 a1 a2 a3 a4,ChO (fun κ=>zaa κ a0 a1 a2 a3 a4) (zae a0 a1 a2 a3 a4)) (c y' y'_1 y'_2 y'_3 y'_4 y'_6 t):ChO (fun κ=>zbq (zaa κ) c y' y'_1 y'_2 y'_3 y'_4 y'_6 t) (zbq zae c y' y'_1 y'_2 y'_3 y'_4 y'_6 t):=by
  unfold zbq
  repeat' with_reducible first | exact ChO.const _ | exact zah _ _ _ _ _ | (apply zh8<;>assumption) | apply ChO.ite | (refine ChO.pbind (fun _ => ?_) (fun _ => ?_)) | (refine ChO.pbind2 ?_ (fun _ => ?_) (fun _ => ?_))
theorem zku (zaa:Nat->(List UInt8)->Int->Int->Int->Tp6->Option (((Tr (Int×Int×Unit))×(List UInt8)×Int×Int×Int×Tp6)⊕(Int×Int))) (zae:(List UInt8)->Int->Int->Int->Tp6->Option (((Tr (Int×Int×Unit))×(List UInt8)×Int×Int×Int×Tp6)⊕(Int×Int))) (zah:∀ a0 a1 a2 a3 a4,ChO (fun κ=>zaa κ a0 a1 a2 a3 a4) (zae a0 a1 a2 a3 a4)) (c c_1 c_2 c_3 c_4 l):ChO (fun κ=>zcg (zaa κ) c c_1 c_2 c_3 c_4 l) (zcg zae c c_1 c_2 c_3 c_4 l):=by
  unfold zcg
  repeat' with_reducible first | exact ChO.const _ | exact zah _ _ _ _ _ | (apply zh7<;>assumption) | apply ChO.ite | apply ChO.G | (apply ChO.bind;intro _) | (apply ChO.bind2 (zah _ _ _ _ _);intro _) | (refine ChO.bind2 ?_ (fun _ => ?_)) | (refine ChO.pbind (fun _ => ?_) (fun _ => ?_)) | (refine ChO.pbind2 ?_ (fun _ => ?_) (fun _ => ?_))
theorem ziR (zaa:Nat->(List UInt8)->Int->Int->Int->Tp6->Option (((Tr (Int×Int×Unit))×(List UInt8)×Int×Int×Int×Tp6)⊕(Int×Int))) (zae:(List UInt8)->Int->Int->Int->Tp6->Option (((Tr (Int×Int×Unit))×(List UInt8)×Int×Int×Int×Tp6)⊕(Int×Int))) (zah:∀ a0 a1 a2 a3 a4,ChO (fun κ=>zaa κ a0 a1 a2 a3 a4) (zae a0 a1 a2 a3 a4)) (c y'_1 y'_2 y'_3 y'_4 y'_5 y'_7):ChO (fun κ=>zce (zaa κ) c y'_1 y'_2 y'_3 y'_4 y'_5 y'_7) (zce zae c y'_1 y'_2 y'_3 y'_4 y'_5 y'_7):=by
  unfold zce
  repeat' with_reducible first | exact ChO.const _ | exact zah _ _ _ _ _ | apply ChO.G | (refine ChO.pbind (fun _ => ?_) (fun _ => ?_)) | (refine ChO.pbind2 ?_ (fun _ => ?_) (fun _ => ?_))
theorem ziQ (zaa:Nat->(List UInt8)->Int->Int->Int->Tp6->Option (((Tr (Int×Int×Unit))×(List UInt8)×Int×Int×Int×Tp6)⊕(Int×Int))) (zae:(List UInt8)->Int->Int->Int->Tp6->Option (((Tr (Int×Int×Unit))×(List UInt8)×Int×Int×Int×Tp6)⊕(Int×Int))) (zah:∀ a0 a1 a2 a3 a4,ChO (fun κ=>zaa κ a0 a1 a2 a3 a4) (zae a0 a1 a2 a3 a4)) (c y'_1 y'_2 y'_3 y'_4 y'_5 y'_7 t):ChO (fun κ=>zbG (zaa κ) c y'_1 y'_2 y'_3 y'_4 y'_5 y'_7 t) (zbG zae c y'_1 y'_2 y'_3 y'_4 y'_5 y'_7 t):=by
  unfold zbG
  repeat' with_reducible first | exact ChO.const _ | exact zah _ _ _ _ _ | (apply ziR<;>assumption) | apply ChO.ite | (refine ChO.pbind (fun _ => ?_) (fun _ => ?_)) | (refine ChO.pbind2 ?_ (fun _ => ?_) (fun _ => ?_))
theorem ziP (zaa:Nat->(List UInt8)->Int->Int->Int->Tp6->Option (((Tr (Int×Int×Unit))×(List UInt8)×Int×Int×Int×Tp6)⊕(Int×Int))) (zae:(List UInt8)->Int->Int->Int->Tp6->Option (((Tr (Int×Int×Unit))×(List UInt8)×Int×Int×Int×Tp6)⊕(Int×Int))) (zah:∀ a0 a1 a2 a3 a4,ChO (fun κ=>zaa κ a0 a1 a2 a3 a4) (zae a0 a1 a2 a3 a4)) (c c_1 c_2 c_3 c_4 l):ChO (fun κ=>zcd (zaa κ) c c_1 c_2 c_3 c_4 l) (zcd zae c c_1 c_2 c_3 c_4 l):=by
  unfold zcd
  repeat' with_reducible first | exact ChO.const _ | exact zah _ _ _ _ _ | (apply ziQ<;>assumption) | apply ChO.ite | apply ChO.G | (apply ChO.bind;intro _) | (apply ChO.bind2 (zah _ _ _ _ _);intro _) | (refine ChO.bind2 ?_ (fun _ => ?_)) | (refine ChO.pbind (fun _ => ?_) (fun _ => ?_)) | (refine ChO.pbind2 ?_ (fun _ => ?_) (fun _ => ?_))
theorem zk6 (zaa:Nat->(List UInt8)->Int->Int->Int->Tp6->Option (((Tr (Int×Int×Unit))×(List UInt8)×Int×Int×Int×Tp6)⊕(Int×Int))) (zae:(List UInt8)->Int->Int->Int->Tp6->Option (((Tr (Int×Int×Unit))×(List UInt8)×Int×Int×Int×Tp6)⊕(Int×Int))) (zah:∀ a0 a1 a2 a3 a4,ChO (fun κ=>zaa κ a0 a1 a2 a3 a4) (zae a0 a1 a2 a3 a4)) (c c_1 c_2 c_3 c_4 l):ChO (fun κ=>zcv (zaa κ) c c_1 c_2 c_3 c_4 l) (zcv zae c c_1 c_2 c_3 c_4 l):=by
  unfold zcv
  repeat' with_reducible first | exact ChO.const _ | exact zah _ _ _ _ _ | (apply ziP<;>assumption) | apply ChO.ite | (refine ChO.pbind (fun _ => ?_) (fun _ => ?_)) | (refine ChO.pbind2 ?_ (fun _ => ?_) (fun _ => ?_))
theorem zdX (zaa:Nat->(List UInt8)->Int->Int->Int->Tp6->Option (((Tr (Int×Int×Unit))×(List UInt8)×Int×Int×Int×Tp6)⊕(Int×Int))) (zae:(List UInt8)->Int->Int->Int->Tp6->Option (((Tr (Int×Int×Unit))×(List UInt8)×Int×Int×Int×Tp6)⊕(Int×Int))) (zah:∀ a0 a1 a2 a3 a4,ChO (fun κ=>zaa κ a0 a1 a2 a3 a4) (zae a0 a1 a2 a3 a4)) (r2:Nat->(Tr (Int×Int×Unit))->(List UInt8)->Int->Int->Int->Tp6->Option (((Tr (Int×Int×Unit))×(List UInt8)×Int×Int×Int×Tp6)⊕(Int×Int))) (r2':(Tr (Int×Int×Unit))->(List UInt8)->Int->Int->Int->Tp6->Option (((Tr (Int×Int×Unit))×(List UInt8)×Int×Int×Int×Tp6)⊕(Int×Int))) (h_r2:∀ a0 a1 a2 a3 a4 a5,ChO (fun κ=>r2 κ a0 a1 a2 a3 a4 a5) (r2' a0 a1 a2 a3 a4 a5)) (n r r_1 r_2 r_3 l_1):ChO (fun κ=>zbO (zaa κ) (r2 κ) n r r_1 r_2 r_3 l_1) (zbO zae r2' n r r_1 r_2 r_3 l_1):=by
  unfold zbO
  repeat' with_reducible first | exact ChO.const _ | exact zah _ _ _ _ _ | exact h_r2 _ _ _ _ _ _ | apply ChO.ite | apply ChO.G | (apply ChO.bind;intro _) | (apply ChO.bind2 (zah _ _ _ _ _);intro _) | (refine ChO.bind2 ?_ (fun _ => ?_)) | (refine ChO.pbind (fun _ => ?_) (fun _ => ?_)) | (refine ChO.pbind2 ?_ (fun _ => ?_) (fun _ => ?_))
theorem zdd (zaa):Cn (ze6 zaa):=fun g h hg x=>zdX (fun _=>zaa) zaa (fun _ _ _ _ _=>ChO.const _) _ _ (fun a0 a1 a2 a3 a4 a5=>hg (a0,a1,a2,a3,a4,a5))  x.1 x.2.1 x.2.2.1 x.2.2.2.1 x.2.2.2.2.1 x.2.2.2.2.2
theorem ziV (zaa n r r_1 r_2 r_3 l_1):zbI zaa n r r_1 r_2 r_3 l_1=zbO zaa (zbI zaa) n r r_1 r_2 r_3 l_1:=zbl (zdd zaa) (n,r,r_1,r_2,r_3,l_1)
theorem ziU (zaa:Nat->(List UInt8)->Int->Int->Int->Tp6->Option (((Tr (Int×Int×Unit))×(List UInt8)×Int×Int×Int×Tp6)⊕(Int×Int))) (zae:(List UInt8)->Int->Int->Int->Tp6->Option (((Tr (Int×Int×Unit))×(List UInt8)×Int×Int×Int×Tp6)⊕(Int×Int))) (zah:∀ a0 a1 a2 a3 a4,ChO (fun κ=>zaa κ a0 a1 a2 a3 a4) (zae a0 a1 a2 a3 a4)) (n r r_1 r_2 r_3 l_1):ChO (fun κ=>zbI (zaa κ) n r r_1 r_2 r_3 l_1) (zbI zae n r r_1 r_2 r_3 l_1):=by
  unfold zbI
  exact ziu (fun κ=>(zdd (zaa κ) ).mono) (zdd zae ).mono (fun g h hg x=>zdX zaa zae zah _ _ (fun a0 a1 a2 a3 a4 a5=>hg (a0,a1,a2,a3,a4,a5))  x.1 x.2.1 x.2.2.1 x.2.2.2.1 x.2.2.2.2.1 x.2.2.2.2.2) _
theorem zgm (zaa:Nat->(List UInt8)->Int->Int->Int->Tp6->Option (((Tr (Int×Int×Unit))×(List UInt8)×Int×Int×Int×Tp6)⊕(Int×Int))) (zae:(List UInt8)->Int->Int->Int->Tp6->Option (((Tr (Int×Int×Unit))×(List UInt8)×Int×Int×Int×Tp6)⊕(Int×Int))) (zah:∀ a0 a1 a2 a3 a4,ChO (fun κ=>zaa κ a0 a1 a2 a3 a4) (zae a0 a1 a2 a3 a4)) (c c_1 c_2 c_3 l):ChO (fun κ=>zb2 (zaa κ) c c_1 c_2 c_3 l) (zb2 zae c c_1 c_2 c_3 l):=by
  unfold zb2
  repeat' with_reducible first | exact ChO.const _ | exact zah _ _ _ _ _ | (apply ziU<;>assumption) | (refine ChO.pbind (fun _ => ?_) (fun _ => ?_)) | (refine ChO.pbind2 ?_ (fun _ => ?_) (fun _ => ?_))
theorem zdL (zaa:Nat->(List UInt8)->Int->Int->Int->Tp6->Option (((Tr (Int×Int×Unit))×(List UInt8)×Int×Int×Int×Tp6)⊕(Int×Int))) (zae:(List UInt8)->Int->Int->Int->Tp6->Option (((Tr (Int×Int×Unit))×(List UInt8)×Int×Int×Int×Tp6)⊕(Int×Int))) (zah:∀ a0 a1 a2 a3 a4,ChO (fun κ=>zaa κ a0 a1 a2 a3 a4) (zae a0 a1 a2 a3 a4)) (r2:Nat->(Tr (Int×Int×Unit))->(List UInt8)->Int->Int->Int->Tp6->Option (((Tr (Int×Int×Unit))×(List UInt8)×Int×Int×Int×Tp6)⊕(Int×Int))) (r2':(Tr (Int×Int×Unit))->(List UInt8)->Int->Int->Int->Tp6->Option (((Tr (Int×Int×Unit))×(List UInt8)×Int×Int×Int×Tp6)⊕(Int×Int))) (h_r2:∀ a0 a1 a2 a3 a4 a5,ChO (fun κ=>r2 κ a0 a1 a2 a3 a4 a5) (r2' a0 a1 a2 a3 a4 a5)) (n r r_1 r_2 r_3 l_1):ChO (fun κ=>zbA (zaa κ) (r2 κ) n r r_1 r_2 r_3 l_1) (zbA zae r2' n r r_1 r_2 r_3 l_1):=by
  unfold zbA
  repeat' with_reducible first | exact ChO.const _ | exact zah _ _ _ _ _ | exact h_r2 _ _ _ _ _ _ | (apply zgm<;>assumption) | apply ChO.ite | apply ChO.G | (apply ChO.bind;intro _) | (apply ChO.bind2 (zah _ _ _ _ _);intro _) | (refine ChO.bind2 ?_ (fun _ => ?_)) | (refine ChO.pbind (fun _ => ?_) (fun _ => ?_)) | (refine ChO.pbind2 ?_ (fun _ => ?_) (fun _ => ?_))
theorem zc2 (zaa):Cn (zeC zaa):=fun g h hg x=>zdL (fun _=>zaa) zaa (fun _ _ _ _ _=>ChO.const _) _ _ (fun a0 a1 a2 a3 a4 a5=>hg (a0,a1,a2,a3,a4,a5))  x.1 x.2.1 x.2.2.1 x.2.2.2.1 x.2.2.2.2.1 x.2.2.2.2.2
theorem zih (zaa n r r_1 r_2 r_3 l_1):zbw zaa n r r_1 r_2 r_3 l_1=zbA zaa (zbw zaa) n r r_1 r_2 r_3 l_1:=zbl (zc2 zaa) (n,r,r_1,r_2,r_3,l_1)
theorem zig (zaa:Nat->(List UInt8)->Int->Int->Int->Tp6->Option (((Tr (Int×Int×Unit))×(List UInt8)×Int×Int×Int×Tp6)⊕(Int×Int))) (zae:(List UInt8)->Int->Int->Int->Tp6->Option (((Tr (Int×Int×Unit))×(List UInt8)×Int×Int×Int×Tp6)⊕(Int×Int))) (zah:∀ a0 a1 a2 a3 a4,ChO (fun κ=>zaa κ a0 a1 a2 a3 a4) (zae a0 a1 a2 a3 a4)) (n r r_1 r_2 r_3 l_1):ChO (fun κ=>zbw (zaa κ) n r r_1 r_2 r_3 l_1) (zbw zae n r r_1 r_2 r_3 l_1):=by
  unfold zbw
  exact ziu (fun κ=>(zc2 (zaa κ) ).mono) (zc2 zae ).mono (fun g h hg x=>zdL zaa zae zah _ _ (fun a0 a1 a2 a3 a4 a5=>hg (a0,a1,a2,a3,a4,a5))  x.1 x.2.1 x.2.2.1 x.2.2.2.1 x.2.2.2.2.1 x.2.2.2.2.2) _
theorem zkw (zaa:Nat->(List UInt8)->Int->Int->Int->Tp6->Option (((Tr (Int×Int×Unit))×(List UInt8)×Int×Int×Int×Tp6)⊕(Int×Int))) (zae:(List UInt8)->Int->Int->Int->Tp6->Option (((Tr (Int×Int×Unit))×(List UInt8)×Int×Int×Int×Tp6)⊕(Int×Int))) (zah:∀ a0 a1 a2 a3 a4,ChO (fun κ=>zaa κ a0 a1 a2 a3 a4) (zae a0 a1 a2 a3 a4)) (c c_1 c_2 c_3 l):ChO (fun κ=>za4 (zaa κ) c c_1 c_2 c_3 l) (za4 zae c c_1 c_2 c_3 l):=by
  unfold za4
  repeat' with_reducible first | exact ChO.const _ | exact zah _ _ _ _ _ | (apply zgm<;>assumption) | (apply zig<;>assumption) | (refine ChO.pbind (fun _ => ?_) (fun _ => ?_)) | (refine ChO.pbind2 ?_ (fun _ => ?_) (fun _ => ?_))
theorem zif (zaa:Nat->(List UInt8)->Int->Int->Int->Tp6->Option (((Tr (Int×Int×Unit))×(List UInt8)×Int×Int×Int×Tp6)⊕(Int×Int))) (zae:(List UInt8)->Int->Int->Int->Tp6->Option (((Tr (Int×Int×Unit))×(List UInt8)×Int×Int×Int×Tp6)⊕(Int×Int))) (zah:∀ a0 a1 a2 a3 a4,ChO (fun κ=>zaa κ a0 a1 a2 a3 a4) (zae a0 a1 a2 a3 a4)) (c c_1 c_2 c_3 l):ChO (fun κ=>zbv (zaa κ) c c_1 c_2 c_3 l) (zbv zae c c_1 c_2 c_3 l):=by
  unfold zbv
  repeat' with_reducible first | exact ChO.const _ | exact zah _ _ _ _ _ | (apply zkw<;>assumption) | apply ChO.G | (refine ChO.pbind (fun _ => ?_) (fun _ => ?_)) | (refine ChO.pbind2 ?_ (fun _ => ?_) (fun _ => ?_))
theorem zie (zaa:Nat->(List UInt8)->Int->Int->Int->Tp6->Option (((Tr (Int×Int×Unit))×(List UInt8)×Int×Int×Int×Tp6)⊕(Int×Int))) (zae:(List UInt8)->Int->Int->Int->Tp6->Option (((Tr (Int×Int×Unit))×(List UInt8)×Int×Int×Int×Tp6)⊕(Int×Int))) (zah:∀ a0 a1 a2 a3 a4,ChO (fun κ=>zaa κ a0 a1 a2 a3 a4) (zae a0 a1 a2 a3 a4)) (c c_1 c_2 c_3 l y' t_3):ChO (fun κ=>zbu (zaa κ) c c_1 c_2 c_3 l y' t_3) (zbu zae c c_1 c_2 c_3 l y' t_3):=by
  unfold zbu
  repeat' with_reducible first | exact ChO.const _ | exact zah _ _ _ _ _ | (apply zif<;>assumption) | apply ChO.ite | (refine ChO.pbind (fun _ => ?_) (fun _ => ?_)) | (refine ChO.pbind2 ?_ (fun _ => ?_) (fun _ => ?_))
theorem zid (zaa:Nat->(List UInt8)->Int->Int->Int->Tp6->Option (((Tr (Int×Int×Unit))×(List UInt8)×Int×Int×Int×Tp6)⊕(Int×Int))) (zae:(List UInt8)->Int->Int->Int->Tp6->Option (((Tr (Int×Int×Unit))×(List UInt8)×Int×Int×Int×Tp6)⊕(Int×Int))) (zah:∀ a0 a1 a2 a3 a4,ChO (fun κ=>zaa κ a0 a1 a2 a3 a4) (zae a0 a1 a2 a3 a4)) (c c_1 c_2 c_3 l y' t_2):ChO (fun κ=>zbt (zaa κ) c c_1 c_2 c_3 l y' t_2) (zbt zae c c_1 c_2 c_3 l y' t_2):=by
  unfold zbt
  repeat' with_reducible first | exact ChO.const _ | exact zah _ _ _ _ _ | (apply zk6<;>assumption) | (apply zie<;>assumption) | apply ChO.ite | (refine ChO.pbind (fun _ => ?_) (fun _ => ?_)) | (refine ChO.pbind2 ?_ (fun _ => ?_) (fun _ => ?_))
theorem zic (zaa:Nat->(List UInt8)->Int->Int->Int->Tp6->Option (((Tr (Int×Int×Unit))×(List UInt8)×Int×Int×Int×Tp6)⊕(Int×Int))) (zae:(List UInt8)->Int->Int->Int->Tp6->Option (((Tr (Int×Int×Unit))×(List UInt8)×Int×Int×Int×Tp6)⊕(Int×Int))) (zah:∀ a0 a1 a2 a3 a4,ChO (fun κ=>zaa κ a0 a1 a2 a3 a4) (zae a0 a1 a2 a3 a4)) (c c_1 c_2 c_3 l y' t_1):ChO (fun κ=>zbs (zaa κ) c c_1 c_2 c_3 l y' t_1) (zbs zae c c_1 c_2 c_3 l y' t_1):=by
  unfold zbs
  repeat' with_reducible first | exact ChO.const _ | exact zah _ _ _ _ _ | (apply zku<;>assumption) | (apply zid<;>assumption) | apply ChO.ite | (refine ChO.pbind (fun _ => ?_) (fun _ => ?_)) | (refine ChO.pbind2 ?_ (fun _ => ?_) (fun _ => ?_))
theorem ziT (zaa:Nat->(List UInt8)->Int->Int->Int->Tp6->Option (((Tr (Int×Int×Unit))×(List UInt8)×Int×Int×Int×Tp6)⊕(Int×Int))) (zae:(List UInt8)->Int->Int->Int->Tp6->Option (((Tr (Int×Int×Unit))×(List UInt8)×Int×Int×Int×Tp6)⊕(Int×Int))) (zah:∀ a0 a1 a2 a3 a4,ChO (fun κ=>zaa κ a0 a1 a2 a3 a4) (zae a0 a1 a2 a3 a4)) (c c_1 c_2 c_3 l y' t):ChO (fun κ=>zbH (zaa κ) c c_1 c_2 c_3 l y' t) (zbH zae c c_1 c_2 c_3 l y' t):=by
  unfold zbH
  repeat' with_reducible first | exact ChO.const _ | exact zah _ _ _ _ _ | (apply zic<;>assumption) | apply ChO.ite | apply ChO.G | (apply ChO.bind;intro _) | (apply ChO.bind2 (zah _ _ _ _ _);intro _) | (refine ChO.bind2 ?_ (fun _ => ?_)) | (refine ChO.pbind (fun _ => ?_) (fun _ => ?_)) | (refine ChO.pbind2 ?_ (fun _ => ?_) (fun _ => ?_))
theorem zj4 (zaa:Nat->(List UInt8)->Int->Int->Int->Tp6->Option (((Tr (Int×Int×Unit))×(List UInt8)×Int×Int×Int×Tp6)⊕(Int×Int))) (zae:(List UInt8)->Int->Int->Int->Tp6->Option (((Tr (Int×Int×Unit))×(List UInt8)×Int×Int×Int×Tp6)⊕(Int×Int))) (zah:∀ a0 a1 a2 a3 a4,ChO (fun κ=>zaa κ a0 a1 a2 a3 a4) (zae a0 a1 a2 a3 a4)) (c c_1 c_2 c_3 l):ChO (fun κ=>zcs (zaa κ) c c_1 c_2 c_3 l) (zcs zae c c_1 c_2 c_3 l):=by
  unfold zcs
  repeat' with_reducible first | exact ChO.const _ | exact zah _ _ _ _ _ | (apply ziT<;>assumption) | apply ChO.ite | (apply ChO.bind;intro _) | (apply ChO.bind2 (zah _ _ _ _ _);intro _) | (refine ChO.bind2 ?_ (fun _ => ?_))
def zcK:((List UInt8)×Int×Int×Int×Tp6->Option (((Tr (Int×Int×Unit))×(List UInt8)×Int×Int×Int×Tp6)⊕(Int×Int)))->(List UInt8)×Int×Int×Int×Tp6->Option (((Tr (Int×Int×Unit))×(List UInt8)×Int×Int×Int×Tp6)⊕(Int×Int)):=
  fun rec X=>zcs (fun c c_1 c_2 c_3 l=>rec (c,c_1,c_2,c_3,l)) X.1 X.2.1 X.2.2.1 X.2.2.2.1 X.2.2.2.2
def zay (c:(List UInt8)) (c_1 c_2 c_3:Int) (l:Tp6):Option (((Tr (Int×Int×Unit))×(List UInt8)×Int×Int×Int×Tp6)⊕(Int×Int)):=LFix zcK (c,c_1,c_2,c_3,l)
theorem zk9:Cn zcK:=fun g h hg X=>zj4 _ _ (fun c c_1 c_2 c_3 l=>hg (c,c_1,c_2,c_3,l)) X.1 X.2.1 X.2.2.1 X.2.2.2.1 X.2.2.2.2
theorem zla (c c_1 c_2 c_3 l):zay c c_1 c_2 c_3 l=zcs zay c c_1 c_2 c_3 l:=zbl zk9 (c,c_1,c_2,c_3,l)
def zgo (c:(List UInt8)) (c_1 c_2 c_3:Int) (l:Tp6):Option (((Tr (Int×Int×Unit))×(List UInt8)×Int×Int×Int×Tp6)⊕(Int×Int)):=za4 zay c c_1 c_2 c_3 l

def ziO (text:(List UInt8)):Option ((Tr (Int×Int×Unit))×Int×Int×Unit):=
  if (decide ((4000:Int) < (text.length:Int)))=true then
  some (Tr.nil,((1:Int),((0:Int),()))) else
  pbind (zgo text (0:Int) (0:Int) (0:Int) ([]:List (Int×Bool×Unit))) (fun y'_6=>
  if (decide (y'_6.2.2.1 < (text.length:Int)))=true then
  pbind (zbn (y'_6.2.1,(y'_6.2.2.1,(y'_6.2.2.2.1,(y'_6.2.2.2.2.1,(y'_6.2.2.2.2.2,()))))) (4:Int)) (fun _=>
  some (y'_6.1,((0:Int),((0:Int),())))) (fun p=>some (Tr.nil,(p.1,(p.2,())))) else
  some (y'_6.1,((0:Int),((0:Int),())))) (fun p=>some (Tr.nil,(p.1,(p.2,()))))

def zlW (x' y':Int):Option (Int×Int):=
  G (0<=(32:Int)) (
  G (0<=(32:Int)) (
  G (0<=(32:Int)) (
  G (0<=(32:Int)) (
  G (0<=(32:Int)) (
  some (IntKind.wrap .u64 ((IntKind.wrap .u64 ((IntKind.wrap .u64 ((ishr .u64 x' (32:Int)) * (ishr .u64 y' (32:Int))))+(ishr .u64 (IntKind.wrap .u64 ((IntKind.wrap .u64 ((ishr .u64 x' (32:Int)) * (iand .u64 y' (4294967295:Int))))+(ishr .u64 (IntKind.wrap .u64 ((iand .u64 x' (4294967295:Int)) * (iand .u64 y' (4294967295:Int)))) (32:Int)))) (32:Int))))+(ishr .u64 (IntKind.wrap .u64 ((iand .u64 (IntKind.wrap .u64 ((IntKind.wrap .u64 ((ishr .u64 x' (32:Int)) * (iand .u64 y' (4294967295:Int))))+(ishr .u64 (IntKind.wrap .u64 ((iand .u64 x' (4294967295:Int)) * (iand .u64 y' (4294967295:Int)))) (32:Int)))) (4294967295:Int))+(IntKind.wrap .u64 ((iand .u64 x' (4294967295:Int)) * (ishr .u64 y' (32:Int)))))) (32:Int))),IntKind.wrap .u64 (x' * y')))))))

def znd (x' y':Int):Option (Int×Int):=
  (zlW x' y').bind (fun y'_4=>
  some (y'_4.1,y'_4.2))

def zcf (r8:Int->Tp9->Option Tp9) (n:Int) (newslice:Tp9):Option Tp9:=
  if (decide (n < (newslice.length:Int)))=true then
  G (0<=n/\n<=(newslice.length:Int)) (
  G (0<=n/\n<=(newslice.length:Int)) (
  G (0+((n).toNat)<=newslice.length) (
  G (((n).toNat)+(newslice.length - (n).toNat)<=newslice.length) (
  G (fits (n+((min ((newslice.drop 0).take ((n).toNat)).length (newslice.length - (n).toNat):Nat):Int))) (
  r8 (n+((min ((newslice.drop 0).take ((n).toNat)).length (newslice.length - (n).toNat):Nat):Int)) (newslice.take ((n).toNat)++((newslice.drop 0).take ((n).toNat)).take (min ((newslice.drop 0).take ((n).toNat)).length (newslice.length - (n).toNat))++newslice.drop (((n).toNat)+(min ((newslice.drop 0).take ((n).toNat)).length (newslice.length - (n).toNat))))))))) else
  some newslice
def zgL:(Int×Tp9->Option Tp9)->Int×Tp9->Option Tp9:=
  fun rec x=>zcf (fun n newslice=>rec (n,newslice)) x.1 x.2
def zdC (n:Int) (newslice:Tp9):Option Tp9:=LFix (zgL ) (n,newslice)
def zfp (x':Tp9) (count:Int):Option Tp9:=
  if (decide (count < (0:Int)))=true then
  none else
  (znd (IntKind.wrap .u64 (x'.length:Int)) (IntKind.wrap .u64 count)).bind (fun y'_3=>
  if (decide ((0:Int) < y'_3.1))=true then
  none else
  if (decide ((9223372036854775807:Int) < y'_3.2))=true then
  none else
  G (mkOK (IntKind.wrap .i64 y'_3.2) (IntKind.wrap .i64 y'_3.2) 1) (
  zdC ((min x'.length (List.replicate (IntKind.wrap .i64 y'_3.2).toNat (false:Bool)).length:Nat):Int) (x'.take (List.replicate (IntKind.wrap .i64 y'_3.2).toNat (false:Bool)).length++(List.replicate (IntKind.wrap .i64 y'_3.2).toNat (false:Bool)).drop x'.length)))
theorem zjC (r8:Nat->Int->Tp9->Option Tp9) (r8':Int->Tp9->Option Tp9) (h_r8:∀ a0 a1,ChO (fun κ=>r8 κ a0 a1) (r8' a0 a1)) (n newslice):ChO (fun κ=>zcf (r8 κ) n newslice) (zcf r8' n newslice):=by
  unfold zcf
  repeat' with_reducible first | exact ChO.const _ | exact h_r8 _ _ | apply ChO.ite | apply ChO.G
theorem zkF:Cn (zgL):=fun g h hg x=>zjC  _ _ (fun a0 a1=>hg (a0,a1))  x.1 x.2
theorem zkG (n newslice):zdC n newslice=zcf (zdC) n newslice:=zbl (zkF ) (n,newslice)

def zbC (s1 s2:Tp9) (r4:Int->Option (Bool)) (t:Int):Option (Bool):=
  if (decide (t < (s1.length:Int)))=true then
  G (0<=t/\t < (s1.length:Int)) (
  G (0<=t/\t < (s2.length:Int)) (
  if (decide (¬ (ix s1 t)=(ix s2 t)))=true then
  some false else
  G (fits (t+(1:Int))) (
  r4 (t+(1:Int))))) else
  some true
def zhg (s1 s2:Tp9):(Int->Option (Bool))->Int->Option (Bool):=
  fun rec x=>zbC s1 s2 (fun t=>rec t) x
def zga (s1 s2:Tp9) (t:Int):Option (Bool):=LFix (zhg s1 s2 ) t
def zgK (s1 s2:Tp9):Option (Bool):=
  if (decide (¬ (s1.length:Int)=(s2.length:Int)))=true then
  some false else
  zga s1 s2 (0:Int)
theorem zj8 (r4:Nat->Int->Option (Bool)) (r4':Int->Option (Bool)) (h_r4:∀ a0,ChO (fun κ=>r4 κ a0) (r4' a0)) (s1 s2 t):ChO (fun κ=>zbC s1 s2 (r4 κ) t) (zbC s1 s2 r4' t):=by
  unfold zbC
  repeat' with_reducible first | exact ChO.const _ | exact h_r4 _ | apply ChO.ite | apply ChO.G
theorem zlS (s1 s2):Cn (zhg s1 s2):=fun g h hg x=>zj8  _ _ (fun a=>hg a) s1 s2 x
theorem zd7 (s1 s2 t):zga s1 s2 t=zbC s1 s2 (zga s1 s2) t:=zbl (zlS s1 s2) t

def zaH (zad:(Tr (Int×Int×Unit))->Tp2->Tp8->Option Tp9) (k:Int) (t:(Tr (Int×Int×Unit))) (t_1:Tp2) (t_2:Tp8):Option Tp9:=
  G (t.isMk=true) (
  G (0<=k/\k < (t.kids.length:Int)) (
  (zad (ix t.kids k) t_1 t_2).bind (fun y'=>
  some y')))
def za7 (y'_1:Tp9) (r10:Int->Tp9->Option Tp9) (t:Int) (out:Tp9):Option Tp9:=
  if (decide (t < (y'_1.length:Int)))=true then
  G (0<=t/\t < (y'_1.length:Int)) (
  G (0<=t/\t < (out.length:Int)) (
  G ((t).toNat < out.length) (
  G (fits (t+(1:Int))) (
  r10 (t+(1:Int)) (out.set (t).toNat (!(ix y'_1 t))))))) else
  some out
def zeY (y'_1:Tp9):(Int×Tp9->Option Tp9)->Int×Tp9->Option Tp9:=
  fun rec x=>za7 y'_1 (fun t out=>rec (t,out)) x.1 x.2
def zdS (y'_1:Tp9) (t:Int) (out:Tp9):Option Tp9:=LFix (zeY y'_1 ) (t,out)
def za8 (n:(Tr (Int×Int×Unit))) (g':Tp2) (y'_2 y'_3:Tp9) (r18:Int->Tp9->Option Tp9) (t_2:Int) (out_1:Tp9):Option Tp9:=
  if (decide (t_2 < ((List.replicate (g'.2.1).toNat (false:Bool)).length:Int)))=true then
  G (0<=t_2/\t_2 < (y'_2.length:Int)) (
  if (ix y'_2 t_2)=true then
  G (0<=t_2/\t_2 < (y'_3.length:Int)) (
  if (ix y'_3 t_2)=true then
  G (0<=t_2/\t_2 < (out_1.length:Int)) (
  G ((t_2).toNat < out_1.length) (
  G (fits (t_2+(1:Int))) (
  r18 (t_2+(1:Int)) (out_1.set (t_2).toNat true)))) else
  G (n.isMk=true) (
  if (decide (((n.val (0,(0,()))).1)=(124:Int)))=true then
  G (0<=t_2/\t_2 < (y'_2.length:Int)) (
  if (ix y'_2 t_2)=true then
  G (0<=t_2/\t_2 < (out_1.length:Int)) (
  G ((t_2).toNat < out_1.length) (
  G (fits (t_2+(1:Int))) (
  r18 (t_2+(1:Int)) (out_1.set (t_2).toNat true)))) else
  G (0<=t_2/\t_2 < (y'_3.length:Int)) (
  G (0<=t_2/\t_2 < (out_1.length:Int)) (
  G ((t_2).toNat < out_1.length) (
  G (fits (t_2+(1:Int))) (
  r18 (t_2+(1:Int)) (out_1.set (t_2).toNat (ix y'_3 t_2))))))) else
  G (0<=t_2/\t_2 < (out_1.length:Int)) (
  G ((t_2).toNat < out_1.length) (
  G (fits (t_2+(1:Int))) (
  r18 (t_2+(1:Int)) (out_1.set (t_2).toNat false)))))) else
  G (n.isMk=true) (
  if (decide (((n.val (0,(0,()))).1)=(124:Int)))=true then
  G (0<=t_2/\t_2 < (y'_2.length:Int)) (
  if (ix y'_2 t_2)=true then
  G (0<=t_2/\t_2 < (out_1.length:Int)) (
  G ((t_2).toNat < out_1.length) (
  G (fits (t_2+(1:Int))) (
  r18 (t_2+(1:Int)) (out_1.set (t_2).toNat true)))) else
  G (0<=t_2/\t_2 < (y'_3.length:Int)) (
  G (0<=t_2/\t_2 < (out_1.length:Int)) (
  G ((t_2).toNat < out_1.length) (
  G (fits (t_2+(1:Int))) (
  r18 (t_2+(1:Int)) (out_1.set (t_2).toNat (ix y'_3 t_2))))))) else
  G (0<=t_2/\t_2 < (out_1.length:Int)) (
  G ((t_2).toNat < out_1.length) (
  G (fits (t_2+(1:Int))) (
  r18 (t_2+(1:Int)) (out_1.set (t_2).toNat false)))))) else
  some out_1
def zeZ (n:(Tr (Int×Int×Unit))) (g':Tp2) (y'_2 y'_3:Tp9):(Int×Tp9->Option Tp9)->Int×Tp9->Option Tp9:=
  fun rec x=>za8 n g' y'_2 y'_3 (fun t_2 out_1=>rec (t_2,out_1)) x.1 x.2
def zdT (n:(Tr (Int×Int×Unit))) (g':Tp2) (y'_2 y'_3:Tp9) (t_2:Int) (out_1:Tp9):Option Tp9:=LFix (zeZ n g' y'_2 y'_3 ) (t_2,out_1)
def zb8 (n:(Tr (Int×Int×Unit))) (g':Tp2) (t_5:Int) (out_3:Tp9) (r31:(Int->Tp9->Option Tp9)) (t_6:Bool):Option Tp9:=
  if t_6=true then
  G (n.isMk=true) (
  G (0<=(ix g'.2.2.1 t_5).1/\(ix g'.2.2.1 t_5).1 < (out_3.length:Int)) (
  G (((ix g'.2.2.1 t_5).1).toNat < out_3.length) (
  G (fits (t_5+(1:Int))) (
  r31 (t_5+(1:Int)) (out_3.set ((ix g'.2.2.1 t_5).1).toNat (decide (((n.val (0,(0,()))).1)=(60:Int)))))))) else
  G (fits (t_5+(1:Int))) (
  r31 (t_5+(1:Int)) out_3)
def zba (n:(Tr (Int×Int×Unit))) (g':Tp2) (y'_4:Tp9) (r31:Int->Tp9->Option Tp9) (t_5:Int) (out_3:Tp9):Option Tp9:=
  if (decide (t_5 < (g'.2.2.1.length:Int)))=true then
  G (0<=t_5/\t_5 < (g'.2.2.1.length:Int)) (
  G (n.isMk=true) (
  if (decide ((((ix g'.2.2.1 t_5).2).1)=((n.val (0,(0,()))).2.1)))=true then
  G (0<=(((ix g'.2.2.1 t_5).2).2).1/\(((ix g'.2.2.1 t_5).2).2).1 < (y'_4.length:Int)) (
  G (n.isMk=true) (
  zb8 n g' t_5 out_3 r31 (decide ((ix y'_4 ((((ix g'.2.2.1 t_5).2).2).1))=(decide (((n.val (0,(0,()))).1)=(60:Int))))))) else
  zb8 n g' t_5 out_3 r31 false)) else
  some out_3
def ze1 (n:(Tr (Int×Int×Unit))) (g':Tp2) (y'_4:Tp9):(Int×Tp9->Option Tp9)->Int×Tp9->Option Tp9:=
  fun rec x=>zba n g' y'_4 (fun t_5 out_3=>rec (t_5,out_3)) x.1 x.2
def zc4 (n:(Tr (Int×Int×Unit))) (g':Tp2) (y'_4:Tp9) (t_5:Int) (out_3:Tp9):Option Tp9:=LFix (ze1 n g' y'_4 ) (t_5,out_3)
def za9 (n:(Tr (Int×Int×Unit))) (g':Tp2) (y'_4:Tp9) (r26:Int->Tp9->Option Tp9) (t_4:Int) (out_2:Tp9):Option Tp9:=
  if (decide (t_4 < ((List.replicate (g'.2.1).toNat (false:Bool)).length:Int)))=true then
  G (n.isMk=true) (
  G (0<=t_4/\t_4 < (out_2.length:Int)) (
  G ((t_4).toNat < out_2.length) (
  G (fits (t_4+(1:Int))) (
  r26 (t_4+(1:Int)) (out_2.set (t_4).toNat (decide (((n.val (0,(0,()))).1)=(91:Int)))))))) else
  zc4 n g' y'_4 (0:Int) out_2
def ze0 (n:(Tr (Int×Int×Unit))) (g':Tp2) (y'_4:Tp9):(Int×Tp9->Option Tp9)->Int×Tp9->Option Tp9:=
  fun rec x=>za9 n g' y'_4 (fun t_4 out_2=>rec (t_4,out_2)) x.1 x.2
def zdU (n:(Tr (Int×Int×Unit))) (g':Tp2) (y'_4:Tp9) (t_4:Int) (out_2:Tp9):Option Tp9:=LFix (ze0 n g' y'_4 ) (t_4,out_2)
def zbN (zad:(Tr (Int×Int×Unit))->Tp2->Tp8->Option Tp9) (r43:(Tr (Int×Int×Unit))->Tp2->Tp8->Tp9->Option Tp9) (n_1:(Tr (Int×Int×Unit))) (g'_1:Tp2) (sets_1:Tp8) (out_5:Tp9):Option Tp9:=
  G (n_1.isMk=true) (
  G (0<=(0:Int)/\(0:Int) < (n_1.kids.length:Int)) (
  G ((sets_1.length:Int)=(sets_1.length:Int)/\0<=(sets_1.length:Int)/\(sets_1.length:Int)<=(sets_1.length:Int)) (
  G (0 < ([out_5]).length/\room (cut sets_1 (0:Int) (sets_1.length:Int)) ([out_5]) 24) (
  (zad (ix n_1.kids (0:Int)) g'_1 ((cut sets_1 (0:Int) (sets_1.length:Int))++([out_5]))).bind (fun y'_5=>
  (zgK y'_5 out_5).bind (fun y'_6=>
  if y'_6=true then
  some out_5 else
  r43 n_1 g'_1 sets_1 y'_5))))))
def ze3 (zad:(Tr (Int×Int×Unit))->Tp2->Tp8->Option Tp9):((Tr (Int×Int×Unit))×Tp2×Tp8×Tp9->Option Tp9)->(Tr (Int×Int×Unit))×Tp2×Tp8×Tp9->Option Tp9:=
  fun rec x=>zbN zad (fun n_1 g'_1 sets_1 out_5=>rec (n_1,g'_1,sets_1,out_5)) x.1 x.2.1 x.2.2.1 x.2.2.2
def zaA (zad:(Tr (Int×Int×Unit))->Tp2->Tp8->Option Tp9) (n_1:(Tr (Int×Int×Unit))) (g'_1:Tp2) (sets_1:Tp8) (out_5:Tp9):Option Tp9:=LFix (ze3 zad ) (n_1,g'_1,sets_1,out_5)
def zbb (zad:(Tr (Int×Int×Unit))->Tp2->Tp8->Option Tp9) (n:(Tr (Int×Int×Unit))) (g':Tp2) (sets:Tp8) (r39:Int->Tp9->Option Tp9) (t_8:Int) (out_4:Tp9):Option Tp9:=
  if (decide (t_8 < ((List.replicate (g'.2.1).toNat (false:Bool)).length:Int)))=true then
  G (n.isMk=true) (
  G (0<=t_8/\t_8 < (out_4.length:Int)) (
  G ((t_8).toNat < out_4.length) (
  G (fits (t_8+(1:Int))) (
  r39 (t_8+(1:Int)) (out_4.set (t_8).toNat (decide (((n.val (0,(0,()))).1)=(110:Int)))))))) else
  zaA zad n (g'.1,(g'.2.1,(g'.2.2.1,()))) sets out_4
def ze2 (zad:(Tr (Int×Int×Unit))->Tp2->Tp8->Option Tp9) (n:(Tr (Int×Int×Unit))) (g':Tp2) (sets:Tp8):(Int×Tp9->Option Tp9)->Int×Tp9->Option Tp9:=
  fun rec x=>zbb zad n g' sets (fun t_8 out_4=>rec (t_8,out_4)) x.1 x.2
def zb9 (zad:(Tr (Int×Int×Unit))->Tp2->Tp8->Option Tp9) (n:(Tr (Int×Int×Unit))) (g':Tp2) (sets:Tp8) (t_8:Int) (out_4:Tp9):Option Tp9:=LFix (ze2 zad n g' sets ) (t_8,out_4)
def zbf (zad:(Tr (Int×Int×Unit))->Tp2->Tp8->Option Tp9) (n:(Tr (Int×Int×Unit))) (g':Tp2) (sets:Tp8) (t_7:Bool):Option Tp9:=
  if t_7=true then
  zb9 zad n g' sets (0:Int) (List.replicate (g'.2.1).toNat (false:Bool)) else
  some (List.replicate (g'.2.1).toNat (false:Bool))
def zaW (zad:(Tr (Int×Int×Unit))->Tp2->Tp8->Option Tp9) (n:(Tr (Int×Int×Unit))) (g':Tp2) (sets:Tp8) (t_3:Bool):Option Tp9:=
  if t_3=true then
  (zaH zad (0:Int) n (g'.1,(g'.2.1,(g'.2.2.1,()))) sets).bind (fun y'_4=>
  zdU n g' y'_4 (0:Int) (List.replicate (g'.2.1).toNat (false:Bool))) else
  if (decide (((n.val (0,(0,()))).1)=(109:Int)))=true then
  zbf zad n g' sets (decide (((n.val (0,(0,()))).1)=(109:Int))) else
  zbf zad n g' sets (decide (((n.val (0,(0,()))).1)=(110:Int)))
def zaO (zad:(Tr (Int×Int×Unit))->Tp2->Tp8->Option Tp9) (n:(Tr (Int×Int×Unit))) (g':Tp2) (sets:Tp8) (t_1:Bool):Option Tp9:=
  if t_1=true then
  (zaH zad (0:Int) n (g'.1,(g'.2.1,(g'.2.2.1,()))) sets).bind (fun y'_2=>
  (zaH zad (1:Int) n (g'.1,(g'.2.1,(g'.2.2.1,()))) sets).bind (fun y'_3=>
  zdT n g' y'_2 y'_3 (0:Int) (List.replicate (g'.2.1).toNat (false:Bool)))) else
  if (decide (((n.val (0,(0,()))).1)=(60:Int)))=true then
  zaW zad n g' sets (decide (((n.val (0,(0,()))).1)=(60:Int))) else
  zaW zad n g' sets (decide (((n.val (0,(0,()))).1)=(91:Int)))
def zaN (zad:(Tr (Int×Int×Unit))->Tp2->Tp8->Option Tp9) (n:(Tr (Int×Int×Unit))) (g':Tp2) (sets:Tp8):Option Tp9:=
  G (mkOK g'.2.1 g'.2.1 1) (
  G (n.isMk=true) (
  if (decide (((n.val (0,(0,()))).1)=(49:Int)))=true then
  (zfp ([true]) g'.2.1).bind (fun y'=>
  some y') else
  if (decide (((n.val (0,(0,()))).1)=(88:Int)))=true then
  G (n.isMk=true) (
  G (0<=(n.val (0,(0,()))).2.1/\(n.val (0,(0,()))).2.1 < (sets.length:Int)) (
  some (ix sets ((n.val (0,(0,()))).2.1)))) else
  if (decide (((n.val (0,(0,()))).1)=(33:Int)))=true then
  (zaH zad (0:Int) n (g'.1,(g'.2.1,(g'.2.2.1,()))) sets).bind (fun y'_1=>
  zdS y'_1 (0:Int) (List.replicate (g'.2.1).toNat (false:Bool))) else
  if (decide (((n.val (0,(0,()))).1)=(38:Int)))=true then
  zaO zad n g' sets (decide (((n.val (0,(0,()))).1)=(38:Int))) else
  zaO zad n g' sets (decide (((n.val (0,(0,()))).1)=(124:Int)))))
theorem zdE (zad:Nat->(Tr (Int×Int×Unit))->Tp2->Tp8->Option Tp9) (zak:(Tr (Int×Int×Unit))->Tp2->Tp8->Option Tp9) (zan:∀ a0 a1 a2,ChO (fun κ=>zad κ a0 a1 a2) (zak a0 a1 a2)) (k t t_1 t_2):ChO (fun κ=>zaH (zad κ) k t t_1 t_2) (zaH zak k t t_1 t_2):=by
  unfold zaH
  repeat' with_reducible first | exact ChO.const _ | exact zan _ _ _ | apply ChO.G | (apply ChO.bind;intro _) | (apply ChO.bind2 (zan _ _ _);intro _) | (refine ChO.bind2 ?_ (fun _ => ?_))
theorem zhr (r10:Nat->Int->Tp9->Option Tp9) (r10':Int->Tp9->Option Tp9) (h_r10:∀ a0 a1,ChO (fun κ=>r10 κ a0 a1) (r10' a0 a1)) (y'_1 t out):ChO (fun κ=>za7 y'_1 (r10 κ) t out) (za7 y'_1 r10' t out):=by
  unfold za7
  repeat' with_reducible first | exact ChO.const _ | exact h_r10 _ _ | apply ChO.ite | apply ChO.G
theorem ziH (y'_1):Cn (zeY y'_1):=fun g h hg x=>zhr  _ _ (fun a0 a1=>hg (a0,a1)) y'_1 x.1 x.2
theorem zew (y'_1 t out):zdS y'_1 t out=za7 y'_1 (zdS y'_1) t out:=zbl (ziH y'_1) (t,out)
theorem zhs (r18:Nat->Int->Tp9->Option Tp9) (r18':Int->Tp9->Option Tp9) (h_r18:∀ a0 a1,ChO (fun κ=>r18 κ a0 a1) (r18' a0 a1)) (n g' y'_2 y'_3 t_2 out_1):ChO (fun κ=>za8 n g' y'_2 y'_3 (r18 κ) t_2 out_1) (za8 n g' y'_2 y'_3 r18' t_2 out_1):=by
  unfold za8
  repeat' with_reducible first | exact ChO.const _ | exact h_r18 _ _ | apply ChO.ite | apply ChO.G
theorem ziI (n g' y'_2 y'_3):Cn (zeZ n g' y'_2 y'_3):=fun g h hg x=>zhs  _ _ (fun a0 a1=>hg (a0,a1)) n g' y'_2 y'_3 x.1 x.2
theorem zex (n g' y'_2 y'_3 t_2 out_1):zdT n g' y'_2 y'_3 t_2 out_1=za8 n g' y'_2 y'_3 (zdT n g' y'_2 y'_3) t_2 out_1:=zbl (ziI n g' y'_2 y'_3) (t_2,out_1)
theorem ziF (r31:Nat->Int->Tp9->Option Tp9) (r31':Int->Tp9->Option Tp9) (h_r31:∀ a0 a1,ChO (fun κ=>r31 κ a0 a1) (r31' a0 a1)) (n g' t_5 out_3 t_6):ChO (fun κ=>zb8 n g' t_5 out_3 (r31 κ) t_6) (zb8 n g' t_5 out_3 r31' t_6):=by
  unfold zb8
  repeat' with_reducible first | exact ChO.const _ | exact h_r31 _ _ | apply ChO.ite | apply ChO.G
theorem zhu (r31:Nat->Int->Tp9->Option Tp9) (r31':Int->Tp9->Option Tp9) (h_r31:∀ a0 a1,ChO (fun κ=>r31 κ a0 a1) (r31' a0 a1)) (n g' y'_4 t_5 out_3):ChO (fun κ=>zba n g' y'_4 (r31 κ) t_5 out_3) (zba n g' y'_4 r31' t_5 out_3):=by
  unfold zba
  repeat' with_reducible first | exact ChO.const _ | exact h_r31 _ _ | (apply ziF<;>assumption) | apply ChO.ite | apply ChO.G
theorem ziK (n g' y'_4):Cn (ze1 n g' y'_4):=fun g h hg x=>zhu  _ _ (fun a0 a1=>hg (a0,a1)) n g' y'_4 x.1 x.2
theorem zez (n g' y'_4 t_5 out_3):zc4 n g' y'_4 t_5 out_3=zba n g' y'_4 (zc4 n g' y'_4) t_5 out_3:=zbl (ziK n g' y'_4) (t_5,out_3)
theorem zht (r26:Nat->Int->Tp9->Option Tp9) (r26':Int->Tp9->Option Tp9) (h_r26:∀ a0 a1,ChO (fun κ=>r26 κ a0 a1) (r26' a0 a1)) (n g' y'_4 t_4 out_2):ChO (fun κ=>za9 n g' y'_4 (r26 κ) t_4 out_2) (za9 n g' y'_4 r26' t_4 out_2):=by
  unfold za9
  repeat' with_reducible first | exact ChO.const _ | exact h_r26 _ _ | apply ChO.ite | apply ChO.G
theorem ziJ (n g' y'_4):Cn (ze0 n g' y'_4):=fun g h hg x=>zht  _ _ (fun a0 a1=>hg (a0,a1)) n g' y'_4 x.1 x.2
theorem zey (n g' y'_4 t_4 out_2):zdU n g' y'_4 t_4 out_2=za9 n g' y'_4 (zdU n g' y'_4) t_4 out_2:=zbl (ziJ n g' y'_4) (t_4,out_2)
theorem zdW (zad:Nat->(Tr (Int×Int×Unit))->Tp2->Tp8->Option Tp9) (zak:(Tr (Int×Int×Unit))->Tp2->Tp8->Option Tp9) (zan:∀ a0 a1 a2,ChO (fun κ=>zad κ a0 a1 a2) (zak a0 a1 a2)) (r43:Nat->(Tr (Int×Int×Unit))->Tp2->Tp8->Tp9->Option Tp9) (r43':(Tr (Int×Int×Unit))->Tp2->Tp8->Tp9->Option Tp9) (h_r43:∀ a0 a1 a2 a3,ChO (fun κ=>r43 κ a0 a1 a2 a3) (r43' a0 a1 a2 a3)) (n_1 g'_1 sets_1 out_5):ChO (fun κ=>zbN (zad κ) (r43 κ) n_1 g'_1 sets_1 out_5) (zbN zak r43' n_1 g'_1 sets_1 out_5):=by
  unfold zbN
  repeat' with_reducible first | exact ChO.const _ | exact zan _ _ _ | exact h_r43 _ _ _ _ | apply ChO.ite | apply ChO.G | (apply ChO.bind;intro _) | (apply ChO.bind2 (zan _ _ _);intro _) | (refine ChO.bind2 ?_ (fun _ => ?_))
theorem zdc (zad):Cn (ze3 zad):=fun g h hg x=>zdW (fun _=>zad) zad (fun _ _ _=>ChO.const _) _ _ (fun a0 a1 a2 a3=>hg (a0,a1,a2,a3))  x.1 x.2.1 x.2.2.1 x.2.2.2
theorem ziN (zad n_1 g'_1 sets_1 out_5):zaA zad n_1 g'_1 sets_1 out_5=zbN zad (zaA zad) n_1 g'_1 sets_1 out_5:=zbl (zdc zad) (n_1,g'_1,sets_1,out_5)
theorem ziM (zad:Nat->(Tr (Int×Int×Unit))->Tp2->Tp8->Option Tp9) (zak:(Tr (Int×Int×Unit))->Tp2->Tp8->Option Tp9) (zan:∀ a0 a1 a2,ChO (fun κ=>zad κ a0 a1 a2) (zak a0 a1 a2)) (n_1 g'_1 sets_1 out_5):ChO (fun κ=>zaA (zad κ) n_1 g'_1 sets_1 out_5) (zaA zak n_1 g'_1 sets_1 out_5):=by
  unfold zaA
  exact ziu (fun κ=>(zdc (zad κ) ).mono) (zdc zak ).mono (fun g h hg x=>zdW zad zak zan _ _ (fun a0 a1 a2 a3=>hg (a0,a1,a2,a3))  x.1 x.2.1 x.2.2.1 x.2.2.2) _
theorem zdV (zad:Nat->(Tr (Int×Int×Unit))->Tp2->Tp8->Option Tp9) (zak:(Tr (Int×Int×Unit))->Tp2->Tp8->Option Tp9) (zan:∀ a0 a1 a2,ChO (fun κ=>zad κ a0 a1 a2) (zak a0 a1 a2)) (r39:Nat->Int->Tp9->Option Tp9) (r39':Int->Tp9->Option Tp9) (h_r39:∀ a0 a1,ChO (fun κ=>r39 κ a0 a1) (r39' a0 a1)) (n g' sets t_8 out_4):ChO (fun κ=>zbb (zad κ) n g' sets (r39 κ) t_8 out_4) (zbb zak n g' sets r39' t_8 out_4):=by
  unfold zbb
  repeat' with_reducible first | exact ChO.const _ | exact zan _ _ _ | exact h_r39 _ _ | (apply ziM<;>assumption) | apply ChO.ite | apply ChO.G
theorem zdb (zad n g' sets):Cn (ze2 zad n g' sets):=fun g h hg x=>zdV (fun _=>zad) zad (fun _ _ _=>ChO.const _) _ _ (fun a0 a1=>hg (a0,a1)) n g' sets x.1 x.2
theorem zeA (zad n g' sets t_8 out_4):zb9 zad n g' sets t_8 out_4=zbb zad n g' sets (zb9 zad n g' sets) t_8 out_4:=zbl (zdb zad n g' sets) (t_8,out_4)
theorem ziL (zad:Nat->(Tr (Int×Int×Unit))->Tp2->Tp8->Option Tp9) (zak:(Tr (Int×Int×Unit))->Tp2->Tp8->Option Tp9) (zan:∀ a0 a1 a2,ChO (fun κ=>zad κ a0 a1 a2) (zak a0 a1 a2)) (n g' sets t_8 out_4):ChO (fun κ=>zb9 (zad κ) n g' sets t_8 out_4) (zb9 zak n g' sets t_8 out_4):=by
  unfold zb9
  exact ziu (fun κ=>(zdb (zad κ) n g' sets).mono) (zdb zak n g' sets).mono (fun g h hg x=>zdV zad zak zan _ _ (fun a0 a1=>hg (a0,a1)) n g' sets x.1 x.2) _
theorem ziG (zad:Nat->(Tr (Int×Int×Unit))->Tp2->Tp8->Option Tp9) (zak:(Tr (Int×Int×Unit))->Tp2->Tp8->Option Tp9) (zan:∀ a0 a1 a2,ChO (fun κ=>zad κ a0 a1 a2) (zak a0 a1 a2)) (n g' sets t_7):ChO (fun κ=>zbf (zad κ) n g' sets t_7) (zbf zak n g' sets t_7):=by
  unfold zbf
  repeat' with_reducible first | exact ChO.const _ | exact zan _ _ _ | (apply ziL<;>assumption) | apply ChO.ite
theorem ziE (zad:Nat->(Tr (Int×Int×Unit))->Tp2->Tp8->Option Tp9) (zak:(Tr (Int×Int×Unit))->Tp2->Tp8->Option Tp9) (zan:∀ a0 a1 a2,ChO (fun κ=>zad κ a0 a1 a2) (zak a0 a1 a2)) (n g' sets t_3):ChO (fun κ=>zaW (zad κ) n g' sets t_3) (zaW zak n g' sets t_3):=by
  unfold zaW
  repeat' with_reducible first | exact ChO.const _ | exact zan _ _ _ | (apply zdE<;>assumption) | (apply ziG<;>assumption) | apply ChO.ite | (apply ChO.bind;intro _) | (apply ChO.bind2 (zan _ _ _);intro _) | (refine ChO.bind2 ?_ (fun _ => ?_))
theorem ziD (zad:Nat->(Tr (Int×Int×Unit))->Tp2->Tp8->Option Tp9) (zak:(Tr (Int×Int×Unit))->Tp2->Tp8->Option Tp9) (zan:∀ a0 a1 a2,ChO (fun κ=>zad κ a0 a1 a2) (zak a0 a1 a2)) (n g' sets t_1):ChO (fun κ=>zaO (zad κ) n g' sets t_1) (zaO zak n g' sets t_1):=by
  unfold zaO
  repeat' with_reducible first | exact ChO.const _ | exact zan _ _ _ | (apply zdE<;>assumption) | (apply ziE<;>assumption) | apply ChO.ite | (apply ChO.bind;intro _) | (apply ChO.bind2 (zan _ _ _);intro _) | (refine ChO.bind2 ?_ (fun _ => ?_))
theorem zkt (zad:Nat->(Tr (Int×Int×Unit))->Tp2->Tp8->Option Tp9) (zak:(Tr (Int×Int×Unit))->Tp2->Tp8->Option Tp9) (zan:∀ a0 a1 a2,ChO (fun κ=>zad κ a0 a1 a2) (zak a0 a1 a2)) (n g' sets):ChO (fun κ=>zaN (zad κ) n g' sets) (zaN zak n g' sets):=by
  unfold zaN
  repeat' with_reducible first | exact ChO.const _ | exact zan _ _ _ | (apply zdE<;>assumption) | (apply ziD<;>assumption) | apply ChO.ite | apply ChO.G | (apply ChO.bind;intro _) | (apply ChO.bind2 (zan _ _ _);intro _) | (refine ChO.bind2 ?_ (fun _ => ?_))
def zdy:((Tr (Int×Int×Unit))×Tp2×Tp8->Option Tp9)->(Tr (Int×Int×Unit))×Tp2×Tp8->Option Tp9:=
  fun rec X=>zaN (fun n g' sets=>rec (n,g',sets)) X.1 X.2.1 X.2.2
def zaj (n:(Tr (Int×Int×Unit))) (g':Tp2) (sets:Tp8):Option Tp9:=LFix zdy (n,g',sets)
theorem zl6:Cn zdy:=fun g h hg X=>zkt _ _ (fun n g' sets=>hg (n,g',sets)) X.1 X.2.1 X.2.2
theorem zbR (n g' sets):zaj n g' sets=zaN zaj n g' sets:=zbl zl6 (n,g',sets)
def zgJ (s:Tp9):Option Tp9:=
  if s.length=0 then both [(.list .bool)] (
  some ([])) (
  G (room ([]:List Bool) s 1) (
  some (([]:List Bool)++s))) else
  G (room ([]:List Bool) s 1) (
  some (([]:List Bool)++s))

def znV (g':Tp2) (text:(List UInt8)):Option (Int×Tp9):=
  (zjZ (g'.1,(g'.2.1,(g'.2.2.1,())))).bind (fun y'=>
  if (decide (¬ y'=(0:Int)))=true then
  some (y',[]) else
  (ziO text).bind (fun y'_6=>
  if (decide (¬ y'_6.2.1=(0:Int)))=true then
  some ((4:Int),[]) else
  (zaj y'_6.1 (g'.1,(g'.2.1,(g'.2.2.1,()))) ([])).bind (fun y'_4=>
  (zgJ y'_4).bind (fun y'_5=>
  some ((0:Int),y'_5)))))

def zlq (x' y':Tp7):Option (Bool):=
  if (decide (¬ x'.1=y'.1))=true then
  some (decide (x'.1 < y'.1)) else
  if (decide (¬ x'.2.1=y'.2.1))=true then
  some (decide (x'.2.1 < y'.2.1)) else
  some (decide (x'.2.2.1 < y'.2.2.1))

def zbK (g':Tp2) (r12:Int->Option (Int)) (i_1:Int):Option (Int):=
  if (decide (i_1 < (g'.2.2.1.length:Int)))=true then
  G (fits (i_1 - (1:Int))) (
  G (0<=i_1 - (1:Int)/\i_1 - (1:Int) < (g'.2.2.1.length:Int)) (
  G (0<=i_1/\i_1 < (g'.2.2.1.length:Int)) (
  (zlq (ix g'.2.2.1 (i_1 - (1:Int))) (ix g'.2.2.1 i_1)).bind (fun y'=>
  if (!y')=true then
  some (3:Int) else
  G (fits (i_1+(1:Int))) (
  r12 (i_1+(1:Int))))))) else
  some (0:Int)
def zjf (g':Tp2):(Int->Option (Int))->Int->Option (Int):=
  fun rec x=>zbK g' (fun i_1=>rec i_1) x
def zhB (g':Tp2) (i_1:Int):Option (Int):=LFix (zjf g' ) i_1
def zcn (g':Tp2) (r6:Int->Option (Int)) (i:Int):Option (Int):=
  if (decide (i < (g'.2.2.1.length:Int)))=true then
  G (0<=i/\i < (g'.2.2.1.length:Int)) (
  if (decide (((ix g'.2.2.1 i).1) < (0:Int)))=true then
  some (2:Int) else
  if (decide (g'.2.1<=((ix g'.2.2.1 i).1)))=true then
  some (2:Int) else
  if (decide (((((ix g'.2.2.1 i).2).2).1) < (0:Int)))=true then
  some (2:Int) else
  if (decide (g'.2.1<=((((ix g'.2.2.1 i).2).2).1)))=true then
  some (2:Int) else
  if (decide ((((ix g'.2.2.1 i).2).1) < (0:Int)))=true then
  some (2:Int) else
  if (decide (g'.1<=(((ix g'.2.2.1 i).2).1)))=true then
  some (2:Int) else
  G (fits (i+(1:Int))) (
  r6 (i+(1:Int)))) else
  zhB g' (1:Int)
def zkf (g':Tp2):(Int->Option (Int))->Int->Option (Int):=
  fun rec x=>zcn g' (fun i=>rec i) x
def zjg (g':Tp2) (i:Int):Option (Int):=LFix (zkf g' ) i
def zlv (g':Tp2):Option (Int):=
  if (decide (g'.1 < (1:Int)))=true then
  some (2:Int) else
  if (decide ((4:Int) < g'.1))=true then
  some (2:Int) else
  if (decide (g'.2.1 < (1:Int)))=true then
  some (1:Int) else
  if (decide ((12:Int) < g'.2.1))=true then
  some (1:Int) else
  if (decide ((60:Int) < (g'.2.2.1.length:Int)))=true then
  some (1:Int) else
  zjg g' (0:Int)
theorem zlw (r12:Nat->Int->Option (Int)) (r12':Int->Option (Int)) (h_r12:∀ a0,ChO (fun κ=>r12 κ a0) (r12' a0)) (g' i_1):ChO (fun κ=>zbK g' (r12 κ) i_1) (zbK g' r12' i_1):=by
  unfold zbK
  repeat' with_reducible first | exact ChO.const _ | exact h_r12 _ | apply ChO.ite | apply ChO.G | (apply ChO.bind;intro _)
theorem zmW (g'):Cn (zjf g'):=fun g h hg x=>zlw  _ _ (fun a=>hg a) g' x
theorem zdz (g' i_1):zhB g' i_1=zbK g' (zhB g') i_1:=zbl (zmW g') i_1
theorem zmd (r6:Nat->Int->Option (Int)) (r6':Int->Option (Int)) (h_r6:∀ a0,ChO (fun κ=>r6 κ a0) (r6' a0)) (g' i):ChO (fun κ=>zcn g' (r6 κ) i) (zcn g' r6' i):=by
  unfold zcn
  repeat' with_reducible first | exact ChO.const _ | exact h_r6 _ | apply ChO.ite | apply ChO.G
theorem zoh (g'):Cn (zkf g'):=fun g h hg x=>zmd  _ _ (fun a=>hg a) g' x
theorem zfS (g' i):zjg g' i=zcn g' (zjg g') i:=zbl (zoh g') i

def zd1 (r:((List UInt8)×Int×Int×Int×(List UInt8)×Tp9×Tp3×(Int×Int×Unit)×Unit)):Option (Bool):=
  some (decide (r.2.2.2.2.2.2.2.1.1=(0:Int)))

def zbZ (r:((List UInt8)×Int×Int×Int×(List UInt8)×Tp9×Tp3×(Int×Int×Unit)×Unit)):Option (Int):=
  if (decide ((r.1.length:Int)<=r.2.1))=true then
  some (0:Int) else
  G (0<=r.2.1/\r.2.1 < (r.1.length:Int)) (
  some (bAt r.1 r.2.1))

def zaU (code:Int) (c:(List UInt8)) (c_1 c_2 c_3:Int) (c_4:(List UInt8)) (c_5 c_6:Int) (l:Tp9) (l_1:Tp3):Option ((List UInt8)×Int×Int×Int×(List UInt8)×Tp9×Tp3×Int×Int):=
  if (decide (c_5=(0:Int)))=true then
  some (c,c_1,c_2,c_3,c_4,l,l_1,code,c_1) else
  some (c,c_1,c_2,c_3,c_4,l,l_1,c_5,c_6)

def zaP (c:(List UInt8)) (c_1 c_2 c_3:Int) (c_4:(List UInt8)) (c_5 c_6:Int) (l:Tp9) (l_1:Tp3):Option ((List UInt8)×Int×Int×Int×(List UInt8)×Tp9×Tp3×Int×Int):=
  G (fits (c_3+(1:Int))) (
  if (decide ((30:Int) < (c_3+(1:Int))))=true then
  (zaU (7:Int) c c_1 c_2 (c_3+(1:Int)) c_4 c_5 c_6 l l_1).bind (fun y'_10=>
  G (fits (y'_10.2.1+(1:Int))) (
  some (y'_10.1,y'_10.2.1+(1:Int),y'_10.2.2.1,y'_10.2.2.2.1,y'_10.2.2.2.2.1,y'_10.2.2.2.2.2.1,y'_10.2.2.2.2.2.2.1,y'_10.2.2.2.2.2.2.2.1,y'_10.2.2.2.2.2.2.2.2))) else
  G (fits (c_1+(1:Int))) (
  some (c,c_1+(1:Int),c_2,c_3+(1:Int),c_4,l,l_1,c_5,c_6)))

def zbD (n:Tp5) (c:(List UInt8)) (c_1 c_2 c_3:Int) (c_4:(List UInt8)) (c_5 c_6:Int) (l:Tp9) (l_1:Tp3):Option (Int×(List UInt8)×Int×Int×Int×(List UInt8)×Tp9×Tp3×Int×Int):=
  G (room l_1 ([(n.1,(n.2.1,(n.2.2.1,(n.2.2.2.1,()))))]) 32) (
  G (fits (((l_1++([(n.1,(n.2.1,(n.2.2.1,(n.2.2.2.1,()))))])).length:Int) - (1:Int))) (
  some (((l_1++([(n.1,(n.2.1,(n.2.2.1,(n.2.2.2.1,()))))])).length:Int) - (1:Int),c,c_1,c_2,c_3,c_4,l,l_1++([(n.1,(n.2.1,(n.2.2.1,(n.2.2.2.1,()))))]),c_5,c_6)))

def zbe (r1:Int->(List UInt8)->Int->Int->Int->(List UInt8)->Int->Int->Tp9->Tp3->Option ((List UInt8)×Int×Int×Int×(List UInt8)×Tp9×Tp3×Int×Int)) (k:Int) (r:(List UInt8)) (r_1 r_2 r_3:Int) (r_4:(List UInt8)) (r_5 r_6:Int) (l_2:Tp9) (l_3:Tp3):Option ((List UInt8)×Int×Int×Int×(List UInt8)×Tp9×Tp3×Int×Int):=
  if (decide (k < (l_2.length:Int)))=true then
  G (0<=k/\k < (l_2.length:Int)) (
  G ((k).toNat < l_2.length) (
  G (0<=k/\k < (l_2.length:Int)) (
  G ((k).toNat < l_2.length) (
  G (fits (k+(1:Int))) (
  r1 (k+(1:Int)) r r_1 r_2 r_3 r_4 r_5 r_6 (l_2.set (k).toNat (!(ix l_2 k))) l_3))))) else
  some (r,r_1,r_2,r_3,r_4,l_2,l_3,r_5,r_6)
def zff:(Int×(List UInt8)×Int×Int×Int×(List UInt8)×Int×Int×Tp9×Tp3->Option ((List UInt8)×Int×Int×Int×(List UInt8)×Tp9×Tp3×Int×Int))->Int×(List UInt8)×Int×Int×Int×(List UInt8)×Int×Int×Tp9×Tp3->Option ((List UInt8)×Int×Int×Int×(List UInt8)×Tp9×Tp3×Int×Int):=
  fun rec x=>zbe (fun k r r_1 r_2 r_3 r_4 r_5 r_6 l_2 l_3=>rec (k,r,r_1,r_2,r_3,r_4,r_5,r_6,l_2,l_3)) x.1 x.2.1 x.2.2.1 x.2.2.2.1 x.2.2.2.2.1 x.2.2.2.2.2.1 x.2.2.2.2.2.2.1 x.2.2.2.2.2.2.2.1 x.2.2.2.2.2.2.2.2.1 x.2.2.2.2.2.2.2.2.2
def zc7 (k:Int) (r:(List UInt8)) (r_1 r_2 r_3:Int) (r_4:(List UInt8)) (r_5 r_6:Int) (l_2:Tp9) (l_3:Tp3):Option ((List UInt8)×Int×Int×Int×(List UInt8)×Tp9×Tp3×Int×Int):=LFix (zff ) (k,r,r_1,r_2,r_3,r_4,r_5,r_6,l_2,l_3)
def zdh (c:(List UInt8)) (c_1 c_2 c_3:Int) (c_4:(List UInt8)) (c_5 c_6:Int) (l:Tp9) (l_1:Tp3):Option ((List UInt8)×Int×Int×Int×(List UInt8)×Tp9×Tp3×Int×Int):=
  zc7 (0:Int) c c_1 c_2 c_3 c_4 c_5 c_6 l l_1
theorem zhC (r1:Nat->Int->(List UInt8)->Int->Int->Int->(List UInt8)->Int->Int->Tp9->Tp3->Option ((List UInt8)×Int×Int×Int×(List UInt8)×Tp9×Tp3×Int×Int)) (r1':Int->(List UInt8)->Int->Int->Int->(List UInt8)->Int->Int->Tp9->Tp3->Option ((List UInt8)×Int×Int×Int×(List UInt8)×Tp9×Tp3×Int×Int)) (h_r1:∀ a0 a1 a2 a3 a4 a5 a6 a7 a8 a9,ChO (fun κ=>r1 κ a0 a1 a2 a3 a4 a5 a6 a7 a8 a9) (r1' a0 a1 a2 a3 a4 a5 a6 a7 a8 a9)) (k r r_1 r_2 r_3 r_4 r_5 r_6 l_2 l_3):ChO (fun κ=>zbe (r1 κ) k r r_1 r_2 r_3 r_4 r_5 r_6 l_2 l_3) (zbe r1' k r r_1 r_2 r_3 r_4 r_5 r_6 l_2 l_3):=by
  unfold zbe
  repeat' with_reducible first | exact ChO.const _ | exact h_r1 _ _ _ _ _ _ _ _ _ _ | apply ChO.ite | apply ChO.G
theorem zjm:Cn (zff):=fun g h hg x=>zhC  _ _ (fun a0 a1 a2 a3 a4 a5 a6 a7 a8 a9=>hg (a0,a1,a2,a3,a4,a5,a6,a7,a8,a9))  x.1 x.2.1 x.2.2.1 x.2.2.2.1 x.2.2.2.2.1 x.2.2.2.2.2.1 x.2.2.2.2.2.2.1 x.2.2.2.2.2.2.2.1 x.2.2.2.2.2.2.2.2.1 x.2.2.2.2.2.2.2.2.2
theorem zeH (k r r_1 r_2 r_3 r_4 r_5 r_6 l_2 l_3):zc7 k r r_1 r_2 r_3 r_4 r_5 r_6 l_2 l_3=zbe (zc7) k r r_1 r_2 r_3 r_4 r_5 r_6 l_2 l_3:=zbl (zjm ) (k,r,r_1,r_2,r_3,r_4,r_5,r_6,l_2,l_3)

def zbp (c:Int) (c_1:(List UInt8)) (c_2 c_3 c_4:Int) (c_5:(List UInt8)) (c_6 c_7:Int) (l:Tp9) (l_1:Tp3):Option ((List UInt8)×Int×Int×Int×(List UInt8)×Tp9×Tp3×Int×Int):=
  (zbZ (c_1,(c_2,(c_3,(c_4,(c_5,(l,(l_1,((c_6,(c_7,())),()))))))))).bind (fun y'=>
  if (decide (¬ y'=c))=true then
  (zaU (4:Int) c_1 c_2 c_3 c_4 c_5 c_6 c_7 l l_1).bind (fun y'_11=>
  G (fits (y'_11.2.1+(1:Int))) (
  some (y'_11.1,y'_11.2.1+(1:Int),y'_11.2.2.1,y'_11.2.2.2.1,y'_11.2.2.2.2.1,y'_11.2.2.2.2.2.1,y'_11.2.2.2.2.2.2.1,y'_11.2.2.2.2.2.2.2.1,y'_11.2.2.2.2.2.2.2.2))) else
  G (fits (c_2+(1:Int))) (
  some (c_1,c_2+(1:Int),c_3,c_4,c_5,l,l_1,c_6,c_7)))

def zcT (c_1:(List UInt8)) (c_2 c_3 c_4:Int) (c_5:(List UInt8)) (c_6 c_7:Int) (l:Tp9) (l_1:Tp3):Option (Int×(List UInt8)×Int×Int×Int×(List UInt8)×Tp9×Tp3×Int×Int):=
  (zaU (5:Int) c_1 c_2 c_3 c_4 c_5 c_6 c_7 l l_1).bind (fun y'_10=>
  some ((0:Int),y'_10.1,y'_10.2.1,y'_10.2.2.1,y'_10.2.2.2.1,y'_10.2.2.2.2.1,y'_10.2.2.2.2.2.1,y'_10.2.2.2.2.2.2.1,y'_10.2.2.2.2.2.2.2.1,y'_10.2.2.2.2.2.2.2.2))
def za1 (c:Int) (c_1:(List UInt8)) (c_2 c_3 c_4:Int) (c_5:(List UInt8)) (c_6 c_7:Int) (l:Tp9) (l_1:Tp3) (r2:Int->Option (Int×(List UInt8)×Int×Int×Int×(List UInt8)×Tp9×Tp3×Int×Int)) (k:Int):Option (Int×(List UInt8)×Int×Int×Int×(List UInt8)×Tp9×Tp3×Int×Int):=
  if (decide ((0:Int)<=k))=true then
  G (0<=k/\k < (c_5.length:Int)) (
  if (decide ((bAt c_5 k)=c))=true then
  G (0<=k/\k < (l.length:Int)) (
  G ((k).toNat < l.length) (
  if (ix l k)=true then
  zcT c_1 c_2 c_3 c_4 c_5 c_6 c_7 l l_1 else
  (zaP c_1 c_2 c_3 c_4 c_5 c_6 c_7 l l_1).bind (fun y'_33=>
  (zbD ((88:Int),(k,((0:Int),((0:Int),())))) y'_33.1 y'_33.2.1 y'_33.2.2.1 y'_33.2.2.2.1 y'_33.2.2.2.2.1 y'_33.2.2.2.2.2.2.2.1 y'_33.2.2.2.2.2.2.2.2 y'_33.2.2.2.2.2.1 y'_33.2.2.2.2.2.2.1).bind (fun y'_32=>
  some (y'_32.1,y'_32.2.1,y'_32.2.2.1,y'_32.2.2.2.1,y'_32.2.2.2.2.1,y'_32.2.2.2.2.2.1,y'_32.2.2.2.2.2.2.1,y'_32.2.2.2.2.2.2.2.1,y'_32.2.2.2.2.2.2.2.2.1,y'_32.2.2.2.2.2.2.2.2.2))))) else
  G (fits (k - (1:Int))) (
  r2 (k - (1:Int)))) else
  zcT c_1 c_2 c_3 c_4 c_5 c_6 c_7 l l_1
def zeF (c:Int) (c_1:(List UInt8)) (c_2 c_3 c_4:Int) (c_5:(List UInt8)) (c_6 c_7:Int) (l:Tp9) (l_1:Tp3):(Int->Option (Int×(List UInt8)×Int×Int×Int×(List UInt8)×Tp9×Tp3×Int×Int))->Int->Option (Int×(List UInt8)×Int×Int×Int×(List UInt8)×Tp9×Tp3×Int×Int):=
  fun rec x=>za1 c c_1 c_2 c_3 c_4 c_5 c_6 c_7 l l_1 (fun k=>rec k) x
def zcU (c:Int) (c_1:(List UInt8)) (c_2 c_3 c_4:Int) (c_5:(List UInt8)) (c_6 c_7:Int) (l:Tp9) (l_1:Tp3) (k:Int):Option (Int×(List UInt8)×Int×Int×Int×(List UInt8)×Tp9×Tp3×Int×Int):=LFix (zeF c c_1 c_2 c_3 c_4 c_5 c_6 c_7 l l_1 ) k
def zdA (c:Int) (c_1:(List UInt8)) (c_2 c_3 c_4:Int) (c_5:(List UInt8)) (c_6 c_7:Int) (l:Tp9) (l_1:Tp3):Option (Int×(List UInt8)×Int×Int×Int×(List UInt8)×Tp9×Tp3×Int×Int):=
  G (fits ((c_5.length:Int) - (1:Int))) (
  zcU c c_1 c_2 c_3 c_4 c_5 c_6 c_7 l l_1 ((c_5.length:Int) - (1:Int)))
theorem zg8 (r2:Nat->Int->Option (Int×(List UInt8)×Int×Int×Int×(List UInt8)×Tp9×Tp3×Int×Int)) (r2':Int->Option (Int×(List UInt8)×Int×Int×Int×(List UInt8)×Tp9×Tp3×Int×Int)) (h_r2:∀ a0,ChO (fun κ=>r2 κ a0) (r2' a0)) (c c_1 c_2 c_3 c_4 c_5 c_6 c_7 l l_1 k):ChO (fun κ=>za1 c c_1 c_2 c_3 c_4 c_5 c_6 c_7 l l_1 (r2 κ) k) (za1 c c_1 c_2 c_3 c_4 c_5 c_6 c_7 l l_1 r2' k):=by
  unfold za1
  repeat' with_reducible first | exact ChO.const _ | exact h_r2 _ | apply ChO.ite | apply ChO.G | (apply ChO.bind;intro _)
theorem zil (c c_1 c_2 c_3 c_4 c_5 c_6 c_7 l l_1):Cn (zeF c c_1 c_2 c_3 c_4 c_5 c_6 c_7 l l_1):=fun g h hg x=>zg8  _ _ (fun a=>hg a) c c_1 c_2 c_3 c_4 c_5 c_6 c_7 l l_1 x
theorem zee (c c_1 c_2 c_3 c_4 c_5 c_6 c_7 l l_1 k):zcU c c_1 c_2 c_3 c_4 c_5 c_6 c_7 l l_1 k=za1 c c_1 c_2 c_3 c_4 c_5 c_6 c_7 l l_1 (zcU c c_1 c_2 c_3 c_4 c_5 c_6 c_7 l l_1) k:=zbl (zil c c_1 c_2 c_3 c_4 c_5 c_6 c_7 l l_1) k

def zaS (zab:(List UInt8)->Int->Int->Int->(List UInt8)->Int->Int->Tp9->Tp3->Option (Int×(List UInt8)×Int×Int×Int×(List UInt8)×Tp9×Tp3×Int×Int)) (c y'_10:Int) (r_7:(List UInt8)) (r_8 r_9 r_10:Int) (r_11:(List UInt8)) (r_12 r_13:Int) (l_4:Tp9) (l_5:Tp3):Option (Int×(List UInt8)×Int×Int×Int×(List UInt8)×Tp9×Tp3×Int×Int):=
  (zab r_7 r_8 r_9 r_10 r_11 r_12 r_13 l_4 l_5).bind (fun y'_54=>
  G (fits ((IntKind.wrap .i64 y'_10) - (97:Int))) (
  (zbD (c,((IntKind.wrap .i64 y'_10) - (97:Int),(y'_54.1,((0:Int),())))) y'_54.2.1 y'_54.2.2.1 y'_54.2.2.2.1 y'_54.2.2.2.2.1 y'_54.2.2.2.2.2.1 y'_54.2.2.2.2.2.2.2.2.1 y'_54.2.2.2.2.2.2.2.2.2 y'_54.2.2.2.2.2.2.1 y'_54.2.2.2.2.2.2.2.1).bind (fun y'_53=>
  some (y'_53.1,y'_53.2.1,y'_53.2.2.1,y'_53.2.2.2.1,y'_53.2.2.2.2.1,y'_53.2.2.2.2.2.1,y'_53.2.2.2.2.2.2.1,y'_53.2.2.2.2.2.2.2.1,y'_53.2.2.2.2.2.2.2.2.1,y'_53.2.2.2.2.2.2.2.2.2))))
def zaZ (zab:(List UInt8)->Int->Int->Int->(List UInt8)->Int->Int->Tp9->Tp3->Option (Int×(List UInt8)×Int×Int×Int×(List UInt8)×Tp9×Tp3×Int×Int)) (c y'_10:Int) (r:(List UInt8)) (r_1 r_2 r_3:Int) (r_4:(List UInt8)) (r_5 r_6:Int) (l_2:Tp9) (l_3:Tp3):Option (Int×(List UInt8)×Int×Int×Int×(List UInt8)×Tp9×Tp3×Int×Int):=
  G (fits (r_1+(1:Int))) (
  if (decide (c=(60:Int)))=true then
  (zbp (62:Int) r (r_1+(1:Int)) r_2 r_3 r_4 r_5 r_6 l_2 l_3).bind (fun y'_55=>
  zaS zab c y'_10 y'_55.1 y'_55.2.1 y'_55.2.2.1 y'_55.2.2.2.1 y'_55.2.2.2.2.1 y'_55.2.2.2.2.2.2.2.1 y'_55.2.2.2.2.2.2.2.2 y'_55.2.2.2.2.2.1 y'_55.2.2.2.2.2.2.1) else
  (zbp (93:Int) r (r_1+(1:Int)) r_2 r_3 r_4 r_5 r_6 l_2 l_3).bind (fun y'_66=>
  zaS zab c y'_10 y'_66.1 y'_66.2.1 y'_66.2.2.1 y'_66.2.2.2.1 y'_66.2.2.2.2.1 y'_66.2.2.2.2.2.2.2.1 y'_66.2.2.2.2.2.2.2.2 y'_66.2.2.2.2.2.1 y'_66.2.2.2.2.2.2.1))
def zaM (zab:(List UInt8)->Int->Int->Int->(List UInt8)->Int->Int->Tp9->Tp3->Option (Int×(List UInt8)×Int×Int×Int×(List UInt8)×Tp9×Tp3×Int×Int)) (c:Int) (y':(List UInt8)) (y'_1 y'_2 y'_3:Int) (y'_4:(List UInt8)) (y'_5:Tp9) (y'_6:Tp3) (y'_7 y'_8 y'_10:Int) (t:Bool):Option (Int×(List UInt8)×Int×Int×Int×(List UInt8)×Tp9×Tp3×Int×Int):=
  if t=true then
  (zaU (4:Int) y' y'_1 y'_2 y'_3 y'_4 y'_7 y'_8 y'_5 y'_6).bind (fun y'_67=>
  zaZ zab c y'_10 y'_67.1 y'_67.2.1 y'_67.2.2.1 y'_67.2.2.2.1 y'_67.2.2.2.2.1 y'_67.2.2.2.2.2.2.2.1 y'_67.2.2.2.2.2.2.2.2 y'_67.2.2.2.2.2.1 y'_67.2.2.2.2.2.2.1) else
  zaZ zab c y'_10 y' y'_1 y'_2 y'_3 y'_4 y'_7 y'_8 y'_5 y'_6
def zch (zab:(List UInt8)->Int->Int->Int->(List UInt8)->Int->Int->Tp9->Tp3->Option (Int×(List UInt8)×Int×Int×Int×(List UInt8)×Tp9×Tp3×Int×Int)) (c:Int) (c_1:(List UInt8)) (c_2 c_3 c_4:Int) (c_5:(List UInt8)) (c_6 c_7:Int) (l:Tp9) (l_1:Tp3):Option (Int×(List UInt8)×Int×Int×Int×(List UInt8)×Tp9×Tp3×Int×Int):=
  (zaP c_1 c_2 c_3 c_4 c_5 c_6 c_7 l l_1).bind (fun y'_68=>
  (zbZ (y'_68.1,(y'_68.2.1,(y'_68.2.2.1,(y'_68.2.2.2.1,(y'_68.2.2.2.2.1,(y'_68.2.2.2.2.2.1,(y'_68.2.2.2.2.2.2.1,((y'_68.2.2.2.2.2.2.2.1,(y'_68.2.2.2.2.2.2.2.2,())),()))))))))).bind (fun y'_10=>
  if (decide (y'_10 < (97:Int)))=true then
  zaM zab c y'_68.1 y'_68.2.1 y'_68.2.2.1 y'_68.2.2.2.1 y'_68.2.2.2.2.1 y'_68.2.2.2.2.2.1 y'_68.2.2.2.2.2.2.1 y'_68.2.2.2.2.2.2.2.1 y'_68.2.2.2.2.2.2.2.2 y'_10 true else
  zaM zab c y'_68.1 y'_68.2.1 y'_68.2.2.1 y'_68.2.2.2.1 y'_68.2.2.2.2.1 y'_68.2.2.2.2.2.1 y'_68.2.2.2.2.2.2.1 y'_68.2.2.2.2.2.2.2.1 y'_68.2.2.2.2.2.2.2.2 y'_10 (decide ((100:Int) < y'_10))))
def zaY (zab:(List UInt8)->Int->Int->Int->(List UInt8)->Int->Int->Tp9->Tp3->Option (Int×(List UInt8)×Int×Int×Int×(List UInt8)×Tp9×Tp3×Int×Int)) (c y'_21:Int) (r:(List UInt8)) (r_1 r_2 r_3:Int) (r_4:(List UInt8)) (r_5 r_6:Int) (l_2:Tp9) (l_3:Tp3):Option (Int×(List UInt8)×Int×Int×Int×(List UInt8)×Tp9×Tp3×Int×Int):=
  G (fits (r_1+(1:Int))) (
  (zbp (46:Int) r (r_1+(1:Int)) r_2 r_3 r_4 r_5 r_6 l_2 l_3).bind (fun y'_66=>
  G ((y'_66.2.2.2.2.1.length:Int)+(bstr ([y'_21])).length<=9223372036854775807) (
  G (room y'_66.2.2.2.2.2.1 ([false]) 1) (
  (zab y'_66.1 y'_66.2.1 y'_66.2.2.1 y'_66.2.2.2.1 (y'_66.2.2.2.2.1++(bstr ([y'_21]))) y'_66.2.2.2.2.2.2.2.1 y'_66.2.2.2.2.2.2.2.2 (y'_66.2.2.2.2.2.1++([false])) y'_66.2.2.2.2.2.2.1).bind (fun y'_65=>
  G (0<=(0:Int)/\(0:Int)<=(y'_66.2.2.2.2.1.length:Int)/\(y'_66.2.2.2.2.1.length:Int)<=(y'_65.2.2.2.2.2.1.length:Int)) (
  G (0<=(y'_66.2.2.2.2.1.length:Int)/\(y'_66.2.2.2.2.1.length:Int)<=(y'_65.2.2.2.2.2.2.1.length:Int)) (
  (zbD (c,((y'_66.2.2.2.2.1.length:Int),(y'_65.1,((0:Int),())))) y'_65.2.1 y'_65.2.2.1 y'_65.2.2.2.1 y'_65.2.2.2.2.1 (cut y'_65.2.2.2.2.2.1 (0:Int) (y'_66.2.2.2.2.1.length:Int)) y'_65.2.2.2.2.2.2.2.2.1 y'_65.2.2.2.2.2.2.2.2.2 (y'_65.2.2.2.2.2.2.1.take ((y'_66.2.2.2.2.1.length:Int)).toNat) y'_65.2.2.2.2.2.2.2.1).bind (fun y'_64=>
  some (y'_64.1,y'_64.2.1,y'_64.2.2.1,y'_64.2.2.2.1,y'_64.2.2.2.2.1,y'_64.2.2.2.2.2.1,y'_64.2.2.2.2.2.2.1,y'_64.2.2.2.2.2.2.2.1,y'_64.2.2.2.2.2.2.2.2.1,y'_64.2.2.2.2.2.2.2.2.2)))))))))
def zaQ (zab:(List UInt8)->Int->Int->Int->(List UInt8)->Int->Int->Tp9->Tp3->Option (Int×(List UInt8)×Int×Int×Int×(List UInt8)×Tp9×Tp3×Int×Int)) (c:Int) (y'_11:(List UInt8)) (y'_12 y'_13 y'_14:Int) (y'_15:(List UInt8)) (y'_16:Tp9) (y'_17:Tp3) (y'_18 y'_19 y'_21:Int) (t:Bool):Option (Int×(List UInt8)×Int×Int×Int×(List UInt8)×Tp9×Tp3×Int×Int):=
  if t=true then
  (zaU (4:Int) y'_11 y'_12 y'_13 y'_14 y'_15 y'_18 y'_19 y'_16 y'_17).bind (fun y'_67=>
  zaY zab c y'_21 y'_67.1 y'_67.2.1 y'_67.2.2.1 y'_67.2.2.2.1 y'_67.2.2.2.2.1 y'_67.2.2.2.2.2.2.2.1 y'_67.2.2.2.2.2.2.2.2 y'_67.2.2.2.2.2.1 y'_67.2.2.2.2.2.2.1) else
  zaY zab c y'_21 y'_11 y'_12 y'_13 y'_14 y'_15 y'_18 y'_19 y'_16 y'_17
def zcw (zab:(List UInt8)->Int->Int->Int->(List UInt8)->Int->Int->Tp9->Tp3->Option (Int×(List UInt8)×Int×Int×Int×(List UInt8)×Tp9×Tp3×Int×Int)) (c:Int) (c_1:(List UInt8)) (c_2 c_3 c_4:Int) (c_5:(List UInt8)) (c_6 c_7:Int) (l:Tp9) (l_1:Tp3):Option (Int×(List UInt8)×Int×Int×Int×(List UInt8)×Tp9×Tp3×Int×Int):=
  if (decide ((c_5.length:Int)=(3:Int)))=true then
  (zaU (7:Int) c_1 c_2 c_3 c_4 c_5 c_6 c_7 l l_1).bind (fun y'_10=>
  some ((0:Int),y'_10.1,y'_10.2.1,y'_10.2.2.1,y'_10.2.2.2.1,y'_10.2.2.2.2.1,y'_10.2.2.2.2.2.1,y'_10.2.2.2.2.2.2.1,y'_10.2.2.2.2.2.2.2.1,y'_10.2.2.2.2.2.2.2.2)) else
  (zaP c_1 c_2 c_3 c_4 c_5 c_6 c_7 l l_1).bind (fun y'_68=>
  (zbZ (y'_68.1,(y'_68.2.1,(y'_68.2.2.1,(y'_68.2.2.2.1,(y'_68.2.2.2.2.1,(y'_68.2.2.2.2.2.1,(y'_68.2.2.2.2.2.2.1,((y'_68.2.2.2.2.2.2.2.1,(y'_68.2.2.2.2.2.2.2.2,())),()))))))))).bind (fun y'_21=>
  if (decide (y'_21 < (88:Int)))=true then
  zaQ zab c y'_68.1 y'_68.2.1 y'_68.2.2.1 y'_68.2.2.2.1 y'_68.2.2.2.2.1 y'_68.2.2.2.2.2.1 y'_68.2.2.2.2.2.2.1 y'_68.2.2.2.2.2.2.2.1 y'_68.2.2.2.2.2.2.2.2 y'_21 true else
  zaQ zab c y'_68.1 y'_68.2.1 y'_68.2.2.1 y'_68.2.2.2.1 y'_68.2.2.2.2.1 y'_68.2.2.2.2.2.1 y'_68.2.2.2.2.2.2.1 y'_68.2.2.2.2.2.2.2.1 y'_68.2.2.2.2.2.2.2.2 y'_21 (decide ((90:Int) < y'_21))))
def zbd (zab:(List UInt8)->Int->Int->Int->(List UInt8)->Int->Int->Tp9->Tp3->Option (Int×(List UInt8)×Int×Int×Int×(List UInt8)×Tp9×Tp3×Int×Int)) (r2:Int->(List UInt8)->Int->Int->Int->(List UInt8)->Int->Int->Tp9->Tp3->Option (Int×(List UInt8)×Int×Int×Int×(List UInt8)×Tp9×Tp3×Int×Int)) (a:Int) (r:(List UInt8)) (r_1 r_2 r_3:Int) (r_4:(List UInt8)) (r_5 r_6:Int) (l_2:Tp9) (l_3:Tp3):Option (Int×(List UInt8)×Int×Int×Int×(List UInt8)×Tp9×Tp3×Int×Int):=
  (zbZ (r,(r_1,(r_2,(r_3,(r_4,(l_2,(l_3,((r_5,(r_6,())),()))))))))).bind (fun y'_11=>
  (zd1 (r,(r_1,(r_2,(r_3,(r_4,(l_2,(l_3,((r_5,(r_6,())),()))))))))).bind (fun y'_12=>
  if (!y'_12)=true then
  some (a,r,r_1,r_2,r_3,r_4,l_2,l_3,r_5,r_6) else
  if (decide (¬ y'_11=(38:Int)))=true then
  some (a,r,r_1,r_2,r_3,r_4,l_2,l_3,r_5,r_6) else
  (zaP r r_1 r_2 r_3 r_4 r_5 r_6 l_2 l_3).bind (fun y'_47=>
  (zab y'_47.1 y'_47.2.1 y'_47.2.2.1 y'_47.2.2.2.1 y'_47.2.2.2.2.1 y'_47.2.2.2.2.2.2.2.1 y'_47.2.2.2.2.2.2.2.2 y'_47.2.2.2.2.2.1 y'_47.2.2.2.2.2.2.1).bind (fun y'_46=>
  (zbD ((38:Int),((0:Int),(a,(y'_46.1,())))) y'_46.2.1 y'_46.2.2.1 y'_46.2.2.2.1 y'_46.2.2.2.2.1 y'_46.2.2.2.2.2.1 y'_46.2.2.2.2.2.2.2.2.1 y'_46.2.2.2.2.2.2.2.2.2 y'_46.2.2.2.2.2.2.1 y'_46.2.2.2.2.2.2.2.1).bind (fun y'_45=>
  r2 y'_45.1 y'_45.2.1 y'_45.2.2.1 y'_45.2.2.2.1 y'_45.2.2.2.2.1 y'_45.2.2.2.2.2.1 y'_45.2.2.2.2.2.2.2.2.1 y'_45.2.2.2.2.2.2.2.2.2 y'_45.2.2.2.2.2.2.1 y'_45.2.2.2.2.2.2.2.1)))))
def zfe (zab:(List UInt8)->Int->Int->Int->(List UInt8)->Int->Int->Tp9->Tp3->Option (Int×(List UInt8)×Int×Int×Int×(List UInt8)×Tp9×Tp3×Int×Int)):(Int×(List UInt8)×Int×Int×Int×(List UInt8)×Int×Int×Tp9×Tp3->Option (Int×(List UInt8)×Int×Int×Int×(List UInt8)×Tp9×Tp3×Int×Int))->Int×(List UInt8)×Int×Int×Int×(List UInt8)×Int×Int×Tp9×Tp3->Option (Int×(List UInt8)×Int×Int×Int×(List UInt8)×Tp9×Tp3×Int×Int):=
  fun rec x=>zbd zab (fun a r r_1 r_2 r_3 r_4 r_5 r_6 l_2 l_3=>rec (a,r,r_1,r_2,r_3,r_4,r_5,r_6,l_2,l_3)) x.1 x.2.1 x.2.2.1 x.2.2.2.1 x.2.2.2.2.1 x.2.2.2.2.2.1 x.2.2.2.2.2.2.1 x.2.2.2.2.2.2.2.1 x.2.2.2.2.2.2.2.2.1 x.2.2.2.2.2.2.2.2.2
def zbi (zab:(List UInt8)->Int->Int->Int->(List UInt8)->Int->Int->Tp9->Tp3->Option (Int×(List UInt8)×Int×Int×Int×(List UInt8)×Tp9×Tp3×Int×Int)) (a:Int) (r:(List UInt8)) (r_1 r_2 r_3:Int) (r_4:(List UInt8)) (r_5 r_6:Int) (l_2:Tp9) (l_3:Tp3):Option (Int×(List UInt8)×Int×Int×Int×(List UInt8)×Tp9×Tp3×Int×Int):=LFix (zfe zab ) (a,r,r_1,r_2,r_3,r_4,r_5,r_6,l_2,l_3)
def zbo (zab:(List UInt8)->Int->Int->Int->(List UInt8)->Int->Int->Tp9->Tp3->Option (Int×(List UInt8)×Int×Int×Int×(List UInt8)×Tp9×Tp3×Int×Int)) (c:(List UInt8)) (c_1 c_2 c_3:Int) (c_4:(List UInt8)) (c_5 c_6:Int) (l:Tp9) (l_1:Tp3):Option (Int×(List UInt8)×Int×Int×Int×(List UInt8)×Tp9×Tp3×Int×Int):=
  (zab c c_1 c_2 c_3 c_4 c_5 c_6 l l_1).bind (fun y'_48=>
  zbi zab y'_48.1 y'_48.2.1 y'_48.2.2.1 y'_48.2.2.2.1 y'_48.2.2.2.2.1 y'_48.2.2.2.2.2.1 y'_48.2.2.2.2.2.2.2.2.1 y'_48.2.2.2.2.2.2.2.2.2 y'_48.2.2.2.2.2.2.1 y'_48.2.2.2.2.2.2.2.1)
def za3 (zab:(List UInt8)->Int->Int->Int->(List UInt8)->Int->Int->Tp9->Tp3->Option (Int×(List UInt8)×Int×Int×Int×(List UInt8)×Tp9×Tp3×Int×Int)) (r2:Int->(List UInt8)->Int->Int->Int->(List UInt8)->Int->Int->Tp9->Tp3->Option (Int×(List UInt8)×Int×Int×Int×(List UInt8)×Tp9×Tp3×Int×Int)) (a:Int) (r:(List UInt8)) (r_1 r_2 r_3:Int) (r_4:(List UInt8)) (r_5 r_6:Int) (l_2:Tp9) (l_3:Tp3):Option (Int×(List UInt8)×Int×Int×Int×(List UInt8)×Tp9×Tp3×Int×Int):=
  (zbZ (r,(r_1,(r_2,(r_3,(r_4,(l_2,(l_3,((r_5,(r_6,())),()))))))))).bind (fun y'_11=>
  (zd1 (r,(r_1,(r_2,(r_3,(r_4,(l_2,(l_3,((r_5,(r_6,())),()))))))))).bind (fun y'_12=>
  if (!y'_12)=true then
  some (a,r,r_1,r_2,r_3,r_4,l_2,l_3,r_5,r_6) else
  if (decide (¬ y'_11=(124:Int)))=true then
  some (a,r,r_1,r_2,r_3,r_4,l_2,l_3,r_5,r_6) else
  (zaP r r_1 r_2 r_3 r_4 r_5 r_6 l_2 l_3).bind (fun y'_47=>
  (zbo zab y'_47.1 y'_47.2.1 y'_47.2.2.1 y'_47.2.2.2.1 y'_47.2.2.2.2.1 y'_47.2.2.2.2.2.2.2.1 y'_47.2.2.2.2.2.2.2.2 y'_47.2.2.2.2.2.1 y'_47.2.2.2.2.2.2.1).bind (fun y'_46=>
  (zbD ((124:Int),((0:Int),(a,(y'_46.1,())))) y'_46.2.1 y'_46.2.2.1 y'_46.2.2.2.1 y'_46.2.2.2.2.1 y'_46.2.2.2.2.2.1 y'_46.2.2.2.2.2.2.2.2.1 y'_46.2.2.2.2.2.2.2.2.2 y'_46.2.2.2.2.2.2.1 y'_46.2.2.2.2.2.2.2.1).bind (fun y'_45=>
  r2 y'_45.1 y'_45.2.1 y'_45.2.2.1 y'_45.2.2.2.1 y'_45.2.2.2.2.1 y'_45.2.2.2.2.2.1 y'_45.2.2.2.2.2.2.2.2.1 y'_45.2.2.2.2.2.2.2.2.2 y'_45.2.2.2.2.2.2.1 y'_45.2.2.2.2.2.2.2.1)))))
def zeI (zab:(List UInt8)->Int->Int->Int->(List UInt8)->Int->Int->Tp9->Tp3->Option (Int×(List UInt8)×Int×Int×Int×(List UInt8)×Tp9×Tp3×Int×Int)):(Int×(List UInt8)×Int×Int×Int×(List UInt8)×Int×Int×Tp9×Tp3->Option (Int×(List UInt8)×Int×Int×Int×(List UInt8)×Tp9×Tp3×Int×Int))->Int×(List UInt8)×Int×Int×Int×(List UInt8)×Int×Int×Tp9×Tp3->Option (Int×(List UInt8)×Int×Int×Int×(List UInt8)×Tp9×Tp3×Int×Int):=
  fun rec x=>za3 zab (fun a r r_1 r_2 r_3 r_4 r_5 r_6 l_2 l_3=>rec (a,r,r_1,r_2,r_3,r_4,r_5,r_6,l_2,l_3)) x.1 x.2.1 x.2.2.1 x.2.2.2.1 x.2.2.2.2.1 x.2.2.2.2.2.1 x.2.2.2.2.2.2.1 x.2.2.2.2.2.2.2.1 x.2.2.2.2.2.2.2.2.1 x.2.2.2.2.2.2.2.2.2
def za2 (zab:(List UInt8)->Int->Int->Int->(List UInt8)->Int->Int->Tp9->Tp3->Option (Int×(List UInt8)×Int×Int×Int×(List UInt8)×Tp9×Tp3×Int×Int)) (a:Int) (r:(List UInt8)) (r_1 r_2 r_3:Int) (r_4:(List UInt8)) (r_5 r_6:Int) (l_2:Tp9) (l_3:Tp3):Option (Int×(List UInt8)×Int×Int×Int×(List UInt8)×Tp9×Tp3×Int×Int):=LFix (zeI zab ) (a,r,r_1,r_2,r_3,r_4,r_5,r_6,l_2,l_3)
def za5 (zab:(List UInt8)->Int->Int->Int->(List UInt8)->Int->Int->Tp9->Tp3->Option (Int×(List UInt8)×Int×Int×Int×(List UInt8)×Tp9×Tp3×Int×Int)) (c:(List UInt8)) (c_1 c_2 c_3:Int) (c_4:(List UInt8)) (c_5 c_6:Int) (l:Tp9) (l_1:Tp3):Option (Int×(List UInt8)×Int×Int×Int×(List UInt8)×Tp9×Tp3×Int×Int):=
  (zbo zab c c_1 c_2 c_3 c_4 c_5 c_6 l l_1).bind (fun y'_48=>
  za2 zab y'_48.1 y'_48.2.1 y'_48.2.2.1 y'_48.2.2.2.1 y'_48.2.2.2.2.1 y'_48.2.2.2.2.2.1 y'_48.2.2.2.2.2.2.2.2.1 y'_48.2.2.2.2.2.2.2.2.2 y'_48.2.2.2.2.2.2.1 y'_48.2.2.2.2.2.2.2.1)
def zaD (zab:(List UInt8)->Int->Int->Int->(List UInt8)->Int->Int->Tp9->Tp3->Option (Int×(List UInt8)×Int×Int×Int×(List UInt8)×Tp9×Tp3×Int×Int)) (c:(List UInt8)) (c_1 c_2 c_3:Int) (c_4:(List UInt8)) (c_5 c_6:Int) (l:Tp9) (l_1:Tp3) (y'_1:Int) (t_3:Bool):Option (Int×(List UInt8)×Int×Int×Int×(List UInt8)×Tp9×Tp3×Int×Int):=
  if t_3=true then
  (zdA y'_1 c c_1 c_2 c_3 c_4 c_5 c_6 l l_1).bind (fun y'_117=>
  some (y'_117.1,y'_117.2.1,y'_117.2.2.1,y'_117.2.2.2.1,y'_117.2.2.2.2.1,y'_117.2.2.2.2.2.1,y'_117.2.2.2.2.2.2.1,y'_117.2.2.2.2.2.2.2.1,y'_117.2.2.2.2.2.2.2.2.1,y'_117.2.2.2.2.2.2.2.2.2)) else
  if (decide (¬ y'_1=(40:Int)))=true then
  (zaU (4:Int) c c_1 c_2 c_3 c_4 c_5 c_6 l l_1).bind (fun y'_128=>
  some ((0:Int),y'_128.1,y'_128.2.1,y'_128.2.2.1,y'_128.2.2.2.1,y'_128.2.2.2.2.1,y'_128.2.2.2.2.2.1,y'_128.2.2.2.2.2.2.1,y'_128.2.2.2.2.2.2.2.1,y'_128.2.2.2.2.2.2.2.2)) else
  if (decide (c_2=(40:Int)))=true then
  (zaU (7:Int) c c_1 c_2 c_3 c_4 c_5 c_6 l l_1).bind (fun y'_139=>
  some ((0:Int),y'_139.1,y'_139.2.1,y'_139.2.2.1,y'_139.2.2.2.1,y'_139.2.2.2.2.1,y'_139.2.2.2.2.2.1,y'_139.2.2.2.2.2.2.1,y'_139.2.2.2.2.2.2.2.1,y'_139.2.2.2.2.2.2.2.2)) else
  G (fits (c_2+(1:Int))) (
  G (fits (c_1+(1:Int))) (
  (za5 zab c (c_1+(1:Int)) (c_2+(1:Int)) c_3 c_4 c_5 c_6 l l_1).bind (fun y'_162=>
  (zbp (41:Int) y'_162.2.1 y'_162.2.2.1 y'_162.2.2.2.1 y'_162.2.2.2.2.1 y'_162.2.2.2.2.2.1 y'_162.2.2.2.2.2.2.2.2.1 y'_162.2.2.2.2.2.2.2.2.2 y'_162.2.2.2.2.2.2.1 y'_162.2.2.2.2.2.2.2.1).bind (fun y'_161=>
  G (fits (y'_161.2.2.1 - (1:Int))) (
  some (y'_162.1,y'_161.1,y'_161.2.1,y'_161.2.2.1 - (1:Int),y'_161.2.2.2.1,y'_161.2.2.2.2.1,y'_161.2.2.2.2.2.1,y'_161.2.2.2.2.2.2.1,y'_161.2.2.2.2.2.2.2.1,y'_161.2.2.2.2.2.2.2.2))))))
def zby (zab:(List UInt8)->Int->Int->Int->(List UInt8)->Int->Int->Tp9->Tp3->Option (Int×(List UInt8)×Int×Int×Int×(List UInt8)×Tp9×Tp3×Int×Int)) (c:(List UInt8)) (c_1 c_2 c_3:Int) (c_4:(List UInt8)) (c_5 c_6:Int) (l:Tp9) (l_1:Tp3) (y'_1:Int) (t_2:Bool):Option (Int×(List UInt8)×Int×Int×Int×(List UInt8)×Tp9×Tp3×Int×Int):=
  if t_2=true then
  (zcw zab y'_1 c c_1 c_2 c_3 c_4 c_5 c_6 l l_1).bind (fun y'_105=>
  some (y'_105.1,y'_105.2.1,y'_105.2.2.1,y'_105.2.2.2.1,y'_105.2.2.2.2.1,y'_105.2.2.2.2.2.1,y'_105.2.2.2.2.2.2.1,y'_105.2.2.2.2.2.2.2.1,y'_105.2.2.2.2.2.2.2.2.1,y'_105.2.2.2.2.2.2.2.2.2)) else
  if (decide (y'_1=(88:Int)))=true then
  zaD zab c c_1 c_2 c_3 c_4 c_5 c_6 l l_1 y'_1 (decide (y'_1=(88:Int))) else
  if (decide (y'_1=(89:Int)))=true then
  zaD zab c c_1 c_2 c_3 c_4 c_5 c_6 l l_1 y'_1 (decide (y'_1=(89:Int))) else
  zaD zab c c_1 c_2 c_3 c_4 c_5 c_6 l l_1 y'_1 (decide (y'_1=(90:Int)))
def zbx (zab:(List UInt8)->Int->Int->Int->(List UInt8)->Int->Int->Tp9->Tp3->Option (Int×(List UInt8)×Int×Int×Int×(List UInt8)×Tp9×Tp3×Int×Int)) (c:(List UInt8)) (c_1 c_2 c_3:Int) (c_4:(List UInt8)) (c_5 c_6:Int) (l:Tp9) (l_1:Tp3) (y'_1:Int) (t_1:Bool):Option (Int×(List UInt8)×Int×Int×Int×(List UInt8)×Tp9×Tp3×Int×Int):=
  if t_1=true then
  (zch zab y'_1 c c_1 c_2 c_3 c_4 c_5 c_6 l l_1).bind (fun y'_93=>
  some (y'_93.1,y'_93.2.1,y'_93.2.2.1,y'_93.2.2.2.1,y'_93.2.2.2.2.1,y'_93.2.2.2.2.2.1,y'_93.2.2.2.2.2.2.1,y'_93.2.2.2.2.2.2.2.1,y'_93.2.2.2.2.2.2.2.2.1,y'_93.2.2.2.2.2.2.2.2.2)) else
  if (decide (y'_1=(109:Int)))=true then
  zby zab c c_1 c_2 c_3 c_4 c_5 c_6 l l_1 y'_1 (decide (y'_1=(109:Int))) else
  zby zab c c_1 c_2 c_3 c_4 c_5 c_6 l l_1 y'_1 (decide (y'_1=(110:Int)))
def zbM (zab:(List UInt8)->Int->Int->Int->(List UInt8)->Int->Int->Tp9->Tp3->Option (Int×(List UInt8)×Int×Int×Int×(List UInt8)×Tp9×Tp3×Int×Int)) (c:(List UInt8)) (c_1 c_2 c_3:Int) (c_4:(List UInt8)) (c_5 c_6:Int) (l:Tp9) (l_1:Tp3) (y'_1:Int) (t:Bool):Option (Int×(List UInt8)×Int×Int×Int×(List UInt8)×Tp9×Tp3×Int×Int):=
  if t=true then
  (zaP c c_1 c_2 c_3 c_4 c_5 c_6 l l_1).bind (fun y'_24=>
  (zbD (y'_1,((0:Int),((0:Int),((0:Int),())))) y'_24.1 y'_24.2.1 y'_24.2.2.1 y'_24.2.2.2.1 y'_24.2.2.2.2.1 y'_24.2.2.2.2.2.2.2.1 y'_24.2.2.2.2.2.2.2.2 y'_24.2.2.2.2.2.1 y'_24.2.2.2.2.2.2.1).bind (fun y'_23=>
  some (y'_23.1,y'_23.2.1,y'_23.2.2.1,y'_23.2.2.2.1,y'_23.2.2.2.2.1,y'_23.2.2.2.2.2.1,y'_23.2.2.2.2.2.2.1,y'_23.2.2.2.2.2.2.2.1,y'_23.2.2.2.2.2.2.2.2.1,y'_23.2.2.2.2.2.2.2.2.2))) else
  if (decide (y'_1=(33:Int)))=true then
  (zaP c c_1 c_2 c_3 c_4 c_5 c_6 l l_1).bind (fun y'_81=>
  (zdh y'_81.1 y'_81.2.1 y'_81.2.2.1 y'_81.2.2.2.1 y'_81.2.2.2.2.1 y'_81.2.2.2.2.2.2.2.1 y'_81.2.2.2.2.2.2.2.2 y'_81.2.2.2.2.2.1 y'_81.2.2.2.2.2.2.1).bind (fun y'_80=>
  (zab y'_80.1 y'_80.2.1 y'_80.2.2.1 y'_80.2.2.2.1 y'_80.2.2.2.2.1 y'_80.2.2.2.2.2.2.2.1 y'_80.2.2.2.2.2.2.2.2 y'_80.2.2.2.2.2.1 y'_80.2.2.2.2.2.2.1).bind (fun y'_79=>
  (zdh y'_79.2.1 y'_79.2.2.1 y'_79.2.2.2.1 y'_79.2.2.2.2.1 y'_79.2.2.2.2.2.1 y'_79.2.2.2.2.2.2.2.2.1 y'_79.2.2.2.2.2.2.2.2.2 y'_79.2.2.2.2.2.2.1 y'_79.2.2.2.2.2.2.2.1).bind (fun y'_78=>
  (zbD ((33:Int),((0:Int),(y'_79.1,((0:Int),())))) y'_78.1 y'_78.2.1 y'_78.2.2.1 y'_78.2.2.2.1 y'_78.2.2.2.2.1 y'_78.2.2.2.2.2.2.2.1 y'_78.2.2.2.2.2.2.2.2 y'_78.2.2.2.2.2.1 y'_78.2.2.2.2.2.2.1).bind (fun y'_77=>
  some (y'_77.1,y'_77.2.1,y'_77.2.2.1,y'_77.2.2.2.1,y'_77.2.2.2.2.1,y'_77.2.2.2.2.2.1,y'_77.2.2.2.2.2.2.1,y'_77.2.2.2.2.2.2.2.1,y'_77.2.2.2.2.2.2.2.2.1,y'_77.2.2.2.2.2.2.2.2.2)))))) else
  if (decide (y'_1=(60:Int)))=true then
  zbx zab c c_1 c_2 c_3 c_4 c_5 c_6 l l_1 y'_1 (decide (y'_1=(60:Int))) else
  zbx zab c c_1 c_2 c_3 c_4 c_5 c_6 l l_1 y'_1 (decide (y'_1=(91:Int)))
def zbV (zab:(List UInt8)->Int->Int->Int->(List UInt8)->Int->Int->Tp9->Tp3->Option (Int×(List UInt8)×Int×Int×Int×(List UInt8)×Tp9×Tp3×Int×Int)) (c:(List UInt8)) (c_1 c_2 c_3:Int) (c_4:(List UInt8)) (c_5 c_6:Int) (l:Tp9) (l_1:Tp3):Option (Int×(List UInt8)×Int×Int×Int×(List UInt8)×Tp9×Tp3×Int×Int):=
  (zd1 (c,(c_1,(c_2,(c_3,(c_4,(l,(l_1,((c_5,(c_6,())),()))))))))).bind (fun y'=>
  if (!y')=true then
  some ((0:Int),c,c_1,c_2,c_3,c_4,l,l_1,c_5,c_6) else
  (zbZ (c,(c_1,(c_2,(c_3,(c_4,(l,(l_1,((c_5,(c_6,())),()))))))))).bind (fun y'_1=>
  if (decide (y'_1=(48:Int)))=true then
  zbM zab c c_1 c_2 c_3 c_4 c_5 c_6 l l_1 y'_1 (decide (y'_1=(48:Int))) else
  zbM zab c c_1 c_2 c_3 c_4 c_5 c_6 l l_1 y'_1 (decide (y'_1=(49:Int)))))
theorem zik (zab:Nat->(List UInt8)->Int->Int->Int->(List UInt8)->Int->Int->Tp9->Tp3->Option (Int×(List UInt8)×Int×Int×Int×(List UInt8)×Tp9×Tp3×Int×Int)) (zaf:(List UInt8)->Int->Int->Int->(List UInt8)->Int->Int->Tp9->Tp3->Option (Int×(List UInt8)×Int×Int×Int×(List UInt8)×Tp9×Tp3×Int×Int)) (zag:∀ a0 a1 a2 a3 a4 a5 a6 a7 a8,ChO (fun κ=>zab κ a0 a1 a2 a3 a4 a5 a6 a7 a8) (zaf a0 a1 a2 a3 a4 a5 a6 a7 a8)) (c y'_10 r_7 r_8 r_9 r_10 r_11 r_12 r_13 l_4 l_5):ChO (fun κ=>zaS (zab κ) c y'_10 r_7 r_8 r_9 r_10 r_11 r_12 r_13 l_4 l_5) (zaS zaf c y'_10 r_7 r_8 r_9 r_10 r_11 r_12 r_13 l_4 l_5):=by
  unfold zaS
  repeat' with_reducible first | exact ChO.const _ | exact zag _ _ _ _ _ _ _ _ _ | apply ChO.G | (apply ChO.bind;intro _) | (apply ChO.bind2 (zag _ _ _ _ _ _ _ _ _);intro _) | (refine ChO.bind2 ?_ (fun _ => ?_))
theorem zij (zab:Nat->(List UInt8)->Int->Int->Int->(List UInt8)->Int->Int->Tp9->Tp3->Option (Int×(List UInt8)×Int×Int×Int×(List UInt8)×Tp9×Tp3×Int×Int)) (zaf:(List UInt8)->Int->Int->Int->(List UInt8)->Int->Int->Tp9->Tp3->Option (Int×(List UInt8)×Int×Int×Int×(List UInt8)×Tp9×Tp3×Int×Int)) (zag:∀ a0 a1 a2 a3 a4 a5 a6 a7 a8,ChO (fun κ=>zab κ a0 a1 a2 a3 a4 a5 a6 a7 a8) (zaf a0 a1 a2 a3 a4 a5 a6 a7 a8)) (c y'_10 r r_1 r_2 r_3 r_4 r_5 r_6 l_2 l_3):ChO (fun κ=>zaZ (zab κ) c y'_10 r r_1 r_2 r_3 r_4 r_5 r_6 l_2 l_3) (zaZ zaf c y'_10 r r_1 r_2 r_3 r_4 r_5 r_6 l_2 l_3):=by
  unfold zaZ
  repeat' with_reducible first | exact ChO.const _ | exact zag _ _ _ _ _ _ _ _ _ | (apply zik<;>assumption) | apply ChO.ite | apply ChO.G | (apply ChO.bind;intro _) | (apply ChO.bind2 (zag _ _ _ _ _ _ _ _ _);intro _) | (refine ChO.bind2 ?_ (fun _ => ?_))
theorem zii (zab:Nat->(List UInt8)->Int->Int->Int->(List UInt8)->Int->Int->Tp9->Tp3->Option (Int×(List UInt8)×Int×Int×Int×(List UInt8)×Tp9×Tp3×Int×Int)) (zaf:(List UInt8)->Int->Int->Int->(List UInt8)->Int->Int->Tp9->Tp3->Option (Int×(List UInt8)×Int×Int×Int×(List UInt8)×Tp9×Tp3×Int×Int)) (zag:∀ a0 a1 a2 a3 a4 a5 a6 a7 a8,ChO (fun κ=>zab κ a0 a1 a2 a3 a4 a5 a6 a7 a8) (zaf a0 a1 a2 a3 a4 a5 a6 a7 a8)) (c y' y'_1 y'_2 y'_3 y'_4 y'_5 y'_6 y'_7 y'_8 y'_10 t):ChO (fun κ=>zaM (zab κ) c y' y'_1 y'_2 y'_3 y'_4 y'_5 y'_6 y'_7 y'_8 y'_10 t) (zaM zaf c y' y'_1 y'_2 y'_3 y'_4 y'_5 y'_6 y'_7 y'_8 y'_10 t):=by
  unfold zaM
  repeat' with_reducible first | exact ChO.const _ | exact zag _ _ _ _ _ _ _ _ _ | (apply zij<;>assumption) | apply ChO.ite | (apply ChO.bind;intro _) | (apply ChO.bind2 (zag _ _ _ _ _ _ _ _ _);intro _) | (refine ChO.bind2 ?_ (fun _ => ?_))
theorem zkA (zab:Nat->(List UInt8)->Int->Int->Int->(List UInt8)->Int->Int->Tp9->Tp3->Option (Int×(List UInt8)×Int×Int×Int×(List UInt8)×Tp9×Tp3×Int×Int)) (zaf:(List UInt8)->Int->Int->Int->(List UInt8)->Int->Int->Tp9->Tp3->Option (Int×(List UInt8)×Int×Int×Int×(List UInt8)×Tp9×Tp3×Int×Int)) (zag:∀ a0 a1 a2 a3 a4 a5 a6 a7 a8,ChO (fun κ=>zab κ a0 a1 a2 a3 a4 a5 a6 a7 a8) (zaf a0 a1 a2 a3 a4 a5 a6 a7 a8)) (c c_1 c_2 c_3 c_4 c_5 c_6 c_7 l l_1):ChO (fun κ=>zch (zab κ) c c_1 c_2 c_3 c_4 c_5 c_6 c_7 l l_1) (zch zaf c c_1 c_2 c_3 c_4 c_5 c_6 c_7 l l_1):=by
  unfold zch
  repeat' with_reducible first | exact ChO.const _ | exact zag _ _ _ _ _ _ _ _ _ | (apply zii<;>assumption) | apply ChO.ite | (apply ChO.bind;intro _) | (apply ChO.bind2 (zag _ _ _ _ _ _ _ _ _);intro _) | (refine ChO.bind2 ?_ (fun _ => ?_))
theorem zjj (zab:Nat->(List UInt8)->Int->Int->Int->(List UInt8)->Int->Int->Tp9->Tp3->Option (Int×(List UInt8)×Int×Int×Int×(List UInt8)×Tp9×Tp3×Int×Int)) (zaf:(List UInt8)->Int->Int->Int->(List UInt8)->Int->Int->Tp9->Tp3->Option (Int×(List UInt8)×Int×Int×Int×(List UInt8)×Tp9×Tp3×Int×Int)) (zag:∀ a0 a1 a2 a3 a4 a5 a6 a7 a8,ChO (fun κ=>zab κ a0 a1 a2 a3 a4 a5 a6 a7 a8) (zaf a0 a1 a2 a3 a4 a5 a6 a7 a8)) (c y'_21 r r_1 r_2 r_3 r_4 r_5 r_6 l_2 l_3):ChO (fun κ=>zaY (zab κ) c y'_21 r r_1 r_2 r_3 r_4 r_5 r_6 l_2 l_3) (zaY zaf c y'_21 r r_1 r_2 r_3 r_4 r_5 r_6 l_2 l_3):=by
  unfold zaY
  repeat' with_reducible first | exact ChO.const _ | exact zag _ _ _ _ _ _ _ _ _ | apply ChO.G | (apply ChO.bind;intro _) | (apply ChO.bind2 (zag _ _ _ _ _ _ _ _ _);intro _) | (refine ChO.bind2 ?_ (fun _ => ?_))
theorem zji (zab:Nat->(List UInt8)->Int->Int->Int->(List UInt8)->Int->Int->Tp9->Tp3->Option (Int×(List UInt8)×Int×Int×Int×(List UInt8)×Tp9×Tp3×Int×Int)) (zaf:(List UInt8)->Int->Int->Int->(List UInt8)->Int->Int->Tp9->Tp3->Option (Int×(List UInt8)×Int×Int×Int×(List UInt8)×Tp9×Tp3×Int×Int)) (zag:∀ a0 a1 a2 a3 a4 a5 a6 a7 a8,ChO (fun κ=>zab κ a0 a1 a2 a3 a4 a5 a6 a7 a8) (zaf a0 a1 a2 a3 a4 a5 a6 a7 a8)) (c y'_11 y'_12 y'_13 y'_14 y'_15 y'_16 y'_17 y'_18 y'_19 y'_21 t):ChO (fun κ=>zaQ (zab κ) c y'_11 y'_12 y'_13 y'_14 y'_15 y'_16 y'_17 y'_18 y'_19 y'_21 t) (zaQ zaf c y'_11 y'_12 y'_13 y'_14 y'_15 y'_16 y'_17 y'_18 y'_19 y'_21 t):=by
  unfold zaQ
  repeat' with_reducible first | exact ChO.const _ | exact zag _ _ _ _ _ _ _ _ _ | (apply zjj<;>assumption) | apply ChO.ite | (apply ChO.bind;intro _) | (apply ChO.bind2 (zag _ _ _ _ _ _ _ _ _);intro _) | (refine ChO.bind2 ?_ (fun _ => ?_))
theorem zlB (zab:Nat->(List UInt8)->Int->Int->Int->(List UInt8)->Int->Int->Tp9->Tp3->Option (Int×(List UInt8)×Int×Int×Int×(List UInt8)×Tp9×Tp3×Int×Int)) (zaf:(List UInt8)->Int->Int->Int->(List UInt8)->Int->Int->Tp9->Tp3->Option (Int×(List UInt8)×Int×Int×Int×(List UInt8)×Tp9×Tp3×Int×Int)) (zag:∀ a0 a1 a2 a3 a4 a5 a6 a7 a8,ChO (fun κ=>zab κ a0 a1 a2 a3 a4 a5 a6 a7 a8) (zaf a0 a1 a2 a3 a4 a5 a6 a7 a8)) (c c_1 c_2 c_3 c_4 c_5 c_6 c_7 l l_1):ChO (fun κ=>zcw (zab κ) c c_1 c_2 c_3 c_4 c_5 c_6 c_7 l l_1) (zcw zaf c c_1 c_2 c_3 c_4 c_5 c_6 c_7 l l_1):=by
  unfold zcw
  repeat' with_reducible first | exact ChO.const _ | exact zag _ _ _ _ _ _ _ _ _ | (apply zji<;>assumption) | apply ChO.ite | (apply ChO.bind;intro _) | (apply ChO.bind2 (zag _ _ _ _ _ _ _ _ _);intro _) | (refine ChO.bind2 ?_ (fun _ => ?_))
theorem zd2 (zab:Nat->(List UInt8)->Int->Int->Int->(List UInt8)->Int->Int->Tp9->Tp3->Option (Int×(List UInt8)×Int×Int×Int×(List UInt8)×Tp9×Tp3×Int×Int)) (zaf:(List UInt8)->Int->Int->Int->(List UInt8)->Int->Int->Tp9->Tp3->Option (Int×(List UInt8)×Int×Int×Int×(List UInt8)×Tp9×Tp3×Int×Int)) (zag:∀ a0 a1 a2 a3 a4 a5 a6 a7 a8,ChO (fun κ=>zab κ a0 a1 a2 a3 a4 a5 a6 a7 a8) (zaf a0 a1 a2 a3 a4 a5 a6 a7 a8)) (r2:Nat->Int->(List UInt8)->Int->Int->Int->(List UInt8)->Int->Int->Tp9->Tp3->Option (Int×(List UInt8)×Int×Int×Int×(List UInt8)×Tp9×Tp3×Int×Int)) (r2':Int->(List UInt8)->Int->Int->Int->(List UInt8)->Int->Int->Tp9->Tp3->Option (Int×(List UInt8)×Int×Int×Int×(List UInt8)×Tp9×Tp3×Int×Int)) (h_r2:∀ a0 a1 a2 a3 a4 a5 a6 a7 a8 a9,ChO (fun κ=>r2 κ a0 a1 a2 a3 a4 a5 a6 a7 a8 a9) (r2' a0 a1 a2 a3 a4 a5 a6 a7 a8 a9)) (a r r_1 r_2 r_3 r_4 r_5 r_6 l_2 l_3):ChO (fun κ=>zbd (zab κ) (r2 κ) a r r_1 r_2 r_3 r_4 r_5 r_6 l_2 l_3) (zbd zaf r2' a r r_1 r_2 r_3 r_4 r_5 r_6 l_2 l_3):=by
  unfold zbd
  repeat' with_reducible first | exact ChO.const _ | exact zag _ _ _ _ _ _ _ _ _ | exact h_r2 _ _ _ _ _ _ _ _ _ _ | apply ChO.ite | (apply ChO.bind;intro _) | (apply ChO.bind2 (zag _ _ _ _ _ _ _ _ _);intro _) | (refine ChO.bind2 ?_ (fun _ => ?_))
theorem zdg (zab):Cn (zfe zab):=fun g h hg x=>zd2 (fun _=>zab) zab (fun _ _ _ _ _ _ _ _ _=>ChO.const _) _ _ (fun a0 a1 a2 a3 a4 a5 a6 a7 a8 a9=>hg (a0,a1,a2,a3,a4,a5,a6,a7,a8,a9))  x.1 x.2.1 x.2.2.1 x.2.2.2.1 x.2.2.2.2.1 x.2.2.2.2.2.1 x.2.2.2.2.2.2.1 x.2.2.2.2.2.2.2.1 x.2.2.2.2.2.2.2.2.1 x.2.2.2.2.2.2.2.2.2
theorem zeG (zab a r r_1 r_2 r_3 r_4 r_5 r_6 l_2 l_3):zbi zab a r r_1 r_2 r_3 r_4 r_5 r_6 l_2 l_3=zbd zab (zbi zab) a r r_1 r_2 r_3 r_4 r_5 r_6 l_2 l_3:=zbl (zdg zab) (a,r,r_1,r_2,r_3,r_4,r_5,r_6,l_2,l_3)
theorem zjl (zab:Nat->(List UInt8)->Int->Int->Int->(List UInt8)->Int->Int->Tp9->Tp3->Option (Int×(List UInt8)×Int×Int×Int×(List UInt8)×Tp9×Tp3×Int×Int)) (zaf:(List UInt8)->Int->Int->Int->(List UInt8)->Int->Int->Tp9->Tp3->Option (Int×(List UInt8)×Int×Int×Int×(List UInt8)×Tp9×Tp3×Int×Int)) (zag:∀ a0 a1 a2 a3 a4 a5 a6 a7 a8,ChO (fun κ=>zab κ a0 a1 a2 a3 a4 a5 a6 a7 a8) (zaf a0 a1 a2 a3 a4 a5 a6 a7 a8)) (a r r_1 r_2 r_3 r_4 r_5 r_6 l_2 l_3):ChO (fun κ=>zbi (zab κ) a r r_1 r_2 r_3 r_4 r_5 r_6 l_2 l_3) (zbi zaf a r r_1 r_2 r_3 r_4 r_5 r_6 l_2 l_3):=by
  unfold zbi
  exact ziu (fun κ=>(zdg (zab κ) ).mono) (zdg zaf ).mono (fun g h hg x=>zd2 zab zaf zag _ _ (fun a0 a1 a2 a3 a4 a5 a6 a7 a8 a9=>hg (a0,a1,a2,a3,a4,a5,a6,a7,a8,a9))  x.1 x.2.1 x.2.2.1 x.2.2.2.1 x.2.2.2.2.1 x.2.2.2.2.2.1 x.2.2.2.2.2.2.1 x.2.2.2.2.2.2.2.1 x.2.2.2.2.2.2.2.2.1 x.2.2.2.2.2.2.2.2.2) _
theorem zgz (zab:Nat->(List UInt8)->Int->Int->Int->(List UInt8)->Int->Int->Tp9->Tp3->Option (Int×(List UInt8)×Int×Int×Int×(List UInt8)×Tp9×Tp3×Int×Int)) (zaf:(List UInt8)->Int->Int->Int->(List UInt8)->Int->Int->Tp9->Tp3->Option (Int×(List UInt8)×Int×Int×Int×(List UInt8)×Tp9×Tp3×Int×Int)) (zag:∀ a0 a1 a2 a3 a4 a5 a6 a7 a8,ChO (fun κ=>zab κ a0 a1 a2 a3 a4 a5 a6 a7 a8) (zaf a0 a1 a2 a3 a4 a5 a6 a7 a8)) (c c_1 c_2 c_3 c_4 c_5 c_6 l l_1):ChO (fun κ=>zbo (zab κ) c c_1 c_2 c_3 c_4 c_5 c_6 l l_1) (zbo zaf c c_1 c_2 c_3 c_4 c_5 c_6 l l_1):=by
  unfold zbo
  repeat' with_reducible first | exact ChO.const _ | exact zag _ _ _ _ _ _ _ _ _ | (apply zjl<;>assumption) | (apply ChO.bind;intro _) | (apply ChO.bind2 (zag _ _ _ _ _ _ _ _ _);intro _) | (refine ChO.bind2 ?_ (fun _ => ?_))
theorem zdP (zab:Nat->(List UInt8)->Int->Int->Int->(List UInt8)->Int->Int->Tp9->Tp3->Option (Int×(List UInt8)×Int×Int×Int×(List UInt8)×Tp9×Tp3×Int×Int)) (zaf:(List UInt8)->Int->Int->Int->(List UInt8)->Int->Int->Tp9->Tp3->Option (Int×(List UInt8)×Int×Int×Int×(List UInt8)×Tp9×Tp3×Int×Int)) (zag:∀ a0 a1 a2 a3 a4 a5 a6 a7 a8,ChO (fun κ=>zab κ a0 a1 a2 a3 a4 a5 a6 a7 a8) (zaf a0 a1 a2 a3 a4 a5 a6 a7 a8)) (r2:Nat->Int->(List UInt8)->Int->Int->Int->(List UInt8)->Int->Int->Tp9->Tp3->Option (Int×(List UInt8)×Int×Int×Int×(List UInt8)×Tp9×Tp3×Int×Int)) (r2':Int->(List UInt8)->Int->Int->Int->(List UInt8)->Int->Int->Tp9->Tp3->Option (Int×(List UInt8)×Int×Int×Int×(List UInt8)×Tp9×Tp3×Int×Int)) (h_r2:∀ a0 a1 a2 a3 a4 a5 a6 a7 a8 a9,ChO (fun κ=>r2 κ a0 a1 a2 a3 a4 a5 a6 a7 a8 a9) (r2' a0 a1 a2 a3 a4 a5 a6 a7 a8 a9)) (a r r_1 r_2 r_3 r_4 r_5 r_6 l_2 l_3):ChO (fun κ=>za3 (zab κ) (r2 κ) a r r_1 r_2 r_3 r_4 r_5 r_6 l_2 l_3) (za3 zaf r2' a r r_1 r_2 r_3 r_4 r_5 r_6 l_2 l_3):=by
  unfold za3
  repeat' with_reducible first | exact ChO.const _ | exact zag _ _ _ _ _ _ _ _ _ | exact h_r2 _ _ _ _ _ _ _ _ _ _ | (apply zgz<;>assumption) | apply ChO.ite | (apply ChO.bind;intro _) | (apply ChO.bind2 (zag _ _ _ _ _ _ _ _ _);intro _) | (refine ChO.bind2 ?_ (fun _ => ?_))
theorem zc3 (zab):Cn (zeI zab):=fun g h hg x=>zdP (fun _=>zab) zab (fun _ _ _ _ _ _ _ _ _=>ChO.const _) _ _ (fun a0 a1 a2 a3 a4 a5 a6 a7 a8 a9=>hg (a0,a1,a2,a3,a4,a5,a6,a7,a8,a9))  x.1 x.2.1 x.2.2.1 x.2.2.2.1 x.2.2.2.2.1 x.2.2.2.2.2.1 x.2.2.2.2.2.2.1 x.2.2.2.2.2.2.2.1 x.2.2.2.2.2.2.2.2.1 x.2.2.2.2.2.2.2.2.2
theorem zef (zab a r r_1 r_2 r_3 r_4 r_5 r_6 l_2 l_3):za2 zab a r r_1 r_2 r_3 r_4 r_5 r_6 l_2 l_3=za3 zab (za2 zab) a r r_1 r_2 r_3 r_4 r_5 r_6 l_2 l_3:=zbl (zc3 zab) (a,r,r_1,r_2,r_3,r_4,r_5,r_6,l_2,l_3)
theorem ziq (zab:Nat->(List UInt8)->Int->Int->Int->(List UInt8)->Int->Int->Tp9->Tp3->Option (Int×(List UInt8)×Int×Int×Int×(List UInt8)×Tp9×Tp3×Int×Int)) (zaf:(List UInt8)->Int->Int->Int->(List UInt8)->Int->Int->Tp9->Tp3->Option (Int×(List UInt8)×Int×Int×Int×(List UInt8)×Tp9×Tp3×Int×Int)) (zag:∀ a0 a1 a2 a3 a4 a5 a6 a7 a8,ChO (fun κ=>zab κ a0 a1 a2 a3 a4 a5 a6 a7 a8) (zaf a0 a1 a2 a3 a4 a5 a6 a7 a8)) (a r r_1 r_2 r_3 r_4 r_5 r_6 l_2 l_3):ChO (fun κ=>za2 (zab κ) a r r_1 r_2 r_3 r_4 r_5 r_6 l_2 l_3) (za2 zaf a r r_1 r_2 r_3 r_4 r_5 r_6 l_2 l_3):=by
  unfold za2
  exact ziu (fun κ=>(zc3 (zab κ) ).mono) (zc3 zaf ).mono (fun g h hg x=>zdP zab zaf zag _ _ (fun a0 a1 a2 a3 a4 a5 a6 a7 a8 a9=>hg (a0,a1,a2,a3,a4,a5,a6,a7,a8,a9))  x.1 x.2.1 x.2.2.1 x.2.2.2.1 x.2.2.2.2.1 x.2.2.2.2.2.1 x.2.2.2.2.2.2.1 x.2.2.2.2.2.2.2.1 x.2.2.2.2.2.2.2.2.1 x.2.2.2.2.2.2.2.2.2) _
theorem zkD (zab:Nat->(List UInt8)->Int->Int->Int->(List UInt8)->Int->Int->Tp9->Tp3->Option (Int×(List UInt8)×Int×Int×Int×(List UInt8)×Tp9×Tp3×Int×Int)) (zaf:(List UInt8)->Int->Int->Int->(List UInt8)->Int->Int->Tp9->Tp3->Option (Int×(List UInt8)×Int×Int×Int×(List UInt8)×Tp9×Tp3×Int×Int)) (zag:∀ a0 a1 a2 a3 a4 a5 a6 a7 a8,ChO (fun κ=>zab κ a0 a1 a2 a3 a4 a5 a6 a7 a8) (zaf a0 a1 a2 a3 a4 a5 a6 a7 a8)) (c c_1 c_2 c_3 c_4 c_5 c_6 l l_1):ChO (fun κ=>za5 (zab κ) c c_1 c_2 c_3 c_4 c_5 c_6 l l_1) (za5 zaf c c_1 c_2 c_3 c_4 c_5 c_6 l l_1):=by
  unfold za5
  repeat' with_reducible first | exact ChO.const _ | exact zag _ _ _ _ _ _ _ _ _ | (apply zgz<;>assumption) | (apply ziq<;>assumption) | (apply ChO.bind;intro _) | (apply ChO.bind2 (zag _ _ _ _ _ _ _ _ _);intro _) | (refine ChO.bind2 ?_ (fun _ => ?_))
theorem zio (zab:Nat->(List UInt8)->Int->Int->Int->(List UInt8)->Int->Int->Tp9->Tp3->Option (Int×(List UInt8)×Int×Int×Int×(List UInt8)×Tp9×Tp3×Int×Int)) (zaf:(List UInt8)->Int->Int->Int->(List UInt8)->Int->Int->Tp9->Tp3->Option (Int×(List UInt8)×Int×Int×Int×(List UInt8)×Tp9×Tp3×Int×Int)) (zag:∀ a0 a1 a2 a3 a4 a5 a6 a7 a8,ChO (fun κ=>zab κ a0 a1 a2 a3 a4 a5 a6 a7 a8) (zaf a0 a1 a2 a3 a4 a5 a6 a7 a8)) (c c_1 c_2 c_3 c_4 c_5 c_6 l l_1 y'_1 t_3):ChO (fun κ=>zaD (zab κ) c c_1 c_2 c_3 c_4 c_5 c_6 l l_1 y'_1 t_3) (zaD zaf c c_1 c_2 c_3 c_4 c_5 c_6 l l_1 y'_1 t_3):=by
  unfold zaD
  repeat' with_reducible first | exact ChO.const _ | exact zag _ _ _ _ _ _ _ _ _ | (apply zkD<;>assumption) | apply ChO.ite | apply ChO.G | (apply ChO.bind;intro _) | (apply ChO.bind2 (zag _ _ _ _ _ _ _ _ _);intro _) | (refine ChO.bind2 ?_ (fun _ => ?_))
theorem zin (zab:Nat->(List UInt8)->Int->Int->Int->(List UInt8)->Int->Int->Tp9->Tp3->Option (Int×(List UInt8)×Int×Int×Int×(List UInt8)×Tp9×Tp3×Int×Int)) (zaf:(List UInt8)->Int->Int->Int->(List UInt8)->Int->Int->Tp9->Tp3->Option (Int×(List UInt8)×Int×Int×Int×(List UInt8)×Tp9×Tp3×Int×Int)) (zag:∀ a0 a1 a2 a3 a4 a5 a6 a7 a8,ChO (fun κ=>zab κ a0 a1 a2 a3 a4 a5 a6 a7 a8) (zaf a0 a1 a2 a3 a4 a5 a6 a7 a8)) (c c_1 c_2 c_3 c_4 c_5 c_6 l l_1 y'_1 t_2):ChO (fun κ=>zby (zab κ) c c_1 c_2 c_3 c_4 c_5 c_6 l l_1 y'_1 t_2) (zby zaf c c_1 c_2 c_3 c_4 c_5 c_6 l l_1 y'_1 t_2):=by
  unfold zby
  repeat' with_reducible first | exact ChO.const _ | exact zag _ _ _ _ _ _ _ _ _ | (apply zlB<;>assumption) | (apply zio<;>assumption) | apply ChO.ite | (apply ChO.bind;intro _) | (apply ChO.bind2 (zag _ _ _ _ _ _ _ _ _);intro _) | (refine ChO.bind2 ?_ (fun _ => ?_))
theorem zim (zab:Nat->(List UInt8)->Int->Int->Int->(List UInt8)->Int->Int->Tp9->Tp3->Option (Int×(List UInt8)×Int×Int×Int×(List UInt8)×Tp9×Tp3×Int×Int)) (zaf:(List UInt8)->Int->Int->Int->(List UInt8)->Int->Int->Tp9->Tp3->Option (Int×(List UInt8)×Int×Int×Int×(List UInt8)×Tp9×Tp3×Int×Int)) (zag:∀ a0 a1 a2 a3 a4 a5 a6 a7 a8,ChO (fun κ=>zab κ a0 a1 a2 a3 a4 a5 a6 a7 a8) (zaf a0 a1 a2 a3 a4 a5 a6 a7 a8)) (c c_1 c_2 c_3 c_4 c_5 c_6 l l_1 y'_1 t_1):ChO (fun κ=>zbx (zab κ) c c_1 c_2 c_3 c_4 c_5 c_6 l l_1 y'_1 t_1) (zbx zaf c c_1 c_2 c_3 c_4 c_5 c_6 l l_1 y'_1 t_1):=by
  unfold zbx
  repeat' with_reducible first | exact ChO.const _ | exact zag _ _ _ _ _ _ _ _ _ | (apply zkA<;>assumption) | (apply zin<;>assumption) | apply ChO.ite | (apply ChO.bind;intro _) | (apply ChO.bind2 (zag _ _ _ _ _ _ _ _ _);intro _) | (refine ChO.bind2 ?_ (fun _ => ?_))
theorem zjk (zab:Nat->(List UInt8)->Int->Int->Int->(List UInt8)->Int->Int->Tp9->Tp3->Option (Int×(List UInt8)×Int×Int×Int×(List UInt8)×Tp9×Tp3×Int×Int)) (zaf:(List UInt8)->Int->Int->Int->(List UInt8)->Int->Int->Tp9->Tp3->Option (Int×(List UInt8)×Int×Int×Int×(List UInt8)×Tp9×Tp3×Int×Int)) (zag:∀ a0 a1 a2 a3 a4 a5 a6 a7 a8,ChO (fun κ=>zab κ a0 a1 a2 a3 a4 a5 a6 a7 a8) (zaf a0 a1 a2 a3 a4 a5 a6 a7 a8)) (c c_1 c_2 c_3 c_4 c_5 c_6 l l_1 y'_1 t):ChO (fun κ=>zbM (zab κ) c c_1 c_2 c_3 c_4 c_5 c_6 l l_1 y'_1 t) (zbM zaf c c_1 c_2 c_3 c_4 c_5 c_6 l l_1 y'_1 t):=by
  unfold zbM
  repeat' with_reducible first | exact ChO.const _ | exact zag _ _ _ _ _ _ _ _ _ | (apply zim<;>assumption) | apply ChO.ite | (apply ChO.bind;intro _) | (apply ChO.bind2 (zag _ _ _ _ _ _ _ _ _);intro _) | (refine ChO.bind2 ?_ (fun _ => ?_))
theorem zj6 (zab:Nat->(List UInt8)->Int->Int->Int->(List UInt8)->Int->Int->Tp9->Tp3->Option (Int×(List UInt8)×Int×Int×Int×(List UInt8)×Tp9×Tp3×Int×Int)) (zaf:(List UInt8)->Int->Int->Int->(List UInt8)->Int->Int->Tp9->Tp3->Option (Int×(List UInt8)×Int×Int×Int×(List UInt8)×Tp9×Tp3×Int×Int)) (zag:∀ a0 a1 a2 a3 a4 a5 a6 a7 a8,ChO (fun κ=>zab κ a0 a1 a2 a3 a4 a5 a6 a7 a8) (zaf a0 a1 a2 a3 a4 a5 a6 a7 a8)) (c c_1 c_2 c_3 c_4 c_5 c_6 l l_1):ChO (fun κ=>zbV (zab κ) c c_1 c_2 c_3 c_4 c_5 c_6 l l_1) (zbV zaf c c_1 c_2 c_3 c_4 c_5 c_6 l l_1):=by
  unfold zbV
  repeat' with_reducible first | exact ChO.const _ | exact zag _ _ _ _ _ _ _ _ _ | (apply zjk<;>assumption) | apply ChO.ite | (apply ChO.bind;intro _) | (apply ChO.bind2 (zag _ _ _ _ _ _ _ _ _);intro _) | (refine ChO.bind2 ?_ (fun _ => ?_))
def zcN:((List UInt8)×Int×Int×Int×(List UInt8)×Int×Int×Tp9×Tp3->Option (Int×(List UInt8)×Int×Int×Int×(List UInt8)×Tp9×Tp3×Int×Int))->(List UInt8)×Int×Int×Int×(List UInt8)×Int×Int×Tp9×Tp3->Option (Int×(List UInt8)×Int×Int×Int×(List UInt8)×Tp9×Tp3×Int×Int):=
  fun rec X=>zbV (fun c c_1 c_2 c_3 c_4 c_5 c_6 l l_1=>rec (c,c_1,c_2,c_3,c_4,c_5,c_6,l,l_1)) X.1 X.2.1 X.2.2.1 X.2.2.2.1 X.2.2.2.2.1 X.2.2.2.2.2.1 X.2.2.2.2.2.2.1 X.2.2.2.2.2.2.2.1 X.2.2.2.2.2.2.2.2
def zal (c:(List UInt8)) (c_1 c_2 c_3:Int) (c_4:(List UInt8)) (c_5 c_6:Int) (l:Tp9) (l_1:Tp3):Option (Int×(List UInt8)×Int×Int×Int×(List UInt8)×Tp9×Tp3×Int×Int):=LFix zcN (c,c_1,c_2,c_3,c_4,c_5,c_6,l,l_1)
theorem zlE:Cn zcN:=fun g h hg X=>zj6 _ _ (fun c c_1 c_2 c_3 c_4 c_5 c_6 l l_1=>hg (c,c_1,c_2,c_3,c_4,c_5,c_6,l,l_1)) X.1 X.2.1 X.2.2.1 X.2.2.2.1 X.2.2.2.2.1 X.2.2.2.2.2.1 X.2.2.2.2.2.2.1 X.2.2.2.2.2.2.2.1 X.2.2.2.2.2.2.2.2
theorem zgv (c c_1 c_2 c_3 c_4 c_5 c_6 l l_1):zal c c_1 c_2 c_3 c_4 c_5 c_6 l l_1=zbV zal c c_1 c_2 c_3 c_4 c_5 c_6 l l_1:=zbl zlE (c,c_1,c_2,c_3,c_4,c_5,c_6,l,l_1)
def zgB (c:(List UInt8)) (c_1 c_2 c_3:Int) (c_4:(List UInt8)) (c_5 c_6:Int) (l:Tp9) (l_1:Tp3):Option (Int×(List UInt8)×Int×Int×Int×(List UInt8)×Tp9×Tp3×Int×Int):=za5 zal c c_1 c_2 c_3 c_4 c_5 c_6 l l_1

def zjh (text:(List UInt8)):Option (Int×(Int×Int×Unit)×Tp3):=
  if (decide ((4000:Int) < (text.length:Int)))=true then
  some ((0:Int),((1:Int),((0:Int),())),[]) else
  (zgB text (0:Int) (0:Int) (0:Int) ([]) (0:Int) (0:Int) ([]:List Bool) ([]:List Tp5)).bind (fun y'_22=>
  if (decide (y'_22.2.2.1 < (text.length:Int)))=true then
  (zaU (4:Int) y'_22.2.1 y'_22.2.2.1 y'_22.2.2.2.1 y'_22.2.2.2.2.1 y'_22.2.2.2.2.2.1 y'_22.2.2.2.2.2.2.2.2.1 y'_22.2.2.2.2.2.2.2.2.2 y'_22.2.2.2.2.2.2.1 y'_22.2.2.2.2.2.2.2.1).bind (fun y'_21=>
  if (decide (¬ y'_21.2.2.2.2.2.2.2.1=(0:Int)))=true then
  some ((0:Int),(y'_21.2.2.2.2.2.2.2.1,(y'_21.2.2.2.2.2.2.2.2,())),[]) else
  some (y'_22.1,((0:Int),((0:Int),())),y'_21.2.2.2.2.2.2.1)) else
  if (decide (¬ y'_22.2.2.2.2.2.2.2.2.1=(0:Int)))=true then
  some ((0:Int),(y'_22.2.2.2.2.2.2.2.2.1,(y'_22.2.2.2.2.2.2.2.2.2,())),[]) else
  some (y'_22.1,((0:Int),((0:Int),())),y'_22.2.2.2.2.2.2.2.1))

def zcm (a b:Tp9) (r4:Int->Option (Bool)) (i:Int):Option (Bool):=
  if (decide (i < (a.length:Int)))=true then
  G (0<=i/\i < (a.length:Int)) (
  G (0<=i/\i < (b.length:Int)) (
  if (decide (¬ (ix a i)=(ix b i)))=true then
  some false else
  G (fits (i+(1:Int))) (
  r4 (i+(1:Int))))) else
  some true
def zke (a b:Tp9):(Int->Option (Bool))->Int->Option (Bool):=
  fun rec x=>zcm a b (fun i=>rec i) x
def zjd (a b:Tp9) (i:Int):Option (Bool):=LFix (zke a b ) i
def zjc (a b:Tp9):Option (Bool):=
  if (decide (¬ (a.length:Int)=(b.length:Int)))=true then
  some false else
  zjd a b (0:Int)
theorem zmc (r4:Nat->Int->Option (Bool)) (r4':Int->Option (Bool)) (h_r4:∀ a0,ChO (fun κ=>r4 κ a0) (r4' a0)) (a b i):ChO (fun κ=>zcm a b (r4 κ) i) (zcm a b r4' i):=by
  unfold zcm
  repeat' with_reducible first | exact ChO.const _ | exact h_r4 _ | apply ChO.ite | apply ChO.G
theorem zog (a b):Cn (zke a b):=fun g h hg x=>zmc  _ _ (fun a=>hg a) a b x
theorem zfR (a b i):zjd a b i=zcm a b (zjd a b) i:=zbl (zog a b) i

def zcF (g':Tp2) (r8:Int->Tp9->Option Tp9) (p:Int) (out:Tp9):Option Tp9:=
  if (decide (p < g'.2.1))=true then
  G (0<=p/\p < (out.length:Int)) (
  G ((p).toNat < out.length) (
  G (fits (p+(1:Int))) (
  r8 (p+(1:Int)) (out.set (p).toNat true)))) else
  some out
def zkg (g':Tp2):(Int×Tp9->Option Tp9)->Int×Tp9->Option Tp9:=
  fun rec x=>zcF g' (fun p out=>rec (p,out)) x.1 x.2
def zju (g':Tp2) (p:Int) (out:Tp9):Option Tp9:=LFix (zkg g' ) (p,out)
def zcO (zai:Tf1) (g':Tp2) (l:Tp3) (k:Int) (sets:Tp8) (r21:Tp9->Option Tp9) (out_2:Tp9):Option Tp9:=
  G (room ([]:List Tp9) sets 24) (
  G (room (([]:List Tp9)++sets) ([out_2]) 24) (
  (zai (g'.1,(g'.2.1,(g'.2.2.1,()))) l ((((ix l k).2).2).1) ((([]:List Tp9)++sets)++([out_2]))).bind (fun y'=>
  (zjc y' out_2).bind (fun y'_1=>
  if y'_1=true then
  some out_2 else
  r21 y'))))
def zjp (zai:Tf1) (g':Tp2) (l:Tp3) (k:Int) (sets:Tp8):(List Bool->Option Tp9)->List Bool->Option Tp9:=
  fun rec x=>zcO zai g' l k sets (fun out_2=>rec out_2) x
def za6 (zai:Tf1) (g':Tp2) (l:Tp3) (k:Int) (sets:Tp8) (out_2:Tp9):Option Tp9:=LFix (zjp zai g' l k sets ) out_2
def zcx (zai:Tf1) (g':Tp2) (l:Tp3) (k:Int) (sets:Tp8) (r18:Int->Tp9->Option Tp9) (p_1:Int) (out_1:Tp9):Option Tp9:=
  if (decide (p_1 < g'.2.1))=true then
  G (0<=p_1/\p_1 < (out_1.length:Int)) (
  G ((p_1).toNat < out_1.length) (
  G (fits (p_1+(1:Int))) (
  r18 (p_1+(1:Int)) (out_1.set (p_1).toNat (decide (((ix l k).1)=(110:Int))))))) else
  za6 zai g' l k sets out_1
def zjo (zai:Tf1) (g':Tp2) (l:Tp3) (k:Int) (sets:Tp8):(Int×Tp9->Option Tp9)->Int×Tp9->Option Tp9:=
  fun rec x=>zcx zai g' l k sets (fun p_1 out_1=>rec (p_1,out_1)) x.1 x.2
def zdn (zai:Tf1) (g':Tp2) (l:Tp3) (k:Int) (sets:Tp8) (p_1:Int) (out_1:Tp9):Option Tp9:=LFix (zjo zai g' l k sets ) (p_1,out_1)
def zcy (g':Tp2) (y'_2:Tp9) (r31:Int->Tp9->Option Tp9) (p_2:Int) (out_3:Tp9):Option Tp9:=
  if (decide (p_2 < g'.2.1))=true then
  G (0<=p_2/\p_2 < (y'_2.length:Int)) (
  G (0<=p_2/\p_2 < (out_3.length:Int)) (
  G ((p_2).toNat < out_3.length) (
  G (fits (p_2+(1:Int))) (
  r31 (p_2+(1:Int)) (out_3.set (p_2).toNat (!(ix y'_2 p_2))))))) else
  some out_3
def zjq (g':Tp2) (y'_2:Tp9):(Int×Tp9->Option Tp9)->Int×Tp9->Option Tp9:=
  fun rec x=>zcy g' y'_2 (fun p_2 out_3=>rec (p_2,out_3)) x.1 x.2
def zhE (g':Tp2) (y'_2:Tp9) (p_2:Int) (out_3:Tp9):Option Tp9:=LFix (zjq g' y'_2 ) (p_2,out_3)
def zdj (l:Tp3) (k:Int) (y'_2 y'_3:Tp9) (p_3:Int) (r38:(Int->Tp9->Option Tp9)) (out_5:Tp9):Option Tp9:=
  if (decide (((ix l k).1)=(124:Int)))=true then
  G (0<=p_3/\p_3 < (y'_2.length:Int)) (
  if (ix y'_2 p_3)=true then
  G (0<=p_3/\p_3 < (out_5.length:Int)) (
  G ((p_3).toNat < out_5.length) (
  G (fits (p_3+(1:Int))) (
  r38 (p_3+(1:Int)) (out_5.set (p_3).toNat true)))) else
  G (0<=p_3/\p_3 < (y'_3.length:Int)) (
  G (0<=p_3/\p_3 < (out_5.length:Int)) (
  G ((p_3).toNat < out_5.length) (
  G (fits (p_3+(1:Int))) (
  r38 (p_3+(1:Int)) (out_5.set (p_3).toNat (ix y'_3 p_3))))))) else
  G (fits (p_3+(1:Int))) (
  r38 (p_3+(1:Int)) out_5)
def zcz (g':Tp2) (l:Tp3) (k:Int) (y'_2 y'_3:Tp9) (r38:Int->Tp9->Option Tp9) (p_3:Int) (out_4:Tp9):Option Tp9:=
  if (decide (p_3 < g'.2.1))=true then
  G (0<=p_3/\p_3 < (y'_2.length:Int)) (
  if (ix y'_2 p_3)=true then
  G (0<=p_3/\p_3 < (y'_3.length:Int)) (
  G (0<=p_3/\p_3 < (out_4.length:Int)) (
  G ((p_3).toNat < out_4.length) (
  zdj l k y'_2 y'_3 p_3 r38 (out_4.set (p_3).toNat (ix y'_3 p_3))))) else
  G (0<=p_3/\p_3 < (out_4.length:Int)) (
  G ((p_3).toNat < out_4.length) (
  zdj l k y'_2 y'_3 p_3 r38 (out_4.set (p_3).toNat false)))) else
  some out_4
def zjr (g':Tp2) (l:Tp3) (k:Int) (y'_2 y'_3:Tp9):(Int×Tp9->Option Tp9)->Int×Tp9->Option Tp9:=
  fun rec x=>zcz g' l k y'_2 y'_3 (fun p_3 out_4=>rec (p_3,out_4)) x.1 x.2
def zhF (g':Tp2) (l:Tp3) (k:Int) (y'_2 y'_3:Tp9) (p_3:Int) (out_4:Tp9):Option Tp9:=LFix (zjr g' l k y'_2 y'_3 ) (p_3,out_4)
def zdm (g':Tp2) (i:Int) (r49:(Int->Tp9->Option Tp9)) (out_8:Tp9) (t_3:Bool):Option Tp9:=
  if t_3=true then
  G (0<=(ix g'.2.2.1 i).1/\(ix g'.2.2.1 i).1 < (out_8.length:Int)) (
  G (((ix g'.2.2.1 i).1).toNat < out_8.length) (
  G (fits (i+(1:Int))) (
  r49 (i+(1:Int)) (out_8.set ((ix g'.2.2.1 i).1).toNat false)))) else
  G (fits (i+(1:Int))) (
  r49 (i+(1:Int)) out_8)
def zdl (g':Tp2) (l:Tp3) (k:Int) (y'_2:Tp9) (i:Int) (r49:(Int->Tp9->Option Tp9)) (out_8:Tp9):Option Tp9:=
  if (decide (((ix l k).1)=(91:Int)))=true then
  G (0<=(((ix g'.2.2.1 i).2).2).1/\(((ix g'.2.2.1 i).2).2).1 < (y'_2.length:Int)) (
  zdm g' i r49 out_8 (!(ix y'_2 ((((ix g'.2.2.1 i).2).2).1)))) else
  zdm g' i r49 out_8 false
def zdk (g':Tp2) (l:Tp3) (k:Int) (y'_2:Tp9) (i:Int) (out_7:Tp9) (r49:(Int->Tp9->Option Tp9)) (t_2:Bool):Option Tp9:=
  if t_2=true then
  G (0<=(ix g'.2.2.1 i).1/\(ix g'.2.2.1 i).1 < (out_7.length:Int)) (
  G (((ix g'.2.2.1 i).1).toNat < out_7.length) (
  zdl g' l k y'_2 i r49 (out_7.set ((ix g'.2.2.1 i).1).toNat true))) else
  zdl g' l k y'_2 i r49 out_7
def zcB (g':Tp2) (l:Tp3) (k:Int) (y'_2:Tp9) (r49:Int->Tp9->Option Tp9) (i:Int) (out_7:Tp9):Option Tp9:=
  if (decide (i < (g'.2.2.1.length:Int)))=true then
  G (0<=i/\i < (g'.2.2.1.length:Int)) (
  if (decide (¬ (((ix g'.2.2.1 i).2).1)=(((ix l k).2).1)))=true then
  G (fits (i+(1:Int))) (
  r49 (i+(1:Int)) out_7) else
  if (decide (((ix l k).1)=(60:Int)))=true then
  G (0<=(((ix g'.2.2.1 i).2).2).1/\(((ix g'.2.2.1 i).2).2).1 < (y'_2.length:Int)) (
  zdk g' l k y'_2 i out_7 r49 (ix y'_2 ((((ix g'.2.2.1 i).2).2).1))) else
  zdk g' l k y'_2 i out_7 r49 false) else
  some out_7
def zjt (g':Tp2) (l:Tp3) (k:Int) (y'_2:Tp9):(Int×Tp9->Option Tp9)->Int×Tp9->Option Tp9:=
  fun rec x=>zcB g' l k y'_2 (fun i out_7=>rec (i,out_7)) x.1 x.2
def zfo (g':Tp2) (l:Tp3) (k:Int) (y'_2:Tp9) (i:Int) (out_7:Tp9):Option Tp9:=LFix (zjt g' l k y'_2 ) (i,out_7)
def zcA (g':Tp2) (l:Tp3) (k:Int) (y'_2:Tp9) (r45:Int->Tp9->Option Tp9) (p_4:Int) (out_6:Tp9):Option Tp9:=
  if (decide (p_4 < g'.2.1))=true then
  G (0<=p_4/\p_4 < (out_6.length:Int)) (
  G ((p_4).toNat < out_6.length) (
  G (fits (p_4+(1:Int))) (
  r45 (p_4+(1:Int)) (out_6.set (p_4).toNat (decide (((ix l k).1)=(91:Int))))))) else
  zfo g' l k y'_2 (0:Int) out_6
def zjs (g':Tp2) (l:Tp3) (k:Int) (y'_2:Tp9):(Int×Tp9->Option Tp9)->Int×Tp9->Option Tp9:=
  fun rec x=>zcA g' l k y'_2 (fun p_4 out_6=>rec (p_4,out_6)) x.1 x.2
def zhG (g':Tp2) (l:Tp3) (k:Int) (y'_2:Tp9) (p_4:Int) (out_6:Tp9):Option Tp9:=LFix (zjs g' l k y'_2 ) (p_4,out_6)
def zcC (zai:Tf1) (g':Tp2) (l:Tp3) (k:Int) (sets:Tp8) (y'_2:Tp9) (t_1:Bool):Option Tp9:=
  if t_1=true then
  (zai (g'.1,(g'.2.1,(g'.2.2.1,()))) l (((((ix l k).2).2).2).1) sets).bind (fun y'_3=>
  zhF g' l k y'_2 y'_3 (0:Int) (List.replicate (g'.2.1).toNat (false:Bool))) else
  zhG g' l k y'_2 (0:Int) (List.replicate (g'.2.1).toNat (false:Bool))
def zb0 (zai:Tf1) (g':Tp2) (l:Tp3) (k:Int) (sets:Tp8) (t:Bool):Option Tp9:=
  if t=true then
  zdn zai g' l k sets (0:Int) (List.replicate (g'.2.1).toNat (false:Bool)) else
  (zai (g'.1,(g'.2.1,(g'.2.2.1,()))) l ((((ix l k).2).2).1) sets).bind (fun y'_2=>
  if (decide (((ix l k).1)=(33:Int)))=true then
  zhE g' y'_2 (0:Int) (List.replicate (g'.2.1).toNat (false:Bool)) else
  if (decide (((ix l k).1)=(38:Int)))=true then
  zcC zai g' l k sets y'_2 true else
  zcC zai g' l k sets y'_2 (decide (((ix l k).1)=(124:Int))))
def zcV (zai:Tf1) (g':Tp2) (l:Tp3) (k:Int) (sets:Tp8):Option Tp9:=
  G (0<=k/\k < (l.length:Int)) (
  G (mkOK g'.2.1 g'.2.1 1) (
  if (decide (((ix l k).1)=(48:Int)))=true then
  some (List.replicate (g'.2.1).toNat (false:Bool)) else
  if (decide (((ix l k).1)=(49:Int)))=true then
  zju g' (0:Int) (List.replicate (g'.2.1).toNat (false:Bool)) else
  if (decide (((ix l k).1)=(88:Int)))=true then
  G (0<=((ix l k).2).1/\((ix l k).2).1 < (sets.length:Int)) (
  some ((ix sets (((ix l k).2).1)).take (List.replicate (g'.2.1).toNat (false:Bool)).length++(List.replicate (g'.2.1).toNat (false:Bool)).drop (ix sets (((ix l k).2).1)).length)) else
  if (decide (((ix l k).1)=(109:Int)))=true then
  zb0 zai g' l k sets (decide (((ix l k).1)=(109:Int))) else
  zb0 zai g' l k sets (decide (((ix l k).1)=(110:Int)))))
theorem zme (r8:Nat->Int->Tp9->Option Tp9) (r8':Int->Tp9->Option Tp9) (h_r8:∀ a0 a1,ChO (fun κ=>r8 κ a0 a1) (r8' a0 a1)) (g' p out):ChO (fun κ=>zcF g' (r8 κ) p out) (zcF g' r8' p out):=by
  unfold zcF
  repeat' with_reducible first | exact ChO.const _ | exact h_r8 _ _ | apply ChO.ite | apply ChO.G
theorem zoi (g'):Cn (zkg g'):=fun g h hg x=>zme  _ _ (fun a0 a1=>hg (a0,a1)) g' x.1 x.2
theorem zjv (g' p out):zju g' p out=zcF g' (zju g') p out:=zbl (zoi g') (p,out)
theorem zgD (zai:Nat->Tf1) (zaw:Tf1) (zaJ:∀ a0 a1 a2 a3,ChO (fun κ=>zai κ a0 a1 a2 a3) (zaw a0 a1 a2 a3)) (r21:Nat->Tp9->Option Tp9) (r21':Tp9->Option Tp9) (h_r21:∀ a0,ChO (fun κ=>r21 κ a0) (r21' a0)) (g' l k sets out_2):ChO (fun κ=>zcO (zai κ) g' l k sets (r21 κ) out_2) (zcO zaw g' l k sets r21' out_2):=by
  unfold zcO
  repeat' with_reducible first | exact ChO.const _ | exact zaJ _ _ _ _ | exact h_r21 _ | apply ChO.ite | apply ChO.G | (apply ChO.bind;intro _) | (apply ChO.bind2 (zaJ _ _ _ _);intro _)
theorem zeT (zai g' l k sets):Cn (zjp zai g' l k sets):=fun g h hg x=>zgD (fun _=>zai) zai (fun _ _ _ _=>ChO.const _) _ _ (fun a=>hg a) g' l k sets x
theorem zm5 (zai g' l k sets out_2):za6 zai g' l k sets out_2=zcO zai g' l k sets (za6 zai g' l k sets) out_2:=zbl (zeT zai g' l k sets) out_2
theorem zm4 (zai:Nat->Tf1) (zaw:Tf1) (zaJ:∀ a0 a1 a2 a3,ChO (fun κ=>zai κ a0 a1 a2 a3) (zaw a0 a1 a2 a3)) (g' l k sets out_2):ChO (fun κ=>za6 (zai κ) g' l k sets out_2) (za6 zaw g' l k sets out_2):=by
  unfold za6
  exact ziu (fun κ=>(zeT (zai κ) g' l k sets).mono) (zeT zaw g' l k sets).mono (fun g h hg x=>zgD zai zaw zaJ _ _ (fun a=>hg a) g' l k sets x) _
theorem zgC (zai:Nat->Tf1) (zaw:Tf1) (zaJ:∀ a0 a1 a2 a3,ChO (fun κ=>zai κ a0 a1 a2 a3) (zaw a0 a1 a2 a3)) (r18:Nat->Int->Tp9->Option Tp9) (r18':Int->Tp9->Option Tp9) (h_r18:∀ a0 a1,ChO (fun κ=>r18 κ a0 a1) (r18' a0 a1)) (g' l k sets p_1 out_1):ChO (fun κ=>zcx (zai κ) g' l k sets (r18 κ) p_1 out_1) (zcx zaw g' l k sets r18' p_1 out_1):=by
  unfold zcx
  repeat' with_reducible first | exact ChO.const _ | exact zaJ _ _ _ _ | exact h_r18 _ _ | (apply zm4<;>assumption) | apply ChO.ite | apply ChO.G
theorem zeS (zai g' l k sets):Cn (zjo zai g' l k sets):=fun g h hg x=>zgC (fun _=>zai) zai (fun _ _ _ _=>ChO.const _) _ _ (fun a0 a1=>hg (a0,a1)) g' l k sets x.1 x.2
theorem zhP (zai g' l k sets p_1 out_1):zdn zai g' l k sets p_1 out_1=zcx zai g' l k sets (zdn zai g' l k sets) p_1 out_1:=zbl (zeS zai g' l k sets) (p_1,out_1)
theorem zm3 (zai:Nat->Tf1) (zaw:Tf1) (zaJ:∀ a0 a1 a2 a3,ChO (fun κ=>zai κ a0 a1 a2 a3) (zaw a0 a1 a2 a3)) (g' l k sets p_1 out_1):ChO (fun κ=>zdn (zai κ) g' l k sets p_1 out_1) (zdn zaw g' l k sets p_1 out_1):=by
  unfold zdn
  exact ziu (fun κ=>(zeS (zai κ) g' l k sets).mono) (zeS zaw g' l k sets).mono (fun g h hg x=>zgC zai zaw zaJ _ _ (fun a0 a1=>hg (a0,a1)) g' l k sets x.1 x.2) _
theorem zlI (r31:Nat->Int->Tp9->Option Tp9) (r31':Int->Tp9->Option Tp9) (h_r31:∀ a0 a1,ChO (fun κ=>r31 κ a0 a1) (r31' a0 a1)) (g' y'_2 p_2 out_3):ChO (fun κ=>zcy g' y'_2 (r31 κ) p_2 out_3) (zcy g' y'_2 r31' p_2 out_3):=by
  unfold zcy
  repeat' with_reducible first | exact ChO.const _ | exact h_r31 _ _ | apply ChO.ite | apply ChO.G
theorem zm6 (g' y'_2):Cn (zjq g' y'_2):=fun g h hg x=>zlI  _ _ (fun a0 a1=>hg (a0,a1)) g' y'_2 x.1 x.2
theorem zhQ (g' y'_2 p_2 out_3):zhE g' y'_2 p_2 out_3=zcy g' y'_2 (zhE g' y'_2) p_2 out_3:=zbl (zm6 g' y'_2) (p_2,out_3)
theorem zmZ (r38:Nat->Int->Tp9->Option Tp9) (r38':Int->Tp9->Option Tp9) (h_r38:∀ a0 a1,ChO (fun κ=>r38 κ a0 a1) (r38' a0 a1)) (l k y'_2 y'_3 p_3 out_5):ChO (fun κ=>zdj l k y'_2 y'_3 p_3 (r38 κ) out_5) (zdj l k y'_2 y'_3 p_3 r38' out_5):=by
  unfold zdj
  repeat' with_reducible first | exact ChO.const _ | exact h_r38 _ _ | apply ChO.ite | apply ChO.G
theorem zlJ (r38:Nat->Int->Tp9->Option Tp9) (r38':Int->Tp9->Option Tp9) (h_r38:∀ a0 a1,ChO (fun κ=>r38 κ a0 a1) (r38' a0 a1)) (g' l k y'_2 y'_3 p_3 out_4):ChO (fun κ=>zcz g' l k y'_2 y'_3 (r38 κ) p_3 out_4) (zcz g' l k y'_2 y'_3 r38' p_3 out_4):=by
  unfold zcz
  repeat' with_reducible first | exact ChO.const _ | exact h_r38 _ _ | (apply zmZ<;>assumption) | apply ChO.ite | apply ChO.G
theorem zm7 (g' l k y'_2 y'_3):Cn (zjr g' l k y'_2 y'_3):=fun g h hg x=>zlJ  _ _ (fun a0 a1=>hg (a0,a1)) g' l k y'_2 y'_3 x.1 x.2
theorem zhR (g' l k y'_2 y'_3 p_3 out_4):zhF g' l k y'_2 y'_3 p_3 out_4=zcz g' l k y'_2 y'_3 (zhF g' l k y'_2 y'_3) p_3 out_4:=zbl (zm7 g' l k y'_2 y'_3) (p_3,out_4)
theorem zm2 (r49:Nat->Int->Tp9->Option Tp9) (r49':Int->Tp9->Option Tp9) (h_r49:∀ a0 a1,ChO (fun κ=>r49 κ a0 a1) (r49' a0 a1)) (g' i out_8 t_3):ChO (fun κ=>zdm g' i (r49 κ) out_8 t_3) (zdm g' i r49' out_8 t_3):=by
  unfold zdm
  repeat' with_reducible first | exact ChO.const _ | exact h_r49 _ _ | apply ChO.ite | apply ChO.G
theorem zm1 (r49:Nat->Int->Tp9->Option Tp9) (r49':Int->Tp9->Option Tp9) (h_r49:∀ a0 a1,ChO (fun κ=>r49 κ a0 a1) (r49' a0 a1)) (g' l k y'_2 i out_8):ChO (fun κ=>zdl g' l k y'_2 i (r49 κ) out_8) (zdl g' l k y'_2 i r49' out_8):=by
  unfold zdl
  repeat' with_reducible first | exact ChO.const _ | exact h_r49 _ _ | (apply zm2<;>assumption) | apply ChO.ite | apply ChO.G
theorem zm0 (r49:Nat->Int->Tp9->Option Tp9) (r49':Int->Tp9->Option Tp9) (h_r49:∀ a0 a1,ChO (fun κ=>r49 κ a0 a1) (r49' a0 a1)) (g' l k y'_2 i out_7 t_2):ChO (fun κ=>zdk g' l k y'_2 i out_7 (r49 κ) t_2) (zdk g' l k y'_2 i out_7 r49' t_2):=by
  unfold zdk
  repeat' with_reducible first | exact ChO.const _ | exact h_r49 _ _ | (apply zm1<;>assumption) | apply ChO.ite | apply ChO.G
theorem zlL (r49:Nat->Int->Tp9->Option Tp9) (r49':Int->Tp9->Option Tp9) (h_r49:∀ a0 a1,ChO (fun κ=>r49 κ a0 a1) (r49' a0 a1)) (g' l k y'_2 i out_7):ChO (fun κ=>zcB g' l k y'_2 (r49 κ) i out_7) (zcB g' l k y'_2 r49' i out_7):=by
  unfold zcB
  repeat' with_reducible first | exact ChO.const _ | exact h_r49 _ _ | (apply zm0<;>assumption) | apply ChO.ite | apply ChO.G
theorem zm9 (g' l k y'_2):Cn (zjt g' l k y'_2):=fun g h hg x=>zlL  _ _ (fun a0 a1=>hg (a0,a1)) g' l k y'_2 x.1 x.2
theorem zhT (g' l k y'_2 i out_7):zfo g' l k y'_2 i out_7=zcB g' l k y'_2 (zfo g' l k y'_2) i out_7:=zbl (zm9 g' l k y'_2) (i,out_7)
theorem zlK (r45:Nat->Int->Tp9->Option Tp9) (r45':Int->Tp9->Option Tp9) (h_r45:∀ a0 a1,ChO (fun κ=>r45 κ a0 a1) (r45' a0 a1)) (g' l k y'_2 p_4 out_6):ChO (fun κ=>zcA g' l k y'_2 (r45 κ) p_4 out_6) (zcA g' l k y'_2 r45' p_4 out_6):=by
  unfold zcA
  repeat' with_reducible first | exact ChO.const _ | exact h_r45 _ _ | apply ChO.ite | apply ChO.G
theorem zm8 (g' l k y'_2):Cn (zjs g' l k y'_2):=fun g h hg x=>zlK  _ _ (fun a0 a1=>hg (a0,a1)) g' l k y'_2 x.1 x.2
theorem zhS (g' l k y'_2 p_4 out_6):zhG g' l k y'_2 p_4 out_6=zcA g' l k y'_2 (zhG g' l k y'_2) p_4 out_6:=zbl (zm8 g' l k y'_2) (p_4,out_6)
theorem zmY (zai:Nat->Tf1) (zaw:Tf1) (zaJ:∀ a0 a1 a2 a3,ChO (fun κ=>zai κ a0 a1 a2 a3) (zaw a0 a1 a2 a3)) (g' l k sets y'_2 t_1):ChO (fun κ=>zcC (zai κ) g' l k sets y'_2 t_1) (zcC zaw g' l k sets y'_2 t_1):=by
  unfold zcC
  repeat' with_reducible first | exact ChO.const _ | exact zaJ _ _ _ _ | apply ChO.ite | (apply ChO.bind;intro _) | (apply ChO.bind2 (zaJ _ _ _ _);intro _)
theorem zmX (zai:Nat->Tf1) (zaw:Tf1) (zaJ:∀ a0 a1 a2 a3,ChO (fun κ=>zai κ a0 a1 a2 a3) (zaw a0 a1 a2 a3)) (g' l k sets t):ChO (fun κ=>zb0 (zai κ) g' l k sets t) (zb0 zaw g' l k sets t):=by
  unfold zb0
  repeat' with_reducible first | exact ChO.const _ | exact zaJ _ _ _ _ | (apply zm3<;>assumption) | (apply zmY<;>assumption) | apply ChO.ite | (apply ChO.bind;intro _) | (apply ChO.bind2 (zaJ _ _ _ _);intro _)
theorem zoM (zai:Nat->Tf1) (zaw:Tf1) (zaJ:∀ a0 a1 a2 a3,ChO (fun κ=>zai κ a0 a1 a2 a3) (zaw a0 a1 a2 a3)) (g' l k sets):ChO (fun κ=>zcV (zai κ) g' l k sets) (zcV zaw g' l k sets):=by
  unfold zcV
  repeat' with_reducible first | exact ChO.const _ | exact zaJ _ _ _ _ | (apply zmX<;>assumption) | apply ChO.ite | apply ChO.G
def zhD:(Tp2×Tp3×Int×Tp8->Option Tp9)->Tp2×Tp3×Int×Tp8->Option Tp9:=
  fun rec X=>zcV (fun g' l k sets=>rec (g',l,k,sets)) X.1 X.2.1 X.2.2.1 X.2.2.2
def zaL (g':Tp2) (l:Tp3) (k:Int) (sets:Tp8):Option Tp9:=LFix zhD (g',l,k,sets)
theorem zq2:Cn zhD:=fun g h hg X=>zoM _ _ (fun g' l k sets=>hg (g',l,k,sets)) X.1 X.2.1 X.2.2.1 X.2.2.2
theorem zgE (g' l k sets):zaL g' l k sets=zcV zaL g' l k sets:=zbl zq2 (g',l,k,sets)

def zcM (g':Tp2) (y':Int) (y'_1:Tp9) (y'_4:Int) (y'_6:Tp3) (no:Int):Option (Bool):=
  if (decide (¬ no=(0:Int)))=true then
  if (decide (y'=no))=true then
  some (decide ((y'_1.length:Int)=(0:Int))) else
  some false else
  (zaL (g'.1,(g'.2.1,(g'.2.2.1,()))) y'_6 y'_4 ([])).bind (fun y'_8=>
  (zjc y'_1 y'_8).bind (fun y'_9=>
  if (decide (y'=(0:Int)))=true then
  some y'_9 else
  some false))
def zcL (g':Tp2) (y':Int) (y'_1:Tp9) (y'_3 y'_4:Int) (y'_6:Tp3) (t:Bool):Option (Bool):=
  if t=true then
  zcM g' y' y'_1 y'_4 y'_6 (4:Int) else
  zcM g' y' y'_1 y'_4 y'_6 y'_3
def zi3 (g':Tp2) (text:(List UInt8)):Option (Bool):=
  (znV (g'.1,(g'.2.1,(g'.2.2.1,()))) text).bind (fun y'_11=>
  (zlv (g'.1,(g'.2.1,(g'.2.2.1,())))).bind (fun y'_3=>
  (zjh text).bind (fun y'_10=>
  if (decide (y'_3=(0:Int)))=true then
  zcL g' y'_11.1 y'_11.2 y'_3 y'_10.1 y'_10.2.2 (decide (¬ y'_10.2.1.1=(0:Int))) else
  zcL g' y'_11.1 y'_11.2 y'_3 y'_10.1 y'_10.2.2 false)))

end
end Go.Proofs.Ytiiljakjbifdjaa.fixHoldsW
