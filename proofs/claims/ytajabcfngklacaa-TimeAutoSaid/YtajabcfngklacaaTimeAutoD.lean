import Derived.Test.YtajabcfngklacaaEv40n21
set_option maxHeartbeats 1000000
set_option maxRecDepth 20000
set_option linter.unusedVariables false
namespace Go.Proofs.Ytajabcfngklacaa.timeAutoW
open Go Go.Ab
noncomputable section
abbrev Tp12:=(List Int)
abbrev Tp11:=(List Bool)
abbrev Tp10:=(List Tp11)
abbrev Tp9:=(Int×Int×Int×Unit)
abbrev Tp8:=(List Tp9)
abbrev Tp7:=(Tp12×Tp12×Unit)
abbrev Tp6:=(Int×Tp8)
abbrev Tp5:=(Bool×Tp8)
abbrev Tp4:=(Int×Bool×Tp8)
abbrev Tp3:=(Tp8×Tp12×Unit)
abbrev Tp2:=(Int×Int×Tp12×Tp8×Tp12×Unit)
abbrev Tp1:=(Tp2×Int)
abbrev Tf1:=Int->Int->Int->Bool->Bool->Tp8->Option Tp8
abbrev Tf2:=Int->Int->Int->Tp12->Tp8->Tp12->Option Tp1
abbrev Tf3:=Int->Int->Int->Tp12->Tp12->Tp8->Option Tp1
abbrev Tf4:=Int->Int->Int->Bool->Bool->Option Tp12
abbrev Tf5:=Int->Int->Int->Tp12->Tp12->Option Tp1
abbrev Tf6:=Bool->Int->Tp11->Tp11->Option (Bool)
abbrev Tf7:=Int->Tp8->Tp12->Tp12->Option Tp1
abbrev Tf8:=Int->Int->Int->Tp8->Option Tp8
abbrev Tf9:=Bool->Tp11->Tp11->Option (Bool)
abbrev Tf10:=Int->Tp11->Tp11->Option (Bool)
abbrev Tf11:=Bool->Int->Tp11->Option (Bool)
abbrev Tf12:=Int->Int->Tp11->Option Tp11
abbrev Tf13:=Int->Int->Tp12->Option Tp12
def zcQ (a:((List UInt8)×Int×Int×Int×Int×Tp8×Unit)):Option (Int):=
  if (decide (a.2.1=(a.1.length:Int)))=true then
  some (0:Int) else
  G (0<=a.2.1/\a.2.1 < (a.1.length:Int)) (
  some (bAt a.1 a.2.1))

def znv (a:Int):Option (Bool):=
  if (decide (a=(88:Int)))=true then
  some true else
  if (decide (a=(70:Int)))=true then
  some true else
  if (decide (a=(71:Int)))=true then
  some true else
  if (decide (a=(85:Int)))=true then
  some true else
  some (decide (a=(82:Int)))

def zdT (a:((List UInt8)×Int×Int×Int×Int×Tp8×Unit)) (b:Int):Option ((Unit)⊕(Int×Int)):=
  some (.inr ((((b,(a.2.1,())),())).1.1,(((b,(a.2.1,())),())).1.2.1))

def zeB (b:(List UInt8)) (a c d e:Int) (f:Tp8) (h:Bool):Option (((List UInt8)×Int×Int×Int×Int×Tp8)⊕(Int×Int)):=
  if h=true then
  pbind (zdT (b,(a,(c,(d,(e,(f,())))))) (7:Int)) (fun _=>
  G (fits (a+(1:Int))) (
  some (.inl (b,a+(1:Int),c,d,e,f)))) (fun g=>some (.inr (g.1,g.2))) else
  G (fits (a+(1:Int))) (
  some (.inl (b,a+(1:Int),c,d,e,f)))
def zgq (g:Bool) (c:(List UInt8)) (d a b e:Int) (f:Tp8):Option (((List UInt8)×Int×Int×Int×Int×Tp8)⊕(Int×Int)):=
  if (decide ((30:Int) < a))=true then
  zeB c d a b e f true else
  if g=true then
  zeB c d a b e f (decide ((5:Int) < b)) else
  zeB c d a b e f false
def zaG (c:(List UInt8)) (d a b e:Int) (f:Tp8):Option (((List UInt8)×Int×Int×Int×Int×Tp8)⊕(Int×Int)):=
  G (fits (a+(1:Int))) (
  (zcQ (c,(d,(a+(1:Int),(b,(e,(f,()))))))).bind (fun h=>
  (znv h).bind (fun g=>
  if g=true then
  G (fits (b+(1:Int))) (
  zgq g c d (a+(1:Int)) (b+(1:Int)) e f) else
  zgq g c d (a+(1:Int)) b e f)))

def zbq (a:Tp9) (c:(List UInt8)) (d e f g:Int) (b:Tp8):Option (Int×(List UInt8)×Int×Int×Int×Int×Tp8):=
  G (room b ([(a.1,(a.2.1,(a.2.2.1,())))]) 24) (
  G (fits (((b++([(a.1,(a.2.1,(a.2.2.1,())))])).length:Int) - (1:Int))) (
  some (((b++([(a.1,(a.2.1,(a.2.2.1,())))])).length:Int) - (1:Int),c,d,e,f,g,b++([(a.1,(a.2.1,(a.2.2.1,())))]))))

def zcE (b:Int) (c:(List UInt8)) (d e f g:Int) (h:Tp8):Option (Int×(List UInt8)×Int×Int×Int×Int×Tp8):=
  (zbq ((3:Int),(b,((0:Int),()))) c d e f g h).bind (fun a=>
  some (a.1,a.2.1,a.2.2.1,a.2.2.2.1,a.2.2.2.2.1,a.2.2.2.2.2.1,a.2.2.2.2.2.2))

def zdK (c:(List UInt8)) (d e f g:Int) (h:Tp8):Option (Int×(List UInt8)×Int×Int×Int×Int×Tp8):=
  (zbq ((0:Int),((0:Int),((0:Int),()))) c d e f g h).bind (fun a=>
  (zcE a.1 a.2.1 a.2.2.1 a.2.2.2.1 a.2.2.2.2.1 a.2.2.2.2.2.1 a.2.2.2.2.2.2).bind (fun b=>
  some (b.1,b.2.1,b.2.2.1,b.2.2.2.1,b.2.2.2.2.1,b.2.2.2.2.2.1,b.2.2.2.2.2.2)))

def zhX (c:Int) (d:(List UInt8)) (a e f b:Int) (g:Tp8):Option ((Int×(List UInt8)×Int×Int×Int×Int×Tp8)⊕(Int×Int)):=
  G (fits (a+(1:Int))) (
  G (fits (b - (1:Int))) (
  some (.inl (c,d,a+(1:Int),e,f,b - (1:Int),g))))
def zdi (e:(List UInt8)->Int->Int->Int->Int->Tp8->Option ((Int×(List UInt8)×Int×Int×Int×Int×Tp8)⊕(Int×Int))) (f:(List UInt8)) (c g h d:Int) (i:Tp8):Option ((Int×(List UInt8)×Int×Int×Int×Int×Tp8)⊕(Int×Int)):=
  G (fits (d+(1:Int))) (
  G (fits (c+(1:Int))) (
  pbind (e f (c+(1:Int)) g h (d+(1:Int)) i) (fun a=>
  (zcQ (a.2.1,(a.2.2.1,(a.2.2.2.1,(a.2.2.2.2.1,(a.2.2.2.2.2.1,(a.2.2.2.2.2.2,()))))))).bind (fun j=>
  if (decide (¬ j=(41:Int)))=true then
  pbind (zdT (a.2.1,(a.2.2.1,(a.2.2.2.1,(a.2.2.2.2.1,(a.2.2.2.2.2.1,(a.2.2.2.2.2.2,())))))) (4:Int)) (fun _=>
  zhX a.1 a.2.1 a.2.2.1 a.2.2.2.1 a.2.2.2.2.1 a.2.2.2.2.2.1 a.2.2.2.2.2.2) (fun b=>some (.inr (b.1,b.2))) else
  zhX a.1 a.2.1 a.2.2.1 a.2.2.2.1 a.2.2.2.2.1 a.2.2.2.2.2.1 a.2.2.2.2.2.2)) (fun b=>some (.inr (b.1,b.2)))))
def zaZ (I H:(List UInt8)->Int->Int->Int->Int->Tp8->Option ((Int×(List UInt8)×Int×Int×Int×Int×Tp8)⊕(Int×Int))) (c:(List UInt8)) (d e f b:Int) (g:Tp8):Option ((Int×(List UInt8)×Int×Int×Int×Int×Tp8)⊕(Int×Int)):=
  (zcQ (c,(d,(e,(f,(b,(g,()))))))).bind (fun h=>
  if (decide (h=(33:Int)))=true then
  pbind (zaG c d e f b g) (fun y=>
  pbind (H y.1 y.2.1 y.2.2.1 y.2.2.2.1 y.2.2.2.2.1 y.2.2.2.2.2) (fun i=>
  (zcE i.1 i.2.1 i.2.2.1 i.2.2.2.1 i.2.2.2.2.1 i.2.2.2.2.2.1 i.2.2.2.2.2.2).bind (fun j=>
  some (.inl (j.1,j.2.1,j.2.2.1,j.2.2.2.1,j.2.2.2.2.1,j.2.2.2.2.2.1,j.2.2.2.2.2.2)))) (fun a=>some (.inr (a.1,a.2)))) (fun a=>some (.inr (a.1,a.2))) else
  if (decide (h=(88:Int)))=true then
  pbind (zaG c d e f b g) (fun z=>
  pbind (H z.1 z.2.1 z.2.2.1 z.2.2.2.1 z.2.2.2.2.1 z.2.2.2.2.2) (fun k=>
  (zbq ((6:Int),(k.1,((0:Int),()))) k.2.1 k.2.2.1 k.2.2.2.1 k.2.2.2.2.1 k.2.2.2.2.2.1 k.2.2.2.2.2.2).bind (fun l=>
  some (.inl (l.1,l.2.1,l.2.2.1,l.2.2.2.1,l.2.2.2.2.1,l.2.2.2.2.2.1,l.2.2.2.2.2.2)))) (fun a=>some (.inr (a.1,a.2)))) (fun a=>some (.inr (a.1,a.2))) else
  if (decide (h=(70:Int)))=true then
  pbind (zaG c d e f b g) (fun A=>
  (zdK A.1 A.2.1 A.2.2.1 A.2.2.2.1 A.2.2.2.2.1 A.2.2.2.2.2).bind (fun m=>
  pbind (H m.2.1 m.2.2.1 m.2.2.2.1 m.2.2.2.2.1 m.2.2.2.2.2.1 m.2.2.2.2.2.2) (fun n=>
  (zbq ((7:Int),(m.1,(n.1,()))) n.2.1 n.2.2.1 n.2.2.2.1 n.2.2.2.2.1 n.2.2.2.2.2.1 n.2.2.2.2.2.2).bind (fun o=>
  some (.inl (o.1,o.2.1,o.2.2.1,o.2.2.2.1,o.2.2.2.2.1,o.2.2.2.2.2.1,o.2.2.2.2.2.2)))) (fun a=>some (.inr (a.1,a.2))))) (fun a=>some (.inr (a.1,a.2))) else
  if (decide (h=(71:Int)))=true then
  pbind (zaG c d e f b g) (fun B=>
  (zdK B.1 B.2.1 B.2.2.1 B.2.2.2.1 B.2.2.2.2.1 B.2.2.2.2.2).bind (fun p=>
  pbind (H p.2.1 p.2.2.1 p.2.2.2.1 p.2.2.2.2.1 p.2.2.2.2.2.1 p.2.2.2.2.2.2) (fun q=>
  (zcE q.1 q.2.1 q.2.2.1 q.2.2.2.1 q.2.2.2.2.1 q.2.2.2.2.2.1 q.2.2.2.2.2.2).bind (fun r=>
  (zbq ((7:Int),(p.1,(r.1,()))) r.2.1 r.2.2.1 r.2.2.2.1 r.2.2.2.2.1 r.2.2.2.2.2.1 r.2.2.2.2.2.2).bind (fun s=>
  (zcE s.1 s.2.1 s.2.2.1 s.2.2.2.1 s.2.2.2.2.1 s.2.2.2.2.2.1 s.2.2.2.2.2.2).bind (fun t=>
  some (.inl (t.1,t.2.1,t.2.2.1,t.2.2.2.1,t.2.2.2.2.1,t.2.2.2.2.2.1,t.2.2.2.2.2.2)))))) (fun a=>some (.inr (a.1,a.2))))) (fun a=>some (.inr (a.1,a.2))) else
  if (decide (h=(40:Int)))=true then
  if (decide (b=(40:Int)))=true then
  pbind (zdT (c,(d,(e,(f,(b,(g,())))))) (7:Int)) (fun _=>
  zdi I c d e f b g) (fun a=>some (.inr (a.1,a.2))) else
  zdi I c d e f b g else
  if (decide (h=(112:Int)))=true then
  pbind (zaG c d e f b g) (fun C=>
  (zbq ((1:Int),((0:Int),((0:Int),()))) C.1 C.2.1 C.2.2.1 C.2.2.2.1 C.2.2.2.2.1 C.2.2.2.2.2).bind (fun u=>
  some (.inl (u.1,u.2.1,u.2.2.1,u.2.2.2.1,u.2.2.2.2.1,u.2.2.2.2.2.1,u.2.2.2.2.2.2)))) (fun a=>some (.inr (a.1,a.2))) else
  if (decide (h=(113:Int)))=true then
  pbind (zaG c d e f b g) (fun D=>
  (zbq ((2:Int),((0:Int),((0:Int),()))) D.1 D.2.1 D.2.2.1 D.2.2.2.1 D.2.2.2.2.1 D.2.2.2.2.2).bind (fun v=>
  some (.inl (v.1,v.2.1,v.2.2.1,v.2.2.2.1,v.2.2.2.2.1,v.2.2.2.2.2.1,v.2.2.2.2.2.2)))) (fun a=>some (.inr (a.1,a.2))) else
  if (decide (h=(48:Int)))=true then
  pbind (zaG c d e f b g) (fun E=>
  (zbq ((0:Int),((0:Int),((0:Int),()))) E.1 E.2.1 E.2.2.1 E.2.2.2.1 E.2.2.2.2.1 E.2.2.2.2.2).bind (fun w=>
  some (.inl (w.1,w.2.1,w.2.2.1,w.2.2.2.1,w.2.2.2.2.1,w.2.2.2.2.2.1,w.2.2.2.2.2.2)))) (fun a=>some (.inr (a.1,a.2))) else
  if (decide (h=(49:Int)))=true then
  pbind (zaG c d e f b g) (fun F=>
  (zdK F.1 F.2.1 F.2.2.1 F.2.2.2.1 F.2.2.2.2.1 F.2.2.2.2.2).bind (fun x=>
  some (.inl (x.1,x.2.1,x.2.2.1,x.2.2.2.1,x.2.2.2.2.1,x.2.2.2.2.2.1,x.2.2.2.2.2.2)))) (fun a=>some (.inr (a.1,a.2))) else
  pbind (zdT (c,(d,(e,(f,(b,(g,())))))) (4:Int)) (fun _=>
  some (.inl ((0:Int),c,d,e,f,b,g))) (fun a=>some (.inr (a.1,a.2))))
def zg6 (b:(List UInt8)->Int->Int->Int->Int->Tp8->Option ((Int×(List UInt8)×Int×Int×Int×Int×Tp8)⊕(Int×Int))):((List UInt8)×Int×Int×Int×Int×Tp8->Option ((Int×(List UInt8)×Int×Int×Int×Int×Tp8)⊕(Int×Int)))->(List UInt8)×Int×Int×Int×Int×Tp8->Option ((Int×(List UInt8)×Int×Int×Int×Int×Tp8)⊕(Int×Int)):=
  fun rec a=>zaZ b (fun c d e f g h=>rec (c,d,e,f,g,h)) a.1 a.2.1 a.2.2.1 a.2.2.2.1 a.2.2.2.2.1 a.2.2.2.2.2
def zey (a:(List UInt8)->Int->Int->Int->Int->Tp8->Option ((Int×(List UInt8)×Int×Int×Int×Int×Tp8)⊕(Int×Int))) (b:(List UInt8)) (c d e f:Int) (g:Tp8):Option ((Int×(List UInt8)×Int×Int×Int×Int×Tp8)⊕(Int×Int)):=LFix (zg6 a ) (b,c,d,e,f,g)
def zdM (n l:(List UInt8)->Int->Int->Int->Int->Tp8->Option ((Int×(List UInt8)×Int×Int×Int×Int×Tp8)⊕(Int×Int))) (o:(List UInt8)) (p q r s:Int) (t:Tp8):Option ((Int×(List UInt8)×Int×Int×Int×Int×Tp8)⊕(Int×Int)):=
  pbind (zey n o p q r s t) (fun a=>
  (zcQ (a.2.1,(a.2.2.1,(a.2.2.2.1,(a.2.2.2.2.1,(a.2.2.2.2.2.1,(a.2.2.2.2.2.2,()))))))).bind (fun m=>
  if (decide (m=(85:Int)))=true then
  pbind (zaG a.2.1 a.2.2.1 a.2.2.2.1 a.2.2.2.2.1 a.2.2.2.2.2.1 a.2.2.2.2.2.2) (fun j=>
  pbind (l j.1 j.2.1 j.2.2.1 j.2.2.2.1 j.2.2.2.2.1 j.2.2.2.2.2) (fun c=>
  (zbq ((7:Int),(a.1,(c.1,()))) c.2.1 c.2.2.1 c.2.2.2.1 c.2.2.2.2.1 c.2.2.2.2.2.1 c.2.2.2.2.2.2).bind (fun d=>
  some (.inl (d.1,d.2.1,d.2.2.1,d.2.2.2.1,d.2.2.2.2.1,d.2.2.2.2.2.1,d.2.2.2.2.2.2)))) (fun b=>some (.inr (b.1,b.2)))) (fun b=>some (.inr (b.1,b.2))) else
  if (decide (m=(82:Int)))=true then
  pbind (zaG a.2.1 a.2.2.1 a.2.2.2.1 a.2.2.2.2.1 a.2.2.2.2.2.1 a.2.2.2.2.2.2) (fun k=>
  (zcE a.1 k.1 k.2.1 k.2.2.1 k.2.2.2.1 k.2.2.2.2.1 k.2.2.2.2.2).bind (fun e=>
  pbind (l e.2.1 e.2.2.1 e.2.2.2.1 e.2.2.2.2.1 e.2.2.2.2.2.1 e.2.2.2.2.2.2) (fun f=>
  (zcE f.1 f.2.1 f.2.2.1 f.2.2.2.1 f.2.2.2.2.1 f.2.2.2.2.2.1 f.2.2.2.2.2.2).bind (fun g=>
  (zbq ((7:Int),(e.1,(g.1,()))) g.2.1 g.2.2.1 g.2.2.2.1 g.2.2.2.2.1 g.2.2.2.2.2.1 g.2.2.2.2.2.2).bind (fun h=>
  (zcE h.1 h.2.1 h.2.2.1 h.2.2.2.1 h.2.2.2.2.1 h.2.2.2.2.2.1 h.2.2.2.2.2.2).bind (fun i=>
  some (.inl (i.1,i.2.1,i.2.2.1,i.2.2.2.1,i.2.2.2.2.1,i.2.2.2.2.2.1,i.2.2.2.2.2.2)))))) (fun b=>some (.inr (b.1,b.2))))) (fun b=>some (.inr (b.1,b.2))) else
  some (.inl (a.1,a.2.1,a.2.2.1,a.2.2.2.1,a.2.2.2.2.1,a.2.2.2.2.2.1,a.2.2.2.2.2.2)))) (fun b=>some (.inr (b.1,b.2)))
def zgA (b:(List UInt8)->Int->Int->Int->Int->Tp8->Option ((Int×(List UInt8)×Int×Int×Int×Int×Tp8)⊕(Int×Int))):((List UInt8)×Int×Int×Int×Int×Tp8->Option ((Int×(List UInt8)×Int×Int×Int×Int×Tp8)⊕(Int×Int)))->(List UInt8)×Int×Int×Int×Int×Tp8->Option ((Int×(List UInt8)×Int×Int×Int×Int×Tp8)⊕(Int×Int)):=
  fun rec a=>zdM b (fun c d e f g h=>rec (c,d,e,f,g,h)) a.1 a.2.1 a.2.2.1 a.2.2.2.1 a.2.2.2.2.1 a.2.2.2.2.2
def zcZ (a:(List UInt8)->Int->Int->Int->Int->Tp8->Option ((Int×(List UInt8)×Int×Int×Int×Int×Tp8)⊕(Int×Int))) (b:(List UInt8)) (c d e f:Int) (g:Tp8):Option ((Int×(List UInt8)×Int×Int×Int×Int×Tp8)⊕(Int×Int)):=LFix (zgA a ) (b,c,d,e,f,g)
def zcx (l:(List UInt8)->Int->Int->Int->Int->Tp8->Option ((Int×(List UInt8)×Int×Int×Int×Int×Tp8)⊕(Int×Int))) (m:Int->(List UInt8)->Int->Int->Int->Int->Tp8->Option ((Int×(List UInt8)×Int×Int×Int×Int×Tp8)⊕(Int×Int))) (k:Int) (e:(List UInt8)) (f g h i:Int) (j:Tp8):Option ((Int×(List UInt8)×Int×Int×Int×Int×Tp8)⊕(Int×Int)):=
  (zcQ (e,(f,(g,(h,(i,(j,()))))))).bind (fun n=>
  if (decide (n=(38:Int)))=true then
  pbind (zaG e f g h i j) (fun c=>
  pbind (zcZ l c.1 c.2.1 c.2.2.1 c.2.2.2.1 c.2.2.2.2.1 c.2.2.2.2.2) (fun a=>
  (zbq ((4:Int),(k,(a.1,()))) a.2.1 a.2.2.1 a.2.2.2.1 a.2.2.2.2.1 a.2.2.2.2.2.1 a.2.2.2.2.2.2).bind (fun b=>
  m b.1 b.2.1 b.2.2.1 b.2.2.2.1 b.2.2.2.2.1 b.2.2.2.2.2.1 b.2.2.2.2.2.2)) (fun d=>some (.inr (d.1,d.2)))) (fun d=>some (.inr (d.1,d.2))) else
  some (.inl (k,e,f,g,h,i,j)))
def zjN (b:(List UInt8)->Int->Int->Int->Int->Tp8->Option ((Int×(List UInt8)×Int×Int×Int×Int×Tp8)⊕(Int×Int))):(Int×(List UInt8)×Int×Int×Int×Int×Tp8->Option ((Int×(List UInt8)×Int×Int×Int×Int×Tp8)⊕(Int×Int)))->Int×(List UInt8)×Int×Int×Int×Int×Tp8->Option ((Int×(List UInt8)×Int×Int×Int×Int×Tp8)⊕(Int×Int)):=
  fun rec a=>zcx b (fun c d e f g h i=>rec (c,d,e,f,g,h,i)) a.1 a.2.1 a.2.2.1 a.2.2.2.1 a.2.2.2.2.1 a.2.2.2.2.2.1 a.2.2.2.2.2.2
def zct (a:(List UInt8)->Int->Int->Int->Int->Tp8->Option ((Int×(List UInt8)×Int×Int×Int×Int×Tp8)⊕(Int×Int))) (b:Int) (c:(List UInt8)) (d e f g:Int) (h:Tp8):Option ((Int×(List UInt8)×Int×Int×Int×Int×Tp8)⊕(Int×Int)):=LFix (zjN a ) (b,c,d,e,f,g,h)
def zc0 (b:(List UInt8)->Int->Int->Int->Int->Tp8->Option ((Int×(List UInt8)×Int×Int×Int×Int×Tp8)⊕(Int×Int))) (d:(List UInt8)) (e f g h:Int) (i:Tp8):Option ((Int×(List UInt8)×Int×Int×Int×Int×Tp8)⊕(Int×Int)):=
  pbind (zcZ b d e f g h i) (fun a=>
  zct b a.1 a.2.1 a.2.2.1 a.2.2.2.1 a.2.2.2.2.1 a.2.2.2.2.2.1 a.2.2.2.2.2.2) (fun c=>some (.inr (c.1,c.2)))
def zb5 (l:(List UInt8)->Int->Int->Int->Int->Tp8->Option ((Int×(List UInt8)×Int×Int×Int×Int×Tp8)⊕(Int×Int))) (m:Int->(List UInt8)->Int->Int->Int->Int->Tp8->Option ((Int×(List UInt8)×Int×Int×Int×Int×Tp8)⊕(Int×Int))) (k:Int) (e:(List UInt8)) (f g h i:Int) (j:Tp8):Option ((Int×(List UInt8)×Int×Int×Int×Int×Tp8)⊕(Int×Int)):=
  (zcQ (e,(f,(g,(h,(i,(j,()))))))).bind (fun n=>
  if (decide (n=(124:Int)))=true then
  pbind (zaG e f g h i j) (fun c=>
  pbind (zc0 l c.1 c.2.1 c.2.2.1 c.2.2.2.1 c.2.2.2.2.1 c.2.2.2.2.2) (fun a=>
  (zbq ((5:Int),(k,(a.1,()))) a.2.1 a.2.2.1 a.2.2.2.1 a.2.2.2.2.1 a.2.2.2.2.2.1 a.2.2.2.2.2.2).bind (fun b=>
  m b.1 b.2.1 b.2.2.1 b.2.2.2.1 b.2.2.2.2.1 b.2.2.2.2.2.1 b.2.2.2.2.2.2)) (fun d=>some (.inr (d.1,d.2)))) (fun d=>some (.inr (d.1,d.2))) else
  some (.inl (k,e,f,g,h,i,j)))
def zih (b:(List UInt8)->Int->Int->Int->Int->Tp8->Option ((Int×(List UInt8)×Int×Int×Int×Int×Tp8)⊕(Int×Int))):(Int×(List UInt8)×Int×Int×Int×Int×Tp8->Option ((Int×(List UInt8)×Int×Int×Int×Int×Tp8)⊕(Int×Int)))->Int×(List UInt8)×Int×Int×Int×Int×Tp8->Option ((Int×(List UInt8)×Int×Int×Int×Int×Tp8)⊕(Int×Int)):=
  fun rec a=>zb5 b (fun c d e f g h i=>rec (c,d,e,f,g,h,i)) a.1 a.2.1 a.2.2.1 a.2.2.2.1 a.2.2.2.2.1 a.2.2.2.2.2.1 a.2.2.2.2.2.2
def zb1 (a:(List UInt8)->Int->Int->Int->Int->Tp8->Option ((Int×(List UInt8)×Int×Int×Int×Int×Tp8)⊕(Int×Int))) (b:Int) (c:(List UInt8)) (d e f g:Int) (h:Tp8):Option ((Int×(List UInt8)×Int×Int×Int×Int×Tp8)⊕(Int×Int)):=LFix (zih a ) (b,c,d,e,f,g,h)
def zcw (b:(List UInt8)->Int->Int->Int->Int->Tp8->Option ((Int×(List UInt8)×Int×Int×Int×Int×Tp8)⊕(Int×Int))) (d:(List UInt8)) (e f g h:Int) (i:Tp8):Option ((Int×(List UInt8)×Int×Int×Int×Int×Tp8)⊕(Int×Int)):=
  pbind (zc0 b d e f g h i) (fun a=>
  zb1 b a.1 a.2.1 a.2.2.1 a.2.2.2.1 a.2.2.2.2.1 a.2.2.2.2.2.1 a.2.2.2.2.2.2) (fun c=>some (.inr (c.1,c.2)))
theorem zn2 (b:Nat->(List UInt8)->Int->Int->Int->Int->Tp8->Option ((Int×(List UInt8)×Int×Int×Int×Int×Tp8)⊕(Int×Int))) (c:(List UInt8)->Int->Int->Int->Int->Tp8->Option ((Int×(List UInt8)×Int×Int×Int×Int×Tp8)⊕(Int×Int))) (d:∀ k l m n o p,ChO (fun a=>b a k l m n o p) (c k l m n o p)) (e f g h i j):ChO (fun a=>zdi (b a) e f g h i j) (zdi c e f g h i j):=by
  unfold zdi
  repeat' with_reducible first|exact ChO.const _|exact d _ _ _ _ _ _|apply ChO.ite|apply ChO.G|(apply ChO.bind;intro _)|(apply ChO.bind2 (d _ _ _ _ _ _);intro _) | (refine ChO.bind2 ?_ (fun _ => ?_)) | (refine ChO.pbind (fun _ => ?_) (fun _ => ?_)) | (refine ChO.pbind2 ?_ (fun _ => ?_) (fun _ => ?_))
theorem zkc (h:Nat->(List UInt8)->Int->Int->Int->Int->Tp8->Option ((Int×(List UInt8)×Int×Int×Int×Int×Tp8)⊕(Int×Int))) (i:(List UInt8)->Int->Int->Int->Int->Tp8->Option ((Int×(List UInt8)×Int×Int×Int×Int×Tp8)⊕(Int×Int))) (j:∀ b c d e f g,ChO (fun a=>h a b c d e f g) (i b c d e f g)) (k:Nat->(List UInt8)->Int->Int->Int->Int->Tp8->Option ((Int×(List UInt8)×Int×Int×Int×Int×Tp8)⊕(Int×Int))) (l:(List UInt8)->Int->Int->Int->Int->Tp8->Option ((Int×(List UInt8)×Int×Int×Int×Int×Tp8)⊕(Int×Int))) (s:∀ b c d e f g,ChO (fun a=>k a b c d e f g) (l b c d e f g)) (m n o p q r):ChO (fun a=>zaZ (h a) (k a) m n o p q r) (zaZ i l m n o p q r):=by
  unfold zaZ
  repeat' with_reducible first|exact ChO.const _|exact j _ _ _ _ _ _|exact s _ _ _ _ _ _|(apply zn2<;>assumption)|apply ChO.ite|(apply ChO.bind;intro _)|(apply ChO.bind2 (j _ _ _ _ _ _);intro _) | (refine ChO.bind2 ?_ (fun _ => ?_)) | (refine ChO.pbind (fun _ => ?_) (fun _ => ?_)) | (refine ChO.pbind2 ?_ (fun _ => ?_) (fun _ => ?_))
theorem ziR (b):Cn (zg6 b):=fun j k c a=>zkc (fun _=>b) b (fun _ _ _ _ _ _=>ChO.const _) _ _ (fun d e f g h i=>c (d,e,f,g,h,i))  a.1 a.2.1 a.2.2.1 a.2.2.2.1 a.2.2.2.2.1 a.2.2.2.2.2
theorem zbK (a b c d e f g):zey a b c d e f g=zaZ a (zey a) b c d e f g:=zav (ziR a) (b,c,d,e,f,g)
theorem zrh (c:Nat->(List UInt8)->Int->Int->Int->Int->Tp8->Option ((Int×(List UInt8)×Int×Int×Int×Int×Tp8)⊕(Int×Int))) (d:(List UInt8)->Int->Int->Int->Int->Tp8->Option ((Int×(List UInt8)×Int×Int×Int×Int×Tp8)⊕(Int×Int))) (q:∀ e f g h i j,ChO (fun b=>c b e f g h i j) (d e f g h i j)) (k l m n o p):ChO (fun b=>zey (c b) k l m n o p) (zey d k l m n o p):=by
  unfold zey
  exact zcA (fun b=>(ziR (c b) ).mono) (ziR d ).mono (fun s t r a=>zkc c d q _ _ (fun e f g h i j=>r (e,f,g,h,i,j))  a.1 a.2.1 a.2.2.1 a.2.2.2.1 a.2.2.2.2.1 a.2.2.2.2.2) _
theorem zjM (h:Nat->(List UInt8)->Int->Int->Int->Int->Tp8->Option ((Int×(List UInt8)×Int×Int×Int×Int×Tp8)⊕(Int×Int))) (i:(List UInt8)->Int->Int->Int->Int->Tp8->Option ((Int×(List UInt8)×Int×Int×Int×Int×Tp8)⊕(Int×Int))) (j:∀ b c d e f g,ChO (fun a=>h a b c d e f g) (i b c d e f g)) (k:Nat->(List UInt8)->Int->Int->Int->Int->Tp8->Option ((Int×(List UInt8)×Int×Int×Int×Int×Tp8)⊕(Int×Int))) (l:(List UInt8)->Int->Int->Int->Int->Tp8->Option ((Int×(List UInt8)×Int×Int×Int×Int×Tp8)⊕(Int×Int))) (s:∀ b c d e f g,ChO (fun a=>k a b c d e f g) (l b c d e f g)) (m n o p q r):ChO (fun a=>zdM (h a) (k a) m n o p q r) (zdM i l m n o p q r):=by
  unfold zdM
  repeat' with_reducible first|exact ChO.const _|exact j _ _ _ _ _ _|exact s _ _ _ _ _ _|(apply zrh<;>assumption)|apply ChO.ite|(apply ChO.bind;intro _)|(apply ChO.bind2 (j _ _ _ _ _ _);intro _) | (refine ChO.bind2 ?_ (fun _ => ?_)) | (refine ChO.pbind (fun _ => ?_) (fun _ => ?_)) | (refine ChO.pbind2 ?_ (fun _ => ?_) (fun _ => ?_))
theorem zhY (b):Cn (zgA b):=fun j k c a=>zjM (fun _=>b) b (fun _ _ _ _ _ _=>ChO.const _) _ _ (fun d e f g h i=>c (d,e,f,g,h,i))  a.1 a.2.1 a.2.2.1 a.2.2.2.1 a.2.2.2.2.1 a.2.2.2.2.2
theorem zqg (a b c d e f g):zcZ a b c d e f g=zdM a (zcZ a) b c d e f g:=zav (zhY a) (b,c,d,e,f,g)
theorem zlt (c:Nat->(List UInt8)->Int->Int->Int->Int->Tp8->Option ((Int×(List UInt8)×Int×Int×Int×Int×Tp8)⊕(Int×Int))) (d:(List UInt8)->Int->Int->Int->Int->Tp8->Option ((Int×(List UInt8)×Int×Int×Int×Int×Tp8)⊕(Int×Int))) (q:∀ e f g h i j,ChO (fun b=>c b e f g h i j) (d e f g h i j)) (k l m n o p):ChO (fun b=>zcZ (c b) k l m n o p) (zcZ d k l m n o p):=by
  unfold zcZ
  exact zcA (fun b=>(zhY (c b) ).mono) (zhY d ).mono (fun s t r a=>zjM c d q _ _ (fun e f g h i j=>r (e,f,g,h,i,j))  a.1 a.2.1 a.2.2.1 a.2.2.2.1 a.2.2.2.2.1 a.2.2.2.2.2) _
theorem zii (h:Nat->(List UInt8)->Int->Int->Int->Int->Tp8->Option ((Int×(List UInt8)×Int×Int×Int×Int×Tp8)⊕(Int×Int))) (i:(List UInt8)->Int->Int->Int->Int->Tp8->Option ((Int×(List UInt8)×Int×Int×Int×Int×Tp8)⊕(Int×Int))) (j:∀ b c d e f g,ChO (fun a=>h a b c d e f g) (i b c d e f g)) (k:Nat->Int->(List UInt8)->Int->Int->Int->Int->Tp8->Option ((Int×(List UInt8)×Int×Int×Int×Int×Tp8)⊕(Int×Int))) (l:Int->(List UInt8)->Int->Int->Int->Int->Tp8->Option ((Int×(List UInt8)×Int×Int×Int×Int×Tp8)⊕(Int×Int))) (u:∀ b c d e f g t,ChO (fun a=>k a b c d e f g t) (l b c d e f g t)) (m n o p q r s):ChO (fun a=>zcx (h a) (k a) m n o p q r s) (zcx i l m n o p q r s):=by
  unfold zcx
  repeat' with_reducible first|exact ChO.const _|exact j _ _ _ _ _ _|exact u _ _ _ _ _ _ _|(apply zlt<;>assumption)|apply ChO.ite|(apply ChO.bind;intro _)|(apply ChO.bind2 (j _ _ _ _ _ _);intro _) | (refine ChO.bind2 ?_ (fun _ => ?_)) | (refine ChO.pbind (fun _ => ?_) (fun _ => ?_)) | (refine ChO.pbind2 ?_ (fun _ => ?_) (fun _ => ?_))
theorem zgr (b):Cn (zjN b):=fun k l c a=>zii (fun _=>b) b (fun _ _ _ _ _ _=>ChO.const _) _ _ (fun d e f g h i j=>c (d,e,f,g,h,i,j))  a.1 a.2.1 a.2.2.1 a.2.2.2.1 a.2.2.2.2.1 a.2.2.2.2.2.1 a.2.2.2.2.2.2
theorem zn4 (a b c d e f g h):zct a b c d e f g h=zcx a (zct a) b c d e f g h:=zav (zgr a) (b,c,d,e,f,g,h)
theorem zn3 (c:Nat->(List UInt8)->Int->Int->Int->Int->Tp8->Option ((Int×(List UInt8)×Int×Int×Int×Int×Tp8)⊕(Int×Int))) (d:(List UInt8)->Int->Int->Int->Int->Tp8->Option ((Int×(List UInt8)×Int×Int×Int×Int×Tp8)⊕(Int×Int))) (r:∀ e f g h i j,ChO (fun b=>c b e f g h i j) (d e f g h i j)) (k l m n o p q):ChO (fun b=>zct (c b) k l m n o p q) (zct d k l m n o p q):=by
  unfold zct
  exact zcA (fun b=>(zgr (c b) ).mono) (zgr d ).mono (fun u v s a=>zii c d r _ _ (fun e f g h i j t=>s (e,f,g,h,i,j,t))  a.1 a.2.1 a.2.2.1 a.2.2.2.1 a.2.2.2.2.1 a.2.2.2.2.2.1 a.2.2.2.2.2.2) _
theorem zlx (b:Nat->(List UInt8)->Int->Int->Int->Int->Tp8->Option ((Int×(List UInt8)×Int×Int×Int×Int×Tp8)⊕(Int×Int))) (c:(List UInt8)->Int->Int->Int->Int->Tp8->Option ((Int×(List UInt8)×Int×Int×Int×Int×Tp8)⊕(Int×Int))) (p:∀ j k l m n o,ChO (fun a=>b a j k l m n o) (c j k l m n o)) (d e f g h i):ChO (fun a=>zc0 (b a) d e f g h i) (zc0 c d e f g h i):=by
  unfold zc0
  repeat' with_reducible first|exact ChO.const _|exact p _ _ _ _ _ _|(apply zlt<;>assumption)|(apply zn3<;>assumption) | (refine ChO.pbind (fun _ => ?_) (fun _ => ?_)) | (refine ChO.pbind2 ?_ (fun _ => ?_) (fun _ => ?_))
theorem zgW (h:Nat->(List UInt8)->Int->Int->Int->Int->Tp8->Option ((Int×(List UInt8)×Int×Int×Int×Int×Tp8)⊕(Int×Int))) (i:(List UInt8)->Int->Int->Int->Int->Tp8->Option ((Int×(List UInt8)×Int×Int×Int×Int×Tp8)⊕(Int×Int))) (j:∀ b c d e f g,ChO (fun a=>h a b c d e f g) (i b c d e f g)) (k:Nat->Int->(List UInt8)->Int->Int->Int->Int->Tp8->Option ((Int×(List UInt8)×Int×Int×Int×Int×Tp8)⊕(Int×Int))) (l:Int->(List UInt8)->Int->Int->Int->Int->Tp8->Option ((Int×(List UInt8)×Int×Int×Int×Int×Tp8)⊕(Int×Int))) (u:∀ b c d e f g t,ChO (fun a=>k a b c d e f g t) (l b c d e f g t)) (m n o p q r s):ChO (fun a=>zb5 (h a) (k a) m n o p q r s) (zb5 i l m n o p q r s):=by
  unfold zb5
  repeat' with_reducible first|exact ChO.const _|exact j _ _ _ _ _ _|exact u _ _ _ _ _ _ _|(apply zlx<;>assumption)|apply ChO.ite|(apply ChO.bind;intro _)|(apply ChO.bind2 (j _ _ _ _ _ _);intro _) | (refine ChO.bind2 ?_ (fun _ => ?_)) | (refine ChO.pbind (fun _ => ?_) (fun _ => ?_)) | (refine ChO.pbind2 ?_ (fun _ => ?_) (fun _ => ?_))
theorem ze3 (b):Cn (zih b):=fun k l c a=>zgW (fun _=>b) b (fun _ _ _ _ _ _=>ChO.const _) _ _ (fun d e f g h i j=>c (d,e,f,g,h,i,j))  a.1 a.2.1 a.2.2.1 a.2.2.2.1 a.2.2.2.2.1 a.2.2.2.2.2.1 a.2.2.2.2.2.2
theorem zmj (a b c d e f g h):zb1 a b c d e f g h=zb5 a (zb1 a) b c d e f g h:=zav (ze3 a) (b,c,d,e,f,g,h)
theorem zmi (c:Nat->(List UInt8)->Int->Int->Int->Int->Tp8->Option ((Int×(List UInt8)×Int×Int×Int×Int×Tp8)⊕(Int×Int))) (d:(List UInt8)->Int->Int->Int->Int->Tp8->Option ((Int×(List UInt8)×Int×Int×Int×Int×Tp8)⊕(Int×Int))) (r:∀ e f g h i j,ChO (fun b=>c b e f g h i j) (d e f g h i j)) (k l m n o p q):ChO (fun b=>zb1 (c b) k l m n o p q) (zb1 d k l m n o p q):=by
  unfold zb1
  exact zcA (fun b=>(ze3 (c b) ).mono) (ze3 d ).mono (fun u v s a=>zgW c d r _ _ (fun e f g h i j t=>s (e,f,g,h,i,j,t))  a.1 a.2.1 a.2.2.1 a.2.2.2.1 a.2.2.2.2.1 a.2.2.2.2.2.1 a.2.2.2.2.2.2) _
theorem zm3 (b:Nat->(List UInt8)->Int->Int->Int->Int->Tp8->Option ((Int×(List UInt8)×Int×Int×Int×Int×Tp8)⊕(Int×Int))) (c:(List UInt8)->Int->Int->Int->Int->Tp8->Option ((Int×(List UInt8)×Int×Int×Int×Int×Tp8)⊕(Int×Int))) (p:∀ j k l m n o,ChO (fun a=>b a j k l m n o) (c j k l m n o)) (d e f g h i):ChO (fun a=>zcw (b a) d e f g h i) (zcw c d e f g h i):=by
  unfold zcw
  repeat' with_reducible first|exact ChO.const _|exact p _ _ _ _ _ _|(apply zlx<;>assumption)|(apply zmi<;>assumption) | (refine ChO.pbind (fun _ => ?_) (fun _ => ?_)) | (refine ChO.pbind2 ?_ (fun _ => ?_) (fun _ => ?_))
def zeU:((List UInt8)×Int×Int×Int×Int×Tp8->Option ((Int×(List UInt8)×Int×Int×Int×Int×Tp8)⊕(Int×Int)))->(List UInt8)×Int×Int×Int×Int×Tp8->Option ((Int×(List UInt8)×Int×Int×Int×Int×Tp8)⊕(Int×Int)):=
  fun rec a=>zcw (fun b c d e f g=>rec (b,c,d,e,f,g)) a.1 a.2.1 a.2.2.1 a.2.2.2.1 a.2.2.2.2.1 a.2.2.2.2.2
def zbO (a:(List UInt8)) (b c d e:Int) (f:Tp8):Option ((Int×(List UInt8)×Int×Int×Int×Int×Tp8)⊕(Int×Int)):=LFix zeU (a,b,c,d,e,f)
theorem znZ:Cn zeU:=fun i j b a=>zm3 _ _ (fun c d e f g h=>b (c,d,e,f,g,h)) a.1 a.2.1 a.2.2.1 a.2.2.2.1 a.2.2.2.2.1 a.2.2.2.2.2
theorem zn0 (a b c d e f):zbO a b c d e f=zcw zbO a b c d e f:=zav znZ (a,b,c,d,e,f)
def zln (c:(List UInt8)):Option (Tp8×Int×Int×Unit):=
  if (decide ((4000:Int) < (c.length:Int)))=true then
  some ([],((1:Int),((0:Int),()))) else
  pbind (zbO c (0:Int) (0:Int) (0:Int) (0:Int) ([]:List Tp9)) (fun a=>
  if (decide (a.2.2.1 < (c.length:Int)))=true then
  pbind (zdT (a.2.1,(a.2.2.1,(a.2.2.2.1,(a.2.2.2.2.1,(a.2.2.2.2.2.1,(a.2.2.2.2.2.2,())))))) (4:Int)) (fun _=>
  G (fits (a.1+(1:Int))) (
  G (0<=a.1+(1:Int)/\a.1+(1:Int)<=(a.2.2.2.2.2.2.length:Int)) (
  some ((a.2.2.2.2.2.2.drop 0).take ((a.1+(1:Int)).toNat),((0:Int),((0:Int),())))))) (fun b=>some ([],(b.1,(b.2,())))) else
  G (fits (a.1+(1:Int))) (
  G (0<=a.1+(1:Int)/\a.1+(1:Int)<=(a.2.2.2.2.2.2.length:Int)) (
  some ((a.2.2.2.2.2.2.drop 0).take ((a.1+(1:Int)).toNat),((0:Int),((0:Int),())))))) (fun b=>some ([],(b.1,(b.2,()))))

def zfA (a:Tp9) (c:Int) (b:Tp11):Option (Bool):=
  if (decide (a.1=(1:Int)))=true then
  some (decide ((iand .i64 c (1:Int))=(1:Int))) else
  if (decide (a.1=(2:Int)))=true then
  some (decide ((iand .i64 c (2:Int))=(2:Int))) else
  if (decide (a.1=(3:Int)))=true then
  G (0<=a.2.1/\a.2.1 < (b.length:Int)) (
  some (!(ix b a.2.1))) else
  if (decide (a.1=(4:Int)))=true then
  G (0<=a.2.1/\a.2.1 < (b.length:Int)) (
  if (ix b a.2.1)=true then
  G (0<=a.2.2.1/\a.2.2.1 < (b.length:Int)) (
  some (ix b a.2.2.1)) else
  some false) else
  if (decide (a.1=(5:Int)))=true then
  G (0<=a.2.1/\a.2.1 < (b.length:Int)) (
  if (ix b a.2.1)=true then
  some true else
  G (0<=a.2.2.1/\a.2.2.1 < (b.length:Int)) (
  some (ix b a.2.2.1))) else
  some false

def zcu (c:Tp3) (g f:Int) (e:Tf12) (d a:Int) (b:Tp11):Option Tp11:=
  if (decide (a < (c.1.length:Int)))=true then
  G (0<=a/\a < (c.1.length:Int)) (
  if (decide (((ix c.1 a).1)=(6:Int)))=true then
  G (0<=d) (
  G (0<=a/\a < (b.length:Int)) (
  G ((a).toNat < b.length) (
  G (fits (d+(1:Int))) (
  G (fits (a+(1:Int))) (
  e (d+(1:Int)) (a+(1:Int)) (b.set (a).toNat (decide ((iand .i64 (ishr .i64 f d) (1:Int))=(1:Int))))))))) else
  if (decide (((ix c.1 a).1)=(7:Int)))=true then
  G (0<=(((ix c.1 a).2).2).1/\(((ix c.1 a).2).2).1 < (b.length:Int)) (
  G (((((ix c.1 a).2).2).1).toNat < b.length) (
  if (ix b ((((ix c.1 a).2).2).1))=true then
  G (0<=a/\a < (b.length:Int)) (
  G ((a).toNat < b.length) (
  G (fits (d+(1:Int))) (
  G (fits (a+(1:Int))) (
  e (d+(1:Int)) (a+(1:Int)) (b.set (a).toNat true))))) else
  G (0<=((ix c.1 a).2).1/\((ix c.1 a).2).1 < (b.length:Int)) (
  G ((((ix c.1 a).2).1).toNat < b.length) (
  if (ix b (((ix c.1 a).2).1))=true then
  G (0<=d) (
  G (0<=a/\a < (b.length:Int)) (
  G ((a).toNat < b.length) (
  G (fits (d+(1:Int))) (
  G (fits (a+(1:Int))) (
  e (d+(1:Int)) (a+(1:Int)) (b.set (a).toNat (decide ((iand .i64 (ishr .i64 f d) (1:Int))=(1:Int))))))))) else
  G (0<=a/\a < (b.length:Int)) (
  G ((a).toNat < b.length) (
  G (fits (d+(1:Int))) (
  G (fits (a+(1:Int))) (
  e (d+(1:Int)) (a+(1:Int)) (b.set (a).toNat false))))))))) else
  (zfA ((ix c.1 a).1,(((ix c.1 a).2).1,((((ix c.1 a).2).2).1,()))) g b).bind (fun h=>
  G (0<=a/\a < (b.length:Int)) (
  G ((a).toNat < b.length) (
  G (fits (a+(1:Int))) (
  e d (a+(1:Int)) (b.set (a).toNat h)))))) else
  some b
def zlz (b:Tp3) (c d:Int):(Int×Int×Tp11->Option Tp11)->Int×Int×Tp11->Option Tp11:=
  fun rec a=>zcu b c d (fun e f g=>rec (e,f,g)) a.1 a.2.1 a.2.2
def zek (a:Tp3) (b c d e:Int) (f:Tp11):Option Tp11:=LFix (zlz a b c ) (d,e,f)
def zgk (a:Tp3) (b c:Int):Option Tp11:=
  G (mkOK (a.1.length:Int) (a.1.length:Int) 1) (
  zek a b c (0:Int) (0:Int) (List.replicate ((a.1.length:Int)).toNat (false:Bool)))
theorem zn7 (b:Nat->Tf12) (c:Tf12) (m:∀ j k l,ChO (fun a=>b a j k l) (c j k l)) (d e f g h i):ChO (fun a=>zcu d e f (b a) g h i) (zcu d e f c g h i):=by
  unfold zcu
  repeat' with_reducible first|exact ChO.const _|exact m _ _ _|apply ChO.ite|apply ChO.G|(apply ChO.bind;intro _)
theorem zpx (b c d):Cn (zlz b c d):=fun i j e a=>zn7  _ _ (fun f g h=>e (f,g,h)) b c d a.1 a.2.1 a.2.2
theorem zkj (a b c d e f):zek a b c d e f=zcu a b c (zek a b c) d e f:=zav (zpx a b c) (d,e,f)

def zdj (c:Tp11) (d a:Int) (e:(Int->Option (Bool))) (b:Int):Option (Bool):=
  G (0<=b/\b < (c.length:Int)) (
  G (0<=a) (
  if (decide (¬ (ix c b)=(decide ((iand .i64 (ishr .i64 d a) (1:Int))=(1:Int)))))=true then
  some false else
  G (fits (a+(1:Int))) (
  e (a+(1:Int)))))
def zca (a:Tp3) (c:Tp11) (d:Int) (e:Int->Option (Bool)) (b:Int):Option (Bool):=
  if (decide (b < (a.2.1.length:Int)))=true then
  G (0<=b/\b < (a.2.1.length:Int)) (
  G (0<=ix a.2.1 b/\ix a.2.1 b < (a.1.length:Int)) (
  if (decide (((ix a.1 (ix a.2.1 b)).1)=(6:Int)))=true then
  G (0<=ix a.2.1 b/\ix a.2.1 b < (a.1.length:Int)) (
  zdj c d b e (((ix a.1 (ix a.2.1 b)).2).1)) else
  zdj c d b e (ix a.2.1 b))) else
  some true
def zjO (a:Tp3) (b:Tp11) (c:Int):(Int->Option (Bool))->Int->Option (Bool):=
  fun rec d=>zca a b c (fun e=>rec e) d
def zez (a:Tp3) (b:Tp11) (c d:Int):Option (Bool):=LFix (zjO a b c ) d
def zhL (a:Tp3) (b:Tp11) (c:Int):Option (Bool):=
  zez a b c (0:Int)
theorem zn5 (b:Nat->Int->Option (Bool)) (c:Int->Option (Bool)) (i:∀ h,ChO (fun a=>b a h) (c h)) (d e f g):ChO (fun a=>zdj d e f (b a) g) (zdj d e f c g):=by
  unfold zdj
  repeat' with_reducible first|exact ChO.const _|exact i _|apply ChO.ite|apply ChO.G
theorem zm4 (b:Nat->Int->Option (Bool)) (c:Int->Option (Bool)) (i:∀ h,ChO (fun a=>b a h) (c h)) (d e f g):ChO (fun a=>zca d e f (b a) g) (zca d e f c g):=by
  unfold zca
  repeat' with_reducible first|exact ChO.const _|exact i _|(apply zn5<;>assumption)|apply ChO.ite|apply ChO.G
theorem zn6 (a b c):Cn (zjO a b c):=fun g h d e=>zm4  _ _ (fun f=>d f) a b c e
theorem zi1 (a b c d):zez a b c d=zca a b c (zez a b c) d:=zav (zn6 a b c) d

def zkm (a b:Int):Option (Int):=
  G (0<=IntKind.wrap .u8 a/\IntKind.wrap .u8 a < (([0,1,2,2,3,3,3,3,4,4,4,4,4,4,4,4,5,5,5,5,5,5,5,5,5,5,5,5,5,5,5,5,6,6,6,6,6,6,6,6,6,6,6,6,6,6,6,6,6,6,6,6,6,6,6,6,6,6,6,6,6,6,6,6,7,7,7,7,7,7,7,7,7,7,7,7,7,7,7,7,7,7,7,7,7,7,7,7,7,7,7,7,7,7,7,7,7,7,7,7,7,7,7,7,7,7,7,7,7,7,7,7,7,7,7,7,7,7,7,7,7,7,7,7,7,7,7,7,8,8,8,8,8,8,8,8,8,8,8,8,8,8,8,8,8,8,8,8,8,8,8,8,8,8,8,8,8,8,8,8,8,8,8,8,8,8,8,8,8,8,8,8,8,8,8,8,8,8,8,8,8,8,8,8,8,8,8,8,8,8,8,8,8,8,8,8,8,8,8,8,8,8,8,8,8,8,8,8,8,8,8,8,8,8,8,8,8,8,8,8,8,8,8,8,8,8,8,8,8,8,8,8,8,8,8,8,8,8,8,8,8,8,8,8,8,8,8,8,8,8,8,8,8,8,8,8]).length:Int)) (
  G (fits (b+(IntKind.wrap .i64 (bAt ([0,1,2,2,3,3,3,3,4,4,4,4,4,4,4,4,5,5,5,5,5,5,5,5,5,5,5,5,5,5,5,5,6,6,6,6,6,6,6,6,6,6,6,6,6,6,6,6,6,6,6,6,6,6,6,6,6,6,6,6,6,6,6,6,7,7,7,7,7,7,7,7,7,7,7,7,7,7,7,7,7,7,7,7,7,7,7,7,7,7,7,7,7,7,7,7,7,7,7,7,7,7,7,7,7,7,7,7,7,7,7,7,7,7,7,7,7,7,7,7,7,7,7,7,7,7,7,7,8,8,8,8,8,8,8,8,8,8,8,8,8,8,8,8,8,8,8,8,8,8,8,8,8,8,8,8,8,8,8,8,8,8,8,8,8,8,8,8,8,8,8,8,8,8,8,8,8,8,8,8,8,8,8,8,8,8,8,8,8,8,8,8,8,8,8,8,8,8,8,8,8,8,8,8,8,8,8,8,8,8,8,8,8,8,8,8,8,8,8,8,8,8,8,8,8,8,8,8,8,8,8,8,8,8,8,8,8,8,8,8,8,8,8,8,8,8,8,8,8,8,8,8,8,8,8,8]) (IntKind.wrap .u8 a))))) (
  some (b+(IntKind.wrap .i64 (bAt ([0,1,2,2,3,3,3,3,4,4,4,4,4,4,4,4,5,5,5,5,5,5,5,5,5,5,5,5,5,5,5,5,6,6,6,6,6,6,6,6,6,6,6,6,6,6,6,6,6,6,6,6,6,6,6,6,6,6,6,6,6,6,6,6,7,7,7,7,7,7,7,7,7,7,7,7,7,7,7,7,7,7,7,7,7,7,7,7,7,7,7,7,7,7,7,7,7,7,7,7,7,7,7,7,7,7,7,7,7,7,7,7,7,7,7,7,7,7,7,7,7,7,7,7,7,7,7,7,8,8,8,8,8,8,8,8,8,8,8,8,8,8,8,8,8,8,8,8,8,8,8,8,8,8,8,8,8,8,8,8,8,8,8,8,8,8,8,8,8,8,8,8,8,8,8,8,8,8,8,8,8,8,8,8,8,8,8,8,8,8,8,8,8,8,8,8,8,8,8,8,8,8,8,8,8,8,8,8,8,8,8,8,8,8,8,8,8,8,8,8,8,8,8,8,8,8,8,8,8,8,8,8,8,8,8,8,8,8,8,8,8,8,8,8,8,8,8,8,8,8,8,8,8,8,8,8]) (IntKind.wrap .u8 a))))))
def zkl (a b:Int):Option (Int):=
  if (decide ((256:Int)<=a))=true then
  G (0<=(8:Int)) (
  G (fits (b+(8:Int))) (
  zkm (ishr .u64 a (8:Int)) (b+(8:Int)))) else
  zkm a b
def zkk (a b:Int):Option (Int):=
  if (decide ((65536:Int)<=a))=true then
  G (0<=(16:Int)) (
  G (fits (b+(16:Int))) (
  zkl (ishr .u64 a (16:Int)) (b+(16:Int)))) else
  zkl a b
def zrm (a:Int):Option (Int):=
  if (decide ((4294967296:Int)<=a))=true then
  G (0<=(32:Int)) (
  zkk (ishr .u64 a (32:Int)) (32:Int)) else
  zkk a (0:Int)

def zo1 (a:Int):Option (Int):=
  (zrm a).bind (fun b=>
  some b)

def zkM (a:Int):Option (Bool):=
  some (decide (¬ a=a))

def zjm (a b:Int):Option (Bool):=
  (zkM a).bind (fun c=>
  if c=true then
  (zkM b).bind (fun d=>
  if (!d)=true then
  some true else
  some (decide (a < b))) else
  some (decide (a < b)))

def zbb (e c:Int) (d:(Int->Tp12->Option Tp12)) (f:Int->Tp12->Option Tp12) (a:Int) (b:Tp12):Option Tp12:=
  if (decide (e < a))=true then
  G (0<=a/\a < (b.length:Int)) (
  G ((a).toNat < b.length) (
  G (fits (a - (1:Int))) (
  G (0<=a - (1:Int)/\a - (1:Int) < (b.length:Int)) (
  G ((a - (1:Int)).toNat < b.length) (
  (zjm (ix b a) (ix b (a - (1:Int)))).bind (fun g=>
  if g=true then
  G (fits (a - (1:Int))) (
  G (fits (a - (1:Int))) (
  G (0<=a - (1:Int)/\a - (1:Int) < (b.length:Int)) (
  G ((a - (1:Int)).toNat < b.length) (
  G (0<=a/\a < (b.length:Int)) (
  G ((a).toNat < b.length) (
  G (0<=a/\a < (b.length:Int)) (
  G ((a).toNat < b.length) (
  G (0<=a - (1:Int)/\a - (1:Int) < ((b.set (a).toNat (ix b (a - (1:Int)))).length:Int)) (
  G ((a - (1:Int)).toNat < (b.set (a).toNat (ix b (a - (1:Int)))).length) (
  G (fits (a - (1:Int))) (
  f (a - (1:Int)) ((b.set (a).toNat (ix b (a - (1:Int)))).set (a - (1:Int)).toNat (ix b a))))))))))))) else
  G (fits (c+(1:Int))) (
  d (c+(1:Int)) b))))))) else
  G (fits (c+(1:Int))) (
  d (c+(1:Int)) b)
def ze8 (b c:Int) (d:(Int->Tp12->Option Tp12)):(Int×Tp12->Option Tp12)->Int×Tp12->Option Tp12:=
  fun rec a=>zbb b c d (fun e f=>rec (e,f)) a.1 a.2
def zbr (a b:Int) (c:(Int->Tp12->Option Tp12)) (d:Int) (e:Tp12):Option Tp12:=LFix (ze8 a b c ) (d,e)
def zaT (c d:Int) (e:Int->Tp12->Option Tp12) (a:Int) (b:Tp12):Option Tp12:=
  if (decide (a < d))=true then
  zbr c a e a b else
  some b
def ze7 (b c:Int):(Int×Tp12->Option Tp12)->Int×Tp12->Option Tp12:=
  fun rec a=>zaT b c (fun d e=>rec (d,e)) a.1 a.2
def zcj (a b c:Int) (d:Tp12):Option Tp12:=LFix (ze7 a b ) (c,d)
def zcK (a b:Int) (c:Tp12):Option Tp12:=
  G (fits (a+(1:Int))) (
  zcj a b (a+(1:Int)) c)
theorem zer (d:Nat->Int->Tp12->Option Tp12) (e:Int->Tp12->Option Tp12) (l:∀ b c,ChO (fun a=>d a b c) (e b c)) (f:Nat->Int->Tp12->Option Tp12) (g:Int->Tp12->Option Tp12) (m:∀ b c,ChO (fun a=>f a b c) (g b c)) (h i j k):ChO (fun a=>zbb h i (d a) (f a) j k) (zbb h i e g j k):=by
  unfold zbb
  repeat' with_reducible first|exact ChO.const _|exact l _ _|exact m _ _|apply ChO.ite|apply ChO.G|(apply ChO.bind;intro _)
theorem zcL (a b c):Cn (ze8 b c a):=fun h i e d=>zer (fun _=>a) a (fun _ _=>ChO.const _) _ _ (fun f g=>e (f,g)) b c d.1 d.2
theorem ziI (a b c d e):zbr b c a d e=zbb b c a (zbr b c a) d e:=zav (zcL a b c) (d,e)
theorem ziH (d:Nat->Int->Tp12->Option Tp12) (e:Int->Tp12->Option Tp12) (k:∀ f g,ChO (fun c=>d c f g) (e f g)) (a b h i):ChO (fun c=>zbr a b (d c) h i) (zbr a b e h i):=by
  unfold zbr
  exact zcA (fun c=>(zcL (d c) a b).mono) (zcL e a b).mono (fun m n l j=>zer d e k _ _ (fun f g=>l (f,g)) a b j.1 j.2) _
theorem zhS (b:Nat->Int->Tp12->Option Tp12) (c:Int->Tp12->Option Tp12) (j:∀ h i,ChO (fun a=>b a h i) (c h i)) (d e f g):ChO (fun a=>zaT d e (b a) f g) (zaT d e c f g):=by
  unfold zaT
  repeat' with_reducible first|exact ChO.const _|exact j _ _|(apply ziH<;>assumption)|apply ChO.ite
theorem ziG (a b):Cn (ze7 a b):=fun g h d c=>zhS  _ _ (fun e f=>d (e,f)) a b c.1 c.2
theorem zeN (a b c d):zcj a b c d=zaT a b (zcj a b) c d:=zav (ziG a b) (c,d)

def zcT (c:Tp12) (a b d:Int):Option (Int×Int×Int):=
  G (0<=b/\b < (c.length:Int)) (
  G (0<=a/\a < (c.length:Int)) (
  (zjm (ix c b) (ix c a)).bind (fun e=>
  if e=true then
  G (fits (d+(1:Int))) (
  some (b,a,d+(1:Int))) else
  some (a,b,d))))

def zd0 (a:Tp12) (e f g h:Int):Option (Int×Int):=
  (zcT a e f h).bind (fun b=>
  (zcT a b.2.1 g b.2.2).bind (fun c=>
  (zcT a b.1 c.1 c.2.2).bind (fun d=>
  some (d.2.1,d.2.2))))

def zbE (c:Tp12) (a d:Int):Option (Int×Int):=
  G (fits (a - (1:Int))) (
  G (fits (a+(1:Int))) (
  (zd0 c (a - (1:Int)) a (a+(1:Int)) d).bind (fun b=>
  some (b.1,b.2))))

def zf8 (a b:Int):Option (Int×Int):=
  if (decide (b=(0:Int)))=true then
  some (a,(1:Int)) else
  if (decide (b=(12:Int)))=true then
  some (a,(2:Int)) else
  some (a,(0:Int))
def zco (b:Tp12) (c d e f:Int):Option (Int×Int):=
  (zd0 b c d e f).bind (fun a=>
  zf8 a.1 a.2)
def zdv (c:Tp12) (a b:Int):Option (Int×Int):=
  G (fits (b - a)) (
  G ((4:Int)≠0) (
  G (fits (Int.tdiv (b - a) (4:Int))) (
  G (fits ((Int.tdiv (b - a) (4:Int)) * (1:Int))) (
  G (fits (a+((Int.tdiv (b - a) (4:Int)) * (1:Int)))) (
  G ((4:Int)≠0) (
  G (fits (Int.tdiv (b - a) (4:Int))) (
  G (fits ((Int.tdiv (b - a) (4:Int)) * (2:Int))) (
  G (fits (a+((Int.tdiv (b - a) (4:Int)) * (2:Int)))) (
  G ((4:Int)≠0) (
  G (fits (Int.tdiv (b - a) (4:Int))) (
  G (fits ((Int.tdiv (b - a) (4:Int)) * (3:Int))) (
  G (fits (a+((Int.tdiv (b - a) (4:Int)) * (3:Int)))) (
  if (decide ((8:Int)<=(b - a)))=true then
  if (decide ((50:Int)<=(b - a)))=true then
  (zbE c (a+((Int.tdiv (b - a) (4:Int)) * (1:Int))) (0:Int)).bind (fun d=>
  (zbE c (a+((Int.tdiv (b - a) (4:Int)) * (2:Int))) d.2).bind (fun e=>
  (zbE c (a+((Int.tdiv (b - a) (4:Int)) * (3:Int))) e.2).bind (fun f=>
  zco c d.1 e.1 f.1 f.2))) else
  zco c (a+((Int.tdiv (b - a) (4:Int)) * (1:Int))) (a+((Int.tdiv (b - a) (4:Int)) * (2:Int))) (a+((Int.tdiv (b - a) (4:Int)) * (3:Int))) (0:Int) else
  zf8 (a+((Int.tdiv (b - a) (4:Int)) * (2:Int))) (0:Int))))))))))))))

def zbu (f c:Int) (d:(Int->Int->Tp12->Option (Bool×Tp12))) (e:Int) (g:Int->Tp12->Option (Bool×Tp12)) (a:Int) (b:Tp12):Option (Bool×Tp12):=
  if (decide (a < f))=true then
  G (0<=a/\a < (b.length:Int)) (
  G ((a).toNat < b.length) (
  G (fits (a - (1:Int))) (
  G (0<=a - (1:Int)/\a - (1:Int) < (b.length:Int)) (
  G ((a - (1:Int)).toNat < b.length) (
  (zjm (ix b a) (ix b (a - (1:Int)))).bind (fun h=>
  if (!h)=true then
  G (fits (c+(1:Int))) (
  d e (c+(1:Int)) b) else
  G (fits (a - (1:Int))) (
  G (fits (a - (1:Int))) (
  G (0<=a - (1:Int)/\a - (1:Int) < (b.length:Int)) (
  G ((a - (1:Int)).toNat < b.length) (
  G (0<=a/\a < (b.length:Int)) (
  G ((a).toNat < b.length) (
  G (0<=a/\a < (b.length:Int)) (
  G ((a).toNat < b.length) (
  G (0<=a - (1:Int)/\a - (1:Int) < ((b.set (a).toNat (ix b (a - (1:Int)))).length:Int)) (
  G ((a - (1:Int)).toNat < (b.set (a).toNat (ix b (a - (1:Int)))).length) (
  G (fits (a+(1:Int))) (
  g (a+(1:Int)) ((b.set (a).toNat (ix b (a - (1:Int)))).set (a - (1:Int)).toNat (ix b a))))))))))))))))))) else
  G (fits (c+(1:Int))) (
  d e (c+(1:Int)) b)
def zdp (b c:Int) (d:(Int->Int->Tp12->Option (Bool×Tp12))) (e:Int):(Int×Tp12->Option (Bool×Tp12))->Int×Tp12->Option (Bool×Tp12):=
  fun rec a=>zbu b c d e (fun f g=>rec (f,g)) a.1 a.2
def zbG (a b:Int) (c:(Int->Int->Tp12->Option (Bool×Tp12))) (d e:Int) (f:Tp12):Option (Bool×Tp12):=LFix (zdp a b c d ) (e,f)
def zaJ (b c:Int) (d:(Int->Int->Tp12->Option (Bool×Tp12))) (a:Int) (e:Tp12):Option (Bool×Tp12):=
  G (fits (b - a)) (
  if (decide ((2:Int)<=(b - a)))=true then
  G (fits (a+(1:Int))) (
  zbG b c d a (a+(1:Int)) e) else
  G (fits (c+(1:Int))) (
  d a (c+(1:Int)) e))
def zbt (c d:Int) (e:(Int->Int->Tp12->Option (Bool×Tp12))) (f:Int) (g:Int->Tp12->Option (Bool×Tp12)) (a:Int) (b:Tp12):Option (Bool×Tp12):=
  if (decide ((1:Int)<=a))=true then
  G (0<=a/\a < (b.length:Int)) (
  G ((a).toNat < b.length) (
  G (fits (a - (1:Int))) (
  G (0<=a - (1:Int)/\a - (1:Int) < (b.length:Int)) (
  G ((a - (1:Int)).toNat < b.length) (
  (zjm (ix b a) (ix b (a - (1:Int)))).bind (fun h=>
  if (!h)=true then
  zaJ c d e f b else
  G (fits (a - (1:Int))) (
  G (fits (a - (1:Int))) (
  G (0<=a - (1:Int)/\a - (1:Int) < (b.length:Int)) (
  G ((a - (1:Int)).toNat < b.length) (
  G (0<=a/\a < (b.length:Int)) (
  G ((a).toNat < b.length) (
  G (0<=a/\a < (b.length:Int)) (
  G ((a).toNat < b.length) (
  G (0<=a - (1:Int)/\a - (1:Int) < ((b.set (a).toNat (ix b (a - (1:Int)))).length:Int)) (
  G ((a - (1:Int)).toNat < (b.set (a).toNat (ix b (a - (1:Int)))).length) (
  G (fits (a - (1:Int))) (
  g (a - (1:Int)) ((b.set (a).toNat (ix b (a - (1:Int)))).set (a - (1:Int)).toNat (ix b a))))))))))))))))))) else
  zaJ c d e f b
def zdo (b c:Int) (d:(Int->Int->Tp12->Option (Bool×Tp12))) (e:Int):(Int×Tp12->Option (Bool×Tp12))->Int×Tp12->Option (Bool×Tp12):=
  fun rec a=>zbt b c d e (fun f g=>rec (f,g)) a.1 a.2
def zbF (a b:Int) (c:(Int->Int->Tp12->Option (Bool×Tp12))) (d e:Int) (f:Tp12):Option (Bool×Tp12):=LFix (zdo a b c d ) (e,f)
def zaM (d c e:Int) (b:Tp12) (f:(Int->Int->Tp12->Option (Bool×Tp12))) (a:Int):Option (Bool×Tp12):=
  if (decide (a=c))=true then
  some (true,b) else
  G (fits (c - d)) (
  if (decide ((c - d) < (50:Int)))=true then
  some (false,b) else
  G (fits (a - (1:Int))) (
  G (fits (a - (1:Int))) (
  G (0<=a - (1:Int)/\a - (1:Int) < (b.length:Int)) (
  G ((a - (1:Int)).toNat < b.length) (
  G (0<=a/\a < (b.length:Int)) (
  G ((a).toNat < b.length) (
  G (0<=a/\a < (b.length:Int)) (
  G ((a).toNat < b.length) (
  G (0<=a - (1:Int)/\a - (1:Int) < ((b.set (a).toNat (ix b (a - (1:Int)))).length:Int)) (
  G ((a - (1:Int)).toNat < (b.set (a).toNat (ix b (a - (1:Int)))).length) (
  G (fits (a - d)) (
  if (decide ((2:Int)<=(a - d)))=true then
  G (fits (a - (1:Int))) (
  zbF c e f a (a - (1:Int)) ((b.set (a).toNat (ix b (a - (1:Int)))).set (a - (1:Int)).toNat (ix b a))) else
  zaJ c e f a ((b.set (a).toNat (ix b (a - (1:Int)))).set (a - (1:Int)).toNat (ix b a))))))))))))))
def zay (d c e:Int) (b:Tp12) (f:(Int->Int->Tp12->Option (Bool×Tp12))) (g:Int->Option (Bool×Tp12)) (a:Int):Option (Bool×Tp12):=
  if (decide (a < c))=true then
  G (0<=a/\a < (b.length:Int)) (
  G ((a).toNat < b.length) (
  G (fits (a - (1:Int))) (
  G (0<=a - (1:Int)/\a - (1:Int) < (b.length:Int)) (
  G ((a - (1:Int)).toNat < b.length) (
  (zjm (ix b a) (ix b (a - (1:Int)))).bind (fun h=>
  if (!h)=true then
  G (fits (a+(1:Int))) (
  g (a+(1:Int))) else
  zaM d c e b f a)))))) else
  zaM d c e b f a
def zdD (a b c:Int) (d:Tp12) (e:(Int->Int->Tp12->Option (Bool×Tp12))):(Int->Option (Bool×Tp12))->Int->Option (Bool×Tp12):=
  fun rec f=>zay a b c d e (fun g=>rec g) f
def zaD (a b c:Int) (d:Tp12) (e:(Int->Int->Tp12->Option (Bool×Tp12))) (f:Int):Option (Bool×Tp12):=LFix (zdD a b c d e ) f
def zaI (c d:Int) (e:Int->Int->Tp12->Option (Bool×Tp12)) (f a:Int) (b:Tp12):Option (Bool×Tp12):=
  if (decide (a < (5:Int)))=true then
  zaD c d a b e f else
  some (false,b)
def zdC (b c:Int):(Int×Int×Tp12->Option (Bool×Tp12))->Int×Int×Tp12->Option (Bool×Tp12):=
  fun rec a=>zaI b c (fun d e f=>rec (d,e,f)) a.1 a.2.1 a.2.2
def zch (a b c d:Int) (e:Tp12):Option (Bool×Tp12):=LFix (zdC a b ) (c,d,e)
def zbS (a b:Int) (c:Tp12):Option (Bool×Tp12):=
  G (fits (a+(1:Int))) (
  zch a b (a+(1:Int)) (0:Int) c)
theorem zcP (d:Nat->Int->Int->Tp12->Option (Bool×Tp12)) (e:Int->Int->Tp12->Option (Bool×Tp12)) (n:∀ b c m,ChO (fun a=>d a b c m) (e b c m)) (f:Nat->Int->Tp12->Option (Bool×Tp12)) (g:Int->Tp12->Option (Bool×Tp12)) (o:∀ b c,ChO (fun a=>f a b c) (g b c)) (h i j k l):ChO (fun a=>zbu h i (d a) j (f a) k l) (zbu h i e j g k l):=by
  unfold zbu
  repeat' with_reducible first|exact ChO.const _|exact n _ _ _|exact o _ _|apply ChO.ite|apply ChO.G|(apply ChO.bind;intro _)
theorem zdb (a b c d):Cn (zdp b c a d):=fun i j f e=>zcP (fun _=>a) a (fun _ _ _=>ChO.const _) _ _ (fun g h=>f (g,h)) b c d e.1 e.2
theorem zgp (e:Nat->Int->Int->Tp12->Option (Bool×Tp12)) (f:Int->Int->Tp12->Option (Bool×Tp12)) (m:∀ g h l,ChO (fun d=>e d g h l) (f g h l)) (a b c i j):ChO (fun d=>zbG a b (e d) c i j) (zbG a b f c i j):=by
  unfold zbG
  exact zcA (fun d=>(zdb (e d) a b c).mono) (zdb f a b c).mono (fun o p n k=>zcP e f m _ _ (fun g h=>n (g,h)) a b c k.1 k.2) _
theorem zc9 (b:Nat->Int->Int->Tp12->Option (Bool×Tp12)) (c:Int->Int->Tp12->Option (Bool×Tp12)) (k:∀ h i j,ChO (fun a=>b a h i j) (c h i j)) (d e f g):ChO (fun a=>zaJ d e (b a) f g) (zaJ d e c f g):=by
  unfold zaJ
  repeat' with_reducible first|exact ChO.const _|exact k _ _ _|(apply zgp<;>assumption)|apply ChO.ite|apply ChO.G
theorem zcO (d:Nat->Int->Int->Tp12->Option (Bool×Tp12)) (e:Int->Int->Tp12->Option (Bool×Tp12)) (n:∀ b c m,ChO (fun a=>d a b c m) (e b c m)) (f:Nat->Int->Tp12->Option (Bool×Tp12)) (g:Int->Tp12->Option (Bool×Tp12)) (o:∀ b c,ChO (fun a=>f a b c) (g b c)) (h i j k l):ChO (fun a=>zbt h i (d a) j (f a) k l) (zbt h i e j g k l):=by
  unfold zbt
  repeat' with_reducible first|exact ChO.const _|exact n _ _ _|exact o _ _|(apply zc9<;>assumption)|apply ChO.ite|apply ChO.G|(apply ChO.bind;intro _)
theorem zda (a b c d):Cn (zdo b c a d):=fun i j f e=>zcO (fun _=>a) a (fun _ _ _=>ChO.const _) _ _ (fun g h=>f (g,h)) b c d e.1 e.2
theorem zgo (e:Nat->Int->Int->Tp12->Option (Bool×Tp12)) (f:Int->Int->Tp12->Option (Bool×Tp12)) (m:∀ g h l,ChO (fun d=>e d g h l) (f g h l)) (a b c i j):ChO (fun d=>zbF a b (e d) c i j) (zbF a b f c i j):=by
  unfold zbF
  exact zcA (fun d=>(zda (e d) a b c).mono) (zda f a b c).mono (fun o p n k=>zcO e f m _ _ (fun g h=>n (g,h)) a b c k.1 k.2) _
theorem zgF (b:Nat->Int->Int->Tp12->Option (Bool×Tp12)) (c:Int->Int->Tp12->Option (Bool×Tp12)) (l:∀ i j k,ChO (fun a=>b a i j k) (c i j k)) (d e f g h):ChO (fun a=>zaM d e f g (b a) h) (zaM d e f g c h):=by
  unfold zaM
  repeat' with_reducible first|exact ChO.const _|exact l _ _ _|(apply zc9<;>assumption)|(apply zgo<;>assumption)|apply ChO.ite|apply ChO.G
theorem zcY (c:Nat->Int->Int->Tp12->Option (Bool×Tp12)) (d:Int->Int->Tp12->Option (Bool×Tp12)) (n:∀ b l m,ChO (fun a=>c a b l m) (d b l m)) (e:Nat->Int->Option (Bool×Tp12)) (f:Int->Option (Bool×Tp12)) (o:∀ b,ChO (fun a=>e a b) (f b)) (g h i j k):ChO (fun a=>zay g h i j (c a) (e a) k) (zay g h i j d f k):=by
  unfold zay
  repeat' with_reducible first|exact ChO.const _|exact n _ _ _|exact o _|(apply zgF<;>assumption)|apply ChO.ite|apply ChO.G|(apply ChO.bind;intro _)
theorem zb4 (b a c d e):Cn (zdD a c d e b):=fun h i f g=>zcY (fun _=>b) b (fun _ _ _=>ChO.const _) _ _ (fun a=>f a) a c d e g
theorem zdq (a b c d e f):zaD b c d e a f=zay b c d e a (zaD b c d e a) f:=zav (zb4 a b c d e) f
theorem zgI (f:Nat->Int->Int->Tp12->Option (Bool×Tp12)) (g:Int->Int->Tp12->Option (Bool×Tp12)) (l:∀ i j k,ChO (fun e=>f e i j k) (g i j k)) (a b c d h):ChO (fun e=>zaD a b c d (f e) h) (zaD a b c d g h):=by
  unfold zaD
  exact zcA (fun e=>(zb4 (f e) a b c d).mono) (zb4 g a b c d).mono (fun o p m n=>zcY f g l _ _ (fun a=>m a) a b c d n) _
theorem zgc (b:Nat->Int->Int->Tp12->Option (Bool×Tp12)) (c:Int->Int->Tp12->Option (Bool×Tp12)) (l:∀ i j k,ChO (fun a=>b a i j k) (c i j k)) (d e f g h):ChO (fun a=>zaI d e (b a) f g h) (zaI d e c f g h):=by
  unfold zaI
  repeat' with_reducible first|exact ChO.const _|exact l _ _ _|(apply zgI<;>assumption)|apply ChO.ite
theorem zgG (b c):Cn (zdC b c):=fun h i d a=>zgc  _ _ (fun e f g=>d (e,f,g)) b c a.1 a.2.1 a.2.2
theorem zgH (a b c d e):zch a b c d e=zaI a b (zch a b) c d e:=zav (zgG a b) (c,d,e)

def zhC (a c:Int) (b:Tp12):Option Tp12:=
  if (decide ((0:Int) < a))=true then
  G (fits (a - (1:Int))) (
  G (0<=a - (1:Int)/\a - (1:Int) < (b.length:Int)) (
  G ((a - (1:Int)).toNat < b.length) (
  G (0<=c/\c < (b.length:Int)) (
  G ((c).toNat < b.length) (
  (zjm (ix b (a - (1:Int))) (ix b c)).bind (fun d=>
  if (!d)=true then
  none else
  none)))))) else
  none
def zdy (c:Tp12) (a e d:Int) (f:Bool):Option Tp12:=
  if f=true then
  (zbS a e c).bind (fun b=>
  if b.1=true then
  some b.2 else
  zhC a d b.2) else
  zhC a d c
def zbN (c:Tp12) (i:Tf4) (a b f:Int) (e g:Bool):Option Tp12:=
  G (fits (b - a)) (
  if (decide ((b - a)<=(12:Int)))=true then
  (zcK a b c).bind (fun h=>
  some h) else
  if (decide (f=(0:Int)))=true then
  none else
  if (!e)=true then
  none else
  (zdv c a b).bind (fun d=>
  if (decide (d.2=(2:Int)))=true then
  none else
  if e=true then
  if g=true then
  zdy c a b d.1 (decide (d.2=(1:Int))) else
  zdy c a b d.1 false else
  zdy c a b d.1 false))
def zhb (b:Tp12):(Int×Int×Int×Bool×Bool->Option Tp12)->Int×Int×Int×Bool×Bool->Option Tp12:=
  fun rec a=>zbN b (fun c d e f g=>rec (c,d,e,f,g)) a.1 a.2.1 a.2.2.1 a.2.2.2.1 a.2.2.2.2
def zfy (a:Tp12) (b c d:Int) (e f:Bool):Option Tp12:=LFix (zhb a ) (b,c,d,e,f)
def zeR (a b c:Int) (d:Tp12):Option Tp12:=
  zfy d a b c true true
theorem zjX (b:Nat->Tf4) (c:Tf4) (o:∀ j k l m n,ChO (fun a=>b a j k l m n) (c j k l m n)) (d e f g h i):ChO (fun a=>zbN d (b a) e f g h i) (zbN d c e f g h i):=by
  unfold zbN
  repeat' with_reducible first|exact ChO.const _|apply ChO.ite|apply ChO.G|(apply ChO.bind;intro _)
theorem zlj (b):Cn (zhb b):=fun i j c a=>zjX  _ _ (fun d e f g h=>c (d,e,f,g,h)) b a.1 a.2.1 a.2.2.1 a.2.2.2.1 a.2.2.2.2
theorem zlk (a b c d e f):zfy a b c d e f=zbN a (zfy a) b c d e f:=zav (zlj a) (b,c,d,e,f)

def zjc (a:Tp12):Option Tp12:=
  (zo1 (IntKind.wrap .u64 (a.length:Int))).bind (fun b=>
  (zeR (0:Int) (a.length:Int) b a).bind (fun c=>
  some c))

def zi4 (a b:Int):Option (Int):=
  (zkM a).bind (fun d=>
  (zkM b).bind (fun c=>
  if d=true then
  if c=true then
  some (0:Int) else
  some (-1:Int) else
  if c=true then
  some (1:Int) else
  if (decide (a < b))=true then
  some (-1:Int) else
  if (decide (b < a))=true then
  some (1:Int) else
  some (0:Int)))

def zfL (b:Tp12) (c:Int->Option (Int)) (a:Int):Option (Int):=
  if (decide (a < (b.length:Int)))=true then
  G (0<=a/\a < (b.length:Int)) (
  if (decide (¬ (ix b a)=(0:Int)))=true then
  some (ix b a) else
  G (fits (a+(1:Int))) (
  c (a+(1:Int)))) else
  some (0:Int)
def ztE (a:Tp12):(Int->Option (Int))->Int->Option (Int):=
  fun rec b=>zfL a (fun c=>rec c) b
def ztD (a:Tp12) (b:Int):Option (Int):=LFix (ztE a ) b
def zyV (a:Tp12):Option (Int):=
  ztD a (0:Int)
theorem zuR (b:Nat->Int->Option (Int)) (c:Int->Option (Int)) (g:∀ f,ChO (fun a=>b a f) (c f)) (d e):ChO (fun a=>zfL d (b a) e) (zfL d c e):=by
  unfold zfL
  repeat' with_reducible first|exact ChO.const _|exact g _|apply ChO.ite|apply ChO.G
theorem zwU (a):Cn (ztE a):=fun e f b c=>zuR  _ _ (fun d=>b d) a c
theorem zlF (a b):ztD a b=zfL a (ztD a) b:=zav (zwU a) b

def zbX (a b:Tp9):Option (Int):=
  (zi4 a.1 b.1).bind (fun c=>
  (zi4 a.2.1 b.2.1).bind (fun d=>
  (zi4 a.2.2.1 b.2.2.1).bind (fun e=>
  (zyV ([c,d,e])).bind (fun f=>
  some f))))

def zaS (e c:Int) (d:(Int->Tp8->Option Tp8)) (f:Int->Tp8->Option Tp8) (a:Int) (b:Tp8):Option Tp8:=
  if (decide (e < a))=true then
  G (0<=a/\a < (b.length:Int)) (
  G ((a).toNat < b.length) (
  G (fits (a - (1:Int))) (
  G (0<=a - (1:Int)/\a - (1:Int) < (b.length:Int)) (
  G ((a - (1:Int)).toNat < b.length) (
  (zbX (ix b a) (ix b (a - (1:Int)))).bind (fun g=>
  if (decide (g < (0:Int)))=true then
  G (fits (a - (1:Int))) (
  G (fits (a - (1:Int))) (
  G (0<=a - (1:Int)/\a - (1:Int) < (b.length:Int)) (
  G ((a - (1:Int)).toNat < b.length) (
  G (0<=a/\a < (b.length:Int)) (
  G ((a).toNat < b.length) (
  G (0<=a/\a < (b.length:Int)) (
  G ((a).toNat < b.length) (
  G (0<=a - (1:Int)/\a - (1:Int) < ((b.set (a).toNat (ix b (a - (1:Int)))).length:Int)) (
  G ((a - (1:Int)).toNat < (b.set (a).toNat (ix b (a - (1:Int)))).length) (
  G (fits (a - (1:Int))) (
  f (a - (1:Int)) ((b.set (a).toNat (ix b (a - (1:Int)))).set (a - (1:Int)).toNat (ix b a))))))))))))) else
  G (fits (c+(1:Int))) (
  d (c+(1:Int)) b))))))) else
  G (fits (c+(1:Int))) (
  d (c+(1:Int)) b)
def ze6 (b c:Int) (d:(Int->Tp8->Option Tp8)):(Int×Tp8->Option Tp8)->Int×Tp8->Option Tp8:=
  fun rec a=>zaS b c d (fun e f=>rec (e,f)) a.1 a.2
def za3 (a b:Int) (c:(Int->Tp8->Option Tp8)) (d:Int) (e:Tp8):Option Tp8:=LFix (ze6 a b c ) (d,e)
def zaR (c d:Int) (e:Int->Tp8->Option Tp8) (a:Int) (b:Tp8):Option Tp8:=
  if (decide (a < d))=true then
  za3 c a e a b else
  some b
def ze5 (b c:Int):(Int×Tp8->Option Tp8)->Int×Tp8->Option Tp8:=
  fun rec a=>zaR b c (fun d e=>rec (d,e)) a.1 a.2
def zci (a b c:Int) (d:Tp8):Option Tp8:=LFix (ze5 a b ) (c,d)
def zcI (a b:Int) (c:Tp8):Option Tp8:=
  G (fits (a+(1:Int))) (
  zci a b (a+(1:Int)) c)
theorem zeq (d:Nat->Int->Tp8->Option Tp8) (e:Int->Tp8->Option Tp8) (l:∀ b c,ChO (fun a=>d a b c) (e b c)) (f:Nat->Int->Tp8->Option Tp8) (g:Int->Tp8->Option Tp8) (m:∀ b c,ChO (fun a=>f a b c) (g b c)) (h i j k):ChO (fun a=>zaS h i (d a) (f a) j k) (zaS h i e g j k):=by
  unfold zaS
  repeat' with_reducible first|exact ChO.const _|exact l _ _|exact m _ _|apply ChO.ite|apply ChO.G|(apply ChO.bind;intro _)
theorem zcJ (a b c):Cn (ze6 b c a):=fun h i e d=>zeq (fun _=>a) a (fun _ _=>ChO.const _) _ _ (fun f g=>e (f,g)) b c d.1 d.2
theorem zeM (a b c d e):za3 b c a d e=zaS b c a (za3 b c a) d e:=zav (zcJ a b c) (d,e)
theorem ziF (d:Nat->Int->Tp8->Option Tp8) (e:Int->Tp8->Option Tp8) (k:∀ f g,ChO (fun c=>d c f g) (e f g)) (a b h i):ChO (fun c=>za3 a b (d c) h i) (za3 a b e h i):=by
  unfold za3
  exact zcA (fun c=>(zcJ (d c) a b).mono) (zcJ e a b).mono (fun m n l j=>zeq d e k _ _ (fun f g=>l (f,g)) a b j.1 j.2) _
theorem zhR (b:Nat->Int->Tp8->Option Tp8) (c:Int->Tp8->Option Tp8) (j:∀ h i,ChO (fun a=>b a h i) (c h i)) (d e f g):ChO (fun a=>zaR d e (b a) f g) (zaR d e c f g):=by
  unfold zaR
  repeat' with_reducible first|exact ChO.const _|exact j _ _|(apply ziF<;>assumption)|apply ChO.ite
theorem ziE (a b):Cn (ze5 a b):=fun g h d c=>zhR  _ _ (fun e f=>d (e,f)) a b c.1 c.2
theorem zeL (a b c d):zci a b c d=zaR a b (zci a b) c d:=zav (ziE a b) (c,d)

def zbB (first c:Int) (a:Tp8) (d:(Int->Tp8->Option Tp8)) (b:Int):Option Tp8:=
  G (fits (first+c)) (
  G (0<=first+c/\first+c < (a.length:Int)) (
  G ((first+c).toNat < a.length) (
  G (fits (first+b)) (
  G (0<=first+b/\first+b < (a.length:Int)) (
  G ((first+b).toNat < a.length) (
  (zbX (ix a (first+c)) (ix a (first+b))).bind (fun e=>
  if (!(decide (e < (0:Int))))=true then
  some a else
  G (fits (first+c)) (
  G (fits (first+b)) (
  G (fits (first+b)) (
  G (0<=first+b/\first+b < (a.length:Int)) (
  G ((first+b).toNat < a.length) (
  G (fits (first+c)) (
  G (0<=first+c/\first+c < (a.length:Int)) (
  G ((first+c).toNat < a.length) (
  G (0<=first+c/\first+c < (a.length:Int)) (
  G ((first+c).toNat < a.length) (
  G (0<=first+b/\first+b < ((a.set (first+c).toNat (ix a (first+b))).length:Int)) (
  G ((first+b).toNat < (a.set (first+c).toNat (ix a (first+b))).length) (
  d b ((a.set (first+c).toNat (ix a (first+b))).set (first+b).toNat (ix a (first+c))))))))))))))))))))))
def zbA (first a:Int) (b:Tp8) (c:(Int->Tp8->Option Tp8)) (d:Bool):Option Tp8:=
  if d=true then
  G (fits ((((2:Int) * a)+(1:Int))+(1:Int))) (
  zbB first a b c ((((2:Int) * a)+(1:Int))+(1:Int))) else
  zbB first a b c (((2:Int) * a)+(1:Int))
def zbp (c first:Int) (d:Int->Tp8->Option Tp8) (a:Int) (b:Tp8):Option Tp8:=
  G (fits ((2:Int) * a)) (
  G (fits (((2:Int) * a)+(1:Int))) (
  if (decide (c<=(((2:Int) * a)+(1:Int))))=true then
  some b else
  G (fits ((((2:Int) * a)+(1:Int))+(1:Int))) (
  if (decide (((((2:Int) * a)+(1:Int))+(1:Int)) < c))=true then
  G (fits (first+(((2:Int) * a)+(1:Int)))) (
  G (0<=first+(((2:Int) * a)+(1:Int))/\first+(((2:Int) * a)+(1:Int)) < (b.length:Int)) (
  G ((first+(((2:Int) * a)+(1:Int))).toNat < b.length) (
  G (fits (first+(((2:Int) * a)+(1:Int)))) (
  G (fits ((first+(((2:Int) * a)+(1:Int)))+(1:Int))) (
  G (0<=(first+(((2:Int) * a)+(1:Int)))+(1:Int)/\(first+(((2:Int) * a)+(1:Int)))+(1:Int) < (b.length:Int)) (
  G (((first+(((2:Int) * a)+(1:Int)))+(1:Int)).toNat < b.length) (
  (zbX (ix b (first+(((2:Int) * a)+(1:Int)))) (ix b ((first+(((2:Int) * a)+(1:Int)))+(1:Int)))).bind (fun e=>
  zbA first a b d (decide (e < (0:Int))))))))))) else
  zbA first a b d false)))
def zgV (b first:Int):(Int×Tp8->Option Tp8)->Int×Tp8->Option Tp8:=
  fun rec a=>zbp b first (fun c d=>rec (c,d)) a.1 a.2
def zbV (a first b:Int) (c:Tp8):Option Tp8:=LFix (zgV a first ) (b,c)
def zdc (a b first:Int) (c:Tp8):Option Tp8:=
  zbV b first a c
theorem zkC (b:Nat->Int->Tp8->Option Tp8) (c:Int->Tp8->Option Tp8) (i:∀ g h,ChO (fun a=>b a g h) (c g h)) (first d e f):ChO (fun a=>zbB first d e (b a) f) (zbB first d e c f):=by
  unfold zbB
  repeat' with_reducible first|exact ChO.const _|exact i _ _|apply ChO.ite|apply ChO.G|(apply ChO.bind;intro _)
theorem zkB (b:Nat->Int->Tp8->Option Tp8) (c:Int->Tp8->Option Tp8) (i:∀ g h,ChO (fun a=>b a g h) (c g h)) (first d e f):ChO (fun a=>zbA first d e (b a) f) (zbA first d e c f):=by
  unfold zbA
  repeat' with_reducible first|exact ChO.const _|exact i _ _|(apply zkC<;>assumption)|apply ChO.ite|apply ChO.G
theorem zjK (b:Nat->Int->Tp8->Option Tp8) (c:Int->Tp8->Option Tp8) (i:∀ g h,ChO (fun a=>b a g h) (c g h)) (d first e f):ChO (fun a=>zbp d first (b a) e f) (zbp d first c e f):=by
  unfold zbp
  repeat' with_reducible first|exact ChO.const _|exact i _ _|(apply zkB<;>assumption)|apply ChO.ite|apply ChO.G|(apply ChO.bind;intro _)
theorem zkD (a first):Cn (zgV a first):=fun f g c b=>zjK  _ _ (fun d e=>c (d,e)) a first b.1 b.2
theorem zgz (a first b c):zbV a first b c=zbp a first (zbV a first) b c:=zav (zkD a first) (b,c)

def zbk (a:Int) (d:Int->Tp8->Option Tp8) (b:Int) (c:Tp8):Option Tp8:=
  if (decide ((0:Int)<=b))=true then
  G (fits (a+b)) (
  G (fits (a+b)) (
  G (0<=a+b/\a+b < (c.length:Int)) (
  G ((a+b).toNat < c.length) (
  G (0<=a/\a < (c.length:Int)) (
  G ((a).toNat < c.length) (
  G (0<=a/\a < (c.length:Int)) (
  G ((a).toNat < c.length) (
  G (0<=a+b/\a+b < ((c.set (a).toNat (ix c (a+b))).length:Int)) (
  G ((a+b).toNat < (c.set (a).toNat (ix c (a+b))).length) (
  (zdc (0:Int) b a ((c.set (a).toNat (ix c (a+b))).set (a+b).toNat (ix c a))).bind (fun e=>
  G (fits (b - (1:Int))) (
  d (b - (1:Int)) e)))))))))))) else
  some c
def zgS (b:Int):(Int×Tp8->Option Tp8)->Int×Tp8->Option Tp8:=
  fun rec a=>zbk b (fun c d=>rec (c,d)) a.1 a.2
def zdx (a b:Int) (c:Tp8):Option Tp8:=LFix (zgS a ) (b,c)
def zbj (a c:Int) (e:Int->Tp8->Option Tp8) (b:Int) (d:Tp8):Option Tp8:=
  if (decide ((0:Int)<=b))=true then
  (zdc b (c - a) a d).bind (fun f=>
  G (fits (b - (1:Int))) (
  e (b - (1:Int)) f)) else
  G (fits ((c - a) - (1:Int))) (
  zdx a ((c - a) - (1:Int)) d)
def zgR (b c:Int):(Int×Tp8->Option Tp8)->Int×Tp8->Option Tp8:=
  fun rec a=>zbj b c (fun d e=>rec (d,e)) a.1 a.2
def zdw (a b c:Int) (d:Tp8):Option Tp8:=LFix (zgR a b ) (c,d)
def zeA (a b:Int) (c:Tp8):Option Tp8:=
  G (fits (b - a)) (
  G (fits ((b - a) - (1:Int))) (
  G ((2:Int)≠0) (
  G (fits (Int.tdiv ((b - a) - (1:Int)) (2:Int))) (
  zdw a b (Int.tdiv ((b - a) - (1:Int)) (2:Int)) c))))
theorem zjD (b:Nat->Int->Tp8->Option Tp8) (c:Int->Tp8->Option Tp8) (i:∀ g h,ChO (fun a=>b a g h) (c g h)) (d e f):ChO (fun a=>zbk d (b a) e f) (zbk d c e f):=by
  unfold zbk
  repeat' with_reducible first|exact ChO.const _|exact i _ _|apply ChO.ite|apply ChO.G|(apply ChO.bind;intro _)
theorem zkw (a):Cn (zgS a):=fun f g c b=>zjD  _ _ (fun d e=>c (d,e)) a b.1 b.2
theorem zgw (a b c):zdx a b c=zbk a (zdx a) b c:=zav (zkw a) (b,c)
theorem zjC (b:Nat->Int->Tp8->Option Tp8) (c:Int->Tp8->Option Tp8) (j:∀ h i,ChO (fun a=>b a h i) (c h i)) (d e f g):ChO (fun a=>zbj d e (b a) f g) (zbj d e c f g):=by
  unfold zbj
  repeat' with_reducible first|exact ChO.const _|exact j _ _|apply ChO.ite|apply ChO.G|(apply ChO.bind;intro _)
theorem zkv (a b):Cn (zgR a b):=fun g h d c=>zjC  _ _ (fun e f=>d (e,f)) a b c.1 c.2
theorem zgv (a b c d):zdw a b c d=zbj a b (zdw a b) c d:=zav (zkv a b) (c,d)

def zeO (b:Int):Option (Int):=
  (zo1 (IntKind.wrap .u64 b)).bind (fun a=>
  G (0<=a) (
  some (ishl .u64 (1:Int) a)))

def zhn (a:Int):Option (Int×Int):=
  G (0<=(13:Int)) (
  G (0<=(7:Int)) (
  G (0<=(17:Int)) (
  some (ixor .u64 (ixor .u64 (ixor .u64 a (ishl .u64 a (13:Int))) (ishr .u64 (ixor .u64 a (ishl .u64 a (13:Int))) (7:Int))) (ishl .u64 (ixor .u64 (ixor .u64 a (ishl .u64 a (13:Int))) (ishr .u64 (ixor .u64 a (ishl .u64 a (13:Int))) (7:Int))) (17:Int)),ixor .u64 (ixor .u64 (ixor .u64 a (ishl .u64 a (13:Int))) (ishr .u64 (ixor .u64 a (ishl .u64 a (13:Int))) (7:Int))) (ishl .u64 (ixor .u64 (ixor .u64 a (ishl .u64 a (13:Int))) (ishr .u64 (ixor .u64 a (ishl .u64 a (13:Int))) (7:Int))) (17:Int))))))

def za2 (b c:Int) (a:Tp8) (e:(Int->Tp8->Int->Option Tp8)) (f d:Int):Option Tp8:=
  G (fits (b+d)) (
  G (fits (b+d)) (
  G (0<=b+d/\b+d < (a.length:Int)) (
  G ((b+d).toNat < a.length) (
  G (0<=c/\c < (a.length:Int)) (
  G ((c).toNat < a.length) (
  G (0<=c/\c < (a.length:Int)) (
  G ((c).toNat < a.length) (
  G (0<=b+d/\b+d < ((a.set (c).toNat (ix a (b+d))).length:Int)) (
  G ((b+d).toNat < (a.set (c).toNat (ix a (b+d))).length) (
  G (fits (c+(1:Int))) (
  e (c+(1:Int)) ((a.set (c).toNat (ix a (b+d))).set (b+d).toNat (ix a c)) f)))))))))))
def zaQ (a b d:Int) (g:Int->Tp8->Int->Option Tp8) (e:Int) (f:Tp8) (h:Int):Option Tp8:=
  G ((4:Int)≠0) (
  G (fits (Int.tdiv (b - a) (4:Int))) (
  G (fits ((Int.tdiv (b - a) (4:Int)) * (2:Int))) (
  G (fits (a+((Int.tdiv (b - a) (4:Int)) * (2:Int)))) (
  G (fits ((a+((Int.tdiv (b - a) (4:Int)) * (2:Int)))+(1:Int))) (
  if (decide (e<=((a+((Int.tdiv (b - a) (4:Int)) * (2:Int)))+(1:Int))))=true then
  (zhn h).bind (fun c=>
  if (decide ((b - a)<=(IntKind.wrap .i64 (iand .u64 c.1 (IntKind.wrap .u64 (d - (1:Int)))))))=true then
  G (fits ((IntKind.wrap .i64 (iand .u64 c.1 (IntKind.wrap .u64 (d - (1:Int))))) - (b - a))) (
  za2 a e f g c.2 ((IntKind.wrap .i64 (iand .u64 c.1 (IntKind.wrap .u64 (d - (1:Int))))) - (b - a))) else
  za2 a e f g c.2 (IntKind.wrap .i64 (iand .u64 c.1 (IntKind.wrap .u64 (d - (1:Int)))))) else
  some f)))))
def ze4 (b c d:Int):(Int×Tp8×Int->Option Tp8)->Int×Tp8×Int->Option Tp8:=
  fun rec a=>zaQ b c d (fun e f g=>rec (e,f,g)) a.1 a.2.1 a.2.2
def zbL (a b c d:Int) (e:Tp8) (f:Int):Option Tp8:=LFix (ze4 a b c ) (d,e,f)
def zcH (a b:Int) (c:Tp8):Option Tp8:=
  G (fits (b - a)) (
  if (decide ((8:Int)<=(b - a)))=true then
  (zeO (b - a)).bind (fun d=>
  G ((4:Int)≠0) (
  G (fits (Int.tdiv (b - a) (4:Int))) (
  G (fits ((Int.tdiv (b - a) (4:Int)) * (2:Int))) (
  G (fits (a+((Int.tdiv (b - a) (4:Int)) * (2:Int)))) (
  G (fits ((a+((Int.tdiv (b - a) (4:Int)) * (2:Int))) - (1:Int))) (
  zbL a b d ((a+((Int.tdiv (b - a) (4:Int)) * (2:Int))) - (1:Int)) c (IntKind.wrap .u64 (b - a)))))))) else
  some c)
theorem ziC (b:Nat->Int->Tp8->Int->Option Tp8) (c:Int->Tp8->Int->Option Tp8) (l:∀ i j k,ChO (fun a=>b a i j k) (c i j k)) (d e f g h):ChO (fun a=>za2 d e f (b a) g h) (za2 d e f c g h):=by
  unfold za2
  repeat' with_reducible first|exact ChO.const _|exact l _ _ _|apply ChO.G
theorem zhQ (b:Nat->Int->Tp8->Int->Option Tp8) (c:Int->Tp8->Int->Option Tp8) (m:∀ j k l,ChO (fun a=>b a j k l) (c j k l)) (d e f g h i):ChO (fun a=>zaQ d e f (b a) g h i) (zaQ d e f c g h i):=by
  unfold zaQ
  repeat' with_reducible first|exact ChO.const _|exact m _ _ _|(apply ziC<;>assumption)|apply ChO.ite|apply ChO.G|(apply ChO.bind;intro _)
theorem ziD (b c d):Cn (ze4 b c d):=fun i j e a=>zhQ  _ _ (fun f g h=>e (f,g,h)) b c d a.1 a.2.1 a.2.2
theorem zeK (a b c d e f):zbL a b c d e f=zaQ a b c (zbL a b c) d e f:=zav (ziD a b c) (d,e,f)

def zcS (c:Tp8) (a b d:Int):Option (Int×Int×Int):=
  G (0<=b/\b < (c.length:Int)) (
  G (0<=a/\a < (c.length:Int)) (
  (zbX (ix c b) (ix c a)).bind (fun e=>
  if (decide (e < (0:Int)))=true then
  G (fits (d+(1:Int))) (
  some (b,a,d+(1:Int))) else
  some (a,b,d))))

def zdZ (a:Tp8) (e f g h:Int):Option (Int×Int):=
  (zcS a e f h).bind (fun b=>
  (zcS a b.2.1 g b.2.2).bind (fun c=>
  (zcS a b.1 c.1 c.2.2).bind (fun d=>
  some (d.2.1,d.2.2))))

def zbD (c:Tp8) (a d:Int):Option (Int×Int):=
  G (fits (a - (1:Int))) (
  G (fits (a+(1:Int))) (
  (zdZ c (a - (1:Int)) a (a+(1:Int)) d).bind (fun b=>
  some (b.1,b.2))))

def zcn (a b:Int):Option (Int×Int):=
  if (decide (b=(0:Int)))=true then
  some (a,(1:Int)) else
  if (decide (b=(12:Int)))=true then
  some (a,(2:Int)) else
  some (a,(0:Int))
def zcm (b:Tp8) (c d e f:Int):Option (Int×Int):=
  (zdZ b c d e f).bind (fun a=>
  zcn a.1 a.2)
def zdu (c:Tp8) (a b:Int):Option (Int×Int):=
  G (fits (b - a)) (
  G ((4:Int)≠0) (
  G (fits (Int.tdiv (b - a) (4:Int))) (
  G (fits ((Int.tdiv (b - a) (4:Int)) * (1:Int))) (
  G (fits (a+((Int.tdiv (b - a) (4:Int)) * (1:Int)))) (
  G ((4:Int)≠0) (
  G (fits (Int.tdiv (b - a) (4:Int))) (
  G (fits ((Int.tdiv (b - a) (4:Int)) * (2:Int))) (
  G (fits (a+((Int.tdiv (b - a) (4:Int)) * (2:Int)))) (
  G ((4:Int)≠0) (
  G (fits (Int.tdiv (b - a) (4:Int))) (
  G (fits ((Int.tdiv (b - a) (4:Int)) * (3:Int))) (
  G (fits (a+((Int.tdiv (b - a) (4:Int)) * (3:Int)))) (
  if (decide ((8:Int)<=(b - a)))=true then
  if (decide ((50:Int)<=(b - a)))=true then
  (zbD c (a+((Int.tdiv (b - a) (4:Int)) * (1:Int))) (0:Int)).bind (fun d=>
  (zbD c (a+((Int.tdiv (b - a) (4:Int)) * (2:Int))) d.2).bind (fun e=>
  (zbD c (a+((Int.tdiv (b - a) (4:Int)) * (3:Int))) e.2).bind (fun f=>
  zcm c d.1 e.1 f.1 f.2))) else
  zcm c (a+((Int.tdiv (b - a) (4:Int)) * (1:Int))) (a+((Int.tdiv (b - a) (4:Int)) * (2:Int))) (a+((Int.tdiv (b - a) (4:Int)) * (3:Int))) (0:Int) else
  zcn (a+((Int.tdiv (b - a) (4:Int)) * (2:Int))) (0:Int))))))))))))))

def zaY (d:Int->Int->Tp8->Option Tp8) (b c:Int) (a:Tp8):Option Tp8:=
  if (decide (b < c))=true then
  G (0<=c/\c < (a.length:Int)) (
  G ((c).toNat < a.length) (
  G (0<=b/\b < (a.length:Int)) (
  G ((b).toNat < a.length) (
  G (0<=b/\b < (a.length:Int)) (
  G ((b).toNat < a.length) (
  G (0<=c/\c < ((a.set (b).toNat (ix a c)).length:Int)) (
  G ((c).toNat < (a.set (b).toNat (ix a c)).length) (
  G (fits (b+(1:Int))) (
  G (fits (c - (1:Int))) (
  d (b+(1:Int)) (c - (1:Int)) ((a.set (b).toNat (ix a c)).set (c).toNat (ix a b)))))))))))) else
  some a
def zfz:(Int×Int×Tp8->Option Tp8)->Int×Int×Tp8->Option Tp8:=
  fun rec a=>zaY (fun b c d=>rec (b,c,d)) a.1 a.2.1 a.2.2
def zcp (a b:Int) (c:Tp8):Option Tp8:=LFix (zfz ) (a,b,c)
def zc5 (b a:Int) (c:Tp8):Option Tp8:=
  G (fits (a - (1:Int))) (
  zcp b (a - (1:Int)) c)
theorem zio (b:Nat->Int->Int->Tp8->Option Tp8) (c:Int->Int->Tp8->Option Tp8) (j:∀ g h i,ChO (fun a=>b a g h i) (c g h i)) (d e f):ChO (fun a=>zaY (b a) d e f) (zaY c d e f):=by
  unfold zaY
  repeat' with_reducible first|exact ChO.const _|exact j _ _ _|apply ChO.ite|apply ChO.G
theorem ziS:Cn (zfz):=fun f g b a=>zio  _ _ (fun c d e=>b (c,d,e))  a.1 a.2.1 a.2.2
theorem zfh (a b c):zcp a b c=zaY (zcp) a b c:=zav (ziS ) (a,b,c)

def zau (f c:Int) (d:(Int->Int->Tp8->Option Tp5)) (e:Int) (g:Int->Tp8->Option Tp5) (a:Int) (b:Tp8):Option Tp5:=
  if (decide (a < f))=true then
  G (0<=a/\a < (b.length:Int)) (
  G ((a).toNat < b.length) (
  G (fits (a - (1:Int))) (
  G (0<=a - (1:Int)/\a - (1:Int) < (b.length:Int)) (
  G ((a - (1:Int)).toNat < b.length) (
  (zbX (ix b a) (ix b (a - (1:Int)))).bind (fun h=>
  if (!(decide (h < (0:Int))))=true then
  G (fits (c+(1:Int))) (
  d e (c+(1:Int)) b) else
  G (fits (a - (1:Int))) (
  G (fits (a - (1:Int))) (
  G (0<=a - (1:Int)/\a - (1:Int) < (b.length:Int)) (
  G ((a - (1:Int)).toNat < b.length) (
  G (0<=a/\a < (b.length:Int)) (
  G ((a).toNat < b.length) (
  G (0<=a/\a < (b.length:Int)) (
  G ((a).toNat < b.length) (
  G (0<=a - (1:Int)/\a - (1:Int) < ((b.set (a).toNat (ix b (a - (1:Int)))).length:Int)) (
  G ((a - (1:Int)).toNat < (b.set (a).toNat (ix b (a - (1:Int)))).length) (
  G (fits (a+(1:Int))) (
  g (a+(1:Int)) ((b.set (a).toNat (ix b (a - (1:Int)))).set (a - (1:Int)).toNat (ix b a))))))))))))))))))) else
  G (fits (c+(1:Int))) (
  d e (c+(1:Int)) b)
def zdl (b c:Int) (d:(Int->Int->Tp8->Option Tp5)) (e:Int):(Int×Tp8->Option Tp5)->Int×Tp8->Option Tp5:=
  fun rec a=>zau b c d e (fun f g=>rec (f,g)) a.1 a.2
def zaA (a b:Int) (c:(Int->Int->Tp8->Option Tp5)) (d e:Int) (f:Tp8):Option Tp5:=LFix (zdl a b c d ) (e,f)
def zal (b c:Int) (d:(Int->Int->Tp8->Option Tp5)) (a:Int) (e:Tp8):Option Tp5:=
  G (fits (b - a)) (
  if (decide ((2:Int)<=(b - a)))=true then
  G (fits (a+(1:Int))) (
  zaA b c d a (a+(1:Int)) e) else
  G (fits (c+(1:Int))) (
  d a (c+(1:Int)) e))
def zat (c d:Int) (e:(Int->Int->Tp8->Option Tp5)) (f:Int) (g:Int->Tp8->Option Tp5) (a:Int) (b:Tp8):Option Tp5:=
  if (decide ((1:Int)<=a))=true then
  G (0<=a/\a < (b.length:Int)) (
  G ((a).toNat < b.length) (
  G (fits (a - (1:Int))) (
  G (0<=a - (1:Int)/\a - (1:Int) < (b.length:Int)) (
  G ((a - (1:Int)).toNat < b.length) (
  (zbX (ix b a) (ix b (a - (1:Int)))).bind (fun h=>
  if (!(decide (h < (0:Int))))=true then
  zal c d e f b else
  G (fits (a - (1:Int))) (
  G (fits (a - (1:Int))) (
  G (0<=a - (1:Int)/\a - (1:Int) < (b.length:Int)) (
  G ((a - (1:Int)).toNat < b.length) (
  G (0<=a/\a < (b.length:Int)) (
  G ((a).toNat < b.length) (
  G (0<=a/\a < (b.length:Int)) (
  G ((a).toNat < b.length) (
  G (0<=a - (1:Int)/\a - (1:Int) < ((b.set (a).toNat (ix b (a - (1:Int)))).length:Int)) (
  G ((a - (1:Int)).toNat < (b.set (a).toNat (ix b (a - (1:Int)))).length) (
  G (fits (a - (1:Int))) (
  g (a - (1:Int)) ((b.set (a).toNat (ix b (a - (1:Int)))).set (a - (1:Int)).toNat (ix b a))))))))))))))))))) else
  zal c d e f b
def zdk (b c:Int) (d:(Int->Int->Tp8->Option Tp5)) (e:Int):(Int×Tp8->Option Tp5)->Int×Tp8->Option Tp5:=
  fun rec a=>zat b c d e (fun f g=>rec (f,g)) a.1 a.2
def zaz (a b:Int) (c:(Int->Int->Tp8->Option Tp5)) (d e:Int) (f:Tp8):Option Tp5:=LFix (zdk a b c d ) (e,f)
def zaB (d c e:Int) (b:Tp8) (f:(Int->Int->Tp8->Option Tp5)) (a:Int):Option Tp5:=
  if (decide (a=c))=true then
  some (true,b) else
  G (fits (c - d)) (
  if (decide ((c - d) < (50:Int)))=true then
  some (false,b) else
  G (fits (a - (1:Int))) (
  G (fits (a - (1:Int))) (
  G (0<=a - (1:Int)/\a - (1:Int) < (b.length:Int)) (
  G ((a - (1:Int)).toNat < b.length) (
  G (0<=a/\a < (b.length:Int)) (
  G ((a).toNat < b.length) (
  G (0<=a/\a < (b.length:Int)) (
  G ((a).toNat < b.length) (
  G (0<=a - (1:Int)/\a - (1:Int) < ((b.set (a).toNat (ix b (a - (1:Int)))).length:Int)) (
  G ((a - (1:Int)).toNat < (b.set (a).toNat (ix b (a - (1:Int)))).length) (
  G (fits (a - d)) (
  if (decide ((2:Int)<=(a - d)))=true then
  G (fits (a - (1:Int))) (
  zaz c e f a (a - (1:Int)) ((b.set (a).toNat (ix b (a - (1:Int)))).set (a - (1:Int)).toNat (ix b a))) else
  zal c e f a ((b.set (a).toNat (ix b (a - (1:Int)))).set (a - (1:Int)).toNat (ix b a))))))))))))))
def zax (d c e:Int) (b:Tp8) (f:(Int->Int->Tp8->Option Tp5)) (g:Int->Option Tp5) (a:Int):Option Tp5:=
  if (decide (a < c))=true then
  G (0<=a/\a < (b.length:Int)) (
  G ((a).toNat < b.length) (
  G (fits (a - (1:Int))) (
  G (0<=a - (1:Int)/\a - (1:Int) < (b.length:Int)) (
  G ((a - (1:Int)).toNat < b.length) (
  (zbX (ix b a) (ix b (a - (1:Int)))).bind (fun h=>
  if (!(decide (h < (0:Int))))=true then
  G (fits (a+(1:Int))) (
  g (a+(1:Int))) else
  zaB d c e b f a)))))) else
  zaB d c e b f a
def zdB (a b c:Int) (d:Tp8) (e:(Int->Int->Tp8->Option Tp5)):(Int->Option Tp5)->Int->Option Tp5:=
  fun rec f=>zax a b c d e (fun g=>rec g) f
def zaC (a b c:Int) (d:Tp8) (e:(Int->Int->Tp8->Option Tp5)) (f:Int):Option Tp5:=LFix (zdB a b c d e ) f
def zaw (c d:Int) (e:Int->Int->Tp8->Option Tp5) (f a:Int) (b:Tp8):Option Tp5:=
  if (decide (a < (5:Int)))=true then
  zaC c d a b e f else
  some (false,b)
def zdA (b c:Int):(Int×Int×Tp8->Option Tp5)->Int×Int×Tp8->Option Tp5:=
  fun rec a=>zaw b c (fun d e f=>rec (d,e,f)) a.1 a.2.1 a.2.2
def zba (a b c d:Int) (e:Tp8):Option Tp5:=LFix (zdA a b ) (c,d,e)
def zbR (a b:Int) (c:Tp8):Option Tp5:=
  G (fits (a+(1:Int))) (
  zba a b (a+(1:Int)) (0:Int) c)
theorem zcN (d:Nat->Int->Int->Tp8->Option Tp5) (e:Int->Int->Tp8->Option Tp5) (n:∀ b c m,ChO (fun a=>d a b c m) (e b c m)) (f:Nat->Int->Tp8->Option Tp5) (g:Int->Tp8->Option Tp5) (o:∀ b c,ChO (fun a=>f a b c) (g b c)) (h i j k l):ChO (fun a=>zau h i (d a) j (f a) k l) (zau h i e j g k l):=by
  unfold zau
  repeat' with_reducible first|exact ChO.const _|exact n _ _ _|exact o _ _|apply ChO.ite|apply ChO.G|(apply ChO.bind;intro _)
theorem zb0 (a b c d):Cn (zdl b c a d):=fun i j f e=>zcN (fun _=>a) a (fun _ _ _=>ChO.const _) _ _ (fun g h=>f (g,h)) b c d e.1 e.2
theorem zc8 (a b c d e f):zaA b c a d e f=zau b c a d (zaA b c a d) e f:=zav (zb0 a b c d) (e,f)
theorem zgn (e:Nat->Int->Int->Tp8->Option Tp5) (f:Int->Int->Tp8->Option Tp5) (m:∀ g h l,ChO (fun d=>e d g h l) (f g h l)) (a b c i j):ChO (fun d=>zaA a b (e d) c i j) (zaA a b f c i j):=by
  unfold zaA
  exact zcA (fun d=>(zb0 (e d) a b c).mono) (zb0 f a b c).mono (fun o p n k=>zcN e f m _ _ (fun g h=>n (g,h)) a b c k.1 k.2) _
theorem zc6 (b:Nat->Int->Int->Tp8->Option Tp5) (c:Int->Int->Tp8->Option Tp5) (k:∀ h i j,ChO (fun a=>b a h i j) (c h i j)) (d e f g):ChO (fun a=>zal d e (b a) f g) (zal d e c f g):=by
  unfold zal
  repeat' with_reducible first|exact ChO.const _|exact k _ _ _|(apply zgn<;>assumption)|apply ChO.ite|apply ChO.G
theorem zcM (d:Nat->Int->Int->Tp8->Option Tp5) (e:Int->Int->Tp8->Option Tp5) (n:∀ b c m,ChO (fun a=>d a b c m) (e b c m)) (f:Nat->Int->Tp8->Option Tp5) (g:Int->Tp8->Option Tp5) (o:∀ b c,ChO (fun a=>f a b c) (g b c)) (h i j k l):ChO (fun a=>zat h i (d a) j (f a) k l) (zat h i e j g k l):=by
  unfold zat
  repeat' with_reducible first|exact ChO.const _|exact n _ _ _|exact o _ _|(apply zc6<;>assumption)|apply ChO.ite|apply ChO.G|(apply ChO.bind;intro _)
theorem zbZ (a b c d):Cn (zdk b c a d):=fun i j f e=>zcM (fun _=>a) a (fun _ _ _=>ChO.const _) _ _ (fun g h=>f (g,h)) b c d e.1 e.2
theorem zc7 (a b c d e f):zaz b c a d e f=zat b c a d (zaz b c a d) e f:=zav (zbZ a b c d) (e,f)
theorem zgm (e:Nat->Int->Int->Tp8->Option Tp5) (f:Int->Int->Tp8->Option Tp5) (m:∀ g h l,ChO (fun d=>e d g h l) (f g h l)) (a b c i j):ChO (fun d=>zaz a b (e d) c i j) (zaz a b f c i j):=by
  unfold zaz
  exact zcA (fun d=>(zbZ (e d) a b c).mono) (zbZ f a b c).mono (fun o p n k=>zcM e f m _ _ (fun g h=>n (g,h)) a b c k.1 k.2) _
theorem zgC (b:Nat->Int->Int->Tp8->Option Tp5) (c:Int->Int->Tp8->Option Tp5) (l:∀ i j k,ChO (fun a=>b a i j k) (c i j k)) (d e f g h):ChO (fun a=>zaB d e f g (b a) h) (zaB d e f g c h):=by
  unfold zaB
  repeat' with_reducible first|exact ChO.const _|exact l _ _ _|(apply zc6<;>assumption)|(apply zgm<;>assumption)|apply ChO.ite|apply ChO.G
theorem zcX (c:Nat->Int->Int->Tp8->Option Tp5) (d:Int->Int->Tp8->Option Tp5) (n:∀ b l m,ChO (fun a=>c a b l m) (d b l m)) (e:Nat->Int->Option Tp5) (f:Int->Option Tp5) (o:∀ b,ChO (fun a=>e a b) (f b)) (g h i j k):ChO (fun a=>zax g h i j (c a) (e a) k) (zax g h i j d f k):=by
  unfold zax
  repeat' with_reducible first|exact ChO.const _|exact n _ _ _|exact o _|(apply zgC<;>assumption)|apply ChO.ite|apply ChO.G|(apply ChO.bind;intro _)
theorem zb3 (b a c d e):Cn (zdB a c d e b):=fun h i f g=>zcX (fun _=>b) b (fun _ _ _=>ChO.const _) _ _ (fun a=>f a) a c d e g
theorem zdn (a b c d e f):zaC b c d e a f=zax b c d e a (zaC b c d e a) f:=zav (zb3 a b c d e) f
theorem zgE (f:Nat->Int->Int->Tp8->Option Tp5) (g:Int->Int->Tp8->Option Tp5) (l:∀ i j k,ChO (fun e=>f e i j k) (g i j k)) (a b c d h):ChO (fun e=>zaC a b c d (f e) h) (zaC a b c d g h):=by
  unfold zaC
  exact zcA (fun e=>(zb3 (f e) a b c d).mono) (zb3 g a b c d).mono (fun o p m n=>zcX f g l _ _ (fun a=>m a) a b c d n) _
theorem zgb (b:Nat->Int->Int->Tp8->Option Tp5) (c:Int->Int->Tp8->Option Tp5) (l:∀ i j k,ChO (fun a=>b a i j k) (c i j k)) (d e f g h):ChO (fun a=>zaw d e (b a) f g h) (zaw d e c f g h):=by
  unfold zaw
  repeat' with_reducible first|exact ChO.const _|exact l _ _ _|(apply zgE<;>assumption)|apply ChO.ite
theorem zgD (b c):Cn (zdA b c):=fun h i d a=>zgb  _ _ (fun e f g=>d (e,f,g)) b c a.1 a.2.1 a.2.2
theorem zdm (a b c d e):zba a b c d e=zaw a b (zba a b) c d e:=zav (zgD a b) (c,d,e)

def zaV (a:Tp8) (d:(Int->Int->Tp8->Option Tp6)) (b c:Int):Option Tp6:=
  if (decide (c < b))=true then
  some (b,a) else
  G (0<=c/\c < (a.length:Int)) (
  G ((c).toNat < a.length) (
  G (0<=b/\b < (a.length:Int)) (
  G ((b).toNat < a.length) (
  G (0<=b/\b < (a.length:Int)) (
  G ((b).toNat < a.length) (
  G (0<=c/\c < ((a.set (b).toNat (ix a c)).length:Int)) (
  G ((c).toNat < (a.set (b).toNat (ix a c)).length) (
  G (fits (b+(1:Int))) (
  G (fits (c - (1:Int))) (
  d (b+(1:Int)) (c - (1:Int)) ((a.set (b).toNat (ix a c)).set (c).toNat (ix a b))))))))))))
def zaL (c:Int) (b:Tp8) (e:(Int->Int->Tp8->Option Tp6)) (d:Int) (f:Int->Option Tp6) (a:Int):Option Tp6:=
  if (decide (d<=a))=true then
  G (0<=c/\c < (b.length:Int)) (
  G ((c).toNat < b.length) (
  G (0<=a/\a < (b.length:Int)) (
  G ((a).toNat < b.length) (
  (zbX (ix b c) (ix b a)).bind (fun g=>
  if (decide (g < (0:Int)))=true then
  G (fits (a - (1:Int))) (
  f (a - (1:Int))) else
  zaV b e d a))))) else
  zaV b e d a
def zeQ (a:Int) (b:Tp8) (c:(Int->Int->Tp8->Option Tp6)) (d:Int):(Int->Option Tp6)->Int->Option Tp6:=
  fun rec e=>zaL a b c d (fun f=>rec f) e
def zaX (a:Int) (b:Tp8) (c:(Int->Int->Tp8->Option Tp6)) (d e:Int):Option Tp6:=LFix (zeQ a b c d ) e
def zaU (a b:Int) (c:Tp8) (d:(Int->Int->Tp8->Option Tp6)) (e:Int):Option Tp6:=
  zaX a c d e b
def zaK (c d:Int) (b:Tp8) (e:(Int->Int->Tp8->Option Tp6)) (f:Int->Option Tp6) (a:Int):Option Tp6:=
  if (decide (a<=d))=true then
  G (0<=c/\c < (b.length:Int)) (
  G ((c).toNat < b.length) (
  G (0<=a/\a < (b.length:Int)) (
  G ((a).toNat < b.length) (
  (zbX (ix b c) (ix b a)).bind (fun g=>
  if (!(decide (g < (0:Int))))=true then
  G (fits (a+(1:Int))) (
  f (a+(1:Int))) else
  zaU c d b e a))))) else
  zaU c d b e a
def zeP (a b:Int) (c:Tp8) (d:(Int->Int->Tp8->Option Tp6)):(Int->Option Tp6)->Int->Option Tp6:=
  fun rec e=>zaK a b c d (fun f=>rec f) e
def zaW (a b:Int) (c:Tp8) (d:(Int->Int->Tp8->Option Tp6)) (e:Int):Option Tp6:=LFix (zeP a b c d ) e
def za1 (a:Int) (b:Int->Int->Tp8->Option Tp6) (c d:Int) (e:Tp8):Option Tp6:=
  zaW a d e b c
def zeF (b:Int):(Int×Int×Tp8->Option Tp6)->Int×Int×Tp8->Option Tp6:=
  fun rec a=>za1 b (fun c d e=>rec (c,d,e)) a.1 a.2.1 a.2.2
def zb6 (a b c:Int) (d:Tp8):Option Tp6:=LFix (zeF a ) (b,c,d)
def zcz (a d c:Int) (b:Tp8):Option Tp6:=
  G (0<=c/\c < (b.length:Int)) (
  G ((c).toNat < b.length) (
  G (0<=a/\a < (b.length:Int)) (
  G ((a).toNat < b.length) (
  G (0<=a/\a < (b.length:Int)) (
  G ((a).toNat < b.length) (
  G (0<=c/\c < ((b.set (a).toNat (ix b c)).length:Int)) (
  G ((c).toNat < (b.set (a).toNat (ix b c)).length) (
  G (fits (a+(1:Int))) (
  G (fits (d - (1:Int))) (
  zb6 a (a+(1:Int)) (d - (1:Int)) ((b.set (a).toNat (ix b c)).set (c).toNat (ix b a))))))))))))
theorem zil (b:Nat->Int->Int->Tp8->Option Tp6) (c:Int->Int->Tp8->Option Tp6) (j:∀ g h i,ChO (fun a=>b a g h i) (c g h i)) (d e f):ChO (fun a=>zaV d (b a) e f) (zaV d c e f):=by
  unfold zaV
  repeat' with_reducible first|exact ChO.const _|exact j _ _ _|apply ChO.ite|apply ChO.G
theorem zej (c:Nat->Int->Int->Tp8->Option Tp6) (d:Int->Int->Tp8->Option Tp6) (m:∀ b k l,ChO (fun a=>c a b k l) (d b k l)) (e:Nat->Int->Option Tp6) (f:Int->Option Tp6) (n:∀ b,ChO (fun a=>e a b) (f b)) (g h i j):ChO (fun a=>zaL g h (c a) i (e a) j) (zaL g h d i f j):=by
  unfold zaL
  repeat' with_reducible first|exact ChO.const _|exact m _ _ _|exact n _|(apply zil<;>assumption)|apply ChO.ite|apply ChO.G|(apply ChO.bind;intro _)
theorem zcC (b a c d):Cn (zeQ a c b d):=fun g h e f=>zej (fun _=>b) b (fun _ _ _=>ChO.const _) _ _ (fun a=>e a) a c d f
theorem zeG (a b c d e):zaX b c a d e=zaL b c a d (zaX b c a d) e:=zav (zcC a b c d) e
theorem zin (e:Nat->Int->Int->Tp8->Option Tp6) (f:Int->Int->Tp8->Option Tp6) (k:∀ h i j,ChO (fun d=>e d h i j) (f h i j)) (a b c g):ChO (fun d=>zaX a b (e d) c g) (zaX a b f c g):=by
  unfold zaX
  exact zcA (fun d=>(zcC (e d) a b c).mono) (zcC f a b c).mono (fun n o l m=>zej e f k _ _ (fun a=>l a) a b c m) _
theorem zik (b:Nat->Int->Int->Tp8->Option Tp6) (c:Int->Int->Tp8->Option Tp6) (k:∀ h i j,ChO (fun a=>b a h i j) (c h i j)) (d e f g):ChO (fun a=>zaU d e f (b a) g) (zaU d e f c g):=by
  unfold zaU
  repeat' with_reducible first|exact ChO.const _|exact k _ _ _|(apply zin<;>assumption)
theorem zei (c:Nat->Int->Int->Tp8->Option Tp6) (d:Int->Int->Tp8->Option Tp6) (m:∀ b k l,ChO (fun a=>c a b k l) (d b k l)) (e:Nat->Int->Option Tp6) (f:Int->Option Tp6) (n:∀ b,ChO (fun a=>e a b) (f b)) (g h i j):ChO (fun a=>zaK g h i (c a) (e a) j) (zaK g h i d f j):=by
  unfold zaK
  repeat' with_reducible first|exact ChO.const _|exact m _ _ _|exact n _|(apply zik<;>assumption)|apply ChO.ite|apply ChO.G|(apply ChO.bind;intro _)
theorem zcB (b a c d):Cn (zeP a c d b):=fun g h e f=>zei (fun _=>b) b (fun _ _ _=>ChO.const _) _ _ (fun a=>e a) a c d f
theorem zeE (a b c d e):zaW b c d a e=zaK b c d a (zaW b c d a) e:=zav (zcB a b c d) e
theorem zim (e:Nat->Int->Int->Tp8->Option Tp6) (f:Int->Int->Tp8->Option Tp6) (k:∀ h i j,ChO (fun d=>e d h i j) (f h i j)) (a b c g):ChO (fun d=>zaW a b c (e d) g) (zaW a b c f g):=by
  unfold zaW
  exact zcA (fun d=>(zcB (e d) a b c).mono) (zcB f a b c).mono (fun n o l m=>zei e f k _ _ (fun a=>l a) a b c m) _
theorem zhm (b:Nat->Int->Int->Tp8->Option Tp6) (c:Int->Int->Tp8->Option Tp6) (k:∀ h i j,ChO (fun a=>b a h i j) (c h i j)) (d e f g):ChO (fun a=>za1 d (b a) e f g) (za1 d c e f g):=by
  unfold za1
  repeat' with_reducible first|exact ChO.const _|exact k _ _ _|(apply zim<;>assumption)
theorem zhT (b):Cn (zeF b):=fun g h c a=>zhm  _ _ (fun d e f=>c (d,e,f)) b a.1 a.2.1 a.2.2
theorem zhU (a b c d):zb6 a b c d=za1 a (zb6 a) b c d:=zav (zhT a) (b,c,d)

def zbm (d:Int) (a:Tp8) (e:(Int->Int->Tp8->Option Tp4)) (c b:Int):Option Tp4:=
  if (decide (b < c))=true then
  G (0<=d/\d < (a.length:Int)) (
  G ((d).toNat < a.length) (
  G (0<=b/\b < (a.length:Int)) (
  G ((b).toNat < a.length) (
  G (0<=b/\b < (a.length:Int)) (
  G ((b).toNat < a.length) (
  G (0<=d/\d < ((a.set (b).toNat (ix a d)).length:Int)) (
  G ((d).toNat < (a.set (b).toNat (ix a d)).length) (
  some (b,false,(a.set (b).toNat (ix a d)).set (d).toNat (ix a b)))))))))) else
  G (0<=b/\b < (a.length:Int)) (
  G ((b).toNat < a.length) (
  G (0<=c/\c < (a.length:Int)) (
  G ((c).toNat < a.length) (
  G (0<=c/\c < (a.length:Int)) (
  G ((c).toNat < a.length) (
  G (0<=b/\b < ((a.set (c).toNat (ix a b)).length:Int)) (
  G ((b).toNat < (a.set (c).toNat (ix a b)).length) (
  G (fits (c+(1:Int))) (
  G (fits (b - (1:Int))) (
  e (c+(1:Int)) (b - (1:Int)) ((a.set (c).toNat (ix a b)).set (b).toNat (ix a c))))))))))))
def za8 (c:Int) (b:Tp8) (e:(Int->Int->Tp8->Option Tp4)) (d:Int) (f:Int->Option Tp4) (a:Int):Option Tp4:=
  if (decide (d<=a))=true then
  G (0<=a/\a < (b.length:Int)) (
  G ((a).toNat < b.length) (
  G (0<=c/\c < (b.length:Int)) (
  G ((c).toNat < b.length) (
  (zbX (ix b a) (ix b c)).bind (fun g=>
  if (!(decide (g < (0:Int))))=true then
  G (fits (a - (1:Int))) (
  f (a - (1:Int))) else
  zbm c b e d a))))) else
  zbm c b e d a
def zge (a:Int) (b:Tp8) (c:(Int->Int->Tp8->Option Tp4)) (d:Int):(Int->Option Tp4)->Int->Option Tp4:=
  fun rec e=>za8 a b c d (fun f=>rec f) e
def zbo (a:Int) (b:Tp8) (c:(Int->Int->Tp8->Option Tp4)) (d e:Int):Option Tp4:=LFix (zge a b c d ) e
def zbl (a b:Int) (c:Tp8) (d:(Int->Int->Tp8->Option Tp4)) (e:Int):Option Tp4:=
  zbo a c d e b
def za7 (c d:Int) (b:Tp8) (e:(Int->Int->Tp8->Option Tp4)) (f:Int->Option Tp4) (a:Int):Option Tp4:=
  if (decide (a<=d))=true then
  G (0<=a/\a < (b.length:Int)) (
  G ((a).toNat < b.length) (
  G (0<=c/\c < (b.length:Int)) (
  G ((c).toNat < b.length) (
  (zbX (ix b a) (ix b c)).bind (fun g=>
  if (decide (g < (0:Int)))=true then
  G (fits (a+(1:Int))) (
  f (a+(1:Int))) else
  zbl c d b e a))))) else
  zbl c d b e a
def zgd (a b:Int) (c:Tp8) (d:(Int->Int->Tp8->Option Tp4)):(Int->Option Tp4)->Int->Option Tp4:=
  fun rec e=>za7 a b c d (fun f=>rec f) e
def zbn (a b:Int) (c:Tp8) (d:(Int->Int->Tp8->Option Tp4)) (e:Int):Option Tp4:=LFix (zgd a b c d ) e
def zbs (a:Int) (b:Int->Int->Tp8->Option Tp4) (c d:Int) (e:Tp8):Option Tp4:=
  zbn a d e b c
def zfH (b:Int):(Int×Int×Tp8->Option Tp4)->Int×Int×Tp8->Option Tp4:=
  fun rec a=>zbs b (fun c d e=>rec (c,d,e)) a.1 a.2.1 a.2.2
def zcy (a b c:Int) (d:Tp8):Option Tp4:=LFix (zfH a ) (b,c,d)
def zc2 (b c:Int) (a:Tp8) (e d:Int):Option Tp4:=
  if (decide (d < e))=true then
  G (0<=b/\b < (((a.set (b).toNat (ix a c)).set (c).toNat (ix a b)).length:Int)) (
  G ((b).toNat < ((a.set (b).toNat (ix a c)).set (c).toNat (ix a b)).length) (
  G (0<=d/\d < (((a.set (b).toNat (ix a c)).set (c).toNat (ix a b)).length:Int)) (
  G ((d).toNat < ((a.set (b).toNat (ix a c)).set (c).toNat (ix a b)).length) (
  G (0<=d/\d < (((a.set (b).toNat (ix a c)).set (c).toNat (ix a b)).length:Int)) (
  G ((d).toNat < ((a.set (b).toNat (ix a c)).set (c).toNat (ix a b)).length) (
  G (0<=b/\b < ((((a.set (b).toNat (ix a c)).set (c).toNat (ix a b)).set (d).toNat (ix ((a.set (b).toNat (ix a c)).set (c).toNat (ix a b)) b)).length:Int)) (
  G ((b).toNat < (((a.set (b).toNat (ix a c)).set (c).toNat (ix a b)).set (d).toNat (ix ((a.set (b).toNat (ix a c)).set (c).toNat (ix a b)) b)).length) (
  some (d,true,(((a.set (b).toNat (ix a c)).set (c).toNat (ix a b)).set (d).toNat (ix ((a.set (b).toNat (ix a c)).set (c).toNat (ix a b)) b)).set (b).toNat (ix ((a.set (b).toNat (ix a c)).set (c).toNat (ix a b)) d)))))))))) else
  G (0<=d/\d < (((a.set (b).toNat (ix a c)).set (c).toNat (ix a b)).length:Int)) (
  G ((d).toNat < ((a.set (b).toNat (ix a c)).set (c).toNat (ix a b)).length) (
  G (0<=e/\e < (((a.set (b).toNat (ix a c)).set (c).toNat (ix a b)).length:Int)) (
  G ((e).toNat < ((a.set (b).toNat (ix a c)).set (c).toNat (ix a b)).length) (
  G (0<=e/\e < (((a.set (b).toNat (ix a c)).set (c).toNat (ix a b)).length:Int)) (
  G ((e).toNat < ((a.set (b).toNat (ix a c)).set (c).toNat (ix a b)).length) (
  G (0<=d/\d < ((((a.set (b).toNat (ix a c)).set (c).toNat (ix a b)).set (e).toNat (ix ((a.set (b).toNat (ix a c)).set (c).toNat (ix a b)) d)).length:Int)) (
  G ((d).toNat < (((a.set (b).toNat (ix a c)).set (c).toNat (ix a b)).set (e).toNat (ix ((a.set (b).toNat (ix a c)).set (c).toNat (ix a b)) d)).length) (
  G (fits (e+(1:Int))) (
  G (fits (d - (1:Int))) (
  zcy b (e+(1:Int)) (d - (1:Int)) ((((a.set (b).toNat (ix a c)).set (c).toNat (ix a b)).set (e).toNat (ix ((a.set (b).toNat (ix a c)).set (c).toNat (ix a b)) d)).set (d).toNat (ix ((a.set (b).toNat (ix a c)).set (c).toNat (ix a b)) e))))))))))))
def zbe (b c:Int) (a:Tp8) (e:Int) (f:Int->Option Tp4) (d:Int):Option Tp4:=
  if (decide (e<=d))=true then
  G (0<=d/\d < (((a.set (b).toNat (ix a c)).set (c).toNat (ix a b)).length:Int)) (
  G ((d).toNat < ((a.set (b).toNat (ix a c)).set (c).toNat (ix a b)).length) (
  G (0<=b/\b < (((a.set (b).toNat (ix a c)).set (c).toNat (ix a b)).length:Int)) (
  G ((b).toNat < ((a.set (b).toNat (ix a c)).set (c).toNat (ix a b)).length) (
  (zbX (ix ((a.set (b).toNat (ix a c)).set (c).toNat (ix a b)) d) (ix ((a.set (b).toNat (ix a c)).set (c).toNat (ix a b)) b)).bind (fun g=>
  if (!(decide (g < (0:Int))))=true then
  G (fits (d - (1:Int))) (
  f (d - (1:Int))) else
  zc2 b c a e d))))) else
  zc2 b c a e d
def zgy (a b:Int) (c:Tp8) (d:Int):(Int->Option Tp4)->Int->Option Tp4:=
  fun rec e=>zbe a b c d (fun f=>rec f) e
def zc4 (a b:Int) (c:Tp8) (d e:Int):Option Tp4:=LFix (zgy a b c d ) e
def zc1 (a b c:Int) (d:Tp8) (e:Int):Option Tp4:=
  zc4 a c d e (b - (1:Int))
def zbd (b e c:Int) (a:Tp8) (f:Int->Option Tp4) (d:Int):Option Tp4:=
  if (decide (d<=(e - (1:Int))))=true then
  G (0<=d/\d < (((a.set (b).toNat (ix a c)).set (c).toNat (ix a b)).length:Int)) (
  G ((d).toNat < ((a.set (b).toNat (ix a c)).set (c).toNat (ix a b)).length) (
  G (0<=b/\b < (((a.set (b).toNat (ix a c)).set (c).toNat (ix a b)).length:Int)) (
  G ((b).toNat < ((a.set (b).toNat (ix a c)).set (c).toNat (ix a b)).length) (
  (zbX (ix ((a.set (b).toNat (ix a c)).set (c).toNat (ix a b)) d) (ix ((a.set (b).toNat (ix a c)).set (c).toNat (ix a b)) b)).bind (fun g=>
  if (decide (g < (0:Int)))=true then
  G (fits (d+(1:Int))) (
  f (d+(1:Int))) else
  zc1 b e c a d))))) else
  zc1 b e c a d
def zgx (a b c:Int) (d:Tp8):(Int->Option Tp4)->Int->Option Tp4:=
  fun rec e=>zbd a b c d (fun f=>rec f) e
def zc3 (a b c:Int) (d:Tp8) (e:Int):Option Tp4:=LFix (zgx a b c d ) e
def zd3 (a d c:Int) (b:Tp8):Option Tp4:=
  G (0<=c/\c < (b.length:Int)) (
  G ((c).toNat < b.length) (
  G (0<=a/\a < (b.length:Int)) (
  G ((a).toNat < b.length) (
  G (0<=a/\a < (b.length:Int)) (
  G ((a).toNat < b.length) (
  G (0<=c/\c < ((b.set (a).toNat (ix b c)).length:Int)) (
  G ((c).toNat < (b.set (a).toNat (ix b c)).length) (
  G (fits (a+(1:Int))) (
  G (fits (d - (1:Int))) (
  zc3 a d c b (a+(1:Int))))))))))))
theorem zjH (b:Nat->Int->Int->Tp8->Option Tp4) (c:Int->Int->Tp8->Option Tp4) (k:∀ h i j,ChO (fun a=>b a h i j) (c h i j)) (d e f g):ChO (fun a=>zbm d e (b a) f g) (zbm d e c f g):=by
  unfold zbm
  repeat' with_reducible first|exact ChO.const _|exact k _ _ _|apply ChO.ite|apply ChO.G
theorem zfe (c:Nat->Int->Int->Tp8->Option Tp4) (d:Int->Int->Tp8->Option Tp4) (m:∀ b k l,ChO (fun a=>c a b k l) (d b k l)) (e:Nat->Int->Option Tp4) (f:Int->Option Tp4) (n:∀ b,ChO (fun a=>e a b) (f b)) (g h i j):ChO (fun a=>za8 g h (c a) i (e a) j) (za8 g h d i f j):=by
  unfold za8
  repeat' with_reducible first|exact ChO.const _|exact m _ _ _|exact n _|(apply zjH<;>assumption)|apply ChO.ite|apply ChO.G|(apply ChO.bind;intro _)
theorem zdF (b a c d):Cn (zge a c b d):=fun g h e f=>zfe (fun _=>b) b (fun _ _ _=>ChO.const _) _ _ (fun a=>e a) a c d f
theorem zfI (a b c d e):zbo b c a d e=za8 b c a d (zbo b c a d) e:=zav (zdF a b c d) e
theorem zjJ (e:Nat->Int->Int->Tp8->Option Tp4) (f:Int->Int->Tp8->Option Tp4) (k:∀ h i j,ChO (fun d=>e d h i j) (f h i j)) (a b c g):ChO (fun d=>zbo a b (e d) c g) (zbo a b f c g):=by
  unfold zbo
  exact zcA (fun d=>(zdF (e d) a b c).mono) (zdF f a b c).mono (fun n o l m=>zfe e f k _ _ (fun a=>l a) a b c m) _
theorem zjG (b:Nat->Int->Int->Tp8->Option Tp4) (c:Int->Int->Tp8->Option Tp4) (k:∀ h i j,ChO (fun a=>b a h i j) (c h i j)) (d e f g):ChO (fun a=>zbl d e f (b a) g) (zbl d e f c g):=by
  unfold zbl
  repeat' with_reducible first|exact ChO.const _|exact k _ _ _|(apply zjJ<;>assumption)
theorem zfd (c:Nat->Int->Int->Tp8->Option Tp4) (d:Int->Int->Tp8->Option Tp4) (m:∀ b k l,ChO (fun a=>c a b k l) (d b k l)) (e:Nat->Int->Option Tp4) (f:Int->Option Tp4) (n:∀ b,ChO (fun a=>e a b) (f b)) (g h i j):ChO (fun a=>za7 g h i (c a) (e a) j) (za7 g h i d f j):=by
  unfold za7
  repeat' with_reducible first|exact ChO.const _|exact m _ _ _|exact n _|(apply zjG<;>assumption)|apply ChO.ite|apply ChO.G|(apply ChO.bind;intro _)
theorem zdE (b a c d):Cn (zgd a c d b):=fun g h e f=>zfd (fun _=>b) b (fun _ _ _=>ChO.const _) _ _ (fun a=>e a) a c d f
theorem zfG (a b c d e):zbn b c d a e=za7 b c d a (zbn b c d a) e:=zav (zdE a b c d) e
theorem zjI (e:Nat->Int->Int->Tp8->Option Tp4) (f:Int->Int->Tp8->Option Tp4) (k:∀ h i j,ChO (fun d=>e d h i j) (f h i j)) (a b c g):ChO (fun d=>zbn a b c (e d) g) (zbn a b c f g):=by
  unfold zbn
  exact zcA (fun d=>(zdE (e d) a b c).mono) (zdE f a b c).mono (fun n o l m=>zfd e f k _ _ (fun a=>l a) a b c m) _
theorem ziN (b:Nat->Int->Int->Tp8->Option Tp4) (c:Int->Int->Tp8->Option Tp4) (k:∀ h i j,ChO (fun a=>b a h i j) (c h i j)) (d e f g):ChO (fun a=>zbs d (b a) e f g) (zbs d c e f g):=by
  unfold zbs
  repeat' with_reducible first|exact ChO.const _|exact k _ _ _|(apply zjI<;>assumption)
theorem zjf (b):Cn (zfH b):=fun g h c a=>ziN  _ _ (fun d e f=>c (d,e,f)) b a.1 a.2.1 a.2.2
theorem zjg (a b c d):zcy a b c d=zbs a (zcy a) b c d:=zav (zjf a) (b,c,d)
theorem zji (b:Nat->Int->Option Tp4) (c:Int->Option Tp4) (j:∀ i,ChO (fun a=>b a i) (c i)) (d e f g h):ChO (fun a=>zbe d e f g (b a) h) (zbe d e f g c h):=by
  unfold zbe
  repeat' with_reducible first|exact ChO.const _|exact j _|apply ChO.ite|apply ChO.G|(apply ChO.bind;intro _)
theorem zjW (a b c d):Cn (zgy a b c d):=fun g h e f=>zji  _ _ (fun a=>e a) a b c d f
theorem zgg (a b c d e):zc4 a b c d e=zbe a b c d (zc4 a b c d) e:=zav (zjW a b c d) e
theorem zjh (b:Nat->Int->Option Tp4) (c:Int->Option Tp4) (j:∀ i,ChO (fun a=>b a i) (c i)) (d e f g h):ChO (fun a=>zbd d e f g (b a) h) (zbd d e f g c h):=by
  unfold zbd
  repeat' with_reducible first|exact ChO.const _|exact j _|apply ChO.ite|apply ChO.G|(apply ChO.bind;intro _)
theorem zjV (a b c d):Cn (zgx a b c d):=fun g h e f=>zjh  _ _ (fun a=>e a) a b c d f
theorem zgf (a b c d e):zc3 a b c d e=zbd a b c d (zc3 a b c d) e:=zav (zjV a b c d) e

def zbz (f:Tf8) (c b:Int) (j k:Bool) (e:(Int->Int->Int->Bool->Bool->Tp8->Option Tp8)) (d g:Int) (h:Tp8) (l:Bool):Option Tp8:=
  if l=true then
  (zcz c b g h).bind (fun i=>
  e i.1 b d j k i.2) else
  (zd3 c b g h).bind (fun a=>
  G (fits (a.1 - c)) (
  G (fits (b - a.1)) (
  G ((8:Int)≠0) (
  G (fits (Int.tdiv (b - c) (8:Int))) (
  if (decide ((a.1 - c) < (b - a.1)))=true then
  (f c a.1 d a.2.2).bind (fun m=>
  G (fits (a.1+(1:Int))) (
  e (a.1+(1:Int)) b d (decide ((Int.tdiv (b - c) (8:Int))<=(a.1 - c))) a.2.1 m)) else
  G (fits (a.1+(1:Int))) (
  (f (a.1+(1:Int)) b d a.2.2).bind (fun n=>
  e c a.1 d (decide ((Int.tdiv (b - c) (8:Int))<=(b - a.1))) a.2.1 n)))))))
def zby (d:Tf8) (a e:Int) (f g:Bool) (h:(Int->Int->Int->Bool->Bool->Tp8->Option Tp8)) (i c:Int) (b:Tp8):Option Tp8:=
  if (decide ((0:Int) < a))=true then
  G (fits (a - (1:Int))) (
  G (0<=a - (1:Int)/\a - (1:Int) < (b.length:Int)) (
  G ((a - (1:Int)).toNat < b.length) (
  G (0<=c/\c < (b.length:Int)) (
  G ((c).toNat < b.length) (
  (zbX (ix b (a - (1:Int))) (ix b c)).bind (fun j=>
  zbz d a e f g h i c b (!(decide (j < (0:Int)))))))))) else
  zbz d a e f g h i c b false
def zbf (d:Tf8) (a b:Int) (e f:Bool) (g:(Int->Int->Int->Bool->Bool->Tp8->Option Tp8)) (h i:Int) (j:Tp8) (k:Bool):Option Tp8:=
  if k=true then
  (zbR a b j).bind (fun c=>
  if c.1=true then
  some c.2 else
  zby d a b e f g h i c.2) else
  zby d a b e f g h i j
def zbx (c:Tf8) (d e:Int) (a b:Bool) (f:(Int->Int->Int->Bool->Bool->Tp8->Option Tp8)) (g h j:Int) (i:Tp8):Option Tp8:=
  if a=true then
  if b=true then
  zbf c d e a b f g h i (decide (j=(1:Int))) else
  zbf c d e a b f g h i false else
  zbf c d e a b f g h i false
def zbJ (e:Tf8) (a b:Int) (f g:Bool) (h:(Int->Int->Int->Bool->Bool->Tp8->Option Tp8)) (i:Int) (d:Tp8):Option Tp8:=
  (zdu d a b).bind (fun c=>
  if (decide (c.2=(2:Int)))=true then
  (zc5 a b d).bind (fun j=>
  G (fits (b - (1:Int))) (
  G (fits (c.1 - a)) (
  G (fits ((b - (1:Int)) - (c.1 - a))) (
  zbx e a b f g h i ((b - (1:Int)) - (c.1 - a)) (1:Int) j)))) else
  zbx e a b f g h i c.1 c.2 d)
def zbM (f:Tf8) (g:Tf1) (a b c:Int) (e h:Bool) (d:Tp8):Option Tp8:=
  G (fits (b - a)) (
  if (decide ((b - a)<=(12:Int)))=true then
  (zcI a b d).bind (fun i=>
  some i) else
  if (decide (c=(0:Int)))=true then
  (zeA a b d).bind (fun j=>
  some j) else
  if (!e)=true then
  (zcH a b d).bind (fun k=>
  G (fits (c - (1:Int))) (
  zbJ f a b e h g (c - (1:Int)) k)) else
  zbJ f a b e h g c d)
def zha (b:Tf8):(Int×Int×Int×Bool×Bool×Tp8->Option Tp8)->Int×Int×Int×Bool×Bool×Tp8->Option Tp8:=
  fun rec a=>zbM b (fun c d e f g h=>rec (c,d,e,f,g,h)) a.1 a.2.1 a.2.2.1 a.2.2.2.1 a.2.2.2.2.1 a.2.2.2.2.2
def zap (a:Tf8) (b c d:Int) (e f:Bool) (g:Tp8):Option Tp8:=LFix (zha a ) (b,c,d,e,f,g)
def zce (a:Tf8) (b c d:Int) (e:Tp8):Option Tp8:=
  zap a b c d true true e
theorem zkA (f:Nat->Tf8) (g:Tf8) (h:∀ b c d e,ChO (fun a=>f a b c d e) (g b c d e)) (i:Nat->Tf1) (j:Tf1) (u:∀ b c d e s t,ChO (fun a=>i a b c d e s t) (j b c d e s t)) (k l m n o p q r):ChO (fun a=>zbz (f a) k l m n (i a) o p q r) (zbz g k l m n j o p q r):=by
  unfold zbz
  repeat' with_reducible first|exact ChO.const _|exact h _ _ _ _|exact u _ _ _ _ _ _|apply ChO.ite|apply ChO.G|(apply ChO.bind;intro _)|(apply ChO.bind2 (h _ _ _ _);intro _)
theorem zkz (f:Nat->Tf8) (g:Tf8) (h:∀ b c d e,ChO (fun a=>f a b c d e) (g b c d e)) (i:Nat->Tf1) (j:Tf1) (t:∀ b c d e r s,ChO (fun a=>i a b c d e r s) (j b c d e r s)) (k l m n o p q):ChO (fun a=>zby (f a) k l m n (i a) o p q) (zby g k l m n j o p q):=by
  unfold zby
  repeat' with_reducible first|exact ChO.const _|exact h _ _ _ _|exact t _ _ _ _ _ _|(apply zkA<;>assumption)|apply ChO.ite|apply ChO.G|(apply ChO.bind;intro _)|(apply ChO.bind2 (h _ _ _ _);intro _)
theorem zky (f:Nat->Tf8) (g:Tf8) (h:∀ b c d e,ChO (fun a=>f a b c d e) (g b c d e)) (i:Nat->Tf1) (j:Tf1) (u:∀ b c d e s t,ChO (fun a=>i a b c d e s t) (j b c d e s t)) (k l m n o p q r):ChO (fun a=>zbf (f a) k l m n (i a) o p q r) (zbf g k l m n j o p q r):=by
  unfold zbf
  repeat' with_reducible first|exact ChO.const _|exact h _ _ _ _|exact u _ _ _ _ _ _|(apply zkz<;>assumption)|apply ChO.ite|(apply ChO.bind;intro _)|(apply ChO.bind2 (h _ _ _ _);intro _)
theorem zkx (f:Nat->Tf8) (g:Tf8) (t:∀ b c d e,ChO (fun a=>f a b c d e) (g b c d e)) (h:Nat->Tf1) (i:Tf1) (u:∀ b c d e r s,ChO (fun a=>h a b c d e r s) (i b c d e r s)) (j k l m n o p q):ChO (fun a=>zbx (f a) j k l m (h a) n o p q) (zbx g j k l m i n o p q):=by
  unfold zbx
  repeat' with_reducible first|exact ChO.const _|exact t _ _ _ _|exact u _ _ _ _ _ _|(apply zky<;>assumption)|apply ChO.ite
theorem zlg (f:Nat->Tf8) (g:Tf8) (h:∀ b c d e,ChO (fun a=>f a b c d e) (g b c d e)) (i:Nat->Tf1) (j:Tf1) (s:∀ b c d e q r,ChO (fun a=>i a b c d e q r) (j b c d e q r)) (k l m n o p):ChO (fun a=>zbJ (f a) k l m n (i a) o p) (zbJ g k l m n j o p):=by
  unfold zbJ
  repeat' with_reducible first|exact ChO.const _|exact h _ _ _ _|exact s _ _ _ _ _ _|(apply zkx<;>assumption)|apply ChO.ite|apply ChO.G|(apply ChO.bind;intro _)|(apply ChO.bind2 (h _ _ _ _);intro _)
theorem zgh (f:Nat->Tf8) (g:Tf8) (h:∀ b c d e,ChO (fun a=>f a b c d e) (g b c d e)) (i:Nat->Tf1) (j:Tf1) (s:∀ b c d e q r,ChO (fun a=>i a b c d e q r) (j b c d e q r)) (k l m n o p):ChO (fun a=>zbM (f a) (i a) k l m n o p) (zbM g j k l m n o p):=by
  unfold zbM
  repeat' with_reducible first|exact ChO.const _|exact h _ _ _ _|exact s _ _ _ _ _ _|(apply zlg<;>assumption)|apply ChO.ite|apply ChO.G|(apply ChO.bind;intro _)|(apply ChO.bind2 (h _ _ _ _);intro _)
theorem zes (b):Cn (zha b):=fun j k c a=>zgh (fun _=>b) b (fun _ _ _ _=>ChO.const _) _ _ (fun d e f g h i=>c (d,e,f,g,h,i))  a.1 a.2.1 a.2.2.1 a.2.2.2.1 a.2.2.2.2.1 a.2.2.2.2.2
theorem zli (a b c d e f g):zap a b c d e f g=zbM a (zap a) b c d e f g:=zav (zes a) (b,c,d,e,f,g)
theorem zlh (c:Nat->Tf8) (d:Tf8) (o:∀ e f g h,ChO (fun b=>c b e f g h) (d e f g h)) (i j k l m n):ChO (fun b=>zap (c b) i j k l m n) (zap d i j k l m n):=by
  unfold zap
  exact zcA (fun b=>(zes (c b) ).mono) (zes d ).mono (fun s t p a=>zgh c d o _ _ (fun e f g h q r=>p (e,f,g,h,q,r))  a.1 a.2.1 a.2.2.1 a.2.2.2.1 a.2.2.2.2.1 a.2.2.2.2.2) _
theorem zlC (b:Nat->Tf8) (c:Tf8) (l:∀ h i j k,ChO (fun a=>b a h i j k) (c h i j k)) (d e f g):ChO (fun a=>zce (b a) d e f g) (zce c d e f g):=by
  unfold zce
  repeat' with_reducible first|exact ChO.const _|exact l _ _ _ _|(apply zlh<;>assumption)
def zd4:(Int×Int×Int×Tp8->Option Tp8)->Int×Int×Int×Tp8->Option Tp8:=
  fun rec a=>zce (fun b c d e=>rec (b,c,d,e)) a.1 a.2.1 a.2.2.1 a.2.2.2
def zam (a b c:Int) (d:Tp8):Option Tp8:=LFix zd4 (a,b,c,d)
theorem zmZ:Cn zd4:=fun g h b a=>zlC _ _ (fun c d e f=>b (c,d,e,f)) a.1 a.2.1 a.2.2.1 a.2.2.2
theorem zm0 (a b c d):zam a b c d=zce zam a b c d:=zav zmZ (a,b,c,d)

def ziB (a:Tp8):Option Tp8:=
  (zo1 (IntKind.wrap .u64 (a.length:Int))).bind (fun b=>
  (zam (0:Int) (a.length:Int) b a).bind (fun c=>
  some c))

def zcs (e:Tp12) (d:Int) (f:Tf13) (a c:Int) (b:Tp12):Option Tp12:=
  if (decide (c < ((e.length - (d).toNat:Nat):Int)))=true then
  G (0<=c/\c < ((e.length - (d).toNat:Nat):Int)) (
  G ((((((d).toNat)+(c).toNat:Nat):Int)).toNat < b.length) (
  G (fits (c - (1:Int))) (
  G (0<=c - (1:Int)/\c - (1:Int) < ((e.length - (d).toNat:Nat):Int)) (
  G ((((((d).toNat)+(c - (1:Int)).toNat:Nat):Int)).toNat < b.length) (
  if (decide (¬ (ix b ((((d).toNat)+(c).toNat:Nat):Int))=(ix b ((((d).toNat)+(c - (1:Int)).toNat:Nat):Int))))=true then
  G (0<=c/\c < ((e.length - (d).toNat:Nat):Int)) (
  G ((((((d).toNat)+(c).toNat:Nat):Int)).toNat < b.length) (
  G (0<=a/\a < (b.length:Int)) (
  G ((a).toNat < b.length) (
  G (fits (a+(1:Int))) (
  G (fits (c+(1:Int))) (
  f (a+(1:Int)) (c+(1:Int)) (b.set (a).toNat (ix b ((((d).toNat)+(c).toNat:Nat):Int))))))))) else
  G (fits (c+(1:Int))) (
  f a (c+(1:Int)) b)))))) else
  G (0<=a/\a<=(b.length:Int)) (
  G (((a).toNat)+(b.length - (a).toNat)<=b.length) (
  G (0<=a/\a<=((b.take ((a).toNat)++List.replicate (b.length - (a).toNat) (0:Int)++b.drop (((a).toNat)+(b.length - (a).toNat))).length:Int)) (
  some ((b.take ((a).toNat)++List.replicate (b.length - (a).toNat) (0:Int)++b.drop (((a).toNat)+(b.length - (a).toNat))).take (a).toNat))))
def zld (b:Tp12) (c:Int):(Int×Int×Tp12->Option Tp12)->Int×Int×Tp12->Option Tp12:=
  fun rec a=>zcs b c (fun d e f=>rec (d,e,f)) a.1 a.2.1 a.2.2
def zg1 (a:Tp12) (b c d:Int) (e:Tp12):Option Tp12:=LFix (zld a b ) (c,d,e)
def zcr (b:Tp12) (c:Int->Option Tp12) (a:Int):Option Tp12:=
  if (decide (a < (b.length:Int)))=true then
  G (0<=a/\a < (b.length:Int)) (
  G ((a).toNat < b.length) (
  G (fits (a - (1:Int))) (
  G (0<=a - (1:Int)/\a - (1:Int) < (b.length:Int)) (
  G ((a - (1:Int)).toNat < b.length) (
  if (decide ((ix b a)=(ix b (a - (1:Int)))))=true then
  G (0<=a/\a<=(b.length:Int)) (
  zg1 b a a (1:Int) b) else
  G (fits (a+(1:Int))) (
  c (a+(1:Int)))))))) else
  some b
def zlc (a:Tp12):(Int->Option Tp12)->Int->Option Tp12:=
  fun rec b=>zcr a (fun c=>rec c) b
def zg0 (a:Tp12) (b:Int):Option Tp12:=LFix (zlc a ) b
def zgj (a:Tp12):Option Tp12:=
  if (decide ((a.length:Int) < (2:Int)))=true then
  some a else
  zg0 a (1:Int)
theorem znY (b:Nat->Tf13) (c:Tf13) (l:∀ i j k,ChO (fun a=>b a i j k) (c i j k)) (d e f g h):ChO (fun a=>zcs d e (b a) f g h) (zcs d e c f g h):=by
  unfold zcs
  repeat' with_reducible first|exact ChO.const _|exact l _ _ _|apply ChO.ite|apply ChO.G
theorem zpw (b c):Cn (zld b c):=fun h i d a=>znY  _ _ (fun e f g=>d (e,f,g)) b c a.1 a.2.1 a.2.2
theorem zj9 (a b c d e):zg1 a b c d e=zcs a b (zg1 a b) c d e:=zav (zpw a b) (c,d,e)
theorem znX (b:Nat->Int->Option Tp12) (c:Int->Option Tp12) (g:∀ f,ChO (fun a=>b a f) (c f)) (d e):ChO (fun a=>zcr d (b a) e) (zcr d c e):=by
  unfold zcr
  repeat' with_reducible first|exact ChO.const _|exact g _|apply ChO.ite|apply ChO.G
theorem zpv (a):Cn (zlc a):=fun e f b c=>znX  _ _ (fun d=>b d) a c
theorem zj8 (a b):zg0 a b=zcr a (zg0 a) b:=zav (zpv a) b

def zb9 (e:Tp8) (d:Int) (f:Int->Int->Tp8->Option Tp8) (a c:Int) (b:Tp8):Option Tp8:=
  if (decide (c < ((e.length - (d).toNat:Nat):Int)))=true then
  G (0<=c/\c < ((e.length - (d).toNat:Nat):Int)) (
  G ((((((d).toNat)+(c).toNat:Nat):Int)).toNat < b.length) (
  G (fits (c - (1:Int))) (
  G (0<=c - (1:Int)/\c - (1:Int) < ((e.length - (d).toNat:Nat):Int)) (
  G ((((((d).toNat)+(c - (1:Int)).toNat:Nat):Int)).toNat < b.length) (
  if (!(eqB (ix b ((((d).toNat)+(c).toNat:Nat):Int)) (ix b ((((d).toNat)+(c - (1:Int)).toNat:Nat):Int))))=true then
  G (0<=c/\c < ((e.length - (d).toNat:Nat):Int)) (
  G ((((((d).toNat)+(c).toNat:Nat):Int)).toNat < b.length) (
  G (0<=a/\a < (b.length:Int)) (
  G ((a).toNat < b.length) (
  G (fits (a+(1:Int))) (
  G (fits (c+(1:Int))) (
  f (a+(1:Int)) (c+(1:Int)) (b.set (a).toNat (ix b ((((d).toNat)+(c).toNat:Nat):Int))))))))) else
  G (fits (c+(1:Int))) (
  f a (c+(1:Int)) b)))))) else
  G (0<=a/\a<=(b.length:Int)) (
  G (((a).toNat)+(b.length - (a).toNat)<=b.length) (
  G (0<=a/\a<=((b.take ((a).toNat)++List.replicate (b.length - (a).toNat) ((0,(0,(0,()))):Int×Int×Int×Unit)++b.drop (((a).toNat)+(b.length - (a).toNat))).length:Int)) (
  some ((b.take ((a).toNat)++List.replicate (b.length - (a).toNat) ((0,(0,(0,()))):Int×Int×Int×Unit)++b.drop (((a).toNat)+(b.length - (a).toNat))).take (a).toNat))))
def zjA (b:Tp8) (c:Int):(Int×Int×Tp8->Option Tp8)->Int×Int×Tp8->Option Tp8:=
  fun rec a=>zb9 b c (fun d e f=>rec (d,e,f)) a.1 a.2.1 a.2.2
def zfU (a:Tp8) (b c d:Int) (e:Tp8):Option Tp8:=LFix (zjA a b ) (c,d,e)
def zb8 (b:Tp8) (c:Int->Option Tp8) (a:Int):Option Tp8:=
  if (decide (a < (b.length:Int)))=true then
  G (0<=a/\a < (b.length:Int)) (
  G ((a).toNat < b.length) (
  G (fits (a - (1:Int))) (
  G (0<=a - (1:Int)/\a - (1:Int) < (b.length:Int)) (
  G ((a - (1:Int)).toNat < b.length) (
  if (eqB (ix b a) (ix b (a - (1:Int))))=true then
  G (0<=a/\a<=(b.length:Int)) (
  zfU b a a (1:Int) b) else
  G (fits (a+(1:Int))) (
  c (a+(1:Int)))))))) else
  some b
def zjz (a:Tp8):(Int->Option Tp8)->Int->Option Tp8:=
  fun rec b=>zb8 a (fun c=>rec c) b
def zfT (a:Tp8) (b:Int):Option Tp8:=LFix (zjz a ) b
def zf5 (a:Tp8):Option Tp8:=
  if (decide ((a.length:Int) < (2:Int)))=true then
  some a else
  zfT a (1:Int)
theorem zmW (b:Nat->Int->Int->Tp8->Option Tp8) (c:Int->Int->Tp8->Option Tp8) (l:∀ i j k,ChO (fun a=>b a i j k) (c i j k)) (d e f g h):ChO (fun a=>zb9 d e (b a) f g h) (zb9 d e c f g h):=by
  unfold zb9
  repeat' with_reducible first|exact ChO.const _|exact l _ _ _|apply ChO.ite|apply ChO.G
theorem znW (b c):Cn (zjA b c):=fun h i d a=>zmW  _ _ (fun e f g=>d (e,f,g)) b c a.1 a.2.1 a.2.2
theorem ziX (a b c d e):zfU a b c d e=zb9 a b (zfU a b) c d e:=zav (znW a b) (c,d,e)
theorem zmV (b:Nat->Int->Option Tp8) (c:Int->Option Tp8) (g:∀ f,ChO (fun a=>b a f) (c f)) (d e):ChO (fun a=>zb8 d (b a) e) (zb8 d c e):=by
  unfold zb8
  repeat' with_reducible first|exact ChO.const _|exact g _|apply ChO.ite|apply ChO.G
theorem znV (a):Cn (zjz a):=fun e f b c=>zmV  _ _ (fun d=>b d) a c
theorem ziW (a b):zfT a b=zb8 a (zfT a) b:=zav (znV a) b

def zn8 (a b:Int) (c:Tp12) (d:Tp8) (e:Tp12):Option Tp2:=
  some (a,(b,(c,(d,(e,())))))
def zhZ (a b:Int) (c:Tp12) (d:Tp8) (e:Tp12):Option Tp2:=
  (zjc c).bind (fun f=>
  (zjc e).bind (fun g=>
  (ziB d).bind (fun h=>
  (zgj f).bind (fun i=>
  (zgj g).bind (fun j=>
  (zf5 h).bind (fun k=>
  zn8 a b i k j))))))

def zg2 (f:Tp8) (a:Int) (b:Tp12) (c:(Int->Tp8->Tp12->Tp12->Option Tp1)) (d:Tp8) (e:Tp12):Option Tp1:=
  if (decide (((ix f a).1)=(7:Int)))=true then
  G (room b ([a]) 8) (
  G (fits (a+(1:Int))) (
  c (a+(1:Int)) d (b++([a])) e)) else
  G (fits (a+(1:Int))) (
  c (a+(1:Int)) d b e)
def zig (c:Tp8) (a:Int) (d:Tp8) (e b:Tp12) (f:(Int->Tp8->Tp12->Tp12->Option Tp1)) (g:Bool):Option Tp1:=
  if g=true then
  G (room b ([a]) 8) (
  zg2 c a e f d (b++([a]))) else
  zg2 c a e f d b
def zd5 (a:Tp12) (f c d b h i:Int) (j:Tp12) (g:Tp8) (k:Tp12) (l:(Int->Int->Int->Tp12->Tp8->Tp12->Option Tp1)) (e:Int):Option Tp1:=
  G (fits (d * ((a.length:Int)+(1:Int)))) (
  G (fits ((d * ((a.length:Int)+(1:Int)))+b)) (
  G (fits (c * ((a.length:Int)+(1:Int)))) (
  G (fits ((c * ((a.length:Int)+(1:Int)))+e)) (
  G (room g ([((d * ((a.length:Int)+(1:Int)))+b,(f,((c * ((a.length:Int)+(1:Int)))+e,())))]) 24) (
  G (fits (b+(1:Int))) (
  l (b+(1:Int)) h i j (g++([((d * ((a.length:Int)+(1:Int)))+b,(f,((c * ((a.length:Int)+(1:Int)))+e,())))])) k))))))
def zex (e:Tp8) (b:Tp12) (k l:Int) (c:Tp11) (d:Int) (n:(Int->Int->Int->Tp12->Tp8->Tp12->Option Tp1)) (m:Tf2) (a f g:Int) (h:Tp12) (i:Tp8) (j:Tp12):Option Tp1:=
  if (decide (a < ((b.length:Int)+(1:Int))))=true then
  G (fits (((b.length:Int)+(1:Int)) - (1:Int))) (
  if (decide (a=(((b.length:Int)+(1:Int)) - (1:Int))))=true then
  zd5 b k l d a f g h i j m (0:Int) else
  G (0<=a/\a < (b.length:Int)) (
  G ((a).toNat < b.length) (
  G (0<=ix b a/\ix b a < (e.length:Int)) (
  G (0<=(((ix e (ix b a)).2).2).1/\(((ix e (ix b a)).2).2).1 < (c.length:Int)) (
  G (((((ix e (ix b a)).2).2).1).toNat < c.length) (
  if (ix c ((((ix e (ix b a)).2).2).1))=true then
  G (fits (a+(1:Int))) (
  zd5 b k l d a f g h i j m (a+(1:Int))) else
  G (0<=ix b a/\ix b a < (c.length:Int)) (
  G ((ix b a).toNat < c.length) (
  if (!(ix c (ix b a)))=true then
  G (fits (a+(1:Int))) (
  zd5 b k l d a f g h i j m (a+(1:Int))) else
  zd5 b k l d a f g h i j m a)))))))) else
  G (fits (d+(1:Int))) (
  n (d+(1:Int)) f g h i j)
def zoS (b:Tp8) (c:Tp12) (d e:Int) (f:Tp11) (g:Int) (h:(Int->Int->Int->Tp12->Tp8->Tp12->Option Tp1)):(Int×Int×Int×Tp12×Tp8×Tp12->Option Tp1)->Int×Int×Int×Tp12×Tp8×Tp12->Option Tp1:=
  fun rec a=>zex b c d e f g h (fun i j k l m n=>rec (i,j,k,l,m,n)) a.1 a.2.1 a.2.2.1 a.2.2.2.1 a.2.2.2.2.1 a.2.2.2.2.2
def zeS (a:Tp8) (b:Tp12) (c d:Int) (e:Tp11) (f:Int) (g:(Int->Int->Int->Tp12->Tp8->Tp12->Option Tp1)) (h i j:Int) (k:Tp12) (l:Tp8) (m:Tp12):Option Tp1:=LFix (zoS a b c d e f g ) (h,i,j,k,l,m)
def zew (k l:Tp8) (m h:Tp12) (n b:Int) (o:(Int->Int->Int->Tp12->Tp8->Tp12->Option Tp1)) (i:Tp11) (j:Tf2) (a c d:Int) (e:Tp12) (f:Tp8) (g:Tp12):Option Tp1:=
  if (decide (a < (ishl .i64 (1:Int) (h.length:Int))))=true then
  (zhL (l,(h,())) i a).bind (fun p=>
  if (!p)=true then
  G (fits (a+(1:Int))) (
  j (a+(1:Int)) c d e f g) else
  zeS k m n b i a j (0:Int) c d e f g) else
  G (fits (b+(1:Int))) (
  o (b+(1:Int)) c d e f g)
def zoR (b c:Tp8) (d e:Tp12) (f g:Int) (h:(Int->Int->Int->Tp12->Tp8->Tp12->Option Tp1)) (i:Tp11):(Int×Int×Int×Tp12×Tp8×Tp12->Option Tp1)->Int×Int×Int×Tp12×Tp8×Tp12->Option Tp1:=
  fun rec a=>zew b c d e f g h i (fun j k l m n o=>rec (j,k,l,m,n,o)) a.1 a.2.1 a.2.2.1 a.2.2.2.1 a.2.2.2.2.1 a.2.2.2.2.2
def zd7 (a b:Tp8) (c d:Tp12) (e f:Int) (g:(Int->Int->Int->Tp12->Tp8->Tp12->Option Tp1)) (h:Tp11) (i j k:Int) (l:Tp12) (m:Tp8) (n:Tp12):Option Tp1:=LFix (zoR a b c d e f g h ) (i,j,k,l,m,n)
def zg3 (a b:Tp8) (c d:Tp12) (e f:Int) (g:(Int->Int->Int->Tp12->Tp8->Tp12->Option Tp1)) (h:Tp11) (i j:Int) (k:Tp12) (l:Tp8) (m:Tp12):Option Tp1:=
  zd7 a b c d e f g h (0:Int) i j k l m
def zev (b h:Tp8) (a c:Tp12) (d:Int) (n:(Int->Int->Int->Tp12->Tp12->Tp8->Option Tp1)) (m:Tf2) (e i j:Int) (k:Tp12) (g:Tp8) (l:Tp12):Option Tp1:=
  if (decide (e < (ishl .i64 (1:Int) (c.length:Int))))=true then
  (zgk (h,(c,())) d e).bind (fun f=>
  G (fits ((b.length:Int) - (1:Int))) (
  G (0<=(b.length:Int) - (1:Int)/\(b.length:Int) - (1:Int) < (f.length:Int)) (
  G (((b.length:Int) - (1:Int)).toNat < f.length) (
  if (ix f ((b.length:Int) - (1:Int)))=true then
  G (fits ((ishl .i64 (1:Int) (c.length:Int)) * ((a.length:Int)+(1:Int)))) (
  G (fits (e * ((a.length:Int)+(1:Int)))) (
  G (room g ([((ishl .i64 (1:Int) (c.length:Int)) * ((a.length:Int)+(1:Int)),(d,(e * ((a.length:Int)+(1:Int)),())))]) 24) (
  zg3 b h a c d e m f i j k (g++([((ishl .i64 (1:Int) (c.length:Int)) * ((a.length:Int)+(1:Int)),(d,(e * ((a.length:Int)+(1:Int)),())))])) l))) else
  zg3 b h a c d e m f i j k g l)))) else
  G (fits (d+(1:Int))) (
  n (d+(1:Int)) i j k l g)
def zoQ (b c:Tp8) (d e:Tp12) (f:Int) (g:(Int->Int->Int->Tp12->Tp12->Tp8->Option Tp1)):(Int×Int×Int×Tp12×Tp8×Tp12->Option Tp1)->Int×Int×Int×Tp12×Tp8×Tp12->Option Tp1:=
  fun rec a=>zev b c d e f g (fun h i j k l m=>rec (h,i,j,k,l,m)) a.1 a.2.1 a.2.2.1 a.2.2.2.1 a.2.2.2.2.1 a.2.2.2.2.2
def zd6 (a b:Tp8) (c d:Tp12) (e:Int) (f:(Int->Int->Int->Tp12->Tp12->Tp8->Option Tp1)) (g h i:Int) (j:Tp12) (k:Tp8) (l:Tp12):Option Tp1:=LFix (zoQ a b c d e f ) (g,h,i,j,k,l)
def zeu (h i:Tp8) (j k:Tp12) (l:Tf3) (b c d:Int) (e f:Tp12) (g:Tp8):Option Tp1:=
  if (decide (b < (4:Int)))=true then
  zd6 h i j k b l (0:Int) c d e g f else
  (zhZ c d e g f).bind (fun a=>
  some ((a.1,(a.2.1,(a.2.2.1,(a.2.2.2.1,(a.2.2.2.2.1,()))))),(0:Int)))
def zoP (b c:Tp8) (d e:Tp12):(Int×Int×Int×Tp12×Tp12×Tp8->Option Tp1)->Int×Int×Int×Tp12×Tp12×Tp8->Option Tp1:=
  fun rec a=>zeu b c d e (fun f g h i j k=>rec (f,g,h,i,j,k)) a.1 a.2.1 a.2.2.1 a.2.2.2.1 a.2.2.2.2.1 a.2.2.2.2.2
def zg4 (a b:Tp8) (c d:Tp12) (e f g:Int) (h i:Tp12) (j:Tp8):Option Tp1:=LFix (zoP a b c d ) (e,f,g,h,i,j)
def zet (h i:Tp8) (a d:Tp12) (j:Tf5) (b e f:Int) (g c:Tp12):Option Tp1:=
  if (decide (b < (ishl .i64 (1:Int) (d.length:Int))))=true then
  G (fits (b * ((a.length:Int)+(1:Int)))) (
  G (fits ((b * ((a.length:Int)+(1:Int)))+((a.length:Int)+(1:Int)))) (
  G (fits (((b * ((a.length:Int)+(1:Int)))+((a.length:Int)+(1:Int))) - (1:Int))) (
  G (room c ([((b * ((a.length:Int)+(1:Int)))+((a.length:Int)+(1:Int))) - (1:Int)]) 8) (
  G (fits (b+(1:Int))) (
  j (b+(1:Int)) e f g (c++([((b * ((a.length:Int)+(1:Int)))+((a.length:Int)+(1:Int))) - (1:Int)]))))))) else
  zg4 h i a d (0:Int) e f g c ([]:List Tp9)
def zoO (b c:Tp8) (d e:Tp12):(Int×Int×Int×Tp12×Tp12->Option Tp1)->Int×Int×Int×Tp12×Tp12->Option Tp1:=
  fun rec a=>zet b c d e (fun f g h i j=>rec (f,g,h,i,j)) a.1 a.2.1 a.2.2.1 a.2.2.2.1 a.2.2.2.2
def zkE (a b:Tp8) (c d:Tp12) (e f g:Int) (h i:Tp12):Option Tp1:=LFix (zoO a b c d ) (e,f,g,h,i)
def ze2 (c:Tp8) (f:Tf7) (d:Int) (e:Tp8) (a b:Tp12):Option Tp1:=
  if (decide (d < (c.length:Int)))=true then
  G (0<=d/\d < (c.length:Int)) (
  if (decide (((ix c d).1)=(6:Int)))=true then
  zig c d e a b f true else
  zig c d e a b f (decide (((ix c d).1)=(7:Int)))) else
  G (fits ((a.length:Int)+(1:Int))) (
  G (0<=(b.length:Int)) (
  G (fits ((ishl .i64 (1:Int) (b.length:Int)) * ((a.length:Int)+(1:Int)))) (
  G (fits (((ishl .i64 (1:Int) (b.length:Int)) * ((a.length:Int)+(1:Int)))+(1:Int))) (
  G (fits ((ishl .i64 (1:Int) (b.length:Int)) * ((a.length:Int)+(1:Int)))) (
  zkE c e a b (0:Int) (4:Int) (((ishl .i64 (1:Int) (b.length:Int)) * ((a.length:Int)+(1:Int)))+(1:Int)) ([(ishl .i64 (1:Int) (b.length:Int)) * ((a.length:Int)+(1:Int))]) ([]:List Int))))))
def zpX (b:Tp8):(Int×Tp8×Tp12×Tp12->Option Tp1)->Int×Tp8×Tp12×Tp12->Option Tp1:=
  fun rec a=>ze2 b (fun c d e f=>rec (c,d,e,f)) a.1 a.2.1 a.2.2.1 a.2.2.2
def zeT (a:Tp8) (b:Int) (c:Tp8) (d e:Tp12):Option Tp1:=LFix (zpX a ) (b,c,d,e)
def zuA (b:(List UInt8)):Option Tp1:=
  (zln b).bind (fun a=>
  if (decide (¬ a.2.1=(0:Int)))=true then
  some (((0:Int),((0:Int),([],([],([],()))))),(4:Int)) else
  zeT a.1 (0:Int) a.1 ([]) ([]:List Int))
theorem zsY (b:Nat->Tf7) (c:Tf7) (m:∀ i j k l,ChO (fun a=>b a i j k l) (c i j k l)) (d e f g h):ChO (fun a=>zg2 d e f (b a) g h) (zg2 d e f c g h):=by
  unfold zg2
  repeat' with_reducible first|exact ChO.const _|exact m _ _ _ _|apply ChO.ite|apply ChO.G
theorem zuB (b:Nat->Tf7) (c:Tf7) (n:∀ j k l m,ChO (fun a=>b a j k l m) (c j k l m)) (d e f g h i):ChO (fun a=>zig d e f g h (b a) i) (zig d e f g h c i):=by
  unfold zig
  repeat' with_reducible first|exact ChO.const _|exact n _ _ _ _|(apply zsY<;>assumption)|apply ChO.ite|apply ChO.G
theorem zs0 (b:Nat->Tf2) (c:Tf2) (u:∀ o p q r s t,ChO (fun a=>b a o p q r s t) (c o p q r s t)) (d e f g h i j k l m n):ChO (fun a=>zd5 d e f g h i j k l m (b a) n) (zd5 d e f g h i j k l m c n):=by
  unfold zd5
  repeat' with_reducible first|exact ChO.const _|exact u _ _ _ _ _ _|apply ChO.G
theorem zl2 (h:Nat->Tf2) (i:Tf2) (x:∀ b c d e f g,ChO (fun a=>h a b c d e f g) (i b c d e f g)) (j:Nat->Tf2) (k:Tf2) (y:∀ b c d e f g,ChO (fun a=>j a b c d e f g) (k b c d e f g)) (l m n o p q r s t u v w):ChO (fun a=>zex l m n o p q (h a) (j a) r s t u v w) (zex l m n o p q i k r s t u v w):=by
  unfold zex
  repeat' with_reducible first|exact ChO.const _|exact x _ _ _ _ _ _|exact y _ _ _ _ _ _|(apply zs0<;>assumption)|apply ChO.ite|apply ChO.G
theorem zj1 (b c d e f g h):Cn (zoS c d e f g h b):=fun p q i a=>zl2 (fun _=>b) b (fun _ _ _ _ _ _=>ChO.const _) _ _ (fun j k l m n o=>i (j,k,l,m,n,o)) c d e f g h a.1 a.2.1 a.2.2.1 a.2.2.2.1 a.2.2.2.2.1 a.2.2.2.2.2
theorem znR (a b c d e f g h i j k l m):zeS b c d e f g a h i j k l m=zex b c d e f g a (zeS b c d e f g a) h i j k l m:=zav (zj1 a b c d e f g) (h,i,j,k,l,m)
theorem zs5 (i:Nat->Tf2) (j:Tf2) (w:∀ k l m n o p,ChO (fun h=>i h k l m n o p) (j k l m n o p)) (b c d e f g q r s t u v):ChO (fun h=>zeS b c d e f g (i h) q r s t u v) (zeS b c d e f g j q r s t u v):=by
  unfold zeS
  exact zcA (fun h=>(zj1 (i h) b c d e f g).mono) (zj1 j b c d e f g).mono (fun y z x a=>zl2 i j w _ _ (fun k l m n o p=>x (k,l,m,n,o,p)) b c d e f g a.1 a.2.1 a.2.2.1 a.2.2.2.1 a.2.2.2.2.1 a.2.2.2.2.2) _
theorem zl1 (h:Nat->Tf2) (i:Tf2) (y:∀ b c d e f g,ChO (fun a=>h a b c d e f g) (i b c d e f g)) (j:Nat->Tf2) (k:Tf2) (z:∀ b c d e f g,ChO (fun a=>j a b c d e f g) (k b c d e f g)) (l m n o p q r s t u v w x):ChO (fun a=>zew l m n o p q (h a) r (j a) s t u v w x) (zew l m n o p q i r k s t u v w x):=by
  unfold zew
  repeat' with_reducible first|exact ChO.const _|exact y _ _ _ _ _ _|exact z _ _ _ _ _ _|(apply zs5<;>assumption)|apply ChO.ite|apply ChO.G|(apply ChO.bind;intro _)
theorem zj0 (b c d e f g h i):Cn (zoR c d e f g h b i):=fun q r j a=>zl1 (fun _=>b) b (fun _ _ _ _ _ _=>ChO.const _) _ _ (fun k l m n o p=>j (k,l,m,n,o,p)) c d e f g h i a.1 a.2.1 a.2.2.1 a.2.2.2.1 a.2.2.2.2.1 a.2.2.2.2.2
theorem znQ (a b c d e f g h i j k l m n):zd7 b c d e f g a h i j k l m n=zew b c d e f g a h (zd7 b c d e f g a h) i j k l m n:=zav (zj0 a b c d e f g h) (i,j,k,l,m,n)
theorem zs4 (j:Nat->Tf2) (k:Tf2) (x:∀ l m n o p q,ChO (fun i=>j i l m n o p q) (k l m n o p q)) (b c d e f g h r s t u v w):ChO (fun i=>zd7 b c d e f g (j i) h r s t u v w) (zd7 b c d e f g k h r s t u v w):=by
  unfold zd7
  exact zcA (fun i=>(zj0 (j i) b c d e f g h).mono) (zj0 k b c d e f g h).mono (fun z A y a=>zl1 j k x _ _ (fun l m n o p q=>y (l,m,n,o,p,q)) b c d e f g h a.1 a.2.1 a.2.2.1 a.2.2.2.1 a.2.2.2.2.1 a.2.2.2.2.2) _
theorem zsZ (b:Nat->Tf2) (c:Tf2) (v:∀ p q r s t u,ChO (fun a=>b a p q r s t u) (c p q r s t u)) (d e f g h i j k l m n o):ChO (fun a=>zg3 d e f g h i (b a) j k l m n o) (zg3 d e f g h i c j k l m n o):=by
  unfold zg3
  repeat' with_reducible first|exact ChO.const _|exact v _ _ _ _ _ _|(apply zs4<;>assumption)
theorem zl0 (h:Nat->Tf3) (i:Tf3) (w:∀ b c d e f g,ChO (fun a=>h a b c d e f g) (i b c d e f g)) (j:Nat->Tf2) (k:Tf2) (x:∀ b c d e f g,ChO (fun a=>j a b c d e f g) (k b c d e f g)) (l m n o p q r s t u v):ChO (fun a=>zev l m n o p (h a) (j a) q r s t u v) (zev l m n o p i k q r s t u v):=by
  unfold zev
  repeat' with_reducible first|exact ChO.const _|exact w _ _ _ _ _ _|exact x _ _ _ _ _ _|(apply zsZ<;>assumption)|apply ChO.ite|apply ChO.G|(apply ChO.bind;intro _)
theorem zjZ (b c d e f g):Cn (zoQ c d e f g b):=fun o p h a=>zl0 (fun _=>b) b (fun _ _ _ _ _ _=>ChO.const _) _ _ (fun i j k l m n=>h (i,j,k,l,m,n)) c d e f g a.1 a.2.1 a.2.2.1 a.2.2.2.1 a.2.2.2.2.1 a.2.2.2.2.2
theorem znP (a b c d e f g h i j k l):zd6 b c d e f a g h i j k l=zev b c d e f a (zd6 b c d e f a) g h i j k l:=zav (zjZ a b c d e f) (g,h,i,j,k,l)
theorem zs3 (h:Nat->Tf3) (i:Tf3) (v:∀ j k l m n o,ChO (fun g=>h g j k l m n o) (i j k l m n o)) (b c d e f p q r s t u):ChO (fun g=>zd6 b c d e f (h g) p q r s t u) (zd6 b c d e f i p q r s t u):=by
  unfold zd6
  exact zcA (fun g=>(zjZ (h g) b c d e f).mono) (zjZ i b c d e f).mono (fun x y w a=>zl0 h i v _ _ (fun j k l m n o=>w (j,k,l,m,n,o)) b c d e f a.1 a.2.1 a.2.2.1 a.2.2.2.1 a.2.2.2.2.1 a.2.2.2.2.2) _
theorem zrc (b:Nat->Tf3) (c:Tf3) (t:∀ n o p q r s,ChO (fun a=>b a n o p q r s) (c n o p q r s)) (d e f g h i j k l m):ChO (fun a=>zeu d e f g (b a) h i j k l m) (zeu d e f g c h i j k l m):=by
  unfold zeu
  repeat' with_reducible first|exact ChO.const _|exact t _ _ _ _ _ _|(apply zs3<;>assumption)|apply ChO.ite|(apply ChO.bind;intro _)
theorem zs2 (b c d e):Cn (zoP b c d e):=fun m n f a=>zrc  _ _ (fun g h i j k l=>f (g,h,i,j,k,l)) b c d e a.1 a.2.1 a.2.2.1 a.2.2.2.1 a.2.2.2.2.1 a.2.2.2.2.2
theorem znO (a b c d e f g h i j):zg4 a b c d e f g h i j=zeu a b c d (zg4 a b c d) e f g h i j:=zav (zs2 a b c d) (e,f,g,h,i,j)
theorem zrb (b:Nat->Tf5) (c:Tf5) (r:∀ m n o p q,ChO (fun a=>b a m n o p q) (c m n o p q)) (d e f g h i j k l):ChO (fun a=>zet d e f g (b a) h i j k l) (zet d e f g c h i j k l):=by
  unfold zet
  repeat' with_reducible first|exact ChO.const _|exact r _ _ _ _ _|apply ChO.ite|apply ChO.G
theorem zs1 (b c d e):Cn (zoO b c d e):=fun l m f a=>zrb  _ _ (fun g h i j k=>f (g,h,i,j,k)) b c d e a.1 a.2.1 a.2.2.1 a.2.2.2.1 a.2.2.2.2
theorem znN (a b c d e f g h i):zkE a b c d e f g h i=zet a b c d (zkE a b c d) e f g h i:=zav (zs1 a b c d) (e,f,g,h,i)
theorem zrW (b:Nat->Tf7) (c:Tf7) (m:∀ i j k l,ChO (fun a=>b a i j k l) (c i j k l)) (d e f g h):ChO (fun a=>ze2 d (b a) e f g h) (ze2 d c e f g h):=by
  unfold ze2
  repeat' with_reducible first|exact ChO.const _|exact m _ _ _ _|(apply zuB<;>assumption)|apply ChO.ite|apply ChO.G
theorem zuC (b):Cn (zpX b):=fun h i c a=>zrW  _ _ (fun d e f g=>c (d,e,f,g)) b a.1 a.2.1 a.2.2.1 a.2.2.2
theorem zoT (a b c d e):zeT a b c d e=ze2 a (zeT a) b c d e:=zav (zuC a) (b,c,d,e)

def zh2 (a:((List UInt8)×Int×Int×Int×Int×Tp8×(Int×Int×Unit)×Unit)):Option (Bool):=
  some (decide (a.2.2.2.2.2.2.1.1=(0:Int)))

def zeI (a:((List UInt8)×Int×Int×Int×Int×Tp8×(Int×Int×Unit)×Unit)):Option (Int):=
  if (decide ((a.1.length:Int)<=a.2.1))=true then
  some (0:Int) else
  G (0<=a.2.1/\a.2.1 < (a.1.length:Int)) (
  some (bAt a.1 a.2.1))

def zeh (h:Int) (b:(List UInt8)) (a c d e f i:Int) (g:Tp8):Option ((List UInt8)×Int×Int×Int×Int×Tp8×Int×Int):=
  if (decide (f=(0:Int)))=true then
  some (b,a,c,d,e,g,h,a) else
  some (b,a,c,d,e,g,f,i)

def zfj (c:(List UInt8)) (b d e f g h:Int) (i:Tp8) (j:Bool):Option ((List UInt8)×Int×Int×Int×Int×Tp8×Int×Int):=
  if j=true then
  (zeh (7:Int) c b d e f g h i).bind (fun a=>
  G (fits (a.2.1+(1:Int))) (
  some (a.1,a.2.1+(1:Int),a.2.2.1,a.2.2.2.1,a.2.2.2.2.1,a.2.2.2.2.2.1,a.2.2.2.2.2.2.1,a.2.2.2.2.2.2.2))) else
  G (fits (b+(1:Int))) (
  some (c,b+(1:Int),d,e,f,i,g,h))
def zhi (i:Bool) (c:(List UInt8)) (d a b e f g:Int) (h:Tp8):Option ((List UInt8)×Int×Int×Int×Int×Tp8×Int×Int):=
  if (decide ((30:Int) < a))=true then
  zfj c d a b e f g h true else
  if i=true then
  zfj c d a b e f g h (decide ((5:Int) < b)) else
  zfj c d a b e f g h false
def zcg (d:(List UInt8)) (e a b f g h:Int) (i:Tp8) (c:Bool):Option ((List UInt8)×Int×Int×Int×Int×Tp8×Int×Int):=
  G (fits (a+(1:Int))) (
  if c=true then
  G (fits (b+(1:Int))) (
  zhi c d e (a+(1:Int)) (b+(1:Int)) f g h i) else
  zhi c d e (a+(1:Int)) b f g h i)
def zaH (a:Int) (b:(List UInt8)) (c d e f g h:Int) (i:Tp8):Option ((List UInt8)×Int×Int×Int×Int×Tp8×Int×Int):=
  if (decide (a=(88:Int)))=true then
  zcg b c d e f g h i true else
  if (decide (a=(70:Int)))=true then
  zcg b c d e f g h i true else
  if (decide (a=(71:Int)))=true then
  zcg b c d e f g h i true else
  if (decide (a=(85:Int)))=true then
  zcg b c d e f g h i true else
  zcg b c d e f g h i (decide (a=(82:Int)))

def zbH (a b c:Int) (e:(List UInt8)) (f g h i j k:Int) (d:Tp8):Option (Int×(List UInt8)×Int×Int×Int×Int×Tp8×Int×Int):=
  G (room d ([(a,(b,(c,())))]) 24) (
  G (fits (((d++([(a,(b,(c,())))])).length:Int) - (1:Int))) (
  some (((d++([(a,(b,(c,())))])).length:Int) - (1:Int),e,f,g,h,i,d++([(a,(b,(c,())))]),j,k)))

def zcd (p:(List UInt8)->Int->Int->Int->Int->Int->Int->Tp8->Option (Int×(List UInt8)×Int×Int×Int×Int×Tp8×Int×Int)) (i:(List UInt8)) (h j k g l m:Int) (n:Tp8) (o:Int) (q:Bool):Option (Int×(List UInt8)×Int×Int×Int×Int×Tp8×Int×Int):=
  if q=true then
  (zaH o i h j k g l m n).bind (fun d=>
  (zbH o (0:Int) (0:Int) d.1 d.2.1 d.2.2.1 d.2.2.2.1 d.2.2.2.2.1 d.2.2.2.2.2.2.1 d.2.2.2.2.2.2.2 d.2.2.2.2.2.1).bind (fun c=>
  some (c.1,c.2.1,c.2.2.1,c.2.2.2.1,c.2.2.2.2.1,c.2.2.2.2.2.1,c.2.2.2.2.2.2.1,c.2.2.2.2.2.2.2.1,c.2.2.2.2.2.2.2.2))) else
  if (decide (¬ o=(40:Int)))=true then
  (zeh (4:Int) i h j k g l m n).bind (fun e=>
  some ((0:Int),e.1,e.2.1,e.2.2.1,e.2.2.2.1,e.2.2.2.2.1,e.2.2.2.2.2.1,e.2.2.2.2.2.2.1,e.2.2.2.2.2.2.2)) else
  if (decide (g=(40:Int)))=true then
  (zeh (7:Int) i h j k g l m n).bind (fun f=>
  some ((0:Int),f.1,f.2.1,f.2.2.1,f.2.2.2.1,f.2.2.2.2.1,f.2.2.2.2.2.1,f.2.2.2.2.2.2.1,f.2.2.2.2.2.2.2)) else
  G (fits (g+(1:Int))) (
  G (fits (h+(1:Int))) (
  (p i (h+(1:Int)) j k (g+(1:Int)) l m n).bind (fun a=>
  (zeI (a.2.1,(a.2.2.1,(a.2.2.2.1,(a.2.2.2.2.1,(a.2.2.2.2.2.1,(a.2.2.2.2.2.2.1,((a.2.2.2.2.2.2.2.1,(a.2.2.2.2.2.2.2.2,())),())))))))).bind (fun r=>
  if (decide (¬ r=(41:Int)))=true then
  (zeh (4:Int) a.2.1 a.2.2.1 a.2.2.2.1 a.2.2.2.2.1 a.2.2.2.2.2.1 a.2.2.2.2.2.2.2.1 a.2.2.2.2.2.2.2.2 a.2.2.2.2.2.2.1).bind (fun b=>
  G (fits (b.2.1+(1:Int))) (
  G (fits (b.2.2.2.2.1 - (1:Int))) (
  some (a.1,b.1,b.2.1+(1:Int),b.2.2.1,b.2.2.2.1,b.2.2.2.2.1 - (1:Int),b.2.2.2.2.2.1,b.2.2.2.2.2.2.1,b.2.2.2.2.2.2.2)))) else
  G (fits (a.2.2.1+(1:Int))) (
  G (fits (a.2.2.2.2.2.1 - (1:Int))) (
  some (a.1,a.2.1,a.2.2.1+(1:Int),a.2.2.2.1,a.2.2.2.2.1,a.2.2.2.2.2.1 - (1:Int),a.2.2.2.2.2.2.1,a.2.2.2.2.2.2.2.1,a.2.2.2.2.2.2.2.2)))))))
def zcl (m:(List UInt8)->Int->Int->Int->Int->Int->Int->Tp8->Option (Int×(List UInt8)×Int×Int×Int×Int×Tp8×Int×Int)) (e:(List UInt8)) (f g h i j k:Int) (l:Tp8) (n:((List UInt8)->Int->Int->Int->Int->Int->Int->Tp8->Option (Int×(List UInt8)×Int×Int×Int×Int×Tp8×Int×Int))) (a:Int) (o:Bool):Option (Int×(List UInt8)×Int×Int×Int×Int×Tp8×Int×Int):=
  if o=true then
  (zaH a e f g h i j k l).bind (fun d=>
  (n d.1 d.2.1 d.2.2.1 d.2.2.2.1 d.2.2.2.2.1 d.2.2.2.2.2.2.1 d.2.2.2.2.2.2.2 d.2.2.2.2.2.1).bind (fun b=>
  (zbH a b.1 (0:Int) b.2.1 b.2.2.1 b.2.2.2.1 b.2.2.2.2.1 b.2.2.2.2.2.1 b.2.2.2.2.2.2.2.1 b.2.2.2.2.2.2.2.2 b.2.2.2.2.2.2.1).bind (fun c=>
  some (c.1,c.2.1,c.2.2.1,c.2.2.2.1,c.2.2.2.2.1,c.2.2.2.2.2.1,c.2.2.2.2.2.2.1,c.2.2.2.2.2.2.2.1,c.2.2.2.2.2.2.2.2)))) else
  if (decide (a=(112:Int)))=true then
  zcd m e f g h i j k l a (decide (a=(112:Int))) else
  if (decide (a=(113:Int)))=true then
  zcd m e f g h i j k l a (decide (a=(113:Int))) else
  if (decide (a=(48:Int)))=true then
  zcd m e f g h i j k l a (decide (a=(48:Int))) else
  zcd m e f g h i j k l a (decide (a=(49:Int)))
def za9 (j k:(List UInt8)->Int->Int->Int->Int->Int->Int->Tp8->Option (Int×(List UInt8)×Int×Int×Int×Int×Tp8×Int×Int)) (b:(List UInt8)) (c d e f g h:Int) (i:Tp8):Option (Int×(List UInt8)×Int×Int×Int×Int×Tp8×Int×Int):=
  (zh2 (b,(c,(d,(e,(f,(i,((g,(h,())),())))))))).bind (fun l=>
  if (!l)=true then
  some ((0:Int),b,c,d,e,f,i,g,h) else
  (zeI (b,(c,(d,(e,(f,(i,((g,(h,())),())))))))).bind (fun a=>
  if (decide (a=(33:Int)))=true then
  zcl j b c d e f g h i k a (decide (a=(33:Int))) else
  if (decide (a=(88:Int)))=true then
  zcl j b c d e f g h i k a (decide (a=(88:Int))) else
  if (decide (a=(70:Int)))=true then
  zcl j b c d e f g h i k a (decide (a=(70:Int))) else
  zcl j b c d e f g h i k a (decide (a=(71:Int)))))
def ziz (b:(List UInt8)->Int->Int->Int->Int->Int->Int->Tp8->Option (Int×(List UInt8)×Int×Int×Int×Int×Tp8×Int×Int)):((List UInt8)×Int×Int×Int×Int×Int×Int×Tp8->Option (Int×(List UInt8)×Int×Int×Int×Int×Tp8×Int×Int))->(List UInt8)×Int×Int×Int×Int×Int×Int×Tp8->Option (Int×(List UInt8)×Int×Int×Int×Int×Tp8×Int×Int):=
  fun rec a=>za9 b (fun c d e f g h i j=>rec (c,d,e,f,g,h,i,j)) a.1 a.2.1 a.2.2.1 a.2.2.2.1 a.2.2.2.2.1 a.2.2.2.2.2.1 a.2.2.2.2.2.2.1 a.2.2.2.2.2.2.2
def za5 (a:(List UInt8)->Int->Int->Int->Int->Int->Int->Tp8->Option (Int×(List UInt8)×Int×Int×Int×Int×Tp8×Int×Int)) (b:(List UInt8)) (c d e f g h:Int) (i:Tp8):Option (Int×(List UInt8)×Int×Int×Int×Int×Tp8×Int×Int):=LFix (ziz a ) (b,c,d,e,f,g,h,i)
def zdh (e:((List UInt8)->Int->Int->Int->Int->Int->Int->Tp8->Option (Int×(List UInt8)×Int×Int×Int×Int×Tp8×Int×Int))) (f:Int) (g:(List UInt8)) (h i j k:Int) (l:Tp8) (m n d:Int):Option (Int×(List UInt8)×Int×Int×Int×Int×Tp8×Int×Int):=
  (zaH d g h i j k m n l).bind (fun c=>
  (e c.1 c.2.1 c.2.2.1 c.2.2.2.1 c.2.2.2.2.1 c.2.2.2.2.2.2.1 c.2.2.2.2.2.2.2 c.2.2.2.2.2.1).bind (fun a=>
  (zbH d f a.1 a.2.1 a.2.2.1 a.2.2.2.1 a.2.2.2.2.1 a.2.2.2.2.2.1 a.2.2.2.2.2.2.2.1 a.2.2.2.2.2.2.2.2 a.2.2.2.2.2.2.1).bind (fun b=>
  some (b.1,b.2.1,b.2.2.1,b.2.2.2.1,b.2.2.2.2.1,b.2.2.2.2.2.1,b.2.2.2.2.2.2.1,b.2.2.2.2.2.2.2.1,b.2.2.2.2.2.2.2.2))))
def zdS (d c:(List UInt8)->Int->Int->Int->Int->Int->Int->Tp8->Option (Int×(List UInt8)×Int×Int×Int×Int×Tp8×Int×Int)) (e:(List UInt8)) (f g h i j k:Int) (l:Tp8):Option (Int×(List UInt8)×Int×Int×Int×Int×Tp8×Int×Int):=
  (za5 d e f g h i j k l).bind (fun a=>
  (zeI (a.2.1,(a.2.2.1,(a.2.2.2.1,(a.2.2.2.2.1,(a.2.2.2.2.2.1,(a.2.2.2.2.2.2.1,((a.2.2.2.2.2.2.2.1,(a.2.2.2.2.2.2.2.2,())),())))))))).bind (fun b=>
  (zh2 (a.2.1,(a.2.2.1,(a.2.2.2.1,(a.2.2.2.2.1,(a.2.2.2.2.2.1,(a.2.2.2.2.2.2.1,((a.2.2.2.2.2.2.2.1,(a.2.2.2.2.2.2.2.2,())),())))))))).bind (fun m=>
  if (!m)=true then
  some (a.1,a.2.1,a.2.2.1,a.2.2.2.1,a.2.2.2.2.1,a.2.2.2.2.2.1,a.2.2.2.2.2.2.1,a.2.2.2.2.2.2.2.1,a.2.2.2.2.2.2.2.2) else
  if (decide (¬ b=(85:Int)))=true then
  if (decide (¬ b=(82:Int)))=true then
  some (a.1,a.2.1,a.2.2.1,a.2.2.2.1,a.2.2.2.2.1,a.2.2.2.2.2.1,a.2.2.2.2.2.2.1,a.2.2.2.2.2.2.2.1,a.2.2.2.2.2.2.2.2) else
  zdh c a.1 a.2.1 a.2.2.1 a.2.2.2.1 a.2.2.2.2.1 a.2.2.2.2.2.1 a.2.2.2.2.2.2.1 a.2.2.2.2.2.2.2.1 a.2.2.2.2.2.2.2.2 b else
  zdh c a.1 a.2.1 a.2.2.1 a.2.2.2.1 a.2.2.2.2.1 a.2.2.2.2.2.1 a.2.2.2.2.2.2.1 a.2.2.2.2.2.2.2.1 a.2.2.2.2.2.2.2.2 b)))
def zhJ (b:(List UInt8)->Int->Int->Int->Int->Int->Int->Tp8->Option (Int×(List UInt8)×Int×Int×Int×Int×Tp8×Int×Int)):((List UInt8)×Int×Int×Int×Int×Int×Int×Tp8->Option (Int×(List UInt8)×Int×Int×Int×Int×Tp8×Int×Int))->(List UInt8)×Int×Int×Int×Int×Int×Int×Tp8->Option (Int×(List UInt8)×Int×Int×Int×Int×Tp8×Int×Int):=
  fun rec a=>zdS b (fun c d e f g h i j=>rec (c,d,e,f,g,h,i,j)) a.1 a.2.1 a.2.2.1 a.2.2.2.1 a.2.2.2.2.1 a.2.2.2.2.2.1 a.2.2.2.2.2.2.1 a.2.2.2.2.2.2.2
def zdt (a:(List UInt8)->Int->Int->Int->Int->Int->Int->Tp8->Option (Int×(List UInt8)×Int×Int×Int×Int×Tp8×Int×Int)) (b:(List UInt8)) (c d e f g h:Int) (i:Tp8):Option (Int×(List UInt8)×Int×Int×Int×Int×Tp8×Int×Int):=LFix (zhJ a ) (b,c,d,e,f,g,h,i)
def zcq (n:(List UInt8)->Int->Int->Int->Int->Int->Int->Tp8->Option (Int×(List UInt8)×Int×Int×Int×Int×Tp8×Int×Int)) (o:Int->(List UInt8)->Int->Int->Int->Int->Int->Int->Tp8->Option (Int×(List UInt8)×Int×Int×Int×Int×Tp8×Int×Int)) (l:Int) (d:(List UInt8)) (e f g h i j:Int) (k:Tp8):Option (Int×(List UInt8)×Int×Int×Int×Int×Tp8×Int×Int):=
  (zeI (d,(e,(f,(g,(h,(k,((i,(j,())),())))))))).bind (fun m=>
  (zh2 (d,(e,(f,(g,(h,(k,((i,(j,())),())))))))).bind (fun p=>
  if (!p)=true then
  some (l,d,e,f,g,h,k,i,j) else
  if (decide (¬ m=(38:Int)))=true then
  some (l,d,e,f,g,h,k,i,j) else
  (zaH m d e f g h i j k).bind (fun c=>
  (zdt n c.1 c.2.1 c.2.2.1 c.2.2.2.1 c.2.2.2.2.1 c.2.2.2.2.2.2.1 c.2.2.2.2.2.2.2 c.2.2.2.2.2.1).bind (fun a=>
  (zbH (38:Int) l a.1 a.2.1 a.2.2.1 a.2.2.2.1 a.2.2.2.2.1 a.2.2.2.2.2.1 a.2.2.2.2.2.2.2.1 a.2.2.2.2.2.2.2.2 a.2.2.2.2.2.2.1).bind (fun b=>
  o b.1 b.2.1 b.2.2.1 b.2.2.2.1 b.2.2.2.2.1 b.2.2.2.2.2.1 b.2.2.2.2.2.2.2.1 b.2.2.2.2.2.2.2.2 b.2.2.2.2.2.2.1)))))
def zk6 (b:(List UInt8)->Int->Int->Int->Int->Int->Int->Tp8->Option (Int×(List UInt8)×Int×Int×Int×Int×Tp8×Int×Int)):(Int×(List UInt8)×Int×Int×Int×Int×Int×Int×Tp8->Option (Int×(List UInt8)×Int×Int×Int×Int×Tp8×Int×Int))->Int×(List UInt8)×Int×Int×Int×Int×Int×Int×Tp8->Option (Int×(List UInt8)×Int×Int×Int×Int×Tp8×Int×Int):=
  fun rec a=>zcq b (fun c d e f g h i j k=>rec (c,d,e,f,g,h,i,j,k)) a.1 a.2.1 a.2.2.1 a.2.2.2.1 a.2.2.2.2.1 a.2.2.2.2.2.1 a.2.2.2.2.2.2.1 a.2.2.2.2.2.2.2.1 a.2.2.2.2.2.2.2.2
def zcv (a:(List UInt8)->Int->Int->Int->Int->Int->Int->Tp8->Option (Int×(List UInt8)×Int×Int×Int×Int×Tp8×Int×Int)) (b:Int) (c:(List UInt8)) (d e f g h i:Int) (j:Tp8):Option (Int×(List UInt8)×Int×Int×Int×Int×Tp8×Int×Int):=LFix (zk6 a ) (b,c,d,e,f,g,h,i,j)
def zcD (b:(List UInt8)->Int->Int->Int->Int->Int->Int->Tp8->Option (Int×(List UInt8)×Int×Int×Int×Int×Tp8×Int×Int)) (c:(List UInt8)) (d e f g h i:Int) (j:Tp8):Option (Int×(List UInt8)×Int×Int×Int×Int×Tp8×Int×Int):=
  (zdt b c d e f g h i j).bind (fun a=>
  zcv b a.1 a.2.1 a.2.2.1 a.2.2.2.1 a.2.2.2.2.1 a.2.2.2.2.2.1 a.2.2.2.2.2.2.2.1 a.2.2.2.2.2.2.2.2 a.2.2.2.2.2.2.1)
def zbY (n:(List UInt8)->Int->Int->Int->Int->Int->Int->Tp8->Option (Int×(List UInt8)×Int×Int×Int×Int×Tp8×Int×Int)) (o:Int->(List UInt8)->Int->Int->Int->Int->Int->Int->Tp8->Option (Int×(List UInt8)×Int×Int×Int×Int×Tp8×Int×Int)) (l:Int) (d:(List UInt8)) (e f g h i j:Int) (k:Tp8):Option (Int×(List UInt8)×Int×Int×Int×Int×Tp8×Int×Int):=
  (zeI (d,(e,(f,(g,(h,(k,((i,(j,())),())))))))).bind (fun m=>
  (zh2 (d,(e,(f,(g,(h,(k,((i,(j,())),())))))))).bind (fun p=>
  if (!p)=true then
  some (l,d,e,f,g,h,k,i,j) else
  if (decide (¬ m=(124:Int)))=true then
  some (l,d,e,f,g,h,k,i,j) else
  (zaH m d e f g h i j k).bind (fun c=>
  (zcD n c.1 c.2.1 c.2.2.1 c.2.2.2.1 c.2.2.2.2.1 c.2.2.2.2.2.2.1 c.2.2.2.2.2.2.2 c.2.2.2.2.2.1).bind (fun a=>
  (zbH (124:Int) l a.1 a.2.1 a.2.2.1 a.2.2.2.1 a.2.2.2.2.1 a.2.2.2.2.2.1 a.2.2.2.2.2.2.2.1 a.2.2.2.2.2.2.2.2 a.2.2.2.2.2.2.1).bind (fun b=>
  o b.1 b.2.1 b.2.2.1 b.2.2.2.1 b.2.2.2.2.1 b.2.2.2.2.2.1 b.2.2.2.2.2.2.2.1 b.2.2.2.2.2.2.2.2 b.2.2.2.2.2.2.1)))))
def ziU (b:(List UInt8)->Int->Int->Int->Int->Int->Int->Tp8->Option (Int×(List UInt8)×Int×Int×Int×Int×Tp8×Int×Int)):(Int×(List UInt8)×Int×Int×Int×Int×Int×Int×Tp8->Option (Int×(List UInt8)×Int×Int×Int×Int×Tp8×Int×Int))->Int×(List UInt8)×Int×Int×Int×Int×Int×Int×Tp8->Option (Int×(List UInt8)×Int×Int×Int×Int×Tp8×Int×Int):=
  fun rec a=>zbY b (fun c d e f g h i j k=>rec (c,d,e,f,g,h,i,j,k)) a.1 a.2.1 a.2.2.1 a.2.2.2.1 a.2.2.2.2.1 a.2.2.2.2.2.1 a.2.2.2.2.2.2.1 a.2.2.2.2.2.2.2.1 a.2.2.2.2.2.2.2.2
def zbW (a:(List UInt8)->Int->Int->Int->Int->Int->Int->Tp8->Option (Int×(List UInt8)×Int×Int×Int×Int×Tp8×Int×Int)) (b:Int) (c:(List UInt8)) (d e f g h i:Int) (j:Tp8):Option (Int×(List UInt8)×Int×Int×Int×Int×Tp8×Int×Int):=LFix (ziU a ) (b,c,d,e,f,g,h,i,j)
def zdg (b:(List UInt8)->Int->Int->Int->Int->Int->Int->Tp8->Option (Int×(List UInt8)×Int×Int×Int×Int×Tp8×Int×Int)) (c:(List UInt8)) (d e f g h i:Int) (j:Tp8):Option (Int×(List UInt8)×Int×Int×Int×Int×Tp8×Int×Int):=
  (zcD b c d e f g h i j).bind (fun a=>
  zbW b a.1 a.2.1 a.2.2.1 a.2.2.2.1 a.2.2.2.2.1 a.2.2.2.2.2.1 a.2.2.2.2.2.2.2.1 a.2.2.2.2.2.2.2.2 a.2.2.2.2.2.2.1)
theorem zps (b:Nat->(List UInt8)->Int->Int->Int->Int->Int->Int->Tp8->Option (Int×(List UInt8)×Int×Int×Int×Int×Tp8×Int×Int)) (c:(List UInt8)->Int->Int->Int->Int->Int->Int->Tp8->Option (Int×(List UInt8)×Int×Int×Int×Int×Tp8×Int×Int)) (d:∀ o p q r s t u v,ChO (fun a=>b a o p q r s t u v) (c o p q r s t u v)) (e f g h i j k l m n):ChO (fun a=>zcd (b a) e f g h i j k l m n) (zcd c e f g h i j k l m n):=by
  unfold zcd
  repeat' with_reducible first|exact ChO.const _|exact d _ _ _ _ _ _ _ _|apply ChO.ite|apply ChO.G|(apply ChO.bind;intro _)|(apply ChO.bind2 (d _ _ _ _ _ _ _ _);intro _) | (refine ChO.bind2 ?_ (fun _ => ?_))
theorem zqe (j:Nat->(List UInt8)->Int->Int->Int->Int->Int->Int->Tp8->Option (Int×(List UInt8)×Int×Int×Int×Int×Tp8×Int×Int)) (k:(List UInt8)->Int->Int->Int->Int->Int->Int->Tp8->Option (Int×(List UInt8)×Int×Int×Int×Int×Tp8×Int×Int)) (l:∀ b c d e f g h i,ChO (fun a=>j a b c d e f g h i) (k b c d e f g h i)) (m:Nat->(List UInt8)->Int->Int->Int->Int->Int->Int->Tp8->Option (Int×(List UInt8)×Int×Int×Int×Int×Tp8×Int×Int)) (n:(List UInt8)->Int->Int->Int->Int->Int->Int->Tp8->Option (Int×(List UInt8)×Int×Int×Int×Int×Tp8×Int×Int)) (y:∀ b c d e f g h i,ChO (fun a=>m a b c d e f g h i) (n b c d e f g h i)) (o p q r s t u v w x):ChO (fun a=>zcl (j a) o p q r s t u v (m a) w x) (zcl k o p q r s t u v n w x):=by
  unfold zcl
  repeat' with_reducible first|exact ChO.const _|exact l _ _ _ _ _ _ _ _|exact y _ _ _ _ _ _ _ _|(apply zps<;>assumption)|apply ChO.ite|(apply ChO.bind;intro _)|(apply ChO.bind2 (l _ _ _ _ _ _ _ _);intro _) | (refine ChO.bind2 ?_ (fun _ => ?_))
theorem zlN (j:Nat->(List UInt8)->Int->Int->Int->Int->Int->Int->Tp8->Option (Int×(List UInt8)×Int×Int×Int×Int×Tp8×Int×Int)) (k:(List UInt8)->Int->Int->Int->Int->Int->Int->Tp8->Option (Int×(List UInt8)×Int×Int×Int×Int×Tp8×Int×Int)) (l:∀ b c d e f g h i,ChO (fun a=>j a b c d e f g h i) (k b c d e f g h i)) (m:Nat->(List UInt8)->Int->Int->Int->Int->Int->Int->Tp8->Option (Int×(List UInt8)×Int×Int×Int×Int×Tp8×Int×Int)) (n:(List UInt8)->Int->Int->Int->Int->Int->Int->Tp8->Option (Int×(List UInt8)×Int×Int×Int×Int×Tp8×Int×Int)) (w:∀ b c d e f g h i,ChO (fun a=>m a b c d e f g h i) (n b c d e f g h i)) (o p q r s t u v):ChO (fun a=>za9 (j a) (m a) o p q r s t u v) (za9 k n o p q r s t u v):=by
  unfold za9
  repeat' with_reducible first|exact ChO.const _|exact l _ _ _ _ _ _ _ _|exact w _ _ _ _ _ _ _ _|(apply zqe<;>assumption)|apply ChO.ite|(apply ChO.bind;intro _)|(apply ChO.bind2 (l _ _ _ _ _ _ _ _);intro _) | (refine ChO.bind2 ?_ (fun _ => ?_))
theorem zjT (b):Cn (ziz b):=fun l m c a=>zlN (fun _=>b) b (fun _ _ _ _ _ _ _ _=>ChO.const _) _ _ (fun d e f g h i j k=>c (d,e,f,g,h,i,j,k))  a.1 a.2.1 a.2.2.1 a.2.2.2.1 a.2.2.2.2.1 a.2.2.2.2.2.1 a.2.2.2.2.2.2.1 a.2.2.2.2.2.2.2
theorem zbQ (a b c d e f g h i):za5 a b c d e f g h i=za9 a (za5 a) b c d e f g h i:=zav (zjT a) (b,c,d,e,f,g,h,i)
theorem zsV (c:Nat->(List UInt8)->Int->Int->Int->Int->Int->Int->Tp8->Option (Int×(List UInt8)×Int×Int×Int×Int×Tp8×Int×Int)) (d:(List UInt8)->Int->Int->Int->Int->Int->Int->Tp8->Option (Int×(List UInt8)×Int×Int×Int×Int×Tp8×Int×Int)) (u:∀ e f g h i j k l,ChO (fun b=>c b e f g h i j k l) (d e f g h i j k l)) (m n o p q r s t):ChO (fun b=>za5 (c b) m n o p q r s t) (za5 d m n o p q r s t):=by
  unfold za5
  exact zcA (fun b=>(zjT (c b) ).mono) (zjT d ).mono (fun w x v a=>zlN c d u _ _ (fun e f g h i j k l=>v (e,f,g,h,i,j,k,l))  a.1 a.2.1 a.2.2.1 a.2.2.2.1 a.2.2.2.2.1 a.2.2.2.2.2.1 a.2.2.2.2.2.2.1 a.2.2.2.2.2.2.2) _
theorem zpt (b:Nat->(List UInt8)->Int->Int->Int->Int->Int->Int->Tp8->Option (Int×(List UInt8)×Int×Int×Int×Int×Tp8×Int×Int)) (c:(List UInt8)->Int->Int->Int->Int->Int->Int->Tp8->Option (Int×(List UInt8)×Int×Int×Int×Int×Tp8×Int×Int)) (v:∀ n o p q r s t u,ChO (fun a=>b a n o p q r s t u) (c n o p q r s t u)) (d e f g h i j k l m):ChO (fun a=>zdh (b a) d e f g h i j k l m) (zdh c d e f g h i j k l m):=by
  unfold zdh
  repeat' with_reducible first|exact ChO.const _|exact v _ _ _ _ _ _ _ _|(apply ChO.bind;intro _) | (refine ChO.bind2 ?_ (fun _ => ?_))
theorem zk5 (j:Nat->(List UInt8)->Int->Int->Int->Int->Int->Int->Tp8->Option (Int×(List UInt8)×Int×Int×Int×Int×Tp8×Int×Int)) (k:(List UInt8)->Int->Int->Int->Int->Int->Int->Tp8->Option (Int×(List UInt8)×Int×Int×Int×Int×Tp8×Int×Int)) (l:∀ b c d e f g h i,ChO (fun a=>j a b c d e f g h i) (k b c d e f g h i)) (m:Nat->(List UInt8)->Int->Int->Int->Int->Int->Int->Tp8->Option (Int×(List UInt8)×Int×Int×Int×Int×Tp8×Int×Int)) (n:(List UInt8)->Int->Int->Int->Int->Int->Int->Tp8->Option (Int×(List UInt8)×Int×Int×Int×Int×Tp8×Int×Int)) (w:∀ b c d e f g h i,ChO (fun a=>m a b c d e f g h i) (n b c d e f g h i)) (o p q r s t u v):ChO (fun a=>zdS (j a) (m a) o p q r s t u v) (zdS k n o p q r s t u v):=by
  unfold zdS
  repeat' with_reducible first|exact ChO.const _|exact l _ _ _ _ _ _ _ _|exact w _ _ _ _ _ _ _ _|(apply zsV<;>assumption)|(apply zpt<;>assumption)|apply ChO.ite|(apply ChO.bind;intro _)|(apply ChO.bind2 (l _ _ _ _ _ _ _ _);intro _) | (refine ChO.bind2 ?_ (fun _ => ?_))
theorem zjb (b):Cn (zhJ b):=fun l m c a=>zk5 (fun _=>b) b (fun _ _ _ _ _ _ _ _=>ChO.const _) _ _ (fun d e f g h i j k=>c (d,e,f,g,h,i,j,k))  a.1 a.2.1 a.2.2.1 a.2.2.2.1 a.2.2.2.2.1 a.2.2.2.2.2.1 a.2.2.2.2.2.2.1 a.2.2.2.2.2.2.2
theorem zmM (a b c d e f g h i):zdt a b c d e f g h i=zdS a (zdt a) b c d e f g h i:=zav (zjb a) (b,c,d,e,f,g,h,i)
theorem zmL (c:Nat->(List UInt8)->Int->Int->Int->Int->Int->Int->Tp8->Option (Int×(List UInt8)×Int×Int×Int×Int×Tp8×Int×Int)) (d:(List UInt8)->Int->Int->Int->Int->Int->Int->Tp8->Option (Int×(List UInt8)×Int×Int×Int×Int×Tp8×Int×Int)) (u:∀ e f g h i j k l,ChO (fun b=>c b e f g h i j k l) (d e f g h i j k l)) (m n o p q r s t):ChO (fun b=>zdt (c b) m n o p q r s t) (zdt d m n o p q r s t):=by
  unfold zdt
  exact zcA (fun b=>(zjb (c b) ).mono) (zjb d ).mono (fun w x v a=>zk5 c d u _ _ (fun e f g h i j k l=>v (e,f,g,h,i,j,k,l))  a.1 a.2.1 a.2.2.1 a.2.2.2.1 a.2.2.2.2.1 a.2.2.2.2.2.1 a.2.2.2.2.2.2.1 a.2.2.2.2.2.2.2) _
theorem ziV (j:Nat->(List UInt8)->Int->Int->Int->Int->Int->Int->Tp8->Option (Int×(List UInt8)×Int×Int×Int×Int×Tp8×Int×Int)) (k:(List UInt8)->Int->Int->Int->Int->Int->Int->Tp8->Option (Int×(List UInt8)×Int×Int×Int×Int×Tp8×Int×Int)) (l:∀ b c d e f g h i,ChO (fun a=>j a b c d e f g h i) (k b c d e f g h i)) (m:Nat->Int->(List UInt8)->Int->Int->Int->Int->Int->Int->Tp8->Option (Int×(List UInt8)×Int×Int×Int×Int×Tp8×Int×Int)) (n:Int->(List UInt8)->Int->Int->Int->Int->Int->Int->Tp8->Option (Int×(List UInt8)×Int×Int×Int×Int×Tp8×Int×Int)) (y:∀ b c d e f g h i x,ChO (fun a=>m a b c d e f g h i x) (n b c d e f g h i x)) (o p q r s t u v w):ChO (fun a=>zcq (j a) (m a) o p q r s t u v w) (zcq k n o p q r s t u v w):=by
  unfold zcq
  repeat' with_reducible first|exact ChO.const _|exact l _ _ _ _ _ _ _ _|exact y _ _ _ _ _ _ _ _ _|(apply zmL<;>assumption)|apply ChO.ite|(apply ChO.bind;intro _)|(apply ChO.bind2 (l _ _ _ _ _ _ _ _);intro _) | (refine ChO.bind2 ?_ (fun _ => ?_))
theorem zhj (b):Cn (zk6 b):=fun m n c a=>ziV (fun _=>b) b (fun _ _ _ _ _ _ _ _=>ChO.const _) _ _ (fun d e f g h i j k l=>c (d,e,f,g,h,i,j,k,l))  a.1 a.2.1 a.2.2.1 a.2.2.2.1 a.2.2.2.2.1 a.2.2.2.2.2.1 a.2.2.2.2.2.2.1 a.2.2.2.2.2.2.2.1 a.2.2.2.2.2.2.2.2
theorem zj4 (a b c d e f g h i j):zcv a b c d e f g h i j=zcq a (zcv a) b c d e f g h i j:=zav (zhj a) (b,c,d,e,f,g,h,i,j)
theorem zpu (c:Nat->(List UInt8)->Int->Int->Int->Int->Int->Int->Tp8->Option (Int×(List UInt8)×Int×Int×Int×Int×Tp8×Int×Int)) (d:(List UInt8)->Int->Int->Int->Int->Int->Int->Tp8->Option (Int×(List UInt8)×Int×Int×Int×Int×Tp8×Int×Int)) (v:∀ e f g h i j k l,ChO (fun b=>c b e f g h i j k l) (d e f g h i j k l)) (m n o p q r s t u):ChO (fun b=>zcv (c b) m n o p q r s t u) (zcv d m n o p q r s t u):=by
  unfold zcv
  exact zcA (fun b=>(zhj (c b) ).mono) (zhj d ).mono (fun y z w a=>ziV c d v _ _ (fun e f g h i j k l x=>w (e,f,g,h,i,j,k,l,x))  a.1 a.2.1 a.2.2.1 a.2.2.2.1 a.2.2.2.2.1 a.2.2.2.2.2.1 a.2.2.2.2.2.2.1 a.2.2.2.2.2.2.2.1 a.2.2.2.2.2.2.2.2) _
theorem zmQ (b:Nat->(List UInt8)->Int->Int->Int->Int->Int->Int->Tp8->Option (Int×(List UInt8)×Int×Int×Int×Int×Tp8×Int×Int)) (c:(List UInt8)->Int->Int->Int->Int->Int->Int->Tp8->Option (Int×(List UInt8)×Int×Int×Int×Int×Tp8×Int×Int)) (d:∀ m n o p q r s t,ChO (fun a=>b a m n o p q r s t) (c m n o p q r s t)) (e f g h i j k l):ChO (fun a=>zcD (b a) e f g h i j k l) (zcD c e f g h i j k l):=by
  unfold zcD
  repeat' with_reducible first|exact ChO.const _|exact d _ _ _ _ _ _ _ _|(apply zmL<;>assumption)|(apply zpu<;>assumption)|(apply ChO.bind;intro _)|(apply ChO.bind2 (d _ _ _ _ _ _ _ _);intro _) | (refine ChO.bind2 ?_ (fun _ => ?_))
theorem zhv (j:Nat->(List UInt8)->Int->Int->Int->Int->Int->Int->Tp8->Option (Int×(List UInt8)×Int×Int×Int×Int×Tp8×Int×Int)) (k:(List UInt8)->Int->Int->Int->Int->Int->Int->Tp8->Option (Int×(List UInt8)×Int×Int×Int×Int×Tp8×Int×Int)) (l:∀ b c d e f g h i,ChO (fun a=>j a b c d e f g h i) (k b c d e f g h i)) (m:Nat->Int->(List UInt8)->Int->Int->Int->Int->Int->Int->Tp8->Option (Int×(List UInt8)×Int×Int×Int×Int×Tp8×Int×Int)) (n:Int->(List UInt8)->Int->Int->Int->Int->Int->Int->Tp8->Option (Int×(List UInt8)×Int×Int×Int×Int×Tp8×Int×Int)) (y:∀ b c d e f g h i x,ChO (fun a=>m a b c d e f g h i x) (n b c d e f g h i x)) (o p q r s t u v w):ChO (fun a=>zbY (j a) (m a) o p q r s t u v w) (zbY k n o p q r s t u v w):=by
  unfold zbY
  repeat' with_reducible first|exact ChO.const _|exact l _ _ _ _ _ _ _ _|exact y _ _ _ _ _ _ _ _ _|(apply zmQ<;>assumption)|apply ChO.ite|(apply ChO.bind;intro _)|(apply ChO.bind2 (l _ _ _ _ _ _ _ _);intro _) | (refine ChO.bind2 ?_ (fun _ => ?_))
theorem zfS (b):Cn (ziU b):=fun m n c a=>zhv (fun _=>b) b (fun _ _ _ _ _ _ _ _=>ChO.const _) _ _ (fun d e f g h i j k l=>c (d,e,f,g,h,i,j,k,l))  a.1 a.2.1 a.2.2.1 a.2.2.2.1 a.2.2.2.2.1 a.2.2.2.2.2.1 a.2.2.2.2.2.2.1 a.2.2.2.2.2.2.2.1 a.2.2.2.2.2.2.2.2
theorem zix (a b c d e f g h i j):zbW a b c d e f g h i j=zbY a (zbW a) b c d e f g h i j:=zav (zfS a) (b,c,d,e,f,g,h,i,j)
theorem zno (c:Nat->(List UInt8)->Int->Int->Int->Int->Int->Int->Tp8->Option (Int×(List UInt8)×Int×Int×Int×Int×Tp8×Int×Int)) (d:(List UInt8)->Int->Int->Int->Int->Int->Int->Tp8->Option (Int×(List UInt8)×Int×Int×Int×Int×Tp8×Int×Int)) (v:∀ e f g h i j k l,ChO (fun b=>c b e f g h i j k l) (d e f g h i j k l)) (m n o p q r s t u):ChO (fun b=>zbW (c b) m n o p q r s t u) (zbW d m n o p q r s t u):=by
  unfold zbW
  exact zcA (fun b=>(zfS (c b) ).mono) (zfS d ).mono (fun y z w a=>zhv c d v _ _ (fun e f g h i j k l x=>w (e,f,g,h,i,j,k,l,x))  a.1 a.2.1 a.2.2.1 a.2.2.2.1 a.2.2.2.2.1 a.2.2.2.2.2.1 a.2.2.2.2.2.2.1 a.2.2.2.2.2.2.2.1 a.2.2.2.2.2.2.2.2) _
theorem znU (b:Nat->(List UInt8)->Int->Int->Int->Int->Int->Int->Tp8->Option (Int×(List UInt8)×Int×Int×Int×Int×Tp8×Int×Int)) (c:(List UInt8)->Int->Int->Int->Int->Int->Int->Tp8->Option (Int×(List UInt8)×Int×Int×Int×Int×Tp8×Int×Int)) (d:∀ m n o p q r s t,ChO (fun a=>b a m n o p q r s t) (c m n o p q r s t)) (e f g h i j k l):ChO (fun a=>zdg (b a) e f g h i j k l) (zdg c e f g h i j k l):=by
  unfold zdg
  repeat' with_reducible first|exact ChO.const _|exact d _ _ _ _ _ _ _ _|(apply zmQ<;>assumption)|(apply zno<;>assumption)|(apply ChO.bind;intro _)|(apply ChO.bind2 (d _ _ _ _ _ _ _ _);intro _) | (refine ChO.bind2 ?_ (fun _ => ?_))
def zfR:((List UInt8)×Int×Int×Int×Int×Int×Int×Tp8->Option (Int×(List UInt8)×Int×Int×Int×Int×Tp8×Int×Int))->(List UInt8)×Int×Int×Int×Int×Int×Int×Tp8->Option (Int×(List UInt8)×Int×Int×Int×Int×Tp8×Int×Int):=
  fun rec a=>zdg (fun b c d e f g h i=>rec (b,c,d,e,f,g,h,i)) a.1 a.2.1 a.2.2.1 a.2.2.2.1 a.2.2.2.2.1 a.2.2.2.2.2.1 a.2.2.2.2.2.2.1 a.2.2.2.2.2.2.2
def zar (a:(List UInt8)) (b c d e f g:Int) (h:Tp8):Option (Int×(List UInt8)×Int×Int×Int×Int×Tp8×Int×Int):=LFix zfR (a,b,c,d,e,f,g,h)
theorem zpp:Cn zfR:=fun k l b a=>znU _ _ (fun c d e f g h i j=>b (c,d,e,f,g,h,i,j)) a.1 a.2.1 a.2.2.1 a.2.2.2.1 a.2.2.2.2.1 a.2.2.2.2.2.1 a.2.2.2.2.2.2.1 a.2.2.2.2.2.2.2
theorem zpq (a b c d e f g h):zar a b c d e f g h=zdg zar a b c d e f g h:=zav zpp (a,b,c,d,e,f,g,h)
def zq7 (c:(List UInt8)):Option (Int×(Int×Int×Unit)×Tp8):=
  if (decide ((4000:Int) < (c.length:Int)))=true then
  some ((0:Int),((1:Int),((0:Int),())),[]) else
  (zar c (0:Int) (0:Int) (0:Int) (0:Int) (0:Int) (0:Int) ([]:List Tp9)).bind (fun a=>
  if (decide (a.2.2.1 < (c.length:Int)))=true then
  (zeh (4:Int) a.2.1 a.2.2.1 a.2.2.2.1 a.2.2.2.2.1 a.2.2.2.2.2.1 a.2.2.2.2.2.2.2.1 a.2.2.2.2.2.2.2.2 a.2.2.2.2.2.2.1).bind (fun b=>
  if (decide (¬ b.2.2.2.2.2.2.1=(0:Int)))=true then
  some ((0:Int),(b.2.2.2.2.2.2.1,(b.2.2.2.2.2.2.2,())),[]) else
  some (a.1,((0:Int),((0:Int),())),b.2.2.2.2.2.1)) else
  if (decide (¬ a.2.2.2.2.2.2.2.1=(0:Int)))=true then
  some ((0:Int),(a.2.2.2.2.2.2.2.1,(a.2.2.2.2.2.2.2.2,())),[]) else
  some (a.1,((0:Int),((0:Int),())),a.2.2.2.2.2.2.1))

def zpc (a:Tp2):Option (Bool):=
  if (decide (a.1=(0:Int)))=true then
  if (decide (a.2.1=(0:Int)))=true then
  G (fits ((a.2.2.1.length:Int)+(a.2.2.2.2.1.length:Int))) (
  G (fits (((a.2.2.1.length:Int)+(a.2.2.2.2.1.length:Int))+(a.2.2.2.1.length:Int))) (
  some (decide ((((a.2.2.1.length:Int)+(a.2.2.2.2.1.length:Int))+(a.2.2.2.1.length:Int))=(0:Int))))) else
  some false else
  some false

def ztj (a b:Tp9):Option (Bool):=
  if (decide (¬ a.1=b.1))=true then
  some (decide (a.1 < b.1)) else
  if (decide (¬ a.2.1=b.2.1))=true then
  some (decide (a.2.1 < b.2.1)) else
  some (decide (a.2.2.1 < b.2.2.1))

def zef (b:Tp2) (c:Int->Option (Int)) (a:Int):Option (Int):=
  if (decide (a < (b.2.2.2.1.length:Int)))=true then
  G (fits (a - (1:Int))) (
  G (0<=a - (1:Int)/\a - (1:Int) < (b.2.2.2.1.length:Int)) (
  G (0<=a/\a < (b.2.2.2.1.length:Int)) (
  (ztj (ix b.2.2.2.1 (a - (1:Int))) (ix b.2.2.2.1 a)).bind (fun d=>
  if (!d)=true then
  some (3:Int) else
  G (fits (a+(1:Int))) (
  c (a+(1:Int))))))) else
  some (0:Int)
def zpM (a:Tp2):(Int->Option (Int))->Int->Option (Int):=
  fun rec b=>zef a (fun c=>rec c) b
def zoF (a:Tp2) (b:Int):Option (Int):=LFix (zpM a ) b
def zee (b:Tp2) (c:Int->Option (Int)) (a:Int):Option (Int):=
  if (decide (a < (b.2.2.2.2.1.length:Int)))=true then
  G (fits (a - (1:Int))) (
  G (0<=a - (1:Int)/\a - (1:Int) < (b.2.2.2.2.1.length:Int)) (
  G (0<=a/\a < (b.2.2.2.2.1.length:Int)) (
  if (decide ((ix b.2.2.2.2.1 a)<=(ix b.2.2.2.2.1 (a - (1:Int)))))=true then
  some (3:Int) else
  G (fits (a+(1:Int))) (
  c (a+(1:Int)))))) else
  zoF b (1:Int)
def zpL (a:Tp2):(Int->Option (Int))->Int->Option (Int):=
  fun rec b=>zee a (fun c=>rec c) b
def zoE (a:Tp2) (b:Int):Option (Int):=LFix (zpL a ) b
def zed (b:Tp2) (c:Int->Option (Int)) (a:Int):Option (Int):=
  if (decide (a < (b.2.2.1.length:Int)))=true then
  G (fits (a - (1:Int))) (
  G (0<=a - (1:Int)/\a - (1:Int) < (b.2.2.1.length:Int)) (
  G (0<=a/\a < (b.2.2.1.length:Int)) (
  if (decide ((ix b.2.2.1 a)<=(ix b.2.2.1 (a - (1:Int)))))=true then
  some (3:Int) else
  G (fits (a+(1:Int))) (
  c (a+(1:Int)))))) else
  zoE b (1:Int)
def zpK (a:Tp2):(Int->Option (Int))->Int->Option (Int):=
  fun rec b=>zed a (fun c=>rec c) b
def zoD (a:Tp2) (b:Int):Option (Int):=LFix (zpK a ) b
def zec (a:Tp2) (c:Int->Option (Int)) (b:Int):Option (Int):=
  if (decide (b < (a.2.2.2.1.length:Int)))=true then
  G (0<=b/\b < (a.2.2.2.1.length:Int)) (
  if (decide (((ix a.2.2.2.1 b).1) < (0:Int)))=true then
  some (2:Int) else
  if (decide (a.2.1<=((ix a.2.2.2.1 b).1)))=true then
  some (2:Int) else
  if (decide (((((ix a.2.2.2.1 b).2).2).1) < (0:Int)))=true then
  some (2:Int) else
  if (decide (a.2.1<=((((ix a.2.2.2.1 b).2).2).1)))=true then
  some (2:Int) else
  if (decide ((((ix a.2.2.2.1 b).2).1) < (0:Int)))=true then
  some (2:Int) else
  if (decide (a.1<=(((ix a.2.2.2.1 b).2).1)))=true then
  some (2:Int) else
  G (fits (b+(1:Int))) (
  c (b+(1:Int)))) else
  zoD a (1:Int)
def zpJ (a:Tp2):(Int->Option (Int))->Int->Option (Int):=
  fun rec b=>zec a (fun c=>rec c) b
def zoC (a:Tp2) (b:Int):Option (Int):=LFix (zpJ a ) b
def zeb (b:Tp2) (c:Int->Option (Int)) (a:Int):Option (Int):=
  if (decide (a < (b.2.2.2.2.1.length:Int)))=true then
  G (0<=a/\a < (b.2.2.2.2.1.length:Int)) (
  if (decide ((ix b.2.2.2.2.1 a) < (0:Int)))=true then
  some (2:Int) else
  G (0<=a/\a < (b.2.2.2.2.1.length:Int)) (
  if (decide (b.2.1<=(ix b.2.2.2.2.1 a)))=true then
  some (2:Int) else
  G (fits (a+(1:Int))) (
  c (a+(1:Int))))) else
  zoC b (0:Int)
def zpI (a:Tp2):(Int->Option (Int))->Int->Option (Int):=
  fun rec b=>zeb a (fun c=>rec c) b
def zoB (a:Tp2) (b:Int):Option (Int):=LFix (zpI a ) b
def zeH (b:Tp2) (c:Int->Option (Int)) (a:Int):Option (Int):=
  if (decide (a < (b.2.2.1.length:Int)))=true then
  G (0<=a/\a < (b.2.2.1.length:Int)) (
  if (decide ((ix b.2.2.1 a) < (0:Int)))=true then
  some (2:Int) else
  G (0<=a/\a < (b.2.2.1.length:Int)) (
  if (decide (b.2.1<=(ix b.2.2.1 a)))=true then
  some (2:Int) else
  G (fits (a+(1:Int))) (
  c (a+(1:Int))))) else
  zoB b (0:Int)
def zq2 (a:Tp2):(Int->Option (Int))->Int->Option (Int):=
  fun rec b=>zeH a (fun c=>rec c) b
def zqd (a:Tp2) (b:Int):Option (Int):=LFix (zq2 a ) b
def ztk (a:Tp2):Option (Int):=
  if (decide (a.1 < (1:Int)))=true then
  some (2:Int) else
  if (decide ((4:Int) < a.1))=true then
  some (2:Int) else
  if (decide (a.2.1 < (1:Int)))=true then
  some (1:Int) else
  if (decide ((300:Int) < a.2.1))=true then
  some (1:Int) else
  if (decide ((40000:Int) < (a.2.2.2.1.length:Int)))=true then
  some (1:Int) else
  zqd a (0:Int)
theorem zrN (b:Nat->Int->Option (Int)) (c:Int->Option (Int)) (g:∀ f,ChO (fun a=>b a f) (c f)) (d e):ChO (fun a=>zef d (b a) e) (zef d c e):=by
  unfold zef
  repeat' with_reducible first|exact ChO.const _|exact g _|apply ChO.ite|apply ChO.G|(apply ChO.bind;intro _)
theorem zuh (a):Cn (zpM a):=fun d e b c=>zrN  _ _ (fun a=>b a) a c
theorem zk1 (a b):zoF a b=zef a (zoF a) b:=zav (zuh a) b
theorem zrM (b:Nat->Int->Option (Int)) (c:Int->Option (Int)) (g:∀ f,ChO (fun a=>b a f) (c f)) (d e):ChO (fun a=>zee d (b a) e) (zee d c e):=by
  unfold zee
  repeat' with_reducible first|exact ChO.const _|exact g _|apply ChO.ite|apply ChO.G
theorem zug (a):Cn (zpL a):=fun d e b c=>zrM  _ _ (fun a=>b a) a c
theorem zk0 (a b):zoE a b=zee a (zoE a) b:=zav (zug a) b
theorem zrL (b:Nat->Int->Option (Int)) (c:Int->Option (Int)) (g:∀ f,ChO (fun a=>b a f) (c f)) (d e):ChO (fun a=>zed d (b a) e) (zed d c e):=by
  unfold zed
  repeat' with_reducible first|exact ChO.const _|exact g _|apply ChO.ite|apply ChO.G
theorem zuf (a):Cn (zpK a):=fun d e b c=>zrL  _ _ (fun a=>b a) a c
theorem zkZ (a b):zoD a b=zed a (zoD a) b:=zav (zuf a) b
theorem zrK (b:Nat->Int->Option (Int)) (c:Int->Option (Int)) (g:∀ f,ChO (fun a=>b a f) (c f)) (d e):ChO (fun a=>zec d (b a) e) (zec d c e):=by
  unfold zec
  repeat' with_reducible first|exact ChO.const _|exact g _|apply ChO.ite|apply ChO.G
theorem zue (a):Cn (zpJ a):=fun d e b c=>zrK  _ _ (fun a=>b a) a c
theorem zkY (a b):zoC a b=zec a (zoC a) b:=zav (zue a) b
theorem zrJ (b:Nat->Int->Option (Int)) (c:Int->Option (Int)) (g:∀ f,ChO (fun a=>b a f) (c f)) (d e):ChO (fun a=>zeb d (b a) e) (zeb d c e):=by
  unfold zeb
  repeat' with_reducible first|exact ChO.const _|exact g _|apply ChO.ite|apply ChO.G
theorem zud (a):Cn (zpI a):=fun d e b c=>zrJ  _ _ (fun a=>b a) a c
theorem zkX (a b):zoB a b=zeb a (zoB a) b:=zav (zud a) b
theorem zsS (b:Nat->Int->Option (Int)) (c:Int->Option (Int)) (g:∀ f,ChO (fun a=>b a f) (c f)) (d e):ChO (fun a=>zeH d (b a) e) (zeH d c e):=by
  unfold zeH
  repeat' with_reducible first|exact ChO.const _|exact g _|apply ChO.ite|apply ChO.G
theorem zuY (a):Cn (zq2 a):=fun d e b c=>zsS  _ _ (fun a=>b a) a c
theorem zmd (a b):zqd a b=zeH a (zqd a) b:=zav (zuY a) b

def zhP (c:Int) (b:Tp12) (d:Int->Option (Int)) (a:Int):Option (Int):=
  if (decide (a < (b.length:Int)))=true then
  G (0<=a/\a < (b.length:Int)) (
  if (decide ((ix b a) < (0:Int)))=true then
  some (2:Int) else
  G (0<=a/\a < (b.length:Int)) (
  if (decide (c<=(ix b a)))=true then
  some (2:Int) else
  G (fits (a+(1:Int))) (
  d (a+(1:Int))))) else
  some (0:Int)
def zua (a:Int) (b:Tp12):(Int->Option (Int))->Int->Option (Int):=
  fun rec c=>zhP a b (fun d=>rec d) c
def zqX (a:Int) (b:Tp12) (c:Int):Option (Int):=LFix (zua a b ) c
def zxo (a:Int) (b:Tp12):Option (Int):=
  if (decide (a < (1:Int)))=true then
  some (2:Int) else
  if (decide ((4:Int) < a))=true then
  some (2:Int) else
  if (decide ((60:Int) < (b.length:Int)))=true then
  some (1:Int) else
  zqX a b (0:Int)
theorem zuW (b:Nat->Int->Option (Int)) (c:Int->Option (Int)) (h:∀ g,ChO (fun a=>b a g) (c g)) (d e f):ChO (fun a=>zhP d e (b a) f) (zhP d e c f):=by
  unfold zhP
  repeat' with_reducible first|exact ChO.const _|exact h _|apply ChO.ite|apply ChO.G
theorem zxp (a b):Cn (zua a b):=fun f g c d=>zuW  _ _ (fun e=>c e) a b d
theorem zsn (a b c):zqX a b c=zhP a b (zqX a b) c:=zav (zxp a b) c

def zqW (b:Int) (a:Tp7):Option (Int):=
  (zxo b a.1).bind (fun c=>
  if (decide (¬ c=(0:Int)))=true then
  some c else
  (zxo b a.2.1).bind (fun d=>
  if (decide (¬ d=(0:Int)))=true then
  some d else
  if (decide ((a.2.1.length:Int)=(0:Int)))=true then
  some (1:Int) else
  some (0:Int)))

def zBE (a:Tp7) (b:Int):Option (Int):=
  if (decide (b < (a.1.length:Int)))=true then
  G (0<=b/\b < (a.1.length:Int)) (
  some (ix a.1 b)) else
  G (fits (b - (a.1.length:Int))) (
  G ((a.2.1.length:Int)≠0) (
  G (0<=Int.tmod (b - (a.1.length:Int)) (a.2.1.length:Int)/\Int.tmod (b - (a.1.length:Int)) (a.2.1.length:Int) < (a.2.1.length:Int)) (
  some (ix a.2.1 (Int.tmod (b - (a.1.length:Int)) (a.2.1.length:Int))))))

def zks (a:Tp7) (b:Int):Option (Int):=
  G (fits (b+(1:Int))) (
  G (fits ((a.1.length:Int)+(a.2.1.length:Int))) (
  if (decide ((b+(1:Int))=((a.1.length:Int)+(a.2.1.length:Int))))=true then
  some (a.1.length:Int) else
  G (fits (b+(1:Int))) (
  some (b+(1:Int)))))

def zbT (a:Tp8) (d:Tp10) (b:Int) (e:Tp7) (g:Int->Int->Option (Bool)) (c f:Int):Option (Bool):=
  if (decide (f < ((e.1.length:Int)+(e.2.1.length:Int))))=true then
  if (decide (((ix a b).1)=(70:Int)))=true then
  G (0<=((ix a b).2).1/\((ix a b).2).1 < (d.length:Int)) (
  G (0<=c/\c < ((ix d (((ix a b).2).1)).length:Int)) (
  if (ix (ix d (((ix a b).2).1)) c)=true then
  some true else
  (zks (e.1,(e.2.1,())) c).bind (fun h=>
  G (fits (f+(1:Int))) (
  g h (f+(1:Int)))))) else
  if (decide (((ix a b).1)=(71:Int)))=true then
  G (0<=((ix a b).2).1/\((ix a b).2).1 < (d.length:Int)) (
  G (0<=c/\c < ((ix d (((ix a b).2).1)).length:Int)) (
  if (!(ix (ix d (((ix a b).2).1)) c))=true then
  some false else
  (zks (e.1,(e.2.1,())) c).bind (fun i=>
  G (fits (f+(1:Int))) (
  g i (f+(1:Int)))))) else
  if (decide (((ix a b).1)=(85:Int)))=true then
  G (0<=(((ix a b).2).2).1/\(((ix a b).2).2).1 < (d.length:Int)) (
  G (0<=c/\c < ((ix d ((((ix a b).2).2).1)).length:Int)) (
  if (ix (ix d ((((ix a b).2).2).1)) c)=true then
  some true else
  G (0<=((ix a b).2).1/\((ix a b).2).1 < (d.length:Int)) (
  G (0<=c/\c < ((ix d (((ix a b).2).1)).length:Int)) (
  if (!(ix (ix d (((ix a b).2).1)) c))=true then
  some false else
  (zks (e.1,(e.2.1,())) c).bind (fun j=>
  G (fits (f+(1:Int))) (
  g j (f+(1:Int)))))))) else
  if (decide (((ix a b).1)=(82:Int)))=true then
  G (0<=(((ix a b).2).2).1/\(((ix a b).2).2).1 < (d.length:Int)) (
  G (0<=c/\c < ((ix d ((((ix a b).2).2).1)).length:Int)) (
  if (!(ix (ix d ((((ix a b).2).2).1)) c))=true then
  some false else
  G (0<=((ix a b).2).1/\((ix a b).2).1 < (d.length:Int)) (
  G (0<=c/\c < ((ix d (((ix a b).2).1)).length:Int)) (
  if (ix (ix d (((ix a b).2).1)) c)=true then
  some true else
  (zks (e.1,(e.2.1,())) c).bind (fun k=>
  G (fits (f+(1:Int))) (
  g k (f+(1:Int)))))))) else
  (zks (e.1,(e.2.1,())) c).bind (fun l=>
  G (fits (f+(1:Int))) (
  g l (f+(1:Int)))) else
  if (decide (((ix a b).1)=(71:Int)))=true then
  some true else
  some (decide (((ix a b).1)=(82:Int)))
def zpT (b:Tp8) (c:Tp10) (d:Int) (e:Tp7):(Int×Int->Option (Bool))->Int×Int->Option (Bool):=
  fun rec a=>zbT b c d e (fun f g=>rec (f,g)) a.1 a.2
def zgQ (a:Tp8) (b:Tp10) (c:Int) (d:Tp7) (e f:Int):Option (Bool):=LFix (zpT a b c d ) (e,f)
def zq8 (b:Tp8) (c:Tp10) (a d:Int) (e:Tp7):Option (Bool):=
  G (0<=a/\a < (b.length:Int)) (
  (zBE (e.1,(e.2.1,())) d).bind (fun f=>
  G (fits ((e.1.length:Int)+(e.2.1.length:Int))) (
  if (decide (((ix b a).1)=(49:Int)))=true then
  some true else
  if (decide (((ix b a).1)=(112:Int)))=true then
  if (decide (f=(1:Int)))=true then
  some true else
  some (decide (f=(3:Int))) else
  if (decide (((ix b a).1)=(113:Int)))=true then
  if (decide (f=(2:Int)))=true then
  some true else
  some (decide (f=(3:Int))) else
  if (decide (((ix b a).1)=(33:Int)))=true then
  G (0<=((ix b a).2).1/\((ix b a).2).1 < (c.length:Int)) (
  G (0<=d/\d < ((ix c (((ix b a).2).1)).length:Int)) (
  some (!(ix (ix c (((ix b a).2).1)) d)))) else
  if (decide (((ix b a).1)=(38:Int)))=true then
  G (0<=((ix b a).2).1/\((ix b a).2).1 < (c.length:Int)) (
  G (0<=d/\d < ((ix c (((ix b a).2).1)).length:Int)) (
  if (ix (ix c (((ix b a).2).1)) d)=true then
  G (0<=(((ix b a).2).2).1/\(((ix b a).2).2).1 < (c.length:Int)) (
  G (0<=d/\d < ((ix c ((((ix b a).2).2).1)).length:Int)) (
  some (ix (ix c ((((ix b a).2).2).1)) d))) else
  some false)) else
  if (decide (((ix b a).1)=(124:Int)))=true then
  G (0<=((ix b a).2).1/\((ix b a).2).1 < (c.length:Int)) (
  G (0<=d/\d < ((ix c (((ix b a).2).1)).length:Int)) (
  if (ix (ix c (((ix b a).2).1)) d)=true then
  some true else
  G (0<=(((ix b a).2).2).1/\(((ix b a).2).2).1 < (c.length:Int)) (
  G (0<=d/\d < ((ix c ((((ix b a).2).2).1)).length:Int)) (
  some (ix (ix c ((((ix b a).2).2).1)) d))))) else
  if (decide (((ix b a).1)=(88:Int)))=true then
  G (0<=((ix b a).2).1/\((ix b a).2).1 < (c.length:Int)) (
  (zks (e.1,(e.2.1,())) d).bind (fun g=>
  G (0<=g/\g < ((ix c (((ix b a).2).1)).length:Int)) (
  some (ix (ix c (((ix b a).2).1)) g)))) else
  if (decide (((ix b a).1)=(48:Int)))=true then
  some false else
  zgQ b c a e d (0:Int))))
theorem zrQ (b:Nat->Int->Int->Option (Bool)) (c:Int->Int->Option (Bool)) (l:∀ j k,ChO (fun a=>b a j k) (c j k)) (d e f g h i):ChO (fun a=>zbT d e f g (b a) h i) (zbT d e f g c h i):=by
  unfold zbT
  repeat' with_reducible first|exact ChO.const _|exact l _ _|apply ChO.ite|apply ChO.G|(apply ChO.bind;intro _)
theorem zut (a b c d):Cn (zpT a b c d):=fun i j f e=>zrQ  _ _ (fun g h=>f (g,h)) a b c d e.1 e.2
theorem zdz (a b c d e f):zgQ a b c d e f=zbT a b c d (zgQ a b c d) e f:=zav (zut a b c d) (e,f)

def zfQ (f:Tp8) (c:Tp7) (d:Int) (e:Tp10) (g:(Int->Tp10->Option (Bool))) (h:Int->Tp11->Option (Bool)) (a:Int) (b:Tp11):Option (Bool):=
  if (decide (a < ((c.1.length:Int)+(c.2.1.length:Int))))=true then
  (zq8 f e d a (c.1,(c.2.1,()))).bind (fun i=>
  G (0<=a/\a < (b.length:Int)) (
  G ((a).toNat < b.length) (
  G (fits (a+(1:Int))) (
  h (a+(1:Int)) (b.set (a).toNat i))))) else
  G (room e ([b]) 24) (
  G (fits (d+(1:Int))) (
  g (d+(1:Int)) (e++([b]))))
def zq6 (b:Tp8) (c:Tp7) (d:Int) (e:Tp10) (f:(Int->Tp10->Option (Bool))):(Int×Tp11->Option (Bool))->Int×Tp11->Option (Bool):=
  fun rec a=>zfQ b c d e f (fun g h=>rec (g,h)) a.1 a.2
def ze0 (a:Tp8) (b:Tp7) (c:Int) (d:Tp10) (e:(Int->Tp10->Option (Bool))) (f:Int) (g:Tp11):Option (Bool):=LFix (zq6 a b c d e ) (f,g)
def zfP (d:Tp8) (b:Int) (a:Tp7) (f:Int->Tp10->Option (Bool)) (e:Int) (c:Tp10):Option (Bool):=
  if (decide (e < (d.length:Int)))=true then
  G (mkOK ((a.1.length:Int)+(a.2.1.length:Int)) ((a.1.length:Int)+(a.2.1.length:Int)) 1) (
  ze0 d a e c f (0:Int) (List.replicate ((a.1.length:Int)+(a.2.1.length:Int)).toNat (false:Bool))) else
  G (0<=b/\b < (c.length:Int)) (
  G ((b).toNat < c.length) (
  G (0<=(0:Int)/\(0:Int) < ((ix c b).length:Int)) (
  some (ix (ix c b) (0:Int)))))
def zq5 (b:Tp8) (c:Int) (d:Tp7):(Int×Tp10->Option (Bool))->Int×Tp10->Option (Bool):=
  fun rec a=>zfP b c d (fun e f=>rec (e,f)) a.1 a.2
def zgO (a:Tp8) (b:Int) (c:Tp7) (d:Int) (e:Tp10):Option (Bool):=LFix (zq5 a b c ) (d,e)
def ztm (b:Tp8) (c:Int) (a:Tp7):Option (Bool):=
  G (fits ((a.1.length:Int)+(a.2.1.length:Int))) (
  zgO b c a (0:Int) ([]))
theorem znJ (d:Nat->Int->Tp10->Option (Bool)) (e:Int->Tp10->Option (Bool)) (n:∀ b c,ChO (fun a=>d a b c) (e b c)) (f:Nat->Int->Tp11->Option (Bool)) (g:Int->Tp11->Option (Bool)) (o:∀ b c,ChO (fun a=>f a b c) (g b c)) (h i j k l m):ChO (fun a=>zfQ h i j k (d a) (f a) l m) (zfQ h i j k e g l m):=by
  unfold zfQ
  repeat' with_reducible first|exact ChO.const _|exact n _ _|exact o _ _|apply ChO.ite|apply ChO.G|(apply ChO.bind;intro _)
theorem zme (a b c d e):Cn (zq6 b c d e a):=fun j k g f=>znJ (fun _=>a) a (fun _ _=>ChO.const _) _ _ (fun h i=>g (h,i)) b c d e f.1 f.2
theorem zpS (a b c d e f g):ze0 b c d e a f g=zfQ b c d e a (ze0 b c d e a) f g:=zav (zme a b c d e) (f,g)
theorem zu1 (f:Nat->Int->Tp10->Option (Bool)) (g:Int->Tp10->Option (Bool)) (m:∀ h i,ChO (fun e=>f e h i) (g h i)) (a b c d j k):ChO (fun e=>ze0 a b c d (f e) j k) (ze0 a b c d g j k):=by
  unfold ze0
  exact zcA (fun e=>(zme (f e) a b c d).mono) (zme g a b c d).mono (fun o p n l=>znJ f g m _ _ (fun h i=>n (h,i)) a b c d l.1 l.2) _
theorem zsU (b:Nat->Int->Tp10->Option (Bool)) (c:Int->Tp10->Option (Bool)) (k:∀ i j,ChO (fun a=>b a i j) (c i j)) (d e f g h):ChO (fun a=>zfP d e f (b a) g h) (zfP d e f c g h):=by
  unfold zfP
  repeat' with_reducible first|exact ChO.const _|exact k _ _|(apply zu1<;>assumption)|apply ChO.ite|apply ChO.G
theorem zu0 (a b c):Cn (zq5 a b c):=fun h i e d=>zsU  _ _ (fun f g=>e (f,g)) a b c d.1 d.2
theorem zpR (a b c d e):zgO a b c d e=zfP a b c (zgO a b c) d e:=zav (zu0 a b c) (d,e)

def znn (b:Tp2) (a:Int) (c:Tp11) (d:(Int->Tp11->Option Tp11)) (e:Bool):Option Tp11:=
  if e=true then
  G (0<=(((ix b.2.2.2.1 a).2).2).1/\(((ix b.2.2.2.1 a).2).2).1 < (c.length:Int)) (
  G (((((ix b.2.2.2.1 a).2).2).1).toNat < c.length) (
  G (fits (a+(1:Int))) (
  d (a+(1:Int)) (c.set ((((ix b.2.2.2.1 a).2).2).1).toNat true)))) else
  G (fits (a+(1:Int))) (
  d (a+(1:Int)) c)
def zi9 (b:Tp2) (d:Tp11) (f:Int) (e:Int->Tp11->Option Tp11) (a:Int) (c:Tp11):Option Tp11:=
  if (decide (a < (b.2.2.2.1.length:Int)))=true then
  G (0<=a/\a < (b.2.2.2.1.length:Int)) (
  if (decide ((((ix b.2.2.2.1 a).2).1)=f))=true then
  G (0<=(ix b.2.2.2.1 a).1/\(ix b.2.2.2.1 a).1 < (d.length:Int)) (
  znn b a c e (ix d ((ix b.2.2.2.1 a).1))) else
  znn b a c e false) else
  some c
def zvy (b:Tp2) (c:Tp11) (d:Int):(Int×Tp11->Option Tp11)->Int×Tp11->Option Tp11:=
  fun rec a=>zi9 b c d (fun e f=>rec (e,f)) a.1 a.2
def zq4 (a:Tp2) (b:Tp11) (c d:Int) (e:Tp11):Option Tp11:=LFix (zvy a b c ) (d,e)
def zxr (a:Tp2) (b:Tp11) (c:Int):Option Tp11:=
  G (mkOK a.2.1 a.2.1 1) (
  zq4 a b c (0:Int) (List.replicate (a.2.1).toNat (false:Bool)))
theorem zyv (b:Nat->Int->Tp11->Option Tp11) (c:Int->Tp11->Option Tp11) (j:∀ h i,ChO (fun a=>b a h i) (c h i)) (d e f g):ChO (fun a=>znn d e f (b a) g) (znn d e f c g):=by
  unfold znn
  repeat' with_reducible first|exact ChO.const _|exact j _ _|apply ChO.ite|apply ChO.G
theorem zwE (b:Nat->Int->Tp11->Option Tp11) (c:Int->Tp11->Option Tp11) (k:∀ i j,ChO (fun a=>b a i j) (c i j)) (d e f g h):ChO (fun a=>zi9 d e f (b a) g h) (zi9 d e f c g h):=by
  unfold zi9
  repeat' with_reducible first|exact ChO.const _|exact k _ _|(apply zyv<;>assumption)|apply ChO.ite|apply ChO.G
theorem zyw (a b c):Cn (zvy a b c):=fun h i e d=>zwE  _ _ (fun f g=>e (f,g)) a b c d.1 d.2
theorem zup (a b c d e):zq4 a b c d e=zi9 a b c (zq4 a b c) d e:=zav (zyw a b c) (d,e)

def zds (c:Tp2) (e:Tp12) (h:Tp11) (d:Int) (f:Tp11) (i:(Int->Tp11->Tp11->Option (Bool))) (g:Int->Tp11->Option (Bool)) (a:Int) (b:Tp11):Option (Bool):=
  if (decide (a < c.2.1))=true then
  G (0<=a/\a < (b.length:Int)) (
  G ((a).toNat < b.length) (
  if (ix b a)=true then
  G (0<=a/\a < (b.length:Int)) (
  G ((a).toNat < b.length) (
  G (fits (a+(1:Int))) (
  g (a+(1:Int)) (b.set (a).toNat true)))) else
  G (0<=a/\a < (f.length:Int)) (
  G ((a).toNat < f.length) (
  if (ix f a)=true then
  G (0<=a/\a < (h.length:Int)) (
  G (0<=a/\a < (b.length:Int)) (
  G ((a).toNat < b.length) (
  G (fits (a+(1:Int))) (
  g (a+(1:Int)) (b.set (a).toNat (ix h a)))))) else
  G (0<=a/\a < (b.length:Int)) (
  G ((a).toNat < b.length) (
  G (fits (a+(1:Int))) (
  g (a+(1:Int)) (b.set (a).toNat false)))))))) else
  G (0<=d/\d < (e.length:Int)) (
  (zxr (c.1,(c.2.1,(c.2.2.1,(c.2.2.2.1,(c.2.2.2.2.1,()))))) f (ix e d)).bind (fun j=>
  G (0<=d/\d < (e.length:Int)) (
  (zxr (c.1,(c.2.1,(c.2.2.1,(c.2.2.2.1,(c.2.2.2.2.1,()))))) b (ix e d)).bind (fun k=>
  G (fits (d+(1:Int))) (
  i (d+(1:Int)) j k)))))
def zpO (b:Tp2) (c:Tp12) (d:Tp11) (e:Int) (f:Tp11) (g:(Int->Tp11->Tp11->Option (Bool))):(Int×Tp11->Option (Bool))->Int×Tp11->Option (Bool):=
  fun rec a=>zds b c d e f g (fun h i=>rec (h,i)) a.1 a.2
def zeg (a:Tp2) (b:Tp12) (c:Tp11) (d:Int) (e:Tp11) (f:(Int->Tp11->Tp11->Option (Bool))) (g:Int) (h:Tp11):Option (Bool):=LFix (zpO a b c d e f ) (g,h)
def zgM (c:Tp11) (a:Int) (b:Tp11) (d:(Bool->Int->Tp11->Tp11->Option (Bool))) (e:Bool) (f:Tp11):Option (Bool):=
  G (0<=a/\a < (b.length:Int)) (
  G ((a).toNat < b.length) (
  if (ix b a)=true then
  G (0<=a/\a < (b.length:Int)) (
  G ((a).toNat < b.length) (
  G (fits (a+(1:Int))) (
  d e (a+(1:Int)) f (b.set (a).toNat true)))) else
  G (0<=a/\a < (c.length:Int)) (
  G ((a).toNat < c.length) (
  G (0<=a/\a < (b.length:Int)) (
  G ((a).toNat < b.length) (
  G (fits (a+(1:Int))) (
  d e (a+(1:Int)) f (b.set (a).toNat (ix c a)))))))))
def zcW (c d:Tp11) (a:Int) (b e:Tp11) (f:(Bool->Int->Tp11->Tp11->Option (Bool))) (g:Bool):Option (Bool):=
  G (0<=a/\a < (b.length:Int)) (
  G ((a).toNat < b.length) (
  if (ix b a)=true then
  G (0<=a/\a < (b.length:Int)) (
  G ((a).toNat < b.length) (
  zgM d a e f g (b.set (a).toNat true))) else
  G (0<=a/\a < (c.length:Int)) (
  G ((a).toNat < c.length) (
  G (0<=a/\a < (b.length:Int)) (
  G ((a).toNat < b.length) (
  zgM d a e f g (b.set (a).toNat (ix c a))))))))
def zcc (h:Tp2) (i:(Bool->Tp11->Tp11->Option (Bool))) (e c:Tp11) (f:Tf6) (g:Bool) (a:Int) (d b:Tp11):Option (Bool):=
  if (decide (a < h.2.1))=true then
  if g=true then
  zcW e c a d b f true else
  G (0<=a/\a < (e.length:Int)) (
  G ((a).toNat < e.length) (
  if (ix e a)=true then
  G (0<=a/\a < (d.length:Int)) (
  G ((a).toNat < d.length) (
  if (!(ix d a))=true then
  zcW e c a d b f true else
  G (0<=a/\a < (c.length:Int)) (
  G ((a).toNat < c.length) (
  if (ix c a)=true then
  G (0<=a/\a < (b.length:Int)) (
  G ((a).toNat < b.length) (
  zcW e c a d b f (!(ix b a)))) else
  zcW e c a d b f false)))) else
  G (0<=a/\a < (c.length:Int)) (
  G ((a).toNat < c.length) (
  if (ix c a)=true then
  G (0<=a/\a < (b.length:Int)) (
  G ((a).toNat < b.length) (
  zcW e c a d b f (!(ix b a)))) else
  zcW e c a d b f false)))) else
  i g d b
def zpP (b:Tp2) (c:(Bool->Tp11->Tp11->Option (Bool))) (d e:Tp11):(Bool×Int×Tp11×Tp11->Option (Bool))->Bool×Int×Tp11×Tp11->Option (Bool):=
  fun rec a=>zcc b c d e (fun f g h i=>rec (f,g,h,i)) a.1 a.2.1 a.2.2.1 a.2.2.2
def zb7 (a:Tp2) (b:(Bool->Tp11->Tp11->Option (Bool))) (c d:Tp11) (e:Bool) (f:Int) (g h:Tp11):Option (Bool):=LFix (zpP a b c d ) (e,f,g,h)
def zeZ (c:Tp2) (d:Tp12) (g:Tp11) (b:Int) (h i:Tp11) (j:(Bool->Tp11->Tp11->Option (Bool))) (k:Tf10) (e:Int) (f a:Tp11):Option (Bool):=
  if (decide (e < (d.length:Int)))=true then
  zeg c d g e f k (0:Int) a else
  G (0<=b/\b < (a.length:Int)) (
  G ((b).toNat < a.length) (
  if (ix a b)=true then
  some true else
  zb7 c j f a false (0:Int) h i))
def zpN (b:Tp2) (c:Tp12) (d:Tp11) (e:Int) (f g:Tp11) (h:(Bool->Tp11->Tp11->Option (Bool))):(Int×Tp11×Tp11->Option (Bool))->Int×Tp11×Tp11->Option (Bool):=
  fun rec a=>zeZ b c d e f g h (fun i j k=>rec (i,j,k)) a.1 a.2.1 a.2.2
def zfC (a:Tp2) (b:Tp12) (c:Tp11) (d:Int) (e f:Tp11) (g:(Bool->Tp11->Tp11->Option (Bool))) (h:Int) (i j:Tp11):Option (Bool):=LFix (zpN a b c d e f g ) (h,i,j)
def zfO (c:Tp2) (d:Tp12) (e:Tp11) (f:Int) (g:Tf9) (h:Bool) (a b:Tp11):Option (Bool):=
  if h=true then
  G (room ([]:List Bool) a 1) (
  G (room ([]:List Bool) b 1) (
  zfC c d e f a b g (0:Int) (([]:List Bool)++a) (([]:List Bool)++b))) else
  some false
def zq3 (b:Tp2) (c:Tp12) (d:Tp11) (e:Int):(Bool×Tp11×Tp11->Option (Bool))->Bool×Tp11×Tp11->Option (Bool):=
  fun rec a=>zfO b c d e (fun f g h=>rec (f,g,h)) a.1 a.2.1 a.2.2
def zgN (a:Tp2) (b:Tp12) (c:Tp11) (d:Int) (e:Bool) (f g:Tp11):Option (Bool):=LFix (zq3 a b c d ) (e,f,g)
def ztl (a:Tp2) (c:Tp12) (d:Tp11) (b:Int):Option (Bool):=
  G (mkOK a.2.1 a.2.1 1) (
  G (mkOK a.2.1 a.2.1 1) (
  G (0<=b/\b < ((List.replicate (a.2.1).toNat (false:Bool)).length:Int)) (
  G ((b).toNat < (List.replicate (a.2.1).toNat (false:Bool)).length) (
  zgN a c d b true ((List.replicate (a.2.1).toNat (false:Bool)).set (b).toNat true) (List.replicate (a.2.1).toNat (false:Bool))))))
theorem zmE (d:Nat->Tf10) (e:Tf10) (p:∀ b c o,ChO (fun a=>d a b c o) (e b c o)) (f:Nat->Int->Tp11->Option (Bool)) (g:Int->Tp11->Option (Bool)) (q:∀ b c,ChO (fun a=>f a b c) (g b c)) (h i j k l m n):ChO (fun a=>zds h i j k l (d a) (f a) m n) (zds h i j k l e g m n):=by
  unfold zds
  repeat' with_reducible first|exact ChO.const _|exact p _ _ _|exact q _ _|apply ChO.ite|apply ChO.G|(apply ChO.bind;intro _)
theorem zk3 (a b c d e f):Cn (zpO b c d e f a):=fun k l h g=>zmE (fun _=>a) a (fun _ _ _=>ChO.const _) _ _ (fun i j=>h (i,j)) b c d e f g.1 g.2
theorem ziw (a b c d e f g h):zeg b c d e f a g h=zds b c d e f a (zeg b c d e f a) g h:=zav (zk3 a b c d e f) (g,h)
theorem zum (g:Nat->Tf10) (h:Tf10) (o:∀ i j n,ChO (fun f=>g f i j n) (h i j n)) (a b c d e k l):ChO (fun f=>zeg a b c d e (g f) k l) (zeg a b c d e h k l):=by
  unfold zeg
  exact zcA (fun f=>(zk3 (g f) a b c d e).mono) (zk3 h a b c d e).mono (fun q r p m=>zmE g h o _ _ (fun i j=>p (i,j)) a b c d e m.1 m.2) _
theorem zuk (b:Nat->Tf6) (c:Tf6) (m:∀ i j k l,ChO (fun a=>b a i j k l) (c i j k l)) (d e f g h):ChO (fun a=>zgM d e f (b a) g h) (zgM d e f c g h):=by
  unfold zgM
  repeat' with_reducible first|exact ChO.const _|exact m _ _ _ _|apply ChO.ite|apply ChO.G
theorem zuj (b:Nat->Tf6) (c:Tf6) (n:∀ j k l m,ChO (fun a=>b a j k l m) (c j k l m)) (d e f g h i):ChO (fun a=>zcW d e f g h (b a) i) (zcW d e f g h c i):=by
  unfold zcW
  repeat' with_reducible first|exact ChO.const _|exact n _ _ _ _|(apply zuk<;>assumption)|apply ChO.ite|apply ChO.G
theorem zmF (e:Nat->Tf9) (f:Tf9) (q:∀ b c d,ChO (fun a=>e a b c d) (f b c d)) (g:Nat->Tf6) (h:Tf6) (r:∀ b c d p,ChO (fun a=>g a b c d p) (h b c d p)) (i j k l m n o):ChO (fun a=>zcc i (e a) j k (g a) l m n o) (zcc i f j k h l m n o):=by
  unfold zcc
  repeat' with_reducible first|exact ChO.const _|exact q _ _ _|exact r _ _ _ _|(apply zuj<;>assumption)|apply ChO.ite|apply ChO.G
theorem zk4 (b c d e):Cn (zpP c b d e):=fun k l f a=>zmF (fun _=>b) b (fun _ _ _=>ChO.const _) _ _ (fun g h i j=>f (g,h,i,j)) c d e a.1 a.2.1 a.2.2.1 a.2.2.2
theorem zeo (a b c d e f g h):zb7 b a c d e f g h=zcc b a c d (zb7 b a c d) e f g h:=zav (zk4 a b c d) (e,f,g,h)
theorem zun (e:Nat->Tf9) (f:Tf9) (o:∀ h i j,ChO (fun d=>e d h i j) (f h i j)) (a b c k l m n):ChO (fun d=>zb7 a (e d) b c k l m n) (zb7 a f b c k l m n):=by
  unfold zb7
  exact zcA (fun d=>(zk4 (e d) a b c).mono) (zk4 f a b c).mono (fun r s p g=>zmF e f o _ _ (fun h i j q=>p (h,i,j,q)) a b c g.1 g.2.1 g.2.2.1 g.2.2.2) _
theorem zmD (e:Nat->Tf9) (f:Tf9) (r:∀ b c d,ChO (fun a=>e a b c d) (f b c d)) (g:Nat->Tf10) (h:Tf10) (s:∀ b c d,ChO (fun a=>g a b c d) (h b c d)) (i j k l m n o p q):ChO (fun a=>zeZ i j k l m n (e a) (g a) o p q) (zeZ i j k l m n f h o p q):=by
  unfold zeZ
  repeat' with_reducible first|exact ChO.const _|exact r _ _ _|exact s _ _ _|(apply zum<;>assumption)|(apply zun<;>assumption)|apply ChO.ite|apply ChO.G
theorem zk2 (a c d e f g h):Cn (zpN c d e f g h a):=fun m n i b=>zmD (fun _=>a) a (fun _ _ _=>ChO.const _) _ _ (fun j k l=>i (j,k,l)) c d e f g h b.1 b.2.1 b.2.2
theorem zoG (a b c d e f g h i j):zfC b c d e f g a h i j=zeZ b c d e f g a (zfC b c d e f g a) h i j:=zav (zk2 a b c d e f g) (h,i,j)
theorem zul (h:Nat->Tf9) (i:Tf9) (q:∀ j k l,ChO (fun g=>h g j k l) (i j k l)) (a b c d e f n o p):ChO (fun g=>zfC a b c d e f (h g) n o p) (zfC a b c d e f i n o p):=by
  unfold zfC
  exact zcA (fun g=>(zk2 (h g) a b c d e f).mono) (zk2 i a b c d e f).mono (fun s t r m=>zmD h i q _ _ (fun j k l=>r (j,k,l)) a b c d e f m.1 m.2.1 m.2.2) _
theorem zsT (b:Nat->Tf9) (c:Tf9) (n:∀ k l m,ChO (fun a=>b a k l m) (c k l m)) (d e f g h i j):ChO (fun a=>zfO d e f g (b a) h i j) (zfO d e f g c h i j):=by
  unfold zfO
  repeat' with_reducible first|exact ChO.const _|exact n _ _ _|(apply zul<;>assumption)|apply ChO.ite|apply ChO.G
theorem zuZ (b c d e):Cn (zq3 b c d e):=fun j k f a=>zsT  _ _ (fun g h i=>f (g,h,i)) b c d e a.1 a.2.1 a.2.2
theorem zpQ (a b c d e f g):zgN a b c d e f g=zfO a b c d (zgN a b c d) e f g:=zav (zuZ a b c d) (e,f,g)

def zdr (c:Tp11) (a:Int) (b:Tp11) (d:(Bool->Int->Tp11->Option (Bool))) (e:Bool):Option (Bool):=
  G (0<=a/\a < (b.length:Int)) (
  G ((a).toNat < b.length) (
  if (ix b a)=true then
  G (0<=a/\a < (b.length:Int)) (
  G ((a).toNat < b.length) (
  G (fits (a+(1:Int))) (
  d e (a+(1:Int)) (b.set (a).toNat true)))) else
  G (0<=a/\a < (c.length:Int)) (
  G ((a).toNat < c.length) (
  G (0<=a/\a < (b.length:Int)) (
  G ((a).toNat < b.length) (
  G (fits (a+(1:Int))) (
  d e (a+(1:Int)) (b.set (a).toNat (ix c a)))))))))
def zck (f:Tp2) (g:(Bool->Tp11->Option (Bool))) (c:Tp11) (d:Tf11) (e:Bool) (a:Int) (b:Tp11):Option (Bool):=
  if (decide (a < f.2.1))=true then
  if e=true then
  zdr c a b d true else
  G (0<=a/\a < (c.length:Int)) (
  G ((a).toNat < c.length) (
  if (ix c a)=true then
  G (0<=a/\a < (b.length:Int)) (
  G ((a).toNat < b.length) (
  zdr c a b d (!(ix b a)))) else
  zdr c a b d false)) else
  g e b
def znE (b:Tp2) (c:(Bool->Tp11->Option (Bool))) (d:Tp11):(Bool×Int×Tp11->Option (Bool))->Bool×Int×Tp11->Option (Bool):=
  fun rec a=>zck b c d (fun e f g=>rec (e,f,g)) a.1 a.2.1 a.2.2
def zcb (a:Tp2) (b:(Bool->Tp11->Option (Bool))) (c:Tp11) (d:Bool) (e:Int) (f:Tp11):Option (Bool):=LFix (znE a b c ) (d,e,f)
def zdP (a:Tp2) (c:Tp7) (f:(Bool->Tp11->Option (Bool))) (g:Tf10) (b:Int) (d e:Tp11):Option (Bool):=
  if (decide (b < (c.2.1.length:Int)))=true then
  G (0<=b/\b < (c.2.1.length:Int)) (
  (zxr (a.1,(a.2.1,(a.2.2.1,(a.2.2.2.1,(a.2.2.2.2.1,()))))) e (ix c.2.1 b)).bind (fun h=>
  G (fits (b+(1:Int))) (
  g (b+(1:Int)) d h))) else
  zcb a f e false (0:Int) d
def znD (b:Tp2) (c:Tp7) (d:(Bool->Tp11->Option (Bool))):(Int×Tp11×Tp11->Option (Bool))->Int×Tp11×Tp11->Option (Bool):=
  fun rec a=>zdP b c d (fun e f g=>rec (e,f,g)) a.1 a.2.1 a.2.2
def zeY (a:Tp2) (b:Tp7) (c:(Bool->Tp11->Option (Bool))) (d:Int) (e f:Tp11):Option (Bool):=LFix (znD a b c ) (d,e,f)
def zdR (b:Tp2) (e:Tp7) (c f:Tp11) (d:Int->Option (Bool)) (a:Int):Option (Bool):=
  if (decide (a < b.2.1))=true then
  G (0<=a/\a < (c.length:Int)) (
  G ((a).toNat < c.length) (
  if (!(ix c a))=true then
  G (fits (a+(1:Int))) (
  d (a+(1:Int))) else
  (ztl (b.1,(b.2.1,(b.2.2.1,(b.2.2.2.1,(b.2.2.2.2.1,()))))) e.2.1 f a).bind (fun g=>
  if g=true then
  some true else
  G (fits (a+(1:Int))) (
  d (a+(1:Int)))))) else
  some false
def znG (a:Tp2) (b:Tp7) (c d:Tp11):(Int->Option (Bool))->Int->Option (Bool):=
  fun rec e=>zdR a b c d (fun f=>rec f) e
def zhu (a:Tp2) (b:Tp7) (c d:Tp11) (e:Int):Option (Bool):=LFix (znG a b c d ) e
def zdQ (b:Tp2) (d:Tp7) (e:Tp11) (f:Int->Tp11->Option (Bool)) (a:Int) (c:Tp11):Option (Bool):=
  if (decide (a < (b.2.2.2.2.1.length:Int)))=true then
  G (0<=a/\a < (b.2.2.2.2.1.length:Int)) (
  G (0<=ix b.2.2.2.2.1 a/\ix b.2.2.2.2.1 a < (c.length:Int)) (
  G ((ix b.2.2.2.2.1 a).toNat < c.length) (
  G (fits (a+(1:Int))) (
  f (a+(1:Int)) (c.set (ix b.2.2.2.2.1 a).toNat true))))) else
  zhu b d e c (0:Int)
def znF (b:Tp2) (c:Tp7) (d:Tp11):(Int×Tp11->Option (Bool))->Int×Tp11->Option (Bool):=
  fun rec a=>zdQ b c d (fun e f=>rec (e,f)) a.1 a.2
def zjp (a:Tp2) (b:Tp7) (c:Tp11) (d:Int) (e:Tp11):Option (Bool):=LFix (znF a b c ) (d,e)
def zdO (a:Tp2) (b:Tp7) (d:Bool->Tp11->Option (Bool)) (e:Bool) (c:Tp11):Option (Bool):=
  if e=true then
  if (decide ((0:Int) < (b.2.1.length:Int)))=true then
  G (0<=(0:Int)/\(0:Int) < (b.2.1.length:Int)) (
  (zxr (a.1,(a.2.1,(a.2.2.1,(a.2.2.2.1,(a.2.2.2.2.1,()))))) c (ix b.2.1 (0:Int))).bind (fun f=>
  G (fits ((0:Int)+(1:Int))) (
  zeY a b d ((0:Int)+(1:Int)) c f))) else
  none else
  G (mkOK a.2.1 a.2.1 1) (
  zjp a b c (0:Int) (List.replicate (a.2.1).toNat (false:Bool)))
def znC (b:Tp2) (c:Tp7):(Bool×Tp11->Option (Bool))->Bool×Tp11->Option (Bool):=
  fun rec a=>zdO b c (fun d e=>rec (d,e)) a.1 a.2
def zea (a:Tp2) (b:Tp7) (c:Bool) (d:Tp11):Option (Bool):=LFix (znC a b ) (c,d)
def zen (a:Tp2) (c:Tp7) (e:Int->Tp11->Option (Bool)) (b:Int) (d:Tp11):Option (Bool):=
  if (decide (b < (c.1.length:Int)))=true then
  G (0<=b/\b < (c.1.length:Int)) (
  (zxr (a.1,(a.2.1,(a.2.2.1,(a.2.2.2.1,(a.2.2.2.2.1,()))))) d (ix c.1 b)).bind (fun f=>
  G (fits (b+(1:Int))) (
  e (b+(1:Int)) f))) else
  zea a c true d
def zoA (b:Tp2) (c:Tp7):(Int×Tp11->Option (Bool))->Int×Tp11->Option (Bool):=
  fun rec a=>zen b c (fun d e=>rec (d,e)) a.1 a.2
def zkr (a:Tp2) (b:Tp7) (c:Int) (d:Tp11):Option (Bool):=LFix (zoA a b ) (c,d)
def zem (b:Tp2) (d:Tp7) (e:Int->Tp11->Option (Bool)) (a:Int) (c:Tp11):Option (Bool):=
  if (decide (a < (b.2.2.1.length:Int)))=true then
  G (0<=a/\a < (b.2.2.1.length:Int)) (
  G (0<=ix b.2.2.1 a/\ix b.2.2.1 a < (c.length:Int)) (
  G ((ix b.2.2.1 a).toNat < c.length) (
  G (fits (a+(1:Int))) (
  e (a+(1:Int)) (c.set (ix b.2.2.1 a).toNat true))))) else
  zkr b d (0:Int) c
def zoz (b:Tp2) (c:Tp7):(Int×Tp11->Option (Bool))->Int×Tp11->Option (Bool):=
  fun rec a=>zem b c (fun d e=>rec (d,e)) a.1 a.2
def zkq (a:Tp2) (b:Tp7) (c:Int) (d:Tp11):Option (Bool):=LFix (zoz a b ) (c,d)
def zmy (a:Tp2) (b:Tp7):Option (Bool):=
  G (mkOK a.2.1 a.2.1 1) (
  zkq a b (0:Int) (List.replicate (a.2.1).toNat (false:Bool)))
theorem zrD (b:Nat->Tf11) (c:Tf11) (k:∀ h i j,ChO (fun a=>b a h i j) (c h i j)) (d e f g):ChO (fun a=>zdr d e f (b a) g) (zdr d e f c g):=by
  unfold zdr
  repeat' with_reducible first|exact ChO.const _|exact k _ _ _|apply ChO.ite|apply ChO.G
theorem zkW (d:Nat->Bool->Tp11->Option (Bool)) (e:Bool->Tp11->Option (Bool)) (n:∀ b c,ChO (fun a=>d a b c) (e b c)) (f:Nat->Tf11) (g:Tf11) (o:∀ b c m,ChO (fun a=>f a b c m) (g b c m)) (h i j k l):ChO (fun a=>zck h (d a) i (f a) j k l) (zck h e i g j k l):=by
  unfold zck
  repeat' with_reducible first|exact ChO.const _|exact n _ _|exact o _ _ _|(apply zrD<;>assumption)|apply ChO.ite|apply ChO.G
theorem zi8 (a c d):Cn (znE c a d):=fun i j e b=>zkW (fun _=>a) a (fun _ _=>ChO.const _) _ _ (fun f g h=>e (f,g,h)) c d b.1 b.2.1 b.2.2
theorem zgY (a b c d e f):zcb b a c d e f=zck b a c (zcb b a c) d e f:=zav (zi8 a b c) (d,e,f)
theorem zrG (d:Nat->Bool->Tp11->Option (Bool)) (e:Bool->Tp11->Option (Bool)) (l:∀ f g,ChO (fun c=>d c f g) (e f g)) (a b i j k):ChO (fun c=>zcb a (d c) b i j k) (zcb a e b i j k):=by
  unfold zcb
  exact zcA (fun c=>(zi8 (d c) a b).mono) (zi8 e a b).mono (fun o p m h=>zkW d e l _ _ (fun f g n=>m (f,g,n)) a b h.1 h.2.1 h.2.2) _
theorem zkV (d:Nat->Bool->Tp11->Option (Bool)) (e:Bool->Tp11->Option (Bool)) (n:∀ b c,ChO (fun a=>d a b c) (e b c)) (f:Nat->Tf10) (g:Tf10) (o:∀ b c m,ChO (fun a=>f a b c m) (g b c m)) (h i j k l):ChO (fun a=>zdP h i (d a) (f a) j k l) (zdP h i e g j k l):=by
  unfold zdP
  repeat' with_reducible first|exact ChO.const _|exact n _ _|exact o _ _ _|(apply zrG<;>assumption)|apply ChO.ite|apply ChO.G|(apply ChO.bind;intro _)
theorem zi7 (a c d):Cn (znD c d a):=fun i j e b=>zkV (fun _=>a) a (fun _ _=>ChO.const _) _ _ (fun f g h=>e (f,g,h)) c d b.1 b.2.1 b.2.2
theorem zmA (a b c d e f):zeY b c a d e f=zdP b c a (zeY b c a) d e f:=zav (zi7 a b c) (d,e,f)
theorem zrF (d:Nat->Bool->Tp11->Option (Bool)) (e:Bool->Tp11->Option (Bool)) (l:∀ f g,ChO (fun c=>d c f g) (e f g)) (a b i j k):ChO (fun c=>zeY a b (d c) i j k) (zeY a b e i j k):=by
  unfold zeY
  exact zcA (fun c=>(zi7 (d c) a b).mono) (zi7 e a b).mono (fun o p m h=>zkV d e l _ _ (fun f g n=>m (f,g,n)) a b h.1 h.2.1 h.2.2) _
theorem zqc (b:Nat->Int->Option (Bool)) (c:Int->Option (Bool)) (j:∀ i,ChO (fun a=>b a i) (c i)) (d e f g h):ChO (fun a=>zdR d e f g (b a) h) (zdR d e f g c h):=by
  unfold zdR
  repeat' with_reducible first|exact ChO.const _|exact j _|apply ChO.ite|apply ChO.G|(apply ChO.bind;intro _)
theorem zrI (a b c d):Cn (znG a b c d):=fun g h e f=>zqc  _ _ (fun a=>e a) a b c d f
theorem zmC (a b c d e):zhu a b c d e=zdR a b c d (zhu a b c d) e:=zav (zrI a b c d) e
theorem zqb (b:Nat->Int->Tp11->Option (Bool)) (c:Int->Tp11->Option (Bool)) (k:∀ i j,ChO (fun a=>b a i j) (c i j)) (d e f g h):ChO (fun a=>zdQ d e f (b a) g h) (zdQ d e f c g h):=by
  unfold zdQ
  repeat' with_reducible first|exact ChO.const _|exact k _ _|apply ChO.ite|apply ChO.G
theorem zrH (a b c):Cn (znF a b c):=fun h i e d=>zqb  _ _ (fun f g=>e (f,g)) a b c d.1 d.2
theorem zmB (a b c d e):zjp a b c d e=zdQ a b c (zjp a b c) d e:=zav (zrH a b c) (d,e)
theorem zqa (b:Nat->Bool->Tp11->Option (Bool)) (c:Bool->Tp11->Option (Bool)) (j:∀ h i,ChO (fun a=>b a h i) (c h i)) (d e f g):ChO (fun a=>zdO d e (b a) f g) (zdO d e c f g):=by
  unfold zdO
  repeat' with_reducible first|exact ChO.const _|exact j _ _|(apply zrF<;>assumption)|apply ChO.ite|apply ChO.G|(apply ChO.bind;intro _)
theorem zrE (a b):Cn (znC a b):=fun g h d c=>zqa  _ _ (fun e f=>d (e,f)) a b c.1 c.2
theorem zmz (a b c d):zea a b c d=zdO a b (zea a b) c d:=zav (zrE a b) (c,d)
theorem zqZ (b:Nat->Int->Tp11->Option (Bool)) (c:Int->Tp11->Option (Bool)) (j:∀ h i,ChO (fun a=>b a h i) (c h i)) (d e f g):ChO (fun a=>zen d e (b a) f g) (zen d e c f g):=by
  unfold zen
  repeat' with_reducible first|exact ChO.const _|exact j _ _|apply ChO.ite|apply ChO.G|(apply ChO.bind;intro _)
theorem zsR (a b):Cn (zoA a b):=fun g h d c=>zqZ  _ _ (fun e f=>d (e,f)) a b c.1 c.2
theorem znI (a b c d):zkr a b c d=zen a b (zkr a b) c d:=zav (zsR a b) (c,d)
theorem zqY (b:Nat->Int->Tp11->Option (Bool)) (c:Int->Tp11->Option (Bool)) (j:∀ h i,ChO (fun a=>b a h i) (c h i)) (d e f g):ChO (fun a=>zem d e (b a) f g) (zem d e c f g):=by
  unfold zem
  repeat' with_reducible first|exact ChO.const _|exact j _ _|apply ChO.ite|apply ChO.G
theorem zsQ (a b):Cn (zoz a b):=fun g h d c=>zqY  _ _ (fun e f=>d (e,f)) a b c.1 c.2
theorem znH (a b c d):zkq a b c d=zem a b (zkq a b) c d:=zav (zsQ a b) (c,d)

def zoq (d:(List UInt8)) (b:Tp7):Option (Bool):=
  (zuA d).bind (fun a=>
  (zq7 d).bind (fun c=>
  if (decide (¬ c.2.1.1=(0:Int)))=true then
  (zpc (a.1.1,(a.1.2.1,(a.1.2.2.1,(a.1.2.2.2.1,(a.1.2.2.2.2.1,())))))).bind (fun e=>
  if (decide (a.2=(4:Int)))=true then
  some e else
  some false) else
  (ztk (a.1.1,(a.1.2.1,(a.1.2.2.1,(a.1.2.2.2.1,(a.1.2.2.2.2.1,())))))).bind (fun f=>
  if (decide (¬ a.2=(0:Int)))=true then
  some false else
  if (decide (¬ f=(0:Int)))=true then
  some false else
  if (decide (¬ a.1.1=(4:Int)))=true then
  some false else
  (zqW (4:Int) (b.1,(b.2.1,()))).bind (fun g=>
  if (decide (¬ g=(0:Int)))=true then
  some true else
  (ztm c.2.2 c.1 (b.1,(b.2.1,()))).bind (fun h=>
  (zmy (a.1.1,(a.1.2.1,(a.1.2.2.1,(a.1.2.2.2.1,(a.1.2.2.2.2.1,()))))) (b.1,(b.2.1,()))).bind (fun i=>
  some (decide (i=h))))))))

end
end Go.Proofs.Ytajabcfngklacaa.timeAutoW
