/- What the functions that 'TimeHolds' reaches compute: plain functions. -/
import Derived.Test.YteneganiigbikaaEv29n21
set_option maxHeartbeats 1000000
set_option maxRecDepth 20000
set_option linter.unusedSimpArgs false
set_option linter.unusedVariables false
set_option linter.unusedSectionVars false
namespace Go.Proofs.Yteneganiigbikaa.timeHoldsW
open Go Go.Ab
noncomputable section
abbrev Tp6:=(List Int)
abbrev Tp5:=(List Bool)
abbrev Tp4:=(List Tp5)
abbrev Tp3:=(Int×Int×Int×Unit)
abbrev Tp2:=(List Tp3)
abbrev Tp1:=(Tp6×Tp6×Unit)
def zbg (r:((List UInt8)×Int×Int×Int×Int×Tp2×Unit)):Option (Int):=
  if (decide (r.2.1=(r.1.length:Int)))=true then
  some (0:Int) else
  G (0<=r.2.1/\r.2.1 < (r.1.length:Int)) (
  some (bAt r.1 r.2.1))

def zga (b:Int):Option (Bool):=
  if (decide (b=(88:Int)))=true then
  some true else
  if (decide (b=(70:Int)))=true then
  some true else
  if (decide (b=(71:Int)))=true then
  some true else
  if (decide (b=(85:Int)))=true then
  some true else
  some (decide (b=(82:Int)))

def zbE (r:((List UInt8)×Int×Int×Int×Int×Tp2×Unit)) (code:Int):Option ((Unit)⊕(Int×Int)):=
  some (.inr ((((code,(r.2.1,())),())).1.1,(((code,(r.2.1,())),())).1.2.1))

def zbO (r:(List UInt8)) (r_1:Int) (r_2:Int) (r_3:Int) (r_4:Int) (l_1:Tp2) (t:Bool):Option (((List UInt8)×Int×Int×Int×Int×Tp2)⊕(Int×Int)):=
  if t=true then
  pbind (zbE (r,(r_1,(r_2,(r_3,(r_4,(l_1,())))))) (7:Int)) (fun _=>
  G (fits (r_1+(1:Int))) (
  some (.inl (r,r_1+(1:Int),r_2,r_3,r_4,l_1)))) (fun p=>some (.inr (p.1,p.2))) else
  G (fits (r_1+(1:Int))) (
  some (.inl (r,r_1+(1:Int),r_2,r_3,r_4,l_1)))
def zcs (y'_1:Bool) (r:(List UInt8)) (r_1:Int) (r_2:Int) (r_3:Int) (r_4:Int) (l_1:Tp2):Option (((List UInt8)×Int×Int×Int×Int×Tp2)⊕(Int×Int)):=
  if (decide ((30:Int) < r_2))=true then
  zbO r r_1 r_2 r_3 r_4 l_1 true else
  if y'_1=true then
  zbO r r_1 r_2 r_3 r_4 l_1 (decide ((5:Int) < r_3)) else
  zbO r r_1 r_2 r_3 r_4 l_1 false
def zar (c:(List UInt8)) (c_1:Int) (c_2:Int) (c_3:Int) (c_4:Int) (l:Tp2):Option (((List UInt8)×Int×Int×Int×Int×Tp2)⊕(Int×Int)):=
  G (fits (c_2+(1:Int))) (
  (zbg (c,(c_1,(c_2+(1:Int),(c_3,(c_4,(l,()))))))).bind (fun y'=>
  (zga y').bind (fun y'_1=>
  if y'_1=true then
  G (fits (c_3+(1:Int))) (
  zcs y'_1 c c_1 (c_2+(1:Int)) (c_3+(1:Int)) c_4 l) else
  zcs y'_1 c c_1 (c_2+(1:Int)) c_3 c_4 l)))

def zaE (n:Tp3) (c:(List UInt8)) (c_1:Int) (c_2:Int) (c_3:Int) (c_4:Int) (l:Tp2):Option (Int×(List UInt8)×Int×Int×Int×Int×Tp2):=
  G (room l ([(n.1,(n.2.1,(n.2.2.1,())))]) 24) (
  G (fits (((l++([(n.1,(n.2.1,(n.2.2.1,())))])).length:Int) - (1:Int))) (
  some (((l++([(n.1,(n.2.1,(n.2.2.1,())))])).length:Int) - (1:Int),c,c_1,c_2,c_3,c_4,l++([(n.1,(n.2.1,(n.2.2.1,())))]))))

def zbd (a:Int) (c:(List UInt8)) (c_1:Int) (c_2:Int) (c_3:Int) (c_4:Int) (l:Tp2):Option (Int×(List UInt8)×Int×Int×Int×Int×Tp2):=
  (zaE ((3:Int),(a,((0:Int),()))) c c_1 c_2 c_3 c_4 l).bind (fun y'_8=>
  some (y'_8.1,y'_8.2.1,y'_8.2.2.1,y'_8.2.2.2.1,y'_8.2.2.2.2.1,y'_8.2.2.2.2.2.1,y'_8.2.2.2.2.2.2))

def zbv (c:(List UInt8)) (c_1:Int) (c_2:Int) (c_3:Int) (c_4:Int) (l:Tp2):Option (Int×(List UInt8)×Int×Int×Int×Int×Tp2):=
  (zaE ((0:Int),((0:Int),((0:Int),()))) c c_1 c_2 c_3 c_4 l).bind (fun y'_17=>
  (zbd y'_17.1 y'_17.2.1 y'_17.2.2.1 y'_17.2.2.2.1 y'_17.2.2.2.2.1 y'_17.2.2.2.2.2.1 y'_17.2.2.2.2.2.2).bind (fun y'_16=>
  some (y'_16.1,y'_16.2.1,y'_16.2.2.1,y'_16.2.2.2.1,y'_16.2.2.2.2.1,y'_16.2.2.2.2.2.1,y'_16.2.2.2.2.2.2)))

def zc9 (y'_134:Int) (y'_135:(List UInt8)) (y'_136:Int) (y'_137:Int) (y'_138:Int) (y'_139:Int) (y'_140:Tp2):Option ((Int×(List UInt8)×Int×Int×Int×Int×Tp2)⊕(Int×Int)):=
  G (fits (y'_136+(1:Int))) (
  G (fits (y'_139 - (1:Int))) (
  some (.inl (y'_134,y'_135,y'_136+(1:Int),y'_137,y'_138,y'_139 - (1:Int),y'_140))))
def zbq (zaa:(List UInt8)->Int->Int->Int->Int->Tp2->Option ((Int×(List UInt8)×Int×Int×Int×Int×Tp2)⊕(Int×Int))) (c:(List UInt8)) (c_1:Int) (c_2:Int) (c_3:Int) (c_4:Int) (l:Tp2):Option ((Int×(List UInt8)×Int×Int×Int×Int×Tp2)⊕(Int×Int)):=
  G (fits (c_4+(1:Int))) (
  G (fits (c_1+(1:Int))) (
  pbind (zaa c (c_1+(1:Int)) c_2 c_3 (c_4+(1:Int)) l) (fun y'_141=>
  (zbg (y'_141.2.1,(y'_141.2.2.1,(y'_141.2.2.2.1,(y'_141.2.2.2.2.1,(y'_141.2.2.2.2.2.1,(y'_141.2.2.2.2.2.2,()))))))).bind (fun y'_142=>
  if (decide (¬ y'_142=(41:Int)))=true then
  pbind (zbE (y'_141.2.1,(y'_141.2.2.1,(y'_141.2.2.2.1,(y'_141.2.2.2.2.1,(y'_141.2.2.2.2.2.1,(y'_141.2.2.2.2.2.2,())))))) (4:Int)) (fun _=>
  zc9 y'_141.1 y'_141.2.1 y'_141.2.2.1 y'_141.2.2.2.1 y'_141.2.2.2.2.1 y'_141.2.2.2.2.2.1 y'_141.2.2.2.2.2.2) (fun p=>some (.inr (p.1,p.2))) else
  zc9 y'_141.1 y'_141.2.1 y'_141.2.2.1 y'_141.2.2.2.1 y'_141.2.2.2.2.1 y'_141.2.2.2.2.2.1 y'_141.2.2.2.2.2.2)) (fun p=>some (.inr (p.1,p.2)))))
def zaw (zaa:(List UInt8)->Int->Int->Int->Int->Tp2->Option ((Int×(List UInt8)×Int×Int×Int×Int×Tp2)⊕(Int×Int)))  (zbf:(List UInt8)->Int->Int->Int->Int->Tp2->Option ((Int×(List UInt8)×Int×Int×Int×Int×Tp2)⊕(Int×Int))) (c:(List UInt8)) (c_1:Int) (c_2:Int) (c_3:Int) (c_4:Int) (l:Tp2):Option ((Int×(List UInt8)×Int×Int×Int×Int×Tp2)⊕(Int×Int)):=
  (zbg (c,(c_1,(c_2,(c_3,(c_4,(l,()))))))).bind (fun y'=>
  if (decide (y'=(33:Int)))=true then
  pbind (zar c c_1 c_2 c_3 c_4 l) (fun y'_7=>
  pbind (zbf y'_7.1 y'_7.2.1 y'_7.2.2.1 y'_7.2.2.2.1 y'_7.2.2.2.2.1 y'_7.2.2.2.2.2) (fun y'_15=>
  (zbd y'_15.1 y'_15.2.1 y'_15.2.2.1 y'_15.2.2.2.1 y'_15.2.2.2.2.1 y'_15.2.2.2.2.2.1 y'_15.2.2.2.2.2.2).bind (fun y'_24=>
  some (.inl (y'_24.1,y'_24.2.1,y'_24.2.2.1,y'_24.2.2.2.1,y'_24.2.2.2.2.1,y'_24.2.2.2.2.2.1,y'_24.2.2.2.2.2.2)))) (fun p=>some (.inr (p.1,p.2)))) (fun p=>some (.inr (p.1,p.2))) else
  if (decide (y'=(88:Int)))=true then
  pbind (zar c c_1 c_2 c_3 c_4 l) (fun y'_31=>
  pbind (zbf y'_31.1 y'_31.2.1 y'_31.2.2.1 y'_31.2.2.2.1 y'_31.2.2.2.2.1 y'_31.2.2.2.2.2) (fun y'_39=>
  (zaE ((6:Int),(y'_39.1,((0:Int),()))) y'_39.2.1 y'_39.2.2.1 y'_39.2.2.2.1 y'_39.2.2.2.2.1 y'_39.2.2.2.2.2.1 y'_39.2.2.2.2.2.2).bind (fun y'_48=>
  some (.inl (y'_48.1,y'_48.2.1,y'_48.2.2.1,y'_48.2.2.2.1,y'_48.2.2.2.2.1,y'_48.2.2.2.2.2.1,y'_48.2.2.2.2.2.2)))) (fun p=>some (.inr (p.1,p.2)))) (fun p=>some (.inr (p.1,p.2))) else
  if (decide (y'=(70:Int)))=true then
  pbind (zar c c_1 c_2 c_3 c_4 l) (fun y'_55=>
  (zbv y'_55.1 y'_55.2.1 y'_55.2.2.1 y'_55.2.2.2.1 y'_55.2.2.2.2.1 y'_55.2.2.2.2.2).bind (fun y'_81=>
  pbind (zbf y'_81.2.1 y'_81.2.2.1 y'_81.2.2.2.1 y'_81.2.2.2.2.1 y'_81.2.2.2.2.2.1 y'_81.2.2.2.2.2.2) (fun y'_71=>
  (zaE ((7:Int),(y'_81.1,(y'_71.1,()))) y'_71.2.1 y'_71.2.2.1 y'_71.2.2.2.1 y'_71.2.2.2.2.1 y'_71.2.2.2.2.2.1 y'_71.2.2.2.2.2.2).bind (fun y'_80=>
  some (.inl (y'_80.1,y'_80.2.1,y'_80.2.2.1,y'_80.2.2.2.1,y'_80.2.2.2.2.1,y'_80.2.2.2.2.2.1,y'_80.2.2.2.2.2.2)))) (fun p=>some (.inr (p.1,p.2))))) (fun p=>some (.inr (p.1,p.2))) else
  if (decide (y'=(71:Int)))=true then
  pbind (zar c c_1 c_2 c_3 c_4 l) (fun y'_88=>
  (zbv y'_88.1 y'_88.2.1 y'_88.2.2.1 y'_88.2.2.2.1 y'_88.2.2.2.2.1 y'_88.2.2.2.2.2).bind (fun y'_132=>
  pbind (zbf y'_132.2.1 y'_132.2.2.1 y'_132.2.2.2.1 y'_132.2.2.2.2.1 y'_132.2.2.2.2.2.1 y'_132.2.2.2.2.2.2) (fun y'_104=>
  (zbd y'_104.1 y'_104.2.1 y'_104.2.2.1 y'_104.2.2.2.1 y'_104.2.2.2.2.1 y'_104.2.2.2.2.2.1 y'_104.2.2.2.2.2.2).bind (fun y'_131=>
  (zaE ((7:Int),(y'_132.1,(y'_131.1,()))) y'_131.2.1 y'_131.2.2.1 y'_131.2.2.2.1 y'_131.2.2.2.2.1 y'_131.2.2.2.2.2.1 y'_131.2.2.2.2.2.2).bind (fun y'_130=>
  (zbd y'_130.1 y'_130.2.1 y'_130.2.2.1 y'_130.2.2.2.1 y'_130.2.2.2.2.1 y'_130.2.2.2.2.2.1 y'_130.2.2.2.2.2.2).bind (fun y'_129=>
  some (.inl (y'_129.1,y'_129.2.1,y'_129.2.2.1,y'_129.2.2.2.1,y'_129.2.2.2.2.1,y'_129.2.2.2.2.2.1,y'_129.2.2.2.2.2.2)))))) (fun p=>some (.inr (p.1,p.2))))) (fun p=>some (.inr (p.1,p.2))) else
  if (decide (y'=(40:Int)))=true then
  if (decide (c_4=(40:Int)))=true then
  pbind (zbE (c,(c_1,(c_2,(c_3,(c_4,(l,())))))) (7:Int)) (fun _=>
  zbq zaa c c_1 c_2 c_3 c_4 l) (fun p=>some (.inr (p.1,p.2))) else
  zbq zaa c c_1 c_2 c_3 c_4 l else
  if (decide (y'=(112:Int)))=true then
  pbind (zar c c_1 c_2 c_3 c_4 l) (fun y'_150=>
  (zaE ((1:Int),((0:Int),((0:Int),()))) y'_150.1 y'_150.2.1 y'_150.2.2.1 y'_150.2.2.2.1 y'_150.2.2.2.2.1 y'_150.2.2.2.2.2).bind (fun y'_159=>
  some (.inl (y'_159.1,y'_159.2.1,y'_159.2.2.1,y'_159.2.2.2.1,y'_159.2.2.2.2.1,y'_159.2.2.2.2.2.1,y'_159.2.2.2.2.2.2)))) (fun p=>some (.inr (p.1,p.2))) else
  if (decide (y'=(113:Int)))=true then
  pbind (zar c c_1 c_2 c_3 c_4 l) (fun y'_166=>
  (zaE ((2:Int),((0:Int),((0:Int),()))) y'_166.1 y'_166.2.1 y'_166.2.2.1 y'_166.2.2.2.1 y'_166.2.2.2.2.1 y'_166.2.2.2.2.2).bind (fun y'_175=>
  some (.inl (y'_175.1,y'_175.2.1,y'_175.2.2.1,y'_175.2.2.2.1,y'_175.2.2.2.2.1,y'_175.2.2.2.2.2.1,y'_175.2.2.2.2.2.2)))) (fun p=>some (.inr (p.1,p.2))) else
  if (decide (y'=(48:Int)))=true then
  pbind (zar c c_1 c_2 c_3 c_4 l) (fun y'_182=>
  (zaE ((0:Int),((0:Int),((0:Int),()))) y'_182.1 y'_182.2.1 y'_182.2.2.1 y'_182.2.2.2.1 y'_182.2.2.2.2.1 y'_182.2.2.2.2.2).bind (fun y'_191=>
  some (.inl (y'_191.1,y'_191.2.1,y'_191.2.2.1,y'_191.2.2.2.1,y'_191.2.2.2.2.1,y'_191.2.2.2.2.2.1,y'_191.2.2.2.2.2.2)))) (fun p=>some (.inr (p.1,p.2))) else
  if (decide (y'=(49:Int)))=true then
  pbind (zar c c_1 c_2 c_3 c_4 l) (fun y'_198=>
  (zbv y'_198.1 y'_198.2.1 y'_198.2.2.1 y'_198.2.2.2.1 y'_198.2.2.2.2.1 y'_198.2.2.2.2.2).bind (fun y'_207=>
  some (.inl (y'_207.1,y'_207.2.1,y'_207.2.2.1,y'_207.2.2.2.1,y'_207.2.2.2.2.1,y'_207.2.2.2.2.2.1,y'_207.2.2.2.2.2.2)))) (fun p=>some (.inr (p.1,p.2))) else
  pbind (zbE (c,(c_1,(c_2,(c_3,(c_4,(l,())))))) (4:Int)) (fun _=>
  some (.inl ((0:Int),c,c_1,c_2,c_3,c_4,l))) (fun p=>some (.inr (p.1,p.2))))
def zcK (zaa:(List UInt8)->Int->Int->Int->Int->Tp2->Option ((Int×(List UInt8)×Int×Int×Int×Int×Tp2)⊕(Int×Int))):((List UInt8)×Int×Int×Int×Int×Tp2->Option ((Int×(List UInt8)×Int×Int×Int×Int×Tp2)⊕(Int×Int)))->(List UInt8)×Int×Int×Int×Int×Tp2->Option ((Int×(List UInt8)×Int×Int×Int×Int×Tp2)⊕(Int×Int)):=
  fun rec x=>zaw zaa (fun c c_1 c_2 c_3 c_4 l=>rec (c,c_1,c_2,c_3,c_4,l)) x.1 x.2.1 x.2.2.1 x.2.2.2.1 x.2.2.2.2.1 x.2.2.2.2.2
def zbM (zaa:(List UInt8)->Int->Int->Int->Int->Tp2->Option ((Int×(List UInt8)×Int×Int×Int×Int×Tp2)⊕(Int×Int)))  (c:(List UInt8)) (c_1:Int) (c_2:Int) (c_3:Int) (c_4:Int) (l:Tp2):Option ((Int×(List UInt8)×Int×Int×Int×Int×Tp2)⊕(Int×Int)):=LFix (zcK zaa ) (c,c_1,c_2,c_3,c_4,l)
def zbx (zaa:(List UInt8)->Int->Int->Int->Int->Tp2->Option ((Int×(List UInt8)×Int×Int×Int×Int×Tp2)⊕(Int×Int)))  (zbL:(List UInt8)->Int->Int->Int->Int->Tp2->Option ((Int×(List UInt8)×Int×Int×Int×Int×Tp2)⊕(Int×Int))) (c:(List UInt8)) (c_1:Int) (c_2:Int) (c_3:Int) (c_4:Int) (l:Tp2):Option ((Int×(List UInt8)×Int×Int×Int×Int×Tp2)⊕(Int×Int)):=
  pbind (zbM zaa c c_1 c_2 c_3 c_4 l) (fun y'_7=>
  (zbg (y'_7.2.1,(y'_7.2.2.1,(y'_7.2.2.2.1,(y'_7.2.2.2.2.1,(y'_7.2.2.2.2.2.1,(y'_7.2.2.2.2.2.2,()))))))).bind (fun y'_8=>
  if (decide (y'_8=(85:Int)))=true then
  pbind (zar y'_7.2.1 y'_7.2.2.1 y'_7.2.2.2.1 y'_7.2.2.2.2.1 y'_7.2.2.2.2.2.1 y'_7.2.2.2.2.2.2) (fun y'_15=>
  pbind (zbL y'_15.1 y'_15.2.1 y'_15.2.2.1 y'_15.2.2.2.1 y'_15.2.2.2.2.1 y'_15.2.2.2.2.2) (fun y'_23=>
  (zaE ((7:Int),(y'_7.1,(y'_23.1,()))) y'_23.2.1 y'_23.2.2.1 y'_23.2.2.2.1 y'_23.2.2.2.2.1 y'_23.2.2.2.2.2.1 y'_23.2.2.2.2.2.2).bind (fun y'_32=>
  some (.inl (y'_32.1,y'_32.2.1,y'_32.2.2.1,y'_32.2.2.2.1,y'_32.2.2.2.2.1,y'_32.2.2.2.2.2.1,y'_32.2.2.2.2.2.2)))) (fun p=>some (.inr (p.1,p.2)))) (fun p=>some (.inr (p.1,p.2))) else
  if (decide (y'_8=(82:Int)))=true then
  pbind (zar y'_7.2.1 y'_7.2.2.1 y'_7.2.2.2.1 y'_7.2.2.2.2.1 y'_7.2.2.2.2.2.1 y'_7.2.2.2.2.2.2) (fun y'_39=>
  (zbd y'_7.1 y'_39.1 y'_39.2.1 y'_39.2.2.1 y'_39.2.2.2.1 y'_39.2.2.2.2.1 y'_39.2.2.2.2.2).bind (fun y'_83=>
  pbind (zbL y'_83.2.1 y'_83.2.2.1 y'_83.2.2.2.1 y'_83.2.2.2.2.1 y'_83.2.2.2.2.2.1 y'_83.2.2.2.2.2.2) (fun y'_55=>
  (zbd y'_55.1 y'_55.2.1 y'_55.2.2.1 y'_55.2.2.2.1 y'_55.2.2.2.2.1 y'_55.2.2.2.2.2.1 y'_55.2.2.2.2.2.2).bind (fun y'_82=>
  (zaE ((7:Int),(y'_83.1,(y'_82.1,()))) y'_82.2.1 y'_82.2.2.1 y'_82.2.2.2.1 y'_82.2.2.2.2.1 y'_82.2.2.2.2.2.1 y'_82.2.2.2.2.2.2).bind (fun y'_81=>
  (zbd y'_81.1 y'_81.2.1 y'_81.2.2.1 y'_81.2.2.2.1 y'_81.2.2.2.2.1 y'_81.2.2.2.2.2.1 y'_81.2.2.2.2.2.2).bind (fun y'_80=>
  some (.inl (y'_80.1,y'_80.2.1,y'_80.2.2.1,y'_80.2.2.2.1,y'_80.2.2.2.2.1,y'_80.2.2.2.2.2.1,y'_80.2.2.2.2.2.2)))))) (fun p=>some (.inr (p.1,p.2))))) (fun p=>some (.inr (p.1,p.2))) else
  some (.inl (y'_7.1,y'_7.2.1,y'_7.2.2.1,y'_7.2.2.2.1,y'_7.2.2.2.2.1,y'_7.2.2.2.2.2.1,y'_7.2.2.2.2.2.2)))) (fun p=>some (.inr (p.1,p.2)))
def zcw (zaa:(List UInt8)->Int->Int->Int->Int->Tp2->Option ((Int×(List UInt8)×Int×Int×Int×Int×Tp2)⊕(Int×Int))):((List UInt8)×Int×Int×Int×Int×Tp2->Option ((Int×(List UInt8)×Int×Int×Int×Int×Tp2)⊕(Int×Int)))->(List UInt8)×Int×Int×Int×Int×Tp2->Option ((Int×(List UInt8)×Int×Int×Int×Int×Tp2)⊕(Int×Int)):=
  fun rec x=>zbx zaa (fun c c_1 c_2 c_3 c_4 l=>rec (c,c_1,c_2,c_3,c_4,l)) x.1 x.2.1 x.2.2.1 x.2.2.2.1 x.2.2.2.2.1 x.2.2.2.2.2
def zbk (zaa:(List UInt8)->Int->Int->Int->Int->Tp2->Option ((Int×(List UInt8)×Int×Int×Int×Int×Tp2)⊕(Int×Int)))  (c:(List UInt8)) (c_1:Int) (c_2:Int) (c_3:Int) (c_4:Int) (l:Tp2):Option ((Int×(List UInt8)×Int×Int×Int×Int×Tp2)⊕(Int×Int)):=LFix (zcw zaa ) (c,c_1,c_2,c_3,c_4,l)
def zba (zaa:(List UInt8)->Int->Int->Int->Int->Tp2->Option ((Int×(List UInt8)×Int×Int×Int×Int×Tp2)⊕(Int×Int)))  (r2:Int->(List UInt8)->Int->Int->Int->Int->Tp2->Option ((Int×(List UInt8)×Int×Int×Int×Int×Tp2)⊕(Int×Int))) (n:Int) (r:(List UInt8)) (r_1:Int) (r_2:Int) (r_3:Int) (r_4:Int) (l_1:Tp2):Option ((Int×(List UInt8)×Int×Int×Int×Int×Tp2)⊕(Int×Int)):=
  (zbg (r,(r_1,(r_2,(r_3,(r_4,(l_1,()))))))).bind (fun y'_8=>
  if (decide (y'_8=(38:Int)))=true then
  pbind (zar r r_1 r_2 r_3 r_4 l_1) (fun y'_15=>
  pbind (zbk zaa y'_15.1 y'_15.2.1 y'_15.2.2.1 y'_15.2.2.2.1 y'_15.2.2.2.2.1 y'_15.2.2.2.2.2) (fun y'_23=>
  (zaE ((4:Int),(n,(y'_23.1,()))) y'_23.2.1 y'_23.2.2.1 y'_23.2.2.2.1 y'_23.2.2.2.2.1 y'_23.2.2.2.2.2.1 y'_23.2.2.2.2.2.2).bind (fun y'_32=>
  r2 y'_32.1 y'_32.2.1 y'_32.2.2.1 y'_32.2.2.2.1 y'_32.2.2.2.2.1 y'_32.2.2.2.2.2.1 y'_32.2.2.2.2.2.2)) (fun p=>some (.inr (p.1,p.2)))) (fun p=>some (.inr (p.1,p.2))) else
  some (.inl (n,r,r_1,r_2,r_3,r_4,l_1)))
def zdX (zaa:(List UInt8)->Int->Int->Int->Int->Tp2->Option ((Int×(List UInt8)×Int×Int×Int×Int×Tp2)⊕(Int×Int))):(Int×(List UInt8)×Int×Int×Int×Int×Tp2->Option ((Int×(List UInt8)×Int×Int×Int×Int×Tp2)⊕(Int×Int)))->Int×(List UInt8)×Int×Int×Int×Int×Tp2->Option ((Int×(List UInt8)×Int×Int×Int×Int×Tp2)⊕(Int×Int)):=
  fun rec x=>zba zaa (fun n r r_1 r_2 r_3 r_4 l_1=>rec (n,r,r_1,r_2,r_3,r_4,l_1)) x.1 x.2.1 x.2.2.1 x.2.2.2.1 x.2.2.2.2.1 x.2.2.2.2.2.1 x.2.2.2.2.2.2
def za7 (zaa:(List UInt8)->Int->Int->Int->Int->Tp2->Option ((Int×(List UInt8)×Int×Int×Int×Int×Tp2)⊕(Int×Int)))  (n:Int) (r:(List UInt8)) (r_1:Int) (r_2:Int) (r_3:Int) (r_4:Int) (l_1:Tp2):Option ((Int×(List UInt8)×Int×Int×Int×Int×Tp2)⊕(Int×Int)):=LFix (zdX zaa ) (n,r,r_1,r_2,r_3,r_4,l_1)
def zbl (zaa:(List UInt8)->Int->Int->Int->Int->Tp2->Option ((Int×(List UInt8)×Int×Int×Int×Int×Tp2)⊕(Int×Int))) (c:(List UInt8)) (c_1:Int) (c_2:Int) (c_3:Int) (c_4:Int) (l:Tp2):Option ((Int×(List UInt8)×Int×Int×Int×Int×Tp2)⊕(Int×Int)):=
  pbind (zbk zaa c c_1 c_2 c_3 c_4 l) (fun y'_7=>
  za7 zaa y'_7.1 y'_7.2.1 y'_7.2.2.1 y'_7.2.2.2.1 y'_7.2.2.2.2.1 y'_7.2.2.2.2.2.1 y'_7.2.2.2.2.2.2) (fun p=>some (.inr (p.1,p.2)))
def zaV (zaa:(List UInt8)->Int->Int->Int->Int->Tp2->Option ((Int×(List UInt8)×Int×Int×Int×Int×Tp2)⊕(Int×Int)))  (r2:Int->(List UInt8)->Int->Int->Int->Int->Tp2->Option ((Int×(List UInt8)×Int×Int×Int×Int×Tp2)⊕(Int×Int))) (n:Int) (r:(List UInt8)) (r_1:Int) (r_2:Int) (r_3:Int) (r_4:Int) (l_1:Tp2):Option ((Int×(List UInt8)×Int×Int×Int×Int×Tp2)⊕(Int×Int)):=
  (zbg (r,(r_1,(r_2,(r_3,(r_4,(l_1,()))))))).bind (fun y'_8=>
  if (decide (y'_8=(124:Int)))=true then
  pbind (zar r r_1 r_2 r_3 r_4 l_1) (fun y'_15=>
  pbind (zbl zaa y'_15.1 y'_15.2.1 y'_15.2.2.1 y'_15.2.2.2.1 y'_15.2.2.2.2.1 y'_15.2.2.2.2.2) (fun y'_23=>
  (zaE ((5:Int),(n,(y'_23.1,()))) y'_23.2.1 y'_23.2.2.1 y'_23.2.2.2.1 y'_23.2.2.2.2.1 y'_23.2.2.2.2.2.1 y'_23.2.2.2.2.2.2).bind (fun y'_32=>
  r2 y'_32.1 y'_32.2.1 y'_32.2.2.1 y'_32.2.2.2.1 y'_32.2.2.2.2.1 y'_32.2.2.2.2.2.1 y'_32.2.2.2.2.2.2)) (fun p=>some (.inr (p.1,p.2)))) (fun p=>some (.inr (p.1,p.2))) else
  some (.inl (n,r,r_1,r_2,r_3,r_4,l_1)))
def zdf (zaa:(List UInt8)->Int->Int->Int->Int->Tp2->Option ((Int×(List UInt8)×Int×Int×Int×Int×Tp2)⊕(Int×Int))):(Int×(List UInt8)×Int×Int×Int×Int×Tp2->Option ((Int×(List UInt8)×Int×Int×Int×Int×Tp2)⊕(Int×Int)))->Int×(List UInt8)×Int×Int×Int×Int×Tp2->Option ((Int×(List UInt8)×Int×Int×Int×Int×Tp2)⊕(Int×Int)):=
  fun rec x=>zaV zaa (fun n r r_1 r_2 r_3 r_4 l_1=>rec (n,r,r_1,r_2,r_3,r_4,l_1)) x.1 x.2.1 x.2.2.1 x.2.2.2.1 x.2.2.2.2.1 x.2.2.2.2.2.1 x.2.2.2.2.2.2
def zaT (zaa:(List UInt8)->Int->Int->Int->Int->Tp2->Option ((Int×(List UInt8)×Int×Int×Int×Int×Tp2)⊕(Int×Int)))  (n:Int) (r:(List UInt8)) (r_1:Int) (r_2:Int) (r_3:Int) (r_4:Int) (l_1:Tp2):Option ((Int×(List UInt8)×Int×Int×Int×Int×Tp2)⊕(Int×Int)):=LFix (zdf zaa ) (n,r,r_1,r_2,r_3,r_4,l_1)
def za9 (zaa:(List UInt8)->Int->Int->Int->Int->Tp2->Option ((Int×(List UInt8)×Int×Int×Int×Int×Tp2)⊕(Int×Int))) (c:(List UInt8)) (c_1:Int) (c_2:Int) (c_3:Int) (c_4:Int) (l:Tp2):Option ((Int×(List UInt8)×Int×Int×Int×Int×Tp2)⊕(Int×Int)):=
  pbind (zbl zaa c c_1 c_2 c_3 c_4 l) (fun y'_7=>
  zaT zaa y'_7.1 y'_7.2.1 y'_7.2.2.1 y'_7.2.2.2.1 y'_7.2.2.2.2.1 y'_7.2.2.2.2.2.1 y'_7.2.2.2.2.2.2) (fun p=>some (.inr (p.1,p.2)))
theorem za0 (zaa:Nat->(List UInt8)->Int->Int->Int->Int->Tp2->Option ((Int×(List UInt8)×Int×Int×Int×Int×Tp2)⊕(Int×Int))) (zad:(List UInt8)->Int->Int->Int->Int->Tp2->Option ((Int×(List UInt8)×Int×Int×Int×Int×Tp2)⊕(Int×Int))) (zaf:∀ a0 a1 a2 a3 a4 a5,ChO (fun κ=>zaa κ a0 a1 a2 a3 a4 a5) (zad a0 a1 a2 a3 a4 a5)) (c:(List UInt8)) (c_1:Int) (c_2:Int) (c_3:Int) (c_4:Int) (l:Tp2):ChO (fun κ=>zbq (zaa κ) c c_1 c_2 c_3 c_4 l) (zbq zad c c_1 c_2 c_3 c_4 l):=by
  unfold zbq
  repeat' with_reducible first | exact ChO.const _ | exact zaf _ _ _ _ _ _ | apply ChO.ite | apply ChO.G | apply ChO.both | apply ChO.bothS | (apply ChO.bind;intro _) | (apply ChO.bind2 (zaf _ _ _ _ _ _);intro _) | (refine ChO.bind2 ?_ (fun _ => ?_)) | (refine ChO.pbind (fun _ => ?_) (fun _ => ?_)) | (refine ChO.pbind2 ?_ (fun _ => ?_) (fun _ => ?_))
theorem zd8 (zaa:Nat->(List UInt8)->Int->Int->Int->Int->Tp2->Option ((Int×(List UInt8)×Int×Int×Int×Int×Tp2)⊕(Int×Int))) (zad:(List UInt8)->Int->Int->Int->Int->Tp2->Option ((Int×(List UInt8)×Int×Int×Int×Int×Tp2)⊕(Int×Int))) (zaf:∀ a0 a1 a2 a3 a4 a5,ChO (fun κ=>zaa κ a0 a1 a2 a3 a4 a5) (zad a0 a1 a2 a3 a4 a5)) (zbf:Nat->(List UInt8)->Int->Int->Int->Int->Tp2->Option ((Int×(List UInt8)×Int×Int×Int×Int×Tp2)⊕(Int×Int))) (zeu:(List UInt8)->Int->Int->Int->Int->Tp2->Option ((Int×(List UInt8)×Int×Int×Int×Int×Tp2)⊕(Int×Int))) (zhh:∀ a0 a1 a2 a3 a4 a5,ChO (fun κ=>zbf κ a0 a1 a2 a3 a4 a5) (zeu a0 a1 a2 a3 a4 a5)) (c:(List UInt8)) (c_1:Int) (c_2:Int) (c_3:Int) (c_4:Int) (l:Tp2):ChO (fun κ=>zaw (zaa κ) (zbf κ) c c_1 c_2 c_3 c_4 l) (zaw zad zeu c c_1 c_2 c_3 c_4 l):=by
  unfold zaw
  repeat' with_reducible first | exact ChO.const _ | exact zaf _ _ _ _ _ _ | exact zhh _ _ _ _ _ _ | (apply za0<;>assumption) | apply ChO.ite | apply ChO.G | apply ChO.both | apply ChO.bothS | (apply ChO.bind;intro _) | (apply ChO.bind2 (zaf _ _ _ _ _ _);intro _) | (refine ChO.bind2 ?_ (fun _ => ?_)) | (refine ChO.pbind (fun _ => ?_) (fun _ => ?_)) | (refine ChO.pbind2 ?_ (fun _ => ?_) (fun _ => ?_))
theorem zds (zaa:(List UInt8)->Int->Int->Int->Int->Tp2->Option ((Int×(List UInt8)×Int×Int×Int×Int×Tp2)⊕(Int×Int))):Cn (zcK zaa):=fun g h hg x=>zd8 (fun _=>zaa) zaa (fun _ _ _ _ _ _=>ChO.const _) (fun κ c c_1 c_2 c_3 c_4 l=>g κ (c,c_1,c_2,c_3,c_4,l)) (fun c c_1 c_2 c_3 c_4 l=>h (c,c_1,c_2,c_3,c_4,l)) (fun c c_1 c_2 c_3 c_4 l=>hg (c,c_1,c_2,c_3,c_4,l))  x.1 x.2.1 x.2.2.1 x.2.2.2.1 x.2.2.2.2.1 x.2.2.2.2.2
theorem zaK (zaa:(List UInt8)->Int->Int->Int->Int->Tp2->Option ((Int×(List UInt8)×Int×Int×Int×Int×Tp2)⊕(Int×Int)))  (c:(List UInt8)) (c_1:Int) (c_2:Int) (c_3:Int) (c_4:Int) (l:Tp2):zbM zaa c c_1 c_2 c_3 c_4 l=zaw zaa (zbM zaa) c c_1 c_2 c_3 c_4 l:=zb5 (zds zaa) (c,c_1,c_2,c_3,c_4,l)
theorem zbX (zaa:Nat->(List UInt8)->Int->Int->Int->Int->Tp2->Option ((Int×(List UInt8)×Int×Int×Int×Int×Tp2)⊕(Int×Int))) (zad:(List UInt8)->Int->Int->Int->Int->Tp2->Option ((Int×(List UInt8)×Int×Int×Int×Int×Tp2)⊕(Int×Int))) (zaf:∀ a0 a1 a2 a3 a4 a5,ChO (fun κ=>zaa κ a0 a1 a2 a3 a4 a5) (zad a0 a1 a2 a3 a4 a5))  (c:(List UInt8)) (c_1:Int) (c_2:Int) (c_3:Int) (c_4:Int) (l:Tp2):ChO (fun κ=>zbM (zaa κ) c c_1 c_2 c_3 c_4 l) (zbM zad c c_1 c_2 c_3 c_4 l):=by
  unfold zbM
  exact zek (fun κ=>(zds (zaa κ) ).mono) (zds zad ).mono (fun g h hg x=>zd8 zaa zad zaf (fun κ c c_1 c_2 c_3 c_4 l=>g κ (c,c_1,c_2,c_3,c_4,l)) (fun c c_1 c_2 c_3 c_4 l=>h (c,c_1,c_2,c_3,c_4,l)) (fun c c_1 c_2 c_3 c_4 l=>hg (c,c_1,c_2,c_3,c_4,l))  x.1 x.2.1 x.2.2.1 x.2.2.2.1 x.2.2.2.2.1 x.2.2.2.2.2) _
theorem zdW (zaa:Nat->(List UInt8)->Int->Int->Int->Int->Tp2->Option ((Int×(List UInt8)×Int×Int×Int×Int×Tp2)⊕(Int×Int))) (zad:(List UInt8)->Int->Int->Int->Int->Tp2->Option ((Int×(List UInt8)×Int×Int×Int×Int×Tp2)⊕(Int×Int))) (zaf:∀ a0 a1 a2 a3 a4 a5,ChO (fun κ=>zaa κ a0 a1 a2 a3 a4 a5) (zad a0 a1 a2 a3 a4 a5)) (zbL:Nat->(List UInt8)->Int->Int->Int->Int->Tp2->Option ((Int×(List UInt8)×Int×Int×Int×Int×Tp2)⊕(Int×Int))) (zd5:(List UInt8)->Int->Int->Int->Int->Tp2->Option ((Int×(List UInt8)×Int×Int×Int×Int×Tp2)⊕(Int×Int))) (zgA:∀ a0 a1 a2 a3 a4 a5,ChO (fun κ=>zbL κ a0 a1 a2 a3 a4 a5) (zd5 a0 a1 a2 a3 a4 a5)) (c:(List UInt8)) (c_1:Int) (c_2:Int) (c_3:Int) (c_4:Int) (l:Tp2):ChO (fun κ=>zbx (zaa κ) (zbL κ) c c_1 c_2 c_3 c_4 l) (zbx zad zd5 c c_1 c_2 c_3 c_4 l):=by
  unfold zbx
  repeat' with_reducible first | exact ChO.const _ | exact zaf _ _ _ _ _ _ | exact zgA _ _ _ _ _ _ | (apply za0<;>assumption) | (apply zbX<;>assumption) | apply ChO.ite | apply ChO.G | apply ChO.both | apply ChO.bothS | (apply ChO.bind;intro _) | (apply ChO.bind2 (zaf _ _ _ _ _ _);intro _) | (refine ChO.bind2 ?_ (fun _ => ?_)) | (refine ChO.pbind (fun _ => ?_) (fun _ => ?_)) | (refine ChO.pbind2 ?_ (fun _ => ?_) (fun _ => ?_))
theorem zda (zaa:(List UInt8)->Int->Int->Int->Int->Tp2->Option ((Int×(List UInt8)×Int×Int×Int×Int×Tp2)⊕(Int×Int))):Cn (zcw zaa):=fun g h hg x=>zdW (fun _=>zaa) zaa (fun _ _ _ _ _ _=>ChO.const _) (fun κ c c_1 c_2 c_3 c_4 l=>g κ (c,c_1,c_2,c_3,c_4,l)) (fun c c_1 c_2 c_3 c_4 l=>h (c,c_1,c_2,c_3,c_4,l)) (fun c c_1 c_2 c_3 c_4 l=>hg (c,c_1,c_2,c_3,c_4,l))  x.1 x.2.1 x.2.2.1 x.2.2.2.1 x.2.2.2.2.1 x.2.2.2.2.2
theorem zhN (zaa:(List UInt8)->Int->Int->Int->Int->Tp2->Option ((Int×(List UInt8)×Int×Int×Int×Int×Tp2)⊕(Int×Int)))  (c:(List UInt8)) (c_1:Int) (c_2:Int) (c_3:Int) (c_4:Int) (l:Tp2):zbk zaa c c_1 c_2 c_3 c_4 l=zbx zaa (zbk zaa) c c_1 c_2 c_3 c_4 l:=zb5 (zda zaa) (c,c_1,c_2,c_3,c_4,l)
theorem zci (zaa:Nat->(List UInt8)->Int->Int->Int->Int->Tp2->Option ((Int×(List UInt8)×Int×Int×Int×Int×Tp2)⊕(Int×Int))) (zad:(List UInt8)->Int->Int->Int->Int->Tp2->Option ((Int×(List UInt8)×Int×Int×Int×Int×Tp2)⊕(Int×Int))) (zaf:∀ a0 a1 a2 a3 a4 a5,ChO (fun κ=>zaa κ a0 a1 a2 a3 a4 a5) (zad a0 a1 a2 a3 a4 a5))  (c:(List UInt8)) (c_1:Int) (c_2:Int) (c_3:Int) (c_4:Int) (l:Tp2):ChO (fun κ=>zbk (zaa κ) c c_1 c_2 c_3 c_4 l) (zbk zad c c_1 c_2 c_3 c_4 l):=by
  unfold zbk
  exact zek (fun κ=>(zda (zaa κ) ).mono) (zda zad ).mono (fun g h hg x=>zdW zaa zad zaf (fun κ c c_1 c_2 c_3 c_4 l=>g κ (c,c_1,c_2,c_3,c_4,l)) (fun c c_1 c_2 c_3 c_4 l=>h (c,c_1,c_2,c_3,c_4,l)) (fun c c_1 c_2 c_3 c_4 l=>hg (c,c_1,c_2,c_3,c_4,l))  x.1 x.2.1 x.2.2.1 x.2.2.2.1 x.2.2.2.2.1 x.2.2.2.2.2) _
theorem zdg (zaa:Nat->(List UInt8)->Int->Int->Int->Int->Tp2->Option ((Int×(List UInt8)×Int×Int×Int×Int×Tp2)⊕(Int×Int))) (zad:(List UInt8)->Int->Int->Int->Int->Tp2->Option ((Int×(List UInt8)×Int×Int×Int×Int×Tp2)⊕(Int×Int))) (zaf:∀ a0 a1 a2 a3 a4 a5,ChO (fun κ=>zaa κ a0 a1 a2 a3 a4 a5) (zad a0 a1 a2 a3 a4 a5)) (r2:Nat->Int->(List UInt8)->Int->Int->Int->Int->Tp2->Option ((Int×(List UInt8)×Int×Int×Int×Int×Tp2)⊕(Int×Int))) (r2':Int->(List UInt8)->Int->Int->Int->Int->Tp2->Option ((Int×(List UInt8)×Int×Int×Int×Int×Tp2)⊕(Int×Int))) (h_r2:∀ a0 a1 a2 a3 a4 a5 a6,ChO (fun κ=>r2 κ a0 a1 a2 a3 a4 a5 a6) (r2' a0 a1 a2 a3 a4 a5 a6)) (n:Int) (r:(List UInt8)) (r_1:Int) (r_2:Int) (r_3:Int) (r_4:Int) (l_1:Tp2):ChO (fun κ=>zba (zaa κ) (r2 κ) n r r_1 r_2 r_3 r_4 l_1) (zba zad r2' n r r_1 r_2 r_3 r_4 l_1):=by
  unfold zba
  repeat' with_reducible first | exact ChO.const _ | exact zaf _ _ _ _ _ _ | exact h_r2 _ _ _ _ _ _ _ | (apply za0<;>assumption) | (apply zbX<;>assumption) | (apply zci<;>assumption) | apply ChO.ite | apply ChO.G | apply ChO.both | apply ChO.bothS | (apply ChO.bind;intro _) | (apply ChO.bind2 (zaf _ _ _ _ _ _);intro _) | (refine ChO.bind2 ?_ (fun _ => ?_)) | (refine ChO.pbind (fun _ => ?_) (fun _ => ?_)) | (refine ChO.pbind2 ?_ (fun _ => ?_) (fun _ => ?_))
theorem zcu (zaa:(List UInt8)->Int->Int->Int->Int->Tp2->Option ((Int×(List UInt8)×Int×Int×Int×Int×Tp2)⊕(Int×Int))):Cn (zdX zaa):=fun g h hg x=>zdg (fun _=>zaa) zaa (fun _ _ _ _ _ _=>ChO.const _) (fun κ n r r_1 r_2 r_3 r_4 l_1=>g κ (n,r,r_1,r_2,r_3,r_4,l_1)) (fun n r r_1 r_2 r_3 r_4 l_1=>h (n,r,r_1,r_2,r_3,r_4,l_1)) (fun n r r_1 r_2 r_3 r_4 l_1=>hg (n,r,r_1,r_2,r_3,r_4,l_1))  x.1 x.2.1 x.2.2.1 x.2.2.2.1 x.2.2.2.2.1 x.2.2.2.2.2.1 x.2.2.2.2.2.2
theorem zgu (zaa:(List UInt8)->Int->Int->Int->Int->Tp2->Option ((Int×(List UInt8)×Int×Int×Int×Int×Tp2)⊕(Int×Int)))  (n:Int) (r:(List UInt8)) (r_1:Int) (r_2:Int) (r_3:Int) (r_4:Int) (l_1:Tp2):za7 zaa n r r_1 r_2 r_3 r_4 l_1=zba zaa (za7 zaa) n r r_1 r_2 r_3 r_4 l_1:=zb5 (zcu zaa) (n,r,r_1,r_2,r_3,r_4,l_1)
theorem zct (zaa:Nat->(List UInt8)->Int->Int->Int->Int->Tp2->Option ((Int×(List UInt8)×Int×Int×Int×Int×Tp2)⊕(Int×Int))) (zad:(List UInt8)->Int->Int->Int->Int->Tp2->Option ((Int×(List UInt8)×Int×Int×Int×Int×Tp2)⊕(Int×Int))) (zaf:∀ a0 a1 a2 a3 a4 a5,ChO (fun κ=>zaa κ a0 a1 a2 a3 a4 a5) (zad a0 a1 a2 a3 a4 a5))  (n:Int) (r:(List UInt8)) (r_1:Int) (r_2:Int) (r_3:Int) (r_4:Int) (l_1:Tp2):ChO (fun κ=>za7 (zaa κ) n r r_1 r_2 r_3 r_4 l_1) (za7 zad n r r_1 r_2 r_3 r_4 l_1):=by
  unfold za7
  exact zek (fun κ=>(zcu (zaa κ) ).mono) (zcu zad ).mono (fun g h hg x=>zdg zaa zad zaf (fun κ n r r_1 r_2 r_3 r_4 l_1=>g κ (n,r,r_1,r_2,r_3,r_4,l_1)) (fun n r r_1 r_2 r_3 r_4 l_1=>h (n,r,r_1,r_2,r_3,r_4,l_1)) (fun n r r_1 r_2 r_3 r_4 l_1=>hg (n,r,r_1,r_2,r_3,r_4,l_1))  x.1 x.2.1 x.2.2.1 x.2.2.2.1 x.2.2.2.2.1 x.2.2.2.2.2.1 x.2.2.2.2.2.2) _
theorem zeM (zaa:Nat->(List UInt8)->Int->Int->Int->Int->Tp2->Option ((Int×(List UInt8)×Int×Int×Int×Int×Tp2)⊕(Int×Int))) (zad:(List UInt8)->Int->Int->Int->Int->Tp2->Option ((Int×(List UInt8)×Int×Int×Int×Int×Tp2)⊕(Int×Int))) (zaf:∀ a0 a1 a2 a3 a4 a5,ChO (fun κ=>zaa κ a0 a1 a2 a3 a4 a5) (zad a0 a1 a2 a3 a4 a5)) (c:(List UInt8)) (c_1:Int) (c_2:Int) (c_3:Int) (c_4:Int) (l:Tp2):ChO (fun κ=>zbl (zaa κ) c c_1 c_2 c_3 c_4 l) (zbl zad c c_1 c_2 c_3 c_4 l):=by
  unfold zbl
  repeat' with_reducible first | exact ChO.const _ | exact zaf _ _ _ _ _ _ | (apply za0<;>assumption) | (apply zbX<;>assumption) | (apply zci<;>assumption) | (apply zct<;>assumption) | apply ChO.ite | apply ChO.G | apply ChO.both | apply ChO.bothS | (apply ChO.bind;intro _) | (apply ChO.bind2 (zaf _ _ _ _ _ _);intro _) | (refine ChO.bind2 ?_ (fun _ => ?_)) | (refine ChO.pbind (fun _ => ?_) (fun _ => ?_)) | (refine ChO.pbind2 ?_ (fun _ => ?_) (fun _ => ?_))
theorem zcE (zaa:Nat->(List UInt8)->Int->Int->Int->Int->Tp2->Option ((Int×(List UInt8)×Int×Int×Int×Int×Tp2)⊕(Int×Int))) (zad:(List UInt8)->Int->Int->Int->Int->Tp2->Option ((Int×(List UInt8)×Int×Int×Int×Int×Tp2)⊕(Int×Int))) (zaf:∀ a0 a1 a2 a3 a4 a5,ChO (fun κ=>zaa κ a0 a1 a2 a3 a4 a5) (zad a0 a1 a2 a3 a4 a5)) (r2:Nat->Int->(List UInt8)->Int->Int->Int->Int->Tp2->Option ((Int×(List UInt8)×Int×Int×Int×Int×Tp2)⊕(Int×Int))) (r2':Int->(List UInt8)->Int->Int->Int->Int->Tp2->Option ((Int×(List UInt8)×Int×Int×Int×Int×Tp2)⊕(Int×Int))) (h_r2:∀ a0 a1 a2 a3 a4 a5 a6,ChO (fun κ=>r2 κ a0 a1 a2 a3 a4 a5 a6) (r2' a0 a1 a2 a3 a4 a5 a6)) (n:Int) (r:(List UInt8)) (r_1:Int) (r_2:Int) (r_3:Int) (r_4:Int) (l_1:Tp2):ChO (fun κ=>zaV (zaa κ) (r2 κ) n r r_1 r_2 r_3 r_4 l_1) (zaV zad r2' n r r_1 r_2 r_3 r_4 l_1):=by
  unfold zaV
  repeat' with_reducible first | exact ChO.const _ | exact zaf _ _ _ _ _ _ | exact h_r2 _ _ _ _ _ _ _ | (apply za0<;>assumption) | (apply zbX<;>assumption) | (apply zci<;>assumption) | (apply zct<;>assumption) | (apply zeM<;>assumption) | apply ChO.ite | apply ChO.G | apply ChO.both | apply ChO.bothS | (apply ChO.bind;intro _) | (apply ChO.bind2 (zaf _ _ _ _ _ _);intro _) | (refine ChO.bind2 ?_ (fun _ => ?_)) | (refine ChO.pbind (fun _ => ?_) (fun _ => ?_)) | (refine ChO.pbind2 ?_ (fun _ => ?_) (fun _ => ?_))
theorem zb1 (zaa:(List UInt8)->Int->Int->Int->Int->Tp2->Option ((Int×(List UInt8)×Int×Int×Int×Int×Tp2)⊕(Int×Int))):Cn (zdf zaa):=fun g h hg x=>zcE (fun _=>zaa) zaa (fun _ _ _ _ _ _=>ChO.const _) (fun κ n r r_1 r_2 r_3 r_4 l_1=>g κ (n,r,r_1,r_2,r_3,r_4,l_1)) (fun n r r_1 r_2 r_3 r_4 l_1=>h (n,r,r_1,r_2,r_3,r_4,l_1)) (fun n r r_1 r_2 r_3 r_4 l_1=>hg (n,r,r_1,r_2,r_3,r_4,l_1))  x.1 x.2.1 x.2.2.1 x.2.2.2.1 x.2.2.2.2.1 x.2.2.2.2.2.1 x.2.2.2.2.2.2
theorem zfj (zaa:(List UInt8)->Int->Int->Int->Int->Tp2->Option ((Int×(List UInt8)×Int×Int×Int×Int×Tp2)⊕(Int×Int)))  (n:Int) (r:(List UInt8)) (r_1:Int) (r_2:Int) (r_3:Int) (r_4:Int) (l_1:Tp2):zaT zaa n r r_1 r_2 r_3 r_4 l_1=zaV zaa (zaT zaa) n r r_1 r_2 r_3 r_4 l_1:=zb5 (zb1 zaa) (n,r,r_1,r_2,r_3,r_4,l_1)
theorem zfi (zaa:Nat->(List UInt8)->Int->Int->Int->Int->Tp2->Option ((Int×(List UInt8)×Int×Int×Int×Int×Tp2)⊕(Int×Int))) (zad:(List UInt8)->Int->Int->Int->Int->Tp2->Option ((Int×(List UInt8)×Int×Int×Int×Int×Tp2)⊕(Int×Int))) (zaf:∀ a0 a1 a2 a3 a4 a5,ChO (fun κ=>zaa κ a0 a1 a2 a3 a4 a5) (zad a0 a1 a2 a3 a4 a5))  (n:Int) (r:(List UInt8)) (r_1:Int) (r_2:Int) (r_3:Int) (r_4:Int) (l_1:Tp2):ChO (fun κ=>zaT (zaa κ) n r r_1 r_2 r_3 r_4 l_1) (zaT zad n r r_1 r_2 r_3 r_4 l_1):=by
  unfold zaT
  exact zek (fun κ=>(zb1 (zaa κ) ).mono) (zb1 zad ).mono (fun g h hg x=>zcE zaa zad zaf (fun κ n r r_1 r_2 r_3 r_4 l_1=>g κ (n,r,r_1,r_2,r_3,r_4,l_1)) (fun n r r_1 r_2 r_3 r_4 l_1=>h (n,r,r_1,r_2,r_3,r_4,l_1)) (fun n r r_1 r_2 r_3 r_4 l_1=>hg (n,r,r_1,r_2,r_3,r_4,l_1))  x.1 x.2.1 x.2.2.1 x.2.2.2.1 x.2.2.2.2.1 x.2.2.2.2.2.1 x.2.2.2.2.2.2) _
theorem zfR (zaa:Nat->(List UInt8)->Int->Int->Int->Int->Tp2->Option ((Int×(List UInt8)×Int×Int×Int×Int×Tp2)⊕(Int×Int))) (zad:(List UInt8)->Int->Int->Int->Int->Tp2->Option ((Int×(List UInt8)×Int×Int×Int×Int×Tp2)⊕(Int×Int))) (zaf:∀ a0 a1 a2 a3 a4 a5,ChO (fun κ=>zaa κ a0 a1 a2 a3 a4 a5) (zad a0 a1 a2 a3 a4 a5)) (c:(List UInt8)) (c_1:Int) (c_2:Int) (c_3:Int) (c_4:Int) (l:Tp2):ChO (fun κ=>za9 (zaa κ) c c_1 c_2 c_3 c_4 l) (za9 zad c c_1 c_2 c_3 c_4 l):=by
  unfold za9
  repeat' with_reducible first | exact ChO.const _ | exact zaf _ _ _ _ _ _ | (apply za0<;>assumption) | (apply zbX<;>assumption) | (apply zci<;>assumption) | (apply zct<;>assumption) | (apply zeM<;>assumption) | (apply zfi<;>assumption) | apply ChO.ite | apply ChO.G | apply ChO.both | apply ChO.bothS | (apply ChO.bind;intro _) | (apply ChO.bind2 (zaf _ _ _ _ _ _);intro _) | (refine ChO.bind2 ?_ (fun _ => ?_)) | (refine ChO.pbind (fun _ => ?_) (fun _ => ?_)) | (refine ChO.pbind2 ?_ (fun _ => ?_) (fun _ => ?_))
def zbV:((List UInt8)×Int×Int×Int×Int×Tp2->Option ((Int×(List UInt8)×Int×Int×Int×Int×Tp2)⊕(Int×Int)))->(List UInt8)×Int×Int×Int×Int×Tp2->Option ((Int×(List UInt8)×Int×Int×Int×Int×Tp2)⊕(Int×Int)):=
  fun rec X=>za9 (fun c c_1 c_2 c_3 c_4 l=>rec (c,c_1,c_2,c_3,c_4,l)) X.1 X.2.1 X.2.2.1 X.2.2.2.1 X.2.2.2.2.1 X.2.2.2.2.2
def zaL (c:(List UInt8)) (c_1:Int) (c_2:Int) (c_3:Int) (c_4:Int) (l:Tp2):Option ((Int×(List UInt8)×Int×Int×Int×Int×Tp2)⊕(Int×Int)):=LFix zbV (c,c_1,c_2,c_3,c_4,l)
theorem zgr:Cn zbV:=fun g h hg X=>zfR _ _ (fun c c_1 c_2 c_3 c_4 l=>hg (c,c_1,c_2,c_3,c_4,l)) X.1 X.2.1 X.2.2.1 X.2.2.2.1 X.2.2.2.2.1 X.2.2.2.2.2
theorem zgs (c:(List UInt8)) (c_1:Int) (c_2:Int) (c_3:Int) (c_4:Int) (l:Tp2):zaL c c_1 c_2 c_3 c_4 l=za9 zaL c c_1 c_2 c_3 c_4 l:=zb5 zgr (c,c_1,c_2,c_3,c_4,l)
def zeD (text:(List UInt8)):Option (Tp2×Int×Int×Unit):=
  if (decide ((4000:Int) < (text.length:Int)))=true then
  some ([],((1:Int),((0:Int),()))) else
  pbind (zaL text (0:Int) (0:Int) (0:Int) (0:Int) ([]:List Tp3)) (fun y'_7=>
  if (decide (y'_7.2.2.1 < (text.length:Int)))=true then
  pbind (zbE (y'_7.2.1,(y'_7.2.2.1,(y'_7.2.2.2.1,(y'_7.2.2.2.2.1,(y'_7.2.2.2.2.2.1,(y'_7.2.2.2.2.2.2,())))))) (4:Int)) (fun _=>
  G (fits (y'_7.1+(1:Int))) (
  G (0<=y'_7.1+(1:Int)/\y'_7.1+(1:Int)<=(y'_7.2.2.2.2.2.2.length:Int)) (
  some ((y'_7.2.2.2.2.2.2.drop 0).take ((y'_7.1+(1:Int)).toNat),((0:Int),((0:Int),())))))) (fun p=>some ([],(p.1,(p.2,())))) else
  G (fits (y'_7.1+(1:Int))) (
  G (0<=y'_7.1+(1:Int)/\y'_7.1+(1:Int)<=(y'_7.2.2.2.2.2.2.length:Int)) (
  some ((y'_7.2.2.2.2.2.2.drop 0).take ((y'_7.1+(1:Int)).toNat),((0:Int),((0:Int),())))))) (fun p=>some ([],(p.1,(p.2,()))))

def zck (letters:Int) (w:Tp6) (r6:Int->Option (Int)) (t:Int):Option (Int):=
  if (decide (t < (w.length:Int)))=true then
  G (0<=t/\t < (w.length:Int)) (
  if (decide ((ix w t) < (0:Int)))=true then
  some (2:Int) else
  if (decide (letters<=(ix w t)))=true then
  some (2:Int) else
  G (fits (t+(1:Int))) (
  r6 (t+(1:Int)))) else
  some (0:Int)
def ziC (letters:Int) (w:Tp6):(Int->Option (Int))->Int->Option (Int):=
  fun rec x=>zck letters w (fun t=>rec t) x
def zgc (letters:Int) (w:Tp6) (t:Int):Option (Int):=LFix (ziC letters w ) t
def zkd (letters:Int) (w:Tp6):Option (Int):=
  if (decide (letters < (1:Int)))=true then
  some (2:Int) else
  if (decide ((4:Int) < letters))=true then
  some (2:Int) else
  if (decide ((60:Int) < (w.length:Int)))=true then
  some (1:Int) else
  zgc letters w (0:Int)
theorem zjX (r6:Nat->Int->Option (Int)) (r6':Int->Option (Int)) (h_r6:∀ a0,ChO (fun κ=>r6 κ a0) (r6' a0)) (letters:Int) (w:Tp6) (t:Int):ChO (fun κ=>zck letters w (r6 κ) t) (zck letters w r6' t):=by
  unfold zck
  repeat' with_reducible first | exact ChO.const _ | exact h_r6 _ | apply ChO.ite | apply ChO.G | apply ChO.both | (apply ChO.bind;intro _)
theorem zlq  (letters:Int) (w:Tp6):Cn (ziC letters w):=fun g h hg x=>zjX  (fun κ t=>g κ t) (fun t=>h t) (fun t=>hg t) letters w x
theorem zhC  (letters:Int) (w:Tp6) (t:Int):zgc letters w t=zck letters w (zgc letters w) t:=zb5 (zlq letters w) t

def zbu (letters:Int) (l:Tp1) (r2:Int->Option (Int)) (t:Int):Option (Int):=
  if (decide (t < (2:Int)))=true then
  G (0<=t/\t < (2:Int)) (
  (zkd letters (vget (.list (.int .i64)) 2 (l.1,(l.2.1,())) (t).toNat)).bind (fun y'=>
  if (decide (¬ y'=(0:Int)))=true then
  some y' else
  G (fits (t+(1:Int))) (
  r2 (t+(1:Int))))) else
  if (decide ((l.2.1.length:Int)=(0:Int)))=true then
  some (1:Int) else
  some (0:Int)
def zgU (letters:Int) (l:Tp1):(Int->Option (Int))->Int->Option (Int):=
  fun rec x=>zbu letters l (fun t=>rec t) x
def zgb (letters:Int) (l:Tp1) (t:Int):Option (Int):=LFix (zgU letters l ) t
def zfS (letters:Int) (l:Tp1):Option (Int):=
  zgb letters l (0:Int)
theorem ziA (r2:Nat->Int->Option (Int)) (r2':Int->Option (Int)) (h_r2:∀ a0,ChO (fun κ=>r2 κ a0) (r2' a0)) (letters:Int) (l:Tp1) (t:Int):ChO (fun κ=>zbu letters l (r2 κ) t) (zbu letters l r2' t):=by
  unfold zbu
  repeat' with_reducible first | exact ChO.const _ | exact h_r2 _ | apply ChO.ite | apply ChO.G | apply ChO.both | (apply ChO.bind;intro _)
theorem zjW  (letters:Int) (l:Tp1):Cn (zgU letters l):=fun g h hg x=>ziA  (fun κ t=>g κ t) (fun t=>h t) (fun t=>hg t) letters l x
theorem zd2  (letters:Int) (l:Tp1) (t:Int):zgb letters l t=zbu letters l (zgb letters l) t:=zb5 (zjW letters l) t

def zdU (i:Int) (t:Tp6) (t_1:Tp1):Option (Int):=
  G (fits (i+(1:Int))) (
  if (decide ((i+(1:Int))=(t.length:Int)))=true then
  some (t_1.1.length:Int) else
  G (fits (i+(1:Int))) (
  some (i+(1:Int))))

def zaW (n:Tp3) (letter:Int) (is':Tp5):Option (Bool):=
  if (decide (n.1=(1:Int)))=true then
  some (decide ((iand .i64 letter (1:Int))=(1:Int))) else
  if (decide (n.1=(2:Int)))=true then
  some (decide ((iand .i64 letter (2:Int))=(2:Int))) else
  if (decide (n.1=(3:Int)))=true then
  G (0<=n.2.1/\n.2.1 < (is'.length:Int)) (
  some (!(ix is' n.2.1))) else
  if (decide (n.1=(4:Int)))=true then
  G (0<=n.2.1/\n.2.1 < (is'.length:Int)) (
  if (ix is' n.2.1)=true then
  G (0<=n.2.2.1/\n.2.2.1 < (is'.length:Int)) (
  some (ix is' n.2.2.1)) else
  some false) else
  if (decide (n.1=(5:Int)))=true then
  G (0<=n.2.1/\n.2.1 < (is'.length:Int)) (
  if (ix is' n.2.1)=true then
  some true else
  G (0<=n.2.2.1/\n.2.2.1 < (is'.length:Int)) (
  some (ix is' n.2.2.1))) else
  some false

def zbD (y':Tp2) (w_1:Tp1) (l:Tp6) (t_1:Int) (t_2:Int) (r19:(Int->Tp4->Option (Bool×Int))) (r21:Int->Tp4->Option (Bool×Int)) (i:Int) (is'_3:Tp4):Option (Bool×Int):=
  if (decide ((0:Int)<=i))=true then
  if (decide (((ix y' t_1).1)=(6:Int)))=true then
  G (0<=i/\i < (is'_3.length:Int)) (
  G ((i).toNat < is'_3.length) (
  (zdU i l w_1).bind (fun y'_4=>
  G (0<=y'_4/\y'_4 < (is'_3.length:Int)) (
  G ((y'_4).toNat < is'_3.length) (
  G (0<=((ix y' t_1).2).1/\((ix y' t_1).2).1 < ((ix is'_3 y'_4).length:Int)) (
  G ((((ix y' t_1).2).1).toNat < (ix is'_3 y'_4).length) (
  G (0<=t_1/\t_1 < ((ix is'_3 i).length:Int)) (
  G ((t_1).toNat < (ix is'_3 i).length) (
  G (fits (i - (1:Int))) (
  r21 (i - (1:Int)) (is'_3.set (i).toNat ((ix is'_3 i).set (t_1).toNat (ix (ix is'_3 y'_4) (((ix y' t_1).2).1)))))))))))))) else
  if (decide (((ix y' t_1).1)=(7:Int)))=true then
  G (0<=i/\i < (is'_3.length:Int)) (
  G ((i).toNat < is'_3.length) (
  G (0<=i/\i < (is'_3.length:Int)) (
  G ((i).toNat < is'_3.length) (
  G (0<=(((ix y' t_1).2).2).1/\(((ix y' t_1).2).2).1 < ((ix is'_3 i).length:Int)) (
  G (((((ix y' t_1).2).2).1).toNat < (ix is'_3 i).length) (
  if (ix (ix is'_3 i) ((((ix y' t_1).2).2).1))=true then
  G (0<=t_1/\t_1 < ((ix is'_3 i).length:Int)) (
  G ((t_1).toNat < (ix is'_3 i).length) (
  G (fits (i - (1:Int))) (
  r21 (i - (1:Int)) (is'_3.set (i).toNat ((ix is'_3 i).set (t_1).toNat true))))) else
  G (0<=i/\i < (is'_3.length:Int)) (
  G ((i).toNat < is'_3.length) (
  G (0<=((ix y' t_1).2).1/\((ix y' t_1).2).1 < ((ix is'_3 i).length:Int)) (
  G ((((ix y' t_1).2).1).toNat < (ix is'_3 i).length) (
  if (ix (ix is'_3 i) (((ix y' t_1).2).1))=true then
  (zdU i l w_1).bind (fun y'_5=>
  G (0<=y'_5/\y'_5 < (is'_3.length:Int)) (
  G ((y'_5).toNat < is'_3.length) (
  G (0<=t_1/\t_1 < ((ix is'_3 y'_5).length:Int)) (
  G ((t_1).toNat < (ix is'_3 y'_5).length) (
  G (0<=t_1/\t_1 < ((ix is'_3 i).length:Int)) (
  G ((t_1).toNat < (ix is'_3 i).length) (
  G (fits (i - (1:Int))) (
  r21 (i - (1:Int)) (is'_3.set (i).toNat ((ix is'_3 i).set (t_1).toNat (ix (ix is'_3 y'_5) t_1))))))))))) else
  G (0<=t_1/\t_1 < ((ix is'_3 i).length:Int)) (
  G ((t_1).toNat < (ix is'_3 i).length) (
  G (fits (i - (1:Int))) (
  r21 (i - (1:Int)) (is'_3.set (i).toNat ((ix is'_3 i).set (t_1).toNat false))))))))))))))) else
  G (0<=i/\i < (is'_3.length:Int)) (
  G ((i).toNat < is'_3.length) (
  G (0<=i/\i < (l.length:Int)) (
  G ((i).toNat < l.length) (
  G (0<=i/\i < (is'_3.length:Int)) (
  G ((i).toNat < is'_3.length) (
  G ((i).toNat < is'_3.length) (
  (zaW ((ix y' t_1).1,(((ix y' t_1).2).1,((((ix y' t_1).2).2).1,()))) (ix l i) (ix is'_3 i)).bind (fun y'_6=>
  G (0<=t_1/\t_1 < ((ix is'_3 i).length:Int)) (
  G ((t_1).toNat < (ix is'_3 i).length) (
  G (fits (i - (1:Int))) (
  r21 (i - (1:Int)) (is'_3.set (i).toNat ((ix is'_3 i).set (t_1).toNat y'_6))))))))))))) else
  G (fits (t_2+(1:Int))) (
  r19 (t_2+(1:Int)) is'_3)
def zgo (y':Tp2) (w_1:Tp1) (l:Tp6) (t_1:Int) (t_2:Int) (r19:(Int->Tp4->Option (Bool×Int))):(Int×Tp4->Option (Bool×Int))->Int×Tp4->Option (Bool×Int):=
  fun rec x=>zbD y' w_1 l t_1 t_2 r19 (fun i is'_3=>rec (i,is'_3)) x.1 x.2
def za2 (y':Tp2) (w_1:Tp1) (l:Tp6) (t_1:Int) (t_2:Int) (r19:(Int->Tp4->Option (Bool×Int))) (i:Int) (is'_3:Tp4):Option (Bool×Int):=LFix (zgo y' w_1 l t_1 t_2 r19 ) (i,is'_3)
def zbj (y':Tp2) (w_1:Tp1) (l:Tp6) (t_1:Int) (r16:(Int->Tp4->Option (Bool×Int))) (r19:Int->Tp4->Option (Bool×Int)) (t_2:Int) (is'_2:Tp4):Option (Bool×Int):=
  if (decide (t_2 < (2:Int)))=true then
  G (fits ((l.length:Int) - (1:Int))) (
  za2 y' w_1 l t_1 t_2 r19 ((l.length:Int) - (1:Int)) is'_2) else
  G (fits (t_1+(1:Int))) (
  r16 (t_1+(1:Int)) is'_2)
def zgn (y':Tp2) (w_1:Tp1) (l:Tp6) (t_1:Int) (r16:(Int->Tp4->Option (Bool×Int))):(Int×Tp4->Option (Bool×Int))->Int×Tp4->Option (Bool×Int):=
  fun rec x=>zbj y' w_1 l t_1 r16 (fun t_2 is'_2=>rec (t_2,is'_2)) x.1 x.2
def zbs (y':Tp2) (w_1:Tp1) (l:Tp6) (t_1:Int) (r16:(Int->Tp4->Option (Bool×Int))) (t_2:Int) (is'_2:Tp4):Option (Bool×Int):=LFix (zgn y' w_1 l t_1 r16 ) (t_2,is'_2)
def zbC (y':Tp2) (w_1:Tp1) (l:Tp6) (r16:Int->Tp4->Option (Bool×Int)) (t_1:Int) (is'_1:Tp4):Option (Bool×Int):=
  if (decide (t_1 < (y'.length:Int)))=true then
  G (0<=t_1/\t_1 < (y'.length:Int)) (
  zbs y' w_1 l t_1 r16 (0:Int) is'_1) else
  G (0<=(0:Int)/\(0:Int) < (is'_1.length:Int)) (
  G (((0:Int)).toNat < is'_1.length) (
  G (fits ((y'.length:Int) - (1:Int))) (
  G (0<=(y'.length:Int) - (1:Int)/\(y'.length:Int) - (1:Int) < ((ix is'_1 (0:Int)).length:Int)) (
  G (((y'.length:Int) - (1:Int)).toNat < (ix is'_1 (0:Int)).length) (
  some (ix (ix is'_1 (0:Int)) ((y'.length:Int) - (1:Int)),(0:Int)))))))
def zgm (y':Tp2) (w_1:Tp1) (l:Tp6):(Int×Tp4->Option (Bool×Int))->Int×Tp4->Option (Bool×Int):=
  fun rec x=>zbC y' w_1 l (fun t_1 is'_1=>rec (t_1,is'_1)) x.1 x.2
def zcW (y':Tp2) (w_1:Tp1) (l:Tp6) (t_1:Int) (is'_1:Tp4):Option (Bool×Int):=LFix (zgm y' w_1 l ) (t_1,is'_1)
def zbB (y':Tp2) (w_1:Tp1) (l:Tp6) (r11:Int->Tp4->Option (Bool×Int)) (t:Int) (is':Tp4):Option (Bool×Int):=
  if (decide (t < ((List.replicate ((l.length:Int)).toNat ([]:List Bool)).length:Int)))=true then
  G (mkOK (y'.length:Int) (y'.length:Int) 1) (
  G (0<=t/\t < (is'.length:Int)) (
  G (fits (t+(1:Int))) (
  r11 (t+(1:Int)) (is'.set (t).toNat (List.replicate ((y'.length:Int)).toNat (false:Bool)))))) else
  zcW y' w_1 l (0:Int) is'
def zgl (y':Tp2) (w_1:Tp1) (l:Tp6):(Int×Tp4->Option (Bool×Int))->Int×Tp4->Option (Bool×Int):=
  fun rec x=>zbB y' w_1 l (fun t is'=>rec (t,is')) x.1 x.2
def zb0 (y':Tp2) (w_1:Tp1) (l:Tp6) (t:Int) (is':Tp4):Option (Bool×Int):=LFix (zgl y' w_1 l ) (t,is')
def zcg (y':Tp2) (w_1:Tp1) (l:Tp6):Option (Bool×Int):=
  G (mkOK (l.length:Int) (l.length:Int) 24) (
  zb0 y' w_1 l (0:Int) (List.replicate ((l.length:Int)).toNat ([]:List Bool)))
def zi5 (text:(List UInt8)) (w:Tp1):Option (Bool×Int):=
  (zeD text).bind (fun y'_7=>
  if (decide (¬ y'_7.2.1=(0:Int)))=true then
  some (false,(4:Int)) else
  (zfS (4:Int) (w.1,(w.2.1,()))).bind (fun y'_3=>
  if (decide (¬ y'_3=(0:Int)))=true then
  some (false,y'_3) else
  both [.bool,(.int .i64)] (
  both [.bool,(.int .i64)] (
  G (room ([]:List Int) w.1 8) (
  both [.bool,(.int .i64)] (
  G (room (([]:List Int)++w.1) w.2.1 8) (
  zcg y'_7.1 (w.1,(w.2.1,())) ((([]:List Int)++w.1)++w.2.1))) (
  G (room (([]:List Int)++w.1) w.2.1 8) (
  zcg y'_7.1 (w.1,(w.2.1,())) ((([]:List Int)++w.1)++w.2.1))))) (
  G (room ([]:List Int) w.1 8) (
  G (room (([]:List Int)++w.1) w.2.1 8) (
  zcg y'_7.1 (w.1,(w.2.1,())) ((([]:List Int)++w.1)++w.2.1))))) (
  G (room ([]:List Int) w.1 8) (
  G (room (([]:List Int)++w.1) w.2.1 8) (
  zcg y'_7.1 (w.1,(w.2.1,())) ((([]:List Int)++w.1)++w.2.1))))))
theorem zeA (r19:Nat->Int->Tp4->Option (Bool×Int)) (r19':Int->Tp4->Option (Bool×Int)) (h_r19:∀ a0 a1,ChO (fun κ=>r19 κ a0 a1) (r19' a0 a1)) (r21:Nat->Int->Tp4->Option (Bool×Int)) (r21':Int->Tp4->Option (Bool×Int)) (h_r21:∀ a0 a1,ChO (fun κ=>r21 κ a0 a1) (r21' a0 a1)) (y':Tp2) (w_1:Tp1) (l:Tp6) (t_1:Int) (t_2:Int) (i:Int) (is'_3:Tp4):ChO (fun κ=>zbD y' w_1 l t_1 t_2 (r19 κ) (r21 κ) i is'_3) (zbD y' w_1 l t_1 t_2 r19' r21' i is'_3):=by
  unfold zbD
  repeat' with_reducible first | exact ChO.const _ | exact h_r19 _ _ | exact h_r21 _ _ | apply ChO.ite | apply ChO.G | apply ChO.both | (apply ChO.bind;intro _)
theorem zdL (r19:Int->Tp4->Option (Bool×Int)) (y':Tp2) (w_1:Tp1) (l:Tp6) (t_1:Int) (t_2:Int):Cn (zgo y' w_1 l t_1 t_2 r19):=fun g h hg x=>zeA (fun _=>r19) r19 (fun _ _=>ChO.const _) (fun κ i is'_3=>g κ (i,is'_3)) (fun i is'_3=>h (i,is'_3)) (fun i is'_3=>hg (i,is'_3)) y' w_1 l t_1 t_2 x.1 x.2
theorem zfQ (r19:Int->Tp4->Option (Bool×Int)) (y':Tp2) (w_1:Tp1) (l:Tp6) (t_1:Int) (t_2:Int) (i:Int) (is'_3:Tp4):za2 y' w_1 l t_1 t_2 r19 i is'_3=zbD y' w_1 l t_1 t_2 r19 (za2 y' w_1 l t_1 t_2 r19) i is'_3:=zb5 (zdL r19 y' w_1 l t_1 t_2) (i,is'_3)
theorem zdK (r19:Nat->Int->Tp4->Option (Bool×Int)) (r19':Int->Tp4->Option (Bool×Int)) (h_r19:∀ a0 a1,ChO (fun κ=>r19 κ a0 a1) (r19' a0 a1)) (y':Tp2) (w_1:Tp1) (l:Tp6) (t_1:Int) (t_2:Int) (i:Int) (is'_3:Tp4):ChO (fun κ=>za2 y' w_1 l t_1 t_2 (r19 κ) i is'_3) (za2 y' w_1 l t_1 t_2 r19' i is'_3):=by
  unfold za2
  exact zek (fun κ=>(zdL (r19 κ) y' w_1 l t_1 t_2).mono) (zdL r19' y' w_1 l t_1 t_2).mono (fun g h hg x=>zeA r19 r19' h_r19 (fun κ i is'_3=>g κ (i,is'_3)) (fun i is'_3=>h (i,is'_3)) (fun i is'_3=>hg (i,is'_3)) y' w_1 l t_1 t_2 x.1 x.2) _
theorem zez (r16:Nat->Int->Tp4->Option (Bool×Int)) (r16':Int->Tp4->Option (Bool×Int)) (h_r16:∀ a0 a1,ChO (fun κ=>r16 κ a0 a1) (r16' a0 a1)) (r19:Nat->Int->Tp4->Option (Bool×Int)) (r19':Int->Tp4->Option (Bool×Int)) (h_r19:∀ a0 a1,ChO (fun κ=>r19 κ a0 a1) (r19' a0 a1)) (y':Tp2) (w_1:Tp1) (l:Tp6) (t_1:Int) (t_2:Int) (is'_2:Tp4):ChO (fun κ=>zbj y' w_1 l t_1 (r16 κ) (r19 κ) t_2 is'_2) (zbj y' w_1 l t_1 r16' r19' t_2 is'_2):=by
  unfold zbj
  repeat' with_reducible first | exact ChO.const _ | exact h_r16 _ _ | exact h_r19 _ _ | (apply zdK<;>assumption) | apply ChO.ite | apply ChO.G | apply ChO.both | (apply ChO.bind;intro _)
theorem zdI (r16:Int->Tp4->Option (Bool×Int)) (y':Tp2) (w_1:Tp1) (l:Tp6) (t_1:Int):Cn (zgn y' w_1 l t_1 r16):=fun g h hg x=>zez (fun _=>r16) r16 (fun _ _=>ChO.const _) (fun κ t_2 is'_2=>g κ (t_2,is'_2)) (fun t_2 is'_2=>h (t_2,is'_2)) (fun t_2 is'_2=>hg (t_2,is'_2)) y' w_1 l t_1 x.1 x.2
theorem zdJ (r16:Int->Tp4->Option (Bool×Int)) (y':Tp2) (w_1:Tp1) (l:Tp6) (t_1:Int) (t_2:Int) (is'_2:Tp4):zbs y' w_1 l t_1 r16 t_2 is'_2=zbj y' w_1 l t_1 r16 (zbs y' w_1 l t_1 r16) t_2 is'_2:=zb5 (zdI r16 y' w_1 l t_1) (t_2,is'_2)
theorem zfP (r16:Nat->Int->Tp4->Option (Bool×Int)) (r16':Int->Tp4->Option (Bool×Int)) (h_r16:∀ a0 a1,ChO (fun κ=>r16 κ a0 a1) (r16' a0 a1)) (y':Tp2) (w_1:Tp1) (l:Tp6) (t_1:Int) (t_2:Int) (is'_2:Tp4):ChO (fun κ=>zbs y' w_1 l t_1 (r16 κ) t_2 is'_2) (zbs y' w_1 l t_1 r16' t_2 is'_2):=by
  unfold zbs
  exact zek (fun κ=>(zdI (r16 κ) y' w_1 l t_1).mono) (zdI r16' y' w_1 l t_1).mono (fun g h hg x=>zez r16 r16' h_r16 (fun κ t_2 is'_2=>g κ (t_2,is'_2)) (fun t_2 is'_2=>h (t_2,is'_2)) (fun t_2 is'_2=>hg (t_2,is'_2)) y' w_1 l t_1 x.1 x.2) _
theorem zhM (r16:Nat->Int->Tp4->Option (Bool×Int)) (r16':Int->Tp4->Option (Bool×Int)) (h_r16:∀ a0 a1,ChO (fun κ=>r16 κ a0 a1) (r16' a0 a1)) (y':Tp2) (w_1:Tp1) (l:Tp6) (t_1:Int) (is'_1:Tp4):ChO (fun κ=>zbC y' w_1 l (r16 κ) t_1 is'_1) (zbC y' w_1 l r16' t_1 is'_1):=by
  unfold zbC
  repeat' with_reducible first | exact ChO.const _ | exact h_r16 _ _ | (apply zdK<;>assumption) | (apply zfP<;>assumption) | apply ChO.ite | apply ChO.G | apply ChO.both | (apply ChO.bind;intro _)
theorem zi7  (y':Tp2) (w_1:Tp1) (l:Tp6):Cn (zgm y' w_1 l):=fun g h hg x=>zhM  (fun κ t_1 is'_1=>g κ (t_1,is'_1)) (fun t_1 is'_1=>h (t_1,is'_1)) (fun t_1 is'_1=>hg (t_1,is'_1)) y' w_1 l x.1 x.2
theorem zfO  (y':Tp2) (w_1:Tp1) (l:Tp6) (t_1:Int) (is'_1:Tp4):zcW y' w_1 l t_1 is'_1=zbC y' w_1 l (zcW y' w_1 l) t_1 is'_1:=zb5 (zi7 y' w_1 l) (t_1,is'_1)
theorem zhL (r11:Nat->Int->Tp4->Option (Bool×Int)) (r11':Int->Tp4->Option (Bool×Int)) (h_r11:∀ a0 a1,ChO (fun κ=>r11 κ a0 a1) (r11' a0 a1)) (y':Tp2) (w_1:Tp1) (l:Tp6) (t:Int) (is':Tp4):ChO (fun κ=>zbB y' w_1 l (r11 κ) t is') (zbB y' w_1 l r11' t is'):=by
  unfold zbB
  repeat' with_reducible first | exact ChO.const _ | exact h_r11 _ _ | (apply zdK<;>assumption) | (apply zfP<;>assumption) | apply ChO.ite | apply ChO.G | apply ChO.both | (apply ChO.bind;intro _)
theorem zi6  (y':Tp2) (w_1:Tp1) (l:Tp6):Cn (zgl y' w_1 l):=fun g h hg x=>zhL  (fun κ t is'=>g κ (t,is')) (fun t is'=>h (t,is')) (fun t is'=>hg (t,is')) y' w_1 l x.1 x.2
theorem zfN  (y':Tp2) (w_1:Tp1) (l:Tp6) (t:Int) (is':Tp4):zb0 y' w_1 l t is'=zbB y' w_1 l (zb0 y' w_1 l) t is':=zb5 (zi6 y' w_1 l) (t,is')

def zde (r:((List UInt8)×Int×Int×Int×Int×Tp2×(Int×Int×Unit)×Unit)):Option (Bool):=
  some (decide (r.2.2.2.2.2.2.1.1=(0:Int)))

def zbT (r:((List UInt8)×Int×Int×Int×Int×Tp2×(Int×Int×Unit)×Unit)):Option (Int):=
  if (decide ((r.1.length:Int)<=r.2.1))=true then
  some (0:Int) else
  G (0<=r.2.1/\r.2.1 < (r.1.length:Int)) (
  some (bAt r.1 r.2.1))

def zbK (code:Int) (c:(List UInt8)) (c_1:Int) (c_2:Int) (c_3:Int) (c_4:Int) (c_5:Int) (c_6:Int) (l:Tp2):Option ((List UInt8)×Int×Int×Int×Int×Tp2×Int×Int):=
  if (decide (c_5=(0:Int)))=true then
  some (c,c_1,c_2,c_3,c_4,l,code,c_1) else
  some (c,c_1,c_2,c_3,c_4,l,c_5,c_6)

def zb2 (r:(List UInt8)) (r_1:Int) (r_2:Int) (r_3:Int) (r_4:Int) (r_5:Int) (r_6:Int) (l_1:Tp2) (t:Bool):Option ((List UInt8)×Int×Int×Int×Int×Tp2×Int×Int):=
  if t=true then
  (zbK (7:Int) r r_1 r_2 r_3 r_4 r_5 r_6 l_1).bind (fun y'_9=>
  G (fits (y'_9.2.1+(1:Int))) (
  some (y'_9.1,y'_9.2.1+(1:Int),y'_9.2.2.1,y'_9.2.2.2.1,y'_9.2.2.2.2.1,y'_9.2.2.2.2.2.1,y'_9.2.2.2.2.2.2.1,y'_9.2.2.2.2.2.2.2))) else
  G (fits (r_1+(1:Int))) (
  some (r,r_1+(1:Int),r_2,r_3,r_4,l_1,r_5,r_6))
def zcL (timed:Bool) (r:(List UInt8)) (r_1:Int) (r_2:Int) (r_3:Int) (r_4:Int) (r_5:Int) (r_6:Int) (l_1:Tp2):Option ((List UInt8)×Int×Int×Int×Int×Tp2×Int×Int):=
  if (decide ((30:Int) < r_2))=true then
  zb2 r r_1 r_2 r_3 r_4 r_5 r_6 l_1 true else
  if timed=true then
  zb2 r r_1 r_2 r_3 r_4 r_5 r_6 l_1 (decide ((5:Int) < r_3)) else
  zb2 r r_1 r_2 r_3 r_4 r_5 r_6 l_1 false
def zaZ (c_1:(List UInt8)) (c_2:Int) (c_3:Int) (c_4:Int) (c_5:Int) (c_6:Int) (c_7:Int) (l:Tp2) (timed:Bool):Option ((List UInt8)×Int×Int×Int×Int×Tp2×Int×Int):=
  G (fits (c_3+(1:Int))) (
  if timed=true then
  G (fits (c_4+(1:Int))) (
  zcL timed c_1 c_2 (c_3+(1:Int)) (c_4+(1:Int)) c_5 c_6 c_7 l) else
  zcL timed c_1 c_2 (c_3+(1:Int)) c_4 c_5 c_6 c_7 l)
def zas (c:Int) (c_1:(List UInt8)) (c_2:Int) (c_3:Int) (c_4:Int) (c_5:Int) (c_6:Int) (c_7:Int) (l:Tp2):Option ((List UInt8)×Int×Int×Int×Int×Tp2×Int×Int):=
  if (decide (c=(88:Int)))=true then
  zaZ c_1 c_2 c_3 c_4 c_5 c_6 c_7 l true else
  if (decide (c=(70:Int)))=true then
  zaZ c_1 c_2 c_3 c_4 c_5 c_6 c_7 l true else
  if (decide (c=(71:Int)))=true then
  zaZ c_1 c_2 c_3 c_4 c_5 c_6 c_7 l true else
  if (decide (c=(85:Int)))=true then
  zaZ c_1 c_2 c_3 c_4 c_5 c_6 c_7 l true else
  zaZ c_1 c_2 c_3 c_4 c_5 c_6 c_7 l (decide (c=(82:Int)))

def zaI (kind:Int) (a:Int) (b:Int) (c:(List UInt8)) (c_1:Int) (c_2:Int) (c_3:Int) (c_4:Int) (c_5:Int) (c_6:Int) (l:Tp2):Option (Int×(List UInt8)×Int×Int×Int×Int×Tp2×Int×Int):=
  G (room l ([(kind,(a,(b,())))]) 24) (
  G (fits (((l++([(kind,(a,(b,())))])).length:Int) - (1:Int))) (
  some (((l++([(kind,(a,(b,())))])).length:Int) - (1:Int),c,c_1,c_2,c_3,c_4,l++([(kind,(a,(b,())))]),c_5,c_6)))

def zaY (zab:(List UInt8)->Int->Int->Int->Int->Int->Int->Tp2->Option (Int×(List UInt8)×Int×Int×Int×Int×Tp2×Int×Int)) (c:(List UInt8)) (c_1:Int) (c_2:Int) (c_3:Int) (c_4:Int) (c_5:Int) (c_6:Int) (l:Tp2) (y'_1:Int) (t_1:Bool):Option (Int×(List UInt8)×Int×Int×Int×Int×Tp2×Int×Int):=
  if t_1=true then
  (zas y'_1 c c_1 c_2 c_3 c_4 c_5 c_6 l).bind (fun y'_54=>
  (zaI y'_1 (0:Int) (0:Int) y'_54.1 y'_54.2.1 y'_54.2.2.1 y'_54.2.2.2.1 y'_54.2.2.2.2.1 y'_54.2.2.2.2.2.2.1 y'_54.2.2.2.2.2.2.2 y'_54.2.2.2.2.2.1).bind (fun y'_53=>
  some (y'_53.1,y'_53.2.1,y'_53.2.2.1,y'_53.2.2.2.1,y'_53.2.2.2.2.1,y'_53.2.2.2.2.2.1,y'_53.2.2.2.2.2.2.1,y'_53.2.2.2.2.2.2.2.1,y'_53.2.2.2.2.2.2.2.2))) else
  if (decide (¬ y'_1=(40:Int)))=true then
  (zbK (4:Int) c c_1 c_2 c_3 c_4 c_5 c_6 l).bind (fun y'_64=>
  some ((0:Int),y'_64.1,y'_64.2.1,y'_64.2.2.1,y'_64.2.2.2.1,y'_64.2.2.2.2.1,y'_64.2.2.2.2.2.1,y'_64.2.2.2.2.2.2.1,y'_64.2.2.2.2.2.2.2)) else
  if (decide (c_4=(40:Int)))=true then
  (zbK (7:Int) c c_1 c_2 c_3 c_4 c_5 c_6 l).bind (fun y'_74=>
  some ((0:Int),y'_74.1,y'_74.2.1,y'_74.2.2.1,y'_74.2.2.2.1,y'_74.2.2.2.2.1,y'_74.2.2.2.2.2.1,y'_74.2.2.2.2.2.2.1,y'_74.2.2.2.2.2.2.2)) else
  G (fits (c_4+(1:Int))) (
  G (fits (c_1+(1:Int))) (
  (zab c (c_1+(1:Int)) c_2 c_3 (c_4+(1:Int)) c_5 c_6 l).bind (fun y'_96=>
  (zbT (y'_96.2.1,(y'_96.2.2.1,(y'_96.2.2.2.1,(y'_96.2.2.2.2.1,(y'_96.2.2.2.2.2.1,(y'_96.2.2.2.2.2.2.1,((y'_96.2.2.2.2.2.2.2.1,(y'_96.2.2.2.2.2.2.2.2,())),())))))))).bind (fun y'_85=>
  if (decide (¬ y'_85=(41:Int)))=true then
  (zbK (4:Int) y'_96.2.1 y'_96.2.2.1 y'_96.2.2.2.1 y'_96.2.2.2.2.1 y'_96.2.2.2.2.2.1 y'_96.2.2.2.2.2.2.2.1 y'_96.2.2.2.2.2.2.2.2 y'_96.2.2.2.2.2.2.1).bind (fun y'_95=>
  G (fits (y'_95.2.1+(1:Int))) (
  G (fits (y'_95.2.2.2.2.1 - (1:Int))) (
  some (y'_96.1,y'_95.1,y'_95.2.1+(1:Int),y'_95.2.2.1,y'_95.2.2.2.1,y'_95.2.2.2.2.1 - (1:Int),y'_95.2.2.2.2.2.1,y'_95.2.2.2.2.2.2.1,y'_95.2.2.2.2.2.2.2)))) else
  G (fits (y'_96.2.2.1+(1:Int))) (
  G (fits (y'_96.2.2.2.2.2.1 - (1:Int))) (
  some (y'_96.1,y'_96.2.1,y'_96.2.2.1+(1:Int),y'_96.2.2.2.1,y'_96.2.2.2.2.1,y'_96.2.2.2.2.2.1 - (1:Int),y'_96.2.2.2.2.2.2.1,y'_96.2.2.2.2.2.2.2.1,y'_96.2.2.2.2.2.2.2.2)))))))
def za3 (zab:(List UInt8)->Int->Int->Int->Int->Int->Int->Tp2->Option (Int×(List UInt8)×Int×Int×Int×Int×Tp2×Int×Int)) (c:(List UInt8)) (c_1:Int) (c_2:Int) (c_3:Int) (c_4:Int) (c_5:Int) (c_6:Int) (l:Tp2) (zaJ:((List UInt8)->Int->Int->Int->Int->Int->Int->Tp2->Option (Int×(List UInt8)×Int×Int×Int×Int×Tp2×Int×Int))) (y'_1:Int) (t:Bool):Option (Int×(List UInt8)×Int×Int×Int×Int×Tp2×Int×Int):=
  if t=true then
  (zas y'_1 c c_1 c_2 c_3 c_4 c_5 c_6 l).bind (fun y'_33=>
  (zaJ y'_33.1 y'_33.2.1 y'_33.2.2.1 y'_33.2.2.2.1 y'_33.2.2.2.2.1 y'_33.2.2.2.2.2.2.1 y'_33.2.2.2.2.2.2.2 y'_33.2.2.2.2.2.1).bind (fun y'_32=>
  (zaI y'_1 y'_32.1 (0:Int) y'_32.2.1 y'_32.2.2.1 y'_32.2.2.2.1 y'_32.2.2.2.2.1 y'_32.2.2.2.2.2.1 y'_32.2.2.2.2.2.2.2.1 y'_32.2.2.2.2.2.2.2.2 y'_32.2.2.2.2.2.2.1).bind (fun y'_31=>
  some (y'_31.1,y'_31.2.1,y'_31.2.2.1,y'_31.2.2.2.1,y'_31.2.2.2.2.1,y'_31.2.2.2.2.2.1,y'_31.2.2.2.2.2.2.1,y'_31.2.2.2.2.2.2.2.1,y'_31.2.2.2.2.2.2.2.2)))) else
  if (decide (y'_1=(112:Int)))=true then
  zaY zab c c_1 c_2 c_3 c_4 c_5 c_6 l y'_1 (decide (y'_1=(112:Int))) else
  if (decide (y'_1=(113:Int)))=true then
  zaY zab c c_1 c_2 c_3 c_4 c_5 c_6 l y'_1 (decide (y'_1=(113:Int))) else
  if (decide (y'_1=(48:Int)))=true then
  zaY zab c c_1 c_2 c_3 c_4 c_5 c_6 l y'_1 (decide (y'_1=(48:Int))) else
  zaY zab c c_1 c_2 c_3 c_4 c_5 c_6 l y'_1 (decide (y'_1=(49:Int)))
def zaz (zab:(List UInt8)->Int->Int->Int->Int->Int->Int->Tp2->Option (Int×(List UInt8)×Int×Int×Int×Int×Tp2×Int×Int))  (zaJ:(List UInt8)->Int->Int->Int->Int->Int->Int->Tp2->Option (Int×(List UInt8)×Int×Int×Int×Int×Tp2×Int×Int)) (c:(List UInt8)) (c_1:Int) (c_2:Int) (c_3:Int) (c_4:Int) (c_5:Int) (c_6:Int) (l:Tp2):Option (Int×(List UInt8)×Int×Int×Int×Int×Tp2×Int×Int):=
  (zde (c,(c_1,(c_2,(c_3,(c_4,(l,((c_5,(c_6,())),())))))))).bind (fun y'=>
  if (!y')=true then
  some ((0:Int),c,c_1,c_2,c_3,c_4,l,c_5,c_6) else
  (zbT (c,(c_1,(c_2,(c_3,(c_4,(l,((c_5,(c_6,())),())))))))).bind (fun y'_1=>
  if (decide (y'_1=(33:Int)))=true then
  za3 zab c c_1 c_2 c_3 c_4 c_5 c_6 l zaJ y'_1 (decide (y'_1=(33:Int))) else
  if (decide (y'_1=(88:Int)))=true then
  za3 zab c c_1 c_2 c_3 c_4 c_5 c_6 l zaJ y'_1 (decide (y'_1=(88:Int))) else
  if (decide (y'_1=(70:Int)))=true then
  za3 zab c c_1 c_2 c_3 c_4 c_5 c_6 l zaJ y'_1 (decide (y'_1=(70:Int))) else
  za3 zab c c_1 c_2 c_3 c_4 c_5 c_6 l zaJ y'_1 (decide (y'_1=(71:Int)))))
def zdo (zab:(List UInt8)->Int->Int->Int->Int->Int->Int->Tp2->Option (Int×(List UInt8)×Int×Int×Int×Int×Tp2×Int×Int)):((List UInt8)×Int×Int×Int×Int×Int×Int×Tp2->Option (Int×(List UInt8)×Int×Int×Int×Int×Tp2×Int×Int))->(List UInt8)×Int×Int×Int×Int×Int×Int×Tp2->Option (Int×(List UInt8)×Int×Int×Int×Int×Tp2×Int×Int):=
  fun rec x=>zaz zab (fun c c_1 c_2 c_3 c_4 c_5 c_6 l=>rec (c,c_1,c_2,c_3,c_4,c_5,c_6,l)) x.1 x.2.1 x.2.2.1 x.2.2.2.1 x.2.2.2.2.1 x.2.2.2.2.2.1 x.2.2.2.2.2.2.1 x.2.2.2.2.2.2.2
def zay (zab:(List UInt8)->Int->Int->Int->Int->Int->Int->Tp2->Option (Int×(List UInt8)×Int×Int×Int×Int×Tp2×Int×Int))  (c:(List UInt8)) (c_1:Int) (c_2:Int) (c_3:Int) (c_4:Int) (c_5:Int) (c_6:Int) (l:Tp2):Option (Int×(List UInt8)×Int×Int×Int×Int×Tp2×Int×Int):=LFix (zdo zab ) (c,c_1,c_2,c_3,c_4,c_5,c_6,l)
def zbp (zaP:((List UInt8)->Int->Int->Int->Int->Int->Int->Tp2->Option (Int×(List UInt8)×Int×Int×Int×Int×Tp2×Int×Int))) (y':Int) (y'_1:(List UInt8)) (y'_2:Int) (y'_3:Int) (y'_4:Int) (y'_5:Int) (y'_6:Tp2) (y'_7:Int) (y'_8:Int) (y'_10:Int):Option (Int×(List UInt8)×Int×Int×Int×Int×Tp2×Int×Int):=
  (zas y'_10 y'_1 y'_2 y'_3 y'_4 y'_5 y'_7 y'_8 y'_6).bind (fun y'_43=>
  (zaP y'_43.1 y'_43.2.1 y'_43.2.2.1 y'_43.2.2.2.1 y'_43.2.2.2.2.1 y'_43.2.2.2.2.2.2.1 y'_43.2.2.2.2.2.2.2 y'_43.2.2.2.2.2.1).bind (fun y'_42=>
  (zaI y'_10 y' y'_42.1 y'_42.2.1 y'_42.2.2.1 y'_42.2.2.2.1 y'_42.2.2.2.2.1 y'_42.2.2.2.2.2.1 y'_42.2.2.2.2.2.2.2.1 y'_42.2.2.2.2.2.2.2.2 y'_42.2.2.2.2.2.2.1).bind (fun y'_41=>
  some (y'_41.1,y'_41.2.1,y'_41.2.2.1,y'_41.2.2.2.1,y'_41.2.2.2.2.1,y'_41.2.2.2.2.2.1,y'_41.2.2.2.2.2.2.1,y'_41.2.2.2.2.2.2.2.1,y'_41.2.2.2.2.2.2.2.2))))
def zbz (zab:(List UInt8)->Int->Int->Int->Int->Int->Int->Tp2->Option (Int×(List UInt8)×Int×Int×Int×Int×Tp2×Int×Int))  (zaP:(List UInt8)->Int->Int->Int->Int->Int->Int->Tp2->Option (Int×(List UInt8)×Int×Int×Int×Int×Tp2×Int×Int)) (c:(List UInt8)) (c_1:Int) (c_2:Int) (c_3:Int) (c_4:Int) (c_5:Int) (c_6:Int) (l:Tp2):Option (Int×(List UInt8)×Int×Int×Int×Int×Tp2×Int×Int):=
  (zay zab c c_1 c_2 c_3 c_4 c_5 c_6 l).bind (fun y'_44=>
  (zbT (y'_44.2.1,(y'_44.2.2.1,(y'_44.2.2.2.1,(y'_44.2.2.2.2.1,(y'_44.2.2.2.2.2.1,(y'_44.2.2.2.2.2.2.1,((y'_44.2.2.2.2.2.2.2.1,(y'_44.2.2.2.2.2.2.2.2,())),())))))))).bind (fun y'_10=>
  (zde (y'_44.2.1,(y'_44.2.2.1,(y'_44.2.2.2.1,(y'_44.2.2.2.2.1,(y'_44.2.2.2.2.2.1,(y'_44.2.2.2.2.2.2.1,((y'_44.2.2.2.2.2.2.2.1,(y'_44.2.2.2.2.2.2.2.2,())),())))))))).bind (fun y'_11=>
  if (!y'_11)=true then
  some (y'_44.1,y'_44.2.1,y'_44.2.2.1,y'_44.2.2.2.1,y'_44.2.2.2.2.1,y'_44.2.2.2.2.2.1,y'_44.2.2.2.2.2.2.1,y'_44.2.2.2.2.2.2.2.1,y'_44.2.2.2.2.2.2.2.2) else
  if (decide (¬ y'_10=(85:Int)))=true then
  if (decide (¬ y'_10=(82:Int)))=true then
  some (y'_44.1,y'_44.2.1,y'_44.2.2.1,y'_44.2.2.2.1,y'_44.2.2.2.2.1,y'_44.2.2.2.2.2.1,y'_44.2.2.2.2.2.2.1,y'_44.2.2.2.2.2.2.2.1,y'_44.2.2.2.2.2.2.2.2) else
  zbp zaP y'_44.1 y'_44.2.1 y'_44.2.2.1 y'_44.2.2.2.1 y'_44.2.2.2.2.1 y'_44.2.2.2.2.2.1 y'_44.2.2.2.2.2.2.1 y'_44.2.2.2.2.2.2.2.1 y'_44.2.2.2.2.2.2.2.2 y'_10 else
  zbp zaP y'_44.1 y'_44.2.1 y'_44.2.2.1 y'_44.2.2.2.1 y'_44.2.2.2.2.1 y'_44.2.2.2.2.2.1 y'_44.2.2.2.2.2.2.1 y'_44.2.2.2.2.2.2.2.1 y'_44.2.2.2.2.2.2.2.2 y'_10)))
def zc1 (zab:(List UInt8)->Int->Int->Int->Int->Int->Int->Tp2->Option (Int×(List UInt8)×Int×Int×Int×Int×Tp2×Int×Int)):((List UInt8)×Int×Int×Int×Int×Int×Int×Tp2->Option (Int×(List UInt8)×Int×Int×Int×Int×Tp2×Int×Int))->(List UInt8)×Int×Int×Int×Int×Int×Int×Tp2->Option (Int×(List UInt8)×Int×Int×Int×Int×Tp2×Int×Int):=
  fun rec x=>zbz zab (fun c c_1 c_2 c_3 c_4 c_5 c_6 l=>rec (c,c_1,c_2,c_3,c_4,c_5,c_6,l)) x.1 x.2.1 x.2.2.1 x.2.2.2.1 x.2.2.2.2.1 x.2.2.2.2.2.1 x.2.2.2.2.2.2.1 x.2.2.2.2.2.2.2
def zbr (zab:(List UInt8)->Int->Int->Int->Int->Int->Int->Tp2->Option (Int×(List UInt8)×Int×Int×Int×Int×Tp2×Int×Int))  (c:(List UInt8)) (c_1:Int) (c_2:Int) (c_3:Int) (c_4:Int) (c_5:Int) (c_6:Int) (l:Tp2):Option (Int×(List UInt8)×Int×Int×Int×Int×Tp2×Int×Int):=LFix (zc1 zab ) (c,c_1,c_2,c_3,c_4,c_5,c_6,l)
def za6 (zab:(List UInt8)->Int->Int->Int->Int->Int->Int->Tp2->Option (Int×(List UInt8)×Int×Int×Int×Int×Tp2×Int×Int))  (r2:Int->(List UInt8)->Int->Int->Int->Int->Int->Int->Tp2->Option (Int×(List UInt8)×Int×Int×Int×Int×Tp2×Int×Int)) (a:Int) (r:(List UInt8)) (r_1:Int) (r_2:Int) (r_3:Int) (r_4:Int) (r_5:Int) (r_6:Int) (l_1:Tp2):Option (Int×(List UInt8)×Int×Int×Int×Int×Tp2×Int×Int):=
  (zbT (r,(r_1,(r_2,(r_3,(r_4,(l_1,((r_5,(r_6,())),())))))))).bind (fun y'_10=>
  (zde (r,(r_1,(r_2,(r_3,(r_4,(l_1,((r_5,(r_6,())),())))))))).bind (fun y'_11=>
  if (!y'_11)=true then
  some (a,r,r_1,r_2,r_3,r_4,l_1,r_5,r_6) else
  if (decide (¬ y'_10=(38:Int)))=true then
  some (a,r,r_1,r_2,r_3,r_4,l_1,r_5,r_6) else
  (zas y'_10 r r_1 r_2 r_3 r_4 r_5 r_6 l_1).bind (fun y'_43=>
  (zbr zab y'_43.1 y'_43.2.1 y'_43.2.2.1 y'_43.2.2.2.1 y'_43.2.2.2.2.1 y'_43.2.2.2.2.2.2.1 y'_43.2.2.2.2.2.2.2 y'_43.2.2.2.2.2.1).bind (fun y'_42=>
  (zaI (38:Int) a y'_42.1 y'_42.2.1 y'_42.2.2.1 y'_42.2.2.2.1 y'_42.2.2.2.2.1 y'_42.2.2.2.2.2.1 y'_42.2.2.2.2.2.2.2.1 y'_42.2.2.2.2.2.2.2.2 y'_42.2.2.2.2.2.2.1).bind (fun y'_41=>
  r2 y'_41.1 y'_41.2.1 y'_41.2.2.1 y'_41.2.2.2.1 y'_41.2.2.2.2.1 y'_41.2.2.2.2.2.1 y'_41.2.2.2.2.2.2.2.1 y'_41.2.2.2.2.2.2.2.2 y'_41.2.2.2.2.2.2.1)))))
def zet (zab:(List UInt8)->Int->Int->Int->Int->Int->Int->Tp2->Option (Int×(List UInt8)×Int×Int×Int×Int×Tp2×Int×Int)):(Int×(List UInt8)×Int×Int×Int×Int×Int×Int×Tp2->Option (Int×(List UInt8)×Int×Int×Int×Int×Tp2×Int×Int))->Int×(List UInt8)×Int×Int×Int×Int×Int×Int×Tp2->Option (Int×(List UInt8)×Int×Int×Int×Int×Tp2×Int×Int):=
  fun rec x=>za6 zab (fun a r r_1 r_2 r_3 r_4 r_5 r_6 l_1=>rec (a,r,r_1,r_2,r_3,r_4,r_5,r_6,l_1)) x.1 x.2.1 x.2.2.1 x.2.2.2.1 x.2.2.2.2.1 x.2.2.2.2.2.1 x.2.2.2.2.2.2.1 x.2.2.2.2.2.2.2.1 x.2.2.2.2.2.2.2.2
def za8 (zab:(List UInt8)->Int->Int->Int->Int->Int->Int->Tp2->Option (Int×(List UInt8)×Int×Int×Int×Int×Tp2×Int×Int))  (a:Int) (r:(List UInt8)) (r_1:Int) (r_2:Int) (r_3:Int) (r_4:Int) (r_5:Int) (r_6:Int) (l_1:Tp2):Option (Int×(List UInt8)×Int×Int×Int×Int×Tp2×Int×Int):=LFix (zet zab ) (a,r,r_1,r_2,r_3,r_4,r_5,r_6,l_1)
def zbc (zab:(List UInt8)->Int->Int->Int->Int->Int->Int->Tp2->Option (Int×(List UInt8)×Int×Int×Int×Int×Tp2×Int×Int)) (c:(List UInt8)) (c_1:Int) (c_2:Int) (c_3:Int) (c_4:Int) (c_5:Int) (c_6:Int) (l:Tp2):Option (Int×(List UInt8)×Int×Int×Int×Int×Tp2×Int×Int):=
  (zbr zab c c_1 c_2 c_3 c_4 c_5 c_6 l).bind (fun y'_44=>
  za8 zab y'_44.1 y'_44.2.1 y'_44.2.2.1 y'_44.2.2.2.1 y'_44.2.2.2.2.1 y'_44.2.2.2.2.2.1 y'_44.2.2.2.2.2.2.2.1 y'_44.2.2.2.2.2.2.2.2 y'_44.2.2.2.2.2.2.1)
def zaS (zab:(List UInt8)->Int->Int->Int->Int->Int->Int->Tp2->Option (Int×(List UInt8)×Int×Int×Int×Int×Tp2×Int×Int))  (r2:Int->(List UInt8)->Int->Int->Int->Int->Int->Int->Tp2->Option (Int×(List UInt8)×Int×Int×Int×Int×Tp2×Int×Int)) (a:Int) (r:(List UInt8)) (r_1:Int) (r_2:Int) (r_3:Int) (r_4:Int) (r_5:Int) (r_6:Int) (l_1:Tp2):Option (Int×(List UInt8)×Int×Int×Int×Int×Tp2×Int×Int):=
  (zbT (r,(r_1,(r_2,(r_3,(r_4,(l_1,((r_5,(r_6,())),())))))))).bind (fun y'_10=>
  (zde (r,(r_1,(r_2,(r_3,(r_4,(l_1,((r_5,(r_6,())),())))))))).bind (fun y'_11=>
  if (!y'_11)=true then
  some (a,r,r_1,r_2,r_3,r_4,l_1,r_5,r_6) else
  if (decide (¬ y'_10=(124:Int)))=true then
  some (a,r,r_1,r_2,r_3,r_4,l_1,r_5,r_6) else
  (zas y'_10 r r_1 r_2 r_3 r_4 r_5 r_6 l_1).bind (fun y'_43=>
  (zbc zab y'_43.1 y'_43.2.1 y'_43.2.2.1 y'_43.2.2.2.1 y'_43.2.2.2.2.1 y'_43.2.2.2.2.2.2.1 y'_43.2.2.2.2.2.2.2 y'_43.2.2.2.2.2.1).bind (fun y'_42=>
  (zaI (124:Int) a y'_42.1 y'_42.2.1 y'_42.2.2.1 y'_42.2.2.2.1 y'_42.2.2.2.2.1 y'_42.2.2.2.2.2.1 y'_42.2.2.2.2.2.2.2.1 y'_42.2.2.2.2.2.2.2.2 y'_42.2.2.2.2.2.2.1).bind (fun y'_41=>
  r2 y'_41.1 y'_41.2.1 y'_41.2.2.1 y'_41.2.2.2.1 y'_41.2.2.2.2.1 y'_41.2.2.2.2.2.1 y'_41.2.2.2.2.2.2.2.1 y'_41.2.2.2.2.2.2.2.2 y'_41.2.2.2.2.2.2.1)))))
def zdt (zab:(List UInt8)->Int->Int->Int->Int->Int->Int->Tp2->Option (Int×(List UInt8)×Int×Int×Int×Int×Tp2×Int×Int)):(Int×(List UInt8)×Int×Int×Int×Int×Int×Int×Tp2->Option (Int×(List UInt8)×Int×Int×Int×Int×Tp2×Int×Int))->Int×(List UInt8)×Int×Int×Int×Int×Int×Int×Tp2->Option (Int×(List UInt8)×Int×Int×Int×Int×Tp2×Int×Int):=
  fun rec x=>zaS zab (fun a r r_1 r_2 r_3 r_4 r_5 r_6 l_1=>rec (a,r,r_1,r_2,r_3,r_4,r_5,r_6,l_1)) x.1 x.2.1 x.2.2.1 x.2.2.2.1 x.2.2.2.2.1 x.2.2.2.2.2.1 x.2.2.2.2.2.2.1 x.2.2.2.2.2.2.2.1 x.2.2.2.2.2.2.2.2
def zaQ (zab:(List UInt8)->Int->Int->Int->Int->Int->Int->Tp2->Option (Int×(List UInt8)×Int×Int×Int×Int×Tp2×Int×Int))  (a:Int) (r:(List UInt8)) (r_1:Int) (r_2:Int) (r_3:Int) (r_4:Int) (r_5:Int) (r_6:Int) (l_1:Tp2):Option (Int×(List UInt8)×Int×Int×Int×Int×Tp2×Int×Int):=LFix (zdt zab ) (a,r,r_1,r_2,r_3,r_4,r_5,r_6,l_1)
def zbo (zab:(List UInt8)->Int->Int->Int->Int->Int->Int->Tp2->Option (Int×(List UInt8)×Int×Int×Int×Int×Tp2×Int×Int)) (c:(List UInt8)) (c_1:Int) (c_2:Int) (c_3:Int) (c_4:Int) (c_5:Int) (c_6:Int) (l:Tp2):Option (Int×(List UInt8)×Int×Int×Int×Int×Tp2×Int×Int):=
  (zbc zab c c_1 c_2 c_3 c_4 c_5 c_6 l).bind (fun y'_44=>
  zaQ zab y'_44.1 y'_44.2.1 y'_44.2.2.1 y'_44.2.2.2.1 y'_44.2.2.2.2.1 y'_44.2.2.2.2.2.1 y'_44.2.2.2.2.2.2.2.1 y'_44.2.2.2.2.2.2.2.2 y'_44.2.2.2.2.2.2.1)
theorem zaR (zab:Nat->(List UInt8)->Int->Int->Int->Int->Int->Int->Tp2->Option (Int×(List UInt8)×Int×Int×Int×Int×Tp2×Int×Int)) (zae:(List UInt8)->Int->Int->Int->Int->Int->Int->Tp2->Option (Int×(List UInt8)×Int×Int×Int×Int×Tp2×Int×Int)) (zag:∀ a0 a1 a2 a3 a4 a5 a6 a7,ChO (fun κ=>zab κ a0 a1 a2 a3 a4 a5 a6 a7) (zae a0 a1 a2 a3 a4 a5 a6 a7)) (c:(List UInt8)) (c_1:Int) (c_2:Int) (c_3:Int) (c_4:Int) (c_5:Int) (c_6:Int) (l:Tp2) (y'_1:Int) (t_1:Bool):ChO (fun κ=>zaY (zab κ) c c_1 c_2 c_3 c_4 c_5 c_6 l y'_1 t_1) (zaY zae c c_1 c_2 c_3 c_4 c_5 c_6 l y'_1 t_1):=by
  unfold zaY
  repeat' with_reducible first | exact ChO.const _ | exact zag _ _ _ _ _ _ _ _ | apply ChO.ite | apply ChO.G | apply ChO.both | (apply ChO.bind;intro _) | (apply ChO.bind2 (zag _ _ _ _ _ _ _ _);intro _) | (refine ChO.bind2 ?_ (fun _ => ?_))
theorem za5 (zab:Nat->(List UInt8)->Int->Int->Int->Int->Int->Int->Tp2->Option (Int×(List UInt8)×Int×Int×Int×Int×Tp2×Int×Int)) (zae:(List UInt8)->Int->Int->Int->Int->Int->Int->Tp2->Option (Int×(List UInt8)×Int×Int×Int×Int×Tp2×Int×Int)) (zag:∀ a0 a1 a2 a3 a4 a5 a6 a7,ChO (fun κ=>zab κ a0 a1 a2 a3 a4 a5 a6 a7) (zae a0 a1 a2 a3 a4 a5 a6 a7)) (zaJ:Nat->(List UInt8)->Int->Int->Int->Int->Int->Int->Tp2->Option (Int×(List UInt8)×Int×Int×Int×Int×Tp2×Int×Int)) (zb8:(List UInt8)->Int->Int->Int->Int->Int->Int->Tp2->Option (Int×(List UInt8)×Int×Int×Int×Int×Tp2×Int×Int)) (zdk:∀ a0 a1 a2 a3 a4 a5 a6 a7,ChO (fun κ=>zaJ κ a0 a1 a2 a3 a4 a5 a6 a7) (zb8 a0 a1 a2 a3 a4 a5 a6 a7)) (c:(List UInt8)) (c_1:Int) (c_2:Int) (c_3:Int) (c_4:Int) (c_5:Int) (c_6:Int) (l:Tp2) (y'_1:Int) (t:Bool):ChO (fun κ=>za3 (zab κ) c c_1 c_2 c_3 c_4 c_5 c_6 l (zaJ κ) y'_1 t) (za3 zae c c_1 c_2 c_3 c_4 c_5 c_6 l zb8 y'_1 t):=by
  unfold za3
  repeat' with_reducible first | exact ChO.const _ | exact zag _ _ _ _ _ _ _ _ | exact zdk _ _ _ _ _ _ _ _ | (apply zaR<;>assumption) | apply ChO.ite | apply ChO.G | apply ChO.both | (apply ChO.bind;intro _) | (apply ChO.bind2 (zag _ _ _ _ _ _ _ _);intro _) | (refine ChO.bind2 ?_ (fun _ => ?_))
theorem ze0 (zab:Nat->(List UInt8)->Int->Int->Int->Int->Int->Int->Tp2->Option (Int×(List UInt8)×Int×Int×Int×Int×Tp2×Int×Int)) (zae:(List UInt8)->Int->Int->Int->Int->Int->Int->Tp2->Option (Int×(List UInt8)×Int×Int×Int×Int×Tp2×Int×Int)) (zag:∀ a0 a1 a2 a3 a4 a5 a6 a7,ChO (fun κ=>zab κ a0 a1 a2 a3 a4 a5 a6 a7) (zae a0 a1 a2 a3 a4 a5 a6 a7)) (zaJ:Nat->(List UInt8)->Int->Int->Int->Int->Int->Int->Tp2->Option (Int×(List UInt8)×Int×Int×Int×Int×Tp2×Int×Int)) (zb8:(List UInt8)->Int->Int->Int->Int->Int->Int->Tp2->Option (Int×(List UInt8)×Int×Int×Int×Int×Tp2×Int×Int)) (zdk:∀ a0 a1 a2 a3 a4 a5 a6 a7,ChO (fun κ=>zaJ κ a0 a1 a2 a3 a4 a5 a6 a7) (zb8 a0 a1 a2 a3 a4 a5 a6 a7)) (c:(List UInt8)) (c_1:Int) (c_2:Int) (c_3:Int) (c_4:Int) (c_5:Int) (c_6:Int) (l:Tp2):ChO (fun κ=>zaz (zab κ) (zaJ κ) c c_1 c_2 c_3 c_4 c_5 c_6 l) (zaz zae zb8 c c_1 c_2 c_3 c_4 c_5 c_6 l):=by
  unfold zaz
  repeat' with_reducible first | exact ChO.const _ | exact zag _ _ _ _ _ _ _ _ | exact zdk _ _ _ _ _ _ _ _ | (apply zaR<;>assumption) | (apply za5<;>assumption) | apply ChO.ite | apply ChO.G | apply ChO.both | (apply ChO.bind;intro _) | (apply ChO.bind2 (zag _ _ _ _ _ _ _ _);intro _) | (refine ChO.bind2 ?_ (fun _ => ?_))
theorem zd1 (zab:(List UInt8)->Int->Int->Int->Int->Int->Int->Tp2->Option (Int×(List UInt8)×Int×Int×Int×Int×Tp2×Int×Int)):Cn (zdo zab):=fun g h hg x=>ze0 (fun _=>zab) zab (fun _ _ _ _ _ _ _ _=>ChO.const _) (fun κ c c_1 c_2 c_3 c_4 c_5 c_6 l=>g κ (c,c_1,c_2,c_3,c_4,c_5,c_6,l)) (fun c c_1 c_2 c_3 c_4 c_5 c_6 l=>h (c,c_1,c_2,c_3,c_4,c_5,c_6,l)) (fun c c_1 c_2 c_3 c_4 c_5 c_6 l=>hg (c,c_1,c_2,c_3,c_4,c_5,c_6,l))  x.1 x.2.1 x.2.2.1 x.2.2.2.1 x.2.2.2.2.1 x.2.2.2.2.2.1 x.2.2.2.2.2.2.1 x.2.2.2.2.2.2.2
theorem zaN (zab:(List UInt8)->Int->Int->Int->Int->Int->Int->Tp2->Option (Int×(List UInt8)×Int×Int×Int×Int×Tp2×Int×Int))  (c:(List UInt8)) (c_1:Int) (c_2:Int) (c_3:Int) (c_4:Int) (c_5:Int) (c_6:Int) (l:Tp2):zay zab c c_1 c_2 c_3 c_4 c_5 c_6 l=zaz zab (zay zab) c c_1 c_2 c_3 c_4 c_5 c_6 l:=zb5 (zd1 zab) (c,c_1,c_2,c_3,c_4,c_5,c_6,l)
theorem zbR (zab:Nat->(List UInt8)->Int->Int->Int->Int->Int->Int->Tp2->Option (Int×(List UInt8)×Int×Int×Int×Int×Tp2×Int×Int)) (zae:(List UInt8)->Int->Int->Int->Int->Int->Int->Tp2->Option (Int×(List UInt8)×Int×Int×Int×Int×Tp2×Int×Int)) (zag:∀ a0 a1 a2 a3 a4 a5 a6 a7,ChO (fun κ=>zab κ a0 a1 a2 a3 a4 a5 a6 a7) (zae a0 a1 a2 a3 a4 a5 a6 a7))  (c:(List UInt8)) (c_1:Int) (c_2:Int) (c_3:Int) (c_4:Int) (c_5:Int) (c_6:Int) (l:Tp2):ChO (fun κ=>zay (zab κ) c c_1 c_2 c_3 c_4 c_5 c_6 l) (zay zae c c_1 c_2 c_3 c_4 c_5 c_6 l):=by
  unfold zay
  exact zek (fun κ=>(zd1 (zab κ) ).mono) (zd1 zae ).mono (fun g h hg x=>ze0 zab zae zag (fun κ c c_1 c_2 c_3 c_4 c_5 c_6 l=>g κ (c,c_1,c_2,c_3,c_4,c_5,c_6,l)) (fun c c_1 c_2 c_3 c_4 c_5 c_6 l=>h (c,c_1,c_2,c_3,c_4,c_5,c_6,l)) (fun c c_1 c_2 c_3 c_4 c_5 c_6 l=>hg (c,c_1,c_2,c_3,c_4,c_5,c_6,l))  x.1 x.2.1 x.2.2.1 x.2.2.2.1 x.2.2.2.2.1 x.2.2.2.2.2.1 x.2.2.2.2.2.2.1 x.2.2.2.2.2.2.2) _
theorem zbH (zaP:Nat->(List UInt8)->Int->Int->Int->Int->Int->Int->Tp2->Option (Int×(List UInt8)×Int×Int×Int×Int×Tp2×Int×Int)) (zbU:(List UInt8)->Int->Int->Int->Int->Int->Int->Tp2->Option (Int×(List UInt8)×Int×Int×Int×Int×Tp2×Int×Int)) (zc5:∀ a0 a1 a2 a3 a4 a5 a6 a7,ChO (fun κ=>zaP κ a0 a1 a2 a3 a4 a5 a6 a7) (zbU a0 a1 a2 a3 a4 a5 a6 a7)) (y':Int) (y'_1:(List UInt8)) (y'_2:Int) (y'_3:Int) (y'_4:Int) (y'_5:Int) (y'_6:Tp2) (y'_7:Int) (y'_8:Int) (y'_10:Int):ChO (fun κ=>zbp (zaP κ) y' y'_1 y'_2 y'_3 y'_4 y'_5 y'_6 y'_7 y'_8 y'_10) (zbp zbU y' y'_1 y'_2 y'_3 y'_4 y'_5 y'_6 y'_7 y'_8 y'_10):=by
  unfold zbp
  repeat' with_reducible first | exact ChO.const _ | exact zc5 _ _ _ _ _ _ _ _ | (apply zaR<;>assumption) | (apply za5<;>assumption) | (apply zbR<;>assumption) | apply ChO.ite | apply ChO.G | apply ChO.both | (apply ChO.bind;intro _) | (refine ChO.bind2 ?_ (fun _ => ?_))
theorem zes (zab:Nat->(List UInt8)->Int->Int->Int->Int->Int->Int->Tp2->Option (Int×(List UInt8)×Int×Int×Int×Int×Tp2×Int×Int)) (zae:(List UInt8)->Int->Int->Int->Int->Int->Int->Tp2->Option (Int×(List UInt8)×Int×Int×Int×Int×Tp2×Int×Int)) (zag:∀ a0 a1 a2 a3 a4 a5 a6 a7,ChO (fun κ=>zab κ a0 a1 a2 a3 a4 a5 a6 a7) (zae a0 a1 a2 a3 a4 a5 a6 a7)) (zaP:Nat->(List UInt8)->Int->Int->Int->Int->Int->Int->Tp2->Option (Int×(List UInt8)×Int×Int×Int×Int×Tp2×Int×Int)) (zbU:(List UInt8)->Int->Int->Int->Int->Int->Int->Tp2->Option (Int×(List UInt8)×Int×Int×Int×Int×Tp2×Int×Int)) (zc5:∀ a0 a1 a2 a3 a4 a5 a6 a7,ChO (fun κ=>zaP κ a0 a1 a2 a3 a4 a5 a6 a7) (zbU a0 a1 a2 a3 a4 a5 a6 a7)) (c:(List UInt8)) (c_1:Int) (c_2:Int) (c_3:Int) (c_4:Int) (c_5:Int) (c_6:Int) (l:Tp2):ChO (fun κ=>zbz (zab κ) (zaP κ) c c_1 c_2 c_3 c_4 c_5 c_6 l) (zbz zae zbU c c_1 c_2 c_3 c_4 c_5 c_6 l):=by
  unfold zbz
  repeat' with_reducible first | exact ChO.const _ | exact zag _ _ _ _ _ _ _ _ | exact zc5 _ _ _ _ _ _ _ _ | (apply zaR<;>assumption) | (apply za5<;>assumption) | (apply zbR<;>assumption) | (apply zbH<;>assumption) | apply ChO.ite | apply ChO.G | apply ChO.both | (apply ChO.bind;intro _) | (apply ChO.bind2 (zag _ _ _ _ _ _ _ _);intro _) | (refine ChO.bind2 ?_ (fun _ => ?_))
theorem zdG (zab:(List UInt8)->Int->Int->Int->Int->Int->Int->Tp2->Option (Int×(List UInt8)×Int×Int×Int×Int×Tp2×Int×Int)):Cn (zc1 zab):=fun g h hg x=>zes (fun _=>zab) zab (fun _ _ _ _ _ _ _ _=>ChO.const _) (fun κ c c_1 c_2 c_3 c_4 c_5 c_6 l=>g κ (c,c_1,c_2,c_3,c_4,c_5,c_6,l)) (fun c c_1 c_2 c_3 c_4 c_5 c_6 l=>h (c,c_1,c_2,c_3,c_4,c_5,c_6,l)) (fun c c_1 c_2 c_3 c_4 c_5 c_6 l=>hg (c,c_1,c_2,c_3,c_4,c_5,c_6,l))  x.1 x.2.1 x.2.2.1 x.2.2.2.1 x.2.2.2.2.1 x.2.2.2.2.2.1 x.2.2.2.2.2.2.1 x.2.2.2.2.2.2.2
theorem zfF (zab:(List UInt8)->Int->Int->Int->Int->Int->Int->Tp2->Option (Int×(List UInt8)×Int×Int×Int×Int×Tp2×Int×Int))  (c:(List UInt8)) (c_1:Int) (c_2:Int) (c_3:Int) (c_4:Int) (c_5:Int) (c_6:Int) (l:Tp2):zbr zab c c_1 c_2 c_3 c_4 c_5 c_6 l=zbz zab (zbr zab) c c_1 c_2 c_3 c_4 c_5 c_6 l:=zb5 (zdG zab) (c,c_1,c_2,c_3,c_4,c_5,c_6,l)
theorem zcI (zab:Nat->(List UInt8)->Int->Int->Int->Int->Int->Int->Tp2->Option (Int×(List UInt8)×Int×Int×Int×Int×Tp2×Int×Int)) (zae:(List UInt8)->Int->Int->Int->Int->Int->Int->Tp2->Option (Int×(List UInt8)×Int×Int×Int×Int×Tp2×Int×Int)) (zag:∀ a0 a1 a2 a3 a4 a5 a6 a7,ChO (fun κ=>zab κ a0 a1 a2 a3 a4 a5 a6 a7) (zae a0 a1 a2 a3 a4 a5 a6 a7))  (c:(List UInt8)) (c_1:Int) (c_2:Int) (c_3:Int) (c_4:Int) (c_5:Int) (c_6:Int) (l:Tp2):ChO (fun κ=>zbr (zab κ) c c_1 c_2 c_3 c_4 c_5 c_6 l) (zbr zae c c_1 c_2 c_3 c_4 c_5 c_6 l):=by
  unfold zbr
  exact zek (fun κ=>(zdG (zab κ) ).mono) (zdG zae ).mono (fun g h hg x=>zes zab zae zag (fun κ c c_1 c_2 c_3 c_4 c_5 c_6 l=>g κ (c,c_1,c_2,c_3,c_4,c_5,c_6,l)) (fun c c_1 c_2 c_3 c_4 c_5 c_6 l=>h (c,c_1,c_2,c_3,c_4,c_5,c_6,l)) (fun c c_1 c_2 c_3 c_4 c_5 c_6 l=>hg (c,c_1,c_2,c_3,c_4,c_5,c_6,l))  x.1 x.2.1 x.2.2.1 x.2.2.2.1 x.2.2.2.2.1 x.2.2.2.2.2.1 x.2.2.2.2.2.2.1 x.2.2.2.2.2.2.2) _
theorem zdu (zab:Nat->(List UInt8)->Int->Int->Int->Int->Int->Int->Tp2->Option (Int×(List UInt8)×Int×Int×Int×Int×Tp2×Int×Int)) (zae:(List UInt8)->Int->Int->Int->Int->Int->Int->Tp2->Option (Int×(List UInt8)×Int×Int×Int×Int×Tp2×Int×Int)) (zag:∀ a0 a1 a2 a3 a4 a5 a6 a7,ChO (fun κ=>zab κ a0 a1 a2 a3 a4 a5 a6 a7) (zae a0 a1 a2 a3 a4 a5 a6 a7)) (r2:Nat->Int->(List UInt8)->Int->Int->Int->Int->Int->Int->Tp2->Option (Int×(List UInt8)×Int×Int×Int×Int×Tp2×Int×Int)) (r2':Int->(List UInt8)->Int->Int->Int->Int->Int->Int->Tp2->Option (Int×(List UInt8)×Int×Int×Int×Int×Tp2×Int×Int)) (h_r2:∀ a0 a1 a2 a3 a4 a5 a6 a7 a8,ChO (fun κ=>r2 κ a0 a1 a2 a3 a4 a5 a6 a7 a8) (r2' a0 a1 a2 a3 a4 a5 a6 a7 a8)) (a:Int) (r:(List UInt8)) (r_1:Int) (r_2:Int) (r_3:Int) (r_4:Int) (r_5:Int) (r_6:Int) (l_1:Tp2):ChO (fun κ=>za6 (zab κ) (r2 κ) a r r_1 r_2 r_3 r_4 r_5 r_6 l_1) (za6 zae r2' a r r_1 r_2 r_3 r_4 r_5 r_6 l_1):=by
  unfold za6
  repeat' with_reducible first | exact ChO.const _ | exact zag _ _ _ _ _ _ _ _ | exact h_r2 _ _ _ _ _ _ _ _ _ | (apply zaR<;>assumption) | (apply za5<;>assumption) | (apply zbR<;>assumption) | (apply zbH<;>assumption) | (apply zcI<;>assumption) | apply ChO.ite | apply ChO.G | apply ChO.both | (apply ChO.bind;intro _) | (apply ChO.bind2 (zag _ _ _ _ _ _ _ _);intro _) | (refine ChO.bind2 ?_ (fun _ => ?_))
theorem zcN (zab:(List UInt8)->Int->Int->Int->Int->Int->Int->Tp2->Option (Int×(List UInt8)×Int×Int×Int×Int×Tp2×Int×Int)):Cn (zet zab):=fun g h hg x=>zdu (fun _=>zab) zab (fun _ _ _ _ _ _ _ _=>ChO.const _) (fun κ a r r_1 r_2 r_3 r_4 r_5 r_6 l_1=>g κ (a,r,r_1,r_2,r_3,r_4,r_5,r_6,l_1)) (fun a r r_1 r_2 r_3 r_4 r_5 r_6 l_1=>h (a,r,r_1,r_2,r_3,r_4,r_5,r_6,l_1)) (fun a r r_1 r_2 r_3 r_4 r_5 r_6 l_1=>hg (a,r,r_1,r_2,r_3,r_4,r_5,r_6,l_1))  x.1 x.2.1 x.2.2.1 x.2.2.2.1 x.2.2.2.2.1 x.2.2.2.2.2.1 x.2.2.2.2.2.2.1 x.2.2.2.2.2.2.2.1 x.2.2.2.2.2.2.2.2
theorem zd4 (zab:(List UInt8)->Int->Int->Int->Int->Int->Int->Tp2->Option (Int×(List UInt8)×Int×Int×Int×Int×Tp2×Int×Int))  (a:Int) (r:(List UInt8)) (r_1:Int) (r_2:Int) (r_3:Int) (r_4:Int) (r_5:Int) (r_6:Int) (l_1:Tp2):za8 zab a r r_1 r_2 r_3 r_4 r_5 r_6 l_1=za6 zab (za8 zab) a r r_1 r_2 r_3 r_4 r_5 r_6 l_1:=zb5 (zcN zab) (a,r,r_1,r_2,r_3,r_4,r_5,r_6,l_1)
theorem zcM (zab:Nat->(List UInt8)->Int->Int->Int->Int->Int->Int->Tp2->Option (Int×(List UInt8)×Int×Int×Int×Int×Tp2×Int×Int)) (zae:(List UInt8)->Int->Int->Int->Int->Int->Int->Tp2->Option (Int×(List UInt8)×Int×Int×Int×Int×Tp2×Int×Int)) (zag:∀ a0 a1 a2 a3 a4 a5 a6 a7,ChO (fun κ=>zab κ a0 a1 a2 a3 a4 a5 a6 a7) (zae a0 a1 a2 a3 a4 a5 a6 a7))  (a:Int) (r:(List UInt8)) (r_1:Int) (r_2:Int) (r_3:Int) (r_4:Int) (r_5:Int) (r_6:Int) (l_1:Tp2):ChO (fun κ=>za8 (zab κ) a r r_1 r_2 r_3 r_4 r_5 r_6 l_1) (za8 zae a r r_1 r_2 r_3 r_4 r_5 r_6 l_1):=by
  unfold za8
  exact zek (fun κ=>(zcN (zab κ) ).mono) (zcN zae ).mono (fun g h hg x=>zdu zab zae zag (fun κ a r r_1 r_2 r_3 r_4 r_5 r_6 l_1=>g κ (a,r,r_1,r_2,r_3,r_4,r_5,r_6,l_1)) (fun a r r_1 r_2 r_3 r_4 r_5 r_6 l_1=>h (a,r,r_1,r_2,r_3,r_4,r_5,r_6,l_1)) (fun a r r_1 r_2 r_3 r_4 r_5 r_6 l_1=>hg (a,r,r_1,r_2,r_3,r_4,r_5,r_6,l_1))  x.1 x.2.1 x.2.2.1 x.2.2.2.1 x.2.2.2.2.1 x.2.2.2.2.2.1 x.2.2.2.2.2.2.1 x.2.2.2.2.2.2.2.1 x.2.2.2.2.2.2.2.2) _
theorem zfJ (zab:Nat->(List UInt8)->Int->Int->Int->Int->Int->Int->Tp2->Option (Int×(List UInt8)×Int×Int×Int×Int×Tp2×Int×Int)) (zae:(List UInt8)->Int->Int->Int->Int->Int->Int->Tp2->Option (Int×(List UInt8)×Int×Int×Int×Int×Tp2×Int×Int)) (zag:∀ a0 a1 a2 a3 a4 a5 a6 a7,ChO (fun κ=>zab κ a0 a1 a2 a3 a4 a5 a6 a7) (zae a0 a1 a2 a3 a4 a5 a6 a7)) (c:(List UInt8)) (c_1:Int) (c_2:Int) (c_3:Int) (c_4:Int) (c_5:Int) (c_6:Int) (l:Tp2):ChO (fun κ=>zbc (zab κ) c c_1 c_2 c_3 c_4 c_5 c_6 l) (zbc zae c c_1 c_2 c_3 c_4 c_5 c_6 l):=by
  unfold zbc
  repeat' with_reducible first | exact ChO.const _ | exact zag _ _ _ _ _ _ _ _ | (apply zaR<;>assumption) | (apply za5<;>assumption) | (apply zbR<;>assumption) | (apply zbH<;>assumption) | (apply zcI<;>assumption) | (apply zcM<;>assumption) | apply ChO.ite | apply ChO.G | apply ChO.both | (apply ChO.bind;intro _) | (apply ChO.bind2 (zag _ _ _ _ _ _ _ _);intro _) | (refine ChO.bind2 ?_ (fun _ => ?_))
theorem zcT (zab:Nat->(List UInt8)->Int->Int->Int->Int->Int->Int->Tp2->Option (Int×(List UInt8)×Int×Int×Int×Int×Tp2×Int×Int)) (zae:(List UInt8)->Int->Int->Int->Int->Int->Int->Tp2->Option (Int×(List UInt8)×Int×Int×Int×Int×Tp2×Int×Int)) (zag:∀ a0 a1 a2 a3 a4 a5 a6 a7,ChO (fun κ=>zab κ a0 a1 a2 a3 a4 a5 a6 a7) (zae a0 a1 a2 a3 a4 a5 a6 a7)) (r2:Nat->Int->(List UInt8)->Int->Int->Int->Int->Int->Int->Tp2->Option (Int×(List UInt8)×Int×Int×Int×Int×Tp2×Int×Int)) (r2':Int->(List UInt8)->Int->Int->Int->Int->Int->Int->Tp2->Option (Int×(List UInt8)×Int×Int×Int×Int×Tp2×Int×Int)) (h_r2:∀ a0 a1 a2 a3 a4 a5 a6 a7 a8,ChO (fun κ=>r2 κ a0 a1 a2 a3 a4 a5 a6 a7 a8) (r2' a0 a1 a2 a3 a4 a5 a6 a7 a8)) (a:Int) (r:(List UInt8)) (r_1:Int) (r_2:Int) (r_3:Int) (r_4:Int) (r_5:Int) (r_6:Int) (l_1:Tp2):ChO (fun κ=>zaS (zab κ) (r2 κ) a r r_1 r_2 r_3 r_4 r_5 r_6 l_1) (zaS zae r2' a r r_1 r_2 r_3 r_4 r_5 r_6 l_1):=by
  unfold zaS
  repeat' with_reducible first | exact ChO.const _ | exact zag _ _ _ _ _ _ _ _ | exact h_r2 _ _ _ _ _ _ _ _ _ | (apply zaR<;>assumption) | (apply za5<;>assumption) | (apply zbR<;>assumption) | (apply zbH<;>assumption) | (apply zcI<;>assumption) | (apply zcM<;>assumption) | (apply zfJ<;>assumption) | apply ChO.ite | apply ChO.G | apply ChO.both | (apply ChO.bind;intro _) | (apply ChO.bind2 (zag _ _ _ _ _ _ _ _);intro _) | (refine ChO.bind2 ?_ (fun _ => ?_))
theorem zcf (zab:(List UInt8)->Int->Int->Int->Int->Int->Int->Tp2->Option (Int×(List UInt8)×Int×Int×Int×Int×Tp2×Int×Int)):Cn (zdt zab):=fun g h hg x=>zcT (fun _=>zab) zab (fun _ _ _ _ _ _ _ _=>ChO.const _) (fun κ a r r_1 r_2 r_3 r_4 r_5 r_6 l_1=>g κ (a,r,r_1,r_2,r_3,r_4,r_5,r_6,l_1)) (fun a r r_1 r_2 r_3 r_4 r_5 r_6 l_1=>h (a,r,r_1,r_2,r_3,r_4,r_5,r_6,l_1)) (fun a r r_1 r_2 r_3 r_4 r_5 r_6 l_1=>hg (a,r,r_1,r_2,r_3,r_4,r_5,r_6,l_1))  x.1 x.2.1 x.2.2.1 x.2.2.2.1 x.2.2.2.2.1 x.2.2.2.2.2.1 x.2.2.2.2.2.2.1 x.2.2.2.2.2.2.2.1 x.2.2.2.2.2.2.2.2
theorem zdm (zab:(List UInt8)->Int->Int->Int->Int->Int->Int->Tp2->Option (Int×(List UInt8)×Int×Int×Int×Int×Tp2×Int×Int))  (a:Int) (r:(List UInt8)) (r_1:Int) (r_2:Int) (r_3:Int) (r_4:Int) (r_5:Int) (r_6:Int) (l_1:Tp2):zaQ zab a r r_1 r_2 r_3 r_4 r_5 r_6 l_1=zaS zab (zaQ zab) a r r_1 r_2 r_3 r_4 r_5 r_6 l_1:=zb5 (zcf zab) (a,r,r_1,r_2,r_3,r_4,r_5,r_6,l_1)
theorem zf5 (zab:Nat->(List UInt8)->Int->Int->Int->Int->Int->Int->Tp2->Option (Int×(List UInt8)×Int×Int×Int×Int×Tp2×Int×Int)) (zae:(List UInt8)->Int->Int->Int->Int->Int->Int->Tp2->Option (Int×(List UInt8)×Int×Int×Int×Int×Tp2×Int×Int)) (zag:∀ a0 a1 a2 a3 a4 a5 a6 a7,ChO (fun κ=>zab κ a0 a1 a2 a3 a4 a5 a6 a7) (zae a0 a1 a2 a3 a4 a5 a6 a7))  (a:Int) (r:(List UInt8)) (r_1:Int) (r_2:Int) (r_3:Int) (r_4:Int) (r_5:Int) (r_6:Int) (l_1:Tp2):ChO (fun κ=>zaQ (zab κ) a r r_1 r_2 r_3 r_4 r_5 r_6 l_1) (zaQ zae a r r_1 r_2 r_3 r_4 r_5 r_6 l_1):=by
  unfold zaQ
  exact zek (fun κ=>(zcf (zab κ) ).mono) (zcf zae ).mono (fun g h hg x=>zcT zab zae zag (fun κ a r r_1 r_2 r_3 r_4 r_5 r_6 l_1=>g κ (a,r,r_1,r_2,r_3,r_4,r_5,r_6,l_1)) (fun a r r_1 r_2 r_3 r_4 r_5 r_6 l_1=>h (a,r,r_1,r_2,r_3,r_4,r_5,r_6,l_1)) (fun a r r_1 r_2 r_3 r_4 r_5 r_6 l_1=>hg (a,r,r_1,r_2,r_3,r_4,r_5,r_6,l_1))  x.1 x.2.1 x.2.2.1 x.2.2.2.1 x.2.2.2.2.1 x.2.2.2.2.2.1 x.2.2.2.2.2.2.1 x.2.2.2.2.2.2.2.1 x.2.2.2.2.2.2.2.2) _
theorem zgq (zab:Nat->(List UInt8)->Int->Int->Int->Int->Int->Int->Tp2->Option (Int×(List UInt8)×Int×Int×Int×Int×Tp2×Int×Int)) (zae:(List UInt8)->Int->Int->Int->Int->Int->Int->Tp2->Option (Int×(List UInt8)×Int×Int×Int×Int×Tp2×Int×Int)) (zag:∀ a0 a1 a2 a3 a4 a5 a6 a7,ChO (fun κ=>zab κ a0 a1 a2 a3 a4 a5 a6 a7) (zae a0 a1 a2 a3 a4 a5 a6 a7)) (c:(List UInt8)) (c_1:Int) (c_2:Int) (c_3:Int) (c_4:Int) (c_5:Int) (c_6:Int) (l:Tp2):ChO (fun κ=>zbo (zab κ) c c_1 c_2 c_3 c_4 c_5 c_6 l) (zbo zae c c_1 c_2 c_3 c_4 c_5 c_6 l):=by
  unfold zbo
  repeat' with_reducible first | exact ChO.const _ | exact zag _ _ _ _ _ _ _ _ | (apply zaR<;>assumption) | (apply za5<;>assumption) | (apply zbR<;>assumption) | (apply zbH<;>assumption) | (apply zcI<;>assumption) | (apply zcM<;>assumption) | (apply zfJ<;>assumption) | (apply zf5<;>assumption) | apply ChO.ite | apply ChO.G | apply ChO.both | (apply ChO.bind;intro _) | (apply ChO.bind2 (zag _ _ _ _ _ _ _ _);intro _) | (refine ChO.bind2 ?_ (fun _ => ?_))
def zce:((List UInt8)×Int×Int×Int×Int×Int×Int×Tp2->Option (Int×(List UInt8)×Int×Int×Int×Int×Tp2×Int×Int))->(List UInt8)×Int×Int×Int×Int×Int×Int×Tp2->Option (Int×(List UInt8)×Int×Int×Int×Int×Tp2×Int×Int):=
  fun rec X=>zbo (fun c c_1 c_2 c_3 c_4 c_5 c_6 l=>rec (c,c_1,c_2,c_3,c_4,c_5,c_6,l)) X.1 X.2.1 X.2.2.1 X.2.2.2.1 X.2.2.2.2.1 X.2.2.2.2.2.1 X.2.2.2.2.2.2.1 X.2.2.2.2.2.2.2
def zak (c:(List UInt8)) (c_1:Int) (c_2:Int) (c_3:Int) (c_4:Int) (c_5:Int) (c_6:Int) (l:Tp2):Option (Int×(List UInt8)×Int×Int×Int×Int×Tp2×Int×Int):=LFix zce (c,c_1,c_2,c_3,c_4,c_5,c_6,l)
theorem zhj:Cn zce:=fun g h hg X=>zgq _ _ (fun c c_1 c_2 c_3 c_4 c_5 c_6 l=>hg (c,c_1,c_2,c_3,c_4,c_5,c_6,l)) X.1 X.2.1 X.2.2.1 X.2.2.2.1 X.2.2.2.2.1 X.2.2.2.2.2.1 X.2.2.2.2.2.2.1 X.2.2.2.2.2.2.2
theorem zhk (c:(List UInt8)) (c_1:Int) (c_2:Int) (c_3:Int) (c_4:Int) (c_5:Int) (c_6:Int) (l:Tp2):zak c c_1 c_2 c_3 c_4 c_5 c_6 l=zbo zak c c_1 c_2 c_3 c_4 c_5 c_6 l:=zb5 zhj (c,c_1,c_2,c_3,c_4,c_5,c_6,l)
def zis (text:(List UInt8)):Option (Int×(Int×Int×Unit)×Tp2):=
  if (decide ((4000:Int) < (text.length:Int)))=true then
  some ((0:Int),((1:Int),((0:Int),())),[]) else
  (zak text (0:Int) (0:Int) (0:Int) (0:Int) (0:Int) (0:Int) ([]:List Tp3)).bind (fun y'_20=>
  if (decide (y'_20.2.2.1 < (text.length:Int)))=true then
  (zbK (4:Int) y'_20.2.1 y'_20.2.2.1 y'_20.2.2.2.1 y'_20.2.2.2.2.1 y'_20.2.2.2.2.2.1 y'_20.2.2.2.2.2.2.2.1 y'_20.2.2.2.2.2.2.2.2 y'_20.2.2.2.2.2.2.1).bind (fun y'_19=>
  if (decide (¬ y'_19.2.2.2.2.2.2.1=(0:Int)))=true then
  some ((0:Int),(y'_19.2.2.2.2.2.2.1,(y'_19.2.2.2.2.2.2.2,())),[]) else
  some (y'_20.1,((0:Int),((0:Int),())),y'_19.2.2.2.2.2.1)) else
  if (decide (¬ y'_20.2.2.2.2.2.2.2.1=(0:Int)))=true then
  some ((0:Int),(y'_20.2.2.2.2.2.2.2.1,(y'_20.2.2.2.2.2.2.2.2,())),[]) else
  some (y'_20.1,((0:Int),((0:Int),())),y'_20.2.2.2.2.2.2.1))

def zc6 (letters:Int) (w:Tp6) (r6:Int->Option (Int)) (i:Int):Option (Int):=
  if (decide (i < (w.length:Int)))=true then
  G (0<=i/\i < (w.length:Int)) (
  if (decide ((ix w i) < (0:Int)))=true then
  some (2:Int) else
  G (0<=i/\i < (w.length:Int)) (
  if (decide (letters<=(ix w i)))=true then
  some (2:Int) else
  G (fits (i+(1:Int))) (
  r6 (i+(1:Int))))) else
  some (0:Int)
def zkT (letters:Int) (w:Tp6):(Int->Option (Int))->Int->Option (Int):=
  fun rec x=>zc6 letters w (fun i=>rec i) x
def zio (letters:Int) (w:Tp6) (i:Int):Option (Int):=LFix (zkT letters w ) i
def znw (letters:Int) (w:Tp6):Option (Int):=
  if (decide (letters < (1:Int)))=true then
  some (2:Int) else
  if (decide ((4:Int) < letters))=true then
  some (2:Int) else
  if (decide ((60:Int) < (w.length:Int)))=true then
  some (1:Int) else
  zio letters w (0:Int)
theorem zlj (r6:Nat->Int->Option (Int)) (r6':Int->Option (Int)) (h_r6:∀ a0,ChO (fun κ=>r6 κ a0) (r6' a0)) (letters:Int) (w:Tp6) (i:Int):ChO (fun κ=>zc6 letters w (r6 κ) i) (zc6 letters w r6' i):=by
  unfold zc6
  repeat' with_reducible first | exact ChO.const _ | exact h_r6 _ | apply ChO.ite | apply ChO.G | apply ChO.both | (apply ChO.bind;intro _)
theorem znx  (letters:Int) (w:Tp6):Cn (zkT letters w):=fun g h hg x=>zlj  (fun κ i=>g κ i) (fun i=>h i) (fun i=>hg i) letters w x
theorem zjr  (letters:Int) (w:Tp6) (i:Int):zio letters w i=zc6 letters w (zio letters w) i:=zb5 (znx letters w) i

def zin (letters:Int) (l:Tp1):Option (Int):=
  (znw letters l.1).bind (fun y'=>
  if (decide (¬ y'=(0:Int)))=true then
  some y' else
  (znw letters l.2.1).bind (fun y'_1=>
  if (decide (¬ y'_1=(0:Int)))=true then
  some y'_1 else
  if (decide ((l.2.1.length:Int)=(0:Int)))=true then
  some (1:Int) else
  some (0:Int)))

def zq2 (l:Tp1) (n:Int):Option (Int):=
  if (decide (n < (l.1.length:Int)))=true then
  G (0<=n/\n < (l.1.length:Int)) (
  some (ix l.1 n)) else
  G (fits (n - (l.1.length:Int))) (
  G ((l.2.1.length:Int)≠0) (
  G (0<=Int.tmod (n - (l.1.length:Int)) (l.2.1.length:Int)/\Int.tmod (n - (l.1.length:Int)) (l.2.1.length:Int) < (l.2.1.length:Int)) (
  some (ix l.2.1 (Int.tmod (n - (l.1.length:Int)) (l.2.1.length:Int))))))

def zef (w:Tp1) (i:Int):Option (Int):=
  G (fits (i+(1:Int))) (
  G (fits ((w.1.length:Int)+(w.2.1.length:Int))) (
  if (decide ((i+(1:Int))=((w.1.length:Int)+(w.2.1.length:Int))))=true then
  some (w.1.length:Int) else
  G (fits (i+(1:Int))) (
  some (i+(1:Int)))))

def zaO (l:Tp2) (is':Tp4) (k:Int) (w:Tp1) (r22:Int->Int->Option (Bool)) (i_1:Int) (j:Int):Option (Bool):=
  if (decide (j < ((w.1.length:Int)+(w.2.1.length:Int))))=true then
  if (decide (((ix l k).1)=(70:Int)))=true then
  G (0<=((ix l k).2).1/\((ix l k).2).1 < (is'.length:Int)) (
  G (0<=i_1/\i_1 < ((ix is' (((ix l k).2).1)).length:Int)) (
  if (ix (ix is' (((ix l k).2).1)) i_1)=true then
  some true else
  (zef (w.1,(w.2.1,())) i_1).bind (fun y'_2=>
  G (fits (j+(1:Int))) (
  r22 y'_2 (j+(1:Int)))))) else
  if (decide (((ix l k).1)=(71:Int)))=true then
  G (0<=((ix l k).2).1/\((ix l k).2).1 < (is'.length:Int)) (
  G (0<=i_1/\i_1 < ((ix is' (((ix l k).2).1)).length:Int)) (
  if (!(ix (ix is' (((ix l k).2).1)) i_1))=true then
  some false else
  (zef (w.1,(w.2.1,())) i_1).bind (fun y'_3=>
  G (fits (j+(1:Int))) (
  r22 y'_3 (j+(1:Int)))))) else
  if (decide (((ix l k).1)=(85:Int)))=true then
  G (0<=(((ix l k).2).2).1/\(((ix l k).2).2).1 < (is'.length:Int)) (
  G (0<=i_1/\i_1 < ((ix is' ((((ix l k).2).2).1)).length:Int)) (
  if (ix (ix is' ((((ix l k).2).2).1)) i_1)=true then
  some true else
  G (0<=((ix l k).2).1/\((ix l k).2).1 < (is'.length:Int)) (
  G (0<=i_1/\i_1 < ((ix is' (((ix l k).2).1)).length:Int)) (
  if (!(ix (ix is' (((ix l k).2).1)) i_1))=true then
  some false else
  (zef (w.1,(w.2.1,())) i_1).bind (fun y'_4=>
  G (fits (j+(1:Int))) (
  r22 y'_4 (j+(1:Int)))))))) else
  if (decide (((ix l k).1)=(82:Int)))=true then
  G (0<=(((ix l k).2).2).1/\(((ix l k).2).2).1 < (is'.length:Int)) (
  G (0<=i_1/\i_1 < ((ix is' ((((ix l k).2).2).1)).length:Int)) (
  if (!(ix (ix is' ((((ix l k).2).2).1)) i_1))=true then
  some false else
  G (0<=((ix l k).2).1/\((ix l k).2).1 < (is'.length:Int)) (
  G (0<=i_1/\i_1 < ((ix is' (((ix l k).2).1)).length:Int)) (
  if (ix (ix is' (((ix l k).2).1)) i_1)=true then
  some true else
  (zef (w.1,(w.2.1,())) i_1).bind (fun y'_5=>
  G (fits (j+(1:Int))) (
  r22 y'_5 (j+(1:Int)))))))) else
  (zef (w.1,(w.2.1,())) i_1).bind (fun y'_6=>
  G (fits (j+(1:Int))) (
  r22 y'_6 (j+(1:Int)))) else
  if (decide (((ix l k).1)=(71:Int)))=true then
  some true else
  some (decide (((ix l k).1)=(82:Int)))
def zhr (l:Tp2) (is':Tp4) (k:Int) (w:Tp1):(Int×Int->Option (Bool))->Int×Int->Option (Bool):=
  fun rec x=>zaO l is' k w (fun i_1 j=>rec (i_1,j)) x.1 x.2
def zcD (l:Tp2) (is':Tp4) (k:Int) (w:Tp1) (i_1:Int) (j:Int):Option (Bool):=LFix (zhr l is' k w ) (i_1,j)
def zit (l:Tp2) (is':Tp4) (k:Int) (i:Int) (w:Tp1):Option (Bool):=
  G (0<=k/\k < (l.length:Int)) (
  (zq2 (w.1,(w.2.1,())) i).bind (fun y'=>
  G (fits ((w.1.length:Int)+(w.2.1.length:Int))) (
  if (decide (((ix l k).1)=(49:Int)))=true then
  some true else
  if (decide (((ix l k).1)=(112:Int)))=true then
  if (decide (y'=(1:Int)))=true then
  some true else
  some (decide (y'=(3:Int))) else
  if (decide (((ix l k).1)=(113:Int)))=true then
  if (decide (y'=(2:Int)))=true then
  some true else
  some (decide (y'=(3:Int))) else
  if (decide (((ix l k).1)=(33:Int)))=true then
  G (0<=((ix l k).2).1/\((ix l k).2).1 < (is'.length:Int)) (
  G (0<=i/\i < ((ix is' (((ix l k).2).1)).length:Int)) (
  some (!(ix (ix is' (((ix l k).2).1)) i)))) else
  if (decide (((ix l k).1)=(38:Int)))=true then
  G (0<=((ix l k).2).1/\((ix l k).2).1 < (is'.length:Int)) (
  G (0<=i/\i < ((ix is' (((ix l k).2).1)).length:Int)) (
  if (ix (ix is' (((ix l k).2).1)) i)=true then
  G (0<=(((ix l k).2).2).1/\(((ix l k).2).2).1 < (is'.length:Int)) (
  G (0<=i/\i < ((ix is' ((((ix l k).2).2).1)).length:Int)) (
  some (ix (ix is' ((((ix l k).2).2).1)) i))) else
  some false)) else
  if (decide (((ix l k).1)=(124:Int)))=true then
  G (0<=((ix l k).2).1/\((ix l k).2).1 < (is'.length:Int)) (
  G (0<=i/\i < ((ix is' (((ix l k).2).1)).length:Int)) (
  if (ix (ix is' (((ix l k).2).1)) i)=true then
  some true else
  G (0<=(((ix l k).2).2).1/\(((ix l k).2).2).1 < (is'.length:Int)) (
  G (0<=i/\i < ((ix is' ((((ix l k).2).2).1)).length:Int)) (
  some (ix (ix is' ((((ix l k).2).2).1)) i))))) else
  if (decide (((ix l k).1)=(88:Int)))=true then
  G (0<=((ix l k).2).1/\((ix l k).2).1 < (is'.length:Int)) (
  (zef (w.1,(w.2.1,())) i).bind (fun y'_1=>
  G (0<=y'_1/\y'_1 < ((ix is' (((ix l k).2).1)).length:Int)) (
  some (ix (ix is' (((ix l k).2).1)) y'_1)))) else
  if (decide (((ix l k).1)=(48:Int)))=true then
  some false else
  zcD l is' k w i (0:Int))))
theorem ziZ (r22:Nat->Int->Int->Option (Bool)) (r22':Int->Int->Option (Bool)) (h_r22:∀ a0 a1,ChO (fun κ=>r22 κ a0 a1) (r22' a0 a1)) (l:Tp2) (is':Tp4) (k:Int) (w:Tp1) (i_1:Int) (j:Int):ChO (fun κ=>zaO l is' k w (r22 κ) i_1 j) (zaO l is' k w r22' i_1 j):=by
  unfold zaO
  repeat' with_reducible first | exact ChO.const _ | exact h_r22 _ _ | apply ChO.ite | apply ChO.G | apply ChO.both | (apply ChO.bind;intro _)
theorem zkY  (l:Tp2) (is':Tp4) (k:Int) (w:Tp1):Cn (zhr l is' k w):=fun g h hg x=>ziZ  (fun κ i_1 j=>g κ (i_1,j)) (fun i_1 j=>h (i_1,j)) (fun i_1 j=>hg (i_1,j)) l is' k w x.1 x.2
theorem zbt  (l:Tp2) (is':Tp4) (k:Int) (w:Tp1) (i_1:Int) (j:Int):zcD l is' k w i_1 j=zaO l is' k w (zcD l is' k w) i_1 j:=zb5 (zkY l is' k w) (i_1,j)

def zcd (l:Tp2) (w:Tp1) (k:Int) (is':Tp4) (r4:(Int->Tp4->Option (Bool))) (r8:Int->Tp5->Option (Bool)) (i:Int) (own:Tp5):Option (Bool):=
  if (decide (i < ((w.1.length:Int)+(w.2.1.length:Int))))=true then
  (zit l is' k i (w.1,(w.2.1,()))).bind (fun y'=>
  G (0<=i/\i < (own.length:Int)) (
  G ((i).toNat < own.length) (
  G (fits (i+(1:Int))) (
  r8 (i+(1:Int)) (own.set (i).toNat y'))))) else
  G (room is' ([own]) 24) (
  G (fits (k+(1:Int))) (
  r4 (k+(1:Int)) (is'++([own]))))
def zir (l:Tp2) (w:Tp1) (k:Int) (is':Tp4) (r4:(Int->Tp4->Option (Bool))):(Int×Tp5->Option (Bool))->Int×Tp5->Option (Bool):=
  fun rec x=>zcd l w k is' r4 (fun i own=>rec (i,own)) x.1 x.2
def zbZ (l:Tp2) (w:Tp1) (k:Int) (is':Tp4) (r4:(Int->Tp4->Option (Bool))) (i:Int) (own:Tp5):Option (Bool):=LFix (zir l w k is' r4 ) (i,own)
def zcc (l:Tp2) (root:Int) (w:Tp1) (r4:Int->Tp4->Option (Bool)) (k:Int) (is':Tp4):Option (Bool):=
  if (decide (k < (l.length:Int)))=true then
  G (mkOK ((w.1.length:Int)+(w.2.1.length:Int)) ((w.1.length:Int)+(w.2.1.length:Int)) 1) (
  zbZ l w k is' r4 (0:Int) (List.replicate ((w.1.length:Int)+(w.2.1.length:Int)).toNat (false:Bool))) else
  G (0<=root/\root < (is'.length:Int)) (
  G ((root).toNat < is'.length) (
  G (0<=(0:Int)/\(0:Int) < ((ix is' root).length:Int)) (
  some (ix (ix is' root) (0:Int)))))
def ziq (l:Tp2) (root:Int) (w:Tp1):(Int×Tp4->Option (Bool))->Int×Tp4->Option (Bool):=
  fun rec x=>zcc l root w (fun k is'=>rec (k,is')) x.1 x.2
def zcB (l:Tp2) (root:Int) (w:Tp1) (k:Int) (is':Tp4):Option (Bool):=LFix (ziq l root w ) (k,is')
def zkb (l:Tp2) (root:Int) (w:Tp1):Option (Bool):=
  G (fits ((w.1.length:Int)+(w.2.1.length:Int))) (
  zcB l root w (0:Int) ([]))
theorem zge (r4:Nat->Int->Tp4->Option (Bool)) (r4':Int->Tp4->Option (Bool)) (h_r4:∀ a0 a1,ChO (fun κ=>r4 κ a0 a1) (r4' a0 a1)) (r8:Nat->Int->Tp5->Option (Bool)) (r8':Int->Tp5->Option (Bool)) (h_r8:∀ a0 a1,ChO (fun κ=>r8 κ a0 a1) (r8' a0 a1)) (l:Tp2) (w:Tp1) (k:Int) (is':Tp4) (i:Int) (own:Tp5):ChO (fun κ=>zcd l w k is' (r4 κ) (r8 κ) i own) (zcd l w k is' r4' r8' i own):=by
  unfold zcd
  repeat' with_reducible first | exact ChO.const _ | exact h_r4 _ _ | exact h_r8 _ _ | apply ChO.ite | apply ChO.G | apply ChO.both | (apply ChO.bind;intro _)
theorem zfh (r4:Int->Tp4->Option (Bool)) (l:Tp2) (w:Tp1) (k:Int) (is':Tp4):Cn (zir l w k is' r4):=fun g h hg x=>zge (fun _=>r4) r4 (fun _ _=>ChO.const _) (fun κ i own=>g κ (i,own)) (fun i own=>h (i,own)) (fun i own=>hg (i,own)) l w k is' x.1 x.2
theorem zhq (r4:Int->Tp4->Option (Bool)) (l:Tp2) (w:Tp1) (k:Int) (is':Tp4) (i:Int) (own:Tp5):zbZ l w k is' r4 i own=zcd l w k is' r4 (zbZ l w k is' r4) i own:=zb5 (zfh r4 l w k is') (i,own)
theorem zlm (r4:Nat->Int->Tp4->Option (Bool)) (r4':Int->Tp4->Option (Bool)) (h_r4:∀ a0 a1,ChO (fun κ=>r4 κ a0 a1) (r4' a0 a1)) (l:Tp2) (w:Tp1) (k:Int) (is':Tp4) (i:Int) (own:Tp5):ChO (fun κ=>zbZ l w k is' (r4 κ) i own) (zbZ l w k is' r4' i own):=by
  unfold zbZ
  exact zek (fun κ=>(zfh (r4 κ) l w k is').mono) (zfh r4' l w k is').mono (fun g h hg x=>zge r4 r4' h_r4 (fun κ i own=>g κ (i,own)) (fun i own=>h (i,own)) (fun i own=>hg (i,own)) l w k is' x.1 x.2) _
theorem zjR (r4:Nat->Int->Tp4->Option (Bool)) (r4':Int->Tp4->Option (Bool)) (h_r4:∀ a0 a1,ChO (fun κ=>r4 κ a0 a1) (r4' a0 a1)) (l:Tp2) (root:Int) (w:Tp1) (k:Int) (is':Tp4):ChO (fun κ=>zcc l root w (r4 κ) k is') (zcc l root w r4' k is'):=by
  unfold zcc
  repeat' with_reducible first | exact ChO.const _ | exact h_r4 _ _ | (apply zlm<;>assumption) | apply ChO.ite | apply ChO.G | apply ChO.both | (apply ChO.bind;intro _)
theorem zll  (l:Tp2) (root:Int) (w:Tp1):Cn (ziq l root w):=fun g h hg x=>zjR  (fun κ k is'=>g κ (k,is')) (fun k is'=>h (k,is')) (fun k is'=>hg (k,is')) l root w x.1 x.2
theorem zhp  (l:Tp2) (root:Int) (w:Tp1) (k:Int) (is':Tp4):zcB l root w k is'=zcc l root w (zcB l root w) k is':=zb5 (zll l root w) (k,is')

def zf1 (text:(List UInt8)) (l:Tp1):Option (Bool):=
  (zi5 text (l.1,(l.2.1,()))).bind (fun y'_10=>
  (zis text).bind (fun y'_9=>
  if (decide (¬ y'_9.2.1.1=(0:Int)))=true then
  if (decide (y'_10.2=(4:Int)))=true then
  some (!y'_10.1) else
  some false else
  (zin (4:Int) (l.1,(l.2.1,()))).bind (fun y'_7=>
  if (decide (¬ y'_7=(0:Int)))=true then
  if (decide (y'_10.2=y'_7))=true then
  some (!y'_10.1) else
  some false else
  (zkb y'_9.2.2 y'_9.1 (l.1,(l.2.1,()))).bind (fun y'_8=>
  if (decide (y'_10.2=(0:Int)))=true then
  some (decide (y'_10.1=y'_8)) else
  some false))))

end
end Go.Proofs.Yteneganiigbikaa.timeHoldsW
