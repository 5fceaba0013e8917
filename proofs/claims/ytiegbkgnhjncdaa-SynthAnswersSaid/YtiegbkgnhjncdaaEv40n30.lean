import Derived.Test.YtiegbkgnhjncdaaEv40n19
import Derived.Tactics
import Derived.Tactics2
import Derived.Recover
set_option linter.unusedVariables false
set_option linter.unusedSimpArgs false
set_option linter.unusedSectionVars false
namespace Go.Ab
noncomputable section
set_option linter.unusedVariables false
section
variable {A B C:Type}
theorem zBI (o:Option (C⊕(Int×Int))) (k:C->Option B) (kp:Int×Int->Option B):pbind o k kp=o.bind fun
  | .inl y=>k y
  | .inr p=>kp p:=by
 unfold pbind;cases o with
 | none=>rfl
 | some z=>cases z<;>rfl
theorem ChO.pbind2 {o:Nat->Option (C⊕(Int×Int))} {o':Option (C⊕(Int×Int))} {x:C->Nat->Option B} {y:C->Option B} {a:Int×Int->Nat->Option B} {b:Int×Int->Option B}
  (d:ChO o o') (h:∀ c,ChO (x c) (y c)) (e:∀ p,ChO (a p) (b p)):ChO (fun n=>Go.Ab.pbind (o n) (fun c=>x c n) (fun p=>a p n)) (Go.Ab.pbind o' (fun c=>y c) (fun p=>b p)):=by
 simp only [zBI];refine ChO.bind2 (x:=fun z n=>match z with
  | .inl c=>x c n
  | .inr p=>a p n) d fun z => ?_
 cases z with
 | inl c=>exact h c
 | inr p=>exact e p
theorem ChO.pbind {o:Option (C⊕(Int×Int))} {x:C->Nat->Option B} {y:C->Option B} {a:Int×Int->Nat->Option B} {b:Int×Int->Option B}
  (h:∀ c,ChO (x c) (y c)) (d:∀ p,ChO (a p) (b p)):ChO (fun n=>Go.Ab.pbind o (fun c=>x c n) (fun p=>a p n)) (Go.Ab.pbind o (fun c=>y c) (fun p=>b p)):=
 ChO.pbind2 (ChO.const o) h d
theorem zEt (y:C) (k:C->Option B) (kp:Int×Int->Option B):Go.Ab.pbind (some (.inl y)) k kp=k y:=rfl
theorem zEu (p:Int×Int) (k:C->Option B) (kp:Int×Int->Option B):Go.Ab.pbind (some (.inr p)) k kp=kp p:=rfl
end
structure CatchOK (P:Program) (T g Ta Tb:Nat) (nilv:Value):Prop where
 call:∀ (as:Array Value) (w:World),(callFunc g as).run P w = .ok (.enter g as) w
 idle:∀ (va vb:Value) (w:World),CallsD P g #[va,vb] .returning w (fun e u w'=>(∃ v,e = .returned v)/\u = .returning/\w'=w)
 caught:∀ (p:Int×Int) (w:World) (ba bb:Nat) (ca cb:Array Value),ba≠bb->w.heap[ba]? =some (.cells ca Ta (0,0))->ca.size=1->w.heap[bb]? =some (.cells cb Tb (0,0))->cb.size=2->
  CallsD P g #[.pointer (some ⟨ba,0,none⟩),.pointer (some ⟨bb,0,none⟩)] (.panicking (pch T p)) w (fun e u w'=>(∃ v,e = .returned v)/\settle u = .returning/\
   (w'.os=w.os/\w'.tape=w.tape/\w'.output=w.output/\w.heap.size<=w'.heap.size)/\(∀ b,b < w.heap.size->b≠ba->b≠bb->w'.heap[b]? =w.heap[b]?)/\
   w'.heap[ba]? =some (.cells #[nilv] Ta (0,0))/\w'.heap[bb]? =some (.cells #[.int .i64 p.1,.int .i64 p.2] Tb (0,0)))
section
variable {P:Program} {F:Fr} {H:Hd} {a0:Act} {w:World}
end
end
end Go.Ab
