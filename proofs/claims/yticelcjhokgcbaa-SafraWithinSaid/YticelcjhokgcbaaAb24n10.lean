import Derived.Test.YticelcjhokgcbaaAb24n9
import Derived.OwnWalk
set_option linter.unusedVariables false
set_option linter.unusedSimpArgs false
set_option linter.unusedSectionVars false
namespace Go.Ab
open Enc (enc)
open Go.RowKit (Below)
theorem TI.of {P:Program} {t:TypeId} {dsc:Bool} {size bytes:Nat} {z:Value} {d:TypeDesc} (hu:P.underlying t=some d) (ha:dAgg d=dsc) (hi:(P.info? t).map (fun i=>(i.zero,i.size,i.bytes))=some (some z,size,bytes)):TI P t dsc size bytes z:=
 ⟨⟨d,hu,ha⟩,let ⟨i,h1,h2,h3,h4⟩:=info_parts hi;⟨i,h1,h3,h4,h2⟩⟩
section
variable {P:Program} {F:Fr} {ops:Array Oper} {σ:St} {K:St->Prop} {o:Oper} {rest:List (Nat×Oper)} {H:Hd} {a:Act} {w:World}
def Evs (σ:St):List Operand->List AV->Prop
 | [],xs=>xs=[]
 | o::r,x::xs=>σ.ev o=some x/\Evs σ r xs
 | _::_,[]=>False
theorem Evs.rel (r:RelH F σ H a w):∀ {l:List Operand} {xs:List AV},Evs σ l xs->l.length=xs.length/\∀ i,i < xs.length->VRel w (Sh F.X σ.ent H w) H (xs.getD i default) ((l.map a.eval).getD i undef)
 | [],xs,h=>by
  have:xs=[]:=h;subst this;exact ⟨rfl,by simp⟩
 | o::l,x::xs,h=>by
  obtain ⟨h3,h4⟩:=Evs.rel r h.2;refine ⟨by simp [h3],fun i hi => ?_⟩
  cases i with
  | zero=>exact r.ev h.1
  | succ i=>simpa using h4 i (by simpa using hi)
 | _::_,[],h=>h.elim
theorem RO.makeFunc {f:FuncId} {caps:Array Operand} {cs:List AV} (ho:o.op = .makeFunc (.func f) #[] caps) (hc:Evs σ caps.toList cs):RO P F σ o (.fn f cs):=fun H a w r=>by
 obtain ⟨h1,h2⟩:=hc.rel r;refine ⟨.func (.func f) #[] (caps.map a.eval),fun w' _=>by simp [execOp,ho,Instr.makeFunc],.fn f cs _ (by simpa using h1) fun i hi => ?_⟩
 have:=h2 i hi;have h3:(caps.map a.eval).getD i undef=(caps.toList.map a.eval).getD i undef:=by
  simp only [Array.getD_eq_getD_getElem?, List.getD_eq_getElem?_getD];rw [<- Array.toList_map,Array.getElem?_toList]
 rw [h3];exact this
theorem AO.caseb {l:List (Nat×Oper)} {b:Bool} (k:Nat) (hk:σ.get k=some (.d (.lit (.bool b)))) (h1:b=true->AO P F ops l (σ.set k (.d (.lit (.bool true)))) K) (h2:b=false->AO P F ops l (σ.set k (.d (.lit (.bool false)))) K):AO P F ops l σ K:=by
 cases b
 ·exact AO.weak (fun _ _ ⟨H,r⟩=>⟨H,r.setAV (r.slot k _ hk)⟩) (h2 rfl)
 ·exact AO.weak (fun _ _ ⟨H,r⟩=>⟨H,r.setAV (r.slot k _ hk)⟩) (h1 rfl)
theorem AO.say {l:List (Nat×Oper)} {x:AV} (k:Nat) (y:AV) (hk:σ.get k=some x) (hxy:x=y) (h:AO P F ops l (σ.set k y) K):AO P F ops l σ K:=
 AO.weak (fun _ _ ⟨H,r⟩=>⟨H,r.setAV (hxy ▸ r.slot k _ hk)⟩) h
theorem RO.field {s:TypeId} {x:Operand} {i off ft size:Nat} {l:List AV} {c:AV} (ho:o.op = .field s x i) (hf:FA P s i off ft size) (hx:σ.ev x=some (.agg l)) (hc:l[off]? =some c) {dsc:TypeDesc} (ht:P.underlying ft=some dsc) (hn:dAgg dsc=false):RO P F σ o c:=fun H a w r=>by
 have hv:=r.ev hx;have hi:off < l.length:=(List.getElem?_eq_some_iff.1 hc).1;obtain ⟨fs,hu,f,hfi,rfl,rfl⟩:=hf.un;generalize he:a.eval x=u at hv
 cases hv with
 | agg _ cs hs h=>
  have hg:cs[f.offset]? =some (cs.getD f.offset undef):=by simp [hs,hi]
  refine ⟨cs.getD f.offset undef,fun w' _ => ?_,?_⟩
  ·simp only [execOp,ho,he,Instr.field,Sem.run_bind,run_underlying hu,Result.andThen_ok,hfi,asAgg,Sem.run_pure,part,zhF ht,hn,hg];rfl
  ·have:=h f.offset hi;simpa [List.getD_eq_getElem?_getD,hc] using this
theorem RO.field_d {s:TypeId} {x:Operand} {i off ft size:Nat} {l:List D} {c:D} (ho:o.op = .field s x i) (hf:FA P s i off ft size) (hx:σ.ev x=some (.d (.agg l))) (hc:l[off]? =some c) {dsc:TypeDesc} (ht:P.underlying ft=some dsc) (hn:dAgg dsc=false):RO P F σ o (.d c):=fun H a w r=>by
 have hv:=r.ev hx;have hi:off < l.length:=(List.getElem?_eq_some_iff.1 hc).1;obtain ⟨fs,hu,f,hfi,rfl,rfl⟩:=hf.un;generalize he:a.eval x=u at hv
 cases hv with
 | d _ _ hd=>
  cases hd with
  | agg _ cs hs h=>
   have hg:cs[f.offset]? =some (cs.getD f.offset undef):=by simp [hs,hi]
   refine ⟨cs.getD f.offset undef,fun w' _ => ?_,?_⟩
   ·simp only [execOp,ho,he,Instr.field,Sem.run_bind,run_underlying hu,Result.andThen_ok,hfi,asAgg,Sem.run_pure,part,zhF ht,hn,hg];rfl
   ·have:=h f.offset hi;exact .d _ _ (by simpa [List.getD_eq_getElem?_getD,hc] using this)
end
end Go.Ab
