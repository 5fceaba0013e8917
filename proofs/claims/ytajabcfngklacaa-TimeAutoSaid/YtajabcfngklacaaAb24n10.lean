import Derived.Test.YtajabcfngklacaaAb24n9
import Derived.OwnWalk
set_option linter.unusedVariables false
set_option linter.unusedSimpArgs false
set_option linter.unusedSectionVars false
namespace Go.Ab
open Enc (enc)
open Go.RowKit (Below)
theorem TI.of {P:Program} {t:TypeId} {dsc:Bool} {size bytes:Nat} {z:Value} {d:TypeDesc} (a:P.underlying t=some d) (b:dAgg d=dsc) (c:(P.info? t).map (fun i=>(i.zero,i.size,i.bytes))=some (some z,size,bytes)):TI P t dsc size bytes z:=
 ⟨⟨d,a,b⟩,let ⟨i,h1,h2,h3,h4⟩:=info_parts c;⟨i,h1,h3,h4,h2⟩⟩
section
variable {P:Program} {F:Fr} {ops:Array Oper} {σ:St} {K:St->Prop} {o:Oper} {rest:List (Nat×Oper)} {H:Hd} {a:Act} {w:World}
def Evs (σ:St):List Operand->List AV->Prop
 | [],xs=>xs=[]
 | o::r,x::xs=>σ.ev o=some x/\Evs σ r xs
 | _::_,[]=>False
theorem Evs.rel (r:RelH F σ H a w):∀ {l:List Operand} {xs:List AV},Evs σ l xs->l.length=xs.length/\∀ i,i < xs.length->VRel w (Sh F.X σ.ent H w) H (xs.getD i default) ((l.map a.eval).getD i undef)
 | [],xs,h=>by
  have:xs=[]:=h;subst this;exact ⟨rfl,by simp⟩
 | o::l,x::xs,h=>by
  obtain ⟨c,d⟩:=Evs.rel r h.2;refine ⟨by simp [c],fun i b => ?_⟩;cases i with
  | zero=>exact r.ev h.1
  | succ i=>simpa using d i (by simpa using b)
 | _::_,[],h=>h.elim
theorem RO.makeFunc {f:FuncId} {b:Array Operand} {cs:List AV} (c:o.op = .makeFunc (.func f) #[] b) (d:Evs σ b.toList cs):RO P F σ o (.fn f cs):=fun H a w r=>by
 obtain ⟨h,j⟩:=d.rel r;refine ⟨.func (.func f) #[] (b.map a.eval),fun w' _=>by simp [execOp,c,Instr.makeFunc],.fn f cs _ (by simpa using h) fun i e => ?_⟩;have:=j i e;have g:(b.map a.eval).getD i undef=(b.toList.map a.eval).getD i undef:=by
  simp only [Array.getD_eq_getD_getElem?, List.getD_eq_getElem?_getD];rw [<- Array.toList_map,Array.getElem?_toList]
 rw [g];exact this
theorem AO.say {l:List (Nat×Oper)} {x:AV} (k:Nat) (y:AV) (b:σ.get k=some x) (a:x=y) (h:AO P F ops l (σ.set k y) K):AO P F ops l σ K:=
 AO.weak (fun _ _ ⟨H,r⟩=>⟨H,r.setAV (a ▸ r.slot k _ b)⟩) h
theorem RO.field {s:TypeId} {x:Operand} {i off d size:Nat} {l:List AV} {c:AV} (k:o.op = .field s x i) (m:FA P s i off d size) (n:σ.ev x=some (.agg l)) (e:l[off]? =some c) {dsc:TypeDesc} (p:P.underlying d=some dsc) (q:dAgg dsc=false):RO P F σ o c:=fun H a w r=>by
 have g:=r.ev n;have j:off < l.length:=(List.getElem?_eq_some_iff.1 e).1;obtain ⟨z,y,f,b,rfl,rfl⟩:=m.un;generalize v:a.eval x=u at g;cases g with
 | agg _ cs hs h=>
  have t:cs[f.offset]? =some (cs.getD f.offset undef):=by simp [hs,j]
  refine ⟨cs.getD f.offset undef,fun w' _ => ?_,?_⟩
  ·simp only [execOp,k,v,Instr.field,Sem.run_bind,run_underlying y,Result.andThen_ok,b,asAgg,Sem.run_pure,part,zk9 p,q,t];rfl
  ·have:=h f.offset j;simpa [List.getD_eq_getElem?_getD,e] using this
theorem RO.field_d {s:TypeId} {x:Operand} {i off e size:Nat} {l:List D} {c:D} (m:o.op = .field s x i) (n:FA P s i off e size) (p:σ.ev x=some (.d (.agg l))) (g:l[off]? =some c) {dsc:TypeDesc} (q:P.underlying e=some dsc) (t:dAgg dsc=false):RO P F σ o (.d c):=fun H a w r=>by
 have j:=r.ev p;have k:off < l.length:=(List.getElem?_eq_some_iff.1 g).1;obtain ⟨B,z,f,b,rfl,rfl⟩:=n.un;generalize y:a.eval x=u at j;cases j with
 | d _ _ A=>
  cases A with
  | agg _ cs hs h=>
   have v:cs[f.offset]? =some (cs.getD f.offset undef):=by simp [hs,k]
   refine ⟨cs.getD f.offset undef,fun w' _ => ?_,?_⟩
   ·simp only [execOp,m,y,Instr.field,Sem.run_bind,run_underlying z,Result.andThen_ok,b,asAgg,Sem.run_pure,part,zk9 q,t,v];rfl
   ·have:=h f.offset k;exact .d _ _ (by simpa [List.getD_eq_getElem?_getD,g] using this)
end
end Go.Ab
