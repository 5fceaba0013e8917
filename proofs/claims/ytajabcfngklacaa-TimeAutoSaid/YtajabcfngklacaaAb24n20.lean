import Derived.Test.YtajabcfngklacaaAb24n19
import Derived.Maps.Keyed
import Derived.Laws.BytesArg
set_option linter.unusedVariables false
set_option linter.unusedSimpArgs false
set_option linter.unusedSectionVars false
set_option linter.unusedVariables false
set_option linter.unusedSimpArgs false
set_option linter.unusedSectionVars false
namespace Go.Ab
open Enc (enc)
open Classical in
noncomputable def zE6 {α:Type}:List α->α->Option Nat
 | [],_=>none
 | y::ys,x=>if y=x then some 0 else (zE6 ys x).map (·+1)
abbrev Ent.mapOf (T:TypeId) {α β:Type} [Enc α] [Enc β] (ks:List α) (vs:List β):Ent := .box T [.d (enc ks),.d (enc vs)]
structure SK0 (P:Program) (kt:TypeId) (kd:TypeDesc) (α:Type) [Enc α]:Prop where
 ud:P.underlying kt=some kd
 one:∀ (w:World) (S:Nat->Prop) (x:α) (u:Value),DRel w S (enc x) u->u.oneCell'=true
 same:∀ (w:World) (S:Nat->Prop) (x y:α) (u v:Value),DRel w S (enc x) u->DRel w S (enc y) v->Instr.sameNow kd u v=some (@decide (y=x) (Classical.propDecidable _))
 eq:∀ (w:World) (S:Nat->Prop) (x:α) (u v:Value),DRel w S (enc x) u->DRel w S (enc x) v->u=v
 key:∀ (w:World) (S:Nat->Prop) (x:α) (u:Value),DRel w S (enc x) u->MapKept.IsKey kd u
theorem zAw (a b:ByteArray):(a==b)=true↔a=b:=by
 cases a with | mk a=>cases b with | mk b=>
 show (a==b)=true↔_;rw [beq_iff_eq];exact ⟨fun e=>by rw [e],fun e=>by injection e⟩
section
variable {P:Program} {F:Fr} {σ:St} {o:Oper} {a:Act} {w:World} {H:Hd}
theorem zEW {w:World} {r:Nat} {b:Array MapEntry} {a:Nat} (c:w.heap[r]? =some (.map b a)):(getObj r).run P w = .ok (.map b a) w:=by
 simp [getObj,Sem.run,c]
structure SK (P:Program) (kt:TypeId) (α:Type) [Enc α]:Prop where
 eq:∀ (w:World) (S:Nat->Prop) (x:α) (u v:Value),DRel w S (enc x) u->DRel w S (enc x) v->u=v
 check:∀ {w:World} {S:Nat->Prop} {x:α} {u:Value},DRel w S (enc x) u->∀ (em:Bool) (w':World),(Instr.checkKey em 10000 kt u).run P w' = .ok () w'
 stays:∀ (w:World) (S:Nat->Prop) (x:α) (u:Value),DRel w S (enc x) u->∀ w':World,(Instr.keyThatStays u u).run P w' = .ok u w'
 find:∀ {w:World} {S:Nat->Prop} {x:α} {u:Value},DRel w S (enc x) u->∀ {es:Array MapEntry} {ks:List α},es.size=ks.length->(∀ i,i < es.size->DRel w S ((ks.map enc).getD i default) (es.getD i default).key)->∀ w':World,
  (Instr.findKey kt u es.toList).run P w' = .ok ((zE6 ks x).map fun j=>(j,(es.getD j default).val)) w'
theorem AL.makeMap {T:TypeId} {d:Nat} {α β:Type} [Enc α] [Enc β] (id:Nat) (f:σ.nxt=id) (l:Nat.blt id LIM=true) (m:o.dst=some d) (g:Nat.blt d σ.n=true) (n:o.op = .makeMap T none):
  AL P F σ o (·=(σ.new (Ent.mapOf T ([]:List α) ([]:List β))).set d (.own id)):=by
 subst f;intro a w ⟨H,r⟩;have j:=Ext.alloc w (.map #[] 0);have p:=r.renew (old:=none) (e:=Ent.mapOf T ([]:List α) ([]:List β)) (v := .map (some w.heap.size)) (w':=w.alloc (.map #[] 0)) (by simpa using l) rfl rfl rfl j.size (fun b h _=>j.block b h) (by simp) (fun b h => .inl (by simp [blk] at h;omega))
  (.mp T _ _ [] [] w.heap.size #[] 0 (heap_alloc_new w _) rfl rfl (fun i c=>by simp at c) (fun i c=>by simp at c) ⟨rfl,fun i c=>by simp at c⟩)
 have k:=p.set (d:=d) (show d < σ.n by simpa using g) (.own σ.nxt _ (Hd.add_new _ _ _) (.inr ⟨_,rfl⟩));rw [<- m] at k;exact AL.value (by simp [execOp,n,show (Instr.makeMap T none).run P w = .ok (.map (some w.heap.size)) (w.alloc (.map #[] 0)) from rfl]) j ⟨_,rfl,_,k⟩
theorem RelH.mapAt (r:RelH F σ H a w) {x:Operand} {id:Nat} {T:TypeId} {α β:Type} [Enc α] [Enc β] {ks:List α} {vs:List β} (l:σ.ev x=some (.own id)) (m:σ.ent id=some (Ent.mapOf T ks vs)):
  ∃ (b:Nat) (d:Array MapEntry) (c:Nat),a.eval x = .map (some b)/\H id=some (.map (some b))/\w.heap[b]? =some (.map d c)/\d.size=ks.length/\d.size=vs.length/\
   (∀ i,i < d.size->DRel w (Sh F.X σ.ent H w) ((ks.map enc).getD i default) (d.getD i default).key)/\(∀ i,i < d.size->DRel w (Sh F.X σ.ent H w) ((vs.map enc).getD i default) (d.getD i default).val)/\
   (c=d.size/\∀ i,i < d.size->(d.getD i default).born=i):=by
 have f:=r.ev l;obtain ⟨v,j,k⟩:=r.ent id _ m;generalize a.eval x=u at f;cases f with
 | own _ _ h hs=>
  rw [j] at h;cases h;generalize g:Ent.mapOf T ks vs=e at k;cases k with
  | arr=>cases g
  | out=>cases g
  | box T cells b n=>rcases hs with ⟨_,_,_,h⟩ | ⟨_,h⟩<;>cases h
  | mp T A B o p b d c q s t y f z=>
   cases g;exact ⟨b,d,c,rfl,j,q,by simpa using s,by simpa using t,y,f,z⟩
theorem RO.len_map {x:Operand} {t g h:TypeId} {id:Nat} {T:TypeId} {α β:Type} [Enc α] [Enc β] {ks:List α} {vs:List β} (e:o.op = .call { callee := .builtin .len,args:=#[x],argTypes:=#[t] }) (i:P.underlying t=some (.map g h))
  (j:σ.ev x=some (.own id)) (k:σ.ent id=some (Ent.mapOf T ks vs)):RO P F σ o (.d (.lit (.int .i64 ks.length))):=fun H a w r=>by
 obtain ⟨b,m,d,n,_,f,p,_⟩:=r.mapAt j k;refine ⟨.int .i64 ks.length,fun w' c => ?_,.int _ _ _ _ _⟩;have c:Ext w w':=by
  rcases c with c | c
  ·simp [zmx,e] at c
  ·exact c
 have l:w'.heap[b]? =some (.map m d):=by rw [c.block b (Array.getElem?_eq_some_iff.1 f).1];exact f
 simp [execOp,e,resolve,invoke,builtin,Builtin.len_,run_underlying i,n,zEW l,goInt,p]
theorem RO.conv_bytes {t u e:TypeId} {x:Operand} {id E:Nat} {α:Type} [Enc α] {l:List α} (f:α->Int) (M:∀ y:α,enc y = .lit (.int .u8 (f y))) (c:Enc.sz α=1) (p:o.op = .convert t u x) (A:P.underlying t=some (.slice e)) (B:P.underlying e=some (.int .u8)) (C:P.underlying u=some .string)
  (N:σ.ev x=some (.own id)) (O:σ.ent id=some (Ent.arrOf E l)):RO P F σ o (.d (.lit (.string (strOfNums (l.map f))))):=fun H a w r=>by
 have J:=r.ev N;obtain ⟨v,U,V⟩:=r.ent id _ O;have k:a.eval x=v:=by
  generalize a.eval x=q at J;cases J with
  | own _ _ h _=>rw [U] at h;cases h;rfl
 refine ⟨.string (strOfNums (l.map f)),fun w' d => ?_,.d _ _ (.lit _ rfl)⟩;have d:Ext w w':=by
  rcases d with d | d
  ·simp [zmx,p] at d
  ·exact d
 cases V with
 | arr _ _ _ _ _ xs L b X Y n=>
  have Q:xs.length=l.length:=by have:=b.1;simpa [c] using this
  rcases b.form with ⟨rfl,W⟩ | ⟨g,off,cap,rfl⟩
  ·have:l=[]:=by simpa using W
   subst this;simp [execOp,p,k,run_convert_bytes_nil w' t e A B 0 0 u C];rfl
  ·have j:∀ i,i < (l.map (enc:α->D)).length->w'.cell? ⟨g,off+i,none⟩=some (.int .u8 ((l.map f).getD i 0)):=fun i I=>by
    have m:i < l.length:=by simpa using I
    have s:=n i I 0 (by rw [c];omega);have R:((l.map (enc:α->D)).getD i default).cells.getD 0 default = .lit (.int .u8 (f l[i])):=by
     simp [List.getD_eq_getElem?_getD,m,M,D.cells]
    rw [R,c,Nat.mul_one,Nat.add_zero] at s;have S:xs.getD i undef = .int .u8 (f l[i]):=by
     generalize xs.getD i undef=q at s;cases s;rfl
    have z:i < xs.length:=by omega
    have T:xs[i]? =some (xs.getD i undef):=by simp [List.getD_eq_getElem?_getD,z]
    have:=zm8 d (b.cell i _ T);rw [this,S];simp [List.getD_eq_getElem?_getD,m]
   have:=run_convert_bytes_arg w' t e A B g off (l.map (enc:α->D)).length cap (l.map f) (by simp) j u C;simp [execOp,p,k] at this ⊢;simp [this]
end
end Go.Ab
