import Derived.Test.YtiiljakjbifdjaaAb24n19
import Derived.Maps.Keyed
import Derived.Laws.BytesArg
set_option linter.unusedVariables false
set_option linter.unusedSimpArgs false
set_option linter.unusedSectionVars false
set_option linter.unusedVariables false
set_option linter.unusedSimpArgs false
set_option linter.unusedSectionVars false
namespace Go.Ab
open Enc (enc)
open Classical in
noncomputable def zxC {α:Type}:List α->α->Option Nat
 | [],_=>none
 | y::ys,x=>if y=x then some 0 else (zxC ys x).map (·+1)
abbrev Ent.mapOf (T:TypeId) {α β:Type} [Enc α] [Enc β] (ks:List α) (vs:List β):Ent := .box T [.d (enc ks),.d (enc vs)]
structure SK0 (P:Program) (kt:TypeId) (kd:TypeDesc) (α:Type) [Enc α]:Prop where
 ud:P.underlying kt=some kd
 one:∀ (w:World) (S:Nat->Prop) (x:α) (u:Value),DRel w S (enc x) u->u.oneCell'=true
 same:∀ (w:World) (S:Nat->Prop) (x y:α) (u v:Value),DRel w S (enc x) u->DRel w S (enc y) v->Instr.sameNow kd u v=some (@decide (y=x) (Classical.propDecidable _))
 eq:∀ (w:World) (S:Nat->Prop) (x:α) (u v:Value),DRel w S (enc x) u->DRel w S (enc x) v->u=v
 key:∀ (w:World) (S:Nat->Prop) (x:α) (u:Value),DRel w S (enc x) u->MapKept.IsKey kd u
theorem zty (a b:ByteArray):(a==b)=true↔a=b:=by
 cases a with | mk a=>cases b with | mk b=>
 show (a==b)=true↔_;rw [beq_iff_eq];exact ⟨fun e=>by rw [e],fun e=>by injection e⟩
section
variable {P:Program} {F:Fr} {σ:St} {o:Oper} {a:Act} {w:World} {H:Hd}
theorem zxw {w:World} {r:Nat} {es:Array MapEntry} {clock:Nat} (hb:w.heap[r]? =some (.map es clock)):(getObj r).run P w = .ok (.map es clock) w:=by
 simp [getObj,Sem.run,hb]
structure SK (P:Program) (kt:TypeId) (α:Type) [Enc α]:Prop where
 eq:∀ (w:World) (S:Nat->Prop) (x:α) (u v:Value),DRel w S (enc x) u->DRel w S (enc x) v->u=v
 check:∀ {w:World} {S:Nat->Prop} {x:α} {u:Value},DRel w S (enc x) u->∀ (em:Bool) (w':World),(Instr.checkKey em 10000 kt u).run P w' = .ok () w'
 stays:∀ (w:World) (S:Nat->Prop) (x:α) (u:Value),DRel w S (enc x) u->∀ w':World,(Instr.keyThatStays u u).run P w' = .ok u w'
 find:∀ {w:World} {S:Nat->Prop} {x:α} {u:Value},DRel w S (enc x) u->∀ {es:Array MapEntry} {ks:List α},es.size=ks.length->(∀ i,i < es.size->DRel w S ((ks.map enc).getD i default) (es.getD i default).key)->∀ w':World,
  (Instr.findKey kt u es.toList).run P w' = .ok ((zxC ks x).map fun j=>(j,(es.getD j default).val)) w'
theorem AL.makeMap {T:TypeId} {d:Nat} {α β:Type} [Enc α] [Enc β] (id:Nat) (hid:σ.nxt=id) (hl:Nat.blt id LIM=true) (hd:o.dst=some d) (hlt:Nat.blt d σ.n=true) (ho:o.op = .makeMap T none):
  AL P F σ o (·=(σ.new (Ent.mapOf T ([]:List α) ([]:List β))).set d (.own id)):=by
 subst hid;intro a w ⟨H,r⟩;have he:=Ext.alloc w (.map #[] 0);have r':=r.renew (old:=none) (e:=Ent.mapOf T ([]:List α) ([]:List β)) (v := .map (some w.heap.size)) (w':=w.alloc (.map #[] 0)) (by simpa using hl) rfl rfl rfl he.size (fun b hb _=>he.block b hb) (by simp) (fun b hb => .inl (by simp [blk] at hb;omega))
  (.mp T _ _ [] [] w.heap.size #[] 0 (heap_alloc_new w _) rfl rfl (fun i hi=>by simp at hi) (fun i hi=>by simp at hi) ⟨rfl,fun i hi=>by simp at hi⟩)
 have r2:=r'.set (d:=d) (show d < σ.n by simpa using hlt) (.own σ.nxt _ (Hd.add_new _ _ _) (.inr ⟨_,rfl⟩))
 rw [<- hd] at r2;exact AL.value (by simp [execOp,ho,show (Instr.makeMap T none).run P w = .ok (.map (some w.heap.size)) (w.alloc (.map #[] 0)) from rfl]) he ⟨_,rfl,_,r2⟩
theorem RelH.mapAt (r:RelH F σ H a w) {x:Operand} {id:Nat} {T:TypeId} {α β:Type} [Enc α] [Enc β] {ks:List α} {vs:List β} (hx:σ.ev x=some (.own id)) (he:σ.ent id=some (Ent.mapOf T ks vs)):
  ∃ (b:Nat) (es:Array MapEntry) (clock:Nat),a.eval x = .map (some b)/\H id=some (.map (some b))/\w.heap[b]? =some (.map es clock)/\es.size=ks.length/\es.size=vs.length/\
   (∀ i,i < es.size->DRel w (Sh F.X σ.ent H w) ((ks.map enc).getD i default) (es.getD i default).key)/\(∀ i,i < es.size->DRel w (Sh F.X σ.ent H w) ((vs.map enc).getD i default) (es.getD i default).val)/\
   (clock=es.size/\∀ i,i < es.size->(es.getD i default).born=i):=by
 have hv:=r.ev hx;obtain ⟨v,hH,hr⟩:=r.ent id _ he;generalize a.eval x=u at hv
 cases hv with
 | own _ _ h hs=>
  rw [hH] at h;cases h;generalize hE:Ent.mapOf T ks vs=e at hr
  cases hr with
  | arr=>cases hE
  | out=>cases hE
  | box T cells b cur=>rcases hs with ⟨_,_,_,h⟩ | ⟨_,h⟩<;>cases h
  | mp T kb vb ks' vs' b es clock hb h1 h2 hk hv hc=>
   cases hE;exact ⟨b,es,clock,rfl,hH,hb,by simpa using h1,by simpa using h2,hk,hv,hc⟩
theorem RO.len_map {x:Operand} {t kt et:TypeId} {id:Nat} {T:TypeId} {α β:Type} [Enc α] [Enc β] {ks:List α} {vs:List β} (ho:o.op = .call { callee := .builtin .len,args:=#[x],argTypes:=#[t] }) (ht:P.underlying t=some (.map kt et))
  (hx:σ.ev x=some (.own id)) (he:σ.ent id=some (Ent.mapOf T ks vs)):RO P F σ o (.d (.lit (.int .i64 ks.length))):=fun H a w r=>by
 obtain ⟨b,es,clock,h1,_,h2,h3,_⟩:=r.mapAt hx he;refine ⟨.int .i64 ks.length,fun w' hw => ?_,.int _ _ _ _ _⟩
 have hw:Ext w w':=by
  rcases hw with hw | hw
  ·simp [zgR,ho] at hw
  ·exact hw
 have hb:w'.heap[b]? =some (.map es clock):=by rw [hw.block b (Array.getElem?_eq_some_iff.1 h2).1];exact h2
 simp [execOp,ho,resolve,invoke,builtin,Builtin.len_,run_underlying ht,h1,zxw hb,goInt,h3]
theorem RO.conv_bytes {t u e:TypeId} {x:Operand} {id E:Nat} {α:Type} [Enc α] {l:List α} (f:α->Int) (hf:∀ y:α,enc y = .lit (.int .u8 (f y))) (hsz:Enc.sz α=1) (ho:o.op = .convert t u x) (ht:P.underlying t=some (.slice e)) (he:P.underlying e=some (.int .u8)) (hu:P.underlying u=some .string)
  (hx:σ.ev x=some (.own id)) (hm:σ.ent id=some (Ent.arrOf E l)):RO P F σ o (.d (.lit (.string (strOfNums (l.map f))))):=fun H a w r=>by
 have hv:=r.ev hx;obtain ⟨v,hH,hr⟩:=r.ent id _ hm;have hav:a.eval x=v:=by
  generalize a.eval x=q at hv
  cases hv with
  | own _ _ h _=>rw [hH] at h;cases h;rfl
 refine ⟨.string (strOfNums (l.map f)),fun w' hw => ?_,.d _ _ (.lit _ rfl)⟩
 have hw:Ext w w':=by
  rcases hw with hw | hw
  ·simp [zgR,ho] at hw
  ·exact hw
 cases hr with
 | arr _ _ _ _ _ xs hpos hown hbt hcs hrel=>
  have hxl:xs.length=l.length:=by have:=hown.1;simpa [hsz] using this
  rcases hown.form with ⟨rfl,h0⟩ | ⟨g,off,cap,rfl⟩
  ·have:l=[]:=by simpa using h0
   subst this;simp [execOp,ho,hav,run_convert_bytes_nil w' t e ht he 0 0 u hu];rfl
  ·have hcell:∀ i,i < (l.map (enc:α->D)).length->w'.cell? ⟨g,off+i,none⟩=some (.int .u8 ((l.map f).getD i 0)):=fun i hi=>by
    have hi':i < l.length:=by simpa using hi
    have h1:=hrel i hi 0 (by rw [hsz];omega)
    have e1:((l.map (enc:α->D)).getD i default).cells.getD 0 default = .lit (.int .u8 (f l[i])):=by
     simp [List.getD_eq_getElem?_getD,hi',hf,D.cells]
    rw [e1,hsz,Nat.mul_one,Nat.add_zero] at h1;have e2:xs.getD i undef = .int .u8 (f l[i]):=by
     generalize xs.getD i undef=q at h1
     cases h1;rfl
    have hix:i < xs.length:=by omega
    have e3:xs[i]? =some (xs.getD i undef):=by simp [List.getD_eq_getElem?_getD,hix]
    have:=zge hw (hown.cell i _ e3);rw [this,e2];simp [List.getD_eq_getElem?_getD,hi']
   have:=run_convert_bytes_arg w' t e ht he g off (l.map (enc:α->D)).length cap (l.map f) (by simp) hcell u hu
   simp [execOp,ho,hav] at this ⊢;simp [this]
end
end Go.Ab
