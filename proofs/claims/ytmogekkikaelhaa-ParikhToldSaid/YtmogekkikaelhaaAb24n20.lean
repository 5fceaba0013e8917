import Derived.Test.YtmogekkikaelhaaAb24n19
import Derived.Maps.Keyed
import Derived.Laws.BytesArg
set_option linter.unusedVariables false
set_option linter.unusedSimpArgs false
set_option linter.unusedSectionVars false
set_option linter.unusedVariables false
set_option linter.unusedSimpArgs false
set_option linter.unusedSectionVars false
namespace Go.Ab
open Enc (enc)
open Classical in
noncomputable def zbd {α:Type}:List α->α->Option Nat
 | [],_=>none
 | y::ys,x=>if y=x then some 0 else (zbd ys x).map (·+1)
noncomputable def mget {α β:Type} (ks:List α) (vs:List β) (x:α) (z:β):β:=match zbd ks x with
 | some j=>vs.getD j z
 | none=>z
noncomputable def mhas {α:Type} (ks:List α) (x:α):Bool:=(zbd ks x).isSome
noncomputable def zcj {α:Type} (ks:List α) (x:α):List α:=match zbd ks x with
 | some _=>ks
 | none=>ks++[x]
noncomputable def zlN {α β:Type} (ks:List α) (vs:List β) (x:α) (y:β):List β:=match zbd ks x with
 | some j=>vs.set j y
 | none=>vs++[y]
noncomputable def zeq {α β:Type} (ks:List α) (vs:List β) (x:α) (z:β):List β:=match zbd ks x with
 | some _=>vs
 | none=>vs++[z]
noncomputable def mpos {α:Type} (ks:List α) (x:α):Int:=match zbd ks x with
 | some j=>(j:Int)
 | none=>(ks.length:Int)
theorem zdW {α:Type}:∀ {ks:List α} {x:α} {j:Nat},zbd ks x=some j->j < ks.length
 | [],_,_,h=>by cases h
 | y::ys,x,j,h=>by
  unfold zbd at h;split at h
  ·cases h;simp
  ·cases hm:zbd ys x with
   | none=>rw [hm] at h;cases h
   | some i=>rw [hm] at h;cases h;have:=zdW hm;simp;omega
theorem zfn {α:Type}:∀ {ks:List α} {x:α} {j:Nat},zbd ks x=some j->ks[j]? =some x
 | [],_,_,h=>by cases h
 | y::ys,x,j,h=>by
  unfold zbd at h;split at h
  ·rename_i e;cases h;simp [e]
  ·cases hm:zbd ys x with
   | none=>rw [hm] at h;cases h
   | some i=>rw [hm] at h;cases h;simpa using zfn hm
abbrev Ent.mapOf (T:TypeId) {α β:Type} [Enc α] [Enc β] (ks:List α) (vs:List β):Ent := .box T [.d (enc ks),.d (enc vs)]
structure SK0 (P:Program) (kt:TypeId) (kd:TypeDesc) (α:Type) [Enc α]:Prop where
 ud:P.underlying kt=some kd
 one:∀ (w:World) (S:Nat->Prop) (x:α) (u:Value),DRel w S (enc x) u->u.oneCell'=true
 same:∀ (w:World) (S:Nat->Prop) (x y:α) (u v:Value),DRel w S (enc x) u->DRel w S (enc y) v->Instr.sameNow kd u v=some (@decide (y=x) (Classical.propDecidable _))
 eq:∀ (w:World) (S:Nat->Prop) (x:α) (u v:Value),DRel w S (enc x) u->DRel w S (enc x) v->u=v
 key:∀ (w:World) (S:Nat->Prop) (x:α) (u:Value),DRel w S (enc x) u->MapKept.IsKey kd u
theorem SK0.int {P:Program} {kt:TypeId} {q:IntKind} (h:P.underlying kt=some (.int q)) {α:Type} [Enc α] (f:α->Int) (hf:∀ x y,f x=f y->x=y) (he:∀ x:α,enc x = .lit (.int q (f x))):SK0 P kt (.int q) α where
 ud:=h
 one w S x u hd:=by rw [he] at hd;cases hd;rfl
 same w S x y u v h1 h2:=by
  rw [he] at h1 h2;cases h1;cases h2;simp only [Instr.sameNow,if_true];congr 1;rw [Bool.eq_iff_iff,beq_iff_eq,@decide_eq_true_iff _ (Classical.propDecidable _)];exact ⟨fun e=>(hf _ _ e).symm,fun e=>by rw [e]⟩
 eq w S x u v h1 h2:=by rw [he] at h1 h2;cases h1;cases h2;rfl
 key w S x u h1:=by rw [he] at h1;cases h1;exact rfl
theorem SK0.check {P:Program} {kt:TypeId} {kd:TypeDesc} {α:Type} [Enc α] (K:SK0 P kt kd α) {w:World} {S:Nat->Prop} {x:α} {u:Value} (h:DRel w S (enc x) u) (em:Bool) (w':World):(Instr.checkKey em 10000 kt u).run P w' = .ok () w':=
 MapKept.run_checkKey K.ud (K.key w S x u h) em 9999
theorem zkO (a b:ByteArray):(a==b)=true↔a=b:=by
 cases a with | mk a=>cases b with | mk b=>
 show (a==b)=true↔_;rw [beq_iff_eq];exact ⟨fun e=>by rw [e],fun e=>by injection e⟩
theorem SK0.str {P:Program} {kt:TypeId} (h:P.underlying kt=some .string) {α:Type} [Enc α] (f:α->ByteArray) (hf:∀ x y,f x=f y->x=y) (he:∀ x:α,enc x = .lit (.string (f x))):SK0 P kt .string α where
 ud:=h
 one w S x u hd:=by rw [he] at hd;cases hd;rfl
 same w S x y u v h1 h2:=by
  rw [he] at h1 h2;cases h1;cases h2;simp only [Instr.sameNow];congr 1;rw [Bool.eq_iff_iff,zkO,@decide_eq_true_iff _ (Classical.propDecidable _)];exact ⟨fun e=>(hf _ _ e).symm,fun e=>by rw [e]⟩
 eq w S x u v h1 h2:=by rw [he] at h1 h2;cases h1;cases h2;rfl
 key w S x u h1:=by rw [he] at h1;cases h1;trivial
section
variable {P:Program} {F:Fr} {σ:St} {o:Oper} {a:Act} {w:World} {H:Hd}
theorem zjP {w:World} {r:Nat} {es:Array MapEntry} {clock:Nat} (hb:w.heap[r]? =some (.map es clock)):(getObj r).run P w = .ok (.map es clock) w:=by
 simp [getObj,Sem.run,hb]
theorem zjN {kd:TypeDesc} {α:Type} [Enc α] {S:Nat->Prop} {x:α} {u:Value} (hs:∀ (y:α) (v:Value),DRel w S (enc y) v->Instr.sameNow kd u v=some (@decide (y=x) (Classical.propDecidable _))):
  ∀ (es:List MapEntry) (ks:List α) (i:Nat),es.length=ks.length->(∀ j,j < es.length->DRel w S ((ks.map enc).getD j default) (es.getD j default).key)->
  Instr.findNow kd u es i=some ((zbd ks x).map fun j=>(i+j,(es.getD j default).val))
 | [],[],i,_,_=>rfl
 | e::es,k::ks,i,hl,hk=>by
  have h0:=hs k e.key (by simpa using hk 0 (by simp));have ih:=zjN hs es ks (i+1) (by simpa using hl) (fun j h=>by simpa using hk (j+1) (by simpa using h));unfold Instr.findNow zbd;rw [h0];by_cases c:k=x
  ·rw [if_pos c];simp [c]
  ·rw [if_neg c];simp only [c,decide_false];rw [ih];cases zbd ks x with
   | none=>rfl
   | some j=>simp only [Option.map_some];congr 2;rw [Prod.mk.injEq];exact ⟨by omega,by simp⟩
theorem zru {kt:TypeId} {kd:TypeDesc} {α:Type} [Enc α] (K:SK0 P kt kd α) {S:Nat->Prop} {x:α} {u:Value} (hu:DRel w S (enc x) u) {es:Array MapEntry} {ks:List α} (h1:es.size=ks.length)
  (hk:∀ i,i < es.size->DRel w S ((ks.map enc).getD i default) (es.getD i default).key) (w':World):
  (Instr.findKey kt u es.toList).run P w' = .ok ((zbd ks x).map fun j=>(j,(es.getD j default).val)) w':=by
 unfold Instr.findKey;simp only [Sem.run_bind,run_underlying K.ud,Result.andThen_ok];rw [zjN (x:=x) (fun y v hv=>K.same w S x y u v hu hv) es.toList ks 0 (by simpa using h1) (fun j hj=>by
  have:=hk j (by simpa using hj);simpa [List.getD_eq_getElem?_getD,Array.getD_eq_getD_getElem?] using this)]
 simp [Array.getD_eq_getD_getElem?, List.getD_eq_getElem?_getD]
structure SK (P:Program) (kt:TypeId) (α:Type) [Enc α]:Prop where
 eq:∀ (w:World) (S:Nat->Prop) (x:α) (u v:Value),DRel w S (enc x) u->DRel w S (enc x) v->u=v
 check:∀ {w:World} {S:Nat->Prop} {x:α} {u:Value},DRel w S (enc x) u->∀ (em:Bool) (w':World),(Instr.checkKey em 10000 kt u).run P w' = .ok () w'
 stays:∀ (w:World) (S:Nat->Prop) (x:α) (u:Value),DRel w S (enc x) u->∀ w':World,(Instr.keyThatStays u u).run P w' = .ok u w'
 find:∀ {w:World} {S:Nat->Prop} {x:α} {u:Value},DRel w S (enc x) u->∀ {es:Array MapEntry} {ks:List α},es.size=ks.length->(∀ i,i < es.size->DRel w S ((ks.map enc).getD i default) (es.getD i default).key)->∀ w':World,
  (Instr.findKey kt u es.toList).run P w' = .ok ((zbd ks x).map fun j=>(j,(es.getD j default).val)) w'
theorem SK.of0 {P:Program} {kt:TypeId} {kd:TypeDesc} {α:Type} [Enc α] (K:SK0 P kt kd α):SK P kt α:=
 ⟨K.eq,fun h em w'=>K.check h em w',fun w S x u h w'=>MapKept.run_keyThatStays (K.key w S x u h),fun hu _ _ h1 hk w'=>zru K hu h1 hk w'⟩
theorem AL.makeMap {T:TypeId} {d:Nat} {α β:Type} [Enc α] [Enc β] (id:Nat) (hid:σ.nxt=id) (hl:Nat.blt id LIM=true) (hd:o.dst=some d) (hlt:Nat.blt d σ.n=true) (ho:o.op = .makeMap T none):
  AL P F σ o (·=(σ.new (Ent.mapOf T ([]:List α) ([]:List β))).set d (.own id)):=by
 subst hid;intro a w ⟨H,r⟩;have he:=Ext.alloc w (.map #[] 0);have r':=r.renew (old:=none) (e:=Ent.mapOf T ([]:List α) ([]:List β)) (v := .map (some w.heap.size)) (w':=w.alloc (.map #[] 0)) (by simpa using hl) rfl rfl rfl he.size (fun b hb _=>he.block b hb) (by simp) (fun b hb => .inl (by simp [blk] at hb;omega))
  (.mp T _ _ [] [] w.heap.size #[] 0 (heap_alloc_new w _) rfl rfl (fun i hi=>by simp at hi) (fun i hi=>by simp at hi) ⟨rfl,fun i hi=>by simp at hi⟩)
 have r2:=r'.set (d:=d) (show d < σ.n by simpa using hlt) (.own σ.nxt _ (Hd.add_new _ _ _) (.inr ⟨_,rfl⟩));rw [<- hd] at r2;exact AL.value (by simp [execOp,ho,show (Instr.makeMap T none).run P w = .ok (.map (some w.heap.size)) (w.alloc (.map #[] 0)) from rfl]) he ⟨_,rfl,_,r2⟩
theorem RelH.mapAt (r:RelH F σ H a w) {x:Operand} {id:Nat} {T:TypeId} {α β:Type} [Enc α] [Enc β] {ks:List α} {vs:List β} (hx:σ.ev x=some (.own id)) (he:σ.ent id=some (Ent.mapOf T ks vs)):
  ∃ (b:Nat) (es:Array MapEntry) (clock:Nat),a.eval x = .map (some b)/\H id=some (.map (some b))/\w.heap[b]? =some (.map es clock)/\es.size=ks.length/\es.size=vs.length/\
   (∀ i,i < es.size->DRel w (Sh F.X σ.ent H w) ((ks.map enc).getD i default) (es.getD i default).key)/\(∀ i,i < es.size->DRel w (Sh F.X σ.ent H w) ((vs.map enc).getD i default) (es.getD i default).val)/\
   (clock=es.size/\∀ i,i < es.size->(es.getD i default).born=i):=by
 have hv:=r.ev hx;obtain ⟨v,hH,hr⟩:=r.ent id _ he;generalize a.eval x=u at hv;cases hv with
 | own _ _ h hs=>
  rw [hH] at h;cases h;generalize hE:Ent.mapOf T ks vs=e at hr;cases hr with
  | arr=>cases hE
  | out=>cases hE
  | box T cells b cur=>rcases hs with ⟨_,_,_,h⟩ | ⟨_,h⟩<;>cases h
  | mp T kb vb ks' vs' b es clock hb h1 h2 hk hv hc=>
   cases hE;exact ⟨b,es,clock,rfl,hH,hb,by simpa using h1,by simpa using h2,hk,hv,hc⟩
theorem RO.len_map {x:Operand} {t kt et:TypeId} {id:Nat} {T:TypeId} {α β:Type} [Enc α] [Enc β] {ks:List α} {vs:List β} (ho:o.op = .call { callee := .builtin .len,args:=#[x],argTypes:=#[t] }) (ht:P.underlying t=some (.map kt et))
  (hx:σ.ev x=some (.own id)) (he:σ.ent id=some (Ent.mapOf T ks vs)):RO P F σ o (.d (.lit (.int .i64 ks.length))):=fun H a w r=>by
 obtain ⟨b,es,clock,h1,_,h2,h3,_⟩:=r.mapAt hx he;refine ⟨.int .i64 ks.length,fun w' hw => ?_,.int _ _ _ _ _⟩;have hw:Ext w w':=by
  rcases hw with hw | hw
  ·simp [zdF,ho] at hw
  ·exact hw
 have hb:w'.heap[b]? =some (.map es clock):=by rw [hw.block b (Array.getElem?_eq_some_iff.1 h2).1];exact h2
 simp [execOp,ho,resolve,invoke,builtin,Builtin.len_,run_underlying ht,h1,zjP hb,goInt,h3]
theorem RO.lookup {x y:Operand} {t kt et:TypeId} {id:Nat} {T:TypeId} {α β:Type} [Enc α] [Enc β] {ks:List α} {vs:List β} {k:α} {dsc:Bool} {size bytes:Nat} {z:Value} {z0:β} (cm:Bool)
  (ho:o.op = .lookup t x y cm) (ht:P.underlying t=some (.map kt et)) (K:SK P kt α) (he:TI P et dsc size bytes z) (hz:∀ w S,DRel w S (enc z0) z)
  (hx:σ.ev x=some (.own id)) (hm:σ.ent id=some (Ent.mapOf T ks vs)) (hk:σ.ev y=some (.d (enc k))):
  RO P F σ o (if cm=true then .tup [.d (enc (mget ks vs k z0)),.d (.lit (.bool (mhas ks k)))] else .d (enc (mget ks vs k z0))):=fun H a w r=>by
 obtain ⟨b,es,clock,h1,_,h2,h3,h4,h5,h6,_⟩:=r.mapAt hx hm;have hkv:=r.ev hk;obtain ⟨u,hu,hkd⟩:∃ u,a.eval y=u/\DRel w (Sh F.X σ.ent H w) (enc k) u:=⟨_,rfl,by generalize a.eval y=u at hkv;cases hkv with | d _ _ h=>exact h⟩;have key:∃ v:Value,DRel w (Sh F.X σ.ent H w) (enc (mget ks vs k z0)) v/\∀ w',Ext w w'->(Instr.lookup t (.map (some b)) u cm).run P w' = .ok (if cm=true then .tuple #[v,.bool (mhas ks k)] else v) w':=by
  cases hf:zbd ks k with
  | none=>
   have e1:mget ks vs k z0=z0:=by unfold mget;rw [hf]
   have e2:mhas ks k=false:=by unfold mhas;rw [hf];rfl
   refine ⟨z,by rw [e1];exact hz _ _,fun w' hw => ?_⟩;have hb:w'.heap[b]? =some (.map es clock):=by rw [hw.block b (Array.getElem?_eq_some_iff.1 h2).1];exact h2
   have hfind:=K.find hkd h3 h5 w';rw [hf] at hfind;simp only [Instr.lookup,Sem.run_bind,run_underlying ht,Result.andThen_ok,zjP hb,Sem.run_pure,K.check hkd,hfind,Option.map_none,he.zero,e2]
  | some j=>
   have hj:=zdW hf;have e1:(vs.map enc).getD j default=enc (mget ks vs k z0):=by
    unfold mget;rw [hf];have:j < vs.length:=by omega
    simp [List.getD_eq_getElem?_getD,this]
   have e2:mhas ks k=true:=by unfold mhas;rw [hf];rfl
   refine ⟨(es.getD j default).val,by rw [<- e1];exact h6 j (by omega),fun w' hw => ?_⟩;have hb:w'.heap[b]? =some (.map es clock):=by rw [hw.block b (Array.getElem?_eq_some_iff.1 h2).1];exact h2
   have hfind:=K.find hkd h3 h5 w';rw [hf] at hfind;simp only [Instr.lookup,Sem.run_bind,run_underlying ht,Result.andThen_ok,zjP hb,Sem.run_pure,K.check hkd,hfind,Option.map_some,e2]
 obtain ⟨v,hv,hrun⟩:=key;refine ⟨if cm=true then .tuple #[v,.bool (mhas ks k)] else v,fun w' hw => ?_,?_⟩
 ·have hw:Ext w w':=by
   rcases hw with hw | hw
   ·simp [zdF,ho] at hw
   ·exact hw
  simp [execOp,ho,h1,hu,hrun w' hw]
 ·cases cm with
  | false=>exact .d _ _ hv
  | true=>
   refine .tup _ _ rfl fun i hi => ?_
   match i,hi with
   | 0,_=>exact .d _ _ hv
   | 1,_=>exact .d _ _ (.lit _ rfl)
theorem znt {es:Array MapEntry} {clock:Nat} {u q:Value} (h7:clock=es.size) (h8:∀ i,i < es.size->(es.getD i default).born=i):∀ i,i < (es.push { key:=u,val:=q,born:=clock }).size->((es.push { key:=u,val:=q,born:=clock }).getD i default).born=i:=by
 intro i hi;simp only [Array.size_push] at hi;by_cases c1:i=es.size
 ·subst c1;rw [show (es.push { key:=u,val:=q,born:=clock }).getD es.size default={ key:=u,val:=q,born:=clock } by simp [Array.getD_eq_getD_getElem?]];exact h7
 ·have:=h8 i (by omega);have hi2:i < es.size:=by omega
  simpa [Array.getD_eq_getD_getElem?, Array.getElem?_push,c1,hi2] using this
theorem zh0 {es:Array MapEntry} {j:Nat} {f:MapEntry->MapEntry} (hf:∀ e,(f e).born=e.born) (h8:∀ i,i < es.size->(es.getD i default).born=i):∀ i,i < (es.modify j f).size->((es.modify j f).getD i default).born=i:=by
 intro i hi;simp only [Array.size_modify] at hi;have:=h8 i hi;by_cases c1:j=i
 ·subst c1;rw [show (es.modify j f).getD j default=f (es.getD j default) by simp [Array.getD_eq_getD_getElem?, Array.getElem_modify,hi],hf];exact this
 ·simpa [Array.getD_eq_getD_getElem?, Array.getElem?_modify,c1] using this
theorem EF.mapUpdate {x y v:Operand} {t kt et:TypeId} {id:Nat} {T:TypeId} {α β:Type} [Enc α] [Enc β] {ks:List α} {vs:List β} {k:α} {c:β} (hd:o.dst=none)
  (ho:o.op = .mapUpdate t x y v\/o.op = .insert t x y v) (ht:P.underlying t=some (.map kt et)) (K:SK P kt α)
  (hx:σ.ev x=some (.own id)) (hm:σ.ent id=some (Ent.mapOf T ks vs)) (hk:σ.ev y=some (.d (enc k))) (hv:σ.ev v=some (.d (enc c))):
  EF P F σ o (·=σ.put id (some (Ent.mapOf T (zcj ks k) (zlN ks vs k c)))):=by
 intro a w ⟨H,r⟩;obtain ⟨b,es,clock,h1,hH,h2,h3,h4,h5,h6,h7,h8⟩:=r.mapAt hx hm;have hkv:=r.ev hk;obtain ⟨u,hu,hkd⟩:∃ u,a.eval y=u/\DRel w (Sh F.X σ.ent H w) (enc k) u:=⟨_,rfl,by generalize a.eval y=u at hkv;cases hkv with | d _ _ h=>exact h⟩;have hvv:=r.ev hv;obtain ⟨q,hq,hqd⟩:∃ u,a.eval v=u/\DRel w (Sh F.X σ.ent H w) (enc c) u:=⟨_,rfl,by generalize a.eval v=u at hvv;cases hvv with | d _ _ h=>exact h⟩;have hfind:=K.find hkd h3 h5 w;have hlt:b < w.heap.size:=(Array.getElem?_eq_some_iff.1 h2).1;have hne:∀ b',Sh F.X σ.ent H w b'->b'≠b:=fun b' hb e=>hb.2.2 id _ _ hm hH (by rw [e];rfl)
 have fin:∀ (es':Array MapEntry) (clock':Nat) (ks':List α) (vs':List β),(Instr.mapUpdate t (.map (some b)) u q).run P w = .ok () { w with heap:=w.heap.setIfInBounds b (.map es' clock') }->es'.size=ks'.length->es'.size=vs'.length->
   (∀ i,i < es'.size->DRel w (Sh F.X σ.ent H w) ((ks'.map enc).getD i default) (es'.getD i default).key)->(∀ i,i < es'.size->DRel w (Sh F.X σ.ent H w) ((vs'.map enc).getD i default) (es'.getD i default).val)->(clock'=es'.size/\∀ i,i < es'.size->(es'.getD i default).born=i)->
   o.wp P a w (fun a' w'=>(∃ u,a'=a.put o.dst u)/\∃ σ',σ'=σ.put id (some (Ent.mapOf T ks' vs'))/\Rel F σ' a' w') (fun _ _ _=>False):=by
  intro es' clock' ks' vs' hrun g1 g2 g3 g4 g5;have hset:=MapKept.heap_set (o' := .map es' clock') h2;have hg:w.grownBy { w with heap:=w.heap.setIfInBounds b (.map es' clock') } (some b):={ os:=rfl,tape:=rfl,output:=rfl,size:=by simp,block:=fun b' hb hne=>hset.2 b' (fun e=>hne (by rw [e])) };have hmono:∀ {d:D} {v:Value},DRel w (Sh F.X σ.ent H w) d v->DRel { w with heap:=w.heap.setIfInBounds b (.map es' clock') } (Sh F.X σ.ent H w) d v:=fun h=>h.mono fun b' hb=>⟨hb,hset.2 b' (hne b' hb)⟩
  have r':=r.upd hm hH (b:=b) rfl hg (e':=Ent.mapOf T ks' vs') (.mp T _ _ _ _ b es' clock' hset.1 (by simpa using g1) (by simpa using g2) (fun i hi=>hmono (g3 i hi)) (fun i hi=>hmono (g4 i hi)) g5);refine EF.void (post:=(·=σ.put id (some (Ent.mapOf T ks' vs')))) (w':={ w with heap:=w.heap.setIfInBounds b (.map es' clock') }) (by rcases ho with ho | ho<;>simp [execOp,ho,h1,hu,hq,hrun]) ⟨_,rfl,H,?_⟩;rw [hd];exact r'
 cases hf:zbd ks k with
 | none=>
  have e1:zcj ks k=ks++[k]:=by unfold zcj;rw [hf]
  have e2:zlN ks vs k c=vs++[c]:=by unfold zlN;rw [hf]
  rw [e1,e2];rw [hf] at hfind;refine fin (es.push { key:=u,val:=q,born:=clock }) (clock+1) _ _ ?_ (by simp [h3]) (by simp [h4]) (fun i hi => ?_) (fun i hi => ?_) ⟨by simp [h7],znt h7 h8⟩
  ·simp only [Instr.mapUpdate,Sem.run_bind,run_underlying ht,Result.andThen_ok,zjP h2,K.check hkd,hfind,Option.map_none,MapKept.run_setObj_map _ h2]
  ·simp only [Array.size_push] at hi;by_cases c1:i=es.size
   ·subst c1;rw [show (es.push { key:=u,val:=q,born:=clock }).getD es.size default={ key:=u,val:=q,born:=clock } by simp [Array.getD_eq_getD_getElem?]];simpa [h3] using hkd
   ·have:=h5 i (by omega);have hi':i < ks.length:=by omega
    have hi2:i < es.size:=by omega
    simpa [Array.getElem?_push,c1,List.getElem?_append,hi',hi2] using this
  ·simp only [Array.size_push] at hi;by_cases c1:i=es.size
   ·subst c1;rw [show (es.push { key:=u,val:=q,born:=clock }).getD es.size default={ key:=u,val:=q,born:=clock } by simp [Array.getD_eq_getD_getElem?]];simpa [h4] using hqd
   ·have:=h6 i (by omega);have hi':i < vs.length:=by omega
    have hi2:i < es.size:=by omega
    simpa [Array.getElem?_push,c1,List.getElem?_append,hi',hi2] using this
 | some j=>
  have hj:=zdW hf;have hjk:=zfn hf;have e1:zcj ks k=ks:=by unfold zcj;rw [hf]
  have e2:zlN ks vs k c=vs.set j c:=by unfold zlN;rw [hf]
  rw [e1,e2];rw [hf] at hfind;have hje:j < es.size:=by omega
  have hold:(es.getD j default).key=u:=by
   refine K.eq w _ k _ _ ?_ hkd;have:=h5 j hje
   rwa [show (ks.map enc).getD j default=enc k by simp [List.getD_eq_getElem?_getD,hjk]] at this
  refine fin (es.modify j fun e=>{ e with key:=u,val:=q }) clock _ _ ?_ (by simp [h3]) (by simp [h4]) (fun i hi => ?_) (fun i hi => ?_) ⟨by simp [h7],zh0 (fun _=>rfl) h8⟩
  ·have hst:(Instr.keyThatStays u u).run P w = .ok u w:=K.stays w _ k u hkd w;have hg:((es[j]?).map (·.key)).getD u=u:=by
    rw [<- hold];simp [Array.getD_eq_getD_getElem?, hje]
   simp only [Instr.mapUpdate,Sem.run_bind,run_underlying ht,Result.andThen_ok,zjP h2,K.check hkd,hfind,Option.map_some,hg,hst,MapKept.run_setObj_map _ h2]
  ·simp only [Array.size_modify] at hi;have:=h5 i hi;by_cases c1:j=i
   ·subst c1;rw [hold] at this;rw [show (es.modify j fun e=>{ e with key:=u,val:=q }).getD j default={ (es.getD j default) with key:=u,val:=q } by simp [Array.getD_eq_getD_getElem?, Array.getElem_modify,hi]];exact this
   ·simpa [Array.getD_eq_getD_getElem?, Array.getElem?_modify,c1] using this
  ·simp only [Array.size_modify] at hi;have:=h6 i hi;by_cases c1:j=i
   ·subst c1;have hjv:j < vs.length:=by omega
    rw [show (es.modify j fun e=>{ e with key:=u,val:=q }).getD j default={ (es.getD j default) with key:=u,val:=q } by simp [Array.getD_eq_getD_getElem?, Array.getElem_modify,hi]];simpa [List.getD_eq_getElem?_getD,hjv] using hqd
   ·simpa [Array.getD_eq_getD_getElem?, Array.getElem?_modify,c1,List.getElem?_set] using this
theorem EF.mapEntry {x y:Operand} {t kt et:TypeId} {id d:Nat} {T:TypeId} {α β:Type} [Enc α] [Enc β] {ks:List α} {vs:List β} {k:α} {dsc:Bool} {size bytes:Nat} {z:Value} {z0:β} (hd:o.dst=some d) (hlt:Nat.blt d σ.n=true)
  (ho:o.op = .mapEntry t x y) (ht:P.underlying t=some (.map kt et)) (K:SK P kt α) (he:TI P et dsc size bytes z) (hz:∀ w S,DRel w S (enc z0) z)
  (hx:σ.ev x=some (.own id)) (hm:σ.ent id=some (Ent.mapOf T ks vs)) (hk:σ.ev y=some (.d (enc k))):
  EF P F σ o (·=(σ.put id (some (Ent.mapOf T (zcj ks k) (zeq ks vs k z0)))).set d (.tup [.d (enc (mget ks vs k z0)),.d (.lit (.int .i64 (mpos ks k)))])):=by
 intro a w ⟨H,r⟩;obtain ⟨b,es,clock,h1,hH,h2,h3,h4,h5,h6,h7,h8⟩:=r.mapAt hx hm;have hkv:=r.ev hk;obtain ⟨u,hu,hkd⟩:∃ u,a.eval y=u/\DRel w (Sh F.X σ.ent H w) (enc k) u:=⟨_,rfl,by generalize a.eval y=u at hkv;cases hkv with | d _ _ h=>exact h⟩;have hfind:=K.find hkd h3 h5 w;have hne:∀ b',Sh F.X σ.ent H w b'->b'≠b:=fun b' hb e=>hb.2.2 id _ _ hm hH (by rw [e];rfl)
 have fin:∀ (es':Array MapEntry) (clock':Nat) (ks':List α) (vs':List β) (v:Value) (g:β) (p:Nat),(Instr.mapEntry t (.map (some b)) u).run P w = .ok (.tuple #[v,goInt p]) { w with heap:=w.heap.setIfInBounds b (.map es' clock') }->es'.size=ks'.length->es'.size=vs'.length->
   (∀ i,i < es'.size->DRel w (Sh F.X σ.ent H w) ((ks'.map enc).getD i default) (es'.getD i default).key)->(∀ i,i < es'.size->DRel w (Sh F.X σ.ent H w) ((vs'.map enc).getD i default) (es'.getD i default).val)->(clock'=es'.size/\∀ i,i < es'.size->(es'.getD i default).born=i)->DRel w (Sh F.X σ.ent H w) (enc g) v->
   o.wp P a w (fun a' w'=>(∃ u,a'=a.put o.dst u)/\∃ σ',σ'=(σ.put id (some (Ent.mapOf T ks' vs'))).set d (.tup [.d (enc g),.d (.lit (.int .i64 p))])/\Rel F σ' a' w') (fun _ _ _=>False):=by
  intro es' clock' ks' vs' v g p hrun g1 g2 g3 g4 g5 g6;have hset:=MapKept.heap_set (o' := .map es' clock') h2;have hg:w.grownBy { w with heap:=w.heap.setIfInBounds b (.map es' clock') } (some b):={ os:=rfl,tape:=rfl,output:=rfl,size:=by simp,block:=fun b' hb hne=>hset.2 b' (fun e=>hne (by rw [e])) };have hmono:∀ {d:D} {v:Value},DRel w (Sh F.X σ.ent H w) d v->DRel { w with heap:=w.heap.setIfInBounds b (.map es' clock') } (Sh F.X σ.ent H w) d v:=fun h=>h.mono fun b' hb=>⟨hb,hset.2 b' (hne b' hb)⟩
  have r':=r.upd hm hH (b:=b) rfl hg (e':=Ent.mapOf T ks' vs') (.mp T _ _ _ _ b es' clock' hset.1 (by simpa using g1) (by simpa using g2) (fun i hi=>hmono (g3 i hi)) (fun i hi=>hmono (g4 i hi)) g5);have hS:∀ c,Sh F.X σ.ent H w c->Sh F.X (σ.put id (some (Ent.mapOf T ks' vs'))).ent H { w with heap:=w.heap.setIfInBounds b (.map es' clock') } c:=by
   intro c ⟨hc,hx,ho⟩;refine ⟨Nat.lt_of_lt_of_le hc hg.size,hx,fun j x u h1 h2 h3 => ?_⟩;rw [St.ent_put] at h1;by_cases hj:id=j
   ·subst hj;exact ho id _ u hm h2 h3
   ·rw [if_neg hj] at h1;exact ho j x u h1 h2 h3
  have hvt:VRel { w with heap:=w.heap.setIfInBounds b (.map es' clock') } (Sh F.X (σ.put id (some (Ent.mapOf T ks' vs'))).ent H { w with heap:=w.heap.setIfInBounds b (.map es' clock') }) H (.tup [.d (enc g),.d (.lit (.int .i64 p))]) (.tuple #[v,goInt p]):=by
   refine .tup _ _ rfl fun i hi => ?_
   match i,hi with
   | 0,_=>exact .d _ _ ((hmono g6).mono fun c hc=>⟨hS c hc,rfl⟩)
   | 1,_=>exact .d _ _ (.lit _ rfl)
  have r2:=r'.set (d:=d) (show d < σ.n by simpa using hlt) hvt;rw [<- hd] at r2;exact EF.value (post:=(·=(σ.put id (some (Ent.mapOf T ks' vs'))).set d (.tup [.d (enc g),.d (.lit (.int .i64 p))]))) (by simp [execOp,ho,h1,hu,hrun]) ⟨_,rfl,H,r2⟩
 cases hf:zbd ks k with
 | none=>
  have e1:zcj ks k=ks++[k]:=by unfold zcj;rw [hf]
  have e2:zeq ks vs k z0=vs++[z0]:=by unfold zeq;rw [hf]
  have e3:mget ks vs k z0=z0:=by unfold mget;rw [hf]
  have e4:mpos ks k=(ks.length:Int):=by unfold mpos;rw [hf]
  rw [e1,e2,e3,e4];rw [hf] at hfind;refine fin (es.push { key:=u,val:=z,born:=clock }) (clock+1) _ _ z z0 ks.length ?_ (by simp [h3]) (by simp [h4]) (fun i hi => ?_) (fun i hi => ?_) ⟨by simp [h7],znt h7 h8⟩ (hz _ _)
  ·have:goInt clock=goInt ks.length:=by rw [h7,h3]
   simp only [Instr.mapEntry,Sem.run_bind,run_underlying ht,Result.andThen_ok,zjP h2,K.check hkd,hfind,Option.map_none,he.zero,MapKept.run_setObj_map _ h2,Sem.run_pure,this]
  ·simp only [Array.size_push] at hi;by_cases c1:i=es.size
   ·subst c1;rw [show (es.push { key:=u,val:=z,born:=clock }).getD es.size default={ key:=u,val:=z,born:=clock } by simp [Array.getD_eq_getD_getElem?]];simpa [h3] using hkd
   ·have:=h5 i (by omega);have hi':i < ks.length:=by omega
    have hi2:i < es.size:=by omega
    simpa [Array.getElem?_push,c1,List.getElem?_append,hi',hi2] using this
  ·simp only [Array.size_push] at hi;by_cases c1:i=es.size
   ·subst c1;rw [show (es.push { key:=u,val:=z,born:=clock }).getD es.size default={ key:=u,val:=z,born:=clock } by simp [Array.getD_eq_getD_getElem?]];simpa [h4] using hz _ _
   ·have:=h6 i (by omega);have hi':i < vs.length:=by omega
    have hi2:i < es.size:=by omega
    simpa [Array.getElem?_push,c1,List.getElem?_append,hi',hi2] using this
 | some j=>
  have hj:=zdW hf;have hjk:=zfn hf;have e1:zcj ks k=ks:=by unfold zcj;rw [hf]
  have e2:zeq ks vs k z0=vs:=by unfold zeq;rw [hf]
  have e4:mpos ks k=(j:Int):=by unfold mpos;rw [hf]
  rw [e1,e2,e4];rw [hf] at hfind;have hje:j < es.size:=by omega
  have hold:(es.getD j default).key=u:=by
   refine K.eq w _ k _ _ ?_ hkd;have:=h5 j hje
   rwa [show (ks.map enc).getD j default=enc k by simp [List.getD_eq_getElem?_getD,hjk]] at this
  have hval:DRel w (Sh F.X σ.ent H w) (enc (mget ks vs k z0)) (es.getD j default).val:=by
   have:=h6 j hje;have hjv:j < vs.length:=by omega
   rwa [show (vs.map enc).getD j default=enc (mget ks vs k z0) by unfold mget;rw [hf];simp [List.getD_eq_getElem?_getD,hjv]] at this
  refine fin (es.modify j fun e=>{ e with key:=u }) clock _ _ (es.getD j default).val (mget ks vs k z0) j ?_ (by simp [h3]) (by simp [h4]) (fun i hi => ?_) (fun i hi => ?_) ⟨by simp [h7],zh0 (fun _=>rfl) h8⟩ hval
  ·have hst:(Instr.keyThatStays u u).run P w = .ok u w:=K.stays w _ k u hkd w;have hg:((es[j]?).map (·.key)).getD u=u:=by
    rw [<- hold];simp [Array.getD_eq_getD_getElem?, hje]
   have hb:((es[j]?).map (fun x=>(x.born:Int))).getD 0=(j:Int):=by
    have:=h8 j hje;have:es[j].born=j:=by simpa [Array.getD_eq_getD_getElem?, hje] using this
    simp [hje,this]
   simp only [Instr.mapEntry,Sem.run_bind,run_underlying ht,Result.andThen_ok,zjP h2,K.check hkd,hfind,Option.map_some,hg,hb,hst,MapKept.run_setObj_map _ h2,Sem.run_pure]
  ·simp only [Array.size_modify] at hi;have:=h5 i hi;by_cases c1:j=i
   ·subst c1;rw [hold] at this;rw [show (es.modify j fun e=>{ e with key:=u }).getD j default={ (es.getD j default) with key:=u } by simp [Array.getD_eq_getD_getElem?, Array.getElem_modify,hi]];exact this
   ·simpa [Array.getD_eq_getD_getElem?, Array.getElem?_modify,c1] using this
  ·simp only [Array.size_modify] at hi;have:=h6 i hi;by_cases c1:j=i
   ·subst c1;rw [show (es.modify j fun e=>{ e with key:=u }).getD j default={ (es.getD j default) with key:=u } by simp [Array.getD_eq_getD_getElem?, Array.getElem_modify,hi]];exact this
   ·simpa [Array.getD_eq_getD_getElem?, Array.getElem?_modify,c1] using this
theorem EF.entryStore {x y v:Operand} {t:TypeId} {id:Nat} {T:TypeId} {α β:Type} [Enc α] [Enc β] {ks:List α} {vs:List β} {p:Int} {c:β} (hd:o.dst=none)
  (ho:o.op = .entryStore t x y v) (hx:σ.ev x=some (.own id)) (hm:σ.ent id=some (Ent.mapOf T ks vs)) (hp:σ.ev y=some (.d (.lit (.int .i64 p)))) (p0:0<=p) (p1:p < vs.length) (hv:σ.ev v=some (.d (enc c))):
  EF P F σ o (·=σ.put id (some (Ent.mapOf T ks (vs.set p.toNat c)))):=by
 intro a w ⟨H,r⟩;obtain ⟨b,es,clock,h1,hH,h2,h3,h4,h5,h6,h7,h8⟩:=r.mapAt hx hm;have hpv:=r.ev hp;have hpe:a.eval y = .int .i64 p:=by
  generalize a.eval y=u at hpv;cases hpv with | d _ _ h=>cases h;rfl
 have hvv:=r.ev hv;obtain ⟨q,hq,hqd⟩:∃ u,a.eval v=u/\DRel w (Sh F.X σ.ent H w) (enc c) u:=⟨_,rfl,by generalize a.eval v=u at hvv;cases hvv with | d _ _ h=>exact h⟩;have hne:∀ b',Sh F.X σ.ent H w b'->b'≠b:=fun b' hb e=>hb.2.2 id _ _ hm hH (by rw [e];rfl)
 have hje:p.toNat < es.size:=by omega
 have hfi:es.findIdx? (fun e=>(e.born:Int)==p)=some p.toNat:=by
  rw [Array.findIdx?_eq_some_iff_getElem];have hb:∀ i (hi:i < es.size),es[i].born=i:=fun i hi=>by
   have:=h8 i hi;simpa [Array.getD_eq_getD_getElem?, hi] using this
  refine ⟨hje,?_,fun j hj => ?_⟩
  ·rw [hb];simp;omega
  ·rw [hb];simp;omega
 have hset:=MapKept.heap_set (o' := .map (es.modify p.toNat fun e=>{ e with val:=q }) clock) h2;have hg:w.grownBy { w with heap:=w.heap.setIfInBounds b (.map (es.modify p.toNat fun e=>{ e with val:=q }) clock) } (some b):={ os:=rfl,tape:=rfl,output:=rfl,size:=by simp,block:=fun b' hb hne=>hset.2 b' (fun e=>hne (by rw [e])) };have hmono:∀ {d:D} {v:Value},DRel w (Sh F.X σ.ent H w) d v->DRel { w with heap:=w.heap.setIfInBounds b (.map (es.modify p.toNat fun e=>{ e with val:=q }) clock) } (Sh F.X σ.ent H w) d v:=fun h=>h.mono fun b' hb=>⟨hb,hset.2 b' (hne b' hb)⟩
 have r':=r.upd hm hH (b:=b) rfl hg (e':=Ent.mapOf T ks (vs.set p.toNat c)) (.mp T _ _ _ _ b _ clock hset.1 (by simp [h3]) (by simp [h4]) (fun i hi=>hmono (by
  simp only [Array.size_modify] at hi;have:=h5 i hi;by_cases c1:p.toNat=i
  ·subst c1;rw [show (es.modify p.toNat fun e=>{ e with val:=q }).getD p.toNat default={ (es.getD p.toNat default) with val:=q } by simp [Array.getD_eq_getD_getElem?, Array.getElem_modify,hi]];exact this
  ·simpa [Array.getD_eq_getD_getElem?, Array.getElem?_modify,c1] using this)) (fun i hi=>hmono (by
  simp only [Array.size_modify] at hi;have:=h6 i hi;by_cases c1:p.toNat=i
  ·subst c1;have hjv:p.toNat < vs.length:=by omega
   rw [show (es.modify p.toNat fun e=>{ e with val:=q }).getD p.toNat default={ (es.getD p.toNat default) with val:=q } by simp [Array.getD_eq_getD_getElem?, Array.getElem_modify,hi]];simpa [List.getD_eq_getElem?_getD,hjv] using hqd
  ·simpa [Array.getD_eq_getD_getElem?, Array.getElem?_modify,c1,List.getElem?_set] using this)) ⟨by simp [h7],zh0 (fun _=>rfl) h8⟩)
 refine EF.void (post:=(·=σ.put id (some (Ent.mapOf T ks (vs.set p.toNat c))))) (w':={ w with heap:=w.heap.setIfInBounds b (.map (es.modify p.toNat fun e=>{ e with val:=q }) clock) }) ?_ ⟨_,rfl,H,?_⟩
 ·simp [execOp,ho,h1,hpe,hq,Instr.entryStore,Sem.run_bind,zjP h2,asInt,asIntOf];rw [hfi];simp [MapKept.run_setObj_map _ h2]
 ·rw [hd];exact r'
theorem RO.conv_bytes {t u e:TypeId} {x:Operand} {id E:Nat} {α:Type} [Enc α] {l:List α} (f:α->Int) (hf:∀ y:α,enc y = .lit (.int .u8 (f y))) (hsz:Enc.sz α=1) (ho:o.op = .convert t u x) (ht:P.underlying t=some (.slice e)) (he:P.underlying e=some (.int .u8)) (hu:P.underlying u=some .string)
  (hx:σ.ev x=some (.own id)) (hm:σ.ent id=some (Ent.arrOf E l)):RO P F σ o (.d (.lit (.string (strOfNums (l.map f))))):=fun H a w r=>by
 have hv:=r.ev hx;obtain ⟨v,hH,hr⟩:=r.ent id _ hm;have hav:a.eval x=v:=by
  generalize a.eval x=q at hv;cases hv with
  | own _ _ h _=>rw [hH] at h;cases h;rfl
 refine ⟨.string (strOfNums (l.map f)),fun w' hw => ?_,.d _ _ (.lit _ rfl)⟩;have hw:Ext w w':=by
  rcases hw with hw | hw
  ·simp [zdF,ho] at hw
  ·exact hw
 cases hr with
 | arr _ _ _ _ _ xs hpos hown hbt hcs hrel=>
  have hxl:xs.length=l.length:=by have:=hown.1;simpa [hsz] using this
  rcases hown.form with ⟨rfl,h0⟩ | ⟨g,off,cap,rfl⟩
  ·have:l=[]:=by simpa using h0
   subst this;simp [execOp,ho,hav,run_convert_bytes_nil w' t e ht he 0 0 u hu];rfl
  ·have hcell:∀ i,i < (l.map (enc:α->D)).length->w'.cell? ⟨g,off+i,none⟩=some (.int .u8 ((l.map f).getD i 0)):=fun i hi=>by
    have hi':i < l.length:=by simpa using hi
    have h1:=hrel i hi 0 (by rw [hsz];omega);have e1:((l.map (enc:α->D)).getD i default).cells.getD 0 default = .lit (.int .u8 (f l[i])):=by
     simp [List.getD_eq_getElem?_getD,hi',hf,D.cells]
    rw [e1,hsz,Nat.mul_one,Nat.add_zero] at h1;have e2:xs.getD i undef = .int .u8 (f l[i]):=by
     generalize xs.getD i undef=q at h1;cases h1;rfl
    have hix:i < xs.length:=by omega
    have e3:xs[i]? =some (xs.getD i undef):=by simp [List.getD_eq_getElem?_getD,hix]
    have:=zdf hw (hown.cell i _ e3);rw [this,e2];simp [List.getD_eq_getElem?_getD,hi']
   have:=run_convert_bytes_arg w' t e ht he g off (l.map (enc:α->D)).length cap (l.map f) (by simp) hcell u hu;simp [execOp,ho,hav] at this ⊢;simp [this]
end
end Go.Ab
