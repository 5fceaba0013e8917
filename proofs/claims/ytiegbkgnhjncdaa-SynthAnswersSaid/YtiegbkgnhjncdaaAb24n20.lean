import Derived.Test.YtiegbkgnhjncdaaAb24n19
import Derived.Maps.Keyed
import Derived.Laws.BytesArg
set_option linter.unusedVariables false
set_option linter.unusedSimpArgs false
set_option linter.unusedSectionVars false
set_option linter.unusedVariables false
set_option linter.unusedSimpArgs false
set_option linter.unusedSectionVars false
namespace Go.Ab
open Enc (enc)
open Classical in
noncomputable def zbv {α:Type}:List α->α->Option Nat
 | [],_=>none
 | y::ys,x=>if y=x then some 0 else (zbv ys x).map (·+1)
noncomputable def mget {α β:Type} (ks:List α) (vs:List β) (x:α) (z:β):β:=match zbv ks x with
 | some j=>vs.getD j z
 | none=>z
noncomputable def mhas {α:Type} (ks:List α) (x:α):Bool:=(zbv ks x).isSome
noncomputable def zlQ {α:Type} (ks:List α) (x:α):List α:=match zbv ks x with
 | some _=>ks
 | none=>ks++[x]
noncomputable def zlR {α β:Type} (ks:List α) (vs:List β) (x:α) (y:β):List β:=match zbv ks x with
 | some j=>vs.set j y
 | none=>vs++[y]
theorem zku {α:Type}:∀ {ks:List α} {x:α} {j:Nat},zbv ks x=some j->j < ks.length
 | [],_,_,h=>by cases h
 | y::ys,x,j,h=>by
  unfold zbv at h;split at h
  ·cases h;simp
  ·cases a:zbv ys x with
   | none=>rw [a] at h;cases h
   | some i=>rw [a] at h;cases h;have:=zku a;simp;omega
theorem zhH {α:Type}:∀ {ks:List α} {x:α} {j:Nat},zbv ks x=some j->ks[j]? =some x
 | [],_,_,h=>by cases h
 | y::ys,x,j,h=>by
  unfold zbv at h;split at h
  ·rename_i e;cases h;simp [e]
  ·cases a:zbv ys x with
   | none=>rw [a] at h;cases h
   | some i=>rw [a] at h;cases h;simpa using zhH a
abbrev Ent.mapOf (T:TypeId) {α β:Type} [Enc α] [Enc β] (ks:List α) (vs:List β):Ent := .box T [.d (enc ks),.d (enc vs)]
structure SK0 (P:Program) (kt:TypeId) (kd:TypeDesc) (α:Type) [Enc α]:Prop where
 ud:P.underlying kt=some kd
 one:∀ (w:World) (S:Nat->Prop) (x:α) (u:Value),DRel w S (enc x) u->u.oneCell'=true
 same:∀ (w:World) (S:Nat->Prop) (x y:α) (u v:Value),DRel w S (enc x) u->DRel w S (enc y) v->Instr.sameNow kd u v=some (@decide (y=x) (Classical.propDecidable _))
 eq:∀ (w:World) (S:Nat->Prop) (x:α) (u v:Value),DRel w S (enc x) u->DRel w S (enc x) v->u=v
 key:∀ (w:World) (S:Nat->Prop) (x:α) (u:Value),DRel w S (enc x) u->MapKept.IsKey kd u
theorem SK0.int {P:Program} {kt:TypeId} {q:IntKind} (h:P.underlying kt=some (.int q)) {α:Type} [Enc α] (f:α->Int) (hf:∀ x y,f x=f y->x=y) (he:∀ x:α,enc x = .lit (.int q (f x))):SK0 P kt (.int q) α where
 ud:=h
 one w S x u hd:=by rw [he] at hd;cases hd;rfl
 same w S x y u v h1 h2:=by
  rw [he] at h1 h2;cases h1;cases h2;simp only [Instr.sameNow,if_true];congr 1;rw [Bool.eq_iff_iff,beq_iff_eq,@decide_eq_true_iff _ (Classical.propDecidable _)];exact ⟨fun e=>(hf _ _ e).symm,fun e=>by rw [e]⟩
 eq w S x u v h1 h2:=by rw [he] at h1 h2;cases h1;cases h2;rfl
 key w S x u h1:=by rw [he] at h1;cases h1;exact rfl
theorem SK0.check {P:Program} {a:TypeId} {c:TypeDesc} {α:Type} [Enc α] (K:SK0 P a c α) {w:World} {S:Nat->Prop} {x:α} {u:Value} (h:DRel w S (enc x) u) (b:Bool) (w':World):(Instr.checkKey b 10000 a u).run P w' = .ok () w':=
 MapKept.run_checkKey K.ud (K.key w S x u h) b 9999
theorem zu9 (a b:ByteArray):(a==b)=true↔a=b:=by
 cases a with | mk a=>cases b with | mk b=>
 show (a==b)=true↔_;rw [beq_iff_eq];exact ⟨fun e=>by rw [e],fun e=>by injection e⟩
section
variable {P:Program} {F:Fr} {σ:St} {o:Oper} {a:Act} {w:World} {H:Hd}
theorem zvz {w:World} {r:Nat} {b:Array MapEntry} {a:Nat} (c:w.heap[r]? =some (.map b a)):(getObj r).run P w = .ok (.map b a) w:=by
 simp [getObj,Sem.run,c]
theorem zqt {a:TypeDesc} {α:Type} [Enc α] {S:Nat->Prop} {x:α} {u:Value} (hs:∀ (y:α) (v:Value),DRel w S (enc y) v->Instr.sameNow a u v=some (@decide (y=x) (Classical.propDecidable _))):
  ∀ (es:List MapEntry) (ks:List α) (i:Nat),es.length=ks.length->(∀ j,j < es.length->DRel w S ((ks.map enc).getD j default) (es.getD j default).key)->
  Instr.findNow a u es i=some ((zbv ks x).map fun j=>(i+j,(es.getD j default).val))
 | [],[],i,_,_=>rfl
 | e::es,k::ks,i,hl,hk=>by
  have b:=hs k e.key (by simpa using hk 0 (by simp));have d:=zqt hs es ks (i+1) (by simpa using hl) (fun j h=>by simpa using hk (j+1) (by simpa using h));unfold Instr.findNow zbv;rw [b];by_cases c:k=x
  ·rw [if_pos c];simp [c]
  ·rw [if_neg c];simp only [c,decide_false];rw [d];cases zbv ks x with
   | none=>rfl
   | some j=>simp only [Option.map_some];congr 2;rw [Prod.mk.injEq];exact ⟨by omega,by simp⟩
theorem zzT {b:TypeId} {c:TypeDesc} {α:Type} [Enc α] (K:SK0 P b c α) {S:Nat->Prop} {x:α} {u:Value} (d:DRel w S (enc x) u) {a:Array MapEntry} {ks:List α} (e:a.size=ks.length)
  (f:∀ i,i < a.size->DRel w S ((ks.map enc).getD i default) (a.getD i default).key) (w':World):
  (Instr.findKey b u a.toList).run P w' = .ok ((zbv ks x).map fun j=>(j,(a.getD j default).val)) w':=by
 unfold Instr.findKey;simp only [Sem.run_bind,run_underlying K.ud,Result.andThen_ok];rw [zqt (x:=x) (fun y v g=>K.same w S x y u v d g) a.toList ks 0 (by simpa using e) (fun j h=>by
  have:=f j (by simpa using h);simpa [List.getD_eq_getElem?_getD,Array.getD_eq_getD_getElem?] using this)]
 simp [Array.getD_eq_getD_getElem?, List.getD_eq_getElem?_getD]
structure SK (P:Program) (kt:TypeId) (α:Type) [Enc α]:Prop where
 eq:∀ (w:World) (S:Nat->Prop) (x:α) (u v:Value),DRel w S (enc x) u->DRel w S (enc x) v->u=v
 check:∀ {w:World} {S:Nat->Prop} {x:α} {u:Value},DRel w S (enc x) u->∀ (em:Bool) (w':World),(Instr.checkKey em 10000 kt u).run P w' = .ok () w'
 stays:∀ (w:World) (S:Nat->Prop) (x:α) (u:Value),DRel w S (enc x) u->∀ w':World,(Instr.keyThatStays u u).run P w' = .ok u w'
 find:∀ {w:World} {S:Nat->Prop} {x:α} {u:Value},DRel w S (enc x) u->∀ {es:Array MapEntry} {ks:List α},es.size=ks.length->(∀ i,i < es.size->DRel w S ((ks.map enc).getD i default) (es.getD i default).key)->∀ w':World,
  (Instr.findKey kt u es.toList).run P w' = .ok ((zbv ks x).map fun j=>(j,(es.getD j default).val)) w'
theorem SK.of0 {P:Program} {a:TypeId} {b:TypeDesc} {α:Type} [Enc α] (K:SK0 P a b α):SK P a α:=
 ⟨K.eq,fun h c w'=>K.check h c w',fun w S x u h w'=>MapKept.run_keyThatStays (K.key w S x u h),fun d _ _ e f w'=>zzT K d e f w'⟩
theorem AL.makeMap {T:TypeId} {d:Nat} {α β:Type} [Enc α] [Enc β] (id:Nat) (f:σ.nxt=id) (l:Nat.blt id LIM=true) (m:o.dst=some d) (g:Nat.blt d σ.n=true) (n:o.op = .makeMap T none):
  AL P F σ o (·=(σ.new (Ent.mapOf T ([]:List α) ([]:List β))).set d (.own id)):=by
 subst f;intro a w ⟨H,r⟩;have j:=Ext.alloc w (.map #[] 0);have r':=r.renew (old:=none) (e:=Ent.mapOf T ([]:List α) ([]:List β)) (v := .map (some w.heap.size)) (w':=w.alloc (.map #[] 0)) (by simpa using l) rfl rfl rfl j.size (fun b h _=>j.block b h) (by simp) (fun b h => .inl (by simp [blk] at h;omega))
  (.mp T _ _ [] [] w.heap.size #[] 0 (heap_alloc_new w _) rfl rfl (fun i c=>by simp at c) (fun i c=>by simp at c) ⟨rfl,fun i c=>by simp at c⟩)
 have k:=r'.set (d:=d) (show d < σ.n by simpa using g) (.own σ.nxt _ (Hd.add_new _ _ _) (.inr ⟨_,rfl⟩));rw [<- m] at k;exact AL.value (by simp [execOp,n,show (Instr.makeMap T none).run P w = .ok (.map (some w.heap.size)) (w.alloc (.map #[] 0)) from rfl]) j ⟨_,rfl,_,k⟩
theorem RelH.mapAt (r:RelH F σ H a w) {x:Operand} {id:Nat} {T:TypeId} {α β:Type} [Enc α] [Enc β] {ks:List α} {vs:List β} (l:σ.ev x=some (.own id)) (m:σ.ent id=some (Ent.mapOf T ks vs)):
  ∃ (b:Nat) (d:Array MapEntry) (c:Nat),a.eval x = .map (some b)/\H id=some (.map (some b))/\w.heap[b]? =some (.map d c)/\d.size=ks.length/\d.size=vs.length/\
   (∀ i,i < d.size->DRel w (Sh F.X σ.ent H w) ((ks.map enc).getD i default) (d.getD i default).key)/\(∀ i,i < d.size->DRel w (Sh F.X σ.ent H w) ((vs.map enc).getD i default) (d.getD i default).val)/\
   (c=d.size/\∀ i,i < d.size->(d.getD i default).born=i):=by
 have f:=r.ev l;obtain ⟨v,j,k⟩:=r.ent id _ m;generalize a.eval x=u at f;cases f with
 | own _ _ h hs=>
  rw [j] at h;cases h;generalize g:Ent.mapOf T ks vs=e at k;cases k with
  | arr=>cases g
  | out=>cases g
  | box T cells b n=>rcases hs with ⟨_,_,_,h⟩ | ⟨_,h⟩<;>cases h
  | mp T A B o p b d c q s t y f z=>
   cases g;exact ⟨b,d,c,rfl,j,q,by simpa using s,by simpa using t,y,f,z⟩
theorem RO.len_map {x:Operand} {t g h:TypeId} {id:Nat} {T:TypeId} {α β:Type} [Enc α] [Enc β] {ks:List α} {vs:List β} (e:o.op = .call { callee := .builtin .len,args:=#[x],argTypes:=#[t] }) (i:P.underlying t=some (.map g h))
  (j:σ.ev x=some (.own id)) (k:σ.ent id=some (Ent.mapOf T ks vs)):RO P F σ o (.d (.lit (.int .i64 ks.length))):=fun H a w r=>by
 obtain ⟨b,m,d,n,_,f,p,_⟩:=r.mapAt j k;refine ⟨.int .i64 ks.length,fun w' c => ?_,.int _ _ _ _ _⟩;have c:Ext w w':=by
  rcases c with c | c
  ·simp [ziW,e] at c
  ·exact c
 have l:w'.heap[b]? =some (.map m d):=by rw [c.block b (Array.getElem?_eq_some_iff.1 f).1];exact f
 simp [execOp,e,resolve,invoke,builtin,Builtin.len_,run_underlying i,n,zvz l,goInt,p]
theorem RO.lookup {x y:Operand} {t C D:TypeId} {id:Nat} {T:TypeId} {α β:Type} [Enc α] [Enc β] {ks:List α} {vs:List β} {k:α} {dsc:Bool} {size bytes:Nat} {z:Value} {z0:β} (cm:Bool)
  (E:o.op = .lookup t x y cm) (I:P.underlying t=some (.map C D)) (K:SK P C α) (N:TI P D dsc size bytes z) (O:∀ w S,DRel w S (enc z0) z)
  (Q:σ.ev x=some (.own id)) (R:σ.ent id=some (Ent.mapOf T ks vs)) (U:σ.ev y=some (.d (enc k))):
  RO P F σ o (if cm=true then .tup [.d (enc (mget ks vs k z0)),.d (.lit (.bool (mhas ks k)))] else .d (enc (mget ks vs k z0))):=fun H a w r=>by
 obtain ⟨b,B,f,W,_,p,J,h4,L,X,_⟩:=r.mapAt Q R;have m:=r.ev U;obtain ⟨u,Y,g⟩:∃ u,a.eval y=u/\DRel w (Sh F.X σ.ent H w) (enc k) u:=⟨_,rfl,by generalize a.eval y=u at m;cases m with | d _ _ h=>exact h⟩;have key:∃ v:Value,DRel w (Sh F.X σ.ent H w) (enc (mget ks vs k z0)) v/\∀ w',Ext w w'->(Instr.lookup t (.map (some b)) u cm).run P w' = .ok (if cm=true then .tuple #[v,.bool (mhas ks k)] else v) w':=by
  cases l:zbv ks k with
  | none=>
   have q:mget ks vs k z0=z0:=by unfold mget;rw [l]
   have s:mhas ks k=false:=by unfold mhas;rw [l];rfl
   refine ⟨z,by rw [q];exact O _ _,fun w' e => ?_⟩;have A:w'.heap[b]? =some (.map B f):=by rw [e.block b (Array.getElem?_eq_some_iff.1 p).1];exact p
   have c:=K.find g J L w';rw [l] at c;simp only [Instr.lookup,Sem.run_bind,run_underlying I,Result.andThen_ok,zvz A,Sem.run_pure,K.check g,c,Option.map_none,N.zero,s]
  | some j=>
   have Z:=zku l;have q:(vs.map enc).getD j default=enc (mget ks vs k z0):=by
    unfold mget;rw [l];have:j < vs.length:=by omega
    simp [List.getD_eq_getElem?_getD,this]
   have s:mhas ks k=true:=by unfold mhas;rw [l];rfl
   refine ⟨(B.getD j default).val,by rw [<- q];exact X j (by omega),fun w' e => ?_⟩;have A:w'.heap[b]? =some (.map B f):=by rw [e.block b (Array.getElem?_eq_some_iff.1 p).1];exact p
   have c:=K.find g J L w';rw [l] at c;simp only [Instr.lookup,Sem.run_bind,run_underlying I,Result.andThen_ok,zvz A,Sem.run_pure,K.check g,c,Option.map_some,s]
 obtain ⟨v,M,n⟩:=key;refine ⟨if cm=true then .tuple #[v,.bool (mhas ks k)] else v,fun w' e => ?_,?_⟩
 ·have e:Ext w w':=by
   rcases e with e | e
   ·simp [ziW,E] at e
   ·exact e
  simp [execOp,E,W,Y,n w' e]
 ·cases cm with
  | false=>exact .d _ _ M
  | true=>
   refine .tup _ _ rfl fun i V => ?_
   match i,V with
   | 0,_=>exact .d _ _ M
   | 1,_=>exact .d _ _ (.lit _ rfl)
theorem zzf {b:Array MapEntry} {a:Nat} {u q:Value} (e:a=b.size) (f:∀ i,i < b.size->(b.getD i default).born=i):∀ i,i < (b.push { key:=u,val:=q,born:=a }).size->((b.push { key:=u,val:=q,born:=a }).getD i default).born=i:=by
 intro i g;simp only [Array.size_push] at g;by_cases d:i=b.size
 ·subst d;rw [show (b.push { key:=u,val:=q,born:=a }).getD b.size default={ key:=u,val:=q,born:=a } by simp [Array.getD_eq_getD_getElem?]];exact e
 ·have:=f i (by omega);have c:i < b.size:=by omega
  simpa [Array.getD_eq_getD_getElem?, Array.getElem?_push,d,c] using this
theorem zwv {a:Array MapEntry} {j:Nat} {f:MapEntry->MapEntry} (d:∀ e,(f e).born=e.born) (g:∀ i,i < a.size->(a.getD i default).born=i):∀ i,i < (a.modify j f).size->((a.modify j f).getD i default).born=i:=by
 intro i b;simp only [Array.size_modify] at b;have:=g i b;by_cases c:j=i
 ·subst c;rw [show (a.modify j f).getD j default=f (a.getD j default) by simp [Array.getD_eq_getD_getElem?, Array.getElem_modify,b],d];exact this
 ·simpa [Array.getD_eq_getD_getElem?, Array.getElem?_modify,c] using this
theorem EF.mapUpdate {x y v:Operand} {t kt et:TypeId} {id:Nat} {T:TypeId} {α β:Type} [Enc α] [Enc β] {ks:List α} {vs:List β} {k:α} {c:β} (hd:o.dst=none)
  (Z:o.op = .mapUpdate t x y v\/o.op = .insert t x y v) (ht:P.underlying t=some (.map kt et)) (K:SK P kt α)
  (hx:σ.ev x=some (.own id)) (hm:σ.ent id=some (Ent.mapOf T ks vs)) (hk:σ.ev y=some (.d (enc k))) (hv:σ.ev v=some (.d (enc c))):
  EF P F σ o (·=σ.put id (some (Ent.mapOf T (zlQ ks k) (zlR ks vs k c)))):=by
 intro a w ⟨H,r⟩;obtain ⟨b,n,l,h1,hH,Q,h3,h4,h5,h6,h7,h8⟩:=r.mapAt hx hm;have U:=r.ev hk;obtain ⟨u,hu,A⟩:∃ u,a.eval y=u/\DRel w (Sh F.X σ.ent H w) (enc k) u:=⟨_,rfl,by generalize a.eval y=u at U;cases U with | d _ _ h=>exact h⟩;have V:=r.ev hv;obtain ⟨q,hq,Y⟩:∃ u,a.eval v=u/\DRel w (Sh F.X σ.ent H w) (enc c) u:=⟨_,rfl,by generalize a.eval v=u at V;cases V with | d _ _ h=>exact h⟩;have m:=K.find A h3 h5 w;have hlt:b < w.heap.size:=(Array.getElem?_eq_some_iff.1 Q).1;have M:∀ I,Sh F.X σ.ent H w I->I≠b:=fun I R e=>R.2.2 id _ _ hm hH (by rw [e];rfl)
 have W:∀ (g:Array MapEntry) (f:Nat) (s:List α) (z:List β),(Instr.mapUpdate t (.map (some b)) u q).run P w = .ok () { w with heap:=w.heap.setIfInBounds b (.map g f) }->g.size=s.length->g.size=z.length->
   (∀ i,i < g.size->DRel w (Sh F.X σ.ent H w) ((s.map enc).getD i default) (g.getD i default).key)->(∀ i,i < g.size->DRel w (Sh F.X σ.ent H w) ((z.map enc).getD i default) (g.getD i default).val)->(f=g.size/\∀ i,i < g.size->(g.getD i default).born=i)->
   o.wp P a w (fun a' w'=>(∃ u,a'=a.put o.dst u)/\∃ σ',σ'=σ.put id (some (Ent.mapOf T s z))/\Rel F σ' a' w') (fun _ _ _=>False):=by
  intro g f s z S g1 g2 g3 g4 g5;have B:=MapKept.heap_set (o' := .map g f) Q;have hg:w.grownBy { w with heap:=w.heap.setIfInBounds b (.map g f) } (some b):={ os:=rfl,tape:=rfl,output:=rfl,size:=by simp,block:=fun I R M=>B.2 I (fun e=>M (by rw [e])) };have C:∀ {d:D} {v:Value},DRel w (Sh F.X σ.ent H w) d v->DRel { w with heap:=w.heap.setIfInBounds b (.map g f) } (Sh F.X σ.ent H w) d v:=fun h=>h.mono fun I R=>⟨R,B.2 I (M I R)⟩
  have r':=r.upd hm hH (b:=b) rfl hg (e':=Ent.mapOf T s z) (.mp T _ _ _ _ b g f B.1 (by simpa using g1) (by simpa using g2) (fun i p=>C (g3 i p)) (fun i p=>C (g4 i p)) g5);refine EF.void (post:=(·=σ.put id (some (Ent.mapOf T s z)))) (w':={ w with heap:=w.heap.setIfInBounds b (.map g f) }) (by rcases Z with Z | Z<;>simp [execOp,Z,h1,hu,hq,S]) ⟨_,rfl,H,?_⟩;rw [hd];exact r'
 cases L:zbv ks k with
 | none=>
  have e1:zlQ ks k=ks++[k]:=by unfold zlQ;rw [L]
  have e2:zlR ks vs k c=vs++[c]:=by unfold zlR;rw [L]
  rw [e1,e2];rw [L] at m;refine W (n.push { key:=u,val:=q,born:=l }) (l+1) _ _ ?_ (by simp [h3]) (by simp [h4]) (fun i p => ?_) (fun i p => ?_) ⟨by simp [h7],zzf h7 h8⟩
  ·simp only [Instr.mapUpdate,Sem.run_bind,run_underlying ht,Result.andThen_ok,zvz Q,K.check A,m,Option.map_none,MapKept.run_setObj_map _ Q]
  ·simp only [Array.size_push] at p;by_cases E:i=n.size
   ·subst E;rw [show (n.push { key:=u,val:=q,born:=l }).getD n.size default={ key:=u,val:=q,born:=l } by simp [Array.getD_eq_getD_getElem?]];simpa [h3] using A
   ·have:=h5 i (by omega);have N:i < ks.length:=by omega
    have O:i < n.size:=by omega
    simpa [Array.getElem?_push,E,List.getElem?_append,N,O] using this
  ·simp only [Array.size_push] at p;by_cases E:i=n.size
   ·subst E;rw [show (n.push { key:=u,val:=q,born:=l }).getD n.size default={ key:=u,val:=q,born:=l } by simp [Array.getD_eq_getD_getElem?]];simpa [h4] using Y
   ·have:=h6 i (by omega);have N:i < vs.length:=by omega
    have O:i < n.size:=by omega
    simpa [Array.getElem?_push,E,List.getElem?_append,N,O] using this
 | some j=>
  have hj:=zku L;have hjk:=zhH L;have e1:zlQ ks k=ks:=by unfold zlQ;rw [L]
  have e2:zlR ks vs k c=vs.set j c:=by unfold zlR;rw [L]
  rw [e1,e2];rw [L] at m;have X:j < n.size:=by omega
  have J:(n.getD j default).key=u:=by
   refine K.eq w _ k _ _ ?_ A;have:=h5 j X
   rwa [show (ks.map enc).getD j default=enc k by simp [List.getD_eq_getElem?_getD,hjk]] at this
  refine W (n.modify j fun e=>{ e with key:=u,val:=q }) l _ _ ?_ (by simp [h3]) (by simp [h4]) (fun i p => ?_) (fun i p => ?_) ⟨by simp [h7],zwv (fun _=>rfl) h8⟩
  ·have hst:(Instr.keyThatStays u u).run P w = .ok u w:=K.stays w _ k u A w;have hg:((n[j]?).map (·.key)).getD u=u:=by
    rw [<- J];simp [Array.getD_eq_getD_getElem?, X]
   simp only [Instr.mapUpdate,Sem.run_bind,run_underlying ht,Result.andThen_ok,zvz Q,K.check A,m,Option.map_some,hg,hst,MapKept.run_setObj_map _ Q]
  ·simp only [Array.size_modify] at p;have:=h5 i p;by_cases E:j=i
   ·subst E;rw [J] at this;rw [show (n.modify j fun e=>{ e with key:=u,val:=q }).getD j default={ (n.getD j default) with key:=u,val:=q } by simp [Array.getD_eq_getD_getElem?, Array.getElem_modify,p]];exact this
   ·simpa [Array.getD_eq_getD_getElem?, Array.getElem?_modify,E] using this
  ·simp only [Array.size_modify] at p;have:=h6 i p;by_cases E:j=i
   ·subst E;have hjv:j < vs.length:=by omega
    rw [show (n.modify j fun e=>{ e with key:=u,val:=q }).getD j default={ (n.getD j default) with key:=u,val:=q } by simp [Array.getD_eq_getD_getElem?, Array.getElem_modify,p]];simpa [List.getD_eq_getElem?_getD,hjv] using Y
   ·simpa [Array.getD_eq_getD_getElem?, Array.getElem?_modify,E,List.getElem?_set] using this
theorem RO.conv_bytes {t u e:TypeId} {x:Operand} {id E:Nat} {α:Type} [Enc α] {l:List α} (f:α->Int) (M:∀ y:α,enc y = .lit (.int .u8 (f y))) (c:Enc.sz α=1) (p:o.op = .convert t u x) (A:P.underlying t=some (.slice e)) (B:P.underlying e=some (.int .u8)) (C:P.underlying u=some .string)
  (N:σ.ev x=some (.own id)) (O:σ.ent id=some (Ent.arrOf E l)):RO P F σ o (.d (.lit (.string (strOfNums (l.map f))))):=fun H a w r=>by
 have J:=r.ev N;obtain ⟨v,U,V⟩:=r.ent id _ O;have k:a.eval x=v:=by
  generalize a.eval x=q at J;cases J with
  | own _ _ h _=>rw [U] at h;cases h;rfl
 refine ⟨.string (strOfNums (l.map f)),fun w' d => ?_,.d _ _ (.lit _ rfl)⟩;have d:Ext w w':=by
  rcases d with d | d
  ·simp [ziW,p] at d
  ·exact d
 cases V with
 | arr _ _ _ _ _ xs L b X Y n=>
  have Q:xs.length=l.length:=by have:=b.1;simpa [c] using this
  rcases b.form with ⟨rfl,W⟩ | ⟨g,off,cap,rfl⟩
  ·have:l=[]:=by simpa using W
   subst this;simp [execOp,p,k,run_convert_bytes_nil w' t e A B 0 0 u C];rfl
  ·have j:∀ i,i < (l.map (enc:α->D)).length->w'.cell? ⟨g,off+i,none⟩=some (.int .u8 ((l.map f).getD i 0)):=fun i I=>by
    have m:i < l.length:=by simpa using I
    have s:=n i I 0 (by rw [c];omega);have R:((l.map (enc:α->D)).getD i default).cells.getD 0 default = .lit (.int .u8 (f l[i])):=by
     simp [List.getD_eq_getElem?_getD,m,M,D.cells]
    rw [R,c,Nat.mul_one,Nat.add_zero] at s;have S:xs.getD i undef = .int .u8 (f l[i]):=by
     generalize xs.getD i undef=q at s;cases s;rfl
    have z:i < xs.length:=by omega
    have T:xs[i]? =some (xs.getD i undef):=by simp [List.getD_eq_getElem?_getD,z]
    have:=zil d (b.cell i _ T);rw [this,S];simp [List.getD_eq_getElem?_getD,m]
   have:=run_convert_bytes_arg w' t e A B g off (l.map (enc:α->D)).length cap (l.map f) (by simp) j u C;simp [execOp,p,k] at this ⊢;simp [this]
end
end Go.Ab
