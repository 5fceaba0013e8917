import Derived.Test.YtmogekkikaelhaaAb24n2
set_option linter.unusedVariables false
set_option linter.unusedSimpArgs false
set_option linter.unusedSectionVars false
namespace Go.Ab
open Go.RowKit (Below)
def AO (P:Program) (F:Fr) (ops:Array Oper) (l:List (Nat×Oper)) (σ:St) (K:St->Prop):Prop:=
 ∀ (a:Act) (w:World) (Q:Exit->Act->World->Prop),Rel F σ a w->(∀ σ' a' w',K σ'->Rel F σ' a' w'->Q .normal a' w')->wpW P ops Q l a w
def AW (P:Program) (F:Fr) (c:Code) (σ:St) (Q:Exit->St->Prop):Prop:=
 ∀ (a:Act) (w:World),Rel F σ a w->c.wp P (fun e a' w'=>∃ σ',Q e σ'/\Rel F σ' a' w') a w
def RO (P:Program) (F:Fr) (σ:St) (o:Oper) (x:AV):Prop:=
 ∀ (H:Hd) (a:Act) (w:World),RelH F σ H a w->∃ v,roAt P o a w v/\VRel w (Sh F.X σ.ent H w) H x v
def AL (P:Program) (F:Fr) (σ:St) (o:Oper) (post:St->Prop):Prop:=
 ∀ (a:Act) (w:World),Rel F σ a w->o.wp P a w (fun a' w'=>(∃ u,a'=a.put o.dst u)/\Ext w w'/\∃ σ',post σ'/\Rel F σ' a' w') (fun _ _ _=>False)
def EF (P:Program) (F:Fr) (σ:St) (o:Oper) (post:St->Prop):Prop:=
 ∀ (a:Act) (w:World),Rel F σ a w->o.wp P a w (fun a' w'=>(∃ u,a'=a.put o.dst u)/\∃ σ',post σ'/\Rel F σ' a' w') (fun _ _ _=>False)
theorem AL.ef {P:Program} {F:Fr} {σ:St} {o:Oper} {post:St->Prop} (h:AL P F σ o post):EF P F σ o post:=
 fun a w r=>Oper.wp_mono2 (fun _ _ h=>⟨h.1,h.2.2⟩) (fun _ _ _ h=>h) (h a w r)
def dsts (ops:Array Oper):List (Option Nat):=ops.toList.map (·.dst)
def gOn (ops:Array Oper) (σ:St) (o:Oper) (want:Bool):Prop:=
 match o.guard with
 | none=>want=true
 | some (j,b)=>∃ t,(ops[j]?).bind (·.dst)=some t/\((∃ c,σ.get t=some (.d (.lit (.bool c)))/\(c==b)=want)\/(σ.get t=some (.tup [])/\want=false))
theorem zsD {ops:Array Oper} {σ:St} {o:Oper} (h:o.guard=none):gOn ops σ o true:=by simp [gOn,h]
theorem zku {ops:Array Oper} {σ:St} {o:Oper} {want b:Bool} {j:Nat} (t:Nat) (c:Bool) (h:o.guard=some (j,b)) (ht:(ops[j]?).bind (·.dst)=some t) (hs:σ.get t=some (.d (.lit (.bool c)))) (hc:(c==b)=want):gOn ops σ o want:=by
 unfold gOn;rw [h];exact ⟨t,ht,.inl ⟨c,hs,hc⟩⟩
theorem ztO {ops:Array Oper} {σ:St} {o:Oper} {b:Bool} {j:Nat} (t:Nat) (h:o.guard=some (j,b)) (ht:(ops[j]?).bind (·.dst)=some t) (hs:σ.get t=some (.tup [])):gOn ops σ o false:=by
 unfold gOn;rw [h];exact ⟨t,ht,.inr ⟨hs,rfl⟩⟩
section
variable {P:Program} {F:Fr} {ops:Array Oper} {σ:St} {K:St->Prop}
theorem gOn.wanted {o:Oper} {want:Bool} (h:gOn ops σ o want) {a:Act} {w:World} {H:Hd} (r:RelH F σ H a w):Region.wanted o (yielded ops a.tmps)=want:=by
 unfold gOn at h;unfold Region.wanted;cases hg:o.guard with
 | none=>simp only [hg] at h ⊢;exact h.symm
 | some g=>
  obtain ⟨j,b⟩:=g;simp only [hg] at h ⊢;obtain ⟨t,ht,⟨c,hs,hc⟩ | ⟨hs,rfl⟩⟩:=h
  rotate_left
  ·have hv:=r.slot t _ hs;have h1:a.tmps.getD t undef = .tuple #[]:=by
    generalize a.tmps.getD t undef=v at hv;cases hv with
    | tup _ cs hs' h=>
     have:cs=#[]:=Array.eq_empty_of_size_eq_zero (by simpa using hs');rw [this]
   have hy:yielded ops a.tmps j=none:=by
    unfold yielded;simp only [ht,Option.bind_some];rw [Array.getD_eq_getD_getElem?] at h1;cases ht':a.tmps[t]? with
    | none=>rfl
    | some v=>rw [ht'] at h1;simp at h1;rw [h1]
   rw [hy];rfl
  have hv:=r.slot t _ hs;have:a.tmps.getD t undef = .bool c:=by
   generalize a.tmps.getD t undef=v at hv;cases hv with
   | d _ _ h=>cases h;rfl
  have hget:a.tmps[t]? =some (.bool c):=by
   rw [Array.getD_eq_getD_getElem?] at this;cases ht':a.tmps[t]? with
   | none=>rw [ht'] at this;simp [undef] at this
   | some v=>rw [ht'] at this;simp at this;rw [this]
  have hy:yielded ops a.tmps j=some c:=by
   unfold yielded;simp only [ht,Option.bind_some,hget]
  rw [hy,<- hc];cases c<;>cases b<;>rfl
theorem AO.nil (h:K σ):AO P F ops [] σ K:=fun _ _ _ r hq=>hq _ _ _ h r
theorem AO.ro {o:Oper} {d:Nat} {x:AV} {rest:List (Nat×Oper)} (hd:o.dst=some d) (hlt:Nat.blt d σ.n=true) (hg:gOn ops σ o true)
  (h:RO P F σ o x) (hk:AO P F ops rest (σ.set d x) K):AO P F ops ((0,o)::rest) σ K:=by
 intro a w Q r hq;obtain ⟨H,r⟩:=r;rw [zcf,if_pos (hg.wanted r)];obtain ⟨v,hv,hx⟩:=h H a w r;refine ⟨v,hv,?_⟩;have hlt':d < σ.n:=by simpa using hlt
 have r':=r.set hlt' hx;rw [<- hd] at r';exact hk _ _ Q ⟨H,r'⟩ hq
theorem AO.al {o:Oper} {post:St->Prop} {rest:List (Nat×Oper)} (hg:gOn ops σ o true)
  (h:AL P F σ o post) (hk:∀ σ',post σ'->AO P F ops rest σ' K):AO P F ops ((1,o)::rest) σ K:=by
 intro a w Q r hq;rw [zcf,if_pos (hg.wanted r.choose_spec)];refine Oper.wp_mono2 (fun _ _ ⟨h1,h2,σ',hp,r'⟩=>⟨h1,h2,hk σ' hp _ _ Q r' hq⟩) (fun _ _ _ h=>h) (h a w r)
theorem AO.ef {c:Nat} {o:Oper} {post:St->Prop} {rest:List (Nat×Oper)} (hg:gOn ops σ o true)
  (h:EF P F σ o post) (hk:∀ σ',post σ'->AO P F ops rest σ' K):AO P F ops ((c+2,o)::rest) σ K:=by
 intro a w Q r hq;rw [zcf,if_pos (hg.wanted r.choose_spec)];refine Oper.wp_mono2 (fun a' w' ⟨h1,σ',hp,r'⟩=>⟨h1,hk σ' hp a' w' Q r' hq⟩) (fun _ _ _ h=>h) (h a w r)
theorem AO.skip {c:Nat} {o:Oper} {d:Nat} {rest:List (Nat×Oper)} (hd:o.dst=some d) (hlt:Nat.blt d σ.n=true) (hg:gOn ops σ o false)
  (hk:AO P F ops rest (σ.set d (.tup [])) K):AO P F ops ((c,o)::rest) σ K:=by
 intro a w Q r hq;obtain ⟨H,r⟩:=r;rw [zcf,if_neg (by rw [hg.wanted r];simp)];have hlt':d < σ.n:=by simpa using hlt
 have r':=r.set hlt' (.tup [] #[] rfl (by simp):VRel w _ H (.tup []) undef);rw [<- hd] at r';exact hk _ _ Q ⟨H,r'⟩ hq
theorem AO.weak {l:List (Nat×Oper)} {σ':St} (h:∀ a w,Rel F σ a w->Rel F σ' a w) (hk:AO P F ops l σ' K):AO P F ops l σ K:=
 fun a w Q r hq=>hk a w Q (h a w r) hq
end
section
variable {P:Program} {F:Fr} {σ:St} {Q:Exit->St->Prop}
theorem AW.weak {c:Code} {σ':St} (h:∀ a w,Rel F σ a w->Rel F σ' a w) (hk:AW P F c σ' Q):AW P F c σ Q:=
 fun a w r=>hk a w (h a w r)
theorem AW.mono {c:Code} {Q':Exit->St->Prop} (h:AW P F c σ Q) (hq:∀ e σ,Q e σ->Q' e σ):AW P F c σ Q':=
 fun a w r=>wp_mono (h a w r) fun _ _ _ ⟨σ',h1,h2⟩=>⟨σ',hq _ _ h1,h2⟩
theorem AW.region {id:Nat} {ops:Array Oper} (cs:List Nat) (hc:Nat.beq cs.length ops.size=true) (h:AO P F ops (cs.zip ops.toList) σ (Q .normal)):AW P F (.region id ops false) σ Q:=
 fun a w r=>zlH cs (Nat.eq_of_beq_eq_true hc) (h a w _ r fun σ' _ _ hk hr=>⟨σ',hk,hr⟩)
theorem Rel.drew {a:Act} {w:World} (r:Rel F σ a w):Rel F σ a { w with drawn:=w.drawn+1 }:=by
 obtain ⟨H,r⟩:=r;exact ⟨H,r.ext ⟨rfl,rfl,rfl,Nat.le_refl _,fun _ _=>rfl⟩⟩
theorem AW.drawn {id:Nat} {ops:Array Oper} (ord:List (Nat×Nat)) (hm:P.follows .mixedOrders=true) (hB:zkC ops ord=true)
  (h:AO P F ops (zhD ops ord) σ (Q .normal)):AW P F (.region id ops true) σ Q:=
 fun a _ r=>zlG ord hm hB (h a _ _ r.drew fun σ' _ _ hk hr=>⟨σ',hk,hr⟩)
theorem AW.skip (h:Q .normal σ):AW P F .skip σ Q:=fun _ _ r=>wp_skip ⟨σ,h,r⟩
theorem AW.exit {id:Nat} (h:Q (.exit id) σ):AW P F (.exit id) σ Q:=fun _ _ r=>wp_exit ⟨σ,h,r⟩
theorem AW.ret (h:Q .ret σ):AW P F .ret σ Q:=fun _ _ r=>wp_ret ⟨σ,h,r⟩
def Then (next:St->Prop) (Q:Exit->St->Prop):Exit->St->Prop
 | .normal,σ=>next σ
 | e,σ=>Q e σ
theorem AW.seq {x y:Code} (h:AW P F x σ (Then (fun σ'=>AW P F y σ' Q) Q)):AW P F (.seq x y) σ Q:=by
 intro a w r;refine wp_seq (wp_mono (h a w r) ?_);rintro e a' w' ⟨σ',h1,h2⟩;cases e with
 | normal=>exact h1 a' w' h2
 | _=>exact ⟨σ',h1,h2⟩
theorem AW.cut {x y:Code} (M:St->Prop) (h:AW P F x σ (Then M Q)) (k:∀ σ',M σ'->AW P F y σ' Q):AW P F (.seq x y) σ Q:=
 AW.seq (h.mono fun e σ' h=>by cases e<;>first | exact k σ' h | exact h)
def zoq (id:Nat) (Q:Exit->St->Prop):Exit->St->Prop
 | .exit id',σ=>bif Nat.beq id' id then Q .normal σ else Q (.exit id') σ
 | e,σ=>Q e σ
theorem AW.block {id:Nat} {c:Code} (h:AW P F c σ (zoq id Q)):AW P F (.block id c) σ Q:=by
 intro a w r;refine wp_block (wp_mono (h a w r) ?_);rintro e a' w' ⟨σ',h1,h2⟩;cases e with
 | exit id'=>
  simp only [Exit.inBlock,zoq] at h1 ⊢;by_cases hid:id'=id
  ·subst hid;rw [if_pos rfl];simp at h1;exact ⟨σ',h1,h2⟩
  ·rw [if_neg hid];have:Nat.beq id' id=false:=by
    cases hb:Nat.beq id' id
    ·rfl
    ·exact absurd (Nat.eq_of_beq_eq_true hb) hid
   rw [this] at h1;exact ⟨σ',h1,h2⟩
 | _=>exact ⟨σ',h1,h2⟩
def avc1:Value->AV
 | .slice none 0 0 => .nil
 | .slice _ _ _ => .any
 | .agg _ => .any
 | .tuple _ => .any
 | v => .d (.lit v)
def avc:Value->AV
 | .agg cs => .agg (cs.toList.map avc1)
 | v=>avc1 v
def St.ev (σ:St):Operand->Option AV
 | .tmp t=>σ.get t
 | .const v=>some (avc v)
 | .func f=>some (.fn f [])
 | .global _=>none
theorem zpp (w:World) (S:Nat->Prop) (H:Hd) (v:Value):VRel w S H (avc1 v) v:=by
 cases v with
 | slice a n c=>
  unfold avc1;split
  ·rename_i h;cases h;exact .nil
  ·exact .any _
  ·exact .any _
  ·exact .any _
  ·rename_i h _ _;exact absurd rfl (h _ _ _)
 | agg cs=>exact .any _
 | tuple cs=>exact .any _
 | _=>exact .d _ _ (.lit _ rfl)
theorem zmu (w:World) (S:Nat->Prop) (H:Hd) (v:Value):VRel w S H (avc v) v:=by
 unfold avc;split
 ·rename_i cs;refine .agg _ _ (by simp) fun i hi => ?_
  have hi':i < cs.size:=by simpa using hi
  have h1:cs.getD i undef=cs[i]:=by simp [hi']
  have h2:(cs.toList.map avc1).getD i default=avc1 cs[i]:=by simp [List.getD_eq_getElem?_getD,hi']
  rw [h1,h2];exact zpp w S H _
 ·exact zpp w S H _
theorem RelH.ev {H:Hd} {a:Act} {w:World} (r:RelH F σ H a w) {x:Operand} {y:AV} (h:σ.ev x=some y):VRel w (Sh F.X σ.ent H w) H y (a.eval x):=by
 cases x with
 | tmp t=>exact r.slot t y h
 | const v=>cases h;exact zmu _ _ _ v
 | func f=>cases h;exact .fn f [] #[] rfl (by simp)
 | global g=>cases h
theorem RelH.lit {H:Hd} {a:Act} {w:World} (r:RelH F σ H a w) {x:Operand} {v:Value} (h:σ.ev x=some (.d (.lit v))):a.eval x=v:=by
 have:=r.ev h;generalize a.eval x=u at this;cases this with
 | d _ _ h=>cases h;rfl
theorem AW.cond {c:Operand} {x y:Code} {t:Bool} (hc:σ.ev c=some (.d (.lit (.bool t)))) (ht:t=true->AW P F x σ Q) (hf:t=false->AW P F y σ Q):AW P F (.cond c x y) σ Q:=by
 intro a w r;obtain ⟨H,r⟩:=r;have he:=r.lit hc;exact wp_cond_split he (fun h=>ht h a w ⟨H,r⟩) (fun h=>hf h a w ⟨H,r⟩)
theorem AW.cond_t {c:Operand} {x y:Code} (hc:σ.ev c=some (.d (.lit (.bool true)))) (ht:AW P F x σ Q):AW P F (.cond c x y) σ Q:=AW.cond hc (fun _=>ht) (fun h=>by cases h)
theorem AW.cond_f {c:Operand} {x y:Code} (hc:σ.ev c=some (.d (.lit (.bool false)))) (hf:AW P F y σ Q):AW P F (.cond c x y) σ Q:=AW.cond hc (fun h=>by cases h) (fun _=>hf)
theorem AW.loop_nat {c:Code} (I:Nat->St->Prop)
  (round:∀ m σ,I m σ->AW P F c σ (Then (fun σ'=>∃ m',m' < m/\I m' σ') Q)) {m:Nat} (h₀:I m σ):AW P F (.loop c) σ Q:=by
 intro a w r b k cs;have key:∀ n σ a w,I n σ->Rel F σ a w->
   ∃ e a' w',(∃ σ',Q e σ'/\Rel F σ' a' w')/\Arrives P (lone (b.at a (.code c :: .inLoop c::k)) cs w) b k cs e a' w':=by
  intro n;induction n using Nat.strongRecOn with
  | _ n ih=>
   intro σ a w hI r;obtain ⟨e,a₁,w₁,⟨σ₁,hq,r₁⟩,harr⟩:=round n σ hI a w r b (.inLoop c::k) cs;cases e with
   | normal=>
    obtain ⟨m',hlt,hI'⟩:=hq;obtain ⟨e₂,a₂,w₂,hq₂,harr₂⟩:=ih m' hlt σ₁ a₁ w₁ hI' r₁;exact ⟨e₂,a₂,w₂,hq₂,.of_steps (Steps.trans harr (.one step_inLoop)) harr₂⟩
   | exit id=>exact ⟨_,a₁,w₁,⟨σ₁,hq,r₁⟩,.pass (x := .inLoop c) rfl (fun _ _ => .inl (by simp)) harr⟩
   | goto l=>exact ⟨_,a₁,w₁,⟨σ₁,hq,r₁⟩,.pass (x := .inLoop c) rfl (fun _ _ => .inl (by simp)) harr⟩
   | ret=>exact ⟨_,a₁,w₁,⟨σ₁,hq,r₁⟩,.pass (x := .inLoop c) rfl (fun _ _ => .inl (by simp)) harr⟩
   | panic ch=>exact ⟨_,a₁,w₁,⟨σ₁,hq,r₁⟩,.pass (x := .inLoop c) rfl (fun _ _ => .inl (by simp)) harr⟩
   | outgrown=>exact ⟨_,a₁,w₁,⟨σ₁,hq,r₁⟩,.pass (x := .inLoop c) rfl (fun _ _ => .inl (by simp)) harr⟩
 obtain ⟨e,a',w',hq,harr⟩:=key m σ a w h₀ r;exact ⟨e,a',w',hq,.of_steps (.one step_loop) harr⟩
end
end Go.Ab
