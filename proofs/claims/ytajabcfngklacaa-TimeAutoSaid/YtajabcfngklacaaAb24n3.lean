import Derived.Test.YtajabcfngklacaaAb24n2
set_option linter.unusedVariables false
set_option linter.unusedSimpArgs false
set_option linter.unusedSectionVars false
namespace Go.Ab
open Go.RowKit (Below)
def AO (P:Program) (F:Fr) (ops:Array Oper) (l:List (Nat×Oper)) (σ:St) (K:St->Prop):Prop:=
 ∀ (a:Act) (w:World) (Q:Exit->Act->World->Prop),Rel F σ a w->(∀ σ' b w',K σ'->Rel F σ' b w'->Q .normal b w')->wpW P ops Q l a w
def AW (P:Program) (F:Fr) (c:Code) (σ:St) (Q:Exit->St->Prop):Prop:=
 ∀ (a:Act) (w:World),Rel F σ a w->c.wp P (fun e b w'=>∃ σ',Q e σ'/\Rel F σ' b w') a w
def RO (P:Program) (F:Fr) (σ:St) (o:Oper) (x:AV):Prop:=
 ∀ (H:Hd) (a:Act) (w:World),RelH F σ H a w->∃ v,roAt P o a w v/\VRel w (Sh F.X σ.ent H w) H x v
def AL (P:Program) (F:Fr) (σ:St) (o:Oper) (post:St->Prop):Prop:=
 ∀ (a:Act) (w:World),Rel F σ a w->o.wp P a w (fun b w'=>(∃ u,b=a.put o.dst u)/\Ext w w'/\∃ σ',post σ'/\Rel F σ' b w') (fun _ _ _=>False)
def EF (P:Program) (F:Fr) (σ:St) (o:Oper) (post:St->Prop):Prop:=
 ∀ (a:Act) (w:World),Rel F σ a w->o.wp P a w (fun b w'=>(∃ u,b=a.put o.dst u)/\∃ σ',post σ'/\Rel F σ' b w') (fun _ _ _=>False)
theorem AL.ef {P:Program} {F:Fr} {σ:St} {o:Oper} {post:St->Prop} (h:AL P F σ o post):EF P F σ o post:=
 fun a w r=>Oper.wp_mono2 (fun _ _ h=>⟨h.1,h.2.2⟩) (fun _ _ _ h=>h) (h a w r)
def gOn (ops:Array Oper) (σ:St) (o:Oper) (a:Bool):Prop:=
 match o.guard with
 | none=>a=true
 | some (j,b)=>∃ t,(ops[j]?).bind (·.dst)=some t/\((∃ c,σ.get t=some (.d (.lit (.bool c)))/\(c==b)=a)\/(σ.get t=some (.tup [])/\a=false))
theorem zCl {ops:Array Oper} {σ:St} {o:Oper} (h:o.guard=none):gOn ops σ o true:=by simp [gOn,h]
theorem ztf {ops:Array Oper} {σ:St} {o:Oper} {a b:Bool} {j:Nat} (t:Nat) (c:Bool) (h:o.guard=some (j,b)) (d:(ops[j]?).bind (·.dst)=some t) (hs:σ.get t=some (.d (.lit (.bool c)))) (e:(c==b)=a):gOn ops σ o a:=by
 unfold gOn;rw [h];exact ⟨t,d,.inl ⟨c,hs,e⟩⟩
theorem zDG {ops:Array Oper} {σ:St} {o:Oper} {b:Bool} {j:Nat} (t:Nat) (h:o.guard=some (j,b)) (a:(ops[j]?).bind (·.dst)=some t) (hs:σ.get t=some (.tup [])):gOn ops σ o false:=by
 unfold gOn;rw [h];exact ⟨t,a,.inr ⟨hs,rfl⟩⟩
section
variable {P:Program} {F:Fr} {ops:Array Oper} {σ:St} {K:St->Prop}
theorem gOn.wanted {o:Oper} {f:Bool} (h:gOn ops σ o f) {a:Act} {w:World} {H:Hd} (r:RelH F σ H a w):Region.wanted o (yielded ops a.tmps)=f:=by
 unfold gOn at h;unfold Region.wanted;cases p:o.guard with
 | none=>simp only [p] at h ⊢;exact h.symm
 | some g=>
  obtain ⟨j,b⟩:=g;simp only [p] at h ⊢;obtain ⟨t,q,⟨c,hs,s⟩ | ⟨hs,rfl⟩⟩:=h
  rotate_left
  ·have i:=r.slot t _ hs;have l:a.tmps.getD t undef = .tuple #[]:=by
    generalize a.tmps.getD t undef=v at i;cases i with
    | tup _ cs n h=>
     have:cs=#[]:=Array.eq_empty_of_size_eq_zero (by simpa using n);rw [this]
   have m:yielded ops a.tmps j=none:=by
    unfold yielded;simp only [q,Option.bind_some];rw [Array.getD_eq_getD_getElem?] at l;cases e:a.tmps[t]? with
    | none=>rfl
    | some v=>rw [e] at l;simp at l;rw [l]
   rw [m];rfl
  have i:=r.slot t _ hs;have:a.tmps.getD t undef = .bool c:=by
   generalize a.tmps.getD t undef=v at i;cases i with
   | d _ _ h=>cases h;rfl
  have k:a.tmps[t]? =some (.bool c):=by
   rw [Array.getD_eq_getD_getElem?] at this;cases e:a.tmps[t]? with
   | none=>rw [e] at this;simp [undef] at this
   | some v=>rw [e] at this;simp at this;rw [this]
  have m:yielded ops a.tmps j=some c:=by
   unfold yielded;simp only [q,Option.bind_some,k]
  rw [m,<- s];cases c<;>cases b<;>rfl
theorem AO.nil (h:K σ):AO P F ops [] σ K:=fun _ _ _ r a=>a _ _ _ h r
theorem AO.ro {o:Oper} {d:Nat} {x:AV} {b:List (Nat×Oper)} (g:o.dst=some d) (e:Nat.blt d σ.n=true) (i:gOn ops σ o true)
  (h:RO P F σ o x) (j:AO P F ops b (σ.set d x) K):AO P F ops ((0,o)::b) σ K:=by
 intro a w Q r k;obtain ⟨H,r⟩:=r;rw [zhM,if_pos (i.wanted r)];obtain ⟨v,l,m⟩:=h H a w r;refine ⟨v,l,?_⟩;have c:d < σ.n:=by simpa using e
 have f:=r.set c m;rw [<- g] at f;exact j _ _ Q ⟨H,f⟩ k
theorem AO.al {o:Oper} {post:St->Prop} {b:List (Nat×Oper)} (c:gOn ops σ o true)
  (h:AL P F σ o post) (d:∀ σ',post σ'->AO P F ops b σ' K):AO P F ops ((1,o)::b) σ K:=by
 intro a w Q r e;rw [zhM,if_pos (c.wanted r.choose_spec)];refine Oper.wp_mono2 (fun _ _ ⟨h1,h2,σ',hp,r'⟩=>⟨h1,h2,d σ' hp _ _ Q r' e⟩) (fun _ _ _ h=>h) (h a w r)
theorem AO.ef {c:Nat} {o:Oper} {post:St->Prop} {b:List (Nat×Oper)} (d:gOn ops σ o true)
  (h:EF P F σ o post) (e:∀ σ',post σ'->AO P F ops b σ' K):AO P F ops ((c+2,o)::b) σ K:=by
 intro a w Q r f;rw [zhM,if_pos (d.wanted r.choose_spec)];refine Oper.wp_mono2 (fun a' w' ⟨h1,σ',hp,r'⟩=>⟨h1,e σ' hp a' w' Q r' f⟩) (fun _ _ _ h=>h) (h a w r)
theorem AO.skip {c:Nat} {o:Oper} {d:Nat} {b:List (Nat×Oper)} (h:o.dst=some d) (f:Nat.blt d σ.n=true) (i:gOn ops σ o false)
  (j:AO P F ops b (σ.set d (.tup [])) K):AO P F ops ((c,o)::b) σ K:=by
 intro a w Q r k;obtain ⟨H,r⟩:=r;rw [zhM,if_neg (by rw [i.wanted r];simp)];have e:d < σ.n:=by simpa using f
 have g:=r.set e (.tup [] #[] rfl (by simp):VRel w _ H (.tup []) undef);rw [<- h] at g;exact j _ _ Q ⟨H,g⟩ k
theorem AO.weak {l:List (Nat×Oper)} {σ':St} (h:∀ a w,Rel F σ a w->Rel F σ' a w) (b:AO P F ops l σ' K):AO P F ops l σ K:=
 fun a w Q r c=>b a w Q (h a w r) c
end
section
variable {P:Program} {F:Fr} {σ:St} {Q:Exit->St->Prop}
theorem AW.weak {c:Code} {σ':St} (h:∀ a w,Rel F σ a w->Rel F σ' a w) (b:AW P F c σ' Q):AW P F c σ Q:=
 fun a w r=>b a w (h a w r)
theorem AW.mono {c:Code} {b:Exit->St->Prop} (h:AW P F c σ Q) (d:∀ e σ,Q e σ->b e σ):AW P F c σ b:=
 fun a w r=>wp_mono (h a w r) fun _ _ _ ⟨σ',h1,h2⟩=>⟨σ',d _ _ h1,h2⟩
theorem AW.region {id:Nat} {ops:Array Oper} (cs:List Nat) (b:Nat.beq cs.length ops.size=true) (h:AO P F ops (cs.zip ops.toList) σ (Q .normal)):AW P F (.region id ops false) σ Q:=
 fun a w r=>zuN cs (Nat.eq_of_beq_eq_true b) (h a w _ r fun σ' _ _ c d=>⟨σ',c,d⟩)
theorem Rel.drew {a:Act} {w:World} (r:Rel F σ a w):Rel F σ a { w with drawn:=w.drawn+1 }:=by
 obtain ⟨H,r⟩:=r;exact ⟨H,r.ext ⟨rfl,rfl,rfl,Nat.le_refl _,fun _ _=>rfl⟩⟩
theorem AW.drawn {id:Nat} {ops:Array Oper} (b:List (Nat×Nat)) (c:P.follows .mixedOrders=true) (d:ztn ops b=true)
  (h:AO P F ops (zpo ops b) σ (Q .normal)):AW P F (.region id ops true) σ Q:=
 fun a _ r=>zuM b c d (h a _ _ r.drew fun σ' _ _ e f=>⟨σ',e,f⟩)
theorem AW.skip (h:Q .normal σ):AW P F .skip σ Q:=fun _ _ r=>wp_skip ⟨σ,h,r⟩
theorem AW.exit {id:Nat} (h:Q (.exit id) σ):AW P F (.exit id) σ Q:=fun _ _ r=>wp_exit ⟨σ,h,r⟩
theorem AW.ret (h:Q .ret σ):AW P F .ret σ Q:=fun _ _ r=>wp_ret ⟨σ,h,r⟩
def Then (next:St->Prop) (Q:Exit->St->Prop):Exit->St->Prop
 | .normal,σ=>next σ
 | e,σ=>Q e σ
theorem AW.seq {x y:Code} (h:AW P F x σ (Then (fun σ'=>AW P F y σ' Q) Q)):AW P F (.seq x y) σ Q:=by
 intro a w r;refine wp_seq (wp_mono (h a w r) ?_);rintro e a' w' ⟨σ',h1,h2⟩;cases e with
 | normal=>exact h1 a' w' h2
 | _=>exact ⟨σ',h1,h2⟩
def zxK (id:Nat) (Q:Exit->St->Prop):Exit->St->Prop
 | .exit id',σ=>bif Nat.beq id' id then Q .normal σ else Q (.exit id') σ
 | e,σ=>Q e σ
theorem AW.block {id:Nat} {c:Code} (h:AW P F c σ (zxK id Q)):AW P F (.block id c) σ Q:=by
 intro a w r;refine wp_block (wp_mono (h a w r) ?_);rintro e a' w' ⟨σ',h1,h2⟩;cases e with
 | exit d=>
  simp only [Exit.inBlock,zxK] at h1 ⊢;by_cases b:d=id
  ·subst b;rw [if_pos rfl];simp at h1;exact ⟨σ',h1,h2⟩
  ·rw [if_neg b];have:Nat.beq d id=false:=by
    cases f:Nat.beq d id
    ·rfl
    ·exact absurd (Nat.eq_of_beq_eq_true f) b
   rw [this] at h1;exact ⟨σ',h1,h2⟩
 | _=>exact ⟨σ',h1,h2⟩
def avc1:Value->AV
 | .slice none 0 0 => .nil
 | .slice _ _ _ => .any
 | .agg _ => .any
 | .tuple _ => .any
 | v => .d (.lit v)
def avc:Value->AV
 | .agg cs => .agg (cs.toList.map avc1)
 | v=>avc1 v
def St.ev (σ:St):Operand->Option AV
 | .tmp t=>σ.get t
 | .const v=>some (avc v)
 | .func f=>some (.fn f [])
 | .global _=>none
theorem zyS (w:World) (S:Nat->Prop) (H:Hd) (v:Value):VRel w S H (avc1 v) v:=by
 cases v with
 | slice a n c=>
  unfold avc1;split
  ·rename_i h;cases h;exact .nil
  ·exact .any _
  ·exact .any _
  ·exact .any _
  ·rename_i h _ _;exact absurd rfl (h _ _ _)
 | agg cs=>exact .any _
 | tuple cs=>exact .any _
 | _=>exact .d _ _ (.lit _ rfl)
theorem zvL (w:World) (S:Nat->Prop) (H:Hd) (v:Value):VRel w S H (avc v) v:=by
 unfold avc;split
 ·rename_i cs;refine .agg _ _ (by simp) fun i b => ?_
  have a:i < cs.size:=by simpa using b
  have c:cs.getD i undef=cs[i]:=by simp [a]
  have d:(cs.toList.map avc1).getD i default=avc1 cs[i]:=by simp [List.getD_eq_getElem?_getD,a]
  rw [c,d];exact zyS w S H _
 ·exact zyS w S H _
theorem RelH.ev {H:Hd} {a:Act} {w:World} (r:RelH F σ H a w) {x:Operand} {y:AV} (h:σ.ev x=some y):VRel w (Sh F.X σ.ent H w) H y (a.eval x):=by
 cases x with
 | tmp t=>exact r.slot t y h
 | const v=>cases h;exact zvL _ _ _ v
 | func f=>cases h;exact .fn f [] #[] rfl (by simp)
 | global g=>cases h
theorem RelH.lit {H:Hd} {a:Act} {w:World} (r:RelH F σ H a w) {x:Operand} {v:Value} (h:σ.ev x=some (.d (.lit v))):a.eval x=v:=by
 have:=r.ev h;generalize a.eval x=u at this;cases this with
 | d _ _ h=>cases h;rfl
theorem AW.cond {c:Operand} {x y:Code} {t:Bool} (b:σ.ev c=some (.d (.lit (.bool t)))) (d:t=true->AW P F x σ Q) (e:t=false->AW P F y σ Q):AW P F (.cond c x y) σ Q:=by
 intro a w r;obtain ⟨H,r⟩:=r;have f:=r.lit b;exact wp_cond_split f (fun h=>d h a w ⟨H,r⟩) (fun h=>e h a w ⟨H,r⟩)
theorem AW.loop_nat {c:Code} (I:Nat->St->Prop)
  (p:∀ m σ,I m σ->AW P F c σ (Then (fun σ'=>∃ y,y < m/\I y σ') Q)) {m:Nat} (s:I m σ):AW P F (.loop c) σ Q:=by
 intro a w r b k cs;have A:∀ n σ a w,I n σ->Rel F σ a w->
   ∃ e z w',(∃ σ',Q e σ'/\Rel F σ' z w')/\Arrives P (lone (b.at a (.code c :: .inLoop c::k)) cs w) b k cs e z w':=by
  intro n;induction n using Nat.strongRecOn with
  | _ n E=>
   intro σ a w D r;obtain ⟨e,g,h,⟨d,o,i⟩,f⟩:=p n σ D a w r b (.inLoop c::k) cs;cases e with
   | normal=>
    obtain ⟨y,B,C⟩:=o;obtain ⟨t,u,v,q,j⟩:=E y B d g h C i;exact ⟨t,u,v,q,.of_steps (Steps.trans f (.one step_inLoop)) j⟩
   | exit id=>exact ⟨_,g,h,⟨d,o,i⟩,.pass (x := .inLoop c) rfl (fun _ _ => .inl (by simp)) f⟩
   | goto l=>exact ⟨_,g,h,⟨d,o,i⟩,.pass (x := .inLoop c) rfl (fun _ _ => .inl (by simp)) f⟩
   | ret=>exact ⟨_,g,h,⟨d,o,i⟩,.pass (x := .inLoop c) rfl (fun _ _ => .inl (by simp)) f⟩
   | panic H=>exact ⟨_,g,h,⟨d,o,i⟩,.pass (x := .inLoop c) rfl (fun _ _ => .inl (by simp)) f⟩
   | outgrown=>exact ⟨_,g,h,⟨d,o,i⟩,.pass (x := .inLoop c) rfl (fun _ _ => .inl (by simp)) f⟩
 obtain ⟨e,z,w',o,f⟩:=A m σ a w s r;exact ⟨e,z,w',o,.of_steps (.one step_loop) f⟩
end
end Go.Ab
