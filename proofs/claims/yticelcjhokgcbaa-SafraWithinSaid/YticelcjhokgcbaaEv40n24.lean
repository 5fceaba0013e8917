import Derived.Test.YticelcjhokgcbaaEv40n15
import Derived.Test.YticelcjhokgcbaaAb24n19
set_option linter.unusedVariables false
set_option linter.unusedSimpArgs false
set_option linter.unusedSectionVars false
namespace Go.Ab
noncomputable section
set_option linter.unusedVariables false
variable {R:Type}
def ESt.prepF (s:ESt) (k:Nat) (t:Ty):ESt:=match s.get k with
 | some (.ptr id _)=>match s.ent id with
  | some (.box _ cs)=>(s.boxDat id 0 cs.length).freezeT id t
  | _=>s
 | _=>s
theorem zwX (s:ESt) (k:Nat) (t:Ty):Wk s (s.prepF k t)/\Sfx s (s.prepF k t):=by
 unfold ESt.prepF
 split
 ·rename_i id o _
  split
  ·rename_i cs _;obtain ⟨h1,h2⟩:=zxy (s.boxDat id 0 cs.length) id t;exact ⟨(ziW id cs.length s 0).trans h1,(Sfx.boxDat id cs.length s 0).trans h2⟩
  ·exact ⟨Wk.refl _,Sfx.refl _⟩
 ·exact ⟨Wk.refl _,Sfx.refl _⟩
inductive OP where
 | leaf
 | one (i:Nat) (t:OP)
 | rd (k i:Nat) (W:List Nat) (t:OP)
 | frz (k:Nat) (ty:Ty) (t:OP)
 | alt (c i:Nat) (t rest:OP)
 | stop
def OP.alts:OP->List Nat
 | .alt _ i _ rest=>i::rest.alts
 | _=>[]
def OP.cov (ops:Array Oper) (li:Array Bool):OP->Bool
 | .alt c i t rest=>(Region.ready .any ops li).contains i && (Region.ready .any ops li).all fun j=>(OP.alt c i t rest).alts.contains j
 | .frz _ _ t=>t.cov ops li
 | .stop=>false
 | _=>true
abbrev Pn:=Nat×Nat×List Nat
def sameF:EV->EV->Bool
 | .own a,.own b=>Nat.beq a b
 | .ptr a k,.ptr b l=>Nat.beq a b && Nat.beq k l
 | .nil,.nil=>true
 | _,_=>false
def fOK (TT:List TE) (ops:Array Oper) (s:ESt) (i:Nat):Bool:=match ops[i]? with
 | some oi=>(match oi.dst with
  | some d=>(!(oi.looksAt ops).contains d) && (match evRO (R:=EV) TT s oi.op some with
   | some y=>(match s.get d with
    | some y2=>sameF y y2
    | none=>false)
   | none=>false)
  | none=>false)
 | none=>false
inductive OT where
 | leaf (ord:List (Nat×Nat))
 | one (i:Nat) (t:OT)
 | alt (c i:Nat) (t rest:OT)
 | live (D:List Nat) (t:OT)
 | rd (i:Nat) (W:List Nat) (t:OT)
 | ban (i:Nat) (W:List Nat) (t rest:OT)
 | pnd (t:OP)
 | stop
def OT.alts:OT->List Nat
 | .alt _ i _ rest=>i::rest.alts
 | _=>[]
def OT.cov (ops:Array Oper) (li:Array Bool) (B:List Nat):OT->Bool
 | .alt c i t rest=>(Region.ready .any ops li).contains i && (Region.ready .any ops li).all fun j=>B.contains j || (OT.alt c i t rest).alts.contains j
 | .stop=>false
 | .live _ t=>t.cov ops li B
 | .pnd t=>t.cov ops li
 | _=>true
def dB (ops:Array Oper) (li:Array Bool) (D:List Nat) (i:Nat) (oi:Oper) (W:List Nat):Bool:=
 (!D.contains i) && (Region.ready .any ops li).contains i &&
 (W.all fun k=>(!li.getD k true) && match ops[k]? with
  | some ok=>ok.after.any (fun e=>Region.binds .any e && (e.on==i || W.contains e.on))
  | none=>false) &&
 (List.range ops.size).all fun j=>j==i || li.getD j true || W.contains j || match ops[j]? with
   | some oj=>oi.apart ops oj && !D.contains j
   | none=>true
def dT (ops:Array Oper) (li:Array Bool) (D:List Nat) (i:Nat) (oi:Oper) (W:List Nat):Bool:=
 (!D.contains i) && (Region.ready .any ops li).contains i &&
 (W.all fun k=>(!li.getD k true) && match ops[k]? with
  | some ok=>ok.after.any (fun e=>Region.binds .any e && (e.on==i || W.contains e.on))
  | none=>false) &&
 (List.range ops.size).all fun j=>j==i || li.getD j true || W.contains j || D.contains j || match ops[j]? with
   | some oj=>oi.apart ops oj && zCk oj
   | none=>true
def invB (ops:Array Oper) (li:Array Bool) (ord:List (Nat×Nat)):Bool:=
 Nat.beq li.size ops.size && ((List.range ops.size).all fun j=>(!(li.getD j true))==(ord.map (·.2)).contains j) && ((ord.map (·.2)).all fun j=>Nat.blt j ops.size) &&
  ((List.range ops.size).all fun j => !(li.getD j false) || match ops[j]? with
   | some o=>o.after.all fun e => !(Region.binds .any e) || li.getD e.on false
   | none=>true)
theorem zyW {ops:Array Oper} {li:Array Bool} {ord:List (Nat×Nat)} (h:invB ops li ord=true):Inv ops li ord:=by
 simp only [invB,Bool.and_eq_true] at h;obtain ⟨⟨⟨h1,h2⟩,h3⟩,h4⟩:=h;have h1:=Nat.eq_of_beq_eq_true h1;refine ⟨h1,fun j hj => ?_,fun j hj => ?_,fun j o ho hl e he hb => ?_⟩
 ·have:=List.all_eq_true.1 h2 j (List.mem_range.2 hj);rw [beq_iff_eq] at this;rw [List.contains_eq_mem] at this
  cases hl:li.getD j true with
  | true=>rw [hl] at this;simp only [Bool.not_true] at this;have:=of_decide_eq_false this.symm;simp only [Bool.true_eq_false,false_iff];exact this
  | false=>rw [hl] at this;simp only [Bool.not_false] at this;have:=of_decide_eq_true this.symm;simp only [true_iff];exact this
 ·have:=List.all_eq_true.1 h3 j hj;simpa using this
 ·have hj:j < ops.size:=(Array.getElem?_eq_some_iff.1 ho).1;have:=List.all_eq_true.1 h4 j (List.mem_range.2 hj);rw [hl,ho] at this;simp only [Bool.not_true,Bool.false_or] at this;have:=(Array.all_eq_true_iff_forall_mem.1 this) e he;rw [hb] at this;simpa using this
def evP (TT:List TE) (Γ:List CE) (bo:Option R->Option R->Option R) (ops:Array Oper) (K:ESt->Option R):OP->List Pn->Nat->Array Bool->ESt->Option R:=fun _ _ _ _ s=>bif Nat.beq s.n 0 && Nat.beq s.n 1 then K s else none
def evT (TT:List TE) (Γ:List CE) (bo:Option R->Option R->Option R) (ops:Array Oper) (K:ESt->Option R):OT->Option (List Nat×List Nat)->Nat->Array Bool->ESt->Option R
 | .leaf ord,none,n,li,s=>bif Nat.beq ord.length n && invB ops li ord && chk ops ord then zh0 TT Γ bo ops.toList (zmv ops ord) s K else none
 | .leaf _,some _,n,li,s=>match n with
  | 0=>bif (Region.ready .any ops li).isEmpty then K s else none
  | _=>none
 | .one i t,none,n,li,s=>match n,ops[i]? with
  | n+1,some o=>bif zjk o && Region.free .any ops li i && (Region.ready .any ops li).contains i && t.cov ops (li.setIfInBounds i true) [] then
    zh0 TT Γ bo ops.toList [(0,o)] s fun s'=>evT TT Γ bo ops K t none n (li.setIfInBounds i true) s' else none
  | _,_=>none
 | .one i t,some DB,n,li,s=>match n,ops[i]? with
  | n+1,some o=>bif zjk o && Region.free .any ops li i && (Region.ready .any ops li).contains i && (!DB.1.contains i) && t.cov ops (li.setIfInBounds i true) DB.2 then
    zh0 TT Γ bo ops.toList [(0,o)] s fun s'=>evT TT Γ bo ops K t (some DB) n (li.setIfInBounds i true) s' else none
  | _,_=>none
 | .rd _ _ _,none,_,_,_=>none
 | .rd i W t,some DB,n,li,s=>match n,ops[i]? with
  | n+1,some o=>bif dB ops li DB.1 i o W && t.cov ops (li.setIfInBounds i true) DB.2 then
    zh0 TT Γ bo ops.toList [(0,o)] s fun s'=>evT TT Γ bo ops K t (some DB) n (li.setIfInBounds i true) s' else none
  | _,_=>none
 | .ban _ _ _ _,none,_,_,_=>none
 | .ban i W t rest,some DB,n,li,s=>match n,ops[i]? with
  | n+1,some o=>bif dT ops li DB.1 i o W && t.cov ops (li.setIfInBounds i true) DB.2 && rest.cov ops li (i::DB.2) then
    bo (zh0 TT Γ bo ops.toList [(0,o)] s fun s'=>evT TT Γ bo ops K t (some DB) n (li.setIfInBounds i true) s') (evT TT Γ bo ops K rest (some (DB.1,i::DB.2)) (n+1) li s) else none
  | _,_=>none
 | .alt c i t rest,none,n,li,s=>match n,ops[i]? with
  | m+1,some o=>bif t.cov ops (li.setIfInBounds i true) [] then (match rest with
    | .stop=>zh0 TT Γ bo ops.toList [(c,o)] s fun s'=>evT TT Γ bo ops K t none m (li.setIfInBounds i true) s'
    | _=>bo (zh0 TT Γ bo ops.toList [(c,o)] s fun s'=>evT TT Γ bo ops K t none m (li.setIfInBounds i true) s') (evT TT Γ bo ops K rest none n li s)) else none
  | _,_=>none
 | .alt c i t rest,some DB,n,li,s=>match n,ops[i]? with
  | m+1,some o=>bif t.cov ops (li.setIfInBounds i true) (bif DB.1.contains i then [] else DB.2) && (DB.1.contains i || Nat.ble c 1) then (match rest with
    | .stop=>zh0 TT Γ bo ops.toList [(c,o)] s fun s'=>evT TT Γ bo ops K t (bif DB.1.contains i then none else some DB) m (li.setIfInBounds i true) s'
    | _=>bo (zh0 TT Γ bo ops.toList [(c,o)] s fun s'=>evT TT Γ bo ops K t (bif DB.1.contains i then none else some DB) m (li.setIfInBounds i true) s') (evT TT Γ bo ops K rest (some DB) n li s)) else none
  | _,_=>none
 | .live D t,none,n,li,s=>evT TT Γ bo ops K t (some (D,[])) n li s
 | .live _ _,some _,_,_,_=>none
 | .pnd t,none,n,li,s=>evP TT Γ bo ops K t [] n li s
 | .pnd _,some _,_,_,_=>none
 | .stop,_,_,_,_=>none
section
variable {P:Program} {TT:List TE} {Γ:List CE} {bo:Option R->Option R->Option R} {F:Fr} {ops:Array Oper} {q:R} {K:ESt->Option R}
def PK (s:ESt) (K:ESt->Option R) (q:R) (σ:St):Prop:=∃ s',σ=s'.st/\Sfx s s'/\K s'=some q
def QK (F:Fr) (s:ESt) (K:ESt->Option R) (q:R):Exit->Act->World->Prop:=fun e a w=>e = .normal/\∃ σ,PK s K q σ/\Rel F σ a w
theorem QK.wide {s s':ESt} (h:Sfx s s') {e:Exit} {a:Act} {w:World} (hq:QK F s' K q e a w):QK F s K q e a w:=
 let ⟨h1,σ,⟨s1,h2,h3,h4⟩,h5⟩:=hq;⟨h1,σ,⟨s1,h2,h.trans h3,h4⟩,h5⟩
theorem QK.panic {s:ESt} {d:Option Tmp} (v:Value):∀ c (a:Act) (w:World),QK F s K q (.panic c) (a.put d v) w->QK F s K q (.panic c) a w:=fun c a w h=>by
 cases h.1
theorem zBt {li:Array Bool} {D:List Nat} {i:Nat} {oi:Oper} {W:List Nat} (h:dB ops li D i oi W=true):D.contains i=false/\i∈Region.ready .any ops li/\
  (∀ k,W.contains k=true->∃ ok,ops[k]? =some ok/\∃ e∈ok.after,Region.binds .any e=true/\(e.on=i\/W.contains e.on=true))/\(∀ k,W.contains k=true->li.getD k true=false)/\
  ∀ j oj,ops[j]? =some oj->j≠i->li.getD j true=false->W.contains j=false->oi.apart ops oj=true/\D.contains j=false:=by
 unfold dB at h;simp only [Bool.and_eq_true,Bool.not_eq_true'] at h;obtain ⟨⟨⟨h1,h2⟩,h3⟩,h4⟩:=h;have h3:=List.all_eq_true.1 h3;refine ⟨h1,by simpa using h2,fun k hk => ?_,fun k hk => ?_,fun j oj hj hne hun hno => ?_⟩
 ·have:=h3 k (by simpa using hk)
  rw [Bool.and_eq_true] at this;have:=this.2
  split at this
  ·rename_i ok hok;obtain ⟨e,he,hb⟩:=Array.any_eq_true'.1 this;simp only [Bool.and_eq_true,Bool.or_eq_true,beq_iff_eq] at hb;exact ⟨ok,hok,e,he,hb.1,hb.2⟩
  ·cases this
 ·have:=h3 k (by simpa using hk)
  rw [Bool.and_eq_true,Bool.not_eq_true'] at this;exact this.1
 ·have:=List.all_eq_true.1 h4 j (List.mem_range.2 (Array.getElem?_eq_some_iff.1 hj).1);simp only [hj,Bool.or_eq_true,beq_iff_eq,hne,false_or,hun,Bool.false_eq_true,hno,Bool.and_eq_true,Bool.not_eq_true'] at this;exact this
theorem zBu {li:Array Bool} {D:List Nat} {i:Nat} {oi:Oper} {W:List Nat} (h:dT ops li D i oi W=true):D.contains i=false/\i∈Region.ready .any ops li/\
  (∀ k,W.contains k=true->∃ ok,ops[k]? =some ok/\∃ e∈ok.after,Region.binds .any e=true/\(e.on=i\/W.contains e.on=true))/\(∀ k,W.contains k=true->li.getD k true=false)/\
  ∀ j oj,ops[j]? =some oj->j≠i->li.getD j true=false->W.contains j=false->D.contains j=false->oi.apart ops oj=true/\Tame P oj:=by
 unfold dT at h;simp only [Bool.and_eq_true,Bool.not_eq_true'] at h;obtain ⟨⟨⟨h1,h2⟩,h3⟩,h4⟩:=h;have h3:=List.all_eq_true.1 h3;refine ⟨h1,by simpa using h2,fun k hk => ?_,fun k hk => ?_,fun j oj hj hne hun hno hnd => ?_⟩
 ·have:=h3 k (by simpa using hk)
  rw [Bool.and_eq_true] at this;have:=this.2
  split at this
  ·rename_i ok hok;obtain ⟨e,he,hb⟩:=Array.any_eq_true'.1 this;simp only [Bool.and_eq_true,Bool.or_eq_true,beq_iff_eq] at hb;exact ⟨ok,hok,e,he,hb.1,hb.2⟩
  ·cases this
 ·have:=h3 k (by simpa using hk)
  rw [Bool.and_eq_true,Bool.not_eq_true'] at this;exact this.1
 ·have:=List.all_eq_true.1 h4 j (List.mem_range.2 (Array.getElem?_eq_some_iff.1 hj).1);simp only [hj,Bool.or_eq_true,beq_iff_eq,hne,false_or,hun,Bool.false_eq_true,hno,hnd,Bool.and_eq_true] at this;exact ⟨this.1,zCl this.2⟩
def PInv (P:Program) (F:Fr) (ops:Array Oper) (e:Pn) (p:PD) (a:Act) (w:World):Prop:=
 (p.W=fun k=>e.2.2.contains k)/\p.J w/\
 ((e.1=0/\∀ w',Ext w w'->p.J w')\/
  (e.1=1/\∃ oi d,ops[e.2.1]? =some oi/\oi.dst=some d/\∀ w',(execOp a.eval oi).run P w' = .ok (.value (a.tmps.getD d undef)) w'->p.J w')\/
  (2<=e.1/\∀ σ a w,Rel F σ a w->p.J w))
theorem zyL (hsel:Region.noSelect ops=true) (hT:TOK P TT) (hG:GOK P Γ) (hbo:Both bo):∀ (t:OP),
  (∀ (F:Fr) (LC:List (Pn×PD)) (n:Nat) (li:Array Bool) (s:ESt) (a:Act) (w:World),t.cov ops li=true->evP TT Γ bo ops K t (LC.map (·.1)) n li s=some q->Rel F s.st a w->(∀ c∈LC,PInv P F ops c.1 c.2 a w)->zsX P ops (QK F s K q) n (LC.map (·.2)) li a w)/\
  (∀ (F:Fr) (LC:List (Pn×PD)) (n:Nat) (li:Array Bool) (s:ESt) (a:Act) (w:World),evP TT Γ bo ops K t (LC.map (·.1)) (n+1) li s=some q->Rel F s.st a w->(∀ c∈LC,PInv P F ops c.1 c.2 a w)->∀ i∈t.alts,
   wpOp P ops (QK F s K q) i (fun a' w'=>(∀ p∈LC.map (·.2),p.W i=false->p.J w')/\zsX P ops (QK F s K q) n ((LC.map (·.2)).filter fun p => !p.W i) (li.setIfInBounds i true) a' w') a w):=fun t=>⟨fun F LC n li s a w _ h=>(by unfold evP at h;obtain ⟨h1,h2⟩:=zab h;simp only [Bool.and_eq_true] at h1;have h3:=Nat.eq_of_beq_eq_true h1.1;have h4:=Nat.eq_of_beq_eq_true h1.2;omega),fun F LC n li s a w h=>(by unfold evP at h;obtain ⟨h1,h2⟩:=zab h;simp only [Bool.and_eq_true] at h1;have h3:=Nat.eq_of_beq_eq_true h1.1;have h4:=Nat.eq_of_beq_eq_true h1.2;omega)⟩
theorem zdk (hsel:Region.noSelect ops=true) (hT:TOK P TT) (hG:GOK P Γ) (hbo:Both bo):∀ (t:OT),
  ((∀ (n:Nat) (li:Array Bool) (s:ESt) (a:Act) (w:World),t.cov ops li []=true->evT TT Γ bo ops K t none n li s=some q->Rel F s.st a w->wpAny P .any ops (QK F s K q) n li a w)/\
  (∀ (n:Nat) (li:Array Bool) (s:ESt) (a:Act) (w:World),evT TT Γ bo ops K t none (n+1) li s=some q->Rel F s.st a w->∀ i∈t.alts,wpOp P ops (QK F s K q) i (wpAny P .any ops (QK F s K q) n (li.setIfInBounds i true)) a w))/\
  ((∀ (D:List Nat×List Nat) (n:Nat) (li:Array Bool) (s:ESt) (a:Act) (w:World),t.cov ops li D.2=true->evT TT Γ bo ops K t (some D) n li s=some q->Rel F s.st a w->zeb P ops (QK F s K q) (fun j=>D.1.contains j) (fun j=>D.2.contains j) true n li a w)/\
  (∀ (D:List Nat×List Nat) (n:Nat) (li:Array Bool) (s:ESt) (a:Act) (w:World),evT TT Γ bo ops K t (some D) (n+1) li s=some q->Rel F s.st a w->∀ i∈t.alts,wpOp P ops (QK F s K q) i (fun a' w'=>((true && !D.1.contains i)=true->Ext w w')/\zeb P ops (QK F s K q) (fun j=>D.1.contains j) (fun j=>D.2.contains j) (true && !D.1.contains i) n (li.setIfInBounds i true) a' w') a w))
 | .leaf ord=>by
  refine ⟨⟨fun n li s a w _ h r => ?_,fun n li s a w h r i hi=>by cases hi⟩,⟨fun D n li s a w _ h r => ?_,fun D n li s a w h r i hi=>by cases hi⟩⟩
  ·simp only [evT] at h;have hb:=(zab h).1;replace h:=(zab h).2;simp only [Bool.and_eq_true] at hb;exact zma hsel n ord li a w (Nat.eq_of_beq_eq_true hb.1.1) (zyW hb.1.2) hb.2 (za7 hT hG hbo h a w _ r fun σ' a' w' hk hr=>⟨rfl,σ',hk,hr⟩)
  ·simp only [evT] at h
   split at h
   ·have hb:=(zab h).1;replace h:=(zab h).2;exact ⟨by simpa using hb,rfl,_,⟨s,rfl,Sfx.refl _,h⟩,r⟩
   ·cases h
 | .one i t=>by
  refine ⟨⟨fun n li s a w _ h r => ?_,fun n li s a w h r i hi=>by cases hi⟩,⟨fun D n li s a w _ h r => ?_,fun D n li s a w h r i hi=>by cases hi⟩⟩
  ·simp only [evT] at h
   split at h
   ·rename_i n o ho;have hb:=(zab h).1;replace h:=(zab h).2;simp only [Bool.and_eq_true] at hb;obtain ⟨⟨⟨hp,hf⟩,hr⟩,hc⟩:=hb;have hs:=AO.single (za7 (F:=F) hT hG hbo h) r (K:=wpAny P .any ops (QK F s K q) n (li.setIfInBounds i true)) (fun σ' a' w' ⟨s',h1,h2,h3⟩ r'=>by
     subst h1;exact zf3 (fun _ _ _=>QK.wide h2) _ _ _ _ ((zdk hsel hT hG hbo t).1.1 n _ s' a' w' hc h3 r')) (QK F s K q)
    split at hs
    ·rename_i hw;obtain ⟨v,hv,hk⟩:=hs;exact wpAny_take ho hsel hf hr (QK.panic v) (.inl ⟨hw,fun w'=>hv w' (.inl hp)⟩) hk
    ·rename_i hw;exact wpAny_take ho hsel hf hr (QK.panic undef) (.inr ⟨by simpa using hw,rfl⟩) hs
   ·cases h
  ·simp only [evT] at h
   split at h
   ·rename_i n o ho;have hb:=(zab h).1;replace h:=(zab h).2;simp only [Bool.and_eq_true,Bool.not_eq_true'] at hb;obtain ⟨⟨⟨⟨hp,hf⟩,hr⟩,hnd⟩,hc⟩:=hb;have hs:=AO.single (za7 (F:=F) hT hG hbo h) r (K:=zeb P ops (QK F s K q) (fun j=>D.1.contains j) (fun j=>D.2.contains j) true n (li.setIfInBounds i true)) (fun σ' a' w' ⟨s',h1,h2,h3⟩ r'=>by
     subst h1;exact zgI (fun _ _ _=>QK.wide h2) _ _ _ _ _ ((zdk hsel hT hG hbo t).2.1 D n _ s' a' w' hc h3 r')) (QK F s K q)
    have hfr:=Region.free_spec ho hf
    split at hs
    ·rename_i hw;obtain ⟨v,hv,hk⟩:=hs;exact zr4 ho (Region.noSelect_spec hsel) (QK.panic v) hnd n true li a w hfr (by simpa using hr) (.inl ⟨hw,fun w' _=>hv w' (.inl hp)⟩) hk
    ·rename_i hw;exact zr4 ho (Region.noSelect_spec hsel) (QK.panic undef) hnd n true li a w hfr (by simpa using hr) (.inr ⟨by simpa using hw,rfl⟩) hs
   ·cases h
 | .ban i W t rest=>by
  refine ⟨⟨fun n li s a w _ h r=>by simp [evT] at h,fun n li s a w h r i hi=>by cases hi⟩,⟨fun D n li s a w _ h r => ?_,fun D n li s a w h r i hi=>by cases hi⟩⟩
  simp only [evT] at h
  split at h
  ·rename_i n o ho;have hb:=(zab h).1;replace h:=(zab h).2;rw [Bool.and_eq_true,Bool.and_eq_true] at hb;obtain ⟨⟨hp,hc⟩,hcr⟩:=hb;obtain ⟨hd1,hr,hW,hWl,hfr⟩:=zBu (P:=P) hp;have hs:=AO.single (za7 (F:=F) hT hG hbo (hbo.l h)) r (K:=zeb P ops (QK F s K q) (fun j=>D.1.contains j) (fun j=>D.2.contains j) true n (li.setIfInBounds i true)) (fun σ' a' w' ⟨s',h1,h2,h3⟩ r'=>by
    subst h1;exact zgI (fun _ _ _=>QK.wide h2) _ _ _ _ _ ((zdk hsel hT hG hbo t).2.1 D n _ s' a' w' hc h3 r')) (QK F s K q)
   have hB':∀ j,j≠i->(i::D.2).contains j=true->D.2.contains j=true:=fun j hj hh=>by
    rw [List.contains_cons,Bool.or_eq_true,beq_iff_eq] at hh;exact hh.resolve_left hj
   have h2:=(zdk hsel hT hG hbo rest).2.1 (D.1,i::D.2) (n+1) li s a w hcr (hbo.r h) r
   split at hs
   ·rename_i hw;obtain ⟨v,hv,hk⟩:=hs;exact zsW ho (Region.noSelect_spec hsel) (QK.panic v) (fun k=>W.contains k) hW hd1 hB' n li a w hWl hfr hr (.inl ⟨hw,fun w' hx=>hv w' (.inr hx)⟩) hk h2
   ·rename_i hw;exact zsW ho (Region.noSelect_spec hsel) (QK.panic undef) (fun k=>W.contains k) hW hd1 hB' n li a w hWl hfr hr (.inr ⟨by simpa using hw,rfl⟩) hs h2
  ·cases h
 | .rd i W t=>by
  refine ⟨⟨fun n li s a w _ h r=>by simp [evT] at h,fun n li s a w h r i hi=>by cases hi⟩,⟨fun D n li s a w _ h r => ?_,fun D n li s a w h r i hi=>by cases hi⟩⟩
  simp only [evT] at h
  split at h
  ·rename_i n o ho;have hb:=(zab h).1;replace h:=(zab h).2;simp only [Bool.and_eq_true] at hb;obtain ⟨hp,hc⟩:=hb;obtain ⟨hd1,hr,hW,hWl,hfr⟩:=zBt hp;have hs:=AO.single (za7 (F:=F) hT hG hbo h) r (K:=zeb P ops (QK F s K q) (fun j=>D.1.contains j) (fun j=>D.2.contains j) true n (li.setIfInBounds i true)) (fun σ' a' w' ⟨s',h1,h2,h3⟩ r'=>by
    subst h1;exact zgI (fun _ _ _=>QK.wide h2) _ _ _ _ _ ((zdk hsel hT hG hbo t).2.1 D n _ s' a' w' hc h3 r')) (QK F s K q)
   split at hs
   ·rename_i hw;obtain ⟨v,hv,hk⟩:=hs;exact zpZ ho (Region.noSelect_spec hsel) (QK.panic v) (fun k=>W.contains k) hW hd1 n li a w hWl hfr hr (.inl ⟨hw,fun w' hx=>hv w' (.inr hx)⟩) hk
   ·rename_i hw;exact zpZ ho (Region.noSelect_spec hsel) (QK.panic undef) (fun k=>W.contains k) hW hd1 n li a w hWl hfr hr (.inr ⟨by simpa using hw,rfl⟩) hs
  ·cases h
 | .live D t=>by
  refine ⟨⟨fun n li s a w hc h r => ?_,fun n li s a w h r i hi=>by cases hi⟩,⟨fun D n li s a w _ h r=>by simp [evT] at h,fun D n li s a w h r i hi=>by cases hi⟩⟩
  simp only [evT] at h;exact zsY (fun _=>rfl) _ _ _ _ _ ((zdk hsel hT hG hbo t).2.1 (D,[]) n li s a w hc h r)
 | .pnd t=>by
  refine ⟨⟨fun n li s a w hc h r => ?_,fun n li s a w h r i hi=>by cases hi⟩,⟨fun D n li s a w _ h r=>by simp [evT] at h,fun D n li s a w h r i hi=>by cases hi⟩⟩
  simp only [evT] at h;exact zpr _ _ _ _ ((zyL hsel hT hG hbo t).1 F [] n li s a w hc h r fun c hc'=>by cases hc')
 | .stop=>by
  refine ⟨⟨fun n li s a w _ h r=>by simp [evT] at h,fun n li s a w h r i hi=>by cases hi⟩,⟨fun D n li s a w _ h r=>by simp [evT] at h,fun D n li s a w h r i hi=>by cases hi⟩⟩
 | .alt c i t rest=>by
  have hB:∀ (n:Nat) (li:Array Bool) (s:ESt) (a:Act) (w:World),evT TT Γ bo ops K (.alt c i t rest) none (n+1) li s=some q->Rel F s.st a w->∀ j∈(OT.alt c i t rest).alts,wpOp P ops (QK F s K q) j (wpAny P .any ops (QK F s K q) n (li.setIfInBounds j true)) a w:=by
   intro n li s a w h r j hj;simp only [evT] at h
   split at h
   ·rename_i n' m o hn ho
    cases hn;have hc:=(zab h).1;replace h:=(zab h).2;have one:zh0 TT Γ bo ops.toList [(c,o)] s (fun s'=>evT TT Γ bo ops K t none n (li.setIfInBounds i true) s')=some q->wpOp P ops (QK F s K q) i (wpAny P .any ops (QK F s K q) n (li.setIfInBounds i true)) a w:=fun h=>
     zvf ho (AO.single (za7 (F:=F) hT hG hbo h) r (K:=wpAny P .any ops (QK F s K q) n (li.setIfInBounds i true)) (fun σ' a' w' ⟨s',h1,h2,h3⟩ r'=>by
      subst h1;exact zf3 (fun _ _ _=>QK.wide h2) _ _ _ _ ((zdk hsel hT hG hbo t).1.1 n _ s' a' w' hc h3 r')) (QK F s K q))
    have hj':j=i\/j∈rest.alts:=by simpa [OT.alts] using hj
    split at h
    ·rcases hj' with rfl | hj'
     ·exact one h
     ·cases hj'
    ·rcases hj' with rfl | hj'
     ·exact one (hbo.l h)
     ·exact (zdk hsel hT hG hbo rest).1.2 n li s a w (hbo.r h) r j hj'
   ·cases h
  have hL:∀ (D:List Nat×List Nat) (n:Nat) (li:Array Bool) (s:ESt) (a:Act) (w:World),evT TT Γ bo ops K (.alt c i t rest) (some D) (n+1) li s=some q->Rel F s.st a w->∀ j∈(OT.alt c i t rest).alts,
    wpOp P ops (QK F s K q) j (fun a' w'=>((true && !D.1.contains j)=true->Ext w w')/\zeb P ops (QK F s K q) (fun j=>D.1.contains j) (fun j=>D.2.contains j) (true && !D.1.contains j) n (li.setIfInBounds j true) a' w') a w:=by
   intro D n li s a w h r j hj;simp only [evT] at h
   split at h
   ·rename_i n' m o hn ho
    cases hn;have hc:=(zab h).1;replace h:=(zab h).2;rw [Bool.and_eq_true,Bool.or_eq_true] at hc;obtain ⟨hc,hd⟩:=hc;have one:zh0 TT Γ bo ops.toList [(c,o)] s (fun s'=>evT TT Γ bo ops K t (bif D.1.contains i then none else some D) n (li.setIfInBounds i true) s')=some q->
      wpOp P ops (QK F s K q) i (fun a' w'=>((true && !D.1.contains i)=true->Ext w w')/\zeb P ops (QK F s K q) (fun j=>D.1.contains j) (fun j=>D.2.contains j) (true && !D.1.contains i) n (li.setIfInBounds i true) a' w') a w:=fun h=>by
     cases hDi:D.1.contains i with
     | true=>
      rw [hDi] at h;rw [hDi,cond_true] at hc;refine wpOp_mono (fun a' w' h'=>⟨fun e=>by simp at e,by simpa using zr3 _ _ _ _ h'⟩) (zvf ho (AO.single (za7 (F:=F) hT hG hbo h) r (K:=wpAny P .any ops (QK F s K q) n (li.setIfInBounds i true)) (fun σ' a' w' ⟨s',h1,h2,h3⟩ r'=>by
       subst h1;exact zf3 (fun _ _ _=>QK.wide h2) _ _ _ _ ((zdk hsel hT hG hbo t).1.1 n _ s' a' w' hc h3 r')) (QK F s K q)))
     | false=>
      rw [hDi] at h;rw [hDi,cond_false] at hc;have hle:c<=1:=by
       rcases hd with hd | hd
       ·rw [hDi] at hd;cases hd
       ·exact Nat.le_of_ble_eq_true hd
      refine wpOp_mono (fun a' w' h'=>⟨fun _=>h'.1,by simpa using h'.2⟩) (zxY ho hle (AO.single (za7 (F:=F) hT hG hbo h) r (K:=zeb P ops (QK F s K q) (fun j=>D.1.contains j) (fun j=>D.2.contains j) true n (li.setIfInBounds i true)) (fun σ' a' w' ⟨s',h1,h2,h3⟩ r'=>by
       subst h1;exact zgI (fun _ _ _=>QK.wide h2) _ _ _ _ _ ((zdk hsel hT hG hbo t).2.1 D n _ s' a' w' hc h3 r')) (QK F s K q)))
    have hj':j=i\/j∈rest.alts:=by simpa [OT.alts] using hj
    split at h
    ·rcases hj' with rfl | hj'
     ·exact one h
     ·cases hj'
    ·rcases hj' with rfl | hj'
     ·exact one (hbo.l h)
     ·exact (zdk hsel hT hG hbo rest).2.2 D n li s a w (hbo.r h) r j hj'
   ·cases h
  refine ⟨⟨fun n li s a w hcov h r => ?_,hB⟩,⟨fun D n li s a w hcov h r => ?_,hL⟩⟩
  ·cases n with
   | zero=>simp only [evT] at h;cases h
   | succ n=>
    simp only [OT.cov,Bool.and_eq_true] at hcov;refine ⟨fun hr => ?_,fun j hj => ?_⟩
    ·rw [hr] at hcov;simp at hcov
    ·have:=List.all_eq_true.1 hcov.2 j hj;exact hB n li s a w h r j (by simpa using this)
  ·cases n with
   | zero=>simp only [evT] at h;cases h
   | succ n=>
    simp only [OT.cov,Bool.and_eq_true] at hcov;refine ⟨fun hr => ?_,fun j hj hBj => ?_⟩
    ·rw [hr] at hcov;simp at hcov
    ·have:=List.all_eq_true.1 hcov.2 j hj;have hBj:D.2.contains j=false:=by rw [Bool.true_and] at hBj;exact hBj
     rw [hBj,Bool.false_or] at this;exact hL D n li s a w h r j (by simpa using this)
end
end
end Go.Ab
