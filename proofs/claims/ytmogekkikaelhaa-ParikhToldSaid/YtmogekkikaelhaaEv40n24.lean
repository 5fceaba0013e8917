import Derived.Test.YtmogekkikaelhaaEv40n15
import Derived.Test.YtmogekkikaelhaaAb24n19
set_option linter.unusedVariables false
set_option linter.unusedSimpArgs false
set_option linter.unusedSectionVars false
namespace Go.Ab
noncomputable section
set_option linter.unusedVariables false
variable {R:Type}
def ESt.prepF (s:ESt) (k:Nat) (t:Ty):ESt:=match s.get k with
 | some (.ptr id _)=>match s.ent id with
  | some (.box _ cs)=>(s.boxDat id 0 cs.length).freezeT id t
  | _=>s
 | _=>s
theorem zkA (s:ESt) (k:Nat) (t:Ty):Wk s (s.prepF k t)/\Sfx s (s.prepF k t):=by
 unfold ESt.prepF;split
 ·rename_i id o _;split
  ·rename_i cs _;obtain ⟨h1,h2⟩:=zqm (s.boxDat id 0 cs.length) id t;exact ⟨(ze5 id cs.length s 0).trans h1,(Sfx.boxDat id cs.length s 0).trans h2⟩
  ·exact ⟨Wk.refl _,Sfx.refl _⟩
 ·exact ⟨Wk.refl _,Sfx.refl _⟩
inductive OP where
 | leaf
 | one (i:Nat) (t:OP)
 | rd (k i:Nat) (W:List Nat) (t:OP)
 | frz (k:Nat) (ty:Ty) (t:OP)
 | alt (c i:Nat) (t rest:OP)
 | stop
def OP.alts:OP->List Nat
 | .alt _ i _ rest=>i::rest.alts
 | _=>[]
def OP.cov (ops:Array Oper) (li:Array Bool):OP->Bool
 | .alt c i t rest=>(Region.ready .any ops li).contains i && (Region.ready .any ops li).all fun j=>(OP.alt c i t rest).alts.contains j
 | .frz _ _ t=>t.cov ops li
 | .stop=>false
 | _=>true
abbrev Pn:=Nat×Nat×List Nat
def zuc:EV->EV->Bool
 | .own a,.own b=>Nat.beq a b
 | .ptr a k,.ptr b l=>Nat.beq a b && Nat.beq k l
 | .nil,.nil=>true
 | _,_=>false
def fOK (TT:List TE) (ops:Array Oper) (s:ESt) (i:Nat):Bool:=match ops[i]? with
 | some oi=>(match oi.dst with
  | some d=>(!(oi.looksAt ops).contains d) && (match evRO (R:=EV) TT s oi.op some with
   | some y=>(match s.get d with
    | some y2=>zuc y y2
    | none=>false)
   | none=>false)
  | none=>false)
 | none=>false
def offB (ops:Array Oper) (i:Nat) (o:Oper):Bool:=match ops[i]?, o.dst with
 | some oi,some d => !(oi.looksAt ops).contains d && oi.dst != some d
 | _,_=>true
def pnOK (TT:List TE) (ops:Array Oper) (s:ESt) (c:Nat) (o:Oper) (p:Pn):Bool:=match p.1 with
 | 0=>Nat.ble c 1
 | 1=>offB ops p.2.1 o && fOK TT ops s p.2.1
 | _=>true
def rdOK (TT:List TE) (k:Nat) (s:ESt) (o:Oper):Bool:=match k with
 | 0=>true
 | 1=>true
 | 2=>(match o.op with
  | .load t x=>(match s.ev x with
   | some (.addr tx a)=>(match tyT TT t with
    | some u=>Ty.beq u tx
    | none=>false)
   | _=>false)
  | _=>false)
 | _=>false
inductive OT where
 | leaf (ord:List (Nat×Nat))
 | one (i:Nat) (t:OT)
 | alt (c i:Nat) (t rest:OT)
 | live (D:List Nat) (t:OT)
 | rd (i:Nat) (W:List Nat) (t:OT)
 | ban (i:Nat) (W:List Nat) (t rest:OT)
 | pnd (t:OP)
 | stop
def OT.alts:OT->List Nat
 | .alt _ i _ rest=>i::rest.alts
 | _=>[]
def OT.cov (ops:Array Oper) (li:Array Bool) (B:List Nat):OT->Bool
 | .alt c i t rest=>(Region.ready .any ops li).contains i && (Region.ready .any ops li).all fun j=>B.contains j || (OT.alt c i t rest).alts.contains j
 | .stop=>false
 | .live _ t=>t.cov ops li B
 | .pnd t=>t.cov ops li
 | _=>true
def dB (ops:Array Oper) (li:Array Bool) (D:List Nat) (i:Nat) (oi:Oper) (W:List Nat):Bool:=
 (!D.contains i) && (Region.ready .any ops li).contains i &&
 (W.all fun k=>(!li.getD k true) && match ops[k]? with
  | some ok=>ok.after.any (fun e=>Region.binds .any e && (e.on==i || W.contains e.on))
  | none=>false) &&
 (List.range ops.size).all fun j=>j==i || li.getD j true || W.contains j || match ops[j]? with
   | some oj=>oi.apart ops oj && !D.contains j
   | none=>true
def dT (ops:Array Oper) (li:Array Bool) (D:List Nat) (i:Nat) (oi:Oper) (W:List Nat):Bool:=
 (!D.contains i) && (Region.ready .any ops li).contains i &&
 (W.all fun k=>(!li.getD k true) && match ops[k]? with
  | some ok=>ok.after.any (fun e=>Region.binds .any e && (e.on==i || W.contains e.on))
  | none=>false) &&
 (List.range ops.size).all fun j=>j==i || li.getD j true || W.contains j || D.contains j || match ops[j]? with
   | some oj=>oi.apart ops oj && zuj oj
   | none=>true
def invB (ops:Array Oper) (li:Array Bool) (ord:List (Nat×Nat)):Bool:=
 Nat.beq li.size ops.size && ((List.range ops.size).all fun j=>(!(li.getD j true))==(ord.map (·.2)).contains j) && ((ord.map (·.2)).all fun j=>Nat.blt j ops.size) &&
  ((List.range ops.size).all fun j => !(li.getD j false) || match ops[j]? with
   | some o=>o.after.all fun e => !(Region.binds .any e) || li.getD e.on false
   | none=>true)
theorem zrB {ops:Array Oper} {li:Array Bool} {ord:List (Nat×Nat)} (h:invB ops li ord=true):Inv ops li ord:=by
 simp only [invB,Bool.and_eq_true] at h;obtain ⟨⟨⟨h1,h2⟩,h3⟩,h4⟩:=h;have h1:=Nat.eq_of_beq_eq_true h1;refine ⟨h1,fun j hj => ?_,fun j hj => ?_,fun j o ho hl e he hb => ?_⟩
 ·have:=List.all_eq_true.1 h2 j (List.mem_range.2 hj);rw [beq_iff_eq] at this;rw [List.contains_eq_mem] at this;cases hl:li.getD j true with
  | true=>rw [hl] at this;simp only [Bool.not_true] at this;have:=of_decide_eq_false this.symm;simp only [Bool.true_eq_false,false_iff];exact this
  | false=>rw [hl] at this;simp only [Bool.not_false] at this;have:=of_decide_eq_true this.symm;simp only [true_iff];exact this
 ·have:=List.all_eq_true.1 h3 j hj;simpa using this
 ·have hj:j < ops.size:=(Array.getElem?_eq_some_iff.1 ho).1;have:=List.all_eq_true.1 h4 j (List.mem_range.2 hj);rw [hl,ho] at this;simp only [Bool.not_true,Bool.false_or] at this;have:=(Array.all_eq_true_iff_forall_mem.1 this) e he;rw [hb] at this;simpa using this
def evP (TT:List TE) (Γ:List CE) (bo:Option R->Option R->Option R) (ops:Array Oper) (K:ESt->Option R):OP->List Pn->Nat->Array Bool->ESt->Option R
 | .leaf,_,n,li,s=>match n with
  | 0=>bif (Region.ready .any ops li).isEmpty then K s else none
  | _=>none
 | .one i t,L,n,li,s=>match n,ops[i]? with
  | n+1,some o=>bif zdF o && Region.free .any ops li i && (Region.ready .any ops li).contains i && t.cov ops (li.setIfInBounds i true) then
    zcm TT Γ bo ops.toList [(0,o)] s fun s'=>bif L.all (pnOK TT ops s' 0 o) then evP TT Γ bo ops K t L n (li.setIfInBounds i true) s' else none else none
  | _,_=>none
 | .rd k i W t,L,n,li,s=>match n,ops[i]? with
  | n+1,some o=>bif dB ops li [] i o W && rdOK TT k s o && t.cov ops (li.setIfInBounds i true) then
    zcm TT Γ bo ops.toList [(0,o)] s fun s'=>bif L.all (pnOK TT ops s' 0 o) && (!Nat.beq k 1 || fOK TT ops s' i) then evP TT Γ bo ops K t ((k,i,W)::L) n (li.setIfInBounds i true) s' else none else none
  | _,_=>none
 | .alt c i t rest,L,n,li,s=>match n,ops[i]? with
  | m+1,some o=>bif t.cov ops (li.setIfInBounds i true) then (match rest with
    | .stop=>zcm TT Γ bo ops.toList [(c,o)] s fun s'=>bif L.all (fun p=>p.2.2.contains i || pnOK TT ops s' c o p) then evP TT Γ bo ops K t (L.filter fun p => !p.2.2.contains i) m (li.setIfInBounds i true) s' else none
    | _=>bo (zcm TT Γ bo ops.toList [(c,o)] s fun s'=>bif L.all (fun p=>p.2.2.contains i || pnOK TT ops s' c o p) then evP TT Γ bo ops K t (L.filter fun p => !p.2.2.contains i) m (li.setIfInBounds i true) s' else none) (evP TT Γ bo ops K rest L n li s)) else none
  | _,_=>none
 | .frz k ty t,L,n,li,s=>evP TT Γ bo ops K t L n li (s.prepF k ty)
 | .stop,_,_,_,_=>none
def evT (TT:List TE) (Γ:List CE) (bo:Option R->Option R->Option R) (ops:Array Oper) (K:ESt->Option R):OT->Option (List Nat×List Nat)->Nat->Array Bool->ESt->Option R
 | .leaf ord,none,n,li,s=>bif Nat.beq ord.length n && invB ops li ord && chk ops ord then zcm TT Γ bo ops.toList (zhD ops ord) s K else none
 | .leaf _,some _,n,li,s=>match n with
  | 0=>bif (Region.ready .any ops li).isEmpty then K s else none
  | _=>none
 | .one i t,none,n,li,s=>match n,ops[i]? with
  | n+1,some o=>bif zdF o && Region.free .any ops li i && (Region.ready .any ops li).contains i && t.cov ops (li.setIfInBounds i true) [] then
    zcm TT Γ bo ops.toList [(0,o)] s fun s'=>evT TT Γ bo ops K t none n (li.setIfInBounds i true) s' else none
  | _,_=>none
 | .one i t,some DB,n,li,s=>match n,ops[i]? with
  | n+1,some o=>bif zdF o && Region.free .any ops li i && (Region.ready .any ops li).contains i && (!DB.1.contains i) && t.cov ops (li.setIfInBounds i true) DB.2 then
    zcm TT Γ bo ops.toList [(0,o)] s fun s'=>evT TT Γ bo ops K t (some DB) n (li.setIfInBounds i true) s' else none
  | _,_=>none
 | .rd _ _ _,none,_,_,_=>none
 | .rd i W t,some DB,n,li,s=>match n,ops[i]? with
  | n+1,some o=>bif dB ops li DB.1 i o W && t.cov ops (li.setIfInBounds i true) DB.2 then
    zcm TT Γ bo ops.toList [(0,o)] s fun s'=>evT TT Γ bo ops K t (some DB) n (li.setIfInBounds i true) s' else none
  | _,_=>none
 | .ban _ _ _ _,none,_,_,_=>none
 | .ban i W t rest,some DB,n,li,s=>match n,ops[i]? with
  | n+1,some o=>bif dT ops li DB.1 i o W && t.cov ops (li.setIfInBounds i true) DB.2 && rest.cov ops li (i::DB.2) then
    bo (zcm TT Γ bo ops.toList [(0,o)] s fun s'=>evT TT Γ bo ops K t (some DB) n (li.setIfInBounds i true) s') (evT TT Γ bo ops K rest (some (DB.1,i::DB.2)) (n+1) li s) else none
  | _,_=>none
 | .alt c i t rest,none,n,li,s=>match n,ops[i]? with
  | m+1,some o=>bif t.cov ops (li.setIfInBounds i true) [] then (match rest with
    | .stop=>zcm TT Γ bo ops.toList [(c,o)] s fun s'=>evT TT Γ bo ops K t none m (li.setIfInBounds i true) s'
    | _=>bo (zcm TT Γ bo ops.toList [(c,o)] s fun s'=>evT TT Γ bo ops K t none m (li.setIfInBounds i true) s') (evT TT Γ bo ops K rest none n li s)) else none
  | _,_=>none
 | .alt c i t rest,some DB,n,li,s=>match n,ops[i]? with
  | m+1,some o=>bif t.cov ops (li.setIfInBounds i true) (bif DB.1.contains i then [] else DB.2) && (DB.1.contains i || Nat.ble c 1) then (match rest with
    | .stop=>zcm TT Γ bo ops.toList [(c,o)] s fun s'=>evT TT Γ bo ops K t (bif DB.1.contains i then none else some DB) m (li.setIfInBounds i true) s'
    | _=>bo (zcm TT Γ bo ops.toList [(c,o)] s fun s'=>evT TT Γ bo ops K t (bif DB.1.contains i then none else some DB) m (li.setIfInBounds i true) s') (evT TT Γ bo ops K rest (some DB) n li s)) else none
  | _,_=>none
 | .live D t,none,n,li,s=>evT TT Γ bo ops K t (some (D,[])) n li s
 | .live _ _,some _,_,_,_=>none
 | .pnd t,none,n,li,s=>evP TT Γ bo ops K t [] n li s
 | .pnd _,some _,_,_,_=>none
 | .stop,_,_,_,_=>none
section
variable {P:Program} {TT:List TE} {Γ:List CE} {bo:Option R->Option R->Option R} {F:Fr} {ops:Array Oper} {q:R} {K:ESt->Option R}
def PK (s:ESt) (K:ESt->Option R) (q:R) (σ:St):Prop:=∃ s',σ=s'.st/\Sfx s s'/\K s'=some q
def QK (F:Fr) (s:ESt) (K:ESt->Option R) (q:R):Exit->Act->World->Prop:=fun e a w=>e = .normal/\∃ σ,PK s K q σ/\Rel F σ a w
theorem QK.wide {s s':ESt} (h:Sfx s s') {e:Exit} {a:Act} {w:World} (hq:QK F s' K q e a w):QK F s K q e a w:=
 let ⟨h1,σ,⟨s1,h2,h3,h4⟩,h5⟩:=hq;⟨h1,σ,⟨s1,h2,h.trans h3,h4⟩,h5⟩
theorem QK.panic {s:ESt} {d:Option Tmp} (v:Value):∀ c (a:Act) (w:World),QK F s K q (.panic c) (a.put d v) w->QK F s K q (.panic c) a w:=fun c a w h=>by
 cases h.1
theorem zoD {li:Array Bool} {D:List Nat} {i:Nat} {oi:Oper} {W:List Nat} (h:dB ops li D i oi W=true):D.contains i=false/\i∈Region.ready .any ops li/\
  (∀ k,W.contains k=true->∃ ok,ops[k]? =some ok/\∃ e∈ok.after,Region.binds .any e=true/\(e.on=i\/W.contains e.on=true))/\(∀ k,W.contains k=true->li.getD k true=false)/\
  ∀ j oj,ops[j]? =some oj->j≠i->li.getD j true=false->W.contains j=false->oi.apart ops oj=true/\D.contains j=false:=by
 unfold dB at h;simp only [Bool.and_eq_true,Bool.not_eq_true'] at h;obtain ⟨⟨⟨h1,h2⟩,h3⟩,h4⟩:=h;have h3:=List.all_eq_true.1 h3;refine ⟨h1,by simpa using h2,fun k hk => ?_,fun k hk => ?_,fun j oj hj hne hun hno => ?_⟩
 ·have:=h3 k (by simpa using hk);rw [Bool.and_eq_true] at this;have:=this.2;split at this
  ·rename_i ok hok;obtain ⟨e,he,hb⟩:=Array.any_eq_true'.1 this;simp only [Bool.and_eq_true,Bool.or_eq_true,beq_iff_eq] at hb;exact ⟨ok,hok,e,he,hb.1,hb.2⟩
  ·cases this
 ·have:=h3 k (by simpa using hk);rw [Bool.and_eq_true,Bool.not_eq_true'] at this;exact this.1
 ·have:=List.all_eq_true.1 h4 j (List.mem_range.2 (Array.getElem?_eq_some_iff.1 hj).1);simp only [hj,Bool.or_eq_true,beq_iff_eq,hne,false_or,hun,Bool.false_eq_true,hno,Bool.and_eq_true,Bool.not_eq_true'] at this;exact this
theorem ztB {li:Array Bool} {D:List Nat} {i:Nat} {oi:Oper} {W:List Nat} (h:dT ops li D i oi W=true):D.contains i=false/\i∈Region.ready .any ops li/\
  (∀ k,W.contains k=true->∃ ok,ops[k]? =some ok/\∃ e∈ok.after,Region.binds .any e=true/\(e.on=i\/W.contains e.on=true))/\(∀ k,W.contains k=true->li.getD k true=false)/\
  ∀ j oj,ops[j]? =some oj->j≠i->li.getD j true=false->W.contains j=false->D.contains j=false->oi.apart ops oj=true/\Tame P oj:=by
 unfold dT at h;simp only [Bool.and_eq_true,Bool.not_eq_true'] at h;obtain ⟨⟨⟨h1,h2⟩,h3⟩,h4⟩:=h;have h3:=List.all_eq_true.1 h3;refine ⟨h1,by simpa using h2,fun k hk => ?_,fun k hk => ?_,fun j oj hj hne hun hno hnd => ?_⟩
 ·have:=h3 k (by simpa using hk);rw [Bool.and_eq_true] at this;have:=this.2;split at this
  ·rename_i ok hok;obtain ⟨e,he,hb⟩:=Array.any_eq_true'.1 this;simp only [Bool.and_eq_true,Bool.or_eq_true,beq_iff_eq] at hb;exact ⟨ok,hok,e,he,hb.1,hb.2⟩
  ·cases this
 ·have:=h3 k (by simpa using hk);rw [Bool.and_eq_true,Bool.not_eq_true'] at this;exact this.1
 ·have:=List.all_eq_true.1 h4 j (List.mem_range.2 (Array.getElem?_eq_some_iff.1 hj).1);simp only [hj,Bool.or_eq_true,beq_iff_eq,hne,false_or,hun,Bool.false_eq_true,hno,hnd,Bool.and_eq_true] at this;exact ⟨this.1,zuk this.2⟩
theorem zsZ {y y2:EV} (h:zuc y y2=true) {w:World} {S:Nat->Prop} {H:Hd} {v v2:Value} (h1:VRel w S H y.av v) (h2:VRel w S H y2.av v2):v=v2:=by
 unfold zuc at h;split at h
 ·rename_i a b;have:=Nat.eq_of_beq_eq_true h;subst this;cases h1 with
  | own _ _ k1 _=>cases h2 with
   | own _ _ k2 _=>rw [k1] at k2;exact Option.some.inj k2
 ·rename_i a k b l;simp only [Bool.and_eq_true] at h;have e1:=Nat.eq_of_beq_eq_true h.1;have e2:=Nat.eq_of_beq_eq_true h.2;subst e1;subst e2;cases h1 with
  | ptr _ _ b1 k1=>cases h2 with
   | ptr _ _ b2 k2=>rw [k1] at k2;cases k2;rfl
 ·cases h1 with
  | nil=>cases h2 with
   | nil=>rfl
 ·cases h
theorem zix (hT:TOK P TT) {s:ESt} {i:Nat} (h:fOK TT ops s i=true) {a:Act} {w:World} (r:Rel F s.st a w):∃ oi d,ops[i]? =some oi/\oi.dst=some d/\d∉oi.looksAt ops/\(execOp a.eval oi).run P w = .ok (.value (a.tmps.getD d undef)) w:=by
 unfold fOK at h;split at h
 ·rename_i oi hoi;split at h
  ·rename_i d hd;rw [Bool.and_eq_true] at h;obtain ⟨h1,h⟩:=h;split at h
   ·rename_i y hy;split at h
    ·rename_i y2 hy2;obtain ⟨z,hz,e⟩:=zhg (F:=F) (s:=s) (o:=oi) hT hy;cases e;obtain ⟨H,r⟩:=r;obtain ⟨v,hv,hx⟩:=hz H a w r;have e:=zsZ h hx (r.slot d _ (zbY hy2));exact ⟨oi,d,hoi,hd,by simpa using h1,by rw [<- e];exact hv w (.inr (Ext.refl w))⟩
    ·cases h
   ·cases h
  ·cases h
 ·cases h
def PInv (P:Program) (F:Fr) (ops:Array Oper) (e:Pn) (p:PD) (a:Act) (w:World):Prop:=
 (p.W=fun k=>e.2.2.contains k)/\p.J w/\
 ((e.1=0/\∀ w',Ext w w'->p.J w')\/
  (e.1=1/\∃ oi d,ops[e.2.1]? =some oi/\oi.dst=some d/\∀ w',(execOp a.eval oi).run P w' = .ok (.value (a.tmps.getD d undef)) w'->p.J w')\/
  (2<=e.1/\∀ σ a w,Rel F σ a w->p.J w))
theorem PInv.step (hsel:Region.noSelect ops=true) (hT:TOK P TT) {e:Pn} {p:PD} {a a':Act} {w w':World} {s':ESt} {c:Nat} {o:Oper} (h:PInv P F ops e p a w) (ha:∃ u,a'=a.put o.dst u) (hc:c<=1->Ext w w') (r:Rel F s'.st a' w') (hk:pnOK TT ops s' c o e=true):PInv P F ops e p a' w':=by
 obtain ⟨h1,h2,h3⟩:=h;unfold pnOK at hk;rcases h3 with ⟨e1,h3⟩ | ⟨e1,oi,d,k1,k2,k3⟩ | ⟨e1,h3⟩
 ·rw [e1] at hk;have hx:=hc (Nat.le_of_ble_eq_true hk);exact ⟨h1,h3 _ hx,.inl ⟨e1,fun w'' h=>h3 _ (hx.trans h)⟩⟩
 ·rw [e1] at hk;simp only [Bool.and_eq_true] at hk;obtain ⟨hoff,hf⟩:=hk;obtain ⟨oi',d',g1,g2,g3,g4⟩:=zix hT hf r;rw [k1] at g1;cases g1;rw [k2] at g2;cases g2;obtain ⟨u,rfl⟩:=ha;have hdd:(∀ t,o.dst=some t->t∉oi.looksAt ops)/\o.dst≠some d:=by
   unfold offB at hoff;rw [k1] at hoff;cases ho:o.dst with
   | none=>exact ⟨fun t ht=>(by cases ht),(by simp)⟩
   | some t=>
    rw [ho] at hoff;simp only [Bool.and_eq_true,Bool.not_eq_true',bne_iff_ne,ne_eq] at hoff;refine ⟨fun t' ht' => ?_,fun ht' => ?_⟩
    ·cases ht';have:=hoff.1;simpa using this
    ·cases ht';exact hoff.2 k2
  have he:=execOp_put oi (fun cs b=>Region.noSelect_spec hsel _ oi cs b k1) a o.dst u hdd.1;have hs:(a.put o.dst u).tmps.getD d undef=a.tmps.getD d undef:=by
   cases ho:o.dst with
   | none=>rfl
   | some t=>
    have hne:t≠d:=fun e=>hdd.2 (by rw [ho,e])
    simp only [Act.put,Array.getD_eq_getD_getElem?];rw [Array.getElem?_setIfInBounds_ne hne]
  have key:∀ w'',(execOp (a.put o.dst u).eval oi).run P w'' = .ok (.value ((a.put o.dst u).tmps.getD d undef)) w''->p.J w'':=fun w'' h=>by
   rw [he,hs] at h;exact k3 w'' h
  exact ⟨h1,key _ g4,.inr (.inl ⟨e1,oi,d,k1,k2,key⟩)⟩
 ·exact ⟨h1,h3 _ _ _ r,.inr (.inr ⟨e1,h3⟩)⟩
theorem PInv.frame {F':Fr} {e:Pn} {p:PD} {a:Act} {w:World} (h:PInv P F ops e p a w) (hf:∀ σ a w,Rel F' σ a w->Rel F σ a w):PInv P F' ops e p a w:=
 ⟨h.1,h.2.1,h.2.2.imp id (fun h=>h.imp id fun ⟨h1,h2⟩=>⟨h1,fun σ a w r=>h2 σ a w (hf σ a w r)⟩)⟩
theorem QK.frame {F':Fr} {s:ESt} (hf:∀ σ a w,Rel F' σ a w->Rel F σ a w) {e:Exit} {a:Act} {w:World} (h:QK F' s K q e a w):QK F s K q e a w:=
 let ⟨h1,σ,h2,h3⟩:=h;⟨h1,σ,h2,hf _ _ _ h3⟩
theorem zn6 {LC:List (Pn×PD)} {i:Nat} (h:∀ c∈LC,c.2.W=fun k=>c.1.2.2.contains k):
  (LC.map (·.1)).filter (fun p => !p.2.2.contains i)=(LC.filter fun c => !c.1.2.2.contains i).map (·.1)/\(LC.map (·.2)).filter (fun p => !p.W i)=(LC.filter fun c => !c.1.2.2.contains i).map (·.2):=by
 induction LC with
 | nil=>exact ⟨rfl,rfl⟩
 | cons c r ih=>
  obtain ⟨i1,i2⟩:=ih fun c hc=>h c (List.mem_cons_of_mem _ hc)
  have hc:=h c (List.mem_cons_self ..);have hcw:c.2.W i=c.1.2.2.contains i:=by rw [hc]
  rw [List.map_cons,List.map_cons,List.filter_cons,List.filter_cons,List.filter_cons,i1,i2,hcw];cases c.1.2.2.contains i<;>exact ⟨rfl,rfl⟩
def KK (F:Fr) (s:ESt) (K':ESt->Option R) (q:R) (a':Act) (w':World):Prop:=∃ s',Sfx s s'/\K' s'=some q/\Rel F s'.st a' w'
theorem ze9 (hsel:Region.noSelect ops=true) (hT:TOK P TT) (hG:GOK P Γ) (hbo:Both bo):∀ (t:OP),
  (∀ (F:Fr) (LC:List (Pn×PD)) (n:Nat) (li:Array Bool) (s:ESt) (a:Act) (w:World),t.cov ops li=true->evP TT Γ bo ops K t (LC.map (·.1)) n li s=some q->Rel F s.st a w->(∀ c∈LC,PInv P F ops c.1 c.2 a w)->zb1 P ops (QK F s K q) n (LC.map (·.2)) li a w)/\
  (∀ (F:Fr) (LC:List (Pn×PD)) (n:Nat) (li:Array Bool) (s:ESt) (a:Act) (w:World),evP TT Γ bo ops K t (LC.map (·.1)) (n+1) li s=some q->Rel F s.st a w->(∀ c∈LC,PInv P F ops c.1 c.2 a w)->∀ i∈t.alts,
   wpOp P ops (QK F s K q) i (fun a' w'=>(∀ p∈LC.map (·.2),p.W i=false->p.J w')/\zb1 P ops (QK F s K q) n ((LC.map (·.2)).filter fun p => !p.W i) (li.setIfInBounds i true) a' w') a w)
 | .leaf=>by
  refine ⟨fun F LC n li s a w _ h r hp => ?_,fun F LC n li s a w h r hp i hi=>by cases hi⟩;simp only [evP] at h;split at h
  ·have hb:=(zaa h).1;replace h:=(zaa h).2;exact ⟨by simpa using hb,rfl,_,⟨s,rfl,Sfx.refl _,h⟩,r⟩
  ·cases h
 | .one i t=>by
  refine ⟨fun F LC n li s a w _ h r hp => ?_,fun F LC n li s a w h r hp i hi=>by cases hi⟩;simp only [evP] at h;split at h
  ·rename_i n o ho;have hb:=(zaa h).1;replace h:=(zaa h).2;simp only [Bool.and_eq_true] at hb;obtain ⟨⟨⟨hpu,hf⟩,hr⟩,hc⟩:=hb;have hs:=AO.single (zav (F:=F) hT hG hbo h) r (K:=KK F s (fun s'=>bif (LC.map (·.1)).all (pnOK TT ops s' 0 o) then evP TT Γ bo ops K t (LC.map (·.1)) n (li.setIfInBounds i true) s' else none) q) (fun σ' a' w' ⟨s',h1,h2,h3⟩ r'=>by
    subst h1;exact ⟨s',h2,h3,r'⟩) (QK F s K q)
   have hfr:=Region.free_spec ho hf;have hJ:∀ p∈LC.map (·.2),p.J w:=fun p hp'=>by
    obtain ⟨c,hc',rfl⟩:=List.mem_map.1 hp';exact (hp c hc').2.1
   have fin:∀ v,KK F s (fun s'=>bif (LC.map (·.1)).all (pnOK TT ops s' 0 o) then evP TT Γ bo ops K t (LC.map (·.1)) n (li.setIfInBounds i true) s' else none) q (a.put o.dst v) w->zb1 P ops (QK F s K q) n (LC.map (·.2)) (li.setIfInBounds i true) (a.put o.dst v) w:=fun v ⟨s',h2,h3,r'⟩=>by
    have hb:=(zaa h3).1;replace h3:=(zaa h3).2;refine zbC (fun _ _ _=>QK.wide h2) _ _ _ _ _ ((ze9 hsel hT hG hbo t).1 F LC n _ s' _ w hc h3 r' fun c hc' => ?_);exact (hp c hc').step hsel hT ⟨v,rfl⟩ (fun _=>Ext.refl w) r' (List.all_eq_true.1 hb _ (List.mem_map.2 ⟨c,hc',rfl⟩))
   split at hs
   ·rename_i hw;obtain ⟨v,hv,hk⟩:=hs;exact zf1 ho (Region.noSelect_spec hsel) (QK.panic v) n _ li a w hfr (by simpa using hr) (.inl ⟨hw,fun w' _=>hv w' (.inl hpu)⟩) hJ (fin v hk)
   ·rename_i hw;exact zf1 ho (Region.noSelect_spec hsel) (QK.panic undef) n _ li a w hfr (by simpa using hr) (.inr ⟨by simpa using hw,rfl⟩) hJ (fin undef hs)
  ·cases h
 | .rd k i W t=>by
  refine ⟨fun F LC n li s a w _ h r hp => ?_,fun F LC n li s a w h r hp i hi=>by cases hi⟩;simp only [evP] at h;split at h
  ·rename_i n o ho;have hb:=(zaa h).1;replace h:=(zaa h).2;simp only [Bool.and_eq_true] at hb;obtain ⟨⟨hd,hrd⟩,hc⟩:=hb;obtain ⟨_,hr,hW,hWl,hfr⟩:=zoD hd;obtain ⟨H,rH⟩:=r;obtain ⟨F',rH',hFF,hkeep⟩:=zr6 rH;have hp':∀ c∈LC,PInv P F' ops c.1 c.2 a w:=fun c hc'=>(hp c hc').frame hFF
   have hs:=AO.single (zav (F:=F') hT hG hbo h) ⟨H,rH'⟩ (K:=KK F' s (fun s'=>bif (LC.map (·.1)).all (pnOK TT ops s' 0 o) && (!Nat.beq k 1 || fOK TT ops s' i) then evP TT Γ bo ops K t ((k,i,W)::LC.map (·.1)) n (li.setIfInBounds i true) s' else none) q) (fun σ' a' w' ⟨s',h1,h2,h3⟩ r'=>by
    subst h1;exact ⟨s',h2,h3,r'⟩) (QK F s K q)
   have hJ:∀ p∈LC.map (·.2),p.J w:=fun p hp''=>by
    obtain ⟨c,hc',rfl⟩:=List.mem_map.1 hp'';exact (hp c hc').2.1
   have fin:∀ v,KK F' s (fun s'=>bif (LC.map (·.1)).all (pnOK TT ops s' 0 o) && (!Nat.beq k 1 || fOK TT ops s' i) then evP TT Γ bo ops K t ((k,i,W)::LC.map (·.1)) n (li.setIfInBounds i true) s' else none) q (a.put o.dst v) w->
     ∀ J:World->Prop,YieldsIf P ops J o v a->(∀ s',Rel F' s'.st (a.put o.dst v) w->(!Nat.beq k 1 || fOK TT ops s' i)=true->PInv P F' ops (k,i,W) ⟨fun j=>W.contains j,J⟩ (a.put o.dst v) w)->zb1 P ops (QK F s K q) (n+1) (LC.map (·.2)) li a w:=fun v ⟨s',h2,h3,r'⟩ J hy hpi=>by
    have hb:=(zaa h3).1;replace h3:=(zaa h3).2;rw [Bool.and_eq_true] at hb;have hpv:=hpi s' r' hb.2;have:=(ze9 hsel hT hG hbo t).1 F' (((k,i,W),⟨fun j=>W.contains j,J⟩)::LC) n _ s' _ w hc h3 r' fun c hc'=>by
     rcases List.mem_cons.1 hc' with rfl | hc'
     ·exact hpv
     ·exact (hp' c hc').step hsel hT ⟨v,rfl⟩ (fun _=>Ext.refl w) r' (List.all_eq_true.1 hb.1 _ (List.mem_map.2 ⟨c,hc',rfl⟩))
    exact zj4 ⟨fun j=>W.contains j,J⟩ ho (Region.noSelect_spec hsel) (QK.panic v) hW n _ li a w hWl (fun j oj h1 h2 h3 h4=>(hfr j oj h1 h2 h3 h4).1) hr hy hpv.2.1 hJ
     (zbC (fun _ _ _ h=>(QK.wide h2 h).frame hFF) _ _ _ _ _ this)
   split at hs
   ·rename_i hw;obtain ⟨v,hv,hk⟩:=hs;by_cases h2k:2<=k
    ·have hk2:k=2:=by
      unfold rdOK at hrd;split at hrd
      ·omega
      ·omega
      ·rfl
      ·cases hrd
     subst hk2;simp only [rdOK] at hrd;split at hrd
     ·rename_i t' x hop;split at hrd
      ·rename_i tx y hx;split at hrd
       ·rename_i u hu;have:=Ty.eq_of_beq hrd;subst this;obtain ⟨z,hz,_⟩:=zaK hT hu;obtain ⟨b,v',hb,hv'⟩:=ziM (P:=P) rH hop (zah hx) (by
         cases hag:u.agg with
         | false=>
          obtain ⟨d,hd,hda⟩:=hz.un;rw [hag] at hda;exact .inl ⟨zca hag y,d,hd,hda⟩
         | true=>
          rw [hag] at hz;exact .inr ⟨_,_,_,_,zbz hag y,hz,zau u y⟩)
        have e:v'=v:=by
         have h1:=hv' w rfl;rw [hv w (.inr (Ext.refl w))] at h1;injection h1 with h1 _
         injection h1 with h1
         exact h1.symm
        subst e;exact fin v' hk (fun w'=>w'.heap[b]? =w.heap[b]?) (.inl ⟨hw,fun w' h=>hv' w' h⟩) fun s' r' _=>⟨rfl,rfl,.inr (.inr ⟨Nat.le_refl _,fun σ a' w' r''=>hkeep b hb σ a' w' r''⟩)⟩
       ·cases hrd
      ·cases hrd
     ·cases hrd
    ·refine fin v hk (fun w'=>(execOp a.eval o).run P w' = .ok (.value v) w') (.inl ⟨hw,fun w' h=>h⟩) fun s' r' hfo => ?_
     refine ⟨rfl,hv w (.inr (Ext.refl w)),?_⟩;by_cases hk0:k=0
     ·exact .inl ⟨hk0,fun w' hx=>hv w' (.inr hx)⟩
     ·have hk1:k=1:=by omega
      subst hk1;have hfo:fOK TT ops s' i=true:=by simpa using hfo
      obtain ⟨oi,d,g1,g2,g3,g4⟩:=zix hT hfo r';rw [ho] at g1;cases g1;have he:=execOp_put o (fun cs b=>Region.noSelect_spec hsel _ o cs b ho) a o.dst v (fun t ht=>by rw [g2] at ht;cases ht;exact g3);have e:(a.put o.dst v).tmps.getD d undef=v:=by
       rw [he,hv w (.inr (Ext.refl w))] at g4;injection g4 with g4 _
       injection g4 with g4
       exact g4.symm
      exact .inr (.inl ⟨rfl,o,d,ho,g2,fun w' h=>by rw [he,e] at h;exact h⟩)
   ·rename_i hw;refine fin undef hs (fun _=>True) (.inr ⟨by simpa using hw,rfl⟩) fun s' r' hfo=>⟨rfl,trivial,?_⟩
    by_cases hk0:k=0
    ·exact .inl ⟨hk0,fun _ _=>trivial⟩
    ·by_cases hk1:k=1
     ·subst hk1;have hfo:fOK TT ops s' i=true:=by simpa using hfo
      obtain ⟨oi,d,g1,g2,g3,g4⟩:=zix hT hfo r';exact .inr (.inl ⟨rfl,oi,d,g1,g2,fun _ _=>trivial⟩)
     ·exact .inr (.inr ⟨by omega,fun _ _ _ _=>trivial⟩)
  ·cases h
 | .frz k ty t=>by
  refine ⟨fun F LC n li s a w hc h r hp => ?_,fun F LC n li s a w h r hp i hi=>by cases hi⟩;simp only [evP] at h;obtain ⟨hw,hs⟩:=zkA s k ty;exact zbC (fun _ _ _=>QK.wide hs) _ _ _ _ _ ((ze9 hsel hT hG hbo t).1 F LC n li _ a w hc h (hw.rel F a w r) hp)
 | .stop=>by
  refine ⟨fun F LC n li s a w _ h r hp=>by simp [evP] at h,fun F LC n li s a w h r hp i hi=>by cases hi⟩
 | .alt c i t rest=>by
  have hL:∀ (F:Fr) (LC:List (Pn×PD)) (n:Nat) (li:Array Bool) (s:ESt) (a:Act) (w:World),evP TT Γ bo ops K (.alt c i t rest) (LC.map (·.1)) (n+1) li s=some q->Rel F s.st a w->(∀ c∈LC,PInv P F ops c.1 c.2 a w)->∀ j∈(OP.alt c i t rest).alts,
    wpOp P ops (QK F s K q) j (fun a' w'=>(∀ p∈LC.map (·.2),p.W j=false->p.J w')/\zb1 P ops (QK F s K q) n ((LC.map (·.2)).filter fun p => !p.W j) (li.setIfInBounds j true) a' w') a w:=by
   intro F LC n li s a w h r hp j hj;simp only [evP] at h;split at h
   ·rename_i n' m o hn ho;cases hn;have hc:=(zaa h).1;replace h:=(zaa h).2;have one:zcm TT Γ bo ops.toList [(c,o)] s (fun s'=>bif (LC.map (·.1)).all (fun p=>p.2.2.contains i || pnOK TT ops s' c o p) then evP TT Γ bo ops K t ((LC.map (·.1)).filter fun p => !p.2.2.contains i) n (li.setIfInBounds i true) s' else none)=some q->
      wpOp P ops (QK F s K q) i (fun a' w'=>(∀ p∈LC.map (·.2),p.W i=false->p.J w')/\zb1 P ops (QK F s K q) n ((LC.map (·.2)).filter fun p => !p.W i) (li.setIfInBounds i true) a' w') a w:=fun h=>by
     have hs:=zjF ho (AO.single (zav (F:=F) hT hG hbo h) r (K:=KK F s (fun s'=>bif (LC.map (·.1)).all (fun p=>p.2.2.contains i || pnOK TT ops s' c o p) then evP TT Γ bo ops K t ((LC.map (·.1)).filter fun p => !p.2.2.contains i) n (li.setIfInBounds i true) s' else none) q) (fun σ' a' w' ⟨s',h1,h2,h3⟩ r'=>by
      subst h1;exact ⟨s',h2,h3,r'⟩) (QK F s K q))
     refine wpOp_mono (fun a' w' ⟨hu,hx,s',h2,h3,r'⟩ => ?_) hs;have hb:=(zaa h3).1;replace h3:=(zaa h3).2;have hstep:∀ c'∈LC,c'.1.2.2.contains i=false->PInv P F ops c'.1 c'.2 a' w':=fun c' hc' hi=>by
      have:=List.all_eq_true.1 hb _ (List.mem_map.2 ⟨c',hc',rfl⟩);rw [hi,Bool.false_or] at this;exact (hp c' hc').step hsel hT hu hx r' this
     obtain ⟨f1,f2⟩:=zn6 (LC:=LC) (i:=i) fun c' hc'=>(hp c' hc').1
     refine ⟨fun p hp' hpi => ?_,?_⟩
     ·obtain ⟨c',hc',rfl⟩:=List.mem_map.1 hp';exact (hstep c' hc' (by have:=(hp c' hc').1;rw [this] at hpi;exact hpi)).2.1
     ·rw [f2];rw [f1] at h3;refine zbC (fun _ _ _=>QK.wide h2) _ _ _ _ _ ((ze9 hsel hT hG hbo t).1 F _ n _ s' a' w' hc h3 r' fun c' hc' => ?_);rw [List.mem_filter] at hc';exact hstep c' hc'.1 (by simpa using hc'.2)
    have hj':j=i\/j∈rest.alts:=by simpa [OP.alts] using hj
    split at h
    ·rcases hj' with rfl | hj'
     ·exact one h
     ·cases hj'
    ·rcases hj' with rfl | hj'
     ·exact one (hbo.l h)
     ·exact (ze9 hsel hT hG hbo rest).2 F LC n li s a w (hbo.r h) r hp j hj'
   ·cases h
  refine ⟨fun F LC n li s a w hcov h r hp => ?_,hL⟩;cases n with
  | zero=>simp only [evP] at h;cases h
  | succ n=>
   simp only [OP.cov,Bool.and_eq_true] at hcov;refine ⟨fun hr => ?_,fun j hj => ?_⟩
   ·rw [hr] at hcov;simp at hcov
   ·have:=List.all_eq_true.1 hcov.2 j hj;exact hL F LC n li s a w h r hp j (by simpa using this)
theorem zbX (hsel:Region.noSelect ops=true) (hT:TOK P TT) (hG:GOK P Γ) (hbo:Both bo):∀ (t:OT),
  ((∀ (n:Nat) (li:Array Bool) (s:ESt) (a:Act) (w:World),t.cov ops li []=true->evT TT Γ bo ops K t none n li s=some q->Rel F s.st a w->wpAny P .any ops (QK F s K q) n li a w)/\
  (∀ (n:Nat) (li:Array Bool) (s:ESt) (a:Act) (w:World),evT TT Γ bo ops K t none (n+1) li s=some q->Rel F s.st a w->∀ i∈t.alts,wpOp P ops (QK F s K q) i (wpAny P .any ops (QK F s K q) n (li.setIfInBounds i true)) a w))/\
  ((∀ (D:List Nat×List Nat) (n:Nat) (li:Array Bool) (s:ESt) (a:Act) (w:World),t.cov ops li D.2=true->evT TT Γ bo ops K t (some D) n li s=some q->Rel F s.st a w->zct P ops (QK F s K q) (fun j=>D.1.contains j) (fun j=>D.2.contains j) true n li a w)/\
  (∀ (D:List Nat×List Nat) (n:Nat) (li:Array Bool) (s:ESt) (a:Act) (w:World),evT TT Γ bo ops K t (some D) (n+1) li s=some q->Rel F s.st a w->∀ i∈t.alts,wpOp P ops (QK F s K q) i (fun a' w'=>((true && !D.1.contains i)=true->Ext w w')/\zct P ops (QK F s K q) (fun j=>D.1.contains j) (fun j=>D.2.contains j) (true && !D.1.contains i) n (li.setIfInBounds i true) a' w') a w))
 | .leaf ord=>by
  refine ⟨⟨fun n li s a w _ h r => ?_,fun n li s a w h r i hi=>by cases hi⟩,⟨fun D n li s a w _ h r => ?_,fun D n li s a w h r i hi=>by cases hi⟩⟩
  ·simp only [evT] at h;have hb:=(zaa h).1;replace h:=(zaa h).2;simp only [Bool.and_eq_true] at hb;exact zg8 hsel n ord li a w (Nat.eq_of_beq_eq_true hb.1.1) (zrB hb.1.2) hb.2 (zav hT hG hbo h a w _ r fun σ' a' w' hk hr=>⟨rfl,σ',hk,hr⟩)
  ·simp only [evT] at h;split at h
   ·have hb:=(zaa h).1;replace h:=(zaa h).2;exact ⟨by simpa using hb,rfl,_,⟨s,rfl,Sfx.refl _,h⟩,r⟩
   ·cases h
 | .one i t=>by
  refine ⟨⟨fun n li s a w _ h r => ?_,fun n li s a w h r i hi=>by cases hi⟩,⟨fun D n li s a w _ h r => ?_,fun D n li s a w h r i hi=>by cases hi⟩⟩
  ·simp only [evT] at h;split at h
   ·rename_i n o ho;have hb:=(zaa h).1;replace h:=(zaa h).2;simp only [Bool.and_eq_true] at hb;obtain ⟨⟨⟨hp,hf⟩,hr⟩,hc⟩:=hb;have hs:=AO.single (zav (F:=F) hT hG hbo h) r (K:=wpAny P .any ops (QK F s K q) n (li.setIfInBounds i true)) (fun σ' a' w' ⟨s',h1,h2,h3⟩ r'=>by
     subst h1;exact zde (fun _ _ _=>QK.wide h2) _ _ _ _ ((zbX hsel hT hG hbo t).1.1 n _ s' a' w' hc h3 r')) (QK F s K q)
    split at hs
    ·rename_i hw;obtain ⟨v,hv,hk⟩:=hs;exact wpAny_take ho hsel hf hr (QK.panic v) (.inl ⟨hw,fun w'=>hv w' (.inl hp)⟩) hk
    ·rename_i hw;exact wpAny_take ho hsel hf hr (QK.panic undef) (.inr ⟨by simpa using hw,rfl⟩) hs
   ·cases h
  ·simp only [evT] at h;split at h
   ·rename_i n o ho;have hb:=(zaa h).1;replace h:=(zaa h).2;simp only [Bool.and_eq_true,Bool.not_eq_true'] at hb;obtain ⟨⟨⟨⟨hp,hf⟩,hr⟩,hnd⟩,hc⟩:=hb;have hs:=AO.single (zav (F:=F) hT hG hbo h) r (K:=zct P ops (QK F s K q) (fun j=>D.1.contains j) (fun j=>D.2.contains j) true n (li.setIfInBounds i true)) (fun σ' a' w' ⟨s',h1,h2,h3⟩ r'=>by
     subst h1;exact zdz (fun _ _ _=>QK.wide h2) _ _ _ _ _ ((zbX hsel hT hG hbo t).2.1 D n _ s' a' w' hc h3 r')) (QK F s K q)
    have hfr:=Region.free_spec ho hf;split at hs
    ·rename_i hw;obtain ⟨v,hv,hk⟩:=hs;exact zlF ho (Region.noSelect_spec hsel) (QK.panic v) hnd n true li a w hfr (by simpa using hr) (.inl ⟨hw,fun w' _=>hv w' (.inl hp)⟩) hk
    ·rename_i hw;exact zlF ho (Region.noSelect_spec hsel) (QK.panic undef) hnd n true li a w hfr (by simpa using hr) (.inr ⟨by simpa using hw,rfl⟩) hs
   ·cases h
 | .ban i W t rest=>by
  refine ⟨⟨fun n li s a w _ h r=>by simp [evT] at h,fun n li s a w h r i hi=>by cases hi⟩,⟨fun D n li s a w _ h r => ?_,fun D n li s a w h r i hi=>by cases hi⟩⟩;simp only [evT] at h;split at h
  ·rename_i n o ho;have hb:=(zaa h).1;replace h:=(zaa h).2;rw [Bool.and_eq_true,Bool.and_eq_true] at hb;obtain ⟨⟨hp,hc⟩,hcr⟩:=hb;obtain ⟨hd1,hr,hW,hWl,hfr⟩:=ztB (P:=P) hp;have hs:=AO.single (zav (F:=F) hT hG hbo (hbo.l h)) r (K:=zct P ops (QK F s K q) (fun j=>D.1.contains j) (fun j=>D.2.contains j) true n (li.setIfInBounds i true)) (fun σ' a' w' ⟨s',h1,h2,h3⟩ r'=>by
    subst h1;exact zdz (fun _ _ _=>QK.wide h2) _ _ _ _ _ ((zbX hsel hT hG hbo t).2.1 D n _ s' a' w' hc h3 r')) (QK F s K q)
   have hB':∀ j,j≠i->(i::D.2).contains j=true->D.2.contains j=true:=fun j hj hh=>by
    rw [List.contains_cons,Bool.or_eq_true,beq_iff_eq] at hh;exact hh.resolve_left hj
   have h2:=(zbX hsel hT hG hbo rest).2.1 (D.1,i::D.2) (n+1) li s a w hcr (hbo.r h) r;split at hs
   ·rename_i hw;obtain ⟨v,hv,hk⟩:=hs;exact zmp ho (Region.noSelect_spec hsel) (QK.panic v) (fun k=>W.contains k) hW hd1 hB' n li a w hWl hfr hr (.inl ⟨hw,fun w' hx=>hv w' (.inr hx)⟩) hk h2
   ·rename_i hw;exact zmp ho (Region.noSelect_spec hsel) (QK.panic undef) (fun k=>W.contains k) hW hd1 hB' n li a w hWl hfr hr (.inr ⟨by simpa using hw,rfl⟩) hs h2
  ·cases h
 | .rd i W t=>by
  refine ⟨⟨fun n li s a w _ h r=>by simp [evT] at h,fun n li s a w h r i hi=>by cases hi⟩,⟨fun D n li s a w _ h r => ?_,fun D n li s a w h r i hi=>by cases hi⟩⟩;simp only [evT] at h;split at h
  ·rename_i n o ho;have hb:=(zaa h).1;replace h:=(zaa h).2;simp only [Bool.and_eq_true] at hb;obtain ⟨hp,hc⟩:=hb;obtain ⟨hd1,hr,hW,hWl,hfr⟩:=zoD hp;have hs:=AO.single (zav (F:=F) hT hG hbo h) r (K:=zct P ops (QK F s K q) (fun j=>D.1.contains j) (fun j=>D.2.contains j) true n (li.setIfInBounds i true)) (fun σ' a' w' ⟨s',h1,h2,h3⟩ r'=>by
    subst h1;exact zdz (fun _ _ _=>QK.wide h2) _ _ _ _ _ ((zbX hsel hT hG hbo t).2.1 D n _ s' a' w' hc h3 r')) (QK F s K q)
   split at hs
   ·rename_i hw;obtain ⟨v,hv,hk⟩:=hs;exact zj3 ho (Region.noSelect_spec hsel) (QK.panic v) (fun k=>W.contains k) hW hd1 n li a w hWl hfr hr (.inl ⟨hw,fun w' hx=>hv w' (.inr hx)⟩) hk
   ·rename_i hw;exact zj3 ho (Region.noSelect_spec hsel) (QK.panic undef) (fun k=>W.contains k) hW hd1 n li a w hWl hfr hr (.inr ⟨by simpa using hw,rfl⟩) hs
  ·cases h
 | .live D t=>by
  refine ⟨⟨fun n li s a w hc h r => ?_,fun n li s a w h r i hi=>by cases hi⟩,⟨fun D n li s a w _ h r=>by simp [evT] at h,fun D n li s a w h r i hi=>by cases hi⟩⟩;simp only [evT] at h;exact zmq (fun _=>rfl) _ _ _ _ _ ((zbX hsel hT hG hbo t).2.1 (D,[]) n li s a w hc h r)
 | .pnd t=>by
  refine ⟨⟨fun n li s a w hc h r => ?_,fun n li s a w h r i hi=>by cases hi⟩,⟨fun D n li s a w _ h r=>by simp [evT] at h,fun D n li s a w h r i hi=>by cases hi⟩⟩;simp only [evT] at h;exact zjE _ _ _ _ ((ze9 hsel hT hG hbo t).1 F [] n li s a w hc h r fun c hc'=>by cases hc')
 | .stop=>by
  refine ⟨⟨fun n li s a w _ h r=>by simp [evT] at h,fun n li s a w h r i hi=>by cases hi⟩,⟨fun D n li s a w _ h r=>by simp [evT] at h,fun D n li s a w h r i hi=>by cases hi⟩⟩
 | .alt c i t rest=>by
  have hB:∀ (n:Nat) (li:Array Bool) (s:ESt) (a:Act) (w:World),evT TT Γ bo ops K (.alt c i t rest) none (n+1) li s=some q->Rel F s.st a w->∀ j∈(OT.alt c i t rest).alts,wpOp P ops (QK F s K q) j (wpAny P .any ops (QK F s K q) n (li.setIfInBounds j true)) a w:=by
   intro n li s a w h r j hj;simp only [evT] at h;split at h
   ·rename_i n' m o hn ho;cases hn;have hc:=(zaa h).1;replace h:=(zaa h).2;have one:zcm TT Γ bo ops.toList [(c,o)] s (fun s'=>evT TT Γ bo ops K t none n (li.setIfInBounds i true) s')=some q->wpOp P ops (QK F s K q) i (wpAny P .any ops (QK F s K q) n (li.setIfInBounds i true)) a w:=fun h=>
     zoo ho (AO.single (zav (F:=F) hT hG hbo h) r (K:=wpAny P .any ops (QK F s K q) n (li.setIfInBounds i true)) (fun σ' a' w' ⟨s',h1,h2,h3⟩ r'=>by
      subst h1;exact zde (fun _ _ _=>QK.wide h2) _ _ _ _ ((zbX hsel hT hG hbo t).1.1 n _ s' a' w' hc h3 r')) (QK F s K q))
    have hj':j=i\/j∈rest.alts:=by simpa [OT.alts] using hj
    split at h
    ·rcases hj' with rfl | hj'
     ·exact one h
     ·cases hj'
    ·rcases hj' with rfl | hj'
     ·exact one (hbo.l h)
     ·exact (zbX hsel hT hG hbo rest).1.2 n li s a w (hbo.r h) r j hj'
   ·cases h
  have hL:∀ (D:List Nat×List Nat) (n:Nat) (li:Array Bool) (s:ESt) (a:Act) (w:World),evT TT Γ bo ops K (.alt c i t rest) (some D) (n+1) li s=some q->Rel F s.st a w->∀ j∈(OT.alt c i t rest).alts,
    wpOp P ops (QK F s K q) j (fun a' w'=>((true && !D.1.contains j)=true->Ext w w')/\zct P ops (QK F s K q) (fun j=>D.1.contains j) (fun j=>D.2.contains j) (true && !D.1.contains j) n (li.setIfInBounds j true) a' w') a w:=by
   intro D n li s a w h r j hj;simp only [evT] at h;split at h
   ·rename_i n' m o hn ho;cases hn;have hc:=(zaa h).1;replace h:=(zaa h).2;rw [Bool.and_eq_true,Bool.or_eq_true] at hc;obtain ⟨hc,hd⟩:=hc;have one:zcm TT Γ bo ops.toList [(c,o)] s (fun s'=>evT TT Γ bo ops K t (bif D.1.contains i then none else some D) n (li.setIfInBounds i true) s')=some q->
      wpOp P ops (QK F s K q) i (fun a' w'=>((true && !D.1.contains i)=true->Ext w w')/\zct P ops (QK F s K q) (fun j=>D.1.contains j) (fun j=>D.2.contains j) (true && !D.1.contains i) n (li.setIfInBounds i true) a' w') a w:=fun h=>by
     cases hDi:D.1.contains i with
     | true=>
      rw [hDi] at h;rw [hDi,cond_true] at hc;refine wpOp_mono (fun a' w' h'=>⟨fun e=>by simp at e,by simpa using zlE _ _ _ _ h'⟩) (zoo ho (AO.single (zav (F:=F) hT hG hbo h) r (K:=wpAny P .any ops (QK F s K q) n (li.setIfInBounds i true)) (fun σ' a' w' ⟨s',h1,h2,h3⟩ r'=>by
       subst h1;exact zde (fun _ _ _=>QK.wide h2) _ _ _ _ ((zbX hsel hT hG hbo t).1.1 n _ s' a' w' hc h3 r')) (QK F s K q)))
     | false=>
      rw [hDi] at h;rw [hDi,cond_false] at hc;have hle:c<=1:=by
       rcases hd with hd | hd
       ·rw [hDi] at hd;cases hd
       ·exact Nat.le_of_ble_eq_true hd
      refine wpOp_mono (fun a' w' h'=>⟨fun _=>h'.1,by simpa using h'.2⟩) (zqG ho hle (AO.single (zav (F:=F) hT hG hbo h) r (K:=zct P ops (QK F s K q) (fun j=>D.1.contains j) (fun j=>D.2.contains j) true n (li.setIfInBounds i true)) (fun σ' a' w' ⟨s',h1,h2,h3⟩ r'=>by
       subst h1;exact zdz (fun _ _ _=>QK.wide h2) _ _ _ _ _ ((zbX hsel hT hG hbo t).2.1 D n _ s' a' w' hc h3 r')) (QK F s K q)))
    have hj':j=i\/j∈rest.alts:=by simpa [OT.alts] using hj
    split at h
    ·rcases hj' with rfl | hj'
     ·exact one h
     ·cases hj'
    ·rcases hj' with rfl | hj'
     ·exact one (hbo.l h)
     ·exact (zbX hsel hT hG hbo rest).2.2 D n li s a w (hbo.r h) r j hj'
   ·cases h
  refine ⟨⟨fun n li s a w hcov h r => ?_,hB⟩,⟨fun D n li s a w hcov h r => ?_,hL⟩⟩
  ·cases n with
   | zero=>simp only [evT] at h;cases h
   | succ n=>
    simp only [OT.cov,Bool.and_eq_true] at hcov;refine ⟨fun hr => ?_,fun j hj => ?_⟩
    ·rw [hr] at hcov;simp at hcov
    ·have:=List.all_eq_true.1 hcov.2 j hj;exact hB n li s a w h r j (by simpa using this)
  ·cases n with
   | zero=>simp only [evT] at h;cases h
   | succ n=>
    simp only [OT.cov,Bool.and_eq_true] at hcov;refine ⟨fun hr => ?_,fun j hj hBj => ?_⟩
    ·rw [hr] at hcov;simp at hcov
    ·have:=List.all_eq_true.1 hcov.2 j hj;have hBj:D.2.contains j=false:=by rw [Bool.true_and] at hBj;exact hBj
     rw [hBj,Bool.false_or] at this;exact hL D n li s a w h r j (by simpa using this)
end
end
end Go.Ab
