import Derived.Test.YtajabcfngklacaaEv40n15
import Derived.Test.YtajabcfngklacaaAb24n19
set_option linter.unusedVariables false
set_option linter.unusedSimpArgs false
set_option linter.unusedSectionVars false
namespace Go.Ab
noncomputable section
set_option linter.unusedVariables false
variable {R:Type}
def ESt.prepF (s:ESt) (k:Nat) (t:Ty):ESt:=match s.get k with
 | some (.ptr id _)=>match s.ent id with
  | some (.box _ cs)=>(s.boxDat id 0 cs.length).freezeT id t
  | _=>s
 | _=>s
theorem zti (s:ESt) (k:Nat) (t:Ty):Wk s (s.prepF k t)/\Sfx s (s.prepF k t):=by
 unfold ESt.prepF;split
 ·rename_i id o _;split
  ·rename_i cs _;obtain ⟨a,b⟩:=zzT (s.boxDat id 0 cs.length) id t;exact ⟨(zmp id cs.length s 0).trans a,(Sfx.boxDat id cs.length s 0).trans b⟩
  ·exact ⟨Wk.refl _,Sfx.refl _⟩
 ·exact ⟨Wk.refl _,Sfx.refl _⟩
inductive OP where
 | leaf
 | one (i:Nat) (t:OP)
 | rd (k i:Nat) (W:List Nat) (t:OP)
 | frz (k:Nat) (ty:Ty) (t:OP)
 | alt (c i:Nat) (t rest:OP)
 | stop
def OP.alts:OP->List Nat
 | .alt _ i _ a=>i::a.alts
 | _=>[]
def OP.cov (ops:Array Oper) (b:Array Bool):OP->Bool
 | .alt c i t a=>(Region.ready .any ops b).contains i && (Region.ready .any ops b).all fun j=>(OP.alt c i t a).alts.contains j
 | .frz _ _ t=>t.cov ops b
 | .stop=>false
 | _=>true
abbrev Pn:=Nat×Nat×List Nat
def zD5:EV->EV->Bool
 | .own a,.own b=>Nat.beq a b
 | .ptr a k,.ptr b l=>Nat.beq a b && Nat.beq k l
 | .nil,.nil=>true
 | _,_=>false
def fOK (TT:List TE) (ops:Array Oper) (s:ESt) (i:Nat):Bool:=match ops[i]? with
 | some a=>(match a.dst with
  | some d=>(!(a.looksAt ops).contains d) && (match evRO (R:=EV) TT s a.op some with
   | some y=>(match s.get d with
    | some b=>zD5 y b
    | none=>false)
   | none=>false)
  | none=>false)
 | none=>false
def offB (ops:Array Oper) (i:Nat) (o:Oper):Bool:=match ops[i]?, o.dst with
 | some oi,some d => !(oi.looksAt ops).contains d && oi.dst != some d
 | _,_=>true
def pnOK (TT:List TE) (ops:Array Oper) (s:ESt) (c:Nat) (o:Oper) (p:Pn):Bool:=match p.1 with
 | 0=>Nat.ble c 1
 | 1=>offB ops p.2.1 o && fOK TT ops s p.2.1
 | _=>true
def rdOK (TT:List TE) (k:Nat) (s:ESt) (o:Oper):Bool:=match k with
 | 0=>true
 | 1=>true
 | 2=>(match o.op with
  | .load t x=>(match s.ev x with
   | some (.addr tx a)=>(match tyT TT t with
    | some u=>Ty.beq u tx
    | none=>false)
   | _=>false)
  | _=>false)
 | _=>false
inductive OT where
 | leaf (ord:List (Nat×Nat))
 | one (i:Nat) (t:OT)
 | alt (c i:Nat) (t rest:OT)
 | live (D:List Nat) (t:OT)
 | rd (i:Nat) (W:List Nat) (t:OT)
 | ban (i:Nat) (W:List Nat) (t rest:OT)
 | pnd (t:OP)
 | stop
def OT.alts:OT->List Nat
 | .alt _ i _ a=>i::a.alts
 | _=>[]
def OT.cov (ops:Array Oper) (b:Array Bool) (B:List Nat):OT->Bool
 | .alt c i t a=>(Region.ready .any ops b).contains i && (Region.ready .any ops b).all fun j=>B.contains j || (OT.alt c i t a).alts.contains j
 | .stop=>false
 | .live _ t=>t.cov ops b B
 | .pnd t=>t.cov ops b
 | _=>true
def dB (ops:Array Oper) (a:Array Bool) (D:List Nat) (i:Nat) (b:Oper) (W:List Nat):Bool:=
 (!D.contains i) && (Region.ready .any ops a).contains i &&
 (W.all fun k=>(!a.getD k true) && match ops[k]? with
  | some ok=>ok.after.any (fun e=>Region.binds .any e && (e.on==i || W.contains e.on))
  | none=>false) &&
 (List.range ops.size).all fun j=>j==i || a.getD j true || W.contains j || match ops[j]? with
   | some c=>b.apart ops c && !D.contains j
   | none=>true
def dT (ops:Array Oper) (a:Array Bool) (D:List Nat) (i:Nat) (c:Oper) (W:List Nat):Bool:=
 (!D.contains i) && (Region.ready .any ops a).contains i &&
 (W.all fun k=>(!a.getD k true) && match ops[k]? with
  | some ok=>ok.after.any (fun e=>Region.binds .any e && (e.on==i || W.contains e.on))
  | none=>false) &&
 (List.range ops.size).all fun j=>j==i || a.getD j true || W.contains j || D.contains j || match ops[j]? with
   | some b=>c.apart ops b && zD9 b
   | none=>true
def invB (ops:Array Oper) (b:Array Bool) (a:List (Nat×Nat)):Bool:=
 Nat.beq b.size ops.size && ((List.range ops.size).all fun j=>(!(b.getD j true))==(a.map (·.2)).contains j) && ((a.map (·.2)).all fun j=>Nat.blt j ops.size) &&
  ((List.range ops.size).all fun j => !(b.getD j false) || match ops[j]? with
   | some o=>o.after.all fun e => !(Region.binds .any e) || b.getD e.on false
   | none=>true)
theorem zA6 {ops:Array Oper} {d:Array Bool} {a:List (Nat×Nat)} (h:invB ops d a=true):Inv ops d a:=by
 simp only [invB,Bool.and_eq_true] at h;obtain ⟨⟨⟨f,l⟩,h3⟩,h4⟩:=h;have f:=Nat.eq_of_beq_eq_true f;refine ⟨f,fun j b => ?_,fun j b => ?_,fun j o g c e i k => ?_⟩
 ·have:=List.all_eq_true.1 l j (List.mem_range.2 b);rw [beq_iff_eq] at this;rw [List.contains_eq_mem] at this;cases c:d.getD j true with
  | true=>rw [c] at this;simp only [Bool.not_true] at this;have:=of_decide_eq_false this.symm;simp only [Bool.true_eq_false,false_iff];exact this
  | false=>rw [c] at this;simp only [Bool.not_false] at this;have:=of_decide_eq_true this.symm;simp only [true_iff];exact this
 ·have:=List.all_eq_true.1 h3 j b;simpa using this
 ·have b:j < ops.size:=(Array.getElem?_eq_some_iff.1 g).1;have:=List.all_eq_true.1 h4 j (List.mem_range.2 b);rw [c,g] at this;simp only [Bool.not_true,Bool.false_or] at this;have:=(Array.all_eq_true_iff_forall_mem.1 this) e i;rw [k] at this;simpa using this
def evP (TT:List TE) (Γ:List CE) (bo:Option R->Option R->Option R) (ops:Array Oper) (K:ESt->Option R):OP->List Pn->Nat->Array Bool->ESt->Option R
 | .leaf,_,n,li,s=>match n with
  | 0=>bif (Region.ready .any ops li).isEmpty then K s else none
  | _=>none
 | .one i t,L,n,li,s=>match n,ops[i]? with
  | n+1,some o=>bif zmx o && Region.free .any ops li i && (Region.ready .any ops li).contains i && t.cov ops (li.setIfInBounds i true) then
    zhq TT Γ bo ops.toList [(0,o)] s fun a=>bif L.all (pnOK TT ops a 0 o) then evP TT Γ bo ops K t L n (li.setIfInBounds i true) a else none else none
  | _,_=>none
 | .rd k i W t,L,n,li,s=>match n,ops[i]? with
  | n+1,some o=>bif dB ops li [] i o W && rdOK TT k s o && t.cov ops (li.setIfInBounds i true) then
    zhq TT Γ bo ops.toList [(0,o)] s fun a=>bif L.all (pnOK TT ops a 0 o) && (!Nat.beq k 1 || fOK TT ops a i) then evP TT Γ bo ops K t ((k,i,W)::L) n (li.setIfInBounds i true) a else none else none
  | _,_=>none
 | .alt c i t rest,L,n,li,s=>match n,ops[i]? with
  | m+1,some o=>bif t.cov ops (li.setIfInBounds i true) then (match rest with
    | .stop=>zhq TT Γ bo ops.toList [(c,o)] s fun a=>bif L.all (fun p=>p.2.2.contains i || pnOK TT ops a c o p) then evP TT Γ bo ops K t (L.filter fun p => !p.2.2.contains i) m (li.setIfInBounds i true) a else none
    | _=>bo (zhq TT Γ bo ops.toList [(c,o)] s fun a=>bif L.all (fun p=>p.2.2.contains i || pnOK TT ops a c o p) then evP TT Γ bo ops K t (L.filter fun p => !p.2.2.contains i) m (li.setIfInBounds i true) a else none) (evP TT Γ bo ops K rest L n li s)) else none
  | _,_=>none
 | .frz k ty t,L,n,li,s=>evP TT Γ bo ops K t L n li (s.prepF k ty)
 | .stop,_,_,_,_=>none
def evT (TT:List TE) (Γ:List CE) (bo:Option R->Option R->Option R) (ops:Array Oper) (K:ESt->Option R):OT->Option (List Nat×List Nat)->Nat->Array Bool->ESt->Option R
 | .leaf ord,none,n,li,s=>bif Nat.beq ord.length n && invB ops li ord && chk ops ord then zhq TT Γ bo ops.toList (zpo ops ord) s K else none
 | .leaf _,some _,n,li,s=>match n with
  | 0=>bif (Region.ready .any ops li).isEmpty then K s else none
  | _=>none
 | .one i t,none,n,li,s=>match n,ops[i]? with
  | n+1,some o=>bif zmx o && Region.free .any ops li i && (Region.ready .any ops li).contains i && t.cov ops (li.setIfInBounds i true) [] then
    zhq TT Γ bo ops.toList [(0,o)] s fun a=>evT TT Γ bo ops K t none n (li.setIfInBounds i true) a else none
  | _,_=>none
 | .one i t,some DB,n,li,s=>match n,ops[i]? with
  | n+1,some o=>bif zmx o && Region.free .any ops li i && (Region.ready .any ops li).contains i && (!DB.1.contains i) && t.cov ops (li.setIfInBounds i true) DB.2 then
    zhq TT Γ bo ops.toList [(0,o)] s fun a=>evT TT Γ bo ops K t (some DB) n (li.setIfInBounds i true) a else none
  | _,_=>none
 | .rd _ _ _,none,_,_,_=>none
 | .rd i W t,some DB,n,li,s=>match n,ops[i]? with
  | n+1,some o=>bif dB ops li DB.1 i o W && t.cov ops (li.setIfInBounds i true) DB.2 then
    zhq TT Γ bo ops.toList [(0,o)] s fun a=>evT TT Γ bo ops K t (some DB) n (li.setIfInBounds i true) a else none
  | _,_=>none
 | .ban _ _ _ _,none,_,_,_=>none
 | .ban i W t rest,some DB,n,li,s=>match n,ops[i]? with
  | n+1,some o=>bif dT ops li DB.1 i o W && t.cov ops (li.setIfInBounds i true) DB.2 && rest.cov ops li (i::DB.2) then
    bo (zhq TT Γ bo ops.toList [(0,o)] s fun a=>evT TT Γ bo ops K t (some DB) n (li.setIfInBounds i true) a) (evT TT Γ bo ops K rest (some (DB.1,i::DB.2)) (n+1) li s) else none
  | _,_=>none
 | .alt c i t rest,none,n,li,s=>match n,ops[i]? with
  | m+1,some o=>bif t.cov ops (li.setIfInBounds i true) [] then (match rest with
    | .stop=>zhq TT Γ bo ops.toList [(c,o)] s fun a=>evT TT Γ bo ops K t none m (li.setIfInBounds i true) a
    | _=>bo (zhq TT Γ bo ops.toList [(c,o)] s fun a=>evT TT Γ bo ops K t none m (li.setIfInBounds i true) a) (evT TT Γ bo ops K rest none n li s)) else none
  | _,_=>none
 | .alt c i t rest,some DB,n,li,s=>match n,ops[i]? with
  | m+1,some o=>bif t.cov ops (li.setIfInBounds i true) (bif DB.1.contains i then [] else DB.2) && (DB.1.contains i || Nat.ble c 1) then (match rest with
    | .stop=>zhq TT Γ bo ops.toList [(c,o)] s fun a=>evT TT Γ bo ops K t (bif DB.1.contains i then none else some DB) m (li.setIfInBounds i true) a
    | _=>bo (zhq TT Γ bo ops.toList [(c,o)] s fun a=>evT TT Γ bo ops K t (bif DB.1.contains i then none else some DB) m (li.setIfInBounds i true) a) (evT TT Γ bo ops K rest (some DB) n li s)) else none
  | _,_=>none
 | .live D t,none,n,li,s=>evT TT Γ bo ops K t (some (D,[])) n li s
 | .live _ _,some _,_,_,_=>none
 | .pnd t,none,n,li,s=>evP TT Γ bo ops K t [] n li s
 | .pnd _,some _,_,_,_=>none
 | .stop,_,_,_,_=>none
section
variable {P:Program} {TT:List TE} {Γ:List CE} {bo:Option R->Option R->Option R} {F:Fr} {ops:Array Oper} {q:R} {K:ESt->Option R}
def PK (s:ESt) (K:ESt->Option R) (q:R) (σ:St):Prop:=∃ a,σ=a.st/\Sfx s a/\K a=some q
def QK (F:Fr) (s:ESt) (K:ESt->Option R) (q:R):Exit->Act->World->Prop:=fun e a w=>e = .normal/\∃ σ,PK s K q σ/\Rel F σ a w
theorem QK.wide {s b:ESt} (h:Sfx s b) {e:Exit} {a:Act} {w:World} (c:QK F b K q e a w):QK F s K q e a w:=
 let ⟨h1,σ,⟨s1,h2,h3,h4⟩,h5⟩:=c;⟨h1,σ,⟨s1,h2,h.trans h3,h4⟩,h5⟩
theorem QK.panic {s:ESt} {d:Option Tmp} (v:Value):∀ c (a:Act) (w:World),QK F s K q (.panic c) (a.put d v) w->QK F s K q (.panic c) a w:=fun c a w h=>by
 cases h.1
theorem zxW {a:Array Bool} {D:List Nat} {i:Nat} {o:Oper} {W:List Nat} (h:dB ops a D i o W=true):D.contains i=false/\i∈Region.ready .any ops a/\
  (∀ k,W.contains k=true->∃ ok,ops[k]? =some ok/\∃ e∈ok.after,Region.binds .any e=true/\(e.on=i\/W.contains e.on=true))/\(∀ k,W.contains k=true->a.getD k true=false)/\
  ∀ j c,ops[j]? =some c->j≠i->a.getD j true=false->W.contains j=false->o.apart ops c=true/\D.contains j=false:=by
 unfold dB at h;simp only [Bool.and_eq_true,Bool.not_eq_true'] at h;obtain ⟨⟨⟨q,r⟩,b⟩,h4⟩:=h;have b:=List.all_eq_true.1 b;refine ⟨q,by simpa using r,fun k d => ?_,fun k d => ?_,fun j c p f g l => ?_⟩
 ·have:=b k (by simpa using d);rw [Bool.and_eq_true] at this;have:=this.2;split at this
  ·rename_i ok m;obtain ⟨e,s,n⟩:=Array.any_eq_true'.1 this;simp only [Bool.and_eq_true,Bool.or_eq_true,beq_iff_eq] at n;exact ⟨ok,m,e,s,n.1,n.2⟩
  ·cases this
 ·have:=b k (by simpa using d);rw [Bool.and_eq_true,Bool.not_eq_true'] at this;exact this.1
 ·have:=List.all_eq_true.1 h4 j (List.mem_range.2 (Array.getElem?_eq_some_iff.1 p).1);simp only [p,Bool.or_eq_true,beq_iff_eq,f,false_or,g,Bool.false_eq_true,l,Bool.and_eq_true,Bool.not_eq_true'] at this;exact this
theorem zDr {a:Array Bool} {D:List Nat} {i:Nat} {o:Oper} {W:List Nat} (h:dT ops a D i o W=true):D.contains i=false/\i∈Region.ready .any ops a/\
  (∀ k,W.contains k=true->∃ ok,ops[k]? =some ok/\∃ e∈ok.after,Region.binds .any e=true/\(e.on=i\/W.contains e.on=true))/\(∀ k,W.contains k=true->a.getD k true=false)/\
  ∀ j b,ops[j]? =some b->j≠i->a.getD j true=false->W.contains j=false->D.contains j=false->o.apart ops b=true/\Tame P b:=by
 unfold dT at h;simp only [Bool.and_eq_true,Bool.not_eq_true'] at h;obtain ⟨⟨⟨q,r⟩,c⟩,h4⟩:=h;have c:=List.all_eq_true.1 c;refine ⟨q,by simpa using r,fun k d => ?_,fun k d => ?_,fun j b p f g l hnd => ?_⟩
 ·have:=c k (by simpa using d);rw [Bool.and_eq_true] at this;have:=this.2;split at this
  ·rename_i ok m;obtain ⟨e,s,n⟩:=Array.any_eq_true'.1 this;simp only [Bool.and_eq_true,Bool.or_eq_true,beq_iff_eq] at n;exact ⟨ok,m,e,s,n.1,n.2⟩
  ·cases this
 ·have:=c k (by simpa using d);rw [Bool.and_eq_true,Bool.not_eq_true'] at this;exact this.1
 ·have:=List.all_eq_true.1 h4 j (List.mem_range.2 (Array.getElem?_eq_some_iff.1 p).1);simp only [p,Bool.or_eq_true,beq_iff_eq,f,false_or,g,Bool.false_eq_true,l,hnd,Bool.and_eq_true] at this;exact ⟨this.1,zEa this.2⟩
theorem zCL {y g:EV} (h:zD5 y g=true) {w:World} {S:Nat->Prop} {H:Hd} {v i:Value} (d:VRel w S H y.av v) (e:VRel w S H g.av i):v=i:=by
 unfold zD5 at h;split at h
 ·rename_i a b;have:=Nat.eq_of_beq_eq_true h;subst this;cases d with
  | own _ _ f _=>cases e with
   | own _ _ c _=>rw [f] at c;exact Option.some.inj c
 ·rename_i a k b l;simp only [Bool.and_eq_true] at h;have j:=Nat.eq_of_beq_eq_true h.1;have m:=Nat.eq_of_beq_eq_true h.2;subst j;subst m;cases d with
  | ptr _ _ n f=>cases e with
   | ptr _ _ o c=>rw [f] at c;cases c;rfl
 ·cases d with
  | nil=>cases e with
   | nil=>rfl
 ·cases h
theorem zqB (g:TOK P TT) {s:ESt} {i:Nat} (h:fOK TT ops s i=true) {a:Act} {w:World} (r:Rel F s.st a w):∃ b d,ops[i]? =some b/\b.dst=some d/\d∉b.looksAt ops/\(execOp a.eval b).run P w = .ok (.value (a.tmps.getD d undef)) w:=by
 unfold fOK at h;split at h
 ·rename_i b c;split at h
  ·rename_i d j;rw [Bool.and_eq_true] at h;obtain ⟨l,h⟩:=h;split at h
   ·rename_i y k;split at h
    ·rename_i q f;obtain ⟨z,m,e⟩:=zo6 (F:=F) (s:=s) (o:=b) g k;cases e;obtain ⟨H,r⟩:=r;obtain ⟨v,n,p⟩:=m H a w r;have e:=zCL h p (r.slot d _ (zf0 f));exact ⟨b,d,c,j,by simpa using l,by rw [<- e];exact n w (.inr (Ext.refl w))⟩
    ·cases h
   ·cases h
  ·cases h
 ·cases h
def PInv (P:Program) (F:Fr) (ops:Array Oper) (e:Pn) (p:PD) (a:Act) (w:World):Prop:=
 (p.W=fun k=>e.2.2.contains k)/\p.J w/\
 ((e.1=0/\∀ w',Ext w w'->p.J w')\/
  (e.1=1/\∃ b d,ops[e.2.1]? =some b/\b.dst=some d/\∀ w',(execOp a.eval b).run P w' = .ok (.value (a.tmps.getD d undef)) w'->p.J w')\/
  (2<=e.1/\∀ σ a w,Rel F σ a w->p.J w))
theorem PInv.step (m:Region.noSelect ops=true) (D:TOK P TT) {e:Pn} {p:PD} {a s:Act} {w w':World} {z:ESt} {c:Nat} {o:Oper} (h:PInv P F ops e p a w) (E:∃ u,s=a.put o.dst u) (H:c<=1->Ext w w') (r:Rel F z.st s w') (l:pnOK TT ops z c o e=true):PInv P F ops e p s w':=by
 obtain ⟨y,O,j⟩:=h;unfold pnOK at l;rcases j with ⟨k,j⟩ | ⟨k,oi,d,k1,k2,k3⟩ | ⟨k,j⟩
 ·rw [k] at l;have A:=H (Nat.le_of_ble_eq_true l);exact ⟨y,j _ A,.inl ⟨k,fun g h=>j _ (A.trans h)⟩⟩
 ·rw [k] at l;simp only [Bool.and_eq_true] at l;obtain ⟨f,L⟩:=l;obtain ⟨M,Q,B,C,R,N⟩:=zqB D L r;rw [k1] at B;cases B;rw [k2] at C;cases C;obtain ⟨u,rfl⟩:=E;have n:(∀ t,o.dst=some t->t∉oi.looksAt ops)/\o.dst≠some d:=by
   unfold offB at f;rw [k1] at f;cases x:o.dst with
   | none=>exact ⟨fun t I=>(by cases I),(by simp)⟩
   | some t=>
    rw [x] at f;simp only [Bool.and_eq_true,Bool.not_eq_true',bne_iff_ne,ne_eq] at f;refine ⟨fun t' i => ?_,fun i => ?_⟩
    ·cases i;have:=f.1;simpa using this
    ·cases i;exact f.2 k2
  have J:=execOp_put oi (fun cs b=>Region.noSelect_spec m _ oi cs b k1) a o.dst u n.1;have hs:(a.put o.dst u).tmps.getD d undef=a.tmps.getD d undef:=by
   cases x:o.dst with
   | none=>rfl
   | some t=>
    have v:t≠d:=fun e=>n.2 (by rw [x,e])
    simp only [Act.put,Array.getD_eq_getD_getElem?];rw [Array.getElem?_setIfInBounds_ne v]
  have q:∀ g,(execOp (a.put o.dst u).eval oi).run P g = .ok (.value ((a.put o.dst u).tmps.getD d undef)) g->p.J g:=fun g h=>by
   rw [J,hs] at h;exact k3 g h
  exact ⟨y,q _ N,.inr (.inl ⟨k,oi,d,k1,k2,q⟩)⟩
 ·exact ⟨y,j _ _ _ r,.inr (.inr ⟨k,j⟩)⟩
theorem PInv.frame {b:Fr} {e:Pn} {p:PD} {a:Act} {w:World} (h:PInv P F ops e p a w) (c:∀ σ a w,Rel b σ a w->Rel F σ a w):PInv P b ops e p a w:=
 ⟨h.1,h.2.1,h.2.2.imp id (fun h=>h.imp id fun ⟨h1,h2⟩=>⟨h1,fun σ a w r=>h2 σ a w (c σ a w r)⟩)⟩
theorem QK.frame {b:Fr} {s:ESt} (c:∀ σ a w,Rel b σ a w->Rel F σ a w) {e:Exit} {a:Act} {w:World} (h:QK b s K q e a w):QK F s K q e a w:=
 let ⟨h1,σ,h2,h3⟩:=h;⟨h1,σ,h2,c _ _ _ h3⟩
theorem zxk {LC:List (Pn×PD)} {i:Nat} (h:∀ c∈LC,c.2.W=fun k=>c.1.2.2.contains k):
  (LC.map (·.1)).filter (fun p => !p.2.2.contains i)=(LC.filter fun c => !c.1.2.2.contains i).map (·.1)/\(LC.map (·.2)).filter (fun p => !p.W i)=(LC.filter fun c => !c.1.2.2.contains i).map (·.2):=by
 induction LC with
 | nil=>exact ⟨rfl,rfl⟩
 | cons c r f=>
  obtain ⟨d,e⟩:=f fun c a=>h c (List.mem_cons_of_mem _ a)
  have a:=h c (List.mem_cons_self ..);have b:c.2.W i=c.1.2.2.contains i:=by rw [a]
  rw [List.map_cons,List.map_cons,List.filter_cons,List.filter_cons,List.filter_cons,d,e,b];cases c.1.2.2.contains i<;>exact ⟨rfl,rfl⟩
def KK (F:Fr) (s:ESt) (b:ESt->Option R) (q:R) (c:Act) (w':World):Prop:=∃ a,Sfx s a/\b a=some q/\Rel F a.st c w'
theorem zmt (l:Region.noSelect ops=true) (N:TOK P TT) (hG:GOK P Γ) (D:Both bo):∀ (t:OP),
  (∀ (F:Fr) (LC:List (Pn×PD)) (n:Nat) (A:Array Bool) (s:ESt) (a:Act) (w:World),t.cov ops A=true->evP TT Γ bo ops K t (LC.map (·.1)) n A s=some q->Rel F s.st a w->(∀ c∈LC,PInv P F ops c.1 c.2 a w)->zgB P ops (QK F s K q) n (LC.map (·.2)) A a w)/\
  (∀ (F:Fr) (LC:List (Pn×PD)) (n:Nat) (A:Array Bool) (s:ESt) (a:Act) (w:World),evP TT Γ bo ops K t (LC.map (·.1)) (n+1) A s=some q->Rel F s.st a w->(∀ c∈LC,PInv P F ops c.1 c.2 a w)->∀ i∈t.alts,
   wpOp P ops (QK F s K q) i (fun S w'=>(∀ p∈LC.map (·.2),p.W i=false->p.J w')/\zgB P ops (QK F s K q) n ((LC.map (·.2)).filter fun p => !p.W i) (A.setIfInBounds i true) S w') a w)
 | .leaf=>by
  refine ⟨fun F LC n A s a w _ h r E => ?_,fun F LC n A s a w h r E i X=>by cases X⟩;simp only [evP] at h;split at h
  ·have L:=(zad h).1;replace h:=(zad h).2;exact ⟨by simpa using L,rfl,_,⟨s,rfl,Sfx.refl _,h⟩,r⟩
  ·cases h
 | .one i t=>by
  refine ⟨fun F LC n A s a w _ h r E => ?_,fun F LC n A s a w h r E i X=>by cases X⟩;simp only [evP] at h;split at h
  ·rename_i n o ho;have L:=(zad h).1;replace h:=(zad h).2;simp only [Bool.and_eq_true] at L;obtain ⟨⟨⟨hpu,hf⟩,hr⟩,hc⟩:=L;have hs:=AO.single (zbc (F:=F) N hG D h) r (K:=KK F s (fun g=>bif (LC.map (·.1)).all (pnOK TT ops g 0 o) then evP TT Γ bo ops K t (LC.map (·.1)) n (A.setIfInBounds i true) g else none) q) (fun σ' S w' ⟨g,O,T,B⟩ I=>by
    subst O;exact ⟨g,T,B,I⟩) (QK F s K q)
   have hfr:=Region.free_spec ho hf;have hJ:∀ p∈LC.map (·.2),p.J w:=fun p Y=>by
    obtain ⟨c,f,rfl⟩:=List.mem_map.1 Y;exact (E c f).2.1
   have fin:∀ v,KK F s (fun g=>bif (LC.map (·.1)).all (pnOK TT ops g 0 o) then evP TT Γ bo ops K t (LC.map (·.1)) n (A.setIfInBounds i true) g else none) q (a.put o.dst v) w->zgB P ops (QK F s K q) n (LC.map (·.2)) (A.setIfInBounds i true) (a.put o.dst v) w:=fun v ⟨g,T,B,I⟩=>by
    have L:=(zad B).1;replace B:=(zad B).2;refine zeW (fun _ _ _=>QK.wide T) _ _ _ _ _ ((zmt l N hG D t).1 F LC n _ g _ w hc B I fun c f => ?_);exact (E c f).step l N ⟨v,rfl⟩ (fun _=>Ext.refl w) I (List.all_eq_true.1 L _ (List.mem_map.2 ⟨c,f,rfl⟩))
   split at hs
   ·rename_i hw;obtain ⟨v,hv,hk⟩:=hs;exact znw ho (Region.noSelect_spec l) (QK.panic v) n _ A a w hfr (by simpa using hr) (.inl ⟨hw,fun w' _=>hv w' (.inl hpu)⟩) hJ (fin v hk)
   ·rename_i hw;exact znw ho (Region.noSelect_spec l) (QK.panic undef) n _ A a w hfr (by simpa using hr) (.inr ⟨by simpa using hw,rfl⟩) hJ (fin undef hs)
  ·cases h
 | .rd k i W t=>by
  refine ⟨fun F LC n A s a w _ h r E => ?_,fun F LC n A s a w h r E i X=>by cases X⟩;simp only [evP] at h;split at h
  ·rename_i n o ho;have L:=(zad h).1;replace h:=(zad h).2;simp only [Bool.and_eq_true] at L;obtain ⟨⟨hd,C⟩,hc⟩:=L;obtain ⟨_,hr,hW,hWl,hfr⟩:=zxW hd;obtain ⟨H,rH⟩:=r;obtain ⟨F',rH',hFF,hkeep⟩:=zBK rH;have Y:∀ c∈LC,PInv P F' ops c.1 c.2 a w:=fun c f=>(E c f).frame hFF
   have hs:=AO.single (zbc (F:=F') N hG D h) ⟨H,rH'⟩ (K:=KK F' s (fun g=>bif (LC.map (·.1)).all (pnOK TT ops g 0 o) && (!Nat.beq k 1 || fOK TT ops g i) then evP TT Γ bo ops K t ((k,i,W)::LC.map (·.1)) n (A.setIfInBounds i true) g else none) q) (fun σ' S w' ⟨g,O,T,B⟩ I=>by
    subst O;exact ⟨g,T,B,I⟩) (QK F s K q)
   have hJ:∀ p∈LC.map (·.2),p.J w:=fun p hp''=>by
    obtain ⟨c,f,rfl⟩:=List.mem_map.1 hp'';exact (E c f).2.1
   have fin:∀ v,KK F' s (fun g=>bif (LC.map (·.1)).all (pnOK TT ops g 0 o) && (!Nat.beq k 1 || fOK TT ops g i) then evP TT Γ bo ops K t ((k,i,W)::LC.map (·.1)) n (A.setIfInBounds i true) g else none) q (a.put o.dst v) w->
     ∀ J:World->Prop,YieldsIf P ops J o v a->(∀ g,Rel F' g.st (a.put o.dst v) w->(!Nat.beq k 1 || fOK TT ops g i)=true->PInv P F' ops (k,i,W) ⟨fun j=>W.contains j,J⟩ (a.put o.dst v) w)->zgB P ops (QK F s K q) (n+1) (LC.map (·.2)) A a w:=fun v ⟨g,T,B,I⟩ J hy hpi=>by
    have L:=(zad B).1;replace B:=(zad B).2;rw [Bool.and_eq_true] at L;have hpv:=hpi g I L.2;have:=(zmt l N hG D t).1 F' (((k,i,W),⟨fun j=>W.contains j,J⟩)::LC) n _ g _ w hc B I fun c f=>by
     rcases List.mem_cons.1 f with rfl | f
     ·exact hpv
     ·exact (Y c f).step l N ⟨v,rfl⟩ (fun _=>Ext.refl w) I (List.all_eq_true.1 L.1 _ (List.mem_map.2 ⟨c,f,rfl⟩))
    exact zsJ ⟨fun j=>W.contains j,J⟩ ho (Region.noSelect_spec l) (QK.panic v) hW n _ A a w hWl (fun j oj O T B h4=>(hfr j oj O T B h4).1) hr hy hpv.2.1 hJ
     (zeW (fun _ _ _ h=>(QK.wide T h).frame hFF) _ _ _ _ _ this)
   split at hs
   ·rename_i hw;obtain ⟨v,hv,hk⟩:=hs;by_cases h2k:2<=k
    ·have hk2:k=2:=by
      unfold rdOK at C;split at C
      ·omega
      ·omega
      ·rfl
      ·cases C
     subst hk2;simp only [rdOK] at C;split at C
     ·rename_i t' x hop;split at C
      ·rename_i tx y hx;split at C
       ·rename_i u hu;have:=Ty.eq_of_beq C;subst this;obtain ⟨z,hz,_⟩:=zeD N hu;obtain ⟨b,v',L,hv'⟩:=zqK (P:=P) rH hop (za0 hx) (by
         cases hag:u.agg with
         | false=>
          obtain ⟨d,hd,hda⟩:=hz.un;rw [hag] at hda;exact .inl ⟨ziq hag y,d,hd,hda⟩
         | true=>
          rw [hag] at hz;exact .inr ⟨_,_,_,_,zfi hag y,hz,zbg u y⟩)
        have e:v'=v:=by
         have O:=hv' w rfl;rw [hv w (.inr (Ext.refl w))] at O;injection O with O _
         injection O with O
         exact O.symm
        subst e;exact fin v' hk (fun w'=>w'.heap[b]? =w.heap[b]?) (.inl ⟨hw,fun w' h=>hv' w' h⟩) fun g I _=>⟨rfl,rfl,.inr (.inr ⟨Nat.le_refl _,fun σ S w' r''=>hkeep b L σ S w' r''⟩)⟩
       ·cases C
      ·cases C
     ·cases C
    ·refine fin v hk (fun w'=>(execOp a.eval o).run P w' = .ok (.value v) w') (.inl ⟨hw,fun w' h=>h⟩) fun g I M => ?_
     refine ⟨rfl,hv w (.inr (Ext.refl w)),?_⟩;by_cases hk0:k=0
     ·exact .inl ⟨hk0,fun w' hx=>hv w' (.inr hx)⟩
     ·have hk1:k=1:=by omega
      subst hk1;have M:fOK TT ops g i=true:=by simpa using M
      obtain ⟨oi,d,g1,g2,g3,g4⟩:=zqB N M I;rw [ho] at g1;cases g1;have he:=execOp_put o (fun cs b=>Region.noSelect_spec l _ o cs b ho) a o.dst v (fun t ht=>by rw [g2] at ht;cases ht;exact g3);have e:(a.put o.dst v).tmps.getD d undef=v:=by
       rw [he,hv w (.inr (Ext.refl w))] at g4;injection g4 with g4 _
       injection g4 with g4
       exact g4.symm
      exact .inr (.inl ⟨rfl,o,d,ho,g2,fun w' h=>by rw [he,e] at h;exact h⟩)
   ·rename_i hw;refine fin undef hs (fun _=>True) (.inr ⟨by simpa using hw,rfl⟩) fun g I M=>⟨rfl,trivial,?_⟩
    by_cases hk0:k=0
    ·exact .inl ⟨hk0,fun _ _=>trivial⟩
    ·by_cases hk1:k=1
     ·subst hk1;have M:fOK TT ops g i=true:=by simpa using M
      obtain ⟨oi,d,g1,g2,g3,g4⟩:=zqB N M I;exact .inr (.inl ⟨rfl,oi,d,g1,g2,fun _ _=>trivial⟩)
     ·exact .inr (.inr ⟨by omega,fun _ _ _ _=>trivial⟩)
  ·cases h
 | .frz k ty t=>by
  refine ⟨fun F LC n A s a w hc h r E => ?_,fun F LC n A s a w h r E i X=>by cases X⟩;simp only [evP] at h;obtain ⟨hw,hs⟩:=zti s k ty;exact zeW (fun _ _ _=>QK.wide hs) _ _ _ _ _ ((zmt l N hG D t).1 F LC n A _ a w hc h (hw.rel F a w r) E)
 | .stop=>by
  refine ⟨fun F LC n A s a w _ h r E=>by simp [evP] at h,fun F LC n A s a w h r E i X=>by cases X⟩
 | .alt c i t R=>by
  have hL:∀ (F:Fr) (LC:List (Pn×PD)) (n:Nat) (A:Array Bool) (s:ESt) (a:Act) (w:World),evP TT Γ bo ops K (.alt c i t R) (LC.map (·.1)) (n+1) A s=some q->Rel F s.st a w->(∀ c∈LC,PInv P F ops c.1 c.2 a w)->∀ j∈(OP.alt c i t R).alts,
    wpOp P ops (QK F s K q) j (fun S w'=>(∀ p∈LC.map (·.2),p.W j=false->p.J w')/\zgB P ops (QK F s K q) n ((LC.map (·.2)).filter fun p => !p.W j) (A.setIfInBounds j true) S w') a w:=by
   intro F LC n A s a w h r E j hj;simp only [evP] at h;split at h
   ·rename_i n' m o hn ho;cases hn;have hc:=(zad h).1;replace h:=(zad h).2;have one:zhq TT Γ bo ops.toList [(c,o)] s (fun g=>bif (LC.map (·.1)).all (fun p=>p.2.2.contains i || pnOK TT ops g c o p) then evP TT Γ bo ops K t ((LC.map (·.1)).filter fun p => !p.2.2.contains i) n (A.setIfInBounds i true) g else none)=some q->
      wpOp P ops (QK F s K q) i (fun S w'=>(∀ p∈LC.map (·.2),p.W i=false->p.J w')/\zgB P ops (QK F s K q) n ((LC.map (·.2)).filter fun p => !p.W i) (A.setIfInBounds i true) S w') a w:=fun h=>by
     have hs:=zr1 ho (AO.single (zbc (F:=F) N hG D h) r (K:=KK F s (fun g=>bif (LC.map (·.1)).all (fun p=>p.2.2.contains i || pnOK TT ops g c o p) then evP TT Γ bo ops K t ((LC.map (·.1)).filter fun p => !p.2.2.contains i) n (A.setIfInBounds i true) g else none) q) (fun σ' S w' ⟨g,O,T,B⟩ I=>by
      subst O;exact ⟨g,T,B,I⟩) (QK F s K q))
     refine wpOp_mono (fun S w' ⟨hu,hx,g,T,B,I⟩ => ?_) hs;have L:=(zad B).1;replace B:=(zad B).2;have Z:∀ U∈LC,U.1.2.2.contains i=false->PInv P F ops U.1 U.2 S w':=fun U f X=>by
      have:=List.all_eq_true.1 L _ (List.mem_map.2 ⟨U,f,rfl⟩);rw [X,Bool.false_or] at this;exact (E U f).step l N hu hx I this
     obtain ⟨f1,f2⟩:=zxk (LC:=LC) (i:=i) fun U f=>(E U f).1
     refine ⟨fun p Y hpi => ?_,?_⟩
     ·obtain ⟨U,f,rfl⟩:=List.mem_map.1 Y;exact (Z U f (by have:=(E U f).1;rw [this] at hpi;exact hpi)).2.1
     ·rw [f2];rw [f1] at B;refine zeW (fun _ _ _=>QK.wide T) _ _ _ _ _ ((zmt l N hG D t).1 F _ n _ g S w' hc B I fun U f => ?_);rw [List.mem_filter] at f;exact Z U f.1 (by simpa using f.2)
    have V:j=i\/j∈R.alts:=by simpa [OP.alts] using hj
    split at h
    ·rcases V with rfl | V
     ·exact one h
     ·cases V
    ·rcases V with rfl | V
     ·exact one (D.l h)
     ·exact (zmt l N hG D R).2 F LC n A s a w (D.r h) r E j V
   ·cases h
  refine ⟨fun F LC n A s a w Q h r E => ?_,hL⟩;cases n with
  | zero=>simp only [evP] at h;cases h
  | succ n=>
   simp only [OP.cov,Bool.and_eq_true] at Q;refine ⟨fun hr => ?_,fun j hj => ?_⟩
   ·rw [hr] at Q;simp at Q
   ·have:=List.all_eq_true.1 Q.2 j hj;exact hL F LC n A s a w h r E j (by simpa using this)
theorem zfZ (d:Region.noSelect ops=true) (z:TOK P TT) (A:GOK P Γ) (f:Both bo):∀ (t:OT),
  ((∀ (n:Nat) (b:Array Bool) (s:ESt) (a:Act) (w:World),t.cov ops b []=true->evT TT Γ bo ops K t none n b s=some q->Rel F s.st a w->wpAny P .any ops (QK F s K q) n b a w)/\
  (∀ (n:Nat) (b:Array Bool) (s:ESt) (a:Act) (w:World),evT TT Γ bo ops K t none (n+1) b s=some q->Rel F s.st a w->∀ i∈t.alts,wpOp P ops (QK F s K q) i (wpAny P .any ops (QK F s K q) n (b.setIfInBounds i true)) a w))/\
  ((∀ (D:List Nat×List Nat) (n:Nat) (b:Array Bool) (s:ESt) (a:Act) (w:World),t.cov ops b D.2=true->evT TT Γ bo ops K t (some D) n b s=some q->Rel F s.st a w->zhG P ops (QK F s K q) (fun j=>D.1.contains j) (fun j=>D.2.contains j) true n b a w)/\
  (∀ (D:List Nat×List Nat) (n:Nat) (b:Array Bool) (s:ESt) (a:Act) (w:World),evT TT Γ bo ops K t (some D) (n+1) b s=some q->Rel F s.st a w->∀ i∈t.alts,wpOp P ops (QK F s K q) i (fun x w'=>((true && !D.1.contains i)=true->Ext w w')/\zhG P ops (QK F s K q) (fun j=>D.1.contains j) (fun j=>D.2.contains j) (true && !D.1.contains i) n (b.setIfInBounds i true) x w') a w))
 | .leaf ord=>by
  refine ⟨⟨fun n b s a w _ h r => ?_,fun n b s a w h r i p=>by cases p⟩,⟨fun D n b s a w _ h r => ?_,fun D n b s a w h r i p=>by cases p⟩⟩
  ·simp only [evT] at h;have B:=(zad h).1;replace h:=(zad h).2;simp only [Bool.and_eq_true] at B;exact zoZ d n ord b a w (Nat.eq_of_beq_eq_true B.1.1) (zA6 B.1.2) B.2 (zbc z A f h a w _ r fun σ' x w' O C=>⟨rfl,σ',O,C⟩)
  ·simp only [evT] at h;split at h
   ·have B:=(zad h).1;replace h:=(zad h).2;exact ⟨by simpa using B,rfl,_,⟨s,rfl,Sfx.refl _,h⟩,r⟩
   ·cases h
 | .one i t=>by
  refine ⟨⟨fun n b s a w _ h r => ?_,fun n b s a w h r i p=>by cases p⟩,⟨fun D n b s a w _ h r => ?_,fun D n b s a w h r i p=>by cases p⟩⟩
  ·simp only [evT] at h;split at h
   ·rename_i n o H;have B:=(zad h).1;replace h:=(zad h).2;simp only [Bool.and_eq_true] at B;obtain ⟨⟨⟨S,Y⟩,C⟩,y⟩:=B;have hs:=AO.single (zbc (F:=F) z A f h) r (K:=wpAny P .any ops (QK F s K q) n (b.setIfInBounds i true)) (fun σ' x w' ⟨E,h1,J,h3⟩ r'=>by
     subst h1;exact zjl (fun _ _ _=>QK.wide J) _ _ _ _ ((zfZ d z A f t).1.1 n _ E x w' y h3 r')) (QK F s K q)
    split at hs
    ·rename_i L;obtain ⟨v,T,O⟩:=hs;exact wpAny_take H d Y C (QK.panic v) (.inl ⟨L,fun w'=>T w' (.inl S)⟩) O
    ·rename_i L;exact wpAny_take H d Y C (QK.panic undef) (.inr ⟨by simpa using L,rfl⟩) hs
   ·cases h
  ·simp only [evT] at h;split at h
   ·rename_i n o H;have B:=(zad h).1;replace h:=(zad h).2;simp only [Bool.and_eq_true,Bool.not_eq_true'] at B;obtain ⟨⟨⟨⟨S,Y⟩,C⟩,hnd⟩,y⟩:=B;have hs:=AO.single (zbc (F:=F) z A f h) r (K:=zhG P ops (QK F s K q) (fun j=>D.1.contains j) (fun j=>D.2.contains j) true n (b.setIfInBounds i true)) (fun σ' x w' ⟨E,h1,J,h3⟩ r'=>by
     subst h1;exact zjP (fun _ _ _=>QK.wide J) _ _ _ _ _ ((zfZ d z A f t).2.1 D n _ E x w' y h3 r')) (QK F s K q)
    have I:=Region.free_spec H Y;split at hs
    ·rename_i L;obtain ⟨v,T,O⟩:=hs;exact zuL H (Region.noSelect_spec d) (QK.panic v) hnd n true b a w I (by simpa using C) (.inl ⟨L,fun w' _=>T w' (.inl S)⟩) O
    ·rename_i L;exact zuL H (Region.noSelect_spec d) (QK.panic undef) hnd n true b a w I (by simpa using C) (.inr ⟨by simpa using L,rfl⟩) hs
   ·cases h
 | .ban i W t g=>by
  refine ⟨⟨fun n b s a w _ h r=>by simp [evT] at h,fun n b s a w h r i p=>by cases p⟩,⟨fun D n b s a w _ h r => ?_,fun D n b s a w h r i p=>by cases p⟩⟩;simp only [evT] at h;split at h
  ·rename_i n o H;have B:=(zad h).1;replace h:=(zad h).2;rw [Bool.and_eq_true,Bool.and_eq_true] at B;obtain ⟨⟨S,y⟩,hcr⟩:=B;obtain ⟨hd1,C,X,N,I⟩:=zDr (P:=P) S;have hs:=AO.single (zbc (F:=F) z A f (f.l h)) r (K:=zhG P ops (QK F s K q) (fun j=>D.1.contains j) (fun j=>D.2.contains j) true n (b.setIfInBounds i true)) (fun σ' x w' ⟨E,h1,J,h3⟩ r'=>by
    subst h1;exact zjP (fun _ _ _=>QK.wide J) _ _ _ _ _ ((zfZ d z A f t).2.1 D n _ E x w' y h3 r')) (QK F s K q)
   have V:∀ j,j≠i->(i::D.2).contains j=true->D.2.contains j=true:=fun j Q hh=>by
    rw [List.contains_cons,Bool.or_eq_true,beq_iff_eq] at hh;exact hh.resolve_left Q
   have J:=(zfZ d z A f g).2.1 (D.1,i::D.2) (n+1) b s a w hcr (f.r h) r;split at hs
   ·rename_i L;obtain ⟨v,T,O⟩:=hs;exact zvF H (Region.noSelect_spec d) (QK.panic v) (fun k=>W.contains k) X hd1 V n b a w N I C (.inl ⟨L,fun w' Z=>T w' (.inr Z)⟩) O J
   ·rename_i L;exact zvF H (Region.noSelect_spec d) (QK.panic undef) (fun k=>W.contains k) X hd1 V n b a w N I C (.inr ⟨by simpa using L,rfl⟩) hs J
  ·cases h
 | .rd i W t=>by
  refine ⟨⟨fun n b s a w _ h r=>by simp [evT] at h,fun n b s a w h r i p=>by cases p⟩,⟨fun D n b s a w _ h r => ?_,fun D n b s a w h r i p=>by cases p⟩⟩;simp only [evT] at h;split at h
  ·rename_i n o H;have B:=(zad h).1;replace h:=(zad h).2;simp only [Bool.and_eq_true] at B;obtain ⟨S,y⟩:=B;obtain ⟨hd1,C,X,N,I⟩:=zxW S;have hs:=AO.single (zbc (F:=F) z A f h) r (K:=zhG P ops (QK F s K q) (fun j=>D.1.contains j) (fun j=>D.2.contains j) true n (b.setIfInBounds i true)) (fun σ' x w' ⟨E,h1,J,h3⟩ r'=>by
    subst h1;exact zjP (fun _ _ _=>QK.wide J) _ _ _ _ _ ((zfZ d z A f t).2.1 D n _ E x w' y h3 r')) (QK F s K q)
   split at hs
   ·rename_i L;obtain ⟨v,T,O⟩:=hs;exact zsI H (Region.noSelect_spec d) (QK.panic v) (fun k=>W.contains k) X hd1 n b a w N I C (.inl ⟨L,fun w' Z=>T w' (.inr Z)⟩) O
   ·rename_i L;exact zsI H (Region.noSelect_spec d) (QK.panic undef) (fun k=>W.contains k) X hd1 n b a w N I C (.inr ⟨by simpa using L,rfl⟩) hs
  ·cases h
 | .live D t=>by
  refine ⟨⟨fun n b s a w y h r => ?_,fun n b s a w h r i p=>by cases p⟩,⟨fun D n b s a w _ h r=>by simp [evT] at h,fun D n b s a w h r i p=>by cases p⟩⟩;simp only [evT] at h;exact zvG (fun _=>rfl) _ _ _ _ _ ((zfZ d z A f t).2.1 (D,[]) n b s a w y h r)
 | .pnd t=>by
  refine ⟨⟨fun n b s a w y h r => ?_,fun n b s a w h r i p=>by cases p⟩,⟨fun D n b s a w _ h r=>by simp [evT] at h,fun D n b s a w h r i p=>by cases p⟩⟩;simp only [evT] at h;exact zr0 _ _ _ _ ((zmt d z A f t).1 F [] n b s a w y h r fun c a0=>by cases a0)
 | .stop=>by
  refine ⟨⟨fun n b s a w _ h r=>by simp [evT] at h,fun n b s a w h r i p=>by cases p⟩,⟨fun D n b s a w _ h r=>by simp [evT] at h,fun D n b s a w h r i p=>by cases p⟩⟩
 | .alt c i t g=>by
  have hB:∀ (n:Nat) (b:Array Bool) (s:ESt) (a:Act) (w:World),evT TT Γ bo ops K (.alt c i t g) none (n+1) b s=some q->Rel F s.st a w->∀ j∈(OT.alt c i t g).alts,wpOp P ops (QK F s K q) j (wpAny P .any ops (QK F s K q) n (b.setIfInBounds j true)) a w:=by
   intro n b s a w h r j Q;simp only [evT] at h;split at h
   ·rename_i n' m o hn H;cases hn;have y:=(zad h).1;replace h:=(zad h).2;have one:zhq TT Γ bo ops.toList [(c,o)] s (fun E=>evT TT Γ bo ops K t none n (b.setIfInBounds i true) E)=some q->wpOp P ops (QK F s K q) i (wpAny P .any ops (QK F s K q) n (b.setIfInBounds i true)) a w:=fun h=>
     zxF H (AO.single (zbc (F:=F) z A f h) r (K:=wpAny P .any ops (QK F s K q) n (b.setIfInBounds i true)) (fun σ' x w' ⟨E,h1,J,h3⟩ r'=>by
      subst h1;exact zjl (fun _ _ _=>QK.wide J) _ _ _ _ ((zfZ d z A f t).1.1 n _ E x w' y h3 r')) (QK F s K q))
    have u:j=i\/j∈g.alts:=by simpa [OT.alts] using Q
    split at h
    ·rcases u with rfl | u
     ·exact one h
     ·cases u
    ·rcases u with rfl | u
     ·exact one (f.l h)
     ·exact (zfZ d z A f g).1.2 n b s a w (f.r h) r j u
   ·cases h
  have hL:∀ (D:List Nat×List Nat) (n:Nat) (b:Array Bool) (s:ESt) (a:Act) (w:World),evT TT Γ bo ops K (.alt c i t g) (some D) (n+1) b s=some q->Rel F s.st a w->∀ j∈(OT.alt c i t g).alts,
    wpOp P ops (QK F s K q) j (fun x w'=>((true && !D.1.contains j)=true->Ext w w')/\zhG P ops (QK F s K q) (fun j=>D.1.contains j) (fun j=>D.2.contains j) (true && !D.1.contains j) n (b.setIfInBounds j true) x w') a w:=by
   intro D n b s a w h r j Q;simp only [evT] at h;split at h
   ·rename_i n' m o hn H;cases hn;have y:=(zad h).1;replace h:=(zad h).2;rw [Bool.and_eq_true,Bool.or_eq_true] at y;obtain ⟨y,U⟩:=y;have one:zhq TT Γ bo ops.toList [(c,o)] s (fun E=>evT TT Γ bo ops K t (bif D.1.contains i then none else some D) n (b.setIfInBounds i true) E)=some q->
      wpOp P ops (QK F s K q) i (fun x w'=>((true && !D.1.contains i)=true->Ext w w')/\zhG P ops (QK F s K q) (fun j=>D.1.contains j) (fun j=>D.2.contains j) (true && !D.1.contains i) n (b.setIfInBounds i true) x w') a w:=fun h=>by
     cases M:D.1.contains i with
     | true=>
      rw [M] at h;rw [M,cond_true] at y;refine wpOp_mono (fun x w' h'=>⟨fun e=>by simp at e,by simpa using zuK _ _ _ _ h'⟩) (zxF H (AO.single (zbc (F:=F) z A f h) r (K:=wpAny P .any ops (QK F s K q) n (b.setIfInBounds i true)) (fun σ' x w' ⟨E,h1,J,h3⟩ r'=>by
       subst h1;exact zjl (fun _ _ _=>QK.wide J) _ _ _ _ ((zfZ d z A f t).1.1 n _ E x w' y h3 r')) (QK F s K q)))
     | false=>
      rw [M] at h;rw [M,cond_false] at y;have hle:c<=1:=by
       rcases U with U | U
       ·rw [M] at U;cases U
       ·exact Nat.le_of_ble_eq_true U
      refine wpOp_mono (fun x w' h'=>⟨fun _=>h'.1,by simpa using h'.2⟩) (zAl H hle (AO.single (zbc (F:=F) z A f h) r (K:=zhG P ops (QK F s K q) (fun j=>D.1.contains j) (fun j=>D.2.contains j) true n (b.setIfInBounds i true)) (fun σ' x w' ⟨E,h1,J,h3⟩ r'=>by
       subst h1;exact zjP (fun _ _ _=>QK.wide J) _ _ _ _ _ ((zfZ d z A f t).2.1 D n _ E x w' y h3 r')) (QK F s K q)))
    have u:j=i\/j∈g.alts:=by simpa [OT.alts] using Q
    split at h
    ·rcases u with rfl | u
     ·exact one h
     ·cases u
    ·rcases u with rfl | u
     ·exact one (f.l h)
     ·exact (zfZ d z A f g).2.2 D n b s a w (f.r h) r j u
   ·cases h
  refine ⟨⟨fun n b s a w l h r => ?_,hB⟩,⟨fun D n b s a w l h r => ?_,hL⟩⟩
  ·cases n with
   | zero=>simp only [evT] at h;cases h
   | succ n=>
    simp only [OT.cov,Bool.and_eq_true] at l;refine ⟨fun C => ?_,fun j Q => ?_⟩
    ·rw [C] at l;simp at l
    ·have:=List.all_eq_true.1 l.2 j Q;exact hB n b s a w h r j (by simpa using this)
  ·cases n with
   | zero=>simp only [evT] at h;cases h
   | succ n=>
    simp only [OT.cov,Bool.and_eq_true] at l;refine ⟨fun C => ?_,fun j Q R => ?_⟩
    ·rw [C] at l;simp at l
    ·have:=List.all_eq_true.1 l.2 j Q;have R:D.2.contains j=false:=by rw [Bool.true_and] at R;exact R
     rw [R,Bool.false_or] at this;exact hL D n b s a w h r j (by simpa using this)
end
end
end Go.Ab
