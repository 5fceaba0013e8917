import Derived.Test.YtmogekkikaelhaaEv40n8
set_option linter.unusedVariables false
set_option linter.unusedSimpArgs false
set_option linter.unusedSectionVars false
namespace Go.Ab
noncomputable section
open Enc (enc)
open Go.RowKit (Below)
def zqH (x:AV):Prop:=∀ (w:World) (S S':Nat->Prop) (H:Hd) (v:Value),VRel w S H x v->VRel w S' H x v
def zno (e:Ent):Prop:=∀ (w:World) (S S':Nat->Prop) (H:Hd) (v:Value),EntRel w S H e v->EntRel w S' H e v
structure LN where
 l:List Nat
instance:Membership Nat LN:=⟨fun ln id=>id∈ln.l\/(RB<=id/\id % RB∈ln.l)⟩
theorem LN.mem {l:List Nat} {i:Nat} (h:i∈l):i∈(⟨l⟩:LN) := .inl h
theorem LN.nil {ln:LN} {i:Nat} (h:ln.l=[]) : ¬ i∈ln:=fun hm=>by
 rcases hm with hm | ⟨_,hm⟩<;>rw [h] at hm<;>cases hm
open Classical in
def entL (ent:Nat->Option Ent) (ln:LN) (id:Nat):Option Ent:=if id∈ln then none else ent id
theorem zos {X:Nat->Prop} {ent:Nat->Option Ent} {ln:LN} {H:Hd} {w:World} {b:Nat} (h:Sh X ent H w b):Sh X (entL ent ln) H w b:=
 ⟨h.1,h.2.1,fun id e v he hv=>by
  unfold entL at he;split at he
  ·cases he
  ·exact h.2.2 id e v he hv⟩
section
variable {P:Program} {F:Fr} {σ:St} {H:Hd} {a:Act} {w:World} {mp:List (Nat×Option Nat)}
theorem RelH.callL (r:RelH F σ H a w) {cm:List (Nat×Nat)} {ln:LN} {h:Hp} (hdis:∀ i o,lkc cm i=some o->o∉ln) (hcm:cmOK cm=true) (hh:zhj cm σ h)
  {w':World} {h':Hp} {H':Hd} (hos:w'.os=w.os/\w'.tape=w.tape/\w'.output=w.output/\w.heap.size<=w'.heap.size) (hkeep:∀ b,b < w.heap.size -> ¬ zcL h (cmH cm H) b->w'.heap[b]? =w.heap[b]?)
  (hok:HOK (fun b=>F.X b\/∃ id e v,σ.ent id=some e/\H id=some v/\blk v=some b/\(∀ i,lkc cm i≠some id)/\id∉ln) h' H' w') (hnew:∀ b,zcL h' H' b->w.heap.size<=b\/zcL h (cmH cm H) b) (hpin:∀ id,pinB id=true->H' id=cmH cm H id)
  {mp:List (Nat×Option Nat)} {h'':Hp} {nxt':Nat} (hns:ln.l≠[]->∀ j e,zbm h' j=some e->zno e) (hmp:zlW cm σ.nxt nxt' mp=true) (hb:zkm mp h' h''):
  ∃ H'',RelH F (σ.back cm nxt' h'') H'' a w'/\∀ x x' v,VRel w' (Sh (fun b=>F.X b\/∃ id e v,σ.ent id=some e/\H id=some v/\blk v=some b/\(∀ i,lkc cm i≠some id)/\id∉ln) (zbm h') H' w') H' x v->(ln.l≠[]->zqH x)->ren false mp x'=some x->VRel w' (Sh F.X (σ.back cm nxt' h'').ent H'' w') H'' x' v:=by
 generalize hXc:(fun b=>F.X b\/∃ id e v,σ.ent id=some e/\H id=some v/\blk v=some b/\(∀ i,lkc cm i≠some id)/\id∉ln)=Xc at hok;simp only [zlW,Bool.and_eq_true] at hmp;obtain ⟨⟨⟨⟨hnd,hnv⟩,hle⟩,hlim⟩,hall⟩:=hmp;have hle:σ.nxt<=nxt':=by simpa using hle
 have hlim:nxt'<=LIM:=by simpa using hlim
 have hcm:=zbW hcm;have hb0:∀ i j,look mp i=some (some j)->(σ.nxt<=i/\i < nxt')\/(LIM<=j/\look cm j=some i/\(i < σ.nxt\/LIM<=i)):=by
  intro i j hi;have:=List.all_eq_true.1 hall (i,some j) (zak hi);simp only [Bool.or_eq_true,Bool.and_eq_true] at this;rcases this with ⟨h1,h2⟩ | ⟨h1,h2⟩
  ·exact .inl ⟨by simpa using h1,by simpa using h2⟩
  ·refine .inr ⟨by simpa using h1,?_⟩;cases hl:look cm j with
   | none=>rw [hl] at h2;cases h2
   | some o=>
    rw [hl] at h2;simp only [Bool.and_eq_true,Bool.or_eq_true] at h2;exact ⟨by rw [Nat.eq_of_beq_eq_true h2.1],h2.2.imp (by simp) (by simp)⟩
 have hmpc:∀ i j,lk mp i=some (some j)->(σ.nxt<=bs i/\bs i < nxt')\/(pinB j=true/\lkc cm j=some i/\(bs i < σ.nxt\/LIM<=bs i)):=by
  intro i j hi;rcases zdh hi with h1 | ⟨h1,_,o,h2,h3⟩
  ·rcases hb0 i j h1 with ⟨g1,g2⟩ | ⟨g1,g2,g3⟩
   ·left;rw [znv (by omega)];exact ⟨g1,g2⟩
   ·obtain ⟨k1,k2,k3⟩:=hcm.key j i g2;right;rw [zlI k3];exact ⟨zne k1 k2,zti g2,g3⟩
  ·cases h3;have e:bs i=i % RB:=by unfold bs;rw [if_pos h1]
   rcases hb0 _ o h2 with ⟨g1,g2⟩ | ⟨g1,g2,g3⟩
   ·left;rw [e];exact ⟨g1,g2⟩
   ·obtain ⟨k1,k2,k3⟩:=hcm.key o _ g2;right;refine ⟨ziZ.2 (by rw [zjG k2];exact k1),?_,by rw [e];exact g3⟩;refine zpJ ?_;have:=zlh (mp:=toMp cm) (f:=o) (o:=i % RB) (x:=i / RB - 1) k2 (by
     rw [zcn];cases hl:look cm (rid o (i / RB - 1)) with
     | none=>rfl
     | some q=>have:=(hcm.key _ q hl).2.1;have:=zaP o (i / RB - 1);omega) (by rw [zcn,g2];rfl)
    rw [this,<- zfw h1]
 have holdlt:∀ id v,H id=some v -> ¬ (σ.nxt<=bs id/\bs id < LIM):=by
  intro id v hv ⟨h1,h2⟩;rw [r.fresh id h1 h2] at hv;cases hv
 let H'':Hd:=fun id=>if σ.nxt<=bs id/\bs id < LIM then (match lk mp id with | some (some j)=>H' j | _=>none) else H id
 have hH''old:∀ id v,H id=some v->H'' id=some v:=by
  intro id v hv;show (if _ then _ else _)=_;rw [if_neg (holdlt id v hv)];exact hv
 have hfits:Fits false mp H' H'':=by
  refine ⟨fun i j v hi hv => ?_,fun i hi => ?_,fun h=>by cases h⟩
  ·rcases hmpc i j hi with ⟨h1,h2⟩ | ⟨h1,h2,h3⟩
   ·show (if _ then _ else _)=_;rw [if_pos ⟨h1,by omega⟩,hi];exact hv
   ·rw [hpin j h1] at hv;unfold cmH at hv;rw [h2] at hv;exact hH''old i v hv
  ·rcases zdh hi with h1 | ⟨_,_,o,_,h3⟩
   ·have:=List.all_eq_true.1 hall (i,none) (zak h1);cases this
   ·cases h3
 have hOw:∀ b,zcL h (cmH cm H) b->∃ id e v,σ.ent id=some e/\H id=some v/\blk v=some b/\∃ i,lkc cm i=some id:=by
  rintro b ⟨i,e',v,h1,h2,h3⟩;obtain ⟨o,e,ho,he,_⟩:=zgF hh h1;unfold cmH at h2;rw [ho] at h2;exact ⟨o,e,v,he,h2,h3,i,ho⟩
 have hlt:∀ id e v b,σ.ent id=some e->H id=some v->blk v=some b->b < w.heap.size:=by
  intro id e v b h1 h2 h3;obtain ⟨v',h4,h5⟩:=r.ent id e h1;rw [h2] at h4;cases h4;exact h5.lt h3
 have hent:∀ id e,(σ.back cm nxt' h'').ent id=some e->(∃ j e0 v,lk mp id=some (some j)/\zbm h' j=some e0/\H' j=some v/\H'' id=some v/\renE false mp e=some e0)\/
   (σ.ent id=some e/\(∀ i,lkc cm i≠some id)/\∃ v,H id=some v/\H'' id=some v):=by
  intro id e he;rcases zsr hcm he with h1 | ⟨_,h2,h3⟩
  ·obtain ⟨j,e0,g1,g2,g3⟩:=znq hb h1;obtain ⟨v,hv,_⟩:=hok.ent j e0 g2;exact .inl ⟨j,e0,v,g1,g2,hv,hfits.1 id j v g1 hv,g3⟩
  ·obtain ⟨v,hv,_⟩:=r.ent id e h3;exact .inr ⟨h3,h2,v,hv,hH''old id v hv⟩
 have hlt':∀ j e v b,zbm h' j=some e->H' j=some v->blk v=some b->b < w'.heap.size:=by
  intro j e v b h1 h2 h3;obtain ⟨v',h4,h5⟩:=hok.ent j e h1;rw [h2] at h4;cases h4;exact h5.lt h3
 have hS:ln.l=[]->∀ b,Sh Xc (zbm h') H' w' b->Sh F.X (σ.back cm nxt' h'').ent H'' w' b:=by
  intro hl0 b ⟨h1,h2,h3⟩;rw [<- hXc] at h2;refine ⟨h1,fun h=>h2 (.inl h),fun id e v he hv hbv => ?_⟩;rcases hent id e he with ⟨j,e0,u,g1,g2,g3,g4,_⟩ | ⟨g1,g2,u,g3,g4⟩
  ·rw [g4] at hv;cases hv;exact h3 j e0 v g2 g3 hbv
  ·rw [g4] at hv;cases hv;exact h2 (.inr ⟨id,e,v,g1,g3,hbv,g2,LN.nil hl0⟩)
 have hS0:∀ b,Sh F.X σ.ent H w b->Sh F.X (σ.back cm nxt' h'').ent H'' w' b/\w'.heap[b]? =w.heap[b]? :=by
  intro b ⟨h1,h2,h3⟩;have hno : ¬ zcL h (cmH cm H) b:=fun ho=>by
   obtain ⟨id,e,v,g1,g2,g3,_⟩:=hOw b ho;exact h3 id e v g1 g2 g3
  refine ⟨⟨Nat.lt_of_lt_of_le h1 hos.2.2.2,h2,fun id e v he hv hbv => ?_⟩,hkeep b h1 hno⟩;rcases hent id e he with ⟨j,e0,u,g1,g2,g3,g4,_⟩ | ⟨g1,g2,u,g3,g4⟩
  ·rw [g4] at hv;cases hv;rcases hnew b ⟨j,e0,v,g2,g3,hbv⟩ with h | h
   ·omega
   ·exact hno h
  ·rw [g4] at hv;cases hv;exact h3 id e v g1 g3 hbv
 have hkeep':∀ id e v b,σ.ent id=some e->(∀ i,lkc cm i≠some id)->H id=some v->blk v=some b->w'.heap[b]? =w.heap[b]? :=by
  intro id e v b h1 h2 h3 h4;refine hkeep b (hlt id e v b h1 h3 h4) fun ho => ?_
  obtain ⟨id',e',v',g1,g2,g3,i,g4⟩:=hOw b ho;have:=r.inj id id' e e' v v' b h1 g1 h3 g2 h4 g3;subst this;exact h2 i g4
 refine ⟨H'',⟨r.size,r.defs,hos.1.trans r.os,hos.2.1.trans r.tape,hos.2.2.1.trans r.output,Nat.le_trans r.grow hos.2.2.2,?_,r.xlt,?_,?_,?_,?_,?_,?_⟩,fun x x' v hv hn hx => ?_⟩
 rotate_left 7
 ·by_cases hl0:ln.l=[]
  ·exact hv.ren hfits (hS hl0) hx
  ·exact (hn hl0 w' _ (fun _=>False) H' v hv).ren hfits (fun _ h=>h.elim) hx
 ·intro b hb1 hb2;rw [hkeep b (Nat.lt_of_lt_of_le hb1 r.grow) fun ho => ?_]
  ·exact r.keep b hb1 hb2
  ·obtain ⟨id,e,v,g1,g2,g3,_⟩:=hOw b ho;rcases (r.own id e v b g1 g2 g3).1 with h | h
   ·omega
   ·exact hb2 h
 ·intro id h1 h2;have h1:nxt'<=bs id:=h1;show (if _ then _ else _)=_;rw [if_pos ⟨by omega,h2⟩];cases hl:lk mp id with
  | none=>rfl
  | some q=>
   cases q with
   | none=>rfl
   | some j=>
    rcases hmpc id j hl with ⟨g1,g2⟩ | ⟨_,_,g3⟩
    ·omega
    ·omega
 ·intro id h1;have:=zfS h1;show (if _ then _ else _)=_;rw [if_neg (by omega)];exact r.pin id h1
 ·intro id e he;rcases hent id e he with ⟨j,e0,v,g1,g2,g3,g4,g5⟩ | ⟨g1,g2,v,g3,g4⟩
  ·obtain ⟨u,hu,hr⟩:=hok.ent j e0 g2;rw [g3] at hu;cases hu;refine ⟨v,g4,?_⟩;by_cases hl0:ln.l=[]
   ·exact hr.ren hfits (hS hl0) g5
   ·exact (hns hl0 j e0 g2 w' _ (fun _=>False) H' v hr).ren hfits (fun _ h=>h.elim) g5
  ·obtain ⟨u,hu,hr⟩:=r.ent id e g1;rw [g3] at hu;cases hu;exact ⟨v,g4,hr.mono hS0 hH''old fun b hb=>hkeep' id e v b g1 g2 g3 hb⟩
 ·intro id e v b he hv hbv;rcases hent id e he with ⟨j,e0,u,g1,g2,g3,g4,_⟩ | ⟨g1,g2,u,g3,g4⟩
  ·rw [g4] at hv;cases hv;refine ⟨?_,fun hx => ?_⟩
   ·rcases hnew b ⟨j,e0,v,g2,g3,hbv⟩ with h | h
    ·exact .inl (Nat.le_trans r.grow h)
    ·obtain ⟨id,e,v,k1,k2,k3,_⟩:=hOw b h;exact (r.own id e v b k1 k2 k3).1
   ·have:=hok.own j e0 v b g2 g3 hbv;rw [<- hXc] at this;exact this (.inl hx)
  ·rw [g4] at hv;cases hv;exact r.own id e v b g1 g3 hbv
 ·intro id id' e e' v v' b h1 h2 h3 h4 h5 h6;rcases hent id e h1 with ⟨j,e0,u,g1,g2,g3,g4,_⟩ | ⟨g1,g2,u,g3,g4⟩<;>rcases hent id' e' h2 with ⟨j',e0',u',k1,k2,k3,k4,_⟩ | ⟨k1,k2,u',k3,k4⟩
  ·rw [g4] at h3;cases h3;rw [k4] at h4;cases h4;have:=hok.inj j j' e0 e0' v v' b g2 k2 g3 k3 h5 h6;subst this;exact zrM hnd hnv g1 k1
  ·exfalso;rw [g4] at h3;cases h3;rw [k4] at h4;cases h4;rcases hnew b ⟨j,e0,v,g2,g3,h5⟩ with h | h
   ·have:=hlt id' e' v' b k1 k3 h6;omega
   ·obtain ⟨i2,e2,v2,m1,m2,m3,q,m4⟩:=hOw b h;have:=r.inj id' i2 e' e2 v' v2 b k1 m1 k3 m2 h6 m3;subst this;exact k2 q m4
  ·exfalso;rw [g4] at h3;cases h3;rw [k4] at h4;cases h4;rcases hnew b ⟨j',e0',v',k2,k3,h6⟩ with h | h
   ·have:=hlt id e v b g1 g3 h5;omega
   ·obtain ⟨i2,e2,v2,m1,m2,m3,q,m4⟩:=hOw b h;have:=r.inj id i2 e e2 v v2 b g1 m1 g3 m2 h5 m3;subst this;exact g2 q m4
  ·rw [g4] at h3;cases h3;rw [k4] at h4;cases h4;exact r.inj id id' e e' v v' b g1 k1 g3 k3 h5 h6
 ·intro k x hx;exact (r.slot k x hx).mono hS0 hH''old
theorem zrv (cm:List (Nat×Nat)) (H:Hd):Fits false (toMp cm) H (cmH cm H):=by
 refine ⟨fun i o v hi hv => ?_,fun i hi => ?_,fun h=>by cases h⟩
 ·unfold cmH;rw [zpJ hi];exact hv
 ·rcases zdh hi with h1 | ⟨_,_,o,_,h3⟩
  ·rw [zcn] at h1;cases hl:look cm i with
   | none=>rw [hl] at h1;cases h1
   | some q=>rw [hl] at h1;cases h1
  ·cases h3
theorem zpD {cm:List (Nat×Nat)} {ln:LN} (hdis:∀ i o,lkc cm i=some o->o∉ln) (r:RelH F σ H a w) (hcm:cmOK cm=true) {h:Hp} (hh:zhj cm σ h):
  HOK (fun b=>F.X b\/∃ id e v,σ.ent id=some e/\H id=some v/\blk v=some b/\(∀ i,lkc cm i≠some id)/\id∉ln) h (cmH cm H) w/\
  (∀ b,Sh F.X (entL σ.ent ln) H w b->Sh (fun b=>F.X b\/∃ id e v,σ.ent id=some e/\H id=some v/\blk v=some b/\(∀ i,lkc cm i≠some id)/\id∉ln) (zbm h) (cmH cm H) w b):=by
 have hf:=zrv cm H;have hent:∀ i e' v,zbm h i=some e'->cmH cm H i=some v->∃ o e,lkc cm i=some o/\σ.ent o=some e/\H o=some v/\renE false (toMp cm) e'=some e:=by
  intro i e' v h1 h2;obtain ⟨o,e,h3,h4,h5⟩:=zgF hh h1;unfold cmH at h2;rw [h3] at h2;exact ⟨o,e,h3,h4,h2,h5⟩
 have hS:∀ b,Sh F.X (entL σ.ent ln) H w b->Sh (fun b=>F.X b\/∃ id e v,σ.ent id=some e/\H id=some v/\blk v=some b/\(∀ i,lkc cm i≠some id)/\id∉ln) (zbm h) (cmH cm H) w b:=by
  intro b ⟨h1,h2,h3⟩;refine ⟨h1,?_,fun i e' v he hv hb => ?_⟩
  ·rintro (h | ⟨id,e,v,g1,g2,g3,_,g5⟩)
   ·exact h2 h
   ·exact h3 id e v (by unfold entL;rw [if_neg g5];exact g1) g2 g3
  ·obtain ⟨o,e,g1,g2,g3,_⟩:=hent i e' v he hv;exact h3 o e v (by unfold entL;rw [if_neg (hdis i o g1)];exact g2) g3 hb
 refine ⟨⟨fun i e' he => ?_,fun i e' v b he hv hb => ?_,fun i j e1 e2 u v b h1 h2 h3 h4 h5 h6 => ?_⟩,hS⟩
 ·obtain ⟨o,e,g1,g2,g3⟩:=zgF hh he;obtain ⟨v,hv,hr⟩:=r.ent o e g2;exact ⟨v,by unfold cmH;rw [g1];exact hv,hr.ren hf (fun b hb=>hS b (zos hb)) g3⟩
 ·obtain ⟨o,e,g1,g2,g3,_⟩:=hent i e' v he hv;rintro (h | ⟨id,e2,v2,k1,k2,k3,k4,_⟩)
  ·exact (r.own o e v b g2 g3 hb).2 h
  ·have:=r.inj o id e e2 v v2 b g2 k1 g3 k2 hb k3;subst this;exact k4 i g1
 ·obtain ⟨o,e,g1,g2,g3,_⟩:=hent i e1 u h1 h3;obtain ⟨o',e',k1,k2,k3,_⟩:=hent j e2 v h2 h4;have:=r.inj o o' e e' u v b g2 k2 g3 k3 h5 h6;subst this;exact ztV (zbW hcm) g1 k1
def zbH (σ:St) (cm:List (Nat×Nat)) (ln:LN) (x x':AV):Prop:=∀ (F:Fr) (H:Hd) (a:Act) (w:World),RelH F σ H a w->∀ v,VRel w (Sh F.X σ.ent H w) H x v->VRel w (Sh F.X (entL σ.ent ln) H w) (cmH cm H) x' v
theorem zbH.ren {cm:List (Nat×Nat)} {ln:LN} {x x':AV} (h:ren false (toMp cm) x'=some x):zbH σ cm ln x x':=
 fun F H _ w _ v hv=>hv.ren (zrv cm H) (fun _ hb=>zos hb) h
theorem zbH.conv {cm:List (Nat×Nat)} {ln:LN} {x y x':AV} (c:Conv x y) (h:zbH σ cm ln y x'):zbH σ cm ln x x':=
 fun F H a w r v hv=>h F H a w r v (c _ _ _ _ hv)
theorem zbH.lend {cm:List (Nat×Nat)} {ln:LN} {id E sz bts:Nat} {l:List D} (he:σ.ent id=some (.arr E sz bts l)) (hid:id∈ln):zbH σ cm ln (.own id) (.d (.sl bts l)):=by
 intro F H a w r v hv;obtain ⟨u,hu,hd⟩:=r.frozen he;cases hv with
 | own _ _ h _=>
  rw [hu] at h;cases h;refine .d _ _ (hd.mono fun b hb=>⟨⟨hb.1,hb.2.1,fun i e v he hv => ?_⟩,rfl⟩);refine hb.2.2 i e v ?_ hv;unfold entL at he;split at he
  ·cases he
  ·rename_i hn;rw [St.ent_put];rw [if_neg (show ¬ id=i from fun h=>hn (h ▸ hid))];exact he
theorem zbH.lendOut {cm:List (Nat×Nat)} {ln:LN} {id E bts Er sz btsr m:Nat} {cells:List AV} {rows:List (List D)} (he:σ.ent id=some (.out E bts cells)) (hid:id∈ln) (hm:cells.length=m) (hrl:rows.length=m)
  (hc:∀ j,j < m->∃ o,cells.getD j default = .own o/\o∈ln/\σ.ent o=some (.arr Er sz btsr (rows.getD j default))):zbH σ cm ln (.own id) (.d (.sl bts (rows.map (.sl btsr)))):=by
 intro F H a w r v hv;have hent:(⟨σ.n,σ.nxt,σ.slots,[],entL σ.ent ln⟩:St).ent=entL σ.ent ln:=rfl;obtain ⟨_,⟨u,hu,hd⟩,_⟩:=r.freezeOut (σ':=⟨σ.n,σ.nxt,σ.slots,[],entL σ.ent ln⟩) he hm hrl (fun j hj=>let ⟨o,h1,_,h2⟩:=hc j hj;⟨o,h1,h2⟩) rfl rfl (fun _=>rfl)
  (fun i e hi=>by
   rw [hent] at hi;unfold entL at hi;split at hi
   ·cases hi
   ·rename_i hn;refine ⟨hi,fun e=>hn (e ▸ hid),fun j hj h => ?_⟩;obtain ⟨o,h1,h2,_⟩:=hc j hj;rw [h1] at h;cases h;exact hn h2)
 rw [hent] at hd;cases hv with
 | own _ _ h _=>rw [hu] at h;cases h;exact .d _ _ hd
def zim (σ:St) (ln:LN) (x:AV) (d:D):Prop:=x = .d d\/(x = .nil/\∃ b,d = .sl b [])\/(∃ id E sz bts l,x = .own id/\id∈ln/\σ.ent id=some (.arr E sz bts l)/\d = .sl bts l)\/zbH σ [] ln x (.d d)
theorem zim.rel {ln:LN} {x:AV} {d:D} (h:zim σ ln x d) (r:RelH F σ H a w) {v:Value} (hv:VRel w (Sh F.X σ.ent H w) H x v):DRel w (Sh F.X (entL σ.ent ln) H w) d v:=by
 rcases h with rfl | ⟨rfl,b,rfl⟩ | ⟨id,E,sz,bts,l,rfl,h1,h2,rfl⟩ | h0
 ·cases hv with
  | d _ _ h=>exact h.mono fun b hb=>⟨zos hb,rfl⟩
 ·cases hv;exact .nil _ _ _ (by simp [maxLen]) (fun _=>rfl)
 ·have:=zbH.lend (cm:=[]) (ln:=ln) h2 h1 F H a w r v hv;cases this with
  | d _ _ h=>exact h
 ·have:=h0 F H a w r v hv;cases this with
  | d _ _ h=>exact h
theorem zbH.lendBox {cm:List (Nat×Nat)} {ln:LN} {id T:Nat} {cells:List AV} {x:D} (he:σ.ent id=some (.box T cells)) (hid:id∈ln) (hlen:cells.length=x.cells.length)
  (hc:∀ i,i < cells.length->zim σ ln (cells.getD i default) (x.cells.getD i default)):zbH σ cm ln (.ptr id 0) (.addr x):=by
 intro F H a w r v hv;obtain ⟨u,hu,hr⟩:=r.ent id _ he;cases hv with
 | ptr _ _ b h=>
  rw [hu] at h;cases h;cases hr with
  | box _ _ _ cur hb hs hrel=>
   have hlt:b < w.heap.size:=(Array.getElem?_eq_some_iff.1 hb).1;refine .addr x b 0 (fun k=>cur.getD k undef) ⟨hlt,(r.own id _ _ b he hu rfl).2,fun i e v hi hv hbv => ?_⟩ (fun k hk => ?_) (fun k hk => ?_)
   ·unfold entL at hi;split at hi
    ·cases hi
    ·rename_i hn;have:=r.inj i id e _ v _ b hi he hv hu hbv rfl;subst this;exact hn hid
   ·rw [Nat.zero_add,cell_of_row w b k cur T (0,0) hb];have:k < cur.size:=by omega
    simp [this]
   ·exact (hc k (by omega)).rel r (hrel k (by omega))
theorem zbH.fn {cm:List (Nat×Nat)} {ln:LN} {g:Nat} {l l':List AV} (hl:l.length=l'.length) (h:∀ i,i < l.length->zbH σ cm ln (l.getD i default) (l'.getD i default)):zbH σ cm ln (.fn g l) (.fn g l'):=by
 intro F H a w r v hv;cases hv with
 | fn _ _ cs hs hr=>exact .fn g l' cs (by omega) fun i hi=>h i (by omega) F H a w r _ (hr i (by omega))
theorem zbH.agg {cm:List (Nat×Nat)} {ln:LN} {l l':List AV} (hl:l.length=l'.length) (h:∀ i,i < l.length->zbH σ cm ln (l.getD i default) (l'.getD i default)):zbH σ cm ln (.agg l) (.agg l'):=by
 intro F H a w r v hv;cases hv with
 | agg _ cs hs hr=>exact .agg l' cs (by omega) fun i hi=>h i (by omega) F H a w r _ (hr i (by omega))
def zop (σ:St) (cm:List (Nat×Nat)) (ln:LN):List Operand->List AV->Prop
 | [],xs=>xs=[]
 | o::r,x'::xs=>(∃ x,σ.ev o=some x/\zbH σ cm ln x x')/\zop σ cm ln r xs
 | _::_,[]=>False
def zkF (σ:St) (cm:List (Nat×Nat)) (ln:LN):List AV->List AV->Prop
 | [],xs=>xs=[]
 | x::r,x'::xs=>zbH σ cm ln x x'/\zkF σ cm ln r xs
 | _::_,[]=>False
theorem zop.rel {cm:List (Nat×Nat)} {ln:LN} (r:RelH F σ H a w):∀ {l:List Operand} {xs:List AV},zop σ cm ln l xs->
  l.length=xs.length/\∀ i,i < xs.length->VRel w (Sh F.X (entL σ.ent ln) H w) (cmH cm H) (xs.getD i default) ((l.map a.eval).getD i undef)
 | [],xs,h=>by
  have:xs=[]:=h;subst this;exact ⟨rfl,by simp⟩
 | o::l,x'::xs,h=>by
  obtain ⟨⟨x,hx,hr⟩,h2⟩:=h;obtain ⟨h3,h4⟩:=zop.rel r h2;refine ⟨by simp [h3],fun i hi => ?_⟩;cases i with
  | zero=>exact hr F H a w r _ (r.ev hx)
  | succ i=>simpa using h4 i (by simpa using hi)
 | _::_,[],h=>h.elim
theorem zkF.rel {cm:List (Nat×Nat)} {ln:LN}:∀ {l xs:List AV},zkF σ cm ln l xs->l.length=xs.length/\∀ i,i < xs.length->zbH σ cm ln (l.getD i default) (xs.getD i default)
 | [],xs,h=>by
  have:xs=[]:=h;subst this;exact ⟨rfl,by simp⟩
 | x::l,x'::xs,h=>by
  obtain ⟨h1,h2⟩:=h;obtain ⟨h3,h4⟩:=zkF.rel h2;refine ⟨by simp [h3],fun i hi => ?_⟩;cases i with
  | zero=>exact h1
  | succ i=>simpa using h4 i (by simpa using hi)
 | _::_,[],h=>h.elim
theorem zuN {o:Oper} {f:Operand} {g:FuncId} {caps:List AV} {args:Array Operand} {ts:Array TypeId} {d:Nat} (cm:List (Nat×Nat)) (ln:LN) {as cs:List AV} {h:Hp} {R:AV->Hp->Prop} {post:St->Prop} (hd:o.dst=some d) (hlt:Nat.blt d σ.n=true)
  (ho:o.op = .call { callee := .value f,args:=args,argTypes:=ts }) (hf:σ.ev f=some (.fn g caps)) (hcall:∀ (as:Array Value) (w:World),(callFunc g as).run P w = .ok (.enter g as) w)
  (hdis:∀ i o,lkc cm i=some o->o∉ln) (hcm:cmOK cm=true) (hargs:zop σ cm ln args.toList as) (hcaps:zkF σ cm ln caps cs) (hh:zhj cm σ h)
  (hfn:Fc P g (as++cs) h R)
  (hk:∀ r h',R r h'->(ln.l≠[]->zqH r/\∀ j e,zbm h' j=some e->zno e)/\∃ mp nxt' r'' h'',zlW cm σ.nxt nxt' mp=true/\zkm mp h' h''/\ren false mp r''=some r/\∃ σ',Eqv ((σ.back cm nxt' h'').set d r'') σ'/\post σ'):
  ∀ (a:Act) (w:World),Rel F σ a w->o.wp P a w (fun a' w'=>((∃ u,a'=a.put o.dst u)/\((∀ i,h i=none)->Ext w w'))/\∃ σ',post σ'/\Rel F σ' a' w') (fun _ _ _=>False):=by
 intro a w ⟨H,r⟩;obtain ⟨hok,hS⟩:=zpD hdis r hcm hh;obtain ⟨hl,hav⟩:=hargs.rel r;obtain ⟨hcl,hcr⟩:=hcaps.rel;have hfv:=r.ev hf;obtain ⟨cv,hfe,hcs,hcv⟩:∃ cv:Array Value,a.eval f = .func (.func g) #[] cv/\cv.size=caps.length/\∀ i,i < caps.length->VRel w (Sh F.X σ.ent H w) H (caps.getD i default) (cv.getD i undef):=by
  generalize a.eval f=u at hfv;cases hfv with
  | fn _ _ cv hs h=>exact ⟨cv,rfl,hs,h⟩
 have hargsz:(args.map a.eval).size=as.length:=by simpa using hl
 have hC:=hfn w (fun b=>F.X b\/∃ id e v,σ.ent id=some e/\H id=some v/\blk v=some b/\(∀ i,lkc cm i≠some id)/\id∉ln) (cmH cm H) (args.map a.eval++cv)
  (fun b hb=>by
   rcases hb with hb | ⟨id,e,v,h1,h2,h3,_⟩
   ·have:=r.xlt b hb;have:=r.grow;omega
   ·obtain ⟨v',h4,h5⟩:=r.ent id e h1;rw [h2] at h4;cases h4;exact h5.lt h3)
  (fun id hid=>by
   unfold cmH;cases hc:lkc cm id with
   | none=>rfl
   | some q=>have:=(zgM (zbW hcm) hc).1;omega)
  hok (by simp only [Array.size_append,List.length_append,hargsz,hcs,hcl]) (fun i hi=>by
   have hi':i < as.length+cs.length:=by simpa using hi
   by_cases h1:i < as.length
   ·have:=(hav i h1).mono (fun b hb=>⟨hS b hb,rfl⟩) (fun _ _ h=>h);have e1:(as++cs).getD i default=as.getD i default:=by simp only [List.getD_eq_getElem?_getD];rw [List.getElem?_append_left h1]
    have e2:(args.map a.eval++cv).getD i undef=(args.toList.map a.eval).getD i undef:=by
     have:i < (args.map a.eval).size:=by omega
     simp only [Array.getD_eq_getD_getElem?, List.getD_eq_getElem?_getD,Array.getElem?_append_left this];rw [<- Array.toList_map,Array.getElem?_toList]
    rw [e1,e2];exact this
   ·have h2:i - as.length < caps.length:=by omega
    have:=(hcr (i - as.length) (by omega) F H a w r _ (hcv (i - as.length) h2)).mono (fun b hb=>⟨hS b hb,rfl⟩) (fun _ _ h=>h);have e1:(as++cs).getD i default=cs.getD (i - as.length) default:=by simp only [List.getD_eq_getElem?_getD];rw [List.getElem?_append_right (by omega)]
    have e2:(args.map a.eval++cv).getD i undef=cv.getD (i - as.length) undef:=by
     have:(args.map a.eval).size<=i:=by omega
     simp only [Array.getD_eq_getD_getElem?];rw [Array.getElem?_append_right this,hargsz]
    rw [e1,e2];exact this)
 unfold Oper.wp;have hrun:(execOp a.eval o).run P w = .ok (.enter g (args.map a.eval++cv)) w:=by
  simp [execOp,ho,resolve,hfe,Deferred.ofValue,invoke,hcall]
 rw [hrun];refine Calls.mono hC ?_;rintro e w' ⟨v,r',h',H',rfl,hR,hos,hkeep,hok',hnew,hpin,hv⟩;obtain ⟨hns,mp,nxt',r'',h'',hb1,hb2,hb3,σ',heq,hp⟩:=hk r' h' hR;obtain ⟨H'',hrel,hval⟩:=r.callL hdis hcm hh hos hkeep hok' hnew hpin (fun hl=>(hns hl).2) hb1 hb2;refine ⟨⟨⟨v,rfl⟩,fun hh0 => ?_⟩,σ',hp,H'',heq.relH ?_⟩
 ·exact { os:=hos.1,tape:=hos.2.1,output:=hos.2.2.1,size:=hos.2.2.2,block:=fun b hb=>hkeep b hb (fun ⟨id,e,v,h1,_⟩=>by
   have h1:h id=some e:=h1;rw [hh0] at h1;cases h1) }
 have:=hrel.set (d:=d) (show d < σ.n by simpa using hlt) (hval r' r'' v hv (fun hl=>(hns hl).1) hb3);rw [<- hd] at this;exact this
end
end
end Go.Ab
