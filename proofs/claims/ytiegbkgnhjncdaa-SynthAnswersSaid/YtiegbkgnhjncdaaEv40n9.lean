import Derived.Test.YtiegbkgnhjncdaaEv40n8
set_option linter.unusedVariables false
set_option linter.unusedSimpArgs false
set_option linter.unusedSectionVars false
namespace Go.Ab
noncomputable section
open Enc (enc)
open Go.RowKit (Below)
def zy1 (x:AV):Prop:=∀ (w:World) (S S':Nat->Prop) (H:Hd) (v:Value),VRel w S H x v->VRel w S' H x v
def zu1 (e:Ent):Prop:=∀ (w:World) (S S':Nat->Prop) (H:Hd) (v:Value),EntRel w S H e v->EntRel w S' H e v
structure LN where
 l:List Nat
instance:Membership Nat LN:=⟨fun ln id=>id∈ln.l\/(RB<=id/\id % RB∈ln.l)⟩
theorem LN.mem {l:List Nat} {i:Nat} (h:i∈l):i∈(⟨l⟩:LN) := .inl h
theorem LN.nil {ln:LN} {i:Nat} (h:ln.l=[]) : ¬ i∈ln:=fun a=>by
 rcases a with a | ⟨_,a⟩<;>rw [h] at a<;>cases a
open Classical in
def entL (ent:Nat->Option Ent) (ln:LN) (id:Nat):Option Ent:=if id∈ln then none else ent id
theorem zwk {X:Nat->Prop} {ent:Nat->Option Ent} {ln:LN} {H:Hd} {w:World} {b:Nat} (h:Sh X ent H w b):Sh X (entL ent ln) H w b:=
 ⟨h.1,h.2.1,fun id e v a c=>by
  unfold entL at a;split at a
  ·cases a
  ·exact h.2.2 id e v a c⟩
section
variable {P:Program} {F:Fr} {σ:St} {H:Hd} {a:Act} {w:World} {mp:List (Nat×Option Nat)}
theorem RelH.callL (r:RelH F σ H a w) {cm:List (Nat×Nat)} {ln:LN} {h:Hp} (hdis:∀ i o,lkc cm i=some o->o∉ln) (L:cmOK cm=true) (hh:zoC cm σ h)
  {w':World} {h':Hp} {Q:Hd} (R:w'.os=w.os/\w'.tape=w.tape/\w'.output=w.output/\w.heap.size<=w'.heap.size) (E:∀ b,b < w.heap.size -> ¬ zpl h (cmH cm H) b->w'.heap[b]? =w.heap[b]?)
  (M:HOK (fun b=>F.X b\/∃ id e v,σ.ent id=some e/\H id=some v/\blk v=some b/\(∀ i,lkc cm i≠some id)/\id∉ln) h' Q w') (J:∀ b,zpl h' Q b->w.heap.size<=b\/zpl h (cmH cm H) b) (hpin:∀ id,pinB id=true->Q id=cmH cm H id)
  {mp:List (Nat×Option Nat)} {N:Hp} {m:Nat} (hns:ln.l≠[]->∀ j e,zfI h' j=some e->zu1 e) (hmp:zxt cm σ.nxt m mp=true) (hb:zrd mp h' N):
  ∃ y,RelH F (σ.back cm m N) y a w'/\∀ x x' v,VRel w' (Sh (fun b=>F.X b\/∃ id e v,σ.ent id=some e/\H id=some v/\blk v=some b/\(∀ i,lkc cm i≠some id)/\id∉ln) (zfI h') Q w') Q x v->(ln.l≠[]->zy1 x)->ren false mp x'=some x->VRel w' (Sh F.X (σ.back cm m N).ent y w') y x' v:=by
 generalize hXc:(fun b=>F.X b\/∃ id e v,σ.ent id=some e/\H id=some v/\blk v=some b/\(∀ i,lkc cm i≠some id)/\id∉ln)=Xc at M;simp only [zxt,Bool.and_eq_true] at hmp;obtain ⟨⟨⟨⟨hnd,hnv⟩,hle⟩,hlim⟩,hall⟩:=hmp;have hle:σ.nxt<=m:=by simpa using hle
 have hlim:m<=LIM:=by simpa using hlim
 have L:=zhu L;have hb0:∀ i j,look mp i=some (some j)->(σ.nxt<=i/\i < m)\/(LIM<=j/\look cm j=some i/\(i < σ.nxt\/LIM<=i)):=by
  intro i j hi;have:=List.all_eq_true.1 hall (i,some j) (zay hi);simp only [Bool.or_eq_true,Bool.and_eq_true] at this;rcases this with ⟨c,g⟩ | ⟨c,g⟩
  ·exact .inl ⟨by simpa using c,by simpa using g⟩
  ·refine .inr ⟨by simpa using c,?_⟩;cases hl:look cm j with
   | none=>rw [hl] at g;cases g
   | some o=>
    rw [hl] at g;simp only [Bool.and_eq_true,Bool.or_eq_true] at g;exact ⟨by rw [Nat.eq_of_beq_eq_true g.1],g.2.imp (by simp) (by simp)⟩
 have hmpc:∀ i j,lk mp i=some (some j)->(σ.nxt<=bs i/\bs i < m)\/(pinB j=true/\lkc cm j=some i/\(bs i < σ.nxt\/LIM<=bs i)):=by
  intro i j hi;rcases zhe hi with c | ⟨c,_,o,g,s⟩
  ·rcases hb0 i j c with ⟨p,d⟩ | ⟨p,d,l⟩
   ·left;rw [zu7 (by omega)];exact ⟨p,d⟩
   ·obtain ⟨T,U,V⟩:=L.key j i d;right;rw [zzg V];exact ⟨zuF T U,zCp d,l⟩
  ·cases s;have e:bs i=i % RB:=by unfold bs;rw [if_pos c]
   rcases hb0 _ o g with ⟨p,d⟩ | ⟨p,d,l⟩
   ·left;rw [e];exact ⟨p,d⟩
   ·obtain ⟨T,U,V⟩:=L.key o _ d;right;refine ⟨zoQ.2 (by rw [zrC U];exact T),?_,by rw [e];exact l⟩;refine zxS ?_;have:=zsf (mp:=toMp cm) (f:=o) (o:=i % RB) (x:=i / RB - 1) U (by
     rw [zet];cases hl:look cm (rid o (i / RB - 1)) with
     | none=>rfl
     | some q=>have:=(L.key _ q hl).2.1;have:=zbO o (i / RB - 1);omega) (by rw [zet,d];rfl)
    rw [this,<- zk3 c]
 have Y:∀ id v,H id=some v -> ¬ (σ.nxt<=bs id/\bs id < LIM):=by
  intro id v n ⟨c,g⟩;rw [r.fresh id c g] at n;cases n
 let y:Hd:=fun id=>if σ.nxt<=bs id/\bs id < LIM then (match lk mp id with | some (some j)=>Q j | _=>none) else H id
 have t:∀ id v,H id=some v->y id=some v:=by
  intro id v n;show (if _ then _ else _)=_;rw [if_neg (Y id v n)];exact n
 have z:Fits false mp Q y:=by
  refine ⟨fun i j v hi n => ?_,fun i hi => ?_,fun h=>by cases h⟩
  ·rcases hmpc i j hi with ⟨c,g⟩ | ⟨c,g,s⟩
   ·show (if _ then _ else _)=_;rw [if_pos ⟨c,by omega⟩,hi];exact n
   ·rw [hpin j c] at n;unfold cmH at n;rw [g] at n;exact t i v n
  ·rcases zhe hi with c | ⟨_,_,o,_,s⟩
   ·have:=List.all_eq_true.1 hall (i,none) (zay c);cases this
   ·cases s
 have P:∀ b,zpl h (cmH cm H) b->∃ id e v,σ.ent id=some e/\H id=some v/\blk v=some b/\∃ i,lkc cm i=some id:=by
  rintro b ⟨i,e',v,c,g,s⟩;obtain ⟨o,e,ho,S,_⟩:=zlL hh c;unfold cmH at g;rw [ho] at g;exact ⟨o,e,v,S,g,s,i,ho⟩
 have hlt:∀ id e v b,σ.ent id=some e->H id=some v->blk v=some b->b < w.heap.size:=by
  intro id e v b c g s;obtain ⟨W,D,X⟩:=r.ent id e c;rw [g] at D;cases D;exact X.lt s
 have B:∀ id e,(σ.back cm m N).ent id=some e->(∃ j e0 v,lk mp id=some (some j)/\zfI h' j=some e0/\Q j=some v/\y id=some v/\renE false mp e=some e0)\/
   (σ.ent id=some e/\(∀ i,lkc cm i≠some id)/\∃ v,H id=some v/\y id=some v):=by
  intro id e S;rcases zA3 L S with c | ⟨_,g,s⟩
  ·obtain ⟨j,e0,p,d,l⟩:=zu5 hb c;obtain ⟨v,n,_⟩:=M.ent j e0 d;exact .inl ⟨j,e0,v,p,d,n,z.1 id j v p n,l⟩
  ·obtain ⟨v,n,_⟩:=r.ent id e s;exact .inr ⟨s,g,v,n,t id v n⟩
 have hlt':∀ j e v b,zfI h' j=some e->Q j=some v->blk v=some b->b < w'.heap.size:=by
  intro j e v b c g s;obtain ⟨W,D,X⟩:=M.ent j e c;rw [g] at D;cases D;exact X.lt s
 have hS:ln.l=[]->∀ b,Sh Xc (zfI h') Q w' b->Sh F.X (σ.back cm m N).ent y w' b:=by
  intro I b ⟨c,g,s⟩;rw [<- hXc] at g;refine ⟨c,fun h=>g (.inl h),fun id e v S n C => ?_⟩;rcases B id e S with ⟨j,e0,u,p,d,l,A,_⟩ | ⟨p,d,u,l,A⟩
  ·rw [A] at n;cases n;exact s j e0 v d l C
  ·rw [A] at n;cases n;exact g (.inr ⟨id,e,v,p,l,C,d,LN.nil I⟩)
 have hS0:∀ b,Sh F.X σ.ent H w b->Sh F.X (σ.back cm m N).ent y w' b/\w'.heap[b]? =w.heap[b]? :=by
  intro b ⟨c,g,s⟩;have hno : ¬ zpl h (cmH cm H) b:=fun ho=>by
   obtain ⟨id,e,v,p,d,l,_⟩:=P b ho;exact s id e v p d l
  refine ⟨⟨Nat.lt_of_lt_of_le c R.2.2.2,g,fun id e v S n C => ?_⟩,E b c hno⟩;rcases B id e S with ⟨j,e0,u,p,d,l,A,_⟩ | ⟨p,d,u,l,A⟩
  ·rw [A] at n;cases n;rcases J b ⟨j,e0,v,d,l,C⟩ with h | h
   ·omega
   ·exact hno h
  ·rw [A] at n;cases n;exact s id e v p l C
 have Z:∀ id e v b,σ.ent id=some e->(∀ i,lkc cm i≠some id)->H id=some v->blk v=some b->w'.heap[b]? =w.heap[b]? :=by
  intro id e v b c g s D;refine E b (hlt id e v b c s D) fun ho => ?_
  obtain ⟨O,e',W,p,d,l,i,A⟩:=P b ho;have:=r.inj id O e e' v W b c p s d D l;subst this;exact g i A
 refine ⟨y,⟨r.size,r.defs,R.1.trans r.os,R.2.1.trans r.tape,R.2.2.1.trans r.output,Nat.le_trans r.grow R.2.2.2,?_,r.xlt,?_,?_,?_,?_,?_,?_⟩,fun x x' v n hn hx => ?_⟩
 rotate_left 7
 ·by_cases I:ln.l=[]
  ·exact n.ren z (hS I) hx
  ·exact (hn I w' _ (fun _=>False) Q v n).ren z (fun _ h=>h.elim) hx
 ·intro b hb1 hb2;rw [E b (Nat.lt_of_lt_of_le hb1 r.grow) fun ho => ?_]
  ·exact r.keep b hb1 hb2
  ·obtain ⟨id,e,v,p,d,l,_⟩:=P b ho;rcases (r.own id e v b p d l).1 with h | h
   ·omega
   ·exact hb2 h
 ·intro id c g;have c:m<=bs id:=c;show (if _ then _ else _)=_;rw [if_pos ⟨by omega,g⟩];cases hl:lk mp id with
  | none=>rfl
  | some q=>
   cases q with
   | none=>rfl
   | some j=>
    rcases hmpc id j hl with ⟨p,d⟩ | ⟨_,_,l⟩
    ·omega
    ·omega
 ·intro id c;have:=znR c;show (if _ then _ else _)=_;rw [if_neg (by omega)];exact r.pin id c
 ·intro id e S;rcases B id e S with ⟨j,e0,v,p,d,l,A,g5⟩ | ⟨p,d,v,l,A⟩
  ·obtain ⟨u,hu,hr⟩:=M.ent j e0 d;rw [l] at hu;cases hu;refine ⟨v,A,?_⟩;by_cases I:ln.l=[]
   ·exact hr.ren z (hS I) g5
   ·exact (hns I j e0 d w' _ (fun _=>False) Q v hr).ren z (fun _ h=>h.elim) g5
  ·obtain ⟨u,hu,hr⟩:=r.ent id e p;rw [l] at hu;cases hu;exact ⟨v,A,hr.mono hS0 t fun b hb=>Z id e v b p d l hb⟩
 ·intro id e v b S n C;rcases B id e S with ⟨j,e0,u,p,d,l,A,_⟩ | ⟨p,d,u,l,A⟩
  ·rw [A] at n;cases n;refine ⟨?_,fun hx => ?_⟩
   ·rcases J b ⟨j,e0,v,d,l,C⟩ with h | h
    ·exact .inl (Nat.le_trans r.grow h)
    ·obtain ⟨id,e,v,T,U,V,_⟩:=P b h;exact (r.own id e v b T U V).1
   ·have:=M.own j e0 v b d l C;rw [<- hXc] at this;exact this (.inl hx)
  ·rw [A] at n;cases n;exact r.own id e v b p l C
 ·intro id O e e' v W b c g s D X h6;rcases B id e c with ⟨j,e0,u,p,d,l,A,_⟩ | ⟨p,d,u,l,A⟩<;>rcases B O e' g with ⟨j',e0',u',T,U,V,k4,_⟩ | ⟨T,U,u',V,k4⟩
  ·rw [A] at s;cases s;rw [k4] at D;cases D;have:=M.inj j j' e0 e0' v W b d U l V X h6;subst this;exact zAb hnd hnv p T
  ·exfalso;rw [A] at s;cases s;rw [k4] at D;cases D;rcases J b ⟨j,e0,v,d,l,X⟩ with h | h
   ·have:=hlt O e' W b T V h6;omega
   ·obtain ⟨i2,e2,v2,m1,m2,m3,q,m4⟩:=P b h;have:=r.inj O i2 e' e2 W v2 b T m1 V m2 h6 m3;subst this;exact U q m4
  ·exfalso;rw [A] at s;cases s;rw [k4] at D;cases D;rcases J b ⟨j',e0',W,U,V,h6⟩ with h | h
   ·have:=hlt id e v b p l X;omega
   ·obtain ⟨i2,e2,v2,m1,m2,m3,q,m4⟩:=P b h;have:=r.inj id i2 e e2 v v2 b p m1 l m2 X m3;subst this;exact d q m4
  ·rw [A] at s;cases s;rw [k4] at D;cases D;exact r.inj id O e e' v W b p T l V X h6
 ·intro k x hx;exact (r.slot k x hx).mono hS0 t
theorem zzU (cm:List (Nat×Nat)) (H:Hd):Fits false (toMp cm) H (cmH cm H):=by
 refine ⟨fun i o v a c => ?_,fun i a => ?_,fun h=>by cases h⟩
 ·unfold cmH;rw [zxS a];exact c
 ·rcases zhe a with h1 | ⟨_,_,o,_,h3⟩
  ·rw [zet] at h1;cases b:look cm i with
   | none=>rw [b] at h1;cases h1
   | some q=>rw [b] at h1;cases h1
  ·cases h3
theorem zBn {cm:List (Nat×Nat)} {ln:LN} (n:∀ i o,lkc cm i=some o->o∉ln) (r:RelH F σ H a w) (t:cmOK cm=true) {h:Hp} (D:zoC cm σ h):
  HOK (fun b=>F.X b\/∃ id e v,σ.ent id=some e/\H id=some v/\blk v=some b/\(∀ i,lkc cm i≠some id)/\id∉ln) h (cmH cm H) w/\
  (∀ b,Sh F.X (entL σ.ent ln) H w b->Sh (fun b=>F.X b\/∃ id e v,σ.ent id=some e/\H id=some v/\blk v=some b/\(∀ i,lkc cm i≠some id)/\id∉ln) (zfI h) (cmH cm H) w b):=by
 have L:=zzU cm H;have c:∀ i e' v,zfI h i=some e'->cmH cm H i=some v->∃ o e,lkc cm i=some o/\σ.ent o=some e/\H o=some v/\renE false (toMp cm) e'=some e:=by
  intro i e' v s k;obtain ⟨o,e,l,y,z⟩:=zlL D s;unfold cmH at k;rw [l] at k;exact ⟨o,e,l,y,k,z⟩
 have E:∀ b,Sh F.X (entL σ.ent ln) H w b->Sh (fun b=>F.X b\/∃ id e v,σ.ent id=some e/\H id=some v/\blk v=some b/\(∀ i,lkc cm i≠some id)/\id∉ln) (zfI h) (cmH cm H) w b:=by
  intro b ⟨s,k,l⟩;refine ⟨s,?_,fun i e' v p q m => ?_⟩
  ·rintro (h | ⟨id,e,v,g,d,f,_,g5⟩)
   ·exact k h
   ·exact l id e v (by unfold entL;rw [if_neg g5];exact g) d f
  ·obtain ⟨o,e,g,d,f,_⟩:=c i e' v p q;exact l o e v (by unfold entL;rw [if_neg (n i o g)];exact d) f m
 refine ⟨⟨fun i e' p => ?_,fun i e' v b p q m => ?_,fun i j I x u v b s k l y z J => ?_⟩,E⟩
 ·obtain ⟨o,e,g,d,f⟩:=zlL D p;obtain ⟨v,q,M⟩:=r.ent o e d;exact ⟨v,by unfold cmH;rw [g];exact q,M.ren L (fun b m=>E b (zwk m)) f⟩
 ·obtain ⟨o,e,g,d,f,_⟩:=c i e' v p q;rintro (h | ⟨id,x,v2,A,B,C,k4,_⟩)
  ·exact (r.own o e v b d f m).2 h
  ·have:=r.inj o id e x v v2 b d A f B m C;subst this;exact k4 i g
 ·obtain ⟨o,e,g,d,f,_⟩:=c i I u s l;obtain ⟨o',e',A,B,C,_⟩:=c j x v k y;have:=r.inj o o' e e' u v b d B f C z J;subst this;exact zDg (zhu t) g A
def zdi (σ:St) (cm:List (Nat×Nat)) (ln:LN) (x b:AV):Prop:=∀ (F:Fr) (H:Hd) (a:Act) (w:World),RelH F σ H a w->∀ v,VRel w (Sh F.X σ.ent H w) H x v->VRel w (Sh F.X (entL σ.ent ln) H w) (cmH cm H) b v
theorem zdi.ren {cm:List (Nat×Nat)} {ln:LN} {x a:AV} (h:ren false (toMp cm) a=some x):zdi σ cm ln x a:=
 fun F H _ w _ v b=>b.ren (zzU cm H) (fun _ c=>zwk c) h
theorem zdi.conv {cm:List (Nat×Nat)} {ln:LN} {x y b:AV} (c:Conv x y) (h:zdi σ cm ln y b):zdi σ cm ln x b:=
 fun F H a w r v d=>h F H a w r v (c _ _ _ _ d)
theorem zdi.lend {cm:List (Nat×Nat)} {ln:LN} {id E sz bts:Nat} {l:List D} (c:σ.ent id=some (.arr E sz bts l)) (d:id∈ln):zdi σ cm ln (.own id) (.d (.sl bts l)):=by
 intro F H a w r v g;obtain ⟨u,k,m⟩:=r.frozen c;cases g with
 | own _ _ h _=>
  rw [k] at h;cases h;refine .d _ _ (m.mono fun b f=>⟨⟨f.1,f.2.1,fun i e v c g => ?_⟩,rfl⟩);refine f.2.2 i e v ?_ g;unfold entL at c;split at c
  ·cases c
  ·rename_i j;rw [St.ent_put];rw [if_neg (show ¬ id=i from fun h=>j (h ▸ d))];exact c
theorem zdi.lendOut {cm:List (Nat×Nat)} {ln:LN} {id E bts Er sz btsr m:Nat} {cells:List AV} {rows:List (List D)} (s:σ.ent id=some (.out E bts cells)) (d:id∈ln) (t:cells.length=m) (f:rows.length=m)
  (n:∀ j,j < m->∃ o,cells.getD j default = .own o/\o∈ln/\σ.ent o=some (.arr Er sz btsr (rows.getD j default))):zdi σ cm ln (.own id) (.d (.sl bts (rows.map (.sl btsr)))):=by
 intro F H a w r v x;have b:(⟨σ.n,σ.nxt,σ.slots,[],entL σ.ent ln⟩:St).ent=entL σ.ent ln:=rfl;obtain ⟨_,⟨u,y,q⟩,_⟩:=r.freezeOut (σ':=⟨σ.n,σ.nxt,σ.slots,[],entL σ.ent ln⟩) s t f (fun j g=>let ⟨o,k,_,l⟩:=n j g;⟨o,k,l⟩) rfl rfl (fun _=>rfl)
  (fun i e c=>by
   rw [b] at c;unfold entL at c;split at c
   ·cases c
   ·rename_i p;refine ⟨c,fun e=>p (e ▸ d),fun j g h => ?_⟩;obtain ⟨o,k,l,_⟩:=n j g;rw [k] at h;cases h;exact p l)
 rw [b] at q;cases x with
 | own _ _ h _=>rw [y] at h;cases h;exact .d _ _ q
def zn9 (σ:St) (ln:LN) (x:AV) (d:D):Prop:=x = .d d\/(x = .nil/\∃ b,d = .sl b [])\/(∃ id E sz bts l,x = .own id/\id∈ln/\σ.ent id=some (.arr E sz bts l)/\d = .sl bts l)\/zdi σ [] ln x (.d d)
theorem zn9.rel {ln:LN} {x:AV} {d:D} (h:zn9 σ ln x d) (r:RelH F σ H a w) {v:Value} (c:VRel w (Sh F.X σ.ent H w) H x v):DRel w (Sh F.X (entL σ.ent ln) H w) d v:=by
 rcases h with rfl | ⟨rfl,b,rfl⟩ | ⟨id,E,sz,bts,l,rfl,h1,h2,rfl⟩ | h0
 ·cases c with
  | d _ _ h=>exact h.mono fun b e=>⟨zwk e,rfl⟩
 ·cases c;exact .nil _ _ _ (by simp [maxLen]) (fun _=>rfl)
 ·have:=zdi.lend (cm:=[]) (ln:=ln) h2 h1 F H a w r v c;cases this with
  | d _ _ h=>exact h
 ·have:=h0 F H a w r v c;cases this with
  | d _ _ h=>exact h
theorem zdi.lendBox {cm:List (Nat×Nat)} {ln:LN} {id T:Nat} {cells:List AV} {x:D} (g:σ.ent id=some (.box T cells)) (j:id∈ln) (p:cells.length=x.cells.length)
  (s:∀ i,i < cells.length->zn9 σ ln (cells.getD i default) (x.cells.getD i default)):zdi σ cm ln (.ptr id 0) (.addr x):=by
 intro F H a w r v l;obtain ⟨u,o,z⟩:=r.ent id _ g;cases l with
 | ptr _ _ b h=>
  rw [o] at h;cases h;cases z with
  | box _ _ _ c q hs d=>
   have n:b < w.heap.size:=(Array.getElem?_eq_some_iff.1 q).1;refine .addr x b 0 (fun k=>c.getD k undef) ⟨n,(r.own id _ _ b g o rfl).2,fun i e v f l m => ?_⟩ (fun k t => ?_) (fun k t => ?_)
   ·unfold entL at f;split at f
    ·cases f
    ·rename_i y;have:=r.inj i id e _ v _ b f g l o m rfl;subst this;exact y j
   ·rw [Nat.zero_add,cell_of_row w b k c T (0,0) q];have:k < c.size:=by omega
    simp [this]
   ·exact (s k (by omega)).rel r (d k (by omega))
theorem zdi.fn {cm:List (Nat×Nat)} {ln:LN} {g:Nat} {l b:List AV} (e:l.length=b.length) (h:∀ i,i < l.length->zdi σ cm ln (l.getD i default) (b.getD i default)):zdi σ cm ln (.fn g l) (.fn g b):=by
 intro F H a w r v c;cases c with
 | fn _ _ cs hs d=>exact .fn g b cs (by omega) fun i f=>h i (by omega) F H a w r _ (d i (by omega))
theorem zdi.agg {cm:List (Nat×Nat)} {ln:LN} {l b:List AV} (e:l.length=b.length) (h:∀ i,i < l.length->zdi σ cm ln (l.getD i default) (b.getD i default)):zdi σ cm ln (.agg l) (.agg b):=by
 intro F H a w r v c;cases c with
 | agg _ cs hs d=>exact .agg b cs (by omega) fun i f=>h i (by omega) F H a w r _ (d i (by omega))
def zyd (σ:St) (cm:List (Nat×Nat)) (ln:LN):List Operand->List AV->Prop
 | [],xs=>xs=[]
 | o::r,x'::xs=>(∃ x,σ.ev o=some x/\zdi σ cm ln x x')/\zyd σ cm ln r xs
 | _::_,[]=>False
def zsZ (σ:St) (cm:List (Nat×Nat)) (ln:LN):List AV->List AV->Prop
 | [],xs=>xs=[]
 | x::r,x'::xs=>zdi σ cm ln x x'/\zsZ σ cm ln r xs
 | _::_,[]=>False
theorem zyd.rel {cm:List (Nat×Nat)} {ln:LN} (r:RelH F σ H a w):∀ {l:List Operand} {xs:List AV},zyd σ cm ln l xs->
  l.length=xs.length/\∀ i,i < xs.length->VRel w (Sh F.X (entL σ.ent ln) H w) (cmH cm H) (xs.getD i default) ((l.map a.eval).getD i undef)
 | [],xs,h=>by
  have:xs=[]:=h;subst this;exact ⟨rfl,by simp⟩
 | o::l,x'::xs,h=>by
  obtain ⟨⟨x,c,d⟩,h2⟩:=h;obtain ⟨e,f⟩:=zyd.rel r h2;refine ⟨by simp [e],fun i b => ?_⟩;cases i with
  | zero=>exact d F H a w r _ (r.ev c)
  | succ i=>simpa using f i (by simpa using b)
 | _::_,[],h=>h.elim
theorem zsZ.rel {cm:List (Nat×Nat)} {ln:LN}:∀ {l xs:List AV},zsZ σ cm ln l xs->l.length=xs.length/\∀ i,i < xs.length->zdi σ cm ln (l.getD i default) (xs.getD i default)
 | [],xs,h=>by
  have:xs=[]:=h;subst this;exact ⟨rfl,by simp⟩
 | x::l,x'::xs,h=>by
  obtain ⟨b,c⟩:=h;obtain ⟨d,e⟩:=zsZ.rel c;refine ⟨by simp [d],fun i a => ?_⟩;cases i with
  | zero=>exact b
  | succ i=>simpa using e i (by simpa using a)
 | _::_,[],h=>h.elim
theorem zD9 {o:Oper} {f:Operand} {g:FuncId} {c:List AV} {args:Array Operand} {ts:Array TypeId} {d:Nat} (cm:List (Nat×Nat)) (ln:LN) {as cs:List AV} {h:Hp} {R:AV->Hp->Prop} {post:St->Prop} (hd:o.dst=some d) (N:Nat.blt d σ.n=true)
  (ho:o.op = .call { callee := .value f,args:=args,argTypes:=ts }) (hf:σ.ev f=some (.fn g c)) (x:∀ (as:Array Value) (w:World),(callFunc g as).run P w = .ok (.enter g as) w)
  (t:∀ i o,lkc cm i=some o->o∉ln) (y:cmOK cm=true) (z:zyd σ cm ln args.toList as) (A:zsZ σ cm ln c cs) (hh:zoC cm σ h)
  (O:Fc P g (as++cs) h R)
  (hk:∀ r C,R r C->(ln.l≠[]->zy1 r/\∀ j e,zfI C j=some e->zu1 e)/\∃ mp l n B,zxt cm σ.nxt l mp=true/\zrd mp C B/\ren false mp n=some r/\∃ σ',Eqv ((σ.back cm l B).set d n) σ'/\post σ'):
  ∀ (a:Act) (w:World),Rel F σ a w->o.wp P a w (fun a' w'=>((∃ u,a'=a.put o.dst u)/\((∀ i,h i=none)->Ext w w'))/\∃ σ',post σ'/\Rel F σ' a' w') (fun _ _ _=>False):=by
 intro a w ⟨H,r⟩;obtain ⟨V,hS⟩:=zBn t r y hh;obtain ⟨D,W⟩:=z.rel r;obtain ⟨hcl,X⟩:=A.rel;have E:=r.ev hf;obtain ⟨m,Y,Z,a0⟩:∃ m:Array Value,a.eval f = .func (.func g) #[] m/\m.size=c.length/\∀ i,i < c.length->VRel w (Sh F.X σ.ent H w) H (c.getD i default) (m.getD i undef):=by
  generalize a.eval f=u at E;cases E with
  | fn _ _ m hs h=>exact ⟨m,rfl,hs,h⟩
 have k:(args.map a.eval).size=as.length:=by simpa using D
 have hC:=O w (fun b=>F.X b\/∃ id e v,σ.ent id=some e/\H id=some v/\blk v=some b/\(∀ i,lkc cm i≠some id)/\id∉ln) (cmH cm H) (args.map a.eval++m)
  (fun b p=>by
   rcases p with p | ⟨id,e,v,s,U,h3,_⟩
   ·have:=r.xlt b p;have:=r.grow;omega
   ·obtain ⟨v',h4,h5⟩:=r.ent id e s;rw [U] at h4;cases h4;exact h5.lt h3)
  (fun id hid=>by
   unfold cmH;cases hc:lkc cm id with
   | none=>rfl
   | some q=>have:=(zsg (zhu y) hc).1;omega)
  V (by simp only [Array.size_append,List.length_append,k,Z,hcl]) (fun i hi=>by
   have hi':i < as.length+cs.length:=by simpa using hi
   by_cases s:i < as.length
   ·have:=(W i s).mono (fun b p=>⟨hS b p,rfl⟩) (fun _ _ h=>h);have S:(as++cs).getD i default=as.getD i default:=by simp only [List.getD_eq_getElem?_getD];rw [List.getElem?_append_left s]
    have T:(args.map a.eval++m).getD i undef=(args.toList.map a.eval).getD i undef:=by
     have:i < (args.map a.eval).size:=by omega
     simp only [Array.getD_eq_getD_getElem?, List.getD_eq_getElem?_getD,Array.getElem?_append_left this];rw [<- Array.toList_map,Array.getElem?_toList]
    rw [S,T];exact this
   ·have U:i - as.length < c.length:=by omega
    have:=(X (i - as.length) (by omega) F H a w r _ (a0 (i - as.length) U)).mono (fun b p=>⟨hS b p,rfl⟩) (fun _ _ h=>h);have S:(as++cs).getD i default=cs.getD (i - as.length) default:=by simp only [List.getD_eq_getElem?_getD];rw [List.getElem?_append_right (by omega)]
    have T:(args.map a.eval++m).getD i undef=m.getD (i - as.length) undef:=by
     have:(args.map a.eval).size<=i:=by omega
     simp only [Array.getD_eq_getD_getElem?];rw [Array.getElem?_append_right this,k]
    rw [S,T];exact this)
 unfold Oper.wp;have I:(execOp a.eval o).run P w = .ok (.enter g (args.map a.eval++m)) w:=by
  simp [execOp,ho,resolve,Y,Deferred.ofValue,invoke,x]
 rw [I];refine Calls.mono hC ?_;rintro e w' ⟨v,r',C,H',rfl,hR,hos,hkeep,hok',hnew,hpin,hv⟩;obtain ⟨J,mp,l,n,B,a1,a2,a3,σ',a4,hp⟩:=hk r' C hR;obtain ⟨a5,L,M⟩:=r.callL t y hh hos hkeep hok' hnew hpin (fun D=>(J D).2) a1 a2;refine ⟨⟨⟨v,rfl⟩,fun Q => ?_⟩,σ',hp,a5,a4.relH ?_⟩
 ·exact { os:=hos.1,tape:=hos.2.1,output:=hos.2.2.1,size:=hos.2.2.2,block:=fun b p=>hkeep b p (fun ⟨id,e,v,s,_⟩=>by
   have s:h id=some e:=s;rw [Q] at s;cases s) }
 have:=L.set (d:=d) (show d < σ.n by simpa using N) (M r' n v hv (fun D=>(J D).1) a3);rw [<- hd] at this;exact this
end
end
end Go.Ab
