import Derived.Test.YtajabcfngklacaaEv40n8
set_option linter.unusedVariables false
set_option linter.unusedSimpArgs false
set_option linter.unusedSectionVars false
namespace Go.Ab
noncomputable section
open Enc (enc)
open Go.RowKit (Below)
def zAm (x:AV):Prop:=∀ (w:World) (S S':Nat->Prop) (H:Hd) (v:Value),VRel w S H x v->VRel w S' H x v
def zwK (e:Ent):Prop:=∀ (w:World) (S S':Nat->Prop) (H:Hd) (v:Value),EntRel w S H e v->EntRel w S' H e v
structure LN where
 l:List Nat
instance:Membership Nat LN:=⟨fun ln id=>id∈ln.l\/(RB<=id/\id % RB∈ln.l)⟩
theorem LN.mem {l:List Nat} {i:Nat} (h:i∈l):i∈(⟨l⟩:LN) := .inl h
theorem LN.nil {ln:LN} {i:Nat} (h:ln.l=[]) : ¬ i∈ln:=fun a=>by
 rcases a with a | ⟨_,a⟩<;>rw [h] at a<;>cases a
open Classical in
def entL (ent:Nat->Option Ent) (ln:LN) (id:Nat):Option Ent:=if id∈ln then none else ent id
theorem zxM {X:Nat->Prop} {ent:Nat->Option Ent} {ln:LN} {H:Hd} {w:World} {b:Nat} (h:Sh X ent H w b):Sh X (entL ent ln) H w b:=
 ⟨h.1,h.2.1,fun id e v a c=>by
  unfold entL at a;split at a
  ·cases a
  ·exact h.2.2 id e v a c⟩
section
variable {P:Program} {F:Fr} {σ:St} {H:Hd} {a:Act} {w:World} {mp:List (Nat×Option Nat)}
theorem RelH.callL (r:RelH F σ H a w) {cm:List (Nat×Nat)} {ln:LN} {h:Hp} (hdis:∀ i o,lkc cm i=some o->o∉ln) (J:cmOK cm=true) (hh:zpa cm σ h)
  {w':World} {h':Hp} {H':Hd} (O:w'.os=w.os/\w'.tape=w.tape/\w'.output=w.output/\w.heap.size<=w'.heap.size) (D:∀ b,b < w.heap.size -> ¬ zml h (cmH cm H) b->w'.heap[b]? =w.heap[b]?)
  (L:HOK (fun b=>F.X b\/∃ id e v,σ.ent id=some e/\H id=some v/\blk v=some b/\(∀ i,lkc cm i≠some id)/\id∉ln) h' H' w') (I:∀ b,zml h' H' b->w.heap.size<=b\/zml h (cmH cm H) b) (hpin:∀ id,pinB id=true->H' id=cmH cm H id)
  {mp:List (Nat×Option Nat)} {h'':Hp} {nxt':Nat} (hns:ln.l≠[]->∀ j e,zgK h' j=some e->zwK e) (hmp:zu9 cm σ.nxt nxt' mp=true) (hb:zs9 mp h' h''):
  ∃ t,RelH F (σ.back cm nxt' h'') t a w'/\∀ x x' v,VRel w' (Sh (fun b=>F.X b\/∃ id e v,σ.ent id=some e/\H id=some v/\blk v=some b/\(∀ i,lkc cm i≠some id)/\id∉ln) (zgK h') H' w') H' x v->(ln.l≠[]->zAm x)->ren false mp x'=some x->VRel w' (Sh F.X (σ.back cm nxt' h'').ent t w') t x' v:=by
 generalize hXc:(fun b=>F.X b\/∃ id e v,σ.ent id=some e/\H id=some v/\blk v=some b/\(∀ i,lkc cm i≠some id)/\id∉ln)=Xc at L;simp only [zu9,Bool.and_eq_true] at hmp;obtain ⟨⟨⟨⟨hnd,hnv⟩,hle⟩,Z⟩,hall⟩:=hmp;have hle:σ.nxt<=nxt':=by simpa using hle
 have Z:nxt'<=LIM:=by simpa using Z
 have J:=zfY J;have hb0:∀ i j,look mp i=some (some j)->(σ.nxt<=i/\i < nxt')\/(LIM<=j/\look cm j=some i/\(i < σ.nxt\/LIM<=i)):=by
  intro i j X;have:=List.all_eq_true.1 hall (i,some j) (zaN X);simp only [Bool.or_eq_true,Bool.and_eq_true] at this;rcases this with ⟨c,g⟩ | ⟨c,g⟩
  ·exact .inl ⟨by simpa using c,by simpa using g⟩
  ·refine .inr ⟨by simpa using c,?_⟩;cases hl:look cm j with
   | none=>rw [hl] at g;cases g
   | some o=>
    rw [hl] at g;simp only [Bool.and_eq_true,Bool.or_eq_true] at g;exact ⟨by rw [Nat.eq_of_beq_eq_true g.1],g.2.imp (by simp) (by simp)⟩
 have a0:∀ i j,lk mp i=some (some j)->(σ.nxt<=bs i/\bs i < nxt')\/(pinB j=true/\lkc cm j=some i/\(bs i < σ.nxt\/LIM<=bs i)):=by
  intro i j X;rcases zkp X with c | ⟨c,_,o,g,p⟩
  ·rcases hb0 i j c with ⟨n,d⟩ | ⟨n,d,l⟩
   ·left;rw [zwR (by omega)];exact ⟨n,d⟩
   ·obtain ⟨Q,R,S⟩:=J.key j i d;right;rw [zuP S];exact ⟨zwz Q R,zC2 d,l⟩
  ·cases p;have e:bs i=i % RB:=by unfold bs;rw [if_pos c]
   rcases hb0 _ o g with ⟨n,d⟩ | ⟨n,d,l⟩
   ·left;rw [e];exact ⟨n,d⟩
   ·obtain ⟨Q,R,S⟩:=J.key o _ d;right;refine ⟨zqU.2 (by rw [ztw R];exact Q),?_,by rw [e];exact l⟩;refine zza ?_;have:=zt0 (mp:=toMp cm) (f:=o) (o:=i % RB) (x:=i / RB - 1) R (by
     rw [zhr];cases hl:look cm (rid o (i / RB - 1)) with
     | none=>rfl
     | some q=>have:=(J.key _ q hl).2.1;have:=zdX o (i / RB - 1);omega) (by rw [zhr,d];rfl)
    rw [this,<- zoH c]
 have V:∀ id v,H id=some v -> ¬ (σ.nxt<=bs id/\bs id < LIM):=by
  intro id v m ⟨c,g⟩;rw [r.fresh id c g] at m;cases m
 let t:Hd:=fun id=>if σ.nxt<=bs id/\bs id < LIM then (match lk mp id with | some (some j)=>H' j | _=>none) else H id
 have s:∀ id v,H id=some v->t id=some v:=by
  intro id v m;show (if _ then _ else _)=_;rw [if_neg (V id v m)];exact m
 have y:Fits false mp H' t:=by
  refine ⟨fun i j v X m => ?_,fun i X => ?_,fun h=>by cases h⟩
  ·rcases a0 i j X with ⟨c,g⟩ | ⟨c,g,p⟩
   ·show (if _ then _ else _)=_;rw [if_pos ⟨c,by omega⟩,X];exact m
   ·rw [hpin j c] at m;unfold cmH at m;rw [g] at m;exact s i v m
  ·rcases zkp X with c | ⟨_,_,o,_,p⟩
   ·have:=List.all_eq_true.1 hall (i,none) (zaN c);cases this
   ·cases p
 have N:∀ b,zml h (cmH cm H) b->∃ id e v,σ.ent id=some e/\H id=some v/\blk v=some b/\∃ i,lkc cm i=some id:=by
  rintro b ⟨i,e',v,c,g,p⟩;obtain ⟨o,e,Y,P,_⟩:=zom hh c;unfold cmH at g;rw [Y] at g;exact ⟨o,e,v,P,g,p,i,Y⟩
 have a1:∀ id e v b,σ.ent id=some e->H id=some v->blk v=some b->b < w.heap.size:=by
  intro id e v b c g p;obtain ⟨T,C,U⟩:=r.ent id e c;rw [g] at C;cases C;exact U.lt p
 have A:∀ id e,(σ.back cm nxt' h'').ent id=some e->(∃ j e0 v,lk mp id=some (some j)/\zgK h' j=some e0/\H' j=some v/\t id=some v/\renE false mp e=some e0)\/
   (σ.ent id=some e/\(∀ i,lkc cm i≠some id)/\∃ v,H id=some v/\t id=some v):=by
  intro id e P;rcases zB5 J P with c | ⟨_,g,p⟩
  ·obtain ⟨j,e0,n,d,l⟩:=zwM hb c;obtain ⟨v,m,_⟩:=L.ent j e0 d;exact .inl ⟨j,e0,v,n,d,m,y.1 id j v n m,l⟩
  ·obtain ⟨v,m,_⟩:=r.ent id e p;exact .inr ⟨p,g,v,m,s id v m⟩
 have hlt':∀ j e v b,zgK h' j=some e->H' j=some v->blk v=some b->b < w'.heap.size:=by
  intro j e v b c g p;obtain ⟨T,C,U⟩:=L.ent j e c;rw [g] at C;cases C;exact U.lt p
 have hS:ln.l=[]->∀ b,Sh Xc (zgK h') H' w' b->Sh F.X (σ.back cm nxt' h'').ent t w' b:=by
  intro E b ⟨c,g,p⟩;rw [<- hXc] at g;refine ⟨c,fun h=>g (.inl h),fun id e v P m B => ?_⟩;rcases A id e P with ⟨j,e0,u,n,d,l,z,_⟩ | ⟨n,d,u,l,z⟩
  ·rw [z] at m;cases m;exact p j e0 v d l B
  ·rw [z] at m;cases m;exact g (.inr ⟨id,e,v,n,l,B,d,LN.nil E⟩)
 have hS0:∀ b,Sh F.X σ.ent H w b->Sh F.X (σ.back cm nxt' h'').ent t w' b/\w'.heap[b]? =w.heap[b]? :=by
  intro b ⟨c,g,p⟩;have hno : ¬ zml h (cmH cm H) b:=fun Y=>by
   obtain ⟨id,e,v,n,d,l,_⟩:=N b Y;exact p id e v n d l
  refine ⟨⟨Nat.lt_of_lt_of_le c O.2.2.2,g,fun id e v P m B => ?_⟩,D b c hno⟩;rcases A id e P with ⟨j,e0,u,n,d,l,z,_⟩ | ⟨n,d,u,l,z⟩
  ·rw [z] at m;cases m;rcases I b ⟨j,e0,v,d,l,B⟩ with h | h
   ·omega
   ·exact hno h
  ·rw [z] at m;cases m;exact p id e v n l B
 have W:∀ id e v b,σ.ent id=some e->(∀ i,lkc cm i≠some id)->H id=some v->blk v=some b->w'.heap[b]? =w.heap[b]? :=by
  intro id e v b c g p C;refine D b (a1 id e v b c p C) fun Y => ?_
  obtain ⟨M,e',T,n,d,l,i,z⟩:=N b Y;have:=r.inj id M e e' v T b c n p d C l;subst this;exact g i z
 refine ⟨t,⟨r.size,r.defs,O.1.trans r.os,O.2.1.trans r.tape,O.2.2.1.trans r.output,Nat.le_trans r.grow O.2.2.2,?_,r.xlt,?_,?_,?_,?_,?_,?_⟩,fun x x' v m hn hx => ?_⟩
 rotate_left 7
 ·by_cases E:ln.l=[]
  ·exact m.ren y (hS E) hx
  ·exact (hn E w' _ (fun _=>False) H' v m).ren y (fun _ h=>h.elim) hx
 ·intro b hb1 hb2;rw [D b (Nat.lt_of_lt_of_le hb1 r.grow) fun Y => ?_]
  ·exact r.keep b hb1 hb2
  ·obtain ⟨id,e,v,n,d,l,_⟩:=N b Y;rcases (r.own id e v b n d l).1 with h | h
   ·omega
   ·exact hb2 h
 ·intro id c g;have c:nxt'<=bs id:=c;show (if _ then _ else _)=_;rw [if_pos ⟨by omega,g⟩];cases hl:lk mp id with
  | none=>rfl
  | some q=>
   cases q with
   | none=>rfl
   | some j=>
    rcases a0 id j hl with ⟨n,d⟩ | ⟨_,_,l⟩
    ·omega
    ·omega
 ·intro id c;have:=zoy c;show (if _ then _ else _)=_;rw [if_neg (by omega)];exact r.pin id c
 ·intro id e P;rcases A id e P with ⟨j,e0,v,n,d,l,z,g5⟩ | ⟨n,d,v,l,z⟩
  ·obtain ⟨u,hu,hr⟩:=L.ent j e0 d;rw [l] at hu;cases hu;refine ⟨v,z,?_⟩;by_cases E:ln.l=[]
   ·exact hr.ren y (hS E) g5
   ·exact (hns E j e0 d w' _ (fun _=>False) H' v hr).ren y (fun _ h=>h.elim) g5
  ·obtain ⟨u,hu,hr⟩:=r.ent id e n;rw [l] at hu;cases hu;exact ⟨v,z,hr.mono hS0 s fun b hb=>W id e v b n d l hb⟩
 ·intro id e v b P m B;rcases A id e P with ⟨j,e0,u,n,d,l,z,_⟩ | ⟨n,d,u,l,z⟩
  ·rw [z] at m;cases m;refine ⟨?_,fun hx => ?_⟩
   ·rcases I b ⟨j,e0,v,d,l,B⟩ with h | h
    ·exact .inl (Nat.le_trans r.grow h)
    ·obtain ⟨id,e,v,Q,R,S,_⟩:=N b h;exact (r.own id e v b Q R S).1
   ·have:=L.own j e0 v b d l B;rw [<- hXc] at this;exact this (.inl hx)
  ·rw [z] at m;cases m;exact r.own id e v b n l B
 ·intro id M e e' v T b c g p C U h6;rcases A id e c with ⟨j,e0,u,n,d,l,z,_⟩ | ⟨n,d,u,l,z⟩<;>rcases A M e' g with ⟨j',e0',u',Q,R,S,k4,_⟩ | ⟨Q,R,u',S,k4⟩
  ·rw [z] at p;cases p;rw [k4] at C;cases C;have:=L.inj j j' e0 e0' v T b d R l S U h6;subst this;exact zBh hnd hnv n Q
  ·exfalso;rw [z] at p;cases p;rw [k4] at C;cases C;rcases I b ⟨j,e0,v,d,l,U⟩ with h | h
   ·have:=a1 M e' T b Q S h6;omega
   ·obtain ⟨i2,e2,v2,m1,m2,m3,q,m4⟩:=N b h;have:=r.inj M i2 e' e2 T v2 b Q m1 S m2 h6 m3;subst this;exact R q m4
  ·exfalso;rw [z] at p;cases p;rw [k4] at C;cases C;rcases I b ⟨j',e0',T,R,S,h6⟩ with h | h
   ·have:=a1 id e v b n l U;omega
   ·obtain ⟨i2,e2,v2,m1,m2,m3,q,m4⟩:=N b h;have:=r.inj id i2 e e2 v v2 b n m1 l m2 U m3;subst this;exact d q m4
  ·rw [z] at p;cases p;rw [k4] at C;cases C;exact r.inj id M e e' v T b n Q l S U h6
 ·intro k x hx;exact (r.slot k x hx).mono hS0 s
theorem zA1 (cm:List (Nat×Nat)) (H:Hd):Fits false (toMp cm) H (cmH cm H):=by
 refine ⟨fun i o v a c => ?_,fun i a => ?_,fun h=>by cases h⟩
 ·unfold cmH;rw [zza a];exact c
 ·rcases zkp a with h1 | ⟨_,_,o,_,h3⟩
  ·rw [zhr] at h1;cases b:look cm i with
   | none=>rw [b] at h1;cases h1
   | some q=>rw [b] at h1;cases h1
  ·cases h3
theorem zy3 {cm:List (Nat×Nat)} {ln:LN} (n:∀ i o,lkc cm i=some o->o∉ln) (r:RelH F σ H a w) (t:cmOK cm=true) {h:Hp} (D:zpa cm σ h):
  HOK (fun b=>F.X b\/∃ id e v,σ.ent id=some e/\H id=some v/\blk v=some b/\(∀ i,lkc cm i≠some id)/\id∉ln) h (cmH cm H) w/\
  (∀ b,Sh F.X (entL σ.ent ln) H w b->Sh (fun b=>F.X b\/∃ id e v,σ.ent id=some e/\H id=some v/\blk v=some b/\(∀ i,lkc cm i≠some id)/\id∉ln) (zgK h) (cmH cm H) w b):=by
 have L:=zA1 cm H;have c:∀ i e' v,zgK h i=some e'->cmH cm H i=some v->∃ o e,lkc cm i=some o/\σ.ent o=some e/\H o=some v/\renE false (toMp cm) e'=some e:=by
  intro i e' v s k;obtain ⟨o,e,l,y,z⟩:=zom D s;unfold cmH at k;rw [l] at k;exact ⟨o,e,l,y,k,z⟩
 have E:∀ b,Sh F.X (entL σ.ent ln) H w b->Sh (fun b=>F.X b\/∃ id e v,σ.ent id=some e/\H id=some v/\blk v=some b/\(∀ i,lkc cm i≠some id)/\id∉ln) (zgK h) (cmH cm H) w b:=by
  intro b ⟨s,k,l⟩;refine ⟨s,?_,fun i e' v p q m => ?_⟩
  ·rintro (h | ⟨id,e,v,g,d,f,_,g5⟩)
   ·exact k h
   ·exact l id e v (by unfold entL;rw [if_neg g5];exact g) d f
  ·obtain ⟨o,e,g,d,f,_⟩:=c i e' v p q;exact l o e v (by unfold entL;rw [if_neg (n i o g)];exact d) f m
 refine ⟨⟨fun i e' p => ?_,fun i e' v b p q m => ?_,fun i j I x u v b s k l y z J => ?_⟩,E⟩
 ·obtain ⟨o,e,g,d,f⟩:=zom D p;obtain ⟨v,q,M⟩:=r.ent o e d;exact ⟨v,by unfold cmH;rw [g];exact q,M.ren L (fun b m=>E b (zxM m)) f⟩
 ·obtain ⟨o,e,g,d,f,_⟩:=c i e' v p q;rintro (h | ⟨id,x,v2,A,B,C,k4,_⟩)
  ·exact (r.own o e v b d f m).2 h
  ·have:=r.inj o id e x v v2 b d A f B m C;subst this;exact k4 i g
 ·obtain ⟨o,e,g,d,f,_⟩:=c i I u s l;obtain ⟨N,e',A,B,C,_⟩:=c j x v k y;have:=r.inj o N e e' u v b d B f C z J;subst this;exact zDN (zfY t) g A
def zfn (σ:St) (cm:List (Nat×Nat)) (ln:LN) (x b:AV):Prop:=∀ (F:Fr) (H:Hd) (a:Act) (w:World),RelH F σ H a w->∀ v,VRel w (Sh F.X σ.ent H w) H x v->VRel w (Sh F.X (entL σ.ent ln) H w) (cmH cm H) b v
theorem zfn.ren {cm:List (Nat×Nat)} {ln:LN} {x a:AV} (h:ren false (toMp cm) a=some x):zfn σ cm ln x a:=
 fun F H _ w _ v b=>b.ren (zA1 cm H) (fun _ c=>zxM c) h
theorem zfn.conv {cm:List (Nat×Nat)} {ln:LN} {x y b:AV} (c:Conv x y) (h:zfn σ cm ln y b):zfn σ cm ln x b:=
 fun F H a w r v d=>h F H a w r v (c _ _ _ _ d)
theorem zfn.lend {cm:List (Nat×Nat)} {ln:LN} {id E sz bts:Nat} {l:List D} (c:σ.ent id=some (.arr E sz bts l)) (d:id∈ln):zfn σ cm ln (.own id) (.d (.sl bts l)):=by
 intro F H a w r v g;obtain ⟨u,k,m⟩:=r.frozen c;cases g with
 | own _ _ h _=>
  rw [k] at h;cases h;refine .d _ _ (m.mono fun b f=>⟨⟨f.1,f.2.1,fun i e v c g => ?_⟩,rfl⟩);refine f.2.2 i e v ?_ g;unfold entL at c;split at c
  ·cases c
  ·rename_i j;rw [St.ent_put];rw [if_neg (show ¬ id=i from fun h=>j (h ▸ d))];exact c
theorem zfn.lendOut {cm:List (Nat×Nat)} {ln:LN} {id E bts Er sz btsr m:Nat} {cells:List AV} {rows:List (List D)} (s:σ.ent id=some (.out E bts cells)) (d:id∈ln) (t:cells.length=m) (f:rows.length=m)
  (n:∀ j,j < m->∃ o,cells.getD j default = .own o/\o∈ln/\σ.ent o=some (.arr Er sz btsr (rows.getD j default))):zfn σ cm ln (.own id) (.d (.sl bts (rows.map (.sl btsr)))):=by
 intro F H a w r v x;have b:(⟨σ.n,σ.nxt,σ.slots,[],entL σ.ent ln⟩:St).ent=entL σ.ent ln:=rfl;obtain ⟨_,⟨u,y,q⟩,_⟩:=r.freezeOut (σ':=⟨σ.n,σ.nxt,σ.slots,[],entL σ.ent ln⟩) s t f (fun j g=>let ⟨o,k,_,l⟩:=n j g;⟨o,k,l⟩) rfl rfl (fun _=>rfl)
  (fun i e c=>by
   rw [b] at c;unfold entL at c;split at c
   ·cases c
   ·rename_i p;refine ⟨c,fun e=>p (e ▸ d),fun j g h => ?_⟩;obtain ⟨o,k,l,_⟩:=n j g;rw [k] at h;cases h;exact p l)
 rw [b] at q;cases x with
 | own _ _ h _=>rw [y] at h;cases h;exact .d _ _ q
def zqo (σ:St) (ln:LN) (x:AV) (d:D):Prop:=x = .d d\/(x = .nil/\∃ b,d = .sl b [])\/(∃ id E sz bts l,x = .own id/\id∈ln/\σ.ent id=some (.arr E sz bts l)/\d = .sl bts l)\/zfn σ [] ln x (.d d)
theorem zqo.rel {ln:LN} {x:AV} {d:D} (h:zqo σ ln x d) (r:RelH F σ H a w) {v:Value} (c:VRel w (Sh F.X σ.ent H w) H x v):DRel w (Sh F.X (entL σ.ent ln) H w) d v:=by
 rcases h with rfl | ⟨rfl,b,rfl⟩ | ⟨id,E,sz,bts,l,rfl,h1,h2,rfl⟩ | h0
 ·cases c with
  | d _ _ h=>exact h.mono fun b e=>⟨zxM e,rfl⟩
 ·cases c;exact .nil _ _ _ (by simp [maxLen]) (fun _=>rfl)
 ·have:=zfn.lend (cm:=[]) (ln:=ln) h2 h1 F H a w r v c;cases this with
  | d _ _ h=>exact h
 ·have:=h0 F H a w r v c;cases this with
  | d _ _ h=>exact h
theorem zfn.lendBox {cm:List (Nat×Nat)} {ln:LN} {id T:Nat} {cells:List AV} {x:D} (g:σ.ent id=some (.box T cells)) (j:id∈ln) (p:cells.length=x.cells.length)
  (s:∀ i,i < cells.length->zqo σ ln (cells.getD i default) (x.cells.getD i default)):zfn σ cm ln (.ptr id 0) (.addr x):=by
 intro F H a w r v l;obtain ⟨u,o,z⟩:=r.ent id _ g;cases l with
 | ptr _ _ b h=>
  rw [o] at h;cases h;cases z with
  | box _ _ _ c q hs d=>
   have n:b < w.heap.size:=(Array.getElem?_eq_some_iff.1 q).1;refine .addr x b 0 (fun k=>c.getD k undef) ⟨n,(r.own id _ _ b g o rfl).2,fun i e v f l m => ?_⟩ (fun k t => ?_) (fun k t => ?_)
   ·unfold entL at f;split at f
    ·cases f
    ·rename_i y;have:=r.inj i id e _ v _ b f g l o m rfl;subst this;exact y j
   ·rw [Nat.zero_add,cell_of_row w b k c T (0,0) q];have:k < c.size:=by omega
    simp [this]
   ·exact (s k (by omega)).rel r (d k (by omega))
theorem zfn.fn {cm:List (Nat×Nat)} {ln:LN} {g:Nat} {l b:List AV} (e:l.length=b.length) (h:∀ i,i < l.length->zfn σ cm ln (l.getD i default) (b.getD i default)):zfn σ cm ln (.fn g l) (.fn g b):=by
 intro F H a w r v c;cases c with
 | fn _ _ cs hs d=>exact .fn g b cs (by omega) fun i f=>h i (by omega) F H a w r _ (d i (by omega))
theorem zfn.agg {cm:List (Nat×Nat)} {ln:LN} {l b:List AV} (e:l.length=b.length) (h:∀ i,i < l.length->zfn σ cm ln (l.getD i default) (b.getD i default)):zfn σ cm ln (.agg l) (.agg b):=by
 intro F H a w r v c;cases c with
 | agg _ cs hs d=>exact .agg b cs (by omega) fun i f=>h i (by omega) F H a w r _ (d i (by omega))
def zxJ (σ:St) (cm:List (Nat×Nat)) (ln:LN):List Operand->List AV->Prop
 | [],xs=>xs=[]
 | o::r,x'::xs=>(∃ x,σ.ev o=some x/\zfn σ cm ln x x')/\zxJ σ cm ln r xs
 | _::_,[]=>False
def ztp (σ:St) (cm:List (Nat×Nat)) (ln:LN):List AV->List AV->Prop
 | [],xs=>xs=[]
 | x::r,x'::xs=>zfn σ cm ln x x'/\ztp σ cm ln r xs
 | _::_,[]=>False
theorem zxJ.rel {cm:List (Nat×Nat)} {ln:LN} (r:RelH F σ H a w):∀ {l:List Operand} {xs:List AV},zxJ σ cm ln l xs->
  l.length=xs.length/\∀ i,i < xs.length->VRel w (Sh F.X (entL σ.ent ln) H w) (cmH cm H) (xs.getD i default) ((l.map a.eval).getD i undef)
 | [],xs,h=>by
  have:xs=[]:=h;subst this;exact ⟨rfl,by simp⟩
 | o::l,x'::xs,h=>by
  obtain ⟨⟨x,c,d⟩,h2⟩:=h;obtain ⟨e,f⟩:=zxJ.rel r h2;refine ⟨by simp [e],fun i b => ?_⟩;cases i with
  | zero=>exact d F H a w r _ (r.ev c)
  | succ i=>simpa using f i (by simpa using b)
 | _::_,[],h=>h.elim
theorem ztp.rel {cm:List (Nat×Nat)} {ln:LN}:∀ {l xs:List AV},ztp σ cm ln l xs->l.length=xs.length/\∀ i,i < xs.length->zfn σ cm ln (l.getD i default) (xs.getD i default)
 | [],xs,h=>by
  have:xs=[]:=h;subst this;exact ⟨rfl,by simp⟩
 | x::l,x'::xs,h=>by
  obtain ⟨b,c⟩:=h;obtain ⟨d,e⟩:=ztp.rel c;refine ⟨by simp [d],fun i a => ?_⟩;cases i with
  | zero=>exact b
  | succ i=>simpa using e i (by simpa using a)
 | _::_,[],h=>h.elim
theorem zEO {o:Oper} {f:Operand} {g:FuncId} {c:List AV} {args:Array Operand} {ts:Array TypeId} {d:Nat} (cm:List (Nat×Nat)) (ln:LN) {as cs:List AV} {h:Hp} {R:AV->Hp->Prop} {post:St->Prop} (hd:o.dst=some d) (J:Nat.blt d σ.n=true)
  (ho:o.op = .call { callee := .value f,args:=args,argTypes:=ts }) (hf:σ.ev f=some (.fn g c)) (t:∀ (as:Array Value) (w:World),(callFunc g as).run P w = .ok (.enter g as) w)
  (s:∀ i o,lkc cm i=some o->o∉ln) (x:cmOK cm=true) (y:zxJ σ cm ln args.toList as) (z:ztp σ cm ln c cs) (hh:zpa cm σ h)
  (L:Fc P g (as++cs) h R)
  (hk:∀ r h',R r h'->(ln.l≠[]->zAm r/\∀ j e,zgK h' j=some e->zwK e)/\∃ mp nxt' m h'',zu9 cm σ.nxt nxt' mp=true/\zs9 mp h' h''/\ren false mp m=some r/\∃ σ',Eqv ((σ.back cm nxt' h'').set d m) σ'/\post σ'):
  ∀ (a:Act) (w:World),Rel F σ a w->o.wp P a w (fun a' w'=>((∃ u,a'=a.put o.dst u)/\((∀ i,h i=none)->Ext w w'))/\∃ σ',post σ'/\Rel F σ' a' w') (fun _ _ _=>False):=by
 intro a w ⟨H,r⟩;obtain ⟨S,hS⟩:=zy3 s r x hh;obtain ⟨A,T⟩:=y.rel r;obtain ⟨hcl,U⟩:=z.rel;have B:=r.ev hf;obtain ⟨l,V,W,X⟩:∃ l:Array Value,a.eval f = .func (.func g) #[] l/\l.size=c.length/\∀ i,i < c.length->VRel w (Sh F.X σ.ent H w) H (c.getD i default) (l.getD i undef):=by
  generalize a.eval f=u at B;cases B with
  | fn _ _ l hs h=>exact ⟨l,rfl,hs,h⟩
 have k:(args.map a.eval).size=as.length:=by simpa using A
 have hC:=L w (fun b=>F.X b\/∃ id e v,σ.ent id=some e/\H id=some v/\blk v=some b/\(∀ i,lkc cm i≠some id)/\id∉ln) (cmH cm H) (args.map a.eval++l)
  (fun b n=>by
   rcases n with n | ⟨id,e,v,p,Q,h3,_⟩
   ·have:=r.xlt b n;have:=r.grow;omega
   ·obtain ⟨v',h4,h5⟩:=r.ent id e p;rw [Q] at h4;cases h4;exact h5.lt h3)
  (fun id hid=>by
   unfold cmH;cases hc:lkc cm id with
   | none=>rfl
   | some q=>have:=(zor (zfY x) hc).1;omega)
  S (by simp only [Array.size_append,List.length_append,k,W,hcl]) (fun i hi=>by
   have hi':i < as.length+cs.length:=by simpa using hi
   by_cases p:i < as.length
   ·have:=(T i p).mono (fun b n=>⟨hS b n,rfl⟩) (fun _ _ h=>h);have N:(as++cs).getD i default=as.getD i default:=by simp only [List.getD_eq_getElem?_getD];rw [List.getElem?_append_left p]
    have O:(args.map a.eval++l).getD i undef=(args.toList.map a.eval).getD i undef:=by
     have:i < (args.map a.eval).size:=by omega
     simp only [Array.getD_eq_getD_getElem?, List.getD_eq_getElem?_getD,Array.getElem?_append_left this];rw [<- Array.toList_map,Array.getElem?_toList]
    rw [N,O];exact this
   ·have Q:i - as.length < c.length:=by omega
    have:=(U (i - as.length) (by omega) F H a w r _ (X (i - as.length) Q)).mono (fun b n=>⟨hS b n,rfl⟩) (fun _ _ h=>h);have N:(as++cs).getD i default=cs.getD (i - as.length) default:=by simp only [List.getD_eq_getElem?_getD];rw [List.getElem?_append_right (by omega)]
    have O:(args.map a.eval++l).getD i undef=l.getD (i - as.length) undef:=by
     have:(args.map a.eval).size<=i:=by omega
     simp only [Array.getD_eq_getD_getElem?];rw [Array.getElem?_append_right this,k]
    rw [N,O];exact this)
 unfold Oper.wp;have C:(execOp a.eval o).run P w = .ok (.enter g (args.map a.eval++l)) w:=by
  simp [execOp,ho,resolve,V,Deferred.ofValue,invoke,t]
 rw [C];refine Calls.mono hC ?_;rintro e w' ⟨v,r',h',H',rfl,hR,hos,hkeep,hok',hnew,hpin,hv⟩;obtain ⟨D,mp,nxt',m,h'',Y,Z,a0,σ',a1,hp⟩:=hk r' h' hR;obtain ⟨a2,E,I⟩:=r.callL s x hh hos hkeep hok' hnew hpin (fun A=>(D A).2) Y Z;refine ⟨⟨⟨v,rfl⟩,fun M => ?_⟩,σ',hp,a2,a1.relH ?_⟩
 ·exact { os:=hos.1,tape:=hos.2.1,output:=hos.2.2.1,size:=hos.2.2.2,block:=fun b n=>hkeep b n (fun ⟨id,e,v,p,_⟩=>by
   have p:h id=some e:=p;rw [M] at p;cases p) }
 have:=E.set (d:=d) (show d < σ.n by simpa using J) (I r' m v hv (fun A=>(D A).1) a0);rw [<- hd] at this;exact this
end
end
end Go.Ab
