import Derived.Test.YtajabcfngklacaaAb24n21
set_option linter.unusedVariables false
set_option linter.unusedSimpArgs false
set_option linter.unusedSectionVars false
namespace Go.Ab
open Enc (enc)
def famA (f n:Nat):List AV:=(List.range n).map fun x => .own (rid f x)
theorem zo8 (f n:Nat):(famA f n).length=n:=by simp [famA]
theorem zkn {f n j:Nat} (h:j < n):(famA f n).getD j default = .own (rid f j):=by
 simp [famA,List.getD_eq_getElem?_getD,h]
section
variable {P:Program} {F:Fr} {σ:St} {H:Hd} {a:Act} {w:World} {o:Oper}
def famH (H:Hd) (f m:Nat) (u:Nat->Value):Hd:=fun i=>if RB<=i/\i % RB=f/\i / RB - 1 < m then some (u (i / RB - 1)) else H i
theorem zwa (H:Hd) {f m x:Nat} (u:Nat->Value) (a:f < RB) (b:x < m):famH H f m u (rid f x)=some (u x):=by
 unfold famH;rw [ze1 a,zjU a,if_pos ⟨zdX f x,rfl,b⟩]
theorem zy0 {H:Hd} {f m i:Nat} {u:Nat->Value} (h:bs i≠f):famH H f m u i=H i:=by
 unfold famH;rw [if_neg (fun c=>h (by unfold bs;rw [if_pos c.1];exact c.2.1))]
theorem RelH.fam (r:RelH F σ H a w) (N:σ.nxt < LIM) {σ':St} {k E bts Er sz btsr m:Nat} {cells:List AV} {rows:List (List D)} (V:σ.ent k=some (.out E bts cells)) (hm:cells.length=m) (hrl:rows.length=m) (W:0 < sz)
  (hc:∀ j,j < m->(∃ o,cells.getD j default = .own o/\σ.ent o=some (.arr Er sz btsr (rows.getD j default)))\/(cells.getD j default = .nil/\rows.getD j default=[]))
  (X:∀ i j o,i < m->j < m->cells.getD i default = .own o->cells.getD j default = .own o->i=j)
  (hn:σ'.n=σ.n) (Y:σ'.nxt=σ.nxt+1) (hg:∀ k,σ'.get k=σ.get k)
  (O:∀ i e,σ'.ent i=some e->(i=k/\e = .out E bts (famA σ.nxt m))\/(∃ x,x < m/\i=rid σ.nxt x/\e = .arr Er sz btsr (rows.getD x default))\/(i≠k/\σ.ent i=some e/\∀ j,j < m->cells.getD j default ≠ .own i)):
  ∃ H',(∀ i v,H i=some v->H' i=some v)/\RelH F σ' H' a w:=by
 obtain ⟨v,hH,hr⟩:=r.ent k _ V;have I:σ.nxt < RB:=by unfold LIM at N;unfold RB;omega
 cases hr with
 | out _ _ _ _ xs hown hbt hrel=>
  have t:∀ x,H (rid σ.nxt x)=none:=fun x=>r.fresh _ (by rw [ztw I];exact Nat.le_refl _) (by rw [ztw I];exact N)
  have A:∀ x e,σ.ent (rid σ.nxt x)≠some e:=fun x e h=>by
   obtain ⟨u,d,_⟩:=r.ent _ _ h;rw [t] at d;cases d
  have z:∀ j,j < m->(∃ ad n c,xs.getD j undef = .slice ad n c)/\EntRel w (Sh F.X σ.ent H w) H (.arr Er sz btsr (rows.getD j default)) (xs.getD j undef)/\
    ((∃ o,cells.getD j default = .own o/\H o=some (xs.getD j undef)/\∃ e,σ.ent o=some e)\/xs.getD j undef = .slice none 0 0):=by
   intro j U;have l:=hrel j (by omega);rcases hc j U with ⟨o,s,T⟩ | ⟨s,T⟩
   ·rw [s] at l;obtain ⟨u,d,L⟩:=r.ent o _ T;generalize xs.getD j undef=q at l;cases l with
    | own _ _ h _=>
     rw [d] at h;cases h;refine ⟨?_,L,.inl ⟨o,s,d,_,T⟩⟩;cases L with
     | arr _ _ _ _ _ ys _ S=>
      rcases S.form with ⟨rfl,_⟩ | ⟨b,off,c,rfl⟩
      ·exact ⟨_,_,_,rfl⟩
      ·exact ⟨_,_,_,rfl⟩
   ·rw [s] at l;generalize xs.getD j undef=q at l;cases l;rw [T];refine ⟨⟨_,_,_,rfl⟩,.arr Er sz btsr [] _ [] W (zgL.of_row (World.ownsRow_nil w 0 Er sz)) (by simp [most]) (by simp) (by simp),.inr rfl⟩
  refine ⟨famH H σ.nxt m (fun j=>xs.getD j undef),?_,?_⟩
  ·intro i u d;unfold famH;by_cases c:RB<=i/\i % RB=σ.nxt/\i / RB - 1 < m
   ·have:=zoH c.1;rw [c.2.1] at this;rw [this,t] at d;cases d
   ·rw [if_neg c];exact d
  ·have f:∀ i u,H i=some u->famH H σ.nxt m (fun j=>xs.getD j undef) i=some u:=by
    intro i u d;unfold famH;by_cases c:RB<=i/\i % RB=σ.nxt/\i / RB - 1 < m
    ·have:=zoH c.1;rw [c.2.1] at this;rw [this,t] at d;cases d
    ·rw [if_neg c];exact d
   have p:∀ i e u,σ'.ent i=some e->famH H σ.nxt m (fun j=>xs.getD j undef) i=some u->
     (∃ C e0,σ.ent C=some e0/\H C=some u/\((C=i/\(i=k\/∀ j,j < m->cells.getD j default ≠ .own i)/\∀ x,i≠rid σ.nxt x)\/∃ x,x < m/\i=rid σ.nxt x/\cells.getD x default = .own C))\/blk u=none:=by
    intro i e u L d;rcases O i e L with ⟨rfl,_⟩ | ⟨x,hxm,rfl,_⟩ | ⟨hne,l,s⟩
    ·rw [f _ _ hH] at d;cases d;exact .inl ⟨i,_,V,hH,.inl ⟨rfl,.inl rfl,fun x Y=>A x _ (by rw [<- Y];exact V)⟩⟩
    ·rw [zwa _ _ I hxm] at d;cases d;rcases (z x hxm).2.2 with ⟨o,g1,g2,e0,B⟩ | g
     ·exact .inl ⟨o,e0,B,g2,.inr ⟨x,hxm,rfl,g1⟩⟩
     ·right;rw [g];rfl
    ·obtain ⟨u0,Z,_⟩:=r.ent i e l;rw [f _ _ Z] at d;cases d;exact .inl ⟨i,e,l,Z,.inl ⟨rfl,.inr s,fun x Y=>A x _ (by rw [<- Y];exact l)⟩⟩
   have hS:∀ b,Sh F.X σ.ent H w b->Sh F.X σ'.ent (famH H σ.nxt m (fun j=>xs.getD j undef)) w b:=by
    intro b M;refine ⟨M.1,M.2.1,fun i e u L d P => ?_⟩;rcases p i e u L d with ⟨C,e0,l,s,_⟩ | h
    ·exact M.2.2 C e0 u l s P
    ·rw [h] at P;cases P
   have Q:∀ b,Sh F.X σ.ent H w b->Sh F.X σ'.ent (famH H σ.nxt m (fun j=>xs.getD j undef)) w b/\w.heap[b]? =w.heap[b]? :=fun b M=>⟨hS b M,rfl⟩
   refine ⟨by rw [hn];exact r.size,r.defs,r.os,r.tape,r.output,r.grow,r.keep,r.xlt,fun i l s => ?_,fun i hi => ?_,fun i e L => ?_,fun i e u b L d M => ?_,fun i i' e e' u u' b l s T h4 h5 h6 => ?_,fun q x hq => ?_⟩
   ·rw [Y] at l;rw [zy0 (by omega)];exact r.fresh i (by omega) s
   ·rw [zy0 (by have:=zoy hi;omega)];exact r.pin i hi
   ·rcases O i e L with ⟨rfl,rfl⟩ | ⟨x,hxm,rfl,rfl⟩ | ⟨hne,l,s⟩
    ·refine ⟨v,f _ _ hH,.out E bts _ v xs (by rw [zo8,<- hm];exact hown) (by rw [zo8,<- hm];exact hbt) fun j U => ?_⟩;rw [zo8] at U;rw [zkn U];exact .own _ _ (zwa _ _ I U) (.inl (z j U).1)
    ·exact ⟨_,zwa _ _ I hxm,(z x hxm).2.1.mono Q f (fun _ _=>rfl)⟩
    ·obtain ⟨u,d,hr⟩:=r.ent i e l;exact ⟨u,f _ _ d,hr.mono Q f (fun _ _=>rfl)⟩
   ·rcases p i e u L d with ⟨C,e0,l,s,_⟩ | h
    ·exact r.own C e0 u b l s M
    ·rw [h] at M;cases M
   ·rcases p i e u l T with ⟨C,e0,g1,g2,B⟩ | h
    ·rcases p i' e' u' s h4 with ⟨i1,e1,k1,k2,J⟩ | h
     ·have:=r.inj C i1 e0 e1 u u' b g1 k1 g2 k2 h5 h6;subst this;rcases B with ⟨rfl,B,_⟩ | ⟨x,hxm,rfl,B⟩<;>rcases J with ⟨J,k4,_⟩ | ⟨y,hym,rfl,J⟩
      ·exact J
      ·exfalso;rcases B with rfl | B
       ·rcases hc y hym with ⟨o,R,p2⟩ | ⟨R,_⟩
        ·rw [R] at J;cases J;rw [V] at p2;cases p2
        ·rw [R] at J;cases J
       ·exact B y hym J
      ·exfalso;subst J;rcases k4 with rfl | k4
       ·rcases hc x hxm with ⟨o,R,p2⟩ | ⟨R,_⟩
        ·rw [R] at B;cases B;rw [V] at p2;cases p2
        ·rw [R] at B;cases B
       ·exact k4 x hxm B
      ·rw [X x y C hxm hym B J]
     ·rw [h] at h6;cases h6
    ·rw [h] at h5;cases h5
   ·rw [hg] at hq;exact (r.slot q x hq).mono Q f
theorem RelH.freezeOut (r:RelH F σ H a w) {σ':St} {k E bts Er sz btsr m:Nat} {cells:List AV} {rows:List (List D)} (Y:σ.ent k=some (.out E bts cells)) (hm:cells.length=m) (Z:rows.length=m)
  (hc:∀ j,j < m->∃ o,cells.getD j default = .own o/\σ.ent o=some (.arr Er sz btsr (rows.getD j default)))
  (hn:σ'.n=σ.n) (hx:σ'.nxt=σ.nxt) (hg:∀ k,σ'.get k=σ.get k)
  (c:∀ i e,σ'.ent i=some e->σ.ent i=some e/\i≠k/\∀ j,j < m->cells.getD j default ≠ .own i):
  RelH F σ' H a w/\(∃ v,H k=some v/\DRel w (Sh F.X σ'.ent H w) (.sl bts (rows.map (.sl btsr))) v)/\
   ∀ j o,j < m->cells.getD j default = .own o->∃ u,H o=some u/\DRel w (Sh F.X σ'.ent H w) (.sl btsr (rows.getD j default)) u:=by
 have hS:∀ b,Sh F.X σ.ent H w b->Sh F.X σ'.ent H w b/\w.heap[b]? =w.heap[b]? :=fun b d=>⟨⟨d.1,d.2.1,fun i e u p s a0=>d.2.2 i e u (c i e p).1 s a0⟩,rfl⟩
 have hR:RelH F σ' H a w:=
  ⟨by rw [hn];exact r.size,r.defs,r.os,r.tape,r.output,r.grow,r.keep,r.xlt,fun i z A=>r.fresh i (by rw [<- hx];exact z) A,r.pin,
   fun i e p=>by
    obtain ⟨u,s,O⟩:=r.ent i e (c i e p).1;exact ⟨u,s,O.mono hS (fun _ _ h=>h) (fun _ _=>rfl)⟩,
   fun i e u b p s d=>r.own i e u b (c i e p).1 s d,
   fun i i' e e' u u' b z A=>r.inj i i' e e' u u' b (c i e z).1 (c i' e' A).1,
   fun q x T=>(r.slot q x (by rw [<- hg];exact T)).mono hS (fun _ _ h=>h)⟩
 have V:∀ o l,σ.ent o=some (.arr Er sz btsr l)->(∀ e,σ'.ent o≠some e)->∃ u,H o=some u/\DRel w (Sh F.X σ'.ent H w) (.sl btsr l) u:=by
  intro o l Q I;obtain ⟨u,s,O⟩:=r.ent o _ Q;refine ⟨u,s,?_⟩;have J:∀ b,blk u=some b->b < w.heap.size:=fun b d=>O.lt d
  have L:∀ b,blk u=some b->Sh F.X σ'.ent H w b:=fun b d=>⟨J b d,(r.own o _ u b Q s d).2,fun i e q p T B=>I e (by
   have:=r.inj o i _ e u q b Q (c i e p).1 s T d B;rw [this];exact p)⟩
  cases O with
  | arr _ _ _ _ _ xs hsz f P hcs y=>
   have n:=f;obtain ⟨hxl,A⟩:=f;rcases A with ⟨rfl,R⟩ | ⟨g,off,cap,cur,rfl,hh,hnc,hcm,hcsz,htake⟩
   ·have:l=[]:=List.length_eq_zero_iff.1 R;subst this;exact .nil _ _ _ (by simp [maxLen]) (fun _=>rfl)
   ·by_cases R:l=[]
    ·subst R;exact .nil _ _ _ hcm (by simp)
    ·have W:0 < l.length:=List.length_pos_iff.2 R;refine .sl _ _ g off cap sz (fun j=>xs.getD j undef) W hsz (L g rfl) hnc hcm P hcs (fun j C => ?_) (fun i U j C=>(y i U j C).mono hS);have M:j < xs.length:=by omega
     exact n.cell j _ (by simp [List.getD_eq_getElem?_getD,M])
 have t:∀ j o,j < m->cells.getD j default = .own o->∃ u,H o=some u/\DRel w (Sh F.X σ'.ent H w) (.sl btsr (rows.getD j default)) u:=by
  intro j o C Q;obtain ⟨o',z,A⟩:=hc j C;rw [z] at Q;cases Q;exact V o _ A fun e p=>(c o e p).2.2 j C z
 refine ⟨hR,?_,t⟩;obtain ⟨v,hH,O⟩:=r.ent k _ Y;refine ⟨v,hH,?_⟩;have J:∀ b,blk v=some b->b < w.heap.size:=fun b d=>O.lt d
 have L:∀ b,blk v=some b->Sh F.X σ'.ent H w b:=fun b d=>⟨J b d,(r.own k _ v b Y hH d).2,fun i e q p T B=>(c i e p).2.1 (by
  exact (r.inj k i _ e v q b Y (c i e p).1 hH T d B).symm)⟩
 cases O with
 | out _ _ _ _ xs f P y=>
  have n:=f;obtain ⟨hxl,A⟩:=f;have X:(rows.map (D.sl btsr)).length=m:=by rw [List.length_map];exact Z
  rcases A with ⟨rfl,R⟩ | ⟨g,off,cap,cur,rfl,hh,hnc,hcm,hcsz,htake⟩
  ·have:rows=[]:=List.length_eq_zero_iff.1 (by omega);subst this;exact .nil _ _ _ (by simp [maxLen]) (fun _=>rfl)
  ·by_cases R:m=0
   ·have:rows=[]:=List.length_eq_zero_iff.1 (by omega);subst this;rw [show cells.length=0 by omega];exact .nil _ _ _ hcm (by simp)
   ·have:=DRel.sl (w:=w) (S:=Sh F.X σ'.ent H w) bts (rows.map (D.sl btsr)) g off cap 1 (fun j=>xs.getD j undef) (by omega) (by omega) (L g rfl) (by omega) hcm (by rw [X,<- hm];exact P)
     (fun i U=>by
      have N:i < rows.length:=by simpa using U
      simp [List.getD_eq_getElem?_getD,N,D.cells])
     (fun j C=>by
      have M:j < xs.length:=by omega
      exact n.cell j _ (by simp [List.getD_eq_getElem?_getD,M]))
     (fun i U j C=>by
      have N:i < rows.length:=by simpa using U
      have hj0:j=0:=by omega
      subst hj0;obtain ⟨o,z,_⟩:=hc i (by omega);obtain ⟨u,s,hd⟩:=t i o (by omega) z;have h3:=y i (by omega);rw [z] at h3;have h4:xs.getD i undef=u:=by
       generalize xs.getD i undef=q at h3;cases h3 with
       | own _ _ h _=>rw [s] at h;cases h;rfl
      have e1:((rows.map (D.sl btsr)).getD i default).cells.getD 0 default = .sl btsr (rows.getD i default):=by
       simp [List.getD_eq_getElem?_getD,N,D.cells]
      rw [e1];simp only [Nat.mul_one,Nat.add_zero];rw [h4];exact hd)
    rw [X,<- hm] at this;exact this
theorem RelH.flatRows (r:RelH F σ H a w) {σ':St} {k E bts Er sz btsr m:Nat} {cells:List AV} {rows:List (List D)} (hk:σ.ent k=some (.out E bts cells)) (hm:cells.length=m) (S:rows.length=m)
  (hc:∀ j,j < m->∃ o,cells.getD j default = .own o/\σ.ent o=some (.arr Er sz btsr (rows.getD j default)))
  (hn:σ'.n=σ.n) (hx:σ'.nxt=σ.nxt) (hg:∀ k,σ'.get k=σ.get k)
  (p:∀ i e,σ'.ent i=some e->(i=k/\e = .arr E 1 bts (rows.map (.sl btsr)))\/(σ.ent i=some e/\i≠k/\∀ j,j < m->cells.getD j default ≠ .own i))
  (T:∀ j,j < m->cells.getD j default ≠ .own k):
  RelH F σ' H a w:=by
 obtain ⟨kv,hkv,hkr⟩:=r.ent k _ hk;have c:∀ i e,σ'.ent i=some e->∃ e0,σ.ent i=some e0:=fun i e f=>by
  rcases p i e f with ⟨rfl,_⟩ | ⟨h,_⟩
  ·exact ⟨_,hk⟩
  ·exact ⟨_,h⟩
 have X:∀ b,Sh F.X σ.ent H w b->Sh F.X σ'.ent H w b/\w.heap[b]? =w.heap[b]? :=fun b s=>⟨⟨s.1,s.2.1,fun i e u f t U=>by
  obtain ⟨e0,n⟩:=c i e f;exact s.2.2 i e0 u n t U⟩,rfl⟩
 have O:∀ o l,σ.ent o=some (.arr Er sz btsr l)->(∀ e,σ'.ent o≠some e)->∃ u,H o=some u/\DRel w (Sh F.X σ'.ent H w) (.sl btsr l) u:=by
  intro o l M B;obtain ⟨u,t,R⟩:=r.ent o _ M;refine ⟨u,t,?_⟩;have Y:∀ b,blk u=some b->b < w.heap.size:=fun b s=>R.lt s
  have Z:∀ b,blk u=some b->Sh F.X σ'.ent H w b:=fun b s=>⟨Y b s,(r.own o _ u b M t s).2,fun i e q f V W=>B e (by
   obtain ⟨e0,n⟩:=c i e f;have:=r.inj o i _ e0 u q b M n t V s W;rw [this];exact f)⟩
  cases R with
  | arr _ _ _ _ _ xs hsz d L hcs v=>
   have C:=d;obtain ⟨hxl,A⟩:=d;rcases A with ⟨rfl,n⟩ | ⟨g,off,cap,cur,rfl,hh,hnc,hcm,hcsz,htake⟩
   ·have:l=[]:=List.length_eq_zero_iff.1 n;subst this;exact .nil _ _ _ (by simp [maxLen]) (fun _=>rfl)
   ·by_cases n:l=[]
    ·subst n;exact .nil _ _ _ hcm (by simp)
    ·have P:0 < l.length:=List.length_pos_iff.2 n;refine .sl _ _ g off cap sz (fun j=>xs.getD j undef) P hsz (Z g rfl) hnc hcm L hcs (fun j z => ?_) (fun i N j z=>(v i N j z).mono X);have a0:j < xs.length:=by omega
     exact C.cell j _ (by simp [List.getD_eq_getElem?_getD,a0])
 have I:∀ j o,j < m->cells.getD j default = .own o->∃ u,H o=some u/\DRel w (Sh F.X σ'.ent H w) (.sl btsr (rows.getD j default)) u:=by
  intro j o z M;obtain ⟨o',y,A⟩:=hc j z;rw [y] at M;cases M;exact O o _ A fun e f=>by
   rcases p o e f with ⟨rfl,_⟩ | ⟨_,_,h⟩
   ·exact T j z y
   ·exact h j z y
 have hK:EntRel w (Sh F.X σ'.ent H w) H (.arr E 1 bts (rows.map (.sl btsr))) kv:=by
  cases hkr with
  | out _ _ _ _ xs d L v=>
   have Q:(rows.map (D.sl btsr)).length=cells.length:=by rw [List.length_map,S,hm]
   refine .arr E 1 bts _ kv xs (by omega) (by rw [Q];exact d) (by rw [Q];exact L) (fun i N => ?_) (fun i N j z => ?_)
   ·have J:i < rows.length:=by simpa using N
    simp [List.getD_eq_getElem?_getD,J,D.cells]
   ·have J:i < rows.length:=by simpa using N
    have a1:j=0:=by omega
    subst a1;obtain ⟨o,y,_⟩:=hc i (by omega);obtain ⟨u,t,hd⟩:=I i o (by omega) y;have h3:=v i (by omega);rw [y] at h3;have h4:xs.getD i undef=u:=by
     generalize xs.getD i undef=q at h3;cases h3 with
     | own _ _ h _=>rw [t] at h;cases h;rfl
    have e1:((rows.map (D.sl btsr)).getD i default).cells.getD 0 default = .sl btsr (rows.getD i default):=by
     simp [List.getD_eq_getElem?_getD,J,D.cells]
    rw [e1];simp only [Nat.mul_one,Nat.add_zero];rw [h4];exact hd
 exact ⟨by rw [hn];exact r.size,r.defs,r.os,r.tape,r.output,r.grow,r.keep,r.xlt,fun i y A=>r.fresh i (by rw [<- hx];exact y) A,r.pin,
  fun i e f=>by
   rcases p i e f with ⟨rfl,rfl⟩ | ⟨h,_⟩
   ·exact ⟨kv,hkv,hK⟩
   ·obtain ⟨u,t,R⟩:=r.ent i e h;exact ⟨u,t,R.mono X (fun _ _ h=>h) (fun _ _=>rfl)⟩,
  fun i e u b f t s=>by
   obtain ⟨e0,n⟩:=c i e f;exact r.own i e0 u b n t s,
  fun i i' e e' u u' b y A=>by
   obtain ⟨e0,n⟩:=c i e y;obtain ⟨e0',h0'⟩:=c i' e' A;exact r.inj i i' e0 e0' u u' b n h0',
  fun q x V=>(r.slot q x (by rw [<- hg];exact V)).mono X (fun _ _ h=>h)⟩
theorem RelH.boxset (r:RelH F σ H a w) {id id2 j:Nat} {T:TypeId} {xs:List AV} {d:D} {n:Value} (o:σ.ent id=some (.box T xs)) (c:xs[j]? =some (.own id2)) (l:H id2=some n) (p:DRel w (Sh F.X σ.ent H w) d n):
  RelH F (σ.put id (some (.box T (xs.set j (.d d))))) H a w:=by
 obtain ⟨v,t,x⟩:=r.ent id _ o;cases x with
 | box _ _ b f y hs g=>
  refine r.upd o t (b:=b) rfl ?_ (.box T _ b f y (by simpa using hs) fun q i => ?_)
  ·exact { os:=rfl,tape:=rfl,output:=rfl,size:=Nat.le_refl _,block:=fun _ _ _=>rfl }
  ·have i:q < xs.length:=by simpa using i
   have k:=g q i;by_cases e:j=q
   ·subst e;have s:xs.getD j default = .own id2:=by rw [List.getD_eq_getElem?_getD,c];rfl
    have m:(xs.set j (.d d)).getD j default = .d d:=by simp [List.getD_eq_getElem?_getD,i]
    rw [s] at k;rw [m];generalize f.getD j undef=u at k ⊢;cases k with
    | own _ _ h _=>rw [l] at h;cases h;exact .d _ _ p
   ·have m:(xs.set j (.d d)).getD q default=xs.getD q default:=by simp [List.getD_eq_getElem?_getD,List.getElem?_set_ne e]
    rw [m];exact k
 | mp=>
  exfalso
  match j,c with
  | 0,c=>cases c
  | 1,c=>cases c
  | q+2,c=>simp at c
end
end Go.Ab
