import Derived.Test.YtdkmmmmdmkoepaaRegularTextD
set_option maxHeartbeats 1000000
set_option maxRecDepth 20000
set_option linter.unusedSimpArgs false
set_option linter.unusedVariables false
set_option linter.unusedSectionVars false
namespace Go.Proofs.Ytdkmmmmdmkoepaa.regularTextW
open Go Go.Ab
def zf2 (o:Option Bool) (P:Prop):Prop:=∃ b,o=some b/\(b=true↔P)
theorem zf2.of {b:Bool} {P:Prop} (h:b=true↔P):zf2 (some b) P:=⟨b,rfl,h⟩
theorem zf2.dec {P Q:Prop} [Decidable P] (h:P↔Q):zf2 (some (decide P)) Q:=⟨_,rfl,by simpa using h⟩
theorem zf2.to {R:Type} {o:Option Bool} {P:Prop} {k1 k2 x:Option R} (h:zf2 o P) (h1:P->k1=x) (h2 : ¬ P->k2=x):(o.bind fun y=>if y=true then k1 else k2)=x:=by
 obtain ⟨b,rfl,hb⟩:=h;refine zaH rfl ?_
 cases b
 ·exact h2 fun hp=>by simpa using hb.2 hp
 ·exact h1 (hb.1 rfl)
section
variable {α C:Type} [Inhabited α]
theorem zlj {l:List α} {P:α->Prop}:(∃ x∈l,P x)↔∃ i:Int,0<=i/\i < l.length/\P (ix l i):=by
 constructor
 ·rintro ⟨x,hx,hp⟩;obtain ⟨i,hi,rfl⟩:=List.mem_iff_getElem.1 hx;refine ⟨i,by omega,by omega,?_⟩
  rwa [zpu (by omega) (by omega)]
 ·rintro ⟨i,h0,h1,hp⟩;exact ⟨_,zfv h0 h1,hp⟩
theorem zqJ {s:List α} {f:α->Option Bool} {L:Int->Option Int} {P:α->Prop} (hs:s.length<=4611686018427387904)
  (hL:∀ t,L t=if decide (t < (s.length:Int))=true then G (0<=t/\t < (s.length:Int)) ((f (ix s t)).bind fun y=>if y=true then some t else G (fits (t+1)) (L (t+1))) else some (-1))
  (hf:∀ x∈s,zf2 (f x) (P x)):∀ (n:Nat) (t:Int),0<=t->t<=s.length->(s.length - t).toNat=n->
   ∃ i,L t=some i/\((i = -1/\∀ j:Int,t<=j->j < s.length -> ¬ P (ix s j))\/(t<=i/\i < s.length/\P (ix s i)/\∀ j:Int,t<=j->j < i -> ¬ P (ix s j))):=by
 intro n
 induction n with
 | zero=>
  intro t h0 h1 hn;refine ⟨-1,?_,.inl ⟨rfl,fun j a b=>by omega⟩⟩
  rw [hL,if_neg (by simp;omega)]
 | succ n ih=>
  intro t h0 h1 hn;rw [hL,if_pos (by simp;omega),zag (by omega)]
  obtain ⟨b,hb,hbp⟩:=hf _ (zfv h0 (by omega:t < s.length))
  rw [hb]
  cases b with
  | true=>exact ⟨t,rfl,.inr ⟨by omega,by omega,hbp.1 rfl,fun j a b=>by omega⟩⟩
  | false=>
   have hnp : ¬ P (ix s t):=fun hp=>by simpa using hbp.2 hp
   obtain ⟨i,hi,hc⟩:=ih (t+1) (by omega) (by omega) (by omega)
   refine ⟨i,?_,?_⟩
   ·refine (if_neg (by simp):(if false=true then some t else G (fits (t+1)) (L (t+1)))=_).trans ?_
    rw [zag (by unfold fits;omega),hi]
   ·rcases hc with ⟨h2,h3⟩ | ⟨h2,h3,h4,h5⟩
    ·refine .inl ⟨h2,fun j a b => ?_⟩
     by_cases e:j=t
     ·rw [e];exact hnp
     ·exact h3 j (by omega) b
    ·refine .inr ⟨by omega,h3,h4,fun j a b => ?_⟩
     by_cases e:j=t
     ·rw [e];exact hnp
     ·exact h5 j (by omega) b
theorem zfc {s:List α} {f:α->Option Bool} {L:Int->Option Int} {P:α->Prop}
  (hL:∀ t,L t=if decide (t < (s.length:Int))=true then G (0<=t/\t < (s.length:Int)) ((f (ix s t)).bind fun y=>if y=true then some t else G (fits (t+1)) (L (t+1))) else some (-1))
  (hs:s.length<=4611686018427387904) (hf:∀ x∈s,zf2 (f x) (P x)):zf2 ((L 0).bind fun y=>some (decide ((0:Int)<=y))) (∃ x∈s,P x):=by
 obtain ⟨i,hi,hc⟩:=zqJ hs hL hf _ 0 (by omega) (by omega) rfl
 rw [hi];refine ⟨decide (0<=i),rfl,?_⟩
 rw [decide_eq_true_iff,zlj];rcases hc with ⟨h2,h3⟩ | ⟨h2,h3,h4,h5⟩
 ·constructor
  ·intro h;omega
  ·rintro ⟨j,h0,h1,hp⟩;exact absurd hp (h3 j h0 h1)
 ·exact ⟨fun _=>⟨i,by omega,h3,h4⟩,fun _=>by omega⟩
theorem zk8 {s:List α} {c:C} {f:α->C->Option (Bool×C)} {L:Int->C->Option (Int×C)} {P:α->Prop}
  (hL:∀ t c,L t c=if decide (t < (s.length:Int))=true then G (0<=t/\t < (s.length:Int)) ((f (ix s t) c).bind fun y=>if y.1=true then some (t,y.2) else G (fits (t+1)) (L (t+1) y.2)) else some (-1,c))
  (hs:s.length<=4611686018427387904) (hf:∀ x∈s,∃ b,f x c=some (b,c)/\(b=true↔P x)):∃ b,((L 0 c).bind fun y=>some (decide ((0:Int)<=y.1),y.2))=some (b,c)/\(b=true↔∃ x∈s,P x):=by
 have key:∀ (n:Nat) (t:Int),0<=t->t<=s.length->(s.length - t).toNat=n->
   ∃ i,L t c=some (i,c)/\((i = -1/\∀ j:Int,t<=j->j < s.length -> ¬ P (ix s j))\/(t<=i/\i < s.length/\P (ix s i))):=by
  intro n
  induction n with
  | zero=>
   intro t h0 h1 hn;refine ⟨-1,?_,.inl ⟨rfl,fun j a b=>by omega⟩⟩
   rw [hL,if_neg (by simp;omega)]
  | succ n ih=>
   intro t h0 h1 hn;rw [hL,if_pos (by simp;omega),zag (by omega)]
   obtain ⟨b,hb,hbp⟩:=hf _ (zfv h0 (by omega:t < s.length))
   rw [hb]
   cases b with
   | true=>exact ⟨t,rfl,.inr ⟨by omega,by omega,hbp.1 rfl⟩⟩
   | false=>
    have hnp : ¬ P (ix s t):=fun hp=>by simpa using hbp.2 hp
    obtain ⟨i,hi,hc⟩:=ih (t+1) (by omega) (by omega) (by omega)
    refine ⟨i,?_,?_⟩
    ·refine (if_neg (by simp):(if false=true then some (t,c) else G (fits (t+1)) (L (t+1) c))=_).trans ?_
     rw [zag (by unfold fits;omega),hi]
    ·rcases hc with ⟨h2,h3⟩ | ⟨h2,h3,h4⟩
     ·refine .inl ⟨h2,fun j a b => ?_⟩
      by_cases e:j=t
      ·rw [e];exact hnp
      ·exact h3 j (by omega) b
     ·exact .inr ⟨by omega,h3,h4⟩
 obtain ⟨i,hi,hc⟩:=key _ 0 (by omega) (by omega) rfl
 rw [hi];refine ⟨decide (0<=i),rfl,?_⟩
 rw [decide_eq_true_iff,zlj];rcases hc with ⟨h2,h3⟩ | ⟨h2,h3,h4⟩
 ·constructor
  ·intro h;omega
  ·rintro ⟨j,h0,h1,hp⟩;exact absurd hp (h3 j h0 h1)
 ·exact ⟨fun _=>⟨i,by omega,h3,h4⟩,fun _=>by omega⟩
end
theorem zl3 {R:Type} {len:Int} {L:Int->Option R} {bad:Int->Prop} {x:Option R} {lo:Int} (h0:lo<=len)
  (hs:∀ t,lo<=t->t < len->(bad t->L t=x)/\(¬ bad t->L t=L (t+1))) (hf:(∀ t,lo<=t->t < len -> ¬ bad t)->L len=x):L lo=x:=by
 have key:∀ (n:Nat) (t:Int),lo<=t->t<=len->(len - t).toNat=n->(∀ j,lo<=j->j < t -> ¬ bad j)->L t=x:=by
  intro n
  induction n with
  | zero=>
   intro t h1 h2 hn h;obtain rfl:t=len:=by omega
   exact hf h
  | succ n ih=>
   intro t h1 h2 hn h;by_cases hb:bad t
   ·exact (hs t h1 (by omega)).1 hb
   ·rw [(hs t h1 (by omega)).2 hb]
    refine ih (t+1) (by omega) (by omega) (by omega) fun j a b => ?_
    by_cases e:j=t
    ·rw [e];exact hb
    ·exact h j a (by omega)
 exact key _ lo (Int.le_refl _) h0 rfl (fun j a b=>by omega)
theorem zoA {w:List Int} (hs:w.length * 8<=140737488351232):ziV w=some w:=by
 unfold ziV;refine G_to (by unfold fits;omega) ?_
 refine G_to (by unfold mkOK;omega) ?_
 simp
theorem zqL {l:List (List Int)} (h1:l.length * 24<=140737488351232) (h2:∀ w∈l,w.length * 8<=140737488351232):ziW l=some l:=by
 have key:∀ (f i:Nat),l.length - i=f->i<=l.length->zeM l i (l.take i)=some l:=by
  intro f
  induction f with
  | zero=>
   intro i hf hi;obtain rfl:i=l.length:=by omega
   rw [zgY];unfold zbr;rw [if_neg (by simp),List.take_length]
  | succ f ih=>
   intro i hf hi;have et:=zpv (l:=l) (i:=(i:Int)) (by omega) (by omega)
   rw [Int.toNat_natCast,show ((i:Int)+1).toNat=i+1 from by omega] at et
   rw [zgY];unfold zbr;rw [if_pos (by simp;omega),zag (by omega)]
   refine zaH (zoA (h2 _ (zfv (by omega) (by omega)))) (G_to (by unfold room;simp;omega) (G_to (by unfold fits;omega) ?_))
   have:=ih (i+1) (by omega) (by omega)
   rw [et] at this;exact this
 unfold ziW;exact key _ 0 rfl (by omega)
def stp (N:List (List Int)) (q a:Int):Int:=ix (ix N q) a
def wlk (N:List (List Int)) (q:Int) (w:List Int):Int:=w.foldl (stp N) q
structure Tab (L:Int) (N:List (List Int)):Prop where
 row:∀ r∈N,(r.length:Int)=L
 to:∀ r∈N,∀ q∈r,0<=q/\q < N.length
theorem Tab.stpb {L:Int} {N:List (List Int)} (h:Tab L N) {q a:Int} (q0:0<=q) (q1:q < N.length) (a0:0<=a) (a1:a < L):0<=stp N q a/\stp N q a < N.length:=by
 have h1:=zfv q0 q1;have h2:=h.row _ h1;exact h.to _ h1 _ (zfv a0 (by omega))
theorem Tab.rowlen {L:Int} {N:List (List Int)} (h:Tab L N) {q:Int} (q0:0<=q) (q1:q < N.length):((ix N q).length:Int)=L:=h.row _ (zfv q0 q1)
theorem Tab.wlkb {L:Int} {N:List (List Int)} (h:Tab L N):∀ {w:List Int} {q:Int},0<=q->q < N.length->(∀ a∈w,0<=a/\a < L)->0<=wlk N q w/\wlk N q w < N.length
 | [],q,q0,q1,_=>⟨q0,q1⟩
 | a::w,q,q0,q1,hw=>by
  have:=h.stpb q0 q1 (hw a (by simp)).1 (hw a (by simp)).2
  exact Tab.wlkb h (q:=stp N q a) (w:=w) this.1 this.2 (fun b hb=>hw b (by simp [hb]))
theorem znT {d:Int×Int×List (List Int)×List Int×Unit} {L:Int} (h:Tab L d.2.2.1) {w:List Int} (hw:∀ a∈w,0<=a/\a < L) (hl:w.length<=17592186044416) {q:Int} (q0:0<=q) (q1:q < d.2.2.1.length):znS d q w=some (wlk d.2.2.1 q w):=by
 have key:∀ (n:Nat) (t q:Int),(w.length - t).toNat=n->0<=t->t<=w.length->0<=q->q < d.2.2.1.length->zgb d w q t=some (wlk d.2.2.1 q (w.drop t.toNat)):=by
  intro n
  induction n with
  | zero=>
   intro t q hn h0 h1 q0 q1;rw [zhZ];unfold zbN
   (try dsimp only);(repeat' first | (with_reducible refine G_to ?_ ?_;focus (first | omega | (unfold fits;omega) | (unfold room;(try simp only [List.length_append,List.length_cons,List.length_nil]);omega))) | (with_reducible refine both_to ?_ ?_) | (with_reducible refine za4 ?_) | (with_reducible refine za3 ?_) | (with_reducible refine zby (fun _ => ?_) (fun _ => ?_)))<;>try (exfalso;omega)
   rw [List.drop_of_length_le (by omega)];rfl
  | succ n ih=>
   intro t q hn h0 h1 q0 q1;have ha:=hw _ (zfv h0 (by omega:t < w.length))
   have hr:=h.rowlen q0 q1;have hs:=h.stpb q0 q1 ha.1 ha.2;rw [zhZ];unfold zbN
   (try dsimp only);(repeat' first | (with_reducible refine G_to ?_ ?_;focus (first | omega | (unfold fits;omega) | (unfold room;(try simp only [List.length_append,List.length_cons,List.length_nil]);omega))) | (with_reducible refine both_to ?_ ?_) | (with_reducible refine za4 ?_) | (with_reducible refine za3 ?_) | (with_reducible refine zby (fun _ => ?_) (fun _ => ?_)))<;>try (exfalso;omega)
   rw [zt3 h0 (by omega)]
   exact ih (t+1) _ (by omega) (by omega) (by omega) hs.1 hs.2
 exact key _ 0 q rfl (by omega) (by omega) q0 q1
theorem zmo {letters:Int} {w:List Int} (hL:1<=letters/\letters<=4) (hw:w.length<=(60:Int)):∀ (n:Nat) (i:Int),0<=i->i<=w.length->(w.length - i).toNat=n->(∀ j:Int,0<=j->j < i->0<=ix w j/\ix w j < letters)->zi9 letters w i=some (mayE letters w):=by
 intro n
 induction n with
 | zero=>
  intro i h0 h1 hn h;rw [zkg];unfold zcy
  (try dsimp only);(repeat' first | (with_reducible refine G_to ?_ ?_;focus (first | omega | (unfold fits;omega) | (unfold room;(try simp only [List.length_append,List.length_cons,List.length_nil]);omega))) | (with_reducible refine both_to ?_ ?_) | (with_reducible refine za4 ?_) | (with_reducible refine za3 ?_) | (with_reducible refine zby (fun _ => ?_) (fun _ => ?_)))<;>try (exfalso;omega)
  ·rw [zt6 hL hw (fun j a b=>h j a (by omega))]
 | succ n ih=>
  intro i h0 h1 hn h;rw [zkg];unfold zcy
  (try dsimp only);(repeat' first | (with_reducible refine G_to ?_ ?_;focus (first | omega | (unfold fits;omega) | (unfold room;(try simp only [List.length_append,List.length_cons,List.length_nil]);omega))) | (with_reducible refine both_to ?_ ?_) | (with_reducible refine za4 ?_) | (with_reducible refine za3 ?_) | (with_reducible refine zby (fun _ => ?_) (fun _ => ?_)))<;>try (exfalso;omega)
  ·rw [zqb hL hw (i:=i) (by omega) (by omega)]
  ·rw [zqb hL hw (i:=i) (by omega) (by omega)]
  ·exact ih _ (by omega) (by omega) (by omega) (zqs h (by omega))
theorem zpz {letters:Int} {w:List Int}:zqh letters w=some (mayE letters w):=by
 unfold zqh
 (try dsimp only);(repeat' first | (with_reducible refine G_to ?_ ?_;focus (first | omega | (unfold fits;omega) | (unfold room;(try simp only [List.length_append,List.length_cons,List.length_nil]);omega))) | (with_reducible refine both_to ?_ ?_) | (with_reducible refine za4 ?_) | (with_reducible refine za3 ?_) | (with_reducible refine zby (fun _ => ?_) (fun _ => ?_)))<;>try (exfalso;omega)
 ·rw [zmI (by omega)]
 ·rw [zmI (by omega)]
 ·rw [zsa (by omega) (by omega)]
 ·exact zmo (by omega) (by omega) _ 0 (by omega) (by omega) rfl (fun j a b=>by omega)
abbrev Dt:=Int×Int×(List (List Int))×(List Int)×Unit
def DBig (mx:Int) (d:Dt):Prop:=d.2.2.1.length < 1\/mx < d.2.2.1.length
def DRag (d:Dt):Prop := ¬ (d.2.2.2.1.length:Int)=d.2.2.1.length\/∃ r∈d.2.2.1,¬ (r.length:Int)=d.1
def DOut (mb:Int->Prop) (d:Dt):Prop:=(d.2.1 < 0\/(d.2.2.1.length:Int)<=d.2.1)\/(∃ r∈d.2.2.1,∃ q∈r,q < 0\/(d.2.2.1.length:Int)<=q)\/(∃ s∈d.2.2.2.1,mb s)
open Classical in
noncomputable def detE (mx:Int) (mb:Int->Prop) (d:Dt):Int:=if d.1 < 1\/4 < d.1 then 2 else if DBig mx d then 1 else if DRag d then 3 else if DOut mb d then 2 else 0
structure DOk (mx:Int) (mb:Int->Prop) (d:Dt):Prop where
 let1:1<=d.1/\d.1<=4
 n1:1<=d.2.2.1.length/\(d.2.2.1.length:Int)<=mx
 st:0<=d.2.1/\d.2.1 < d.2.2.1.length
 mkl:(d.2.2.2.1.length:Int)=d.2.2.1.length
 mok:∀ s∈d.2.2.2.1,¬ mb s
 tab:Tab d.1 d.2.2.1
theorem zrx {mx:Int} {mb:Int->Prop} {d:Dt} (h:detE mx mb d=0):DOk mx mb d:=by
 unfold detE at h;by_cases c1:d.1 < 1\/4 < d.1
 ·rw [if_pos c1] at h;omega
 rw [if_neg c1] at h;by_cases c2:DBig mx d
 ·rw [if_pos c2] at h;omega
 rw [if_neg c2] at h;by_cases c3:DRag d
 ·rw [if_pos c3] at h;omega
 rw [if_neg c3] at h;by_cases c4:DOut mb d
 ·rw [if_pos c4] at h;omega
 unfold DBig at c2;unfold DRag at c3;unfold DOut at c4;refine ⟨by omega,by omega,?_,?_,fun s hs hm=>c4 (.inr (.inr ⟨s,hs,hm⟩)),fun r hr => ?_,fun r hr q hq => ?_⟩
 ·have : ¬ (d.2.1 < 0\/(d.2.2.1.length:Int)<=d.2.1):=fun h=>c4 (.inl h)
  omega
 ·exact Decidable.not_not.1 fun h=>c3 (.inl h)
 ·by_cases e:(r.length:Int)=d.1
  ·exact e
  ·exact absurd (.inr ⟨r,hr,e⟩) c3
 ·have : ¬ (q < 0\/(d.2.2.1.length:Int)<=q):=fun h=>c4 (.inr (.inl ⟨r,hr,q,hq,h⟩))
  omega
theorem ztM {mx:Int} {mb:Int->Prop} {d:Dt} (h:DOk mx mb d):detE mx mb d=0:=by
 have h1:=h.let1;have h2:=h.n1;have h3:=h.st;have h4:=h.mkl;unfold detE;rw [if_neg (by omega),if_neg (by unfold DBig;omega),if_neg,if_neg]
 ·rintro (hh | ⟨r,hr,q,hq,hh⟩ | ⟨s,hs,hh⟩)
  ·omega
  ·have:=h.tab.to r hr q hq;omega
  ·exact h.mok s hs hh
 ·rintro (hh | ⟨r,hr,hh⟩)
  ·exact hh h4
  ·exact hh (h.tab.row r hr)
theorem zoJ {d:Dt} (h1:(d.2.2.1.length:Int)<=17592186044416) (h2:(d.2.2.2.1.length:Int)<=17592186044416) (h3:∀ r∈d.2.2.1,(r.length:Int)<=17592186044416):zlS d d=some true:=by
 have k14:∀ (i:Int) {r9},0<=i->i < d.2.2.1.length->∀ (n:Nat) (k:Int),((ix d.2.2.1 i).length - k).toNat=n->0<=k->k<=(ix d.2.2.1 i).length->zcD d d i r9 k=r9 (i+1):=by
  intro i r9 i0 i1 n;have hr:=h3 _ (zfv i0 i1)
  induction n with
  | zero=>
   intro k hn k0 k1;rw [zh3];unfold zbO;rw [zag (by omega),if_neg (by simp;omega)]
   exact G_to (by unfold fits;omega) rfl
  | succ n ih=>
   intro k hn k0 k1;rw [zh3];unfold zbO;rw [zag (by omega),if_pos (by simp;omega),if_neg (by simp)]
   exact G_to (by omega) (G_to (by omega) (G_to (by omega) (G_to (by omega) (G_to (by unfold fits;omega) (ih (k+1) (by omega) (by omega) (by omega))))))
 have k9:∀ (n:Nat) (i:Int),(d.2.2.1.length - i).toNat=n->0<=i->i<=d.2.2.1.length->zhD d d i=some true:=by
  intro n
  induction n with
  | zero=>
   intro i hn i0 i1;rw [zjr];unfold zb5;rw [if_neg (by simp;omega)]
  | succ n ih=>
   intro i hn i0 i1;rw [zjr];unfold zb5;rw [if_pos (by simp;omega),if_neg (by simp)]
   refine G_to (by omega) (G_to (by omega) ?_)
   rw [k14 i i0 (by omega) _ 0 rfl (by omega) (by omega)]
   exact ih (i+1) (by omega) (by omega) (by omega)
 have k4:∀ (n:Nat) (i:Int),(d.2.2.2.1.length - i).toNat=n->0<=i->i<=d.2.2.2.1.length->zhC d d i=some true:=by
  intro n
  induction n with
  | zero=>
   intro i hn i0 i1;rw [zjq];unfold zb4;rw [if_neg (by simp;omega)]
   exact k9 _ 0 rfl (by omega) (by omega)
  | succ n ih=>
   intro i hn i0 i1;rw [zjq];unfold zb4;rw [if_pos (by simp;omega),if_neg (by simp)]
   exact G_to (by omega) (G_to (by omega) (G_to (by unfold fits;omega) (ih (i+1) (by omega) (by omega) (by omega))))
 unfold zlS;rw [if_neg (by simp),if_neg (by simp),if_neg (by simp),if_neg (by simp)]
 exact k4 _ 0 rfl (by omega) (by omega)
abbrev badD (s:Int):Prop := ¬ s=0 /\ ¬ s=1
theorem zuL (m:Int):zf2 (zef m) (badD m):=by
 unfold zef;by_cases h:m=0
 ·rw [if_neg (by simpa using h)];exact zf2.of (by simp [h])
 ·rw [if_pos (by simpa using h)];exact zf2.dec (by simp [h])
theorem zfe {d:Dt}:zgH d=some (detE 3000 badD d):=by
 unfold zgH detE;by_cases c1:d.1 < 1\/4 < d.1
 ·rw [if_pos c1]
  (try dsimp only);(repeat' first | (with_reducible refine G_to ?_ ?_;focus (first | omega | (unfold fits;omega) | (unfold room;(try simp only [List.length_append,List.length_cons,List.length_nil]);omega))) | (with_reducible refine both_to ?_ ?_) | (with_reducible refine za4 ?_) | (with_reducible refine za3 ?_) | (with_reducible refine zby (fun _ => ?_) (fun _ => ?_)))<;>try (exfalso;omega)
  all_goals rfl
 rw [if_neg c1];by_cases c2:DBig 3000 d
 ·rw [if_pos c2];unfold DBig at c2
  (try dsimp only);(repeat' first | (with_reducible refine G_to ?_ ?_;focus (first | omega | (unfold fits;omega) | (unfold room;(try simp only [List.length_append,List.length_cons,List.length_nil]);omega))) | (with_reducible refine both_to ?_ ?_) | (with_reducible refine za4 ?_) | (with_reducible refine za3 ?_) | (with_reducible refine zby (fun _ => ?_) (fun _ => ?_)))<;>try (exfalso;omega)
  all_goals rfl
 rw [if_neg c2];unfold DBig at c2;by_cases c3:(d.2.2.2.1.length:Int)=d.2.2.1.length
 case neg=>
  rw [if_pos (show DRag d from .inl c3)]
  (try dsimp only);(repeat' first | (with_reducible refine G_to ?_ ?_;focus (first | omega | (unfold fits;omega) | (unfold room;(try simp only [List.length_append,List.length_cons,List.length_nil]);omega))) | (with_reducible refine both_to ?_ ?_) | (with_reducible refine za4 ?_) | (with_reducible refine za3 ?_) | (with_reducible refine zby (fun _ => ?_) (fun _ => ?_)))<;>try (exfalso;omega)
  all_goals rfl
 (try dsimp only);(repeat' first | (with_reducible refine G_to ?_ ?_;focus (first | omega | (unfold fits;omega) | (unfold room;(try simp only [List.length_append,List.length_cons,List.length_nil]);omega))) | (with_reducible refine both_to ?_ ?_) | (with_reducible refine za4 ?_) | (with_reducible refine za3 ?_) | (with_reducible refine zby (fun _ => ?_) (fun _ => ?_)))<;>try (exfalso;omega)
 have k1:zf2 (zcI d.2.2.1 d) (∃ r∈d.2.2.1,¬ (r.length:Int)=d.1):=zfc (f:=fun r=>zib r d) (zgF d.2.2.1 d) (by omega) (fun x _=>zf2.dec Iff.rfl)
 have nn:∀ q t:Int,zf2 (zdr q t) (q < 0\/t<=q):=fun q t=>by
  unfold zdr;by_cases h:q < 0
  ·rw [if_pos (decide_eq_true h)];exact zf2.of (by simp [h])
  ·rw [if_neg (by simpa using h)];exact zf2.dec (by omega)
 have k2:∀ r∈d.2.2.1,r.length<=1000->zf2 (zb7 r (d.2.2.1.length:Int)) (∃ q∈r,q < 0\/(d.2.2.1.length:Int)<=q):=fun r _ hr=>zfc (f:=fun q=>zdr q (d.2.2.1.length:Int)) (zfW r (d.2.2.1.length:Int)) (by omega) (fun x _=>nn x _)
 have k4:zf2 (zb8 d.2.2.2.1) (∃ s∈d.2.2.2.1,(badD) s):=zfc (f:=fun q=>zef q) (zfY d.2.2.2.1) (by omega) (fun x _=>zuL x)
 refine k1.to (fun h=>by rw [if_pos (show DRag d from .inr h)]) (fun h => ?_)
 rw [if_neg (show ¬ DRag d from fun hh=>hh.elim (fun e=>e c3) h)]
 have hr:∀ r∈d.2.2.1,r.length<=1000:=fun r hr=>by
  by_cases e:(r.length:Int)=d.1
  ·omega
  ·exact absurd ⟨r,hr,e⟩ h
 refine (nn _ _).to (fun h=>by rw [if_pos (show DOut _ d from .inl h)]) (fun h1 => ?_)
 obtain ⟨b,hb,hb2⟩:∃ b,zb6 d.2.2.1 (d.2.2.1.length:Int)=some (b,(d.2.2.1.length:Int))/\(b=true↔∃ r∈d.2.2.1,∃ q∈r,q < 0\/(d.2.2.1.length:Int)<=q):=
  zk8 (f:=zf4) (zfU d.2.2.1) (by omega) (fun r hrm=>by
   obtain ⟨b,e,e2⟩:=k2 r hrm (hr r hrm);exact ⟨b,by unfold zf4;rw [e];rfl,e2⟩)
 rw [hb];refine zaH rfl ?_
 refine zt1 (fun h=>by rw [if_pos (show DOut _ d from .inr (.inl (hb2.1 h)))]) (fun h2 => ?_)
 refine k4.to (fun h=>by rw [if_pos (show DOut _ d from .inr (.inr h))]) (fun h3 => ?_)
 rw [if_neg (show ¬ DOut _ d from fun h=>h.elim h1 (fun h=>h.elim (fun h=>by rw [hb2.2 h] at h2;cases h2) h3))]
theorem znU {d:Dt}:zjn d=some (detE 3000 badD d):=by
 unfold zjn detE;by_cases c1:d.1 < 1\/4 < d.1
 ·rw [if_pos c1]
  (try dsimp only);(repeat' first | (with_reducible refine G_to ?_ ?_;focus (first | omega | (unfold fits;omega) | (unfold room;(try simp only [List.length_append,List.length_cons,List.length_nil]);omega))) | (with_reducible refine both_to ?_ ?_) | (with_reducible refine za4 ?_) | (with_reducible refine za3 ?_) | (with_reducible refine zby (fun _ => ?_) (fun _ => ?_)))<;>try (exfalso;omega)
  all_goals rfl
 rw [if_neg c1];by_cases c2:DBig 3000 d
 ·rw [if_pos c2];unfold DBig at c2
  (try dsimp only);(repeat' first | (with_reducible refine G_to ?_ ?_;focus (first | omega | (unfold fits;omega) | (unfold room;(try simp only [List.length_append,List.length_cons,List.length_nil]);omega))) | (with_reducible refine both_to ?_ ?_) | (with_reducible refine za4 ?_) | (with_reducible refine za3 ?_) | (with_reducible refine zby (fun _ => ?_) (fun _ => ?_)))<;>try (exfalso;omega)
  all_goals rfl
 rw [if_neg c2];unfold DBig at c2;by_cases c3:(d.2.2.2.1.length:Int)=d.2.2.1.length
 case neg=>
  rw [if_pos (show DRag d from .inl c3)]
  (try dsimp only);(repeat' first | (with_reducible refine G_to ?_ ?_;focus (first | omega | (unfold fits;omega) | (unfold room;(try simp only [List.length_append,List.length_cons,List.length_nil]);omega))) | (with_reducible refine both_to ?_ ?_) | (with_reducible refine za4 ?_) | (with_reducible refine za3 ?_) | (with_reducible refine zby (fun _ => ?_) (fun _ => ?_)))<;>try (exfalso;omega)
  all_goals rfl
 (try dsimp only);(repeat' first | (with_reducible refine G_to ?_ ?_;focus (first | omega | (unfold fits;omega) | (unfold room;(try simp only [List.length_append,List.length_cons,List.length_nil]);omega))) | (with_reducible refine both_to ?_ ?_) | (with_reducible refine za4 ?_) | (with_reducible refine za3 ?_) | (with_reducible refine zby (fun _ => ?_) (fun _ => ?_)))<;>try (exfalso;omega)
 refine zl3 (len:=(d.2.2.1.length:Int)) (bad:=fun t => ¬ ((ix d.2.2.1 t).length:Int)=d.1) (by omega) (fun t h0 h1=>⟨fun hb => ?_,fun hb => ?_⟩) (fun hh => ?_)
 ·rw [zfm];unfold zbp
  (try dsimp only);(repeat' first | (with_reducible refine G_to ?_ ?_;focus (first | omega | (unfold fits;omega) | (unfold room;(try simp only [List.length_append,List.length_cons,List.length_nil]);omega))) | (with_reducible refine both_to ?_ ?_) | (with_reducible refine za4 ?_) | (with_reducible refine za3 ?_) | (with_reducible refine zby (fun _ => ?_) (fun _ => ?_)))<;>try (exfalso;omega)
  rw [if_pos (show DRag d from .inr (zlj.2 ⟨t,by omega,by omega,hb⟩))]
 ·conv=>lhs;rw [zfm];unfold zbp
  (try dsimp only);(repeat' first | (with_reducible refine G_to ?_ ?_;focus (first | omega | (unfold fits;omega) | (unfold room;(try simp only [List.length_append,List.length_cons,List.length_nil]);omega))) | (with_reducible refine both_to ?_ ?_) | (with_reducible refine za4 ?_) | (with_reducible refine za3 ?_) | (with_reducible refine zby (fun _ => ?_) (fun _ => ?_)))<;>try (exfalso;omega)
  all_goals first | rfl | (exfalso;exact hb ‹_›) | (exfalso;exact absurd ‹_› hb)
 rw [if_neg (show ¬ DRag d from fun h=>h.elim (fun e=>e c3) (fun h=>by obtain ⟨i,i0,i1,i2⟩:=zlj.1 h;exact hh i i0 i1 i2))]
 rw [zfm];unfold zbp;by_cases c4:d.2.1 < 0\/(d.2.2.1.length:Int)<=d.2.1
 ·rw [if_pos (show DOut _ d from .inl c4)]
  (try dsimp only);(repeat' first | (with_reducible refine G_to ?_ ?_;focus (first | omega | (unfold fits;omega) | (unfold room;(try simp only [List.length_append,List.length_cons,List.length_nil]);omega))) | (with_reducible refine both_to ?_ ?_) | (with_reducible refine za4 ?_) | (with_reducible refine za3 ?_) | (with_reducible refine zby (fun _ => ?_) (fun _ => ?_)))<;>try (exfalso;omega)
  all_goals rfl
 (try dsimp only);(repeat' first | (with_reducible refine G_to ?_ ?_;focus (first | omega | (unfold fits;omega) | (unfold room;(try simp only [List.length_append,List.length_cons,List.length_nil]);omega))) | (with_reducible refine both_to ?_ ?_) | (with_reducible refine za4 ?_) | (with_reducible refine za3 ?_) | (with_reducible refine zby (fun _ => ?_) (fun _ => ?_)))<;>try (exfalso;omega)
 have hlen:∀ t:Int,0<=t->t < d.2.2.1.length->((ix d.2.2.1 t).length:Int)=d.1:=fun t a b=>Decidable.not_not.1 (hh t a b)
 refine zl3 (len:=(d.2.2.1.length:Int)) (bad:=fun t=>∃ q∈ix d.2.2.1 t,q < 0\/(d.2.2.1.length:Int)<=q) (by omega) (fun t h0 h1=>⟨fun hb => ?_,fun hb => ?_⟩) (fun hh2 => ?_)
 ·rw [zen];unfold zbh
  (try dsimp only);(repeat' first | (with_reducible refine G_to ?_ ?_;focus (first | omega | (unfold fits;omega) | (unfold room;(try simp only [List.length_append,List.length_cons,List.length_nil]);omega))) | (with_reducible refine both_to ?_ ?_) | (with_reducible refine za4 ?_) | (with_reducible refine za3 ?_) | (with_reducible refine zby (fun _ => ?_) (fun _ => ?_)))<;>try (exfalso;omega)
  have hlt:=hlen t h0 h1;refine zl3 (len:=d.1) (bad:=fun a=>ix (ix d.2.2.1 t) a < 0\/(d.2.2.1.length:Int)<=ix (ix d.2.2.1 t) a) (by omega) (fun a a0 a1=>⟨fun hb => ?_,fun hb => ?_⟩) (fun hh3 => ?_)
  ·rw [zc4];unfold za6
   (try dsimp only);(repeat' first | (with_reducible refine G_to ?_ ?_;focus (first | omega | (unfold fits;omega) | (unfold room;(try simp only [List.length_append,List.length_cons,List.length_nil]);omega))) | (with_reducible refine both_to ?_ ?_) | (with_reducible refine za4 ?_) | (with_reducible refine za3 ?_) | (with_reducible refine zby (fun _ => ?_) (fun _ => ?_)))<;>try (exfalso;omega)
   all_goals rw [if_pos (show DOut _ d from .inr (.inl (zlj.2 ⟨t,h0,h1,zlj.2 ⟨a,a0,by omega,hb⟩⟩)))]
  ·conv=>lhs;rw [zc4];unfold za6
   (try dsimp only);(repeat' first | (with_reducible refine G_to ?_ ?_;focus (first | omega | (unfold fits;omega) | (unfold room;(try simp only [List.length_append,List.length_cons,List.length_nil]);omega))) | (with_reducible refine both_to ?_ ?_) | (with_reducible refine za4 ?_) | (with_reducible refine za3 ?_) | (with_reducible refine zby (fun _ => ?_) (fun _ => ?_)))<;>try (exfalso;omega)
   all_goals rfl
  ·exfalso;obtain ⟨i,i0,i1,i2⟩:=zlj.1 hb;exact hh3 i i0 (by omega) i2
 ·conv=>lhs;rw [zen];unfold zbh
  (try dsimp only);(repeat' first | (with_reducible refine G_to ?_ ?_;focus (first | omega | (unfold fits;omega) | (unfold room;(try simp only [List.length_append,List.length_cons,List.length_nil]);omega))) | (with_reducible refine both_to ?_ ?_) | (with_reducible refine za4 ?_) | (with_reducible refine za3 ?_) | (with_reducible refine zby (fun _ => ?_) (fun _ => ?_)))<;>try (exfalso;omega)
  have hlt:=hlen t h0 h1;refine zl3 (len:=d.1) (bad:=fun a=>ix (ix d.2.2.1 t) a < 0\/(d.2.2.1.length:Int)<=ix (ix d.2.2.1 t) a) (by omega) (fun a a0 a1=>⟨fun hb' => ?_,fun hb => ?_⟩) (fun hh3 => ?_)
  ·exfalso;exact hb (zlj.2 ⟨a,a0,by omega,hb'⟩)
  ·conv=>lhs;rw [zc4];unfold za6
   (try dsimp only);(repeat' first | (with_reducible refine G_to ?_ ?_;focus (first | omega | (unfold fits;omega) | (unfold room;(try simp only [List.length_append,List.length_cons,List.length_nil]);omega))) | (with_reducible refine both_to ?_ ?_) | (with_reducible refine za4 ?_) | (with_reducible refine za3 ?_) | (with_reducible refine zby (fun _ => ?_) (fun _ => ?_)))<;>try (exfalso;omega)
   all_goals rfl
  ·rw [zc4];unfold za6
   (try dsimp only);(repeat' first | (with_reducible refine G_to ?_ ?_;focus (first | omega | (unfold fits;omega) | (unfold room;(try simp only [List.length_append,List.length_cons,List.length_nil]);omega))) | (with_reducible refine both_to ?_ ?_) | (with_reducible refine za4 ?_) | (with_reducible refine za3 ?_) | (with_reducible refine zby (fun _ => ?_) (fun _ => ?_)))<;>try (exfalso;omega)
   all_goals rfl
 have hnr : ¬ ∃ r∈d.2.2.1,∃ q∈r,q < 0\/(d.2.2.1.length:Int)<=q:=fun h=>by
  obtain ⟨t,h0,h1,hb⟩:=zlj.1 h;exact hh2 t h0 h1 hb
 rw [zen];unfold zbh
 (try dsimp only);(repeat' first | (with_reducible refine G_to ?_ ?_;focus (first | omega | (unfold fits;omega) | (unfold room;(try simp only [List.length_append,List.length_cons,List.length_nil]);omega))) | (with_reducible refine both_to ?_ ?_) | (with_reducible refine za4 ?_) | (with_reducible refine za3 ?_) | (with_reducible refine zby (fun _ => ?_) (fun _ => ?_)))<;>try (exfalso;omega)
 refine zl3 (len:=(d.2.2.1.length:Int)) (bad:=fun t=>(badD) (ix d.2.2.2.1 t)) (by omega) (fun t h0 h1=>⟨fun hb => ?_,fun hb => ?_⟩) (fun hh3 => ?_)
 ·rw [if_pos (show DOut _ d from .inr (.inr (zlj.2 ⟨t,h0,by omega,hb⟩)))]
  rw [zep];unfold zbi
  try dsimp only at hb
  (try dsimp only);(repeat' first | (with_reducible refine G_to ?_ ?_;focus (first | omega | (unfold fits;omega) | (unfold room;(try simp only [List.length_append,List.length_cons,List.length_nil]);omega))) | (with_reducible refine both_to ?_ ?_) | (with_reducible refine za4 ?_) | (with_reducible refine za3 ?_) | (with_reducible refine zby (fun _ => ?_) (fun _ => ?_)))<;>try (exfalso;omega)
  all_goals first | rfl | (exfalso;exact hb.1 ‹_›) | (exfalso;exact hb.2 ‹_›)
 ·conv=>lhs;rw [zep];unfold zbi
  try dsimp only at hb
  (try dsimp only);(repeat' first | (with_reducible refine G_to ?_ ?_;focus (first | omega | (unfold fits;omega) | (unfold room;(try simp only [List.length_append,List.length_cons,List.length_nil]);omega))) | (with_reducible refine both_to ?_ ?_) | (with_reducible refine za4 ?_) | (with_reducible refine za3 ?_) | (with_reducible refine zby (fun _ => ?_) (fun _ => ?_)))<;>try (exfalso;omega)
  all_goals first | rfl | (exfalso;exact hb ⟨‹_›,‹_›⟩)
 rw [if_neg (show ¬ DOut _ d from fun h=>h.elim c4 (fun h=>h.elim hnr (fun h=>by
  obtain ⟨t,h0,h1,hb⟩:=zlj.1 h;exact hh3 t h0 (by omega) hb)))]
 rw [zep];unfold zbi
 (try dsimp only);(repeat' first | (with_reducible refine G_to ?_ ?_;focus (first | omega | (unfold fits;omega) | (unfold room;(try simp only [List.length_append,List.length_cons,List.length_nil]);omega))) | (with_reducible refine both_to ?_ ?_) | (with_reducible refine za4 ?_) | (with_reducible refine za3 ?_) | (with_reducible refine zby (fun _ => ?_) (fun _ => ?_)))<;>try (exfalso;omega)
 all_goals rfl
abbrev ND:=Int×Int×Unit
abbrev NR:=Int×Int×(List Int)×Unit
abbrev L5:=List NR
def nowT (c:List UInt8) (i:Int):Int:=if i < c.length then bAt c i else 0
theorem zoZ {n:Nat} (h:n < 9223372036854775808):IntKind.wrap .i64 (n:Int)=n:=by
 unfold IntKind.wrap;simp [IntKind.bits,IntKind.signed];omega
theorem wr64 {x:Int} (h0:0<=x) (h1:x<=1000):IntKind.wrap .i64 x=x:=by
 obtain ⟨n,rfl⟩:=Int.eq_ofNat_of_zero_le h0;exact zoZ (by omega)
theorem wr8 {x:Int} (h0:0<=x) (h1:x<=255):IntKind.wrap .u8 x=x:=by
 obtain ⟨n,rfl⟩:=Int.eq_ofNat_of_zero_le h0;unfold IntKind.wrap;simp [IntKind.bits,IntKind.signed];omega
def begT (x:Int):Bool:=decide (x=48) || decide (x=49) || (decide (97<=x) && decide (x<=100)) || decide (x=40)
section
variable {c:List UInt8} {i s f a:Int} {l:L5}
theorem zlX (h0:0<=i):zbn (c,(i,(s,(l,((f,(a,())),())))))=some (nowT c i):=by
 unfold zbn nowT;by_cases h:(c.length:Int)<=i
 ·have : ¬ i < (c.length:Int):=by omega
  simp [h,this]
 ·have h2:i < c.length:=by omega
  simp only [h,decide_false,Bool.false_eq_true,if_false,if_pos h2];exact zag ⟨h0,h2⟩
theorem r_ok:zbX (c,(i,(s,(l,((f,(a,())),())))))=some (decide (f=0)):=rfl
theorem zpD (h:l.length<=100000) {k v:Int} {K:List Int}:zbe (k,(v,(K,()))) c i s f a l=some ((l.length:Int),c,i,s,l++[(k,v,K,())],f,a):=by
 unfold zbe;rw [zag (zue (by simp;omega))]
 have e:(((l++[(k,v,K,())]).length:Int) - 1)=(l.length:Int):=by simp
 simp only [e];rw [zag (ztW (by omega) (by omega))]
end
mutual
def tsz:Tr ND->Nat
 | .nil=>0
 | .mk _ K=>tszL K+1
def tszL:List (Tr ND)->Nat
 | []=>0
 | t::K=>tsz t+tszL K
end
def wfN (x:NR):Prop:=(x.1=0/\x.2.2.1=[])\/(x.1=1/\x.2.2.1=[])\/(x.1=2/\0<=x.2.1/\x.2.1<=3/\x.2.2.1=[])\/(x.1=3/\x.2.2.1≠[])\/(x.1=4/\x.2.2.1≠[])\/(x.1=5/\x.2.2.1.length=1)
mutual
inductive Stn (l:L5):Tr ND->Int->Prop
 | mk (k:Int) (K:List (Tr ND)) (h0:0<=k) (h1:k < l.length) (hw:wfN (ix l k)) (ha:StnL l K (ix l k).2.2.1):Stn l (Tr.mk ((ix l k).1,(ix l k).2.1,()) K) k
inductive StnL (l:L5):List (Tr ND)->List Int->Prop
 | nil:StnL l [] []
 | cons (t:Tr ND) (k:Int) (K:List (Tr ND)) (ks:List Int) (h:Stn l t k) (hs:StnL l K ks):StnL l (t::K) (k::ks)
end
mutual
theorem Stn.mono {l m:L5} {t:Tr ND} {k:Int}:Stn l t k->Stn (l++m) t k
 | .mk k K h0 h1 hw ha=>by
  have e:ix (l++m) k=ix l k:=zmm h0 h1;have ih:=ha.mono (m:=m);rw [<- e] at hw ih ⊢;exact .mk k K h0 (by simp;omega) hw ih
theorem StnL.mono {l m:L5} {K:List (Tr ND)} {ks:List Int}:StnL l K ks->StnL (l++m) K ks
 | .nil => .nil
 | .cons t k K ks h hs => .cons t k K ks h.mono hs.mono
end
theorem StnL.snoc {l:L5} {K:List (Tr ND)} {ks:List Int} {t:Tr ND} {k:Int} (h:StnL l K ks) (h2:Stn l t k):StnL l (K++[t]) (ks++[k]):=by
 match h with
 | .nil=>exact .cons _ _ _ _ h2 .nil
 | .cons t' k' K ks h hs=>exact .cons _ _ _ _ h (hs.snoc h2)
theorem StnL.len {l:L5} {K:List (Tr ND)} {ks:List Int} (h:StnL l K ks):K.length=ks.length:=by
 match h with
 | .nil=>rfl
 | .cons _ _ _ _ _ hs=>simp [hs.len]
theorem Stn.put {l:L5} {x:NR} {K:List (Tr ND)} (hw:wfN x) (ha:StnL l K x.2.2.1):Stn (l++[x]) (Tr.mk (x.1,x.2.1,()) K) l.length:=by
 have e:ix (l++[x]) (l.length:Int)=x:=zml;have:=Stn.mk (l:=l++[x]) l.length K (by omega) (by simp;omega) (by rw [e];exact hw) (by rw [e];exact ha.mono)
 rw [e] at this;exact this
mutual
inductive Sg:Int->Tr ND->L5->Prop
 | mk (o a b:Int) (K:List (Tr ND)) (ks:List Int) (z:L5) (hw:wfN (a,b,ks,())) (h:SgL o K ks z):Sg o (Tr.mk (a,b,()) K) (z++[(a,b,ks,())])
inductive SgL:Int->List (Tr ND)->List Int->L5->Prop
 | nil (o:Int):SgL o [] [] []
 | cons (o:Int) (t:Tr ND) (K:List (Tr ND)) (ks:List Int) (z y:L5) (h:Sg o t z) (hs:SgL (o+z.length) K ks y):SgL o (t::K) ((o+z.length - 1)::ks) (z++y)
end
theorem SgL.one {o:Int} {t:Tr ND} {z:L5} (h:Sg o t z):SgL o [t] [o+z.length - 1] z:=by
 have:=SgL.cons o t [] [] z [] h (.nil _)
 rwa [List.append_nil] at this
theorem SgL.snoc {o:Int} {K:List (Tr ND)} {ks:List Int} {y:L5} {t:Tr ND} {z:L5} (h:SgL o K ks y) (h2:Sg (o+y.length) t z):SgL o (K++[t]) (ks++[o+y.length+z.length - 1]) (y++z):=by
 match h with
 | .nil o=>
  have e:o+(([]:L5).length:Int)=o:=by simp
  rw [e] at h2 ⊢;exact SgL.one h2
 | .cons o t' K ks z' y' h hs=>
  have e:o+((z'++y').length:Int)=o+z'.length+y'.length:=by rw [List.length_append];omega
  rw [e] at h2 ⊢;rw [List.append_assoc];exact .cons o t' (K++[t]) _ z' (y'++z) h (hs.snoc h2)
theorem SgL.len {o:Int} {K:List (Tr ND)} {ks:List Int} {y:L5} (h:SgL o K ks y):K.length=ks.length:=by
 match h with
 | .nil _=>rfl
 | .cons _ _ _ _ _ _ _ hs=>simp [hs.len]
mutual
theorem Sg.sz {o:Int} {t:Tr ND} {z:L5} (h:Sg o t z):tsz t=z.length:=by
 match h with
 | .mk o a b K ks z hw h=>rw [tsz,h.sz,List.length_append,List.length_singleton]
theorem SgL.sz {o:Int} {K:List (Tr ND)} {ks:List Int} {y:L5} (h:SgL o K ks y):tszL K=y.length:=by
 match h with
 | .nil _=>rfl
 | .cons o t K ks z y h hs=>rw [tszL,h.sz,hs.sz,List.length_append]
end
mutual
theorem Sg.stn {l:L5} {t:Tr ND} {z:L5} (h:Sg l.length t z):Stn (l++z) t ((l.length:Int)+z.length - 1):=by
 match h with
 | .mk _ a b K ks z hw h=>
  have e:(l.length:Int)+((z++[(a,b,ks,())]).length:Int) - 1=((l++z).length:Int):=by rw [List.length_append,List.length_append,List.length_singleton];omega
  rw [e,<- List.append_assoc];exact Stn.put (x:=(a,b,ks,())) hw h.stn
theorem SgL.stn {l:L5} {K:List (Tr ND)} {ks:List Int} {y:L5} (h:SgL l.length K ks y):StnL (l++y) K ks:=by
 match h with
 | .nil _=>exact .nil
 | .cons _ t K ks z y h hs=>
  have e:(l.length:Int)+(z.length:Int)=((l++z).length:Int):=by rw [List.length_append];omega
  have h2:=hs;rw [e] at h2;rw [<- List.append_assoc];exact .cons _ _ _ _ h.stn.mono h2.stn
end
theorem zpG {c:List UInt8} {i s f a:Int} {K:List Int} {l:L5} (h0:0<=i):
  zaM zaq (zaF zaq) c i s f a K l=zav zaq c i s f a K l (zaF zaq) (decide (f=0)) (begT (nowT c i)):=by
 unfold zaM;rw [zlX h0];simp only [Option.bind_some];rw [r_ok];simp only [Option.bind_some];unfold begT;by_cases h1:nowT c i=48
 ·simp [h1]
 ·by_cases h2:nowT c i=49
  ·simp [h2]
  ·by_cases h3:97<=nowT c i
   ·by_cases h4:nowT c i<=100
    ·simp [h1,h2,h3,h4]
    ·simp [h1,h2,h3,h4]
   ·simp [h1,h2,h3]
inductive St (P:List Int->Prop):List Int->Prop
 | nil:St P []
 | cons (u w:List Int) (hu:P u) (hw:St P w):St P (u++w)
mutual
def Lg:Tr ND->List Int->Prop
 | .nil=>fun _=>False
 | .mk v K=>fun w=>if v.1=1 then w=[] else if v.1=2 then w=[v.2.1] else if v.1=3 then LgA K w else if v.1=4 then LgS K w else if v.1=5 then LgT K w else False
def LgA:List (Tr ND)->List Int->Prop
 | []=>fun _=>False
 | k::K=>fun w=>Lg k w\/LgA K w
def LgS:List (Tr ND)->List Int->Prop
 | []=>fun w=>w=[]
 | k::K=>fun w=>∃ u x,w=u++x/\Lg k u/\LgS K x
def LgT:List (Tr ND)->List Int->Prop
 | []=>fun w=>w=[]
 | k::_=>fun w=>St (Lg k) w
end
theorem zkX:∀ (K:List (Tr ND)) (w:List Int),LgA K w↔∃ k∈K,Lg k w
 | [],w=>by simp [LgA]
 | k::K,w=>by
  show (Lg k w\/LgA K w)↔_;rw [zkX K w];simp
theorem ziy {a b:Int} {K:List (Tr ND)} {x:List Int}:Lg (Tr.mk (a,b,()) K) x=(if a=1 then x=[] else if a=2 then x=[b] else if a=3 then LgA K x else if a=4 then LgS K x else if a=5 then LgT K x else False):=by rw [Lg]
theorem zix:∀ (K:List (Tr ND)) (k:Tr ND) (w:List Int),LgS (K++[k]) w↔∃ u x,w=u++x/\LgS K u/\Lg k x
 | [],k,w=>by
  rw [List.nil_append,LgS];constructor
  ·rintro ⟨u,x,rfl,h,h2⟩;have h2:x=[]:=h2;subst h2;exact ⟨[],u,by simp,rfl,h⟩
  ·rintro ⟨u,x,rfl,h,h2⟩;have h:u=[]:=h;subst h;exact ⟨x,[],by simp,h2,rfl⟩
 | a::K,k,w=>by
  rw [List.cons_append,LgS];constructor
  ·rintro ⟨u,x,rfl,h,h2⟩;obtain ⟨u2,x2,rfl,h3,h4⟩:=(zix K k x).1 h2;exact ⟨u++u2,x2,by simp,⟨u,u2,rfl,h,h3⟩,h4⟩
  ·rintro ⟨u,x,rfl,⟨u2,x2,rfl,h3,h4⟩,h5⟩;exact ⟨u2,x2++x,by simp,h3,(zix K k _).2 ⟨x2,x,rfl,h4,h5⟩⟩
theorem ztu {α:Type} {f g:α->Nat}:∀ {U:List α},(∀ x∈U,f x<=g x)->(U.map f).sum<=(U.map g).sum
 | [],_=>Nat.le_refl _
 | a::U,h=>by
  have h1:=h a (by simp)
  have h2:=ztu (U:=U) (fun x hx=>h x (by simp [hx]))
  simp only [List.map_cons,List.sum_cons];omega
theorem ztv {α:Type} {f g:α->Nat}:∀ {U:List α},(∀ x∈U,f x<=g x)->(∃ x∈U,f x < g x)->(U.map f).sum < (U.map g).sum
 | [],_,h=>by obtain ⟨x,hx,_⟩:=h;cases hx
 | a::U,h,⟨x,hx,hlt⟩=>by
  have h1:=h a (by simp)
  have h2:=ztu (U:=U) (fun x hx=>h x (by simp [hx]))
  simp only [List.map_cons,List.sum_cons];rcases List.mem_cons.1 hx with rfl | hx
  ·omega
  ·have:=ztv (U:=U) (fun x hx=>h x (by simp [hx])) ⟨x,hx,hlt⟩
   omega
theorem StnL.get {l:L5}:∀ {K:List (Tr ND)} {ks:List Int},StnL l K ks->∀ j:Int,0<=j->j < K.length->Stn l (ix K j) (ix ks j)
 | _,_,.nil,j,h0,h1=>by simp at h1;omega
 | _,_,.cons t k K ks h hs,j,h0,h1=>by
  by_cases e:j=0
  ·subst e;exact h
  ·obtain ⟨i,rfl⟩:∃ i,j=i+1:=⟨j - 1,by omega⟩
   have:=hs.get i (by omega) (by rw [List.length_cons] at h1;omega)
   have e1:ix (t::K) (i+1)=ix K i:=by rw [zj8 (by omega)];congr 1;omega
   have e2:ix (k::ks) (i+1)=ix ks i:=by rw [zj8 (by omega)];congr 1;omega
   rw [e1,e2];exact this
theorem zqo:∀ {K:List (Tr ND)} {t:Tr ND},t∈K->tsz t<=tszL K
 | k::K,t,h=>by
  rw [tszL];rcases List.mem_cons.1 h with rfl | h
  ·omega
  ·have:=zqo h;omega
theorem zn0:∀ (K:List (Tr ND)),(∀ t∈K,1<=tsz t)->K.length<=tszL K
 | [],_=>Nat.le_refl _
 | k::K,h=>by
  rw [tszL,List.length_cons];have:=h k (by simp)
  have:=zn0 K (fun t ht=>h t (by simp [ht]))
  omega
theorem Stn.pos {l:L5} {t:Tr ND} {k:Int} (h:Stn l t k):1<=tsz t:=by
 cases h with
 | mk k K h0 h1 hw ha=>rw [tsz];omega
theorem StnL.pos {l:L5}:∀ {K:List (Tr ND)} {ks:List Int},StnL l K ks->∀ t∈K,1<=tsz t
 | _,_,.nil,t,h=>by cases h
 | _,_,.cons t k K ks h hs,x,hx=>by
  rcases List.mem_cons.1 hx with rfl | hx
  ·exact h.pos
  ·exact hs.pos x hx
theorem ztB {P:List Int->Prop} {u x:List Int} (h:St P u) (hx:P x):St P (u++x):=by
 induction h with
 | nil=>have:=St.cons x [] hx .nil;rw [List.append_nil] at this;exact this
 | cons a b ha hb ih=>rw [List.append_assoc];exact .cons a _ ha ih
section
variable {l:L5} {w:List Int}
def sub (w:List Int) (i j:Nat):List Int:=(w.drop i).take (j - i)
theorem zpN {i m j:Nat} (h1:i<=m) (h2:m<=j):sub w i m++sub w m j=sub w i j:=by
 unfold sub;have e:j - i=(m - i)+(j - m):=by omega
 rw [e,List.take_add,List.drop_drop,show i+(m - i)=m by omega]
theorem zoR {i j:Nat} (h:i<=j) (hj:j<=w.length) {u x:List Int} (e:sub w i j=u++x):i+u.length<=j/\u=sub w i (i+u.length)/\x=sub w (i+u.length) j:=by
 have hl:(sub w i j).length=j - i:=by unfold sub;rw [List.length_take,List.length_drop];omega
 have hl2:=hl;rw [e,List.length_append] at hl2;have h1:i+u.length<=j:=by omega
 have h3:=zpN (w:=w) (i:=i) (m:=i+u.length) (j:=j) (by omega) h1
 rw [e] at h3;have hlu:(sub w i (i+u.length)).length=u.length:=by unfold sub;rw [List.length_take,List.length_drop];omega
 obtain ⟨a,b⟩:=List.append_inj h3 hlu;exact ⟨h1,a.symm,b.symm⟩
theorem sub_self {i:Nat}:sub w i i=[]:=by unfold sub;simp
def En (w:List Int) (P:List Int->Prop) (f:List Bool) (j:Nat):Prop:=∃ i,i<=j/\ix f (i:Int)=true/\P (sub w i j)
def EOut (w:List Int) (P:List Int->Prop) (f out:List Bool):Prop:=out.length=w.length+1/\∀ j:Nat,j<=w.length->(ix out (j:Int)=true↔En w P f j)
theorem zsH {f:List Bool}:f.take (List.replicate ((f.length:Int)).toNat (false:Bool)).length++(List.replicate ((f.length:Int)).toNat (false:Bool)).drop f.length=f:=by simp
theorem zsK (hw:w.length<=100) {k:Int} (h2:(ix l k).2.1=(ix l k).2.1) {f:List Bool} (hf:f.length=w.length+1):∃ out,zea l k w f 0 (List.replicate ((f.length:Int)).toNat (false:Bool))=some out/\EOut w (fun x=>x=[(ix l k).2.1]) f out:=by
 have key:∀ (m i:Nat) (out:List Bool),w.length - i=m->i<=w.length->out.length=w.length+1->(∀ j:Nat,j<=w.length->(ix out (j:Int)=true↔j<=i/\En w (fun x=>x=[(ix l k).2.1]) f j))->
   ∃ out',zea l k w f (i:Int) out=some out'/\EOut w (fun x=>x=[(ix l k).2.1]) f out':=by
  intro m
  induction m with
  | zero=>
   intro i out hm hi hl h;refine ⟨out,?_,hl,fun j hj => ?_⟩
   ·rw [zjk];unfold zb3;rw [if_neg (by simp;omega)]
    rfl
   ·rw [h j hj];exact ⟨fun h=>h.2,fun h=>⟨by omega,h⟩⟩
  | succ m ih=>
   intro i out hm hi hl h;have hE:En w (fun x=>x=[(ix l k).2.1]) f (i+1)↔ix f (i:Int)=true/\ix w (i:Int)=(ix l k).2.1:=by
    have e1:∀ i',i'<=i+1->sub w i' (i+1)=[(ix l k).2.1]->i'=i:=fun i' h1 h2=>by
     have:=congrArg List.length h2;unfold sub at this;rw [List.length_take,List.length_drop,List.length_singleton] at this;omega
    have e2:sub w i (i+1)=[ix w (i:Int)]:=by
     have h3:i < w.length:=by omega
     unfold sub;rw [zpu (l:=w) (i:=(i:Int)) (by omega) (by omega),List.drop_eq_getElem_cons h3,show i+1 - i=0+1 by omega,List.take_succ_cons,List.take_zero]
     rfl
    constructor
    ·rintro ⟨i',h1,h2,h3⟩;obtain rfl:=e1 i' h1 h3;have h3:sub w i' (i'+1)=_:=h3;rw [e2] at h3;exact ⟨h2,by simpa using h3⟩
    ·rintro ⟨h1,h2⟩;exact ⟨i,by omega,h1,by show sub w i (i+1)=_;rw [e2,h2]⟩
   have st:∀ b:Bool,(b=true↔ix f (i:Int)=true/\ix w (i:Int)=(ix l k).2.1)->∃ out',zea l k w f ((i:Int)+1) (out.set ((i:Int)+1).toNat b)=some out'/\EOut w (fun x=>x=[(ix l k).2.1]) f out':=fun b hb=>by
    refine ih (i+1) _ (by omega) (by omega) (by rw [List.length_set];exact hl) (fun j hj => ?_)
    by_cases c:j=i+1
    ·subst c;rw [show ((i:Int)+1).toNat=(((i+1:Nat):Int)).toNat by omega,zbU (by omega) (by rw [hl];omega),hb,hE]
     exact ⟨fun h=>⟨by omega,h⟩,fun h=>h.2⟩
    ·rw [zcf (by omega) (by omega) (by omega),h j hj]
     exact ⟨fun h=>⟨by omega,h.2⟩,fun h=>⟨by omega,h.2⟩⟩
   rw [zjk];unfold zb3;rw [if_pos (by simp;omega),zag (by unfold fits;omega),zag (by omega)]
   by_cases c:ix f (i:Int)=true
   ·rw [if_pos c,zag (by omega),zag (by omega),zag (by omega),zag (by unfold fits;omega)]
    exact st _ (by simp [c])
   ·rw [if_neg c,zag (by omega),zag (by omega),zag (by unfold fits;omega)]
    exact st _ (by simp [c])
 refine key _ 0 _ rfl (by omega) (by simp;omega) (fun j hj => ?_)
 rw [zdF (by omega) (by omega)]
 constructor
 ·intro h;cases h
 ·rintro ⟨h1,i,h2,h3,h4⟩;obtain rfl:j=0:=by omega
  obtain rfl:i=0:=by omega
  have h4:sub w 0 0=_:=h4;rw [sub_self] at h4;cases h4
theorem zsI {j:Int} (hj:0<=j/\j<=100000) {r13} {y:List Bool} (hy:y.length<=1000):∀ (m i:Nat) (out:List Bool),y.length - i=m->i<=y.length->out.length=y.length->
  ∃ out',zb2 j r13 y (i:Int) out=r13 (j+1) out'/\out'.length=y.length/\∀ q:Int,0<=q->q < y.length->(ix out' q=true↔ix out q=true\/((i:Int)<=q/\ix y q=true)):=by
 intro m
 induction m with
 | zero=>
  intro i out hm hi hl;refine ⟨out,?_,hl,fun q q0 q1=>⟨.inl,fun h=>h.elim id (fun h=>by omega)⟩⟩
  rw [zhT];unfold zbI;rw [if_neg (by simp;omega)]
  exact G_to (by unfold fits;omega) rfl
 | succ m ih=>
  intro i out hm hi hl;have st:∀ b:Bool,(b=true↔ix out (i:Int)=true\/ix y (i:Int)=true)->∃ out',zb2 j r13 y ((i:Int)+1) (out.set ((i:Int)).toNat b)=r13 (j+1) out'/\out'.length=y.length/\∀ q:Int,0<=q->q < y.length->(ix out' q=true↔ix out q=true\/((i:Int)<=q/\ix y q=true)):=fun b hb=>by
   obtain ⟨out',e1,e2,e3⟩:=ih (i+1) (out.set ((i:Int)).toNat b) (by omega) (by omega) (by rw [List.length_set];exact hl)
   refine ⟨out',e1,e2,fun q q0 q1 => ?_⟩
   rw [e3 q q0 q1];by_cases c:q=i
   ·subst c;rw [zbU (by omega) (by omega),hb]
    constructor
    ·rintro (h | ⟨h,_⟩)
     ·exact h.imp id (fun h=>⟨by omega,h⟩)
     ·omega
    ·rintro (h | ⟨_,h⟩)
     ·exact .inl (.inl h)
     ·exact .inl (.inr h)
   ·rw [zcf (by omega) q0 (by omega)]
    exact or_congr Iff.rfl (and_congr (by omega) Iff.rfl)
  rw [zhT];unfold zbI;rw [if_pos (by simp;omega),zag (by omega),zag (by omega)]
  by_cases c:ix out (i:Int)=true
  ·rw [if_pos c,zag (by omega),zag (by omega),zag (by unfold fits;omega)]
   exact st true (by simp [c])
  ·rw [if_neg c,zag (by omega),zag (by omega),zag (by omega),zag (by omega),zag (by unfold fits;omega)]
   exact st (ix y (i:Int)) (by simp [c])
theorem zsJ {r29} {y:List Bool} (hy:y.length<=1000):∀ (m i:Nat) (again:Bool) (out:List Bool),y.length - i=m->i<=y.length->out.length=y.length->
  ∃ out' again',zbL r29 y again (i:Int) out=r29 again' out'/\out'.length=y.length/\(∀ q:Int,0<=q->q < y.length->(ix out' q=true↔ix out q=true\/((i:Int)<=q/\ix y q=true)))/\
   (again'=true↔again=true\/∃ q:Int,(i:Int)<=q/\q < y.length/\ix y q=true/\ix out q=false):=by
 intro m
 induction m with
 | zero=>
  intro i again out hm hi hl;refine ⟨out,again,?_,hl,fun q q0 q1=>⟨.inl,fun h=>h.elim id (fun h=>by omega)⟩,⟨.inl,fun h=>h.elim id (fun ⟨q,a,b,_⟩=>by omega)⟩⟩
  rw [zhW];unfold zbM;rw [if_neg (by simp;omega)]
 | succ m ih=>
  intro i again out hm hi hl;have st:∀ b ag:Bool,(b=true↔ix out (i:Int)=true\/ix y (i:Int)=true)->(ag=true↔again=true\/(ix y (i:Int)=true/\ix out (i:Int)=false))->∃ out' again',zbL r29 y ag ((i:Int)+1) (out.set ((i:Int)).toNat b)=r29 again' out'/\out'.length=y.length/\(∀ q:Int,0<=q->q < y.length->(ix out' q=true↔ix out q=true\/((i:Int)<=q/\ix y q=true)))/\
   (again'=true↔again=true\/∃ q:Int,(i:Int)<=q/\q < y.length/\ix y q=true/\ix out q=false):=fun b ag hb hag=>by
   obtain ⟨out',ag',e1,e2,e3,e4⟩:=ih (i+1) ag (out.set ((i:Int)).toNat b) (by omega) (by omega) (by rw [List.length_set];exact hl)
   refine ⟨out',ag',e1,e2,fun q q0 q1 => ?_,?_⟩
   ·rw [e3 q q0 q1];by_cases c:q=i
    ·subst c;rw [zbU (by omega) (by omega),hb]
     constructor
     ·rintro (h | ⟨h,_⟩)
      ·exact h.imp id (fun h=>⟨by omega,h⟩)
      ·omega
     ·rintro (h | ⟨_,h⟩)
      ·exact .inl (.inl h)
      ·exact .inl (.inr h)
    ·rw [zcf (by omega) q0 (by omega)]
     exact or_congr Iff.rfl (and_congr (by omega) Iff.rfl)
   ·rw [e4,hag];constructor
    ·rintro ((h | ⟨h1,h2⟩) | ⟨q,q0,q1,q2,q3⟩)
     ·exact .inl h
     ·exact .inr ⟨i,by omega,by omega,h1,h2⟩
     ·rw [zcf (by omega) (by omega) (by omega)] at q3
      exact .inr ⟨q,by omega,q1,q2,q3⟩
    ·rintro (h | ⟨q,q0,q1,q2,q3⟩)
     ·exact .inl (.inl h)
     ·by_cases c:q=i
      ·subst c;exact .inl (.inr ⟨q2,q3⟩)
      ·refine .inr ⟨q,by omega,q1,q2,?_⟩
       rw [zcf (by omega) (by omega) (by omega)];exact q3
  have J:∀ ag:Bool,(ag=true↔again=true\/(ix y (i:Int)=true/\ix out (i:Int)=false))->∃ out' again',zb0 y (i:Int) out (zbL r29 y) ag=r29 again' out'/\out'.length=y.length/\(∀ q:Int,0<=q->q < y.length->(ix out' q=true↔ix out q=true\/((i:Int)<=q/\ix y q=true)))/\
   (again'=true↔again=true\/∃ q:Int,(i:Int)<=q/\q < y.length/\ix y q=true/\ix out q=false):=fun ag hag=>by
   unfold zb0;rw [zag (by omega),zag (by omega)]
   by_cases c:ix out (i:Int)=true
   ·rw [if_pos c,zag (by omega),zag (by omega),zag (by unfold fits;omega)]
    exact st true ag (by simp [c]) hag
   ·rw [if_neg c,zag (by omega),zag (by omega),zag (by omega),zag (by omega),zag (by unfold fits;omega)]
    exact st (ix y (i:Int)) ag (by simp [c]) hag
  rw [zhW];unfold zbM;rw [if_pos (by simp;omega)]
  by_cases ca:again=true
  ·rw [if_pos ca];exact J true (by simp [ca])
  ·rw [if_neg ca,zag (by omega),zag (by omega)]
   by_cases cy:ix y (i:Int)=true
   ·rw [if_pos cy,zag (by omega),zag (by omega)]
    exact J _ (by simp [ca,cy])
   ·rw [if_neg cy];exact J false (by simp [ca,cy])
theorem zrA (hw:w.length<=100) (hlen:l.length<=100000):∀ (n:Nat) (t:Tr ND) (k:Int) (f:List Bool),n<=100000->tsz t<=n->Stn l t k->f.length=w.length+1->∃ out,zem l k w f=some out/\EOut w (Lg t) f out:=by
 intro n
 induction n with
 | zero=>
  intro t k f hn0 hn hs hf
  cases hs with
  | mk k K h0 h1 hw ha=>rw [tsz] at hn;omega
 | succ n ih=>
  intro t k f hn0 hn hs hf
  cases hs with
  | mk k K h0 h1 hwf ha=>
  have hKl:=ha.len;have hkn:∀ j:Int,0<=j->j < K.length->tsz (ix K j)<=n:=fun j j0 j1=>by
   have:=zqo (zfv j0 j1);rw [tsz] at hn;omega
  rw [zqU];unfold zfJ;rw [zag ⟨h0,h1⟩,zag (by unfold mkOK;omega),zsH]
  by_cases c1:(ix l k).1=1
  ·rw [if_pos (by simpa using c1)]
   refine ⟨f,rfl,hf,fun j hj => ?_⟩
   have e:∀ x,Lg (Tr.mk ((ix l k).1,(ix l k).2.1,()) K) x↔x=[]:=fun x=>by rw [ziy,if_pos c1]
   constructor
   ·intro h;exact ⟨j,Nat.le_refl _,h,by rw [sub_self,e]⟩
   ·rintro ⟨i,h1,h2,h3⟩;rw [e] at h3;have:=congrArg List.length h3;unfold sub at this;rw [List.length_take,List.length_drop,List.length_nil] at this;obtain rfl:i=j:=by omega
    exact h2
  rw [if_neg (by simpa using c1)]
  by_cases c2:(ix l k).1=2
  ·rw [if_pos (by simpa using c2)]
   obtain ⟨out,o1,o2⟩:=zsK (l:=l) hw (k:=k) rfl hf;have e:Lg (Tr.mk ((ix l k).1,(ix l k).2.1,()) K)=fun x=>x=[(ix l k).2.1]:=by funext x;rw [ziy,if_neg c1,if_pos c2]
   exact ⟨out,o1,by rw [e];exact o2⟩
  rw [if_neg (by simpa using c2)]
  by_cases c3:(ix l k).1=3
  ·rw [if_pos (by simpa using c3)]
   have e:∀ x,Lg (Tr.mk ((ix l k).1,(ix l k).2.1,()) K) x↔∃ q∈K,Lg q x:=fun x=>by rw [ziy,if_neg c1,if_neg c2,if_pos c3,zkX]
   have key:∀ (m j:Nat) (out:List Bool),K.length - j=m->j<=K.length->out.length=w.length+1->(∀ q:Nat,q<=w.length->(ix out (q:Int)=true↔∃ t∈K.take j,En w (Lg t) f q))->
     ∃ out',zb1 zem l k w f (j:Int) out=some out'/\EOut w (Lg (Tr.mk ((ix l k).1,(ix l k).2.1,()) K)) f out':=by
    intro m
    induction m with
    | zero=>
     intro j out hm hj hl h;obtain rfl:j=K.length:=by omega
     rw [List.take_length] at h;refine ⟨out,?_,hl,fun q hq => ?_⟩
     ·rw [zhS];unfold zbH;rw [if_neg (by simp;omega)]
      rfl
     ·rw [h q hq];constructor
      ·rintro ⟨t,ht,i,i1,i2,i3⟩;exact ⟨i,i1,i2,(e _).2 ⟨t,ht,i3⟩⟩
      ·rintro ⟨i,i1,i2,i3⟩;obtain ⟨t,ht,i4⟩:=(e _).1 i3;exact ⟨t,ht,i,i1,i2,i4⟩
    | succ m ihm=>
     intro j out hm hj hl h;obtain ⟨y,y1,y2,y3⟩:=ih _ _ f (by omega) (hkn (j:Int) (by omega) (by omega)) (ha.get (j:Int) (by omega) (by omega)) hf
     have hjj:(j:Int)<=100000:=by
      have:tszL K<=n:=by rw [tsz] at hn;omega
      have:=zn0 K ha.pos;omega
     obtain ⟨out',e1,e2,e3⟩:=zsI (j:=(j:Int)) ⟨by omega,hjj⟩ (r13:=zb1 zem l k w f) (y:=y) (by omega) _ 0 out rfl (by omega) (by omega)
     have et:=zpv (l:=K) (i:=(j:Int)) (by omega) (by omega)
     rw [Int.toNat_natCast,show ((j:Int)+1).toNat=j+1 from by omega] at et
     obtain ⟨o2,f1,f2⟩:=ihm (j+1) out' (by omega) (by omega) (by omega) (fun q hq=>by
      rw [e3 q (by omega) (by omega),h q hq,y3 q hq,et]
      constructor
      ·rintro (⟨t,ht,h⟩ | ⟨_,h⟩)
       ·exact ⟨t,List.mem_append_left _ ht,h⟩
       ·exact ⟨_,List.mem_append_right _ (List.mem_singleton.2 rfl),h⟩
      ·rintro ⟨t,ht,h⟩;rcases List.mem_append.1 ht with ht | ht
       ·exact .inl ⟨t,ht,h⟩
       ·rw [List.mem_singleton.1 ht] at h;exact .inr ⟨by omega,h⟩)
     refine ⟨o2,?_,f2⟩
     rw [zhS];unfold zbH;rw [if_pos (by simp;omega),zag (by omega)]
     exact zaH y1 (e1.trans f1)
   exact key _ 0 _ rfl (by omega) (by simp;omega) (fun q hq=>by
    rw [zdF (by omega) (by omega)]
    constructor
    ·intro h;cases h
    ·rintro ⟨t,ht,_⟩;simp at ht)
  rw [if_neg (by simpa using c3)]
  by_cases c4:(ix l k).1=4
  ·rw [if_pos (by simpa using c4)]
   have e:∀ x,Lg (Tr.mk ((ix l k).1,(ix l k).2.1,()) K) x↔LgS K x:=fun x=>by rw [ziy,if_neg c1,if_neg c2,if_neg c3,if_pos c4]
   have key:∀ (m j:Nat) (out:List Bool),K.length - j=m->j<=K.length->EOut w (LgS (K.take j)) f out->
     ∃ out',zcC zem l k w (j:Int) out=some out'/\EOut w (Lg (Tr.mk ((ix l k).1,(ix l k).2.1,()) K)) f out':=by
    intro m
    induction m with
    | zero=>
     intro j out hm hj h;obtain rfl:j=K.length:=by omega
     rw [List.take_length] at h;refine ⟨out,?_,h.1,fun q hq => ?_⟩
     ·rw [zhU];unfold zbJ;rw [if_neg (by simp;omega)]
      rfl
     ·rw [h.2 q hq];constructor
      ·rintro ⟨i,i1,i2,i3⟩;exact ⟨i,i1,i2,(e _).2 i3⟩
      ·rintro ⟨i,i1,i2,i3⟩;exact ⟨i,i1,i2,(e _).1 i3⟩
    | succ m ihm=>
     intro j out hm hj h;obtain ⟨y,y1,y2,y3⟩:=ih _ _ out (by omega) (hkn (j:Int) (by omega) (by omega)) (ha.get (j:Int) (by omega) (by omega)) h.1
     have et:=zpv (l:=K) (i:=(j:Int)) (by omega) (by omega)
     rw [Int.toNat_natCast,show ((j:Int)+1).toNat=j+1 from by omega] at et
     obtain ⟨o2,f1,f2⟩:=ihm (j+1) y (by omega) (by omega) ⟨y2,fun q hq=>by
      rw [y3 q hq];constructor
      ·rintro ⟨i,i1,i2,i3⟩;obtain ⟨i0,j1,j2,j3⟩:=(h.2 i (by omega)).1 i2
       refine ⟨i0,by omega,j2,?_⟩
       rw [et,zix];exact ⟨_,_,(zpN j1 i1).symm,j3,i3⟩
      ·rintro ⟨i0,j1,j2,j3⟩;rw [et,zix] at j3;obtain ⟨u,x,eq,k1,k2⟩:=j3;obtain ⟨s1,s2,s3⟩:=zoR j1 hq eq;exact ⟨i0+u.length,s1,(h.2 _ (by omega)).2 ⟨i0,by omega,j2,by rw [<- s2];exact k1⟩,by rw [<- s3];exact k2⟩⟩
     have hjj:(j:Int)<=100000:=by
      have:tszL K<=n:=by rw [tsz] at hn;omega
      have:=zn0 K ha.pos;omega
     refine ⟨o2,?_,f2⟩
     rw [zhU];unfold zbJ;rw [if_pos (by simp;omega),zag (by omega)]
     exact zaH y1 (G_to (by unfold fits;omega) f1)
   exact key _ 0 f rfl (by omega) ⟨hf,fun q hq=>by
    constructor
    ·intro h;exact ⟨q,Nat.le_refl _,h,sub_self⟩
    ·rintro ⟨i,i1,i2,i3⟩;have i3:sub w i q=[]:=i3;have:=congrArg List.length i3;unfold sub at this;rw [List.length_take,List.length_drop,List.length_nil] at this;obtain rfl:i=q:=by omega
     exact i2⟩
  rw [if_neg (by simpa using c4)]
  by_cases c5:(ix l k).1=5
  ·rw [if_pos (by simpa using c5)]
   have hk1:(ix l k).2.2.1.length=1:=by
    unfold wfN at hwf;omega
   obtain ⟨t0,rfl⟩:∃ t0,K=[t0]:=by
    match K,hKl with
    | [t0],_=>exact ⟨t0,rfl⟩
    | [],h=>simp at h;omega
    | _::_::_,h=>simp at h;omega
   have e:∀ x,Lg (Tr.mk ((ix l k).1,(ix l k).2.1,()) [t0]) x↔St (Lg t0) x:=fun x=>by rw [ziy,if_neg c1,if_neg c2,if_neg c3,if_neg c4,if_pos c5];rfl
   have key:∀ (m:Nat) (out:List Bool),((List.range (w.length+1)).map (fun q:Nat=>if ix out (q:Int)=true then 0 else 1)).sum=m->out.length=w.length+1->(∀ q:Nat,q<=w.length->ix f (q:Int)=true->ix out (q:Int)=true)->(∀ q:Nat,q<=w.length->ix out (q:Int)=true->En w (St (Lg t0)) f q)->
     ∃ out',zbs zem l k w true out=some out'/\EOut w (Lg (Tr.mk ((ix l k).1,(ix l k).2.1,()) [t0])) f out':=by
    intro m
    induction m using Nat.strongRecOn with
    | ind m ihm=>
     intro out hm hl hlo hup;obtain ⟨y,y1,y2,y3⟩:=ih _ _ out (by omega) (hkn 0 (by omega) (by simp)) (ha.get 0 (by omega) (by simp)) hl
     have y3:∀ j:Nat,j<=w.length->(ix y (j:Int)=true↔En w (Lg t0) out j):=y3;obtain ⟨out',ag,e1,e2,e3,e4⟩:=zsJ (r29:=zbs zem l k w) (y:=y) (by omega) _ 0 false out rfl (by omega) (by omega)
     have hup':∀ q:Nat,q<=w.length->ix out' (q:Int)=true->En w (St (Lg t0)) f q:=fun q hq h=>by
      rcases (e3 q (by omega) (by omega)).1 h with h | ⟨_,h⟩
      ·exact hup q hq h
      ·obtain ⟨i,i1,i2,i3⟩:=(y3 q hq).1 h;obtain ⟨i0,j1,j2,j3⟩:=hup i (by omega) i2
       refine ⟨i0,by omega,j2,?_⟩
       rw [<- zpN j1 i1];exact ztB j3 i3
     have st:zbs zem l k w true out=zbs zem l k w ag out':=by
      conv=>lhs;rw [zhV];unfold zbK
      rw [if_pos rfl,zag (by omega)]
      exact zaH y1 e1
     cases ag with
     | true=>
      obtain ⟨q,q0,q1,q2,q3⟩:=(e4.1 rfl).resolve_left (by simp)
      have hlt:((List.range (w.length+1)).map (fun q:Nat=>if ix out' (q:Int)=true then 0 else 1)).sum < m:=by
       rw [<- hm];refine ztv (fun x hx => ?_) ⟨q.toNat,List.mem_range.2 (by omega),?_⟩
       ·have hx:=List.mem_range.1 hx;by_cases c:ix out (x:Int)=true
        ·rw [if_pos ((e3 x (by omega) (by omega)).2 (.inl c))];omega
        ·rw [if_neg c];split<;>omega
       ·have eq:((q.toNat:Nat):Int)=q:=by omega
        rw [eq,if_pos ((e3 q (by omega) (by omega)).2 (.inr ⟨by omega,q2⟩)),q3]
        simp
      obtain ⟨o2,f1,f2⟩:=ihm _ hlt out' rfl (by omega) (fun q hq h=>(e3 q (by omega) (by omega)).2 (.inl (hlo q hq h))) hup'
      exact ⟨o2,st.trans f1,f2⟩
     | false=>
      refine ⟨out',st.trans ?_,by omega,fun q hq => ?_⟩
      ·rw [zhV];unfold zbK;rw [if_neg (by simp)]
       rfl
      ·have hno:∀ q:Nat,q<=w.length->ix y (q:Int)=true->ix out (q:Int)=true:=fun q hq h=>by
        cases hc:ix out (q:Int) with
        | true=>rfl
        | false=>
         have:=e4.2 (.inr ⟨q,by omega,by omega,h,hc⟩)
         cases this
       constructor
       ·intro h;obtain ⟨i,i1,i2,i3⟩:=hup' q hq h;exact ⟨i,i1,i2,(e _).2 i3⟩
       ·rintro ⟨i,i1,i2,i3⟩;refine (e3 q (by omega) (by omega)).2 (.inl ?_)
        have i3:=(e _).1 i3;have cl:∀ x,St (Lg t0) x->∀ i:Nat,i<=q->x=sub w i q->ix out (i:Int)=true->ix out (q:Int)=true:=by
         intro x hx
         induction hx with
         | nil=>
          intro i hi hx h;have:=congrArg List.length hx;unfold sub at this;rw [List.length_take,List.length_drop,List.length_nil] at this;obtain rfl:i=q:=by omega
          exact h
         | cons u x hu hx ihx=>
          intro i hi hux h;obtain ⟨s1,s2,s3⟩:=zoR hi hq hux.symm;refine ihx (i+u.length) s1 s3 ?_
          exact hno _ (by omega) ((y3 _ (by omega)).2 ⟨i,by omega,h,by rw [<- s2];exact hu⟩)
        exact cl _ i3 i i1 rfl (hlo i (by omega) i2)
   exact key _ f rfl hf (fun q _ h=>h) (fun q hq h=>⟨q,Nat.le_refl _,h,by rw [sub_self];exact .nil⟩)
  rw [if_neg (by simpa using c5)]
  refine ⟨_,rfl,by simp;omega,fun j hj => ?_⟩
  rw [zdF (by omega) (by omega)]
  constructor
  ·intro h;cases h
  ·rintro ⟨i,_,_,h3⟩;rw [ziy,if_neg c1,if_neg c2,if_neg c3,if_neg c4,if_neg c5] at h3;exact h3.elim
end
def nx:List UInt8->Int
 | []=>0
 | b::_=>(b.toNat:Int)
theorem zdu (pre post:List UInt8):nowT (pre++post) (pre.length:Int)=nx post:=by
 unfold nowT
 cases post with
 | nil=>rw [if_neg (by simp)];rfl
 | cons b r=>
  rw [if_pos (by rw [List.length_append,List.length_cons];omega)]
  unfold bAt;rw [Int.toNat_natCast,List.getD_eq_getElem?_getD,List.getElem?_append_right (Nat.le_refl _)];simp [nx]
mutual
inductive PT:List UInt8->(List Int->Prop)->Nat->Prop
 | c0:PT [48] (fun _=>False) 0
 | c1:PT [49] (fun w=>w=[]) 0
 | let' (b:UInt8) (h0:97<=b.toNat) (h1:b.toNat<=100):PT [b] (fun w=>w=[(b.toNat:Int) - 97]) 0
 | grp (s:List UInt8) (P:List Int->Prop) (d:Nat) (h:WT s P d):PT (40::s++[41]) P (d+1)
inductive OT:List UInt8->(List Int->Prop)->Nat->Prop
 | part (s:List UInt8) (P:List Int->Prop) (d:Nat) (h:PT s P d):OT s P d
 | star (s:List UInt8) (P:List Int->Prop) (d:Nat) (h:PT s P d):OT (s++[42]) (St P) d
inductive RT:List UInt8->(List Int->Prop)->Nat->Prop
 | one (s:List UInt8) (P:List Int->Prop) (d:Nat) (h:OT s P d):RT s P d
 | cons (s s':List UInt8) (P Q:List Int->Prop) (d d':Nat) (h:RT s P d) (h':OT s' Q d'):RT (s++s') (fun w=>∃ u x,w=u++x/\P u/\Q x) (max d d')
inductive WT:List UInt8->(List Int->Prop)->Nat->Prop
 | row (s:List UInt8) (P:List Int->Prop) (d:Nat) (h:RT s P d):WT s P d
 | plus (s s':List UInt8) (P Q:List Int->Prop) (d d':Nat) (h:WT s P d) (h':RT s' Q d'):WT (s++43::s') (fun w=>P w\/Q w) (max d d')
end
theorem PT.begins {s:List UInt8} {P:List Int->Prop} {d:Nat} (h:PT s P d) (post:List UInt8):begT (nx (s++post))=true/\1<=s.length:=by
 cases h with
 | c0=>exact ⟨rfl,Nat.le_refl _⟩
 | c1=>exact ⟨rfl,Nat.le_refl _⟩
 | let' b h0 h1=>
  refine ⟨?_,Nat.le_refl _⟩
  show begT (b.toNat:Int)=true;unfold begT;have a1:(97:Int)<=(b.toNat:Int):=by omega
  have a2:(b.toNat:Int)<=100:=by omega
  simp [a1,a2]
 | grp s P d h=>exact ⟨rfl,by simp⟩
theorem OT.begins {s:List UInt8} {P:List Int->Prop} {d:Nat} (h:OT s P d) (post:List UInt8):begT (nx (s++post))=true/\1<=s.length:=by
 cases h with
 | part s P d h=>exact h.begins post
 | star s P d h=>rw [List.append_assoc];exact ⟨(h.begins _).1,by have:=(h.begins []).2;simp⟩
theorem RT.len {s:List UInt8} {P:List Int->Prop} {d:Nat} (h:RT s P d):1<=s.length:=by
 induction s using List.rec with
 | nil=>
  exfalso;generalize hs:([]:List UInt8)=s at h
  cases h with
  | one s P d h=>have:=(h.begins []).2;rw [<- hs] at this;simp at this
  | cons s s' P Q d d' h h'=>have:=(h'.begins []).2;have e:=congrArg List.length hs;simp at e;omega
 | cons=>simp
theorem ztF {x:Int} (h:begT x=true):x≠42/\x≠43:=by
 constructor
 ·rintro rfl;exact absurd h (by decide)
 ·rintro rfl;exact absurd h (by decide)
def PTo (s:List UInt8) (P:List Int->Prop) (d:Nat):Prop:=∀ (pre post:List UInt8) (dp:Int) (l:L5),(pre++(s++post)).length<=4000->l.length+3 * s.length<=50000->0<=dp->dp+d<=40->
 ∃ z t,zaK zaq (pre++(s++post)) pre.length dp 0 0 l=some ((l.length:Int)+z.length - 1,pre++(s++post),(pre.length:Int)+s.length,dp,l++z,0,0)/\Sg l.length t z/\z.length+2<=3 * s.length/\∀ w,Lg t w↔P w
def OTo (s:List UInt8) (P:List Int->Prop) (d:Nat):Prop:=∀ (pre post:List UInt8) (dp:Int) (l:L5),nx post≠42->(pre++(s++post)).length<=4000->l.length+3 * s.length<=50000->0<=dp->dp+d<=40->
 ∃ z t,zbd zaq (pre++(s++post)) pre.length dp 0 0 l=some ((l.length:Int)+z.length - 1,pre++(s++post),(pre.length:Int)+s.length,dp,l++z,0,0)/\Sg l.length t z/\z.length+2<=3 * s.length/\∀ w,Lg t w↔P w
def RTo (s:List UInt8) (P:List Int->Prop) (d:Nat):Prop:=∀ (pre post:List UInt8) (dp:Int) (l:L5),nx post≠42->(pre++(s++post)).length<=4000->l.length+3 * s.length<=50000->0<=dp->dp+d<=40->
 ∃ z K ks,zbo zaq (pre++(s++post)) pre.length dp 0 0 l=zaF zaq (pre++(s++post)) ((pre.length:Int)+s.length) dp 0 0 ks (l++z)/\SgL l.length K ks z/\ks≠[]/\K.length<=s.length/\z.length+2<=3 * s.length/\∀ w,LgS K w↔P w
def WTo (s:List UInt8) (P:List Int->Prop) (d:Nat):Prop:=∀ (pre post:List UInt8) (dp:Int) (l:L5),nx post≠42->begT (nx post)=false->(pre++(s++post)).length<=4000->l.length+3 * s.length<=50000->0<=dp->dp+d<=40->
 ∃ z K ks,zaq (pre++(s++post)) pre.length dp 0 0 l=zaN zaq (pre++(s++post)) ((pre.length:Int)+s.length) dp 0 0 ks (l++z)/\SgL l.length K ks z/\ks≠[]/\K.length<=s.length/\z.length+1<=3 * s.length/\∀ w,LgA K w↔P w
theorem WTo.all {s:List UInt8} {P:List Int->Prop} {d:Nat} (h:WTo s P d) (pre post:List UInt8) (dp:Int) (l:L5) (h1:nx post≠42) (h2:begT (nx post)=false) (h3:nx post≠43) (hc:(pre++(s++post)).length<=4000) (hl:l.length+3 * s.length<=50000) (d0:0<=dp) (d1:dp+d<=40):
  ∃ z t,zaq (pre++(s++post)) pre.length dp 0 0 l=some ((l.length:Int)+z.length - 1,pre++(s++post),(pre.length:Int)+s.length,dp,l++z,0,0)/\Sg l.length t z/\z.length<=3 * s.length/\∀ w,Lg t w↔P w:=by
 obtain ⟨z,K,ks,e1,e2,e3,e4,e5,e6⟩:=h pre post dp l h1 h2 hc hl d0 d1;refine ⟨z++[(3,0,ks,())],_,?_,Sg.mk _ 3 0 K ks z (.inr (.inr (.inr (.inl ⟨rfl,e3⟩)))) e2,by rw [List.length_append,List.length_singleton];omega,fun w => ?_⟩
 ·rw [e1,zdJ];unfold zaB;have hn:nowT (pre++(s++post)) ((pre.length:Int)+s.length)=nx post:=by
   have:=zdu (pre++s) post;rw [List.append_assoc,List.length_append] at this;simpa using this
  rw [zlX (by omega),hn]
  simp only [Option.bind_some];rw [r_ok];simp only [Option.bind_some,decide_true,Bool.not_true,Bool.false_eq_true,if_false];rw [if_pos (by simpa using h3)]
  unfold zc2;rw [zpD (by rw [List.length_append];omega)]
  simp only [Option.bind_some];rw [List.length_append,List.length_append,List.length_singleton,List.append_assoc];simp;omega
 ·rw [ziy,if_neg (by decide),if_neg (by decide),if_pos rfl];exact e6 w
mutual
theorem PT.reads {s:List UInt8} {P:List Int->Prop} {d:Nat} (h:PT s P d):PTo s P d:=by
 match h with
 | .c0=>
  intro pre post dp l hc hl d0 d1;refine ⟨[(0,0,[],())],_,?_,Sg.mk _ 0 0 [] [] [] (.inl ⟨rfl,rfl⟩) (.nil _),by simp,fun w=>by rw [ziy];simp⟩
  have hn:nowT (pre++([48]++post)) (pre.length:Int)=48:=zdu pre _;have hp:(pre.length:Int)<=4000:=by rw [List.length_append] at hc;omega
  unfold zaK;rw [r_ok,zlX (by omega),hn]
  simp only [Option.bind_some,decide_true,Bool.not_true,Bool.false_eq_true,if_false,if_true];rw [zag (by unfold fits;omega),zpD (by simp at hl;omega)]
  simp
 | .c1=>
  intro pre post dp l hc hl d0 d1;refine ⟨[(1,0,[],())],_,?_,Sg.mk _ 1 0 [] [] [] (.inr (.inl ⟨rfl,rfl⟩)) (.nil _),by simp,fun w=>by rw [ziy];simp⟩
  have hn:nowT (pre++([49]++post)) (pre.length:Int)=49:=zdu pre _;have hp:(pre.length:Int)<=4000:=by rw [List.length_append] at hc;omega
  unfold zaK;rw [r_ok,zlX (by omega),hn]
  simp only [Option.bind_some,decide_true,Bool.not_true,Bool.false_eq_true,if_false,if_true,Int.reduceEq,decide_false];rw [zag (by unfold fits;omega),zpD (by simp at hl;omega)]
  simp
 | .let' b h0 h1=>
  intro pre post dp l hc hl d0 d1;refine ⟨[(2,(b.toNat:Int) - 97,[],())],_,?_,Sg.mk _ 2 ((b.toNat:Int) - 97) [] [] [] (.inr (.inr (.inl ⟨rfl,by show (0:Int)<=(b.toNat:Int) - 97;omega,by show (b.toNat:Int) - 97<=3;omega,rfl⟩))) (.nil _),by simp,fun w=>by rw [ziy,if_neg (by decide),if_pos rfl]⟩
  have hn:nowT (pre++([b]++post)) (pre.length:Int)=(b.toNat:Int):=zdu pre _;have hp:(pre.length:Int)<=4000:=by rw [List.length_append] at hc;omega
  unfold zaK;rw [r_ok,zlX (by omega),hn]
  simp only [Option.bind_some,decide_true,Bool.not_true,Bool.false_eq_true,if_false];rw [if_neg (by rw [decide_eq_true_iff];omega),if_neg (by rw [decide_eq_true_iff];omega),if_pos (by rw [decide_eq_true_iff];omega)]
  unfold zaL;rw [if_pos (by rw [decide_eq_true_iff];omega),zag (by unfold fits;omega),wr8 (by omega) (by omega),wr64 (by omega) (by omega),zpD (by simp at hl;omega)]
  simp
 | .grp s P d h=>
  intro pre post dp l hc hl d0 d1;have hr:=h.reads;have e1:pre++(40::s++[41]++post)=(pre++[40])++(s++(41::post)):=by simp
  rw [e1] at hc ⊢;have hsl:(40::s++[41]).length=s.length+2:=by simp
  rw [hsl] at hl ⊢;obtain ⟨z,t,r1,r2,r3,r4⟩:=hr.all (pre++[40]) (41::post) (dp+1) l (by show (41:Int)≠42;decide) (by rfl) (by show (41:Int)≠43;decide) hc (by omega) (by omega) (by omega)
  refine ⟨z,t,?_,r2,by omega,r4⟩
  have hp:(pre.length:Int)<=4000:=by rw [List.length_append,List.length_append] at hc;omega
  have hs:(s.length:Int)<=4000:=by rw [List.length_append,List.length_append (as:=s)] at hc;omega
  have hn:nowT ((pre++[40])++(s++(41::post))) (pre.length:Int)=40:=by
   have:=zdu pre (40::(s++(41::post)));rw [show pre++(40::(s++(41::post)))=(pre++[40])++(s++(41::post)) by simp] at this
   exact this
  have hn2:nowT ((pre++[40])++(s++(41::post))) (((pre++[40]).length:Int)+s.length)=41:=by
   have:=zdu (pre++[40]++s) (41::post);rw [List.append_assoc (pre++[40]),List.length_append (as:=pre++[40])] at this;rw [show nx (41::post)=41 from rfl] at this;simpa using this
  have hpl:(((pre++[40]).length:Nat):Int)=(pre.length:Int)+1:=by simp
  rw [hpl] at r1 hn2;unfold zaK;rw [r_ok,zlX (by omega),hn]
  simp only [Option.bind_some,decide_true,Bool.not_true,Bool.false_eq_true,if_false,if_true,Int.reduceEq,decide_false];rw [if_neg (by decide)]
  unfold zaL;rw [if_neg (by decide),if_neg (by decide),if_neg (by rw [decide_eq_true_iff];omega),zag (by unfold fits;omega),zag (by unfold fits;omega),r1]
  simp only [Option.bind_some];rw [zlX (by omega),hn2]
  simp only [Option.bind_some,not_true_eq_false,decide_false,Bool.false_eq_true,if_false];unfold zc1;rw [r_ok];simp only [Option.bind_some,decide_true,if_true];rw [zag (by unfold fits;omega),zag (by unfold fits;omega)]
  congr 2
  simp;omega
theorem OT.reads {s:List UInt8} {P:List Int->Prop} {d:Nat} (h:OT s P d):OTo s P d:=by
 match h with
 | .part s P d h=>
  have hr:=h.reads;intro pre post dp l h1 hc hl d0 d1;obtain ⟨z,t,r1,r2,r3,r4⟩:=hr pre post dp l hc hl d0 d1;refine ⟨z,t,?_,r2,r3,r4⟩
  have hn:nowT (pre++(s++post)) ((pre.length:Int)+s.length)=nx post:=by
   have:=zdu (pre++s) post;rw [List.append_assoc,List.length_append] at this;simpa using this
  unfold zbd;rw [r1];simp only [Option.bind_some];rw [zcz];unfold zaD;rw [zlX (by omega),hn]
  simp only [Option.bind_some];rw [r_ok];simp only [Option.bind_some,decide_true,Bool.not_true,Bool.false_eq_true,if_false];rw [if_pos (by simpa using h1)]
 | .star s P d h=>
  have hr:=h.reads;intro pre post dp l h1 hc hl d0 d1;rw [List.append_assoc] at hc ⊢;rw [List.length_append,List.length_singleton] at hl ⊢;obtain ⟨z,t,r1,r2,r3,r4⟩:=hr pre ([42]++post) dp l hc (by omega) d0 d1
  have hb:((l.length:Int)+z.length - 1:Int)=(l.length:Int)+z.length - 1:=rfl;have hst:=Sg.mk (l.length:Int) 5 0 [t] [(l.length:Int)+z.length - 1] z (.inr (.inr (.inr (.inr (.inr ⟨rfl,rfl⟩))))) (SgL.one r2);refine ⟨z++[(5,0,[(l.length:Int)+z.length - 1],())],_,?_,hst,by rw [List.length_append,List.length_singleton];omega,fun w => ?_⟩
  ·have hp:(pre.length:Int)+s.length<=4000:=by rw [List.length_append,List.length_append] at hc;omega
   have hn:nowT (pre++(s++([42]++post))) ((pre.length:Int)+s.length)=42:=by
    have:=zdu (pre++s) ([42]++post);rw [List.append_assoc,List.length_append,show nx ([42]++post)=42 from rfl] at this;simpa using this
   have hn2:nowT (pre++(s++([42]++post))) ((pre.length:Int)+s.length+1)=nx post:=by
    have:=zdu (pre++s++[42]) post;rw [List.append_assoc,List.append_assoc,List.length_append,List.length_append] at this;simpa using this
   unfold zbd;rw [r1];simp only [Option.bind_some];rw [zcz];unfold zaD;rw [zlX (by omega),hn]
   simp only [Option.bind_some];rw [r_ok];simp only [Option.bind_some,decide_true,Bool.not_true,Bool.false_eq_true,if_false,not_true_eq_false,decide_false];rw [zag (by unfold fits;omega),zpD (by rw [List.length_append];omega)]
   simp only [Option.bind_some];rw [zcz];unfold zaD;rw [zlX (by omega),hn2]
   simp only [Option.bind_some];rw [r_ok];simp only [Option.bind_some,decide_true,Bool.not_true,Bool.false_eq_true,if_false];rw [if_pos (by simpa using h1),List.append_assoc]
   simp;omega
  ·rw [ziy,if_neg (by decide),if_neg (by decide),if_neg (by decide),if_neg (by decide),if_pos rfl]
   show St (Lg t) w↔St P w;have:Lg t=P:=funext fun w=>propext (r4 w)
   rw [this]
theorem RT.reads {s:List UInt8} {P:List Int->Prop} {d:Nat} (h:RT s P d):RTo s P d:=by
 match h with
 | .one s P d h=>
  have hr:=h.reads;have hb:=(h.begins []).2;intro pre post dp l h1 hc hl d0 d1;obtain ⟨z,t,r1,r2,r3,r4⟩:=hr pre post dp l h1 hc hl d0 d1;refine ⟨z,[t],[(l.length:Int)+z.length - 1],?_,SgL.one r2,by simp,by simpa using hb,r3,fun w => ?_⟩
  ·unfold zbo;rw [r1];rfl
  ·show (∃ u x,w=u++x/\Lg t u/\x=[])↔P w;constructor
   ·rintro ⟨u,x,rfl,hu,rfl⟩;rw [List.append_nil];exact (r4 u).1 hu
   ·intro h;exact ⟨w,[],by simp,(r4 w).2 h,rfl⟩
 | .cons s s' P Q d d' h h'=>
  have hr:=h.reads;have hr':=h'.reads;have hb:=h'.begins;intro pre post dp l h1 hc hl d0 d1;rw [List.append_assoc] at hc ⊢;rw [List.length_append] at hl ⊢;have hbb:=(hb []).2;obtain ⟨z,K,ks,r1,r2,r3,r4,r5,r6⟩:=hr pre (s'++post) dp l (ztF (hb post).1).1 hc (by omega) d0 (by omega)
  have e1:pre++(s++(s'++post))=(pre++s)++(s'++post):=by simp
  rw [e1] at hc r1 ⊢;have hpl:(((pre++s).length:Nat):Int)=(pre.length:Int)+s.length:=by simp
  obtain ⟨y,t,q1,q2,q3,q4⟩:=hr' (pre++s) post dp (l++z) h1 hc (by rw [List.length_append];omega) d0 (by omega)
  rw [hpl] at q1;have hn:nowT ((pre++s)++(s'++post)) ((pre.length:Int)+s.length)=nx (s'++post):=by
   have:=zdu (pre++s) (s'++post)
   rwa [hpl] at this
  have hlz:(((l++z).length:Nat):Int)=(l.length:Int)+z.length:=by simp
  rw [hlz] at q1 q2;refine ⟨z++y,K++[t],ks++[(l.length:Int)+z.length+y.length - 1],?_,r2.snoc q2,by simp,by rw [List.length_append,List.length_singleton];omega,by rw [List.length_append];omega,fun w => ?_⟩
  ·have hkl:=r2.len;have hsz:s.length<=4000:=by rw [List.length_append,List.length_append] at hc;omega
   rw [r1,zcB,zpG (by omega),hn,(hb post).1]
   unfold zav;simp only [decide_true,Bool.not_true,Bool.false_eq_true,if_false];rw [q1];simp only [Option.bind_some];rw [zag (by unfold room;simp only [List.length_singleton];omega),List.append_assoc l]
   congr 1
   rw [Int.natCast_add];omega
  ·rw [zix];refine exists_congr fun u=>exists_congr fun x=>and_congr_right fun _=>and_congr (r6 u) (q4 x)
theorem WT.reads {s:List UInt8} {P:List Int->Prop} {d:Nat} (h:WT s P d):WTo s P d:=by
 match h with
 | .row s P d h=>
  have hr:=h.reads;have hsl:=h.len;intro pre post dp l h1 h2 hc hl d0 d1;obtain ⟨z,K,ks,r1,r2,r3,r4,r5,r6⟩:=hr pre post dp l h1 hc hl d0 d1;have hn:nowT (pre++(s++post)) ((pre.length:Int)+s.length)=nx post:=by
   have:=zdu (pre++s) post;rw [List.append_assoc,List.length_append] at this;simpa using this
  have hst:=Sg.mk (l.length:Int) 4 0 K ks z (.inr (.inr (.inr (.inr (.inl ⟨rfl,r3⟩))))) r2;refine ⟨z++[(4,0,ks,())],[Tr.mk (4,0,()) K],[(l.length:Int)+z.length],?_,?_,by simp,by simpa using hsl,by rw [List.length_append,List.length_singleton];omega,fun w => ?_⟩
  ·rw [zjc];unfold zbj;rw [r1,zcB,zpG (by omega),hn,h2]
   unfold zav zcu;simp only [decide_true,Bool.not_true,Bool.false_eq_true,if_false,Bool.not_false,if_true];rw [zpD (by rw [List.length_append];omega)]
   simp only [Option.bind_some];rw [List.append_assoc];congr 1
   simp
  ·have:=SgL.one hst;rw [List.length_append,List.length_singleton] at this;rw [show (l.length:Int)+((z.length+1:Nat):Int) - 1=(l.length:Int)+z.length by omega] at this
   exact this
  ·show (Lg (Tr.mk (4,0,()) K) w\/False)↔P w;rw [or_false,ziy,if_neg (by decide),if_neg (by decide),if_neg (by decide),if_pos rfl];exact r6 w
 | .plus s s' P Q d d' h h'=>
  have hr:=h.reads;have hr':=h'.reads;have hsl:=h'.len;intro pre post dp l h1 h2 hc hl d0 d1;have e1:pre++(s++43::s'++post)=pre++(s++(43::s'++post)):=by simp
  have e2:pre++(s++(43::s'++post))=(pre++s++[43])++(s'++post):=by simp
  rw [e1] at hc ⊢;have hll:(s++43::s').length=s.length+s'.length+1:=by simp;omega
  rw [hll] at hl ⊢;obtain ⟨z,K,ks,r1,r2,r3,r4,r5,r6⟩:=hr pre (43::s'++post) dp l (by show (43:Int)≠42;decide) (by rfl) hc (by omega) d0 (by omega)
  have hn:nowT (pre++(s++(43::s'++post))) ((pre.length:Int)+s.length)=43:=by
   have:=zdu (pre++s) (43::s'++post);rw [List.append_assoc,List.length_append,show nx (43::s'++post)=43 from rfl] at this;simpa using this
  rw [e2] at hc r1 hn ⊢;have hpl:(((pre++s++[43]).length:Nat):Int)=(pre.length:Int)+s.length+1:=by simp;omega
  have hlz:(((l++z).length:Nat):Int)=(l.length:Int)+z.length:=by simp
  obtain ⟨y,K',ks',q1,q2,q3,q4,q5,q6⟩:=hr' (pre++s++[43]) post dp (l++z) h1 hc (by rw [List.length_append];omega) d0 (by omega)
  rw [hpl] at q1;rw [hlz] at q2;have hn2:nowT ((pre++s++[43])++(s'++post)) ((pre.length:Int)+s.length+1+s'.length)=nx post:=by
   have:=zdu (pre++s++[43]++s') post;rw [List.append_assoc (pre++s++[43]),List.length_append (as:=pre++s++[43])] at this;rw [Int.natCast_add,hpl] at this;exact this
  have hst:=Sg.mk ((l.length:Int)+z.length) 4 0 K' ks' y (.inr (.inr (.inr (.inr (.inl ⟨rfl,q3⟩))))) q2;refine ⟨z++(y++[(4,0,ks',())]),K++[Tr.mk (4,0,()) K'],ks++[(l.length:Int)+z.length+y.length],?_,?_,by simp,by rw [List.length_append,List.length_singleton];omega,by rw [List.length_append,List.length_append,List.length_singleton];omega,fun w => ?_⟩
  ·have hkl:=r2.len;have hsz:s.length<=4000/\pre.length<=4000:=by rw [List.length_append,List.length_append,List.length_append] at hc;omega
   rw [r1,zdJ];unfold zaB;rw [zlX (by omega),hn]
   simp only [Option.bind_some];rw [r_ok];simp only [Option.bind_some,decide_true,Bool.not_true,Bool.false_eq_true,if_false,not_true_eq_false,decide_false];rw [zag (by unfold fits;omega),q1,zcB,zpG (by omega),hn2,h2]
   unfold zav zcu;simp only [decide_true,Bool.not_true,Bool.false_eq_true,if_false,Bool.not_false,if_true];rw [zpD (by rw [List.length_append,List.length_append];omega)]
   simp only [Option.bind_some];rw [zag (by unfold room;simp only [List.length_singleton];omega),List.append_assoc l,List.append_assoc l,List.append_assoc z]
   congr 1
   ·simp;omega
   ·simp;omega
  ·have:=r2.snoc hst;rw [List.length_append,List.length_singleton] at this;rw [show (l.length:Int)+z.length+((y.length+1:Nat):Int) - 1=(l.length:Int)+z.length+y.length by omega] at this
   exact this
  ·rw [zkX];constructor
   ·rintro ⟨k,hk,hkw⟩;rcases List.mem_append.1 hk with hk | hk
    ·exact .inl ((r6 w).1 ((zkX K w).2 ⟨k,hk,hkw⟩))
    ·rw [List.mem_singleton.1 hk,ziy,if_neg (by decide),if_neg (by decide),if_neg (by decide),if_pos rfl] at hkw
     exact .inr ((q6 w).1 hkw)
   ·rintro (h | h)
    ·obtain ⟨k,hk,hkw⟩:=(zkX K w).1 ((r6 w).2 h);exact ⟨k,List.mem_append_left _ hk,hkw⟩
    ·exact ⟨_,List.mem_append_right _ (List.mem_singleton.2 rfl),by rw [ziy,if_neg (by decide),if_neg (by decide),if_neg (by decide),if_pos rfl];exact (q6 w).2 h⟩
end
mutual
theorem Stn.uniq {l:L5} {t t':Tr ND} {k:Int} (h:Stn l t k) (h':Stn l t' k):t=t':=by
 match h,h' with
 | .mk _ K h0 h1 hw ha,.mk _ K' _ _ _ ha'=>rw [ha.uniq ha']
theorem StnL.uniq {l:L5} {K K':List (Tr ND)} {ks:List Int} (h:StnL l K ks) (h':StnL l K' ks):K=K':=by
 match h,h' with
 | .nil,.nil=>rfl
 | .cons t k K ks h hs,.cons t' _ K' _ h' hs'=>rw [h.uniq h',hs.uniq hs']
end
theorem WT.parse {s:List UInt8} {P:List Int->Prop} {d:Nat} (h:WT s P d) (hs:s.length<=4000) (hd:d<=40):
  ∃ l t,zkT s=some ((0,(0,())),l)/\Stn l t ((l.length:Int) - 1)/\l.length<=12000/\tsz t<=12000/\∀ w,Lg t w↔P w:=by
 obtain ⟨z,t,e1,e2,e3,e4⟩:=h.reads.all [] [] 0 [] (by decide) (by decide) (by decide) (by simpa using hs) (by simp;omega) (by omega) (by omega)
 simp only [List.nil_append,List.append_nil,List.length_nil] at e1;have e1:zaq s 0 0 0 0 []=some ((0:Int)+z.length - 1,s,(0:Int)+s.length,0,z,0,0):=e1;refine ⟨z,t,?_,?_,by omega,by rw [Sg.sz e2];omega,e4⟩
 ·unfold zkT;rw [if_neg (by rw [decide_eq_true_iff];omega),e1]
  simp only [Option.bind_some];rw [if_neg (by simp),if_neg (by simp)]
 ·have:=Sg.stn (l:=[]) e2;simpa using this
theorem WT.uniq {s:List UInt8} {P Q:List Int->Prop} {d d':Nat} (h:WT s P d) (h':WT s Q d') (hs:s.length<=4000) (hd:d<=40) (hd':d'<=40):P=Q:=by
 obtain ⟨l,t,e1,e2,_,_,e3⟩:=h.parse hs hd;obtain ⟨l',t',f1,f2,_,_,f3⟩:=h'.parse hs hd';rw [e1] at f1;injection f1 with f1
 injection f1 with _ f1
 subst f1;obtain rfl:=e2.uniq f2;exact funext fun w=>propext ((e3 w).symm.trans (f3 w))
theorem WT.of {s:List UInt8} {P Q:List Int->Prop} {d:Nat} (h:WT s P d) (e:∀ w,Q w↔P w):WT s Q d:=by
 have:Q=P:=funext fun w=>propext (e w)
 rw [this];exact h
theorem WT.app {a:List UInt8} {P:List Int->Prop} {d:Nat} (ha:WT a P d) {b:List UInt8} {Q:List Int->Prop} {d':Nat} (hb:WT b Q d'):∃ d'',d''<=max d d'/\WT (a++43::b) (fun w=>P w\/Q w) d'':=by
 match hb with
 | .row s Q d' h=>exact ⟨_,Nat.le_refl _,.plus a s P Q d d' ha h⟩
 | .plus s s' P' Q' d1 d2 h h'=>
  obtain ⟨d3,h3,h4⟩:=ha.app h;refine ⟨max d3 d2,by omega,?_⟩
  have:=WT.plus (a++43::s) s' _ Q' d3 d2 h4 h';rw [show a++43::(s++43::s')=(a++43::s)++43::s' by simp]
  exact this.of fun w=>or_assoc.symm
theorem WT.one {s:List UInt8} {P:List Int->Prop} {d:Nat} (h:WT s P d) (hs:s.length=1):PT s P d:=by
 match h with
 | .row _ _ _ (.one _ _ _ (.part _ _ _ h))=>exact h
 | .row _ _ _ (.one _ _ _ (.star s P d h))=>
  have:=(h.begins []).2;rw [List.length_append,List.length_singleton] at hs;omega
 | .row _ _ _ (.cons s s' P Q d d' h h')=>
  have h1:=h.len;have h2:=(h'.begins []).2;rw [List.length_append] at hs;omega
 | .plus s s' P Q d d' h h'=>
  have h2:=h'.len;rw [List.length_append,List.length_cons] at hs;omega
theorem PT.zero {s:List UInt8} {P:List Int->Prop} {d:Nat} (h:PT s P d) (hs:s=[48]):∀ w,¬ P w:=by
 match h with
 | .c0=>exact fun w h=>h
 | .c1=>exact absurd hs (by decide)
 | .let' b h0 h1=>
  injection hs with h2
  subst h2;exact absurd h0 (by decide)
 | .grp s P d h=>
  have:=congrArg List.length hs;simp at this
theorem PT.unit {s:List UInt8} {P:List Int->Prop} {d:Nat} (h:PT s P d) (hs:s=[49]):∀ w,P w↔w=[]:=by
 match h with
 | .c0=>exact absurd hs (by decide)
 | .c1=>exact fun w=>Iff.rfl
 | .let' b h0 h1=>
  injection hs with h2
  subst h2;exact absurd h0 (by decide)
 | .grp s P d h=>
  have:=congrArg List.length hs;simp at this
def Te (s:List UInt8) (P:List Int->Prop) (D N:Nat):Prop:=s.length<=N/\∃ d,d<=D/\WT s P d
theorem Te.mono {s:List UInt8} {P:List Int->Prop} {D N D' N':Nat} (h:Te s P D N) (hD:D<=D') (hN:N<=N'):Te s P D' N':=
 ⟨Nat.le_trans h.1 hN,let ⟨d,h1,h2⟩:=h.2;⟨d,Nat.le_trans h1 hD,h2⟩⟩
theorem Te.of {s:List UInt8} {P Q:List Int->Prop} {D N:Nat} (h:Te s P D N) (e:∀ w,Q w↔P w):Te s Q D N:=
 ⟨h.1,let ⟨d,h1,h2⟩:=h.2;⟨d,h1,h2.of e⟩⟩
theorem Te.zero {P:List Int->Prop} {D N:Nat} (h:Te [48] P D N):∀ w,¬ P w:=let ⟨_,_,h2⟩:=h.2;(h2.one rfl).zero rfl
theorem Te.unit {P:List Int->Prop} {D N:Nat} (h:Te [49] P D N):∀ w,P w↔w=[]:=let ⟨_,_,h2⟩:=h.2;(h2.one rfl).unit rfl
theorem PT.te {s:List UInt8} {P:List Int->Prop} {d D N:Nat} (h:PT s P d) (hd:d<=D) (hN:s.length<=N):Te s P D N:=⟨hN,d,hd,.row _ _ _ (.one _ _ _ (.part _ _ _ h))⟩
theorem te0 {D N:Nat} (hN:1<=N):Te [48] (fun _=>False) D N:=PT.c0.te (Nat.zero_le _) hN
theorem te1 {D N:Nat} (hN:1<=N):Te [49] (fun w=>w=[]) D N:=PT.c1.te (Nat.zero_le _) hN
theorem zoE {a b:List UInt8} {P Q:List Int->Prop} {D D' N N':Nat} (ha:Te a P D N) (hb:Te b Q D' N') (hD:D<=40) (hD':D'<=40) (hN:N<=4000) (hN':N'<=4000):∃ s,zdO a b=some s/\Te s (fun w=>P w\/Q w) (max D D') (N+N'+1):=by
 have la:=ha.1;have lb:=hb.1;unfold zdO;by_cases c1:a=[48]
 ·rw [if_pos (decide_eq_true c1)];subst c1;exact ⟨b,rfl,(hb.mono (by omega) (by omega)).of fun w=>⟨fun h=>h.resolve_left (ha.zero w),.inr⟩⟩
 rw [if_neg (by simpa using c1)]
 by_cases c2:a=b
 ·rw [if_pos (decide_eq_true c2)];subst c2;obtain ⟨d,h1,h2⟩:=ha.2;obtain ⟨d',h3,h4⟩:=hb.2;have e:=h2.uniq h4 (by omega) (by omega) (by omega)
  subst e;exact ⟨a,rfl,(hb.mono (by omega) (by omega)).of fun w=>or_self_iff⟩
 rw [if_neg (by simpa using c2)]
 by_cases c3:b=[48]
 ·rw [if_pos (decide_eq_true c3)];subst c3;exact ⟨a,rfl,(ha.mono (by omega) (by omega)).of fun w=>⟨fun h=>h.resolve_right (hb.zero w),.inl⟩⟩
 rw [if_neg (by simpa using c3)]
 obtain ⟨d,h1,h2⟩:=ha.2;obtain ⟨d',h3,h4⟩:=hb.2;obtain ⟨d'',h5,h6⟩:=h2.app h4;rw [zag (by simp only [List.length_singleton];omega),zag (by rw [List.length_append,List.length_singleton];omega)]
 refine ⟨_,rfl,by simp only [List.length_append,List.length_singleton];omega,d'',by omega,?_⟩
 rw [List.append_assoc];exact h6
theorem zgV {a:List UInt8} {P:List Int->Prop} {D N:Nat} (ha:Te a P D N) (hN:N<=4000):∃ s d,zbB a=some s/\PT s P d/\d<=D+1/\s.length<=N+2:=by
 have la:=ha.1;obtain ⟨d,h1,h2⟩:=ha.2;unfold zbB;by_cases c:(a.length:Int)=1
 ·rw [if_pos (decide_eq_true c)];exact ⟨a,d,rfl,h2.one (by omega),by omega,by omega⟩
 ·rw [if_neg (by simpa using c),zag (by simp only [List.length_singleton];omega),zag (by simp only [List.length_append,List.length_singleton];omega)]
  exact ⟨_,d+1,rfl,.grp a P d h2,by omega,by simp only [List.length_append,List.length_singleton];omega⟩
theorem zm1 {a b:List UInt8} {P Q:List Int->Prop} {D D' N N':Nat} (ha:Te a P D N) (hb:Te b Q D' N') (hN:N<=4000) (hN':N'<=4000):∃ s,zc6 a b=some s/\Te s (fun w=>∃ u x,w=u++x/\P u/\Q x) (max D D'+1) (N+N'+4):=by
 have la:=ha.1;have lb:=hb.1;unfold zc6;by_cases c1:a=[48]
 ·rw [if_pos (decide_eq_true c1)];subst c1;exact ⟨_,rfl,(te0 (by omega)).of fun w=>⟨fun ⟨u,x,_,h,_⟩=>ha.zero u h,fun h=>h.elim⟩⟩
 rw [if_neg (by simpa using c1)]
 by_cases c2:b=[48]
 ·rw [if_pos (decide_eq_true c2)];subst c2;exact ⟨_,rfl,(te0 (by omega)).of fun w=>⟨fun ⟨u,x,_,_,h⟩=>hb.zero x h,fun h=>h.elim⟩⟩
 rw [if_neg (by simpa using c2)]
 by_cases c3:a=[49]
 ·rw [if_pos (decide_eq_true c3)];subst c3;refine ⟨b,rfl,(hb.mono (by omega) (by omega)).of fun w=>⟨?_,fun h=>⟨[],w,rfl,(ha.unit []).2 rfl,h⟩⟩⟩
  rintro ⟨u,x,rfl,h,h2⟩;rw [(ha.unit u).1 h];exact h2
 rw [if_neg (by simpa using c3)]
 by_cases c4:b=[49]
 ·rw [if_pos (decide_eq_true c4)];subst c4;refine ⟨a,rfl,(ha.mono (by omega) (by omega)).of fun w=>⟨?_,fun h=>⟨w,[],by simp,h,(hb.unit []).2 rfl⟩⟩⟩
  rintro ⟨u,x,rfl,h,h2⟩;rw [(hb.unit x).1 h2,List.append_nil];exact h
 rw [if_neg (by simpa using c4)]
 obtain ⟨s,d,e1,e2,e3,e4⟩:=zgV ha hN;obtain ⟨s',d',f1,f2,f3,f4⟩:=zgV hb hN';rw [e1,f1];simp only [Option.bind_some];rw [zag (by omega)]
 exact ⟨_,rfl,by rw [List.length_append];omega,max d d',by omega,.row _ _ _ (.cons s s' P Q d d' (.one _ _ _ (.part _ _ _ e2)) (.part _ _ _ f2))⟩
theorem zrf {P:List Int->Prop} (h:∀ w,P w->w=[]) (w:List Int):St P w↔w=[]:=by
 constructor
 ·intro hw
  induction hw with
  | nil=>rfl
  | cons u w hu hw ih=>rw [h u hu,ih];rfl
 ·rintro rfl;exact .nil
theorem zr9 {a:List UInt8} {P:List Int->Prop} {D N:Nat} (ha:Te a P D N) (hN:N<=4000):∃ s,ze3 a=some s/\Te s (St P) (D+1) (N+3):=by
 have la:=ha.1;unfold ze3;by_cases c1:a=[48]
 ·rw [if_pos (decide_eq_true c1)];subst c1;exact ⟨_,rfl,(te1 (by omega)).of fun w=>zrf (fun w h=>absurd h (ha.zero w)) w⟩
 rw [if_neg (by simpa using c1)]
 by_cases c2:a=[49]
 ·rw [if_pos (decide_eq_true c2)];subst c2;exact ⟨_,rfl,(te1 (by omega)).of fun w=>zrf (fun w h=>(ha.unit w).1 h) w⟩
 rw [if_neg (by simpa using c2)]
 obtain ⟨s,d,e1,e2,e3,e4⟩:=zgV ha hN;rw [e1];simp only [Option.bind_some];rw [zag (by simp only [List.length_singleton];omega)]
 exact ⟨_,rfl,by rw [List.length_append,List.length_singleton];omega,d,by omega,.row _ _ _ (.one _ _ _ (.star s P d e2))⟩
inductive Pa (E:Int->Int->List Int->Prop) (q:Int):Int->Int->List Int->Prop
 | one (p r:Int) (w:List Int) (h:E p r w):Pa E q p r w
 | cons (p m r:Int) (u v:List Int) (h:E p m u) (m0:0<=m) (m1:m < q) (hs:Pa E q m r v):Pa E q p r (u++v)
section
variable {E:Int->Int->List Int->Prop}
theorem Pa.mono {q q' p r:Int} {w:List Int} (h:Pa E q p r w) (hq:q<=q'):Pa E q' p r w:=by
 induction h with
 | one p r w h=>exact .one p r w h
 | cons p m r u v h m0 m1 hs ih=>exact .cons p m r u v h m0 (by omega) ih
theorem Pa.app {q p m r:Int} {u v:List Int} (h:Pa E q p m u) (m0:0<=m) (m1:m < q) (h':Pa E q m r v):Pa E q p r (u++v):=by
 induction h with
 | one p m u h=>exact .cons p m r u v h m0 m1 h'
 | cons p m' m u u' h k0 k1 hs ih=>rw [List.append_assoc];exact .cons p m' r u _ h k0 k1 (ih m0 m1 h')
theorem Pa.step {q:Int} (q0:0<=q) {p r:Int} {w:List Int}:Pa E (q+1) p r w↔Pa E q p r w\/∃ u x,w=u++x/\(∃ a b,u=a++b/\Pa E q p q a/\St (Pa E q q q) b)/\Pa E q q r x:=by
 constructor
 ·intro h
  induction h with
  | one p r w h=>exact .inl (.one p r w h)
  | cons p m r u v h m0 m1 hs ih=>
   by_cases c:m < q
   ·rcases ih with ih | ⟨u',x,rfl,⟨a,b,rfl,ha,hb⟩,hx⟩
    ·exact .inl (.cons p m r u v h m0 c ih)
    ·exact .inr ⟨u++(a++b),x,by simp,⟨u++a,b,by simp,.cons p m q u a h m0 c ha,hb⟩,hx⟩
   ·obtain rfl:m=q:=by omega
    rcases ih with ih | ⟨u',x,rfl,⟨a,b,rfl,ha,hb⟩,hx⟩
    ·exact .inr ⟨u,v,rfl,⟨u,[],by simp,.one p m u h,.nil⟩,ih⟩
    ·exact .inr ⟨u++(a++b),x,by simp,⟨u,a++b,rfl,.one p m u h,.cons a b ha hb⟩,hx⟩
 ·rintro (h | ⟨u,x,rfl,⟨a,b,rfl,ha,hb⟩,hx⟩)
  ·exact h.mono (by omega)
  ·have loop:∀ b,St (Pa E q q q) b->Pa E (q+1) q r (b++x):=fun b hb=>by
    induction hb with
    | nil=>exact hx.mono (by omega)
    | cons a b ha hb ih=>rw [List.append_assoc];exact (ha.mono (by omega)).app q0 (by omega) ih
   rw [List.append_assoc];exact (ha.mono (by omega)).app q0 (by omega) (loop b hb)
end
abbrev T2:=List (List (List UInt8))
structure TbT (m:Nat) (Lq:Int->Int->List Int->Prop) (D N:Int->Int->Nat) (t:T2):Prop where
 l:t.length=m
 r:∀ p:Int,0<=p->p < m->(ix t p).length=m
 te:∀ p r:Int,0<=p->p < m->0<=r->r < m->Te (ix (ix t p) r) (Lq p r) (D p r) (N p r)
section
variable {m:Nat} {Lq Lq':Int->Int->List Int->Prop} {D N D' N':Int->Int->Nat} {t:T2}
theorem TbT.of (h:TbT m Lq D N t) (e:∀ p r:Int,0<=p->p < m->0<=r->r < m->(∀ w,Lq' p r w↔Lq p r w)/\D p r<=D' p r/\N p r<=N' p r):TbT m Lq' D' N' t:=
 ⟨h.l,h.r,fun p r p0 p1 r0 r1=>let ⟨e1,e2,e3⟩:=e p r p0 p1 r0 r1;((h.te p r p0 p1 r0 r1).of e1).mono e2 e3⟩
theorem TbT.set (h:TbT m Lq D N t) {p r:Int} (p0:0<=p) (p1:p < m) (r0:0<=r) (r1:r < m) {s:List UInt8} {P:List Int->Prop} {d n:Nat} (hs:Te s P d n)
  (e1:(∀ w,Lq' p r w↔P w)/\d<=D' p r/\n<=N' p r) (e2:∀ p' r':Int,0<=p'->p' < m->0<=r'->r' < m -> ¬ (p'=p/\r'=r)->(∀ w,Lq' p' r' w↔Lq p' r' w)/\D p' r'<=D' p' r'/\N p' r'<=N' p' r'):TbT m Lq' D' N' (t.set p.toNat ((ix t p).set r.toNat s)):=by
 have hl:=h.l;have hr:=h.r p p0 p1;refine ⟨by rw [List.length_set];exact hl,fun q q0 q1 => ?_,fun q z q0 q1 z0 z1 => ?_⟩
 ·by_cases c:q=p
  ·subst c;rw [zbU q0 (by omega),List.length_set];exact hr
  ·rw [zcf p0 q0 (Ne.symm c)];exact h.r q q0 q1
 ·by_cases c:q=p
  ·subst c;rw [zbU q0 (by omega)]
   by_cases c2:z=r
   ·subst c2;rw [zbU z0 (by omega)]
    exact (hs.of e1.1).mono e1.2.1 e1.2.2
   ·rw [zcf r0 z0 (Ne.symm c2)];obtain ⟨e3,e4,e5⟩:=e2 q z q0 q1 z0 z1 (fun h=>c2 h.2)
    exact ((h.te q z q0 q1 z0 z1).of e3).mono e4 e5
  ·rw [zcf p0 q0 (Ne.symm c)];obtain ⟨e3,e4,e5⟩:=e2 q z q0 q1 z0 z1 (fun h=>c h.1)
   exact ((h.te q z q0 q1 z0 z1).of e3).mono e4 e5
end
theorem zrd {M:Nat} {x y:List UInt8} (hN:M<=1000):∀ (f k:Nat),M - k=f->1<=k->k<=M->zcv (k:Int) (List.replicate k x++List.replicate (M - k) y)=some (List.replicate M x):=by
 intro f
 induction f using Nat.strongRecOn with
 | ind f ih=>
  intro k hf k1 kN;rw [ziv];unfold za9;have hl:(List.replicate k x++List.replicate (M - k) y).length=M:=by rw [List.length_append,List.length_replicate,List.length_replicate];omega
  rw [hl];by_cases c:k < M
  ·have e1:((List.replicate k x++List.replicate (M - k) y).drop 0).take ((k:Int)).toNat=List.replicate k x:=by
    rw [List.drop_zero,Int.toNat_natCast,List.take_append_of_le_length (by rw [List.length_replicate];omega),List.take_of_length_le (by rw [List.length_replicate];omega)]
   have e2:(List.replicate k x++List.replicate (M - k) y).take ((k:Int)).toNat=List.replicate k x:=e1;rw [if_pos (decide_eq_true (by omega)),zag (by omega),zag (by omega),zag (by omega),zag (by omega),e1,e2,List.length_replicate,Int.toNat_natCast]
   obtain ⟨d,hd⟩:∃ d,min k (M - k)=d:=⟨_,rfl⟩;rw [hd,zag (by unfold fits;omega)]
   have e3:(List.replicate k x++List.replicate (M - k) y).drop (k+d)=List.replicate (M - (k+d)) y:=by
    rw [List.drop_append,List.length_replicate,List.drop_of_length_le (by rw [List.length_replicate];omega),List.nil_append,List.drop_replicate]
    congr 1;omega
   have e4:List.replicate k x++(List.replicate k x).take d=List.replicate (k+d) x:=by
    rw [List.take_replicate,show min d k=d by omega,List.replicate_append_replicate]
   rw [e3,e4,show (k:Int)+(d:Int)=((k+d:Nat):Int) by omega]
   exact ih (M - (k+d)) (by omega) (k+d) rfl (by omega) (by omega)
  ·rw [if_neg (by simp only [decide_eq_true_eq];omega)]
   rw [show M - k=0 by omega,show k=M by omega];simp
theorem zn4 {n:Int} (h:1<=n/\n<=12):zkH (IntKind.wrap .u64 (([[48]]:List (List UInt8)).length:Int)) (IntKind.wrap .u64 n)=some (0,n):=by
 have h12:n=1\/n=2\/n=3\/n=4\/n=5\/n=6\/n=7\/n=8\/n=9\/n=10\/n=11\/n=12:=by omega
 unfold zkH zjx;rw [zag (by omega),zag (by omega),zag (by omega),zag (by omega),zag (by omega)]
 rcases h12 with rfl | rfl | rfl | rfl | rfl | rfl | rfl | rfl | rfl | rfl | rfl | rfl<;>rfl
theorem zo2 {n:Int} (h:1<=n/\n<=12):zd5 [[48]] n=some (List.replicate n.toNat [48]):=by
 unfold zd5;rw [if_neg (by simp only [decide_eq_true_eq];omega)]
 refine zaH (zn4 h) ?_
 have hw:IntKind.wrap .i64 n=n:=by
  have:=zoZ (n:=n.toNat) (by omega)
  rwa [show ((n.toNat:Nat):Int)=n by omega] at this
 rw [if_neg (by simp),if_neg (by simp only [decide_eq_true_eq];omega)]
 dsimp only;rw [zag (by rw [hw];unfold mkOK;omega)]
 rw [hw,List.length_replicate];have:=zrd (M:=n.toNat) (x:=[48]) (y:=[]) (by omega) _ 1 rfl (Nat.le_refl 1) (by omega)
 rw [<- this];congr 1
 ·show ((min 1 n.toNat:Nat):Int)=_;omega
 ·rw [List.take_of_length_le (by simp;omega),List.drop_replicate];rfl
section
variable {d:Dt}
def Eb (d:Dt) (q a p r:Int) (w:List Int):Prop:=
 (p=d.2.2.1.length/\r=d.2.1/\w=[])\/(0<=p/\p < q/\r=(d.2.2.1.length:Int)+1/\ix d.2.2.2.1 p=1/\w=[])\/(∃ x,0<=x/\x < d.1/\0<=p/\(p < q\/(p=q/\x < a))/\ix (ix d.2.2.1 p) x=r/\w=[x])
def Nb (q a p:Int):Nat:=if p < q then 9 else if p=q then 1+2 * a.toNat else 1
theorem zuA (hd:DOk 3000 badD d) (h3:d.2.2.1.length<=3) {q:Int} (q0:0<=q) (q1:q < d.2.2.1.length) {r15}:∀ (k a:Nat) (t:T2),d.1.toNat - a=k->a<=d.1.toNat->TbT (d.2.2.1.length+2) (Eb d q a) (fun _ _=>0) (fun p _=>Nb q a p) t->
  ∃ t',TbT (d.2.2.1.length+2) (Eb d (q+1) 0) (fun _ _=>0) (fun p _=>Nb (q+1) 0 p) t'/\zba d q r15 a t=r15 (q+1) t':=by
 have hl:=hd.let1;have hml:=hd.mkl;have hrow:=hd.tab.rowlen q0 q1;intro k
 induction k with
 | zero=>
  intro a t hk ha ht;have ea:(a:Int)=d.1:=by omega
  have htl:=ht.l;have htr:=ht.r q q0 (by omega)
  have nb:∀ p:Int,Nb q a p<=Nb (q+1) 0 p:=fun p=>by
   unfold Nb;by_cases c1:p < q
   ·rw [if_pos c1,if_pos (by omega)];exact Nat.le_refl _
   ·rw [if_neg c1];by_cases c2:p=q
    ·rw [if_pos c2,if_pos (by omega)];omega
    ·rw [if_neg c2];split
     ·omega
     ·split<;>omega
  have base:∀ p r w,¬ (p=q/\r=(d.2.2.1.length:Int)+1/\ix d.2.2.2.1 q=1)->(Eb d (q+1) 0 p r w↔Eb d q a p r w):=fun p r w hne=>by
   unfold Eb;refine or_congr Iff.rfl (or_congr ?_ (exists_congr fun x=>and_congr_right fun x0=>and_congr_right fun x1=>and_congr_right fun p0=>and_congr ?_ Iff.rfl))
   ·constructor
    ·rintro ⟨p0,p1,hr,hm,hw⟩;refine ⟨p0,?_,hr,hm,hw⟩
     by_cases c:p=q
     ·subst c;exact absurd ⟨rfl,hr,hm⟩ hne
     ·omega
    ·rintro ⟨p0,p1,h⟩;exact ⟨p0,by omega,h⟩
   ·omega
  rw [zer];unfold zaP;rw [if_neg (by rw [decide_eq_true_iff];omega),zag ⟨q0,by omega⟩]
  by_cases c:ix d.2.2.2.1 q=1
  ·rw [if_pos (decide_eq_true c),zag (by omega),zag (by omega),zag (by unfold fits;omega),zag (by omega),zag (by omega),zag (by unfold fits;omega)]
   refine ⟨_,ht.set q0 (by omega) (r:=(d.2.2.1.length:Int)+1) (by omega) (by omega) (te1 (D:=0) (N:=1) (Nat.le_refl _)) ⟨fun w => ?_,Nat.le_refl _,?_⟩ (fun p' r' p0 p1 r0 r1 hne=>⟨fun w=>base p' r' w (fun h=>hne ⟨h.1,h.2.1⟩),Nat.le_refl _,nb p'⟩),rfl⟩
   ·unfold Eb;constructor
    ·rintro (⟨h,_⟩ | ⟨_,_,_,_,h⟩ | ⟨x,x0,x1,_,_,h,_⟩)
     ·omega
     ·exact h
     ·have:=hd.tab.stpb q0 q1 x0 x1;unfold stp at this;omega
    ·intro h;exact .inr (.inl ⟨q0,by omega,rfl,c,h⟩)
   ·unfold Nb;rw [if_pos (by omega)];omega
  ·rw [if_neg (by rw [decide_eq_true_iff];exact c),zag (by unfold fits;omega)]
   exact ⟨t,ht.of fun p r p0 p1 r0 r1=>⟨fun w=>base p r w (fun h=>c h.2.2),Nat.le_refl _,nb p⟩,rfl⟩
 | succ k ih=>
  intro a t hk ha ht;have htl:=ht.l;have htr:=ht.r q q0 (by omega)
  have hs:=hd.tab.stpb q0 q1 (a:=(a:Int)) (by omega) (by omega)
  unfold stp at hs;have hw:IntKind.wrap .i32 ((97:Int)+a)=97+a:=by
   unfold IntKind.wrap;simp [IntKind.bits,IntKind.signed];omega
  have hb:(UInt8.ofNat ((97:Int)+a).toNat).toNat=97+a:=by
   rw [show ((97:Int)+a).toNat=97+a by omega,UInt8.toNat_ofNat'];omega
  have hte:Te [UInt8.ofNat ((97:Int)+a).toNat] (fun w=>w=[(a:Int)]) 0 1:=by
   have:=(PT.let' (UInt8.ofNat ((97:Int)+a).toNat) (by omega) (by omega)).te (D:=0) (N:=1) (Nat.zero_le _) (Nat.le_refl _)
   refine this.of fun w => ?_
   rw [hb,show (((97+a:Nat):Int) - 97)=(a:Int) by omega]
  obtain ⟨s,s1,s2⟩:=zoE (ht.te q _ q0 (by omega) hs.1 (by omega)) hte (by omega) (by omega) (by
   show Nb q a q<=4000;unfold Nb;rw [if_neg (by omega),if_pos rfl];omega) (by omega)
  rw [zer];unfold zaP;rw [if_pos (by rw [decide_eq_true_iff];omega),zag (by omega),zag (by omega),zag (by omega),zag (by omega),zag (by omega),zag (by omega),zag (by omega),zag (by unfold fits;omega),hw,zag (by omega),s1]
  simp only [Option.bind_some];rw [zag (by omega),zag (by omega),zag (by unfold fits;omega)]
  refine ih (a+1) _ (by omega) (by omega) (ht.set q0 (by omega) hs.1 (by omega) s2 ⟨fun w => ?_,Nat.le_refl _,?_⟩ (fun p' r' p0 p1 r0 r1 hne=>⟨fun w => ?_,Nat.le_refl _,?_⟩))
  ·unfold Eb;constructor
   ·rintro (h | h | ⟨x,x0,x1,p0,hx,h,h2⟩)
    ·exact .inl (.inl h)
    ·exact .inl (.inr (.inl h))
    ·by_cases c:x=a
     ·subst c;exact .inr h2
     ·exact .inl (.inr (.inr ⟨x,x0,x1,p0,by omega,h,h2⟩))
   ·rintro ((h | h | ⟨x,x0,x1,p0,hx,h,h2⟩) | h)
    ·exact .inl h
    ·exact .inr (.inl h)
    ·exact .inr (.inr ⟨x,x0,x1,p0,by omega,h,h2⟩)
    ·exact .inr (.inr ⟨a,by omega,by omega,q0,by omega,rfl,h⟩)
  ·show Nb q a q+1+1<=Nb q (a+1:Nat) q;unfold Nb;rw [if_neg (by omega),if_pos rfl,if_neg (by omega),if_pos rfl];omega
  ·unfold Eb;refine or_congr Iff.rfl (or_congr Iff.rfl (exists_congr fun x=>and_congr_right fun x0=>and_congr_right fun x1=>and_congr_right fun p0 => ?_))
   constructor
   ·rintro ⟨hx,h,h2⟩;refine ⟨?_,h,h2⟩
    by_cases c:p'=q/\x=a
    ·obtain ⟨rfl,rfl⟩:=c;exact absurd ⟨rfl,h.symm⟩ hne
    ·omega
   ·rintro ⟨hx,h⟩;exact ⟨by omega,h⟩
  ·unfold Nb
   split
   ·omega
   ·split<;>omega
theorem zuz (hd:DOk 3000 badD d) (h3:d.2.2.1.length<=3):∀ (k q:Nat) (t:T2),d.2.2.1.length - q=k->q<=d.2.2.1.length->TbT (d.2.2.1.length+2) (Eb d q 0) (fun _ _=>0) (fun p _=>Nb q 0 p) t->
  ∃ t',TbT (d.2.2.1.length+2) (Eb d d.2.2.1.length 0) (fun _ _=>0) (fun _ _=>9) t'/\zbk d q t=zaG d 0 t':=by
 intro k
 induction k with
 | zero=>
  intro q t hk hq ht;obtain rfl:q=d.2.2.1.length:=by omega
  refine ⟨t,ht.of fun p r p0 p1 r0 r1=>⟨fun w=>Iff.rfl,Nat.le_refl _,by unfold Nb;split;omega;split<;>omega⟩,?_⟩
  rw [zeq];unfold zaO;rw [if_neg (by simp)]
 | succ k ih=>
  intro q t hk hq ht;obtain ⟨t1,a1,a2⟩:=zuA hd h3 (q:=(q:Int)) (by omega) (by omega) (r15:=zbk d) _ 0 t rfl (by omega) ht
  obtain ⟨t',b1,b2⟩:=ih (q+1) t1 (by omega) (by omega) a1
  refine ⟨t',b1,?_⟩
  rw [zeq];unfold zaO;rw [if_pos (by rw [decide_eq_true_iff];omega),zag (by omega)]
  exact a2.trans b2
end
section
variable {E:Int->Int->List Int->Prop} {n:Nat}
def Lo (E:Int->Int->List Int->Prop) (q p r:Int) (w:List Int):Prop:=q<=p/\q<=r/\Pa E q p r w
def Cd (q p0 r0 p r:Int):Prop:=(p < p0\/(p=p0/\r < r0))/\p≠q/\r≠q
def Ls (E:Int->Int->List Int->Prop) (q p r:Int) (w:List Int):Prop:=∃ u x,w=u++x/\(∃ a b,u=a++b/\Lo E q p q a/\St (Lo E q q q) b)/\Lo E q q r x
def Lm (E:Int->Int->List Int->Prop) (q p0 r0 p r:Int) (w:List Int):Prop:=Lo E q p r w\/(Cd q p0 r0 p r/\Ls E q p r w)
open Classical in
noncomputable def Dm (D:Nat) (q p0 r0 p r:Int):Nat:=if Cd q p0 r0 p r then D+3 else D
open Classical in
noncomputable def Nm (N:Nat) (q p0 r0 p r:Int):Nat:=if Cd q p0 r0 p r then 4 * N+12 else N
theorem ztw {D:Nat} {q p0 r0 p1 r1 p r:Int} (h:Cd q p0 r0 p r->Cd q p1 r1 p r):Dm D q p0 r0 p r<=Dm D q p1 r1 p r:=by
 unfold Dm;by_cases c:Cd q p0 r0 p r
 ·rw [if_pos c,if_pos (h c)];exact Nat.le_refl _
 ·rw [if_neg c];split<;>omega
theorem ztz {D:Nat} {q p0 r0 p1 r1 p r:Int} (h:Cd q p0 r0 p r->Cd q p1 r1 p r):Nm D q p0 r0 p r<=Nm D q p1 r1 p r:=by
 unfold Nm;by_cases c:Cd q p0 r0 p r
 ·rw [if_pos c,if_pos (h c)];exact Nat.le_refl _
 ·rw [if_neg c];split<;>omega
theorem zuH {D:Nat} {q p0 r0 p r:Int} (h : ¬ Cd q p0 r0 p r):Dm D q p0 r0 p r=D:=by unfold Dm;rw [if_neg h]
theorem zuI {D:Nat} {q p0 r0 p r:Int} (h : ¬ Cd q p0 r0 p r):Nm D q p0 r0 p r=D:=by unfold Nm;rw [if_neg h]
theorem ztx {q p0 r0 p r:Int} {D N:Nat} {t:T2} (ht:TbT (n+2) (Lm E q p0 r0) (Dm D q p0 r0) (Nm N q p0 r0) t) (p0':0<=p) (p1':p < (n:Int)+2) (r0':0<=r) (r1':r < (n:Int)+2) (h : ¬ Cd q p0 r0 p r):Te (ix (ix t p) r) (Lo E q p r) D N:=by
 have:=ht.te p r p0' (by omega) r0' (by omega)
 rw [zuH h,zuI h] at this;exact this.of fun w=>⟨.inl,fun hh=>hh.resolve_right fun hh=>h hh.1⟩
theorem zuC {q:Int} (q0:0<=q) (q1:q < (n:Int)+2) (hn:n<=3) {D N:Nat} (hD:D<=30) (hN:N<=900) {round:List UInt8} (hround:Te round (St (Lo E q q q)) (D+1) (N+3)) {r30} {t9:T2} (h9:t9.length=n+2) {p:Int} (p0:0<=p) (p1:p < (n:Int)+2):
  ∀ (k r:Nat) (t:T2),n+2 - r=k->r<=n+2->TbT (n+2) (Lm E q p r) (Dm D q p r) (Nm N q p r) t->
   ∃ t',TbT (n+2) (Lm E q (p+1) 0) (Dm D q (p+1) 0) (Nm N q (p+1) 0) t'/\za1 q round p t9 r30 r t=r30 (p+1) t':=by
 intro k
 induction k with
 | zero=>
  intro r t hk hr ht;obtain rfl:r=n+2:=by omega
  have e:∀ p' r':Int,0<=r'->r' < ((n+2:Nat):Int)->(Cd q p (n+2:Nat) p' r'↔Cd q (p+1) 0 p' r'):=fun p' r' a b=>by
   unfold Cd;refine and_congr ?_ Iff.rfl
   omega
  refine ⟨t,ht.of fun p' r' p0' p1' r0' r1'=>⟨fun w=>or_congr Iff.rfl (and_congr (e p' r' r0' r1').symm Iff.rfl),ztw (e p' r' r0' r1').1,ztz (e p' r' r0' r1').1⟩,?_⟩
  rw [zeu];unfold zaS;rw [if_neg (by rw [decide_eq_true_iff];omega),zag (by unfold fits;omega)]
 | succ k ih=>
  intro r t hk hr ht;have htl:=ht.l;have htp:=ht.r p p0 (by omega)
  have htq:=ht.r q q0 (by omega)
  have skip:(p=q\/(r:Int)=q)->TbT (n+2) (Lm E q p (r+1:Nat)) (Dm D q p (r+1:Nat)) (Nm N q p (r+1:Nat)) t:=fun hpq=>ht.of fun p' r' p0' p1' r0' r1'=>by
   have e:Cd q p r p' r'↔Cd q p (r+1:Nat) p' r':=by
    unfold Cd;constructor
    ·rintro ⟨h,h2⟩;exact ⟨by omega,h2⟩
    ·rintro ⟨h,h2⟩;refine ⟨?_,h2⟩
     rcases hpq with hpq | hpq<;>omega
   exact ⟨fun w=>or_congr Iff.rfl (and_congr e.symm Iff.rfl),ztw e.1,ztz e.1⟩
  have nostep:∀ b:Bool,b=false->(p=q\/(r:Int)=q)->∃ t',TbT (n+2) (Lm E q (p+1) 0) (Dm D q (p+1) 0) (Nm N q (p+1) 0) t'/\zaZ q round p r t (za1 q round p t9 r30) b=r30 (p+1) t':=fun b hb hpq=>by
   subst hb;obtain ⟨t',a1,a2⟩:=ih (r+1) t (by omega) (by omega) (skip hpq)
   refine ⟨t',a1,?_⟩
   unfold zaZ;rw [if_neg (by decide),zag (by unfold fits;omega)]
   exact a2
  rw [zeu];unfold zaS;rw [if_pos (by rw [decide_eq_true_iff];omega)]
  by_cases c:p=q
  ·rw [if_neg (by simpa using c)]
   exact nostep _ rfl (.inl c)
  rw [if_pos (by simpa using c)]
  by_cases c2:(r:Int)=q
  ·exact nostep _ (by simpa using c2) (.inr c2)
  have hdec:decide (¬ (r:Int)=q)=true:=by simpa using c2
  rw [hdec];unfold zaZ;rw [if_pos rfl,zag (by omega),zag (by omega),zag (by omega),zag (by omega),zag (by omega),zag (by omega),zag (by omega),zag (by omega),zag (by omega),zag (by omega),zag (by omega),zag (by omega),zag (by omega),zag (by omega)]
  have k1:Te (ix (ix t p) q) (Lo E q p q) D N:=ztx ht p0 p1 q0 q1 (fun h=>h.2.2 rfl)
  have k2:Te (ix (ix t q) (r:Int)) (Lo E q q r) D N:=ztx ht q0 q1 (by omega) (by omega) (fun h=>h.2.1 rfl)
  have k3:Te (ix (ix t p) (r:Int)) (Lo E q p r) D N:=ztx ht p0 p1 (by omega) (by omega) (fun h=>by have:=h.1;omega)
  obtain ⟨s1,a1,a2⟩:=zm1 k1 hround (by omega) (by omega)
  obtain ⟨s2,b1,b2⟩:=zm1 a2 k2 (by omega) (by omega)
  obtain ⟨s3,d1,d2⟩:=zoE k3 b2 (by omega) (by omega) (by omega) (by omega)
  rw [a1];simp only [Option.bind_some];rw [b1];simp only [Option.bind_some];rw [d1];simp only [Option.bind_some];rw [zag (by omega),zag (by omega),zag (by unfold fits;omega)]
  have hc:Cd q p (r+1:Nat) p r:=⟨.inr ⟨rfl,by omega⟩,c,c2⟩
  have hc0 : ¬ Cd q p r p r:=fun h=>by have:=h.1;omega
  refine ih (r+1) _ (by omega) (by omega) (ht.set p0 (by omega) (r:=(r:Int)) (by omega) (by omega) d2 ⟨fun w => ?_,?_,?_⟩ (fun p' r' p0' p1' r0' r1' hne => ?_))
  ·show Lo E q p r w\/(Cd q p (r+1:Nat) p r/\Ls E q p r w)↔_;exact or_congr Iff.rfl ⟨fun h=>h.2,fun h=>⟨hc,h⟩⟩
  ·unfold Dm;rw [if_pos hc];omega
  ·unfold Nm;rw [if_pos hc];omega
  ·have e:Cd q p r p' r'↔Cd q p (r+1:Nat) p' r':=by
    unfold Cd;constructor
    ·rintro ⟨h,h2⟩;exact ⟨by omega,h2⟩
    ·rintro ⟨h,h2⟩;refine ⟨?_,h2⟩
     by_cases c3:p'=p/\r'=r
     ·exact absurd c3 hne
     ·omega
   exact ⟨fun w=>or_congr Iff.rfl (and_congr e.symm Iff.rfl),ztw e.1,ztz e.1⟩
theorem zuB {q:Int} (q0:0<=q) (q1:q < (n:Int)+2) (hn:n<=3) {D N:Nat} (hD:D<=30) (hN:N<=900) {round:List UInt8} (hround:Te round (St (Lo E q q q)) (D+1) (N+3)) {r26} {t7:T2} (h7:t7.length=n+2):
  ∀ (k p:Nat) (t:T2),n+2 - p=k->p<=n+2->TbT (n+2) (Lm E q p 0) (Dm D q p 0) (Nm N q p 0) t->
   ∃ t',TbT (n+2) (Lm E q (n+2:Nat) 0) (Dm D q (n+2:Nat) 0) (Nm N q (n+2:Nat) 0) t'/\za0 q t7 r26 round p t=za2 q r26 t' 0 t':=by
 intro k
 induction k with
 | zero=>
  intro p t hk hp ht;obtain rfl:p=n+2:=by omega
  refine ⟨t,ht,?_⟩
  rw [zet];unfold zaR;rw [if_neg (by rw [decide_eq_true_iff];omega)]
 | succ k ih=>
  intro p t hk hp ht;obtain ⟨t1,a1,a2⟩:=zuC q0 q1 hn hD hN hround (r30:=za0 q t7 r26 round) ht.l (p:=(p:Int)) (by omega) (by omega) _ 0 t rfl (by omega) ht
  obtain ⟨t',b1,b2⟩:=ih (p+1) t1 (by omega) (by omega) a1
  refine ⟨t',b1,?_⟩
  rw [zet];unfold zaR;rw [if_pos (by rw [decide_eq_true_iff];omega)]
  exact a2.trans b2
theorem zuD {q:Int} (q0:0<=q) (q1:q < (n:Int)+2) (hn:n<=3) {A:Int->Int->List Int->Prop} {D N:Nat} (hN:1<=N) {r26} {t9:T2} (h9:t9.length=n+2):
  ∀ (k x:Nat) (t:T2),n+2 - x=k->x<=n+2->TbT (n+2) (fun p r w => ¬ (p=q/\r < x) /\ ¬ (r=q/\p < x)/\A p r w) (fun _ _=>D) (fun _ _=>N) t->
   ∃ t',TbT (n+2) (fun p r w=>p≠q/\r≠q/\A p r w) (fun _ _=>D) (fun _ _=>N) t'/\za2 q r26 t9 x t=r26 (q+1) t':=by
 intro k
 induction k with
 | zero=>
  intro x t hk hx ht;obtain rfl:x=n+2:=by omega
  refine ⟨t,ht.of fun p r p0 p1 r0 r1=>⟨fun w => ?_,Nat.le_refl _,Nat.le_refl _⟩,?_⟩
  ·constructor
   ·rintro ⟨h1,h2,h3⟩;exact ⟨fun h=>h1 h.1,fun h=>h2 h.1,h3⟩
   ·rintro ⟨h1,h2,h3⟩;exact ⟨fun h=>h1 ⟨h,r1⟩,fun h=>h2 ⟨h,p1⟩,h3⟩
  ·rw [zev];unfold zaT;rw [if_neg (by rw [decide_eq_true_iff];omega),zag (by unfold fits;omega)]
 | succ k ih=>
  intro x t hk hx ht;have htl:=ht.l;have htx:=ht.r x (by omega) (by omega)
  have s1:=ht.set (p:=(x:Int)) (r:=q) (by omega) (by omega) q0 (by omega) (te0 (D:=D) (N:=N) hN) (Lq':=fun p r w => ¬ (p=q/\r < x) /\ ¬ (r=q/\p < (x+1:Nat))/\A p r w) (D':=fun _ _=>D) (N':=fun _ _=>N)
   ⟨fun w=>⟨fun h=>h.2.1 ⟨rfl,by omega⟩,fun h=>h.elim⟩,Nat.le_refl _,Nat.le_refl _⟩ (fun p r p0 p1 r0 r1 hne=>⟨fun w=>by
    refine and_congr Iff.rfl (and_congr ?_ Iff.rfl)
    refine not_congr ⟨fun h=>⟨h.1,?_⟩,fun h=>⟨h.1,by omega⟩⟩
    by_cases c:p=x
    ·exact absurd ⟨c,h.1⟩ hne
    ·omega,Nat.le_refl _,Nat.le_refl _⟩)
  have l1:=s1.l;have lq:=s1.r q q0 (by omega)
  have s2:=s1.set (p:=q) (r:=(x:Int)) q0 (by omega) (by omega) (by omega) (te0 (D:=D) (N:=N) hN) (Lq':=fun p r w => ¬ (p=q/\r < (x+1:Nat)) /\ ¬ (r=q/\p < (x+1:Nat))/\A p r w) (D':=fun _ _=>D) (N':=fun _ _=>N)
   ⟨fun w=>⟨fun h=>h.1 ⟨rfl,by omega⟩,fun h=>h.elim⟩,Nat.le_refl _,Nat.le_refl _⟩ (fun p r p0 p1 r0 r1 hne=>⟨fun w=>by
    refine and_congr ?_ Iff.rfl
    refine not_congr ⟨fun h=>⟨h.1,?_⟩,fun h=>⟨h.1,by omega⟩⟩
    by_cases c:r=x
    ·exact absurd ⟨h.1,c⟩ hne
    ·omega,Nat.le_refl _,Nat.le_refl _⟩)
  obtain ⟨t',a1,a2⟩:=ih (x+1) _ (by omega) (by omega) s2
  refine ⟨t',a1,?_⟩
  rw [zev];unfold zaT;rw [if_pos (by rw [decide_eq_true_iff];omega),zag (by omega),zag (by omega),zag (by omega),zag (by omega),zag (by omega),zag (by omega),zag (by omega),zag (by omega),zag (by unfold fits;omega)]
  exact a2
theorem zsy {d:Dt} (hn:n<=3) (hdn:d.2.2.1.length=n) {q:Int} (q0:0<=q) (q1:q < n) {D N:Nat} (hD:D<=30) (hN:N<=900) (hN1:1<=N) {t:T2} (ht:TbT (n+2) (Lo E q) (fun _ _=>D) (fun _ _=>N) t):
  ∃ t',TbT (n+2) (Lo E (q+1)) (fun _ _=>D+3) (fun _ _=>4 * N+12) t'/\zaG d q t=zaG d (q+1) t':=by
 have htl:=ht.l;have htq:=ht.r q q0 (by omega)
 obtain ⟨round,r1,r2⟩:=zr9 (ht.te q q q0 (by omega) q0 (by omega)) (by omega)
 have h0:TbT (n+2) (Lm E q (0:Nat) 0) (Dm D q (0:Nat) 0) (Nm N q (0:Nat) 0) t:=ht.of fun p r p0 p1 r0 r1=>by
  have e : ¬ Cd q (0:Nat) 0 p r:=fun h=>by have:=h.1;omega
  exact ⟨fun w=>⟨fun h=>h.resolve_right fun h=>e h.1,.inl⟩,by rw [zuH e];exact Nat.le_refl _,by rw [zuI e];exact Nat.le_refl _⟩
 obtain ⟨t1,a1,a2⟩:=zuB q0 (by omega) hn hD hN r2 (r26:=zaG d) htl _ 0 t rfl (by omega) h0
 have h1:TbT (n+2) (fun p r w => ¬ (p=q/\r < (0:Nat)) /\ ¬ (r=q/\p < (0:Nat))/\(Lo E q p r w\/(p≠q/\r≠q/\Ls E q p r w))) (fun _ _=>D+3) (fun _ _=>4 * N+12) t1:=a1.of fun p r p0 p1 r0 r1=>⟨fun w=>by
  unfold Lm Cd;constructor
  ·rintro ⟨_,_,h | ⟨h1,h2,h3⟩⟩
   ·exact .inl h
   ·exact .inr ⟨⟨.inl p1,h1,h2⟩,h3⟩
  ·intro h;exact ⟨by omega,by omega,h.imp id (fun h=>⟨h.1.2.1,h.1.2.2,h.2⟩)⟩,by unfold Dm;split<;>omega,by unfold Nm;split<;>omega⟩
 obtain ⟨t',b1,b2⟩:=zuD q0 (by omega) hn (by omega) (r26:=zaG d) a1.l _ 0 t1 rfl (by omega) h1
 refine ⟨t',b1.of fun p r p0 p1 r0 r1=>⟨fun w => ?_,Nat.le_refl _,Nat.le_refl _⟩,?_⟩
 ·unfold Lo Ls;rw [Pa.step q0];have eLo:Lo E q q q=Pa E q q q:=funext fun w=>propext ⟨fun h=>h.2.2,fun h=>⟨Int.le_refl _,Int.le_refl _,h⟩⟩
  constructor
  ·rintro ⟨hp,hr,h | ⟨u,x,e,⟨a,b,e2,ha,hb⟩,hx⟩⟩
   ·exact ⟨by omega,by omega,.inl ⟨by omega,by omega,h⟩⟩
   ·refine ⟨by omega,by omega,.inr ⟨by omega,by omega,u,x,e,⟨a,b,e2,⟨by omega,Int.le_refl _,ha⟩,?_⟩,⟨Int.le_refl _,by omega,hx⟩⟩⟩
    show St (Lo E q q q) b;rw [eLo];exact hb
  ·rintro ⟨hp,hr,h | ⟨_,_,u,x,e,⟨a,b,e2,ha,hb⟩,hx⟩⟩
   ·exact ⟨by omega,by omega,.inl h.2.2⟩
   ·have hb:St (Lo E q q q) b:=hb;rw [eLo] at hb;have:=ha.1;have:=hx.2.1;exact ⟨by omega,by omega,.inr ⟨u,x,e,⟨a,b,e2,ha.2.2,hb⟩,hx.2.2⟩⟩
 ·rw [zes d q];unfold zaQ;rw [if_pos (by rw [decide_eq_true_iff];omega),zag (by omega),zag (by omega),zag (by omega),zag (by omega),r1]
  simp only [Option.bind_some];exact a2.trans b2
end
theorem zrb {E:Int->Int->List Int->Prop} {p r:Int} {w:List Int}:Pa E 0 p r w↔E p r w:=by
 constructor
 ·intro h
  cases h with
  | one _ _ _ h=>exact h
  | cons p m r u v h m0 m1 hs=>omega
 ·exact .one p r w
section
variable {d:Dt}
theorem zq6 (h3:d.2.2.1.length<=3) {E:Int->Int->List Int->Prop}:∀ (k q D N:Nat) (t:T2),d.2.2.1.length=q+k->D+3 * k<=9->1<=N->(N+4) * 4 ^ k<=832->TbT (d.2.2.1.length+2) (Lo E q) (fun _ _=>D) (fun _ _=>N) t->
  ∃ s,zaG d q t=some (s,0)/\Te s (Pa E d.2.2.1.length d.2.2.1.length ((d.2.2.1.length:Int)+1)) 9 828:=by
 intro k
 induction k with
 | zero=>
  intro q D N t hq hD hN1 hN ht;obtain rfl:d.2.2.1.length=q:=by omega
  have htl:=ht.l;have htr:=ht.r (d.2.2.1.length:Int) (by omega) (by omega)
  have hte:=ht.te (d.2.2.1.length:Int) ((d.2.2.1.length:Int)+1) (by omega) (by omega) (by omega) (by omega)
  refine ⟨_,?_,(hte.mono (by omega) (by omega)).of fun w=>⟨fun h=>⟨by omega,by omega,h⟩,fun h=>h.2.2⟩⟩
  rw [zes];unfold zaQ;rw [if_neg (by rw [decide_eq_true_iff];omega),zag (by omega),zag (by omega),zag (by unfold fits;omega),zag (by omega),zag (by omega)]
 | succ k ih=>
  intro q D N t hq hD hN1 hN ht;have h4:(4 * N+12+4) * 4 ^ k=(N+4) * 4 ^ (k+1):=by
   rw [Nat.pow_succ,Nat.mul_comm (4 ^ k) 4,<- Nat.mul_assoc];congr 1;omega
  have h5:1<=4 ^ k:=Nat.one_le_pow _ _ (by omega)
  have h6:N+4<=(N+4) * 4 ^ (k+1):=Nat.le_mul_of_pos_right _ (Nat.pow_pos (by omega))
  obtain ⟨t',a1,a2⟩:=zsy h3 (d:=d) rfl (q:=(q:Int)) (by omega) (by omega) (by omega) (by omega) hN1 ht
  rw [a2];exact ih (q+1) (D+3) (4 * N+12) t' (by omega) (by omega) (by omega) (by omega) a1
theorem zu7 (h3:d.2.2.1.length<=3):∀ (k i:Nat) (t:T2),d.2.2.1.length+2 - i=k->i<=d.2.2.1.length+2->t.length=d.2.2.1.length+2->(∀ p:Int,0<=p->p < i->ix t p=List.replicate (d.2.2.1.length+2) [48])->
  ∃ t':T2,t'.length=d.2.2.1.length+2/\(∀ p:Int,0<=p->p < (d.2.2.1.length:Int)+2->ix t' p=List.replicate (d.2.2.1.length+2) [48])/\zbA d i t=zbA d ((d.2.2.1.length+2:Nat):Int) t':=by
 intro k
 induction k with
 | zero=>
  intro i t hk hi htl ht;obtain rfl:i=d.2.2.1.length+2:=by omega
  exact ⟨t,htl,fun p p0 p1=>ht p p0 (by omega),rfl⟩
 | succ k ih=>
  intro i t hk hi htl ht;obtain ⟨t',a1,a2,a3⟩:=ih (i+1) (t.set i (List.replicate (d.2.2.1.length+2) [48])) (by omega) (by omega) (by rw [List.length_set];exact htl) (fun p p0 p1=>by
   by_cases c:p=i
   ·subst c;have:=zbU (l:=t) (x:=List.replicate (d.2.2.1.length+2) [48]) (i:=(i:Int)) p0 (by omega)
    rwa [Int.toNat_natCast] at this
   ·have:=zcf (l:=t) (x:=List.replicate (d.2.2.1.length+2) [48]) (i:=(i:Int)) (j:=p) (by omega) p0 (Ne.symm c)
    rw [Int.toNat_natCast] at this;rw [this];exact ht p p0 (by omega))
  refine ⟨t',a1,a2,?_⟩
  have e:((d.2.2.1.length:Int)+2).toNat=d.2.2.1.length+2:=by omega
  rw [ze1];unfold za5;rw [if_pos (by rw [decide_eq_true_iff,List.length_replicate];omega),zag (by unfold fits;omega),zo2 (by omega)]
  simp only [Option.bind_some];rw [zag (by omega),zag (by unfold fits;omega),e,Int.toNat_natCast]
  exact a3
theorem zq5 (hd:DOk 3000 badD d) {t:T2} (h1:t.length=d.2.2.1.length+2) (h2:∀ p:Int,0<=p->p < (d.2.2.1.length:Int)+2->ix t p=List.replicate (d.2.2.1.length+2) [48]):
  ∃ t',TbT (d.2.2.1.length+2) (Eb d 0 0) (fun _ _=>0) (fun p _=>Nb 0 0 p) t'/\zbA d ((d.2.2.1.length+2:Nat):Int) t=zbk d 0 t':=by
 have hst:=hd.st;have hr:∀ p:Int,0<=p->p < (d.2.2.1.length:Int)+2->(ix t p).length=d.2.2.1.length+2:=fun p p0 p1=>by rw [h2 p p0 p1,List.length_replicate]
 have hrn:=hr d.2.2.1.length (by omega) (by omega)
 have h0:TbT (d.2.2.1.length+2) (fun _ _ _=>False) (fun _ _=>0) (fun p _=>Nb 0 0 p) t:=by
  refine ⟨h1,fun p p0 p1=>hr p p0 (by omega),fun p r p0 p1 r0 r1 => ?_⟩
  rw [h2 p p0 (by omega),zdF r0 (by omega)]
  exact te0 (by unfold Nb;split;omega;split<;>omega)
 refine ⟨_,h0.set (p:=(d.2.2.1.length:Int)) (r:=d.2.1) (by omega) (by omega) (by omega) (by omega) (te1 (D:=0) (N:=1) (Nat.le_refl _)) ⟨fun w => ?_,Nat.le_refl _,?_⟩ (fun p r p0 p1 r0 r1 hne=>⟨fun w=>⟨fun h => ?_,fun h=>h.elim⟩,Nat.le_refl _,Nat.le_refl _⟩),?_⟩
 ·unfold Eb;constructor
  ·rintro (h | h | ⟨x,x0,x1,p0,h,_⟩)
   ·exact h.2.2
   ·omega
   ·omega
  ·intro h;exact .inl ⟨rfl,rfl,h⟩
 ·unfold Nb;split
  ·omega
  ·split<;>omega
 ·rcases h with h | h | ⟨x,x0,x1,p0,h,_⟩
  ·exact hne ⟨h.1,h.2.1⟩
  ·omega
  ·omega
 ·rw [ze1];unfold za5;rw [if_neg (by rw [decide_eq_true_iff,List.length_replicate];omega),zag (by omega),zag (by omega),zag (by omega),zag (by omega),Int.toNat_natCast]
def La (d:Dt) (w:List Int):Prop:=(∀ a∈w,0<=a/\a < d.1)/\ix d.2.2.2.1 (wlk d.2.2.1 d.2.1 w)=1
theorem Pa_in (hd:DOk 3000 badD d) {p r:Int} {w:List Int} (h:Pa (Eb d d.2.2.1.length 0) d.2.2.1.length p r w) (hr:r=(d.2.2.1.length:Int)+1) (p0:0<=p) (p1:p < d.2.2.1.length):(∀ a∈w,0<=a/\a < d.1)/\ix d.2.2.2.1 (wlk d.2.2.1 p w)=1:=by
 induction h with
 | one p r w h=>
  rcases h with h | ⟨_,_,_,hm,rfl⟩ | ⟨x,x0,x1,_,_,h,rfl⟩
  ·omega
  ·exact ⟨fun a ha=>(by cases ha),hm⟩
  ·have:=hd.tab.stpb p0 p1 x0 x1;unfold stp at this;omega
 | cons p m r u v h m0 m1 hs ih=>
  obtain ⟨i1,i2⟩:=ih hr m0 m1;rcases h with h | h | ⟨x,x0,x1,_,_,h,rfl⟩
  ·omega
  ·omega
  ·refine ⟨fun a ha => ?_,?_⟩
   ·rcases List.mem_cons.1 ha with rfl | ha
    ·exact ⟨x0,x1⟩
    ·exact i1 a ha
   ·show ix d.2.2.2.1 (wlk d.2.2.1 (ix (ix d.2.2.1 p) x) v)=1;rw [h];exact i2
theorem Pa_of (hd:DOk 3000 badD d):∀ (w:List Int) {p:Int},0<=p->p < d.2.2.1.length->(∀ a∈w,0<=a/\a < d.1)->ix d.2.2.2.1 (wlk d.2.2.1 p w)=1->Pa (Eb d d.2.2.1.length 0) d.2.2.1.length p ((d.2.2.1.length:Int)+1) w:=by
 intro w
 induction w with
 | nil=>intro p p0 p1 _ hm;exact .one p _ _ (.inr (.inl ⟨p0,p1,rfl,hm,rfl⟩))
 | cons x w ih=>
  intro p p0 p1 hw hm;have hx:=hw x (by simp)
  have hs:=hd.tab.stpb p0 p1 hx.1 hx.2;exact .cons p _ _ [x] w (.inr (.inr ⟨x,hx.1,hx.2,p0,.inl p1,rfl,rfl⟩)) hs.1 hs.2 (ih hs.1 hs.2 (fun a ha=>hw a (by simp [ha])) hm)
theorem Pa_La (hd:DOk 3000 badD d) {w:List Int}:Pa (Eb d d.2.2.1.length 0) d.2.2.1.length d.2.2.1.length ((d.2.2.1.length:Int)+1) w↔La d w:=by
 have hst:=hd.st;constructor
 ·intro h
  cases h with
  | one _ _ _ h=>
   rcases h with h | h | ⟨x,x0,x1,_,h,_⟩
   ·omega
   ·omega
   ·omega
  | cons p m r u v h m0 m1 hs=>
   rcases h with ⟨_,rfl,rfl⟩ | h | ⟨x,x0,x1,_,h,_⟩
   ·exact Pa_in hd hs rfl m0 m1
   ·omega
   ·omega
 ·rintro ⟨h1,h2⟩;exact .cons _ d.2.1 _ [] w (.inl ⟨rfl,rfl,rfl⟩) hst.1 hst.2 (Pa_of hd w hst.1 hst.2 h1 h2)
theorem zrg (hd:DOk 3000 badD d) (h3:d.2.2.1.length<=3):∃ s,zbD d=some (s,0)/\Te s (La d) 9 828:=by
 have hl:(List.replicate (d.2.2.1.length+2) ([]:List (List UInt8))).length=d.2.2.1.length+2:=List.length_replicate;obtain ⟨t1,a1,a2,a3⟩:=zu7 (d:=d) h3 _ 0 (List.replicate (d.2.2.1.length+2) []) rfl (by omega) hl (fun p p0 p1=>by omega)
 obtain ⟨t2,b1,b2⟩:=zq5 hd a1 a2;obtain ⟨t3,c1,c2⟩:=zuz hd h3 _ 0 t2 rfl (by omega) b1
 have c1':TbT (d.2.2.1.length+2) (Lo (Eb d d.2.2.1.length 0) ((0:Nat):Int)) (fun _ _=>0) (fun _ _=>9) t3:=c1.of fun p r p0 p1 r0 r1=>⟨fun w=>⟨fun h=>zrb.1 h.2.2,fun h=>⟨p0,r0,zrb.2 h⟩⟩,Nat.le_refl _,Nat.le_refl _⟩
 have hk:d.2.2.1.length=0\/d.2.2.1.length=1\/d.2.2.1.length=2\/d.2.2.1.length=3:=by omega
 obtain ⟨s,e1,e2⟩:=zq6 h3 (E:=Eb d d.2.2.1.length 0) d.2.2.1.length 0 0 9 t3 (by omega) (by omega) (by omega) (by rcases hk with h | h | h | h<;>rw [h]<;>decide) c1'
 refine ⟨s,?_,e2.of fun w=>(Pa_La hd).symm⟩
 have chk:zgH (d.1,(d.2.1,(d.2.2.1,(d.2.2.2.1,()))))=some 0:=by
  rw [zfe];exact congrArg some (ztM hd)
 unfold zbD;refine zaH chk ?_
 rw [if_neg (by simp),if_neg (by rw [decide_eq_true_iff];omega),zag (by unfold fits;omega),zag (by unfold mkOK;omega),show ((d.2.2.1.length:Int)+2).toNat=d.2.2.1.length+2 by omega]
 exact a3.trans (b2.trans (c2.trans e1))
theorem zty {L:Int} (hL:1<=L/\L<=4):∀ (n:Nat) (o:List Int),n<=o.length->o.length<=1000->(∀ a∈o,0<=a/\a < L)->∃ o',zhB L ((n:Int) - 1) o=some o'/\o'.length<=o.length+1/\∀ a∈o',0<=a/\a < L:=by
 intro n
 induction n with
 | zero=>
  intro o hn ho h;rw [zja];unfold zbW;rw [if_neg (by simp),zag (by unfold room;simp;omega)]
  refine ⟨_,rfl,by simp,fun a ha => ?_⟩
  rcases List.mem_append.1 ha with ha | ha
  ·exact h a ha
  ·rw [List.mem_singleton.1 ha];omega
 | succ n ih=>
  intro o hn ho h;have hx:=h _ (zfv (l:=o) (i:=((n+1:Nat):Int) - 1) (by omega) (by omega))
  have hmem:∀ v:Int,0<=v/\v < L->∀ a∈o.set (((n+1:Nat):Int) - 1).toNat v,0<=a/\a < L:=fun v hv a ha=>by
   rcases List.mem_or_eq_of_mem_set ha with ha | rfl
   ·exact h a ha
   ·exact hv
  rw [zja];unfold zbW;rw [if_pos (by rw [decide_eq_true_iff];omega),zag (by omega),zag (by omega),zag (by unfold fits;omega)]
  by_cases c:ix o (((n+1:Nat):Int) - 1) < L - 1
  ·rw [if_pos (decide_eq_true c),zag (by omega),zag (by omega),zag (by unfold fits;omega),zag (by omega),zag (by omega)]
   exact ⟨_,rfl,by rw [List.length_set];omega,hmem _ (by omega)⟩
  ·rw [if_neg (by simpa using c),zag (by omega),zag (by omega),zag (by unfold fits;omega)]
   obtain ⟨o',a1,a2,a3⟩:=ih (o.set (((n+1:Nat):Int) - 1).toNat 0) (by rw [List.length_set];omega) (by rw [List.length_set];omega) (hmem 0 (by omega))
   rw [List.length_set] at a2;refine ⟨o',?_,a2,a3⟩
   rw [<- a1];congr 1;omega
theorem zra {L:Int} (hL:1<=L/\L<=4) {w:List Int} (hw:w.length<=999) (h:∀ a∈w,0<=a/\a < L):∃ o,znO L w=some o/\o.length<=w.length+1/\∀ a∈o,0<=a/\a < L:=by
 unfold znO;rw [zag (by unfold room;simp;omega),zag (by simp;unfold fits;omega),List.nil_append]
 exact zty hL w.length w (Nat.le_refl _) (by omega) h
end
theorem zqS {l:L5} {a:Tr ND} {w:List Int} (hl:l.length<=12001) (hz:tsz a<=12001) (hs:Stn l a (l.length - 1)) (hw:w.length<=60):∃ b,zmS l w=some b/\(b=true↔Lg a w):=by
 have hf:((List.replicate ((w.length:Int)+(1:Int)).toNat (false:Bool)).set ((0:Int)).toNat true).length=w.length+1:=by rw [List.length_set,List.length_replicate];omega
 obtain ⟨out,h1,h2,h3⟩:=zrA (w:=w) (l:=l) (by omega) (by omega) (tsz a) a (l.length - 1) _ (by omega) (Nat.le_refl _) hs hf
 refine ⟨ix out (w.length:Int),?_,?_⟩
 ·unfold zmS;refine G_to (by unfold fits;omega) (G_to (by unfold mkOK;omega) (G_to (by rw [List.length_replicate];omega) (G_to (by rw [List.length_replicate];omega) (G_to (by unfold fits;omega) (zaH h1 (G_to (by omega) (G_to (by omega) rfl)))))))
 ·rw [h3 w.length (Nat.le_refl _)];have h0:∀ i:Nat,i<=w.length->(ix ((List.replicate ((w.length:Int)+(1:Int)).toNat (false:Bool)).set ((0:Int)).toNat true) (i:Int)=true↔i=0):=fun i hi=>by
   by_cases c:i=0
   ·subst c;rw [show ((0:Nat):Int)=0 from rfl,zbU (by omega) (by rw [List.length_replicate];omega)];simp
   ·rw [zcf (by omega) (by omega) (by omega),zdF (by omega) (by omega)];simp [c]
  have e0:sub w 0 w.length=w:=by unfold sub;simp
  constructor
  ·rintro ⟨i,hi,h4,h5⟩;rw [h0 i hi] at h4;subst h4;rw [e0] at h5;exact h5
  ·intro h;exact ⟨0,by omega,(h0 0 (by omega)).2 rfl,by rw [e0];exact h⟩
section
variable {d:Dt}
open Classical in
theorem zsC (hd:DOk 3000 badD d) {w:List Int} (hw:∀ a∈w,0<=a/\a < d.1) (hl:w.length<=1000000):zeb d w=some (decide (La d w)):=by
 have hst:=hd.st;have hml:=hd.mkl;have hb:=hd.tab.wlkb hst.1 hst.2 hw;unfold zeb;refine zaH (znT (d:=d) hd.tab hw (by omega) hst.1 hst.2) (G_to (by omega) ?_)
 have:decide (ix d.2.2.2.1 (wlk d.2.2.1 d.2.1 w)=1)=decide (La d w):=decide_eq_decide.2 ⟨fun h=>⟨hw,h⟩,fun h=>h.2⟩
 rw [this]
open Classical in
theorem zq9 (hd:DOk 3000 badD d) {l:L5} {a:Tr ND} (hl:l.length<=12001) (hz:tsz a<=12001) (hs:Stn l a (l.length - 1)) (hL:∀ w,Lg a w↔La d w) {w:List Int} (hw:∀ a∈w,0<=a/\a < d.1) (hwl:w.length<=60):∃ b,zeb d w=some b/\zmS l w=some b:=by
 obtain ⟨b,h1,h2⟩:=zqS hl hz hs hwl;refine ⟨b,?_,h1⟩
 rw [zsC hd hw (by omega)]
 congr 1
 rw [Bool.eq_iff_iff,decide_eq_true_iff,h2,hL]
theorem zsD (hd:DOk 3000 badD d) {l:L5} {a:Tr ND} (hl:l.length<=12001) (hz:tsz a<=12001) (hs:Stn l a (l.length - 1)) (hL:∀ w,Lg a w↔La d w) {w:List Int}:∀ (k i:Nat) (own:List Int),30 - i=k->i<=30->own.length<=i->(∀ a∈own,0<=a/\a < d.1)->zbF d w l i own=some true:=by
 have h1:=hd.let1;intro k
 induction k with
 | zero=>
  intro i own hk hi hol ho;obtain rfl:i=30:=by omega
  rw [zdg];unfold zaA;rw [if_neg (by decide)]
  refine zaH zpz ?_
  by_cases c:mayE d.1 w=0
  ·rw [if_neg (by simpa using c)]
   have hm:=zsb c;obtain ⟨b,b1,b2⟩:=zq9 hd hl hz hs hL hm.2.2 (by omega)
   refine zaH b1 (zaH b2 ?_)
   simp
  ·rw [if_pos (by simpa using c)]
 | succ k ih=>
  intro i own hk hi hol ho;obtain ⟨b,b1,b2⟩:=zq9 hd hl hz hs hL ho (by omega)
  obtain ⟨o,o1,o2,o3⟩:=zra h1 (w:=own) (by omega) ho
  rw [zdg];unfold zaA;rw [if_pos (by rw [decide_eq_true_iff];omega)]
  refine zaH b1 (zaH b2 ?_)
  rw [if_neg (by simp)]
  refine zaH o1 (G_to (by unfold fits;omega) ?_)
  exact ih (i+1) o (by omega) (by omega) (by omega) o3
end
theorem law_true (d:Dt) (w:List Int) (sd:Sml (.pair (.int .i64) (.pair (.int .i64) (.pair (.list (.list (.int .i64))) (.pair (.list (.int .i64)) .unit)))) d) (sw:Sml (.list (.int .i64)) w):zeh d w=some true:=by
 have b1:d.2.2.1.length * 24<=140737488351232:=sd.2.2.1.1;have b2:∀ w∈d.2.2.1,w.length * 8<=140737488351232:=fun w hw=>(sd.2.2.1.2 w hw).1
 have b3:d.2.2.2.1.length * 8<=140737488351232:=sd.2.2.2.1.1;have hdo:ziS d=some d:=by
  unfold ziS;exact zaH (zqL b1 b2) (zaH (zoA b3) rfl)
 have hS:zlS d d=some true:=zoJ (by omega) (by omega) (fun r hr=>by have:=b2 r hr;omega)
 have rchk:zjn d=some (detE 3000 badD d):=znU;unfold zeh;refine zaH hdo ?_
 by_cases c:detE 3000 badD d=0
 ·have hd:=zrx c;by_cases h3:d.2.2.1.length<=3
  ·obtain ⟨s,s1,s2,dp,s3,s4⟩:=zrg hd h3;obtain ⟨l,t,p1,p2,p3,p4,p5⟩:=s4.parse (by omega) (by omega)
   refine zaH s1 (zaH hS (zaH rchk ?_))
   rw [if_pos (by simpa using c)]
   unfold zbl;rw [if_neg (by rw [decide_eq_true_iff];omega)]
   unfold zbm;rw [if_neg (by simp),if_neg (by simpa using c)]
   refine zaH p1 ?_
   rw [if_neg (by simp),if_neg (by simp)]
   exact zsD hd (by omega) (by omega) p2 p5 _ 0 [] rfl (by omega) (by simp) (fun a ha=>by cases ha)
  ·have hT:zbD d=some ([],1):=by
    unfold zbD;refine zaH (zfe (d:=d)) ?_
    rw [if_neg (by simpa using c),if_pos (by rw [decide_eq_true_iff];omega)]
   refine zaH hT (zaH hS (zaH rchk ?_))
   rw [if_pos (by simpa using c)]
   unfold zbl;rw [if_pos (by rw [decide_eq_true_iff];omega)]
   unfold zbm;rw [if_neg (by simp),if_pos (by simp),if_pos (by simp)]
   simp
 ·have hT:zbD d=some ([],detE 3000 badD d):=by
   unfold zbD;refine zaH (zfe (d:=d)) ?_
   rw [if_pos (by simpa using c)]
  refine zaH hT (zaH hS (zaH rchk ?_))
  rw [if_neg (by simpa using c)]
  unfold zbl;rw [if_neg (by simp)]
  unfold zbm;rw [if_neg (by simp),if_pos (by simpa using c),if_pos (by simp)]
  simp
end Go.Proofs.Ytdkmmmmdmkoepaa.regularTextW
