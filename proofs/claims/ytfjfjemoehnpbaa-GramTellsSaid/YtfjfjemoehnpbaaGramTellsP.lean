import Derived.Test.YtfjfjemoehnpbaaGramTellsD
set_option maxHeartbeats 1000000
set_option maxRecDepth 20000
set_option linter.unusedSimpArgs false
set_option linter.unusedVariables false
set_option linter.unusedSectionVars false
namespace Go.Proofs.Ytfjfjemoehnpbaa.gramTellsW
open Go Go.Ab
def zeP (o:Option Bool) (P:Prop):Prop:=∃ b,o=some b/\(b=true↔P)
theorem zeP.of {b:Bool} {P:Prop} (h:b=true↔P):zeP (some b) P:=⟨b,rfl,h⟩
theorem zeP.dec {P Q:Prop} [Decidable P] (h:P↔Q):zeP (some (decide P)) Q:=⟨_,rfl,by simpa using h⟩
theorem zeP.iff {o:Option Bool} {P Q:Prop} (h:zeP o P) (k:P↔Q):zeP o Q:=let ⟨b,h1,h2⟩:=h;⟨b,h1,h2.trans k⟩
theorem zeP.eq {o:Option Bool} {P:Prop} [Decidable P] (h:zeP o P):o=some (decide P):=by
 obtain ⟨b,rfl,hb⟩:=h;by_cases hp:P
 ·simp [hp,hb.2 hp]
 ·have:b=false:=by cases b;rfl;exact absurd (hb.1 rfl) hp
  simp [hp,this]
theorem zeP.to {R:Type} {o:Option Bool} {P:Prop} {k1 k2 x:Option R} (h:zeP o P) (h1:P->k1=x) (h2 : ¬ P->k2=x):(o.bind fun y=>if y=true then k1 else k2)=x:=by
 obtain ⟨b,rfl,hb⟩:=h;refine zr0 rfl ?_;cases b
 ·exact h2 fun hp=>by simpa using hb.2 hp
 ·exact h1 (hb.1 rfl)
theorem zeP.bind {R:Type} {o:Option Bool} {P:Prop} {k:Bool->Option R} {x:Option R} (h:zeP o P) (h1:∀ b,(b=true↔P)->k b=x):o.bind k=x:=by
 obtain ⟨b,rfl,hb⟩:=h;exact h1 b hb
section
variable {α C:Type} [Inhabited α]
theorem zsg {l:List α} {P:α->Prop}:(∃ x∈l,P x)↔∃ i:Int,0<=i/\i < l.length/\P (ix l i):=by
 constructor
 ·rintro ⟨x,hx,hp⟩;obtain ⟨i,hi,rfl⟩:=List.mem_iff_getElem.1 hx;refine ⟨i,by omega,by omega,?_⟩
  rwa [zeA (by omega) (by omega)]
 ·rintro ⟨i,h0,h1,hp⟩;exact ⟨_,zkJ h0 h1,hp⟩
theorem zoX {s:List α} {f:α->Option Bool} {L:Int->Option Int} {P:α->Prop} (hs:s.length<=4611686018427387904)
  (hL:∀ t,L t=if decide (t < (s.length:Int))=true then G (0<=t/\t < (s.length:Int)) ((f (ix s t)).bind fun y=>if y=true then some t else G (fits (t+1)) (L (t+1))) else some (-1))
  (hf:∀ x∈s,zeP (f x) (P x)):∀ (n:Nat) (t:Int),0<=t->t<=s.length->(s.length - t).toNat=n->
   ∃ i,L t=some i/\((i = -1/\∀ j:Int,t<=j->j < s.length -> ¬ P (ix s j))\/(t<=i/\i < s.length/\P (ix s i)/\∀ j:Int,t<=j->j < i -> ¬ P (ix s j))):=by
 intro n;induction n with
 | zero=>
  intro t h0 h1 hn;refine ⟨-1,?_,.inl ⟨rfl,fun j a b=>by omega⟩⟩;rw [hL,if_neg (by simp;omega)]
 | succ n ih=>
  intro t h0 h1 hn;rw [hL,if_pos (by simp;omega),zaz (by omega)];obtain ⟨b,hb,hbp⟩:=hf _ (zkJ h0 (by omega:t < s.length));rw [hb];cases b with
  | true=>exact ⟨t,rfl,.inr ⟨by omega,by omega,hbp.1 rfl,fun j a b=>by omega⟩⟩
  | false=>
   have hnp : ¬ P (ix s t):=fun hp=>by simpa using hbp.2 hp
   obtain ⟨i,hi,hc⟩:=ih (t+1) (by omega) (by omega) (by omega);refine ⟨i,?_,?_⟩
   ·refine (if_neg (by simp):(if false=true then some t else G (fits (t+1)) (L (t+1)))=_).trans ?_;rw [zaz (by unfold fits;omega),hi]
   ·rcases hc with ⟨h2,h3⟩ | ⟨h2,h3,h4,h5⟩
    ·refine .inl ⟨h2,fun j a b => ?_⟩;by_cases e:j=t
     ·rw [e];exact hnp
     ·exact h3 j (by omega) b
    ·refine .inr ⟨by omega,h3,h4,fun j a b => ?_⟩;by_cases e:j=t
     ·rw [e];exact hnp
     ·exact h5 j (by omega) b
theorem zkn {s:List α} {f:α->Option Bool} {L:Int->Option Int} {P:α->Prop}
  (hL:∀ t,L t=if decide (t < (s.length:Int))=true then G (0<=t/\t < (s.length:Int)) ((f (ix s t)).bind fun y=>if y=true then some t else G (fits (t+1)) (L (t+1))) else some (-1))
  (hs:s.length<=4611686018427387904) (hf:∀ x∈s,zeP (f x) (P x)):zeP ((L 0).bind fun y=>some (decide ((0:Int)<=y))) (∃ x∈s,P x):=by
 obtain ⟨i,hi,hc⟩:=zoX hs hL hf _ 0 (by omega) (by omega) rfl;rw [hi];refine ⟨decide (0<=i),rfl,?_⟩;rw [decide_eq_true_iff,zsg];rcases hc with ⟨h2,h3⟩ | ⟨h2,h3,h4,h5⟩
 ·constructor
  ·intro h;omega
  ·rintro ⟨j,h0,h1,hp⟩;exact absurd hp (h3 j h0 h1)
 ·exact ⟨fun _=>⟨i,by omega,h3,h4⟩,fun _=>by omega⟩
theorem zpr {s:List α} {c:C} {f:α->C->Option (Bool×C)} {L:Int->C->Option (Int×C)} {P:α->Prop}
  (hL:∀ t c,L t c=if decide (t < (s.length:Int))=true then G (0<=t/\t < (s.length:Int)) ((f (ix s t) c).bind fun y=>if y.1=true then some (t,y.2) else G (fits (t+1)) (L (t+1) y.2)) else some (-1,c))
  (hs:s.length<=4611686018427387904) (hf:∀ x∈s,∃ b,f x c=some (b,c)/\(b=true↔P x)):∃ b,((L 0 c).bind fun y=>some (decide ((0:Int)<=y.1),y.2))=some (b,c)/\(b=true↔∃ x∈s,P x):=by
 have key:∀ (n:Nat) (t:Int),0<=t->t<=s.length->(s.length - t).toNat=n->
   ∃ i,L t c=some (i,c)/\((i = -1/\∀ j:Int,t<=j->j < s.length -> ¬ P (ix s j))\/(t<=i/\i < s.length/\P (ix s i))):=by
  intro n;induction n with
  | zero=>
   intro t h0 h1 hn;refine ⟨-1,?_,.inl ⟨rfl,fun j a b=>by omega⟩⟩;rw [hL,if_neg (by simp;omega)]
  | succ n ih=>
   intro t h0 h1 hn;rw [hL,if_pos (by simp;omega),zaz (by omega)];obtain ⟨b,hb,hbp⟩:=hf _ (zkJ h0 (by omega:t < s.length));rw [hb];cases b with
   | true=>exact ⟨t,rfl,.inr ⟨by omega,by omega,hbp.1 rfl⟩⟩
   | false=>
    have hnp : ¬ P (ix s t):=fun hp=>by simpa using hbp.2 hp
    obtain ⟨i,hi,hc⟩:=ih (t+1) (by omega) (by omega) (by omega);refine ⟨i,?_,?_⟩
    ·refine (if_neg (by simp):(if false=true then some (t,c) else G (fits (t+1)) (L (t+1) c))=_).trans ?_;rw [zaz (by unfold fits;omega),hi]
    ·rcases hc with ⟨h2,h3⟩ | ⟨h2,h3,h4⟩
     ·refine .inl ⟨h2,fun j a b => ?_⟩;by_cases e:j=t
      ·rw [e];exact hnp
      ·exact h3 j (by omega) b
     ·exact .inr ⟨by omega,h3,h4⟩
 obtain ⟨i,hi,hc⟩:=key _ 0 (by omega) (by omega) rfl;rw [hi];refine ⟨decide (0<=i),rfl,?_⟩;rw [decide_eq_true_iff,zsg];rcases hc with ⟨h2,h3⟩ | ⟨h2,h3,h4⟩
 ·constructor
  ·intro h;omega
  ·rintro ⟨j,h0,h1,hp⟩;exact absurd hp (h3 j h0 h1)
 ·exact ⟨fun _=>⟨i,by omega,h3,h4⟩,fun _=>by omega⟩
end
theorem zsG {R:Type} {len:Int} {L:Int->Option R} {bad:Int->Prop} {x:Option R} {lo:Int} (h0:lo<=len)
  (hs:∀ t,lo<=t->t < len->(bad t->L t=x)/\(¬ bad t->L t=L (t+1))) (hf:(∀ t,lo<=t->t < len -> ¬ bad t)->L len=x):L lo=x:=by
 have key:∀ (n:Nat) (t:Int),lo<=t->t<=len->(len - t).toNat=n->(∀ j,lo<=j->j < t -> ¬ bad j)->L t=x:=by
  intro n;induction n with
  | zero=>
   intro t h1 h2 hn h;obtain rfl:t=len:=by omega
   exact hf h
  | succ n ih=>
   intro t h1 h2 hn h;by_cases hb:bad t
   ·exact (hs t h1 (by omega)).1 hb
   ·rw [(hs t h1 (by omega)).2 hb];refine ih (t+1) (by omega) (by omega) (by omega) fun j a b => ?_
    by_cases e:j=t
    ·rw [e];exact hb
    ·exact h j a (by omega)
 exact key _ lo (Int.le_refl _) h0 rfl (fun j a b=>by omega)
theorem fold_to {R S:Type} {len:Int} {L:Int->S->Option R} {f:Int->S->S} {lo:Int} {I:Int->S->Prop} {s:S} (h0:lo<=len) (hI:I lo s)
  (hs:∀ t s,lo<=t->t < len->I t s->L t s=L (t+1) (f t s)/\I (t+1) (f t s)):∃ s',I len s'/\L lo s=L len s':=by
 have key:∀ (n:Nat) (t:Int) (s:S),lo<=t->t<=len->(len - t).toNat=n->I t s->∃ s',I len s'/\L t s=L len s':=by
  intro n;induction n with
  | zero=>
   intro t s h1 h2 hn h;obtain rfl:t=len:=by omega
   exact ⟨s,h,rfl⟩
  | succ n ih=>
   intro t s h1 h2 hn h;obtain ⟨e,h3⟩:=hs t s h1 (by omega) h;obtain ⟨s',h4,h5⟩:=ih (t+1) _ (by omega) (by omega) (by omega) h3;exact ⟨s',h4,e.trans h5⟩
 exact key _ lo s (Int.le_refl _) h0 rfl hI
theorem zbA {α:Type}:∀ {ks:List α} {x:α},za3 ks x=none↔x∉ks
 | [],x=>by simp [za3]
 | y::ys,x=>by
  unfold za3;by_cases h:y=x
  ·rw [if_pos h];simp [h]
  ·rw [if_neg h,Option.map_eq_none_iff,zbA];simp [Ne.symm h]
abbrev ones {α:Type} (ks:List α):List Int:=List.replicate ks.length 1
theorem zty {α:Type} {ks:List α} {x:α}:(mget ks (ones ks) x 0=0)↔x∉ks:=by
 unfold mget;cases h:za3 ks x with
 | none=>simp [zbA.1 h]
 | some j=>
  have hx:x∈ks:=by
   refine Classical.byContradiction fun hn => ?_
   rw [zbA.2 hn] at h;cases h
  have:=zdr h;simp [hx,this]
theorem zmE {α:Type} {ks:List α} {x:α} (h:x∉ks):zb1 ks x=ks++[x]:=by
 unfold zb1;rw [zbA.2 h]
theorem ztA {α:Type} {ks:List α} {x:α} (h:x∉ks):zks ks (ones ks) x 1=ones (ks++[x]):=by
 unfold zks;rw [zbA.2 h];show List.replicate ks.length 1++[1]=List.replicate (ks++[x]).length 1;rw [List.length_append,List.length_singleton,List.replicate_succ']
theorem zqx {α:Type} [DecidableEq α]:∀ {l U:List α},l.Nodup->(∀ x∈l,x∈U)->l.length<=U.length
 | [],_,_,_=>Nat.zero_le _
 | a::l,U,hn,hs=>by
  have ha:=hs a (by simp);obtain ⟨h1,h2⟩:=List.nodup_cons.1 hn;have:=zqx (U:=U.erase a) h2 (fun x hx=>(List.mem_erase_of_ne (by rintro rfl;exact h1 hx)).2 (hs x (by simp [hx])));rw [List.length_erase_of_mem ha] at this;have hp:0 < U.length:=List.length_pos_of_mem ha;rw [List.length_cons];omega
theorem zs9 {l:List Int} {n:Nat} (h:l.Nodup) (hb:∀ x∈l,0<=x/\x < n):l.length<=n:=by
 have:=zqx (U:=(List.range n).map Int.ofNat) h (fun x hx=>by
  have:=hb x hx;exact List.mem_map.2 ⟨x.toNat,List.mem_range.2 (by omega),by show ((x.toNat:Nat):Int)=x;omega⟩)
 simpa using this
theorem zmC {α:Type} {ks:List α} {x:α} (h:x∈ks):∃ j,za3 ks x=some j:=by
 cases e:za3 ks x with
 | none=>exact absurd h (zbA.1 e)
 | some j=>exact ⟨j,rfl⟩
theorem zhD {α:Type} (ks:List α) (x:α):za3 (x::ks) x=some 0:=by unfold za3;rw [if_pos rfl]
theorem zhE {α:Type} {ks:List α} {x y:α} (h:y≠x):za3 (y::ks) x=(za3 ks x).map (·+1):=by
 rw [za3,if_neg h]
theorem zmB {α:Type}:∀ {ks:List α} {x:α} {j:Nat} (l:List α),za3 ks x=some j->za3 (ks++l) x=some j
 | [],_,_,_,h=>by cases h
 | y::ks,x,j,l,h=>by
  rw [List.cons_append];by_cases e:y=x
  ·subst e;rw [zhD] at h ⊢;exact h
  ·rw [zhE e] at h ⊢;cases hm:za3 ks x with
   | none=>rw [hm] at h;cases h
   | some i=>rw [hm] at h;rw [zmB l hm];exact h
theorem zmD {α:Type}:∀ {ks:List α} {x:α},x∉ks->za3 (ks++[x]) x=some ks.length
 | [],x,_=>zhD _ _
 | y::ks,x,h=>by
  have hy:y≠x:=by rintro rfl;exact h (by simp)
  rw [List.cons_append,zhE hy,zmD (fun hh=>h (by simp [hh]))];rfl
theorem zon {α:Type}:∀ {ks:List α} {x:α} {k:Nat},ks[k]? =some x->(∀ j,j < k->ks[j]? ≠some x)->za3 ks x=some k
 | [],_,_,h,_=>by simp at h
 | y::ks,x,k,h,hf=>by
  cases k with
  | zero=>
   have:y=x:=by simpa using h
   subst this;exact zhD _ _
  | succ k=>
   have hy:y≠x:=by have:=hf 0 (by omega);simpa using this
   rw [zhE hy,zon (k:=k) (by simpa using h) (fun j hj=>by have:=hf (j+1) (by omega);simpa using this)];rfl
theorem zqm {α:Type} {ks:List α} {x y:α} {j:Nat} (h:za3 ks x=some j) (k:za3 ks y=some j):x=y:=by
 have:=zeF h;rw [zeF k] at this;injection this with this;exact this.symm
theorem zst {α:Type} {ks:List α} (hn:ks.Nodup) {j:Nat} (hj:j < ks.length):za3 ks ks[j]=some j:=
 zon (by simp) fun i hi e=>by
  have hi':i < ks.length:=by omega
  rw [List.getElem?_eq_getElem hi'] at e;exact List.pairwise_iff_getElem.1 hn i j hi' hj hi (Option.some.inj e)
theorem zqn {α β:Type} (f:α->β):∀ {ks:List α} {x:α},(∀ y∈ks,f y=f x->y=x)->za3 (ks.map f) (f x)=za3 ks x
 | [],_,_=>rfl
 | y::ks,x,h=>by
  have ih:=zqn f (ks:=ks) (x:=x) (fun z hz=>h z (by simp [hz]));rw [List.map_cons];by_cases e:y=x
  ·subst e;rw [zhD,zhD]
  ·rw [zhE e,zhE (fun hh=>e (h y (by simp) hh)),ih]
def iota (n:Nat):List Int:=(List.range n).map fun j:Nat=>(j:Int)
theorem iota_len (n:Nat):(iota n).length=n:=by simp [iota]
theorem zp7 (n:Nat):iota (n+1)=iota n++[(n:Int)]:=by simp [iota,List.range_succ]
theorem ztx {α:Type} {ks:List α} {x:α} {j:Nat} (h:za3 ks x=some j):mget ks (iota ks.length) x 0=j:=by
 have:=zdr h;unfold mget;rw [h];simp [iota,this]
theorem zjd {α:Type} {ks:List α} {x:α}:mhas ks x=true↔x∈ks:=by
 unfold mhas;cases e:za3 ks x with
 | none=>simp [zbA.1 e]
 | some j=>
  have:=zeF e;simp [List.mem_of_getElem? this]
theorem zs8 {α:Type} {ks:List α} {x:α} (h:x∉ks):zks ks (iota ks.length) x ks.length=iota (ks++[x]).length:=by
 unfold zks;rw [zbA.2 h,List.length_append,List.length_singleton,zp7]
theorem znf {α:Type} [DecidableEq α]:∀ {l U:List α},U.Nodup->(∀ x∈U,x∈l)->l.length<=U.length->l.Nodup
 | [],_,_,_,_=>List.nodup_nil
 | a::l,U,hU,hs,hl=>by
  have ha:a∉l:=fun ha=>by
   have:=zqx (l:=U) (U:=l) hU (fun x hx=>by
    rcases List.mem_cons.1 (hs x hx) with rfl | h
    ·exact ha
    ·exact h)
   rw [List.length_cons] at hl;omega
  refine List.nodup_cons.2 ⟨ha,?_⟩;refine znf (U:=U.erase a) (hU.erase a) (fun x hx => ?_) ?_
  ·have hne:x≠a:=((List.Nodup.mem_erase_iff hU).1 hx).1;rcases List.mem_cons.1 (hs x (List.mem_of_mem_erase hx)) with h | h
   ·exact absurd h hne
   ·exact h
  ·have:U.length - 1<=(U.erase a).length:=by
    by_cases h:a∈U
    ·rw [List.length_erase_of_mem h];omega
    ·rw [List.erase_of_not_mem h];omega
   rw [List.length_cons] at hl;omega
theorem ziZ {a b:List Int} (hl:a.length=b.length):∀ (n:Nat) (i:Int),0<=i->i<=a.length->(a.length - i).toNat=n->a.length<=2305843009213693951->(∀ j:Int,0<=j->j < i->ix a j=ix b j)->ze5 a b i=some (decide (a=b)):=by
 intro n;induction n with
 | zero=>
  intro i h0 h1 hn hs h;rw [zgL];unfold zbG
  (try dsimp only);(repeat' first | (with_reducible refine G_to ?_ ?_;focus (first | omega | (unfold fits;omega) | (unfold room;(try simp only [List.length_append,List.length_cons,List.length_nil]);omega))) | (with_reducible refine zcL ?_ ?_) | (with_reducible refine zda ?_) | (with_reducible refine zc9 ?_) | (with_reducible refine zfh (fun _ => ?_) (fun _ => ?_)))<;>try (exfalso;omega)
  ·rw [Option.some_inj,eq_comm,decide_eq_true_iff];exact zqe hl (fun j a b=>h j a (by omega))
 | succ n ih=>
  intro i h0 h1 hn hs h;rw [zgL];unfold zbG
  (try dsimp only);(repeat' first | (with_reducible refine G_to ?_ ?_;focus (first | omega | (unfold fits;omega) | (unfold room;(try simp only [List.length_append,List.length_cons,List.length_nil]);omega))) | (with_reducible refine zcL ?_ ?_) | (with_reducible refine zda ?_) | (with_reducible refine zc9 ?_) | (with_reducible refine zfh (fun _ => ?_) (fun _ => ?_)))<;>try (exfalso;omega)
  ·rw [Option.some_inj,eq_comm,decide_eq_false_iff_not];rintro rfl;contradiction
  ·rename_i hx;exact ih _ (by omega) (by omega) (by omega) hs (zhY h (Decidable.not_not.1 hx))
theorem zlU {a b:List Int} (hs:a.length<=2305843009213693951):zji a b=some (decide (a=b)):=by
 unfold zji
 (try dsimp only);(repeat' first | (with_reducible refine G_to ?_ ?_;focus (first | omega | (unfold fits;omega) | (unfold room;(try simp only [List.length_append,List.length_cons,List.length_nil]);omega))) | (with_reducible refine zcL ?_ ?_) | (with_reducible refine zda ?_) | (with_reducible refine zc9 ?_) | (with_reducible refine zfh (fun _ => ?_) (fun _ => ?_)))<;>try (exfalso;omega)
 ·rw [Option.some_inj,eq_comm,decide_eq_false_iff_not];rintro rfl;contradiction
 ·exact ziZ (by omega) _ 0 (by omega) (by omega) rfl hs (fun j a b=>by omega)
theorem zi1 {letters:Int} {w:List Int} (hL:1<=letters/\letters<=4) (hw:w.length<=(60:Int)):∀ (n:Nat) (i:Int),0<=i->i<=w.length->(w.length - i).toNat=n->(∀ j:Int,0<=j->j < i->0<=ix w j/\ix w j < letters)->ze9 letters w i=some (mayE letters w):=by
 intro n;induction n with
 | zero=>
  intro i h0 h1 hn h;rw [zgO];unfold zbI
  (try dsimp only);(repeat' first | (with_reducible refine G_to ?_ ?_;focus (first | omega | (unfold fits;omega) | (unfold room;(try simp only [List.length_append,List.length_cons,List.length_nil]);omega))) | (with_reducible refine zcL ?_ ?_) | (with_reducible refine zda ?_) | (with_reducible refine zc9 ?_) | (with_reducible refine zfh (fun _ => ?_) (fun _ => ?_)))<;>try (exfalso;omega)
  ·rw [zqk hL hw (fun j a b=>h j a (by omega))]
 | succ n ih=>
  intro i h0 h1 hn h;rw [zgO];unfold zbI
  (try dsimp only);(repeat' first | (with_reducible refine G_to ?_ ?_;focus (first | omega | (unfold fits;omega) | (unfold room;(try simp only [List.length_append,List.length_cons,List.length_nil]);omega))) | (with_reducible refine zcL ?_ ?_) | (with_reducible refine zda ?_) | (with_reducible refine zc9 ?_) | (with_reducible refine zfh (fun _ => ?_) (fun _ => ?_)))<;>try (exfalso;omega)
  ·rw [zjc hL hw (i:=i) (by omega) (by omega)]
  ·rw [zjc hL hw (i:=i) (by omega) (by omega)]
  ·exact ih _ (by omega) (by omega) (by omega) (zhY h (by omega))
theorem zfa {letters:Int} {w:List Int}:zjl letters w=some (mayE letters w):=by
 unfold zjl
 (try dsimp only);(repeat' first | (with_reducible refine G_to ?_ ?_;focus (first | omega | (unfold fits;omega) | (unfold room;(try simp only [List.length_append,List.length_cons,List.length_nil]);omega))) | (with_reducible refine zcL ?_ ?_) | (with_reducible refine zda ?_) | (with_reducible refine zc9 ?_) | (with_reducible refine zfh (fun _ => ?_) (fun _ => ?_)))<;>try (exfalso;omega)
 ·rw [zgo (by omega)]
 ·rw [zgo (by omega)]
 ·rw [zmA (by omega) (by omega)]
 ·exact zi1 (by omega) (by omega) _ 0 (by omega) (by omega) rfl (fun j a b=>by omega)
theorem zku {letters:Int} {w:List Int} (hL:1<=letters/\letters<=4) (hw:w.length<=(60:Int)):∀ (n:Nat) (i:Int),0<=i->i<=w.length->(w.length - i).toNat=n->(∀ j:Int,0<=j->j < i->0<=ix w j/\ix w j < letters)->zhQ letters w i=some (mayE letters w):=by
 intro n;induction n with
 | zero=>
  intro i h0 h1 hn h;rw [ziD];unfold zch
  (try dsimp only);(repeat' first | (with_reducible refine G_to ?_ ?_;focus (first | omega | (unfold fits;omega) | (unfold room;(try simp only [List.length_append,List.length_cons,List.length_nil]);omega))) | (with_reducible refine zcL ?_ ?_) | (with_reducible refine zda ?_) | (with_reducible refine zc9 ?_) | (with_reducible refine zfh (fun _ => ?_) (fun _ => ?_)))<;>try (exfalso;omega)
  ·rw [zqk hL hw (fun j a b=>h j a (by omega))]
 | succ n ih=>
  intro i h0 h1 hn h;rw [ziD];unfold zch
  (try dsimp only);(repeat' first | (with_reducible refine G_to ?_ ?_;focus (first | omega | (unfold fits;omega) | (unfold room;(try simp only [List.length_append,List.length_cons,List.length_nil]);omega))) | (with_reducible refine zcL ?_ ?_) | (with_reducible refine zda ?_) | (with_reducible refine zc9 ?_) | (with_reducible refine zfh (fun _ => ?_) (fun _ => ?_)))<;>try (exfalso;omega)
  ·rw [zjc hL hw (i:=i) (by omega) (by omega)]
  ·rw [zjc hL hw (i:=i) (by omega) (by omega)]
  ·exact ih _ (by omega) (by omega) (by omega) (zhY h (by omega))
theorem zg5 {letters:Int} {w:List Int}:zmL letters w=some (mayE letters w):=by
 unfold zmL
 (try dsimp only);(repeat' first | (with_reducible refine G_to ?_ ?_;focus (first | omega | (unfold fits;omega) | (unfold room;(try simp only [List.length_append,List.length_cons,List.length_nil]);omega))) | (with_reducible refine zcL ?_ ?_) | (with_reducible refine zda ?_) | (with_reducible refine zc9 ?_) | (with_reducible refine zfh (fun _ => ?_) (fun _ => ?_)))<;>try (exfalso;omega)
 ·rw [zgo (by omega)]
 ·rw [zgo (by omega)]
 ·rw [zmA (by omega) (by omega)]
 ·exact zku (by omega) (by omega) _ 0 (by omega) (by omega) rfl (fun j a b=>by omega)
abbrev Rul:=Int×List Int×Unit
abbrev Gm:=Int×Int×List Rul×Unit
def SgB (g:Gm) (s:Int):Prop:=s < 0\/g.1+g.2.1<=s
structure RlOk (g:Gm) (r:Rul):Prop where
 f0:0<=r.1
 f1:r.1 < g.2.1
 l:r.2.1.length<=3
 s:∀ x∈r.2.1,0<=x/\x < g.1+g.2.1
structure GOk (g:Gm):Prop where
 a0:1<=g.1
 a1:g.1<=4
 n0:1<=g.2.1
 n1:g.2.1<=6
 ln:g.2.2.1.length<=20
 r:∀ k:Int,0<=k->k < g.2.2.1.length->RlOk g (ix g.2.2.1 k)
section
variable {g:Gm}
theorem zqT (ha:1<=g.1) (ha1:g.1<=4) (hn0:1<=g.2.1) (hn1:g.2.1<=6) {i:Int} (hl:(ix g.2.2.1 i).2.1.length<=3) {r6:Int->Option Int} (i0:0<=i) (i1:i < 1000):
  ((∃ x∈(ix g.2.2.1 i).2.1,SgB g x)->zbg g i r6 0=some 2)/\((¬ ∃ x∈(ix g.2.2.1 i).2.1,SgB g x)->zbg g i r6 0=r6 (i+1)):=by
 have key:∀ x,((∃ x∈(ix g.2.2.1 i).2.1,SgB g x)->some 2=x)->((¬ ∃ x∈(ix g.2.2.1 i).2.1,SgB g x)->r6 (i+1)=x)->zbg g i r6 0=x:=fun x h1 h2=>by
  refine zsG (len:=((ix g.2.2.1 i).2.1.length:Int)) (bad:=fun t=>SgB g (ix (ix g.2.2.1 i).2.1 t)) (lo:=0) (by omega) (fun t t0 t1=>⟨fun hb => ?_,fun hb => ?_⟩) (fun hh => ?_)
  ·have hb':SgB g (ix (ix g.2.2.1 i).2.1 t):=hb;rw [<- h1 ⟨_,zkJ t0 t1,hb⟩];unfold SgB at hb';rw [zdf];unfold za6
   (try dsimp only);(repeat' first | (with_reducible refine G_to ?_ ?_;focus (first | omega | (unfold fits;omega) | (unfold room;(try simp only [List.length_append,List.length_cons,List.length_nil]);omega))) | (with_reducible refine zcL ?_ ?_) | (with_reducible refine zda ?_) | (with_reducible refine zc9 ?_) | (with_reducible refine zfh (fun _ => ?_) (fun _ => ?_)))<;>try (exfalso;omega)
   all_goals rfl
  ·have hb' : ¬ SgB g (ix (ix g.2.2.1 i).2.1 t):=hb;unfold SgB at hb'
   conv=>lhs;rw [zdf];unfold za6
   (try dsimp only);(repeat' first | (with_reducible refine G_to ?_ ?_;focus (first | omega | (unfold fits;omega) | (unfold room;(try simp only [List.length_append,List.length_cons,List.length_nil]);omega))) | (with_reducible refine zcL ?_ ?_) | (with_reducible refine zda ?_) | (with_reducible refine zc9 ?_) | (with_reducible refine zfh (fun _ => ?_) (fun _ => ?_)))<;>try (exfalso;omega)
   all_goals rfl
  ·rw [zdf];unfold za6
   (try dsimp only);(repeat' first | (with_reducible refine G_to ?_ ?_;focus (first | omega | (unfold fits;omega) | (unfold room;(try simp only [List.length_append,List.length_cons,List.length_nil]);omega))) | (with_reducible refine zcL ?_ ?_) | (with_reducible refine zda ?_) | (with_reducible refine zc9 ?_) | (with_reducible refine zfh (fun _ => ?_) (fun _ => ?_)))<;>try (exfalso;omega)
   refine h2 fun h => ?_
   obtain ⟨j,j0,j1,hj⟩:=zsg.1 h;exact hh j j0 j1 hj
 exact ⟨fun h=>(key _ (fun _=>rfl) (fun h2=>absurd h h2)),fun h=>(key _ (fun h2=>absurd h2 h) (fun _=>rfl))⟩
theorem zpa (ha:1<=g.1) (ha1:g.1<=4) (hn0:1<=g.2.1) (hn1:g.2.1<=6) {l:List Int} (hl:l.length<=3):zeP (zci l g) (∃ x∈l,SgB g x):=
 zkn (f:=fun x=>zdX x g) (zfo l g) (by omega) (fun x _=>by
  unfold zdX SgB;by_cases h:x < 0
  ·rw [if_pos (decide_eq_true h)];exact zeP.of (by simp [h])
  ·rw [if_neg (by simpa using h),zaz (by unfold fits;omega)];exact zeP.dec (by simp [h]))
theorem zoJ:∃ e,zbN g=some e/\zhL g=some e/\(e=0->GOk g):=by
 unfold zbN zhL;by_cases c1:g.1 < 1
 ·exact ⟨2,by rw [if_pos (decide_eq_true c1)],by rw [if_pos (decide_eq_true c1)],by omega⟩
 simp only [if_neg (show ¬ decide (g.1 < 1)=true by simpa using c1)];by_cases c2:4 < g.1
 ·exact ⟨2,by rw [if_pos (decide_eq_true c2)],by rw [if_pos (decide_eq_true c2)],by omega⟩
 simp only [if_neg (show ¬ decide (4 < g.1)=true by simpa using c2)];by_cases c3:g.2.1 < 1
 ·exact ⟨1,by rw [if_pos (decide_eq_true c3)],by rw [if_pos (decide_eq_true c3)],by omega⟩
 simp only [if_neg (show ¬ decide (g.2.1 < 1)=true by simpa using c3)];by_cases c4:6 < g.2.1
 ·exact ⟨1,by rw [if_pos (decide_eq_true c4)],by rw [if_pos (decide_eq_true c4)],by omega⟩
 simp only [if_neg (show ¬ decide (6 < g.2.1)=true by simpa using c4)];by_cases c5:(20:Int) < g.2.2.1.length
 ·exact ⟨1,by rw [if_pos (decide_eq_true c5)],by rw [if_pos (decide_eq_true c5)],by omega⟩
 simp only [if_neg (show ¬ decide ((20:Int) < g.2.2.1.length)=true by simpa using c5)];have key:∀ (n:Nat) (t:Int),0<=t->t<=g.2.2.1.length->((g.2.2.1.length:Int) - t).toNat=n->∃ e,zdq g t=some e/\zc1 g t=some e/\(e=0->∀ k:Int,t<=k->k < g.2.2.1.length->RlOk g (ix g.2.2.1 k)):=by
  intro n;induction n with
  | zero=>
   intro t t0 t1 hn;refine ⟨0,?_,?_,fun _ k a b=>by omega⟩
   ·rw [zfe];unfold zbk;rw [if_neg (by simp only [decide_eq_true_eq];omega)]
   ·rw [zfY];unfold zbs;rw [if_neg (by simp only [decide_eq_true_eq];omega)]
  | succ n ih=>
   intro t t0 t1 hn;have hlt:t < g.2.2.1.length:=by omega
   rw [zfe,zfY];unfold zbk zbs;simp only [if_pos (decide_eq_true hlt),zaz (show 0<=t/\t < (g.2.2.1.length:Int) from ⟨t0,hlt⟩)];by_cases d1:(ix g.2.2.1 t).1 < 0
   ·exact ⟨2,by rw [if_pos (decide_eq_true d1)],by rw [if_pos (decide_eq_true d1)],by omega⟩
   simp only [if_neg (show ¬ decide ((ix g.2.2.1 t).1 < 0)=true by simpa using d1)];by_cases d2:g.2.1<=(ix g.2.2.1 t).1
   ·exact ⟨2,by rw [if_pos (decide_eq_true d2)],by rw [if_pos (decide_eq_true d2)],by omega⟩
   simp only [if_neg (show ¬ decide (g.2.1<=(ix g.2.2.1 t).1)=true by simpa using d2)];by_cases d3:(3:Int) < (ix g.2.2.1 t).2.1.length
   ·exact ⟨1,by rw [if_pos (decide_eq_true d3)],by rw [if_pos (decide_eq_true d3)],by omega⟩
   simp only [if_neg (show ¬ decide ((3:Int) < (ix g.2.2.1 t).2.1.length)=true by simpa using d3)];obtain ⟨w1,w2⟩:=zqT (g:=g) (by omega) (by omega) (by omega) (by omega) (i:=t) (by omega) (r6:=zc1 g) t0 (by omega);obtain ⟨b,eb,hb⟩:=zpa (g:=g) (by omega) (by omega) (by omega) (by omega) (l:=(ix g.2.2.1 t).2.1) (by omega);rw [show (g.1,(g.2.1,(g.2.2.1,())))=g from rfl,eb];by_cases c:∃ x∈(ix g.2.2.1 t).2.1,SgB g x
   ·have:b=true:=hb.2 c;subst this;exact ⟨2,rfl,w1 c,by omega⟩
   ·have:b=false:=by cases b;rfl;exact absurd (hb.1 rfl) c
    subst this;obtain ⟨e,e1,e2,e3⟩:=ih (t+1) (by omega) (by omega) (by omega);refine ⟨e,?_,(w2 c).trans e2,fun h k k0 k1 => ?_⟩
    ·show G _ _=_;rw [zaz (by unfold fits;omega),e1]
    ·by_cases ek:k=t
     ·subst ek;exact ⟨by omega,by omega,by omega,fun x hx=>by
       have : ¬ SgB g x:=fun h=>c ⟨x,hx,h⟩
       unfold SgB at this;omega⟩
     ·exact e3 h k (by omega) k1
 obtain ⟨e,e1,e2,e3⟩:=key _ 0 (Int.le_refl _) (by omega) rfl;exact ⟨e,e1,e2,fun h=>⟨by omega,by omega,by omega,by omega,by omega,e3 h⟩⟩
end
abbrev K3:=Int×Int×Int×Unit
abbrev Chc:=Int×List Int×Unit
def nn (Lt:Int) (w:List Int) (f:Int->Int->Int->Int) (s i k:Int):Int:=
 if s < Lt then (if k=i+1/\ix w i=s then 0 else 1099511627776) else f (s - Lt) i k
def zg6 (n:Int->Int) (rr:Int->Int×List Int) (x:Int×List Int) (k:Int):Int×List Int:=
 if n k=1099511627776 then x else if n k+(rr k).1 < x.1 then (n k+(rr k).1,k::(rr k).2) else x
theorem zsE {n:Int->Int} {rr:Int->Int×List Int} {x:Int×List Int} {k v:Int} (e:n k=v) (h:v=1099511627776):x=zg6 n rr x k:=by unfold zg6;rw [if_pos (e.trans h)]
theorem zrv {n:Int->Int} {rr:Int->Int×List Int} {x:Int×List Int} {k v:Int} (e:n k=v) (h : ¬ v=1099511627776) (h2:v+(rr k).1 < x.1):(v+(rr k).1,k::(rr k).2)=zg6 n rr x k:=by
 subst e;unfold zg6;rw [if_neg h,if_pos h2]
theorem zru {n:Int->Int} {rr:Int->Int×List Int} {x:Int×List Int} {k v:Int} (e:n k=v) (h : ¬ v=1099511627776) (h2 : ¬ v+(rr k).1 < x.1):x=zg6 n rr x k:=by
 subst e;unfold zg6;rw [if_neg h,if_neg h2]
def rowL (n:Int->Int) (rr:Int->Int×List Int):Nat->Int->Int×List Int->Int×List Int
 | 0,_,x=>x
 | m+1,k,x=>rowL n rr m (k+1) (zg6 n rr x k)
def rowF (Lt:Int) (w:List Int) (f:Int->Int->Int->Int):List Int->Int->Int->Int×List Int
 | [],i,j=>(if i=j then 0 else 1099511627776,[])
 | s::r,i,j=>rowL (fun k=>nn Lt w f s i k) (fun k=>rowF Lt w f r k j) (j+1 - i).toNat i (1099511627776,[])
theorem zjk {n:Int->Int} {rr:Int->Int×List Int} (P:Int×List Int->Prop) {hi:Int}:∀ (m:Nat) (k:Int) (x:Int×List Int),k+m<=hi->P x->(∀ q x,k<=q->q < hi->P x->P (zg6 n rr x q))->P (rowL n rr m k x)
 | 0,_,_,_,h0,_=>h0
 | m+1,k,x,hk,h0,hs=>zjk P m (k+1) _ (by omega) (hs k x (by omega) (by omega) h0) fun q x h1 h2=>hs q x (by omega) h2
def Spl (Lt:Int) (w:List Int) (f:Int->Int->Int->Int):List Int->Int->Int->List Int->Int->Prop
 | [],i,j,l,c=>i=j/\l=[]/\c=0
 | s::r,i,j,l,c=>∃ k l' c',l=k::l'/\i<=k/\k<=j/\nn Lt w f s i k < 1099511627776/\Spl Lt w f r k j l' c'/\c=nn Lt w f s i k+c'
section
variable {Lt:Int} {w:List Int} {f:Int->Int->Int->Int}
theorem nn_b (hf:∀ A i k,0<=f A i k/\f A i k<=1099511627776) (s i k:Int):0<=nn Lt w f s i k/\nn Lt w f s i k<=1099511627776:=by
 unfold nn;split
 ·split<;>omega
 ·exact hf _ _ _
theorem zmR (hf:∀ A i k,0<=f A i k/\f A i k<=1099511627776):∀ (l:List Int) (i j:Int),0<=(rowF Lt w f l i j).1/\(rowF Lt w f l i j).1<=1099511627776
 | [],i,j=>by unfold rowF;dsimp only;split<;>omega
 | s::r,i,j=>by
  unfold rowF;refine zjk (fun x=>0<=x.1/\x.1<=1099511627776) (hi:=i+(j+1 - i).toNat) _ _ _ (Int.le_refl _) (by simp) fun q x _ _ h => ?_
  have h1:=nn_b (Lt:=Lt) (w:=w) hf s i q;have h2:=zmR hf r q j;unfold zg6;dsimp only;split
  ·exact h
  ·split
   ·constructor<;>dsimp only<;>omega
   ·exact h
theorem zox:∀ (l:List Int) (i j:Int),(rowF Lt w f l i j).2.length<=l.length
 | [],i,j=>by unfold rowF;simp
 | s::r,i,j=>by
  unfold rowF;refine zjk (fun x=>x.2.length<=(s::r).length) (hi:=i+(j+1 - i).toNat) _ _ _ (Int.le_refl _) (by simp) fun q x _ _ h => ?_
  have h2:=zox r q j;unfold zg6;dsimp only;split
  ·exact h
  ·split
   ·simp only [List.length_cons];omega
   ·exact h
theorem zoy (hf:∀ A i k,0<=f A i k/\f A i k<=1099511627776):∀ (l:List Int) (i j:Int),i<=j->(rowF Lt w f l i j).1 < 1099511627776->Spl Lt w f l i j (rowF Lt w f l i j).2 (rowF Lt w f l i j).1
 | [],i,j,_,h=>by
  unfold rowF at *
  dsimp only at *
  by_cases c:i=j
  ·rw [if_pos c];exact ⟨c,rfl,rfl⟩
  ·rw [if_neg c] at h;omega
 | s::r,i,j,hij,h=>by
  have key:∀ x:Int×List Int,x=rowF Lt w f (s::r) i j->(x.1<=1099511627776/\(x.1 < 1099511627776->Spl Lt w f (s::r) i j x.2 x.1)):=by
   intro x hx;subst hx;unfold rowF;refine zjk (fun x=>x.1<=1099511627776/\(x.1 < 1099511627776->Spl Lt w f (s::r) i j x.2 x.1)) (hi:=i+(j+1 - i).toNat) _ _ _ (Int.le_refl _) ⟨by simp,fun h=>by simp at h⟩ fun q x h1 h2 h => ?_
   have k1:=nn_b (Lt:=Lt) (w:=w) hf s i q;have k2:=zmR (Lt:=Lt) (w:=w) hf r q j;unfold zg6;dsimp only;split
   ·exact h
   ·split
    ·rename_i c1 c2;refine ⟨by dsimp only;omega,fun _ => ?_⟩;exact ⟨q,_,_,rfl,by omega,by omega,by omega,zoy hf r q j (by omega) (by omega),rfl⟩
    ·exact h
  exact (key _ rfl).2 h
theorem Spl.low {f':Int->Int->Int->Int} (hf:∀ A i k,f' A i k<=f A i k):∀ (l:List Int) (i j:Int) (e:List Int) (c:Int),Spl Lt w f l i j e c->∃ c',c'<=c/\Spl Lt w f' l i j e c'
 | [],i,j,e,c,h=>⟨c,Int.le_refl _,h⟩
 | s::r,i,j,e,c,⟨k,l',c',h1,h2,h3,h4,h5,h6⟩=>by
  obtain ⟨c2,h7,h8⟩:=Spl.low hf r k j l' c' h5;have:nn Lt w f' s i k<=nn Lt w f s i k:=by
   unfold nn;split
   ·exact Int.le_refl _
   ·exact hf _ _ _
  exact ⟨nn Lt w f' s i k+c2,by omega,k,l',c2,h1,h2,h3,by omega,h8,rfl⟩
theorem zn5 (s:Int) (r:List Int):cut (s::r) 1 ((s::r).length:Int)=r:=by
 unfold cut;simp
end
section
variable {Lt N:Int} {Mk:List Rul} {w:List Int} {ks:List K3} {cv:List Int} {bv:List Chc} {f:Int->Int->Int->Int}
theorem J14_p (hf:∀ A i k,0<=f A i k/\f A i k<=1099511627776) {s j best k n:Int} {r ends:List Int} {r8:Int->Int->Int->Int->List Rul->List Int->List K3->List Int->List K3->List Chc->List Int->Option (Int×List Int×Int×Int×List Rul×List Int×List K3×List Int×List K3×List Chc)}
  (hr:zbh r k j Lt N Mk w ks cv ks bv=some ((rowF Lt w f r k j).1,(rowF Lt w f r k j).2,Lt,N,Mk,w,ks,cv,ks,bv)) (hk:0<=k/\k<=1000) (hn:0<=n/\n<=1099511627776) (hl:r.length<=3) (nk:Int->Int) (hnk:nk k=n):
  zaH zbh (s::r) j best k ends r8 n Lt N Mk w ks cv ks bv=r8 (zg6 nk (fun k=>rowF Lt w f r k j) (best,ends) k).1 (k+1) Lt N Mk w ks cv ks bv (zg6 nk (fun k=>rowF Lt w f r k j) (best,ends) k).2:=by
 have h1:=zmR (Lt:=Lt) (w:=w) hf r k j;have h2:=zox (Lt:=Lt) (w:=w) (f:=f) r k j;unfold zaH zg6;rw [hnk];by_cases c:n=1099511627776
 ·rw [if_pos (decide_eq_true c),if_pos c,zaz (by unfold fits;omega)]
 ·rw [if_neg (by simpa using c),if_neg c,zaz (by simp<;>omega),zn5,hr,Option.bind_some];rw [zaz (by unfold fits;dsimp only;omega)];by_cases c2:n+(rowF Lt w f r k j).1 < best
  ·rw [if_pos (decide_eq_true c2),if_pos c2,zaz (by unfold fits;dsimp only;omega),zaz (by unfold room;simp only [List.length_cons,List.length_nil];omega),zaz (by unfold fits;omega)];rfl
  ·rw [if_neg (by simpa using c2),if_neg c2,zaz (by unfold fits;omega)]
theorem ztH (hf:∀ A i k,0<=f A i k/\f A i k<=1099511627776) (hof:∀ A i k,zbE A i k Lt N Mk w ks cv ks bv=some (f A i k,Lt,N,Mk,w,ks,cv,ks,bv)) (hL:1<=Lt/\Lt<=4) (hN:1<=N/\N<=6) (hw:w.length<=60):
  ∀ (l:List Int) (i j:Int),l.length<=3->(∀ s∈l,0<=s/\s < Lt+N)->0<=i->i<=j->j<=w.length->
  zbh l i j Lt N Mk w ks cv ks bv=some ((rowF Lt w f l i j).1,(rowF Lt w f l i j).2,Lt,N,Mk,w,ks,cv,ks,bv)
 | [],i,j,_,_,_,_,_=>by
  rw [zev];unfold zba;rw [if_pos (by simp)];unfold rowF;by_cases c:i=j
  ·rw [if_pos (decide_eq_true c),if_pos c]
  ·rw [if_neg (by simpa using c),if_neg c]
 | s::r,i,j,hl,hs,i0,ij,jw=>by
  have hl':r.length<=3:=by simp only [List.length_cons] at hl;omega
  have ih:=fun k (h1:i<=k) (h2:k<=j)=>ztH hf hof hL hN hw r k j hl' (fun x hx=>hs x (by simp [hx])) (by omega) h2 jw
  have hs0:=hs s (by simp);rw [zev];unfold zba;rw [if_neg (by simp<;>omega),zaz (by simp<;>omega)];unfold rowF;have key:∀ (m:Nat) (k best:Int) (ends:List Int),(j+1 - k).toNat=m->i<=k->
    zaO zbh (s::r) i j best k Lt N Mk w ks cv ks bv ends=some ((rowL (fun k=>nn Lt w f s i k) (fun k=>rowF Lt w f r k j) m k (best,ends)).1,(rowL (fun k=>nn Lt w f s i k) (fun k=>rowF Lt w f r k j) m k (best,ends)).2,Lt,N,Mk,w,ks,cv,ks,bv):=by
   intro m;induction m with
   | zero=>
    intro k best ends hm hk;rw [zdj];unfold zaN;rw [if_neg (by simp only [decide_eq_true_eq];omega)];rfl
   | succ m ihm=>
    intro k best ends hm hk;have hkj:k<=j:=by omega
    rw [zdj];unfold zaN;rw [if_pos (decide_eq_true hkj)];have hix:ix (s::r) 0=s:=rfl;rw [hix];have fin:=fun n (hn:0<=n/\n<=1099511627776) (hnn:nn Lt w f s i k=n)=>(J14_p (s:=s) (best:=best) (ends:=ends) (r8:=fun best k c_8 c_9 c_10 c_11 l l_1 l_2 l_3 ends=>zaO zbh (s::r) i j best k c_8 c_9 c_10 c_11 l l_1 l_2 l_3 ends) hf (ih k hk hkj) ⟨by omega,by omega⟩ hn hl' (fun k=>nn Lt w f s i k) hnn).trans (ihm (k+1) _ _ (by omega) (by omega))
    by_cases c:s < Lt
    ·rw [if_neg (by simp only [decide_eq_true_eq];omega),zaz (by unfold fits;omega)];by_cases c2:k=i+1
     ·rw [if_pos (decide_eq_true c2),zaz (by omega)];unfold zaS;by_cases c3:ix w i=s
      ·rw [if_pos (decide_eq_true c3)];exact fin 0 (by omega) (by unfold nn;rw [if_pos c,if_pos ⟨c2,c3⟩])
      ·rw [if_neg (by simpa using c3)];exact fin _ (by omega) (by unfold nn;rw [if_pos c,if_neg (fun h=>c3 h.2)])
     ·rw [if_neg (by simpa using c2)];unfold zaS;rw [if_neg (by decide)];exact fin _ (by omega) (by unfold nn;rw [if_pos c,if_neg (fun h=>c2 h.1)])
    ·rw [if_pos (by simp only [decide_eq_true_eq];omega),zaz (by unfold fits;omega),hof,Option.bind_some];exact fin _ (hf _ _ _) (by unfold nn;rw [if_neg c])
  exact key _ i _ _ rfl (Int.le_refl _)
theorem ztI {C:List (List (List Int))} (hf:∀ A i k,0<=f A i k/\f A i k<=1099511627776) (hC:∀ A i k:Int,0<=A->A < N->0<=i->i<=w.length->0<=k->k<=w.length->ix (ix (ix C A) i) k=f A i k)
  (hC0:(C.length:Int)=N) (hC1:∀ A:Int,0<=A->A < N->(ix C A).length=w.length+1) (hC2:∀ A i:Int,0<=A->A < N->0<=i->i<=w.length->(ix (ix C A) i).length=w.length+1) (hL:1<=Lt/\Lt<=4) (hN:1<=N/\N<=6) (hw:w.length<=60) {N':Int}:
  ∀ (l:List Int) (i j:Int),l.length<=3->(∀ s∈l,0<=s/\s < Lt+N)->0<=i->i<=j->j<=w.length->
  zbf ((Lt,N',Mk,()),w,C,()) l i j=some (rowF Lt w f l i j).1
 | [],i,j,_,_,_,_,_=>by
  rw [zfi];unfold zbl;rw [if_pos (by simp)];unfold rowF;by_cases c:i=j
  ·rw [if_pos (decide_eq_true c),if_pos c]
  ·rw [if_neg (by simpa using c),if_neg c]
 | s::r,i,j,hl,hs,i0,ij,jw=>by
  have hl':r.length<=3:=by simp only [List.length_cons] at hl;omega
  have ih:=fun k (h1:i<=k) (h2:k<=j)=>ztI (N':=N') hf hC hC0 hC1 hC2 hL hN hw r k j hl' (fun x hx=>hs x (by simp [hx])) (by omega) h2 jw
  have hs0:=hs s (by simp);rw [zfi];unfold zbl;rw [if_neg (by simp<;>omega)];unfold rowF;have key:∀ (m:Nat) (k best:Int) (ends:List Int),(j+1 - k).toNat=m->i<=k->best<=1099511627776->
    zaM zbf ((Lt,N',Mk,()),w,C,()) (s::r) i j best k=some (rowL (fun k=>nn Lt w f s i k) (fun k=>rowF Lt w f r k j) m k (best,ends)).1:=by
   intro m;induction m with
   | zero=>
    intro k best ends hm hk hb;rw [zdI];unfold zaU;rw [if_neg (by simp only [decide_eq_true_eq];omega)];rfl
   | succ m ihm=>
    intro k best ends hm hk hb;have hkj:k<=j:=by omega
    rw [zdI];unfold zaU;rw [if_pos (decide_eq_true hkj),zaz (by simp<;>omega)];have hix:ix (s::r) 0=s:=rfl;rw [hix];have h1:=zmR (Lt:=Lt) (w:=w) hf r k j;have fin:∀ n,0<=n/\n<=1099511627776->nn Lt w f s i k=n->zaP zbf ((Lt,N',Mk,()),w,C,()) (s::r) j best k (fun best k=>zaM zbf ((Lt,N',Mk,()),w,C,()) (s::r) i j best k) n=
      some (rowL (fun k=>nn Lt w f s i k) (fun k=>rowF Lt w f r k j) (m+1) k (best,ends)).1:=by
     intro n hn hnn;have hgo:∀ x:Int×List Int,x=zg6 (fun k=>nn Lt w f s i k) (fun k=>rowF Lt w f r k j) (best,ends) k->x.1<=1099511627776->zaM zbf ((Lt,N',Mk,()),w,C,()) (s::r) i j x.1 (k+1)=some (rowL (fun k=>nn Lt w f s i k) (fun k=>rowF Lt w f r k j) (m+1) k (best,ends)).1:=by
      intro x hx hxb;rw [rowL,<- hx];exact ihm (k+1) x.1 x.2 (by omega) (by omega) hxb
     unfold zaP;by_cases c:n < 1099511627776
     ·rw [if_pos (decide_eq_true c),zaz (by simp<;>omega),zn5,ih k hk hkj,Option.bind_some];by_cases c2:n+(rowF Lt w f r k j).1 < best
      ·have c3:(rowF Lt w f r k j).1 < 1099511627776:=by omega
       rw [if_pos (decide_eq_true c3),zaz (by unfold fits;omega)];unfold zaQ;rw [if_pos (decide_eq_true c2),zaz (by unfold fits;omega),zaz (by unfold fits;omega)];exact hgo (n+(rowF Lt w f r k j).1,k::(rowF Lt w f r k j).2) (zrv (n:=fun k=>nn Lt w f s i k) (rr:=fun k=>rowF Lt w f r k j) (x:=(best,ends)) hnn (by omega) c2) (by dsimp only;omega)
      ·have hst:=hgo (best,ends) (zru hnn (by omega) c2) hb;by_cases c3:(rowF Lt w f r k j).1 < 1099511627776
       ·rw [if_pos (decide_eq_true c3),zaz (by unfold fits;omega)];unfold zaQ;rw [if_neg (by simpa using c2),zaz (by unfold fits;omega)];exact hst
       ·rw [if_neg (by simpa using c3)];unfold zaQ;rw [if_neg (by decide),zaz (by unfold fits;omega)];exact hst
     ·rw [if_neg (by simpa using c),zaz (by unfold fits;omega)];exact hgo (best,ends) (zsE hnn (by omega)) hb
    by_cases c:s < Lt
    ·rw [if_pos (decide_eq_true c),zaz (by unfold fits;omega)];by_cases c2:k=i+1
     ·rw [if_pos (decide_eq_true c2),zaz (by dsimp only;omega),zaz (by simp<;>omega)];unfold za1;by_cases c3:ix w i=s
      ·rw [if_pos (decide_eq_true c3)];exact fin 0 (by omega) (by unfold nn;rw [if_pos c,if_pos ⟨c2,c3⟩])
      ·rw [if_neg (by simpa using c3)];exact fin _ (by omega) (by unfold nn;rw [if_pos c,if_neg (fun h=>c3 h.2)])
     ·rw [if_neg (by simpa using c2)];unfold za1;rw [if_neg (by decide)];exact fin _ (by omega) (by unfold nn;rw [if_pos c,if_neg (fun h=>c2 h.1)])
    ·rw [if_neg (by simpa using c),zaz (by simp<;>omega),zaz (by unfold fits;dsimp only;omega),zaz (by dsimp only;omega),zaz (by dsimp only;rw [hC1 _ (by omega) (by omega)];omega),zaz (by dsimp only;rw [hC2 _ _ (by omega) (by omega) (by omega) (by omega)];omega)];dsimp only;rw [hC _ _ _ (by omega) (by omega) (by omega) (by omega) (by omega) (by omega)];exact fin _ (hf _ _ _) (by unfold nn;rw [if_neg c])
  exact key _ i _ [] rfl (Int.le_refl _) (Int.le_refl _)
end
theorem zje {α:Type} {ks:List α} {x y:α}:mhas (zb1 ks x) y=true↔y=x\/mhas ks y=true:=by
 rw [zjd,zjd];by_cases h:x∈ks
 ·obtain ⟨j,hj⟩:=zmC h;unfold zb1;rw [hj];constructor
  ·exact .inr
  ·rintro (rfl | h');exact h;exact h'
 ·rw [zmE h,List.mem_append,List.mem_singleton];constructor
  ·rintro (h | h);exact .inr h;exact .inl h
  ·rintro (h | h);exact .inr h;exact .inl h
theorem zjf {α β:Type} {ks:List α} {vs:List β} {x:α} {z v:β} (hl:vs.length=ks.length):((zdS ks vs x z).set (mpos ks x).toNat v).length=(zb1 ks x).length/\0<=mpos ks x/\mpos ks x < ((zdS ks vs x z).length:Int):=by
 unfold zdS zb1 mpos;cases h:za3 ks x with
 | none=>simp only [List.length_set,List.length_append,List.length_singleton];omega
 | some j=>have:=zdr h;simp only [List.length_set];omega
theorem zlM {α β:Type} {ks:List α} {vs:List β} {x y:α} {z v d:β} (hl:vs.length=ks.length):mget (zb1 ks x) ((zdS ks vs x z).set (mpos ks x).toNat v) y d=(open Classical in if y=x then v else mget ks vs y d):=by
 classical
 by_cases h:x∈ks
 ·obtain ⟨j,hj⟩:=zmC h;have hlt:=zdr hj;unfold zdS zb1 mpos mget;rw [hj];dsimp only;by_cases e:y=x
  ·subst e;rw [hj,if_pos rfl];simp [List.getD_eq_getElem?_getD,hl,hlt]
  ·rw [if_neg e];cases hy:za3 ks y with
   | none=>rfl
   | some q=>
    have hne:j≠q:=fun hh=>e (zqm hy (hh ▸ hj))
    simp [List.getD_eq_getElem?_getD,List.getElem?_set,hne]
 ·have hn:=zbA.2 h;unfold zdS mpos mget;rw [zmE h,hn];dsimp only;have e1:(vs++[z]).set ((ks.length:Int)).toNat v=vs++[v]:=by
   rw [Int.toNat_natCast,<- hl,List.set_append_right _ _ (Nat.le_refl _)];simp
  rw [e1];by_cases e:y=x
  ·subst e;rw [zmD h,if_pos rfl];simp [List.getD_eq_getElem?_getD,<- hl]
  ·rw [if_neg e];cases hy:za3 ks y with
   | none=>
    have:za3 (ks++[x]) y=none:=zbA.2 (by
     rw [List.mem_append,List.mem_singleton];rintro (h' | h')
     ·exact absurd h' (zbA.1 hy)
     ·exact e h')
    rw [this]
   | some q=>
    have:=zdr hy;rw [zmB _ hy];simp [List.getD_eq_getElem?_getD,List.getElem?_append_left (by omega:q < vs.length)]
theorem zlX:∀ (l:List Nat) (i x:Nat) (h:i < l.length),(l.set i x).sum+l[i]=l.sum+x
 | [],i,x,h=>by simp at h
 | y::l,0,x,h=>by simp;omega
 | y::l,i+1,x,h=>by
  have:=zlX l i x (by simpa using h);simp only [List.set_cons_succ,List.sum_cons,List.getElem_cons_succ];omega
def tot1 (q:List Int):Nat:=(q.map Int.toNat).sum
def tot2 (r:List (List Int)):Nat:=(r.map tot1).sum
def tot (C:List (List (List Int))):Nat:=(C.map tot2).sum
theorem zs3 {C:List (List (List Int))} {a i j:Nat} {v:Int} (ha:a < C.length) (hi:i < (C.getD a []).length) (hj:j < ((C.getD a []).getD i []).length):
  tot (zf1 C a i j v)+(((C.getD a []).getD i []).getD j 0).toNat=tot C+v.toNat:=by
 have e1:C.getD a []=C[a]:=by simp [List.getD_eq_getElem?_getD,ha]
 rw [e1] at hi hj ⊢;have e2:C[a].getD i []=C[a][i]:=by simp [List.getD_eq_getElem?_getD,hi]
 rw [e2] at hj ⊢;have e3:C[a][i].getD j 0=C[a][i][j]:=by simp [List.getD_eq_getElem?_getD,hj]
 rw [e3];unfold tot zf1;rw [e1,e2,List.map_set];have h1:=zlX (C.map tot2) a (tot2 (C[a].set i (C[a][i].set j v))) (by simpa using ha);have h2:=zlX (C[a].map tot1) i (tot1 (C[a][i].set j v)) (by simpa using hi);have h3:=zlX (C[a][i].map Int.toNat) j v.toNat (by simpa using hj);rw [List.getElem_map] at h1 h2 h3;have k2:tot2 (C[a].set i (C[a][i].set j v))=((C[a].map tot1).set i (tot1 (C[a][i].set j v))).sum:=by unfold tot2;rw [List.map_set]
 have k3:tot1 (C[a][i].set j v)=((C[a][i].map Int.toNat).set j v.toNat).sum:=by unfold tot1;rw [List.map_set]
 have k4:tot2 C[a]=(C[a].map tot1).sum:=rfl;have k5:tot1 C[a][i]=(C[a][i].map Int.toNat).sum:=rfl;omega
noncomputable def fM (ks:List K3) (cv:List Int) (A i k:Int):Int:=if mhas ks (A,(i,(k,())))=true then mget ks cv (A,(i,(k,()))) 0 else 1099511627776
structure CI (g:Gm) (w:List Int) (ks:List K3) (cv:List Int) (bv:List Chc) (C:List (List (List Int))):Prop where
 lc:cv.length=ks.length
 lb:bv.length=ks.length
 v:∀ A i j,mhas ks (A,(i,(j,())))=true->(0<=A/\A < g.2.1)/\(0<=i/\i<=j/\j<=w.length)/\(1<=fM ks cv A i j/\fM ks cv A i j < 1099511627776)/\
  ∃ k ends c,mget ks bv (A,(i,(j,()))) ((0,([],())):Chc)=(k,ends,())/\(0<=k/\k < g.2.2.1.length)/\(ix g.2.2.1 k).1=A/\Spl g.1 w (fM ks cv) (ix g.2.2.1 k).2.1 i j ends c/\c+1<=fM ks cv A i j
 c0:(C.length:Int)=g.2.1
 c1:∀ A:Int,0<=A->A < g.2.1->(ix C A).length=w.length+1
 c2:∀ A i:Int,0<=A->A < g.2.1->0<=i->i<=w.length->(ix (ix C A) i).length=w.length+1
 c:∀ A i k:Int,0<=A->A < g.2.1->0<=i->i<=w.length->0<=k->k<=w.length->ix (ix (ix C A) i) k=fM ks cv A i k
section
variable {g:Gm} {w:List Int} {ks:List K3} {cv:List Int} {bv:List Chc} {C:List (List (List Int))}
theorem CI.b (h:CI g w ks cv bv C) (A i k:Int):0<=fM ks cv A i k/\fM ks cv A i k<=1099511627776:=by
 by_cases c:mhas ks (A,(i,(k,())))=true
 ·have:=(h.v A i k c).2.2.1;omega
 ·unfold fM;rw [if_neg c];omega
theorem zsx {A i k:Int}:zbE A i k g.1 g.2.1 g.2.2.1 w ks cv ks bv=some (fM ks cv A i k,g.1,g.2.1,g.2.2.1,w,ks,cv,ks,bv):=by
 unfold zbE fM;by_cases c:mhas ks (A,(i,(k,())))=true
 ·rw [if_pos c,if_pos c]
 ·rw [if_neg c,if_neg c]
theorem ztK {C:List (List (List Int))} {a i j:Nat} {v:Int} (ha:a < C.length) (hi:i < (C.getD a []).length) (hj:j < ((C.getD a []).getD i []).length) (A I K:Int) (hA:0<=A/\A < C.length) (hI:0<=I) (hK:0<=K):
  ix (ix (ix (zf1 C a i j v) A) I) K=if A=a/\I=i/\K=j then v else ix (ix (ix C A) I) K:=by
 obtain ⟨A,rfl⟩:∃ n:Nat,A=n:=⟨A.toNat,by omega⟩;obtain ⟨I,rfl⟩:∃ n:Nat,I=n:=⟨I.toNat,by omega⟩;obtain ⟨K,rfl⟩:∃ n:Nat,K=n:=⟨K.toNat,by omega⟩;simp only [zfL];unfold zf1;have d1:(default:List (List Int))=[]:=rfl;have d2:(default:List Int)=[]:=rfl;have d3:(default:Int)=0:=rfl;simp only [d1,d2,d3];by_cases ca:A=a
 ·subst ca;have e1:(C.set A ((C.getD A []).set i (((C.getD A []).getD i []).set j v))).getD A []=(C.getD A []).set i (((C.getD A []).getD i []).set j v):=by simp [List.getD_eq_getElem?_getD,ha]
  rw [e1];by_cases ci:I=i
  ·subst ci;have e2:((C.getD A []).set I (((C.getD A []).getD I []).set j v)).getD I []=((C.getD A []).getD I []).set j v:=by
    rw [List.getD_eq_getElem?_getD,List.getElem?_set_self hi];rfl
   rw [e2];by_cases cj:K=j
   ·subst cj;rw [if_pos ⟨rfl,rfl,rfl⟩,List.getD_eq_getElem?_getD,List.getElem?_set_self hj];rfl
   ·rw [if_neg (by omega),List.getD_eq_getElem?_getD,List.getElem?_set_ne (by omega),<- List.getD_eq_getElem?_getD]
  ·rw [if_neg (by omega)];have e2:((C.getD A []).set i (((C.getD A []).getD i []).set j v)).getD I []=(C.getD A []).getD I []:=by
    rw [List.getD_eq_getElem?_getD,List.getElem?_set_ne (by omega),<- List.getD_eq_getElem?_getD]
   rw [e2]
 ·rw [if_neg (by omega)];have e1:(C.set a ((C.getD a []).set i (((C.getD a []).getD i []).set j v))).getD A []=C.getD A []:=by
   rw [List.getD_eq_getElem?_getD,List.getElem?_set_ne (by omega),<- List.getD_eq_getElem?_getD]
  rw [e1]
theorem zsH {C:List (List (List Int))} {a i j:Nat} {v:Int}:(zf1 C a i j v).length=C.length/\(∀ A:Int,0<=A->A < C.length->(ix (zf1 C a i j v) A).length=(ix C A).length)/\
  ∀ A I:Int,0<=A->A < C.length->0<=I->(ix (ix (zf1 C a i j v) A) I).length=(ix (ix C A) I).length:=by
 have d1:(default:List (List Int))=[]:=rfl;have d2:(default:List Int)=[]:=rfl;refine ⟨by unfold zf1;simp,fun A h0 h1 => ?_,fun A I h0 h1 h2 => ?_⟩
 ·obtain ⟨A,rfl⟩:∃ n:Nat,A=n:=⟨A.toNat,by omega⟩;simp only [zfL,d1];unfold zf1;by_cases ca:A=a
  ·subst ca;rw [List.getD_eq_getElem?_getD,List.getElem?_set_self (by omega)];simp
  ·rw [List.getD_eq_getElem?_getD,List.getElem?_set_ne (by omega),<- List.getD_eq_getElem?_getD]
 ·obtain ⟨A,rfl⟩:∃ n:Nat,A=n:=⟨A.toNat,by omega⟩;obtain ⟨I,rfl⟩:∃ n:Nat,I=n:=⟨I.toNat,by omega⟩;simp only [zfL,d1,d2];unfold zf1;by_cases ca:A=a
  ·subst ca;have e1:(C.set A ((C.getD A []).set i (((C.getD A []).getD i []).set j v))).getD A []=(C.getD A []).set i (((C.getD A []).getD i []).set j v):=by
    rw [List.getD_eq_getElem?_getD,List.getElem?_set_self (by omega)];rfl
   rw [e1];by_cases ci:I=i
   ·subst ci;by_cases hi:I < (C.getD A []).length
    ·rw [List.getD_eq_getElem?_getD,List.getElem?_set_self hi];simp
    ·rw [List.set_eq_of_length_le (by omega)]
   ·rw [List.getD_eq_getElem?_getD,List.getElem?_set_ne (by omega),<- List.getD_eq_getElem?_getD]
  ·have e1:(C.set a ((C.getD a []).set i (((C.getD a []).getD i []).set j v))).getD A []=C.getD A []:=by
    rw [List.getD_eq_getElem?_getD,List.getElem?_set_ne (by omega),<- List.getD_eq_getElem?_getD]
   rw [e1]
end
section
variable {g:Gm} {w:List Int} {ks:List K3} {cv:List Int} {bv:List Chc} {C:List (List (List Int))}
noncomputable abbrev putC (ks:List K3) (cv:List Int) (x:K3) (v:Int):List Int:=(zdS ks cv x (0:Int)).set (mpos ks x).toNat v
noncomputable abbrev putB (ks:List K3) (bv:List Chc) (x:K3) (b:Chc):List Chc:=(zdS ks bv x ((0,([],())):Chc)).set (mpos ks x).toNat b
theorem zkF (hl:cv.length=ks.length) {A i j v:Int} (B I J:Int):fM (zb1 ks (A,(i,(j,())))) (putC ks cv (A,(i,(j,()))) v) B I J=if B=A/\I=i/\J=j then v else fM ks cv B I J:=by
 unfold fM;rw [zlM hl];by_cases c:B=A/\I=i/\J=j
 ·obtain ⟨rfl,rfl,rfl⟩:=c;rw [if_pos (zje.2 (.inl rfl)),if_pos rfl,if_pos ⟨rfl,rfl,rfl⟩]
 ·have hne : ¬ ((B,(I,(J,()))):K3)=(A,(i,(j,()))):=fun h=>c (by simpa using h)
  rw [if_neg c,if_neg hne];by_cases d:mhas ks (B,(I,(J,())))=true
  ·rw [if_pos d,if_pos (zje.2 (.inr d))]
  ·rw [if_neg d,if_neg (fun h=>by
    rcases zje.1 h with h | h
    ·exact hne h
    ·exact d h)]
theorem CI.put (h:CI g w ks cv bv C) {A i j:Nat} {v k c:Int} {ends:List Int} (hA:(A:Int) < g.2.1) (hij:i<=j) (hj:j<=w.length) (hv:1<=v) (hlt:v < fM ks cv A i j) (hk:0<=k/\k < g.2.2.1.length) (hkA:(ix g.2.2.1 k).1=A)
  (hs:Spl g.1 w (fM ks cv) (ix g.2.2.1 k).2.1 i j ends c) (hc:c+1<=v):
  CI g w (zb1 ks ((A:Int),((i:Int),((j:Int),())))) (putC ks cv ((A:Int),((i:Int),((j:Int),()))) v) (putB ks bv ((A:Int),((i:Int),((j:Int),()))) (k,(ends,()))) (zf1 C A i j v)/\tot (zf1 C A i j v) < tot C:=by
 have hb:=h.b A i j;have hc0:=h.c0;have hlA:A < C.length:=by omega
 have d1:(default:List (List Int))=[]:=rfl;have d2:(default:List Int)=[]:=rfl;have l1:(C.getD A []).length=w.length+1:=by have:=h.c1 A (by omega) hA;rwa [zfL,d1] at this
 have l2:((C.getD A []).getD i []).length=w.length+1:=by have:=h.c2 A i (by omega) hA (by omega) (by omega);rwa [zfL,zfL,d1,d2] at this
 have l3:((C.getD A []).getD i []).getD j 0=fM ks cv A i j:=by have:=h.c A i j (by omega) hA (by omega) (by omega) (by omega) (by omega);rwa [zfL,zfL,zfL,d1,d2] at this
 have hset:=ztK (C:=C) (a:=A) (i:=i) (j:=j) (v:=v) hlA (by omega) (by omega);obtain ⟨s1,s2,s3⟩:=zsH (C:=C) (a:=A) (i:=i) (j:=j) (v:=v);have hmono:∀ B I J,fM (zb1 ks ((A:Int),((i:Int),((j:Int),())))) (putC ks cv ((A:Int),((i:Int),((j:Int),()))) v) B I J<=fM ks cv B I J:=fun B I J=>by
  rw [zkF h.lc];split
  ·rename_i e;obtain ⟨rfl,rfl,rfl⟩:=e;omega
  ·exact Int.le_refl _
 refine ⟨⟨(zjf h.lc).1,(zjf h.lb).1,fun B I J hm => ?_,by omega,fun B b0 b1=>by rw [s2 B b0 (by omega)];exact h.c1 B b0 b1,fun B I b0 b1 i0 i1=>by rw [s3 B I b0 (by omega) i0];exact h.c2 B I b0 b1 i0 i1,fun B I J b0 b1 i0 i1 j0 j1 => ?_⟩,?_⟩
 ·by_cases e:B=A/\I=i/\J=j
  ·obtain ⟨rfl,rfl,rfl⟩:=e;refine ⟨⟨by omega,hA⟩,⟨by omega,by omega,by omega⟩,by rw [zkF h.lc,if_pos ⟨rfl,rfl,rfl⟩];omega,?_⟩;obtain ⟨c',h1,h2⟩:=hs.low hmono;refine ⟨k,ends,c',by rw [zlM h.lb,if_pos rfl],hk,hkA,h2,?_⟩;rw [zkF h.lc,if_pos ⟨rfl,rfl,rfl⟩];omega
  ·have hm':mhas ks (B,(I,(J,())))=true:=by
    rcases zje.1 hm with h' | h'
    ·exact absurd (by simpa using h') e
    ·exact h'
   have hne : ¬ ((B,(I,(J,()))):K3)=((A:Int),((i:Int),((j:Int),()))):=fun h=>e (by simpa using h)
   obtain ⟨q1,q2,q3,k',ends',c',q4,q5,q6,q7,q8⟩:=h.v B I J hm';obtain ⟨c2,h1,h2⟩:=q7.low hmono;refine ⟨q1,q2,by rw [zkF h.lc,if_neg e];exact q3,k',ends',c2,by rw [zlM h.lb,if_neg hne];exact q4,q5,q6,h2,?_⟩;rw [zkF h.lc,if_neg e];omega
 ·rw [hset B I J ⟨b0,by omega⟩ i0 j0,zkF h.lc];by_cases e:B=A/\I=i/\J=j
  ·rw [if_pos e,if_pos e]
  ·rw [if_neg e,if_neg e];exact h.c B I J b0 b1 i0 i1 j0 j1
 ·have:=zs3 (C:=C) (a:=A) (i:=i) (j:=j) (v:=v) hlA (by omega) (by omega);rw [l3] at this;omega
abbrev R12:=Bool->Int->Int->Int->List Rul->List Int->List K3->List Int->List K3->List Chc->Option (Int×Int×List Rul×List Int×List K3×List Int×List K3×List Chc)
structure Pr (b:Bool) (C:List (List (List Int))) (b':Bool) (C':List (List (List Int))):Prop where
 le:tot C'<=tot C
 up:b=true->b'=true
 lt:b'=true->b=true\/tot C' < tot C
theorem Pr.refl (b:Bool) (C:List (List (List Int))):Pr b C b C:=⟨Nat.le_refl _,id,.inl⟩
theorem Pr.trans {b b' b'':Bool} {C C' C'':List (List (List Int))} (h:Pr b C b' C') (k:Pr b' C' b'' C''):Pr b C b'' C'':=by
 have h1:=h.le;have k1:=k.le;refine ⟨by omega,fun e=>k.up (h.up e),fun e => ?_⟩;rcases k.lt e with e | e
 ·rcases h.lt e with e | e
  ·exact .inl e
  ·exact .inr (by omega)
 ·exact .inr (by omega)
theorem zqS (hg:GOk g) (hw:w.length<=60) {q t:Nat} (hqt:q+t<=w.length) {r9:R12}:∀ (m k:Nat) (b:Bool) (ks:List K3) (cv:List Int) (bv:List Chc) (C:List (List (List Int))),k+m=g.2.2.1.length->CI g w ks cv bv C->
  ∃ b' ks' cv' bv' C',zav g t q r9 b k g.1 g.2.1 g.2.2.1 w ks cv ks bv=r9 b' ((q:Int)+1) g.1 g.2.1 g.2.2.1 w ks' cv' ks' bv'/\zfP g w q (q+t) (g.2.2.1.drop k) b C=some (b',C')/\CI g w ks' cv' bv' C'/\Pr b C b' C':=by
 have hln:=hg.ln;have ha0:=hg.a0;have ha1:=hg.a1;have hn0:=hg.n0;have hn1:=hg.n1;intro m;induction m with
 | zero=>
  intro k b ks cv bv C hk h;refine ⟨b,ks,cv,bv,C,?_,?_,h,Pr.refl _ _⟩
  ·rw [zdF];unfold zaI;rw [if_neg (by simp only [decide_eq_true_eq];omega),zaz (by unfold fits;omega)]
  ·rw [List.drop_eq_nil_of_le (by omega)];rfl
 | succ m ih=>
  intro k b ks cv bv C hk h;have hk1:k < g.2.2.1.length:=by omega
  have hr:=hg.r k (by omega) (by omega);have hrow:=ztH (Mk:=g.2.2.1) (w:=w) (bv:=bv) h.b (fun A i k=>zsx) ⟨ha0,ha1⟩ ⟨hn0,hn1⟩ hw (ix g.2.2.1 k).2.1 q ((q:Int)+t) hr.l hr.s (by omega) (by omega) (by omega);have hrr:=ztI (Mk:=g.2.2.1) (N':=g.2.1) h.b h.c h.c0 h.c1 h.c2 ⟨ha0,ha1⟩ ⟨hn0,hn1⟩ hw (ix g.2.2.1 k).2.1 q ((q:Int)+t) hr.l hr.s (by omega) (by omega) (by omega);have hrb:=zmR (Lt:=g.1) (w:=w) h.b (ix g.2.2.1 k).2.1 q ((q:Int)+t);have hspl:=zoy (Lt:=g.1) (w:=w) h.b (ix g.2.2.1 k).2.1 q ((q:Int)+t) (by omega);generalize hR:rowF g.1 w (fM ks cv) (ix g.2.2.1 k).2.1 q ((q:Int)+t)=R at hrow hrr hrb hspl;obtain ⟨x,ends⟩:=R;dsimp only at hrow hrr hrb hspl;obtain ⟨A,hA⟩:∃ A:Nat,(ix g.2.2.1 k).1=(A:Int):=⟨(ix g.2.2.1 k).1.toNat,by have:=hr.f0;omega⟩;have hAN:(A:Int) < g.2.1:=by have:=hr.f1;omega
  have hqq:(((q+t:Nat)):Int)=(q:Int)+(t:Int):=by omega
  have hcx:ix (ix (ix C (ix g.2.2.1 k).1) (q:Int)) (((q+t:Nat)):Int)=fM ks cv A q ((q:Int)+t):=by rw [hA,hqq];exact h.c _ _ _ (by omega) hAN (by omega) (by omega) (by omega) (by omega)
  have hfb:=h.b A q ((q:Int)+t);have hcell:∀ b,zn1 g w q (q+t) (ix g.2.2.1 k) b C=some (if x < 1099511627775/\x+1 < fM ks cv A q ((q:Int)+t) then (true,zf1 C A q (q+t) (x+1)) else (b,C)):=fun b=>by
   unfold zn1;rw [hqq,show (g,w,C,())=((g.1,g.2.1,g.2.2.1,()),w,C,()) from rfl,hrr,Option.bind_some,zaz (by unfold fits;omega),<- hqq,hcx,hA];rfl
  have hdrop:g.2.2.1.drop k=ix g.2.2.1 k::g.2.2.1.drop (k+1):=by
   rw [List.drop_eq_getElem_cons hk1,zeA (by omega) (by omega)];rfl
  have hstart:∀ X,zaI g t q r9 (zav g t q r9) b k g.1 g.2.1 g.2.2.1 w ks cv ks bv=X->zav g t q r9 b k g.1 g.2.1 g.2.2.1 w ks cv ks bv=X:=fun X h=>by rw [zdF];exact h
  have hpro:zav g t q r9 b k g.1 g.2.1 g.2.2.1 w ks cv ks bv=if x < 1099511627776/\x+1 < fM ks cv A q ((q:Int)+t) then zav g t q r9 true ((k:Int)+1) g.1 g.2.1 g.2.2.1 w (zb1 ks ((A:Int),((q:Int),((q:Int)+t,())))) (putC ks cv ((A:Int),((q:Int),((q:Int)+t,()))) (x+1)) (zb1 ks ((A:Int),((q:Int),((q:Int)+t,())))) (putB ks bv ((A:Int),((q:Int),((q:Int)+t,()))) ((k:Int),(ends,())))
    else zav g t q r9 b ((k:Int)+1) g.1 g.2.1 g.2.2.1 w ks cv ks bv:=by
   refine hstart _ ?_;unfold zaI;rw [if_pos (by simp only [decide_eq_true_eq];omega),zaz (by omega),zaz (by unfold fits;omega),hrow,Option.bind_some,zaz (by unfold fits;omega)];by_cases c1:x < 1099511627776
   ·rw [if_pos (decide_eq_true c1),zaz (by unfold fits;dsimp only;omega),zaz (by unfold fits;omega),zsx,Option.bind_some,hA];by_cases c2:x+1 < fM ks cv A q ((q:Int)+t)
    ·rw [if_pos ⟨c1,c2⟩];unfold zaW;rw [if_pos (decide_eq_true c2),zaz (by unfold fits;omega),hA];have e4:imin (x+1) 1099511627775=x+1:=by unfold imin;split<;>omega
     have gc:=(zjf (x:=((A:Int),((q:Int),((q:Int)+(t:Int),())))) (z:=(0:Int)) (v:=(0:Int)) h.lc).2;have gb:=(zjf (x:=((A:Int),((q:Int),((q:Int)+(t:Int),())))) (z:=((0,([],())):Chc)) (v:=((0,([],())):Chc)) h.lb).2;have fin:zbb (k:Int) (zav g t q r9) g.1 g.2.1 g.2.2.1 w (zb1 ks ((A:Int),((q:Int),((q:Int)+t,())))) (putC ks cv ((A:Int),((q:Int),((q:Int)+t,()))) (imin (x+1) 1099511627775)) (zb1 ks ((A:Int),((q:Int),((q:Int)+t,())))) (putB ks bv ((A:Int),((q:Int),((q:Int)+t,()))) ((k:Int),(ends,())))=
       zav g t q r9 true ((k:Int)+1) g.1 g.2.1 g.2.2.1 w (zb1 ks ((A:Int),((q:Int),((q:Int)+t,())))) (putC ks cv ((A:Int),((q:Int),((q:Int)+t,()))) (x+1)) (zb1 ks ((A:Int),((q:Int),((q:Int)+t,())))) (putB ks bv ((A:Int),((q:Int),((q:Int)+t,()))) ((k:Int),(ends,()))):=by
      unfold zbb;rw [zaz (by unfold fits;omega),e4]
     repeat' first | exact G_to gc (G_to gb fin) | refine zcL ?_ ?_
    ·rw [if_neg (fun h=>c2 h.2)];unfold zaW;rw [if_neg (by simpa using c2),zaz (by unfold fits;omega)]
   ·rw [if_neg (by simpa using c1),if_neg (fun h=>c1 h.1)];unfold zaW;rw [if_neg (by decide),zaz (by unfold fits;omega)]
  rw [hdrop,hpro,zfP,hcell,Option.bind_some];by_cases c:x+1 < fM ks cv A q ((q:Int)+t)
  ·rw [if_pos ⟨by omega,c⟩,if_pos ⟨by omega,c⟩];have hput:=h.put (A:=A) (i:=q) (j:=q+t) (v:=x+1) (k:=k) (c:=x) (ends:=ends) hAN (by omega) hqt (by omega) (by rw [hqq];exact c) ⟨by omega,by omega⟩ hA (by rw [hqq];exact hspl (by omega)) (by omega);rw [hqq] at hput;obtain ⟨b',ks',cv',bv',C',e1,e2,e3,e4⟩:=ih (k+1) true _ _ _ _ (by omega) hput.1;refine ⟨b',ks',cv',bv',C',e1,e2,e3,Pr.trans ⟨by omega,fun _=>rfl,fun _ => .inr hput.2⟩ e4⟩
  ·rw [if_neg (fun h=>c h.2),if_neg (fun h=>c h.2)];obtain ⟨b',ks',cv',bv',C',e1,e2,e3,e4⟩:=ih (k+1) b _ _ _ _ (by omega) h;exact ⟨b',ks',cv',bv',C',e1,e2,e3,e4⟩
end
section
variable {g:Gm} {w:List Int}
abbrev R9:=Bool->Int->Int->List Rul->List Int->List K3->List Int->List K3->List Chc->Option (Int×Int×List Rul×List Int×List K3×List Int×List K3×List Chc)
theorem zpg (hg:GOk g) (hw:w.length<=60) {t:Nat} (ht:t<=w.length) {r6:R9}:∀ (m q:Nat) (b:Bool) (ks:List K3) (cv:List Int) (bv:List Chc) (C:List (List (List Int))),q+m+t=w.length+1->CI g w ks cv bv C->
  ∃ b' ks' cv' bv' C',za4 g w t r6 b q g.1 g.2.1 g.2.2.1 w ks cv ks bv=r6 b' g.1 g.2.1 g.2.2.1 w ks' cv' ks' bv'/\is17 g w t m q b C=some (b',C')/\CI g w ks' cv' bv' C'/\Pr b C b' C':=by
 intro m;induction m with
 | zero=>
  intro q b ks cv bv C hq h;refine ⟨b,ks,cv,bv,C,?_,rfl,h,Pr.refl _ _⟩;rw [zd3];unfold za0;rw [zaz (by unfold fits;omega),if_neg (by simp only [decide_eq_true_eq];omega)]
 | succ m ih=>
  intro q b ks cv bv C hq h;rw [zd3];unfold za0;rw [zaz (by unfold fits;omega),if_pos (by simp only [decide_eq_true_eq];omega)];obtain ⟨b1,ks1,cv1,bv1,C1,e1,e2,e3,e4⟩:=zqS hg hw (q:=q) (t:=t) (by omega) (r9:=za4 g w t r6) g.2.2.1.length 0 b ks cv bv C (by omega) h;obtain ⟨b2,ks2,cv2,bv2,C2,f1,f2,f3,f4⟩:=ih (q+1) b1 ks1 cv1 bv1 C1 (by omega) e3;refine ⟨b2,ks2,cv2,bv2,C2,e1.trans f1,?_,f3,e4.trans f4⟩;rw [is17];rw [List.drop_zero] at e2;rw [e2,Option.bind_some];exact f2
abbrev R3c:=Int->Int->Int->List Rul->List Int->List K3->List Int->List K3->List Chc->Option (Int×Int×List Rul×List Int×List K3×List Int×List K3×List Chc)
theorem zrV (hg:GOk g) (hw:w.length<=60) {t:Nat} (ht:t<=w.length) {r3:R3c}:∀ (T:Nat) (ks:List K3) (cv:List Int) (bv:List Chc) (C:List (List (List Int))) (F:Nat),tot C<=T->T < F->CI g w ks cv bv C->
  ∃ ks' cv' bv' C',zaT g w t r3 true g.1 g.2.1 g.2.2.1 w ks cv ks bv=r3 ((t:Int)+1) g.1 g.2.1 g.2.2.1 w ks' cv' ks' bv'/\zcr g w t F C=some C'/\CI g w ks' cv' bv' C'/\tot C'<=tot C:=by
 intro T;induction T with
 | zero=>
  intro ks cv bv C F hT hF h;obtain ⟨F',rfl⟩:∃ F',F=F'+1:=⟨F - 1,by omega⟩;obtain ⟨b1,ks1,cv1,bv1,C1,e1,e2,e3,e4⟩:=zpg hg hw ht (r6:=zaT g w t r3) (w.length+1 - t) 0 false ks cv bv C (by omega) h;have hb:b1=false:=by
   cases b1 with
   | false=>rfl
   | true=>rcases e4.lt rfl with h' | h'<;>first | cases h' | omega
  subst hb;refine ⟨ks1,cv1,bv1,C1,?_,?_,e3,e4.le⟩
  ·rw [zbp];unfold zaC;rw [if_pos rfl];refine e1.trans ?_;rw [zbp];unfold zaC;rw [if_neg (by decide),zaz (by unfold fits;omega)]
  ·rw [zcr,e2,Option.bind_some];rfl
 | succ T ih=>
  intro ks cv bv C F hT hF h;obtain ⟨F',rfl⟩:∃ F',F=F'+1:=⟨F - 1,by omega⟩;obtain ⟨b1,ks1,cv1,bv1,C1,e1,e2,e3,e4⟩:=zpg hg hw ht (r6:=zaT g w t r3) (w.length+1 - t) 0 false ks cv bv C (by omega) h;cases b1 with
  | false=>
   refine ⟨ks1,cv1,bv1,C1,?_,?_,e3,e4.le⟩
   ·rw [zbp];unfold zaC;rw [if_pos rfl];refine e1.trans ?_;rw [zbp];unfold zaC;rw [if_neg (by decide),zaz (by unfold fits;omega)]
   ·rw [zcr,e2,Option.bind_some];rfl
  | true=>
   have hlt:tot C1 < tot C:=by rcases e4.lt rfl with h' | h'<;>first | cases h' | exact h'
   obtain ⟨ks2,cv2,bv2,C2,f1,f2,f3,f4⟩:=ih ks1 cv1 bv1 C1 F' (by omega) (by omega) e3;refine ⟨ks2,cv2,bv2,C2,?_,?_,f3,by omega⟩
   ·rw [zbp];unfold zaC;rw [if_pos rfl];exact e1.trans f1
   ·rw [zcr,e2,Option.bind_some];exact f2
theorem zrU (hg:GOk g) (hw:w.length<=60):∀ (m t:Nat) (ks:List K3) (cv:List Int) (bv:List Chc) (C:List (List (List Int))) (F:Nat),t+m=w.length+1->tot C < F->CI g w ks cv bv C->
  ∃ ks' cv' bv' C',zbQ g w t g.1 g.2.1 g.2.2.1 w ks cv ks bv=some (g.1,g.2.1,g.2.2.1,w,ks',cv',ks',bv')/\ze8 g w F m t C=some C'/\CI g w ks' cv' bv' C':=by
 intro m;induction m with
 | zero=>
  intro t ks cv bv C F ht hF h;refine ⟨ks,cv,bv,C,?_,rfl,h⟩;rw [zd2];unfold zaZ;rw [if_neg (by simp only [decide_eq_true_eq];omega)]
 | succ m ih=>
  intro t ks cv bv C F ht hF h;obtain ⟨ks1,cv1,bv1,C1,e1,e2,e3,e4⟩:=zrV hg hw (t:=t) (by omega) (r3:=zbQ g w) (tot C) ks cv bv C F (Nat.le_refl _) hF h;obtain ⟨ks2,cv2,bv2,C2,f1,f2,f3⟩:=ih (t+1) ks1 cv1 bv1 C1 F (by omega) (by omega) e3;refine ⟨ks2,cv2,bv2,C2,?_,?_,f3⟩
  ·rw [zd2];unfold zaZ;rw [if_pos (by simp only [decide_eq_true_eq];omega)];exact e1.trans f1
  ·rw [ze8,e2,Option.bind_some];exact f2
theorem zna (hg:GOk g) (hw:w.length<=12):∃ ks cv bv C,zd0 g w=some (g.1,g.2.1,g.2.2.1,w,ks,cv,ks,bv)/\CI g w ks cv bv C/\ze4 g w=some (fM ks cv 0 0 w.length):=by
 have hln:=hg.ln;have hn0:=hg.n0;have hn1:=hg.n1;have hNN:((g.2.1.toNat:Nat):Int)=g.2.1:=by omega
 have r1:∀ A:Int,0<=A->A < g.2.1->ix (List.replicate g.2.1.toNat (List.replicate (w.length+1) (List.replicate (w.length+1) (1099511627776:Int)))) A=List.replicate (w.length+1) (List.replicate (w.length+1) 1099511627776):=fun A h0 h1=>by
  rw [zeA h0 (by simp;omega)];simp
 have r2:∀ A:Int,0<=A->A<=w.length->ix (List.replicate (w.length+1) (List.replicate (w.length+1) (1099511627776:Int))) A=List.replicate (w.length+1) 1099511627776:=fun A h0 h1=>by
  rw [zeA h0 (by simp;omega)];simp
 have r3:∀ A:Int,0<=A->A<=w.length->ix (List.replicate (w.length+1) (1099511627776:Int)) A=1099511627776:=fun A h0 h1=>by
  rw [zeA h0 (by simp;omega)];simp
 have h0:CI g w [] [] [] (List.replicate g.2.1.toNat (List.replicate (w.length+1) (List.replicate (w.length+1) 1099511627776))):=by
  refine ⟨rfl,rfl,fun A i j h=>by rw [zjd] at h;simp at h,by simp<;>omega,fun A a0 a1=>by rw [r1 A a0 a1];simp,fun A i a0 a1 i0 i1=>by rw [r1 A a0 a1,r2 i i0 i1];simp,fun A i k a0 a1 i0 i1 k0 k1 => ?_⟩;rw [r1 A a0 a1,r2 i i0 i1,r3 k k0 k1];unfold fM;rw [if_neg (by rw [zjd];simp)]
 have ht:tot (List.replicate g.2.1.toNat (List.replicate (w.length+1) (List.replicate (w.length+1) (1099511627776:Int)))) < m17:=by
  unfold tot;rw [List.map_replicate,List.sum_replicate_nat];unfold tot2;rw [List.map_replicate,List.sum_replicate_nat];unfold tot1;rw [List.map_replicate,List.sum_replicate_nat];have e1:g.2.1.toNat<=6:=by omega
  have e2:w.length+1<=13:=by omega
  have e3:(1099511627776:Int).toNat=1099511627776:=rfl;rw [e3];have h1:(w.length+1) * 1099511627776<=13 * 1099511627776:=Nat.mul_le_mul_right _ e2;have h2:(w.length+1) * ((w.length+1) * 1099511627776)<=13 * (13 * 1099511627776):=Nat.mul_le_mul e2 h1;have h3:g.2.1.toNat * ((w.length+1) * ((w.length+1) * 1099511627776))<=6 * (13 * (13 * 1099511627776)):=Nat.mul_le_mul e1 h2;unfold m17;omega
 obtain ⟨ks,cv,bv,C,e1,e2,e3⟩:=zrU hg (by omega) (w.length+1) 0 [] [] [] _ m17 (by omega) ht h0;refine ⟨ks,cv,bv,C,?_,e3,?_⟩
 ·unfold zd0;exact e1
 ·have hmk:∀ m∈g.2.2.1,0<=m.1/\m.1 < g.2.1:=fun m hm=>by
   obtain ⟨k,hk,rfl⟩:=List.getElem_of_mem hm;have:=hg.r k (by omega) (by omega);rw [zeA (by omega) (by omega)] at this;exact ⟨this.f0,this.f1⟩
  unfold ze4;rw [zaz ⟨hw,by omega,hn1,hln,hmk⟩,e2,Option.bind_some,e3.c 0 0 w.length (by omega) (by omega) (by omega) (by omega) (by omega) (Int.le_refl _)]
end
inductive Dv (g:Gm):List Int->List Int->List Int->Prop
 | nil:Dv g [] [] []
 | lt (s:Int) (r d v:List Int):s < g.1->Dv g r d v->Dv g (s::r) d (s::v)
 | nt (s k:Int) (r d v:List Int):g.1<=s->0<=k->k < g.2.2.1.length->(ix g.2.2.1 k).1=s - g.1->Dv g ((ix g.2.2.1 k).2.1++r) d v->Dv g (s::r) (k::d) v
section
variable {g:Gm}
theorem Dv.app {r1 d1 v1 r2 d2 v2:List Int} (h:Dv g r1 d1 v1) (k:Dv g r2 d2 v2):Dv g (r1++r2) (d1++d2) (v1++v2):=by
 induction h with
 | nil=>exact k
 | lt s r d v hs _ ih=>exact .lt s _ _ _ hs ih
 | nt s q r d v hs h0 h1 h2 _ ih=>
  refine .nt s q _ _ _ hs h0 h1 h2 ?_;have:=ih;rw [List.append_assoc] at this;exact this
theorem Dv.done {r v:List Int} (h:Dv g r [] v):r=v:=by
 generalize hd:([]:List Int)=d at h;induction h with
 | nil=>rfl
 | lt s r d v hs _ ih=>rw [ih hd]
 | nt=>cases hd
end
def sub (w:List Int) (i j:Int):List Int:=(w.drop i.toNat).take (j - i).toNat
theorem zsK (w:List Int) (i:Int):sub w i i=[]:=by unfold sub;simp
theorem zqG {w:List Int} {i k j:Int} (h0:0<=i) (h1:i<=k) (h2:k<=j):sub w i k++sub w k j=sub w i j:=by
 unfold sub;have e:w.drop k.toNat=(w.drop i.toNat).drop (k - i).toNat:=by rw [List.drop_drop];congr 1;omega
 rw [e,show (j - i).toNat=(k - i).toNat+(j - k).toNat by omega,List.take_add]
theorem zsL {w:List Int} {i:Int} (h0:0<=i) (h1:i < w.length):sub w i (i+1)=[ix w i]:=by
 unfold sub;rw [show (i+1 - i).toNat=1 by omega,List.drop_eq_getElem_cons (by omega),List.take_succ_cons,List.take_zero,zeA h0 h1]
section
variable {g:Gm} {w:List Int} {ks:List K3} {cv:List Int} {bv:List Chc} {C:List (List (List Int))}
theorem zo0 {name i j:Int} {i1 t:Int} {out:List Int}:zdC name i j g.2.2.1 ks bv i1 t g.1 g.2.1 g.2.2.1 w out ks cv ks bv=zal zau name i j g.2.2.1 ks bv i1 t g.1 g.2.1 g.2.2.1 w out ks cv ks bv:=rfl
theorem Spl.pos {Lt:Int} {f:Int->Int->Int->Int} (hf:∀ A i k,0<=f A i k/\f A i k<=1099511627776):∀ (l:List Int) (i j:Int) (e:List Int) (c:Int),Spl Lt w f l i j e c->0<=c
 | [],i,j,e,c,h=>by rw [h.2.2];omega
 | s::r,i,j,e,c,⟨k,l',c',h1,_,_,_,h5,h6⟩=>by
  have:=Spl.pos hf r _ _ _ _ h5;have:=(nn_b (Lt:=Lt) (w:=w) hf s i k).1;omega
theorem zkL (hg:GOk g) (hw:w.length<=60) (h:CI g w ks cv bv C) {A I J k:Int} {ends0:List Int} (he:mget ks bv (A,(I,(J,()))) ((0,([],())):Chc)=(k,(ends0,()))) (hk:0<=k/\k < g.2.2.1.length) {c:Int}
  (ih:∀ (B i j:Int) (out:List Int),mhas ks (B,(i,(j,())))=true->fM ks cv B i j<=c->out.length+fM ks cv B i j<=100000->
   ∃ d,zau B i j g.1 g.2.1 g.2.2.1 w out ks cv ks bv=some (out++d,g.1,g.2.1,g.2.2.1,w,ks,cv,ks,bv)/\(d.length:Int)<=fM ks cv B i j/\Dv g [g.1+B] d (sub w i j)):
  ∀ (rs:List Int) (t i j:Int) (le:List Int) (ct:Int) (out:List Int),0<=t->(ix g.2.2.1 k).2.1.drop t.toNat=rs->ends0.drop t.toNat=le->t+rs.length=(ix g.2.2.1 k).2.1.length->t+le.length=ends0.length->0<=i->i<=j->j<=w.length->Spl g.1 w (fM ks cv) rs i j le ct->ct<=c->(∀ s∈rs,0<=s/\s < g.1+g.2.1)->out.length+ct<=100000->
  ∃ d,zal zau A I J g.2.2.1 ks bv i t g.1 g.2.1 g.2.2.1 w out ks cv ks bv=some (out++d,g.1,g.2.1,g.2.2.1,w,ks,cv,ks,bv)/\(d.length:Int)<=ct/\Dv g rs d (sub w i j):=by
 have ha0:=hg.a0;have ha1:=hg.a1;have hn0:=hg.n0;have hn1:=hg.n1;have hr3:=(hg.r k hk.1 hk.2).l;intro rs;induction rs with
 | nil=>
  intro t i j le ct out t0 hrs hle ht htl i0 ij jw hsp hct hs ho;obtain ⟨rfl,rfl,rfl⟩:=hsp;refine ⟨[],?_,by simp,by rw [zsK];exact .nil⟩;rw [zck];unfold zat;rw [he];simp only [List.length_nil] at ht;rw [if_neg (by simp only [decide_eq_true_eq];omega),List.append_nil]
 | cons s r ihr=>
  intro t i j le ct out t0 hrs hle ht htl i0 ij jw hsp hct hs ho;obtain ⟨k',l',c',rfl,h1,h2,h3,h4,h5⟩:=hsp;simp only [List.length_cons] at ht htl;have hnb:=nn_b (Lt:=g.1) (w:=w) h.b s i k';have hcp:=Spl.pos h.b _ _ _ _ _ h4;have hs0:=hs s (by simp);have htl1:t < ((ix g.2.2.1 k).2.1.length:Int):=by omega
  have htl2:t < (ends0.length:Int):=by omega
  have es:ix (ix g.2.2.1 k).2.1 t=s:=by
   have:(ix g.2.2.1 k).2.1.drop t.toNat=(ix g.2.2.1 k).2.1[t.toNat]'(by omega)::(ix g.2.2.1 k).2.1.drop (t.toNat+1):=List.drop_eq_getElem_cons _;rw [this] at hrs;rw [zeA t0 htl1];exact (List.cons.inj hrs).1
  have er:(ix g.2.2.1 k).2.1.drop (t+1).toNat=r:=by
   have:(ix g.2.2.1 k).2.1.drop t.toNat=(ix g.2.2.1 k).2.1[t.toNat]'(by omega)::(ix g.2.2.1 k).2.1.drop (t.toNat+1):=List.drop_eq_getElem_cons _;rw [this] at hrs;rw [show (t+1).toNat=t.toNat+1 by omega];exact (List.cons.inj hrs).2
  have ee:ix ends0 t=k':=by
   have:ends0.drop t.toNat=ends0[t.toNat]'(by omega)::ends0.drop (t.toNat+1):=List.drop_eq_getElem_cons _;rw [this] at hle;rw [zeA t0 htl2];exact (List.cons.inj hle).1
  have el:ends0.drop (t+1).toNat=l':=by
   have:ends0.drop t.toNat=ends0[t.toNat]'(by omega)::ends0.drop (t.toNat+1):=List.drop_eq_getElem_cons _;rw [this] at hle;rw [show (t+1).toNat=t.toNat+1 by omega];exact (List.cons.inj hle).2
  have hgo:∀ X,zat zau A I J g.2.2.1 ks bv (zal zau A I J g.2.2.1 ks bv) i t g.1 g.2.1 g.2.2.1 w out ks cv ks bv=X->zal zau A I J g.2.2.1 ks bv i t g.1 g.2.1 g.2.2.1 w out ks cv ks bv=X:=fun X h=>by rw [zck];exact h
  have hJ:∀ o:List Int,zaD A I J ks bv t (zal zau A I J g.2.2.1 ks bv) g.1 g.2.1 g.2.2.1 w o ks cv ks bv=zal zau A I J g.2.2.1 ks bv k' (t+1) g.1 g.2.1 g.2.2.1 w o ks cv ks bv:=fun o=>by
   unfold zaD;rw [he,zaz ⟨t0,htl2⟩,zaz (by unfold fits;omega),ee]
  by_cases c1:s < g.1
  ·have hn:nn g.1 w (fM ks cv) s i k'=0/\k'=i+1/\ix w i=s:=by
    unfold nn at h3 ⊢;rw [if_pos c1] at h3 ⊢;by_cases c2:k'=i+1/\ix w i=s
    ·rw [if_pos c2];exact ⟨rfl,c2⟩
    ·rw [if_neg c2] at h3;omega
   obtain ⟨d,e1,e2,e3⟩:=ihr (t+1) k' j l' c' out (by omega) er el (by omega) (by omega) (by omega) h2 jw h4 (by omega) (fun x hx=>hs x (by simp [hx])) (by omega);refine ⟨d,?_,by omega,?_⟩
   ·refine hgo _ ?_;unfold zat;rw [he];dsimp only;rw [if_pos (decide_eq_true htl1),zaz ⟨t0,htl1⟩,es,if_neg (by simp only [decide_eq_true_eq];omega)];exact (hJ out).trans e1
   ·rw [<- zqG i0 h1 h2,hn.2.1,zsL i0 (by omega),hn.2.2,List.singleton_append];rw [hn.2.1] at e3;exact .lt s _ _ _ c1 e3
  ·have hn:nn g.1 w (fM ks cv) s i k'=fM ks cv (s - g.1) i k':=by unfold nn;rw [if_neg c1]
   have hm:mhas ks (s - g.1,(i,(k',())))=true:=by
    refine Classical.byContradiction fun hc => ?_
    rw [hn] at h3;unfold fM at h3;rw [if_neg hc] at h3;omega
   obtain ⟨d1,f1,f2,f3⟩:=ih (s - g.1) i k' out hm (by omega) (by omega);obtain ⟨d,e1,e2,e3⟩:=ihr (t+1) k' j l' c' (out++d1) (by omega) er el (by omega) (by omega) (by omega) h2 jw h4 (by omega) (fun x hx=>hs x (by simp [hx])) (by rw [List.length_append];omega);refine ⟨d1++d,?_,by rw [List.length_append];omega,?_⟩
   ·refine hgo _ ?_;unfold zat;rw [he];dsimp only;rw [if_pos (decide_eq_true htl1),zaz ⟨t0,htl1⟩,es,if_pos (by simp only [decide_eq_true_eq];omega),zaz (by unfold fits;omega),zaz ⟨t0,htl2⟩,ee,f1,Option.bind_some,<- List.append_assoc];exact (hJ (out++d1)).trans e1
   ·rw [<- zqG i0 h1 h2];rw [show g.1+(s - g.1)=s by omega] at f3;exact f3.app e3
theorem Spl.len {Lt:Int} {f:Int->Int->Int->Int}:∀ (l:List Int) (i j:Int) (e:List Int) (c:Int),Spl Lt w f l i j e c->e.length=l.length
 | [],i,j,e,c,h=>by rw [h.2.1]
 | s::r,i,j,e,c,⟨k,l',c',h1,_,_,_,h5,_⟩=>by rw [h1,List.length_cons,List.length_cons,Spl.len r _ _ _ _ h5]
theorem zss (hg:GOk g) (hw:w.length<=60) (h:CI g w ks cv bv C):∀ (n:Nat) (A i j:Int) (out:List Int),mhas ks (A,(i,(j,())))=true->fM ks cv A i j<=n->out.length+fM ks cv A i j<=100000->
  ∃ d,zau A i j g.1 g.2.1 g.2.2.1 w out ks cv ks bv=some (out++d,g.1,g.2.1,g.2.2.1,w,ks,cv,ks,bv)/\(d.length:Int)<=fM ks cv A i j/\Dv g [g.1+A] d (sub w i j):=by
 intro n;induction n with
 | zero=>
  intro A i j out hm hn ho;have:=(h.v A i j hm).2.2.1;omega
 | succ n ih=>
  intro A i j out hm hn ho;obtain ⟨q1,q2,q3,k,ends,c,q4,q5,q6,q7,q8⟩:=h.v A i j hm;have hr:=hg.r k q5.1 q5.2;have hl:=Spl.len _ _ _ _ _ q7;obtain ⟨d,e1,e2,e3⟩:=zkL hg hw h q4 q5 (c:=(n:Int)) (fun B i j out a b c=>ih B i j out a b (by omega)) (ix g.2.2.1 k).2.1 0 i j ends c (out++[k]) (Int.le_refl _) rfl rfl (by omega) (by omega) (by omega) q2.2.1 q2.2.2 q7 (by omega) hr.s (by rw [List.length_append,List.length_singleton];omega);refine ⟨k::d,?_,by rw [List.length_cons];omega,?_⟩
  ·rw [zfC];unfold zaV;rw [q4];dsimp only;rw [zaz (by unfold room;rw [List.length_singleton];omega),zaz q5,e1,List.append_assoc];rfl
  ·exact .nt _ _ _ _ _ (by omega) q5.1 q5.2 (by omega) (by rw [List.append_nil];exact e3)
theorem zsr (hg:GOk g) (hw:w.length<=60) (h:CI g w ks cv bv C) {A i j:Int} (hm:mhas ks (A,(i,(j,())))=true) (hn:fM ks cv A i j<=2000):
  ∃ d,zbM A i j g.1 g.2.1 g.2.2.1 w ks cv ks bv=some (d,g.1,g.2.1,g.2.2.1,w,ks,cv,ks,bv)/\(d.length:Int)<=fM ks cv A i j/\Dv g [g.1+A] d (sub w i j):=by
 obtain ⟨q1,q2,q3,k,ends,c,q4,q5,q6,q7,q8⟩:=h.v A i j hm;have hr:=hg.r k q5.1 q5.2;have hl:=Spl.len _ _ _ _ _ q7;obtain ⟨d,e1,e2,e3⟩:=zkL hg hw h q4 q5 (c:=2000) (fun B i j out a b c=>zss hg hw h 2000 B i j out a b (by omega)) (ix g.2.2.1 k).2.1 0 i j ends c [k] (Int.le_refl _) rfl rfl (by omega) (by omega) (by omega) q2.2.1 q2.2.2 q7 (by omega) hr.s (by rw [List.length_singleton];omega);refine ⟨k::d,?_,by rw [List.length_cons];omega,?_⟩
 ·unfold zbM;rw [q4];dsimp only;rw [zaz (by unfold room;simp),zaz q5,zo0,e1];rfl
 ·exact .nt _ _ _ _ _ (by omega) q5.1 q5.2 (by omega) (by rw [List.append_nil];exact e3)
end
section
variable {g:Gm} {w makes:List Int}
theorem zk8 (hw:w.length<=60) {pre v:List Int} (hv:pre++v=w) {at':Int}:zc2 g makes w at' makes.length (pre++v)=some true:=by
 rw [zdJ];unfold zbi;rw [if_neg (by simp only [decide_eq_true_eq];omega),hv,zlU (by omega),Option.bind_some];simp
theorem zqY (hg:GOk g) (hw:w.length<=60) (hm:makes.length<=2000) {rest d v:List Int} (h:Dv g rest d v):∀ (pre:List Int) (i:Nat),d≠[]->makes.drop i=d->pre++v=w->pre.length+rest.length<=1+2 * i->
  zbS g makes i (pre++rest) (zc2 g makes w) pre.length=some true:=by
 induction h with
 | nil=>intro pre i hd;exact absurd rfl hd
 | lt s r d v hs _ ih=>
  intro pre i hd hi hv hl;have hil:i < makes.length:=by
   refine Classical.byContradiction fun hc=>hd ?_
   rw [<- hi,List.drop_eq_nil_of_le (by omega)]
  simp only [List.length_cons] at hl;have hlen:(pre++s::r).length=pre.length+r.length+1:=by simp;omega
  have hx:ix (pre++s::r) (pre.length:Int)=s:=by rw [zfL];simp [List.getD_eq_getElem?_getD]
  rw [zf0];unfold zbt;rw [if_pos (by simp only [decide_eq_true_eq,hlen];omega),zaz (by rw [hlen];omega),zaz (by rw [hlen];omega),hx,if_pos (decide_eq_true hs),zaz (by unfold fits;omega)];have:=ih (pre++[s]) i hd hi (by rw [List.append_assoc];exact hv) (by rw [List.length_append,List.length_singleton];omega);rw [List.append_assoc,List.length_append,List.length_singleton] at this;exact this
 | nt s k r d v hs h0 h1 h2 hD ih=>
  intro pre i hd hi hv hl;have hil:i < makes.length:=by
   refine Classical.byContradiction fun hc=>hd ?_
   rw [<- hi,List.drop_eq_nil_of_le (by omega)]
  have hr:=(hg.r k h0 h1).l;have hdr:=List.drop_eq_getElem_cons hil;rw [hdr] at hi;obtain ⟨hk,hi'⟩:=List.cons.inj hi;have hmk:ix makes (i:Int)=k:=by rw [zeA (by omega) (by omega)];exact hk
  have hlen:(pre++s::r).length=pre.length+r.length+1:=by simp;omega
  have hx:ix (pre++s::r) (pre.length:Int)=s:=by rw [zfL];simp [List.getD_eq_getElem?_getD]
  simp only [List.length_cons] at hl;have ha0:=hg.a0;have ha1:=hg.a1;have hn0:=hg.n0;have hn1:=hg.n1;have hf:=(hg.r k h0 h1).f1;have hrow:((([]:List Int)++(((pre++s::r).drop 0).take ((pre.length:Int)).toNat))++(((ix g.2.2.1 (ix makes (i:Int))).2).1))++(((pre++s::r).drop (((pre.length:Int)+(1:Int)).toNat)).take ((pre++s::r).length - ((pre.length:Int)+(1:Int)).toNat))=pre++((ix g.2.2.1 k).2.1++r):=by
   rw [hmk,Int.toNat_natCast,show ((pre.length:Int)+1).toNat=pre.length+1 by omega];simp;exact List.take_of_length_le (by omega)
  rw [zf0];unfold zbt;rw [if_pos (by simp only [decide_eq_true_eq,hlen];omega),zaz (by rw [hlen];omega),zaz (by rw [hlen];omega),hx,if_neg (by simp only [decide_eq_true_eq];omega)];unfold zco;rw [hrow,hmk,hx];rw [zaz (by omega),if_neg (by simp only [decide_eq_true_eq];omega),zaz (by omega),if_neg (by simp only [decide_eq_true_eq];omega),if_neg (by simp only [decide_eq_true_eq,hlen];omega),zaz (by omega),zaz ⟨h0,h1⟩,zaz (by rw [hlen];omega),zaz (by rw [hlen];omega),zaz (by unfold fits;omega),if_neg (by simp [h2])];rw [zaz (by rw [hlen];omega),zaz (by rw [hlen];omega)];rw [zaz (by unfold room;simp;omega),zaz (by unfold room;simp;omega),zaz (by unfold fits;omega),zaz (by rw [hlen];omega),zaz (by rw [hlen];omega),zaz (by unfold room;simp;omega)];rw [if_neg (by simp only [decide_eq_true_eq,List.length_append];omega),zaz (by unfold fits;omega)];cases d with
  | nil=>
   have hlen:i+1=makes.length:=by
    have:=congrArg List.length hi';simp only [List.length_drop,List.length_nil] at this;omega
   have e:=hD.done;rw [e,show ((i:Int)+1)=(makes.length:Int) by omega];exact zk8 hw hv
  | cons d1 d2=>
   have hil2:i+1 < makes.length:=by
    have:=congrArg List.length hi';simp only [List.length_drop,List.length_cons] at this;omega
   rw [zdJ];unfold zbi;rw [if_pos (by simp only [decide_eq_true_eq];omega)];exact ih pre (i+1) (by simp) hi' hv (by rw [List.length_append];omega)
theorem zqZ (hg:GOk g) (hw:w.length<=60) (hm:makes.length<=2000) (h:Dv g [g.1] makes w):zfZ g makes w=some true:=by
 unfold zfZ;have hne:makes≠[]:=by
  rintro rfl;cases h with
  | lt _ _ _ _ hs=>omega
 rw [zdJ];unfold zbi;have:0 < makes.length:=List.length_pos_iff.2 hne;rw [if_pos (by simp only [decide_eq_true_eq];omega)];exact zqY hg hw hm h [] 0 hne rfl rfl (by simp)
end
theorem zpc {g:Gm} {w:List Int} (hg:GOk g) (h0:zbN g=some 0) (hm:mayE g.1 w=0) (hw:w.length<=12):∃ c,ze4 g w=some c/\0<=c/\c<=1099511627776/\
  (c=1099511627776->zaY g w=some (false,0,[]))/\(c < 1099511627776->2000 < c->zaY g w=some (false,7,[]))/\
  (c<=2000->∃ d,zaY g w=some (true,0,d)/\(d.length:Int)<=2000/\zfZ g d w=some true):=by
 obtain ⟨ks,cv,bv,C,e1,h,e3⟩:=zna hg hw;have hb:=h.b 0 0 w.length;have hT:∀ X,(if (decide (fM ks cv 0 0 w.length=(1099511627776:Int)))=true then some (false,(0:Int),([]:List Int)) else if (decide ((2000:Int) < fM ks cv 0 0 w.length))=true then some (false,(7:Int),[]) else
   (zbM (0:Int) (0:Int) (w.length:Int) g.1 g.2.1 g.2.2.1 w ks cv ks bv).bind (fun y=>some (true,(0:Int),y.1)))=X->zbN g=some 0->zaY g w=X:=by
  intro X hX h0;unfold zaY;rw [show (g.1,(g.2.1,(g.2.2.1,())))=g from rfl,h0,Option.bind_some,if_neg (by decide),zfa,Option.bind_some,hm,if_neg (by decide),if_neg (by simp only [decide_eq_true_eq];omega),e1,Option.bind_some,zsx,Option.bind_some];exact hX
 refine ⟨_,e3,hb.1,hb.2,fun hc=>hT _ ?_ h0,fun hc hc2=>hT _ ?_ h0,fun hc => ?_⟩
 ·rw [if_pos (decide_eq_true hc)]
 ·rw [if_neg (by simp only [decide_eq_true_eq];omega),if_pos (decide_eq_true hc2)]
 ·have hmh:mhas ks ((0:Int),((0:Int),((w.length:Int),())))=true:=by
   refine Classical.byContradiction fun hn => ?_
   unfold fM at hc;rw [if_neg hn] at hc;omega
  obtain ⟨d,f1,f2,f3⟩:=zsr hg (by omega) h hmh hc;have hsub:sub w 0 w.length=w:=by unfold sub;simp
  rw [hsub,Int.add_zero] at f3;refine ⟨d,hT _ ?_ h0,by omega,zqZ hg (by omega) (by omega) f3⟩;rw [if_neg (by simp only [decide_eq_true_eq];omega),if_neg (by simp only [decide_eq_true_eq];omega),f1];rfl
theorem zry {g:Gm} {w:List Int} {e:Int} (h:zbN g=some e) (he:e≠0):zaY g w=some (false,e,[]):=by
 unfold zaY;rw [show (g.1,(g.2.1,(g.2.2.1,())))=g from rfl,h,Option.bind_some,if_pos (by simpa using he)]
theorem zqJ {g:Gm} {w:List Int} (h:zbN g=some 0) (he:mayE g.1 w≠0):zaY g w=some (false,mayE g.1 w,[]):=by
 unfold zaY;rw [show (g.1,(g.2.1,(g.2.2.1,())))=g from rfl,h,Option.bind_some,if_neg (by decide),zfa,Option.bind_some,if_pos (by simpa using he)]
theorem zqK {g:Gm} {w:List Int} (h:zbN g=some 0) (he:mayE g.1 w=0) (hw:12 < w.length):zaY g w=some (false,1,[]):=by
 unfold zaY;rw [show (g.1,(g.2.1,(g.2.2.1,())))=g from rfl,h,Option.bind_some,if_neg (by decide),zfa,Option.bind_some,he,if_neg (by decide),if_pos (by simp only [decide_eq_true_eq];omega)]
theorem zk4 {g:Gm} {w:List Int} {e:Int} (he:e≠0):zbj g w false e [] e=some true:=by
 unfold zbj;rw [if_pos (by simpa using he),if_pos (by simp),if_pos (by decide)];rfl
theorem law_true (g:Gm) (w:List Int):zeY g w=some true:=by
 obtain ⟨e,c1,c2,c3⟩:=zoJ (g:=g);unfold zeY;rw [show (g.1,(g.2.1,(g.2.2.1,())))=g from rfl,c1,Option.bind_some,c2,Option.bind_some];by_cases he:e=0
 case neg=>
  rw [zry c1 he,Option.bind_some,if_neg (by simp),if_neg (by simpa using he)];unfold zaX;rw [if_neg (by simpa using he)];unfold zbm;rw [if_neg (by decide)];unfold zaL;rw [if_neg (by simpa using he)];exact zk4 he
 subst he;have hg:=c3 rfl;by_cases hm:mayE g.1 w=0
 case neg=>
  rw [zqJ c1 hm,Option.bind_some,if_neg (by simp),if_pos (by decide),zg5,Option.bind_some];unfold zaX;rw [if_neg (by simpa using hm)];unfold zbm;rw [if_neg (by decide)];unfold zaL;rw [if_neg (by simpa using hm)];exact zk4 hm
 by_cases hw:12 < w.length
 ·rw [zqK c1 hm hw,Option.bind_some,if_neg (by simp),if_pos (by decide),zg5,Option.bind_some,hm];unfold zaX;rw [if_pos (by decide)];unfold zbm;rw [if_pos (by simp only [decide_eq_true_eq];omega)];unfold zaL;rw [if_neg (by decide)];exact zk4 (by decide)
 obtain ⟨c,e3,b0,b1,h1,h2,h3⟩:=zpc hg c1 hm (by omega);have fin:∀ t:Bool×Int×List Int,zaY g w=some t->zaL g w t.1 t.2.1 t.2.2 0=some true->((zaY g w).bind fun y'_8=>
   if (decide (¬ (0:Int)=0))=true then some false else if (decide ((0:Int)=(0:Int)))=true then (zmL g.1 w).bind (fun y'_6=>zaX g w y'_8.1 y'_8.2.1 y'_8.2.2 y'_6) else zaX g w y'_8.1 y'_8.2.1 y'_8.2.2 0)=some true:=by
  intro t ht hJ;rw [ht,Option.bind_some,if_neg (by simp),if_pos (by decide),zg5,Option.bind_some,hm];unfold zaX;rw [if_pos (by decide)];unfold zbm;rw [if_neg (by simp only [decide_eq_true_eq];omega)];exact hJ
 by_cases d1:c=1099511627776
 ·refine fin _ (h1 d1) ?_;unfold zaL;rw [if_pos (by decide),show (g.1,(g.2.1,(g.2.2.1,())))=g from rfl,e3,Option.bind_some,if_pos (decide_eq_true d1),if_pos (by decide),if_pos (by decide)];rfl
 by_cases d2:2000 < c
 ·refine fin _ (h2 (by omega) d2) ?_;unfold zaL;rw [if_pos (by decide),show (g.1,(g.2.1,(g.2.2.1,())))=g from rfl,e3,Option.bind_some,if_neg (by simpa using d1),if_pos (decide_eq_true d2)];exact zk4 (by decide)
 ·obtain ⟨d,f1,f2,f3⟩:=h3 (by omega);refine fin _ f1 ?_;unfold zaL;rw [if_pos (by decide),show (g.1,(g.2.1,(g.2.2.1,())))=g from rfl,e3,Option.bind_some,if_neg (by simpa using d1),if_neg (by simpa using d2)];unfold zbj;rw [if_neg (by decide),show (g.1,(g.2.1,(g.2.2.1,())))=g from rfl,f3,Option.bind_some,if_pos (by simp),if_pos rfl,if_pos (decide_eq_true f2)]
end Go.Proofs.Ytfjfjemoehnpbaa.gramTellsW
