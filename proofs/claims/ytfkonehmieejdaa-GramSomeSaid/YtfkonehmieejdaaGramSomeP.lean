/- The law 'GramSome' of the plain functions. -/
import Derived.Test.YtfkonehmieejdaaGramSomeD
set_option maxHeartbeats 1000000
set_option maxRecDepth 20000
set_option linter.unusedSimpArgs false
set_option linter.unusedVariables false
set_option linter.unusedSectionVars false
namespace Go.Proofs.Ytfkonehmieejdaa.gramSomeW
open Go Go.Ab
def ze2 (o:Option Bool) (P:Prop):Prop:=∃ b,o=some b/\(b=true↔P)
theorem ze2.of {b:Bool} {P:Prop} (h:b=true↔P):ze2 (some b) P:=⟨b,rfl,h⟩
theorem ze2.dec {P Q:Prop} [Decidable P] (h:P↔Q):ze2 (some (decide P)) Q:=⟨_,rfl,by simpa using h⟩
theorem ze2.iff {o:Option Bool} {P Q:Prop} (h:ze2 o P) (k:P↔Q):ze2 o Q:=let ⟨b,h1,h2⟩:=h;⟨b,h1,h2.trans k⟩
theorem ze2.eq {o:Option Bool} {P:Prop} [Decidable P] (h:ze2 o P):o=some (decide P):=by
 obtain ⟨b,rfl,hb⟩:=h;by_cases hp:P
 ·simp [hp,hb.2 hp]
 ·have:b=false:=by cases b;rfl;exact absurd (hb.1 rfl) hp
  simp [hp,this]
theorem ze2.to {R:Type} {o:Option Bool} {P:Prop} {k1 k2 x:Option R} (h:ze2 o P) (h1:P->k1=x) (h2 : ¬ P->k2=x):(o.bind fun y=>if y=true then k1 else k2)=x:=by
 obtain ⟨b,rfl,hb⟩:=h;refine za2 rfl ?_
 cases b
 ·exact h2 fun hp=>by simpa using hb.2 hp
 ·exact h1 (hb.1 rfl)
theorem ze2.bind {R:Type} {o:Option Bool} {P:Prop} {k:Bool->Option R} {x:Option R} (h:ze2 o P) (h1:∀ b,(b=true↔P)->k b=x):o.bind k=x:=by
 obtain ⟨b,rfl,hb⟩:=h;exact h1 b hb
section
variable {α C:Type} [Inhabited α]
theorem zqS {l:List α} {P:α->Prop}:(∃ x∈l,P x)↔∃ i:Int,0<=i/\i < l.length/\P (ix l i):=by
 constructor
 ·rintro ⟨x,hx,hp⟩;obtain ⟨i,hi,rfl⟩:=List.mem_iff_getElem.1 hx;refine ⟨i,by omega,by omega,?_⟩
  rwa [zl8 (by omega) (by omega)]
 ·rintro ⟨i,h0,h1,hp⟩;exact ⟨_,znB h0 h1,hp⟩
theorem zn8 {s:List α} {f:α->Option Bool} {L:Int->Option Int} {P:α->Prop} (hs:s.length<=4611686018427387904)
  (hL:∀ t,L t=if decide (t < (s.length:Int))=true then G (0<=t/\t < (s.length:Int)) ((f (ix s t)).bind fun y=>if y=true then some t else G (fits (t+1)) (L (t+1))) else some (-1))
  (hf:∀ x∈s,ze2 (f x) (P x)):∀ (n:Nat) (t:Int),0<=t->t<=s.length->(s.length - t).toNat=n->
   ∃ i,L t=some i/\((i = -1/\∀ j:Int,t<=j->j < s.length -> ¬ P (ix s j))\/(t<=i/\i < s.length/\P (ix s i)/\∀ j:Int,t<=j->j < i -> ¬ P (ix s j))):=by
 intro n
 induction n with
 | zero=>
  intro t h0 h1 hn;refine ⟨-1,?_,.inl ⟨rfl,fun j a b=>by omega⟩⟩
  rw [hL,if_neg (by simp;omega)]
 | succ n ih=>
  intro t h0 h1 hn;rw [hL,if_pos (by simp;omega),zbh (by omega)]
  obtain ⟨b,hb,hbp⟩:=hf _ (znB h0 (by omega:t < s.length))
  rw [hb]
  cases b with
  | true=>exact ⟨t,rfl,.inr ⟨by omega,by omega,hbp.1 rfl,fun j a b=>by omega⟩⟩
  | false=>
   have hnp : ¬ P (ix s t):=fun hp=>by simpa using hbp.2 hp
   obtain ⟨i,hi,hc⟩:=ih (t+1) (by omega) (by omega) (by omega)
   refine ⟨i,?_,?_⟩
   ·refine (if_neg (by simp):(if false=true then some t else G (fits (t+1)) (L (t+1)))=_).trans ?_
    rw [zbh (by unfold fits;omega),hi]
   ·rcases hc with ⟨h2,h3⟩ | ⟨h2,h3,h4,h5⟩
    ·refine .inl ⟨h2,fun j a b => ?_⟩
     by_cases e:j=t
     ·rw [e];exact hnp
     ·exact h3 j (by omega) b
    ·refine .inr ⟨by omega,h3,h4,fun j a b => ?_⟩
     by_cases e:j=t
     ·rw [e];exact hnp
     ·exact h5 j (by omega) b
theorem zki {s:List α} {f:α->Option Bool} {L:Int->Option Int} {P:α->Prop}
  (hL:∀ t,L t=if decide (t < (s.length:Int))=true then G (0<=t/\t < (s.length:Int)) ((f (ix s t)).bind fun y=>if y=true then some t else G (fits (t+1)) (L (t+1))) else some (-1))
  (hs:s.length<=4611686018427387904) (hf:∀ x∈s,ze2 (f x) (P x)):ze2 ((L 0).bind fun y=>some (decide ((0:Int)<=y))) (∃ x∈s,P x):=by
 obtain ⟨i,hi,hc⟩:=zn8 hs hL hf _ 0 (by omega) (by omega) rfl
 rw [hi];refine ⟨decide (0<=i),rfl,?_⟩
 rw [decide_eq_true_iff,zqS];rcases hc with ⟨h2,h3⟩ | ⟨h2,h3,h4,h5⟩
 ·constructor
  ·intro h;omega
  ·rintro ⟨j,h0,h1,hp⟩;exact absurd hp (h3 j h0 h1)
 ·exact ⟨fun _=>⟨i,by omega,h3,h4⟩,fun _=>by omega⟩
theorem zoA {s:List α} {c:C} {f:α->C->Option (Bool×C)} {L:Int->C->Option (Int×C)} {P:α->Prop}
  (hL:∀ t c,L t c=if decide (t < (s.length:Int))=true then G (0<=t/\t < (s.length:Int)) ((f (ix s t) c).bind fun y=>if y.1=true then some (t,y.2) else G (fits (t+1)) (L (t+1) y.2)) else some (-1,c))
  (hs:s.length<=4611686018427387904) (hf:∀ x∈s,∃ b,f x c=some (b,c)/\(b=true↔P x)):∃ b,((L 0 c).bind fun y=>some (decide ((0:Int)<=y.1),y.2))=some (b,c)/\(b=true↔∃ x∈s,P x):=by
 have key:∀ (n:Nat) (t:Int),0<=t->t<=s.length->(s.length - t).toNat=n->
   ∃ i,L t c=some (i,c)/\((i = -1/\∀ j:Int,t<=j->j < s.length -> ¬ P (ix s j))\/(t<=i/\i < s.length/\P (ix s i))):=by
  intro n
  induction n with
  | zero=>
   intro t h0 h1 hn;refine ⟨-1,?_,.inl ⟨rfl,fun j a b=>by omega⟩⟩
   rw [hL,if_neg (by simp;omega)]
  | succ n ih=>
   intro t h0 h1 hn;rw [hL,if_pos (by simp;omega),zbh (by omega)]
   obtain ⟨b,hb,hbp⟩:=hf _ (znB h0 (by omega:t < s.length))
   rw [hb]
   cases b with
   | true=>exact ⟨t,rfl,.inr ⟨by omega,by omega,hbp.1 rfl⟩⟩
   | false=>
    have hnp : ¬ P (ix s t):=fun hp=>by simpa using hbp.2 hp
    obtain ⟨i,hi,hc⟩:=ih (t+1) (by omega) (by omega) (by omega)
    refine ⟨i,?_,?_⟩
    ·refine (if_neg (by simp):(if false=true then some (t,c) else G (fits (t+1)) (L (t+1) c))=_).trans ?_
     rw [zbh (by unfold fits;omega),hi]
    ·rcases hc with ⟨h2,h3⟩ | ⟨h2,h3,h4⟩
     ·refine .inl ⟨h2,fun j a b => ?_⟩
      by_cases e:j=t
      ·rw [e];exact hnp
      ·exact h3 j (by omega) b
     ·exact .inr ⟨by omega,h3,h4⟩
 obtain ⟨i,hi,hc⟩:=key _ 0 (by omega) (by omega) rfl
 rw [hi];refine ⟨decide (0<=i),rfl,?_⟩
 rw [decide_eq_true_iff,zqS];rcases hc with ⟨h2,h3⟩ | ⟨h2,h3,h4⟩
 ·constructor
  ·intro h;omega
  ·rintro ⟨j,h0,h1,hp⟩;exact absurd hp (h3 j h0 h1)
 ·exact ⟨fun _=>⟨i,by omega,h3,h4⟩,fun _=>by omega⟩
end
theorem zrf {R:Type} {len:Int} {L:Int->Option R} {bad:Int->Prop} {x:Option R} {lo:Int} (h0:lo<=len)
  (hs:∀ t,lo<=t->t < len->(bad t->L t=x)/\(¬ bad t->L t=L (t+1))) (hf:(∀ t,lo<=t->t < len -> ¬ bad t)->L len=x):L lo=x:=by
 have key:∀ (n:Nat) (t:Int),lo<=t->t<=len->(len - t).toNat=n->(∀ j,lo<=j->j < t -> ¬ bad j)->L t=x:=by
  intro n
  induction n with
  | zero=>
   intro t h1 h2 hn h;obtain rfl:t=len:=by omega
   exact hf h
  | succ n ih=>
   intro t h1 h2 hn h;by_cases hb:bad t
   ·exact (hs t h1 (by omega)).1 hb
   ·rw [(hs t h1 (by omega)).2 hb]
    refine ih (t+1) (by omega) (by omega) (by omega) fun j a b => ?_
    by_cases e:j=t
    ·rw [e];exact hb
    ·exact h j a (by omega)
 exact key _ lo (Int.le_refl _) h0 rfl (fun j a b=>by omega)
theorem fold_to {R S:Type} {len:Int} {L:Int->S->Option R} {f:Int->S->S} {lo:Int} {I:Int->S->Prop} {s:S} (h0:lo<=len) (hI:I lo s)
  (hs:∀ t s,lo<=t->t < len->I t s->L t s=L (t+1) (f t s)/\I (t+1) (f t s)):∃ s',I len s'/\L lo s=L len s':=by
 have key:∀ (n:Nat) (t:Int) (s:S),lo<=t->t<=len->(len - t).toNat=n->I t s->∃ s',I len s'/\L t s=L len s':=by
  intro n
  induction n with
  | zero=>
   intro t s h1 h2 hn h;obtain rfl:t=len:=by omega
   exact ⟨s,h,rfl⟩
  | succ n ih=>
   intro t s h1 h2 hn h;obtain ⟨e,h3⟩:=hs t s h1 (by omega) h
   obtain ⟨s',h4,h5⟩:=ih (t+1) _ (by omega) (by omega) (by omega) h3
   exact ⟨s',h4,e.trans h5⟩
 exact key _ lo s (Int.le_refl _) h0 rfl hI
theorem zbw {α:Type}:∀ {ks:List α} {x:α},za3 ks x=none↔x∉ks
 | [],x=>by simp [za3]
 | y::ys,x=>by
  unfold za3;by_cases h:y=x
  ·rw [if_pos h];simp [h]
  ·rw [if_neg h,Option.map_eq_none_iff,zbw];simp [Ne.symm h]
abbrev ones {α:Type} (ks:List α):List Int:=List.replicate ks.length 1
theorem zrZ {α:Type} {ks:List α} {x:α}:(mget ks (ones ks) x 0=0)↔x∉ks:=by
 unfold mget
 cases h:za3 ks x with
 | none=>simp [zbw.1 h]
 | some j=>
  have hx:x∈ks:=by
   refine Classical.byContradiction fun hn => ?_
   rw [zbw.2 hn] at h;cases h
  have:=zdB h;simp [hx,this]
theorem zr0 {α:Type} {ks:List α} {x:α} (h:x∉ks):zbV ks x=ks++[x]:=by
 unfold zbV;rw [zbw.2 h]
theorem zr1 {α:Type} {ks:List α} {x:α} (h:x∉ks):zko ks (ones ks) x 1=ones (ks++[x]):=by
 unfold zko;rw [zbw.2 h];show List.replicate ks.length 1++[1]=List.replicate (ks++[x]).length 1;rw [List.length_append,List.length_singleton,List.replicate_succ']
theorem zpt {α:Type} [DecidableEq α]:∀ {l U:List α},l.Nodup->(∀ x∈l,x∈U)->l.length<=U.length
 | [],_,_,_=>Nat.zero_le _
 | a::l,U,hn,hs=>by
  have ha:=hs a (by simp)
  obtain ⟨h1,h2⟩:=List.nodup_cons.1 hn;have:=zpt (U:=U.erase a) h2 (fun x hx=>(List.mem_erase_of_ne (by rintro rfl;exact h1 hx)).2 (hs x (by simp [hx])))
  rw [List.length_erase_of_mem ha] at this;have hp:0 < U.length:=List.length_pos_of_mem ha;rw [List.length_cons];omega
theorem zrF {l:List Int} {n:Nat} (h:l.Nodup) (hb:∀ x∈l,0<=x/\x < n):l.length<=n:=by
 have:=zpt (U:=(List.range n).map Int.ofNat) h (fun x hx=>by
  have:=hb x hx;exact List.mem_map.2 ⟨x.toNat,List.mem_range.2 (by omega),by show ((x.toNat:Nat):Int)=x;omega⟩)
 simpa using this
theorem zrX {α:Type} {ks:List α} {x:α} (h:x∈ks):∃ j,za3 ks x=some j:=by
 cases e:za3 ks x with
 | none=>exact absurd h (zbw.1 e)
 | some j=>exact ⟨j,rfl⟩
theorem zhI {α:Type} (ks:List α) (x:α):za3 (x::ks) x=some 0:=by unfold za3;rw [if_pos rfl]
theorem zhJ {α:Type} {ks:List α} {x y:α} (h:y≠x):za3 (y::ks) x=(za3 ks x).map (·+1):=by
 rw [za3,if_neg h]
theorem zmc {α:Type}:∀ {ks:List α} {x:α} {j:Nat} (l:List α),za3 ks x=some j->za3 (ks++l) x=some j
 | [],_,_,_,h=>by cases h
 | y::ks,x,j,l,h=>by
  rw [List.cons_append];by_cases e:y=x
  ·subst e;rw [zhI] at h ⊢;exact h
  ·rw [zhJ e] at h ⊢
   cases hm:za3 ks x with
   | none=>rw [hm] at h;cases h
   | some i=>rw [hm] at h;rw [zmc l hm];exact h
theorem zmd {α:Type}:∀ {ks:List α} {x:α},x∉ks->za3 (ks++[x]) x=some ks.length
 | [],x,_=>zhI _ _
 | y::ks,x,h=>by
  have hy:y≠x:=by rintro rfl;exact h (by simp)
  rw [List.cons_append,zhJ hy,zmd (fun hh=>h (by simp [hh]))];rfl
theorem znG {α:Type}:∀ {ks:List α} {x:α} {k:Nat},ks[k]? =some x->(∀ j,j < k->ks[j]? ≠some x)->za3 ks x=some k
 | [],_,_,h,_=>by simp at h
 | y::ks,x,k,h,hf=>by
  cases k with
  | zero=>
   have:y=x:=by simpa using h
   subst this;exact zhI _ _
  | succ k=>
   have hy:y≠x:=by have:=hf 0 (by omega);simpa using this
   rw [zhJ hy,znG (k:=k) (by simpa using h) (fun j hj=>by have:=hf (j+1) (by omega);simpa using this)];rfl
theorem zpk {α:Type} {ks:List α} {x y:α} {j:Nat} (h:za3 ks x=some j) (k:za3 ks y=some j):x=y:=by
 have:=zdS h;rw [zdS k] at this;injection this with this;exact this.symm
theorem zq2 {α:Type} {ks:List α} (hn:ks.Nodup) {j:Nat} (hj:j < ks.length):za3 ks ks[j]=some j:=
 znG (by simp) fun i hi e=>by
  have hi':i < ks.length:=by omega
  rw [List.getElem?_eq_getElem hi'] at e;exact List.pairwise_iff_getElem.1 hn i j hi' hj hi (Option.some.inj e)
theorem zpl {α β:Type} (f:α->β):∀ {ks:List α} {x:α},(∀ y∈ks,f y=f x->y=x)->za3 (ks.map f) (f x)=za3 ks x
 | [],_,_=>rfl
 | y::ks,x,h=>by
  have ih:=zpl f (ks:=ks) (x:=x) (fun z hz=>h z (by simp [hz]))
  rw [List.map_cons];by_cases e:y=x
  ·subst e;rw [zhI,zhI]
  ·rw [zhJ e,zhJ (fun hh=>e (h y (by simp) hh)),ih]
def iota (n:Nat):List Int:=(List.range n).map fun j:Nat=>(j:Int)
theorem iota_len (n:Nat):(iota n).length=n:=by simp [iota]
theorem zo9 (n:Nat):iota (n+1)=iota n++[(n:Int)]:=by simp [iota,List.range_succ]
theorem zrY {α:Type} {ks:List α} {x:α} {j:Nat} (h:za3 ks x=some j):mget ks (iota ks.length) x 0=j:=by
 have:=zdB h;unfold mget;rw [h];simp [iota,this]
theorem znH {α:Type} {ks:List α} {x:α}:mhas ks x=true↔x∈ks:=by
 unfold mhas
 cases e:za3 ks x with
 | none=>simp [zbw.1 e]
 | some j=>
  have:=zdS e;simp [List.mem_of_getElem? this]
theorem zrE {α:Type} {ks:List α} {x:α} (h:x∉ks):zko ks (iota ks.length) x ks.length=iota (ks++[x]).length:=by
 unfold zko;rw [zbw.2 h,List.length_append,List.length_singleton,zo9]
theorem zmJ {α:Type} [DecidableEq α]:∀ {l U:List α},U.Nodup->(∀ x∈U,x∈l)->l.length<=U.length->l.Nodup
 | [],_,_,_,_=>List.nodup_nil
 | a::l,U,hU,hs,hl=>by
  have ha:a∉l:=fun ha=>by
   have:=zpt (l:=U) (U:=l) hU (fun x hx=>by
    rcases List.mem_cons.1 (hs x hx) with rfl | h
    ·exact ha
    ·exact h)
   rw [List.length_cons] at hl;omega
  refine List.nodup_cons.2 ⟨ha,?_⟩
  refine zmJ (U:=U.erase a) (hU.erase a) (fun x hx => ?_) ?_
  ·have hne:x≠a:=((List.Nodup.mem_erase_iff hU).1 hx).1;rcases List.mem_cons.1 (hs x (List.mem_of_mem_erase hx)) with h | h
   ·exact absurd h hne
   ·exact h
  ·have:U.length - 1<=(U.erase a).length:=by
    by_cases h:a∈U
    ·rw [List.length_erase_of_mem h];omega
    ·rw [List.erase_of_not_mem h];omega
   rw [List.length_cons] at hl;omega
theorem zi5 {a b:List Int} (hl:a.length=b.length):∀ (n:Nat) (i:Int),0<=i->i<=a.length->(a.length - i).toNat=n->a.length<=2305843009213693951->(∀ j:Int,0<=j->j < i->ix a j=ix b j)->zfc a b i=some (decide (a=b)):=by
 intro n
 induction n with
 | zero=>
  intro i h0 h1 hn hs h;rw [zgR];unfold zbJ
  (try dsimp only);(repeat' first | (with_reducible refine G_to ?_ ?_;focus (first | omega | (unfold fits;omega) | (unfold room;(try simp only [List.length_append,List.length_cons,List.length_nil]);omega))) | (with_reducible refine zcs ?_ ?_) | (with_reducible refine zaZ ?_) | (with_reducible refine zbD ?_) | (with_reducible refine zhC (fun _ => ?_) (fun _ => ?_)))<;>try (exfalso;omega)
  ·rw [Option.some_inj,eq_comm,decide_eq_true_iff];exact zrT hl (fun j a b=>h j a (by omega))
 | succ n ih=>
  intro i h0 h1 hn hs h;rw [zgR];unfold zbJ
  (try dsimp only);(repeat' first | (with_reducible refine G_to ?_ ?_;focus (first | omega | (unfold fits;omega) | (unfold room;(try simp only [List.length_append,List.length_cons,List.length_nil]);omega))) | (with_reducible refine zcs ?_ ?_) | (with_reducible refine zaZ ?_) | (with_reducible refine zbD ?_) | (with_reducible refine zhC (fun _ => ?_) (fun _ => ?_)))<;>try (exfalso;omega)
  ·rw [Option.some_inj,eq_comm,decide_eq_false_iff_not];rintro rfl;contradiction
  ·rename_i hx;exact ih _ (by omega) (by omega) (by omega) hs (znR h (Decidable.not_not.1 hx))
theorem zlz {a b:List Int} (hs:a.length<=2305843009213693951):zgu a b=some (decide (a=b)):=by
 unfold zgu
 (try dsimp only);(repeat' first | (with_reducible refine G_to ?_ ?_;focus (first | omega | (unfold fits;omega) | (unfold room;(try simp only [List.length_append,List.length_cons,List.length_nil]);omega))) | (with_reducible refine zcs ?_ ?_) | (with_reducible refine zaZ ?_) | (with_reducible refine zbD ?_) | (with_reducible refine zhC (fun _ => ?_) (fun _ => ?_)))<;>try (exfalso;omega)
 ·rw [Option.some_inj,eq_comm,decide_eq_false_iff_not];rintro rfl;contradiction
 ·exact zi5 (by omega) _ 0 (by omega) (by omega) rfl hs (fun j a b=>by omega)
theorem zeV {s:List Int} (hs:s.length * 8<=140737488355328):zbb s=some s:=by
 have hr:G (room ([]:List Int) s 8) (some (([]:List Int)++s))=some s:=by
  rw [zbh (zrd (by simpa using hs))];rfl
 unfold zbb;refine zqX (fun h => ?_) (fun h=>hr)
 obtain rfl:s=[]:=List.length_eq_zero_iff.1 h;rw [hr];exact zjq (ts:=[(.list (.int .i64))]) (some ([]:List Int))
theorem zi7 {n:Int} (h0:0<=n) (h:n * 8<=140737488355328):zfg n=some []:=by
 unfold zfg
 (try dsimp only);(repeat' first | (with_reducible refine G_to ?_ ?_;focus (first | omega | (unfold fits;omega) | (unfold room;(try simp only [List.length_append,List.length_cons,List.length_nil]);omega))) | (with_reducible refine zcs ?_ ?_) | (with_reducible refine zaZ ?_) | (with_reducible refine zbD ?_) | (with_reducible refine zhC (fun _ => ?_) (fun _ => ?_)))<;>try (exfalso;omega)
 all_goals first | rfl | (rw [show ((0:Int)).toNat=0 from rfl,List.take_zero])
theorem zh3 {ls:List (List Int)} (h:ls.length<=1000) (hl:(ls.flatten.length:Int) * 8<=140737488355328):zdC ls=some ls.flatten:=by
 have sum:∀ (k:Nat),((ls.take k).flatten.length:Int)<=ls.flatten.length:=by
  intro k;have:ls.flatten=(ls.take k).flatten++(ls.drop k).flatten:=by rw [<- List.flatten_append,List.take_append_drop]
  rw [this,List.length_append];omega
 have tk:∀ t:Int,0<=t->t < ls.length->(ls.take (t+1).toNat).flatten=(ls.take t.toNat).flatten++ix ls t:=fun t h0 h1=>by
  rw [zqZ h0 h1,List.flatten_append];simp
 unfold zdC;have k2:∀ (n:Nat) (t:Int),(ls.length - t).toNat=n->0<=t->t<=ls.length->zb1 ls t (ls.take t.toNat).flatten=some ls.flatten:=by
  intro n
  induction n with
  | zero=>
   intro t hn h0 h1;rw [zdv];unfold zaQ;rw [List.take_of_length_le (by omega),if_neg (by simp only [decide_eq_true_eq];omega)]
  | succ n ih=>
   intro t hn h0 h1;have e:=tk t h0 (by omega)
   have s:=sum (t+1).toNat;rw [e,List.length_append] at s;rw [zdv];unfold zaQ
   (try dsimp only);(repeat' first | (with_reducible refine G_to ?_ ?_;focus (first | omega | (unfold fits;omega) | (unfold room;(try simp only [List.length_append,List.length_cons,List.length_nil]);omega))) | (with_reducible refine zcs ?_ ?_) | (with_reducible refine zaZ ?_) | (with_reducible refine zbD ?_) | (with_reducible refine zhC (fun _ => ?_) (fun _ => ?_)))<;>try (exfalso;omega)
   rw [<- e];exact ih (t+1) (by omega) (by omega) (by omega)
 have k1:∀ (n:Nat) (t:Int),(ls.length - t).toNat=n->0<=t->t<=ls.length->zcd ls ((ls.take t.toNat).flatten.length:Int) t=some ls.flatten:=by
  intro n
  induction n with
  | zero=>
   intro t hn h0 h1;rw [zd9];unfold zaV;rw [List.take_of_length_le (by omega),if_neg (by simp only [decide_eq_true_eq];omega)]
   refine za2 (zi7 (by omega) hl) ?_
   have:=k2 _ 0 rfl (by omega) (by omega)
   simpa using this
  | succ n ih=>
   intro t hn h0 h1;have e:=tk t h0 (by omega)
   have s:=sum (t+1).toNat;have ih':=ih (t+1) (by omega) (by omega) (by omega)
   rw [e,List.length_append] at s ih';rw [zd9];unfold zaV
   (try dsimp only);(repeat' first | (with_reducible refine G_to ?_ ?_;focus (first | omega | (unfold fits;omega) | (unfold room;(try simp only [List.length_append,List.length_cons,List.length_nil]);omega))) | (with_reducible refine zcs ?_ ?_) | (with_reducible refine zaZ ?_) | (with_reducible refine zbD ?_) | (with_reducible refine zhC (fun _ => ?_) (fun _ => ?_)))<;>try (exfalso;omega)
   rw [<- ih'];congr 1
 have:=k1 _ 0 rfl (by omega) (by omega)
 simpa using this
abbrev Rul:=Int×List Int×Unit
abbrev Gm:=Int×Int×List Rul×Unit
def SgB (g:Gm) (s:Int):Prop:=s < 0\/g.1+g.2.1<=s
structure RlOk (g:Gm) (r:Rul):Prop where
 f0:0<=r.1
 f1:r.1 < g.2.1
 l:r.2.1.length<=3
 s:∀ x∈r.2.1,0<=x/\x < g.1+g.2.1
structure GOk (g:Gm):Prop where
 a0:1<=g.1
 a1:g.1<=4
 n0:1<=g.2.1
 n1:g.2.1<=6
 ln:g.2.2.1.length<=20
 r:∀ k:Int,0<=k->k < g.2.2.1.length->RlOk g (ix g.2.2.1 k)
section
variable {g:Gm}
theorem zpK (ha:1<=g.1) (ha1:g.1<=4) (hn0:1<=g.2.1) (hn1:g.2.1<=6) {i:Int} (hl:(ix g.2.2.1 i).2.1.length<=3) {r6:Int->Option Int} (i0:0<=i) (i1:i < 1000):
  ((∃ x∈(ix g.2.2.1 i).2.1,SgB g x)->za6 g i r6 0=some 2)/\((¬ ∃ x∈(ix g.2.2.1 i).2.1,SgB g x)->za6 g i r6 0=r6 (i+1)):=by
 have key:∀ x,((∃ x∈(ix g.2.2.1 i).2.1,SgB g x)->some 2=x)->((¬ ∃ x∈(ix g.2.2.1 i).2.1,SgB g x)->r6 (i+1)=x)->za6 g i r6 0=x:=fun x h1 h2=>by
  refine zrf (len:=((ix g.2.2.1 i).2.1.length:Int)) (bad:=fun t=>SgB g (ix (ix g.2.2.1 i).2.1 t)) (lo:=0) (by omega) (fun t t0 t1=>⟨fun hb => ?_,fun hb => ?_⟩) (fun hh => ?_)
  ·have hb':SgB g (ix (ix g.2.2.1 i).2.1 t):=hb;rw [<- h1 ⟨_,znB t0 t1,hb⟩];unfold SgB at hb';rw [zdn];unfold za0
   (try dsimp only);(repeat' first | (with_reducible refine G_to ?_ ?_;focus (first | omega | (unfold fits;omega) | (unfold room;(try simp only [List.length_append,List.length_cons,List.length_nil]);omega))) | (with_reducible refine zcs ?_ ?_) | (with_reducible refine zaZ ?_) | (with_reducible refine zbD ?_) | (with_reducible refine zhC (fun _ => ?_) (fun _ => ?_)))<;>try (exfalso;omega)
   all_goals rfl
  ·have hb' : ¬ SgB g (ix (ix g.2.2.1 i).2.1 t):=hb;unfold SgB at hb'
   conv=>lhs;rw [zdn];unfold za0
   (try dsimp only);(repeat' first | (with_reducible refine G_to ?_ ?_;focus (first | omega | (unfold fits;omega) | (unfold room;(try simp only [List.length_append,List.length_cons,List.length_nil]);omega))) | (with_reducible refine zcs ?_ ?_) | (with_reducible refine zaZ ?_) | (with_reducible refine zbD ?_) | (with_reducible refine zhC (fun _ => ?_) (fun _ => ?_)))<;>try (exfalso;omega)
   all_goals rfl
  ·rw [zdn];unfold za0
   (try dsimp only);(repeat' first | (with_reducible refine G_to ?_ ?_;focus (first | omega | (unfold fits;omega) | (unfold room;(try simp only [List.length_append,List.length_cons,List.length_nil]);omega))) | (with_reducible refine zcs ?_ ?_) | (with_reducible refine zaZ ?_) | (with_reducible refine zbD ?_) | (with_reducible refine zhC (fun _ => ?_) (fun _ => ?_)))<;>try (exfalso;omega)
   refine h2 fun h => ?_
   obtain ⟨j,j0,j1,hj⟩:=zqS.1 h;exact hh j j0 j1 hj
 exact ⟨fun h=>(key _ (fun _=>rfl) (fun h2=>absurd h h2)),fun h=>(key _ (fun h2=>absurd h2 h) (fun _=>rfl))⟩
theorem zoj (ha:1<=g.1) (ha1:g.1<=4) (hn0:1<=g.2.1) (hn1:g.2.1<=6) {l:List Int} (hl:l.length<=3):ze2 (zci l g) (∃ x∈l,SgB g x):=
 zki (f:=fun x=>zef x g) (zfE l g) (by omega) (fun x _=>by
  unfold zef SgB;by_cases h:x < 0
  ·rw [if_pos (decide_eq_true h)];exact ze2.of (by simp [h])
  ·rw [if_neg (by simpa using h),zbh (by unfold fits;omega)];exact ze2.dec (by simp [h]))
theorem znW:∃ e,zgo g=some e/\zhQ g=some e/\(e=0->GOk g):=by
 unfold zgo zhQ;by_cases c1:g.1 < 1
 ·exact ⟨2,by rw [if_pos (decide_eq_true c1)],by rw [if_pos (decide_eq_true c1)],by omega⟩
 simp only [if_neg (show ¬ decide (g.1 < 1)=true by simpa using c1)]
 by_cases c2:4 < g.1
 ·exact ⟨2,by rw [if_pos (decide_eq_true c2)],by rw [if_pos (decide_eq_true c2)],by omega⟩
 simp only [if_neg (show ¬ decide (4 < g.1)=true by simpa using c2)]
 by_cases c3:g.2.1 < 1
 ·exact ⟨1,by rw [if_pos (decide_eq_true c3)],by rw [if_pos (decide_eq_true c3)],by omega⟩
 simp only [if_neg (show ¬ decide (g.2.1 < 1)=true by simpa using c3)]
 by_cases c4:6 < g.2.1
 ·exact ⟨1,by rw [if_pos (decide_eq_true c4)],by rw [if_pos (decide_eq_true c4)],by omega⟩
 simp only [if_neg (show ¬ decide (6 < g.2.1)=true by simpa using c4)]
 by_cases c5:(20:Int) < g.2.2.1.length
 ·exact ⟨1,by rw [if_pos (decide_eq_true c5)],by rw [if_pos (decide_eq_true c5)],by omega⟩
 simp only [if_neg (show ¬ decide ((20:Int) < g.2.2.1.length)=true by simpa using c5)]
 have key:∀ (n:Nat) (t:Int),0<=t->t<=g.2.2.1.length->((g.2.2.1.length:Int) - t).toNat=n->∃ e,zdz g t=some e/\zc8 g t=some e/\(e=0->∀ k:Int,t<=k->k < g.2.2.1.length->RlOk g (ix g.2.2.1 k)):=by
  intro n
  induction n with
  | zero=>
   intro t t0 t1 hn;refine ⟨0,?_,?_,fun _ k a b=>by omega⟩
   ·rw [zfj];unfold zbc;rw [if_neg (by simp only [decide_eq_true_eq];omega)]
   ·rw [zf3];unfold zbn;rw [if_neg (by simp only [decide_eq_true_eq];omega)]
  | succ n ih=>
   intro t t0 t1 hn;have hlt:t < g.2.2.1.length:=by omega
   rw [zfj,zf3];unfold zbc zbn;simp only [if_pos (decide_eq_true hlt),zbh (show 0<=t/\t < (g.2.2.1.length:Int) from ⟨t0,hlt⟩)];by_cases d1:(ix g.2.2.1 t).1 < 0
   ·exact ⟨2,by rw [if_pos (decide_eq_true d1)],by rw [if_pos (decide_eq_true d1)],by omega⟩
   simp only [if_neg (show ¬ decide ((ix g.2.2.1 t).1 < 0)=true by simpa using d1)]
   by_cases d2:g.2.1<=(ix g.2.2.1 t).1
   ·exact ⟨2,by rw [if_pos (decide_eq_true d2)],by rw [if_pos (decide_eq_true d2)],by omega⟩
   simp only [if_neg (show ¬ decide (g.2.1<=(ix g.2.2.1 t).1)=true by simpa using d2)]
   by_cases d3:(3:Int) < (ix g.2.2.1 t).2.1.length
   ·exact ⟨1,by rw [if_pos (decide_eq_true d3)],by rw [if_pos (decide_eq_true d3)],by omega⟩
   simp only [if_neg (show ¬ decide ((3:Int) < (ix g.2.2.1 t).2.1.length)=true by simpa using d3)]
   obtain ⟨w1,w2⟩:=zpK (g:=g) (by omega) (by omega) (by omega) (by omega) (i:=t) (by omega) (r6:=zc8 g) t0 (by omega)
   obtain ⟨b,eb,hb⟩:=zoj (g:=g) (by omega) (by omega) (by omega) (by omega) (l:=(ix g.2.2.1 t).2.1) (by omega)
   rw [show (g.1,(g.2.1,(g.2.2.1,())))=g from rfl,eb];by_cases c:∃ x∈(ix g.2.2.1 t).2.1,SgB g x
   ·have:b=true:=hb.2 c;subst this;exact ⟨2,rfl,w1 c,by omega⟩
   ·have:b=false:=by cases b;rfl;exact absurd (hb.1 rfl) c
    subst this;obtain ⟨e,e1,e2,e3⟩:=ih (t+1) (by omega) (by omega) (by omega)
    refine ⟨e,?_,(w2 c).trans e2,fun h k k0 k1 => ?_⟩
    ·show G _ _=_;rw [zbh (by unfold fits;omega),e1]
    ·by_cases ek:k=t
     ·subst ek;exact ⟨by omega,by omega,by omega,fun x hx=>by
       have : ¬ SgB g x:=fun h=>c ⟨x,hx,h⟩
       unfold SgB at this;omega⟩
     ·exact e3 h k (by omega) k1
 obtain ⟨e,e1,e2,e3⟩:=key _ 0 (Int.le_refl _) (by omega) rfl
 exact ⟨e,e1,e2,fun h=>⟨by omega,by omega,by omega,by omega,by omega,e3 h⟩⟩
end
def lexB:List Int->List Int->Bool
 | [],_=>false
 | _,[]=>false
 | x::a,y::b=>if x=y then lexB a b else decide (x < y)
def bef (a b:List Int):Bool:=if (a.length:Int)=b.length then lexB a b else decide ((a.length:Int) < b.length)
theorem zpO (x y:Int):∃ o,ze3 x y=some o/\(o=0↔x=y)/\(o < 0↔x < y):=by
 unfold ze3 zhg;simp only [Option.bind_some,not_true,decide_false,Bool.false_eq_true,if_false,decide_eq_true_eq];by_cases h:x < y
 ·exact ⟨-1,by simp [h],by omega,by omega⟩
 ·by_cases h2:y < x
  ·exact ⟨1,by simp [h,h2],by omega,by omega⟩
  ·exact ⟨0,by simp [h,h2],by omega,by omega⟩
theorem zgY {a b:List Int} (ha:a.length<=1000):zdN a b=some (bef a b):=by
 unfold zdN bef;by_cases hl:(a.length:Int)=b.length
 ·rw [if_neg (by simpa using hl),if_pos hl]
  have key:∀ (n:Nat) (t:Int),(a.length - t).toNat=n->0<=t->t<=a.length->∃ o,zb0 a b t=some o/\decide (o < 0)=lexB (a.drop t.toNat) (b.drop t.toNat):=by
   intro n
   induction n with
   | zero=>
    intro t hn t0 t1;refine ⟨0,?_,?_⟩
    ·rw [zb2];unfold zaK;rw [if_neg (by simp;omega),if_neg (by simp;omega)]
    ·rw [List.drop_of_length_le (by omega)];rfl
   | succ n ih=>
    intro t hn t0 t1;obtain ⟨o,o1,o2,o3⟩:=zpO (ix a t) (ix b t);rw [zln t0 (by omega:t < a.length),zln t0 (by omega:t < b.length)]
    unfold lexB;by_cases e:ix a t=ix b t
    ·obtain ⟨o',z1,z2⟩:=ih (t+1) (by omega) (by omega) (by omega)
     refine ⟨o',?_,?_⟩
     ·rw [zb2];unfold zaK;rw [if_pos (by simp;omega)]
      refine G_to (by omega) ?_
      rw [if_neg (by simp;omega)]
      refine G_to (by omega) (za2 o1 ?_)
      rw [if_neg (by simpa using o2.2 e)]
      exact G_to (by unfold fits;omega) z1
     ·rw [if_pos e];exact z2
    ·refine ⟨o,?_,?_⟩
     ·rw [zb2];unfold zaK;rw [if_pos (by simp;omega)]
      refine G_to (by omega) ?_
      rw [if_neg (by simp;omega)]
      refine G_to (by omega) (za2 o1 ?_)
      rw [if_pos (by simpa using fun h=>e (o2.1 h))]
     ·rw [if_neg e,decide_eq_decide];exact o3
  obtain ⟨o,z1,z2⟩:=key _ 0 rfl (by omega) (by omega)
  unfold zey;refine za2 z1 ?_
  rw [z2];rfl
 ·rw [if_pos (by simpa using hl),if_neg hl]
theorem zjl {a b:List Int} (ha:a.length<=1000):zdc a b=some (bef a b):=by
 unfold zdc bef;by_cases hl:(a.length:Int)=b.length
 ·rw [if_neg (by simpa using hl),if_pos hl]
  have key:∀ (n:Nat) (t:Int),(a.length - t).toNat=n->0<=t->t<=a.length->zem a b t=some (lexB (a.drop t.toNat) (b.drop t.toNat)):=by
   intro n
   induction n with
   | zero=>
    intro t hn t0 t1;rw [zf8];unfold zbq;rw [if_neg (by simp;omega),List.drop_of_length_le (by omega)];rfl
   | succ n ih=>
    intro t hn t0 t1;rw [zln t0 (by omega:t < a.length),zln t0 (by omega:t < b.length)]
    unfold lexB;rw [zf8];unfold zbq;rw [if_pos (by simp;omega)]
    refine G_to (by omega) (G_to (by omega) ?_)
    by_cases e:ix a t=ix b t
    ·rw [if_neg (by simpa using e),if_pos e]
     exact G_to (by unfold fits;omega) (ih (t+1) (by omega) (by omega) (by omega))
    ·rw [if_pos (by simpa using e),if_neg e]
     exact G_to (by omega) (G_to (by omega) rfl)
  exact key _ 0 rfl (by omega) (by omega)
 ·rw [if_pos (by simpa using hl),if_neg hl]
abbrev Ky:=Int×Int×Int×Unit
abbrev Fd:=Bool×Bool×(List Int)×Unit
section
variable {α β:Type}
theorem znI {ks:List α} {vs:List β} (hl:ks.length=vs.length) (x y:α) (z v w:β):mget (zbV ks x) ((zdk ks vs x z).set (mpos ks x).toNat v) y w=open Classical in if y=x then v else mget ks vs y w:=by
 cases h:za3 ks x with
 | some j=>
  have e1:zbV ks x=ks:=by unfold zbV;rw [h]
  have e2:zdk ks vs x z=vs:=by unfold zdk;rw [h]
  have e3:(mpos ks x).toNat=j:=by unfold mpos;rw [h];simp
  rw [e1,e2,e3];have hj:=zdB h
  split
  ·rename_i e;subst e;unfold mget;rw [h];simp [<- hl,hj]
  ·rename_i e;unfold mget
   cases h2:za3 ks y with
   | none=>rfl
   | some i=>
    have:i≠j:=fun e2=>e (zpk (e2 ▸ h2) h)
    simp only [List.getD_eq_getElem?_getD];rw [List.getElem?_set_ne (Ne.symm this)]
 | none=>
  have e1:zbV ks x=ks++[x]:=by unfold zbV;rw [h]
  have e2:zdk ks vs x z=vs++[z]:=by unfold zdk;rw [h]
  have e3:(mpos ks x).toNat=ks.length:=by unfold mpos;rw [h];simp
  rw [e1,e2,e3];have hx:=zbw.1 h
  split
  ·rename_i e;subst e;unfold mget;rw [zmd hx];simp [hl]
  ·rename_i e;unfold mget
   cases h2:za3 ks y with
   | none=>
    have:y∉ks++[x]:=by
     intro hh;rcases List.mem_append.1 hh with hh | hh
     ·exact zbw.1 h2 hh
     ·exact e (by simpa using hh)
    rw [zbw.2 this]
   | some i=>
    rw [zmc [x] h2];have:=zdB h2;simp only [List.getD_eq_getElem?_getD];rw [List.getElem?_set_ne (by omega),List.getElem?_append_left (by omega)]
theorem zp4 {ks:List α} (x y:α):mhas (zbV ks x) y=true↔y=x\/mhas ks y=true:=by
 rw [znH,znH]
 cases h:za3 ks x with
 | some j=>
  have e1:zbV ks x=ks:=by unfold zbV;rw [h]
  have hx:x∈ks:=List.mem_of_getElem? (zdS h);rw [e1];exact ⟨.inr,fun hh=>hh.elim (fun e=>e ▸ hx) (fun h=>h)⟩
 | none=>
  have e1:zbV ks x=ks++[x]:=by unfold zbV;rw [h]
  rw [e1,List.mem_append,List.mem_singleton];exact ⟨fun h=>h.symm,fun h=>h.symm⟩
theorem zjj {ks:List α} {vs:List β} (hl:ks.length=vs.length) (x:α) (z v:β):(zbV ks x).length=((zdk ks vs x z).set (mpos ks x).toNat v).length/\0<=mpos ks x/\mpos ks x < ((zdk ks vs x z).length:Int):=by
 rw [List.length_set]
 cases h:za3 ks x with
 | some j=>
  have e1:zbV ks x=ks:=by unfold zbV;rw [h]
  have e2:zdk ks vs x z=vs:=by unfold zdk;rw [h]
  have e3:mpos ks x=j:=by unfold mpos;rw [h]
  have:=zdB h;rw [e1,e2,e3];exact ⟨hl,by omega,by omega⟩
 | none=>
  have e1:zbV ks x=ks++[x]:=by unfold zbV;rw [h]
  have e2:zdk ks vs x z=vs++[z]:=by unfold zdk;rw [h]
  have e3:mpos ks x=ks.length:=by unfold mpos;rw [h]
  rw [e1,e2,e3,List.length_append,List.length_append];simp;omega
end
def vl (a:Nat) (w:List Int):Nat:=w.foldl (fun acc x=>acc * 4+x.toNat) a
theorem znh (a:Nat) (x:Int) (w:List Int):vl a (x::w)=vl (a * 4+x.toNat) w:=rfl
theorem ze0:∀ (w:List Int) (a:Nat),(∀ x∈w,0<=x/\x < 4)->a * 4 ^ w.length<=vl a w/\vl a w < (a+1) * 4 ^ w.length
 | [],a,_=>by simp [vl]
 | x::w,a,h=>by
  obtain ⟨h0,h1⟩:=h x (by simp)
  obtain ⟨k1,k2⟩:=ze0 w (a * 4+x.toNat) (fun y hy=>h y (by simp [hy]))
  rw [znh,List.length_cons,Nat.pow_succ];have hx:x.toNat<=3:=by omega
  constructor
  ·refine Nat.le_trans ?_ k1
   rw [Nat.mul_comm (4 ^ w.length) 4,<- Nat.mul_assoc];exact Nat.mul_le_mul_right _ (by omega)
  ·refine Nat.lt_of_lt_of_le k2 ?_
   rw [Nat.mul_comm (4 ^ w.length) 4,<- Nat.mul_assoc];exact Nat.mul_le_mul_right _ (by omega)
theorem zqA:∀ (a b:List Int) (n:Nat),a.length=b.length->(∀ x∈a,0<=x/\x < 4)->(∀ x∈b,0<=x/\x < 4)->lexB a b=true->vl n a < vl n b
 | [],_,n,_,_,_,h=>by simp [lexB] at h
 | _::_,[],n,hl,_,_,_=>by simp at hl
 | x::a,y::b,n,hl,ha,hb,h=>by
  have hl2:a.length=b.length:=by simpa using hl
  obtain ⟨x0,x1⟩:=ha x (by simp)
  obtain ⟨y0,y1⟩:=hb y (by simp)
  have ha':=fun z (hz:z∈a)=>ha z (by simp [hz])
  have hb':=fun z (hz:z∈b)=>hb z (by simp [hz])
  rw [znh,znh];unfold lexB at h;by_cases e:x=y
  ·rw [if_pos e] at h;subst e;exact zqA a b _ hl2 ha' hb' h
  ·rw [if_neg e] at h;have hlt:x < y:=by simpa using h
   have k1:=(ze0 a (n * 4+x.toNat) ha').2;have k2:=(ze0 b (n * 4+y.toNat) hb').1;rw [hl2] at k1;exact Nat.lt_of_lt_of_le k1 (Nat.le_trans (Nat.mul_le_mul_right _ (by omega)) k2)
structure WOk (C:Int) (w:List Int):Prop where
 l:w.length<=60
 c:∀ x∈w,0<=x/\x < C
theorem zrK {C:Int} (hC:C<=4) {a b:List Int} (ha:WOk C a) (hb:WOk C b) (h:bef a b=true):vl 1 a < vl 1 b:=by
 have ha':∀ x∈a,0<=x/\x < 4:=fun x hx=>by have:=ha.c x hx;omega
 have hb':∀ x∈b,0<=x/\x < 4:=fun x hx=>by have:=hb.c x hx;omega
 unfold bef at h;by_cases e:(a.length:Int)=b.length
 ·rw [if_pos e] at h;exact zqA a b 1 (by omega) ha' hb' h
 ·rw [if_neg e] at h;have hlt:a.length < b.length:=by
   have:(a.length:Int) < b.length:=by simpa using h
   omega
  have k1:=(ze0 a 1 ha').2;have k2:=(ze0 b 1 hb').1;have:(1+1) * 4 ^ a.length<=1 * 4 ^ b.length:=by
   obtain ⟨d,hd⟩:=Nat.exists_eq_add_of_lt hlt;rw [hd,Nat.one_mul,show a.length+d+1=a.length+(d+1) by omega,Nat.pow_add,Nat.mul_comm]
   refine Nat.mul_le_mul_left _ ?_
   rw [Nat.pow_succ];have:1<=4 ^ d:=by have:=Nat.pow_le_pow_left (show 1<=4 by omega) d;rwa [Nat.one_pow] at this
   omega
  omega
def bigV:Nat:=2 * 4 ^ 60
theorem zsd {C:Int} (hC:C<=4) {w:List Int} (h:WOk C w):vl 1 w < bigV:=by
 have k:=(ze0 w 1 (fun x hx=>by have:=h.c x hx;omega)).2
 exact Nat.lt_of_lt_of_le k (Nat.mul_le_mul_left 2 (Nat.pow_le_pow_right (by omega) h.l))
def wt (x:Fd):Nat:=(if x.1=true then 0 else 1)+(if x.2.1=true then vl 1 x.2.2.1 else bigV)
def mu (L:List Fd):Nat:=(L.map wt).sum
theorem zqv:∀ (L:List Fd) (k:Nat) (y:Fd) (h:k < L.length),wt y < wt L[k]->mu (L.set k y) < mu L
 | [],k,y,h,_=>by simp at h
 | x::L,0,y,h,hw=>by
  have hw:wt y < wt x:=hw;show ((y::L).map wt).sum < ((x::L).map wt).sum;rw [List.map_cons,List.map_cons,List.sum_cons,List.sum_cons];omega
 | x::L,k+1,y,h,hw=>by
  have h:k+1 < L.length+1:=h;have:=zqv L k y (by omega) hw
  show ((x::L.set k y).map wt).sum < ((x::L).map wt).sum;rw [List.map_cons,List.map_cons,List.sum_cons,List.sum_cons];unfold mu at this;omega
theorem zr2 {L:List Fd} {k:Int} {y:Fd} (k0:0<=k) (k1:k < L.length) (hw:wt y < wt (ix L k)):mu (L.set k.toNat y) < mu L:=by
 refine zqv L _ y (by omega) ?_
 rwa [zl8 k0 (by omega)] at hw
abbrev Dm:=Int×Int×(List (List Int))×(List Int)×Unit
structure DmOk (C:Int) (d:Dm):Prop where
 n0:1<=(d.2.2.1.length:Int)
 n1:(d.2.2.1.length:Int)<=4
 t:∀ p s:Int,0<=p->p < d.2.2.1.length->0<=s->s < C->s < (ix d.2.2.1 p).length/\0<=ix (ix d.2.2.1 p) s/\ix (ix d.2.2.1 p) s < d.2.2.1.length
 s0:0<=d.2.1
 s1:d.2.1 < d.2.2.1.length
 m:d.2.2.2.1.length=d.2.2.1.length
abbrev ky (a p q:Int):Ky:=(a,(p,(q,())))
def kx (n a p q:Int):Int:=((a * n+p) * n)+q
theorem zjW {n:Int} (h0:1<=n) (h1:n<=4):n=1\/n=2\/n=3\/n=4:=by omega
theorem zi1 {N n a p q:Int} (h0:1<=n) (h1:n<=4) (a0:0<=a) (a1:a < N) (p0:0<=p) (p1:p < n) (q0:0<=q) (q1:q < n):0<=kx n a p q/\kx n a p q < N * n * n:=by
 unfold kx;rcases zjW h0 h1 with rfl | rfl | rfl | rfl<;>omega
theorem zqr {n a p q a' p' q':Int} (h0:1<=n) (h1:n<=4) (p0:0<=p) (p1:p < n) (q0:0<=q) (q1:q < n) (p0':0<=p') (p1':p' < n) (q0':0<=q') (q1':q' < n) (h:kx n a p q=kx n a' p' q'):a=a'/\p=p'/\q=q':=by
 unfold kx at h;rcases zjW h0 h1 with rfl | rfl | rfl | rfl<;>omega
structure Sim (C N n:Int) (bk:List Ky) (bw:List (List Int)) (ik:List Ky) (iv:List Int) (L:List Fd):Prop where
 len:(L.length:Int)=N * n * n
 bl:bk.length=bw.length
 il:ik.length=iv.length
 is:∀ a p q,0<=a->a < N->0<=p->p < n->0<=q->q < n->(mget ik iv (ky a p q) 0=0↔(ix L (kx n a p q)).1=false)
 has:∀ a p q,0<=a->a < N->0<=p->p < n->0<=q->q < n->(mhas bk (ky a p q)=true↔(ix L (kx n a p q)).2.1=true)
 wd:∀ a p q,0<=a->a < N->0<=p->p < n->0<=q->q < n->(ix L (kx n a p q)).2.1=true->mget bk bw (ky a p q) []=(ix L (kx n a p q)).2.2.1
 ok:∀ k,0<=k->k < N * n * n->(ix L k).2.1=true->WOk C (ix L k).2.2.1
 sh:∀ k,0<=k->k < N * n * n->(ix L k).2.2.1.length<=60
theorem zrU {a p q a' p' q':Int} (h : ¬ ky a' p' q'=ky a p q) : ¬ (a=a'/\p=p'/\q=q'):=fun ⟨x,y,z⟩=>h (by rw [x,y,z])
section
variable {C N n:Int} {bk:List Ky} {bw:List (List Int)} {ik:List Ky} {iv:List Int} {L:List Fd}
theorem Sim.putIs (h:Sim C N n bk bw ik iv L) (h0:1<=n) (h1:n<=4) {a p q:Int} (a0:0<=a) (a1:a < N) (p0:0<=p) (p1:p < n) (q0:0<=q) (q1:q < n):
  Sim C N n bk bw (zbV ik (ky a p q)) ((zdk ik iv (ky a p q) 0).set (mpos ik (ky a p q)).toNat 1) (L.set (kx n a p q).toNat (true,(ix L (kx n a p q)).2)):=by
 obtain ⟨k0,k1⟩:=zi1 (N:=N) h0 h1 a0 a1 p0 p1 q0 q1;rw [<- h.len] at k1;have hs:∀ k,0<=k->k < N * n * n->(ix (L.set (kx n a p q).toNat (true,(ix L (kx n a p q)).2)) k).2=(ix L k).2:=fun k j0 j1=>by
  by_cases e:kx n a p q=k
  ·subst e;rw [zbE k0 k1]
  ·rw [zfU k0 j0 e]
 refine ⟨by rw [List.length_set];exact h.len,h.bl,(zjj h.il _ _ _).1,?_,?_,?_,?_,?_⟩
 ·intro a' p' q' b0 b1 c0 c1 d0 d1;rw [znI h.il];by_cases e:ky a' p' q'=ky a p q
  ·rw [if_pos e];cases e;rw [zbE k0 k1];simp
  ·rw [if_neg e,zfU k0 (zi1 (N:=N) h0 h1 b0 b1 c0 c1 d0 d1).1 (fun e2=>zrU e (zqr h0 h1 p0 p1 q0 q1 c0 c1 d0 d1 e2))]
   exact h.is a' p' q' b0 b1 c0 c1 d0 d1
 ·intro a' p' q' b0 b1 c0 c1 d0 d1;obtain ⟨j0,j1⟩:=zi1 (N:=N) h0 h1 b0 b1 c0 c1 d0 d1;rw [hs _ j0 j1];exact h.has a' p' q' b0 b1 c0 c1 d0 d1
 ·intro a' p' q' b0 b1 c0 c1 d0 d1;obtain ⟨j0,j1⟩:=zi1 (N:=N) h0 h1 b0 b1 c0 c1 d0 d1;rw [hs _ j0 j1];exact h.wd a' p' q' b0 b1 c0 c1 d0 d1
 ·intro k j0 j1;rw [hs _ j0 j1];exact h.ok k j0 j1
 ·intro k j0 j1;rw [hs _ j0 j1];exact h.sh k j0 j1
theorem Sim.putW (h:Sim C N n bk bw ik iv L) (h0:1<=n) (h1:n<=4) {a p q:Int} (a0:0<=a) (a1:a < N) (p0:0<=p) (p1:p < n) (q0:0<=q) (q1:q < n) {w:List Int} (hw:WOk C w):
  Sim C N n (zbV bk (ky a p q)) ((zdk bk bw (ky a p q) []).set (mpos bk (ky a p q)).toNat w) ik iv (L.set (kx n a p q).toNat ((ix L (kx n a p q)).1,(true,(w,())))):=by
 obtain ⟨k0,k1⟩:=zi1 (N:=N) h0 h1 a0 a1 p0 p1 q0 q1;rw [<- h.len] at k1;have ne:∀ {a' p' q':Int},0<=a'->a' < N->0<=p'->p' < n->0<=q'->q' < n -> ¬ ky a' p' q'=ky a p q->ix (L.set (kx n a p q).toNat ((ix L (kx n a p q)).1,(true,(w,())))) (kx n a' p' q')=ix L (kx n a' p' q'):=fun b0 b1 c0 c1 d0 d1 e=>
  zfU k0 (zi1 (N:=N) h0 h1 b0 b1 c0 c1 d0 d1).1 (fun e2=>zrU e (zqr h0 h1 p0 p1 q0 q1 c0 c1 d0 d1 e2))
 refine ⟨by rw [List.length_set];exact h.len,(zjj h.bl _ _ _).1,h.il,?_,?_,?_,?_,?_⟩
 ·intro a' p' q' b0 b1 c0 c1 d0 d1;by_cases e:ky a' p' q'=ky a p q
  ·cases e;rw [zbE k0 k1];exact h.is a p q b0 b1 c0 c1 d0 d1
  ·rw [ne b0 b1 c0 c1 d0 d1 e];exact h.is a' p' q' b0 b1 c0 c1 d0 d1
 ·intro a' p' q' b0 b1 c0 c1 d0 d1;rw [zp4];by_cases e:ky a' p' q'=ky a p q
  ·cases e;rw [zbE k0 k1];simp
  ·rw [ne b0 b1 c0 c1 d0 d1 e];exact ⟨fun hh=>(h.has a' p' q' b0 b1 c0 c1 d0 d1).1 (hh.resolve_left e),fun hh => .inr ((h.has a' p' q' b0 b1 c0 c1 d0 d1).2 hh)⟩
 ·intro a' p' q' b0 b1 c0 c1 d0 d1 hh;rw [znI h.bl];by_cases e:ky a' p' q'=ky a p q
  ·rw [if_pos e];cases e;rw [zbE k0 k1]
  ·rw [if_neg e];rw [ne b0 b1 c0 c1 d0 d1 e] at hh ⊢;exact h.wd a' p' q' b0 b1 c0 c1 d0 d1 hh
 ·intro k j0 j1;by_cases e:kx n a p q=k
  ·subst e;rw [zbE k0 k1];exact fun _=>hw
  ·rw [zfU k0 j0 e];exact h.ok k j0 j1
 ·intro k j0 j1;by_cases e:kx n a p q=k
  ·subst e;rw [zbE k0 k1];exact hw.l
  ·rw [zfU k0 j0 e];exact h.sh k j0 j1
end
def Prg (ag:Bool) (L:List Fd) (ag':Bool) (L':List Fd):Prop:=(ag'=ag/\L'=L)\/(ag'=true/\mu L' < mu L)
theorem Prg.refl (ag:Bool) (L:List Fd):Prg ag L ag L := .inl ⟨rfl,rfl⟩
theorem Prg.trans {a b c:Bool} {A B D:List Fd} (h:Prg a A b B) (k:Prg b B c D):Prg a A c D:=by
 rcases h with ⟨rfl,rfl⟩ | ⟨rfl,h⟩
 ·exact k
 ·rcases k with ⟨rfl,rfl⟩ | ⟨rfl,k⟩
  ·exact .inr ⟨rfl,h⟩
  ·exact .inr ⟨rfl,by omega⟩
section
variable {g:Gm} {d:Dm}
theorem zmD {a p q:Int} (hn0:1<=(d.2.2.1.length:Int)) (hn1:(d.2.2.1.length:Int)<=4) (a0:0<=a) (a1:a < 6) (p0:0<=p) (p1:p < d.2.2.1.length) (q0:0<=q) (q1:q < d.2.2.1.length) (x:List Fd×Bool×Unit):
  za7 ((g.1,(g.2.1,(g.2.2.1,()))),((d.1,(d.2.1,(d.2.2.1,(d.2.2.2.1,())))),x)) a p q=some (kx (d.2.2.1.length:Int) a p q):=by
 unfold za7 kx;dsimp only;generalize (d.2.2.1.length:Int)=n at *
 rcases zjW hn0 hn1 with rfl | rfl | rfl | rfl<;>
  exact G_to (by unfold fits;omega) (G_to (by unfold fits;omega) (G_to (by unfold fits;omega) (G_to (by unfold fits;omega) rfl)))
abbrev PO (g:Gm) (d:Dm) (ag:Bool) (bk:List Ky) (bw:List (List Int)) (ik:List Ky) (iv:List Int):=(g.1,g.2.1,g.2.2.1,d.1,d.2.1,d.2.2.1,d.2.2.2.1,ag,bk,bw,ik,iv)
abbrev RO' (g:Gm) (d:Dm) (L:List Fd) (ag:Bool):=(g.1,g.2.1,g.2.2.1,d.1,d.2.1,d.2.2.1,d.2.2.2.1,L,ag)
theorem zq7 (hd:DmOk g.1 d) (hg:GOk g) {bk:List Ky} {bw:List (List Int)} {ik:List Ky} {iv:List Int} {L:List Fd} (h:Sim g.1 g.2.1 (d.2.2.1.length:Int) bk bw ik iv L) {a p q:Int} (a0:0<=a) (a1:a < g.2.1) (p0:0<=p) (p1:p < d.2.2.1.length) (q0:0<=q) (q1:q < d.2.2.1.length)
  {w:List Int} {short:Bool} (hw:short=true->WOk g.1 w) (hl:w.length<=100) (to:List Int) (ag:Bool):
  ∃ ag' bk' bw' ik' iv' L',zbR q w short (a,(to,())) p ag g.1 g.2.1 g.2.2.1 d.1 d.2.1 d.2.2.1 d.2.2.2.1 bk bw ik iv=some (ag',g.1,g.2.1,g.2.2.1,d.1,d.2.1,d.2.2.1,d.2.2.2.1,bk',bw',ik',iv')/\
   zcc a p q w short g.1 g.2.1 g.2.2.1 d.1 d.2.1 d.2.2.1 d.2.2.2.1 ag L=some (RO' g d L' ag')/\Sim g.1 g.2.1 (d.2.2.1.length:Int) bk' bw' ik' iv' L'/\Prg ag L ag' L':=by
 have n0:=hd.n0;have n1:=hd.n1;have ha6:a < 6:=by have:=hg.n1;omega
 obtain ⟨k0,k1⟩:=zi1 (N:=g.2.1) n0 n1 a0 a1 p0 p1 q0 q1;have g1:=hg.a1;have half:∀ (ag:Bool) (ik:List Ky) (iv:List Int) (L:List Fd),Sim g.1 g.2.1 (d.2.2.1.length:Int) bk bw ik iv L->(ix L (kx (d.2.2.1.length:Int) a p q)).1=true->
   ∃ ag' bk' bw' ik' iv' L',zbj q w short (a,(to,())) p ag g.1 g.2.1 g.2.2.1 d.1 d.2.1 d.2.2.1 d.2.2.2.1 bk bw ik iv=some (ag',g.1,g.2.1,g.2.2.1,d.1,d.2.1,d.2.2.1,d.2.2.2.1,bk',bw',ik',iv')/\
    zbG w short (kx (d.2.2.1.length:Int) a p q) g.1 g.2.1 g.2.2.1 d.1 d.2.1 d.2.2.1 d.2.2.2.1 ag L=some (RO' g d L' ag')/\Sim g.1 g.2.1 (d.2.2.1.length:Int) bk' bw' ik' iv' L'/\Prg ag L ag' L':=by
  intro ag ik iv L h his;have kl:kx (d.2.2.1.length:Int) a p q < L.length:=by rw [h.len];exact k1
  unfold zbj zbG;generalize hk:kx (d.2.2.1.length:Int) a p q=k at *
  have keep:zaR q w (a,(to,())) p ag g.1 g.2.1 g.2.2.1 d.1 d.2.1 d.2.2.1 d.2.2.2.1 bk bw ik iv false=some (ag,g.1,g.2.1,g.2.2.1,d.1,d.2.1,d.2.2.1,d.2.2.2.1,bk,bw,ik,iv):=rfl;have keep2:zbf w k g.1 g.2.1 g.2.2.1 d.1 d.2.1 d.2.2.1 d.2.2.2.1 ag L false=some (RO' g d L ag):=rfl
  cases short with
  | false=>exact ⟨ag,bk,bw,ik,iv,L,keep,rfl,h,.refl _ _⟩
  | true=>
   have hw:=hw rfl;have gK:0<=k/\k < (L.length:Int):=⟨k0,kl⟩;have gN:k.toNat < L.length:=by omega
   have hput:zaR q w (a,(to,())) p ag g.1 g.2.1 g.2.2.1 d.1 d.2.1 d.2.2.1 d.2.2.2.1 bk bw ik iv true=some (true,g.1,g.2.1,g.2.2.1,d.1,d.2.1,d.2.2.1,d.2.2.2.1,zbV bk (ky a p q),(zdk bk bw (ky a p q) []).set (mpos bk (ky a p q)).toNat w,ik,iv):=by
    unfold zaR;refine zaZ (za2 (zeV (by omega)) (G_to (zjj h.bl (ky a p q) [] w).2 rfl))
   have hput2:zbf w k g.1 g.2.1 g.2.2.1 d.1 d.2.1 d.2.2.1 d.2.2.2.1 ag L true=some (RO' g d (L.set k.toNat ((ix L k).1,(true,(w,())))) true):=by
    unfold zbf;refine zaZ (G_to gK (G_to gN (G_to ⟨k0,by rw [List.length_set];exact kl⟩ (G_to (by rw [List.length_set];exact gN) ?_))))
    rw [zbE k0 kl,List.set_set]
   have hsim:=h.putW n0 n1 a0 a1 p0 p1 q0 q1 hw;rw [hk] at hsim;have fin:wt ((ix L k).1,(true,(w,()))) < wt (ix L k)->∃ ag' bk' bw' ik' iv' L',some (true,g.1,g.2.1,g.2.2.1,d.1,d.2.1,d.2.2.1,d.2.2.2.1,zbV bk (ky a p q),(zdk bk bw (ky a p q) []).set (mpos bk (ky a p q)).toNat w,ik,iv)=some (ag',g.1,g.2.1,g.2.2.1,d.1,d.2.1,d.2.2.1,d.2.2.2.1,bk',bw',ik',iv')/\
     some (RO' g d (L.set k.toNat ((ix L k).1,(true,(w,())))) true)=some (RO' g d L' ag')/\Sim g.1 g.2.1 (d.2.2.1.length:Int) bk' bw' ik' iv' L'/\Prg ag L ag' L':=fun hlt=>
    ⟨_,_,_,_,_,_,rfl,rfl,hsim,.inr ⟨rfl,zr2 k0 kl hlt⟩⟩
   have hB:(zdc w (ix L k).2.2.1)=some (bef w (ix L k).2.2.1):=zjl (by omega)
   simp only [if_true,Bool.not_true,Bool.false_eq_true,if_false,zbh gK,zbh gN,hB,Option.bind_some];have hhas:=h.has a p q a0 a1 p0 p1 q0 q1;rw [hk] at hhas
   cases hH:(ix L k).2.1 with
   | false=>
    have hm:mhas bk (ky a p q)=false:=by
     cases e:mhas bk (ky a p q)
     ·rfl
     ·exact absurd (hhas.1 e) (by rw [hH];simp)
    simp only [hm,Bool.not_false,if_true,hput,hput2];refine fin ?_
    unfold wt;have:=zsd g1 hw;simp only [his,hH,if_true,Bool.false_eq_true,if_false];omega
   | true=>
    have hm:mhas bk (ky a p q)=true:=hhas.2 hH;have hwd:=h.wd a p q a0 a1 p0 p1 q0 q1 (by rw [hk];exact hH)
    rw [hk] at hwd;simp only [hm,Bool.not_true,Bool.false_eq_true,if_false,hwd,zgY (show w.length<=1000 by omega),Option.bind_some]
    cases hb:bef w (ix L k).2.2.1 with
    | false=>rw [keep,keep2];exact ⟨_,_,_,_,_,_,rfl,rfl,h,.refl _ _⟩
    | true=>
     rw [hput,hput2];refine fin ?_
     unfold wt;have:=zrK g1 hw (h.ok k k0 k1 hH) hb;simp only [his,hH,if_true];omega
 have kl:kx (d.2.2.1.length:Int) a p q < L.length:=by rw [h.len];exact k1
 unfold zbR zcc;rw [zmD n0 n1 a0 ha6 p0 p1 q0 q1,Option.bind_some];have his:=h.is a p q a0 a1 p0 p1 q0 q1;have hI:=h.putIs n0 n1 a0 a1 p0 p1 q0 q1;generalize hk:kx (d.2.2.1.length:Int) a p q=k at *
 have gK:0<=k/\k < (L.length:Int):=⟨k0,kl⟩;have gN:k.toNat < L.length:=by omega
 simp only [zbh gK,zbh gN]
 cases hb:(ix L k).1 with
 | false=>
  simp only [show decide (mget ik iv (a,(p,(q,()))) 0=0)=true from decide_eq_true (his.2 hb),zbh (zjj h.il (ky a p q) 0 1).2,Bool.not_false,if_true];obtain ⟨ag',bk',bw',ik',iv',L',e1,e2,e3,e4⟩:=half true _ _ _ hI (by rw [zbE k0 kl])
  refine ⟨ag',bk',bw',ik',iv',L',e1,e2,e3,?_⟩
  have hm:mu (L.set k.toNat (true,(ix L k).2)) < mu L:=zr2 k0 kl (by unfold wt;simp only [hb,if_true,Bool.false_eq_true,if_false];omega)
  rcases e4 with ⟨rfl,rfl⟩ | ⟨rfl,e4⟩
  ·exact .inr ⟨rfl,hm⟩
  ·exact .inr ⟨rfl,by omega⟩
 | true=>
  have : ¬ mget ik iv (a,(p,(q,()))) 0=0:=fun e=>by have:=his.1 e;rw [hb] at this;cases this
  simp only [show decide (mget ik iv (a,(p,(q,()))) 0=0)=false from decide_eq_false this,Bool.not_true,Bool.false_eq_true,if_false];exact half ag ik iv L h hb
end
section
variable {g:Gm} {d:Dm}
theorem zja {s:Int} {tl:List Int}:cut (s::tl) (1:Int) ((s::tl).length:Int)=tl:=by
 unfold cut;rw [show ((((s::tl).length:Nat):Int)).toNat=(s::tl).length from by simp,List.take_length];rfl
theorem zpd {s:Int} {tl:List Int}:ix (s::tl) (0:Int)=s:=rfl
theorem zqf (hd:DmOk g.1 d) (hg:GOk g) {from' start:Int} (f0:0<=from') (f1:from' < g.2.1) (t0:0<=start) (t1:start < d.2.2.1.length) (to:List Int):
  ∀ (signs:List Int),signs.length<=3->(∀ s∈signs,0<=s/\s < g.1+g.2.1)->∀ (p:Int) (w:List Int) (short:Bool) (ag:Bool) (bk:List Ky) (bw:List (List Int)) (ik:List Ky) (iv:List Int) (L:List Fd),
   Sim g.1 g.2.1 (d.2.2.1.length:Int) bk bw ik iv L->0<=p->p < d.2.2.1.length->(short=true->WOk g.1 w)->w.length+signs.length<=70->
   ∃ ag' bk' bw' ik' iv' L',zay signs p w short (from',(to,())) start g.1 g.2.1 g.2.2.1 d.1 d.2.1 d.2.2.1 d.2.2.2.1 ag bk bw ik iv=some (PO g d ag' bk' bw' ik' iv')/\
    zap from' start signs p w short g.1 g.2.1 g.2.2.1 d.1 d.2.1 d.2.2.1 d.2.2.2.1 ag L=some (RO' g d L' ag')/\Sim g.1 g.2.1 (d.2.2.1.length:Int) bk' bw' ik' iv' L'/\Prg ag L ag' L':=by
 have n0:=hd.n0;have n1:=hd.n1;have g0:=hg.a0;have g1:=hg.a1;have g2:=hg.n1;intro signs
 induction signs with
 | nil=>
  intro _ _ p w short ag bk bw ik iv L h p0 p1 hw hl;obtain ⟨ag',bk',bw',ik',iv',L',e1,e2,e3,e4⟩:=zq7 hd hg h f0 f1 t0 t1 p0 p1 hw (by simp at hl;omega) to ag
  refine ⟨ag',bk',bw',ik',iv',L',?_,?_,e3,e4⟩
  ·rw [zcg];unfold zaN;exact (if_pos (decide_eq_true (by simp))).trans (za2 e1 rfl)
  ·rw [zbs];unfold zaI;exact (if_pos (decide_eq_true (by simp))).trans (za2 e2 rfl)
 | cons s tl ih=>
  intro hl3 hs p w short ag bk bw ik iv L h p0 p1 hw hl;obtain ⟨s0,s1⟩:=hs s (by simp)
  have ih:=ih (by simp at hl3;omega) (fun x hx=>hs x (by simp [hx]))
  rw [List.length_cons] at hl;have gz:(0:Int)<=(0:Int)/\(0:Int) < ((s::tl).length:Int):=by rw [List.length_cons];omega
  have go:(0:Int)<=(1:Int)/\(1:Int)<=((s::tl).length:Int)/\((s::tl).length:Int)<=((s::tl).length:Int):=⟨by omega,by rw [List.length_cons];omega,Int.le_refl _⟩
  by_cases hc:s < g.1
  ·-- a letter
   obtain ⟨d0,d1,d2⟩:=hd.t p s p0 p1 s0 hc;have hcl:zbb w=some w:=zeV (by omega)
   have hwl:(w++[s]).length=w.length+1:=by simp
   have hok:(short && decide ((w.length:Int) < 60))=true->WOk g.1 (w++[s]):=by
    intro hh;simp only [Bool.and_eq_true,decide_eq_true_eq] at hh;have:=hw hh.1;exact ⟨by omega,fun x hx=>by
     rcases List.mem_append.1 hx with hx | hx
     ·exact this.c x hx
     ·simp at hx;subst hx;exact ⟨s0,hc⟩⟩
   obtain ⟨ag',bk',bw',ik',iv',L',e1,e2,e3,e4⟩:=ih (ix (ix d.2.2.1 p) s) (w++[s]) (short && decide ((w.length:Int) < 60)) ag bk bw ik iv L h d1 d2 hok (by omega)
   refine ⟨ag',bk',bw',ik',iv',L',?_,?_,e3,e4⟩
   ·rw [zcg];unfold zaN;rw [if_neg (by simp;omega),zbh gz]
    simp only [zpd,zja,hc,decide_true,if_true];have fin:∀ {K:(Int×Int×List (Int×List Int×Unit)×Int×Int×List (List Int)×List Int×Bool×List Ky×List (List Int)×List Ky×List Int)->Option (Int×Int×List (Int×List Int×Unit)×Int×Int×List (List Int)×List Int×Bool×List Ky×List (List Int)×List Ky×List Int)},(∀ y,K y=some y)->
      (if short=true then (zay tl (ix (ix d.2.2.1 p) s) (w++[s]) (decide ((w.length:Int) < 60)) (from',(to,())) start g.1 g.2.1 g.2.2.1 d.1 d.2.1 d.2.2.1 d.2.2.2.1 ag bk bw ik iv).bind K else
       (zay tl (ix (ix d.2.2.1 p) s) (w++[s]) false (from',(to,())) start g.1 g.2.1 g.2.2.1 d.1 d.2.1 d.2.2.1 d.2.2.2.1 ag bk bw ik iv).bind K)=some (PO g d ag' bk' bw' ik' iv'):=by
     intro K hK
     cases short with
     | true=>
      rw [Bool.true_and] at e1;exact zaZ (za2 e1 (hK _))
     | false=>
      rw [Bool.false_and] at e1;exact zbD (za2 e1 (hK _))
    have gp:0<=p/\p < (d.2.2.1.length:Int):=⟨p0,p1⟩;have gs:0<=s/\s < ((ix d.2.2.1 p).length:Int):=⟨s0,d0⟩;have gr:room w [s] 8:=by unfold room;simp;omega
    simp only [zbh go,zbh gp,zbh gs,hcl,Option.bind_some,zbh gr]
    repeat' first
     | exact fin (fun _=>rfl)
     | refine zcs ?_ ?_
   ·rw [zbs];unfold zaI;rw [if_neg (by simp;omega),zbh gz]
    simp only [zpd,zja,hc,decide_true,if_true];have gp:0<=p/\p < (d.2.2.1.length:Int):=⟨p0,p1⟩;have gs:0<=s/\s < ((ix d.2.2.1 p).length:Int):=⟨s0,d0⟩;have gr:room w [s] 8:=by unfold room;simp;omega
    have gr0:room ([]:List Int) w 8:=by unfold room;simp;omega
    simp only [List.nil_append,zbh gz,zbh go,zbh gp,zbh gs,zbh gr,zbh gr0];have e60:decide (((w++[s]).length:Int)<=60)=decide ((w.length:Int) < 60):=by rw [hwl,decide_eq_decide];omega
    cases short with
    | true=>
     rw [Bool.true_and,<- e60] at e2;exact zaZ (za2 e2 rfl)
    | false=>
     rw [Bool.false_and] at e2;exact zbD (za2 e2 rfl)
  ·-- a name
   have a0:0<=s - g.1:=by omega
   have a1:s - g.1 < g.2.1:=by omega
   have key:∀ (k:Nat) (q:Int),0<=q->q<=d.2.2.1.length->((d.2.2.1.length:Int) - q).toNat=k->∀ (ag:Bool) (bk:List Ky) (bw:List (List Int)) (ik:List Ky) (iv:List Int) (L:List Fd),Sim g.1 g.2.1 (d.2.2.1.length:Int) bk bw ik iv L->
     ∃ ag' bk' bw' ik' iv' L',zav zay (s::tl) p w short d.2.2.1 (from',(to,())) start q g.1 g.2.1 g.2.2.1 d.1 d.2.1 d.2.2.1 d.2.2.2.1 ag bk bw ik iv=some (PO g d ag' bk' bw' ik' iv')/\
      zas zap from' start (s::tl) p w short q g.1 g.2.1 g.2.2.1 d.1 d.2.1 d.2.2.1 d.2.2.2.1 ag L=some (RO' g d L' ag')/\Sim g.1 g.2.1 (d.2.2.1.length:Int) bk' bw' ik' iv' L'/\Prg ag L ag' L':=by
    intro k
    induction k with
    | zero=>
     intro q q0 q1 hq ag bk bw ik iv L h;refine ⟨ag,bk,bw,ik,iv,L,?_,?_,h,.refl _ _⟩
     ·rw [zcO];unfold zaH;rw [if_neg (by simp only [decide_eq_true_eq];omega)]
     ·rw [zcA];unfold zaB;rw [if_neg (by simp only [decide_eq_true_eq];omega)]
    | succ k ihk=>
     intro q q0 q1 hq ag bk bw ik iv L h;have ql:q < d.2.2.1.length:=by omega
     have gf:fits (s - g.1):=by unfold fits;omega
     have gq:fits (q+1):=by unfold fits;omega
     have ha:=zmD (g:=g) n0 n1 a0 (show s - g.1 < 6 by omega) p0 p1 q0 ql
     obtain ⟨k0,k1⟩:=zi1 (N:=g.2.1) n0 n1 a0 a1 p0 p1 q0 ql;have kl:kx (d.2.2.1.length:Int) (s - g.1) p q < L.length:=by rw [h.len];exact k1
     have his:=h.is _ p q a0 a1 p0 p1 q0 ql;have hhas:=h.has _ p q a0 a1 p0 p1 q0 ql;have hwd:=h.wd _ p q a0 a1 p0 p1 q0 ql;have hwk:=h.ok _ k0 k1;have hsh:=h.sh _ k0 k1;rw [zcO,zcA];unfold zaH zaB;rw [show ix (s::tl) (0:Int)=s from rfl];simp only [if_pos (decide_eq_true ql),zbh gz,zbh gf,ha,Option.bind_some];generalize hk:kx (d.2.2.1.length:Int) (s - g.1) p q=kk at *
     have gK:0<=kk/\kk < (L.length:Int):=⟨k0,kl⟩;have gN:kk.toNat < L.length:=by omega
     simp only [zbh gK,zbh gN]
     cases hI:(ix L kk).1 with
     | false=>
      simp only [show decide (mget ik iv (s - g.1,(p,(q,()))) 0=0)=true from decide_eq_true (his.2 hI),if_true,Bool.not_false,zbh gq];exact ihk (q+1) (by omega) (by omega) (by omega) ag bk bw ik iv L h
     | true=>
      have hne : ¬ mget ik iv (s - g.1,(p,(q,()))) 0=0:=fun e=>by have:=his.1 e;rw [hI] at this;cases this
      simp only [show decide (mget ik iv (s - g.1,(p,(q,()))) 0=0)=false from decide_eq_false hne,Bool.false_eq_true,if_false,Bool.not_true];have rest:∀ (ok:Bool) (x:List Int),(ok=true->WOk g.1 x)->x.length<=60->
        ∃ ag' bk' bw' ik' iv' L',zaL zay (s::tl) (from',(to,())) start q g.1 g.2.1 g.2.2.1 d.1 d.2.1 d.2.2.1 d.2.2.2.1 ag bk bw ik iv (zav zay (s::tl) p w short d.2.2.1) ok x=some (PO g d ag' bk' bw' ik' iv')/\
         zaJ zap from' start (s::tl) q g.1 g.2.1 g.2.2.1 d.1 d.2.1 d.2.2.1 d.2.2.2.1 ag L (zas zap from' start (s::tl) p w short) ok x=some (RO' g d L' ag')/\Sim g.1 g.2.1 (d.2.2.1.length:Int) bk' bw' ik' iv' L'/\Prg ag L ag' L':=by
       intro ok x hx hxl;obtain ⟨ag1,bk1,bw1,ik1,iv1,L1,e1,e2,e3,e4⟩:=ih q x ok ag bk bw ik iv L h q0 ql hx (by simp at hl3;omega)
       obtain ⟨ag2,bk2,bw2,ik2,iv2,L2,u1,u2,u3,u4⟩:=ihk (q+1) (by omega) (by omega) (by omega) ag1 bk1 bw1 ik1 iv1 L1 e3
       refine ⟨ag2,bk2,bw2,ik2,iv2,L2,?_,?_,u3,e4.trans u4⟩
       ·unfold zaL;rw [zbh go,zja];exact za2 e1 (G_to gq u1)
       ·unfold zaJ;rw [zbh go,zja];exact za2 e2 (G_to gq u2)
      have no:∃ ag' bk' bw' ik' iv' L',zaA zay (s::tl) p w (from',(to,())) start q g.1 g.2.1 g.2.2.1 d.1 d.2.1 d.2.2.1 d.2.2.2.1 ag bk bw ik iv (zav zay (s::tl) p w short d.2.2.1) false=some (PO g d ag' bk' bw' ik' iv')/\
        zau zap from' start (s::tl) w q g.1 g.2.1 g.2.2.1 d.1 d.2.1 d.2.2.1 d.2.2.2.1 ag L (zas zap from' start (s::tl) p w short) kk false=some (RO' g d L' ag')/\Sim g.1 g.2.1 (d.2.2.1.length:Int) bk' bw' ik' iv' L'/\Prg ag L ag' L':=
       rest false [] (by simp) (by simp)
      cases short with
      | false=>exact no
      | true=>
       simp only [if_true]
       cases hH:(ix L kk).2.1 with
       | false=>
        have hm:mhas bk (s - g.1,(p,(q,())))=false:=by
         cases e:mhas bk (s - g.1,(p,(q,())))
         ·rfl
         ·exact absurd (hhas.1 e) (by rw [hH];simp)
        simp only [hm,Bool.false_eq_true,if_false];exact no
       | true=>
        have hm:mhas bk (s - g.1,(p,(q,())))=true:=hhas.2 hH;have hv:=hwd hH;have hv:mget bk bw (s - g.1,(p,(q,()))) []=(ix L kk).2.2.1:=hv;have gl:fits ((w.length:Int)+((ix L kk).2.2.1.length:Int)):=by unfold fits;omega
        simp only [hm,if_true,hv,zbh gl];by_cases hle:(w.length:Int)+((ix L kk).2.2.1.length:Int)<=60
        ·simp only [decide_eq_true hle];have hxl:(w++(ix L kk).2.2.1).length<=60:=by rw [List.length_append];omega
         obtain ⟨ag',bk',bw',ik',iv',L',e1,e2,e3,e4⟩:=rest true (w++(ix L kk).2.2.1) (fun _=>⟨hxl,fun x hx=>by
          rcases List.mem_append.1 hx with hx | hx
          ·exact (hw rfl).c x hx
          ·exact (hwk hH).c x hx⟩) hxl
         refine ⟨ag',bk',bw',ik',iv',L',?_,?_,e3,e4⟩
         ·unfold zaA;refine zaZ (za2 (y:=w++(ix L kk).2.2.1) ?_ e1)
          rw [zpd,hv,zh3 (by simp) (by simp;omega)];simp
         ·unfold zau;exact zaZ (G_to (by unfold room;simp;omega) (G_to gK (G_to gN (G_to (by unfold room;omega) e2))))
        ·simp only [decide_eq_false hle];exact no
   obtain ⟨ag',bk',bw',ik',iv',L',e1,e2,e3,e4⟩:=key _ 0 (Int.le_refl _) (by omega) rfl ag bk bw ik iv L h
   refine ⟨ag',bk',bw',ik',iv',L',?_,?_,e3,e4⟩
   ·rw [zcg];unfold zaN;rw [if_neg (by simp;omega),zbh gz]
    simp only [zpd,hc,decide_false,Bool.false_eq_true,if_false];exact e1
   ·rw [zbs];unfold zaI;rw [if_neg (by simp;omega),zbh gz]
    simp only [zpd,hc,decide_false,Bool.false_eq_true,if_false];exact e2
theorem zqe (from' start:Int) (signs:List Int) (p:Int) (has:Bool) (c c1:Int) (c2:List (Int×List Int×Unit)) (c3 c4:Int) (c5:List (List Int)) (c6:List Int) (c7:Bool) (l:List Fd):
  zdY from' start signs p has c c1 c2 c3 c4 c5 c6 c7 l=zap from' start signs p [] has c c1 c2 c3 c4 c5 c6 c7 l:=by
 rw [zbs];rfl
end
section
variable {g:Gm} {d:Dm}
theorem zrJ (hd:DmOk g.1 d) (hg:GOk g) {t:Int} (t0:0<=t) (t1:t < g.2.2.1.length)
  (r5:Int->Bool->Int->Int->List (Int×List Int×Unit)->Int->Int->List (List Int)->List Int->List Ky->List (List Int)->List Ky->List Int->Option (Int×Int×List (Int×List Int×Unit)×Int×Int×List (List Int)×List Int×List Ky×List (List Int)×List Ky×List Int))
  (r6:Int->Int->Int->List (Int×List Int×Unit)->Int->Int->List (List Int)->List Int->Bool->List Fd->Option (List Int×Bool×Bool)):
  ∀ (k:Nat) (p:Int),0<=p->p<=d.2.2.1.length->((d.2.2.1.length:Int) - p).toNat=k->∀ (ag:Bool) (bk:List Ky) (bw:List (List Int)) (ik:List Ky) (iv:List Int) (L:List Fd),Sim g.1 g.2.1 (d.2.2.1.length:Int) bk bw ik iv L->
   ∃ ag' bk' bw' ik' iv' L',zaP t d.2.2.1 r5 ((ix g.2.2.1 t).1,(((ix g.2.2.1 t).2).1,())) p ag g.1 g.2.1 g.2.2.1 d.1 d.2.1 d.2.2.1 d.2.2.2.1 bk bw ik iv=r5 (t+1) ag' g.1 g.2.1 g.2.2.1 d.1 d.2.1 d.2.2.1 d.2.2.2.1 bk' bw' ik' iv'/\
    zbX g d t r6 p g.1 g.2.1 g.2.2.1 d.1 d.2.1 d.2.2.1 d.2.2.2.1 ag L=r6 (t+1) g.1 g.2.1 g.2.2.1 d.1 d.2.1 d.2.2.1 d.2.2.2.1 ag' L'/\Sim g.1 g.2.1 (d.2.2.1.length:Int) bk' bw' ik' iv' L'/\Prg ag L ag' L':=by
 have n0:=hd.n0;have n1:=hd.n1;have hr:=hg.r t t0 t1;have hln:=hg.ln;have gt:fits (t+1):=by unfold fits;omega
 intro k
 induction k with
 | zero=>
  intro p p0 p1 hp ag bk bw ik iv L h;refine ⟨ag,bk,bw,ik,iv,L,?_,?_,h,.refl _ _⟩
  ·rw [zcM];unfold zaG;rw [if_neg (by simp only [decide_eq_true_eq];omega),zbh gt]
  ·rw [zf7];unfold zbp;rw [if_neg (by simp only [decide_eq_true_eq];omega),zbh gt]
 | succ k ih=>
  intro p p0 p1 hp ag bk bw ik iv L h;have pl:p < d.2.2.1.length:=by omega
  have gp:fits (p+1):=by unfold fits;omega
  obtain ⟨ag1,bk1,bw1,ik1,iv1,L1,e1,e2,e3,e4⟩:=zqf hd hg hr.f0 hr.f1 p0 pl (ix g.2.2.1 t).2.1 (ix g.2.2.1 t).2.1 hr.l hr.s p [] true ag bk bw ik iv L h p0 pl (fun _=>⟨by simp,by simp⟩) (by have:=hr.l;simp;omega)
  obtain ⟨ag2,bk2,bw2,ik2,iv2,L2,u1,u2,u3,u4⟩:=ih (p+1) (by omega) (by omega) (by omega) ag1 bk1 bw1 ik1 iv1 L1 e3
  refine ⟨ag2,bk2,bw2,ik2,iv2,L2,?_,?_,u3,e4.trans u4⟩
  ·rw [zcM];unfold zaG;rw [if_pos (decide_eq_true pl)];exact za2 e1 (G_to gp u1)
  ·rw [zf7];unfold zbp;rw [if_pos (decide_eq_true pl),zbh ⟨t0,t1⟩,zbh ⟨t0,t1⟩,zqe];exact za2 e2 (G_to gp u2)
theorem zrI (hd:DmOk g.1 d) (hg:GOk g)
  (r2:Bool->Int->Int->List (Int×List Int×Unit)->Int->Int->List (List Int)->List Int->List Ky->List (List Int)->List Ky->List Int->Option (Int×Int×List (Int×List Int×Unit)×Int×Int×List (List Int)×List Int×List Ky×List (List Int)×List Ky×List Int))
  (r3:Int->Int->List (Int×List Int×Unit)->Int->Int->List (List Int)->List Int->Bool->List Fd->Option (List Int×Bool×Bool)):
  ∀ (k:Nat) (t:Int),0<=t->t<=g.2.2.1.length->((g.2.2.1.length:Int) - t).toNat=k->∀ (ag:Bool) (bk:List Ky) (bw:List (List Int)) (ik:List Ky) (iv:List Int) (L:List Fd),Sim g.1 g.2.1 (d.2.2.1.length:Int) bk bw ik iv L->
   ∃ ag' bk' bw' ik' iv' L',zaE g.2.2.1 r2 t ag g.1 g.2.1 g.2.2.1 d.1 d.2.1 d.2.2.1 d.2.2.2.1 bk bw ik iv=r2 ag' g.1 g.2.1 g.2.2.1 d.1 d.2.1 d.2.2.1 d.2.2.2.1 bk' bw' ik' iv'/\
    zbA g d r3 t g.1 g.2.1 g.2.2.1 d.1 d.2.1 d.2.2.1 d.2.2.2.1 ag L=r3 g.1 g.2.1 g.2.2.1 d.1 d.2.1 d.2.2.1 d.2.2.2.1 ag' L'/\Sim g.1 g.2.1 (d.2.2.1.length:Int) bk' bw' ik' iv' L'/\Prg ag L ag' L':=by
 intro k
 induction k with
 | zero=>
  intro t t0 t1 ht ag bk bw ik iv L h;refine ⟨ag,bk,bw,ik,iv,L,?_,?_,h,.refl _ _⟩
  ·rw [zcK];unfold zaF;rw [if_neg (by simp only [decide_eq_true_eq];omega)]
  ·rw [zf6];unfold zbo;rw [if_neg (by simp only [decide_eq_true_eq];omega)]
 | succ k ih=>
  intro t t0 t1 ht ag bk bw ik iv L h;have tl:t < g.2.2.1.length:=by omega
  have n0:=hd.n0;obtain ⟨ag1,bk1,bw1,ik1,iv1,L1,e1,e2,e3,e4⟩:=zrJ hd hg t0 tl (zaE g.2.2.1 r2) (zbA g d r3) _ 0 (Int.le_refl _) (by omega) rfl ag bk bw ik iv L h
  obtain ⟨ag2,bk2,bw2,ik2,iv2,L2,u1,u2,u3,u4⟩:=ih (t+1) (by omega) (by omega) (by omega) ag1 bk1 bw1 ik1 iv1 L1 e3
  refine ⟨ag2,bk2,bw2,ik2,iv2,L2,?_,?_,u3,e4.trans u4⟩
  ·rw [zcK];unfold zaF;rw [if_pos (decide_eq_true tl),zbh ⟨t0,tl⟩];exact e1.trans u1
  ·rw [zf6];unfold zbo;rw [if_pos (decide_eq_true tl)];exact e2.trans u2
theorem zrH (hd:DmOk g.1 d) (hg:GOk g):∀ (m:Nat) (bk:List Ky) (bw:List (List Int)) (ik:List Ky) (iv:List Int) (L:List Fd),mu L=m->Sim g.1 g.2.1 (d.2.2.1.length:Int) bk bw ik iv L->
   ∃ bk' bw' ik' iv' L',zbd true g.1 g.2.1 g.2.2.1 d.1 d.2.1 d.2.2.1 d.2.2.2.1 bk bw ik iv=some (g.1,g.2.1,g.2.2.1,d.1,d.2.1,d.2.2.1,d.2.2.2.1,bk',bw',ik',iv')/\
    zc9 g d g.1 g.2.1 g.2.2.1 d.1 d.2.1 d.2.2.1 d.2.2.2.1 true L=zaD d g.1 g.2.1 g.2.2.1 d.1 d.2.1 d.2.2.1 d.2.2.2.1 false L' [] false false 0/\Sim g.1 g.2.1 (d.2.2.1.length:Int) bk' bw' ik' iv' L':=by
 intro m
 induction m using Nat.strongRecOn with
 | ind m ih=>
  intro bk bw ik iv L hm h;obtain ⟨ag1,bk1,bw1,ik1,iv1,L1,e1,e2,e3,e4⟩:=zrI hd hg zbd (zc9 g d) _ 0 (Int.le_refl _) (by omega) rfl false bk bw ik iv L h
  rw [zcJ,zf5];unfold zaS zbN;simp only [if_true,e1,e2];rcases e4 with ⟨rfl,rfl⟩ | ⟨rfl,e4⟩
  ·refine ⟨bk1,bw1,ik1,iv1,L1,?_,?_,e3⟩
   ·rw [zcJ];rfl
   ·rw [zf5];rfl
  ·exact ih (mu L1) (by omega) bk1 bw1 ik1 iv1 L1 rfl e3
theorem zp0 (hd:DmOk g.1 d) (hg:GOk g) {bk:List Ky} {bw:List (List Int)} {ik:List Ky} {iv:List Int} {L:List Fd} (h:Sim g.1 g.2.1 (d.2.2.1.length:Int) bk bw ik iv L):
  ∀ (k:Nat) (t:Int),0<=t->t<=d.2.2.1.length->((d.2.2.1.length:Int) - t).toNat=k->∀ (best:List Int) (any found:Bool),best.length<=60->(found=true->any=true)->
   ∃ best' any' found',zcu d.2.1 d.2.2.2.1 bk bw ik iv best found any t=some (if (any' && !found')=true then ([],false,7) else (best',found',0))/\
    zaD d g.1 g.2.1 g.2.2.1 d.1 d.2.1 d.2.2.1 d.2.2.2.1 false L best any found t=some (best',any',found')/\best'.length<=60/\(found'=true->any'=true):=by
 have n0:=hd.n0;have n1:=hd.n1;have hm:=hd.m;have m0:=hg.n0;intro k
 induction k with
 | zero=>
  intro t t0 t1 ht best any found hb hf;refine ⟨best,any,found,?_,?_,hb,hf⟩
  ·rw [zeg];unfold zaX;rw [if_neg (by simp only [decide_eq_true_eq];omega)]
   cases any<;>cases found<;>rfl
  ·rw [zfp];unfold zbe;rw [if_neg (by simp only [decide_eq_true_eq];omega)]
 | succ k ih=>
  intro t t0 t1 ht best any found hb hf;have tl:t < d.2.2.1.length:=by omega
  have gm:0<=t/\t < (d.2.2.2.1.length:Int):=⟨t0,by omega⟩
  have gt:fits (t+1):=by unfold fits;omega
  have ha:=zmD (g:=g) n0 n1 (Int.le_refl 0) (show (0:Int) < 6 by omega) hd.s0 hd.s1 t0 tl
  obtain ⟨k0,k1⟩:=zi1 (N:=g.2.1) n0 n1 (Int.le_refl 0) (show (0:Int) < g.2.1 by omega) hd.s0 hd.s1 t0 tl
  have his:=h.is 0 d.2.1 t (Int.le_refl 0) (by omega) hd.s0 hd.s1 t0 tl
  have hhas:=h.has 0 d.2.1 t (Int.le_refl 0) (by omega) hd.s0 hd.s1 t0 tl
  have hwd:=h.wd 0 d.2.1 t (Int.le_refl 0) (by omega) hd.s0 hd.s1 t0 tl
  have hsh:=h.sh _ k0 k1;rw [<- h.len] at k1;have ih:=ih (t+1) (by omega) (by omega) (by omega)
  have ref:∀ {x:Option (List Int×Bool×Bool)},zbk d best any found t (zaD d g.1 g.2.1 g.2.2.1 d.1 d.2.1 d.2.2.1 d.2.2.2.1 false L) (ix L (kx (d.2.2.1.length:Int) 0 d.2.1 t)).1 (ix L (kx (d.2.2.1.length:Int) 0 d.2.1 t)).2.1 (ix L (kx (d.2.2.1.length:Int) 0 d.2.1 t)).2.2.1=x->
    zaD d g.1 g.2.1 g.2.2.1 d.1 d.2.1 d.2.2.1 d.2.2.2.1 false L best any found t=x:=fun hx=>by
   rw [zfp];unfold zbe;rw [if_pos (decide_eq_true tl)];exact zcs (za2 (ha _) (G_to ⟨k0,k1⟩ (G_to (by omega) hx))) (za2 (ha _) (G_to ⟨k0,k1⟩ (G_to (by omega) hx)))
  generalize hk:kx (d.2.2.1.length:Int) 0 d.2.1 t=kk at *
  have hB:zdc (ix L kk).2.2.1 best=some (bef (ix L kk).2.2.1 best):=zjl (by omega)
  have skip:∀ {x:Option (List Int×Bool×Bool)},(ix d.2.2.2.1 t=0\/(ix L kk).1=false)->zaD d g.1 g.2.1 g.2.2.1 d.1 d.2.1 d.2.2.1 d.2.2.2.1 false L best any found (t+1)=x->
    zaD d g.1 g.2.1 g.2.2.1 d.1 d.2.1 d.2.2.1 d.2.2.2.1 false L best any found t=x:=fun hc hx=>ref (by
   unfold zbk;rw [zbh gm];by_cases c:ix d.2.2.2.1 t=0
   ·rw [if_pos (decide_eq_true c)];exact G_to gt hx
   ·rw [if_neg (by simpa using c),hc.resolve_left c]
    exact zaZ (G_to gt hx))
  rw [zeg];unfold zaX;rw [if_pos (decide_eq_true (show t < (d.2.2.2.1.length:Int) by omega)),zbh gm]
  by_cases c:ix d.2.2.2.1 t=0
  ·obtain ⟨b',a',f',e1,e2,e3,e4⟩:=ih best any found hb hf;exact ⟨b',a',f',by rw [if_pos (decide_eq_true c)];exact G_to gt e1,skip (.inl c) e2,e3,e4⟩
  ·rw [if_neg (show ¬ decide (ix d.2.2.2.1 t=0)=true by simpa using c)]
   cases hI:(ix L kk).1 with
   | false=>
    obtain ⟨b',a',f',e1,e2,e3,e4⟩:=ih best any found hb hf;exact ⟨b',a',f',by rw [if_pos (decide_eq_true (his.2 hI))];exact G_to gt e1,skip (.inr hI) e2,e3,e4⟩
   | true=>
    have hne : ¬ mget ik iv (0,(d.2.1,(t,()))) 0=0:=fun e=>by have:=his.1 e;rw [hI] at this;cases this
    rw [if_neg (show ¬ decide (mget ik iv (0,(d.2.1,(t,()))) 0=0)=true by simpa using hne)]
    have go:∀ {x:Option (List Int×Bool×Bool)},(if (ix L kk).2.1=true then if (!found)=true then zaD d g.1 g.2.1 g.2.2.1 d.1 d.2.1 d.2.2.1 d.2.2.2.1 false L (ix L kk).2.2.1 true true (t+1) else if bef (ix L kk).2.2.1 best=true then zaD d g.1 g.2.1 g.2.2.1 d.1 d.2.1 d.2.2.1 d.2.2.2.1 false L (ix L kk).2.2.1 true true (t+1) else
      zaD d g.1 g.2.1 g.2.2.1 d.1 d.2.1 d.2.2.1 d.2.2.2.1 false L best true found (t+1) else zaD d g.1 g.2.1 g.2.2.1 d.1 d.2.1 d.2.2.1 d.2.2.2.1 false L best true found (t+1))=x->
      zaD d g.1 g.2.1 g.2.2.1 d.1 d.2.1 d.2.2.1 d.2.2.2.1 false L best any found t=x:=fun hx=>ref (by
     unfold zbk;rw [zbh gm,if_neg (by simpa using c),hI,hB]
     simp only [Option.bind_some,zbh gt,Bool.not_true,Bool.false_eq_true,if_false];exact hx)
    cases hH:(ix L kk).2.1 with
    | false=>
     have hmh:mhas bk (0,(d.2.1,(t,())))=false:=by
      cases e:mhas bk (0,(d.2.1,(t,())))
      ·rfl
      ·exact absurd (hhas.1 e) (by rw [hH];simp)
     obtain ⟨b',a',f',e1,e2,e3,e4⟩:=ih best true found hb (fun _=>rfl)
     exact ⟨b',a',f',by rw [hmh];exact zbD (G_to gt e1),go (by rw [hH];exact zbD e2),e3,e4⟩
    | true=>
     have hmh:mhas bk (0,(d.2.1,(t,())))=true:=hhas.2 hH;have hv:mget bk bw (0,(d.2.1,(t,()))) []=(ix L kk).2.2.1:=hwd hH
     cases found with
     | false=>
      obtain ⟨b',a',f',e1,e2,e3,e4⟩:=ih (ix L kk).2.2.1 true true hsh (fun _=>rfl)
      exact ⟨b',a',f',by rw [hmh,hv];exact zaZ (zaZ (G_to gt e1)),go (by rw [hH];exact zaZ (zaZ e2)),e3,e4⟩
     | true=>
      cases hbf:bef (ix L kk).2.2.1 best with
      | true=>
       obtain ⟨b',a',f',e1,e2,e3,e4⟩:=ih (ix L kk).2.2.1 true true hsh (fun _=>rfl)
       exact ⟨b',a',f',by rw [hmh,hv];exact zaZ (zbD (za2 ((zgY (by omega)).trans (congrArg some hbf)) (zaZ (G_to gt e1)))),go (by rw [hH,hbf];exact zaZ (zbD (zaZ e2))),e3,e4⟩
      | false=>
       obtain ⟨b',a',f',e1,e2,e3,e4⟩:=ih best true true hb (fun _=>rfl)
       exact ⟨b',a',f',by rw [hmh,hv];exact zaZ (zbD (za2 ((zgY (by omega)).trans (congrArg some hbf)) (zbD (G_to gt e1)))),go (by rw [hH,hbf];exact zaZ (zbD (zbD e2))),e3,e4⟩
theorem zpC {N n:Int} (C:Int) (hN:0<=N) (n0:1<=n) (n1:n<=4):Sim C N n [] [] [] [] (List.replicate (N * n * n).toNat ((false,(false,([],()))):Fd)):=by
 have hp:0<=N * n * n:=by rcases zjW n0 n1 with rfl | rfl | rfl | rfl<;>omega
 have hx:∀ k,0<=k->k < N * n * n->ix (List.replicate (N * n * n).toNat ((false,(false,([],()))):Fd)) k=(false,(false,([],()))):=fun k k0 k1=>ziK k0 (by omega)
 refine ⟨by simp;omega,rfl,rfl,?_,?_,?_,?_,?_⟩
 ·intro a p q a0 a1 p0 p1 q0 q1;obtain ⟨k0,k1⟩:=zi1 n0 n1 a0 a1 p0 p1 q0 q1;rw [hx _ k0 k1];exact ⟨fun _=>rfl,fun _=>rfl⟩
 ·intro a p q a0 a1 p0 p1 q0 q1;obtain ⟨k0,k1⟩:=zi1 n0 n1 a0 a1 p0 p1 q0 q1;rw [hx _ k0 k1];exact ⟨fun h=>(by cases h),fun h=>(by cases h)⟩
 ·intro a p q a0 a1 p0 p1 q0 q1 h;obtain ⟨k0,k1⟩:=zi1 n0 n1 a0 a1 p0 p1 q0 q1;rw [hx _ k0 k1] at h;cases h
 ·intro k k0 k1 h;rw [hx _ k0 k1] at h;cases h
 ·intro k k0 k1;rw [hx _ k0 k1];simp
theorem zo3 (hd:DmOk g.1 d) (hg:GOk g):∃ best any found,zaY g d.1 d.2.1 d.2.2.1 d.2.2.2.1=some (if (any && !found)=true then ([],false,7) else (best,found,0))/\zhT g d=some (best,any,found)/\best.length<=60/\(found=true->any=true):=by
 have n0:=hd.n0;have n1:=hd.n1;have m0:=hg.n0;have m1:=hg.n1;have h0:=zpC g.1 (N:=g.2.1) (n:=(d.2.2.1.length:Int)) (by omega) n0 n1
 obtain ⟨bk,bw,ik,iv,L,e1,e2,e3⟩:=zrH hd hg _ [] [] [] [] _ rfl h0;obtain ⟨best,any,found,u1,u2,u3,u4⟩:=zp0 hd hg e3 _ 0 (Int.le_refl _) (by omega) rfl [] false false (by simp) (by simp)
 refine ⟨best,any,found,?_,?_,u3,u4⟩
 ·unfold zaY zdj;exact za2 e1 u1
 ·unfold zhT;have hN:fits (g.2.1 * (d.2.2.1.length:Int))/\fits ((g.2.1 * (d.2.2.1.length:Int)) * (d.2.2.1.length:Int))/\mkOK ((g.2.1 * (d.2.2.1.length:Int)) * (d.2.2.1.length:Int)) ((g.2.1 * (d.2.2.1.length:Int)) * (d.2.2.1.length:Int)) 32:=by
   generalize (d.2.2.1.length:Int)=n at n0 n1;rcases zjW n0 n1 with rfl | rfl | rfl | rfl<;>(unfold fits mkOK;omega)
  exact G_to hN.1 (G_to hN.2.1 (G_to hN.2.2 (e2.trans u2)))
end
theorem zrg {g:Gm} (hg:GOk g):DmOk g.1 (g.1,(0,([List.replicate (g.1).toNat (0:Int)],([(1:Int)],())))):=by
 have g0:=hg.a0;refine ⟨by simp,by simp,?_,by simp,by simp,by simp⟩
 intro p s p0 p1 s0 s1;have:p=0:=by simp at p1;omega
 subst this;have e:ix ([List.replicate (g.1).toNat (0:Int)]) (0:Int)=List.replicate (g.1).toNat (0:Int):=rfl;show s < ((ix ([List.replicate (g.1).toNat (0:Int)]) (0:Int)).length:Int)/\0<=ix (ix ([List.replicate (g.1).toNat (0:Int)]) (0:Int)) s/\ix (ix ([List.replicate (g.1).toNat (0:Int)]) (0:Int)) s < (1:Int);rw [e,ziK s0 (by omega)]
 simp;omega
theorem zqB {w:List Int} {any found:Bool} (hl:w.length<=60) (hf:found=true->any=true):
  (if any=true then zbU (if (any && !found)=true then [] else w) (if (any && !found)=true then false else found) (if (any && !found)=true then 7 else 0) w any (!found) else
   zbU (if (any && !found)=true then [] else w) (if (any && !found)=true then false else found) (if (any && !found)=true then 7 else 0) w any false)=some true:=by
 have hw:zgu w w=some (decide (w=w)):=zlz (by omega)
 have hw:zgu w w=some true:=by rw [hw];simp
 unfold zbU
 cases any<;>cases found
 ·simp [hw]
 ·cases hf rfl
 ·simp
 ·simp [hw]
theorem law_true (g:Gm):zfX g=some true:=by
 obtain ⟨e,c1,c2,hok⟩:=znW (g:=g);unfold zfX zjJ;rw [show (g.1,(g.2.1,(g.2.2.1,())))=g from rfl,c1,c2];by_cases he:e=0
 ·subst he;have hg:=hok rfl;have g0:=hg.a0;have g1:=hg.a1;have gk:mkOK g.1 g.1 8:=by unfold mkOK;omega
  obtain ⟨best,any,found,e1,e2,e3,e4⟩:=zo3 (zrg hg) hg;have e1:zaY g g.1 0 [List.replicate (g.1).toNat 0] [1]=_:=e1;have hin:(if decide (¬ (0:Int)=0)=true then (some ([],false,0):Option (List Int×Bool×Int)) else
    both [(.list (.int .i64)),.bool,(.int .i64)] (G (mkOK g.1 g.1 8) (both [(.list (.int .i64)),.bool,(.int .i64)] ((zaY g g.1 0 [List.replicate (g.1).toNat 0] [1]).bind fun y=>some (y.1,y.2.1,y.2.2)) ((zaY g g.1 0 [List.replicate (g.1).toNat 0] [1]).bind fun y=>some (y.1,y.2.1,y.2.2))))
     (G (mkOK g.1 g.1 8) ((zaY g g.1 0 [List.replicate (g.1).toNat 0] [1]).bind fun y=>some (y.1,y.2.1,y.2.2))))=some (if (any && !found)=true then ([],false,7) else (best,found,0)):=by
   rw [if_neg (by simp)]
   have fin:((zaY g g.1 0 [List.replicate (g.1).toNat 0] [1]).bind fun y=>some (y.1,y.2.1,y.2.2))=some (if (any && !found)=true then ([],false,7) else (best,found,0)):=za2 e1 rfl
   exact zcs (G_to gk (zcs fin fin)) (G_to gk fin)
  refine za2 hin ?_
  simp only [Option.bind_some];have J:∀ y:List Int×Bool×Int,y=(if (any && !found)=true then ([],false,7) else (best,found,0))->zaq g y.1 y.2.1 y.2.2 g.1 0 [List.replicate (g.1).toNat 0] [1]=some true:=by
   intro y hy;unfold zaq;rw [show (g.1,(g.2.1,(g.2.2.1,())))=g from rfl];refine za2 e2 ?_
   have:=zqB e3 e4;subst hy
   cases any<;>cases found<;>exact this
  have J:=J _ rfl;rw [if_pos (by simp)]
  repeat' first
   | exact J
   | refine zcs ?_ ?_
   | refine G_to gk ?_
 ·rw [Option.bind_some,if_pos (by simpa using he)]
  simp only [Option.bind_some];rw [if_neg (by simpa using he)]
  simp
end Go.Proofs.Ytfkonehmieejdaa.gramSomeW
