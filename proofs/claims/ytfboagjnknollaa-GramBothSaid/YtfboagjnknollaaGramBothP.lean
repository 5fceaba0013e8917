/- The law 'GramBoth' of the plain functions. -/
import Derived.Test.YtfboagjnknollaaGramBothD
set_option maxHeartbeats 1000000
set_option maxRecDepth 20000
set_option linter.unusedSimpArgs false
set_option linter.unusedVariables false
set_option linter.unusedSectionVars false
namespace Go.Proofs.Ytfboagjnknollaa.gramBothW
open Go Go.Ab
def zc1 (o:Option Bool) (P:Prop):Prop:=∃ b,o=some b/\(b=true↔P)
theorem zc1.of {b:Bool} {P:Prop} (h:b=true↔P):zc1 (some b) P:=⟨b,rfl,h⟩
theorem zc1.dec {P Q:Prop} [Decidable P] (h:P↔Q):zc1 (some (decide P)) Q:=⟨_,rfl,by simpa using h⟩
theorem zc1.iff {o:Option Bool} {P Q:Prop} (h:zc1 o P) (k:P↔Q):zc1 o Q:=let ⟨b,h1,h2⟩:=h;⟨b,h1,h2.trans k⟩
theorem zc1.eq {o:Option Bool} {P:Prop} [Decidable P] (h:zc1 o P):o=some (decide P):=by
 obtain ⟨b,rfl,hb⟩:=h;by_cases hp:P
 ·simp [hp,hb.2 hp]
 ·have:b=false:=by cases b;rfl;exact absurd (hb.1 rfl) hp
  simp [hp,this]
theorem zc1.to {R:Type} {o:Option Bool} {P:Prop} {k1 k2 x:Option R} (h:zc1 o P) (h1:P->k1=x) (h2 : ¬ P->k2=x):(o.bind fun y=>if y=true then k1 else k2)=x:=by
 obtain ⟨b,rfl,hb⟩:=h;refine zbi rfl ?_
 cases b
 ·exact h2 fun hp=>by simpa using hb.2 hp
 ·exact h1 (hb.1 rfl)
theorem zc1.bind {R:Type} {o:Option Bool} {P:Prop} {k:Bool->Option R} {x:Option R} (h:zc1 o P) (h1:∀ b,(b=true↔P)->k b=x):o.bind k=x:=by
 obtain ⟨b,rfl,hb⟩:=h;exact h1 b hb
section
variable {α C:Type} [Inhabited α]
theorem zkP {l:List α} {P:α->Prop}:(∃ x∈l,P x)↔∃ i:Int,0<=i/\i < l.length/\P (ix l i):=by
 constructor
 ·rintro ⟨x,hx,hp⟩;obtain ⟨i,hi,rfl⟩:=List.mem_iff_getElem.1 hx;refine ⟨i,by omega,by omega,?_⟩
  rwa [zod (by omega) (by omega)]
 ·rintro ⟨i,h0,h1,hp⟩;exact ⟨_,zjm h0 h1,hp⟩
theorem zqd {s:List α} {f:α->Option Bool} {L:Int->Option Int} {P:α->Prop} (hs:s.length<=4611686018427387904)
  (hL:∀ t,L t=if decide (t < (s.length:Int))=true then G (0<=t/\t < (s.length:Int)) ((f (ix s t)).bind fun y=>if y=true then some t else G (fits (t+1)) (L (t+1))) else some (-1))
  (hf:∀ x∈s,zc1 (f x) (P x)):∀ (n:Nat) (t:Int),0<=t->t<=s.length->(s.length - t).toNat=n->
   ∃ i,L t=some i/\((i = -1/\∀ j:Int,t<=j->j < s.length -> ¬ P (ix s j))\/(t<=i/\i < s.length/\P (ix s i)/\∀ j:Int,t<=j->j < i -> ¬ P (ix s j))):=by
 intro n
 induction n with
 | zero=>
  intro t h0 h1 hn;refine ⟨-1,?_,.inl ⟨rfl,fun j a b=>by omega⟩⟩
  rw [hL,if_neg (by simp;omega)]
 | succ n ih=>
  intro t h0 h1 hn;rw [hL,if_pos (by simp;omega),zbr (by omega)]
  obtain ⟨b,hb,hbp⟩:=hf _ (zjm h0 (by omega:t < s.length))
  rw [hb]
  cases b with
  | true=>exact ⟨t,rfl,.inr ⟨by omega,by omega,hbp.1 rfl,fun j a b=>by omega⟩⟩
  | false=>
   have hnp : ¬ P (ix s t):=fun hp=>by simpa using hbp.2 hp
   obtain ⟨i,hi,hc⟩:=ih (t+1) (by omega) (by omega) (by omega)
   refine ⟨i,?_,?_⟩
   ·refine (if_neg (by simp):(if false=true then some t else G (fits (t+1)) (L (t+1)))=_).trans ?_
    rw [zbr (by unfold fits;omega),hi]
   ·rcases hc with ⟨h2,h3⟩ | ⟨h2,h3,h4,h5⟩
    ·refine .inl ⟨h2,fun j a b => ?_⟩
     by_cases e:j=t
     ·rw [e];exact hnp
     ·exact h3 j (by omega) b
    ·refine .inr ⟨by omega,h3,h4,fun j a b => ?_⟩
     by_cases e:j=t
     ·rw [e];exact hnp
     ·exact h5 j (by omega) b
theorem zdK {s:List α} {f:α->Option Bool} {L:Int->Option Int} {P:α->Prop}
  (hL:∀ t,L t=if decide (t < (s.length:Int))=true then G (0<=t/\t < (s.length:Int)) ((f (ix s t)).bind fun y=>if y=true then some t else G (fits (t+1)) (L (t+1))) else some (-1))
  (hs:s.length<=4611686018427387904) (hf:∀ x∈s,zc1 (f x) (P x)):zc1 ((L 0).bind fun y=>some (decide ((0:Int)<=y))) (∃ x∈s,P x):=by
 obtain ⟨i,hi,hc⟩:=zqd hs hL hf _ 0 (by omega) (by omega) rfl
 rw [hi];refine ⟨decide (0<=i),rfl,?_⟩
 rw [decide_eq_true_iff,zkP];rcases hc with ⟨h2,h3⟩ | ⟨h2,h3,h4,h5⟩
 ·constructor
  ·intro h;omega
  ·rintro ⟨j,h0,h1,hp⟩;exact absurd hp (h3 j h0 h1)
 ·exact ⟨fun _=>⟨i,by omega,h3,h4⟩,fun _=>by omega⟩
theorem zlq {s:List α} {c:C} {f:α->C->Option (Bool×C)} {L:Int->C->Option (Int×C)} {P:α->Prop}
  (hL:∀ t c,L t c=if decide (t < (s.length:Int))=true then G (0<=t/\t < (s.length:Int)) ((f (ix s t) c).bind fun y=>if y.1=true then some (t,y.2) else G (fits (t+1)) (L (t+1) y.2)) else some (-1,c))
  (hs:s.length<=4611686018427387904) (hf:∀ x∈s,∃ b,f x c=some (b,c)/\(b=true↔P x)):∃ b,((L 0 c).bind fun y=>some (decide ((0:Int)<=y.1),y.2))=some (b,c)/\(b=true↔∃ x∈s,P x):=by
 have key:∀ (n:Nat) (t:Int),0<=t->t<=s.length->(s.length - t).toNat=n->
   ∃ i,L t c=some (i,c)/\((i = -1/\∀ j:Int,t<=j->j < s.length -> ¬ P (ix s j))\/(t<=i/\i < s.length/\P (ix s i))):=by
  intro n
  induction n with
  | zero=>
   intro t h0 h1 hn;refine ⟨-1,?_,.inl ⟨rfl,fun j a b=>by omega⟩⟩
   rw [hL,if_neg (by simp;omega)]
  | succ n ih=>
   intro t h0 h1 hn;rw [hL,if_pos (by simp;omega),zbr (by omega)]
   obtain ⟨b,hb,hbp⟩:=hf _ (zjm h0 (by omega:t < s.length))
   rw [hb]
   cases b with
   | true=>exact ⟨t,rfl,.inr ⟨by omega,by omega,hbp.1 rfl⟩⟩
   | false=>
    have hnp : ¬ P (ix s t):=fun hp=>by simpa using hbp.2 hp
    obtain ⟨i,hi,hc⟩:=ih (t+1) (by omega) (by omega) (by omega)
    refine ⟨i,?_,?_⟩
    ·refine (if_neg (by simp):(if false=true then some (t,c) else G (fits (t+1)) (L (t+1) c))=_).trans ?_
     rw [zbr (by unfold fits;omega),hi]
    ·rcases hc with ⟨h2,h3⟩ | ⟨h2,h3,h4⟩
     ·refine .inl ⟨h2,fun j a b => ?_⟩
      by_cases e:j=t
      ·rw [e];exact hnp
      ·exact h3 j (by omega) b
     ·exact .inr ⟨by omega,h3,h4⟩
 obtain ⟨i,hi,hc⟩:=key _ 0 (by omega) (by omega) rfl
 rw [hi];refine ⟨decide (0<=i),rfl,?_⟩
 rw [decide_eq_true_iff,zkP];rcases hc with ⟨h2,h3⟩ | ⟨h2,h3,h4⟩
 ·constructor
  ·intro h;omega
  ·rintro ⟨j,h0,h1,hp⟩;exact absurd hp (h3 j h0 h1)
 ·exact ⟨fun _=>⟨i,by omega,h3,h4⟩,fun _=>by omega⟩
end
theorem zke {R:Type} {len:Int} {L:Int->Option R} {bad:Int->Prop} {x:Option R} {lo:Int} (h0:lo<=len)
  (hs:∀ t,lo<=t->t < len->(bad t->L t=x)/\(¬ bad t->L t=L (t+1))) (hf:(∀ t,lo<=t->t < len -> ¬ bad t)->L len=x):L lo=x:=by
 have key:∀ (n:Nat) (t:Int),lo<=t->t<=len->(len - t).toNat=n->(∀ j,lo<=j->j < t -> ¬ bad j)->L t=x:=by
  intro n
  induction n with
  | zero=>
   intro t h1 h2 hn h;obtain rfl:t=len:=by omega
   exact hf h
  | succ n ih=>
   intro t h1 h2 hn h;by_cases hb:bad t
   ·exact (hs t h1 (by omega)).1 hb
   ·rw [(hs t h1 (by omega)).2 hb]
    refine ih (t+1) (by omega) (by omega) (by omega) fun j a b => ?_
    by_cases e:j=t
    ·rw [e];exact hb
    ·exact h j a (by omega)
 exact key _ lo (Int.le_refl _) h0 rfl (fun j a b=>by omega)
theorem fold_to {R S:Type} {len:Int} {L:Int->S->Option R} {f:Int->S->S} {lo:Int} {I:Int->S->Prop} {s:S} (h0:lo<=len) (hI:I lo s)
  (hs:∀ t s,lo<=t->t < len->I t s->L t s=L (t+1) (f t s)/\I (t+1) (f t s)):∃ s',I len s'/\L lo s=L len s':=by
 have key:∀ (n:Nat) (t:Int) (s:S),lo<=t->t<=len->(len - t).toNat=n->I t s->∃ s',I len s'/\L t s=L len s':=by
  intro n
  induction n with
  | zero=>
   intro t s h1 h2 hn h;obtain rfl:t=len:=by omega
   exact ⟨s,h,rfl⟩
  | succ n ih=>
   intro t s h1 h2 hn h;obtain ⟨e,h3⟩:=hs t s h1 (by omega) h
   obtain ⟨s',h4,h5⟩:=ih (t+1) _ (by omega) (by omega) (by omega) h3
   exact ⟨s',h4,e.trans h5⟩
 exact key _ lo s (Int.le_refl _) h0 rfl hI
theorem zbJ {α:Type}:∀ {ks:List α} {x:α},za7 ks x=none↔x∉ks
 | [],x=>by simp [za7]
 | y::ys,x=>by
  unfold za7;by_cases h:y=x
  ·rw [if_pos h];simp [h]
  ·rw [if_neg h,Option.map_eq_none_iff,zbJ];simp [Ne.symm h]
abbrev ones {α:Type} (ks:List α):List Int:=List.replicate ks.length 1
theorem zt5 {α:Type} {ks:List α} {x:α}:(mget ks (ones ks) x 0=0)↔x∉ks:=by
 unfold mget
 cases h:za7 ks x with
 | none=>simp [zbJ.1 h]
 | some j=>
  have hx:x∈ks:=by
   refine Classical.byContradiction fun hn => ?_
   rw [zbJ.2 hn] at h;cases h
  have:=zes h;simp [hx,this]
theorem zt6 {α:Type} {ks:List α} {x:α} (h:x∉ks):zb9 ks x=ks++[x]:=by
 unfold zb9;rw [zbJ.2 h]
theorem zt7 {α:Type} {ks:List α} {x:α} (h:x∉ks):zmo ks (ones ks) x 1=ones (ks++[x]):=by
 unfold zmo;rw [zbJ.2 h];show List.replicate ks.length 1++[1]=List.replicate (ks++[x]).length 1;rw [List.length_append,List.length_singleton,List.replicate_succ']
theorem zrA {α:Type} [DecidableEq α]:∀ {l U:List α},l.Nodup->(∀ x∈l,x∈U)->l.length<=U.length
 | [],_,_,_=>Nat.zero_le _
 | a::l,U,hn,hs=>by
  have ha:=hs a (by simp)
  obtain ⟨h1,h2⟩:=List.nodup_cons.1 hn;have:=zrA (U:=U.erase a) h2 (fun x hx=>(List.mem_erase_of_ne (by rintro rfl;exact h1 hx)).2 (hs x (by simp [hx])))
  rw [List.length_erase_of_mem ha] at this;have hp:0 < U.length:=List.length_pos_of_mem ha;rw [List.length_cons];omega
theorem ztK {l:List Int} {n:Nat} (h:l.Nodup) (hb:∀ x∈l,0<=x/\x < n):l.length<=n:=by
 have:=zrA (U:=(List.range n).map Int.ofNat) h (fun x hx=>by
  have:=hb x hx;exact List.mem_map.2 ⟨x.toNat,List.mem_range.2 (by omega),by show ((x.toNat:Nat):Int)=x;omega⟩)
 simpa using this
theorem zt3 {α:Type} {ks:List α} {x:α} (h:x∈ks):∃ j,za7 ks x=some j:=by
 cases e:za7 ks x with
 | none=>exact absurd h (zbJ.1 e)
 | some j=>exact ⟨j,rfl⟩
theorem zjs {α:Type} (ks:List α) (x:α):za7 (x::ks) x=some 0:=by unfold za7;rw [if_pos rfl]
theorem zjt {α:Type} {ks:List α} {x y:α} (h:y≠x):za7 (y::ks) x=(za7 ks x).map (·+1):=by
 rw [za7,if_neg h]
theorem zoi {α:Type}:∀ {ks:List α} {x:α} {j:Nat} (l:List α),za7 ks x=some j->za7 (ks++l) x=some j
 | [],_,_,_,h=>by cases h
 | y::ks,x,j,l,h=>by
  rw [List.cons_append];by_cases e:y=x
  ·subst e;rw [zjs] at h ⊢;exact h
  ·rw [zjt e] at h ⊢
   cases hm:za7 ks x with
   | none=>rw [hm] at h;cases h
   | some i=>rw [hm] at h;rw [zoi l hm];exact h
theorem zoj {α:Type}:∀ {ks:List α} {x:α},x∉ks->za7 (ks++[x]) x=some ks.length
 | [],x,_=>zjs _ _
 | y::ks,x,h=>by
  have hy:y≠x:=by rintro rfl;exact h (by simp)
  rw [List.cons_append,zjt hy,zoj (fun hh=>h (by simp [hh]))];rfl
theorem zpL {α:Type}:∀ {ks:List α} {x:α} {k:Nat},ks[k]? =some x->(∀ j,j < k->ks[j]? ≠some x)->za7 ks x=some k
 | [],_,_,h,_=>by simp at h
 | y::ks,x,k,h,hf=>by
  cases k with
  | zero=>
   have:y=x:=by simpa using h
   subst this;exact zjs _ _
  | succ k=>
   have hy:y≠x:=by have:=hf 0 (by omega);simpa using this
   rw [zjt hy,zpL (k:=k) (by simpa using h) (fun j hj=>by have:=hf (j+1) (by omega);simpa using this)];rfl
theorem zrq {α:Type} {ks:List α} {x y:α} {j:Nat} (h:za7 ks x=some j) (k:za7 ks y=some j):x=y:=by
 have:=zeK h;rw [zeK k] at this;injection this with this;exact this.symm
theorem zs9 {α:Type} {ks:List α} (hn:ks.Nodup) {j:Nat} (hj:j < ks.length):za7 ks ks[j]=some j:=
 zpL (by simp) fun i hi e=>by
  have hi':i < ks.length:=by omega
  rw [List.getElem?_eq_getElem hi'] at e;exact List.pairwise_iff_getElem.1 hn i j hi' hj hi (Option.some.inj e)
theorem zrr {α β:Type} (f:α->β):∀ {ks:List α} {x:α},(∀ y∈ks,f y=f x->y=x)->za7 (ks.map f) (f x)=za7 ks x
 | [],_,_=>rfl
 | y::ks,x,h=>by
  have ih:=zrr f (ks:=ks) (x:=x) (fun z hz=>h z (by simp [hz]))
  rw [List.map_cons];by_cases e:y=x
  ·subst e;rw [zjs,zjs]
  ·rw [zjt e,zjt (fun hh=>e (h y (by simp) hh)),ih]
def iota (n:Nat):List Int:=(List.range n).map fun j:Nat=>(j:Int)
theorem iota_len (n:Nat):(iota n).length=n:=by simp [iota]
theorem zrf (n:Nat):iota (n+1)=iota n++[(n:Int)]:=by simp [iota,List.range_succ]
theorem zt4 {α:Type} {ks:List α} {x:α} {j:Nat} (h:za7 ks x=some j):mget ks (iota ks.length) x 0=j:=by
 have:=zes h;unfold mget;rw [h];simp [iota,this]
theorem zpM {α:Type} {ks:List α} {x:α}:mhas ks x=true↔x∈ks:=by
 unfold mhas
 cases e:za7 ks x with
 | none=>simp [zbJ.1 e]
 | some j=>
  have:=zeK e;simp [List.mem_of_getElem? this]
theorem ztJ {α:Type} {ks:List α} {x:α} (h:x∉ks):zmo ks (iota ks.length) x ks.length=iota (ks++[x]).length:=by
 unfold zmo;rw [zbJ.2 h,List.length_append,List.length_singleton,zrf]
theorem zoO {α:Type} [DecidableEq α]:∀ {l U:List α},U.Nodup->(∀ x∈U,x∈l)->l.length<=U.length->l.Nodup
 | [],_,_,_,_=>List.nodup_nil
 | a::l,U,hU,hs,hl=>by
  have ha:a∉l:=fun ha=>by
   have:=zrA (l:=U) (U:=l) hU (fun x hx=>by
    rcases List.mem_cons.1 (hs x hx) with rfl | h
    ·exact ha
    ·exact h)
   rw [List.length_cons] at hl;omega
  refine List.nodup_cons.2 ⟨ha,?_⟩
  refine zoO (U:=U.erase a) (hU.erase a) (fun x hx => ?_) ?_
  ·have hne:x≠a:=((List.Nodup.mem_erase_iff hU).1 hx).1;rcases List.mem_cons.1 (hs x (List.mem_of_mem_erase hx)) with h | h
   ·exact absurd h hne
   ·exact h
  ·have:U.length - 1<=(U.erase a).length:=by
    by_cases h:a∈U
    ·rw [List.length_erase_of_mem h];omega
    ·rw [List.erase_of_not_mem h];omega
   rw [List.length_cons] at hl;omega
theorem zkX {a b:List Int} (hl:a.length=b.length):∀ (n:Nat) (i:Int),0<=i->i<=a.length->(a.length - i).toNat=n->a.length<=2305843009213693951->(∀ j:Int,0<=j->j < i->ix a j=ix b j)->zgt a b i=some (decide (a=b)):=by
 intro n
 induction n with
 | zero=>
  intro i h0 h1 hn hs h;rw [ziu];unfold zbW
  (try dsimp only);(repeat' first | (with_reducible refine G_to ?_ ?_;focus (first | omega | (unfold fits;omega) | (unfold room;(try simp only [List.length_append,List.length_cons,List.length_nil]);omega))) | (with_reducible refine zaM ?_ ?_) | (with_reducible refine zan ?_) | (with_reducible refine zau ?_) | (with_reducible refine zbm (fun _ => ?_) (fun _ => ?_)))<;>try (exfalso;omega)
  ·rw [Option.some_inj,eq_comm,decide_eq_true_iff];exact ztZ hl (fun j a b=>h j a (by omega))
 | succ n ih=>
  intro i h0 h1 hn hs h;rw [ziu];unfold zbW
  (try dsimp only);(repeat' first | (with_reducible refine G_to ?_ ?_;focus (first | omega | (unfold fits;omega) | (unfold room;(try simp only [List.length_append,List.length_cons,List.length_nil]);omega))) | (with_reducible refine zaM ?_ ?_) | (with_reducible refine zan ?_) | (with_reducible refine zau ?_) | (with_reducible refine zbm (fun _ => ?_) (fun _ => ?_)))<;>try (exfalso;omega)
  ·rw [Option.some_inj,eq_comm,decide_eq_false_iff_not];rintro rfl;contradiction
  ·rename_i hx;exact ih _ (by omega) (by omega) (by omega) hs (zpW h (Decidable.not_not.1 hx))
theorem znB {a b:List Int} (hs:a.length<=2305843009213693951):zh1 a b=some (decide (a=b)):=by
 unfold zh1
 (try dsimp only);(repeat' first | (with_reducible refine G_to ?_ ?_;focus (first | omega | (unfold fits;omega) | (unfold room;(try simp only [List.length_append,List.length_cons,List.length_nil]);omega))) | (with_reducible refine zaM ?_ ?_) | (with_reducible refine zan ?_) | (with_reducible refine zau ?_) | (with_reducible refine zbm (fun _ => ?_) (fun _ => ?_)))<;>try (exfalso;omega)
 ·rw [Option.some_inj,eq_comm,decide_eq_false_iff_not];rintro rfl;contradiction
 ·exact zkX (by omega) _ 0 (by omega) (by omega) rfl hs (fun j a b=>by omega)
theorem zf0 {s:List Int} (hs:s.length * 8<=140737488355328):zbh s=some s:=by
 have hr:G (room ([]:List Int) s 8) (some (([]:List Int)++s))=some s:=by
  rw [zbr (ztk (by simpa using hs))];rfl
 unfold zbh;refine zs4 (fun h => ?_) (fun h=>hr)
 obtain rfl:s=[]:=List.length_eq_zero_iff.1 h;rw [hr];exact zlj (ts:=[(.list (.int .i64))]) (some ([]:List Int))
theorem zk0 {n:Int} (h0:0<=n) (h:n * 8<=140737488355328):zgx n=some []:=by
 unfold zgx
 (try dsimp only);(repeat' first | (with_reducible refine G_to ?_ ?_;focus (first | omega | (unfold fits;omega) | (unfold room;(try simp only [List.length_append,List.length_cons,List.length_nil]);omega))) | (with_reducible refine zaM ?_ ?_) | (with_reducible refine zan ?_) | (with_reducible refine zau ?_) | (with_reducible refine zbm (fun _ => ?_) (fun _ => ?_)))<;>try (exfalso;omega)
 all_goals first | rfl | (rw [show ((0:Int)).toNat=0 from rfl,List.take_zero])
theorem zjP {ls:List (List Int)} (h:ls.length<=1000) (hl:(ls.flatten.length:Int) * 8<=140737488355328):zet ls=some ls.flatten:=by
 have sum:∀ (k:Nat),((ls.take k).flatten.length:Int)<=ls.flatten.length:=by
  intro k;have:ls.flatten=(ls.take k).flatten++(ls.drop k).flatten:=by rw [<- List.flatten_append,List.take_append_drop]
  rw [this,List.length_append];omega
 have tk:∀ t:Int,0<=t->t < ls.length->(ls.take (t+1).toNat).flatten=(ls.take t.toNat).flatten++ix ls t:=fun t h0 h1=>by
  rw [zs6 h0 h1,List.flatten_append];simp
 unfold zet;have k2:∀ (n:Nat) (t:Int),(ls.length - t).toNat=n->0<=t->t<=ls.length->zcn ls t (ls.take t.toNat).flatten=some ls.flatten:=by
  intro n
  induction n with
  | zero=>
   intro t hn h0 h1;rw [zel];unfold zaS;rw [List.take_of_length_le (by omega),if_neg (by simp only [decide_eq_true_eq];omega)]
  | succ n ih=>
   intro t hn h0 h1;have e:=tk t h0 (by omega)
   have s:=sum (t+1).toNat;rw [e,List.length_append] at s;rw [zel];unfold zaS
   (try dsimp only);(repeat' first | (with_reducible refine G_to ?_ ?_;focus (first | omega | (unfold fits;omega) | (unfold room;(try simp only [List.length_append,List.length_cons,List.length_nil]);omega))) | (with_reducible refine zaM ?_ ?_) | (with_reducible refine zan ?_) | (with_reducible refine zau ?_) | (with_reducible refine zbm (fun _ => ?_) (fun _ => ?_)))<;>try (exfalso;omega)
   rw [<- e];exact ih (t+1) (by omega) (by omega) (by omega)
 have k1:∀ (n:Nat) (t:Int),(ls.length - t).toNat=n->0<=t->t<=ls.length->zcH ls ((ls.take t.toNat).flatten.length:Int) t=some ls.flatten:=by
  intro n
  induction n with
  | zero=>
   intro t hn h0 h1;rw [ze5];unfold zaY;rw [List.take_of_length_le (by omega),if_neg (by simp only [decide_eq_true_eq];omega)]
   refine zbi (zk0 (by omega) hl) ?_
   have:=k2 _ 0 rfl (by omega) (by omega)
   simpa using this
  | succ n ih=>
   intro t hn h0 h1;have e:=tk t h0 (by omega)
   have s:=sum (t+1).toNat;have ih':=ih (t+1) (by omega) (by omega) (by omega)
   rw [e,List.length_append] at s ih';rw [ze5];unfold zaY
   (try dsimp only);(repeat' first | (with_reducible refine G_to ?_ ?_;focus (first | omega | (unfold fits;omega) | (unfold room;(try simp only [List.length_append,List.length_cons,List.length_nil]);omega))) | (with_reducible refine zaM ?_ ?_) | (with_reducible refine zan ?_) | (with_reducible refine zau ?_) | (with_reducible refine zbm (fun _ => ?_) (fun _ => ?_)))<;>try (exfalso;omega)
   rw [<- ih'];congr 1
 have:=k1 _ 0 rfl (by omega) (by omega)
 simpa using this
def stp (N:List (List Int)) (q a:Int):Int:=ix (ix N q) a
def wlk (N:List (List Int)) (q:Int) (w:List Int):Int:=w.foldl (stp N) q
def trc (N:List (List Int)):Int->List Int->List Int
 | _,[]=>[]
 | q,a::w=>stp N q a::trc N (stp N q a) w
structure Tab (L:Int) (N:List (List Int)):Prop where
 row:∀ r∈N,(r.length:Int)=L
 to:∀ r∈N,∀ q∈r,0<=q/\q < N.length
theorem Tab.stpb {L:Int} {N:List (List Int)} (h:Tab L N) {q a:Int} (q0:0<=q) (q1:q < N.length) (a0:0<=a) (a1:a < L):0<=stp N q a/\stp N q a < N.length:=by
 have h1:=zjm q0 q1;have h2:=h.row _ h1;exact h.to _ h1 _ (zjm a0 (by omega))
theorem Tab.rowlen {L:Int} {N:List (List Int)} (h:Tab L N) {q:Int} (q0:0<=q) (q1:q < N.length):((ix N q).length:Int)=L:=h.row _ (zjm q0 q1)
theorem Tab.wlkb {L:Int} {N:List (List Int)} (h:Tab L N):∀ {w:List Int} {q:Int},0<=q->q < N.length->(∀ a∈w,0<=a/\a < L)->0<=wlk N q w/\wlk N q w < N.length
 | [],q,q0,q1,_=>⟨q0,q1⟩
 | a::w,q,q0,q1,hw=>by
  have:=h.stpb q0 q1 (hw a (by simp)).1 (hw a (by simp)).2
  exact Tab.wlkb h (q:=stp N q a) (w:=w) this.1 this.2 (fun b hb=>hw b (by simp [hb]))
theorem Tab.trcb {L:Int} {N:List (List Int)} (h:Tab L N):∀ {w:List Int} {q:Int},0<=q->q < N.length->(∀ a∈w,0<=a/\a < L)->∀ p∈trc N q w,0<=p/\p < N.length
 | [],q,q0,q1,_,p,hp=>by cases hp
 | a::w,q,q0,q1,hw,p,hp=>by
  have:=h.stpb q0 q1 (hw a (by simp)).1 (hw a (by simp)).2
  rcases List.mem_cons.1 hp with rfl | hp
  ·exact this
  ·exact Tab.trcb h this.1 this.2 (fun b hb=>hw b (by simp [hb])) p hp
abbrev badD (m:Int):Prop := ¬ m=0 /\ ¬ m=1
abbrev Dt:=Int×Int×(List (List Int))×(List Int)×Unit
def DBig (mx:Int) (d:Dt):Prop:=d.2.2.1.length < 1\/mx < d.2.2.1.length
def DRag (d:Dt):Prop := ¬ (d.2.2.2.1.length:Int)=d.2.2.1.length\/∃ r∈d.2.2.1,¬ (r.length:Int)=d.1
def DOut (mb:Int->Prop) (d:Dt):Prop:=(d.2.1 < 0\/(d.2.2.1.length:Int)<=d.2.1)\/(∃ r∈d.2.2.1,∃ q∈r,q < 0\/(d.2.2.1.length:Int)<=q)\/(∃ s∈d.2.2.2.1,mb s)
open Classical in
noncomputable def detE (mx:Int) (mb:Int->Prop) (d:Dt):Int:=if d.1 < 1\/4 < d.1 then 2 else if DBig mx d then 1 else if DRag d then 3 else if DOut mb d then 2 else 0
structure DOk (mx:Int) (mb:Int->Prop) (d:Dt):Prop where
 let1:1<=d.1/\d.1<=4
 n1:1<=d.2.2.1.length/\(d.2.2.1.length:Int)<=mx
 st:0<=d.2.1/\d.2.1 < d.2.2.1.length
 mkl:(d.2.2.2.1.length:Int)=d.2.2.1.length
 mok:∀ s∈d.2.2.2.1,¬ mb s
 tab:Tab d.1 d.2.2.1
theorem zqN {mx:Int} {mb:Int->Prop} {d:Dt} (h:detE mx mb d=0):DOk mx mb d:=by
 unfold detE at h;by_cases c1:d.1 < 1\/4 < d.1
 ·rw [if_pos c1] at h;omega
 rw [if_neg c1] at h;by_cases c2:DBig mx d
 ·rw [if_pos c2] at h;omega
 rw [if_neg c2] at h;by_cases c3:DRag d
 ·rw [if_pos c3] at h;omega
 rw [if_neg c3] at h;by_cases c4:DOut mb d
 ·rw [if_pos c4] at h;omega
 unfold DBig at c2;unfold DRag at c3;unfold DOut at c4;refine ⟨by omega,by omega,?_,?_,fun s hs hm=>c4 (.inr (.inr ⟨s,hs,hm⟩)),fun r hr => ?_,fun r hr q hq => ?_⟩
 ·have : ¬ (d.2.1 < 0\/(d.2.2.1.length:Int)<=d.2.1):=fun h=>c4 (.inl h)
  omega
 ·exact Decidable.not_not.1 fun h=>c3 (.inl h)
 ·by_cases e:(r.length:Int)=d.1
  ·exact e
  ·exact absurd (.inr ⟨r,hr,e⟩) c3
 ·have : ¬ (q < 0\/(d.2.2.1.length:Int)<=q):=fun h=>c4 (.inr (.inl ⟨r,hr,q,hq,h⟩))
  omega
theorem detE_of {mx:Int} {mb:Int->Prop} {d:Dt} (h:DOk mx mb d):detE mx mb d=0:=by
 have h1:=h.let1;have h2:=h.n1;have h3:=h.st;have h4:=h.mkl;unfold detE;rw [if_neg (by omega),if_neg (by unfold DBig;omega),if_neg,if_neg]
 ·rintro (hh | ⟨r,hr,q,hq,hh⟩ | ⟨s,hs,hh⟩)
  ·omega
  ·have:=h.tab.to r hr q hq;omega
  ·exact h.mok s hs hh
 ·rintro (hh | ⟨r,hr,hh⟩)
  ·exact hh h4
  ·exact hh (h.tab.row r hr)
theorem ztR (m:Int):zc1 (zeC m) (badD m):=by
 unfold zeC;by_cases h:m=0
 ·rw [if_neg (by simpa using h)];exact zc1.of (by simp [h])
 ·rw [if_pos (by simpa using h)];exact zc1.dec (by simp [h])
theorem zmi {d:Dt}:zgZ d=some (detE 3000 badD d):=by
 unfold zgZ detE;by_cases c1:d.1 < 1\/4 < d.1
 ·rw [if_pos c1]
  (try dsimp only);(repeat' first | (with_reducible refine G_to ?_ ?_;focus (first | omega | (unfold fits;omega) | (unfold room;(try simp only [List.length_append,List.length_cons,List.length_nil]);omega))) | (with_reducible refine zaM ?_ ?_) | (with_reducible refine zan ?_) | (with_reducible refine zau ?_) | (with_reducible refine zbm (fun _ => ?_) (fun _ => ?_)))<;>try (exfalso;omega)
  all_goals rfl
 rw [if_neg c1];by_cases c2:DBig 3000 d
 ·rw [if_pos c2];unfold DBig at c2
  (try dsimp only);(repeat' first | (with_reducible refine G_to ?_ ?_;focus (first | omega | (unfold fits;omega) | (unfold room;(try simp only [List.length_append,List.length_cons,List.length_nil]);omega))) | (with_reducible refine zaM ?_ ?_) | (with_reducible refine zan ?_) | (with_reducible refine zau ?_) | (with_reducible refine zbm (fun _ => ?_) (fun _ => ?_)))<;>try (exfalso;omega)
  all_goals rfl
 rw [if_neg c2];unfold DBig at c2;by_cases c3:(d.2.2.2.1.length:Int)=d.2.2.1.length
 case neg=>
  rw [if_pos (show DRag d from .inl c3)]
  (try dsimp only);(repeat' first | (with_reducible refine G_to ?_ ?_;focus (first | omega | (unfold fits;omega) | (unfold room;(try simp only [List.length_append,List.length_cons,List.length_nil]);omega))) | (with_reducible refine zaM ?_ ?_) | (with_reducible refine zan ?_) | (with_reducible refine zau ?_) | (with_reducible refine zbm (fun _ => ?_) (fun _ => ?_)))<;>try (exfalso;omega)
  all_goals rfl
 (try dsimp only);(repeat' first | (with_reducible refine G_to ?_ ?_;focus (first | omega | (unfold fits;omega) | (unfold room;(try simp only [List.length_append,List.length_cons,List.length_nil]);omega))) | (with_reducible refine zaM ?_ ?_) | (with_reducible refine zan ?_) | (with_reducible refine zau ?_) | (with_reducible refine zbm (fun _ => ?_) (fun _ => ?_)))<;>try (exfalso;omega)
 have k1:zc1 (zcc d.2.2.1 d) (∃ r∈d.2.2.1,¬ (r.length:Int)=d.1):=zdK (f:=fun r=>ziH r d) (zf9 d.2.2.1 d) (by omega) (fun x _=>zc1.dec Iff.rfl)
 have nn:∀ q t:Int,zc1 (zdE q t) (q < 0\/t<=q):=fun q t=>by
  unfold zdE;by_cases h:q < 0
  ·rw [if_pos (decide_eq_true h)];exact zc1.of (by simp [h])
  ·rw [if_neg (by simpa using h)];exact zc1.dec (by omega)
 have k2:∀ r∈d.2.2.1,r.length<=1000->zc1 (zce r (d.2.2.1.length:Int)) (∃ q∈r,q < 0\/(d.2.2.1.length:Int)<=q):=fun r _ hr=>zdK (f:=fun q=>zdE q (d.2.2.1.length:Int)) (zgd r (d.2.2.1.length:Int)) (by omega) (fun x _=>nn x _)
 have k4:zc1 (zcf d.2.2.2.1) (∃ s∈d.2.2.2.1,(badD) s):=zdK (f:=fun q=>zeC q) (zgf d.2.2.2.1) (by omega) (fun x _=>ztR x)
 refine k1.to (fun h=>by rw [if_pos (show DRag d from .inr h)]) (fun h => ?_)
 rw [if_neg (show ¬ DRag d from fun hh=>hh.elim (fun e=>e c3) h)]
 have hr:∀ r∈d.2.2.1,r.length<=1000:=fun r hr=>by
  by_cases e:(r.length:Int)=d.1
  ·omega
  ·exact absurd ⟨r,hr,e⟩ h
 refine (nn _ _).to (fun h=>by rw [if_pos (show DOut _ d from .inl h)]) (fun h1 => ?_)
 obtain ⟨b,hb,hb2⟩:∃ b,zcd d.2.2.1 (d.2.2.1.length:Int)=some (b,(d.2.2.1.length:Int))/\(b=true↔∃ r∈d.2.2.1,∃ q∈r,q < 0\/(d.2.2.1.length:Int)<=q):=
  zlq (f:=zgl) (zgb d.2.2.1) (by omega) (fun r hrm=>by
   obtain ⟨b,e,e2⟩:=k2 r hrm (hr r hrm);exact ⟨b,by unfold zgl;rw [e];rfl,e2⟩)
 rw [hb];refine zbi rfl ?_
 refine zs3 (fun h=>by rw [if_pos (show DOut _ d from .inr (.inl (hb2.1 h)))]) (fun h2 => ?_)
 refine k4.to (fun h=>by rw [if_pos (show DOut _ d from .inr (.inr h))]) (fun h3 => ?_)
 rw [if_neg (show ¬ DOut _ d from fun h=>h.elim h1 (fun h=>h.elim (fun h=>by rw [hb2.2 h] at h2;cases h2) h3))]
theorem znC {d:Dt}:zjM d=some (detE 3000 badD d):=by
 unfold zjM detE;by_cases c1:d.1 < 1\/4 < d.1
 ·rw [if_pos c1]
  (try dsimp only);(repeat' first | (with_reducible refine G_to ?_ ?_;focus (first | omega | (unfold fits;omega) | (unfold room;(try simp only [List.length_append,List.length_cons,List.length_nil]);omega))) | (with_reducible refine zaM ?_ ?_) | (with_reducible refine zan ?_) | (with_reducible refine zau ?_) | (with_reducible refine zbm (fun _ => ?_) (fun _ => ?_)))<;>try (exfalso;omega)
  all_goals rfl
 rw [if_neg c1];by_cases c2:DBig 3000 d
 ·rw [if_pos c2];unfold DBig at c2
  (try dsimp only);(repeat' first | (with_reducible refine G_to ?_ ?_;focus (first | omega | (unfold fits;omega) | (unfold room;(try simp only [List.length_append,List.length_cons,List.length_nil]);omega))) | (with_reducible refine zaM ?_ ?_) | (with_reducible refine zan ?_) | (with_reducible refine zau ?_) | (with_reducible refine zbm (fun _ => ?_) (fun _ => ?_)))<;>try (exfalso;omega)
  all_goals rfl
 rw [if_neg c2];unfold DBig at c2;by_cases c3:(d.2.2.2.1.length:Int)=d.2.2.1.length
 case neg=>
  rw [if_pos (show DRag d from .inl c3)]
  (try dsimp only);(repeat' first | (with_reducible refine G_to ?_ ?_;focus (first | omega | (unfold fits;omega) | (unfold room;(try simp only [List.length_append,List.length_cons,List.length_nil]);omega))) | (with_reducible refine zaM ?_ ?_) | (with_reducible refine zan ?_) | (with_reducible refine zau ?_) | (with_reducible refine zbm (fun _ => ?_) (fun _ => ?_)))<;>try (exfalso;omega)
  all_goals rfl
 (try dsimp only);(repeat' first | (with_reducible refine G_to ?_ ?_;focus (first | omega | (unfold fits;omega) | (unfold room;(try simp only [List.length_append,List.length_cons,List.length_nil]);omega))) | (with_reducible refine zaM ?_ ?_) | (with_reducible refine zan ?_) | (with_reducible refine zau ?_) | (with_reducible refine zbm (fun _ => ?_) (fun _ => ?_)))<;>try (exfalso;omega)
 refine zke (len:=(d.2.2.1.length:Int)) (bad:=fun t => ¬ ((ix d.2.2.1 t).length:Int)=d.1) (by omega) (fun t h0 h1=>⟨fun hb => ?_,fun hb => ?_⟩) (fun hh => ?_)
 ·rw [zfC];unfold zbv
  (try dsimp only);(repeat' first | (with_reducible refine G_to ?_ ?_;focus (first | omega | (unfold fits;omega) | (unfold room;(try simp only [List.length_append,List.length_cons,List.length_nil]);omega))) | (with_reducible refine zaM ?_ ?_) | (with_reducible refine zan ?_) | (with_reducible refine zau ?_) | (with_reducible refine zbm (fun _ => ?_) (fun _ => ?_)))<;>try (exfalso;omega)
  rw [if_pos (show DRag d from .inr (zkP.2 ⟨t,by omega,by omega,hb⟩))]
 ·conv=>lhs;rw [zfC];unfold zbv
  (try dsimp only);(repeat' first | (with_reducible refine G_to ?_ ?_;focus (first | omega | (unfold fits;omega) | (unfold room;(try simp only [List.length_append,List.length_cons,List.length_nil]);omega))) | (with_reducible refine zaM ?_ ?_) | (with_reducible refine zan ?_) | (with_reducible refine zau ?_) | (with_reducible refine zbm (fun _ => ?_) (fun _ => ?_)))<;>try (exfalso;omega)
  all_goals first | rfl | (exfalso;exact hb ‹_›) | (exfalso;exact absurd ‹_› hb)
 rw [if_neg (show ¬ DRag d from fun h=>h.elim (fun e=>e c3) (fun h=>by obtain ⟨i,i0,i1,i2⟩:=zkP.1 h;exact hh i i0 i1 i2))]
 rw [zfC];unfold zbv;by_cases c4:d.2.1 < 0\/(d.2.2.1.length:Int)<=d.2.1
 ·rw [if_pos (show DOut _ d from .inl c4)]
  (try dsimp only);(repeat' first | (with_reducible refine G_to ?_ ?_;focus (first | omega | (unfold fits;omega) | (unfold room;(try simp only [List.length_append,List.length_cons,List.length_nil]);omega))) | (with_reducible refine zaM ?_ ?_) | (with_reducible refine zan ?_) | (with_reducible refine zau ?_) | (with_reducible refine zbm (fun _ => ?_) (fun _ => ?_)))<;>try (exfalso;omega)
  all_goals rfl
 (try dsimp only);(repeat' first | (with_reducible refine G_to ?_ ?_;focus (first | omega | (unfold fits;omega) | (unfold room;(try simp only [List.length_append,List.length_cons,List.length_nil]);omega))) | (with_reducible refine zaM ?_ ?_) | (with_reducible refine zan ?_) | (with_reducible refine zau ?_) | (with_reducible refine zbm (fun _ => ?_) (fun _ => ?_)))<;>try (exfalso;omega)
 have hlen:∀ t:Int,0<=t->t < d.2.2.1.length->((ix d.2.2.1 t).length:Int)=d.1:=fun t a b=>Decidable.not_not.1 (hh t a b)
 refine zke (len:=(d.2.2.1.length:Int)) (bad:=fun t=>∃ q∈ix d.2.2.1 t,q < 0\/(d.2.2.1.length:Int)<=q) (by omega) (fun t h0 h1=>⟨fun hb => ?_,fun hb => ?_⟩) (fun hh2 => ?_)
 ·rw [zeU];unfold zbf
  (try dsimp only);(repeat' first | (with_reducible refine G_to ?_ ?_;focus (first | omega | (unfold fits;omega) | (unfold room;(try simp only [List.length_append,List.length_cons,List.length_nil]);omega))) | (with_reducible refine zaM ?_ ?_) | (with_reducible refine zan ?_) | (with_reducible refine zau ?_) | (with_reducible refine zbm (fun _ => ?_) (fun _ => ?_)))<;>try (exfalso;omega)
  have hlt:=hlen t h0 h1;refine zke (len:=d.1) (bad:=fun a=>ix (ix d.2.2.1 t) a < 0\/(d.2.2.1.length:Int)<=ix (ix d.2.2.1 t) a) (by omega) (fun a a0 a1=>⟨fun hb => ?_,fun hb => ?_⟩) (fun hh3 => ?_)
  ·rw [zc9];unfold za4
   (try dsimp only);(repeat' first | (with_reducible refine G_to ?_ ?_;focus (first | omega | (unfold fits;omega) | (unfold room;(try simp only [List.length_append,List.length_cons,List.length_nil]);omega))) | (with_reducible refine zaM ?_ ?_) | (with_reducible refine zan ?_) | (with_reducible refine zau ?_) | (with_reducible refine zbm (fun _ => ?_) (fun _ => ?_)))<;>try (exfalso;omega)
   all_goals rw [if_pos (show DOut _ d from .inr (.inl (zkP.2 ⟨t,h0,h1,zkP.2 ⟨a,a0,by omega,hb⟩⟩)))]
  ·conv=>lhs;rw [zc9];unfold za4
   (try dsimp only);(repeat' first | (with_reducible refine G_to ?_ ?_;focus (first | omega | (unfold fits;omega) | (unfold room;(try simp only [List.length_append,List.length_cons,List.length_nil]);omega))) | (with_reducible refine zaM ?_ ?_) | (with_reducible refine zan ?_) | (with_reducible refine zau ?_) | (with_reducible refine zbm (fun _ => ?_) (fun _ => ?_)))<;>try (exfalso;omega)
   all_goals rfl
  ·exfalso;obtain ⟨i,i0,i1,i2⟩:=zkP.1 hb;exact hh3 i i0 (by omega) i2
 ·conv=>lhs;rw [zeU];unfold zbf
  (try dsimp only);(repeat' first | (with_reducible refine G_to ?_ ?_;focus (first | omega | (unfold fits;omega) | (unfold room;(try simp only [List.length_append,List.length_cons,List.length_nil]);omega))) | (with_reducible refine zaM ?_ ?_) | (with_reducible refine zan ?_) | (with_reducible refine zau ?_) | (with_reducible refine zbm (fun _ => ?_) (fun _ => ?_)))<;>try (exfalso;omega)
  have hlt:=hlen t h0 h1;refine zke (len:=d.1) (bad:=fun a=>ix (ix d.2.2.1 t) a < 0\/(d.2.2.1.length:Int)<=ix (ix d.2.2.1 t) a) (by omega) (fun a a0 a1=>⟨fun hb' => ?_,fun hb => ?_⟩) (fun hh3 => ?_)
  ·exfalso;exact hb (zkP.2 ⟨a,a0,by omega,hb'⟩)
  ·conv=>lhs;rw [zc9];unfold za4
   (try dsimp only);(repeat' first | (with_reducible refine G_to ?_ ?_;focus (first | omega | (unfold fits;omega) | (unfold room;(try simp only [List.length_append,List.length_cons,List.length_nil]);omega))) | (with_reducible refine zaM ?_ ?_) | (with_reducible refine zan ?_) | (with_reducible refine zau ?_) | (with_reducible refine zbm (fun _ => ?_) (fun _ => ?_)))<;>try (exfalso;omega)
   all_goals rfl
  ·rw [zc9];unfold za4
   (try dsimp only);(repeat' first | (with_reducible refine G_to ?_ ?_;focus (first | omega | (unfold fits;omega) | (unfold room;(try simp only [List.length_append,List.length_cons,List.length_nil]);omega))) | (with_reducible refine zaM ?_ ?_) | (with_reducible refine zan ?_) | (with_reducible refine zau ?_) | (with_reducible refine zbm (fun _ => ?_) (fun _ => ?_)))<;>try (exfalso;omega)
   all_goals rfl
 have hnr : ¬ ∃ r∈d.2.2.1,∃ q∈r,q < 0\/(d.2.2.1.length:Int)<=q:=fun h=>by
  obtain ⟨t,h0,h1,hb⟩:=zkP.1 h;exact hh2 t h0 h1 hb
 rw [zeU];unfold zbf
 (try dsimp only);(repeat' first | (with_reducible refine G_to ?_ ?_;focus (first | omega | (unfold fits;omega) | (unfold room;(try simp only [List.length_append,List.length_cons,List.length_nil]);omega))) | (with_reducible refine zaM ?_ ?_) | (with_reducible refine zan ?_) | (with_reducible refine zau ?_) | (with_reducible refine zbm (fun _ => ?_) (fun _ => ?_)))<;>try (exfalso;omega)
 refine zke (len:=(d.2.2.1.length:Int)) (bad:=fun t=>(badD) (ix d.2.2.2.1 t)) (by omega) (fun t h0 h1=>⟨fun hb => ?_,fun hb => ?_⟩) (fun hh3 => ?_)
 ·rw [if_pos (show DOut _ d from .inr (.inr (zkP.2 ⟨t,h0,by omega,hb⟩)))]
  rw [zeX];unfold zbg
  try dsimp only at hb
  (try dsimp only);(repeat' first | (with_reducible refine G_to ?_ ?_;focus (first | omega | (unfold fits;omega) | (unfold room;(try simp only [List.length_append,List.length_cons,List.length_nil]);omega))) | (with_reducible refine zaM ?_ ?_) | (with_reducible refine zan ?_) | (with_reducible refine zau ?_) | (with_reducible refine zbm (fun _ => ?_) (fun _ => ?_)))<;>try (exfalso;omega)
  all_goals first | rfl | (exfalso;exact hb.1 ‹_›) | (exfalso;exact hb.2 ‹_›)
 ·conv=>lhs;rw [zeX];unfold zbg
  try dsimp only at hb
  (try dsimp only);(repeat' first | (with_reducible refine G_to ?_ ?_;focus (first | omega | (unfold fits;omega) | (unfold room;(try simp only [List.length_append,List.length_cons,List.length_nil]);omega))) | (with_reducible refine zaM ?_ ?_) | (with_reducible refine zan ?_) | (with_reducible refine zau ?_) | (with_reducible refine zbm (fun _ => ?_) (fun _ => ?_)))<;>try (exfalso;omega)
  all_goals first | rfl | (exfalso;exact hb ⟨‹_›,‹_›⟩)
 rw [if_neg (show ¬ DOut _ d from fun h=>h.elim c4 (fun h=>h.elim hnr (fun h=>by
  obtain ⟨t,h0,h1,hb⟩:=zkP.1 h;exact hh3 t h0 (by omega) hb)))]
 rw [zeX];unfold zbg
 (try dsimp only);(repeat' first | (with_reducible refine G_to ?_ ?_;focus (first | omega | (unfold fits;omega) | (unfold room;(try simp only [List.length_append,List.length_cons,List.length_nil]);omega))) | (with_reducible refine zaM ?_ ?_) | (with_reducible refine zan ?_) | (with_reducible refine zau ?_) | (with_reducible refine zbm (fun _ => ?_) (fun _ => ?_)))<;>try (exfalso;omega)
 all_goals rfl
abbrev Rul:=Int×List Int×Unit
abbrev Gm:=Int×Int×List Rul×Unit
def SgB (g:Gm) (s:Int):Prop:=s < 0\/g.1+g.2.1<=s
structure RlOk (g:Gm) (r:Rul):Prop where
 f0:0<=r.1
 f1:r.1 < g.2.1
 l:r.2.1.length<=3
 s:∀ x∈r.2.1,0<=x/\x < g.1+g.2.1
structure GOk (g:Gm):Prop where
 a0:1<=g.1
 a1:g.1<=4
 n0:1<=g.2.1
 n1:g.2.1<=6
 ln:g.2.2.1.length<=20
 r:∀ k:Int,0<=k->k < g.2.2.1.length->RlOk g (ix g.2.2.1 k)
section
variable {g:Gm}
theorem zrS (ha:1<=g.1) (ha1:g.1<=4) (hn0:1<=g.2.1) (hn1:g.2.1<=6) {i:Int} (hl:(ix g.2.2.1 i).2.1.length<=3) {r6:Int->Option Int} (i0:0<=i) (i1:i < 1000):
  ((∃ x∈(ix g.2.2.1 i).2.1,SgB g x)->zba g i r6 0=some 2)/\((¬ ∃ x∈(ix g.2.2.1 i).2.1,SgB g x)->zba g i r6 0=r6 (i+1)):=by
 have key:∀ x,((∃ x∈(ix g.2.2.1 i).2.1,SgB g x)->some 2=x)->((¬ ∃ x∈(ix g.2.2.1 i).2.1,SgB g x)->r6 (i+1)=x)->zba g i r6 0=x:=fun x h1 h2=>by
  refine zke (len:=((ix g.2.2.1 i).2.1.length:Int)) (bad:=fun t=>SgB g (ix (ix g.2.2.1 i).2.1 t)) (lo:=0) (by omega) (fun t t0 t1=>⟨fun hb => ?_,fun hb => ?_⟩) (fun hh => ?_)
  ·have hb':SgB g (ix (ix g.2.2.1 i).2.1 t):=hb;rw [<- h1 ⟨_,zjm t0 t1,hb⟩];unfold SgB at hb';rw [zed];unfold za5
   (try dsimp only);(repeat' first | (with_reducible refine G_to ?_ ?_;focus (first | omega | (unfold fits;omega) | (unfold room;(try simp only [List.length_append,List.length_cons,List.length_nil]);omega))) | (with_reducible refine zaM ?_ ?_) | (with_reducible refine zan ?_) | (with_reducible refine zau ?_) | (with_reducible refine zbm (fun _ => ?_) (fun _ => ?_)))<;>try (exfalso;omega)
   all_goals rfl
  ·have hb' : ¬ SgB g (ix (ix g.2.2.1 i).2.1 t):=hb;unfold SgB at hb'
   conv=>lhs;rw [zed];unfold za5
   (try dsimp only);(repeat' first | (with_reducible refine G_to ?_ ?_;focus (first | omega | (unfold fits;omega) | (unfold room;(try simp only [List.length_append,List.length_cons,List.length_nil]);omega))) | (with_reducible refine zaM ?_ ?_) | (with_reducible refine zan ?_) | (with_reducible refine zau ?_) | (with_reducible refine zbm (fun _ => ?_) (fun _ => ?_)))<;>try (exfalso;omega)
   all_goals rfl
  ·rw [zed];unfold za5
   (try dsimp only);(repeat' first | (with_reducible refine G_to ?_ ?_;focus (first | omega | (unfold fits;omega) | (unfold room;(try simp only [List.length_append,List.length_cons,List.length_nil]);omega))) | (with_reducible refine zaM ?_ ?_) | (with_reducible refine zan ?_) | (with_reducible refine zau ?_) | (with_reducible refine zbm (fun _ => ?_) (fun _ => ?_)))<;>try (exfalso;omega)
   refine h2 fun h => ?_
   obtain ⟨j,j0,j1,hj⟩:=zkP.1 h;exact hh j j0 j1 hj
 exact ⟨fun h=>(key _ (fun _=>rfl) (fun h2=>absurd h h2)),fun h=>(key _ (fun h2=>absurd h2 h) (fun _=>rfl))⟩
theorem zqo (ha:1<=g.1) (ha1:g.1<=4) (hn0:1<=g.2.1) (hn1:g.2.1<=6) {l:List Int} (hl:l.length<=3):zc1 (zcM l g) (∃ x∈l,SgB g x):=
 zdK (f:=fun x=>zff x g) (zgU l g) (by omega) (fun x _=>by
  unfold zff SgB;by_cases h:x < 0
  ·rw [if_pos (decide_eq_true h)];exact zc1.of (by simp [h])
  ·rw [if_neg (by simpa using h),zbr (by unfold fits;omega)];exact zc1.dec (by simp [h]))
theorem zp1:∃ e,zhU g=some e/\zjA g=some e/\(e=0->GOk g):=by
 unfold zhU zjA;by_cases c1:g.1 < 1
 ·exact ⟨2,by rw [if_pos (decide_eq_true c1)],by rw [if_pos (decide_eq_true c1)],by omega⟩
 simp only [if_neg (show ¬ decide (g.1 < 1)=true by simpa using c1)]
 by_cases c2:4 < g.1
 ·exact ⟨2,by rw [if_pos (decide_eq_true c2)],by rw [if_pos (decide_eq_true c2)],by omega⟩
 simp only [if_neg (show ¬ decide (4 < g.1)=true by simpa using c2)]
 by_cases c3:g.2.1 < 1
 ·exact ⟨1,by rw [if_pos (decide_eq_true c3)],by rw [if_pos (decide_eq_true c3)],by omega⟩
 simp only [if_neg (show ¬ decide (g.2.1 < 1)=true by simpa using c3)]
 by_cases c4:6 < g.2.1
 ·exact ⟨1,by rw [if_pos (decide_eq_true c4)],by rw [if_pos (decide_eq_true c4)],by omega⟩
 simp only [if_neg (show ¬ decide (6 < g.2.1)=true by simpa using c4)]
 by_cases c5:(20:Int) < g.2.2.1.length
 ·exact ⟨1,by rw [if_pos (decide_eq_true c5)],by rw [if_pos (decide_eq_true c5)],by omega⟩
 simp only [if_neg (show ¬ decide ((20:Int) < g.2.2.1.length)=true by simpa using c5)]
 have key:∀ (n:Nat) (t:Int),0<=t->t<=g.2.2.1.length->((g.2.2.1.length:Int) - t).toNat=n->∃ e,zep g t=some e/\zdU g t=some e/\(e=0->∀ k:Int,t<=k->k < g.2.2.1.length->RlOk g (ix g.2.2.1 k)):=by
  intro n
  induction n with
  | zero=>
   intro t t0 t1 hn;refine ⟨0,?_,?_,fun _ k a b=>by omega⟩
   ·rw [zgA];unfold zbj;rw [if_neg (by simp only [decide_eq_true_eq];omega)]
   ·rw [zht];unfold zbx;rw [if_neg (by simp only [decide_eq_true_eq];omega)]
  | succ n ih=>
   intro t t0 t1 hn;have hlt:t < g.2.2.1.length:=by omega
   rw [zgA,zht];unfold zbj zbx;simp only [if_pos (decide_eq_true hlt),zbr (show 0<=t/\t < (g.2.2.1.length:Int) from ⟨t0,hlt⟩)];by_cases d1:(ix g.2.2.1 t).1 < 0
   ·exact ⟨2,by rw [if_pos (decide_eq_true d1)],by rw [if_pos (decide_eq_true d1)],by omega⟩
   simp only [if_neg (show ¬ decide ((ix g.2.2.1 t).1 < 0)=true by simpa using d1)]
   by_cases d2:g.2.1<=(ix g.2.2.1 t).1
   ·exact ⟨2,by rw [if_pos (decide_eq_true d2)],by rw [if_pos (decide_eq_true d2)],by omega⟩
   simp only [if_neg (show ¬ decide (g.2.1<=(ix g.2.2.1 t).1)=true by simpa using d2)]
   by_cases d3:(3:Int) < (ix g.2.2.1 t).2.1.length
   ·exact ⟨1,by rw [if_pos (decide_eq_true d3)],by rw [if_pos (decide_eq_true d3)],by omega⟩
   simp only [if_neg (show ¬ decide ((3:Int) < (ix g.2.2.1 t).2.1.length)=true by simpa using d3)]
   obtain ⟨w1,w2⟩:=zrS (g:=g) (by omega) (by omega) (by omega) (by omega) (i:=t) (by omega) (r6:=zdU g) t0 (by omega)
   obtain ⟨b,eb,hb⟩:=zqo (g:=g) (by omega) (by omega) (by omega) (by omega) (l:=(ix g.2.2.1 t).2.1) (by omega)
   rw [show (g.1,(g.2.1,(g.2.2.1,())))=g from rfl,eb];by_cases c:∃ x∈(ix g.2.2.1 t).2.1,SgB g x
   ·have:b=true:=hb.2 c;subst this;exact ⟨2,rfl,w1 c,by omega⟩
   ·have:b=false:=by cases b;rfl;exact absurd (hb.1 rfl) c
    subst this;obtain ⟨e,e1,e2,e3⟩:=ih (t+1) (by omega) (by omega) (by omega)
    refine ⟨e,?_,(w2 c).trans e2,fun h k k0 k1 => ?_⟩
    ·show G _ _=_;rw [zbr (by unfold fits;omega),e1]
    ·by_cases ek:k=t
     ·subst ek;exact ⟨by omega,by omega,by omega,fun x hx=>by
       have : ¬ SgB g x:=fun h=>c ⟨x,hx,h⟩
       unfold SgB at this;omega⟩
     ·exact e3 h k (by omega) k1
 obtain ⟨e,e1,e2,e3⟩:=key _ 0 (Int.le_refl _) (by omega) rfl
 exact ⟨e,e1,e2,fun h=>⟨by omega,by omega,by omega,by omega,by omega,e3 h⟩⟩
end
def lexB:List Int->List Int->Bool
 | [],_=>false
 | _,[]=>false
 | x::a,y::b=>if x=y then lexB a b else decide (x < y)
def bef (a b:List Int):Bool:=if (a.length:Int)=b.length then lexB a b else decide ((a.length:Int) < b.length)
theorem zrW (x y:Int):∃ o,zgj x y=some o/\(o=0↔x=y)/\(o < 0↔x < y):=by
 unfold zgj ziX;simp only [Option.bind_some,not_true,decide_false,Bool.false_eq_true,if_false,decide_eq_true_eq];by_cases h:x < y
 ·exact ⟨-1,by simp [h],by omega,by omega⟩
 ·by_cases h2:y < x
  ·exact ⟨1,by simp [h,h2],by omega,by omega⟩
  ·exact ⟨0,by simp [h,h2],by omega,by omega⟩
theorem ziD {a b:List Int} (ha:a.length<=1000):zeF a b=some (bef a b):=by
 unfold zeF bef;by_cases hl:(a.length:Int)=b.length
 ·rw [if_neg (by simpa using hl),if_pos hl]
  have key:∀ (n:Nat) (t:Int),(a.length - t).toNat=n->0<=t->t<=a.length->∃ o,zcm a b t=some o/\decide (o < 0)=lexB (a.drop t.toNat) (b.drop t.toNat):=by
   intro n
   induction n with
   | zero=>
    intro t hn t0 t1;refine ⟨0,?_,?_⟩
    ·rw [zco];unfold zaL;rw [if_neg (by simp;omega),if_neg (by simp;omega)]
    ·rw [List.drop_of_length_le (by omega)];rfl
   | succ n ih=>
    intro t hn t0 t1;obtain ⟨o,o1,o2,o3⟩:=zrW (ix a t) (ix b t);rw [znp t0 (by omega:t < a.length),znp t0 (by omega:t < b.length)]
    unfold lexB;by_cases e:ix a t=ix b t
    ·obtain ⟨o',z1,z2⟩:=ih (t+1) (by omega) (by omega) (by omega)
     refine ⟨o',?_,?_⟩
     ·rw [zco];unfold zaL;rw [if_pos (by simp;omega)]
      refine G_to (by omega) ?_
      rw [if_neg (by simp;omega)]
      refine G_to (by omega) (zbi o1 ?_)
      rw [if_neg (by simpa using o2.2 e)]
      exact G_to (by unfold fits;omega) z1
     ·rw [if_pos e];exact z2
    ·refine ⟨o,?_,?_⟩
     ·rw [zco];unfold zaL;rw [if_pos (by simp;omega)]
      refine G_to (by omega) ?_
      rw [if_neg (by simp;omega)]
      refine G_to (by omega) (zbi o1 ?_)
      rw [if_pos (by simpa using fun h=>e (o2.1 h))]
     ·rw [if_neg e,decide_eq_decide];exact o3
  obtain ⟨o,z1,z2⟩:=key _ 0 rfl (by omega) (by omega)
  unfold zfD;refine zbi z1 ?_
  rw [z2];rfl
 ·rw [if_pos (by simpa using hl),if_neg hl]
theorem zle {a b:List Int} (ha:a.length<=1000):zdY a b=some (bef a b):=by
 unfold zdY bef;by_cases hl:(a.length:Int)=b.length
 ·rw [if_neg (by simpa using hl),if_pos hl]
  have key:∀ (n:Nat) (t:Int),(a.length - t).toNat=n->0<=t->t<=a.length->zfl a b t=some (lexB (a.drop t.toNat) (b.drop t.toNat)):=by
   intro n
   induction n with
   | zero=>
    intro t hn t0 t1;rw [zhy];unfold zbA;rw [if_neg (by simp;omega),List.drop_of_length_le (by omega)];rfl
   | succ n ih=>
    intro t hn t0 t1;rw [znp t0 (by omega:t < a.length),znp t0 (by omega:t < b.length)]
    unfold lexB;rw [zhy];unfold zbA;rw [if_pos (by simp;omega)]
    refine G_to (by omega) (G_to (by omega) ?_)
    by_cases e:ix a t=ix b t
    ·rw [if_neg (by simpa using e),if_pos e]
     exact G_to (by unfold fits;omega) (ih (t+1) (by omega) (by omega) (by omega))
    ·rw [if_pos (by simpa using e),if_neg e]
     exact G_to (by omega) (G_to (by omega) rfl)
  exact key _ 0 rfl (by omega) (by omega)
 ·rw [if_pos (by simpa using hl),if_neg hl]
abbrev Ky:=Int×Int×Int×Unit
abbrev Fd:=Bool×Bool×(List Int)×Unit
section
variable {α β:Type}
theorem zpN {ks:List α} {vs:List β} (hl:ks.length=vs.length) (x y:α) (z v w:β):mget (zb9 ks x) ((zea ks vs x z).set (mpos ks x).toNat v) y w=open Classical in if y=x then v else mget ks vs y w:=by
 cases h:za7 ks x with
 | some j=>
  have e1:zb9 ks x=ks:=by unfold zb9;rw [h]
  have e2:zea ks vs x z=vs:=by unfold zea;rw [h]
  have e3:(mpos ks x).toNat=j:=by unfold mpos;rw [h];simp
  rw [e1,e2,e3];have hj:=zes h
  split
  ·rename_i e;subst e;unfold mget;rw [h];simp [<- hl,hj]
  ·rename_i e;unfold mget
   cases h2:za7 ks y with
   | none=>rfl
   | some i=>
    have:i≠j:=fun e2=>e (zrq (e2 ▸ h2) h)
    simp only [List.getD_eq_getElem?_getD];rw [List.getElem?_set_ne (Ne.symm this)]
 | none=>
  have e1:zb9 ks x=ks++[x]:=by unfold zb9;rw [h]
  have e2:zea ks vs x z=vs++[z]:=by unfold zea;rw [h]
  have e3:(mpos ks x).toNat=ks.length:=by unfold mpos;rw [h];simp
  rw [e1,e2,e3];have hx:=zbJ.1 h
  split
  ·rename_i e;subst e;unfold mget;rw [zoj hx];simp [hl]
  ·rename_i e;unfold mget
   cases h2:za7 ks y with
   | none=>
    have:y∉ks++[x]:=by
     intro hh;rcases List.mem_append.1 hh with hh | hh
     ·exact zbJ.1 h2 hh
     ·exact e (by simpa using hh)
    rw [zbJ.2 this]
   | some i=>
    rw [zoi [x] h2];have:=zes h2;simp only [List.getD_eq_getElem?_getD];rw [List.getElem?_set_ne (by omega),List.getElem?_append_left (by omega)]
theorem zsc {ks:List α} (x y:α):mhas (zb9 ks x) y=true↔y=x\/mhas ks y=true:=by
 rw [zpM,zpM]
 cases h:za7 ks x with
 | some j=>
  have e1:zb9 ks x=ks:=by unfold zb9;rw [h]
  have hx:x∈ks:=List.mem_of_getElem? (zeK h);rw [e1];exact ⟨.inr,fun hh=>hh.elim (fun e=>e ▸ hx) (fun h=>h)⟩
 | none=>
  have e1:zb9 ks x=ks++[x]:=by unfold zb9;rw [h]
  rw [e1,List.mem_append,List.mem_singleton];exact ⟨fun h=>h.symm,fun h=>h.symm⟩
theorem zlc {ks:List α} {vs:List β} (hl:ks.length=vs.length) (x:α) (z v:β):(zb9 ks x).length=((zea ks vs x z).set (mpos ks x).toNat v).length/\0<=mpos ks x/\mpos ks x < ((zea ks vs x z).length:Int):=by
 rw [List.length_set]
 cases h:za7 ks x with
 | some j=>
  have e1:zb9 ks x=ks:=by unfold zb9;rw [h]
  have e2:zea ks vs x z=vs:=by unfold zea;rw [h]
  have e3:mpos ks x=j:=by unfold mpos;rw [h]
  have:=zes h;rw [e1,e2,e3];exact ⟨hl,by omega,by omega⟩
 | none=>
  have e1:zb9 ks x=ks++[x]:=by unfold zb9;rw [h]
  have e2:zea ks vs x z=vs++[z]:=by unfold zea;rw [h]
  have e3:mpos ks x=ks.length:=by unfold mpos;rw [h]
  rw [e1,e2,e3,List.length_append,List.length_append];simp;omega
end
def vl (a:Nat) (w:List Int):Nat:=w.foldl (fun acc x=>acc * 4+x.toNat) a
theorem zpn (a:Nat) (x:Int) (w:List Int):vl a (x::w)=vl (a * 4+x.toNat) w:=rfl
theorem zgh:∀ (w:List Int) (a:Nat),(∀ x∈w,0<=x/\x < 4)->a * 4 ^ w.length<=vl a w/\vl a w < (a+1) * 4 ^ w.length
 | [],a,_=>by simp [vl]
 | x::w,a,h=>by
  obtain ⟨h0,h1⟩:=h x (by simp)
  obtain ⟨k1,k2⟩:=zgh w (a * 4+x.toNat) (fun y hy=>h y (by simp [hy]))
  rw [zpn,List.length_cons,Nat.pow_succ];have hx:x.toNat<=3:=by omega
  constructor
  ·refine Nat.le_trans ?_ k1
   rw [Nat.mul_comm (4 ^ w.length) 4,<- Nat.mul_assoc];exact Nat.mul_le_mul_right _ (by omega)
  ·refine Nat.lt_of_lt_of_le k2 ?_
   rw [Nat.mul_comm (4 ^ w.length) 4,<- Nat.mul_assoc];exact Nat.mul_le_mul_right _ (by omega)
theorem zsI:∀ (a b:List Int) (n:Nat),a.length=b.length->(∀ x∈a,0<=x/\x < 4)->(∀ x∈b,0<=x/\x < 4)->lexB a b=true->vl n a < vl n b
 | [],_,n,_,_,_,h=>by simp [lexB] at h
 | _::_,[],n,hl,_,_,_=>by simp at hl
 | x::a,y::b,n,hl,ha,hb,h=>by
  have hl2:a.length=b.length:=by simpa using hl
  obtain ⟨x0,x1⟩:=ha x (by simp)
  obtain ⟨y0,y1⟩:=hb y (by simp)
  have ha':=fun z (hz:z∈a)=>ha z (by simp [hz])
  have hb':=fun z (hz:z∈b)=>hb z (by simp [hz])
  rw [zpn,zpn];unfold lexB at h;by_cases e:x=y
  ·rw [if_pos e] at h;subst e;exact zsI a b _ hl2 ha' hb' h
  ·rw [if_neg e] at h;have hlt:x < y:=by simpa using h
   have k1:=(zgh a (n * 4+x.toNat) ha').2;have k2:=(zgh b (n * 4+y.toNat) hb').1;rw [hl2] at k1;exact Nat.lt_of_lt_of_le k1 (Nat.le_trans (Nat.mul_le_mul_right _ (by omega)) k2)
structure WOk (C:Int) (w:List Int):Prop where
 l:w.length<=60
 c:∀ x∈w,0<=x/\x < C
theorem ztP {C:Int} (hC:C<=4) {a b:List Int} (ha:WOk C a) (hb:WOk C b) (h:bef a b=true):vl 1 a < vl 1 b:=by
 have ha':∀ x∈a,0<=x/\x < 4:=fun x hx=>by have:=ha.c x hx;omega
 have hb':∀ x∈b,0<=x/\x < 4:=fun x hx=>by have:=hb.c x hx;omega
 unfold bef at h;by_cases e:(a.length:Int)=b.length
 ·rw [if_pos e] at h;exact zsI a b 1 (by omega) ha' hb' h
 ·rw [if_neg e] at h;have hlt:a.length < b.length:=by
   have:(a.length:Int) < b.length:=by simpa using h
   omega
  have k1:=(zgh a 1 ha').2;have k2:=(zgh b 1 hb').1;have:(1+1) * 4 ^ a.length<=1 * 4 ^ b.length:=by
   obtain ⟨d,hd⟩:=Nat.exists_eq_add_of_lt hlt;rw [hd,Nat.one_mul,show a.length+d+1=a.length+(d+1) by omega,Nat.pow_add,Nat.mul_comm]
   refine Nat.mul_le_mul_left _ ?_
   rw [Nat.pow_succ];have:1<=4 ^ d:=by have:=Nat.pow_le_pow_left (show 1<=4 by omega) d;rwa [Nat.one_pow] at this
   omega
  omega
def bigV:Nat:=2 * 4 ^ 60
theorem zuj {C:Int} (hC:C<=4) {w:List Int} (h:WOk C w):vl 1 w < bigV:=by
 have k:=(zgh w 1 (fun x hx=>by have:=h.c x hx;omega)).2
 exact Nat.lt_of_lt_of_le k (Nat.mul_le_mul_left 2 (Nat.pow_le_pow_right (by omega) h.l))
def wt (x:Fd):Nat:=(if x.1=true then 0 else 1)+(if x.2.1=true then vl 1 x.2.2.1 else bigV)
def mu (L:List Fd):Nat:=(L.map wt).sum
theorem zsD:∀ (L:List Fd) (k:Nat) (y:Fd) (h:k < L.length),wt y < wt L[k]->mu (L.set k y) < mu L
 | [],k,y,h,_=>by simp at h
 | x::L,0,y,h,hw=>by
  have hw:wt y < wt x:=hw;show ((y::L).map wt).sum < ((x::L).map wt).sum;rw [List.map_cons,List.map_cons,List.sum_cons,List.sum_cons];omega
 | x::L,k+1,y,h,hw=>by
  have h:k+1 < L.length+1:=h;have:=zsD L k y (by omega) hw
  show ((x::L.set k y).map wt).sum < ((x::L).map wt).sum;rw [List.map_cons,List.map_cons,List.sum_cons,List.sum_cons];unfold mu at this;omega
theorem zt8 {L:List Fd} {k:Int} {y:Fd} (k0:0<=k) (k1:k < L.length) (hw:wt y < wt (ix L k)):mu (L.set k.toNat y) < mu L:=by
 refine zsD L _ y (by omega) ?_
 rwa [zod k0 (by omega)] at hw
abbrev Dm:=Int×Int×(List (List Int))×(List Int)×Unit
structure DmOk (C:Int) (d:Dm):Prop where
 n0:1<=(d.2.2.1.length:Int)
 n1:(d.2.2.1.length:Int)<=4
 t:∀ p s:Int,0<=p->p < d.2.2.1.length->0<=s->s < C->s < (ix d.2.2.1 p).length/\0<=ix (ix d.2.2.1 p) s/\ix (ix d.2.2.1 p) s < d.2.2.1.length
 s0:0<=d.2.1
 s1:d.2.1 < d.2.2.1.length
 m:d.2.2.2.1.length=d.2.2.1.length
abbrev ky (a p q:Int):Ky:=(a,(p,(q,())))
def kx (n a p q:Int):Int:=((a * n+p) * n)+q
theorem zlP {n:Int} (h0:1<=n) (h1:n<=4):n=1\/n=2\/n=3\/n=4:=by omega
theorem zkT {N n a p q:Int} (h0:1<=n) (h1:n<=4) (a0:0<=a) (a1:a < N) (p0:0<=p) (p1:p < n) (q0:0<=q) (q1:q < n):0<=kx n a p q/\kx n a p q < N * n * n:=by
 unfold kx;rcases zlP h0 h1 with rfl | rfl | rfl | rfl<;>omega
theorem zsz {n a p q a' p' q':Int} (h0:1<=n) (h1:n<=4) (p0:0<=p) (p1:p < n) (q0:0<=q) (q1:q < n) (p0':0<=p') (p1':p' < n) (q0':0<=q') (q1':q' < n) (h:kx n a p q=kx n a' p' q'):a=a'/\p=p'/\q=q':=by
 unfold kx at h;rcases zlP h0 h1 with rfl | rfl | rfl | rfl<;>omega
structure Sim (C N n:Int) (bk:List Ky) (bw:List (List Int)) (ik:List Ky) (iv:List Int) (L:List Fd):Prop where
 len:(L.length:Int)=N * n * n
 bl:bk.length=bw.length
 il:ik.length=iv.length
 is:∀ a p q,0<=a->a < N->0<=p->p < n->0<=q->q < n->(mget ik iv (ky a p q) 0=0↔(ix L (kx n a p q)).1=false)
 has:∀ a p q,0<=a->a < N->0<=p->p < n->0<=q->q < n->(mhas bk (ky a p q)=true↔(ix L (kx n a p q)).2.1=true)
 wd:∀ a p q,0<=a->a < N->0<=p->p < n->0<=q->q < n->(ix L (kx n a p q)).2.1=true->mget bk bw (ky a p q) []=(ix L (kx n a p q)).2.2.1
 ok:∀ k,0<=k->k < N * n * n->(ix L k).2.1=true->WOk C (ix L k).2.2.1
 sh:∀ k,0<=k->k < N * n * n->(ix L k).2.2.1.length<=60
theorem zt0 {a p q a' p' q':Int} (h : ¬ ky a' p' q'=ky a p q) : ¬ (a=a'/\p=p'/\q=q'):=fun ⟨x,y,z⟩=>h (by rw [x,y,z])
section
variable {C N n:Int} {bk:List Ky} {bw:List (List Int)} {ik:List Ky} {iv:List Int} {L:List Fd}
theorem Sim.putIs (h:Sim C N n bk bw ik iv L) (h0:1<=n) (h1:n<=4) {a p q:Int} (a0:0<=a) (a1:a < N) (p0:0<=p) (p1:p < n) (q0:0<=q) (q1:q < n):
  Sim C N n bk bw (zb9 ik (ky a p q)) ((zea ik iv (ky a p q) 0).set (mpos ik (ky a p q)).toNat 1) (L.set (kx n a p q).toNat (true,(ix L (kx n a p q)).2)):=by
 obtain ⟨k0,k1⟩:=zkT (N:=N) h0 h1 a0 a1 p0 p1 q0 q1;rw [<- h.len] at k1;have hs:∀ k,0<=k->k < N * n * n->(ix (L.set (kx n a p q).toNat (true,(ix L (kx n a p q)).2)) k).2=(ix L k).2:=fun k j0 j1=>by
  by_cases e:kx n a p q=k
  ·subst e;rw [zbR k0 k1]
  ·rw [zhk k0 j0 e]
 refine ⟨by rw [List.length_set];exact h.len,h.bl,(zlc h.il _ _ _).1,?_,?_,?_,?_,?_⟩
 ·intro a' p' q' b0 b1 c0 c1 d0 d1;rw [zpN h.il];by_cases e:ky a' p' q'=ky a p q
  ·rw [if_pos e];cases e;rw [zbR k0 k1];simp
  ·rw [if_neg e,zhk k0 (zkT (N:=N) h0 h1 b0 b1 c0 c1 d0 d1).1 (fun e2=>zt0 e (zsz h0 h1 p0 p1 q0 q1 c0 c1 d0 d1 e2))]
   exact h.is a' p' q' b0 b1 c0 c1 d0 d1
 ·intro a' p' q' b0 b1 c0 c1 d0 d1;obtain ⟨j0,j1⟩:=zkT (N:=N) h0 h1 b0 b1 c0 c1 d0 d1;rw [hs _ j0 j1];exact h.has a' p' q' b0 b1 c0 c1 d0 d1
 ·intro a' p' q' b0 b1 c0 c1 d0 d1;obtain ⟨j0,j1⟩:=zkT (N:=N) h0 h1 b0 b1 c0 c1 d0 d1;rw [hs _ j0 j1];exact h.wd a' p' q' b0 b1 c0 c1 d0 d1
 ·intro k j0 j1;rw [hs _ j0 j1];exact h.ok k j0 j1
 ·intro k j0 j1;rw [hs _ j0 j1];exact h.sh k j0 j1
theorem Sim.putW (h:Sim C N n bk bw ik iv L) (h0:1<=n) (h1:n<=4) {a p q:Int} (a0:0<=a) (a1:a < N) (p0:0<=p) (p1:p < n) (q0:0<=q) (q1:q < n) {w:List Int} (hw:WOk C w):
  Sim C N n (zb9 bk (ky a p q)) ((zea bk bw (ky a p q) []).set (mpos bk (ky a p q)).toNat w) ik iv (L.set (kx n a p q).toNat ((ix L (kx n a p q)).1,(true,(w,())))):=by
 obtain ⟨k0,k1⟩:=zkT (N:=N) h0 h1 a0 a1 p0 p1 q0 q1;rw [<- h.len] at k1;have ne:∀ {a' p' q':Int},0<=a'->a' < N->0<=p'->p' < n->0<=q'->q' < n -> ¬ ky a' p' q'=ky a p q->ix (L.set (kx n a p q).toNat ((ix L (kx n a p q)).1,(true,(w,())))) (kx n a' p' q')=ix L (kx n a' p' q'):=fun b0 b1 c0 c1 d0 d1 e=>
  zhk k0 (zkT (N:=N) h0 h1 b0 b1 c0 c1 d0 d1).1 (fun e2=>zt0 e (zsz h0 h1 p0 p1 q0 q1 c0 c1 d0 d1 e2))
 refine ⟨by rw [List.length_set];exact h.len,(zlc h.bl _ _ _).1,h.il,?_,?_,?_,?_,?_⟩
 ·intro a' p' q' b0 b1 c0 c1 d0 d1;by_cases e:ky a' p' q'=ky a p q
  ·cases e;rw [zbR k0 k1];exact h.is a p q b0 b1 c0 c1 d0 d1
  ·rw [ne b0 b1 c0 c1 d0 d1 e];exact h.is a' p' q' b0 b1 c0 c1 d0 d1
 ·intro a' p' q' b0 b1 c0 c1 d0 d1;rw [zsc];by_cases e:ky a' p' q'=ky a p q
  ·cases e;rw [zbR k0 k1];simp
  ·rw [ne b0 b1 c0 c1 d0 d1 e];exact ⟨fun hh=>(h.has a' p' q' b0 b1 c0 c1 d0 d1).1 (hh.resolve_left e),fun hh => .inr ((h.has a' p' q' b0 b1 c0 c1 d0 d1).2 hh)⟩
 ·intro a' p' q' b0 b1 c0 c1 d0 d1 hh;rw [zpN h.bl];by_cases e:ky a' p' q'=ky a p q
  ·rw [if_pos e];cases e;rw [zbR k0 k1]
  ·rw [if_neg e];rw [ne b0 b1 c0 c1 d0 d1 e] at hh ⊢;exact h.wd a' p' q' b0 b1 c0 c1 d0 d1 hh
 ·intro k j0 j1;by_cases e:kx n a p q=k
  ·subst e;rw [zbR k0 k1];exact fun _=>hw
  ·rw [zhk k0 j0 e];exact h.ok k j0 j1
 ·intro k j0 j1;by_cases e:kx n a p q=k
  ·subst e;rw [zbR k0 k1];exact hw.l
  ·rw [zhk k0 j0 e];exact h.sh k j0 j1
end
def Prg (ag:Bool) (L:List Fd) (ag':Bool) (L':List Fd):Prop:=(ag'=ag/\L'=L)\/(ag'=true/\mu L' < mu L)
theorem Prg.refl (ag:Bool) (L:List Fd):Prg ag L ag L := .inl ⟨rfl,rfl⟩
theorem Prg.trans {a b c:Bool} {A B D:List Fd} (h:Prg a A b B) (k:Prg b B c D):Prg a A c D:=by
 rcases h with ⟨rfl,rfl⟩ | ⟨rfl,h⟩
 ·exact k
 ·rcases k with ⟨rfl,rfl⟩ | ⟨rfl,k⟩
  ·exact .inr ⟨rfl,h⟩
  ·exact .inr ⟨rfl,by omega⟩
section
variable {g:Gm} {d:Dm}
theorem zoI {a p q:Int} (hn0:1<=(d.2.2.1.length:Int)) (hn1:(d.2.2.1.length:Int)<=4) (a0:0<=a) (a1:a < 6) (p0:0<=p) (p1:p < d.2.2.1.length) (q0:0<=q) (q1:q < d.2.2.1.length) (x:List Fd×Bool×Unit):
  zbb ((g.1,(g.2.1,(g.2.2.1,()))),((d.1,(d.2.1,(d.2.2.1,(d.2.2.2.1,())))),x)) a p q=some (kx (d.2.2.1.length:Int) a p q):=by
 unfold zbb kx;dsimp only;generalize (d.2.2.1.length:Int)=n at *
 rcases zlP hn0 hn1 with rfl | rfl | rfl | rfl<;>
  exact G_to (by unfold fits;omega) (G_to (by unfold fits;omega) (G_to (by unfold fits;omega) (G_to (by unfold fits;omega) rfl)))
abbrev PO (g:Gm) (d:Dm) (ag:Bool) (bk:List Ky) (bw:List (List Int)) (ik:List Ky) (iv:List Int):=(g.1,g.2.1,g.2.2.1,d.1,d.2.1,d.2.2.1,d.2.2.2.1,ag,bk,bw,ik,iv)
abbrev RO' (g:Gm) (d:Dm) (L:List Fd) (ag:Bool):=(g.1,g.2.1,g.2.2.1,d.1,d.2.1,d.2.2.1,d.2.2.2.1,L,ag)
theorem zte (hd:DmOk g.1 d) (hg:GOk g) {bk:List Ky} {bw:List (List Int)} {ik:List Ky} {iv:List Int} {L:List Fd} (h:Sim g.1 g.2.1 (d.2.2.1.length:Int) bk bw ik iv L) {a p q:Int} (a0:0<=a) (a1:a < g.2.1) (p0:0<=p) (p1:p < d.2.2.1.length) (q0:0<=q) (q1:q < d.2.2.1.length)
  {w:List Int} {short:Bool} (hw:short=true->WOk g.1 w) (hl:w.length<=100) (to:List Int) (ag:Bool):
  ∃ ag' bk' bw' ik' iv' L',zb5 q w short (a,(to,())) p ag g.1 g.2.1 g.2.2.1 d.1 d.2.1 d.2.2.1 d.2.2.2.1 bk bw ik iv=some (ag',g.1,g.2.1,g.2.2.1,d.1,d.2.1,d.2.2.1,d.2.2.2.1,bk',bw',ik',iv')/\
   zcG a p q w short g.1 g.2.1 g.2.2.1 d.1 d.2.1 d.2.2.1 d.2.2.2.1 ag L=some (RO' g d L' ag')/\Sim g.1 g.2.1 (d.2.2.1.length:Int) bk' bw' ik' iv' L'/\Prg ag L ag' L':=by
 have n0:=hd.n0;have n1:=hd.n1;have ha6:a < 6:=by have:=hg.n1;omega
 obtain ⟨k0,k1⟩:=zkT (N:=g.2.1) n0 n1 a0 a1 p0 p1 q0 q1;have g1:=hg.a1;have half:∀ (ag:Bool) (ik:List Ky) (iv:List Int) (L:List Fd),Sim g.1 g.2.1 (d.2.2.1.length:Int) bk bw ik iv L->(ix L (kx (d.2.2.1.length:Int) a p q)).1=true->
   ∃ ag' bk' bw' ik' iv' L',zbt q w short (a,(to,())) p ag g.1 g.2.1 g.2.2.1 d.1 d.2.1 d.2.2.1 d.2.2.2.1 bk bw ik iv=some (ag',g.1,g.2.1,g.2.2.1,d.1,d.2.1,d.2.2.1,d.2.2.2.1,bk',bw',ik',iv')/\
    zbT w short (kx (d.2.2.1.length:Int) a p q) g.1 g.2.1 g.2.2.1 d.1 d.2.1 d.2.2.1 d.2.2.2.1 ag L=some (RO' g d L' ag')/\Sim g.1 g.2.1 (d.2.2.1.length:Int) bk' bw' ik' iv' L'/\Prg ag L ag' L':=by
  intro ag ik iv L h his;have kl:kx (d.2.2.1.length:Int) a p q < L.length:=by rw [h.len];exact k1
  unfold zbt zbT;generalize hk:kx (d.2.2.1.length:Int) a p q=k at *
  have keep:zaT q w (a,(to,())) p ag g.1 g.2.1 g.2.2.1 d.1 d.2.1 d.2.2.1 d.2.2.2.1 bk bw ik iv false=some (ag,g.1,g.2.1,g.2.2.1,d.1,d.2.1,d.2.2.1,d.2.2.2.1,bk,bw,ik,iv):=rfl;have keep2:zbp w k g.1 g.2.1 g.2.2.1 d.1 d.2.1 d.2.2.1 d.2.2.2.1 ag L false=some (RO' g d L ag):=rfl
  cases short with
  | false=>exact ⟨ag,bk,bw,ik,iv,L,keep,rfl,h,.refl _ _⟩
  | true=>
   have hw:=hw rfl;have gK:0<=k/\k < (L.length:Int):=⟨k0,kl⟩;have gN:k.toNat < L.length:=by omega
   have hput:zaT q w (a,(to,())) p ag g.1 g.2.1 g.2.2.1 d.1 d.2.1 d.2.2.1 d.2.2.2.1 bk bw ik iv true=some (true,g.1,g.2.1,g.2.2.1,d.1,d.2.1,d.2.2.1,d.2.2.2.1,zb9 bk (ky a p q),(zea bk bw (ky a p q) []).set (mpos bk (ky a p q)).toNat w,ik,iv):=by
    unfold zaT;refine zan (zbi (zf0 (by omega)) (G_to (zlc h.bl (ky a p q) [] w).2 rfl))
   have hput2:zbp w k g.1 g.2.1 g.2.2.1 d.1 d.2.1 d.2.2.1 d.2.2.2.1 ag L true=some (RO' g d (L.set k.toNat ((ix L k).1,(true,(w,())))) true):=by
    unfold zbp;refine zan (G_to gK (G_to gN (G_to ⟨k0,by rw [List.length_set];exact kl⟩ (G_to (by rw [List.length_set];exact gN) ?_))))
    rw [zbR k0 kl,List.set_set]
   have hsim:=h.putW n0 n1 a0 a1 p0 p1 q0 q1 hw;rw [hk] at hsim;have fin:wt ((ix L k).1,(true,(w,()))) < wt (ix L k)->∃ ag' bk' bw' ik' iv' L',some (true,g.1,g.2.1,g.2.2.1,d.1,d.2.1,d.2.2.1,d.2.2.2.1,zb9 bk (ky a p q),(zea bk bw (ky a p q) []).set (mpos bk (ky a p q)).toNat w,ik,iv)=some (ag',g.1,g.2.1,g.2.2.1,d.1,d.2.1,d.2.2.1,d.2.2.2.1,bk',bw',ik',iv')/\
     some (RO' g d (L.set k.toNat ((ix L k).1,(true,(w,())))) true)=some (RO' g d L' ag')/\Sim g.1 g.2.1 (d.2.2.1.length:Int) bk' bw' ik' iv' L'/\Prg ag L ag' L':=fun hlt=>
    ⟨_,_,_,_,_,_,rfl,rfl,hsim,.inr ⟨rfl,zt8 k0 kl hlt⟩⟩
   have hB:(zdY w (ix L k).2.2.1)=some (bef w (ix L k).2.2.1):=zle (by omega)
   simp only [if_true,Bool.not_true,Bool.false_eq_true,if_false,zbr gK,zbr gN,hB,Option.bind_some];have hhas:=h.has a p q a0 a1 p0 p1 q0 q1;rw [hk] at hhas
   cases hH:(ix L k).2.1 with
   | false=>
    have hm:mhas bk (ky a p q)=false:=by
     cases e:mhas bk (ky a p q)
     ·rfl
     ·exact absurd (hhas.1 e) (by rw [hH];simp)
    simp only [hm,Bool.not_false,if_true,hput,hput2];refine fin ?_
    unfold wt;have:=zuj g1 hw;simp only [his,hH,if_true,Bool.false_eq_true,if_false];omega
   | true=>
    have hm:mhas bk (ky a p q)=true:=hhas.2 hH;have hwd:=h.wd a p q a0 a1 p0 p1 q0 q1 (by rw [hk];exact hH)
    rw [hk] at hwd;simp only [hm,Bool.not_true,Bool.false_eq_true,if_false,hwd,ziD (show w.length<=1000 by omega),Option.bind_some]
    cases hb:bef w (ix L k).2.2.1 with
    | false=>rw [keep,keep2];exact ⟨_,_,_,_,_,_,rfl,rfl,h,.refl _ _⟩
    | true=>
     rw [hput,hput2];refine fin ?_
     unfold wt;have:=ztP g1 hw (h.ok k k0 k1 hH) hb;simp only [his,hH,if_true];omega
 have kl:kx (d.2.2.1.length:Int) a p q < L.length:=by rw [h.len];exact k1
 unfold zb5 zcG;rw [zoI n0 n1 a0 ha6 p0 p1 q0 q1,Option.bind_some];have his:=h.is a p q a0 a1 p0 p1 q0 q1;have hI:=h.putIs n0 n1 a0 a1 p0 p1 q0 q1;generalize hk:kx (d.2.2.1.length:Int) a p q=k at *
 have gK:0<=k/\k < (L.length:Int):=⟨k0,kl⟩;have gN:k.toNat < L.length:=by omega
 simp only [zbr gK,zbr gN]
 cases hb:(ix L k).1 with
 | false=>
  simp only [show decide (mget ik iv (a,(p,(q,()))) 0=0)=true from decide_eq_true (his.2 hb),zbr (zlc h.il (ky a p q) 0 1).2,Bool.not_false,if_true];obtain ⟨ag',bk',bw',ik',iv',L',e1,e2,e3,e4⟩:=half true _ _ _ hI (by rw [zbR k0 kl])
  refine ⟨ag',bk',bw',ik',iv',L',e1,e2,e3,?_⟩
  have hm:mu (L.set k.toNat (true,(ix L k).2)) < mu L:=zt8 k0 kl (by unfold wt;simp only [hb,if_true,Bool.false_eq_true,if_false];omega)
  rcases e4 with ⟨rfl,rfl⟩ | ⟨rfl,e4⟩
  ·exact .inr ⟨rfl,hm⟩
  ·exact .inr ⟨rfl,by omega⟩
 | true=>
  have : ¬ mget ik iv (a,(p,(q,()))) 0=0:=fun e=>by have:=his.1 e;rw [hb] at this;cases this
  simp only [show decide (mget ik iv (a,(p,(q,()))) 0=0)=false from decide_eq_false this,Bool.not_true,Bool.false_eq_true,if_false];exact half ag ik iv L h hb
end
section
variable {g:Gm} {d:Dm}
theorem zk3 {s:Int} {tl:List Int}:cut (s::tl) (1:Int) ((s::tl).length:Int)=tl:=by
 unfold cut;rw [show ((((s::tl).length:Nat):Int)).toNat=(s::tl).length from by simp,List.take_length];rfl
theorem zrj {s:Int} {tl:List Int}:ix (s::tl) (0:Int)=s:=rfl
theorem zsm (hd:DmOk g.1 d) (hg:GOk g) {from' start:Int} (f0:0<=from') (f1:from' < g.2.1) (t0:0<=start) (t1:start < d.2.2.1.length) (to:List Int):
  ∀ (signs:List Int),signs.length<=3->(∀ s∈signs,0<=s/\s < g.1+g.2.1)->∀ (p:Int) (w:List Int) (short:Bool) (ag:Bool) (bk:List Ky) (bw:List (List Int)) (ik:List Ky) (iv:List Int) (L:List Fd),
   Sim g.1 g.2.1 (d.2.2.1.length:Int) bk bw ik iv L->0<=p->p < d.2.2.1.length->(short=true->WOk g.1 w)->w.length+signs.length<=70->
   ∃ ag' bk' bw' ik' iv' L',zaz signs p w short (from',(to,())) start g.1 g.2.1 g.2.2.1 d.1 d.2.1 d.2.2.1 d.2.2.2.1 ag bk bw ik iv=some (PO g d ag' bk' bw' ik' iv')/\
    zaq from' start signs p w short g.1 g.2.1 g.2.2.1 d.1 d.2.1 d.2.2.1 d.2.2.2.1 ag L=some (RO' g d L' ag')/\Sim g.1 g.2.1 (d.2.2.1.length:Int) bk' bw' ik' iv' L'/\Prg ag L ag' L':=by
 have n0:=hd.n0;have n1:=hd.n1;have g0:=hg.a0;have g1:=hg.a1;have g2:=hg.n1;intro signs
 induction signs with
 | nil=>
  intro _ _ p w short ag bk bw ik iv L h p0 p1 hw hl;obtain ⟨ag',bk',bw',ik',iv',L',e1,e2,e3,e4⟩:=zte hd hg h f0 f1 t0 t1 p0 p1 hw (by simp at hl;omega) to ag
  refine ⟨ag',bk',bw',ik',iv',L',?_,?_,e3,e4⟩
  ·rw [zcK];unfold zaP;exact (if_pos (decide_eq_true (by simp))).trans (zbi e1 rfl)
  ·rw [zbC];unfold zaJ;exact (if_pos (decide_eq_true (by simp))).trans (zbi e2 rfl)
 | cons s tl ih=>
  intro hl3 hs p w short ag bk bw ik iv L h p0 p1 hw hl;obtain ⟨s0,s1⟩:=hs s (by simp)
  have ih:=ih (by simp at hl3;omega) (fun x hx=>hs x (by simp [hx]))
  rw [List.length_cons] at hl;have gz:(0:Int)<=(0:Int)/\(0:Int) < ((s::tl).length:Int):=by rw [List.length_cons];omega
  have go:(0:Int)<=(1:Int)/\(1:Int)<=((s::tl).length:Int)/\((s::tl).length:Int)<=((s::tl).length:Int):=⟨by omega,by rw [List.length_cons];omega,Int.le_refl _⟩
  by_cases hc:s < g.1
  ·-- a letter
   obtain ⟨d0,d1,d2⟩:=hd.t p s p0 p1 s0 hc;have hcl:zbh w=some w:=zf0 (by omega)
   have hwl:(w++[s]).length=w.length+1:=by simp
   have hok:(short && decide ((w.length:Int) < 60))=true->WOk g.1 (w++[s]):=by
    intro hh;simp only [Bool.and_eq_true,decide_eq_true_eq] at hh;have:=hw hh.1;exact ⟨by omega,fun x hx=>by
     rcases List.mem_append.1 hx with hx | hx
     ·exact this.c x hx
     ·simp at hx;subst hx;exact ⟨s0,hc⟩⟩
   obtain ⟨ag',bk',bw',ik',iv',L',e1,e2,e3,e4⟩:=ih (ix (ix d.2.2.1 p) s) (w++[s]) (short && decide ((w.length:Int) < 60)) ag bk bw ik iv L h d1 d2 hok (by omega)
   refine ⟨ag',bk',bw',ik',iv',L',?_,?_,e3,e4⟩
   ·rw [zcK];unfold zaP;rw [if_neg (by simp;omega),zbr gz]
    simp only [zrj,zk3,hc,decide_true,if_true];have fin:∀ {K:(Int×Int×List (Int×List Int×Unit)×Int×Int×List (List Int)×List Int×Bool×List Ky×List (List Int)×List Ky×List Int)->Option (Int×Int×List (Int×List Int×Unit)×Int×Int×List (List Int)×List Int×Bool×List Ky×List (List Int)×List Ky×List Int)},(∀ y,K y=some y)->
      (if short=true then (zaz tl (ix (ix d.2.2.1 p) s) (w++[s]) (decide ((w.length:Int) < 60)) (from',(to,())) start g.1 g.2.1 g.2.2.1 d.1 d.2.1 d.2.2.1 d.2.2.2.1 ag bk bw ik iv).bind K else
       (zaz tl (ix (ix d.2.2.1 p) s) (w++[s]) false (from',(to,())) start g.1 g.2.1 g.2.2.1 d.1 d.2.1 d.2.2.1 d.2.2.2.1 ag bk bw ik iv).bind K)=some (PO g d ag' bk' bw' ik' iv'):=by
     intro K hK
     cases short with
     | true=>
      rw [Bool.true_and] at e1;exact zan (zbi e1 (hK _))
     | false=>
      rw [Bool.false_and] at e1;exact zau (zbi e1 (hK _))
    have gp:0<=p/\p < (d.2.2.1.length:Int):=⟨p0,p1⟩;have gs:0<=s/\s < ((ix d.2.2.1 p).length:Int):=⟨s0,d0⟩;have gr:room w [s] 8:=by unfold room;simp;omega
    simp only [zbr go,zbr gp,zbr gs,hcl,Option.bind_some,zbr gr]
    repeat' first
     | exact fin (fun _=>rfl)
     | refine zaM ?_ ?_
   ·rw [zbC];unfold zaJ;rw [if_neg (by simp;omega),zbr gz]
    simp only [zrj,zk3,hc,decide_true,if_true];have gp:0<=p/\p < (d.2.2.1.length:Int):=⟨p0,p1⟩;have gs:0<=s/\s < ((ix d.2.2.1 p).length:Int):=⟨s0,d0⟩;have gr:room w [s] 8:=by unfold room;simp;omega
    have gr0:room ([]:List Int) w 8:=by unfold room;simp;omega
    simp only [List.nil_append,zbr gz,zbr go,zbr gp,zbr gs,zbr gr,zbr gr0];have e60:decide (((w++[s]).length:Int)<=60)=decide ((w.length:Int) < 60):=by rw [hwl,decide_eq_decide];omega
    cases short with
    | true=>
     rw [Bool.true_and,<- e60] at e2;exact zan (zbi e2 rfl)
    | false=>
     rw [Bool.false_and] at e2;exact zau (zbi e2 rfl)
  ·-- a name
   have a0:0<=s - g.1:=by omega
   have a1:s - g.1 < g.2.1:=by omega
   have key:∀ (k:Nat) (q:Int),0<=q->q<=d.2.2.1.length->((d.2.2.1.length:Int) - q).toNat=k->∀ (ag:Bool) (bk:List Ky) (bw:List (List Int)) (ik:List Ky) (iv:List Int) (L:List Fd),Sim g.1 g.2.1 (d.2.2.1.length:Int) bk bw ik iv L->
     ∃ ag' bk' bw' ik' iv' L',zaw zaz (s::tl) p w short d.2.2.1 (from',(to,())) start q g.1 g.2.1 g.2.2.1 d.1 d.2.1 d.2.2.1 d.2.2.2.1 ag bk bw ik iv=some (PO g d ag' bk' bw' ik' iv')/\
      zas zaq from' start (s::tl) p w short q g.1 g.2.1 g.2.2.1 d.1 d.2.1 d.2.2.1 d.2.2.2.1 ag L=some (RO' g d L' ag')/\Sim g.1 g.2.1 (d.2.2.1.length:Int) bk' bw' ik' iv' L'/\Prg ag L ag' L':=by
    intro k
    induction k with
    | zero=>
     intro q q0 q1 hq ag bk bw ik iv L h;refine ⟨ag,bk,bw,ik,iv,L,?_,?_,h,.refl _ _⟩
     ·rw [zdr];unfold zaI;rw [if_neg (by simp only [decide_eq_true_eq];omega)]
     ·rw [zc8];unfold zaC;rw [if_neg (by simp only [decide_eq_true_eq];omega)]
    | succ k ihk=>
     intro q q0 q1 hq ag bk bw ik iv L h;have ql:q < d.2.2.1.length:=by omega
     have gf:fits (s - g.1):=by unfold fits;omega
     have gq:fits (q+1):=by unfold fits;omega
     have ha:=zoI (g:=g) n0 n1 a0 (show s - g.1 < 6 by omega) p0 p1 q0 ql
     obtain ⟨k0,k1⟩:=zkT (N:=g.2.1) n0 n1 a0 a1 p0 p1 q0 ql;have kl:kx (d.2.2.1.length:Int) (s - g.1) p q < L.length:=by rw [h.len];exact k1
     have his:=h.is _ p q a0 a1 p0 p1 q0 ql;have hhas:=h.has _ p q a0 a1 p0 p1 q0 ql;have hwd:=h.wd _ p q a0 a1 p0 p1 q0 ql;have hwk:=h.ok _ k0 k1;have hsh:=h.sh _ k0 k1;rw [zdr,zc8];unfold zaI zaC;rw [show ix (s::tl) (0:Int)=s from rfl];simp only [if_pos (decide_eq_true ql),zbr gz,zbr gf,ha,Option.bind_some];generalize hk:kx (d.2.2.1.length:Int) (s - g.1) p q=kk at *
     have gK:0<=kk/\kk < (L.length:Int):=⟨k0,kl⟩;have gN:kk.toNat < L.length:=by omega
     simp only [zbr gK,zbr gN]
     cases hI:(ix L kk).1 with
     | false=>
      simp only [show decide (mget ik iv (s - g.1,(p,(q,()))) 0=0)=true from decide_eq_true (his.2 hI),if_true,Bool.not_false,zbr gq];exact ihk (q+1) (by omega) (by omega) (by omega) ag bk bw ik iv L h
     | true=>
      have hne : ¬ mget ik iv (s - g.1,(p,(q,()))) 0=0:=fun e=>by have:=his.1 e;rw [hI] at this;cases this
      simp only [show decide (mget ik iv (s - g.1,(p,(q,()))) 0=0)=false from decide_eq_false hne,Bool.false_eq_true,if_false,Bool.not_true];have rest:∀ (ok:Bool) (x:List Int),(ok=true->WOk g.1 x)->x.length<=60->
        ∃ ag' bk' bw' ik' iv' L',zaN zaz (s::tl) (from',(to,())) start q g.1 g.2.1 g.2.2.1 d.1 d.2.1 d.2.2.1 d.2.2.2.1 ag bk bw ik iv (zaw zaz (s::tl) p w short d.2.2.1) ok x=some (PO g d ag' bk' bw' ik' iv')/\
         zaK zaq from' start (s::tl) q g.1 g.2.1 g.2.2.1 d.1 d.2.1 d.2.2.1 d.2.2.2.1 ag L (zas zaq from' start (s::tl) p w short) ok x=some (RO' g d L' ag')/\Sim g.1 g.2.1 (d.2.2.1.length:Int) bk' bw' ik' iv' L'/\Prg ag L ag' L':=by
       intro ok x hx hxl;obtain ⟨ag1,bk1,bw1,ik1,iv1,L1,e1,e2,e3,e4⟩:=ih q x ok ag bk bw ik iv L h q0 ql hx (by simp at hl3;omega)
       obtain ⟨ag2,bk2,bw2,ik2,iv2,L2,u1,u2,u3,u4⟩:=ihk (q+1) (by omega) (by omega) (by omega) ag1 bk1 bw1 ik1 iv1 L1 e3
       refine ⟨ag2,bk2,bw2,ik2,iv2,L2,?_,?_,u3,e4.trans u4⟩
       ·unfold zaN;rw [zbr go,zk3];exact zbi e1 (G_to gq u1)
       ·unfold zaK;rw [zbr go,zk3];exact zbi e2 (G_to gq u2)
      have no:∃ ag' bk' bw' ik' iv' L',zaB zaz (s::tl) p w (from',(to,())) start q g.1 g.2.1 g.2.2.1 d.1 d.2.1 d.2.2.1 d.2.2.2.1 ag bk bw ik iv (zaw zaz (s::tl) p w short d.2.2.1) false=some (PO g d ag' bk' bw' ik' iv')/\
        zav zaq from' start (s::tl) w q g.1 g.2.1 g.2.2.1 d.1 d.2.1 d.2.2.1 d.2.2.2.1 ag L (zas zaq from' start (s::tl) p w short) kk false=some (RO' g d L' ag')/\Sim g.1 g.2.1 (d.2.2.1.length:Int) bk' bw' ik' iv' L'/\Prg ag L ag' L':=
       rest false [] (by simp) (by simp)
      cases short with
      | false=>exact no
      | true=>
       simp only [if_true]
       cases hH:(ix L kk).2.1 with
       | false=>
        have hm:mhas bk (s - g.1,(p,(q,())))=false:=by
         cases e:mhas bk (s - g.1,(p,(q,())))
         ·rfl
         ·exact absurd (hhas.1 e) (by rw [hH];simp)
        simp only [hm,Bool.false_eq_true,if_false];exact no
       | true=>
        have hm:mhas bk (s - g.1,(p,(q,())))=true:=hhas.2 hH;have hv:=hwd hH;have hv:mget bk bw (s - g.1,(p,(q,()))) []=(ix L kk).2.2.1:=hv;have gl:fits ((w.length:Int)+((ix L kk).2.2.1.length:Int)):=by unfold fits;omega
        simp only [hm,if_true,hv,zbr gl];by_cases hle:(w.length:Int)+((ix L kk).2.2.1.length:Int)<=60
        ·simp only [decide_eq_true hle];have hxl:(w++(ix L kk).2.2.1).length<=60:=by rw [List.length_append];omega
         obtain ⟨ag',bk',bw',ik',iv',L',e1,e2,e3,e4⟩:=rest true (w++(ix L kk).2.2.1) (fun _=>⟨hxl,fun x hx=>by
          rcases List.mem_append.1 hx with hx | hx
          ·exact (hw rfl).c x hx
          ·exact (hwk hH).c x hx⟩) hxl
         refine ⟨ag',bk',bw',ik',iv',L',?_,?_,e3,e4⟩
         ·unfold zaB;refine zan (zbi (y:=w++(ix L kk).2.2.1) ?_ e1)
          rw [zrj,hv,zjP (by simp) (by simp;omega)];simp
         ·unfold zav;exact zan (G_to (by unfold room;simp;omega) (G_to gK (G_to gN (G_to (by unfold room;omega) e2))))
        ·simp only [decide_eq_false hle];exact no
   obtain ⟨ag',bk',bw',ik',iv',L',e1,e2,e3,e4⟩:=key _ 0 (Int.le_refl _) (by omega) rfl ag bk bw ik iv L h
   refine ⟨ag',bk',bw',ik',iv',L',?_,?_,e3,e4⟩
   ·rw [zcK];unfold zaP;rw [if_neg (by simp;omega),zbr gz]
    simp only [zrj,hc,decide_false,Bool.false_eq_true,if_false];exact e1
   ·rw [zbC];unfold zaJ;rw [if_neg (by simp;omega),zbr gz]
    simp only [zrj,hc,decide_false,Bool.false_eq_true,if_false];exact e2
theorem zsl (from' start:Int) (signs:List Int) (p:Int) (has:Bool) (c c1:Int) (c2:List (Int×List Int×Unit)) (c3 c4:Int) (c5:List (List Int)) (c6:List Int) (c7:Bool) (l:List Fd):
  zeQ from' start signs p has c c1 c2 c3 c4 c5 c6 c7 l=zaq from' start signs p [] has c c1 c2 c3 c4 c5 c6 c7 l:=by
 rw [zbC];rfl
end
section
variable {g:Gm} {d:Dm}
theorem ztO (hd:DmOk g.1 d) (hg:GOk g) {t:Int} (t0:0<=t) (t1:t < g.2.2.1.length)
  (r5:Int->Bool->Int->Int->List (Int×List Int×Unit)->Int->Int->List (List Int)->List Int->List Ky->List (List Int)->List Ky->List Int->Option (Int×Int×List (Int×List Int×Unit)×Int×Int×List (List Int)×List Int×List Ky×List (List Int)×List Ky×List Int))
  (r6:Int->Int->Int->List (Int×List Int×Unit)->Int->Int->List (List Int)->List Int->Bool->List Fd->Option (List Int×Bool×Bool)):
  ∀ (k:Nat) (p:Int),0<=p->p<=d.2.2.1.length->((d.2.2.1.length:Int) - p).toNat=k->∀ (ag:Bool) (bk:List Ky) (bw:List (List Int)) (ik:List Ky) (iv:List Int) (L:List Fd),Sim g.1 g.2.1 (d.2.2.1.length:Int) bk bw ik iv L->
   ∃ ag' bk' bw' ik' iv' L',zaR t d.2.2.1 r5 ((ix g.2.2.1 t).1,(((ix g.2.2.1 t).2).1,())) p ag g.1 g.2.1 g.2.2.1 d.1 d.2.1 d.2.2.1 d.2.2.2.1 bk bw ik iv=r5 (t+1) ag' g.1 g.2.1 g.2.2.1 d.1 d.2.1 d.2.2.1 d.2.2.2.1 bk' bw' ik' iv'/\
    zcb g d t r6 p g.1 g.2.1 g.2.2.1 d.1 d.2.1 d.2.2.1 d.2.2.2.1 ag L=r6 (t+1) g.1 g.2.1 g.2.2.1 d.1 d.2.1 d.2.2.1 d.2.2.2.1 ag' L'/\Sim g.1 g.2.1 (d.2.2.1.length:Int) bk' bw' ik' iv' L'/\Prg ag L ag' L':=by
 have n0:=hd.n0;have n1:=hd.n1;have hr:=hg.r t t0 t1;have hln:=hg.ln;have gt:fits (t+1):=by unfold fits;omega
 intro k
 induction k with
 | zero=>
  intro p p0 p1 hp ag bk bw ik iv L h;refine ⟨ag,bk,bw,ik,iv,L,?_,?_,h,.refl _ _⟩
  ·rw [zdp];unfold zaH;rw [if_neg (by simp only [decide_eq_true_eq];omega),zbr gt]
  ·rw [zhx];unfold zbz;rw [if_neg (by simp only [decide_eq_true_eq];omega),zbr gt]
 | succ k ih=>
  intro p p0 p1 hp ag bk bw ik iv L h;have pl:p < d.2.2.1.length:=by omega
  have gp:fits (p+1):=by unfold fits;omega
  obtain ⟨ag1,bk1,bw1,ik1,iv1,L1,e1,e2,e3,e4⟩:=zsm hd hg hr.f0 hr.f1 p0 pl (ix g.2.2.1 t).2.1 (ix g.2.2.1 t).2.1 hr.l hr.s p [] true ag bk bw ik iv L h p0 pl (fun _=>⟨by simp,by simp⟩) (by have:=hr.l;simp;omega)
  obtain ⟨ag2,bk2,bw2,ik2,iv2,L2,u1,u2,u3,u4⟩:=ih (p+1) (by omega) (by omega) (by omega) ag1 bk1 bw1 ik1 iv1 L1 e3
  refine ⟨ag2,bk2,bw2,ik2,iv2,L2,?_,?_,u3,e4.trans u4⟩
  ·rw [zdp];unfold zaH;rw [if_pos (decide_eq_true pl)];exact zbi e1 (G_to gp u1)
  ·rw [zhx];unfold zbz;rw [if_pos (decide_eq_true pl),zbr ⟨t0,t1⟩,zbr ⟨t0,t1⟩,zsl];exact zbi e2 (G_to gp u2)
theorem ztN (hd:DmOk g.1 d) (hg:GOk g)
  (r2:Bool->Int->Int->List (Int×List Int×Unit)->Int->Int->List (List Int)->List Int->List Ky->List (List Int)->List Ky->List Int->Option (Int×Int×List (Int×List Int×Unit)×Int×Int×List (List Int)×List Int×List Ky×List (List Int)×List Ky×List Int))
  (r3:Int->Int->List (Int×List Int×Unit)->Int->Int->List (List Int)->List Int->Bool->List Fd->Option (List Int×Bool×Bool)):
  ∀ (k:Nat) (t:Int),0<=t->t<=g.2.2.1.length->((g.2.2.1.length:Int) - t).toNat=k->∀ (ag:Bool) (bk:List Ky) (bw:List (List Int)) (ik:List Ky) (iv:List Int) (L:List Fd),Sim g.1 g.2.1 (d.2.2.1.length:Int) bk bw ik iv L->
   ∃ ag' bk' bw' ik' iv' L',zaF g.2.2.1 r2 t ag g.1 g.2.1 g.2.2.1 d.1 d.2.1 d.2.2.1 d.2.2.2.1 bk bw ik iv=r2 ag' g.1 g.2.1 g.2.2.1 d.1 d.2.1 d.2.2.1 d.2.2.2.1 bk' bw' ik' iv'/\
    zbO g d r3 t g.1 g.2.1 g.2.2.1 d.1 d.2.1 d.2.2.1 d.2.2.2.1 ag L=r3 g.1 g.2.1 g.2.2.1 d.1 d.2.1 d.2.2.1 d.2.2.2.1 ag' L'/\Sim g.1 g.2.1 (d.2.2.1.length:Int) bk' bw' ik' iv' L'/\Prg ag L ag' L':=by
 intro k
 induction k with
 | zero=>
  intro t t0 t1 ht ag bk bw ik iv L h;refine ⟨ag,bk,bw,ik,iv,L,?_,?_,h,.refl _ _⟩
  ·rw [zdn];unfold zaG;rw [if_neg (by simp only [decide_eq_true_eq];omega)]
  ·rw [zhw];unfold zby;rw [if_neg (by simp only [decide_eq_true_eq];omega)]
 | succ k ih=>
  intro t t0 t1 ht ag bk bw ik iv L h;have tl:t < g.2.2.1.length:=by omega
  have n0:=hd.n0;obtain ⟨ag1,bk1,bw1,ik1,iv1,L1,e1,e2,e3,e4⟩:=ztO hd hg t0 tl (zaF g.2.2.1 r2) (zbO g d r3) _ 0 (Int.le_refl _) (by omega) rfl ag bk bw ik iv L h
  obtain ⟨ag2,bk2,bw2,ik2,iv2,L2,u1,u2,u3,u4⟩:=ih (t+1) (by omega) (by omega) (by omega) ag1 bk1 bw1 ik1 iv1 L1 e3
  refine ⟨ag2,bk2,bw2,ik2,iv2,L2,?_,?_,u3,e4.trans u4⟩
  ·rw [zdn];unfold zaG;rw [if_pos (decide_eq_true tl),zbr ⟨t0,tl⟩];exact e1.trans u1
  ·rw [zhw];unfold zby;rw [if_pos (decide_eq_true tl)];exact e2.trans u2
theorem ztM (hd:DmOk g.1 d) (hg:GOk g):∀ (m:Nat) (bk:List Ky) (bw:List (List Int)) (ik:List Ky) (iv:List Int) (L:List Fd),mu L=m->Sim g.1 g.2.1 (d.2.2.1.length:Int) bk bw ik iv L->
   ∃ bk' bw' ik' iv' L',zbk true g.1 g.2.1 g.2.2.1 d.1 d.2.1 d.2.2.1 d.2.2.2.1 bk bw ik iv=some (g.1,g.2.1,g.2.2.1,d.1,d.2.1,d.2.2.1,d.2.2.2.1,bk',bw',ik',iv')/\
    zdV g d g.1 g.2.1 g.2.2.1 d.1 d.2.1 d.2.2.1 d.2.2.2.1 true L=zaE d g.1 g.2.1 g.2.2.1 d.1 d.2.1 d.2.2.1 d.2.2.2.1 false L' [] false false 0/\Sim g.1 g.2.1 (d.2.2.1.length:Int) bk' bw' ik' iv' L':=by
 intro m
 induction m using Nat.strongRecOn with
 | ind m ih=>
  intro bk bw ik iv L hm h;obtain ⟨ag1,bk1,bw1,ik1,iv1,L1,e1,e2,e3,e4⟩:=ztN hd hg zbk (zdV g d) _ 0 (Int.le_refl _) (by omega) rfl false bk bw ik iv L h
  rw [zdm,zhv];unfold zaU zb1;simp only [if_true,e1,e2];rcases e4 with ⟨rfl,rfl⟩ | ⟨rfl,e4⟩
  ·refine ⟨bk1,bw1,ik1,iv1,L1,?_,?_,e3⟩
   ·rw [zdm];rfl
   ·rw [zhv];rfl
  ·exact ih (mu L1) (by omega) bk1 bw1 ik1 iv1 L1 rfl e3
theorem zr8 (hd:DmOk g.1 d) (hg:GOk g) {bk:List Ky} {bw:List (List Int)} {ik:List Ky} {iv:List Int} {L:List Fd} (h:Sim g.1 g.2.1 (d.2.2.1.length:Int) bk bw ik iv L):
  ∀ (k:Nat) (t:Int),0<=t->t<=d.2.2.1.length->((d.2.2.1.length:Int) - t).toNat=k->∀ (best:List Int) (any found:Bool),best.length<=60->(found=true->any=true)->
   ∃ best' any' found',zeq d bk bw ik iv best found any t=some (if (any' && !found')=true then ([],false,7) else (best',found',0))/\
    zaE d g.1 g.2.1 g.2.2.1 d.1 d.2.1 d.2.2.1 d.2.2.2.1 false L best any found t=some (best',any',found')/\best'.length<=60/\(found'=true->any'=true):=by
 have n0:=hd.n0;have n1:=hd.n1;have hm:=hd.m;have m0:=hg.n0;intro k
 induction k with
 | zero=>
  intro t t0 t1 ht best any found hb hf;refine ⟨best,any,found,?_,?_,hb,hf⟩
  ·rw [zgB];unfold zbl;rw [if_neg (by simp only [decide_eq_true_eq];omega)]
   cases any<;>cases found<;>rfl
  ·rw [zgF];unfold zbo;rw [if_neg (by simp only [decide_eq_true_eq];omega)]
 | succ k ih=>
  intro t t0 t1 ht best any found hb hf;have tl:t < d.2.2.1.length:=by omega
  have gm:0<=t/\t < (d.2.2.2.1.length:Int):=⟨t0,by omega⟩
  have gt:fits (t+1):=by unfold fits;omega
  have ha:=zoI (g:=g) n0 n1 (Int.le_refl 0) (show (0:Int) < 6 by omega) hd.s0 hd.s1 t0 tl
  obtain ⟨k0,k1⟩:=zkT (N:=g.2.1) n0 n1 (Int.le_refl 0) (show (0:Int) < g.2.1 by omega) hd.s0 hd.s1 t0 tl
  have his:=h.is 0 d.2.1 t (Int.le_refl 0) (by omega) hd.s0 hd.s1 t0 tl
  have hhas:=h.has 0 d.2.1 t (Int.le_refl 0) (by omega) hd.s0 hd.s1 t0 tl
  have hwd:=h.wd 0 d.2.1 t (Int.le_refl 0) (by omega) hd.s0 hd.s1 t0 tl
  have hsh:=h.sh _ k0 k1;rw [<- h.len] at k1;have ih:=ih (t+1) (by omega) (by omega) (by omega)
  have ref:∀ {x:Option (List Int×Bool×Bool)},zbu d best any found t (zaE d g.1 g.2.1 g.2.2.1 d.1 d.2.1 d.2.2.1 d.2.2.2.1 false L) (ix L (kx (d.2.2.1.length:Int) 0 d.2.1 t)).1 (ix L (kx (d.2.2.1.length:Int) 0 d.2.1 t)).2.1 (ix L (kx (d.2.2.1.length:Int) 0 d.2.1 t)).2.2.1=x->
    zaE d g.1 g.2.1 g.2.2.1 d.1 d.2.1 d.2.2.1 d.2.2.2.1 false L best any found t=x:=fun hx=>by
   rw [zgF];unfold zbo;rw [if_pos (decide_eq_true tl)];exact zaM (zbi (ha _) (G_to ⟨k0,k1⟩ (G_to (by omega) hx))) (zbi (ha _) (G_to ⟨k0,k1⟩ (G_to (by omega) hx)))
  generalize hk:kx (d.2.2.1.length:Int) 0 d.2.1 t=kk at *
  have hB:zdY (ix L kk).2.2.1 best=some (bef (ix L kk).2.2.1 best):=zle (by omega)
  have skip:∀ {x:Option (List Int×Bool×Bool)},(ix d.2.2.2.1 t=0\/(ix L kk).1=false)->zaE d g.1 g.2.1 g.2.2.1 d.1 d.2.1 d.2.2.1 d.2.2.2.1 false L best any found (t+1)=x->
    zaE d g.1 g.2.1 g.2.2.1 d.1 d.2.1 d.2.2.1 d.2.2.2.1 false L best any found t=x:=fun hc hx=>ref (by
   unfold zbu;rw [zbr gm];by_cases c:ix d.2.2.2.1 t=0
   ·rw [if_pos (decide_eq_true c)];exact G_to gt hx
   ·rw [if_neg (by simpa using c),hc.resolve_left c]
    exact zan (G_to gt hx))
  rw [zgB];unfold zbl;rw [if_pos (decide_eq_true (show t < (d.2.2.2.1.length:Int) by omega)),zbr gm]
  by_cases c:ix d.2.2.2.1 t=0
  ·obtain ⟨b',a',f',e1,e2,e3,e4⟩:=ih best any found hb hf;exact ⟨b',a',f',by rw [if_pos (decide_eq_true c)];exact G_to gt e1,skip (.inl c) e2,e3,e4⟩
  ·rw [if_neg (show ¬ decide (ix d.2.2.2.1 t=0)=true by simpa using c)]
   cases hI:(ix L kk).1 with
   | false=>
    obtain ⟨b',a',f',e1,e2,e3,e4⟩:=ih best any found hb hf;exact ⟨b',a',f',by rw [if_pos (decide_eq_true (his.2 hI))];exact G_to gt e1,skip (.inr hI) e2,e3,e4⟩
   | true=>
    have hne : ¬ mget ik iv (0,(d.2.1,(t,()))) 0=0:=fun e=>by have:=his.1 e;rw [hI] at this;cases this
    rw [if_neg (show ¬ decide (mget ik iv (0,(d.2.1,(t,()))) 0=0)=true by simpa using hne)]
    have go:∀ {x:Option (List Int×Bool×Bool)},(if (ix L kk).2.1=true then if (!found)=true then zaE d g.1 g.2.1 g.2.2.1 d.1 d.2.1 d.2.2.1 d.2.2.2.1 false L (ix L kk).2.2.1 true true (t+1) else if bef (ix L kk).2.2.1 best=true then zaE d g.1 g.2.1 g.2.2.1 d.1 d.2.1 d.2.2.1 d.2.2.2.1 false L (ix L kk).2.2.1 true true (t+1) else
      zaE d g.1 g.2.1 g.2.2.1 d.1 d.2.1 d.2.2.1 d.2.2.2.1 false L best true found (t+1) else zaE d g.1 g.2.1 g.2.2.1 d.1 d.2.1 d.2.2.1 d.2.2.2.1 false L best true found (t+1))=x->
      zaE d g.1 g.2.1 g.2.2.1 d.1 d.2.1 d.2.2.1 d.2.2.2.1 false L best any found t=x:=fun hx=>ref (by
     unfold zbu;rw [zbr gm,if_neg (by simpa using c),hI,hB]
     simp only [Option.bind_some,zbr gt,Bool.not_true,Bool.false_eq_true,if_false];exact hx)
    cases hH:(ix L kk).2.1 with
    | false=>
     have hmh:mhas bk (0,(d.2.1,(t,())))=false:=by
      cases e:mhas bk (0,(d.2.1,(t,())))
      ·rfl
      ·exact absurd (hhas.1 e) (by rw [hH];simp)
     obtain ⟨b',a',f',e1,e2,e3,e4⟩:=ih best true found hb (fun _=>rfl)
     exact ⟨b',a',f',by rw [hmh];exact zau (G_to gt e1),go (by rw [hH];exact zau e2),e3,e4⟩
    | true=>
     have hmh:mhas bk (0,(d.2.1,(t,())))=true:=hhas.2 hH;have hv:mget bk bw (0,(d.2.1,(t,()))) []=(ix L kk).2.2.1:=hwd hH
     cases found with
     | false=>
      obtain ⟨b',a',f',e1,e2,e3,e4⟩:=ih (ix L kk).2.2.1 true true hsh (fun _=>rfl)
      exact ⟨b',a',f',by rw [hmh,hv];exact zan (zan (G_to gt e1)),go (by rw [hH];exact zan (zan e2)),e3,e4⟩
     | true=>
      cases hbf:bef (ix L kk).2.2.1 best with
      | true=>
       obtain ⟨b',a',f',e1,e2,e3,e4⟩:=ih (ix L kk).2.2.1 true true hsh (fun _=>rfl)
       exact ⟨b',a',f',by rw [hmh,hv];exact zan (zau (zbi ((ziD (by omega)).trans (congrArg some hbf)) (zan (G_to gt e1)))),go (by rw [hH,hbf];exact zan (zau (zan e2))),e3,e4⟩
      | false=>
       obtain ⟨b',a',f',e1,e2,e3,e4⟩:=ih best true true hb (fun _=>rfl)
       exact ⟨b',a',f',by rw [hmh,hv];exact zan (zau (zbi ((ziD (by omega)).trans (congrArg some hbf)) (zau (G_to gt e1)))),go (by rw [hH,hbf];exact zan (zau (zau e2))),e3,e4⟩
theorem zrJ {N n:Int} (C:Int) (hN:0<=N) (n0:1<=n) (n1:n<=4):Sim C N n [] [] [] [] (List.replicate (N * n * n).toNat ((false,(false,([],()))):Fd)):=by
 have hp:0<=N * n * n:=by rcases zlP n0 n1 with rfl | rfl | rfl | rfl<;>omega
 have hx:∀ k,0<=k->k < N * n * n->ix (List.replicate (N * n * n).toNat ((false,(false,([],()))):Fd)) k=(false,(false,([],()))):=fun k k0 k1=>zoe k0 (by omega)
 refine ⟨by simp;omega,rfl,rfl,?_,?_,?_,?_,?_⟩
 ·intro a p q a0 a1 p0 p1 q0 q1;obtain ⟨k0,k1⟩:=zkT n0 n1 a0 a1 p0 p1 q0 q1;rw [hx _ k0 k1];exact ⟨fun _=>rfl,fun _=>rfl⟩
 ·intro a p q a0 a1 p0 p1 q0 q1;obtain ⟨k0,k1⟩:=zkT n0 n1 a0 a1 p0 p1 q0 q1;rw [hx _ k0 k1];exact ⟨fun h=>(by cases h),fun h=>(by cases h)⟩
 ·intro a p q a0 a1 p0 p1 q0 q1 h;obtain ⟨k0,k1⟩:=zkT n0 n1 a0 a1 p0 p1 q0 q1;rw [hx _ k0 k1] at h;cases h
 ·intro k k0 k1 h;rw [hx _ k0 k1] at h;cases h
 ·intro k k0 k1;rw [hx _ k0 k1];simp
theorem zq9 (hd:DmOk g.1 d) (hg:GOk g):∃ best any found,zhV g d=some (if (any && !found)=true then ([],false,7) else (best,found,0))/\zjD g d=some (best,any,found)/\best.length<=60/\(found=true->any=true):=by
 have n0:=hd.n0;have n1:=hd.n1;have m0:=hg.n0;have m1:=hg.n1;have h0:=zrJ g.1 (N:=g.2.1) (n:=(d.2.2.1.length:Int)) (by omega) n0 n1
 obtain ⟨bk,bw,ik,iv,L,e1,e2,e3⟩:=ztM hd hg _ [] [] [] [] _ rfl h0;obtain ⟨best,any,found,u1,u2,u3,u4⟩:=zr8 hd hg e3 _ 0 (Int.le_refl _) (by omega) rfl [] false false (by simp) (by simp)
 refine ⟨best,any,found,?_,?_,u3,u4⟩
 ·unfold zhV zd9;exact zbi e1 u1
 ·unfold zjD;have hN:fits (g.2.1 * (d.2.2.1.length:Int))/\fits ((g.2.1 * (d.2.2.1.length:Int)) * (d.2.2.1.length:Int))/\mkOK ((g.2.1 * (d.2.2.1.length:Int)) * (d.2.2.1.length:Int)) ((g.2.1 * (d.2.2.1.length:Int)) * (d.2.2.1.length:Int)) 32:=by
   generalize (d.2.2.1.length:Int)=n at n0 n1;rcases zlP n0 n1 with rfl | rfl | rfl | rfl<;>(unfold fits mkOK;omega)
  exact G_to hN.1 (G_to hN.2.1 (G_to hN.2.2 (e2.trans u2)))
end
theorem zrR {w:List Int} {any found:Bool} (hl:w.length<=60) (hf:found=true->any=true):
  (if any=true then zbZ (if (any && !found)=true then [] else w) (if (any && !found)=true then false else found) (if (any && !found)=true then 7 else 0) w any (!found) else
   zbZ (if (any && !found)=true then [] else w) (if (any && !found)=true then false else found) (if (any && !found)=true then 7 else 0) w any false)=some true:=by
 have hw:zh1 w w=some (decide (w=w)):=znB (by omega)
 have hw:zh1 w w=some true:=by rw [hw];simp
 unfold zbZ
 cases any<;>cases found
 ·simp [hw]
 ·cases hf rfl
 ·simp
 ·simp [hw]
theorem zqv {g:Gm} {d:Dm} {e:Int} (h : ¬ e=0):zb8 g d [] false e e=some true:=by
 unfold zb8;simp [h]
theorem zsu {g:Gm} {d:Dm} {e:Int} (h : ¬ e=0):zbn g d [] false e e=some true:=by
 unfold zbn zbG zbH zbI;simp [h,zqv h]
theorem law_true (g:Gm) (d:Dm):zhn g d=some true:=by
 obtain ⟨e,c1,c2,hok⟩:=zp1 (g:=g);have c3:zgZ d=some (detE 3000 badD d):=zmi;have c4:zjM d=some (detE 3000 badD d):=znC;unfold zhn zlC;rw [show (g.1,(g.2.1,(g.2.2.1,())))=g from rfl,show (d.1,(d.2.1,(d.2.2.1,(d.2.2.2.1,()))))=d from rfl,c1,c2,c3,c4];simp only [Option.bind_some];by_cases he:e=0
 case neg=>simp only [decide_not,he,decide_false,Bool.not_false,if_true,Bool.false_eq_true,if_false,Option.bind_some];exact zsu he
 subst he;by_cases hd0:detE 3000 badD d=0
 case neg=>simp only [decide_not,hd0,decide_false,decide_true,Bool.not_false,Bool.not_true,if_true,Bool.false_eq_true,if_false,Option.bind_some];exact zsu hd0
 have hg:=hok rfl;have hdk:=zqN hd0;rw [hd0];by_cases hc:g.1=d.1
 case neg=>
  simp only [decide_not,hc,decide_false,decide_true,Bool.not_false,Bool.not_true,if_true,Bool.false_eq_true,if_false,Option.bind_some];unfold zbn zbG zbH zbI;simp [hc,zqv]
 by_cases hn:(4:Int) < d.2.2.1.length
 ·simp only [decide_not,hc,hn,decide_true,Bool.not_true,if_true,Bool.false_eq_true,if_false,Option.bind_some];unfold zbn zbG zbH zbI;simp [hc,hn,zqv]
 ·have hdm:DmOk g.1 d:=by
   have n1:=hdk.n1;have st:=hdk.st;refine ⟨by omega,by omega,?_,st.1,st.2,by have:=hdk.mkl;omega⟩
   intro p s p0 p1 s0 s1;have hr:ix d.2.2.1 p∈d.2.2.1:=zjm p0 p1;have hrow:=hdk.tab.row _ hr;have hlt:s < (ix d.2.2.1 p).length:=by omega
   have:=hdk.tab.to _ hr _ (zjm s0 hlt);exact ⟨hlt,by omega,by omega⟩
  obtain ⟨best,any,found,e1,e2,e3,e4⟩:=zq9 hdm hg;simp only [decide_not,hc,hn,decide_false,decide_true,Bool.not_true,if_true,Bool.false_eq_true,if_false,e1,Option.bind_some];unfold zbn zbG zbH zbI zb8;rw [show (g.1,(g.2.1,(g.2.2.1,())))=g from rfl,show (d.1,(d.2.1,(d.2.2.1,(d.2.2.2.1,()))))=d from rfl];simp only [decide_not,hc,hn,decide_false,decide_true,Bool.not_true,if_true,Bool.false_eq_true,if_false,e2,Option.bind_some];have:=zrR e3 e4
  cases any<;>cases found<;>exact this
end Go.Proofs.Ytfboagjnknollaa.gramBothW
