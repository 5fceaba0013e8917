import Derived.Test.YtmogekkikaelhaaParikhToldD
set_option maxHeartbeats 1000000
set_option maxRecDepth 20000
set_option linter.unusedSimpArgs false
set_option linter.unusedVariables false
set_option linter.unusedSectionVars false
namespace Go.Proofs.Ytmogekkikaelhaa.parikhToldW
open Go Go.Ab
def zeU (o:Option Bool) (P:Prop):Prop:=∃ b,o=some b/\(b=true↔P)
theorem zeU.of {b:Bool} {P:Prop} (h:b=true↔P):zeU (some b) P:=⟨b,rfl,h⟩
theorem zeU.dec {P Q:Prop} [Decidable P] (h:P↔Q):zeU (some (decide P)) Q:=⟨_,rfl,by simpa using h⟩
theorem zeU.iff {o:Option Bool} {P Q:Prop} (h:zeU o P) (k:P↔Q):zeU o Q:=let ⟨b,h1,h2⟩:=h;⟨b,h1,h2.trans k⟩
theorem zeU.eq {o:Option Bool} {P:Prop} [Decidable P] (h:zeU o P):o=some (decide P):=by
 obtain ⟨b,rfl,hb⟩:=h;by_cases hp:P
 ·simp [hp,hb.2 hp]
 ·have:b=false:=by cases b;rfl;exact absurd (hb.1 rfl) hp
  simp [hp,this]
theorem zeU.to {R:Type} {o:Option Bool} {P:Prop} {k1 k2 x:Option R} (h:zeU o P) (h1:P->k1=x) (h2 : ¬ P->k2=x):(o.bind fun y=>if y=true then k1 else k2)=x:=by
 obtain ⟨b,rfl,hb⟩:=h;refine ztw rfl ?_;cases b
 ·exact h2 fun hp=>by simpa using hb.2 hp
 ·exact h1 (hb.1 rfl)
theorem zeU.bind {R:Type} {o:Option Bool} {P:Prop} {k:Bool->Option R} {x:Option R} (h:zeU o P) (h1:∀ b,(b=true↔P)->k b=x):o.bind k=x:=by
 obtain ⟨b,rfl,hb⟩:=h;exact h1 b hb
section
variable {α C:Type} [Inhabited α]
theorem ztM {l:List α} {P:α->Prop}:(∃ x∈l,P x)↔∃ i:Int,0<=i/\i < l.length/\P (ix l i):=by
 constructor
 ·rintro ⟨x,hx,hp⟩;obtain ⟨i,hi,rfl⟩:=List.mem_iff_getElem.1 hx;refine ⟨i,by omega,by omega,?_⟩
  rwa [zds (by omega) (by omega)]
 ·rintro ⟨i,h0,h1,hp⟩;exact ⟨_,zgI h0 h1,hp⟩
theorem zqp {s:List α} {f:α->Option Bool} {L:Int->Option Int} {P:α->Prop} (hs:s.length<=4611686018427387904)
  (hL:∀ t,L t=if decide (t < (s.length:Int))=true then G (0<=t/\t < (s.length:Int)) ((f (ix s t)).bind fun y=>if y=true then some t else G (fits (t+1)) (L (t+1))) else some (-1))
  (hf:∀ x∈s,zeU (f x) (P x)):∀ (n:Nat) (t:Int),0<=t->t<=s.length->(s.length - t).toNat=n->
   ∃ i,L t=some i/\((i = -1/\∀ j:Int,t<=j->j < s.length -> ¬ P (ix s j))\/(t<=i/\i < s.length/\P (ix s i)/\∀ j:Int,t<=j->j < i -> ¬ P (ix s j))):=by
 intro n;induction n with
 | zero=>
  intro t h0 h1 hn;refine ⟨-1,?_,.inl ⟨rfl,fun j a b=>by omega⟩⟩;rw [hL,if_neg (by simp;omega)]
 | succ n ih=>
  intro t h0 h1 hn;rw [hL,if_pos (by simp;omega),zal (by omega)];obtain ⟨b,hb,hbp⟩:=hf _ (zgI h0 (by omega:t < s.length));rw [hb];cases b with
  | true=>exact ⟨t,rfl,.inr ⟨by omega,by omega,hbp.1 rfl,fun j a b=>by omega⟩⟩
  | false=>
   have hnp : ¬ P (ix s t):=fun hp=>by simpa using hbp.2 hp
   obtain ⟨i,hi,hc⟩:=ih (t+1) (by omega) (by omega) (by omega);refine ⟨i,?_,?_⟩
   ·refine (if_neg (by simp):(if false=true then some t else G (fits (t+1)) (L (t+1)))=_).trans ?_;rw [zal (by unfold fits;omega),hi]
   ·rcases hc with ⟨h2,h3⟩ | ⟨h2,h3,h4,h5⟩
    ·refine .inl ⟨h2,fun j a b => ?_⟩;by_cases e:j=t
     ·rw [e];exact hnp
     ·exact h3 j (by omega) b
    ·refine .inr ⟨by omega,h3,h4,fun j a b => ?_⟩;by_cases e:j=t
     ·rw [e];exact hnp
     ·exact h5 j (by omega) b
theorem zhI {s:List α} {f:α->Option Bool} {L:Int->Option Int} {P:α->Prop}
  (hL:∀ t,L t=if decide (t < (s.length:Int))=true then G (0<=t/\t < (s.length:Int)) ((f (ix s t)).bind fun y=>if y=true then some t else G (fits (t+1)) (L (t+1))) else some (-1))
  (hs:s.length<=4611686018427387904) (hf:∀ x∈s,zeU (f x) (P x)):zeU ((L 0).bind fun y=>some (decide ((0:Int)<=y))) (∃ x∈s,P x):=by
 obtain ⟨i,hi,hc⟩:=zqp hs hL hf _ 0 (by omega) (by omega) rfl;rw [hi];refine ⟨decide (0<=i),rfl,?_⟩;rw [decide_eq_true_iff,ztM];rcases hc with ⟨h2,h3⟩ | ⟨h2,h3,h4,h5⟩
 ·constructor
  ·intro h;omega
  ·rintro ⟨j,h0,h1,hp⟩;exact absurd hp (h3 j h0 h1)
 ·exact ⟨fun _=>⟨i,by omega,h3,h4⟩,fun _=>by omega⟩
theorem zqV {s:List α} {c:C} {f:α->C->Option (Bool×C)} {L:Int->C->Option (Int×C)} {P:α->Prop}
  (hL:∀ t c,L t c=if decide (t < (s.length:Int))=true then G (0<=t/\t < (s.length:Int)) ((f (ix s t) c).bind fun y=>if y.1=true then some (t,y.2) else G (fits (t+1)) (L (t+1) y.2)) else some (-1,c))
  (hs:s.length<=4611686018427387904) (hf:∀ x∈s,∃ b,f x c=some (b,c)/\(b=true↔P x)):∃ b,((L 0 c).bind fun y=>some (decide ((0:Int)<=y.1),y.2))=some (b,c)/\(b=true↔∃ x∈s,P x):=by
 have key:∀ (n:Nat) (t:Int),0<=t->t<=s.length->(s.length - t).toNat=n->
   ∃ i,L t c=some (i,c)/\((i = -1/\∀ j:Int,t<=j->j < s.length -> ¬ P (ix s j))\/(t<=i/\i < s.length/\P (ix s i))):=by
  intro n;induction n with
  | zero=>
   intro t h0 h1 hn;refine ⟨-1,?_,.inl ⟨rfl,fun j a b=>by omega⟩⟩;rw [hL,if_neg (by simp;omega)]
  | succ n ih=>
   intro t h0 h1 hn;rw [hL,if_pos (by simp;omega),zal (by omega)];obtain ⟨b,hb,hbp⟩:=hf _ (zgI h0 (by omega:t < s.length));rw [hb];cases b with
   | true=>exact ⟨t,rfl,.inr ⟨by omega,by omega,hbp.1 rfl⟩⟩
   | false=>
    have hnp : ¬ P (ix s t):=fun hp=>by simpa using hbp.2 hp
    obtain ⟨i,hi,hc⟩:=ih (t+1) (by omega) (by omega) (by omega);refine ⟨i,?_,?_⟩
    ·refine (if_neg (by simp):(if false=true then some (t,c) else G (fits (t+1)) (L (t+1) c))=_).trans ?_;rw [zal (by unfold fits;omega),hi]
    ·rcases hc with ⟨h2,h3⟩ | ⟨h2,h3,h4⟩
     ·refine .inl ⟨h2,fun j a b => ?_⟩;by_cases e:j=t
      ·rw [e];exact hnp
      ·exact h3 j (by omega) b
     ·exact .inr ⟨by omega,h3,h4⟩
 obtain ⟨i,hi,hc⟩:=key _ 0 (by omega) (by omega) rfl;rw [hi];refine ⟨decide (0<=i),rfl,?_⟩;rw [decide_eq_true_iff,ztM];rcases hc with ⟨h2,h3⟩ | ⟨h2,h3,h4⟩
 ·constructor
  ·intro h;omega
  ·rintro ⟨j,h0,h1,hp⟩;exact absurd hp (h3 j h0 h1)
 ·exact ⟨fun _=>⟨i,by omega,h3,h4⟩,fun _=>by omega⟩
end
theorem zud {R:Type} {len:Int} {L:Int->Option R} {bad:Int->Prop} {x:Option R} {lo:Int} (h0:lo<=len)
  (hs:∀ t,lo<=t->t < len->(bad t->L t=x)/\(¬ bad t->L t=L (t+1))) (hf:(∀ t,lo<=t->t < len -> ¬ bad t)->L len=x):L lo=x:=by
 have key:∀ (n:Nat) (t:Int),lo<=t->t<=len->(len - t).toNat=n->(∀ j,lo<=j->j < t -> ¬ bad j)->L t=x:=by
  intro n;induction n with
  | zero=>
   intro t h1 h2 hn h;obtain rfl:t=len:=by omega
   exact hf h
  | succ n ih=>
   intro t h1 h2 hn h;by_cases hb:bad t
   ·exact (hs t h1 (by omega)).1 hb
   ·rw [(hs t h1 (by omega)).2 hb];refine ih (t+1) (by omega) (by omega) (by omega) fun j a b => ?_
    by_cases e:j=t
    ·rw [e];exact hb
    ·exact h j a (by omega)
 exact key _ lo (Int.le_refl _) h0 rfl (fun j a b=>by omega)
theorem fold_to {R S:Type} {len:Int} {L:Int->S->Option R} {f:Int->S->S} {lo:Int} {I:Int->S->Prop} {s:S} (h0:lo<=len) (hI:I lo s)
  (hs:∀ t s,lo<=t->t < len->I t s->L t s=L (t+1) (f t s)/\I (t+1) (f t s)):∃ s',I len s'/\L lo s=L len s':=by
 have key:∀ (n:Nat) (t:Int) (s:S),lo<=t->t<=len->(len - t).toNat=n->I t s->∃ s',I len s'/\L t s=L len s':=by
  intro n;induction n with
  | zero=>
   intro t s h1 h2 hn h;obtain rfl:t=len:=by omega
   exact ⟨s,h,rfl⟩
  | succ n ih=>
   intro t s h1 h2 hn h;obtain ⟨e,h3⟩:=hs t s h1 (by omega) h;obtain ⟨s',h4,h5⟩:=ih (t+1) _ (by omega) (by omega) (by omega) h3;exact ⟨s',h4,e.trans h5⟩
 exact key _ lo s (Int.le_refl _) h0 rfl hI
theorem zbM {α:Type}:∀ {ks:List α} {x:α},zbd ks x=none↔x∉ks
 | [],x=>by simp [zbd]
 | y::ys,x=>by
  unfold zbd;by_cases h:y=x
  ·rw [if_pos h];simp [h]
  ·rw [if_neg h,Option.map_eq_none_iff,zbM];simp [Ne.symm h]
abbrev ones {α:Type} (ks:List α):List Int:=List.replicate ks.length 1
theorem zu6 {α:Type} {ks:List α} {x:α}:(mget ks (ones ks) x 0=0)↔x∉ks:=by
 unfold mget;cases h:zbd ks x with
 | none=>simp [zbM.1 h]
 | some j=>
  have hx:x∈ks:=by
   refine Classical.byContradiction fun hn => ?_
   rw [zbM.2 hn] at h;cases h
  have:=zdW h;simp [hx,this]
theorem zn2 {α:Type} {ks:List α} {x:α} (h:x∉ks):zcj ks x=ks++[x]:=by
 unfold zcj;rw [zbM.2 h]
theorem zu8 {α:Type} {ks:List α} {x:α} (h:x∉ks):zlN ks (ones ks) x 1=ones (ks++[x]):=by
 unfold zlN;rw [zbM.2 h];show List.replicate ks.length 1++[1]=List.replicate (ks++[x]).length 1;rw [List.length_append,List.length_singleton,List.replicate_succ']
theorem zr2 {α:Type} [DecidableEq α]:∀ {l U:List α},l.Nodup->(∀ x∈l,x∈U)->l.length<=U.length
 | [],_,_,_=>Nat.zero_le _
 | a::l,U,hn,hs=>by
  have ha:=hs a (by simp);obtain ⟨h1,h2⟩:=List.nodup_cons.1 hn;have:=zr2 (U:=U.erase a) h2 (fun x hx=>(List.mem_erase_of_ne (by rintro rfl;exact h1 hx)).2 (hs x (by simp [hx])));rw [List.length_erase_of_mem ha] at this;have hp:0 < U.length:=List.length_pos_of_mem ha;rw [List.length_cons];omega
theorem zuH {l:List Int} {n:Nat} (h:l.Nodup) (hb:∀ x∈l,0<=x/\x < n):l.length<=n:=by
 have:=zr2 (U:=(List.range n).map Int.ofNat) h (fun x hx=>by
  have:=hb x hx;exact List.mem_map.2 ⟨x.toNat,List.mem_range.2 (by omega),by show ((x.toNat:Nat):Int)=x;omega⟩)
 simpa using this
theorem zn0 {α:Type} {ks:List α} {x:α} (h:x∈ks):∃ j,zbd ks x=some j:=by
 cases e:zbd ks x with
 | none=>exact absurd h (zbM.1 e)
 | some j=>exact ⟨j,rfl⟩
theorem ziR {α:Type} (ks:List α) (x:α):zbd (x::ks) x=some 0:=by unfold zbd;rw [if_pos rfl]
theorem ziS {α:Type} {ks:List α} {x y:α} (h:y≠x):zbd (y::ks) x=(zbd ks x).map (·+1):=by
 rw [zbd,if_neg h]
theorem znZ {α:Type}:∀ {ks:List α} {x:α} {j:Nat} (l:List α),zbd ks x=some j->zbd (ks++l) x=some j
 | [],_,_,_,h=>by cases h
 | y::ks,x,j,l,h=>by
  rw [List.cons_append];by_cases e:y=x
  ·subst e;rw [ziR] at h ⊢;exact h
  ·rw [ziS e] at h ⊢;cases hm:zbd ks x with
   | none=>rw [hm] at h;cases h
   | some i=>rw [hm] at h;rw [znZ l hm];exact h
theorem zn1 {α:Type}:∀ {ks:List α} {x:α},x∉ks->zbd (ks++[x]) x=some ks.length
 | [],x,_=>ziR _ _
 | y::ks,x,h=>by
  have hy:y≠x:=by rintro rfl;exact h (by simp)
  rw [List.cons_append,ziS hy,zn1 (fun hh=>h (by simp [hh]))];rfl
theorem zpN {α:Type}:∀ {ks:List α} {x:α} {k:Nat},ks[k]? =some x->(∀ j,j < k->ks[j]? ≠some x)->zbd ks x=some k
 | [],_,_,h,_=>by simp at h
 | y::ks,x,k,h,hf=>by
  cases k with
  | zero=>
   have:y=x:=by simpa using h
   subst this;exact ziR _ _
  | succ k=>
   have hy:y≠x:=by have:=hf 0 (by omega);simpa using this
   rw [ziS hy,zpN (k:=k) (by simpa using h) (fun j hj=>by have:=hf (j+1) (by omega);simpa using this)];rfl
theorem zrR {α:Type} {ks:List α} {x y:α} {j:Nat} (h:zbd ks x=some j) (k:zbd ks y=some j):x=y:=by
 have:=zfn h;rw [zfn k] at this;injection this with this;exact this.symm
theorem ztZ {α:Type} {ks:List α} (hn:ks.Nodup) {j:Nat} (hj:j < ks.length):zbd ks ks[j]=some j:=
 zpN (by simp) fun i hi e=>by
  have hi':i < ks.length:=by omega
  rw [List.getElem?_eq_getElem hi'] at e;exact List.pairwise_iff_getElem.1 hn i j hi' hj hi (Option.some.inj e)
theorem zrS {α β:Type} (f:α->β):∀ {ks:List α} {x:α},(∀ y∈ks,f y=f x->y=x)->zbd (ks.map f) (f x)=zbd ks x
 | [],_,_=>rfl
 | y::ks,x,h=>by
  have ih:=zrS f (ks:=ks) (x:=x) (fun z hz=>h z (by simp [hz]));rw [List.map_cons];by_cases e:y=x
  ·subst e;rw [ziR,ziR]
  ·rw [ziS e,ziS (fun hh=>e (h y (by simp) hh)),ih]
def iota (n:Nat):List Int:=(List.range n).map fun j:Nat=>(j:Int)
theorem iota_len (n:Nat):(iota n).length=n:=by simp [iota]
theorem zrC (n:Nat):iota (n+1)=iota n++[(n:Int)]:=by simp [iota,List.range_succ]
theorem zu5 {α:Type} {ks:List α} {x:α} {j:Nat} (h:zbd ks x=some j):mget ks (iota ks.length) x 0=j:=by
 have:=zdW h;unfold mget;rw [h];simp [iota,this]
theorem zkw {α:Type} {ks:List α} {x:α}:mhas ks x=true↔x∈ks:=by
 unfold mhas;cases e:zbd ks x with
 | none=>simp [zbM.1 e]
 | some j=>
  have:=zfn e;simp [List.mem_of_getElem? this]
theorem zuG {α:Type} {ks:List α} {x:α} (h:x∉ks):zlN ks (iota ks.length) x ks.length=iota (ks++[x]).length:=by
 unfold zlN;rw [zbM.2 h,List.length_append,List.length_singleton,zrC]
theorem zoC {α:Type} [DecidableEq α]:∀ {l U:List α},U.Nodup->(∀ x∈U,x∈l)->l.length<=U.length->l.Nodup
 | [],_,_,_,_=>List.nodup_nil
 | a::l,U,hU,hs,hl=>by
  have ha:a∉l:=fun ha=>by
   have:=zr2 (l:=U) (U:=l) hU (fun x hx=>by
    rcases List.mem_cons.1 (hs x hx) with rfl | h
    ·exact ha
    ·exact h)
   rw [List.length_cons] at hl;omega
  refine List.nodup_cons.2 ⟨ha,?_⟩;refine zoC (U:=U.erase a) (hU.erase a) (fun x hx => ?_) ?_
  ·have hne:x≠a:=((List.Nodup.mem_erase_iff hU).1 hx).1;rcases List.mem_cons.1 (hs x (List.mem_of_mem_erase hx)) with h | h
   ·exact absurd h hne
   ·exact h
  ·have:U.length - 1<=(U.erase a).length:=by
    by_cases h:a∈U
    ·rw [List.length_erase_of_mem h];omega
    ·rw [List.erase_of_not_mem h];omega
   rw [List.length_cons] at hl;omega
theorem zki {a b:List Int} (hl:a.length=b.length):∀ (n:Nat) (i:Int),0<=i->i<=a.length->(a.length - i).toNat=n->a.length<=2305843009213693951->(∀ j:Int,0<=j->j < i->ix a j=ix b j)->zfU a b i=some (decide (a=b)):=by
 intro n;induction n with
 | zero=>
  intro i h0 h1 hn hs h;rw [zhS];unfold zbS
  (try dsimp only);(repeat' first | (with_reducible refine G_to ?_ ?_;focus (first | omega | (unfold fits;omega) | (unfold room;(try simp only [List.length_append,List.length_cons,List.length_nil]);omega))) | (with_reducible refine zeV ?_ ?_) | (with_reducible refine zfN ?_) | (with_reducible refine zfM ?_) | (with_reducible refine ziL (fun _ => ?_) (fun _ => ?_)))<;>try (exfalso;omega)
  ·rw [Option.some_inj,eq_comm,decide_eq_true_iff];exact zrJ hl (fun j a b=>h j a (by omega))
 | succ n ih=>
  intro i h0 h1 hn hs h;rw [zhS];unfold zbS
  (try dsimp only);(repeat' first | (with_reducible refine G_to ?_ ?_;focus (first | omega | (unfold fits;omega) | (unfold room;(try simp only [List.length_append,List.length_cons,List.length_nil]);omega))) | (with_reducible refine zeV ?_ ?_) | (with_reducible refine zfN ?_) | (with_reducible refine zfM ?_) | (with_reducible refine ziL (fun _ => ?_) (fun _ => ?_)))<;>try (exfalso;omega)
  ·rw [Option.some_inj,eq_comm,decide_eq_false_iff_not];rintro rfl;contradiction
  ·rename_i hx;exact ih _ (by omega) (by omega) (by omega) hs (zlX h (Decidable.not_not.1 hx))
theorem znh {a b:List Int} (hs:a.length<=2305843009213693951):zkB a b=some (decide (a=b)):=by
 unfold zkB
 (try dsimp only);(repeat' first | (with_reducible refine G_to ?_ ?_;focus (first | omega | (unfold fits;omega) | (unfold room;(try simp only [List.length_append,List.length_cons,List.length_nil]);omega))) | (with_reducible refine zeV ?_ ?_) | (with_reducible refine zfN ?_) | (with_reducible refine zfM ?_) | (with_reducible refine ziL (fun _ => ?_) (fun _ => ?_)))<;>try (exfalso;omega)
 ·rw [Option.some_inj,eq_comm,decide_eq_false_iff_not];rintro rfl;contradiction
 ·exact zki (by omega) _ 0 (by omega) (by omega) rfl hs (fun j a b=>by omega)
theorem zjz {s:List Int} (hs:s.length * 8<=140737488355328):zeR s=some s:=by
 have hr:G (room ([]:List Int) s 8) (some (([]:List Int)++s))=some s:=by
  rw [zal (zua (by simpa using hs))];rfl
 unfold zeR;refine ztR (fun h => ?_) (fun h=>hr);obtain rfl:s=[]:=List.length_eq_zero_iff.1 h;rw [hr];exact zkM (ts:=[(.list (.int .i64))]) (some ([]:List Int))
theorem zkl {letters:Int} {w:List Int} (hL:1<=letters/\letters<=4) (hw:w.length<=(60:Int)):∀ (n:Nat) (i:Int),0<=i->i<=w.length->(w.length - i).toNat=n->(∀ j:Int,0<=j->j < i->0<=ix w j/\ix w j < letters)->zfZ letters w i=some (mayE letters w):=by
 intro n;induction n with
 | zero=>
  intro i h0 h1 hn h;rw [zhY];unfold zbV
  (try dsimp only);(repeat' first | (with_reducible refine G_to ?_ ?_;focus (first | omega | (unfold fits;omega) | (unfold room;(try simp only [List.length_append,List.length_cons,List.length_nil]);omega))) | (with_reducible refine zeV ?_ ?_) | (with_reducible refine zfN ?_) | (with_reducible refine zfM ?_) | (with_reducible refine ziL (fun _ => ?_) (fun _ => ?_)))<;>try (exfalso;omega)
  ·rw [zo2 hL hw (fun j a b=>h j a (by omega))]
 | succ n ih=>
  intro i h0 h1 hn h;rw [zhY];unfold zbV
  (try dsimp only);(repeat' first | (with_reducible refine G_to ?_ ?_;focus (first | omega | (unfold fits;omega) | (unfold room;(try simp only [List.length_append,List.length_cons,List.length_nil]);omega))) | (with_reducible refine zeV ?_ ?_) | (with_reducible refine zfN ?_) | (with_reducible refine zfM ?_) | (with_reducible refine ziL (fun _ => ?_) (fun _ => ?_)))<;>try (exfalso;omega)
  ·rw [zpL hL hw (i:=i) (by omega) (by omega)]
  ·rw [zpL hL hw (i:=i) (by omega) (by omega)]
  ·exact ih _ (by omega) (by omega) (by omega) (zlX h (by omega))
theorem zf0 {letters:Int} {w:List Int}:zkE letters w=some (mayE letters w):=by
 unfold zkE
 (try dsimp only);(repeat' first | (with_reducible refine G_to ?_ ?_;focus (first | omega | (unfold fits;omega) | (unfold room;(try simp only [List.length_append,List.length_cons,List.length_nil]);omega))) | (with_reducible refine zeV ?_ ?_) | (with_reducible refine zfN ?_) | (with_reducible refine zfM ?_) | (with_reducible refine ziL (fun _ => ?_) (fun _ => ?_)))<;>try (exfalso;omega)
 ·rw [zl9 (by omega)]
 ·rw [zl9 (by omega)]
 ·rw [zrP (by omega) (by omega)]
 ·exact zkl (by omega) (by omega) _ 0 (by omega) (by omega) rfl (fun j a b=>by omega)
abbrev Rul:=Int×List Int×Unit
abbrev Gm:=Int×Int×List Rul×Unit
def SgB (g:Gm) (s:Int):Prop:=s < 0\/g.1+g.2.1<=s
structure RlOk (g:Gm) (r:Rul):Prop where
 f0:0<=r.1
 f1:r.1 < g.2.1
 l:r.2.1.length<=3
 s:∀ x∈r.2.1,0<=x/\x < g.1+g.2.1
structure GOk (g:Gm):Prop where
 a0:1<=g.1
 a1:g.1<=4
 n0:1<=g.2.1
 n1:g.2.1<=6
 ln:g.2.2.1.length<=20
 r:∀ k:Int,0<=k->k < g.2.2.1.length->RlOk g (ix g.2.2.1 k)
section
variable {g:Gm}
theorem zsp (ha:1<=g.1) (ha1:g.1<=4) (hn0:1<=g.2.1) (hn1:g.2.1<=6) {i:Int} (hl:(ix g.2.2.1 i).2.1.length<=3) {r6:Int->Option Int} (i0:0<=i) (i1:i < 1000):
  ((∃ x∈(ix g.2.2.1 i).2.1,SgB g x)->zbu g i r6 0=some 2)/\((¬ ∃ x∈(ix g.2.2.1 i).2.1,SgB g x)->zbu g i r6 0=r6 (i+1)):=by
 have key:∀ x,((∃ x∈(ix g.2.2.1 i).2.1,SgB g x)->some 2=x)->((¬ ∃ x∈(ix g.2.2.1 i).2.1,SgB g x)->r6 (i+1)=x)->zbu g i r6 0=x:=fun x h1 h2=>by
  refine zud (len:=((ix g.2.2.1 i).2.1.length:Int)) (bad:=fun t=>SgB g (ix (ix g.2.2.1 i).2.1 t)) (lo:=0) (by omega) (fun t t0 t1=>⟨fun hb => ?_,fun hb => ?_⟩) (fun hh => ?_)
  ·have hb':SgB g (ix (ix g.2.2.1 i).2.1 t):=hb;rw [<- h1 ⟨_,zgI t0 t1,hb⟩];unfold SgB at hb';rw [zdH];unfold zbh
   (try dsimp only);(repeat' first | (with_reducible refine G_to ?_ ?_;focus (first | omega | (unfold fits;omega) | (unfold room;(try simp only [List.length_append,List.length_cons,List.length_nil]);omega))) | (with_reducible refine zeV ?_ ?_) | (with_reducible refine zfN ?_) | (with_reducible refine zfM ?_) | (with_reducible refine ziL (fun _ => ?_) (fun _ => ?_)))<;>try (exfalso;omega)
   all_goals rfl
  ·have hb' : ¬ SgB g (ix (ix g.2.2.1 i).2.1 t):=hb;unfold SgB at hb'
   conv=>lhs;rw [zdH];unfold zbh
   (try dsimp only);(repeat' first | (with_reducible refine G_to ?_ ?_;focus (first | omega | (unfold fits;omega) | (unfold room;(try simp only [List.length_append,List.length_cons,List.length_nil]);omega))) | (with_reducible refine zeV ?_ ?_) | (with_reducible refine zfN ?_) | (with_reducible refine zfM ?_) | (with_reducible refine ziL (fun _ => ?_) (fun _ => ?_)))<;>try (exfalso;omega)
   all_goals rfl
  ·rw [zdH];unfold zbh
   (try dsimp only);(repeat' first | (with_reducible refine G_to ?_ ?_;focus (first | omega | (unfold fits;omega) | (unfold room;(try simp only [List.length_append,List.length_cons,List.length_nil]);omega))) | (with_reducible refine zeV ?_ ?_) | (with_reducible refine zfN ?_) | (with_reducible refine zfM ?_) | (with_reducible refine ziL (fun _ => ?_) (fun _ => ?_)))<;>try (exfalso;omega)
   refine h2 fun h => ?_
   obtain ⟨j,j0,j1,hj⟩:=ztM.1 h;exact hh j j0 j1 hj
 exact ⟨fun h=>(key _ (fun _=>rfl) (fun h2=>absurd h h2)),fun h=>(key _ (fun h2=>absurd h2 h) (fun _=>rfl))⟩
theorem zqD (ha:1<=g.1) (ha1:g.1<=4) (hn0:1<=g.2.1) (hn1:g.2.1<=6) {l:List Int} (hl:l.length<=3):zeU (zcD l g) (∃ x∈l,SgB g x):=
 zhI (f:=fun x=>zew x g) (zgm l g) (by omega) (fun x _=>by
  unfold zew SgB;by_cases h:x < 0
  ·rw [if_pos (decide_eq_true h)];exact zeU.of (by simp [h])
  ·rw [if_neg (by simpa using h),zal (by unfold fits;omega)];exact zeU.dec (by simp [h]))
theorem zqb:∃ e,zbk g=some e/\zi1 g=some e/\(e=0->GOk g):=by
 unfold zbk zi1;by_cases c1:g.1 < 1
 ·exact ⟨2,by rw [if_pos (decide_eq_true c1)],by rw [if_pos (decide_eq_true c1)],by omega⟩
 simp only [if_neg (show ¬ decide (g.1 < 1)=true by simpa using c1)];by_cases c2:4 < g.1
 ·exact ⟨2,by rw [if_pos (decide_eq_true c2)],by rw [if_pos (decide_eq_true c2)],by omega⟩
 simp only [if_neg (show ¬ decide (4 < g.1)=true by simpa using c2)];by_cases c3:g.2.1 < 1
 ·exact ⟨1,by rw [if_pos (decide_eq_true c3)],by rw [if_pos (decide_eq_true c3)],by omega⟩
 simp only [if_neg (show ¬ decide (g.2.1 < 1)=true by simpa using c3)];by_cases c4:6 < g.2.1
 ·exact ⟨1,by rw [if_pos (decide_eq_true c4)],by rw [if_pos (decide_eq_true c4)],by omega⟩
 simp only [if_neg (show ¬ decide (6 < g.2.1)=true by simpa using c4)];by_cases c5:(20:Int) < g.2.2.1.length
 ·exact ⟨1,by rw [if_pos (decide_eq_true c5)],by rw [if_pos (decide_eq_true c5)],by omega⟩
 simp only [if_neg (show ¬ decide ((20:Int) < g.2.2.1.length)=true by simpa using c5)];have key:∀ (n:Nat) (t:Int),0<=t->t<=g.2.2.1.length->((g.2.2.1.length:Int) - t).toNat=n->∃ e,zdV g t=some e/\zdv g t=some e/\(e=0->∀ k:Int,t<=k->k < g.2.2.1.length->RlOk g (ix g.2.2.1 k)):=by
  intro n;induction n with
  | zero=>
   intro t t0 t1 hn;refine ⟨0,?_,?_,fun _ k a b=>by omega⟩
   ·rw [zf4];unfold zbw;rw [if_neg (by simp only [decide_eq_true_eq];omega)]
   ·rw [zgY];unfold zbE;rw [if_neg (by simp only [decide_eq_true_eq];omega)]
  | succ n ih=>
   intro t t0 t1 hn;have hlt:t < g.2.2.1.length:=by omega
   rw [zf4,zgY];unfold zbw zbE;simp only [if_pos (decide_eq_true hlt),zal (show 0<=t/\t < (g.2.2.1.length:Int) from ⟨t0,hlt⟩)];by_cases d1:(ix g.2.2.1 t).1 < 0
   ·exact ⟨2,by rw [if_pos (decide_eq_true d1)],by rw [if_pos (decide_eq_true d1)],by omega⟩
   simp only [if_neg (show ¬ decide ((ix g.2.2.1 t).1 < 0)=true by simpa using d1)];by_cases d2:g.2.1<=(ix g.2.2.1 t).1
   ·exact ⟨2,by rw [if_pos (decide_eq_true d2)],by rw [if_pos (decide_eq_true d2)],by omega⟩
   simp only [if_neg (show ¬ decide (g.2.1<=(ix g.2.2.1 t).1)=true by simpa using d2)];by_cases d3:(3:Int) < (ix g.2.2.1 t).2.1.length
   ·exact ⟨1,by rw [if_pos (decide_eq_true d3)],by rw [if_pos (decide_eq_true d3)],by omega⟩
   simp only [if_neg (show ¬ decide ((3:Int) < (ix g.2.2.1 t).2.1.length)=true by simpa using d3)];obtain ⟨w1,w2⟩:=zsp (g:=g) (by omega) (by omega) (by omega) (by omega) (i:=t) (by omega) (r6:=zdv g) t0 (by omega);obtain ⟨b,eb,hb⟩:=zqD (g:=g) (by omega) (by omega) (by omega) (by omega) (l:=(ix g.2.2.1 t).2.1) (by omega);rw [show (g.1,(g.2.1,(g.2.2.1,())))=g from rfl,eb];by_cases c:∃ x∈(ix g.2.2.1 t).2.1,SgB g x
   ·have:b=true:=hb.2 c;subst this;exact ⟨2,rfl,w1 c,by omega⟩
   ·have:b=false:=by cases b;rfl;exact absurd (hb.1 rfl) c
    subst this;obtain ⟨e,e1,e2,e3⟩:=ih (t+1) (by omega) (by omega) (by omega);refine ⟨e,?_,(w2 c).trans e2,fun h k k0 k1 => ?_⟩
    ·show G _ _=_;rw [zal (by unfold fits;omega),e1]
    ·by_cases ek:k=t
     ·subst ek;exact ⟨by omega,by omega,by omega,fun x hx=>by
       have : ¬ SgB g x:=fun h=>c ⟨x,hx,h⟩
       unfold SgB at this;omega⟩
     ·exact e3 h k (by omega) k1
 obtain ⟨e,e1,e2,e3⟩:=key _ 0 (Int.le_refl _) (by omega) rfl;exact ⟨e,e1,e2,fun h=>⟨by omega,by omega,by omega,by omega,by omega,e3 h⟩⟩
end
abbrev K3:=Int×Int×Int×Unit
abbrev Chc:=Int×List Int×Unit
def nn (Lt:Int) (w:List Int) (f:Int->Int->Int->Int) (s i k:Int):Int:=
 if s < Lt then (if k=i+1/\ix w i=s then 0 else 1099511627776) else f (s - Lt) i k
def zii (n:Int->Int) (rr:Int->Int×List Int) (x:Int×List Int) (k:Int):Int×List Int:=
 if n k=1099511627776 then x else if n k+(rr k).1 < x.1 then (n k+(rr k).1,k::(rr k).2) else x
theorem zub {n:Int->Int} {rr:Int->Int×List Int} {x:Int×List Int} {k v:Int} (e:n k=v) (h:v=1099511627776):x=zii n rr x k:=by unfold zii;rw [if_pos (e.trans h)]
theorem zsY {n:Int->Int} {rr:Int->Int×List Int} {x:Int×List Int} {k v:Int} (e:n k=v) (h : ¬ v=1099511627776) (h2:v+(rr k).1 < x.1):(v+(rr k).1,k::(rr k).2)=zii n rr x k:=by
 subst e;unfold zii;rw [if_neg h,if_pos h2]
theorem zsX {n:Int->Int} {rr:Int->Int×List Int} {x:Int×List Int} {k v:Int} (e:n k=v) (h : ¬ v=1099511627776) (h2 : ¬ v+(rr k).1 < x.1):x=zii n rr x k:=by
 subst e;unfold zii;rw [if_neg h,if_neg h2]
def rowL (n:Int->Int) (rr:Int->Int×List Int):Nat->Int->Int×List Int->Int×List Int
 | 0,_,x=>x
 | m+1,k,x=>rowL n rr m (k+1) (zii n rr x k)
def rowF (Lt:Int) (w:List Int) (f:Int->Int->Int->Int):List Int->Int->Int->Int×List Int
 | [],i,j=>(if i=j then 0 else 1099511627776,[])
 | s::r,i,j=>rowL (fun k=>nn Lt w f s i k) (fun k=>rowF Lt w f r k j) (j+1 - i).toNat i (1099511627776,[])
theorem zkD {n:Int->Int} {rr:Int->Int×List Int} (P:Int×List Int->Prop) {hi:Int}:∀ (m:Nat) (k:Int) (x:Int×List Int),k+m<=hi->P x->(∀ q x,k<=q->q < hi->P x->P (zii n rr x q))->P (rowL n rr m k x)
 | 0,_,_,_,h0,_=>h0
 | m+1,k,x,hk,h0,hs=>zkD P m (k+1) _ (by omega) (hs k x (by omega) (by omega) h0) fun q x h1 h2=>hs q x (by omega) h2
def Spl (Lt:Int) (w:List Int) (f:Int->Int->Int->Int):List Int->Int->Int->List Int->Int->Prop
 | [],i,j,l,c=>i=j/\l=[]/\c=0
 | s::r,i,j,l,c=>∃ k l' c',l=k::l'/\i<=k/\k<=j/\nn Lt w f s i k < 1099511627776/\Spl Lt w f r k j l' c'/\c=nn Lt w f s i k+c'
section
variable {Lt:Int} {w:List Int} {f:Int->Int->Int->Int}
theorem nn_b (hf:∀ A i k,0<=f A i k/\f A i k<=1099511627776) (s i k:Int):0<=nn Lt w f s i k/\nn Lt w f s i k<=1099511627776:=by
 unfold nn;split
 ·split<;>omega
 ·exact hf _ _ _
theorem zob (hf:∀ A i k,0<=f A i k/\f A i k<=1099511627776):∀ (l:List Int) (i j:Int),0<=(rowF Lt w f l i j).1/\(rowF Lt w f l i j).1<=1099511627776
 | [],i,j=>by unfold rowF;dsimp only;split<;>omega
 | s::r,i,j=>by
  unfold rowF;refine zkD (fun x=>0<=x.1/\x.1<=1099511627776) (hi:=i+(j+1 - i).toNat) _ _ _ (Int.le_refl _) (by simp) fun q x _ _ h => ?_
  have h1:=nn_b (Lt:=Lt) (w:=w) hf s i q;have h2:=zob hf r q j;unfold zii;dsimp only;split
  ·exact h
  ·split
   ·constructor<;>dsimp only<;>omega
   ·exact h
theorem zpX:∀ (l:List Int) (i j:Int),(rowF Lt w f l i j).2.length<=l.length
 | [],i,j=>by unfold rowF;simp
 | s::r,i,j=>by
  unfold rowF;refine zkD (fun x=>x.2.length<=(s::r).length) (hi:=i+(j+1 - i).toNat) _ _ _ (Int.le_refl _) (by simp) fun q x _ _ h => ?_
  have h2:=zpX r q j;unfold zii;dsimp only;split
  ·exact h
  ·split
   ·simp only [List.length_cons];omega
   ·exact h
theorem zpY (hf:∀ A i k,0<=f A i k/\f A i k<=1099511627776):∀ (l:List Int) (i j:Int),i<=j->(rowF Lt w f l i j).1 < 1099511627776->Spl Lt w f l i j (rowF Lt w f l i j).2 (rowF Lt w f l i j).1
 | [],i,j,_,h=>by
  unfold rowF at *
  dsimp only at *
  by_cases c:i=j
  ·rw [if_pos c];exact ⟨c,rfl,rfl⟩
  ·rw [if_neg c] at h;omega
 | s::r,i,j,hij,h=>by
  have key:∀ x:Int×List Int,x=rowF Lt w f (s::r) i j->(x.1<=1099511627776/\(x.1 < 1099511627776->Spl Lt w f (s::r) i j x.2 x.1)):=by
   intro x hx;subst hx;unfold rowF;refine zkD (fun x=>x.1<=1099511627776/\(x.1 < 1099511627776->Spl Lt w f (s::r) i j x.2 x.1)) (hi:=i+(j+1 - i).toNat) _ _ _ (Int.le_refl _) ⟨by simp,fun h=>by simp at h⟩ fun q x h1 h2 h => ?_
   have k1:=nn_b (Lt:=Lt) (w:=w) hf s i q;have k2:=zob (Lt:=Lt) (w:=w) hf r q j;unfold zii;dsimp only;split
   ·exact h
   ·split
    ·rename_i c1 c2;refine ⟨by dsimp only;omega,fun _ => ?_⟩;exact ⟨q,_,_,rfl,by omega,by omega,by omega,zpY hf r q j (by omega) (by omega),rfl⟩
    ·exact h
  exact (key _ rfl).2 h
theorem Spl.low {f':Int->Int->Int->Int} (hf:∀ A i k,f' A i k<=f A i k):∀ (l:List Int) (i j:Int) (e:List Int) (c:Int),Spl Lt w f l i j e c->∃ c',c'<=c/\Spl Lt w f' l i j e c'
 | [],i,j,e,c,h=>⟨c,Int.le_refl _,h⟩
 | s::r,i,j,e,c,⟨k,l',c',h1,h2,h3,h4,h5,h6⟩=>by
  obtain ⟨c2,h7,h8⟩:=Spl.low hf r k j l' c' h5;have:nn Lt w f' s i k<=nn Lt w f s i k:=by
   unfold nn;split
   ·exact Int.le_refl _
   ·exact hf _ _ _
  exact ⟨nn Lt w f' s i k+c2,by omega,k,l',c2,h1,h2,h3,by omega,h8,rfl⟩
theorem zpu (s:Int) (r:List Int):cut (s::r) 1 ((s::r).length:Int)=r:=by
 unfold cut;simp
end
section
variable {Lt N:Int} {Mk:List Rul} {w:List Int} {ks:List K3} {cv:List Int} {bv:List Chc} {f:Int->Int->Int->Int}
theorem J14_p (hf:∀ A i k,0<=f A i k/\f A i k<=1099511627776) {s j best k n:Int} {r ends:List Int} {r8:Int->Int->Int->Int->List Rul->List Int->List K3->List Int->List K3->List Chc->List Int->Option (Int×List Int×Int×Int×List Rul×List Int×List K3×List Int×List K3×List Chc)}
  (hr:zbv r k j Lt N Mk w ks cv ks bv=some ((rowF Lt w f r k j).1,(rowF Lt w f r k j).2,Lt,N,Mk,w,ks,cv,ks,bv)) (hk:0<=k/\k<=1000) (hn:0<=n/\n<=1099511627776) (hl:r.length<=3) (nk:Int->Int) (hnk:nk k=n):
  zaM zbv (s::r) j best k ends r8 n Lt N Mk w ks cv ks bv=r8 (zii nk (fun k=>rowF Lt w f r k j) (best,ends) k).1 (k+1) Lt N Mk w ks cv ks bv (zii nk (fun k=>rowF Lt w f r k j) (best,ends) k).2:=by
 have h1:=zob (Lt:=Lt) (w:=w) hf r k j;have h2:=zpX (Lt:=Lt) (w:=w) (f:=f) r k j;unfold zaM zii;rw [hnk];by_cases c:n=1099511627776
 ·rw [if_pos (decide_eq_true c),if_pos c,zal (by unfold fits;omega)]
 ·rw [if_neg (by simpa using c),if_neg c,zal (by simp<;>omega),zpu,hr,Option.bind_some];rw [zal (by unfold fits;dsimp only;omega)];by_cases c2:n+(rowF Lt w f r k j).1 < best
  ·rw [if_pos (decide_eq_true c2),if_pos c2,zal (by unfold fits;dsimp only;omega),zal (by unfold room;simp only [List.length_cons,List.length_nil];omega),zal (by unfold fits;omega)];rfl
  ·rw [if_neg (by simpa using c2),if_neg c2,zal (by unfold fits;omega)]
theorem zvf (hf:∀ A i k,0<=f A i k/\f A i k<=1099511627776) (hof:∀ A i k,zbP A i k Lt N Mk w ks cv ks bv=some (f A i k,Lt,N,Mk,w,ks,cv,ks,bv)) (hL:1<=Lt/\Lt<=4) (hN:1<=N/\N<=6) (hw:w.length<=60):
  ∀ (l:List Int) (i j:Int),l.length<=3->(∀ s∈l,0<=s/\s < Lt+N)->0<=i->i<=j->j<=w.length->
  zbv l i j Lt N Mk w ks cv ks bv=some ((rowF Lt w f l i j).1,(rowF Lt w f l i j).2,Lt,N,Mk,w,ks,cv,ks,bv)
 | [],i,j,_,_,_,_,_=>by
  rw [zfg];unfold zbn;rw [if_pos (by simp)];unfold rowF;by_cases c:i=j
  ·rw [if_pos (decide_eq_true c),if_pos c]
  ·rw [if_neg (by simpa using c),if_neg c]
 | s::r,i,j,hl,hs,i0,ij,jw=>by
  have hl':r.length<=3:=by simp only [List.length_cons] at hl;omega
  have ih:=fun k (h1:i<=k) (h2:k<=j)=>zvf hf hof hL hN hw r k j hl' (fun x hx=>hs x (by simp [hx])) (by omega) h2 jw
  have hs0:=hs s (by simp);rw [zfg];unfold zbn;rw [if_neg (by simp<;>omega),zal (by simp<;>omega)];unfold rowF;have key:∀ (m:Nat) (k best:Int) (ends:List Int),(j+1 - k).toNat=m->i<=k->
    zaX zbv (s::r) i j best k Lt N Mk w ks cv ks bv ends=some ((rowL (fun k=>nn Lt w f s i k) (fun k=>rowF Lt w f r k j) m k (best,ends)).1,(rowL (fun k=>nn Lt w f s i k) (fun k=>rowF Lt w f r k j) m k (best,ends)).2,Lt,N,Mk,w,ks,cv,ks,bv):=by
   intro m;induction m with
   | zero=>
    intro k best ends hm hk;rw [zdL];unfold zaV;rw [if_neg (by simp only [decide_eq_true_eq];omega)];rfl
   | succ m ihm=>
    intro k best ends hm hk;have hkj:k<=j:=by omega
    rw [zdL];unfold zaV;rw [if_pos (decide_eq_true hkj)];have hix:ix (s::r) 0=s:=rfl;rw [hix];have fin:=fun n (hn:0<=n/\n<=1099511627776) (hnn:nn Lt w f s i k=n)=>(J14_p (s:=s) (best:=best) (ends:=ends) (r8:=fun best k c_8 c_9 c_10 c_11 l l_1 l_2 l_3 ends=>zaX zbv (s::r) i j best k c_8 c_9 c_10 c_11 l l_1 l_2 l_3 ends) hf (ih k hk hkj) ⟨by omega,by omega⟩ hn hl' (fun k=>nn Lt w f s i k) hnn).trans (ihm (k+1) _ _ (by omega) (by omega))
    by_cases c:s < Lt
    ·rw [if_neg (by simp only [decide_eq_true_eq];omega),zal (by unfold fits;omega)];by_cases c2:k=i+1
     ·rw [if_pos (decide_eq_true c2),zal (by omega)];unfold za1;by_cases c3:ix w i=s
      ·rw [if_pos (decide_eq_true c3)];exact fin 0 (by omega) (by unfold nn;rw [if_pos c,if_pos ⟨c2,c3⟩])
      ·rw [if_neg (by simpa using c3)];exact fin _ (by omega) (by unfold nn;rw [if_pos c,if_neg (fun h=>c3 h.2)])
     ·rw [if_neg (by simpa using c2)];unfold za1;rw [if_neg (by decide)];exact fin _ (by omega) (by unfold nn;rw [if_pos c,if_neg (fun h=>c2 h.1)])
    ·rw [if_pos (by simp only [decide_eq_true_eq];omega),zal (by unfold fits;omega),hof,Option.bind_some];exact fin _ (hf _ _ _) (by unfold nn;rw [if_neg c])
  exact key _ i _ _ rfl (Int.le_refl _)
theorem zvg {C:List (List (List Int))} (hf:∀ A i k,0<=f A i k/\f A i k<=1099511627776) (hC:∀ A i k:Int,0<=A->A < N->0<=i->i<=w.length->0<=k->k<=w.length->ix (ix (ix C A) i) k=f A i k)
  (hC0:(C.length:Int)=N) (hC1:∀ A:Int,0<=A->A < N->(ix C A).length=w.length+1) (hC2:∀ A i:Int,0<=A->A < N->0<=i->i<=w.length->(ix (ix C A) i).length=w.length+1) (hL:1<=Lt/\Lt<=4) (hN:1<=N/\N<=6) (hw:w.length<=60) {N':Int}:
  ∀ (l:List Int) (i j:Int),l.length<=3->(∀ s∈l,0<=s/\s < Lt+N)->0<=i->i<=j->j<=w.length->
  zbt ((Lt,N',Mk,()),w,C,()) l i j=some (rowF Lt w f l i j).1
 | [],i,j,_,_,_,_,_=>by
  rw [zf9];unfold zby;rw [if_pos (by simp)];unfold rowF;by_cases c:i=j
  ·rw [if_pos (decide_eq_true c),if_pos c]
  ·rw [if_neg (by simpa using c),if_neg c]
 | s::r,i,j,hl,hs,i0,ij,jw=>by
  have hl':r.length<=3:=by simp only [List.length_cons] at hl;omega
  have ih:=fun k (h1:i<=k) (h2:k<=j)=>zvg (N':=N') hf hC hC0 hC1 hC2 hL hN hw r k j hl' (fun x hx=>hs x (by simp [hx])) (by omega) h2 jw
  have hs0:=hs s (by simp);rw [zf9];unfold zby;rw [if_neg (by simp<;>omega)];unfold rowF;have key:∀ (m:Nat) (k best:Int) (ends:List Int),(j+1 - k).toNat=m->i<=k->best<=1099511627776->
    zaT zbt ((Lt,N',Mk,()),w,C,()) (s::r) i j best k=some (rowL (fun k=>nn Lt w f s i k) (fun k=>rowF Lt w f r k j) m k (best,ends)).1:=by
   intro m;induction m with
   | zero=>
    intro k best ends hm hk hb;rw [zei];unfold za4;rw [if_neg (by simp only [decide_eq_true_eq];omega)];rfl
   | succ m ihm=>
    intro k best ends hm hk hb;have hkj:k<=j:=by omega
    rw [zei];unfold za4;rw [if_pos (decide_eq_true hkj),zal (by simp<;>omega)];have hix:ix (s::r) 0=s:=rfl;rw [hix];have h1:=zob (Lt:=Lt) (w:=w) hf r k j;have fin:∀ n,0<=n/\n<=1099511627776->nn Lt w f s i k=n->zaY zbt ((Lt,N',Mk,()),w,C,()) (s::r) j best k (fun best k=>zaT zbt ((Lt,N',Mk,()),w,C,()) (s::r) i j best k) n=
      some (rowL (fun k=>nn Lt w f s i k) (fun k=>rowF Lt w f r k j) (m+1) k (best,ends)).1:=by
     intro n hn hnn;have hgo:∀ x:Int×List Int,x=zii (fun k=>nn Lt w f s i k) (fun k=>rowF Lt w f r k j) (best,ends) k->x.1<=1099511627776->zaT zbt ((Lt,N',Mk,()),w,C,()) (s::r) i j x.1 (k+1)=some (rowL (fun k=>nn Lt w f s i k) (fun k=>rowF Lt w f r k j) (m+1) k (best,ends)).1:=by
      intro x hx hxb;rw [rowL,<- hx];exact ihm (k+1) x.1 x.2 (by omega) (by omega) hxb
     unfold zaY;by_cases c:n < 1099511627776
     ·rw [if_pos (decide_eq_true c),zal (by simp<;>omega),zpu,ih k hk hkj,Option.bind_some];by_cases c2:n+(rowF Lt w f r k j).1 < best
      ·have c3:(rowF Lt w f r k j).1 < 1099511627776:=by omega
       rw [if_pos (decide_eq_true c3),zal (by unfold fits;omega)];unfold zaZ;rw [if_pos (decide_eq_true c2),zal (by unfold fits;omega),zal (by unfold fits;omega)];exact hgo (n+(rowF Lt w f r k j).1,k::(rowF Lt w f r k j).2) (zsY (n:=fun k=>nn Lt w f s i k) (rr:=fun k=>rowF Lt w f r k j) (x:=(best,ends)) hnn (by omega) c2) (by dsimp only;omega)
      ·have hst:=hgo (best,ends) (zsX hnn (by omega) c2) hb;by_cases c3:(rowF Lt w f r k j).1 < 1099511627776
       ·rw [if_pos (decide_eq_true c3),zal (by unfold fits;omega)];unfold zaZ;rw [if_neg (by simpa using c2),zal (by unfold fits;omega)];exact hst
       ·rw [if_neg (by simpa using c3)];unfold zaZ;rw [if_neg (by decide),zal (by unfold fits;omega)];exact hst
     ·rw [if_neg (by simpa using c),zal (by unfold fits;omega)];exact hgo (best,ends) (zub hnn (by omega)) hb
    by_cases c:s < Lt
    ·rw [if_pos (decide_eq_true c),zal (by unfold fits;omega)];by_cases c2:k=i+1
     ·rw [if_pos (decide_eq_true c2),zal (by dsimp only;omega),zal (by simp<;>omega)];unfold zbb;by_cases c3:ix w i=s
      ·rw [if_pos (decide_eq_true c3)];exact fin 0 (by omega) (by unfold nn;rw [if_pos c,if_pos ⟨c2,c3⟩])
      ·rw [if_neg (by simpa using c3)];exact fin _ (by omega) (by unfold nn;rw [if_pos c,if_neg (fun h=>c3 h.2)])
     ·rw [if_neg (by simpa using c2)];unfold zbb;rw [if_neg (by decide)];exact fin _ (by omega) (by unfold nn;rw [if_pos c,if_neg (fun h=>c2 h.1)])
    ·rw [if_neg (by simpa using c),zal (by simp<;>omega),zal (by unfold fits;dsimp only;omega),zal (by dsimp only;omega),zal (by dsimp only;rw [hC1 _ (by omega) (by omega)];omega),zal (by dsimp only;rw [hC2 _ _ (by omega) (by omega) (by omega) (by omega)];omega)];dsimp only;rw [hC _ _ _ (by omega) (by omega) (by omega) (by omega) (by omega) (by omega)];exact fin _ (hf _ _ _) (by unfold nn;rw [if_neg c])
  exact key _ i _ [] rfl (Int.le_refl _) (Int.le_refl _)
end
theorem zkx {α:Type} {ks:List α} {x y:α}:mhas (zcj ks x) y=true↔y=x\/mhas ks y=true:=by
 rw [zkw,zkw];by_cases h:x∈ks
 ·obtain ⟨j,hj⟩:=zn0 h;unfold zcj;rw [hj];constructor
  ·exact .inr
  ·rintro (rfl | h');exact h;exact h'
 ·rw [zn2 h,List.mem_append,List.mem_singleton];constructor
  ·rintro (h | h);exact .inr h;exact .inl h
  ·rintro (h | h);exact .inr h;exact .inl h
theorem zky {α β:Type} {ks:List α} {vs:List β} {x:α} {z v:β} (hl:vs.length=ks.length):((zeq ks vs x z).set (mpos ks x).toNat v).length=(zcj ks x).length/\0<=mpos ks x/\mpos ks x < ((zeq ks vs x z).length:Int):=by
 unfold zeq zcj mpos;cases h:zbd ks x with
 | none=>simp only [List.length_set,List.length_append,List.length_singleton];omega
 | some j=>have:=zdW h;simp only [List.length_set];omega
theorem zm8 {α β:Type} {ks:List α} {vs:List β} {x y:α} {z v d:β} (hl:vs.length=ks.length):mget (zcj ks x) ((zeq ks vs x z).set (mpos ks x).toNat v) y d=(open Classical in if y=x then v else mget ks vs y d):=by
 classical
 by_cases h:x∈ks
 ·obtain ⟨j,hj⟩:=zn0 h;have hlt:=zdW hj;unfold zeq zcj mpos mget;rw [hj];dsimp only;by_cases e:y=x
  ·subst e;rw [hj,if_pos rfl];simp [List.getD_eq_getElem?_getD,hl,hlt]
  ·rw [if_neg e];cases hy:zbd ks y with
   | none=>rfl
   | some q=>
    have hne:j≠q:=fun hh=>e (zrR hy (hh ▸ hj))
    simp [List.getD_eq_getElem?_getD,List.getElem?_set,hne]
 ·have hn:=zbM.2 h;unfold zeq mpos mget;rw [zn2 h,hn];dsimp only;have e1:(vs++[z]).set ((ks.length:Int)).toNat v=vs++[v]:=by
   rw [Int.toNat_natCast,<- hl,List.set_append_right _ _ (Nat.le_refl _)];simp
  rw [e1];by_cases e:y=x
  ·subst e;rw [zn1 h,if_pos rfl];simp [List.getD_eq_getElem?_getD,<- hl]
  ·rw [if_neg e];cases hy:zbd ks y with
   | none=>
    have:zbd (ks++[x]) y=none:=zbM.2 (by
     rw [List.mem_append,List.mem_singleton];rintro (h' | h')
     ·exact absurd h' (zbM.1 hy)
     ·exact e h')
    rw [this]
   | some q=>
    have:=zdW hy;rw [znZ _ hy];simp [List.getD_eq_getElem?_getD,List.getElem?_append_left (by omega:q < vs.length)]
theorem zlz:∀ (l:List Nat) (i x:Nat) (h:i < l.length),(l.set i x).sum+l[i]=l.sum+x
 | [],i,x,h=>by simp at h
 | y::l,0,x,h=>by simp;omega
 | y::l,i+1,x,h=>by
  have:=zlz l i x (by simpa using h);simp only [List.set_cons_succ,List.sum_cons,List.getElem_cons_succ];omega
def tot1 (q:List Int):Nat:=(q.map Int.toNat).sum
def tot2 (r:List (List Int)):Nat:=(r.map tot1).sum
def tot (C:List (List (List Int))):Nat:=(C.map tot2).sum
theorem zuB {C:List (List (List Int))} {a i j:Nat} {v:Int} (ha:a < C.length) (hi:i < (C.getD a []).length) (hj:j < ((C.getD a []).getD i []).length):
  tot (zg2 C a i j v)+(((C.getD a []).getD i []).getD j 0).toNat=tot C+v.toNat:=by
 have e1:C.getD a []=C[a]:=by simp [List.getD_eq_getElem?_getD,ha]
 rw [e1] at hi hj ⊢;have e2:C[a].getD i []=C[a][i]:=by simp [List.getD_eq_getElem?_getD,hi]
 rw [e2] at hj ⊢;have e3:C[a][i].getD j 0=C[a][i][j]:=by simp [List.getD_eq_getElem?_getD,hj]
 rw [e3];unfold tot zg2;rw [e1,e2,List.map_set];have h1:=zlz (C.map tot2) a (tot2 (C[a].set i (C[a][i].set j v))) (by simpa using ha);have h2:=zlz (C[a].map tot1) i (tot1 (C[a][i].set j v)) (by simpa using hi);have h3:=zlz (C[a][i].map Int.toNat) j v.toNat (by simpa using hj);rw [List.getElem_map] at h1 h2 h3;have k2:tot2 (C[a].set i (C[a][i].set j v))=((C[a].map tot1).set i (tot1 (C[a][i].set j v))).sum:=by unfold tot2;rw [List.map_set]
 have k3:tot1 (C[a][i].set j v)=((C[a][i].map Int.toNat).set j v.toNat).sum:=by unfold tot1;rw [List.map_set]
 have k4:tot2 C[a]=(C[a].map tot1).sum:=rfl;have k5:tot1 C[a][i]=(C[a][i].map Int.toNat).sum:=rfl;omega
noncomputable def fM (ks:List K3) (cv:List Int) (A i k:Int):Int:=if mhas ks (A,(i,(k,())))=true then mget ks cv (A,(i,(k,()))) 0 else 1099511627776
structure CI (g:Gm) (w:List Int) (ks:List K3) (cv:List Int) (bv:List Chc) (C:List (List (List Int))):Prop where
 lc:cv.length=ks.length
 lb:bv.length=ks.length
 v:∀ A i j,mhas ks (A,(i,(j,())))=true->(0<=A/\A < g.2.1)/\(0<=i/\i<=j/\j<=w.length)/\(1<=fM ks cv A i j/\fM ks cv A i j < 1099511627776)/\
  ∃ k ends c,mget ks bv (A,(i,(j,()))) ((0,([],())):Chc)=(k,ends,())/\(0<=k/\k < g.2.2.1.length)/\(ix g.2.2.1 k).1=A/\Spl g.1 w (fM ks cv) (ix g.2.2.1 k).2.1 i j ends c/\c+1<=fM ks cv A i j
 c0:(C.length:Int)=g.2.1
 c1:∀ A:Int,0<=A->A < g.2.1->(ix C A).length=w.length+1
 c2:∀ A i:Int,0<=A->A < g.2.1->0<=i->i<=w.length->(ix (ix C A) i).length=w.length+1
 c:∀ A i k:Int,0<=A->A < g.2.1->0<=i->i<=w.length->0<=k->k<=w.length->ix (ix (ix C A) i) k=fM ks cv A i k
section
variable {g:Gm} {w:List Int} {ks:List K3} {cv:List Int} {bv:List Chc} {C:List (List (List Int))}
theorem CI.b (h:CI g w ks cv bv C) (A i k:Int):0<=fM ks cv A i k/\fM ks cv A i k<=1099511627776:=by
 by_cases c:mhas ks (A,(i,(k,())))=true
 ·have:=(h.v A i k c).2.2.1;omega
 ·unfold fM;rw [if_neg c];omega
theorem zt3 {A i k:Int}:zbP A i k g.1 g.2.1 g.2.2.1 w ks cv ks bv=some (fM ks cv A i k,g.1,g.2.1,g.2.2.1,w,ks,cv,ks,bv):=by
 unfold zbP fM;by_cases c:mhas ks (A,(i,(k,())))=true
 ·rw [if_pos c,if_pos c]
 ·rw [if_neg c,if_neg c]
theorem zvi {C:List (List (List Int))} {a i j:Nat} {v:Int} (ha:a < C.length) (hi:i < (C.getD a []).length) (hj:j < ((C.getD a []).getD i []).length) (A I K:Int) (hA:0<=A/\A < C.length) (hI:0<=I) (hK:0<=K):
  ix (ix (ix (zg2 C a i j v) A) I) K=if A=a/\I=i/\K=j then v else ix (ix (ix C A) I) K:=by
 obtain ⟨A,rfl⟩:∃ n:Nat,A=n:=⟨A.toNat,by omega⟩;obtain ⟨I,rfl⟩:∃ n:Nat,I=n:=⟨I.toNat,by omega⟩;obtain ⟨K,rfl⟩:∃ n:Nat,K=n:=⟨K.toNat,by omega⟩;simp only [zhP];unfold zg2;have d1:(default:List (List Int))=[]:=rfl;have d2:(default:List Int)=[]:=rfl;have d3:(default:Int)=0:=rfl;simp only [d1,d2,d3];by_cases ca:A=a
 ·subst ca;have e1:(C.set A ((C.getD A []).set i (((C.getD A []).getD i []).set j v))).getD A []=(C.getD A []).set i (((C.getD A []).getD i []).set j v):=by simp [List.getD_eq_getElem?_getD,ha]
  rw [e1];by_cases ci:I=i
  ·subst ci;have e2:((C.getD A []).set I (((C.getD A []).getD I []).set j v)).getD I []=((C.getD A []).getD I []).set j v:=by
    rw [List.getD_eq_getElem?_getD,List.getElem?_set_self hi];rfl
   rw [e2];by_cases cj:K=j
   ·subst cj;rw [if_pos ⟨rfl,rfl,rfl⟩,List.getD_eq_getElem?_getD,List.getElem?_set_self hj];rfl
   ·rw [if_neg (by omega),List.getD_eq_getElem?_getD,List.getElem?_set_ne (by omega),<- List.getD_eq_getElem?_getD]
  ·rw [if_neg (by omega)];have e2:((C.getD A []).set i (((C.getD A []).getD i []).set j v)).getD I []=(C.getD A []).getD I []:=by
    rw [List.getD_eq_getElem?_getD,List.getElem?_set_ne (by omega),<- List.getD_eq_getElem?_getD]
   rw [e2]
 ·rw [if_neg (by omega)];have e1:(C.set a ((C.getD a []).set i (((C.getD a []).getD i []).set j v))).getD A []=C.getD A []:=by
   rw [List.getD_eq_getElem?_getD,List.getElem?_set_ne (by omega),<- List.getD_eq_getElem?_getD]
  rw [e1]
theorem zue {C:List (List (List Int))} {a i j:Nat} {v:Int}:(zg2 C a i j v).length=C.length/\(∀ A:Int,0<=A->A < C.length->(ix (zg2 C a i j v) A).length=(ix C A).length)/\
  ∀ A I:Int,0<=A->A < C.length->0<=I->(ix (ix (zg2 C a i j v) A) I).length=(ix (ix C A) I).length:=by
 have d1:(default:List (List Int))=[]:=rfl;have d2:(default:List Int)=[]:=rfl;refine ⟨by unfold zg2;simp,fun A h0 h1 => ?_,fun A I h0 h1 h2 => ?_⟩
 ·obtain ⟨A,rfl⟩:∃ n:Nat,A=n:=⟨A.toNat,by omega⟩;simp only [zhP,d1];unfold zg2;by_cases ca:A=a
  ·subst ca;rw [List.getD_eq_getElem?_getD,List.getElem?_set_self (by omega)];simp
  ·rw [List.getD_eq_getElem?_getD,List.getElem?_set_ne (by omega),<- List.getD_eq_getElem?_getD]
 ·obtain ⟨A,rfl⟩:∃ n:Nat,A=n:=⟨A.toNat,by omega⟩;obtain ⟨I,rfl⟩:∃ n:Nat,I=n:=⟨I.toNat,by omega⟩;simp only [zhP,d1,d2];unfold zg2;by_cases ca:A=a
  ·subst ca;have e1:(C.set A ((C.getD A []).set i (((C.getD A []).getD i []).set j v))).getD A []=(C.getD A []).set i (((C.getD A []).getD i []).set j v):=by
    rw [List.getD_eq_getElem?_getD,List.getElem?_set_self (by omega)];rfl
   rw [e1];by_cases ci:I=i
   ·subst ci;by_cases hi:I < (C.getD A []).length
    ·rw [List.getD_eq_getElem?_getD,List.getElem?_set_self hi];simp
    ·rw [List.set_eq_of_length_le (by omega)]
   ·rw [List.getD_eq_getElem?_getD,List.getElem?_set_ne (by omega),<- List.getD_eq_getElem?_getD]
  ·have e1:(C.set a ((C.getD a []).set i (((C.getD a []).getD i []).set j v))).getD A []=C.getD A []:=by
    rw [List.getD_eq_getElem?_getD,List.getElem?_set_ne (by omega),<- List.getD_eq_getElem?_getD]
   rw [e1]
end
section
variable {g:Gm} {w:List Int} {ks:List K3} {cv:List Int} {bv:List Chc} {C:List (List (List Int))}
noncomputable abbrev putC (ks:List K3) (cv:List Int) (x:K3) (v:Int):List Int:=(zeq ks cv x (0:Int)).set (mpos ks x).toNat v
noncomputable abbrev putB (ks:List K3) (bv:List Chc) (x:K3) (b:Chc):List Chc:=(zeq ks bv x ((0,([],())):Chc)).set (mpos ks x).toNat b
theorem zl3 (hl:cv.length=ks.length) {A i j v:Int} (B I J:Int):fM (zcj ks (A,(i,(j,())))) (putC ks cv (A,(i,(j,()))) v) B I J=if B=A/\I=i/\J=j then v else fM ks cv B I J:=by
 unfold fM;rw [zm8 hl];by_cases c:B=A/\I=i/\J=j
 ·obtain ⟨rfl,rfl,rfl⟩:=c;rw [if_pos (zkx.2 (.inl rfl)),if_pos rfl,if_pos ⟨rfl,rfl,rfl⟩]
 ·have hne : ¬ ((B,(I,(J,()))):K3)=(A,(i,(j,()))):=fun h=>c (by simpa using h)
  rw [if_neg c,if_neg hne];by_cases d:mhas ks (B,(I,(J,())))=true
  ·rw [if_pos d,if_pos (zkx.2 (.inr d))]
  ·rw [if_neg d,if_neg (fun h=>by
    rcases zkx.1 h with h | h
    ·exact hne h
    ·exact d h)]
theorem CI.put (h:CI g w ks cv bv C) {A i j:Nat} {v k c:Int} {ends:List Int} (hA:(A:Int) < g.2.1) (hij:i<=j) (hj:j<=w.length) (hv:1<=v) (hlt:v < fM ks cv A i j) (hk:0<=k/\k < g.2.2.1.length) (hkA:(ix g.2.2.1 k).1=A)
  (hs:Spl g.1 w (fM ks cv) (ix g.2.2.1 k).2.1 i j ends c) (hc:c+1<=v):
  CI g w (zcj ks ((A:Int),((i:Int),((j:Int),())))) (putC ks cv ((A:Int),((i:Int),((j:Int),()))) v) (putB ks bv ((A:Int),((i:Int),((j:Int),()))) (k,(ends,()))) (zg2 C A i j v)/\tot (zg2 C A i j v) < tot C:=by
 have hb:=h.b A i j;have hc0:=h.c0;have hlA:A < C.length:=by omega
 have d1:(default:List (List Int))=[]:=rfl;have d2:(default:List Int)=[]:=rfl;have l1:(C.getD A []).length=w.length+1:=by have:=h.c1 A (by omega) hA;rwa [zhP,d1] at this
 have l2:((C.getD A []).getD i []).length=w.length+1:=by have:=h.c2 A i (by omega) hA (by omega) (by omega);rwa [zhP,zhP,d1,d2] at this
 have l3:((C.getD A []).getD i []).getD j 0=fM ks cv A i j:=by have:=h.c A i j (by omega) hA (by omega) (by omega) (by omega) (by omega);rwa [zhP,zhP,zhP,d1,d2] at this
 have hset:=zvi (C:=C) (a:=A) (i:=i) (j:=j) (v:=v) hlA (by omega) (by omega);obtain ⟨s1,s2,s3⟩:=zue (C:=C) (a:=A) (i:=i) (j:=j) (v:=v);have hmono:∀ B I J,fM (zcj ks ((A:Int),((i:Int),((j:Int),())))) (putC ks cv ((A:Int),((i:Int),((j:Int),()))) v) B I J<=fM ks cv B I J:=fun B I J=>by
  rw [zl3 h.lc];split
  ·rename_i e;obtain ⟨rfl,rfl,rfl⟩:=e;omega
  ·exact Int.le_refl _
 refine ⟨⟨(zky h.lc).1,(zky h.lb).1,fun B I J hm => ?_,by omega,fun B b0 b1=>by rw [s2 B b0 (by omega)];exact h.c1 B b0 b1,fun B I b0 b1 i0 i1=>by rw [s3 B I b0 (by omega) i0];exact h.c2 B I b0 b1 i0 i1,fun B I J b0 b1 i0 i1 j0 j1 => ?_⟩,?_⟩
 ·by_cases e:B=A/\I=i/\J=j
  ·obtain ⟨rfl,rfl,rfl⟩:=e;refine ⟨⟨by omega,hA⟩,⟨by omega,by omega,by omega⟩,by rw [zl3 h.lc,if_pos ⟨rfl,rfl,rfl⟩];omega,?_⟩;obtain ⟨c',h1,h2⟩:=hs.low hmono;refine ⟨k,ends,c',by rw [zm8 h.lb,if_pos rfl],hk,hkA,h2,?_⟩;rw [zl3 h.lc,if_pos ⟨rfl,rfl,rfl⟩];omega
  ·have hm':mhas ks (B,(I,(J,())))=true:=by
    rcases zkx.1 hm with h' | h'
    ·exact absurd (by simpa using h') e
    ·exact h'
   have hne : ¬ ((B,(I,(J,()))):K3)=((A:Int),((i:Int),((j:Int),()))):=fun h=>e (by simpa using h)
   obtain ⟨q1,q2,q3,k',ends',c',q4,q5,q6,q7,q8⟩:=h.v B I J hm';obtain ⟨c2,h1,h2⟩:=q7.low hmono;refine ⟨q1,q2,by rw [zl3 h.lc,if_neg e];exact q3,k',ends',c2,by rw [zm8 h.lb,if_neg hne];exact q4,q5,q6,h2,?_⟩;rw [zl3 h.lc,if_neg e];omega
 ·rw [hset B I J ⟨b0,by omega⟩ i0 j0,zl3 h.lc];by_cases e:B=A/\I=i/\J=j
  ·rw [if_pos e,if_pos e]
  ·rw [if_neg e,if_neg e];exact h.c B I J b0 b1 i0 i1 j0 j1
 ·have:=zuB (C:=C) (a:=A) (i:=i) (j:=j) (v:=v) hlA (by omega) (by omega);rw [l3] at this;omega
abbrev R12:=Bool->Int->Int->Int->List Rul->List Int->List K3->List Int->List K3->List Chc->Option (Int×Int×List Rul×List Int×List K3×List Int×List K3×List Chc)
structure Pr (b:Bool) (C:List (List (List Int))) (b':Bool) (C':List (List (List Int))):Prop where
 le:tot C'<=tot C
 up:b=true->b'=true
 lt:b'=true->b=true\/tot C' < tot C
theorem Pr.refl (b:Bool) (C:List (List (List Int))):Pr b C b C:=⟨Nat.le_refl _,id,.inl⟩
theorem Pr.trans {b b' b'':Bool} {C C' C'':List (List (List Int))} (h:Pr b C b' C') (k:Pr b' C' b'' C''):Pr b C b'' C'':=by
 have h1:=h.le;have k1:=k.le;refine ⟨by omega,fun e=>k.up (h.up e),fun e => ?_⟩;rcases k.lt e with e | e
 ·rcases h.lt e with e | e
  ·exact .inl e
  ·exact .inr (by omega)
 ·exact .inr (by omega)
theorem zsn (hg:GOk g) (hw:w.length<=60) {q t:Nat} (hqt:q+t<=w.length) {r9:R12}:∀ (m k:Nat) (b:Bool) (ks:List K3) (cv:List Int) (bv:List Chc) (C:List (List (List Int))),k+m=g.2.2.1.length->CI g w ks cv bv C->
  ∃ b' ks' cv' bv' C',zay g t q r9 b k g.1 g.2.1 g.2.2.1 w ks cv ks bv=r9 b' ((q:Int)+1) g.1 g.2.1 g.2.2.1 w ks' cv' ks' bv'/\zgN g w q (q+t) (g.2.2.1.drop k) b C=some (b',C')/\CI g w ks' cv' bv' C'/\Pr b C b' C':=by
 have hln:=hg.ln;have ha0:=hg.a0;have ha1:=hg.a1;have hn0:=hg.n0;have hn1:=hg.n1;intro m;induction m with
 | zero=>
  intro k b ks cv bv C hk h;refine ⟨b,ks,cv,bv,C,?_,?_,h,Pr.refl _ _⟩
  ·rw [zea];unfold zaN;rw [if_neg (by simp only [decide_eq_true_eq];omega),zal (by unfold fits;omega)]
  ·rw [List.drop_eq_nil_of_le (by omega)];rfl
 | succ m ih=>
  intro k b ks cv bv C hk h;have hk1:k < g.2.2.1.length:=by omega
  have hr:=hg.r k (by omega) (by omega);have hrow:=zvf (Mk:=g.2.2.1) (w:=w) (bv:=bv) h.b (fun A i k=>zt3) ⟨ha0,ha1⟩ ⟨hn0,hn1⟩ hw (ix g.2.2.1 k).2.1 q ((q:Int)+t) hr.l hr.s (by omega) (by omega) (by omega);have hrr:=zvg (Mk:=g.2.2.1) (N':=g.2.1) h.b h.c h.c0 h.c1 h.c2 ⟨ha0,ha1⟩ ⟨hn0,hn1⟩ hw (ix g.2.2.1 k).2.1 q ((q:Int)+t) hr.l hr.s (by omega) (by omega) (by omega);have hrb:=zob (Lt:=g.1) (w:=w) h.b (ix g.2.2.1 k).2.1 q ((q:Int)+t);have hspl:=zpY (Lt:=g.1) (w:=w) h.b (ix g.2.2.1 k).2.1 q ((q:Int)+t) (by omega);generalize hR:rowF g.1 w (fM ks cv) (ix g.2.2.1 k).2.1 q ((q:Int)+t)=R at hrow hrr hrb hspl;obtain ⟨x,ends⟩:=R;dsimp only at hrow hrr hrb hspl;obtain ⟨A,hA⟩:∃ A:Nat,(ix g.2.2.1 k).1=(A:Int):=⟨(ix g.2.2.1 k).1.toNat,by have:=hr.f0;omega⟩;have hAN:(A:Int) < g.2.1:=by have:=hr.f1;omega
  have hqq:(((q+t:Nat)):Int)=(q:Int)+(t:Int):=by omega
  have hcx:ix (ix (ix C (ix g.2.2.1 k).1) (q:Int)) (((q+t:Nat)):Int)=fM ks cv A q ((q:Int)+t):=by rw [hA,hqq];exact h.c _ _ _ (by omega) hAN (by omega) (by omega) (by omega) (by omega)
  have hfb:=h.b A q ((q:Int)+t);have hcell:∀ b,zpq g w q (q+t) (ix g.2.2.1 k) b C=some (if x < 1099511627775/\x+1 < fM ks cv A q ((q:Int)+t) then (true,zg2 C A q (q+t) (x+1)) else (b,C)):=fun b=>by
   unfold zpq;rw [hqq,show (g,w,C,())=((g.1,g.2.1,g.2.2.1,()),w,C,()) from rfl,hrr,Option.bind_some,zal (by unfold fits;omega),<- hqq,hcx,hA];rfl
  have hdrop:g.2.2.1.drop k=ix g.2.2.1 k::g.2.2.1.drop (k+1):=by
   rw [List.drop_eq_getElem_cons hk1,zds (by omega) (by omega)];rfl
  have hstart:∀ X,zaN g t q r9 (zay g t q r9) b k g.1 g.2.1 g.2.2.1 w ks cv ks bv=X->zay g t q r9 b k g.1 g.2.1 g.2.2.1 w ks cv ks bv=X:=fun X h=>by rw [zea];exact h
  have hpro:zay g t q r9 b k g.1 g.2.1 g.2.2.1 w ks cv ks bv=if x < 1099511627776/\x+1 < fM ks cv A q ((q:Int)+t) then zay g t q r9 true ((k:Int)+1) g.1 g.2.1 g.2.2.1 w (zcj ks ((A:Int),((q:Int),((q:Int)+t,())))) (putC ks cv ((A:Int),((q:Int),((q:Int)+t,()))) (x+1)) (zcj ks ((A:Int),((q:Int),((q:Int)+t,())))) (putB ks bv ((A:Int),((q:Int),((q:Int)+t,()))) ((k:Int),(ends,())))
    else zay g t q r9 b ((k:Int)+1) g.1 g.2.1 g.2.2.1 w ks cv ks bv:=by
   refine hstart _ ?_;unfold zaN;rw [if_pos (by simp only [decide_eq_true_eq];omega),zal (by omega),zal (by unfold fits;omega),hrow,Option.bind_some,zal (by unfold fits;omega)];by_cases c1:x < 1099511627776
   ·rw [if_pos (decide_eq_true c1),zal (by unfold fits;dsimp only;omega),zal (by unfold fits;omega),zt3,Option.bind_some,hA];by_cases c2:x+1 < fM ks cv A q ((q:Int)+t)
    ·rw [if_pos ⟨c1,c2⟩];unfold za7;rw [if_pos (decide_eq_true c2),zal (by unfold fits;omega),hA];have e4:imin (x+1) 1099511627775=x+1:=by unfold imin;split<;>omega
     have gc:=(zky (x:=((A:Int),((q:Int),((q:Int)+(t:Int),())))) (z:=(0:Int)) (v:=(0:Int)) h.lc).2;have gb:=(zky (x:=((A:Int),((q:Int),((q:Int)+(t:Int),())))) (z:=((0,([],())):Chc)) (v:=((0,([],())):Chc)) h.lb).2;have fin:zbo (k:Int) (zay g t q r9) g.1 g.2.1 g.2.2.1 w (zcj ks ((A:Int),((q:Int),((q:Int)+t,())))) (putC ks cv ((A:Int),((q:Int),((q:Int)+t,()))) (imin (x+1) 1099511627775)) (zcj ks ((A:Int),((q:Int),((q:Int)+t,())))) (putB ks bv ((A:Int),((q:Int),((q:Int)+t,()))) ((k:Int),(ends,())))=
       zay g t q r9 true ((k:Int)+1) g.1 g.2.1 g.2.2.1 w (zcj ks ((A:Int),((q:Int),((q:Int)+t,())))) (putC ks cv ((A:Int),((q:Int),((q:Int)+t,()))) (x+1)) (zcj ks ((A:Int),((q:Int),((q:Int)+t,())))) (putB ks bv ((A:Int),((q:Int),((q:Int)+t,()))) ((k:Int),(ends,()))):=by
      unfold zbo;rw [zal (by unfold fits;omega),e4]
     repeat' first | exact G_to gc (G_to gb fin) | refine zeV ?_ ?_
    ·rw [if_neg (fun h=>c2 h.2)];unfold za7;rw [if_neg (by simpa using c2),zal (by unfold fits;omega)]
   ·rw [if_neg (by simpa using c1),if_neg (fun h=>c1 h.1)];unfold za7;rw [if_neg (by decide),zal (by unfold fits;omega)]
  rw [hdrop,hpro,zgN,hcell,Option.bind_some];by_cases c:x+1 < fM ks cv A q ((q:Int)+t)
  ·rw [if_pos ⟨by omega,c⟩,if_pos ⟨by omega,c⟩];have hput:=h.put (A:=A) (i:=q) (j:=q+t) (v:=x+1) (k:=k) (c:=x) (ends:=ends) hAN (by omega) hqt (by omega) (by rw [hqq];exact c) ⟨by omega,by omega⟩ hA (by rw [hqq];exact hspl (by omega)) (by omega);rw [hqq] at hput;obtain ⟨b',ks',cv',bv',C',e1,e2,e3,e4⟩:=ih (k+1) true _ _ _ _ (by omega) hput.1;refine ⟨b',ks',cv',bv',C',e1,e2,e3,Pr.trans ⟨by omega,fun _=>rfl,fun _ => .inr hput.2⟩ e4⟩
  ·rw [if_neg (fun h=>c h.2),if_neg (fun h=>c h.2)];obtain ⟨b',ks',cv',bv',C',e1,e2,e3,e4⟩:=ih (k+1) b _ _ _ _ (by omega) h;exact ⟨b',ks',cv',bv',C',e1,e2,e3,e4⟩
end
section
variable {g:Gm} {w:List Int}
abbrev R9:=Bool->Int->Int->List Rul->List Int->List K3->List Int->List K3->List Chc->Option (Int×Int×List Rul×List Int×List K3×List Int×List K3×List Chc)
theorem zqJ (hg:GOk g) (hw:w.length<=60) {t:Nat} (ht:t<=w.length) {r6:R9}:∀ (m q:Nat) (b:Bool) (ks:List K3) (cv:List Int) (bv:List Chc) (C:List (List (List Int))),q+m+t=w.length+1->CI g w ks cv bv C->
  ∃ b' ks' cv' bv' C',zbf g w t r6 b q g.1 g.2.1 g.2.2.1 w ks cv ks bv=r6 b' g.1 g.2.1 g.2.2.1 w ks' cv' ks' bv'/\is17 g w t m q b C=some (b',C')/\CI g w ks' cv' bv' C'/\Pr b C b' C':=by
 intro m;induction m with
 | zero=>
  intro q b ks cv bv C hq h;refine ⟨b,ks,cv,bv,C,?_,rfl,h,Pr.refl _ _⟩;rw [zeC];unfold za9;rw [zal (by unfold fits;omega),if_neg (by simp only [decide_eq_true_eq];omega)]
 | succ m ih=>
  intro q b ks cv bv C hq h;rw [zeC];unfold za9;rw [zal (by unfold fits;omega),if_pos (by simp only [decide_eq_true_eq];omega)];obtain ⟨b1,ks1,cv1,bv1,C1,e1,e2,e3,e4⟩:=zsn hg hw (q:=q) (t:=t) (by omega) (r9:=zbf g w t r6) g.2.2.1.length 0 b ks cv bv C (by omega) h;obtain ⟨b2,ks2,cv2,bv2,C2,f1,f2,f3,f4⟩:=ih (q+1) b1 ks1 cv1 bv1 C1 (by omega) e3;refine ⟨b2,ks2,cv2,bv2,C2,e1.trans f1,?_,f3,e4.trans f4⟩;rw [is17];rw [List.drop_zero] at e2;rw [e2,Option.bind_some];exact f2
abbrev R3c:=Int->Int->Int->List Rul->List Int->List K3->List Int->List K3->List Chc->Option (Int×Int×List Rul×List Int×List K3×List Int×List K3×List Chc)
theorem ztr (hg:GOk g) (hw:w.length<=60) {t:Nat} (ht:t<=w.length) {r3:R3c}:∀ (T:Nat) (ks:List K3) (cv:List Int) (bv:List Chc) (C:List (List (List Int))) (F:Nat),tot C<=T->T < F->CI g w ks cv bv C->
  ∃ ks' cv' bv' C',za2 g w t r3 true g.1 g.2.1 g.2.2.1 w ks cv ks bv=r3 ((t:Int)+1) g.1 g.2.1 g.2.2.1 w ks' cv' ks' bv'/\zcM g w t F C=some C'/\CI g w ks' cv' bv' C'/\tot C'<=tot C:=by
 intro T;induction T with
 | zero=>
  intro ks cv bv C F hT hF h;obtain ⟨F',rfl⟩:∃ F',F=F'+1:=⟨F - 1,by omega⟩;obtain ⟨b1,ks1,cv1,bv1,C1,e1,e2,e3,e4⟩:=zqJ hg hw ht (r6:=za2 g w t r3) (w.length+1 - t) 0 false ks cv bv C (by omega) h;have hb:b1=false:=by
   cases b1 with
   | false=>rfl
   | true=>rcases e4.lt rfl with h' | h'<;>first | cases h' | omega
  subst hb;refine ⟨ks1,cv1,bv1,C1,?_,?_,e3,e4.le⟩
  ·rw [zbB];unfold zaG;rw [if_pos rfl];refine e1.trans ?_;rw [zbB];unfold zaG;rw [if_neg (by decide),zal (by unfold fits;omega)]
  ·rw [zcM,e2,Option.bind_some];rfl
 | succ T ih=>
  intro ks cv bv C F hT hF h;obtain ⟨F',rfl⟩:∃ F',F=F'+1:=⟨F - 1,by omega⟩;obtain ⟨b1,ks1,cv1,bv1,C1,e1,e2,e3,e4⟩:=zqJ hg hw ht (r6:=za2 g w t r3) (w.length+1 - t) 0 false ks cv bv C (by omega) h;cases b1 with
  | false=>
   refine ⟨ks1,cv1,bv1,C1,?_,?_,e3,e4.le⟩
   ·rw [zbB];unfold zaG;rw [if_pos rfl];refine e1.trans ?_;rw [zbB];unfold zaG;rw [if_neg (by decide),zal (by unfold fits;omega)]
   ·rw [zcM,e2,Option.bind_some];rfl
  | true=>
   have hlt:tot C1 < tot C:=by rcases e4.lt rfl with h' | h'<;>first | cases h' | exact h'
   obtain ⟨ks2,cv2,bv2,C2,f1,f2,f3,f4⟩:=ih ks1 cv1 bv1 C1 F' (by omega) (by omega) e3;refine ⟨ks2,cv2,bv2,C2,?_,?_,f3,by omega⟩
   ·rw [zbB];unfold zaG;rw [if_pos rfl];exact e1.trans f1
   ·rw [zcM,e2,Option.bind_some];exact f2
theorem ztq (hg:GOk g) (hw:w.length<=60):∀ (m t:Nat) (ks:List K3) (cv:List Int) (bv:List Chc) (C:List (List (List Int))) (F:Nat),t+m=w.length+1->tot C < F->CI g w ks cv bv C->
  ∃ ks' cv' bv' C',zb3 g w t g.1 g.2.1 g.2.2.1 w ks cv ks bv=some (g.1,g.2.1,g.2.2.1,w,ks',cv',ks',bv')/\zfY g w F m t C=some C'/\CI g w ks' cv' bv' C':=by
 intro m;induction m with
 | zero=>
  intro t ks cv bv C F ht hF h;refine ⟨ks,cv,bv,C,?_,rfl,h⟩;rw [zeB];unfold za8;rw [if_neg (by simp only [decide_eq_true_eq];omega)]
 | succ m ih=>
  intro t ks cv bv C F ht hF h;obtain ⟨ks1,cv1,bv1,C1,e1,e2,e3,e4⟩:=ztr hg hw (t:=t) (by omega) (r3:=zb3 g w) (tot C) ks cv bv C F (Nat.le_refl _) hF h;obtain ⟨ks2,cv2,bv2,C2,f1,f2,f3⟩:=ih (t+1) ks1 cv1 bv1 C1 F (by omega) (by omega) e3;refine ⟨ks2,cv2,bv2,C2,?_,?_,f3⟩
  ·rw [zeB];unfold za8;rw [if_pos (by simp only [decide_eq_true_eq];omega)];exact e1.trans f1
  ·rw [zfY,e2,Option.bind_some];exact f2
theorem zow (hg:GOk g) (hw:w.length<=12):∃ ks cv bv C,zez g w=some (g.1,g.2.1,g.2.2.1,w,ks,cv,ks,bv)/\CI g w ks cv bv C/\zeN g w=some (fM ks cv 0 0 w.length):=by
 have hln:=hg.ln;have hn0:=hg.n0;have hn1:=hg.n1;have hNN:((g.2.1.toNat:Nat):Int)=g.2.1:=by omega
 have r1:∀ A:Int,0<=A->A < g.2.1->ix (List.replicate g.2.1.toNat (List.replicate (w.length+1) (List.replicate (w.length+1) (1099511627776:Int)))) A=List.replicate (w.length+1) (List.replicate (w.length+1) 1099511627776):=fun A h0 h1=>by
  rw [zds h0 (by simp;omega)];simp
 have r2:∀ A:Int,0<=A->A<=w.length->ix (List.replicate (w.length+1) (List.replicate (w.length+1) (1099511627776:Int))) A=List.replicate (w.length+1) 1099511627776:=fun A h0 h1=>by
  rw [zds h0 (by simp;omega)];simp
 have r3:∀ A:Int,0<=A->A<=w.length->ix (List.replicate (w.length+1) (1099511627776:Int)) A=1099511627776:=fun A h0 h1=>by
  rw [zds h0 (by simp;omega)];simp
 have h0:CI g w [] [] [] (List.replicate g.2.1.toNat (List.replicate (w.length+1) (List.replicate (w.length+1) 1099511627776))):=by
  refine ⟨rfl,rfl,fun A i j h=>by rw [zkw] at h;simp at h,by simp<;>omega,fun A a0 a1=>by rw [r1 A a0 a1];simp,fun A i a0 a1 i0 i1=>by rw [r1 A a0 a1,r2 i i0 i1];simp,fun A i k a0 a1 i0 i1 k0 k1 => ?_⟩;rw [r1 A a0 a1,r2 i i0 i1,r3 k k0 k1];unfold fM;rw [if_neg (by rw [zkw];simp)]
 have ht:tot (List.replicate g.2.1.toNat (List.replicate (w.length+1) (List.replicate (w.length+1) (1099511627776:Int)))) < m17:=by
  unfold tot;rw [List.map_replicate,List.sum_replicate_nat];unfold tot2;rw [List.map_replicate,List.sum_replicate_nat];unfold tot1;rw [List.map_replicate,List.sum_replicate_nat];have e1:g.2.1.toNat<=6:=by omega
  have e2:w.length+1<=13:=by omega
  have e3:(1099511627776:Int).toNat=1099511627776:=rfl;rw [e3];have h1:(w.length+1) * 1099511627776<=13 * 1099511627776:=Nat.mul_le_mul_right _ e2;have h2:(w.length+1) * ((w.length+1) * 1099511627776)<=13 * (13 * 1099511627776):=Nat.mul_le_mul e2 h1;have h3:g.2.1.toNat * ((w.length+1) * ((w.length+1) * 1099511627776))<=6 * (13 * (13 * 1099511627776)):=Nat.mul_le_mul e1 h2;unfold m17;omega
 obtain ⟨ks,cv,bv,C,e1,e2,e3⟩:=ztq hg (by omega) (w.length+1) 0 [] [] [] _ m17 (by omega) ht h0;refine ⟨ks,cv,bv,C,?_,e3,?_⟩
 ·unfold zez;exact e1
 ·have hmk:∀ m∈g.2.2.1,0<=m.1/\m.1 < g.2.1:=fun m hm=>by
   obtain ⟨k,hk,rfl⟩:=List.getElem_of_mem hm;have:=hg.r k (by omega) (by omega);rw [zds (by omega) (by omega)] at this;exact ⟨this.f0,this.f1⟩
  unfold zeN;rw [zal ⟨hw,by omega,hn1,hln,hmk⟩,e2,Option.bind_some,e3.c 0 0 w.length (by omega) (by omega) (by omega) (by omega) (by omega) (Int.le_refl _)]
end
inductive Dv (g:Gm):List Int->List Int->List Int->Prop
 | nil:Dv g [] [] []
 | lt (s:Int) (r d v:List Int):s < g.1->Dv g r d v->Dv g (s::r) d (s::v)
 | nt (s k:Int) (r d v:List Int):g.1<=s->0<=k->k < g.2.2.1.length->(ix g.2.2.1 k).1=s - g.1->Dv g ((ix g.2.2.1 k).2.1++r) d v->Dv g (s::r) (k::d) v
section
variable {g:Gm}
theorem Dv.app {r1 d1 v1 r2 d2 v2:List Int} (h:Dv g r1 d1 v1) (k:Dv g r2 d2 v2):Dv g (r1++r2) (d1++d2) (v1++v2):=by
 induction h with
 | nil=>exact k
 | lt s r d v hs _ ih=>exact .lt s _ _ _ hs ih
 | nt s q r d v hs h0 h1 h2 _ ih=>
  refine .nt s q _ _ _ hs h0 h1 h2 ?_;have:=ih;rw [List.append_assoc] at this;exact this
theorem Dv.done {r v:List Int} (h:Dv g r [] v):r=v:=by
 generalize hd:([]:List Int)=d at h;induction h with
 | nil=>rfl
 | lt s r d v hs _ ih=>rw [ih hd]
 | nt=>cases hd
end
def sub (w:List Int) (i j:Int):List Int:=(w.drop i.toNat).take (j - i).toNat
theorem zuh (w:List Int) (i:Int):sub w i i=[]:=by unfold sub;simp
theorem zsb {w:List Int} {i k j:Int} (h0:0<=i) (h1:i<=k) (h2:k<=j):sub w i k++sub w k j=sub w i j:=by
 unfold sub;have e:w.drop k.toNat=(w.drop i.toNat).drop (k - i).toNat:=by rw [List.drop_drop];congr 1;omega
 rw [e,show (j - i).toNat=(k - i).toNat+(j - k).toNat by omega,List.take_add]
theorem zui {w:List Int} {i:Int} (h0:0<=i) (h1:i < w.length):sub w i (i+1)=[ix w i]:=by
 unfold sub;rw [show (i+1 - i).toNat=1 by omega,List.drop_eq_getElem_cons (by omega),List.take_succ_cons,List.take_zero,zds h0 h1]
section
variable {g:Gm} {w:List Int} {ks:List K3} {cv:List Int} {bv:List Chc} {C:List (List (List Int))}
theorem zqs {name i j:Int} {i1 t:Int} {out:List Int}:zd7 name i j g.2.2.1 ks bv i1 t g.1 g.2.1 g.2.2.1 w out ks cv ks bv=zan zax name i j g.2.2.1 ks bv i1 t g.1 g.2.1 g.2.2.1 w out ks cv ks bv:=rfl
theorem Spl.pos {Lt:Int} {f:Int->Int->Int->Int} (hf:∀ A i k,0<=f A i k/\f A i k<=1099511627776):∀ (l:List Int) (i j:Int) (e:List Int) (c:Int),Spl Lt w f l i j e c->0<=c
 | [],i,j,e,c,h=>by rw [h.2.2];omega
 | s::r,i,j,e,c,⟨k,l',c',h1,_,_,_,h5,h6⟩=>by
  have:=Spl.pos hf r _ _ _ _ h5;have:=(nn_b (Lt:=Lt) (w:=w) hf s i k).1;omega
theorem zl8 (hg:GOk g) (hw:w.length<=60) (h:CI g w ks cv bv C) {A I J k:Int} {ends0:List Int} (he:mget ks bv (A,(I,(J,()))) ((0,([],())):Chc)=(k,(ends0,()))) (hk:0<=k/\k < g.2.2.1.length) {c:Int}
  (ih:∀ (B i j:Int) (out:List Int),mhas ks (B,(i,(j,())))=true->fM ks cv B i j<=c->out.length+fM ks cv B i j<=100000->
   ∃ d,zax B i j g.1 g.2.1 g.2.2.1 w out ks cv ks bv=some (out++d,g.1,g.2.1,g.2.2.1,w,ks,cv,ks,bv)/\(d.length:Int)<=fM ks cv B i j/\Dv g [g.1+B] d (sub w i j)):
  ∀ (rs:List Int) (t i j:Int) (le:List Int) (ct:Int) (out:List Int),0<=t->(ix g.2.2.1 k).2.1.drop t.toNat=rs->ends0.drop t.toNat=le->t+rs.length=(ix g.2.2.1 k).2.1.length->t+le.length=ends0.length->0<=i->i<=j->j<=w.length->Spl g.1 w (fM ks cv) rs i j le ct->ct<=c->(∀ s∈rs,0<=s/\s < g.1+g.2.1)->out.length+ct<=100000->
  ∃ d,zan zax A I J g.2.2.1 ks bv i t g.1 g.2.1 g.2.2.1 w out ks cv ks bv=some (out++d,g.1,g.2.1,g.2.2.1,w,ks,cv,ks,bv)/\(d.length:Int)<=ct/\Dv g rs d (sub w i j):=by
 have ha0:=hg.a0;have ha1:=hg.a1;have hn0:=hg.n0;have hn1:=hg.n1;have hr3:=(hg.r k hk.1 hk.2).l;intro rs;induction rs with
 | nil=>
  intro t i j le ct out t0 hrs hle ht htl i0 ij jw hsp hct hs ho;obtain ⟨rfl,rfl,rfl⟩:=hsp;refine ⟨[],?_,by simp,by rw [zuh];exact .nil⟩;rw [zcF];unfold zaw;rw [he];simp only [List.length_nil] at ht;rw [if_neg (by simp only [decide_eq_true_eq];omega),List.append_nil]
 | cons s r ihr=>
  intro t i j le ct out t0 hrs hle ht htl i0 ij jw hsp hct hs ho;obtain ⟨k',l',c',rfl,h1,h2,h3,h4,h5⟩:=hsp;simp only [List.length_cons] at ht htl;have hnb:=nn_b (Lt:=g.1) (w:=w) h.b s i k';have hcp:=Spl.pos h.b _ _ _ _ _ h4;have hs0:=hs s (by simp);have htl1:t < ((ix g.2.2.1 k).2.1.length:Int):=by omega
  have htl2:t < (ends0.length:Int):=by omega
  have es:ix (ix g.2.2.1 k).2.1 t=s:=by
   have:(ix g.2.2.1 k).2.1.drop t.toNat=(ix g.2.2.1 k).2.1[t.toNat]'(by omega)::(ix g.2.2.1 k).2.1.drop (t.toNat+1):=List.drop_eq_getElem_cons _;rw [this] at hrs;rw [zds t0 htl1];exact (List.cons.inj hrs).1
  have er:(ix g.2.2.1 k).2.1.drop (t+1).toNat=r:=by
   have:(ix g.2.2.1 k).2.1.drop t.toNat=(ix g.2.2.1 k).2.1[t.toNat]'(by omega)::(ix g.2.2.1 k).2.1.drop (t.toNat+1):=List.drop_eq_getElem_cons _;rw [this] at hrs;rw [show (t+1).toNat=t.toNat+1 by omega];exact (List.cons.inj hrs).2
  have ee:ix ends0 t=k':=by
   have:ends0.drop t.toNat=ends0[t.toNat]'(by omega)::ends0.drop (t.toNat+1):=List.drop_eq_getElem_cons _;rw [this] at hle;rw [zds t0 htl2];exact (List.cons.inj hle).1
  have el:ends0.drop (t+1).toNat=l':=by
   have:ends0.drop t.toNat=ends0[t.toNat]'(by omega)::ends0.drop (t.toNat+1):=List.drop_eq_getElem_cons _;rw [this] at hle;rw [show (t+1).toNat=t.toNat+1 by omega];exact (List.cons.inj hle).2
  have hgo:∀ X,zaw zax A I J g.2.2.1 ks bv (zan zax A I J g.2.2.1 ks bv) i t g.1 g.2.1 g.2.2.1 w out ks cv ks bv=X->zan zax A I J g.2.2.1 ks bv i t g.1 g.2.1 g.2.2.1 w out ks cv ks bv=X:=fun X h=>by rw [zcF];exact h
  have hJ:∀ o:List Int,zaI A I J ks bv t (zan zax A I J g.2.2.1 ks bv) g.1 g.2.1 g.2.2.1 w o ks cv ks bv=zan zax A I J g.2.2.1 ks bv k' (t+1) g.1 g.2.1 g.2.2.1 w o ks cv ks bv:=fun o=>by
   unfold zaI;rw [he,zal ⟨t0,htl2⟩,zal (by unfold fits;omega),ee]
  by_cases c1:s < g.1
  ·have hn:nn g.1 w (fM ks cv) s i k'=0/\k'=i+1/\ix w i=s:=by
    unfold nn at h3 ⊢;rw [if_pos c1] at h3 ⊢;by_cases c2:k'=i+1/\ix w i=s
    ·rw [if_pos c2];exact ⟨rfl,c2⟩
    ·rw [if_neg c2] at h3;omega
   obtain ⟨d,e1,e2,e3⟩:=ihr (t+1) k' j l' c' out (by omega) er el (by omega) (by omega) (by omega) h2 jw h4 (by omega) (fun x hx=>hs x (by simp [hx])) (by omega);refine ⟨d,?_,by omega,?_⟩
   ·refine hgo _ ?_;unfold zaw;rw [he];dsimp only;rw [if_pos (decide_eq_true htl1),zal ⟨t0,htl1⟩,es,if_neg (by simp only [decide_eq_true_eq];omega)];exact (hJ out).trans e1
   ·rw [<- zsb i0 h1 h2,hn.2.1,zui i0 (by omega),hn.2.2,List.singleton_append];rw [hn.2.1] at e3;exact .lt s _ _ _ c1 e3
  ·have hn:nn g.1 w (fM ks cv) s i k'=fM ks cv (s - g.1) i k':=by unfold nn;rw [if_neg c1]
   have hm:mhas ks (s - g.1,(i,(k',())))=true:=by
    refine Classical.byContradiction fun hc => ?_
    rw [hn] at h3;unfold fM at h3;rw [if_neg hc] at h3;omega
   obtain ⟨d1,f1,f2,f3⟩:=ih (s - g.1) i k' out hm (by omega) (by omega);obtain ⟨d,e1,e2,e3⟩:=ihr (t+1) k' j l' c' (out++d1) (by omega) er el (by omega) (by omega) (by omega) h2 jw h4 (by omega) (fun x hx=>hs x (by simp [hx])) (by rw [List.length_append];omega);refine ⟨d1++d,?_,by rw [List.length_append];omega,?_⟩
   ·refine hgo _ ?_;unfold zaw;rw [he];dsimp only;rw [if_pos (decide_eq_true htl1),zal ⟨t0,htl1⟩,es,if_pos (by simp only [decide_eq_true_eq];omega),zal (by unfold fits;omega),zal ⟨t0,htl2⟩,ee,f1,Option.bind_some,<- List.append_assoc];exact (hJ (out++d1)).trans e1
   ·rw [<- zsb i0 h1 h2];rw [show g.1+(s - g.1)=s by omega] at f3;exact f3.app e3
theorem Spl.len {Lt:Int} {f:Int->Int->Int->Int}:∀ (l:List Int) (i j:Int) (e:List Int) (c:Int),Spl Lt w f l i j e c->e.length=l.length
 | [],i,j,e,c,h=>by rw [h.2.1]
 | s::r,i,j,e,c,⟨k,l',c',h1,_,_,_,h5,_⟩=>by rw [h1,List.length_cons,List.length_cons,Spl.len r _ _ _ _ h5]
theorem ztY (hg:GOk g) (hw:w.length<=60) (h:CI g w ks cv bv C):∀ (n:Nat) (A i j:Int) (out:List Int),mhas ks (A,(i,(j,())))=true->fM ks cv A i j<=n->out.length+fM ks cv A i j<=100000->
  ∃ d,zax A i j g.1 g.2.1 g.2.2.1 w out ks cv ks bv=some (out++d,g.1,g.2.1,g.2.2.1,w,ks,cv,ks,bv)/\(d.length:Int)<=fM ks cv A i j/\Dv g [g.1+A] d (sub w i j):=by
 intro n;induction n with
 | zero=>
  intro A i j out hm hn ho;have:=(h.v A i j hm).2.2.1;omega
 | succ n ih=>
  intro A i j out hm hn ho;obtain ⟨q1,q2,q3,k,ends,c,q4,q5,q6,q7,q8⟩:=h.v A i j hm;have hr:=hg.r k q5.1 q5.2;have hl:=Spl.len _ _ _ _ _ q7;obtain ⟨d,e1,e2,e3⟩:=zl8 hg hw h q4 q5 (c:=(n:Int)) (fun B i j out a b c=>ih B i j out a b (by omega)) (ix g.2.2.1 k).2.1 0 i j ends c (out++[k]) (Int.le_refl _) rfl rfl (by omega) (by omega) (by omega) q2.2.1 q2.2.2 q7 (by omega) hr.s (by rw [List.length_append,List.length_singleton];omega);refine ⟨k::d,?_,by rw [List.length_cons];omega,?_⟩
  ·rw [zgz];unfold za6;rw [q4];dsimp only;rw [zal (by unfold room;rw [List.length_singleton];omega),zal q5,e1,List.append_assoc];rfl
  ·exact .nt _ _ _ _ _ (by omega) q5.1 q5.2 (by omega) (by rw [List.append_nil];exact e3)
theorem ztX (hg:GOk g) (hw:w.length<=60) (h:CI g w ks cv bv C) {A i j:Int} (hm:mhas ks (A,(i,(j,())))=true) (hn:fM ks cv A i j<=2000):
  ∃ d,zbZ A i j g.1 g.2.1 g.2.2.1 w ks cv ks bv=some (d,g.1,g.2.1,g.2.2.1,w,ks,cv,ks,bv)/\(d.length:Int)<=fM ks cv A i j/\Dv g [g.1+A] d (sub w i j):=by
 obtain ⟨q1,q2,q3,k,ends,c,q4,q5,q6,q7,q8⟩:=h.v A i j hm;have hr:=hg.r k q5.1 q5.2;have hl:=Spl.len _ _ _ _ _ q7;obtain ⟨d,e1,e2,e3⟩:=zl8 hg hw h q4 q5 (c:=2000) (fun B i j out a b c=>ztY hg hw h 2000 B i j out a b (by omega)) (ix g.2.2.1 k).2.1 0 i j ends c [k] (Int.le_refl _) rfl rfl (by omega) (by omega) (by omega) q2.2.1 q2.2.2 q7 (by omega) hr.s (by rw [List.length_singleton];omega);refine ⟨k::d,?_,by rw [List.length_cons];omega,?_⟩
 ·unfold zbZ;rw [q4];dsimp only;rw [zal (by unfold room;simp),zal q5,zqs,e1];rfl
 ·exact .nt _ _ _ _ _ (by omega) q5.1 q5.2 (by omega) (by rw [List.append_nil];exact e3)
end
theorem zmn {g:Gm} {w:List Int} (hg:GOk g) (h0:zbk g=some 0) (hm:mayE g.1 w=0) (hw:w.length<=12):∃ c,zeN g w=some c/\0<=c/\c<=1099511627776/\
  (c=1099511627776->zbl g w=some (false,0,[]))/\(c < 1099511627776->2000 < c->zbl g w=some (false,7,[]))/\
  (c<=2000->∃ d,zbl g w=some (true,0,d)):=by
 obtain ⟨ks,cv,bv,C,e1,h,e3⟩:=zow hg hw;have hb:=h.b 0 0 w.length;have hT:∀ X,(if (decide (fM ks cv 0 0 w.length=(1099511627776:Int)))=true then some (false,(0:Int),([]:List Int)) else if (decide ((2000:Int) < fM ks cv 0 0 w.length))=true then some (false,(7:Int),[]) else
   (zbZ (0:Int) (0:Int) (w.length:Int) g.1 g.2.1 g.2.2.1 w ks cv ks bv).bind (fun y=>some (true,(0:Int),y.1)))=X->zbk g=some 0->zbl g w=X:=by
  intro X hX h0;unfold zbl;rw [show (g.1,(g.2.1,(g.2.2.1,())))=g from rfl,h0,Option.bind_some,if_neg (by decide),zf0,Option.bind_some,hm,if_neg (by decide),if_neg (by simp only [decide_eq_true_eq];omega),e1,Option.bind_some,zt3,Option.bind_some];exact hX
 refine ⟨_,e3,hb.1,hb.2,fun hc=>hT _ ?_ h0,fun hc hc2=>hT _ ?_ h0,fun hc => ?_⟩
 ·rw [if_pos (decide_eq_true hc)]
 ·rw [if_neg (by simp only [decide_eq_true_eq];omega),if_pos (decide_eq_true hc2)]
 ·have hmh:mhas ks ((0:Int),((0:Int),((w.length:Int),())))=true:=by
   refine Classical.byContradiction fun hn => ?_
   unfold fM at hc;rw [if_neg hn] at hc;omega
  obtain ⟨d,f1,f2,f3⟩:=ztX hg (by omega) h hmh hc;refine ⟨d,hT _ ?_ h0⟩;rw [if_neg (by simp only [decide_eq_true_eq];omega),if_neg (by simp only [decide_eq_true_eq];omega),f1];rfl
theorem tells_no {g:Gm} {w:List Int} {e:Int} (h:zbk g=some e) (he:e≠0):zbl g w=some (false,e,[]):=by
 unfold zbl;rw [show (g.1,(g.2.1,(g.2.2.1,())))=g from rfl,h,Option.bind_some,if_pos (by simpa using he)]
theorem zvo {g:Gm} {w:List Int} (h:zbk g=some 0) (he:mayE g.1 w≠0):zbl g w=some (false,mayE g.1 w,[]):=by
 unfold zbl;rw [show (g.1,(g.2.1,(g.2.2.1,())))=g from rfl,h,Option.bind_some,if_neg (by decide),zf0,Option.bind_some,if_pos (by simpa using he)]
theorem zvp {g:Gm} {w:List Int} (h:zbk g=some 0) (he:mayE g.1 w=0) (hw:12 < w.length):zbl g w=some (false,1,[]):=by
 unfold zbl;rw [show (g.1,(g.2.1,(g.2.2.1,())))=g from rfl,h,Option.bind_some,if_neg (by decide),zf0,Option.bind_some,he,if_neg (by decide),if_pos (by simp only [decide_eq_true_eq];omega)]
def Let (L:Int) (w:List Int):Prop:=∀ a∈w,0<=a/\a < L
def wd (L:Nat):Nat->Nat->List Int
 | 0,_=>[]
 | l+1,k=>wd L l (k / L)++[((k % L:Nat):Int)]
theorem zon (L:Nat):∀ l k,(wd L l k).length=l
 | 0,_=>rfl
 | l+1,k=>by rw [wd,List.length_append,zon L l];rfl
theorem ztp {L:Nat} (hL:1<=L):∀ l k,Let L (wd L l k)
 | 0,_,a,h=>by cases h
 | l+1,k,a,h=>by
  rw [wd] at h;rcases List.mem_append.1 h with h | h
  ·exact ztp hL l _ a h
  ·rw [List.mem_singleton.1 h];have:=Nat.mod_lt k (by omega:L > 0);omega
theorem zpl (L:Nat):∀ l,wd L l 0=List.replicate l 0
 | 0=>rfl
 | l+1=>by rw [wd,Nat.zero_div,Nat.zero_mod,zpl L l,List.replicate_succ'];rfl
theorem zvr {L:Nat} (hL:1<=L):∀ (n:Nat) (w:List Int),w.length=n->Let L w->∃ k,k < L ^ n/\wd L n k=w
 | 0,w,hw,_=>⟨0,by simp,(List.length_eq_zero_iff.1 hw).symm⟩
 | n+1,w,hw,h=>by
  have hne:w≠[]:=fun e=>by rw [e] at hw;cases hw
  have e:=List.dropLast_concat_getLast hne;obtain ⟨k,k1,k2⟩:=zvr hL n w.dropLast (by rw [List.length_dropLast,hw];rfl) (fun a ha=>h a (List.dropLast_subset w ha));have hl:=h _ (List.getLast_mem hne);obtain ⟨a,ha⟩:∃ a:Nat,w.getLast hne=a:=⟨(w.getLast hne).toNat,by omega⟩;have haL:a < L:=by omega
  refine ⟨k * L+a,?_,?_⟩
  ·rw [Nat.pow_succ];have:(k+1) * L<=L ^ n * L:=Nat.mul_le_mul_right L k1;rw [Nat.add_mul] at this;omega
  ·rw [wd,show (k * L+a) / L=k by rw [Nat.mul_comm,Nat.mul_add_div (by omega),Nat.div_eq_of_lt haL];rfl,show (k * L+a) % L=a by rw [Nat.mul_comm,Nat.mul_add_mod,Nat.mod_eq_of_lt haL],k2,<- ha];exact e
theorem zu0 {A B:List Int} {d:Int}:ix (A++d::B) A.length=d:=by
 rw [zhP,List.getD_eq_getElem?_getD,List.getElem?_append_right (Nat.le_refl _)];simp
theorem zsa {A B:List Int} {d x:Int}:(A++d::B).set A.length x=A++x::B:=by
 rw [List.set_append_right _ _ (Nat.le_refl _)];simp
theorem zqK {L:Nat} (hL:1<=L/\L<=4):∀ (j k z:Nat),k < L ^ j->j+z<=100->zht (L:Int) ((j:Int) - 1) (wd L j k++List.replicate z 0)=some (if k+1 < L ^ j then wd L j (k+1)++List.replicate z 0 else List.replicate (j+z+1) 0)
 | 0,k,z,hk,hz=>by
  rw [zi4];unfold zb7;rw [if_neg (by simp),if_neg (by simp at hk ⊢)];refine G_to (by unfold room;simp [wd];omega) ?_;show some (List.replicate z 0++[0])=some (List.replicate (0+z+1) 0);rw [Nat.zero_add,List.replicate_succ']
 | j+1,k,z,hk,hz=>by
  have hm:=Nat.mod_lt k (by omega:L > 0);have hdm:=Nat.div_add_mod k L;have hkd:k / L < L ^ j:=by
   rw [Nat.pow_succ] at hk;exact Nat.div_lt_of_lt_mul (by rw [Nat.mul_comm];exact hk)
  have hlen:=zon L j (k / L);have e:wd L (j+1) k++List.replicate z 0=wd L j (k / L)++((k % L:Nat):Int)::List.replicate z 0:=by rw [wd,List.append_assoc];rfl
  have ei:(((j+1:Nat):Int) - 1)=((wd L j (k / L)).length:Int):=by rw [hlen];omega
  have ew:∀ x,wd L (j+1) x=wd L j (x / L)++[((x % L:Nat):Int)]:=fun _=>rfl
  generalize hr:k % L=r at *
  generalize hq:k / L=q at *
  rw [zi4];unfold zb7;rw [e,ei,if_pos (by simp),zu0,Int.toNat_natCast,zsa,zsa];refine G_to (by simp;omega) (G_to (by simp) (G_to (by unfold fits;omega) ?_));by_cases c:((r:Nat):Int) < (L:Int) - 1
  ·rw [if_pos (decide_eq_true c)];refine G_to (by simp;omega) (G_to (by simp) (G_to (by unfold fits;omega) (G_to (by simp;omega) (G_to (by simp) ?_))));have d1:(k+1) / L=q:=by
    have:k+1=L * (q)+(r+1):=by omega
    rw [this,Nat.mul_add_div (by omega),Nat.div_eq_of_lt (by omega)];simp
   have d2:(k+1) % L=r+1:=by
    have:k+1=L * (q)+(r+1):=by omega
    rw [this,Nat.mul_add_mod,Nat.mod_eq_of_lt (by omega)]
   have d3:k+1 < L ^ (j+1):=by
    rw [Nat.pow_succ];have:(q+1) * L<=L ^ j * L:=Nat.mul_le_mul_right L hkd;rw [Nat.add_mul,Nat.mul_comm (q)] at this;omega
   rw [if_pos d3,ew,d1,d2,List.append_assoc];rfl
  ·rw [if_neg (by simpa using c)];refine G_to (by simp;omega) (G_to (by simp) (G_to (by unfold fits;omega) ?_));have ez:wd L j (q)++(0:Int)::List.replicate z 0=wd L j (q)++List.replicate (z+1) 0:=rfl;rw [ez,hlen];refine (zqK hL j (q) (z+1) hkd (by omega)).trans ?_;congr 1;have hk1:k+1=L * (q+1):=by rw [Nat.mul_add];omega
   have d1:(k+1) / L=q+1:=by rw [hk1,Nat.mul_div_cancel_left _ (by omega)]
   have d2:(k+1) % L=0:=by rw [hk1,Nat.mul_mod_right]
   have d3:k+1 < L ^ (j+1)↔q+1 < L ^ j:=by
    rw [hk1,Nat.pow_succ,Nat.mul_comm (L ^ j),Nat.mul_lt_mul_left (by omega)]
   by_cases c2:q+1 < L ^ j
   ·rw [if_pos c2,if_pos (d3.2 c2),ew,d1,d2,List.append_assoc];rfl
   ·rw [if_neg c2,if_neg (fun h=>c2 (d3.1 h)),show j+(z+1)+1=j+1+z+1 by omega]
theorem znp {L:Nat} (hL:1<=L/\L<=4) {l k:Nat} (hk:k < L ^ l) (hl:l<=100):zjv (L:Int) (wd L l k)=some (if k+1 < L ^ l then wd L l (k+1) else wd L (l+1) 0):=by
 have hlen:=zon L l k;unfold zjv;have:=zqK hL l k 0 hk (by omega);rw [List.replicate_zero,List.append_nil,List.append_nil] at this;refine G_to (by unfold room;simp;omega) (G_to (by unfold fits;simp;omega) ?_);rw [List.nil_append,hlen,this,zpl]
def vl (L:Nat):List Int->Nat
 | []=>0
 | a::u=>a.toNat * L ^ u.length+vl L u
theorem zsh (L:Nat):∀ (u:List Int) (b:Int),vl L (u++[b])=vl L u * L+b.toNat
 | [],b=>by simp [vl]
 | a::u,b=>by
  rw [List.cons_append,vl,vl,zsh L u b,List.length_append,List.length_singleton,Nat.pow_succ,Nat.add_mul,Nat.mul_assoc];omega
theorem zvq {L:Nat} (hL:1<=L):∀ (n k:Nat),k < L ^ n->vl L (wd L n k)=k
 | 0,k,h=>by rw [wd,vl];simp at h;omega
 | n+1,k,h=>by
  rw [wd,zsh,zvq hL n (k / L) (by rw [Nat.pow_succ] at h;exact Nat.div_lt_of_lt_mul (by rw [Nat.mul_comm];exact h)),Int.toNat_natCast,Nat.mul_comm];exact Nat.div_add_mod k L
theorem zsi {L:Nat} (hL:1<=L):∀ (n a k:Nat),a < L->k < L ^ n->wd L (n+1) (a * L ^ n+k)=(a:Int)::wd L n k
 | 0,a,k,ha,hk=>by
  simp at hk;subst hk;rw [wd,wd];simp [Nat.mod_eq_of_lt ha,wd]
 | n+1,a,k,ha,hk=>by
  have e:a * L ^ (n+1)+k=L * (a * L ^ n)+k:=by rw [Nat.pow_succ];congr 1;rw [Nat.mul_comm L,Nat.mul_assoc]
  rw [wd,e,Nat.mul_add_div (by omega),Nat.mul_add_mod,zsi hL n a (k / L) ha (by rw [Nat.pow_succ] at hk;exact Nat.div_lt_of_lt_mul (by rw [Nat.mul_comm];exact hk))];rfl
theorem znn {L:Nat} (hL:1<=L):∀ (u:List Int),Let L u->vl L u < L ^ u.length/\wd L u.length (vl L u)=u
 | [],_=>⟨by simp [vl],rfl⟩
 | a::u,h=>by
  obtain ⟨h1,h2⟩:=znn hL u fun x hx=>h x (by simp [hx])
  have ha:=h a (by simp);have haL:a.toNat < L:=by omega
  refine ⟨?_,?_⟩
  ·rw [vl,List.length_cons,Nat.pow_succ];have:(a.toNat+1) * L ^ u.length<=L * L ^ u.length:=Nat.mul_le_mul_right _ haL;rw [Nat.add_mul,Nat.mul_comm L] at this;omega
  ·rw [vl,List.length_cons,zsi hL _ _ _ haL h1,h2];congr 1;omega
def Hs (u l:List Int):Prop:=(∀ x∈u,0<=x/\x < l.length)/\∀ a:Int,0<=a->a < l.length->(u.count a:Int)=ix l a
theorem Hs.cons {a:Int} {u l:List Int} (h:Hs (a::u) l):(0<=a/\a < l.length)/\0 < ix l a/\Hs u (l.set a.toNat (ix l a - 1)):=by
 have ha:=h.1 a (by simp);have h1:=h.2 a ha.1 ha.2;rw [List.count_cons_self] at h1;refine ⟨ha,by omega,fun x hx=>by rw [List.length_set];exact h.1 x (by simp [hx]),fun b b0 b1 => ?_⟩;rw [List.length_set] at b1;have h2:=h.2 b b0 b1;by_cases c:b=a
 ·subst c;rw [zeb b0 b1];omega
 ·rw [zlf ha.1 b0 (fun e=>c e.symm)];rw [List.count_cons_of_ne (fun e=>c e.symm)] at h2;exact h2
theorem Hs.of_cons {a:Int} {u l:List Int} (ha:0<=a/\a < l.length) (h:Hs u (l.set a.toNat (ix l a - 1))):Hs (a::u) l:=by
 refine ⟨fun x hx => ?_,fun b b0 b1 => ?_⟩
 ·rcases List.mem_cons.1 hx with rfl | hx
  ·exact ha
  ·have:=h.1 x hx;rwa [List.length_set] at this
 ·have h2:=h.2 b b0 (by rw [List.length_set];exact b1);by_cases c:b=a
  ·subst c;rw [zeb b0 b1] at h2;rw [List.count_cons_self];omega
  ·rw [zlf ha.1 b0 (fun e=>c e.symm)] at h2;rw [List.count_cons_of_ne (fun e=>c e.symm)];exact h2
theorem zp2 {l:List Int} {a:Int} (ha:0<=a/\a < l.length) (h:0 < ix l a):tot1 (l.set a.toNat (ix l a - 1))+1=tot1 l:=by
 unfold tot1;rw [List.map_set];have:=zlz (l.map Int.toNat) a.toNat (ix l a - 1).toNat (by simp;omega);rw [List.getElem_map,<- zds ha.1 ha.2] at this;omega
theorem Hs.len:∀ {u l:List Int},(∀ a∈l,0<=a)->Hs u l->u.length=tot1 l
 | [],l,hl,h=>by
  unfold tot1
  symm
  rw [List.length_nil,List.sum_eq_zero_iff_forall_eq_nat];intro x hx;obtain ⟨a,ha,rfl⟩:=List.mem_map.1 hx;obtain ⟨k,hk,rfl⟩:=List.getElem_of_mem ha;have:=h.2 k (by omega) (by omega);rw [zds (by omega) (by omega)] at this;simp at this;have e:l[k]=0:=by simpa using this.symm
  rw [e];rfl
 | a::u,l,hl,h=>by
  obtain ⟨h1,h2,h3⟩:=h.cons;have:=Hs.len (u:=u) (fun x hx=>by
   rcases List.mem_or_eq_of_mem_set hx with hx | rfl
   ·exact hl x hx
   ·omega) h3
  rw [List.length_cons,this,zp2 h1 h2]
theorem Hs.let' {u l:List Int} {L:Nat} (h:Hs u l) (hl:l.length=L):Let L u:=fun x hx=>by have:=h.1 x hx;omega
theorem zoB {L:Int} {counts:List Int} (hL:L<=1000):∃ e,zdj L counts 6=some e/\zhu L counts 6=some e/\(e=0->(counts.length:Int)=L/\(∀ a∈counts,0<=a/\a<=6)/\tot1 counts<=6):=by
 unfold zdj zhu;by_cases c1:(counts.length:Int)=L
 case neg=>
  refine ⟨3,?_,?_,by omega⟩
  ·rw [if_pos (by simpa using c1)]
  ·rw [if_pos (by simpa using c1)]
 rw [if_neg (by simpa using c1),if_neg (by simpa using c1)];have hc:counts.length<=1000:=by omega
 have key:∀ (m t:Nat) (s:Int),t+m=counts.length->0<=s->s<=6 * t->∃ e,zba counts 6 s t=some e/\zbT counts 6 s t=some e/\(e=0->(∀ a∈counts.drop t,0<=a/\a<=6)/\s+tot1 (counts.drop t)<=6):=by
  intro m;induction m with
  | zero=>
   intro t s ht hs hs2;have hz:(t:Int)=counts.length:=by omega
   have e1:zba counts 6 s t=some (if 6 < s then 1 else 0):=by
    rw [zdQ];unfold zaD;rw [if_neg (by simp only [decide_eq_true_eq];omega)];by_cases c:6 < s
    ·rw [if_pos (decide_eq_true c),if_pos c]
    ·rw [if_neg (by simpa using c),if_neg c]
   have e2:zbT counts 6 s t=some (if 6 < s then 1 else 0):=by
    rw [zga];unfold zaR;rw [if_neg (by simp only [decide_eq_true_eq];omega)];by_cases c:6 < s
    ·rw [if_pos (decide_eq_true c),if_pos c]
    ·rw [if_neg (by simpa using c),if_neg c]
   refine ⟨_,e1,e2,fun h => ?_⟩;by_cases c:6 < s
   ·rw [if_pos c] at h;cases h
   ·rw [List.drop_eq_nil_of_le (by omega)];exact ⟨by simp,by simp [tot1];omega⟩
  | succ m ih=>
   intro t s ht hs hs2;have hlt:(t:Int) < counts.length:=by omega
   have g1:∀ X,zaD counts 6 (zba counts 6) s t=X->zba counts 6 s t=X:=fun X h=>by rw [zdQ];exact h
   have g2:∀ X,zaR counts 6 (zbT counts 6) s t=X->zbT counts 6 s t=X:=fun X h=>by rw [zga];exact h
   by_cases d1:ix counts t < 0
   ·refine ⟨2,g1 _ ?_,g2 _ ?_,by omega⟩
    ·unfold zaD;rw [if_pos (decide_eq_true hlt),zal ⟨by omega,hlt⟩,if_pos (decide_eq_true d1)]
    ·unfold zaR;rw [if_pos (decide_eq_true hlt),zal ⟨by omega,hlt⟩,if_pos (decide_eq_true d1)]
   by_cases d2:6 < ix counts t
   ·refine ⟨2,g1 _ ?_,g2 _ ?_,by omega⟩
    ·unfold zaD;rw [if_pos (decide_eq_true hlt),zal ⟨by omega,hlt⟩,if_neg (by simpa using d1),if_pos (decide_eq_true d2)]
    ·unfold zaR;rw [if_pos (decide_eq_true hlt),zal ⟨by omega,hlt⟩,if_neg (by simpa using d1),zal ⟨by omega,hlt⟩,if_pos (decide_eq_true d2)]
   obtain ⟨e,e1,e2,e3⟩:=ih (t+1) (s+ix counts t) (by omega) (by omega) (by omega);refine ⟨e,g1 _ ?_,g2 _ ?_,fun h => ?_⟩
   ·unfold zaD;rw [if_pos (decide_eq_true hlt),zal ⟨by omega,hlt⟩,if_neg (by simpa using d1),if_neg (by simpa using d2),zal (by unfold fits;omega),zal (by unfold fits;omega)];exact e1
   ·unfold zaR;rw [if_pos (decide_eq_true hlt),zal ⟨by omega,hlt⟩,if_neg (by simpa using d1),zal ⟨by omega,hlt⟩,if_neg (by simpa using d2),zal ⟨by omega,hlt⟩,zal (by unfold fits;omega),zal (by unfold fits;omega)];exact e2
   obtain ⟨f1,f2⟩:=e3 h;have hd:=List.drop_eq_getElem_cons (l:=counts) (i:=t) (by omega);have hx:ix counts t=counts[t]'(by omega):=by rw [zds (by omega) hlt];rfl
   rw [hd];refine ⟨fun a ha => ?_,?_⟩
   ·rcases List.mem_cons.1 ha with rfl | ha
    ·omega
    ·exact f1 a ha
   ·unfold tot1 at f2 ⊢;rw [List.map_cons,List.sum_cons];omega
 obtain ⟨e,e1,e2,e3⟩:=key counts.length 0 0 (by omega) (Int.le_refl _) (by omega);refine ⟨e,e1,e2,fun h => ?_⟩;obtain ⟨f1,f2⟩:=e3 h;rw [List.drop_zero] at f1 f2;exact ⟨c1,f1,by omega⟩
theorem zof {l:List Int} (hl:l.length<=1000):zeU (zb8 l) (∃ x∈l,0 < x):=
 zhI (f:=fun x=>zcT x) (zfB l) (by omega) (fun x _=>by
  unfold zcT;exact zeU.dec Iff.rfl)
section
variable {g:Gm}
def Tl (g:Gm) (w:List Int):Prop:=∃ c,zeN g w=some c/\c < 1099511627776
theorem zp0 (hg:GOk g) (h0:zbk g=some 0) {w:List Int} (hw:w.length<=12) (hl:∀ x∈w,0<=x/\x < g.1):∃ b e d,zbl g w=some (b,e,d)/\((b=true\/e=7)↔Tl g w):=by
 have ha0:=hg.a0;have ha1:=hg.a1;have hm:mayE g.1 w=0:=zo2 ⟨ha0,ha1⟩ (by omega) (fun j a b=>hl _ (zgI a b));obtain ⟨c,e3,b0,b1,h1,h2,h3⟩:=zmn hg h0 hm hw;have hT:Tl g w↔c < 1099511627776:=⟨fun ⟨c',k1,k2⟩=>by rw [e3] at k1;cases k1;exact k2,fun h=>⟨c,e3,h⟩⟩;by_cases d1:c=1099511627776
 ·exact ⟨_,_,_,h1 d1,by rw [hT];simp;omega⟩
 by_cases d2:2000 < c
 ·exact ⟨_,_,_,h2 (by omega) d2,by rw [hT];simp;omega⟩
 ·obtain ⟨d,f1⟩:=h3 (by omega);exact ⟨_,_,_,f1,by rw [hT];simp;omega⟩
structure Fd (g:Gm) (l w:List Int) (b:Bool) (l' w':List Int):Prop where
 yes:b=true->∃ v,w'=w++v/\Hs v l/\Tl g (w++v)/\∀ u,Hs u l->Tl g (w++u)->vl l.length v<=vl l.length u
 no:b=false->l'=l/\w'=w/\∀ u,Hs u l -> ¬ Tl g (w++u)
open Classical in
theorem zs2 (hg:GOk g) (h0:zbk g=some 0):∀ (m:Nat) (l w:List Int),tot1 l=m->(l.length:Int)=g.1->(∀ a∈l,0<=a/\a<=6)->w.length+m<=12->(∀ x∈w,0<=x/\x < g.1)->
  ∃ b l' w',zbR g g l w=some (b,l',w',g)/\Fd g l w b l' w':=by
 have ha0:=hg.a0;have ha1:=hg.a1;intro m;induction m with
 | zero=>
  intro l w hm hl hla hw hwl;have hz:∀ a∈l,a=0:=fun a ha=>by
   have:a.toNat=0:=by
    unfold tot1 at hm;exact List.sum_eq_zero_iff_forall_eq_nat.1 hm _ (List.mem_map_of_mem ha)
   have:=hla a ha;omega
  obtain ⟨t,ht,hti⟩:=zof (l:=l) (by omega);have htf:t=false:=by
   cases t with
   | false=>rfl
   | true=>obtain ⟨x,hx,hp⟩:=hti.1 rfl;have:=hz x hx;omega
  subst htf;obtain ⟨b,e,d,e1,e2⟩:=zp0 hg h0 (w:=w) (by omega) hwl;have hnil:∀ u,Hs u l->u=[]:=fun u hu=>by
   have:=Hs.len (fun a ha=>(hla a ha).1) hu;exact List.length_eq_zero_iff.1 (by omega)
  have hs0:Hs [] l:=⟨fun x hx=>by simp at hx,fun a a0 a1=>by rw [hz _ (zgI a0 a1)];simp⟩;refine ⟨decide (Tl g w),l,w,?_,⟨fun h=>⟨[],by simp,hs0,by simpa using h,fun u hu _=>by rw [hnil u hu];exact Nat.le_refl _⟩,fun h=>⟨rfl,rfl,fun u hu=>by rw [hnil u hu,List.append_nil];simpa using h⟩⟩⟩;rw [zf8];unfold zbx;rw [ht,Option.bind_some,if_pos (by decide),e1,Option.bind_some];dsimp only;by_cases c:b=true
  ·rw [if_pos c,decide_eq_true (e2.1 (.inl c))]
  ·rw [if_neg c];have:decide (e=7)=decide (Tl g w):=by
    rw [decide_eq_decide];exact ⟨fun h=>e2.1 (.inr h),fun h=>(e2.2 h).resolve_left c⟩
   rw [this]
 | succ m ih=>
  intro l w hm hl hla hw hwl;obtain ⟨t,ht,hti⟩:=zof (l:=l) (by omega);have hex:∃ x∈l,0 < x:=by
   refine Classical.byContradiction fun hn => ?_
   have:tot1 l=0:=by
    unfold tot1;rw [List.sum_eq_zero_iff_forall_eq_nat];intro x hx;obtain ⟨a,ha,rfl⟩:=List.mem_map.1 hx;have : ¬ 0 < a:=fun h=>hn ⟨a,ha,h⟩
    omega
   omega
  have htf:t=true:=hti.2 hex;subst htf;have hne:∀ u,Hs u l->u≠[]:=fun u hu e=>by
   have:=Hs.len (fun a ha=>(hla a ha).1) hu;rw [e] at this;simp at this;omega
  rw [zf8];unfold zbx;rw [ht,Option.bind_some,if_neg (by decide)];have key:∀ (q a:Nat),a+q=l.length->(∀ u (x:Int),Hs (x::u) l->x < a -> ¬ Tl g (w++(x::u)))->∃ b l' w',zaS zbR l a g l w=some (b,l',w',g)/\Fd g l w b l' w':=by
   intro q;induction q with
   | zero=>
    intro a ha hlow;refine ⟨false,l,w,?_,fun h=>(by cases h),fun _=>⟨rfl,rfl,fun u hu => ?_⟩⟩
    ·rw [zcB];unfold zaO;rw [if_neg (by simp only [decide_eq_true_eq];omega)]
    ·cases u with
     | nil=>exact absurd rfl (hne _ hu)
     | cons x u=>exact hlow u x hu (by have:=hu.cons.1;omega)
   | succ q ihq=>
    intro a ha hlow;have hal:(a:Int) < l.length:=by omega
    have hbx:=hla _ (zgI (i:=(a:Int)) (by omega) hal);by_cases c:ix l a=0
    ·obtain ⟨b,l',w',e1,e2⟩:=ihq (a+1) (by omega) (fun u x hu hx=>by
      by_cases e:x=a
      ·subst e;have:=hu.cons.2.1;omega
      ·exact hlow u x hu (by omega))
     refine ⟨b,l',w',?_,e2⟩;rw [zcB];unfold zaO;rw [if_pos (decide_eq_true hal),zal ⟨by omega,hal⟩,zal (by omega),if_pos (decide_eq_true c),zal (by unfold fits;omega)];exact e1
    ·have hset:=zp2 (l:=l) (a:=(a:Int)) ⟨by omega,hal⟩ (by omega);obtain ⟨b,l1,w1,e1,e2⟩:=ih (l.set (a:Int).toNat (ix l a - 1)) (w++[(a:Int)]) (by omega) (by rw [List.length_set];exact hl) (fun x hx=>by
      rcases List.mem_or_eq_of_mem_set hx with hx | rfl
      ·exact hla x hx
      ·omega) (by rw [List.length_append,List.length_singleton];omega) (fun x hx=>by
      rcases List.mem_append.1 hx with hx | hx
      ·exact hwl x hx
      ·obtain rfl:=List.mem_singleton.1 hx;omega)
     have hstep:zaS zbR l a g l w=if b=true then some (true,l1,w1,g) else G (fits ((w1.length:Int) - 1)) (G (0<=(w1.length:Int) - 1/\(w1.length:Int) - 1<=(w1.length:Int)) (G (0<=(a:Int)/\(a:Int) < l1.length) (G ((a:Int).toNat < l1.length) (G (fits (ix l1 a+1)) (G (0<=(a:Int)/\(a:Int) < l1.length) (G ((a:Int).toNat < l1.length) (G (fits ((a:Int)+1))
       (zaS zbR l ((a:Int)+1) g (l1.set (a:Int).toNat (ix l1 a+1)) (w1.take ((w1.length:Int) - 1).toNat))))))))):=by
      rw [zcB];unfold zaO;rw [if_pos (decide_eq_true hal),zal ⟨by omega,hal⟩,zal (by omega),if_neg (by simpa using c),zal ⟨by omega,hal⟩,zal (by omega),zal (by unfold fits;omega),zal ⟨by omega,hal⟩,zal (by omega),zal (by unfold room;simp;omega),e1,Option.bind_some]
     cases b with
     | true=>
      refine ⟨true,l1,w1,by rw [hstep,if_pos rfl],fun _ => ?_,fun h=>by cases h⟩;obtain ⟨v,f1,f2,f3,f4⟩:=e2.yes rfl;rw [List.length_set] at f4;have hvs:=Hs.of_cons ⟨by omega,hal⟩ f2;refine ⟨(a:Int)::v,by rw [f1,List.append_assoc];rfl,hvs,by rw [List.append_assoc] at f3;exact f3,fun u hu hT => ?_⟩;cases u with
      | nil=>exact absurd rfl (hne _ hu)
      | cons x u=>
       obtain ⟨hx1,hx2,hx3⟩:=hu.cons;have hlu:u.length=v.length:=by
        have h1:=Hs.len (fun a ha=>(hla a ha).1) hu;have h2:=Hs.len (fun a ha=>(hla a ha).1) hvs;simp only [List.length_cons] at h1 h2;omega
       have hxa:(a:Int)<=x:=Int.not_lt.1 fun h=>hlow u x hu h hT
       rw [vl,vl,hlu];by_cases e:x=a
       ·subst e;have:=f4 u hx3 (by rw [List.append_assoc];exact hT);omega
       ·have hlet:Let (l.length:Nat) v:=(f2.let' (by rw [List.length_set]));have hv:=(znn (L:=l.length) (by omega) v hlet).1;have:((a:Int).toNat+1) * l.length ^ v.length<=x.toNat * l.length ^ v.length:=Nat.mul_le_mul_right _ (by omega);rw [Nat.add_mul] at this;omega
     | false=>
      obtain ⟨f1,f2,f3⟩:=e2.no rfl;subst f1 f2;have hback:(l.set (a:Int).toNat (ix l a - 1)).set (a:Int).toNat (ix (l.set (a:Int).toNat (ix l a - 1)) a+1)=l:=by
       rw [zeb (by omega) hal,List.set_set,show ix l (a:Int) - 1+1=ix l a by omega,zds (by omega) hal];exact List.set_getElem_self (by omega)
      have htake:(w++[(a:Int)]).take (((w++[(a:Int)]).length:Int) - 1).toNat=w:=by
       rw [List.length_append,List.length_singleton,show (((w.length+1:Nat):Int) - 1).toNat=w.length by omega];simp
      obtain ⟨b,l',w',g1,g2⟩:=ihq (a+1) (by omega) (fun u x hu hx=>by
       by_cases e:x=a
       ·subst e;have:=f3 u hu.cons.2.2;rw [List.append_assoc] at this;exact this
       ·exact hlow u x hu (by omega))
      refine ⟨b,l',w',?_,g2⟩;rw [hstep,if_neg (by decide),hback,htake];have hlw:(w++[(a:Int)]).length=w.length+1:=by simp
      have hll:(l.set (a:Int).toNat (ix l a - 1)).length=l.length:=by simp
      rw [hlw,hll,zeb (by omega) hal,zal (by unfold fits;omega),zal (by omega),zal ⟨by omega,hal⟩,zal (by omega),zal (by unfold fits;omega),zal ⟨by omega,hal⟩,zal (by omega),zal (by unfold fits;omega)];exact g1
  obtain ⟨b,l',w',e1,e2⟩:=key l.length 0 (by omega) (fun u x hu hx=>by have:=hu.cons.1;omega);exact ⟨b,l',w',e1,e2⟩
end
theorem zlV {own counts:List Int} (hc:counts.length<=4) (ho:own.length=counts.length):∀ (m a:Nat),a+m=counts.length->(∀ b:Int,0<=b->b < a->ix own b=ix counts b)->
  ∃ r,zb0 counts own a=some r/\(r=true↔∀ b:Int,0<=b->b < counts.length->ix own b=ix counts b)
 | 0,a,ha,h=>by
  refine ⟨true,?_,⟨fun _ b b0 b1=>h b b0 (by omega),fun _=>rfl⟩⟩;rw [zfv];unfold zaU;rw [if_neg (by simp only [decide_eq_true_eq];omega)]
 | m+1,a,ha,h=>by
  have hgo:∀ X,zaU counts own (zb0 counts own) a=X->zb0 counts own a=X:=fun X h=>by rw [zfv];exact h
  by_cases c:ix own (a:Int)=ix counts (a:Int)
  ·obtain ⟨r,e1,e2⟩:=zlV hc ho m (a+1) (by omega) (fun b b0 b1=>by
    by_cases e:b=a
    ·subst e;exact c
    ·exact h b b0 (by omega))
   refine ⟨r,hgo _ ?_,e2⟩;unfold zaU;rw [if_pos (by simp only [decide_eq_true_eq];omega),zal (by omega),zal (by omega),zal (by omega),if_neg (by simp [c]),zal (by unfold fits;omega)];exact e1
  ·refine ⟨false,hgo _ ?_,⟨fun h=>(by cases h),fun h=>absurd (h a (by omega) (by omega)) c⟩⟩;unfold zaU;rw [if_pos (by simp only [decide_eq_true_eq];omega),zal (by omega),zal (by omega),zal (by omega),if_pos (by simp [c])]
theorem zlU {x counts:List Int} (hc:counts.length<=4) (hx:x.length<=60) (hl:∀ a∈x,0<=a/\a < counts.length):∀ (m i:Nat) (own:List Int),i+m=x.length->own.length=counts.length->(∀ a:Int,0<=a->a < counts.length->ix own a=((x.take i).count a:Int))->
  ∃ r,zdk x counts i own=some r/\(r=true↔Hs x counts)
 | 0,i,own,hi,ho,h=>by
  obtain ⟨r,e1,e2⟩:=zlV hc ho counts.length 0 (by omega) (fun b b0 b1=>by omega);refine ⟨r,?_,e2.trans ?_⟩
  ·rw [zfu];unfold zbp;rw [if_neg (by simp only [decide_eq_true_eq];omega)];exact e1
  ·rw [List.take_of_length_le (by omega)] at h;exact ⟨fun k=>⟨hl,fun a a0 a1=>by rw [<- h a a0 a1];exact k a a0 a1⟩,fun k a a0 a1=>by rw [h a a0 a1];exact k.2 a a0 a1⟩
 | m+1,i,own,hi,ho,h=>by
  have hil:i < x.length:=by omega
  have hb:=hl _ (List.getElem_mem hil);have hxi:ix x (i:Int)=x[i]:=by rw [zds (by omega) (by omega)];rfl
  obtain ⟨r,e1,e2⟩:=zlU hc hx hl m (i+1) (own.set (x[i]).toNat (ix own x[i]+1)) (by omega) (by rw [List.length_set];exact ho) (fun a a0 a1=>by
   rw [List.take_add_one,List.getElem?_eq_getElem hil,Option.toList_some,List.count_append,List.count_singleton];by_cases e:x[i]=a
   ·rw [e,zeb a0 (by omega),h a a0 a1];simp
   ·rw [zlf hb.1 a0 e,h a a0 a1];simp [e])
  have hbx:=h _ hb.1 hb.2;have hcn:(x.take i).count x[i]<=60:=Nat.le_trans List.count_le_length (by rw [List.length_take];omega);refine ⟨r,?_,e2⟩;rw [zfu];unfold zbp;rw [if_pos (by simp only [decide_eq_true_eq];omega),hxi,zal (by omega),if_neg (by simp only [decide_eq_true_eq];omega),zal (by omega),if_neg (by simp only [decide_eq_true_eq];omega),zal (by omega),zal (by omega),zal (by omega),zal (by unfold fits;omega),zal (by omega),zal (by omega),zal (by unfold fits;omega)];exact e1
theorem znX {x counts:List Int} (hc:counts.length<=4) (hx:x.length<=60) (hl:∀ a∈x,0<=a/\a < counts.length):∃ r,zfV x counts=some r/\(r=true↔Hs x counts):=by
 obtain ⟨r,e1,e2⟩:=zlU hc hx hl x.length 0 (List.replicate counts.length 0) (by omega) (by simp) (fun a a0 a1=>by rw [zds a0 (by simp;omega)];simp);refine ⟨r,?_,e2⟩;unfold zfV;rw [zal (by unfold mkOK;omega),Int.toNat_natCast];exact e1
section
variable {g:Gm} {counts w:List Int} {b:Bool} {l':List Int}
theorem zqI (hg:GOk g) (h0:zbk g=some 0) (hL:(counts.length:Int)=g.1) (hcs:∀ a∈counts,0<=a/\a<=6) (ht:tot1 counts<=6) {w':List Int} (hf:Fd g counts [] b l' w') (hw:w=if b=true then w' else []) {k:Nat} (hkl:k < counts.length ^ tot1 counts)
  (hlow:∀ v,b=true->w'=v->k<=vl counts.length v) (hgo:∀ X,zaB g counts b 0 w (tot1 counts:Nat) (zaq g counts b 0 w (tot1 counts:Nat)) (wd counts.length (tot1 counts) k)=X->zaq g counts b 0 w (tot1 counts:Nat) (wd counts.length (tot1 counts) k)=X)
  (hnext:(∀ v,b=true->w'=v->vl counts.length v≠k)->((zjv g.1 (wd counts.length (tot1 counts) k)).bind fun y=>zaq g counts b 0 w (tot1 counts:Nat) y)=some true):
  zaq g counts b 0 w (tot1 counts:Nat) (wd counts.length (tot1 counts) k)=some true:=by
 have ha0:=hg.a0;have ha1:=hg.a1;have hL1:1<=counts.length:=by omega
 have hlen:=zon counts.length (tot1 counts) k;have hlet:=ztp hL1 (tot1 counts) k;have hvk:=zvq hL1 (tot1 counts) k hkl;have hvw:∀ v,b=true->w'=v->vl counts.length v=k->v=wd counts.length (tot1 counts) k/\Hs v counts/\Tl g v:=fun v h1 h2 h3=>by
  obtain ⟨v',f1,f2,f3,f4⟩:=hf.yes h1;rw [List.nil_append] at f1 f3;have:v'=v:=by rw [<- f1,h2]
  subst this;have h4:=(znn hL1 v' (f2.let' rfl)).2;rw [Hs.len (fun a ha=>(hcs a ha).1) f2,h3] at h4;exact ⟨h4.symm,f2,f3⟩
 generalize hx:wd counts.length (tot1 counts) k=x at *
 refine hgo _ ?_;unfold zaB;obtain ⟨r,e1,e2⟩:=znX (x:=x) (counts:=counts) (by omega) (by omega) (fun a ha=>hlet a ha);obtain ⟨tb,te,td,e3,e4⟩:=zp0 hg h0 (w:=x) (by omega) (fun a ha=>by have:=hlet a ha;omega);rw [if_pos (by simp only [decide_eq_true_eq];omega),e1,Option.bind_some];by_cases hr:r=true
 case neg=>
  rw [if_neg hr];exact hnext fun v h1 h2 h3=>hr (e2.2 ((hvw v h1 h2 h3).1 ▸ (hvw v h1 h2 h3).2.1))
 rw [if_pos hr];have hH:=e2.1 hr;have hm:mayE g.1 x=0:=zo2 ⟨ha0,ha1⟩ (by omega) (fun j a c=>by have:=hlet _ (zgI a c);omega);obtain ⟨c,e5,_⟩:=zmn hg h0 hm (by omega);rw [show (g.1,(g.2.1,(g.2.2.1,())))=g from rfl,e5,Option.bind_some];by_cases hc:c < 1099511627776
 case neg=>
  rw [if_neg (by simpa using hc)];refine hnext fun v h1 h2 h3=>hc ?_
  obtain ⟨c',k1,k2⟩:=(hvw v h1 h2 h3).1 ▸ (hvw v h1 h2 h3).2.2;rw [e5] at k1;cases k1;exact k2
 rw [if_pos (decide_eq_true hc)];have hT:Tl g x:=⟨c,e5,hc⟩;have hbt:b=true:=by
  cases b with
  | true=>rfl
  | false=>exact absurd (by rw [List.nil_append];exact hT) ((hf.no rfl).2.2 x hH)
 subst hbt;obtain ⟨v,f1,f2,f3,f4⟩:=hf.yes rfl;rw [List.nil_append] at f1;have h5:=f4 x hH (by rw [List.nil_append];exact hT);have h6:=hlow v rfl f1;have h7:=(hvw v rfl f1 (by omega)).1;rw [hw,if_pos rfl,f1,znh (by rw [h7];omega),Option.bind_some,if_pos (by decide),if_pos rfl,h7];simp
theorem zso (hg:GOk g) (h0:zbk g=some 0) (hL:(counts.length:Int)=g.1) (hcs:∀ a∈counts,0<=a/\a<=6) (ht:tot1 counts<=6) {w':List Int} (hf:Fd g counts [] b l' w') (hw:w=if b=true then w' else []):
  ∀ (m k:Nat),k+m+1=counts.length ^ tot1 counts->(∀ v,b=true->w'=v->k<=vl counts.length v)->zaq g counts b 0 w (tot1 counts:Nat) (wd counts.length (tot1 counts) k)=some true:=by
 have ha0:=hg.a0;have ha1:=hg.a1;have hL1:1<=counts.length:=by omega
 intro m;induction m with
 | zero=>
  intro k hk hlow;have hkl:k < counts.length ^ tot1 counts:=by omega
  have hgo:∀ X,zaB g counts b 0 w (tot1 counts:Nat) (zaq g counts b 0 w (tot1 counts:Nat)) (wd counts.length (tot1 counts) k)=X->zaq g counts b 0 w (tot1 counts:Nat) (wd counts.length (tot1 counts) k)=X:=fun X h=>by rw [zb4];exact h
  exact zqI hg h0 hL hcs ht hf hw hkl hlow hgo (fun hb=>by
   have hend:zaq g counts b 0 w (tot1 counts:Nat) (wd counts.length (tot1 counts+1) 0)=some true:=by
    rw [zb4];unfold zaB;rw [zon,if_neg (by simp only [decide_eq_true_eq];omega),if_pos (by decide)];have hbf:b=false:=by
     cases b with
     | false=>rfl
     | true=>
      obtain ⟨v,f1,f2,_,_⟩:=hf.yes rfl;rw [List.nil_append] at f1;have h1:=hlow v rfl f1;have h2:=hb v rfl f1;have h3:=(znn hL1 v (f2.let' rfl)).1;rw [Hs.len (fun a ha=>(hcs a ha).1) f2] at h3;omega
    subst hbf;rw [hw];rfl
   have hnx:=znp (L:=counts.length) (by omega) hkl (by omega);rw [if_neg (by omega)] at hnx;rw [<- hL,hnx,Option.bind_some];exact hend)
 | succ m ih=>
  intro k hk hlow;have hkl:k < counts.length ^ tot1 counts:=by omega
  have hgo:∀ X,zaB g counts b 0 w (tot1 counts:Nat) (zaq g counts b 0 w (tot1 counts:Nat)) (wd counts.length (tot1 counts) k)=X->zaq g counts b 0 w (tot1 counts:Nat) (wd counts.length (tot1 counts) k)=X:=fun X h=>by rw [zb4];exact h
  exact zqI hg h0 hL hcs ht hf hw hkl hlow hgo (fun hb=>by
   have hnx:=znp (L:=counts.length) (by omega) hkl (by omega);rw [if_pos (by omega)] at hnx;rw [<- hL,hnx,Option.bind_some];exact ih (k+1) (by omega) fun v h1 h2=>by
    have:=hlow v h1 h2;have:=hb v h1 h2;omega)
end
theorem zs7 {g:Gm} {counts:List Int} {e:Int} (he:e≠0):zbL g counts false e [] e=some true:=by
 unfold zbL;rw [if_pos (by simpa using he),if_pos (by simp),if_pos (by decide)];rfl
theorem zs9 {g:Gm} {counts w:List Int} {b:Bool} (ht:tot1 counts<=6) (hcs:∀ a∈counts,0<=a/\a<=6) (hc:counts.length<=4):∀ (m a s:Nat),a+m=counts.length->s+tot1 (counts.drop a)=tot1 counts->
  zcc g counts b 0 w s a=zaq g counts b 0 w (tot1 counts:Nat) (List.replicate (tot1 counts) 0)
 | 0,a,s,ha,hs=>by
  rw [zdP];unfold zaW;rw [if_neg (by simp only [decide_eq_true_eq];omega)];have:s=tot1 counts:=by
   rw [List.drop_eq_nil_of_le (by omega)] at hs;simpa [tot1] using hs
  subst this;rw [zal (by unfold mkOK;omega),Int.toNat_natCast]
 | m+1,a,s,ha,hs=>by
  have hal:(a:Int) < counts.length:=by omega
  have hb:=hcs _ (zgI (i:=(a:Int)) (by omega) hal);have hd:=List.drop_eq_getElem_cons (l:=counts) (i:=a) (by omega);have hx:ix counts a=counts[a]'(by omega):=by rw [zds (by omega) hal];rfl
  have hsum:tot1 (counts.drop a)=(ix counts a).toNat+tot1 (counts.drop (a+1)):=by
   unfold tot1;rw [hd,hx,List.map_cons,List.sum_cons]
  obtain ⟨c,hcx⟩:∃ c:Nat,ix counts a=c:=⟨(ix counts a).toNat,by omega⟩;have ih:=zs9 (g:=g) (w:=w) (b:=b) ht hcs hc m (a+1) (s+c) (by omega) (by omega);rw [zdP];unfold zaW;rw [if_pos (decide_eq_true hal),zal ⟨by omega,hal⟩,hcx,zal (by unfold fits;omega),zal (by unfold fits;omega)];exact ih
theorem law_true (g:Gm) (counts:List Int):zeZ g counts=some true:=by
 obtain ⟨e,c1,c2,c3⟩:=zqb (g:=g);have hgg:(g.1,(g.2.1,(g.2.2.1,())))=g:=rfl;unfold zeZ;rw [hgg,c2];by_cases he:e=0
 case neg=>
  have hT:zb6 g counts=some (false,e,[]):=by
   unfold zb6;rw [hgg,c1,Option.bind_some,if_pos (by simpa using he)]
  rw [hT,Option.bind_some,Option.bind_some,if_neg (by simpa using he)];exact zs7 he
 subst he;have hg:=c3 rfl;have ha0:=hg.a0;have ha1:=hg.a1;obtain ⟨e,d1,d2,d3⟩:=zoB (L:=g.1) (counts:=counts) (by omega);by_cases he:e=0
 case neg=>
  have hT:zb6 g counts=some (false,e,[]):=by
   unfold zb6;rw [hgg,c1,Option.bind_some,if_neg (by decide),d1,Option.bind_some,if_pos (by simpa using he)]
  rw [hT,Option.bind_some,Option.bind_some,if_pos (by decide),d2,Option.bind_some];exact zs7 he
 subst he;obtain ⟨hL,hcs,ht⟩:=d3 rfl;obtain ⟨b,l',w',e1,e2⟩:=zs2 hg c1 (tot1 counts) counts [] rfl hL hcs (by simp;omega) (fun x hx=>by simp at hx);have hT:zb6 g counts=some (b,0,if b=true then w' else []):=by
  unfold zb6;rw [hgg,c1,Option.bind_some,if_neg (by decide),d1,Option.bind_some,if_neg (by decide),zjz (by omega),Option.bind_some,e1,Option.bind_some];cases b with
  | true=>rfl
  | false=>rfl
 rw [hT,Option.bind_some,Option.bind_some,if_pos (by decide),d2,Option.bind_some];unfold zbL;rw [if_neg (by decide)];have h9:=zs9 (g:=g) (counts:=counts) (w:=if b=true then w' else []) (b:=b) ht hcs (by omega) counts.length 0 0 (by omega) (by simp);refine h9.trans ?_;rw [<- zpl counts.length];have hpos:0 < counts.length ^ tot1 counts:=Nat.pow_pos (by omega);exact zso hg c1 hL hcs ht e2 rfl (counts.length ^ tot1 counts - 1) 0 (by omega) (fun _ _ _=>Nat.zero_le _)
end Go.Proofs.Ytmogekkikaelhaa.parikhToldW
