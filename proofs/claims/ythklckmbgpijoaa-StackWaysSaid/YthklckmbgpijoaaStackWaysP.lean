/- The law 'StackWays' of the plain functions. -/
import Derived.Test.YthklckmbgpijoaaStackWaysD
set_option maxHeartbeats 1000000
set_option maxRecDepth 20000
set_option linter.unusedSimpArgs false
set_option linter.unusedVariables false
set_option linter.unusedSectionVars false
namespace Go.Proofs.Ythklckmbgpijoaa.stackWaysW
open Go Go.Ab
noncomputable section
theorem zrD {n:Nat} (h:n < 9223372036854775808):IntKind.wrap .i64 (n:Int)=n:=by
 unfold IntKind.wrap;simp [IntKind.bits,IntKind.signed];omega
theorem zlT (m:Nat):BitVec.ofInt 64 (m:Int)=BitVec.ofNat 64 m:=by
 apply BitVec.eq_of_toNat_eq;simp
theorem zq7 {m n:Nat} (hm:m < 9223372036854775808) (hn:n < 9223372036854775808):iand .i64 (m:Int) (n:Int)=((m &&& n:Nat):Int):=by
 unfold iand;have h:(BitVec.ofInt IntKind.i64.bits (m:Int) &&& BitVec.ofInt IntKind.i64.bits (n:Int)).toNat=m &&& n:=by
  show (BitVec.ofInt 64 (m:Int) &&& BitVec.ofInt 64 (n:Int)).toNat=m &&& n;rw [zlT,zlT,BitVec.toNat_and,BitVec.toNat_ofNat,BitVec.toNat_ofNat,Nat.mod_eq_of_lt (by omega),Nat.mod_eq_of_lt (by omega)]
 rw [h,zrD (Nat.lt_of_le_of_lt Nat.and_le_left hm)]
theorem ztg {m n:Nat} (hm:m < 9223372036854775808) (hn:n < 9223372036854775808):ior .i64 (m:Int) (n:Int)=((m ||| n:Nat):Int):=by
 unfold ior;have h:(BitVec.ofInt IntKind.i64.bits (m:Int) ||| BitVec.ofInt IntKind.i64.bits (n:Int)).toNat=m ||| n:=by
  show (BitVec.ofInt 64 (m:Int) ||| BitVec.ofInt 64 (n:Int)).toNat=m ||| n
  rw [zlT,zlT,BitVec.toNat_or,BitVec.toNat_ofNat,BitVec.toNat_ofNat,Nat.mod_eq_of_lt (by omega),Nat.mod_eq_of_lt (by omega)]
 rw [h,zrD (Nat.or_lt_two_pow (n:=63) hm hn)]
theorem ztY {m k:Nat} (hk:k < 63) (h:m * 2 ^ k < 9223372036854775808):ishl .i64 (m:Int) (k:Int)=((m <<< k:Nat):Int):=by
 unfold ishl;have e:min ((k:Int).toNat) IntKind.i64.bits=k:=by
  show min ((k:Int).toNat) 64=k;omega
 rw [e,Nat.shiftLeft_eq];have:(m:Int) * 2 ^ k=((m * 2 ^ k:Nat):Int):=by push_cast;rfl
 rw [this,zrD h]
theorem zoj {m k:Nat} (hk:k<=64):ishr .i64 (m:Int) (k:Int)=((m >>> k:Nat):Int):=by
 unfold ishr;have e:min ((k:Int).toNat) IntKind.i64.bits=k:=by
  show min ((k:Int).toNat) 64=k;omega
 rw [e,Nat.shiftRight_eq_div_pow,Int.fdiv_eq_ediv_of_nonneg _ (by exact_mod_cast Nat.zero_le _)]
 push_cast;rfl
theorem zxZ {m q:Nat} (hm:m < 4611686018427387904) (hq:q < 62):ior .i64 (m:Int) (ishl .i64 1 (q:Int))=((m ||| 2 ^ q:Nat):Int)/\m ||| 2 ^ q < 4611686018427387904:=by
 have h2:2 ^ q < 4611686018427387904:=Nat.pow_lt_pow_right (a:=2) (n:=62) (by omega) hq
 have h1:ishl .i64 1 (q:Int)=((2 ^ q:Nat):Int):=by
  have:=ztY (m:=1) (k:=q) (by omega) (by omega)
  rw [Nat.shiftLeft_eq,Nat.one_mul] at this;exact this
 rw [h1,ztg (by omega) (by omega)]
 exact ⟨rfl,Nat.or_lt_two_pow (n:=62) hm h2⟩
def zc5 (o:Option Bool) (P:Prop):Prop:=∃ b,o=some b/\(b=true↔P)
theorem zc5.of {b:Bool} {P:Prop} (h:b=true↔P):zc5 (some b) P:=⟨b,rfl,h⟩
theorem zc5.dec {P Q:Prop} [Decidable P] (h:P↔Q):zc5 (some (decide P)) Q:=⟨_,rfl,by simpa using h⟩
theorem zc5.iff {o:Option Bool} {P Q:Prop} (h:zc5 o P) (k:P↔Q):zc5 o Q:=let ⟨b,h1,h2⟩:=h;⟨b,h1,h2.trans k⟩
theorem zc5.eq {o:Option Bool} {P:Prop} [Decidable P] (h:zc5 o P):o=some (decide P):=by
 obtain ⟨b,rfl,hb⟩:=h;by_cases hp:P
 ·simp [hp,hb.2 hp]
 ·have:b=false:=by cases b;rfl;exact absurd (hb.1 rfl) hp
  simp [hp,this]
theorem zc5.to {R:Type} {o:Option Bool} {P:Prop} {k1 k2 x:Option R} (h:zc5 o P) (h1:P->k1=x) (h2 : ¬ P->k2=x):(o.bind fun y=>if y=true then k1 else k2)=x:=by
 obtain ⟨b,rfl,hb⟩:=h;refine zai rfl ?_
 cases b
 ·exact h2 fun hp=>by simpa using hb.2 hp
 ·exact h1 (hb.1 rfl)
theorem zc5.bind {R:Type} {o:Option Bool} {P:Prop} {k:Bool->Option R} {x:Option R} (h:zc5 o P) (h1:∀ b,(b=true↔P)->k b=x):o.bind k=x:=by
 obtain ⟨b,rfl,hb⟩:=h;exact h1 b hb
section
variable {α C:Type} [Inhabited α]
theorem zej {l:List α} {P:α->Prop}:(∃ x∈l,P x)↔∃ i:Int,0<=i/\i < l.length/\P (ix l i):=by
 constructor
 ·rintro ⟨x,hx,hp⟩;obtain ⟨i,hi,rfl⟩:=List.mem_iff_getElem.1 hx;refine ⟨i,by omega,by omega,?_⟩
  rwa [zhG (by omega) (by omega)]
 ·rintro ⟨i,h0,h1,hp⟩;exact ⟨_,za7 h0 h1,hp⟩
theorem zuA {s:List α} {f:α->Option Bool} {L:Int->Option Int} {P:α->Prop} (hs:s.length<=4611686018427387904)
  (hL:∀ t,L t=if decide (t < (s.length:Int))=true then G (0<=t/\t < (s.length:Int)) ((f (ix s t)).bind fun y=>if y=true then some t else G (fits (t+1)) (L (t+1))) else some (-1))
  (hf:∀ x∈s,zc5 (f x) (P x)):∀ (n:Nat) (t:Int),0<=t->t<=s.length->(s.length - t).toNat=n->
   ∃ i,L t=some i/\((i = -1/\∀ j:Int,t<=j->j < s.length -> ¬ P (ix s j))\/(t<=i/\i < s.length/\P (ix s i)/\∀ j:Int,t<=j->j < i -> ¬ P (ix s j))):=by
 intro n
 induction n with
 | zero=>
  intro t h0 h1 hn;refine ⟨-1,?_,.inl ⟨rfl,fun j a b=>by omega⟩⟩
  rw [hL,if_neg (by simp;omega)]
 | succ n ih=>
  intro t h0 h1 hn;rw [hL,if_pos (by simp;omega),zdh (by omega)]
  obtain ⟨b,hb,hbp⟩:=hf _ (za7 h0 (by omega:t < s.length))
  rw [hb]
  cases b with
  | true=>exact ⟨t,rfl,.inr ⟨by omega,by omega,hbp.1 rfl,fun j a b=>by omega⟩⟩
  | false=>
   have hnp : ¬ P (ix s t):=fun hp=>by simpa using hbp.2 hp
   obtain ⟨i,hi,hc⟩:=ih (t+1) (by omega) (by omega) (by omega)
   refine ⟨i,?_,?_⟩
   ·refine (if_neg (by simp):(if false=true then some t else G (fits (t+1)) (L (t+1)))=_).trans ?_
    rw [zdh (by unfold fits;omega),hi]
   ·rcases hc with ⟨h2,h3⟩ | ⟨h2,h3,h4,h5⟩
    ·refine .inl ⟨h2,fun j a b => ?_⟩
     by_cases e:j=t
     ·rw [e];exact hnp
     ·exact h3 j (by omega) b
    ·refine .inr ⟨by omega,h3,h4,fun j a b => ?_⟩
     by_cases e:j=t
     ·rw [e];exact hnp
     ·exact h5 j (by omega) b
theorem zhd {s:List α} {f:α->Option Bool} {L:Int->Option Int} {P:α->Prop}
  (hL:∀ t,L t=if decide (t < (s.length:Int))=true then G (0<=t/\t < (s.length:Int)) ((f (ix s t)).bind fun y=>if y=true then some t else G (fits (t+1)) (L (t+1))) else some (-1))
  (hs:s.length<=4611686018427387904) (hf:∀ x∈s,zc5 (f x) (P x)):zc5 ((L 0).bind fun y=>some (decide ((0:Int)<=y))) (∃ x∈s,P x):=by
 obtain ⟨i,hi,hc⟩:=zuA hs hL hf _ 0 (by omega) (by omega) rfl
 rw [hi];refine ⟨decide (0<=i),rfl,?_⟩
 rw [decide_eq_true_iff,zej];rcases hc with ⟨h2,h3⟩ | ⟨h2,h3,h4,h5⟩
 ·constructor
  ·intro h;omega
  ·rintro ⟨j,h0,h1,hp⟩;exact absurd hp (h3 j h0 h1)
 ·exact ⟨fun _=>⟨i,by omega,h3,h4⟩,fun _=>by omega⟩
theorem zvd {s:List α} {c:C} {f:α->C->Option (Bool×C)} {L:Int->C->Option (Int×C)} {P:α->Prop}
  (hL:∀ t c,L t c=if decide (t < (s.length:Int))=true then G (0<=t/\t < (s.length:Int)) ((f (ix s t) c).bind fun y=>if y.1=true then some (t,y.2) else G (fits (t+1)) (L (t+1) y.2)) else some (-1,c))
  (hs:s.length<=4611686018427387904) (hf:∀ x∈s,∃ b,f x c=some (b,c)/\(b=true↔P x)):∃ b,((L 0 c).bind fun y=>some (decide ((0:Int)<=y.1),y.2))=some (b,c)/\(b=true↔∃ x∈s,P x):=by
 have key:∀ (n:Nat) (t:Int),0<=t->t<=s.length->(s.length - t).toNat=n->
   ∃ i,L t c=some (i,c)/\((i = -1/\∀ j:Int,t<=j->j < s.length -> ¬ P (ix s j))\/(t<=i/\i < s.length/\P (ix s i))):=by
  intro n
  induction n with
  | zero=>
   intro t h0 h1 hn;refine ⟨-1,?_,.inl ⟨rfl,fun j a b=>by omega⟩⟩
   rw [hL,if_neg (by simp;omega)]
  | succ n ih=>
   intro t h0 h1 hn;rw [hL,if_pos (by simp;omega),zdh (by omega)]
   obtain ⟨b,hb,hbp⟩:=hf _ (za7 h0 (by omega:t < s.length))
   rw [hb]
   cases b with
   | true=>exact ⟨t,rfl,.inr ⟨by omega,by omega,hbp.1 rfl⟩⟩
   | false=>
    have hnp : ¬ P (ix s t):=fun hp=>by simpa using hbp.2 hp
    obtain ⟨i,hi,hc⟩:=ih (t+1) (by omega) (by omega) (by omega)
    refine ⟨i,?_,?_⟩
    ·refine (if_neg (by simp):(if false=true then some (t,c) else G (fits (t+1)) (L (t+1) c))=_).trans ?_
     rw [zdh (by unfold fits;omega),hi]
    ·rcases hc with ⟨h2,h3⟩ | ⟨h2,h3,h4⟩
     ·refine .inl ⟨h2,fun j a b => ?_⟩
      by_cases e:j=t
      ·rw [e];exact hnp
      ·exact h3 j (by omega) b
     ·exact .inr ⟨by omega,h3,h4⟩
 obtain ⟨i,hi,hc⟩:=key _ 0 (by omega) (by omega) rfl
 rw [hi];refine ⟨decide (0<=i),rfl,?_⟩
 rw [decide_eq_true_iff,zej];rcases hc with ⟨h2,h3⟩ | ⟨h2,h3,h4⟩
 ·constructor
  ·intro h;omega
  ·rintro ⟨j,h0,h1,hp⟩;exact absurd hp (h3 j h0 h1)
 ·exact ⟨fun _=>⟨i,by omega,h3,h4⟩,fun _=>by omega⟩
end
theorem zfs {R:Type} {len:Int} {L:Int->Option R} {bad:Int->Prop} {x:Option R} {lo:Int} (h0:lo<=len)
  (hs:∀ t,lo<=t->t < len->(bad t->L t=x)/\(¬ bad t->L t=L (t+1))) (hf:(∀ t,lo<=t->t < len -> ¬ bad t)->L len=x):L lo=x:=by
 have key:∀ (n:Nat) (t:Int),lo<=t->t<=len->(len - t).toNat=n->(∀ j,lo<=j->j < t -> ¬ bad j)->L t=x:=by
  intro n
  induction n with
  | zero=>
   intro t h1 h2 hn h;obtain rfl:t=len:=by omega
   exact hf h
  | succ n ih=>
   intro t h1 h2 hn h;by_cases hb:bad t
   ·exact (hs t h1 (by omega)).1 hb
   ·rw [(hs t h1 (by omega)).2 hb]
    refine ih (t+1) (by omega) (by omega) (by omega) fun j a b => ?_
    by_cases e:j=t
    ·rw [e];exact hb
    ·exact h j a (by omega)
 exact key _ lo (Int.le_refl _) h0 rfl (fun j a b=>by omega)
theorem fold_to {R S:Type} {len:Int} {L:Int->S->Option R} {f:Int->S->S} {lo:Int} {I:Int->S->Prop} {s:S} (h0:lo<=len) (hI:I lo s)
  (hs:∀ t s,lo<=t->t < len->I t s->L t s=L (t+1) (f t s)/\I (t+1) (f t s)):∃ s',I len s'/\L lo s=L len s':=by
 have key:∀ (n:Nat) (t:Int) (s:S),lo<=t->t<=len->(len - t).toNat=n->I t s->∃ s',I len s'/\L t s=L len s':=by
  intro n
  induction n with
  | zero=>
   intro t s h1 h2 hn h;obtain rfl:t=len:=by omega
   exact ⟨s,h,rfl⟩
  | succ n ih=>
   intro t s h1 h2 hn h;obtain ⟨e,h3⟩:=hs t s h1 (by omega) h
   obtain ⟨s',h4,h5⟩:=ih (t+1) _ (by omega) (by omega) (by omega) h3
   exact ⟨s',h4,e.trans h5⟩
 exact key _ lo s (Int.le_refl _) h0 rfl hI
theorem zaV {α:Type}:∀ {ks:List α} {x:α},zaT ks x=none↔x∉ks
 | [],x=>by simp [zaT]
 | y::ys,x=>by
  unfold zaT;by_cases h:y=x
  ·rw [if_pos h];simp [h]
  ·rw [if_neg h,Option.map_eq_none_iff,zaV];simp [Ne.symm h]
abbrev ones {α:Type} (ks:List α):List Int:=List.replicate ks.length 1
theorem zy1 {α:Type} {ks:List α} {x:α}:(mget ks (ones ks) x 0=0)↔x∉ks:=by
 unfold mget
 cases h:zaT ks x with
 | none=>simp [zaV.1 h]
 | some j=>
  have hx:x∈ks:=by
   refine Classical.byContradiction fun hn => ?_
   rw [zaV.2 hn] at h;cases h
  have:=zes h;simp [hx,this]
theorem zo7 {α:Type} {ks:List α} {x:α} (h:x∉ks):zb5 ks x=ks++[x]:=by
 unfold zb5;rw [zaV.2 h]
theorem zy3 {α:Type} {ks:List α} {x:α} (h:x∉ks):zcM ks (ones ks) x 1=ones (ks++[x]):=by
 unfold zcM;rw [zaV.2 h];show List.replicate ks.length 1++[1]=List.replicate (ks++[x]).length 1;rw [List.length_append,List.length_singleton,List.replicate_succ']
theorem zt5 {α:Type} [DecidableEq α]:∀ {l U:List α},l.Nodup->(∀ x∈l,x∈U)->l.length<=U.length
 | [],_,_,_=>Nat.zero_le _
 | a::l,U,hn,hs=>by
  have ha:=hs a (by simp)
  obtain ⟨h1,h2⟩:=List.nodup_cons.1 hn;have:=zt5 (U:=U.erase a) h2 (fun x hx=>(List.mem_erase_of_ne (by rintro rfl;exact h1 hx)).2 (hs x (by simp [hx])))
  rw [List.length_erase_of_mem ha] at this;have hp:0 < U.length:=List.length_pos_of_mem ha;rw [List.length_cons];omega
theorem zmV {l:List Int} {n:Nat} (h:l.Nodup) (hb:∀ x∈l,0<=x/\x < n):l.length<=n:=by
 have:=zt5 (U:=(List.range n).map Int.ofNat) h (fun x hx=>by
  have:=hb x hx;exact List.mem_map.2 ⟨x.toNat,List.mem_range.2 (by omega),by show ((x.toNat:Nat):Int)=x;omega⟩)
 simpa using this
theorem zsl {α:Type} {ks:List α} {x:α} (h:x∈ks):∃ j,zaT ks x=some j:=by
 cases e:zaT ks x with
 | none=>exact absurd h (zaV.1 e)
 | some j=>exact ⟨j,rfl⟩
theorem zkd {α:Type} (ks:List α) (x:α):zaT (x::ks) x=some 0:=by unfold zaT;rw [if_pos rfl]
theorem zlP {α:Type} {ks:List α} {x y:α} (h:y≠x):zaT (y::ks) x=(zaT ks x).map (·+1):=by
 rw [zaT,if_neg h]
theorem zlN {α:Type}:∀ {ks:List α} {x:α} {j:Nat} (l:List α),zaT ks x=some j->zaT (ks++l) x=some j
 | [],_,_,_,h=>by cases h
 | y::ks,x,j,l,h=>by
  rw [List.cons_append];by_cases e:y=x
  ·subst e;rw [zkd] at h ⊢;exact h
  ·rw [zlP e] at h ⊢
   cases hm:zaT ks x with
   | none=>rw [hm] at h;cases h
   | some i=>rw [hm] at h;rw [zlN l hm];exact h
theorem zlO {α:Type}:∀ {ks:List α} {x:α},x∉ks->zaT (ks++[x]) x=some ks.length
 | [],x,_=>zkd _ _
 | y::ks,x,h=>by
  have hy:y≠x:=by rintro rfl;exact h (by simp)
  rw [List.cons_append,zlP hy,zlO (fun hh=>h (by simp [hh]))];rfl
theorem zrf {α:Type}:∀ {ks:List α} {x:α} {k:Nat},ks[k]? =some x->(∀ j,j < k->ks[j]? ≠some x)->zaT ks x=some k
 | [],_,_,h,_=>by simp at h
 | y::ks,x,k,h,hf=>by
  cases k with
  | zero=>
   have:y=x:=by simpa using h
   subst this;exact zkd _ _
  | succ k=>
   have hy:y≠x:=by have:=hf 0 (by omega);simpa using this
   rw [zlP hy,zrf (k:=k) (by simpa using h) (fun j hj=>by have:=hf (j+1) (by omega);simpa using this)];rfl
theorem zsk {α:Type} {ks:List α} {x y:α} {j:Nat} (h:zaT ks x=some j) (k:zaT ks y=some j):x=y:=by
 have:=zfc h;rw [zfc k] at this;injection this with this;exact this.symm
theorem zti {α:Type} {ks:List α} (hn:ks.Nodup) {j:Nat} (hj:j < ks.length):zaT ks ks[j]=some j:=
 zrf (by simp) fun i hi e=>by
  have hi':i < ks.length:=by omega
  rw [List.getElem?_eq_getElem hi'] at e;exact List.pairwise_iff_getElem.1 hn i j hi' hj hi (Option.some.inj e)
theorem zo4 {α β:Type} (f:α->β):∀ {ks:List α} {x:α},(∀ y∈ks,f y=f x->y=x)->zaT (ks.map f) (f x)=zaT ks x
 | [],_,_=>rfl
 | y::ks,x,h=>by
  have ih:=zo4 f (ks:=ks) (x:=x) (fun z hz=>h z (by simp [hz]))
  rw [List.map_cons];by_cases e:y=x
  ·subst e;rw [zkd,zkd]
  ·rw [zlP e,zlP (fun hh=>e (h y (by simp) hh)),ih]
def iota (n:Nat):List Int:=(List.range n).map fun j:Nat=>(j:Int)
theorem ztU (n:Nat):(iota n).length=n:=by simp [iota]
theorem zvQ (n:Nat):iota (n+1)=iota n++[(n:Int)]:=by simp [iota,List.range_succ]
theorem zo5 {α:Type} {ks:List α} {x:α} {j:Nat} (h:zaT ks x=some j):mget ks (iota ks.length) x 0=j:=by
 have:=zes h;unfold mget;rw [h];simp [iota,this]
theorem zik {α:Type} {ks:List α} {x:α}:mhas ks x=true↔x∈ks:=by
 unfold mhas
 cases e:zaT ks x with
 | none=>simp [zaV.1 e]
 | some j=>
  have:=zfc e;simp [List.mem_of_getElem? this]
theorem zmS {α:Type} {ks:List α} {x:α} (h:x∉ks):zcM ks (iota ks.length) x ks.length=iota (ks++[x]).length:=by
 unfold zcM;rw [zaV.2 h,List.length_append,List.length_singleton,zvQ]
theorem zoC {α:Type} [DecidableEq α]:∀ {l U:List α},U.Nodup->(∀ x∈U,x∈l)->l.length<=U.length->l.Nodup
 | [],_,_,_,_=>List.nodup_nil
 | a::l,U,hU,hs,hl=>by
  have ha:a∉l:=fun ha=>by
   have:=zt5 (l:=U) (U:=l) hU (fun x hx=>by
    rcases List.mem_cons.1 (hs x hx) with rfl | h
    ·exact ha
    ·exact h)
   rw [List.length_cons] at hl;omega
  refine List.nodup_cons.2 ⟨ha,?_⟩
  refine zoC (U:=U.erase a) (hU.erase a) (fun x hx => ?_) ?_
  ·have hne:x≠a:=((List.Nodup.mem_erase_iff hU).1 hx).1;rcases List.mem_cons.1 (hs x (List.mem_of_mem_erase hx)) with h | h
   ·exact absurd h hne
   ·exact h
  ·have:U.length - 1<=(U.erase a).length:=by
    by_cases h:a∈U
    ·rw [List.length_erase_of_mem h];omega
    ·rw [List.erase_of_not_mem h];omega
   rw [List.length_cons] at hl;omega
def keyL (l:List Int):List Int:=l.flatMap fun x=>[IntKind.wrap .u8 x,IntKind.wrap .u8 (ishr .i64 x 8)]
def keyB (l:List Int):List UInt8:=bstr (keyL l)
theorem zyL (x:Int):IntKind.wrap .u8 x=x % 256:=by
 unfold IntKind.wrap;simp [IntKind.bits,IntKind.signed]
theorem zlG (x:Int) (l:List Int):keyB (x::l)=UInt8.ofNat (x % 256).toNat::UInt8.ofNat (ishr .i64 x 8 % 256).toNat::keyB l:=by
 unfold keyB keyL bstr;simp [zyL]
theorem zxw {a b:Int} (h:UInt8.ofNat (a % 256).toNat=UInt8.ofNat (b % 256).toNat):a % 256=b % 256:=by
 have:=congrArg UInt8.toNat h;simp only [UInt8.toNat_ofNat'] at this;omega
theorem ztZ:∀ {l k:List Int},(∀ x∈l,0<=x/\x < 65536)->(∀ x∈k,0<=x/\x < 65536)->keyB l=keyB k->l=k
 | [],[],_,_,_=>rfl
 | [],y::k,_,_,h=>by rw [zlG] at h;cases h
 | x::l,[],_,_,h=>by rw [zlG] at h;cases h
 | x::l,y::k,hl,hk,h=>by
  rw [zlG,zlG] at h;injection h with h1 h
  injection h with h2 h
  have hx:=hl x (by simp)
  have hy:=hk y (by simp)
  have e1:=zxw h1;have e2:=zxw h2;obtain ⟨a,rfl⟩:∃ a:Nat,x=a:=⟨x.toNat,by omega⟩
  obtain ⟨b,rfl⟩:∃ b:Nat,y=b:=⟨y.toNat,by omega⟩
  rw [show (8:Int)=((8:Nat):Int) from rfl,zoj (by omega),zoj (by omega),Nat.shiftRight_eq_div_pow,Nat.shiftRight_eq_div_pow] at e2
  have:a=b:=by omega
  rw [this,ztZ (fun z hz=>hl z (by simp [hz])) (fun z hz=>hk z (by simp [hz])) h]
theorem zwQ (l:List Int):(keyL l).length=2 * l.length:=by
 induction l with
 | nil=>rfl
 | cons x l ih=>unfold keyL at *; rw [List.flatMap_cons,List.length_append,ih];simp;omega
def mkR (n:Nat) (g:Int->Int):List Int:=(List.range n).map fun a:Nat=>g a
theorem ztj (n:Nat) (g:Int->Int):(mkR n g).length=n:=by simp [mkR]
theorem zxp {n:Nat} {g:Int->Int} {a:Int} (h0:0<=a) (h1:a < n):ix (mkR n g) a=g a:=by
 rw [zhG h0 (by rw [ztj];exact h1)]
 simp [mkR,Int.toNat_of_nonneg h0]
theorem mkR_of {n:Nat} {g:Int->Int} {l:List Int} (hl:l.length=n) (h:∀ a:Int,0<=a->a < n->ix l a=g a):l=mkR n g:=
 zoX (by rw [ztj,hl]) fun j j0 j1=>by rw [zxp j0 (by omega),h j j0 (by omega)]
theorem zli {s:List Int} (hs:s.length * 8<=140737488355328):ze8 s=some s:=by
 have hr:G (room ([]:List Int) s 8) (some (([]:List Int)++s))=some s:=by
  rw [zdh (zwk (by simpa using hs))];rfl
 unfold ze8;refine zvT (fun h => ?_) (fun h=>hr)
 obtain rfl:s=[]:=List.length_eq_zero_iff.1 h;rw [hr];exact zlq (ts:=[(.list (.int .i64))]) (some ([]:List Int))
theorem zxm {α:Type} [Inhabited α] {l:List α} (h:l.Nodup) {i j:Int} (i0:0<=i) (i1:i < l.length) (j0:0<=j) (j1:j < l.length) (e:ix l i=ix l j):i=j:=by
 rw [zhG i0 i1,zhG j0 j1] at e;have key:∀ a b:Nat,(ha:a < l.length)->(hb:b < l.length)->a < b->l[a]≠l[b]:=fun a b ha hb hlt=>List.pairwise_iff_getElem.1 h a b ha hb hlt
 rcases Nat.lt_trichotomy i.toNat j.toNat with c | c | c
 ·exact absurd e (key _ _ (by omega) (by omega) c)
 ·omega
 ·exact absurd e.symm (key _ _ (by omega) (by omega) c)
def stp (N:List (List Int)) (q a:Int):Int:=ix (ix N q) a
def wlk (N:List (List Int)) (q:Int) (w:List Int):Int:=w.foldl (stp N) q
def trc (N:List (List Int)):Int->List Int->List Int
 | _,[]=>[]
 | q,a::w=>stp N q a::trc N (stp N q a) w
structure Tab (L:Int) (N:List (List Int)):Prop where
 row:∀ r∈N,(r.length:Int)=L
 to:∀ r∈N,∀ q∈r,0<=q/\q < N.length
theorem Tab.stpb {L:Int} {N:List (List Int)} (h:Tab L N) {q a:Int} (q0:0<=q) (q1:q < N.length) (a0:0<=a) (a1:a < L):0<=stp N q a/\stp N q a < N.length:=by
 have h1:=za7 q0 q1;have h2:=h.row _ h1;exact h.to _ h1 _ (za7 a0 (by omega))
theorem Tab.rowlen {L:Int} {N:List (List Int)} (h:Tab L N) {q:Int} (q0:0<=q) (q1:q < N.length):((ix N q).length:Int)=L:=h.row _ (za7 q0 q1)
theorem Tab.wlkb {L:Int} {N:List (List Int)} (h:Tab L N):∀ {w:List Int} {q:Int},0<=q->q < N.length->(∀ a∈w,0<=a/\a < L)->0<=wlk N q w/\wlk N q w < N.length
 | [],q,q0,q1,_=>⟨q0,q1⟩
 | a::w,q,q0,q1,hw=>by
  have:=h.stpb q0 q1 (hw a (by simp)).1 (hw a (by simp)).2
  exact Tab.wlkb h (q:=stp N q a) (w:=w) this.1 this.2 (fun b hb=>hw b (by simp [hb]))
theorem Tab.trcb {L:Int} {N:List (List Int)} (h:Tab L N):∀ {w:List Int} {q:Int},0<=q->q < N.length->(∀ a∈w,0<=a/\a < L)->∀ p∈trc N q w,0<=p/\p < N.length
 | [],q,q0,q1,_,p,hp=>by cases hp
 | a::w,q,q0,q1,hw,p,hp=>by
  have:=h.stpb q0 q1 (hw a (by simp)).1 (hw a (by simp)).2
  rcases List.mem_cons.1 hp with rfl | hp
  ·exact this
  ·exact Tab.trcb h this.1 this.2 (fun b hb=>hw b (by simp [hb])) p hp
abbrev Dt:=Int×Int×(List (List Int))×(List Int)×Unit
def DBig (mx:Int) (d:Dt):Prop:=d.2.2.1.length < 1\/mx < d.2.2.1.length
def DRag (d:Dt):Prop := ¬ (d.2.2.2.1.length:Int)=d.2.2.1.length\/∃ r∈d.2.2.1,¬ (r.length:Int)=d.1
def DOut (mb:Int->Prop) (d:Dt):Prop:=(d.2.1 < 0\/(d.2.2.1.length:Int)<=d.2.1)\/(∃ r∈d.2.2.1,∃ q∈r,q < 0\/(d.2.2.1.length:Int)<=q)\/(∃ s∈d.2.2.2.1,mb s)
open Classical in
def detE (mx:Int) (mb:Int->Prop) (d:Dt):Int:=if d.1 < 1\/4 < d.1 then 2 else if DBig mx d then 1 else if DRag d then 3 else if DOut mb d then 2 else 0
structure DOk (mx:Int) (mb:Int->Prop) (d:Dt):Prop where
 let1:1<=d.1/\d.1<=4
 n1:1<=d.2.2.1.length/\(d.2.2.1.length:Int)<=mx
 st:0<=d.2.1/\d.2.1 < d.2.2.1.length
 mkl:(d.2.2.2.1.length:Int)=d.2.2.1.length
 mok:∀ s∈d.2.2.2.1,¬ mb s
 tab:Tab d.1 d.2.2.1
theorem zyR {mx:Int} {mb:Int->Prop} {d:Dt} (h:detE mx mb d=0):DOk mx mb d:=by
 unfold detE at h;by_cases c1:d.1 < 1\/4 < d.1
 ·rw [if_pos c1] at h;omega
 rw [if_neg c1] at h;by_cases c2:DBig mx d
 ·rw [if_pos c2] at h;omega
 rw [if_neg c2] at h;by_cases c3:DRag d
 ·rw [if_pos c3] at h;omega
 rw [if_neg c3] at h;by_cases c4:DOut mb d
 ·rw [if_pos c4] at h;omega
 unfold DBig at c2;unfold DRag at c3;unfold DOut at c4;refine ⟨by omega,by omega,?_,?_,fun s hs hm=>c4 (.inr (.inr ⟨s,hs,hm⟩)),fun r hr => ?_,fun r hr q hq => ?_⟩
 ·have : ¬ (d.2.1 < 0\/(d.2.2.1.length:Int)<=d.2.1):=fun h=>c4 (.inl h)
  omega
 ·exact Decidable.not_not.1 fun h=>c3 (.inl h)
 ·by_cases e:(r.length:Int)=d.1
  ·exact e
  ·exact absurd (.inr ⟨r,hr,e⟩) c3
 ·have : ¬ (q < 0\/(d.2.2.1.length:Int)<=q):=fun h=>c4 (.inr (.inl ⟨r,hr,q,hq,h⟩))
  omega
theorem zxJ {mx:Int} {mb:Int->Prop} {d:Dt} (h:DOk mx mb d):detE mx mb d=0:=by
 have h1:=h.let1;have h2:=h.n1;have h3:=h.st;have h4:=h.mkl;unfold detE;rw [if_neg (by omega),if_neg (by unfold DBig;omega),if_neg,if_neg]
 ·rintro (hh | ⟨r,hr,q,hq,hh⟩ | ⟨s,hs,hh⟩)
  ·omega
  ·have:=h.tab.to r hr q hq;omega
  ·exact h.mok s hs hh
 ·rintro (hh | ⟨r,hr,hh⟩)
  ·exact hh h4
  ·exact hh (h.tab.row r hr)
section
variable {d:Dt} {mb:Int->Prop}
def sigC (d:Dt) (c:List Int) (q:Int):Int×List Int:=(ix c q,(ix d.2.2.1 q).map (ix c))
def ksC (d:Dt) (c:List Int):Nat->List (Int×List Int)
 | 0=>[]
 | t+1=>if sigC d c (t:Int)∈ksC d c t then ksC d c t else ksC d c t++[sigC d c (t:Int)]
def idxC (d:Dt) (c:List Int) (q:Nat):Nat:=(zaT (ksC d c (q+1)) (sigC d c (q:Int))).getD 0
def rfC (d:Dt) (c:List Int):List Int:=mkR d.2.2.1.length fun q=>(idxC d c q.toNat:Int)
theorem zeo (c:List Int) (t:Nat):ksC d c (t+1)=if sigC d c (t:Int)∈ksC d c t then ksC d c t else ksC d c t++[sigC d c (t:Int)]:=rfl
theorem zx2 (c:List Int):∀ t,∃ x,ksC d c (t+1)=ksC d c t++x:=fun t=>by
 rw [zeo];by_cases h:sigC d c (t:Int)∈ksC d c t
 ·exact ⟨[],by rw [if_pos h,List.append_nil]⟩
 ·exact ⟨_,by rw [if_neg h]⟩
theorem zmO (c:List Int):∀ t q:Nat,q < t->sigC d c (q:Int)∈ksC d c t
 | t+1,q,h=>by
  rw [zeo];by_cases e:q=t
  ·subst e;by_cases h:sigC d c (q:Int)∈ksC d c q
   ·rw [if_pos h];exact h
   ·rw [if_neg h];simp
  ·have:=zmO c t q (by omega)
   by_cases h:sigC d c (t:Int)∈ksC d c t
   ·rw [if_pos h];exact this
   ·rw [if_neg h];simp [this]
theorem zsf (c:List Int):∀ (t:Nat),∀ k∈ksC d c t,∃ q:Nat,q < t/\k=sigC d c (q:Int)
 | 0,k,h=>by cases h
 | t+1,k,h=>by
  rw [zeo] at h;by_cases e:sigC d c (t:Int)∈ksC d c t
  ·rw [if_pos e] at h;obtain ⟨q,h1,h2⟩:=zsf c t k h;exact ⟨q,by omega,h2⟩
  ·rw [if_neg e] at h;rcases List.mem_append.1 h with h | h
   ·obtain ⟨q,h1,h2⟩:=zsf c t k h;exact ⟨q,by omega,h2⟩
   ·exact ⟨t,by omega,List.mem_singleton.1 h⟩
theorem zoZ (c:List Int):∀ t,(ksC d c t).Nodup
 | 0=>List.nodup_nil
 | t+1=>by
  rw [zeo];by_cases h:sigC d c (t:Int)∈ksC d c t
  ·rw [if_pos h];exact zoZ c t
  ·rw [if_neg h,List.nodup_append];exact ⟨zoZ c t,by simp,fun a ha b hb=>by rw [List.mem_singleton.1 hb];rintro rfl;exact h ha⟩
theorem zvW (c:List Int):∀ t,(ksC d c t).length<=t
 | 0=>Nat.le_refl _
 | t+1=>by
  have:=zvW c t;rw [zeo]
  split
  ·omega
  ·rw [List.length_append,List.length_singleton];omega
theorem zjm (c:List Int) (q:Nat):∀ t,q < t->zaT (ksC d c t) (sigC d c (q:Int))=some (idxC d c q)
 | t+1,h=>by
  by_cases e:q=t
  ·subst e;obtain ⟨j,hj⟩:=zsl (zmO (d:=d) c (q+1) q (by omega))
   unfold idxC;rw [hj];rfl
  ·obtain ⟨x,hx⟩:=zx2 (d:=d) c t;rw [hx];exact zlN x (zjm c q t (by omega))
theorem zwN (c:List Int) {q r:Nat}:idxC d c q=idxC d c r↔sigC d c (q:Int)=sigC d c (r:Int):=by
 have h1:=zjm (d:=d) c q (max q r+1) (by omega)
 have h2:=zjm (d:=d) c r (max q r+1) (by omega)
 constructor
 ·intro e;rw [<- e] at h2;exact zsk h1 h2
 ·intro e;rw [e,h2] at h1;exact (Option.some.inj h1).symm
theorem zxW (c:List Int) {q t:Nat} (h:q < t):idxC d c q < (ksC d c t).length:=zes (zjm c q t h)
theorem zwO (c:List Int) {t j:Nat} (h:j < (ksC d c t).length):∃ q,q < t/\idxC d c q=j:=by
 obtain ⟨q,hq,e⟩:=zsf c t _ (List.getElem_mem h);refine ⟨q,hq,?_⟩
 have h1:=zjm (d:=d) c q t hq;rw [<- e,zti (zoZ c t) h] at h1;exact (Option.some.inj h1).symm
structure ClsOk (d:Dt) (c:List Int):Prop where
 len:c.length=d.2.2.1.length
 b:∀ q:Int,0<=q->q < c.length->0<=ix c q/\ix c q < 65536
theorem zpy (c:List Int):(rfC d c).length=d.2.2.1.length:=ztj _ _
theorem zqq (c:List Int) {q:Int} (h0:0<=q) (h1:q < d.2.2.1.length):ix (rfC d c) q=idxC d c q.toNat:=zxp h0 h1
theorem zrz (h:DOk 3000 mb d) (c:List Int) {q:Int} (h0:0<=q) (h1:q < d.2.2.1.length):((sigC d c q).2.length:Int)=d.1:=by
 unfold sigC;rw [List.length_map];exact h.tab.rowlen h0 h1
theorem zub (h:DOk 3000 mb d) {c:List Int} (hc:ClsOk d c) {q:Int} (h0:0<=q) (h1:q < d.2.2.1.length):∀ x∈(sigC d c q).2,0<=x/\x < 65536:=by
 intro x hx;unfold sigC at hx;obtain ⟨y,hy,rfl⟩:=List.mem_map.1 hx;have:=h.tab.to _ (za7 h0 h1) y hy;exact hc.b y this.1 (by rw [hc.len];exact this.2)
theorem zmk (h:DOk 3000 mb d) (c:List Int) {q a:Int} (h0:0<=q) (h1:q < d.2.2.1.length) (a0:0<=a) (a1:a < d.1):ix (sigC d c q).2 a=ix c (ix (ix d.2.2.1 q) a):=by
 have:=h.tab.rowlen h0 h1;unfold sigC;exact zse _ a0 (by omega)
theorem zry (h:DOk 3000 mb d) (c:List Int) {p q:Int} (p0:0<=p) (p1:p < d.2.2.1.length) (q0:0<=q) (q1:q < d.2.2.1.length):sigC d c p=sigC d c q↔ix c p=ix c q/\∀ a:Int,0<=a->a < d.1->ix c (ix (ix d.2.2.1 p) a)=ix c (ix (ix d.2.2.1 q) a):=by
 have l1:=zrz h c p0 p1;have l2:=zrz h c q0 q1;constructor
 ·intro e;refine ⟨congrArg Prod.fst e,fun a a0 a1 => ?_⟩
  rw [<- zmk h c p0 p1 a0 a1,<- zmk h c q0 q1 a0 a1,e]
 ·rintro ⟨e1,e2⟩;refine Prod.ext e1 (zoX (by omega) fun a a0 a1 => ?_)
  rw [zmk h c p0 p1 a0 (by omega),zmk h c q0 q1 a0 (by omega)]
  exact e2 a a0 (by omega)
def encK (k:Int×List Int):Int×List UInt8×Unit:=(k.1,keyB k.2,())
theorem ztJ {k l:Int×List Int} (hk:∀ x∈k.2,0<=x/\x < 65536) (hl:∀ x∈l.2,0<=x/\x < 65536) (e:encK k=encK l):k=l:=by
 unfold encK at e;injection e with e1 e2
 injection e2 with e2 e3
 exact Prod.ext e1 (ztZ hk hl e2)
theorem zoE (h:DOk 3000 mb d) {c:List Int} (hc:ClsOk d c) {t:Nat} (ht:t < d.2.2.1.length) {number:List (Int×List UInt8×Unit)} {number_1 next':List Int} {r6}:
  zba d c t number number_1 next' r6 0 []=if mhas number (encK (sigC d c t))=true then za9 c t next' r6 (keyL (sigC d c t).2) number number_1
   else za9 c t next' r6 (keyL (sigC d c t).2) (zb5 number (encK (sigC d c t))) (zcM number number_1 (encK (sigC d c t)) (number.length:Int)):=by
 have hrl:=h.tab.rowlen (q:=(t:Int)) (by omega) (by omega)
 have hlt:=h.let1;have hcl:=hc.len;have key:∀ (n:Nat) (a:Int),((ix d.2.2.1 (t:Int)).length - a).toNat=n->0<=a->a<=(ix d.2.2.1 (t:Int)).length->
   zba d c t number number_1 next' r6 a (keyL ((sigC d c t).2.take a.toNat))=zba d c t number number_1 next' r6 (ix d.2.2.1 (t:Int)).length (keyL (sigC d c t).2):=by
  intro n
  induction n with
  | zero=>
   intro a hn a0 a1;obtain rfl:a=(ix d.2.2.1 (t:Int)).length:=by omega
   rw [List.take_of_length_le (by unfold sigC;rw [List.length_map];omega)]
  | succ n ih=>
   intro a hn a0 a1;have hst:=h.tab.stpb (q:=(t:Int)) (a:=a) (by omega) (by omega) a0 (by omega)
   unfold stp at hst;rw [<- ih (a+1) (by omega) (by omega) (by omega)]
   conv=>lhs;rw [zgE];unfold zbo
   have hk:=zwQ ((sigC d c t).2.take a.toNat);rw [List.length_take] at hk;have hsl:=zrz h c (q:=(t:Int)) (by omega) (by omega)
   rw [if_pos (by simp;omega)]
   refine G_to (by omega) (G_to (by omega) (G_to (by omega) (G_to (by omega) (G_to (by omega) (G_to (by omega) (G_to (by unfold room;simp;omega) (G_to (by unfold fits;omega) ?_)))))))
   congr 1
   rw [zoY a0 (by omega),zmk h c (q:=(t:Int)) (by omega) (by omega) a0 (by omega)]
   unfold keyL;rw [List.flatMap_append];rfl
 refine (key _ 0 rfl (by omega) (by omega)).trans ?_
 rw [zgE];unfold zbo;rw [if_neg (by simp)]
 refine G_to (by omega) (G_to (by omega) ?_)
 rw [show (ix c (t:Int),bstr (keyL (sigC d c t).2),())=encK (sigC d c t) from rfl];by_cases c1:mhas number (encK (sigC d c t))=true
 ·rw [if_neg (by simp [c1]),if_pos c1]
 ·rw [if_pos (by simpa using c1),if_neg c1]
theorem znS (h:DOk 3000 mb d) {c:List Int} (hc:ClsOk d c) {count:Int} {r3}:∀ (n t:Nat) (next':List Int),d.2.2.1.length - t=n->t<=d.2.2.1.length->next'.length=d.2.2.1.length->(∀ j:Int,0<=j->j < t->ix next' j=ix (rfC d c) j)->
  zbS d count c r3 t ((ksC d c t).map encK) (iota (ksC d c t).length) next'=if ((ksC d c d.2.2.1.length).length:Int)=count then some (rfC d c) else r3 ((ksC d c d.2.2.1.length).length:Int) (rfC d c):=by
 have hn:=h.n1;intro n
 induction n with
 | zero=>
  intro t next' hn2 ht hl hj;obtain rfl:t=d.2.2.1.length:=by omega
  have:next'=rfC d c:=zoX (by rw [zpy];exact hl) fun j j0 j1=>hj j j0 (by omega)
  rw [zhv];unfold zbE;rw [if_neg (by simp),List.length_map,this]
  by_cases e:((ksC d c d.2.2.1.length).length:Int)=count
  ·rw [if_pos (decide_eq_true e),if_pos e]
  ·rw [if_neg (by simpa using e),if_neg e]
 | succ n ih=>
  intro t next' hn2 ht hl hj;rw [zhv];unfold zbE;rw [if_pos (by simp;omega)]
  refine G_to (by omega) ?_
  rw [zoE h hc (by omega)]
  have inj:∀ y∈ksC d c t,encK y=encK (sigC d c t)->y=sigC d c t:=fun y hy e=>by
   obtain ⟨q,hq,rfl⟩:=zsf c t y hy;exact ztJ (zub h hc (by omega) (by omega)) (zub h hc (by omega) (by omega)) e
  have hmem:encK (sigC d c t)∈(ksC d c t).map encK↔sigC d c t∈ksC d c t:=by
   rw [List.mem_map];exact ⟨fun ⟨y,hy,e⟩=>inj y hy e ▸ hy,fun hy=>⟨_,hy,rfl⟩⟩
  have hat:=zjm (d:=d) c t (t+1) (by omega)
  have inj':∀ y∈ksC d c (t+1),encK y=encK (sigC d c t)->y=sigC d c t:=fun y hy e=>by
   obtain ⟨q,hq,rfl⟩:=zsf c (t+1) y hy;exact ztJ (zub h hc (by omega) (by omega)) (zub h hc (by omega) (by omega)) e
  have hget:mget ((ksC d c (t+1)).map encK) (iota (ksC d c (t+1)).length) (encK (sigC d c t)) 0=idxC d c t:=by
   have h1:zaT ((ksC d c (t+1)).map encK) (encK (sigC d c t))=some (idxC d c t):=by rw [zo4 encK inj',hat]
   have:=zo5 h1
   rwa [List.length_map] at this
  have fin:za9 c t next' (zbS d count c r3) (keyL (sigC d c t).2) ((ksC d c (t+1)).map encK) (iota (ksC d c (t+1)).length)=if ((ksC d c d.2.2.1.length).length:Int)=count then some (rfC d c) else r3 ((ksC d c d.2.2.1.length).length:Int) (rfC d c):=by
   unfold za9;refine G_to (by omega) (G_to (by omega) (G_to (by unfold fits;omega) ?_))
   rw [show (ix c (t:Int),bstr (keyL (sigC d c t).2),())=encK (sigC d c t) from rfl,hget];refine ih (t+1) _ (by omega) (by omega) (by rw [List.length_set];exact hl) (fun j j0 j1 => ?_)
   by_cases e:j=t
   ·subst e;rw [zcu j0 (by omega),zqq c j0 (by omega)];simp
   ·rw [zem (by omega) j0 (Ne.symm e)];exact hj j j0 (by omega)
  by_cases e:sigC d c t∈ksC d c t
  ·rw [if_pos (zik.2 (hmem.2 e))];rw [zeo,if_pos e] at fin;exact fin
  ·have hne:=fun hh=>e (hmem.1 hh)
   rw [if_neg (fun hh=>hne (zik.1 hh)),zo7 hne]
   have hv:=zmS hne;rw [List.length_map] at hv;rw [List.length_map,hv];rw [zeo,if_neg e] at fin;rw [List.map_append] at fin;rw [List.length_append,List.length_map];rw [List.length_append] at fin;exact fin
theorem zlh (h:DOk 3000 mb d) {c:List Int} (hc:ClsOk d c) {n q:Int} {next' first:List Int} {r7 k r10} (q0:0<=q) (q1:q < d.2.2.1.length) (p0:0<=ix first k) (p1:ix first k < d.2.2.1.length) (hk:0<=k/\k<=100000):∀ (f:Nat) (same:Bool) (a:Int),(d.1 - a).toNat=f->0<=a->a<=d.1->
  (same=true↔ix c (ix first k)=ix c q/\∀ b:Int,0<=b->b < a->ix c (ix (ix d.2.2.1 (ix first k)) b)=ix c (ix (ix d.2.2.1 q) b))\/(same=false/\sigC d c (ix first k)≠sigC d c q)->
  zb0 d c n q next' first r7 k r10 same a=if sigC d c (ix first k)=sigC d c q then zbv n q next' first r7 k else r10 (k+1):=by
 have hlt:=h.let1;have hcl:=hc.len;have bad:∀ a:Int,a<=d.1->sigC d c (ix first k)≠sigC d c q->zb0 d c n q next' first r7 k r10 false a=if sigC d c (ix first k)=sigC d c q then zbv n q next' first r7 k else r10 (k+1):=fun a _ hne=>by
  rw [if_neg hne,zeY];unfold zbn zbZ;simp only [Bool.false_eq_true,if_false,ite_self];exact G_to (by unfold fits;omega) rfl
 intro f
 induction f with
 | zero=>
  intro same a hf a0 a1 hs;obtain rfl:a=d.1:=by omega
  rcases hs with hs | ⟨rfl,hs⟩
  ·rw [<- zry h c p0 p1 q0 q1] at hs
   cases same with
   | false=>exact bad _ (by omega) (fun e=>by have:=hs.2 e;cases this)
   | true=>
    rw [if_pos (hs.1 rfl),zeY];unfold zbn zbZ;rw [if_neg (by simp),if_pos rfl]
  ·exact bad _ (by omega) hs
 | succ f ih=>
  intro same a hf a0 a1 hs;rcases hs with hs | ⟨rfl,hs⟩
  ·cases same with
   | false=>
    refine bad _ a1 (fun e => ?_)
    rw [zry h c p0 p1 q0 q1] at e;have:=hs.2 ⟨e.1,fun b b0 b1=>e.2 b b0 (by omega)⟩
    cases this
   | true=>
    have hp:=h.tab.rowlen p0 p1;have hq:=h.tab.rowlen q0 q1;have sp:=h.tab.stpb p0 p1 a0 (by omega)
    have sq:=h.tab.stpb q0 q1 a0 (by omega)
    unfold stp at sp sq;rw [zeY];unfold zbn zbZ;rw [if_pos (by simp;omega),if_pos rfl]
    refine G_to (by omega) (G_to (by omega) (G_to (by omega) (G_to (by omega) (G_to (by omega) (G_to (by omega) (G_to (by omega) (G_to (by omega) (G_to (by unfold fits;omega) ?_))))))))
    refine ih _ (a+1) (by omega) (by omega) (by omega) (.inl ?_)
    rw [decide_eq_true_iff];have hs':=hs.1 rfl;constructor
    ·intro e;refine ⟨hs'.1,fun b b0 b1 => ?_⟩
     by_cases e2:b=a
     ·rw [e2];exact e
     ·exact hs'.2 b b0 (by omega)
    ·intro e;exact e.2 a a0 (by omega)
  ·exact bad _ a1 hs
theorem zm1 (h:DOk 3000 mb d) {c:List Int} (hc:ClsOk d c) {t:Nat} (ht:t < d.2.2.1.length) {next' first:List Int} {r7} (hl:next'.length=d.2.2.1.length) (hf:first.map (sigC d c)=ksC d c t) (hb:∀ p:Int,p∈first->0<=p/\p < d.2.2.1.length):
  ∃ first':List Int,first'.map (sigC d c)=ksC d c (t+1)/\(∀ p:Int,p∈first'->0<=p/\p < d.2.2.1.length)/\zbw d c (first.length:Int) t next' first r7 0=r7 (first'.length:Int) ((t:Int)+1) (next'.set t (idxC d c t:Int)) first':=by
 have hn:=h.n1;have hfl:first.length=(ksC d c t).length:=by rw [<- hf,List.length_map]
 have hle:=zvW (d:=d) c t;have hcl:=hc.len;have key:∀ (f:Nat) (k:Int),(first.length - k).toNat=f->0<=k->k<=first.length->(∀ j:Int,0<=j->j < k->sigC d c (ix first j)≠sigC d c t)->
   ∃ first':List Int,first'.map (sigC d c)=ksC d c (t+1)/\(∀ p:Int,p∈first'->0<=p/\p < d.2.2.1.length)/\zbw d c (first.length:Int) t next' first r7 k=r7 (first'.length:Int) ((t:Int)+1) (next'.set t (idxC d c t:Int)) first':=by
  intro f
  induction f with
  | zero=>
   intro k hk k0 k1 hj;obtain rfl:k=first.length:=by omega
   have hnot:sigC d c t∉ksC d c t:=fun hm=>by
    rw [<- hf] at hm;obtain ⟨p,hp,e⟩:=List.mem_map.1 hm;obtain ⟨j,j0,j1,rfl⟩:=(zej (P:=fun x=>x=p)).1 ⟨p,hp,rfl⟩
    exact hj j j0 j1 e
   have hidx:idxC d c t=first.length:=by
    have h1:=zjm (d:=d) c t (t+1) (by omega)
    rw [zeo,if_neg hnot,zlO hnot] at h1;rw [hfl];exact (Option.some.inj h1).symm
   refine ⟨first++[(t:Int)],by rw [List.map_append,hf,zeo,if_neg hnot];rfl,fun p hp=>(List.mem_append.1 hp).elim (hb p) (fun e=>by rw [List.mem_singleton.1 e];omega),?_⟩
   rw [zhO];unfold zbH zbv zcw;rw [if_neg (by simp),if_pos (by simp),hidx]
   refine G_to (by unfold room;simp;omega) (G_to (by unfold fits;omega) (G_to (by omega) (G_to (by omega) (G_to (by unfold fits;omega) ?_))))
   rw [List.length_append,List.length_singleton];rfl
  | succ f ih=>
   intro k hk k0 k1 hj;have hp:=hb _ (za7 k0 (by omega:k < first.length))
   rw [zhO];unfold zbH;rw [if_pos (by simp;omega)]
   have hL:=zlh (n:=(first.length:Int)) (next':=next') (first:=first) (r7:=r7) (k:=k) (r10:=zbw d c (first.length:Int) t next' first r7) h hc (q:=(t:Int)) (by omega) (by omega) hp.1 hp.2 (by omega) _ (decide (ix c (ix first k)=ix c (t:Int))) 0 rfl (by omega) (by have:=h.let1;omega) (.inl (by
    rw [decide_eq_true_iff];exact ⟨fun e=>⟨e,fun b b0 b1=>by omega⟩,fun e=>e.1⟩))
   have hG:∀ x:Option (List Int),G (0<=k/\k < (first.length:Int)) (G (k.toNat < first.length) (G (0<=ix first k/\ix first k < (c.length:Int)) (G ((ix first k).toNat < c.length) (G (0<=(t:Int)/\(t:Int) < (c.length:Int)) (G (((t:Int)).toNat < c.length) x)))))=x:=fun x=>
    G_to (by omega) (G_to (by omega) (G_to (by omega) (G_to (by omega) (G_to (by omega) (G_to (by omega) rfl)))))
   rw [hG,hL];by_cases e:sigC d c (ix first k)=sigC d c t
   ·rw [if_pos e];have hget:(ksC d c t)[k.toNat]? =some (sigC d c t):=by
     rw [<- hf,List.getElem?_map,zvV k0 (by omega),Option.map_some,e]
    have hin:sigC d c t∈ksC d c t:=List.mem_of_getElem? hget;have hidx:(idxC d c t:Int)=k:=by
     have h1:=zjm (d:=d) c t (t+1) (by omega)
     rw [zeo,if_pos hin,zrf hget (fun j hj2 e2=>by
      have h3:=hj (j:Int) (by omega) (by omega)
      rw [<- hf,List.getElem?_map,<- Int.toNat_natCast j,zvV (by omega) (by omega),Option.map_some] at e2
      exact h3 (Option.some.inj e2))] at h1
     have:=Option.some.inj h1;omega
    refine ⟨first,by rw [hf,zeo,if_pos hin],hb,?_⟩
    unfold zbv zcw;rw [if_neg (by simp;omega),hidx]
    exact G_to (by omega) (G_to (by omega) (G_to (by unfold fits;omega) rfl))
   ·rw [if_neg e];refine ih (k+1) (by omega) (by omega) (by omega) (fun j j0 j1 => ?_)
    by_cases e2:j=k
    ·rw [e2];exact e
    ·exact hj j j0 (by omega)
 exact key _ 0 rfl (by omega) (by omega) (fun j j0 j1=>by omega)
theorem zpo (h:DOk 3000 mb d) {c:List Int} (hc:ClsOk d c) {count:Int} {r3}:∀ (n t:Nat) (next' first:List Int),d.2.2.1.length - t=n->t<=d.2.2.1.length->next'.length=d.2.2.1.length->(∀ j:Int,0<=j->j < t->ix next' j=ix (rfC d c) j)->first.map (sigC d c)=ksC d c t->(∀ p:Int,p∈first->0<=p/\p < d.2.2.1.length)->
  zcq d count c r3 (first.length:Int) t next' first=if ((ksC d c d.2.2.1.length).length:Int)=count then some (rfC d c) else r3 ((ksC d c d.2.2.1.length).length:Int) (rfC d c):=by
 have hn:=h.n1;have hcl:=hc.len;intro n
 induction n with
 | zero=>
  intro t next' first hn2 ht hl hj hf hb;obtain rfl:t=d.2.2.1.length:=by omega
  have:next'=rfC d c:=zoX (by rw [zpy];exact hl) fun j j0 j1=>hj j j0 (by omega)
  have hfl:first.length=(ksC d c d.2.2.1.length).length:=by rw [<- hf,List.length_map]
  rw [ziL];unfold zca;rw [if_neg (by simp;omega),this,hfl]
  by_cases e:((ksC d c d.2.2.1.length).length:Int)=count
  ·rw [if_pos (decide_eq_true e),if_pos e]
  ·rw [if_neg (by simpa using e),if_neg e]
 | succ n ih=>
  intro t next' first hn2 ht hl hj hf hb;rw [ziL];unfold zca;rw [if_pos (by simp;omega)]
  obtain ⟨first',f1,f2,f3⟩:=zm1 (r7:=zcq d count c r3) h hc (by omega:t < d.2.2.1.length) hl hf hb
  refine f3.trans ?_
  refine ih (t+1) _ first' (by omega) (by omega) (by rw [List.length_set];exact hl) (fun j j0 j1 => ?_) f1 f2
  by_cases e:j=t
  ·subst e;have:=zcu (l:=next') (i:=(t:Int)) (x:=(idxC d c t:Int)) (by omega) (by omega)
   rw [Int.toNat_natCast] at this;rw [this,zqq c j0 (by omega),Int.toNat_natCast]
  ·have:=zem (l:=next') (i:=(t:Int)) (j:=j) (x:=(idxC d c t:Int)) (by omega) j0 (Ne.symm e)
   rw [Int.toNat_natCast] at this;rw [this];exact hj j j0 (by omega)
end
section
variable {d:Dt}
abbrev badD (m:Int):Prop := ¬ m=0 /\ ¬ m=1
def LEq (d:Dt) (q:Int) (e:Dt) (r:Int):Prop:=∀ w:List Int,(∀ a∈w,0<=a/\a < d.1)->ix d.2.2.2.1 (wlk d.2.2.1 q w)=ix e.2.2.2.1 (wlk e.2.2.1 r w)
theorem LEq.step {d e:Dt} {q r:Int} (h:LEq d q e r) {a:Int} (a0:0<=a) (a1:a < d.1):LEq d (ix (ix d.2.2.1 q) a) e (ix (ix e.2.2.1 r) a):=fun w hw=>h (a::w) (fun b hb=>(List.mem_cons.1 hb).elim (fun e=>by rw [e];exact ⟨a0,a1⟩) (hw b))
structure FinC (d:Dt) (C:List Int) (K:Nat):Prop where
 len:C.length=d.2.2.1.length
 le:K<=d.2.2.1.length
 b:∀ q:Int,0<=q->q < d.2.2.1.length->0<=ix C q/\ix C q < K
 sur:∀ v:Int,0<=v->v < K->∃ q:Int,0<=q/\q < d.2.2.1.length/\ix C q=v
 mark:∀ q r:Int,0<=q->q < d.2.2.1.length->0<=r->r < d.2.2.1.length->ix C q=ix C r->ix d.2.2.2.1 q=ix d.2.2.2.1 r
 stable:∀ q r:Int,0<=q->q < d.2.2.1.length->0<=r->r < d.2.2.1.length->ix C q=ix C r->∀ a:Int,0<=a->a < d.1->ix C (ix (ix d.2.2.1 q) a)=ix C (ix (ix d.2.2.1 r) a)
 coarse:∀ q r:Int,0<=q->q < d.2.2.1.length->0<=r->r < d.2.2.1.length->LEq d q d r->ix C q=ix C r
theorem zoo {c:List Int} {q r:Int} (q0:0<=q) (q1:q < d.2.2.1.length) (r0:0<=r) (r1:r < d.2.2.1.length):ix (rfC d c) q=ix (rfC d c) r↔sigC d c q=sigC d c r:=by
 rw [zqq c q0 q1,zqq c r0 r1];have:=zwN (d:=d) c (q:=q.toNat) (r:=r.toNat);rw [Int.toNat_of_nonneg q0,Int.toNat_of_nonneg r0] at this;rw [<- this];exact ⟨fun e=>by exact_mod_cast e,fun e=>by rw [e]⟩
theorem zwP {n:Nat} {v:Int}:v∈iota n↔0<=v/\v < n:=by
 unfold iota;rw [List.mem_map];constructor
 ·rintro ⟨j,hj,rfl⟩;have:=List.mem_range.1 hj;omega
 ·rintro ⟨h0,h1⟩;exact ⟨v.toNat,List.mem_range.2 (by omega),by omega⟩
theorem zqe (n:Nat):(iota n).Nodup:=by
 unfold iota;refine List.Pairwise.map _ (fun a b (h:a≠b)=>by omega) (List.nodup_range (n:=n))
theorem zrR (h:DOk 3000 badD d):∀ (f k:Nat) (c:List Int),d.2.2.1.length - k=f->ClsOk d c->
  (∀ q r:Int,0<=q->q < d.2.2.1.length->0<=r->r < d.2.2.1.length->ix c q=ix c r->ix d.2.2.2.1 q=ix d.2.2.2.1 r)->(∀ v:Int,0<=v->v < k->∃ q:Int,0<=q/\q < d.2.2.1.length/\ix c q=v)->(∀ q r:Int,0<=q->q < d.2.2.1.length->0<=r->r < d.2.2.1.length->LEq d q d r->ix c q=ix c r)->
  ∃ C K,FinC d C K/\zcZ d (k:Int) c=some C/\zdn d (k:Int) c=some C:=by
 have hn:=h.n1;intro f
 induction f using Nat.strongRecOn with
 | ind f ih=>
 intro k c hf hc hm hs hco;have hcl:=hc.len;have hK:=zvW (d:=d) c d.2.2.1.length;have hcov:∀ x∈iota k,x∈(ksC d c d.2.2.1.length).map Prod.fst:=fun x hx=>by
  obtain ⟨x0,x1⟩:=zwP.1 hx;obtain ⟨q,q0,q1,e⟩:=hs x x0 x1;have:=zmO (d:=d) c d.2.2.1.length q.toNat (by omega)
  rw [Int.toNat_of_nonneg q0] at this;exact List.mem_map.2 ⟨_,this,e⟩
 have hge:k<=(ksC d c d.2.2.1.length).length:=by
  have:=zt5 (zqe k) hcov
  rwa [ztU,List.length_map] at this
 have hpos:0 < (ksC d c d.2.2.1.length).length:=List.length_pos_of_mem (zmO (d:=d) c d.2.2.1.length 0 (by omega))
 have eP:zcZ d (k:Int) c=if ((ksC d c d.2.2.1.length).length:Int)=k then some (rfC d c) else zcZ d ((ksC d c d.2.2.1.length).length:Int) (rfC d c):=by
  conv=>lhs;rw [zmF];unfold zcm
  refine G_to (by unfold mkOK;omega) ?_
  exact znS h hc _ 0 _ rfl (by omega) (by simp;omega) (fun j j0 j1=>by omega)
 have eR:zdn d (k:Int) c=if ((ksC d c d.2.2.1.length).length:Int)=k then some (rfC d c) else zdn d ((ksC d c d.2.2.1.length).length:Int) (rfC d c):=by
  conv=>lhs;rw [zn3];unfold zcJ
  refine G_to (by unfold mkOK;omega) ?_
  exact zpo h hc _ 0 _ [] rfl (by omega) (by simp;omega) (fun j j0 j1=>by omega) rfl (fun p hp=>by cases hp)
 have b':∀ q:Int,0<=q->q < d.2.2.1.length->0<=ix (rfC d c) q/\ix (rfC d c) q < (ksC d c d.2.2.1.length).length:=fun q q0 q1=>by
  rw [zqq c q0 q1];have:=zxW (d:=d) c (q:=q.toNat) (t:=d.2.2.1.length) (by omega)
  omega
 have sur':∀ v:Int,0<=v->v < (ksC d c d.2.2.1.length).length->∃ q:Int,0<=q/\q < d.2.2.1.length/\ix (rfC d c) q=v:=fun v v0 v1=>by
  obtain ⟨q,hq,e⟩:=zwO (d:=d) c (t:=d.2.2.1.length) (j:=v.toNat) (by omega)
  refine ⟨q,by omega,by omega,?_⟩
  rw [zqq c (by omega) (by omega),Int.toNat_natCast,e];omega
 have m':∀ q r:Int,0<=q->q < d.2.2.1.length->0<=r->r < d.2.2.1.length->ix (rfC d c) q=ix (rfC d c) r->ix d.2.2.2.1 q=ix d.2.2.2.1 r:=fun q r q0 q1 r0 r1 e=>
  hm q r q0 q1 r0 r1 (congrArg Prod.fst ((zoo q0 q1 r0 r1).1 e))
 have co':∀ q r:Int,0<=q->q < d.2.2.1.length->0<=r->r < d.2.2.1.length->LEq d q d r->ix (rfC d c) q=ix (rfC d c) r:=fun q r q0 q1 r0 r1 hq=>by
  refine (zoo q0 q1 r0 r1).2 ((zry h c q0 q1 r0 r1).2 ⟨hco q r q0 q1 r0 r1 hq,fun a a0 a1 => ?_⟩)
  have sq:=h.tab.stpb q0 q1 a0 a1;have sr:=h.tab.stpb r0 r1 a0 a1;exact hco _ _ sq.1 sq.2 sr.1 sr.2 (hq.step a0 a1)
 by_cases e:((ksC d c d.2.2.1.length).length:Int)=k
 ·rw [if_pos e] at eP eR;refine ⟨rfC d c,_,⟨zpy c,hK,b',sur',m',fun q r q0 q1 r0 r1 he a a0 a1 => ?_,co'⟩,eP,eR⟩
  have hnd:((ksC d c d.2.2.1.length).map Prod.fst).Nodup:=zoC (zqe k) hcov (by rw [List.length_map,ztU];omega)
  have tot:∀ x y:Int,0<=x->x < d.2.2.1.length->0<=y->y < d.2.2.1.length->ix c x=ix c y->ix (rfC d c) x=ix (rfC d c) y:=fun x y x0 x1 y0 y1 exy=>by
   rw [zoo x0 x1 y0 y1];have hx:=zmO (d:=d) c d.2.2.1.length x.toNat (by omega)
   have hy:=zmO (d:=d) c d.2.2.1.length y.toNat (by omega)
   rw [Int.toNat_of_nonneg x0] at hx;rw [Int.toNat_of_nonneg y0] at hy;obtain ⟨i,hi,ei⟩:=List.mem_iff_getElem.1 hx;obtain ⟨j,hj,ej⟩:=List.mem_iff_getElem.1 hy;have key:∀ i j:Nat,(hi:i < (ksC d c d.2.2.1.length).length)->(hj:j < (ksC d c d.2.2.1.length).length)->i < j->(ksC d c d.2.2.1.length)[i].1≠(ksC d c d.2.2.1.length)[j].1:=fun i j hi hj hlt hh=>by
    have:=List.pairwise_iff_getElem.1 hnd i j (by rw [List.length_map];exact hi) (by rw [List.length_map];exact hj) hlt
    rw [List.getElem_map,List.getElem_map] at this;exact this hh
   have hfst:(ksC d c d.2.2.1.length)[i].1=(ksC d c d.2.2.1.length)[j].1:=by rw [ei,ej];exact exy
   have:i=j:=by
    rcases Nat.lt_trichotomy i j with hlt | rfl | hlt
    ·exact absurd hfst (key i j hi hj hlt)
    ·rfl
    ·exact absurd hfst.symm (key j i hj hi hlt)
   subst this;rw [<- ei,ej]
  have hsig:=(zry h c q0 q1 r0 r1).1 ((zoo q0 q1 r0 r1).1 he);have sq:=h.tab.stpb q0 q1 a0 a1;have sr:=h.tab.stpb r0 r1 a0 a1;unfold stp at sq sr;exact tot _ _ sq.1 sq.2 sr.1 sr.2 (hsig.2 a a0 a1)
 ·rw [if_neg e] at eP eR;rw [eP,eR];have hlt:k < (ksC d c d.2.2.1.length).length:=by omega
  exact ih (d.2.2.1.length - (ksC d c d.2.2.1.length).length) (by omega) _ (rfC d c) rfl ⟨zpy c,fun q q0 q1=>by
   rw [zpy] at q1;have:=b' q q0 q1;omega⟩ m' sur' co'
theorem zrQ (h:DOk 3000 badD d):∃ C K,FinC d C K/\zig d=some C/\zkh d=some C:=by
 have hn:=h.n1;have hmk:=h.mkl;have hc:ClsOk d d.2.2.2.1:=⟨by omega,fun q q0 q1=>by
  have:=h.mok _ (za7 q0 q1);omega⟩
 obtain ⟨C,K,h1,h2,h3⟩:=zrR h _ 0 d.2.2.2.1 rfl hc (fun q r _ _ _ _ e=>e) (fun v v0 v1=>by omega) (fun q r _ _ _ _ e=>e [] (fun a ha=>by cases ha))
 refine ⟨C,K,h1,?_,?_⟩
 ·unfold zig;exact zai (zli (by omega)) h2
 ·unfold zkh;exact G_to (by unfold room;simp;omega) h3
end
def xRow {α:Type} (nx:α->Int->α) (s:α) (l:List α):Nat->List α×List Int
 | 0=>(l,[])
 | t+1=>match zaT (xRow nx s l t).1 (nx s (t:Int)) with
  | some j=>((xRow nx s l t).1,(xRow nx s l t).2++[(j:Int)])
  | none=>((xRow nx s l t).1++[nx s (t:Int)],(xRow nx s l t).2++[((xRow nx s l t).1.length:Int)])
def xSt {α:Type} [Inhabited α] (nx:α->Int->α) (mk:α->Int) (L:Nat) (first:α):Nat->List α×List (List Int)×List Int
 | 0=>([first],[],[])
 | i+1=>((xRow nx (ix (xSt nx mk L first i).1 (i:Int)) (xSt nx mk L first i).1 L).1,(xSt nx mk L first i).2.1++[(xRow nx (ix (xSt nx mk L first i).1 (i:Int)) (xSt nx mk L first i).1 L).2],(xSt nx mk L first i).2.2++[mk (ix (xSt nx mk L first i).1 (i:Int))])
theorem zj1 {α:Type} {nx:α->Int->α} {s:α} {l:List α} {t j:Nat} (h:zaT (xRow nx s l t).1 (nx s (t:Int))=some j):xRow nx s l (t+1)=((xRow nx s l t).1,(xRow nx s l t).2++[(j:Int)]):=by
 rw [xRow,h]
theorem zj0 {α:Type} {nx:α->Int->α} {s:α} {l:List α} {t:Nat} (h:zaT (xRow nx s l t).1 (nx s (t:Int))=none):xRow nx s l (t+1)=((xRow nx s l t).1++[nx s (t:Int)],(xRow nx s l t).2++[((xRow nx s l t).1.length:Int)]):=by
 rw [xRow,h]
section
variable {α:Type} [Inhabited α] {nx:α->Int->α} {mk:α->Int} {L:Nat} {first:α} {B:Nat} {P:α->Prop}
structure XOk {α:Type} (nx:α->Int->α) (mk:α->Int) (L:Nat) (first:α) (B:Nat) (P:α->Prop):Prop where
 b:∀ l:List α,l.Nodup->(∀ x∈l,P x)->l.length<=B
 f:P first
 n:∀ s,P s->∀ t:Int,0<=t->t < L->P (nx s t)
 m:∀ s,P s->mk s=0\/mk s=1
theorem XOk.int {nx:Int->Int->Int} {mk:Int->Int} {L:Nat} {first:Int} {B:Nat} {P:Int->Prop} (b:∀ s,P s->0<=s/\s < B) (f:P first) (n:∀ s,P s->∀ t:Int,0<=t->t < L->P (nx s t)) (m:∀ s,P s->mk s=0\/mk s=1):XOk nx mk L first B P:=
 ⟨fun l hn hp=>zmV hn (fun x hx=>b x (hp x hx)),f,n,m⟩
structure LiOk {α:Type} (B:Nat) (P:α->Prop) (l:List α):Prop where
 nd:l.Nodup
 p:∀ x∈l,P x
theorem LiOk.len (h:XOk nx mk L first B P) {l:List α} (k:LiOk B P l):l.length<=B:=h.b l k.nd k.p
structure XR {α:Type} [Inhabited α] (nx:α->Int->α) (s:α) (l:List α) (t:Nat) (r:List α×List Int):Prop where
 pre:∃ x,r.1=l++x
 len:r.2.length=t
 to:∀ a:Int,0<=a->a < t->0<=ix r.2 a/\ix r.2 a < r.1.length/\ix r.1 (ix r.2 a)=nx s a
theorem zwT {l:List α} {x:α} {j:Nat} (h:zaT l x=some j):(j:Int) < l.length/\ix l (j:Int)=x:=by
 have h1:=zes h;have h2:=zfc h;refine ⟨by omega,?_⟩
 rw [List.getElem?_eq_getElem h1] at h2;rw [zhG (l:=l) (by omega) (by omega)]
 simpa using h2
theorem zrE (h:XOk nx mk L first B P) {s:α} (hs:P s) {l:List α} (hl:LiOk B P l):∀ t:Nat,t<=L->LiOk B P (xRow nx s l t).1/\XR nx s l t (xRow nx s l t)
 | 0,_=>⟨hl,⟨[],by simp [xRow]⟩,rfl,fun a a0 a1=>by omega⟩
 | t+1,ht=>by
  obtain ⟨h1,⟨⟨x,hx⟩,h2,h3⟩⟩:=zrE h hs hl t (by omega)
  have hp:=h.n s hs (t:Int) (by omega) (by omega)
  unfold xRow
  cases e:zaT (xRow nx s l t).1 (nx s (t:Int)) with
  | some j=>
   obtain ⟨j1,j2⟩:=zwT e;refine ⟨h1,⟨⟨x,hx⟩,by simp [h2],fun a a0 a1 => ?_⟩⟩
   show 0<=ix ((xRow nx s l t).2++[(j:Int)]) a/\_;by_cases c:a < t
   ·rw [zas a0 (by omega)];exact h3 a a0 c
   ·obtain rfl:a=((xRow nx s l t).2.length:Int):=by omega
    rw [zaN];refine ⟨by omega,j1,?_⟩
    show ix (xRow nx s l t).1 (j:Int)=_;rw [j2,h2]
  | none=>
   have hn:=zaV.1 e;refine ⟨⟨?_,fun y hy=>(List.mem_append.1 hy).elim (h1.p y) (fun e2=>by rw [List.mem_singleton.1 e2];exact hp)⟩,⟨⟨x++[nx s (t:Int)],by show (xRow nx s l t).1++_=_;rw [hx,List.append_assoc]⟩,by simp [h2],fun a a0 a1 => ?_⟩⟩
   ·show ((xRow nx s l t).1++[nx s (t:Int)]).Nodup;rw [List.nodup_append];exact ⟨h1.nd,by simp,fun u hu v hv=>by rw [List.mem_singleton.1 hv];rintro rfl;exact hn hu⟩
   ·show 0<=ix ((xRow nx s l t).2++[((xRow nx s l t).1.length:Int)]) a/\ix ((xRow nx s l t).2++[((xRow nx s l t).1.length:Int)]) a < (((xRow nx s l t).1++[nx s (t:Int)]).length:Int)/\ix ((xRow nx s l t).1++[nx s (t:Int)]) (ix ((xRow nx s l t).2++[((xRow nx s l t).1.length:Int)]) a)=nx s a;rw [List.length_append,List.length_singleton];by_cases c:a < t
    ·obtain ⟨g1,g2,g3⟩:=h3 a a0 c;rw [zas a0 (by omega),zas g1 g2]
     exact ⟨g1,by omega,g3⟩
    ·obtain rfl:a=((xRow nx s l t).2.length:Int):=by omega
     rw [zaN,zaN,h2];exact ⟨by omega,by omega,rfl⟩
structure XS {α:Type} [Inhabited α] (nx:α->Int->α) (mk:α->Int) (L:Nat) (first:α) (i:Nat) (x:List α×List (List Int)×List Int):Prop where
 z:ix x.1 0=first
 r:x.2.1.length=i
 m:x.2.2.length=i
 row:∀ k:Int,0<=k->k < i->(ix x.2.1 k).length=L/\∀ a:Int,0<=a->a < L->0<=ix (ix x.2.1 k) a/\ix (ix x.2.1 k) a < x.1.length/\ix x.1 (ix (ix x.2.1 k) a)=nx (ix x.1 k) a
 mark:∀ k:Int,0<=k->k < i->ix x.2.2 k=mk (ix x.1 k)
def XGo {α:Type} [Inhabited α] (nx:α->Int->α) (mk:α->Int) (L:Nat) (first:α) (i:Nat):Prop:=∀ k < i,k < (xSt nx mk L first k).1.length
theorem zmv (h:XOk nx mk L first B P):∀ i:Nat,XGo nx mk L first i->LiOk B P (xSt nx mk L first i).1/\i<=(xSt nx mk L first i).1.length/\XS nx mk L first i (xSt nx mk L first i)
 | 0,_=>⟨⟨by simp [xSt],fun x hx=>by
   have:x=first:=by simpa [xSt] using hx
   rw [this];exact h.f⟩,by omega,rfl,rfl,rfl,fun k k0 k1=>by omega,fun k k0 k1=>by omega⟩
 | i+1,hg=>by
  obtain ⟨h1,h2,h3⟩:=zmv h i (fun k hk=>hg k (by omega))
  have hi:=hg i (by omega)
  have hP:=h1.p _ (za7 (by omega) (by omega:(i:Int) < (xSt nx mk L first i).1.length))
  obtain ⟨g1,⟨⟨x,hx⟩,g2,g3⟩⟩:=zrE h hP h1 L (Nat.le_refl _);unfold xSt;generalize hX:xSt nx mk L first i=X at *
  generalize hR:xRow nx (ix X.1 (i:Int)) X.1 L=R at *
  have pre:∀ k:Int,0<=k->k < X.1.length->ix R.1 k=ix X.1 k:=fun k k0 k1=>by rw [hx,zas k0 k1]
  have lenR:X.1.length<=R.1.length:=by rw [hx,List.length_append];omega
  refine ⟨g1,by show i+1<=R.1.length;omega,?_,by simp [h3.r],by simp [h3.m],fun k k0 k1 => ?_,fun k k0 k1 => ?_⟩
  ·show ix R.1 0=first;rw [pre 0 (by omega) (by omega)];exact h3.z
  ·show (ix (X.2.1++[R.2]) k).length=L/\∀ a:Int,0<=a->a < L->0<=ix (ix (X.2.1++[R.2]) k) a/\ix (ix (X.2.1++[R.2]) k) a < R.1.length/\ix R.1 (ix (ix (X.2.1++[R.2]) k) a)=nx (ix R.1 k) a;have hr:=h3.r;by_cases c:k < i
   ·obtain ⟨r1,r2⟩:=h3.row k k0 c;rw [zas k0 (by omega),pre k k0 (by omega)]
    refine ⟨r1,fun a a0 a1 => ?_⟩
    obtain ⟨s1,s2,s3⟩:=r2 a a0 a1;rw [pre _ s1 s2];exact ⟨s1,by omega,s3⟩
   ·have hk:k=(X.2.1.length:Int):=by omega
    rw [hk,zaN,hr,pre (i:Int) (by omega) (by omega)]
    exact ⟨g2,fun a a0 a1=>g3 a a0 a1⟩
  ·show ix (X.2.2++[mk (ix X.1 (i:Int))]) k=mk (ix R.1 k);have hm:=h3.m;rw [pre k k0 (by omega)]
   by_cases c:k < i
   ·rw [zas k0 (by omega)];exact h3.mark k k0 c
   ·have hk:k=(X.2.2.length:Int):=by omega
    rw [hk,zaN,hm]
theorem zww (h:XOk nx mk L first B P):∃ n,n<=B/\XGo nx mk L first n/\(xSt nx mk L first n).1.length=n:=by
 have key:∀ f i:Nat,B - i=f->XGo nx mk L first i->∃ n,n<=B/\XGo nx mk L first n/\(xSt nx mk L first n).1.length=n:=by
  intro f
  induction f with
  | zero=>
   intro i hf hg;obtain ⟨h1,h2,_⟩:=zmv h i hg;have:=h1.len h;exact ⟨i,by omega,hg,by omega⟩
  | succ f ih=>
   intro i hf hg;obtain ⟨h1,h2,_⟩:=zmv h i hg;have:=h1.len h;by_cases c:(xSt nx mk L first i).1.length=i
   ·exact ⟨i,by omega,hg,c⟩
   ·refine ih (i+1) (by omega) (fun k hk => ?_)
    by_cases e:k=i
    ·subst e;omega
    ·exact hg k (by omega)
 exact key _ 0 rfl (fun k hk=>by omega)
def xAut {α:Type} [Inhabited α] (nx:α->Int->α) (mk:α->Int) (L:Nat) (first:α) (n:Nat):Dt:=((L:Int),0,(xSt nx mk L first n).2.1,(xSt nx mk L first n).2.2,())
theorem zwu (h:XOk nx mk L first B P) (hL:1<=L/\L<=4) (hB:B<=3000) {n:Nat} (hg:XGo nx mk L first n) (hn:(xSt nx mk L first n).1.length=n):DOk 3000 badD (xAut nx mk L first n):=by
 obtain ⟨h1,h2,h3⟩:=zmv h n hg;have hb:=h1.len h;have hr:=h3.r;have hm:=h3.m;have hpos:0 < n:=by
  refine Nat.pos_of_ne_zero fun e => ?_
  subst e;simp [xSt] at hn
 refine ⟨by show 1<=(L:Int)/\(L:Int)<=4;omega,?_,?_,?_,fun s hs => ?_,⟨fun r hr2 => ?_,fun r hr2 q hq => ?_⟩⟩
 ·show 1<=(xSt nx mk L first n).2.1.length/\((xSt nx mk L first n).2.1.length:Int)<=3000;omega
 ·show (0:Int)<=0/\(0:Int) < ((xSt nx mk L first n).2.1.length:Int);omega
 ·show ((xSt nx mk L first n).2.2.length:Int)=((xSt nx mk L first n).2.1.length:Int);omega
 ·obtain ⟨k,k0,k1,rfl⟩:=(zej (P:=fun x=>x=s)).1 ⟨s,hs,rfl⟩
  have hk:k < n:=by
   have:k < ((xSt nx mk L first n).2.2.length:Int):=k1;omega
  have e:ix (xAut nx mk L first n).2.2.2.1 k=mk (ix (xSt nx mk L first n).1 k):=h3.mark k k0 hk;rw [e];have:=h.m _ (h1.p _ (za7 k0 (by omega)))
  omega
 ·obtain ⟨k,k0,k1,rfl⟩:=(zej (P:=fun x=>x=r)).1 ⟨r,hr2,rfl⟩
  have hk:k < n:=by
   have:k < ((xSt nx mk L first n).2.1.length:Int):=k1;omega
  have:=(h3.row k k0 hk).1;show ((ix (xSt nx mk L first n).2.1 k).length:Int)=(L:Int);omega
 ·obtain ⟨k,k0,k1,rfl⟩:=(zej (P:=fun x=>x=r)).1 ⟨r,hr2,rfl⟩
  have hk:k < n:=by
   have:k < ((xSt nx mk L first n).2.1.length:Int):=k1;omega
  obtain ⟨r1,r2⟩:=h3.row k k0 hk;obtain ⟨a,a0,a1,rfl⟩:=(zej (P:=fun x=>x=q)).1 ⟨q,hq,rfl⟩
  have ha:a < (L:Int):=by
   have:a < ((ix (xSt nx mk L first n).2.1 k).length:Int):=a1;omega
  obtain ⟨s1,s2,s3⟩:=r2 a a0 ha;show 0<=ix (ix (xSt nx mk L first n).2.1 k) a/\ix (ix (xSt nx mk L first n).2.1 k) a < ((xSt nx mk L first n).2.1.length:Int);omega
theorem zpN (h:XOk nx mk L first B P) {n:Nat} (hg:XGo nx mk L first n) (hn:(xSt nx mk L first n).1.length=n):∀ (w:List Int) (q:Int),0<=q->q < n->(∀ a∈w,0<=a/\a < (L:Int))->
  0<=wlk (xAut nx mk L first n).2.2.1 q w/\wlk (xAut nx mk L first n).2.2.1 q w < n/\ix (xSt nx mk L first n).1 (wlk (xAut nx mk L first n).2.2.1 q w)=w.foldl nx (ix (xSt nx mk L first n).1 q)
 | [],q,q0,q1,_=>⟨q0,q1,rfl⟩
 | a::w,q,q0,q1,hw=>by
  obtain ⟨_,_,h3⟩:=zmv h n hg;have ha:=hw a (by simp)
  obtain ⟨s1,s2,s3⟩:=(h3.row q q0 q1).2 a ha.1 ha.2;have:=zpN h hg hn w (ix (ix (xSt nx mk L first n).2.1 q) a) s1 (by omega) (fun b hb=>hw b (by simp [hb]))
  rw [s3] at this;exact this
end
section
variable {d:Dt}
structure RowOk (d:Dt) (C Q:List Int) (i:Int) (row:List Int):Prop where
 len:(row.length:Int)=d.1
 to:∀ a:Int,0<=a->a < d.1->0<=ix row a/\ix row a < Q.length/\ix C (ix Q (ix row a))=ix C (ix (ix d.2.2.1 (ix Q i)) a)
structure QOk (d:Dt) (C Q:List Int):Prop where
 b:∀ q:Int,q∈Q->0<=q/\q < d.2.2.1.length
 nd:(Q.map (ix C)).Nodup
 z:0 < Q.length/\ix Q 0=d.2.1
structure PartOk (d:Dt) (C Q:List Int) (D2:List (List Int)) (D3:List Int):Prop where
 q:QOk d C Q
 l2:D2.length<=Q.length
 l3:D3.length=D2.length
 row:∀ i:Int,0<=i->i < D2.length->RowOk d C Q i (ix D2 i)
 mark:∀ i:Int,0<=i->i < D2.length->ix D3 i=ix d.2.2.2.1 (ix Q i)
theorem QOk.le {C Q:List Int} {K:Nat} (hC:FinC d C K) (h:QOk d C Q):Q.length<=K:=by
 have:=zmV (n:=K) h.nd (fun v hv=>by
  obtain ⟨q,hq,rfl⟩:=List.mem_map.1 hv;have:=h.b q hq;exact hC.b q this.1 this.2)
 rwa [List.length_map] at this
theorem RowOk.ext {C Q:List Int} {i:Int} {row:List Int} (h:RowOk d C Q i row) (i0:0<=i) (i1:i < Q.length) (x:List Int):RowOk d C (Q++x) i row:=
 ⟨h.len,fun a a0 a1=>by
  obtain ⟨h1,h2,h3⟩:=h.to a a0 a1;rw [zas h1 h2,zas i0 i1];exact ⟨h1,by rw [List.length_append];omega,h3⟩⟩
structure OfOk (d:Dt) (C l:List Int) (K:Nat):Prop where
 len:l.length=d.2.2.1.length
 b:∀ v:Int,0<=v->v < K->0<=ix l v/\ix l v < d.2.2.1.length/\ix C (ix l v)=v
def nxC (d:Dt) (C l:List Int) (v a:Int):Int:=ix C (ix (ix d.2.2.1 (ix l v)) a)
def mkC (d:Dt) (l:List Int) (v:Int):Int:=ix d.2.2.2.1 (ix l v)
structure LeastOk (d o:Dt) (C Q:List Int) (K:Nat):Prop where
 fin:FinC d C K
 part:PartOk d C Q o.2.2.1 o.2.2.2.1
 all:o.2.2.1.length=Q.length
 let1:o.1=d.1
 st:o.2.1=0
 by1:∃ (l:List Int) (n:Nat),OfOk d C l K/\XGo (nxC d C l) (mkC d l) d.1.toNat (ix C d.2.1) n/\(xSt (nxC d C l) (mkC d l) d.1.toNat (ix C d.2.1) n).1.length=n/\o=xAut (nxC d C l) (mkC d l) d.1.toNat (ix C d.2.1) n
def zuX (d:Dt) (C Q NA:List Int):Prop:=NA.length=d.2.2.1.length/\∀ v:Int,0<=v->v < d.2.2.1.length->ix NA v=match zaT (Q.map (ix C)) v with
 | some j=>(j:Int)
 | none => -1
theorem zmr {row:List Int} {t:Nat} {v:Int} (h:t < row.length):(row.set t v).take (t+1)=row.take t++[v]:=by
 rw [List.take_add_one,List.take_set_of_le (Nat.le_refl _),List.getElem?_set_self h];rfl
theorem zrb (h:DOk 3000 badD d) {C l Q0:List Int} {K:Nat} (hC:FinC d C K) (hl:OfOk d C l K) {L0:List Int} {D2:List (List Int)} {D3:List Int} {r4 r11} {lk:List Int} {i:Int} (hi:i=D2.length) (eL:ix L0 i=ix C (ix Q0 i)):
  ∀ (f:Nat) (t:Int) (Q NA row:List Int),(d.1 - t).toNat=f->0<=t->t<=d.1->PartOk d C Q D2 D3->i < Q.length->ix Q i=ix Q0 i->zuX d C Q NA->(row.length:Int)=d.1->
   (∀ a:Int,0<=a->a < t->0<=ix row a/\ix row a < Q.length/\ix C (ix Q (ix row a))=ix C (ix (ix d.2.2.1 (ix Q i)) a))->xRow (nxC d C l) (ix C (ix Q0 i)) lk t.toNat=(Q.map (ix C),row.take t.toNat)->
  ∃ x NA' row',xRow (nxC d C l) (ix C (ix Q0 i)) lk d.1.toNat=((Q++x).map (ix C),row')/\PartOk d C (Q++x) (D2++[row']) (D3++[ix d.2.2.2.1 (ix Q i)])/\zuX d C (Q++x) NA'/\
   zaS d.1 C d l d l ((C.length:Int)+1) d.1 0 L0 D2 D3 r4 t (Q.map (ix C)) (iota (Q.map (ix C)).length) (Q.map (ix C)) row=r4 d.1 0 ((Q++x).map (ix C)) (iota ((Q++x).map (ix C)).length) ((Q++x).map (ix C)) (D2++[row']) (D3++[ix d.2.2.2.1 (ix Q i)])/\
   zb1 d C i d.1 0 D2 D3 r11 t NA Q row=r11 (i+1) NA' (Q++x) d.1 0 (D2++[row']) (D3++[ix d.2.2.2.1 (ix Q i)]):=by
 have hn:=h.n1;have hlt:=h.let1;have hmk:=h.mkl;have hcl:=hC.len;have hK:=hC.le;intro f
 induction f with
 | zero=>
  intro t Q NA row hf t0 t1 hP hiQ eQ hN hrl hrow hxr;obtain rfl:t=d.1:=by omega
  have hQK:=hP.q.le hC;have hq:=hP.q.b _ (za7 (by omega) hiQ)
  have hv:=hC.b _ hq.1 hq.2;obtain ⟨o1,o2,o3⟩:=hl.b _ hv.1 hv.2;have hl3:=hP.l3;have hll:=hl.len;have hmark:ix d.2.2.2.1 (ix l (ix C (ix Q i)))=ix d.2.2.2.1 (ix Q i):=hC.mark _ _ o1 o2 hq.1 hq.2 o3;refine ⟨[],NA,row,by rw [hxr,List.append_nil,List.take_of_length_le (by omega)],⟨by simpa using hP.q,by rw [List.length_append,List.length_append,List.length_singleton];omega,by rw [List.length_append,List.length_append,List.length_singleton,List.length_singleton];omega,fun j j0 j1 => ?_,fun j j0 j1 => ?_⟩,by simpa using hN,?_,?_⟩
  ·rw [List.length_append,List.length_singleton] at j1;rw [List.append_nil];by_cases e:j < D2.length
   ·rw [zas j0 e];exact hP.row j j0 e
   ·obtain rfl:j=D2.length:=by omega
    rw [zaN,<- hi];exact ⟨hrl,hrow⟩
  ·rw [List.length_append,List.length_singleton] at j1;rw [List.append_nil];by_cases e:j < D2.length
   ·rw [zas j0 (by omega)];exact hP.mark j j0 e
   ·have e1:j=D3.length:=by omega
    have e2:j=i:=by omega
    rw [e1,zaN,<- e1,e2]
  ·rw [zfV];unfold zbb zhe;rw [if_neg (by simp),<- hi,eL,<- eQ,List.append_nil]
   refine G_to (by unfold room;simp;have:=hP.l2;omega) ?_
   refine zai (y:=ix d.2.2.2.1 (ix Q i)) ?_ ?_
   ·rw [<- hmark];exact G_to (by omega) (G_to (by omega) rfl)
   ·exact G_to (by unfold room;simp;have:=hP.l2;omega) rfl
  ·rw [zjJ];unfold zcx;rw [if_neg (by simp),List.append_nil]
   exact G_to (by unfold room;simp;have:=hP.l2;omega) (G_to (by omega) (G_to (by omega) (G_to (by omega) (G_to (by unfold room;simp;have:=hP.l2;omega) (G_to (by unfold fits;omega) rfl)))))
 | succ f ih=>
  intro t Q NA row hf t0 t1 hP hiQ eQ hN hrl hrow hxr;have hQK:=hP.q.le hC;have hq:=hP.q.b _ (za7 (by omega) hiQ)
  have hv:=hC.b _ hq.1 hq.2;obtain ⟨o1,o2,o3⟩:=hl.b _ hv.1 hv.2;have hll:=hl.len;have hr1:=h.tab.rowlen hq.1 hq.2;have hr2:=h.tab.rowlen o1 o2;have hx:=h.tab.stpb hq.1 hq.2 t0 (by omega)
  have hy:=h.tab.stpb o1 o2 t0 (by omega)
  unfold stp at hx hy;have hst:=hC.stable _ _ o1 o2 hq.1 hq.2 o3 t t0 (by omega)
  have hw:=hC.b _ hx.1 hx.2;have hNx:=hN.2 _ hw.1 (by omega:_ < (d.2.2.1.length:Int))
  have hNl:=hN.1;obtain ⟨x,hxd⟩:∃ x,x=ix (ix d.2.2.1 (ix Q i)) t:=⟨_,rfl⟩;rw [<- hxd] at hx hst hw hNx;have hnx:nxC d C l (ix C (ix Q0 i)) (t.toNat:Int)=ix C x:=by
   unfold nxC;rw [<- eQ,Int.toNat_of_nonneg t0];exact hst
  have s1:ze4 (ix L0 (D2.length:Int)) t C d l=some (ix C x):=by
   unfold ze4;rw [<- hi,eL,<- eQ,<- hst];exact G_to (by omega) (G_to (by omega) (G_to (by omega) (G_to (by omega) rfl)))
  have hP1:zaS d.1 C d l d l ((C.length:Int)+1) d.1 0 L0 D2 D3 r4 t (Q.map (ix C)) (iota (Q.map (ix C)).length) (Q.map (ix C)) row=
    if ix C x∈Q.map (ix C) then zaS d.1 C d l d l ((C.length:Int)+1) d.1 0 L0 D2 D3 r4 (t+1) (Q.map (ix C)) (iota (Q.map (ix C)).length) (Q.map (ix C)) (row.set t.toNat (mget (Q.map (ix C)) (iota (Q.map (ix C)).length) (ix C x) 0))
    else zaS d.1 C d l d l ((C.length:Int)+1) d.1 0 L0 D2 D3 r4 (t+1) ((Q++[x]).map (ix C)) (iota ((Q++[x]).map (ix C)).length) ((Q++[x]).map (ix C)) (row.set t.toNat (Q.length:Int)):=by
   conv=>lhs;rw [zfV];unfold zbb
   rw [if_pos (by simp;omega)]
   refine zai s1 ?_
   unfold zb3;by_cases c:ix C x∈Q.map (ix C)
   ·rw [if_neg (by rw [zik.2 c];simp),if_pos c]
    exact G_to (by omega) (G_to (by omega) (G_to (by unfold fits;omega) rfl))
   ·have hh:mhas (Q.map (ix C)) (ix C x)=false:=by
     cases e:mhas (Q.map (ix C)) (ix C x) with
     | false=>rfl
     | true=>exact absurd (zik.1 e) c
    rw [if_pos (by rw [hh];rfl),if_neg c,if_neg (by rw [decide_eq_true_iff,List.length_map];omega),zo7 c,zmS c,List.map_append,List.map_singleton,List.length_map]
    exact G_to (by unfold room;simp;omega) (G_to (by omega) (G_to (by omega) (G_to (by unfold fits;omega) rfl)))
  have hR1:zb1 d C i d.1 0 D2 D3 r11 t NA Q row=
    if ix NA (ix C x) < 0 then zb1 d C i d.1 0 D2 D3 r11 (t+1) (NA.set (ix C x).toNat (Q.length:Int)) (Q++[x]) (row.set t.toNat (Q.length:Int))
    else zb1 d C i d.1 0 D2 D3 r11 (t+1) NA Q (row.set t.toNat (ix NA (ix C x))):=by
   conv=>lhs;rw [zjJ];unfold zcx
   rw [if_pos (by simp;omega),<- hxd]
   refine G_to (by omega) (G_to (by omega) (G_to (by omega) (G_to (by omega) (G_to (by omega) (G_to (by omega) (G_to (by omega) (G_to (by omega) ?_)))))))
   unfold zd5;by_cases c:ix NA (ix C x) < 0
   ·rw [if_pos (decide_eq_true c),if_pos c];refine G_to (by omega) (G_to (by omega) (G_to (by omega) (G_to (by omega) (G_to (by unfold room;simp;omega) ?_))))
    rw [<- hxd,zcu hw.1 (by omega)]
    exact G_to (by omega) (G_to (by omega) (G_to (by rw [List.length_set];omega) (G_to (by rw [List.length_set];omega) (G_to (by omega) (G_to (by omega) (G_to (by unfold fits;omega) rfl))))))
   ·rw [if_neg (by simpa using c),if_neg c,<- hxd]
    exact G_to (by omega) (G_to (by omega) (G_to (by omega) (G_to (by omega) (G_to (by omega) (G_to (by omega) (G_to (by unfold fits;omega) rfl))))))
  rw [hP1,hR1];have rowstep:∀ (Q':List Int) (v:Int),(∀ j:Int,0<=j->j < Q.length->ix Q' j=ix Q j)->Q.length<=Q'.length->0<=v->v < Q'.length->ix C (ix Q' v)=ix C x->
    ∀ a:Int,0<=a->a < t+1->0<=ix (row.set t.toNat v) a/\ix (row.set t.toNat v) a < Q'.length/\ix C (ix Q' (ix (row.set t.toNat v) a))=ix C (ix (ix d.2.2.1 (ix Q' i)) a):=fun Q' v hQ' hle v0 v1 hv' a a0 a1=>by
   by_cases e:a=t
   ·subst e;rw [zcu a0 (by omega),hQ' i (by omega) hiQ,<- hxd];exact ⟨v0,v1,hv'⟩
   ·obtain ⟨h1,h2,h3⟩:=hrow a a0 (by omega)
    rw [zem t0 a0 (Ne.symm e),hQ' _ h1 h2,hQ' i (by omega) hiQ]
    exact ⟨h1,by omega,h3⟩
  by_cases c:ix C x∈Q.map (ix C)
  ·obtain ⟨j,hj⟩:=zsl c;have hjl:=zes hj;rw [List.length_map] at hjl;have hjx:ix C (ix Q j)=ix C x:=by
    have:=zfc hj;rw [List.getElem?_map,List.getElem?_eq_getElem hjl,Option.map_some] at this;have e2:ix Q (j:Int)=Q[j]:=by rw [zhG (l:=Q) (by omega) (by omega)];simp
    rw [e2];exact Option.some.inj this
   rw [hj] at hNx;have hNx:ix NA (ix C x)=(j:Int):=hNx;rw [if_pos c,if_neg (by omega),zo5 hj,hNx]
   refine ih (t+1) Q NA _ (by omega) (by omega) (by omega) hP hiQ eQ hN (by rw [List.length_set];exact hrl) (rowstep Q j (fun _ _ _=>rfl) (Nat.le_refl _) (by omega) (by omega) hjx) ?_
   rw [show (t+1).toNat=t.toNat+1 by omega,zj1 (j:=j) (by rw [hxr,hnx];exact hj),hxr,zmr (by omega)]
  ·rw [zaV.2 c] at hNx;have hNx:ix NA (ix C x) = -1:=hNx;rw [if_neg c,if_pos (by omega)]
   have hQ':∀ j:Int,0<=j->j < Q.length->ix (Q++[x]) j=ix Q j:=fun j j0 j1=>zas j0 j1
   have hP':PartOk d C (Q++[x]) D2 D3:=by
    refine ⟨⟨fun q hq=>(List.mem_append.1 hq).elim (hP.q.b q) (fun e=>by rw [List.mem_singleton.1 e];exact hx),?_,?_⟩,by rw [List.length_append];have:=hP.l2;omega,hP.l3,fun j j0 j1 => ?_,fun j j0 j1 => ?_⟩
    ·rw [List.map_append,List.nodup_append];exact ⟨hP.q.nd,by simp,fun u hu w hw=>by rw [List.map_singleton,List.mem_singleton] at hw;rw [hw];rintro rfl;exact c hu⟩
    ·have:=hP.q.z;exact ⟨by simp,by rw [hQ' 0 (by omega) (by omega)];exact this.2⟩
    ·exact (hP.row j j0 j1).ext j0 (by have:=hP.l2;omega) _
    ·rw [hQ' j j0 (by have:=hP.l2;omega)];exact hP.mark j j0 j1
   have hN':zuX d C (Q++[x]) (NA.set (ix C x).toNat (Q.length:Int)):=by
    refine ⟨by rw [List.length_set];exact hN.1,fun v v0 v1 => ?_⟩
    rw [List.map_append,List.map_singleton];by_cases e:v=ix C x
    ·subst e;rw [zcu v0 (by omega),zlO c]
     simp
    ·rw [zem hw.1 v0 (Ne.symm e),hN.2 v v0 v1]
     cases hm:zaT (Q.map (ix C)) v with
     | some j=>rw [zlN _ hm]
     | none=>
      rw [zaV.2 (fun hh=>by
       rcases List.mem_append.1 hh with hh | hh
       ·exact zaV.1 hm hh
       ·exact e (List.mem_singleton.1 hh))]
   obtain ⟨y,NA',row',z0,z1,z2,z3,z4⟩:=ih (t+1) (Q++[x]) _ (row.set t.toNat (Q.length:Int)) (by omega) (by omega) (by omega) hP' (by rw [List.length_append];omega) (by rw [hQ' i (by omega) hiQ];exact eQ) hN' (by rw [List.length_set];exact hrl)
    (rowstep (Q++[x]) (Q.length:Int) hQ' (by rw [List.length_append];omega) (by omega) (by rw [List.length_append,List.length_singleton];omega) (by rw [zaN])) (by rw [show (t+1).toNat=t.toNat+1 by omega,zj0 (by rw [hxr,hnx];exact zaV.2 c),hxr,hnx,zmr (by omega),List.length_map,List.map_append,List.map_singleton])
   rw [hQ' i (by omega) hiQ] at z1 z3 z4
   rw [List.append_assoc] at z0 z1 z2 z3 z4;exact ⟨_,NA',row',z0,z1,z2,z3,z4⟩
theorem zuD (h:DOk 3000 badD d) {C l:List Int} {K:Nat} (hC:FinC d C K) (hl:OfOk d C l K):∀ (f:Nat) (Q NA:List Int) (D2:List (List Int)) (D3:List Int),3000 - D2.length=f->PartOk d C Q D2 D3->zuX d C Q NA->XGo (nxC d C l) (mkC d l) d.1.toNat (ix C d.2.1) D2.length->xSt (nxC d C l) (mkC d l) d.1.toNat (ix C d.2.1) D2.length=(Q.map (ix C),D2,D3)->
  ∃ o Q',LeastOk d o C Q' K/\zcV d.1 C d l d l ((C.length:Int)+1) d.1 0 (Q.map (ix C)) (iota (Q.map (ix C)).length) (Q.map (ix C)) D2 D3=some (o,true)/\zfe d C (D2.length:Int) NA Q d.1 0 D2 D3=some o:=by
 have hn:=h.n1;have hlt:=h.let1;intro f
 induction f using Nat.strongRecOn with
 | ind f ih=>
 intro Q NA D2 D3 hf hP hN hgo hxs;have hQK:=hP.q.le hC;have hK:=hC.le;rw [zk8,zpq];unfold zbD zc0;by_cases e:D2.length < Q.length
 ·have e1:ix (Q.map (ix C)) (D2.length:Int)=ix C (ix Q (D2.length:Int)):=zse _ (by omega) (by omega)
  obtain ⟨x,NA',row',z0,z1,z2,z3,z4⟩:=zrb (lk:=Q.map (ix C)) (r4:=zcV d.1 C d l d l ((C.length:Int)+1)) (r11:=zfe d C) h hC hl (L0:=Q.map (ix C)) (Q0:=Q) (D2:=D2) (D3:=D3) rfl e1 _ 0 Q NA (List.replicate d.1.toNat 0) rfl (by omega) (by omega) hP (by omega) rfl hN (by rw [List.length_replicate];omega) (fun a a0 a1=>by omega) (by simp [xRow])
  have hq:=hP.q.b _ (za7 (by omega) (by omega:(D2.length:Int) < Q.length))
  have hv:=hC.b _ hq.1 hq.2;obtain ⟨o1,o2,o3⟩:=hl.b _ hv.1 hv.2;have hmark:mkC d l (ix C (ix Q (D2.length:Int)))=ix d.2.2.2.1 (ix Q (D2.length:Int)):=hC.mark _ _ o1 o2 hq.1 hq.2 o3;have hgo':XGo (nxC d C l) (mkC d l) d.1.toNat (ix C d.2.1) (D2++[row']).length:=fun k hk=>by
   rw [List.length_append,List.length_singleton] at hk;by_cases c:k < D2.length
   ·exact hgo k c
   ·obtain rfl:k=D2.length:=by omega
    rw [hxs,List.length_map];exact e
  have hxs':xSt (nxC d C l) (mkC d l) d.1.toNat (ix C d.2.1) (D2++[row']).length=((Q++x).map (ix C),D2++[row'],D3++[ix d.2.2.2.1 (ix Q (D2.length:Int))]):=by
   rw [List.length_append,List.length_singleton,xSt,hxs];show ((xRow _ (ix (Q.map (ix C)) (D2.length:Int)) (Q.map (ix C)) d.1.toNat).1,D2++[(xRow _ (ix (Q.map (ix C)) (D2.length:Int)) (Q.map (ix C)) d.1.toNat).2],D3++[mkC d l (ix (Q.map (ix C)) (D2.length:Int))])=_;rw [e1,z0,hmark]
  obtain ⟨o,Q',w1,w2,w3⟩:=ih (3000 - (D2++[row']).length) (by rw [List.length_append,List.length_singleton];have:=z1.q.le hC;have:=z1.l2;rw [List.length_append,List.length_singleton] at this;omega) (Q++x) NA' (D2++[row']) _ rfl z1 z2 hgo' hxs'
  refine ⟨o,Q',w1,?_,?_⟩
  ·rw [if_pos (by simp;omega)]
   exact G_to (by rw [List.length_map];omega) (G_to (by rw [List.length_map];omega) (G_to (by unfold mkOK;omega) (z3.trans w2)))
  ·rw [if_pos (by simp;omega)]
   refine G_to (by unfold mkOK;omega) (z4.trans ?_)
   rw [List.length_append,List.length_singleton] at w3;exact w3
 ·refine ⟨(d.1,0,D2,D3,()),Q,⟨hC,hP,by have:=hP.l2;show D2.length=Q.length;omega,rfl,rfl,l,D2.length,hl,hgo,by rw [hxs,List.length_map];have:=hP.l2;omega,by unfold xAut;rw [hxs,Int.toNat_of_nonneg (by omega)]⟩,?_,?_⟩
  ·rw [if_neg (by rw [decide_eq_true_iff,List.length_map];omega)]
  ·rw [if_neg (by simp;omega)]
theorem zsN (h:DOk 3000 badD d) {C:List Int} {K:Nat} (hC:FinC d C K):∃ l,OfOk d C l K/\zb9 d C 0 (List.replicate C.length 0)=zb9 d C (C.length:Int) l:=by
 have hn:=h.n1;have hcl:=hC.len;have hK:=hC.le;have key:∀ (f:Nat) (t:Int) (l:List Int),(C.length - t).toNat=f->0<=t->t<=C.length->l.length=C.length->(∀ v:Int,0<=v->v < K->(∃ q:Int,0<=q/\q < t/\ix C q=v)->0<=ix l v/\ix l v < d.2.2.1.length/\ix C (ix l v)=v)->
   ∃ l',OfOk d C l' K/\zb9 d C t l=zb9 d C (C.length:Int) l':=by
  intro f
  induction f with
  | zero=>
   intro t l hf t0 t1 hll hv;obtain rfl:t=C.length:=by omega
   exact ⟨l,⟨by omega,fun v v0 v1=>by
    obtain ⟨q,q0,q1,e⟩:=hC.sur v v0 v1;exact hv v v0 v1 ⟨q,q0,by omega,e⟩⟩,rfl⟩
  | succ f ih=>
   intro t l hf t0 t1 hll hv;have hb:=hC.b t t0 (by omega)
   obtain ⟨l',h1,h2⟩:=ih (t+1) (l.set (ix C t).toNat t) (by omega) (by omega) (by omega) (by rw [List.length_set];exact hll) (fun v v0 v1 ⟨q,q0,q1,e⟩=>by
    by_cases e2:v=ix C t
    ·subst e2;rw [zcu v0 (by omega)];exact ⟨t0,by omega,rfl⟩
    ·rw [zem hb.1 v0 (Ne.symm e2)];refine hv v v0 v1 ⟨q,q0,?_,e⟩
     by_cases e3:q=t
     ·subst e3;exact absurd e.symm e2
     ·omega)
   refine ⟨l',h1,?_⟩
   rw [<- h2]
   conv=>lhs;rw [zgM];unfold zbp
   rw [if_pos (by simp;omega)]
   exact G_to (by omega) (G_to (by omega) (G_to (by omega) (G_to (by omega) (G_to (by unfold fits;omega) rfl))))
 exact key _ 0 _ rfl (by omega) (by omega) (by rw [List.length_replicate]) (fun v v0 v1 ⟨q,q0,q1,_⟩=>by omega)
theorem zuW (h:DOk 3000 badD d) {C:List Int} {K:Nat} (hC:FinC d C K):zdW d C 0 (List.replicate C.length 0)=zdW d C (C.length:Int) (List.replicate C.length (-1)):=by
 have hn:=h.n1;have hcl:=hC.len;have key:∀ (f:Nat) (t:Int) (l:List Int),(C.length - t).toNat=f->0<=t->t<=C.length->l.length=C.length->(∀ v:Int,0<=v->v < t->ix l v = -1)->zdW d C t l=zdW d C (C.length:Int) (List.replicate C.length (-1)):=by
  intro f
  induction f with
  | zero=>
   intro t l hf t0 t1 hll hv;obtain rfl:t=C.length:=by omega
   rw [show l=List.replicate C.length (-1) from zoX (by rw [List.length_replicate];exact hll) fun j j0 j1=>by rw [znq j0 (by omega),hv j j0 (by omega)]]
  | succ f ih=>
   intro t l hf t0 t1 hll hv;rw [<- ih (t+1) (l.set t.toNat (-1)) (by omega) (by omega) (by omega) (by rw [List.length_set];exact hll) (fun v v0 v1=>by
    by_cases e2:v=t
    ·subst e2;rw [zcu v0 (by omega)]
    ·rw [zem t0 v0 (Ne.symm e2)];exact hv v v0 (by omega))]
   conv=>lhs;rw [zkR];unfold zcQ
   rw [if_pos (by simp;omega)]
   exact G_to (by omega) (G_to (by omega) (G_to (by unfold fits;omega) rfl))
 exact key _ 0 _ rfl (by omega) (by omega) (by rw [List.length_replicate]) (fun v v0 v1=>by omega)
theorem zqg (h:DOk 3000 badD d):∃ o C Q K,LeastOk d o C Q K/\zd2 d=some o/\zme d=some o:=by
 have hn:=h.n1;obtain ⟨C,K,hC,c1,c2⟩:=zrQ h;obtain ⟨l,hl,l1⟩:=zsN h hC;have hs:=h.st;have hcl:=hC.len;have hb:=hC.b _ hs.1 hs.2;have hK:=hC.le;have hP:PartOk d C [d.2.1] [] []:=⟨⟨fun q hq=>by rw [List.mem_singleton.1 hq];exact hs,by simp,by simp,rfl⟩,by simp,rfl,fun i i0 i1=>by simp at i1;omega,fun i i0 i1=>by simp at i1;omega⟩
 have hN:zuX d C [d.2.1] ((List.replicate C.length (-1:Int)).set (ix C d.2.1).toNat 0):=by
  refine ⟨by rw [List.length_set,List.length_replicate];exact hcl,fun v v0 v1 => ?_⟩
  rw [List.map_singleton];by_cases e:v=ix C d.2.1
  ·subst e;rw [zcu v0 (by rw [List.length_replicate];omega),zkd];rfl
  ·rw [zem hb.1 v0 (Ne.symm e),znq v0 (by omega),zaV.2 (by simpa using e)]
 obtain ⟨o,Q,w1,w2,w3⟩:=zuD h hC hl _ [d.2.1] _ [] [] rfl hP hN (fun k hk=>by simp at hk) rfl
 have ed:(d.1,d.2.1,d.2.2.1,d.2.2.2.1,())=d:=rfl;refine ⟨o,C,Q,K,w1,?_,?_⟩
 ·unfold zd2;rw [ed];refine zai c1 ?_
  refine G_to (by unfold mkOK;omega) ?_
  rw [Int.toNat_natCast,l1,zgM];unfold zbp;rw [if_neg (by simp)]
  refine G_to (by omega) (G_to (by omega) (G_to (by unfold fits;omega) ?_))
  have hE:zfC d.1 (ix C d.2.1) C d l d l ((C.length:Int)+1)=some (o,true):=w2;refine zaq ?_ ?_
  ·rw [ed];exact zai hE rfl
  ·rw [ed];exact zai hE rfl
 ·unfold zme;rw [ed];refine zai c2 ?_
  refine G_to (by unfold mkOK;omega) ?_
  rw [Int.toNat_natCast,zuW h hC,zkR];unfold zcQ;rw [if_neg (by simp)]
  exact G_to (by omega) (G_to (by omega) (G_to (by rw [List.length_replicate];omega) (G_to (by rw [List.length_replicate];omega) w3)))
end
theorem zmP {d o:Dt} {C Q:List Int} {K:Nat} (hd:DOk 3000 badD d) (h:LeastOk d o C Q K):∀ (w:List Int) (i q:Int),0<=i->i < Q.length->0<=q->q < d.2.2.1.length->ix C (ix Q i)=ix C q->(∀ a∈w,0<=a/\a < d.1)->
  0<=wlk o.2.2.1 i w/\wlk o.2.2.1 i w < Q.length/\ix C (ix Q (wlk o.2.2.1 i w))=ix C (wlk d.2.2.1 q w)
 | [],i,q,i0,i1,_,_,e,_=>⟨i0,i1,e⟩
 | a::w,i,q,i0,i1,q0,q1,e,hw=>by
  have ha:=hw a (by simp)
  have hr:=h.part.row i i0 (by rw [h.all];exact i1)
  obtain ⟨t1,t2,t3⟩:=hr.to a ha.1 ha.2;have hq:=h.part.q.b _ (za7 i0 i1);have hs:=hd.tab.stpb q0 q1 ha.1 ha.2;have hst:=h.fin.stable _ _ hq.1 hq.2 q0 q1 e a ha.1 ha.2;exact zmP hd h w (ix (ix o.2.2.1 i) a) (stp d.2.2.1 q a) t1 t2 hs.1 hs.2 (t3.trans hst) (fun b hb=>hw b (by simp [hb]))
theorem zqh {d o:Dt} {C Q:List Int} {K:Nat} (hd:DOk 3000 badD d) (h:LeastOk d o C Q K) {w:List Int} (hw:∀ a∈w,0<=a/\a < d.1):0<=wlk o.2.2.1 o.2.1 w/\wlk o.2.2.1 o.2.1 w < o.2.2.1.length/\ix o.2.2.2.1 (wlk o.2.2.1 o.2.1 w)=ix d.2.2.2.1 (wlk d.2.2.1 d.2.1 w):=by
 have hz:=h.part.q.z;have hst:=hd.st;obtain ⟨h1,h2,h3⟩:=zmP hd h w 0 d.2.1 (by omega) (by omega) hst.1 hst.2 (by rw [hz.2]) hw
 rw [h.st];refine ⟨h1,by rw [h.all];exact h2,?_⟩
 rw [h.part.mark _ h1 (by rw [h.all];exact h2)]
 have hq:=h.part.q.b _ (za7 h1 h2);have hw2:=hd.tab.wlkb hst.1 hst.2 hw;exact h.fin.mark _ _ hq.1 hq.2 hw2.1 hw2.2 h3
theorem LeastOk.tab' {d o:Dt} {C Q:List Int} {K:Nat} (h:LeastOk d o C Q K):Tab o.1 o.2.2.1:=by
 refine ⟨fun r hr => ?_,fun r hr q hq => ?_⟩
 ·obtain ⟨j,j0,j1,rfl⟩:=(zej (P:=fun x=>x=r)).1 ⟨r,hr,rfl⟩
  rw [h.let1];exact (h.part.row j j0 j1).len
 ·obtain ⟨j,j0,j1,rfl⟩:=(zej (P:=fun x=>x=r)).1 ⟨r,hr,rfl⟩
  have hr:=h.part.row j j0 j1;obtain ⟨k,k0,k1,rfl⟩:=(zej (P:=fun x=>x=q)).1 ⟨q,hq,rfl⟩
  have:=hr.to k k0 (by rw [<- hr.len];exact k1)
  rw [h.all];exact ⟨this.1,this.2.1⟩
theorem zue {nx nx':Int->Int->Int} {f:Int->Int} {P:Int->Prop} {L:Nat} (hinj:∀ x y,P x->P y->f x=f y->x=y) (hn:∀ s,P s->∀ t:Int,0<=t->t < L->P (nx s t)/\f (nx s t)=nx' (f s) t) {s:Int} (hs:P s) {l:List Int} (hl:∀ x∈l,P x):∀ t:Nat,t<=L->
  (∀ x∈(xRow nx s l t).1,P x)/\xRow nx' (f s) (l.map f) t=((xRow nx s l t).1.map f,(xRow nx s l t).2)
 | 0,_=>⟨hl,rfl⟩
 | t+1,ht=>by
  obtain ⟨h1,h2⟩:=zue hinj hn hs hl t (by omega)
  obtain ⟨p1,p2⟩:=hn s hs t (by omega) (by omega)
  have e:zaT ((xRow nx s l t).1.map f) (nx' (f s) t)=zaT (xRow nx s l t).1 (nx s t):=by
   rw [<- p2];exact zo4 f (fun y hy he=>hinj _ _ (h1 y hy) p1 he)
  cases c:zaT (xRow nx s l t).1 (nx s t) with
  | some j=>
   rw [zj1 c,zj1 (j:=j) (by rw [h2,e,c]),h2]
   exact ⟨h1,rfl⟩
  | none=>
   rw [zj0 c,zj0 (by rw [h2,e,c]),h2]
   refine ⟨fun x hx=>(List.mem_append.1 hx).elim (h1 x) (fun hh=>by rw [List.mem_singleton.1 hh];exact p1),?_⟩
   rw [<- p2];simp
theorem zwv {nx nx':Int->Int->Int} {mk mk':Int->Int} {f:Int->Int} {P:Int->Prop} {L:Nat} {first:Int} (hf:P first) (hinj:∀ x y,P x->P y->f x=f y->x=y) (hn:∀ s,P s->∀ t:Int,0<=t->t < L->P (nx s t)/\f (nx s t)=nx' (f s) t) (hm:∀ s,P s->mk' (f s)=mk s):∀ i:Nat,XGo nx mk L first i->
  (∀ x∈(xSt nx mk L first i).1,P x)/\xSt nx' mk' L (f first) i=((xSt nx mk L first i).1.map f,(xSt nx mk L first i).2.1,(xSt nx mk L first i).2.2)
 | 0,_=>⟨fun x hx=>by
   have:x=first:=by simpa [xSt] using hx
   rw [this];exact hf,rfl⟩
 | i+1,hg=>by
  obtain ⟨h1,h2⟩:=zwv hf hinj hn hm i (fun k hk=>hg k (by omega))
  have hi:=hg i (by omega)
  have hP:=h1 _ (za7 (i:=(i:Int)) (by omega) (by omega))
  have e:ix ((xSt nx mk L first i).1.map f) (i:Int)=f (ix (xSt nx mk L first i).1 (i:Int)):=zse _ (by omega) (by omega)
  obtain ⟨g1,g2⟩:=zue hinj hn hP h1 L (Nat.le_refl _);refine ⟨g1,?_⟩
  rw [xSt,h2];show ((xRow nx' (ix ((xSt nx mk L first i).1.map f) (i:Int)) ((xSt nx mk L first i).1.map f) L).1,(xSt nx mk L first i).2.1++[(xRow nx' (ix ((xSt nx mk L first i).1.map f) (i:Int)) ((xSt nx mk L first i).1.map f) L).2],(xSt nx mk L first i).2.2++[mk' (ix ((xSt nx mk L first i).1.map f) (i:Int))])=_;rw [e,g2,hm _ hP];rfl
theorem LEq.symm {d e:Dt} {q r:Int} (hL:d.1=e.1) (h:LEq d q e r):LEq e r d q:=fun w hw=>(h w (fun a ha=>by rw [hL];exact hw a ha)).symm
theorem LEq.trans {d e f:Dt} {q r s:Int} (hL:d.1=e.1) (h:LEq d q e r) (k:LEq e r f s):LEq d q f s:=fun w hw=>(h w hw).trans (k w (fun a ha=>by rw [<- hL];exact hw a ha))
theorem zu8 {d:Dt} (hd:DOk 3000 badD d) {C:List Int} {K:Nat} (hC:FinC d C K) {q r:Int} (q0:0<=q) (q1:q < d.2.2.1.length) (r0:0<=r) (r1:r < d.2.2.1.length) (h:ix C q=ix C r):LEq d q d r:=by
 intro w
 induction w generalizing q r with
 | nil=>intro _;exact hC.mark _ _ q0 q1 r0 r1 h
 | cons a w ih=>
  intro hw;have ha:=hw a (by simp)
  have sq:=hd.tab.stpb q0 q1 ha.1 ha.2;have sr:=hd.tab.stpb r0 r1 ha.1 ha.2;exact ih sq.1 sq.2 sr.1 sr.2 (hC.stable _ _ q0 q1 r0 r1 h a ha.1 ha.2) (fun b hb=>hw b (by simp [hb]))
theorem zvX {d e o p:Dt} {C Q C' Q':List Int} {K K':Nat} (hd:DOk 3000 badD d) (he:DOk 3000 badD e) (h:LeastOk d o C Q K) (k:LeastOk e p C' Q' K') (hL:d.1=e.1) (hq:LEq d d.2.1 e e.2.1):o=p:=by
 obtain ⟨l,n,hl,go,gn,rfl⟩:=h.by1;obtain ⟨l',n',hl',go',gn',rfl⟩:=k.by1;have hC:=h.fin;have hC':=k.fin;have hds:=hd.st;have hes:=he.st
 let P:Int->Prop:=fun v=>0<=v/\v < K/\∃ v':Int,0<=v'/\v' < K'/\LEq d (ix l v) e (ix l' v')
 let f:Int->Int:=fun v=>Classical.epsilon fun v':Int=>0<=v'/\v' < K'/\LEq d (ix l v) e (ix l' v')
 have fs:∀ v,P v->0<=f v/\f v < K'/\LEq d (ix l v) e (ix l' (f v)):=fun v hv=>Classical.epsilon_spec hv.2.2
 have cl:∀ x y:Int,0<=x->x < K->0<=y->y < K->LEq d (ix l x) d (ix l y)->x=y:=fun x y x0 x1 y0 y1 hxy=>by
  obtain ⟨a1,a2,a3⟩:=hl.b x x0 x1;obtain ⟨b1,b2,b3⟩:=hl.b y y0 y1;rw [<- a3,<- b3];exact hC.coarse _ _ a1 a2 b1 b2 hxy
 have cl':∀ x y:Int,0<=x->x < K'->0<=y->y < K'->LEq e (ix l' x) e (ix l' y)->x=y:=fun x y x0 x1 y0 y1 hxy=>by
  obtain ⟨a1,a2,a3⟩:=hl'.b x x0 x1;obtain ⟨b1,b2,b3⟩:=hl'.b y y0 y1;rw [<- a3,<- b3];exact hC'.coarse _ _ a1 a2 b1 b2 hxy
 have hinj:∀ x y,P x->P y->f x=f y->x=y:=fun x y hx hy hxy=>by
  obtain ⟨_,_,a3⟩:=fs x hx;obtain ⟨_,_,b3⟩:=fs y hy;rw [hxy] at a3;exact cl x y hx.1 hx.2.1 hy.1 hy.2.1 (a3.trans hL (b3.symm hL))
 have link:∀ q r:Int,0<=q->q < d.2.2.1.length->0<=r->r < e.2.2.1.length->LEq d q e r->P (ix C q)/\f (ix C q)=ix C' r:=fun q r q0 q1 r0 r1 hqr=>by
  have bq:=hC.b q q0 q1;have br:=hC'.b r r0 r1;obtain ⟨a1,a2,a3⟩:=hl.b _ bq.1 bq.2;obtain ⟨b1,b2,b3⟩:=hl'.b _ br.1 br.2;have h1:LEq d (ix l (ix C q)) d q:=zu8 hd hC a1 a2 q0 q1 a3;have h2:LEq e (ix l' (ix C' r)) e r:=zu8 he hC' b1 b2 r0 r1 b3;have h3:LEq d (ix l (ix C q)) e (ix l' (ix C' r)):=(h1.trans rfl hqr).trans hL (h2.symm rfl);have hP:P (ix C q):=⟨bq.1,bq.2,_,br.1,br.2,h3⟩;obtain ⟨c1,c2,c3⟩:=fs _ hP;exact ⟨hP,cl' _ _ c1 c2 br.1 br.2 ((c3.symm hL).trans hL.symm h3)⟩
 have hn:∀ s,P s->∀ t:Int,0<=t->t < d.1.toNat->P (nxC d C l s t)/\f (nxC d C l s t)=nxC e C' l' (f s) t:=fun s hs t t0 t1=>by
  obtain ⟨c1,c2,c3⟩:=fs s hs;obtain ⟨a1,a2,_⟩:=hl.b s hs.1 hs.2.1;obtain ⟨b1,b2,_⟩:=hl'.b _ c1 c2;have sq:=hd.tab.stpb a1 a2 t0 (by omega)
  have sr:=he.tab.stpb b1 b2 t0 (by omega)
  exact link _ _ sq.1 sq.2 sr.1 sr.2 (c3.step t0 (by omega))
 have hm:∀ s,P s->mkC e l' (f s)=mkC d l s:=fun s hs=>by
  obtain ⟨_,_,c3⟩:=fs s hs;exact (c3 [] (fun a ha=>by cases ha)).symm
 obtain ⟨hf,ef⟩:=link _ _ hds.1 hds.2 hes.1 hes.2 hq;have hm':=fun i hi=>zwv (nx:=nxC d C l) (nx':=nxC e C' l') (mk:=mkC d l) (mk':=mkC e l') (f:=f) (L:=d.1.toNat) hf hinj hn hm i hi
 rw [ef] at hm';rw [<- hL] at go' gn' ⊢;have hnn:n=n':=by
  rcases Nat.lt_trichotomy n n' with c | c | c
  ·have:=go' n c;rw [(hm' n go).2,List.length_map] at this;omega
  ·exact c
  ·have:=go n' c;rw [(hm' n' (fun k hk=>go k (by omega))).2,List.length_map] at gn'
   omega
 subst hnn;unfold xAut;rw [(hm' n go).2]
theorem zsI {nx:Int->Int->Int} {s:Int} {l:List Int}:∀ t:Nat,∀ x∈(xRow nx s l t).1,x∈l\/∃ a:Int,0<=a/\a < t/\x=nx s a
 | 0,x,hx => .inl hx
 | t+1,x,hx=>by
  have ih:=zsI (nx:=nx) (s:=s) (l:=l) t;have up:(x∈l\/∃ a:Int,0<=a/\a < t/\x=nx s a)->(x∈l\/∃ a:Int,0<=a/\a < ((t+1:Nat):Int)/\x=nx s a):=fun h=>h.imp id (fun ⟨a,a0,a1,e⟩=>⟨a,a0,by omega,e⟩)
  cases c:zaT (xRow nx s l t).1 (nx s t) with
  | some j=>rw [zj1 c] at hx;exact up (ih x hx)
  | none=>
   rw [zj0 c] at hx;rcases List.mem_append.1 hx with hx | hx
   ·exact up (ih x hx)
   ·rw [List.mem_singleton.1 hx];exact .inr ⟨t,by omega,by omega,rfl⟩
theorem zuf {nx:Int->Int->Int} {mk:Int->Int} {L:Nat} {first:Int}:∀ i:Nat,XGo nx mk L first i->∀ x∈(xSt nx mk L first i).1,∃ w:List Int,(∀ a∈w,0<=a/\a < (L:Int))/\x=w.foldl nx first
 | 0,_,x,hx=>⟨[],(fun a ha=>by cases ha),by simpa [xSt] using hx⟩
 | i+1,hg,x,hx=>by
  have ih:=zuf i (fun k hk=>hg k (by omega))
  have hi:=hg i (by omega)
  rcases zsI L x hx with h | ⟨a,a0,a1,rfl⟩
  ·exact ih x h
  ·obtain ⟨w,w1,w2⟩:=ih _ (za7 (i:=(i:Int)) (by omega) (by omega))
   refine ⟨w++[a],fun b hb=>(List.mem_append.1 hb).elim (w1 b) (fun e=>by rw [List.mem_singleton.1 e];exact ⟨a0,a1⟩),?_⟩
   rw [List.foldl_append,<- w2];rfl
section
variable {d o:Dt} {C Q:List Int} {K:Nat}
theorem LeastOk.xok (hd:DOk 3000 badD d) (h:LeastOk d o C Q K) {l:List Int} (hl:OfOk d C l K):XOk (nxC d C l) (mkC d l) d.1.toNat (ix C d.2.1) K (fun v=>0<=v/\v < K):=by
 have hlt:=hd.let1;have hmk:=hd.mkl;refine XOk.int (fun s hs=>hs) (h.fin.b _ hd.st.1 hd.st.2) (fun s hs t t0 t1 => ?_) (fun s hs => ?_)
 ·obtain ⟨a1,a2,_⟩:=hl.b s hs.1 hs.2;have:=hd.tab.stpb a1 a2 t0 (by omega)
  exact h.fin.b _ this.1 this.2
 ·obtain ⟨a1,a2,_⟩:=hl.b s hs.1 hs.2;have:=hd.mok _ (za7 a1 (by omega:ix l s < d.2.2.2.1.length))
  unfold badD at this;unfold mkC;omega
theorem LeastOk.dok (hd:DOk 3000 badD d) (h:LeastOk d o C Q K):DOk 3000 badD o:=by
 obtain ⟨l,n,hl,go,gn,rfl⟩:=h.by1;have hlt:=hd.let1;have hn:=hd.n1;have hK:=h.fin.le;exact zwu (h.xok hd hl) (by omega) (by omega) go gn
theorem LeastOk.reach (hd:DOk 3000 badD d) (h:LeastOk d o C Q K) {q:Int} (q0:0<=q) (q1:q < o.2.2.1.length):∃ w:List Int,(∀ a∈w,0<=a/\a < d.1)/\wlk o.2.2.1 o.2.1 w=q:=by
 obtain ⟨l,n,hl,go,gn,rfl⟩:=h.by1;have hlt:=hd.let1;have hx:=h.xok hd hl;obtain ⟨k1,k2,k3⟩:=zmv hx n go;have hr:=k3.r;have q1':q < ((xSt (nxC d C l) (mkC d l) d.1.toNat (ix C d.2.1) n).1.length:Int):=by
  have:q < ((xSt (nxC d C l) (mkC d l) d.1.toNat (ix C d.2.1) n).2.1.length:Int):=q1;omega
 obtain ⟨w,w1,w2⟩:=zuf n go _ (za7 q0 q1');obtain ⟨y1,y2,y3⟩:=zpN hx go gn w 0 (by omega) (by omega) w1
 rw [k3.z,<- w2] at y3;refine ⟨w,fun a ha=>by have:=w1 a ha;omega,?_⟩
 show wlk _ 0 w=q;exact zxm k1.nd y1 (by omega) q0 q1' y3
theorem LeastOk.apart (hd:DOk 3000 badD d) (h:LeastOk d o C Q K) {p q:Int} (p0:0<=p) (p1:p < o.2.2.1.length) (q0:0<=q) (q1:q < o.2.2.1.length) (hpq:LEq o p o q):p=q:=by
 have ha:=h.all;have hl1:=h.let1;have bp:=h.part.q.b _ (za7 p0 (by omega))
 have bq:=h.part.q.b _ (za7 q0 (by omega))
 have e:∀ {p:Int},0<=p->p < o.2.2.1.length->∀ w:List Int,(∀ a∈w,0<=a/\a < d.1)->ix o.2.2.2.1 (wlk o.2.2.1 p w)=ix d.2.2.2.1 (wlk d.2.2.1 (ix Q p) w):=fun {p} p0 p1 w hw=>by
  have bp:=h.part.q.b _ (za7 p0 (by omega))
  obtain ⟨h1,h2,h3⟩:=zmP hd h w p (ix Q p) p0 (by omega) bp.1 bp.2 rfl hw
  rw [h.part.mark _ h1 (by rw [h.all];exact h2)]
  have hq:=h.part.q.b _ (za7 h1 h2);have hw2:=hd.tab.wlkb bp.1 bp.2 hw;exact h.fin.mark _ _ hq.1 hq.2 hw2.1 hw2.2 h3
 have hL:LEq d (ix Q p) d (ix Q q):=fun w hw=>by
  rw [<- e p0 p1 w hw,<- e q0 q1 w hw];exact hpq w (fun a ha=>by rw [hl1];exact hw a ha)
 have hc:=h.fin.coarse _ _ bp.1 bp.2 bq.1 bq.2 hL;have hnd:=h.part.q.nd;refine zxm hnd p0 (by rw [List.length_map];omega) q0 (by rw [List.length_map];omega) ?_
 rw [zse _ p0 (by omega),zse _ q0 (by omega),hc]
end
def bitP (s q:Int):Prop:=iand .i64 (ishr .i64 s q) 1=1
theorem zlY {N:Nat} (hN:N<=16):2 ^ N<=65536:=by
 have:2 ^ N<=2 ^ 16:=Nat.pow_le_pow_right (by omega) hN
 omega
theorem zdN {m:Nat} (hm:m < 65536) {q:Nat} (hq:q<=16):bitP (m:Int) (q:Int)↔m.testBit q=true:=by
 have hs:m >>> q<=m:=Nat.shiftRight_le m q;unfold bitP;rw [zoj (by omega),show (1:Int)=((1:Nat):Int) from rfl,zq7 (by omega) (by omega),Nat.and_one_is_mod,Nat.testBit]
 rw [show (1 &&& m >>> q)=(m >>> q) % 2 by rw [Nat.and_comm,Nat.and_one_is_mod]]
 simp only [bne_iff_ne,ne_eq];omega
def SetN (N:Nat) (s:Int):Prop:=N<=16/\∃ m:Nat,s=m/\m < 2 ^ N
section
variable {N:Nat} {s t:Int}
theorem SetN.b (h:SetN N s):0<=s/\s < ((2 ^ N:Nat):Int):=by
 obtain ⟨hN,m,rfl,hm⟩:=h;omega
theorem SetN.or (hs:SetN N s) {q:Int} (q0:0<=q) (q1:q < N):SetN N (ior .i64 s (ishl .i64 1 q))/\s<=ior .i64 s (ishl .i64 1 q)/\∀ r:Int,0<=r->r < N->(bitP (ior .i64 s (ishl .i64 1 q)) r↔bitP s r\/r=q):=by
 obtain ⟨hN,m,rfl,hm⟩:=hs;have hp:=zlY hN;obtain ⟨k,rfl⟩:∃ k:Nat,q=k:=⟨q.toNat,by omega⟩
 obtain ⟨b1,b2⟩:=zxZ (m:=m) (q:=k) (by omega) (by omega)
 have h2:2 ^ k < 2 ^ N:=Nat.pow_lt_pow_right (by omega) (by omega)
 have hlt:m ||| 2 ^ k < 2 ^ N:=Nat.or_lt_two_pow (n:=N) hm h2
 have hle:m<=m ||| 2 ^ k:=Nat.left_le_or
 rw [b1];refine ⟨⟨hN,_,rfl,hlt⟩,by omega,fun r r0 r1 => ?_⟩
 obtain ⟨j,rfl⟩:∃ j:Nat,r=j:=⟨r.toNat,by omega⟩
 rw [zdN (by omega) (by omega),zdN (by omega) (by omega),Nat.testBit_or,Bool.or_eq_true,Nat.testBit_two_pow,decide_eq_true_iff]
 exact or_congr Iff.rfl (by omega)
theorem SetN.union (hs:SetN N s) (ht:SetN N t):SetN N (ior .i64 s t)/\∀ r:Int,0<=r->r < N->(bitP (ior .i64 s t) r↔bitP s r\/bitP t r):=by
 obtain ⟨hN,m,rfl,hm⟩:=hs;obtain ⟨_,k,rfl,hk⟩:=ht;have hp:=zlY hN;have hlt:m ||| k < 2 ^ N:=Nat.or_lt_two_pow (n:=N) hm hk
 rw [ztg (by omega) (by omega)]
 refine ⟨⟨hN,_,rfl,hlt⟩,fun r r0 r1 => ?_⟩
 obtain ⟨j,rfl⟩:∃ j:Nat,r=j:=⟨r.toNat,by omega⟩
 rw [zdN (by omega) (by omega),zdN (by omega) (by omega),zdN (by omega) (by omega),Nat.testBit_or,Bool.or_eq_true]
theorem SetN.zero (hN:N<=16):SetN N 0/\∀ r:Int,0<=r->r < N -> ¬ bitP 0 r:=by
 refine ⟨⟨hN,0,rfl,Nat.pow_pos (by omega)⟩,fun r r0 r1 => ?_⟩
 obtain ⟨j,rfl⟩:∃ j:Nat,r=j:=⟨r.toNat,by omega⟩
 have:=zdN (m:=0) (by omega) (q:=j) (by omega)
 rw [show ((0:Nat):Int)=0 from rfl] at this;rw [this];simp
theorem SetN.ext (hs:SetN N s) (ht:SetN N t) (h:∀ r:Int,0<=r->r < N->(bitP s r↔bitP t r)):s=t:=by
 obtain ⟨hN,m,rfl,hm⟩:=hs;obtain ⟨_,k,rfl,hk⟩:=ht;have hp:=zlY hN;congr 1
 refine Nat.eq_of_testBit_eq fun b => ?_
 by_cases hb:b < N
 ·have:=h b (by omega) (by omega)
  rw [zdN (by omega) (by omega),zdN (by omega) (by omega)] at this
  rw [Bool.eq_iff_iff];exact this
 ·rw [Nat.testBit_lt_two_pow (Nat.lt_of_lt_of_le hm (Nat.pow_le_pow_right (by omega) (by omega))),Nat.testBit_lt_two_pow (Nat.lt_of_lt_of_le hk (Nat.pow_le_pow_right (by omega) (by omega)))]
theorem SetN.meet (hs:SetN N s) (ht:SetN N t):(¬ iand .i64 s t=0↔∃ r:Int,0<=r/\r < N/\bitP s r/\bitP t r):=by
 obtain ⟨hN,m,rfl,hm⟩:=hs;obtain ⟨_,k,rfl,hk⟩:=ht;have hp:=zlY hN;rw [zq7 (by omega) (by omega)]
 constructor
 ·intro h;have hne:m &&& k≠0:=by omega
  obtain ⟨j,hj⟩:=Nat.exists_testBit_of_ne_zero hne;have hle:m &&& k<=m:=Nat.and_le_left;have hj8:j < N:=by
   refine Nat.lt_of_not_le fun h8 => ?_
   have:m &&& k < 2 ^ j:=Nat.lt_of_lt_of_le (by omega:m &&& k < 2 ^ N) (Nat.pow_le_pow_right (by omega) h8)
   rw [Nat.testBit_lt_two_pow this] at hj;cases hj
  rw [Nat.testBit_and,Bool.and_eq_true] at hj;exact ⟨j,by omega,by omega,(zdN (by omega) (by omega)).2 hj.1,(zdN (by omega) (by omega)).2 hj.2⟩
 ·rintro ⟨r,r0,r1,h1,h2⟩ h;obtain ⟨j,rfl⟩:∃ j:Nat,r=j:=⟨r.toNat,by omega⟩
  have hz:m &&& k=0:=by omega
  have:(m &&& k).testBit j=true:=by rw [Nat.testBit_and,(zdN (by omega) (by omega)).1 h1,(zdN (by omega) (by omega)).1 h2];rfl
  rw [hz] at this;simp at this
end
open Classical in
def zfF (p:Int->Prop):Nat->Int
 | 0=>0
 | k+1=>if p (k:Int) then ior .i64 (zfF p k) (ishl .i64 1 (k:Int)) else zfF p k
open Classical in
theorem zyN (p:Int->Prop) (k:Nat):zfF p (k+1)=if p (k:Int) then ior .i64 (zfF p k) (ishl .i64 1 (k:Int)) else zfF p k:=rfl
theorem zgT {N:Nat} (hN:N<=16) (p:Int->Prop):∀ k:Nat,k<=N->SetN N (zfF p k)/\∀ r:Int,0<=r->r < N->(bitP (zfF p k) r↔r < k/\p r)
 | 0,_=>⟨(SetN.zero hN).1,fun r r0 r1=>⟨fun h=>absurd h ((SetN.zero hN).2 r r0 r1),fun h=>by omega⟩⟩
 | k+1,hk=>by
  obtain ⟨h1,h2⟩:=zgT hN p k (by omega)
  unfold zfF;by_cases c:p (k:Int)
  ·rw [if_pos c];obtain ⟨h3,_,h4⟩:=h1.or (q:=(k:Int)) (by omega) (by omega)
   refine ⟨h3,fun r r0 r1 => ?_⟩
   rw [h4 r r0 r1,h2 r r0 r1];constructor
   ·rintro (⟨g1,g2⟩ | rfl)
    ·exact ⟨by omega,g2⟩
    ·exact ⟨by omega,c⟩
   ·rintro ⟨g1,g2⟩;by_cases e:r=k
    ·exact .inr e
    ·exact .inl ⟨by omega,g2⟩
  ·rw [if_neg c];refine ⟨h1,fun r r0 r1 => ?_⟩
   rw [h2 r r0 r1];constructor
   ·rintro ⟨g1,g2⟩;exact ⟨by omega,g2⟩
   ·rintro ⟨g1,g2⟩;by_cases e:r=k
    ·subst e;exact absurd g2 c
    ·exact ⟨by omega,g2⟩
theorem SetN.one {N:Nat} (hN:N<=16) {q:Int} (q0:0<=q) (q1:q < N):SetN N (ishl .i64 1 q)/\∀ r:Int,0<=r->r < N->(bitP (ishl .i64 1 q) r↔r=q):=by
 obtain ⟨h1,_,h3⟩:=(SetN.zero hN).1.or q0 q1;have e:ior .i64 0 (ishl .i64 1 q)=ishl .i64 1 q:=by
  obtain ⟨k,rfl⟩:∃ k:Nat,q=k:=⟨q.toNat,by omega⟩
  have hp:2 ^ k<=2 ^ 16:=Nat.pow_le_pow_right (by omega) (by omega)
  have h1:ishl .i64 1 (k:Int)=((2 ^ k:Nat):Int):=by
   have:=ztY (m:=1) (k:=k) (by omega) (by omega)
   rw [Nat.shiftLeft_eq,Nat.one_mul] at this;exact this
  rw [h1,show (0:Int)=((0:Nat):Int) from rfl,ztg (by omega) (by omega),Nat.zero_or]
 rw [e] at h1 h3;refine ⟨h1,fun r r0 r1=>(h3 r r0 r1).trans ⟨fun h=>h.elim (fun z=>absurd z ((SetN.zero hN).2 r r0 r1)) id,.inr⟩⟩
abbrev Ed:=Int×Int×Int×Unit
abbrev Kn:=Int×Int×List Ed×Unit
abbrev D0:Kn:=(0,0,[],())
theorem ziH {α:Type} {ks:List α} {x y:α}:y∈zb5 ks x↔y=x\/y∈ks:=by
 unfold zb5
 cases e:zaT ks x with
 | some j=>
  have:x∈ks:=by
   refine Classical.byContradiction fun hn => ?_
   rw [zaV.2 hn] at e;cases e
  exact ⟨.inr,fun h=>h.elim (fun h=>h ▸ this) id⟩
 | none=>simp [or_comm]
theorem zv4 {α β:Type} {ks:List α} {vs:List β} {x:α} {v:β} (hl:vs.length=ks.length):(zcM ks vs x v).length=(zb5 ks x).length:=by
 unfold zb5 zcM
 cases e:zaT ks x with
 | some j=>simp [hl]
 | none=>simp [hl]
theorem zlR {α β:Type} {ks:List α} {vs:List β} {x y:α} {v z:β} (hl:vs.length=ks.length):mget (zb5 ks x) (zcM ks vs x v) y z=open Classical in if y=x then v else mget ks vs y z:=by
 unfold zb5 zcM
 cases e:zaT ks x with
 | some j=>
  have hj:=zes e;dsimp only;by_cases c:y=x
  ·subst c;unfold mget;rw [e,if_pos rfl];simp [List.getD_eq_getElem?_getD,hl,hj]
  ·rw [if_neg c];unfold mget
   cases k:zaT ks y with
   | none=>rfl
   | some i=>
    have:j≠i:=by rintro rfl;exact c (zsk k e)
    simp [List.getD_eq_getElem?_getD,List.getElem?_set_ne this]
 | none=>
  have hn:=zaV.1 e;dsimp only;by_cases c:y=x
  ·subst c;unfold mget;rw [zlO hn,if_pos rfl];simp [List.getD_eq_getElem?_getD,<- hl]
  ·rw [if_neg c];unfold mget
   cases k:zaT ks y with
   | none=>rw [zaV.2 (fun h=>by
     rcases List.mem_append.1 h with h | h
     ·exact zaV.1 k h
     ·exact c (List.mem_singleton.1 h))]
   | some i=>
    have hi:=zes k;rw [zlN _ k];simp [List.getD_eq_getElem?_getD,List.getElem?_append_left (show i < vs.length by omega)]
theorem zjr {α:Type} {ks:List α} {x:α}:(!(mhas ks x))=true↔x∉ks:=by
 rw [<- zik];simp
section
variable {gc:Int} {gs:List Int} {ek:List Ed} {ev:List Kn}
noncomputable abbrev zco (ek:List Ed) (ev:List Kn) (e:Ed):Int:=(mget ek ev e D0).2.1
abbrev Nn (gs:List Int):Int:=(3+(gs.length:Int))+1
structure EOk (gs:List Int) (ek:List Ed) (ev:List Kn):Prop where
 short:gs.length<=3
 c:∀ e∈ek,0<=zco ek ev e/\zco ek ev e<=1099511627776
 to:∀ e∈ek,0<=e.2.2.1/\e.2.2.1 < Nn gs
 eps:gs.length=0->∀ e∈ek,e.1≠3
def XW (ek:List Ed) (ev:List Kn) (w:Kn) (s t:Int):Kn:=(t,imin (w.2.1+zco ek ev (w.1,s,t,())) 1099511627776,w.2.2.1++[(w.1,s,t,())],())
structure BI (ek:List Ed) (ev:List Kn) (s:Int) (P:Kn->Int->Prop) (bk:List Int) (bv:List Kn):Prop where
 len:bv.length=bk.length
 snd:∀ t∈bk,∃ w,P w t/\(w.1,s,t,())∈ek/\mget bk bv t D0=XW ek ev w s t
 cmp:∀ w t,P w t->(w.1,s,t,())∈ek->t∈bk/\(mget bk bv t D0).2.1<=(XW ek ev w s t).2.1
theorem BI.iff {s:Int} {P Q:Kn->Int->Prop} {bk:List Int} {bv:List Kn} (h:BI ek ev s P bk bv) (e:∀ w t,P w t↔Q w t):BI ek ev s Q bk bv:=by
 have:P=Q:=funext fun w=>funext fun t=>propext (e w t)
 exact this ▸ h
theorem BI.skip {s:Int} {P:Kn->Int->Prop} {bk:List Int} {bv:List Kn} (h:BI ek ev s P bk bv) {w:Kn} {t:Int} (hn:(w.1,s,t,())∈ek->t∈bk/\(mget bk bv t D0).2.1<=(XW ek ev w s t).2.1):BI ek ev s (fun x y=>P x y\/(x=w/\y=t)) bk bv:=
 ⟨h.len,fun t ht=>let ⟨w,a,b⟩:=h.snd t ht;⟨w,.inl a,b⟩,fun x y hp he=>by
  rcases hp with hp | ⟨rfl,rfl⟩
  ·exact h.cmp x y hp he
  ·exact hn he⟩
theorem BI.put {s:Int} {P:Kn->Int->Prop} {bk:List Int} {bv:List Kn} (h:BI ek ev s P bk bv) {w:Kn} {t:Int} (he:(w.1,s,t,())∈ek) (hb:t∈bk->(XW ek ev w s t).2.1<=(mget bk bv t D0).2.1):BI ek ev s (fun x y=>P x y\/(x=w/\y=t)) (zb5 bk t) (zcM bk bv t (XW ek ev w s t)):=by
 refine ⟨zv4 h.len,fun y hy => ?_,fun x y hp hxy => ?_⟩
 ·rw [zlR h.len];by_cases c:y=t
  ·subst c;rw [if_pos rfl];exact ⟨w,.inr ⟨rfl,rfl⟩,he,rfl⟩
  ·rw [if_neg c];obtain ⟨w',a,b⟩:=h.snd y ((ziH.1 hy).resolve_left c);exact ⟨w',.inl a,b⟩
 ·rw [zlR h.len];by_cases c:y=t
  ·subst c;rw [if_pos rfl];refine ⟨ziH.2 (.inl rfl),?_⟩
   rcases hp with hp | ⟨rfl,_⟩
   ·obtain ⟨a,b⟩:=h.cmp x y hp hxy;exact Int.le_trans (hb a) b
   ·exact Int.le_refl _
  ·rw [if_neg c];rcases hp with hp | ⟨_,rfl⟩
   ·obtain ⟨a,b⟩:=h.cmp x y hp hxy;exact ⟨ziH.2 (.inr a),b⟩
   ·exact absurd rfl c
theorem zwA {s:List Ed} (hs:s.length<=1000):zaw s=some s:=by
 have hr:G (room ([]:List Ed) s 24) (some (([]:List Ed)++s))=some s:=by
  rw [zdh (zwk (by simp;omega))];rfl
 unfold zaw;refine zvT (fun h => ?_) (fun h=>hr)
 obtain rfl:s=[]:=List.length_eq_zero_iff.1 h;rw [hr];exact zlq (ts:=[(.list (.pair (.int .i64) (.pair (.int .i64) (.pair (.int .i64) .unit))))]) (some ([]:List Ed))
theorem zxa (he:EOk gs ek ev) {signs:List Int} {t1 t2:Int} {r9} {w:Kn} (hw:0<=w.2.1/\w.2.1<=1099511627776/\w.2.2.1.length<=500):∀ (f:Nat) (t:Int) (bk:List Int) (bv:List Kn) (P:Kn->Int->Prop),(Nn gs - t).toNat=f->0<=t->t<=Nn gs -> -4<=t2->t2<=1000->BI ek ev (ix signs t1) P bk bv->
  ∃ bk' bv',zak signs t1 t2 r9 (Nn gs) gc gs ek ev w t bk bv=r9 (t2+1) gc gs bk' bv' ek ev/\BI ek ev (ix signs t1) (fun x y=>P x y\/(x=w/\t<=y/\y < Nn gs)) bk' bv':=by
 have hsh:=he.short;have hN:Nn gs=3+(gs.length:Int)+1:=rfl;intro f
 induction f with
 | zero=>
  intro t bk bv P hf t0 t1' u0 u1 h;refine ⟨bk,bv,?_,h.iff fun x y=>⟨.inl,fun h=>h.elim id (fun h=>by omega)⟩⟩
  rw [zde];unfold zax;rw [if_neg (by simp;omega)]
  exact G_to (by unfold fits;omega) rfl
 | succ f ih=>
  intro t bk bv P hf t0 t1' u0 u1 h;have fin:∀ {bk' bv'},BI ek ev (ix signs t1) (fun x y=>P x y\/(x=w/\y=t)) bk' bv'->∃ bk'' bv'',zak signs t1 t2 r9 (Nn gs) gc gs ek ev w (t+1) bk' bv'=r9 (t2+1) gc gs bk'' bv'' ek ev/\BI ek ev (ix signs t1) (fun x y=>P x y\/(x=w/\t<=y/\y < Nn gs)) bk'' bv'':=fun {bk' bv'} hh=>by
   obtain ⟨b1,b2,e,k⟩:=ih (t+1) bk' bv' _ (by omega) (by omega) (by omega) u0 u1 hh
   refine ⟨b1,b2,e,k.iff fun x y=>⟨fun h => ?_,fun h => ?_⟩⟩
   ·rcases h with (h | ⟨h1,h2⟩) | ⟨h1,h2,h3⟩
    ·exact .inl h
    ·exact .inr ⟨h1,by omega,by omega⟩
    ·exact .inr ⟨h1,by omega,h3⟩
   ·rcases h with h | ⟨h1,h2,h3⟩
    ·exact .inl (.inl h)
    ·by_cases c:y=t
     ·exact .inl (.inr ⟨h1,c⟩)
     ·exact .inr ⟨h1,by omega,h3⟩
  rw [zde];unfold zax;rw [if_pos (by simp;omega)]
  by_cases c:(w.1,ix signs t1,t,())∈ek
  ·obtain ⟨c0,c1⟩:0<=(mget ek ev (w.1,ix signs t1,t,()) ((0,(0,([],()))):Int×Int×(List (Int×Int×Int×Unit))×Unit)).2.1/\(mget ek ev (w.1,ix signs t1,t,()) ((0,(0,([],()))):Int×Int×(List (Int×Int×Int×Unit))×Unit)).2.1<=1099511627776:=he.c _ c;rw [if_neg (by rw [zjr];exact fun h=>h c),zdh (by unfold fits;omega)]
   have hc:zaw w.2.2.1=some w.2.2.1:=zwA (by omega)
   have hr:room w.2.2.1 [(w.1,ix signs t1,t,())] 24:=by unfold room;simp;omega
   by_cases hb:t∈bk/\(mget bk bv t D0).2.1<=(XW ek ev w (ix signs t1) t).2.1
   ·obtain ⟨b1,b2,e,k⟩:=fin (h.skip fun _=>hb)
    refine ⟨b1,b2,?_,k⟩
    have hJ:zab t bk bv (zak signs t1 t2 r9 (Nn gs) gc gs ek ev) w (XW ek ev w (ix signs t1) t).1 (XW ek ev w (ix signs t1) t).2.1 (XW ek ev w (ix signs t1) t).2.2.1=r9 (t2+1) gc gs b1 b2 ek ev:=by
     unfold zab;rw [if_neg (by rw [zjr];exact fun h=>h hb.1),if_neg (by rw [decide_eq_true_iff];exact Int.not_lt.2 hb.2)]
     exact G_to (by unfold fits;omega) e
    repeat' first | (with_reducible refine zaq ?_ ?_) | (with_reducible refine zai hc ?_) | (with_reducible refine G_to hr ?_)
    all_goals exact hJ
   ·have hb':t∈bk->(XW ek ev w (ix signs t1) t).2.1 < (mget bk bv t D0).2.1:=fun h=>Int.not_le.1 fun hh=>hb ⟨h,hh⟩
    obtain ⟨b1,b2,e,k⟩:=fin (h.put c (fun h=>Int.le_of_lt (hb' h)))
    refine ⟨b1,b2,?_,k⟩
    have hJ:zab t bk bv (zak signs t1 t2 r9 (Nn gs) gc gs ek ev) w (XW ek ev w (ix signs t1) t).1 (XW ek ev w (ix signs t1) t).2.1 (XW ek ev w (ix signs t1) t).2.2.1=r9 (t2+1) gc gs b1 b2 ek ev:=by
     unfold zab;by_cases ht:t∈bk
     ·rw [if_neg (by rw [zjr];exact fun h=>h ht),if_pos (by rw [decide_eq_true_iff];exact hb' ht)]
      exact G_to (by unfold fits;omega) e
     ·rw [if_pos (zjr.2 ht)];exact G_to (by unfold fits;omega) e
    repeat' first | (with_reducible refine zaq ?_ ?_) | (with_reducible refine zai hc ?_) | (with_reducible refine G_to hr ?_)
    all_goals exact hJ
  ·obtain ⟨b1,b2,e,k⟩:=fin (h.skip fun h=>absurd h c)
   rw [if_pos (zjr.2 c)];exact ⟨b1,b2,G_to (by unfold fits;omega) e,k⟩
def Bl (bk:List Int) (bv:List Kn):Nat->List Kn
 | 0=>[]
 | n+1=>Bl bk bv n++(open Classical in if (n:Int)∈bk then [mget bk bv (n:Int) D0] else [])
def Xs (gc:Int) (gs:List Int) (B:List Kn):List Kn:=B.flatMap fun w=>if gs.length=0/\w.1=gc then [w,(3+(gs.length:Int)+1 - 1,w.2.1,w.2.2.1,())] else [w]
theorem zp5 (B:List Kn):(Xs gc gs B).length<=2 * B.length:=by
 induction B with
 | nil=>simp [Xs]
 | cons b B ih=>
  unfold Xs at ih ⊢;rw [List.flatMap_cons,List.length_append,List.length_cons]
  split
  ·simp only [List.length_cons,List.length_nil];omega
  ·simp only [List.length_cons,List.length_nil];omega
theorem zxg (bk:List Int) (bv:List Kn):∀ n,(Bl bk bv n).length<=n
 | 0=>by simp [Bl]
 | n+1=>by
  have:=zxg bk bv n;unfold Bl;rw [List.length_append]
  split
  ·simp only [List.length_cons,List.length_nil];omega
  ·simp only [List.length_nil];omega
theorem ziz (he:EOk gs ek ev):zaP gc gs ek ev=some (Nn gs,gc,gs,ek,ev):=by
 have:=he.short;unfold zaP;exact G_to (by unfold fits;omega) (G_to (by unfold fits;omega) rfl)
theorem zfY (he:EOk gs ek ev):zal gc gs ek ev=some (Nn gs - 1,gc,gs,ek,ev):=by
 have:=he.short;have hN:Nn gs=3+(gs.length:Int)+1:=rfl;unfold zal;exact zai (ziz he) (G_to (by unfold fits;omega) rfl)
theorem zxb (he:EOk gs ek ev) {t1:Int} (ht:0<=t1/\t1<=1000) {r5} {bk:List Int} {bv:List Kn} (hbk:∀ t∈bk,(mget bk bv t D0).1=t):∀ (f n:Nat),(Nn gs).toNat - n=f->n<=(Nn gs).toNat->
  zao t1 r5 bk bv (Nn gs) (n:Int) gc gs ek ev (Xs gc gs (Bl bk bv n))=r5 (t1+1) gc gs (Xs gc gs (Bl bk bv (Nn gs).toNat)) ek ev:=by
 have hsh:=he.short;have hN:Nn gs=3+(gs.length:Int)+1:=rfl;intro f
 induction f with
 | zero=>
  intro n hf hn;obtain rfl:n=(Nn gs).toNat:=by omega
  rw [zdg];unfold zay;rw [if_neg (by simp;omega)]
  exact G_to (by unfold fits;omega) rfl
 | succ f ih=>
  intro n hf hn;have hX:=zp5 (gc:=gc) (gs:=gs) (Bl bk bv n);have hB:=zxg bk bv n;have ih':=ih (n+1) (by omega) (by omega)
  have hlast:zal gc gs ek ev=some (Nn gs - 1,gc,gs,ek,ev):=zfY he;rw [zdg];unfold zay;rw [if_pos (by simp;omega)]
  by_cases c:(n:Int)∈bk
  ·have h1:=hbk _ c;rw [if_pos (zik.2 c)];refine G_to (by unfold room;simp;omega) ?_
   have eB:Bl bk bv (n+1)=Bl bk bv n++[mget bk bv (n:Int) D0]:=by rw [Bl,if_pos c]
   rw [eB] at ih';have hrn:room (Xs gc gs (Bl bk bv n)++[((mget bk bv (n:Int) D0).1,(mget bk bv (n:Int) D0).2.1,(mget bk bv (n:Int) D0).2.2.1,())]) [(Nn gs - 1,(mget bk bv (n:Int) D0).2.1,(mget bk bv (n:Int) D0).2.2.1,())] 40:=by
    unfold room;rw [List.length_append];simp only [List.length_cons,List.length_nil];omega
   have one:∀ b:Bool,(b=true↔gs.length=0/\(n:Int)=gc)->zaJ bk bv (n:Int) gc gs ek ev (Xs gc gs (Bl bk bv n)) (zao t1 r5 bk bv (Nn gs)) b=r5 (t1+1) gc gs (Xs gc gs (Bl bk bv (Nn gs).toNat)) ek ev:=by
    intro b hb;unfold zaJ;by_cases cb:gs.length=0/\(n:Int)=gc
    ·rw [if_pos (hb.2 cb)];have eX:Xs gc gs (Bl bk bv n++[mget bk bv (n:Int) D0])=(Xs gc gs (Bl bk bv n)++[mget bk bv (n:Int) D0])++[(Nn gs - 1,(mget bk bv (n:Int) D0).2.1,(mget bk bv (n:Int) D0).2.2.1,())]:=by
      unfold Xs;rw [List.flatMap_append];simp only [List.flatMap_cons,List.flatMap_nil,List.append_nil];rw [if_pos ⟨cb.1,by rw [h1];exact cb.2⟩,List.append_assoc]
      rfl
     rw [eX] at ih';have hJ:zah (n:Int) (zao t1 r5 bk bv (Nn gs)) gc gs ((Xs gc gs (Bl bk bv n)++[mget bk bv (n:Int) D0])++[(Nn gs - 1,(mget bk bv (n:Int) D0).2.1,(mget bk bv (n:Int) D0).2.2.1,())]) ek ev=r5 (t1+1) gc gs (Xs gc gs (Bl bk bv (Nn gs).toNat)) ek ev:=by
      unfold zah;exact G_to (by unfold fits;omega) ih'
     repeat' first | (with_reducible refine zaq ?_ ?_) | (with_reducible refine zai hlast ?_) | (with_reducible refine G_to hrn ?_)
     all_goals exact hJ
    ·rw [if_neg (fun h=>cb (hb.1 h))]
     have eX:Xs gc gs (Bl bk bv n++[mget bk bv (n:Int) D0])=Xs gc gs (Bl bk bv n)++[mget bk bv (n:Int) D0]:=by
      unfold Xs;rw [List.flatMap_append];simp only [List.flatMap_cons,List.flatMap_nil,List.append_nil];rw [if_neg (fun h=>cb ⟨h.1,by rw [<- h1];exact h.2⟩)]
     rw [eX] at ih';unfold zah;exact G_to (by unfold fits;omega) ih'
   by_cases c2:(n:Int)=gc
   ·rw [if_pos (by simpa using c2)]
    exact one _ (by simp [c2])
   ·rw [if_neg (by simpa using c2)]
    exact one _ (by simp [c2])
  ·rw [if_neg (by rw [zik];exact c)]
   have eB:Bl bk bv (n+1)=Bl bk bv n:=by rw [Bl,if_neg c,List.append_nil]
   rw [eB] at ih';unfold zah;exact G_to (by unfold fits;omega) ih'
theorem zyK (he:EOk gs ek ev) {signs:List Int} {t1:Int} {r5} (ht:0<=t1/\t1<=1000) {W:List Kn} (hW:∀ w∈W,0<=w.2.1/\w.2.1<=1099511627776/\w.2.2.1.length<=500) (hl:W.length<=100):∃ bk bv,BI ek ev (ix signs t1) (fun x y=>x∈W/\0<=y/\y < Nn gs) bk bv/\
  zar signs t1 W r5 0 gc gs [] [] ek ev=r5 (t1+1) gc gs (Xs gc gs (Bl bk bv (Nn gs).toNat)) ek ev:=by
 have hsh:=he.short;have hN:Nn gs=3+(gs.length:Int)+1:=rfl;have key:∀ (f n:Nat) (bk:List Int) (bv:List Kn),W.length - n=f->n<=W.length->BI ek ev (ix signs t1) (fun x y=>x∈W.take n/\0<=y/\y < Nn gs) bk bv->∃ bk' bv',BI ek ev (ix signs t1) (fun x y=>x∈W/\0<=y/\y < Nn gs) bk' bv'/\zar signs t1 W r5 (n:Int) gc gs bk bv ek ev=r5 (t1+1) gc gs (Xs gc gs (Bl bk' bv' (Nn gs).toNat)) ek ev:=by
  intro f
  induction f with
  | zero=>
   intro n bk bv hf hn h;obtain rfl:n=W.length:=by omega
   rw [List.take_length] at h;refine ⟨bk,bv,h,?_⟩
   rw [zdv];unfold zaD;rw [if_neg (by simp)]
   refine zai (ziz he) ?_
   have:=zxb (gc:=gc) he ht (r5:=r5) (bk:=bk) (bv:=bv) (fun t ht=>by
    obtain ⟨w,_,_,e⟩:=h.snd t ht;rw [e];rfl) _ 0 rfl (by omega)
   exact this
  | succ f ih=>
   intro n bk bv hf hn h;have hm:=za7 (l:=W) (i:=(n:Int)) (by omega) (by omega)
   obtain ⟨b1,b2,e,k⟩:=zxa (gc:=gc) he (signs:=signs) (t1:=t1) (t2:=(n:Int)) (r9:=zar signs t1 W r5) (hW _ hm) _ 0 bk bv _ rfl (by omega) (by omega) (by omega) (by omega) h
   have et:=zoY (l:=W) (i:=(n:Int)) (by omega) (by omega)
   rw [Int.toNat_natCast,show ((n:Int)+1).toNat=n+1 from by omega] at et
   obtain ⟨b3,b4,k2,e2⟩:=ih (n+1) b1 b2 (by omega) (by omega) (k.iff fun x y=>by
    rw [et,List.mem_append,List.mem_singleton];constructor
    ·rintro (⟨h1,h2⟩ | ⟨h1,h2,h3⟩)
     ·exact ⟨.inl h1,h2⟩
     ·exact ⟨.inr h1,h2,h3⟩
    ·rintro ⟨h1 | h1,h2,h3⟩
     ·exact .inl ⟨h1,h2,h3⟩
     ·exact .inr ⟨h1,h2,h3⟩)
   refine ⟨b3,b4,k2,?_⟩
   rw [zdv];unfold zaD;rw [if_pos (by simp;omega)]
   refine G_to (by omega) (G_to (by omega) (zai (ziz he) ?_))
   exact e.trans e2
 exact key _ 0 [] [] rfl (by omega) ⟨rfl,fun t ht=>(by cases ht),fun w t hp _=>by simp at hp⟩
def Pth (ek:List Ed):Int->List Int->List Ed->Int->Prop
 | p,[],[],q=>p=q
 | p,s::w,e::o,q=>e.1=p/\e.2.1=s/\e∈ek/\Pth ek e.2.2.1 w o q
 | _,_,_,_=>False
def psum (ek:List Ed) (ev:List Kn) (o:List Ed):Int:=(o.map (zco ek ev)).sum
theorem zgP:psum ek ev []=0:=rfl
theorem zdB (e:Ed) (o:List Ed):psum ek ev (e::o)=zco ek ev e+psum ek ev o:=by unfold psum;simp
theorem zrn (a b:List Ed):psum ek ev (a++b)=psum ek ev a+psum ek ev b:=by unfold psum;simp
theorem Pth.len:∀ {w:List Int} {o:List Ed} {p q:Int},Pth ek p w o q->o.length=w.length
 | [],[],_,_,_=>rfl
 | _::w,_::o,_,_,h=>by rw [List.length_cons,List.length_cons,Pth.len h.2.2.2]
 | [],_::_,_,_,h=>h.elim
 | _::_,[],_,_,h=>h.elim
theorem Pth.app:∀ {w:List Int} {o:List Ed} {p q:Int},Pth ek p w o q->∀ {w':List Int} {o':List Ed} {r:Int},Pth ek q w' o' r->Pth ek p (w++w') (o++o') r
 | [],[],_,_,h,_,_,_,k=>by
  have h:_=_:=h;subst h;exact k
 | _::w,_::o,_,_,h,_,_,_,k=>⟨h.1,h.2.1,h.2.2.1,Pth.app h.2.2.2 k⟩
 | [],_::_,_,_,h,_,_,_,_=>h.elim
 | _::_,[],_,_,h,_,_,_,_=>h.elim
theorem Pth.split:∀ {w:List Int} {w':List Int} {o:List Ed} {p r:Int},Pth ek p (w++w') o r->∃ a b q,o=a++b/\Pth ek p w a q/\Pth ek q w' b r
 | [],_,o,p,_,h=>⟨[],o,p,rfl,rfl,h⟩
 | _::w,_,[],_,_,h=>h.elim
 | _::w,_,e::o,_,_,h=>by
  obtain ⟨a,b,q,e1,e2,e3⟩:=Pth.split (w:=w) h.2.2.2;exact ⟨e::a,b,q,by rw [e1];rfl,⟨h.1,h.2.1,h.2.2.1,e2⟩,e3⟩
theorem Pth.pos (he:EOk gs ek ev):∀ {w:List Int} {o:List Ed} {p q:Int},Pth ek p w o q->0<=psum ek ev o/\∀ e∈o,zco ek ev e<=psum ek ev o
 | [],[],_,_,_=>⟨Int.le_refl _,fun e h=>by cases h⟩
 | _::w,e::o,_,_,h=>by
  obtain ⟨h1,h2⟩:=Pth.pos he h.2.2.2;obtain ⟨c0,c1⟩:=he.c _ h.2.2.1;rw [zdB];refine ⟨by omega,fun x hx => ?_⟩
  rcases List.mem_cons.1 hx with rfl | hx
  ·omega
  ·have:=h2 x hx;omega
 | [],_::_,_,_,h=>h.elim
 | _::_,[],_,_,h=>h.elim
theorem Pth.mem:∀ {w:List Int} {o:List Ed} {p q:Int},Pth ek p w o q->∀ e∈o,e∈ek
 | [],[],_,_,_,e,h=>by cases h
 | _::w,a::o,_,_,h,e,he=>by
  rcases List.mem_cons.1 he with rfl | he
  ·exact h.2.2.1
  ·exact Pth.mem h.2.2.2 e he
 | [],_::_,_,_,h,_,_=>h.elim
 | _::_,[],_,_,h,_,_=>h.elim
theorem Pth.mono {ek':List Ed} (hm:∀ e∈ek,e∈ek'):∀ {w:List Int} {o:List Ed} {p q:Int},Pth ek p w o q->Pth ek' p w o q
 | [],[],_,_,h=>h
 | _::w,_::o,_,_,h=>⟨h.1,h.2.1,hm _ h.2.2.1,Pth.mono hm h.2.2.2⟩
 | [],_::_,_,_,h=>h.elim
 | _::_,[],_,_,h=>h.elim
structure WB (gs:List Int) (ek:List Ed) (ev:List Kn) (p:Int) (w:List Int) (B:List Kn):Prop where
 sort:B.Pairwise (fun a b=>a.1 < b.1)
 snd:∀ b∈B,0<=b.1/\b.1 < Nn gs/\Pth ek p w b.2.2.1 b.1/\b.2.1=imin (psum ek ev b.2.2.1) 1099511627776
 cmp:∀ o q,Pth ek p w o q->∃ b∈B,b.1=q/\b.2.1<=psum ek ev o
theorem zq8 (a b:Int):imin a b<=a/\imin a b<=b/\(imin a b=a\/imin a b=b):=by unfold imin;split<;>omega
theorem znf {B:List Kn} {x:Kn} (h:x∈Xs gc gs B):x∈B\/(gs.length=0/\x.1=3/\∃ b∈B,b.1=gc/\x.2.1=b.2.1/\x.2.2.1=b.2.2.1):=by
 unfold Xs at h;obtain ⟨b,hb,hx⟩:=List.mem_flatMap.1 h
 split at hx
 ·rename_i c;rcases List.mem_cons.1 hx with rfl | hx
  ·exact .inl hb
  ·rw [List.mem_singleton.1 hx];exact .inr ⟨c.1,by dsimp only;omega,b,hb,c.2,rfl,rfl⟩
 ·rw [List.mem_singleton.1 hx];exact .inl hb
theorem zxA {B:List Kn} {b:Kn} (h:b∈B):b∈Xs gc gs B:=by
 unfold Xs;refine List.mem_flatMap.2 ⟨b,h,?_⟩
 split<;>simp
theorem ztA {bk:List Int} {bv:List Kn}:∀ {n:Nat} {b:Kn},b∈Bl bk bv n↔∃ t:Int,0<=t/\t < n/\t∈bk/\b=mget bk bv t D0
 | 0,b=>by
  simp [Bl];intro t _ _;omega
 | n+1,b=>by
  rw [Bl,List.mem_append,ztA (n:=n)];constructor
  ·rintro (⟨t,h1,h2,h3⟩ | h)
   ·exact ⟨t,h1,by omega,h3⟩
   ·split at h
    ·rename_i c;exact ⟨n,by omega,by omega,c,List.mem_singleton.1 h⟩
    ·cases h
  ·rintro ⟨t,h1,h2,h3,h4⟩;by_cases c:t=n
   ·subst c;right
    rw [if_pos h3,h4];simp
   ·exact .inl ⟨t,h1,by omega,h3,h4⟩
theorem zuV {bk:List Int} {bv:List Kn} (hbk:∀ t∈bk,(mget bk bv t D0).1=t):∀ n:Nat,(Bl bk bv n).Pairwise (fun a b=>a.1 < b.1)
 | 0=>by simp [Bl]
 | n+1=>by
  rw [Bl,List.pairwise_append];refine ⟨zuV hbk n,by split<;>simp,fun a ha b hb => ?_⟩
  split at hb
  ·rename_i c;rw [List.mem_singleton.1 hb,hbk _ c];obtain ⟨t,h1,h2,h3,rfl⟩:=ztA.1 ha;rw [hbk _ h3];exact h2
  ·cases hb
theorem WB.next (he:EOk gs ek ev) {p s:Int} {w:List Int} {B:List Kn} (h:WB gs ek ev p w B) {bk:List Int} {bv:List Kn} (hb:BI ek ev s (fun x y=>x∈Xs gc gs B/\0<=y/\y < Nn gs) bk bv):WB gs ek ev p (w++[s]) (Bl bk bv (Nn gs).toNat):=by
 have hN:Nn gs=3+(gs.length:Int)+1:=rfl;have hbk:∀ t∈bk,(mget bk bv t D0).1=t:=fun t ht=>by
  obtain ⟨w,_,_,e⟩:=hb.snd t ht;rw [e];rfl
 refine ⟨zuV hbk _,fun b hm => ?_,fun o q ho => ?_⟩
 ·obtain ⟨t,t0,t1,t2,rfl⟩:=ztA.1 hm;obtain ⟨x,⟨x1,_⟩,x2,x3⟩:=hb.snd t t2;rw [x3];rcases znf x1 with x1 | ⟨g0,g1,_⟩
  ·obtain ⟨_,_,b3,b4⟩:=h.snd x x1;obtain ⟨c0,c1⟩:=he.c _ x2;obtain ⟨q0,_⟩:=b3.pos he;refine ⟨t0,by show t < _;omega,b3.app (w':=[s]) (o':=[(x.1,s,t,())]) ⟨rfl,rfl,x2,rfl⟩,?_⟩
   show imin (x.2.1+zco ek ev (x.1,s,t,())) 1099511627776=imin (psum ek ev (x.2.2.1++[(x.1,s,t,())])) 1099511627776;rw [zrn,zdB,zgP,b4];generalize psum ek ev x.2.2.1=A at *
   generalize zco ek ev (x.1,s,t,())=K at *
   unfold imin
   split<;>split<;>(try split)<;>omega
  ·exact absurd g1 (he.eps g0 _ x2)
 ·obtain ⟨a,b,r,rfl,h1,h2⟩:=Pth.split ho;obtain ⟨x,x1,x2,x3⟩:=h.cmp a r h1
  match b,h2 with
  | [e],h2=>
   obtain ⟨e1,e2,e3,e4⟩:=h2;have e4:e.2.2.1=q:=e4;have ee:e=(x.1,s,q,()):=by
    obtain ⟨a1,a2,a3,_⟩:=e;dsimp only at e1 e2 e4;rw [e1,e2,e4,x2]
   have hto:=he.to _ e3;rw [e4] at hto;rw [ee] at e3;obtain ⟨k1,k2⟩:=hb.cmp x q ⟨zxA x1,hto.1,hto.2⟩ e3;refine ⟨_,ztA.2 ⟨q,hto.1,by omega,k1,rfl⟩,hbk _ k1,?_⟩
   rw [zrn,zdB,zgP,ee];have:=(zq8 (x.2.1+zco ek ev (x.1,s,q,())) 1099511627776).1;have k2:(mget bk bv q D0).2.1<=imin (x.2.1+zco ek ev (x.1,s,q,())) 1099511627776:=k2;omega
theorem WB.bound (he:EOk gs ek ev) {p:Int} {w:List Int} {B:List Kn} (h:WB gs ek ev p w B):∀ x∈Xs gc gs B,0<=x.2.1/\x.2.1<=1099511627776/\x.2.2.1.length=w.length:=by
 have key:∀ b∈B,0<=b.2.1/\b.2.1<=1099511627776/\b.2.2.1.length=w.length:=fun b hb=>by
  obtain ⟨_,_,h3,h4⟩:=h.snd b hb;obtain ⟨q0,_⟩:=h3.pos he;rw [h4];have:=zq8 (psum ek ev b.2.2.1) 1099511627776;exact ⟨by omega,by omega,h3.len⟩
 intro x hx;rcases znf hx with hx | ⟨_,_,b,hb,_,e1,e2⟩
 ·exact key x hx
 ·rw [e1,e2];exact key b hb
theorem WB.len {p:Int} {w:List Int} {B:List Kn} (h:WB gs ek ev p w B):(B.length:Int)<=Nn gs:=by
 have hn:(B.map (fun b=>b.1)).Nodup:=by
  rw [List.Nodup,List.pairwise_map];exact h.sort.imp fun hab=>by omega
 have:=zmV (n:=(Nn gs).toNat) hn (fun x hx=>by
  obtain ⟨b,hb,rfl⟩:=List.mem_map.1 hx;obtain ⟨h1,h2,_⟩:=h.snd b hb;exact ⟨h1,by omega⟩)
 rw [List.length_map] at this;have hN:Nn gs=3+(gs.length:Int)+1:=rfl;omega
theorem zms (he:EOk gs ek ev) {p:Int} (hp:0<=p/\p < Nn gs) {w:List Int} (hw:w.length<=100):∃ B,WB gs ek ev p w B/\zaX p w gc gs ek ev=some (Xs gc gs B,gc,gs,ek,ev):=by
 have hN:Nn gs=3+(gs.length:Int)+1:=rfl;have hsh:=he.short;have key:∀ (f n:Nat) (B:List Kn),w.length - n=f->n<=w.length->WB gs ek ev p (w.take n) B->∃ B',WB gs ek ev p w B'/\zbj w (n:Int) gc gs (Xs gc gs B) ek ev=some (Xs gc gs B',gc,gs,ek,ev):=by
  intro f
  induction f with
  | zero=>
   intro n B hf hn h;obtain rfl:n=w.length:=by omega
   rw [List.take_length] at h;refine ⟨B,h,?_⟩
   rw [zdu];unfold zaC;rw [if_neg (by simp)]
  | succ f ih=>
   intro n B hf hn h;have hb:=h.bound (gc:=gc) he;have hl:=h.len;have hX:=zp5 (gc:=gc) (gs:=gs) B;obtain ⟨bk,bv,b1,b2⟩:=zyK (gc:=gc) he (signs:=w) (t1:=(n:Int)) (r5:=zbj w) (by omega) (W:=Xs gc gs B) (fun x hx=>by
    obtain ⟨h1,h2,h3⟩:=hb x hx;rw [List.length_take] at h3;exact ⟨h1,h2,by omega⟩) (by omega)
   have et:=zoY (l:=w) (i:=(n:Int)) (by omega) (by omega)
   rw [Int.toNat_natCast,show ((n:Int)+1).toNat=n+1 from by omega] at et
   have hnx:=h.next (gc:=gc) he b1;rw [<- et] at hnx;obtain ⟨B',k1,k2⟩:=ih (n+1) _ (by omega) (by omega) hnx
   refine ⟨B',k1,?_⟩
   rw [zdu];unfold zaC;rw [if_pos (by simp;omega)]
   exact G_to (by omega) (b2.trans k2)
 have h0:WB gs ek ev p (w.take 0) [(p,0,[],())]:=by
  refine ⟨by simp,fun b hb => ?_,fun o q ho => ?_⟩
  ·rw [List.mem_singleton.1 hb];exact ⟨hp.1,hp.2,rfl,by rw [zgP];rfl⟩
  ·rw [List.take_zero] at ho
   match o,ho with
   | [],ho=>exact ⟨_,List.mem_singleton.2 rfl,ho,by rw [zgP];exact Int.le_refl _⟩
 obtain ⟨B',k1,k2⟩:=key _ 0 _ rfl (by omega) h0
 refine ⟨B',k1,?_⟩
 have one:∀ b:Bool,(b=true↔gs.length=0/\p=gc)->zbQ p w gc gs ek ev b=some (Xs gc gs B',gc,gs,ek,ev):=by
  intro b hb;unfold zbQ;by_cases cb:gs.length=0/\p=gc
  ·rw [if_pos (hb.2 cb)];refine zai (zfY he) (G_to (by unfold room;simp) ?_)
   have eX:Xs gc gs [(p,0,[],())]=[(p,0,[],())]++[(Nn gs - 1,0,[],())]:=by
    unfold Xs;simp only [List.flatMap_cons,List.flatMap_nil,List.append_nil];rw [if_pos ⟨cb.1,cb.2⟩];rfl
   rw [eX] at k2;exact k2
  ·rw [if_neg (fun h=>cb (hb.1 h))]
   have eX:Xs gc gs [(p,0,[],())]=[(p,0,[],())]:=by
    unfold Xs;simp only [List.flatMap_cons,List.flatMap_nil,List.append_nil];rw [if_neg (fun h=>cb ⟨h.1,h.2⟩)]
   rw [eX] at k2;exact k2
 unfold zaX;by_cases c:gs.length=0
 ·rw [if_pos (by simp [c])]
  exact one _ (by simp [c])
 ·rw [if_neg (by rw [decide_eq_true_iff];omega)]
  exact one _ (by simp only [Bool.false_eq_true,c,false_and])
end
abbrev Rl:=Int×Int×Int×List Int×Unit
structure RlOk (r:Rl):Prop where
 a:0<=r.1/\r.1<=2
 b:0<=r.2.1/\r.2.1<=2
 c:0<=r.2.2.1/\r.2.2.1<=2
 n:r.2.2.2.1.length<=2
 p:∀ s∈r.2.2.2.1,0<=s/\s<=2
structure LOk (l:List Rl):Prop where
 n:l.length<=8
 r:∀ r∈l,RlOk r
structure GOk (gc:Int) (gs:List Int):Prop where
 c:0<=gc/\gc<=2
 n:gs.length<=3
 s:∀ s∈gs,0<=s/\s<=2
section
variable {l:List Rl} {gc:Int} {gs:List Int} {ek:List Ed} {ev:List Kn}
def GE (gc:Int) (gs:List Int) (e:Ed):Prop:=(∃ i:Int,0<=i/\i < gs.length/\e=(3+i,ix gs i,3+i+1,()))\/(gs.length≠0/\e=(gc,ix gs 0,3+0+1,()))
structure KOk (l:List Rl) (gc:Int) (gs:List Int) (ek:List Ed) (ev:List Kn) (e:Ed) (k:Int):Prop where
 k0:0<=k
 k1:k < l.length
 v:(mget ek ev e D0).1=k
 a:e.1=(ix l k).1
 b:e.2.1=(ix l k).2.1
 to:0<=e.2.2.1/\e.2.2.1 < Nn gs
 c:1<=zco ek ev e/\zco ek ev e<=1099511627776
 p:∃ q,Pth ek (ix l k).2.2.1 (ix l k).2.2.2.1 (mget ek ev e D0).2.2.1 q/\(q=e.2.2.1\/gs.length=0/\q=gc/\e.2.2.1=3)/\imin (1+psum ek ev (mget ek ev e D0).2.2.1) 1099511627776<=zco ek ev e
structure FI (l:List Rl) (gc:Int) (gs:List Int) (ek:List Ed) (ev:List Kn):Prop where
 len:ev.length=ek.length
 ge:∀ e,GE gc gs e->e∈ek/\mget ek ev e D0=(-1,0,[],())
 ok:∀ e∈ek,GE gc gs e\/∃ k,KOk l gc gs ek ev e k
theorem FI.eok (hl:LOk l) (hg:GOk gc gs) (h:FI l gc gs ek ev):EOk gs ek ev:=by
 have hN:Nn gs=3+(gs.length:Int)+1:=rfl;refine ⟨hg.n,fun e he => ?_,fun e he => ?_,fun h0 e he => ?_⟩
 ·rcases h.ok e he with g | ⟨k,g⟩
  ·have:zco ek ev e=0:=by unfold zco;rw [(h.ge e g).2]
   omega
  ·have:=g.c;omega
 ·rcases h.ok e he with (⟨i,i0,i1,rfl⟩ | ⟨g,rfl⟩) | ⟨k,g⟩
  ·dsimp only;omega
  ·dsimp only;omega
  ·exact g.to
 ·rcases h.ok e he with (⟨i,i0,i1,rfl⟩ | ⟨g,rfl⟩) | ⟨k,g⟩
  ·omega
  ·exact absurd h0 g
  ·have:=(hl.r _ (za7 g.k0 g.k1)).a;have:=g.a;omega
def Imp (ek:List Ed) (ev:List Kn) (ek':List Ed) (ev':List Kn):Prop:=∀ e∈ek,e∈ek'/\zco ek' ev' e<=zco ek ev e
theorem Imp.refl:Imp ek ev ek ev:=fun e he=>⟨he,Int.le_refl _⟩
theorem Imp.trans {ek1 ek2:List Ed} {ev1 ev2:List Kn} (h:Imp ek ev ek1 ev1) (k:Imp ek1 ev1 ek2 ev2):Imp ek ev ek2 ev2:=fun e he=>⟨(k e (h e he).1).1,Int.le_trans (k e (h e he).1).2 (h e he).2⟩
theorem Imp.psum {ek':List Ed} {ev':List Kn} (h:Imp ek ev ek' ev'):∀ {o:List Ed},(∀ e∈o,e∈ek)->psum ek' ev' o<=psum ek ev o
 | [],_=>Int.le_refl _
 | e::o,ho=>by
  have h1:=(h e (ho e (by simp))).2
  have h2:=Imp.psum h (o:=o) (fun x hx=>ho x (by simp [hx]))
  rw [zdB,zdB];omega
def Un:List Ed:=(List.range 3).flatMap fun p:Nat=>(List.range 3).flatMap fun s:Nat=>(List.range 7).map fun q:Nat=>((p:Int),(s:Int),(q:Int),())
theorem zyO {p s q:Int} (hp:0<=p/\p<=2) (hs:0<=s/\s<=2) (hq:0<=q/\q<=6):(p,s,q,())∈Un:=by
 unfold Un;refine List.mem_flatMap.2 ⟨p.toNat,List.mem_range.2 (by omega),List.mem_flatMap.2 ⟨s.toNat,List.mem_range.2 (by omega),List.mem_map.2 ⟨q.toNat,List.mem_range.2 (by omega),?_⟩⟩⟩
 rw [Int.toNat_of_nonneg hp.1,Int.toNat_of_nonneg hs.1,Int.toNat_of_nonneg hq.1]
theorem zxu {α:Type} {f g:α->Nat}:∀ {U:List α},(∀ x∈U,f x<=g x)->(U.map f).sum<=(U.map g).sum
 | [],_=>Nat.le_refl _
 | a::U,h=>by
  have h1:=h a (by simp)
  have h2:=zxu (U:=U) (fun x hx=>h x (by simp [hx]))
  simp only [List.map_cons,List.sum_cons];omega
theorem zxv {α:Type} {f g:α->Nat}:∀ {U:List α},(∀ x∈U,f x<=g x)->(∃ x∈U,f x < g x)->(U.map f).sum < (U.map g).sum
 | [],_,h=>by obtain ⟨x,hx,_⟩:=h;cases hx
 | a::U,h,⟨x,hx,hlt⟩=>by
  have h1:=h a (by simp)
  have h2:=zxu (U:=U) (fun x hx=>h x (by simp [hx]))
  simp only [List.map_cons,List.sum_cons];rcases List.mem_cons.1 hx with rfl | hx
  ·omega
  ·have:=zxv (U:=U) (fun x hx=>h x (by simp [hx])) ⟨x,hx,hlt⟩
   omega
open Classical in
def mw (ek:List Ed) (ev:List Kn) (e:Ed):Nat:=if e∈ek then (zco ek ev e).toNat else 1099511627777
def mm (ek:List Ed) (ev:List Kn):Nat:=(Un.map (mw ek ev)).sum
theorem zvN (hl:ev.length=ek.length) {e:Ed} {v:Kn} (hv:e∈ek->v.2.1 < zco ek ev e):Imp ek ev (zb5 ek e) (zcM ek ev e v):=fun x hx=>by
 refine ⟨ziH.2 (.inr hx),?_⟩
 unfold zco at hv ⊢;rw [zlR hl];by_cases c:x=e
 ·subst c;rw [if_pos rfl];exact Int.le_of_lt (hv hx)
 ·rw [if_neg c];exact Int.le_refl _
theorem zy2 (hl:ev.length=ek.length) {e:Ed} {v:Kn} (he:e∈Un) (h0:0<=v.2.1/\v.2.1<=1099511627776) (hv:e∈ek->v.2.1 < zco ek ev e):mm (zb5 ek e) (zcM ek ev e v) < mm ek ev:=by
 have hd:mw (zb5 ek e) (zcM ek ev e v) e=v.2.1.toNat:=by
  unfold mw zco;rw [if_pos (ziH.2 (.inl rfl)),zlR hl,if_pos rfl]
 have hlt:mw (zb5 ek e) (zcM ek ev e v) e < mw ek ev e:=by
  rw [hd];unfold mw;by_cases c:e∈ek
  ·rw [if_pos c];have:=hv c;omega
  ·rw [if_neg c];omega
 refine zxv (fun x _ => ?_) ⟨e,he,hlt⟩
 by_cases c:x=e
 ·subst c;omega
 ·have hh:(x∈zb5 ek e)↔x∈ek:=⟨fun h=>(ziH.1 h).resolve_left c,fun h=>ziH.2 (.inr h)⟩
  unfold mw zco;rw [zlR hl,if_neg c];by_cases d:x∈ek
  ·rw [if_pos d,if_pos (hh.2 d)];exact Nat.le_refl _
  ·rw [if_neg d,if_neg (fun h=>d (hh.1 h))];exact Nat.le_refl _
theorem zxX {a b:Int} (h:a<=b) (h0:0<=b):imin (1+a) 1099511627776<=imin (imin b 1099511627776+1) 1099511627776:=by
 unfold imin
 split<;>split<;>(try split)<;>omega
theorem FI.put (h:FI l gc gs ek ev) {ek0:List Ed} {ev0:List Kn} (he0:EOk gs ek0 ev0) (hi:Imp ek0 ev0 ek ev) {k:Int} (k0:0<=k) (k1:k < l.length) {B:List Kn} (hB:WB gs ek0 ev0 (ix l k).2.2.1 (ix l k).2.2.2.1 B) {x:Kn} (hx:x∈Xs gc gs B)
  (hv:((ix l k).1,(ix l k).2.1,x.1,())∈ek->x.2.1+1 < zco ek ev ((ix l k).1,(ix l k).2.1,x.1,())):
  FI l gc gs (zb5 ek ((ix l k).1,(ix l k).2.1,x.1,())) (zcM ek ev ((ix l k).1,(ix l k).2.1,x.1,()) (k,imin (x.2.1+1) 1099511627776,x.2.2.1,())):=by
 have hN:Nn gs=3+(gs.length:Int)+1:=rfl;obtain ⟨x0,x1,_⟩:=hB.bound (gc:=gc) he0 x hx;have hmin:=zq8 (x.2.1+1) 1099511627776;have hI:Imp ek ev (zb5 ek ((ix l k).1,(ix l k).2.1,x.1,())) (zcM ek ev ((ix l k).1,(ix l k).2.1,x.1,()) (k,imin (x.2.1+1) 1099511627776,x.2.2.1,())):=zvN h.len (fun hm=>by
  have:=hv hm;show imin (x.2.1+1) 1099511627776 < _;omega)
 refine ⟨zv4 h.len,fun e hg => ?_,fun e he => ?_⟩
 ·obtain ⟨g1,g2⟩:=h.ge e hg;refine ⟨ziH.2 (.inr g1),?_⟩
  rw [zlR h.len,if_neg ?_,g2];rintro rfl;have:=hv g1;unfold zco at this;rw [g2] at this;dsimp only at this;omega
 ·by_cases c:e=((ix l k).1,(ix l k).2.1,x.1,())
  ·right
   have eg:mget (zb5 ek ((ix l k).1,(ix l k).2.1,x.1,())) (zcM ek ev ((ix l k).1,(ix l k).2.1,x.1,()) (k,imin (x.2.1+1) 1099511627776,x.2.2.1,())) e D0=(k,imin (x.2.1+1) 1099511627776,x.2.2.1,()):=by rw [zlR h.len,if_pos c]
   have pth:∀ b∈B,b.2.1=x.2.1->b.2.2.1=x.2.2.1->Pth (zb5 ek ((ix l k).1,(ix l k).2.1,x.1,())) (ix l k).2.2.1 (ix l k).2.2.2.1 x.2.2.1 b.1/\imin (1+psum (zb5 ek ((ix l k).1,(ix l k).2.1,x.1,())) (zcM ek ev ((ix l k).1,(ix l k).2.1,x.1,()) (k,imin (x.2.1+1) 1099511627776,x.2.2.1,())) x.2.2.1) 1099511627776<=imin (x.2.1+1) 1099511627776:=fun b hb e1 e2=>by
    obtain ⟨_,_,b3,b4⟩:=hB.snd b hb;rw [e2] at b3 b4;refine ⟨b3.mono (fun e he=>(hI e (hi e he).1).1),?_⟩
    have p1:=(hi.trans hI).psum (o:=x.2.2.1) b3.mem;obtain ⟨q0,_⟩:=b3.pos he0;have:=zxX p1 q0;rw [<- b4,e1] at this;exact this
   have to:0<=x.1/\x.1 < Nn gs:=by
    rcases znf hx with hx | ⟨g0,g1,_⟩
    ·obtain ⟨b1,b2,_⟩:=hB.snd x hx;exact ⟨b1,b2⟩
    ·omega
   refine ⟨k,k0,k1,by rw [eg],by rw [c],by rw [c],by rw [c];exact to,by unfold zco;rw [eg];dsimp only;omega,?_⟩
   unfold zco;rw [eg,c];dsimp only;rcases znf hx with hx | ⟨g0,g1,b,hb,e0,e1,e2⟩
   ·obtain ⟨p1,p2⟩:=pth x hx rfl rfl;exact ⟨_,p1,.inl rfl,p2⟩
   ·obtain ⟨p1,p2⟩:=pth b hb e1.symm e2.symm;exact ⟨_,p1,.inr ⟨g0,e0,g1⟩,p2⟩
  ·have he':=(ziH.1 he).resolve_left c;rcases h.ok e he' with g | ⟨j,g⟩
   ·exact .inl g
   ·right
    have eg:mget (zb5 ek ((ix l k).1,(ix l k).2.1,x.1,())) (zcM ek ev ((ix l k).1,(ix l k).2.1,x.1,()) (k,imin (x.2.1+1) 1099511627776,x.2.2.1,())) e D0=mget ek ev e D0:=by rw [zlR h.len,if_neg c]
    obtain ⟨q,p1,p2,p3⟩:=g.p;refine ⟨j,g.k0,g.k1,by rw [eg];exact g.v,g.a,g.b,g.to,by unfold zco;rw [eg];exact g.c,q,by rw [eg];exact p1.mono (fun e he=>(hI e he).1),p2,?_⟩
    have:=hI.psum p1.mem;unfold zco at p3 ⊢;rw [eg];refine Int.le_trans ?_ p3
    generalize psum ek ev (mget ek ev e D0).2.2.1=A at *
    generalize psum (zb5 ek ((ix l k).1,(ix l k).2.1,x.1,())) (zcM ek ev ((ix l k).1,(ix l k).2.1,x.1,()) (k,imin (x.2.1+1) 1099511627776,x.2.2.1,())) (mget ek ev e D0).2.2.1=A' at *
    unfold imin
    split<;>split<;>omega
def Cl (l:List Rl) (gc:Int) (gs:List Int) (ek:List Ed) (ev:List Kn) (k:Int):Prop:=∃ B,WB gs ek ev (ix l k).2.2.1 (ix l k).2.2.2.1 B/\∀ x∈Xs gc gs B,((ix l k).1,(ix l k).2.1,x.1,())∈ek/\zco ek ev ((ix l k).1,(ix l k).2.1,x.1,())<=x.2.1+1
theorem zvL (hl:LOk l) (hg:GOk gc gs) {ek0:List Ed} {ev0:List Kn} (he0:EOk gs ek0 ev0) {k:Int} (k0:0<=k) (k1:k < l.length) {B:List Kn} (hB:WB gs ek0 ev0 (ix l k).2.2.1 (ix l k).2.2.2.1 B) {r14}:∀ (f n:Nat) (again:Bool) (ek:List Ed) (ev:List Kn),(Xs gc gs B).length - n=f->n<=(Xs gc gs B).length->FI l gc gs ek ev->Imp ek0 ev0 ek ev->
  ∃ ek' ev' again',zbC l k r14 (Xs gc gs B) again (n:Int) gc gs ek ev=r14 again' (k+1) gc gs ek' ev'/\FI l gc gs ek' ev'/\mm ek' ev'<=mm ek ev/\((again'=true/\(again=true\/mm ek' ev' < mm ek ev))\/(again'=false/\again=false/\ek'=ek/\ev'=ev/\∀ j:Int,n<=j->j < (Xs gc gs B).length->((ix l k).1,(ix l k).2.1,(ix (Xs gc gs B) j).1,())∈ek/\zco ek ev ((ix l k).1,(ix l k).2.1,(ix (Xs gc gs B) j).1,())<=(ix (Xs gc gs B) j).2.1+1)):=by
 have hN:Nn gs=3+(gs.length:Int)+1:=rfl;have hll:=hl.n;have hgn:=hg.n;have hXl:=zp5 (gc:=gc) (gs:=gs) B;have hBl:=hB.len;intro f
 induction f with
 | zero=>
  intro n again ek ev hf hn h hi;refine ⟨ek,ev,again,?_,h,Nat.le_refl _,?_⟩
  ·rw [zeD];unfold za6;rw [if_neg (by simp;omega)]
   exact G_to (by unfold fits;omega) rfl
  ·cases again with
   | true=>exact .inl ⟨rfl,.inl rfl⟩
   | false=>exact .inr ⟨rfl,rfl,rfl,rfl,fun j j0 j1=>by omega⟩
 | succ f ih=>
  intro n again ek ev hf hn h hi;have hm:=za7 (l:=Xs gc gs B) (i:=(n:Int)) (by omega) (by omega)
  obtain ⟨x,ex⟩:∃ x,ix (Xs gc gs B) (n:Int)=x:=⟨_,rfl⟩;rw [ex] at hm;obtain ⟨x0,x1,_⟩:=hB.bound (gc:=gc) he0 x hm;have hr:=hl.r _ (za7 k0 k1);have hto:0<=x.1/\x.1 < Nn gs:=by
   rcases znf hm with hx | ⟨g0,g1,_⟩
   ·obtain ⟨b1,b2,_⟩:=hB.snd x hx;exact ⟨b1,b2⟩
   ·omega
  by_cases c:((ix l k).1,(ix l k).2.1,x.1,())∈ek/\zco ek ev ((ix l k).1,(ix l k).2.1,x.1,())<=x.2.1+1
  ·obtain ⟨ek',ev',ag',e1,e2,e3,e4⟩:=ih (n+1) again ek ev (by omega) (by omega) h hi
   refine ⟨ek',ev',ag',?_,e2,e3,?_⟩
   ·rw [zeD];unfold za6;rw [if_pos (by simp;omega),ex]
    refine G_to (by omega) (G_to (by omega) (G_to (by unfold fits;omega) ?_))
    rw [if_neg (by rw [zjr];exact fun h=>h c.1)]
    unfold zbA zcd;rw [if_neg (by rw [decide_eq_true_iff];exact Int.not_lt.2 c.2)]
    exact G_to (by unfold fits;omega) e1
   ·rcases e4 with e4 | ⟨a1,a2,a3,a4,a5⟩
    ·exact .inl e4
    ·refine .inr ⟨a1,a2,a3,a4,fun j j0 j1 => ?_⟩
     by_cases d:j=n
     ·rw [d,ex];exact c
     ·exact a5 j (by omega) j1
  ·have hv:((ix l k).1,(ix l k).2.1,x.1,())∈ek->x.2.1+1 < zco ek ev ((ix l k).1,(ix l k).2.1,x.1,()):=fun hh=>Int.not_le.1 fun h2=>c ⟨hh,h2⟩
   have hmin:=zq8 (x.2.1+1) 1099511627776;have hv':((ix l k).1,(ix l k).2.1,x.1,())∈ek->((k,imin (x.2.1+1) 1099511627776,x.2.2.1,()):Kn).2.1 < zco ek ev ((ix l k).1,(ix l k).2.1,x.1,()):=fun hh=>by
    have:=hv hh;dsimp only;omega
   have hI:=zvN h.len hv';have hmm:=zy2 h.len (zyO hr.a hr.b ⟨hto.1,by omega⟩) (by dsimp only;omega) hv'
   obtain ⟨ek',ev',ag',e1,e2,e3,e4⟩:=ih (n+1) true _ _ (by omega) (by omega) (h.put he0 hi k0 k1 hB hm hv) (hi.trans hI)
   refine ⟨ek',ev',ag',?_,e2,by omega,?_⟩
   ·rw [zeD];unfold za6;rw [if_pos (by simp;omega),ex]
    refine G_to (by omega) (G_to (by omega) (G_to (by unfold fits;omega) ?_))
    have fin:∀ b:Bool,b=true->zbA l k (Xs gc gs B) again (n:Int) gc gs ek ev (zbC l k r14 (Xs gc gs B)) b=r14 ag' (k+1) gc gs ek' ev':=fun b hb=>by
     unfold zbA zcd;rw [if_pos hb,ex];exact G_to (by unfold fits;omega) e1
    by_cases d:((ix l k).1,(ix l k).2.1,x.1,())∈ek
    ·rw [if_neg (by rw [zjr];exact fun h=>h d)]
     exact fin _ (by rw [decide_eq_true_iff];exact hv d)
    ·rw [if_pos (zjr.2 d)];exact fin _ rfl
   ·rcases e4 with ⟨a1,_⟩ | ⟨_,a2,_⟩
    ·exact .inl ⟨a1,.inr (by omega)⟩
    ·cases a2
theorem zvK (hl:LOk l) (hg:GOk gc gs) {r11}:∀ (f n:Nat) (again:Bool) (ek:List Ed) (ev:List Kn),l.length - n=f->n<=l.length->FI l gc gs ek ev->
  ∃ ek' ev' again',zbB l r11 again (n:Int) gc gs ek ev=r11 again' gc gs ek' ev'/\FI l gc gs ek' ev'/\mm ek' ev'<=mm ek ev/\((again'=true/\(again=true\/mm ek' ev' < mm ek ev))\/(again'=false/\again=false/\ek'=ek/\ev'=ev/\∀ j:Int,n<=j->j < l.length->Cl l gc gs ek ev j)):=by
 have hN:Nn gs=3+(gs.length:Int)+1:=rfl;intro f
 induction f with
 | zero=>
  intro n again ek ev hf hn h;refine ⟨ek,ev,again,?_,h,Nat.le_refl _,?_⟩
  ·rw [zhb];unfold zbt;rw [if_neg (by simp;omega)]
  ·cases again with
   | true=>exact .inl ⟨rfl,.inl rfl⟩
   | false=>exact .inr ⟨rfl,rfl,rfl,rfl,fun j j0 j1=>by omega⟩
 | succ f ih=>
  intro n again ek ev hf hn h;have he:=h.eok hl hg;have hr:=hl.r _ (za7 (l:=l) (i:=(n:Int)) (by omega) (by omega))
  obtain ⟨c0,c1⟩:=hr.c;have hrn:=hr.n;obtain ⟨B,hB,hw⟩:=zms (gc:=gc) he (p:=(ix l (n:Int)).2.2.1) (by omega) (w:=(ix l (n:Int)).2.2.2.1) (by omega)
  obtain ⟨ek1,ev1,ag1,e1,e2,e3,e4⟩:=zvL hl hg he (k:=(n:Int)) (by omega) (by omega) hB (r14:=zbB l r11) _ 0 again ek ev rfl (by omega) h Imp.refl
  obtain ⟨ek',ev',ag',f1,f2,f3,f4⟩:=ih (n+1) ag1 ek1 ev1 (by omega) (by omega) e2
  refine ⟨ek',ev',ag',?_,f2,by omega,?_⟩
  ·rw [zhb];unfold zbt;rw [if_pos (by simp;omega)]
   exact G_to (by omega) (zai hw (e1.trans f1))
  ·rcases f4 with ⟨a1,a2⟩ | ⟨a1,a2,a3,a4,a5⟩
   ·refine .inl ⟨a1,?_⟩
    rcases a2 with a2 | a2
    ·rcases e4 with ⟨_,b2⟩ | ⟨b1,_⟩
     ·rcases b2 with b2 | b2
      ·exact .inl b2
      ·exact .inr (by omega)
     ·rw [b1] at a2;cases a2
    ·exact .inr (by omega)
   ·rcases e4 with ⟨b1,_⟩ | ⟨b1,b2,b3,b4,b5⟩
    ·rw [b1] at a2;cases a2
    ·subst b3 b4;refine .inr ⟨a1,b2,a3,a4,fun j j0 j1 => ?_⟩
     by_cases d:j=n
     ·subst d;refine ⟨B,hB,fun x hx => ?_⟩
      obtain ⟨i,i0,i1,rfl⟩:=(zej (P:=fun y=>y=x)).1 ⟨x,hx,rfl⟩
      exact b5 i (by omega) i1
     ·exact a5 j (by omega) j1
theorem zvJ (hl:LOk l) (hg:GOk gc gs):∀ (m:Nat) (ek:List Ed) (ev:List Kn),mm ek ev=m->FI l gc gs ek ev->∃ ek' ev',zce l true gc gs ek ev=some (gc,gs,ek',ev')/\FI l gc gs ek' ev'/\∀ j:Int,0<=j->j < l.length->Cl l gc gs ek' ev' j:=by
 intro m
 induction m using Nat.strongRecOn with
 | ind m ih=>
  intro ek ev hm h;obtain ⟨ek1,ev1,ag,e1,e2,e3,e4⟩:=zvK hl hg (r11:=zce l) _ 0 false ek ev rfl (by omega) h
  have st:zce l true gc gs ek ev=zce l ag gc gs ek1 ev1:=by
   rw [zg9];unfold zbs;rw [if_pos rfl];exact e1
  rcases e4 with ⟨a1,a2⟩ | ⟨a1,_,a3,a4,a5⟩
  ·have a2:=a2.resolve_left (by simp)
   subst a1;obtain ⟨ek',ev',f1,f2,f3⟩:=ih _ (by omega) ek1 ev1 rfl e2
   exact ⟨ek',ev',st.trans f1,f2,f3⟩
  ·subst a1 a3 a4;refine ⟨ek1,ev1,st.trans ?_,e2,fun j j0 j1=>a5 j (by omega) j1⟩
   rw [zg9];unfold zbs;rw [if_neg (by simp)]
theorem zux (hl:LOk l) (hg:GOk gc gs):∃ ek ev,zgt l (gc,gs,())=some (gc,gs,ek,ev)/\FI l gc gs ek ev/\∀ j:Int,0<=j->j < l.length->Cl l gc gs ek ev j:=by
 have hgn:=hg.n;have key:∀ (f n:Nat) (ek:List Ed) (ev:List Kn),gs.length - n=f->n<=gs.length->ev.length=ek.length->(∀ e,e∈ek↔(∃ i:Int,0<=i/\i < n/\e=(3+i,ix gs i,3+i+1,()))\/(n≠0/\e=(gc,ix gs 0,3+0+1,())))->(∀ e∈ek,mget ek ev e D0=(-1,0,[],()))->
   ∃ ek' ev',zdI l (gc,gs,()) (n:Int) gc gs ek ev=some (gc,gs,ek',ev')/\FI l gc gs ek' ev'/\∀ j:Int,0<=j->j < l.length->Cl l gc gs ek' ev' j:=by
  intro f
  induction f with
  | zero=>
   intro n ek ev hf hn hlen hk hv;obtain rfl:n=gs.length:=by omega
   rw [zid];unfold zbK;rw [if_neg (by simp)]
   exact zvJ hl hg _ ek ev rfl ⟨hlen,fun e he=>⟨(hk e).2 he,hv e ((hk e).2 he)⟩,fun e he => .inl ((hk e).1 he)⟩
  | succ f ih=>
   intro n ek ev hf hn hlen hk hv;have put:∀ {ks:List Ed} {vs:List Kn} {e:Ed},vs.length=ks.length->(∀ x∈ks,mget ks vs x D0=(-1,0,[],()))->(zcM ks vs e ((-1,0,[],()):Kn)).length=(zb5 ks e).length/\∀ x∈zb5 ks e,mget (zb5 ks e) (zcM ks vs e ((-1,0,[],()):Kn)) x D0=(-1,0,[],()):=fun {ks vs e} h1 h2=>by
    refine ⟨zv4 h1,fun x hx => ?_⟩
    rw [zlR h1];by_cases c:x=e
    ·rw [if_pos c]
    ·rw [if_neg c];exact h2 x ((ziH.1 hx).resolve_left c)
   have fin:∀ {ks:List Ed} {vs:List Kn},vs.length=ks.length->(∀ x∈ks,mget ks vs x D0=(-1,0,[],()))->(∀ e,e∈ks↔(∃ i:Int,0<=i/\i < n/\e=(3+i,ix gs i,3+i+1,()))\/e=(gc,ix gs 0,3+0+1,()))->
     ∃ ek' ev',zcz (gc,gs,()) (n:Int) (zdI l (gc,gs,())) gc gs ks vs=some (gc,gs,ek',ev')/\FI l gc gs ek' ev'/\∀ j:Int,0<=j->j < l.length->Cl l gc gs ek' ev' j:=fun {ks vs} h1 h2 h3=>by
    obtain ⟨p1,p2⟩:=put (e:=(3+(n:Int),ix gs (n:Int),3+(n:Int)+1,())) h1 h2;obtain ⟨ek',ev',e1,e2⟩:=ih (n+1) _ _ (by omega) (by omega) p1 (fun e=>by
     rw [ziH,h3];constructor
     ·rintro (rfl | ⟨i,i0,i1,rfl⟩ | rfl)
      ·exact .inl ⟨n,by omega,by omega,rfl⟩
      ·exact .inl ⟨i,i0,by omega,rfl⟩
      ·exact .inr ⟨by omega,rfl⟩
     ·rintro (⟨i,i0,i1,rfl⟩ | ⟨_,rfl⟩)
      ·by_cases c:i=n
       ·exact .inl (by rw [c])
       ·exact .inr (.inl ⟨i,i0,by omega,rfl⟩)
      ·exact .inr (.inr rfl)) p2
    refine ⟨ek',ev',?_,e2⟩
    unfold zcz;exact G_to (by unfold fits;omega) (G_to (by unfold fits;omega) e1)
   rw [zid];unfold zbK;rw [if_pos (by simp;omega),zdh (by dsimp only;omega),zdh (by unfold fits;omega)]
   by_cases c:n=0
   ·subst c;rw [if_pos (by simp),zdh (by unfold fits;simp)]
    obtain ⟨p1,p2⟩:=put (e:=(gc,ix gs 0,3+0+1,())) hlen hv;exact fin p1 p2 (fun e=>by
     rw [ziH,hk];constructor
     ·rintro (rfl | ⟨i,i0,i1,rfl⟩ | ⟨h,_⟩)
      ·exact .inr rfl
      ·omega
      ·exact absurd rfl h
     ·rintro (⟨i,i0,i1,rfl⟩ | rfl)
      ·omega
      ·exact .inl rfl)
   ·rw [if_neg (by rw [decide_eq_true_iff];omega)]
    exact fin hlen hv (fun e=>by
     rw [hk];constructor
     ·rintro (h | ⟨_,h⟩)
      ·exact .inl h
      ·exact .inr h
     ·rintro (h | h)
      ·exact .inl h
      ·exact .inr ⟨c,h⟩)
 unfold zgt;exact key _ 0 [] [] rfl (by omega) rfl (fun e=>by
  constructor
  ·intro h;cases h
  ·rintro (⟨i,i0,i1,_⟩ | ⟨h,_⟩)
   ·omega
   ·exact absurd rfl h) (fun e he=>by cases he)
end
abbrev Cf:=Int×List Int×Unit
def CanP (r:Rl) (c:Cf):Prop:=c.1=r.1/\0 < c.2.1.length/\ix c.2.1 0=r.2.1
def Bh (r:Rl) (c:Cf):Cf:=(r.2.2.1,r.2.2.2.1++c.2.1.drop 1,())
def Rn (l:List Rl):List Int->Cf->Cf->Prop
 | [],c,d=>c=d
 | k::ks,c,d=>0<=k/\k < l.length/\CanP (ix l k) c/\Rn l ks (Bh (ix l k) c) d
def Sv (gc:Int) (gs:List Int) (q:Int) (v:List Int):Cf:=if q < 3 then (q,v,()) else (gc,gs.take (q - 3).toNat++v,())
section
variable {l:List Rl} {gc:Int} {gs:List Int} {ek:List Ed} {ev:List Kn}
theorem zvc {w:List Int} (h:0 < w.length):w=ix w 0::w.drop 1:=by
 cases w with
 | nil=>simp at h
 | cons a w=>rfl
theorem Rn.app:∀ {a b:List Int} {c d e:Cf},Rn l a c d->Rn l b d e->Rn l (a++b) c e
 | [],_,_,_,_,h,k=>by
  have h:_=_:=h;subst h;exact k
 | _::a,_,_,_,_,h,k=>⟨h.1,h.2.1,h.2.2.1,Rn.app h.2.2.2 k⟩
theorem zp4 {q:Int} (h:q < 3) (v:List Int):Sv gc gs q v=(q,v,()):=if_pos h
theorem zor {q:Int} (h:3<=q) (v:List Int):Sv gc gs q v=(gc,gs.take (q - 3).toNat++v,()):=if_neg (by omega)
theorem Sv_GE (hg:GOk gc gs) {e:Ed} (he:GE gc gs e) (v:List Int):Sv gc gs e.1 (e.2.1::v)=Sv gc gs e.2.2.1 v:=by
 have hc:=hg.c;rcases he with ⟨i,i0,i1,rfl⟩ | ⟨h0,rfl⟩
 ·dsimp only;rw [zor (by omega),zor (by omega)]
  have et:=zoY (l:=gs) (i:=i) i0 i1;rw [show 3+i - 3=i by omega,show 3+i+1 - 3=i+1 by omega,et,List.append_assoc]
  rfl
 ·dsimp only;rw [zp4 (by omega),zor (by omega)]
  have et:=zoY (l:=gs) (i:=0) (by omega) (by omega)
  rw [show (3:Int)+0+1 - 3=0+1 by omega,et]
  rfl
theorem zso {R:Type} {F:Int->List Int->Option R} {fin:List Int->Option R} {o:List Ed}
  (hT:∀ e∈o,∀ out:List Int,(out.length:Int)+zco ek ev e<=100000->∃ rs,zaW e gc gs out ek ev=some (out++rs,gc,gs,ek,ev)/\(rs.length:Int)<=zco ek ev e/\∀ v,Rn l rs (Sv gc gs e.1 (e.2.1::v)) (Sv gc gs e.2.2.1 v))
  (hF:∀ (n:Nat) (out out':List Int),n < o.length->zaW (ix o (n:Int)) gc gs out ek ev=some (out',gc,gs,ek,ev)->F n out=F ((n:Int)+1) out') (hE:∀ out,F (o.length:Int) out=fin out) {q:Int}:
  ∀ (f n:Nat) (w:List Int) (p:Int) (out:List Int),o.length - n=f->n<=o.length->Pth ek p w (o.drop n) q->(out.length:Int)+psum ek ev (o.drop n)<=100000->(∀ e∈o,0<=zco ek ev e)->
   ∃ rs,F (n:Int) out=fin (out++rs)/\(rs.length:Int)<=psum ek ev (o.drop n)/\∀ v,Rn l rs (Sv gc gs p (w++v)) (Sv gc gs q v):=by
 intro f
 induction f with
 | zero=>
  intro n w p out hf hn hp ho hc;obtain rfl:n=o.length:=by omega
  rw [List.drop_length] at hp ⊢
  match w,hp with
  | [],hp=>
   have hp:p=q:=hp;subst hp;exact ⟨[],by rw [hE,List.append_nil],by rw [zgP];simp,fun v=>rfl⟩
 | succ f ih=>
  intro n w p out hf hn hp ho hc;have hlt:n < o.length:=by omega
  have hm:=za7 (l:=o) (i:=(n:Int)) (by omega) (by omega)
  have ed:o.drop n=ix o (n:Int)::o.drop (n+1):=by
   rw [zhG (l:=o) (i:=(n:Int)) (by omega) (by omega)]
   simp
  rw [ed] at hp ho ⊢;rw [zdB] at ho ⊢;have hpos:∀ (L:List Ed),(∀ e∈L,0<=zco ek ev e)->0<=psum ek ev L:=by
   intro L
   induction L with
   | nil=>intro _;rw [zgP];omega
   | cons a L ihL=>
    intro hL;rw [zdB];have:=hL a (by simp)
    have:=ihL (fun e he=>hL e (by simp [he]))
    omega
  have hps:=hpos (o.drop (n+1)) (fun e he=>hc e (List.mem_of_mem_drop he))
  have hk:=hc _ hm
  match w,hp with
  | s::w,hp=>
   obtain ⟨p1,p2,_,p4⟩:=hp;obtain ⟨rs,r1,r2,r3⟩:=hT _ hm out (by omega)
   obtain ⟨rs',t1,t2,t3⟩:=ih (n+1) w _ (out++rs) (by omega) (by omega) p4 (by rw [List.length_append];omega) hc
   refine ⟨rs++rs',?_,by rw [List.length_append];omega,fun v => ?_⟩
   ·rw [hF n out (out++rs) hlt r1,<- List.append_assoc];exact t1
   ·have:=r3 (w++v);rw [p1,p2] at this;exact this.app (t3 v)
theorem zwq (hl:LOk l) (hg:GOk gc gs) (h:FI l gc gs ek ev):∀ (m:Nat) (e:Ed),e∈ek->(zco ek ev e).toNat=m->m<=2000->∀ out:List Int,(out.length:Int)+m<=100000->
  ∃ rs,zaW e gc gs out ek ev=some (out++rs,gc,gs,ek,ev)/\(rs.length:Int)<=m/\∀ v,Rn l rs (Sv gc gs e.1 (e.2.1::v)) (Sv gc gs e.2.2.1 v):=by
 have heo:=h.eok hl hg;intro m
 induction m using Nat.strongRecOn with
 | ind m ih=>
  intro e he hm h2 out ho;rw [zix];unfold zaZ;have ee:(e.1,e.2.1,e.2.2.1,())=e:=rfl;rw [ee];rcases h.ok e he with g | ⟨k,g⟩
  ·have gv:=(h.ge e g).2;refine ⟨[],?_,by simp,fun v=>Sv_GE hg g v⟩
   have gv':mget ek ev e ((0,(0,([],()))):Int×Int×(List (Int×Int×Int×Unit))×Unit)=(-1,0,[],()):=gv;rw [gv',if_pos (by simp),List.append_nil]
  ·obtain ⟨q,p1,p2,p3⟩:=g.p;obtain ⟨ov,eov⟩:∃ ov,(mget ek ev e D0).2.2.1=ov:=⟨_,rfl⟩;rw [eov] at p1 p3;have gc1:=g.c;have k0:=g.k0;have hr:=hl.r _ (za7 g.k0 g.k1);obtain ⟨q0,q1⟩:=p1.pos heo;have hps:1+psum ek ev ov<=zco ek ev e:=by
    unfold imin at p3
    split at p3<;>omega
   have gk:(mget ek ev e ((0,(0,([],()))):Int×Int×(List (Int×Int×Int×Unit))×Unit)).1=k:=g.v;have gov:(mget ek ev e ((0,(0,([],()))):Int×Int×(List (Int×Int×Int×Unit))×Unit)).2.2.1=ov:=eov;rw [gk,if_neg (by rw [decide_eq_true_iff];omega),zdh (by unfold room;simp;omega)]
   have hmem:=p1.mem;have hol:=p1.len;have hrn:=hr.n;obtain ⟨rs,r1,r2,r3⟩:=zso (l:=l) (gc:=gc) (gs:=gs) (ek:=ek) (ev:=ev) (o:=ov) (F:=fun t out=>zaL zaW e ek ev t gc gs out ek ev) (fin:=fun out=>some (out,gc,gs,ek,ev))
    (fun x hx out' ho'=>by
     have:=q1 x hx;obtain ⟨c0,_⟩:=heo.c x (hmem x hx);obtain ⟨rs,a1,a2,a3⟩:=ih (zco ek ev x).toNat (by omega) x (hmem x hx) rfl (by omega) out' (by omega)
     exact ⟨rs,a1,by omega,a3⟩)
    (fun n out out' hn ht=>by
     rw [zdr];unfold zaB;rw [ee,gov,if_pos (by simp;omega)]
     exact G_to (by omega) (zai ht (G_to (by unfold fits;omega) rfl)))
    (fun out=>by
     rw [zdr];unfold zaB;rw [ee,gov,if_neg (by simp)]) _ 0 _ _ (out++[k]) rfl (by omega) p1 (by rw [List.length_append];simp;omega) (fun x hx=>(heo.c x (hmem x hx)).1)
   refine ⟨k::rs,?_,by rw [List.length_cons];rw [List.drop_zero] at r2;omega,fun v => ?_⟩
   ·rw [show out++k::rs=(out++[k])++rs by simp]
    exact r1
   ·have e1:=g.a;have e2:=g.b;have ha:=hr.a;have hcc:=hr.c;rw [zp4 (by omega)]
    refine ⟨k0,g.k1,⟨e1,by simp,by rw [<- e2];rfl⟩,?_⟩
    have:=r3 v;rw [zp4 (by omega)] at this
    have e3:Sv gc gs q v=Sv gc gs e.2.2.1 v:=by
     rcases p2 with rfl | ⟨g0,rfl,g2⟩
     ·rfl
     ·have:=hg.c;rw [g2,zp4 (by omega),zor (by omega)]
      simp
    rw [<- e3];exact this
noncomputable abbrev fst? (gs:List Int) (W:List Kn):Option Kn:=W.find? (fun x=>decide (x.1=Nn gs - 1))
theorem zw9 (hl:LOk l) (hg:GOk gc gs) (h:FI l gc gs ek ev) {p:Int} (hp:p < 3) {w:List Int} (hw:w.length<=100) {B:List Kn} (hB:WB gs ek ev p w B):
  (fst? gs (Xs gc gs B)=none/\za5 (Xs gc gs B) 0 gc gs ek ev []=some (false,0,[]))\/(∃ x,fst? gs (Xs gc gs B)=some x/\2000 < x.2.1/\za5 (Xs gc gs B) 0 gc gs ek ev []=some (false,7,[]))\/
  (∃ x rs,fst? gs (Xs gc gs B)=some x/\za5 (Xs gc gs B) 0 gc gs ek ev []=some (true,0,rs)/\rs.length<=2000/\Rn l rs (p,w,()) (gc,gs,())):=by
 have heo:=h.eok hl hg;have hN:Nn gs=3+(gs.length:Int)+1:=rfl;have hgn:=hg.n;have hXl:=zp5 (gc:=gc) (gs:=gs) B;have hBl:=hB.len;have key:∀ (f n:Nat),(Xs gc gs B).length - n=f->n<=(Xs gc gs B).length->(fst? gs ((Xs gc gs B).drop n)=none/\za5 (Xs gc gs B) (n:Int) gc gs ek ev []=some (false,0,[]))\/(∃ x,fst? gs ((Xs gc gs B).drop n)=some x/\2000 < x.2.1/\za5 (Xs gc gs B) (n:Int) gc gs ek ev []=some (false,7,[]))\/
  (∃ x rs,fst? gs ((Xs gc gs B).drop n)=some x/\za5 (Xs gc gs B) (n:Int) gc gs ek ev []=some (true,0,rs)/\rs.length<=2000/\Rn l rs (p,w,()) (gc,gs,())):=by
  intro f
  induction f with
  | zero=>
   intro n hf hn;obtain rfl:n=(Xs gc gs B).length:=by omega
   refine .inl ⟨by rw [List.drop_length];rfl,?_⟩
   rw [zgr];unfold zb2;rw [if_neg (by simp)]
  | succ f ih=>
   intro n hf hn;have hm:=za7 (l:=Xs gc gs B) (i:=(n:Int)) (by omega) (by omega)
   have ed:(Xs gc gs B).drop n=ix (Xs gc gs B) (n:Int)::(Xs gc gs B).drop (n+1):=by
    rw [zhG (l:=Xs gc gs B) (i:=(n:Int)) (by omega) (by omega)]
    simp
   obtain ⟨x,ex⟩:∃ x,ix (Xs gc gs B) (n:Int)=x:=⟨_,rfl⟩;rw [ex] at hm;rw [ed,ex];by_cases c:x.1=Nn gs - 1
   ·have hf:fst? gs (x::(Xs gc gs B).drop (n+1))=some x:=by unfold fst?; rw [List.find?_cons_of_pos (by simpa using c)]
    have st:za5 (Xs gc gs B) (n:Int) gc gs ek ev []=zg6 (Xs gc gs B) (n:Int) [] gc gs ek ev:=by
     rw [zgr];unfold zb2;rw [if_pos (by simp;omega),ex]
     refine G_to (by omega) (G_to (by omega) ?_)
     refine zaq ?_ ?_
     ·refine zai (zfY heo) ?_
      rw [if_neg (by rw [decide_eq_true_iff];exact fun h=>h c)]
     ·refine zai (zfY heo) ?_
      rw [if_neg (by rw [decide_eq_true_iff];exact fun h=>h c)]
    right
    rw [hf,st];unfold zg6;rw [ex];by_cases c2:2000 < x.2.1
    ·left
     exact ⟨x,rfl,c2,by rw [if_pos (by simpa using c2)]⟩
    ·right
     obtain ⟨x0,x1,x2⟩:=hB.bound (gc:=gc) heo x hm;obtain ⟨q,hq,hq2,hq3⟩:∃ q,Pth ek p w x.2.2.1 q/\Sv gc gs q []=(gc,gs,())/\psum ek ev x.2.2.1<=2000:=by
      have hs:∀ b∈B,b.2.1=x.2.1->b.2.2.1=x.2.2.1->Pth ek p w x.2.2.1 b.1/\psum ek ev x.2.2.1<=2000:=fun b hb e1 e2=>by
       obtain ⟨_,_,b3,b4⟩:=hB.snd b hb;rw [e2] at b3 b4;refine ⟨b3,?_⟩
       rw [e1] at b4;unfold imin at b4
       split at b4<;>omega
      rcases znf hm with hx | ⟨g0,g1,b,hb,e0,e1,e2⟩
      ·obtain ⟨a1,a2⟩:=hs x hx rfl rfl;refine ⟨x.1,a1,?_,a2⟩
       rw [c,zor (by omega),show (Nn gs - 1 - 3).toNat=gs.length by omega,List.take_length,List.append_nil]
      ·obtain ⟨a1,a2⟩:=hs b hb e1.symm e2.symm;refine ⟨b.1,a1,?_,a2⟩
       have:=hg.c;rw [e0,zp4 (by omega),List.length_eq_zero_iff.1 g0]
     obtain ⟨q0,q1⟩:=hq.pos heo;obtain ⟨rs,r1,r2,r3⟩:=zso (l:=l) (gc:=gc) (gs:=gs) (ek:=ek) (ev:=ev) (o:=x.2.2.1) (F:=fun t out=>zfH (Xs gc gs B) (n:Int) t out gc gs ek ev) (fin:=fun out=>some (true,0,out))
      (fun e he out' ho'=>by
       have:=q1 e he;obtain ⟨c0,_⟩:=heo.c e (hq.mem e he);obtain ⟨rs,a1,a2,a3⟩:=zwq hl hg h (zco ek ev e).toNat e (hq.mem e he) rfl (by omega) out' (by omega)
       exact ⟨rs,a1,by omega,a3⟩)
      (fun n out out' hn ht=>by
       rw [ziW];unfold zcc;rw [ex,if_pos (by simp;omega)]
       exact G_to (by omega) (zai ht (G_to (by unfold fits;omega) rfl)))
      (fun out=>by
       rw [ziW];unfold zcc;rw [ex,if_neg (by simp)]) _ 0 _ _ [] rfl (by omega) hq (by simp;omega) (fun x hx=>(heo.c x (hq.mem x hx)).1)
     rw [List.drop_zero] at r2;refine ⟨x,rs,rfl,?_,by omega,?_⟩
     ·rw [if_neg (by simpa using c2)]
      exact r1
     ·have:=r3 [];rw [hq2,List.append_nil,zp4 hp] at this;exact this
   ·have hf:fst? gs (x::(Xs gc gs B).drop (n+1))=fst? gs ((Xs gc gs B).drop (n+1)):=by unfold fst?; rw [List.find?_cons_of_neg (by simpa using c)]
    have st:za5 (Xs gc gs B) (n:Int) gc gs ek ev []=za5 (Xs gc gs B) ((n:Int)+1) gc gs ek ev []:=by
     conv=>lhs;rw [zgr];unfold zb2
     rw [if_pos (by simp;omega),ex]
     refine G_to (by omega) (G_to (by omega) ?_)
     refine zaq ?_ ?_
     ·refine zai (zfY heo) ?_
      rw [if_pos (by rw [decide_eq_true_iff];exact c)]
      exact G_to (by unfold fits;omega) rfl
     ·refine zai (zfY heo) ?_
      rw [if_pos (by rw [decide_eq_true_iff];exact c)]
      exact G_to (by unfold fits;omega) rfl
    rw [hf,st];exact ih (n+1) (by omega) (by omega)
 exact key _ 0 rfl (by omega)
def zuB (gc:Int) (gs:List Int):Int:=if gs.length=0 then gc else Nn gs - 1
theorem zsc (h:FI l gc gs ek ev):∀ (f i:Nat),gs.length - i=f->i<=gs.length->∃ o,Pth ek (3+i) (gs.drop i) o (Nn gs - 1)/\psum ek ev o=0
 | 0,i,hf,hi=>by
  obtain rfl:i=gs.length:=by omega
  refine ⟨[],?_,zgP⟩
  rw [List.drop_length];show (3+(gs.length:Int))=Nn gs - 1;have hN:Nn gs=3+(gs.length:Int)+1:=rfl;omega
 | f+1,i,hf,hi=>by
  obtain ⟨o,o1,o2⟩:=zsc h f (i+1) (by omega) (by omega)
  have hge:GE gc gs (3+(i:Int),ix gs (i:Int),3+(i:Int)+1,()) := .inl ⟨i,by omega,by omega,rfl⟩
  obtain ⟨g1,g2⟩:=h.ge _ hge;have ed:gs.drop i=ix gs (i:Int)::gs.drop (i+1):=by
   rw [zhG (l:=gs) (i:=(i:Int)) (by omega) (by omega)]
   simp
  refine ⟨(3+(i:Int),ix gs (i:Int),3+(i:Int)+1,())::o,?_,?_⟩
  ·rw [ed];exact ⟨rfl,rfl,g1,by rw [show ((3:Int)+(i:Int)+1)=3+((i+1:Nat):Int) by omega];exact o1⟩
  ·rw [zdB,o2];unfold zco;rw [g2];rfl
theorem zrS (hl:LOk l) (hg:GOk gc gs) (h:FI l gc gs ek ev) (hc:∀ j:Int,0<=j->j < l.length->Cl l gc gs ek ev j):∀ (rs:List Int) (c:Cf),Rn l rs c (gc,gs,())->∃ o,Pth ek c.1 c.2.1 o (zuB gc gs)/\psum ek ev o<=rs.length
 | [],c,hr=>by
  have hr:c=(gc,gs,()):=hr;subst hr;unfold zuB;by_cases g0:gs.length=0
  ·rw [if_pos g0];refine ⟨[],?_,by rw [zgP];simp⟩
   show Pth ek gc gs [] gc;rw [List.length_eq_zero_iff.1 g0];rfl
  ·rw [if_neg g0];obtain ⟨o,o1,o2⟩:=zsc h _ 1 rfl (by omega)
   have hge:GE gc gs (gc,ix gs 0,3+0+1,()) := .inr ⟨g0,rfl⟩;obtain ⟨g1,g2⟩:=h.ge _ hge;have ed:gs=ix gs 0::gs.drop 1:=zvc (by omega)
   refine ⟨(gc,ix gs 0,3+0+1,())::o,?_,?_⟩
   ·have hh:Pth ek gc (ix gs 0::gs.drop 1) ((gc,ix gs 0,3+0+1,())::o) (Nn gs - 1):=⟨rfl,rfl,g1,o1⟩;rw [<- ed] at hh;exact hh
   ·rw [zdB,o2];unfold zco;rw [g2];simp
 | k::rs,c,hr=>by
  obtain ⟨k0,k1,⟨c1,c2,c3⟩,r4⟩:=hr;obtain ⟨o,o1,o2⟩:=zrS hl hg h hc rs _ r4;have o1:Pth ek (ix l k).2.2.1 ((ix l k).2.2.2.1++c.2.1.drop 1) o (zuB gc gs):=o1;obtain ⟨a,b,q,rfl,p1,p2⟩:=Pth.split o1;obtain ⟨B,hB,hx⟩:=hc k k0 k1;obtain ⟨x,x1,x2,x3⟩:=hB.cmp a q p1;obtain ⟨y1,y2⟩:=hx x (zxA x1);rw [x2] at y1 y2;have ed:c.2.1=ix c.2.1 0::c.2.1.drop 1:=zvc c2;refine ⟨((ix l k).1,(ix l k).2.1,q,())::b,?_,?_⟩
  ·have hh:Pth ek c.1 (ix c.2.1 0::c.2.1.drop 1) (((ix l k).1,(ix l k).2.1,q,())::b) (zuB gc gs):=⟨c1.symm,c3.symm,y1,p2⟩;rw [<- ed] at hh;exact hh
  ·rw [zrn] at o2;rw [zdB,List.length_cons];omega
theorem zwF {B:List Kn} (hg:GOk gc gs) (g0:gs.length=0) {b:Kn} (hs:B.Pairwise (fun a b=>a.1 < b.1)) (hb:b∈B) (e:b.1=gc):∃ x,fst? gs (Xs gc gs B)=some x/\x.2.1=b.2.1:=by
 have hN:Nn gs=3+(gs.length:Int)+1:=rfl;have hc:=hg.c
 induction B with
 | nil=>cases hb
 | cons a B ih=>
  obtain ⟨s1,s2⟩:=List.pairwise_cons.1 hs;unfold fst? Xs;rw [List.flatMap_cons];rcases List.mem_cons.1 hb with rfl | hb
  ·rw [if_pos ⟨g0,e⟩,List.cons_append,List.find?_cons_of_neg (by simp;omega),List.cons_append,List.find?_cons_of_pos (by rw [decide_eq_true_iff])]
   exact ⟨_,rfl,rfl⟩
  ·have:=s1 b hb;rw [if_neg (fun h=>by omega),List.cons_append,List.find?_cons_of_neg (by simp;omega)]
   exact ih s2 hb
theorem zuw (hg:GOk gc gs) {p:Int} {w:List Int} {B:List Kn} (hB:WB gs ek ev p w B) {o:List Ed} (ho:Pth ek p w o (zuB gc gs)):∃ x,fst? gs (Xs gc gs B)=some x/\x.2.1<=psum ek ev o:=by
 obtain ⟨b,b1,b2,b3⟩:=hB.cmp o _ ho;unfold zuB at b2;by_cases g0:gs.length=0
 ·rw [if_pos g0] at b2;obtain ⟨x,x1,x2⟩:=zwF hg g0 hB.sort b1 b2;exact ⟨x,x1,by omega⟩
 ·rw [if_neg g0] at b2;have eX:Xs gc gs B=B:=by
   unfold Xs;have:∀ L:List Kn,(L.flatMap fun w=>if gs.length=0/\w.1=gc then [w,(3+(gs.length:Int)+1 - 1,w.2.1,w.2.2.1,())] else [w])=L:=by
    intro L
    induction L with
    | nil=>rfl
    | cons a L ih=>rw [List.flatMap_cons,ih,if_neg (fun h=>g0 h.1)];rfl
   exact this B
  rw [eX];have hs:(fst? gs B).isSome:=by
   unfold fst?;rw [List.find?_isSome];exact ⟨b,b1,by simpa using b2⟩
  obtain ⟨x,hx⟩:=Option.isSome_iff_exists.1 hs;have h1:=List.mem_of_find?_eq_some hx;have h2:x.1=Nn gs - 1:=by simpa using List.find?_some hx
  have hxb:x=b:=by
   refine Classical.byContradiction fun hne => ?_
   have key:∀ L:List Kn,L.Pairwise (fun a b=>a.1 < b.1)->x∈L->b∈L->x.1=b.1->x=b:=by
    intro L
    induction L with
    | nil=>intro _ h;cases h
    | cons a L ih=>
     intro hp hx hb e;obtain ⟨s1,s2⟩:=List.pairwise_cons.1 hp;rcases List.mem_cons.1 hx with hx' | hx'
     ·rcases List.mem_cons.1 hb with hb' | hb'
      ·rw [hx',hb']
      ·have:=s1 b hb';rw [hx'] at e;omega
     ·rcases List.mem_cons.1 hb with hb' | hb'
      ·have:=s1 x hx';rw [hb'] at e;omega
      ·exact ih s2 hx' hb' e
   exact hne (key B hB.sort h1 b1 (by omega))
  exact ⟨x,hx,by rw [hxb];exact b3⟩
def Rch (gc:Int) (gs:List Int) (ek:List Ed) (p:Int) (w:List Int) (q:Int):Prop:=(∃ o,Pth ek p w o q)\/(gs.length=0/\q=3/\∃ o,Pth ek p w o gc)
theorem zsL {p:Int} {w:List Int} {B:List Kn} (hB:WB gs ek ev p w B) {q:Int}:(∃ x∈Xs gc gs B,x.1=q)↔Rch gc gs ek p w q:=by
 constructor
 ·rintro ⟨x,hx,rfl⟩;rcases znf hx with hx | ⟨g0,g1,b,hb,e0,_⟩
  ·exact .inl ⟨_,(hB.snd x hx).2.2.1⟩
  ·exact .inr ⟨g0,g1,_,e0 ▸ (hB.snd b hb).2.2.1⟩
 ·rintro (⟨o,ho⟩ | ⟨g0,rfl,o,ho⟩)
  ·obtain ⟨b,b1,b2,_⟩:=hB.cmp o q ho;exact ⟨b,zxA b1,b2⟩
  ·obtain ⟨b,b1,b2,_⟩:=hB.cmp o gc ho;refine ⟨(3+(gs.length:Int)+1 - 1,b.2.1,b.2.2.1,()),?_,by dsimp only;omega⟩
   unfold Xs;refine List.mem_flatMap.2 ⟨b,b1,?_⟩
   rw [if_pos ⟨g0,b2⟩];simp
theorem zxy (he:EOk gs ek ev) {p s q:Int} {w:List Int}:Rch gc gs ek p (w++[s]) q↔∃ r,Rch gc gs ek p w r/\Rch gc gs ek r [s] q:=by
 have one:∀ {r t:Int},(∃ o,Pth ek p (w++[s]) o t)->∃ r,(∃ o,Pth ek p w o r)/\∃ o,Pth ek r [s] o t:=fun {r t} ⟨o,ho⟩=>by
  obtain ⟨a,b,r,_,h1,h2⟩:=Pth.split ho;exact ⟨r,⟨a,h1⟩,b,h2⟩
 have no3:gs.length=0->∀ {o t},¬ Pth ek 3 [s] o t:=fun g0 {o t} h=>by
  match o,h with
  | e::o,h=>exact he.eps g0 e h.2.2.1 h.1
 constructor
 ·rintro (h | ⟨g0,rfl,h⟩)
  ·obtain ⟨r,h1,h2⟩:=one (r:=0) h;exact ⟨r,.inl h1,.inl h2⟩
  ·obtain ⟨r,h1,h2⟩:=one (r:=0) h;exact ⟨r,.inl h1,.inr ⟨g0,rfl,h2⟩⟩
 ·rintro ⟨r,⟨a,ha⟩ | ⟨g0,rfl,_⟩,hr⟩
  ·rcases hr with ⟨b,hb⟩ | ⟨g1,rfl,b,hb⟩
   ·exact .inl ⟨_,ha.app hb⟩
   ·exact .inr ⟨g1,rfl,_,ha.app hb⟩
  ·rcases hr with ⟨b,hb⟩ | ⟨_,_,b,hb⟩
   ·exact absurd hb (no3 g0)
   ·exact absurd hb (no3 g0)
end
theorem zoF {gc:Int} {gs:List Int} {ek:List Ed} {ev:List Kn} {g:Int} {s:Int} {l:List Int} {nx:Int->Int->Int} {mk:Int->Int} {first:Int} {B:Nat} {P:Int->Prop} (hx:XOk nx mk g.toNat first B P) (hB:B < 3000) (h1:1<=g/\g<=4) (hnx:∀ s,P s->∀ t,0<=t->t < g->zc1 s t gc gs ek ev=some (nx s t,gc,gs,ek,ev)) (hmk:∀ s,P s->zcy s gc gs ek ev=some (mk s,gc,gs,ek,ev)) {L0:List Int} {D2:List (List Int)} {D3:List Int} {r4} (hs:P s) (hl:LiOk B P l) (eL:ix L0 (D2.length:Int)=s) (h2:D2.length<=3000) (h3:D3.length<=3000):
  za8 g 3000 g 0 L0 D2 D3 r4 0 l (iota l.length) l (List.replicate g.toNat 0) gc gs ek ev=
   r4 g 0 (xRow nx s l g.toNat).1 (iota (xRow nx s l g.toNat).1.length) (xRow nx s l g.toNat).1 gc gs ek ev (D2++[(xRow nx s l g.toNat).2]) (D3++[mk s]):=by
 have key:∀ (n t:Nat) (row:List Int),g.toNat - t=n->t<=g.toNat->row.length=g.toNat->(∀ j:Int,0<=j->j < t->ix row j=ix (xRow nx s l t).2 j)->
   za8 g 3000 g 0 L0 D2 D3 r4 t (xRow nx s l t).1 (iota (xRow nx s l t).1.length) (xRow nx s l t).1 row gc gs ek ev=
   r4 g 0 (xRow nx s l g.toNat).1 (iota (xRow nx s l g.toNat).1.length) (xRow nx s l g.toNat).1 gc gs ek ev (D2++[(xRow nx s l g.toNat).2]) (D3++[mk s]):=by
  intro n
  induction n with
  | zero=>
   intro t row hn ht hr hj;obtain rfl:t=g.toNat:=by omega
   obtain ⟨g1,⟨_,g2,_⟩⟩:=zrE hx hs hl g.toNat (Nat.le_refl _);have:row=(xRow nx s l g.toNat).2:=zoX (by omega) fun j j0 j1=>hj j j0 (by omega)
   rw [zhz];unfold zbG;rw [if_neg (by simp;omega),this]
   refine G_to (by unfold room;simp;omega) ?_
   rw [eL];refine zaq ?_ ?_
   ·exact zai (hmk s hs) (G_to (by unfold room;simp;omega) rfl)
   ·exact zai (hmk s hs) (G_to (by unfold room;simp;omega) rfl)
  | succ n ih=>
   intro t row hn ht hr hj;obtain ⟨g1,⟨_,g2,_⟩⟩:=zrE hx hs hl t (by omega)
   have hlen:=g1.len hx;have ih':=fun row=>ih (t+1) row (by omega) (by omega)
   rw [zhz];unfold zbG zcF;rw [if_pos (by simp;omega),eL]
   refine zai (hnx s hs t (by omega) (by omega)) ?_
   show (if (!(mhas (xRow nx s l t).1 (nx s t)))=true then
    if decide (((xRow nx s l t).1.length:Int)=3000)=true then _ else
     G (room (xRow nx s l t).1 [nx s t] _) (G _ (G _ (G _ (za8 g 3000 g 0 L0 D2 D3 r4 (t+1) (zb5 (xRow nx s l t).1 (nx s t)) (zcM (xRow nx s l t).1 (iota (xRow nx s l t).1.length) (nx s t) ((xRow nx s l t).1.length:Int)) ((xRow nx s l t).1++[nx s t]) (row.set ((t:Int)).toNat ((xRow nx s l t).1.length:Int)) gc gs ek ev)))) else
    G _ (G _ (G _ (za8 g 3000 g 0 L0 D2 D3 r4 (t+1) _ _ _ (row.set ((t:Int)).toNat (mget (xRow nx s l t).1 (iota (xRow nx s l t).1.length) (nx s t) 0)) gc gs ek ev))))=_
   cases e:zaT (xRow nx s l t).1 (nx s t) with
   | some j=>
    rw [zj1 e] at ih';have hm:mhas (xRow nx s l t).1 (nx s t)=true:=by unfold mhas;rw [e];rfl
    rw [if_neg (by rw [hm];simp),zo5 e]
    refine G_to (by omega) (G_to (by omega) (G_to (by unfold fits;omega) ?_))
    refine ih' (row.set ((t:Int)).toNat (j:Int)) (by rw [List.length_set];exact hr) (fun k k0 k1 => ?_)
    by_cases c:k < t
    ·rw [zem (by omega) k0 (by omega),zas k0 (by omega)];exact hj k k0 c
    ·obtain rfl:k=(t:Int):=by omega
     rw [zcu k0 (by omega)]
     have:(t:Int)=((xRow nx s l t).2.length:Int):=by omega
     rw [this,zaN]
   | none=>
    rw [zj0 e] at ih';have hnm:=zaV.1 e;have hm:mhas (xRow nx s l t).1 (nx s t)=false:=by unfold mhas;rw [e];rfl
    rw [if_pos (by rw [hm];rfl),if_neg (by simp;omega),zo7 hnm,zmS hnm]
    refine G_to (by unfold room;simp;omega) (G_to (by omega) (G_to (by omega) (G_to (by unfold fits;omega) ?_)))
    refine ih' (row.set ((t:Int)).toNat ((xRow nx s l t).1.length:Int)) (by rw [List.length_set];exact hr) (fun k k0 k1 => ?_)
    by_cases c:k < t
    ·rw [zem (by omega) k0 (by omega),zas k0 (by omega)];exact hj k k0 c
    ·obtain rfl:k=(t:Int):=by omega
     rw [zcu k0 (by omega)]
     have:(t:Int)=((xRow nx s l t).2.length:Int):=by omega
     rw [this,zaN]
 exact key _ 0 _ rfl (by omega) (by rw [List.length_replicate]) (fun j j0 j1=>by omega)
theorem znU {gc:Int} {gs:List Int} {ek:List Ed} {ev:List Kn} {g:Int} {nx:Int->Int->Int} {mk:Int->Int} {first:Int} {B:Nat} {P:Int->Prop} (hx:XOk nx mk g.toNat first B P) (hB:B < 3000) (h1:1<=g/\g<=4) (hnx:∀ s,P s->∀ t,0<=t->t < g->zc1 s t gc gs ek ev=some (nx s t,gc,gs,ek,ev)) (hmk:∀ s,P s->zcy s gc gs ek ev=some (mk s,gc,gs,ek,ev)) {n:Nat} (hg:XGo nx mk g.toNat first n) (hn:(xSt nx mk g.toNat first n).1.length=n):zfU g first 3000 gc gs ek ev=some (xAut nx mk g.toNat first n,true,gc,gs,ek,ev):=by
 have key:∀ (f i:Nat),n - i=f->i<=n->ze3 g 3000 g 0 (xSt nx mk g.toNat first i).1 (iota (xSt nx mk g.toNat first i).1.length) (xSt nx mk g.toNat first i).1 gc gs ek ev (xSt nx mk g.toNat first i).2.1 (xSt nx mk g.toNat first i).2.2=some (xAut nx mk g.toNat first n,true,gc,gs,ek,ev):=by
  intro f
  induction f with
  | zero=>
   intro i hf hi;obtain rfl:i=n:=by omega
   obtain ⟨g1,g2,g3⟩:=zmv hx i hg;have hr:=g3.r;rw [zhy];unfold zbF zjc;rw [if_neg (by rw [decide_eq_true_iff];omega)]
   unfold xAut;rw [Int.toNat_of_nonneg (by omega)]
  | succ f ih=>
   intro i hf hi;obtain ⟨g1,g2,g3⟩:=zmv hx i (fun k hk=>hg k (by omega))
   have hlt:=hg i (by omega)
   have hr:=g3.r;have hm:=g3.m;have hlen:=g1.len hx;have hP:=g1.p _ (za7 (i:=(i:Int)) (by omega) (by omega))
   rw [zhy];unfold zbF;rw [if_pos (by rw [decide_eq_true_iff];omega)]
   refine G_to (by omega) (G_to (by omega) (G_to (by unfold mkOK;omega) ?_))
   rw [zoF hx hB h1 hnx hmk hP g1 (by rw [hr]) (by omega) (by omega)]
   exact ih (i+1) (by omega) (by omega)
 exact key _ 0 rfl (by omega)
section
variable {l:List Rl} {gc:Int} {gs:List Int} {ek:List Ed} {ev:List Kn}
abbrev Nw (gs:List Int):Nat:=3+gs.length+1
theorem zwc {R:Type} {N:Nat} {F:Int->Int->Option R} {fin:Int->Option R} {W:List Kn} (hW:∀ x∈W,0<=x.1/\x.1 < N) (hF:∀ (n:Nat) (s:Int),n < W.length->F s n=F (ior .i64 s (ishl .i64 1 (ix W (n:Int)).1)) ((n:Int)+1)) (hE:∀ s,F s (W.length:Int)=fin s):∀ (f n:Nat) (s:Int),W.length - n=f->n<=W.length->SetN N s->
  ∃ s',SetN N s'/\F s (n:Int)=fin s'/\∀ r:Int,0<=r->r < N->(bitP s' r↔bitP s r\/∃ x∈W.drop n,x.1=r):=by
 intro f
 induction f with
 | zero=>
  intro n s hf hn hs;obtain rfl:n=W.length:=by omega
  exact ⟨s,hs,hE s,fun r r0 r1=>by rw [List.drop_length];simp⟩
 | succ f ih=>
  intro n s hf hn hs;have hm:=za7 (l:=W) (i:=(n:Int)) (by omega) (by omega)
  have ed:W.drop n=ix W (n:Int)::W.drop (n+1):=by
   rw [zhG (l:=W) (i:=(n:Int)) (by omega) (by omega)]
   simp
  obtain ⟨b0,b1⟩:=hW _ hm;obtain ⟨o1,_,o3⟩:=hs.or b0 b1;obtain ⟨s',t1,t2,t3⟩:=ih (n+1) _ (by omega) (by omega) o1
  refine ⟨s',t1,(hF n s (by omega)).trans t2,fun r r0 r1 => ?_⟩
  rw [t3 r r0 r1,o3 r r0 r1,ed];constructor
  ·rintro ((h | h) | ⟨x,hx,e⟩)
   ·exact .inl h
   ·exact .inr ⟨_,List.mem_cons_self,h.symm⟩
   ·exact .inr ⟨x,List.mem_cons_of_mem _ hx,e⟩
  ·rintro (h | ⟨x,hx,e⟩)
   ·exact .inl (.inl h)
   ·rcases List.mem_cons.1 hx with rfl | hx
    ·exact .inl (.inr e.symm)
    ·exact .inr ⟨x,hx,e⟩
theorem ztv {N:Nat} (hN:N<=16) {p q:Int->Prop} (h:∀ r:Int,0<=r->r < N->(p r↔q r)):zfF p N=zfF q N:=by
 obtain ⟨a1,a2⟩:=zgT hN p N (Nat.le_refl _);obtain ⟨b1,b2⟩:=zgT hN q N (Nat.le_refl _);refine a1.ext b1 fun r r0 r1 => ?_
 rw [a2 r r0 r1,b2 r r0 r1,h r r0 r1]
theorem zua {N:Nat} (hN:N<=16) {s:Int} (hs:SetN N s) {p:Int->Prop} (h:∀ r:Int,0<=r->r < N->(bitP s r↔p r)):s=zfF p N:=by
 obtain ⟨a1,a2⟩:=zgT hN p N (Nat.le_refl _);refine hs.ext a1 fun r r0 r1 => ?_
 rw [a2 r r0 r1,h r r0 r1];exact ⟨fun h=>⟨r1,h⟩,fun h=>h.2⟩
def nxS (gc:Int) (gs:List Int) (ek:List Ed) (s t:Int):Int:=zfF (fun q=>∃ r:Int,0<=r/\r < Nw gs/\bitP s r/\Rch gc gs ek r [t] q) (Nw gs)
open Classical in
def mkS (gs:List Int) (s:Int):Int:=if bitP s (3+(gs.length:Int)) then 1 else 0
theorem zyP (hs:gs.length<=3) {p:Int} {w:List Int} {B:List Kn} (hB:WB gs ek ev p w B):∀ x∈Xs gc gs B,0<=x.1/\x.1 < (Nw gs:Nat):=fun x hx=>by
 have hN:Nn gs=3+(gs.length:Int)+1:=rfl;have hM:Nw gs=3+gs.length+1:=rfl;rcases znf hx with hx | ⟨g0,g1,_⟩
 ·obtain ⟨b1,b2,_⟩:=hB.snd x hx;exact ⟨b1,by omega⟩
 ·omega
theorem zrH (he:EOk gs ek ev) {s t:Int} (hs:SetN (Nw gs) s):zc1 s t gc gs ek ev=some (nxS gc gs ek s t,gc,gs,ek,ev):=by
 have hN:Nn gs=3+(gs.length:Int)+1:=rfl;have hM:Nw gs=3+gs.length+1:=rfl;have hsh:=he.short;have key:∀ (f n:Nat) (next:Int),Nw gs - n=f->n<=Nw gs->SetN (Nw gs) next->(∀ q:Int,0<=q->q < (Nw gs:Nat)->(bitP next q↔∃ r:Int,0<=r/\r < n/\bitP s r/\Rch gc gs ek r [t] q))->zb7 s t (Nn gs) next (n:Int) gc gs ek ev=some (nxS gc gs ek s t,gc,gs,ek,ev):=by
  intro f
  induction f with
  | zero=>
   intro n next hf hn hs2 hb;obtain rfl:n=Nw gs:=by omega
   rw [zfy];unfold za3;rw [if_neg (by rw [decide_eq_true_iff];omega)]
   rw [zua (by omega) hs2 hb]
   rfl
  | succ f ih=>
   intro n next hf hn hs2 hb;rw [zfy];unfold za3;rw [if_pos (by rw [decide_eq_true_iff];omega),zdh (by omega)]
   by_cases c:bitP s (n:Int)
   ·rw [if_pos (decide_eq_true (show iand .i64 (ishr .i64 s (n:Int)) 1=1 from c))];obtain ⟨B,hB,hw⟩:=zms (gc:=gc) he (p:=(n:Int)) (by omega) (w:=[t]) (by simp)
    refine zai hw ?_
    have hXl:=zp5 (gc:=gc) (gs:=gs) B;have hBl:=hB.len;have hto:=zyP (gc:=gc) hsh hB;obtain ⟨s',k1,k2,k3⟩:=zwc (N:=Nw gs) (F:=fun nx t3=>zbq (n:Int) (zb7 s t (Nn gs)) (Xs gc gs B) gc gs ek ev nx t3) (fin:=fun nx=>zb7 s t (Nn gs) nx ((n:Int)+1) gc gs ek ev) hto
     (fun m z hm=>by
      have:=hto _ (za7 (l:=Xs gc gs B) (i:=(m:Int)) (by omega) (by omega))
      conv=>lhs;rw [zfz];unfold za4
      rw [if_pos (by simp;omega)]
      exact G_to (by omega) (G_to (by omega) (G_to (by omega) (G_to (by unfold fits;omega) rfl))))
     (fun z=>by
      rw [zfz];unfold za4;rw [if_neg (by simp)]
      exact G_to (by unfold fits;omega) rfl) _ 0 next rfl (by omega) hs2
    refine k2.trans (ih (n+1) s' (by omega) (by omega) k1 (fun q q0 q1 => ?_))
    rw [k3 q q0 q1,hb q q0 q1,List.drop_zero,zsL hB];constructor
    ·rintro (⟨r,r0,r1,r2⟩ | h)
     ·exact ⟨r,r0,by omega,r2⟩
     ·exact ⟨n,by omega,by omega,c,h⟩
    ·rintro ⟨r,r0,r1,r2,r3⟩;by_cases d:r=n
     ·subst d;exact .inr r3
     ·exact .inl ⟨r,r0,by omega,r2,r3⟩
   ·rw [if_neg (by rw [decide_eq_true_iff];exact c)]
    refine G_to (by unfold fits;omega) (ih (n+1) next (by omega) (by omega) hs2 (fun q q0 q1 => ?_))
    rw [hb q q0 q1];constructor
    ·rintro ⟨r,r0,r1,r2⟩;exact ⟨r,r0,by omega,r2⟩
    ·rintro ⟨r,r0,r1,r2,r3⟩;by_cases d:r=n
     ·subst d;exact absurd r2 c
     ·exact ⟨r,r0,by omega,r2,r3⟩
 unfold zc1;refine zai (ziz he) ?_
 exact key _ 0 0 rfl (by omega) (SetN.zero (by omega)).1 (fun q q0 q1=>⟨fun h=>absurd h ((SetN.zero (N:=Nw gs) (by omega)).2 q q0 q1),fun ⟨r,r0,r1,_⟩=>by omega⟩)
theorem bit01 {N:Nat} {s q:Int} (hs:SetN N s) (q0:0<=q) (q1:q<=16):iand .i64 (ishr .i64 s q) 1=open Classical in if bitP s q then 1 else 0:=by
 obtain ⟨hN,m,rfl,hm⟩:=hs;have hp:=zlY hN;obtain ⟨k,rfl⟩:∃ k:Nat,q=k:=⟨q.toNat,by omega⟩
 by_cases c:bitP (m:Int) (k:Int)
 ·rw [if_pos c];exact c
 ·rw [if_neg c];unfold bitP at c;have hs2:m >>> k<=m:=Nat.shiftRight_le m k;rw [zoj (by omega),show (1:Int)=((1:Nat):Int) from rfl,zq7 (by omega) (by omega),Nat.and_one_is_mod] at c ⊢
  omega
theorem zrI (he:EOk gs ek ev) {s:Int} (hs:SetN (Nw gs) s):zcy s gc gs ek ev=some (mkS gs s,gc,gs,ek,ev):=by
 have hN:Nn gs=3+(gs.length:Int)+1:=rfl;have hsh:=he.short;unfold zcy;refine zai (zfY he) (G_to (by dsimp only;omega) ?_)
 have e:Nn gs - 1=3+(gs.length:Int):=by omega
 dsimp only;rw [e,bit01 hs (by omega) (by omega)]
 rfl
theorem S_xok (hs:gs.length<=3) {first:Int} (hf:SetN (Nw gs) first):XOk (nxS gc gs ek) (mkS gs) 3 first 128 (SetN (Nw gs)):=by
 have hM:Nw gs=3+gs.length+1:=rfl;refine XOk.int (fun s h => ?_) hf (fun s h t _ _=>(zgT (by omega) _ _ (Nat.le_refl _)).1) (fun s h=>by unfold mkS;split<;>simp)
 have hb:=h.b;have:2 ^ Nw gs<=2 ^ 7:=Nat.pow_le_pow_right (by omega) (by omega)
 omega
theorem Pth.rng (he:EOk gs ek ev):∀ {w:List Int} {o:List Ed} {p q:Int},0<=p/\p < (Nw gs:Nat)->Pth ek p w o q->0<=q/\q < (Nw gs:Nat)
 | [],[],_,_,hp,h=>by
  have h:_=_:=h;subst h;exact hp
 | _::w,e::o,_,_,_,h=>by
  have hM:Nw gs=3+gs.length+1:=rfl;have hN:Nn gs=3+(gs.length:Int)+1:=rfl;have:=he.to _ h.2.2.1;exact Pth.rng he (by omega) h.2.2.2
 | [],_::_,_,_,_,h=>h.elim
 | _::_,[],_,_,_,h=>h.elim
theorem zxz (he:EOk gs ek ev) {p r:Int} {w:List Int} (hp:0<=p/\p < (Nw gs:Nat)) (h:Rch gc gs ek p w r):0<=r/\r < (Nw gs:Nat):=by
 rcases h with ⟨o,ho⟩ | ⟨g0,rfl,_⟩
 ·exact Pth.rng he hp ho
 ·have hM:Nw gs=3+gs.length+1:=rfl;omega
theorem zxh (he:EOk gs ek ev) {p:Int} (hp:0<=p/\p < (Nw gs:Nat)):∀ (w v:List Int),(∀ a∈w,0<=a/\a < 3)->w.foldl (nxS gc gs ek) (zfF (Rch gc gs ek p v) (Nw gs))=zfF (Rch gc gs ek p (v++w)) (Nw gs)
 | [],v,_=>by rw [List.append_nil];rfl
 | s::w,v,hw=>by
  have hM:Nw gs=3+gs.length+1:=rfl;have hN:Nn gs=3+(gs.length:Int)+1:=rfl;have hsh:=he.short;have e:nxS gc gs ek (zfF (Rch gc gs ek p v) (Nw gs)) s=zfF (Rch gc gs ek p (v++[s])) (Nw gs):=by
   unfold nxS;refine ztv (by omega) fun q q0 q1 => ?_
   rw [zxy he];have hok:=(zgT (N:=Nw gs) (by omega) (Rch gc gs ek p v) _ (Nat.le_refl _)).2
   constructor
   ·rintro ⟨r,r0,r1,r2,r3⟩;exact ⟨r,((hok r r0 r1).1 r2).2,r3⟩
   ·rintro ⟨r,h1,h2⟩;have hr:=zxz he hp h1;exact ⟨r,hr.1,hr.2,(hok r hr.1 hr.2).2 ⟨hr.2,h1⟩,h2⟩
  rw [List.foldl_cons,e,zxh he hp w (v++[s]) (fun a ha=>hw a (by simp [ha])),List.append_assoc]
  rfl
end
theorem zrr {d:Dt}:zma d=some (detE 3000 badD d):=by
 unfold zma detE;by_cases c1:d.1 < 1\/4 < d.1
 ·rw [if_pos c1]
  (try dsimp only);(repeat' first | (with_reducible refine G_to ?_ ?_;focus (first | omega | (unfold fits;omega) | (unfold room;(try simp only [List.length_append,List.length_cons,List.length_nil]);omega))) | (with_reducible refine zaq ?_ ?_) | (with_reducible refine zaF ?_) | (with_reducible refine zaE ?_) | (with_reducible refine za1 (fun _ => ?_) (fun _ => ?_)))<;>try (exfalso;omega)
  all_goals rfl
 rw [if_neg c1];by_cases c2:DBig 3000 d
 ·rw [if_pos c2];unfold DBig at c2
  (try dsimp only);(repeat' first | (with_reducible refine G_to ?_ ?_;focus (first | omega | (unfold fits;omega) | (unfold room;(try simp only [List.length_append,List.length_cons,List.length_nil]);omega))) | (with_reducible refine zaq ?_ ?_) | (with_reducible refine zaF ?_) | (with_reducible refine zaE ?_) | (with_reducible refine za1 (fun _ => ?_) (fun _ => ?_)))<;>try (exfalso;omega)
  all_goals rfl
 rw [if_neg c2];unfold DBig at c2;by_cases c3:(d.2.2.2.1.length:Int)=d.2.2.1.length
 case neg=>
  rw [if_pos (show DRag d from .inl c3)]
  (try dsimp only);(repeat' first | (with_reducible refine G_to ?_ ?_;focus (first | omega | (unfold fits;omega) | (unfold room;(try simp only [List.length_append,List.length_cons,List.length_nil]);omega))) | (with_reducible refine zaq ?_ ?_) | (with_reducible refine zaF ?_) | (with_reducible refine zaE ?_) | (with_reducible refine za1 (fun _ => ?_) (fun _ => ?_)))<;>try (exfalso;omega)
  all_goals rfl
 (try dsimp only);(repeat' first | (with_reducible refine G_to ?_ ?_;focus (first | omega | (unfold fits;omega) | (unfold room;(try simp only [List.length_append,List.length_cons,List.length_nil]);omega))) | (with_reducible refine zaq ?_ ?_) | (with_reducible refine zaF ?_) | (with_reducible refine zaE ?_) | (with_reducible refine za1 (fun _ => ?_) (fun _ => ?_)))<;>try (exfalso;omega)
 refine zfs (len:=(d.2.2.1.length:Int)) (bad:=fun t => ¬ ((ix d.2.2.1 t).length:Int)=d.1) (by omega) (fun t h0 h1=>⟨fun hb => ?_,fun hb => ?_⟩) (fun hh => ?_)
 ·rw [zhj];unfold zcp
  (try dsimp only);(repeat' first | (with_reducible refine G_to ?_ ?_;focus (first | omega | (unfold fits;omega) | (unfold room;(try simp only [List.length_append,List.length_cons,List.length_nil]);omega))) | (with_reducible refine zaq ?_ ?_) | (with_reducible refine zaF ?_) | (with_reducible refine zaE ?_) | (with_reducible refine za1 (fun _ => ?_) (fun _ => ?_)))<;>try (exfalso;omega)
  rw [if_pos (show DRag d from .inr (zej.2 ⟨t,by omega,by omega,hb⟩))]
 ·conv=>lhs;rw [zhj];unfold zcp
  (try dsimp only);(repeat' first | (with_reducible refine G_to ?_ ?_;focus (first | omega | (unfold fits;omega) | (unfold room;(try simp only [List.length_append,List.length_cons,List.length_nil]);omega))) | (with_reducible refine zaq ?_ ?_) | (with_reducible refine zaF ?_) | (with_reducible refine zaE ?_) | (with_reducible refine za1 (fun _ => ?_) (fun _ => ?_)))<;>try (exfalso;omega)
  all_goals first | rfl | (exfalso;exact hb ‹_›) | (exfalso;exact absurd ‹_› hb)
 rw [if_neg (show ¬ DRag d from fun h=>h.elim (fun e=>e c3) (fun h=>by obtain ⟨i,i0,i1,i2⟩:=zej.1 h;exact hh i i0 i1 i2))]
 rw [zhj];unfold zcp;by_cases c4:d.2.1 < 0\/(d.2.2.1.length:Int)<=d.2.1
 ·rw [if_pos (show DOut _ d from .inl c4)]
  (try dsimp only);(repeat' first | (with_reducible refine G_to ?_ ?_;focus (first | omega | (unfold fits;omega) | (unfold room;(try simp only [List.length_append,List.length_cons,List.length_nil]);omega))) | (with_reducible refine zaq ?_ ?_) | (with_reducible refine zaF ?_) | (with_reducible refine zaE ?_) | (with_reducible refine za1 (fun _ => ?_) (fun _ => ?_)))<;>try (exfalso;omega)
  all_goals rfl
 (try dsimp only);(repeat' first | (with_reducible refine G_to ?_ ?_;focus (first | omega | (unfold fits;omega) | (unfold room;(try simp only [List.length_append,List.length_cons,List.length_nil]);omega))) | (with_reducible refine zaq ?_ ?_) | (with_reducible refine zaF ?_) | (with_reducible refine zaE ?_) | (with_reducible refine za1 (fun _ => ?_) (fun _ => ?_)))<;>try (exfalso;omega)
 have hlen:∀ t:Int,0<=t->t < d.2.2.1.length->((ix d.2.2.1 t).length:Int)=d.1:=fun t a b=>Decidable.not_not.1 (hh t a b)
 refine zfs (len:=(d.2.2.1.length:Int)) (bad:=fun t=>∃ q∈ix d.2.2.1 t,q < 0\/(d.2.2.1.length:Int)<=q) (by omega) (fun t h0 h1=>⟨fun hb => ?_,fun hb => ?_⟩) (fun hh2 => ?_)
 ·rw [zga];unfold zbX
  (try dsimp only);(repeat' first | (with_reducible refine G_to ?_ ?_;focus (first | omega | (unfold fits;omega) | (unfold room;(try simp only [List.length_append,List.length_cons,List.length_nil]);omega))) | (with_reducible refine zaq ?_ ?_) | (with_reducible refine zaF ?_) | (with_reducible refine zaE ?_) | (with_reducible refine za1 (fun _ => ?_) (fun _ => ?_)))<;>try (exfalso;omega)
  have hlt:=hlen t h0 h1;refine zfs (len:=d.1) (bad:=fun a=>ix (ix d.2.2.1 t) a < 0\/(d.2.2.1.length:Int)<=ix (ix d.2.2.1 t) a) (by omega) (fun a a0 a1=>⟨fun hb => ?_,fun hb => ?_⟩) (fun hh3 => ?_)
  ·rw [zet];unfold zbu
   (try dsimp only);(repeat' first | (with_reducible refine G_to ?_ ?_;focus (first | omega | (unfold fits;omega) | (unfold room;(try simp only [List.length_append,List.length_cons,List.length_nil]);omega))) | (with_reducible refine zaq ?_ ?_) | (with_reducible refine zaF ?_) | (with_reducible refine zaE ?_) | (with_reducible refine za1 (fun _ => ?_) (fun _ => ?_)))<;>try (exfalso;omega)
   all_goals rw [if_pos (show DOut _ d from .inr (.inl (zej.2 ⟨t,h0,h1,zej.2 ⟨a,a0,by omega,hb⟩⟩)))]
  ·conv=>lhs;rw [zet];unfold zbu
   (try dsimp only);(repeat' first | (with_reducible refine G_to ?_ ?_;focus (first | omega | (unfold fits;omega) | (unfold room;(try simp only [List.length_append,List.length_cons,List.length_nil]);omega))) | (with_reducible refine zaq ?_ ?_) | (with_reducible refine zaF ?_) | (with_reducible refine zaE ?_) | (with_reducible refine za1 (fun _ => ?_) (fun _ => ?_)))<;>try (exfalso;omega)
   all_goals rfl
  ·exfalso;obtain ⟨i,i0,i1,i2⟩:=zej.1 hb;exact hh3 i i0 (by omega) i2
 ·conv=>lhs;rw [zga];unfold zbX
  (try dsimp only);(repeat' first | (with_reducible refine G_to ?_ ?_;focus (first | omega | (unfold fits;omega) | (unfold room;(try simp only [List.length_append,List.length_cons,List.length_nil]);omega))) | (with_reducible refine zaq ?_ ?_) | (with_reducible refine zaF ?_) | (with_reducible refine zaE ?_) | (with_reducible refine za1 (fun _ => ?_) (fun _ => ?_)))<;>try (exfalso;omega)
  have hlt:=hlen t h0 h1;refine zfs (len:=d.1) (bad:=fun a=>ix (ix d.2.2.1 t) a < 0\/(d.2.2.1.length:Int)<=ix (ix d.2.2.1 t) a) (by omega) (fun a a0 a1=>⟨fun hb' => ?_,fun hb => ?_⟩) (fun hh3 => ?_)
  ·exfalso;exact hb (zej.2 ⟨a,a0,by omega,hb'⟩)
  ·conv=>lhs;rw [zet];unfold zbu
   (try dsimp only);(repeat' first | (with_reducible refine G_to ?_ ?_;focus (first | omega | (unfold fits;omega) | (unfold room;(try simp only [List.length_append,List.length_cons,List.length_nil]);omega))) | (with_reducible refine zaq ?_ ?_) | (with_reducible refine zaF ?_) | (with_reducible refine zaE ?_) | (with_reducible refine za1 (fun _ => ?_) (fun _ => ?_)))<;>try (exfalso;omega)
   all_goals rfl
  ·rw [zet];unfold zbu
   (try dsimp only);(repeat' first | (with_reducible refine G_to ?_ ?_;focus (first | omega | (unfold fits;omega) | (unfold room;(try simp only [List.length_append,List.length_cons,List.length_nil]);omega))) | (with_reducible refine zaq ?_ ?_) | (with_reducible refine zaF ?_) | (with_reducible refine zaE ?_) | (with_reducible refine za1 (fun _ => ?_) (fun _ => ?_)))<;>try (exfalso;omega)
   all_goals rfl
 have hnr : ¬ ∃ r∈d.2.2.1,∃ q∈r,q < 0\/(d.2.2.1.length:Int)<=q:=fun h=>by
  obtain ⟨t,h0,h1,hb⟩:=zej.1 h;exact hh2 t h0 h1 hb
 rw [zga];unfold zbX
 (try dsimp only);(repeat' first | (with_reducible refine G_to ?_ ?_;focus (first | omega | (unfold fits;omega) | (unfold room;(try simp only [List.length_append,List.length_cons,List.length_nil]);omega))) | (with_reducible refine zaq ?_ ?_) | (with_reducible refine zaF ?_) | (with_reducible refine zaE ?_) | (with_reducible refine za1 (fun _ => ?_) (fun _ => ?_)))<;>try (exfalso;omega)
 refine zfs (len:=(d.2.2.1.length:Int)) (bad:=fun t=>(badD) (ix d.2.2.2.1 t)) (by omega) (fun t h0 h1=>⟨fun hb => ?_,fun hb => ?_⟩) (fun hh3 => ?_)
 ·rw [if_pos (show DOut _ d from .inr (.inr (zej.2 ⟨t,h0,by omega,hb⟩)))]
  rw [zgd];unfold zbY
  try dsimp only at hb
  (try dsimp only);(repeat' first | (with_reducible refine G_to ?_ ?_;focus (first | omega | (unfold fits;omega) | (unfold room;(try simp only [List.length_append,List.length_cons,List.length_nil]);omega))) | (with_reducible refine zaq ?_ ?_) | (with_reducible refine zaF ?_) | (with_reducible refine zaE ?_) | (with_reducible refine za1 (fun _ => ?_) (fun _ => ?_)))<;>try (exfalso;omega)
  all_goals first | rfl | (exfalso;exact hb.1 ‹_›) | (exfalso;exact hb.2 ‹_›)
 ·conv=>lhs;rw [zgd];unfold zbY
  try dsimp only at hb
  (try dsimp only);(repeat' first | (with_reducible refine G_to ?_ ?_;focus (first | omega | (unfold fits;omega) | (unfold room;(try simp only [List.length_append,List.length_cons,List.length_nil]);omega))) | (with_reducible refine zaq ?_ ?_) | (with_reducible refine zaF ?_) | (with_reducible refine zaE ?_) | (with_reducible refine za1 (fun _ => ?_) (fun _ => ?_)))<;>try (exfalso;omega)
  all_goals first | rfl | (exfalso;exact hb ⟨‹_›,‹_›⟩)
 rw [if_neg (show ¬ DOut _ d from fun h=>h.elim c4 (fun h=>h.elim hnr (fun h=>by
  obtain ⟨t,h0,h1,hb⟩:=zej.1 h;exact hh3 t h0 (by omega) hb)))]
 rw [zgd];unfold zbY
 (try dsimp only);(repeat' first | (with_reducible refine G_to ?_ ?_;focus (first | omega | (unfold fits;omega) | (unfold room;(try simp only [List.length_append,List.length_cons,List.length_nil]);omega))) | (with_reducible refine zaq ?_ ?_) | (with_reducible refine zaF ?_) | (with_reducible refine zaE ?_) | (with_reducible refine za1 (fun _ => ?_) (fun _ => ?_)))<;>try (exfalso;omega)
 all_goals rfl
theorem zrq {d:Int×Int×List (List Int)×List Int×Unit} {L:Int} (h:Tab L d.2.2.1) {w:List Int} (hw:∀ a∈w,0<=a/\a < L) (hl:w.length<=1000000) {q:Int} (q0:0<=q) (q1:q < d.2.2.1.length):zom d q w=some (wlk d.2.2.1 q w):=by
 have key:∀ (n:Nat) (t q:Int),(w.length - t).toNat=n->0<=t->t<=w.length->0<=q->q < d.2.2.1.length->ziq d w q t=some (wlk d.2.2.1 q (w.drop t.toNat)):=by
  intro n
  induction n with
  | zero=>
   intro t q hn h0 h1 q0 q1;rw [zkJ];unfold zcP
   (try dsimp only);(repeat' first | (with_reducible refine G_to ?_ ?_;focus (first | omega | (unfold fits;omega) | (unfold room;(try simp only [List.length_append,List.length_cons,List.length_nil]);omega))) | (with_reducible refine zaq ?_ ?_) | (with_reducible refine zaF ?_) | (with_reducible refine zaE ?_) | (with_reducible refine za1 (fun _ => ?_) (fun _ => ?_)))<;>try (exfalso;omega)
   rw [List.drop_of_length_le (by omega)];rfl
  | succ n ih=>
   intro t q hn h0 h1 q0 q1;have ha:=hw _ (za7 h0 (by omega:t < w.length))
   have hr:=h.rowlen q0 q1;have hs:=h.stpb q0 q1 ha.1 ha.2;rw [zkJ];unfold zcP
   (try dsimp only);(repeat' first | (with_reducible refine G_to ?_ ?_;focus (first | omega | (unfold fits;omega) | (unfold room;(try simp only [List.length_append,List.length_cons,List.length_nil]);omega))) | (with_reducible refine zaq ?_ ?_) | (with_reducible refine zaF ?_) | (with_reducible refine zaE ?_) | (with_reducible refine za1 (fun _ => ?_) (fun _ => ?_)))<;>try (exfalso;omega)
   rw [zx1 h0 (by omega)]
   exact ih (t+1) _ (by omega) (by omega) (by omega) hs.1 hs.2
 exact key _ 0 q rfl (by omega) (by omega) q0 q1
theorem zsq {d:Dt} (h1:(d.2.2.1.length:Int)<=1000000) (h2:(d.2.2.2.1.length:Int)<=1000000) (h3:∀ r∈d.2.2.1,(r.length:Int)<=1000000):zps d d=some true:=by
 have k14:∀ (i:Int) {r9},0<=i->i < d.2.2.1.length->∀ (n:Nat) (k:Int),((ix d.2.2.1 i).length - k).toNat=n->0<=k->k<=(ix d.2.2.1 i).length->zdX d d i r9 k=r9 (i+1):=by
  intro i r9 i0 i1 n;have hr:=h3 _ (za7 i0 i1)
  induction n with
  | zero=>
   intro k hn k0 k1;rw [zkT];unfold zcR;rw [zdh (by omega),if_neg (by simp;omega)]
   exact G_to (by unfold fits;omega) rfl
  | succ n ih=>
   intro k hn k0 k1;rw [zkT];unfold zcR;rw [zdh (by omega),if_pos (by simp;omega),if_neg (by simp)]
   exact G_to (by omega) (G_to (by omega) (G_to (by omega) (G_to (by omega) (G_to (by unfold fits;omega) (ih (k+1) (by omega) (by omega) (by omega))))))
 have k9:∀ (n:Nat) (i:Int),(d.2.2.1.length - i).toNat=n->0<=i->i<=d.2.2.1.length->zkj d d i=some true:=by
  intro n
  induction n with
  | zero=>
   intro i hn i0 i1;rw [zmi];unfold zda;rw [if_neg (by simp;omega)]
  | succ n ih=>
   intro i hn i0 i1;rw [zmi];unfold zda;rw [if_pos (by simp;omega),if_neg (by simp)]
   refine G_to (by omega) (G_to (by omega) ?_)
   rw [k14 i i0 (by omega) _ 0 rfl (by omega) (by omega)]
   exact ih (i+1) (by omega) (by omega) (by omega)
 have k4:∀ (n:Nat) (i:Int),(d.2.2.2.1.length - i).toNat=n->0<=i->i<=d.2.2.2.1.length->zki d d i=some true:=by
  intro n
  induction n with
  | zero=>
   intro i hn i0 i1;rw [zmh];unfold zc9;rw [if_neg (by simp;omega)]
   exact k9 _ 0 rfl (by omega) (by omega)
  | succ n ih=>
   intro i hn i0 i1;rw [zmh];unfold zc9;rw [if_pos (by simp;omega),if_neg (by simp)]
   exact G_to (by omega) (G_to (by omega) (G_to (by unfold fits;omega) (ih (i+1) (by omega) (by omega) (by omega))))
 unfold zps;rw [if_neg (by simp),if_neg (by simp),if_neg (by simp),if_neg (by simp)]
 exact k4 _ 0 rfl (by omega) (by omega)
theorem LeastOk.sizes {d o:Dt} {C Q:List Int} {K:Nat} (hd:DOk 3000 badD d) (h:LeastOk d o C Q K):(o.2.2.1.length:Int)<=3000/\(o.2.2.2.1.length:Int)<=3000/\∀ r∈o.2.2.1,(r.length:Int)<=4:=by
 have h1:=h.part.q.le h.fin;have h2:=h.fin.le;have h3:=hd.n1;have h4:=h.all;have h5:=h.part.l3;have h6:=hd.let1;refine ⟨by omega,by omega,fun r hr => ?_⟩
 obtain ⟨j,j0,j1,rfl⟩:=(zej (P:=fun x=>x=r)).1 ⟨r,hr,rfl⟩
 have:=(h.part.row j j0 j1).len;omega
abbrev Psh:=Int×Int×Int×(List Int)×Unit
abbrev Cfg:=Int×(List Int)×Unit
def off3 (n:Int):Prop:=n < 0\/3<=n
def zqz (l:List Psh):Prop:=8 < l.length
def zuY (l:List Psh):Prop:=∃ r∈l,2 < r.2.2.2.1.length
def POut (l:List Psh):Prop:=∃ r∈l,off3 r.1\/off3 r.2.1\/off3 r.2.2.1\/∃ q∈r.2.2.2.1,off3 q
open Classical in
def pshE (l:List Psh):Int:=if zqz l then 1 else if zuY l then 1 else if POut l then 2 else 0
open Classical in
def cfgE (c:Cfg):Int:=if 20 < c.2.1.length then 1 else if off3 c.1\/∃ q∈c.2.1,off3 q then 2 else 0
theorem zlS (n:Int):zc5 (zfI n) (off3 n):=by
 unfold zfI off3;by_cases h:n < 0
 ·rw [if_pos (decide_eq_true h)];exact zc5.of (by simp [h])
 ·rw [if_neg (by simpa using h)];exact zc5.dec (by omega)
theorem zoB {s:List Int} (hs:s.length<=1000000):zc5 (zcr s) (∃ q∈s,off3 q):=
 zhd (f:=zfI) (zhZ s) (by omega) (fun x _=>zlS x)
theorem ziV {l:List Psh}:zit l=some (pshE l):=by
 unfold zit pshE;by_cases c1:zqz l
 ·rw [if_pos c1];unfold zqz at c1
  (try dsimp only);(repeat' first | (with_reducible refine G_to ?_ ?_;focus (first | omega | (unfold fits;omega) | (unfold room;(try simp only [List.length_append,List.length_cons,List.length_nil]);omega))) | (with_reducible refine zaq ?_ ?_) | (with_reducible refine zaF ?_) | (with_reducible refine zaE ?_) | (with_reducible refine za1 (fun _ => ?_) (fun _ => ?_)))<;>try (exfalso;omega)
  all_goals rfl
 rw [if_neg c1];unfold zqz at c1
 (try dsimp only);(repeat' first | (with_reducible refine G_to ?_ ?_;focus (first | omega | (unfold fits;omega) | (unfold room;(try simp only [List.length_append,List.length_cons,List.length_nil]);omega))) | (with_reducible refine zaq ?_ ?_) | (with_reducible refine zaF ?_) | (with_reducible refine zaE ?_) | (with_reducible refine za1 (fun _ => ?_) (fun _ => ?_)))<;>try (exfalso;omega)
 have k1:zc5 (zdY l) (zuY l):=zhd (f:=ziu) (zi6 l) (by omega) (fun x _=>zc5.dec (by omega))
 refine k1.to (fun h=>by rw [if_pos h]) (fun h => ?_)
 rw [if_neg h];have k2:zc5 (zdb l) (POut l):=zhd (f:=zfG) (zhX l) (by omega) (fun x hx=>by
  unfold zfG;have hw:x.2.2.2.1.length<=2:=by
   by_cases e:2 < x.2.2.2.1.length
   ·exact absurd ⟨x,hx,e⟩ h
   ·omega
  obtain ⟨b1,e1,q1⟩:=zlS x.1;obtain ⟨b2,e2,q2⟩:=zlS x.2.1;obtain ⟨b3,e3,q3⟩:=zlS x.2.2.1;obtain ⟨b4,e4,q4⟩:=zoB (s:=x.2.2.2.1) (by omega)
  rw [e1,e2,e3,e4]
  cases b1<;>cases b2<;>cases b3<;>cases b4<;>first | exact zc5.of (by simp only [<- q1,<- q2,<- q3,<- q4];simp) )
 exact k2.to (fun h=>by rw [if_pos h]) (fun h=>by rw [if_neg h])
theorem zpW {l:List Psh}:zl1 l=some (pshE l):=by
 unfold zl1 pshE;by_cases c1:zqz l
 ·rw [if_pos c1];unfold zqz at c1
  (try dsimp only);(repeat' first | (with_reducible refine G_to ?_ ?_;focus (first | omega | (unfold fits;omega) | (unfold room;(try simp only [List.length_append,List.length_cons,List.length_nil]);omega))) | (with_reducible refine zaq ?_ ?_) | (with_reducible refine zaF ?_) | (with_reducible refine zaE ?_) | (with_reducible refine za1 (fun _ => ?_) (fun _ => ?_)))<;>try (exfalso;omega)
  all_goals rfl
 rw [if_neg c1];unfold zqz at c1
 (try dsimp only);(repeat' first | (with_reducible refine G_to ?_ ?_;focus (first | omega | (unfold fits;omega) | (unfold room;(try simp only [List.length_append,List.length_cons,List.length_nil]);omega))) | (with_reducible refine zaq ?_ ?_) | (with_reducible refine zaF ?_) | (with_reducible refine zaE ?_) | (with_reducible refine za1 (fun _ => ?_) (fun _ => ?_)))<;>try (exfalso;omega)
 refine zfs (len:=(l.length:Int)) (bad:=fun t=>2 < (ix l t).2.2.2.1.length) (by omega) (fun t h0 h1=>⟨fun hb => ?_,fun hb => ?_⟩) (fun hh => ?_)
 ·rw [zf4];unfold zbU
  (try dsimp only);(repeat' first | (with_reducible refine G_to ?_ ?_;focus (first | omega | (unfold fits;omega) | (unfold room;(try simp only [List.length_append,List.length_cons,List.length_nil]);omega))) | (with_reducible refine zaq ?_ ?_) | (with_reducible refine zaF ?_) | (with_reducible refine zaE ?_) | (with_reducible refine za1 (fun _ => ?_) (fun _ => ?_)))<;>try (exfalso;omega)
  rw [if_pos (show zuY l from zej.2 ⟨t,h0,h1,hb⟩)]
 ·conv=>lhs;rw [zf4];unfold zbU
  (try dsimp only);(repeat' first | (with_reducible refine G_to ?_ ?_;focus (first | omega | (unfold fits;omega) | (unfold room;(try simp only [List.length_append,List.length_cons,List.length_nil]);omega))) | (with_reducible refine zaq ?_ ?_) | (with_reducible refine zaF ?_) | (with_reducible refine zaE ?_) | (with_reducible refine za1 (fun _ => ?_) (fun _ => ?_)))<;>try (exfalso;omega)
  all_goals rfl
 have hw : ¬ zuY l:=fun h=>by obtain ⟨t,h0,h1,hb⟩:=zej.1 h;exact hh t h0 h1 hb
 rw [if_neg hw,zf4];unfold zbU
 (try dsimp only);(repeat' first | (with_reducible refine G_to ?_ ?_;focus (first | omega | (unfold fits;omega) | (unfold room;(try simp only [List.length_append,List.length_cons,List.length_nil]);omega))) | (with_reducible refine zaq ?_ ?_) | (with_reducible refine zaF ?_) | (with_reducible refine zaE ?_) | (with_reducible refine za1 (fun _ => ?_) (fun _ => ?_)))<;>try (exfalso;omega)
 refine zfs (len:=(l.length:Int)) (bad:=fun t=>off3 (ix l t).1\/off3 (ix l t).2.1\/off3 (ix l t).2.2.1\/∃ q∈(ix l t).2.2.2.1,off3 q) (by omega) (fun t h0 h1=>⟨fun hb => ?_,fun hb => ?_⟩) (fun hh2 => ?_)
 ·rw [if_pos (show POut l from zej.2 ⟨t,h0,h1,hb⟩)];have hl:=hh t h0 h1;rw [zf5];unfold zbV
  (try dsimp only);(repeat' first | (with_reducible refine G_to ?_ ?_;focus (first | omega | (unfold fits;omega) | (unfold room;(try simp only [List.length_append,List.length_cons,List.length_nil]);omega))) | (with_reducible refine zaq ?_ ?_) | (with_reducible refine zaF ?_) | (with_reducible refine zaE ?_) | (with_reducible refine za1 (fun _ => ?_) (fun _ => ?_)))<;>try (exfalso;omega)
  all_goals try rfl
  have hq:∃ q∈(ix l t).2.2.2.1,off3 q:=by
   unfold off3 at hb;rcases hb with h | h | h | h
   ·omega
   ·omega
   ·omega
   ·exact h
  refine zfs (len:=((ix l t).2.2.2.1.length:Int)) (bad:=fun k=>off3 (ix (ix l t).2.2.2.1 k)) (by omega) (fun k k0 k1=>⟨fun hb => ?_,fun hb => ?_⟩) (fun hh3 => ?_)
  ·unfold off3 at hb;rw [zdR];unfold zbd
   (try dsimp only);(repeat' first | (with_reducible refine G_to ?_ ?_;focus (first | omega | (unfold fits;omega) | (unfold room;(try simp only [List.length_append,List.length_cons,List.length_nil]);omega))) | (with_reducible refine zaq ?_ ?_) | (with_reducible refine zaF ?_) | (with_reducible refine zaE ?_) | (with_reducible refine za1 (fun _ => ?_) (fun _ => ?_)))<;>try (exfalso;omega)
   all_goals rfl
  ·unfold off3 at hb
   conv=>lhs;rw [zdR];unfold zbd
   (try dsimp only);(repeat' first | (with_reducible refine G_to ?_ ?_;focus (first | omega | (unfold fits;omega) | (unfold room;(try simp only [List.length_append,List.length_cons,List.length_nil]);omega))) | (with_reducible refine zaq ?_ ?_) | (with_reducible refine zaF ?_) | (with_reducible refine zaE ?_) | (with_reducible refine za1 (fun _ => ?_) (fun _ => ?_)))<;>try (exfalso;omega)
   all_goals rfl
  ·obtain ⟨k,k0,k1,kb⟩:=zej.1 hq;exact absurd kb (hh3 k k0 k1)
 ·have hl:=hh t h0 h1;have hb1 : ¬ off3 (ix l t).1:=fun h=>hb (.inl h)
  have hb2 : ¬ off3 (ix l t).2.1:=fun h=>hb (.inr (.inl h))
  have hb3 : ¬ off3 (ix l t).2.2.1:=fun h=>hb (.inr (.inr (.inl h)))
  have hb4 : ¬ ∃ q∈(ix l t).2.2.2.1,off3 q:=fun h=>hb (.inr (.inr (.inr h)))
  unfold off3 at hb1 hb2 hb3
  conv=>lhs;rw [zf5];unfold zbV
  (try dsimp only);(repeat' first | (with_reducible refine G_to ?_ ?_;focus (first | omega | (unfold fits;omega) | (unfold room;(try simp only [List.length_append,List.length_cons,List.length_nil]);omega))) | (with_reducible refine zaq ?_ ?_) | (with_reducible refine zaF ?_) | (with_reducible refine zaE ?_) | (with_reducible refine za1 (fun _ => ?_) (fun _ => ?_)))<;>try (exfalso;omega)
  refine zfs (len:=((ix l t).2.2.2.1.length:Int)) (bad:=fun k=>off3 (ix (ix l t).2.2.2.1 k)) (by omega) (fun k k0 k1=>⟨fun hb => ?_,fun hb => ?_⟩) (fun hh3 => ?_)
  ·exact absurd (zej.2 ⟨k,k0,k1,hb⟩) hb4
  ·unfold off3 at hb
   conv=>lhs;rw [zdR];unfold zbd
   (try dsimp only);(repeat' first | (with_reducible refine G_to ?_ ?_;focus (first | omega | (unfold fits;omega) | (unfold room;(try simp only [List.length_append,List.length_cons,List.length_nil]);omega))) | (with_reducible refine zaq ?_ ?_) | (with_reducible refine zaF ?_) | (with_reducible refine zaE ?_) | (with_reducible refine za1 (fun _ => ?_) (fun _ => ?_)))<;>try (exfalso;omega)
   all_goals rfl
  ·rw [zdR];unfold zbd
   (try dsimp only);(repeat' first | (with_reducible refine G_to ?_ ?_;focus (first | omega | (unfold fits;omega) | (unfold room;(try simp only [List.length_append,List.length_cons,List.length_nil]);omega))) | (with_reducible refine zaq ?_ ?_) | (with_reducible refine zaF ?_) | (with_reducible refine zaE ?_) | (with_reducible refine za1 (fun _ => ?_) (fun _ => ?_)))<;>try (exfalso;omega)
   all_goals rfl
 ·rw [if_neg (show ¬ POut l from fun h=>by obtain ⟨t,h0,h1,hb⟩:=zej.1 h;exact hh2 t h0 h1 hb)]
  rw [zf5];unfold zbV
  (try dsimp only);(repeat' first | (with_reducible refine G_to ?_ ?_;focus (first | omega | (unfold fits;omega) | (unfold room;(try simp only [List.length_append,List.length_cons,List.length_nil]);omega))) | (with_reducible refine zaq ?_ ?_) | (with_reducible refine zaF ?_) | (with_reducible refine zaE ?_) | (with_reducible refine za1 (fun _ => ?_) (fun _ => ?_)))<;>try (exfalso;omega)
  all_goals rfl
theorem ze0 {c:Cfg}:zg8 c=some (cfgE c):=by
 unfold zg8 cfgE;by_cases c1:20 < c.2.1.length
 ·rw [if_pos c1]
  (try dsimp only);(repeat' first | (with_reducible refine G_to ?_ ?_;focus (first | omega | (unfold fits;omega) | (unfold room;(try simp only [List.length_append,List.length_cons,List.length_nil]);omega))) | (with_reducible refine zaq ?_ ?_) | (with_reducible refine zaF ?_) | (with_reducible refine zaE ?_) | (with_reducible refine za1 (fun _ => ?_) (fun _ => ?_)))<;>try (exfalso;omega)
  all_goals rfl
 rw [if_neg c1]
 (try dsimp only);(repeat' first | (with_reducible refine G_to ?_ ?_;focus (first | omega | (unfold fits;omega) | (unfold room;(try simp only [List.length_append,List.length_cons,List.length_nil]);omega))) | (with_reducible refine zaq ?_ ?_) | (with_reducible refine zaF ?_) | (with_reducible refine zaE ?_) | (with_reducible refine za1 (fun _ => ?_) (fun _ => ?_)))<;>try (exfalso;omega)
 refine (zlS c.1).to (fun h=>by rw [if_pos (.inl h)]) (fun h => ?_)
 refine (zoB (s:=c.2.1) (by omega)).to (fun h=>by rw [if_pos (.inr h)]) (fun h2=>by rw [if_neg (fun hh=>hh.elim h h2)])
theorem zjB {c:Cfg}:zhK c=some (cfgE c):=by
 unfold zhK cfgE;by_cases c1:20 < c.2.1.length
 ·rw [if_pos c1]
  (try dsimp only);(repeat' first | (with_reducible refine G_to ?_ ?_;focus (first | omega | (unfold fits;omega) | (unfold room;(try simp only [List.length_append,List.length_cons,List.length_nil]);omega))) | (with_reducible refine zaq ?_ ?_) | (with_reducible refine zaF ?_) | (with_reducible refine zaE ?_) | (with_reducible refine za1 (fun _ => ?_) (fun _ => ?_)))<;>try (exfalso;omega)
  all_goals rfl
 rw [if_neg c1];by_cases c2:off3 c.1
 ·rw [if_pos (show off3 c.1\/∃ q∈c.2.1,off3 q from .inl c2)];unfold off3 at c2
  (try dsimp only);(repeat' first | (with_reducible refine G_to ?_ ?_;focus (first | omega | (unfold fits;omega) | (unfold room;(try simp only [List.length_append,List.length_cons,List.length_nil]);omega))) | (with_reducible refine zaq ?_ ?_) | (with_reducible refine zaF ?_) | (with_reducible refine zaE ?_) | (with_reducible refine za1 (fun _ => ?_) (fun _ => ?_)))<;>try (exfalso;omega)
  all_goals rfl
 have c2':=c2;unfold off3 at c2'
 (try dsimp only);(repeat' first | (with_reducible refine G_to ?_ ?_;focus (first | omega | (unfold fits;omega) | (unfold room;(try simp only [List.length_append,List.length_cons,List.length_nil]);omega))) | (with_reducible refine zaq ?_ ?_) | (with_reducible refine zaF ?_) | (with_reducible refine zaE ?_) | (with_reducible refine za1 (fun _ => ?_) (fun _ => ?_)))<;>try (exfalso;omega)
 refine zfs (len:=(c.2.1.length:Int)) (bad:=fun k=>off3 (ix c.2.1 k)) (by omega) (fun k k0 k1=>⟨fun hb => ?_,fun hb => ?_⟩) (fun hh => ?_)
 ·rw [if_pos (show off3 c.1\/∃ q∈c.2.1,off3 q from .inr (zej.2 ⟨k,k0,k1,hb⟩))];unfold off3 at hb;rw [zfq];unfold zby
  (try dsimp only);(repeat' first | (with_reducible refine G_to ?_ ?_;focus (first | omega | (unfold fits;omega) | (unfold room;(try simp only [List.length_append,List.length_cons,List.length_nil]);omega))) | (with_reducible refine zaq ?_ ?_) | (with_reducible refine zaF ?_) | (with_reducible refine zaE ?_) | (with_reducible refine za1 (fun _ => ?_) (fun _ => ?_)))<;>try (exfalso;omega)
  all_goals rfl
 ·unfold off3 at hb
  conv=>lhs;rw [zfq];unfold zby
  (try dsimp only);(repeat' first | (with_reducible refine G_to ?_ ?_;focus (first | omega | (unfold fits;omega) | (unfold room;(try simp only [List.length_append,List.length_cons,List.length_nil]);omega))) | (with_reducible refine zaq ?_ ?_) | (with_reducible refine zaF ?_) | (with_reducible refine zaE ?_) | (with_reducible refine za1 (fun _ => ?_) (fun _ => ?_)))<;>try (exfalso;omega)
  all_goals rfl
 ·rw [if_neg (fun h=>h.elim c2 (fun h=>by obtain ⟨t,h0,h1,hb⟩:=zej.1 h;exact hh t h0 h1 hb))]
  rw [zfq];unfold zby
  (try dsimp only);(repeat' first | (with_reducible refine G_to ?_ ?_;focus (first | omega | (unfold fits;omega) | (unfold room;(try simp only [List.length_append,List.length_cons,List.length_nil]);omega))) | (with_reducible refine zaq ?_ ?_) | (with_reducible refine zaF ?_) | (with_reducible refine zaE ?_) | (with_reducible refine za1 (fun _ => ?_) (fun _ => ?_)))<;>try (exfalso;omega)
  all_goals rfl
section
variable {l:List Rl} {gc:Int} {gs:List Int} {ek:List Ed} {ev:List Kn}
structure DetOk (gc:Int) (gs:List Int) (ek:List Ed) (c:Int) (o:Dt):Prop where
 ok:DOk 3000 badD o
 l3:o.1=3
 least:zme o=some o
 same:zps o o=some true
 acc:∀ w:List Int,(∀ a∈w,0<=a/\a < 3)->w.length<=1000->zc5 (zkg o w) (Rch gc gs ek c w (3+(gs.length:Int)))
theorem zxK (he:EOk gs ek ev) {c:Int} (hc:0<=c/\c < 3):∃ d o,zfU 3 (zfF (Rch gc gs ek c []) (Nw gs)) 3000 gc gs ek ev=some (d,true,gc,gs,ek,ev)/\zd2 d=some o/\DetOk gc gs ek c o:=by
 have hM:Nw gs=3+gs.length+1:=rfl;have hsh:=he.short;have hf:=(zgT (N:=Nw gs) (by omega) (Rch gc gs ek c []) _ (Nat.le_refl _)).1
 have hx:=S_xok (gc:=gc) (ek:=ek) hsh hf;obtain ⟨n,n1,n2,n3⟩:=zww hx;have hd:=zwu hx (by omega) (by omega) n2 n3
 have hp:=znU (gc:=gc) (gs:=gs) (ek:=ek) (ev:=ev) (g:=3) hx (by omega) (by omega) (fun s hs t _ _=>zrH he hs) (fun s hs=>zrI he hs) n2 n3
 obtain ⟨o,C,Q,K,h1,h2,h3⟩:=zqg hd;have ho:=h1.dok hd;obtain ⟨o',C',Q',K',g1,g2,g3⟩:=zqg ho;have hL:(xAut (nxS gc gs ek) (mkS gs) 3 (zfF (Rch gc gs ek c []) (Nw gs)) n).1=3:=rfl;have hlet:o.1=3:=h1.let1.trans hL;have hoo:o=o':=zvX hd ho h1 g1 (hL.trans hlet.symm) (fun w hw=>(zqh hd h1 hw).2.2.symm)
 obtain ⟨z1,z2,z3⟩:=h1.sizes hd;refine ⟨_,o,hp,h2,ho,hlet,by rw [<- hoo] at g3;exact g3,zsq (by omega) (by omega) (fun r hr=>by have:=z3 r hr;omega),fun w hw hl => ?_⟩
 obtain ⟨m1,m2,m3⟩:=zqh hd h1 (w:=w) hw;have hst:=ho.st;have hmk:=ho.mkl;obtain ⟨f1,f2,f3⟩:=zmv hx n n2;have hpos:0 < n:=by
  refine Nat.pos_of_ne_zero fun e => ?_
  subst e;simp [xSt] at n3
 obtain ⟨w1,w2,w3⟩:=zpN hx n2 n3 w 0 (by omega) (by omega) hw
 rw [f3.z] at w3;have e:=f3.mark _ w1 w2;have hmark:ix (xAut (nxS gc gs ek) (mkS gs) 3 (zfF (Rch gc gs ek c []) (Nw gs)) n).2.2.2.1 (wlk (xAut (nxS gc gs ek) (mkS gs) 3 (zfF (Rch gc gs ek c []) (Nw gs)) n).2.2.1 0 w)=mkS gs (zfF (Rch gc gs ek c w) (Nw gs)):=by
  have hw3:=zxh (gc:=gc) he (p:=c) (by omega) w [] hw
  rw [List.nil_append] at hw3;rw [<- hw3,<- w3];exact e
 have m3':ix o.2.2.2.1 (wlk o.2.2.1 o.2.1 w)=mkS gs (zfF (Rch gc gs ek c w) (Nw gs)):=m3.trans hmark;have hok:=(zgT (N:=Nw gs) (by omega) (Rch gc gs ek c w) _ (Nat.le_refl _)).2 (3+(gs.length:Int)) (by omega) (by omega)
 unfold zkg;have ha:zom (o.1,(o.2.1,(o.2.2.1,(o.2.2.2.1,())))) o.2.1 w=some (wlk o.2.2.1 o.2.1 w):=zrq (d:=o) ho.tab (fun a ha=>by rw [hlet];exact hw a ha) (by omega) hst.1 hst.2
 rw [ha];show zc5 (G _ (some (decide (ix o.2.2.2.1 (wlk o.2.2.1 o.2.1 w)=1)))) _;rw [zdh (by omega),m3']
 refine zc5.dec ?_
 unfold mkS;by_cases hbit:bitP (zfF (Rch gc gs ek c w) (Nw gs)) (3+(gs.length:Int))
 ·rw [if_pos hbit];exact ⟨fun _=>(hok.1 hbit).2,fun _=>rfl⟩
 ·rw [if_neg hbit];exact ⟨fun h=>by omega,fun h=>absurd (hok.2 ⟨by omega,h⟩) hbit⟩
theorem zsR (he:EOk gs ek ev):∃ ds,zcb 0 gc gs ek ev []=some (0,ds)/\ds.length=3/\∀ c:Int,0<=c->c < 3->DetOk gc gs ek c (ix ds c):=by
 have hM:Nw gs=3+gs.length+1:=rfl;have hN:Nn gs=3+(gs.length:Int)+1:=rfl;have hsh:=he.short;have key:∀ (f n:Nat) (ds:List Dt),3 - n=f->n<=3->ds.length=n->(∀ c:Int,0<=c->c < n->DetOk gc gs ek c (ix ds c))->∃ ds',zcb (n:Int) gc gs ek ev ds=some (0,ds')/\ds'.length=3/\∀ c:Int,0<=c->c < 3->DetOk gc gs ek c (ix ds' c):=by
  intro f
  induction f with
  | zero=>
   intro n ds hf hn hl h;obtain rfl:n=3:=by omega
   refine ⟨ds,?_,hl,h⟩
   rw [zg5];unfold zbr;rw [if_neg (by simp)]
  | succ f ih=>
   intro n ds hf hn hl h;obtain ⟨B,hB,hw⟩:=zms (gc:=gc) he (p:=(n:Int)) (by omega) (w:=[]) (by simp)
   obtain ⟨d,o,d1,d2,d3⟩:=zxK (gc:=gc) he (c:=(n:Int)) (by omega)
   have hXl:=zp5 (gc:=gc) (gs:=gs) B;have hBl:=hB.len;have hto:=zyP (gc:=gc) hsh hB;obtain ⟨ds',k1,k2,k3⟩:=ih (n+1) (ds++[o]) (by omega) (by omega) (by simp [hl]) (fun c c0 c1=>by
    by_cases e:c=n
    ·subst e;rw [<- hl,zaN,hl];exact d3
    ·rw [zas c0 (by omega)];exact h c c0 (by omega))
   refine ⟨ds',?_,k2,k3⟩
   rw [zg5];unfold zbr;rw [if_pos (by rw [decide_eq_true_iff];omega)]
   refine zai hw ?_
   obtain ⟨s',t1,t2,t3⟩:=zwc (N:=Nw gs) (F:=fun nx t3=>zbI (n:Int) ds (zcb) (Xs gc gs B) gc gs ek ev nx t3) (fin:=fun nx=>(zfU 3 nx 3000 gc gs ek ev).bind fun y=>(zd2 y.1).bind fun z=>G (room ds [z] 64) (G (fits ((n:Int)+1)) (zcb ((n:Int)+1) y.2.2.1 y.2.2.2.1 y.2.2.2.2.1 y.2.2.2.2.2 (ds++[z])))) hto
     (fun m z hm=>by
      have:=hto _ (za7 (l:=Xs gc gs B) (i:=(m:Int)) (by omega) (by omega))
      conv=>lhs;rw [zgp];unfold zbh
      rw [if_pos (by simp;omega)]
      exact G_to (by omega) (G_to (by omega) (G_to (by omega) (G_to (by unfold fits;omega) rfl))))
     (fun z=>by
      rw [zgp];unfold zbh;rw [if_neg (by simp)]) _ 0 0 rfl (by omega) (SetN.zero (N:=Nw gs) (by omega)).1
   have es:s'=zfF (Rch gc gs ek (n:Int) []) (Nw gs):=zua (by omega) t1 (fun r r0 r1=>by
    rw [t3 r r0 r1,List.drop_zero,zsL hB];exact ⟨fun h=>h.elim (fun h=>absurd h ((SetN.zero (N:=Nw gs) (by omega)).2 r r0 r1)) id,.inr⟩)
   refine t2.trans ?_
   rw [es];exact zai d1 (zai d2 (G_to (by unfold room;simp;omega) (G_to (by unfold fits;omega) k1)))
 exact key _ 0 [] rfl (by omega) rfl (fun c c0 c1=>by omega)
end
section
variable {l:List Rl}
theorem zrN {r:Rl} {c:Cf}:zc5 (zpc r c) (CanP r c):=by
 unfold zpc CanP;by_cases h1:c.1=r.1
 ·rw [if_pos (decide_eq_true h1)];by_cases h2:0 < c.2.1.length
  ·rw [if_pos (decide_eq_true (by omega)),zdh (by omega)];exact zc5.dec (by simp [h1,h2])
  ·rw [if_neg (by simp only [decide_eq_true_eq];omega)];exact zc5.of (by simp;intro _ h;omega)
 ·rw [if_neg (by simpa using h1)];exact zc5.of (by simp [h1])
theorem zou {r:Rl} (hr:RlOk r) {c:Cf} (h2:c.2.1.length<=100000) (h3:0 < c.2.1.length):zfO r c=some (Bh r c):=by
 have hn:=hr.n;have ec:cut c.2.1 1 (c.2.1.length:Int)=c.2.1.drop 1:=by
  unfold cut;rw [Int.toNat_natCast,List.take_length];rfl
 unfold zfO Bh;rw [ec];exact G_to (by unfold room;simp;omega) (G_to (by omega) (G_to (by unfold room;rw [List.length_drop];omega) rfl))
theorem zqs {a b:Cf} (h:a.2.1.length<=100000):zc5 (zkf a b) (a=b):=by
 unfold zkf;by_cases c1:a.1=b.1
 ·rw [if_neg (by simpa using c1)]
  by_cases c2:(a.2.1.length:Int)=b.2.1.length
  ·rw [if_neg (by simpa using c2)]
   by_cases c3:a.2.1=b.2.1
   ·have e:a=b:=by
     obtain ⟨a1,a2,_⟩:=a;obtain ⟨b1,b2,_⟩:=b;dsimp only at c1 c3;rw [c1,c3]
    subst e
    suffices hh:zf9 a a 0=some true by rw [hh];exact zc5.of (by simp)
    refine zfs (len:=(a.2.1.length:Int)) (bad:=fun _=>False) (by omega) (fun t h0 h1=>⟨fun hb=>hb.elim,fun _ => ?_⟩) (fun _ => ?_)
    ·conv=>lhs;rw [ze6];unfold zbM
     rw [if_pos (by simpa using h1),if_neg (by simp)]
     exact G_to (by omega) (G_to (by omega) (G_to (by unfold fits;omega) rfl))
    ·rw [ze6];unfold zbM;rw [if_neg (by simp)]
   ·suffices hh:zf9 a b 0=some false by
     rw [hh];exact zc5.of (by
      constructor
      ·intro h;cases h
      ·intro h;rw [h] at c3;exact absurd rfl c3)
    refine zfs (len:=(a.2.1.length:Int)) (bad:=fun t => ¬ ix a.2.1 t=ix b.2.1 t) (by omega) (fun t h0 h1=>⟨fun hb => ?_,fun hb => ?_⟩) (fun hh => ?_)
    ·rw [ze6];unfold zbM;rw [if_pos (by simpa using h1),if_pos (by simpa using hb)]
     exact G_to (by omega) (G_to (by omega) rfl)
    ·conv=>lhs;rw [ze6];unfold zbM
     rw [if_pos (by simpa using h1),if_neg (by simpa using hb)]
     exact G_to (by omega) (G_to (by omega) (G_to (by unfold fits;omega) rfl))
    ·exact absurd (zoX (by omega) (fun j j0 j1=>Decidable.not_not.1 (hh j j0 j1))) c3
  ·rw [if_pos (by simpa using c2)]
   exact zc5.of (by
    constructor
    ·intro h;cases h
    ·intro h;rw [h] at c2;exact absurd rfl c2)
 ·rw [if_pos (by simpa using c1)]
  exact zc5.of (by
   constructor
   ·intro h;cases h
   ·intro h;rw [h] at c1;exact absurd rfl c1)
structure NI (l:List Rl) (c:Cf) (all:List Cf) (st:List Int):Prop where
 len:st.length=all.length
 s:∀ i:Int,0<=i->i < all.length->0<=ix st i/\ix st i<=6/\(ix all i).2.1.length<=100/\∃ rs,(rs.length:Int)=ix st i/\Rn l rs c (ix all i)
theorem zwV (hl:LOk l) {c:Cf} {r4} {i:Int} (i0:0<=i):∀ (f n:Nat) (all:List Cf) (st:List Int),l.length - n=f->n<=l.length->i < all.length->all.length<=400+n->ix st i < 6->NI l c all st->
  ∃ all' st',zbm l i r4 (n:Int) all st=r4 (i+1) all' st'/\NI l c all' st'/\all'.length<=400+l.length:=by
 have hll:=hl.n;intro f
 induction f with
 | zero=>
  intro n all st hf hn hi hal hs h;refine ⟨all,st,?_,h,by omega⟩
  rw [zjD];unfold zcv;rw [if_neg (by simp;omega)]
  exact G_to (by unfold fits;omega) rfl
 | succ f ih=>
  intro n all st hf hn hi hal hs h;obtain ⟨s0,s1,s2,rs,s3,s4⟩:=h.s i i0 hi;have hlen:=h.len;have hr:=hl.r _ (za7 (l:=l) (i:=(n:Int)) (by omega) (by omega))
  have hrn:=hr.n;have skip:∃ all' st',zbW l i (n:Int) all st (zbm l i r4) false=r4 (i+1) all' st'/\NI l c all' st'/\all'.length<=400+l.length:=by
   obtain ⟨all',st',e1,e2⟩:=ih (n+1) all st (by omega) (by omega) hi (by omega) hs h
   refine ⟨all',st',?_,e2⟩
   unfold zbW;rw [if_neg (by simp)]
   exact G_to (by unfold fits;omega) e1
  obtain ⟨b,hb,hb2⟩:=zrN (r:=ix l (n:Int)) (c:=ix all i);have st0:∀ {x},(if b=true then G (0<=i/\i < (all.length:Int)) (G ((i).toNat < all.length) (zbW l i (n:Int) all st (zbm l i r4) (decide ((((ix all i).2.1).length:Int) < 30)))) else zbW l i (n:Int) all st (zbm l i r4) false)=x->zbm l i r4 (n:Int) all st=x:=fun {x} hx=>by
   rw [zjD];unfold zcv;rw [if_pos (by simp;omega)]
   exact G_to (by omega) (G_to (by omega) (G_to (by omega) (zai hb hx)))
  by_cases cb:b=true
  ·rw [if_pos cb,zdh (by omega),zdh (by omega)] at st0
   have hcan:=hb2.1 cb;by_cases c30:(((ix all i).2.1).length:Int) < 30
   ·rw [decide_eq_true c30] at st0;have hB:=zou hr (c:=ix all i) (by omega) hcan.2.1
    obtain ⟨x,ex⟩:∃ x,Bh (ix l (n:Int)) (ix all i)=x:=⟨_,rfl⟩;rw [ex] at hB;have hxl:x.2.1.length<=100:=by
     rw [<- ex];show ((ix l (n:Int)).2.2.2.1++(ix all i).2.1.drop 1).length<=100;rw [List.length_append,List.length_drop];omega
    have hNI:NI l c (all++[x]) (st++[ix st i+1]):=by
     refine ⟨by simp [hlen],fun j j0 j1 => ?_⟩
     by_cases d:j < all.length
     ·rw [zas j0 d,zas j0 (by omega)];exact h.s j j0 d
     ·rw [List.length_append,List.length_singleton] at j1;obtain rfl:j=all.length:=by omega
      have e2:ix (st++[ix st i+1]) (all.length:Int)=ix st i+1:=by rw [<- hlen,zaN]
      rw [e2,zaN];refine ⟨by omega,by omega,hxl,rs++[(n:Int)],by rw [List.length_append,List.length_singleton];omega,s4.app ⟨by omega,by omega,hcan,ex⟩⟩
    obtain ⟨all',st',e1,e2⟩:=ih (n+1) _ _ (by omega) (by omega) (by rw [List.length_append,List.length_singleton];omega) (by rw [List.length_append,List.length_singleton];omega) (by rw [zas i0 (by omega)];exact hs) hNI
    refine ⟨all',st',st0 ?_,e2⟩
    have hJ:zc8 i (n:Int) all st (zbm l i r4) x.1 x.2.1=r4 (i+1) all' st':=by
     unfold zc8;exact G_to (by unfold room;simp;omega) (G_to (by omega) (G_to (by omega) (G_to (by unfold fits;omega) (G_to (by unfold room;simp;omega) (G_to (by unfold fits;omega) e1)))))
    unfold zbW;rw [if_pos rfl];refine G_to (by omega) (G_to (by omega) (G_to (by omega) ?_))
    refine zaq ?_ ?_
    ·exact zai hB hJ
    ·exact zai hB hJ
   ·rw [decide_eq_false c30] at st0;obtain ⟨all',st',e1,e2⟩:=skip;exact ⟨all',st',st0 e1,e2⟩
  ·rw [if_neg cb] at st0;obtain ⟨all',st',e1,e2⟩:=skip;exact ⟨all',st',st0 e1,e2⟩
theorem zv5 (hl:LOk l) {c goal:Cf} (hc:c.2.1.length<=20):∃ b,zol l c goal 6=some b/\(b=true->∃ rs,rs.length<=6/\Rn l rs c goal):=by
 have hll:=hl.n;have key:∀ (f:Nat) (i:Int) (all:List Cf) (st:List Int),(400 - i).toNat=f->0<=i->all.length<=410->NI l c all st->∃ b,zf8 l goal 6 i all st=some b/\(b=true->∃ rs,rs.length<=6/\Rn l rs c goal):=by
  intro f
  induction f with
  | zero=>
   intro i all st hf i0 hal h;refine ⟨false,?_,fun h=>by cases h⟩
   rw [zkG];unfold zcO;by_cases c1:i < (all.length:Int)
   ·rw [if_pos (by simpa using c1),if_neg (by rw [decide_eq_true_iff];omega)]
   ·rw [if_neg (by simpa using c1)]
  | succ f ih=>
   intro i all st hf i0 hal h;rw [zkG];unfold zcO;by_cases c1:i < (all.length:Int)
   ·rw [if_pos (by simpa using c1)]
    by_cases c2:(all.length:Int) < 400
    ·obtain ⟨s0,s1,s2,rs,s3,s4⟩:=h.s i i0 c1;have hlen:=h.len;rw [if_pos (by simpa using c2),zdh (by omega),zdh (by omega)]
     obtain ⟨b,hb,hb2⟩:=zqs (a:=ix all i) (b:=goal) (by omega)
     have hb':zkf (ix all i) (goal.1,(goal.2.1,()))=some b:=hb;rw [hb'];show ∃ b',(if b=true then _ else _)=some b'/\_
     by_cases cb:b=true
     ·rw [if_pos cb];refine ⟨true,rfl,fun _=>⟨rs,by omega,?_⟩⟩
      rw [<- hb2.1 cb];exact s4
     ·rw [if_neg cb,zdh (by omega),zdh (by omega)]
      by_cases c6:ix st i=6
      ·rw [if_pos (by simpa using c6),zdh (by unfold fits;omega)]
       exact ih (i+1) all st (by omega) (by omega) hal h
      ·rw [if_neg (by simpa using c6)]
       obtain ⟨all',st',e1,e2,e3⟩:=zwV hl (r4:=zf8 l goal 6) i0 _ 0 all st rfl (by omega) c1 (by omega) (by omega) h
       obtain ⟨b',k1,k2⟩:=ih (i+1) all' st' (by omega) (by omega) (by omega) e2
       exact ⟨b',e1.trans k1,k2⟩
    ·rw [if_neg (by simpa using c2)]
     exact ⟨false,rfl,fun h=>by cases h⟩
   ·rw [if_neg (by simpa using c1)]
    exact ⟨false,rfl,fun h=>by cases h⟩
 unfold zol;refine key _ 0 _ _ rfl (by omega) (by simp) ⟨rfl,fun i i0 i1 => ?_⟩
 obtain rfl:i=0:=by simp at i1;omega
 exact ⟨by decide,by decide,by show c.2.1.length<=100;omega,[],rfl,rfl⟩
open Classical in
def askE (l:List Rl) (a g:Cf):Int:=if pshE l=0 then (if cfgE a=0 then (if cfgE g=0 then (if 3 < g.2.1.length then 1 else 0) else cfgE g) else cfgE a) else pshE l
theorem zu4 {a g:Cf}:zcS l [a,g]=some (askE l a g):=by
 have e:∀ t:Int,zbJ [a,g] t=zat [a,g] (zbJ [a,g]) t:=fun t=>zgs [a,g] t
 have hc:zdo l [a,g]=some (if pshE l=0 then (if cfgE a=0 then cfgE g else cfgE a) else pshE l):=by
  unfold zdo;refine zai ziV ?_
  by_cases h:pshE l=0
  ·rw [if_pos h,if_neg (by simp [h]),e];unfold zat
   rw [if_pos (by simp),zdh (by simp)]
   refine zai ze0 ?_
   rw [show cfgE ((ix [a,g] 0).1,((ix [a,g] 0).2.1,()))=cfgE a from rfl];by_cases h2:cfgE a=0
   ·rw [if_neg (by simp [h2]),if_pos h2,zdh (by unfold fits;omega),e];unfold zat
    rw [if_pos (by simp),zdh (by simp)]
    refine zai ze0 ?_
    rw [show cfgE ((ix [a,g] (0+1)).1,((ix [a,g] (0+1)).2.1,()))=cfgE g from rfl];by_cases h3:cfgE g=0
    ·rw [if_neg (by simp [h3]),zdh (by unfold fits;omega),e];unfold zat
     rw [if_neg (by simp),h3]
    ·rw [if_pos (by simpa using h3)]
   ·rw [if_pos (by simpa using h2),if_neg h2]
  ·rw [if_neg h,if_pos (by simpa using h)]
 unfold zcS askE;refine zai hc ?_
 by_cases h:pshE l=0
 ·rw [if_pos h,if_pos h];by_cases h2:cfgE a=0
  ·rw [if_pos h2,if_pos h2];by_cases h3:cfgE g=0
   ·rw [if_pos h3,if_neg (by simp [h3]),zdh (by unfold fits;simp),zdh (by simp)]
    show (if decide ((3:Int) < (g.2.1.length:Int))=true then _ else _)=_
    by_cases h4:3 < g.2.1.length
    ·rw [if_pos h4,if_pos (by rw [decide_eq_true_iff];omega)]
    ·rw [if_neg h4,if_neg (by rw [decide_eq_true_iff];omega)]
   ·rw [if_neg h3,if_pos (by simpa using h3)]
  ·rw [if_neg h2,if_neg h2,if_pos (by simpa using h2)]
 ·rw [if_neg h,if_neg h,if_pos (by simpa using h)]
theorem zu3 {g:Cf}:zcS l [g]=some (askE l g g):=by
 have e:∀ t:Int,zbJ [g] t=zat [g] (zbJ [g]) t:=fun t=>zgs [g] t
 have hc:zdo l [g]=some (if pshE l=0 then cfgE g else pshE l):=by
  unfold zdo;refine zai ziV ?_
  by_cases h:pshE l=0
  ·rw [if_pos h,if_neg (by simp [h]),e];unfold zat
   rw [if_pos (by simp),zdh (by simp)]
   refine zai ze0 ?_
   rw [show cfgE ((ix [g] 0).1,((ix [g] 0).2.1,()))=cfgE g from rfl];by_cases h2:cfgE g=0
   ·rw [if_neg (by simp [h2]),zdh (by unfold fits;omega),e];unfold zat
    rw [if_neg (by simp),h2]
   ·rw [if_pos (by simpa using h2)]
  ·rw [if_neg h,if_pos (by simpa using h)]
 unfold zcS askE;refine zai hc ?_
 by_cases h:pshE l=0
 ·rw [if_pos h,if_pos h];by_cases h3:cfgE g=0
  ·rw [if_pos h3,if_pos h3,if_neg (by simp [h3]),zdh (by unfold fits;simp),zdh (by simp)]
   show (if decide ((3:Int) < (g.2.1.length:Int))=true then _ else _)=_
   by_cases h4:3 < g.2.1.length
   ·rw [if_pos h4,if_pos (by rw [decide_eq_true_iff];omega)]
   ·rw [if_neg h4,if_neg (by rw [decide_eq_true_iff];omega)]
  ·rw [if_neg h3,if_pos (by simpa using h3)]
 ·rw [if_neg h,if_neg h,if_pos (by simpa using h)]
theorem zky {a g:Cf}:zf1 l a g=some (askE l a g):=by
 unfold zf1 askE;refine zai zpW ?_
 by_cases h:pshE l=0
 ·rw [if_pos h,if_pos (by simpa using h)]
  refine zai zjB ?_
  rw [show cfgE (a.1,(a.2.1,()))=cfgE a from rfl];unfold zgN;by_cases h2:cfgE a=0
  ·rw [if_pos h2,if_pos (by simpa using h2)]
   refine zai zjB ?_
   rw [show cfgE (g.1,(g.2.1,()))=cfgE g from rfl];by_cases h3:cfgE g=0
   ·rw [if_pos h3,if_pos (by simpa using h3)]
    by_cases h4:3 < g.2.1.length
    ·rw [if_pos h4,if_pos (by rw [decide_eq_true_iff];omega)]
    ·rw [if_neg h4,if_neg (by rw [decide_eq_true_iff];omega),h3]
   ·rw [if_neg h3,if_neg (by simpa using h3)]
  ·rw [if_neg h2,if_neg (by simpa using h2),if_neg (by simpa using h2)]
 ·rw [if_neg h,if_neg (by simpa using h)]
  unfold zgN;rw [if_neg (by simpa using h),if_neg (by simpa using h)]
theorem ztG {c:Cf} (h:cfgE c=0):c.2.1.length<=20/\0<=c.1/\c.1<=2/\∀ q∈c.2.1,0<=q/\q<=2:=by
 unfold cfgE at h;by_cases c1:20 < c.2.1.length
 ·rw [if_pos c1] at h;omega
 rw [if_neg c1] at h;by_cases c2:off3 c.1\/∃ q∈c.2.1,off3 q
 ·rw [if_pos c2] at h;omega
 have a1 : ¬ off3 c.1:=fun h=>c2 (.inl h)
 unfold off3 at a1;refine ⟨by omega,by omega,by omega,fun q hq => ?_⟩
 have : ¬ off3 q:=fun h=>c2 (.inr ⟨q,hq,h⟩)
 unfold off3 at this;omega
theorem zw1 (h:pshE l=0):LOk l:=by
 unfold pshE at h;by_cases c1:zqz l
 ·rw [if_pos c1] at h;omega
 rw [if_neg c1] at h;by_cases c2:zuY l
 ·rw [if_pos c2] at h;omega
 rw [if_neg c2] at h;by_cases c3:POut l
 ·rw [if_pos c3] at h;omega
 unfold zqz at c1;refine ⟨by omega,fun r hr => ?_⟩
 have b1 : ¬ off3 r.1:=fun h=>c3 ⟨r,hr,.inl h⟩
 have b2 : ¬ off3 r.2.1:=fun h=>c3 ⟨r,hr,.inr (.inl h)⟩
 have b3 : ¬ off3 r.2.2.1:=fun h=>c3 ⟨r,hr,.inr (.inr (.inl h))⟩
 have b5 : ¬ 2 < r.2.2.2.1.length:=fun h=>c2 ⟨r,hr,h⟩
 unfold off3 at b1 b2 b3;refine ⟨by omega,by omega,by omega,by omega,fun q hq => ?_⟩
 have b4 : ¬ off3 q:=fun h=>c3 ⟨r,hr,.inr (.inr (.inr ⟨q,hq,h⟩))⟩
 unfold off3 at b4;omega
theorem ztD {a g:Cf} (h:askE l a g=0):LOk l/\GOk g.1 g.2.1/\a.2.1.length<=20/\0<=a.1/\a.1<=2/\∀ q∈a.2.1,0<=q/\q<=2:=by
 unfold askE at h;by_cases h1:pshE l=0
 ·rw [if_pos h1] at h;by_cases h2:cfgE a=0
  ·rw [if_pos h2] at h;by_cases h3:cfgE g=0
   ·rw [if_pos h3] at h;by_cases h4:3 < g.2.1.length
    ·rw [if_pos h4] at h;omega
    ·obtain ⟨g1,g2,g3,g4⟩:=ztG h3;exact ⟨zw1 h1,⟨⟨g2,g3⟩,by omega,g4⟩,ztG h2⟩
   ·rw [if_neg h3] at h;exact absurd h h3
  ·rw [if_neg h2] at h;exact absurd h h2
 ·rw [if_neg h1] at h;exact absurd h h1
theorem zxE {a g:Cf} (h : ¬ askE l g g=0) : ¬ askE l a g=0:=by
 unfold askE at h ⊢;by_cases h1:pshE l=0
 ·rw [if_pos h1] at h ⊢;by_cases h2:cfgE a=0
  ·rw [if_pos h2];by_cases h3:cfgE g=0
   ·rw [if_pos h3,if_pos h3] at h;rw [if_pos h3];exact h
   ·rw [if_neg h3];exact h3
  ·rw [if_neg h2];exact h2
 ·rw [if_neg h1];exact h1
theorem zx3 (hl:LOk l) {goal:Cf} {rs:List Int} (hrs:rs.length<=2000):∀ (f n:Nat) (c:Cf),rs.length - n=f->n<=rs.length->c.2.1.length<=20+2 * n->Rn l (rs.drop n) c goal->zdk l goal rs (n:Int) c.1 c.2.1=some true:=by
 intro f
 induction f with
 | zero=>
  intro n c hf hn hc h;obtain rfl:n=rs.length:=by omega
  rw [List.drop_length] at h;have h:c=goal:=h;subst h;rw [zfv];unfold za2;rw [if_neg (by simp)]
  obtain ⟨b,hb,hb2⟩:=zqs (a:=c) (b:=c) (by omega)
  refine zai hb ?_
  rw [hb2.2 rfl]
 | succ f ih=>
  intro n c hf hn hc h;have ed:rs.drop n=ix rs (n:Int)::rs.drop (n+1):=by
   rw [zhG (l:=rs) (i:=(n:Int)) (by omega) (by omega)]
   simp
  rw [ed] at h;obtain ⟨k0,k1,k2,k3⟩:=h;obtain ⟨b,hb,hb2⟩:=zrN (r:=ix l (ix rs (n:Int))) (c:=c);have hr:=hl.r _ (za7 k0 k1);have hrn:=hr.n;have hB:=zou hr (c:=c) (by omega) k2.2.1
  rw [zfv];unfold za2;rw [if_pos (by simp;omega),if_neg (by simpa using k0),if_neg (by simpa using k1)]
  refine G_to (by omega) (G_to (by omega) (G_to (by omega) (G_to (by omega) (G_to (by omega) (G_to (by omega) (G_to ⟨k0,k1⟩ ?_))))))
  refine zai hb ?_
  rw [if_neg (by rw [hb2.2 k2];simp)]
  refine G_to (by omega) (G_to (by omega) (G_to ⟨k0,k1⟩ (zai hB (G_to (by unfold fits;omega) ?_))))
  refine ih (n+1) (Bh (ix l (ix rs (n:Int))) c) (by omega) (by omega) ?_ k3
  show ((ix l (ix rs (n:Int))).2.2.2.1++c.2.1.drop 1).length<=_;rw [List.length_append,List.length_drop];omega
end
theorem law_true (l:List Rl) (a g:Cf):zep l a g=some true:=by
 have hA1:zcS l [(a.1,(a.2.1,())),(g.1,(g.2.1,()))]=some (askE l a g):=zu4 (l:=l) (a:=a) (g:=g);have hA2:zcS l [(g.1,(g.2.1,()))]=some (askE l g g):=zu3 (l:=l) (g:=g);have hL1:zf1 l (g.1,(g.2.1,())) (g.1,(g.2.1,()))=some (askE l g g):=zky;have hL2:zf1 l (a.1,(a.2.1,())) (g.1,(g.2.1,()))=some (askE l a g):=zky;have wayBad : ¬ askE l a g=0->zgq l (a.1,(a.2.1,())) (g.1,(g.2.1,()))=some (false,askE l a g,[]):=fun h=>by
  unfold zgq;refine zai hA1 ?_
  rw [if_pos (by simpa using h)]
 by_cases own:askE l g g=0
 ·obtain ⟨hl,hg,_⟩:=ztD own;have hgn:=hg.n;obtain ⟨ek,ev,f1,f2,f3⟩:=zux hl hg;have he:=f2.eok hl hg;obtain ⟨ds,d1,d2,d3⟩:=zsR (gc:=g.1) he;have hbef:zd8 l (g.1,(g.2.1,()))=some (0,ds):=by
   unfold zd8;refine zai hA2 ?_
   rw [if_neg (by simpa using own)]
   exact zai f1 d1
  have L10:∀ {y':Bool} {y1:Int} {y2:List Int} {y8:Int} {R:Option Bool},zaU l a g y' y1 y2 ds y8 3=R->zaU l a g y' y1 y2 ds y8 0=R:=fun {y' y1 y2 y8 R} hR=>by
   have one:∀ i:Int,0<=i->i < 3->zaU l a g y' y1 y2 ds y8 i=zaU l a g y' y1 y2 ds y8 (i+1):=fun i i0 i1=>by
    have hd:=d3 i i0 i1;have hck:zma (ix ds i)=some 0:=by rw [zrr,zxJ hd.ok]
    conv=>lhs;rw [zdw];unfold zaQ
    rw [if_pos (by rw [decide_eq_true_iff];omega)]
    refine G_to (by omega) (G_to (by omega) (zai hck ?_))
    rw [if_neg (by simp)]
    refine G_to (by omega) (G_to (by omega) ?_)
    rw [if_neg (by rw [decide_eq_true_iff];exact fun h=>h hd.l3)]
    refine G_to (by omega) (G_to (by omega) (zai hd.least ?_))
    refine G_to (by omega) (G_to (by omega) (zai hd.same ?_))
    rw [if_neg (by simp)]
    exact G_to (by unfold fits;omega) rfl
   rw [one 0 (by omega) (by omega),one (0+1) (by omega) (by omega),one (0+1+1) (by omega) (by omega)]
   exact hR
  have main:∀ (x:Bool×Int×List Int),zgq l (a.1,(a.2.1,())) (g.1,(g.2.1,()))=some x->zaU l a g x.1 x.2.1 x.2.2 ds (askE l a g) 3=some true->zep l a g=some true:=fun x hx hJ=>by
   unfold zep;refine zai hx (zai hbef (zai hL1 (zai hL2 ?_)))
   rw [if_neg (by simpa using own),if_neg (by simp),if_neg (by rw [decide_eq_true_iff];dsimp only;omega)]
   exact L10 hJ
  by_cases no:askE l a g=0
  ·obtain ⟨_,_,a1,a2,a3,a4⟩:=ztD no;obtain ⟨B,hB,hw⟩:=zms (gc:=g.1) he (p:=a.1) (by have hN:Nn g.2.1=3+(g.2.1.length:Int)+1:=rfl;omega) (w:=a.2.1) (by omega)
   have hd:=d3 a.1 a2 (by omega)
   obtain ⟨b1,hb1,hb1'⟩:=hd.acc a.2.1 (fun q hq=>by have:=a4 q hq;omega) (by omega)
   obtain ⟨b2,hb2,hb2'⟩:=zv5 hl (c:=a) (goal:=g) a1;have hN:Nn g.2.1=3+(g.2.1.length:Int)+1:=rfl;have hB1:b1=true↔∃ x∈Xs g.1 g.2.1 B,x.1=3+(g.2.1.length:Int):=by rw [hb1',zsL hB]
   have nearF:b2=true->∃ x,fst? g.2.1 (Xs g.1 g.2.1 B)=some x/\x.2.1<=6:=fun h=>by
    obtain ⟨rs,r1,r2⟩:=hb2' h;obtain ⟨o,o1,o2⟩:=zrS hl hg f2 f3 rs a r2;obtain ⟨x,x1,x2⟩:=zuw hg hB o1;exact ⟨x,x1,by omega⟩
   have isF:∀ x,fst? g.2.1 (Xs g.1 g.2.1 B)=some x->b1=true:=fun x hx=>by
    have h2:x.1=Nn g.2.1 - 1:=by simpa using List.find?_some hx
    exact hB1.2 ⟨x,List.mem_of_find?_eq_some hx,by omega⟩
   have hway:∀ {R},za5 (Xs g.1 g.2.1 B) 0 g.1 g.2.1 ek ev []=R->zgq l (a.1,(a.2.1,())) (g.1,(g.2.1,()))=R:=fun {R} hR=>by
    unfold zgq;refine zai hA1 ?_
    rw [if_neg (by simpa using no)]
    exact zai f1 (zai hw hR)
   have fin:∀ (x:Bool×Int×List Int),(b2=true->b1=true)->zb4 l a g x.1 x.2.1 x.2.2 b1 b2 false=some true->zaU l a g x.1 x.2.1 x.2.2 ds (askE l a g) 3=some true:=fun x hn hJ=>by
    rw [zdw];unfold zaQ;rw [if_neg (by rw [decide_eq_true_iff];omega),if_neg (by simpa using no)]
    refine G_to (by omega) (G_to (by omega) (zai hb1 (zai hb2 ?_)))
    by_cases c:b2=true
    ·rw [if_pos c,hn c];rw [hn c] at hJ;exact hJ
    ·rw [if_neg c];exact hJ
   rcases zw9 hl hg f2 (by omega) (by omega) hB with ⟨h1,h2⟩ | ⟨x,h1,h2,h3⟩ | ⟨x,rs,h1,h2,h3,h4⟩
   ·have e1:b1=false:=by
     cases b1 with
     | false=>rfl
     | true=>
      obtain ⟨x,hx,e⟩:=hB1.1 rfl;have:=List.find?_eq_none.1 h1 x hx;rw [decide_eq_true_iff] at this;omega
    have e2:b2=false:=by
     cases b2 with
     | false=>rfl
     | true=>
      obtain ⟨x,hx,_⟩:=nearF rfl;rw [h1] at hx;cases hx
    subst e1 e2;refine main _ (hway h2) (fin _ (fun h=>h) ?_)
    unfold zb4;rw [if_neg (by simp),if_neg (by simp),if_neg (by simp),if_neg (by simp),if_neg (by simp),if_pos (by simp)]
    simp
   ·have e1:=isF x h1;have e2:b2=false:=by
     cases b2 with
     | false=>rfl
     | true=>
      obtain ⟨x',hx',hle⟩:=nearF rfl;rw [h1] at hx';injection hx' with hx'
      subst hx';omega
    subst e1 e2;refine main _ (hway h3) (fin _ (fun h=>by cases h) ?_)
    unfold zb4;rw [if_neg (by simp),if_pos (by simp),if_pos rfl,if_pos (by simp),if_pos (by simp)]
    simp
   ·have e1:=isF x h1;subst e1;refine main _ (hway h2) (fin _ (fun _=>rfl) ?_)
    unfold zb4;rw [if_neg (by simp),if_neg (by simp),if_neg (by simp),if_neg (by simp),if_neg (by rw [decide_eq_true_iff];dsimp only;omega),if_neg (by simp)]
    exact zx3 hl h3 _ 0 a rfl (by omega) (by omega) h4
  ·refine main _ (wayBad no) ?_
   rw [zdw];unfold zaQ;rw [if_neg (by rw [decide_eq_true_iff];omega),if_pos (by simpa using no),if_pos (by simp),if_pos (by simp)]
   simp
 ·have no:=zxE (a:=a) own;have hbef:zd8 l (g.1,(g.2.1,()))=some (askE l g g,[]):=by
   unfold zd8;refine zai hA2 ?_
   rw [if_pos (by simpa using own)]
  unfold zep;refine zai (wayBad no) (zai hbef (zai hL1 (zai hL2 ?_)))
  rw [if_pos (by simpa using own),if_pos (by simp),if_pos (by simp),if_pos (by simp),if_pos (by simp)]
  simp
end
end Go.Proofs.Ythklckmbgpijoaa.stackWaysW
