/- The law 'DetLeast' of the plain functions. -/
import Derived.Test.YtjkfhpgglcnggaaDetLeastD
set_option maxHeartbeats 1000000
set_option maxRecDepth 20000
set_option linter.unusedSimpArgs false
set_option linter.unusedVariables false
set_option linter.unusedSectionVars false
namespace Go.Proofs.Ytjkfhpgglcnggaa.detLeastW
open Go Go.Ab
noncomputable section
theorem zou {n:Nat} (h:n < 9223372036854775808):IntKind.wrap .i64 (n:Int)=n:=by
 unfold IntKind.wrap;simp [IntKind.bits,IntKind.signed];omega
theorem zja (m:Nat):BitVec.ofInt 64 (m:Int)=BitVec.ofNat 64 m:=by
 apply BitVec.eq_of_toNat_eq;simp
theorem iand_nat {m n:Nat} (hm:m < 9223372036854775808) (hn:n < 9223372036854775808):iand .i64 (m:Int) (n:Int)=((m &&& n:Nat):Int):=by
 unfold iand;have h:(BitVec.ofInt IntKind.i64.bits (m:Int) &&& BitVec.ofInt IntKind.i64.bits (n:Int)).toNat=m &&& n:=by
  show (BitVec.ofInt 64 (m:Int) &&& BitVec.ofInt 64 (n:Int)).toNat=m &&& n;rw [zja,zja,BitVec.toNat_and,BitVec.toNat_ofNat,BitVec.toNat_ofNat,Nat.mod_eq_of_lt (by omega),Nat.mod_eq_of_lt (by omega)]
 rw [h,zou (Nat.lt_of_le_of_lt Nat.and_le_left hm)]
theorem zus {m n:Nat} (hm:m < 9223372036854775808) (hn:n < 9223372036854775808):ior .i64 (m:Int) (n:Int)=((m ||| n:Nat):Int):=by
 unfold ior;have h:(BitVec.ofInt IntKind.i64.bits (m:Int) ||| BitVec.ofInt IntKind.i64.bits (n:Int)).toNat=m ||| n:=by
  show (BitVec.ofInt 64 (m:Int) ||| BitVec.ofInt 64 (n:Int)).toNat=m ||| n
  rw [zja,zja,BitVec.toNat_or,BitVec.toNat_ofNat,BitVec.toNat_ofNat,Nat.mod_eq_of_lt (by omega),Nat.mod_eq_of_lt (by omega)]
 rw [h,zou (Nat.or_lt_two_pow (n:=63) hm hn)]
theorem ztx {m k:Nat} (hk:k < 63) (h:m * 2 ^ k < 9223372036854775808):ishl .i64 (m:Int) (k:Int)=((m <<< k:Nat):Int):=by
 unfold ishl;have e:min ((k:Int).toNat) IntKind.i64.bits=k:=by
  show min ((k:Int).toNat) 64=k;omega
 rw [e,Nat.shiftLeft_eq];have:(m:Int) * 2 ^ k=((m * 2 ^ k:Nat):Int):=by push_cast;rfl
 rw [this,zou h]
theorem zqI {m k:Nat} (hk:k<=64):ishr .i64 (m:Int) (k:Int)=((m >>> k:Nat):Int):=by
 unfold ishr;have e:min ((k:Int).toNat) IntKind.i64.bits=k:=by
  show min ((k:Int).toNat) 64=k;omega
 rw [e,Nat.shiftRight_eq_div_pow,Int.fdiv_eq_ediv_of_nonneg _ (by exact_mod_cast Nat.zero_le _)]
 push_cast;rfl
theorem ior_bit {m q:Nat} (hm:m < 4611686018427387904) (hq:q < 62):ior .i64 (m:Int) (ishl .i64 1 (q:Int))=((m ||| 2 ^ q:Nat):Int)/\m ||| 2 ^ q < 4611686018427387904:=by
 have h2:2 ^ q < 4611686018427387904:=Nat.pow_lt_pow_right (a:=2) (n:=62) (by omega) hq
 have h1:ishl .i64 1 (q:Int)=((2 ^ q:Nat):Int):=by
  have:=ztx (m:=1) (k:=q) (by omega) (by omega)
  rw [Nat.shiftLeft_eq,Nat.one_mul] at this;exact this
 rw [h1,zus (by omega) (by omega)]
 exact ⟨rfl,Nat.or_lt_two_pow (n:=62) hm h2⟩
def zdl (o:Option Bool) (P:Prop):Prop:=∃ b,o=some b/\(b=true↔P)
theorem zdl.of {b:Bool} {P:Prop} (h:b=true↔P):zdl (some b) P:=⟨b,rfl,h⟩
theorem zdl.dec {P Q:Prop} [Decidable P] (h:P↔Q):zdl (some (decide P)) Q:=⟨_,rfl,by simpa using h⟩
theorem zdl.iff {o:Option Bool} {P Q:Prop} (h:zdl o P) (k:P↔Q):zdl o Q:=let ⟨b,h1,h2⟩:=h;⟨b,h1,h2.trans k⟩
theorem zdl.eq {o:Option Bool} {P:Prop} [Decidable P] (h:zdl o P):o=some (decide P):=by
 obtain ⟨b,rfl,hb⟩:=h;by_cases hp:P
 ·simp [hp,hb.2 hp]
 ·have:b=false:=by cases b;rfl;exact absurd (hb.1 rfl) hp
  simp [hp,this]
theorem zdl.to {R:Type} {o:Option Bool} {P:Prop} {k1 k2 x:Option R} (h:zdl o P) (h1:P->k1=x) (h2 : ¬ P->k2=x):(o.bind fun y=>if y=true then k1 else k2)=x:=by
 obtain ⟨b,rfl,hb⟩:=h;refine zaj rfl ?_
 cases b
 ·exact h2 fun hp=>by simpa using hb.2 hp
 ·exact h1 (hb.1 rfl)
theorem zdl.bind {R:Type} {o:Option Bool} {P:Prop} {k:Bool->Option R} {x:Option R} (h:zdl o P) (h1:∀ b,(b=true↔P)->k b=x):o.bind k=x:=by
 obtain ⟨b,rfl,hb⟩:=h;exact h1 b hb
section
variable {α C:Type} [Inhabited α]
theorem zff {l:List α} {P:α->Prop}:(∃ x∈l,P x)↔∃ i:Int,0<=i/\i < l.length/\P (ix l i):=by
 constructor
 ·rintro ⟨x,hx,hp⟩;obtain ⟨i,hi,rfl⟩:=List.mem_iff_getElem.1 hx;refine ⟨i,by omega,by omega,?_⟩
  rwa [ziS (by omega) (by omega)]
 ·rintro ⟨i,h0,h1,hp⟩;exact ⟨_,zbJ h0 h1,hp⟩
theorem zrh {s:List α} {f:α->Option Bool} {L:Int->Option Int} {P:α->Prop} (hs:s.length<=4611686018427387904)
  (hL:∀ t,L t=if decide (t < (s.length:Int))=true then G (0<=t/\t < (s.length:Int)) ((f (ix s t)).bind fun y=>if y=true then some t else G (fits (t+1)) (L (t+1))) else some (-1))
  (hf:∀ x∈s,zdl (f x) (P x)):∀ (n:Nat) (t:Int),0<=t->t<=s.length->(s.length - t).toNat=n->
   ∃ i,L t=some i/\((i = -1/\∀ j:Int,t<=j->j < s.length -> ¬ P (ix s j))\/(t<=i/\i < s.length/\P (ix s i)/\∀ j:Int,t<=j->j < i -> ¬ P (ix s j))):=by
 intro n
 induction n with
 | zero=>
  intro t h0 h1 hn;refine ⟨-1,?_,.inl ⟨rfl,fun j a b=>by omega⟩⟩
  rw [hL,if_neg (by simp;omega)]
 | succ n ih=>
  intro t h0 h1 hn;rw [hL,if_pos (by simp;omega),zat (by omega)]
  obtain ⟨b,hb,hbp⟩:=hf _ (zbJ h0 (by omega:t < s.length))
  rw [hb]
  cases b with
  | true=>exact ⟨t,rfl,.inr ⟨by omega,by omega,hbp.1 rfl,fun j a b=>by omega⟩⟩
  | false=>
   have hnp : ¬ P (ix s t):=fun hp=>by simpa using hbp.2 hp
   obtain ⟨i,hi,hc⟩:=ih (t+1) (by omega) (by omega) (by omega)
   refine ⟨i,?_,?_⟩
   ·refine (if_neg (by simp):(if false=true then some t else G (fits (t+1)) (L (t+1)))=_).trans ?_
    rw [zat (by unfold fits;omega),hi]
   ·rcases hc with ⟨h2,h3⟩ | ⟨h2,h3,h4,h5⟩
    ·refine .inl ⟨h2,fun j a b => ?_⟩
     by_cases e:j=t
     ·rw [e];exact hnp
     ·exact h3 j (by omega) b
    ·refine .inr ⟨by omega,h3,h4,fun j a b => ?_⟩
     by_cases e:j=t
     ·rw [e];exact hnp
     ·exact h5 j (by omega) b
theorem zeO {s:List α} {f:α->Option Bool} {L:Int->Option Int} {P:α->Prop}
  (hL:∀ t,L t=if decide (t < (s.length:Int))=true then G (0<=t/\t < (s.length:Int)) ((f (ix s t)).bind fun y=>if y=true then some t else G (fits (t+1)) (L (t+1))) else some (-1))
  (hs:s.length<=4611686018427387904) (hf:∀ x∈s,zdl (f x) (P x)):zdl ((L 0).bind fun y=>some (decide ((0:Int)<=y))) (∃ x∈s,P x):=by
 obtain ⟨i,hi,hc⟩:=zrh hs hL hf _ 0 (by omega) (by omega) rfl
 rw [hi];refine ⟨decide (0<=i),rfl,?_⟩
 rw [decide_eq_true_iff,zff];rcases hc with ⟨h2,h3⟩ | ⟨h2,h3,h4,h5⟩
 ·constructor
  ·intro h;omega
  ·rintro ⟨j,h0,h1,hp⟩;exact absurd hp (h3 j h0 h1)
 ·exact ⟨fun _=>⟨i,by omega,h3,h4⟩,fun _=>by omega⟩
theorem zly {s:List α} {c:C} {f:α->C->Option (Bool×C)} {L:Int->C->Option (Int×C)} {P:α->Prop}
  (hL:∀ t c,L t c=if decide (t < (s.length:Int))=true then G (0<=t/\t < (s.length:Int)) ((f (ix s t) c).bind fun y=>if y.1=true then some (t,y.2) else G (fits (t+1)) (L (t+1) y.2)) else some (-1,c))
  (hs:s.length<=4611686018427387904) (hf:∀ x∈s,∃ b,f x c=some (b,c)/\(b=true↔P x)):∃ b,((L 0 c).bind fun y=>some (decide ((0:Int)<=y.1),y.2))=some (b,c)/\(b=true↔∃ x∈s,P x):=by
 have key:∀ (n:Nat) (t:Int),0<=t->t<=s.length->(s.length - t).toNat=n->
   ∃ i,L t c=some (i,c)/\((i = -1/\∀ j:Int,t<=j->j < s.length -> ¬ P (ix s j))\/(t<=i/\i < s.length/\P (ix s i))):=by
  intro n
  induction n with
  | zero=>
   intro t h0 h1 hn;refine ⟨-1,?_,.inl ⟨rfl,fun j a b=>by omega⟩⟩
   rw [hL,if_neg (by simp;omega)]
  | succ n ih=>
   intro t h0 h1 hn;rw [hL,if_pos (by simp;omega),zat (by omega)]
   obtain ⟨b,hb,hbp⟩:=hf _ (zbJ h0 (by omega:t < s.length))
   rw [hb]
   cases b with
   | true=>exact ⟨t,rfl,.inr ⟨by omega,by omega,hbp.1 rfl⟩⟩
   | false=>
    have hnp : ¬ P (ix s t):=fun hp=>by simpa using hbp.2 hp
    obtain ⟨i,hi,hc⟩:=ih (t+1) (by omega) (by omega) (by omega)
    refine ⟨i,?_,?_⟩
    ·refine (if_neg (by simp):(if false=true then some (t,c) else G (fits (t+1)) (L (t+1) c))=_).trans ?_
     rw [zat (by unfold fits;omega),hi]
    ·rcases hc with ⟨h2,h3⟩ | ⟨h2,h3,h4⟩
     ·refine .inl ⟨h2,fun j a b => ?_⟩
      by_cases e:j=t
      ·rw [e];exact hnp
      ·exact h3 j (by omega) b
     ·exact .inr ⟨by omega,h3,h4⟩
 obtain ⟨i,hi,hc⟩:=key _ 0 (by omega) (by omega) rfl
 rw [hi];refine ⟨decide (0<=i),rfl,?_⟩
 rw [decide_eq_true_iff,zff];rcases hc with ⟨h2,h3⟩ | ⟨h2,h3,h4⟩
 ·constructor
  ·intro h;omega
  ·rintro ⟨j,h0,h1,hp⟩;exact absurd hp (h3 j h0 h1)
 ·exact ⟨fun _=>⟨i,by omega,h3,h4⟩,fun _=>by omega⟩
end
theorem zmx {R:Type} {len:Int} {L:Int->Option R} {bad:Int->Prop} {x:Option R} {lo:Int} (h0:lo<=len)
  (hs:∀ t,lo<=t->t < len->(bad t->L t=x)/\(¬ bad t->L t=L (t+1))) (hf:(∀ t,lo<=t->t < len -> ¬ bad t)->L len=x):L lo=x:=by
 have key:∀ (n:Nat) (t:Int),lo<=t->t<=len->(len - t).toNat=n->(∀ j,lo<=j->j < t -> ¬ bad j)->L t=x:=by
  intro n
  induction n with
  | zero=>
   intro t h1 h2 hn h;obtain rfl:t=len:=by omega
   exact hf h
  | succ n ih=>
   intro t h1 h2 hn h;by_cases hb:bad t
   ·exact (hs t h1 (by omega)).1 hb
   ·rw [(hs t h1 (by omega)).2 hb]
    refine ih (t+1) (by omega) (by omega) (by omega) fun j a b => ?_
    by_cases e:j=t
    ·rw [e];exact hb
    ·exact h j a (by omega)
 exact key _ lo (Int.le_refl _) h0 rfl (fun j a b=>by omega)
theorem fold_to {R S:Type} {len:Int} {L:Int->S->Option R} {f:Int->S->S} {lo:Int} {I:Int->S->Prop} {s:S} (h0:lo<=len) (hI:I lo s)
  (hs:∀ t s,lo<=t->t < len->I t s->L t s=L (t+1) (f t s)/\I (t+1) (f t s)):∃ s',I len s'/\L lo s=L len s':=by
 have key:∀ (n:Nat) (t:Int) (s:S),lo<=t->t<=len->(len - t).toNat=n->I t s->∃ s',I len s'/\L t s=L len s':=by
  intro n
  induction n with
  | zero=>
   intro t s h1 h2 hn h;obtain rfl:t=len:=by omega
   exact ⟨s,h,rfl⟩
  | succ n ih=>
   intro t s h1 h2 hn h;obtain ⟨e,h3⟩:=hs t s h1 (by omega) h
   obtain ⟨s',h4,h5⟩:=ih (t+1) _ (by omega) (by omega) (by omega) h3
   exact ⟨s',h4,e.trans h5⟩
 exact key _ lo s (Int.le_refl _) h0 rfl hI
theorem zkZ {a b:List Int} (hl:a.length=b.length):∀ (n:Nat) (i:Int),0<=i->i<=a.length->(a.length - i).toNat=n->a.length<=2305843009213693951->(∀ j:Int,0<=j->j < i->ix a j=ix b j)->zfO a b i=some (decide (a=b)):=by
 intro n
 induction n with
 | zero=>
  intro i h0 h1 hn hs h;rw [zhN];unfold zbB
  (try dsimp only);(repeat' first | (with_reducible refine G_to ?_ ?_;focus (first | omega | (unfold fits;omega) | (unfold room;(try simp only [List.length_append,List.length_cons,List.length_nil]);omega))) | (with_reducible refine zaI ?_ ?_) | (with_reducible refine zaT ?_) | (with_reducible refine zaS ?_) | (with_reducible refine zbI (fun _ => ?_) (fun _ => ?_)))<;>try (exfalso;omega)
  ·rw [Option.some_inj,eq_comm,decide_eq_true_iff];exact zna hl (fun j a b=>h j a (by omega))
 | succ n ih=>
  intro i h0 h1 hn hs h;rw [zhN];unfold zbB
  (try dsimp only);(repeat' first | (with_reducible refine G_to ?_ ?_;focus (first | omega | (unfold fits;omega) | (unfold room;(try simp only [List.length_append,List.length_cons,List.length_nil]);omega))) | (with_reducible refine zaI ?_ ?_) | (with_reducible refine zaT ?_) | (with_reducible refine zaS ?_) | (with_reducible refine zbI (fun _ => ?_) (fun _ => ?_)))<;>try (exfalso;omega)
  ·rw [Option.some_inj,eq_comm,decide_eq_false_iff_not];rintro rfl;contradiction
  ·rename_i hx;exact ih _ (by omega) (by omega) (by omega) hs (zq1 h (Decidable.not_not.1 hx))
theorem zoi {a b:List Int} (hs:a.length<=2305843009213693951):zlh a b=some (decide (a=b)):=by
 unfold zlh
 (try dsimp only);(repeat' first | (with_reducible refine G_to ?_ ?_;focus (first | omega | (unfold fits;omega) | (unfold room;(try simp only [List.length_append,List.length_cons,List.length_nil]);omega))) | (with_reducible refine zaI ?_ ?_) | (with_reducible refine zaT ?_) | (with_reducible refine zaS ?_) | (with_reducible refine zbI (fun _ => ?_) (fun _ => ?_)))<;>try (exfalso;omega)
 ·rw [Option.some_inj,eq_comm,decide_eq_false_iff_not];rintro rfl;contradiction
 ·exact zkZ (by omega) _ 0 (by omega) (by omega) rfl hs (fun j a b=>by omega)
theorem zfs {s:List Int} (hs:s.length * 8<=140737488355328):za7 s=some s:=by
 have hr:G (room ([]:List Int) s 8) (some (([]:List Int)++s))=some s:=by
  rw [zat (zuH (by simpa using hs))];rfl
 unfold za7;refine zuu (fun h => ?_) (fun h=>hr)
 obtain rfl:s=[]:=List.length_eq_zero_iff.1 h;rw [hr];exact zlr (ts:=[(.list (.int .i64))]) (some ([]:List Int))
theorem zo8 {w:List Int} (hs:w.length * 8<=140737488351232):ziX w=some w:=by
 unfold ziX;refine G_to (by unfold fits;omega) ?_
 refine G_to (by unfold mkOK;omega) ?_
 simp
theorem zrl {l:List (List Int)} (h1:l.length * 24<=140737488351232) (h2:∀ w∈l,w.length * 8<=140737488351232):ziY l=some l:=by
 have key:∀ (f i:Nat),l.length - i=f->i<=l.length->zeB l i (l.take i)=some l:=by
  intro f
  induction f with
  | zero=>
   intro i hf hi;obtain rfl:i=l.length:=by omega
   rw [zgL];unfold zbj;rw [if_neg (by simp),List.take_length]
  | succ f ih=>
   intro i hf hi;have et:=zsC (l:=l) (i:=(i:Int)) (by omega) (by omega)
   rw [Int.toNat_natCast,show ((i:Int)+1).toNat=i+1 from by omega] at et
   rw [zgL];unfold zbj;rw [if_pos (by simp;omega),zat (by omega)]
   refine zaj (zo8 (h2 _ (zbJ (by omega) (by omega)))) (G_to (by unfold room;simp;omega) (G_to (by unfold fits;omega) ?_))
   have:=ih (i+1) (by omega) (by omega)
   rw [et] at this;exact this
 unfold ziY;exact key _ 0 rfl (by omega)
def stp (N:List (List Int)) (q a:Int):Int:=ix (ix N q) a
def wlk (N:List (List Int)) (q:Int) (w:List Int):Int:=w.foldl (stp N) q
def trc (N:List (List Int)):Int->List Int->List Int
 | _,[]=>[]
 | q,a::w=>stp N q a::trc N (stp N q a) w
structure Tab (L:Int) (N:List (List Int)):Prop where
 row:∀ r∈N,(r.length:Int)=L
 to:∀ r∈N,∀ q∈r,0<=q/\q < N.length
theorem Tab.stpb {L:Int} {N:List (List Int)} (h:Tab L N) {q a:Int} (q0:0<=q) (q1:q < N.length) (a0:0<=a) (a1:a < L):0<=stp N q a/\stp N q a < N.length:=by
 have h1:=zbJ q0 q1;have h2:=h.row _ h1;exact h.to _ h1 _ (zbJ a0 (by omega))
theorem Tab.rowlen {L:Int} {N:List (List Int)} (h:Tab L N) {q:Int} (q0:0<=q) (q1:q < N.length):((ix N q).length:Int)=L:=h.row _ (zbJ q0 q1)
theorem Tab.wlkb {L:Int} {N:List (List Int)} (h:Tab L N):∀ {w:List Int} {q:Int},0<=q->q < N.length->(∀ a∈w,0<=a/\a < L)->0<=wlk N q w/\wlk N q w < N.length
 | [],q,q0,q1,_=>⟨q0,q1⟩
 | a::w,q,q0,q1,hw=>by
  have:=h.stpb q0 q1 (hw a (by simp)).1 (hw a (by simp)).2
  exact Tab.wlkb h (q:=stp N q a) (w:=w) this.1 this.2 (fun b hb=>hw b (by simp [hb]))
theorem Tab.trcb {L:Int} {N:List (List Int)} (h:Tab L N):∀ {w:List Int} {q:Int},0<=q->q < N.length->(∀ a∈w,0<=a/\a < L)->∀ p∈trc N q w,0<=p/\p < N.length
 | [],q,q0,q1,_,p,hp=>by cases hp
 | a::w,q,q0,q1,hw,p,hp=>by
  have:=h.stpb q0 q1 (hw a (by simp)).1 (hw a (by simp)).2
  rcases List.mem_cons.1 hp with rfl | hp
  ·exact this
  ·exact Tab.trcb h this.1 this.2 (fun b hb=>hw b (by simp [hb])) p hp
theorem zaL {α:Type}:∀ {ks:List α} {x:α},zaw ks x=none↔x∉ks
 | [],x=>by simp [zaw]
 | y::ys,x=>by
  unfold zaw;by_cases h:y=x
  ·rw [if_pos h];simp [h]
  ·rw [if_neg h,Option.map_eq_none_iff,zaL];simp [Ne.symm h]
abbrev ones {α:Type} (ks:List α):List Int:=List.replicate ks.length 1
theorem zvl {α:Type} {ks:List α} {x:α}:(mget ks (ones ks) x 0=0)↔x∉ks:=by
 unfold mget
 cases h:zaw ks x with
 | none=>simp [zaL.1 h]
 | some j=>
  have hx:x∈ks:=by
   refine Classical.byContradiction fun hn => ?_
   rw [zaL.2 hn] at h;cases h
  have:=zdM h;simp [hx,this]
theorem zl8 {α:Type} {ks:List α} {x:α} (h:x∉ks):zc9 ks x=ks++[x]:=by
 unfold zc9;rw [zaL.2 h]
theorem zvm {α:Type} {ks:List α} {x:α} (h:x∉ks):zdD ks (ones ks) x 1=ones (ks++[x]):=by
 unfold zdD;rw [zaL.2 h];show List.replicate ks.length 1++[1]=List.replicate (ks++[x]).length 1;rw [List.length_append,List.length_singleton,List.replicate_succ']
theorem zqP {α:Type} [DecidableEq α]:∀ {l U:List α},l.Nodup->(∀ x∈l,x∈U)->l.length<=U.length
 | [],_,_,_=>Nat.zero_le _
 | a::l,U,hn,hs=>by
  have ha:=hs a (by simp)
  obtain ⟨h1,h2⟩:=List.nodup_cons.1 hn;have:=zqP (U:=U.erase a) h2 (fun x hx=>(List.mem_erase_of_ne (by rintro rfl;exact h1 hx)).2 (hs x (by simp [hx])))
  rw [List.length_erase_of_mem ha] at this;have hp:0 < U.length:=List.length_pos_of_mem ha;rw [List.length_cons];omega
theorem zj1 {l:List Int} {n:Nat} (h:l.Nodup) (hb:∀ x∈l,0<=x/\x < n):l.length<=n:=by
 have:=zqP (U:=(List.range n).map Int.ofNat) h (fun x hx=>by
  have:=hb x hx;exact List.mem_map.2 ⟨x.toNat,List.mem_range.2 (by omega),by show ((x.toNat:Nat):Int)=x;omega⟩)
 simpa using this
theorem zpa {α:Type} {ks:List α} {x:α} (h:x∈ks):∃ j,zaw ks x=some j:=by
 cases e:zaw ks x with
 | none=>exact absurd h (zaL.1 e)
 | some j=>exact ⟨j,rfl⟩
theorem zho {α:Type} (ks:List α) (x:α):zaw (x::ks) x=some 0:=by unfold zaw;rw [if_pos rfl]
theorem zi8 {α:Type} {ks:List α} {x y:α} (h:y≠x):zaw (y::ks) x=(zaw ks x).map (·+1):=by
 rw [zaw,if_neg h]
theorem zl4 {α:Type}:∀ {ks:List α} {x:α} {j:Nat} (l:List α),zaw ks x=some j->zaw (ks++l) x=some j
 | [],_,_,_,h=>by cases h
 | y::ks,x,j,l,h=>by
  rw [List.cons_append];by_cases e:y=x
  ·subst e;rw [zho] at h ⊢;exact h
  ·rw [zi8 e] at h ⊢
   cases hm:zaw ks x with
   | none=>rw [hm] at h;cases h
   | some i=>rw [hm] at h;rw [zl4 l hm];exact h
theorem zl5 {α:Type}:∀ {ks:List α} {x:α},x∉ks->zaw (ks++[x]) x=some ks.length
 | [],x,_=>zho _ _
 | y::ks,x,h=>by
  have hy:y≠x:=by rintro rfl;exact h (by simp)
  rw [List.cons_append,zi8 hy,zl5 (fun hh=>h (by simp [hh]))];rfl
theorem zoa {α:Type}:∀ {ks:List α} {x:α} {k:Nat},ks[k]? =some x->(∀ j,j < k->ks[j]? ≠some x)->zaw ks x=some k
 | [],_,_,h,_=>by simp at h
 | y::ks,x,k,h,hf=>by
  cases k with
  | zero=>
   have:y=x:=by simpa using h
   subst this;exact zho _ _
  | succ k=>
   have hy:y≠x:=by have:=hf 0 (by omega);simpa using this
   rw [zi8 hy,zoa (k:=k) (by simpa using h) (fun j hj=>by have:=hf (j+1) (by omega);simpa using this)];rfl
theorem zsL {α:Type} {ks:List α} {x y:α} {j:Nat} (h:zaw ks x=some j) (k:zaw ks y=some j):x=y:=by
 have:=zdq h;rw [zdq k] at this;injection this with this;exact this.symm
theorem zl6 {α:Type} {ks:List α} (hn:ks.Nodup) {j:Nat} (hj:j < ks.length):zaw ks ks[j]=some j:=
 zoa (by simp) fun i hi e=>by
  have hi':i < ks.length:=by omega
  rw [List.getElem?_eq_getElem hi'] at e;exact List.pairwise_iff_getElem.1 hn i j hi' hj hi (Option.some.inj e)
theorem zo9 {α β:Type} (f:α->β):∀ {ks:List α} {x:α},(∀ y∈ks,f y=f x->y=x)->zaw (ks.map f) (f x)=zaw ks x
 | [],_,_=>rfl
 | y::ks,x,h=>by
  have ih:=zo9 f (ks:=ks) (x:=x) (fun z hz=>h z (by simp [hz]))
  rw [List.map_cons];by_cases e:y=x
  ·subst e;rw [zho,zho]
  ·rw [zi8 e,zi8 (fun hh=>e (h y (by simp) hh)),ih]
def iota (n:Nat):List Int:=(List.range n).map fun j:Nat=>(j:Int)
theorem zqE (n:Nat):(iota n).length=n:=by simp [iota]
theorem zsw (n:Nat):iota (n+1)=iota n++[(n:Int)]:=by simp [iota,List.range_succ]
theorem zpb {α:Type} {ks:List α} {x:α} {j:Nat} (h:zaw ks x=some j):mget ks (iota ks.length) x 0=j:=by
 have:=zdM h;unfold mget;rw [h];simp [iota,this]
theorem zhp {α:Type} {ks:List α} {x:α}:mhas ks x=true↔x∈ks:=by
 unfold mhas
 cases e:zaw ks x with
 | none=>simp [zaL.1 e]
 | some j=>
  have:=zdq e;simp [List.mem_of_getElem? this]
theorem znd {α:Type} {ks:List α} {x:α} (h:x∉ks):zdD ks (iota ks.length) x ks.length=iota (ks++[x]).length:=by
 unfold zdD;rw [zaL.2 h,List.length_append,List.length_singleton,zsw]
theorem zlz {α:Type} [DecidableEq α]:∀ {l U:List α},U.Nodup->(∀ x∈U,x∈l)->l.length<=U.length->l.Nodup
 | [],_,_,_,_=>List.nodup_nil
 | a::l,U,hU,hs,hl=>by
  have ha:a∉l:=fun ha=>by
   have:=zqP (l:=U) (U:=l) hU (fun x hx=>by
    rcases List.mem_cons.1 (hs x hx) with rfl | h
    ·exact ha
    ·exact h)
   rw [List.length_cons] at hl;omega
  refine List.nodup_cons.2 ⟨ha,?_⟩
  refine zlz (U:=U.erase a) (hU.erase a) (fun x hx => ?_) ?_
  ·have hne:x≠a:=((List.Nodup.mem_erase_iff hU).1 hx).1;rcases List.mem_cons.1 (hs x (List.mem_of_mem_erase hx)) with h | h
   ·exact absurd h hne
   ·exact h
  ·have:U.length - 1<=(U.erase a).length:=by
    by_cases h:a∈U
    ·rw [List.length_erase_of_mem h];omega
    ·rw [List.erase_of_not_mem h];omega
   rw [List.length_cons] at hl;omega
def keyL (l:List Int):List Int:=l.flatMap fun x=>[IntKind.wrap .u8 x,IntKind.wrap .u8 (ishr .i64 x 8)]
def keyB (l:List Int):List UInt8:=bstr (keyL l)
theorem zu6 (x:Int):IntKind.wrap .u8 x=x % 256:=by
 unfold IntKind.wrap;simp [IntKind.bits,IntKind.signed]
theorem ziT (x:Int) (l:List Int):keyB (x::l)=UInt8.ofNat (x % 256).toNat::UInt8.ofNat (ishr .i64 x 8 % 256).toNat::keyB l:=by
 unfold keyB keyL bstr;simp [zu6]
theorem zt5 {a b:Int} (h:UInt8.ofNat (a % 256).toNat=UInt8.ofNat (b % 256).toNat):a % 256=b % 256:=by
 have:=congrArg UInt8.toNat h;simp only [UInt8.toNat_ofNat'] at this;omega
theorem zqJ:∀ {l k:List Int},(∀ x∈l,0<=x/\x < 65536)->(∀ x∈k,0<=x/\x < 65536)->keyB l=keyB k->l=k
 | [],[],_,_,_=>rfl
 | [],y::k,_,_,h=>by rw [ziT] at h;cases h
 | x::l,[],_,_,h=>by rw [ziT] at h;cases h
 | x::l,y::k,hl,hk,h=>by
  rw [ziT,ziT] at h;injection h with h1 h
  injection h with h2 h
  have hx:=hl x (by simp)
  have hy:=hk y (by simp)
  have e1:=zt5 h1;have e2:=zt5 h2;obtain ⟨a,rfl⟩:∃ a:Nat,x=a:=⟨x.toNat,by omega⟩
  obtain ⟨b,rfl⟩:∃ b:Nat,y=b:=⟨y.toNat,by omega⟩
  rw [show (8:Int)=((8:Nat):Int) from rfl,zqI (by omega),zqI (by omega),Nat.shiftRight_eq_div_pow,Nat.shiftRight_eq_div_pow] at e2
  have:a=b:=by omega
  rw [this,zqJ (fun z hz=>hl z (by simp [hz])) (fun z hz=>hk z (by simp [hz])) h]
theorem zty (l:List Int):(keyL l).length=2 * l.length:=by
 induction l with
 | nil=>rfl
 | cons x l ih=>unfold keyL at *; rw [List.flatMap_cons,List.length_append,ih];simp;omega
def mkR (n:Nat) (g:Int->Int):List Int:=(List.range n).map fun a:Nat=>g a
theorem zp5 (n:Nat) (g:Int->Int):(mkR n g).length=n:=by simp [mkR]
theorem ztZ {n:Nat} {g:Int->Int} {a:Int} (h0:0<=a) (h1:a < n):ix (mkR n g) a=g a:=by
 rw [ziS h0 (by rw [zp5];exact h1)]
 simp [mkR,Int.toNat_of_nonneg h0]
theorem mkR_of {n:Nat} {g:Int->Int} {l:List Int} (hl:l.length=n) (h:∀ a:Int,0<=a->a < n->ix l a=g a):l=mkR n g:=
 zna (by rw [zp5,hl]) fun j j0 j1=>by rw [ztZ j0 (by omega),h j j0 (by omega)]
abbrev Dt:=Int×Int×(List (List Int))×(List Int)×Unit
def DBig (mx:Int) (d:Dt):Prop:=d.2.2.1.length < 1\/mx < d.2.2.1.length
def DRag (d:Dt):Prop := ¬ (d.2.2.2.1.length:Int)=d.2.2.1.length\/∃ r∈d.2.2.1,¬ (r.length:Int)=d.1
def DOut (mb:Int->Prop) (d:Dt):Prop:=(d.2.1 < 0\/(d.2.2.1.length:Int)<=d.2.1)\/(∃ r∈d.2.2.1,∃ q∈r,q < 0\/(d.2.2.1.length:Int)<=q)\/(∃ s∈d.2.2.2.1,mb s)
open Classical in
def detE (mx:Int) (mb:Int->Prop) (d:Dt):Int:=if d.1 < 1\/4 < d.1 then 2 else if DBig mx d then 1 else if DRag d then 3 else if DOut mb d then 2 else 0
structure DOk (mx:Int) (mb:Int->Prop) (d:Dt):Prop where
 let1:1<=d.1/\d.1<=4
 n1:1<=d.2.2.1.length/\(d.2.2.1.length:Int)<=mx
 st:0<=d.2.1/\d.2.1 < d.2.2.1.length
 mkl:(d.2.2.2.1.length:Int)=d.2.2.1.length
 mok:∀ s∈d.2.2.2.1,¬ mb s
 tab:Tab d.1 d.2.2.1
theorem zr2 {mx:Int} {mb:Int->Prop} {d:Dt} (h:detE mx mb d=0):DOk mx mb d:=by
 unfold detE at h;by_cases c1:d.1 < 1\/4 < d.1
 ·rw [if_pos c1] at h;omega
 rw [if_neg c1] at h;by_cases c2:DBig mx d
 ·rw [if_pos c2] at h;omega
 rw [if_neg c2] at h;by_cases c3:DRag d
 ·rw [if_pos c3] at h;omega
 rw [if_neg c3] at h;by_cases c4:DOut mb d
 ·rw [if_pos c4] at h;omega
 unfold DBig at c2;unfold DRag at c3;unfold DOut at c4;refine ⟨by omega,by omega,?_,?_,fun s hs hm=>c4 (.inr (.inr ⟨s,hs,hm⟩)),fun r hr => ?_,fun r hr q hq => ?_⟩
 ·have : ¬ (d.2.1 < 0\/(d.2.2.1.length:Int)<=d.2.1):=fun h=>c4 (.inl h)
  omega
 ·exact Decidable.not_not.1 fun h=>c3 (.inl h)
 ·by_cases e:(r.length:Int)=d.1
  ·exact e
  ·exact absurd (.inr ⟨r,hr,e⟩) c3
 ·have : ¬ (q < 0\/(d.2.2.1.length:Int)<=q):=fun h=>c4 (.inr (.inl ⟨r,hr,q,hq,h⟩))
  omega
theorem detE_of {mx:Int} {mb:Int->Prop} {d:Dt} (h:DOk mx mb d):detE mx mb d=0:=by
 have h1:=h.let1;have h2:=h.n1;have h3:=h.st;have h4:=h.mkl;unfold detE;rw [if_neg (by omega),if_neg (by unfold DBig;omega),if_neg,if_neg]
 ·rintro (hh | ⟨r,hr,q,hq,hh⟩ | ⟨s,hs,hh⟩)
  ·omega
  ·have:=h.tab.to r hr q hq;omega
  ·exact h.mok s hs hh
 ·rintro (hh | ⟨r,hr,hh⟩)
  ·exact hh h4
  ·exact hh (h.tab.row r hr)
section
variable {d:Dt} {mb:Int->Prop}
def sigC (d:Dt) (c:List Int) (q:Int):Int×List Int:=(ix c q,(ix d.2.2.1 q).map (ix c))
def ksC (d:Dt) (c:List Int):Nat->List (Int×List Int)
 | 0=>[]
 | t+1=>if sigC d c (t:Int)∈ksC d c t then ksC d c t else ksC d c t++[sigC d c (t:Int)]
def idxC (d:Dt) (c:List Int) (q:Nat):Nat:=(zaw (ksC d c (q+1)) (sigC d c (q:Int))).getD 0
def rfC (d:Dt) (c:List Int):List Int:=mkR d.2.2.1.length fun q=>(idxC d c q.toNat:Int)
theorem zcF (c:List Int) (t:Nat):ksC d c (t+1)=if sigC d c (t:Int)∈ksC d c t then ksC d c t else ksC d c t++[sigC d c (t:Int)]:=rfl
theorem zuw (c:List Int):∀ t,∃ x,ksC d c (t+1)=ksC d c t++x:=fun t=>by
 rw [zcF];by_cases h:sigC d c (t:Int)∈ksC d c t
 ·exact ⟨[],by rw [if_pos h,List.append_nil]⟩
 ·exact ⟨_,by rw [if_neg h]⟩
theorem zjU (c:List Int):∀ t q:Nat,q < t->sigC d c (q:Int)∈ksC d c t
 | t+1,q,h=>by
  rw [zcF];by_cases e:q=t
  ·subst e;by_cases h:sigC d c (q:Int)∈ksC d c q
   ·rw [if_pos h];exact h
   ·rw [if_neg h];simp
  ·have:=zjU c t q (by omega)
   by_cases h:sigC d c (t:Int)∈ksC d c t
   ·rw [if_pos h];exact this
   ·rw [if_neg h];simp [this]
theorem zo1 (c:List Int):∀ (t:Nat),∀ k∈ksC d c t,∃ q:Nat,q < t/\k=sigC d c (q:Int)
 | 0,k,h=>by cases h
 | t+1,k,h=>by
  rw [zcF] at h;by_cases e:sigC d c (t:Int)∈ksC d c t
  ·rw [if_pos e] at h;obtain ⟨q,h1,h2⟩:=zo1 c t k h;exact ⟨q,by omega,h2⟩
  ·rw [if_neg e] at h;rcases List.mem_append.1 h with h | h
   ·obtain ⟨q,h1,h2⟩:=zo1 c t k h;exact ⟨q,by omega,h2⟩
   ·exact ⟨t,by omega,List.mem_singleton.1 h⟩
theorem zlW (c:List Int):∀ t,(ksC d c t).Nodup
 | 0=>List.nodup_nil
 | t+1=>by
  rw [zcF];by_cases h:sigC d c (t:Int)∈ksC d c t
  ·rw [if_pos h];exact zlW c t
  ·rw [if_neg h,List.nodup_append];exact ⟨zlW c t,by simp,fun a ha b hb=>by rw [List.mem_singleton.1 hb];rintro rfl;exact h ha⟩
theorem zsD (c:List Int):∀ t,(ksC d c t).length<=t
 | 0=>Nat.le_refl _
 | t+1=>by
  have:=zsD c t;rw [zcF]
  split
  ·omega
  ·rw [List.length_append,List.length_singleton];omega
theorem zgG (c:List Int) (q:Nat):∀ t,q < t->zaw (ksC d c t) (sigC d c (q:Int))=some (idxC d c q)
 | t+1,h=>by
  by_cases e:q=t
  ·subst e;obtain ⟨j,hj⟩:=zpa (zjU (d:=d) c (q+1) q (by omega))
   unfold idxC;rw [hj];rfl
  ·obtain ⟨x,hx⟩:=zuw (d:=d) c t;rw [hx];exact zl4 x (zgG c q t (by omega))
theorem ztu (c:List Int) {q r:Nat}:idxC d c q=idxC d c r↔sigC d c (q:Int)=sigC d c (r:Int):=by
 have h1:=zgG (d:=d) c q (max q r+1) (by omega)
 have h2:=zgG (d:=d) c r (max q r+1) (by omega)
 constructor
 ·intro e;rw [<- e] at h2;exact zsL h1 h2
 ·intro e;rw [e,h2] at h1;exact (Option.some.inj h1).symm
theorem zuq (c:List Int) {q t:Nat} (h:q < t):idxC d c q < (ksC d c t).length:=zdM (zgG c q t h)
theorem ztv (c:List Int) {t j:Nat} (h:j < (ksC d c t).length):∃ q,q < t/\idxC d c q=j:=by
 obtain ⟨q,hq,e⟩:=zo1 c t _ (List.getElem_mem h);refine ⟨q,hq,?_⟩
 have h1:=zgG (d:=d) c q t hq;rw [<- e,zl6 (zlW c t) h] at h1;exact (Option.some.inj h1).symm
structure ClsOk (d:Dt) (c:List Int):Prop where
 len:c.length=d.2.2.1.length
 b:∀ q:Int,0<=q->q < c.length->0<=ix c q/\ix c q < 65536
theorem zmv (c:List Int):(rfC d c).length=d.2.2.1.length:=zp5 _ _
theorem znl (c:List Int) {q:Int} (h0:0<=q) (h1:q < d.2.2.1.length):ix (rfC d c) q=idxC d c q.toNat:=ztZ h0 h1
theorem zoq (h:DOk 3000 mb d) (c:List Int) {q:Int} (h0:0<=q) (h1:q < d.2.2.1.length):((sigC d c q).2.length:Int)=d.1:=by
 unfold sigC;rw [List.length_map];exact h.tab.rowlen h0 h1
theorem zqU (h:DOk 3000 mb d) {c:List Int} (hc:ClsOk d c) {q:Int} (h0:0<=q) (h1:q < d.2.2.1.length):∀ x∈(sigC d c q).2,0<=x/\x < 65536:=by
 intro x hx;unfold sigC at hx;obtain ⟨y,hy,rfl⟩:=List.mem_map.1 hx;have:=h.tab.to _ (zbJ h0 h1) y hy;exact hc.b y this.1 (by rw [hc.len];exact this.2)
theorem zjx (h:DOk 3000 mb d) (c:List Int) {q a:Int} (h0:0<=q) (h1:q < d.2.2.1.length) (a0:0<=a) (a1:a < d.1):ix (sigC d c q).2 a=ix c (ix (ix d.2.2.1 q) a):=by
 have:=h.tab.rowlen h0 h1;unfold sigC;exact zkv _ a0 (by omega)
theorem zop (h:DOk 3000 mb d) (c:List Int) {p q:Int} (p0:0<=p) (p1:p < d.2.2.1.length) (q0:0<=q) (q1:q < d.2.2.1.length):sigC d c p=sigC d c q↔ix c p=ix c q/\∀ a:Int,0<=a->a < d.1->ix c (ix (ix d.2.2.1 p) a)=ix c (ix (ix d.2.2.1 q) a):=by
 have l1:=zoq h c p0 p1;have l2:=zoq h c q0 q1;constructor
 ·intro e;refine ⟨congrArg Prod.fst e,fun a a0 a1 => ?_⟩
  rw [<- zjx h c p0 p1 a0 a1,<- zjx h c q0 q1 a0 a1,e]
 ·rintro ⟨e1,e2⟩;refine Prod.ext e1 (zna (by omega) fun a a0 a1 => ?_)
  rw [zjx h c p0 p1 a0 (by omega),zjx h c q0 q1 a0 (by omega)]
  exact e2 a a0 (by omega)
def encK (k:Int×List Int):Int×List UInt8×Unit:=(k.1,keyB k.2,())
theorem zqt {k l:Int×List Int} (hk:∀ x∈k.2,0<=x/\x < 65536) (hl:∀ x∈l.2,0<=x/\x < 65536) (e:encK k=encK l):k=l:=by
 unfold encK at e;injection e with e1 e2
 injection e2 with e2 e3
 exact Prod.ext e1 (zqJ hk hl e2)
theorem zlB (h:DOk 3000 mb d) {c:List Int} (hc:ClsOk d c) {t:Nat} (ht:t < d.2.2.1.length) {number:List (Int×List UInt8×Unit)} {number_1 next':List Int} {r6}:
  zaA d c t number number_1 next' r6 0 []=if mhas number (encK (sigC d c t))=true then zaz c t next' r6 (keyL (sigC d c t).2) number number_1
   else zaz c t next' r6 (keyL (sigC d c t).2) (zc9 number (encK (sigC d c t))) (zdD number number_1 (encK (sigC d c t)) (number.length:Int)):=by
 have hrl:=h.tab.rowlen (q:=(t:Int)) (by omega) (by omega)
 have hlt:=h.let1;have hcl:=hc.len;have key:∀ (n:Nat) (a:Int),((ix d.2.2.1 (t:Int)).length - a).toNat=n->0<=a->a<=(ix d.2.2.1 (t:Int)).length->
   zaA d c t number number_1 next' r6 a (keyL ((sigC d c t).2.take a.toNat))=zaA d c t number number_1 next' r6 (ix d.2.2.1 (t:Int)).length (keyL (sigC d c t).2):=by
  intro n
  induction n with
  | zero=>
   intro a hn a0 a1;obtain rfl:a=(ix d.2.2.1 (t:Int)).length:=by omega
   rw [List.take_of_length_le (by unfold sigC;rw [List.length_map];omega)]
  | succ n ih=>
   intro a hn a0 a1;have hst:=h.tab.stpb (q:=(t:Int)) (a:=a) (by omega) (by omega) a0 (by omega)
   unfold stp at hst;rw [<- ih (a+1) (by omega) (by omega) (by omega)]
   conv=>lhs;rw [zes];unfold zaJ
   have hk:=zty ((sigC d c t).2.take a.toNat);rw [List.length_take] at hk;have hsl:=zoq h c (q:=(t:Int)) (by omega) (by omega)
   rw [if_pos (by simp;omega)]
   refine G_to (by omega) (G_to (by omega) (G_to (by omega) (G_to (by omega) (G_to (by omega) (G_to (by omega) (G_to (by unfold room;simp;omega) (G_to (by unfold fits;omega) ?_)))))))
   congr 1
   rw [zsC a0 (by omega),zjx h c (q:=(t:Int)) (by omega) (by omega) a0 (by omega)]
   unfold keyL;rw [List.flatMap_append];rfl
 refine (key _ 0 rfl (by omega) (by omega)).trans ?_
 rw [zes];unfold zaJ;rw [if_neg (by simp)]
 refine G_to (by omega) (G_to (by omega) ?_)
 rw [show (ix c (t:Int),bstr (keyL (sigC d c t).2),())=encK (sigC d c t) from rfl];by_cases c1:mhas number (encK (sigC d c t))=true
 ·rw [if_neg (by simp [c1]),if_pos c1]
 ·rw [if_pos (by simpa using c1),if_neg c1]
theorem zkW (h:DOk 3000 mb d) {c:List Int} (hc:ClsOk d c) {count:Int} {r3}:∀ (n t:Nat) (next':List Int),d.2.2.1.length - t=n->t<=d.2.2.1.length->next'.length=d.2.2.1.length->(∀ j:Int,0<=j->j < t->ix next' j=ix (rfC d c) j)->
  zaZ d count c r3 t ((ksC d c t).map encK) (iota (ksC d c t).length) next'=if ((ksC d c d.2.2.1.length).length:Int)=count then some (rfC d c) else r3 ((ksC d c d.2.2.1.length).length:Int) (rfC d c):=by
 have hn:=h.n1;intro n
 induction n with
 | zero=>
  intro t next' hn2 ht hl hj;obtain rfl:t=d.2.2.1.length:=by omega
  have:next'=rfC d c:=zna (by rw [zmv];exact hl) fun j j0 j1=>hj j j0 (by omega)
  rw [ze6];unfold zaQ;rw [if_neg (by simp),List.length_map,this]
  by_cases e:((ksC d c d.2.2.1.length).length:Int)=count
  ·rw [if_pos (decide_eq_true e),if_pos e]
  ·rw [if_neg (by simpa using e),if_neg e]
 | succ n ih=>
  intro t next' hn2 ht hl hj;rw [ze6];unfold zaQ;rw [if_pos (by simp;omega)]
  refine G_to (by omega) ?_
  rw [zlB h hc (by omega)]
  have inj:∀ y∈ksC d c t,encK y=encK (sigC d c t)->y=sigC d c t:=fun y hy e=>by
   obtain ⟨q,hq,rfl⟩:=zo1 c t y hy;exact zqt (zqU h hc (by omega) (by omega)) (zqU h hc (by omega) (by omega)) e
  have hmem:encK (sigC d c t)∈(ksC d c t).map encK↔sigC d c t∈ksC d c t:=by
   rw [List.mem_map];exact ⟨fun ⟨y,hy,e⟩=>inj y hy e ▸ hy,fun hy=>⟨_,hy,rfl⟩⟩
  have hat:=zgG (d:=d) c t (t+1) (by omega)
  have inj':∀ y∈ksC d c (t+1),encK y=encK (sigC d c t)->y=sigC d c t:=fun y hy e=>by
   obtain ⟨q,hq,rfl⟩:=zo1 c (t+1) y hy;exact zqt (zqU h hc (by omega) (by omega)) (zqU h hc (by omega) (by omega)) e
  have hget:mget ((ksC d c (t+1)).map encK) (iota (ksC d c (t+1)).length) (encK (sigC d c t)) 0=idxC d c t:=by
   have h1:zaw ((ksC d c (t+1)).map encK) (encK (sigC d c t))=some (idxC d c t):=by rw [zo9 encK inj',hat]
   have:=zpb h1
   rwa [List.length_map] at this
  have fin:zaz c t next' (zaZ d count c r3) (keyL (sigC d c t).2) ((ksC d c (t+1)).map encK) (iota (ksC d c (t+1)).length)=if ((ksC d c d.2.2.1.length).length:Int)=count then some (rfC d c) else r3 ((ksC d c d.2.2.1.length).length:Int) (rfC d c):=by
   unfold zaz;refine G_to (by omega) (G_to (by omega) (G_to (by unfold fits;omega) ?_))
   rw [show (ix c (t:Int),bstr (keyL (sigC d c t).2),())=encK (sigC d c t) from rfl,hget];refine ih (t+1) _ (by omega) (by omega) (by rw [List.length_set];exact hl) (fun j j0 j1 => ?_)
   by_cases e:j=t
   ·subst e;rw [zbz j0 (by omega),znl c j0 (by omega)];simp
   ·rw [zdp (by omega) j0 (Ne.symm e)];exact hj j j0 (by omega)
  by_cases e:sigC d c t∈ksC d c t
  ·rw [if_pos (zhp.2 (hmem.2 e))];rw [zcF,if_pos e] at fin;exact fin
  ·have hne:=fun hh=>e (hmem.1 hh)
   rw [if_neg (fun hh=>hne (zhp.1 hh)),zl8 hne]
   have hv:=znd hne;rw [List.length_map] at hv;rw [List.length_map,hv];rw [zcF,if_neg e] at fin;rw [List.map_append] at fin;rw [List.length_append,List.length_map];rw [List.length_append] at fin;exact fin
theorem zio (h:DOk 3000 mb d) {c:List Int} (hc:ClsOk d c) {n q:Int} {next' first:List Int} {r7 k r10} (q0:0<=q) (q1:q < d.2.2.1.length) (p0:0<=ix first k) (p1:ix first k < d.2.2.1.length) (hk:0<=k/\k<=100000):∀ (f:Nat) (same:Bool) (a:Int),(d.1 - a).toNat=f->0<=a->a<=d.1->
  (same=true↔ix c (ix first k)=ix c q/\∀ b:Int,0<=b->b < a->ix c (ix (ix d.2.2.1 (ix first k)) b)=ix c (ix (ix d.2.2.1 q) b))\/(same=false/\sigC d c (ix first k)≠sigC d c q)->
  za4 d c n q next' first r7 k r10 same a=if sigC d c (ix first k)=sigC d c q then zaN n q next' first r7 k else r10 (k+1):=by
 have hlt:=h.let1;have hcl:=hc.len;have bad:∀ a:Int,a<=d.1->sigC d c (ix first k)≠sigC d c q->za4 d c n q next' first r7 k r10 false a=if sigC d c (ix first k)=sigC d c q then zaN n q next' first r7 k else r10 (k+1):=fun a _ hne=>by
  rw [if_neg hne,zdd];unfold zaH za3;simp only [Bool.false_eq_true,if_false,ite_self];exact G_to (by unfold fits;omega) rfl
 intro f
 induction f with
 | zero=>
  intro same a hf a0 a1 hs;obtain rfl:a=d.1:=by omega
  rcases hs with hs | ⟨rfl,hs⟩
  ·rw [<- zop h c p0 p1 q0 q1] at hs
   cases same with
   | false=>exact bad _ (by omega) (fun e=>by have:=hs.2 e;cases this)
   | true=>
    rw [if_pos (hs.1 rfl),zdd];unfold zaH za3;rw [if_neg (by simp),if_pos rfl]
  ·exact bad _ (by omega) hs
 | succ f ih=>
  intro same a hf a0 a1 hs;rcases hs with hs | ⟨rfl,hs⟩
  ·cases same with
   | false=>
    refine bad _ a1 (fun e => ?_)
    rw [zop h c p0 p1 q0 q1] at e;have:=hs.2 ⟨e.1,fun b b0 b1=>e.2 b b0 (by omega)⟩
    cases this
   | true=>
    have hp:=h.tab.rowlen p0 p1;have hq:=h.tab.rowlen q0 q1;have sp:=h.tab.stpb p0 p1 a0 (by omega)
    have sq:=h.tab.stpb q0 q1 a0 (by omega)
    unfold stp at sp sq;rw [zdd];unfold zaH za3;rw [if_pos (by simp;omega),if_pos rfl]
    refine G_to (by omega) (G_to (by omega) (G_to (by omega) (G_to (by omega) (G_to (by omega) (G_to (by omega) (G_to (by omega) (G_to (by omega) (G_to (by unfold fits;omega) ?_))))))))
    refine ih _ (a+1) (by omega) (by omega) (by omega) (.inl ?_)
    rw [decide_eq_true_iff];have hs':=hs.1 rfl;constructor
    ·intro e;refine ⟨hs'.1,fun b b0 b1 => ?_⟩
     by_cases e2:b=a
     ·rw [e2];exact e
     ·exact hs'.2 b b0 (by omega)
    ·intro e;exact e.2 a a0 (by omega)
  ·exact bad _ a1 hs
theorem zj4 (h:DOk 3000 mb d) {c:List Int} (hc:ClsOk d c) {t:Nat} (ht:t < d.2.2.1.length) {next' first:List Int} {r7} (hl:next'.length=d.2.2.1.length) (hf:first.map (sigC d c)=ksC d c t) (hb:∀ p:Int,p∈first->0<=p/\p < d.2.2.1.length):
  ∃ first':List Int,first'.map (sigC d c)=ksC d c (t+1)/\(∀ p:Int,p∈first'->0<=p/\p < d.2.2.1.length)/\zaO d c (first.length:Int) t next' first r7 0=r7 (first'.length:Int) ((t:Int)+1) (next'.set t (idxC d c t:Int)) first':=by
 have hn:=h.n1;have hfl:first.length=(ksC d c t).length:=by rw [<- hf,List.length_map]
 have hle:=zsD (d:=d) c t;have hcl:=hc.len;have key:∀ (f:Nat) (k:Int),(first.length - k).toNat=f->0<=k->k<=first.length->(∀ j:Int,0<=j->j < k->sigC d c (ix first j)≠sigC d c t)->
   ∃ first':List Int,first'.map (sigC d c)=ksC d c (t+1)/\(∀ p:Int,p∈first'->0<=p/\p < d.2.2.1.length)/\zaO d c (first.length:Int) t next' first r7 k=r7 (first'.length:Int) ((t:Int)+1) (next'.set t (idxC d c t:Int)) first':=by
  intro f
  induction f with
  | zero=>
   intro k hk k0 k1 hj;obtain rfl:k=first.length:=by omega
   have hnot:sigC d c t∉ksC d c t:=fun hm=>by
    rw [<- hf] at hm;obtain ⟨p,hp,e⟩:=List.mem_map.1 hm;obtain ⟨j,j0,j1,rfl⟩:=(zff (P:=fun x=>x=p)).1 ⟨p,hp,rfl⟩
    exact hj j j0 j1 e
   have hidx:idxC d c t=first.length:=by
    have h1:=zgG (d:=d) c t (t+1) (by omega)
    rw [zcF,if_neg hnot,zl5 hnot] at h1;rw [hfl];exact (Option.some.inj h1).symm
   refine ⟨first++[(t:Int)],by rw [List.map_append,hf,zcF,if_neg hnot];rfl,fun p hp=>(List.mem_append.1 hp).elim (hb p) (fun e=>by rw [List.mem_singleton.1 e];omega),?_⟩
   rw [zfl];unfold zaU zaN zbk;rw [if_neg (by simp),if_pos (by simp),hidx]
   refine G_to (by unfold room;simp;omega) (G_to (by unfold fits;omega) (G_to (by omega) (G_to (by omega) (G_to (by unfold fits;omega) ?_))))
   rw [List.length_append,List.length_singleton];rfl
  | succ f ih=>
   intro k hk k0 k1 hj;have hp:=hb _ (zbJ k0 (by omega:k < first.length))
   rw [zfl];unfold zaU;rw [if_pos (by simp;omega)]
   have hL:=zio (n:=(first.length:Int)) (next':=next') (first:=first) (r7:=r7) (k:=k) (r10:=zaO d c (first.length:Int) t next' first r7) h hc (q:=(t:Int)) (by omega) (by omega) hp.1 hp.2 (by omega) _ (decide (ix c (ix first k)=ix c (t:Int))) 0 rfl (by omega) (by have:=h.let1;omega) (.inl (by
    rw [decide_eq_true_iff];exact ⟨fun e=>⟨e,fun b b0 b1=>by omega⟩,fun e=>e.1⟩))
   have hG:∀ x:Option (List Int),G (0<=k/\k < (first.length:Int)) (G (k.toNat < first.length) (G (0<=ix first k/\ix first k < (c.length:Int)) (G ((ix first k).toNat < c.length) (G (0<=(t:Int)/\(t:Int) < (c.length:Int)) (G (((t:Int)).toNat < c.length) x)))))=x:=fun x=>
    G_to (by omega) (G_to (by omega) (G_to (by omega) (G_to (by omega) (G_to (by omega) (G_to (by omega) rfl)))))
   rw [hG,hL];by_cases e:sigC d c (ix first k)=sigC d c t
   ·rw [if_pos e];have hget:(ksC d c t)[k.toNat]? =some (sigC d c t):=by
     rw [<- hf,List.getElem?_map,zsB k0 (by omega),Option.map_some,e]
    have hin:sigC d c t∈ksC d c t:=List.mem_of_getElem? hget;have hidx:(idxC d c t:Int)=k:=by
     have h1:=zgG (d:=d) c t (t+1) (by omega)
     rw [zcF,if_pos hin,zoa hget (fun j hj2 e2=>by
      have h3:=hj (j:Int) (by omega) (by omega)
      rw [<- hf,List.getElem?_map,<- Int.toNat_natCast j,zsB (by omega) (by omega),Option.map_some] at e2
      exact h3 (Option.some.inj e2))] at h1
     have:=Option.some.inj h1;omega
    refine ⟨first,by rw [hf,zcF,if_pos hin],hb,?_⟩
    unfold zaN zbk;rw [if_neg (by simp;omega),hidx]
    exact G_to (by omega) (G_to (by omega) (G_to (by unfold fits;omega) rfl))
   ·rw [if_neg e];refine ih (k+1) (by omega) (by omega) (by omega) (fun j j0 j1 => ?_)
    by_cases e2:j=k
    ·rw [e2];exact e
    ·exact hj j j0 (by omega)
 exact key _ 0 rfl (by omega) (by omega) (fun j j0 j1=>by omega)
theorem zmi (h:DOk 3000 mb d) {c:List Int} (hc:ClsOk d c) {count:Int} {r3}:∀ (n t:Nat) (next' first:List Int),d.2.2.1.length - t=n->t<=d.2.2.1.length->next'.length=d.2.2.1.length->(∀ j:Int,0<=j->j < t->ix next' j=ix (rfC d c) j)->first.map (sigC d c)=ksC d c t->(∀ p:Int,p∈first->0<=p/\p < d.2.2.1.length)->
  zbf d count c r3 (first.length:Int) t next' first=if ((ksC d c d.2.2.1.length).length:Int)=count then some (rfC d c) else r3 ((ksC d c d.2.2.1.length).length:Int) (rfC d c):=by
 have hn:=h.n1;have hcl:=hc.len;intro n
 induction n with
 | zero=>
  intro t next' first hn2 ht hl hj hf hb;obtain rfl:t=d.2.2.1.length:=by omega
  have:next'=rfC d c:=zna (by rw [zmv];exact hl) fun j j0 j1=>hj j j0 (by omega)
  have hfl:first.length=(ksC d c d.2.2.1.length).length:=by rw [<- hf,List.length_map]
  rw [zf2];unfold zba;rw [if_neg (by simp;omega),this,hfl]
  by_cases e:((ksC d c d.2.2.1.length).length:Int)=count
  ·rw [if_pos (decide_eq_true e),if_pos e]
  ·rw [if_neg (by simpa using e),if_neg e]
 | succ n ih=>
  intro t next' first hn2 ht hl hj hf hb;rw [zf2];unfold zba;rw [if_pos (by simp;omega)]
  obtain ⟨first',f1,f2,f3⟩:=zj4 (r7:=zbf d count c r3) h hc (by omega:t < d.2.2.1.length) hl hf hb
  refine f3.trans ?_
  refine ih (t+1) _ first' (by omega) (by omega) (by rw [List.length_set];exact hl) (fun j j0 j1 => ?_) f1 f2
  by_cases e:j=t
  ·subst e;have:=zbz (l:=next') (i:=(t:Int)) (x:=(idxC d c t:Int)) (by omega) (by omega)
   rw [Int.toNat_natCast] at this;rw [this,znl c j0 (by omega),Int.toNat_natCast]
  ·have:=zdp (l:=next') (i:=(t:Int)) (j:=j) (x:=(idxC d c t:Int)) (by omega) j0 (Ne.symm e)
   rw [Int.toNat_natCast] at this;rw [this];exact hj j j0 (by omega)
end
section
variable {d:Dt}
abbrev badD (m:Int):Prop := ¬ m=0 /\ ¬ m=1
def LEq (d:Dt) (q:Int) (e:Dt) (r:Int):Prop:=∀ w:List Int,(∀ a∈w,0<=a/\a < d.1)->ix d.2.2.2.1 (wlk d.2.2.1 q w)=ix e.2.2.2.1 (wlk e.2.2.1 r w)
theorem LEq.step {d e:Dt} {q r:Int} (h:LEq d q e r) {a:Int} (a0:0<=a) (a1:a < d.1):LEq d (ix (ix d.2.2.1 q) a) e (ix (ix e.2.2.1 r) a):=fun w hw=>h (a::w) (fun b hb=>(List.mem_cons.1 hb).elim (fun e=>by rw [e];exact ⟨a0,a1⟩) (hw b))
structure FinC (d:Dt) (C:List Int) (K:Nat):Prop where
 len:C.length=d.2.2.1.length
 le:K<=d.2.2.1.length
 b:∀ q:Int,0<=q->q < d.2.2.1.length->0<=ix C q/\ix C q < K
 sur:∀ v:Int,0<=v->v < K->∃ q:Int,0<=q/\q < d.2.2.1.length/\ix C q=v
 mark:∀ q r:Int,0<=q->q < d.2.2.1.length->0<=r->r < d.2.2.1.length->ix C q=ix C r->ix d.2.2.2.1 q=ix d.2.2.2.1 r
 stable:∀ q r:Int,0<=q->q < d.2.2.1.length->0<=r->r < d.2.2.1.length->ix C q=ix C r->∀ a:Int,0<=a->a < d.1->ix C (ix (ix d.2.2.1 q) a)=ix C (ix (ix d.2.2.1 r) a)
 coarse:∀ q r:Int,0<=q->q < d.2.2.1.length->0<=r->r < d.2.2.1.length->LEq d q d r->ix C q=ix C r
theorem zll {c:List Int} {q r:Int} (q0:0<=q) (q1:q < d.2.2.1.length) (r0:0<=r) (r1:r < d.2.2.1.length):ix (rfC d c) q=ix (rfC d c) r↔sigC d c q=sigC d c r:=by
 rw [znl c q0 q1,znl c r0 r1];have:=ztu (d:=d) c (q:=q.toNat) (r:=r.toNat);rw [Int.toNat_of_nonneg q0,Int.toNat_of_nonneg r0] at this;rw [<- this];exact ⟨fun e=>by exact_mod_cast e,fun e=>by rw [e]⟩
theorem ztw {n:Nat} {v:Int}:v∈iota n↔0<=v/\v < n:=by
 unfold iota;rw [List.mem_map];constructor
 ·rintro ⟨j,hj,rfl⟩;have:=List.mem_range.1 hj;omega
 ·rintro ⟨h0,h1⟩;exact ⟨v.toNat,List.mem_range.2 (by omega),by omega⟩
theorem zm9 (n:Nat):(iota n).Nodup:=by
 unfold iota;refine List.Pairwise.map _ (fun a b (h:a≠b)=>by omega) (List.nodup_range (n:=n))
theorem zoE (h:DOk 3000 badD d):∀ (f k:Nat) (c:List Int),d.2.2.1.length - k=f->ClsOk d c->
  (∀ q r:Int,0<=q->q < d.2.2.1.length->0<=r->r < d.2.2.1.length->ix c q=ix c r->ix d.2.2.2.1 q=ix d.2.2.2.1 r)->(∀ v:Int,0<=v->v < k->∃ q:Int,0<=q/\q < d.2.2.1.length/\ix c q=v)->(∀ q r:Int,0<=q->q < d.2.2.1.length->0<=r->r < d.2.2.1.length->LEq d q d r->ix c q=ix c r)->
  ∃ C K,FinC d C K/\zbK d (k:Int) c=some C/\zb3 d (k:Int) c=some C:=by
 have hn:=h.n1;intro f
 induction f using Nat.strongRecOn with
 | ind f ih=>
 intro k c hf hc hm hs hco;have hcl:=hc.len;have hK:=zsD (d:=d) c d.2.2.1.length;have hcov:∀ x∈iota k,x∈(ksC d c d.2.2.1.length).map Prod.fst:=fun x hx=>by
  obtain ⟨x0,x1⟩:=ztw.1 hx;obtain ⟨q,q0,q1,e⟩:=hs x x0 x1;have:=zjU (d:=d) c d.2.2.1.length q.toNat (by omega)
  rw [Int.toNat_of_nonneg q0] at this;exact List.mem_map.2 ⟨_,this,e⟩
 have hge:k<=(ksC d c d.2.2.1.length).length:=by
  have:=zqP (zm9 k) hcov
  rwa [zqE,List.length_map] at this
 have hpos:0 < (ksC d c d.2.2.1.length).length:=List.length_pos_of_mem (zjU (d:=d) c d.2.2.1.length 0 (by omega))
 have eP:zbK d (k:Int) c=if ((ksC d c d.2.2.1.length).length:Int)=k then some (rfC d c) else zbK d ((ksC d c d.2.2.1.length).length:Int) (rfC d c):=by
  conv=>lhs;rw [zjJ];unfold zbc
  refine G_to (by unfold mkOK;omega) ?_
  exact zkW h hc _ 0 _ rfl (by omega) (by simp;omega) (fun j j0 j1=>by omega)
 have eR:zb3 d (k:Int) c=if ((ksC d c d.2.2.1.length).length:Int)=k then some (rfC d c) else zb3 d ((ksC d c d.2.2.1.length).length:Int) (rfC d c):=by
  conv=>lhs;rw [zk3];unfold zbw
  refine G_to (by unfold mkOK;omega) ?_
  exact zmi h hc _ 0 _ [] rfl (by omega) (by simp;omega) (fun j j0 j1=>by omega) rfl (fun p hp=>by cases hp)
 have b':∀ q:Int,0<=q->q < d.2.2.1.length->0<=ix (rfC d c) q/\ix (rfC d c) q < (ksC d c d.2.2.1.length).length:=fun q q0 q1=>by
  rw [znl c q0 q1];have:=zuq (d:=d) c (q:=q.toNat) (t:=d.2.2.1.length) (by omega)
  omega
 have sur':∀ v:Int,0<=v->v < (ksC d c d.2.2.1.length).length->∃ q:Int,0<=q/\q < d.2.2.1.length/\ix (rfC d c) q=v:=fun v v0 v1=>by
  obtain ⟨q,hq,e⟩:=ztv (d:=d) c (t:=d.2.2.1.length) (j:=v.toNat) (by omega)
  refine ⟨q,by omega,by omega,?_⟩
  rw [znl c (by omega) (by omega),Int.toNat_natCast,e];omega
 have m':∀ q r:Int,0<=q->q < d.2.2.1.length->0<=r->r < d.2.2.1.length->ix (rfC d c) q=ix (rfC d c) r->ix d.2.2.2.1 q=ix d.2.2.2.1 r:=fun q r q0 q1 r0 r1 e=>
  hm q r q0 q1 r0 r1 (congrArg Prod.fst ((zll q0 q1 r0 r1).1 e))
 have co':∀ q r:Int,0<=q->q < d.2.2.1.length->0<=r->r < d.2.2.1.length->LEq d q d r->ix (rfC d c) q=ix (rfC d c) r:=fun q r q0 q1 r0 r1 hq=>by
  refine (zll q0 q1 r0 r1).2 ((zop h c q0 q1 r0 r1).2 ⟨hco q r q0 q1 r0 r1 hq,fun a a0 a1 => ?_⟩)
  have sq:=h.tab.stpb q0 q1 a0 a1;have sr:=h.tab.stpb r0 r1 a0 a1;exact hco _ _ sq.1 sq.2 sr.1 sr.2 (hq.step a0 a1)
 by_cases e:((ksC d c d.2.2.1.length).length:Int)=k
 ·rw [if_pos e] at eP eR;refine ⟨rfC d c,_,⟨zmv c,hK,b',sur',m',fun q r q0 q1 r0 r1 he a a0 a1 => ?_,co'⟩,eP,eR⟩
  have hnd:((ksC d c d.2.2.1.length).map Prod.fst).Nodup:=zlz (zm9 k) hcov (by rw [List.length_map,zqE];omega)
  have tot:∀ x y:Int,0<=x->x < d.2.2.1.length->0<=y->y < d.2.2.1.length->ix c x=ix c y->ix (rfC d c) x=ix (rfC d c) y:=fun x y x0 x1 y0 y1 exy=>by
   rw [zll x0 x1 y0 y1];have hx:=zjU (d:=d) c d.2.2.1.length x.toNat (by omega)
   have hy:=zjU (d:=d) c d.2.2.1.length y.toNat (by omega)
   rw [Int.toNat_of_nonneg x0] at hx;rw [Int.toNat_of_nonneg y0] at hy;obtain ⟨i,hi,ei⟩:=List.mem_iff_getElem.1 hx;obtain ⟨j,hj,ej⟩:=List.mem_iff_getElem.1 hy;have key:∀ i j:Nat,(hi:i < (ksC d c d.2.2.1.length).length)->(hj:j < (ksC d c d.2.2.1.length).length)->i < j->(ksC d c d.2.2.1.length)[i].1≠(ksC d c d.2.2.1.length)[j].1:=fun i j hi hj hlt hh=>by
    have:=List.pairwise_iff_getElem.1 hnd i j (by rw [List.length_map];exact hi) (by rw [List.length_map];exact hj) hlt
    rw [List.getElem_map,List.getElem_map] at this;exact this hh
   have hfst:(ksC d c d.2.2.1.length)[i].1=(ksC d c d.2.2.1.length)[j].1:=by rw [ei,ej];exact exy
   have:i=j:=by
    rcases Nat.lt_trichotomy i j with hlt | rfl | hlt
    ·exact absurd hfst (key i j hi hj hlt)
    ·rfl
    ·exact absurd hfst.symm (key j i hj hi hlt)
   subst this;rw [<- ei,ej]
  have hsig:=(zop h c q0 q1 r0 r1).1 ((zll q0 q1 r0 r1).1 he);have sq:=h.tab.stpb q0 q1 a0 a1;have sr:=h.tab.stpb r0 r1 a0 a1;unfold stp at sq sr;exact tot _ _ sq.1 sq.2 sr.1 sr.2 (hsig.2 a a0 a1)
 ·rw [if_neg e] at eP eR;rw [eP,eR];have hlt:k < (ksC d c d.2.2.1.length).length:=by omega
  exact ih (d.2.2.1.length - (ksC d c d.2.2.1.length).length) (by omega) _ (rfC d c) rfl ⟨zmv c,fun q q0 q1=>by
   rw [zmv] at q1;have:=b' q q0 q1;omega⟩ m' sur' co'
theorem zoD (h:DOk 3000 badD d):∃ C K,FinC d C K/\zfH d=some C/\zhr d=some C:=by
 have hn:=h.n1;have hmk:=h.mkl;have hc:ClsOk d d.2.2.2.1:=⟨by omega,fun q q0 q1=>by
  have:=h.mok _ (zbJ q0 q1);omega⟩
 obtain ⟨C,K,h1,h2,h3⟩:=zoE h _ 0 d.2.2.2.1 rfl hc (fun q r _ _ _ _ e=>e) (fun v v0 v1=>by omega) (fun q r _ _ _ _ e=>e [] (fun a ha=>by cases ha))
 refine ⟨C,K,h1,?_,?_⟩
 ·unfold zfH;exact zaj (zfs (by omega)) h2
 ·unfold zhr;exact G_to (by unfold room;simp;omega) h3
end
def xRow {α:Type} (nx:α->Int->α) (s:α) (l:List α):Nat->List α×List Int
 | 0=>(l,[])
 | t+1=>match zaw (xRow nx s l t).1 (nx s (t:Int)) with
  | some j=>((xRow nx s l t).1,(xRow nx s l t).2++[(j:Int)])
  | none=>((xRow nx s l t).1++[nx s (t:Int)],(xRow nx s l t).2++[((xRow nx s l t).1.length:Int)])
def xSt {α:Type} [Inhabited α] (nx:α->Int->α) (mk:α->Int) (L:Nat) (first:α):Nat->List α×List (List Int)×List Int
 | 0=>([first],[],[])
 | i+1=>((xRow nx (ix (xSt nx mk L first i).1 (i:Int)) (xSt nx mk L first i).1 L).1,(xSt nx mk L first i).2.1++[(xRow nx (ix (xSt nx mk L first i).1 (i:Int)) (xSt nx mk L first i).1 L).2],(xSt nx mk L first i).2.2++[mk (ix (xSt nx mk L first i).1 (i:Int))])
theorem ztd {α:Type} {nx:α->Int->α} {s:α} {l:List α} {t j:Nat} (h:zaw (xRow nx s l t).1 (nx s (t:Int))=some j):xRow nx s l (t+1)=((xRow nx s l t).1,(xRow nx s l t).2++[(j:Int)]):=by
 rw [xRow,h]
theorem ztb {α:Type} {nx:α->Int->α} {s:α} {l:List α} {t:Nat} (h:zaw (xRow nx s l t).1 (nx s (t:Int))=none):xRow nx s l (t+1)=((xRow nx s l t).1++[nx s (t:Int)],(xRow nx s l t).2++[((xRow nx s l t).1.length:Int)]):=by
 rw [xRow,h]
section
variable {α:Type} [Inhabited α] {nx:α->Int->α} {mk:α->Int} {L:Nat} {first:α} {B:Nat} {P:α->Prop}
structure XOk {α:Type} (nx:α->Int->α) (mk:α->Int) (L:Nat) (first:α) (B:Nat) (P:α->Prop):Prop where
 b:∀ l:List α,l.Nodup->(∀ x∈l,P x)->l.length<=B
 f:P first
 n:∀ s,P s->∀ t:Int,0<=t->t < L->P (nx s t)
 m:∀ s,P s->mk s=0\/mk s=1
theorem XOk.int {nx:Int->Int->Int} {mk:Int->Int} {L:Nat} {first:Int} {B:Nat} {P:Int->Prop} (b:∀ s,P s->0<=s/\s < B) (f:P first) (n:∀ s,P s->∀ t:Int,0<=t->t < L->P (nx s t)) (m:∀ s,P s->mk s=0\/mk s=1):XOk nx mk L first B P:=
 ⟨fun l hn hp=>zj1 hn (fun x hx=>b x (hp x hx)),f,n,m⟩
structure LiOk {α:Type} (B:Nat) (P:α->Prop) (l:List α):Prop where
 nd:l.Nodup
 p:∀ x∈l,P x
theorem LiOk.len (h:XOk nx mk L first B P) {l:List α} (k:LiOk B P l):l.length<=B:=h.b l k.nd k.p
structure XR {α:Type} [Inhabited α] (nx:α->Int->α) (s:α) (l:List α) (t:Nat) (r:List α×List Int):Prop where
 pre:∃ x,r.1=l++x
 len:r.2.length=t
 to:∀ a:Int,0<=a->a < t->0<=ix r.2 a/\ix r.2 a < r.1.length/\ix r.1 (ix r.2 a)=nx s a
theorem ztB {l:List α} {x:α} {j:Nat} (h:zaw l x=some j):(j:Int) < l.length/\ix l (j:Int)=x:=by
 have h1:=zdM h;have h2:=zdq h;refine ⟨by omega,?_⟩
 rw [List.getElem?_eq_getElem h1] at h2;rw [ziS (l:=l) (by omega) (by omega)]
 simpa using h2
theorem ztc (h:XOk nx mk L first B P) {s:α} (hs:P s) {l:List α} (hl:LiOk B P l):∀ t:Nat,t<=L->LiOk B P (xRow nx s l t).1/\XR nx s l t (xRow nx s l t)
 | 0,_=>⟨hl,⟨[],by simp [xRow]⟩,rfl,fun a a0 a1=>by omega⟩
 | t+1,ht=>by
  obtain ⟨h1,⟨⟨x,hx⟩,h2,h3⟩⟩:=ztc h hs hl t (by omega)
  have hp:=h.n s hs (t:Int) (by omega) (by omega)
  unfold xRow
  cases e:zaw (xRow nx s l t).1 (nx s (t:Int)) with
  | some j=>
   obtain ⟨j1,j2⟩:=ztB e;refine ⟨h1,⟨⟨x,hx⟩,by simp [h2],fun a a0 a1 => ?_⟩⟩
   show 0<=ix ((xRow nx s l t).2++[(j:Int)]) a/\_;by_cases c:a < t
   ·rw [zap a0 (by omega)];exact h3 a a0 c
   ·obtain rfl:a=((xRow nx s l t).2.length:Int):=by omega
    rw [zay];refine ⟨by omega,j1,?_⟩
    show ix (xRow nx s l t).1 (j:Int)=_;rw [j2,h2]
  | none=>
   have hn:=zaL.1 e;refine ⟨⟨?_,fun y hy=>(List.mem_append.1 hy).elim (h1.p y) (fun e2=>by rw [List.mem_singleton.1 e2];exact hp)⟩,⟨⟨x++[nx s (t:Int)],by show (xRow nx s l t).1++_=_;rw [hx,List.append_assoc]⟩,by simp [h2],fun a a0 a1 => ?_⟩⟩
   ·show ((xRow nx s l t).1++[nx s (t:Int)]).Nodup;rw [List.nodup_append];exact ⟨h1.nd,by simp,fun u hu v hv=>by rw [List.mem_singleton.1 hv];rintro rfl;exact hn hu⟩
   ·show 0<=ix ((xRow nx s l t).2++[((xRow nx s l t).1.length:Int)]) a/\ix ((xRow nx s l t).2++[((xRow nx s l t).1.length:Int)]) a < (((xRow nx s l t).1++[nx s (t:Int)]).length:Int)/\ix ((xRow nx s l t).1++[nx s (t:Int)]) (ix ((xRow nx s l t).2++[((xRow nx s l t).1.length:Int)]) a)=nx s a;rw [List.length_append,List.length_singleton];by_cases c:a < t
    ·obtain ⟨g1,g2,g3⟩:=h3 a a0 c;rw [zap a0 (by omega),zap g1 g2]
     exact ⟨g1,by omega,g3⟩
    ·obtain rfl:a=((xRow nx s l t).2.length:Int):=by omega
     rw [zay,zay,h2];exact ⟨by omega,by omega,rfl⟩
structure XS {α:Type} [Inhabited α] (nx:α->Int->α) (mk:α->Int) (L:Nat) (first:α) (i:Nat) (x:List α×List (List Int)×List Int):Prop where
 z:ix x.1 0=first
 r:x.2.1.length=i
 m:x.2.2.length=i
 row:∀ k:Int,0<=k->k < i->(ix x.2.1 k).length=L/\∀ a:Int,0<=a->a < L->0<=ix (ix x.2.1 k) a/\ix (ix x.2.1 k) a < x.1.length/\ix x.1 (ix (ix x.2.1 k) a)=nx (ix x.1 k) a
 mark:∀ k:Int,0<=k->k < i->ix x.2.2 k=mk (ix x.1 k)
def XGo {α:Type} [Inhabited α] (nx:α->Int->α) (mk:α->Int) (L:Nat) (first:α) (i:Nat):Prop:=∀ k < i,k < (xSt nx mk L first k).1.length
theorem zpx (h:XOk nx mk L first B P):∀ i:Nat,XGo nx mk L first i->LiOk B P (xSt nx mk L first i).1/\i<=(xSt nx mk L first i).1.length/\XS nx mk L first i (xSt nx mk L first i)
 | 0,_=>⟨⟨by simp [xSt],fun x hx=>by
   have:x=first:=by simpa [xSt] using hx
   rw [this];exact h.f⟩,by omega,rfl,rfl,rfl,fun k k0 k1=>by omega,fun k k0 k1=>by omega⟩
 | i+1,hg=>by
  obtain ⟨h1,h2,h3⟩:=zpx h i (fun k hk=>hg k (by omega))
  have hi:=hg i (by omega)
  have hP:=h1.p _ (zbJ (by omega) (by omega:(i:Int) < (xSt nx mk L first i).1.length))
  obtain ⟨g1,⟨⟨x,hx⟩,g2,g3⟩⟩:=ztc h hP h1 L (Nat.le_refl _);unfold xSt;generalize hX:xSt nx mk L first i=X at *
  generalize hR:xRow nx (ix X.1 (i:Int)) X.1 L=R at *
  have pre:∀ k:Int,0<=k->k < X.1.length->ix R.1 k=ix X.1 k:=fun k k0 k1=>by rw [hx,zap k0 k1]
  have lenR:X.1.length<=R.1.length:=by rw [hx,List.length_append];omega
  refine ⟨g1,by show i+1<=R.1.length;omega,?_,by simp [h3.r],by simp [h3.m],fun k k0 k1 => ?_,fun k k0 k1 => ?_⟩
  ·show ix R.1 0=first;rw [pre 0 (by omega) (by omega)];exact h3.z
  ·show (ix (X.2.1++[R.2]) k).length=L/\∀ a:Int,0<=a->a < L->0<=ix (ix (X.2.1++[R.2]) k) a/\ix (ix (X.2.1++[R.2]) k) a < R.1.length/\ix R.1 (ix (ix (X.2.1++[R.2]) k) a)=nx (ix R.1 k) a;have hr:=h3.r;by_cases c:k < i
   ·obtain ⟨r1,r2⟩:=h3.row k k0 c;rw [zap k0 (by omega),pre k k0 (by omega)]
    refine ⟨r1,fun a a0 a1 => ?_⟩
    obtain ⟨s1,s2,s3⟩:=r2 a a0 a1;rw [pre _ s1 s2];exact ⟨s1,by omega,s3⟩
   ·have hk:k=(X.2.1.length:Int):=by omega
    rw [hk,zay,hr,pre (i:Int) (by omega) (by omega)]
    exact ⟨g2,fun a a0 a1=>g3 a a0 a1⟩
  ·show ix (X.2.2++[mk (ix X.1 (i:Int))]) k=mk (ix R.1 k);have hm:=h3.m;rw [pre k k0 (by omega)]
   by_cases c:k < i
   ·rw [zap k0 (by omega)];exact h3.mark k k0 c
   ·have hk:k=(X.2.2.length:Int):=by omega
    rw [hk,zay,hm]
theorem zvA (h:XOk nx mk L first B P):∃ n,n<=B/\XGo nx mk L first n/\(xSt nx mk L first n).1.length=n:=by
 have key:∀ f i:Nat,B - i=f->XGo nx mk L first i->∃ n,n<=B/\XGo nx mk L first n/\(xSt nx mk L first n).1.length=n:=by
  intro f
  induction f with
  | zero=>
   intro i hf hg;obtain ⟨h1,h2,_⟩:=zpx h i hg;have:=h1.len h;exact ⟨i,by omega,hg,by omega⟩
  | succ f ih=>
   intro i hf hg;obtain ⟨h1,h2,_⟩:=zpx h i hg;have:=h1.len h;by_cases c:(xSt nx mk L first i).1.length=i
   ·exact ⟨i,by omega,hg,c⟩
   ·refine ih (i+1) (by omega) (fun k hk => ?_)
    by_cases e:k=i
    ·subst e;omega
    ·exact hg k (by omega)
 exact key _ 0 rfl (fun k hk=>by omega)
def xAut {α:Type} [Inhabited α] (nx:α->Int->α) (mk:α->Int) (L:Nat) (first:α) (n:Nat):Dt:=((L:Int),0,(xSt nx mk L first n).2.1,(xSt nx mk L first n).2.2,())
theorem xAut_ok (h:XOk nx mk L first B P) (hL:1<=L/\L<=4) (hB:B<=3000) {n:Nat} (hg:XGo nx mk L first n) (hn:(xSt nx mk L first n).1.length=n):DOk 3000 badD (xAut nx mk L first n):=by
 obtain ⟨h1,h2,h3⟩:=zpx h n hg;have hb:=h1.len h;have hr:=h3.r;have hm:=h3.m;have hpos:0 < n:=by
  refine Nat.pos_of_ne_zero fun e => ?_
  subst e;simp [xSt] at hn
 refine ⟨by show 1<=(L:Int)/\(L:Int)<=4;omega,?_,?_,?_,fun s hs => ?_,⟨fun r hr2 => ?_,fun r hr2 q hq => ?_⟩⟩
 ·show 1<=(xSt nx mk L first n).2.1.length/\((xSt nx mk L first n).2.1.length:Int)<=3000;omega
 ·show (0:Int)<=0/\(0:Int) < ((xSt nx mk L first n).2.1.length:Int);omega
 ·show ((xSt nx mk L first n).2.2.length:Int)=((xSt nx mk L first n).2.1.length:Int);omega
 ·obtain ⟨k,k0,k1,rfl⟩:=(zff (P:=fun x=>x=s)).1 ⟨s,hs,rfl⟩
  have hk:k < n:=by
   have:k < ((xSt nx mk L first n).2.2.length:Int):=k1;omega
  have e:ix (xAut nx mk L first n).2.2.2.1 k=mk (ix (xSt nx mk L first n).1 k):=h3.mark k k0 hk;rw [e];have:=h.m _ (h1.p _ (zbJ k0 (by omega)))
  omega
 ·obtain ⟨k,k0,k1,rfl⟩:=(zff (P:=fun x=>x=r)).1 ⟨r,hr2,rfl⟩
  have hk:k < n:=by
   have:k < ((xSt nx mk L first n).2.1.length:Int):=k1;omega
  have:=(h3.row k k0 hk).1;show ((ix (xSt nx mk L first n).2.1 k).length:Int)=(L:Int);omega
 ·obtain ⟨k,k0,k1,rfl⟩:=(zff (P:=fun x=>x=r)).1 ⟨r,hr2,rfl⟩
  have hk:k < n:=by
   have:k < ((xSt nx mk L first n).2.1.length:Int):=k1;omega
  obtain ⟨r1,r2⟩:=h3.row k k0 hk;obtain ⟨a,a0,a1,rfl⟩:=(zff (P:=fun x=>x=q)).1 ⟨q,hq,rfl⟩
  have ha:a < (L:Int):=by
   have:a < ((ix (xSt nx mk L first n).2.1 k).length:Int):=a1;omega
  obtain ⟨s1,s2,s3⟩:=r2 a a0 ha;show 0<=ix (ix (xSt nx mk L first n).2.1 k) a/\ix (ix (xSt nx mk L first n).2.1 k) a < ((xSt nx mk L first n).2.1.length:Int);omega
theorem zta (h:XOk nx mk L first B P) {n:Nat} (hg:XGo nx mk L first n) (hn:(xSt nx mk L first n).1.length=n):∀ (w:List Int) (q:Int),0<=q->q < n->(∀ a∈w,0<=a/\a < (L:Int))->
  0<=wlk (xAut nx mk L first n).2.2.1 q w/\wlk (xAut nx mk L first n).2.2.1 q w < n/\ix (xSt nx mk L first n).1 (wlk (xAut nx mk L first n).2.2.1 q w)=w.foldl nx (ix (xSt nx mk L first n).1 q)
 | [],q,q0,q1,_=>⟨q0,q1,rfl⟩
 | a::w,q,q0,q1,hw=>by
  obtain ⟨_,_,h3⟩:=zpx h n hg;have ha:=hw a (by simp)
  obtain ⟨s1,s2,s3⟩:=(h3.row q q0 q1).2 a ha.1 ha.2;have:=zta h hg hn w (ix (ix (xSt nx mk L first n).2.1 q) a) s1 (by omega) (fun b hb=>hw b (by simp [hb]))
  rw [s3] at this;exact this
end
section
variable {d:Dt}
structure RowOk (d:Dt) (C Q:List Int) (i:Int) (row:List Int):Prop where
 len:(row.length:Int)=d.1
 to:∀ a:Int,0<=a->a < d.1->0<=ix row a/\ix row a < Q.length/\ix C (ix Q (ix row a))=ix C (ix (ix d.2.2.1 (ix Q i)) a)
structure QOk (d:Dt) (C Q:List Int):Prop where
 b:∀ q:Int,q∈Q->0<=q/\q < d.2.2.1.length
 nd:(Q.map (ix C)).Nodup
 z:0 < Q.length/\ix Q 0=d.2.1
structure PartOk (d:Dt) (C Q:List Int) (D2:List (List Int)) (D3:List Int):Prop where
 q:QOk d C Q
 l2:D2.length<=Q.length
 l3:D3.length=D2.length
 row:∀ i:Int,0<=i->i < D2.length->RowOk d C Q i (ix D2 i)
 mark:∀ i:Int,0<=i->i < D2.length->ix D3 i=ix d.2.2.2.1 (ix Q i)
theorem QOk.le {C Q:List Int} {K:Nat} (hC:FinC d C K) (h:QOk d C Q):Q.length<=K:=by
 have:=zj1 (n:=K) h.nd (fun v hv=>by
  obtain ⟨q,hq,rfl⟩:=List.mem_map.1 hv;have:=h.b q hq;exact hC.b q this.1 this.2)
 rwa [List.length_map] at this
theorem RowOk.ext {C Q:List Int} {i:Int} {row:List Int} (h:RowOk d C Q i row) (i0:0<=i) (i1:i < Q.length) (x:List Int):RowOk d C (Q++x) i row:=
 ⟨h.len,fun a a0 a1=>by
  obtain ⟨h1,h2,h3⟩:=h.to a a0 a1;rw [zap h1 h2,zap i0 i1];exact ⟨h1,by rw [List.length_append];omega,h3⟩⟩
structure OfOk (d:Dt) (C l:List Int) (K:Nat):Prop where
 len:l.length=d.2.2.1.length
 b:∀ v:Int,0<=v->v < K->0<=ix l v/\ix l v < d.2.2.1.length/\ix C (ix l v)=v
def nxC (d:Dt) (C l:List Int) (v a:Int):Int:=ix C (ix (ix d.2.2.1 (ix l v)) a)
def mkC (d:Dt) (l:List Int) (v:Int):Int:=ix d.2.2.2.1 (ix l v)
structure LeastOk (d o:Dt) (C Q:List Int) (K:Nat):Prop where
 fin:FinC d C K
 part:PartOk d C Q o.2.2.1 o.2.2.2.1
 all:o.2.2.1.length=Q.length
 let1:o.1=d.1
 st:o.2.1=0
 by1:∃ (l:List Int) (n:Nat),OfOk d C l K/\XGo (nxC d C l) (mkC d l) d.1.toNat (ix C d.2.1) n/\(xSt (nxC d C l) (mkC d l) d.1.toNat (ix C d.2.1) n).1.length=n/\o=xAut (nxC d C l) (mkC d l) d.1.toNat (ix C d.2.1) n
def zrI (d:Dt) (C Q NA:List Int):Prop:=NA.length=d.2.2.1.length/\∀ v:Int,0<=v->v < d.2.2.1.length->ix NA v=match zaw (Q.map (ix C)) v with
 | some j=>(j:Int)
 | none => -1
theorem zjz {row:List Int} {t:Nat} {v:Int} (h:t < row.length):(row.set t v).take (t+1)=row.take t++[v]:=by
 rw [List.take_add_one,List.take_set_of_le (Nat.le_refl _),List.getElem?_set_self h];rfl
theorem zn6 (h:DOk 3000 badD d) {C l Q0:List Int} {K:Nat} (hC:FinC d C K) (hl:OfOk d C l K) {L0:List Int} {D2:List (List Int)} {D3:List Int} {r4 r11} {lk:List Int} {i:Int} (hi:i=D2.length) (eL:ix L0 i=ix C (ix Q0 i)):
  ∀ (f:Nat) (t:Int) (Q NA row:List Int),(d.1 - t).toNat=f->0<=t->t<=d.1->PartOk d C Q D2 D3->i < Q.length->ix Q i=ix Q0 i->zrI d C Q NA->(row.length:Int)=d.1->
   (∀ a:Int,0<=a->a < t->0<=ix row a/\ix row a < Q.length/\ix C (ix Q (ix row a))=ix C (ix (ix d.2.2.1 (ix Q i)) a))->xRow (nxC d C l) (ix C (ix Q0 i)) lk t.toNat=(Q.map (ix C),row.take t.toNat)->
  ∃ x NA' row',xRow (nxC d C l) (ix C (ix Q0 i)) lk d.1.toNat=((Q++x).map (ix C),row')/\PartOk d C (Q++x) (D2++[row']) (D3++[ix d.2.2.2.1 (ix Q i)])/\zrI d C (Q++x) NA'/\
   zax d.1 C d l d l ((C.length:Int)+1) d.1 0 L0 D2 D3 r4 t (Q.map (ix C)) (iota (Q.map (ix C)).length) (Q.map (ix C)) row=r4 d.1 0 ((Q++x).map (ix C)) (iota ((Q++x).map (ix C)).length) ((Q++x).map (ix C)) (D2++[row']) (D3++[ix d.2.2.2.1 (ix Q i)])/\
   za5 d C i d.1 0 D2 D3 r11 t NA Q row=r11 (i+1) NA' (Q++x) d.1 0 (D2++[row']) (D3++[ix d.2.2.2.1 (ix Q i)]):=by
 have hn:=h.n1;have hlt:=h.let1;have hmk:=h.mkl;have hcl:=hC.len;have hK:=hC.le;intro f
 induction f with
 | zero=>
  intro t Q NA row hf t0 t1 hP hiQ eQ hN hrl hrow hxr;obtain rfl:t=d.1:=by omega
  have hQK:=hP.q.le hC;have hq:=hP.q.b _ (zbJ (by omega) hiQ)
  have hv:=hC.b _ hq.1 hq.2;obtain ⟨o1,o2,o3⟩:=hl.b _ hv.1 hv.2;have hl3:=hP.l3;have hll:=hl.len;have hmark:ix d.2.2.2.1 (ix l (ix C (ix Q i)))=ix d.2.2.2.1 (ix Q i):=hC.mark _ _ o1 o2 hq.1 hq.2 o3;refine ⟨[],NA,row,by rw [hxr,List.append_nil,List.take_of_length_le (by omega)],⟨by simpa using hP.q,by rw [List.length_append,List.length_append,List.length_singleton];omega,by rw [List.length_append,List.length_append,List.length_singleton,List.length_singleton];omega,fun j j0 j1 => ?_,fun j j0 j1 => ?_⟩,by simpa using hN,?_,?_⟩
  ·rw [List.length_append,List.length_singleton] at j1;rw [List.append_nil];by_cases e:j < D2.length
   ·rw [zap j0 e];exact hP.row j j0 e
   ·obtain rfl:j=D2.length:=by omega
    rw [zay,<- hi];exact ⟨hrl,hrow⟩
  ·rw [List.length_append,List.length_singleton] at j1;rw [List.append_nil];by_cases e:j < D2.length
   ·rw [zap j0 (by omega)];exact hP.mark j j0 e
   ·have e1:j=D3.length:=by omega
    have e2:j=i:=by omega
    rw [e1,zay,<- e1,e2]
  ·rw [ze7];unfold zaR zeQ;rw [if_neg (by simp),<- hi,eL,<- eQ,List.append_nil]
   refine G_to (by unfold room;simp;have:=hP.l2;omega) ?_
   refine zaj (y:=ix d.2.2.2.1 (ix Q i)) ?_ ?_
   ·rw [<- hmark];exact G_to (by omega) (G_to (by omega) rfl)
   ·exact G_to (by unfold room;simp;have:=hP.l2;omega) rfl
  ·rw [zg0];unfold zbl;rw [if_neg (by simp),List.append_nil]
   exact G_to (by unfold room;simp;have:=hP.l2;omega) (G_to (by omega) (G_to (by omega) (G_to (by omega) (G_to (by unfold room;simp;have:=hP.l2;omega) (G_to (by unfold fits;omega) rfl)))))
 | succ f ih=>
  intro t Q NA row hf t0 t1 hP hiQ eQ hN hrl hrow hxr;have hQK:=hP.q.le hC;have hq:=hP.q.b _ (zbJ (by omega) hiQ)
  have hv:=hC.b _ hq.1 hq.2;obtain ⟨o1,o2,o3⟩:=hl.b _ hv.1 hv.2;have hll:=hl.len;have hr1:=h.tab.rowlen hq.1 hq.2;have hr2:=h.tab.rowlen o1 o2;have hx:=h.tab.stpb hq.1 hq.2 t0 (by omega)
  have hy:=h.tab.stpb o1 o2 t0 (by omega)
  unfold stp at hx hy;have hst:=hC.stable _ _ o1 o2 hq.1 hq.2 o3 t t0 (by omega)
  have hw:=hC.b _ hx.1 hx.2;have hNx:=hN.2 _ hw.1 (by omega:_ < (d.2.2.1.length:Int))
  have hNl:=hN.1;obtain ⟨x,hxd⟩:∃ x,x=ix (ix d.2.2.1 (ix Q i)) t:=⟨_,rfl⟩;rw [<- hxd] at hx hst hw hNx;have hnx:nxC d C l (ix C (ix Q0 i)) (t.toNat:Int)=ix C x:=by
   unfold nxC;rw [<- eQ,Int.toNat_of_nonneg t0];exact hst
  have s1:zdh (ix L0 (D2.length:Int)) t C d l=some (ix C x):=by
   unfold zdh;rw [<- hi,eL,<- eQ,<- hst];exact G_to (by omega) (G_to (by omega) (G_to (by omega) (G_to (by omega) rfl)))
  have hP1:zax d.1 C d l d l ((C.length:Int)+1) d.1 0 L0 D2 D3 r4 t (Q.map (ix C)) (iota (Q.map (ix C)).length) (Q.map (ix C)) row=
    if ix C x∈Q.map (ix C) then zax d.1 C d l d l ((C.length:Int)+1) d.1 0 L0 D2 D3 r4 (t+1) (Q.map (ix C)) (iota (Q.map (ix C)).length) (Q.map (ix C)) (row.set t.toNat (mget (Q.map (ix C)) (iota (Q.map (ix C)).length) (ix C x) 0))
    else zax d.1 C d l d l ((C.length:Int)+1) d.1 0 L0 D2 D3 r4 (t+1) ((Q++[x]).map (ix C)) (iota ((Q++[x]).map (ix C)).length) ((Q++[x]).map (ix C)) (row.set t.toNat (Q.length:Int)):=by
   conv=>lhs;rw [ze7];unfold zaR
   rw [if_pos (by simp;omega)]
   refine zaj s1 ?_
   unfold zbs;by_cases c:ix C x∈Q.map (ix C)
   ·rw [if_neg (by rw [zhp.2 c];simp),if_pos c]
    exact G_to (by omega) (G_to (by omega) (G_to (by unfold fits;omega) rfl))
   ·have hh:mhas (Q.map (ix C)) (ix C x)=false:=by
     cases e:mhas (Q.map (ix C)) (ix C x) with
     | false=>rfl
     | true=>exact absurd (zhp.1 e) c
    rw [if_pos (by rw [hh];rfl),if_neg c,if_neg (by rw [decide_eq_true_iff,List.length_map];omega),zl8 c,znd c,List.map_append,List.map_singleton,List.length_map]
    exact G_to (by unfold room;simp;omega) (G_to (by omega) (G_to (by omega) (G_to (by unfold fits;omega) rfl)))
  have hR1:za5 d C i d.1 0 D2 D3 r11 t NA Q row=
    if ix NA (ix C x) < 0 then za5 d C i d.1 0 D2 D3 r11 (t+1) (NA.set (ix C x).toNat (Q.length:Int)) (Q++[x]) (row.set t.toNat (Q.length:Int))
    else za5 d C i d.1 0 D2 D3 r11 (t+1) NA Q (row.set t.toNat (ix NA (ix C x))):=by
   conv=>lhs;rw [zg0];unfold zbl
   rw [if_pos (by simp;omega),<- hxd]
   refine G_to (by omega) (G_to (by omega) (G_to (by omega) (G_to (by omega) (G_to (by omega) (G_to (by omega) (G_to (by omega) (G_to (by omega) ?_)))))))
   unfold zcu;by_cases c:ix NA (ix C x) < 0
   ·rw [if_pos (decide_eq_true c),if_pos c];refine G_to (by omega) (G_to (by omega) (G_to (by omega) (G_to (by omega) (G_to (by unfold room;simp;omega) ?_))))
    rw [<- hxd,zbz hw.1 (by omega)]
    exact G_to (by omega) (G_to (by omega) (G_to (by rw [List.length_set];omega) (G_to (by rw [List.length_set];omega) (G_to (by omega) (G_to (by omega) (G_to (by unfold fits;omega) rfl))))))
   ·rw [if_neg (by simpa using c),if_neg c,<- hxd]
    exact G_to (by omega) (G_to (by omega) (G_to (by omega) (G_to (by omega) (G_to (by omega) (G_to (by omega) (G_to (by unfold fits;omega) rfl))))))
  rw [hP1,hR1];have rowstep:∀ (Q':List Int) (v:Int),(∀ j:Int,0<=j->j < Q.length->ix Q' j=ix Q j)->Q.length<=Q'.length->0<=v->v < Q'.length->ix C (ix Q' v)=ix C x->
    ∀ a:Int,0<=a->a < t+1->0<=ix (row.set t.toNat v) a/\ix (row.set t.toNat v) a < Q'.length/\ix C (ix Q' (ix (row.set t.toNat v) a))=ix C (ix (ix d.2.2.1 (ix Q' i)) a):=fun Q' v hQ' hle v0 v1 hv' a a0 a1=>by
   by_cases e:a=t
   ·subst e;rw [zbz a0 (by omega),hQ' i (by omega) hiQ,<- hxd];exact ⟨v0,v1,hv'⟩
   ·obtain ⟨h1,h2,h3⟩:=hrow a a0 (by omega)
    rw [zdp t0 a0 (Ne.symm e),hQ' _ h1 h2,hQ' i (by omega) hiQ]
    exact ⟨h1,by omega,h3⟩
  by_cases c:ix C x∈Q.map (ix C)
  ·obtain ⟨j,hj⟩:=zpa c;have hjl:=zdM hj;rw [List.length_map] at hjl;have hjx:ix C (ix Q j)=ix C x:=by
    have:=zdq hj;rw [List.getElem?_map,List.getElem?_eq_getElem hjl,Option.map_some] at this;have e2:ix Q (j:Int)=Q[j]:=by rw [ziS (l:=Q) (by omega) (by omega)];simp
    rw [e2];exact Option.some.inj this
   rw [hj] at hNx;have hNx:ix NA (ix C x)=(j:Int):=hNx;rw [if_pos c,if_neg (by omega),zpb hj,hNx]
   refine ih (t+1) Q NA _ (by omega) (by omega) (by omega) hP hiQ eQ hN (by rw [List.length_set];exact hrl) (rowstep Q j (fun _ _ _=>rfl) (Nat.le_refl _) (by omega) (by omega) hjx) ?_
   rw [show (t+1).toNat=t.toNat+1 by omega,ztd (j:=j) (by rw [hxr,hnx];exact hj),hxr,zjz (by omega)]
  ·rw [zaL.2 c] at hNx;have hNx:ix NA (ix C x) = -1:=hNx;rw [if_neg c,if_pos (by omega)]
   have hQ':∀ j:Int,0<=j->j < Q.length->ix (Q++[x]) j=ix Q j:=fun j j0 j1=>zap j0 j1
   have hP':PartOk d C (Q++[x]) D2 D3:=by
    refine ⟨⟨fun q hq=>(List.mem_append.1 hq).elim (hP.q.b q) (fun e=>by rw [List.mem_singleton.1 e];exact hx),?_,?_⟩,by rw [List.length_append];have:=hP.l2;omega,hP.l3,fun j j0 j1 => ?_,fun j j0 j1 => ?_⟩
    ·rw [List.map_append,List.nodup_append];exact ⟨hP.q.nd,by simp,fun u hu w hw=>by rw [List.map_singleton,List.mem_singleton] at hw;rw [hw];rintro rfl;exact c hu⟩
    ·have:=hP.q.z;exact ⟨by simp,by rw [hQ' 0 (by omega) (by omega)];exact this.2⟩
    ·exact (hP.row j j0 j1).ext j0 (by have:=hP.l2;omega) _
    ·rw [hQ' j j0 (by have:=hP.l2;omega)];exact hP.mark j j0 j1
   have hN':zrI d C (Q++[x]) (NA.set (ix C x).toNat (Q.length:Int)):=by
    refine ⟨by rw [List.length_set];exact hN.1,fun v v0 v1 => ?_⟩
    rw [List.map_append,List.map_singleton];by_cases e:v=ix C x
    ·subst e;rw [zbz v0 (by omega),zl5 c]
     simp
    ·rw [zdp hw.1 v0 (Ne.symm e),hN.2 v v0 v1]
     cases hm:zaw (Q.map (ix C)) v with
     | some j=>rw [zl4 _ hm]
     | none=>
      rw [zaL.2 (fun hh=>by
       rcases List.mem_append.1 hh with hh | hh
       ·exact zaL.1 hm hh
       ·exact e (List.mem_singleton.1 hh))]
   obtain ⟨y,NA',row',z0,z1,z2,z3,z4⟩:=ih (t+1) (Q++[x]) _ (row.set t.toNat (Q.length:Int)) (by omega) (by omega) (by omega) hP' (by rw [List.length_append];omega) (by rw [hQ' i (by omega) hiQ];exact eQ) hN' (by rw [List.length_set];exact hrl)
    (rowstep (Q++[x]) (Q.length:Int) hQ' (by rw [List.length_append];omega) (by omega) (by rw [List.length_append,List.length_singleton];omega) (by rw [zay])) (by rw [show (t+1).toNat=t.toNat+1 by omega,ztb (by rw [hxr,hnx];exact zaL.2 c),hxr,hnx,zjz (by omega),List.length_map,List.map_append,List.map_singleton])
   rw [hQ' i (by omega) hiQ] at z1 z3 z4
   rw [List.append_assoc] at z0 z1 z2 z3 z4;exact ⟨_,NA',row',z0,z1,z2,z3,z4⟩
theorem zrk (h:DOk 3000 badD d) {C l:List Int} {K:Nat} (hC:FinC d C K) (hl:OfOk d C l K):∀ (f:Nat) (Q NA:List Int) (D2:List (List Int)) (D3:List Int),3000 - D2.length=f->PartOk d C Q D2 D3->zrI d C Q NA->XGo (nxC d C l) (mkC d l) d.1.toNat (ix C d.2.1) D2.length->xSt (nxC d C l) (mkC d l) d.1.toNat (ix C d.2.1) D2.length=(Q.map (ix C),D2,D3)->
  ∃ o Q',LeastOk d o C Q' K/\zb6 d.1 C d l d l ((C.length:Int)+1) d.1 0 (Q.map (ix C)) (iota (Q.map (ix C)).length) (Q.map (ix C)) D2 D3=some (o.1,o.2.1,o.2.2.1,o.2.2.2.1,true)/\zds d C (D2.length:Int) NA Q d.1 0 D2 D3=some o:=by
 have hn:=h.n1;have hlt:=h.let1;intro f
 induction f using Nat.strongRecOn with
 | ind f ih=>
 intro Q NA D2 D3 hf hP hN hgo hxs;have hQK:=hP.q.le hC;have hK:=hC.le;rw [zjM,zmk];unfold zbd zbL;by_cases e:D2.length < Q.length
 ·have e1:ix (Q.map (ix C)) (D2.length:Int)=ix C (ix Q (D2.length:Int)):=zkv _ (by omega) (by omega)
  obtain ⟨x,NA',row',z0,z1,z2,z3,z4⟩:=zn6 (lk:=Q.map (ix C)) (r4:=zb6 d.1 C d l d l ((C.length:Int)+1)) (r11:=zds d C) h hC hl (L0:=Q.map (ix C)) (Q0:=Q) (D2:=D2) (D3:=D3) rfl e1 _ 0 Q NA (List.replicate d.1.toNat 0) rfl (by omega) (by omega) hP (by omega) rfl hN (by rw [List.length_replicate];omega) (fun a a0 a1=>by omega) (by simp [xRow])
  have hq:=hP.q.b _ (zbJ (by omega) (by omega:(D2.length:Int) < Q.length))
  have hv:=hC.b _ hq.1 hq.2;obtain ⟨o1,o2,o3⟩:=hl.b _ hv.1 hv.2;have hmark:mkC d l (ix C (ix Q (D2.length:Int)))=ix d.2.2.2.1 (ix Q (D2.length:Int)):=hC.mark _ _ o1 o2 hq.1 hq.2 o3;have hgo':XGo (nxC d C l) (mkC d l) d.1.toNat (ix C d.2.1) (D2++[row']).length:=fun k hk=>by
   rw [List.length_append,List.length_singleton] at hk;by_cases c:k < D2.length
   ·exact hgo k c
   ·obtain rfl:k=D2.length:=by omega
    rw [hxs,List.length_map];exact e
  have hxs':xSt (nxC d C l) (mkC d l) d.1.toNat (ix C d.2.1) (D2++[row']).length=((Q++x).map (ix C),D2++[row'],D3++[ix d.2.2.2.1 (ix Q (D2.length:Int))]):=by
   rw [List.length_append,List.length_singleton,xSt,hxs];show ((xRow _ (ix (Q.map (ix C)) (D2.length:Int)) (Q.map (ix C)) d.1.toNat).1,D2++[(xRow _ (ix (Q.map (ix C)) (D2.length:Int)) (Q.map (ix C)) d.1.toNat).2],D3++[mkC d l (ix (Q.map (ix C)) (D2.length:Int))])=_;rw [e1,z0,hmark]
  obtain ⟨o,Q',w1,w2,w3⟩:=ih (3000 - (D2++[row']).length) (by rw [List.length_append,List.length_singleton];have:=z1.q.le hC;have:=z1.l2;rw [List.length_append,List.length_singleton] at this;omega) (Q++x) NA' (D2++[row']) _ rfl z1 z2 hgo' hxs'
  refine ⟨o,Q',w1,?_,?_⟩
  ·rw [if_pos (by simp;omega)]
   exact G_to (by rw [List.length_map];omega) (G_to (by rw [List.length_map];omega) (G_to (by unfold mkOK;omega) (z3.trans w2)))
  ·rw [if_pos (by simp;omega)]
   refine G_to (by unfold mkOK;omega) (z4.trans ?_)
   rw [List.length_append,List.length_singleton] at w3;exact w3
 ·refine ⟨(d.1,0,D2,D3,()),Q,⟨hC,hP,by have:=hP.l2;show D2.length=Q.length;omega,rfl,rfl,l,D2.length,hl,hgo,by rw [hxs,List.length_map];have:=hP.l2;omega,by unfold xAut;rw [hxs,Int.toNat_of_nonneg (by omega)]⟩,?_,?_⟩
  ·rw [if_neg (by rw [decide_eq_true_iff,List.length_map];omega)]
  ·rw [if_neg (by simp;omega)]
theorem zpB (h:DOk 3000 badD d) {C:List Int} {K:Nat} (hC:FinC d C K):∃ l,OfOk d C l K/\za9 d C 0 (List.replicate C.length 0)=za9 d C (C.length:Int) l:=by
 have hn:=h.n1;have hcl:=hC.len;have hK:=hC.le;have key:∀ (f:Nat) (t:Int) (l:List Int),(C.length - t).toNat=f->0<=t->t<=C.length->l.length=C.length->(∀ v:Int,0<=v->v < K->(∃ q:Int,0<=q/\q < t/\ix C q=v)->0<=ix l v/\ix l v < d.2.2.1.length/\ix C (ix l v)=v)->
   ∃ l',OfOk d C l' K/\za9 d C t l=za9 d C (C.length:Int) l':=by
  intro f
  induction f with
  | zero=>
   intro t l hf t0 t1 hll hv;obtain rfl:t=C.length:=by omega
   exact ⟨l,⟨by omega,fun v v0 v1=>by
    obtain ⟨q,q0,q1,e⟩:=hC.sur v v0 v1;exact hv v v0 v1 ⟨q,q0,by omega,e⟩⟩,rfl⟩
  | succ f ih=>
   intro t l hf t0 t1 hll hv;have hb:=hC.b t t0 (by omega)
   obtain ⟨l',h1,h2⟩:=ih (t+1) (l.set (ix C t).toNat t) (by omega) (by omega) (by omega) (by rw [List.length_set];exact hll) (fun v v0 v1 ⟨q,q0,q1,e⟩=>by
    by_cases e2:v=ix C t
    ·subst e2;rw [zbz v0 (by omega)];exact ⟨t0,by omega,rfl⟩
    ·rw [zdp hb.1 v0 (Ne.symm e2)];refine hv v v0 v1 ⟨q,q0,?_,e⟩
     by_cases e3:q=t
     ·subst e3;exact absurd e.symm e2
     ·omega)
   refine ⟨l',h1,?_⟩
   rw [<- h2]
   conv=>lhs;rw [zez];unfold zaK
   rw [if_pos (by simp;omega)]
   exact G_to (by omega) (G_to (by omega) (G_to (by omega) (G_to (by omega) (G_to (by unfold fits;omega) rfl))))
 exact key _ 0 _ rfl (by omega) (by omega) (by rw [List.length_replicate]) (fun v v0 v1 ⟨q,q0,q1,_⟩=>by omega)
theorem zrH (h:DOk 3000 badD d) {C:List Int} {K:Nat} (hC:FinC d C K):zcn d C 0 (List.replicate C.length 0)=zcn d C (C.length:Int) (List.replicate C.length (-1)):=by
 have hn:=h.n1;have hcl:=hC.len;have key:∀ (f:Nat) (t:Int) (l:List Int),(C.length - t).toNat=f->0<=t->t<=C.length->l.length=C.length->(∀ v:Int,0<=v->v < t->ix l v = -1)->zcn d C t l=zcn d C (C.length:Int) (List.replicate C.length (-1)):=by
  intro f
  induction f with
  | zero=>
   intro t l hf t0 t1 hll hv;obtain rfl:t=C.length:=by omega
   rw [show l=List.replicate C.length (-1) from zna (by rw [List.length_replicate];exact hll) fun j j0 j1=>by rw [zgH j0 (by omega),hv j j0 (by omega)]]
  | succ f ih=>
   intro t l hf t0 t1 hll hv;rw [<- ih (t+1) (l.set t.toNat (-1)) (by omega) (by omega) (by omega) (by rw [List.length_set];exact hll) (fun v v0 v1=>by
    by_cases e2:v=t
    ·subst e2;rw [zbz v0 (by omega)]
    ·rw [zdp t0 v0 (Ne.symm e2)];exact hv v v0 (by omega))]
   conv=>lhs;rw [zhW];unfold zbD
   rw [if_pos (by simp;omega)]
   exact G_to (by omega) (G_to (by omega) (G_to (by unfold fits;omega) rfl))
 exact key _ 0 _ rfl (by omega) (by omega) (by rw [List.length_replicate]) (fun v v0 v1=>by omega)
theorem zrj (h:DOk 3000 badD d):∃ o C Q K,LeastOk d o C Q K/\zeu d=some (o.1,o.2.1,o.2.2.1,o.2.2.2.1)/\zlj d=some o:=by
 have hn:=h.n1;obtain ⟨C,K,hC,c1,c2⟩:=zoD h;obtain ⟨l,hl,l1⟩:=zpB h hC;have hs:=h.st;have hcl:=hC.len;have hb:=hC.b _ hs.1 hs.2;have hK:=hC.le;have hP:PartOk d C [d.2.1] [] []:=⟨⟨fun q hq=>by rw [List.mem_singleton.1 hq];exact hs,by simp,by simp,rfl⟩,by simp,rfl,fun i i0 i1=>by simp at i1;omega,fun i i0 i1=>by simp at i1;omega⟩
 have hN:zrI d C [d.2.1] ((List.replicate C.length (-1:Int)).set (ix C d.2.1).toNat 0):=by
  refine ⟨by rw [List.length_set,List.length_replicate];exact hcl,fun v v0 v1 => ?_⟩
  rw [List.map_singleton];by_cases e:v=ix C d.2.1
  ·subst e;rw [zbz v0 (by rw [List.length_replicate];omega),zho];rfl
  ·rw [zdp hb.1 v0 (Ne.symm e),zgH v0 (by omega),zaL.2 (by simpa using e)]
 obtain ⟨o,Q,w1,w2,w3⟩:=zrk h hC hl _ [d.2.1] _ [] [] rfl hP hN (fun k hk=>by simp at hk) rfl
 have ed:(d.1,d.2.1,d.2.2.1,d.2.2.2.1,())=d:=rfl;refine ⟨o,C,Q,K,w1,?_,?_⟩
 ·unfold zeu;rw [ed];refine zaj c1 ?_
  refine G_to (by unfold mkOK;omega) ?_
  rw [Int.toNat_natCast,l1,zez];unfold zaK;rw [if_neg (by simp)]
  refine G_to (by omega) (G_to (by omega) (G_to (by unfold fits;omega) ?_))
  have hE:zfI d.1 (ix C d.2.1) C d l d l ((C.length:Int)+1)=some (o.1,o.2.1,o.2.2.1,o.2.2.2.1,true):=w2;refine zaI ?_ ?_
  ·rw [ed];exact zaj hE rfl
  ·rw [ed];exact zaj hE rfl
 ·unfold zlj;rw [ed];refine zaj c2 ?_
  refine G_to (by unfold mkOK;omega) ?_
  rw [Int.toNat_natCast,zrH h hC,zhW];unfold zbD;rw [if_neg (by simp)]
  exact G_to (by omega) (G_to (by omega) (G_to (by rw [List.length_replicate];omega) (G_to (by rw [List.length_replicate];omega) w3)))
end
theorem znc {d o:Dt} {C Q:List Int} {K:Nat} (hd:DOk 3000 badD d) (h:LeastOk d o C Q K):∀ (w:List Int) (i q:Int),0<=i->i < Q.length->0<=q->q < d.2.2.1.length->ix C (ix Q i)=ix C q->(∀ a∈w,0<=a/\a < d.1)->
  0<=wlk o.2.2.1 i w/\wlk o.2.2.1 i w < Q.length/\ix C (ix Q (wlk o.2.2.1 i w))=ix C (wlk d.2.2.1 q w)
 | [],i,q,i0,i1,_,_,e,_=>⟨i0,i1,e⟩
 | a::w,i,q,i0,i1,q0,q1,e,hw=>by
  have ha:=hw a (by simp)
  have hr:=h.part.row i i0 (by rw [h.all];exact i1)
  obtain ⟨t1,t2,t3⟩:=hr.to a ha.1 ha.2;have hq:=h.part.q.b _ (zbJ i0 i1);have hs:=hd.tab.stpb q0 q1 ha.1 ha.2;have hst:=h.fin.stable _ _ hq.1 hq.2 q0 q1 e a ha.1 ha.2;exact znc hd h w (ix (ix o.2.2.1 i) a) (stp d.2.2.1 q a) t1 t2 hs.1 hs.2 (t3.trans hst) (fun b hb=>hw b (by simp [hb]))
theorem zu7 {d o:Dt} {C Q:List Int} {K:Nat} (hd:DOk 3000 badD d) (h:LeastOk d o C Q K) {w:List Int} (hw:∀ a∈w,0<=a/\a < d.1):0<=wlk o.2.2.1 o.2.1 w/\wlk o.2.2.1 o.2.1 w < o.2.2.1.length/\ix o.2.2.2.1 (wlk o.2.2.1 o.2.1 w)=ix d.2.2.2.1 (wlk d.2.2.1 d.2.1 w):=by
 have hz:=h.part.q.z;have hst:=hd.st;obtain ⟨h1,h2,h3⟩:=znc hd h w 0 d.2.1 (by omega) (by omega) hst.1 hst.2 (by rw [hz.2]) hw
 rw [h.st];refine ⟨h1,by rw [h.all];exact h2,?_⟩
 rw [h.part.mark _ h1 (by rw [h.all];exact h2)]
 have hq:=h.part.q.b _ (zbJ h1 h2);have hw2:=hd.tab.wlkb hst.1 hst.2 hw;exact h.fin.mark _ _ hq.1 hq.2 hw2.1 hw2.2 h3
theorem LeastOk.tab' {d o:Dt} {C Q:List Int} {K:Nat} (h:LeastOk d o C Q K):Tab o.1 o.2.2.1:=by
 refine ⟨fun r hr => ?_,fun r hr q hq => ?_⟩
 ·obtain ⟨j,j0,j1,rfl⟩:=(zff (P:=fun x=>x=r)).1 ⟨r,hr,rfl⟩
  rw [h.let1];exact (h.part.row j j0 j1).len
 ·obtain ⟨j,j0,j1,rfl⟩:=(zff (P:=fun x=>x=r)).1 ⟨r,hr,rfl⟩
  have hr:=h.part.row j j0 j1;obtain ⟨k,k0,k1,rfl⟩:=(zff (P:=fun x=>x=q)).1 ⟨q,hq,rfl⟩
  have:=hr.to k k0 (by rw [<- hr.len];exact k1)
  rw [h.all];exact ⟨this.1,this.2.1⟩
open Classical in
def bRow {α:Type} [Inhabited α] (nx:α->Int->α) (s:α) (w:List Int) (l:List α×List (List Int)):Nat->List α×List (List Int)
 | 0=>l
 | t+1=>if nx s (t:Int)∈(bRow nx s w l t).1 then bRow nx s w l t else ((bRow nx s w l t).1++[nx s (t:Int)],(bRow nx s w l t).2++[w++[(t:Int)]])
def bSt {α:Type} [Inhabited α] (nx:α->Int->α) (L:Nat) (first:α):Nat->List α×List (List Int)
 | 0=>([first],[[]])
 | i+1=>bRow nx (ix (bSt nx L first i).1 (i:Int)) (ix (bSt nx L first i).2 (i:Int)) (bSt nx L first i) L
section
variable {α:Type} [Inhabited α] {nx:α->Int->α} {L:Nat} {first:α} {N:Nat} {P:α->Prop}
theorem zny {s:α} {w:List Int} {l:List α×List (List Int)} {t:Nat} (h:nx s (t:Int)∈(bRow nx s w l t).1):bRow nx s w l (t+1)=bRow nx s w l t:=by
 rw [bRow,if_pos h]
theorem znx {s:α} {w:List Int} {l:List α×List (List Int)} {t:Nat} (h:nx s (t:Int)∉(bRow nx s w l t).1):bRow nx s w l (t+1)=((bRow nx s w l t).1++[nx s (t:Int)],(bRow nx s w l t).2++[w++[(t:Int)]]):=by
 rw [bRow,if_neg h]
structure BOk (nx:α->Int->α) (L:Nat) (first:α) (N:Nat) (P:α->Prop):Prop where
 f:P first
 n:∀ s,P s->∀ t:Int,0<=t->t < L->P (nx s t)
 b:∀ l:List α,l.Nodup->(∀ x∈l,P x)->l.length<=N
structure BI (nx:α->Int->α) (L:Nat) (first:α) (P:α->Prop) (x:List α×List (List Int)):Prop where
 nd:x.1.Nodup
 p:∀ s∈x.1,P s
 len:x.2.length=x.1.length
 pos:0 < x.1.length
 z:ix x.1 0=first
 wd:∀ j:Int,0<=j->j < x.1.length->((ix x.2 j).length:Int)<=j/\(∀ a∈ix x.2 j,0<=a/\a < L)/\(ix x.2 j).foldl nx first=ix x.1 j
structure Grows (x y:List α×List (List Int)):Prop where
 a:∃ l,y.1=x.1++l
 b:∃ l,y.2=x.2++l
theorem Grows.refl (x:List α×List (List Int)):Grows x x:=⟨⟨[],by simp⟩,⟨[],by simp⟩⟩
theorem Grows.trans {x y z:List α×List (List Int)} (h:Grows x y) (k:Grows y z):Grows x z:=by
 obtain ⟨⟨l,h1⟩,⟨m,h2⟩⟩:=h;obtain ⟨⟨l',k1⟩,⟨m',k2⟩⟩:=k;exact ⟨⟨l++l',by rw [k1,h1,List.append_assoc]⟩,⟨m++m',by rw [k2,h2,List.append_assoc]⟩⟩
theorem Grows.ix1 {x y:List α×List (List Int)} (h:Grows x y) {j:Int} (j0:0<=j) (j1:j < x.1.length):ix y.1 j=ix x.1 j:=by
 obtain ⟨l,h1⟩:=h.a;rw [h1,zap j0 j1]
theorem Grows.ix2 {x y:List α×List (List Int)} (h:Grows x y) {j:Int} (j0:0<=j) (j1:j < x.2.length):ix y.2 j=ix x.2 j:=by
 obtain ⟨l,h1⟩:=h.b;rw [h1,zap j0 j1]
theorem Grows.mem {x y:List α×List (List Int)} (h:Grows x y) {s:α} (hs:s∈x.1):s∈y.1:=by
 obtain ⟨l,h1⟩:=h.a;rw [h1];exact List.mem_append_left _ hs
theorem Grows.le {x y:List α×List (List Int)} (h:Grows x y):x.1.length<=y.1.length:=by
 obtain ⟨l,h1⟩:=h.a;rw [h1,List.length_append];omega
theorem zh8 (h:BOk nx L first N P) {x:List α×List (List Int)} (hx:BI nx L first P x) {i:Nat} (hi:i < x.1.length):∀ t:Nat,t<=L->
  BI nx L first P (bRow nx (ix x.1 (i:Int)) (ix x.2 (i:Int)) x t)/\Grows x (bRow nx (ix x.1 (i:Int)) (ix x.2 (i:Int)) x t)/\∀ a:Int,0<=a->a < t->nx (ix x.1 (i:Int)) a∈(bRow nx (ix x.1 (i:Int)) (ix x.2 (i:Int)) x t).1
 | 0,_=>⟨hx,.refl x,fun a a0 a1=>by omega⟩
 | t+1,ht=>by
  obtain ⟨h1,h2,h3⟩:=zh8 h hx hi t (by omega)
  have hP:=hx.p _ (zbJ (i:=(i:Int)) (by omega) (by omega))
  have hn:=h.n _ hP (t:Int) (by omega) (by omega)
  by_cases c:nx (ix x.1 (i:Int)) (t:Int)∈(bRow nx (ix x.1 (i:Int)) (ix x.2 (i:Int)) x t).1
  ·rw [zny c];refine ⟨h1,h2,fun a a0 a1 => ?_⟩
   by_cases e:a=t
   ·rw [e];exact c
   ·exact h3 a a0 (by omega)
  ·rw [znx c];generalize bRow nx (ix x.1 (i:Int)) (ix x.2 (i:Int)) x t=y at *
   have hl:=h1.len;have hg:Grows y (y.1++[nx (ix x.1 (i:Int)) (t:Int)],y.2++[ix x.2 (i:Int)++[(t:Int)]]):=⟨⟨_,rfl⟩,⟨_,rfl⟩⟩;have hle:=h2.le;refine ⟨⟨?_,fun s hs=>(List.mem_append.1 hs).elim (h1.p s) (fun e=>by rw [List.mem_singleton.1 e];exact hn),by simp [hl],by simp,?_,fun j j0 j1 => ?_⟩,h2.trans hg,fun a a0 a1 => ?_⟩
   ·show (y.1++[nx (ix x.1 (i:Int)) (t:Int)]).Nodup;rw [List.nodup_append];exact ⟨h1.nd,by simp,fun u hu v hv=>by rw [List.mem_singleton.1 hv];rintro rfl;exact c hu⟩
   ·rw [hg.ix1 (by omega) (by have:=h1.pos;omega)];exact h1.z
   ·by_cases e:j < y.1.length
    ·rw [hg.ix1 j0 e,hg.ix2 j0 (by omega)];exact h1.wd j j0 e
    ·have hj:j=(y.1.length:Int):=by
      have:j < ((y.1++[nx (ix x.1 (i:Int)) (t:Int)]).length:Int):=j1;rw [List.length_append,List.length_singleton] at this;omega
     have e1:ix (y.2++[ix x.2 (i:Int)++[(t:Int)]]) j=ix x.2 (i:Int)++[(t:Int)]:=by rw [hj,<- hl,zay]
     have e2:ix (y.1++[nx (ix x.1 (i:Int)) (t:Int)]) j=nx (ix x.1 (i:Int)) (t:Int):=by rw [hj,zay]
     obtain ⟨w1,w2,w3⟩:=hx.wd (i:Int) (by omega) (by omega)
     refine ⟨?_,fun a ha => ?_,?_⟩
     ·rw [e1,List.length_append,List.length_singleton];omega
     ·rw [e1] at ha;rcases List.mem_append.1 ha with ha | ha
      ·exact w2 a ha
      ·rw [List.mem_singleton.1 ha];omega
     ·rw [e1,e2,List.foldl_append,w3];rfl
   ·by_cases e:a=t
    ·rw [e];simp
    ·exact hg.mem (h3 a a0 (by omega))
def BGo (nx:α->Int->α) (L:Nat) (first:α) (i:Nat):Prop:=∀ k < i,k < (bSt nx L first k).1.length
theorem zge (h:BOk nx L first N P):∀ i:Nat,BGo nx L first i->BI nx L first P (bSt nx L first i)/\i<=(bSt nx L first i).1.length/\∀ j:Nat,j<=i->Grows (bSt nx L first j) (bSt nx L first i)
 | 0,_=>by
  refine ⟨⟨by simp [bSt],fun s hs => ?_,rfl,by simp [bSt],rfl,fun j j0 j1 => ?_⟩,by omega,fun j hj => ?_⟩
  ·have:s=first:=by simpa [bSt] using hs
   rw [this];exact h.f
  ·obtain rfl:j=0:=by
    have:j < ([first].length:Int):=j1;simp at this;omega
   refine ⟨Int.le_refl 0,fun a ha => ?_,rfl⟩
   cases (show a∈([]:List Int) from ha)
  ·obtain rfl:j=0:=by omega
   exact .refl _
 | i+1,hg=>by
  obtain ⟨h1,h2,h3⟩:=zge h i (fun k hk=>hg k (by omega))
  have hi:=hg i (by omega)
  obtain ⟨g1,g2,g3⟩:=zh8 h h1 hi L (Nat.le_refl _);have hl1:=h1.pos;refine ⟨g1,?_,fun j hj => ?_⟩
  ·have:=g2.le;by_cases c:i+1<=(bSt nx L first i).1.length
   ·show i+1<=(bRow _ _ _ _ L).1.length;omega
   ·show i+1<=(bRow _ _ _ _ L).1.length;omega
  ·by_cases c:j<=i
   ·exact (h3 j c).trans g2
   ·obtain rfl:j=i+1:=by omega
    exact .refl _
theorem zq0 (h:BOk nx L first N P) {i:Nat} (hg:BGo nx L first i) {j:Nat} (hj:j < i) {a:Int} (a0:0<=a) (a1:a < L):nx (ix (bSt nx L first i).1 (j:Int)) a∈(bSt nx L first i).1:=by
 obtain ⟨h1,h2,h3⟩:=zge h i hg;obtain ⟨k1,_,_⟩:=zge h j (fun k hk=>hg k (by omega))
 have hl:=hg j hj;obtain ⟨_,_,g3⟩:=zh8 h k1 hl L (Nat.le_refl _);rw [(h3 j (by omega)).ix1 (by omega) (by omega)]
 exact (h3 (j+1) (by omega)).mem (g3 a a0 a1)
theorem zrO (h:BOk nx L first N P):∃ n,n<=N/\BGo nx L first n/\(bSt nx L first n).1.length=n:=by
 have key:∀ f i:Nat,N - i=f->BGo nx L first i->∃ n,n<=N/\BGo nx L first n/\(bSt nx L first n).1.length=n:=by
  intro f
  induction f with
  | zero=>
   intro i hf hg;obtain ⟨h1,h2,_⟩:=zge h i hg;have:=h.b _ h1.nd h1.p;exact ⟨i,by omega,hg,by omega⟩
  | succ f ih=>
   intro i hf hg;obtain ⟨h1,h2,_⟩:=zge h i hg;have:=h.b _ h1.nd h1.p;by_cases c:(bSt nx L first i).1.length=i
   ·exact ⟨i,by omega,hg,c⟩
   ·refine ih (i+1) (by omega) (fun k hk => ?_)
    by_cases e:k=i
    ·subst e;omega
    ·exact hg k (by omega)
 exact key _ 0 rfl (fun k hk=>by omega)
theorem zub (h:BOk nx L first N P) {n:Nat} (hg:BGo nx L first n) (hn:(bSt nx L first n).1.length=n) {w:List Int} (hw:∀ a∈w,0<=a/\a < (L:Int)):w.foldl nx first∈(bSt nx L first n).1:=by
 obtain ⟨h1,h2,h3⟩:=zge h n hg;have key:∀ (w:List Int) (s:α),s∈(bSt nx L first n).1->(∀ a∈w,0<=a/\a < (L:Int))->w.foldl nx s∈(bSt nx L first n).1:=by
  intro w
  induction w with
  | nil=>intro s hs _;exact hs
  | cons a w ih=>
   intro s hs hw;have ha:=hw a (by simp)
   refine ih (nx s a) ?_ (fun b hb=>hw b (by simp [hb]))
   obtain ⟨j,hj,rfl⟩:=List.mem_iff_getElem.1 hs;have e:ix (bSt nx L first n).1 (j:Int)=(bSt nx L first n).1[j]:=by unfold ix;simp [hj]
   rw [<- e];exact zq0 h hg (by omega) ha.1 ha.2
 refine key w first ?_ hw
 have:=zbJ (l:=(bSt nx L first n).1) (i:=0) (by omega) (by have:=h1.pos;omega)
 rwa [h1.z] at this
def BRes (nx:α->Int->α) (L:Nat) (first:α) (n:Nat) (ok:α->Prop) (r:List Int×Bool):Prop:=
 (∃ i:Nat,i < n/\ok (ix (bSt nx L first n).1 (i:Int))/\(∀ j:Nat,j < i -> ¬ ok (ix (bSt nx L first n).1 (j:Int)))/\r=(ix (bSt nx L first n).2 (i:Int),true))\/((∀ j:Nat,j < n -> ¬ ok (ix (bSt nx L first n).1 (j:Int)))/\r=([],false))
theorem BRes.one {n:Nat} {ok:α->Prop} {r r':List Int×Bool} (h:BRes nx L first n ok r) (k:BRes nx L first n ok r'):r=r':=by
 rcases h with ⟨i,i1,i2,i3,rfl⟩ | ⟨h1,rfl⟩
 ·rcases k with ⟨j,j1,j2,j3,rfl⟩ | ⟨k1,rfl⟩
  ·rcases Nat.lt_trichotomy i j with c | rfl | c
   ·exact absurd i2 (j3 i c)
   ·rfl
   ·exact absurd j2 (i3 j c)
  ·exact absurd i2 (k1 i i1)
 ·rcases k with ⟨j,j1,j2,j3,rfl⟩ | ⟨k1,rfl⟩
  ·exact absurd j2 (h1 j j1)
  ·rfl
theorem BRes.tells (h:BOk nx L first N P) {n:Nat} (hg:BGo nx L first n) (hn:(bSt nx L first n).1.length=n) {ok:α->Prop} {r:List Int×Bool} (k:BRes nx L first n ok r):
  (∃ w:List Int,r=(w,true)/\w.length<=n/\(∀ a∈w,0<=a/\a < (L:Int))/\ok (w.foldl nx first))\/(r=([],false)/\∀ w:List Int,(∀ a∈w,0<=a/\a < (L:Int)) -> ¬ ok (w.foldl nx first)):=by
 obtain ⟨h1,h2,h3⟩:=zge h n hg;rcases k with ⟨i,i1,i2,i3,rfl⟩ | ⟨h4,rfl⟩
 ·obtain ⟨w1,w2,w3⟩:=h1.wd (i:Int) (by omega) (by omega)
  exact .inl ⟨_,rfl,by omega,w2,by rw [w3];exact i2⟩
 ·refine .inr ⟨rfl,fun w hw hh => ?_⟩
  obtain ⟨j,hj,e⟩:=List.mem_iff_getElem.1 (zub h hg hn hw);refine h4 j (by omega) ?_
  have e2:ix (bSt nx L first n).1 (j:Int)=(bSt nx L first n).1[j]:=by unfold ix;simp [hj]
  rw [e2,e];exact hh
end
abbrev Cp:=Int×Int×Unit
theorem zsM {α:Type} [Inhabited α] {ks:List α} (hn:ks.Nodup) {vs:List (List Int)} (hl:vs.length=ks.length) {i:Int} (i0:0<=i) (i1:i < ks.length):mget ks vs (ix ks i) ([]:List Int)=ix vs i:=by
 have:=zl6 hn (j:=i.toNat) (by omega)
 rw [<- ziS i0 i1] at this;unfold mget;rw [this];show vs.getD i.toNat []=_;rfl
theorem zrm {α β:Type} {ks:List α} {vs:List β} {x:α} {y:β} (h:x∉ks):zdD ks vs x y=vs++[y]:=by
 unfold zdD;rw [zaL.2 h]
theorem znD {nx:Cp->Int->Cp} {g:Int} {first:Cp} {N:Nat} {P:Cp->Prop} {d:Dt} (hb:BOk nx g.toNat first N P) (hN:N<=9000000) (hg:0<=g/\g<=4) (hnx:∀ s,P s->∀ t,0<=t->t < g->zc1 s t d=some (nx s t)) {x:List Cp×List (List Int)} (hx:BI nx g.toNat first P x) {i:Nat} (hi:i < x.1.length) {r3}:∀ (f t:Nat),g.toNat - t=f->t<=g.toNat->
  zbx g d r3 t (bRow nx (ix x.1 (i:Int)) (ix x.2 (i:Int)) x t).1 (bRow nx (ix x.1 (i:Int)) (ix x.2 (i:Int)) x t).2 ((bRow nx (ix x.1 (i:Int)) (ix x.2 (i:Int)) x t).1.drop i)=
   r3 (bRow nx (ix x.1 (i:Int)) (ix x.2 (i:Int)) x g.toNat).1 (bRow nx (ix x.1 (i:Int)) (ix x.2 (i:Int)) x g.toNat).2 ((bRow nx (ix x.1 (i:Int)) (ix x.2 (i:Int)) x g.toNat).1.drop (i+1)):=by
 intro f
 induction f with
 | zero=>
  intro t hf ht;obtain rfl:t=g.toNat:=by omega
  obtain ⟨h1,h2,_⟩:=zh8 hb hx hi g.toNat (Nat.le_refl _);have hle:=h2.le;rw [zgA];unfold zbi;rw [if_neg (by simp;omega)]
  refine G_to (by rw [List.length_drop];omega) ?_
  rw [List.drop_drop];rfl
 | succ f ih=>
  intro t hf ht;obtain ⟨h1,h2,_⟩:=zh8 hb hx hi t (by omega)
  have ih':=ih (t+1) (by omega) (by omega)
  have hle:=h2.le;have hlN:=hb.b _ h1.nd h1.p;have hP:=hx.p _ (zbJ (i:=(i:Int)) (by omega) (by omega))
  have e0:ix ((bRow nx (ix x.1 (i:Int)) (ix x.2 (i:Int)) x t).1.drop i) 0=ix x.1 (i:Int):=by
   refine Eq.trans ?_ (h2.ix1 (j:=(i:Int)) (by omega) (by omega))
   have:=zsA (l:=(bRow nx (ix x.1 (i:Int)) (ix x.2 (i:Int)) x t).1) (i:=(i:Int)) (by omega) (by omega)
   rw [Int.toNat_natCast] at this;rw [this];rfl
  have ew:mget (bRow nx (ix x.1 (i:Int)) (ix x.2 (i:Int)) x t).1 (bRow nx (ix x.1 (i:Int)) (ix x.2 (i:Int)) x t).2 (ix x.1 (i:Int)) ([]:List Int)=ix x.2 (i:Int):=by
   have hxl:=hx.len;have:=zsM h1.nd h1.len (i:=(i:Int)) (by omega) (by omega)
   rw [h2.ix1 (by omega) (by omega),h2.ix2 (by omega) (by omega)] at this
   exact this
  have hwl:=(hx.wd (i:Int) (by omega) (by omega)).1
  rw [zgA];unfold zbi;rw [if_pos (by simp;omega)]
  refine G_to (by rw [List.length_drop];omega) (G_to (by rw [List.length_drop];show (0:Nat) < _;omega) ?_)
  rw [e0];refine zaj (hnx _ hP (t:Int) (by omega) (by omega)) ?_
  have ey:((nx (ix x.1 (i:Int)) (t:Int)).1,((nx (ix x.1 (i:Int)) (t:Int)).2.1,()))=nx (ix x.1 (i:Int)) (t:Int):=rfl;rw [ey];by_cases c:nx (ix x.1 (i:Int)) (t:Int)∈(bRow nx (ix x.1 (i:Int)) (ix x.2 (i:Int)) x t).1
  ·rw [if_neg (by rw [zhp.2 c];simp)]
   rw [zny c] at ih';exact G_to (by unfold fits;omega) ih'
  ·have hh:mhas (bRow nx (ix x.1 (i:Int)) (ix x.2 (i:Int)) x t).1 (nx (ix x.1 (i:Int)) (t:Int))=false:=by
    cases e:mhas (bRow nx (ix x.1 (i:Int)) (ix x.2 (i:Int)) x t).1 (nx (ix x.1 (i:Int)) (t:Int)) with
    | false=>rfl
    | true=>exact absurd (zhp.1 e) c
   rw [znx c] at ih';rw [if_pos (by rw [hh];rfl),ew]
   have hc:za7 (ix x.2 (i:Int))=some (ix x.2 (i:Int)):=zfs (by omega)
   have hr:room (ix x.2 (i:Int)) [(t:Int)] 8:=by unfold room;simp;omega
   refine G_to (by rw [List.length_drop];omega) (G_to (by rw [List.length_drop];show (0:Nat) < _;omega) ?_)
   have hJ:zau t ((bRow nx (ix x.1 (i:Int)) (ix x.2 (i:Int)) x t).1.drop i) (zbx g d r3) (zc9 (bRow nx (ix x.1 (i:Int)) (ix x.2 (i:Int)) x t).1 (nx (ix x.1 (i:Int)) (t:Int))) (zdD (bRow nx (ix x.1 (i:Int)) (ix x.2 (i:Int)) x t).1 (bRow nx (ix x.1 (i:Int)) (ix x.2 (i:Int)) x t).2 (nx (ix x.1 (i:Int)) (t:Int)) (ix x.2 (i:Int)++[(t:Int)])) (nx (ix x.1 (i:Int)) (t:Int)).1 (nx (ix x.1 (i:Int)) (t:Int)).2.1=
     r3 (bRow nx (ix x.1 (i:Int)) (ix x.2 (i:Int)) x g.toNat).1 (bRow nx (ix x.1 (i:Int)) (ix x.2 (i:Int)) x g.toNat).2 ((bRow nx (ix x.1 (i:Int)) (ix x.2 (i:Int)) x g.toNat).1.drop (i+1)):=by
    unfold zau;refine G_to (by unfold room;simp;omega) (G_to (by unfold fits;omega) ?_)
    rw [ey,zl8 c,zrm c,<- ih',List.drop_append_of_le_length (by omega)]
    rfl
   repeat' first | (with_reducible refine zaI ?_ ?_) | (with_reducible refine zaj hc ?_) | (with_reducible refine G_to hr ?_)
   all_goals exact hJ
theorem zmP {nx:Cp->Int->Cp} {okb:Cp->Bool} {g:Int} {first:Cp} {N:Nat} {P:Cp->Prop} {d:Dt} (hb:BOk nx g.toNat first N P) (hN:N<=9000000) (hg:0<=g/\g<=4) (hnx:∀ s,P s->∀ t,0<=t->t < g->zc1 s t d=some (nx s t)) (hok:∀ s,P s->zdU s d=some (okb s)) {n:Nat} (hgo:BGo nx g.toNat first n) (hn:(bSt nx g.toNat first n).1.length=n):
  ∃ r,zlD first g d d=some r/\BRes nx g.toNat first n (fun s=>okb s=true) r:=by
 obtain ⟨h1,_,h3⟩:=zge hb n hgo;have hfull:=hb.b _ h1.nd h1.p;have key:∀ (f i:Nat),n - i=f->i<=n->(∀ j:Nat,j < i -> ¬ okb (ix (bSt nx g.toNat first n).1 (j:Int))=true)->
   ∃ r,zeA g d d (bSt nx g.toNat first i).1 (bSt nx g.toNat first i).2 ((bSt nx g.toNat first i).1.drop i)=some r/\BRes nx g.toNat first n (fun s=>okb s=true) r:=by
  intro f
  induction f with
  | zero=>
   intro i hf hi hno;obtain rfl:i=n:=by omega
   refine ⟨([],false),?_,.inr ⟨hno,rfl⟩⟩
   rw [zgz];unfold zbh;rw [if_neg (by rw [decide_eq_true_iff,List.length_drop];omega)]
  | succ f ih=>
   intro i hf hi hno;obtain ⟨k1,k2,_⟩:=zge hb i (fun k hk=>hgo k (by omega))
   have hlt:=hgo i (by omega)
   have hgr:=h3 i (by omega)
   have hxl:=k1.len;have e0:ix ((bSt nx g.toNat first i).1.drop i) 0=ix (bSt nx g.toNat first i).1 (i:Int):=by
    have:=zsA (l:=(bSt nx g.toNat first i).1) (i:=(i:Int)) (by omega) (by omega)
    rw [Int.toNat_natCast] at this;rw [this];rfl
   have hP:=k1.p _ (zbJ (i:=(i:Int)) (by omega) (by omega))
   have ei:ix (bSt nx g.toNat first n).1 (i:Int)=ix (bSt nx g.toNat first i).1 (i:Int):=hgr.ix1 (by omega) (by omega)
   have ej:ix (bSt nx g.toNat first n).2 (i:Int)=ix (bSt nx g.toNat first i).2 (i:Int):=hgr.ix2 (by omega) (by omega)
   rw [zgz];unfold zbh;rw [if_pos (by rw [decide_eq_true_iff,List.length_drop];omega),zat (by rw [List.length_drop];omega),zat (by rw [List.length_drop];show (0:Nat) < _;omega),e0,hok _ hP]
   show ∃ r,(if okb (ix (bSt nx g.toNat first i).1 (i:Int))=true then _ else _)=some r/\_
   cases c:okb (ix (bSt nx g.toNat first i).1 (i:Int)) with
   | true=>
    rw [if_pos rfl,zat (by rw [List.length_drop];omega),zat (by rw [List.length_drop];show (0:Nat) < _;omega),zsM k1.nd hxl (by omega) (by omega)]
    exact ⟨_,rfl,.inl ⟨i,by omega,by rw [ei];exact c,hno,by rw [ej]⟩⟩
   | false=>
    rw [if_neg (by simp)]
    obtain ⟨r,r1,r2⟩:=ih (i+1) (by omega) (by omega) (fun j hj=>by
     by_cases e:j=i
     ·subst e;rw [ei,c];simp
     ·exact hno j (by omega))
    refine ⟨r,?_,r2⟩
    rw [<- r1];exact znD hb hN hg hnx k1 hlt _ 0 rfl (by omega)
 exact key _ 0 rfl (by omega) (fun j hj=>by omega)
theorem zpe {p q p' q' n:Int} (h:0<=q/\q < n) (h':0<=q'/\q' < n) (e:p * n+q=p' * n+q'):p=p'/\q=q':=by
 have e1:(p * n+q) / n=p:=by
  rw [Int.mul_comm,Int.mul_add_ediv_left _ _ (by omega),Int.ediv_eq_zero_of_lt h.1 h.2];omega
 have e2:(p' * n+q') / n=p':=by
  rw [Int.mul_comm,Int.mul_add_ediv_left _ _ (by omega),Int.ediv_eq_zero_of_lt h'.1 h'.2];omega
 have:p=p':=by rw [<- e1,<- e2,e]
 subst this;exact ⟨rfl,by omega⟩
theorem zil {p q n m:Int} (h:0<=p/\p < m) (h':0<=q/\q < n):0<=p * n+q/\p * n+q < m * n:=by
 have h1:0<=p * n:=Int.mul_nonneg h.1 (by omega)
 have h2:(p+1) * n<=m * n:=Int.mul_le_mul_of_nonneg_right (by omega) (by omega)
 rw [Int.add_mul] at h2;omega
def NX (a b:Dt) (s:Int×Int×Unit) (t:Int):Int×Int×Unit:=(ix (ix a.2.2.1 s.1) t,ix (ix b.2.2.1 s.2.1) t,())
def okM (a b:Dt) (s:Int×Int×Unit):Bool:=decide (¬ ix a.2.2.2.1 s.1=ix b.2.2.2.1 s.2.1)
def PR (a b:Dt) (s:Int×Int×Unit):Prop:=(0<=s.1/\s.1 < a.2.2.1.length)/\0<=s.2.1/\s.2.1 < b.2.2.1.length
theorem zir {a b:Dt} {mb mb':Int->Prop} (ha:DOk 3000 mb a) (hb:DOk 3000 mb' b) (hL:a.1=b.1) {s:Int×Int×Unit} (hs:PR a b s):BOk (NX a b) a.1.toNat s (a.2.2.1.length * b.2.2.1.length) (PR a b):=by
 have hn:=hb.n1;refine ⟨hs,fun s hs t t0 t1 => ?_,fun l hl hp => ?_⟩
 ·have h1:=ha.tab.stpb hs.1.1 hs.1.2 t0 (by omega)
  have h2:=hb.tab.stpb hs.2.1 hs.2.2 t0 (by omega)
  exact ⟨h1,h2⟩
 ·have hnd:(l.map fun s:Int×Int×Unit=>s.1 * (b.2.2.1.length:Int)+s.2.1).Nodup:=by
   refine List.Pairwise.map _ ?_ (List.Pairwise.and_mem.1 hl)
   rintro ⟨p,q,u⟩ ⟨p',q',u'⟩ ⟨hx,hy,hne⟩ e;obtain ⟨rfl,rfl⟩:=zpe (hp _ hx).2 (hp _ hy).2 e;exact hne rfl
  have:=zj1 (n:=a.2.2.1.length * b.2.2.1.length) hnd (fun v hv=>by
   obtain ⟨s,hs,rfl⟩:=List.mem_map.1 hv;have:=zil (hp s hs).1 (hp s hs).2
   push_cast
   exact this)
  rwa [List.length_map] at this
theorem zlg {a b:Dt} {mb mb':Int->Prop} (ha:DOk 3000 mb a) (hb:DOk 3000 mb' b):a.2.2.1.length * b.2.2.1.length<=9000000:=by
 have:=Nat.mul_le_mul (show a.2.2.1.length<=3000 by have:=ha.n1;omega) (show b.2.2.1.length<=3000 by have:=hb.n1;omega)
 omega
theorem zt6 {a b:Dt}:∀ (w:List Int) (s:Int×Int×Unit),w.foldl (NX a b) s=(wlk a.2.2.1 s.1 w,wlk b.2.2.1 s.2.1 w,())
 | [],s=>rfl
 | x::w,s=>zt6 w (NX a b s x)
def zlo (a b:Dt) (ks:List (Int×Int×Unit)) (seen:List Bool):Prop:=seen.length=a.2.2.1.length * b.2.2.1.length/\∀ s,PR a b s->(ix seen (s.1 * (b.2.2.1.length:Int)+s.2.1)=true↔s∈ks)
theorem zlo.put {a b:Dt} {ks:List (Int×Int×Unit)} {seen:List Bool} (h:zlo a b ks seen) {s:Int×Int×Unit} (hs:PR a b s):zlo a b (ks++[s]) (seen.set (s.1 * (b.2.2.1.length:Int)+s.2.1).toNat true):=by
 refine ⟨by rw [List.length_set];exact h.1,fun r hr => ?_⟩
 have l1:=zil hs.1 hs.2;have l2:=zil hr.1 hr.2;have hl:(seen.length:Int)=a.2.2.1.length * b.2.2.1.length:=by rw [h.1];push_cast;rfl
 by_cases e:r=s
 ·subst e;rw [zbz l1.1 (by omega)];simp
 ·rw [zdp l1.1 l2.1 (fun hh=>e (by
   obtain ⟨p,q,u⟩:=r;obtain ⟨p',q',u'⟩:=s;obtain ⟨rfl,rfl⟩:=zpe hs.2 hr.2 hh;rfl)),h.2 r hr,List.mem_append,List.mem_singleton]
  simp [e]
abbrev f1 (l:List (Int×Int×Unit)):List Int:=l.map fun s=>s.1
abbrev f2 (l:List (Int×Int×Unit)):List Int:=l.map fun s=>s.2.1
theorem zrD {a b:Dt} {mb mb':Int->Prop} (ha:DOk 3000 mb a) (hb:DOk 3000 mb' b) (hL:a.1=b.1) {first:Int×Int×Unit} (hf:PR a b first) {x:List (Int×Int×Unit)×List (List Int)} (hx:BI (NX a b) a.1.toNat first (PR a b) x) {i:Nat} (hi:i < x.1.length) {r5}:∀ (f t:Nat) (seen:List Bool),a.1.toNat - t=f->t<=a.1.toNat->zlo a b (bRow (NX a b) (ix x.1 (i:Int)) (ix x.2 (i:Int)) x t).1 seen->
  ∃ seen',zlo a b (bRow (NX a b) (ix x.1 (i:Int)) (ix x.2 (i:Int)) x a.1.toNat).1 seen'/\zbS a b i r5 t seen (f1 (bRow (NX a b) (ix x.1 (i:Int)) (ix x.2 (i:Int)) x t).1) (f2 (bRow (NX a b) (ix x.1 (i:Int)) (ix x.2 (i:Int)) x t).1) (bRow (NX a b) (ix x.1 (i:Int)) (ix x.2 (i:Int)) x t).2=
   r5 (i+1) seen' (f1 (bRow (NX a b) (ix x.1 (i:Int)) (ix x.2 (i:Int)) x a.1.toNat).1) (f2 (bRow (NX a b) (ix x.1 (i:Int)) (ix x.2 (i:Int)) x a.1.toNat).1) (bRow (NX a b) (ix x.1 (i:Int)) (ix x.2 (i:Int)) x a.1.toNat).2:=by
 have hB:=zir ha hb hL hf;have hN:=zlg ha hb;have hlt:=ha.let1;intro f
 induction f with
 | zero=>
  intro t seen hff ht hs;obtain rfl:t=a.1.toNat:=by omega
  obtain ⟨h1,h2,_⟩:=zh8 hB hx hi a.1.toNat (Nat.le_refl _);have hlN:=hB.b _ h1.nd h1.p;have hle:=h2.le;refine ⟨seen,hs,?_⟩
  rw [zed];unfold za6;rw [if_neg (by simp;omega)]
  exact G_to (by unfold fits;omega) rfl
 | succ f ih=>
  intro t seen hff ht hs;obtain ⟨h1,h2,_⟩:=zh8 hB hx hi t (by omega)
  have ih':=ih (t+1);have hle:=h2.le;have hlN:=hB.b _ h1.nd h1.p;have hxl:=hx.len;have hyl:=h1.len;have hP:=hx.p _ (zbJ (i:=(i:Int)) (by omega) (by omega))
  have hwl:=(hx.wd (i:Int) (by omega) (by omega)).1
  have hPn:=hB.n _ hP (t:Int) (by omega) (by omega)
  have e1:=h2.ix1 (j:=(i:Int)) (by omega) (by omega)
  have e2:=h2.ix2 (j:=(i:Int)) (by omega) (by omega)
  have hra:=ha.tab.rowlen hP.1.1 hP.1.2;have hrb:=hb.tab.rowlen hP.2.1 hP.2.2;generalize hs0:ix x.1 (i:Int)=s0 at *
  generalize hw0:ix x.2 (i:Int)=w0 at *
  have na:=ha.n1;have nb:=hb.n1;by_cases c:NX a b s0 (t:Int)∈(bRow (NX a b) s0 w0 x t).1
  ·rw [zny c] at ih';obtain ⟨seen',q1,q2⟩:=ih' seen (by omega) (by omega) hs
   refine ⟨seen',q1,?_⟩
   rw [<- q2];generalize bRow (NX a b) s0 w0 x t=y at *
   have g1:ix (f1 y.1) (i:Int)=s0.1:=by rw [zkv _ (by omega) (by omega),e1]
   have g2:ix (f2 y.1) (i:Int)=s0.2.1:=by rw [zkv _ (by omega) (by omega),e1]
   have hl1:(f1 y.1).length=y.1.length:=List.length_map _;have hl2:(f2 y.1).length=y.1.length:=List.length_map _
   conv=>lhs;rw [zed];unfold za6
   have hc:=zil hPn.1 hPn.2;have hm:(a.2.2.1.length:Int) * b.2.2.1.length<=9000000:=by
    have h9:=Int.ofNat_le.2 hN;rw [Int.natCast_mul] at h9;omega
   have hm2:0<=(NX a b s0 (t:Int)).1 * (b.2.2.1.length:Int):=Int.mul_nonneg hPn.1.1 (by omega)
   have hsl:(seen.length:Int)=a.2.2.1.length * b.2.2.1.length:=by rw [hs.1];push_cast;rfl
   have hq:=hPn.2;have hP1:=hP.1;have hP2:=hP.2;unfold NX at hc hm2 hq c;rw [if_pos (by simp;omega),zat (by omega),zat (by omega),g1,zat (by omega),zat (by omega),zat (by omega),zat (by omega),g2,zat (by omega),zat (by omega),zat (by unfold fits;simp only at hc hm2 hq;omega),zat (by unfold fits;simp only at hc hm2 hq;omega),zat (by simp only at hc hm2 hq;omega),zat (by simp only at hc hm2 hq;omega)]
   have:=(hs.2 _ hPn).2 c;unfold NX at this;rw [if_pos this];exact G_to (by unfold fits;omega) rfl
  ·rw [znx c] at ih';obtain ⟨seen',q1,q2⟩:=ih' (seen.set ((NX a b s0 (t:Int)).1 * (b.2.2.1.length:Int)+(NX a b s0 (t:Int)).2.1).toNat true) (by omega) (by omega) (hs.put hPn)
   refine ⟨seen',q1,?_⟩
   rw [<- q2];generalize bRow (NX a b) s0 w0 x t=y at *
   have g1:ix (f1 y.1) (i:Int)=s0.1:=by rw [zkv _ (by omega) (by omega),e1]
   have g2:ix (f2 y.1) (i:Int)=s0.2.1:=by rw [zkv _ (by omega) (by omega),e1]
   have hl1:(f1 y.1).length=y.1.length:=List.length_map _;have hl2:(f2 y.1).length=y.1.length:=List.length_map _
   conv=>lhs;rw [zed];unfold za6
   have hc:=zil hPn.1 hPn.2;have hm:(a.2.2.1.length:Int) * b.2.2.1.length<=9000000:=by
    have h9:=Int.ofNat_le.2 hN;rw [Int.natCast_mul] at h9;omega
   have hm2:0<=(NX a b s0 (t:Int)).1 * (b.2.2.1.length:Int):=Int.mul_nonneg hPn.1.1 (by omega)
   have hsl:(seen.length:Int)=a.2.2.1.length * b.2.2.1.length:=by rw [hs.1];push_cast;rfl
   have hq:=hPn.2;have hP1:=hP.1;have hP2:=hP.2;have hno : ¬ ix seen ((NX a b s0 (t:Int)).1 * (b.2.2.1.length:Int)+(NX a b s0 (t:Int)).2.1)=true:=fun hh=>c ((hs.2 _ hPn).1 hh)
   unfold NX at hc hm2 hq hno;simp only at hc hm2 hq hno;rw [if_pos (by simp;omega),zat (by omega),zat (by omega),g1,zat (by omega),zat (by omega),zat (by omega),zat (by omega),g2,zat (by omega),zat (by omega),zat (by unfold fits;omega),zat (by unfold fits;omega),zat (by omega),zat (by omega),if_neg hno,zat (by unfold fits;omega),zat (by unfold fits;omega),zat (by omega),zat (by omega),zat (by omega),zat (by omega),e2,zat (by unfold room;simp;omega),zat (by unfold room;simp;omega),zat (by unfold room;simp;omega),zat (by unfold room;simp;omega),zat (by unfold room;simp;omega),zat (by unfold fits;omega),List.nil_append]
   unfold f1 f2 NX;rw [List.map_append,List.map_append];rfl
theorem zqm {a b:Dt} {mb mb':Int->Prop} (ha:DOk 3000 mb a) (hb:DOk 3000 mb' b) (hL:a.1=b.1) {p q:Int} (hf:PR a b (p,q,())) {n:Nat} (hgo:BGo (NX a b) a.1.toNat (p,q,()) n) (hn:(bSt (NX a b) a.1.toNat (p,q,()) n).1.length=n):
  zjt a b p q=some (f1 (bSt (NX a b) a.1.toNat (p,q,()) n).1,f2 (bSt (NX a b) a.1.toNat (p,q,()) n).1,(bSt (NX a b) a.1.toNat (p,q,()) n).2,()):=by
 have hB:=zir ha hb hL hf;have hN:=zlg ha hb;have na:=ha.n1;have nb:=hb.n1;have hm:(a.2.2.1.length:Int) * b.2.2.1.length<=9000000:=by
  have h9:=Int.ofNat_le.2 hN;rw [Int.natCast_mul] at h9;omega
 have hm0:0<=(a.2.2.1.length:Int) * b.2.2.1.length:=Int.mul_nonneg (by omega) (by omega)
 have hc:=zil hf.1 hf.2;have hp0:0<=p * (b.2.2.1.length:Int):=Int.mul_nonneg hf.1.1 (by omega)
 have hq:=hf.2;simp only at hc hq;have key:∀ (f i:Nat) (seen:List Bool),n - i=f->i<=n->zlo a b (bSt (NX a b) a.1.toNat (p,q,()) i).1 seen->
   zdt a b (i:Int) seen (f1 (bSt (NX a b) a.1.toNat (p,q,()) i).1) (f2 (bSt (NX a b) a.1.toNat (p,q,()) i).1) (bSt (NX a b) a.1.toNat (p,q,()) i).2=some (f1 (bSt (NX a b) a.1.toNat (p,q,()) n).1,f2 (bSt (NX a b) a.1.toNat (p,q,()) n).1,(bSt (NX a b) a.1.toNat (p,q,()) n).2,()):=by
  intro f
  induction f with
  | zero=>
   intro i seen hff hi hs;obtain rfl:i=n:=by omega
   rw [zg5];unfold zbo;rw [if_neg (by rw [decide_eq_true_iff,List.length_map];omega)]
  | succ f ih=>
   intro i seen hff hi hs;obtain ⟨k1,k2,_⟩:=zge hB i (fun k hk=>hgo k (by omega))
   have hlt:=hgo i (by omega)
   obtain ⟨seen',q1,q2⟩:=zrD ha hb hL hf k1 hlt (r5:=zdt a b) _ 0 seen rfl (by omega) hs
   rw [zg5];unfold zbo;rw [if_pos (by rw [decide_eq_true_iff,List.length_map];omega)]
   exact q2.trans (ih (i+1) seen' (by omega) (by omega) q1)
 unfold zjt;have e:((a.2.2.1.length:Int) * b.2.2.1.length).toNat=a.2.2.1.length * b.2.2.1.length:=by
  rw [<- Int.natCast_mul];exact Int.toNat_natCast _
 refine G_to (by unfold fits;omega) (G_to (by unfold mkOK;omega) (G_to (by unfold fits;omega) (G_to (by unfold fits;omega) (G_to (by rw [List.length_replicate];omega) (G_to (by rw [List.length_replicate];omega) ?_)))))
 rw [e];have hs0:zlo a b [] (List.replicate (a.2.2.1.length * b.2.2.1.length) false):=⟨List.length_replicate,fun s hs=>by
  have:=zil hs.1 hs.2;rw [zgH this.1 (by push_cast;omega)]
  simp⟩
 exact key _ 0 _ rfl (by omega) (hs0.put hf)
theorem zoj {a b:Dt} {mb mb':Int->Prop} (ha:DOk 3000 mb a) (hb:DOk 3000 mb' b) (hL:a.1=b.1) {p q:Int} (hf:PR a b (p,q,())) {n:Nat} (hgo:BGo (NX a b) a.1.toNat (p,q,()) n) (hn:(bSt (NX a b) a.1.toNat (p,q,()) n).1.length=n):
  ∃ r,zli a b p q=some r/\BRes (NX a b) a.1.toNat (p,q,()) n (fun s=>okM a b s=true) r:=by
 have hB:=zir ha hb hL hf;have hN:=zlg ha hb;obtain ⟨h1,_,_⟩:=zge hB n hgo;have hlN:=hB.b _ h1.nd h1.p;have hxl:=h1.len;have hma:=ha.mkl;have hmb:=hb.mkl;unfold zli;rw [show (a.1,a.2.1,a.2.2.1,a.2.2.2.1,())=a from rfl,show (b.1,b.2.1,b.2.2.1,b.2.2.2.1,())=b from rfl,zqm ha hb hL hf hgo hn];show ∃ r,zd3 a b _ 0=some r/\_;have key:∀ (f i:Nat),n - i=f->i<=n->(∀ j:Nat,j < i -> ¬ okM a b (ix (bSt (NX a b) a.1.toNat (p,q,()) n).1 (j:Int))=true)->∃ r,zd3 a b (f1 (bSt (NX a b) a.1.toNat (p,q,()) n).1,f2 (bSt (NX a b) a.1.toNat (p,q,()) n).1,(bSt (NX a b) a.1.toNat (p,q,()) n).2,()) (i:Int)=some r/\BRes (NX a b) a.1.toNat (p,q,()) n (fun s=>okM a b s=true) r:=by
  intro f
  induction f with
  | zero=>
   intro i hff hi hno;obtain rfl:i=n:=by omega
   refine ⟨([],false),?_,.inr ⟨hno,rfl⟩⟩
   rw [zhO];unfold zbC;rw [if_neg (by rw [decide_eq_true_iff,List.length_map];omega)]
  | succ f ih=>
   intro i hff hi hno;have hP:=h1.p _ (zbJ (i:=(i:Int)) (by omega) (by omega))
   have g1:ix (f1 (bSt (NX a b) a.1.toNat (p,q,()) n).1) (i:Int)=(ix (bSt (NX a b) a.1.toNat (p,q,()) n).1 (i:Int)).1:=zkv _ (by omega) (by omega)
   have g2:ix (f2 (bSt (NX a b) a.1.toNat (p,q,()) n).1) (i:Int)=(ix (bSt (NX a b) a.1.toNat (p,q,()) n).1 (i:Int)).2.1:=zkv _ (by omega) (by omega)
   have hok:okM a b (ix (bSt (NX a b) a.1.toNat (p,q,()) n).1 (i:Int))=decide (¬ ix a.2.2.2.1 (ix (bSt (NX a b) a.1.toNat (p,q,()) n).1 (i:Int)).1=ix b.2.2.2.1 (ix (bSt (NX a b) a.1.toNat (p,q,()) n).1 (i:Int)).2.1):=rfl;rw [zhO];unfold zbC;rw [if_pos (by rw [decide_eq_true_iff,List.length_map];omega),zat (by rw [List.length_map];omega)]
   simp only;rw [g1,zat (by have:=hP.1;omega),zat (by rw [List.length_map];omega),g2,zat (by have:=hP.2;omega),<- hok]
   cases c:okM a b (ix (bSt (NX a b) a.1.toNat (p,q,()) n).1 (i:Int)) with
   | true=>
    rw [if_pos rfl,zat (by omega)]
    exact ⟨_,rfl,.inl ⟨i,by omega,c,hno,rfl⟩⟩
   | false=>
    rw [if_neg (by simp),zat (by unfold fits;omega)]
    exact ih (i+1) (by omega) (by omega) (fun j hj=>by
     by_cases e:j=i
     ·subst e;rw [c];simp
     ·exact hno j (by omega))
 exact key _ 0 rfl (by omega) (fun j hj=>by omega)
theorem zpg {d:Dt} (h1:(d.2.2.1.length:Int)<=17592186044416) (h2:(d.2.2.2.1.length:Int)<=17592186044416) (h3:∀ r∈d.2.2.1,(r.length:Int)<=17592186044416):zj6 d d=some true:=by
 have k14:∀ (i:Int) {r9},0<=i->i < d.2.2.1.length->∀ (n:Nat) (k:Int),((ix d.2.2.1 i).length - k).toNat=n->0<=k->k<=(ix d.2.2.1 i).length->zco d d i r9 k=r9 (i+1):=by
  intro i r9 i0 i1 n;have hr:=h3 _ (zbJ i0 i1)
  induction n with
  | zero=>
   intro k hn k0 k1;rw [zh0];unfold zbF;rw [zat (by omega),if_neg (by simp;omega)]
   exact G_to (by unfold fits;omega) rfl
  | succ n ih=>
   intro k hn k0 k1;rw [zh0];unfold zbF;rw [zat (by omega),if_pos (by simp;omega),if_neg (by simp)]
   exact G_to (by omega) (G_to (by omega) (G_to (by omega) (G_to (by omega) (G_to (by unfold fits;omega) (ih (k+1) (by omega) (by omega) (by omega))))))
 have k9:∀ (n:Nat) (i:Int),(d.2.2.1.length - i).toNat=n->0<=i->i<=d.2.2.1.length->zht d d i=some true:=by
  intro n
  induction n with
  | zero=>
   intro i hn i0 i1;rw [zjs];unfold zbR;rw [if_neg (by simp;omega)]
  | succ n ih=>
   intro i hn i0 i1;rw [zjs];unfold zbR;rw [if_pos (by simp;omega),if_neg (by simp)]
   refine G_to (by omega) (G_to (by omega) ?_)
   rw [k14 i i0 (by omega) _ 0 rfl (by omega) (by omega)]
   exact ih (i+1) (by omega) (by omega) (by omega)
 have k4:∀ (n:Nat) (i:Int),(d.2.2.2.1.length - i).toNat=n->0<=i->i<=d.2.2.2.1.length->zhs d d i=some true:=by
  intro n
  induction n with
  | zero=>
   intro i hn i0 i1;rw [zjr];unfold zbQ;rw [if_neg (by simp;omega)]
   exact k9 _ 0 rfl (by omega) (by omega)
  | succ n ih=>
   intro i hn i0 i1;rw [zjr];unfold zbQ;rw [if_pos (by simp;omega),if_neg (by simp)]
   exact G_to (by omega) (G_to (by omega) (G_to (by unfold fits;omega) (ih (i+1) (by omega) (by omega) (by omega))))
 unfold zj6;rw [if_neg (by simp),if_neg (by simp),if_neg (by simp),if_neg (by simp)]
 exact k4 _ 0 rfl (by omega) (by omega)
theorem zu8:zo4 (0,0,[],[],())=some true:=by
 unfold zo4;rw [if_pos (by simp),if_pos (by simp),zat (by unfold fits;simp)]
 rfl
theorem LeastOk.sizes {d o:Dt} {C Q:List Int} {K:Nat} (hd:DOk 3000 badD d) (h:LeastOk d o C Q K):(o.2.2.1.length:Int)<=3000/\(o.2.2.2.1.length:Int)<=3000/\∀ r∈o.2.2.1,(r.length:Int)<=4:=by
 have h1:=h.part.q.le h.fin;have h2:=h.fin.le;have h3:=hd.n1;have h4:=h.all;have h5:=h.part.l3;have h6:=hd.let1;refine ⟨by omega,by omega,fun r hr => ?_⟩
 obtain ⟨j,j0,j1,rfl⟩:=(zff (P:=fun x=>x=r)).1 ⟨r,hr,rfl⟩
 have:=(h.part.row j j0 j1).len;omega
theorem zvb (m:Int):zdl (zdV m) (badD m):=by
 unfold zdV;by_cases h:m=0
 ·rw [if_neg (by simpa using h)];exact zdl.of (by simp [h])
 ·rw [if_pos (by simpa using h)];exact zdl.dec (by simp [h])
theorem zdg {d:Dt}:ze4 d=some (detE 3000 badD d):=by
 unfold ze4 detE;by_cases c1:d.1 < 1\/4 < d.1
 ·rw [if_pos c1]
  (try dsimp only);(repeat' first | (with_reducible refine G_to ?_ ?_;focus (first | omega | (unfold fits;omega) | (unfold room;(try simp only [List.length_append,List.length_cons,List.length_nil]);omega))) | (with_reducible refine zaI ?_ ?_) | (with_reducible refine zaT ?_) | (with_reducible refine zaS ?_) | (with_reducible refine zbI (fun _ => ?_) (fun _ => ?_)))<;>try (exfalso;omega)
  all_goals rfl
 rw [if_neg c1];by_cases c2:DBig 3000 d
 ·rw [if_pos c2];unfold DBig at c2
  (try dsimp only);(repeat' first | (with_reducible refine G_to ?_ ?_;focus (first | omega | (unfold fits;omega) | (unfold room;(try simp only [List.length_append,List.length_cons,List.length_nil]);omega))) | (with_reducible refine zaI ?_ ?_) | (with_reducible refine zaT ?_) | (with_reducible refine zaS ?_) | (with_reducible refine zbI (fun _ => ?_) (fun _ => ?_)))<;>try (exfalso;omega)
  all_goals rfl
 rw [if_neg c2];unfold DBig at c2;by_cases c3:(d.2.2.2.1.length:Int)=d.2.2.1.length
 case neg=>
  rw [if_pos (show DRag d from .inl c3)]
  (try dsimp only);(repeat' first | (with_reducible refine G_to ?_ ?_;focus (first | omega | (unfold fits;omega) | (unfold room;(try simp only [List.length_append,List.length_cons,List.length_nil]);omega))) | (with_reducible refine zaI ?_ ?_) | (with_reducible refine zaT ?_) | (with_reducible refine zaS ?_) | (with_reducible refine zbI (fun _ => ?_) (fun _ => ?_)))<;>try (exfalso;omega)
  all_goals rfl
 (try dsimp only);(repeat' first | (with_reducible refine G_to ?_ ?_;focus (first | omega | (unfold fits;omega) | (unfold room;(try simp only [List.length_append,List.length_cons,List.length_nil]);omega))) | (with_reducible refine zaI ?_ ?_) | (with_reducible refine zaT ?_) | (with_reducible refine zaS ?_) | (with_reducible refine zbI (fun _ => ?_) (fun _ => ?_)))<;>try (exfalso;omega)
 have k1:zdl (zcp d.2.2.1 d) (∃ r∈d.2.2.1,¬ (r.length:Int)=d.1):=zeO (f:=fun r=>zic r d) (zgd d.2.2.1 d) (by omega) (fun x _=>zdl.dec Iff.rfl)
 have nn:∀ q t:Int,zdl (zc2 q t) (q < 0\/t<=q):=fun q t=>by
  unfold zc2;by_cases h:q < 0
  ·rw [if_pos (decide_eq_true h)];exact zdl.of (by simp [h])
  ·rw [if_neg (by simpa using h)];exact zdl.dec (by omega)
 have k2:∀ r∈d.2.2.1,r.length<=1000->zdl (zbU r (d.2.2.1.length:Int)) (∃ q∈r,q < 0\/(d.2.2.1.length:Int)<=q):=fun r _ hr=>zeO (f:=fun q=>zc2 q (d.2.2.1.length:Int)) (zfz r (d.2.2.1.length:Int)) (by omega) (fun x _=>nn x _)
 have k4:zdl (zbV d.2.2.2.1) (∃ s∈d.2.2.2.1,(badD) s):=zeO (f:=fun q=>zdV q) (zfB d.2.2.2.1) (by omega) (fun x _=>zvb x)
 refine k1.to (fun h=>by rw [if_pos (show DRag d from .inr h)]) (fun h => ?_)
 rw [if_neg (show ¬ DRag d from fun hh=>hh.elim (fun e=>e c3) h)]
 have hr:∀ r∈d.2.2.1,r.length<=1000:=fun r hr=>by
  by_cases e:(r.length:Int)=d.1
  ·omega
  ·exact absurd ⟨r,hr,e⟩ h
 refine (nn _ _).to (fun h=>by rw [if_pos (show DOut _ d from .inl h)]) (fun h1 => ?_)
 obtain ⟨b,hb,hb2⟩:∃ b,zbT d.2.2.1 (d.2.2.1.length:Int)=some (b,(d.2.2.1.length:Int))/\(b=true↔∃ r∈d.2.2.1,∃ q∈r,q < 0\/(d.2.2.1.length:Int)<=q):=
  zly (f:=zfG) (zfx d.2.2.1) (by omega) (fun r hrm=>by
   obtain ⟨b,e,e2⟩:=k2 r hrm (hr r hrm);exact ⟨b,by unfold zfG;rw [e];rfl,e2⟩)
 rw [hb];refine zaj rfl ?_
 refine zut (fun h=>by rw [if_pos (show DOut _ d from .inr (.inl (hb2.1 h)))]) (fun h2 => ?_)
 refine k4.to (fun h=>by rw [if_pos (show DOut _ d from .inr (.inr h))]) (fun h3 => ?_)
 rw [if_neg (show ¬ DOut _ d from fun h=>h.elim h1 (fun h=>h.elim (fun h=>by rw [hb2.2 h] at h2;cases h2) h3))]
theorem zjk {d:Dt}:zji d=some (detE 3000 badD d):=by
 unfold zji detE;by_cases c1:d.1 < 1\/4 < d.1
 ·rw [if_pos c1]
  (try dsimp only);(repeat' first | (with_reducible refine G_to ?_ ?_;focus (first | omega | (unfold fits;omega) | (unfold room;(try simp only [List.length_append,List.length_cons,List.length_nil]);omega))) | (with_reducible refine zaI ?_ ?_) | (with_reducible refine zaT ?_) | (with_reducible refine zaS ?_) | (with_reducible refine zbI (fun _ => ?_) (fun _ => ?_)))<;>try (exfalso;omega)
  all_goals rfl
 rw [if_neg c1];by_cases c2:DBig 3000 d
 ·rw [if_pos c2];unfold DBig at c2
  (try dsimp only);(repeat' first | (with_reducible refine G_to ?_ ?_;focus (first | omega | (unfold fits;omega) | (unfold room;(try simp only [List.length_append,List.length_cons,List.length_nil]);omega))) | (with_reducible refine zaI ?_ ?_) | (with_reducible refine zaT ?_) | (with_reducible refine zaS ?_) | (with_reducible refine zbI (fun _ => ?_) (fun _ => ?_)))<;>try (exfalso;omega)
  all_goals rfl
 rw [if_neg c2];unfold DBig at c2;by_cases c3:(d.2.2.2.1.length:Int)=d.2.2.1.length
 case neg=>
  rw [if_pos (show DRag d from .inl c3)]
  (try dsimp only);(repeat' first | (with_reducible refine G_to ?_ ?_;focus (first | omega | (unfold fits;omega) | (unfold room;(try simp only [List.length_append,List.length_cons,List.length_nil]);omega))) | (with_reducible refine zaI ?_ ?_) | (with_reducible refine zaT ?_) | (with_reducible refine zaS ?_) | (with_reducible refine zbI (fun _ => ?_) (fun _ => ?_)))<;>try (exfalso;omega)
  all_goals rfl
 (try dsimp only);(repeat' first | (with_reducible refine G_to ?_ ?_;focus (first | omega | (unfold fits;omega) | (unfold room;(try simp only [List.length_append,List.length_cons,List.length_nil]);omega))) | (with_reducible refine zaI ?_ ?_) | (with_reducible refine zaT ?_) | (with_reducible refine zaS ?_) | (with_reducible refine zbI (fun _ => ?_) (fun _ => ?_)))<;>try (exfalso;omega)
 refine zmx (len:=(d.2.2.1.length:Int)) (bad:=fun t => ¬ ((ix d.2.2.1 t).length:Int)=d.1) (by omega) (fun t h0 h1=>⟨fun hb => ?_,fun hb => ?_⟩) (fun hh => ?_)
 ·rw [zeV];unfold zbe
  (try dsimp only);(repeat' first | (with_reducible refine G_to ?_ ?_;focus (first | omega | (unfold fits;omega) | (unfold room;(try simp only [List.length_append,List.length_cons,List.length_nil]);omega))) | (with_reducible refine zaI ?_ ?_) | (with_reducible refine zaT ?_) | (with_reducible refine zaS ?_) | (with_reducible refine zbI (fun _ => ?_) (fun _ => ?_)))<;>try (exfalso;omega)
  rw [if_pos (show DRag d from .inr (zff.2 ⟨t,by omega,by omega,hb⟩))]
 ·conv=>lhs;rw [zeV];unfold zbe
  (try dsimp only);(repeat' first | (with_reducible refine G_to ?_ ?_;focus (first | omega | (unfold fits;omega) | (unfold room;(try simp only [List.length_append,List.length_cons,List.length_nil]);omega))) | (with_reducible refine zaI ?_ ?_) | (with_reducible refine zaT ?_) | (with_reducible refine zaS ?_) | (with_reducible refine zbI (fun _ => ?_) (fun _ => ?_)))<;>try (exfalso;omega)
  all_goals first | rfl | (exfalso;exact hb ‹_›) | (exfalso;exact absurd ‹_› hb)
 rw [if_neg (show ¬ DRag d from fun h=>h.elim (fun e=>e c3) (fun h=>by obtain ⟨i,i0,i1,i2⟩:=zff.1 h;exact hh i i0 i1 i2))]
 rw [zeV];unfold zbe;by_cases c4:d.2.1 < 0\/(d.2.2.1.length:Int)<=d.2.1
 ·rw [if_pos (show DOut _ d from .inl c4)]
  (try dsimp only);(repeat' first | (with_reducible refine G_to ?_ ?_;focus (first | omega | (unfold fits;omega) | (unfold room;(try simp only [List.length_append,List.length_cons,List.length_nil]);omega))) | (with_reducible refine zaI ?_ ?_) | (with_reducible refine zaT ?_) | (with_reducible refine zaS ?_) | (with_reducible refine zbI (fun _ => ?_) (fun _ => ?_)))<;>try (exfalso;omega)
  all_goals rfl
 (try dsimp only);(repeat' first | (with_reducible refine G_to ?_ ?_;focus (first | omega | (unfold fits;omega) | (unfold room;(try simp only [List.length_append,List.length_cons,List.length_nil]);omega))) | (with_reducible refine zaI ?_ ?_) | (with_reducible refine zaT ?_) | (with_reducible refine zaS ?_) | (with_reducible refine zbI (fun _ => ?_) (fun _ => ?_)))<;>try (exfalso;omega)
 have hlen:∀ t:Int,0<=t->t < d.2.2.1.length->((ix d.2.2.1 t).length:Int)=d.1:=fun t a b=>Decidable.not_not.1 (hh t a b)
 refine zmx (len:=(d.2.2.1.length:Int)) (bad:=fun t=>∃ q∈ix d.2.2.1 t,q < 0\/(d.2.2.1.length:Int)<=q) (by omega) (fun t h0 h1=>⟨fun hb => ?_,fun hb => ?_⟩) (fun hh2 => ?_)
 ·rw [zd4];unfold za1
  (try dsimp only);(repeat' first | (with_reducible refine G_to ?_ ?_;focus (first | omega | (unfold fits;omega) | (unfold room;(try simp only [List.length_append,List.length_cons,List.length_nil]);omega))) | (with_reducible refine zaI ?_ ?_) | (with_reducible refine zaT ?_) | (with_reducible refine zaS ?_) | (with_reducible refine zbI (fun _ => ?_) (fun _ => ?_)))<;>try (exfalso;omega)
  have hlt:=hlen t h0 h1;refine zmx (len:=d.1) (bad:=fun a=>ix (ix d.2.2.1 t) a < 0\/(d.2.2.1.length:Int)<=ix (ix d.2.2.1 t) a) (by omega) (fun a a0 a1=>⟨fun hb => ?_,fun hb => ?_⟩) (fun hh3 => ?_)
  ·rw [zcI];unfold zaM
   (try dsimp only);(repeat' first | (with_reducible refine G_to ?_ ?_;focus (first | omega | (unfold fits;omega) | (unfold room;(try simp only [List.length_append,List.length_cons,List.length_nil]);omega))) | (with_reducible refine zaI ?_ ?_) | (with_reducible refine zaT ?_) | (with_reducible refine zaS ?_) | (with_reducible refine zbI (fun _ => ?_) (fun _ => ?_)))<;>try (exfalso;omega)
   all_goals rw [if_pos (show DOut _ d from .inr (.inl (zff.2 ⟨t,h0,h1,zff.2 ⟨a,a0,by omega,hb⟩⟩)))]
  ·conv=>lhs;rw [zcI];unfold zaM
   (try dsimp only);(repeat' first | (with_reducible refine G_to ?_ ?_;focus (first | omega | (unfold fits;omega) | (unfold room;(try simp only [List.length_append,List.length_cons,List.length_nil]);omega))) | (with_reducible refine zaI ?_ ?_) | (with_reducible refine zaT ?_) | (with_reducible refine zaS ?_) | (with_reducible refine zbI (fun _ => ?_) (fun _ => ?_)))<;>try (exfalso;omega)
   all_goals rfl
  ·exfalso;obtain ⟨i,i0,i1,i2⟩:=zff.1 hb;exact hh3 i i0 (by omega) i2
 ·conv=>lhs;rw [zd4];unfold za1
  (try dsimp only);(repeat' first | (with_reducible refine G_to ?_ ?_;focus (first | omega | (unfold fits;omega) | (unfold room;(try simp only [List.length_append,List.length_cons,List.length_nil]);omega))) | (with_reducible refine zaI ?_ ?_) | (with_reducible refine zaT ?_) | (with_reducible refine zaS ?_) | (with_reducible refine zbI (fun _ => ?_) (fun _ => ?_)))<;>try (exfalso;omega)
  have hlt:=hlen t h0 h1;refine zmx (len:=d.1) (bad:=fun a=>ix (ix d.2.2.1 t) a < 0\/(d.2.2.1.length:Int)<=ix (ix d.2.2.1 t) a) (by omega) (fun a a0 a1=>⟨fun hb' => ?_,fun hb => ?_⟩) (fun hh3 => ?_)
  ·exfalso;exact hb (zff.2 ⟨a,a0,by omega,hb'⟩)
  ·conv=>lhs;rw [zcI];unfold zaM
   (try dsimp only);(repeat' first | (with_reducible refine G_to ?_ ?_;focus (first | omega | (unfold fits;omega) | (unfold room;(try simp only [List.length_append,List.length_cons,List.length_nil]);omega))) | (with_reducible refine zaI ?_ ?_) | (with_reducible refine zaT ?_) | (with_reducible refine zaS ?_) | (with_reducible refine zbI (fun _ => ?_) (fun _ => ?_)))<;>try (exfalso;omega)
   all_goals rfl
  ·rw [zcI];unfold zaM
   (try dsimp only);(repeat' first | (with_reducible refine G_to ?_ ?_;focus (first | omega | (unfold fits;omega) | (unfold room;(try simp only [List.length_append,List.length_cons,List.length_nil]);omega))) | (with_reducible refine zaI ?_ ?_) | (with_reducible refine zaT ?_) | (with_reducible refine zaS ?_) | (with_reducible refine zbI (fun _ => ?_) (fun _ => ?_)))<;>try (exfalso;omega)
   all_goals rfl
 have hnr : ¬ ∃ r∈d.2.2.1,∃ q∈r,q < 0\/(d.2.2.1.length:Int)<=q:=fun h=>by
  obtain ⟨t,h0,h1,hb⟩:=zff.1 h;exact hh2 t h0 h1 hb
 rw [zd4];unfold za1
 (try dsimp only);(repeat' first | (with_reducible refine G_to ?_ ?_;focus (first | omega | (unfold fits;omega) | (unfold room;(try simp only [List.length_append,List.length_cons,List.length_nil]);omega))) | (with_reducible refine zaI ?_ ?_) | (with_reducible refine zaT ?_) | (with_reducible refine zaS ?_) | (with_reducible refine zbI (fun _ => ?_) (fun _ => ?_)))<;>try (exfalso;omega)
 refine zmx (len:=(d.2.2.1.length:Int)) (bad:=fun t=>(badD) (ix d.2.2.2.1 t)) (by omega) (fun t h0 h1=>⟨fun hb => ?_,fun hb => ?_⟩) (fun hh3 => ?_)
 ·rw [if_pos (show DOut _ d from .inr (.inr (zff.2 ⟨t,h0,by omega,hb⟩)))]
  rw [zd7];unfold za2
  try dsimp only at hb
  (try dsimp only);(repeat' first | (with_reducible refine G_to ?_ ?_;focus (first | omega | (unfold fits;omega) | (unfold room;(try simp only [List.length_append,List.length_cons,List.length_nil]);omega))) | (with_reducible refine zaI ?_ ?_) | (with_reducible refine zaT ?_) | (with_reducible refine zaS ?_) | (with_reducible refine zbI (fun _ => ?_) (fun _ => ?_)))<;>try (exfalso;omega)
  all_goals first | rfl | (exfalso;exact hb.1 ‹_›) | (exfalso;exact hb.2 ‹_›)
 ·conv=>lhs;rw [zd7];unfold za2
  try dsimp only at hb
  (try dsimp only);(repeat' first | (with_reducible refine G_to ?_ ?_;focus (first | omega | (unfold fits;omega) | (unfold room;(try simp only [List.length_append,List.length_cons,List.length_nil]);omega))) | (with_reducible refine zaI ?_ ?_) | (with_reducible refine zaT ?_) | (with_reducible refine zaS ?_) | (with_reducible refine zbI (fun _ => ?_) (fun _ => ?_)))<;>try (exfalso;omega)
  all_goals first | rfl | (exfalso;exact hb ⟨‹_›,‹_›⟩)
 rw [if_neg (show ¬ DOut _ d from fun h=>h.elim c4 (fun h=>h.elim hnr (fun h=>by
  obtain ⟨t,h0,h1,hb⟩:=zff.1 h;exact hh3 t h0 (by omega) hb)))]
 rw [zd7];unfold za2
 (try dsimp only);(repeat' first | (with_reducible refine G_to ?_ ?_;focus (first | omega | (unfold fits;omega) | (unfold room;(try simp only [List.length_append,List.length_cons,List.length_nil]);omega))) | (with_reducible refine zaI ?_ ?_) | (with_reducible refine zaT ?_) | (with_reducible refine zaS ?_) | (with_reducible refine zbI (fun _ => ?_) (fun _ => ?_)))<;>try (exfalso;omega)
 all_goals rfl
section
variable {d:Dt}
theorem zte (ho:DOk 3000 badD d) {s:Int×Int×Unit} (hs:PR d d s) {t:Int} (t0:0<=t) (t1:t < d.1):zc1 s t d=some (NX d d s t):=by
 have hra:=ho.tab.rowlen hs.1.1 hs.1.2;have hrb:=ho.tab.rowlen hs.2.1 hs.2.2;have h1:=hs.1;have h2:=hs.2;unfold zc1;exact G_to (by omega) (G_to (by omega) (G_to (by omega) (G_to (by omega) rfl)))
theorem ztf (ho:DOk 3000 badD d) {s:Int×Int×Unit} (hs:PR d d s):zdU s d=some (okM d d s):=by
 have h1:=hs.1;have h2:=hs.2;have m1:=ho.mkl;unfold zdU;exact G_to (by omega) (G_to (by omega) rfl)
end
theorem zqZ {b:Dt} (h1:(b.2.2.1.length:Int)<=1000000) (h2:(b.2.2.2.1.length:Int)<=1000000) (h3:∀ r∈b.2.2.1,(r.length:Int)<=1000000):zg1 b.1 b.2.1 b b.2.2.1 b.2.2.2.1=some (true,b.2.2.1,b.2.2.2.1):=by
 have k14:∀ (i:Int) {r9},0<=i->i < b.2.2.1.length->∀ (n:Nat) (k:Int),((ix b.2.2.1 i).length - k).toNat=n->0<=k->k<=(ix b.2.2.1 i).length->zbE b b.2.2.1 b.2.2.2.1 i r9 k=r9 (i+1):=by
  intro i r9 i0 i1 n;have hr:=h3 _ (zbJ i0 i1)
  induction n with
  | zero=>
   intro k hn k0 k1;rw [zf4];unfold zbb;rw [zat (by omega),zat (by omega),zat (by omega),if_neg (by simp;omega)]
   exact G_to (by unfold fits;omega) rfl
  | succ n ih=>
   intro k hn k0 k1;rw [zf4];unfold zbb;rw [zat (by omega),zat (by omega),zat (by omega),if_pos (by simp;omega),if_neg (by simp)]
   exact G_to (by omega) (G_to (by omega) (G_to (by omega) (G_to (by omega) (G_to (by omega) (G_to (by omega) (G_to (by unfold fits;omega) (ih (k+1) (by omega) (by omega) (by omega))))))))
 have k9:∀ (n:Nat) (i:Int),(b.2.2.1.length - i).toNat=n->0<=i->i<=b.2.2.1.length->zeG b b.2.2.1 b.2.2.2.1 i=some (true,b.2.2.1,b.2.2.2.1):=by
  intro n
  induction n with
  | zero=>
   intro i hn i0 i1;rw [zg4];unfold zbn;rw [if_neg (by simp;omega)]
  | succ n ih=>
   intro i hn i0 i1;rw [zg4];unfold zbn;rw [if_pos (by simp;omega),if_neg (by simp)]
   refine G_to (by omega) (G_to (by omega) (G_to (by omega) (G_to (by omega) ?_)))
   rw [k14 i i0 (by omega) _ 0 rfl (by omega) (by omega)]
   exact ih (i+1) (by omega) (by omega) (by omega)
 have k4:∀ (n:Nat) (i:Int),(b.2.2.2.1.length - i).toNat=n->0<=i->i<=b.2.2.2.1.length->zeF b b.2.2.1 b.2.2.2.1 i=some (true,b.2.2.1,b.2.2.2.1):=by
  intro n
  induction n with
  | zero=>
   intro i hn i0 i1;rw [zg3];unfold zbm;rw [if_neg (by simp;omega)]
   exact k9 _ 0 rfl (by omega) (by omega)
  | succ n ih=>
   intro i hn i0 i1;rw [zg3];unfold zbm;rw [if_pos (by simp;omega),if_neg (by simp)]
   exact G_to (by omega) (G_to (by omega) (G_to (by omega) (G_to (by unfold fits;omega) (ih (i+1) (by omega) (by omega) (by omega)))))
 unfold zg1;rw [if_neg (by simp),if_neg (by simp),if_neg (by simp),if_neg (by simp)]
 exact k4 _ 0 rfl (by omega) (by omega)
theorem zrp {c c1:Int} {l:List (List Int)} {m:List Int} (h:l.length+m.length<=100000000000000):∃ v,zc7 c c1 l m=some (v,l,m):=by
 unfold zc7
 split
 ·split
  ·exact ⟨_,zat (by unfold fits;omega) ..⟩
  ·exact ⟨_,rfl⟩
 ·exact ⟨_,rfl⟩
theorem zp6:zc7 0 0 [] []=some (true,[],[]):=by
 unfold zc7;rw [if_pos (by simp),if_pos (by simp),zat (by unfold fits;simp)]
 rfl
theorem zsE {d:Dt} (h : ¬ detE 3000 badD d=0):ze8 d=some (0,0,[],[],detE 3000 badD d):=by
 unfold ze8;refine zaj (zdg (d:=d)) ?_
 rw [if_pos (by simpa using h)]
theorem zrL {d:Dt} {p q:Int} (h : ¬ detE 3000 badD d=0):zdn d p q=some ([],false,detE 3000 badD d):=by
 unfold zdn;refine zaj (zdg (d:=d)) ?_
 rw [if_pos (by simpa using h)]
theorem law_true (d:Dt) (p q:Int) (sd:Sml (.pair (.int .i64) (.pair (.int .i64) (.pair (.list (.list (.int .i64))) (.pair (.list (.int .i64)) .unit)))) d) (sp:Sml (.int .i64) p) (sq:Sml (.int .i64) q):zgK d p q=some true:=by
 have b1:d.2.2.1.length * 24<=140737488351232:=sd.2.2.1.1;have b2:∀ w∈d.2.2.1,w.length * 8<=140737488351232:=fun w hw=>(sd.2.2.1.2 w hw).1
 have b3:d.2.2.2.1.length * 8<=140737488351232:=sd.2.2.2.1.1;have hdo:ziU d=some d:=by
  unfold ziU;exact zaj (zrl b1 b2) (zaj (zo8 b3) rfl)
 have hS:zj6 d d=some true:=zpg (by omega) (by omega) (fun r hr=>by have:=b2 r hr;omega)
 unfold zgK;refine zaj hdo ?_
 by_cases c:detE 3000 badD d=0
 ·have hd:=zr2 c;have hl:=hd.let1;obtain ⟨o,C,Q,K,h1,h2,h3⟩:=zrj hd;obtain ⟨z1,z2,z3⟩:=h1.sizes hd;have hL:ze8 d=some (o.1,o.2.1,o.2.2.1,o.2.2.2.1,0):=by
   unfold ze8;refine zaj (zdg (d:=d)) ?_
   rw [if_neg (by simpa using c)]
   exact zaj h2 rfl
  obtain ⟨v,hv⟩:=zrp (c:=o.1) (c1:=o.2.1) (l:=o.2.2.1) (m:=o.2.2.2.1) (by omega)
  have hSo:zg1 o.1 o.2.1 o o.2.2.1 o.2.2.2.1=some (true,o.2.2.1,o.2.2.2.1):=zqZ (by omega) (by omega) (fun r hr=>by have:=z3 r hr;omega)
  refine zaj hL ?_
  have chk:ze4 d=some 0:=by rw [zdg,c]
  have rchk:zji d=some 0:=by rw [zjk,c]
  by_cases bad:p < 0\/q < 0\/(d.2.2.1.length:Int)<=p\/(d.2.2.1.length:Int)<=q
  ·have hA:zdn d p q=some ([],false,2):=by
    unfold zdn;refine zaj chk ?_
    rw [if_neg (by simp)]
    by_cases c1:p < 0
    ·rw [if_pos (by simpa using c1)]
    rw [if_neg (by simpa using c1)]
    by_cases c2:q < 0
    ·rw [if_pos (by simpa using c2)]
    rw [if_neg (by simpa using c2)]
    by_cases c3:(d.2.2.1.length:Int)<=p
    ·rw [if_pos (by simpa using c3)]
    rw [if_neg (by simpa using c3),if_pos (by simp;omega)]
   refine zaj hA (zaj hS (zaj rchk (zaj hv ?_)))
   rw [if_neg (by simp),if_neg (by simp)]
   refine zaj h3 (zaj hSo ?_)
   rw [if_neg (by simp),if_neg (by simp)]
   refine zaj (show zdi _ _ _ _=some () from rfl) (zaj hS ?_)
   rw [if_neg (by simp)]
   by_cases c1:p < 0
   ·rw [if_pos (by simpa using c1),if_pos (by simp),if_pos (by simp)];simp
   rw [if_neg (by simpa using c1)]
   by_cases c2:q < 0
   ·rw [if_pos (by simpa using c2),if_pos (by simp),if_pos (by simp)];simp
   rw [if_neg (by simpa using c2)]
   by_cases c3:(d.2.2.1.length:Int)<=p
   ·rw [if_pos (by simpa using c3),if_pos (by simp),if_pos (by simp)];simp
   rw [if_neg (by simpa using c3),if_pos (by simp;omega),if_pos (by simp),if_pos (by simp)];simp
  ·have hs:PR d d (p,q,()):=⟨by show 0<=p/\p < _;omega,by show 0<=q/\q < _;omega⟩
   have hB:=zir hd hd rfl hs;have hN:=zlg hd hd;obtain ⟨n,n1,n2,n3⟩:=zrO hB;obtain ⟨r,r1,r2⟩:=zmP (d:=d) (okb:=okM d d) (g:=d.1) hB hN (by omega) (fun s hs t t0 t1=>zte hd hs t0 t1) (fun s hs=>ztf hd hs) n2 n3
   obtain ⟨r',r1',r2'⟩:=zoj hd hd rfl hs n2 n3;obtain rfl:=r2.one r2';have hrl:r.1.length<=9000000:=by
    rcases r2.tells hB n2 n3 with ⟨w,rfl,w1,_⟩ | ⟨rfl,_⟩
    ·show w.length<=_;omega
    ·show 0<=_;omega
   have hA:zdn d p q=some (r.1,r.2,0):=by
    unfold zdn;refine zaj chk ?_
    rw [if_neg (by simp),if_neg (by simp;omega),if_neg (by simp;omega),if_neg (by simp;omega),if_neg (by simp;omega)]
    exact zaj r1 rfl
   refine zaj hA (zaj hS (zaj rchk (zaj hv ?_)))
   rw [if_neg (by simp),if_neg (by simp)]
   refine zaj h3 (zaj hSo ?_)
   rw [if_neg (by simp),if_neg (by simp)]
   refine zaj (show zdi _ _ _ _=some () from rfl) (zaj hS ?_)
   rw [if_neg (by simp),if_neg (by simp;omega),if_neg (by simp;omega),if_neg (by simp;omega),if_neg (by simp;omega)]
   refine zaj r1' (zaj (zoi (by show r.1.length<=_;omega)) ?_)
   rw [if_pos (by simp),if_pos (by simp)]
   simp
 ·refine zaj (zsE c) (zaj (zrL c) (zaj hS (zaj (zjk (d:=d)) (zaj zp6 ?_))))
  rw [if_neg (by simp),if_pos (by simpa using c),if_pos (by simp),if_pos (by simp),if_pos (by simp),if_pos (by simp)]
  simp
end
end Go.Proofs.Ytjkfhpgglcnggaa.detLeastW
