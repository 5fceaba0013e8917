/- The law 'TreeOther' of the plain functions. -/
import Derived.Test.YtkmeeljlokeboaaTreeOtherD
import Derived.Sort.AssemblyPlain
set_option maxHeartbeats 1000000
set_option maxRecDepth 20000
set_option linter.unusedSimpArgs false
set_option linter.unusedVariables false
set_option linter.unusedSectionVars false
namespace Go.Proofs.Ytkmeeljlokeboaa.treeOtherW
open Go Go.Ab
noncomputable section
theorem zpF {n:Nat} (h:n < 9223372036854775808):IntKind.wrap .i64 (n:Int)=n:=by
 unfold IntKind.wrap;simp [IntKind.bits,IntKind.signed];omega
theorem zkJ (m:Nat):BitVec.ofInt 64 (m:Int)=BitVec.ofNat 64 m:=by
 apply BitVec.eq_of_toNat_eq;simp
theorem zrV {m n:Nat} (hm:m < 9223372036854775808) (hn:n < 9223372036854775808):iand .i64 (m:Int) (n:Int)=((m &&& n:Nat):Int):=by
 unfold iand;have h:(BitVec.ofInt IntKind.i64.bits (m:Int) &&& BitVec.ofInt IntKind.i64.bits (n:Int)).toNat=m &&& n:=by
  show (BitVec.ofInt 64 (m:Int) &&& BitVec.ofInt 64 (n:Int)).toNat=m &&& n;rw [zkJ,zkJ,BitVec.toNat_and,BitVec.toNat_ofNat,BitVec.toNat_ofNat,Nat.mod_eq_of_lt (by omega),Nat.mod_eq_of_lt (by omega)]
 rw [h,zpF (Nat.lt_of_le_of_lt Nat.and_le_left hm)]
theorem zrg {m n:Nat} (hm:m < 9223372036854775808) (hn:n < 9223372036854775808):ior .i64 (m:Int) (n:Int)=((m ||| n:Nat):Int):=by
 unfold ior;have h:(BitVec.ofInt IntKind.i64.bits (m:Int) ||| BitVec.ofInt IntKind.i64.bits (n:Int)).toNat=m ||| n:=by
  show (BitVec.ofInt 64 (m:Int) ||| BitVec.ofInt 64 (n:Int)).toNat=m ||| n
  rw [zkJ,zkJ,BitVec.toNat_or,BitVec.toNat_ofNat,BitVec.toNat_ofNat,Nat.mod_eq_of_lt (by omega),Nat.mod_eq_of_lt (by omega)]
 rw [h,zpF (Nat.or_lt_two_pow (n:=63) hm hn)]
theorem zrZ {m k:Nat} (hk:k < 63) (h:m * 2 ^ k < 9223372036854775808):ishl .i64 (m:Int) (k:Int)=((m <<< k:Nat):Int):=by
 unfold ishl;have e:min ((k:Int).toNat) IntKind.i64.bits=k:=by
  show min ((k:Int).toNat) 64=k;omega
 rw [e,Nat.shiftLeft_eq];have:(m:Int) * 2 ^ k=((m * 2 ^ k:Nat):Int):=by push_cast;rfl
 rw [this,zpF h]
theorem zuH {m k:Nat} (hk:k<=64):ishr .i64 (m:Int) (k:Int)=((m >>> k:Nat):Int):=by
 unfold ishr;have e:min ((k:Int).toNat) IntKind.i64.bits=k:=by
  show min ((k:Int).toNat) 64=k;omega
 rw [e,Nat.shiftRight_eq_div_pow,Int.fdiv_eq_ediv_of_nonneg _ (by exact_mod_cast Nat.zero_le _)]
 push_cast;rfl
theorem zvG {m q:Nat} (hm:m < 4611686018427387904) (hq:q < 62):ior .i64 (m:Int) (ishl .i64 1 (q:Int))=((m ||| 2 ^ q:Nat):Int)/\m ||| 2 ^ q < 4611686018427387904:=by
 have h2:2 ^ q < 4611686018427387904:=Nat.pow_lt_pow_right (a:=2) (n:=62) (by omega) hq
 have h1:ishl .i64 1 (q:Int)=((2 ^ q:Nat):Int):=by
  have:=zrZ (m:=1) (k:=q) (by omega) (by omega)
  rw [Nat.shiftLeft_eq,Nat.one_mul] at this;exact this
 rw [h1,zrg (by omega) (by omega)]
 exact ⟨rfl,Nat.or_lt_two_pow (n:=62) hm h2⟩
def bitP (s q:Int):Prop:=iand .i64 (ishr .i64 s q) 1=1
theorem zmN {N:Nat} (hN:N<=16):2 ^ N<=65536:=by
 have:2 ^ N<=2 ^ 16:=Nat.pow_le_pow_right (by omega) hN
 omega
theorem zeP {m:Nat} (hm:m < 65536) {q:Nat} (hq:q<=16):bitP (m:Int) (q:Int)↔m.testBit q=true:=by
 have hs:m >>> q<=m:=Nat.shiftRight_le m q;unfold bitP;rw [zuH (by omega),show (1:Int)=((1:Nat):Int) from rfl,zrV (by omega) (by omega),Nat.and_one_is_mod,Nat.testBit]
 rw [show (1 &&& m >>> q)=(m >>> q) % 2 by rw [Nat.and_comm,Nat.and_one_is_mod]]
 simp only [bne_iff_ne,ne_eq];omega
def SetN (N:Nat) (s:Int):Prop:=N<=16/\∃ m:Nat,s=m/\m < 2 ^ N
section
variable {N:Nat} {s t:Int}
theorem SetN.b (h:SetN N s):0<=s/\s < ((2 ^ N:Nat):Int):=by
 obtain ⟨hN,m,rfl,hm⟩:=h;omega
theorem SetN.or (hs:SetN N s) {q:Int} (q0:0<=q) (q1:q < N):SetN N (ior .i64 s (ishl .i64 1 q))/\s<=ior .i64 s (ishl .i64 1 q)/\∀ r:Int,0<=r->r < N->(bitP (ior .i64 s (ishl .i64 1 q)) r↔bitP s r\/r=q):=by
 obtain ⟨hN,m,rfl,hm⟩:=hs;have hp:=zmN hN;obtain ⟨k,rfl⟩:∃ k:Nat,q=k:=⟨q.toNat,by omega⟩
 obtain ⟨b1,b2⟩:=zvG (m:=m) (q:=k) (by omega) (by omega)
 have h2:2 ^ k < 2 ^ N:=Nat.pow_lt_pow_right (by omega) (by omega)
 have hlt:m ||| 2 ^ k < 2 ^ N:=Nat.or_lt_two_pow (n:=N) hm h2
 have hle:m<=m ||| 2 ^ k:=Nat.left_le_or
 rw [b1];refine ⟨⟨hN,_,rfl,hlt⟩,by omega,fun r r0 r1 => ?_⟩
 obtain ⟨j,rfl⟩:∃ j:Nat,r=j:=⟨r.toNat,by omega⟩
 rw [zeP (by omega) (by omega),zeP (by omega) (by omega),Nat.testBit_or,Bool.or_eq_true,Nat.testBit_two_pow,decide_eq_true_iff]
 exact or_congr Iff.rfl (by omega)
theorem SetN.union (hs:SetN N s) (ht:SetN N t):SetN N (ior .i64 s t)/\∀ r:Int,0<=r->r < N->(bitP (ior .i64 s t) r↔bitP s r\/bitP t r):=by
 obtain ⟨hN,m,rfl,hm⟩:=hs;obtain ⟨_,k,rfl,hk⟩:=ht;have hp:=zmN hN;have hlt:m ||| k < 2 ^ N:=Nat.or_lt_two_pow (n:=N) hm hk
 rw [zrg (by omega) (by omega)]
 refine ⟨⟨hN,_,rfl,hlt⟩,fun r r0 r1 => ?_⟩
 obtain ⟨j,rfl⟩:∃ j:Nat,r=j:=⟨r.toNat,by omega⟩
 rw [zeP (by omega) (by omega),zeP (by omega) (by omega),zeP (by omega) (by omega),Nat.testBit_or,Bool.or_eq_true]
theorem SetN.zero (hN:N<=16):SetN N 0/\∀ r:Int,0<=r->r < N -> ¬ bitP 0 r:=by
 refine ⟨⟨hN,0,rfl,Nat.pow_pos (by omega)⟩,fun r r0 r1 => ?_⟩
 obtain ⟨j,rfl⟩:∃ j:Nat,r=j:=⟨r.toNat,by omega⟩
 have:=zeP (m:=0) (by omega) (q:=j) (by omega)
 rw [show ((0:Nat):Int)=0 from rfl] at this;rw [this];simp
theorem SetN.ext (hs:SetN N s) (ht:SetN N t) (h:∀ r:Int,0<=r->r < N->(bitP s r↔bitP t r)):s=t:=by
 obtain ⟨hN,m,rfl,hm⟩:=hs;obtain ⟨_,k,rfl,hk⟩:=ht;have hp:=zmN hN;congr 1
 refine Nat.eq_of_testBit_eq fun b => ?_
 by_cases hb:b < N
 ·have:=h b (by omega) (by omega)
  rw [zeP (by omega) (by omega),zeP (by omega) (by omega)] at this
  rw [Bool.eq_iff_iff];exact this
 ·rw [Nat.testBit_lt_two_pow (Nat.lt_of_lt_of_le hm (Nat.pow_le_pow_right (by omega) (by omega))),Nat.testBit_lt_two_pow (Nat.lt_of_lt_of_le hk (Nat.pow_le_pow_right (by omega) (by omega)))]
theorem SetN.meet (hs:SetN N s) (ht:SetN N t):(¬ iand .i64 s t=0↔∃ r:Int,0<=r/\r < N/\bitP s r/\bitP t r):=by
 obtain ⟨hN,m,rfl,hm⟩:=hs;obtain ⟨_,k,rfl,hk⟩:=ht;have hp:=zmN hN;rw [zrV (by omega) (by omega)]
 constructor
 ·intro h;have hne:m &&& k≠0:=by omega
  obtain ⟨j,hj⟩:=Nat.exists_testBit_of_ne_zero hne;have hle:m &&& k<=m:=Nat.and_le_left;have hj8:j < N:=by
   refine Nat.lt_of_not_le fun h8 => ?_
   have:m &&& k < 2 ^ j:=Nat.lt_of_lt_of_le (by omega:m &&& k < 2 ^ N) (Nat.pow_le_pow_right (by omega) h8)
   rw [Nat.testBit_lt_two_pow this] at hj;cases hj
  rw [Nat.testBit_and,Bool.and_eq_true] at hj;exact ⟨j,by omega,by omega,(zeP (by omega) (by omega)).2 hj.1,(zeP (by omega) (by omega)).2 hj.2⟩
 ·rintro ⟨r,r0,r1,h1,h2⟩ h;obtain ⟨j,rfl⟩:∃ j:Nat,r=j:=⟨r.toNat,by omega⟩
  have hz:m &&& k=0:=by omega
  have:(m &&& k).testBit j=true:=by rw [Nat.testBit_and,(zeP (by omega) (by omega)).1 h1,(zeP (by omega) (by omega)).1 h2];rfl
  rw [hz] at this;simp at this
end
open Classical in
def zpz (p:Int->Prop):Nat->Int
 | 0=>0
 | k+1=>if p (k:Int) then ior .i64 (zpz p k) (ishl .i64 1 (k:Int)) else zpz p k
open Classical in
theorem zwr (p:Int->Prop) (k:Nat):zpz p (k+1)=if p (k:Int) then ior .i64 (zpz p k) (ishl .i64 1 (k:Int)) else zpz p k:=rfl
theorem zsc {N:Nat} (hN:N<=16) (p:Int->Prop):∀ k:Nat,k<=N->SetN N (zpz p k)/\∀ r:Int,0<=r->r < N->(bitP (zpz p k) r↔r < k/\p r)
 | 0,_=>⟨(SetN.zero hN).1,fun r r0 r1=>⟨fun h=>absurd h ((SetN.zero hN).2 r r0 r1),fun h=>by omega⟩⟩
 | k+1,hk=>by
  obtain ⟨h1,h2⟩:=zsc hN p k (by omega)
  unfold zpz;by_cases c:p (k:Int)
  ·rw [if_pos c];obtain ⟨h3,_,h4⟩:=h1.or (q:=(k:Int)) (by omega) (by omega)
   refine ⟨h3,fun r r0 r1 => ?_⟩
   rw [h4 r r0 r1,h2 r r0 r1];constructor
   ·rintro (⟨g1,g2⟩ | rfl)
    ·exact ⟨by omega,g2⟩
    ·exact ⟨by omega,c⟩
   ·rintro ⟨g1,g2⟩;by_cases e:r=k
    ·exact .inr e
    ·exact .inl ⟨by omega,g2⟩
  ·rw [if_neg c];refine ⟨h1,fun r r0 r1 => ?_⟩
   rw [h2 r r0 r1];constructor
   ·rintro ⟨g1,g2⟩;exact ⟨by omega,g2⟩
   ·rintro ⟨g1,g2⟩;by_cases e:r=k
    ·subst e;exact absurd g2 c
    ·exact ⟨by omega,g2⟩
theorem SetN.one {N:Nat} (hN:N<=16) {q:Int} (q0:0<=q) (q1:q < N):SetN N (ishl .i64 1 q)/\∀ r:Int,0<=r->r < N->(bitP (ishl .i64 1 q) r↔r=q):=by
 obtain ⟨h1,_,h3⟩:=(SetN.zero hN).1.or q0 q1;have e:ior .i64 0 (ishl .i64 1 q)=ishl .i64 1 q:=by
  obtain ⟨k,rfl⟩:∃ k:Nat,q=k:=⟨q.toNat,by omega⟩
  have hp:2 ^ k<=2 ^ 16:=Nat.pow_le_pow_right (by omega) (by omega)
  have h1:ishl .i64 1 (k:Int)=((2 ^ k:Nat):Int):=by
   have:=zrZ (m:=1) (k:=k) (by omega) (by omega)
   rw [Nat.shiftLeft_eq,Nat.one_mul] at this;exact this
  rw [h1,show (0:Int)=((0:Nat):Int) from rfl,zrg (by omega) (by omega),Nat.zero_or]
 rw [e] at h1 h3;refine ⟨h1,fun r r0 r1=>(h3 r r0 r1).trans ⟨fun h=>h.elim (fun z=>absurd z ((SetN.zero hN).2 r r0 r1)) id,.inr⟩⟩
def zei (o:Option Bool) (P:Prop):Prop:=∃ b,o=some b/\(b=true↔P)
theorem zei.of {b:Bool} {P:Prop} (h:b=true↔P):zei (some b) P:=⟨b,rfl,h⟩
theorem zei.dec {P Q:Prop} [Decidable P] (h:P↔Q):zei (some (decide P)) Q:=⟨_,rfl,by simpa using h⟩
theorem zei.iff {o:Option Bool} {P Q:Prop} (h:zei o P) (k:P↔Q):zei o Q:=let ⟨b,h1,h2⟩:=h;⟨b,h1,h2.trans k⟩
theorem zei.eq {o:Option Bool} {P:Prop} [Decidable P] (h:zei o P):o=some (decide P):=by
 obtain ⟨b,rfl,hb⟩:=h;by_cases hp:P
 ·simp [hp,hb.2 hp]
 ·have:b=false:=by cases b;rfl;exact absurd (hb.1 rfl) hp
  simp [hp,this]
theorem zei.to {R:Type} {o:Option Bool} {P:Prop} {k1 k2 x:Option R} (h:zei o P) (h1:P->k1=x) (h2 : ¬ P->k2=x):(o.bind fun y=>if y=true then k1 else k2)=x:=by
 obtain ⟨b,rfl,hb⟩:=h;refine zbs rfl ?_
 cases b
 ·exact h2 fun hp=>by simpa using hb.2 hp
 ·exact h1 (hb.1 rfl)
theorem zei.bind {R:Type} {o:Option Bool} {P:Prop} {k:Bool->Option R} {x:Option R} (h:zei o P) (h1:∀ b,(b=true↔P)->k b=x):o.bind k=x:=by
 obtain ⟨b,rfl,hb⟩:=h;exact h1 b hb
section
variable {α C:Type} [Inhabited α]
theorem zmr {l:List α} {P:α->Prop}:(∃ x∈l,P x)↔∃ i:Int,0<=i/\i < l.length/\P (ix l i):=by
 constructor
 ·rintro ⟨x,hx,hp⟩;obtain ⟨i,hi,rfl⟩:=List.mem_iff_getElem.1 hx;refine ⟨i,by omega,by omega,?_⟩
  rwa [zsz (by omega) (by omega)]
 ·rintro ⟨i,h0,h1,hp⟩;exact ⟨_,znl h0 h1,hp⟩
theorem zsx {s:List α} {f:α->Option Bool} {L:Int->Option Int} {P:α->Prop} (hs:s.length<=4611686018427387904)
  (hL:∀ t,L t=if decide (t < (s.length:Int))=true then G (0<=t/\t < (s.length:Int)) ((f (ix s t)).bind fun y=>if y=true then some t else G (fits (t+1)) (L (t+1))) else some (-1))
  (hf:∀ x∈s,zei (f x) (P x)):∀ (n:Nat) (t:Int),0<=t->t<=s.length->(s.length - t).toNat=n->
   ∃ i,L t=some i/\((i = -1/\∀ j:Int,t<=j->j < s.length -> ¬ P (ix s j))\/(t<=i/\i < s.length/\P (ix s i)/\∀ j:Int,t<=j->j < i -> ¬ P (ix s j))):=by
 intro n
 induction n with
 | zero=>
  intro t h0 h1 hn;refine ⟨-1,?_,.inl ⟨rfl,fun j a b=>by omega⟩⟩
  rw [hL,if_neg (by simp;omega)]
 | succ n ih=>
  intro t h0 h1 hn;rw [hL,if_pos (by simp;omega),zah (by omega)]
  obtain ⟨b,hb,hbp⟩:=hf _ (znl h0 (by omega:t < s.length))
  rw [hb]
  cases b with
  | true=>exact ⟨t,rfl,.inr ⟨by omega,by omega,hbp.1 rfl,fun j a b=>by omega⟩⟩
  | false=>
   have hnp : ¬ P (ix s t):=fun hp=>by simpa using hbp.2 hp
   obtain ⟨i,hi,hc⟩:=ih (t+1) (by omega) (by omega) (by omega)
   refine ⟨i,?_,?_⟩
   ·refine (if_neg (by simp):(if false=true then some t else G (fits (t+1)) (L (t+1)))=_).trans ?_
    rw [zah (by unfold fits;omega),hi]
   ·rcases hc with ⟨h2,h3⟩ | ⟨h2,h3,h4,h5⟩
    ·refine .inl ⟨h2,fun j a b => ?_⟩
     by_cases e:j=t
     ·rw [e];exact hnp
     ·exact h3 j (by omega) b
    ·refine .inr ⟨by omega,h3,h4,fun j a b => ?_⟩
     by_cases e:j=t
     ·rw [e];exact hnp
     ·exact h5 j (by omega) b
theorem znZ {s:List α} {f:α->Option Bool} {L:Int->Option Int} {P:α->Prop}
  (hL:∀ t,L t=if decide (t < (s.length:Int))=true then G (0<=t/\t < (s.length:Int)) ((f (ix s t)).bind fun y=>if y=true then some t else G (fits (t+1)) (L (t+1))) else some (-1))
  (hs:s.length<=4611686018427387904) (hf:∀ x∈s,zei (f x) (P x)):zei ((L 0).bind fun y=>some (decide ((0:Int)<=y))) (∃ x∈s,P x):=by
 obtain ⟨i,hi,hc⟩:=zsx hs hL hf _ 0 (by omega) (by omega) rfl
 rw [hi];refine ⟨decide (0<=i),rfl,?_⟩
 rw [decide_eq_true_iff,zmr];rcases hc with ⟨h2,h3⟩ | ⟨h2,h3,h4,h5⟩
 ·constructor
  ·intro h;omega
  ·rintro ⟨j,h0,h1,hp⟩;exact absurd hp (h3 j h0 h1)
 ·exact ⟨fun _=>⟨i,by omega,h3,h4⟩,fun _=>by omega⟩
theorem zta {s:List α} {c:C} {f:α->C->Option (Bool×C)} {L:Int->C->Option (Int×C)} {P:α->Prop}
  (hL:∀ t c,L t c=if decide (t < (s.length:Int))=true then G (0<=t/\t < (s.length:Int)) ((f (ix s t) c).bind fun y=>if y.1=true then some (t,y.2) else G (fits (t+1)) (L (t+1) y.2)) else some (-1,c))
  (hs:s.length<=4611686018427387904) (hf:∀ x∈s,∃ b,f x c=some (b,c)/\(b=true↔P x)):∃ b,((L 0 c).bind fun y=>some (decide ((0:Int)<=y.1),y.2))=some (b,c)/\(b=true↔∃ x∈s,P x):=by
 have key:∀ (n:Nat) (t:Int),0<=t->t<=s.length->(s.length - t).toNat=n->
   ∃ i,L t c=some (i,c)/\((i = -1/\∀ j:Int,t<=j->j < s.length -> ¬ P (ix s j))\/(t<=i/\i < s.length/\P (ix s i))):=by
  intro n
  induction n with
  | zero=>
   intro t h0 h1 hn;refine ⟨-1,?_,.inl ⟨rfl,fun j a b=>by omega⟩⟩
   rw [hL,if_neg (by simp;omega)]
  | succ n ih=>
   intro t h0 h1 hn;rw [hL,if_pos (by simp;omega),zah (by omega)]
   obtain ⟨b,hb,hbp⟩:=hf _ (znl h0 (by omega:t < s.length))
   rw [hb]
   cases b with
   | true=>exact ⟨t,rfl,.inr ⟨by omega,by omega,hbp.1 rfl⟩⟩
   | false=>
    have hnp : ¬ P (ix s t):=fun hp=>by simpa using hbp.2 hp
    obtain ⟨i,hi,hc⟩:=ih (t+1) (by omega) (by omega) (by omega)
    refine ⟨i,?_,?_⟩
    ·refine (if_neg (by simp):(if false=true then some (t,c) else G (fits (t+1)) (L (t+1) c))=_).trans ?_
     rw [zah (by unfold fits;omega),hi]
    ·rcases hc with ⟨h2,h3⟩ | ⟨h2,h3,h4⟩
     ·refine .inl ⟨h2,fun j a b => ?_⟩
      by_cases e:j=t
      ·rw [e];exact hnp
      ·exact h3 j (by omega) b
     ·exact .inr ⟨by omega,h3,h4⟩
 obtain ⟨i,hi,hc⟩:=key _ 0 (by omega) (by omega) rfl
 rw [hi];refine ⟨decide (0<=i),rfl,?_⟩
 rw [decide_eq_true_iff,zmr];rcases hc with ⟨h2,h3⟩ | ⟨h2,h3,h4⟩
 ·constructor
  ·intro h;omega
  ·rintro ⟨j,h0,h1,hp⟩;exact absurd hp (h3 j h0 h1)
 ·exact ⟨fun _=>⟨i,by omega,h3,h4⟩,fun _=>by omega⟩
end
theorem zlD {R:Type} {len:Int} {L:Int->Option R} {bad:Int->Prop} {x:Option R} {lo:Int} (h0:lo<=len)
  (hs:∀ t,lo<=t->t < len->(bad t->L t=x)/\(¬ bad t->L t=L (t+1))) (hf:(∀ t,lo<=t->t < len -> ¬ bad t)->L len=x):L lo=x:=by
 have key:∀ (n:Nat) (t:Int),lo<=t->t<=len->(len - t).toNat=n->(∀ j,lo<=j->j < t -> ¬ bad j)->L t=x:=by
  intro n
  induction n with
  | zero=>
   intro t h1 h2 hn h;obtain rfl:t=len:=by omega
   exact hf h
  | succ n ih=>
   intro t h1 h2 hn h;by_cases hb:bad t
   ·exact (hs t h1 (by omega)).1 hb
   ·rw [(hs t h1 (by omega)).2 hb]
    refine ih (t+1) (by omega) (by omega) (by omega) fun j a b => ?_
    by_cases e:j=t
    ·rw [e];exact hb
    ·exact h j a (by omega)
 exact key _ lo (Int.le_refl _) h0 rfl (fun j a b=>by omega)
theorem fold_to {R S:Type} {len:Int} {L:Int->S->Option R} {f:Int->S->S} {lo:Int} {I:Int->S->Prop} {s:S} (h0:lo<=len) (hI:I lo s)
  (hs:∀ t s,lo<=t->t < len->I t s->L t s=L (t+1) (f t s)/\I (t+1) (f t s)):∃ s',I len s'/\L lo s=L len s':=by
 have key:∀ (n:Nat) (t:Int) (s:S),lo<=t->t<=len->(len - t).toNat=n->I t s->∃ s',I len s'/\L t s=L len s':=by
  intro n
  induction n with
  | zero=>
   intro t s h1 h2 hn h;obtain rfl:t=len:=by omega
   exact ⟨s,h,rfl⟩
  | succ n ih=>
   intro t s h1 h2 hn h;obtain ⟨e,h3⟩:=hs t s h1 (by omega) h
   obtain ⟨s',h4,h5⟩:=ih (t+1) _ (by omega) (by omega) (by omega) h3
   exact ⟨s',h4,e.trans h5⟩
 exact key _ lo s (Int.le_refl _) h0 rfl hI
abbrev Rl:=Int×Int×Int×Int×Unit
abbrev TA:=Int×Int×(List Rl)×Int×(List Int)×Unit
abbrev Nd:=Int×Int×Int×Unit
def RLt (x y:Rl):Prop:=x.1 < y.1\/x.1=y.1/\(x.2.1 < y.2.1\/x.2.1=y.2.1/\(x.2.2.1 < y.2.2.1\/x.2.2.1=y.2.2.1/\x.2.2.2.1 < y.2.2.2.1))
def TLet (t:TA):Prop:=t.1 < 1\/4 < t.1
def zmq (t:TA):Prop:=t.2.1 < 1\/300 < t.2.1\/40000 < t.2.2.1.length \/ ¬ (t.2.2.2.2.1.length:Int)=t.2.1
def RBad (t:TA) (r:Rl):Prop:=r.1 < 0\/t.1<=r.1\/r.2.2.2.1 < 0\/t.2.1<=r.2.2.2.1\/(¬ (r.2.1 = -1/\r.2.2.1 = -1)/\(r.2.1 < 0\/t.2.1<=r.2.1\/r.2.2.1 < 0\/t.2.1<=r.2.2.1))
def TRul (t:TA):Prop:=∃ x∈t.2.2.1,RBad t x
def TMrk (t:TA):Prop:=∃ x∈t.2.2.2.2.1,¬ x=0 /\ ¬ x=1
def TOrd (t:TA):Prop:=∃ i:Int,1<=i/\i < t.2.2.1.length /\ ¬ RLt (ix t.2.2.1 (i - 1)) (ix t.2.2.1 i)
def TEnd (t:TA):Prop:=TOrd t\/t.2.2.2.1≠0
open Classical in
def taE (t:TA):Int:=if TLet t then 2 else if zmq t then 1 else if TRul t then 2 else if TMrk t then 2 else if TEnd t then 3 else 0
theorem chk1 (p:Int) (t:TA):zei (zff p t) (p < 0\/t.2.1<=p):=by
 unfold zff;by_cases h:p < 0
 ·rw [if_pos (decide_eq_true h)];exact zei.of (by simp [h])
 ·rw [if_neg (by simpa using h)];exact zei.dec (by omega)
theorem chk2 (m:Int):zei (zgg m) (¬ m=0 /\ ¬ m=1):=by
 unfold zgg;by_cases h:m=0
 ·rw [if_neg (by simp [h])];exact zei.of (by simp [h])
 ·rw [if_pos (by simp [h])];exact zei.dec (by simp [h])
theorem zmE (x y:Int):zeW x y=some (if x < y then -1 else if y < x then 1 else 0):=by
 unfold zeW zkh;simp only [Option.bind_some,not_true,decide_false,Bool.false_eq_true,if_false,decide_eq_true_eq];by_cases h:x < y
 ·simp [h]
 ·by_cases h2:y < x<;>simp [h,h2]
theorem zvR (a b c d:Int):zrJ [a,b,c,d]=some (if a≠0 then a else if b≠0 then b else if c≠0 then c else d):=by
 unfold zrJ;rw [zf4];unfold zde;have e0:ix [a,b,c,d] 0=a:=rfl;have e1:ix [a,b,c,d] (0+1)=b:=rfl;have e2:ix [a,b,c,d] (0+1+1)=c:=rfl;have e3:ix [a,b,c,d] (0+1+1+1)=d:=rfl;rw [if_pos (by simp),zah (by simp),e0]
 by_cases h:a=0
 ·rw [if_neg (by simp [h]),zah (by decide),zf4];unfold zde
  rw [if_pos (by simp),zah (by simp),e1]
  by_cases h2:b=0
  ·rw [if_neg (by simp [h2]),zah (by decide),zf4];unfold zde
   rw [if_pos (by simp),zah (by simp),e2]
   by_cases h3:c=0
   ·rw [if_neg (by simp [h3]),zah (by decide),zf4];unfold zde
    rw [if_pos (by simp),zah (by simp),e3]
    by_cases h4:d=0
    ·rw [if_neg (by simp [h4]),zah (by decide),zf4];unfold zde
     rw [if_neg (by simp)]
     simp [h,h2,h3,h4]
    ·rw [if_pos (by simp [h4])];simp [h,h2,h3]
   ·rw [if_pos (by simp [h3])];simp [h,h2,h3]
  ·rw [if_pos (by simp [h2])];simp [h,h2]
 ·rw [if_pos (by simp [h])];simp [h]
theorem zhP (x y:Rl):∃ o,zbu x y=some o/\(0<=o ↔ ¬ RLt x y):=by
 unfold zbu RLt;rw [zmE,zmE,zmE,zmE];simp only [Option.bind_some];rw [zvR];refine ⟨_,rfl,?_⟩
 repeat' split
 all_goals omega
theorem zmS (x y:Rl):zei (zkQ x y) (RLt x y):=by
 unfold zkQ RLt;by_cases h:x.1=y.1
 ·rw [if_neg (by simp [h])]
  by_cases h2:x.2.1=y.2.1
  ·rw [if_neg (by simp [h2])]
   by_cases h3:x.2.2.1=y.2.2.1
   ·rw [if_neg (by simp [h3])];exact zei.dec (by omega)
   ·rw [if_pos (by simp [h3])];exact zei.dec (by omega)
  ·rw [if_pos (by simp [h2])];exact zei.dec (by omega)
 ·rw [if_pos (by simp [h])];exact zei.dec (by omega)
section
variable {t:TA}
theorem zu6 {t1:Int} {r7:Int->Option Int} {leaf:Bool} (hl:leaf=true↔((ix t.2.2.1 t1).2.1 = -1/\(ix t.2.2.1 t1).2.2.1 = -1)) (hb:RBad t (ix t.2.2.1 t1)):zcE t t1 r7 leaf=some 2:=by
 unfold zcE;unfold RBad at hb;generalize ix t.2.2.1 t1=r at *
 (try dsimp only);(repeat' first | (with_reducible refine G_to ?_ ?_;focus (first | omega | (unfold fits;omega) | (unfold room;(try simp only [List.length_append,List.length_cons,List.length_nil]);omega))) | (with_reducible refine zbC ?_ ?_) | (with_reducible refine zbY ?_) | (with_reducible refine zbX ?_) | (with_reducible refine zdj (fun _ => ?_) (fun _ => ?_)))<;>try (exfalso;omega)
 all_goals first | rfl | skip
 refine zei.to (chk1 _ _) (fun _=>rfl) (fun h1 => ?_)
 simp only at h1
 cases leaf with
 | false=>
  rw [if_pos (by decide)]
  refine zei.to (chk1 _ _) (fun _=>rfl) (fun h2 => ?_)
  refine zei.to (chk1 _ _) (fun _=>rfl) (fun h3 => ?_)
  exfalso;simp only at h2 h3;omega
 | true=>
  exfalso;have:=hl.1 rfl;omega
theorem zsX {t1:Int} {r7:Int->Option Int} {leaf:Bool} (hl:leaf=true↔((ix t.2.2.1 t1).2.1 = -1/\(ix t.2.2.1 t1).2.2.1 = -1)) (hb : ¬ RBad t (ix t.2.2.1 t1)) (hf:fits (t1+1)):zcE t t1 r7 leaf=r7 (t1+1):=by
 unfold zcE;unfold RBad at hb;generalize ix t.2.2.1 t1=r at *
 (try dsimp only);(repeat' first | (with_reducible refine G_to ?_ ?_;focus (first | omega | (unfold fits;omega) | (unfold room;(try simp only [List.length_append,List.length_cons,List.length_nil]);omega))) | (with_reducible refine zbC ?_ ?_) | (with_reducible refine zbY ?_) | (with_reducible refine zbX ?_) | (with_reducible refine zdj (fun _ => ?_) (fun _ => ?_)))<;>try (exfalso;omega)
 refine zei.to (chk1 _ _) (fun h => ?_) (fun h1 => ?_)
 ·exfalso;simp only at h;omega
 cases leaf with
 | false=>
  rw [if_pos (by decide)]
  have hnl : ¬ (r.2.1 = -1/\r.2.2.1 = -1):=fun h=>by cases hl.2 h
  refine zei.to (chk1 _ _) (fun h => ?_) (fun h2 => ?_)
  ·exfalso;simp only at h;omega
  refine zei.to (chk1 _ _) (fun h => ?_) (fun h3 => ?_)
  ·exfalso;simp only at h;omega
  rw [zah hf]
 | true=>
  rw [if_neg (by decide),zah hf]
theorem zfF:zjy t=some (taE t):=by
 unfold zjy taE;by_cases c1:TLet t
 ·rw [if_pos c1];unfold TLet at c1
  (try dsimp only);(repeat' first | (with_reducible refine G_to ?_ ?_;focus (first | omega | (unfold fits;omega) | (unfold room;(try simp only [List.length_append,List.length_cons,List.length_nil]);omega))) | (with_reducible refine zbC ?_ ?_) | (with_reducible refine zbY ?_) | (with_reducible refine zbX ?_) | (with_reducible refine zdj (fun _ => ?_) (fun _ => ?_)))<;>try (exfalso;omega)
  all_goals rfl
 rw [if_neg c1];unfold TLet at c1;by_cases c2:zmq t
 ·rw [if_pos c2];unfold zmq at c2
  (try dsimp only);(repeat' first | (with_reducible refine G_to ?_ ?_;focus (first | omega | (unfold fits;omega) | (unfold room;(try simp only [List.length_append,List.length_cons,List.length_nil]);omega))) | (with_reducible refine zbC ?_ ?_) | (with_reducible refine zbY ?_) | (with_reducible refine zbX ?_) | (with_reducible refine zdj (fun _ => ?_) (fun _ => ?_)))<;>try (exfalso;omega)
  all_goals rfl
 rw [if_neg c2];unfold zmq at c2
 (try dsimp only);(repeat' first | (with_reducible refine G_to ?_ ?_;focus (first | omega | (unfold fits;omega) | (unfold room;(try simp only [List.length_append,List.length_cons,List.length_nil]);omega))) | (with_reducible refine zbC ?_ ?_) | (with_reducible refine zbY ?_) | (with_reducible refine zbX ?_) | (with_reducible refine zdj (fun _ => ?_) (fun _ => ?_)))<;>try (exfalso;omega)
 refine zlD (len:=(t.2.2.1.length:Int)) (bad:=fun i=>RBad t (ix t.2.2.1 i)) (by omega) (fun i h0 h1=>⟨fun hb => ?_,fun hb => ?_⟩) (fun hh => ?_)
 ·rw [if_pos (show TRul t from zmr.2 ⟨i,h0,h1,hb⟩)];rw [zgu];unfold zcq
  (try dsimp only);(repeat' first | (with_reducible refine G_to ?_ ?_;focus (first | omega | (unfold fits;omega) | (unfold room;(try simp only [List.length_append,List.length_cons,List.length_nil]);omega))) | (with_reducible refine zbC ?_ ?_) | (with_reducible refine zbY ?_) | (with_reducible refine zbX ?_) | (with_reducible refine zdj (fun _ => ?_) (fun _ => ?_)))<;>try (exfalso;omega)
  ·rename_i h;exact zu6 (by simp [h]) hb
  ·rename_i h;exact zu6 (by simp [h]) hb
 ·conv=>lhs;rw [zgu];unfold zcq
  (try dsimp only);(repeat' first | (with_reducible refine G_to ?_ ?_;focus (first | omega | (unfold fits;omega) | (unfold room;(try simp only [List.length_append,List.length_cons,List.length_nil]);omega))) | (with_reducible refine zbC ?_ ?_) | (with_reducible refine zbY ?_) | (with_reducible refine zbX ?_) | (with_reducible refine zdj (fun _ => ?_) (fun _ => ?_)))<;>try (exfalso;omega)
  ·rename_i h;exact zsX (by simp [h]) hb (by unfold fits;omega)
  ·rename_i h;exact zsX (by simp [h]) hb (by unfold fits;omega)
 rw [if_neg (show ¬ TRul t from fun h=>by obtain ⟨i,i0,i1,i2⟩:=zmr.1 h;exact hh i i0 i1 i2)]
 rw [zgu];unfold zcq;rw [if_neg (by simp)]
 have hc:zei (zeY t.2.2.2.2.1) (TMrk t):=znZ (f:=zgg) (ziJ t.2.2.2.2.1) (by omega) (fun x _=>chk2 x)
 refine zei.to hc (fun h=>by rw [if_pos h]) (fun c4 => ?_)
 rw [if_neg c4];refine zlD (len:=(t.2.2.1.length:Int)) (bad:=fun i=>1<=i /\ ¬ RLt (ix t.2.2.1 (i - 1)) (ix t.2.2.1 i)) (by omega) (fun i h0 h1=>⟨fun hb => ?_,fun hb => ?_⟩) (fun hh => ?_)
 ·rw [if_pos (show TEnd t from .inl ⟨i,hb.1,h1,hb.2⟩)];rw [zfZ];unfold zbW
  (try dsimp only);(repeat' first | (with_reducible refine G_to ?_ ?_;focus (first | omega | (unfold fits;omega) | (unfold room;(try simp only [List.length_append,List.length_cons,List.length_nil]);omega))) | (with_reducible refine zbC ?_ ?_) | (with_reducible refine zbY ?_) | (with_reducible refine zbX ?_) | (with_reducible refine zdj (fun _ => ?_) (fun _ => ?_)))<;>try (exfalso;omega)
  obtain ⟨o,e,ho⟩:=zhP (ix t.2.2.1 (i - 1)) (ix t.2.2.1 i);refine zbs e ?_
  rw [if_pos (decide_eq_true (ho.2 hb.2))]
 ·conv=>lhs;rw [zfZ];unfold zbW
  by_cases h:0 < i
  ·(try dsimp only);(repeat' first | (with_reducible refine G_to ?_ ?_;focus (first | omega | (unfold fits;omega) | (unfold room;(try simp only [List.length_append,List.length_cons,List.length_nil]);omega))) | (with_reducible refine zbC ?_ ?_) | (with_reducible refine zbY ?_) | (with_reducible refine zbX ?_) | (with_reducible refine zdj (fun _ => ?_) (fun _ => ?_)))<;>try (exfalso;omega)
   obtain ⟨o,e,ho⟩:=zhP (ix t.2.2.1 (i - 1)) (ix t.2.2.1 i);refine zbs e ?_
   rw [if_neg (by rw [decide_eq_true_iff,ho];exact fun h=>hb ⟨by omega,h⟩),zah (by unfold fits;omega)]
  ·(try dsimp only);(repeat' first | (with_reducible refine G_to ?_ ?_;focus (first | omega | (unfold fits;omega) | (unfold room;(try simp only [List.length_append,List.length_cons,List.length_nil]);omega))) | (with_reducible refine zbC ?_ ?_) | (with_reducible refine zbY ?_) | (with_reducible refine zbX ?_) | (with_reducible refine zdj (fun _ => ?_) (fun _ => ?_)))<;>try (exfalso;omega)
   all_goals rfl
 ·have c5 : ¬ TOrd t:=fun ⟨i,i0,i1,i2⟩=>hh i (by omega) i1 ⟨i0,i2⟩
  rw [zfZ];unfold zbW;rw [if_neg (by simp)]
  by_cases c6:t.2.2.2.1=0
  ·rw [if_neg (by simp [c6]),if_neg (show ¬ TEnd t by unfold TEnd;simp [c5,c6])]
  ·rw [if_pos (by simp [c6]),if_pos (show TEnd t from .inr c6)]
theorem zvT {i:Int} {r6:Int->Option Int} {leaf both:Bool} (hl:leaf=true↔((ix t.2.2.1 i).2.1 = -1/\(ix t.2.2.1 i).2.2.1 = -1))
  (hb:both=true↔(0<=(ix t.2.2.1 i).2.1/\(ix t.2.2.1 i).2.1 < t.2.1/\0<=(ix t.2.2.1 i).2.2.1/\(ix t.2.2.1 i).2.2.1 < t.2.1)) (hf:fits (i+1)):
  (RBad t (ix t.2.2.1 i)->zbL t i r6 leaf both=some 2)/\(¬ RBad t (ix t.2.2.1 i)->zbL t i r6 leaf both=r6 (i+1)):=by
 unfold zbL RBad;generalize ix t.2.2.1 i=r at *
 constructor<;>intro h
 ·(try dsimp only);(repeat' first | (with_reducible refine G_to ?_ ?_;focus (first | omega | (unfold fits;omega) | (unfold room;(try simp only [List.length_append,List.length_cons,List.length_nil]);omega))) | (with_reducible refine zbC ?_ ?_) | (with_reducible refine zbY ?_) | (with_reducible refine zbX ?_) | (with_reducible refine zdj (fun _ => ?_) (fun _ => ?_)))<;>try (exfalso;omega)
  all_goals first | rfl | skip
  cases leaf with
  | true=>exfalso;have:=hl.1 rfl;omega
  | false=>
   rw [if_pos (by decide)]
   cases both with
   | false=>rfl
   | true=>exfalso;have:=hb.1 rfl;omega
 ·(try dsimp only);(repeat' first | (with_reducible refine G_to ?_ ?_;focus (first | omega | (unfold fits;omega) | (unfold room;(try simp only [List.length_append,List.length_cons,List.length_nil]);omega))) | (with_reducible refine zbC ?_ ?_) | (with_reducible refine zbY ?_) | (with_reducible refine zbX ?_) | (with_reducible refine zdj (fun _ => ?_) (fun _ => ?_)))<;>try (exfalso;omega)
  cases leaf with
  | true=>rw [if_neg (by decide),zah hf]
  | false=>
   have : ¬ (r.2.1 = -1/\r.2.2.1 = -1):=fun h=>by cases hl.2 h
   have:both=true:=hb.2 (by omega)
   subst this;rw [if_pos (by decide),if_neg (by decide),zah hf]
theorem zr8 {i:Int} {r6:Int->Option Int} {leaf:Bool} (hl:leaf=true↔((ix t.2.2.1 i).2.1 = -1/\(ix t.2.2.1 i).2.2.1 = -1)) (hf:fits (i+1)):
  (RBad t (ix t.2.2.1 i)->zc2 t i r6 leaf=some 2)/\(¬ RBad t (ix t.2.2.1 i)->zc2 t i r6 leaf=r6 (i+1)):=by
 have key:∃ both,zc2 t i r6 leaf=zbL t i r6 leaf both/\(both=true↔(0<=(ix t.2.2.1 i).2.1/\(ix t.2.2.1 i).2.1 < t.2.1/\0<=(ix t.2.2.1 i).2.2.1/\(ix t.2.2.1 i).2.2.1 < t.2.1)):=by
  unfold zc2;by_cases h1:0<=(ix t.2.2.1 i).2.1
  ·rw [if_pos (decide_eq_true h1)];by_cases h2:(ix t.2.2.1 i).2.1 < t.2.1
   ·rw [if_pos (decide_eq_true h2)];by_cases h3:0<=(ix t.2.2.1 i).2.2.1
    ·rw [if_pos (decide_eq_true h3)];exact ⟨_,rfl,by simp [h1,h2,h3]⟩
    ·rw [if_neg (by simpa using h3)];exact ⟨false,rfl,by simp;omega⟩
   ·rw [if_neg (by simpa using h2)];exact ⟨false,rfl,by simp;omega⟩
  ·rw [if_neg (by simpa using h1)];exact ⟨false,rfl,by simp;omega⟩
 obtain ⟨both,e,hb⟩:=key;rw [e];exact zvT hl hb hf
theorem zeG:ziZ t=some (taE t):=by
 unfold ziZ taE;by_cases c1:TLet t
 ·rw [if_pos c1];unfold TLet at c1
  (try dsimp only);(repeat' first | (with_reducible refine G_to ?_ ?_;focus (first | omega | (unfold fits;omega) | (unfold room;(try simp only [List.length_append,List.length_cons,List.length_nil]);omega))) | (with_reducible refine zbC ?_ ?_) | (with_reducible refine zbY ?_) | (with_reducible refine zbX ?_) | (with_reducible refine zdj (fun _ => ?_) (fun _ => ?_)))<;>try (exfalso;omega)
  all_goals rfl
 rw [if_neg c1];unfold TLet at c1;by_cases c2:zmq t
 ·rw [if_pos c2];unfold zmq at c2
  (try dsimp only);(repeat' first | (with_reducible refine G_to ?_ ?_;focus (first | omega | (unfold fits;omega) | (unfold room;(try simp only [List.length_append,List.length_cons,List.length_nil]);omega))) | (with_reducible refine zbC ?_ ?_) | (with_reducible refine zbY ?_) | (with_reducible refine zbX ?_) | (with_reducible refine zdj (fun _ => ?_) (fun _ => ?_)))<;>try (exfalso;omega)
  all_goals rfl
 rw [if_neg c2];unfold zmq at c2
 (try dsimp only);(repeat' first | (with_reducible refine G_to ?_ ?_;focus (first | omega | (unfold fits;omega) | (unfold room;(try simp only [List.length_append,List.length_cons,List.length_nil]);omega))) | (with_reducible refine zbC ?_ ?_) | (with_reducible refine zbY ?_) | (with_reducible refine zbX ?_) | (with_reducible refine zdj (fun _ => ?_) (fun _ => ?_)))<;>try (exfalso;omega)
 refine zlD (len:=(t.2.2.1.length:Int)) (bad:=fun i=>RBad t (ix t.2.2.1 i)) (by omega) (fun i h0 h1=>⟨fun hb => ?_,fun hb => ?_⟩) (fun hh => ?_)
 ·rw [if_pos (show TRul t from zmr.2 ⟨i,h0,h1,hb⟩)];rw [zgZ];unfold zcJ
  (try dsimp only);(repeat' first | (with_reducible refine G_to ?_ ?_;focus (first | omega | (unfold fits;omega) | (unfold room;(try simp only [List.length_append,List.length_cons,List.length_nil]);omega))) | (with_reducible refine zbC ?_ ?_) | (with_reducible refine zbY ?_) | (with_reducible refine zbX ?_) | (with_reducible refine zdj (fun _ => ?_) (fun _ => ?_)))<;>try (exfalso;omega)
  ·rename_i h;exact (zr8 (by simp [h]) (by unfold fits;omega)).1 hb
  ·rename_i h;exact (zr8 (by simp [h]) (by unfold fits;omega)).1 hb
 ·conv=>lhs;rw [zgZ];unfold zcJ
  (try dsimp only);(repeat' first | (with_reducible refine G_to ?_ ?_;focus (first | omega | (unfold fits;omega) | (unfold room;(try simp only [List.length_append,List.length_cons,List.length_nil]);omega))) | (with_reducible refine zbC ?_ ?_) | (with_reducible refine zbY ?_) | (with_reducible refine zbX ?_) | (with_reducible refine zdj (fun _ => ?_) (fun _ => ?_)))<;>try (exfalso;omega)
  ·rename_i h;exact (zr8 (by simp [h]) (by unfold fits;omega)).2 hb
  ·rename_i h;exact (zr8 (by simp [h]) (by unfold fits;omega)).2 hb
 rw [if_neg (show ¬ TRul t from fun h=>by obtain ⟨i,i0,i1,i2⟩:=zmr.1 h;exact hh i i0 i1 i2)]
 rw [zgZ];unfold zcJ;rw [if_neg (by simp)]
 refine zlD (len:=(t.2.2.2.2.1.length:Int)) (bad:=fun i => ¬ ix t.2.2.2.2.1 i=0 /\ ¬ ix t.2.2.2.2.1 i=1) (by omega) (fun i h0 h1=>⟨fun hb => ?_,fun hb => ?_⟩) (fun hh => ?_)
 ·rw [if_pos (show TMrk t from zmr.2 ⟨i,h0,h1,hb⟩)];rw [zgp];unfold zci
  (try dsimp only);(repeat' first | (with_reducible refine G_to ?_ ?_;focus (first | omega | (unfold fits;omega) | (unfold room;(try simp only [List.length_append,List.length_cons,List.length_nil]);omega))) | (with_reducible refine zbC ?_ ?_) | (with_reducible refine zbY ?_) | (with_reducible refine zbX ?_) | (with_reducible refine zdj (fun _ => ?_) (fun _ => ?_)))<;>try (exfalso;omega)
  all_goals rfl
 ·conv=>lhs;rw [zgp];unfold zci
  (try dsimp only);(repeat' first | (with_reducible refine G_to ?_ ?_;focus (first | omega | (unfold fits;omega) | (unfold room;(try simp only [List.length_append,List.length_cons,List.length_nil]);omega))) | (with_reducible refine zbC ?_ ?_) | (with_reducible refine zbY ?_) | (with_reducible refine zbX ?_) | (with_reducible refine zdj (fun _ => ?_) (fun _ => ?_)))<;>try (exfalso;omega)
  all_goals rfl
 rw [if_neg (show ¬ TMrk t from fun h=>by obtain ⟨i,i0,i1,i2⟩:=zmr.1 h;exact hh i i0 i1 i2)]
 rw [zgp];unfold zci;rw [if_neg (by simp)]
 have fin:∀ n:Int,(t.2.2.1.length:Int)<=n->zfs t n=some (if t.2.2.2.1=0 then 0 else 3):=by
  intro n hn;rw [zgq];unfold zcj;rw [if_neg (by simp only [decide_eq_true_eq];omega)]
  by_cases c6:t.2.2.2.1=0
  ·rw [if_neg (by simp [c6]),if_pos c6]
  ·rw [if_pos (by simp [c6]),if_neg c6]
 have fin2 : ¬ TOrd t->∀ n:Int,(t.2.2.1.length:Int)<=n->zfs t n=some (@ite _ (TEnd t) (Classical.propDecidable _) 3 0):=by
  intro c5 n hn;rw [fin n hn];by_cases c6:t.2.2.2.1=0
  ·rw [if_pos c6,if_neg (show ¬ TEnd t by unfold TEnd;simp [c5,c6])]
  ·rw [if_neg c6,if_pos (show TEnd t from .inr c6)]
 by_cases c4:t.2.2.1.length=0
 ·exact fin2 (fun ⟨i,i0,i1,i2⟩=>by omega) 1 (by omega)
 refine zlD (len:=(t.2.2.1.length:Int)) (bad:=fun i => ¬ RLt (ix t.2.2.1 (i - 1)) (ix t.2.2.1 i)) (by omega) (fun i h0 h1=>⟨fun hb => ?_,fun hb => ?_⟩) (fun hh => ?_)
 ·rw [if_pos (show TEnd t from .inl ⟨i,h0,h1,hb⟩)];rw [zgq];unfold zcj
  (try dsimp only);(repeat' first | (with_reducible refine G_to ?_ ?_;focus (first | omega | (unfold fits;omega) | (unfold room;(try simp only [List.length_append,List.length_cons,List.length_nil]);omega))) | (with_reducible refine zbC ?_ ?_) | (with_reducible refine zbY ?_) | (with_reducible refine zbX ?_) | (with_reducible refine zdj (fun _ => ?_) (fun _ => ?_)))<;>try (exfalso;omega)
  obtain ⟨o,e,ho⟩:=zmS (ix t.2.2.1 (i - 1)) (ix t.2.2.1 i);refine zbs e ?_
  rw [if_pos (by cases o;rfl;exact absurd (ho.1 rfl) hb)]
 ·conv=>lhs;rw [zgq];unfold zcj
  (try dsimp only);(repeat' first | (with_reducible refine G_to ?_ ?_;focus (first | omega | (unfold fits;omega) | (unfold room;(try simp only [List.length_append,List.length_cons,List.length_nil]);omega))) | (with_reducible refine zbC ?_ ?_) | (with_reducible refine zbY ?_) | (with_reducible refine zbX ?_) | (with_reducible refine zdj (fun _ => ?_) (fun _ => ?_)))<;>try (exfalso;omega)
  obtain ⟨o,e,ho⟩:=zmS (ix t.2.2.1 (i - 1)) (ix t.2.2.1 i);refine zbs e ?_
  rw [if_neg (by rw [ho.2 (Classical.not_not.1 hb)];decide),zah (by unfold fits;omega)]
 ·exact fin2 (fun ⟨i,i0,i1,i2⟩=>hh i (by omega) i1 i2) _ (Int.le_refl _)
end
section
variable {l:List Nd} {le:Int}
open Classical in
def trF (l:List Nd) (le:Int):Nat->Int->List Bool->Int
 | 0,_,c=>if ∃ j:Int,0<=j/\j < l.length - 1/\ix c j=false then 3 else 0
 | n+1,i,c=>if (ix l i).1 < 0\/le<=(ix l i).1 then 2 else
  if (ix l i).2.1 = -1/\(ix l i).2.2.1 = -1 then trF l le n (i+1) c else
  if (ix l i).2.1 < 0\/i<=(ix l i).2.1\/ix c (ix l i).2.1=true\/(ix l i).2.2.1 < 0\/i<=(ix l i).2.2.1\/ix (c.set (ix l i).2.1.toNat true) (ix l i).2.2.1=true then 3 else
  trF l le n (i+1) ((c.set (ix l i).2.1.toNat true).set (ix l i).2.2.1.toNat true)
theorem zlC {c:List Bool} (hl:c.length=l.length) (h60:l.length<=60) (h1:1<=l.length):zhl (l,()) c 0=some (trF l le 0 0 c):=by
 unfold trF;refine zlD (len:=(l.length:Int) - 1) (bad:=fun i=>ix c i=false) (by omega) (fun i h0 h2=>⟨fun hb => ?_,fun hb => ?_⟩) (fun hh => ?_)
 ·rw [if_pos ⟨i,h0,h2,hb⟩];rw [zg0];unfold zcK
  (try dsimp only);(repeat' first | (with_reducible refine G_to ?_ ?_;focus (first | omega | (unfold fits;omega) | (unfold room;(try simp only [List.length_append,List.length_cons,List.length_nil]);omega))) | (with_reducible refine zbC ?_ ?_) | (with_reducible refine zbY ?_) | (with_reducible refine zbX ?_) | (with_reducible refine zdj (fun _ => ?_) (fun _ => ?_)))<;>try (exfalso;omega)
  rw [hb];rfl
 ·conv=>lhs;rw [zg0];unfold zcK
  (try dsimp only);(repeat' first | (with_reducible refine G_to ?_ ?_;focus (first | omega | (unfold fits;omega) | (unfold room;(try simp only [List.length_append,List.length_cons,List.length_nil]);omega))) | (with_reducible refine zbC ?_ ?_) | (with_reducible refine zbY ?_) | (with_reducible refine zbX ?_) | (with_reducible refine zdj (fun _ => ?_) (fun _ => ?_)))<;>try (exfalso;omega)
  have hb:ix c i=true:=by cases h:ix c i;exact absurd h hb;rfl
  rw [hb,if_neg (by decide),zah (by unfold fits;omega)]
 ·rw [if_neg (fun ⟨j,j0,j1,j2⟩=>hh j j0 j1 j2)]
  rw [zg0];unfold zcK
  (try dsimp only);(repeat' first | (with_reducible refine G_to ?_ ?_;focus (first | omega | (unfold fits;omega) | (unfold room;(try simp only [List.length_append,List.length_cons,List.length_nil]);omega))) | (with_reducible refine zbC ?_ ?_) | (with_reducible refine zbY ?_) | (with_reducible refine zbX ?_) | (with_reducible refine zdj (fun _ => ?_) (fun _ => ?_)))<;>try (exfalso;omega)
  rfl
theorem zr6:∀ (n:Nat) (i:Int) (c:List Bool),trF l le n i c=0->∀ j:Int,i<=j->j < i+n->0<=(ix l j).1/\(ix l j).1 < le/\((ix l j).2.1 = -1/\(ix l j).2.2.1 = -1\/0<=(ix l j).2.1/\(ix l j).2.1 < j/\0<=(ix l j).2.2.1/\(ix l j).2.2.1 < j):=by
 intro n
 induction n with
 | zero=>intro i c _ j h1 h2;omega
 | succ n ih=>
  intro i c h j h1 h2;unfold trF at h;by_cases c1:(ix l i).1 < 0\/le<=(ix l i).1
  ·rw [if_pos c1] at h;cases h
  rw [if_neg c1] at h;by_cases c2:(ix l i).2.1 = -1/\(ix l i).2.2.1 = -1
  ·rw [if_pos c2] at h;by_cases e:j=i
   ·subst e;exact ⟨by omega,by omega,.inl c2⟩
   ·exact ih _ _ h j (by omega) (by omega)
  rw [if_neg c2] at h;by_cases c3:(ix l i).2.1 < 0\/i<=(ix l i).2.1\/ix c (ix l i).2.1=true\/(ix l i).2.2.1 < 0\/i<=(ix l i).2.2.1\/ix (c.set (ix l i).2.1.toNat true) (ix l i).2.2.1=true
  ·rw [if_pos c3] at h;cases h
  rw [if_neg c3] at h;by_cases e:j=i
  ·subst e;exact ⟨by omega,by omega,.inr (by omega)⟩
  ·exact ih _ _ h j (by omega) (by omega)
theorem zvU {i:Int} {c:List Bool} {r8:Int->List Bool->Option Int} (hl:c.length=l.length) (hi:i < l.length) (hf:fits (i+1)):
  zdI (l,()) i c r8=if (ix l i).2.1 < 0\/i<=(ix l i).2.1\/ix c (ix l i).2.1=true\/(ix l i).2.2.1 < 0\/i<=(ix l i).2.2.1\/ix (c.set (ix l i).2.1.toNat true) (ix l i).2.2.1=true then some 3 else r8 (i+1) ((c.set (ix l i).2.1.toNat true).set (ix l i).2.2.1.toNat true):=by
 unfold zdI;generalize ix l i=x at *
 have e:(c.set x.2.1.toNat true).length=l.length:=by rw [List.length_set];exact hl
 (try dsimp only);(repeat' first | (with_reducible refine G_to ?_ ?_;focus (first | omega | (unfold fits;omega) | (unfold room;(try simp only [List.length_append,List.length_cons,List.length_nil]);omega))) | (with_reducible refine zbC ?_ ?_) | (with_reducible refine zbY ?_) | (with_reducible refine zbX ?_) | (with_reducible refine zdj (fun _ => ?_) (fun _ => ?_)))<;>try (exfalso;omega)
 ·rw [if_pos (.inl ‹_›)]
 ·rw [if_pos (.inr (.inl ‹_›))]
 by_cases c1:ix c x.2.1=true
 ·rw [if_pos c1,if_pos (.inr (.inr (.inl c1)))]
 rw [if_neg c1]
 (try dsimp only);(repeat' first | (with_reducible refine G_to ?_ ?_;focus (first | omega | (unfold fits;omega) | (unfold room;(try simp only [List.length_append,List.length_cons,List.length_nil]);omega))) | (with_reducible refine zbC ?_ ?_) | (with_reducible refine zbY ?_) | (with_reducible refine zbX ?_) | (with_reducible refine zdj (fun _ => ?_) (fun _ => ?_)))<;>try (exfalso;omega)
 ·rw [if_pos (.inr (.inr (.inr (.inl ‹_›))))]
 ·rw [if_pos (.inr (.inr (.inr (.inr (.inl ‹_›)))))]
 by_cases c2:ix (c.set x.2.1.toNat true) x.2.2.1=true
 ·rw [if_pos c2,if_pos (.inr (.inr (.inr (.inr (.inr c2)))))]
 rw [if_neg c2]
 (try dsimp only);(repeat' first | (with_reducible refine G_to ?_ ?_;focus (first | omega | (unfold fits;omega) | (unfold room;(try simp only [List.length_append,List.length_cons,List.length_nil]);omega))) | (with_reducible refine zbC ?_ ?_) | (with_reducible refine zbY ?_) | (with_reducible refine zbX ?_) | (with_reducible refine zdj (fun _ => ?_) (fun _ => ?_)))<;>try (exfalso;omega)
 rw [if_neg (by rintro (h | h | h | h | h | h)<;>first | omega | exact c1 h | exact c2 h)]
theorem zmy (h60:l.length<=60) (h1:1<=l.length):∀ (n:Nat) (i:Int) (c:List Bool),0<=i->i+n=l.length->c.length=l.length->zg1 le (l,()) i c=some (trF l le n i c):=by
 intro n
 induction n with
 | zero=>
  intro i c h0 hn hl;rw [zjL];unfold zdS;rw [if_neg (by simp only [decide_eq_true_eq];omega)]
  exact zlC (le:=le) hl h60 h1
 | succ n ih=>
  intro i c h0 hn hl;rw [zjL];unfold zdS trF;have h13 : ¬ ((ix l i).2.1 = -1/\(ix l i).2.2.1 = -1) -> ¬ ((ix l i).1 < 0\/le<=(ix l i).1)->zdI (l,()) i c (fun i c=>zg1 le (l,()) i c)=some (if (ix l i).1 < 0\/le<=(ix l i).1 then 2 else
    if (ix l i).2.1 = -1/\(ix l i).2.2.1 = -1 then trF l le n (i+1) c else
    if (ix l i).2.1 < 0\/i<=(ix l i).2.1\/ix c (ix l i).2.1=true\/(ix l i).2.2.1 < 0\/i<=(ix l i).2.2.1\/ix (c.set (ix l i).2.1.toNat true) (ix l i).2.2.1=true then 3 else
    trF l le n (i+1) ((c.set (ix l i).2.1.toNat true).set (ix l i).2.2.1.toNat true)):=by
   intro q1 q2;rw [zvU hl (by omega) (by unfold fits;omega),if_neg q2,if_neg q1]
   split
   ·rfl
   ·exact ih _ _ (by omega) (by omega) (by simp [hl])
  (try dsimp only);(repeat' first | (with_reducible refine G_to ?_ ?_;focus (first | omega | (unfold fits;omega) | (unfold room;(try simp only [List.length_append,List.length_cons,List.length_nil]);omega))) | (with_reducible refine zbC ?_ ?_) | (with_reducible refine zbY ?_) | (with_reducible refine zbX ?_) | (with_reducible refine zdj (fun _ => ?_) (fun _ => ?_)))<;>try (exfalso;omega)
  ·rw [if_pos (.inl ‹_›)]
  ·rw [if_pos (.inr ‹_›)]
  ·rw [if_neg (by omega),if_pos ⟨‹_›,‹_›⟩];exact ih _ _ (by omega) (by omega) hl
  ·exact h13 (by omega) (by omega)
  ·exact h13 (by omega) (by omega)
def ttE (le:Int) (l:List Nd):Int:=if le < 1 then 2 else if 4 < le then 2 else if (l.length:Int) < 1 then 1 else if 60 < (l.length:Int) then 1 else trF l le l.length 0 (List.replicate l.length false)
theorem zpw:zmO le (l,())=some (ttE le l):=by
 unfold zmO ttE;dsimp only;by_cases c1:le < 1
 ·rw [if_pos (decide_eq_true c1),if_pos c1]
 rw [if_neg (by simpa using c1),if_neg c1]
 by_cases c2:4 < le
 ·rw [if_pos (decide_eq_true c2),if_pos c2]
 rw [if_neg (by simpa using c2),if_neg c2]
 by_cases c3:(l.length:Int) < 1
 ·rw [if_pos (decide_eq_true c3),if_pos c3]
 rw [if_neg (by simpa using c3),if_neg c3]
 by_cases c4:60 < (l.length:Int)
 ·rw [if_pos (decide_eq_true c4),if_pos c4]
 rw [if_neg (by simpa using c4),if_neg c4]
 rw [zah (by unfold mkOK;omega)]
 exact zmy (by omega) (by omega) l.length 0 _ (by omega) (by omega) (by simp)
end
theorem ix_snoc {α:Type} [Inhabited α] {l:List α} {x:α} {j:Int} (h0:0<=j) (h:j < l.length):ix (l++[x]) j=ix l j:=by
 simp only [ix,List.getD_eq_getElem?_getD];rw [List.getElem?_append_left (by omega)]
theorem zvc {α:Type} [Inhabited α] {l:List α} {x:α} {j:Int} (h:j=l.length):ix (l++[x]) j=x:=by
 subst h;simp [ix,List.getD_eq_getElem?_getD]
section
variable {a:TA} {t:List Nd}
def Use (x:Nd) (can:List (List Bool)) (r:Rl):Prop:=r.1=x.1/\(r.2.1 = -1↔x.2.1 = -1)/\(r.2.1 = -1\/ix (ix can x.2.1) r.2.1=true/\ix (ix can x.2.2.1) r.2.2.1=true)
structure Ok (a:TA) (t:List Nd):Prop where
 st:1<=a.2.1/\a.2.1<=300
 rl:a.2.2.1.length<=40000
 mks:(a.2.2.2.2.1.length:Int)=a.2.1
 rb:∀ k:Int,0<=k->k < a.2.2.1.length -> ¬ RBad a (ix a.2.2.1 k)
 n:1<=t.length/\t.length<=60
 nd:∀ j:Int,0<=j->j < t.length->((ix t j).2.1 = -1/\(ix t j).2.2.1 = -1\/0<=(ix t j).2.1/\(ix t j).2.1 < j/\0<=(ix t j).2.2.1/\(ix t j).2.2.1 < j)
theorem zuq {k:Int} {own:List Bool} {r8:Int->List Bool->Option Bool} (ok:Ok a t) (hl:(own.length:Int)=a.2.1) (h0:0<=k) (h1:k < a.2.2.1.length) (b:Bool):
  zch a k own r8 b=r8 (k+1) (if b=true then own.set (ix a.2.2.1 k).2.2.2.1.toNat true else own):=by
 have hb:=ok.rb k h0 h1;unfold RBad at hb;have:=ok.rl;unfold zch
 cases b with
 | false=>rw [if_neg (by decide),if_neg (by decide),zah (by unfold fits;omega)]
 | true=>
  rw [if_pos rfl,if_pos rfl];rw [zah (by omega),zah (by omega),zah (by unfold fits;omega)]
open Classical in
theorem zvk {i k:Int} {own:List Bool} {can:List (List Bool)} {r3:Int->List (List Bool)->Option Bool} (ok:Ok a t) (hi:0<=i/\i < t.length) (hc:(can.length:Int)=i) (hrows:∀ j:Int,0<=j->j < i->((ix can j).length:Int)=a.2.1) (hl:(own.length:Int)=a.2.1) (h0:0<=k) (h1:k < a.2.2.1.length):
  zbJ a (t,()) i can r3 k own=zbJ a (t,()) i can r3 (k+1) (if Use (ix t i) can (ix a.2.2.1 k) then own.set (ix a.2.2.1 k).2.2.2.1.toNat true else own):=by
 have hb:=ok.rb k h0 h1;unfold RBad at hb;have hn:=ok.nd i hi.1 hi.2;have hrl:=ok.rl
 conv=>lhs;rw [zhT];unfold zcv
 rw [if_pos (decide_eq_true h1),zah (by omega)]
 simp only [zuq (r8:=fun k own=>zbJ a (t,()) i can r3 k own) ok hl h0 h1]
 unfold Use;by_cases c1:(ix a.2.2.1 k).1=(ix t i).1
 ·rw [if_neg (by simp [c1])]
  by_cases c2:(ix a.2.2.1 k).2.1 = -1
  ·by_cases c3:(ix t i).2.1 = -1
   ·rw [if_neg (by simp [c2,c3]),if_pos (decide_eq_true c2),if_pos trivial,if_pos ⟨c1,by simp [c2,c3],.inl c2⟩]
   ·rw [if_pos (by simp [c2,c3]),zah (by unfold fits;omega),if_neg (fun h=>c3 (h.2.1.1 c2))]
  ·by_cases c3:(ix t i).2.1 = -1
   ·rw [if_pos (by simp [c2,c3]),zah (by unfold fits;omega),if_neg (fun h=>c2 (h.2.1.2 c3))]
   ·rw [if_neg (by simp [c2,c3]),if_neg (by simpa using c2)]
    have l1:=hrows (ix t i).2.1 (by omega) (by omega)
    have l2:=hrows (ix t i).2.2.1 (by omega) (by omega)
    rw [zah (by omega),zah (by omega),zah (by omega)]
    by_cases c4:ix (ix can (ix t i).2.1) (ix a.2.2.1 k).2.1=true
    ·rw [if_pos c4,zah (by omega),zah (by omega),zah (by omega)]
     by_cases c5:ix (ix can (ix t i).2.2.1) (ix a.2.2.1 k).2.2.1=true
     ·rw [if_pos c5,if_pos ⟨c1,by simp [c2,c3],.inr ⟨c4,c5⟩⟩]
     ·rw [if_neg c5,if_neg (fun h=>by rcases h.2.2 with h | h;exact c2 h;exact c5 h.2)]
    ·rw [if_neg c4,if_neg (by decide),if_neg (fun h=>by rcases h.2.2 with h | h;exact c2 h;exact c4 h.1)]
 ·rw [if_pos (by simp [c1]),zah (by unfold fits;omega),if_neg (fun h=>c1 h.1)]
end
section
variable {a:TA} {t:List Nd}
structure Rows (a:TA) (t:List Nd) (can:List (List Bool)) (i:Int):Prop where
 l:(can.length:Int)=i
 w:∀ j:Int,0<=j->j < i->((ix can j).length:Int)=a.2.1
 m:∀ j:Int,0<=j->j < i->∀ q:Int,0<=q->q < a.2.1->(ix (ix can j) q=true↔∃ k:Int,0<=k/\k < a.2.2.1.length/\Use (ix t j) can (ix a.2.2.1 k)/\(ix a.2.2.1 k).2.2.2.1=q)
theorem zvm (ok:Ok a t) {can:List (List Bool)} {own:List Bool} {j:Int} (j0:0<=j) (j1:j < t.length) (hj:j<=can.length) {r:Rl}:Use (ix t j) (can++[own]) r↔Use (ix t j) can r:=by
 have hn:=ok.nd j j0 j1;unfold Use;by_cases c:r.2.1 = -1
 ·simp [c]
 ·by_cases c2:(ix t j).2.1 = -1
  ·simp [c,c2]
  ·rcases hn with hn | hn
   ·exact absurd hn.1 c2
   ·rw [zdf hn.1 (by omega),zdf hn.2.2.1 (by omega)]
open Classical in
theorem zv0 (ok:Ok a t) {i:Int} {can:List (List Bool)} (hi:0<=i/\i < t.length) (h:Rows a t can i) {r3:Int->List (List Bool)->Option Bool}:∀ (n:Nat) (k:Int) (own:List Bool),0<=k->k+n=a.2.2.1.length->(own.length:Int)=a.2.1->
  ∃ own',zbJ a (t,()) i can r3 k own=r3 (i+1) (can++[own'])/\(own'.length:Int)=a.2.1/\∀ q:Int,0<=q->q < a.2.1->(ix own' q=true↔ix own q=true\/∃ j:Int,k<=j/\j < a.2.2.1.length/\Use (ix t i) can (ix a.2.2.1 j)/\(ix a.2.2.1 j).2.2.2.1=q):=by
 have hc:=h.l;have hn60:=ok.n;intro n
 induction n with
 | zero=>
  intro k own k0 hn hl;refine ⟨own,?_,hl,fun q q0 q1=>⟨.inl,fun h=>h.elim id fun ⟨j,j0,j1,_⟩=>by omega⟩⟩
  rw [zhT];unfold zcv;rw [if_neg (by simp only [decide_eq_true_eq];omega),zah (by unfold room;simp only [List.length_cons,List.length_nil];omega),zah (by unfold fits;omega)]
 | succ n ih=>
  intro k own k0 hn hl;have hb:=ok.rb k k0 (by omega)
  unfold RBad at hb;rw [zvk ok hi hc h.w hl k0 (by omega)]
  by_cases u:Use (ix t i) can (ix a.2.2.1 k)
  ·rw [if_pos u];obtain ⟨own',e,h1,h2⟩:=ih (k+1) (own.set (ix a.2.2.1 k).2.2.2.1.toNat true) (by omega) (by omega) (by simpa using hl)
   refine ⟨own',e,h1,fun q q0 q1 => ?_⟩
   rw [h2 q q0 q1];by_cases e:(ix a.2.2.1 k).2.2.2.1=q
   ·rw [<- e,zrh (by omega) (by omega)]
    exact ⟨fun _ => .inr ⟨k,Int.le_refl _,by omega,u,rfl⟩,fun _ => .inl rfl⟩
   ·rw [ztN (by omega) q0 e]
    constructor
    ·rintro (h | ⟨j,j0,j1,j2⟩)
     ·exact .inl h
     ·exact .inr ⟨j,by omega,j1,j2⟩
    ·rintro (h | ⟨j,j0,j1,j2,j3⟩)
     ·exact .inl h
     ·by_cases ej:j=k
      ·subst ej;exact absurd j3 e
      ·exact .inr ⟨j,by omega,j1,j2,j3⟩
  ·rw [if_neg u];obtain ⟨own',e,h1,h2⟩:=ih (k+1) own (by omega) (by omega) hl
   refine ⟨own',e,h1,fun q q0 q1 => ?_⟩
   rw [h2 q q0 q1];constructor
   ·rintro (h | ⟨j,j0,j1,j2⟩)
    ·exact .inl h
    ·exact .inr ⟨j,by omega,j1,j2⟩
   ·rintro (h | ⟨j,j0,j1,j2,j3⟩)
    ·exact .inl h
    ·by_cases ej:j=k
     ·subst ej;exact absurd j2 u
     ·exact .inr ⟨j,by omega,j1,j2,j3⟩
theorem zlP (ok:Ok a t):∃ can b,zeX a (t,())=some b/\Rows a t can t.length/\(b=true↔∃ q:Int,0<=q/\q < a.2.1/\ix (ix can ((t.length:Int) - 1)) q=true/\ix a.2.2.2.2.1 q=1):=by
 have hn:=ok.n;have hs:=ok.st;have hm:=ok.mks;have k3:∀ (n:Nat) (i:Int) (can:List (List Bool)),0<=i->i+n=t.length->Rows a t can i->∃ can',zd8 a (t,()) i can=zd8 a (t,()) t.length can'/\Rows a t can' t.length:=by
  intro n
  induction n with
  | zero=>
   intro i can i0 hi h;obtain rfl:i=t.length:=by omega
   exact ⟨can,rfl,h⟩
  | succ n ih=>
   intro i can i0 hi h;have hc:=h.l;obtain ⟨own,e,h1,h2⟩:=zv0 ok ⟨i0,by omega⟩ h (r3:=zd8 a (t,())) a.2.2.1.length 0 (List.replicate a.2.1.toNat false) (by omega) (by omega) (by simp;omega)
   obtain ⟨can',e',h'⟩:=ih (i+1) (can++[own]) (by omega) (by omega) ⟨by rw [List.length_append,List.length_singleton];omega,fun j j0 j1=>by
     by_cases c:j=i
     ·rw [c,<- hc,zf2];exact h1
     ·rw [zdf j0 (by omega)];exact h.w j j0 (by omega),fun j j0 j1 q q0 q1=>by
     have hu:∀ k:Int,Use (ix t j) (can++[own]) (ix a.2.2.1 k)↔Use (ix t j) can (ix a.2.2.1 k):=fun k=>zvm ok j0 (by omega) (by omega)
     simp only [hu];by_cases c:j=i
     ·subst c;rw [show ix (can++[own]) j=own by rw [<- hc,zf2],h2 q q0 q1,zqf q0 (by omega)]
      constructor
      ·rintro (h | h)
       ·cases h
       ·exact h
      ·exact .inr
     ·rw [zdf j0 (by omega)];exact h.m j j0 (by omega) q q0 q1⟩
   refine ⟨can',?_,h'⟩
   rw [<- e']
   conv=>lhs;rw [zhR];unfold zcu
   rw [if_pos (decide_eq_true (by dsimp only;omega)),zah (by dsimp only;omega),zah (by unfold mkOK;omega)]
   exact e
 obtain ⟨can,e,h⟩:=k3 t.length 0 [] (by omega) (by omega) ⟨rfl,fun j j0 j1=>by omega,fun j j0 j1=>by omega⟩
 have hc:=h.l;have hw:=h.w ((t.length:Int) - 1) (by omega) (by omega)
 have k17:∀ (n:Nat) (q:Int),0<=q->q+n=a.2.1->∃ b,zfr a can q=some b/\(b=true↔∃ p:Int,q<=p/\p < a.2.1/\ix (ix can ((t.length:Int) - 1)) p=true/\ix a.2.2.2.2.1 p=1):=by
  intro n
  induction n with
  | zero=>
   intro q q0 hq;refine ⟨false,?_,⟨fun h=>(by cases h),fun ⟨p,p0,p1,_⟩=>by omega⟩⟩
   rw [zhk];unfold zb7;rw [if_neg (by simp only [decide_eq_true_eq];omega)]
  | succ n ih=>
   intro q q0 hq;obtain ⟨b,e,hb⟩:=ih (q+1) (by omega) (by omega)
   have skip : ¬ (ix (ix can ((t.length:Int) - 1)) q=true/\ix a.2.2.2.2.1 q=1)->(b=true↔∃ p:Int,q<=p/\p < a.2.1/\ix (ix can ((t.length:Int) - 1)) p=true/\ix a.2.2.2.2.1 p=1):=fun hno=>by
    rw [hb];constructor
    ·rintro ⟨p,p0,p1⟩;exact ⟨p,by omega,p1⟩
    ·rintro ⟨p,p0,p1,p2⟩;by_cases ep:p=q
     ·subst ep;exact absurd p2 hno
     ·exact ⟨p,by omega,p1,p2⟩
   rw [zhk];unfold zb7;rw [if_pos (decide_eq_true (by omega)),hc,zah (by omega)]
   by_cases c1:ix (ix can ((t.length:Int) - 1)) q=true
   ·rw [if_pos c1,zah (by omega)]
    by_cases c2:ix a.2.2.2.2.1 q=1
    ·rw [if_pos (decide_eq_true c2)];exact ⟨true,rfl,⟨fun _=>⟨q,Int.le_refl _,by omega,c1,c2⟩,fun _=>rfl⟩⟩
    ·rw [if_neg (by simpa using c2),zah (by unfold fits;omega)]
     exact ⟨b,e,skip fun h=>c2 h.2⟩
   ·rw [if_neg c1,zah (by unfold fits;omega)]
    exact ⟨b,e,skip fun h=>c1 h.1⟩
 obtain ⟨b,eb,hb⟩:=k17 a.2.1.toNat 0 (by omega) (by omega)
 refine ⟨can,b,?_,h,hb⟩
 unfold zeX;rw [e,zhR];unfold zcu;rw [if_neg (by simp),zah (by unfold fits;omega),zah (by omega),zah (by omega)]
 exact eb
end
section
variable {a:TA} {t:List Nd}
structure Ok0 (a:TA):Prop where
 st:1<=a.2.1/\a.2.1<=300
 rl:a.2.2.1.length<=40000
 mks:(a.2.2.2.2.1.length:Int)=a.2.1
 rb:∀ k:Int,0<=k->k < a.2.2.1.length -> ¬ RBad a (ix a.2.2.1 k)
theorem zwO (h1:taE a=0):Ok0 a:=by
 unfold taE at h1;by_cases c1:TLet a
 ·rw [if_pos c1] at h1;cases h1
 rw [if_neg c1] at h1;by_cases c2:zmq a
 ·rw [if_pos c2] at h1;cases h1
 rw [if_neg c2] at h1;by_cases c3:TRul a
 ·rw [if_pos c3] at h1;cases h1
 unfold zmq at c2;exact ⟨by omega,by omega,by omega,fun k k0 k1 hb=>c3 (zmr.2 ⟨k,k0,k1,hb⟩)⟩
theorem zwP (h1:taE a=0) (h2:ttE a.1 t=0):Ok a t:=by
 unfold taE at h1;by_cases c1:TLet a
 ·rw [if_pos c1] at h1;cases h1
 rw [if_neg c1] at h1;by_cases c2:zmq a
 ·rw [if_pos c2] at h1;cases h1
 rw [if_neg c2] at h1;by_cases c3:TRul a
 ·rw [if_pos c3] at h1;cases h1
 unfold zmq at c2;unfold ttE at h2;by_cases d1:a.1 < 1
 ·rw [if_pos d1] at h2;cases h2
 rw [if_neg d1] at h2;by_cases d2:4 < a.1
 ·rw [if_pos d2] at h2;cases h2
 rw [if_neg d2] at h2;by_cases d3:(t.length:Int) < 1
 ·rw [if_pos d3] at h2;cases h2
 rw [if_neg d3] at h2;by_cases d4:60 < (t.length:Int)
 ·rw [if_pos d4] at h2;cases h2
 rw [if_neg d4] at h2;exact ⟨by omega,by omega,by omega,fun k k0 k1 hb=>c3 (zmr.2 ⟨k,k0,k1,hb⟩),by omega,fun j j0 j1=>(zr6 _ _ _ h2 j j0 (by omega)).2.2⟩
end
section
variable {a:TA}
def Fits (letter left right:Int) (r:Rl):Prop:=r.1=letter/\(r.2.1 < 0↔left < 0)/\(left < 0\/bitP left r.2.1/\bitP right r.2.2.1)
def zuZ (a:TA) (letter left right q:Int):Prop:=∃ k:Int,0<=k/\k < a.2.2.1.length/\Fits letter left right (ix a.2.2.1 k)/\(ix a.2.2.1 k).2.2.2.1=q
def zoa (a:TA) (N:Nat) (letter left right:Int):Int:=zpz (zuZ a letter left right) N
theorem znD (a:TA) {N:Nat} (hN:N<=16) (letter left right:Int):SetN N (zoa a N letter left right)/\∀ q:Int,0<=q->q < N->(bitP (zoa a N letter left right) q↔zuZ a letter left right q):=by
 obtain ⟨h1,h2⟩:=zsc hN (zuZ a letter left right) N (Nat.le_refl _);exact ⟨h1,fun q q0 q1=>(h2 q q0 q1).trans ⟨fun h=>h.2,fun h=>⟨q1,h⟩⟩⟩
theorem zuj (ok:Ok0 a) {N:Nat} (hN:N<=16) (hs:a.2.1=N) (letter left right:Int):zlc a letter left right=some (zoa a N letter left right):=by
 have hrl:=ok.rl;have k3:∀ (n:Nat) (k s:Int),0<=k->k+n=a.2.2.1.length->SetN N s->(∀ q:Int,0<=q->q < N->(bitP s q↔∃ j:Int,0<=j/\j < k/\Fits letter left right (ix a.2.2.1 j)/\(ix a.2.2.1 j).2.2.2.1=q))->
   zfg a letter left right s k=some (zoa a N letter left right):=by
  intro n
  induction n with
  | zero=>
   intro k s k0 hk hS h;obtain rfl:k=a.2.2.1.length:=by omega
   rw [zjj];unfold zdi;rw [if_neg (by simp)]
   obtain ⟨h1,h2⟩:=znD a hN letter left right;rw [hS.ext h1 fun q q0 q1=>(h q q0 q1).trans (h2 q q0 q1).symm]
  | succ n ih=>
   intro k s k0 hk hS h;have hb:=ok.rb k k0 (by omega)
   unfold RBad at hb;have f1:fits (k+1):=by unfold fits;omega
   have no : ¬ Fits letter left right (ix a.2.2.1 k)->zfg a letter left right s (k+1)=some (zoa a N letter left right):=fun hno=>by
    refine ih (k+1) s (by omega) (by omega) hS fun q q0 q1 => ?_
    rw [h q q0 q1];constructor
    ·rintro ⟨j,j0,j1,j2⟩;exact ⟨j,j0,by omega,j2⟩
    ·rintro ⟨j,j0,j1,j2,j3⟩;by_cases e:j=k
     ·subst e;exact absurd j2 hno
     ·exact ⟨j,j0,by omega,j2,j3⟩
   have yes:Fits letter left right (ix a.2.2.1 k)->zfg a letter left right (ior .i64 s (ishl .i64 1 (ix a.2.2.1 k).2.2.2.1)) (k+1)=some (zoa a N letter left right):=fun hy=>by
    obtain ⟨h1,_,h2⟩:=hS.or (q:=(ix a.2.2.1 k).2.2.2.1) (by omega) (by omega)
    refine ih (k+1) _ (by omega) (by omega) h1 fun q q0 q1 => ?_
    rw [h2 q q0 q1,h q q0 q1];constructor
    ·rintro (⟨j,j0,j1,j2⟩ | e)
     ·exact ⟨j,j0,by omega,j2⟩
     ·exact ⟨k,k0,by omega,hy,e.symm⟩
    ·rintro ⟨j,j0,j1,j2,j3⟩;by_cases e:j=k
     ·subst e;exact .inr j3.symm
     ·exact .inl ⟨j,j0,by omega,j2,j3⟩
   rw [zjj];unfold zdi;rw [if_pos (by simp only [decide_eq_true_eq];omega),zah (by omega)]
   unfold Fits at no yes;by_cases c1:(ix a.2.2.1 k).1=letter
   ·rw [if_neg (by simp [c1])]
    by_cases c2:((ix a.2.2.1 k).2.1 < 0↔left < 0)
    ·rw [if_neg (by simp [c2])]
     by_cases c3:left < 0
     ·rw [if_pos (decide_eq_true c3),zah (by omega),zah f1]
      exact yes ⟨c1,c2,.inl c3⟩
     ·have c4 : ¬ (ix a.2.2.1 k).2.1 < 0:=fun h=>c3 (c2.1 h)
      rw [if_neg (by simpa using c3),zah (by omega)]
      by_cases c5:bitP left (ix a.2.2.1 k).2.1
      ·rw [if_pos (decide_eq_true (show iand .i64 (ishr .i64 left (ix a.2.2.1 k).2.1) 1=1 from c5)),zah (by omega)]
       by_cases c6:bitP right (ix a.2.2.1 k).2.2.1
       ·rw [if_pos (decide_eq_true (show iand .i64 (ishr .i64 right (ix a.2.2.1 k).2.2.1) 1=1 from c6)),zah (by omega),zah f1]
        exact yes ⟨c1,c2,.inr ⟨c5,c6⟩⟩
       ·rw [if_neg (by rw [decide_eq_true_iff];exact c6),zah f1]
        exact no fun h=>h.2.2.elim c3 fun h=>c6 h.2
      ·rw [if_neg (by rw [decide_eq_true_iff];exact c5),zah f1]
       exact no fun h=>h.2.2.elim c3 fun h=>c5 h.1
    ·rw [if_pos (by simp only [decide_eq_true_eq,decide_eq_decide];exact c2),zah f1]
     exact no fun h=>c2 h.2.1
   ·rw [if_pos (by simp [c1]),zah f1]
    exact no fun h=>c1 h.1
 obtain ⟨z1,z2⟩:=SetN.zero hN;unfold zlc;exact k3 a.2.2.1.length 0 0 (by omega) (by omega) z1 fun q q0 q1=>⟨fun h=>absurd h (z2 q q0 q1),fun ⟨j,j0,j1,_⟩=>by omega⟩
theorem ztG (hm:(a.2.2.2.2.1.length:Int)=a.2.1) (hs:a.2.1<=300) (s:Int):∃ b,znK a s=some b/\(b=true↔∃ q:Int,0<=q/\q < a.2.1/\ix a.2.2.2.2.1 q=1/\bitP s q):=by
 have k2:∀ (n:Nat) (q:Int),0<=q->q+n=a.2.1->∃ b,zhq a s q=some b/\(b=true↔∃ p:Int,q<=p/\p < a.2.1/\ix a.2.2.2.2.1 p=1/\bitP s p):=by
  intro n
  induction n with
  | zero=>
   intro q q0 hq;refine ⟨false,?_,⟨fun h=>(by cases h),fun ⟨p,p0,p1,_⟩=>by omega⟩⟩
   rw [zjb];unfold zdg;rw [if_neg (by simp only [decide_eq_true_eq];omega)]
  | succ n ih=>
   intro q q0 hq;obtain ⟨b,e,hb⟩:=ih (q+1) (by omega) (by omega)
   have skip : ¬ (ix a.2.2.2.2.1 q=1/\bitP s q)->(b=true↔∃ p:Int,q<=p/\p < a.2.1/\ix a.2.2.2.2.1 p=1/\bitP s p):=fun hno=>by
    rw [hb];constructor
    ·rintro ⟨p,p0,p1⟩;exact ⟨p,by omega,p1⟩
    ·rintro ⟨p,p0,p1,p2⟩;by_cases ep:p=q
     ·subst ep;exact absurd p2 hno
     ·exact ⟨p,by omega,p1,p2⟩
   rw [zjb];unfold zdg;rw [if_pos (by simp only [decide_eq_true_eq];omega),zah (by omega)]
   by_cases c1:ix a.2.2.2.2.1 q=1
   ·rw [if_pos (decide_eq_true c1),zah (by omega)]
    by_cases c2:bitP s q
    ·rw [if_pos (decide_eq_true (show iand .i64 (ishr .i64 s q) 1=1 from c2))];exact ⟨true,rfl,⟨fun _=>⟨q,Int.le_refl _,by omega,c1,c2⟩,fun _=>rfl⟩⟩
    ·rw [if_neg (by rw [decide_eq_true_iff];exact c2),zah (by unfold fits;omega)]
     exact ⟨b,e,skip fun h=>c2 h.2⟩
   ·rw [if_neg (by simpa using c1),zah (by unfold fits;omega)]
    exact ⟨b,e,skip fun h=>c1 h.1⟩
 by_cases h0:0<=a.2.1
 ·obtain ⟨b,e,h⟩:=k2 a.2.1.toNat 0 (by omega) (by omega)
  exact ⟨b,e,h⟩
 ·omega
end
theorem zt8 {α:Type} [DecidableEq α]:∀ {l U:List α},l.Nodup->(∀ x∈l,x∈U)->l.length<=U.length
 | [],_,_,_=>Nat.zero_le _
 | a::l,U,hn,hs=>by
  have ha:=hs a (by simp)
  obtain ⟨h1,h2⟩:=List.nodup_cons.1 hn;have:=zt8 (U:=U.erase a) h2 (fun x hx=>(List.mem_erase_of_ne (by rintro rfl;exact h1 hx)).2 (hs x (by simp [hx])))
  rw [List.length_erase_of_mem ha] at this;have hp:0 < U.length:=List.length_pos_of_mem ha;rw [List.length_cons];omega
theorem zoz {l:List Int} {n:Nat} (h:l.Nodup) (hb:∀ x∈l,0<=x/\x < n):l.length<=n:=by
 have:=zt8 (U:=(List.range n).map Int.ofNat) h (fun x hx=>by
  have:=hb x hx;exact List.mem_map.2 ⟨x.toNat,List.mem_range.2 (by omega),by show ((x.toNat:Nat):Int)=x;omega⟩)
 simpa using this
theorem zes {α:Type}:∀ {ks:List α} {x:α},zc0 ks x=none↔x∉ks
 | [],x=>by simp [zc0]
 | y::ys,x=>by
  unfold zc0;by_cases h:y=x
  ·rw [if_pos h];simp [h]
  ·rw [if_neg h,Option.map_eq_none_iff,zes];simp [Ne.symm h]
abbrev ones {α:Type} (ks:List α):List Int:=List.replicate ks.length 1
theorem zwL {α:Type} {ks:List α} {x:α}:(mget ks (ones ks) x 0=0)↔x∉ks:=by
 unfold mget
 cases h:zc0 ks x with
 | none=>simp [zes.1 h]
 | some j=>
  have hx:x∈ks:=by
   refine Classical.byContradiction fun hn => ?_
   rw [zes.2 hn] at h;cases h
  have:=zib h;simp [hx,this]
theorem zwM {α:Type} {ks:List α} {x:α} (h:x∉ks):zjA ks x=ks++[x]:=by
 unfold zjA;rw [zes.2 h]
theorem zwN {α:Type} {ks:List α} {x:α} (h:x∉ks):zmu ks (ones ks) x 1=ones (ks++[x]):=by
 unfold zmu;rw [zes.2 h];show List.replicate ks.length 1++[1]=List.replicate (ks++[x]).length 1;rw [List.length_append,List.length_singleton,List.replicate_succ']
theorem ztX {α:Type} {ks:List α} {x:α} (h:x∈ks):∃ j,zc0 ks x=some j:=by
 cases e:zc0 ks x with
 | none=>exact absurd h (zes.1 e)
 | some j=>exact ⟨j,rfl⟩
theorem zkG {α:Type} (ks:List α) (x:α):zc0 (x::ks) x=some 0:=by unfold zc0;rw [if_pos rfl]
theorem zkH {α:Type} {ks:List α} {x y:α} (h:y≠x):zc0 (y::ks) x=(zc0 ks x).map (·+1):=by
 rw [zc0,if_neg h]
theorem ztV {α:Type}:∀ {ks:List α} {x:α} {j:Nat} (l:List α),zc0 ks x=some j->zc0 (ks++l) x=some j
 | [],_,_,_,h=>by cases h
 | y::ks,x,j,l,h=>by
  rw [List.cons_append];by_cases e:y=x
  ·subst e;rw [zkG] at h ⊢;exact h
  ·rw [zkH e] at h ⊢
   cases hm:zc0 ks x with
   | none=>rw [hm] at h;cases h
   | some i=>rw [hm] at h;rw [ztV l hm];exact h
theorem ztY {α:Type}:∀ {ks:List α} {x:α},x∉ks->zc0 (ks++[x]) x=some ks.length
 | [],x,_=>zkG _ _
 | y::ks,x,h=>by
  have hy:y≠x:=by rintro rfl;exact h (by simp)
  rw [List.cons_append,zkH hy,ztY (fun hh=>h (by simp [hh]))];rfl
theorem zr4 {α:Type}:∀ {ks:List α} {x:α} {k:Nat},ks[k]? =some x->(∀ j,j < k->ks[j]? ≠some x)->zc0 ks x=some k
 | [],_,_,h,_=>by simp at h
 | y::ks,x,k,h,hf=>by
  cases k with
  | zero=>
   have:y=x:=by simpa using h
   subst this;exact zkG _ _
  | succ k=>
   have hy:y≠x:=by have:=hf 0 (by omega);simpa using this
   rw [zkH hy,zr4 (k:=k) (by simpa using h) (fun j hj=>by have:=hf (j+1) (by omega);simpa using this)];rfl
theorem zwK {α:Type} {ks:List α} {x y:α} {j:Nat} (h:zc0 ks x=some j) (k:zc0 ks y=some j):x=y:=by
 have:=zgV h;rw [zgV k] at this;injection this with this;exact this.symm
theorem zvL {α:Type} {ks:List α} (hn:ks.Nodup) {j:Nat} (hj:j < ks.length):zc0 ks ks[j]=some j:=
 zr4 (by simp) fun i hi e=>by
  have hi':i < ks.length:=by omega
  rw [List.getElem?_eq_getElem hi'] at e;exact List.pairwise_iff_getElem.1 hn i j hi' hj hi (Option.some.inj e)
theorem ztW {α β:Type} (f:α->β):∀ {ks:List α} {x:α},(∀ y∈ks,f y=f x->y=x)->zc0 (ks.map f) (f x)=zc0 ks x
 | [],_,_=>rfl
 | y::ks,x,h=>by
  have ih:=ztW f (ks:=ks) (x:=x) (fun z hz=>h z (by simp [hz]))
  rw [List.map_cons];by_cases e:y=x
  ·subst e;rw [zkG,zkG]
  ·rw [zkH e,zkH (fun hh=>e (h y (by simp) hh)),ih]
def iota (n:Nat):List Int:=(List.range n).map fun j:Nat=>(j:Int)
theorem iota_len (n:Nat):(iota n).length=n:=by simp [iota]
theorem zqd (n:Nat):iota (n+1)=iota n++[(n:Int)]:=by simp [iota,List.range_succ]
theorem ztZ {α:Type} {ks:List α} {x:α} {j:Nat} (h:zc0 ks x=some j):mget ks (iota ks.length) x 0=j:=by
 have:=zib h;unfold mget;rw [h];simp [iota,this]
theorem zr5 {α:Type} {ks:List α} {x:α}:mhas ks x=true↔x∈ks:=by
 unfold mhas
 cases e:zc0 ks x with
 | none=>simp [zes.1 e]
 | some j=>
  have:=zgV e;simp [List.mem_of_getElem? this]
theorem zwp {α:Type} {ks:List α} {x:α} (h:x∉ks):zmu ks (iota ks.length) x ks.length=iota (ks++[x]).length:=by
 unfold zmu;rw [zes.2 h,List.length_append,List.length_singleton,zqd]
theorem zqT {α:Type} [DecidableEq α]:∀ {l U:List α},U.Nodup->(∀ x∈U,x∈l)->l.length<=U.length->l.Nodup
 | [],_,_,_,_=>List.nodup_nil
 | a::l,U,hU,hs,hl=>by
  have ha:a∉l:=fun ha=>by
   have:=zt8 (l:=U) (U:=l) hU (fun x hx=>by
    rcases List.mem_cons.1 (hs x hx) with rfl | h
    ·exact ha
    ·exact h)
   rw [List.length_cons] at hl;omega
  refine List.nodup_cons.2 ⟨ha,?_⟩
  refine zqT (U:=U.erase a) (hU.erase a) (fun x hx => ?_) ?_
  ·have hne:x≠a:=((List.Nodup.mem_erase_iff hU).1 hx).1;rcases List.mem_cons.1 (hs x (List.mem_of_mem_erase hx)) with h | h
   ·exact absurd h hne
   ·exact h
  ·have:U.length - 1<=(U.erase a).length:=by
    by_cases h:a∈U
    ·rw [List.length_erase_of_mem h];omega
    ·rw [List.erase_of_not_mem h];omega
   rw [List.length_cons] at hl;omega
section
variable {P:Int->Prop} {V:Int->Int->Int->Int}
abbrev Key:=Int×Int×Int
def ziR (r:Rl):Key:=(r.1,r.2.1,r.2.2.1)
def zfH (l:List Int) (x:Int):Int:=if x < 0 then -1 else ix l x
structure SI (P:Int->Prop) (V:Int->Int->Int->Int) (D:Key->Prop) (l c c1:List Int) (out:List Rl):Prop where
 nd:l.Nodup
 mem:∀ x∈l,P x
 k:c=l
 v:c1=iota l.length
 kd:(out.map ziR).Nodup
 km:∀ x:Key,x∈out.map ziR↔D x
 r:∀ r∈out,(r.2.1 = -1/\r.2.2.1 = -1\/0<=r.2.1/\r.2.1 < l.length/\0<=r.2.2.1/\r.2.2.1 < l.length)/\0<=r.2.2.2.1/\r.2.2.2.1 < l.length/\ix l r.2.2.2.1=V r.1 (zfH l r.2.1) (zfH l r.2.2.1)
theorem SI.congr {D D':Key->Prop} {l c c1:List Int} {out:List Rl} (h:SI P V D l c c1 out) (e:∀ x,D' x↔D x):SI P V D' l c c1 out:=
 ⟨h.nd,h.mem,h.k,h.v,h.kd,fun x=>(h.km x).trans (e x).symm,h.r⟩
theorem zlf {l z:List Int} {x:Int} (h:x < l.length):zfH (l++z) x=zfH l x:=by
 unfold zfH
 split
 ·rfl
 ·rw [zdf (by omega) h]
theorem SI.put {D:Key->Prop} {l c c1:List Int} {out:List Rl} (h:SI P V D l c c1 out) (hl:l.length<=1000) {x p q:Int} (hk : ¬ D (x,p,q)) (hpq:p = -1/\q = -1\/0<=p/\p < l.length/\0<=q/\q < l.length) (hP:P (V x (zfH l p) (zfH l q))):
  ∃ n l' c' c1',zb8 (V x (zfH l p) (zfH l q)) c c1 l=some (n,l',c',c1')/\(∃ z,l'=l++z)/\SI P V (fun y=>D y\/y=(x,p,q)) l' c' c1' (out++[(x,p,q,n,())]):=by
 obtain ⟨nd,mem,hc,hv,kd,km,hr⟩:=h;obtain ⟨s,es⟩:∃ s,V x (zfH l p) (zfH l q)=s:=⟨_,rfl⟩;rw [hc,hv,es];rw [es] at hP;have add:∀ (n:Int) (z:List Int),0<=n->n < (l++z).length->ix (l++z) n=s->(((out++[(x,p,q,n,())]).map ziR).Nodup/\(∀ y:Key,y∈(out++[(x,p,q,n,())]).map ziR↔(D y\/y=(x,p,q)))/\∀ r∈out++[((x,p,q,n,()):Rl)],(r.2.1 = -1/\r.2.2.1 = -1\/0<=r.2.1/\r.2.1 < (l++z).length/\0<=r.2.2.1/\r.2.2.1 < (l++z).length)/\0<=r.2.2.2.1/\r.2.2.2.1 < (l++z).length/\ix (l++z) r.2.2.2.1=V r.1 (zfH (l++z) r.2.1) (zfH (l++z) r.2.2.1)):=by
  intro n z n0 n1 hn;refine ⟨?_,fun y => ?_,fun r hr' => ?_⟩
  ·rw [List.map_append,List.nodup_append];refine ⟨kd,by simp,fun y hy w hw => ?_⟩
   simp only [List.map_cons,List.map_nil,List.mem_singleton] at hw;rintro rfl;rw [hw] at hy;exact hk ((km _).1 hy)
  ·rw [List.map_append,List.mem_append,km y];simp only [List.map_cons,List.map_nil,List.mem_singleton];rfl
  ·have hlen:((l++z).length:Int)=l.length+z.length:=by rw [List.length_append];omega
   rcases List.mem_append.1 hr' with hr' | hr'
   ·obtain ⟨g1,g2,g3,g4⟩:=hr r hr';refine ⟨by omega,g2,by omega,?_⟩
    rw [zdf g2 g3,g4,zlf (by omega),zlf (by omega)]
   ·rw [List.mem_singleton.1 hr'];refine ⟨by dsimp only;omega,n0,n1,?_⟩
    dsimp only;rw [hn,zlf (by omega),zlf (by omega),es]
 unfold zb8;by_cases cs:s∈l
 ·obtain ⟨j,hj⟩:=ztX cs;have h1:=zib hj;have h2:=zgV hj;obtain ⟨a1,a2,a3⟩:=add j [] (by omega) (by simp;omega) (by rw [List.append_nil];unfold ix;simp [List.getD_eq_getElem?_getD,h2])
  rw [List.append_nil] at a3;refine ⟨j,l,l,iota l.length,?_,⟨[],by simp⟩,nd,mem,rfl,rfl,a1,a2,a3⟩
  rw [if_neg (by rw [zr5.2 cs];simp),ztZ hj]
 ·obtain ⟨a1,a2,a3⟩:=add l.length [s] (by omega) (by rw [List.length_append,List.length_singleton];omega) zf2
  refine ⟨l.length,l++[s],l++[s],iota (l++[s]).length,?_,⟨[s],rfl⟩,?_,fun y hy => ?_,rfl,rfl,a1,a2,a3⟩
  ·have hn:zc0 l s=none:=zes.2 cs;have:mhas l s=false:=by cases e:mhas l s with
    | false=>rfl
    | true=>exact absurd (zr5.1 e) cs
   rw [if_pos (by rw [this];rfl),zah (by unfold room;simp;omega)]
   unfold zjA zmu;rw [hn];simp only [List.length_append,List.length_singleton,zqd]
  ·rw [List.nodup_append];exact ⟨nd,by simp,fun x hx y hy=>by rw [List.mem_singleton] at hy;subst hy;exact fun e=>cs (e ▸ hx)⟩
  ·rcases List.mem_append.1 hy with hy | hy
   ·exact mem y hy
   ·rw [List.mem_singleton.1 hy];exact hP
theorem SI.few {D:Key->Prop} {l c c1:List Int} {out:List Rl} (h:SI P V D l c c1 out) (hl:l.length<=64) (hD:∀ x:Key,D x->0<=x.1/\x.1 < 2):out.length<=8450:=by
 have:=zoz (l:=out.map (fun r=>r.1 * 4225+(r.2.1+1) * 65+(r.2.2.1+1))) (n:=8450) (by
  unfold List.Nodup;rw [List.pairwise_map];have hk:=h.kd;unfold List.Nodup at hk;rw [List.pairwise_map] at hk;refine List.Pairwise.imp_of_mem (fun {r s} hr hs hne e => ?_) hk
  obtain ⟨r1,_⟩:=h.r r hr;obtain ⟨s1,_⟩:=h.r s hs;have d1:=hD _ ((h.km _).1 (List.mem_map_of_mem hr));have d2:=hD _ ((h.km _).1 (List.mem_map_of_mem hs));unfold ziR at hne d1 d2;dsimp only at d1 d2;refine hne ?_
  have e1:r.1=s.1:=by omega
  have e2:r.2.1=s.2.1:=by omega
  have e3:r.2.2.1=s.2.2.1:=by omega
  rw [e1,e2,e3]) (fun x hx=>by
   obtain ⟨r,hr,rfl⟩:=List.mem_map.1 hx;obtain ⟨r1,_⟩:=h.r r hr;have d1:=hD _ ((h.km _).1 (List.mem_map_of_mem hr));unfold ziR at d1;dsimp only at d1;omega)
 simpa using this
end
section
variable {a:TA} {N:Nat}
def PS (N:Nat) (s:Int):Prop:=SetN N s
theorem zww (hN:N<=6) {l:List Int} (nd:l.Nodup) (mem:∀ x∈l,PS N x):l.length<=64:=by
 have h64:2 ^ N<=64:=by
  have:2 ^ N<=2 ^ 6:=Nat.pow_le_pow_right (by omega) hN
  omega
 exact zoz nd fun x hx=>by
  have:=(mem x hx).b;have h2:((2 ^ N:Nat):Int)<=64:=by exact_mod_cast h64
  omega
abbrev SIa (a:TA) (N:Nat) (D:Key->Prop) (l c c1:List Int) (out:List Rl):Prop:=SI (PS N) (zoa a N) D l c c1 out
theorem SIa.len (hN:N<=6) {D:Key->Prop} {l c c1:List Int} {out:List Rl} (h:SIa a N D l c c1 out):l.length<=64:=zww hN h.nd h.mem
theorem zpn (ok:Ok0 a) (hN:N<=6) (hs:a.2.1=N) {D:Key->Prop} {l c c1:List Int} {out:List Rl} (h:SIa a N D l c c1 out) {x p q:Int} (hk : ¬ D (x,p,q)) (hpq:p = -1/\q = -1\/0<=p/\p < l.length/\0<=q/\q < l.length):
  ∃ n l' c' c1',zda x (zfH l p) (zfH l q) a=some (zoa a N x (zfH l p) (zfH l q))/\zb8 (zoa a N x (zfH l p) (zfH l q)) c c1 l=some (n,l',c',c1')/\(∃ z,l'=l++z)/\SIa a N (fun y=>D y\/y=(x,p,q)) l' c' c1' (out++[(x,p,q,n,())]):=by
 have hl:=SIa.len hN h;obtain ⟨n,l',c',c1',e,z,h'⟩:=SI.put h (by omega) hk hpq (znD a (by omega) x _ _).1
 refine ⟨n,l',c',c1',?_,e,z,h'⟩
 unfold zda;rw [zuj ok (by omega) hs];rfl
def D6 (t:Int) (x:Key):Prop:=0<=x.1/\x.1 < t/\x.2.1 = -1/\x.2.2 = -1
def D11 (L i:Int) (x:Key):Prop:=D6 L x\/(0<=x.1/\x.1 < L/\0<=x.2.1/\x.2.1 < i/\0<=x.2.2/\x.2.2 < i)
def D14 (L i t:Int) (x:Key):Prop:=D11 L i x\/(0<=x.1/\x.1 < t/\(x.2.1=i/\0<=x.2.2/\x.2.2<=i\/x.2.2=i/\0<=x.2.1/\x.2.1<=i))
def D17 (L i t k:Int) (x:Key):Prop:=D14 L i t x\/(x.1=t/\(x.2.1=i/\0<=x.2.2/\x.2.2 < k\/x.2.2=i/\0<=x.2.1/\x.2.1 < k/\x.2.1 < i))
theorem zvj {L i t k:Int} {x:Key} (h:D17 L i t k x) (hL:L<=2) (ht:0<=t/\t < 2):0<=x.1/\x.1 < 2:=by
 unfold D17 D14 D11 D6 at h;rcases h with ((h | h) | h) | h<;>omega
theorem zwH {x y:Key} (h:x.1=y.1/\x.2.1=y.2.1/\x.2.2=y.2.2):x=y:=by
 obtain ⟨a,b,c⟩:=x;obtain ⟨a',b',c'⟩:=y;simp only at h;rw [h.1,h.2.1,h.2.2]
theorem zlu {x:Key} {p q r:Int}:x=(p,q,r)↔x.1=p/\x.2.1=q/\x.2.2=r:=⟨fun h=>by rw [h];exact ⟨rfl,rfl,rfl⟩,fun h=>zwH h⟩
theorem zws {L i t k:Int} (hi:0<=i) : ¬ D17 L i t k (t,i,k):=by
 unfold D17 D14 D11 D6;dsimp only;rintro (((h | h) | h) | h)<;>omega
theorem zwt {L i t k:Int} (k0:0<=k) (hk:k < i) : ¬ (D17 L i t k (t,k,i)\/(t,k,i)=(t,i,k)):=by
 simp only [zlu];unfold D17 D14 D11 D6;dsimp only;rintro ((((h | h) | h) | h) | h)<;>omega
theorem zwu {L i t k:Int} {x:Key} (hk:k < i) (k0:0<=k):D17 L i t (k+1) x↔(D17 L i t k x\/x=(t,i,k))\/x=(t,k,i):=by
 simp only [zlu];unfold D17;by_cases hA:D14 L i t x
 ·simp [hA]
 ·simp only [hA,false_or];omega
theorem zwv {L i t k:Int} {x:Key} (hk:k=i) (k0:0<=k):D17 L i t (k+1) x↔D17 L i t k x\/x=(t,i,k):=by
 simp only [zlu];unfold D17;by_cases hA:D14 L i t x
 ·simp [hA]
 ·simp only [hA,false_or];omega
theorem D14_s {L i t:Int} {x:Key} (t0:0<=t):D14 L i (t+1) x↔D17 L i t (i+1) x:=by
 unfold D17 D14;by_cases hA:D11 L i x
 ·simp [hA]
 ·simp only [hA,false_or];omega
theorem D17_z {L i t:Int} {x:Key}:D17 L i t 0 x↔D14 L i t x:=by
 unfold D17;by_cases hA:D14 L i t x
 ·simp [hA]
 ·simp only [hA,false_or,iff_false];omega
theorem D11_s {L i:Int} {x:Key} (hi:0<=i):D11 L (i+1) x↔D14 L i L x:=by
 unfold D14 D11;by_cases hA:D6 L x
 ·simp [hA]
 ·simp only [hA,false_or];omega
theorem D14_z {L i:Int} {x:Key}:D14 L i 0 x↔D11 L i x:=by
 unfold D14;by_cases hA:D11 L i x
 ·simp [hA]
 ·simp only [hA,false_or,iff_false];omega
abbrev R8:=Int->Int->Int->Int->List Int->List Int->List Int->List Rl->Option TA
theorem zjz {l:List Int} {x:Int} (h:0<=x):zfH l x=ix l x:=by unfold zfH;rw [if_neg (by omega)]
theorem zuX (ok:Ok0 a) (hN:N<=6) (hs:a.2.1=N) {L i t o1 o2 o3:Int} (hL:L<=2) (ht:0<=t/\t < L) (hi:0<=i) {r14:R8}:∀ (n:Nat) (k:Int) (l c c1:List Int) (out:List Rl),(i+1 - k).toNat=n->0<=k->k<=i+1->i < l.length->SIa a N (D17 L i t k) l c c1 out->
  ∃ l' c' c1' out',zcH a i t r14 k o1 o2 o3 l c c1 out=r14 (t+1) o1 o2 o3 l' c' c1' out'/\(∃ z,l'=l++z)/\SIa a N (D14 L i (t+1)) l' c' c1' out':=by
 intro n
 induction n with
 | zero=>
  intro k l c c1 out hn k0 k1 hl h;have hlen:=SIa.len hN h;obtain rfl:k=i+1:=by omega
  refine ⟨l,c,c1,out,?_,⟨[],by simp⟩,h.congr fun x=>D14_s ht.1⟩
  rw [ziE];unfold zcS;rw [if_neg (by simp),zah (by unfold fits;omega)]
 | succ n ih=>
  intro k l c c1 out hn k0 k1 hl h;have hlen:=SIa.len hN h;have hfew:=SI.few h (by omega) (fun x hx=>zvj hx hL ⟨ht.1,by omega⟩)
  obtain ⟨m,l1,c2,c12,e1,e2,⟨z1,hz1⟩,h1⟩:=zpn ok hN hs h (x:=t) (p:=i) (q:=k) (zws hi) (.inr ⟨hi,hl,k0,by omega⟩)
  have hlen1:=SIa.len hN h1;have len1:(l1.length:Int)=l.length+z1.length:=by rw [hz1,List.length_append];omega
  rw [zjz hi,zjz k0] at e1 e2;have hfew1:(out++[((t,i,k,m,()):Rl)]).length<=8451:=by rw [List.length_append,List.length_singleton];omega
  have fin:∃ l' c' c1' out',zdb a i t k (zcH a i t r14) o1 o2 o3 l1 c2 c12 (out++[(t,i,k,m,())])=r14 (t+1) o1 o2 o3 l' c' c1' out'/\(∃ z,l'=l++z)/\SIa a N (D14 L i (t+1)) l' c' c1' out':=by
   have J21:∀ (l3 c3 c13:List Int) (out3:List Rl),(∃ z,l3=l++z)->SIa a N (D17 L i t (k+1)) l3 c3 c13 out3->∃ l' c' c1' out',zcG k (zcH a i t r14) o1 o2 o3 l3 c3 c13 out3=r14 (t+1) o1 o2 o3 l' c' c1' out'/\(∃ z,l'=l++z)/\SIa a N (D14 L i (t+1)) l' c' c1' out':=by
    rintro l3 c3 c13 out3 ⟨z,rfl⟩ h3;obtain ⟨l',c',c1',out',e,⟨z',hz'⟩,h'⟩:=ih (k+1) _ c3 c13 out3 (by omega) (by omega) (by omega) (by rw [List.length_append];omega) h3
    refine ⟨l',c',c1',out',?_,⟨z++z',by rw [hz',List.append_assoc]⟩,h'⟩
    unfold zcG;rw [zah (by unfold fits;omega)];exact e
   unfold zdb;by_cases ck:k < i
   ·rw [if_pos (decide_eq_true ck),zah (by omega),zah (by omega),zah (by omega),zah (by omega)]
    obtain ⟨m2,l3,c3,c13,e3,e4,⟨z3,hz3⟩,h3⟩:=zpn ok hN hs h1 (x:=t) (p:=k) (q:=i) (zwt k0 ck) (.inr ⟨k0,by omega,hi,by omega⟩)
    rw [zjz hi,zjz k0] at e3 e4;obtain ⟨l',c',c1',out',e,hh⟩:=J21 l3 c3 c13 _ ⟨z1++z3,by rw [hz3,hz1,List.append_assoc]⟩ (h3.congr fun x=>zwu ck k0)
    refine ⟨l',c',c1',out',?_,hh⟩
    rw [e3];simp only [Option.bind_some];rw [e4];simp only [Option.bind_some]
    repeat' first | exact e | refine zbC ?_ ?_ | refine G_to (by unfold room;rw [List.length_singleton];omega) ?_
   ·rw [if_neg (by simpa using ck)]
    exact J21 l1 c2 c12 _ ⟨z1,hz1⟩ (h1.congr fun x=>zwv (by omega) k0)
  obtain ⟨l',c',c1',out',e,hh⟩:=fin;refine ⟨l',c',c1',out',?_,hh⟩
  rw [ziE];unfold zcS;rw [if_pos (decide_eq_true (by omega)),zah (by omega),zah (by omega),zah (by omega),zah (by omega),e1]
  simp only [Option.bind_some];rw [e2];simp only [Option.bind_some]
  repeat' first | exact e | refine zbC ?_ ?_ | refine G_to (by unfold room;rw [List.length_singleton];omega) ?_
theorem zuW (ok:Ok0 a) (hN:N<=6) (hs:a.2.1=N) {L i o1 o2 o3:Int} (hL:L<=2) (hi:0<=i) {r11:R8}:∀ (n:Nat) (t:Int) (l c c1:List Int) (out:List Rl),(L - t).toNat=n->0<=t->t<=L->i < l.length->SIa a N (D14 L i t) l c c1 out->
  ∃ l' c' c1' out',zdc L a i r11 t o1 o2 o3 l c c1 out=r11 (i+1) o1 o2 o3 l' c' c1' out'/\(∃ z,l'=l++z)/\SIa a N (D11 L (i+1)) l' c' c1' out':=by
 intro n
 induction n with
 | zero=>
  intro t l c c1 out hn t0 t1 hl h;have hlen:=SIa.len hN h;obtain rfl:t=L:=by omega
  refine ⟨l,c,c1,out,?_,⟨[],by simp⟩,h.congr fun x=>D11_s hi⟩
  rw [ziD];unfold zcR;rw [if_neg (by simp),zah (by unfold fits;omega)]
 | succ n ih=>
  intro t l c c1 out hn t0 t1 hl h;have hlen:=SIa.len hN h;obtain ⟨l1,c2,c12,out1,e1,⟨z1,hz1⟩,h1⟩:=zuX ok hN hs hL ⟨t0,by omega⟩ hi (o1:=o1) (o2:=o2) (o3:=o3) (r14:=zdc L a i r11) _ 0 l c c1 out rfl (by omega) (by omega) hl (h.congr fun x=>D17_z)
  obtain ⟨l',c',c1',out',e,⟨z',hz'⟩,h'⟩:=ih (t+1) l1 c2 c12 out1 (by omega) (by omega) (by omega) (by rw [hz1,List.length_append];omega) h1
  refine ⟨l',c',c1',out',?_,⟨z1++z',by rw [hz',hz1,List.append_assoc]⟩,h'⟩
  rw [ziD];unfold zcR;rw [if_pos (decide_eq_true (by omega)),zah (by unfold fits;omega),e1]
  exact e
theorem zuV (ok:Ok0 a) (hN:N<=6) (hs:a.2.1=N) {L o1 o2 o3:Int} (hL:1<=L/\L<=2):∀ (n:Nat) (i:Int) (l c c1:List Int) (out:List Rl),(65 - i).toNat=n->0<=i->i<=l.length->SIa a N (D11 L i) l c c1 out->
  ∃ l' c' c1' out',zfG L a a i o1 o2 o3 l c c1 out=zdU a l' 0 o1 o2 o3 out' []/\(∃ z,l'=l++z)/\SIa a N (D11 L l'.length) l' c' c1' out':=by
 intro n
 induction n with
 | zero=>
  intro i l c c1 out hn i0 i1 h;have hlen:=SIa.len hN h;omega
 | succ n ih=>
  intro i l c c1 out hn i0 i1 h;have hlen:=SIa.len hN h;by_cases ci:i=l.length
  ·subst ci;refine ⟨l,c,c1,out,?_,⟨[],by simp⟩,h⟩
   rw [ziC];unfold zcQ;rw [if_neg (by simp)]
  ·obtain ⟨l1,c2,c12,out1,e1,⟨z1,hz1⟩,h1⟩:=zuW ok hN hs hL.2 i0 (o1:=o1) (o2:=o2) (o3:=o3) (r11:=zfG L a a) _ 0 l c c1 out rfl (by omega) (by omega) (by omega) (h.congr fun x=>D14_z)
   obtain ⟨l',c',c1',out',e,⟨z',hz'⟩,h'⟩:=ih (i+1) l1 c2 c12 out1 (by omega) (by omega) (by rw [hz1,List.length_append];omega) h1
   refine ⟨l',c',c1',out',?_,⟨z1++z',by rw [hz',hz1,List.append_assoc]⟩,h'⟩
   rw [ziC];unfold zcQ;rw [if_pos (decide_eq_true (by omega)),e1]
   exact e
theorem zv2 (ok:Ok0 a) (hN:N<=6) (hs:a.2.1=N) {L o1 o2 o3:Int} (hL:1<=L/\L<=2):∀ (n:Nat) (t:Int) (l c c1:List Int) (out:List Rl),(L - t).toNat=n->0<=t->t<=L->SIa a N (D6 t) l c c1 out->(0 < t->0 < l.length)->
  ∃ l' c' c1' out',zgh L a a t o1 o2 o3 c c1 l out=zdU a l' 0 o1 o2 o3 out' []/\0 < l'.length/\SIa a N (D11 L l'.length) l' c' c1' out':=by
 intro n
 induction n with
 | zero=>
  intro t l c c1 out hn t0 t1 h hp;obtain rfl:t=L:=by omega
  have:=hp (by omega)
  obtain ⟨l',c',c1',out',e,⟨z,hz⟩,h'⟩:=zuV ok hN hs hL (o1:=o1) (o2:=o2) (o3:=o3) _ 0 l c c1 out rfl (by omega) (by omega) (h.congr fun x=>by unfold D11 D6;omega)
  refine ⟨l',c',c1',out',?_,by rw [hz,List.length_append];omega,h'⟩
  rw [zji];unfold zdh;rw [if_neg (by simp)]
  exact e
 | succ n ih=>
  intro t l c c1 out hn t0 t1 h hp;have hlen:=SIa.len hN h;have hfew:=SI.few h (by omega) (fun x hx=>by unfold D6 at hx;omega)
  obtain ⟨m,l1,c2,c12,e1,e2,⟨z1,hz1⟩,h1⟩:=zpn ok hN hs h (x:=t) (p := -1) (q := -1) (by unfold D6;dsimp only;omega) (.inl ⟨rfl,rfl⟩)
  have e0:zfH l (-1) = -1:=by unfold zfH;rw [if_pos (by omega)]
  rw [e0] at e1 e2;have hm:=h1.r (t,-1,-1,m,()) (by simp)
  dsimp only at hm;obtain ⟨l',c',c1',out',e,hh⟩:=ih (t+1) l1 c2 c12 _ (by omega) (by omega) (by omega) (h1.congr fun x=>by simp only [zlu];unfold D6;omega) (fun _=>by omega)
  refine ⟨l',c',c1',out',?_,hh⟩
  have fin:zdQ t (zgh L a a) o1 o2 o3 l1 c2 c12 (out++[(t,-1,-1,m,())])=zdU a l' 0 o1 o2 o3 out' []:=by
   unfold zdQ;rw [zah (by unfold fits;omega)];exact e
  rw [zji];unfold zdh;rw [if_pos (decide_eq_true (by omega)),e1]
  simp only [Option.bind_some];rw [e2];simp only [Option.bind_some]
  repeat' first | exact fin | refine zbC ?_ ?_ | refine G_to (by unfold room;rw [List.length_singleton];omega) ?_
end
section
variable {α:Type} [Inhabited α]
theorem ixA (d:Array α) (n:Nat):ix d.toList (n:Int)=d[n]! :=by
 unfold ix;rw [Int.toNat_natCast,List.getD_eq_getElem?_getD,Array.getElem?_toList,getElem!_def]
 cases h:d[n]? <;>rfl
theorem setA (d:Array α) (i:Nat) (x:α):d.toList.set i x=(d.setIfInBounds i x).toList:=by simp
theorem swpA (d:Array α) (i j:Nat):(d.toList.set i d[j]!).set j d[i]! =(Go.Sort.swp d i j).toList:=by
 unfold Go.Sort.swp;rw [setA,setA]
theorem swpZ (d:Array α) (i j:Nat):(Go.Sort.swp d i j).size=d.size:=by unfold Go.Sort.swp;simp
end
theorem znV {x:Int} (h0:0<=x) (h1:x < 18446744073709551616):IntKind.wrap .u64 x=x:=by
 unfold IntKind.wrap;simp [IntKind.bits,IntKind.signed];omega
theorem zw2 {x:Int} (h0:0<=x) (h1:x < 256):IntKind.wrap .u8 x=x:=by
 unfold IntKind.wrap;simp [IntKind.bits,IntKind.signed];omega
theorem zuo {x:Int} (h0:0<=x) (h1:x < 9223372036854775808):IntKind.wrap .i64 x=x:=by
 unfold IntKind.wrap;simp [IntKind.bits,IntKind.signed];omega
def BL (x v:Int):Prop:=0<=v/\v<=32/\x < 2 ^ v.toNat/\(0 < x->(2:Int) ^ v.toNat<=2 * x)
def bTbl:List UInt8:=[0,1,2,2,3,3,3,3,4,4,4,4,4,4,4,4,5,5,5,5,5,5,5,5,5,5,5,5,5,5,5,5,6,6,6,6,6,6,6,6,6,6,6,6,6,6,6,6,6,6,6,6,6,6,6,6,6,6,6,6,6,6,6,6,7,7,7,7,7,7,7,7,7,7,7,7,7,7,7,7,7,7,7,7,7,7,7,7,7,7,7,7,7,7,7,7,7,7,7,7,7,7,7,7,7,7,7,7,7,7,7,7,7,7,7,7,7,7,7,7,7,7,7,7,7,7,7,7,8,8,8,8,8,8,8,8,8,8,8,8,8,8,8,8,8,8,8,8,8,8,8,8,8,8,8,8,8,8,8,8,8,8,8,8,8,8,8,8,8,8,8,8,8,8,8,8,8,8,8,8,8,8,8,8,8,8,8,8,8,8,8,8,8,8,8,8,8,8,8,8,8,8,8,8,8,8,8,8,8,8,8,8,8,8,8,8,8,8,8,8,8,8,8,8,8,8,8,8,8,8,8,8,8,8,8,8,8,8,8,8,8,8,8,8,8,8,8,8,8,8,8,8,8,8,8,8]
theorem zus:(List.range 256).all (fun x=>decide ((bTbl.getD x 0).toNat<=8/\x < 2 ^ (bTbl.getD x 0).toNat/\(x=0\/2 ^ (bTbl.getD x 0).toNat<=2 * x)))=true:=by decide+kernel
theorem zut:bTbl.length=256:=by decide+kernel
theorem zwy {x n:Int} (h0:0<=x) (h1:x < 256) (n0:0<=n) (n1:n<=100):∃ v,zgC x n=some (n+v)/\v<=8/\BL x v:=by
 have ha:=zus;rw [List.all_eq_true] at ha;have hx:=ha x.toNat (by rw [List.mem_range];omega)
 simp only [decide_eq_true_eq] at hx;obtain ⟨k1,k2,k3⟩:=hx;have e:zgC x n=G (0<=IntKind.wrap .u8 x/\IntKind.wrap .u8 x < (bTbl.length:Int)) (G (fits (n+IntKind.wrap .i64 (bAt bTbl (IntKind.wrap .u8 x)))) (some (n+IntKind.wrap .i64 (bAt bTbl (IntKind.wrap .u8 x))))):=rfl;have eb:bAt bTbl x=((bTbl.getD x.toNat 0).toNat:Int):=rfl;rw [e,zw2 h0 h1,eb,zut];generalize (bTbl.getD x.toNat 0).toNat=t at *
 rw [zuo (by omega) (by omega),zah (by omega),zah (by unfold fits;omega)]
 have h2:(2:Int) ^ t=((2 ^ t:Nat):Int):=by simp
 exact ⟨t,rfl,by omega,by omega,by omega,by rw [Int.toNat_natCast,h2];omega,fun hp=>by rw [Int.toNat_natCast,h2];omega⟩
theorem ztL {x:Int} {k:Nat} (hk:k<=64):ishr .u64 x (k:Int)=x / 2 ^ k:=by
 unfold ishr;rw [Int.toNat_natCast,show min k (IntKind.bits .u64)=k from Nat.min_eq_left hk];exact Int.fdiv_eq_ediv_of_nonneg _ (by
  have:(2:Int) ^ k=((2 ^ k:Nat):Int):=by simp
  rw [this];exact Int.natCast_nonneg _)
theorem BL.up {x v:Int} {k:Nat} (h:BL (x / 2 ^ k) v) (hx:(2:Int) ^ k<=x) (hv:v+k<=32):BL x (k+v):=by
 obtain ⟨a,b,c,d⟩:=h;have hk:(0:Int) < 2 ^ k:=by
  have:(2:Int) ^ k=((2 ^ k:Nat):Int):=by simp
  have:=Nat.two_pow_pos k;omega
 have e:((k:Int)+v).toNat=k+v.toNat:=by omega
 have hm:=Int.mul_ediv_add_emod x (2 ^ k);have hr:=Int.emod_nonneg x (by omega:(2:Int) ^ k≠0)
 have hr2:=Int.emod_lt_of_pos x hk;have hq:1<=x / 2 ^ k:=by
  have:=(Int.le_ediv_iff_mul_le hk).2 (by omega:1 * (2:Int) ^ k<=x)
  exact this
 refine ⟨by omega,by omega,?_,fun _ => ?_⟩
 ·rw [e,Int.pow_add];have h1:(2:Int) ^ k * (x / 2 ^ k+1)<=2 ^ k * 2 ^ v.toNat:=Int.mul_le_mul_of_nonneg_left (by omega) (by omega)
  rw [Int.mul_add] at h1;omega
 ·rw [e,Int.pow_add];have h1:(2:Int) ^ k * 2 ^ v.toNat<=2 ^ k * (2 * (x / 2 ^ k)):=Int.mul_le_mul_of_nonneg_left (d (by omega)) (by omega)
  rw [<- Int.mul_assoc,Int.mul_comm _ 2,Int.mul_assoc] at h1;omega
theorem zwx {x n:Int} (h0:0<=x) (h1:x < 65536) (n0:0<=n) (n1:n<=64):∃ v,zgB x n=some (n+v)/\v<=16/\BL x v:=by
 unfold zgB;by_cases c:256<=x
 ·rw [if_pos (decide_eq_true c),zah (by omega),zah (by unfold fits;omega),show (8:Int)=((8:Nat):Int) from rfl,ztL (by omega)]
  have e8:(2:Int) ^ 8=256:=rfl;obtain ⟨v,e,h,b⟩:=zwy (x:=x / 2 ^ 8) (n:=n+((8:Nat):Int)) (by omega) (by omega) (by omega) (by omega)
  exact ⟨((8:Nat):Int)+v,by rw [e,Int.add_assoc],by omega,b.up (by omega) (by omega)⟩
 ·rw [if_neg (by simpa using c)]
  obtain ⟨v,e,h,b⟩:=zwy (x:=x) (n:=n) h0 (by omega) (by omega) (by omega)
  exact ⟨v,e,by omega,b⟩
theorem bits3 {x n:Int} (h0:0<=x) (h1:x < 4294967296) (n0:0<=n) (n1:n<=32):∃ v,zgA x n=some (n+v)/\v<=32/\BL x v:=by
 unfold zgA;by_cases c:65536<=x
 ·rw [if_pos (decide_eq_true c),zah (by omega),zah (by unfold fits;omega),show (16:Int)=((16:Nat):Int) from rfl,ztL (by omega)]
  have e8:(2:Int) ^ 16=65536:=rfl;obtain ⟨v,e,h,b⟩:=zwx (x:=x / 2 ^ 16) (n:=n+((16:Nat):Int)) (by omega) (by omega) (by omega) (by omega)
  exact ⟨((16:Nat):Int)+v,by rw [e,Int.add_assoc],by omega,b.up (by omega) (by omega)⟩
 ·rw [if_neg (by simpa using c)]
  obtain ⟨v,e,h,b⟩:=zwx (x:=x) (n:=n) h0 (by omega) (by omega) (by omega)
  exact ⟨v,e,by omega,b⟩
theorem zpJ {x:Int} (h0:0<=x) (h1:x < 4294967296):∃ v,zke x=some v/\BL x v:=by
 unfold zke zlk;obtain ⟨v,e,h,b⟩:=bits3 (x:=x) (n:=0) h0 h1 (by omega) (by omega)
 refine ⟨v,?_,b⟩
 rw [if_neg (by simp only [decide_eq_true_eq];omega),e,Int.zero_add]
 rfl
theorem zvM {n:Int} (h0:8<=n) (h1:n<=1000000000):∃ M,zc6 n=some M/\0 < M/\M<=2 * n:=by
 unfold zc6;rw [znV (by omega) (by omega)]
 obtain ⟨v,e,b1,b2,b3,b4⟩:=zpJ (x:=n) (by omega) (by omega)
 have b4:=b4 (by omega)
 have h2:(2:Int) ^ v.toNat=((2 ^ v.toNat:Nat):Int):=by simp
 refine ⟨2 ^ v.toNat,zbs e ?_,by omega,b4⟩
 rw [zah b1];unfold ishl;rw [show min v.toNat (IntKind.bits .u64)=v.toNat from Nat.min_eq_left (by show v.toNat<=64;omega),Int.one_mul,znV (by omega) (by omega)]
theorem iandU {x y:Int} (h0:0<=y) (h1:y < 4294967296):0<=iand .u64 x y/\iand .u64 x y<=y:=by
 unfold iand;have h:(BitVec.ofInt IntKind.u64.bits x &&& BitVec.ofInt IntKind.u64.bits y).toNat<=y.toNat:=by
  show (BitVec.ofInt 64 x &&& BitVec.ofInt 64 y).toNat<=y.toNat;rw [BitVec.toNat_and];refine Nat.le_trans Nat.and_le_right ?_
  rw [BitVec.toNat_ofInt];have:y % ((2 ^ 64:Nat):Int)=y:=Int.emod_eq_of_lt h0 (by omega)
  rw [this];exact Nat.le_refl _
 generalize (BitVec.ofInt IntKind.u64.bits x &&& BitVec.ofInt IntKind.u64.bits y).toNat=t at *
 rw [znV (by omega) (by omega)]
 omega
open Classical in
def ordV (x y:Rl):Int:=(zhP x y).choose
theorem zfp (x y:Rl):zbu x y=some (ordV x y):=(zhP x y).choose_spec.1
theorem zvS (x y:Rl):0<=ordV x y ↔ ¬ RLt x y:=(zhP x y).choose_spec.2
def ltS (x y:Rl):Bool:=decide (ordV x y < 0)
theorem zr2 {x y:Rl}:ltS x y=false ↔ ¬ RLt x y:=by unfold ltS;rw [decide_eq_false_iff_not,<- zvS x y];omega
theorem zvJ {x y:Rl}:ltS x y=true↔RLt x y:=by
 have:=zr2 (x:=x) (y:=y)
 cases h:ltS x y with
 | true=>simp only [true_iff];exact Classical.byContradiction fun hn=>by rw [h] at this;simpa using this.2 hn
 | false=>simpa using this.1 h
theorem swoS:Go.Sort.SWO ltS where
 irrefl x:=by rw [zr2];unfold RLt;omega
 trans x y z h1 h2:=by rw [zvJ] at *; unfold RLt at *; omega
 ntrans x y z h1 h2:=by rw [zr2] at *; unfold RLt at *; omega
section
theorem zng (a:Nat) (r1:Int->List Rl->Option (List Rl)) (i:Int) (hi:0<=i/\i < 1000000000):∀ (j:Nat) (d:Array Rl),j < d.size->d.size<=1000000000->
  zaH a i r1 j d.toList=r1 (i+1) (Go.Sort.insInner ltS a j d).toList
 | 0,d,hj,hd=>by
  have:=d.length_toList;rw [zc5];unfold zay;rw [if_neg (by simp),zah (by unfold fits;omega)]
  rfl
 | j+1,d,hj,hd=>by
  have hl:=d.length_toList;rw [zc5];unfold zay;unfold Go.Sort.insInner;rw [show ((j+1:Nat):Int) - 1=(j:Int) by omega]
  by_cases c:a < j+1
  ·rw [if_pos (by simp only [decide_eq_true_eq];omega)]
   (repeat (rw [zah (by first | omega | (unfold fits;omega) | (simp only [List.length_set,Array.length_toList];omega))]))
   rw [ixA,ixA,zfp];show (if ltS d[j+1]! d[j]! =true then _ else _)=_
   rw [show decide (j+1 > a)=true from decide_eq_true c,Bool.true_and]
   cases ltS d[j+1]! d[j]! with
   | true=>
    rw [if_pos rfl,if_pos rfl]
    (repeat (rw [zah (by first | omega | (unfold fits;omega) | (simp only [List.length_set,Array.length_toList];omega))]))
    rw [Int.toNat_natCast,Int.toNat_natCast,swpA];exact zng a r1 i hi j _ (by rw [swpZ];omega) (by rw [swpZ];exact hd)
   | false=>
    rw [if_neg (by simp),if_neg (by simp)]
    (repeat (rw [zah (by first | omega | (unfold fits;omega) | (simp only [List.length_set,Array.length_toList];omega))]))
  ·rw [if_neg (by simp only [decide_eq_true_eq];omega),zah (by unfold fits;omega)]
   rw [show decide (j+1 > a)=false from decide_eq_false c,Bool.false_and,if_neg (by simp)]
theorem zgm (a:Nat):∀ (j:Nat) (d:Array Rl),(Go.Sort.insInner ltS a j d).size=d.size
 | 0,_=>rfl
 | j+1,d=>by
  unfold Go.Sort.insInner
  split
  ·rw [zgm a j,swpZ]
  ·rfl
theorem zre (a b:Nat):∀ (n i:Nat) (d:Array Rl),b - i=n->i<=1000000001->b<=d.size->d.size<=1000000000->
  zbw a b i d.toList=some (Go.Sort.insOuter ltS a b i d).toList:=by
 intro n
 induction n with
 | zero=>
  intro i d hn hi hb hd;rw [zc4];unfold zax;unfold Go.Sort.insOuter;rw [if_neg (by simp only [decide_eq_true_eq];omega),if_neg (by omega)]
 | succ n ih=>
  intro i d hn hi hb hd;rw [zc4];unfold zax;unfold Go.Sort.insOuter;rw [if_pos (by simp only [decide_eq_true_eq];omega),if_pos (by omega),zng a _ i (by omega) i d (by omega) hd]
  have:=ih (i+1) (Go.Sort.insInner ltS a i d) (by omega) (by omega) (by rw [zgm];exact hb) (by rw [zgm];exact hd)
  rw [<- this];rfl
theorem zsy (a b:Nat) (d:Array Rl) (ha:a<=b) (hb:b<=d.size) (hd:d.size<=1000000000):zbO a b d.toList=some (Go.Sort.insertionSort ltS d a b).toList:=by
 unfold zbO Go.Sort.insertionSort
 (repeat (rw [zah (by first | omega | (unfold fits;omega) | (simp only [List.length_set,Array.length_toList];omega))]))
 exact zre a b _ (a+1) d rfl (by omega) hb hd
theorem zrz (hi first:Nat):∀ (n root:Nat) (d:Array Rl),hi - root<=n->first+hi<=d.size->d.size<=1000000000->root<=1000000000->
  zbj hi first root d.toList=some (Go.Sort.siftDown ltS hi first root d).toList:=by
 intro n
 induction n with
 | zero=>
  intro root d hn hf hd hr;rw [zef];unfold zaX;unfold Go.Sort.siftDown
  (repeat (rw [zah (by first | omega | (unfold fits;omega) | (simp only [List.length_set,Array.length_toList];omega))]))
  rw [if_pos (by simp only [decide_eq_true_eq];omega),dif_pos (by omega)]
 | succ n ih=>
  intro root d hn hf hd hr;have hl:=d.length_toList;rw [zef];unfold zaX;unfold Go.Sort.siftDown
  (repeat (rw [zah (by first | omega | (unfold fits;omega) | (simp only [List.length_set,Array.length_toList];omega))]))
  by_cases c:hi<=2 * root+1
  ·rw [if_pos (by simp only [decide_eq_true_eq];omega),dif_pos (by omega)]
  ·rw [if_neg (by simp only [decide_eq_true_eq];omega),dif_neg (by omega)]
   (repeat (rw [zah (by first | omega | (unfold fits;omega) | (simp only [List.length_set,Array.length_toList];omega))]))
   have J4:∀ ch:Nat,ch < hi->root < ch->za6 first root d.toList (zbj hi first) ch=some (if !ltS d[first+root]! d[first+ch]! then d else Go.Sort.siftDown ltS hi first ch (Go.Sort.swp d (first+root) (first+ch))).toList:=fun ch h1 h2=>by
    unfold za6;rw [show (first:Int)+(root:Int)=((first+root:Nat):Int) by omega,show (first:Int)+(ch:Int)=((first+ch:Nat):Int) by omega]
    (repeat (rw [zah (by first | omega | (unfold fits;omega) | (simp only [List.length_set,Array.length_toList];omega))]))
    rw [ixA,ixA,zfp];show (if (!ltS d[first+root]! d[first+ch]!)=true then _ else _)=_
    cases ltS d[first+root]! d[first+ch]! with
    | true=>
     rw [if_neg (by simp),if_neg (by simp)]
     (repeat (rw [zah (by first | omega | (unfold fits;omega) | (simp only [List.length_set,Array.length_toList];omega))]))
     rw [Int.toNat_natCast,Int.toNat_natCast,swpA];exact ih ch _ (by omega) (by rw [swpZ];exact hf) (by rw [swpZ];exact hd) (by omega)
    | false=>rw [if_pos (by simp),if_pos (by simp)]
   have e1:(2:Int) * (root:Int)+1=((2 * root+1:Nat):Int):=by omega
   have e2:((2 * root+1:Nat):Int)+1=((2 * root+2:Nat):Int):=by omega
   have J3:∀ t:Bool,(t=true->2 * root+2 < hi)->za5 first root d.toList (zbj hi first) t=some (if t=true then (if !ltS d[first+root]! d[first+(2 * root+2)]! then d else Go.Sort.siftDown ltS hi first (2 * root+2) (Go.Sort.swp d (first+root) (first+(2 * root+2)))) else
     (if !ltS d[first+root]! d[first+(2 * root+1)]! then d else Go.Sort.siftDown ltS hi first (2 * root+1) (Go.Sort.swp d (first+root) (first+(2 * root+1))))).toList:=fun t ht=>by
    unfold za5;rw [e1,e2]
    cases t with
    | true=>rw [if_pos rfl,if_pos rfl];(repeat (rw [zah (by first | omega | (unfold fits;omega) | (simp only [List.length_set,Array.length_toList];omega))]));exact J4 _ (ht rfl) (by omega)
    | false=>rw [if_neg (by simp),if_neg (by simp)];exact J4 _ (by omega) (by omega)
   rw [e1,e2];by_cases c2:2 * root+2 < hi
   ·rw [if_pos (by simp only [decide_eq_true_eq];omega)]
    rw [show (first:Int)+((2 * root+1:Nat):Int)=((first+(2 * root+1):Nat):Int) by omega,show ((first+(2 * root+1):Nat):Int)+1=((first+(2 * root+1)+1:Nat):Int) by omega]
    (repeat (rw [zah (by first | omega | (unfold fits;omega) | (simp only [List.length_set,Array.length_toList];omega))]))
    rw [ixA,ixA,zfp];refine (J3 _ (fun _=>c2)).trans ?_
    rw [show decide (2 * root+1+1 < hi)=true from decide_eq_true c2,Bool.true_and];show some (Array.toList (if ltS d[first+(2 * root+1)]! d[first+(2 * root+1)+1]! =true then _ else _))=_
    cases ltS d[first+(2 * root+1)]! d[first+(2 * root+1)+1]! with
    | true=>simp [c2]
    | false=>simp
   ·rw [if_neg (by simp only [decide_eq_true_eq];omega),J3 false (by simp),show decide (2 * root+1+1 < hi)=false from decide_eq_false c2,Bool.false_and]
    simp
theorem zf9 (hi first:Nat):∀ (n root:Nat) (d:Array Rl),hi - root<=n->(Go.Sort.siftDown ltS hi first root d).size=d.size:=by
 intro n
 induction n with
 | zero=>intro root d hn;unfold Go.Sort.siftDown;rw [dif_pos (by omega)]
 | succ n ih=>
  intro root d hn;unfold Go.Sort.siftDown
  split
  ·rfl
  ·split
   ·split
    ·rfl
    ·split
     ·rw [ih _ _ (by omega),swpZ]
     ·rfl
   ·split
    ·rfl
    ·rw [ih _ _ (by omega),swpZ]
theorem zmg (lo hi first:Nat) (d:Array Rl) (hf:first+hi<=d.size) (hd:d.size<=1000000000) (hl:lo<=1000000000):zb6 lo hi first d.toList=some (Go.Sort.siftDown ltS hi first lo d).toList:=by
 unfold zb6;exact zrz hi first _ lo d (Nat.le_refl _) hf hd hl
theorem zl4 (a n:Nat):∀ (k:Nat) (d:Array Rl),k<=n->a+n<=d.size->d.size<=1000000000->zcg a ((k:Int) - 1) d.toList=some (Go.Sort.heapPop ltS a k d).toList
 | 0,d,hk,ha,hd=>by
  rw [zeb];unfold zaS;rw [if_neg (by simp only [decide_eq_true_eq];omega)];rfl
 | k+1,d,hk,ha,hd=>by
  have hl:=d.length_toList;rw [zeb];unfold zaS;unfold Go.Sort.heapPop;rw [show ((k+1:Nat):Int) - 1=(k:Int) by omega,if_pos (by simp only [decide_eq_true_eq];omega),show (a:Int)+(k:Int)=((a+k:Nat):Int) by omega]
  (repeat (rw [zah (by first | omega | (unfold fits;omega) | (simp only [List.length_set,Array.length_toList];omega))]))
  rw [ixA,ixA,Int.toNat_natCast,Int.toNat_natCast,swpA];refine zbs (zmg 0 k a _ (by rw [swpZ];omega) (by rw [swpZ];exact hd) (by omega)) ?_
  (repeat (rw [zah (by first | omega | (unfold fits;omega) | (simp only [List.length_set,Array.length_toList];omega))]))
  exact zl4 a n k _ (by omega) (by rw [zf9 _ _ _ _ _ (Nat.le_refl _),swpZ];exact ha) (by rw [zf9 _ _ _ _ _ (Nat.le_refl _),swpZ];exact hd)
theorem zpg (hi first:Nat):∀ (k:Nat) (d:Array Rl),(Go.Sort.heapBuild ltS hi first k d).size=d.size
 | 0,_=>rfl
 | k+1,d=>by unfold Go.Sort.heapBuild;rw [zpg hi first k,zf9 _ _ _ _ _ (Nat.le_refl _)]
theorem zl3 (a b:Nat) (hab:a<=b):∀ (k:Nat) (d:Array Rl),k<=b->b<=d.size->d.size<=1000000000->zcf a b ((k:Int) - 1) d.toList=some (Go.Sort.heapPop ltS a (b - a) (Go.Sort.heapBuild ltS (b - a) a k d)).toList
 | 0,d,hk,hb,hd=>by
  rw [zea];unfold zaR;rw [if_neg (by simp only [decide_eq_true_eq];omega),show (b:Int) - (a:Int)=((b - a:Nat):Int) by omega]
  (repeat (rw [zah (by first | omega | (unfold fits;omega) | (simp only [List.length_set,Array.length_toList];omega))]))
  exact zl4 a (b - a) (b - a) d (Nat.le_refl _) (by omega) hd
 | k+1,d,hk,hb,hd=>by
  rw [zea];unfold zaR;unfold Go.Sort.heapBuild;rw [show ((k+1:Nat):Int) - 1=(k:Int) by omega,if_pos (by simp only [decide_eq_true_eq];omega),show (b:Int) - (a:Int)=((b - a:Nat):Int) by omega]
  (repeat (rw [zah (by first | omega | (unfold fits;omega) | (simp only [List.length_set,Array.length_toList];omega))]))
  refine zbs (zmg k (b - a) a d (by omega) hd (by omega)) ?_
  (repeat (rw [zah (by first | omega | (unfold fits;omega) | (simp only [List.length_set,Array.length_toList];omega))]))
  exact zl3 a b hab k _ (by omega) (by rw [zf9 _ _ _ _ _ (Nat.le_refl _)];exact hb) (by rw [zf9 _ _ _ _ _ (Nat.le_refl _)];exact hd)
theorem zrd (a b:Nat) (d:Array Rl) (hab:a < b) (hb:b<=d.size) (hd:d.size<=1000000000):zcV a b d.toList=some (Go.Sort.heapSort ltS d a b).toList:=by
 unfold zcV Go.Sort.heapSort;have e:Int.tdiv ((b:Int) - (a:Int) - 1) 2=(((b - a - 1) / 2+1:Nat):Int) - 1:=by
  rw [show (b:Int) - (a:Int) - 1=((b - a - 1:Nat):Int) by omega,show (2:Int)=((2:Nat):Int) from rfl,<- Int.ofNat_tdiv];omega
 rw [e]
 (repeat (rw [zah (by first | omega | (unfold fits;omega) | (simp only [List.length_set,Array.length_toList];omega))]))
 exact zl3 a b (by omega) _ d (by omega) hb hd
theorem zid (d:Array Rl) (a b s:Nat) (ha:a < d.size) (hb:b < d.size) (hs:s<=1000):zbS d.toList a b s=some (((Go.Sort.order2 ltS d a b s).1:Int),((Go.Sort.order2 ltS d a b s).2.1:Int),((Go.Sort.order2 ltS d a b s).2.2:Int)):=by
 have hl:=d.length_toList;unfold zbS Go.Sort.order2
 (repeat (rw [zah (by first | omega | (unfold fits;omega) | (simp only [List.length_set,Array.length_toList];omega))]))
 rw [ixA,ixA,zfp];show (if ltS d[b]! d[a]! =true then _ else _)=_
 cases ltS d[b]! d[a]! with
 | true=>rw [if_pos rfl,if_pos rfl];(repeat (rw [zah (by first | omega | (unfold fits;omega) | (simp only [List.length_set,Array.length_toList];omega))]));rfl
 | false=>rw [if_neg (by simp),if_neg (by simp)]
theorem zeE (d:Array Rl) (a b s:Nat):(Go.Sort.order2 ltS d a b s).2.2<=s+1:=by
 unfold Go.Sort.order2;split<;>simp
theorem zkF (d:Array Rl) (a b c s:Nat) (ha:a < d.size) (hb:b < d.size) (hc:c < d.size) (hs:s<=100):zcx d.toList a b c s=some (((Go.Sort.median ltS d a b c s).1:Int),((Go.Sort.median ltS d a b c s).2:Int)):=by
 unfold zcx Go.Sort.median;have h1:=Go.Sort.order2_mem ltS d a b s;have s1:=zeE d a b s;have h2:=Go.Sort.order2_mem ltS d (Go.Sort.order2 ltS d a b s).2.1 c (Go.Sort.order2 ltS d a b s).2.2;have s2:=zeE d (Go.Sort.order2 ltS d a b s).2.1 c (Go.Sort.order2 ltS d a b s).2.2;refine zbs (zid d a b s ha hb (by omega)) ?_
 refine zbs (zid d _ c _ (by omega) hc (by omega)) ?_
 refine zbs (zid d _ _ _ (by omega) (by omega) (by omega)) ?_
 rfl
theorem zhx (d:Array Rl) (a b c s:Nat):(Go.Sort.median ltS d a b c s).2<=s+3:=by
 have s1:=zeE d a b s;have s2:=zeE d (Go.Sort.order2 ltS d a b s).2.1 c (Go.Sort.order2 ltS d a b s).2.2;have s3:=zeE d (Go.Sort.order2 ltS d a b s).1 (Go.Sort.order2 ltS d (Go.Sort.order2 ltS d a b s).2.1 c (Go.Sort.order2 ltS d a b s).2.2).1 (Go.Sort.order2 ltS d (Go.Sort.order2 ltS d a b s).2.1 c (Go.Sort.order2 ltS d a b s).2.2).2.2;unfold Go.Sort.median;show (Go.Sort.order2 _ _ _ _ _).2.2<=_;omega
theorem zia (d:Array Rl) (a s:Nat) (h0:0 < a) (ha:a+1 < d.size) (hd:d.size<=1000000000) (hs:s<=100):za7 d.toList a s=some (((Go.Sort.medianAdjacent ltS d a s).1:Int),((Go.Sort.medianAdjacent ltS d a s).2:Int)):=by
 unfold za7 Go.Sort.medianAdjacent
 (repeat (rw [zah (by first | omega | (unfold fits;omega) | (simp only [List.length_set,Array.length_toList];omega))]))
 rw [show (a:Int) - 1=((a - 1:Nat):Int) by omega,show (a:Int)+1=((a+1:Nat):Int) by omega]
 exact zbs (zkF d _ _ _ _ (by omega) (by omega) ha hs) rfl
def zgT:Go.Sort.Hint->Int
 | .unknown=>0
 | .increasing=>1
 | .decreasing=>2
theorem zm4 (j s:Nat):zbz j s=some ((j:Int),zgT (if s=0 then .increasing else if s=12 then .decreasing else .unknown)):=by
 unfold zbz;by_cases c:s=0
 ·rw [if_pos (by simp [c]),if_pos c];rfl
 ·rw [if_neg (by simp;omega),if_neg c]
  by_cases c2:s=12
  ·rw [if_pos (by simp [c2]),if_pos c2];rfl
  ·rw [if_neg (by simp;omega),if_neg c2];rfl
theorem zqn (d:Array Rl) (a b:Nat) (hab:a < b) (hb:b<=d.size) (hd:d.size<=1000000000):zce d.toList a b=some (((Go.Sort.choosePivot ltS d a b).1:Int),zgT (Go.Sort.choosePivot ltS d a b).2):=by
 unfold zce Go.Sort.choosePivot;have e:Int.tdiv ((b:Int) - (a:Int)) 4=(((b - a) / 4:Nat):Int):=by
  rw [show (b:Int) - (a:Int)=((b - a:Nat):Int) by omega,show (4:Int)=((4:Nat):Int) from rfl,<- Int.ofNat_tdiv]
 have h4:=Nat.div_mul_le_self (b - a) 4;have h5:(b - a) / 4 * 4+4 > b - a:=by omega
 rw [e];dsimp only;generalize hq:(b - a) / 4=q at *
 rw [show (a:Int)+(q:Int) * 1=((a+q * 1:Nat):Int) by omega,show (a:Int)+(q:Int) * 2=((a+q * 2:Nat):Int) by omega,show (a:Int)+(q:Int) * 3=((a+q * 3:Nat):Int) by omega]
 (repeat (rw [zah (by first | omega | (unfold fits;omega) | (simp only [List.length_set,Array.length_toList];omega))]))
 have J10:∀ i j k s:Nat,i < d.size->j < d.size->k < d.size->s<=100->zby d.toList i j k s=some (((Go.Sort.median ltS d i j k s).1:Int),zgT (if (Go.Sort.median ltS d i j k s).2=0 then .increasing else if (Go.Sort.median ltS d i j k s).2=12 then .decreasing else .unknown)):=fun i j k s h1 h2 h3 h4=>by
  unfold zby;exact zbs (zkF d i j k s h1 h2 h3 h4) (zm4 _ _)
 by_cases c:8<=b - a
 ·rw [if_pos (by simp only [decide_eq_true_eq];omega),if_pos c]
  by_cases c2:50<=b - a
  ·rw [if_pos (by simp only [decide_eq_true_eq];omega),if_pos c2]
   have q1:=zhx d (a+q * 1 - 1) (a+q * 1) (a+q * 1+1) 0;have m1:=Go.Sort.median_mem ltS d (a+q * 1 - 1) (a+q * 1) (a+q * 1+1) 0;refine zbs (zia d (a+q * 1) 0 (by omega) (by omega) hd (by omega)) ?_
   unfold Go.Sort.medianAdjacent;generalize Go.Sort.median ltS d (a+q * 1 - 1) (a+q * 1) (a+q * 1+1) 0=r1 at *
   have q2:=zhx d (a+q * 2 - 1) (a+q * 2) (a+q * 2+1) r1.2;have m2:=Go.Sort.median_mem ltS d (a+q * 2 - 1) (a+q * 2) (a+q * 2+1) r1.2;refine zbs (zia d (a+q * 2) r1.2 (by omega) (by omega) hd (by omega)) ?_
   unfold Go.Sort.medianAdjacent;generalize Go.Sort.median ltS d (a+q * 2 - 1) (a+q * 2) (a+q * 2+1) r1.2=r2 at *
   have q3:=zhx d (a+q * 3 - 1) (a+q * 3) (a+q * 3+1) r2.2;have m3:=Go.Sort.median_mem ltS d (a+q * 3 - 1) (a+q * 3) (a+q * 3+1) r2.2;refine zbs (zia d (a+q * 3) r2.2 (by omega) (by omega) hd (by omega)) ?_
   unfold Go.Sort.medianAdjacent;generalize Go.Sort.median ltS d (a+q * 3 - 1) (a+q * 3) (a+q * 3+1) r2.2=r3 at *
   exact J10 r1.1 r2.1 r3.1 r3.2 (by omega) (by omega) (by omega) (by omega)
  ·rw [if_neg (by simp only [decide_eq_true_eq];omega),if_neg c2]
   exact J10 (a+q * 1) (a+q * 2) (a+q * 3) 0 (by omega) (by omega) (by omega) (by omega)
 ·rw [if_neg (by simp only [decide_eq_true_eq];omega),if_neg c]
  exact zm4 (a+q * 2) 0
theorem zru:∀ (n i j:Nat) (d:Array Rl),j - i<=n->j < d.size->d.size<=1000000000->zbA i j d.toList=some (Go.Sort.reverseLoop i j d).toList:=by
 intro n
 induction n with
 | zero=>
  intro i j d hn hj hd;rw [zdt];unfold zaE;unfold Go.Sort.reverseLoop;rw [if_neg (by simp only [decide_eq_true_eq];omega),if_neg (by omega)]
 | succ n ih=>
  intro i j d hn hj hd;have hl:=d.length_toList;rw [zdt];unfold zaE;unfold Go.Sort.reverseLoop;by_cases c:i < j
  ·rw [if_pos (by simp only [decide_eq_true_eq];omega),if_pos c]
   (repeat (rw [zah (by first | omega | (unfold fits;omega) | (simp only [List.length_set,Array.length_toList];omega))]))
   rw [ixA,ixA,Int.toNat_natCast,Int.toNat_natCast,swpA,show (j:Int) - 1=((j - 1:Nat):Int) by omega]
   exact ih (i+1) (j - 1) _ (by omega) (by rw [swpZ];omega) (by rw [swpZ];exact hd)
  ·rw [if_neg (by simp only [decide_eq_true_eq];omega),if_neg c]
theorem zsN (a b:Nat) (d:Array Rl) (hab:a < b) (hb:b<=d.size) (hd:d.size<=1000000000):zb3 a b d.toList=some (Go.Sort.reverseRange d a b).toList:=by
 unfold zb3 Go.Sort.reverseRange
 (repeat (rw [zah (by first | omega | (unfold fits;omega) | (simp only [List.length_set,Array.length_toList];omega))]))
 rw [show (b:Int) - 1=((b - 1:Nat):Int) by omega]
 exact zru _ a (b - 1) d (Nat.le_refl _) (by omega) hd
theorem zro (b:Nat) (j:Int) (r3:Int->Int->List Rl->Option (Bool×List Rl)) (i2:Int) (hj:0<=j/\j<=100):∀ (n k:Nat) (d:Array Rl),b - k=n->0 < k->b<=d.size->d.size<=1000000000->
  zar b j r3 i2 k d.toList=r3 i2 (j+1) (Go.Sort.shiftUp ltS b k d).toList:=by
 intro n
 induction n with
 | zero=>
  intro k d hn hk hb hd;rw [zb5];unfold zan;unfold Go.Sort.shiftUp;rw [if_neg (by simp only [decide_eq_true_eq];omega),if_neg (by omega)]
  (repeat (rw [zah (by first | omega | (unfold fits;omega) | (simp only [List.length_set,Array.length_toList];omega))]))
 | succ n ih=>
  intro k d hn hk hb hd;have hl:=d.length_toList;rw [zb5];unfold zan;unfold Go.Sort.shiftUp;rw [if_pos (by simp only [decide_eq_true_eq];omega),if_pos (by omega),show (k:Int) - 1=((k - 1:Nat):Int) by omega]
  (repeat (rw [zah (by first | omega | (unfold fits;omega) | (simp only [List.length_set,Array.length_toList];omega))]))
  rw [ixA,ixA,zfp];show (if (!ltS d[k]! d[k - 1]!)=true then _ else _)=_
  cases ltS d[k]! d[k - 1]! with
  | true=>
   rw [if_neg (by simp),if_neg (by simp)]
   (repeat (rw [zah (by first | omega | (unfold fits;omega) | (simp only [List.length_set,Array.length_toList];omega))]))
   rw [Int.toNat_natCast,Int.toNat_natCast,swpA];exact ih (k+1) _ (by omega) (by omega) (by rw [swpZ];exact hb) (by rw [swpZ];exact hd)
  | false=>
   rw [if_pos (by simp),if_pos (by simp)]
   (repeat (rw [zah (by first | omega | (unfold fits;omega) | (simp only [List.length_set,Array.length_toList];omega))]))
theorem zrn (b:Nat) (j:Int) (r3:Int->Int->List Rl->Option (Bool×List Rl)) (i2:Nat) (hj:0<=j/\j<=100) (d:Array Rl) (hb:b<=d.size) (hd:d.size<=1000000000) (hi:i2<=b):
  zae b j r3 i2 d.toList=r3 i2 (j+1) (if b - i2 ≥ 2 then Go.Sort.shiftUp ltS b (i2+1) d else d).toList:=by
 unfold zae
 (repeat (rw [zah (by first | omega | (unfold fits;omega) | (simp only [List.length_set,Array.length_toList];omega))]))
 by_cases c:b - i2 ≥ 2
 ·rw [if_pos (by simp only [decide_eq_true_eq];omega),if_pos c]
  (repeat (rw [zah (by first | omega | (unfold fits;omega) | (simp only [List.length_set,Array.length_toList];omega))]))
  exact zro b j r3 i2 hj _ (i2+1) d rfl (by omega) hb hd
 ·rw [if_neg (by simp only [decide_eq_true_eq];omega),if_neg c]
  (repeat (rw [zah (by first | omega | (unfold fits;omega) | (simp only [List.length_set,Array.length_toList];omega))]))
theorem znx (b:Nat) (j:Int) (r3:Int->Int->List Rl->Option (Bool×List Rl)) (i2:Nat) (hj:0<=j/\j<=100) (hi:i2<=b):∀ (k:Nat) (d:Array Rl),k < d.size->b<=d.size->d.size<=1000000000->
  zaq b j r3 i2 k d.toList=zae b j r3 i2 (Go.Sort.shiftDown ltS k d).toList
 | 0,d,hk,hb,hd=>by
  rw [zb4];unfold zam;rw [if_neg (by simp)];rfl
 | k+1,d,hk,hb,hd=>by
  have hl:=d.length_toList;rw [zb4];unfold zam;unfold Go.Sort.shiftDown;rw [if_pos (by simp only [decide_eq_true_eq];omega),show ((k+1:Nat):Int) - 1=(k:Int) by omega]
  (repeat (rw [zah (by first | omega | (unfold fits;omega) | (simp only [List.length_set,Array.length_toList];omega))]))
  rw [ixA,ixA,zfp];show (if (!ltS d[k+1]! d[k]!)=true then _ else _)=_
  cases ltS d[k+1]! d[k]! with
  | true=>
   rw [if_neg (by simp),if_neg (by simp)]
   (repeat (rw [zah (by first | omega | (unfold fits;omega) | (simp only [List.length_set,Array.length_toList];omega))]))
   rw [Int.toNat_natCast,Int.toNat_natCast,swpA];exact znx b j r3 i2 hj hi k _ (by rw [swpZ];omega) (by rw [swpZ];exact hb) (by rw [swpZ];exact hd)
  | false=>rw [if_pos (by simp),if_pos (by simp)]
theorem zjN:∀ (k:Nat) (d:Array Rl),(Go.Sort.shiftDown ltS k d).size=d.size
 | 0,_=>rfl
 | k+1,d=>by
  unfold Go.Sort.shiftDown
  split
  ·rfl
  ·rw [zjN k,swpZ]
theorem zn9 (b:Nat):∀ (n k:Nat) (d:Array Rl),b - k=n->(Go.Sort.shiftUp ltS b k d).size=d.size:=by
 intro n
 induction n with
 | zero=>intro k d hn;unfold Go.Sort.shiftUp;rw [if_neg (by omega)]
 | succ n ih=>
  intro k d hn;unfold Go.Sort.shiftUp;rw [if_pos (by omega)]
  split
  ·rfl
  ·rw [ih _ _ (by omega),swpZ]
theorem zsK (a b:Nat) (j:Int) (d:Array Rl) (r3:Int->Int->List Rl->Option (Bool×List Rl)) (hb:b<=d.size) (hd:d.size<=1000000000):∀ (n i:Nat),b - i=n->0 < i->
  zat a b j d.toList r3 i=zas a b j d.toList r3 (Go.Sort.scanSorted ltS d b i:Nat):=by
 intro n
 induction n with
 | zero=>
  intro i hn hi;rw [zcd];unfold zap;unfold Go.Sort.scanSorted;rw [if_neg (by simp only [decide_eq_true_eq];omega),show decide (i < b)=false from decide_eq_false (by omega),Bool.false_and,if_neg (by simp)]
 | succ n ih=>
  intro i hn hi;have hl:=d.length_toList;rw [zcd];unfold zap;unfold Go.Sort.scanSorted;rw [if_pos (by simp only [decide_eq_true_eq];omega),show (i:Int) - 1=((i - 1:Nat):Int) by omega]
  (repeat (rw [zah (by first | omega | (unfold fits;omega) | (simp only [List.length_set,Array.length_toList];omega))]))
  rw [ixA,ixA,zfp,show decide (i < b)=true from decide_eq_true (by omega),Bool.true_and]
  show (if (!ltS d[i]! d[i - 1]!)=true then _ else _)=_
  cases ltS d[i]! d[i - 1]! with
  | true=>rw [if_neg (by simp),if_neg (by simp)]
  | false=>
   rw [if_pos (by simp),if_pos (by simp)]
   (repeat (rw [zah (by first | omega | (unfold fits;omega) | (simp only [List.length_set,Array.length_toList];omega))]))
   exact ih (i+1) (by omega) (by omega)
theorem zqv (d:Array Rl) (b:Nat):∀ (n i:Nat),b - i=n->i<=b->i<=Go.Sort.scanSorted ltS d b i/\Go.Sort.scanSorted ltS d b i<=b:=by
 intro n
 induction n with
 | zero=>intro i hn hi;unfold Go.Sort.scanSorted;rw [show decide (i < b)=false from decide_eq_false (by omega),Bool.false_and,if_neg (by simp)];omega
 | succ n ih=>
  intro i hn hi;unfold Go.Sort.scanSorted
  split
  ·have:=ih (i+1) (by omega) (by omega);omega
  ·omega
theorem zoy (a b:Nat) (hab:a < b):∀ (s i:Nat) (d:Array Rl),s<=5->a < i->i<=b->b<=d.size->d.size<=1000000000->
  zaM a b i (5 - (s:Int)) d.toList=some ((Go.Sort.partialIns ltS a b s i d).2,(Go.Sort.partialIns ltS a b s i d).1.toList)
 | 0,i,d,hs,hi,hib,hb,hd=>by
  rw [zcc];unfold zao;rw [if_neg (by simp)];rfl
 | s+1,i,d,hs,hi,hib,hb,hd=>by
  have hl:=d.length_toList;rw [zcc];unfold zao;unfold Go.Sort.partialIns;rw [if_pos (by simp only [decide_eq_true_eq];omega),zsK a b _ d _ hb hd _ i rfl (by omega)]
  obtain ⟨k1,k2⟩:=zqv d b _ i rfl hib;dsimp only;generalize Go.Sort.scanSorted ltS d b i=k at *
  unfold zas;by_cases c1:k=b
  ·rw [if_pos (by simp [c1]),if_pos c1]
  ·rw [if_neg (by simp only [decide_eq_true_eq];omega),if_neg c1]
   (repeat (rw [zah (by first | omega | (unfold fits;omega) | (simp only [List.length_set,Array.length_toList];omega))]))
   by_cases c2:b - a < 50
   ·rw [if_pos (by simp only [decide_eq_true_eq];omega),if_pos c2]
   ·rw [if_neg (by simp only [decide_eq_true_eq];omega),if_neg c2,show (k:Int) - 1=((k - 1:Nat):Int) by omega]
    (repeat (rw [zah (by first | omega | (unfold fits;omega) | (simp only [List.length_set,Array.length_toList];omega))]))
    rw [ixA,ixA,Int.toNat_natCast,Int.toNat_natCast,swpA];have hz:=swpZ d k (k - 1);have e5:(5 - ((s+1:Nat):Int))+1=5 - (s:Int):=by omega
    have fin:∀ d2:Array Rl,d2.size=d.size->zae b (5 - ((s+1:Nat):Int)) (zaM a b) k d2.toList=some ((Go.Sort.partialIns ltS a b s k (if b - k ≥ 2 then Go.Sort.shiftUp ltS b (k+1) d2 else d2)).2,(Go.Sort.partialIns ltS a b s k (if b - k ≥ 2 then Go.Sort.shiftUp ltS b (k+1) d2 else d2)).1.toList):=fun d2 h2=>by
     rw [zrn b _ _ k (by omega) d2 (by omega) (by omega) k2,e5]
     have hz2:(if b - k ≥ 2 then Go.Sort.shiftUp ltS b (k+1) d2 else d2).size=d2.size:=by
      split
      ·exact zn9 b _ _ _ rfl
      ·rfl
     exact zoy a b hab s k _ (by omega) (by omega) k2 (by omega) (by omega)
    by_cases c3:k - a ≥ 2
    ·rw [if_pos (by simp only [decide_eq_true_eq];omega),if_pos c3,znx b _ _ k (by omega) k2 (k - 1) _ (by omega) (by omega) (by omega)]
     exact fin _ ((zjN _ _).trans hz)
    ·rw [if_neg (by simp only [decide_eq_true_eq];omega),if_neg c3]
     exact fin _ hz
theorem zn6 (a b:Nat) (d:Array Rl) (hab:a < b) (hb:b<=d.size) (hd:d.size<=1000000000):zbh a b d.toList=some ((Go.Sort.partialInsertionSort ltS d a b).2,(Go.Sort.partialInsertionSort ltS d a b).1.toList):=by
 unfold zbh Go.Sort.partialInsertionSort
 (repeat (rw [zah (by first | omega | (unfold fits;omega) | (simp only [List.length_set,Array.length_toList];omega))]))
 exact zoy a b hab 5 (a+1) d (Nat.le_refl _) (by omega) (by omega) hb hd
theorem zox (a i2:Nat) (d:Array Rl) (r:Int->Int->List Rl->Option (Int×List Rl)) (ha:a < d.size) (hd:d.size<=1000000000) (hi:0 < i2):∀ j:Nat,j < d.size->
  zaD a d.toList r i2 j=zaB d.toList r i2 (Go.Sort.scanDown (fun x=>ltS d[a]! x) d i2 j:Nat)
 | 0,hj=>by
  rw [zcZ];unfold zav;rw [if_neg (by simp only [decide_eq_true_eq];omega)];rfl
 | j+1,hj=>by
  have hl:=d.length_toList;rw [zcZ];unfold zav;unfold Go.Sort.scanDown;by_cases c:i2<=j+1
  ·rw [if_pos (by simp only [decide_eq_true_eq];omega)]
   (repeat (rw [zah (by first | omega | (unfold fits;omega) | (simp only [List.length_set,Array.length_toList];omega))]))
   rw [ixA,ixA,zfp,show decide (i2<=j+1)=true from decide_eq_true c,Bool.true_and];show (if ltS d[a]! d[j+1]! =true then _ else _)=_
   cases ltS d[a]! d[j+1]! with
   | true=>
    rw [if_pos rfl,if_pos rfl]
    (repeat (rw [zah (by first | omega | (unfold fits;omega) | (simp only [List.length_set,Array.length_toList];omega))]))
    rw [show ((j+1:Nat):Int) - 1=(j:Int) by omega]
    exact zox a i2 d r ha hd hi j (by omega)
   | false=>rw [if_neg (by simp),if_neg (by simp)]
  ·rw [if_neg (by simp only [decide_eq_true_eq];omega),show decide (i2<=j+1)=false from decide_eq_false c,Bool.false_and,if_neg (by simp)]
theorem zsJ (a j:Nat) (d:Array Rl) (r:Int->Int->List Rl->Option (Int×List Rl)) (ha:a < d.size) (hj:j < d.size) (hd:d.size<=1000000000):∀ (n i:Nat),j+1 - i=n->
  zaC a j d.toList r i=zaA a j d.toList r (Go.Sort.scanUp (fun x => !ltS d[a]! x) d j i:Nat):=by
 intro n
 induction n with
 | zero=>
  intro i hn;rw [zcX];unfold zau;unfold Go.Sort.scanUp;rw [if_neg (by simp only [decide_eq_true_eq];omega),show decide (i<=j)=false from decide_eq_false (by omega),Bool.false_and,if_neg (by simp)]
 | succ n ih=>
  intro i hn;have hl:=d.length_toList;rw [zcX];unfold zau;unfold Go.Sort.scanUp;rw [if_pos (by simp only [decide_eq_true_eq];omega),show decide (i<=j)=true from decide_eq_true (by omega),Bool.true_and]
  (repeat (rw [zah (by first | omega | (unfold fits;omega) | (simp only [List.length_set,Array.length_toList];omega))]))
  rw [ixA,ixA,zfp];show (if (!ltS d[a]! d[i]!)=true then _ else _)=_
  cases ltS d[a]! d[i]! with
  | true=>rw [if_neg (by simp),if_neg (by simp)]
  | false=>
   rw [if_pos (by simp),if_pos (by simp)]
   (repeat (rw [zah (by first | omega | (unfold fits;omega) | (simp only [List.length_set,Array.length_toList];omega))]))
   exact ih (i+1) (by omega)
theorem zrm (a:Nat):∀ (n i j:Nat) (d:Array Rl),j+1 - i<=n->a < i->j < d.size->a < d.size->d.size<=1000000000->
  zbr a i j d.toList=some (((Go.Sort.partEqLoop ltS a i j d).1:Int),(Go.Sort.partEqLoop ltS a i j d).2.toList):=by
 intro n
 induction n using Nat.strongRecOn with
 | ind n ih=>
  intro i j d hn hi hj ha hd;have hl:=d.length_toList;rw [ze3];unfold zaF;have g1:=Go.Sort.scanUp_ge (fun x => !ltS d[a]! x) d j i
  have u1:=Go.Sort.scanUp_spec (fun x => !ltS d[a]! x) d j _ i rfl
  rw [zsJ a j d _ ha hj hd _ i rfl,Go.Sort.partEqLoop_eq];unfold zaA;generalize Go.Sort.scanUp (fun x => !ltS d[a]! x) d j i=i2 at *
  have g2:=Go.Sort.scanDown_le (fun x=>ltS d[a]! x) d i2 j
  rw [zox a i2 d _ ha hd (by omega) j hj]
  unfold zaB;generalize Go.Sort.scanDown (fun x=>ltS d[a]! x) d i2 j=j2 at *
  by_cases c:i2 > j2
  ·rw [if_pos (by simp only [decide_eq_true_eq];omega),if_pos c]
  ·rw [if_neg (by simp only [decide_eq_true_eq];omega),if_neg c]
   (repeat (rw [zah (by first | omega | (unfold fits;omega) | (simp only [List.length_set,Array.length_toList];omega))]))
   rw [ixA,ixA,Int.toNat_natCast,Int.toNat_natCast,swpA,show (j2:Int) - 1=((j2 - 1:Nat):Int) by omega]
   exact ih (j2 - 1+1 - (i2+1)) (by omega) (i2+1) (j2 - 1) _ (Nat.le_refl _) (by omega) (by rw [swpZ];omega) (by rw [swpZ];exact ha) (by rw [swpZ];exact hd)
theorem zpq (a b pivot:Nat) (d:Array Rl) (h1:a<=pivot) (h2:pivot < b) (hb:b<=d.size) (hd:d.size<=1000000000):zbE a b pivot d.toList=some (((Go.Sort.partitionEqual ltS d a b pivot).1:Int),(Go.Sort.partitionEqual ltS d a b pivot).2.toList):=by
 have hl:=d.length_toList;unfold zbE Go.Sort.partitionEqual
 (repeat (rw [zah (by first | omega | (unfold fits;omega) | (simp only [List.length_set,Array.length_toList];omega))]))
 rw [ixA,ixA,Int.toNat_natCast,Int.toNat_natCast,swpA,show (b:Int) - 1=((b - 1:Nat):Int) by omega]
 exact zrm a _ (a+1) (b - 1) _ (Nat.le_refl _) (by omega) (by rw [swpZ];omega) (by rw [swpZ];omega) (by rw [swpZ];exact hd)
theorem zot (a i2:Nat) (d:Array Rl) (r:Int->Int->List Rl->Option (Int×Bool×List Rl)) (ha:a < d.size) (hd:d.size<=1000000000) (hi:0 < i2):∀ j:Nat,j < d.size->
  zaW a d.toList r i2 j=zaU a d.toList r i2 (Go.Sort.scanDown (fun x => !ltS x d[a]!) d i2 j:Nat)
 | 0,hj=>by
  rw [zdN];unfold zaK;rw [if_neg (by simp only [decide_eq_true_eq];omega)];rfl
 | j+1,hj=>by
  have hl:=d.length_toList;rw [zdN];unfold zaK;unfold Go.Sort.scanDown;by_cases c:i2<=j+1
  ·rw [if_pos (by simp only [decide_eq_true_eq];omega)]
   (repeat (rw [zah (by first | omega | (unfold fits;omega) | (simp only [List.length_set,Array.length_toList];omega))]))
   rw [ixA,ixA,zfp,show decide (i2<=j+1)=true from decide_eq_true c,Bool.true_and];show (if (!ltS d[j+1]! d[a]!)=true then _ else _)=_
   cases ltS d[j+1]! d[a]! with
   | false=>
    rw [if_pos (by simp),if_pos (by simp)]
    (repeat (rw [zah (by first | omega | (unfold fits;omega) | (simp only [List.length_set,Array.length_toList];omega))]))
    rw [show ((j+1:Nat):Int) - 1=(j:Int) by omega]
    exact zot a i2 d r ha hd hi j (by omega)
   | true=>rw [if_neg (by simp),if_neg (by simp)]
  ·rw [if_neg (by simp only [decide_eq_true_eq];omega),show decide (i2<=j+1)=false from decide_eq_false c,Bool.false_and,if_neg (by simp)]
theorem zsH (a j:Nat) (d:Array Rl) (r:Int->Int->List Rl->Option (Int×Bool×List Rl)) (ha:a < d.size) (hj:j < d.size) (hd:d.size<=1000000000):∀ (n i:Nat),j+1 - i=n->
  zaV a j d.toList r i=zaT a j d.toList r (Go.Sort.scanUp (fun x=>ltS x d[a]!) d j i:Nat):=by
 intro n
 induction n with
 | zero=>
  intro i hn;rw [zdL];unfold zaJ;unfold Go.Sort.scanUp;rw [if_neg (by simp only [decide_eq_true_eq];omega),show decide (i<=j)=false from decide_eq_false (by omega),Bool.false_and,if_neg (by simp)]
 | succ n ih=>
  intro i hn;have hl:=d.length_toList;rw [zdL];unfold zaJ;unfold Go.Sort.scanUp;rw [if_pos (by simp only [decide_eq_true_eq];omega),show decide (i<=j)=true from decide_eq_true (by omega),Bool.true_and]
  (repeat (rw [zah (by first | omega | (unfold fits;omega) | (simp only [List.length_set,Array.length_toList];omega))]))
  rw [ixA,ixA,zfp];show (if ltS d[i]! d[a]! =true then _ else _)=_
  cases ltS d[i]! d[a]! with
  | false=>rw [if_neg (by simp),if_neg (by simp)]
  | true=>
   rw [if_pos (by simp),if_pos (by simp)]
   (repeat (rw [zah (by first | omega | (unfold fits;omega) | (simp only [List.length_set,Array.length_toList];omega))]))
   exact ih (i+1) (by omega)
theorem zrk (a:Nat):∀ (n i j:Nat) (d:Array Rl),j+1 - i<=n->a < i->j < d.size->a < d.size->d.size<=1000000000->
  zbD a i j d.toList=some (((Go.Sort.partLoop ltS a i j d).1:Int),false,(Go.Sort.swp (Go.Sort.partLoop ltS a i j d).2 (Go.Sort.partLoop ltS a i j d).1 a).toList):=by
 intro n
 induction n using Nat.strongRecOn with
 | ind n ih=>
  intro i j d hn hi hj ha hd;have hl:=d.length_toList;rw [zfV];unfold za1;have g1:=Go.Sort.scanUp_ge (fun x=>ltS x d[a]!) d j i
  rw [zsH a j d _ ha hj hd _ i rfl,Go.Sort.partLoop_eq];unfold zaT;generalize Go.Sort.scanUp (fun x=>ltS x d[a]!) d j i=i2 at *
  have g2:=Go.Sort.scanDown_le (fun x => !ltS x d[a]!) d i2 j
  rw [zot a i2 d _ ha hd (by omega) j hj]
  unfold zaU;generalize Go.Sort.scanDown (fun x => !ltS x d[a]!) d i2 j=j2 at *
  by_cases c:i2 > j2
  ·rw [if_pos (by simp only [decide_eq_true_eq];omega),if_pos c]
   (repeat (rw [zah (by first | omega | (unfold fits;omega) | (simp only [List.length_set,Array.length_toList];omega))]))
   rw [ixA,ixA,Int.toNat_natCast,Int.toNat_natCast,swpA]
  ·rw [if_neg (by simp only [decide_eq_true_eq];omega),if_neg c]
   (repeat (rw [zah (by first | omega | (unfold fits;omega) | (simp only [List.length_set,Array.length_toList];omega))]))
   rw [ixA,ixA,Int.toNat_natCast,Int.toNat_natCast,swpA,show (j2:Int) - 1=((j2 - 1:Nat):Int) by omega]
   exact ih (j2 - 1+1 - (i2+1)) (by omega) (i2+1) (j2 - 1) _ (Nat.le_refl _) (by omega) (by rw [swpZ];omega) (by rw [swpZ];exact ha) (by rw [swpZ];exact hd)
theorem zqm (a pivot i1:Nat) (d:Array Rl) (ha:a < d.size) (hp:pivot < d.size) (hd:d.size<=1000000000) (hi:0 < i1):∀ j:Nat,j < d.size->
  zb2 a pivot d.toList i1 j=zb0 a pivot d.toList i1 (Go.Sort.scanDown (fun x => !ltS x (Go.Sort.swp d a pivot)[a]!) (Go.Sort.swp d a pivot) i1 j:Nat)
 | 0,hj=>by
  rw [zd4];unfold zaO;rw [if_neg (by simp only [decide_eq_true_eq];omega)];rfl
 | j+1,hj=>by
  have hl:=d.length_toList;have hz:=swpZ d a pivot;have hl2:=(Go.Sort.swp d a pivot).length_toList;rw [zd4];unfold zaO;unfold Go.Sort.scanDown;rw [ixA d pivot,ixA d a,Int.toNat_natCast a,Int.toNat_natCast pivot,swpA];by_cases c:i1<=j+1
  ·rw [if_pos (by simp only [decide_eq_true_eq];omega)]
   (repeat (rw [zah (by first | omega | (unfold fits;omega) | (simp only [List.length_set,Array.length_toList];omega))]))
   rw [ixA,ixA,zfp,show decide (i1<=j+1)=true from decide_eq_true c,Bool.true_and];show (if (!ltS (Go.Sort.swp d a pivot)[j+1]! (Go.Sort.swp d a pivot)[a]!)=true then _ else _)=_
   cases ltS (Go.Sort.swp d a pivot)[j+1]! (Go.Sort.swp d a pivot)[a]! with
   | false=>
    rw [if_pos (by simp),if_pos (by simp)]
    (repeat (rw [zah (by first | omega | (unfold fits;omega) | (simp only [List.length_set,Array.length_toList];omega))]))
    rw [show ((j+1:Nat):Int) - 1=(j:Int) by omega]
    exact zqm a pivot i1 d ha hp hd hi j (by omega)
   | true=>rw [if_neg (by simp),if_neg (by simp)]
  ·rw [if_neg (by simp only [decide_eq_true_eq];omega),show decide (i1<=j+1)=false from decide_eq_false c,Bool.false_and,if_neg (by simp)]
theorem zt5 (a b pivot:Nat) (d:Array Rl) (ha:a < d.size) (hp:pivot < d.size) (hb0:0 < b) (hb:b<=d.size) (hd:d.size<=1000000000):∀ (n i:Nat),b - 1+1 - i=n->
  zb1 a b pivot d.toList i=zbZ a b pivot d.toList (Go.Sort.scanUp (fun x=>ltS x (Go.Sort.swp d a pivot)[a]!) (Go.Sort.swp d a pivot) (b - 1) i:Nat):=by
 intro n;have hl:=d.length_toList;have hz:=swpZ d a pivot;have hl2:=(Go.Sort.swp d a pivot).length_toList
 induction n with
 | zero=>
  intro i hn;rw [zd3];unfold zaN;unfold Go.Sort.scanUp
  (repeat (rw [zah (by first | omega | (unfold fits;omega) | (simp only [List.length_set,Array.length_toList];omega))]))
  rw [if_neg (by simp only [decide_eq_true_eq];omega),show decide (i<=b - 1)=false from decide_eq_false (by omega),Bool.false_and,if_neg (by simp)]
 | succ n ih=>
  intro i hn;rw [zd3];unfold zaN;unfold Go.Sort.scanUp
  (repeat (rw [zah (by first | omega | (unfold fits;omega) | (simp only [List.length_set,Array.length_toList];omega))]))
  rw [ixA d pivot,ixA d a,Int.toNat_natCast a,Int.toNat_natCast pivot,swpA];rw [if_pos (by simp only [decide_eq_true_eq];omega),show decide (i<=b - 1)=true from decide_eq_true (by omega),Bool.true_and]
  (repeat (rw [zah (by first | omega | (unfold fits;omega) | (simp only [List.length_set,Array.length_toList];omega))]))
  rw [ixA,ixA,zfp];show (if ltS (Go.Sort.swp d a pivot)[i]! (Go.Sort.swp d a pivot)[a]! =true then _ else _)=_
  cases ltS (Go.Sort.swp d a pivot)[i]! (Go.Sort.swp d a pivot)[a]! with
  | false=>rw [if_neg (by simp),if_neg (by simp)]
  | true=>
   rw [if_pos (by simp),if_pos (by simp)]
   (repeat (rw [zah (by first | omega | (unfold fits;omega) | (simp only [List.length_set,Array.length_toList];omega))]))
   exact ih (i+1) (by omega)
theorem zrl (a b pivot:Nat) (d:Array Rl) (h1:a<=pivot) (h2:pivot < b) (hb:b<=d.size) (hd:d.size<=1000000000):zcB a b pivot d.toList=some (((Go.Sort.partition ltS d a b pivot).1:Int),(Go.Sort.partition ltS d a b pivot).2.1,(Go.Sort.partition ltS d a b pivot).2.2.toList):=by
 have hl:=d.length_toList;have hz:=swpZ d a pivot;have hl2:=(Go.Sort.swp d a pivot).length_toList;unfold zcB Go.Sort.partition;dsimp only
 (repeat (rw [zah (by first | omega | (unfold fits;omega) | (simp only [List.length_set,Array.length_toList];omega))]))
 have g1:=Go.Sort.scanUp_ge (fun x=>ltS x (Go.Sort.swp d a pivot)[a]!) (Go.Sort.swp d a pivot) (b - 1) (a+1)
 have e1:=zt5 a b pivot d (by omega) (by omega) (by omega) hb hd _ (a+1) rfl
 rw [show ((a+1:Nat):Int)=(a:Int)+1 by omega] at e1
 rw [e1];unfold zbZ;generalize Go.Sort.scanUp (fun x=>ltS x (Go.Sort.swp d a pivot)[a]!) (Go.Sort.swp d a pivot) (b - 1) (a+1)=i1 at *
 have g2:=Go.Sort.scanDown_le (fun x => !ltS x (Go.Sort.swp d a pivot)[a]!) (Go.Sort.swp d a pivot) i1 (b - 1)
 rw [show (b:Int) - 1=((b - 1:Nat):Int) by omega]
 (repeat (rw [zah (by first | omega | (unfold fits;omega) | (simp only [List.length_set,Array.length_toList];omega))]))
 rw [zqm a pivot i1 d (by omega) (by omega) hd (by omega) (b - 1) (by omega)]
 unfold zb0;generalize Go.Sort.scanDown (fun x => !ltS x (Go.Sort.swp d a pivot)[a]!) (Go.Sort.swp d a pivot) i1 (b - 1)=j1 at *
 rw [ixA d pivot,ixA d a,Int.toNat_natCast a,Int.toNat_natCast pivot,swpA];by_cases c:i1 > j1
 ·rw [if_pos (by simp only [decide_eq_true_eq];omega),if_pos c]
  (repeat (rw [zah (by first | omega | (unfold fits;omega) | (simp only [List.length_set,Array.length_toList];omega))]))
  rw [ixA,ixA,Int.toNat_natCast,swpA]
 ·rw [if_neg (by simp only [decide_eq_true_eq];omega),if_neg c]
  (repeat (rw [zah (by first | omega | (unfold fits;omega) | (simp only [List.length_set,Array.length_toList];omega))]))
  rw [ixA,ixA,Int.toNat_natCast,Int.toNat_natCast,swpA,show (j1:Int) - 1=((j1 - 1:Nat):Int) by omega]
  exact zrk a _ (i1+1) (j1 - 1) _ (Nat.le_refl _) (by omega) (by rw [swpZ];omega) (by rw [swpZ];omega) (by rw [swpZ];omega)
theorem zsk (a b:Nat) (M:Int) (h8:a+8<=b) (hM:0 < M/\M<=2 * ((b:Int) - a)):∀ (n idx:Nat) (rnd:Int) (d:Array Rl),a+(b - a) / 4 * 2+2 - idx=n->a<=idx->b<=d.size->d.size<=1000000000->
  ∃ d',zbd a b M idx d.toList rnd=some d'.toList/\Go.Sort.PermIn a b d d':=by
 intro n;have e:Int.tdiv ((b:Int) - (a:Int)) 4=(((b - a) / 4:Nat):Int):=by
  rw [show (b:Int) - (a:Int)=((b - a:Nat):Int) by omega,show (4:Int)=((4:Nat):Int) from rfl,<- Int.ofNat_tdiv]
 have h4:=Nat.div_mul_le_self (b - a) 4
 induction n with
 | zero=>
  intro idx rnd d hn hi hb hd;refine ⟨d,?_,Go.Sort.permIn_refl d a b⟩
  rw [zc3];unfold zaw;rw [e]
  (repeat (rw [zah (by first | omega | (unfold fits;omega) | (simp only [List.length_set,Array.length_toList];omega))]))
  rw [if_neg (by simp only [decide_eq_true_eq];omega)]
 | succ n ih=>
  intro idx rnd d hn hi hb hd;have hl:=d.length_toList;rw [zc3];unfold zaw;rw [e]
  (repeat (rw [zah (by first | omega | (unfold fits;omega) | (simp only [List.length_set,Array.length_toList];omega))]))
  rw [if_pos (by simp only [decide_eq_true_eq];omega)]
  unfold zeB;rw [zah (by omega),zah (by omega),zah (by omega)]
  simp only [Option.bind_some];generalize ixor .u64 _ _=rn;rw [znV (x:=M - 1) (by omega) (by omega)]
  have hia:=iandU (x:=rn) (y:=M - 1) (by omega) (by omega)
  generalize iand .u64 rn (M - 1)=o at *
  rw [zuo (x:=o) (by omega) (by omega)]
  have J9:∀ t:Nat,t < b - a->∃ d',zaG a idx d.toList (zbd a b M) rn t=some d'.toList/\Go.Sort.PermIn a b d d':=fun t ht=>by
   unfold zaG;rw [show (a:Int)+(t:Int)=((a+t:Nat):Int) by omega]
   (repeat (rw [zah (by first | omega | (unfold fits;omega) | (simp only [List.length_set,Array.length_toList];omega))]))
   rw [ixA,ixA,Int.toNat_natCast,Int.toNat_natCast,swpA,show (idx:Int)+1=((idx+1:Nat):Int) by omega]
   obtain ⟨d',e',p'⟩:=ih (idx+1) rn (Go.Sort.swp d idx (a+t)) (by omega) (by omega) (by rw [swpZ];exact hb) (by rw [swpZ];exact hd)
   exact ⟨d',e',Go.Sort.permIn_trans d _ d' a b (Go.Sort.swp_permIn d a b idx (a+t) hi (by omega) (by omega) (by omega) hb) p'⟩
  by_cases c:(b:Int) - (a:Int)<=o
  ·rw [if_pos (decide_eq_true c),zah (by unfold fits;omega),show o - ((b:Int) - (a:Int))=((o - ((b:Int) - (a:Int))).toNat:Int) by omega]
   exact J9 _ (by omega)
  ·rw [if_neg (by simpa using c),show o=(o.toNat:Int) by omega]
   exact J9 _ (by omega)
theorem zpN (a b:Nat) (d:Array Rl) (hab:a<=b) (hb:b<=d.size) (hd:d.size<=1000000000):∃ d',zbN a b d.toList=some d'.toList/\Go.Sort.PermIn a b d d':=by
 unfold zbN
 (repeat (rw [zah (by first | omega | (unfold fits;omega) | (simp only [List.length_set,Array.length_toList];omega))]))
 by_cases c:8<=b - a
 ·rw [if_pos (by simp only [decide_eq_true_eq];omega)]
  obtain ⟨M,e,h⟩:=zvM (n:=(b:Int) - (a:Int)) (by omega) (by omega)
  rw [e];have e4:Int.tdiv ((b:Int) - (a:Int)) 4=(((b - a) / 4:Nat):Int):=by
   rw [show (b:Int) - (a:Int)=((b - a:Nat):Int) by omega,show (4:Int)=((4:Nat):Int) from rfl,<- Int.ofNat_tdiv]
  show ∃ d',G _ _=_/\_;rw [e4];have h4:=Nat.div_mul_le_self (b - a) 4
  (repeat (rw [zah (by first | omega | (unfold fits;omega) | (simp only [List.length_set,Array.length_toList];omega))]))
  rw [show (a:Int)+(((b - a) / 4:Nat):Int) * 2 - 1=((a+(b - a) / 4 * 2 - 1:Nat):Int) by omega]
  exact zsk a b M (by omega) h _ _ _ d rfl (by omega) hb hd
 ·rw [if_neg (by simp only [decide_eq_true_eq];omega)]
  exact ⟨d,rfl,Go.Sort.permIn_refl d a b⟩
def zf3 (n:Nat):Prop:=∀ (a b lim:Nat) (wb wp:Bool) (d:Array Rl),b - a<=n->a<=b->b<=d.size->d.size<=1000000000->lim<=64->Go.Sort.Below ltS a b d->
 ∃ d',zag zaf a b lim wb wp d.toList=some d'.toList/\Go.Sort.PermIn a b d d'/\Go.Sort.SortedIn ltS a b d'
theorem zie (a b lim:Nat) (l:List Rl):zaf a b lim l=zag zaf a b lim true true l:=by
 rw [zh0];unfold zbt;rfl
theorem zop (hS:Go.Sort.SWO ltS) {n:Nat} (ih:∀ m,m < n->zf3 m) (a b lim pivot:Nat) (wb wp:Bool) (d:Array Rl) (hn:b - a=n) (hab:a < b) (hb:b<=d.size) (hd:d.size<=1000000000) (hlim:lim<=64) (hB:Go.Sort.Below ltS a b d) (p0:a<=pivot) (p1:pivot < b) (t:Bool) (ht:t=true->0 < a/\ltS d[a - 1]! d[pivot]! =false):
  ∃ d',za4 zaf a b wb wp (zag zaf) lim pivot d.toList t=some d'.toList/\Go.Sort.PermIn a b d d'/\Go.Sort.SortedIn ltS a b d':=by
 unfold za4
 cases t with
 | true=>
  obtain ⟨ha,hlt⟩:=ht rfl;have hle:∀ i,a<=i->i < b->ltS d[i]! d[pivot]! =false:=fun i i0 i1=>hS.ntrans _ _ _ ((hB.resolve_left (by omega)) i i0 i1) hlt
  obtain ⟨q1,q2,q3,q4,q5⟩:=Go.Sort.partitionEqual_holds ltS hS d a b pivot p0 p1 hb hle;rw [if_pos rfl,zpq a b pivot d p0 p1 hb hd];simp only [Option.bind_some];have hall:=Go.Sort.permIn_all d (Go.Sort.partitionEqual ltS d a b pivot).2 a b (fun x=>ltS x d[pivot]! =false) hb q3 hle
  generalize Go.Sort.partitionEqual ltS d a b pivot=r at *
  obtain ⟨mid,d4⟩:=r;dsimp only at q1 q2 q3 q4 q5 hall ⊢;have hz:=q3.1;obtain ⟨R,e,r1,r2⟩:=ih (b - mid) (by omega) mid b lim wb wp d4 (Nat.le_refl _) q2 (by omega) (by omega) hlim (.inr fun i i0 i1=>by
   cases hc:ltS d4[i]! d4[mid - 1]! with
   | false=>rfl
   | true=>have:=hS.trans _ _ _ (q5 i i0 i1) hc;rw [q4 (mid - 1) (by omega) (by omega)] at this;cases this)
  have hm:=Go.Sort.permIn_mono d4 R mid b a b (by omega) (Nat.le_refl _) (by omega) r1
  refine ⟨R,e,Go.Sort.permIn_trans d d4 R a b q3 hm,?_⟩
  have hout:∀ i,i < mid->R[i]! =d4[i]! :=fun i h=>r1.2.1 i (.inl h)
  have hin:=Go.Sort.permIn_all d4 R mid b (fun x=>ltS d[pivot]! x=true) (by omega) r1 q5
  exact Go.Sort.sorted_glue_eq hS d[pivot]! r2 (fun i i0 i1=>by rw [hout i i1];exact q4 i i0 i1) (fun i i0 i1=>by rw [hout i i1];exact hall i i0 (by omega)) hin
 | false=>
  obtain ⟨q1,q2,q3,q4,q5⟩:=Go.Sort.partition_holds ltS hS d a b pivot p0 p1 hb;rw [if_neg (by simp),zrl a b pivot d p0 p1 hb hd]
  simp only [Option.bind_some];have hB4:=hB.perm hb q3;generalize Go.Sort.partition ltS d a b pivot=r at *
  obtain ⟨mid,al,d4⟩:=r;dsimp only at q1 q2 q3 q4 q5 hB4 ⊢;have hz:=q3.1;have e8:Int.tdiv ((b:Int) - (a:Int)) 8=(((b - a) / 8:Nat):Int):=by
   rw [show (b:Int) - (a:Int)=((b - a:Nat):Int) by omega,show (8:Int)=((8:Nat):Int) from rfl,<- Int.ofNat_tdiv]
  have h8:=Nat.div_mul_le_self (b - a) 8;rw [e8]
  (repeat (rw [zah (by first | omega | (unfold fits;omega) | (simp only [List.length_set,Array.length_toList];omega))]))
  have e1:(mid:Int)+1=((mid+1:Nat):Int):=by omega
  rw [e1];have left:∀ (d5:Array Rl) (wb wp:Bool),d5.size=d.size->(∀ i,a<=i->i < mid->d5[i]! =d4[i]!)->(∀ i,i < a->d5[i]! =d4[i]!)->∃ R,zag zaf a mid lim wb wp d5.toList=some R.toList/\Go.Sort.PermIn a mid d5 R/\Go.Sort.SortedIn ltS a mid R:=fun d5 wb wp h1 h2 h3=>
   ih (mid - a) (by omega) a mid lim wb wp d5 (Nat.le_refl _) q1 (by omega) (by omega) hlim (by
    rcases hB4 with h | h
    ·exact .inl h
    ·rcases Nat.eq_zero_or_pos a with h0 | h0
     ·exact .inl h0
     ·exact .inr fun i i0 i1=>by rw [h2 i i0 i1,h3 (a - 1) (by omega)];exact h i i0 (by omega))
  have right:∀ (d5:Array Rl) (wb wp:Bool),d5.size=d.size->(∀ i,mid<=i->i < b->d5[i]! =d4[i]!)->∃ R,zag zaf (mid+1:Nat) b lim wb wp d5.toList=some R.toList/\Go.Sort.PermIn (mid+1) b d5 R/\Go.Sort.SortedIn ltS (mid+1) b R:=fun d5 wb wp h1 h2=>
   ih (b - (mid+1)) (by omega) (mid+1) b lim wb wp d5 (Nat.le_refl _) (by omega) (by omega) (by omega) hlim (.inr fun i i0 i1=>by
    rw [Nat.add_sub_cancel,h2 i (by omega) i1,h2 mid (Nat.le_refl _) q2]
    exact q5 i (by omega) i1)
  by_cases c:mid - a < b - mid
  ·rw [if_pos (by simp only [decide_eq_true_eq];omega)]
   obtain ⟨R1,s1,s2,s3⟩:=left d4 true true hz (fun _ _ _=>rfl) (fun _ _=>rfl)
   rw [zie,s1];simp only [Option.bind_some]
   (repeat (rw [zah (by first | omega | (unfold fits;omega) | (simp only [List.length_set,Array.length_toList];omega))]))
   obtain ⟨R2,t1,t2,t3⟩:=right R1 (decide ((((b - a) / 8:Nat):Int)<=(mid:Int) - (a:Int))) al (by rw [s2.1];exact hz) (fun i i0 i1=>s2.2.1 i (.inr i0))
   refine ⟨R2,t1,?_,?_⟩
   ·exact Go.Sort.permIn_trans d d4 R2 a b q3 (Go.Sort.permIn_trans d4 R1 R2 a b (Go.Sort.permIn_mono d4 R1 a mid a b (Nat.le_refl _) (by omega) (by omega) s2) (Go.Sort.permIn_mono R1 R2 (mid+1) b a b (by omega) (Nat.le_refl _) (by rw [s2.1];omega) t2))
   ·have hl:∀ i,i < mid+1->R2[i]! =R1[i]! :=fun i h=>t2.2.1 i (.inl h)
    have hmid:R2[mid]! =d4[mid]! :=(hl mid (by omega)).trans (s2.2.1 mid (.inr (Nat.le_refl _)))
    have hlo:=Go.Sort.permIn_all d4 R1 a mid (fun x=>ltS x d4[mid]! =true) (by omega) s2 q4
    have hhi:=Go.Sort.permIn_all R1 R2 (mid+1) b (fun x=>ltS x d4[mid]! =false) (by rw [s2.1];omega) t2 (fun i i0 i1=>by rw [s2.2.1 i (.inr (by omega))];exact q5 i (by omega) i1)
    exact Go.Sort.sorted_glue hS (s3.congr fun i i0 i1=>hl i (by omega)) t3 (fun i i0 i1=>by rw [hl i (by omega),hmid];exact hlo i i0 i1) (fun i i0 i1=>by rw [hmid];exact hhi i (by omega) i1)
  ·rw [if_neg (by simp only [decide_eq_true_eq];omega)]
   obtain ⟨R1,s1,s2,s3⟩:=right d4 true true hz (fun _ _ _=>rfl)
   rw [zie,s1];simp only [Option.bind_some]
   (repeat (rw [zah (by first | omega | (unfold fits;omega) | (simp only [List.length_set,Array.length_toList];omega))]))
   obtain ⟨R2,t1,t2,t3⟩:=left R1 (decide ((((b - a) / 8:Nat):Int)<=(b:Int) - (mid:Int))) al (by rw [s2.1];exact hz) (fun i i0 i1=>s2.2.1 i (.inl (by omega))) (fun i i0=>s2.2.1 i (.inl (by omega)))
   refine ⟨R2,t1,?_,?_⟩
   ·exact Go.Sort.permIn_trans d d4 R2 a b q3 (Go.Sort.permIn_trans d4 R1 R2 a b (Go.Sort.permIn_mono d4 R1 (mid+1) b a b (by omega) (Nat.le_refl _) (by omega) s2) (Go.Sort.permIn_mono R1 R2 a mid a b (Nat.le_refl _) (by omega) (by rw [s2.1];omega) t2))
   ·have hl:∀ i,mid<=i->R2[i]! =R1[i]! :=fun i h=>t2.2.1 i (.inr h)
    have hmid:R2[mid]! =d4[mid]! :=(hl mid (Nat.le_refl _)).trans (s2.2.1 mid (.inl (by omega)))
    have hlo:=Go.Sort.permIn_all R1 R2 a mid (fun x=>ltS x d4[mid]! =true) (by rw [s2.1];omega) t2 (fun i i0 i1=>by rw [s2.2.1 i (.inl (by omega))];exact q4 i i0 i1)
    have hhi:=Go.Sort.permIn_all d4 R1 (mid+1) b (fun x=>ltS x d4[mid]! =false) (by omega) s2 (fun i i0 i1=>q5 i (by omega) i1)
    exact Go.Sort.sorted_glue hS t3 (s3.congr fun i i0 i1=>hl i (by omega)) (fun i i0 i1=>by rw [hmid];exact hlo i i0 i1) (fun i i0 i1=>by rw [hl i (by omega),hmid];exact hhi i (by omega) i1)
theorem zoo (hS:Go.Sort.SWO ltS) {n:Nat} (ih:∀ m,m < n->zf3 m) (a b lim pivot:Nat) (wb wp:Bool) (d:Array Rl) (hn:b - a=n) (hab:a < b) (hb:b<=d.size) (hd:d.size<=1000000000) (hlim:lim<=64) (hB:Go.Sort.Below ltS a b d) (p0:a<=pivot) (p1:pivot < b):
  ∃ d',za3 zaf a b wb wp (zag zaf) lim pivot d.toList=some d'.toList/\Go.Sort.PermIn a b d d'/\Go.Sort.SortedIn ltS a b d':=by
 have hl:=d.length_toList;unfold za3;by_cases c:0 < a
 ·rw [if_pos (by simp only [decide_eq_true_eq];omega),show (a:Int) - 1=((a - 1:Nat):Int) by omega]
  (repeat (rw [zah (by first | omega | (unfold fits;omega) | (simp only [List.length_set,Array.length_toList];omega))]))
  rw [ixA,ixA,zfp];simp only [Option.bind_some];exact zop hS ih a b lim pivot wb wp d hn hab hb hd hlim hB p0 p1 (!ltS d[a - 1]! d[pivot]!) (fun h=>⟨c,by simpa using h⟩)
 ·rw [if_neg (by simp only [decide_eq_true_eq];omega)]
  exact zop hS ih a b lim pivot wb wp d hn hab hb hd hlim hB p0 p1 false (by simp)
theorem zon (hS:Go.Sort.SWO ltS) {n:Nat} (ih:∀ m,m < n->zf3 m) (a b lim pivot:Nat) (wb wp:Bool) (hint:Int) (d:Array Rl) (hn:b - a=n) (hab:a < b) (hb:b<=d.size) (hd:d.size<=1000000000) (hlim:lim<=64) (hB:Go.Sort.Below ltS a b d) (p0:a<=pivot) (p1:pivot < b):
  ∃ d',za2 zaf a b wb wp (zag zaf) lim pivot hint d.toList=some d'.toList/\Go.Sort.PermIn a b d d'/\Go.Sort.SortedIn ltS a b d':=by
 have J15:∀ t:Bool,∃ d',zaP zaf a b wb wp (zag zaf) lim pivot d.toList t=some d'.toList/\Go.Sort.PermIn a b d d'/\Go.Sort.SortedIn ltS a b d':=fun t=>by
  unfold zaP
  cases t with
  | true=>
   obtain ⟨k1,k2⟩:=Go.Sort.partialInsertionSort_holds hS d a b hab hb hB;rw [if_pos rfl,zn6 a b d hab hb hd];simp only [Option.bind_some];generalize Go.Sort.partialInsertionSort ltS d a b=r at *
   obtain ⟨d3,ok⟩:=r;dsimp only at k1 k2 ⊢
   cases ok with
   | true=>exact ⟨d3,rfl,k1,k2 rfl⟩
   | false=>
    rw [if_neg (by simp)]
    obtain ⟨d',e,q1,q2⟩:=zoo hS ih a b lim pivot wb wp d3 hn hab (by rw [k1.1];exact hb) (by rw [k1.1];exact hd) hlim (hB.perm hb k1) p0 p1
    exact ⟨d',e,Go.Sort.permIn_trans d d3 d' a b k1 q1,q2⟩
  | false=>
   rw [if_neg (by simp)]
   exact zoo hS ih a b lim pivot wb wp d hn hab hb hd hlim hB p0 p1
 unfold za2
 split
 ·split
  ·exact J15 _
  ·exact J15 _
 ·exact J15 _
theorem zsI (hS:Go.Sort.SWO ltS):∀ n,zf3 n:=by
 intro n
 induction n using Nat.strongRecOn with
 | ind n ih=>
  intro a b lim wb wp d hn hab hb hd hlim hB;have hl:=d.length_toList;rw [zhb];unfold zbf
  (repeat (rw [zah (by first | omega | (unfold fits;omega) | (simp only [List.length_set,Array.length_toList];omega))]))
  by_cases c1:b - a<=12
  ·rw [if_pos (by simp only [decide_eq_true_eq];omega),zsy a b d hab hb hd]
   obtain ⟨q1,q2⟩:=Go.Sort.insertionSort_holds hS d a b hab hb;exact ⟨_,rfl,q1,q2⟩
  ·rw [if_neg (by simp only [decide_eq_true_eq];omega)]
   by_cases c2:lim=0
   ·rw [if_pos (by simp [c2]),zrd a b d (by omega) hb hd]
    obtain ⟨q1,q2⟩:=Go.Sort.heapSort_holds hS d a b hab hb;exact ⟨_,rfl,q1,q2⟩
   ·rw [if_neg (by simp only [decide_eq_true_eq];omega)]
    have J9:∀ (lim:Nat) (d1:Array Rl),lim<=64->Go.Sort.PermIn a b d d1->∃ d',zbb zaf a b wb wp (zag zaf) lim d1.toList=some d'.toList/\Go.Sort.PermIn a b d d'/\Go.Sort.SortedIn ltS a b d':=fun lim d1 h1 h2=>by
     have hz:=h2.1;have hB1:=hB.perm hb h2;obtain ⟨c3,c4⟩:=Go.Sort.choosePivot_holds ltS d1 a b (by omega)
     unfold zbb;rw [zqn d1 a b (by omega) (by omega) (by omega)]
     simp only [Option.bind_some];generalize Go.Sort.choosePivot ltS d1 a b=r at *
     obtain ⟨pv,hi⟩:=r;dsimp only at c3 c4 ⊢;have ih':∀ m,m < b - a->zf3 m:=fun m hm=>ih m (by omega)
     by_cases c5:zgT hi=2
     ·rw [if_pos (by simp [c5]),zsN a b d1 (by omega) (by omega) (by omega)]
      simp only [Option.bind_some];have hr:=Go.Sort.reverseRange_holds d1 a b hab (by omega)
      have hz2:=hr.1
      (repeat (rw [zah (by first | omega | (unfold fits;omega) | (simp only [List.length_set,Array.length_toList];omega))]))
      rw [show (b:Int) - 1 - ((pv:Int) - (a:Int))=(((b - 1) - (pv - a):Nat):Int) by omega]
      obtain ⟨d',e,q1,q2⟩:=zon hS ih' a b lim ((b - 1) - (pv - a)) wb wp 1 _ rfl (by omega) (by omega) (by omega) h1 (hB1.perm (by omega) hr) (by omega) (by omega)
      exact ⟨d',e,Go.Sort.permIn_trans d d1 d' a b h2 (Go.Sort.permIn_trans d1 _ d' a b hr q1),q2⟩
     ·rw [if_neg (by simpa using c5)]
      obtain ⟨d',e,q1,q2⟩:=zon hS ih' a b lim pv wb wp (zgT hi) d1 rfl (by omega) (by omega) (by omega) h1 hB1 c3 c4
      exact ⟨d',e,Go.Sort.permIn_trans d d1 d' a b h2 q1,q2⟩
    cases wb with
    | true=>
     rw [if_neg (by simp)]
     exact J9 lim d hlim (Go.Sort.permIn_refl d a b)
    | false=>
     rw [if_pos (by simp)]
     obtain ⟨d1,e,q⟩:=zpN a b d hab hb hd;rw [e];simp only [Option.bind_some]
     (repeat (rw [zah (by first | omega | (unfold fits;omega) | (simp only [List.length_set,Array.length_toList];omega))]))
     rw [show (lim:Int) - 1=((lim - 1:Nat):Int) by omega]
     exact J9 (lim - 1) d1 (by omega) q
theorem zpr (hS:Go.Sort.SWO ltS) (l:List Rl) (hl:l.length<=1000000000) {v:Int} (hv:BL l.length v):∃ l',zaf 0 l.length v l=some l'/\l'.Perm l/\l'.Pairwise (fun x y=>ltS y x=false):=by
 obtain ⟨v0,v1,_⟩:=hv;obtain ⟨d',e,q1,q2⟩:=zsI hS _ 0 l.length v.toNat true true l.toArray (Nat.le_refl _) (Nat.zero_le _) (by simp) (by simpa using hl) (by omega) (.inl rfl)
 have hz:=q1.1;refine ⟨d'.toList,?_,?_,?_⟩
 ·have:=zie 0 l.length v.toNat l;rw [show ((v.toNat:Nat):Int)=v by omega] at this
  rw [show ((0:Nat):Int)=0 from rfl] at this;rw [this];rw [show ((v.toNat:Nat):Int)=v by omega] at e
  exact e
 ·have:=q1.2.2;rw [show d'.extract 0 l.length=d' by rw [<- show d'.size=l.length by simpa using hz];simp,show l.toArray.extract 0 l.length=l.toArray by simp] at this
  simpa using this
 ·rw [List.pairwise_iff_getElem];intro i j hi hj hij;have:=q2 i j (Nat.zero_le _) hij (by simpa [hz] using hj)
  simp only [Array.length_toList] at hi hj;rw [getElem!_pos d' j hj,getElem!_pos d' i hi] at this;simpa using this
end
section
variable {a:TA} {N:Nat}
structure Made (a:TA) (N:Nat) (L:Int) (l:List Int) (rules:List Rl) (marks:List Int):Prop where
 n:1<=l.length/\l.length<=64
 cnt:rules.length<=8450
 set:∀ x∈l,SetN N x
 r:∀ r∈rules,(0<=r.1/\r.1 < L)/\(r.2.1 = -1/\r.2.2.1 = -1\/0<=r.2.1/\r.2.1 < l.length/\0<=r.2.2.1/\r.2.2.1 < l.length)/\0<=r.2.2.2.1/\r.2.2.2.1 < l.length/\ix l r.2.2.2.1=zoa a N r.1 (zfH l r.2.1) (zfH l r.2.2.1)
 one:∀ r∈rules,∀ s∈rules,ziR r=ziR s->r=s
 all:∀ x:Key,D11 L l.length x->∃ r∈rules,ziR r=x
 inc:∀ k:Int,1<=k->k < rules.length->RLt (ix rules (k - 1)) (ix rules k)
 lm:marks.length=l.length
 mq:∀ i:Int,0<=i->i < l.length->(ix marks i=0\/ix marks i=1)/\(ix marks i=1 ↔ ¬ ∃ q:Int,0<=q/\q < a.2.1/\ix a.2.2.2.2.1 q=1/\bitP (ix l i) q)
theorem zqk {β:Type} {f:Rl->β}:∀ {l:List Rl},(l.map f).Nodup->∀ r∈l,∀ s∈l,f r=f s->r=s
 | [],_,r,hr,_,_,_=>by cases hr
 | x::l,h,r,hr,s,hs,e=>by
  rw [List.map_cons,List.nodup_cons] at h;rcases List.mem_cons.1 hr with e1 | hr<;>rcases List.mem_cons.1 hs with e2 | hs
  ·rw [e1,e2]
  ·exact absurd (by rw [<- e1,e];exact List.mem_map_of_mem hs) h.1
  ·exact absurd (by rw [<- e2,<- e];exact List.mem_map_of_mem hr) h.1
  ·exact zqk h.2 r hr s hs e
theorem zuY (ok:Ok0 a) (hN:N<=6) {L o1 o2 o3:Int} (hL:L<=2) {l c c1:List Int} {out:List Rl} (hp:0 < l.length) (h:SIa a N (D11 L l.length) l c c1 out):∀ (n:Nat) (t:Int) (marks:List Int),(l.length - t).toNat=n->0<=t->t<=l.length->(marks.length:Int)=t->
  (∀ i:Int,0<=i->i < t->(ix marks i=0\/ix marks i=1)/\(ix marks i=1 ↔ ¬ ∃ q:Int,0<=q/\q < a.2.1/\ix a.2.2.2.2.1 q=1/\bitP (ix l i) q))->
  ∃ rules marks',zdU a l t o1 o2 o3 out marks=some (o1,(l.length:Int),rules,o3,marks',())/\Made a N L l rules marks':=by
 have hlen:=SIa.len hN h;have hD:∀ x:Key,D11 L l.length x->0<=x.1/\x.1 < L:=fun x hx=>by unfold D11 D6 at hx;omega
 have hfew:=SI.few h (by omega) (fun x hx=>by have:=hD x hx;omega)
 intro n
 induction n with
 | zero=>
  intro t marks hn t0 t1 hm hh;obtain rfl:t=l.length:=by omega
  obtain ⟨v,e,b⟩:=zpJ (x:=(out.length:Int)) (by omega) (by omega)
  obtain ⟨l1,e1,h1,h2⟩:=zpr swoS out (by omega) b
  have hle:=h1.length_eq;have hone:∀ r∈l1,∀ s∈l1,ziR r=ziR s->r=s:=fun r hr s hs=>zqk h.kd r (h1.mem_iff.1 hr) s (h1.mem_iff.1 hs)
  have hnd:l1.Nodup:=h1.nodup_iff.2 (by have hk:=h.kd;unfold List.Nodup at hk ⊢;rw [List.pairwise_map] at hk;exact hk.imp fun hne e=>hne (by rw [e]))
  refine ⟨l1,marks,?_,⟨by omega,by omega,h.mem,fun r hr => ?_,hone,fun x hx => ?_,fun k k0 k1 => ?_,by omega,hh⟩⟩
  ·rw [ziF];unfold zcT;rw [if_neg (by simp)]
   unfold zg7;rw [znV (by omega) (by omega),e]
   show ((zaf 0 _ v out).bind _).bind _=_;rw [e1];rfl
  ·have hr':=h1.mem_iff.1 hr;obtain ⟨g1,g2,g3,g4⟩:=h.r r hr';exact ⟨hD _ ((h.km _).1 (List.mem_map_of_mem (f:=ziR) hr')),g1,g2,g3,g4⟩
  ·obtain ⟨r,hr,er⟩:=List.mem_map.1 ((h.km x).2 hx);exact ⟨r,h1.mem_iff.2 hr,er⟩
  ·have e1:ix l1 (k - 1)=l1[(k - 1).toNat]'(by omega):=zsz (by omega) (by omega)
   have e2:ix l1 k=l1[k.toNat]'(by omega):=zsz (by omega) (by omega)
   have m1:=znl (l:=l1) (i:=k - 1) (by omega) (by omega)
   have m2:=znl (l:=l1) (i:=k) (by omega) (by omega)
   have p:=(List.pairwise_iff_getElem.1 h2) (k - 1).toNat k.toNat (by omega) (by omega) (by omega)
   have q:=(List.pairwise_iff_getElem.1 hnd) (k - 1).toNat k.toNat (by omega) (by omega) (by omega)
   rw [<- e1,<- e2] at p q;rw [zr2] at p;refine Classical.byContradiction fun hno=>q (hone _ m1 _ m2 ?_)
   unfold RLt at p hno;unfold ziR;have a1:(ix l1 (k - 1)).1=(ix l1 k).1:=by omega
   have a2:(ix l1 (k - 1)).2.1=(ix l1 k).2.1:=by omega
   have a3:(ix l1 (k - 1)).2.2.1=(ix l1 k).2.2.1:=by omega
   rw [a1,a2,a3]
 | succ n ih=>
  intro t marks hn t0 t1 hm hh;have a1:(l.length - (t+1)).toNat=n:=by omega
  have a2:0<=t+1/\t+1<=l.length:=by omega
  have hst:=ok.st;obtain ⟨b,eb,hb⟩:=ztG ok.mks hst.2 (ix l t);have e2:zhp (ix l t) a=some (if b=true then 0 else 1):=by
   unfold zhp;rw [eb,Option.bind_some]
   cases b<;>rfl
  obtain ⟨rules,marks',e,hM⟩:=ih (t+1) (marks++[if b=true then 0 else 1]) a1 a2.1 a2.2 (by rw [List.length_append,List.length_singleton];omega) (fun i i0 i1=>by
   by_cases ei:i=t
   ·subst ei;rw [show ix (marks++[if b=true then (0:Int) else 1]) i=(if b=true then 0 else 1) by rw [<- hm,zf2],<- hb]
    cases b<;>simp
   ·rw [zdf i0 (by omega)];exact hh i i0 (by omega))
  refine ⟨rules,marks',?_,hM⟩
  rw [ziF];unfold zcT;rw [if_pos (decide_eq_true (by omega)),zah (by omega),zah (by omega),e2,Option.bind_some,zah (by unfold room;rw [List.length_singleton];omega),zah (by unfold fits;omega)]
  exact e
theorem zuh (ok:Ok0 a) (hN:N<=6) (hs:a.2.1=N) {L:Int} (hL:1<=L/\L<=2):∃ l rules marks,zk7 L a a=some (L,l.length,rules,0,marks,())/\Made a N L l rules marks:=by
 obtain ⟨l,c,c1,out,e,hp,h⟩:=zv2 ok hN hs hL (o1:=L) (o2:=0) (o3:=0) _ 0 [] [] [] [] rfl (by omega) (by omega) ⟨by simp,fun x hx=>(by cases hx),rfl,rfl,by simp,fun x=>⟨fun h=>(by cases h),fun h=>by unfold D6 at h;omega⟩,fun r hr=>(by cases hr)⟩ (fun h=>by omega)
 obtain ⟨rules,marks,e2,hM⟩:=zuY ok hN hL.2 (o1:=L) (o2:=0) (o3:=0) hp h _ 0 [] rfl (by omega) (by omega) rfl (fun i i0 i1=>by omega)
 refine ⟨l,rules,marks,?_,hM⟩
 unfold zk7;rw [e,e2]
theorem Made.ok {L:Int} (hL:1<=L/\L<=2) {l:List Int} {rules:List Rl} {marks:List Int} (h:Made a N L l rules marks):taE (L,(l.length:Int),rules,0,marks,())=0:=by
 have h1:=h.n;have h2:=h.cnt;have h3:=h.lm;unfold taE;rw [if_neg (by unfold TLet;dsimp only;omega),if_neg (by unfold zmq;dsimp only;omega),if_neg ?_,if_neg ?_,if_neg ?_]
 ·rintro (⟨i,i0,i1,i2⟩ | h0)
  ·exact i2 (h.inc i i0 i1)
  ·exact h0 rfl
 ·rintro ⟨x,hx,x0,x1⟩;obtain ⟨i,i0,i1,ei⟩:=(zmr (P:=fun y=>y=x)).1 ⟨x,hx,rfl⟩
  dsimp only at i1 ei;have:=(h.mq i i0 (by omega)).1
  omega
 ·rintro ⟨r,hr,hb⟩;obtain ⟨g1,g2,g3,g4,_⟩:=h.r r hr;unfold RBad at hb;dsimp only at hb;omega
theorem zsG (ok:Ok0 a) (hs:a.2.1=N) {L:Int} {l:List Int} {rules:List Rl} {marks:List Int} (h:Made a N L l rules marks) {t:List Nd} (oka:Ok a t) (oko:Ok (L,(l.length:Int),rules,0,marks,()) t) (hlet:∀ j:Int,0<=j->j < t.length->0<=(ix t j).1/\(ix t j).1 < L) (hN:N<=6):
  ∃ b b',zeX a (t,())=some b/\zeX (L,(l.length:Int),rules,0,marks,()) (t,())=some b'/\(¬ b=b'):=by
 have hn:=oka.n;obtain ⟨ca,b,e1,r1,i1⟩:=zlP oka;obtain ⟨co,b',e2,r2,i2⟩:=zlP oko;dsimp only at i2;have stp:=fun (x p q:Int)=>znD a (N:=N) (by omega) x p q
 have key:∀ (m:Nat) (j:Int),j.toNat < m->0<=j->j < t.length->∃ i:Int,0<=i/\i < l.length/\(∀ q:Int,0<=q->q < l.length->(ix (ix co j) q=true↔q=i))/\(∀ q:Int,0<=q->q < a.2.1->(bitP (ix l i) q↔ix (ix ca j) q=true)):=by
  intro m
  induction m with
  | zero=>intro j hj;omega
  | succ m ih=>
   intro j hj j0 j1;have nd:=oka.nd j j0 j1;obtain ⟨x0,x1⟩:=hlet j j0 j1;have ma:=r1.m j j0 j1;have mo:=r2.m j j0 j1;dsimp only at mo;have fin:∀ (p p':Int),D11 L l.length ((ix t j).1,p,p')->
     (∀ r∈rules,Use (ix t j) co r↔ziR r=((ix t j).1,p,p'))->
     (∀ r:Rl,(∃ k:Int,0<=k/\k < a.2.2.1.length/\ix a.2.2.1 k=r)->(Fits (ix t j).1 (zfH l p) (zfH l p') r↔Use (ix t j) ca r))->
     ∃ i:Int,0<=i/\i < l.length/\(∀ q:Int,0<=q->q < l.length->(ix (ix co j) q=true↔q=i))/\(∀ q:Int,0<=q->q < a.2.1->(bitP (ix l i) q↔ix (ix ca j) q=true)):=by
    intro p p' hD hu hf;obtain ⟨r0,hr0,k0⟩:=h.all _ hD;obtain ⟨_,_,g3,g4,g5⟩:=h.r r0 hr0;refine ⟨r0.2.2.2.1,g3,g4,fun q q0 q1 => ?_,fun q q0 q1 => ?_⟩
    ·rw [mo q q0 q1];constructor
     ·rintro ⟨k,k0',k1,u,eq⟩;have hm:=znl (l:=rules) k0' k1;rw [<- eq,h.one _ hm _ hr0 (((hu _ hm).1 u).trans k0.symm)]
     ·intro eq;obtain ⟨k,kk0,kk1,ek⟩:=(zmr (P:=fun y=>y=r0)).1 ⟨r0,hr0,rfl⟩
      exact ⟨k,kk0,kk1,by rw [ek];exact (hu _ hr0).2 k0,by rw [ek,eq]⟩
    ·have kk:r0.1=(ix t j).1/\r0.2.1=p/\r0.2.2.1=p':=by
      unfold ziR at k0;exact ⟨congrArg Prod.fst k0,congrArg (fun x=>x.2.1) k0,congrArg (fun x=>x.2.2) k0⟩
     rw [g5,kk.1,kk.2.1,kk.2.2,(stp _ _ _).2 q q0 (by omega),ma q q0 q1]
     unfold zuZ;constructor
     ·rintro ⟨k,k0',k1,f,eq⟩;exact ⟨k,k0',k1,(hf _ ⟨k,k0',k1,rfl⟩).1 f,eq⟩
     ·rintro ⟨k,k0',k1,f,eq⟩;exact ⟨k,k0',k1,(hf _ ⟨k,k0',k1,rfl⟩).2 f,eq⟩
   have rba:∀ r:Rl,(∃ k:Int,0<=k/\k < a.2.2.1.length/\ix a.2.2.1 k=r)->(r.2.1 = -1/\r.2.2.1 = -1\/0<=r.2.1/\r.2.1 < a.2.1/\0<=r.2.2.1/\r.2.2.1 < a.2.1):=by
    rintro r ⟨k,k0,k1,rfl⟩;have:=ok.rb k k0 k1;unfold RBad at this;omega
   have vm:zfH l (-1) = -1:=by unfold zfH;rw [if_pos (by omega)]
   by_cases c:(ix t j).2.1 = -1
   ·refine fin (-1) (-1) (.inl ⟨x0,x1,rfl,rfl⟩) (fun r hr => ?_) (fun r hr => ?_)
    ·obtain ⟨_,g2,_⟩:=h.r r hr;unfold Use;rw [zlu];unfold ziR;dsimp only;constructor
     ·rintro ⟨u1,u2,_⟩;have:=u2.2 c;exact ⟨u1,this,by omega⟩
     ·rintro ⟨u1,u2,_⟩;exact ⟨u1,⟨fun _=>c,fun _=>u2⟩,.inl u2⟩
    ·have:=rba r hr;unfold Use Fits;rw [vm];constructor
     ·rintro ⟨u1,u2,_⟩;have:r.2.1 = -1:=by have:=u2.2 (by omega);omega
      exact ⟨u1,⟨fun _=>c,fun _=>this⟩,.inl this⟩
     ·rintro ⟨u1,u2,_⟩;have:=u2.2 c;exact ⟨u1,⟨fun _=>by omega,fun _=>by omega⟩,.inl (by omega)⟩
   ·obtain ⟨p0,p1,q0,q1⟩:=nd.resolve_left fun hh=>c hh.1
    obtain ⟨i1,i10,i11,ho1,ha1⟩:=ih (ix t j).2.1 (by omega) p0 (by omega)
    obtain ⟨i2,i20,i21,ho2,ha2⟩:=ih (ix t j).2.2.1 (by omega) q0 (by omega)
    have b1:=(h.set _ (znl i10 i11)).b.1;refine fin i1 i2 (.inr ⟨x0,x1,i10,i11,i20,i21⟩) (fun r hr => ?_) (fun r hr => ?_)
    ·obtain ⟨_,g2,_⟩:=h.r r hr;unfold Use;rw [zlu];unfold ziR;dsimp only;constructor
     ·rintro ⟨u1,u2,u3⟩;have hne : ¬ r.2.1 = -1:=fun e=>c (u2.1 e)
      obtain ⟨v1,v2⟩:=u3.resolve_left hne;exact ⟨u1,(ho1 _ (by omega) (by omega)).1 v1,(ho2 _ (by omega) (by omega)).1 v2⟩
     ·rintro ⟨u1,u2,u3⟩;refine ⟨u1,⟨fun e=>by omega,fun e=>absurd e c⟩,.inr ⟨(ho1 _ (by omega) (by omega)).2 u2,(ho2 _ (by omega) (by omega)).2 u3⟩⟩
    ·have hr3:=rba r hr;unfold Use Fits;rw [zjz i10,zjz i20];constructor
     ·rintro ⟨u1,u2,u3⟩;have hne : ¬ r.2.1 < 0:=fun e=>by have:=u2.1 e;omega
      obtain ⟨v1,v2⟩:=u3.resolve_left (by omega)
      exact ⟨u1,⟨fun e=>by omega,fun e=>absurd e c⟩,.inr ⟨(ha1 _ (by omega) (by omega)).1 v1,(ha2 _ (by omega) (by omega)).1 v2⟩⟩
     ·rintro ⟨u1,u2,u3⟩;have hne : ¬ r.2.1 = -1:=fun e=>c (u2.1 e)
      obtain ⟨v1,v2⟩:=u3.resolve_left hne;exact ⟨u1,⟨fun e=>by omega,fun e=>by omega⟩,.inr ⟨(ha1 _ (by omega) (by omega)).2 v1,(ha2 _ (by omega) (by omega)).2 v2⟩⟩
 obtain ⟨i,i0,il,ho,ha⟩:=key _ ((t.length:Int) - 1) (Nat.lt_succ_self _) (by omega) (by omega)
 refine ⟨b,b',e1,e2,fun e => ?_⟩
 have hmk:=(h.mq i i0 il).2;have k1:b'=true↔ix marks i=1:=by
  rw [i2];constructor
  ·rintro ⟨q,q0,q1,w1,w2⟩;rw [(ho q q0 q1).1 w1] at w2;exact w2
  ·intro hh;exact ⟨i,i0,il,(ho i i0 il).2 rfl,hh⟩
 have k2:b=true↔∃ q:Int,0<=q/\q < a.2.1/\ix a.2.2.2.2.1 q=1/\bitP (ix l i) q:=by
  rw [i1];constructor
  ·rintro ⟨q,q0,q1,w1,w2⟩;exact ⟨q,q0,q1,w2,(ha q q0 q1).2 w1⟩
  ·rintro ⟨q,q0,q1,w1,w2⟩;exact ⟨q,q0,q1,(ha q q0 q1).1 w2,w1⟩
 rw [hmk,<- k2,e] at k1
 cases b'<;>simp at k1
end
theorem ztQ {w:List Int} (hs:w.length * 8<=140737488351232):zmL w=some w:=by
 unfold zmL;refine G_to (by unfold fits;omega) ?_
 refine G_to (by unfold mkOK;omega) ?_
 simp
theorem zsB {le:Int} {t:List Nd} (h2:ttE le t=0):∀ j:Int,0<=j->j < t.length->0<=(ix t j).1/\(ix t j).1 < le:=fun j j0 j1=>by
 unfold ttE at h2;by_cases d1:le < 1
 ·rw [if_pos d1] at h2;cases h2
 rw [if_neg d1] at h2;by_cases d2:4 < le
 ·rw [if_pos d2] at h2;cases h2
 rw [if_neg d2] at h2;by_cases d3:(t.length:Int) < 1
 ·rw [if_pos d3] at h2;cases h2
 rw [if_neg d3] at h2;by_cases d4:60 < (t.length:Int)
 ·rw [if_pos d4] at h2;cases h2
 rw [if_neg d4] at h2;have:=zr6 _ _ _ h2 j j0 (by omega)
 exact ⟨this.1,this.2.1⟩
theorem law_true (a:TA) (t:List Nd×Unit) (sg:Sml (.pair (.int .i64) (.pair (.int .i64) (.pair (.list (.pair (.int .i64) (.pair (.int .i64) (.pair (.int .i64) (.pair (.int .i64) .unit))))) (.pair (.int .i64) (.pair (.list (.int .i64)) .unit))))) a) (st:Sml (.pair (.list (.pair (.int .i64) (.pair (.int .i64) (.pair (.int .i64) .unit)))) .unit) t):zh8 a t=some true:=by
 obtain ⟨t,u⟩:=t;have b1:a.2.2.1.length * 32<=140737488351232:=sg.2.2.1.1;have b2:a.2.2.2.2.1.length * 8<=140737488351232:=sg.2.2.2.2.1.1;have ea:(a.1,a.2.1,a.2.2.1,a.2.2.2.1,a.2.2.2.2.1,())=a:=rfl;unfold zh8;refine zbs (y:=a) ?_ ?_
 ·unfold znn;rw [zah (by unfold room;simp;omega),ztQ b2]
  rfl
 rw [ea];have bad:∀ e:Int,e≠0->zdX a (t,u) (0,0,[],0,[],()) e e=some true:=fun e he=>by
  unfold zdX;dsimp only;rw [if_pos (by simpa using he),if_pos (by simp),if_pos (by simp),if_pos (by simp),if_pos (by simp),zah (by unfold fits;decide)]
  simp
 by_cases h1:taE a=0
 ·have ok:=zwO h1;have hst:=ok.st;have hlet:1<=a.1/\a.1<=4:=by
   unfold taE at h1;by_cases c1:TLet a
   ·rw [if_pos c1] at h1;cases h1
   ·unfold TLet at c1;omega
  by_cases c6:6 < a.2.1
  ·refine zbs (y:=((0,0,[],0,[],()),1)) ?_ ?_
   ·unfold zgN;rw [ea];refine zbs zfF ?_
    rw [h1,if_neg (by simp),if_pos (decide_eq_true c6)]
   refine zbs zeG ?_
   rw [h1,if_pos (by simp),if_pos (decide_eq_true c6)]
   unfold zct;rw [if_pos rfl];exact bad 1 (by decide)
  ·by_cases c2:2 < a.1
   ·refine zbs (y:=((0,0,[],0,[],()),1)) ?_ ?_
    ·unfold zgN;rw [ea];refine zbs zfF ?_
     rw [h1,if_neg (by simp),if_neg (by simpa using c6),if_pos (decide_eq_true c2)]
    refine zbs zeG ?_
    rw [h1,if_pos (by simp),if_neg (by simpa using c6),decide_eq_true c2]
    unfold zct;rw [if_pos rfl];exact bad 1 (by decide)
   ·obtain ⟨l,rules,marks,e,hM⟩:=zuh ok (N:=a.2.1.toNat) (by omega) (by omega) (L:=a.1) (by omega)
    refine zbs (y:=((a.1,(l.length:Int),rules,0,marks,()),0)) ?_ ?_
    ·unfold zgN;rw [ea];refine zbs zfF ?_
     rw [h1,if_neg (by simp),if_neg (by simpa using c6),if_neg (by simpa using c2)]
     refine zbs e ?_
     rfl
    refine zbs zeG ?_
    rw [h1,if_pos (by simp),if_neg (by simpa using c6),decide_eq_false c2]
    unfold zct;rw [if_neg (by simp)]
    unfold zdX;dsimp only;rw [if_neg (by simp)]
    have hok:=hM.ok (L:=a.1) (by omega)
    refine zbs zeG ?_
    rw [hok,if_neg (by simp),if_neg (by simp),if_neg (by simp)]
    refine zbs zpw ?_
    by_cases h2:ttE a.1 t=0
    ·rw [if_neg (by simpa using h2)]
     have hl:=zsB h2;obtain ⟨b,b',e1,e2,e3⟩:=zsG ok (by omega) hM (zwP h1 h2) (zwP hok h2) hl (by omega)
     rw [ea];refine zbs e1 (zbs e2 ?_)
     rw [decide_eq_true e3]
    ·rw [if_pos (by simpa using h2)]
 ·refine zbs (y:=((0,0,[],0,[],()),taE a)) ?_ ?_
  ·unfold zgN;rw [ea];refine zbs zfF ?_
   rw [if_pos (by simpa using h1)]
  refine zbs zeG ?_
  rw [if_neg (by simpa using h1)]
  unfold zct;rw [if_neg (by simp)]
  exact bad _ h1
end
end Go.Proofs.Ytkmeeljlokeboaa.treeOtherW
