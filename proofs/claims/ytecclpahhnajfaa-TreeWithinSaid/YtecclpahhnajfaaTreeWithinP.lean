/- The law 'TreeWithin' of the plain functions. -/
import Derived.Test.YtecclpahhnajfaaTreeWithinD
import Derived.Sort.AssemblyPlain
set_option maxHeartbeats 1000000
set_option maxRecDepth 20000
set_option linter.unusedSimpArgs false
set_option linter.unusedVariables false
set_option linter.unusedSectionVars false
namespace Go.Proofs.Ytecclpahhnajfaa.treeWithinW
open Go Go.Ab
noncomputable section
theorem zr8 {n:Nat} (h:n < 9223372036854775808):IntKind.wrap .i64 (n:Int)=n:=by
 unfold IntKind.wrap;simp [IntKind.bits,IntKind.signed];omega
theorem zmB (m:Nat):BitVec.ofInt 64 (m:Int)=BitVec.ofNat 64 m:=by
 apply BitVec.eq_of_toNat_eq;simp
theorem zuA {m n:Nat} (hm:m < 9223372036854775808) (hn:n < 9223372036854775808):iand .i64 (m:Int) (n:Int)=((m &&& n:Nat):Int):=by
 unfold iand;have h:(BitVec.ofInt IntKind.i64.bits (m:Int) &&& BitVec.ofInt IntKind.i64.bits (n:Int)).toNat=m &&& n:=by
  show (BitVec.ofInt 64 (m:Int) &&& BitVec.ofInt 64 (n:Int)).toNat=m &&& n;rw [zmB,zmB,BitVec.toNat_and,BitVec.toNat_ofNat,BitVec.toNat_ofNat,Nat.mod_eq_of_lt (by omega),Nat.mod_eq_of_lt (by omega)]
 rw [h,zr8 (Nat.lt_of_le_of_lt Nat.and_le_left hm)]
theorem ztR {m n:Nat} (hm:m < 9223372036854775808) (hn:n < 9223372036854775808):ior .i64 (m:Int) (n:Int)=((m ||| n:Nat):Int):=by
 unfold ior;have h:(BitVec.ofInt IntKind.i64.bits (m:Int) ||| BitVec.ofInt IntKind.i64.bits (n:Int)).toNat=m ||| n:=by
  show (BitVec.ofInt 64 (m:Int) ||| BitVec.ofInt 64 (n:Int)).toNat=m ||| n
  rw [zmB,zmB,BitVec.toNat_or,BitVec.toNat_ofNat,BitVec.toNat_ofNat,Nat.mod_eq_of_lt (by omega),Nat.mod_eq_of_lt (by omega)]
 rw [h,zr8 (Nat.or_lt_two_pow (n:=63) hm hn)]
theorem zuE {m k:Nat} (hk:k < 63) (h:m * 2 ^ k < 9223372036854775808):ishl .i64 (m:Int) (k:Int)=((m <<< k:Nat):Int):=by
 unfold ishl;have e:min ((k:Int).toNat) IntKind.i64.bits=k:=by
  show min ((k:Int).toNat) 64=k;omega
 rw [e,Nat.shiftLeft_eq];have:(m:Int) * 2 ^ k=((m * 2 ^ k:Nat):Int):=by push_cast;rfl
 rw [this,zr8 h]
theorem zxr {m k:Nat} (hk:k<=64):ishr .i64 (m:Int) (k:Int)=((m >>> k:Nat):Int):=by
 unfold ishr;have e:min ((k:Int).toNat) IntKind.i64.bits=k:=by
  show min ((k:Int).toNat) 64=k;omega
 rw [e,Nat.shiftRight_eq_div_pow,Int.fdiv_eq_ediv_of_nonneg _ (by exact_mod_cast Nat.zero_le _)]
 push_cast;rfl
theorem zyz {m q:Nat} (hm:m < 4611686018427387904) (hq:q < 62):ior .i64 (m:Int) (ishl .i64 1 (q:Int))=((m ||| 2 ^ q:Nat):Int)/\m ||| 2 ^ q < 4611686018427387904:=by
 have h2:2 ^ q < 4611686018427387904:=Nat.pow_lt_pow_right (a:=2) (n:=62) (by omega) hq
 have h1:ishl .i64 1 (q:Int)=((2 ^ q:Nat):Int):=by
  have:=zuE (m:=1) (k:=q) (by omega) (by omega)
  rw [Nat.shiftLeft_eq,Nat.one_mul] at this;exact this
 rw [h1,ztR (by omega) (by omega)]
 exact ⟨rfl,Nat.or_lt_two_pow (n:=62) hm h2⟩
def bitP (s q:Int):Prop:=iand .i64 (ishr .i64 s q) 1=1
theorem zo4 {N:Nat} (hN:N<=16):2 ^ N<=65536:=by
 have:2 ^ N<=2 ^ 16:=Nat.pow_le_pow_right (by omega) hN
 omega
theorem zfA {m:Nat} (hm:m < 65536) {q:Nat} (hq:q<=16):bitP (m:Int) (q:Int)↔m.testBit q=true:=by
 have hs:m >>> q<=m:=Nat.shiftRight_le m q;unfold bitP;rw [zxr (by omega),show (1:Int)=((1:Nat):Int) from rfl,zuA (by omega) (by omega),Nat.and_one_is_mod,Nat.testBit]
 rw [show (1 &&& m >>> q)=(m >>> q) % 2 by rw [Nat.and_comm,Nat.and_one_is_mod]]
 simp only [bne_iff_ne,ne_eq];omega
def SetN (N:Nat) (s:Int):Prop:=N<=16/\∃ m:Nat,s=m/\m < 2 ^ N
section
variable {N:Nat} {s t:Int}
theorem SetN.b (h:SetN N s):0<=s/\s < ((2 ^ N:Nat):Int):=by
 obtain ⟨hN,m,rfl,hm⟩:=h;omega
theorem SetN.or (hs:SetN N s) {q:Int} (q0:0<=q) (q1:q < N):SetN N (ior .i64 s (ishl .i64 1 q))/\s<=ior .i64 s (ishl .i64 1 q)/\∀ r:Int,0<=r->r < N->(bitP (ior .i64 s (ishl .i64 1 q)) r↔bitP s r\/r=q):=by
 obtain ⟨hN,m,rfl,hm⟩:=hs;have hp:=zo4 hN;obtain ⟨k,rfl⟩:∃ k:Nat,q=k:=⟨q.toNat,by omega⟩
 obtain ⟨b1,b2⟩:=zyz (m:=m) (q:=k) (by omega) (by omega)
 have h2:2 ^ k < 2 ^ N:=Nat.pow_lt_pow_right (by omega) (by omega)
 have hlt:m ||| 2 ^ k < 2 ^ N:=Nat.or_lt_two_pow (n:=N) hm h2
 have hle:m<=m ||| 2 ^ k:=Nat.left_le_or
 rw [b1];refine ⟨⟨hN,_,rfl,hlt⟩,by omega,fun r r0 r1 => ?_⟩
 obtain ⟨j,rfl⟩:∃ j:Nat,r=j:=⟨r.toNat,by omega⟩
 rw [zfA (by omega) (by omega),zfA (by omega) (by omega),Nat.testBit_or,Bool.or_eq_true,Nat.testBit_two_pow,decide_eq_true_iff]
 exact or_congr Iff.rfl (by omega)
theorem SetN.union (hs:SetN N s) (ht:SetN N t):SetN N (ior .i64 s t)/\∀ r:Int,0<=r->r < N->(bitP (ior .i64 s t) r↔bitP s r\/bitP t r):=by
 obtain ⟨hN,m,rfl,hm⟩:=hs;obtain ⟨_,k,rfl,hk⟩:=ht;have hp:=zo4 hN;have hlt:m ||| k < 2 ^ N:=Nat.or_lt_two_pow (n:=N) hm hk
 rw [ztR (by omega) (by omega)]
 refine ⟨⟨hN,_,rfl,hlt⟩,fun r r0 r1 => ?_⟩
 obtain ⟨j,rfl⟩:∃ j:Nat,r=j:=⟨r.toNat,by omega⟩
 rw [zfA (by omega) (by omega),zfA (by omega) (by omega),zfA (by omega) (by omega),Nat.testBit_or,Bool.or_eq_true]
theorem SetN.zero (hN:N<=16):SetN N 0/\∀ r:Int,0<=r->r < N -> ¬ bitP 0 r:=by
 refine ⟨⟨hN,0,rfl,Nat.pow_pos (by omega)⟩,fun r r0 r1 => ?_⟩
 obtain ⟨j,rfl⟩:∃ j:Nat,r=j:=⟨r.toNat,by omega⟩
 have:=zfA (m:=0) (by omega) (q:=j) (by omega)
 rw [show ((0:Nat):Int)=0 from rfl] at this;rw [this];simp
theorem SetN.ext (hs:SetN N s) (ht:SetN N t) (h:∀ r:Int,0<=r->r < N->(bitP s r↔bitP t r)):s=t:=by
 obtain ⟨hN,m,rfl,hm⟩:=hs;obtain ⟨_,k,rfl,hk⟩:=ht;have hp:=zo4 hN;congr 1
 refine Nat.eq_of_testBit_eq fun b => ?_
 by_cases hb:b < N
 ·have:=h b (by omega) (by omega)
  rw [zfA (by omega) (by omega),zfA (by omega) (by omega)] at this
  rw [Bool.eq_iff_iff];exact this
 ·rw [Nat.testBit_lt_two_pow (Nat.lt_of_lt_of_le hm (Nat.pow_le_pow_right (by omega) (by omega))),Nat.testBit_lt_two_pow (Nat.lt_of_lt_of_le hk (Nat.pow_le_pow_right (by omega) (by omega)))]
theorem SetN.meet (hs:SetN N s) (ht:SetN N t):(¬ iand .i64 s t=0↔∃ r:Int,0<=r/\r < N/\bitP s r/\bitP t r):=by
 obtain ⟨hN,m,rfl,hm⟩:=hs;obtain ⟨_,k,rfl,hk⟩:=ht;have hp:=zo4 hN;rw [zuA (by omega) (by omega)]
 constructor
 ·intro h;have hne:m &&& k≠0:=by omega
  obtain ⟨j,hj⟩:=Nat.exists_testBit_of_ne_zero hne;have hle:m &&& k<=m:=Nat.and_le_left;have hj8:j < N:=by
   refine Nat.lt_of_not_le fun h8 => ?_
   have:m &&& k < 2 ^ j:=Nat.lt_of_lt_of_le (by omega:m &&& k < 2 ^ N) (Nat.pow_le_pow_right (by omega) h8)
   rw [Nat.testBit_lt_two_pow this] at hj;cases hj
  rw [Nat.testBit_and,Bool.and_eq_true] at hj;exact ⟨j,by omega,by omega,(zfA (by omega) (by omega)).2 hj.1,(zfA (by omega) (by omega)).2 hj.2⟩
 ·rintro ⟨r,r0,r1,h1,h2⟩ h;obtain ⟨j,rfl⟩:∃ j:Nat,r=j:=⟨r.toNat,by omega⟩
  have hz:m &&& k=0:=by omega
  have:(m &&& k).testBit j=true:=by rw [Nat.testBit_and,(zfA (by omega) (by omega)).1 h1,(zfA (by omega) (by omega)).1 h2];rfl
  rw [hz] at this;simp at this
end
open Classical in
def zr1 (p:Int->Prop):Nat->Int
 | 0=>0
 | k+1=>if p (k:Int) then ior .i64 (zr1 p k) (ishl .i64 1 (k:Int)) else zr1 p k
open Classical in
theorem zzs (p:Int->Prop) (k:Nat):zr1 p (k+1)=if p (k:Int) then ior .i64 (zr1 p k) (ishl .i64 1 (k:Int)) else zr1 p k:=rfl
theorem zuP {N:Nat} (hN:N<=16) (p:Int->Prop):∀ k:Nat,k<=N->SetN N (zr1 p k)/\∀ r:Int,0<=r->r < N->(bitP (zr1 p k) r↔r < k/\p r)
 | 0,_=>⟨(SetN.zero hN).1,fun r r0 r1=>⟨fun h=>absurd h ((SetN.zero hN).2 r r0 r1),fun h=>by omega⟩⟩
 | k+1,hk=>by
  obtain ⟨h1,h2⟩:=zuP hN p k (by omega)
  unfold zr1;by_cases c:p (k:Int)
  ·rw [if_pos c];obtain ⟨h3,_,h4⟩:=h1.or (q:=(k:Int)) (by omega) (by omega)
   refine ⟨h3,fun r r0 r1 => ?_⟩
   rw [h4 r r0 r1,h2 r r0 r1];constructor
   ·rintro (⟨g1,g2⟩ | rfl)
    ·exact ⟨by omega,g2⟩
    ·exact ⟨by omega,c⟩
   ·rintro ⟨g1,g2⟩;by_cases e:r=k
    ·exact .inr e
    ·exact .inl ⟨by omega,g2⟩
  ·rw [if_neg c];refine ⟨h1,fun r r0 r1 => ?_⟩
   rw [h2 r r0 r1];constructor
   ·rintro ⟨g1,g2⟩;exact ⟨by omega,g2⟩
   ·rintro ⟨g1,g2⟩;by_cases e:r=k
    ·subst e;exact absurd g2 c
    ·exact ⟨by omega,g2⟩
theorem SetN.one {N:Nat} (hN:N<=16) {q:Int} (q0:0<=q) (q1:q < N):SetN N (ishl .i64 1 q)/\∀ r:Int,0<=r->r < N->(bitP (ishl .i64 1 q) r↔r=q):=by
 obtain ⟨h1,_,h3⟩:=(SetN.zero hN).1.or q0 q1;have e:ior .i64 0 (ishl .i64 1 q)=ishl .i64 1 q:=by
  obtain ⟨k,rfl⟩:∃ k:Nat,q=k:=⟨q.toNat,by omega⟩
  have hp:2 ^ k<=2 ^ 16:=Nat.pow_le_pow_right (by omega) (by omega)
  have h1:ishl .i64 1 (k:Int)=((2 ^ k:Nat):Int):=by
   have:=zuE (m:=1) (k:=k) (by omega) (by omega)
   rw [Nat.shiftLeft_eq,Nat.one_mul] at this;exact this
  rw [h1,show (0:Int)=((0:Nat):Int) from rfl,ztR (by omega) (by omega),Nat.zero_or]
 rw [e] at h1 h3;refine ⟨h1,fun r r0 r1=>(h3 r r0 r1).trans ⟨fun h=>h.elim (fun z=>absurd z ((SetN.zero hN).2 r r0 r1)) id,.inr⟩⟩
def zeU (o:Option Bool) (P:Prop):Prop:=∃ b,o=some b/\(b=true↔P)
theorem zeU.of {b:Bool} {P:Prop} (h:b=true↔P):zeU (some b) P:=⟨b,rfl,h⟩
theorem zeU.dec {P Q:Prop} [Decidable P] (h:P↔Q):zeU (some (decide P)) Q:=⟨_,rfl,by simpa using h⟩
theorem zeU.iff {o:Option Bool} {P Q:Prop} (h:zeU o P) (k:P↔Q):zeU o Q:=let ⟨b,h1,h2⟩:=h;⟨b,h1,h2.trans k⟩
theorem zeU.eq {o:Option Bool} {P:Prop} [Decidable P] (h:zeU o P):o=some (decide P):=by
 obtain ⟨b,rfl,hb⟩:=h;by_cases hp:P
 ·simp [hp,hb.2 hp]
 ·have:b=false:=by cases b;rfl;exact absurd (hb.1 rfl) hp
  simp [hp,this]
theorem zeU.to {R:Type} {o:Option Bool} {P:Prop} {k1 k2 x:Option R} (h:zeU o P) (h1:P->k1=x) (h2 : ¬ P->k2=x):(o.bind fun y=>if y=true then k1 else k2)=x:=by
 obtain ⟨b,rfl,hb⟩:=h;refine zau rfl ?_
 cases b
 ·exact h2 fun hp=>by simpa using hb.2 hp
 ·exact h1 (hb.1 rfl)
theorem zeU.bind {R:Type} {o:Option Bool} {P:Prop} {k:Bool->Option R} {x:Option R} (h:zeU o P) (h1:∀ b,(b=true↔P)->k b=x):o.bind k=x:=by
 obtain ⟨b,rfl,hb⟩:=h;exact h1 b hb
section
variable {α C:Type} [Inhabited α]
theorem zmh {l:List α} {P:α->Prop}:(∃ x∈l,P x)↔∃ i:Int,0<=i/\i < l.length/\P (ix l i):=by
 constructor
 ·rintro ⟨x,hx,hp⟩;obtain ⟨i,hi,rfl⟩:=List.mem_iff_getElem.1 hx;refine ⟨i,by omega,by omega,?_⟩
  rwa [ztS (by omega) (by omega)]
 ·rintro ⟨i,h0,h1,hp⟩;exact ⟨_,zhu h0 h1,hp⟩
theorem zvc {s:List α} {f:α->Option Bool} {L:Int->Option Int} {P:α->Prop} (hs:s.length<=4611686018427387904)
  (hL:∀ t,L t=if decide (t < (s.length:Int))=true then G (0<=t/\t < (s.length:Int)) ((f (ix s t)).bind fun y=>if y=true then some t else G (fits (t+1)) (L (t+1))) else some (-1))
  (hf:∀ x∈s,zeU (f x) (P x)):∀ (n:Nat) (t:Int),0<=t->t<=s.length->(s.length - t).toNat=n->
   ∃ i,L t=some i/\((i = -1/\∀ j:Int,t<=j->j < s.length -> ¬ P (ix s j))\/(t<=i/\i < s.length/\P (ix s i)/\∀ j:Int,t<=j->j < i -> ¬ P (ix s j))):=by
 intro n
 induction n with
 | zero=>
  intro t h0 h1 hn;refine ⟨-1,?_,.inl ⟨rfl,fun j a b=>by omega⟩⟩
  rw [hL,if_neg (by simp;omega)]
 | succ n ih=>
  intro t h0 h1 hn;rw [hL,if_pos (by simp;omega),zac (by omega)]
  obtain ⟨b,hb,hbp⟩:=hf _ (zhu h0 (by omega:t < s.length))
  rw [hb]
  cases b with
  | true=>exact ⟨t,rfl,.inr ⟨by omega,by omega,hbp.1 rfl,fun j a b=>by omega⟩⟩
  | false=>
   have hnp : ¬ P (ix s t):=fun hp=>by simpa using hbp.2 hp
   obtain ⟨i,hi,hc⟩:=ih (t+1) (by omega) (by omega) (by omega)
   refine ⟨i,?_,?_⟩
   ·refine (if_neg (by simp):(if false=true then some t else G (fits (t+1)) (L (t+1)))=_).trans ?_
    rw [zac (by unfold fits;omega),hi]
   ·rcases hc with ⟨h2,h3⟩ | ⟨h2,h3,h4,h5⟩
    ·refine .inl ⟨h2,fun j a b => ?_⟩
     by_cases e:j=t
     ·rw [e];exact hnp
     ·exact h3 j (by omega) b
    ·refine .inr ⟨by omega,h3,h4,fun j a b => ?_⟩
     by_cases e:j=t
     ·rw [e];exact hnp
     ·exact h5 j (by omega) b
theorem zlq {s:List α} {f:α->Option Bool} {L:Int->Option Int} {P:α->Prop}
  (hL:∀ t,L t=if decide (t < (s.length:Int))=true then G (0<=t/\t < (s.length:Int)) ((f (ix s t)).bind fun y=>if y=true then some t else G (fits (t+1)) (L (t+1))) else some (-1))
  (hs:s.length<=4611686018427387904) (hf:∀ x∈s,zeU (f x) (P x)):zeU ((L 0).bind fun y=>some (decide ((0:Int)<=y))) (∃ x∈s,P x):=by
 obtain ⟨i,hi,hc⟩:=zvc hs hL hf _ 0 (by omega) (by omega) rfl
 rw [hi];refine ⟨decide (0<=i),rfl,?_⟩
 rw [decide_eq_true_iff,zmh];rcases hc with ⟨h2,h3⟩ | ⟨h2,h3,h4,h5⟩
 ·constructor
  ·intro h;omega
  ·rintro ⟨j,h0,h1,hp⟩;exact absurd hp (h3 j h0 h1)
 ·exact ⟨fun _=>⟨i,by omega,h3,h4⟩,fun _=>by omega⟩
theorem zvQ {s:List α} {c:C} {f:α->C->Option (Bool×C)} {L:Int->C->Option (Int×C)} {P:α->Prop}
  (hL:∀ t c,L t c=if decide (t < (s.length:Int))=true then G (0<=t/\t < (s.length:Int)) ((f (ix s t) c).bind fun y=>if y.1=true then some (t,y.2) else G (fits (t+1)) (L (t+1) y.2)) else some (-1,c))
  (hs:s.length<=4611686018427387904) (hf:∀ x∈s,∃ b,f x c=some (b,c)/\(b=true↔P x)):∃ b,((L 0 c).bind fun y=>some (decide ((0:Int)<=y.1),y.2))=some (b,c)/\(b=true↔∃ x∈s,P x):=by
 have key:∀ (n:Nat) (t:Int),0<=t->t<=s.length->(s.length - t).toNat=n->
   ∃ i,L t c=some (i,c)/\((i = -1/\∀ j:Int,t<=j->j < s.length -> ¬ P (ix s j))\/(t<=i/\i < s.length/\P (ix s i))):=by
  intro n
  induction n with
  | zero=>
   intro t h0 h1 hn;refine ⟨-1,?_,.inl ⟨rfl,fun j a b=>by omega⟩⟩
   rw [hL,if_neg (by simp;omega)]
  | succ n ih=>
   intro t h0 h1 hn;rw [hL,if_pos (by simp;omega),zac (by omega)]
   obtain ⟨b,hb,hbp⟩:=hf _ (zhu h0 (by omega:t < s.length))
   rw [hb]
   cases b with
   | true=>exact ⟨t,rfl,.inr ⟨by omega,by omega,hbp.1 rfl⟩⟩
   | false=>
    have hnp : ¬ P (ix s t):=fun hp=>by simpa using hbp.2 hp
    obtain ⟨i,hi,hc⟩:=ih (t+1) (by omega) (by omega) (by omega)
    refine ⟨i,?_,?_⟩
    ·refine (if_neg (by simp):(if false=true then some (t,c) else G (fits (t+1)) (L (t+1) c))=_).trans ?_
     rw [zac (by unfold fits;omega),hi]
    ·rcases hc with ⟨h2,h3⟩ | ⟨h2,h3,h4⟩
     ·refine .inl ⟨h2,fun j a b => ?_⟩
      by_cases e:j=t
      ·rw [e];exact hnp
      ·exact h3 j (by omega) b
     ·exact .inr ⟨by omega,h3,h4⟩
 obtain ⟨i,hi,hc⟩:=key _ 0 (by omega) (by omega) rfl
 rw [hi];refine ⟨decide (0<=i),rfl,?_⟩
 rw [decide_eq_true_iff,zmh];rcases hc with ⟨h2,h3⟩ | ⟨h2,h3,h4⟩
 ·constructor
  ·intro h;omega
  ·rintro ⟨j,h0,h1,hp⟩;exact absurd hp (h3 j h0 h1)
 ·exact ⟨fun _=>⟨i,by omega,h3,h4⟩,fun _=>by omega⟩
end
theorem zl0 {R:Type} {len:Int} {L:Int->Option R} {bad:Int->Prop} {x:Option R} {lo:Int} (h0:lo<=len)
  (hs:∀ t,lo<=t->t < len->(bad t->L t=x)/\(¬ bad t->L t=L (t+1))) (hf:(∀ t,lo<=t->t < len -> ¬ bad t)->L len=x):L lo=x:=by
 have key:∀ (n:Nat) (t:Int),lo<=t->t<=len->(len - t).toNat=n->(∀ j,lo<=j->j < t -> ¬ bad j)->L t=x:=by
  intro n
  induction n with
  | zero=>
   intro t h1 h2 hn h;obtain rfl:t=len:=by omega
   exact hf h
  | succ n ih=>
   intro t h1 h2 hn h;by_cases hb:bad t
   ·exact (hs t h1 (by omega)).1 hb
   ·rw [(hs t h1 (by omega)).2 hb]
    refine ih (t+1) (by omega) (by omega) (by omega) fun j a b => ?_
    by_cases e:j=t
    ·rw [e];exact hb
    ·exact h j a (by omega)
 exact key _ lo (Int.le_refl _) h0 rfl (fun j a b=>by omega)
theorem fold_to {R S:Type} {len:Int} {L:Int->S->Option R} {f:Int->S->S} {lo:Int} {I:Int->S->Prop} {s:S} (h0:lo<=len) (hI:I lo s)
  (hs:∀ t s,lo<=t->t < len->I t s->L t s=L (t+1) (f t s)/\I (t+1) (f t s)):∃ s',I len s'/\L lo s=L len s':=by
 have key:∀ (n:Nat) (t:Int) (s:S),lo<=t->t<=len->(len - t).toNat=n->I t s->∃ s',I len s'/\L t s=L len s':=by
  intro n
  induction n with
  | zero=>
   intro t s h1 h2 hn h;obtain rfl:t=len:=by omega
   exact ⟨s,h,rfl⟩
  | succ n ih=>
   intro t s h1 h2 hn h;obtain ⟨e,h3⟩:=hs t s h1 (by omega) h
   obtain ⟨s',h4,h5⟩:=ih (t+1) _ (by omega) (by omega) (by omega) h3
   exact ⟨s',h4,e.trans h5⟩
 exact key _ lo s (Int.le_refl _) h0 rfl hI
abbrev Rl:=Int×Int×Int×Int×Unit
abbrev TA:=Int×Int×(List Rl)×Int×(List Int)×Unit
abbrev Nd:=Int×Int×Int×Unit
def RLt (x y:Rl):Prop:=x.1 < y.1\/x.1=y.1/\(x.2.1 < y.2.1\/x.2.1=y.2.1/\(x.2.2.1 < y.2.2.1\/x.2.2.1=y.2.2.1/\x.2.2.2.1 < y.2.2.2.1))
def TLet (t:TA):Prop:=t.1 < 1\/4 < t.1
def zoE (t:TA):Prop:=t.2.1 < 1\/300 < t.2.1\/40000 < t.2.2.1.length \/ ¬ (t.2.2.2.2.1.length:Int)=t.2.1
def RBad (t:TA) (r:Rl):Prop:=r.1 < 0\/t.1<=r.1\/r.2.2.2.1 < 0\/t.2.1<=r.2.2.2.1\/(¬ (r.2.1 = -1/\r.2.2.1 = -1)/\(r.2.1 < 0\/t.2.1<=r.2.1\/r.2.2.1 < 0\/t.2.1<=r.2.2.1))
def TRul (t:TA):Prop:=∃ x∈t.2.2.1,RBad t x
def TMrk (t:TA):Prop:=∃ x∈t.2.2.2.2.1,¬ x=0 /\ ¬ x=1
def TOrd (t:TA):Prop:=∃ i:Int,1<=i/\i < t.2.2.1.length /\ ¬ RLt (ix t.2.2.1 (i - 1)) (ix t.2.2.1 i)
def TEnd (t:TA):Prop:=TOrd t\/t.2.2.2.1≠0
open Classical in
def taE (t:TA):Int:=if TLet t then 2 else if zoE t then 1 else if TRul t then 2 else if TMrk t then 2 else if TEnd t then 3 else 0
theorem chk1 (p:Int) (t:TA):zeU (zf3 p t) (p < 0\/t.2.1<=p):=by
 unfold zf3;by_cases h:p < 0
 ·rw [if_pos (decide_eq_true h)];exact zeU.of (by simp [h])
 ·rw [if_neg (by simpa using h)];exact zeU.dec (by omega)
theorem chk2 (m:Int):zeU (zg9 m) (¬ m=0 /\ ¬ m=1):=by
 unfold zg9;by_cases h:m=0
 ·rw [if_neg (by simp [h])];exact zeU.of (by simp [h])
 ·rw [if_pos (by simp [h])];exact zeU.dec (by simp [h])
theorem zoW (x y:Int):zfJ x y=some (if x < y then -1 else if y < x then 1 else 0):=by
 unfold zfJ zl9;simp only [Option.bind_some,not_true,decide_false,Bool.false_eq_true,if_false,decide_eq_true_eq];by_cases h:x < y
 ·simp [h]
 ·by_cases h2:y < x<;>simp [h,h2]
theorem zyL (a b c d:Int):zuo [a,b,c,d]=some (if a≠0 then a else if b≠0 then b else if c≠0 then c else d):=by
 unfold zuo;rw [zgW];unfold zdG;have e0:ix [a,b,c,d] 0=a:=rfl;have e1:ix [a,b,c,d] (0+1)=b:=rfl;have e2:ix [a,b,c,d] (0+1+1)=c:=rfl;have e3:ix [a,b,c,d] (0+1+1+1)=d:=rfl;rw [if_pos (by simp),zac (by simp),e0]
 by_cases h:a=0
 ·rw [if_neg (by simp [h]),zac (by decide),zgW];unfold zdG
  rw [if_pos (by simp),zac (by simp),e1]
  by_cases h2:b=0
  ·rw [if_neg (by simp [h2]),zac (by decide),zgW];unfold zdG
   rw [if_pos (by simp),zac (by simp),e2]
   by_cases h3:c=0
   ·rw [if_neg (by simp [h3]),zac (by decide),zgW];unfold zdG
    rw [if_pos (by simp),zac (by simp),e3]
    by_cases h4:d=0
    ·rw [if_neg (by simp [h4]),zac (by decide),zgW];unfold zdG
     rw [if_neg (by simp)]
     simp [h,h2,h3,h4]
    ·rw [if_pos (by simp [h4])];simp [h,h2,h3]
   ·rw [if_pos (by simp [h3])];simp [h,h2,h3]
  ·rw [if_pos (by simp [h2])];simp [h,h2]
 ·rw [if_pos (by simp [h])];simp [h]
theorem zi1 (x y:Rl):∃ o,zbB x y=some o/\(0<=o ↔ ¬ RLt x y):=by
 unfold zbB RLt;rw [zoW,zoW,zoW,zoW];simp only [Option.bind_some];rw [zyL];refine ⟨_,rfl,?_⟩
 repeat' split
 all_goals omega
theorem zo9 (x y:Rl):zeU (zmI x y) (RLt x y):=by
 unfold zmI RLt;by_cases h:x.1=y.1
 ·rw [if_neg (by simp [h])]
  by_cases h2:x.2.1=y.2.1
  ·rw [if_neg (by simp [h2])]
   by_cases h3:x.2.2.1=y.2.2.1
   ·rw [if_neg (by simp [h3])];exact zeU.dec (by omega)
   ·rw [if_pos (by simp [h3])];exact zeU.dec (by omega)
  ·rw [if_pos (by simp [h2])];exact zeU.dec (by omega)
 ·rw [if_pos (by simp [h])];exact zeU.dec (by omega)
section
variable {t:TA}
theorem zxV {t1:Int} {r7:Int->Option Int} {leaf:Bool} (hl:leaf=true↔((ix t.2.2.1 t1).2.1 = -1/\(ix t.2.2.1 t1).2.2.1 = -1)) (hb:RBad t (ix t.2.2.1 t1)):zcW t t1 r7 leaf=some 2:=by
 unfold zcW;unfold RBad at hb;generalize ix t.2.2.1 t1=r at *
 (try dsimp only);(repeat' first | (with_reducible refine G_to ?_ ?_;focus (first | omega | (unfold fits;omega) | (unfold room;(try simp only [List.length_append,List.length_cons,List.length_nil]);omega))) | (with_reducible refine zbx ?_ ?_) | (with_reducible refine zce ?_) | (with_reducible refine zcd ?_) | (with_reducible refine zdQ (fun _ => ?_) (fun _ => ?_)))<;>try (exfalso;omega)
 all_goals first | rfl | skip
 refine zeU.to (chk1 _ _) (fun _=>rfl) (fun h1 => ?_)
 simp only at h1
 cases leaf with
 | false=>
  rw [if_pos (by decide)]
  refine zeU.to (chk1 _ _) (fun _=>rfl) (fun h2 => ?_)
  refine zeU.to (chk1 _ _) (fun _=>rfl) (fun h3 => ?_)
  exfalso;simp only at h2 h3;omega
 | true=>
  exfalso;have:=hl.1 rfl;omega
theorem zvA {t1:Int} {r7:Int->Option Int} {leaf:Bool} (hl:leaf=true↔((ix t.2.2.1 t1).2.1 = -1/\(ix t.2.2.1 t1).2.2.1 = -1)) (hb : ¬ RBad t (ix t.2.2.1 t1)) (hf:fits (t1+1)):zcW t t1 r7 leaf=r7 (t1+1):=by
 unfold zcW;unfold RBad at hb;generalize ix t.2.2.1 t1=r at *
 (try dsimp only);(repeat' first | (with_reducible refine G_to ?_ ?_;focus (first | omega | (unfold fits;omega) | (unfold room;(try simp only [List.length_append,List.length_cons,List.length_nil]);omega))) | (with_reducible refine zbx ?_ ?_) | (with_reducible refine zce ?_) | (with_reducible refine zcd ?_) | (with_reducible refine zdQ (fun _ => ?_) (fun _ => ?_)))<;>try (exfalso;omega)
 refine zeU.to (chk1 _ _) (fun h => ?_) (fun h1 => ?_)
 ·exfalso;simp only at h;omega
 cases leaf with
 | false=>
  rw [if_pos (by decide)]
  have hnl : ¬ (r.2.1 = -1/\r.2.2.1 = -1):=fun h=>by cases hl.2 h
  refine zeU.to (chk1 _ _) (fun h => ?_) (fun h2 => ?_)
  ·exfalso;simp only at h;omega
  refine zeU.to (chk1 _ _) (fun h => ?_) (fun h3 => ?_)
  ·exfalso;simp only at h;omega
  rw [zac hf]
 | true=>
  rw [if_neg (by decide),zac hf]
theorem ze7:zlf t=some (taE t):=by
 unfold zlf taE;by_cases c1:TLet t
 ·rw [if_pos c1];unfold TLet at c1
  (try dsimp only);(repeat' first | (with_reducible refine G_to ?_ ?_;focus (first | omega | (unfold fits;omega) | (unfold room;(try simp only [List.length_append,List.length_cons,List.length_nil]);omega))) | (with_reducible refine zbx ?_ ?_) | (with_reducible refine zce ?_) | (with_reducible refine zcd ?_) | (with_reducible refine zdQ (fun _ => ?_) (fun _ => ?_)))<;>try (exfalso;omega)
  all_goals rfl
 rw [if_neg c1];unfold TLet at c1;by_cases c2:zoE t
 ·rw [if_pos c2];unfold zoE at c2
  (try dsimp only);(repeat' first | (with_reducible refine G_to ?_ ?_;focus (first | omega | (unfold fits;omega) | (unfold room;(try simp only [List.length_append,List.length_cons,List.length_nil]);omega))) | (with_reducible refine zbx ?_ ?_) | (with_reducible refine zce ?_) | (with_reducible refine zcd ?_) | (with_reducible refine zdQ (fun _ => ?_) (fun _ => ?_)))<;>try (exfalso;omega)
  all_goals rfl
 rw [if_neg c2];unfold zoE at c2
 (try dsimp only);(repeat' first | (with_reducible refine G_to ?_ ?_;focus (first | omega | (unfold fits;omega) | (unfold room;(try simp only [List.length_append,List.length_cons,List.length_nil]);omega))) | (with_reducible refine zbx ?_ ?_) | (with_reducible refine zce ?_) | (with_reducible refine zcd ?_) | (with_reducible refine zdQ (fun _ => ?_) (fun _ => ?_)))<;>try (exfalso;omega)
 refine zl0 (len:=(t.2.2.1.length:Int)) (bad:=fun i=>RBad t (ix t.2.2.1 i)) (by omega) (fun i h0 h1=>⟨fun hb => ?_,fun hb => ?_⟩) (fun hh => ?_)
 ·rw [if_pos (show TRul t from zmh.2 ⟨i,h0,h1,hb⟩)];rw [zho];unfold zcG
  (try dsimp only);(repeat' first | (with_reducible refine G_to ?_ ?_;focus (first | omega | (unfold fits;omega) | (unfold room;(try simp only [List.length_append,List.length_cons,List.length_nil]);omega))) | (with_reducible refine zbx ?_ ?_) | (with_reducible refine zce ?_) | (with_reducible refine zcd ?_) | (with_reducible refine zdQ (fun _ => ?_) (fun _ => ?_)))<;>try (exfalso;omega)
  ·rename_i h;exact zxV (by simp [h]) hb
  ·rename_i h;exact zxV (by simp [h]) hb
 ·conv=>lhs;rw [zho];unfold zcG
  (try dsimp only);(repeat' first | (with_reducible refine G_to ?_ ?_;focus (first | omega | (unfold fits;omega) | (unfold room;(try simp only [List.length_append,List.length_cons,List.length_nil]);omega))) | (with_reducible refine zbx ?_ ?_) | (with_reducible refine zce ?_) | (with_reducible refine zcd ?_) | (with_reducible refine zdQ (fun _ => ?_) (fun _ => ?_)))<;>try (exfalso;omega)
  ·rename_i h;exact zvA (by simp [h]) hb (by unfold fits;omega)
  ·rename_i h;exact zvA (by simp [h]) hb (by unfold fits;omega)
 rw [if_neg (show ¬ TRul t from fun h=>by obtain ⟨i,i0,i1,i2⟩:=zmh.1 h;exact hh i i0 i1 i2)]
 rw [zho];unfold zcG;rw [if_neg (by simp)]
 have hc:zeU (zfK t.2.2.2.2.1) (TMrk t):=zlq (f:=zg9) (zkd t.2.2.2.2.1) (by omega) (fun x _=>chk2 x)
 refine zeU.to hc (fun h=>by rw [if_pos h]) (fun c4 => ?_)
 rw [if_neg c4];refine zl0 (len:=(t.2.2.1.length:Int)) (bad:=fun i=>1<=i /\ ¬ RLt (ix t.2.2.1 (i - 1)) (ix t.2.2.1 i)) (by omega) (fun i h0 h1=>⟨fun hb => ?_,fun hb => ?_⟩) (fun hh => ?_)
 ·rw [if_pos (show TEnd t from .inl ⟨i,hb.1,h1,hb.2⟩)];rw [zgQ];unfold zcc
  (try dsimp only);(repeat' first | (with_reducible refine G_to ?_ ?_;focus (first | omega | (unfold fits;omega) | (unfold room;(try simp only [List.length_append,List.length_cons,List.length_nil]);omega))) | (with_reducible refine zbx ?_ ?_) | (with_reducible refine zce ?_) | (with_reducible refine zcd ?_) | (with_reducible refine zdQ (fun _ => ?_) (fun _ => ?_)))<;>try (exfalso;omega)
  obtain ⟨o,e,ho⟩:=zi1 (ix t.2.2.1 (i - 1)) (ix t.2.2.1 i);refine zau e ?_
  rw [if_pos (decide_eq_true (ho.2 hb.2))]
 ·conv=>lhs;rw [zgQ];unfold zcc
  by_cases h:0 < i
  ·(try dsimp only);(repeat' first | (with_reducible refine G_to ?_ ?_;focus (first | omega | (unfold fits;omega) | (unfold room;(try simp only [List.length_append,List.length_cons,List.length_nil]);omega))) | (with_reducible refine zbx ?_ ?_) | (with_reducible refine zce ?_) | (with_reducible refine zcd ?_) | (with_reducible refine zdQ (fun _ => ?_) (fun _ => ?_)))<;>try (exfalso;omega)
   obtain ⟨o,e,ho⟩:=zi1 (ix t.2.2.1 (i - 1)) (ix t.2.2.1 i);refine zau e ?_
   rw [if_neg (by rw [decide_eq_true_iff,ho];exact fun h=>hb ⟨by omega,h⟩),zac (by unfold fits;omega)]
  ·(try dsimp only);(repeat' first | (with_reducible refine G_to ?_ ?_;focus (first | omega | (unfold fits;omega) | (unfold room;(try simp only [List.length_append,List.length_cons,List.length_nil]);omega))) | (with_reducible refine zbx ?_ ?_) | (with_reducible refine zce ?_) | (with_reducible refine zcd ?_) | (with_reducible refine zdQ (fun _ => ?_) (fun _ => ?_)))<;>try (exfalso;omega)
   all_goals rfl
 ·have c5 : ¬ TOrd t:=fun ⟨i,i0,i1,i2⟩=>hh i (by omega) i1 ⟨i0,i2⟩
  rw [zgQ];unfold zcc;rw [if_neg (by simp)]
  by_cases c6:t.2.2.2.1=0
  ·rw [if_neg (by simp [c6]),if_neg (show ¬ TEnd t by unfold TEnd;simp [c5,c6])]
  ·rw [if_pos (by simp [c6]),if_pos (show TEnd t from .inr c6)]
theorem zyP {i:Int} {r6:Int->Option Int} {leaf both:Bool} (hl:leaf=true↔((ix t.2.2.1 i).2.1 = -1/\(ix t.2.2.1 i).2.2.1 = -1))
  (hb:both=true↔(0<=(ix t.2.2.1 i).2.1/\(ix t.2.2.1 i).2.1 < t.2.1/\0<=(ix t.2.2.1 i).2.2.1/\(ix t.2.2.1 i).2.2.1 < t.2.1)) (hf:fits (i+1)):
  (RBad t (ix t.2.2.1 i)->zbY t i r6 leaf both=some 2)/\(¬ RBad t (ix t.2.2.1 i)->zbY t i r6 leaf both=r6 (i+1)):=by
 unfold zbY RBad;generalize ix t.2.2.1 i=r at *
 constructor<;>intro h
 ·(try dsimp only);(repeat' first | (with_reducible refine G_to ?_ ?_;focus (first | omega | (unfold fits;omega) | (unfold room;(try simp only [List.length_append,List.length_cons,List.length_nil]);omega))) | (with_reducible refine zbx ?_ ?_) | (with_reducible refine zce ?_) | (with_reducible refine zcd ?_) | (with_reducible refine zdQ (fun _ => ?_) (fun _ => ?_)))<;>try (exfalso;omega)
  all_goals first | rfl | skip
  cases leaf with
  | true=>exfalso;have:=hl.1 rfl;omega
  | false=>
   rw [if_pos (by decide)]
   cases both with
   | false=>rfl
   | true=>exfalso;have:=hb.1 rfl;omega
 ·(try dsimp only);(repeat' first | (with_reducible refine G_to ?_ ?_;focus (first | omega | (unfold fits;omega) | (unfold room;(try simp only [List.length_append,List.length_cons,List.length_nil]);omega))) | (with_reducible refine zbx ?_ ?_) | (with_reducible refine zce ?_) | (with_reducible refine zcd ?_) | (with_reducible refine zdQ (fun _ => ?_) (fun _ => ?_)))<;>try (exfalso;omega)
  cases leaf with
  | true=>rw [if_neg (by decide),zac hf]
  | false=>
   have : ¬ (r.2.1 = -1/\r.2.2.1 = -1):=fun h=>by cases hl.2 h
   have:both=true:=hb.2 (by omega)
   subst this;rw [if_pos (by decide),if_neg (by decide),zac hf]
theorem zuM {i:Int} {r6:Int->Option Int} {leaf:Bool} (hl:leaf=true↔((ix t.2.2.1 i).2.1 = -1/\(ix t.2.2.1 i).2.2.1 = -1)) (hf:fits (i+1)):
  (RBad t (ix t.2.2.1 i)->zdu t i r6 leaf=some 2)/\(¬ RBad t (ix t.2.2.1 i)->zdu t i r6 leaf=r6 (i+1)):=by
 have key:∃ both,zdu t i r6 leaf=zbY t i r6 leaf both/\(both=true↔(0<=(ix t.2.2.1 i).2.1/\(ix t.2.2.1 i).2.1 < t.2.1/\0<=(ix t.2.2.1 i).2.2.1/\(ix t.2.2.1 i).2.2.1 < t.2.1)):=by
  unfold zdu;by_cases h1:0<=(ix t.2.2.1 i).2.1
  ·rw [if_pos (decide_eq_true h1)];by_cases h2:(ix t.2.2.1 i).2.1 < t.2.1
   ·rw [if_pos (decide_eq_true h2)];by_cases h3:0<=(ix t.2.2.1 i).2.2.1
    ·rw [if_pos (decide_eq_true h3)];exact ⟨_,rfl,by simp [h1,h2,h3]⟩
    ·rw [if_neg (by simpa using h3)];exact ⟨false,rfl,by simp;omega⟩
   ·rw [if_neg (by simpa using h2)];exact ⟨false,rfl,by simp;omega⟩
  ·rw [if_neg (by simpa using h1)];exact ⟨false,rfl,by simp;omega⟩
 obtain ⟨both,e,hb⟩:=key;rw [e];exact zyP hl hb hf
theorem zbl:zkz t=some (taE t):=by
 unfold zkz taE;by_cases c1:TLet t
 ·rw [if_pos c1];unfold TLet at c1
  (try dsimp only);(repeat' first | (with_reducible refine G_to ?_ ?_;focus (first | omega | (unfold fits;omega) | (unfold room;(try simp only [List.length_append,List.length_cons,List.length_nil]);omega))) | (with_reducible refine zbx ?_ ?_) | (with_reducible refine zce ?_) | (with_reducible refine zcd ?_) | (with_reducible refine zdQ (fun _ => ?_) (fun _ => ?_)))<;>try (exfalso;omega)
  all_goals rfl
 rw [if_neg c1];unfold TLet at c1;by_cases c2:zoE t
 ·rw [if_pos c2];unfold zoE at c2
  (try dsimp only);(repeat' first | (with_reducible refine G_to ?_ ?_;focus (first | omega | (unfold fits;omega) | (unfold room;(try simp only [List.length_append,List.length_cons,List.length_nil]);omega))) | (with_reducible refine zbx ?_ ?_) | (with_reducible refine zce ?_) | (with_reducible refine zcd ?_) | (with_reducible refine zdQ (fun _ => ?_) (fun _ => ?_)))<;>try (exfalso;omega)
  all_goals rfl
 rw [if_neg c2];unfold zoE at c2
 (try dsimp only);(repeat' first | (with_reducible refine G_to ?_ ?_;focus (first | omega | (unfold fits;omega) | (unfold room;(try simp only [List.length_append,List.length_cons,List.length_nil]);omega))) | (with_reducible refine zbx ?_ ?_) | (with_reducible refine zce ?_) | (with_reducible refine zcd ?_) | (with_reducible refine zdQ (fun _ => ?_) (fun _ => ?_)))<;>try (exfalso;omega)
 refine zl0 (len:=(t.2.2.1.length:Int)) (bad:=fun i=>RBad t (ix t.2.2.1 i)) (by omega) (fun i h0 h1=>⟨fun hb => ?_,fun hb => ?_⟩) (fun hh => ?_)
 ·rw [if_pos (show TRul t from zmh.2 ⟨i,h0,h1,hb⟩)];rw [zhZ];unfold zc1
  (try dsimp only);(repeat' first | (with_reducible refine G_to ?_ ?_;focus (first | omega | (unfold fits;omega) | (unfold room;(try simp only [List.length_append,List.length_cons,List.length_nil]);omega))) | (with_reducible refine zbx ?_ ?_) | (with_reducible refine zce ?_) | (with_reducible refine zcd ?_) | (with_reducible refine zdQ (fun _ => ?_) (fun _ => ?_)))<;>try (exfalso;omega)
  ·rename_i h;exact (zuM (by simp [h]) (by unfold fits;omega)).1 hb
  ·rename_i h;exact (zuM (by simp [h]) (by unfold fits;omega)).1 hb
 ·conv=>lhs;rw [zhZ];unfold zc1
  (try dsimp only);(repeat' first | (with_reducible refine G_to ?_ ?_;focus (first | omega | (unfold fits;omega) | (unfold room;(try simp only [List.length_append,List.length_cons,List.length_nil]);omega))) | (with_reducible refine zbx ?_ ?_) | (with_reducible refine zce ?_) | (with_reducible refine zcd ?_) | (with_reducible refine zdQ (fun _ => ?_) (fun _ => ?_)))<;>try (exfalso;omega)
  ·rename_i h;exact (zuM (by simp [h]) (by unfold fits;omega)).2 hb
  ·rename_i h;exact (zuM (by simp [h]) (by unfold fits;omega)).2 hb
 rw [if_neg (show ¬ TRul t from fun h=>by obtain ⟨i,i0,i1,i2⟩:=zmh.1 h;exact hh i i0 i1 i2)]
 rw [zhZ];unfold zc1;rw [if_neg (by simp)]
 refine zl0 (len:=(t.2.2.2.2.1.length:Int)) (bad:=fun i => ¬ ix t.2.2.2.2.1 i=0 /\ ¬ ix t.2.2.2.2.1 i=1) (by omega) (fun i h0 h1=>⟨fun hb => ?_,fun hb => ?_⟩) (fun hh => ?_)
 ·rw [if_pos (show TMrk t from zmh.2 ⟨i,h0,h1,hb⟩)];rw [zhj];unfold zcy
  (try dsimp only);(repeat' first | (with_reducible refine G_to ?_ ?_;focus (first | omega | (unfold fits;omega) | (unfold room;(try simp only [List.length_append,List.length_cons,List.length_nil]);omega))) | (with_reducible refine zbx ?_ ?_) | (with_reducible refine zce ?_) | (with_reducible refine zcd ?_) | (with_reducible refine zdQ (fun _ => ?_) (fun _ => ?_)))<;>try (exfalso;omega)
  all_goals rfl
 ·conv=>lhs;rw [zhj];unfold zcy
  (try dsimp only);(repeat' first | (with_reducible refine G_to ?_ ?_;focus (first | omega | (unfold fits;omega) | (unfold room;(try simp only [List.length_append,List.length_cons,List.length_nil]);omega))) | (with_reducible refine zbx ?_ ?_) | (with_reducible refine zce ?_) | (with_reducible refine zcd ?_) | (with_reducible refine zdQ (fun _ => ?_) (fun _ => ?_)))<;>try (exfalso;omega)
  all_goals rfl
 rw [if_neg (show ¬ TMrk t from fun h=>by obtain ⟨i,i0,i1,i2⟩:=zmh.1 h;exact hh i i0 i1 i2)]
 rw [zhj];unfold zcy;rw [if_neg (by simp)]
 have fin:∀ n:Int,(t.2.2.1.length:Int)<=n->zgg t n=some (if t.2.2.2.1=0 then 0 else 3):=by
  intro n hn;rw [zhk];unfold zcz;rw [if_neg (by simp only [decide_eq_true_eq];omega)]
  by_cases c6:t.2.2.2.1=0
  ·rw [if_neg (by simp [c6]),if_pos c6]
  ·rw [if_pos (by simp [c6]),if_neg c6]
 have fin2 : ¬ TOrd t->∀ n:Int,(t.2.2.1.length:Int)<=n->zgg t n=some (@ite _ (TEnd t) (Classical.propDecidable _) 3 0):=by
  intro c5 n hn;rw [fin n hn];by_cases c6:t.2.2.2.1=0
  ·rw [if_pos c6,if_neg (show ¬ TEnd t by unfold TEnd;simp [c5,c6])]
  ·rw [if_neg c6,if_pos (show TEnd t from .inr c6)]
 by_cases c4:t.2.2.1.length=0
 ·exact fin2 (fun ⟨i,i0,i1,i2⟩=>by omega) 1 (by omega)
 refine zl0 (len:=(t.2.2.1.length:Int)) (bad:=fun i => ¬ RLt (ix t.2.2.1 (i - 1)) (ix t.2.2.1 i)) (by omega) (fun i h0 h1=>⟨fun hb => ?_,fun hb => ?_⟩) (fun hh => ?_)
 ·rw [if_pos (show TEnd t from .inl ⟨i,h0,h1,hb⟩)];rw [zhk];unfold zcz
  (try dsimp only);(repeat' first | (with_reducible refine G_to ?_ ?_;focus (first | omega | (unfold fits;omega) | (unfold room;(try simp only [List.length_append,List.length_cons,List.length_nil]);omega))) | (with_reducible refine zbx ?_ ?_) | (with_reducible refine zce ?_) | (with_reducible refine zcd ?_) | (with_reducible refine zdQ (fun _ => ?_) (fun _ => ?_)))<;>try (exfalso;omega)
  obtain ⟨o,e,ho⟩:=zo9 (ix t.2.2.1 (i - 1)) (ix t.2.2.1 i);refine zau e ?_
  rw [if_pos (by cases o;rfl;exact absurd (ho.1 rfl) hb)]
 ·conv=>lhs;rw [zhk];unfold zcz
  (try dsimp only);(repeat' first | (with_reducible refine G_to ?_ ?_;focus (first | omega | (unfold fits;omega) | (unfold room;(try simp only [List.length_append,List.length_cons,List.length_nil]);omega))) | (with_reducible refine zbx ?_ ?_) | (with_reducible refine zce ?_) | (with_reducible refine zcd ?_) | (with_reducible refine zdQ (fun _ => ?_) (fun _ => ?_)))<;>try (exfalso;omega)
  obtain ⟨o,e,ho⟩:=zo9 (ix t.2.2.1 (i - 1)) (ix t.2.2.1 i);refine zau e ?_
  rw [if_neg (by rw [ho.2 (Classical.not_not.1 hb)];decide),zac (by unfold fits;omega)]
 ·exact fin2 (fun ⟨i,i0,i1,i2⟩=>hh i (by omega) i1 i2) _ (Int.le_refl _)
end
section
variable {l:List Nd} {le:Int}
open Classical in
def trF (l:List Nd) (le:Int):Nat->Int->List Bool->Int
 | 0,_,c=>if ∃ j:Int,0<=j/\j < l.length - 1/\ix c j=false then 3 else 0
 | n+1,i,c=>if (ix l i).1 < 0\/le<=(ix l i).1 then 2 else
  if (ix l i).2.1 = -1/\(ix l i).2.2.1 = -1 then trF l le n (i+1) c else
  if (ix l i).2.1 < 0\/i<=(ix l i).2.1\/ix c (ix l i).2.1=true\/(ix l i).2.2.1 < 0\/i<=(ix l i).2.2.1\/ix (c.set (ix l i).2.1.toNat true) (ix l i).2.2.1=true then 3 else
  trF l le n (i+1) ((c.set (ix l i).2.1.toNat true).set (ix l i).2.2.1.toNat true)
theorem znI {c:List Bool} (hl:c.length=l.length) (h60:l.length<=60) (h1:1<=l.length):ziv (l,()) c 0=some (trF l le 0 0 c):=by
 unfold trF;refine zl0 (len:=(l.length:Int) - 1) (bad:=fun i=>ix c i=false) (by omega) (fun i h0 h2=>⟨fun hb => ?_,fun hb => ?_⟩) (fun hh => ?_)
 ·rw [if_pos ⟨i,h0,h2,hb⟩];rw [zh0];unfold zc2
  (try dsimp only);(repeat' first | (with_reducible refine G_to ?_ ?_;focus (first | omega | (unfold fits;omega) | (unfold room;(try simp only [List.length_append,List.length_cons,List.length_nil]);omega))) | (with_reducible refine zbx ?_ ?_) | (with_reducible refine zce ?_) | (with_reducible refine zcd ?_) | (with_reducible refine zdQ (fun _ => ?_) (fun _ => ?_)))<;>try (exfalso;omega)
  rw [hb];rfl
 ·conv=>lhs;rw [zh0];unfold zc2
  (try dsimp only);(repeat' first | (with_reducible refine G_to ?_ ?_;focus (first | omega | (unfold fits;omega) | (unfold room;(try simp only [List.length_append,List.length_cons,List.length_nil]);omega))) | (with_reducible refine zbx ?_ ?_) | (with_reducible refine zce ?_) | (with_reducible refine zcd ?_) | (with_reducible refine zdQ (fun _ => ?_) (fun _ => ?_)))<;>try (exfalso;omega)
  have hb:ix c i=true:=by cases h:ix c i;exact absurd h hb;rfl
  rw [hb,if_neg (by decide),zac (by unfold fits;omega)]
 ·rw [if_neg (fun ⟨j,j0,j1,j2⟩=>hh j j0 j1 j2)]
  rw [zh0];unfold zc2
  (try dsimp only);(repeat' first | (with_reducible refine G_to ?_ ?_;focus (first | omega | (unfold fits;omega) | (unfold room;(try simp only [List.length_append,List.length_cons,List.length_nil]);omega))) | (with_reducible refine zbx ?_ ?_) | (with_reducible refine zce ?_) | (with_reducible refine zcd ?_) | (with_reducible refine zdQ (fun _ => ?_) (fun _ => ?_)))<;>try (exfalso;omega)
  rfl
theorem zrO:∀ (n:Nat) (i:Int) (c:List Bool),trF l le n i c=0->∀ j:Int,i<=j->j < i+n->0<=(ix l j).1/\(ix l j).1 < le/\((ix l j).2.1 = -1/\(ix l j).2.2.1 = -1\/0<=(ix l j).2.1/\(ix l j).2.1 < j/\0<=(ix l j).2.2.1/\(ix l j).2.2.1 < j):=by
 intro n
 induction n with
 | zero=>intro i c _ j h1 h2;omega
 | succ n ih=>
  intro i c h j h1 h2;unfold trF at h;by_cases c1:(ix l i).1 < 0\/le<=(ix l i).1
  ·rw [if_pos c1] at h;cases h
  rw [if_neg c1] at h;by_cases c2:(ix l i).2.1 = -1/\(ix l i).2.2.1 = -1
  ·rw [if_pos c2] at h;by_cases e:j=i
   ·subst e;exact ⟨by omega,by omega,.inl c2⟩
   ·exact ih _ _ h j (by omega) (by omega)
  rw [if_neg c2] at h;by_cases c3:(ix l i).2.1 < 0\/i<=(ix l i).2.1\/ix c (ix l i).2.1=true\/(ix l i).2.2.1 < 0\/i<=(ix l i).2.2.1\/ix (c.set (ix l i).2.1.toNat true) (ix l i).2.2.1=true
  ·rw [if_pos c3] at h;cases h
  rw [if_neg c3] at h;by_cases e:j=i
  ·subst e;exact ⟨by omega,by omega,.inr (by omega)⟩
  ·exact ih _ _ h j (by omega) (by omega)
theorem zyQ {i:Int} {c:List Bool} {r8:Int->List Bool->Option Int} (hl:c.length=l.length) (hi:i < l.length) (hf:fits (i+1)):
  zeh (l,()) i c r8=if (ix l i).2.1 < 0\/i<=(ix l i).2.1\/ix c (ix l i).2.1=true\/(ix l i).2.2.1 < 0\/i<=(ix l i).2.2.1\/ix (c.set (ix l i).2.1.toNat true) (ix l i).2.2.1=true then some 3 else r8 (i+1) ((c.set (ix l i).2.1.toNat true).set (ix l i).2.2.1.toNat true):=by
 unfold zeh;generalize ix l i=x at *
 have e:(c.set x.2.1.toNat true).length=l.length:=by rw [List.length_set];exact hl
 (try dsimp only);(repeat' first | (with_reducible refine G_to ?_ ?_;focus (first | omega | (unfold fits;omega) | (unfold room;(try simp only [List.length_append,List.length_cons,List.length_nil]);omega))) | (with_reducible refine zbx ?_ ?_) | (with_reducible refine zce ?_) | (with_reducible refine zcd ?_) | (with_reducible refine zdQ (fun _ => ?_) (fun _ => ?_)))<;>try (exfalso;omega)
 ·rw [if_pos (.inl ‹_›)]
 ·rw [if_pos (.inr (.inl ‹_›))]
 by_cases c1:ix c x.2.1=true
 ·rw [if_pos c1,if_pos (.inr (.inr (.inl c1)))]
 rw [if_neg c1]
 (try dsimp only);(repeat' first | (with_reducible refine G_to ?_ ?_;focus (first | omega | (unfold fits;omega) | (unfold room;(try simp only [List.length_append,List.length_cons,List.length_nil]);omega))) | (with_reducible refine zbx ?_ ?_) | (with_reducible refine zce ?_) | (with_reducible refine zcd ?_) | (with_reducible refine zdQ (fun _ => ?_) (fun _ => ?_)))<;>try (exfalso;omega)
 ·rw [if_pos (.inr (.inr (.inr (.inl ‹_›))))]
 ·rw [if_pos (.inr (.inr (.inr (.inr (.inl ‹_›)))))]
 by_cases c2:ix (c.set x.2.1.toNat true) x.2.2.1=true
 ·rw [if_pos c2,if_pos (.inr (.inr (.inr (.inr (.inr c2)))))]
 rw [if_neg c2]
 (try dsimp only);(repeat' first | (with_reducible refine G_to ?_ ?_;focus (first | omega | (unfold fits;omega) | (unfold room;(try simp only [List.length_append,List.length_cons,List.length_nil]);omega))) | (with_reducible refine zbx ?_ ?_) | (with_reducible refine zce ?_) | (with_reducible refine zcd ?_) | (with_reducible refine zdQ (fun _ => ?_) (fun _ => ?_)))<;>try (exfalso;omega)
 rw [if_neg (by rintro (h | h | h | h | h | h)<;>first | omega | exact c1 h | exact c2 h)]
theorem zoL (h60:l.length<=60) (h1:1<=l.length):∀ (n:Nat) (i:Int) (c:List Bool),0<=i->i+n=l.length->c.length=l.length->zh1 le (l,()) i c=some (trF l le n i c):=by
 intro n
 induction n with
 | zero=>
  intro i c h0 hn hl;rw [zlx];unfold zes;rw [if_neg (by simp only [decide_eq_true_eq];omega)]
  exact znI (le:=le) hl h60 h1
 | succ n ih=>
  intro i c h0 hn hl;rw [zlx];unfold zes trF;have h13 : ¬ ((ix l i).2.1 = -1/\(ix l i).2.2.1 = -1) -> ¬ ((ix l i).1 < 0\/le<=(ix l i).1)->zeh (l,()) i c (fun i c=>zh1 le (l,()) i c)=some (if (ix l i).1 < 0\/le<=(ix l i).1 then 2 else
    if (ix l i).2.1 = -1/\(ix l i).2.2.1 = -1 then trF l le n (i+1) c else
    if (ix l i).2.1 < 0\/i<=(ix l i).2.1\/ix c (ix l i).2.1=true\/(ix l i).2.2.1 < 0\/i<=(ix l i).2.2.1\/ix (c.set (ix l i).2.1.toNat true) (ix l i).2.2.1=true then 3 else
    trF l le n (i+1) ((c.set (ix l i).2.1.toNat true).set (ix l i).2.2.1.toNat true)):=by
   intro q1 q2;rw [zyQ hl (by omega) (by unfold fits;omega),if_neg q2,if_neg q1]
   split
   ·rfl
   ·exact ih _ _ (by omega) (by omega) (by simp [hl])
  (try dsimp only);(repeat' first | (with_reducible refine G_to ?_ ?_;focus (first | omega | (unfold fits;omega) | (unfold room;(try simp only [List.length_append,List.length_cons,List.length_nil]);omega))) | (with_reducible refine zbx ?_ ?_) | (with_reducible refine zce ?_) | (with_reducible refine zcd ?_) | (with_reducible refine zdQ (fun _ => ?_) (fun _ => ?_)))<;>try (exfalso;omega)
  ·rw [if_pos (.inl ‹_›)]
  ·rw [if_pos (.inr ‹_›)]
  ·rw [if_neg (by omega),if_pos ⟨‹_›,‹_›⟩];exact ih _ _ (by omega) (by omega) hl
  ·exact h13 (by omega) (by omega)
  ·exact h13 (by omega) (by omega)
def ttE (le:Int) (l:List Nd):Int:=if le < 1 then 2 else if 4 < le then 2 else if (l.length:Int) < 1 then 1 else if 60 < (l.length:Int) then 1 else trF l le l.length 0 (List.replicate l.length false)
theorem zjD:zhC le (l,())=some (ttE le l):=by
 unfold zhC ttE;dsimp only;by_cases c1:le < 1
 ·rw [if_pos (decide_eq_true c1),if_pos c1]
 rw [if_neg (by simpa using c1),if_neg c1]
 by_cases c2:4 < le
 ·rw [if_pos (decide_eq_true c2),if_pos c2]
 rw [if_neg (by simpa using c2),if_neg c2]
 by_cases c3:(l.length:Int) < 1
 ·rw [if_pos (decide_eq_true c3),if_pos c3]
 rw [if_neg (by simpa using c3),if_neg c3]
 by_cases c4:60 < (l.length:Int)
 ·rw [if_pos (decide_eq_true c4),if_pos c4]
 rw [if_neg (by simpa using c4),if_neg c4]
 rw [zac (by unfold mkOK;omega)]
 exact zoL (by omega) (by omega) l.length 0 _ (by omega) (by omega) (by simp)
end
theorem zrI {α:Type} [Inhabited α] {l:List α} {x:α} {j:Int} (h0:0<=j) (h:j < l.length):ix (l++[x]) j=ix l j:=by
 simp only [ix,List.getD_eq_getElem?_getD];rw [List.getElem?_append_left (by omega)]
theorem zin {α:Type} [Inhabited α] {l:List α} {x:α} {j:Int} (h:j=l.length):ix (l++[x]) j=x:=by
 subst h;simp [ix,List.getD_eq_getElem?_getD]
section
variable {a:TA} {t:List Nd}
def Use (x:Nd) (can:List (List Bool)) (r:Rl):Prop:=r.1=x.1/\(r.2.1 = -1↔x.2.1 = -1)/\(r.2.1 = -1\/ix (ix can x.2.1) r.2.1=true/\ix (ix can x.2.2.1) r.2.2.1=true)
structure Ok (a:TA) (t:List Nd):Prop where
 st:1<=a.2.1/\a.2.1<=300
 rl:a.2.2.1.length<=40000
 mks:(a.2.2.2.2.1.length:Int)=a.2.1
 rb:∀ k:Int,0<=k->k < a.2.2.1.length -> ¬ RBad a (ix a.2.2.1 k)
 n:1<=t.length/\t.length<=60
 nd:∀ j:Int,0<=j->j < t.length->((ix t j).2.1 = -1/\(ix t j).2.2.1 = -1\/0<=(ix t j).2.1/\(ix t j).2.1 < j/\0<=(ix t j).2.2.1/\(ix t j).2.2.1 < j)
theorem zw7 {k:Int} {own:List Bool} {r8:Int->List Bool->Option Bool} (ok:Ok a t) (hl:(own.length:Int)=a.2.1) (h0:0<=k) (h1:k < a.2.2.1.length) (b:Bool):
  zcx a k own r8 b=r8 (k+1) (if b=true then own.set (ix a.2.2.1 k).2.2.2.1.toNat true else own):=by
 have hb:=ok.rb k h0 h1;unfold RBad at hb;have:=ok.rl;unfold zcx
 cases b with
 | false=>rw [if_neg (by decide),if_neg (by decide),zac (by unfold fits;omega)]
 | true=>
  rw [if_pos rfl,if_pos rfl];rw [zac (by omega),zac (by omega),zac (by unfold fits;omega)]
open Classical in
theorem zvB {i k:Int} {own:List Bool} {can:List (List Bool)} {r3:Int->List (List Bool)->Option Bool} (ok:Ok a t) (hi:0<=i/\i < t.length) (hc:(can.length:Int)=i) (hrows:∀ j:Int,0<=j->j < i->((ix can j).length:Int)=a.2.1) (hl:(own.length:Int)=a.2.1) (h0:0<=k) (h1:k < a.2.2.1.length):
  zbG a (t,()) i can r3 k own=zbG a (t,()) i can r3 (k+1) (if Use (ix t i) can (ix a.2.2.1 k) then own.set (ix a.2.2.1 k).2.2.2.1.toNat true else own):=by
 have hb:=ok.rb k h0 h1;unfold RBad at hb;have hn:=ok.nd i hi.1 hi.2;have hrl:=ok.rl
 conv=>lhs;rw [zgI];unfold zca
 rw [if_pos (decide_eq_true h1),zac (by omega)]
 simp only [zw7 (r8:=fun k own=>zbG a (t,()) i can r3 k own) ok hl h0 h1]
 unfold Use;by_cases c1:(ix a.2.2.1 k).1=(ix t i).1
 ·rw [if_neg (by simp [c1])]
  by_cases c2:(ix a.2.2.1 k).2.1 = -1
  ·by_cases c3:(ix t i).2.1 = -1
   ·rw [if_neg (by simp [c2,c3]),if_pos (decide_eq_true c2),if_pos trivial,if_pos ⟨c1,by simp [c2,c3],.inl c2⟩]
   ·rw [if_pos (by simp [c2,c3]),zac (by unfold fits;omega),if_neg (fun h=>c3 (h.2.1.1 c2))]
  ·by_cases c3:(ix t i).2.1 = -1
   ·rw [if_pos (by simp [c2,c3]),zac (by unfold fits;omega),if_neg (fun h=>c2 (h.2.1.2 c3))]
   ·rw [if_neg (by simp [c2,c3]),if_neg (by simpa using c2)]
    have l1:=hrows (ix t i).2.1 (by omega) (by omega)
    have l2:=hrows (ix t i).2.2.1 (by omega) (by omega)
    rw [zac (by omega),zac (by omega),zac (by omega)]
    by_cases c4:ix (ix can (ix t i).2.1) (ix a.2.2.1 k).2.1=true
    ·rw [if_pos c4,zac (by omega),zac (by omega),zac (by omega)]
     by_cases c5:ix (ix can (ix t i).2.2.1) (ix a.2.2.1 k).2.2.1=true
     ·rw [if_pos c5,if_pos ⟨c1,by simp [c2,c3],.inr ⟨c4,c5⟩⟩]
     ·rw [if_neg c5,if_neg (fun h=>by rcases h.2.2 with h | h;exact c2 h;exact c5 h.2)]
    ·rw [if_neg c4,if_neg (by decide),if_neg (fun h=>by rcases h.2.2 with h | h;exact c2 h;exact c4 h.1)]
 ·rw [if_pos (by simp [c1]),zac (by unfold fits;omega),if_neg (fun h=>c1 h.1)]
end
section
variable {a:TA} {t:List Nd}
structure Rows (a:TA) (t:List Nd) (can:List (List Bool)) (i:Int):Prop where
 l:(can.length:Int)=i
 w:∀ j:Int,0<=j->j < i->((ix can j).length:Int)=a.2.1
 m:∀ j:Int,0<=j->j < i->∀ q:Int,0<=q->q < a.2.1->(ix (ix can j) q=true↔∃ k:Int,0<=k/\k < a.2.2.1.length/\Use (ix t j) can (ix a.2.2.1 k)/\(ix a.2.2.1 k).2.2.2.1=q)
theorem zye (ok:Ok a t) {can:List (List Bool)} {own:List Bool} {j:Int} (j0:0<=j) (j1:j < t.length) (hj:j<=can.length) {r:Rl}:Use (ix t j) (can++[own]) r↔Use (ix t j) can r:=by
 have hn:=ok.nd j j0 j1;unfold Use;by_cases c:r.2.1 = -1
 ·simp [c]
 ·by_cases c2:(ix t j).2.1 = -1
  ·simp [c,c2]
  ·rcases hn with hn | hn
   ·exact absurd hn.1 c2
   ·rw [zdH hn.1 (by omega),zdH hn.2.2.1 (by omega)]
open Classical in
theorem zyW (ok:Ok a t) {i:Int} {can:List (List Bool)} (hi:0<=i/\i < t.length) (h:Rows a t can i) {r3:Int->List (List Bool)->Option Bool}:∀ (n:Nat) (k:Int) (own:List Bool),0<=k->k+n=a.2.2.1.length->(own.length:Int)=a.2.1->
  ∃ own',zbG a (t,()) i can r3 k own=r3 (i+1) (can++[own'])/\(own'.length:Int)=a.2.1/\∀ q:Int,0<=q->q < a.2.1->(ix own' q=true↔ix own q=true\/∃ j:Int,k<=j/\j < a.2.2.1.length/\Use (ix t i) can (ix a.2.2.1 j)/\(ix a.2.2.1 j).2.2.2.1=q):=by
 have hc:=h.l;have hn60:=ok.n;intro n
 induction n with
 | zero=>
  intro k own k0 hn hl;refine ⟨own,?_,hl,fun q q0 q1=>⟨.inl,fun h=>h.elim id fun ⟨j,j0,j1,_⟩=>by omega⟩⟩
  rw [zgI];unfold zca;rw [if_neg (by simp only [decide_eq_true_eq];omega),zac (by unfold room;simp only [List.length_cons,List.length_nil];omega),zac (by unfold fits;omega)]
 | succ n ih=>
  intro k own k0 hn hl;have hb:=ok.rb k k0 (by omega)
  unfold RBad at hb;rw [zvB ok hi hc h.w hl k0 (by omega)]
  by_cases u:Use (ix t i) can (ix a.2.2.1 k)
  ·rw [if_pos u];obtain ⟨own',e,h1,h2⟩:=ih (k+1) (own.set (ix a.2.2.1 k).2.2.2.1.toNat true) (by omega) (by omega) (by simpa using hl)
   refine ⟨own',e,h1,fun q q0 q1 => ?_⟩
   rw [h2 q q0 q1];by_cases e:(ix a.2.2.1 k).2.2.2.1=q
   ·rw [<- e,zda (by omega) (by omega)]
    exact ⟨fun _ => .inr ⟨k,Int.le_refl _,by omega,u,rfl⟩,fun _ => .inl rfl⟩
   ·rw [zeY (by omega) q0 e]
    constructor
    ·rintro (h | ⟨j,j0,j1,j2⟩)
     ·exact .inl h
     ·exact .inr ⟨j,by omega,j1,j2⟩
    ·rintro (h | ⟨j,j0,j1,j2,j3⟩)
     ·exact .inl h
     ·by_cases ej:j=k
      ·subst ej;exact absurd j3 e
      ·exact .inr ⟨j,by omega,j1,j2,j3⟩
  ·rw [if_neg u];obtain ⟨own',e,h1,h2⟩:=ih (k+1) own (by omega) (by omega) hl
   refine ⟨own',e,h1,fun q q0 q1 => ?_⟩
   rw [h2 q q0 q1];constructor
   ·rintro (h | ⟨j,j0,j1,j2⟩)
    ·exact .inl h
    ·exact .inr ⟨j,by omega,j1,j2⟩
   ·rintro (h | ⟨j,j0,j1,j2,j3⟩)
    ·exact .inl h
    ·by_cases ej:j=k
     ·subst ej;exact absurd j2 u
     ·exact .inr ⟨j,by omega,j1,j2,j3⟩
theorem zke (ok:Ok a t):∃ can b,zbN a (t,())=some b/\Rows a t can t.length/\(b=true↔∃ q:Int,0<=q/\q < a.2.1/\ix (ix can ((t.length:Int) - 1)) q=true/\ix a.2.2.2.2.1 q=1):=by
 have hn:=ok.n;have hs:=ok.st;have hm:=ok.mks;have k3:∀ (n:Nat) (i:Int) (can:List (List Bool)),0<=i->i+n=t.length->Rows a t can i->∃ can',zbF a (t,()) i can=zbF a (t,()) t.length can'/\Rows a t can' t.length:=by
  intro n
  induction n with
  | zero=>
   intro i can i0 hi h;obtain rfl:i=t.length:=by omega
   exact ⟨can,rfl,h⟩
  | succ n ih=>
   intro i can i0 hi h;have hc:=h.l;obtain ⟨own,e,h1,h2⟩:=zyW ok ⟨i0,by omega⟩ h (r3:=zbF a (t,())) a.2.2.1.length 0 (List.replicate a.2.1.toNat false) (by omega) (by omega) (by simp;omega)
   obtain ⟨can',e',h'⟩:=ih (i+1) (can++[own]) (by omega) (by omega) ⟨by rw [List.length_append,List.length_singleton];omega,fun j j0 j1=>by
     by_cases c:j=i
     ·rw [c,<- hc,zgU];exact h1
     ·rw [zdH j0 (by omega)];exact h.w j j0 (by omega),fun j j0 j1 q q0 q1=>by
     have hu:∀ k:Int,Use (ix t j) (can++[own]) (ix a.2.2.1 k)↔Use (ix t j) can (ix a.2.2.1 k):=fun k=>zye ok j0 (by omega) (by omega)
     simp only [hu];by_cases c:j=i
     ·subst c;rw [show ix (can++[own]) j=own by rw [<- hc,zgU],h2 q q0 q1,zim q0 (by omega)]
      constructor
      ·rintro (h | h)
       ·cases h
       ·exact h
      ·exact .inr
     ·rw [zdH j0 (by omega)];exact h.m j j0 (by omega) q q0 q1⟩
   refine ⟨can',?_,h'⟩
   rw [<- e']
   conv=>lhs;rw [zfa];unfold zbI
   rw [if_pos (decide_eq_true (by dsimp only;omega)),zac (by dsimp only;omega),zac (by unfold mkOK;omega)]
   exact e
 obtain ⟨can,e,h⟩:=k3 t.length 0 [] (by omega) (by omega) ⟨rfl,fun j j0 j1=>by omega,fun j j0 j1=>by omega⟩
 have hc:=h.l;have hw:=h.w ((t.length:Int) - 1) (by omega) (by omega)
 have k17:∀ (n:Nat) (q:Int),0<=q->q+n=a.2.1->∃ b,ze0 a can q=some b/\(b=true↔∃ p:Int,q<=p/\p < a.2.1/\ix (ix can ((t.length:Int) - 1)) p=true/\ix a.2.2.2.2.1 p=1):=by
  intro n
  induction n with
  | zero=>
   intro q q0 hq;refine ⟨false,?_,⟨fun h=>(by cases h),fun ⟨p,p0,p1,_⟩=>by omega⟩⟩
   rw [zeM];unfold zbz;rw [if_neg (by simp only [decide_eq_true_eq];omega)]
  | succ n ih=>
   intro q q0 hq;obtain ⟨b,e,hb⟩:=ih (q+1) (by omega) (by omega)
   have skip : ¬ (ix (ix can ((t.length:Int) - 1)) q=true/\ix a.2.2.2.2.1 q=1)->(b=true↔∃ p:Int,q<=p/\p < a.2.1/\ix (ix can ((t.length:Int) - 1)) p=true/\ix a.2.2.2.2.1 p=1):=fun hno=>by
    rw [hb];constructor
    ·rintro ⟨p,p0,p1⟩;exact ⟨p,by omega,p1⟩
    ·rintro ⟨p,p0,p1,p2⟩;by_cases ep:p=q
     ·subst ep;exact absurd p2 hno
     ·exact ⟨p,by omega,p1,p2⟩
   rw [zeM];unfold zbz;rw [if_pos (decide_eq_true (by omega)),hc,zac (by omega)]
   by_cases c1:ix (ix can ((t.length:Int) - 1)) q=true
   ·rw [if_pos c1,zac (by omega)]
    by_cases c2:ix a.2.2.2.2.1 q=1
    ·rw [if_pos (decide_eq_true c2)];exact ⟨true,rfl,⟨fun _=>⟨q,Int.le_refl _,by omega,c1,c2⟩,fun _=>rfl⟩⟩
    ·rw [if_neg (by simpa using c2),zac (by unfold fits;omega)]
     exact ⟨b,e,skip fun h=>c2 h.2⟩
   ·rw [if_neg c1,zac (by unfold fits;omega)]
    exact ⟨b,e,skip fun h=>c1 h.1⟩
 obtain ⟨b,eb,hb⟩:=k17 a.2.1.toNat 0 (by omega) (by omega)
 refine ⟨can,b,?_,h,hb⟩
 unfold zbN;rw [e,zfa];unfold zbI;rw [if_neg (by simp),zac (by unfold fits;omega),zac (by omega),zac (by omega)]
 exact eb
end
section
variable {a:TA} {t:List Nd}
structure Ok0 (a:TA):Prop where
 st:1<=a.2.1/\a.2.1<=300
 rl:a.2.2.1.length<=40000
 mks:(a.2.2.2.2.1.length:Int)=a.2.1
 rb:∀ k:Int,0<=k->k < a.2.2.1.length -> ¬ RBad a (ix a.2.2.1 k)
theorem zsP (h1:taE a=0):Ok0 a:=by
 unfold taE at h1;by_cases c1:TLet a
 ·rw [if_pos c1] at h1;cases h1
 rw [if_neg c1] at h1;by_cases c2:zoE a
 ·rw [if_pos c2] at h1;cases h1
 rw [if_neg c2] at h1;by_cases c3:TRul a
 ·rw [if_pos c3] at h1;cases h1
 unfold zoE at c2;exact ⟨by omega,by omega,by omega,fun k k0 k1 hb=>c3 (zmh.2 ⟨k,k0,k1,hb⟩)⟩
theorem zvj (h1:taE a=0) (h2:ttE a.1 t=0):Ok a t:=by
 unfold taE at h1;by_cases c1:TLet a
 ·rw [if_pos c1] at h1;cases h1
 rw [if_neg c1] at h1;by_cases c2:zoE a
 ·rw [if_pos c2] at h1;cases h1
 rw [if_neg c2] at h1;by_cases c3:TRul a
 ·rw [if_pos c3] at h1;cases h1
 unfold zoE at c2;unfold ttE at h2;by_cases d1:a.1 < 1
 ·rw [if_pos d1] at h2;cases h2
 rw [if_neg d1] at h2;by_cases d2:4 < a.1
 ·rw [if_pos d2] at h2;cases h2
 rw [if_neg d2] at h2;by_cases d3:(t.length:Int) < 1
 ·rw [if_pos d3] at h2;cases h2
 rw [if_neg d3] at h2;by_cases d4:60 < (t.length:Int)
 ·rw [if_pos d4] at h2;cases h2
 rw [if_neg d4] at h2;exact ⟨by omega,by omega,by omega,fun k k0 k1 hb=>c3 (zmh.2 ⟨k,k0,k1,hb⟩),by omega,fun j j0 j1=>(zrO _ _ _ h2 j j0 (by omega)).2.2⟩
end
section
variable {a:TA}
def Fits (letter left right:Int) (r:Rl):Prop:=r.1=letter/\(r.2.1 < 0↔left < 0)/\(left < 0\/bitP left r.2.1/\bitP right r.2.2.1)
def zxO (a:TA) (letter left right q:Int):Prop:=∃ k:Int,0<=k/\k < a.2.2.1.length/\Fits letter left right (ix a.2.2.1 k)/\(ix a.2.2.1 k).2.2.2.1=q
def zpV (a:TA) (N:Nat) (letter left right:Int):Int:=zr1 (zxO a letter left right) N
theorem zm3 (a:TA) {N:Nat} (hN:N<=16) (letter left right:Int):SetN N (zpV a N letter left right)/\∀ q:Int,0<=q->q < N->(bitP (zpV a N letter left right) q↔zxO a letter left right q):=by
 obtain ⟨h1,h2⟩:=zuP hN (zxO a letter left right) N (Nat.le_refl _);exact ⟨h1,fun q q0 q1=>(h2 q q0 q1).trans ⟨fun h=>h.2,fun h=>⟨q1,h⟩⟩⟩
theorem zs5 (ok:Ok0 a) {N:Nat} (hN:N<=16) (hs:a.2.1=N) (letter left right:Int):zkZ a letter left right=some (zpV a N letter left right):=by
 have hrl:=ok.rl;have k3:∀ (n:Nat) (k s:Int),0<=k->k+n=a.2.2.1.length->SetN N s->(∀ q:Int,0<=q->q < N->(bitP s q↔∃ j:Int,0<=j/\j < k/\Fits letter left right (ix a.2.2.1 j)/\(ix a.2.2.1 j).2.2.2.1=q))->
   zf5 a letter left right s k=some (zpV a N letter left right):=by
  intro n
  induction n with
  | zero=>
   intro k s k0 hk hS h;obtain rfl:k=a.2.2.1.length:=by omega
   rw [zk0];unfold zdP;rw [if_neg (by simp)]
   obtain ⟨h1,h2⟩:=zm3 a hN letter left right;rw [hS.ext h1 fun q q0 q1=>(h q q0 q1).trans (h2 q q0 q1).symm]
  | succ n ih=>
   intro k s k0 hk hS h;have hb:=ok.rb k k0 (by omega)
   unfold RBad at hb;have f1:fits (k+1):=by unfold fits;omega
   have no : ¬ Fits letter left right (ix a.2.2.1 k)->zf5 a letter left right s (k+1)=some (zpV a N letter left right):=fun hno=>by
    refine ih (k+1) s (by omega) (by omega) hS fun q q0 q1 => ?_
    rw [h q q0 q1];constructor
    ·rintro ⟨j,j0,j1,j2⟩;exact ⟨j,j0,by omega,j2⟩
    ·rintro ⟨j,j0,j1,j2,j3⟩;by_cases e:j=k
     ·subst e;exact absurd j2 hno
     ·exact ⟨j,j0,by omega,j2,j3⟩
   have yes:Fits letter left right (ix a.2.2.1 k)->zf5 a letter left right (ior .i64 s (ishl .i64 1 (ix a.2.2.1 k).2.2.2.1)) (k+1)=some (zpV a N letter left right):=fun hy=>by
    obtain ⟨h1,_,h2⟩:=hS.or (q:=(ix a.2.2.1 k).2.2.2.1) (by omega) (by omega)
    refine ih (k+1) _ (by omega) (by omega) h1 fun q q0 q1 => ?_
    rw [h2 q q0 q1,h q q0 q1];constructor
    ·rintro (⟨j,j0,j1,j2⟩ | e)
     ·exact ⟨j,j0,by omega,j2⟩
     ·exact ⟨k,k0,by omega,hy,e.symm⟩
    ·rintro ⟨j,j0,j1,j2,j3⟩;by_cases e:j=k
     ·subst e;exact .inr j3.symm
     ·exact .inl ⟨j,j0,by omega,j2,j3⟩
   rw [zk0];unfold zdP;rw [if_pos (by simp only [decide_eq_true_eq];omega),zac (by omega)]
   unfold Fits at no yes;by_cases c1:(ix a.2.2.1 k).1=letter
   ·rw [if_neg (by simp [c1])]
    by_cases c2:((ix a.2.2.1 k).2.1 < 0↔left < 0)
    ·rw [if_neg (by simp [c2])]
     by_cases c3:left < 0
     ·rw [if_pos (decide_eq_true c3),zac (by omega),zac f1]
      exact yes ⟨c1,c2,.inl c3⟩
     ·have c4 : ¬ (ix a.2.2.1 k).2.1 < 0:=fun h=>c3 (c2.1 h)
      rw [if_neg (by simpa using c3),zac (by omega)]
      by_cases c5:bitP left (ix a.2.2.1 k).2.1
      ·rw [if_pos (decide_eq_true (show iand .i64 (ishr .i64 left (ix a.2.2.1 k).2.1) 1=1 from c5)),zac (by omega)]
       by_cases c6:bitP right (ix a.2.2.1 k).2.2.1
       ·rw [if_pos (decide_eq_true (show iand .i64 (ishr .i64 right (ix a.2.2.1 k).2.2.1) 1=1 from c6)),zac (by omega),zac f1]
        exact yes ⟨c1,c2,.inr ⟨c5,c6⟩⟩
       ·rw [if_neg (by rw [decide_eq_true_iff];exact c6),zac f1]
        exact no fun h=>h.2.2.elim c3 fun h=>c6 h.2
      ·rw [if_neg (by rw [decide_eq_true_iff];exact c5),zac f1]
       exact no fun h=>h.2.2.elim c3 fun h=>c5 h.1
    ·rw [if_pos (by simp only [decide_eq_true_eq,decide_eq_decide];exact c2),zac f1]
     exact no fun h=>c2 h.2.1
   ·rw [if_pos (by simp [c1]),zac f1]
    exact no fun h=>c1 h.1
 obtain ⟨z1,z2⟩:=SetN.zero hN;unfold zkZ;exact k3 a.2.2.1.length 0 0 (by omega) (by omega) z1 fun q q0 q1=>⟨fun h=>absurd h (z2 q q0 q1),fun ⟨j,j0,j1,_⟩=>by omega⟩
theorem zsH (hm:(a.2.2.2.2.1.length:Int)=a.2.1) (hs:a.2.1<=300) (s:Int):∃ b,zm7 a s=some b/\(b=true↔∃ q:Int,0<=q/\q < a.2.1/\ix a.2.2.2.2.1 q=1/\bitP s q):=by
 have k2:∀ (n:Nat) (q:Int),0<=q->q+n=a.2.1->∃ b,ziA a s q=some b/\(b=true↔∃ p:Int,q<=p/\p < a.2.1/\ix a.2.2.2.2.1 p=1/\bitP s p):=by
  intro n
  induction n with
  | zero=>
   intro q q0 hq;refine ⟨false,?_,⟨fun h=>(by cases h),fun ⟨p,p0,p1,_⟩=>by omega⟩⟩
   rw [zkN];unfold zdL;rw [if_neg (by simp only [decide_eq_true_eq];omega)]
  | succ n ih=>
   intro q q0 hq;obtain ⟨b,e,hb⟩:=ih (q+1) (by omega) (by omega)
   have skip : ¬ (ix a.2.2.2.2.1 q=1/\bitP s q)->(b=true↔∃ p:Int,q<=p/\p < a.2.1/\ix a.2.2.2.2.1 p=1/\bitP s p):=fun hno=>by
    rw [hb];constructor
    ·rintro ⟨p,p0,p1⟩;exact ⟨p,by omega,p1⟩
    ·rintro ⟨p,p0,p1,p2⟩;by_cases ep:p=q
     ·subst ep;exact absurd p2 hno
     ·exact ⟨p,by omega,p1,p2⟩
   rw [zkN];unfold zdL;rw [if_pos (by simp only [decide_eq_true_eq];omega),zac (by omega)]
   by_cases c1:ix a.2.2.2.2.1 q=1
   ·rw [if_pos (decide_eq_true c1),zac (by omega)]
    by_cases c2:bitP s q
    ·rw [if_pos (decide_eq_true (show iand .i64 (ishr .i64 s q) 1=1 from c2))];exact ⟨true,rfl,⟨fun _=>⟨q,Int.le_refl _,by omega,c1,c2⟩,fun _=>rfl⟩⟩
    ·rw [if_neg (by rw [decide_eq_true_iff];exact c2),zac (by unfold fits;omega)]
     exact ⟨b,e,skip fun h=>c2 h.2⟩
   ·rw [if_neg (by simpa using c1),zac (by unfold fits;omega)]
    exact ⟨b,e,skip fun h=>c1 h.1⟩
 by_cases h0:0<=a.2.1
 ·obtain ⟨b,e,h⟩:=k2 a.2.1.toNat 0 (by omega) (by omega)
  exact ⟨b,e,h⟩
 ·omega
end
theorem zwM {α:Type} [DecidableEq α]:∀ {l U:List α},l.Nodup->(∀ x∈l,x∈U)->l.length<=U.length
 | [],_,_,_=>Nat.zero_le _
 | a::l,U,hn,hs=>by
  have ha:=hs a (by simp)
  obtain ⟨h1,h2⟩:=List.nodup_cons.1 hn;have:=zwM (U:=U.erase a) h2 (fun x hx=>(List.mem_erase_of_ne (by rintro rfl;exact h1 hx)).2 (hs x (by simp [hx])))
  rw [List.length_erase_of_mem ha] at this;have hp:0 < U.length:=List.length_pos_of_mem ha;rw [List.length_cons];omega
theorem zqW {l:List Int} {n:Nat} (h:l.Nodup) (hb:∀ x∈l,0<=x/\x < n):l.length<=n:=by
 have:=zwM (U:=(List.range n).map Int.ofNat) h (fun x hx=>by
  have:=hb x hx;exact List.mem_map.2 ⟨x.toNat,List.mem_range.2 (by omega),by show ((x.toNat:Nat):Int)=x;omega⟩)
 simpa using this
theorem ze9 {α:Type}:∀ {ks:List α} {x:α},zdq ks x=none↔x∉ks
 | [],x=>by simp [zdq]
 | y::ys,x=>by
  unfold zdq;by_cases h:y=x
  ·rw [if_pos h];simp [h]
  ·rw [if_neg h,Option.map_eq_none_iff,ze9];simp [Ne.symm h]
abbrev ones {α:Type} (ks:List α):List Int:=List.replicate ks.length 1
theorem zzR {α:Type} {ks:List α} {x:α}:(mget ks (ones ks) x 0=0)↔x∉ks:=by
 unfold mget
 cases h:zdq ks x with
 | none=>simp [ze9.1 h]
 | some j=>
  have hx:x∈ks:=by
   refine Classical.byContradiction fun hn => ?_
   rw [ze9.2 hn] at h;cases h
  have:=zjx h;simp [hx,this]
theorem zzS {α:Type} {ks:List α} {x:α} (h:x∉ks):zlh ks x=ks++[x]:=by
 unfold zlh;rw [ze9.2 h]
theorem zzT {α:Type} {ks:List α} {x:α} (h:x∉ks):zoG ks (ones ks) x 1=ones (ks++[x]):=by
 unfold zoG;rw [ze9.2 h];show List.replicate ks.length 1++[1]=List.replicate (ks++[x]).length 1;rw [List.length_append,List.length_singleton,List.replicate_succ']
theorem zwB {α:Type} {ks:List α} {x:α} (h:x∈ks):∃ j,zdq ks x=some j:=by
 cases e:zdq ks x with
 | none=>exact absurd h (ze9.1 e)
 | some j=>exact ⟨j,rfl⟩
theorem zmy {α:Type} (ks:List α) (x:α):zdq (x::ks) x=some 0:=by unfold zdq;rw [if_pos rfl]
theorem zmz {α:Type} {ks:List α} {x y:α} (h:y≠x):zdq (y::ks) x=(zdq ks x).map (·+1):=by
 rw [zdq,if_neg h]
theorem zwz {α:Type}:∀ {ks:List α} {x:α} {j:Nat} (l:List α),zdq ks x=some j->zdq (ks++l) x=some j
 | [],_,_,_,h=>by cases h
 | y::ks,x,j,l,h=>by
  rw [List.cons_append];by_cases e:y=x
  ·subst e;rw [zmy] at h ⊢;exact h
  ·rw [zmz e] at h ⊢
   cases hm:zdq ks x with
   | none=>rw [hm] at h;cases h
   | some i=>rw [hm] at h;rw [zwz l hm];exact h
theorem zwC {α:Type}:∀ {ks:List α} {x:α},x∉ks->zdq (ks++[x]) x=some ks.length
 | [],x,_=>zmy _ _
 | y::ks,x,h=>by
  have hy:y≠x:=by rintro rfl;exact h (by simp)
  rw [List.cons_append,zmz hy,zwC (fun hh=>h (by simp [hh]))];rfl
theorem zuJ {α:Type}:∀ {ks:List α} {x:α} {k:Nat},ks[k]? =some x->(∀ j,j < k->ks[j]? ≠some x)->zdq ks x=some k
 | [],_,_,h,_=>by simp at h
 | y::ks,x,k,h,hf=>by
  cases k with
  | zero=>
   have:y=x:=by simpa using h
   subst this;exact zmy _ _
  | succ k=>
   have hy:y≠x:=by have:=hf 0 (by omega);simpa using this
   rw [zmz hy,zuJ (k:=k) (by simpa using h) (fun j hj=>by have:=hf (j+1) (by omega);simpa using this)];rfl
theorem zzQ {α:Type} {ks:List α} {x y:α} {j:Nat} (h:zdq ks x=some j) (k:zdq ks y=some j):x=y:=by
 have:=zhU h;rw [zhU k] at this;injection this with this;exact this.symm
theorem zyF {α:Type} {ks:List α} (hn:ks.Nodup) {j:Nat} (hj:j < ks.length):zdq ks ks[j]=some j:=
 zuJ (by simp) fun i hi e=>by
  have hi':i < ks.length:=by omega
  rw [List.getElem?_eq_getElem hi'] at e;exact List.pairwise_iff_getElem.1 hn i j hi' hj hi (Option.some.inj e)
theorem zwA {α β:Type} (f:α->β):∀ {ks:List α} {x:α},(∀ y∈ks,f y=f x->y=x)->zdq (ks.map f) (f x)=zdq ks x
 | [],_,_=>rfl
 | y::ks,x,h=>by
  have ih:=zwA f (ks:=ks) (x:=x) (fun z hz=>h z (by simp [hz]))
  rw [List.map_cons];by_cases e:y=x
  ·subst e;rw [zmy,zmy]
  ·rw [zmz e,zmz (fun hh=>e (h y (by simp) hh)),ih]
def iota (n:Nat):List Int:=(List.range n).map fun j:Nat=>(j:Int)
theorem iota_len (n:Nat):(iota n).length=n:=by simp [iota]
theorem zsI (n:Nat):iota (n+1)=iota n++[(n:Int)]:=by simp [iota,List.range_succ]
theorem zwD {α:Type} {ks:List α} {x:α} {j:Nat} (h:zdq ks x=some j):mget ks (iota ks.length) x 0=j:=by
 have:=zjx h;unfold mget;rw [h];simp [iota,this]
theorem zuK {α:Type} {ks:List α} {x:α}:mhas ks x=true↔x∈ks:=by
 unfold mhas
 cases e:zdq ks x with
 | none=>simp [ze9.1 e]
 | some j=>
  have:=zhU e;simp [List.mem_of_getElem? this]
theorem zzq {α:Type} {ks:List α} {x:α} (h:x∉ks):zoG ks (iota ks.length) x ks.length=iota (ks++[x]).length:=by
 unfold zoG;rw [ze9.2 h,List.length_append,List.length_singleton,zsI]
theorem zts {α:Type} [DecidableEq α]:∀ {l U:List α},U.Nodup->(∀ x∈U,x∈l)->l.length<=U.length->l.Nodup
 | [],_,_,_,_=>List.nodup_nil
 | a::l,U,hU,hs,hl=>by
  have ha:a∉l:=fun ha=>by
   have:=zwM (l:=U) (U:=l) hU (fun x hx=>by
    rcases List.mem_cons.1 (hs x hx) with rfl | h
    ·exact ha
    ·exact h)
   rw [List.length_cons] at hl;omega
  refine List.nodup_cons.2 ⟨ha,?_⟩
  refine zts (U:=U.erase a) (hU.erase a) (fun x hx => ?_) ?_
  ·have hne:x≠a:=((List.Nodup.mem_erase_iff hU).1 hx).1;rcases List.mem_cons.1 (hs x (List.mem_of_mem_erase hx)) with h | h
   ·exact absurd h hne
   ·exact h
  ·have:U.length - 1<=(U.erase a).length:=by
    by_cases h:a∈U
    ·rw [List.length_erase_of_mem h];omega
    ·rw [List.erase_of_not_mem h];omega
   rw [List.length_cons] at hl;omega
section
variable {P:Int->Prop} {V:Int->Int->Int->Int}
abbrev Key:=Int×Int×Int
def zjt (r:Rl):Key:=(r.1,r.2.1,r.2.2.1)
def zef (l:List Int) (x:Int):Int:=if x < 0 then -1 else ix l x
structure SI (P:Int->Prop) (V:Int->Int->Int->Int) (D:Key->Prop) (l c c1:List Int) (out:List Rl):Prop where
 nd:l.Nodup
 mem:∀ x∈l,P x
 k:c=l
 v:c1=iota l.length
 kd:(out.map zjt).Nodup
 km:∀ x:Key,x∈out.map zjt↔D x
 r:∀ r∈out,(r.2.1 = -1/\r.2.2.1 = -1\/0<=r.2.1/\r.2.1 < l.length/\0<=r.2.2.1/\r.2.2.1 < l.length)/\0<=r.2.2.2.1/\r.2.2.2.1 < l.length/\ix l r.2.2.2.1=V r.1 (zef l r.2.1) (zef l r.2.2.1)
theorem SI.congr {D D':Key->Prop} {l c c1:List Int} {out:List Rl} (h:SI P V D l c c1 out) (e:∀ x,D' x↔D x):SI P V D' l c c1 out:=
 ⟨h.nd,h.mem,h.k,h.v,h.kd,fun x=>(h.km x).trans (e x).symm,h.r⟩
theorem znk {l z:List Int} {x:Int} (h:x < l.length):zef (l++z) x=zef l x:=by
 unfold zef
 split
 ·rfl
 ·rw [zdH (by omega) h]
theorem SI.put {D:Key->Prop} {l c c1:List Int} {out:List Rl} (h:SI P V D l c c1 out) (hl:l.length<=1000) {x p q:Int} (hk : ¬ D (x,p,q)) (hpq:p = -1/\q = -1\/0<=p/\p < l.length/\0<=q/\q < l.length) (hP:P (V x (zef l p) (zef l q))):
  ∃ n l' c' c1',zcn (V x (zef l p) (zef l q)) c c1 l=some (n,l',c',c1')/\(∃ z,l'=l++z)/\SI P V (fun y=>D y\/y=(x,p,q)) l' c' c1' (out++[(x,p,q,n,())]):=by
 obtain ⟨nd,mem,hc,hv,kd,km,hr⟩:=h;obtain ⟨s,es⟩:∃ s,V x (zef l p) (zef l q)=s:=⟨_,rfl⟩;rw [hc,hv,es];rw [es] at hP;have add:∀ (n:Int) (z:List Int),0<=n->n < (l++z).length->ix (l++z) n=s->(((out++[(x,p,q,n,())]).map zjt).Nodup/\(∀ y:Key,y∈(out++[(x,p,q,n,())]).map zjt↔(D y\/y=(x,p,q)))/\∀ r∈out++[((x,p,q,n,()):Rl)],(r.2.1 = -1/\r.2.2.1 = -1\/0<=r.2.1/\r.2.1 < (l++z).length/\0<=r.2.2.1/\r.2.2.1 < (l++z).length)/\0<=r.2.2.2.1/\r.2.2.2.1 < (l++z).length/\ix (l++z) r.2.2.2.1=V r.1 (zef (l++z) r.2.1) (zef (l++z) r.2.2.1)):=by
  intro n z n0 n1 hn;refine ⟨?_,fun y => ?_,fun r hr' => ?_⟩
  ·rw [List.map_append,List.nodup_append];refine ⟨kd,by simp,fun y hy w hw => ?_⟩
   simp only [List.map_cons,List.map_nil,List.mem_singleton] at hw;rintro rfl;rw [hw] at hy;exact hk ((km _).1 hy)
  ·rw [List.map_append,List.mem_append,km y];simp only [List.map_cons,List.map_nil,List.mem_singleton];rfl
  ·have hlen:((l++z).length:Int)=l.length+z.length:=by rw [List.length_append];omega
   rcases List.mem_append.1 hr' with hr' | hr'
   ·obtain ⟨g1,g2,g3,g4⟩:=hr r hr';refine ⟨by omega,g2,by omega,?_⟩
    rw [zdH g2 g3,g4,znk (by omega),znk (by omega)]
   ·rw [List.mem_singleton.1 hr'];refine ⟨by dsimp only;omega,n0,n1,?_⟩
    dsimp only;rw [hn,znk (by omega),znk (by omega),es]
 unfold zcn;by_cases cs:s∈l
 ·obtain ⟨j,hj⟩:=zwB cs;have h1:=zjx hj;have h2:=zhU hj;obtain ⟨a1,a2,a3⟩:=add j [] (by omega) (by simp;omega) (by rw [List.append_nil];unfold ix;simp [List.getD_eq_getElem?_getD,h2])
  rw [List.append_nil] at a3;refine ⟨j,l,l,iota l.length,?_,⟨[],by simp⟩,nd,mem,rfl,rfl,a1,a2,a3⟩
  rw [if_neg (by rw [zuK.2 cs];simp),zwD hj]
 ·obtain ⟨a1,a2,a3⟩:=add l.length [s] (by omega) (by rw [List.length_append,List.length_singleton];omega) zgU
  refine ⟨l.length,l++[s],l++[s],iota (l++[s]).length,?_,⟨[s],rfl⟩,?_,fun y hy => ?_,rfl,rfl,a1,a2,a3⟩
  ·have hn:zdq l s=none:=ze9.2 cs;have:mhas l s=false:=by cases e:mhas l s with
    | false=>rfl
    | true=>exact absurd (zuK.1 e) cs
   rw [if_pos (by rw [this];rfl),zac (by unfold room;simp;omega)]
   unfold zlh zoG;rw [hn];simp only [List.length_append,List.length_singleton,zsI]
  ·rw [List.nodup_append];exact ⟨nd,by simp,fun x hx y hy=>by rw [List.mem_singleton] at hy;subst hy;exact fun e=>cs (e ▸ hx)⟩
  ·rcases List.mem_append.1 hy with hy | hy
   ·exact mem y hy
   ·rw [List.mem_singleton.1 hy];exact hP
theorem SI.few {D:Key->Prop} {l c c1:List Int} {out:List Rl} (h:SI P V D l c c1 out) (hl:l.length<=64) (hD:∀ x:Key,D x->0<=x.1/\x.1 < 2):out.length<=8450:=by
 have:=zqW (l:=out.map (fun r=>r.1 * 4225+(r.2.1+1) * 65+(r.2.2.1+1))) (n:=8450) (by
  unfold List.Nodup;rw [List.pairwise_map];have hk:=h.kd;unfold List.Nodup at hk;rw [List.pairwise_map] at hk;refine List.Pairwise.imp_of_mem (fun {r s} hr hs hne e => ?_) hk
  obtain ⟨r1,_⟩:=h.r r hr;obtain ⟨s1,_⟩:=h.r s hs;have d1:=hD _ ((h.km _).1 (List.mem_map_of_mem hr));have d2:=hD _ ((h.km _).1 (List.mem_map_of_mem hs));unfold zjt at hne d1 d2;dsimp only at d1 d2;refine hne ?_
  have e1:r.1=s.1:=by omega
  have e2:r.2.1=s.2.1:=by omega
  have e3:r.2.2.1=s.2.2.1:=by omega
  rw [e1,e2,e3]) (fun x hx=>by
   obtain ⟨r,hr,rfl⟩:=List.mem_map.1 hx;obtain ⟨r1,_⟩:=h.r r hr;have d1:=hD _ ((h.km _).1 (List.mem_map_of_mem hr));unfold zjt at d1;dsimp only at d1;omega)
 simpa using this
end
theorem zxe:(List.range 64).all (fun s=>decide (iand .i64 (ishr .i64 (s:Int) 0) 7=(s:Int) % 8/\iand .i64 (ishr .i64 (s:Int) 3) 7=(s:Int) / 8))=true:=by decide+kernel
theorem zxA:(List.range 8).all (fun x=>(List.range 8).all (fun y=>decide (ior .i64 (x:Int) (ishl .i64 (y:Int) 3)=(x:Int)+8 * (y:Int))))=true:=by decide+kernel
theorem zvM {s:Int} (h0:0<=s) (h1:s < 64):iand .i64 (ishr .i64 s 0) 7=s % 8/\iand .i64 (ishr .i64 s 3) 7=s / 8:=by
 have:=List.all_eq_true.1 zxe s.toNat (List.mem_range.2 (by omega))
 rw [show ((s.toNat:Nat):Int)=s by omega] at this
 exact of_decide_eq_true this
theorem zyN {x y:Int} (x0:0<=x) (x1:x < 8) (y0:0<=y) (y1:y < 8):ior .i64 x (ishl .i64 y 3)=x+8 * y:=by
 have:=List.all_eq_true.1 (List.all_eq_true.1 zxA x.toNat (List.mem_range.2 (by omega))) y.toNat (List.mem_range.2 (by omega))
 rw [show ((x.toNat:Nat):Int)=x by omega,show ((y.toNat:Nat):Int)=y by omega] at this
 exact of_decide_eq_true this
structure Two (a b:TA):Prop where
 oa:Ok0 a
 ob:Ok0 b
 a3:a.2.1<=3
 b3:b.2.1<=3
def lo (s:Int):Int:=if s < 0 then s else s % 8
def hi (s:Int):Int:=if s < 0 then s else s / 8
def VA (a:TA) (x p q:Int):Int:=zpV a a.2.1.toNat x p q
def V3 (a b:TA) (x p q:Int):Int:=VA a x (lo p) (lo q)+8 * VA b x (hi p) (hi q)
theorem zlm {a:TA} (ok:Ok0 a) (h3:a.2.1<=3) (x p q:Int):0<=VA a x p q/\VA a x p q < 8:=by
 have hst:=ok.st;have:=(zm3 a (N:=a.2.1.toNat) (by omega) x p q).1.b
 have h8:2 ^ a.2.1.toNat<=8:=by
  have:2 ^ a.2.1.toNat<=2 ^ 3:=Nat.pow_le_pow_right (by omega) (by omega)
  omega
 have h2:((2 ^ a.2.1.toNat:Nat):Int)<=8:=by exact_mod_cast h8
 unfold VA;omega
def PC (s:Int):Prop:=0<=s/\s < 64
theorem zsa {a b:TA} (W:Two a b) (x p q:Int):PC (V3 a b x p q):=by
 have h1:=zlm W.oa W.a3 x (lo p) (lo q);have h2:=zlm W.ob W.b3 x (hi p) (hi q);unfold PC V3;omega
inductive DerV (V:Int->Int->Int->Int) (L:Int):Int->Int->Prop
 | leaf (x:Int) (x0:0<=x) (x1:x < L):DerV V L 1 (V x (-1) (-1))
 | node (x:Int) (x0:0<=x) (x1:x < L) (m n p q:Int) (hp:DerV V L m p) (hq:DerV V L n q):DerV V L (1+(m+n)) (V x p q)
theorem DerV.pos {V:Int->Int->Int->Int} {L m s:Int} (h:DerV V L m s):1<=m:=by
 induction h with
 | leaf=>omega
 | node=>omega
def PD (a b:TA) (L s:Int):Prop:=PC s/\∃ m,DerV (V3 a b) L m s
theorem ztM {s:Int} (h:s = -1\/PC s):zb5 s 0=some (lo s):=by
 unfold zb5 lo;by_cases c:s < 0
 ·rw [if_pos (decide_eq_true c),if_pos c]
 ·unfold PC at h;rw [if_neg (by simpa using c),if_neg c,zac (by decide),zac (by decide)]
  exact congrArg some (zvM (by omega) (by omega)).1
theorem ztL {s:Int} (h:s = -1\/PC s):zb5 s 1=some (hi s):=by
 unfold zb5 hi;by_cases c:s < 0
 ·rw [if_pos (decide_eq_true c),if_pos c]
 ·unfold PC at h;rw [if_neg (by simpa using c),if_neg c,zac (by decide),zac (by decide)]
  exact congrArg some (zvM (by omega) (by omega)).2
section
variable {a b:TA}
theorem zzo (W:Two a b) {x p q:Int} (hp:p = -1\/PC p) (hq:q = -1\/PC q):zcw x p q a b=some (V3 a b x p q):=by
 have h1:=W.oa.st;have h2:=W.ob.st;have h3:=W.a3;have h4:=W.b3;unfold zcw;refine zau (ztM hp) (zau (ztM hq) (zau (zs5 W.oa (N:=a.2.1.toNat) (by omega) (by omega) x _ _) (zau (ztL hp) (zau (ztL hq) (zau (zs5 W.ob (N:=b.2.1.toNat) (by omega) (by omega) x _ _) ?_)))))
 rw [zac (by decide)]
 have g1:=zlm W.oa W.a3 x (lo p) (lo q);have g2:=zlm W.ob W.b3 x (hi p) (hi q);exact congrArg some (zyN g1.1 g1.2 g2.1 g2.2)
abbrev SIb (a b:TA) (L:Int) (D:Key->Prop) (l c c1:List Int) (out:List Rl):Prop:=SI (PD a b L) (V3 a b) D l c c1 out
theorem SIb.len {L:Int} {D:Key->Prop} {l c c1:List Int} {out:List Rl} (h:SIb a b L D l c c1 out):l.length<=64:=zqW h.nd fun x hx=>(h.mem x hx).1
theorem zew {l:List Int} {x:Int} (h:0<=x):zef l x=ix l x:=by unfold zef;rw [if_neg (by omega)]
theorem SIb.val {L:Int} {D:Key->Prop} {l c c1:List Int} {out:List Rl} (h:SIb a b L D l c c1 out) {p:Int} (hp:p = -1\/0<=p/\p < l.length):zef l p = -1\/PC (zef l p):=by
 rcases hp with rfl | ⟨h0,h1⟩
 ·exact .inl (by unfold zef;rw [if_pos (by omega)])
 ·rw [zew h0];exact .inr (h.mem _ (zhu h0 h1)).1
theorem zrP (W:Two a b) {L:Int} {D:Key->Prop} {l c c1:List Int} {out:List Rl} (h:SIb a b L D l c c1 out) {x p q:Int} (hx:0<=x/\x < L) (hk : ¬ D (x,p,q)) (hpq:p = -1/\q = -1\/0<=p/\p < l.length/\0<=q/\q < l.length):
  ∃ n l' c' c1',zcw x (zef l p) (zef l q) a b=some (V3 a b x (zef l p) (zef l q))/\zcn (V3 a b x (zef l p) (zef l q)) c c1 l=some (n,l',c',c1')/\(∃ z,l'=l++z)/\SIb a b L (fun y=>D y\/y=(x,p,q)) l' c' c1' (out++[(x,p,q,n,())]):=by
 have hl:=SIb.len h;have hd:∃ m,DerV (V3 a b) L m (V3 a b x (zef l p) (zef l q)):=by
  rcases hpq with ⟨rfl,rfl⟩ | ⟨p0,p1,q0,q1⟩
  ·have:zef l (-1) = -1:=by unfold zef;rw [if_pos (by omega)]
   rw [this];exact ⟨1,.leaf x hx.1 hx.2⟩
  ·rw [zew p0,zew q0];obtain ⟨m1,d1⟩:=(h.mem _ (zhu p0 p1)).2;obtain ⟨m2,d2⟩:=(h.mem _ (zhu q0 q1)).2;exact ⟨_,.node x hx.1 hx.2 m1 m2 _ _ d1 d2⟩
 obtain ⟨n,l',c',c1',e,z,h'⟩:=SI.put h (by omega) hk hpq ⟨zsa W x _ _,hd⟩
 exact ⟨n,l',c',c1',zzo W (h.val (by omega)) (h.val (by omega)),e,z,h'⟩
def D6 (t:Int) (x:Key):Prop:=0<=x.1/\x.1 < t/\x.2.1 = -1/\x.2.2 = -1
def D11 (L i:Int) (x:Key):Prop:=D6 L x\/(0<=x.1/\x.1 < L/\0<=x.2.1/\x.2.1 < i/\0<=x.2.2/\x.2.2 < i)
def D14 (L i t:Int) (x:Key):Prop:=D11 L i x\/(0<=x.1/\x.1 < t/\(x.2.1=i/\0<=x.2.2/\x.2.2<=i\/x.2.2=i/\0<=x.2.1/\x.2.1<=i))
def D17 (L i t k:Int) (x:Key):Prop:=D14 L i t x\/(x.1=t/\(x.2.1=i/\0<=x.2.2/\x.2.2 < k\/x.2.2=i/\0<=x.2.1/\x.2.1 < k/\x.2.1 < i))
theorem zya {L i t k:Int} {x:Key} (h:D17 L i t k x) (hL:L<=2) (ht:0<=t/\t < 2):0<=x.1/\x.1 < 2:=by
 unfold D17 D14 D11 D6 at h;rcases h with ((h | h) | h) | h<;>omega
theorem zzM {x y:Key} (h:x.1=y.1/\x.2.1=y.2.1/\x.2.2=y.2.2):x=y:=by
 obtain ⟨a,b,c⟩:=x;obtain ⟨a',b',c'⟩:=y;simp only at h;rw [h.1,h.2.1,h.2.2]
theorem zju {x:Key} {p q r:Int}:x=(p,q,r)↔x.1=p/\x.2.1=q/\x.2.2=r:=⟨fun h=>by rw [h];exact ⟨rfl,rfl,rfl⟩,fun h=>zzM h⟩
theorem zzu {L i t k:Int} (hi:0<=i) : ¬ D17 L i t k (t,i,k):=by
 unfold D17 D14 D11 D6;dsimp only;rintro (((h | h) | h) | h)<;>omega
theorem zzv {L i t k:Int} (k0:0<=k) (hk:k < i) : ¬ (D17 L i t k (t,k,i)\/(t,k,i)=(t,i,k)):=by
 simp only [zju];unfold D17 D14 D11 D6;dsimp only;rintro ((((h | h) | h) | h) | h)<;>omega
theorem zzw {L i t k:Int} {x:Key} (hk:k < i) (k0:0<=k):D17 L i t (k+1) x↔(D17 L i t k x\/x=(t,i,k))\/x=(t,k,i):=by
 simp only [zju];unfold D17;by_cases hA:D14 L i t x
 ·simp [hA]
 ·simp only [hA,false_or];omega
theorem zzx {L i t k:Int} {x:Key} (hk:k=i) (k0:0<=k):D17 L i t (k+1) x↔D17 L i t k x\/x=(t,i,k):=by
 simp only [zju];unfold D17;by_cases hA:D14 L i t x
 ·simp [hA]
 ·simp only [hA,false_or];omega
theorem D14_s {L i t:Int} {x:Key} (t0:0<=t):D14 L i (t+1) x↔D17 L i t (i+1) x:=by
 unfold D17 D14;by_cases hA:D11 L i x
 ·simp [hA]
 ·simp only [hA,false_or];omega
theorem D17_z {L i t:Int} {x:Key}:D17 L i t 0 x↔D14 L i t x:=by
 unfold D17;by_cases hA:D14 L i t x
 ·simp [hA]
 ·simp only [hA,false_or,iff_false];omega
theorem D11_s {L i:Int} {x:Key} (hi:0<=i):D11 L (i+1) x↔D14 L i L x:=by
 unfold D14 D11;by_cases hA:D6 L x
 ·simp [hA]
 ·simp only [hA,false_or];omega
theorem D14_z {L i:Int} {x:Key}:D14 L i 0 x↔D11 L i x:=by
 unfold D14;by_cases hA:D11 L i x
 ·simp [hA]
 ·simp only [hA,false_or,iff_false];omega
abbrev R8:=TA->TA->TA->TA->Int->Int->Int->Int->List Int->List Int->List Int->List Rl->Option TA
theorem zxM (W:Two a b) {L i t o1 o2 o3:Int} (hL:L<=2) (ht:0<=t/\t < L) (hi:0<=i) {r14:R8}:∀ (n:Nat) (k:Int) (l c c1:List Int) (out:List Rl),(i+1 - k).toNat=n->0<=k->k<=i+1->i < l.length->SIb a b L (D17 L i t k) l c c1 out->
  ∃ l' c' c1' out',zcZ i t r14 a b a b k o1 o2 o3 l c c1 out=r14 a b a b (t+1) o1 o2 o3 l' c' c1' out'/\(∃ z,l'=l++z)/\SIb a b L (D14 L i (t+1)) l' c' c1' out':=by
 intro n
 induction n with
 | zero=>
  intro k l c c1 out hn k0 k1 hl h;have hlen:=SIb.len h;obtain rfl:k=i+1:=by omega
  refine ⟨l,c,c1,out,?_,⟨[],by simp⟩,h.congr fun x=>D14_s ht.1⟩
  rw [zj8];unfold zdi;rw [if_neg (by simp),zac (by unfold fits;omega)]
 | succ n ih=>
  intro k l c c1 out hn k0 k1 hl h;have hlen:=SIb.len h;have hfew:=SI.few h (by omega) (fun x hx=>zya hx hL ⟨ht.1,by omega⟩)
  obtain ⟨m,l1,c2,c12,e1,e2,⟨z1,hz1⟩,h1⟩:=zrP W h (x:=t) (p:=i) (q:=k) ⟨ht.1,ht.2⟩ (zzu hi) (.inr ⟨hi,hl,k0,by omega⟩)
  have hlen1:=SIb.len h1;have len1:(l1.length:Int)=l.length+z1.length:=by rw [hz1,List.length_append];omega
  rw [zew hi,zew k0] at e1 e2;have hfew1:(out++[((t,i,k,m,()):Rl)]).length<=8451:=by rw [List.length_append,List.length_singleton];omega
  have fin:∃ l' c' c1' out',zdC i t k (zcZ i t r14) a b a b o1 o2 o3 l1 c2 c12 (out++[(t,i,k,m,())])=r14 a b a b (t+1) o1 o2 o3 l' c' c1' out'/\(∃ z,l'=l++z)/\SIb a b L (D14 L i (t+1)) l' c' c1' out':=by
   have J21:∀ (l3 c3 c13:List Int) (out3:List Rl),(∃ z,l3=l++z)->SIb a b L (D17 L i t (k+1)) l3 c3 c13 out3->∃ l' c' c1' out',zcY k (zcZ i t r14) a b a b o1 o2 o3 l3 c3 c13 out3=r14 a b a b (t+1) o1 o2 o3 l' c' c1' out'/\(∃ z,l'=l++z)/\SIb a b L (D14 L i (t+1)) l' c' c1' out':=by
    rintro l3 c3 c13 out3 ⟨z,rfl⟩ h3;obtain ⟨l',c',c1',out',e,⟨z',hz'⟩,h'⟩:=ih (k+1) _ c3 c13 out3 (by omega) (by omega) (by omega) (by rw [List.length_append];omega) h3
    refine ⟨l',c',c1',out',?_,⟨z++z',by rw [hz',List.append_assoc]⟩,h'⟩
    unfold zcY;rw [zac (by unfold fits;omega)];exact e
   unfold zdC;by_cases ck:k < i
   ·rw [if_pos (decide_eq_true ck),zac (by omega),zac (by omega),zac (by omega),zac (by omega)]
    obtain ⟨m2,l3,c3,c13,e3,e4,⟨z3,hz3⟩,h3⟩:=zrP W h1 (x:=t) (p:=k) (q:=i) ⟨ht.1,ht.2⟩ (zzv k0 ck) (.inr ⟨k0,by omega,hi,by omega⟩)
    rw [zew hi,zew k0] at e3 e4;obtain ⟨l',c',c1',out',e,hh⟩:=J21 l3 c3 c13 _ ⟨z1++z3,by rw [hz3,hz1,List.append_assoc]⟩ (h3.congr fun x=>zzw ck k0)
    refine ⟨l',c',c1',out',?_,hh⟩
    rw [e3];simp only [Option.bind_some];rw [e4];simp only [Option.bind_some]
    repeat' first | exact e | refine zbx ?_ ?_ | refine G_to (by unfold room;rw [List.length_singleton];omega) ?_
   ·rw [if_neg (by simpa using ck)]
    exact J21 l1 c2 c12 _ ⟨z1,hz1⟩ (h1.congr fun x=>zzx (by omega) k0)
  obtain ⟨l',c',c1',out',e,hh⟩:=fin;refine ⟨l',c',c1',out',?_,hh⟩
  rw [zj8];unfold zdi;rw [if_pos (decide_eq_true (by omega)),zac (by omega),zac (by omega),zac (by omega),zac (by omega),e1]
  simp only [Option.bind_some];rw [e2];simp only [Option.bind_some]
  repeat' first | exact e | refine zbx ?_ ?_ | refine G_to (by unfold room;rw [List.length_singleton];omega) ?_
theorem zxL (W:Two a b) {L i o1 o2 o3:Int} (hL:L<=2) (hi:0<=i) {r11:R8}:∀ (n:Nat) (t:Int) (l c c1:List Int) (out:List Rl),(L - t).toNat=n->0<=t->t<=L->i < l.length->SIb a b L (D14 L i t) l c c1 out->
  ∃ l' c' c1' out',zdD L i r11 a b a b t o1 o2 o3 l c c1 out=r11 a b a b (i+1) o1 o2 o3 l' c' c1' out'/\(∃ z,l'=l++z)/\SIb a b L (D11 L (i+1)) l' c' c1' out':=by
 intro n
 induction n with
 | zero=>
  intro t l c c1 out hn t0 t1 hl h;have hlen:=SIb.len h;obtain rfl:t=L:=by omega
  refine ⟨l,c,c1,out,?_,⟨[],by simp⟩,h.congr fun x=>D11_s hi⟩
  rw [zj7];unfold zdh;rw [if_neg (by simp),zac (by unfold fits;omega)]
 | succ n ih=>
  intro t l c c1 out hn t0 t1 hl h;have hlen:=SIb.len h;obtain ⟨l1,c2,c12,out1,e1,⟨z1,hz1⟩,h1⟩:=zxM W hL ⟨t0,by omega⟩ hi (o1:=o1) (o2:=o2) (o3:=o3) (r14:=zdD L i r11) _ 0 l c c1 out rfl (by omega) (by omega) hl (h.congr fun x=>D17_z)
  obtain ⟨l',c',c1',out',e,⟨z',hz'⟩,h'⟩:=ih (t+1) l1 c2 c12 out1 (by omega) (by omega) (by omega) (by rw [hz1,List.length_append];omega) h1
  refine ⟨l',c',c1',out',?_,⟨z1++z',by rw [hz',hz1,List.append_assoc]⟩,h'⟩
  rw [zj7];unfold zdh;rw [if_pos (decide_eq_true (by omega)),zac (by unfold fits;omega),e1]
  exact e
theorem zxK (W:Two a b) {L o1 o2 o3:Int} (hL:1<=L/\L<=2):∀ (n:Nat) (i:Int) (l c c1:List Int) (out:List Rl),(65 - i).toNat=n->0<=i->i<=l.length->SIb a b L (D11 L i) l c c1 out->
  ∃ l' c' c1' out',zgw L a b a b i o1 o2 o3 l c c1 out=zdE l' a b 0 o1 o2 o3 out' []/\(∃ z,l'=l++z)/\SIb a b L (D11 L l'.length) l' c' c1' out':=by
 intro n
 induction n with
 | zero=>
  intro i l c c1 out hn i0 i1 h;have hlen:=SIb.len h;omega
 | succ n ih=>
  intro i l c c1 out hn i0 i1 h;have hlen:=SIb.len h;by_cases ci:i=l.length
  ·subst ci;refine ⟨l,c,c1,out,?_,⟨[],by simp⟩,h⟩
   rw [zj6];unfold zdg;rw [if_neg (by simp)]
  ·obtain ⟨l1,c2,c12,out1,e1,⟨z1,hz1⟩,h1⟩:=zxL W hL.2 i0 (o1:=o1) (o2:=o2) (o3:=o3) (r11:=zgw L) _ 0 l c c1 out rfl (by omega) (by omega) (by omega) (h.congr fun x=>D14_z)
   obtain ⟨l',c',c1',out',e,⟨z',hz'⟩,h'⟩:=ih (i+1) l1 c2 c12 out1 (by omega) (by omega) (by rw [hz1,List.length_append];omega) h1
   refine ⟨l',c',c1',out',?_,⟨z1++z',by rw [hz',hz1,List.append_assoc]⟩,h'⟩
   rw [zj6];unfold zdg;rw [if_pos (decide_eq_true (by omega)),e1]
   exact e
theorem zyY (W:Two a b) {L o1 o2 o3:Int} (hL:1<=L/\L<=2):∀ (n:Nat) (t:Int) (l c c1:List Int) (out:List Rl),(L - t).toNat=n->0<=t->t<=L->SIb a b L (D6 t) l c c1 out->(0 < t->0 < l.length)->
  ∃ l' c' c1' out',zha L a b a b t o1 o2 o3 c c1 l out=zdE l' a b 0 o1 o2 o3 out' []/\0 < l'.length/\SIb a b L (D11 L l'.length) l' c' c1' out':=by
 intro n
 induction n with
 | zero=>
  intro t l c c1 out hn t0 t1 h hp;obtain rfl:t=L:=by omega
  have:=hp (by omega)
  obtain ⟨l',c',c1',out',e,⟨z,hz⟩,h'⟩:=zxK W hL (o1:=o1) (o2:=o2) (o3:=o3) _ 0 l c c1 out rfl (by omega) (by omega) (h.congr fun x=>by unfold D11 D6;omega)
  refine ⟨l',c',c1',out',?_,by rw [hz,List.length_append];omega,h'⟩
  rw [zkX];unfold zdN;rw [if_neg (by simp)]
  exact e
 | succ n ih=>
  intro t l c c1 out hn t0 t1 h hp;have hlen:=SIb.len h;have hfew:=SI.few h (by omega) (fun x hx=>by unfold D6 at hx;omega)
  obtain ⟨m,l1,c2,c12,e1,e2,⟨z1,hz1⟩,h1⟩:=zrP W h (x:=t) (p := -1) (q := -1) ⟨t0,by omega⟩ (by unfold D6;dsimp only;omega) (.inl ⟨rfl,rfl⟩)
  have e0:zef l (-1) = -1:=by unfold zef;rw [if_pos (by omega)]
  rw [e0] at e1 e2;have hm:=h1.r (t,-1,-1,m,()) (by simp)
  dsimp only at hm;obtain ⟨l',c',c1',out',e,hh⟩:=ih (t+1) l1 c2 c12 _ (by omega) (by omega) (by omega) (h1.congr fun x=>by simp only [zju];unfold D6;omega) (fun _=>by omega)
  refine ⟨l',c',c1',out',?_,hh⟩
  have fin:zep t (zha L) a b a b o1 o2 o3 l1 c2 c12 (out++[(t,-1,-1,m,())])=zdE l' a b 0 o1 o2 o3 out' []:=by
   unfold zep;rw [zac (by unfold fits;omega)];exact e
  rw [zkX];unfold zdN;rw [if_pos (decide_eq_true (by omega)),e1]
  simp only [Option.bind_some];rw [e2];simp only [Option.bind_some]
  repeat' first | exact fin | refine zbx ?_ ?_ | refine G_to (by unfold room;rw [List.length_singleton];omega) ?_
end
section
variable {α:Type} [Inhabited α]
theorem ixA (d:Array α) (n:Nat):ix d.toList (n:Int)=d[n]! :=by
 unfold ix;rw [Int.toNat_natCast,List.getD_eq_getElem?_getD,Array.getElem?_toList,getElem!_def]
 cases h:d[n]? <;>rfl
theorem setA (d:Array α) (i:Nat) (x:α):d.toList.set i x=(d.setIfInBounds i x).toList:=by simp
theorem swpA (d:Array α) (i j:Nat):(d.toList.set i d[j]!).set j d[i]! =(Go.Sort.swp d i j).toList:=by
 unfold Go.Sort.swp;rw [setA,setA]
theorem swpZ (d:Array α) (i j:Nat):(Go.Sort.swp d i j).size=d.size:=by unfold Go.Sort.swp;simp
end
theorem zqe {x:Int} (h0:0<=x) (h1:x < 18446744073709551616):IntKind.wrap .u64 x=x:=by
 unfold IntKind.wrap;simp [IntKind.bits,IntKind.signed];omega
theorem zz6 {x:Int} (h0:0<=x) (h1:x < 256):IntKind.wrap .u8 x=x:=by
 unfold IntKind.wrap;simp [IntKind.bits,IntKind.signed];omega
theorem zw2 {x:Int} (h0:0<=x) (h1:x < 9223372036854775808):IntKind.wrap .i64 x=x:=by
 unfold IntKind.wrap;simp [IntKind.bits,IntKind.signed];omega
def BL (x v:Int):Prop:=0<=v/\v<=32/\x < 2 ^ v.toNat/\(0 < x->(2:Int) ^ v.toNat<=2 * x)
def bTbl:List UInt8:=[0,1,2,2,3,3,3,3,4,4,4,4,4,4,4,4,5,5,5,5,5,5,5,5,5,5,5,5,5,5,5,5,6,6,6,6,6,6,6,6,6,6,6,6,6,6,6,6,6,6,6,6,6,6,6,6,6,6,6,6,6,6,6,6,7,7,7,7,7,7,7,7,7,7,7,7,7,7,7,7,7,7,7,7,7,7,7,7,7,7,7,7,7,7,7,7,7,7,7,7,7,7,7,7,7,7,7,7,7,7,7,7,7,7,7,7,7,7,7,7,7,7,7,7,7,7,7,7,8,8,8,8,8,8,8,8,8,8,8,8,8,8,8,8,8,8,8,8,8,8,8,8,8,8,8,8,8,8,8,8,8,8,8,8,8,8,8,8,8,8,8,8,8,8,8,8,8,8,8,8,8,8,8,8,8,8,8,8,8,8,8,8,8,8,8,8,8,8,8,8,8,8,8,8,8,8,8,8,8,8,8,8,8,8,8,8,8,8,8,8,8,8,8,8,8,8,8,8,8,8,8,8,8,8,8,8,8,8,8,8,8,8,8,8,8,8,8,8,8,8,8,8,8,8,8,8]
theorem zw9:(List.range 256).all (fun x=>decide ((bTbl.getD x 0).toNat<=8/\x < 2 ^ (bTbl.getD x 0).toNat/\(x=0\/2 ^ (bTbl.getD x 0).toNat<=2 * x)))=true:=by decide+kernel
theorem zxa:bTbl.length=256:=by decide+kernel
theorem zzB {x n:Int} (h0:0<=x) (h1:x < 256) (n0:0<=n) (n1:n<=100):∃ v,zhz x n=some (n+v)/\v<=8/\BL x v:=by
 have ha:=zw9;rw [List.all_eq_true] at ha;have hx:=ha x.toNat (by rw [List.mem_range];omega)
 simp only [decide_eq_true_eq] at hx;obtain ⟨k1,k2,k3⟩:=hx;have e:zhz x n=G (0<=IntKind.wrap .u8 x/\IntKind.wrap .u8 x < (bTbl.length:Int)) (G (fits (n+IntKind.wrap .i64 (bAt bTbl (IntKind.wrap .u8 x)))) (some (n+IntKind.wrap .i64 (bAt bTbl (IntKind.wrap .u8 x))))):=rfl;have eb:bAt bTbl x=((bTbl.getD x.toNat 0).toNat:Int):=rfl;rw [e,zz6 h0 h1,eb,zxa];generalize (bTbl.getD x.toNat 0).toNat=t at *
 rw [zw2 (by omega) (by omega),zac (by omega),zac (by unfold fits;omega)]
 have h2:(2:Int) ^ t=((2 ^ t:Nat):Int):=by simp
 exact ⟨t,rfl,by omega,by omega,by omega,by rw [Int.toNat_natCast,h2];omega,fun hp=>by rw [Int.toNat_natCast,h2];omega⟩
theorem zwr {x:Int} {k:Nat} (hk:k<=64):ishr .u64 x (k:Int)=x / 2 ^ k:=by
 unfold ishr;rw [Int.toNat_natCast,show min k (IntKind.bits .u64)=k from Nat.min_eq_left hk];exact Int.fdiv_eq_ediv_of_nonneg _ (by
  have:(2:Int) ^ k=((2 ^ k:Nat):Int):=by simp
  rw [this];exact Int.natCast_nonneg _)
theorem BL.up {x v:Int} {k:Nat} (h:BL (x / 2 ^ k) v) (hx:(2:Int) ^ k<=x) (hv:v+k<=32):BL x (k+v):=by
 obtain ⟨a,b,c,d⟩:=h;have hk:(0:Int) < 2 ^ k:=by
  have:(2:Int) ^ k=((2 ^ k:Nat):Int):=by simp
  have:=Nat.two_pow_pos k;omega
 have e:((k:Int)+v).toNat=k+v.toNat:=by omega
 have hm:=Int.mul_ediv_add_emod x (2 ^ k);have hr:=Int.emod_nonneg x (by omega:(2:Int) ^ k≠0)
 have hr2:=Int.emod_lt_of_pos x hk;have hq:1<=x / 2 ^ k:=by
  have:=(Int.le_ediv_iff_mul_le hk).2 (by omega:1 * (2:Int) ^ k<=x)
  exact this
 refine ⟨by omega,by omega,?_,fun _ => ?_⟩
 ·rw [e,Int.pow_add];have h1:(2:Int) ^ k * (x / 2 ^ k+1)<=2 ^ k * 2 ^ v.toNat:=Int.mul_le_mul_of_nonneg_left (by omega) (by omega)
  rw [Int.mul_add] at h1;omega
 ·rw [e,Int.pow_add];have h1:(2:Int) ^ k * 2 ^ v.toNat<=2 ^ k * (2 * (x / 2 ^ k)):=Int.mul_le_mul_of_nonneg_left (d (by omega)) (by omega)
  rw [<- Int.mul_assoc,Int.mul_comm _ 2,Int.mul_assoc] at h1;omega
theorem zzA {x n:Int} (h0:0<=x) (h1:x < 65536) (n0:0<=n) (n1:n<=64):∃ v,zhy x n=some (n+v)/\v<=16/\BL x v:=by
 unfold zhy;by_cases c:256<=x
 ·rw [if_pos (decide_eq_true c),zac (by omega),zac (by unfold fits;omega),show (8:Int)=((8:Nat):Int) from rfl,zwr (by omega)]
  have e8:(2:Int) ^ 8=256:=rfl;obtain ⟨v,e,h,b⟩:=zzB (x:=x / 2 ^ 8) (n:=n+((8:Nat):Int)) (by omega) (by omega) (by omega) (by omega)
  exact ⟨((8:Nat):Int)+v,by rw [e,Int.add_assoc],by omega,b.up (by omega) (by omega)⟩
 ·rw [if_neg (by simpa using c)]
  obtain ⟨v,e,h,b⟩:=zzB (x:=x) (n:=n) h0 (by omega) (by omega) (by omega)
  exact ⟨v,e,by omega,b⟩
theorem bits3 {x n:Int} (h0:0<=x) (h1:x < 4294967296) (n0:0<=n) (n1:n<=32):∃ v,zhx x n=some (n+v)/\v<=32/\BL x v:=by
 unfold zhx;by_cases c:65536<=x
 ·rw [if_pos (decide_eq_true c),zac (by omega),zac (by unfold fits;omega),show (16:Int)=((16:Nat):Int) from rfl,zwr (by omega)]
  have e8:(2:Int) ^ 16=65536:=rfl;obtain ⟨v,e,h,b⟩:=zzA (x:=x / 2 ^ 16) (n:=n+((16:Nat):Int)) (by omega) (by omega) (by omega) (by omega)
  exact ⟨((16:Nat):Int)+v,by rw [e,Int.add_assoc],by omega,b.up (by omega) (by omega)⟩
 ·rw [if_neg (by simpa using c)]
  obtain ⟨v,e,h,b⟩:=zzA (x:=x) (n:=n) h0 (by omega) (by omega) (by omega)
  exact ⟨v,e,by omega,b⟩
theorem zsd {x:Int} (h0:0<=x) (h1:x < 4294967296):∃ v,zl6 x=some v/\BL x v:=by
 unfold zl6 znp;obtain ⟨v,e,h,b⟩:=bits3 (x:=x) (n:=0) h0 h1 (by omega) (by omega)
 refine ⟨v,?_,b⟩
 rw [if_neg (by simp only [decide_eq_true_eq];omega),e,Int.zero_add]
 rfl
theorem zyG {n:Int} (h0:8<=n) (h1:n<=1000000000):∃ M,zdy n=some M/\0 < M/\M<=2 * n:=by
 unfold zdy;rw [zqe (by omega) (by omega)]
 obtain ⟨v,e,b1,b2,b3,b4⟩:=zsd (x:=n) (by omega) (by omega)
 have b4:=b4 (by omega)
 have h2:(2:Int) ^ v.toNat=((2 ^ v.toNat:Nat):Int):=by simp
 refine ⟨2 ^ v.toNat,zau e ?_,by omega,b4⟩
 rw [zac b1];unfold ishl;rw [show min v.toNat (IntKind.bits .u64)=v.toNat from Nat.min_eq_left (by show v.toNat<=64;omega),Int.one_mul,zqe (by omega) (by omega)]
theorem iandU {x y:Int} (h0:0<=y) (h1:y < 4294967296):0<=iand .u64 x y/\iand .u64 x y<=y:=by
 unfold iand;have h:(BitVec.ofInt IntKind.u64.bits x &&& BitVec.ofInt IntKind.u64.bits y).toNat<=y.toNat:=by
  show (BitVec.ofInt 64 x &&& BitVec.ofInt 64 y).toNat<=y.toNat;rw [BitVec.toNat_and];refine Nat.le_trans Nat.and_le_right ?_
  rw [BitVec.toNat_ofInt];have:y % ((2 ^ 64:Nat):Int)=y:=Int.emod_eq_of_lt h0 (by omega)
  rw [this];exact Nat.le_refl _
 generalize (BitVec.ofInt IntKind.u64.bits x &&& BitVec.ofInt IntKind.u64.bits y).toNat=t at *
 rw [zqe (by omega) (by omega)]
 omega
open Classical in
def ordV (x y:Rl):Int:=(zi1 x y).choose
theorem zge (x y:Rl):zbB x y=some (ordV x y):=(zi1 x y).choose_spec.1
theorem zyM (x y:Rl):0<=ordV x y ↔ ¬ RLt x y:=(zi1 x y).choose_spec.2
def ltS (x y:Rl):Bool:=decide (ordV x y < 0)
theorem zuH {x y:Rl}:ltS x y=false ↔ ¬ RLt x y:=by unfold ltS;rw [decide_eq_false_iff_not,<- zyM x y];omega
theorem zyD {x y:Rl}:ltS x y=true↔RLt x y:=by
 have:=zuH (x:=x) (y:=y)
 cases h:ltS x y with
 | true=>simp only [true_iff];exact Classical.byContradiction fun hn=>by rw [h] at this;simpa using this.2 hn
 | false=>simpa using this.1 h
theorem swoS:Go.Sort.SWO ltS where
 irrefl x:=by rw [zuH];unfold RLt;omega
 trans x y z h1 h2:=by rw [zyD] at *; unfold RLt at *; omega
 ntrans x y z h1 h2:=by rw [zuH] at *; unfold RLt at *; omega
section
theorem zpx (a:Nat) (r1:Int->List Rl->Option (List Rl)) (i:Int) (hi:0<=i/\i < 1000000000):∀ (j:Nat) (d:Array Rl),j < d.size->d.size<=1000000000->
  zaJ a i r1 j d.toList=r1 (i+1) (Go.Sort.insInner ltS a j d).toList
 | 0,d,hj,hd=>by
  have:=d.length_toList;rw [zdx];unfold zaz;rw [if_neg (by simp),zac (by unfold fits;omega)]
  rfl
 | j+1,d,hj,hd=>by
  have hl:=d.length_toList;rw [zdx];unfold zaz;unfold Go.Sort.insInner;rw [show ((j+1:Nat):Int) - 1=(j:Int) by omega]
  by_cases c:a < j+1
  ·rw [if_pos (by simp only [decide_eq_true_eq];omega)]
   (repeat (rw [zac (by first | omega | (unfold fits;omega) | (simp only [List.length_set,Array.length_toList];omega))]))
   rw [ixA,ixA,zge];show (if ltS d[j+1]! d[j]! =true then _ else _)=_
   rw [show decide (j+1 > a)=true from decide_eq_true c,Bool.true_and]
   cases ltS d[j+1]! d[j]! with
   | true=>
    rw [if_pos rfl,if_pos rfl]
    (repeat (rw [zac (by first | omega | (unfold fits;omega) | (simp only [List.length_set,Array.length_toList];omega))]))
    rw [Int.toNat_natCast,Int.toNat_natCast,swpA];exact zpx a r1 i hi j _ (by rw [swpZ];omega) (by rw [swpZ];exact hd)
   | false=>
    rw [if_neg (by simp),if_neg (by simp)]
    (repeat (rw [zac (by first | omega | (unfold fits;omega) | (simp only [List.length_set,Array.length_toList];omega))]))
  ·rw [if_neg (by simp only [decide_eq_true_eq];omega),zac (by unfold fits;omega)]
   rw [show decide (j+1 > a)=false from decide_eq_false c,Bool.false_and,if_neg (by simp)]
theorem zhe (a:Nat):∀ (j:Nat) (d:Array Rl),(Go.Sort.insInner ltS a j d).size=d.size
 | 0,_=>rfl
 | j+1,d=>by
  unfold Go.Sort.insInner
  split
  ·rw [zhe a j,swpZ]
  ·rfl
theorem ztP (a b:Nat):∀ (n i:Nat) (d:Array Rl),b - i=n->i<=1000000001->b<=d.size->d.size<=1000000000->
  zbD a b i d.toList=some (Go.Sort.insOuter ltS a b i d).toList:=by
 intro n
 induction n with
 | zero=>
  intro i d hn hi hb hd;rw [zdw];unfold zay;unfold Go.Sort.insOuter;rw [if_neg (by simp only [decide_eq_true_eq];omega),if_neg (by omega)]
 | succ n ih=>
  intro i d hn hi hb hd;rw [zdw];unfold zay;unfold Go.Sort.insOuter;rw [if_pos (by simp only [decide_eq_true_eq];omega),if_pos (by omega),zpx a _ i (by omega) i d (by omega) hd]
  have:=ih (i+1) (Go.Sort.insInner ltS a i d) (by omega) (by omega) (by rw [zhe];exact hb) (by rw [zhe];exact hd)
  rw [<- this];rfl
theorem zvd (a b:Nat) (d:Array Rl) (ha:a<=b) (hb:b<=d.size) (hd:d.size<=1000000000):zb1 a b d.toList=some (Go.Sort.insertionSort ltS d a b).toList:=by
 unfold zb1 Go.Sort.insertionSort
 (repeat (rw [zac (by first | omega | (unfold fits;omega) | (simp only [List.length_set,Array.length_toList];omega))]))
 exact ztP a b _ (a+1) d rfl (by omega) hb hd
theorem zub (hi first:Nat):∀ (n root:Nat) (d:Array Rl),hi - root<=n->first+hi<=d.size->d.size<=1000000000->root<=1000000000->
  zbm hi first root d.toList=some (Go.Sort.siftDown ltS hi first root d).toList:=by
 intro n
 induction n with
 | zero=>
  intro root d hn hf hd hr;rw [zeT];unfold zaZ;unfold Go.Sort.siftDown
  (repeat (rw [zac (by first | omega | (unfold fits;omega) | (simp only [List.length_set,Array.length_toList];omega))]))
  rw [if_pos (by simp only [decide_eq_true_eq];omega),dif_pos (by omega)]
 | succ n ih=>
  intro root d hn hf hd hr;have hl:=d.length_toList;rw [zeT];unfold zaZ;unfold Go.Sort.siftDown
  (repeat (rw [zac (by first | omega | (unfold fits;omega) | (simp only [List.length_set,Array.length_toList];omega))]))
  by_cases c:hi<=2 * root+1
  ·rw [if_pos (by simp only [decide_eq_true_eq];omega),dif_pos (by omega)]
  ·rw [if_neg (by simp only [decide_eq_true_eq];omega),dif_neg (by omega)]
   (repeat (rw [zac (by first | omega | (unfold fits;omega) | (simp only [List.length_set,Array.length_toList];omega))]))
   have J4:∀ ch:Nat,ch < hi->root < ch->za8 first root d.toList (zbm hi first) ch=some (if !ltS d[first+root]! d[first+ch]! then d else Go.Sort.siftDown ltS hi first ch (Go.Sort.swp d (first+root) (first+ch))).toList:=fun ch h1 h2=>by
    unfold za8;rw [show (first:Int)+(root:Int)=((first+root:Nat):Int) by omega,show (first:Int)+(ch:Int)=((first+ch:Nat):Int) by omega]
    (repeat (rw [zac (by first | omega | (unfold fits;omega) | (simp only [List.length_set,Array.length_toList];omega))]))
    rw [ixA,ixA,zge];show (if (!ltS d[first+root]! d[first+ch]!)=true then _ else _)=_
    cases ltS d[first+root]! d[first+ch]! with
    | true=>
     rw [if_neg (by simp),if_neg (by simp)]
     (repeat (rw [zac (by first | omega | (unfold fits;omega) | (simp only [List.length_set,Array.length_toList];omega))]))
     rw [Int.toNat_natCast,Int.toNat_natCast,swpA];exact ih ch _ (by omega) (by rw [swpZ];exact hf) (by rw [swpZ];exact hd) (by omega)
    | false=>rw [if_pos (by simp),if_pos (by simp)]
   have e1:(2:Int) * (root:Int)+1=((2 * root+1:Nat):Int):=by omega
   have e2:((2 * root+1:Nat):Int)+1=((2 * root+2:Nat):Int):=by omega
   have J3:∀ t:Bool,(t=true->2 * root+2 < hi)->za7 first root d.toList (zbm hi first) t=some (if t=true then (if !ltS d[first+root]! d[first+(2 * root+2)]! then d else Go.Sort.siftDown ltS hi first (2 * root+2) (Go.Sort.swp d (first+root) (first+(2 * root+2)))) else
     (if !ltS d[first+root]! d[first+(2 * root+1)]! then d else Go.Sort.siftDown ltS hi first (2 * root+1) (Go.Sort.swp d (first+root) (first+(2 * root+1))))).toList:=fun t ht=>by
    unfold za7;rw [e1,e2]
    cases t with
    | true=>rw [if_pos rfl,if_pos rfl];(repeat (rw [zac (by first | omega | (unfold fits;omega) | (simp only [List.length_set,Array.length_toList];omega))]));exact J4 _ (ht rfl) (by omega)
    | false=>rw [if_neg (by simp),if_neg (by simp)];exact J4 _ (by omega) (by omega)
   rw [e1,e2];by_cases c2:2 * root+2 < hi
   ·rw [if_pos (by simp only [decide_eq_true_eq];omega)]
    rw [show (first:Int)+((2 * root+1:Nat):Int)=((first+(2 * root+1):Nat):Int) by omega,show ((first+(2 * root+1):Nat):Int)+1=((first+(2 * root+1)+1:Nat):Int) by omega]
    (repeat (rw [zac (by first | omega | (unfold fits;omega) | (simp only [List.length_set,Array.length_toList];omega))]))
    rw [ixA,ixA,zge];refine (J3 _ (fun _=>c2)).trans ?_
    rw [show decide (2 * root+1+1 < hi)=true from decide_eq_true c2,Bool.true_and];show some (Array.toList (if ltS d[first+(2 * root+1)]! d[first+(2 * root+1)+1]! =true then _ else _))=_
    cases ltS d[first+(2 * root+1)]! d[first+(2 * root+1)+1]! with
    | true=>simp [c2]
    | false=>simp
   ·rw [if_neg (by simp only [decide_eq_true_eq];omega),J3 false (by simp),show decide (2 * root+1+1 < hi)=false from decide_eq_false c2,Bool.false_and]
    simp
theorem zg2 (hi first:Nat):∀ (n root:Nat) (d:Array Rl),hi - root<=n->(Go.Sort.siftDown ltS hi first root d).size=d.size:=by
 intro n
 induction n with
 | zero=>intro root d hn;unfold Go.Sort.siftDown;rw [dif_pos (by omega)]
 | succ n ih=>
  intro root d hn;unfold Go.Sort.siftDown
  split
  ·rfl
  ·split
   ·split
    ·rfl
    ·split
     ·rw [ih _ _ (by omega),swpZ]
     ·rfl
   ·split
    ·rfl
    ·rw [ih _ _ (by omega),swpZ]
theorem zoq (lo hi first:Nat) (d:Array Rl) (hf:first+hi<=d.size) (hd:d.size<=1000000000) (hl:lo<=1000000000):zcm lo hi first d.toList=some (Go.Sort.siftDown ltS hi first lo d).toList:=by
 unfold zcm;exact zub hi first _ lo d (Nat.le_refl _) hf hd hl
theorem zoc (a n:Nat):∀ (k:Nat) (d:Array Rl),k<=n->a+n<=d.size->d.size<=1000000000->zcv a ((k:Int) - 1) d.toList=some (Go.Sort.heapPop ltS a k d).toList
 | 0,d,hk,ha,hd=>by
  rw [zeP];unfold zaU;rw [if_neg (by simp only [decide_eq_true_eq];omega)];rfl
 | k+1,d,hk,ha,hd=>by
  have hl:=d.length_toList;rw [zeP];unfold zaU;unfold Go.Sort.heapPop;rw [show ((k+1:Nat):Int) - 1=(k:Int) by omega,if_pos (by simp only [decide_eq_true_eq];omega),show (a:Int)+(k:Int)=((a+k:Nat):Int) by omega]
  (repeat (rw [zac (by first | omega | (unfold fits;omega) | (simp only [List.length_set,Array.length_toList];omega))]))
  rw [ixA,ixA,Int.toNat_natCast,Int.toNat_natCast,swpA];refine zau (zoq 0 k a _ (by rw [swpZ];omega) (by rw [swpZ];exact hd) (by omega)) ?_
  (repeat (rw [zac (by first | omega | (unfold fits;omega) | (simp only [List.length_set,Array.length_toList];omega))]))
  exact zoc a n k _ (by omega) (by rw [zg2 _ _ _ _ _ (Nat.le_refl _),swpZ];exact ha) (by rw [zg2 _ _ _ _ _ (Nat.le_refl _),swpZ];exact hd)
theorem zrG (hi first:Nat):∀ (k:Nat) (d:Array Rl),(Go.Sort.heapBuild ltS hi first k d).size=d.size
 | 0,_=>rfl
 | k+1,d=>by unfold Go.Sort.heapBuild;rw [zrG hi first k,zg2 _ _ _ _ _ (Nat.le_refl _)]
theorem zob (a b:Nat) (hab:a<=b):∀ (k:Nat) (d:Array Rl),k<=b->b<=d.size->d.size<=1000000000->zcu a b ((k:Int) - 1) d.toList=some (Go.Sort.heapPop ltS a (b - a) (Go.Sort.heapBuild ltS (b - a) a k d)).toList
 | 0,d,hk,hb,hd=>by
  rw [zeO];unfold zaT;rw [if_neg (by simp only [decide_eq_true_eq];omega),show (b:Int) - (a:Int)=((b - a:Nat):Int) by omega]
  (repeat (rw [zac (by first | omega | (unfold fits;omega) | (simp only [List.length_set,Array.length_toList];omega))]))
  exact zoc a (b - a) (b - a) d (Nat.le_refl _) (by omega) hd
 | k+1,d,hk,hb,hd=>by
  rw [zeO];unfold zaT;unfold Go.Sort.heapBuild;rw [show ((k+1:Nat):Int) - 1=(k:Int) by omega,if_pos (by simp only [decide_eq_true_eq];omega),show (b:Int) - (a:Int)=((b - a:Nat):Int) by omega]
  (repeat (rw [zac (by first | omega | (unfold fits;omega) | (simp only [List.length_set,Array.length_toList];omega))]))
  refine zau (zoq k (b - a) a d (by omega) hd (by omega)) ?_
  (repeat (rw [zac (by first | omega | (unfold fits;omega) | (simp only [List.length_set,Array.length_toList];omega))]))
  exact zob a b hab k _ (by omega) (by rw [zg2 _ _ _ _ _ (Nat.le_refl _)];exact hb) (by rw [zg2 _ _ _ _ _ (Nat.le_refl _)];exact hd)
theorem ztO (a b:Nat) (d:Array Rl) (hab:a < b) (hb:b<=d.size) (hd:d.size<=1000000000):zdl a b d.toList=some (Go.Sort.heapSort ltS d a b).toList:=by
 unfold zdl Go.Sort.heapSort;have e:Int.tdiv ((b:Int) - (a:Int) - 1) 2=(((b - a - 1) / 2+1:Nat):Int) - 1:=by
  rw [show (b:Int) - (a:Int) - 1=((b - a - 1:Nat):Int) by omega,show (2:Int)=((2:Nat):Int) from rfl,<- Int.ofNat_tdiv];omega
 rw [e]
 (repeat (rw [zac (by first | omega | (unfold fits;omega) | (simp only [List.length_set,Array.length_toList];omega))]))
 exact zob a b (by omega) _ d (by omega) hb hd
theorem zjz (d:Array Rl) (a b s:Nat) (ha:a < d.size) (hb:b < d.size) (hs:s<=1000):zb7 d.toList a b s=some (((Go.Sort.order2 ltS d a b s).1:Int),((Go.Sort.order2 ltS d a b s).2.1:Int),((Go.Sort.order2 ltS d a b s).2.2:Int)):=by
 have hl:=d.length_toList;unfold zb7 Go.Sort.order2
 (repeat (rw [zac (by first | omega | (unfold fits;omega) | (simp only [List.length_set,Array.length_toList];omega))]))
 rw [ixA,ixA,zge];show (if ltS d[b]! d[a]! =true then _ else _)=_
 cases ltS d[b]! d[a]! with
 | true=>rw [if_pos rfl,if_pos rfl];(repeat (rw [zac (by first | omega | (unfold fits;omega) | (simp only [List.length_set,Array.length_toList];omega))]));rfl
 | false=>rw [if_neg (by simp),if_neg (by simp)]
theorem zfq (d:Array Rl) (a b s:Nat):(Go.Sort.order2 ltS d a b s).2.2<=s+1:=by
 unfold Go.Sort.order2;split<;>simp
theorem zmx (d:Array Rl) (a b c s:Nat) (ha:a < d.size) (hb:b < d.size) (hc:c < d.size) (hs:s<=100):zcN d.toList a b c s=some (((Go.Sort.median ltS d a b c s).1:Int),((Go.Sort.median ltS d a b c s).2:Int)):=by
 unfold zcN Go.Sort.median;have h1:=Go.Sort.order2_mem ltS d a b s;have s1:=zfq d a b s;have h2:=Go.Sort.order2_mem ltS d (Go.Sort.order2 ltS d a b s).2.1 c (Go.Sort.order2 ltS d a b s).2.2;have s2:=zfq d (Go.Sort.order2 ltS d a b s).2.1 c (Go.Sort.order2 ltS d a b s).2.2;refine zau (zjz d a b s ha hb (by omega)) ?_
 refine zau (zjz d _ c _ (by omega) hc (by omega)) ?_
 refine zau (zjz d _ _ _ (by omega) (by omega) (by omega)) ?_
 rfl
theorem ziK (d:Array Rl) (a b c s:Nat):(Go.Sort.median ltS d a b c s).2<=s+3:=by
 have s1:=zfq d a b s;have s2:=zfq d (Go.Sort.order2 ltS d a b s).2.1 c (Go.Sort.order2 ltS d a b s).2.2;have s3:=zfq d (Go.Sort.order2 ltS d a b s).1 (Go.Sort.order2 ltS d (Go.Sort.order2 ltS d a b s).2.1 c (Go.Sort.order2 ltS d a b s).2.2).1 (Go.Sort.order2 ltS d (Go.Sort.order2 ltS d a b s).2.1 c (Go.Sort.order2 ltS d a b s).2.2).2.2;unfold Go.Sort.median;show (Go.Sort.order2 _ _ _ _ _).2.2<=_;omega
theorem zjw (d:Array Rl) (a s:Nat) (h0:0 < a) (ha:a+1 < d.size) (hd:d.size<=1000000000) (hs:s<=100):za9 d.toList a s=some (((Go.Sort.medianAdjacent ltS d a s).1:Int),((Go.Sort.medianAdjacent ltS d a s).2:Int)):=by
 unfold za9 Go.Sort.medianAdjacent
 (repeat (rw [zac (by first | omega | (unfold fits;omega) | (simp only [List.length_set,Array.length_toList];omega))]))
 rw [show (a:Int) - 1=((a - 1:Nat):Int) by omega,show (a:Int)+1=((a+1:Nat):Int) by omega]
 exact zau (zmx d _ _ _ _ (by omega) (by omega) ha hs) rfl
def zhS:Go.Sort.Hint->Int
 | .unknown=>0
 | .increasing=>1
 | .decreasing=>2
theorem zpl (j s:Nat):zbK j s=some ((j:Int),zhS (if s=0 then .increasing else if s=12 then .decreasing else .unknown)):=by
 unfold zbK;by_cases c:s=0
 ·rw [if_pos (by simp [c]),if_pos c];rfl
 ·rw [if_neg (by simp;omega),if_neg c]
  by_cases c2:s=12
  ·rw [if_pos (by simp [c2]),if_pos c2];rfl
  ·rw [if_neg (by simp;omega),if_neg c2];rfl
theorem zsS (d:Array Rl) (a b:Nat) (hab:a < b) (hb:b<=d.size) (hd:d.size<=1000000000):zct d.toList a b=some (((Go.Sort.choosePivot ltS d a b).1:Int),zhS (Go.Sort.choosePivot ltS d a b).2):=by
 unfold zct Go.Sort.choosePivot;have e:Int.tdiv ((b:Int) - (a:Int)) 4=(((b - a) / 4:Nat):Int):=by
  rw [show (b:Int) - (a:Int)=((b - a:Nat):Int) by omega,show (4:Int)=((4:Nat):Int) from rfl,<- Int.ofNat_tdiv]
 have h4:=Nat.div_mul_le_self (b - a) 4;have h5:(b - a) / 4 * 4+4 > b - a:=by omega
 rw [e];dsimp only;generalize hq:(b - a) / 4=q at *
 rw [show (a:Int)+(q:Int) * 1=((a+q * 1:Nat):Int) by omega,show (a:Int)+(q:Int) * 2=((a+q * 2:Nat):Int) by omega,show (a:Int)+(q:Int) * 3=((a+q * 3:Nat):Int) by omega]
 (repeat (rw [zac (by first | omega | (unfold fits;omega) | (simp only [List.length_set,Array.length_toList];omega))]))
 have J10:∀ i j k s:Nat,i < d.size->j < d.size->k < d.size->s<=100->zbJ d.toList i j k s=some (((Go.Sort.median ltS d i j k s).1:Int),zhS (if (Go.Sort.median ltS d i j k s).2=0 then .increasing else if (Go.Sort.median ltS d i j k s).2=12 then .decreasing else .unknown)):=fun i j k s h1 h2 h3 h4=>by
  unfold zbJ;exact zau (zmx d i j k s h1 h2 h3 h4) (zpl _ _)
 by_cases c:8<=b - a
 ·rw [if_pos (by simp only [decide_eq_true_eq];omega),if_pos c]
  by_cases c2:50<=b - a
  ·rw [if_pos (by simp only [decide_eq_true_eq];omega),if_pos c2]
   have q1:=ziK d (a+q * 1 - 1) (a+q * 1) (a+q * 1+1) 0;have m1:=Go.Sort.median_mem ltS d (a+q * 1 - 1) (a+q * 1) (a+q * 1+1) 0;refine zau (zjw d (a+q * 1) 0 (by omega) (by omega) hd (by omega)) ?_
   unfold Go.Sort.medianAdjacent;generalize Go.Sort.median ltS d (a+q * 1 - 1) (a+q * 1) (a+q * 1+1) 0=r1 at *
   have q2:=ziK d (a+q * 2 - 1) (a+q * 2) (a+q * 2+1) r1.2;have m2:=Go.Sort.median_mem ltS d (a+q * 2 - 1) (a+q * 2) (a+q * 2+1) r1.2;refine zau (zjw d (a+q * 2) r1.2 (by omega) (by omega) hd (by omega)) ?_
   unfold Go.Sort.medianAdjacent;generalize Go.Sort.median ltS d (a+q * 2 - 1) (a+q * 2) (a+q * 2+1) r1.2=r2 at *
   have q3:=ziK d (a+q * 3 - 1) (a+q * 3) (a+q * 3+1) r2.2;have m3:=Go.Sort.median_mem ltS d (a+q * 3 - 1) (a+q * 3) (a+q * 3+1) r2.2;refine zau (zjw d (a+q * 3) r2.2 (by omega) (by omega) hd (by omega)) ?_
   unfold Go.Sort.medianAdjacent;generalize Go.Sort.median ltS d (a+q * 3 - 1) (a+q * 3) (a+q * 3+1) r2.2=r3 at *
   exact J10 r1.1 r2.1 r3.1 r3.2 (by omega) (by omega) (by omega) (by omega)
  ·rw [if_neg (by simp only [decide_eq_true_eq];omega),if_neg c2]
   exact J10 (a+q * 1) (a+q * 2) (a+q * 3) 0 (by omega) (by omega) (by omega) (by omega)
 ·rw [if_neg (by simp only [decide_eq_true_eq];omega),if_neg c]
  exact zpl (a+q * 2) 0
theorem zt6:∀ (n i j:Nat) (d:Array Rl),j - i<=n->j < d.size->d.size<=1000000000->zbL i j d.toList=some (Go.Sort.reverseLoop i j d).toList:=by
 intro n
 induction n with
 | zero=>
  intro i j d hn hj hd;rw [zd0];unfold zaF;unfold Go.Sort.reverseLoop;rw [if_neg (by simp only [decide_eq_true_eq];omega),if_neg (by omega)]
 | succ n ih=>
  intro i j d hn hj hd;have hl:=d.length_toList;rw [zd0];unfold zaF;unfold Go.Sort.reverseLoop;by_cases c:i < j
  ·rw [if_pos (by simp only [decide_eq_true_eq];omega),if_pos c]
   (repeat (rw [zac (by first | omega | (unfold fits;omega) | (simp only [List.length_set,Array.length_toList];omega))]))
   rw [ixA,ixA,Int.toNat_natCast,Int.toNat_natCast,swpA,show (j:Int) - 1=((j - 1:Nat):Int) by omega]
   exact ih (i+1) (j - 1) _ (by omega) (by rw [swpZ];omega) (by rw [swpZ];exact hd)
  ·rw [if_neg (by simp only [decide_eq_true_eq];omega),if_neg c]
theorem zvq (a b:Nat) (d:Array Rl) (hab:a < b) (hb:b<=d.size) (hd:d.size<=1000000000):zcj a b d.toList=some (Go.Sort.reverseRange d a b).toList:=by
 unfold zcj Go.Sort.reverseRange
 (repeat (rw [zac (by first | omega | (unfold fits;omega) | (simp only [List.length_set,Array.length_toList];omega))]))
 rw [show (b:Int) - 1=((b - 1:Nat):Int) by omega]
 exact zt6 _ a (b - 1) d (Nat.le_refl _) (by omega) hd
theorem zt0 (b:Nat) (j:Int) (r3:Int->Int->List Rl->Option (Bool×List Rl)) (i2:Int) (hj:0<=j/\j<=100):∀ (n k:Nat) (d:Array Rl),b - k=n->0 < k->b<=d.size->d.size<=1000000000->
  zar b j r3 i2 k d.toList=r3 i2 (j+1) (Go.Sort.shiftUp ltS b k d).toList:=by
 intro n
 induction n with
 | zero=>
  intro k d hn hk hb hd;rw [zcl];unfold zan;unfold Go.Sort.shiftUp;rw [if_neg (by simp only [decide_eq_true_eq];omega),if_neg (by omega)]
  (repeat (rw [zac (by first | omega | (unfold fits;omega) | (simp only [List.length_set,Array.length_toList];omega))]))
 | succ n ih=>
  intro k d hn hk hb hd;have hl:=d.length_toList;rw [zcl];unfold zan;unfold Go.Sort.shiftUp;rw [if_pos (by simp only [decide_eq_true_eq];omega),if_pos (by omega),show (k:Int) - 1=((k - 1:Nat):Int) by omega]
  (repeat (rw [zac (by first | omega | (unfold fits;omega) | (simp only [List.length_set,Array.length_toList];omega))]))
  rw [ixA,ixA,zge];show (if (!ltS d[k]! d[k - 1]!)=true then _ else _)=_
  cases ltS d[k]! d[k - 1]! with
  | true=>
   rw [if_neg (by simp),if_neg (by simp)]
   (repeat (rw [zac (by first | omega | (unfold fits;omega) | (simp only [List.length_set,Array.length_toList];omega))]))
   rw [Int.toNat_natCast,Int.toNat_natCast,swpA];exact ih (k+1) _ (by omega) (by omega) (by rw [swpZ];exact hb) (by rw [swpZ];exact hd)
  | false=>
   rw [if_pos (by simp),if_pos (by simp)]
   (repeat (rw [zac (by first | omega | (unfold fits;omega) | (simp only [List.length_set,Array.length_toList];omega))]))
theorem ztZ (b:Nat) (j:Int) (r3:Int->Int->List Rl->Option (Bool×List Rl)) (i2:Nat) (hj:0<=j/\j<=100) (d:Array Rl) (hb:b<=d.size) (hd:d.size<=1000000000) (hi:i2<=b):
  zaf b j r3 i2 d.toList=r3 i2 (j+1) (if b - i2 ≥ 2 then Go.Sort.shiftUp ltS b (i2+1) d else d).toList:=by
 unfold zaf
 (repeat (rw [zac (by first | omega | (unfold fits;omega) | (simp only [List.length_set,Array.length_toList];omega))]))
 by_cases c:b - i2 ≥ 2
 ·rw [if_pos (by simp only [decide_eq_true_eq];omega),if_pos c]
  (repeat (rw [zac (by first | omega | (unfold fits;omega) | (simp only [List.length_set,Array.length_toList];omega))]))
  exact zt0 b j r3 i2 hj _ (i2+1) d rfl (by omega) hb hd
 ·rw [if_neg (by simp only [decide_eq_true_eq];omega),if_neg c]
  (repeat (rw [zac (by first | omega | (unfold fits;omega) | (simp only [List.length_set,Array.length_toList];omega))]))
theorem zpL (b:Nat) (j:Int) (r3:Int->Int->List Rl->Option (Bool×List Rl)) (i2:Nat) (hj:0<=j/\j<=100) (hi:i2<=b):∀ (k:Nat) (d:Array Rl),k < d.size->b<=d.size->d.size<=1000000000->
  zaq b j r3 i2 k d.toList=zaf b j r3 i2 (Go.Sort.shiftDown ltS k d).toList
 | 0,d,hk,hb,hd=>by
  rw [zck];unfold zam;rw [if_neg (by simp)];rfl
 | k+1,d,hk,hb,hd=>by
  have hl:=d.length_toList;rw [zck];unfold zam;unfold Go.Sort.shiftDown;rw [if_pos (by simp only [decide_eq_true_eq];omega),show ((k+1:Nat):Int) - 1=(k:Int) by omega]
  (repeat (rw [zac (by first | omega | (unfold fits;omega) | (simp only [List.length_set,Array.length_toList];omega))]))
  rw [ixA,ixA,zge];show (if (!ltS d[k+1]! d[k]!)=true then _ else _)=_
  cases ltS d[k+1]! d[k]! with
  | true=>
   rw [if_neg (by simp),if_neg (by simp)]
   (repeat (rw [zac (by first | omega | (unfold fits;omega) | (simp only [List.length_set,Array.length_toList];omega))]))
   rw [Int.toNat_natCast,Int.toNat_natCast,swpA];exact zpL b j r3 i2 hj hi k _ (by rw [swpZ];omega) (by rw [swpZ];exact hb) (by rw [swpZ];exact hd)
  | false=>rw [if_pos (by simp),if_pos (by simp)]
theorem zlB:∀ (k:Nat) (d:Array Rl),(Go.Sort.shiftDown ltS k d).size=d.size
 | 0,_=>rfl
 | k+1,d=>by
  unfold Go.Sort.shiftDown
  split
  ·rfl
  ·rw [zlB k,swpZ]
theorem zqs (b:Nat):∀ (n k:Nat) (d:Array Rl),b - k=n->(Go.Sort.shiftUp ltS b k d).size=d.size:=by
 intro n
 induction n with
 | zero=>intro k d hn;unfold Go.Sort.shiftUp;rw [if_neg (by omega)]
 | succ n ih=>
  intro k d hn;unfold Go.Sort.shiftUp;rw [if_pos (by omega)]
  split
  ·rfl
  ·rw [ih _ _ (by omega),swpZ]
theorem zvn (a b:Nat) (j:Int) (d:Array Rl) (r3:Int->Int->List Rl->Option (Bool×List Rl)) (hb:b<=d.size) (hd:d.size<=1000000000):∀ (n i:Nat),b - i=n->0 < i->
  zat a b j d.toList r3 i=zas a b j d.toList r3 (Go.Sort.scanSorted ltS d b i:Nat):=by
 intro n
 induction n with
 | zero=>
  intro i hn hi;rw [zcs];unfold zap;unfold Go.Sort.scanSorted;rw [if_neg (by simp only [decide_eq_true_eq];omega),show decide (i < b)=false from decide_eq_false (by omega),Bool.false_and,if_neg (by simp)]
 | succ n ih=>
  intro i hn hi;have hl:=d.length_toList;rw [zcs];unfold zap;unfold Go.Sort.scanSorted;rw [if_pos (by simp only [decide_eq_true_eq];omega),show (i:Int) - 1=((i - 1:Nat):Int) by omega]
  (repeat (rw [zac (by first | omega | (unfold fits;omega) | (simp only [List.length_set,Array.length_toList];omega))]))
  rw [ixA,ixA,zge,show decide (i < b)=true from decide_eq_true (by omega),Bool.true_and]
  show (if (!ltS d[i]! d[i - 1]!)=true then _ else _)=_
  cases ltS d[i]! d[i - 1]! with
  | true=>rw [if_neg (by simp),if_neg (by simp)]
  | false=>
   rw [if_pos (by simp),if_pos (by simp)]
   (repeat (rw [zac (by first | omega | (unfold fits;omega) | (simp only [List.length_set,Array.length_toList];omega))]))
   exact ih (i+1) (by omega) (by omega)
theorem zs2 (d:Array Rl) (b:Nat):∀ (n i:Nat),b - i=n->i<=b->i<=Go.Sort.scanSorted ltS d b i/\Go.Sort.scanSorted ltS d b i<=b:=by
 intro n
 induction n with
 | zero=>intro i hn hi;unfold Go.Sort.scanSorted;rw [show decide (i < b)=false from decide_eq_false (by omega),Bool.false_and,if_neg (by simp)];omega
 | succ n ih=>
  intro i hn hi;unfold Go.Sort.scanSorted
  split
  ·have:=ih (i+1) (by omega) (by omega);omega
  ·omega
theorem zqV (a b:Nat) (hab:a < b):∀ (s i:Nat) (d:Array Rl),s<=5->a < i->i<=b->b<=d.size->d.size<=1000000000->
  zaO a b i (5 - (s:Int)) d.toList=some ((Go.Sort.partialIns ltS a b s i d).2,(Go.Sort.partialIns ltS a b s i d).1.toList)
 | 0,i,d,hs,hi,hib,hb,hd=>by
  rw [zcr];unfold zao;rw [if_neg (by simp)];rfl
 | s+1,i,d,hs,hi,hib,hb,hd=>by
  have hl:=d.length_toList;rw [zcr];unfold zao;unfold Go.Sort.partialIns;rw [if_pos (by simp only [decide_eq_true_eq];omega),zvn a b _ d _ hb hd _ i rfl (by omega)]
  obtain ⟨k1,k2⟩:=zs2 d b _ i rfl hib;dsimp only;generalize Go.Sort.scanSorted ltS d b i=k at *
  unfold zas;by_cases c1:k=b
  ·rw [if_pos (by simp [c1]),if_pos c1]
  ·rw [if_neg (by simp only [decide_eq_true_eq];omega),if_neg c1]
   (repeat (rw [zac (by first | omega | (unfold fits;omega) | (simp only [List.length_set,Array.length_toList];omega))]))
   by_cases c2:b - a < 50
   ·rw [if_pos (by simp only [decide_eq_true_eq];omega),if_pos c2]
   ·rw [if_neg (by simp only [decide_eq_true_eq];omega),if_neg c2,show (k:Int) - 1=((k - 1:Nat):Int) by omega]
    (repeat (rw [zac (by first | omega | (unfold fits;omega) | (simp only [List.length_set,Array.length_toList];omega))]))
    rw [ixA,ixA,Int.toNat_natCast,Int.toNat_natCast,swpA];have hz:=swpZ d k (k - 1);have e5:(5 - ((s+1:Nat):Int))+1=5 - (s:Int):=by omega
    have fin:∀ d2:Array Rl,d2.size=d.size->zaf b (5 - ((s+1:Nat):Int)) (zaO a b) k d2.toList=some ((Go.Sort.partialIns ltS a b s k (if b - k ≥ 2 then Go.Sort.shiftUp ltS b (k+1) d2 else d2)).2,(Go.Sort.partialIns ltS a b s k (if b - k ≥ 2 then Go.Sort.shiftUp ltS b (k+1) d2 else d2)).1.toList):=fun d2 h2=>by
     rw [ztZ b _ _ k (by omega) d2 (by omega) (by omega) k2,e5]
     have hz2:(if b - k ≥ 2 then Go.Sort.shiftUp ltS b (k+1) d2 else d2).size=d2.size:=by
      split
      ·exact zqs b _ _ _ rfl
      ·rfl
     exact zqV a b hab s k _ (by omega) (by omega) k2 (by omega) (by omega)
    by_cases c3:k - a ≥ 2
    ·rw [if_pos (by simp only [decide_eq_true_eq];omega),if_pos c3,zpL b _ _ k (by omega) k2 (k - 1) _ (by omega) (by omega) (by omega)]
     exact fin _ ((zlB _ _).trans hz)
    ·rw [if_neg (by simp only [decide_eq_true_eq];omega),if_neg c3]
     exact fin _ hz
theorem zqo (a b:Nat) (d:Array Rl) (hab:a < b) (hb:b<=d.size) (hd:d.size<=1000000000):zbj a b d.toList=some ((Go.Sort.partialInsertionSort ltS d a b).2,(Go.Sort.partialInsertionSort ltS d a b).1.toList):=by
 unfold zbj Go.Sort.partialInsertionSort
 (repeat (rw [zac (by first | omega | (unfold fits;omega) | (simp only [List.length_set,Array.length_toList];omega))]))
 exact zqV a b hab 5 (a+1) d (Nat.le_refl _) (by omega) (by omega) hb hd
theorem zqU (a i2:Nat) (d:Array Rl) (r:Int->Int->List Rl->Option (Int×List Rl)) (ha:a < d.size) (hd:d.size<=1000000000) (hi:0 < i2):∀ j:Nat,j < d.size->
  zaE a d.toList r i2 j=zaC d.toList r i2 (Go.Sort.scanDown (fun x=>ltS d[a]! x) d i2 j:Nat)
 | 0,hj=>by
  rw [zdp];unfold zaw;rw [if_neg (by simp only [decide_eq_true_eq];omega)];rfl
 | j+1,hj=>by
  have hl:=d.length_toList;rw [zdp];unfold zaw;unfold Go.Sort.scanDown;by_cases c:i2<=j+1
  ·rw [if_pos (by simp only [decide_eq_true_eq];omega)]
   (repeat (rw [zac (by first | omega | (unfold fits;omega) | (simp only [List.length_set,Array.length_toList];omega))]))
   rw [ixA,ixA,zge,show decide (i2<=j+1)=true from decide_eq_true c,Bool.true_and];show (if ltS d[a]! d[j+1]! =true then _ else _)=_
   cases ltS d[a]! d[j+1]! with
   | true=>
    rw [if_pos rfl,if_pos rfl]
    (repeat (rw [zac (by first | omega | (unfold fits;omega) | (simp only [List.length_set,Array.length_toList];omega))]))
    rw [show ((j+1:Nat):Int) - 1=(j:Int) by omega]
    exact zqU a i2 d r ha hd hi j (by omega)
   | false=>rw [if_neg (by simp),if_neg (by simp)]
  ·rw [if_neg (by simp only [decide_eq_true_eq];omega),show decide (i2<=j+1)=false from decide_eq_false c,Bool.false_and,if_neg (by simp)]
theorem zvm (a j:Nat) (d:Array Rl) (r:Int->Int->List Rl->Option (Int×List Rl)) (ha:a < d.size) (hj:j < d.size) (hd:d.size<=1000000000):∀ (n i:Nat),j+1 - i=n->
  zaD a j d.toList r i=zaB a j d.toList r (Go.Sort.scanUp (fun x => !ltS d[a]! x) d j i:Nat):=by
 intro n
 induction n with
 | zero=>
  intro i hn;rw [zdn];unfold zav;unfold Go.Sort.scanUp;rw [if_neg (by simp only [decide_eq_true_eq];omega),show decide (i<=j)=false from decide_eq_false (by omega),Bool.false_and,if_neg (by simp)]
 | succ n ih=>
  intro i hn;have hl:=d.length_toList;rw [zdn];unfold zav;unfold Go.Sort.scanUp;rw [if_pos (by simp only [decide_eq_true_eq];omega),show decide (i<=j)=true from decide_eq_true (by omega),Bool.true_and]
  (repeat (rw [zac (by first | omega | (unfold fits;omega) | (simp only [List.length_set,Array.length_toList];omega))]))
  rw [ixA,ixA,zge];show (if (!ltS d[a]! d[i]!)=true then _ else _)=_
  cases ltS d[a]! d[i]! with
  | true=>rw [if_neg (by simp),if_neg (by simp)]
  | false=>
   rw [if_pos (by simp),if_pos (by simp)]
   (repeat (rw [zac (by first | omega | (unfold fits;omega) | (simp only [List.length_set,Array.length_toList];omega))]))
   exact ih (i+1) (by omega)
theorem ztY (a:Nat):∀ (n i j:Nat) (d:Array Rl),j+1 - i<=n->a < i->j < d.size->a < d.size->d.size<=1000000000->
  zbv a i j d.toList=some (((Go.Sort.partEqLoop ltS a i j d).1:Int),(Go.Sort.partEqLoop ltS a i j d).2.toList):=by
 intro n
 induction n using Nat.strongRecOn with
 | ind n ih=>
  intro i j d hn hi hj ha hd;have hl:=d.length_toList;rw [zfP];unfold zaG;have g1:=Go.Sort.scanUp_ge (fun x => !ltS d[a]! x) d j i
  have u1:=Go.Sort.scanUp_spec (fun x => !ltS d[a]! x) d j _ i rfl
  rw [zvm a j d _ ha hj hd _ i rfl,Go.Sort.partEqLoop_eq];unfold zaB;generalize Go.Sort.scanUp (fun x => !ltS d[a]! x) d j i=i2 at *
  have g2:=Go.Sort.scanDown_le (fun x=>ltS d[a]! x) d i2 j
  rw [zqU a i2 d _ ha hd (by omega) j hj]
  unfold zaC;generalize Go.Sort.scanDown (fun x=>ltS d[a]! x) d i2 j=j2 at *
  by_cases c:i2 > j2
  ·rw [if_pos (by simp only [decide_eq_true_eq];omega),if_pos c]
  ·rw [if_neg (by simp only [decide_eq_true_eq];omega),if_neg c]
   (repeat (rw [zac (by first | omega | (unfold fits;omega) | (simp only [List.length_set,Array.length_toList];omega))]))
   rw [ixA,ixA,Int.toNat_natCast,Int.toNat_natCast,swpA,show (j2:Int) - 1=((j2 - 1:Nat):Int) by omega]
   exact ih (j2 - 1+1 - (i2+1)) (by omega) (i2+1) (j2 - 1) _ (Nat.le_refl _) (by omega) (by rw [swpZ];omega) (by rw [swpZ];exact ha) (by rw [swpZ];exact hd)
theorem zrS (a b pivot:Nat) (d:Array Rl) (h1:a<=pivot) (h2:pivot < b) (hb:b<=d.size) (hd:d.size<=1000000000):zbQ a b pivot d.toList=some (((Go.Sort.partitionEqual ltS d a b pivot).1:Int),(Go.Sort.partitionEqual ltS d a b pivot).2.toList):=by
 have hl:=d.length_toList;unfold zbQ Go.Sort.partitionEqual
 (repeat (rw [zac (by first | omega | (unfold fits;omega) | (simp only [List.length_set,Array.length_toList];omega))]))
 rw [ixA,ixA,Int.toNat_natCast,Int.toNat_natCast,swpA,show (b:Int) - 1=((b - 1:Nat):Int) by omega]
 exact ztY a _ (a+1) (b - 1) _ (Nat.le_refl _) (by omega) (by rw [swpZ];omega) (by rw [swpZ];omega) (by rw [swpZ];exact hd)
theorem zqQ (a i2:Nat) (d:Array Rl) (r:Int->Int->List Rl->Option (Int×Bool×List Rl)) (ha:a < d.size) (hd:d.size<=1000000000) (hi:0 < i2):∀ j:Nat,j < d.size->
  zaY a d.toList r i2 j=zaW a d.toList r i2 (Go.Sort.scanDown (fun x => !ltS x d[a]!) d i2 j:Nat)
 | 0,hj=>by
  rw [zem];unfold zaM;rw [if_neg (by simp only [decide_eq_true_eq];omega)];rfl
 | j+1,hj=>by
  have hl:=d.length_toList;rw [zem];unfold zaM;unfold Go.Sort.scanDown;by_cases c:i2<=j+1
  ·rw [if_pos (by simp only [decide_eq_true_eq];omega)]
   (repeat (rw [zac (by first | omega | (unfold fits;omega) | (simp only [List.length_set,Array.length_toList];omega))]))
   rw [ixA,ixA,zge,show decide (i2<=j+1)=true from decide_eq_true c,Bool.true_and];show (if (!ltS d[j+1]! d[a]!)=true then _ else _)=_
   cases ltS d[j+1]! d[a]! with
   | false=>
    rw [if_pos (by simp),if_pos (by simp)]
    (repeat (rw [zac (by first | omega | (unfold fits;omega) | (simp only [List.length_set,Array.length_toList];omega))]))
    rw [show ((j+1:Nat):Int) - 1=(j:Int) by omega]
    exact zqQ a i2 d r ha hd hi j (by omega)
   | true=>rw [if_neg (by simp),if_neg (by simp)]
  ·rw [if_neg (by simp only [decide_eq_true_eq];omega),show decide (i2<=j+1)=false from decide_eq_false c,Bool.false_and,if_neg (by simp)]
theorem zvk (a j:Nat) (d:Array Rl) (r:Int->Int->List Rl->Option (Int×Bool×List Rl)) (ha:a < d.size) (hj:j < d.size) (hd:d.size<=1000000000):∀ (n i:Nat),j+1 - i=n->
  zaX a j d.toList r i=zaV a j d.toList r (Go.Sort.scanUp (fun x=>ltS x d[a]!) d j i:Nat):=by
 intro n
 induction n with
 | zero=>
  intro i hn;rw [zek];unfold zaL;unfold Go.Sort.scanUp;rw [if_neg (by simp only [decide_eq_true_eq];omega),show decide (i<=j)=false from decide_eq_false (by omega),Bool.false_and,if_neg (by simp)]
 | succ n ih=>
  intro i hn;have hl:=d.length_toList;rw [zek];unfold zaL;unfold Go.Sort.scanUp;rw [if_pos (by simp only [decide_eq_true_eq];omega),show decide (i<=j)=true from decide_eq_true (by omega),Bool.true_and]
  (repeat (rw [zac (by first | omega | (unfold fits;omega) | (simp only [List.length_set,Array.length_toList];omega))]))
  rw [ixA,ixA,zge];show (if ltS d[i]! d[a]! =true then _ else _)=_
  cases ltS d[i]! d[a]! with
  | false=>rw [if_neg (by simp),if_neg (by simp)]
  | true=>
   rw [if_pos (by simp),if_pos (by simp)]
   (repeat (rw [zac (by first | omega | (unfold fits;omega) | (simp only [List.length_set,Array.length_toList];omega))]))
   exact ih (i+1) (by omega)
theorem ztV (a:Nat):∀ (n i j:Nat) (d:Array Rl),j+1 - i<=n->a < i->j < d.size->a < d.size->d.size<=1000000000->
  zbP a i j d.toList=some (((Go.Sort.partLoop ltS a i j d).1:Int),false,(Go.Sort.swp (Go.Sort.partLoop ltS a i j d).2 (Go.Sort.partLoop ltS a i j d).1 a).toList):=by
 intro n
 induction n using Nat.strongRecOn with
 | ind n ih=>
  intro i j d hn hi hj ha hd;have hl:=d.length_toList;rw [zgM];unfold za3;have g1:=Go.Sort.scanUp_ge (fun x=>ltS x d[a]!) d j i
  rw [zvk a j d _ ha hj hd _ i rfl,Go.Sort.partLoop_eq];unfold zaV;generalize Go.Sort.scanUp (fun x=>ltS x d[a]!) d j i=i2 at *
  have g2:=Go.Sort.scanDown_le (fun x => !ltS x d[a]!) d i2 j
  rw [zqQ a i2 d _ ha hd (by omega) j hj]
  unfold zaW;generalize Go.Sort.scanDown (fun x => !ltS x d[a]!) d i2 j=j2 at *
  by_cases c:i2 > j2
  ·rw [if_pos (by simp only [decide_eq_true_eq];omega),if_pos c]
   (repeat (rw [zac (by first | omega | (unfold fits;omega) | (simp only [List.length_set,Array.length_toList];omega))]))
   rw [ixA,ixA,Int.toNat_natCast,Int.toNat_natCast,swpA]
  ·rw [if_neg (by simp only [decide_eq_true_eq];omega),if_neg c]
   (repeat (rw [zac (by first | omega | (unfold fits;omega) | (simp only [List.length_set,Array.length_toList];omega))]))
   rw [ixA,ixA,Int.toNat_natCast,Int.toNat_natCast,swpA,show (j2:Int) - 1=((j2 - 1:Nat):Int) by omega]
   exact ih (j2 - 1+1 - (i2+1)) (by omega) (i2+1) (j2 - 1) _ (Nat.le_refl _) (by omega) (by rw [swpZ];omega) (by rw [swpZ];exact ha) (by rw [swpZ];exact hd)
theorem zsR (a pivot i1:Nat) (d:Array Rl) (ha:a < d.size) (hp:pivot < d.size) (hd:d.size<=1000000000) (hi:0 < i1):∀ j:Nat,j < d.size->
  zci a pivot d.toList i1 j=zcg a pivot d.toList i1 (Go.Sort.scanDown (fun x => !ltS x (Go.Sort.swp d a pivot)[a]!) (Go.Sort.swp d a pivot) i1 j:Nat)
 | 0,hj=>by
  rw [zeG];unfold zaQ;rw [if_neg (by simp only [decide_eq_true_eq];omega)];rfl
 | j+1,hj=>by
  have hl:=d.length_toList;have hz:=swpZ d a pivot;have hl2:=(Go.Sort.swp d a pivot).length_toList;rw [zeG];unfold zaQ;unfold Go.Sort.scanDown;rw [ixA d pivot,ixA d a,Int.toNat_natCast a,Int.toNat_natCast pivot,swpA];by_cases c:i1<=j+1
  ·rw [if_pos (by simp only [decide_eq_true_eq];omega)]
   (repeat (rw [zac (by first | omega | (unfold fits;omega) | (simp only [List.length_set,Array.length_toList];omega))]))
   rw [ixA,ixA,zge,show decide (i1<=j+1)=true from decide_eq_true c,Bool.true_and];show (if (!ltS (Go.Sort.swp d a pivot)[j+1]! (Go.Sort.swp d a pivot)[a]!)=true then _ else _)=_
   cases ltS (Go.Sort.swp d a pivot)[j+1]! (Go.Sort.swp d a pivot)[a]! with
   | false=>
    rw [if_pos (by simp),if_pos (by simp)]
    (repeat (rw [zac (by first | omega | (unfold fits;omega) | (simp only [List.length_set,Array.length_toList];omega))]))
    rw [show ((j+1:Nat):Int) - 1=(j:Int) by omega]
    exact zsR a pivot i1 d ha hp hd hi j (by omega)
   | true=>rw [if_neg (by simp),if_neg (by simp)]
  ·rw [if_neg (by simp only [decide_eq_true_eq];omega),show decide (i1<=j+1)=false from decide_eq_false c,Bool.false_and,if_neg (by simp)]
theorem zwJ (a b pivot:Nat) (d:Array Rl) (ha:a < d.size) (hp:pivot < d.size) (hb0:0 < b) (hb:b<=d.size) (hd:d.size<=1000000000):∀ (n i:Nat),b - 1+1 - i=n->
  zch a b pivot d.toList i=zcf a b pivot d.toList (Go.Sort.scanUp (fun x=>ltS x (Go.Sort.swp d a pivot)[a]!) (Go.Sort.swp d a pivot) (b - 1) i:Nat):=by
 intro n;have hl:=d.length_toList;have hz:=swpZ d a pivot;have hl2:=(Go.Sort.swp d a pivot).length_toList
 induction n with
 | zero=>
  intro i hn;rw [zeF];unfold zaP;unfold Go.Sort.scanUp
  (repeat (rw [zac (by first | omega | (unfold fits;omega) | (simp only [List.length_set,Array.length_toList];omega))]))
  rw [if_neg (by simp only [decide_eq_true_eq];omega),show decide (i<=b - 1)=false from decide_eq_false (by omega),Bool.false_and,if_neg (by simp)]
 | succ n ih=>
  intro i hn;rw [zeF];unfold zaP;unfold Go.Sort.scanUp
  (repeat (rw [zac (by first | omega | (unfold fits;omega) | (simp only [List.length_set,Array.length_toList];omega))]))
  rw [ixA d pivot,ixA d a,Int.toNat_natCast a,Int.toNat_natCast pivot,swpA];rw [if_pos (by simp only [decide_eq_true_eq];omega),show decide (i<=b - 1)=true from decide_eq_true (by omega),Bool.true_and]
  (repeat (rw [zac (by first | omega | (unfold fits;omega) | (simp only [List.length_set,Array.length_toList];omega))]))
  rw [ixA,ixA,zge];show (if ltS (Go.Sort.swp d a pivot)[i]! (Go.Sort.swp d a pivot)[a]! =true then _ else _)=_
  cases ltS (Go.Sort.swp d a pivot)[i]! (Go.Sort.swp d a pivot)[a]! with
  | false=>rw [if_neg (by simp),if_neg (by simp)]
  | true=>
   rw [if_pos (by simp),if_pos (by simp)]
   (repeat (rw [zac (by first | omega | (unfold fits;omega) | (simp only [List.length_set,Array.length_toList];omega))]))
   exact ih (i+1) (by omega)
theorem ztW (a b pivot:Nat) (d:Array Rl) (h1:a<=pivot) (h2:pivot < b) (hb:b<=d.size) (hd:d.size<=1000000000):zcT a b pivot d.toList=some (((Go.Sort.partition ltS d a b pivot).1:Int),(Go.Sort.partition ltS d a b pivot).2.1,(Go.Sort.partition ltS d a b pivot).2.2.toList):=by
 have hl:=d.length_toList;have hz:=swpZ d a pivot;have hl2:=(Go.Sort.swp d a pivot).length_toList;unfold zcT Go.Sort.partition;dsimp only
 (repeat (rw [zac (by first | omega | (unfold fits;omega) | (simp only [List.length_set,Array.length_toList];omega))]))
 have g1:=Go.Sort.scanUp_ge (fun x=>ltS x (Go.Sort.swp d a pivot)[a]!) (Go.Sort.swp d a pivot) (b - 1) (a+1)
 have e1:=zwJ a b pivot d (by omega) (by omega) (by omega) hb hd _ (a+1) rfl
 rw [show ((a+1:Nat):Int)=(a:Int)+1 by omega] at e1
 rw [e1];unfold zcf;generalize Go.Sort.scanUp (fun x=>ltS x (Go.Sort.swp d a pivot)[a]!) (Go.Sort.swp d a pivot) (b - 1) (a+1)=i1 at *
 have g2:=Go.Sort.scanDown_le (fun x => !ltS x (Go.Sort.swp d a pivot)[a]!) (Go.Sort.swp d a pivot) i1 (b - 1)
 rw [show (b:Int) - 1=((b - 1:Nat):Int) by omega]
 (repeat (rw [zac (by first | omega | (unfold fits;omega) | (simp only [List.length_set,Array.length_toList];omega))]))
 rw [zsR a pivot i1 d (by omega) (by omega) hd (by omega) (b - 1) (by omega)]
 unfold zcg;generalize Go.Sort.scanDown (fun x => !ltS x (Go.Sort.swp d a pivot)[a]!) (Go.Sort.swp d a pivot) i1 (b - 1)=j1 at *
 rw [ixA d pivot,ixA d a,Int.toNat_natCast a,Int.toNat_natCast pivot,swpA];by_cases c:i1 > j1
 ·rw [if_pos (by simp only [decide_eq_true_eq];omega),if_pos c]
  (repeat (rw [zac (by first | omega | (unfold fits;omega) | (simp only [List.length_set,Array.length_toList];omega))]))
  rw [ixA,ixA,Int.toNat_natCast,swpA]
 ·rw [if_neg (by simp only [decide_eq_true_eq];omega),if_neg c]
  (repeat (rw [zac (by first | omega | (unfold fits;omega) | (simp only [List.length_set,Array.length_toList];omega))]))
  rw [ixA,ixA,Int.toNat_natCast,Int.toNat_natCast,swpA,show (j1:Int) - 1=((j1 - 1:Nat):Int) by omega]
  exact ztV a _ (i1+1) (j1 - 1) _ (Nat.le_refl _) (by omega) (by rw [swpZ];omega) (by rw [swpZ];omega) (by rw [swpZ];omega)
theorem zuZ (a b:Nat) (M:Int) (h8:a+8<=b) (hM:0 < M/\M<=2 * ((b:Int) - a)):∀ (n idx:Nat) (rnd:Int) (d:Array Rl),a+(b - a) / 4 * 2+2 - idx=n->a<=idx->b<=d.size->d.size<=1000000000->
  ∃ d',zbe a b M idx d.toList rnd=some d'.toList/\Go.Sort.PermIn a b d d':=by
 intro n;have e:Int.tdiv ((b:Int) - (a:Int)) 4=(((b - a) / 4:Nat):Int):=by
  rw [show (b:Int) - (a:Int)=((b - a:Nat):Int) by omega,show (4:Int)=((4:Nat):Int) from rfl,<- Int.ofNat_tdiv]
 have h4:=Nat.div_mul_le_self (b - a) 4
 induction n with
 | zero=>
  intro idx rnd d hn hi hb hd;refine ⟨d,?_,Go.Sort.permIn_refl d a b⟩
  rw [zdv];unfold zax;rw [e]
  (repeat (rw [zac (by first | omega | (unfold fits;omega) | (simp only [List.length_set,Array.length_toList];omega))]))
  rw [if_neg (by simp only [decide_eq_true_eq];omega)]
 | succ n ih=>
  intro idx rnd d hn hi hb hd;have hl:=d.length_toList;rw [zdv];unfold zax;rw [e]
  (repeat (rw [zac (by first | omega | (unfold fits;omega) | (simp only [List.length_set,Array.length_toList];omega))]))
  rw [if_pos (by simp only [decide_eq_true_eq];omega)]
  unfold zfn;rw [zac (by omega),zac (by omega),zac (by omega)]
  simp only [Option.bind_some];generalize ixor .u64 _ _=rn;rw [zqe (x:=M - 1) (by omega) (by omega)]
  have hia:=iandU (x:=rn) (y:=M - 1) (by omega) (by omega)
  generalize iand .u64 rn (M - 1)=o at *
  rw [zw2 (x:=o) (by omega) (by omega)]
  have J9:∀ t:Nat,t < b - a->∃ d',zaI a idx d.toList (zbe a b M) rn t=some d'.toList/\Go.Sort.PermIn a b d d':=fun t ht=>by
   unfold zaI;rw [show (a:Int)+(t:Int)=((a+t:Nat):Int) by omega]
   (repeat (rw [zac (by first | omega | (unfold fits;omega) | (simp only [List.length_set,Array.length_toList];omega))]))
   rw [ixA,ixA,Int.toNat_natCast,Int.toNat_natCast,swpA,show (idx:Int)+1=((idx+1:Nat):Int) by omega]
   obtain ⟨d',e',p'⟩:=ih (idx+1) rn (Go.Sort.swp d idx (a+t)) (by omega) (by omega) (by rw [swpZ];exact hb) (by rw [swpZ];exact hd)
   exact ⟨d',e',Go.Sort.permIn_trans d _ d' a b (Go.Sort.swp_permIn d a b idx (a+t) hi (by omega) (by omega) (by omega) hb) p'⟩
  by_cases c:(b:Int) - (a:Int)<=o
  ·rw [if_pos (decide_eq_true c),zac (by unfold fits;omega),show o - ((b:Int) - (a:Int))=((o - ((b:Int) - (a:Int))).toNat:Int) by omega]
   exact J9 _ (by omega)
  ·rw [if_neg (by simpa using c),show o=(o.toNat:Int) by omega]
   exact J9 _ (by omega)
theorem zsh (a b:Nat) (d:Array Rl) (hab:a<=b) (hb:b<=d.size) (hd:d.size<=1000000000):∃ d',zb0 a b d.toList=some d'.toList/\Go.Sort.PermIn a b d d':=by
 unfold zb0
 (repeat (rw [zac (by first | omega | (unfold fits;omega) | (simp only [List.length_set,Array.length_toList];omega))]))
 by_cases c:8<=b - a
 ·rw [if_pos (by simp only [decide_eq_true_eq];omega)]
  obtain ⟨M,e,h⟩:=zyG (n:=(b:Int) - (a:Int)) (by omega) (by omega)
  rw [e];have e4:Int.tdiv ((b:Int) - (a:Int)) 4=(((b - a) / 4:Nat):Int):=by
   rw [show (b:Int) - (a:Int)=((b - a:Nat):Int) by omega,show (4:Int)=((4:Nat):Int) from rfl,<- Int.ofNat_tdiv]
  show ∃ d',G _ _=_/\_;rw [e4];have h4:=Nat.div_mul_le_self (b - a) 4
  (repeat (rw [zac (by first | omega | (unfold fits;omega) | (simp only [List.length_set,Array.length_toList];omega))]))
  rw [show (a:Int)+(((b - a) / 4:Nat):Int) * 2 - 1=((a+(b - a) / 4 * 2 - 1:Nat):Int) by omega]
  exact zuZ a b M (by omega) h _ _ _ d rfl (by omega) hb hd
 ·rw [if_neg (by simp only [decide_eq_true_eq];omega)]
  exact ⟨d,rfl,Go.Sort.permIn_refl d a b⟩
def zgV (n:Nat):Prop:=∀ (a b lim:Nat) (wb wp:Bool) (d:Array Rl),b - a<=n->a<=b->b<=d.size->d.size<=1000000000->lim<=64->Go.Sort.Below ltS a b d->
 ∃ d',zah zag a b lim wb wp d.toList=some d'.toList/\Go.Sort.PermIn a b d d'/\Go.Sort.SortedIn ltS a b d'
theorem zjA (a b lim:Nat) (l:List Rl):zag a b lim l=zah zag a b lim true true l:=by
 rw [zjc];unfold zbA;rfl
theorem zqL (hS:Go.Sort.SWO ltS) {n:Nat} (ih:∀ m,m < n->zgV m) (a b lim pivot:Nat) (wb wp:Bool) (d:Array Rl) (hn:b - a=n) (hab:a < b) (hb:b<=d.size) (hd:d.size<=1000000000) (hlim:lim<=64) (hB:Go.Sort.Below ltS a b d) (p0:a<=pivot) (p1:pivot < b) (t:Bool) (ht:t=true->0 < a/\ltS d[a - 1]! d[pivot]! =false):
  ∃ d',za6 zag a b wb wp (zah zag) lim pivot d.toList t=some d'.toList/\Go.Sort.PermIn a b d d'/\Go.Sort.SortedIn ltS a b d':=by
 unfold za6
 cases t with
 | true=>
  obtain ⟨ha,hlt⟩:=ht rfl;have hle:∀ i,a<=i->i < b->ltS d[i]! d[pivot]! =false:=fun i i0 i1=>hS.ntrans _ _ _ ((hB.resolve_left (by omega)) i i0 i1) hlt
  obtain ⟨q1,q2,q3,q4,q5⟩:=Go.Sort.partitionEqual_holds ltS hS d a b pivot p0 p1 hb hle;rw [if_pos rfl,zrS a b pivot d p0 p1 hb hd];simp only [Option.bind_some];have hall:=Go.Sort.permIn_all d (Go.Sort.partitionEqual ltS d a b pivot).2 a b (fun x=>ltS x d[pivot]! =false) hb q3 hle
  generalize Go.Sort.partitionEqual ltS d a b pivot=r at *
  obtain ⟨mid,d4⟩:=r;dsimp only at q1 q2 q3 q4 q5 hall ⊢;have hz:=q3.1;obtain ⟨R,e,r1,r2⟩:=ih (b - mid) (by omega) mid b lim wb wp d4 (Nat.le_refl _) q2 (by omega) (by omega) hlim (.inr fun i i0 i1=>by
   cases hc:ltS d4[i]! d4[mid - 1]! with
   | false=>rfl
   | true=>have:=hS.trans _ _ _ (q5 i i0 i1) hc;rw [q4 (mid - 1) (by omega) (by omega)] at this;cases this)
  have hm:=Go.Sort.permIn_mono d4 R mid b a b (by omega) (Nat.le_refl _) (by omega) r1
  refine ⟨R,e,Go.Sort.permIn_trans d d4 R a b q3 hm,?_⟩
  have hout:∀ i,i < mid->R[i]! =d4[i]! :=fun i h=>r1.2.1 i (.inl h)
  have hin:=Go.Sort.permIn_all d4 R mid b (fun x=>ltS d[pivot]! x=true) (by omega) r1 q5
  exact Go.Sort.sorted_glue_eq hS d[pivot]! r2 (fun i i0 i1=>by rw [hout i i1];exact q4 i i0 i1) (fun i i0 i1=>by rw [hout i i1];exact hall i i0 (by omega)) hin
 | false=>
  obtain ⟨q1,q2,q3,q4,q5⟩:=Go.Sort.partition_holds ltS hS d a b pivot p0 p1 hb;rw [if_neg (by simp),ztW a b pivot d p0 p1 hb hd]
  simp only [Option.bind_some];have hB4:=hB.perm hb q3;generalize Go.Sort.partition ltS d a b pivot=r at *
  obtain ⟨mid,al,d4⟩:=r;dsimp only at q1 q2 q3 q4 q5 hB4 ⊢;have hz:=q3.1;have e8:Int.tdiv ((b:Int) - (a:Int)) 8=(((b - a) / 8:Nat):Int):=by
   rw [show (b:Int) - (a:Int)=((b - a:Nat):Int) by omega,show (8:Int)=((8:Nat):Int) from rfl,<- Int.ofNat_tdiv]
  have h8:=Nat.div_mul_le_self (b - a) 8;rw [e8]
  (repeat (rw [zac (by first | omega | (unfold fits;omega) | (simp only [List.length_set,Array.length_toList];omega))]))
  have e1:(mid:Int)+1=((mid+1:Nat):Int):=by omega
  rw [e1];have left:∀ (d5:Array Rl) (wb wp:Bool),d5.size=d.size->(∀ i,a<=i->i < mid->d5[i]! =d4[i]!)->(∀ i,i < a->d5[i]! =d4[i]!)->∃ R,zah zag a mid lim wb wp d5.toList=some R.toList/\Go.Sort.PermIn a mid d5 R/\Go.Sort.SortedIn ltS a mid R:=fun d5 wb wp h1 h2 h3=>
   ih (mid - a) (by omega) a mid lim wb wp d5 (Nat.le_refl _) q1 (by omega) (by omega) hlim (by
    rcases hB4 with h | h
    ·exact .inl h
    ·rcases Nat.eq_zero_or_pos a with h0 | h0
     ·exact .inl h0
     ·exact .inr fun i i0 i1=>by rw [h2 i i0 i1,h3 (a - 1) (by omega)];exact h i i0 (by omega))
  have right:∀ (d5:Array Rl) (wb wp:Bool),d5.size=d.size->(∀ i,mid<=i->i < b->d5[i]! =d4[i]!)->∃ R,zah zag (mid+1:Nat) b lim wb wp d5.toList=some R.toList/\Go.Sort.PermIn (mid+1) b d5 R/\Go.Sort.SortedIn ltS (mid+1) b R:=fun d5 wb wp h1 h2=>
   ih (b - (mid+1)) (by omega) (mid+1) b lim wb wp d5 (Nat.le_refl _) (by omega) (by omega) (by omega) hlim (.inr fun i i0 i1=>by
    rw [Nat.add_sub_cancel,h2 i (by omega) i1,h2 mid (Nat.le_refl _) q2]
    exact q5 i (by omega) i1)
  by_cases c:mid - a < b - mid
  ·rw [if_pos (by simp only [decide_eq_true_eq];omega)]
   obtain ⟨R1,s1,s2,s3⟩:=left d4 true true hz (fun _ _ _=>rfl) (fun _ _=>rfl)
   rw [zjA,s1];simp only [Option.bind_some]
   (repeat (rw [zac (by first | omega | (unfold fits;omega) | (simp only [List.length_set,Array.length_toList];omega))]))
   obtain ⟨R2,t1,t2,t3⟩:=right R1 (decide ((((b - a) / 8:Nat):Int)<=(mid:Int) - (a:Int))) al (by rw [s2.1];exact hz) (fun i i0 i1=>s2.2.1 i (.inr i0))
   refine ⟨R2,t1,?_,?_⟩
   ·exact Go.Sort.permIn_trans d d4 R2 a b q3 (Go.Sort.permIn_trans d4 R1 R2 a b (Go.Sort.permIn_mono d4 R1 a mid a b (Nat.le_refl _) (by omega) (by omega) s2) (Go.Sort.permIn_mono R1 R2 (mid+1) b a b (by omega) (Nat.le_refl _) (by rw [s2.1];omega) t2))
   ·have hl:∀ i,i < mid+1->R2[i]! =R1[i]! :=fun i h=>t2.2.1 i (.inl h)
    have hmid:R2[mid]! =d4[mid]! :=(hl mid (by omega)).trans (s2.2.1 mid (.inr (Nat.le_refl _)))
    have hlo:=Go.Sort.permIn_all d4 R1 a mid (fun x=>ltS x d4[mid]! =true) (by omega) s2 q4
    have hhi:=Go.Sort.permIn_all R1 R2 (mid+1) b (fun x=>ltS x d4[mid]! =false) (by rw [s2.1];omega) t2 (fun i i0 i1=>by rw [s2.2.1 i (.inr (by omega))];exact q5 i (by omega) i1)
    exact Go.Sort.sorted_glue hS (s3.congr fun i i0 i1=>hl i (by omega)) t3 (fun i i0 i1=>by rw [hl i (by omega),hmid];exact hlo i i0 i1) (fun i i0 i1=>by rw [hmid];exact hhi i (by omega) i1)
  ·rw [if_neg (by simp only [decide_eq_true_eq];omega)]
   obtain ⟨R1,s1,s2,s3⟩:=right d4 true true hz (fun _ _ _=>rfl)
   rw [zjA,s1];simp only [Option.bind_some]
   (repeat (rw [zac (by first | omega | (unfold fits;omega) | (simp only [List.length_set,Array.length_toList];omega))]))
   obtain ⟨R2,t1,t2,t3⟩:=left R1 (decide ((((b - a) / 8:Nat):Int)<=(b:Int) - (mid:Int))) al (by rw [s2.1];exact hz) (fun i i0 i1=>s2.2.1 i (.inl (by omega))) (fun i i0=>s2.2.1 i (.inl (by omega)))
   refine ⟨R2,t1,?_,?_⟩
   ·exact Go.Sort.permIn_trans d d4 R2 a b q3 (Go.Sort.permIn_trans d4 R1 R2 a b (Go.Sort.permIn_mono d4 R1 (mid+1) b a b (by omega) (Nat.le_refl _) (by omega) s2) (Go.Sort.permIn_mono R1 R2 a mid a b (Nat.le_refl _) (by omega) (by rw [s2.1];omega) t2))
   ·have hl:∀ i,mid<=i->R2[i]! =R1[i]! :=fun i h=>t2.2.1 i (.inr h)
    have hmid:R2[mid]! =d4[mid]! :=(hl mid (Nat.le_refl _)).trans (s2.2.1 mid (.inl (by omega)))
    have hlo:=Go.Sort.permIn_all R1 R2 a mid (fun x=>ltS x d4[mid]! =true) (by rw [s2.1];omega) t2 (fun i i0 i1=>by rw [s2.2.1 i (.inl (by omega))];exact q4 i i0 i1)
    have hhi:=Go.Sort.permIn_all d4 R1 (mid+1) b (fun x=>ltS x d4[mid]! =false) (by omega) s2 (fun i i0 i1=>q5 i (by omega) i1)
    exact Go.Sort.sorted_glue hS t3 (s3.congr fun i i0 i1=>hl i (by omega)) (fun i i0 i1=>by rw [hmid];exact hlo i i0 i1) (fun i i0 i1=>by rw [hl i (by omega),hmid];exact hhi i (by omega) i1)
theorem zqK (hS:Go.Sort.SWO ltS) {n:Nat} (ih:∀ m,m < n->zgV m) (a b lim pivot:Nat) (wb wp:Bool) (d:Array Rl) (hn:b - a=n) (hab:a < b) (hb:b<=d.size) (hd:d.size<=1000000000) (hlim:lim<=64) (hB:Go.Sort.Below ltS a b d) (p0:a<=pivot) (p1:pivot < b):
  ∃ d',za5 zag a b wb wp (zah zag) lim pivot d.toList=some d'.toList/\Go.Sort.PermIn a b d d'/\Go.Sort.SortedIn ltS a b d':=by
 have hl:=d.length_toList;unfold za5;by_cases c:0 < a
 ·rw [if_pos (by simp only [decide_eq_true_eq];omega),show (a:Int) - 1=((a - 1:Nat):Int) by omega]
  (repeat (rw [zac (by first | omega | (unfold fits;omega) | (simp only [List.length_set,Array.length_toList];omega))]))
  rw [ixA,ixA,zge];simp only [Option.bind_some];exact zqL hS ih a b lim pivot wb wp d hn hab hb hd hlim hB p0 p1 (!ltS d[a - 1]! d[pivot]!) (fun h=>⟨c,by simpa using h⟩)
 ·rw [if_neg (by simp only [decide_eq_true_eq];omega)]
  exact zqL hS ih a b lim pivot wb wp d hn hab hb hd hlim hB p0 p1 false (by simp)
theorem zqJ (hS:Go.Sort.SWO ltS) {n:Nat} (ih:∀ m,m < n->zgV m) (a b lim pivot:Nat) (wb wp:Bool) (hint:Int) (d:Array Rl) (hn:b - a=n) (hab:a < b) (hb:b<=d.size) (hd:d.size<=1000000000) (hlim:lim<=64) (hB:Go.Sort.Below ltS a b d) (p0:a<=pivot) (p1:pivot < b):
  ∃ d',za4 zag a b wb wp (zah zag) lim pivot hint d.toList=some d'.toList/\Go.Sort.PermIn a b d d'/\Go.Sort.SortedIn ltS a b d':=by
 have J15:∀ t:Bool,∃ d',zaR zag a b wb wp (zah zag) lim pivot d.toList t=some d'.toList/\Go.Sort.PermIn a b d d'/\Go.Sort.SortedIn ltS a b d':=fun t=>by
  unfold zaR
  cases t with
  | true=>
   obtain ⟨k1,k2⟩:=Go.Sort.partialInsertionSort_holds hS d a b hab hb hB;rw [if_pos rfl,zqo a b d hab hb hd];simp only [Option.bind_some];generalize Go.Sort.partialInsertionSort ltS d a b=r at *
   obtain ⟨d3,ok⟩:=r;dsimp only at k1 k2 ⊢
   cases ok with
   | true=>exact ⟨d3,rfl,k1,k2 rfl⟩
   | false=>
    rw [if_neg (by simp)]
    obtain ⟨d',e,q1,q2⟩:=zqK hS ih a b lim pivot wb wp d3 hn hab (by rw [k1.1];exact hb) (by rw [k1.1];exact hd) hlim (hB.perm hb k1) p0 p1
    exact ⟨d',e,Go.Sort.permIn_trans d d3 d' a b k1 q1,q2⟩
  | false=>
   rw [if_neg (by simp)]
   exact zqK hS ih a b lim pivot wb wp d hn hab hb hd hlim hB p0 p1
 unfold za4
 split
 ·split
  ·exact J15 _
  ·exact J15 _
 ·exact J15 _
theorem zvl (hS:Go.Sort.SWO ltS):∀ n,zgV n:=by
 intro n
 induction n using Nat.strongRecOn with
 | ind n ih=>
  intro a b lim wb wp d hn hab hb hd hlim hB;have hl:=d.length_toList;rw [zif];unfold zbg
  (repeat (rw [zac (by first | omega | (unfold fits;omega) | (simp only [List.length_set,Array.length_toList];omega))]))
  by_cases c1:b - a<=12
  ·rw [if_pos (by simp only [decide_eq_true_eq];omega),zvd a b d hab hb hd]
   obtain ⟨q1,q2⟩:=Go.Sort.insertionSort_holds hS d a b hab hb;exact ⟨_,rfl,q1,q2⟩
  ·rw [if_neg (by simp only [decide_eq_true_eq];omega)]
   by_cases c2:lim=0
   ·rw [if_pos (by simp [c2]),ztO a b d (by omega) hb hd]
    obtain ⟨q1,q2⟩:=Go.Sort.heapSort_holds hS d a b hab hb;exact ⟨_,rfl,q1,q2⟩
   ·rw [if_neg (by simp only [decide_eq_true_eq];omega)]
    have J9:∀ (lim:Nat) (d1:Array Rl),lim<=64->Go.Sort.PermIn a b d d1->∃ d',zbd zag a b wb wp (zah zag) lim d1.toList=some d'.toList/\Go.Sort.PermIn a b d d'/\Go.Sort.SortedIn ltS a b d':=fun lim d1 h1 h2=>by
     have hz:=h2.1;have hB1:=hB.perm hb h2;obtain ⟨c3,c4⟩:=Go.Sort.choosePivot_holds ltS d1 a b (by omega)
     unfold zbd;rw [zsS d1 a b (by omega) (by omega) (by omega)]
     simp only [Option.bind_some];generalize Go.Sort.choosePivot ltS d1 a b=r at *
     obtain ⟨pv,hi⟩:=r;dsimp only at c3 c4 ⊢;have ih':∀ m,m < b - a->zgV m:=fun m hm=>ih m (by omega)
     by_cases c5:zhS hi=2
     ·rw [if_pos (by simp [c5]),zvq a b d1 (by omega) (by omega) (by omega)]
      simp only [Option.bind_some];have hr:=Go.Sort.reverseRange_holds d1 a b hab (by omega)
      have hz2:=hr.1
      (repeat (rw [zac (by first | omega | (unfold fits;omega) | (simp only [List.length_set,Array.length_toList];omega))]))
      rw [show (b:Int) - 1 - ((pv:Int) - (a:Int))=(((b - 1) - (pv - a):Nat):Int) by omega]
      obtain ⟨d',e,q1,q2⟩:=zqJ hS ih' a b lim ((b - 1) - (pv - a)) wb wp 1 _ rfl (by omega) (by omega) (by omega) h1 (hB1.perm (by omega) hr) (by omega) (by omega)
      exact ⟨d',e,Go.Sort.permIn_trans d d1 d' a b h2 (Go.Sort.permIn_trans d1 _ d' a b hr q1),q2⟩
     ·rw [if_neg (by simpa using c5)]
      obtain ⟨d',e,q1,q2⟩:=zqJ hS ih' a b lim pv wb wp (zhS hi) d1 rfl (by omega) (by omega) (by omega) h1 hB1 c3 c4
      exact ⟨d',e,Go.Sort.permIn_trans d d1 d' a b h2 q1,q2⟩
    cases wb with
    | true=>
     rw [if_neg (by simp)]
     exact J9 lim d hlim (Go.Sort.permIn_refl d a b)
    | false=>
     rw [if_pos (by simp)]
     obtain ⟨d1,e,q⟩:=zsh a b d hab hb hd;rw [e];simp only [Option.bind_some]
     (repeat (rw [zac (by first | omega | (unfold fits;omega) | (simp only [List.length_set,Array.length_toList];omega))]))
     rw [show (lim:Int) - 1=((lim - 1:Nat):Int) by omega]
     exact J9 (lim - 1) d1 (by omega) q
theorem zrT (hS:Go.Sort.SWO ltS) (l:List Rl) (hl:l.length<=1000000000) {v:Int} (hv:BL l.length v):∃ l',zag 0 l.length v l=some l'/\l'.Perm l/\l'.Pairwise (fun x y=>ltS y x=false):=by
 obtain ⟨v0,v1,_⟩:=hv;obtain ⟨d',e,q1,q2⟩:=zvl hS _ 0 l.length v.toNat true true l.toArray (Nat.le_refl _) (Nat.zero_le _) (by simp) (by simpa using hl) (by omega) (.inl rfl)
 have hz:=q1.1;refine ⟨d'.toList,?_,?_,?_⟩
 ·have:=zjA 0 l.length v.toNat l;rw [show ((v.toNat:Nat):Int)=v by omega] at this
  rw [show ((0:Nat):Int)=0 from rfl] at this;rw [this];rw [show ((v.toNat:Nat):Int)=v by omega] at e
  exact e
 ·have:=q1.2.2;rw [show d'.extract 0 l.length=d' by rw [<- show d'.size=l.length by simpa using hz];simp,show l.toArray.extract 0 l.length=l.toArray by simp] at this
  simpa using this
 ·rw [List.pairwise_iff_getElem];intro i j hi hj hij;have:=q2 i j (Nat.zero_le _) hij (by simpa [hz] using hj)
  simp only [Array.length_toList] at hi hj;rw [getElem!_pos d' j hj,getElem!_pos d' i hi] at this;simpa using this
end
section
variable {a b:TA}
def Good (a:TA) (s:Int):Prop:=∃ q:Int,0<=q/\q < a.2.1/\ix a.2.2.2.2.1 q=1/\bitP s q
def Apt (a b:TA) (s:Int):Prop:=Good a (lo s) /\ ¬ Good b (hi s)
theorem zzp (W:Two a b) {s:Int} (h:PC s):∃ v,zgv s a b=some v/\(v=0\/v=1)/\(v=1↔Apt a b s):=by
 obtain ⟨g1,e1,i1⟩:=zsH W.oa.mks W.oa.st.2 (lo s);obtain ⟨g2,e2,i2⟩:=zsH W.ob.mks W.ob.st.2 (hi s);unfold zgv Apt Good;rw [ztM (.inr h),Option.bind_some,e1,Option.bind_some];rw [<- i1,<- i2]
 cases g1 with
 | false=>rw [if_neg (by simp)];exact ⟨0,rfl,.inl rfl,by simp⟩
 | true=>
  rw [if_pos rfl,ztL (.inr h),Option.bind_some,e2,Option.bind_some]
  cases g2 with
  | true=>rw [if_neg (by simp)];exact ⟨0,rfl,.inl rfl,by simp⟩
  | false=>rw [if_pos (by simp)];exact ⟨1,rfl,.inr rfl,by simp⟩
structure Made (a b:TA) (L:Int) (l:List Int) (rules:List Rl) (marks:List Int):Prop where
 n:1<=l.length/\l.length<=64
 cnt:rules.length<=8450
 set:∀ x∈l,PD a b L x
 r:∀ r∈rules,(0<=r.1/\r.1 < L)/\(r.2.1 = -1/\r.2.2.1 = -1\/0<=r.2.1/\r.2.1 < l.length/\0<=r.2.2.1/\r.2.2.1 < l.length)/\0<=r.2.2.2.1/\r.2.2.2.1 < l.length/\ix l r.2.2.2.1=V3 a b r.1 (zef l r.2.1) (zef l r.2.2.1)
 one:∀ r∈rules,∀ s∈rules,zjt r=zjt s->r=s
 all:∀ x:Key,D11 L l.length x->∃ r∈rules,zjt r=x
 inc:∀ k:Int,1<=k->k < rules.length->RLt (ix rules (k - 1)) (ix rules k)
 lm:marks.length=l.length
 mq:∀ i:Int,0<=i->i < l.length->(ix marks i=0\/ix marks i=1)/\(ix marks i=1↔Apt a b (ix l i))
theorem zsO {β:Type} {f:Rl->β}:∀ {l:List Rl},(l.map f).Nodup->∀ r∈l,∀ s∈l,f r=f s->r=s
 | [],_,r,hr,_,_,_=>by cases hr
 | x::l,h,r,hr,s,hs,e=>by
  rw [List.map_cons,List.nodup_cons] at h;rcases List.mem_cons.1 hr with e1 | hr<;>rcases List.mem_cons.1 hs with e2 | hs
  ·rw [e1,e2]
  ·exact absurd (by rw [<- e1,e];exact List.mem_map_of_mem hs) h.1
  ·exact absurd (by rw [<- e2,<- e];exact List.mem_map_of_mem hr) h.1
  ·exact zsO h.2 r hr s hs e
theorem zxN (W:Two a b) {L o1 o2 o3:Int} (hL:L<=2) {l c c1:List Int} {out:List Rl} (hp:0 < l.length) (h:SIb a b L (D11 L l.length) l c c1 out):∀ (n:Nat) (t:Int) (marks:List Int),(l.length - t).toNat=n->0<=t->t<=l.length->(marks.length:Int)=t->
  (∀ i:Int,0<=i->i < t->(ix marks i=0\/ix marks i=1)/\(ix marks i=1↔Apt a b (ix l i)))->
  ∃ rules marks',zdE l a b t o1 o2 o3 out marks=some (o1,(l.length:Int),rules,o3,marks',())/\Made a b L l rules marks':=by
 have hlen:=SIb.len h;have hD:∀ x:Key,D11 L l.length x->0<=x.1/\x.1 < L:=fun x hx=>by unfold D11 D6 at hx;omega
 have hfew:=SI.few h (by omega) (fun x hx=>by have:=hD x hx;omega)
 intro n
 induction n with
 | zero=>
  intro t marks hn t0 t1 hm hh;obtain rfl:t=l.length:=by omega
  obtain ⟨v,e,b⟩:=zsd (x:=(out.length:Int)) (by omega) (by omega)
  obtain ⟨l1,e1,h1,h2⟩:=zrT swoS out (by omega) b
  have hle:=h1.length_eq;have hone:∀ r∈l1,∀ s∈l1,zjt r=zjt s->r=s:=fun r hr s hs=>zsO h.kd r (h1.mem_iff.1 hr) s (h1.mem_iff.1 hs)
  have hnd:l1.Nodup:=h1.nodup_iff.2 (by have hk:=h.kd;unfold List.Nodup at hk ⊢;rw [List.pairwise_map] at hk;exact hk.imp fun hne e=>hne (by rw [e]))
  refine ⟨l1,marks,?_,⟨by omega,by omega,h.mem,fun r hr => ?_,hone,fun x hx => ?_,fun k k0 k1 => ?_,by omega,hh⟩⟩
  ·rw [zj9];unfold zdj;rw [if_neg (by simp)]
   unfold zib;rw [zqe (by omega) (by omega),e]
   show ((zag 0 _ v out).bind _).bind _=_;rw [e1];rfl
  ·have hr':=h1.mem_iff.1 hr;obtain ⟨g1,g2,g3,g4⟩:=h.r r hr';exact ⟨hD _ ((h.km _).1 (List.mem_map_of_mem (f:=zjt) hr')),g1,g2,g3,g4⟩
  ·obtain ⟨r,hr,er⟩:=List.mem_map.1 ((h.km x).2 hx);exact ⟨r,h1.mem_iff.2 hr,er⟩
  ·have e1:ix l1 (k - 1)=l1[(k - 1).toNat]'(by omega):=ztS (by omega) (by omega)
   have e2:ix l1 k=l1[k.toNat]'(by omega):=ztS (by omega) (by omega)
   have m1:=zhu (l:=l1) (i:=k - 1) (by omega) (by omega)
   have m2:=zhu (l:=l1) (i:=k) (by omega) (by omega)
   have p:=(List.pairwise_iff_getElem.1 h2) (k - 1).toNat k.toNat (by omega) (by omega) (by omega)
   have q:=(List.pairwise_iff_getElem.1 hnd) (k - 1).toNat k.toNat (by omega) (by omega) (by omega)
   rw [<- e1,<- e2] at p q;rw [zuH] at p;refine Classical.byContradiction fun hno=>q (hone _ m1 _ m2 ?_)
   unfold RLt at p hno;unfold zjt;have a1:(ix l1 (k - 1)).1=(ix l1 k).1:=by omega
   have a2:(ix l1 (k - 1)).2.1=(ix l1 k).2.1:=by omega
   have a3:(ix l1 (k - 1)).2.2.1=(ix l1 k).2.2.1:=by omega
   rw [a1,a2,a3]
 | succ n ih=>
  intro t marks hn t0 t1 hm hh;have a1:(l.length - (t+1)).toNat=n:=by omega
  have a2:0<=t+1/\t+1<=l.length:=by omega
  have t1':t < l.length:=by omega
  obtain ⟨v,ev,hv0,hv⟩:=zzp W (h.mem _ (zhu (l:=l) (i:=t) t0 t1')).1;obtain ⟨rules,marks',e,hM⟩:=ih (t+1) (marks++[v]) a1 a2.1 a2.2 (by rw [List.length_append,List.length_singleton];omega) (fun i i0 i1=>by
   by_cases ei:i=t
   ·subst ei;rw [show ix (marks++[v]) i=v by rw [<- hm,zgU]]
    exact ⟨hv0,hv⟩
   ·rw [zdH i0 (by omega)];exact hh i i0 (by omega))
  refine ⟨rules,marks',?_,hM⟩
  have fin:zev t (zdE l) a b o1 o2 o3 out (marks++[v])=some (o1,(l.length:Int),rules,o3,marks',()):=by
   unfold zev;rw [zac (by unfold fits;omega)];exact e
  rw [zj9];unfold zdj;rw [if_pos (decide_eq_true t1'),zac (by omega),zac (by omega),ev]
  simp only [Option.bind_some]
  repeat' first | exact fin | refine zbx ?_ ?_ | refine G_to (by unfold room;rw [List.length_singleton];omega) ?_
theorem zwW (W:Two a b) {L:Int} (hL:1<=L/\L<=2):∃ l rules marks,zkQ L a b a b=some (L,l.length,rules,0,marks,())/\Made a b L l rules marks:=by
 obtain ⟨l,c,c1,out,e,hp,h⟩:=zyY W hL (o1:=L) (o2:=0) (o3:=0) _ 0 [] [] [] [] rfl (by omega) (by omega) ⟨by simp,fun x hx=>(by cases hx),rfl,rfl,by simp,fun x=>⟨fun h=>(by cases h),fun h=>by unfold D6 at h;omega⟩,fun r hr=>(by cases hr)⟩ (fun h=>by omega)
 obtain ⟨rules,marks,e2,hM⟩:=zxN W hL.2 (o1:=L) (o2:=0) (o3:=0) hp h _ 0 [] rfl (by omega) (by omega) rfl (fun i i0 i1=>by omega)
 refine ⟨l,rules,marks,?_,hM⟩
 unfold zkQ;rw [e,e2]
theorem Made.ok {L:Int} (hL:1<=L/\L<=2) {l:List Int} {rules:List Rl} {marks:List Int} (h:Made a b L l rules marks):taE (L,(l.length:Int),rules,0,marks,())=0:=by
 have h1:=h.n;have h2:=h.cnt;have h3:=h.lm;unfold taE;rw [if_neg (by unfold TLet;dsimp only;omega),if_neg (by unfold zoE;dsimp only;omega),if_neg ?_,if_neg ?_,if_neg ?_]
 ·rintro (⟨i,i0,i1,i2⟩ | h0)
  ·exact i2 (h.inc i i0 i1)
  ·exact h0 rfl
 ·rintro ⟨x,hx,x0,x1⟩;obtain ⟨i,i0,i1,ei⟩:=(zmh (P:=fun y=>y=x)).1 ⟨x,hx,rfl⟩
  dsimp only at i1 ei;have:=(h.mq i i0 (by omega)).1
  omega
 ·rintro ⟨r,hr,hb⟩;obtain ⟨g1,g2,g3,g4,_⟩:=h.r r hr;unfold RBad at hb;dsimp only at hb;omega
end
section
variable {a:TA}
theorem Ok0.rule (ok:Ok0 a) {k:Int} (k0:0<=k) (k1:k < a.2.2.1.length):0<=(ix a.2.2.1 k).2.2.2.1/\(ix a.2.2.1 k).2.2.2.1 < a.2.1/\0<=(ix a.2.2.1 k).1/\(ix a.2.2.1 k).1 < a.1/\
  ((ix a.2.2.1 k).2.1 = -1/\(ix a.2.2.1 k).2.2.1 = -1\/0<=(ix a.2.2.1 k).2.1/\(ix a.2.2.1 k).2.1 < a.2.1/\0<=(ix a.2.2.1 k).2.2.1/\(ix a.2.2.1 k).2.2.1 < a.2.1):=by
 have:=ok.rb k k0 k1;unfold RBad at this;omega
inductive Der (a:TA):Int->Int->Prop
 | leaf (k:Int) (k0:0<=k) (k1:k < a.2.2.1.length) (h : ¬ 0<=(ix a.2.2.1 k).2.1):Der a 1 (ix a.2.2.1 k).2.2.2.1
 | node (k:Int) (k0:0<=k) (k1:k < a.2.2.1.length) (h:0<=(ix a.2.2.1 k).2.1) (m n:Int) (hm:Der a m (ix a.2.2.1 k).2.1) (hn:Der a n (ix a.2.2.1 k).2.2.1):Der a (1+(m+n)) (ix a.2.2.1 k).2.2.2.1
theorem Der.pos {m q:Int} (h:Der a m q):1<=m:=by
 induction h with
 | leaf=>omega
 | node=>omega
def val (s:List Int) (r:Rl):Int:=if 0<=r.2.1 then (if ix s r.2.1=0\/ix s r.2.2.1=0 then 0 else 1+(ix s r.2.1+ix s r.2.2.1)) else 1
def Upd (s:List Int) (r:Rl):Prop:=0 < val s r/\val s r<=60/\(ix s r.2.2.2.1=0\/val s r < ix s r.2.2.2.1)
instance (s:List Int) (r:Rl):Decidable (Upd s r):=by unfold Upd;infer_instance
structure GI (a:TA) (s b:List Int):Prop where
 ls:(s.length:Int)=a.2.1
 lb:(b.length:Int)=a.2.1
 rng:∀ q:Int,0<=q->q < a.2.1->0<=ix s q/\ix s q<=60
 by':∀ q:Int,0<=q->q < a.2.1->0 < ix s q->0<=ix b q/\ix b q < a.2.2.1.length/\(ix a.2.2.1 (ix b q)).2.2.2.1=q/\0 < val s (ix a.2.2.1 (ix b q))/\val s (ix a.2.2.1 (ix b q))<=ix s q
 der:∀ q:Int,0<=q->q < a.2.1->0 < ix s q->Der a (ix s q) q
theorem zzt (ok:Ok0 a) {s b:List Int} (g:GI a s b) {k:Int} (k0:0<=k) (k1:k < a.2.2.1.length):0<=val s (ix a.2.2.1 k)/\val s (ix a.2.2.1 k)<=121:=by
 have hr:=ok.rule k0 k1;unfold val
 split
 ·have h1:=g.rng (ix a.2.2.1 k).2.1 (by omega) (by omega)
  have h2:=g.rng (ix a.2.2.1 k).2.2.1 (by omega) (by omega)
  split<;>omega
 ·omega
theorem znN:∀ (l:List Nat) (i:Nat) (x:Nat),i < l.length->x < l.getD i 0->(l.set i x).sum < l.sum
 | [],i,x,h,_=>by simp at h
 | y::l,0,x,_,h=>by simp at h ⊢;omega
 | y::l,i+1,x,h,hx=>by
  have:=znN l i x (by simpa using h) (by simpa using hx)
  simp;omega
def pt (x:Int):Nat:=if x=0 then 61 else x.toNat
def pot (s:List Int):Nat:=(s.map pt).sum
theorem zyO {s:List Int} {q v:Int} (h0:0<=q) (h1:q < s.length) (h:pt v < pt (ix s q)):pot (s.set q.toNat v) < pot s:=by
 unfold pot;rw [List.map_set];refine znN _ _ _ (by simp;omega) ?_
 have:q.toNat < s.length:=by omega
 have e:(s.map pt).getD q.toNat 0=pt (ix s q):=by simp [ix,List.getD_eq_getElem?_getD,this]
 rw [e];exact h
theorem zuR (ok:Ok0 a) {s b:List Int} (g:GI a s b) {q v:Int} (q0:0<=q) (q1:q < a.2.1) (hv:0 < v) (hlt:ix s q=0\/v < ix s q) {k:Int} (k0:0<=k) (k1:k < a.2.2.1.length) (hp:0 < val s (ix a.2.2.1 k)):
  0 < val (s.set q.toNat v) (ix a.2.2.1 k)/\val (s.set q.toNat v) (ix a.2.2.1 k)<=val s (ix a.2.2.1 k):=by
 have hr:=ok.rule k0 k1;have hls:=g.ls;have key:∀ j:Int,0<=j->j < a.2.1->ix s j≠0->0 < ix (s.set q.toNat v) j/\ix (s.set q.toNat v) j<=ix s j:=by
  intro j j0 j1 hj;have:=g.rng j j0 j1;by_cases e:q=j
  ·subst e;rw [zda (by omega) (by omega)];omega
  ·rw [zeY (by omega) (by omega) e];omega
 unfold val at hp ⊢
 split at hp
 ·rename_i h;rw [if_pos h,if_pos h]
  split at hp
  ·omega
  ·rename_i h2;rw [if_neg h2];have k2:=key (ix a.2.2.1 k).2.1 (by omega) (by omega) (fun e=>h2 (.inl e))
   have k3:=key (ix a.2.2.1 k).2.2.1 (by omega) (by omega) (fun e=>h2 (.inr e))
   rw [if_neg (by omega)]
   omega
 ·rename_i h;rw [if_neg h,if_neg h];omega
theorem GI.upd (ok:Ok0 a) {s b:List Int} (g:GI a s b) {k:Int} (k0:0<=k) (k1:k < a.2.2.1.length) (hu:Upd s (ix a.2.2.1 k)):
  GI a (s.set (ix a.2.2.1 k).2.2.2.1.toNat (val s (ix a.2.2.1 k))) (b.set (ix a.2.2.1 k).2.2.2.1.toNat k):=by
 have hr:=ok.rule k0 k1;obtain ⟨h1,h2,h3⟩:=hu;have hls:=g.ls;have hlb:=g.lb;have hder:Der a (val s (ix a.2.2.1 k)) (ix a.2.2.1 k).2.2.2.1:=by
  unfold val at h1 ⊢
  split at h1
  ·rename_i h;rw [if_pos h]
   split at h1
   ·omega
   ·rename_i h4;rw [if_neg h4];have r1:=g.rng (ix a.2.2.1 k).2.1 (by omega) (by omega)
    have r2:=g.rng (ix a.2.2.1 k).2.2.1 (by omega) (by omega)
    exact .node k k0 k1 h _ _ (g.der _ (by omega) (by omega) (by omega)) (g.der _ (by omega) (by omega) (by omega))
  ·rename_i h;rw [if_neg h];exact .leaf k k0 k1 h
 have hne:∀ j:Int,(ix a.2.2.1 k).2.2.2.1≠j->0<=j->ix (s.set (ix a.2.2.1 k).2.2.2.1.toNat (val s (ix a.2.2.1 k))) j=ix s j:=fun j e j0=>zeY (by omega) (by omega) e
 have hsm:ix (s.set (ix a.2.2.1 k).2.2.2.1.toNat (val s (ix a.2.2.1 k))) (ix a.2.2.1 k).2.2.2.1=val s (ix a.2.2.1 k):=zda (by omega) (by omega)
 refine ⟨by simpa using hls,by simpa using hlb,fun q q0 q1 => ?_,fun q q0 q1 hq => ?_,fun q q0 q1 hq => ?_⟩
 ·by_cases e:(ix a.2.2.1 k).2.2.2.1=q
  ·rw [<- e,hsm];omega
  ·rw [hne q e q0];exact g.rng q q0 q1
 ·by_cases e:(ix a.2.2.1 k).2.2.2.1=q
  ·have eb:ix (b.set (ix a.2.2.1 k).2.2.2.1.toNat k) q=k:=by rw [<- e];exact zda (by omega) (by omega)
   rw [eb];have:=zuR ok g (q:=(ix a.2.2.1 k).2.2.2.1) (v:=val s (ix a.2.2.1 k)) (by omega) (by omega) h1 h3 k0 k1 h1
   refine ⟨k0,k1,e,this.1,?_⟩
   rw [<- e,hsm];exact this.2
  ·have eb:ix (b.set (ix a.2.2.1 k).2.2.2.1.toNat k) q=ix b q:=zeY (by omega) (by omega) e
   rw [hne q e q0] at hq ⊢;rw [eb];obtain ⟨p1,p2,p3,p4,p5⟩:=g.by' q q0 q1 hq
   have:=zuR ok g (q:=(ix a.2.2.1 k).2.2.2.1) (v:=val s (ix a.2.2.1 k)) (by omega) (by omega) h1 h3 p1 p2 p4
   exact ⟨p1,p2,p3,this.1,by omega⟩
 ·by_cases e:(ix a.2.2.1 k).2.2.2.1=q
  ·rw [<- e,hsm];exact hder
  ·rw [hne q e q0] at hq ⊢;exact g.der q q0 q1 hq
theorem Upd.pot {s b:List Int} (ok:Ok0 a) (g:GI a s b) {k:Int} (k0:0<=k) (k1:k < a.2.2.1.length) (hu:Upd s (ix a.2.2.1 k)):pot (s.set (ix a.2.2.1 k).2.2.2.1.toNat (val s (ix a.2.2.1 k))) < pot s:=by
 have hr:=ok.rule k0 k1;obtain ⟨h1,h2,h3⟩:=hu;have hls:=g.ls;have:=g.rng (ix a.2.2.1 k).2.2.2.1 (by omega) (by omega)
 refine zyO (by omega) (by omega) ?_
 unfold pt
 split<;>split<;>omega
abbrev R6:=Bool->Int->List Int->List Int->Option (List Int×List Int)
theorem zwm (ok:Ok0 a) {s b:List Int} (g:GI a s b) {k:Int} (k0:0<=k) (k1:k < a.2.2.1.length) {r6:R6} {n:Int} {again f:Bool}:
  zc5 a again k s b r6 n f=if f=true then r6 true (k+1) (s.set (ix a.2.2.1 k).2.2.2.1.toNat n) (b.set (ix a.2.2.1 k).2.2.2.1.toNat k) else r6 again (k+1) s b:=by
 have hr:=ok.rule k0 k1;have hls:=g.ls;have hlb:=g.lb;have hrl:=ok.rl;unfold zc5 zeL
 cases f with
 | false=>rw [if_neg (by decide),if_neg (by decide),zac (by unfold fits;omega)]
 | true=>
  rw [if_pos rfl,if_pos rfl,zac (by omega)]
  refine zbx ?_ ?_<;>rw [zac (by omega),zac (by omega),zac (by omega),zac (by unfold fits;omega)]
theorem zw6 (ok:Ok0 a) {s b:List Int} (g:GI a s b) {k:Int} (k0:0<=k) (k1:k < a.2.2.1.length) {r6:R6} {n:Int} {again:Bool}:
  zdM a again k s b r6 n=if n<=60/\(ix s (ix a.2.2.1 k).2.2.2.1=0\/n < ix s (ix a.2.2.1 k).2.2.2.1) then r6 true (k+1) (s.set (ix a.2.2.1 k).2.2.2.1.toNat n) (b.set (ix a.2.2.1 k).2.2.2.1.toNat k) else r6 again (k+1) s b:=by
 have hr:=ok.rule k0 k1;have hls:=g.ls;unfold zdM;simp only [zwm ok g k0 k1];by_cases c1:n<=60
 ·rw [if_pos (decide_eq_true c1),zac (by omega),zac (by omega)]
  by_cases c2:ix s (ix a.2.2.1 k).2.2.2.1=0
  ·rw [if_pos (decide_eq_true c2),if_pos trivial,if_pos ⟨c1,.inl c2⟩]
  ·rw [if_neg (by simpa using c2),zac (by omega),zac (by omega)]
   by_cases c3:n < ix s (ix a.2.2.1 k).2.2.2.1
   ·rw [if_pos (decide_eq_true c3),if_pos ⟨c1,.inr c3⟩]
   ·rw [if_neg (by simpa using c3),if_neg (fun h=>h.2.elim c2 c3)]
 ·rw [if_neg (by simpa using c1),if_neg (by simp),if_neg (fun h=>c1 h.1)]
theorem zyc (ok:Ok0 a) {s b:List Int} (g:GI a s b) {k:Int} (k0:0<=k) (k1:k < a.2.2.1.length) {r3:Bool->List Int->List Int->Option (List Int×List Int)} {again:Bool}:
  zb6 a r3 again k s b=if Upd s (ix a.2.2.1 k) then zb6 a r3 true (k+1) (s.set (ix a.2.2.1 k).2.2.2.1.toNat (val s (ix a.2.2.1 k))) (b.set (ix a.2.2.1 k).2.2.2.1.toNat k) else zb6 a r3 again (k+1) s b:=by
 have hr:=ok.rule k0 k1;have hls:=g.ls;have hrl:=ok.rl
 conv=>lhs;rw [zj5];unfold zdf
 rw [if_pos (decide_eq_true k1),zac (by omega)]
 simp only [zw6 (r6:=fun g t s b=>zb6 a r3 g t s b) ok g k0 k1]
 by_cases c1:0<=(ix a.2.2.1 k).2.1
 ·rw [if_pos (decide_eq_true c1),zac (by omega),zac (by omega)]
  have r1:=g.rng (ix a.2.2.1 k).2.1 (by omega) (by omega)
  have r2:=g.rng (ix a.2.2.1 k).2.2.1 (by omega) (by omega)
  by_cases c2:ix s (ix a.2.2.1 k).2.1=0
  ·have hv:val s (ix a.2.2.1 k)=0:=by unfold val;rw [if_pos c1,if_pos (.inl c2)]
   rw [if_pos (decide_eq_true c2),zac (by unfold fits;omega),if_neg (fun h=>by have:=h.1;omega)]
  ·rw [if_neg (by simpa using c2),zac (by omega),zac (by omega)]
   by_cases c3:ix s (ix a.2.2.1 k).2.2.1=0
   ·have hv:val s (ix a.2.2.1 k)=0:=by unfold val;rw [if_pos c1,if_pos (.inr c3)]
    rw [if_pos (decide_eq_true c3),zac (by unfold fits;omega),if_neg (fun h=>by have:=h.1;omega)]
   ·have hv:val s (ix a.2.2.1 k)=1+(ix s (ix a.2.2.1 k).2.1+ix s (ix a.2.2.1 k).2.2.1):=by unfold val;rw [if_pos c1,if_neg (by omega)]
    rw [if_neg (by simpa using c3),zac (by omega),zac (by omega),zac (by omega),zac (by omega),zac (by unfold fits;omega),zac (by unfold fits;omega),<- hv]
    by_cases u:Upd s (ix a.2.2.1 k)
    ·rw [if_pos u,if_pos u.2]
    ·rw [if_neg u,if_neg (fun h=>u ⟨by omega,h⟩)]
 ·rw [if_neg (by simpa using c1)]
  have hv:val s (ix a.2.2.1 k)=1:=by unfold val;rw [if_neg c1]
  rw [<- hv];by_cases u:Upd s (ix a.2.2.1 k)
  ·rw [if_pos u,if_pos u.2]
  ·rw [if_neg u,if_neg (fun h=>u ⟨by omega,h⟩)]
theorem pass (ok:Ok0 a) {r3:Bool->List Int->List Int->Option (List Int×List Int)}:∀ (n:Nat) (k:Int) (s b:List Int) (again:Bool),0<=k->k+n=a.2.2.1.length->GI a s b->
  ∃ s' b' again',zb6 a r3 again k s b=r3 again' s' b'/\GI a s' b'/\((again'=again/\s'=s/\b'=b/\∀ j:Int,k<=j->j < a.2.2.1.length -> ¬ Upd s (ix a.2.2.1 j))\/(again'=true/\pot s' < pot s)):=by
 intro n
 induction n with
 | zero=>
  intro k s b again k0 hn g;refine ⟨s,b,again,?_,g,.inl ⟨rfl,rfl,rfl,fun j _ _=>by omega⟩⟩
  rw [zj5];unfold zdf;rw [if_neg (by simp only [decide_eq_true_eq];omega)]
 | succ n ih=>
  intro k s b again k0 hn g;rw [zyc ok g k0 (by omega)]
  by_cases u:Upd s (ix a.2.2.1 k)
  ·rw [if_pos u];obtain ⟨s',b',again',e,g',h⟩:=ih (k+1) _ _ true (by omega) (by omega) (g.upd ok k0 (by omega) u)
   refine ⟨s',b',again',e,g',.inr ?_⟩
   have hp:=u.pot ok g k0 (by omega)
   rcases h with ⟨h1,rfl,_,_⟩ | ⟨h1,h2⟩
   ·exact ⟨h1,hp⟩
   ·exact ⟨h1,by omega⟩
  ·rw [if_neg u];obtain ⟨s',b',again',e,g',h⟩:=ih (k+1) s b again (by omega) (by omega) g
   refine ⟨s',b',again',e,g',?_⟩
   rcases h with ⟨h1,h2,h3,h4⟩ | h
   ·refine .inl ⟨h1,h2,h3,fun j j0 j1 => ?_⟩
    by_cases e:j=k
    ·rw [e];exact u
    ·exact h4 j (by omega) j1
   ·exact .inr h
theorem grown (ok:Ok0 a):∀ (n:Nat) (s b:List Int),pot s<=n->GI a s b->∃ s' b',zfd a true s b=some (s',b')/\GI a s' b'/\∀ j:Int,0<=j->j < a.2.2.1.length -> ¬ Upd s' (ix a.2.2.1 j):=by
 intro n
 induction n with
 | zero=>
  intro s b hp g;obtain ⟨s',b',again',e,g',h⟩:=pass (r3:=fun g s b=>zfd a g s b) ok a.2.2.1.length 0 s b false (by omega) (by omega) g
  rcases h with ⟨rfl,rfl,rfl,h4⟩ | ⟨_,h⟩
  ·refine ⟨s',b',?_,g',h4⟩
   rw [zeJ];unfold zbH;rw [if_pos rfl,e,zeJ];unfold zbH;rw [if_neg (by decide)]
  ·omega
 | succ n ih=>
  intro s b hp g;obtain ⟨s',b',again',e,g',h⟩:=pass (r3:=fun g s b=>zfd a g s b) ok a.2.2.1.length 0 s b false (by omega) (by omega) g
  rcases h with ⟨rfl,rfl,rfl,h4⟩ | ⟨rfl,h⟩
  ·refine ⟨s',b',?_,g',h4⟩
   rw [zeJ];unfold zbH;rw [if_pos rfl,e,zeJ];unfold zbH;rw [if_neg (by decide)]
  ·obtain ⟨s2,b2,e2,g2,h2⟩:=ih s' b' (by omega) g'
   refine ⟨s2,b2,?_,g2,h2⟩
   rw [zeJ];unfold zbH;rw [if_pos rfl,e,e2]
theorem ztT (n:Nat) (j:Int):ix (List.replicate n (0:Int)) j=0:=by
 simp only [ix,List.getD_eq_getElem?_getD,List.getElem?_replicate]
 split<;>rfl
theorem zp2 (ok:Ok0 a):∃ s b,zjk a=some (s,b)/\GI a s b/\∀ j:Int,0<=j->j < a.2.2.1.length -> ¬ Upd s (ix a.2.2.1 j):=by
 have hst:=ok.st;have g0:GI a (List.replicate a.2.1.toNat 0) (List.replicate a.2.1.toNat 0):=by
  refine ⟨by simp;omega,by simp;omega,fun q _ _=>by rw [ztT];omega,fun q _ _ h=>by rw [ztT] at h;omega,fun q _ _ h=>by rw [ztT] at h;omega⟩
 obtain ⟨s,b,e,g,h⟩:=grown ok _ _ _ (Nat.le_refl _) g0;refine ⟨s,b,?_,g,h⟩
 unfold zjk zjL;refine zbx ?_ ?_<;>rw [zac (by unfold mkOK;omega),zac (by unfold mkOK;omega),e]
theorem least (ok:Ok0 a) {s b:List Int} (g:GI a s b) (hs:∀ j:Int,0<=j->j < a.2.2.1.length -> ¬ Upd s (ix a.2.2.1 j)) {m q:Int} (h:Der a m q):m<=60->0 < ix s q/\ix s q<=m:=by
 induction h with
 | leaf k k0 k1 hl=>
  intro _;have hr:=ok.rule k0 k1;have:=hs k k0 k1;have r1:=g.rng (ix a.2.2.1 k).2.2.2.1 (by omega) (by omega)
  have hv:val s (ix a.2.2.1 k)=1:=by unfold val;rw [if_neg hl]
  unfold Upd at this;omega
 | node k k0 k1 hl m n hm hn ih1 ih2=>
  intro h60;have:=hm.pos;have:=hn.pos;have i1:=ih1 (by omega)
  have i2:=ih2 (by omega)
  have hr:=ok.rule k0 k1;have:=hs k k0 k1;have r1:=g.rng (ix a.2.2.1 k).2.2.2.1 (by omega) (by omega)
  have hv:val s (ix a.2.2.1 k)=1+(ix s (ix a.2.2.1 k).2.1+ix s (ix a.2.2.1 k).2.2.1):=by unfold val;rw [if_pos hl,if_neg (by omega)]
  unfold Upd at this;omega
theorem zxi (ok:Ok0 a) {s b:List Int} (g:GI a s b) (hs:∀ j:Int,0<=j->j < a.2.2.1.length -> ¬ Upd s (ix a.2.2.1 j)) {q:Int} (q0:0<=q) (q1:q < a.2.1) (h:0 < ix s q):val s (ix a.2.2.1 (ix b q))=ix s q:=by
 obtain ⟨h1,h2,h3,h4,h5⟩:=g.by' q q0 q1 h
 have:=hs _ h1 h2;have r1:=g.rng q q0 q1;unfold Upd at this;rw [h3] at this;omega
end
section
variable {a:TA} {s b:List Int}
def Mk (a:TA) (s:List Int) (n:Int):Prop:=∃ q:Int,0<=q/\q < a.2.1/\ix s q=n/\ix a.2.2.2.2.1 q=1
structure GrS (a:TA) (s b:List Int):Prop where
 g:GI a s b
 st:∀ j:Int,0<=j->j < a.2.2.1.length -> ¬ Upd s (ix a.2.2.1 j)
end
section
variable {a:TA} {s b:List Int}
def Bst (a:TA) (s:List Int) (t best:Int):Prop:=(best = -1/\∀ q:Int,0<=q->q < t->ix a.2.2.2.2.1 q=1 -> ¬ 0 < ix s q)\/
 (0<=best/\best < a.2.1/\ix a.2.2.2.2.1 best=1/\0 < ix s best/\∀ q:Int,0<=q->q < t->ix a.2.2.2.2.1 q=1->0 < ix s q->ix s best<=ix s q)
theorem zyZ (ok:Ok0 a) (hls:(s.length:Int)=a.2.1):∀ (n:Nat) (t best:Int),0<=t->t+n=a.2.1->Bst a s t best->
  ∃ best',zf4 a s b best t=(if best' < 0 then some (([],()),false,(0:Int)) else (ziC a b best' []).bind fun y=>some ((y.2,()),true,(0:Int)))/\Bst a s a.2.1 best':=by
 have hst:=ok.st;have hmk:=ok.mks;intro n
 induction n with
 | zero=>
  intro t best t0 hn hb;have:t=a.2.1:=by omega
  subst this;refine ⟨best,?_,hb⟩
  rw [zkY];unfold zdO;rw [if_neg (by simp only [decide_eq_true_eq];omega)]
  by_cases c:best < 0
  ·rw [if_pos (decide_eq_true c),if_pos c]
  ·rw [if_neg (by simpa using c),if_neg c]
 | succ n ih=>
  intro t best t0 hn hb;have key:∃ best',zf4 a s b best t=zf4 a s b best' (t+1)/\Bst a s (t+1) best':=by
   have stay:(ix a.2.2.2.2.1 t=1->0 < ix s t->0<=best/\ix s best<=ix s t)->Bst a s (t+1) best:=by
    intro h;rcases hb with ⟨h1,h2⟩ | ⟨h1,h2,h3,h4,h5⟩
    ·refine .inl ⟨h1,fun q q0 q1 q2 q3 => ?_⟩
     by_cases e:q=t
     ·subst e;have:=h q2 q3;omega
     ·exact h2 q q0 (by omega) q2 q3
    ·refine .inr ⟨h1,h2,h3,h4,fun q q0 q1 q2 q3 => ?_⟩
     by_cases e:q=t
     ·subst e;exact (h q2 q3).2
     ·exact h5 q q0 (by omega) q2 q3
   have take:ix a.2.2.2.2.1 t=1->0 < ix s t->(0<=best->ix s t<=ix s best)->Bst a s (t+1) t:=by
    intro h1 h2 h3;refine .inr ⟨t0,by omega,h1,h2,fun q q0 q1 q2 q3 => ?_⟩
    by_cases e:q=t
    ·subst e;omega
    ·rcases hb with ⟨p1,p2⟩ | ⟨p1,p2,p3,p4,p5⟩
     ·exact absurd q3 (p2 q q0 (by omega) q2)
     ·have:=p5 q q0 (by omega) q2 q3
      have:=h3 p1;omega
   conv=>arg 1;ext best';lhs;lhs;rw [zkY];unfold zdO
   rw [if_pos (by simp only [decide_eq_true_eq];omega),zac (by omega),zac (by omega)]
   by_cases c1:0 < ix s t
   ·rw [if_pos (decide_eq_true c1),zac (by omega)]
    by_cases c2:ix a.2.2.2.2.1 t=1
    ·rw [if_pos (decide_eq_true c2)];by_cases c3:best < 0
     ·rw [if_pos (decide_eq_true c3),zac (by unfold fits;omega)]
      exact ⟨t,rfl,take c2 c1 (fun h=>by omega)⟩
     ·have hbr:best < a.2.1:=by rcases hb with h | h;omega;exact h.2.1
      rw [if_neg (by simpa using c3),zac (by omega),zac (by omega)]
      by_cases c4:ix s t < ix s best
      ·rw [if_pos (decide_eq_true c4),zac (by unfold fits;omega)]
       exact ⟨t,rfl,take c2 c1 (fun h=>by omega)⟩
      ·rw [if_neg (by simpa using c4),zac (by unfold fits;omega)]
       exact ⟨best,rfl,stay (fun _ _=>by omega)⟩
    ·rw [if_neg (by simpa using c2),zac (by unfold fits;omega)]
     exact ⟨best,rfl,stay (fun h _=>absurd h c2)⟩
   ·rw [if_neg (by simpa using c1),zac (by unfold fits;omega)]
    exact ⟨best,rfl,stay (fun _ h=>absurd h c1)⟩
  obtain ⟨best',e,hb'⟩:=key;rw [e];exact ih (t+1) best' (by omega) (by omega) hb'
end
section
variable {a:TA} {s b:List Int}
def build (a:TA) (b:List Int):Nat->Int->Int->List Nd
 | 0,_,_=>[]
 | n+1,q,off=>
  if 0<=(ix a.2.2.1 (ix b q)).2.1 then
   build a b n (ix a.2.2.1 (ix b q)).2.1 off++build a b n (ix a.2.2.1 (ix b q)).2.2.1 (off+(build a b n (ix a.2.2.1 (ix b q)).2.1 off).length)++
    [((ix a.2.2.1 (ix b q)).1,off+(build a b n (ix a.2.2.1 (ix b q)).2.1 off).length - 1,off+(build a b n (ix a.2.2.1 (ix b q)).2.1 off).length+(build a b n (ix a.2.2.1 (ix b q)).2.2.1 (off+(build a b n (ix a.2.2.1 (ix b q)).2.1 off).length)).length - 1,())]
  else [((ix a.2.2.1 (ix b q)).1,-1,-1,())]
theorem at_q (ok:Ok0 a) (hg:GrS a s b) {q:Int} (q0:0<=q) (q1:q < a.2.1) (h:0 < ix s q):0<=ix b q/\ix b q < a.2.2.1.length/\(ix a.2.2.1 (ix b q)).2.2.2.1=q/\
  (¬ 0<=(ix a.2.2.1 (ix b q)).2.1/\ix s q=1\/0<=(ix a.2.2.1 (ix b q)).2.1/\(ix a.2.2.1 (ix b q)).2.1 < a.2.1/\0<=(ix a.2.2.1 (ix b q)).2.2.1/\(ix a.2.2.1 (ix b q)).2.2.1 < a.2.1/\
   0 < ix s (ix a.2.2.1 (ix b q)).2.1/\0 < ix s (ix a.2.2.1 (ix b q)).2.2.1/\ix s q=1+(ix s (ix a.2.2.1 (ix b q)).2.1+ix s (ix a.2.2.1 (ix b q)).2.2.1)):=by
 obtain ⟨p1,p2,p3,p4,p5⟩:=hg.g.by' q q0 q1 h
 have he:=zxi ok hg.g hg.st q0 q1 h;have hr:=ok.rule p1 p2;refine ⟨p1,p2,p3,?_⟩
 unfold val at he
 split at he
 ·rename_i c;right
  have r1:=hg.g.rng (ix a.2.2.1 (ix b q)).2.1 (by omega) (by omega)
  have r2:=hg.g.rng (ix a.2.2.1 (ix b q)).2.2.1 (by omega) (by omega)
  split at he<;>omega
 ·rename_i c;exact .inl ⟨c,by omega⟩
theorem zhO (ok:Ok0 a) (hg:GrS a s b):∀ (n:Nat) (q off:Int),0<=q->q < a.2.1->0 < ix s q->ix s q<=n->((build a b n q off).length:Int)=ix s q:=by
 intro n
 induction n with
 | zero=>intro q off q0 q1 h h';omega
 | succ n ih=>
  intro q off q0 q1 h h';obtain ⟨p1,p2,p3,p4⟩:=at_q ok hg q0 q1 h;unfold build;rcases p4 with ⟨c,e⟩ | ⟨c,c1,c2,c3,c4,c5,e⟩
  ·rw [if_neg c];simp;omega
  ·rw [if_pos c];have i1:=ih (ix a.2.2.1 (ix b q)).2.1 off c c1 c4 (by omega)
   have i2:=ih (ix a.2.2.1 (ix b q)).2.2.1 (off+(build a b n (ix a.2.2.1 (ix b q)).2.1 off).length) c2 c3 c5 (by omega)
   simp only [List.length_append,List.length_cons,List.length_nil];omega
theorem zxE (ok:Ok0 a) (hg:GrS a s b):∀ (n:Nat) (q:Int) (l:List Nd),0<=q->q < a.2.1->0 < ix s q->ix s q<=n->(l.length:Int)+ix s q<=60->
  ziC a b q l=some ((l.length:Int)+ix s q - 1,l++build a b n q l.length):=by
 intro n
 induction n with
 | zero=>intro q l q0 q1 h h';omega
 | succ n ih=>
  intro q l q0 q1 h h' h60;obtain ⟨p1,p2,p3,p4⟩:=at_q ok hg q0 q1 h;have hlb:=hg.g.lb;rw [zuf];unfold zhL build;rw [zac (by omega),zac (by omega)]
  rcases p4 with ⟨c,e⟩ | ⟨c,c1,c2,c3,c4,c5,e⟩
  ·rw [if_neg (by simpa using c),if_neg c]
   unfold zjM;rw [zac (by unfold room;simp only [List.length_cons,List.length_nil];omega),zac (by unfold fits;simp only [List.length_append,List.length_cons,List.length_nil];omega)]
   rw [Option.some_inj,Prod.mk.injEq];refine ⟨?_,rfl⟩
   simp only [List.length_append,List.length_cons,List.length_nil];omega
  ·rw [if_pos (decide_eq_true c),if_pos c];have i1:=ih (ix a.2.2.1 (ix b q)).2.1 l c c1 c4 (by omega) (by omega)
   have b1:=zhO ok hg n (ix a.2.2.1 (ix b q)).2.1 l.length c c1 c4 (by omega)
   refine zau i1 ?_
   have i2:=ih (ix a.2.2.1 (ix b q)).2.2.1 (l++build a b n (ix a.2.2.1 (ix b q)).2.1 l.length) c2 c3 c5 (by omega) (by simp only [List.length_append];omega)
   refine zau i2 ?_
   have hoff:(((l++build a b n (ix a.2.2.1 (ix b q)).2.1 l.length).length:Nat):Int)=(l.length:Int)+(build a b n (ix a.2.2.1 (ix b q)).2.1 l.length).length:=by simp
   have b2:=zhO ok hg n (ix a.2.2.1 (ix b q)).2.2.1 ((l.length:Int)+(build a b n (ix a.2.2.1 (ix b q)).2.1 l.length).length) c2 c3 c5 (by omega)
   dsimp only;rw [hoff];unfold zjM;rw [zac (by unfold room;simp only [List.length_append,List.length_cons,List.length_nil];omega),zac (by unfold fits;simp only [List.length_append,List.length_cons,List.length_nil];omega)]
   rw [Option.some_inj,Prod.mk.injEq];constructor
   ·simp only [List.length_append,List.length_cons,List.length_nil];omega
   ·simp only [List.append_assoc];rw [b2,b1]
end
section
variable {a:TA} {s b:List Int}
theorem zxs {α:Type} [Inhabited α] {x y:List α} {j:Int} (j0:0<=j) (h:j < x.length):ix (x++y) j=ix x j:=by
 simp only [ix,List.getD_eq_getElem?_getD];rw [List.getElem?_append_left (by omega)]
theorem zxt {α:Type} [Inhabited α] {x y:List α} {j k:Int} (j0:0<=j) (h:k=x.length+j):ix (x++y) k=ix y j:=by
 simp only [ix,List.getD_eq_getElem?_getD];rw [List.getElem?_append_right (by omega)]
 congr 2
 omega
def At (L:List Nd) (off:Int) (l:List Nd):Prop:=∀ j:Int,0<=j->j < l.length->ix L (off+j)=ix l j
theorem At.left {L:List Nd} {off:Int} {x y:List Nd} (h:At L off (x++y)):At L off x:=fun j j0 j1=>by
 rw [h j j0 (by simp;omega),zxs j0 j1]
theorem At.right {L:List Nd} {off k:Int} {x y:List Nd} (h:At L off (x++y)) (hk:k=off+x.length):At L k y:=fun j j0 j1=>by
 subst hk;rw [Int.add_assoc,h _ (by omega) (by simp;omega)]
 exact zxt j0 rfl
theorem zxc (ok:Ok0 a) (hg:GrS a s b) {L:List Nd}:∀ (n:Nat) (q off:Int),0<=q->q < a.2.1->0 < ix s q->ix s q<=n->0<=off->off+ix s q<=L.length->At L off (build a b n q off)->
  ∀ c:List Bool,c.length=L.length->(∀ j:Int,off<=j->j < off+ix s q->ix c j=false)->
   ∃ c':List Bool,c'.length=L.length/\(∀ j:Int,off<=j->j < off+ix s q - 1->ix c' j=true)/\ix c' (off+ix s q - 1)=false/\(∀ j:Int,0<=j->j < off\/off+ix s q<=j->ix c' j=ix c j)/\
    ∀ m:Nat,trF L a.1 (m+(ix s q).toNat) off c=trF L a.1 m (off+ix s q) c':=by
 intro n
 induction n with
 | zero=>intro q off q0 q1 h h';omega
 | succ n ih=>
  intro q off q0 q1 h h' o0 o1 hat c hc hf;obtain ⟨p1,p2,p3,p4⟩:=at_q ok hg q0 q1 h;have hr:=ok.rule p1 p2;unfold build at hat;rcases p4 with ⟨d,e⟩ | ⟨d,c1,c2,c3,c4,c5,e⟩
  ·rw [if_neg d] at hat;have hx:=hat 0 (by omega) (by simp)
   rw [Int.add_zero] at hx;have hx:ix L off=((ix a.2.2.1 (ix b q)).1,-1,-1,()):=hx;refine ⟨c,hc,fun j j0 j1=>by omega,hf _ (by omega) (by omega),fun _ _ _=>rfl,fun m => ?_⟩
   rw [e,show m+(1:Int).toNat=m+1 from rfl]
   conv=>lhs;unfold trF
   rw [hx];dsimp only;rw [if_neg (by omega),if_pos ⟨rfl,rfl⟩]
  ·rw [if_pos d] at hat;have b1:=zhO ok hg n (ix a.2.2.1 (ix b q)).2.1 off d c1 c4 (by omega)
   have b2:=zhO ok hg n (ix a.2.2.1 (ix b q)).2.2.1 (off+(build a b n (ix a.2.2.1 (ix b q)).2.1 off).length) c2 c3 c5 (by omega)
   have hR:At L (off+ix s (ix a.2.2.1 (ix b q)).2.1) (build a b n (ix a.2.2.1 (ix b q)).2.2.1 (off+ix s (ix a.2.2.1 (ix b q)).2.1)):=by
    have:=hat.left.right (k:=off+(build a b n (ix a.2.2.1 (ix b q)).2.1 off).length) rfl;rw [b1] at this;exact this
   have hroot:=hat.right (k:=off+ix s (ix a.2.2.1 (ix b q)).2.1+ix s (ix a.2.2.1 (ix b q)).2.2.1) (by simp only [List.length_append];omega) 0 (by omega) (by simp)
   rw [Int.add_zero] at hroot;rw [b2,b1] at hroot;have hroot:ix L (off+ix s (ix a.2.2.1 (ix b q)).2.1+ix s (ix a.2.2.1 (ix b q)).2.2.1)=((ix a.2.2.1 (ix b q)).1,off+ix s (ix a.2.2.1 (ix b q)).2.1 - 1,off+ix s (ix a.2.2.1 (ix b q)).2.1+ix s (ix a.2.2.1 (ix b q)).2.2.1 - 1,()):=hroot;obtain ⟨d1,l1,t1,f1,u1,e1⟩:=ih (ix a.2.2.1 (ix b q)).2.1 off d c1 c4 (by omega) o0 (by omega) hat.left.left c hc (fun j j0 j1=>hf j j0 (by omega))
   obtain ⟨d2,l2,t2,f2,u2,e2⟩:=ih (ix a.2.2.1 (ix b q)).2.2.1 (off+ix s (ix a.2.2.1 (ix b q)).2.1) c2 c3 c5 (by omega) (by omega) (by omega) hR d1 l1 (fun j j0 j1=>by
    rw [u1 j (by omega) (.inr (by omega))];exact hf j (by omega) (by omega))
   generalize hsl:ix s (ix a.2.2.1 (ix b q)).2.1=sl at *
   generalize hsr:ix s (ix a.2.2.1 (ix b q)).2.2.1=sr at *
   have g0:ix d2 (off+sl - 1)=false:=by rw [u2 _ (by omega) (.inl (by omega))];exact f1
   have g1:ix (d2.set (off+sl - 1).toNat true) (off+sl+sr - 1)=false:=by
    rw [zeY (by omega) (by omega) (by omega)];exact f2
   have hl3:((d2.set (off+sl - 1).toNat true).set (off+sl+sr - 1).toNat true).length=L.length:=by simp [l2]
   have hat3:∀ j:Int,0<=j->ix ((d2.set (off+sl - 1).toNat true).set (off+sl+sr - 1).toNat true) j=if j=off+sl - 1\/j=off+sl+sr - 1 then true else ix d2 j:=by
    intro j j0;by_cases e1:off+sl+sr - 1=j
    ·subst e1;rw [zda (by omega) (by simp [l2];omega),if_pos (.inr rfl)]
    ·rw [zeY (by omega) j0 e1]
     by_cases e2:off+sl - 1=j
     ·subst e2;rw [zda (by omega) (by omega),if_pos (.inl rfl)]
     ·rw [zeY (by omega) j0 e2,if_neg (by omega)]
   refine ⟨_,hl3,fun j j0 j1 => ?_,?_,fun j j0 j1 => ?_,fun m => ?_⟩
   ·rw [hat3 j (by omega)]
    split
    ·rfl
    ·by_cases hj:j < off+sl
     ·rw [u2 j (by omega) (.inl (by omega))];exact t1 j j0 (by omega)
     ·exact t2 j (by omega) (by omega)
   ·rw [hat3 _ (by omega),if_neg (by omega),u2 _ (by omega) (.inr (by omega)),u1 _ (by omega) (.inr (by omega))]
    exact hf _ (by omega) (by omega)
   ·rw [hat3 j j0,if_neg (by omega),u2 j j0 (by omega),u1 j j0 (by omega)]
   ·have k1:m+(ix s q).toNat=(m+1+sr.toNat)+sl.toNat:=by omega
    rw [k1,e1,e2]
    conv=>lhs;unfold trF
    rw [hroot];dsimp only;rw [if_neg (by omega),if_neg (by omega),if_neg (by
     rintro (h | h | h | h | h | h)
     ·omega
     ·omega
     ·rw [g0] at h;cases h
     ·omega
     ·omega
     ·rw [g1] at h;cases h)]
    congr 1
    omega
theorem zzz {L:List Nd} (ok:Ok a L) {i:Int} {can:List (List Bool)} (hi:0<=i/\i < L.length) (hc:(can.length:Int)=i) (hrows:∀ j:Int,0<=j->j < i->((ix can j).length:Int)=a.2.1) {r3:Int->List (List Bool)->Option Bool}:∀ (n:Nat) (k:Int) (own:List Bool),0<=k->k+n=a.2.2.1.length->(own.length:Int)=a.2.1->
  ∃ own',zbG a (L,()) i can r3 k own=r3 (i+1) (can++[own'])/\(own'.length:Int)=a.2.1/\(∀ q:Int,0<=q->ix own q=true->ix own' q=true)/\∀ j:Int,k<=j->j < a.2.2.1.length->Use (ix L i) can (ix a.2.2.1 j)->ix own' (ix a.2.2.1 j).2.2.2.1=true:=by
 intro n
 induction n with
 | zero=>
  intro k own k0 hn hl;have:=ok.n;refine ⟨own,?_,hl,fun q _ h=>h,fun j j0 j1=>by omega⟩
  rw [zgI];unfold zca;rw [if_neg (by simp only [decide_eq_true_eq];omega),zac (by unfold room;simp only [List.length_cons,List.length_nil];omega),zac (by unfold fits;omega)]
 | succ n ih=>
  intro k own k0 hn hl;have hb:=ok.rb k k0 (by omega)
  unfold RBad at hb;rw [zvB ok hi hc hrows hl k0 (by omega)]
  by_cases u:Use (ix L i) can (ix a.2.2.1 k)
  ·rw [if_pos u];obtain ⟨own',e,h1,h2,h3⟩:=ih (k+1) (own.set (ix a.2.2.1 k).2.2.2.1.toNat true) (by omega) (by omega) (by simpa using hl)
   refine ⟨own',e,h1,fun q q0 hq=>h2 q q0 ?_,fun j j0 j1 hu => ?_⟩
   ·by_cases e:(ix a.2.2.1 k).2.2.2.1=q
    ·rw [<- e,zda (by omega) (by omega)]
    ·rw [zeY (by omega) q0 e];exact hq
   ·by_cases e:j=k
    ·subst e;exact h2 _ (by omega) (zda (by omega) (by omega))
    ·exact h3 j (by omega) j1 hu
  ·rw [if_neg u];obtain ⟨own',e,h1,h2,h3⟩:=ih (k+1) own (by omega) (by omega) hl
   refine ⟨own',e,h1,h2,fun j j0 j1 hu => ?_⟩
   by_cases e:j=k
   ·subst e;exact absurd hu u
   ·exact h3 j (by omega) j1 hu
theorem zsN {L:List Nd} (ok:Ok a L) {i:Int} {can:List (List Bool)} (hi:0<=i/\i < L.length) (hc:(can.length:Int)=i) (hrows:∀ j:Int,0<=j->j < i->((ix can j).length:Int)=a.2.1):
  ∃ own,zbF a (L,()) i can=zbF a (L,()) (i+1) (can++[own])/\(own.length:Int)=a.2.1/\∀ j:Int,0<=j->j < a.2.2.1.length->Use (ix L i) can (ix a.2.2.1 j)->ix own (ix a.2.2.1 j).2.2.2.1=true:=by
 have hst:=ok.st;have hrl:=ok.rl;obtain ⟨own,e,h1,_,h3⟩:=zzz ok hi hc hrows (r3:=fun i c=>zbF a (L,()) i c) a.2.2.1.length 0 (List.replicate a.2.1.toNat false) (by omega) (by omega) (by simp;omega)
 refine ⟨own,?_,h1,h3⟩
 conv=>lhs;rw [zfa];unfold zbI
 dsimp only;rw [if_pos (by simp only [decide_eq_true_eq];omega),zac (by omega),zac (by unfold mkOK;omega)]
 exact e
theorem zvG (ok:Ok0 a) (hg:GrS a s b) {L:List Nd} (okL:Ok a L):∀ (n:Nat) (q off:Int),0<=q->q < a.2.1->0 < ix s q->ix s q<=n->0<=off->off+ix s q<=L.length->At L off (build a b n q off)->
  ∀ can:List (List Bool),(can.length:Int)=off->(∀ j:Int,0<=j->j < off->((ix can j).length:Int)=a.2.1)->
   ∃ can',(can'.length:Int)=off+ix s q/\(∀ j:Int,0<=j->j < off+ix s q->((ix can' j).length:Int)=a.2.1)/\(∀ j:Int,0<=j->j < off->ix can' j=ix can j)/\ix (ix can' (off+ix s q - 1)) q=true/\
    zbF a (L,()) off can=zbF a (L,()) (off+ix s q) can':=by
 intro n
 induction n with
 | zero=>intro q off q0 q1 h h';omega
 | succ n ih=>
  intro q off q0 q1 h h' o0 o1 hat can hc hrows;obtain ⟨p1,p2,p3,p4⟩:=at_q ok hg q0 q1 h;have hr:=ok.rule p1 p2;unfold build at hat;rcases p4 with ⟨d,e⟩ | ⟨d,c1,c2,c3,c4,c5,e⟩
  ·rw [if_neg d] at hat;have hx:=hat 0 (by omega) (by simp)
   rw [Int.add_zero] at hx;have hx:ix L off=((ix a.2.2.1 (ix b q)).1,-1,-1,()):=hx;obtain ⟨own,e1,e2,e3⟩:=zsN okL ⟨o0,by omega⟩ hc hrows
   have hu:=e3 (ix b q) p1 p2 (by
    unfold Use;rw [hx];exact ⟨rfl,by dsimp only;omega,.inl (by omega)⟩)
   rw [p3] at hu;refine ⟨can++[own],by simp;omega,fun j j0 j1 => ?_,fun j j0 j1=>zrI j0 (by omega),?_,by rw [e1,e]⟩
   ·by_cases hj:j < off
    ·rw [zrI j0 (by omega)];exact hrows j j0 hj
    ·rw [zin (by omega)];exact e2
   ·rw [zin (by omega)];exact hu
  ·rw [if_pos d] at hat;have b1:=zhO ok hg n (ix a.2.2.1 (ix b q)).2.1 off d c1 c4 (by omega)
   have b2:=zhO ok hg n (ix a.2.2.1 (ix b q)).2.2.1 (off+(build a b n (ix a.2.2.1 (ix b q)).2.1 off).length) c2 c3 c5 (by omega)
   have hR:At L (off+ix s (ix a.2.2.1 (ix b q)).2.1) (build a b n (ix a.2.2.1 (ix b q)).2.2.1 (off+ix s (ix a.2.2.1 (ix b q)).2.1)):=by
    have:=hat.left.right (k:=off+(build a b n (ix a.2.2.1 (ix b q)).2.1 off).length) rfl;rw [b1] at this;exact this
   have hroot:=hat.right (k:=off+ix s (ix a.2.2.1 (ix b q)).2.1+ix s (ix a.2.2.1 (ix b q)).2.2.1) (by simp only [List.length_append];omega) 0 (by omega) (by simp)
   rw [Int.add_zero] at hroot;rw [b2,b1] at hroot;have hroot:ix L (off+ix s (ix a.2.2.1 (ix b q)).2.1+ix s (ix a.2.2.1 (ix b q)).2.2.1)=((ix a.2.2.1 (ix b q)).1,off+ix s (ix a.2.2.1 (ix b q)).2.1 - 1,off+ix s (ix a.2.2.1 (ix b q)).2.1+ix s (ix a.2.2.1 (ix b q)).2.2.1 - 1,()):=hroot;obtain ⟨m1,l1,w1,u1,t1,e1⟩:=ih (ix a.2.2.1 (ix b q)).2.1 off d c1 c4 (by omega) o0 (by omega) hat.left.left can hc hrows
   obtain ⟨m2,l2,w2,u2,t2,e2⟩:=ih (ix a.2.2.1 (ix b q)).2.2.1 (off+ix s (ix a.2.2.1 (ix b q)).2.1) c2 c3 c5 (by omega) (by omega) (by omega) hR m1 l1 w1
   obtain ⟨own,g1,g2,g3⟩:=zsN okL (i:=off+ix s (ix a.2.2.1 (ix b q)).2.1+ix s (ix a.2.2.1 (ix b q)).2.2.1) ⟨by omega,by omega⟩ l2 w2
   have hu:=g3 (ix b q) p1 p2 (by
    unfold Use;rw [hroot];refine ⟨rfl,by dsimp only;omega,.inr ⟨?_,t2⟩⟩
    dsimp only;rw [u2 _ (by omega) (by omega)];exact t1)
   rw [p3] at hu;refine ⟨m2++[own],by simp;omega,fun j j0 j1 => ?_,fun j j0 j1 => ?_,?_,?_⟩
   ·by_cases hj:j < m2.length
    ·rw [zrI j0 hj];exact w2 j j0 (by omega)
    ·rw [zin (by omega)];exact g2
   ·rw [zrI j0 (by omega),u2 j j0 (by omega),u1 j j0 j1]
   ·rw [zin (by omega)];exact hu
   ·rw [e1,e2,g1];congr 1
    omega
theorem zyb {L:List (List Bool)} (ok:Ok0 a) (hr:((ix L ((L.length:Int) - 1)).length:Int)=a.2.1) {q:Int} (q0:0<=q) (q1:q < a.2.1) (h:ix (ix L ((L.length:Int) - 1)) q=true) (hm:ix a.2.2.2.2.1 q=1):ze0 a L 0=some true:=by
 have hst:=ok.st;have hmk:=ok.mks;refine zl0 (len:=a.2.1) (bad:=fun j=>ix (ix L ((L.length:Int) - 1)) j=true/\ix a.2.2.2.2.1 j=1) (by omega) (fun j j0 j1=>⟨fun hb => ?_,fun hb => ?_⟩) (fun hh=>absurd ⟨h,hm⟩ (hh q q0 q1))
 ·rw [zeM];unfold zbz;rw [if_pos (decide_eq_true j1),zac (by omega),if_pos hb.1,zac (by omega),if_pos (decide_eq_true hb.2)]
 ·conv=>lhs;rw [zeM];unfold zbz
  rw [if_pos (decide_eq_true j1),zac (by omega)]
  by_cases c:ix (ix L ((L.length:Int) - 1)) j=true
  ·rw [if_pos c,zac (by omega),if_neg (by simpa using fun h=>hb ⟨c,h⟩),zac (by unfold fits;omega)]
  ·rw [if_neg c,zac (by unfold fits;omega)]
theorem zzP {N:Nat} (hN:N=60) (ok:Ok0 a) (hl:1<=a.1/\a.1<=4) (hg:GrS a s b) {q:Int} (q0:0<=q) (q1:q < a.2.1) (h:0 < ix s q) (hm:ix a.2.2.2.2.1 q=1):
  ∃ L,ziC a b q []=some (ix s q - 1,L)/\(L.length:Int)=ix s q/\zhC a.1 (L,())=some 0/\zbN a (L,())=some true:=by
 have hr:=hg.g.rng q q0 q1;have hput:=zxE ok hg N q [] q0 q1 h (by omega) (by simp;omega)
 have hlen:=zhO ok hg N q 0 q0 q1 h (by omega)
 have hat:At (build a b N q 0) 0 (build a b N q 0):=fun j j0 j1=>by rw [Int.zero_add]
 obtain ⟨c',h1,h2,h3,h4,h5⟩:=zxc ok hg N q 0 q0 q1 h (by omega) (by omega) (by omega) hat (List.replicate (build a b N q 0).length false) (by simp) (fun j j0 j1=>by
  simp only [ix,List.getD_eq_getElem?_getD,List.getElem?_replicate]
  split<;>rfl)
 have htr:trF (build a b N q 0) a.1 (build a b N q 0).length 0 (List.replicate (build a b N q 0).length false)=0:=by
  have:=h5 0;rw [show 0+(ix s q).toNat=(build a b N q 0).length by omega] at this
  rw [this];unfold trF;rw [if_neg];rintro ⟨j,j0,j1,j2⟩;rw [h2 j j0 (by omega)] at j2;cases j2
 have htt:ttE a.1 (build a b N q 0)=0:=by
  unfold ttE;rw [if_neg (by omega),if_neg (by omega),if_neg (by omega),if_neg (by omega)]
  exact htr
 have okL:Ok a (build a b N q 0):=⟨ok.st,ok.rl,ok.mks,ok.rb,by omega,fun j j0 j1=>(zrO _ _ _ htr j j0 (by omega)).2.2⟩
 obtain ⟨can,k1,k2,k3,k4,k5⟩:=zvG ok hg okL N q 0 q0 q1 h (by omega) (by omega) (by omega) hat [] rfl (fun j j0 j1=>by omega)
 refine ⟨build a b N q 0,?_,hlen,by rw [zjD,htt],?_⟩
 ·rw [hput];simp
 ·unfold zbN;rw [k5,zfa];unfold zbI;dsimp only;rw [if_neg (by simp only [decide_eq_true_eq];omega),zac (by unfold fits;omega),zac (by omega),zac (by omega)]
  have e:(can.length:Int) - 1=0+ix s q - 1:=by omega
  exact zyb ok (by rw [e];exact k2 _ (by omega) (by omega)) q0 q1 (by rw [e];exact k4) hm
theorem made (ok:Ok0 a) (hl:1<=a.1/\a.1<=4) (hg:GrS a s b) {q:Int} (q0:0<=q) (q1:q < a.2.1) (h:0 < ix s q) (hm:ix a.2.2.2.2.1 q=1):
  ∃ L,ziC a b q []=some (ix s q - 1,L)/\(L.length:Int)=ix s q/\zhC a.1 (L,())=some 0/\zbN a (L,())=some true:=by
 obtain ⟨N,hN⟩:∃ N:Nat,N=60:=⟨60,rfl⟩;exact zzP hN ok hl hg q0 q1 h hm
end
theorem zpY {a:TA} (h1:taE a=0):1<=a.1/\a.1<=4:=by
 unfold taE at h1;by_cases c1:TLet a
 ·rw [if_pos c1] at h1;cases h1
 unfold TLet at c1;omega
theorem zqv {a:TA} {s b:List Int} (h1:taE a=0) (hg:GrS a s b) (eg:zjk a=some (s,b)):
  ∃ L f,zjm a=some ((L,()),f,0)/\((f=false/\L=[]/\∀ k:Int,1<=k->k<=60 -> ¬ Mk a s k)\/
   (f=true/\1<=(L.length:Int)/\(L.length:Int)<=60/\Mk a s L.length/\(∀ k:Int,1<=k->k < L.length -> ¬ Mk a s k)/\zhC a.1 (L,())=some 0/\zbN a (L,())=some true)):=by
 have ok:=zsP h1;have hst:=ok.st;obtain ⟨best,e,hb⟩:=zyZ (b:=b) ok hg.g.ls a.2.1.toNat 0 (-1) (by omega) (by omega) (.inl ⟨rfl,fun q _ _=>by omega⟩)
 have e0:zjm a=(if best < 0 then some (([],()),false,(0:Int)) else (ziC a b best []).bind fun y=>some ((y.2,()),true,(0:Int))):=by
  unfold zjm;refine (congrArg (fun x=>Option.bind x _) eg).trans ?_
  exact e
 rcases hb with ⟨rfl,h⟩ | ⟨h2,h3,h4,h5,h6⟩
 ·refine ⟨[],false,?_,.inl ⟨rfl,rfl,fun k k0 k1 ⟨q,q0,q1,q2,q3⟩=>h q q0 q1 q3 (by omega)⟩⟩
  rw [e0,if_pos (by omega)]
 ·obtain ⟨L,p1,p2,p3,p4⟩:=made ok (zpY h1) hg h2 h3 h5 h4;have hr:=hg.g.rng best h2 h3;refine ⟨L,true,?_,.inr ⟨rfl,by omega,by omega,⟨best,h2,h3,by omega,h4⟩,fun k k0 k1 ⟨q,q0,q1,q2,q3⟩ => ?_,p3,p4⟩⟩
  ·rw [e0,if_neg (by omega),p1];rfl
  ·have:=h6 q q0 q1 q3 (by omega)
   omega
theorem ztX {R S:Type} {L:Bool->Int->S->Option R} {N:Int} {P:S->Prop} {cl:Int->S->Prop} {μ:S->Nat} (hN:0<=N)
  (hs:∀ b t s,0<=t->t < N->P s->∃ b' s',L b t s=L b' (t+1) s'/\P s'/\((b'=b/\s'=s/\cl t s)\/(b'=true/\μ s' < μ s))):
  ∀ b s,P s->∃ b' s',L b 0 s=L b' N s'/\P s'/\((b'=b/\s'=s/\∀ t,0<=t->t < N->cl t s)\/(b'=true/\μ s' < μ s)):=by
 have key:∀ (n:Nat) (t:Int) b s,0<=t->t<=N->(N - t).toNat=n->P s->∃ b' s',L b t s=L b' N s'/\P s'/\((b'=b/\s'=s/\∀ j,t<=j->j < N->cl j s)\/(b'=true/\μ s' < μ s)):=by
  intro n
  induction n with
  | zero=>
   intro t b s h0 h1 hn hp;obtain rfl:t=N:=by omega
   exact ⟨b,s,rfl,hp,.inl ⟨rfl,rfl,fun j a b=>by omega⟩⟩
  | succ n ih=>
   intro t b s h0 h1 hn hp;obtain ⟨b1,s1,e1,p1,c1⟩:=hs b t s h0 (by omega) hp
   obtain ⟨b2,s2,e2,p2,c2⟩:=ih (t+1) b1 s1 (by omega) (by omega) (by omega) p1
   refine ⟨b2,s2,e1.trans e2,p2,?_⟩
   rcases c1 with ⟨rfl,rfl,hc⟩ | ⟨rfl,hm⟩
   ·rcases c2 with ⟨rfl,rfl,hc2⟩ | ⟨rfl,hm⟩
    ·exact .inl ⟨rfl,rfl,fun j j0 j1=>if e:j=t then e ▸ hc else hc2 j (by omega) j1⟩
    ·exact .inr ⟨rfl,hm⟩
   ·rcases c2 with ⟨rfl,rfl,_⟩ | ⟨rfl,hm2⟩
    ·exact .inr ⟨rfl,hm⟩
    ·exact .inr ⟨rfl,by omega⟩
 intro b s hp;exact key _ 0 b s (Int.le_refl _) hN rfl hp
theorem zwT {R S:Type} {O:Bool->S->Option R} {L:Bool->Int->S->Option R} {N:Int} {P:S->Prop} {cl:Int->S->Prop} {μ:S->Nat} (hN:0<=N)
  (hO:∀ s,P s->O true s=L false 0 s)
  (hs:∀ b t s,0<=t->t < N->P s->∃ b' s',L b t s=L b' (t+1) s'/\P s'/\((b'=b/\s'=s/\cl t s)\/(b'=true/\μ s' < μ s)))
  (hE:∀ b s,P s->L b N s=O b s) {s:S} (hp:P s):∃ s',O true s=O false s'/\P s'/\∀ t,0<=t->t < N->cl t s':=by
 generalize hm:μ s=m
 induction m using Nat.strongRecOn generalizing s with
 | ind m ih=>
  obtain ⟨b',s',e,p,c⟩:=ztX hN hs false s hp;rw [hO s hp,e,hE b' s' p];rcases c with ⟨rfl,rfl,hc⟩ | ⟨rfl,hlt⟩
  ·exact ⟨_,rfl,hp,hc⟩
  ·exact ih _ (by omega) p rfl
section
variable {a:TA}
theorem zqH (ok:Ok0 a) {N:Nat} (hN:N<=16) (hs:a.2.1=N) (letter:Int) {left:Int} (hl : -1<=left) (right:Int):zgh a letter left right=some (zpV a N letter left right):=by
 have hrl:=ok.rl;have k3:∀ (n:Nat) (k s:Int),0<=k->k+n=a.2.2.1.length->SetN N s->(∀ q:Int,0<=q->q < N->(bitP s q↔∃ j:Int,0<=j/\j < k/\Fits letter left right (ix a.2.2.1 j)/\(ix a.2.2.1 j).2.2.2.1=q))->
   zfU a letter left right s k=some (zpV a N letter left right):=by
  intro n
  induction n with
  | zero=>
   intro k s k0 hk hS h;obtain rfl:k=a.2.2.1.length:=by omega
   rw [zkE];unfold zdK;rw [if_neg (by simp)]
   obtain ⟨h1,h2⟩:=zm3 a hN letter left right;rw [hS.ext h1 fun q q0 q1=>(h q q0 q1).trans (h2 q q0 q1).symm]
  | succ n ih=>
   intro k s k0 hk hS h;have hb:=ok.rb k k0 (by omega)
   unfold RBad at hb;have f1:fits (k+1):=by unfold fits;omega
   have no : ¬ Fits letter left right (ix a.2.2.1 k)->zfU a letter left right s (k+1)=some (zpV a N letter left right):=fun hno=>by
    refine ih (k+1) s (by omega) (by omega) hS fun q q0 q1 => ?_
    rw [h q q0 q1];constructor
    ·rintro ⟨j,j0,j1,j2⟩;exact ⟨j,j0,by omega,j2⟩
    ·rintro ⟨j,j0,j1,j2,j3⟩;by_cases e:j=k
     ·subst e;exact absurd j2 hno
     ·exact ⟨j,j0,by omega,j2,j3⟩
   have yes:Fits letter left right (ix a.2.2.1 k)->zfU a letter left right (ior .i64 s (ishl .i64 1 (ix a.2.2.1 k).2.2.2.1)) (k+1)=some (zpV a N letter left right):=fun hy=>by
    obtain ⟨h1,_,h2⟩:=hS.or (q:=(ix a.2.2.1 k).2.2.2.1) (by omega) (by omega)
    refine ih (k+1) _ (by omega) (by omega) h1 fun q q0 q1 => ?_
    rw [h2 q q0 q1,h q q0 q1];constructor
    ·rintro (⟨j,j0,j1,j2⟩ | e)
     ·exact ⟨j,j0,by omega,j2⟩
     ·exact ⟨k,k0,by omega,hy,e.symm⟩
    ·rintro ⟨j,j0,j1,j2,j3⟩;by_cases e:j=k
     ·subst e;exact .inr j3.symm
     ·exact .inl ⟨j,j0,by omega,j2,j3⟩
   rw [zkE];unfold zdK;rw [if_pos (by simp only [decide_eq_true_eq];omega),zac (by omega)]
   unfold Fits at no yes;by_cases c1:(ix a.2.2.1 k).1=letter
   ·rw [if_neg (by simp [c1])]
    have d1:(ix a.2.2.1 k).2.1 < 0↔(ix a.2.2.1 k).2.1 = -1:=by omega
    have d2:left < 0↔left = -1:=by omega
    by_cases c2:((ix a.2.2.1 k).2.1 = -1↔left = -1)
    ·rw [if_neg (by simp [c2])]
     by_cases c3:left = -1
     ·rw [if_pos (decide_eq_true c3),zac (by omega),zac f1]
      exact yes ⟨c1,by rw [d1,d2];exact c2,.inl (by omega)⟩
     ·have c4 : ¬ (ix a.2.2.1 k).2.1 = -1:=fun h=>c3 (c2.1 h)
      rw [if_neg (by simpa using c3),zac (by omega)]
      by_cases c5:bitP left (ix a.2.2.1 k).2.1
      ·rw [if_pos (decide_eq_true (show iand .i64 (ishr .i64 left (ix a.2.2.1 k).2.1) 1=1 from c5)),zac (by omega)]
       by_cases c6:bitP right (ix a.2.2.1 k).2.2.1
       ·rw [if_pos (decide_eq_true (show iand .i64 (ishr .i64 right (ix a.2.2.1 k).2.2.1) 1=1 from c6)),zac (by omega),zac f1]
        exact yes ⟨c1,by rw [d1,d2];exact c2,.inr ⟨c5,c6⟩⟩
       ·rw [if_neg (by rw [decide_eq_true_iff];exact c6),zac f1]
        exact no fun h=>h.2.2.elim (by omega) fun h=>c6 h.2
      ·rw [if_neg (by rw [decide_eq_true_iff];exact c5),zac f1]
       exact no fun h=>h.2.2.elim (by omega) fun h=>c5 h.1
    ·rw [if_pos (by simp only [decide_eq_true_eq,decide_eq_decide];exact c2),zac f1]
     exact no fun h=>c2 (by rw [<- d1,<- d2];exact h.2.1)
   ·rw [if_pos (by simp [c1]),zac f1]
    exact no fun h=>c1 h.1
 obtain ⟨z1,z2⟩:=SetN.zero hN;unfold zgh;exact k3 a.2.2.1.length 0 0 (by omega) (by omega) z1 fun q q0 q1=>⟨fun h=>absurd h (z2 q q0 q1),fun ⟨j,j0,j1,_⟩=>by omega⟩
theorem zqY (hm:(a.2.2.2.2.1.length:Int)=a.2.1) (hs:0<=a.2.1/\a.2.1<=300) (s:Int):∃ b,zo5 a s=some b/\(b=true↔Good a s):=by
 have k2:∀ (n:Nat) (q:Int),0<=q->q+n=a.2.1->∃ b,zjE a s q=some b/\(b=true↔∃ p:Int,q<=p/\p < a.2.1/\ix a.2.2.2.2.1 p=1/\bitP s p):=by
  intro n
  induction n with
  | zero=>
   intro q q0 hq;refine ⟨false,?_,⟨fun h=>(by cases h),fun ⟨p,p0,p1,_⟩=>by omega⟩⟩
   rw [zlz];unfold zet;rw [if_neg (by simp only [decide_eq_true_eq];omega)]
  | succ n ih=>
   intro q q0 hq;obtain ⟨b,e,hb⟩:=ih (q+1) (by omega) (by omega)
   have skip : ¬ (ix a.2.2.2.2.1 q=1/\bitP s q)->(b=true↔∃ p:Int,q<=p/\p < a.2.1/\ix a.2.2.2.2.1 p=1/\bitP s p):=fun hno=>by
    rw [hb];constructor
    ·rintro ⟨p,p0,p1⟩;exact ⟨p,by omega,p1⟩
    ·rintro ⟨p,p0,p1,p2⟩;by_cases ep:p=q
     ·subst ep;exact absurd p2 hno
     ·exact ⟨p,by omega,p1,p2⟩
   rw [zlz];unfold zet;rw [if_pos (by simp only [decide_eq_true_eq];omega),zac (by omega)]
   by_cases c2:bitP s q
   ·rw [if_pos (decide_eq_true (show iand .i64 (ishr .i64 s q) 1=1 from c2)),zac (by omega)]
    by_cases c1:ix a.2.2.2.2.1 q=1
    ·rw [if_pos (decide_eq_true c1)];exact ⟨true,rfl,⟨fun _=>⟨q,Int.le_refl _,by omega,c1,c2⟩,fun _=>rfl⟩⟩
    ·rw [if_neg (by simpa using c1),zac (by unfold fits;omega)]
     exact ⟨b,e,skip fun h=>c1 h.1⟩
   ·rw [if_neg (by rw [decide_eq_true_iff];exact c2),zac (by unfold fits;omega)]
    exact ⟨b,e,skip fun h=>c2 h.2⟩
 obtain ⟨b,e,h⟩:=k2 a.2.1.toNat 0 (by omega) (by omega)
 exact ⟨b,e,h⟩
end
def ptZ (x:Int):Nat:=if x=0 then 1001 else x.toNat
def potZ (s:List Int):Nat:=(s.map ptZ).sum
theorem zxC {s:List Int} {q v:Int} (h0:0<=q) (h1:q < s.length) (h:ptZ v < ptZ (ix s q)):potZ (s.set q.toNat v) < potZ s:=by
 unfold potZ;rw [List.map_set];refine znN _ _ _ (by rw [List.length_map];omega) ?_
 have:(s.map ptZ).getD q.toNat 0=ptZ (ix s q):=by
  unfold ix;rw [List.getD_eq_getElem?_getD,List.getElem?_map,List.getD_eq_getElem?_getD,List.getElem?_eq_getElem (by omega)]
  rfl
 rw [this];exact h
section
variable {a b:TA} {L:Int}
structure ZI (a b:TA) (L:Int) (s:List Int):Prop where
 l:(s.length:Int)=64
 rng:∀ k:Int,0<=k->k < 64->0<=ix s k/\ix s k<=1000
 der:∀ k:Int,0<=k->k < 64->0 < ix s k->∃ m,DerV (V3 a b) L m k/\(ix s k < 1000->m=ix s k)/\ix s k<=m
theorem ZI.put {s:List Int} (h:ZI a b L s) {k v m:Int} (k0:0<=k) (k1:k < 64) (v0:0 < v) (v1:v<=1000) (hd:DerV (V3 a b) L m k) (hm:v < 1000->m=v) (hvm:v<=m) (hlt:ix s k=0\/v < ix s k):ZI a b L (s.set k.toNat v)/\potZ (s.set k.toNat v) < potZ s:=by
 have hl:=h.l;have hr:=h.rng k k0 k1;refine ⟨⟨by rw [List.length_set];exact hl,fun j j0 j1 => ?_,fun j j0 j1 hj => ?_⟩,zxC k0 (by omega) (by unfold ptZ;split<;>split<;>omega)⟩
 ·by_cases e:k=j
  ·subst e;rw [zda k0 (by omega)];omega
  ·rw [zeY k0 j0 e];exact h.rng j j0 j1
 ·by_cases e:k=j
  ·subst e;rw [zda k0 (by omega)];exact ⟨m,hd,hm,hvm⟩
  ·rw [zeY k0 j0 e] at hj ⊢;exact h.der j j0 j1 hj
theorem zzy {s:List Int} (h:ZI a b L s) {y2 y3 n q:Int} (h2:0<=y2/\y2 < 8) (h3:0<=y3/\y3 < 8) (hq:0<=q/\q < 64) {r17:Bool->Int->List Int->Option Int} {ag:Bool}:
  zdt ag q s r17 y2 y3 n=if ix s (y2+8 * y3)=0\/n < ix s (y2+8 * y3) then r17 true (q+1) (s.set (y2+8 * y3).toNat n) else r17 ag (q+1) s:=by
 have hl:=h.l;have hr:=h.rng (y2+8 * y3) (by omega) (by omega)
 have J:∀ t,zer ag q s r17 y2 y3 n t=if t=true then r17 true (q+1) (s.set (y2+8 * y3).toNat n) else r17 ag (q+1) s:=fun t=>by
  unfold zer
  cases t with
  | true=>rw [if_pos rfl,if_pos rfl,zac (by unfold fits;omega),zac (by unfold fits;omega),zac (by omega),zac (by omega),zac (by unfold fits;omega)]
  | false=>rw [if_neg (by simp),if_neg (by simp),zac (by unfold fits;omega)]
 unfold zdt;rw [zac (by unfold fits;omega),zac (by unfold fits;omega),zac (by omega),zac (by omega)]
 by_cases c:ix s (y2+8 * y3)=0
 ·rw [if_pos (decide_eq_true c),J,if_pos rfl,if_pos (.inl c)]
 ·rw [if_neg (by simpa using c),zac (by unfold fits;omega),zac (by unfold fits;omega),zac (by omega),zac (by omega),J]
  by_cases c2:n < ix s (y2+8 * y3)
  ·rw [if_pos (decide_eq_true c2),if_pos (.inr c2)]
  ·rw [if_neg (by simpa using c2),if_neg (fun h=>h.elim c c2)]
def ClQ (a b:TA) (l p q:Int) (s:List Int):Prop := ¬ ix s p=0 -> ¬ ix s q=0->0 < ix s (V3 a b l p q)/\ix s (V3 a b l p q)<=ix s p+ix s q+1
theorem zyC {p:Int} (h:0<=p):lo p=Int.tmod p 8:=by
 unfold lo;rw [if_neg (by omega),Int.tmod_eq_emod_of_nonneg h]
theorem zyw {p:Int} (h:0<=p):hi p=Int.tdiv p 8:=by
 unfold hi;rw [if_neg (by omega),Int.tdiv_eq_ediv_of_nonneg h]
theorem zx1 (W:Two a b) (l:Int) {p q:Int} (hp : -1<=lo p) (hp2 : -1<=hi p):zgh a l (lo p) (lo q)=some (VA a l (lo p) (lo q))/\zgh b l (hi p) (hi q)=some (VA b l (hi p) (hi q)):=by
 have h1:=W.oa.st;have h2:=W.ob.st;have h3:=W.a3;have h4:=W.b3;exact ⟨zqH W.oa (by omega) (by omega) l hp _,zqH W.ob (by omega) (by omega) l hp2 _⟩
theorem zw5 (W:Two a b) {l p:Int} (l0:0<=l) (l1:l < L) (p0:0<=p) (p1:p < 64) {r14:Bool->Int->List Int->Option Int} (ag:Bool) (q:Int) (s:List Int) (q0:0<=q) (q1:q < 64) (h:ZI a b L s):
  ∃ ag' s',zbW a b l p r14 ag q s=zbW a b l p r14 ag' (q+1) s'/\ZI a b L s'/\((ag'=ag/\s'=s/\ClQ a b l p q s)\/(ag'=true/\potZ s' < potZ s)):=by
 have hl:=h.l;have hrp:=h.rng p p0 p1;have hrq:=h.rng q q0 q1;by_cases c1:ix s p=0
 ·refine ⟨ag,s,?_,h,.inl ⟨rfl,rfl,fun hh=>absurd c1 hh⟩⟩
  conv=>lhs;rw [zfF];unfold zbX
  rw [if_pos (decide_eq_true q1),zac (by omega),zac (by omega),if_pos (decide_eq_true c1),zac (by unfold fits;omega)]
 by_cases c2:ix s q=0
 ·refine ⟨ag,s,?_,h,.inl ⟨rfl,rfl,fun _ hh=>absurd c2 hh⟩⟩
  conv=>lhs;rw [zfF];unfold zbX
  rw [if_pos (decide_eq_true q1),zac (by omega),zac (by omega),if_neg (by simpa using c1),zac (by omega),zac (by omega),if_pos (decide_eq_true c2),zac (by unfold fits;omega)]
 ·have g1:=zlm W.oa W.a3 l (lo p) (lo q);have g2:=zlm W.ob W.b3 l (hi p) (hi q);have e1 : -1<=lo p:=by unfold lo;rw [if_neg (by omega)];omega
  have e2 : -1<=hi p:=by unfold hi;rw [if_neg (by omega)];omega
  obtain ⟨k1,k2⟩:=zx1 W l (q:=q) e1 e2;obtain ⟨n,hn,hn1⟩:∃ n:Int,(if 1000 < ix s p+ix s q+1 then 1000 else ix s p+ix s q+1)=n/\(n=1000/\1000 < ix s p+ix s q+1\/n=ix s p+ix s q+1/\n<=1000):=by
   by_cases c:1000 < ix s p+ix s q+1
   ·exact ⟨1000,if_pos c,.inl ⟨rfl,c⟩⟩
   ·exact ⟨_,if_neg c,.inr ⟨rfl,by omega⟩⟩
  have e3:zbW a b l p r14 ag q s=zdt ag q s (zbW a b l p r14) (VA a l (lo p) (lo q)) (VA b l (hi p) (hi q)) n:=by
   conv=>lhs;rw [zfF];unfold zbX
   rw [if_pos (decide_eq_true q1),zac (by omega),zac (by omega),if_neg (by simpa using c1),zac (by omega),zac (by omega),if_neg (by simpa using c2),zac (by decide),zac (by decide)]
   rw [<- zyC p0,<- zyC q0,<- zyw p0,<- zyw q0];refine zau k1 ?_
   have f1:fits (hi p):=by unfold hi;rw [if_neg (by omega)];unfold fits;omega
   have f2:fits (hi q):=by unfold hi;rw [if_neg (by omega)];unfold fits;omega
   rw [zac (by decide),zac f1,zac (by decide),zac f2]
   refine zau k2 ?_
   rw [zac (by omega),zac (by omega),zac (by omega),zac (by omega),zac (by unfold fits;omega),zac (by unfold fits;omega)]
   by_cases c:1000 < ix s p+ix s q+1
   ·rw [if_pos (decide_eq_true c),<- hn,if_pos c]
   ·rw [if_neg (by simpa using c),<- hn,if_neg c]
  rw [e3,zzy h g1 g2 ⟨q0,q1⟩];have ev:VA a l (lo p) (lo q)+8 * VA b l (hi p) (hi q)=V3 a b l p q:=rfl;rw [ev];have hv:=zsa W l p q;obtain ⟨m1,d1,d2,d3⟩:=h.der p p0 p1 (by omega)
  obtain ⟨m2,d4,d5,d6⟩:=h.der q q0 q1 (by omega)
  by_cases c3:ix s (V3 a b l p q)=0\/n < ix s (V3 a b l p q)
  ·rw [if_pos c3];obtain ⟨z1,z2⟩:=h.put hv.1 hv.2 (v:=n) (by omega) (by omega) (.node l l0 l1 m1 m2 p q d1 d4) (by omega) (by omega) c3
   exact ⟨true,_,rfl,z1,.inr ⟨rfl,z2⟩⟩
  ·rw [if_neg c3];have hr:=h.rng _ hv.1 hv.2;exact ⟨ag,s,rfl,h,.inl ⟨rfl,rfl,fun _ _=>by omega⟩⟩
def ClL (a b:TA) (l:Int) (s:List Int):Prop:=ix s (V3 a b l (-1) (-1))=1/\∀ p q:Int,0<=p->p < 64->0<=q->q < 64->ClQ a b l p q s
theorem zw4 (W:Two a b) {l:Int} (l0:0<=l) (l1:l < L) {r6:Bool->Int->List Int->Option Int} (ag:Bool) (s:List Int) (h:ZI a b L s):
  ∃ ag' s',zcQ a b l r6 ag 0 s=zcQ a b l r6 ag' 64 s'/\ZI a b L s'/\((ag'=ag/\s'=s/\∀ p,0<=p->p < 64->∀ q,0<=q->q < 64->ClQ a b l p q s)\/(ag'=true/\potZ s' < potZ s)):=
 ztX (N:=64) (P:=ZI a b L) (cl:=fun p s=>∀ q,0<=q->q < 64->ClQ a b l p q s) (μ:=potZ) (by omega) (fun ag p s p0 p1 h=>by
  obtain ⟨ag',s',e,h',c⟩:=ztX (N:=64) (P:=ZI a b L) (cl:=fun q s=>ClQ a b l p q s) (μ:=potZ) (L:=zbW a b l p (zcQ a b l r6)) (by omega) (fun ag q s q0 q1 h=>zw5 W l0 l1 p0 p1 ag q s q0 q1 h) ag s h
  refine ⟨ag',s',?_,h',c⟩
  conv=>lhs;rw [zjP];unfold zdb
  rw [if_pos (decide_eq_true p1),e,zfF];unfold zbX;rw [if_neg (by simp),zac (by unfold fits;omega)]) ag s h
theorem zx9 (W:Two a b) (hL:L<=4) (ha:a.1=L) {r3:Bool->List Int->Option Int} (ag:Bool) (l:Int) (s:List Int) (l0:0<=l) (l1:l < L) (h:ZI a b L s):
  ∃ ag' s',zbw a b r3 ag l s=zbw a b r3 ag' (l+1) s'/\ZI a b L s'/\((ag'=ag/\s'=s/\ClL a b l s)\/(ag'=true/\potZ s' < potZ s)):=by
 have hl:=h.l;have em:lo (-1) = -1:=by unfold lo;rw [if_pos (by omega)]
 have eh:hi (-1) = -1:=by unfold hi;rw [if_pos (by omega)]
 have g1:=zlm W.oa W.a3 l (lo (-1)) (lo (-1));have g2:=zlm W.ob W.b3 l (hi (-1)) (hi (-1));obtain ⟨k1,k2⟩:=zx1 W l (p := -1) (q := -1) (by rw [em];omega) (by rw [eh];omega)
 have hv:=zsa W l (-1) (-1);have ev:VA a l (lo (-1)) (lo (-1))+8 * VA b l (hi (-1)) (hi (-1))=V3 a b l (-1) (-1):=rfl;have hr:=h.rng _ hv.1 hv.2;rw [em] at k1 g1 ev;rw [eh] at k2 g2 ev;have J:∀ ag s,ZI a b L s->∃ ag' s',zcP a b l (zbw a b r3) ag s=zbw a b r3 ag' (l+1) s'/\ZI a b L s'/\((ag'=ag/\s'=s/\∀ p,0<=p->p < 64->∀ q,0<=q->q < 64->ClQ a b l p q s)\/(ag'=true/\potZ s' < potZ s)):=fun ag s h=>by
  obtain ⟨ag',s',e,h',c⟩:=zw4 W l0 l1 (r6:=zbw a b r3) ag s h;refine ⟨ag',s',?_,h',c⟩
  unfold zcP;rw [e,zjP];unfold zdb;rw [if_neg (by simp),zac (by unfold fits;omega)]
 have e3:zbw a b r3 ag l s=if ¬ ix s (V3 a b l (-1) (-1))=1 then zcP a b l (zbw a b r3) true (s.set (V3 a b l (-1) (-1)).toNat 1) else zcP a b l (zbw a b r3) ag s:=by
  conv=>lhs;rw [zky];unfold zdJ
  rw [if_pos (decide_eq_true (by omega))]
  refine zau k1 (zau k2 ?_)
  rw [ev,zac (by unfold fits;omega),zac (by unfold PC at hv;unfold fits;omega),zac (by unfold PC at hv;omega),zac (by unfold PC at hv;omega)]
  by_cases c:ix s (V3 a b l (-1) (-1))=1
  ·rw [if_neg (by simp [c]),if_neg (by simp [c])]
  ·rw [if_pos (by simpa using c),if_pos c,zac (by unfold fits;omega),zac (by unfold PC at hv;unfold fits;omega),zac (by unfold PC at hv;omega),zac (by unfold PC at hv;omega)]
 rw [e3];by_cases c:ix s (V3 a b l (-1) (-1))=1
 ·rw [if_neg (by simp [c])]
  obtain ⟨ag',s',e,h',cc⟩:=J ag s h;exact ⟨ag',s',e,h',cc.imp (fun ⟨x1,x2,x3⟩=>⟨x1,x2,c,fun p q p0 p1 q0 q1=>x3 p p0 p1 q q0 q1⟩) id⟩
 ·rw [if_pos c];obtain ⟨z1,z2⟩:=h.put hv.1 hv.2 (v:=1) (by omega) (by omega) (.leaf l l0 l1) (fun _=>rfl) (by omega) (by omega)
  obtain ⟨ag',s',e,h',cc⟩:=J true _ z1;refine ⟨ag',s',e,h',.inr ?_⟩
  rcases cc with ⟨x1,x2,_⟩ | ⟨x1,x2⟩
  ·exact ⟨x1,by rw [x2];exact z2⟩
  ·exact ⟨x1,by omega⟩
theorem zuT (W:Two a b) (hL:L<=4) (hL0:0<=L) (ha:a.1=L):∃ r,zmL a b=some r/\((r=0/\∀ m k,DerV (V3 a b) L m k -> ¬ Apt a b k)\/(0 < r/\(∃ m k,DerV (V3 a b) L m k/\Apt a b k/\(r < 1000->m=r))/\∀ m k,DerV (V3 a b) L m k->Apt a b k->r<=m)):=by
 obtain ⟨s,e,h,hc⟩:=zwT (N:=L) (P:=ZI a b L) (cl:=fun l s=>ClL a b l s) (μ:=potZ) (O:=zg0 a b) (L:=zbw a b (zg0 a b)) hL0 (fun s _=>by
   rw [zkw];unfold zdI;rw [if_pos rfl]) (fun ag l s l0 l1 h=>zx9 W hL ha ag l s l0 l1 h) (fun ag s h=>by
   rw [zky];unfold zdJ;rw [if_neg (by simp only [decide_eq_true_eq];omega)]) (s:=List.replicate (64:Int).toNat 0) ⟨by decide,fun k k0 k1=>by rw [zim k0 (by omega)];omega,fun k k0 k1 hk=>by rw [zim k0 (by omega)] at hk;omega⟩
 have hl:=h.l;have dr:∀ m k,DerV (V3 a b) L m k->PC k/\0 < ix s k/\ix s k<=m:=by
  intro m k hd
  induction hd with
  | leaf x x0 x1=>
   have:=(hc x x0 x1).1;exact ⟨zsa W _ _ _,by omega,by omega⟩
  | node x x0 x1 m n p q hp hq ih1 ih2=>
   obtain ⟨p1,p2,p3⟩:=ih1;obtain ⟨q1,q2,q3⟩:=ih2;have:=(hc x x0 x1).2 p q p1.1 p1.2 q1.1 q1.2 (by omega) (by omega)
   exact ⟨zsa W _ _ _,this.1,by omega⟩
 have k30:∀ (n:Nat) (t best:Int),0<=t->t+n=64->((best=0/\∀ k:Int,0<=k->k < t->Apt a b k->ix s k=0)\/(0 < best/\(∃ k:Int,0<=k/\k < 64/\Apt a b k/\ix s k=best)/\∀ k:Int,0<=k->k < t->Apt a b k->0 < ix s k->best<=ix s k))->
   ∃ r,zfb a b s best t=some r/\((r=0/\∀ k:Int,0<=k->k < 64->Apt a b k->ix s k=0)\/(0 < r/\(∃ k:Int,0<=k/\k < 64/\Apt a b k/\ix s k=r)/\∀ k:Int,0<=k->k < 64->Apt a b k->0 < ix s k->r<=ix s k)):=by
  intro n
  induction n with
  | zero=>
   intro t best t0 ht hb;obtain rfl:t=64:=by omega
   refine ⟨best,?_,hb⟩
   rw [zjQ];unfold zdc;rw [if_neg (by simp)]
  | succ n ih=>
   intro t best t0 ht hb;have hr:=h.rng t t0 (by omega)
   obtain ⟨g1,e1,i1⟩:=zqY (a:=a) W.oa.mks (by have:=W.oa.st;omega) (lo t)
   obtain ⟨g2,e2,i2⟩:=zqY (a:=b) W.ob.mks (by have:=W.ob.st;omega) (hi t)
   have f1:fits (hi t):=by unfold hi;rw [if_neg (by omega)];unfold fits;omega
   have f2:fits (t+1):=by unfold fits;omega
   have hA:Apt a b t↔g1=true /\ ¬ g2=true:=by unfold Apt;rw [i1,i2]
   have skip:(¬ (Apt a b t/\0 < ix s t/\(best=0\/ix s t < best)))->∃ r,zfb a b s best (t+1)=some r/\((r=0/\∀ k:Int,0<=k->k < 64->Apt a b k->ix s k=0)\/(0 < r/\(∃ k:Int,0<=k/\k < 64/\Apt a b k/\ix s k=r)/\∀ k:Int,0<=k->k < 64->Apt a b k->0 < ix s k->r<=ix s k)):=fun hno=>by
    refine ih (t+1) best (by omega) (by omega) ?_
    rcases hb with ⟨b0,b1⟩ | ⟨b0,b1,b2⟩
    ·refine .inl ⟨b0,fun k k0 k1 hk => ?_⟩
     by_cases ek:k=t
     ·subst ek;exact Classical.byContradiction fun hz=>hno ⟨hk,by omega,.inl b0⟩
     ·exact b1 k k0 (by omega) hk
    ·refine .inr ⟨b0,b1,fun k k0 k1 hk hz => ?_⟩
     by_cases ek:k=t
     ·subst ek;exact Classical.byContradiction fun hlt=>hno ⟨hk,hz,.inr (by omega)⟩
     ·exact b2 k k0 (by omega) hk hz
   have take:Apt a b t->0 < ix s t->(best=0\/ix s t < best)->∃ r,zfb a b s (ix s t) (t+1)=some r/\((r=0/\∀ k:Int,0<=k->k < 64->Apt a b k->ix s k=0)\/(0 < r/\(∃ k:Int,0<=k/\k < 64/\Apt a b k/\ix s k=r)/\∀ k:Int,0<=k->k < 64->Apt a b k->0 < ix s k->r<=ix s k)):=fun hk hz hbt=>by
    refine ih (t+1) (ix s t) (by omega) (by omega) (.inr ⟨hz,⟨t,t0,by omega,hk,rfl⟩,fun k k0 k1 hk2 hz2 => ?_⟩)
    by_cases ek:k=t
    ·subst ek;exact Int.le_refl _
    ·rcases hb with ⟨b0,b1⟩ | ⟨b0,b1,b2⟩
     ·have:=b1 k k0 (by omega) hk2;omega
     ·have:=b2 k k0 (by omega) hk2 hz2;omega
   rw [zjQ];unfold zdc;rw [if_pos (decide_eq_true (by omega)),zac (by decide),<- zyC t0,<- zyw t0]
   have ea:(a.1,a.2.1,a.2.2.1,a.2.2.2.1,a.2.2.2.2.1,())=a:=rfl;have eb:(b.1,b.2.1,b.2.2.1,b.2.2.2.1,b.2.2.2.2.1,())=b:=rfl;rw [ea,eb,e1,Option.bind_some,zac (by decide),zac f1,e2,Option.bind_some,zac (by omega),zac (by omega)]
   by_cases c1:0 < ix s t
   ·rw [if_pos (decide_eq_true c1)]
    cases g1 with
    | false=>rw [if_neg (by simp),zac f2];exact skip fun hh=>by simpa using hA.1 hh.1
    | true=>
     rw [if_pos rfl]
     cases g2 with
     | true=>rw [if_neg (by simp),zac f2];exact skip fun hh=>by simpa using hA.1 hh.1
     | false=>
      have hk:Apt a b t:=hA.2 ⟨rfl,by simp⟩
      rw [if_pos (by simp)]
      by_cases c2:best=0
      ·rw [if_pos (decide_eq_true c2),zac (by omega),zac (by omega),zac f2];exact take hk c1 (.inl c2)
      ·rw [if_neg (by simpa using c2),zac (by omega),zac (by omega)]
       by_cases c3:ix s t < best
       ·rw [if_pos (decide_eq_true c3),zac (by omega),zac (by omega),zac f2];exact take hk c1 (.inr c3)
       ·rw [if_neg (by simpa using c3),zac f2];exact skip fun hh=>hh.2.2.elim c2 c3
   ·rw [if_neg (by simpa using c1),zac f2];exact skip fun hh=>c1 hh.2.1
 obtain ⟨r,er,hr⟩:=k30 64 0 0 (by omega) (by omega) (.inl ⟨rfl,fun k k0 k1=>by omega⟩)
 refine ⟨r,?_,?_⟩
 ·unfold zmL;rw [zac (by unfold mkOK;omega),e,zkw];unfold zdI
  rw [if_neg (by simp)];exact er
 ·rcases hr with ⟨r0,r1⟩ | ⟨r0,⟨k,k0,k1,k2,k3⟩,r2⟩
  ·refine .inl ⟨r0,fun m k hd hk => ?_⟩
   obtain ⟨d1,d2,d3⟩:=dr m k hd;have:=r1 k d1.1 d1.2 hk;omega
  ·obtain ⟨m,d1,d2,d3⟩:=h.der k k0 k1 (by omega)
   refine .inr ⟨r0,⟨m,k,d1,k2,fun hlt=>by have:=d2 (by omega);omega⟩,fun m k hd hk => ?_⟩
   obtain ⟨d1,d2,d3⟩:=dr m k hd;have:=r2 k d1.1 d1.2 hk d2;omega
end
section
variable {a b:TA} {L:Int} {l:List Int} {rules:List Rl} {marks:List Int}
abbrev mdO (L:Int) (l:List Int) (rules:List Rl) (marks:List Int):TA:=(L,(l.length:Int),rules,0,marks,())
theorem valm (l:List Int):zef l (-1) = -1:=by unfold zef;rw [if_pos (by omega)]
theorem zzE (h:Made a b L l rules marks) {m i:Int} (hd:Der (mdO L l rules marks) m i):(0<=i/\i < l.length)/\DerV (V3 a b) L m (ix l i):=by
 induction hd with
 | leaf k k0 k1 hl=>
  dsimp only at k1 hl ⊢;obtain ⟨⟨x0,x1⟩,g2,g3,g4,g5⟩:=h.r _ (zhu k0 k1);refine ⟨⟨g3,g4⟩,?_⟩
  have e:(ix rules k).2.1 = -1/\(ix rules k).2.2.1 = -1:=by omega
  rw [g5,e.1,e.2,valm];exact .leaf _ x0 x1
 | node k k0 k1 hl m n hm hn ih1 ih2=>
  dsimp only at k1 hl ih1 ih2 ⊢;obtain ⟨⟨x0,x1⟩,g2,g3,g4,g5⟩:=h.r _ (zhu k0 k1);refine ⟨⟨g3,g4⟩,?_⟩
  rw [g5,zew (by omega),zew (by omega)]
  exact .node _ x0 x1 m n _ _ ih1.2 ih2.2
theorem zxW (h:Made a b L l rules marks) {m s:Int} (hd:DerV (V3 a b) L m s):∃ i:Int,0<=i/\i < l.length/\ix l i=s/\Der (mdO L l rules marks) m i:=by
 have pick:∀ r∈rules,∃ k:Int,0<=k/\k < rules.length/\ix rules k=r:=fun r hr=>(zmh (P:=fun y=>y=r)).1 ⟨r,hr,rfl⟩
 induction hd with
 | leaf x x0 x1=>
  obtain ⟨r,hr,ek⟩:=h.all (x,-1,-1) (.inl ⟨x0,x1,rfl,rfl⟩);obtain ⟨k,k0,k1,er⟩:=pick r hr;rw [zju] at ek;unfold zjt at ek;dsimp only at ek;obtain ⟨_,_,g3,g4,g5⟩:=h.r r hr;refine ⟨r.2.2.2.1,g3,g4,by rw [g5,ek.1,ek.2.1,ek.2.2,valm],?_⟩
  have:=Der.leaf (a:=mdO L l rules marks) k k0 k1 (by dsimp only;rw [er,ek.2.1];omega)
  dsimp only at this;rw [er] at this;exact this
 | node x x0 x1 m n p q hp hq ih1 ih2=>
  obtain ⟨i1,i10,i11,e1,d1⟩:=ih1;obtain ⟨i2,i20,i21,e2,d2⟩:=ih2;obtain ⟨r,hr,ek⟩:=h.all (x,i1,i2) (.inr ⟨x0,x1,i10,i11,i20,i21⟩);obtain ⟨k,k0,k1,er⟩:=pick r hr;rw [zju] at ek;unfold zjt at ek;dsimp only at ek;obtain ⟨_,_,g3,g4,g5⟩:=h.r r hr;refine ⟨r.2.2.2.1,g3,g4,by rw [g5,ek.1,ek.2.1,ek.2.2,zew i10,zew i20,e1,e2],?_⟩
  have:=Der.node (a:=mdO L l rules marks) k k0 k1 (by dsimp only;rw [er,ek.2.1];exact i10) m n (by dsimp only;rw [er,ek.2.1];exact d1) (by dsimp only;rw [er,ek.2.2];exact d2)
  dsimp only at this;rw [er] at this;exact this
theorem lo_V3 (W:Two a b) (x p q:Int):lo (V3 a b x p q)=VA a x (lo p) (lo q)/\hi (V3 a b x p q)=VA b x (hi p) (hi q):=by
 have g1:=zlm W.oa W.a3 x (lo p) (lo q);have g2:=zlm W.ob W.b3 x (hi p) (hi q);have e:V3 a b x p q=VA a x (lo p) (lo q)+8 * VA b x (hi p) (hi q):=rfl;have h0 : ¬ V3 a b x p q < 0:=by omega
 generalize VA a x (lo p) (lo q)=A at *
 generalize VA b x (hi p) (hi q)=B at *
 unfold lo hi;rw [if_neg h0,if_neg h0];omega
theorem side (ok:Ok0 a) {t:List Nd} {j:Int} {ca:List (List Bool)} (nd:(ix t j).2.1 = -1/\(ix t j).2.2.1 = -1\/0<=(ix t j).2.1/\0<=(ix t j).2.2.1)
  (ma:∀ q:Int,0<=q->q < a.2.1->(ix (ix ca j) q=true↔∃ k:Int,0<=k/\k < a.2.2.1.length/\Use (ix t j) ca (ix a.2.2.1 k)/\(ix a.2.2.1 k).2.2.2.1=q))
  {p p':Int} (hp:(ix t j).2.1 = -1/\p = -1 \/ ¬ (ix t j).2.1 = -1/\0<=p) (h1 : ¬ (ix t j).2.1 = -1->∀ q:Int,0<=q->q < a.2.1->(bitP p q↔ix (ix ca (ix t j).2.1) q=true)) (h2 : ¬ (ix t j).2.1 = -1->∀ q:Int,0<=q->q < a.2.1->(bitP p' q↔ix (ix ca (ix t j).2.2.1) q=true)) (h3:a.2.1<=3):
  ∀ q:Int,0<=q->q < a.2.1->(bitP (VA a (ix t j).1 p p') q↔ix (ix ca j) q=true):=by
 intro q q0 q1;have hst:=ok.st;unfold VA;rw [(zm3 a (N:=a.2.1.toNat) (by omega) _ p p').2 q q0 (by omega),ma q q0 q1]
 have key:∀ k:Int,0<=k->k < a.2.2.1.length->(Fits (ix t j).1 p p' (ix a.2.2.1 k)↔Use (ix t j) ca (ix a.2.2.1 k)):=fun k k0 k1=>by
  have hb:=ok.rb k k0 k1;unfold RBad at hb;unfold Fits Use;rcases hp with ⟨c,ep⟩ | ⟨c,ep⟩
  ·constructor
   ·rintro ⟨u1,u2,_⟩;have:(ix a.2.2.1 k).2.1 = -1:=by have:=u2.2 (by omega);omega
    exact ⟨u1,⟨fun _=>c,fun _=>this⟩,.inl this⟩
   ·rintro ⟨u1,u2,_⟩;have:=u2.2 c;exact ⟨u1,⟨fun _=>by omega,fun _=>by omega⟩,.inl (by omega)⟩
  ·constructor
   ·rintro ⟨u1,u2,u3⟩;have hne : ¬ (ix a.2.2.1 k).2.1 < 0:=fun e=>by have:=u2.1 e;omega
    obtain ⟨v1,v2⟩:=u3.resolve_left (by omega)
    exact ⟨u1,⟨fun e=>by omega,fun e=>absurd e c⟩,.inr ⟨(h1 c _ (by omega) (by omega)).1 v1,(h2 c _ (by omega) (by omega)).1 v2⟩⟩
   ·rintro ⟨u1,u2,u3⟩;have hne : ¬ (ix a.2.2.1 k).2.1 = -1:=fun e=>c (u2.1 e)
    obtain ⟨v1,v2⟩:=u3.resolve_left hne;exact ⟨u1,⟨fun e=>by omega,fun e=>by omega⟩,.inr ⟨(h1 c _ (by omega) (by omega)).2 v1,(h2 c _ (by omega) (by omega)).2 v2⟩⟩
 unfold zxO;constructor
 ·rintro ⟨k,k0,k1,f,e⟩;exact ⟨k,k0,k1,(key k k0 k1).1 f,e⟩
 ·rintro ⟨k,k0,k1,f,e⟩;exact ⟨k,k0,k1,(key k k0 k1).2 f,e⟩
theorem zqx (W:Two a b) (h:Made a b L l rules marks) {t:List Nd} (oka:Ok a t) (okb:Ok b t) (oko:Ok (mdO L l rules marks) t) (hlet:∀ j:Int,0<=j->j < t.length->0<=(ix t j).1/\(ix t j).1 < L):
  ∃ ba bb bo,zbN a (t,())=some ba/\zbN b (t,())=some bb/\zbN (mdO L l rules marks) (t,())=some bo/\(bo=true↔ba=true /\ ¬ bb=true)/\(bo=true->∃ i:Int,0<=i/\i < l.length/\ix marks i=1):=by
 have hn:=oka.n;have h3:=W.a3;have h4:=W.b3;obtain ⟨ca,ba,e1,r1,i1⟩:=zke oka;obtain ⟨cb,bb,e2,r2,i2⟩:=zke okb;obtain ⟨co,bo,e3,r3,i3⟩:=zke oko;dsimp only at i3;have key:∀ (m:Nat) (j:Int),j.toNat < m->0<=j->j < t.length->∃ i:Int,0<=i/\i < l.length/\(∀ q:Int,0<=q->q < l.length->(ix (ix co j) q=true↔q=i))/\(∀ q:Int,0<=q->q < a.2.1->(bitP (lo (ix l i)) q↔ix (ix ca j) q=true))/\(∀ q:Int,0<=q->q < b.2.1->(bitP (hi (ix l i)) q↔ix (ix cb j) q=true)):=by
  intro m
  induction m with
  | zero=>intro j hj;omega
  | succ m ih=>
   intro j hj j0 j1;have nd:=oka.nd j j0 j1;obtain ⟨x0,x1⟩:=hlet j j0 j1;have ma:=r1.m j j0 j1;have mb:=r2.m j j0 j1;have mo:=r3.m j j0 j1;dsimp only at mo;have fin:∀ (p p':Int),D11 L l.length ((ix t j).1,p,p')->
     (∀ r∈rules,Use (ix t j) co r↔zjt r=((ix t j).1,p,p'))->
     (∀ q:Int,0<=q->q < a.2.1->(bitP (VA a (ix t j).1 (lo (zef l p)) (lo (zef l p'))) q↔ix (ix ca j) q=true))->
     (∀ q:Int,0<=q->q < b.2.1->(bitP (VA b (ix t j).1 (hi (zef l p)) (hi (zef l p'))) q↔ix (ix cb j) q=true))->
     ∃ i:Int,0<=i/\i < l.length/\(∀ q:Int,0<=q->q < l.length->(ix (ix co j) q=true↔q=i))/\(∀ q:Int,0<=q->q < a.2.1->(bitP (lo (ix l i)) q↔ix (ix ca j) q=true))/\(∀ q:Int,0<=q->q < b.2.1->(bitP (hi (ix l i)) q↔ix (ix cb j) q=true)):=by
    intro p p' hD hu hA hB;obtain ⟨r0,hr0,k0⟩:=h.all _ hD;obtain ⟨_,_,g3,g4,g5⟩:=h.r r0 hr0;have kk:r0.1=(ix t j).1/\r0.2.1=p/\r0.2.2.1=p':=by
     have:=zju.1 k0;unfold zjt at this;exact this
    rw [kk.1,kk.2.1,kk.2.2] at g5;obtain ⟨v1,v2⟩:=lo_V3 W (ix t j).1 (zef l p) (zef l p');refine ⟨r0.2.2.2.1,g3,g4,fun q q0 q1 => ?_,fun q q0 q1=>by rw [g5,v1];exact hA q q0 q1,fun q q0 q1=>by rw [g5,v2];exact hB q q0 q1⟩
    rw [mo q q0 q1];constructor
    ·rintro ⟨k,k0',k1,u,eq⟩;have hm:=zhu (l:=rules) k0' k1;rw [<- eq,h.one _ hm _ hr0 (((hu _ hm).1 u).trans k0.symm)]
    ·intro eq;obtain ⟨k,kk0,kk1,ek⟩:=(zmh (P:=fun y=>y=r0)).1 ⟨r0,hr0,rfl⟩
     exact ⟨k,kk0,kk1,by rw [ek];exact (hu _ hr0).2 k0,by rw [ek,eq]⟩
   have em:lo (-1) = -1:=by unfold lo;rw [if_pos (by omega)]
   have eh:hi (-1) = -1:=by unfold hi;rw [if_pos (by omega)]
   by_cases c:(ix t j).2.1 = -1
   ·refine fin (-1) (-1) (.inl ⟨x0,x1,rfl,rfl⟩) (fun r hr => ?_) ?_ ?_
    ·obtain ⟨_,g2,_⟩:=h.r r hr;unfold Use;rw [zju];unfold zjt;dsimp only;constructor
     ·rintro ⟨u1,u2,_⟩;have:=u2.2 c;exact ⟨u1,this,by omega⟩
     ·rintro ⟨u1,u2,_⟩;exact ⟨u1,⟨fun _=>c,fun _=>u2⟩,.inl u2⟩
    ·rw [valm,em];exact side W.oa (by omega) ma (.inl ⟨c,rfl⟩) (fun hc=>absurd c hc) (fun hc=>absurd c hc) h3
    ·rw [valm,eh];exact side W.ob (by omega) mb (.inl ⟨c,rfl⟩) (fun hc=>absurd c hc) (fun hc=>absurd c hc) h4
   ·obtain ⟨p0,p1,q0,q1⟩:=nd.resolve_left fun hh=>c hh.1
    obtain ⟨n1,n10,n11,ho1,ha1,hb1⟩:=ih (ix t j).2.1 (by omega) p0 (by omega)
    obtain ⟨n2,n20,n21,ho2,ha2,hb2⟩:=ih (ix t j).2.2.1 (by omega) q0 (by omega)
    have w1:=(h.set _ (zhu n10 n11)).1;have lo0:0<=lo (ix l n1):=by unfold PC at w1;unfold lo;rw [if_neg (by omega)];omega
    have hi0:0<=hi (ix l n1):=by unfold PC at w1;unfold hi;rw [if_neg (by omega)];omega
    refine fin n1 n2 (.inr ⟨x0,x1,n10,n11,n20,n21⟩) (fun r hr => ?_) ?_ ?_
    ·obtain ⟨_,g2,_⟩:=h.r r hr;unfold Use;rw [zju];unfold zjt;dsimp only;constructor
     ·rintro ⟨u1,u2,u3⟩;have hne : ¬ r.2.1 = -1:=fun e=>c (u2.1 e)
      obtain ⟨v1,v2⟩:=u3.resolve_left hne;exact ⟨u1,(ho1 _ (by omega) (by omega)).1 v1,(ho2 _ (by omega) (by omega)).1 v2⟩
     ·rintro ⟨u1,u2,u3⟩;exact ⟨u1,⟨fun e=>by omega,fun e=>absurd e c⟩,.inr ⟨(ho1 _ (by omega) (by omega)).2 u2,(ho2 _ (by omega) (by omega)).2 u3⟩⟩
    ·rw [zew n10,zew n20];exact side W.oa (.inr ⟨p0,q0⟩) ma (.inr ⟨c,lo0⟩) (fun _=>ha1) (fun _=>ha2) h3
    ·rw [zew n10,zew n20];exact side W.ob (.inr ⟨p0,q0⟩) mb (.inr ⟨c,hi0⟩) (fun _=>hb1) (fun _=>hb2) h4
 obtain ⟨i,i0,il,ho,ha,hb⟩:=key _ ((t.length:Int) - 1) (Nat.lt_succ_self _) (by omega) (by omega)
 have hmk:=(h.mq i i0 il).2;have k1:bo=true↔ix marks i=1:=by
  rw [i3];constructor
  ·rintro ⟨q,q0,q1,w1,w2⟩;rw [(ho q q0 q1).1 w1] at w2;exact w2
  ·intro hh;exact ⟨i,i0,il,(ho i i0 il).2 rfl,hh⟩
 have k2:ba=true↔Good a (lo (ix l i)):=by
  rw [i1];unfold Good;constructor
  ·rintro ⟨q,q0,q1,w1,w2⟩;exact ⟨q,q0,q1,w2,(ha q q0 q1).2 w1⟩
  ·rintro ⟨q,q0,q1,w1,w2⟩;exact ⟨q,q0,q1,(ha q q0 q1).1 w2,w1⟩
 have k3:bb=true↔Good b (hi (ix l i)):=by
  rw [i2];unfold Good;constructor
  ·rintro ⟨q,q0,q1,w1,w2⟩;exact ⟨q,q0,q1,w2,(hb q q0 q1).2 w1⟩
  ·rintro ⟨q,q0,q1,w1,w2⟩;exact ⟨q,q0,q1,(hb q q0 q1).1 w2,w1⟩
 refine ⟨ba,bb,bo,e1,e2,e3,?_,fun hh=>⟨i,i0,il,k1.1 hh⟩⟩
 rw [k1,hmk];unfold Apt;rw [k2,k3]
end
theorem zqN {le:Int} {t:List Nd} (h2:ttE le t=0):∀ j:Int,0<=j->j < t.length->0<=(ix t j).1/\(ix t j).1 < le:=fun j j0 j1=>by
 unfold ttE at h2;by_cases d1:le < 1
 ·rw [if_pos d1] at h2;cases h2
 rw [if_neg d1] at h2;by_cases d2:4 < le
 ·rw [if_pos d2] at h2;cases h2
 rw [if_neg d2] at h2;by_cases d3:(t.length:Int) < 1
 ·rw [if_pos d3] at h2;cases h2
 rw [if_neg d3] at h2;by_cases d4:60 < (t.length:Int)
 ·rw [if_pos d4] at h2;cases h2
 rw [if_neg d4] at h2;have:=zrO _ _ _ h2 j j0 (by omega)
 exact ⟨this.1,this.2.1⟩
theorem zrb {s:List Int} (hs:s.length<=4611686018427387904) (v:Int):∃ b,zgk s v=some b/\(b=true↔∃ x∈s,v=x):=
 zeU.iff (zlq (f:=fun x=>some (decide (v=x))) (P:=fun x=>v=x) (zm1 s v) hs (fun x _=>⟨_,rfl,decide_eq_true_iff⟩)) Iff.rfl
theorem law_true (a b:TA) (t:List Nd×Unit):ziJ a b t=some true:=by
 obtain ⟨t,u⟩:=t;have ea:(a.1,a.2.1,a.2.2.1,a.2.2.2.1,a.2.2.2.2.1,())=a:=rfl;have eb:(b.1,b.2.1,b.2.2.1,b.2.2.2.1,b.2.2.2.2.1,())=b:=rfl;have bad:∀ (e least:Int),e≠0->zbs a b (t,u) ([],()) false e e least=some true:=fun e least he=>by
  unfold zbs;rw [if_pos (by simpa using he),if_pos (by simp),if_pos (by simp)]
  simp
 have bad8:∀ e:Int,e≠0->zd5 a b (t,u) ([],()) false e e=some true:=fun e he=>by
  unfold zd5;rw [if_neg (by simpa using he)]
  exact bad e 0 he
 have bad7:∀ e:Int,e≠0->zby a b (t,u) ([],()) false e e false=some true:=fun e he=>by
  unfold zby;rw [if_neg (by simp)];exact bad8 e he
 have bad6:∀ e:Int,e≠0->zc8 a b (t,u) ([],()) false e e=some true:=fun e he=>by
  unfold zc8;rw [if_neg (by simpa using he)];exact bad7 e he
 have bad4:∀ e:Int,e≠0->zbO a b (t,u) ([],()) false e e=some true:=fun e he=>by
  unfold zbO zc7;rw [if_neg (by simpa using he),if_neg (by simp)];exact bad6 e he
 have len2:(([a,b]:List TA).length:Int)=2:=rfl;have x0:ix [a,b] 0=a:=rfl;have x1:ix [a,b] 1=b:=rfl;unfold ziJ;rw [ea,eb];by_cases h1:taE a=0
 ·by_cases h2:taE b=0
  ·-- both may be
   have ok1:=zsP h1;have ok2:=zsP h2;have hla:=zpY h1;have go:zfR a b=(if decide (¬ a.1=b.1)=true then some (([],()),false,(3:Int)) else
     if decide (3 < a.2.1)=true then some (([],()),false,(1:Int)) else
     if decide (3 < b.2.1)=true then some (([],()),false,(1:Int)) else
     if decide (2 < a.1)=true then some (([],()),false,(1:Int)) else
     (zkQ a.1 a b a b).bind (fun y=>(zjm y).bind (fun z=>
      if (!z.2.1)=true then (zgk y.2.2.2.2.1 (1:Int)).bind (fun c=>if c=true then some (([],()),false,(7:Int)) else some ((z.1.1,()),!z.2.1,(0:Int))) else some ((z.1.1,()),!z.2.1,(0:Int))))):=by
    unfold zfR;rw [zc9];unfold zbi;rw [ea,eb,len2,if_pos (by simp),zac (by decide),zac (by simp),x0,ea]
    refine zau ze7 ?_
    rw [h1,if_neg (by simp),zac (by decide),zc9];unfold zbi
    rw [ea,eb,len2,if_pos (by simp),zac (by decide),zac (by simp),show ix [a,b] (0+1)=b from rfl,eb]
    refine zau ze7 ?_
    rw [h2,if_neg (by simp),zac (by decide),zc9];unfold zbi
    rw [ea,eb,len2,if_neg (by simp)]
   by_cases cl:a.1=b.1
   ·by_cases cs:3 < a.2.1\/3 < b.2.1\/2 < a.1
    ·refine zau (y:=(([],()),false,1)) ?_ ?_
     ·rw [go,if_neg (by simpa using cl)]
      by_cases d1:3 < a.2.1
      ·rw [if_pos (decide_eq_true d1)]
      rw [if_neg (by simpa using d1)]
      by_cases d2:3 < b.2.1
      ·rw [if_pos (decide_eq_true d2)]
      rw [if_neg (by simpa using d2),if_pos (decide_eq_true (by omega))]
     refine zau zbl ?_
     rw [h1,if_pos (by simp)]
     refine zau zbl ?_
     rw [h2];have e7:zby a b (t,u) ([],()) false 1 0 true=some true:=by
      unfold zby;rw [if_pos rfl];exact bad8 1 (by decide)
     unfold zbO zc7 zc8;rw [if_pos (by simp),if_neg (by simpa using cl),if_pos (by simp)]
     by_cases d1:3 < a.2.1
     ·rw [if_pos (decide_eq_true d1)];exact e7
     rw [if_neg (by simpa using d1)]
     by_cases d2:3 < b.2.1
     ·rw [if_pos (decide_eq_true d2)];exact e7
     rw [if_neg (by simpa using d2),decide_eq_true (show 2 < a.1 by omega)];exact e7
    ·have W:Two a b:=⟨ok1,ok2,by omega,by omega⟩
     obtain ⟨l,rules,marks,es,hM⟩:=zwW W (L:=a.1) (by omega)
     have hok:=hM.ok (L:=a.1) (by omega)
     obtain ⟨s,bb,eg,g1,g2⟩:=zp2 (zsP hok);obtain ⟨Lt,f,et,hf⟩:=zqv hok ⟨g1,g2⟩ eg;obtain ⟨r,er,hr⟩:=zuT W (L:=a.1) (by omega) (by omega) rfl
     obtain ⟨cb,ec,hc⟩:=zrb (s:=marks) (by have:=hM.lm;have:=hM.n;omega) 1
     have hcb:cb=true↔∃ i:Int,0<=i/\i < l.length/\ix marks i=1:=by
      rw [hc];constructor
      ·rintro ⟨x,hx,e⟩;obtain ⟨i,i0,i1,ei⟩:=(zmh (P:=fun y=>y=x)).1 ⟨x,hx,rfl⟩
       exact ⟨i,i0,by have:=hM.lm;omega,by rw [ei,e]⟩
      ·rintro ⟨i,i0,i1,ei⟩;exact ⟨_,zhu i0 (by have:=hM.lm;omega),ei.symm⟩
     have hmk:∀ i:Int,0<=i->i < l.length->(ix marks i=1↔Apt a b (ix l i)):=fun i i0 i1=>(hM.mq i i0 i1).2
     have eW:zfR a b=(if (!f)=true then (if cb=true then some (([],()),false,(7:Int)) else some ((Lt,()),!f,(0:Int))) else some ((Lt,()),!f,(0:Int))):=by
      rw [go,if_neg (by simpa using cl),if_neg (by simp;omega),if_neg (by simp;omega),if_neg (by simp;omega)]
      refine zau es (zau et ?_)
      dsimp only;rw [ec];rfl
     have down:∀ e:Int,e=0->∀ (y:List Nd×Unit) (w:Bool) (e2:Int),zbO a b (t,u) y w e2 0=(if 60 < r then zbs a b (t,u) y w e2 7 r else zbs a b (t,u) y w e2 0 r):=fun _ _ y w e2=>by
      unfold zbO zc7 zc8 zby zd5;rw [if_pos (by simp),if_neg (by simpa using cl),if_pos (by simp),if_neg (by simp;omega),if_neg (by simp;omega),if_neg (by simp;omega),if_pos (by simp),ea,eb]
      refine zau er ?_
      by_cases c60:60 < r
      ·rw [if_pos (decide_eq_true c60),if_pos c60]
      ·rw [if_neg (by simpa using c60),if_neg c60]
     have fyes:f=true->∃ m k,DerV (V3 a b) a.1 m k/\Apt a b k/\m<=60/\0 < r:=fun hft=>by
      rcases hf with ⟨h,_⟩ | ⟨_,l1,l2,⟨q,q0,q1,q2,q3⟩,_⟩
      ·rw [h] at hft;cases hft
      ·dsimp only at q1 q3;have hd:=g1.der q q0 q1 (by omega)
       obtain ⟨_,hv⟩:=zzE hM hd;refine ⟨_,_,hv,(hmk q q0 q1).1 q3,by omega,?_⟩
       rcases hr with ⟨_,hh⟩ | ⟨h,_⟩
       ·exact absurd ((hmk q q0 q1).1 q3) (hh _ _ hv)
       ·exact h
     by_cases c60:60 < r
     ·-- too large a tree
      have hff:f=false:=by
       cases f with
       | false=>rfl
       | true=>
        obtain ⟨m,k,hd,hk,hm,_⟩:=fyes rfl;rcases hr with ⟨r0,_⟩ | ⟨_,_,hh⟩
        ·omega
        ·have:=hh m k hd hk;omega
      have hct:cb=true:=by
       rw [hcb];rcases hr with ⟨r0,_⟩ | ⟨_,⟨m,k,hd,hk,_⟩,_⟩
       ·omega
       ·obtain ⟨i,i0,i1,ei,_⟩:=zxW hM hd;exact ⟨i,i0,i1,(hmk i i0 i1).2 (by rw [ei];exact hk)⟩
      refine zau (y:=(([],()),false,7)) (by rw [eW,hff,hct];rfl) ?_
      refine zau zbl ?_
      rw [h1,if_pos (by simp)]
      refine zau zbl ?_
      rw [h2,down 0 rfl,if_pos c60];exact bad 7 r (by decide)
     ·by_cases cr:r=0
      ·-- nothing tells them apart
       have hno:∀ m k,DerV (V3 a b) a.1 m k -> ¬ Apt a b k:=by
        rcases hr with ⟨_,hh⟩ | ⟨h,_⟩
        ·exact hh
        ·omega
       have hff:f=false:=by
        cases f with
        | false=>rfl
        | true=>obtain ⟨m,k,hd,hk,_⟩:=fyes rfl;exact absurd hk (hno m k hd)
       have hLt:Lt=[]:=by
        rcases hf with ⟨_,h,_⟩ | ⟨h,_⟩
        ·exact h
        ·rw [hff] at h;cases h
       have nomark : ¬ ∃ i:Int,0<=i/\i < l.length/\ix marks i=1:=by
        rintro ⟨i,i0,i1,ei⟩;obtain ⟨_,m,hd⟩:=hM.set _ (zhu (l:=l) i0 i1);exact hno m _ hd ((hmk i i0 i1).1 ei)
       have hct:cb=false:=by
        cases cb with
        | false=>rfl
        | true=>exact absurd (hcb.1 rfl) nomark
       refine zau (y:=(([],()),true,0)) (by rw [eW,hff,hct,hLt];rfl) ?_
       refine zau zbl ?_
       rw [h1,if_pos (by simp)]
       refine zau zbl ?_
       rw [h2,down 0 rfl,if_neg c60];unfold zbs;rw [if_neg (by simp),if_neg (by simp),if_neg (by simp [cr]),if_neg (by simp)]
       refine zau zjD ?_
       by_cases ht:ttE a.1 t=0
       ·rw [if_neg (by simpa using ht)]
        have okb:Ok b t:=zvj h2 (by rw [<- cl];exact ht)
        obtain ⟨ba,bb2,bo,e1,e2,e3,hb,hbo⟩:=zqx W hM (zvj h1 ht) okb (zvj hok ht) (zqN ht);rw [ea,eb];refine zau e1 (zau e2 ?_)
        rw [if_pos (by simp)]
        cases ba with
        | false=>rw [if_pos (by simp)]
        | true=>
         rw [if_neg (by simp)]
         cases bb2 with
         | true=>rfl
         | false=>exact absurd (hbo (hb.2 ⟨rfl,by simp⟩)) nomark
       ·rw [if_pos (by simpa using ht)];simp
      ·-- a tree is found
       have hfy:f=true:=by
        cases f with
        | true=>rfl
        | false=>
         exfalso;rcases hr with ⟨r0,_⟩ | ⟨r0,⟨m,k,hd,hk,hm⟩,_⟩
         ·exact cr r0
         ·have hm:=hm (by omega)
          obtain ⟨i,i0,i1,ei,hdi⟩:=zxW hM hd;have hl:=least (zsP hok) g1 g2 hdi (by omega)
          rcases hf with ⟨_,_,hh⟩ | ⟨h,_⟩
          ·exact hh (ix s i) (by omega) (by omega) ⟨i,i0,i1,rfl,(hmk i i0 i1).2 (by rw [ei];exact hk)⟩
          ·cases h
       obtain ⟨l1,l2,l3,l4,l5,l6⟩:1<=(Lt.length:Int)/\(Lt.length:Int)<=60/\_/\_/\zhC a.1 (Lt,())=some 0/\zbN (mdO a.1 l rules marks) (Lt,())=some true:=by
        rcases hf with ⟨h,_⟩ | ⟨_,h⟩
        ·rw [hfy] at h;cases h
        ·exact h
       have ht:ttE a.1 Lt=0:=by
        have:=zjD (le:=a.1) (l:=Lt);rw [l5] at this;injection this with this
        exact this.symm
       have okb:Ok b Lt:=zvj h2 (by rw [<- cl];exact ht)
       obtain ⟨ba,bb2,bo,e1,e2,e3,hb,hbo⟩:=zqx W hM (zvj h1 ht) okb (zvj hok ht) (zqN ht);have hbt:bo=true:=by
        have:=e3.symm.trans l6;injection this
       obtain ⟨w1,w2⟩:=hb.1 hbt;refine zau (y:=((Lt,()),false,0)) (by rw [eW,hfy];rfl) ?_
       refine zau zbl ?_
       rw [h1,if_pos (by simp)]
       refine zau zbl ?_
       rw [h2,down 0 rfl,if_neg c60];unfold zbs;rw [if_neg (by simp),if_neg (by simp),if_neg (by simp [cr]),if_pos (by simp)]
       refine zau l5 ?_
       rw [if_neg (by simp),ea,eb]
       refine zau e1 (zau e2 ?_)
       rw [w1,if_pos rfl]
       cases bb2 with
       | true=>exact absurd rfl w2
       | false=>rfl
   ·refine zau (y:=(([],()),false,3)) (by rw [go,if_pos (by simpa using cl)]) ?_
    refine zau zbl ?_
    rw [h1,if_pos (by simp)]
    refine zau zbl ?_
    rw [h2];unfold zbO zc7;rw [if_pos (by simp),if_pos (by simpa using cl)]
    exact bad6 3 (by decide)
  ·refine zau (y:=(([],()),false,taE b)) ?_ ?_
   ·unfold zfR;rw [zc9];unfold zbi;rw [ea,eb,len2,if_pos (by simp),zac (by decide),zac (by simp),x0,ea]
    refine zau ze7 ?_
    rw [h1,if_neg (by simp),zac (by decide),zc9];unfold zbi
    rw [ea,eb,len2,if_pos (by simp),zac (by decide),zac (by simp),show ix [a,b] (0+1)=b from rfl,eb]
    refine zau ze7 ?_
    rw [if_pos (by simpa using h2)]
   refine zau zbl ?_
   rw [h1,if_pos (by simp)]
   refine zau zbl ?_
   exact bad4 _ h2
 ·refine zau (y:=(([],()),false,taE a)) ?_ ?_
  ·unfold zfR;rw [zc9];unfold zbi;rw [ea,eb,len2,if_pos (by simp),zac (by decide),zac (by simp),x0,ea]
   refine zau ze7 ?_
   rw [if_pos (by simpa using h1)]
  refine zau zbl ?_
  rw [if_neg (by simpa using h1)]
  exact bad4 _ h1
end
end Go.Proofs.Ytecclpahhnajfaa.treeWithinW
