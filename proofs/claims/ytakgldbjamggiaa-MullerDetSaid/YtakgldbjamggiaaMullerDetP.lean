import Derived.Test.YtakgldbjamggiaaMullerDetD
set_option maxHeartbeats 1000000
set_option maxRecDepth 20000
set_option linter.unusedSimpArgs false
set_option linter.unusedVariables false
set_option linter.unusedSectionVars false
namespace Go.Proofs.Ytakgldbjamggiaa.mullerDetW
open Go Go.Ab
noncomputable section
theorem zmn {n:Nat} (h:n < 9223372036854775808):IntKind.wrap .i64 (n:Int)=n:=by
 unfold IntKind.wrap;simp [IntKind.bits,IntKind.signed];omega
theorem zhJ (m:Nat):BitVec.ofInt 64 (m:Int)=BitVec.ofNat 64 m:=by
 apply BitVec.eq_of_toNat_eq;simp
theorem iand_nat {m n:Nat} (hm:m < 9223372036854775808) (hn:n < 9223372036854775808):iand .i64 (m:Int) (n:Int)=((m &&& n:Nat):Int):=by
 unfold iand;have h:(BitVec.ofInt IntKind.i64.bits (m:Int) &&& BitVec.ofInt IntKind.i64.bits (n:Int)).toNat=m &&& n:=by
  show (BitVec.ofInt 64 (m:Int) &&& BitVec.ofInt 64 (n:Int)).toNat=m &&& n;rw [zhJ,zhJ,BitVec.toNat_and,BitVec.toNat_ofNat,BitVec.toNat_ofNat,Nat.mod_eq_of_lt (by omega),Nat.mod_eq_of_lt (by omega)]
 rw [h,zmn (Nat.lt_of_le_of_lt Nat.and_le_left hm)]
theorem zso {m n:Nat} (hm:m < 9223372036854775808) (hn:n < 9223372036854775808):ior .i64 (m:Int) (n:Int)=((m ||| n:Nat):Int):=by
 unfold ior;have h:(BitVec.ofInt IntKind.i64.bits (m:Int) ||| BitVec.ofInt IntKind.i64.bits (n:Int)).toNat=m ||| n:=by
  show (BitVec.ofInt 64 (m:Int) ||| BitVec.ofInt 64 (n:Int)).toNat=m ||| n
  rw [zhJ,zhJ,BitVec.toNat_or,BitVec.toNat_ofNat,BitVec.toNat_ofNat,Nat.mod_eq_of_lt (by omega),Nat.mod_eq_of_lt (by omega)]
 rw [h,zmn (Nat.or_lt_two_pow (n:=63) hm hn)]
theorem zrh {m k:Nat} (hk:k < 63) (h:m * 2 ^ k < 9223372036854775808):ishl .i64 (m:Int) (k:Int)=((m <<< k:Nat):Int):=by
 unfold ishl;have e:min ((k:Int).toNat) IntKind.i64.bits=k:=by
  show min ((k:Int).toNat) 64=k;omega
 rw [e,Nat.shiftLeft_eq];have:(m:Int) * 2 ^ k=((m * 2 ^ k:Nat):Int):=by push_cast;rfl
 rw [this,zmn h]
theorem zsn {m q:Nat} (hm:m < 4611686018427387904) (hq:q < 62):ior .i64 (m:Int) (ishl .i64 1 (q:Int))=((m ||| 2 ^ q:Nat):Int)/\m ||| 2 ^ q < 4611686018427387904:=by
 have h2:2 ^ q < 4611686018427387904:=Nat.pow_lt_pow_right (a:=2) (n:=62) (by omega) hq
 have h1:ishl .i64 1 (q:Int)=((2 ^ q:Nat):Int):=by
  have:=zrh (m:=1) (k:=q) (by omega) (by omega)
  rw [Nat.shiftLeft_eq,Nat.one_mul] at this;exact this
 rw [h1,zso (by omega) (by omega)]
 exact ⟨rfl,Nat.or_lt_two_pow (n:=62) hm h2⟩
theorem zqE:∀ (n:Nat) (g:Nat->Nat),(∀ i,i<=n->g i < n)->∃ i j,i < j/\j<=n/\g i=g j
 | 0,g,h=>absurd (h 0 (Nat.le_refl _)) (by omega)
 | n+1,g,h=>by
  by_cases he:∃ i,i<=n/\g i=g (n+1)
  ·obtain ⟨i,h1,h2⟩:=he;exact ⟨i,n+1,by omega,by omega,h2⟩
  ·have hne:∀ i,i<=n->g i≠g (n+1):=fun i hi e=>he ⟨i,hi,e⟩
   obtain ⟨i,j,h1,h2,h3⟩:=zqE n (fun i=>if g i < g (n+1) then g i else g i - 1) (fun i hi=>by
    have:=h i (by omega);have:=h (n+1) (by omega);have:=hne i hi
    show (if g i < g (n+1) then g i else g i - 1) < n
    split<;>omega)
   refine ⟨i,j,h1,by omega,?_⟩
   have a:=hne i (by omega);have b:=hne j (by omega)
   split at h3<;>split at h3<;>omega
def itn {A:Type} (f:A->A):Nat->A->A
 | 0,q=>q
 | k+1,q=>f (itn f k q)
theorem zfN {A:Type} (f:A->A) (a:Nat):∀ (b:Nat) (q:A),itn f (a+b) q=itn f a (itn f b q):=by
 induction a with
 | zero=>intro b q;rw [Nat.zero_add];rfl
 | succ a ih=>intro b q;rw [Nat.succ_add];show f _=f _;rw [ih]
theorem zri {A:Type} (f:A->A) (k:Nat) (q:A):itn f (k+1) q=itn f k (f q):=zfN f k 1 q
theorem ztg {f:Nat->Nat} {n:Nat} (hf:∀ q,q < n->f q < n) {q:Nat} (hq:q < n):∀ k,itn f k q < n
 | 0=>hq
 | k+1=>hf _ (ztg hf hq k)
theorem zqj {A:Type} {f:A->A} {p:Nat} {q:A} (h:itn f p q=q):∀ k,itn f (k * p) q=q
 | 0=>by rw [Nat.zero_mul];rfl
 | k+1=>by rw [Nat.succ_mul,zfN,h,zqj h k]
theorem znP {A:Type} {f:A->A} {p:Nat} {q:A} (h:itn f p q=q) (i:Nat):itn f i q=itn f (i % p) q:=by
 have:i=i % p+i / p * p:=by rw [Nat.mul_comm];exact (Nat.mod_add_div i p).symm
 conv=>lhs;rw [this,zfN,zqj h]
theorem zr1 {f:Int->Int} {n:Nat} (hf:∀ q:Int,0<=q->q < n->0<=f q/\f q < n) {q:Int} (h0:0<=q) (hq:q < n):∃ p,0 < p/\p<=n/\itn f p (itn f n q)=itn f n q:=by
 have hr:∀ k,0<=itn f k q/\itn f k q < n:=by
  intro k
  induction k with
  | zero=>exact ⟨h0,hq⟩
  | succ k ih=>exact hf _ ih.1 ih.2
 obtain ⟨i,j,h1,h2,h3⟩:=zqE n (fun k=>(itn f k q).toNat) (fun i _=>by have:=hr i;show (itn f i q).toNat < n;omega)
 have h3:itn f i q=itn f j q:=by have a:=hr i;have b:=hr j;have:(itn f i q).toNat=(itn f j q).toNat:=h3;omega
 refine ⟨j - i,by omega,by omega,?_⟩
 rw [<- zfN];have e1:j - i+n=n - i+j:=by omega
 have e2:n=n - i+i:=by omega
 rw [e1,zfN]
 conv=>rhs;rw [e2,zfN]
 rw [h3]
def zdl (o:Option Bool) (P:Prop):Prop:=∃ b,o=some b/\(b=true↔P)
theorem zdl.of {b:Bool} {P:Prop} (h:b=true↔P):zdl (some b) P:=⟨b,rfl,h⟩
theorem zdl.dec {P Q:Prop} [Decidable P] (h:P↔Q):zdl (some (decide P)) Q:=⟨_,rfl,by simpa using h⟩
theorem zdl.iff {o:Option Bool} {P Q:Prop} (h:zdl o P) (k:P↔Q):zdl o Q:=let ⟨b,h1,h2⟩:=h;⟨b,h1,h2.trans k⟩
theorem zdl.to {R:Type} {o:Option Bool} {P:Prop} {k1 k2 x:Option R} (h:zdl o P) (h1:P->k1=x) (h2 : ¬ P->k2=x):(o.bind fun y=>if y=true then k1 else k2)=x:=by
 obtain ⟨b,rfl,hb⟩:=h;refine za7 rfl ?_
 cases b
 ·exact h2 fun hp=>by simpa using hb.2 hp
 ·exact h1 (hb.1 rfl)
section
variable {α C:Type} [Inhabited α]
theorem zc9 {l:List α} {P:α->Prop}:(∃ x∈l,P x)↔∃ i:Int,0<=i/\i < l.length/\P (ix l i):=by
 constructor
 ·rintro ⟨x,hx,hp⟩;obtain ⟨i,hi,rfl⟩:=List.mem_iff_getElem.1 hx;refine ⟨i,by omega,by omega,?_⟩
  rwa [zio (by omega) (by omega)]
 ·rintro ⟨i,h0,h1,hp⟩;exact ⟨_,zcw h0 h1,hp⟩
theorem zpa {s:List α} {f:α->Option Bool} {L:Int->Option Int} {P:α->Prop} (hs:s.length<=4611686018427387904)
  (hL:∀ t,L t=if decide (t < (s.length:Int))=true then G (0<=t/\t < (s.length:Int)) ((f (ix s t)).bind fun y=>if y=true then some t else G (fits (t+1)) (L (t+1))) else some (-1))
  (hf:∀ x∈s,zdl (f x) (P x)):∀ (n:Nat) (t:Int),0<=t->t<=s.length->(s.length - t).toNat=n->
   ∃ i,L t=some i/\((i = -1/\∀ j:Int,t<=j->j < s.length -> ¬ P (ix s j))\/(t<=i/\i < s.length/\P (ix s i)/\∀ j:Int,t<=j->j < i -> ¬ P (ix s j))):=by
 intro n
 induction n with
 | zero=>
  intro t h0 h1 hn;refine ⟨-1,?_,.inl ⟨rfl,fun j a b=>by omega⟩⟩
  rw [hL,if_neg (by simp;omega)]
 | succ n ih=>
  intro t h0 h1 hn;rw [hL,if_pos (by simp;omega),zdw (by omega)]
  obtain ⟨b,hb,hbp⟩:=hf _ (zcw h0 (by omega:t < s.length))
  rw [hb]
  cases b with
  | true=>exact ⟨t,rfl,.inr ⟨by omega,by omega,hbp.1 rfl,fun j a b=>by omega⟩⟩
  | false=>
   have hnp : ¬ P (ix s t):=fun hp=>by simpa using hbp.2 hp
   obtain ⟨i,hi,hc⟩:=ih (t+1) (by omega) (by omega) (by omega)
   refine ⟨i,?_,?_⟩
   ·refine (if_neg (by simp):(if false=true then some t else G (fits (t+1)) (L (t+1)))=_).trans ?_
    rw [zdw (by unfold fits;omega),hi]
   ·rcases hc with ⟨h2,h3⟩ | ⟨h2,h3,h4,h5⟩
    ·refine .inl ⟨h2,fun j a b => ?_⟩
     by_cases e:j=t
     ·rw [e];exact hnp
     ·exact h3 j (by omega) b
    ·refine .inr ⟨by omega,h3,h4,fun j a b => ?_⟩
     by_cases e:j=t
     ·rw [e];exact hnp
     ·exact h5 j (by omega) b
theorem zcN {s:List α} {f:α->Option Bool} {L:Int->Option Int} {P:α->Prop}
  (hL:∀ t,L t=if decide (t < (s.length:Int))=true then G (0<=t/\t < (s.length:Int)) ((f (ix s t)).bind fun y=>if y=true then some t else G (fits (t+1)) (L (t+1))) else some (-1))
  (hs:s.length<=4611686018427387904) (hf:∀ x∈s,zdl (f x) (P x)):zdl ((L 0).bind fun y=>some (decide ((0:Int)<=y))) (∃ x∈s,P x):=by
 obtain ⟨i,hi,hc⟩:=zpa hs hL hf _ 0 (by omega) (by omega) rfl
 rw [hi];refine ⟨decide (0<=i),rfl,?_⟩
 rw [decide_eq_true_iff,zc9];rcases hc with ⟨h2,h3⟩ | ⟨h2,h3,h4,h5⟩
 ·constructor
  ·intro h;omega
  ·rintro ⟨j,h0,h1,hp⟩;exact absurd hp (h3 j h0 h1)
 ·exact ⟨fun _=>⟨i,by omega,h3,h4⟩,fun _=>by omega⟩
theorem zjW {s:List α} {c:C} {f:α->C->Option (Bool×C)} {L:Int->C->Option (Int×C)} {P:α->Prop}
  (hL:∀ t c,L t c=if decide (t < (s.length:Int))=true then G (0<=t/\t < (s.length:Int)) ((f (ix s t) c).bind fun y=>if y.1=true then some (t,y.2) else G (fits (t+1)) (L (t+1) y.2)) else some (-1,c))
  (hs:s.length<=4611686018427387904) (hf:∀ x∈s,∃ b,f x c=some (b,c)/\(b=true↔P x)):∃ b,((L 0 c).bind fun y=>some (decide ((0:Int)<=y.1),y.2))=some (b,c)/\(b=true↔∃ x∈s,P x):=by
 have key:∀ (n:Nat) (t:Int),0<=t->t<=s.length->(s.length - t).toNat=n->
   ∃ i,L t c=some (i,c)/\((i = -1/\∀ j:Int,t<=j->j < s.length -> ¬ P (ix s j))\/(t<=i/\i < s.length/\P (ix s i))):=by
  intro n
  induction n with
  | zero=>
   intro t h0 h1 hn;refine ⟨-1,?_,.inl ⟨rfl,fun j a b=>by omega⟩⟩
   rw [hL,if_neg (by simp;omega)]
  | succ n ih=>
   intro t h0 h1 hn;rw [hL,if_pos (by simp;omega),zdw (by omega)]
   obtain ⟨b,hb,hbp⟩:=hf _ (zcw h0 (by omega:t < s.length))
   rw [hb]
   cases b with
   | true=>exact ⟨t,rfl,.inr ⟨by omega,by omega,hbp.1 rfl⟩⟩
   | false=>
    have hnp : ¬ P (ix s t):=fun hp=>by simpa using hbp.2 hp
    obtain ⟨i,hi,hc⟩:=ih (t+1) (by omega) (by omega) (by omega)
    refine ⟨i,?_,?_⟩
    ·refine (if_neg (by simp):(if false=true then some (t,c) else G (fits (t+1)) (L (t+1) c))=_).trans ?_
     rw [zdw (by unfold fits;omega),hi]
    ·rcases hc with ⟨h2,h3⟩ | ⟨h2,h3,h4⟩
     ·refine .inl ⟨h2,fun j a b => ?_⟩
      by_cases e:j=t
      ·rw [e];exact hnp
      ·exact h3 j (by omega) b
     ·exact .inr ⟨by omega,h3,h4⟩
 obtain ⟨i,hi,hc⟩:=key _ 0 (by omega) (by omega) rfl
 rw [hi];refine ⟨decide (0<=i),rfl,?_⟩
 rw [decide_eq_true_iff,zc9];rcases hc with ⟨h2,h3⟩ | ⟨h2,h3,h4⟩
 ·constructor
  ·intro h;omega
  ·rintro ⟨j,h0,h1,hp⟩;exact absurd hp (h3 j h0 h1)
 ·exact ⟨fun _=>⟨i,by omega,h3,h4⟩,fun _=>by omega⟩
end
theorem zcm {R:Type} {len:Int} {L:Int->Option R} {bad:Int->Prop} {x:Option R} {lo:Int} (h0:lo<=len)
  (hs:∀ t,lo<=t->t < len->(bad t->L t=x)/\(¬ bad t->L t=L (t+1))) (hf:(∀ t,lo<=t->t < len -> ¬ bad t)->L len=x):L lo=x:=by
 have key:∀ (n:Nat) (t:Int),lo<=t->t<=len->(len - t).toNat=n->(∀ j,lo<=j->j < t -> ¬ bad j)->L t=x:=by
  intro n
  induction n with
  | zero=>
   intro t h1 h2 hn h;obtain rfl:t=len:=by omega
   exact hf h
  | succ n ih=>
   intro t h1 h2 hn h;by_cases hb:bad t
   ·exact (hs t h1 (by omega)).1 hb
   ·rw [(hs t h1 (by omega)).2 hb]
    refine ih (t+1) (by omega) (by omega) (by omega) fun j a b => ?_
    by_cases e:j=t
    ·rw [e];exact hb
    ·exact h j a (by omega)
 exact key _ lo (Int.le_refl _) h0 rfl (fun j a b=>by omega)
def Mask (s:Int) (P:Nat->Prop):Prop:=∃ m:Nat,s=m/\m < 4611686018427387904/\∀ b,m.testBit b=true↔P b
theorem Mask.zero:Mask 0 (fun _=>False):=⟨0,rfl,by omega,fun b=>by simp⟩
theorem Mask.ext {s t:Int} {P Q:Nat->Prop} (h:Mask s P) (k:Mask t Q) (e:∀ b,P b↔Q b):s=t:=by
 obtain ⟨m,rfl,_,h1⟩:=h;obtain ⟨n,rfl,_,k1⟩:=k;congr 1
 refine Nat.eq_of_testBit_eq fun b => ?_
 rw [Bool.eq_iff_iff,h1,k1,e]
theorem Mask.iff {s:Int} {P Q:Nat->Prop} (h:Mask s P) (e:∀ b,P b↔Q b):Mask s Q:=by
 obtain ⟨m,h1,h2,h3⟩:=h;exact ⟨m,h1,h2,fun b=>(h3 b).trans (e b)⟩
theorem Mask.bit {s q:Int} {P:Nat->Prop} (h:Mask s P) (h0:0<=q) (h1:q < 62):Mask (ior .i64 s (ishl .i64 1 q)) (fun b=>P b\/(b:Int)=q):=by
 obtain ⟨m,rfl,h2,h3⟩:=h;obtain ⟨k,rfl⟩:∃ k:Nat,q=k:=⟨q.toNat,by omega⟩
 obtain ⟨h4,h5⟩:=zsn h2 (by omega:k < 62)
 refine ⟨_,h4,h5,fun b => ?_⟩
 rw [Nat.testBit_or,Bool.or_eq_true,h3,Nat.testBit_two_pow,decide_eq_true_iff];exact or_congr Iff.rfl (by omega)
theorem zk0 {letters:Int} {w:List Int} (hL:1<=letters/\letters<=4) (hw:w.length<=(60:Int)):∀ (n:Nat) (i:Int),0<=i->i<=w.length->(w.length - i).toNat=n->(∀ j:Int,0<=j->j < i->0<=ix w j/\ix w j < letters)->zhP letters w i=some (mayE letters w):=by
 intro n
 induction n with
 | zero=>
  intro i h0 h1 hn h;rw [ziY];unfold zbY
  (try dsimp only);(repeat' first | (with_reducible refine G_to ?_ ?_;focus (first | omega | (unfold fits;omega) | (unfold room;(try simp only [List.length_append,List.length_cons,List.length_nil]);omega))) | (with_reducible refine zaf ?_ ?_) | (with_reducible refine zah ?_) | (with_reducible refine zag ?_) | (with_reducible refine zak (fun _ => ?_) (fun _ => ?_)))<;>try (exfalso;omega)
  ·rw [zsw hL hw (fun j a b=>h j a (by omega))]
 | succ n ih=>
  intro i h0 h1 hn h;rw [ziY];unfold zbY
  (try dsimp only);(repeat' first | (with_reducible refine G_to ?_ ?_;focus (first | omega | (unfold fits;omega) | (unfold room;(try simp only [List.length_append,List.length_cons,List.length_nil]);omega))) | (with_reducible refine zaf ?_ ?_) | (with_reducible refine zah ?_) | (with_reducible refine zag ?_) | (with_reducible refine zak (fun _ => ?_) (fun _ => ?_)))<;>try (exfalso;omega)
  ·rw [zow hL hw (i:=i) (by omega) (by omega)]
  ·rw [zow hL hw (i:=i) (by omega) (by omega)]
  ·exact ih _ (by omega) (by omega) (by omega) (zoS h (by omega))
theorem zkx {letters:Int} {w:List Int}:zm1 letters w=some (mayE letters w):=by
 unfold zm1
 (try dsimp only);(repeat' first | (with_reducible refine G_to ?_ ?_;focus (first | omega | (unfold fits;omega) | (unfold room;(try simp only [List.length_append,List.length_cons,List.length_nil]);omega))) | (with_reducible refine zaf ?_ ?_) | (with_reducible refine zah ?_) | (with_reducible refine zag ?_) | (with_reducible refine zak (fun _ => ?_) (fun _ => ?_)))<;>try (exfalso;omega)
 ·rw [zld (by omega)]
 ·rw [zld (by omega)]
 ·rw [zqp (by omega) (by omega)]
 ·exact zk0 (by omega) (by omega) _ 0 (by omega) (by omega) rfl (fun j a b=>by omega)
def lasE (letters:Int) (l:List Int×List Int×Unit):Int:=if mayE letters l.1=0 then (if mayE letters l.2.1=0 then (if l.2.1.length=0 then 1 else 0) else mayE letters l.2.1) else mayE letters l.1
theorem zmg {letters:Int} {l:List Int×List Int×Unit}:zjE letters l=some (lasE letters l):=by
 unfold zjE lasE;refine za7 zkx ?_
 by_cases h1:mayE letters l.1=0
 ·rw [if_pos h1,if_neg (by simp [h1])]
  refine za7 zkx ?_
  by_cases h2:mayE letters l.2.1=0
  ·rw [if_pos h2,if_neg (by simp [h2])]
   by_cases h3:l.2.1.length=0
   ·rw [if_pos (by simp [h3]),if_pos h3]
   ·rw [if_neg (by simp only [decide_eq_true_eq];omega),if_neg h3]
  ·rw [if_neg h2,if_pos (by simp [h2])]
 ·rw [if_neg h1,if_pos (by simp [h1])]
theorem zkh {letters:Int} {l:List Int×List Int×Unit} (h:lasE letters l=0):mayE letters l.1=0/\mayE letters l.2.1=0/\0 < l.2.1.length:=by
 unfold lasE at h;by_cases h1:mayE letters l.1=0
 ·rw [if_pos h1] at h;by_cases h2:mayE letters l.2.1=0
  ·rw [if_pos h2] at h;by_cases h3:l.2.1.length=0
   ·rw [if_pos h3] at h;omega
   ·exact ⟨h1,h2,by omega⟩
  ·rw [if_neg h2] at h;exact absurd h h2
 ·rw [if_neg h1] at h;exact absurd h h1
def stp (N:List (List Int)) (q a:Int):Int:=ix (ix N q) a
def wlk (N:List (List Int)) (q:Int) (w:List Int):Int:=w.foldl (stp N) q
def trc (N:List (List Int)):Int->List Int->List Int
 | _,[]=>[]
 | q,a::w=>stp N q a::trc N (stp N q a) w
structure Tab (L:Int) (N:List (List Int)):Prop where
 row:∀ r∈N,(r.length:Int)=L
 to:∀ r∈N,∀ q∈r,0<=q/\q < N.length
theorem Tab.stpb {L:Int} {N:List (List Int)} (h:Tab L N) {q a:Int} (q0:0<=q) (q1:q < N.length) (a0:0<=a) (a1:a < L):0<=stp N q a/\stp N q a < N.length:=by
 have h1:=zcw q0 q1;have h2:=h.row _ h1;exact h.to _ h1 _ (zcw a0 (by omega))
theorem Tab.rowlen {L:Int} {N:List (List Int)} (h:Tab L N) {q:Int} (q0:0<=q) (q1:q < N.length):((ix N q).length:Int)=L:=h.row _ (zcw q0 q1)
theorem Tab.wlkb {L:Int} {N:List (List Int)} (h:Tab L N):∀ {w:List Int} {q:Int},0<=q->q < N.length->(∀ a∈w,0<=a/\a < L)->0<=wlk N q w/\wlk N q w < N.length
 | [],q,q0,q1,_=>⟨q0,q1⟩
 | a::w,q,q0,q1,hw=>by
  have:=h.stpb q0 q1 (hw a (by simp)).1 (hw a (by simp)).2
  exact Tab.wlkb h (q:=stp N q a) (w:=w) this.1 this.2 (fun b hb=>hw b (by simp [hb]))
theorem Tab.trcb {L:Int} {N:List (List Int)} (h:Tab L N):∀ {w:List Int} {q:Int},0<=q->q < N.length->(∀ a∈w,0<=a/\a < L)->∀ p∈trc N q w,0<=p/\p < N.length
 | [],q,q0,q1,_,p,hp=>by cases hp
 | a::w,q,q0,q1,hw,p,hp=>by
  have:=h.stpb q0 q1 (hw a (by simp)).1 (hw a (by simp)).2
  rcases List.mem_cons.1 hp with rfl | hp
  ·exact this
  ·exact Tab.trcb h this.1 this.2 (fun b hb=>hw b (by simp [hb])) p hp
theorem zh0 {d:Int×Int×List (List Int)×List Int×Unit} {L:Int} (h:Tab L d.2.2.1) {w:List Int} (hw:∀ a∈w,0<=a/\a < L) (hl:w.length<=1000000) {q:Int} (q0:0<=q) (q1:q < d.2.2.1.length):zjF d q w=some (wlk d.2.2.1 q w):=by
 have key:∀ (n:Nat) (t q:Int),(w.length - t).toNat=n->0<=t->t<=w.length->0<=q->q < d.2.2.1.length->zfg d w q t=some (wlk d.2.2.1 q (w.drop t.toNat)):=by
  intro n
  induction n with
  | zero=>
   intro t q hn h0 h1 q0 q1;rw [zgS];unfold zbp
   (try dsimp only);(repeat' first | (with_reducible refine G_to ?_ ?_;focus (first | omega | (unfold fits;omega) | (unfold room;(try simp only [List.length_append,List.length_cons,List.length_nil]);omega))) | (with_reducible refine zaf ?_ ?_) | (with_reducible refine zah ?_) | (with_reducible refine zag ?_) | (with_reducible refine zak (fun _ => ?_) (fun _ => ?_)))<;>try (exfalso;omega)
   rw [List.drop_of_length_le (by omega)];rfl
  | succ n ih=>
   intro t q hn h0 h1 q0 q1;have ha:=hw _ (zcw h0 (by omega:t < w.length))
   have hr:=h.rowlen q0 q1;have hs:=h.stpb q0 q1 ha.1 ha.2;rw [zgS];unfold zbp
   (try dsimp only);(repeat' first | (with_reducible refine G_to ?_ ?_;focus (first | omega | (unfold fits;omega) | (unfold room;(try simp only [List.length_append,List.length_cons,List.length_nil]);omega))) | (with_reducible refine zaf ?_ ?_) | (with_reducible refine zah ?_) | (with_reducible refine zag ?_) | (with_reducible refine zak (fun _ => ?_) (fun _ => ?_)))<;>try (exfalso;omega)
   rw [zl3 h0 (by omega)]
   exact ih (t+1) _ (by omega) (by omega) (by omega) hs.1 hs.2
 exact key _ 0 q rfl (by omega) (by omega) q0 q1
theorem zgg {s:List Int} {v:Int} (hs:s.length<=4611686018427387904):zdl (zco s v) (v∈s):=
 zdl.iff (zcN (f:=fun x=>some (decide (v=x))) (P:=fun x=>v=x) (zej s v) hs (fun x _=>zdl.dec Iff.rfl)) ⟨fun ⟨x,hx,e⟩=>e ▸ hx,fun h=>⟨v,h,rfl⟩⟩
abbrev Dt:=Int×Int×(List (List Int))×(List Int)×Unit
def DBig (mx:Int) (d:Dt):Prop:=d.2.2.1.length < 1\/mx < d.2.2.1.length
def DRag (d:Dt):Prop := ¬ (d.2.2.2.1.length:Int)=d.2.2.1.length\/∃ r∈d.2.2.1,¬ (r.length:Int)=d.1
def DOut (mb:Int->Prop) (d:Dt):Prop:=(d.2.1 < 0\/(d.2.2.1.length:Int)<=d.2.1)\/(∃ r∈d.2.2.1,∃ q∈r,q < 0\/(d.2.2.1.length:Int)<=q)\/(∃ s∈d.2.2.2.1,mb s)
open Classical in
def detE (mx:Int) (mb:Int->Prop) (d:Dt):Int:=if d.1 < 1\/4 < d.1 then 2 else if DBig mx d then 1 else if DRag d then 3 else if DOut mb d then 2 else 0
structure DOk (mx:Int) (mb:Int->Prop) (d:Dt):Prop where
 let1:1<=d.1/\d.1<=4
 n1:1<=d.2.2.1.length/\(d.2.2.1.length:Int)<=mx
 st:0<=d.2.1/\d.2.1 < d.2.2.1.length
 mkl:(d.2.2.2.1.length:Int)=d.2.2.1.length
 mok:∀ s∈d.2.2.2.1,¬ mb s
 tab:Tab d.1 d.2.2.1
theorem zpK {mx:Int} {mb:Int->Prop} {d:Dt} (h:detE mx mb d=0):DOk mx mb d:=by
 unfold detE at h;by_cases c1:d.1 < 1\/4 < d.1
 ·rw [if_pos c1] at h;omega
 rw [if_neg c1] at h;by_cases c2:DBig mx d
 ·rw [if_pos c2] at h;omega
 rw [if_neg c2] at h;by_cases c3:DRag d
 ·rw [if_pos c3] at h;omega
 rw [if_neg c3] at h;by_cases c4:DOut mb d
 ·rw [if_pos c4] at h;omega
 unfold DBig at c2;unfold DRag at c3;unfold DOut at c4;refine ⟨by omega,by omega,?_,?_,fun s hs hm=>c4 (.inr (.inr ⟨s,hs,hm⟩)),fun r hr => ?_,fun r hr q hq => ?_⟩
 ·have : ¬ (d.2.1 < 0\/(d.2.2.1.length:Int)<=d.2.1):=fun h=>c4 (.inl h)
  omega
 ·exact Decidable.not_not.1 fun h=>c3 (.inl h)
 ·by_cases e:(r.length:Int)=d.1
  ·exact e
  ·exact absurd (.inr ⟨r,hr,e⟩) c3
 ·have : ¬ (q < 0\/(d.2.2.1.length:Int)<=q):=fun h=>c4 (.inr (.inl ⟨r,hr,q,hq,h⟩))
  omega
theorem zr8 {mx:Int} {mb:Int->Prop} {d:Dt} (h:DOk mx mb d):detE mx mb d=0:=by
 have h1:=h.let1;have h2:=h.n1;have h3:=h.st;have h4:=h.mkl;unfold detE;rw [if_neg (by omega),if_neg (by unfold DBig;omega),if_neg,if_neg]
 ·rintro (hh | ⟨r,hr,q,hq,hh⟩ | ⟨s,hs,hh⟩)
  ·omega
  ·have:=h.tab.to r hr q hq;omega
  ·exact h.mok s hs hh
 ·rintro (hh | ⟨r,hr,hh⟩)
  ·exact hh h4
  ·exact hh (h.tab.row r hr)
abbrev badM (s:Int):Prop:=s < 0\/9 < s
theorem zmi {d:Dt}:zjG d=some (detE 20000 badM d):=by
 unfold zjG detE;by_cases c1:d.1 < 1\/4 < d.1
 ·rw [if_pos c1]
  (try dsimp only);(repeat' first | (with_reducible refine G_to ?_ ?_;focus (first | omega | (unfold fits;omega) | (unfold room;(try simp only [List.length_append,List.length_cons,List.length_nil]);omega))) | (with_reducible refine zaf ?_ ?_) | (with_reducible refine zah ?_) | (with_reducible refine zag ?_) | (with_reducible refine zak (fun _ => ?_) (fun _ => ?_)))<;>try (exfalso;omega)
  all_goals rfl
 rw [if_neg c1];by_cases c2:DBig 20000 d
 ·rw [if_pos c2];unfold DBig at c2
  (try dsimp only);(repeat' first | (with_reducible refine G_to ?_ ?_;focus (first | omega | (unfold fits;omega) | (unfold room;(try simp only [List.length_append,List.length_cons,List.length_nil]);omega))) | (with_reducible refine zaf ?_ ?_) | (with_reducible refine zah ?_) | (with_reducible refine zag ?_) | (with_reducible refine zak (fun _ => ?_) (fun _ => ?_)))<;>try (exfalso;omega)
  all_goals rfl
 rw [if_neg c2];unfold DBig at c2;by_cases c3:(d.2.2.2.1.length:Int)=d.2.2.1.length
 case neg=>
  rw [if_pos (show DRag d from .inl c3)]
  (try dsimp only);(repeat' first | (with_reducible refine G_to ?_ ?_;focus (first | omega | (unfold fits;omega) | (unfold room;(try simp only [List.length_append,List.length_cons,List.length_nil]);omega))) | (with_reducible refine zaf ?_ ?_) | (with_reducible refine zah ?_) | (with_reducible refine zag ?_) | (with_reducible refine zak (fun _ => ?_) (fun _ => ?_)))<;>try (exfalso;omega)
  all_goals rfl
 (try dsimp only);(repeat' first | (with_reducible refine G_to ?_ ?_;focus (first | omega | (unfold fits;omega) | (unfold room;(try simp only [List.length_append,List.length_cons,List.length_nil]);omega))) | (with_reducible refine zaf ?_ ?_) | (with_reducible refine zah ?_) | (with_reducible refine zag ?_) | (with_reducible refine zak (fun _ => ?_) (fun _ => ?_)))<;>try (exfalso;omega)
 refine zcm (len:=(d.2.2.1.length:Int)) (bad:=fun t => ¬ ((ix d.2.2.1 t).length:Int)=d.1) (by omega) (fun t h0 h1=>⟨fun hb => ?_,fun hb => ?_⟩) (fun hh => ?_)
 ·rw [zep];unfold za8
  (try dsimp only);(repeat' first | (with_reducible refine G_to ?_ ?_;focus (first | omega | (unfold fits;omega) | (unfold room;(try simp only [List.length_append,List.length_cons,List.length_nil]);omega))) | (with_reducible refine zaf ?_ ?_) | (with_reducible refine zah ?_) | (with_reducible refine zag ?_) | (with_reducible refine zak (fun _ => ?_) (fun _ => ?_)))<;>try (exfalso;omega)
  rw [if_pos (show DRag d from .inr (zc9.2 ⟨t,by omega,by omega,hb⟩))]
 ·conv=>lhs;rw [zep];unfold za8
  (try dsimp only);(repeat' first | (with_reducible refine G_to ?_ ?_;focus (first | omega | (unfold fits;omega) | (unfold room;(try simp only [List.length_append,List.length_cons,List.length_nil]);omega))) | (with_reducible refine zaf ?_ ?_) | (with_reducible refine zah ?_) | (with_reducible refine zag ?_) | (with_reducible refine zak (fun _ => ?_) (fun _ => ?_)))<;>try (exfalso;omega)
  all_goals first | rfl | (exfalso;exact hb ‹_›) | (exfalso;exact absurd ‹_› hb)
 rw [if_neg (show ¬ DRag d from fun h=>h.elim (fun e=>e c3) (fun h=>by obtain ⟨i,i0,i1,i2⟩:=zc9.1 h;exact hh i i0 i1 i2))]
 rw [zep];unfold za8;by_cases c4:d.2.1 < 0\/(d.2.2.1.length:Int)<=d.2.1
 ·rw [if_pos (show DOut _ d from .inl c4)]
  (try dsimp only);(repeat' first | (with_reducible refine G_to ?_ ?_;focus (first | omega | (unfold fits;omega) | (unfold room;(try simp only [List.length_append,List.length_cons,List.length_nil]);omega))) | (with_reducible refine zaf ?_ ?_) | (with_reducible refine zah ?_) | (with_reducible refine zag ?_) | (with_reducible refine zak (fun _ => ?_) (fun _ => ?_)))<;>try (exfalso;omega)
  all_goals rfl
 (try dsimp only);(repeat' first | (with_reducible refine G_to ?_ ?_;focus (first | omega | (unfold fits;omega) | (unfold room;(try simp only [List.length_append,List.length_cons,List.length_nil]);omega))) | (with_reducible refine zaf ?_ ?_) | (with_reducible refine zah ?_) | (with_reducible refine zag ?_) | (with_reducible refine zak (fun _ => ?_) (fun _ => ?_)))<;>try (exfalso;omega)
 have hlen:∀ t:Int,0<=t->t < d.2.2.1.length->((ix d.2.2.1 t).length:Int)=d.1:=fun t a b=>Decidable.not_not.1 (hh t a b)
 refine zcm (len:=(d.2.2.1.length:Int)) (bad:=fun t=>∃ q∈ix d.2.2.1 t,q < 0\/(d.2.2.1.length:Int)<=q) (by omega) (fun t h0 h1=>⟨fun hb => ?_,fun hb => ?_⟩) (fun hh2 => ?_)
 ·rw [zdG];unfold za1
  (try dsimp only);(repeat' first | (with_reducible refine G_to ?_ ?_;focus (first | omega | (unfold fits;omega) | (unfold room;(try simp only [List.length_append,List.length_cons,List.length_nil]);omega))) | (with_reducible refine zaf ?_ ?_) | (with_reducible refine zah ?_) | (with_reducible refine zag ?_) | (with_reducible refine zak (fun _ => ?_) (fun _ => ?_)))<;>try (exfalso;omega)
  have hlt:=hlen t h0 h1;refine zcm (len:=d.1) (bad:=fun a=>ix (ix d.2.2.1 t) a < 0\/(d.2.2.1.length:Int)<=ix (ix d.2.2.1 t) a) (by omega) (fun a a0 a1=>⟨fun hb => ?_,fun hb => ?_⟩) (fun hh3 => ?_)
  ·rw [zck];unfold zaJ
   (try dsimp only);(repeat' first | (with_reducible refine G_to ?_ ?_;focus (first | omega | (unfold fits;omega) | (unfold room;(try simp only [List.length_append,List.length_cons,List.length_nil]);omega))) | (with_reducible refine zaf ?_ ?_) | (with_reducible refine zah ?_) | (with_reducible refine zag ?_) | (with_reducible refine zak (fun _ => ?_) (fun _ => ?_)))<;>try (exfalso;omega)
   all_goals rw [if_pos (show DOut _ d from .inr (.inl (zc9.2 ⟨t,h0,h1,zc9.2 ⟨a,a0,by omega,hb⟩⟩)))]
  ·conv=>lhs;rw [zck];unfold zaJ
   (try dsimp only);(repeat' first | (with_reducible refine G_to ?_ ?_;focus (first | omega | (unfold fits;omega) | (unfold room;(try simp only [List.length_append,List.length_cons,List.length_nil]);omega))) | (with_reducible refine zaf ?_ ?_) | (with_reducible refine zah ?_) | (with_reducible refine zag ?_) | (with_reducible refine zak (fun _ => ?_) (fun _ => ?_)))<;>try (exfalso;omega)
   all_goals rfl
  ·exfalso;obtain ⟨i,i0,i1,i2⟩:=zc9.1 hb;exact hh3 i i0 (by omega) i2
 ·conv=>lhs;rw [zdG];unfold za1
  (try dsimp only);(repeat' first | (with_reducible refine G_to ?_ ?_;focus (first | omega | (unfold fits;omega) | (unfold room;(try simp only [List.length_append,List.length_cons,List.length_nil]);omega))) | (with_reducible refine zaf ?_ ?_) | (with_reducible refine zah ?_) | (with_reducible refine zag ?_) | (with_reducible refine zak (fun _ => ?_) (fun _ => ?_)))<;>try (exfalso;omega)
  have hlt:=hlen t h0 h1;refine zcm (len:=d.1) (bad:=fun a=>ix (ix d.2.2.1 t) a < 0\/(d.2.2.1.length:Int)<=ix (ix d.2.2.1 t) a) (by omega) (fun a a0 a1=>⟨fun hb' => ?_,fun hb => ?_⟩) (fun hh3 => ?_)
  ·exfalso;exact hb (zc9.2 ⟨a,a0,by omega,hb'⟩)
  ·conv=>lhs;rw [zck];unfold zaJ
   (try dsimp only);(repeat' first | (with_reducible refine G_to ?_ ?_;focus (first | omega | (unfold fits;omega) | (unfold room;(try simp only [List.length_append,List.length_cons,List.length_nil]);omega))) | (with_reducible refine zaf ?_ ?_) | (with_reducible refine zah ?_) | (with_reducible refine zag ?_) | (with_reducible refine zak (fun _ => ?_) (fun _ => ?_)))<;>try (exfalso;omega)
   all_goals rfl
  ·rw [zck];unfold zaJ
   (try dsimp only);(repeat' first | (with_reducible refine G_to ?_ ?_;focus (first | omega | (unfold fits;omega) | (unfold room;(try simp only [List.length_append,List.length_cons,List.length_nil]);omega))) | (with_reducible refine zaf ?_ ?_) | (with_reducible refine zah ?_) | (with_reducible refine zag ?_) | (with_reducible refine zak (fun _ => ?_) (fun _ => ?_)))<;>try (exfalso;omega)
   all_goals rfl
 have hnr : ¬ ∃ r∈d.2.2.1,∃ q∈r,q < 0\/(d.2.2.1.length:Int)<=q:=fun h=>by
  obtain ⟨t,h0,h1,hb⟩:=zc9.1 h;exact hh2 t h0 h1 hb
 rw [zdG];unfold za1
 (try dsimp only);(repeat' first | (with_reducible refine G_to ?_ ?_;focus (first | omega | (unfold fits;omega) | (unfold room;(try simp only [List.length_append,List.length_cons,List.length_nil]);omega))) | (with_reducible refine zaf ?_ ?_) | (with_reducible refine zah ?_) | (with_reducible refine zag ?_) | (with_reducible refine zak (fun _ => ?_) (fun _ => ?_)))<;>try (exfalso;omega)
 refine zcm (len:=(d.2.2.1.length:Int)) (bad:=fun t=>(badM) (ix d.2.2.2.1 t)) (by omega) (fun t h0 h1=>⟨fun hb => ?_,fun hb => ?_⟩) (fun hh3 => ?_)
 ·rw [if_pos (show DOut _ d from .inr (.inr (zc9.2 ⟨t,h0,by omega,hb⟩)))]
  rw [zdI];unfold za2
  try dsimp only at hb
  (try dsimp only);(repeat' first | (with_reducible refine G_to ?_ ?_;focus (first | omega | (unfold fits;omega) | (unfold room;(try simp only [List.length_append,List.length_cons,List.length_nil]);omega))) | (with_reducible refine zaf ?_ ?_) | (with_reducible refine zah ?_) | (with_reducible refine zag ?_) | (with_reducible refine zak (fun _ => ?_) (fun _ => ?_)))<;>try (exfalso;omega)
  all_goals first | rfl | (exfalso;exact hb.1 ‹_›) | (exfalso;exact hb.2 ‹_›)
 ·conv=>lhs;rw [zdI];unfold za2
  try dsimp only at hb
  (try dsimp only);(repeat' first | (with_reducible refine G_to ?_ ?_;focus (first | omega | (unfold fits;omega) | (unfold room;(try simp only [List.length_append,List.length_cons,List.length_nil]);omega))) | (with_reducible refine zaf ?_ ?_) | (with_reducible refine zah ?_) | (with_reducible refine zag ?_) | (with_reducible refine zak (fun _ => ?_) (fun _ => ?_)))<;>try (exfalso;omega)
  all_goals first | rfl | (exfalso;exact hb ⟨‹_›,‹_›⟩)
 rw [if_neg (show ¬ DOut _ d from fun h=>h.elim c4 (fun h=>h.elim hnr (fun h=>by
  obtain ⟨t,h0,h1,hb⟩:=zc9.1 h;exact hh3 t h0 (by omega) hb)))]
 rw [zdI];unfold za2
 (try dsimp only);(repeat' first | (with_reducible refine G_to ?_ ?_;focus (first | omega | (unfold fits;omega) | (unfold room;(try simp only [List.length_append,List.length_cons,List.length_nil]);omega))) | (with_reducible refine zaf ?_ ?_) | (with_reducible refine zah ?_) | (with_reducible refine zag ?_) | (with_reducible refine zak (fun _ => ?_) (fun _ => ?_)))<;>try (exfalso;omega)
 all_goals rfl
abbrev Mul:=Int×Int×(List (List Int))×(List Int)×Unit
def MBig (m:Mul):Prop:=m.2.2.1.length < 1\/4 < m.2.2.1.length
def MRag (m:Mul):Prop:=∃ r∈m.2.2.1,¬ (r.length:Int)=m.1
def MOut (m:Mul):Prop:=(m.2.1 < 0\/(m.2.2.1.length:Int)<=m.2.1)\/(∃ r∈m.2.2.1,∃ q∈r,q < 0\/(m.2.2.1.length:Int)<=q)\/(∃ s∈m.2.2.2.1,s < 1\/ishl .i64 1 (m.2.2.1.length:Int)<=s)
def zqY (m:Mul):Prop:=∃ i:Int,1<=i/\i < m.2.2.2.1.length/\ix m.2.2.2.1 i<=ix m.2.2.2.1 (i - 1)
open Classical in
def mulE (m:Mul):Int:=if m.1 < 1\/4 < m.1 then 2 else if MBig m then 1 else if MRag m then 3 else if MOut m then 2 else if zqY m then 3 else 0
theorem zeJ {m:Mul} (hs:m.2.2.2.1.length<=1000000000000000):zdZ m=some (mulE m):=by
 unfold zdZ mulE;by_cases c1:m.1 < 1\/4 < m.1
 ·rw [if_pos c1];(try dsimp only);(repeat' first | (with_reducible refine G_to ?_ ?_;focus (first | omega | (unfold fits;omega) | (unfold room;(try simp only [List.length_append,List.length_cons,List.length_nil]);omega))) | (with_reducible refine zaf ?_ ?_) | (with_reducible refine zah ?_) | (with_reducible refine zag ?_) | (with_reducible refine zak (fun _ => ?_) (fun _ => ?_)))<;>try (exfalso;omega)
  all_goals rfl
 rw [if_neg c1];by_cases c2:MBig m
 ·rw [if_pos c2];unfold MBig at c2;(try dsimp only);(repeat' first | (with_reducible refine G_to ?_ ?_;focus (first | omega | (unfold fits;omega) | (unfold room;(try simp only [List.length_append,List.length_cons,List.length_nil]);omega))) | (with_reducible refine zaf ?_ ?_) | (with_reducible refine zah ?_) | (with_reducible refine zag ?_) | (with_reducible refine zak (fun _ => ?_) (fun _ => ?_)))<;>try (exfalso;omega)
  all_goals rfl
 rw [if_neg c2];unfold MBig at c2
 (try dsimp only);(repeat' first | (with_reducible refine G_to ?_ ?_;focus (first | omega | (unfold fits;omega) | (unfold room;(try simp only [List.length_append,List.length_cons,List.length_nil]);omega))) | (with_reducible refine zaf ?_ ?_) | (with_reducible refine zah ?_) | (with_reducible refine zag ?_) | (with_reducible refine zak (fun _ => ?_) (fun _ => ?_)))<;>try (exfalso;omega)
 have k1:zdl (zbZ m.2.2.1 m) (MRag m):=zcN (f:=fun r=>zen r m) (zfB m.2.2.1 m) (by omega) (fun x _=>zdl.dec Iff.rfl)
 have nn:∀ q t:Int,zdl (zbt q t) (q < 0\/t<=q):=fun q t=>by
  unfold zbt;by_cases h:q < 0
  ·rw [if_pos (decide_eq_true h)];exact zdl.of (by simp [h])
  ·rw [if_neg (by simpa using h)];exact zdl.dec (by omega)
 have k2:∀ r∈m.2.2.1,r.length<=1000->zdl (zbz r (m.2.2.1.length:Int)) (∃ q∈r,q < 0\/(m.2.2.1.length:Int)<=q):=fun r _ hr=>zcN (f:=fun q=>zbt q (m.2.2.1.length:Int)) (zeY r (m.2.2.1.length:Int)) (by omega) (fun x _=>nn x _)
 have k4:zdl (zbA m.2.2.2.1 (m.2.2.1.length:Int)) (∃ s∈m.2.2.2.1,s < 1\/ishl .i64 1 (m.2.2.1.length:Int)<=s):=zcN (f:=fun q=>zcR q (m.2.2.1.length:Int)) (ze0 m.2.2.2.1 (m.2.2.1.length:Int)) (by omega) (fun x _=>by
  unfold zcR;by_cases h:x < 1
  ·rw [if_pos (decide_eq_true h)];exact zdl.of (by simp [h])
  ·rw [if_neg (by simpa using h),zdw (by omega)];exact zdl.dec (by omega))
 refine k1.to (fun h=>by rw [if_pos h]) (fun h => ?_)
 rw [if_neg h];have hr:∀ r∈m.2.2.1,r.length<=1000:=fun r hr=>by
  by_cases e:(r.length:Int)=m.1
  ·omega
  ·exact absurd ⟨r,hr,e⟩ h
 refine (nn _ _).to (fun h=>by rw [if_pos (.inl h)]) (fun h1 => ?_)
 obtain ⟨b,hb,hb2⟩:∃ b,zby m.2.2.1 (m.2.2.1.length:Int)=some (b,(m.2.2.1.length:Int))/\(b=true↔∃ r∈m.2.2.1,∃ q∈r,q < 0\/(m.2.2.1.length:Int)<=q):=
  zjW (f:=zcQ) (zeW m.2.2.1) (by omega) (fun r hrm=>by
   obtain ⟨b,e,e2⟩:=k2 r hrm (hr r hrm);exact ⟨b,by unfold zcQ;rw [e];rfl,e2⟩)
 rw [hb];refine za7 rfl ?_
 refine zsp (fun h=>by rw [if_pos (.inr (.inl (hb2.1 h)))]) (fun h2 => ?_)
 refine k4.to (fun h=>by rw [if_pos (.inr (.inr h))]) (fun h3 => ?_)
 rw [if_neg (fun h=>h.elim h1 (fun h=>h.elim (fun h=>by rw [hb2.2 h] at h2;cases h2) h3))]
 refine zcm (len:=(m.2.2.2.1.length:Int)) (bad:=fun t=>0 < t/\ix m.2.2.2.1 t<=ix m.2.2.2.1 (t - 1)) (by omega) (fun t h0 h1=>⟨fun hb => ?_,fun hb => ?_⟩) (fun hh => ?_)
 ·rw [zbW];unfold zaw
  (try dsimp only);(repeat' first | (with_reducible refine G_to ?_ ?_;focus (first | omega | (unfold fits;omega) | (unfold room;(try simp only [List.length_append,List.length_cons,List.length_nil]);omega))) | (with_reducible refine zaf ?_ ?_) | (with_reducible refine zah ?_) | (with_reducible refine zag ?_) | (with_reducible refine zak (fun _ => ?_) (fun _ => ?_)))<;>try (exfalso;omega)
  rw [if_pos ⟨t,by omega,by omega,hb.2⟩]
 ·conv=>lhs;rw [zbW];unfold zaw
  (try dsimp only);(repeat' first | (with_reducible refine G_to ?_ ?_;focus (first | omega | (unfold fits;omega) | (unfold room;(try simp only [List.length_append,List.length_cons,List.length_nil]);omega))) | (with_reducible refine zaf ?_ ?_) | (with_reducible refine zah ?_) | (with_reducible refine zag ?_) | (with_reducible refine zak (fun _ => ?_) (fun _ => ?_)))<;>try (exfalso;omega)
  all_goals rfl
 ·rw [zbW];unfold zaw
  (try dsimp only);(repeat' first | (with_reducible refine G_to ?_ ?_;focus (first | omega | (unfold fits;omega) | (unfold room;(try simp only [List.length_append,List.length_cons,List.length_nil]);omega))) | (with_reducible refine zaf ?_ ?_) | (with_reducible refine zah ?_) | (with_reducible refine zag ?_) | (with_reducible refine zak (fun _ => ?_) (fun _ => ?_)))<;>try (exfalso;omega)
  rw [if_neg];rintro ⟨i,i0,i1,i2⟩;exact hh i (by omega) i1 ⟨by omega,i2⟩
theorem zgR {m:Mul} (hs:m.2.2.2.1.length<=1000000000000000):zhT m=some (mulE m):=by
 unfold zhT mulE;by_cases c1:m.1 < 1\/4 < m.1
 ·rw [if_pos c1];(try dsimp only);(repeat' first | (with_reducible refine G_to ?_ ?_;focus (first | omega | (unfold fits;omega) | (unfold room;(try simp only [List.length_append,List.length_cons,List.length_nil]);omega))) | (with_reducible refine zaf ?_ ?_) | (with_reducible refine zah ?_) | (with_reducible refine zag ?_) | (with_reducible refine zak (fun _ => ?_) (fun _ => ?_)))<;>try (exfalso;omega)
  all_goals rfl
 rw [if_neg c1];by_cases c2:MBig m
 ·rw [if_pos c2];unfold MBig at c2;(try dsimp only);(repeat' first | (with_reducible refine G_to ?_ ?_;focus (first | omega | (unfold fits;omega) | (unfold room;(try simp only [List.length_append,List.length_cons,List.length_nil]);omega))) | (with_reducible refine zaf ?_ ?_) | (with_reducible refine zah ?_) | (with_reducible refine zag ?_) | (with_reducible refine zak (fun _ => ?_) (fun _ => ?_)))<;>try (exfalso;omega)
  all_goals rfl
 rw [if_neg c2];unfold MBig at c2
 (try dsimp only);(repeat' first | (with_reducible refine G_to ?_ ?_;focus (first | omega | (unfold fits;omega) | (unfold room;(try simp only [List.length_append,List.length_cons,List.length_nil]);omega))) | (with_reducible refine zaf ?_ ?_) | (with_reducible refine zah ?_) | (with_reducible refine zag ?_) | (with_reducible refine zak (fun _ => ?_) (fun _ => ?_)))<;>try (exfalso;omega)
 refine zcm (len:=(m.2.2.1.length:Int)) (bad:=fun t => ¬ ((ix m.2.2.1 t).length:Int)=m.1) (by omega) (fun t h0 h1=>⟨fun hb => ?_,fun hb => ?_⟩) (fun hh => ?_)
 ·rw [zdE];unfold za0
  (try dsimp only);(repeat' first | (with_reducible refine G_to ?_ ?_;focus (first | omega | (unfold fits;omega) | (unfold room;(try simp only [List.length_append,List.length_cons,List.length_nil]);omega))) | (with_reducible refine zaf ?_ ?_) | (with_reducible refine zah ?_) | (with_reducible refine zag ?_) | (with_reducible refine zak (fun _ => ?_) (fun _ => ?_)))<;>try (exfalso;omega)
  rw [if_pos (show MRag m from zc9.2 ⟨t,by omega,by omega,hb⟩)]
 ·conv=>lhs;rw [zdE];unfold za0
  (try dsimp only);(repeat' first | (with_reducible refine G_to ?_ ?_;focus (first | omega | (unfold fits;omega) | (unfold room;(try simp only [List.length_append,List.length_cons,List.length_nil]);omega))) | (with_reducible refine zaf ?_ ?_) | (with_reducible refine zah ?_) | (with_reducible refine zag ?_) | (with_reducible refine zak (fun _ => ?_) (fun _ => ?_)))<;>try (exfalso;omega)
  all_goals first | rfl | (exfalso;exact hb ‹_›) | (exfalso;exact absurd ‹_› hb)
 rw [if_neg (show ¬ MRag m from fun h=>by obtain ⟨i,i0,i1,i2⟩:=zc9.1 h;exact hh i i0 i1 i2)]
 rw [zdE];unfold za0;by_cases c4:m.2.1 < 0\/(m.2.2.1.length:Int)<=m.2.1
 ·rw [if_pos (show MOut m from .inl c4)]
  (try dsimp only);(repeat' first | (with_reducible refine G_to ?_ ?_;focus (first | omega | (unfold fits;omega) | (unfold room;(try simp only [List.length_append,List.length_cons,List.length_nil]);omega))) | (with_reducible refine zaf ?_ ?_) | (with_reducible refine zah ?_) | (with_reducible refine zag ?_) | (with_reducible refine zak (fun _ => ?_) (fun _ => ?_)))<;>try (exfalso;omega)
  all_goals rfl
 (try dsimp only);(repeat' first | (with_reducible refine G_to ?_ ?_;focus (first | omega | (unfold fits;omega) | (unfold room;(try simp only [List.length_append,List.length_cons,List.length_nil]);omega))) | (with_reducible refine zaf ?_ ?_) | (with_reducible refine zah ?_) | (with_reducible refine zag ?_) | (with_reducible refine zak (fun _ => ?_) (fun _ => ?_)))<;>try (exfalso;omega)
 have hlen:∀ t:Int,0<=t->t < m.2.2.1.length->((ix m.2.2.1 t).length:Int)=m.1:=fun t a b=>Decidable.not_not.1 (hh t a b)
 refine zcm (len:=(m.2.2.1.length:Int)) (bad:=fun t=>∃ q∈ix m.2.2.1 t,q < 0\/(m.2.2.1.length:Int)<=q) (by omega) (fun t h0 h1=>⟨fun hb => ?_,fun hb => ?_⟩) (fun hh2 => ?_)
 ·rw [zdd];unfold zaM
  (try dsimp only);(repeat' first | (with_reducible refine G_to ?_ ?_;focus (first | omega | (unfold fits;omega) | (unfold room;(try simp only [List.length_append,List.length_cons,List.length_nil]);omega))) | (with_reducible refine zaf ?_ ?_) | (with_reducible refine zah ?_) | (with_reducible refine zag ?_) | (with_reducible refine zak (fun _ => ?_) (fun _ => ?_)))<;>try (exfalso;omega)
  have hlt:=hlen t h0 h1;refine zcm (len:=m.1) (bad:=fun a=>ix (ix m.2.2.1 t) a < 0\/(m.2.2.1.length:Int)<=ix (ix m.2.2.1 t) a) (by omega) (fun a a0 a1=>⟨fun hb => ?_,fun hb => ?_⟩) (fun hh3 => ?_)
  ·rw [zbT];unfold zaB
   (try dsimp only);(repeat' first | (with_reducible refine G_to ?_ ?_;focus (first | omega | (unfold fits;omega) | (unfold room;(try simp only [List.length_append,List.length_cons,List.length_nil]);omega))) | (with_reducible refine zaf ?_ ?_) | (with_reducible refine zah ?_) | (with_reducible refine zag ?_) | (with_reducible refine zak (fun _ => ?_) (fun _ => ?_)))<;>try (exfalso;omega)
   all_goals rw [if_pos (show MOut m from .inr (.inl (zc9.2 ⟨t,h0,h1,zc9.2 ⟨a,a0,by omega,hb⟩⟩)))]
  ·conv=>lhs;rw [zbT];unfold zaB
   (try dsimp only);(repeat' first | (with_reducible refine G_to ?_ ?_;focus (first | omega | (unfold fits;omega) | (unfold room;(try simp only [List.length_append,List.length_cons,List.length_nil]);omega))) | (with_reducible refine zaf ?_ ?_) | (with_reducible refine zah ?_) | (with_reducible refine zag ?_) | (with_reducible refine zak (fun _ => ?_) (fun _ => ?_)))<;>try (exfalso;omega)
   all_goals rfl
  ·exfalso;obtain ⟨i,i0,i1,i2⟩:=zc9.1 hb;exact hh3 i i0 (by omega) i2
 ·conv=>lhs;rw [zdd];unfold zaM
  (try dsimp only);(repeat' first | (with_reducible refine G_to ?_ ?_;focus (first | omega | (unfold fits;omega) | (unfold room;(try simp only [List.length_append,List.length_cons,List.length_nil]);omega))) | (with_reducible refine zaf ?_ ?_) | (with_reducible refine zah ?_) | (with_reducible refine zag ?_) | (with_reducible refine zak (fun _ => ?_) (fun _ => ?_)))<;>try (exfalso;omega)
  have hlt:=hlen t h0 h1;refine zcm (len:=m.1) (bad:=fun a=>ix (ix m.2.2.1 t) a < 0\/(m.2.2.1.length:Int)<=ix (ix m.2.2.1 t) a) (by omega) (fun a a0 a1=>⟨fun hb' => ?_,fun hb => ?_⟩) (fun hh3 => ?_)
  ·exfalso;exact hb (zc9.2 ⟨a,a0,by omega,hb'⟩)
  ·conv=>lhs;rw [zbT];unfold zaB
   (try dsimp only);(repeat' first | (with_reducible refine G_to ?_ ?_;focus (first | omega | (unfold fits;omega) | (unfold room;(try simp only [List.length_append,List.length_cons,List.length_nil]);omega))) | (with_reducible refine zaf ?_ ?_) | (with_reducible refine zah ?_) | (with_reducible refine zag ?_) | (with_reducible refine zak (fun _ => ?_) (fun _ => ?_)))<;>try (exfalso;omega)
   all_goals rfl
  ·rw [zbT];unfold zaB
   (try dsimp only);(repeat' first | (with_reducible refine G_to ?_ ?_;focus (first | omega | (unfold fits;omega) | (unfold room;(try simp only [List.length_append,List.length_cons,List.length_nil]);omega))) | (with_reducible refine zaf ?_ ?_) | (with_reducible refine zah ?_) | (with_reducible refine zag ?_) | (with_reducible refine zak (fun _ => ?_) (fun _ => ?_)))<;>try (exfalso;omega)
   all_goals rfl
 have hnr : ¬ ∃ r∈m.2.2.1,∃ q∈r,q < 0\/(m.2.2.1.length:Int)<=q:=fun h=>by
  obtain ⟨t,h0,h1,hb⟩:=zc9.1 h;exact hh2 t h0 h1 hb
 rw [zdd];unfold zaM
 (try dsimp only);(repeat' first | (with_reducible refine G_to ?_ ?_;focus (first | omega | (unfold fits;omega) | (unfold room;(try simp only [List.length_append,List.length_cons,List.length_nil]);omega))) | (with_reducible refine zaf ?_ ?_) | (with_reducible refine zah ?_) | (with_reducible refine zag ?_) | (with_reducible refine zak (fun _ => ?_) (fun _ => ?_)))<;>try (exfalso;omega)
 refine zcm (len:=(m.2.2.2.1.length:Int)) (bad:=fun t=>ix m.2.2.2.1 t < 1\/ishl .i64 1 (m.2.2.1.length:Int)<=ix m.2.2.2.1 t) (by omega) (fun t h0 h1=>⟨fun hb => ?_,fun hb => ?_⟩) (fun hh3 => ?_)
 ·rw [zdf];unfold zaN
  (try dsimp only);(repeat' first | (with_reducible refine G_to ?_ ?_;focus (first | omega | (unfold fits;omega) | (unfold room;(try simp only [List.length_append,List.length_cons,List.length_nil]);omega))) | (with_reducible refine zaf ?_ ?_) | (with_reducible refine zah ?_) | (with_reducible refine zag ?_) | (with_reducible refine zak (fun _ => ?_) (fun _ => ?_)))<;>try (exfalso;omega)
  all_goals rw [if_pos (show MOut m from .inr (.inr (zc9.2 ⟨t,h0,h1,hb⟩)))]
 ·conv=>lhs;rw [zdf];unfold zaN
  (try dsimp only);(repeat' first | (with_reducible refine G_to ?_ ?_;focus (first | omega | (unfold fits;omega) | (unfold room;(try simp only [List.length_append,List.length_cons,List.length_nil]);omega))) | (with_reducible refine zaf ?_ ?_) | (with_reducible refine zah ?_) | (with_reducible refine zag ?_) | (with_reducible refine zak (fun _ => ?_) (fun _ => ?_)))<;>try (exfalso;omega)
  all_goals rfl
 rw [if_neg (show ¬ MOut m from fun h=>h.elim c4 (fun h=>h.elim hnr (fun h=>by
  obtain ⟨t,h0,h1,hb⟩:=zc9.1 h;exact hh3 t h0 h1 hb)))]
 rw [zdf];unfold zaN
 (try dsimp only);(repeat' first | (with_reducible refine G_to ?_ ?_;focus (first | omega | (unfold fits;omega) | (unfold room;(try simp only [List.length_append,List.length_cons,List.length_nil]);omega))) | (with_reducible refine zaf ?_ ?_) | (with_reducible refine zah ?_) | (with_reducible refine zag ?_) | (with_reducible refine zak (fun _ => ?_) (fun _ => ?_)))<;>try (exfalso;omega)
 by_cases c5:(m.2.2.2.1.length:Int) < 1
 ·rw [zbU];unfold zaC
  (try dsimp only);(repeat' first | (with_reducible refine G_to ?_ ?_;focus (first | omega | (unfold fits;omega) | (unfold room;(try simp only [List.length_append,List.length_cons,List.length_nil]);omega))) | (with_reducible refine zaf ?_ ?_) | (with_reducible refine zah ?_) | (with_reducible refine zag ?_) | (with_reducible refine zak (fun _ => ?_) (fun _ => ?_)))<;>try (exfalso;omega)
  rw [if_neg (show ¬ zqY m from fun ⟨i,i0,i1,_⟩=>by omega)]
 refine zcm (len:=(m.2.2.2.1.length:Int)) (bad:=fun t=>ix m.2.2.2.1 t<=ix m.2.2.2.1 (t - 1)) (by omega) (fun t h0 h1=>⟨fun hb => ?_,fun hb => ?_⟩) (fun hh4 => ?_)
 ·rw [zbU];unfold zaC
  (try dsimp only);(repeat' first | (with_reducible refine G_to ?_ ?_;focus (first | omega | (unfold fits;omega) | (unfold room;(try simp only [List.length_append,List.length_cons,List.length_nil]);omega))) | (with_reducible refine zaf ?_ ?_) | (with_reducible refine zah ?_) | (with_reducible refine zag ?_) | (with_reducible refine zak (fun _ => ?_) (fun _ => ?_)))<;>try (exfalso;omega)
  rw [if_pos (show zqY m from ⟨t,h0,h1,hb⟩)]
 ·conv=>lhs;rw [zbU];unfold zaC
  (try dsimp only);(repeat' first | (with_reducible refine G_to ?_ ?_;focus (first | omega | (unfold fits;omega) | (unfold room;(try simp only [List.length_append,List.length_cons,List.length_nil]);omega))) | (with_reducible refine zaf ?_ ?_) | (with_reducible refine zah ?_) | (with_reducible refine zag ?_) | (with_reducible refine zak (fun _ => ?_) (fun _ => ?_)))<;>try (exfalso;omega)
  all_goals rfl
 ·rw [zbU];unfold zaC
  (try dsimp only);(repeat' first | (with_reducible refine G_to ?_ ?_;focus (first | omega | (unfold fits;omega) | (unfold room;(try simp only [List.length_append,List.length_cons,List.length_nil]);omega))) | (with_reducible refine zaf ?_ ?_) | (with_reducible refine zah ?_) | (with_reducible refine zag ?_) | (with_reducible refine zak (fun _ => ?_) (fun _ => ?_)))<;>try (exfalso;omega)
  rw [if_neg (show ¬ zqY m from fun ⟨i,i0,i1,i2⟩=>hh4 i i0 i1 i2)]
structure MOk (m:Mul):Prop where
 let1:1<=m.1/\m.1<=4
 n1:1<=m.2.2.1.length/\m.2.2.1.length<=4
 st:0<=m.2.1/\m.2.1 < m.2.2.1.length
 tab:Tab m.1 m.2.2.1
theorem zmX {m:Mul} (h:mulE m=0):MOk m:=by
 unfold mulE at h;by_cases c1:m.1 < 1\/4 < m.1
 ·rw [if_pos c1] at h;omega
 rw [if_neg c1] at h;by_cases c2:MBig m
 ·rw [if_pos c2] at h;omega
 rw [if_neg c2] at h;by_cases c3:MRag m
 ·rw [if_pos c3] at h;omega
 rw [if_neg c3] at h;by_cases c4:MOut m
 ·rw [if_pos c4] at h;omega
 unfold MBig at c2;unfold MRag at c3;unfold MOut at c4;refine ⟨by omega,by omega,?_,fun r hr => ?_,fun r hr q hq => ?_⟩
 ·have : ¬ (m.2.1 < 0\/(m.2.2.1.length:Int)<=m.2.1):=fun h=>c4 (.inl h)
  omega
 ·by_cases e:(r.length:Int)=m.1
  ·exact e
  ·exact absurd ⟨r,hr,e⟩ c3
 ·have : ¬ (q < 0\/(m.2.2.1.length:Int)<=q):=fun h=>c4 (.inr (.inl ⟨r,hr,q,hq,h⟩))
  omega
def addT (s:Int) (l:List Int):Int:=l.foldl (fun s b=>ior .i64 s (ishl .i64 1 b)) s
theorem zjN:∀ {l:List Int} {s:Int} {P:Nat->Prop},Mask s P->(∀ b∈l,0<=b/\b < 62)->Mask (addT s l) (fun b=>P b\/(b:Int)∈l)
 | [],s,P,h,_=>h.iff (fun b=>by simp)
 | x::l,s,P,h,hl=>by
  have h1:=zjN (l:=l) (h.bit (hl x (by simp)).1 (hl x (by simp)).2) (fun b hb=>hl b (by simp [hb]))
  refine h1.iff (fun b => ?_)
  rw [List.mem_cons,or_assoc]
section
variable {m:Mul} {l:List Int×List Int×Unit}
theorem zoB (h:MOk m) (hw:∀ a∈l.2.1,0<=a/\a < m.1) (hl:l.2.1.length<=1000000) {rd:Int} (hrd:0<=rd/\rd<=100) {r8:Int->Int->Int->Option Bool}:∀ (n:Nat) (t q s:Int),(l.2.1.length - t).toNat=n->0<=t->t<=l.2.1.length->0<=q->q < m.2.2.1.length->
  zaL m l rd r8 q s t=r8 (wlk m.2.2.1 q (l.2.1.drop t.toNat)) (addT s (trc m.2.2.1 q (l.2.1.drop t.toNat))) (rd+1):=by
 intro n
 induction n with
 | zero=>
  intro t q s hn h0 h1 q0 q1;rw [zeb];unfold zaI
  (try dsimp only);(repeat' first | (with_reducible refine G_to ?_ ?_;focus (first | omega | (unfold fits;omega) | (unfold room;(try simp only [List.length_append,List.length_cons,List.length_nil]);omega))) | (with_reducible refine zaf ?_ ?_) | (with_reducible refine zah ?_) | (with_reducible refine zag ?_) | (with_reducible refine zak (fun _ => ?_) (fun _ => ?_)))<;>try (exfalso;omega)
  rw [List.drop_of_length_le (by omega)];rfl
 | succ n ih=>
  intro t q s hn h0 h1 q0 q1;have ha:=hw _ (zcw h0 (by omega:t < l.2.1.length))
  have hr:=h.tab.rowlen q0 q1;have hs:=h.tab.stpb q0 q1 ha.1 ha.2;rw [zeb];unfold zaI;have hs':0<=ix (ix m.2.2.1 q) (ix l.2.1 t):=hs.1
  (try dsimp only);(repeat' first | (with_reducible refine G_to ?_ ?_;focus (first | omega | (unfold fits;omega) | (unfold room;(try simp only [List.length_append,List.length_cons,List.length_nil]);omega))) | (with_reducible refine zaf ?_ ?_) | (with_reducible refine zah ?_) | (with_reducible refine zag ?_) | (with_reducible refine zak (fun _ => ?_) (fun _ => ?_)))<;>try (exfalso;omega)
  rw [zl3 h0 (by omega)]
  exact ih (t+1) _ _ (by omega) (by omega) (by omega) hs.1 hs.2
def rndM (m:Mul) (w:List Int) (x:Int×Int):Int×Int:=(wlk m.2.2.1 x.1 w,addT x.2 (trc m.2.2.1 x.1 w))
theorem zjI (k:Nat) (x:Int×Int) (w:List Int):(itn (rndM m w) k x).1=itn (fun q=>wlk m.2.2.1 q w) k x.1:=by
 induction k with
 | zero=>rfl
 | succ k ih=>show wlk _ (itn (rndM m w) k x).1 w=_;rw [ih];rfl
theorem zeP (h:MOk m) {w:List Int} (hw:∀ a∈w,0<=a/\a < m.1) {q:Int} (q0:0<=q) (q1:q < m.2.2.1.length):∀ k,(0<=itn (fun q=>wlk m.2.2.1 q w) k q/\itn (fun q=>wlk m.2.2.1 q w) k q < m.2.2.1.length)/\Mask (itn (rndM m w) k (q,0)).2 (fun b=>∃ i,i < k/\(b:Int)∈trc m.2.2.1 (itn (fun q=>wlk m.2.2.1 q w) i q) w)
 | 0=>⟨⟨q0,q1⟩,Mask.zero.iff (fun b=>by simp)⟩
 | k+1=>by
  obtain ⟨⟨h1,h2⟩,h3⟩:=zeP h hw q0 q1 k;have hn:=h.n1.2;refine ⟨h.tab.wlkb h1 h2 hw,?_⟩
  have h4:=zjN (l:=trc m.2.2.1 (itn (rndM m w) k (q,0)).1 w) h3 (fun b hb=>by
   rw [zjI] at hb;have:=h.tab.trcb h1 h2 hw b hb;omega)
  refine h4.iff (fun b => ?_)
  rw [zjI];constructor
  ·rintro (⟨i,hi,hb⟩ | hb)
   ·exact ⟨i,by omega,hb⟩
   ·exact ⟨k,by omega,hb⟩
  ·rintro ⟨i,hi,hb⟩;by_cases e:i=k
   ·subst e;exact .inr hb
   ·exact .inl ⟨i,by omega,hb⟩
def zis (m:Mul) (l:List Int×List Int×Unit):Int:=(itn (rndM m l.2.1) m.2.2.1.length (itn (fun q=>wlk m.2.2.1 q l.2.1) m.2.2.1.length (wlk m.2.2.1 m.2.1 l.1),0)).2
theorem zoC {m:Mul} (hs:m.2.2.2.1.length<=1000000000000000) {v:Int}:∃ b,zbx m v 0=some b/\(b=true↔v∈m.2.2.2.1):=by
 by_cases hv:v∈m.2.2.2.1
 ·refine ⟨true,?_,by simp [hv]⟩
  refine zcm (len:=(m.2.2.2.1.length:Int)) (bad:=fun t=>ix m.2.2.2.1 t=v) (by omega) (fun t h0 h1=>⟨fun hb => ?_,fun hb => ?_⟩) (fun hh => ?_)
  ·rw [zbu];unfold zau
   (try dsimp only);(repeat' first | (with_reducible refine G_to ?_ ?_;focus (first | omega | (unfold fits;omega) | (unfold room;(try simp only [List.length_append,List.length_cons,List.length_nil]);omega))) | (with_reducible refine zaf ?_ ?_) | (with_reducible refine zah ?_) | (with_reducible refine zag ?_) | (with_reducible refine zak (fun _ => ?_) (fun _ => ?_)))<;>try (exfalso;omega)
   all_goals first | rfl | (exfalso;exact absurd hb ‹_›)
  ·conv=>lhs;rw [zbu];unfold zau
   (try dsimp only);(repeat' first | (with_reducible refine G_to ?_ ?_;focus (first | omega | (unfold fits;omega) | (unfold room;(try simp only [List.length_append,List.length_cons,List.length_nil]);omega))) | (with_reducible refine zaf ?_ ?_) | (with_reducible refine zah ?_) | (with_reducible refine zag ?_) | (with_reducible refine zak (fun _ => ?_) (fun _ => ?_)))<;>try (exfalso;omega)
   all_goals first | rfl | (exfalso;exact absurd ‹_› hb)
  ·obtain ⟨i,i0,i1,i2⟩:=(zc9 (P:=fun x=>x=v)).1 ⟨v,hv,rfl⟩
   exact absurd i2 (hh i i0 i1)
 ·refine ⟨false,?_,by simp [hv]⟩
  refine zcm (len:=(m.2.2.2.1.length:Int)) (bad:=fun t=>ix m.2.2.2.1 t=v) (by omega) (fun t h0 h1=>⟨fun hb => ?_,fun hb => ?_⟩) (fun hh => ?_)
  ·exact absurd (hb ▸ zcw h0 h1) hv
  ·conv=>lhs;rw [zbu];unfold zau
   (try dsimp only);(repeat' first | (with_reducible refine G_to ?_ ?_;focus (first | omega | (unfold fits;omega) | (unfold room;(try simp only [List.length_append,List.length_cons,List.length_nil]);omega))) | (with_reducible refine zaf ?_ ?_) | (with_reducible refine zah ?_) | (with_reducible refine zag ?_) | (with_reducible refine zak (fun _ => ?_) (fun _ => ?_)))<;>try (exfalso;omega)
   all_goals first | rfl | (exfalso;exact absurd ‹_› hb)
  ·rw [zbu];unfold zau
   (try dsimp only);(repeat' first | (with_reducible refine G_to ?_ ?_;focus (first | omega | (unfold fits;omega) | (unfold room;(try simp only [List.length_append,List.length_cons,List.length_nil]);omega))) | (with_reducible refine zaf ?_ ?_) | (with_reducible refine zah ?_) | (with_reducible refine zag ?_) | (with_reducible refine zak (fun _ => ?_) (fun _ => ?_)))<;>try (exfalso;omega)
   all_goals rfl
theorem zsy (h:MOk m) (hw:∀ a∈l.2.1,0<=a/\a < m.1) (hl:l.2.1.length<=1000000) {v:Int} (v0:0<=v) (v1:v < m.2.2.1.length):∀ (d k:Nat) (s:Int),m.2.2.1.length - k=d->k<=m.2.2.1.length->
  ∃ s',zaZ m l (itn (fun q=>wlk m.2.2.1 q l.2.1) k v) s (k:Int)=zaZ m l (itn (fun q=>wlk m.2.2.1 q l.2.1) m.2.2.1.length v) s' (m.2.2.1.length:Int):=by
 intro d
 induction d with
 | zero=>
  intro k s h1 h2;obtain rfl:k=m.2.2.1.length:=by omega
  exact ⟨s,rfl⟩
 | succ d ih=>
  intro k s h1 h2;have hn4:=h.n1;have hk:=(zeP h hw v0 v1 k).1;obtain ⟨s',e⟩:=ih (k+1) (addT s (trc m.2.2.1 (itn (fun q=>wlk m.2.2.1 q l.2.1) k v) l.2.1)) (by omega) (by omega)
  refine ⟨s',?_⟩
  rw [<- e]
  conv=>lhs;rw [zcI];unfold zaH
  (try dsimp only);(repeat' first | (with_reducible refine G_to ?_ ?_;focus (first | omega | (unfold fits;omega) | (unfold room;(try simp only [List.length_append,List.length_cons,List.length_nil]);omega))) | (with_reducible refine zaf ?_ ?_) | (with_reducible refine zah ?_) | (with_reducible refine zag ?_) | (with_reducible refine zak (fun _ => ?_) (fun _ => ?_)))<;>try (exfalso;omega)
  unfold za4;rw [zoB h hw hl (by omega) _ 0 _ _ rfl (by omega) (by omega) hk.1 hk.2]
  rfl
theorem zro (h:MOk m) (hw:∀ a∈l.2.1,0<=a/\a < m.1) (hl:l.2.1.length<=1000000) {v:Int} (v0:0<=v) (v1:v < m.2.2.1.length):∀ (d k:Nat) (s:Int),m.2.2.1.length - k=d->k<=m.2.2.1.length->(0 < k->s=(itn (rndM m l.2.1) k (v,0)).2)->
  zaZ m l (itn (rndM m l.2.1) k (v,0)).1 s ((m.2.2.1.length:Int)+k)=zbx m (itn (rndM m l.2.1) m.2.2.1.length (v,0)).2 0:=by
 intro d
 induction d with
 | zero=>
  intro k s h1 h2 h3;have hn4:=h.n1;obtain rfl:k=m.2.2.1.length:=by omega
  rw [zcI];unfold zaH
  (try dsimp only);(repeat' first | (with_reducible refine G_to ?_ ?_;focus (first | omega | (unfold fits;omega) | (unfold room;(try simp only [List.length_append,List.length_cons,List.length_nil]);omega))) | (with_reducible refine zaf ?_ ?_) | (with_reducible refine zah ?_) | (with_reducible refine zag ?_) | (with_reducible refine zak (fun _ => ?_) (fun _ => ?_)))<;>try (exfalso;omega)
  rw [h3 (by omega)]
 | succ d ih=>
  intro k s h1 h2 h3;have hn4:=h.n1;have hk:=(zeP h hw v0 v1 k).1;have e13:∀ s,zaL m l ((m.2.2.1.length:Int)+k) (zaZ m l) (itn (rndM m l.2.1) k (v,0)).1 s 0=_:=fun s=>zoB h hw hl (by omega) _ 0 _ _ rfl (by omega) (by omega) (by rw [zjI];exact hk.1) (by rw [zjI];exact hk.2)
  have ih':=ih (k+1) (itn (rndM m l.2.1) (k+1) (v,0)).2 (by omega) (by omega) (fun _=>rfl)
  rw [zcI];unfold zaH;unfold za4;by_cases hk0:k=0
  ·subst hk0
   (try dsimp only);(repeat' first | (with_reducible refine G_to ?_ ?_;focus (first | omega | (unfold fits;omega) | (unfold room;(try simp only [List.length_append,List.length_cons,List.length_nil]);omega))) | (with_reducible refine zaf ?_ ?_) | (with_reducible refine zah ?_) | (with_reducible refine zag ?_) | (with_reducible refine zak (fun _ => ?_) (fun _ => ?_)))<;>try (exfalso;omega)
   rw [e13];exact ih'
  ·rw [h3 (by omega)]
   (try dsimp only);(repeat' first | (with_reducible refine G_to ?_ ?_;focus (first | omega | (unfold fits;omega) | (unfold room;(try simp only [List.length_append,List.length_cons,List.length_nil]);omega))) | (with_reducible refine zaf ?_ ?_) | (with_reducible refine zah ?_) | (with_reducible refine zag ?_) | (with_reducible refine zak (fun _ => ?_) (fun _ => ?_)))<;>try (exfalso;omega)
   rw [e13];rw [<- ih'];congr 1
theorem zsx (h:MOk m) (hw:∀ a∈l.1,0<=a/\a < m.1) (hl:l.1.length<=1000000):∀ (n:Nat) (t q:Int),(l.1.length - t).toNat=n->0<=t->t<=l.1.length->0<=q->q < m.2.2.1.length->zcT m l q t=zaZ m l (wlk m.2.2.1 q (l.1.drop t.toNat)) 0 0:=by
 intro n
 induction n with
 | zero=>
  intro t q hn h0 h1 q0 q1;rw [zeM];unfold zaS
  (try dsimp only);(repeat' first | (with_reducible refine G_to ?_ ?_;focus (first | omega | (unfold fits;omega) | (unfold room;(try simp only [List.length_append,List.length_cons,List.length_nil]);omega))) | (with_reducible refine zaf ?_ ?_) | (with_reducible refine zah ?_) | (with_reducible refine zag ?_) | (with_reducible refine zak (fun _ => ?_) (fun _ => ?_)))<;>try (exfalso;omega)
  rw [List.drop_of_length_le (by omega)];rfl
 | succ n ih=>
  intro t q hn h0 h1 q0 q1;have ha:=hw _ (zcw h0 (by omega:t < l.1.length))
  have hr:=h.tab.rowlen q0 q1;have hs:=h.tab.stpb q0 q1 ha.1 ha.2;rw [zeM];unfold zaS
  (try dsimp only);(repeat' first | (with_reducible refine G_to ?_ ?_;focus (first | omega | (unfold fits;omega) | (unfold room;(try simp only [List.length_append,List.length_cons,List.length_nil]);omega))) | (with_reducible refine zaf ?_ ?_) | (with_reducible refine zah ?_) | (with_reducible refine zag ?_) | (with_reducible refine zak (fun _ => ?_) (fun _ => ?_)))<;>try (exfalso;omega)
  rw [zl3 h0 (by omega)]
  exact ih (t+1) _ (by omega) (by omega) (by omega) hs.1 hs.2
theorem zjj (hs:m.2.2.2.1.length<=1000000000000000) (hm:mulE m=0) (hl:lasE m.1 l=0):∃ b,zfc m l=some b/\(b=true↔zis m l∈m.2.2.2.1):=by
 have h:=zmX hm;obtain ⟨a1,a2,a3⟩:=zkh hl;have b1:=zeC a1;have b2:=zeC a2;have hq:=h.tab.wlkb h.st.1 h.st.2 b1.2.2;have hn4:=h.n1;have hqn:=(zeP h b2.2.2 hq.1 hq.2 m.2.2.1.length).1;unfold zfc;rw [zsx h b1.2.2 (by omega) _ 0 _ rfl (by omega) (by omega) h.st.1 h.st.2]
 obtain ⟨s',e⟩:=zsy (l:=l) h b2.2.2 (by omega) hq.1 hq.2 m.2.2.1.length 0 0 (by omega) (by omega)
 refine ⟨_,(e.trans (zro h b2.2.2 (by omega) hqn.1 hqn.2 m.2.2.1.length 0 s' (by omega) (by omega) (by omega))).trans (zoC hs).choose_spec.1,(zoC hs).choose_spec.2⟩
end
def Lst (M:List Int) (v:Int) (P:Int->Prop):Prop:=(v=10\/∃ b,P b/\v=ix M b)/\v<=10/\∀ b,P b->v<=ix M b
theorem Lst.step {M:List Int} {v b:Int} {P:Int->Prop} (h:Lst M v P):Lst M (imin v (ix M b)) (fun x=>P x\/x=b):=by
 obtain ⟨h1,h2,h3⟩:=h;unfold imin;by_cases e:ix M b < v
 ·rw [if_pos e];refine ⟨.inr ⟨b,.inr rfl,rfl⟩,by omega,fun x hx => ?_⟩
  rcases hx with hx | rfl
  ·have:=h3 x hx;omega
  ·omega
 ·rw [if_neg e];refine ⟨h1.imp id (fun ⟨c,hc,hv⟩=>⟨c,.inl hc,hv⟩),h2,fun x hx => ?_⟩
  rcases hx with hx | rfl
  ·exact h3 x hx
  ·omega
theorem Lst.iff {M:List Int} {v:Int} {P Q:Int->Prop} (h:Lst M v P) (e:∀ b,P b↔Q b):Lst M v Q:=
 ⟨h.1.imp id (fun ⟨b,hb,hv⟩=>⟨b,(e b).1 hb,hv⟩),h.2.1,fun b hb=>h.2.2 b ((e b).2 hb)⟩
def addL (M:List Int) (s:Int) (l:List Int):Int:=l.foldl (fun s b=>imin s (ix M b)) s
theorem zn9 {M:List Int}:∀ {l:List Int} {s:Int} {P:Int->Prop},Lst M s P->Lst M (addL M s l) (fun b=>P b\/b∈l)
 | [],s,P,h=>h.iff (fun b=>by simp)
 | x::l,s,P,h=>by
  have h1:=zn9 (l:=l) (h.step (b:=x));refine h1.iff (fun b => ?_)
  rw [List.mem_cons,or_assoc]
abbrev SOk:=DOk 20000 badM
section
variable {m:Dt} {l:List Int×List Int×Unit}
theorem zrA (h:SOk m) (hw:∀ a∈l.2.1,0<=a/\a < m.1) (hl:l.2.1.length<=1000000) {rd:Int} (hrd:0<=rd/\rd<=100000) {r8:Int->Int->Int->Option Bool}:∀ (n:Nat) (t q s:Int),(l.2.1.length - t).toNat=n->0<=t->t<=l.2.1.length->0<=q->q < m.2.2.1.length->
  zbb m l rd r8 q s t=r8 (wlk m.2.2.1 q (l.2.1.drop t.toNat)) (addL m.2.2.2.1 s (trc m.2.2.1 q (l.2.1.drop t.toNat))) (rd+1):=by
 intro n
 induction n with
 | zero=>
  intro t q s hn h0 h1 q0 q1;rw [zeN];unfold zaT
  (try dsimp only);(repeat' first | (with_reducible refine G_to ?_ ?_;focus (first | omega | (unfold fits;omega) | (unfold room;(try simp only [List.length_append,List.length_cons,List.length_nil]);omega))) | (with_reducible refine zaf ?_ ?_) | (with_reducible refine zah ?_) | (with_reducible refine zag ?_) | (with_reducible refine zak (fun _ => ?_) (fun _ => ?_)))<;>try (exfalso;omega)
  rw [List.drop_of_length_le (by omega)];rfl
 | succ n ih=>
  intro t q s hn h0 h1 q0 q1;have ha:=hw _ (zcw h0 (by omega:t < l.2.1.length))
  have hr:=h.tab.rowlen q0 q1;have hs:=h.tab.stpb q0 q1 ha.1 ha.2;have hm:=h.mkl;have hs1:0<=ix (ix m.2.2.1 q) (ix l.2.1 t):=hs.1;have hs2:ix (ix m.2.2.1 q) (ix l.2.1 t) < m.2.2.1.length:=hs.2;have e:addL m.2.2.2.1 s (trc m.2.2.1 q (ix l.2.1 t::l.2.1.drop (t+1).toNat))=addL m.2.2.2.1 (if ix m.2.2.2.1 (ix (ix m.2.2.1 q) (ix l.2.1 t)) < s then ix m.2.2.2.1 (ix (ix m.2.2.1 q) (ix l.2.1 t)) else s) (trc m.2.2.1 (stp m.2.2.1 q (ix l.2.1 t)) (l.2.1.drop (t+1).toNat)):=rfl
  rw [zl3 h0 (by omega),e]
  rw [zeN];unfold zaT
  (try dsimp only);(repeat' first | (with_reducible refine G_to ?_ ?_;focus (first | omega | (unfold fits;omega) | (unfold room;(try simp only [List.length_append,List.length_cons,List.length_nil]);omega))) | (with_reducible refine zaf ?_ ?_) | (with_reducible refine zah ?_) | (with_reducible refine zag ?_) | (with_reducible refine zak (fun _ => ?_) (fun _ => ?_)))<;>try (exfalso;omega)
  ·rename_i hc;rw [if_pos hc];exact ih (t+1) _ _ (by omega) (by omega) (by omega) hs.1 hs.2
  ·rename_i hc;rw [if_neg hc];exact ih (t+1) _ _ (by omega) (by omega) (by omega) hs.1 hs.2
def rnd (m:Dt) (w:List Int) (x:Int×Int):Int×Int:=(wlk m.2.2.1 x.1 w,addL m.2.2.2.1 x.2 (trc m.2.2.1 x.1 w))
theorem znY (k:Nat) (x:Int×Int) (w:List Int):(itn (rnd m w) k x).1=itn (fun q=>wlk m.2.2.1 q w) k x.1:=by
 induction k with
 | zero=>rfl
 | succ k ih=>show wlk _ (itn (rnd m w) k x).1 w=_;rw [ih];rfl
theorem zkG (h:SOk m) {w:List Int} (hw:∀ a∈w,0<=a/\a < m.1) {q:Int} (q0:0<=q) (q1:q < m.2.2.1.length):∀ k,(0<=itn (fun q=>wlk m.2.2.1 q w) k q/\itn (fun q=>wlk m.2.2.1 q w) k q < m.2.2.1.length)/\Lst m.2.2.2.1 (itn (rnd m w) k (q,10)).2 (fun b=>∃ i,i < k/\b∈trc m.2.2.1 (itn (fun q=>wlk m.2.2.1 q w) i q) w)
 | 0=>⟨⟨q0,q1⟩,.inl rfl,Int.le_refl _,fun b ⟨i,hi,_⟩=>by omega⟩
 | k+1=>by
  obtain ⟨⟨h1,h2⟩,h3⟩:=zkG h hw q0 q1 k;refine ⟨h.tab.wlkb h1 h2 hw,?_⟩
  have h4:=zn9 (l:=trc m.2.2.1 (itn (rnd m w) k (q,10)).1 w) h3;refine h4.iff (fun b => ?_)
  rw [znY];constructor
  ·rintro (⟨i,hi,hb⟩ | hb)
   ·exact ⟨i,by omega,hb⟩
   ·exact ⟨k,by omega,hb⟩
  ·rintro ⟨i,hi,hb⟩;by_cases e:i=k
   ·subst e;exact .inr hb
   ·exact .inl ⟨i,by omega,hb⟩
def safV (m:Dt) (l:List Int×List Int×Unit):Int:=(itn (rnd m l.2.1) m.2.2.1.length (itn (fun q=>wlk m.2.2.1 q l.2.1) m.2.2.1.length (wlk m.2.2.1 m.2.1 l.1),10)).2
theorem zsG (h:SOk m) (hw:∀ a∈l.2.1,0<=a/\a < m.1) (hl:l.2.1.length<=1000000):∀ (n:Nat) (t q:Int),(m.2.2.1.length - t).toNat=n->0<=t->t<=m.2.2.1.length->0<=q->q < m.2.2.1.length->
  zdq m l q t=zcj m l (itn (fun q=>wlk m.2.2.1 q l.2.1) n q) 10 0:=by
 intro n
 induction n with
 | zero=>
  intro t q hn h0 h1 q0 q1;rw [zfq];unfold za5
  (try dsimp only);(repeat' first | (with_reducible refine G_to ?_ ?_;focus (first | omega | (unfold fits;omega) | (unfold room;(try simp only [List.length_append,List.length_cons,List.length_nil]);omega))) | (with_reducible refine zaf ?_ ?_) | (with_reducible refine zah ?_) | (with_reducible refine zag ?_) | (with_reducible refine zak (fun _ => ?_) (fun _ => ?_)))<;>try (exfalso;omega)
  rfl
 | succ n ih=>
  intro t q hn h0 h1 q0 q1;have hn4:=h.n1;have hs:=h.tab.wlkb q0 q1 hw;rw [zfq];unfold za5
  (try dsimp only);(repeat' first | (with_reducible refine G_to ?_ ?_;focus (first | omega | (unfold fits;omega) | (unfold room;(try simp only [List.length_append,List.length_cons,List.length_nil]);omega))) | (with_reducible refine zaf ?_ ?_) | (with_reducible refine zah ?_) | (with_reducible refine zag ?_) | (with_reducible refine zak (fun _ => ?_) (fun _ => ?_)))<;>try (exfalso;omega)
  refine za7 (zh0 (d:=m) h.tab hw hl q0 q1) ?_
  (try dsimp only);(repeat' first | (with_reducible refine G_to ?_ ?_;focus (first | omega | (unfold fits;omega) | (unfold room;(try simp only [List.length_append,List.length_cons,List.length_nil]);omega))) | (with_reducible refine zaf ?_ ?_) | (with_reducible refine zah ?_) | (with_reducible refine zag ?_) | (with_reducible refine zak (fun _ => ?_) (fun _ => ?_)))<;>try (exfalso;omega)
  rw [zri];exact ih (t+1) _ (by omega) (by omega) (by omega) hs.1 hs.2
theorem zsH (h:SOk m) (hw:∀ a∈l.2.1,0<=a/\a < m.1) (hl:l.2.1.length<=1000000) {v:Int} (v0:0<=v) (v1:v < m.2.2.1.length):∀ (d k:Nat),m.2.2.1.length - k=d->k<=m.2.2.1.length->
  zcj m l (itn (rnd m l.2.1) k (v,10)).1 (itn (rnd m l.2.1) k (v,10)).2 (k:Int)=some (decide (Int.tmod (itn (rnd m l.2.1) m.2.2.1.length (v,10)).2 2=0)):=by
 intro d
 induction d with
 | zero=>
  intro k h1 h2;obtain rfl:k=m.2.2.1.length:=by omega
  rw [zfr];unfold za6;rw [if_neg (by simp),zdw (by decide)]
 | succ d ih=>
  intro k h1 h2;have hn4:=h.n1;have hk:=(zkG h hw v0 v1 k).1;have ih':=ih (k+1) (by omega) (by omega)
  rw [zfr];unfold za6;rw [if_pos (by simp only [decide_eq_true_eq];omega)]
  rw [zrA h hw hl (by omega) _ 0 _ _ rfl (by omega) (by omega) (by rw [znY];exact hk.1) (by rw [znY];exact hk.2)]
  rw [<- ih'];rfl
theorem zkA (hm:detE 20000 badM m=0) (hl:lasE m.1 l=0):zgD m l=some (decide (Int.tmod (safV m l) 2=0)):=by
 have h:=zpK hm;obtain ⟨a1,a2,a3⟩:=zkh hl;have b1:=zeC a1;have b2:=zeC a2;have hq:=h.tab.wlkb h.st.1 h.st.2 b1.2.2;have hn4:=h.n1;have hqn:=(zkG h b2.2.2 hq.1 hq.2 m.2.2.1.length).1;unfold zgD;refine za7 (zh0 (d:=m) h.tab b1.2.2 (by omega) h.st.1 h.st.2) ?_
 have e3:=zsG (l:=l) h b2.2.2 (by omega) m.2.2.1.length 0 (wlk m.2.2.1 m.2.1 l.1) (by omega) (by omega) (by omega) hq.1 hq.2
 exact e3.trans (zsH h b2.2.2 (by omega) hqn.1 hqn.2 m.2.2.1.length 0 (by omega) (by omega))
end
def rds (h w:List Int):Nat->List Int
 | 0=>h
 | k+1=>rds h w k++w
theorem zkK {N:List (List Int)}:∀ {w:List Int} {q b:Int},b∈trc N q w↔∃ p x s,w=p++x::s/\b=wlk N q (p++[x])
 | [],q,b=>⟨fun h=>(by cases h),fun ⟨p,x,s,h,_⟩=>(by cases p<;>cases h)⟩
 | a::w,q,b=>by
  show b∈stp N q a::trc N (stp N q a) w↔_;rw [List.mem_cons,zkK (w:=w)];constructor
  ·rintro (rfl | ⟨p,x,s,rfl,rfl⟩)
   ·exact ⟨[],a,w,rfl,rfl⟩
   ·exact ⟨a::p,x,s,rfl,rfl⟩
  ·rintro ⟨p,x,s,h,rfl⟩
   cases p with
   | nil=>cases h;exact .inl rfl
   | cons c p=>cases h;exact .inr ⟨p,x,s,rfl,rfl⟩
theorem zcL {N:List (List Int)} (q:Int) (u v:List Int):wlk N q (u++v)=wlk N (wlk N q u) v:=by unfold wlk;rw [List.foldl_append]
theorem zn7 {N:List (List Int)} (q:Int) (h w:List Int):∀ k,wlk N q (rds h w k)=itn (fun q=>wlk N q w) k (wlk N q h)
 | 0=>rfl
 | k+1=>by rw [rds,zcL,zn7 q h w k];rfl
section
variable {L:Int} {N:List (List Int)} {q0:Int} {h w:List Int}
def zfy (N:List (List Int)) (q0:Int) (h w:List Int) (b:Int):Prop:=∃ i,i < N.length/\b∈trc N (itn (fun q=>wlk N q w) i (itn (fun q=>wlk N q w) N.length (wlk N q0 h))) w
structure LasOk (L:Int) (N:List (List Int)) (q0:Int) (h w:List Int):Prop where
 tab:Tab L N
 st:0<=q0/\q0 < N.length
 hh:∀ a∈h,0<=a/\a < L
 hw:∀ a∈w,0<=a/\a < L
theorem LasOk.circ (o:LasOk L N q0 h w):∃ p,0 < p/\p<=N.length/\itn (fun q=>wlk N q w) p (itn (fun q=>wlk N q w) N.length (wlk N q0 h))=itn (fun q=>wlk N q w) N.length (wlk N q0 h):=by
 have hb:=o.tab.wlkb o.st.1 o.st.2 o.hh;exact zr1 (f:=fun q=>wlk N q w) (n:=N.length) (fun q q0 q1=>o.tab.wlkb q0 q1 o.hw) hb.1 hb.2
theorem zfy.of (o:LasOk L N q0 h w) {k:Nat} (hk:N.length<=k) {b:Int} (hb:b∈trc N (wlk N q0 (rds h w k)) w):zfy N q0 h w b:=by
 obtain ⟨p,p0,p1,hp⟩:=o.circ;rw [zn7,show k=(k - N.length)+N.length by omega,zfN,znP hp] at hb
 exact ⟨(k - N.length) % p,Nat.lt_of_lt_of_le (Nat.mod_lt _ p0) p1,hb⟩
theorem zfy.soon (o:LasOk L N q0 h w) {b:Int} (hb:zfy N q0 h w b) {k:Nat} (hk:N.length<=k):∃ k',k<=k'/\k' < k+N.length/\b∈trc N (wlk N q0 (rds h w k')) w:=by
 obtain ⟨p,p0,p1,hp⟩:=o.circ;obtain ⟨i,_,hi⟩:=hb;obtain ⟨J,rfl⟩:∃ J,k=N.length+J:=⟨k - N.length,by omega⟩
 have hm:(J+(i+(p - 1) * J) % p) % p=i % p:=by
  rw [Nat.add_mod_mod,show J+(i+(p - 1) * J)=i+p * J by
   obtain ⟨r,rfl⟩:∃ r,p=r+1:=⟨p - 1,by omega⟩
   rw [Nat.add_sub_cancel,Nat.add_mul,Nat.one_mul];omega,Nat.add_mul_mod_self_left]
 have hlt:=Nat.mod_lt (i+(p - 1) * J) p0;refine ⟨N.length+J+(i+(p - 1) * J) % p,by omega,by omega,?_⟩
 rw [zn7,show N.length+J+(i+(p - 1) * J) % p=(J+(i+(p - 1) * J) % p)+N.length by omega,zfN,znP hp,hm,<- znP hp]
 exact hi
theorem zmd {Inv:List Int->Prop} {k:Nat} (h0:Inv (rds h w k)) (hs:∀ k',k<=k'->∀ p x s,w=p++x::s->Inv (rds h w k'++p)->Inv (rds h w k'++(p++[x]))):∀ k',k<=k'->∀ p s,w=p++s->Inv (rds h w k'++p):=by
 have row:∀ k',k<=k'->Inv (rds h w k')->∀ p s,w=p++s->Inv (rds h w k'++p):=by
  intro k' hk hi p
  induction hn:p.length generalizing p with
  | zero=>
   intro s e;obtain rfl:=List.length_eq_zero_iff.1 hn;rw [List.append_nil];exact hi
  | succ n ih=>
   intro s e;obtain ⟨p',x,rfl⟩:∃ p' x,p=p'++[x]:=⟨p.dropLast,p.getLast (by intro h;simp [h] at hn),(List.dropLast_concat_getLast (by intro h;simp [h] at hn)).symm⟩
   rw [List.length_append,List.length_singleton] at hn;have e':w=p'++x::s:=by rw [e];simp
   exact hs k' hk p' x s e' (ih p' (by omega) (x::s) e')
 intro k' hk;have:Inv (rds h w k'):=by
  obtain ⟨j,rfl⟩:∃ j,k'=k+j:=⟨k' - k,by omega⟩
  clear hk
  induction j with
  | zero=>exact h0
  | succ j ih=>
   have:=row (k+j) (by omega) ih w [] (by simp)
   exact this
 exact row k' hk this
end
section
def zlw (Z:Int->Prop) (r:List Int) (c:Nat):Prop:=∃ A B,r=A++B/\A.length=c/\∀ x,x∈A↔Z x
theorem zlw.step {Z:Int->Prop} {r:List Int} {c:Nat} (f:zlw Z r c) (hn:r.Nodup) {q:Int} (hq:Z q):zlw Z (q::r.erase q) c/\r.idxOf q < c:=by
 obtain ⟨A,B,rfl,hl,hz⟩:=f;have hqA:=(hz q).2 hq;have hA:=(List.nodup_append.1 hn).1;have hle:=List.length_erase_of_mem hqA;have hpos:=List.length_pos_of_mem hqA;refine ⟨⟨q::A.erase q,B,by rw [List.erase_append_left _ hqA];rfl,by rw [List.length_cons];omega,fun x => ?_⟩,?_⟩
 ·rw [List.mem_cons,hA.mem_erase_iff,<- hz x];constructor
  ·rintro (rfl | h)
   ·exact hqA
   ·exact h.2
  ·intro h;by_cases c:x=q
   ·exact .inl c
   ·exact .inr ⟨c,h⟩
 ·rw [List.idxOf_append,if_pos hqA];have:=List.idxOf_lt_length_of_mem hqA;omega
theorem zqH {h w:List Int} {k k':Nat} (hk:k<=k'):∃ s,rds h w k'=rds h w k++s:=by
 obtain ⟨j,rfl⟩:∃ j,k'=k+j:=⟨k' - k,by omega⟩
 clear hk
 induction j with
 | zero=>exact ⟨[],by simp⟩
 | succ j ih=>
  obtain ⟨s,e⟩:=ih;exact ⟨s++w,by show rds h w (k+j)++w=_;rw [e,List.append_assoc]⟩
variable {L:Int} {N:List (List Int)} {q0:Int} {h w:List Int}
theorem zb2 (o:LasOk L N q0 h w) {k:Nat} (hk:N.length<=k) {p s:List Int} {x:Int} (e:w=p++x::s):zfy N q0 h w (wlk N q0 (rds h w k++(p++[x]))):=by
 refine zfy.of o hk ?_
 rw [zcL];exact zkK.2 ⟨p,x,s,e,rfl⟩
structure Lar (N:List (List Int)) (q0:Int) (h w:List Int) (R:List Int->List Int) (st:List Int->Nat):Prop where
 nd:∀ k p s,w=p++s->(R (rds h w k++p)).Nodup
 mem:∀ k p x s,w=p++x::s->wlk N q0 (rds h w k++(p++[x]))∈R (rds h w k++p)
 row:∀ k p x s,w=p++x::s->R (rds h w k++(p++[x]))=wlk N q0 (rds h w k++(p++[x]))::(R (rds h w k++p)).erase (wlk N q0 (rds h w k++(p++[x])))
 st:∀ k p x s,w=p++x::s->st (rds h w k++(p++[x]))=(R (rds h w k++p)).idxOf (wlk N q0 (rds h w k++(p++[x])))
variable {R:List Int->List Int} {st:List Int->Nat}
theorem Lar.front (o:LasOk L N q0 h w) (r:Lar N q0 h w R st):∃ c,zlw (zfy N q0 h w) (R (rds h w (N.length+N.length))) c:=by
 have key:=zmd (h:=h) (w:=w) (Inv:=fun v=>∃ A B,R v=A++B/\(∀ x∈A,zfy N q0 h w x)/\∀ t s,v=t++s->(rds h w N.length).length < t.length->wlk N q0 t∈A) (k:=N.length)
  ⟨[],R (rds h w N.length),rfl,by simp,fun t s e hl=>by rw [e,List.length_append] at hl;omega⟩ (by
   rintro k hk p x s e ⟨A,B,hR,hA,hT⟩;have hZ:=zb2 o hk e;have hnd:=r.nd k p _ e;have hmem:=r.mem k p x s e;rw [r.row k p x s e];rw [hR] at hnd hmem ⊢;generalize hq:wlk N q0 (rds h w k++(p++[x]))=q at hZ hmem;have hT':∀ A':List Int,(∀ y,y∈A->y∈A')->q∈A'->∀ t s,rds h w k++(p++[x])=t++s->(rds h w N.length).length < t.length->wlk N q0 t∈A':=fun A' hs hqA t s et hl=>by
    rcases List.eq_nil_or_concat s with rfl | ⟨s',y,rfl⟩
    ·rw [List.append_nil] at et;rw [<- et,hq];exact hqA
    ·rw [List.concat_eq_append,<- List.append_assoc,<- List.append_assoc] at et;have:=List.append_inj' et rfl;exact hs _ (hT t s' this.1 hl)
   by_cases c:q∈A
   ·refine ⟨q::A.erase q,B,by rw [List.erase_append_left _ c];rfl,fun y hy => ?_,hT' _ (fun y hy => ?_) (List.mem_cons_self ..)⟩
    ·rcases List.mem_cons.1 hy with rfl | hy
     ·exact hZ
     ·exact hA y (List.mem_of_mem_erase hy)
    ·by_cases d:y=q
     ·rw [d];exact List.mem_cons_self ..
     ·exact List.mem_cons_of_mem _ ((List.mem_erase_of_ne d).2 hy)
   ·refine ⟨q::A,B.erase q,by rw [List.erase_append_right _ c];rfl,fun y hy => ?_,hT' _ (fun y hy=>List.mem_cons_of_mem _ hy) (List.mem_cons_self ..)⟩
    rcases List.mem_cons.1 hy with rfl | hy
    ·exact hZ
    ·exact hA y hy)
 have:=key (N.length+N.length) (by omega) [] w rfl
 rw [List.append_nil] at this;obtain ⟨A,B,hR,hA,hT⟩:=this;refine ⟨A.length,A,B,hR,rfl,fun x=>⟨hA x,fun hx => ?_⟩⟩
 obtain ⟨k,k0,k1,hk⟩:=hx.soon o (k:=N.length) (Nat.le_refl _);obtain ⟨p,y,s,e,rfl⟩:=zkK.1 hk;rw [<- zcL];obtain ⟨s2,e2⟩:=zqH (h:=h) (w:=w) (k:=k+1) (k':=N.length+N.length) (by omega)
 obtain ⟨s3,e3⟩:=zqH (h:=h) (w:=w) k0;refine hT _ (s++s2) ?_ ?_
 ·rw [e2];show rds h w k++w++s2=_;rw [List.append_assoc,List.append_assoc,List.append_assoc];congr 1
  rw [e];simp
 ·rw [e3];simp only [List.length_append,List.length_singleton];omega
theorem Lar.on (o:LasOk L N q0 h w) (r:Lar N q0 h w R st) {c k1:Nat} (hk1:N.length<=k1) (f:zlw (zfy N q0 h w) (R (rds h w k1)) c) {k:Nat} (hk:k1<=k) {p s:List Int} {x:Int} (e:w=p++x::s):
  zlw (zfy N q0 h w) (R (rds h w k++(p++[x]))) c/\st (rds h w k++(p++[x])) < c:=by
 have key:=zmd (h:=h) (w:=w) (Inv:=fun v=>zlw (zfy N q0 h w) (R v) c) (k:=k1) f (fun k hk p x s e hf=>by
  rw [r.row k p x s e];exact (hf.step (r.nd k p _ e) (zb2 o (by omega) e)).1)
 have hf:=(key k hk p _ e).step (r.nd k p _ e) (zb2 o (k:=k) (by omega) e)
 rw [r.row k p x s e,r.st k p x s e];exact hf
theorem Lar.last (o:LasOk L N q0 h w) (r:Lar N q0 h w R st) (hw0:w≠[]) {c k1:Nat} (hk1:N.length<=k1) (f:zlw (zfy N q0 h w) (R (rds h w k1)) c) {k:Nat} (hk:k1<=k):
  ∃ k' p x s,k<=k'/\w=p++x::s/\st (rds h w k'++(p++[x]))+1=c:=by
 refine Classical.byContradiction fun hno => ?_
 have hno:∀ k',k<=k'->∀ p x s,w=p++x::s -> ¬ st (rds h w k'++(p++[x]))+1=c:=fun k' hk' p x s e hc=>hno ⟨k',p,x,s,hk',e,hc⟩
 have key0:=zmd (h:=h) (w:=w) (Inv:=fun v=>zlw (zfy N q0 h w) (R v) c) (k:=k1) f (fun k hk p x s e hf=>by
  rw [r.row k p x s e];exact (hf.step (r.nd k p _ e) (zb2 o (by omega) e)).1)
 have f0:=key0 k hk [] w rfl;rw [List.append_nil] at f0;obtain ⟨A,B,hR,hl,hz⟩:=f0;obtain ⟨x0,w',hw'⟩:∃ x0 w',w=x0::w':=by cases w with | nil=>exact absurd rfl hw0 | cons a b=>exact ⟨a,b,rfl⟩
 have hne:A≠[]:=fun hA=>by
  have:=(hz _).2 (zb2 o hk1 (p:=[]) (x:=x0) (s:=w') hw');rw [hA] at this;cases this
 obtain ⟨A0,e,rfl⟩:∃ A0 e,A=A0++[e]:=⟨A.dropLast,A.getLast hne,(List.dropLast_concat_getLast hne).symm⟩;have step:∀ k',k<=k'->∀ p x s,w=p++x::s->(∃ A0 B,R (rds h w k'++p)=A0++e::B/\A0.length+1=c/\∀ y,y∈A0\/y=e↔zfy N q0 h w y) -> ¬ wlk N q0 (rds h w k'++(p++[x]))=e:=by
  rintro k' hk' p x s ew ⟨A0,B,hR,hl,hz⟩ hq;have hnd:=r.nd k' p _ ew;refine hno k' hk' p x s ew ?_
  rw [r.st k' p x s ew,hR,hq];rw [hR] at hnd;have hne:e∉A0:=fun h=>(List.nodup_append.1 hnd).2.2 e h e (List.mem_cons_self ..) rfl
  rw [List.idxOf_append,if_neg hne,List.idxOf_cons_self];omega
 have key:=zmd (h:=h) (w:=w) (Inv:=fun v=>∃ A0 B,R v=A0++e::B/\A0.length+1=c/\∀ y,y∈A0\/y=e↔zfy N q0 h w y) (k:=k)
  ⟨A0,B,by rw [hR];simp,by rw [<- hl];simp,fun y=>by rw [<- hz y];simp⟩ (fun k' hk' p x s ew hi=>by
   have hqe:=step k' hk' p x s ew hi;have hZ:=zb2 o (by omega:N.length<=k') ew
   have hnd:=r.nd k' p _ ew;rw [r.row k' p x s ew];obtain ⟨A0,B,hR,hl,hz⟩:=hi;rw [hR] at hnd ⊢;generalize wlk N q0 (rds h w k'++(p++[x]))=q at hqe hZ;have hqA:q∈A0:=((hz q).2 hZ).resolve_right hqe;have hA:=(List.nodup_append.1 hnd).1;have hle:=List.length_erase_of_mem hqA;have hpos:=List.length_pos_of_mem hqA;refine ⟨q::A0.erase q,B,by rw [List.erase_append_left _ hqA];rfl,by rw [List.length_cons];omega,fun y => ?_⟩
   rw [<- hz y,List.mem_cons,hA.mem_erase_iff];constructor
   ·rintro ((rfl | h) | h)
    ·exact .inl hqA
    ·exact .inl h.2
    ·exact .inr h
   ·rintro (h | h)
    ·by_cases c:y=q
     ·exact .inl (.inl c)
     ·exact .inl (.inr ⟨c,h⟩)
    ·exact .inr h)
 have he:zfy N q0 h w e:=(hz e).1 (by simp)
 obtain ⟨k',h1,_,h3⟩:=he.soon o (k:=k) (by omega)
 obtain ⟨p,x,s,ew,hq⟩:=zkK.1 h3;rw [<- zcL] at hq;exact step k' h1 p x s ew (key k' h1 p _ ew) hq.symm
end
def zc0:List (List Int):=[[0,1,2,3],[0,1,3,2],[0,2,1,3],[0,2,3,1],[0,3,1,2],[0,3,2,1],[1,0,2,3],[1,0,3,2],[1,2,0,3],[1,2,3,0],[1,3,0,2],[1,3,2,0],[2,0,1,3],[2,0,3,1],[2,1,0,3],[2,1,3,0],[2,3,0,1],[2,3,1,0],[3,0,1,2],[3,0,2,1],[3,1,0,2],[3,1,2,0],[3,2,0,1],[3,2,1,0]]
theorem zea:∀ r∈zc0,r.Nodup/\r.length=4/\(∀ q∈r,0<=q/\q < 4)/\∀ q∈r,(q::r.erase q)∈zc0:=by decide+kernel
theorem zqD:∀ r∈zc0,∀ q∈r,mtf5 (r.getD 0 0) (r.getD 1 0) (r.getD 2 0) (r.getD 3 0) q (r.idxOf q)=q::r.erase q:=by decide+kernel
def zaq (s:Int):List Int:=zc0.getD (s.toNat / 4) []
def stOf (s:Int):Nat:=s.toNat % 4
def encR (r:List Int) (k:Nat):Int:=((4 * zc0.idxOf r+k:Nat):Int)
theorem zpM {r:List Int} {k:Nat} (hr:r∈zc0) (hk:k < 4):zaq (encR r k)=r/\stOf (encR r k)=k/\0<=encR r k/\encR r k < 96:=by
 have hi:=List.idxOf_lt_length_of_mem hr;have hl:zc0.length=24:=rfl;unfold zaq stOf encR;rw [Int.toNat_natCast,show (4 * zc0.idxOf r+k) / 4=zc0.idxOf r by omega,show (4 * zc0.idxOf r+k) % 4=k by omega]
 refine ⟨?_,rfl,by omega,by omega⟩
 rw [List.getD_eq_getElem?_getD,List.getElem?_eq_getElem hi];simp
def decR (r:List Int) (k:Nat):Rcd:=((ix r 0,ix r 1,ix r 2,ix r 3,()),(k:Int),())
def dec (s:Int):Rcd:=decR (zaq s) (stOf s)
theorem zdK {s:Int} (h0:0<=s) (h1:s < 96):zaq s∈zc0:=by
 have hl:zc0.length=24:=rfl;have hi:s.toNat / 4 < zc0.length:=by omega
 unfold zaq;rw [List.getD_eq_getElem?_getD,List.getElem?_eq_getElem hi];exact List.getElem_mem hi
theorem zsr {r:List Int} (h:r.length=4):r=[ix r 0,ix r 1,ix r 2,ix r 3]:=by
 match r,h with
 | [a,b,c,d],_=>rfl
theorem zqC:∀ i,i < 24->∀ j,j < 24->zc0.getD i []=zc0.getD j []->i=j:=by decide+kernel
theorem zr6 {x y:Int} (hx:0<=x/\x < 96) (hy:0<=y/\y < 96) (h:dec x=dec y):x=y:=by
 have h1:=(zea _ (zdK hx.1 hx.2)).2.1;have h2:=(zea _ (zdK hy.1 hy.2)).2.1;unfold dec decR at h;simp only [Prod.mk.injEq] at h;obtain ⟨⟨a0,a1,a2,a3,_⟩,hk,_⟩:=h;have hr:zaq x=zaq y:=by rw [zsr h1,zsr h2,a0,a1,a2,a3]
 have:=zqC _ (by omega) _ (by omega) hr
 unfold stOf at hk;omega
section
variable {m:Mul}
def Fst (n:Nat) (r:List Int):Prop:=∀ q:Int,q∈r.take n↔0<=q/\q < n
theorem Fst.step {n:Nat} {r:List Int} (hr:r∈zc0) (hn:n<=4) (f:Fst n r) {q:Int} (q0:0<=q) (q1:q < n):Fst n (q::r.erase q)/\r.idxOf q < n/\(r.take n).idxOf q=r.idxOf q/\q∈r:=by
 obtain ⟨hnd,hl,_,_⟩:=zea r hr;have hq:=(f q).2 ⟨q0,q1⟩;have hta:r.take n++r.drop n=r:=List.take_append_drop n r;have htl:(r.take n).length=n:=by rw [List.length_take];omega
 have hlt:=List.idxOf_lt_length_of_mem hq;have hA:(r.take n).Nodup:=by rw [<- hta] at hnd;exact (List.nodup_append.1 hnd).1
 have hi:(r.take n).idxOf q=r.idxOf q:=by
  conv=>rhs;rw [<- hta]
  rw [List.idxOf_append,if_pos hq]
 refine ⟨fun y => ?_,by omega,hi,List.mem_of_mem_take hq⟩
 have he:q::r.erase q=(q::(r.take n).erase q)++r.drop n:=by
  conv=>lhs;rw [<- hta]
  rw [List.erase_append_left _ hq];rfl
 have hle:=List.length_erase_of_mem hq;rw [he,List.take_append_of_le_length (by rw [List.length_cons];omega),List.take_of_length_le (by rw [List.length_cons];omega),List.mem_cons,hA.mem_erase_iff,f y]
 constructor
 ·rintro (rfl | h)
  ·exact ⟨q0,q1⟩
  ·exact h.2
 ·intro h;by_cases c:y=q
  ·exact .inl c
  ·exact .inr ⟨c,h⟩
def nxR (m:Mul) (s a:Int):Int:=encR (ix (ix m.2.2.1 (ix (zaq s) 0)) a::(zaq s).erase (ix (ix m.2.2.1 (ix (zaq s) 0)) a)) ((zaq s).idxOf (ix (ix m.2.2.1 (ix (zaq s) 0)) a))
open Classical in
def mkR (m:Mul) (s:Int):Int:=if addT 0 ((zaq s).take (stOf s+1))∈m.2.2.2.1 then 2 * ((m.2.2.1.length:Int) - stOf s) else 2 * ((m.2.2.1.length:Int) - stOf s) - 1
def PR (n:Nat) (s:Int):Prop:=0<=s/\s < 96/\stOf s < n/\Fst n (zaq s)
theorem PR.step (h:MOk m) {s a:Int} (p:PR m.2.2.1.length s) (a0:0<=a) (a1:a < m.1):∃ q,q=ix (ix m.2.2.1 (ix (zaq s) 0)) a/\(0<=ix (zaq s) 0/\ix (zaq s) 0 < m.2.2.1.length)/\(0<=q/\q < m.2.2.1.length)/\q∈zaq s/\zaq (nxR m s a)=q::(zaq s).erase q/\stOf (nxR m s a)=(zaq s).idxOf q/\(zaq s).idxOf q < m.2.2.1.length/\PR m.2.2.1.length (nxR m s a):=by
 obtain ⟨s0,s1,hst,f⟩:=p;have hn4:=h.n1;have hr:=zdK s0 s1;obtain ⟨hnd,hl,h4,hc⟩:=zea _ hr;have hz:ix (zaq s) 0∈(zaq s).take m.2.2.1.length:=by
  rw [<- zrj (n:=m.2.2.1.length) (by omega) (by omega)]
  exact zcw (by omega) (by rw [List.length_take];omega)
 have hz:=(f _).1 hz;have hq:=h.tab.stpb hz.1 hz.2 a0 a1;unfold stp at hq;obtain ⟨f',hlt,_,hm⟩:=f.step hr (by omega) hq.1 hq.2
 obtain ⟨e1,e2,e3,e4⟩:=zpM (hc _ hm) (k:=(zaq s).idxOf (ix (ix m.2.2.1 (ix (zaq s) 0)) a)) (by omega)
 refine ⟨_,rfl,hz,hq,hm,e1,e2,hlt,e3,e4,?_,?_⟩
 ·show stOf (encR _ _) < _;rw [e2];exact hlt
 ·show Fst _ (zaq (encR _ _));rw [e1];exact f'
theorem zoP {l:List Int} (hl:l.length<=1000) {v:Int} (hv:v∈l):zc2 l v=some (l.idxOf v:Nat):=by
 have key:∀ (n t:Nat),l.length - t=n->t<=l.idxOf v->zcu l v t=some (l.idxOf v:Nat):=by
  have hi:=List.idxOf_lt_length_of_mem hv;intro n
  induction n with
  | zero=>intro t hn ht;omega
  | succ n ih=>
   intro t hn ht;rw [zej];unfold za3;rw [if_pos (by rw [decide_eq_true_iff];omega),zdw (by omega)]
   by_cases c:v=ix l (t:Int)
   ·rw [if_pos (decide_eq_true c)];congr 1
    have htl:t < l.length:=by omega
    have e:l[t]=v:=by rw [c,zio (by omega) (by omega)];simp
    have:l.idxOf v<=t:=by
     refine Classical.byContradiction fun hlt => ?_
     have:=List.not_of_lt_findIdx (p:=(·==v)) (i:=t) (xs:=l) (by unfold List.idxOf at hlt;omega)
     simp [e] at this
    omega
   ·rw [if_neg (by rw [decide_eq_true_iff];exact c),zdw (by unfold fits;omega)]
    refine ih (t+1) (by omega) ?_
    refine Nat.lt_of_le_of_ne ht fun e=>c ?_
    subst e;have:l[l.idxOf v]=v:=List.getElem_idxOf hi;rw [zio (by omega) (by omega)]
    simp
 exact key _ 0 rfl (Nat.zero_le _)
theorem zps (h:MOk m) {s a:Int} (p:PR m.2.2.1.length s) (a0:0<=a) (a1:a < m.1):zbl (dec s) a m (m.2.2.1.length:Int)=some (dec (nxR m s a)):=by
 obtain ⟨q,hq,z,hb,hm,e1,e2,hlt,p'⟩:=p.step h a0 a1;have hn4:=h.n1;obtain ⟨s0,s1,hst,f⟩:=p;have hr:=zdK s0 s1;obtain ⟨hnd,hl,h4,hc⟩:=zea _ hr;have hrow:=h.tab.rowlen z.1 z.2;obtain ⟨_,_,hti,_⟩:=f.step hr (by omega) hb.1 hb.2
 have hqt:=(f q).2 hb;unfold zbl;show G (0<=ix (zaq s) 0/\ix (zaq s) 0 < m.2.2.1.length/\m.2.2.1.length<=4) (G (0<=a/\a < (ix m.2.2.1 (ix (zaq s) 0)).length) (G _ ((zc2 ([ix (zaq s) 0,ix (zaq s) 1,ix (zaq s) 2,ix (zaq s) 3].take (m.2.2.1.length:Int).toNat) (ix (ix m.2.2.1 (ix (zaq s) 0)) a)).bind fun k=>G (0<=k/\k<=3) (some (mtfR (dec s) (ix (ix m.2.2.1 (ix (zaq s) 0)) a) k)))))=_
 rw [zdw (by omega),zdw (by omega),zdw (by omega),<- zsr hl,Int.toNat_natCast,<- hq]
 refine za7 (zoP (by rw [List.length_take];omega) hqt) ?_
 rw [hti,zdw (by omega)]
 congr 1
 unfold mtfR;rw [Int.toNat_natCast];show ((ix (mtf5 (ix (zaq s) 0) (ix (zaq s) 1) (ix (zaq s) 2) (ix (zaq s) 3) q ((zaq s).idxOf q)) 0,ix (mtf5 (ix (zaq s) 0) (ix (zaq s) 1) (ix (zaq s) 2) (ix (zaq s) 3) q ((zaq s).idxOf q)) 1,ix (mtf5 (ix (zaq s) 0) (ix (zaq s) 1) (ix (zaq s) 2) (ix (zaq s) 3) q ((zaq s).idxOf q)) 2,ix (mtf5 (ix (zaq s) 0) (ix (zaq s) 1) (ix (zaq s) 2) (ix (zaq s) 3) q ((zaq s).idxOf q)) 3,()),(((zaq s).idxOf q:Nat):Int),())=decR (zaq (nxR m s a)) (stOf (nxR m s a));have hmt:mtf5 (ix (zaq s) 0) (ix (zaq s) 1) (ix (zaq s) 2) (ix (zaq s) 3) q ((zaq s).idxOf q)=q::(zaq s).erase q:=zqD _ hr q hm;rw [hmt,e1,e2];rfl
theorem zqZ (r:List Int) (hl:r.length=4):∀ k,k<=4->addB (ix r 0) (ix r 1) (ix r 2) (ix r 3) k=addT 0 (r.take k):=by
 match r,hl with
 | [a,b,c,d],_=>
  intro k hk;have:k=0\/k=1\/k=2\/k=3\/k=4:=by omega
  rcases this with rfl | rfl | rfl | rfl | rfl<;>rfl
theorem zpt (h:MOk m) (hs:m.2.2.2.1.length<=1000000000000000) {s:Int} (p:PR m.2.2.1.length s):zbm (dec s) (m.2.2.1.length:Int) m=some (mkR m s):=by
 have hn4:=h.n1;obtain ⟨s0,s1,hst,f⟩:=p;have hr:=zdK s0 s1;obtain ⟨hnd,hl,h4,hc⟩:=zea _ hr;have hm:∀ i:Int,0<=i->i < 4->0<=ix (zaq s) i:=fun i i0 i1=>(h4 _ (zcw i0 (by omega))).1
 unfold zbm;show G (0<=ix (zaq s) 0/\0<=ix (zaq s) 1/\0<=ix (zaq s) 2/\0<=ix (zaq s) 3) (G (0<=((stOf s:Nat):Int)/\((stOf s:Nat):Int)<=3) (G _ ((zco m.2.2.2.1 (addB (ix (zaq s) 0) (ix (zaq s) 1) (ix (zaq s) 2) (ix (zaq s) 3) (((stOf s:Nat):Int).toNat+1))).bind fun b=>some (if b=true then 2 * ((m.2.2.1.length:Int) - (stOf s:Nat)) else 2 * ((m.2.2.1.length:Int) - (stOf s:Nat)) - 1))))=_
 rw [zdw ⟨hm 0 (by omega) (by omega),hm 1 (by omega) (by omega),hm 2 (by omega) (by omega),hm 3 (by omega) (by omega)⟩,zdw (by omega),zdw (by omega),Int.toNat_natCast,zqZ _ hl _ (by omega)]
 obtain ⟨b,hb,hb2⟩:=zgg (s:=m.2.2.2.1) (v:=addT 0 ((zaq s).take (stOf s+1))) (by omega)
 refine za7 hb ?_
 unfold mkR;by_cases c:addT 0 ((zaq s).take (stOf s+1))∈m.2.2.2.1
 ·rw [if_pos (hb2.2 c),if_pos c]
 ·rw [if_neg (fun hh=>c (hb2.1 hh)),if_neg c]
theorem mkR_b (h:MOk m) {s:Int} (p:PR m.2.2.1.length s):0<=mkR m s/\mkR m s<=9:=by
 have hn4:=h.n1;obtain ⟨s0,s1,hst,f⟩:=p;unfold mkR
 split<;>omega
def row0 (q:Int):List Int:=([q,1,2,3]:List Int).set q.toNat 0
theorem zqN (n:Nat) (hn:n<=4) {q:Int} (q0:0<=q) (q1:q < n):row0 q∈zc0/\Fst n (row0 q)/\ix (row0 q) 0=q:=by
 have hq:q=0\/q=1\/q=2\/q=3:=by omega
 have hn':n=1\/n=2\/n=3\/n=4:=by omega
 refine ⟨by rcases hq with rfl | rfl | rfl | rfl<;>decide,fun x => ?_,by rcases hq with rfl | rfl | rfl | rfl<;>rfl⟩
 have e0:row0 0=[0,1,2,3]:=rfl;have e1:row0 1=[1,0,2,3]:=rfl;have e2:row0 2=[2,1,0,3]:=rfl;have e3:row0 3=[3,1,2,0]:=rfl;rcases hq with rfl | rfl | rfl | rfl<;>rcases hn' with rfl | rfl | rfl | rfl<;>first | omega | (simp [e0,e1,e2,e3];omega)
def fstR (m:Mul):Int:=encR (row0 m.2.1) 0
theorem znL (h:MOk m):PR m.2.2.1.length (fstR m)/\zaq (fstR m)=row0 m.2.1/\stOf (fstR m)=0:=by
 have hn4:=h.n1;obtain ⟨a1,a2,a3⟩:=zqN m.2.2.1.length (by omega) h.st.1 h.st.2
 obtain ⟨e1,e2,e3,e4⟩:=zpM a1 (k:=0) (by omega)
 exact ⟨⟨e3,e4,by rw [show stOf (fstR m)=0 from e2];omega,by rw [show zaq (fstR m)=_ from e1];exact a2⟩,e1,e2⟩
end
theorem zeE {α:Type}:∀ {ks:List α} {x:α},zbc ks x=none↔x∉ks
 | [],x=>by simp [zbc]
 | y::ys,x=>by
  unfold zbc;by_cases h:y=x
  ·rw [if_pos h];simp [h]
  ·rw [if_neg h,Option.map_eq_none_iff,zeE];simp [Ne.symm h]
theorem zqu {α:Type} {ks:List α} {x:α} (h:x∉ks):zfS ks x=ks++[x]:=by
 unfold zfS;rw [zeE.2 h]
theorem zrP {α:Type} [DecidableEq α]:∀ {l U:List α},l.Nodup->(∀ x∈l,x∈U)->l.length<=U.length
 | [],_,_,_=>Nat.zero_le _
 | a::l,U,hn,hs=>by
  have ha:=hs a (by simp)
  obtain ⟨h1,h2⟩:=List.nodup_cons.1 hn;have:=zrP (U:=U.erase a) h2 (fun x hx=>(List.mem_erase_of_ne (by rintro rfl;exact h1 hx)).2 (hs x (by simp [hx])))
  rw [List.length_erase_of_mem ha] at this;have hp:0 < U.length:=List.length_pos_of_mem ha;rw [List.length_cons];omega
theorem zph {l:List Int} {n:Nat} (h:l.Nodup) (hb:∀ x∈l,0<=x/\x < n):l.length<=n:=by
 have:=zrP (U:=(List.range n).map Int.ofNat) h (fun x hx=>by
  have:=hb x hx;exact List.mem_map.2 ⟨x.toNat,List.mem_range.2 (by omega),by show ((x.toNat:Nat):Int)=x;omega⟩)
 simpa using this
theorem zoz {α:Type} (ks:List α) (x:α):zbc (x::ks) x=some 0:=by unfold zbc;rw [if_pos rfl]
theorem zoA {α:Type} {ks:List α} {x y:α} (h:y≠x):zbc (y::ks) x=(zbc ks x).map (·+1):=by
 rw [zbc,if_neg h]
theorem zmW {α β:Type} (f:α->β):∀ {ks:List α} {x:α},(∀ y∈ks,f y=f x->y=x)->zbc (ks.map f) (f x)=zbc ks x
 | [],_,_=>rfl
 | y::ks,x,h=>by
  have ih:=zmW f (ks:=ks) (x:=x) (fun z hz=>h z (by simp [hz]))
  rw [List.map_cons];by_cases e:y=x
  ·subst e;rw [zoz,zoz]
  ·rw [zoA e,zoA (fun hh=>e (h y (by simp) hh)),ih]
def iota (n:Nat):List Int:=(List.range n).map fun j:Nat=>(j:Int)
theorem zqf (n:Nat):iota (n+1)=iota n++[(n:Int)]:=by simp [iota,List.range_succ]
theorem zqt {α:Type} {ks:List α} {x:α} {j:Nat} (h:zbc ks x=some j):mget ks (iota ks.length) x 0=j:=by
 have:=zgA h;unfold mget;rw [h];simp [iota,this]
theorem zpc {α:Type} {ks:List α} {x:α} (h:x∉ks):zkn ks (iota ks.length) x ks.length=iota (ks++[x]).length:=by
 unfold zkn;rw [zeE.2 h,List.length_append,List.length_singleton,zqf]
def xRow {α:Type} (nx:α->Int->α) (s:α) (l:List α):Nat->List α×List Int
 | 0=>(l,[])
 | t+1=>match zbc (xRow nx s l t).1 (nx s (t:Int)) with
  | some j=>((xRow nx s l t).1,(xRow nx s l t).2++[(j:Int)])
  | none=>((xRow nx s l t).1++[nx s (t:Int)],(xRow nx s l t).2++[((xRow nx s l t).1.length:Int)])
def xSt {α:Type} [Inhabited α] (nx:α->Int->α) (mk:α->Int) (L:Nat) (first:α):Nat->List α×List (List Int)×List Int
 | 0=>([first],[],[])
 | i+1=>((xRow nx (ix (xSt nx mk L first i).1 (i:Int)) (xSt nx mk L first i).1 L).1,(xSt nx mk L first i).2.1++[(xRow nx (ix (xSt nx mk L first i).1 (i:Int)) (xSt nx mk L first i).1 L).2],(xSt nx mk L first i).2.2++[mk (ix (xSt nx mk L first i).1 (i:Int))])
theorem zqW {α:Type} {nx:α->Int->α} {s:α} {l:List α} {t j:Nat} (h:zbc (xRow nx s l t).1 (nx s (t:Int))=some j):xRow nx s l (t+1)=((xRow nx s l t).1,(xRow nx s l t).2++[(j:Int)]):=by
 rw [xRow,h]
theorem zqV {α:Type} {nx:α->Int->α} {s:α} {l:List α} {t:Nat} (h:zbc (xRow nx s l t).1 (nx s (t:Int))=none):xRow nx s l (t+1)=((xRow nx s l t).1++[nx s (t:Int)],(xRow nx s l t).2++[((xRow nx s l t).1.length:Int)]):=by
 rw [xRow,h]
section
variable {α:Type} [Inhabited α] {nx:α->Int->α} {mk:α->Int} {L:Nat} {first:α} {B:Nat} {P:α->Prop}
structure XOk {α:Type} (nx:α->Int->α) (mk:α->Int) (L:Nat) (first:α) (B:Nat) (P:α->Prop):Prop where
 b:∀ l:List α,l.Nodup->(∀ x∈l,P x)->l.length<=B
 f:P first
 n:∀ s,P s->∀ t:Int,0<=t->t < L->P (nx s t)
 m:∀ s,P s->0<=mk s/\mk s<=9
theorem XOk.int {nx:Int->Int->Int} {mk:Int->Int} {L:Nat} {first:Int} {B:Nat} {P:Int->Prop} (b:∀ s,P s->0<=s/\s < B) (f:P first) (n:∀ s,P s->∀ t:Int,0<=t->t < L->P (nx s t)) (m:∀ s,P s->0<=mk s/\mk s<=9):XOk nx mk L first B P:=
 ⟨fun l hn hp=>zph hn (fun x hx=>b x (hp x hx)),f,n,m⟩
structure LiOk {α:Type} (B:Nat) (P:α->Prop) (l:List α):Prop where
 nd:l.Nodup
 p:∀ x∈l,P x
theorem LiOk.len (h:XOk nx mk L first B P) {l:List α} (k:LiOk B P l):l.length<=B:=h.b l k.nd k.p
structure XR {α:Type} [Inhabited α] (nx:α->Int->α) (s:α) (l:List α) (t:Nat) (r:List α×List Int):Prop where
 pre:∃ x,r.1=l++x
 len:r.2.length=t
 to:∀ a:Int,0<=a->a < t->0<=ix r.2 a/\ix r.2 a < r.1.length/\ix r.1 (ix r.2 a)=nx s a
theorem zrm {l:List α} {x:α} {j:Nat} (h:zbc l x=some j):(j:Int) < l.length/\ix l (j:Int)=x:=by
 have h1:=zgA h;have h2:=zhG h;refine ⟨by omega,?_⟩
 rw [List.getElem?_eq_getElem h1] at h2;rw [zio (l:=l) (by omega) (by omega)]
 simpa using h2
theorem zmo (h:XOk nx mk L first B P) {s:α} (hs:P s) {l:List α} (hl:LiOk B P l):∀ t:Nat,t<=L->LiOk B P (xRow nx s l t).1/\XR nx s l t (xRow nx s l t)
 | 0,_=>⟨hl,⟨[],by simp [xRow]⟩,rfl,fun a a0 a1=>by omega⟩
 | t+1,ht=>by
  obtain ⟨h1,⟨⟨x,hx⟩,h2,h3⟩⟩:=zmo h hs hl t (by omega)
  have hp:=h.n s hs (t:Int) (by omega) (by omega)
  unfold xRow
  cases e:zbc (xRow nx s l t).1 (nx s (t:Int)) with
  | some j=>
   obtain ⟨j1,j2⟩:=zrm e;refine ⟨h1,⟨⟨x,hx⟩,by simp [h2],fun a a0 a1 => ?_⟩⟩
   show 0<=ix ((xRow nx s l t).2++[(j:Int)]) a/\_;by_cases c:a < t
   ·rw [zaX a0 (by omega)];exact h3 a a0 c
   ·obtain rfl:a=((xRow nx s l t).2.length:Int):=by omega
    rw [zba];refine ⟨by omega,j1,?_⟩
    show ix (xRow nx s l t).1 (j:Int)=_;rw [j2,h2]
  | none=>
   have hn:=zeE.1 e;refine ⟨⟨?_,fun y hy=>(List.mem_append.1 hy).elim (h1.p y) (fun e2=>by rw [List.mem_singleton.1 e2];exact hp)⟩,⟨⟨x++[nx s (t:Int)],by show (xRow nx s l t).1++_=_;rw [hx,List.append_assoc]⟩,by simp [h2],fun a a0 a1 => ?_⟩⟩
   ·show ((xRow nx s l t).1++[nx s (t:Int)]).Nodup;rw [List.nodup_append];exact ⟨h1.nd,by simp,fun u hu v hv=>by rw [List.mem_singleton.1 hv];rintro rfl;exact hn hu⟩
   ·show 0<=ix ((xRow nx s l t).2++[((xRow nx s l t).1.length:Int)]) a/\ix ((xRow nx s l t).2++[((xRow nx s l t).1.length:Int)]) a < (((xRow nx s l t).1++[nx s (t:Int)]).length:Int)/\ix ((xRow nx s l t).1++[nx s (t:Int)]) (ix ((xRow nx s l t).2++[((xRow nx s l t).1.length:Int)]) a)=nx s a;rw [List.length_append,List.length_singleton];by_cases c:a < t
    ·obtain ⟨g1,g2,g3⟩:=h3 a a0 c;rw [zaX a0 (by omega),zaX g1 g2]
     exact ⟨g1,by omega,g3⟩
    ·obtain rfl:a=((xRow nx s l t).2.length:Int):=by omega
     rw [zba,zba,h2];exact ⟨by omega,by omega,rfl⟩
structure XS {α:Type} [Inhabited α] (nx:α->Int->α) (mk:α->Int) (L:Nat) (first:α) (i:Nat) (x:List α×List (List Int)×List Int):Prop where
 z:ix x.1 0=first
 r:x.2.1.length=i
 m:x.2.2.length=i
 row:∀ k:Int,0<=k->k < i->(ix x.2.1 k).length=L/\∀ a:Int,0<=a->a < L->0<=ix (ix x.2.1 k) a/\ix (ix x.2.1 k) a < x.1.length/\ix x.1 (ix (ix x.2.1 k) a)=nx (ix x.1 k) a
 mark:∀ k:Int,0<=k->k < i->ix x.2.2 k=mk (ix x.1 k)
def XGo {α:Type} [Inhabited α] (nx:α->Int->α) (mk:α->Int) (L:Nat) (first:α) (i:Nat):Prop:=∀ k < i,k < (xSt nx mk L first k).1.length
theorem zja (h:XOk nx mk L first B P):∀ i:Nat,XGo nx mk L first i->LiOk B P (xSt nx mk L first i).1/\i<=(xSt nx mk L first i).1.length/\XS nx mk L first i (xSt nx mk L first i)
 | 0,_=>⟨⟨by simp [xSt],fun x hx=>by
   have:x=first:=by simpa [xSt] using hx
   rw [this];exact h.f⟩,by omega,rfl,rfl,rfl,fun k k0 k1=>by omega,fun k k0 k1=>by omega⟩
 | i+1,hg=>by
  obtain ⟨h1,h2,h3⟩:=zja h i (fun k hk=>hg k (by omega))
  have hi:=hg i (by omega)
  have hP:=h1.p _ (zcw (by omega) (by omega:(i:Int) < (xSt nx mk L first i).1.length))
  obtain ⟨g1,⟨⟨x,hx⟩,g2,g3⟩⟩:=zmo h hP h1 L (Nat.le_refl _);unfold xSt;generalize hX:xSt nx mk L first i=X at *
  generalize hR:xRow nx (ix X.1 (i:Int)) X.1 L=R at *
  have pre:∀ k:Int,0<=k->k < X.1.length->ix R.1 k=ix X.1 k:=fun k k0 k1=>by rw [hx,zaX k0 k1]
  have lenR:X.1.length<=R.1.length:=by rw [hx,List.length_append];omega
  refine ⟨g1,by show i+1<=R.1.length;omega,?_,by simp [h3.r],by simp [h3.m],fun k k0 k1 => ?_,fun k k0 k1 => ?_⟩
  ·show ix R.1 0=first;rw [pre 0 (by omega) (by omega)];exact h3.z
  ·show (ix (X.2.1++[R.2]) k).length=L/\∀ a:Int,0<=a->a < L->0<=ix (ix (X.2.1++[R.2]) k) a/\ix (ix (X.2.1++[R.2]) k) a < R.1.length/\ix R.1 (ix (ix (X.2.1++[R.2]) k) a)=nx (ix R.1 k) a;have hr:=h3.r;by_cases c:k < i
   ·obtain ⟨r1,r2⟩:=h3.row k k0 c;rw [zaX k0 (by omega),pre k k0 (by omega)]
    refine ⟨r1,fun a a0 a1 => ?_⟩
    obtain ⟨s1,s2,s3⟩:=r2 a a0 a1;rw [pre _ s1 s2];exact ⟨s1,by omega,s3⟩
   ·have hk:k=(X.2.1.length:Int):=by omega
    rw [hk,zba,hr,pre (i:Int) (by omega) (by omega)]
    exact ⟨g2,fun a a0 a1=>g3 a a0 a1⟩
  ·show ix (X.2.2++[mk (ix X.1 (i:Int))]) k=mk (ix R.1 k);have hm:=h3.m;rw [pre k k0 (by omega)]
   by_cases c:k < i
   ·rw [zaX k0 (by omega)];exact h3.mark k k0 c
   ·have hk:k=(X.2.2.length:Int):=by omega
    rw [hk,zba,hm]
theorem zqX (h:XOk nx mk L first B P):∃ n,n<=B/\XGo nx mk L first n/\(xSt nx mk L first n).1.length=n:=by
 have key:∀ f i:Nat,B - i=f->XGo nx mk L first i->∃ n,n<=B/\XGo nx mk L first n/\(xSt nx mk L first n).1.length=n:=by
  intro f
  induction f with
  | zero=>
   intro i hf hg;obtain ⟨h1,h2,_⟩:=zja h i hg;have:=h1.len h;exact ⟨i,by omega,hg,by omega⟩
  | succ f ih=>
   intro i hf hg;obtain ⟨h1,h2,_⟩:=zja h i hg;have:=h1.len h;by_cases c:(xSt nx mk L first i).1.length=i
   ·exact ⟨i,by omega,hg,c⟩
   ·refine ih (i+1) (by omega) (fun k hk => ?_)
    by_cases e:k=i
    ·subst e;omega
    ·exact hg k (by omega)
 exact key _ 0 rfl (fun k hk=>by omega)
def xAut {α:Type} [Inhabited α] (nx:α->Int->α) (mk:α->Int) (L:Nat) (first:α) (n:Nat):Dt:=((L:Int),0,(xSt nx mk L first n).2.1,(xSt nx mk L first n).2.2,())
theorem zs3 (h:XOk nx mk L first B P) (hL:1<=L/\L<=4) (hB:B<=3000) {n:Nat} (hg:XGo nx mk L first n) (hn:(xSt nx mk L first n).1.length=n):DOk 3000 badM (xAut nx mk L first n):=by
 obtain ⟨h1,h2,h3⟩:=zja h n hg;have hb:=h1.len h;have hr:=h3.r;have hm:=h3.m;have hpos:0 < n:=by
  refine Nat.pos_of_ne_zero fun e => ?_
  subst e;simp [xSt] at hn
 refine ⟨by show 1<=(L:Int)/\(L:Int)<=4;omega,?_,?_,?_,fun s hs => ?_,⟨fun r hr2 => ?_,fun r hr2 q hq => ?_⟩⟩
 ·show 1<=(xSt nx mk L first n).2.1.length/\((xSt nx mk L first n).2.1.length:Int)<=3000;omega
 ·show (0:Int)<=0/\(0:Int) < ((xSt nx mk L first n).2.1.length:Int);omega
 ·show ((xSt nx mk L first n).2.2.length:Int)=((xSt nx mk L first n).2.1.length:Int);omega
 ·obtain ⟨k,k0,k1,rfl⟩:=(zc9 (P:=fun x=>x=s)).1 ⟨s,hs,rfl⟩
  have hk:k < n:=by
   have:k < ((xSt nx mk L first n).2.2.length:Int):=k1;omega
  have e:ix (xAut nx mk L first n).2.2.2.1 k=mk (ix (xSt nx mk L first n).1 k):=h3.mark k k0 hk;rw [e];have:=h.m _ (h1.p _ (zcw k0 (by omega)))
  omega
 ·obtain ⟨k,k0,k1,rfl⟩:=(zc9 (P:=fun x=>x=r)).1 ⟨r,hr2,rfl⟩
  have hk:k < n:=by
   have:k < ((xSt nx mk L first n).2.1.length:Int):=k1;omega
  have:=(h3.row k k0 hk).1;show ((ix (xSt nx mk L first n).2.1 k).length:Int)=(L:Int);omega
 ·obtain ⟨k,k0,k1,rfl⟩:=(zc9 (P:=fun x=>x=r)).1 ⟨r,hr2,rfl⟩
  have hk:k < n:=by
   have:k < ((xSt nx mk L first n).2.1.length:Int):=k1;omega
  obtain ⟨r1,r2⟩:=h3.row k k0 hk;obtain ⟨a,a0,a1,rfl⟩:=(zc9 (P:=fun x=>x=q)).1 ⟨q,hq,rfl⟩
  have ha:a < (L:Int):=by
   have:a < ((ix (xSt nx mk L first n).2.1 k).length:Int):=a1;omega
  obtain ⟨s1,s2,s3⟩:=r2 a a0 ha;show 0<=ix (ix (xSt nx mk L first n).2.1 k) a/\ix (ix (xSt nx mk L first n).2.1 k) a < ((xSt nx mk L first n).2.1.length:Int);omega
theorem znk (h:XOk nx mk L first B P) {n:Nat} (hg:XGo nx mk L first n) (hn:(xSt nx mk L first n).1.length=n):∀ (w:List Int) (q:Int),0<=q->q < n->(∀ a∈w,0<=a/\a < (L:Int))->
  0<=wlk (xAut nx mk L first n).2.2.1 q w/\wlk (xAut nx mk L first n).2.2.1 q w < n/\ix (xSt nx mk L first n).1 (wlk (xAut nx mk L first n).2.2.1 q w)=w.foldl nx (ix (xSt nx mk L first n).1 q)
 | [],q,q0,q1,_=>⟨q0,q1,rfl⟩
 | a::w,q,q0,q1,hw=>by
  obtain ⟨_,_,h3⟩:=zja h n hg;have ha:=hw a (by simp)
  obtain ⟨s1,s2,s3⟩:=(h3.row q q0 q1).2 a ha.1 ha.2;have:=znk h hg hn w (ix (ix (xSt nx mk L first n).2.1 q) a) s1 (by omega) (fun b hb=>hw b (by simp [hb]))
  rw [s3] at this;exact this
end
theorem zqs {α:Type} {dec:Int->α} {P:Int->Prop} (hinj:∀ x y,P x->P y->dec x=dec y->x=y) {ks:List Int} (hk:∀ x∈ks,P x) {x:Int} (hx:P x):zbc (ks.map dec) (dec x)=zbc ks x:=zmW dec (fun y hy he=>hinj _ _ (hk y hy) hx he)
theorem zjY {dec:Int->Rcd} {s:Int} {l:List Int} {nx:Int->Int->Int} {mk:Int->Int} {first:Int} {B:Nat} {P:Int->Prop} {g:Int} {mu:Mul} {nu:Int} (hinj:∀ x y,P x->P y->dec x=dec y->x=y) (hx:XOk nx mk g.toNat first B P) (hB:B < 1000) (h1:1<=g/\g<=4) (hnx:∀ s,P s->∀ t,0<=t->t < g->zbl (dec s) t mu nu=some (dec (nx s t))) (hmk:∀ s,P s->zbm (dec s) nu mu=some (mk s)) {L0:List Rcd} {D2:List (List Int)} {D3:List Int} {r4} (hs:P s) (hl:LiOk B P l) (eL:ix L0 (D2.length:Int)=dec s) (h2:D2.length<=3000) (h3:D3.length<=3000):
  zaA g mu nu nu mu 1000 g 0 L0 D2 D3 r4 0 (l.map dec) (iota l.length) (l.map dec) (List.replicate g.toNat 0)=
   r4 g 0 ((xRow nx s l g.toNat).1.map dec) (iota (xRow nx s l g.toNat).1.length) ((xRow nx s l g.toNat).1.map dec) (D2++[(xRow nx s l g.toNat).2]) (D3++[mk s]):=by
 have key:∀ (n t:Nat) (row:List Int),g.toNat - t=n->t<=g.toNat->row.length=g.toNat->(∀ j:Int,0<=j->j < t->ix row j=ix (xRow nx s l t).2 j)->
   zaA g mu nu nu mu 1000 g 0 L0 D2 D3 r4 t ((xRow nx s l t).1.map dec) (iota (xRow nx s l t).1.length) ((xRow nx s l t).1.map dec) row=
   r4 g 0 ((xRow nx s l g.toNat).1.map dec) (iota (xRow nx s l g.toNat).1.length) ((xRow nx s l g.toNat).1.map dec) (D2++[(xRow nx s l g.toNat).2]) (D3++[mk s]):=by
  intro n
  induction n with
  | zero=>
   intro t row hn ht hr hj;obtain rfl:t=g.toNat:=by omega
   obtain ⟨g1,⟨_,g2,_⟩⟩:=zmo hx hs hl g.toNat (Nat.le_refl _);have:row=(xRow nx s l g.toNat).2:=zth (by omega) fun j j0 j1=>hj j j0 (by omega)
   rw [zex];unfold zaR;rw [if_neg (by simp;omega),this]
   refine G_to (by unfold room;simp;omega) ?_
   rw [eL];refine za7 (hmk s hs) ?_
   exact G_to (by unfold room;simp;omega) rfl
  | succ n ih=>
   intro t row hn ht hr hj;obtain ⟨g1,⟨_,g2,_⟩⟩:=zmo hx hs hl t (by omega)
   have hlen:=g1.len hx;have hPn:=hx.n s hs t (by omega) (by omega)
   have ih':=fun row=>ih (t+1) row (by omega) (by omega)
   rw [zex];unfold zaR zbg;rw [if_pos (by simp;omega),eL]
   refine za7 (hnx s hs t (by omega) (by omega)) ?_
   show (if (!(mhas ((xRow nx s l t).1.map dec) (dec (nx s t))))=true then
    if decide ((((xRow nx s l t).1.map dec).length:Int)=1000)=true then _ else
     G (room ((xRow nx s l t).1.map dec) [dec (nx s t)] _) (G _ (G _ (G _ (zaA g mu nu nu mu 1000 g 0 L0 D2 D3 r4 (t+1) (zfS ((xRow nx s l t).1.map dec) (dec (nx s t))) (zkn ((xRow nx s l t).1.map dec) (iota (xRow nx s l t).1.length) (dec (nx s t)) (((xRow nx s l t).1.map dec).length:Int)) ((xRow nx s l t).1.map dec++[dec (nx s t)]) (row.set ((t:Int)).toNat (((xRow nx s l t).1.map dec).length:Int)))))) else
    G _ (G _ (G _ (zaA g mu nu nu mu 1000 g 0 L0 D2 D3 r4 (t+1) _ _ _ (row.set ((t:Int)).toNat (mget ((xRow nx s l t).1.map dec) (iota (xRow nx s l t).1.length) (dec (nx s t)) 0))))))=_
   have hmf:=zqs hinj g1.p hPn;have hil:iota (xRow nx s l t).1.length=iota ((xRow nx s l t).1.map dec).length:=by rw [List.length_map]
   cases e:zbc (xRow nx s l t).1 (nx s t) with
   | some j=>
    rw [e] at hmf;rw [zqW e] at ih';have hm:mhas ((xRow nx s l t).1.map dec) (dec (nx s t))=true:=by unfold mhas;rw [hmf];rfl
    rw [if_neg (by rw [hm];simp),hil,zqt hmf,<- hil]
    refine G_to (by omega) (G_to (by omega) (G_to (by unfold fits;omega) ?_))
    refine ih' (row.set ((t:Int)).toNat (j:Int)) (by rw [List.length_set];exact hr) (fun k k0 k1 => ?_)
    by_cases c:k < t
    ·rw [zmR (by omega) k0 (by omega),zaX k0 (by omega)];exact hj k k0 c
    ·obtain rfl:k=(t:Int):=by omega
     rw [zkg k0 (by omega)]
     have:(t:Int)=((xRow nx s l t).2.length:Int):=by omega
     rw [this,zba]
   | none=>
    rw [e] at hmf;rw [zqV e] at ih';have hnm:=zeE.1 hmf;have hm:mhas ((xRow nx s l t).1.map dec) (dec (nx s t))=false:=by unfold mhas;rw [hmf];rfl
    rw [if_pos (by rw [hm];rfl),if_neg (by rw [List.length_map];simp;omega),hil,zqu hnm,zpc hnm]
    refine G_to (by unfold room;simp;omega) (G_to (by omega) (G_to (by omega) (G_to (by unfold fits;omega) ?_)))
    have ih2:=ih' (row.set ((t:Int)).toNat ((xRow nx s l t).1.length:Int)) (by rw [List.length_set];exact hr) (fun k k0 k1=>by
     by_cases c:k < t
     ·rw [zmR (by omega) k0 (by omega),zaX k0 (by omega)];exact hj k k0 c
     ·obtain rfl:k=(t:Int):=by omega
      rw [zkg k0 (by omega)]
      have:(t:Int)=((xRow nx s l t).2.length:Int):=by omega
      rw [this,zba])
    rw [List.map_append,List.map_singleton] at ih2;rw [List.length_append,List.length_map,List.length_singleton];rw [List.length_append,List.length_singleton] at ih2;exact ih2
 exact key _ 0 _ rfl (by omega) (by rw [List.length_replicate]) (fun j j0 j1=>by omega)
theorem zjc {dec:Int->Rcd} {nx:Int->Int->Int} {mk:Int->Int} {first:Int} {B:Nat} {P:Int->Prop} {g:Int} {mu:Mul} {nu:Int} (hinj:∀ x y,P x->P y->dec x=dec y->x=y) (hx:XOk nx mk g.toNat first B P) (hB:B < 1000) (h1:1<=g/\g<=4) (hB3:B<=3000) (hnx:∀ s,P s->∀ t,0<=t->t < g->zbl (dec s) t mu nu=some (dec (nx s t))) (hmk:∀ s,P s->zbm (dec s) nu mu=some (mk s)) {n:Nat} (hg:XGo nx mk g.toNat first n) (hn:(xSt nx mk g.toNat first n).1.length=n):zg5 g (dec first) mu nu nu mu 1000=some (xAut nx mk g.toNat first n,true):=by
 have key:∀ (f i:Nat),n - i=f->i<=n->zcP g mu nu nu mu 1000 g 0 ((xSt nx mk g.toNat first i).1.map dec) (iota (xSt nx mk g.toNat first i).1.length) ((xSt nx mk g.toNat first i).1.map dec) (xSt nx mk g.toNat first i).2.1 (xSt nx mk g.toNat first i).2.2=some (xAut nx mk g.toNat first n,true):=by
  intro f
  induction f with
  | zero=>
   intro i hf hi;obtain rfl:i=n:=by omega
   obtain ⟨g1,g2,g3⟩:=zja hx i hg;have hr:=g3.r;rw [zew];unfold zaQ;rw [if_neg (by rw [decide_eq_true_iff,List.length_map];omega)]
   unfold xAut;rw [Int.toNat_of_nonneg (by omega)]
  | succ f ih=>
   intro i hf hi;obtain ⟨g1,g2,g3⟩:=zja hx i (fun k hk=>hg k (by omega))
   have hlt:=hg i (by omega)
   have hr:=g3.r;have hm:=g3.m;have hlen:=g1.len hx;have hP:=g1.p _ (zcw (i:=(i:Int)) (by omega) (by omega))
   rw [zew];unfold zaQ;rw [if_pos (by rw [decide_eq_true_iff,List.length_map];omega)]
   refine G_to (by rw [List.length_map];omega) (G_to (by rw [List.length_map];omega) (G_to (by unfold mkOK;omega) ?_))
   rw [zjY hinj hx hB h1 hnx hmk hP g1 (by rw [hr,zti _ (by omega) (by omega)]) (by omega) (by omega)]
   exact ih (i+1) (by omega) (by omega)
 exact key _ 0 rfl (by omega)
section
variable {m:Mul} {h w:List Int}
theorem zqr {p s:List Int} {x a:Int} (h:a∈p++[x]):a∈p++x::s:=by
 rcases List.mem_append.1 h with h | h
 ·simp [h]
 ·simp at h;simp [h]
theorem zsu (hm:MOk m):XOk (nxR m) (mkR m) m.1.toNat (fstR m) 96 (PR m.2.2.1.length):=
 XOk.int (fun s p=>⟨p.1,p.2.1⟩) (znL hm).1 (fun s p t t0 t1=>by
  have:=hm.let1;obtain ⟨_,_,_,_,_,_,_,_,p'⟩:=p.step hm t0 (by omega)
  exact p') (fun s p=>mkR_b hm p)
theorem m_Det (hm:MOk m) (he:mulE m=0) (hs:m.2.2.2.1.length<=1000000000000000):∃ n,XGo (nxR m) (mkR m) m.1.toNat (fstR m) n/\(xSt (nxR m) (mkR m) m.1.toNat (fstR m) n).1.length=n/\zdv m=some (xAut (nxR m) (mkR m) m.1.toNat (fstR m) n,0):=by
 have hx:=zsu hm;have hl:=hm.let1;have hn4:=hm.n1;have hst:=hm.st;obtain ⟨n,n1,n2,n3⟩:=zqX hx;refine ⟨n,n2,n3,?_⟩
 have hp:=zjc (dec:=dec) (mu:=m) (nu:=(m.2.2.1.length:Int)) (g:=m.1) (fun x y px py e=>zr6 ⟨px.1,px.2.1⟩ ⟨py.1,py.2.1⟩ e) hx (by omega) hl (by omega) (fun s p t t0 t1=>zps hm p t0 t1) (fun s p=>zpt hm hs p) n2 n3
 have hd:dec (fstR m)=((ix (row0 m.2.1) 0,ix (row0 m.2.1) 1,ix (row0 m.2.1) 2,ix (row0 m.2.1) 3,()),0,()):=by
  obtain ⟨_,e1,e2⟩:=znL hm;unfold dec decR;rw [e1,e2];rfl
 have hJ:zdp m (([m.2.1,(1:Int),(2:Int),(3:Int)].set (m.2.1).toNat (0:Int)).getD 0 0) (([m.2.1,(1:Int),(2:Int),(3:Int)].set (m.2.1).toNat (0:Int)).getD 1 0) (([m.2.1,(1:Int),(2:Int),(3:Int)].set (m.2.1).toNat (0:Int)).getD 2 0) (([m.2.1,(1:Int),(2:Int),(3:Int)].set (m.2.1).toNat (0:Int)).getD 3 0) (0:Int)=some (xAut (nxR m) (mkR m) m.1.toNat (fstR m) n,0):=by
  unfold zdp;rw [hd] at hp;exact za7 hp rfl
 unfold zdv;refine za7 (zeJ hs) ?_
 rw [show mulE (m.1,m.2.1,m.2.2.1,m.2.2.2.1,())=0 from he,if_neg (by simp)]
 exact zaf (G_to (by omega) (G_to (by omega) hJ)) (G_to (by omega) (G_to (by omega) hJ))
def Sv (m:Mul) (v:List Int):Int:=v.foldl (nxR m) (fstR m)
theorem zrV (hm:MOk m):∀ (n:Nat) (v:List Int),v.length=n->(∀ a∈v,0<=a/\a < m.1)->PR m.2.2.1.length (Sv m v)/\ix (zaq (Sv m v)) 0=wlk m.2.2.1 m.2.1 v:=by
 intro n
 induction n with
 | zero=>
  intro v hv _;obtain rfl:=List.length_eq_zero_iff.1 hv;obtain ⟨e0,e1,e2⟩:=znL hm;refine ⟨e0,?_⟩
  show ix (zaq (fstR m)) 0=m.2.1;have hn4:=hm.n1;rw [e1];exact (zqN m.2.2.1.length (by omega) hm.st.1 hm.st.2).2.2
 | succ n ih=>
  intro v hv ha;obtain ⟨p',x,rfl⟩:∃ p' x,v=p'++[x]:=⟨v.dropLast,v.getLast (by intro h;simp [h] at hv),(List.dropLast_concat_getLast (by intro h;simp [h] at hv)).symm⟩
  rw [List.length_append,List.length_singleton] at hv;obtain ⟨i1,i2⟩:=ih p' (by omega) (fun a h=>ha a (by simp [h]))
  have hx:=ha x (by simp)
  obtain ⟨q,hq,_,_,_,e1,_,_,p2⟩:=i1.step hm hx.1 hx.2;have es:Sv m (p'++[x])=nxR m (Sv m p') x:=by unfold Sv;rw [List.foldl_append];rfl
  refine ⟨by rw [es];exact p2,?_⟩
  rw [es,e1,zcL,<- i2];show q=_;rw [hq];rfl
theorem zoJ {L:Int} (hh:∀ a∈h,0<=a/\a < L) (hw:∀ a∈w,0<=a/\a < L):∀ k,∀ a∈rds h w k,0<=a/\a < L
 | 0=>hh
 | k+1=>fun a ha=>(List.mem_append.1 ha).elim (zoJ hh hw k a) (hw a)
theorem m_lar (hm:MOk m) (hh:∀ a∈h,0<=a/\a < m.1) (hw:∀ a∈w,0<=a/\a < m.1):Lar m.2.2.1 m.2.1 h w (fun v=>zaq (Sv m v)) (fun v=>stOf (Sv m v)):=by
 have ok:∀ k p s,w=p++s->∀ a∈rds h w k++p,0<=a/\a < m.1:=fun k p s e a ha=>(List.mem_append.1 ha).elim (zoJ hh hw k a) (fun h=>hw a (by rw [e];simp [h]))
 have st:∀ k p x s,w=p++x::s->∃ q,q=wlk m.2.2.1 m.2.1 (rds h w k++(p++[x]))/\q∈zaq (Sv m (rds h w k++p))/\zaq (Sv m (rds h w k++(p++[x])))=q::(zaq (Sv m (rds h w k++p))).erase q/\stOf (Sv m (rds h w k++(p++[x])))=(zaq (Sv m (rds h w k++p))).idxOf q:=fun k p x s e=>by
  obtain ⟨i1,i2⟩:=zrV hm _ (rds h w k++p) rfl (ok k p _ e);have hx:=hw x (by rw [e];simp)
  obtain ⟨q,hq,_,_,e0,e1,e2,_,_⟩:=i1.step hm hx.1 hx.2;have es:Sv m (rds h w k++(p++[x]))=nxR m (Sv m (rds h w k++p)) x:=by rw [<- List.append_assoc];unfold Sv;rw [List.foldl_append];rfl
  refine ⟨q,?_,e0,by rw [es];exact e1,by rw [es];exact e2⟩
  rw [<- List.append_assoc,zcL,<- i2,hq];rfl
 refine ⟨fun k p s e => ?_,fun k p x s e => ?_,fun k p x s e => ?_,fun k p x s e => ?_⟩
 ·obtain ⟨⟨p0,p1,_⟩,_⟩:=zrV hm _ (rds h w k++p) rfl (ok k p _ e);exact (zea _ (zdK p0 p1)).1
 ·obtain ⟨q,rfl,e0,_,_⟩:=st k p x s e;exact e0
 ·obtain ⟨q,rfl,_,e1,_⟩:=st k p x s e;exact e1
 ·obtain ⟨q,rfl,_,_,e2⟩:=st k p x s e;exact e2
open Classical in
theorem zst (hm:MOk m) (hh:∀ a∈h,0<=a/\a < m.1) (hw:∀ a∈w,0<=a/\a < m.1) (hw0:w≠[]) {n:Nat} (n2:XGo (nxR m) (mkR m) m.1.toNat (fstR m) n) (n3:(xSt (nxR m) (mkR m) m.1.toNat (fstR m) n).1.length=n) (dok:SOk (xAut (nxR m) (mkR m) m.1.toNat (fstR m) n)):
  Int.tmod (safV (xAut (nxR m) (mkR m) m.1.toNat (fstR m) n) (h,w,())) 2=0↔zis m (h,w,())∈m.2.2.2.1:=by
 have hl:=hm.let1;have hx:=zsu hm;obtain ⟨g1,g2,g3⟩:=zja hx n n2;have oM:LasOk m.1 m.2.2.1 m.2.1 h w:=⟨hm.tab,hm.st,hh,hw⟩;have hL:((m.1.toNat:Nat):Int)=m.1:=by omega
 have hh':∀ a∈h,0<=a/\a < (m.1.toNat:Int):=fun a ha=>by rw [hL];exact hh a ha
 have hw':∀ a∈w,0<=a/\a < (m.1.toNat:Int):=fun a ha=>by rw [hL];exact hw a ha
 have walk:=znk hx n2 n3;have hn0:0 < n:=by
  have:=dok.n1.1;have e:(xAut (nxR m) (mkR m) m.1.toNat (fstR m) n).2.2.1.length=n:=g3.r;omega
 have mark:∀ v:List Int,(∀ a∈v,0<=a/\a < m.1)->ix (xAut (nxR m) (mkR m) m.1.toNat (fstR m) n).2.2.2.1 (wlk (xAut (nxR m) (mkR m) m.1.toNat (fstR m) n).2.2.1 0 v)=mkR m (Sv m v):=fun v hv=>by
  obtain ⟨a1,a2,a3⟩:=walk v 0 (by omega) (by omega) (fun a ha=>by rw [hL];exact hv a ha)
  have:=g3.mark _ a1 a2;rw [a3,g3.z] at this;exact this
 have oD:LasOk (m.1.toNat:Int) (xAut (nxR m) (mkR m) m.1.toNat (fstR m) n).2.2.1 0 h w:=⟨dok.tab,dok.st,hh',hw'⟩;have lar:=m_lar hm hh hw;obtain ⟨c,f⟩:=lar.front oM;have hqM:=hm.tab.wlkb hm.st.1 hm.st.2 hh;have hqM2:=(zeP hm hw hqM.1 hqM.2 m.2.2.1.length).1;have maskM:Mask (zis m (h,w,())) (fun b=>zfy m.2.2.1 m.2.1 h w b):=(zeP hm hw hqM2.1 hqM2.2 m.2.2.1.length).2
 have hqD:=dok.tab.wlkb dok.st.1 dok.st.2 hh';have hqD2:=(zkG dok hw' hqD.1 hqD.2 (xAut (nxR m) (mkR m) m.1.toNat (fstR m) n).2.2.1.length).1;have lst:Lst (xAut (nxR m) (mkR m) m.1.toNat (fstR m) n).2.2.2.1 (safV (xAut (nxR m) (mkR m) m.1.toNat (fstR m) n) (h,w,())) (fun b=>zfy (xAut (nxR m) (mkR m) m.1.toNat (fstR m) n).2.2.1 0 h w b):=(zkG dok hw' hqD2.1 hqD2.2 (xAut (nxR m) (mkR m) m.1.toNat (fstR m) n).2.2.1.length).2
 obtain ⟨E,hE⟩:∃ E,E=if zis m (h,w,())∈m.2.2.2.1 then 2 * ((m.2.2.1.length:Int) - c+1) else 2 * ((m.2.2.1.length:Int) - c+1) - 1:=⟨_,rfl⟩
 have val:∀ k,m.2.2.1.length+m.2.2.1.length<=k->∀ p x s,w=p++x::s->E<=mkR m (Sv m (rds h w k++(p++[x])))/\(stOf (Sv m (rds h w k++(p++[x])))+1=c->mkR m (Sv m (rds h w k++(p++[x])))=E/\1<=E/\E<=8):=fun k hk p x s e=>by
  obtain ⟨⟨A,B,hR,hlA,hz⟩,hst⟩:=lar.on oM (k1:=m.2.2.1.length+m.2.2.1.length) (by omega) f hk e
  have okv:∀ a∈rds h w k++(p++[x]),0<=a/\a < m.1:=fun a ha=>(List.mem_append.1 ha).elim (zoJ hh hw k a) (fun h=>hw a (by rw [e];exact zqr h))
  obtain ⟨⟨p0,p1,p2,_⟩,_⟩:=zrV hm _ _ rfl okv;have hn4:=hm.n1;obtain ⟨_,_,h4,_⟩:=zea _ (zdK p0 p1);have hR:zaq (Sv m (rds h w k++(p++[x])))=A++B:=hR;have hst:stOf (Sv m (rds h w k++(p++[x]))) < c:=hst;generalize Sv m (rds h w k++(p++[x]))=s' at hR hst p2 h4;have eq:stOf s'+1=c->mkR m s'=E/\1<=E/\E<=8:=fun hc=>by
   have hA:(zaq s').take (stOf s'+1)=A:=by rw [hR,hc,<- hlA,List.take_left'];rfl
   have hb:addT 0 A=zis m (h,w,()):=by
    refine (zjN (l:=A) Mask.zero (fun b hb => ?_)).ext maskM (fun b => ?_)
    ·have:=h4 b (by rw [hR];simp [hb]);omega
    ·rw [hz b];simp
   unfold mkR;rw [hA,hb,hE];refine ⟨?_,?_,?_⟩
   ·split<;>omega
   ·split<;>omega
   ·split<;>omega
  refine ⟨?_,eq⟩
  by_cases hc:stOf s'+1=c
  ·rw [(eq hc).1];exact Int.le_refl _
  ·have h1:E<=2 * ((m.2.2.1.length:Int) - c+1):=by rw [hE];split<;>omega
   unfold mkR
   split<;>omega
 have fin:safV (xAut (nxR m) (mkR m) m.1.toNat (fstR m) n) (h,w,())=E/\1<=E/\E<=8:=by
  obtain ⟨l1,l2,l3⟩:=lst;obtain ⟨kk,hkk⟩:∃ kk,kk=m.2.2.1.length+m.2.2.1.length+(xAut (nxR m) (mkR m) m.1.toNat (fstR m) n).2.2.1.length:=⟨_,rfl⟩;obtain ⟨k',p,x,s,hk',e,hs⟩:=lar.last oM hw0 (k1:=m.2.2.1.length+m.2.2.1.length) (by omega) f (k:=kk) (by omega)
  obtain ⟨_,v2⟩:=val k' (by omega) p x s e
  obtain ⟨v3,v4,v5⟩:=v2 hs;have okv:∀ (k:Nat) (p:List Int) (x:Int) (s:List Int),w=p++x::s->∀ a∈rds h w k++(p++[x]),0<=a/\a < m.1:=fun k p x s e a ha=>(List.mem_append.1 ha).elim (zoJ hh hw k a) (fun h=>hw a (by rw [e];exact zqr h))
  have a1:=l3 _ (zb2 oD (k:=k') (by omega) e)
  rw [mark _ (okv k' p x s e),v3] at a1;refine ⟨?_,v4,v5⟩
  rcases l1 with l1 | ⟨b,hb,l1⟩
  ·omega
  ·obtain ⟨k2,q1,_,q3⟩:=hb.soon oD (k:=kk) (by omega)
   obtain ⟨p',x',s',e',rfl⟩:=zkK.1 q3;rw [<- zcL,mark _ (okv k2 p' x' s' e')] at l1;have:=(val k2 (by omega) p' x' s' e').1
   omega
 obtain ⟨fe,f1,f2⟩:=fin;rw [fe,Int.tmod_eq_emod_of_nonneg (by omega)]
 by_cases hg:zis m (h,w,())∈m.2.2.2.1
 ·rw [if_pos hg] at hE;exact ⟨fun _=>hg,fun _=>by omega⟩
 ·rw [if_neg hg] at hE;exact ⟨fun hz=>by omega,fun hh=>absurd hh hg⟩
end
theorem law_true (m:Mul) (l:List Int×List Int×Unit) (sm:Sml (.pair (.int .i64) (.pair (.int .i64) (.pair (.list (.list (.int .i64))) (.pair (.list (.int .i64)) .unit)))) m) (sl:Sml (.pair (.list (.int .i64)) (.pair (.list (.int .i64)) .unit)) l):ze6 m l=some true:=by
 have hs:m.2.2.2.1.length<=1000000000000000:=by
  have h:m.2.2.2.1.length * 8<=140737488351232:=sm.2.2.2.1.1;omega
 unfold ze6;by_cases hm:mulE m=0
 ·have mok:=zmX hm;obtain ⟨n,n2,n3,hD⟩:=m_Det mok hm hs;have hl:=mok.let1;have d3:=zs3 (zsu mok) (by omega) (by omega) n2 n3
  have dok:SOk (xAut (nxR m) (mkR m) m.1.toNat (fstR m) n):=⟨d3.let1,⟨d3.n1.1,by have:=d3.n1.2;omega⟩,d3.st,d3.mkl,d3.mok,d3.tab⟩
  have chk:detE 20000 badM (xAut (nxR m) (mkR m) m.1.toNat (fstR m) n)=0:=zr8 dok;refine za7 hD (za7 (zgR hs) ?_)
  rw [show mulE (m.1,m.2.1,m.2.2.1,m.2.2.2.1,())=0 from hm,if_neg (by simp)]
  refine za7 (zmi (d:=xAut (nxR m) (mkR m) m.1.toNat (fstR m) n)) ?_
  rw [chk,if_neg (by simp),if_neg (by simp),if_neg (by
   have:(xAut (nxR m) (mkR m) m.1.toNat (fstR m) n).1=m.1:=by show (m.1.toNat:Int)=m.1;omega
   simp [this])]
  refine za7 zmg ?_
  by_cases hla:lasE m.1 l=0
  ·rw [if_neg (by simpa using hla)]
   obtain ⟨b,hb,hb2⟩:=zjj hs hm hla;have hL:(xAut (nxR m) (mkR m) m.1.toNat (fstR m) n).1=m.1:=by show (m.1.toNat:Int)=m.1;omega
   have h9:=zkA (m:=xAut (nxR m) (mkR m) m.1.toNat (fstR m) n) (l:=l) chk (by rw [hL];exact hla)
   refine za7 hb (za7 h9 ?_)
   obtain ⟨a1,a2,a3⟩:=zkh hla;have b1:=zeC a1;have b2:=zeC a2;have key:=zst mok b1.2.2 b2.2.2 (by intro h;rw [h] at a3;simp at a3) n2 n3 dok
   have e:b=decide (Int.tmod (safV (xAut (nxR m) (mkR m) m.1.toNat (fstR m) n) l) 2=0):=by
    rw [Bool.eq_iff_iff,hb2,decide_eq_true_iff];exact key.symm
   rw [e];simp
  ·rw [if_pos (by simpa using hla)]
 ·have hD:zdv m=some ((0,0,[],[],()),mulE m):=by
   unfold zdv;refine za7 (zeJ hs) ?_
   rw [if_pos (by simpa using hm)]
  refine za7 hD (za7 (zgR hs) ?_)
  rw [if_pos (by simpa using hm)]
  refine za7 (show zhz (0,0,[],[],())=some true from ?_) ?_
  ·unfold zhz;rw [if_pos (by simp),if_pos (by simp)]
   exact G_to (by decide) (by simp)
  ·rw [if_pos (decide_eq_true rfl)]
end
end Go.Proofs.Ytakgldbjamggiaa.mullerDetW
