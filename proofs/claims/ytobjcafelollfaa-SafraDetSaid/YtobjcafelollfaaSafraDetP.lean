import Derived.Test.YtobjcafelollfaaSafraDetD
set_option maxHeartbeats 1000000
set_option maxRecDepth 20000
set_option linter.unusedSimpArgs false
set_option linter.unusedVariables false
set_option linter.unusedSectionVars false
namespace Go.Proofs.Ytobjcafelollfaa.safraDetW
open Go Go.Ab
noncomputable section
theorem zuC {m k:Nat} (hk:k<=64):ishr .i64 (m:Int) (k:Int)=((m >>> k:Nat):Int):=by
 unfold ishr;have e:min ((k:Int).toNat) IntKind.i64.bits=k:=by
  show min ((k:Int).toNat) 64=k;omega
 rw [e,Nat.shiftRight_eq_div_pow,Int.fdiv_eq_ediv_of_nonneg _ (by exact_mod_cast Nat.zero_le _)]
 push_cast;rfl
theorem zxb:∀ (n:Nat) (g:Nat->Nat),(∀ i,i<=n->g i < n)->∃ i j,i < j/\j<=n/\g i=g j
 | 0,g,h=>absurd (h 0 (Nat.le_refl _)) (by omega)
 | n+1,g,h=>by
  by_cases he:∃ i,i<=n/\g i=g (n+1)
  ·obtain ⟨i,h1,h2⟩:=he;exact ⟨i,n+1,by omega,by omega,h2⟩
  ·have hne:∀ i,i<=n->g i≠g (n+1):=fun i hi e=>he ⟨i,hi,e⟩
   obtain ⟨i,j,h1,h2,h3⟩:=zxb n (fun i=>if g i < g (n+1) then g i else g i - 1) (fun i hi=>by
    have:=h i (by omega);have:=h (n+1) (by omega);have:=hne i hi
    show (if g i < g (n+1) then g i else g i - 1) < n
    split<;>omega)
   refine ⟨i,j,h1,by omega,?_⟩
   have a:=hne i (by omega);have b:=hne j (by omega)
   split at h3<;>split at h3<;>omega
def itn {A:Type} (f:A->A):Nat->A->A
 | 0,q=>q
 | k+1,q=>f (itn f k q)
theorem zio {A:Type} (f:A->A) (a:Nat):∀ (b:Nat) (q:A),itn f (a+b) q=itn f a (itn f b q):=by
 induction a with
 | zero=>intro b q;rw [Nat.zero_add];rfl
 | succ a ih=>intro b q;rw [Nat.succ_add];show f _=f _;rw [ih]
theorem zx0 {A:Type} (f:A->A) (k:Nat) (q:A):itn f (k+1) q=itn f k (f q):=zio f k 1 q
theorem zAy {f:Nat->Nat} {n:Nat} (hf:∀ q,q < n->f q < n) {q:Nat} (hq:q < n):∀ k,itn f k q < n
 | 0=>hq
 | k+1=>hf _ (zAy hf hq k)
theorem zwO {A:Type} {f:A->A} {p:Nat} {q:A} (h:itn f p q=q):∀ k,itn f (k * p) q=q
 | 0=>by rw [Nat.zero_mul];rfl
 | k+1=>by rw [Nat.succ_mul,zio,h,zwO h k]
theorem ztC {A:Type} {f:A->A} {p:Nat} {q:A} (h:itn f p q=q) (i:Nat):itn f i q=itn f (i % p) q:=by
 have:i=i % p+i / p * p:=by rw [Nat.mul_comm];exact (Nat.mod_add_div i p).symm
 conv=>lhs;rw [this,zio,zwO h]
theorem zy2 {f:Int->Int} {n:Nat} (hf:∀ q:Int,0<=q->q < n->0<=f q/\f q < n) {q:Int} (h0:0<=q) (hq:q < n):∃ p,0 < p/\p<=n/\itn f p (itn f n q)=itn f n q:=by
 have hr:∀ k,0<=itn f k q/\itn f k q < n:=by
  intro k
  induction k with
  | zero=>exact ⟨h0,hq⟩
  | succ k ih=>exact hf _ ih.1 ih.2
 obtain ⟨i,j,h1,h2,h3⟩:=zxb n (fun k=>(itn f k q).toNat) (fun i _=>by have:=hr i;show (itn f i q).toNat < n;omega)
 have h3:itn f i q=itn f j q:=by have a:=hr i;have b:=hr j;have:(itn f i q).toNat=(itn f j q).toNat:=h3;omega
 refine ⟨j - i,by omega,by omega,?_⟩
 rw [<- zio];have e1:j - i+n=n - i+j:=by omega
 have e2:n=n - i+i:=by omega
 rw [e1,zio]
 conv=>rhs;rw [e2,zio]
 rw [h3]
def zfX (o:Option Bool) (P:Prop):Prop:=∃ b,o=some b/\(b=true↔P)
theorem zfX.of {b:Bool} {P:Prop} (h:b=true↔P):zfX (some b) P:=⟨b,rfl,h⟩
theorem zfX.dec {P Q:Prop} [Decidable P] (h:P↔Q):zfX (some (decide P)) Q:=⟨_,rfl,by simpa using h⟩
theorem zfX.to {R:Type} {o:Option Bool} {P:Prop} {k1 k2 x:Option R} (h:zfX o P) (h1:P->k1=x) (h2 : ¬ P->k2=x):(o.bind fun y=>if y=true then k1 else k2)=x:=by
 obtain ⟨b,rfl,hb⟩:=h;refine zae rfl ?_
 cases b
 ·exact h2 fun hp=>by simpa using hb.2 hp
 ·exact h1 (hb.1 rfl)
section
variable {α C:Type} [Inhabited α]
theorem zdX {l:List α} {P:α->Prop}:(∃ x∈l,P x)↔∃ i:Int,0<=i/\i < l.length/\P (ix l i):=by
 constructor
 ·rintro ⟨x,hx,hp⟩;obtain ⟨i,hi,rfl⟩:=List.mem_iff_getElem.1 hx;refine ⟨i,by omega,by omega,?_⟩
  rwa [zkl (by omega) (by omega)]
 ·rintro ⟨i,h0,h1,hp⟩;exact ⟨_,zaX h0 h1,hp⟩
theorem zvs {s:List α} {f:α->Option Bool} {L:Int->Option Int} {P:α->Prop} (hs:s.length<=4611686018427387904)
  (hL:∀ t,L t=if decide (t < (s.length:Int))=true then G (0<=t/\t < (s.length:Int)) ((f (ix s t)).bind fun y=>if y=true then some t else G (fits (t+1)) (L (t+1))) else some (-1))
  (hf:∀ x∈s,zfX (f x) (P x)):∀ (n:Nat) (t:Int),0<=t->t<=s.length->(s.length - t).toNat=n->
   ∃ i,L t=some i/\((i = -1/\∀ j:Int,t<=j->j < s.length -> ¬ P (ix s j))\/(t<=i/\i < s.length/\P (ix s i)/\∀ j:Int,t<=j->j < i -> ¬ P (ix s j))):=by
 intro n
 induction n with
 | zero=>
  intro t h0 h1 hn;refine ⟨-1,?_,.inl ⟨rfl,fun j a b=>by omega⟩⟩
  rw [hL,if_neg (by simp;omega)]
 | succ n ih=>
  intro t h0 h1 hn;rw [hL,if_pos (by simp;omega),zab (by omega)]
  obtain ⟨b,hb,hbp⟩:=hf _ (zaX h0 (by omega:t < s.length))
  rw [hb]
  cases b with
  | true=>exact ⟨t,rfl,.inr ⟨by omega,by omega,hbp.1 rfl,fun j a b=>by omega⟩⟩
  | false=>
   have hnp : ¬ P (ix s t):=fun hp=>by simpa using hbp.2 hp
   obtain ⟨i,hi,hc⟩:=ih (t+1) (by omega) (by omega) (by omega)
   refine ⟨i,?_,?_⟩
   ·refine (if_neg (by simp):(if false=true then some t else G (fits (t+1)) (L (t+1)))=_).trans ?_
    rw [zab (by unfold fits;omega),hi]
   ·rcases hc with ⟨h2,h3⟩ | ⟨h2,h3,h4,h5⟩
    ·refine .inl ⟨h2,fun j a b => ?_⟩
     by_cases e:j=t
     ·rw [e];exact hnp
     ·exact h3 j (by omega) b
    ·refine .inr ⟨by omega,h3,h4,fun j a b => ?_⟩
     by_cases e:j=t
     ·rw [e];exact hnp
     ·exact h5 j (by omega) b
theorem zpP {s:List α} {f:α->Option Bool} {L:Int->Option Int} {P:α->Prop}
  (hL:∀ t,L t=if decide (t < (s.length:Int))=true then G (0<=t/\t < (s.length:Int)) ((f (ix s t)).bind fun y=>if y=true then some t else G (fits (t+1)) (L (t+1))) else some (-1))
  (hs:s.length<=4611686018427387904) (hf:∀ x∈s,zfX (f x) (P x)):zfX ((L 0).bind fun y=>some (decide ((0:Int)<=y))) (∃ x∈s,P x):=by
 obtain ⟨i,hi,hc⟩:=zvs hs hL hf _ 0 (by omega) (by omega) rfl
 rw [hi];refine ⟨decide (0<=i),rfl,?_⟩
 rw [decide_eq_true_iff,zdX];rcases hc with ⟨h2,h3⟩ | ⟨h2,h3,h4,h5⟩
 ·constructor
  ·intro h;omega
  ·rintro ⟨j,h0,h1,hp⟩;exact absurd hp (h3 j h0 h1)
 ·exact ⟨fun _=>⟨i,by omega,h3,h4⟩,fun _=>by omega⟩
theorem zol {s:List α} {c:C} {f:α->C->Option (Bool×C)} {L:Int->C->Option (Int×C)} {P:α->Prop}
  (hL:∀ t c,L t c=if decide (t < (s.length:Int))=true then G (0<=t/\t < (s.length:Int)) ((f (ix s t) c).bind fun y=>if y.1=true then some (t,y.2) else G (fits (t+1)) (L (t+1) y.2)) else some (-1,c))
  (hs:s.length<=4611686018427387904) (hf:∀ x∈s,∃ b,f x c=some (b,c)/\(b=true↔P x)):∃ b,((L 0 c).bind fun y=>some (decide ((0:Int)<=y.1),y.2))=some (b,c)/\(b=true↔∃ x∈s,P x):=by
 have key:∀ (n:Nat) (t:Int),0<=t->t<=s.length->(s.length - t).toNat=n->
   ∃ i,L t c=some (i,c)/\((i = -1/\∀ j:Int,t<=j->j < s.length -> ¬ P (ix s j))\/(t<=i/\i < s.length/\P (ix s i))):=by
  intro n
  induction n with
  | zero=>
   intro t h0 h1 hn;refine ⟨-1,?_,.inl ⟨rfl,fun j a b=>by omega⟩⟩
   rw [hL,if_neg (by simp;omega)]
  | succ n ih=>
   intro t h0 h1 hn;rw [hL,if_pos (by simp;omega),zab (by omega)]
   obtain ⟨b,hb,hbp⟩:=hf _ (zaX h0 (by omega:t < s.length))
   rw [hb]
   cases b with
   | true=>exact ⟨t,rfl,.inr ⟨by omega,by omega,hbp.1 rfl⟩⟩
   | false=>
    have hnp : ¬ P (ix s t):=fun hp=>by simpa using hbp.2 hp
    obtain ⟨i,hi,hc⟩:=ih (t+1) (by omega) (by omega) (by omega)
    refine ⟨i,?_,?_⟩
    ·refine (if_neg (by simp):(if false=true then some (t,c) else G (fits (t+1)) (L (t+1) c))=_).trans ?_
     rw [zab (by unfold fits;omega),hi]
    ·rcases hc with ⟨h2,h3⟩ | ⟨h2,h3,h4⟩
     ·refine .inl ⟨h2,fun j a b => ?_⟩
      by_cases e:j=t
      ·rw [e];exact hnp
      ·exact h3 j (by omega) b
     ·exact .inr ⟨by omega,h3,h4⟩
 obtain ⟨i,hi,hc⟩:=key _ 0 (by omega) (by omega) rfl
 rw [hi];refine ⟨decide (0<=i),rfl,?_⟩
 rw [decide_eq_true_iff,zdX];rcases hc with ⟨h2,h3⟩ | ⟨h2,h3,h4⟩
 ·constructor
  ·intro h;omega
  ·rintro ⟨j,h0,h1,hp⟩;exact absurd hp (h3 j h0 h1)
 ·exact ⟨fun _=>⟨i,by omega,h3,h4⟩,fun _=>by omega⟩
end
theorem zmx {R:Type} {len:Int} {L:Int->Option R} {bad:Int->Prop} {x:Option R} {lo:Int} (h0:lo<=len)
  (hs:∀ t,lo<=t->t < len->(bad t->L t=x)/\(¬ bad t->L t=L (t+1))) (hf:(∀ t,lo<=t->t < len -> ¬ bad t)->L len=x):L lo=x:=by
 have key:∀ (n:Nat) (t:Int),lo<=t->t<=len->(len - t).toNat=n->(∀ j,lo<=j->j < t -> ¬ bad j)->L t=x:=by
  intro n
  induction n with
  | zero=>
   intro t h1 h2 hn h;obtain rfl:t=len:=by omega
   exact hf h
  | succ n ih=>
   intro t h1 h2 hn h;by_cases hb:bad t
   ·exact (hs t h1 (by omega)).1 hb
   ·rw [(hs t h1 (by omega)).2 hb]
    refine ih (t+1) (by omega) (by omega) (by omega) fun j a b => ?_
    by_cases e:j=t
    ·rw [e];exact hb
    ·exact h j a (by omega)
 exact key _ lo (Int.le_refl _) h0 rfl (fun j a b=>by omega)
theorem zpY {letters:Int} {w:List Int} (hL:1<=letters/\letters<=4) (hw:w.length<=(60:Int)):∀ (n:Nat) (i:Int),0<=i->i<=w.length->(w.length - i).toNat=n->(∀ j:Int,0<=j->j < i->0<=ix w j/\ix w j < letters)->zlg letters w i=some (mayE letters w):=by
 intro n
 induction n with
 | zero=>
  intro i h0 h1 hn h;rw [zm0];unfold zc4
  (try dsimp only);(repeat' first | (with_reducible refine G_to ?_ ?_;focus (first | omega | (unfold fits;omega) | (unfold room;(try simp only [List.length_append,List.length_cons,List.length_nil]);omega))) | (with_reducible refine zam ?_ ?_) | (with_reducible refine zap ?_) | (with_reducible refine zao ?_) | (with_reducible refine zaG (fun _ => ?_) (fun _ => ?_)))<;>try (exfalso;omega)
  ·rw [zzx hL hw (fun j a b=>h j a (by omega))]
 | succ n ih=>
  intro i h0 h1 hn h;rw [zm0];unfold zc4
  (try dsimp only);(repeat' first | (with_reducible refine G_to ?_ ?_;focus (first | omega | (unfold fits;omega) | (unfold room;(try simp only [List.length_append,List.length_cons,List.length_nil]);omega))) | (with_reducible refine zam ?_ ?_) | (with_reducible refine zap ?_) | (with_reducible refine zao ?_) | (with_reducible refine zaG (fun _ => ?_) (fun _ => ?_)))<;>try (exfalso;omega)
  ·rw [zuK hL hw (i:=i) (by omega) (by omega)]
  ·rw [zuK hL hw (i:=i) (by omega) (by omega)]
  ·exact ih _ (by omega) (by omega) (by omega) (zp7 h (by omega))
theorem zo5 {letters:Int} {w:List Int}:zsE letters w=some (mayE letters w):=by
 unfold zsE
 (try dsimp only);(repeat' first | (with_reducible refine G_to ?_ ?_;focus (first | omega | (unfold fits;omega) | (unfold room;(try simp only [List.length_append,List.length_cons,List.length_nil]);omega))) | (with_reducible refine zam ?_ ?_) | (with_reducible refine zap ?_) | (with_reducible refine zao ?_) | (with_reducible refine zaG (fun _ => ?_) (fun _ => ?_)))<;>try (exfalso;omega)
 ·rw [zql (by omega)]
 ·rw [zql (by omega)]
 ·rw [zwY (by omega) (by omega)]
 ·exact zpY (by omega) (by omega) _ 0 (by omega) (by omega) rfl (fun j a b=>by omega)
abbrev Stp:=Int×Int×Int×Unit
abbrev Au:=Int×Int×List Int×List Stp×List Int×Unit
theorem zt1 {R:Type} {len:Int} {L:Int->Option R} {bad:Int->Prop} {x:Option R} {lo:Int}
  (hs:∀ t,lo<=t->t < len->(bad t->L t=x)/\(¬ bad t->L t=L (t+1))) (hf:∀ t,lo<=t->len<=t->(∀ u,lo<=u->u < len -> ¬ bad u)->L t=x):L lo=x:=by
 by_cases h:lo<=len
 ·exact zmx h hs (fun hh=>hf len h (Int.le_refl _) hh)
 ·exact hf lo (Int.le_refl _) (by omega) (fun u a b=>by omega)
def noS (a:Au) (q:Int):Prop:=q < 0\/a.2.1<=q
def badX (a:Au) (x:Stp):Prop:=noS a x.1\/noS a x.2.2.1\/x.2.1 < 0\/a.1<=x.2.1
def zmG (x y:Stp):Prop:=x.1 < y.1\/(x.1=y.1/\(x.2.1 < y.2.1\/(x.2.1=y.2.1/\x.2.2.1 < y.2.2.1)))
def zqI (l:List Int):Prop:=∃ i:Int,1<=i/\i < l.length/\ix l i<=ix l (i - 1)
def FallX (l:List Stp):Prop:=∃ i:Int,1<=i/\i < l.length /\ ¬ zmG (ix l (i - 1)) (ix l i)
def zqH (a:Au):Prop:=a.2.1 < 1\/300 < a.2.1\/40000 < (a.2.2.2.1.length:Int)
def AOut (a:Au):Prop:=(∃ q∈a.2.2.1,noS a q)\/(∃ q∈a.2.2.2.2.1,noS a q)\/(∃ x∈a.2.2.2.1,badX a x)
def zn6 (a:Au):Prop:=zqI a.2.2.1\/zqI a.2.2.2.2.1\/FallX a.2.2.2.1
open Classical in
def autE (a:Au):Int:=if a.1 < 1\/4 < a.1 then 2 else if zqH a then 1 else if AOut a then 2 else if zn6 a then 3 else 0
structure AuLen (a:Au):Prop where
 s:(a.2.2.1.length:Int)<=20000000000000
 f:(a.2.2.2.2.1.length:Int)<=20000000000000
theorem zrp (q:Int) (a:Au):zfX (zck q a) (noS a q):=by
 unfold zck noS;by_cases h:q < 0
 ·rw [if_pos (decide_eq_true h)];exact zfX.of (by simp [h])
 ·rw [if_neg (by simpa using h)];exact zfX.dec (by omega)
theorem zpt {l:List Int} (hl:(l.length:Int)<=20000000000000):zfX (zeg l) (¬ zqI l):=by
 unfold zeg;have key:∀ (n:Nat) (t:Int),(l.length - t).toNat=n->0<=t->t<=l.length->(∀ i:Int,1<=i->i < t -> ¬ ix l i<=ix l (i - 1))->zfX (zdo l t) (¬ zqI l):=by
  intro n
  induction n with
  | zero=>
   intro t hn h0 h1 hj;rw [zfB];unfold zba;rw [if_neg (by simp;omega)]
   refine zfX.of (Iff.intro (fun _ hh => ?_) (fun _=>rfl))
   obtain ⟨i,i0,i1,i2⟩:=hh;exact hj i i0 (by omega) i2
  | succ n ih=>
   intro t hn h0 h1 hj;rw [zfB];unfold zba;rw [if_pos (by simp;omega)]
   by_cases c:0 < t
   ·rw [if_pos (decide_eq_true c),zab (by unfold fits;omega),zab (by omega),zab (by omega)]
    by_cases c2:ix l t<=ix l (t - 1)
    ·rw [if_pos (decide_eq_true c2)];exact zfX.of ⟨fun e=>absurd e (by simp),fun h=>absurd ⟨t,by omega,by omega,c2⟩ h⟩
    ·rw [if_neg (by simpa using c2),zab (by unfold fits;omega)]
     refine ih (t+1) (by omega) (by omega) (by omega) (fun i i0 i1 => ?_)
     by_cases e:i=t
     ·rw [e];exact c2
     ·exact hj i i0 (by omega)
   ·rw [if_neg (by simpa using c),zab (by unfold fits;omega)]
    exact ih (t+1) (by omega) (by omega) (by omega) (fun i i0 i1=>by omega)
 exact key _ 0 rfl (by omega) (by omega) (fun i i0 i1=>by omega)
theorem zqn (x y:Stp):∃ v:Int,zg4 x y=some v/\(v < 0↔zmG x y):=by
 have cmp:∀ a b:Int,zdU a b=some (if a < b then -1 else if b < a then 1 else 0):=fun a b=>by
  unfold zdU zkD;refine zae rfl (zae rfl ?_)
  rw [if_neg (by simp),if_neg (by simp)]
  by_cases c:a < b
  ·rw [if_pos (decide_eq_true c),if_pos c]
  ·rw [if_neg (by simpa using c),if_neg c]
   by_cases c2:b < a
   ·rw [if_pos (decide_eq_true c2),if_pos c2]
   ·rw [if_neg (by simpa using c2),if_neg c2]
 have or3:∀ p q r:Int,zul [p,q,r]=some (if p≠0 then p else if q≠0 then q else r):=fun p q r=>by
  unfold zul;rw [zfE];unfold zcl;rw [if_pos (by simp),zab (by simp),show ix [p,q,r] 0=p from rfl]
  by_cases c:p=0
  ·rw [if_neg (by simpa using c),if_neg (by simpa using c),zab (by unfold fits;omega),zfE];unfold zcl
   rw [if_pos (by simp),zab (by simp),show ix [p,q,r] (0+1)=q from rfl]
   by_cases c2:q=0
   ·rw [if_neg (by simpa using c2),if_neg (by simpa using c2),zab (by unfold fits;omega),zfE];unfold zcl
    rw [if_pos (by simp),zab (by simp),show ix [p,q,r] (0+1+1)=r from rfl]
    by_cases c3:r=0
    ·rw [if_neg (by simpa using c3),zab (by unfold fits;omega),zfE];unfold zcl
     rw [if_neg (by simp),c3]
    ·rw [if_pos (by simpa using c3)]
   ·rw [if_pos (by simpa using c2),if_pos (by simpa using c2)]
  ·rw [if_pos (by simpa using c),if_pos (by simpa using c)]
 refine ⟨if (if x.1 < y.1 then (-1:Int) else if y.1 < x.1 then 1 else 0)≠0 then (if x.1 < y.1 then -1 else if y.1 < x.1 then 1 else 0) else if (if x.2.1 < y.2.1 then (-1:Int) else if y.2.1 < x.2.1 then 1 else 0)≠0 then (if x.2.1 < y.2.1 then -1 else if y.2.1 < x.2.1 then 1 else 0) else (if x.2.2.1 < y.2.2.1 then -1 else if y.2.2.1 < x.2.2.1 then 1 else 0),?_,?_⟩
 ·unfold zg4;exact zae (cmp _ _) (zae (cmp _ _) (zae (cmp _ _) (zae (or3 _ _ _) rfl)))
 ·unfold zmG;generalize x.1=a,y.1=b,x.2.1=c,y.2.1=e,x.2.2.1=f,y.2.2.1=g;by_cases h1:a < b
  ·rw [if_pos h1];simp [h1]
  ·rw [if_neg h1];by_cases h2:b < a
   ·rw [if_pos h2];simp;omega
   ·rw [if_neg h2];have:a=b:=by omega
    subst this;by_cases h3:c < e
    ·rw [if_pos h3];simp [h3]
    ·rw [if_neg h3];by_cases h4:e < c
     ·rw [if_pos h4];simp;omega
     ·rw [if_neg h4];have:c=e:=by omega
      subst this;by_cases h5:f < g
      ·rw [if_pos h5];simp [h5]
      ·rw [if_neg h5];by_cases h6:g < f
       ·rw [if_pos h6];simp;omega
       ·rw [if_neg h6];simp;omega
theorem ztg (x:Stp) (a:Au):∃ b,zdm x a a=some (b,a)/\(b=true↔badX a x):=by
 unfold zdm badX;obtain ⟨p,hp,hp2⟩:=zrp x.1 a;obtain ⟨q,hq,hq2⟩:=zrp x.2.2.1 a;rw [hp]
 cases p with
 | true=>exact ⟨true,rfl,by simp [hp2.1 rfl]⟩
 | false=>
  have np : ¬ noS a x.1:=fun h=>by have:=hp2.2 h;cases this
  cases q with
  | true=>exact ⟨true,zae rfl (by rw [if_neg (by simp)];exact zae hq rfl),by simp [hq2.1 rfl]⟩
  | false=>
   have nq : ¬ noS a x.2.2.1:=fun h=>by have:=hq2.2 h;cases this
   by_cases c:x.2.1 < 0
   ·exact ⟨true,zae rfl (by rw [if_neg (by simp)];exact zae hq (by rw [if_neg (by simp),if_pos (decide_eq_true c)])),by simp [c]⟩
   ·exact ⟨decide (a.1<=x.2.1),zae rfl (by rw [if_neg (by simp)];exact zae hq (by rw [if_neg (by simp),if_neg (by simpa using c)])),by simp [np,nq];omega⟩
theorem znp {a:Au} (hl:AuLen a):zg3 a=some (autE a):=by
 have hs:=hl.s;have hff:=hl.f;unfold zg3 autE;by_cases c1:a.1 < 1\/4 < a.1
 ·rw [if_pos c1]
  (try dsimp only);(repeat' first | (with_reducible refine G_to ?_ ?_;focus (first | omega | (unfold fits;omega) | (unfold room;(try simp only [List.length_append,List.length_cons,List.length_nil]);omega))) | (with_reducible refine zam ?_ ?_) | (with_reducible refine zap ?_) | (with_reducible refine zao ?_) | (with_reducible refine zaG (fun _ => ?_) (fun _ => ?_)))<;>try (exfalso;omega)
  all_goals rfl
 rw [if_neg c1];by_cases c2:zqH a
 ·rw [if_pos c2];unfold zqH at c2
  (try dsimp only);(repeat' first | (with_reducible refine G_to ?_ ?_;focus (first | omega | (unfold fits;omega) | (unfold room;(try simp only [List.length_append,List.length_cons,List.length_nil]);omega))) | (with_reducible refine zam ?_ ?_) | (with_reducible refine zap ?_) | (with_reducible refine zao ?_) | (with_reducible refine zaG (fun _ => ?_) (fun _ => ?_)))<;>try (exfalso;omega)
  all_goals rfl
 rw [if_neg c2];unfold zqH at c2
 (try dsimp only);(repeat' first | (with_reducible refine G_to ?_ ?_;focus (first | omega | (unfold fits;omega) | (unfold room;(try simp only [List.length_append,List.length_cons,List.length_nil]);omega))) | (with_reducible refine zam ?_ ?_) | (with_reducible refine zap ?_) | (with_reducible refine zao ?_) | (with_reducible refine zaG (fun _ => ?_) (fun _ => ?_)))<;>try (exfalso;omega)
 have k1:∀ s:List Int,(s.length:Int)<=20000000000000->zfX (zcs s a) (∃ q∈s,noS a q):=fun s hs=>zpP (f:=fun q=>zck q a) (zhY s a) (by omega) (fun x _=>zrp x a)
 obtain ⟨b3,hb3,hb32⟩:∃ b,zcG a.2.2.2.1 a a=some (b,a)/\(b=true↔∃ x∈a.2.2.2.1,badX a x):=
  zol (f:=fun x c=>zdm x a c) (L:=fun t c=>zb2 a.2.2.2.1 a t c) (fun t c=>zg1 a.2.2.2.1 a t c) (by omega) (fun x _=>ztg x a)
 have ea:(a.1,a.2.1,a.2.2.1,a.2.2.2.1,a.2.2.2.2.1,())=a:=rfl;rw [ea];refine (k1 _ hs).to (fun h=>by rw [if_pos (show AOut a from .inl h)]) (fun h1 => ?_)
 refine (k1 _ hff).to (fun h=>by rw [if_pos (show AOut a from .inr (.inl h))]) (fun h2 => ?_)
 refine zae hb3 ?_
 by_cases h3:∃ x∈a.2.2.2.1,badX a x
 ·rw [if_pos (hb32.2 h3),if_pos (show AOut a from .inr (.inr h3))]
 rw [if_neg (fun e=>h3 (hb32.1 e)),if_neg (show ¬ AOut a from fun h=>h.elim h1 (fun h=>h.elim h2 h3))]
 obtain ⟨r1,e1,f1⟩:=zpt hs;obtain ⟨r2,e2,f2⟩:=zpt hff;refine zae e1 ?_
 by_cases g1:zqI a.2.2.1
 ·rw [if_pos (show zn6 a from .inl g1),if_pos (by cases r1;rfl;exact absurd g1 (f1.1 rfl))]
 rw [if_neg (by rw [f1.2 g1];simp)]
 refine zae e2 ?_
 by_cases g2:zqI a.2.2.2.2.1
 ·rw [if_pos (show zn6 a from .inr (.inl g2)),if_pos (by cases r2;rfl;exact absurd g2 (f2.1 rfl))]
 rw [if_neg (by rw [f2.2 g2];simp)]
 refine zt1 (len:=(a.2.2.2.1.length:Int)) (bad:=fun t=>1<=t /\ ¬ zmG (ix a.2.2.2.1 (t - 1)) (ix a.2.2.2.1 t)) (lo:=0) (fun t t0 t1=>⟨fun hb => ?_,fun hb => ?_⟩) (fun t t0 t1 hh => ?_)
 ·rw [if_pos (show zn6 a from .inr (.inr ⟨t,hb.1,t1,hb.2⟩)),zdn];unfold zaW;obtain ⟨v,hv,hv2⟩:=zqn (ix a.2.2.2.1 (t - 1)) (ix a.2.2.2.1 t);rw [if_pos (by simp;omega),if_pos (by simp;omega),zab (by unfold fits;omega),zab (by omega),zab (by omega)]
  refine zae hv ?_
  rw [if_pos (by rw [decide_eq_true_iff];exact Int.not_lt.1 (fun h=>hb.2 (hv2.1 h)))]
 ·conv=>lhs;rw [zdn];unfold zaW
  rw [if_pos (by simp;omega)]
  by_cases c:0 < t
  ·obtain ⟨v,hv,hv2⟩:=zqn (ix a.2.2.2.1 (t - 1)) (ix a.2.2.2.1 t);have hah:zmG (ix a.2.2.2.1 (t - 1)) (ix a.2.2.2.1 t):=Classical.byContradiction fun hn=>hb ⟨by omega,hn⟩
   rw [if_pos (decide_eq_true c),zab (by unfold fits;omega),zab (by omega),zab (by omega)]
   refine zae hv ?_
   rw [if_neg (by have:=hv2.2 hah;simp;omega),zab (by unfold fits;omega)]
  ·rw [if_neg (by simpa using c),zab (by unfold fits;omega)]
 ·rw [if_neg (show ¬ zn6 a from fun h=>h.elim g1 (fun h=>h.elim g2 (fun ⟨i,i0,i1,i2⟩=>hh i (by omega) i1 ⟨i0,i2⟩))),zdn];unfold zaW
  rw [if_neg (by simp;omega)]
theorem zlp (x y:Stp):zfX (zn0 x y) (zmG x y):=by
 unfold zn0 zmG;by_cases c:x.1=y.1
 ·rw [if_neg (by simpa using c)]
  by_cases c2:x.2.1=y.2.1
  ·rw [if_neg (by simpa using c2)];exact zfX.dec (by omega)
  ·rw [if_pos (by simpa using c2)];exact zfX.dec (by omega)
 ·rw [if_pos (by simpa using c)];exact zfX.dec (by omega)
theorem zlr {a:Au} (hl:AuLen a):zn1 a=some (autE a):=by
 have hs:=hl.s;have hff:=hl.f;unfold zn1 autE;by_cases c1:a.1 < 1\/4 < a.1
 ·rw [if_pos c1]
  (try dsimp only);(repeat' first | (with_reducible refine G_to ?_ ?_;focus (first | omega | (unfold fits;omega) | (unfold room;(try simp only [List.length_append,List.length_cons,List.length_nil]);omega))) | (with_reducible refine zam ?_ ?_) | (with_reducible refine zap ?_) | (with_reducible refine zao ?_) | (with_reducible refine zaG (fun _ => ?_) (fun _ => ?_)))<;>try (exfalso;omega)
  all_goals rfl
 rw [if_neg c1];by_cases c2:zqH a
 ·rw [if_pos c2];unfold zqH at c2
  (try dsimp only);(repeat' first | (with_reducible refine G_to ?_ ?_;focus (first | omega | (unfold fits;omega) | (unfold room;(try simp only [List.length_append,List.length_cons,List.length_nil]);omega))) | (with_reducible refine zam ?_ ?_) | (with_reducible refine zap ?_) | (with_reducible refine zao ?_) | (with_reducible refine zaG (fun _ => ?_) (fun _ => ?_)))<;>try (exfalso;omega)
  all_goals rfl
 rw [if_neg c2];unfold zqH at c2
 (try dsimp only);(repeat' first | (with_reducible refine G_to ?_ ?_;focus (first | omega | (unfold fits;omega) | (unfold room;(try simp only [List.length_append,List.length_cons,List.length_nil]);omega))) | (with_reducible refine zam ?_ ?_) | (with_reducible refine zap ?_) | (with_reducible refine zao ?_) | (with_reducible refine zaG (fun _ => ?_) (fun _ => ?_)))<;>try (exfalso;omega)
 refine zt1 (len:=(a.2.2.1.length:Int)) (bad:=fun t=>noS a (ix a.2.2.1 t)) (lo:=0) (fun t t0 t1=>⟨fun hb => ?_,fun hb => ?_⟩) (fun t t0 t1 hh => ?_)
 ·rw [if_pos (show AOut a from .inl (zdX.2 ⟨t,t0,t1,hb⟩)),zf2];unfold zbZ;unfold noS at hb
  (try dsimp only);(repeat' first | (with_reducible refine G_to ?_ ?_;focus (first | omega | (unfold fits;omega) | (unfold room;(try simp only [List.length_append,List.length_cons,List.length_nil]);omega))) | (with_reducible refine zam ?_ ?_) | (with_reducible refine zap ?_) | (with_reducible refine zao ?_) | (with_reducible refine zaG (fun _ => ?_) (fun _ => ?_)))<;>try (exfalso;omega)
  all_goals rfl
 ·conv=>lhs;rw [zf2];unfold zbZ
  unfold noS at hb
  (try dsimp only);(repeat' first | (with_reducible refine G_to ?_ ?_;focus (first | omega | (unfold fits;omega) | (unfold room;(try simp only [List.length_append,List.length_cons,List.length_nil]);omega))) | (with_reducible refine zam ?_ ?_) | (with_reducible refine zap ?_) | (with_reducible refine zao ?_) | (with_reducible refine zaG (fun _ => ?_) (fun _ => ?_)))<;>try (exfalso;omega)
  all_goals rfl
 have h1 : ¬ ∃ q∈a.2.2.1,noS a q:=fun h=>by obtain ⟨i,i0,i1,i2⟩:=zdX.1 h;exact hh i i0 i1 i2
 rw [zf2];unfold zbZ;rw [if_neg (by simp;omega)]
 refine zt1 (len:=(a.2.2.2.2.1.length:Int)) (bad:=fun t=>noS a (ix a.2.2.2.2.1 t)) (lo:=0) (fun t t0 t1=>⟨fun hb => ?_,fun hb => ?_⟩) (fun t t0 t1 hh => ?_)
 ·rw [if_pos (show AOut a from .inr (.inl (zdX.2 ⟨t,t0,t1,hb⟩))),zfb];unfold zbB;unfold noS at hb
  (try dsimp only);(repeat' first | (with_reducible refine G_to ?_ ?_;focus (first | omega | (unfold fits;omega) | (unfold room;(try simp only [List.length_append,List.length_cons,List.length_nil]);omega))) | (with_reducible refine zam ?_ ?_) | (with_reducible refine zap ?_) | (with_reducible refine zao ?_) | (with_reducible refine zaG (fun _ => ?_) (fun _ => ?_)))<;>try (exfalso;omega)
  all_goals rfl
 ·conv=>lhs;rw [zfb];unfold zbB
  unfold noS at hb
  (try dsimp only);(repeat' first | (with_reducible refine G_to ?_ ?_;focus (first | omega | (unfold fits;omega) | (unfold room;(try simp only [List.length_append,List.length_cons,List.length_nil]);omega))) | (with_reducible refine zam ?_ ?_) | (with_reducible refine zap ?_) | (with_reducible refine zao ?_) | (with_reducible refine zaG (fun _ => ?_) (fun _ => ?_)))<;>try (exfalso;omega)
  all_goals rfl
 have h2 : ¬ ∃ q∈a.2.2.2.2.1,noS a q:=fun h=>by obtain ⟨i,i0,i1,i2⟩:=zdX.1 h;exact hh i i0 i1 i2
 rw [zfb];unfold zbB;rw [if_neg (by simp;omega)]
 refine zt1 (len:=(a.2.2.2.1.length:Int)) (bad:=fun t=>badX a (ix a.2.2.2.1 t)) (lo:=0) (fun t t0 t1=>⟨fun hb => ?_,fun hb => ?_⟩) (fun t t0 t1 hh => ?_)
 ·rw [if_pos (show AOut a from .inr (.inr (zdX.2 ⟨t,t0,t1,hb⟩))),zfc];unfold zbC;unfold badX noS at hb
  (try dsimp only);(repeat' first | (with_reducible refine G_to ?_ ?_;focus (first | omega | (unfold fits;omega) | (unfold room;(try simp only [List.length_append,List.length_cons,List.length_nil]);omega))) | (with_reducible refine zam ?_ ?_) | (with_reducible refine zap ?_) | (with_reducible refine zao ?_) | (with_reducible refine zaG (fun _ => ?_) (fun _ => ?_)))<;>try (exfalso;omega)
  all_goals rfl
 ·conv=>lhs;rw [zfc];unfold zbC
  unfold badX noS at hb
  (try dsimp only);(repeat' first | (with_reducible refine G_to ?_ ?_;focus (first | omega | (unfold fits;omega) | (unfold room;(try simp only [List.length_append,List.length_cons,List.length_nil]);omega))) | (with_reducible refine zam ?_ ?_) | (with_reducible refine zap ?_) | (with_reducible refine zao ?_) | (with_reducible refine zaG (fun _ => ?_) (fun _ => ?_)))<;>try (exfalso;omega)
  all_goals rfl
 have h3 : ¬ ∃ q∈a.2.2.2.1,badX a q:=fun h=>by obtain ⟨i,i0,i1,i2⟩:=zdX.1 h;exact hh i i0 i1 i2
 rw [if_neg (show ¬ AOut a from fun h=>h.elim h1 (fun h=>h.elim h2 h3)),zfc];unfold zbC
 rw [if_neg (by simp;omega)]
 refine zt1 (len:=(a.2.2.1.length:Int)) (bad:=fun t=>ix a.2.2.1 t<=ix a.2.2.1 (t - 1)) (lo:=1) (fun t t0 t1=>⟨fun hb => ?_,fun hb => ?_⟩) (fun t t0 t1 hh => ?_)
 ·rw [if_pos (show zn6 a from .inl ⟨t,t0,t1,hb⟩),zfd];unfold zbD
  (try dsimp only);(repeat' first | (with_reducible refine G_to ?_ ?_;focus (first | omega | (unfold fits;omega) | (unfold room;(try simp only [List.length_append,List.length_cons,List.length_nil]);omega))) | (with_reducible refine zam ?_ ?_) | (with_reducible refine zap ?_) | (with_reducible refine zao ?_) | (with_reducible refine zaG (fun _ => ?_) (fun _ => ?_)))<;>try (exfalso;omega)
  all_goals rfl
 ·conv=>lhs;rw [zfd];unfold zbD
  (try dsimp only);(repeat' first | (with_reducible refine G_to ?_ ?_;focus (first | omega | (unfold fits;omega) | (unfold room;(try simp only [List.length_append,List.length_cons,List.length_nil]);omega))) | (with_reducible refine zam ?_ ?_) | (with_reducible refine zap ?_) | (with_reducible refine zao ?_) | (with_reducible refine zaG (fun _ => ?_) (fun _ => ?_)))<;>try (exfalso;omega)
  all_goals rfl
 have g1 : ¬ zqI a.2.2.1:=fun ⟨i,i0,i1,i2⟩=>hh i i0 i1 i2
 rw [zfd];unfold zbD;rw [if_neg (by simp;omega)]
 refine zt1 (len:=(a.2.2.2.2.1.length:Int)) (bad:=fun t=>ix a.2.2.2.2.1 t<=ix a.2.2.2.2.1 (t - 1)) (lo:=1) (fun t t0 t1=>⟨fun hb => ?_,fun hb => ?_⟩) (fun t t0 t1 hh => ?_)
 ·rw [if_pos (show zn6 a from .inr (.inl ⟨t,t0,t1,hb⟩)),zfe];unfold zbE
  (try dsimp only);(repeat' first | (with_reducible refine G_to ?_ ?_;focus (first | omega | (unfold fits;omega) | (unfold room;(try simp only [List.length_append,List.length_cons,List.length_nil]);omega))) | (with_reducible refine zam ?_ ?_) | (with_reducible refine zap ?_) | (with_reducible refine zao ?_) | (with_reducible refine zaG (fun _ => ?_) (fun _ => ?_)))<;>try (exfalso;omega)
  all_goals rfl
 ·conv=>lhs;rw [zfe];unfold zbE
  (try dsimp only);(repeat' first | (with_reducible refine G_to ?_ ?_;focus (first | omega | (unfold fits;omega) | (unfold room;(try simp only [List.length_append,List.length_cons,List.length_nil]);omega))) | (with_reducible refine zam ?_ ?_) | (with_reducible refine zap ?_) | (with_reducible refine zao ?_) | (with_reducible refine zaG (fun _ => ?_) (fun _ => ?_)))<;>try (exfalso;omega)
  all_goals rfl
 have g2 : ¬ zqI a.2.2.2.2.1:=fun ⟨i,i0,i1,i2⟩=>hh i i0 i1 i2
 rw [zfe];unfold zbE;rw [if_neg (by simp;omega)]
 refine zt1 (len:=(a.2.2.2.1.length:Int)) (bad:=fun t => ¬ zmG (ix a.2.2.2.1 (t - 1)) (ix a.2.2.2.1 t)) (lo:=1) (fun t t0 t1=>⟨fun hb => ?_,fun hb => ?_⟩) (fun t t0 t1 hh => ?_)
 ·rw [if_pos (show zn6 a from .inr (.inr ⟨t,t0,t1,hb⟩)),zff];unfold zbF;obtain ⟨v,hv,hv2⟩:=zlp (ix a.2.2.2.1 (t - 1)) (ix a.2.2.2.1 t);rw [if_pos (by simp;omega),zab (by unfold fits;omega),zab (by omega),zab (by omega)]
  refine zae hv ?_
  rw [if_pos (by cases v;rfl;exact absurd (hv2.1 rfl) hb)]
 ·conv=>lhs;rw [zff];unfold zbF
  obtain ⟨v,hv,hv2⟩:=zlp (ix a.2.2.2.1 (t - 1)) (ix a.2.2.2.1 t);rw [if_pos (by simp;omega),zab (by unfold fits;omega),zab (by omega),zab (by omega)]
  refine zae hv ?_
  rw [if_neg (by rw [hv2.2 (Classical.byContradiction hb)];simp),zab (by unfold fits;omega)]
 ·rw [if_neg (show ¬ zn6 a from fun h=>h.elim g1 (fun h=>h.elim g2 (fun ⟨i,i0,i1,i2⟩=>hh i i0 i1 i2))),zff];unfold zbF
  rw [if_neg (by simp;omega)]
def lasE (letters:Int) (l:List Int×List Int×Unit):Int:=if mayE letters l.1=0 then (if mayE letters l.2.1=0 then (if l.2.1.length=0 then 1 else 0) else mayE letters l.2.1) else mayE letters l.1
theorem zry {letters:Int} {l:List Int×List Int×Unit}:znY letters l=some (lasE letters l):=by
 unfold znY lasE;refine zae zo5 ?_
 by_cases h1:mayE letters l.1=0
 ·rw [if_pos h1,if_neg (by simp [h1])]
  refine zae zo5 ?_
  by_cases h2:mayE letters l.2.1=0
  ·rw [if_pos h2,if_neg (by simp [h2])]
   by_cases h3:l.2.1.length=0
   ·rw [if_pos (by simp [h3]),if_pos h3]
   ·rw [if_neg (by simp only [decide_eq_true_eq];omega),if_neg h3]
  ·rw [if_neg h2,if_pos (by simp [h2])]
 ·rw [if_neg h1,if_pos (by simp [h1])]
theorem zss {letters:Int} {l:List Int×List Int×Unit} (h:lasE letters l=0):mayE letters l.1=0/\mayE letters l.2.1=0/\0 < l.2.1.length:=by
 unfold lasE at h;by_cases h1:mayE letters l.1=0
 ·rw [if_pos h1] at h;by_cases h2:mayE letters l.2.1=0
  ·rw [if_pos h2] at h;by_cases h3:l.2.1.length=0
   ·rw [if_pos h3] at h;omega
   ·exact ⟨h1,h2,by omega⟩
  ·rw [if_neg h2] at h;exact absurd h h2
 ·rw [if_neg h1] at h;exact absurd h h1
section
abbrev LsT:=List Int×List Int×Unit
def las (l:LsT) (t:Nat):Int:=if t < l.1.length then ix l.1 (t:Int) else ix l.2.1 (((t - l.1.length) % l.2.1.length:Nat):Int)
theorem zuG {l:LsT} (i:Nat) (h:i < l.1.length):ix l.1 (i:Int)=las l i:=by unfold las;rw [if_pos h]
theorem zx3 {l:LsT} (i:Nat) (h:i < l.2.1.length):ix l.2.1 (i:Int)=las l (l.1.length+i):=by
 unfold las;rw [if_neg (by omega),show l.1.length+i - l.1.length=i by omega,Nat.mod_eq_of_lt h]
theorem zzu {l:LsT} (t:Nat) (h:l.1.length<=t):las l (t+l.2.1.length)=las l t:=by
 unfold las;rw [if_neg (by omega),if_neg (by omega),show t+l.2.1.length - l.1.length=(t - l.1.length)+l.2.1.length by omega,Nat.add_mod_right]
end
theorem znw {a b:List Int} (hl:a.length=b.length):∀ (n:Nat) (i:Int),0<=i->i<=a.length->(a.length - i).toNat=n->a.length<=2305843009213693951->(∀ j:Int,0<=j->j < i->ix a j=ix b j)->zhf a b i=some (decide (a=b)):=by
 intro n
 induction n with
 | zero=>
  intro i h0 h1 hn hs h;rw [zjG];unfold zco
  (try dsimp only);(repeat' first | (with_reducible refine G_to ?_ ?_;focus (first | omega | (unfold fits;omega) | (unfold room;(try simp only [List.length_append,List.length_cons,List.length_nil]);omega))) | (with_reducible refine zam ?_ ?_) | (with_reducible refine zap ?_) | (with_reducible refine zao ?_) | (with_reducible refine zaG (fun _ => ?_) (fun _ => ?_)))<;>try (exfalso;omega)
  ·rw [Option.some_inj,eq_comm,decide_eq_true_iff];exact zqi hl (fun j a b=>h j a (by omega))
 | succ n ih=>
  intro i h0 h1 hn hs h;rw [zjG];unfold zco
  (try dsimp only);(repeat' first | (with_reducible refine G_to ?_ ?_;focus (first | omega | (unfold fits;omega) | (unfold room;(try simp only [List.length_append,List.length_cons,List.length_nil]);omega))) | (with_reducible refine zam ?_ ?_) | (with_reducible refine zap ?_) | (with_reducible refine zao ?_) | (with_reducible refine zaG (fun _ => ?_) (fun _ => ?_)))<;>try (exfalso;omega)
  ·rw [Option.some_inj,eq_comm,decide_eq_false_iff_not];rintro rfl;contradiction
  ·rename_i hx;exact ih _ (by omega) (by omega) (by omega) hs (zp7 h (Decidable.not_not.1 hx))
theorem zlj {a b:List Int} (hs:a.length<=2305843009213693951):zlh a b=some (decide (a=b)):=by
 unfold zlh
 (try dsimp only);(repeat' first | (with_reducible refine G_to ?_ ?_;focus (first | omega | (unfold fits;omega) | (unfold room;(try simp only [List.length_append,List.length_cons,List.length_nil]);omega))) | (with_reducible refine zam ?_ ?_) | (with_reducible refine zap ?_) | (with_reducible refine zao ?_) | (with_reducible refine zaG (fun _ => ?_) (fun _ => ?_)))<;>try (exfalso;omega)
 ·rw [Option.some_inj,eq_comm,decide_eq_false_iff_not];rintro rfl;contradiction
 ·exact znw (by omega) _ 0 (by omega) (by omega) rfl hs (fun j a b=>by omega)
section
variable {a:Au}
theorem zkZ {l:List Int} (hl:(l.length:Int) * 8<=140737488351232):zkY l=some l:=by
 unfold zkY;refine G_to (by unfold fits;omega) (G_to (by unfold mkOK;omega) ?_)
 simp
theorem zri (h1:(a.2.2.1.length:Int) * 8<=140737488351232) (h2:(a.2.2.2.2.1.length:Int) * 8<=140737488351232) (h3:(a.2.2.2.1.length:Int) * 24<=140737488351232):znU a=some a:=by
 unfold znU;refine zae (zkZ h1) (zae (zkZ h2) ?_)
 exact G_to (by unfold room;simp;omega) rfl
theorem zrI (h1:(a.2.2.1.length:Int) * 8<=140737488351232) (h2:(a.2.2.2.2.1.length:Int) * 8<=140737488351232) (h3:(a.2.2.2.1.length:Int) * 24<=140737488351232):zfO a a=some true:=by
 have key:∀ (n:Nat) (i:Int),(a.2.2.2.1.length - i).toNat=n->0<=i->i<=a.2.2.2.1.length->zdu a a i=some true:=by
  intro n
  induction n with
  | zero=>
   intro i hn i0 i1;rw [zfP];unfold zbd;rw [if_neg (by simp;omega)]
  | succ n ih=>
   intro i hn i0 i1;rw [zfP];unfold zbd;rw [if_pos (by simp;omega),zcO.2 rfl]
   exact G_to (by omega) (G_to (by omega) (G_to (by unfold fits;omega) (ih (i+1) (by omega) (by omega) (by omega))))
 unfold zfO;refine zae (zlj (by omega)) (zae (zlj (by omega)) ?_)
 rw [if_neg (by simp),if_neg (by simp),if_neg (by simp),if_neg (by simp),if_neg (by simp)]
 exact key _ 0 rfl (by omega) (by omega)
end
theorem zgY {s:List Int} (hs:s.length * 8<=140737488355328):zet s=some s:=by
 have hr:G (room ([]:List Int) s 8) (some (([]:List Int)++s))=some s:=by
  rw [zab (zzF (by simpa using hs))];rfl
 unfold zet;refine zzq (fun h => ?_) (fun h=>hr)
 obtain rfl:s=[]:=List.length_eq_zero_iff.1 h;rw [hr];exact zrV (ts:=[(.list (.int .i64))]) (some ([]:List Int))
def stp (N:List (List Int)) (q a:Int):Int:=ix (ix N q) a
def wlk (N:List (List Int)) (q:Int) (w:List Int):Int:=w.foldl (stp N) q
def trc (N:List (List Int)):Int->List Int->List Int
 | _,[]=>[]
 | q,a::w=>stp N q a::trc N (stp N q a) w
structure Tab (L:Int) (N:List (List Int)):Prop where
 row:∀ r∈N,(r.length:Int)=L
 to:∀ r∈N,∀ q∈r,0<=q/\q < N.length
theorem Tab.stpb {L:Int} {N:List (List Int)} (h:Tab L N) {q a:Int} (q0:0<=q) (q1:q < N.length) (a0:0<=a) (a1:a < L):0<=stp N q a/\stp N q a < N.length:=by
 have h1:=zaX q0 q1;have h2:=h.row _ h1;exact h.to _ h1 _ (zaX a0 (by omega))
theorem Tab.rowlen {L:Int} {N:List (List Int)} (h:Tab L N) {q:Int} (q0:0<=q) (q1:q < N.length):((ix N q).length:Int)=L:=h.row _ (zaX q0 q1)
theorem Tab.wlkb {L:Int} {N:List (List Int)} (h:Tab L N):∀ {w:List Int} {q:Int},0<=q->q < N.length->(∀ a∈w,0<=a/\a < L)->0<=wlk N q w/\wlk N q w < N.length
 | [],q,q0,q1,_=>⟨q0,q1⟩
 | a::w,q,q0,q1,hw=>by
  have:=h.stpb q0 q1 (hw a (by simp)).1 (hw a (by simp)).2
  exact Tab.wlkb h (q:=stp N q a) (w:=w) this.1 this.2 (fun b hb=>hw b (by simp [hb]))
theorem zll {d:Int×Int×List (List Int)×List Int×Unit} {L:Int} (h:Tab L d.2.2.1) {w:List Int} (hw:∀ a∈w,0<=a/\a < L) (hl:w.length<=1000000) {q:Int} (q0:0<=q) (q1:q < d.2.2.1.length):znZ d q w=some (wlk d.2.2.1 q w):=by
 have key:∀ (n:Nat) (t q:Int),(w.length - t).toNat=n->0<=t->t<=w.length->0<=q->q < d.2.2.1.length->zhg d w q t=some (wlk d.2.2.1 q (w.drop t.toNat)):=by
  intro n
  induction n with
  | zero=>
   intro t q hn h0 h1 q0 q1;rw [zjH];unfold zcp
   (try dsimp only);(repeat' first | (with_reducible refine G_to ?_ ?_;focus (first | omega | (unfold fits;omega) | (unfold room;(try simp only [List.length_append,List.length_cons,List.length_nil]);omega))) | (with_reducible refine zam ?_ ?_) | (with_reducible refine zap ?_) | (with_reducible refine zao ?_) | (with_reducible refine zaG (fun _ => ?_) (fun _ => ?_)))<;>try (exfalso;omega)
   rw [List.drop_of_length_le (by omega)];rfl
  | succ n ih=>
   intro t q hn h0 h1 q0 q1;have ha:=hw _ (zaX h0 (by omega:t < w.length))
   have hr:=h.rowlen q0 q1;have hs:=h.stpb q0 q1 ha.1 ha.2;rw [zjH];unfold zcp
   (try dsimp only);(repeat' first | (with_reducible refine G_to ?_ ?_;focus (first | omega | (unfold fits;omega) | (unfold room;(try simp only [List.length_append,List.length_cons,List.length_nil]);omega))) | (with_reducible refine zam ?_ ?_) | (with_reducible refine zap ?_) | (with_reducible refine zao ?_) | (with_reducible refine zaG (fun _ => ?_) (fun _ => ?_)))<;>try (exfalso;omega)
   rw [zwP h0 (by omega)]
   exact ih (t+1) _ (by omega) (by omega) (by omega) hs.1 hs.2
 exact key _ 0 q rfl (by omega) (by omega) q0 q1
theorem zbX {α:Type}:∀ {ks:List α} {x:α},za4 ks x=none↔x∉ks
 | [],x=>by simp [za4]
 | y::ys,x=>by
  unfold za4;by_cases h:y=x
  ·rw [if_pos h];simp [h]
  ·rw [if_neg h,Option.map_eq_none_iff,zbX];simp [Ne.symm h]
theorem zoY {α:Type} {ks:List α} {x:α} (h:x∉ks):zkm ks x=ks++[x]:=by
 unfold zkm;rw [zbX.2 h]
theorem zqt {α:Type} [DecidableEq α]:∀ {l U:List α},l.Nodup->(∀ x∈l,x∈U)->l.length<=U.length
 | [],_,_,_=>Nat.zero_le _
 | a::l,U,hn,hs=>by
  have ha:=hs a (by simp)
  obtain ⟨h1,h2⟩:=List.nodup_cons.1 hn;have:=zqt (U:=U.erase a) h2 (fun x hx=>(List.mem_erase_of_ne (by rintro rfl;exact h1 hx)).2 (hs x (by simp [hx])))
  rw [List.length_erase_of_mem ha] at this;have hp:0 < U.length:=List.length_pos_of_mem ha;rw [List.length_cons];omega
theorem zmd {l:List Int} {n:Nat} (h:l.Nodup) (hb:∀ x∈l,0<=x/\x < n):l.length<=n:=by
 have:=zqt (U:=(List.range n).map Int.ofNat) h (fun x hx=>by
  have:=hb x hx;exact List.mem_map.2 ⟨x.toNat,List.mem_range.2 (by omega),by show ((x.toNat:Nat):Int)=x;omega⟩)
 simpa using this
theorem zsy {α:Type} {ks:List α} {x:α} (h:x∈ks):∃ j,za4 ks x=some j:=by
 cases e:za4 ks x with
 | none=>exact absurd h (zbX.1 e)
 | some j=>exact ⟨j,rfl⟩
theorem zjm {α:Type} (ks:List α) (x:α):za4 (x::ks) x=some 0:=by unfold za4;rw [if_pos rfl]
theorem zk7 {α:Type} {ks:List α} {x y:α} (h:y≠x):za4 (y::ks) x=(za4 ks x).map (·+1):=by
 rw [za4,if_neg h]
theorem zoV {α:Type}:∀ {ks:List α} {x:α} {j:Nat} (l:List α),za4 ks x=some j->za4 (ks++l) x=some j
 | [],_,_,_,h=>by cases h
 | y::ks,x,j,l,h=>by
  rw [List.cons_append];by_cases e:y=x
  ·subst e;rw [zjm] at h ⊢;exact h
  ·rw [zk7 e] at h ⊢
   cases hm:za4 ks x with
   | none=>rw [hm] at h;cases h
   | some i=>rw [hm] at h;rw [zoV l hm];exact h
theorem zsz {α:Type}:∀ {ks:List α} {x:α},x∉ks->za4 (ks++[x]) x=some ks.length
 | [],x,_=>zjm _ _
 | y::ks,x,h=>by
  have hy:y≠x:=by rintro rfl;exact h (by simp)
  rw [List.cons_append,zk7 hy,zsz (fun hh=>h (by simp [hh]))];rfl
theorem zuM {α:Type}:∀ {ks:List α} {x:α} {k:Nat},ks[k]? =some x->(∀ j,j < k->ks[j]? ≠some x)->za4 ks x=some k
 | [],_,_,h,_=>by simp at h
 | y::ks,x,k,h,hf=>by
  cases k with
  | zero=>
   have:y=x:=by simpa using h
   subst this;exact zjm _ _
  | succ k=>
   have hy:y≠x:=by have:=hf 0 (by omega);simpa using this
   rw [zk7 hy,zuM (k:=k) (by simpa using h) (fun j hj=>by have:=hf (j+1) (by omega);simpa using this)];rfl
theorem zw0 {α:Type} {ks:List α} {x y:α} {j:Nat} (h:za4 ks x=some j) (k:za4 ks y=some j):x=y:=by
 have:=ze7 h;rw [ze7 k] at this;injection this with this;exact this.symm
theorem ztI {α:Type} {ks:List α} (hn:ks.Nodup) {j:Nat} (hj:j < ks.length):za4 ks ks[j]=some j:=
 zuM (by simp) fun i hi e=>by
  have hi':i < ks.length:=by omega
  rw [List.getElem?_eq_getElem hi'] at e;exact List.pairwise_iff_getElem.1 hn i j hi' hj hi (Option.some.inj e)
theorem zsx {α β:Type} (f:α->β):∀ {ks:List α} {x:α},(∀ y∈ks,f y=f x->y=x)->za4 (ks.map f) (f x)=za4 ks x
 | [],_,_=>rfl
 | y::ks,x,h=>by
  have ih:=zsx f (ks:=ks) (x:=x) (fun z hz=>h z (by simp [hz]))
  rw [List.map_cons];by_cases e:y=x
  ·subst e;rw [zjm,zjm]
  ·rw [zk7 e,zk7 (fun hh=>e (h y (by simp) hh)),ih]
def iota (n:Nat):List Int:=(List.range n).map fun j:Nat=>(j:Int)
theorem zuy (n:Nat):(iota n).length=n:=by simp [iota]
theorem zwK (n:Nat):iota (n+1)=iota n++[(n:Int)]:=by simp [iota,List.range_succ]
theorem zoW {α:Type} {ks:List α} {x:α} {j:Nat} (h:za4 ks x=some j):mget ks (iota ks.length) x 0=j:=by
 have:=zhb h;unfold mget;rw [h];simp [iota,this]
theorem znW {α:Type} {ks:List α} {x:α}:mhas ks x=true↔x∈ks:=by
 unfold mhas
 cases e:za4 ks x with
 | none=>simp [zbX.1 e]
 | some j=>
  have:=ze7 e;simp [List.mem_of_getElem? this]
theorem zma {α:Type} {ks:List α} {x:α} (h:x∉ks):zkn ks (iota ks.length) x ks.length=iota (ks++[x]).length:=by
 unfold zkn;rw [zbX.2 h,List.length_append,List.length_singleton,zwK]
theorem zom {α:Type} [DecidableEq α]:∀ {l U:List α},U.Nodup->(∀ x∈U,x∈l)->l.length<=U.length->l.Nodup
 | [],_,_,_,_=>List.nodup_nil
 | a::l,U,hU,hs,hl=>by
  have ha:a∉l:=fun ha=>by
   have:=zqt (l:=U) (U:=l) hU (fun x hx=>by
    rcases List.mem_cons.1 (hs x hx) with rfl | h
    ·exact ha
    ·exact h)
   rw [List.length_cons] at hl;omega
  refine List.nodup_cons.2 ⟨ha,?_⟩
  refine zom (U:=U.erase a) (hU.erase a) (fun x hx => ?_) ?_
  ·have hne:x≠a:=((List.Nodup.mem_erase_iff hU).1 hx).1;rcases List.mem_cons.1 (hs x (List.mem_of_mem_erase hx)) with h | h
   ·exact absurd h hne
   ·exact h
  ·have:U.length - 1<=(U.erase a).length:=by
    by_cases h:a∈U
    ·rw [List.length_erase_of_mem h];omega
    ·rw [List.erase_of_not_mem h];omega
   rw [List.length_cons] at hl;omega
def keyL (l:List Int):List Int:=l.flatMap fun x=>[IntKind.wrap .u8 x,IntKind.wrap .u8 (ishr .i64 x 8)]
def keyB (l:List Int):List UInt8:=bstr (keyL l)
theorem zAm (x:Int):IntKind.wrap .u8 x=x % 256:=by
 unfold IntKind.wrap;simp [IntKind.bits,IntKind.signed]
theorem zkX (x:Int) (l:List Int):keyB (x::l)=UInt8.ofNat (x % 256).toNat::UInt8.ofNat (ishr .i64 x 8 % 256).toNat::keyB l:=by
 unfold keyB keyL bstr;simp [zAm]
theorem zyK {a b:Int} (h:UInt8.ofNat (a % 256).toNat=UInt8.ofNat (b % 256).toNat):a % 256=b % 256:=by
 have:=congrArg UInt8.toNat h;simp only [UInt8.toNat_ofNat'] at this;omega
theorem zuE:∀ {l k:List Int},(∀ x∈l,0<=x/\x < 65536)->(∀ x∈k,0<=x/\x < 65536)->keyB l=keyB k->l=k
 | [],[],_,_,_=>rfl
 | [],y::k,_,_,h=>by rw [zkX] at h;cases h
 | x::l,[],_,_,h=>by rw [zkX] at h;cases h
 | x::l,y::k,hl,hk,h=>by
  rw [zkX,zkX] at h;injection h with h1 h
  injection h with h2 h
  have hx:=hl x (by simp)
  have hy:=hk y (by simp)
  have e1:=zyK h1;have e2:=zyK h2;obtain ⟨a,rfl⟩:∃ a:Nat,x=a:=⟨x.toNat,by omega⟩
  obtain ⟨b,rfl⟩:∃ b:Nat,y=b:=⟨y.toNat,by omega⟩
  rw [show (8:Int)=((8:Nat):Int) from rfl,zuC (by omega),zuC (by omega),Nat.shiftRight_eq_div_pow,Nat.shiftRight_eq_div_pow] at e2
  have:a=b:=by omega
  rw [this,zuE (fun z hz=>hl z (by simp [hz])) (fun z hz=>hk z (by simp [hz])) h]
theorem zx1 (l:List Int):(keyL l).length=2 * l.length:=by
 induction l with
 | nil=>rfl
 | cons x l ih=>unfold keyL at *; rw [List.flatMap_cons,List.length_append,ih];simp;omega
def mkR (n:Nat) (g:Int->Int):List Int:=(List.range n).map fun a:Nat=>g a
theorem zw1 (n:Nat) (g:Int->Int):(mkR n g).length=n:=by simp [mkR]
theorem zAE {n:Nat} {g:Int->Int} {a:Int} (h0:0<=a) (h1:a < n):ix (mkR n g) a=g a:=by
 rw [zkl h0 (by rw [zw1];exact h1)]
 simp [mkR,Int.toNat_of_nonneg h0]
abbrev Dt:=Int×Int×(List (List Int))×(List Int)×Unit
def DBig (mx:Int) (d:Dt):Prop:=d.2.2.1.length < 1\/mx < d.2.2.1.length
def DRag (d:Dt):Prop := ¬ (d.2.2.2.1.length:Int)=d.2.2.1.length\/∃ r∈d.2.2.1,¬ (r.length:Int)=d.1
def DOut (mb:Int->Prop) (d:Dt):Prop:=(d.2.1 < 0\/(d.2.2.1.length:Int)<=d.2.1)\/(∃ r∈d.2.2.1,∃ q∈r,q < 0\/(d.2.2.1.length:Int)<=q)\/(∃ s∈d.2.2.2.1,mb s)
open Classical in
def detE (mx:Int) (mb:Int->Prop) (d:Dt):Int:=if d.1 < 1\/4 < d.1 then 2 else if DBig mx d then 1 else if DRag d then 3 else if DOut mb d then 2 else 0
structure DOk (mx:Int) (mb:Int->Prop) (d:Dt):Prop where
 let1:1<=d.1/\d.1<=4
 n1:1<=d.2.2.1.length/\(d.2.2.1.length:Int)<=mx
 st:0<=d.2.1/\d.2.1 < d.2.2.1.length
 mkl:(d.2.2.2.1.length:Int)=d.2.2.1.length
 mok:∀ s∈d.2.2.2.1,¬ mb s
 tab:Tab d.1 d.2.2.1
theorem zwg {mx:Int} {mb:Int->Prop} {d:Dt} (h:detE mx mb d=0):DOk mx mb d:=by
 unfold detE at h;by_cases c1:d.1 < 1\/4 < d.1
 ·rw [if_pos c1] at h;omega
 rw [if_neg c1] at h;by_cases c2:DBig mx d
 ·rw [if_pos c2] at h;omega
 rw [if_neg c2] at h;by_cases c3:DRag d
 ·rw [if_pos c3] at h;omega
 rw [if_neg c3] at h;by_cases c4:DOut mb d
 ·rw [if_pos c4] at h;omega
 unfold DBig at c2;unfold DRag at c3;unfold DOut at c4;refine ⟨by omega,by omega,?_,?_,fun s hs hm=>c4 (.inr (.inr ⟨s,hs,hm⟩)),fun r hr => ?_,fun r hr q hq => ?_⟩
 ·have : ¬ (d.2.1 < 0\/(d.2.2.1.length:Int)<=d.2.1):=fun h=>c4 (.inl h)
  omega
 ·exact Decidable.not_not.1 fun h=>c3 (.inl h)
 ·by_cases e:(r.length:Int)=d.1
  ·exact e
  ·exact absurd (.inr ⟨r,hr,e⟩) c3
 ·have : ¬ (q < 0\/(d.2.2.1.length:Int)<=q):=fun h=>c4 (.inr (.inl ⟨r,hr,q,hq,h⟩))
  omega
theorem zwf {mx:Int} {mb:Int->Prop} {d:Dt} (h:DOk mx mb d):detE mx mb d=0:=by
 have h1:=h.let1;have h2:=h.n1;have h3:=h.st;have h4:=h.mkl;unfold detE;rw [if_neg (by omega),if_neg (by unfold DBig;omega),if_neg,if_neg]
 ·rintro (hh | ⟨r,hr,q,hq,hh⟩ | ⟨s,hs,hh⟩)
  ·omega
  ·have:=h.tab.to r hr q hq;omega
  ·exact h.mok s hs hh
 ·rintro (hh | ⟨r,hr,hh⟩)
  ·exact hh h4
  ·exact hh (h.tab.row r hr)
abbrev badM (s:Int):Prop:=s < 0\/9 < s
theorem zlz {d:Dt}:zlx d=some (detE 20000 badM d):=by
 unfold zlx detE;by_cases c1:d.1 < 1\/4 < d.1
 ·rw [if_pos c1]
  (try dsimp only);(repeat' first | (with_reducible refine G_to ?_ ?_;focus (first | omega | (unfold fits;omega) | (unfold room;(try simp only [List.length_append,List.length_cons,List.length_nil]);omega))) | (with_reducible refine zam ?_ ?_) | (with_reducible refine zap ?_) | (with_reducible refine zao ?_) | (with_reducible refine zaG (fun _ => ?_) (fun _ => ?_)))<;>try (exfalso;omega)
  all_goals rfl
 rw [if_neg c1];by_cases c2:DBig 20000 d
 ·rw [if_pos c2];unfold DBig at c2
  (try dsimp only);(repeat' first | (with_reducible refine G_to ?_ ?_;focus (first | omega | (unfold fits;omega) | (unfold room;(try simp only [List.length_append,List.length_cons,List.length_nil]);omega))) | (with_reducible refine zam ?_ ?_) | (with_reducible refine zap ?_) | (with_reducible refine zao ?_) | (with_reducible refine zaG (fun _ => ?_) (fun _ => ?_)))<;>try (exfalso;omega)
  all_goals rfl
 rw [if_neg c2];unfold DBig at c2;by_cases c3:(d.2.2.2.1.length:Int)=d.2.2.1.length
 case neg=>
  rw [if_pos (show DRag d from .inl c3)]
  (try dsimp only);(repeat' first | (with_reducible refine G_to ?_ ?_;focus (first | omega | (unfold fits;omega) | (unfold room;(try simp only [List.length_append,List.length_cons,List.length_nil]);omega))) | (with_reducible refine zam ?_ ?_) | (with_reducible refine zap ?_) | (with_reducible refine zao ?_) | (with_reducible refine zaG (fun _ => ?_) (fun _ => ?_)))<;>try (exfalso;omega)
  all_goals rfl
 (try dsimp only);(repeat' first | (with_reducible refine G_to ?_ ?_;focus (first | omega | (unfold fits;omega) | (unfold room;(try simp only [List.length_append,List.length_cons,List.length_nil]);omega))) | (with_reducible refine zam ?_ ?_) | (with_reducible refine zap ?_) | (with_reducible refine zao ?_) | (with_reducible refine zaG (fun _ => ?_) (fun _ => ?_)))<;>try (exfalso;omega)
 refine zmx (len:=(d.2.2.1.length:Int)) (bad:=fun t => ¬ ((ix d.2.2.1 t).length:Int)=d.1) (by omega) (fun t h0 h1=>⟨fun hb => ?_,fun hb => ?_⟩) (fun hh => ?_)
 ·rw [zf3];unfold zb0
  (try dsimp only);(repeat' first | (with_reducible refine G_to ?_ ?_;focus (first | omega | (unfold fits;omega) | (unfold room;(try simp only [List.length_append,List.length_cons,List.length_nil]);omega))) | (with_reducible refine zam ?_ ?_) | (with_reducible refine zap ?_) | (with_reducible refine zao ?_) | (with_reducible refine zaG (fun _ => ?_) (fun _ => ?_)))<;>try (exfalso;omega)
  rw [if_pos (show DRag d from .inr (zdX.2 ⟨t,by omega,by omega,hb⟩))]
 ·conv=>lhs;rw [zf3];unfold zb0
  (try dsimp only);(repeat' first | (with_reducible refine G_to ?_ ?_;focus (first | omega | (unfold fits;omega) | (unfold room;(try simp only [List.length_append,List.length_cons,List.length_nil]);omega))) | (with_reducible refine zam ?_ ?_) | (with_reducible refine zap ?_) | (with_reducible refine zao ?_) | (with_reducible refine zaG (fun _ => ?_) (fun _ => ?_)))<;>try (exfalso;omega)
  all_goals first | rfl | (exfalso;exact hb ‹_›) | (exfalso;exact absurd ‹_› hb)
 rw [if_neg (show ¬ DRag d from fun h=>h.elim (fun e=>e c3) (fun h=>by obtain ⟨i,i0,i1,i2⟩:=zdX.1 h;exact hh i i0 i1 i2))]
 rw [zf3];unfold zb0;by_cases c4:d.2.1 < 0\/(d.2.2.1.length:Int)<=d.2.1
 ·rw [if_pos (show DOut _ d from .inl c4)]
  (try dsimp only);(repeat' first | (with_reducible refine G_to ?_ ?_;focus (first | omega | (unfold fits;omega) | (unfold room;(try simp only [List.length_append,List.length_cons,List.length_nil]);omega))) | (with_reducible refine zam ?_ ?_) | (with_reducible refine zap ?_) | (with_reducible refine zao ?_) | (with_reducible refine zaG (fun _ => ?_) (fun _ => ?_)))<;>try (exfalso;omega)
  all_goals rfl
 (try dsimp only);(repeat' first | (with_reducible refine G_to ?_ ?_;focus (first | omega | (unfold fits;omega) | (unfold room;(try simp only [List.length_append,List.length_cons,List.length_nil]);omega))) | (with_reducible refine zam ?_ ?_) | (with_reducible refine zap ?_) | (with_reducible refine zao ?_) | (with_reducible refine zaG (fun _ => ?_) (fun _ => ?_)))<;>try (exfalso;omega)
 have hlen:∀ t:Int,0<=t->t < d.2.2.1.length->((ix d.2.2.1 t).length:Int)=d.1:=fun t a b=>Decidable.not_not.1 (hh t a b)
 refine zmx (len:=(d.2.2.1.length:Int)) (bad:=fun t=>∃ q∈ix d.2.2.1 t,q < 0\/(d.2.2.1.length:Int)<=q) (by omega) (fun t h0 h1=>⟨fun hb => ?_,fun hb => ?_⟩) (fun hh2 => ?_)
 ·rw [zfk];unfold zbH
  (try dsimp only);(repeat' first | (with_reducible refine G_to ?_ ?_;focus (first | omega | (unfold fits;omega) | (unfold room;(try simp only [List.length_append,List.length_cons,List.length_nil]);omega))) | (with_reducible refine zam ?_ ?_) | (with_reducible refine zap ?_) | (with_reducible refine zao ?_) | (with_reducible refine zaG (fun _ => ?_) (fun _ => ?_)))<;>try (exfalso;omega)
  have hlt:=hlen t h0 h1;refine zmx (len:=d.1) (bad:=fun a=>ix (ix d.2.2.1 t) a < 0\/(d.2.2.1.length:Int)<=ix (ix d.2.2.1 t) a) (by omega) (fun a a0 a1=>⟨fun hb => ?_,fun hb => ?_⟩) (fun hh3 => ?_)
  ·rw [zdA];unfold zbh
   (try dsimp only);(repeat' first | (with_reducible refine G_to ?_ ?_;focus (first | omega | (unfold fits;omega) | (unfold room;(try simp only [List.length_append,List.length_cons,List.length_nil]);omega))) | (with_reducible refine zam ?_ ?_) | (with_reducible refine zap ?_) | (with_reducible refine zao ?_) | (with_reducible refine zaG (fun _ => ?_) (fun _ => ?_)))<;>try (exfalso;omega)
   all_goals rw [if_pos (show DOut _ d from .inr (.inl (zdX.2 ⟨t,h0,h1,zdX.2 ⟨a,a0,by omega,hb⟩⟩)))]
  ·conv=>lhs;rw [zdA];unfold zbh
   (try dsimp only);(repeat' first | (with_reducible refine G_to ?_ ?_;focus (first | omega | (unfold fits;omega) | (unfold room;(try simp only [List.length_append,List.length_cons,List.length_nil]);omega))) | (with_reducible refine zam ?_ ?_) | (with_reducible refine zap ?_) | (with_reducible refine zao ?_) | (with_reducible refine zaG (fun _ => ?_) (fun _ => ?_)))<;>try (exfalso;omega)
   all_goals rfl
  ·exfalso;obtain ⟨i,i0,i1,i2⟩:=zdX.1 hb;exact hh3 i i0 (by omega) i2
 ·conv=>lhs;rw [zfk];unfold zbH
  (try dsimp only);(repeat' first | (with_reducible refine G_to ?_ ?_;focus (first | omega | (unfold fits;omega) | (unfold room;(try simp only [List.length_append,List.length_cons,List.length_nil]);omega))) | (with_reducible refine zam ?_ ?_) | (with_reducible refine zap ?_) | (with_reducible refine zao ?_) | (with_reducible refine zaG (fun _ => ?_) (fun _ => ?_)))<;>try (exfalso;omega)
  have hlt:=hlen t h0 h1;refine zmx (len:=d.1) (bad:=fun a=>ix (ix d.2.2.1 t) a < 0\/(d.2.2.1.length:Int)<=ix (ix d.2.2.1 t) a) (by omega) (fun a a0 a1=>⟨fun hb' => ?_,fun hb => ?_⟩) (fun hh3 => ?_)
  ·exfalso;exact hb (zdX.2 ⟨a,a0,by omega,hb'⟩)
  ·conv=>lhs;rw [zdA];unfold zbh
   (try dsimp only);(repeat' first | (with_reducible refine G_to ?_ ?_;focus (first | omega | (unfold fits;omega) | (unfold room;(try simp only [List.length_append,List.length_cons,List.length_nil]);omega))) | (with_reducible refine zam ?_ ?_) | (with_reducible refine zap ?_) | (with_reducible refine zao ?_) | (with_reducible refine zaG (fun _ => ?_) (fun _ => ?_)))<;>try (exfalso;omega)
   all_goals rfl
  ·rw [zdA];unfold zbh
   (try dsimp only);(repeat' first | (with_reducible refine G_to ?_ ?_;focus (first | omega | (unfold fits;omega) | (unfold room;(try simp only [List.length_append,List.length_cons,List.length_nil]);omega))) | (with_reducible refine zam ?_ ?_) | (with_reducible refine zap ?_) | (with_reducible refine zao ?_) | (with_reducible refine zaG (fun _ => ?_) (fun _ => ?_)))<;>try (exfalso;omega)
   all_goals rfl
 have hnr : ¬ ∃ r∈d.2.2.1,∃ q∈r,q < 0\/(d.2.2.1.length:Int)<=q:=fun h=>by
  obtain ⟨t,h0,h1,hb⟩:=zdX.1 h;exact hh2 t h0 h1 hb
 rw [zfk];unfold zbH
 (try dsimp only);(repeat' first | (with_reducible refine G_to ?_ ?_;focus (first | omega | (unfold fits;omega) | (unfold room;(try simp only [List.length_append,List.length_cons,List.length_nil]);omega))) | (with_reducible refine zam ?_ ?_) | (with_reducible refine zap ?_) | (with_reducible refine zao ?_) | (with_reducible refine zaG (fun _ => ?_) (fun _ => ?_)))<;>try (exfalso;omega)
 refine zmx (len:=(d.2.2.1.length:Int)) (bad:=fun t=>(badM) (ix d.2.2.2.1 t)) (by omega) (fun t h0 h1=>⟨fun hb => ?_,fun hb => ?_⟩) (fun hh3 => ?_)
 ·rw [if_pos (show DOut _ d from .inr (.inr (zdX.2 ⟨t,h0,by omega,hb⟩)))]
  rw [zfm];unfold zbI
  try dsimp only at hb
  (try dsimp only);(repeat' first | (with_reducible refine G_to ?_ ?_;focus (first | omega | (unfold fits;omega) | (unfold room;(try simp only [List.length_append,List.length_cons,List.length_nil]);omega))) | (with_reducible refine zam ?_ ?_) | (with_reducible refine zap ?_) | (with_reducible refine zao ?_) | (with_reducible refine zaG (fun _ => ?_) (fun _ => ?_)))<;>try (exfalso;omega)
  all_goals first | rfl | (exfalso;exact hb.1 ‹_›) | (exfalso;exact hb.2 ‹_›)
 ·conv=>lhs;rw [zfm];unfold zbI
  try dsimp only at hb
  (try dsimp only);(repeat' first | (with_reducible refine G_to ?_ ?_;focus (first | omega | (unfold fits;omega) | (unfold room;(try simp only [List.length_append,List.length_cons,List.length_nil]);omega))) | (with_reducible refine zam ?_ ?_) | (with_reducible refine zap ?_) | (with_reducible refine zao ?_) | (with_reducible refine zaG (fun _ => ?_) (fun _ => ?_)))<;>try (exfalso;omega)
  all_goals first | rfl | (exfalso;exact hb ⟨‹_›,‹_›⟩)
 rw [if_neg (show ¬ DOut _ d from fun h=>h.elim c4 (fun h=>h.elim hnr (fun h=>by
  obtain ⟨t,h0,h1,hb⟩:=zdX.1 h;exact hh3 t h0 (by omega) hb)))]
 rw [zfm];unfold zbI
 (try dsimp only);(repeat' first | (with_reducible refine G_to ?_ ?_;focus (first | omega | (unfold fits;omega) | (unfold room;(try simp only [List.length_append,List.length_cons,List.length_nil]);omega))) | (with_reducible refine zam ?_ ?_) | (with_reducible refine zap ?_) | (with_reducible refine zao ?_) | (with_reducible refine zaG (fun _ => ?_) (fun _ => ?_)))<;>try (exfalso;omega)
 all_goals rfl
def Lst (M:List Int) (v:Int) (P:Int->Prop):Prop:=(v=10\/∃ b,P b/\v=ix M b)/\v<=10/\∀ b,P b->v<=ix M b
theorem Lst.step {M:List Int} {v b:Int} {P:Int->Prop} (h:Lst M v P):Lst M (imin v (ix M b)) (fun x=>P x\/x=b):=by
 obtain ⟨h1,h2,h3⟩:=h;unfold imin;by_cases e:ix M b < v
 ·rw [if_pos e];refine ⟨.inr ⟨b,.inr rfl,rfl⟩,by omega,fun x hx => ?_⟩
  rcases hx with hx | rfl
  ·have:=h3 x hx;omega
  ·omega
 ·rw [if_neg e];refine ⟨h1.imp id (fun ⟨c,hc,hv⟩=>⟨c,.inl hc,hv⟩),h2,fun x hx => ?_⟩
  rcases hx with hx | rfl
  ·exact h3 x hx
  ·omega
theorem Lst.iff {M:List Int} {v:Int} {P Q:Int->Prop} (h:Lst M v P) (e:∀ b,P b↔Q b):Lst M v Q:=
 ⟨h.1.imp id (fun ⟨b,hb,hv⟩=>⟨b,(e b).1 hb,hv⟩),h.2.1,fun b hb=>h.2.2 b ((e b).2 hb)⟩
def addL (M:List Int) (s:Int) (l:List Int):Int:=l.foldl (fun s b=>imin s (ix M b)) s
theorem zuf {M:List Int}:∀ {l:List Int} {s:Int} {P:Int->Prop},Lst M s P->Lst M (addL M s l) (fun b=>P b\/b∈l)
 | [],s,P,h=>h.iff (fun b=>by simp)
 | x::l,s,P,h=>by
  have h1:=zuf (l:=l) (h.step (b:=x));refine h1.iff (fun b => ?_)
  rw [List.mem_cons,or_assoc]
abbrev SOk:=DOk 20000 badM
section
variable {m:Dt} {l:List Int×List Int×Unit}
theorem zym (h:SOk m) (hw:∀ a∈l.2.1,0<=a/\a < m.1) (hl:l.2.1.length<=1000000) {rd:Int} (hrd:0<=rd/\rd<=100000) {r8:Int->Int->Int->Option Bool}:∀ (n:Nat) (t q s:Int),(l.2.1.length - t).toNat=n->0<=t->t<=l.2.1.length->0<=q->q < m.2.2.1.length->
  zb6 m l rd r8 q s t=r8 (wlk m.2.2.1 q (l.2.1.drop t.toNat)) (addL m.2.2.2.1 s (trc m.2.2.1 q (l.2.1.drop t.toNat))) (rd+1):=by
 intro n
 induction n with
 | zero=>
  intro t q s hn h0 h1 q0 q1;rw [zgL];unfold zbu
  (try dsimp only);(repeat' first | (with_reducible refine G_to ?_ ?_;focus (first | omega | (unfold fits;omega) | (unfold room;(try simp only [List.length_append,List.length_cons,List.length_nil]);omega))) | (with_reducible refine zam ?_ ?_) | (with_reducible refine zap ?_) | (with_reducible refine zao ?_) | (with_reducible refine zaG (fun _ => ?_) (fun _ => ?_)))<;>try (exfalso;omega)
  rw [List.drop_of_length_le (by omega)];rfl
 | succ n ih=>
  intro t q s hn h0 h1 q0 q1;have ha:=hw _ (zaX h0 (by omega:t < l.2.1.length))
  have hr:=h.tab.rowlen q0 q1;have hs:=h.tab.stpb q0 q1 ha.1 ha.2;have hm:=h.mkl;have hs1:0<=ix (ix m.2.2.1 q) (ix l.2.1 t):=hs.1;have hs2:ix (ix m.2.2.1 q) (ix l.2.1 t) < m.2.2.1.length:=hs.2;have e:addL m.2.2.2.1 s (trc m.2.2.1 q (ix l.2.1 t::l.2.1.drop (t+1).toNat))=addL m.2.2.2.1 (if ix m.2.2.2.1 (ix (ix m.2.2.1 q) (ix l.2.1 t)) < s then ix m.2.2.2.1 (ix (ix m.2.2.1 q) (ix l.2.1 t)) else s) (trc m.2.2.1 (stp m.2.2.1 q (ix l.2.1 t)) (l.2.1.drop (t+1).toNat)):=rfl
  rw [zwP h0 (by omega),e]
  rw [zgL];unfold zbu
  (try dsimp only);(repeat' first | (with_reducible refine G_to ?_ ?_;focus (first | omega | (unfold fits;omega) | (unfold room;(try simp only [List.length_append,List.length_cons,List.length_nil]);omega))) | (with_reducible refine zam ?_ ?_) | (with_reducible refine zap ?_) | (with_reducible refine zao ?_) | (with_reducible refine zaG (fun _ => ?_) (fun _ => ?_)))<;>try (exfalso;omega)
  ·rename_i hc;rw [if_pos hc];exact ih (t+1) _ _ (by omega) (by omega) (by omega) hs.1 hs.2
  ·rename_i hc;rw [if_neg hc];exact ih (t+1) _ _ (by omega) (by omega) (by omega) hs.1 hs.2
def rnd (m:Dt) (w:List Int) (x:Int×Int):Int×Int:=(wlk m.2.2.1 x.1 w,addL m.2.2.2.1 x.2 (trc m.2.2.1 x.1 w))
theorem ztX (k:Nat) (x:Int×Int) (w:List Int):(itn (rnd m w) k x).1=itn (fun q=>wlk m.2.2.1 q w) k x.1:=by
 induction k with
 | zero=>rfl
 | succ k ih=>show wlk _ (itn (rnd m w) k x).1 w=_;rw [ih];rfl
theorem zpu (h:SOk m) {w:List Int} (hw:∀ a∈w,0<=a/\a < m.1) {q:Int} (q0:0<=q) (q1:q < m.2.2.1.length):∀ k,(0<=itn (fun q=>wlk m.2.2.1 q w) k q/\itn (fun q=>wlk m.2.2.1 q w) k q < m.2.2.1.length)/\Lst m.2.2.2.1 (itn (rnd m w) k (q,10)).2 (fun b=>∃ i,i < k/\b∈trc m.2.2.1 (itn (fun q=>wlk m.2.2.1 q w) i q) w)
 | 0=>⟨⟨q0,q1⟩,.inl rfl,Int.le_refl _,fun b ⟨i,hi,_⟩=>by omega⟩
 | k+1=>by
  obtain ⟨⟨h1,h2⟩,h3⟩:=zpu h hw q0 q1 k;refine ⟨h.tab.wlkb h1 h2 hw,?_⟩
  have h4:=zuf (l:=trc m.2.2.1 (itn (rnd m w) k (q,10)).1 w) h3;refine h4.iff (fun b => ?_)
  rw [ztX];constructor
  ·rintro (⟨i,hi,hb⟩ | hb)
   ·exact ⟨i,by omega,hb⟩
   ·exact ⟨k,by omega,hb⟩
  ·rintro ⟨i,hi,hb⟩;by_cases e:i=k
   ·subst e;exact .inr hb
   ·exact .inl ⟨i,by omega,hb⟩
def safV (m:Dt) (l:List Int×List Int×Unit):Int:=(itn (rnd m l.2.1) m.2.2.1.length (itn (fun q=>wlk m.2.2.1 q l.2.1) m.2.2.1.length (wlk m.2.2.1 m.2.1 l.1),10)).2
theorem zzG (h:SOk m) (hw:∀ a∈l.2.1,0<=a/\a < m.1) (hl:l.2.1.length<=1000000):∀ (n:Nat) (t q:Int),(m.2.2.1.length - t).toNat=n->0<=t->t<=m.2.2.1.length->0<=q->q < m.2.2.1.length->
  zeN m l q t=zdz m l (itn (fun q=>wlk m.2.2.1 q l.2.1) n q) 10 0:=by
 intro n
 induction n with
 | zero=>
  intro t q hn h0 h1 q0 q1;rw [zhH];unfold zbR
  (try dsimp only);(repeat' first | (with_reducible refine G_to ?_ ?_;focus (first | omega | (unfold fits;omega) | (unfold room;(try simp only [List.length_append,List.length_cons,List.length_nil]);omega))) | (with_reducible refine zam ?_ ?_) | (with_reducible refine zap ?_) | (with_reducible refine zao ?_) | (with_reducible refine zaG (fun _ => ?_) (fun _ => ?_)))<;>try (exfalso;omega)
  rfl
 | succ n ih=>
  intro t q hn h0 h1 q0 q1;have hn4:=h.n1;have hs:=h.tab.wlkb q0 q1 hw;rw [zhH];unfold zbR
  (try dsimp only);(repeat' first | (with_reducible refine G_to ?_ ?_;focus (first | omega | (unfold fits;omega) | (unfold room;(try simp only [List.length_append,List.length_cons,List.length_nil]);omega))) | (with_reducible refine zam ?_ ?_) | (with_reducible refine zap ?_) | (with_reducible refine zao ?_) | (with_reducible refine zaG (fun _ => ?_) (fun _ => ?_)))<;>try (exfalso;omega)
  refine zae (zll (d:=m) h.tab hw hl q0 q1) ?_
  (try dsimp only);(repeat' first | (with_reducible refine G_to ?_ ?_;focus (first | omega | (unfold fits;omega) | (unfold room;(try simp only [List.length_append,List.length_cons,List.length_nil]);omega))) | (with_reducible refine zam ?_ ?_) | (with_reducible refine zap ?_) | (with_reducible refine zao ?_) | (with_reducible refine zaG (fun _ => ?_) (fun _ => ?_)))<;>try (exfalso;omega)
  rw [zx0];exact ih (t+1) _ (by omega) (by omega) (by omega) hs.1 hs.2
theorem zzH (h:SOk m) (hw:∀ a∈l.2.1,0<=a/\a < m.1) (hl:l.2.1.length<=1000000) {v:Int} (v0:0<=v) (v1:v < m.2.2.1.length):∀ (d k:Nat),m.2.2.1.length - k=d->k<=m.2.2.1.length->
  zdz m l (itn (rnd m l.2.1) k (v,10)).1 (itn (rnd m l.2.1) k (v,10)).2 (k:Int)=some (decide (Int.tmod (itn (rnd m l.2.1) m.2.2.1.length (v,10)).2 2=0)):=by
 intro d
 induction d with
 | zero=>
  intro k h1 h2;obtain rfl:k=m.2.2.1.length:=by omega
  rw [zhI];unfold zbS;rw [if_neg (by simp),zab (by decide)]
 | succ d ih=>
  intro k h1 h2;have hn4:=h.n1;have hk:=(zpu h hw v0 v1 k).1;have ih':=ih (k+1) (by omega) (by omega)
  rw [zhI];unfold zbS;rw [if_pos (by simp only [decide_eq_true_eq];omega)]
  rw [zym h hw hl (by omega) _ 0 _ _ rfl (by omega) (by omega) (by rw [ztX];exact hk.1) (by rw [ztX];exact hk.2)]
  rw [<- ih'];rfl
theorem ziN (hm:detE 20000 badM m=0) (hl:lasE m.1 l=0):zgK m l=some (decide (Int.tmod (safV m l) 2=0)):=by
 have h:=zwg hm;obtain ⟨a1,a2,a3⟩:=zss hl;have b1:=zk5 a1;have b2:=zk5 a2;have hq:=h.tab.wlkb h.st.1 h.st.2 b1.2.2;have hn4:=h.n1;have hqn:=(zpu h b2.2.2 hq.1 hq.2 m.2.2.1.length).1;unfold zgK;refine zae (zll (d:=m) h.tab b1.2.2 (by omega) h.st.1 h.st.2) ?_
 have e3:=zzG (l:=l) h b2.2.2 (by omega) m.2.2.1.length 0 (wlk m.2.2.1 m.2.1 l.1) (by omega) (by omega) (by omega) hq.1 hq.2
 exact e3.trans (zzH h b2.2.2 (by omega) hqn.1 hqn.2 m.2.2.1.length 0 (by omega) (by omega))
end
section
variable {d:Dt} {mb:Int->Prop}
def sigC (d:Dt) (c:List Int) (q:Int):Int×List Int:=(ix c q,(ix d.2.2.1 q).map (ix c))
def ksC (d:Dt) (c:List Int):Nat->List (Int×List Int)
 | 0=>[]
 | t+1=>if sigC d c (t:Int)∈ksC d c t then ksC d c t else ksC d c t++[sigC d c (t:Int)]
def idxC (d:Dt) (c:List Int) (q:Nat):Nat:=(za4 (ksC d c (q+1)) (sigC d c (q:Int))).getD 0
def rfC (d:Dt) (c:List Int):List Int:=mkR d.2.2.1.length fun q=>(idxC d c q.toNat:Int)
theorem zg9 (c:List Int) (t:Nat):ksC d c (t+1)=if sigC d c (t:Int)∈ksC d c t then ksC d c t else ksC d c t++[sigC d c (t:Int)]:=rfl
theorem zzt (c:List Int):∀ t,∃ x,ksC d c (t+1)=ksC d c t++x:=fun t=>by
 rw [zg9];by_cases h:sigC d c (t:Int)∈ksC d c t
 ·exact ⟨[],by rw [if_pos h,List.append_nil]⟩
 ·exact ⟨_,by rw [if_neg h]⟩
theorem zl7 (c:List Int):∀ t q:Nat,q < t->sigC d c (q:Int)∈ksC d c t
 | t+1,q,h=>by
  rw [zg9];by_cases e:q=t
  ·subst e;by_cases h:sigC d c (q:Int)∈ksC d c q
   ·rw [if_pos h];exact h
   ·rw [if_neg h];simp
  ·have:=zl7 c t q (by omega)
   by_cases h:sigC d c (t:Int)∈ksC d c t
   ·rw [if_pos h];exact this
   ·rw [if_neg h];simp [this]
theorem zsr (c:List Int):∀ (t:Nat),∀ k∈ksC d c t,∃ q:Nat,q < t/\k=sigC d c (q:Int)
 | 0,k,h=>by cases h
 | t+1,k,h=>by
  rw [zg9] at h;by_cases e:sigC d c (t:Int)∈ksC d c t
  ·rw [if_pos e] at h;obtain ⟨q,h1,h2⟩:=zsr c t k h;exact ⟨q,by omega,h2⟩
  ·rw [if_neg e] at h;rcases List.mem_append.1 h with h | h
   ·obtain ⟨q,h1,h2⟩:=zsr c t k h;exact ⟨q,by omega,h2⟩
   ·exact ⟨t,by omega,List.mem_singleton.1 h⟩
theorem zoL (c:List Int):∀ t,(ksC d c t).Nodup
 | 0=>List.nodup_nil
 | t+1=>by
  rw [zg9];by_cases h:sigC d c (t:Int)∈ksC d c t
  ·rw [if_pos h];exact zoL c t
  ·rw [if_neg h,List.nodup_append];exact ⟨zoL c t,by simp,fun a ha b hb=>by rw [List.mem_singleton.1 hb];rintro rfl;exact h ha⟩
theorem zyB (c:List Int):∀ t,(ksC d c t).length<=t
 | 0=>Nat.le_refl _
 | t+1=>by
  have:=zyB c t;rw [zg9]
  split
  ·omega
  ·rw [List.length_append,List.length_singleton];omega
theorem zl6 (c:List Int) (q:Nat):∀ t,q < t->za4 (ksC d c t) (sigC d c (q:Int))=some (idxC d c q)
 | t+1,h=>by
  by_cases e:q=t
  ·subst e;obtain ⟨j,hj⟩:=zsy (zl7 (d:=d) c (q+1) q (by omega))
   unfold idxC;rw [hj];rfl
  ·obtain ⟨x,hx⟩:=zzt (d:=d) c t;rw [hx];exact zoV x (zl6 c q t (by omega))
theorem zxX (c:List Int) {q r:Nat}:idxC d c q=idxC d c r↔sigC d c (q:Int)=sigC d c (r:Int):=by
 have h1:=zl6 (d:=d) c q (max q r+1) (by omega)
 have h2:=zl6 (d:=d) c r (max q r+1) (by omega)
 constructor
 ·intro e;rw [<- e] at h2;exact zw0 h1 h2
 ·intro e;rw [e,h2] at h1;exact (Option.some.inj h1).symm
theorem zzn (c:List Int) {q t:Nat} (h:q < t):idxC d c q < (ksC d c t).length:=zhb (zl6 c q t h)
theorem zxY (c:List Int) {t j:Nat} (h:j < (ksC d c t).length):∃ q,q < t/\idxC d c q=j:=by
 obtain ⟨q,hq,e⟩:=zsr c t _ (List.getElem_mem h);refine ⟨q,hq,?_⟩
 have h1:=zl6 (d:=d) c q t hq;rw [<- e,ztI (zoL c t) h] at h1;exact (Option.some.inj h1).symm
structure ClsOk (d:Dt) (c:List Int):Prop where
 len:c.length=d.2.2.1.length
 b:∀ q:Int,0<=q->q < c.length->0<=ix c q/\ix c q < 65536
theorem zrE (c:List Int):(rfC d c).length=d.2.2.1.length:=zw1 _ _
theorem zsL (c:List Int) {q:Int} (h0:0<=q) (h1:q < d.2.2.1.length):ix (rfC d c) q=idxC d c q.toNat:=zAE h0 h1
theorem zrK (h:DOk 20000 mb d) (c:List Int) {q:Int} (h0:0<=q) (h1:q < d.2.2.1.length):((sigC d c q).2.length:Int)=d.1:=by
 unfold sigC;rw [List.length_map];exact h.tab.rowlen h0 h1
theorem zuX (h:DOk 20000 mb d) {c:List Int} (hc:ClsOk d c) {q:Int} (h0:0<=q) (h1:q < d.2.2.1.length):∀ x∈(sigC d c q).2,0<=x/\x < 65536:=by
 intro x hx;unfold sigC at hx;obtain ⟨y,hy,rfl⟩:=List.mem_map.1 hx;have:=h.tab.to _ (zaX h0 h1) y hy;exact hc.b y this.1 (by rw [hc.len];exact this.2)
theorem zlK (h:DOk 20000 mb d) (c:List Int) {q a:Int} (h0:0<=q) (h1:q < d.2.2.1.length) (a0:0<=a) (a1:a < d.1):ix (sigC d c q).2 a=ix c (ix (ix d.2.2.1 q) a):=by
 have:=h.tab.rowlen h0 h1;unfold sigC;exact zuD _ a0 (by omega)
theorem zxo (h:DOk 20000 mb d) (c:List Int) {p q:Int} (p0:0<=p) (p1:p < d.2.2.1.length) (q0:0<=q) (q1:q < d.2.2.1.length):sigC d c p=sigC d c q↔ix c p=ix c q/\∀ a:Int,0<=a->a < d.1->ix c (ix (ix d.2.2.1 p) a)=ix c (ix (ix d.2.2.1 q) a):=by
 have l1:=zrK h c p0 p1;have l2:=zrK h c q0 q1;constructor
 ·intro e;refine ⟨congrArg Prod.fst e,fun a a0 a1 => ?_⟩
  rw [<- zlK h c p0 p1 a0 a1,<- zlK h c q0 q1 a0 a1,e]
 ·rintro ⟨e1,e2⟩;refine Prod.ext e1 (zqi (by omega) fun a a0 a1 => ?_)
  rw [zlK h c p0 p1 a0 (by omega),zlK h c q0 q1 a0 (by omega)]
  exact e2 a a0 (by omega)
def encK (k:Int×List Int):Int×List UInt8×Unit:=(k.1,keyB k.2,())
theorem zun {k l:Int×List Int} (hk:∀ x∈k.2,0<=x/\x < 65536) (hl:∀ x∈l.2,0<=x/\x < 65536) (e:encK k=encK l):k=l:=by
 unfold encK at e;injection e with e1 e2
 injection e2 with e2 e3
 exact Prod.ext e1 (zuE hk hl e2)
theorem zoo (h:DOk 20000 mb d) {c:List Int} (hc:ClsOk d c) {t:Nat} (ht:t < d.2.2.1.length) {number:List (Int×List UInt8×Unit)} {number_1 next':List Int} {r6}:
  za0 d c t number number_1 next' r6 0 []=if mhas number (encK (sigC d c t))=true then zaZ c t next' r6 (keyL (sigC d c t).2) number number_1
   else zaZ c t next' r6 (keyL (sigC d c t).2) (zkm number (encK (sigC d c t))) (zkn number number_1 (encK (sigC d c t)) (number.length:Int)):=by
 have hrl:=h.tab.rowlen (q:=(t:Int)) (by omega) (by omega)
 have hlt:=h.let1;have hcl:=hc.len;have key:∀ (n:Nat) (a:Int),((ix d.2.2.1 (t:Int)).length - a).toNat=n->0<=a->a<=(ix d.2.2.1 (t:Int)).length->
   za0 d c t number number_1 next' r6 a (keyL ((sigC d c t).2.take a.toNat))=za0 d c t number number_1 next' r6 (ix d.2.2.1 (t:Int)).length (keyL (sigC d c t).2):=by
  intro n
  induction n with
  | zero=>
   intro a hn a0 a1;obtain rfl:a=(ix d.2.2.1 (t:Int)).length:=by omega
   rw [List.take_of_length_le (by unfold sigC;rw [List.length_map];omega)]
  | succ n ih=>
   intro a hn a0 a1;have hst:=h.tab.stpb (q:=(t:Int)) (a:=a) (by omega) (by omega) a0 (by omega)
   unfold stp at hst;rw [<- ih (a+1) (by omega) (by omega) (by omega)]
   conv=>lhs;rw [zfG];unfold zbb
   have hk:=zx1 ((sigC d c t).2.take a.toNat);rw [List.length_take] at hk;have hsl:=zrK h c (q:=(t:Int)) (by omega) (by omega)
   rw [if_pos (by simp;omega)]
   refine G_to (by omega) (G_to (by omega) (G_to (by omega) (G_to (by omega) (G_to (by omega) (G_to (by omega) (G_to (by unfold room;simp;omega) (G_to (by unfold fits;omega) ?_)))))))
   congr 1
   rw [zoK a0 (by omega),zlK h c (q:=(t:Int)) (by omega) (by omega) a0 (by omega)]
   unfold keyL;rw [List.flatMap_append];rfl
 refine (key _ 0 rfl (by omega) (by omega)).trans ?_
 rw [zfG];unfold zbb;rw [if_neg (by simp)]
 refine G_to (by omega) (G_to (by omega) ?_)
 rw [show (ix c (t:Int),bstr (keyL (sigC d c t).2),())=encK (sigC d c t) from rfl];by_cases c1:mhas number (encK (sigC d c t))=true
 ·rw [if_neg (by simp [c1]),if_pos c1]
 ·rw [if_pos (by simpa using c1),if_neg c1]
theorem znq (h:DOk 20000 mb d) {c:List Int} (hc:ClsOk d c) {count:Int} {r3}:∀ (n t:Nat) (next':List Int),d.2.2.1.length - t=n->t<=d.2.2.1.length->next'.length=d.2.2.1.length->(∀ j:Int,0<=j->j < t->ix next' j=ix (rfC d c) j)->
  zby d count c r3 t ((ksC d c t).map encK) (iota (ksC d c t).length) next'=if ((ksC d c d.2.2.1.length).length:Int)=count then some (rfC d c) else r3 ((ksC d c d.2.2.1.length).length:Int) (rfC d c):=by
 have hn:=h.n1;intro n
 induction n with
 | zero=>
  intro t next' hn2 ht hl hj;obtain rfl:t=d.2.2.1.length:=by omega
  have:next'=rfC d c:=zqi (by rw [zrE];exact hl) fun j j0 j1=>hj j j0 (by omega)
  rw [zgq];unfold zbn;rw [if_neg (by simp),List.length_map,this]
  by_cases e:((ksC d c d.2.2.1.length).length:Int)=count
  ·rw [if_pos (decide_eq_true e),if_pos e]
  ·rw [if_neg (by simpa using e),if_neg e]
 | succ n ih=>
  intro t next' hn2 ht hl hj;rw [zgq];unfold zbn;rw [if_pos (by simp;omega)]
  refine G_to (by omega) ?_
  rw [zoo h hc (by omega)]
  have inj:∀ y∈ksC d c t,encK y=encK (sigC d c t)->y=sigC d c t:=fun y hy e=>by
   obtain ⟨q,hq,rfl⟩:=zsr c t y hy;exact zun (zuX h hc (by omega) (by omega)) (zuX h hc (by omega) (by omega)) e
  have hmem:encK (sigC d c t)∈(ksC d c t).map encK↔sigC d c t∈ksC d c t:=by
   rw [List.mem_map];exact ⟨fun ⟨y,hy,e⟩=>inj y hy e ▸ hy,fun hy=>⟨_,hy,rfl⟩⟩
  have hat:=zl6 (d:=d) c t (t+1) (by omega)
  have inj':∀ y∈ksC d c (t+1),encK y=encK (sigC d c t)->y=sigC d c t:=fun y hy e=>by
   obtain ⟨q,hq,rfl⟩:=zsr c (t+1) y hy;exact zun (zuX h hc (by omega) (by omega)) (zuX h hc (by omega) (by omega)) e
  have hget:mget ((ksC d c (t+1)).map encK) (iota (ksC d c (t+1)).length) (encK (sigC d c t)) 0=idxC d c t:=by
   have h1:za4 ((ksC d c (t+1)).map encK) (encK (sigC d c t))=some (idxC d c t):=by rw [zsx encK inj',hat]
   have:=zoW h1
   rwa [List.length_map] at this
  have fin:zaZ c t next' (zby d count c r3) (keyL (sigC d c t).2) ((ksC d c (t+1)).map encK) (iota (ksC d c (t+1)).length)=if ((ksC d c d.2.2.1.length).length:Int)=count then some (rfC d c) else r3 ((ksC d c d.2.2.1.length).length:Int) (rfC d c):=by
   unfold zaZ;refine G_to (by omega) (G_to (by omega) (G_to (by unfold fits;omega) ?_))
   rw [show (ix c (t:Int),bstr (keyL (sigC d c t).2),())=encK (sigC d c t) from rfl,hget];refine ih (t+1) _ (by omega) (by omega) (by rw [List.length_set];exact hl) (fun j j0 j1 => ?_)
   by_cases e:j=t
   ·subst e;rw [zal j0 (by omega),zsL c j0 (by omega)];simp
   ·rw [zak (by omega) j0 (Ne.symm e)];exact hj j j0 (by omega)
  by_cases e:sigC d c t∈ksC d c t
  ·rw [if_pos (znW.2 (hmem.2 e))];rw [zg9,if_pos e] at fin;exact fin
  ·have hne:=fun hh=>e (hmem.1 hh)
   rw [if_neg (fun hh=>hne (znW.1 hh)),zoY hne]
   have hv:=zma hne;rw [List.length_map] at hv;rw [List.length_map,hv];rw [zg9,if_neg e] at fin;rw [List.map_append] at fin;rw [List.length_append,List.length_map];rw [List.length_append] at fin;exact fin
end
section
variable {d:Dt}
def LEq (d:Dt) (q:Int) (e:Dt) (r:Int):Prop:=∀ w:List Int,(∀ a∈w,0<=a/\a < d.1)->ix d.2.2.2.1 (wlk d.2.2.1 q w)=ix e.2.2.2.1 (wlk e.2.2.1 r w)
theorem LEq.step {d e:Dt} {q r:Int} (h:LEq d q e r) {a:Int} (a0:0<=a) (a1:a < d.1):LEq d (ix (ix d.2.2.1 q) a) e (ix (ix e.2.2.1 r) a):=fun w hw=>h (a::w) (fun b hb=>(List.mem_cons.1 hb).elim (fun e=>by rw [e];exact ⟨a0,a1⟩) (hw b))
structure FinC (d:Dt) (C:List Int) (K:Nat):Prop where
 len:C.length=d.2.2.1.length
 le:K<=d.2.2.1.length
 b:∀ q:Int,0<=q->q < d.2.2.1.length->0<=ix C q/\ix C q < K
 sur:∀ v:Int,0<=v->v < K->∃ q:Int,0<=q/\q < d.2.2.1.length/\ix C q=v
 mark:∀ q r:Int,0<=q->q < d.2.2.1.length->0<=r->r < d.2.2.1.length->ix C q=ix C r->ix d.2.2.2.1 q=ix d.2.2.2.1 r
 stable:∀ q r:Int,0<=q->q < d.2.2.1.length->0<=r->r < d.2.2.1.length->ix C q=ix C r->∀ a:Int,0<=a->a < d.1->ix C (ix (ix d.2.2.1 q) a)=ix C (ix (ix d.2.2.1 r) a)
 coarse:∀ q r:Int,0<=q->q < d.2.2.1.length->0<=r->r < d.2.2.1.length->LEq d q d r->ix C q=ix C r
theorem zn4 {c:List Int} {q r:Int} (q0:0<=q) (q1:q < d.2.2.1.length) (r0:0<=r) (r1:r < d.2.2.1.length):ix (rfC d c) q=ix (rfC d c) r↔sigC d c q=sigC d c r:=by
 rw [zsL c q0 q1,zsL c r0 r1];have:=zxX (d:=d) c (q:=q.toNat) (r:=r.toNat);rw [Int.toNat_of_nonneg q0,Int.toNat_of_nonneg r0] at this;rw [<- this];exact ⟨fun e=>by exact_mod_cast e,fun e=>by rw [e]⟩
theorem zxZ {n:Nat} {v:Int}:v∈iota n↔0<=v/\v < n:=by
 unfold iota;rw [List.mem_map];constructor
 ·rintro ⟨j,hj,rfl⟩;have:=List.mem_range.1 hj;omega
 ·rintro ⟨h0,h1⟩;exact ⟨v.toNat,List.mem_range.2 (by omega),by omega⟩
theorem zqh (n:Nat):(iota n).Nodup:=by
 unfold iota;refine List.Pairwise.map _ (fun a b (h:a≠b)=>by omega) (List.nodup_range (n:=n))
theorem zr2 (h:DOk 20000 badM d):∀ (f k:Nat) (c:List Int),d.2.2.1.length - k=f->ClsOk d c->
  (∀ q r:Int,0<=q->q < d.2.2.1.length->0<=r->r < d.2.2.1.length->ix c q=ix c r->ix d.2.2.2.1 q=ix d.2.2.2.1 r)->(∀ v:Int,0<=v->v < k->∃ q:Int,0<=q/\q < d.2.2.1.length/\ix c q=v)->(∀ q r:Int,0<=q->q < d.2.2.1.length->0<=r->r < d.2.2.1.length->LEq d q d r->ix c q=ix c r)->
  ∃ C K,FinC d C K/\zcx d (k:Int) c=some C:=by
 have hn:=h.n1;intro f
 induction f using Nat.strongRecOn with
 | ind f ih=>
 intro k c hf hc hm hs hco;have hcl:=hc.len;have hK:=zyB (d:=d) c d.2.2.1.length;have hcov:∀ x∈iota k,x∈(ksC d c d.2.2.1.length).map Prod.fst:=fun x hx=>by
  obtain ⟨x0,x1⟩:=zxZ.1 hx;obtain ⟨q,q0,q1,e⟩:=hs x x0 x1;have:=zl7 (d:=d) c d.2.2.1.length q.toNat (by omega)
  rw [Int.toNat_of_nonneg q0] at this;exact List.mem_map.2 ⟨_,this,e⟩
 have hge:k<=(ksC d c d.2.2.1.length).length:=by
  have:=zqt (zqh k) hcov
  rwa [zuy,List.length_map] at this
 have hpos:0 < (ksC d c d.2.2.1.length).length:=List.length_pos_of_mem (zl7 (d:=d) c d.2.2.1.length 0 (by omega))
 have eP:zcx d (k:Int) c=if ((ksC d c d.2.2.1.length).length:Int)=k then some (rfC d c) else zcx d ((ksC d c d.2.2.1.length).length:Int) (rfC d c):=by
  conv=>lhs;rw [zlW];unfold zbW
  refine G_to (by unfold mkOK;omega) ?_
  exact znq h hc _ 0 _ rfl (by omega) (by simp;omega) (fun j j0 j1=>by omega)
 have b':∀ q:Int,0<=q->q < d.2.2.1.length->0<=ix (rfC d c) q/\ix (rfC d c) q < (ksC d c d.2.2.1.length).length:=fun q q0 q1=>by
  rw [zsL c q0 q1];have:=zzn (d:=d) c (q:=q.toNat) (t:=d.2.2.1.length) (by omega)
  omega
 have sur':∀ v:Int,0<=v->v < (ksC d c d.2.2.1.length).length->∃ q:Int,0<=q/\q < d.2.2.1.length/\ix (rfC d c) q=v:=fun v v0 v1=>by
  obtain ⟨q,hq,e⟩:=zxY (d:=d) c (t:=d.2.2.1.length) (j:=v.toNat) (by omega)
  refine ⟨q,by omega,by omega,?_⟩
  rw [zsL c (by omega) (by omega),Int.toNat_natCast,e];omega
 have m':∀ q r:Int,0<=q->q < d.2.2.1.length->0<=r->r < d.2.2.1.length->ix (rfC d c) q=ix (rfC d c) r->ix d.2.2.2.1 q=ix d.2.2.2.1 r:=fun q r q0 q1 r0 r1 e=>
  hm q r q0 q1 r0 r1 (congrArg Prod.fst ((zn4 q0 q1 r0 r1).1 e))
 have co':∀ q r:Int,0<=q->q < d.2.2.1.length->0<=r->r < d.2.2.1.length->LEq d q d r->ix (rfC d c) q=ix (rfC d c) r:=fun q r q0 q1 r0 r1 hq=>by
  refine (zn4 q0 q1 r0 r1).2 ((zxo h c q0 q1 r0 r1).2 ⟨hco q r q0 q1 r0 r1 hq,fun a a0 a1 => ?_⟩)
  have sq:=h.tab.stpb q0 q1 a0 a1;have sr:=h.tab.stpb r0 r1 a0 a1;exact hco _ _ sq.1 sq.2 sr.1 sr.2 (hq.step a0 a1)
 by_cases e:((ksC d c d.2.2.1.length).length:Int)=k
 ·rw [if_pos e] at eP;refine ⟨rfC d c,_,⟨zrE c,hK,b',sur',m',fun q r q0 q1 r0 r1 he a a0 a1 => ?_,co'⟩,eP⟩
  have hnd:((ksC d c d.2.2.1.length).map Prod.fst).Nodup:=zom (zqh k) hcov (by rw [List.length_map,zuy];omega)
  have tot:∀ x y:Int,0<=x->x < d.2.2.1.length->0<=y->y < d.2.2.1.length->ix c x=ix c y->ix (rfC d c) x=ix (rfC d c) y:=fun x y x0 x1 y0 y1 exy=>by
   rw [zn4 x0 x1 y0 y1];have hx:=zl7 (d:=d) c d.2.2.1.length x.toNat (by omega)
   have hy:=zl7 (d:=d) c d.2.2.1.length y.toNat (by omega)
   rw [Int.toNat_of_nonneg x0] at hx;rw [Int.toNat_of_nonneg y0] at hy;obtain ⟨i,hi,ei⟩:=List.mem_iff_getElem.1 hx;obtain ⟨j,hj,ej⟩:=List.mem_iff_getElem.1 hy;have key:∀ i j:Nat,(hi:i < (ksC d c d.2.2.1.length).length)->(hj:j < (ksC d c d.2.2.1.length).length)->i < j->(ksC d c d.2.2.1.length)[i].1≠(ksC d c d.2.2.1.length)[j].1:=fun i j hi hj hlt hh=>by
    have:=List.pairwise_iff_getElem.1 hnd i j (by rw [List.length_map];exact hi) (by rw [List.length_map];exact hj) hlt
    rw [List.getElem_map,List.getElem_map] at this;exact this hh
   have hfst:(ksC d c d.2.2.1.length)[i].1=(ksC d c d.2.2.1.length)[j].1:=by rw [ei,ej];exact exy
   have:i=j:=by
    rcases Nat.lt_trichotomy i j with hlt | rfl | hlt
    ·exact absurd hfst (key i j hi hj hlt)
    ·rfl
    ·exact absurd hfst.symm (key j i hj hi hlt)
   subst this;rw [<- ei,ej]
  have hsig:=(zxo h c q0 q1 r0 r1).1 ((zn4 q0 q1 r0 r1).1 he);have sq:=h.tab.stpb q0 q1 a0 a1;have sr:=h.tab.stpb r0 r1 a0 a1;unfold stp at sq sr;exact tot _ _ sq.1 sq.2 sr.1 sr.2 (hsig.2 a a0 a1)
 ·rw [if_neg e] at eP;rw [eP];have hlt:k < (ksC d c d.2.2.1.length).length:=by omega
  exact ih (d.2.2.1.length - (ksC d c d.2.2.1.length).length) (by omega) _ (rfC d c) rfl ⟨zrE c,fun q q0 q1=>by
   rw [zrE] at q1;have:=b' q q0 q1;omega⟩ m' sur' co'
theorem zr1 (h:DOk 20000 badM d):∃ C K,FinC d C K/\zg6 d=some C:=by
 have hn:=h.n1;have hmk:=h.mkl;have hc:ClsOk d d.2.2.2.1:=⟨by omega,fun q q0 q1=>by
  have:=h.mok _ (zaX q0 q1);omega⟩
 obtain ⟨C,K,h1,h2⟩:=zr2 h _ 0 d.2.2.2.1 rfl hc (fun q r _ _ _ _ e=>e) (fun v v0 v1=>by omega) (fun q r _ _ _ _ e=>e [] (fun a ha=>by cases ha))
 refine ⟨C,K,h1,?_⟩
 unfold zg6;exact zae (zgY (by omega)) h2
end
def xRow {α:Type} (nx:α->Int->α) (s:α) (l:List α):Nat->List α×List Int
 | 0=>(l,[])
 | t+1=>match za4 (xRow nx s l t).1 (nx s (t:Int)) with
  | some j=>((xRow nx s l t).1,(xRow nx s l t).2++[(j:Int)])
  | none=>((xRow nx s l t).1++[nx s (t:Int)],(xRow nx s l t).2++[((xRow nx s l t).1.length:Int)])
def xSt {α:Type} [Inhabited α] (nx:α->Int->α) (mk:α->Int) (L:Nat) (first:α):Nat->List α×List (List Int)×List Int
 | 0=>([first],[],[])
 | i+1=>((xRow nx (ix (xSt nx mk L first i).1 (i:Int)) (xSt nx mk L first i).1 L).1,(xSt nx mk L first i).2.1++[(xRow nx (ix (xSt nx mk L first i).1 (i:Int)) (xSt nx mk L first i).1 L).2],(xSt nx mk L first i).2.2++[mk (ix (xSt nx mk L first i).1 (i:Int))])
theorem zpJ {α:Type} {nx:α->Int->α} {s:α} {l:List α} {t j:Nat} (h:za4 (xRow nx s l t).1 (nx s (t:Int))=some j):xRow nx s l (t+1)=((xRow nx s l t).1,(xRow nx s l t).2++[(j:Int)]):=by
 rw [xRow,h]
theorem zpI {α:Type} {nx:α->Int->α} {s:α} {l:List α} {t:Nat} (h:za4 (xRow nx s l t).1 (nx s (t:Int))=none):xRow nx s l (t+1)=((xRow nx s l t).1++[nx s (t:Int)],(xRow nx s l t).2++[((xRow nx s l t).1.length:Int)]):=by
 rw [xRow,h]
section
variable {α:Type} [Inhabited α] {nx:α->Int->α} {mk:α->Int} {L:Nat} {first:α} {B:Nat} {P:α->Prop}
structure XOk {α:Type} (nx:α->Int->α) (mk:α->Int) (L:Nat) (first:α) (B:Nat) (P:α->Prop):Prop where
 b:∀ l:List α,l.Nodup->(∀ x∈l,P x)->l.length<=B
 f:P first
 n:∀ s,P s->∀ t:Int,0<=t->t < L->P (nx s t)
 m:∀ s,P s->0<=mk s/\mk s<=9
theorem XOk.int {nx:Int->Int->Int} {mk:Int->Int} {L:Nat} {first:Int} {B:Nat} {P:Int->Prop} (b:∀ s,P s->0<=s/\s < B) (f:P first) (n:∀ s,P s->∀ t:Int,0<=t->t < L->P (nx s t)) (m:∀ s,P s->0<=mk s/\mk s<=9):XOk nx mk L first B P:=
 ⟨fun l hn hp=>zmd hn (fun x hx=>b x (hp x hx)),f,n,m⟩
structure LiOk {α:Type} (B:Nat) (P:α->Prop) (l:List α):Prop where
 nd:l.Nodup
 p:∀ x∈l,P x
theorem LiOk.len (h:XOk nx mk L first B P) {l:List α} (k:LiOk B P l):l.length<=B:=h.b l k.nd k.p
structure XR {α:Type} [Inhabited α] (nx:α->Int->α) (s:α) (l:List α) (t:Nat) (r:List α×List Int):Prop where
 pre:∃ x,r.1=l++x
 len:r.2.length=t
 to:∀ a:Int,0<=a->a < t->0<=ix r.2 a/\ix r.2 a < r.1.length/\ix r.1 (ix r.2 a)=nx s a
theorem zx6 {l:List α} {x:α} {j:Nat} (h:za4 l x=some j):(j:Int) < l.length/\ix l (j:Int)=x:=by
 have h1:=zhb h;have h2:=ze7 h;refine ⟨by omega,?_⟩
 rw [List.getElem?_eq_getElem h1] at h2;rw [zkl (l:=l) (by omega) (by omega)]
 simpa using h2
theorem zrO (h:XOk nx mk L first B P) {s:α} (hs:P s) {l:List α} (hl:LiOk B P l):∀ t:Nat,t<=L->LiOk B P (xRow nx s l t).1/\XR nx s l t (xRow nx s l t)
 | 0,_=>⟨hl,⟨[],by simp [xRow]⟩,rfl,fun a a0 a1=>by omega⟩
 | t+1,ht=>by
  obtain ⟨h1,⟨⟨x,hx⟩,h2,h3⟩⟩:=zrO h hs hl t (by omega)
  have hp:=h.n s hs (t:Int) (by omega) (by omega)
  unfold xRow
  cases e:za4 (xRow nx s l t).1 (nx s (t:Int)) with
  | some j=>
   obtain ⟨j1,j2⟩:=zx6 e;refine ⟨h1,⟨⟨x,hx⟩,by simp [h2],fun a a0 a1 => ?_⟩⟩
   show 0<=ix ((xRow nx s l t).2++[(j:Int)]) a/\_;by_cases c:a < t
   ·rw [zav a0 (by omega)];exact h3 a a0 c
   ·obtain rfl:a=((xRow nx s l t).2.length:Int):=by omega
    rw [zaL];refine ⟨by omega,j1,?_⟩
    show ix (xRow nx s l t).1 (j:Int)=_;rw [j2,h2]
  | none=>
   have hn:=zbX.1 e;refine ⟨⟨?_,fun y hy=>(List.mem_append.1 hy).elim (h1.p y) (fun e2=>by rw [List.mem_singleton.1 e2];exact hp)⟩,⟨⟨x++[nx s (t:Int)],by show (xRow nx s l t).1++_=_;rw [hx,List.append_assoc]⟩,by simp [h2],fun a a0 a1 => ?_⟩⟩
   ·show ((xRow nx s l t).1++[nx s (t:Int)]).Nodup;rw [List.nodup_append];exact ⟨h1.nd,by simp,fun u hu v hv=>by rw [List.mem_singleton.1 hv];rintro rfl;exact hn hu⟩
   ·show 0<=ix ((xRow nx s l t).2++[((xRow nx s l t).1.length:Int)]) a/\ix ((xRow nx s l t).2++[((xRow nx s l t).1.length:Int)]) a < (((xRow nx s l t).1++[nx s (t:Int)]).length:Int)/\ix ((xRow nx s l t).1++[nx s (t:Int)]) (ix ((xRow nx s l t).2++[((xRow nx s l t).1.length:Int)]) a)=nx s a;rw [List.length_append,List.length_singleton];by_cases c:a < t
    ·obtain ⟨g1,g2,g3⟩:=h3 a a0 c;rw [zav a0 (by omega),zav g1 g2]
     exact ⟨g1,by omega,g3⟩
    ·obtain rfl:a=((xRow nx s l t).2.length:Int):=by omega
     rw [zaL,zaL,h2];exact ⟨by omega,by omega,rfl⟩
structure XS {α:Type} [Inhabited α] (nx:α->Int->α) (mk:α->Int) (L:Nat) (first:α) (i:Nat) (x:List α×List (List Int)×List Int):Prop where
 z:ix x.1 0=first
 r:x.2.1.length=i
 m:x.2.2.length=i
 row:∀ k:Int,0<=k->k < i->(ix x.2.1 k).length=L/\∀ a:Int,0<=a->a < L->0<=ix (ix x.2.1 k) a/\ix (ix x.2.1 k) a < x.1.length/\ix x.1 (ix (ix x.2.1 k) a)=nx (ix x.1 k) a
 mark:∀ k:Int,0<=k->k < i->ix x.2.2 k=mk (ix x.1 k)
def XGo {α:Type} [Inhabited α] (nx:α->Int->α) (mk:α->Int) (L:Nat) (first:α) (i:Nat):Prop:=∀ k < i,k < (xSt nx mk L first k).1.length
theorem zka (h:XOk nx mk L first B P):∀ i:Nat,XGo nx mk L first i->LiOk B P (xSt nx mk L first i).1/\i<=(xSt nx mk L first i).1.length/\XS nx mk L first i (xSt nx mk L first i)
 | 0,_=>⟨⟨by simp [xSt],fun x hx=>by
   have:x=first:=by simpa [xSt] using hx
   rw [this];exact h.f⟩,by omega,rfl,rfl,rfl,fun k k0 k1=>by omega,fun k k0 k1=>by omega⟩
 | i+1,hg=>by
  obtain ⟨h1,h2,h3⟩:=zka h i (fun k hk=>hg k (by omega))
  have hi:=hg i (by omega)
  have hP:=h1.p _ (zaX (by omega) (by omega:(i:Int) < (xSt nx mk L first i).1.length))
  obtain ⟨g1,⟨⟨x,hx⟩,g2,g3⟩⟩:=zrO h hP h1 L (Nat.le_refl _);unfold xSt;generalize hX:xSt nx mk L first i=X at *
  generalize hR:xRow nx (ix X.1 (i:Int)) X.1 L=R at *
  have pre:∀ k:Int,0<=k->k < X.1.length->ix R.1 k=ix X.1 k:=fun k k0 k1=>by rw [hx,zav k0 k1]
  have lenR:X.1.length<=R.1.length:=by rw [hx,List.length_append];omega
  refine ⟨g1,by show i+1<=R.1.length;omega,?_,by simp [h3.r],by simp [h3.m],fun k k0 k1 => ?_,fun k k0 k1 => ?_⟩
  ·show ix R.1 0=first;rw [pre 0 (by omega) (by omega)];exact h3.z
  ·show (ix (X.2.1++[R.2]) k).length=L/\∀ a:Int,0<=a->a < L->0<=ix (ix (X.2.1++[R.2]) k) a/\ix (ix (X.2.1++[R.2]) k) a < R.1.length/\ix R.1 (ix (ix (X.2.1++[R.2]) k) a)=nx (ix R.1 k) a;have hr:=h3.r;by_cases c:k < i
   ·obtain ⟨r1,r2⟩:=h3.row k k0 c;rw [zav k0 (by omega),pre k k0 (by omega)]
    refine ⟨r1,fun a a0 a1 => ?_⟩
    obtain ⟨s1,s2,s3⟩:=r2 a a0 a1;rw [pre _ s1 s2];exact ⟨s1,by omega,s3⟩
   ·have hk:k=(X.2.1.length:Int):=by omega
    rw [hk,zaL,hr,pre (i:Int) (by omega) (by omega)]
    exact ⟨g2,fun a a0 a1=>g3 a a0 a1⟩
  ·show ix (X.2.2++[mk (ix X.1 (i:Int))]) k=mk (ix R.1 k);have hm:=h3.m;rw [pre k k0 (by omega)]
   by_cases c:k < i
   ·rw [zav k0 (by omega)];exact h3.mark k k0 c
   ·have hk:k=(X.2.2.length:Int):=by omega
    rw [hk,zaL,hm]
theorem zxz (h:XOk nx mk L first B P):∃ n,n<=B/\XGo nx mk L first n/\(xSt nx mk L first n).1.length=n:=by
 have key:∀ f i:Nat,B - i=f->XGo nx mk L first i->∃ n,n<=B/\XGo nx mk L first n/\(xSt nx mk L first n).1.length=n:=by
  intro f
  induction f with
  | zero=>
   intro i hf hg;obtain ⟨h1,h2,_⟩:=zka h i hg;have:=h1.len h;exact ⟨i,by omega,hg,by omega⟩
  | succ f ih=>
   intro i hf hg;obtain ⟨h1,h2,_⟩:=zka h i hg;have:=h1.len h;by_cases c:(xSt nx mk L first i).1.length=i
   ·exact ⟨i,by omega,hg,c⟩
   ·refine ih (i+1) (by omega) (fun k hk => ?_)
    by_cases e:k=i
    ·subst e;omega
    ·exact hg k (by omega)
 exact key _ 0 rfl (fun k hk=>by omega)
def xAut {α:Type} [Inhabited α] (nx:α->Int->α) (mk:α->Int) (L:Nat) (first:α) (n:Nat):Dt:=((L:Int),0,(xSt nx mk L first n).2.1,(xSt nx mk L first n).2.2,())
theorem zxy (h:XOk nx mk L first B P) (hL:1<=L/\L<=4) (hB:B<=20000) {n:Nat} (hg:XGo nx mk L first n) (hn:(xSt nx mk L first n).1.length=n):DOk 20000 badM (xAut nx mk L first n):=by
 obtain ⟨h1,h2,h3⟩:=zka h n hg;have hb:=h1.len h;have hr:=h3.r;have hm:=h3.m;have hpos:0 < n:=by
  refine Nat.pos_of_ne_zero fun e => ?_
  subst e;simp [xSt] at hn
 refine ⟨by show 1<=(L:Int)/\(L:Int)<=4;omega,?_,?_,?_,fun s hs => ?_,⟨fun r hr2 => ?_,fun r hr2 q hq => ?_⟩⟩
 ·show 1<=(xSt nx mk L first n).2.1.length/\((xSt nx mk L first n).2.1.length:Int)<=20000;omega
 ·show (0:Int)<=0/\(0:Int) < ((xSt nx mk L first n).2.1.length:Int);omega
 ·show ((xSt nx mk L first n).2.2.length:Int)=((xSt nx mk L first n).2.1.length:Int);omega
 ·obtain ⟨k,k0,k1,rfl⟩:=(zdX (P:=fun x=>x=s)).1 ⟨s,hs,rfl⟩
  have hk:k < n:=by
   have:k < ((xSt nx mk L first n).2.2.length:Int):=k1;omega
  have e:ix (xAut nx mk L first n).2.2.2.1 k=mk (ix (xSt nx mk L first n).1 k):=h3.mark k k0 hk;rw [e];have:=h.m _ (h1.p _ (zaX k0 (by omega)))
  omega
 ·obtain ⟨k,k0,k1,rfl⟩:=(zdX (P:=fun x=>x=r)).1 ⟨r,hr2,rfl⟩
  have hk:k < n:=by
   have:k < ((xSt nx mk L first n).2.1.length:Int):=k1;omega
  have:=(h3.row k k0 hk).1;show ((ix (xSt nx mk L first n).2.1 k).length:Int)=(L:Int);omega
 ·obtain ⟨k,k0,k1,rfl⟩:=(zdX (P:=fun x=>x=r)).1 ⟨r,hr2,rfl⟩
  have hk:k < n:=by
   have:k < ((xSt nx mk L first n).2.1.length:Int):=k1;omega
  obtain ⟨r1,r2⟩:=h3.row k k0 hk;obtain ⟨a,a0,a1,rfl⟩:=(zdX (P:=fun x=>x=q)).1 ⟨q,hq,rfl⟩
  have ha:a < (L:Int):=by
   have:a < ((ix (xSt nx mk L first n).2.1 k).length:Int):=a1;omega
  obtain ⟨s1,s2,s3⟩:=r2 a a0 ha;show 0<=ix (ix (xSt nx mk L first n).2.1 k) a/\ix (ix (xSt nx mk L first n).2.1 k) a < ((xSt nx mk L first n).2.1.length:Int);omega
theorem zpH (h:XOk nx mk L first B P) {n:Nat} (hg:XGo nx mk L first n) (hn:(xSt nx mk L first n).1.length=n):∀ (w:List Int) (q:Int),0<=q->q < n->(∀ a∈w,0<=a/\a < (L:Int))->
  0<=wlk (xAut nx mk L first n).2.2.1 q w/\wlk (xAut nx mk L first n).2.2.1 q w < n/\ix (xSt nx mk L first n).1 (wlk (xAut nx mk L first n).2.2.1 q w)=w.foldl nx (ix (xSt nx mk L first n).1 q)
 | [],q,q0,q1,_=>⟨q0,q1,rfl⟩
 | a::w,q,q0,q1,hw=>by
  obtain ⟨_,_,h3⟩:=zka h n hg;have ha:=hw a (by simp)
  obtain ⟨s1,s2,s3⟩:=(h3.row q q0 q1).2 a ha.1 ha.2;have:=zpH h hg hn w (ix (ix (xSt nx mk L first n).2.1 q) a) s1 (by omega) (fun b hb=>hw b (by simp [hb]))
  rw [s3] at this;exact this
end
section
variable {d:Dt}
structure RowOk (d:Dt) (C Q:List Int) (i:Int) (row:List Int):Prop where
 len:(row.length:Int)=d.1
 to:∀ a:Int,0<=a->a < d.1->0<=ix row a/\ix row a < Q.length/\ix C (ix Q (ix row a))=ix C (ix (ix d.2.2.1 (ix Q i)) a)
structure QOk (d:Dt) (C Q:List Int):Prop where
 b:∀ q:Int,q∈Q->0<=q/\q < d.2.2.1.length
 nd:(Q.map (ix C)).Nodup
 z:0 < Q.length/\ix Q 0=d.2.1
structure PartOk (d:Dt) (C Q:List Int) (D2:List (List Int)) (D3:List Int):Prop where
 q:QOk d C Q
 l2:D2.length<=Q.length
 l3:D3.length=D2.length
 row:∀ i:Int,0<=i->i < D2.length->RowOk d C Q i (ix D2 i)
 mark:∀ i:Int,0<=i->i < D2.length->ix D3 i=ix d.2.2.2.1 (ix Q i)
theorem QOk.le {C Q:List Int} {K:Nat} (hC:FinC d C K) (h:QOk d C Q):Q.length<=K:=by
 have:=zmd (n:=K) h.nd (fun v hv=>by
  obtain ⟨q,hq,rfl⟩:=List.mem_map.1 hv;have:=h.b q hq;exact hC.b q this.1 this.2)
 rwa [List.length_map] at this
theorem RowOk.ext {C Q:List Int} {i:Int} {row:List Int} (h:RowOk d C Q i row) (i0:0<=i) (i1:i < Q.length) (x:List Int):RowOk d C (Q++x) i row:=
 ⟨h.len,fun a a0 a1=>by
  obtain ⟨h1,h2,h3⟩:=h.to a a0 a1;rw [zav h1 h2,zav i0 i1];exact ⟨h1,by rw [List.length_append];omega,h3⟩⟩
structure OfOk (d:Dt) (C l:List Int) (K:Nat):Prop where
 len:l.length=d.2.2.1.length
 b:∀ v:Int,0<=v->v < K->0<=ix l v/\ix l v < d.2.2.1.length/\ix C (ix l v)=v
def nxC (d:Dt) (C l:List Int) (v a:Int):Int:=ix C (ix (ix d.2.2.1 (ix l v)) a)
def mkC (d:Dt) (l:List Int) (v:Int):Int:=ix d.2.2.2.1 (ix l v)
structure LeastOk (d o:Dt) (C Q:List Int) (K:Nat):Prop where
 fin:FinC d C K
 part:PartOk d C Q o.2.2.1 o.2.2.2.1
 all:o.2.2.1.length=Q.length
 let1:o.1=d.1
 st:o.2.1=0
 by1:∃ (l:List Int) (n:Nat),OfOk d C l K/\XGo (nxC d C l) (mkC d l) d.1.toNat (ix C d.2.1) n/\(xSt (nxC d C l) (mkC d l) d.1.toNat (ix C d.2.1) n).1.length=n/\o=xAut (nxC d C l) (mkC d l) d.1.toNat (ix C d.2.1) n
def zvO (d:Dt) (C Q NA:List Int):Prop:=NA.length=d.2.2.1.length/\∀ v:Int,0<=v->v < d.2.2.1.length->ix NA v=match za4 (Q.map (ix C)) v with
 | some j=>(j:Int)
 | none => -1
theorem zlM {row:List Int} {t:Nat} {v:Int} (h:t < row.length):(row.set t v).take (t+1)=row.take t++[v]:=by
 rw [List.take_add_one,List.take_set_of_le (Nat.le_refl _),List.getElem?_set_self h];rfl
theorem zrj (h:DOk 20000 badM d) {C l Q0:List Int} {K:Nat} (hC:FinC d C K) (hl:OfOk d C l K) {L0:List Int} {D2:List (List Int)} {D3:List Int} {r4} {lk:List Int} {i:Int} (hi:i=D2.length) (eL:ix L0 i=ix C (ix Q0 i)):
  ∀ (f:Nat) (t:Int) (Q NA row:List Int),(d.1 - t).toNat=f->0<=t->t<=d.1->PartOk d C Q D2 D3->i < Q.length->ix Q i=ix Q0 i->zvO d C Q NA->(row.length:Int)=d.1->
   (∀ a:Int,0<=a->a < t->0<=ix row a/\ix row a < Q.length/\ix C (ix Q (ix row a))=ix C (ix (ix d.2.2.1 (ix Q i)) a))->xRow (nxC d C l) (ix C (ix Q0 i)) lk t.toNat=(Q.map (ix C),row.take t.toNat)->
  ∃ x NA' row',xRow (nxC d C l) (ix C (ix Q0 i)) lk d.1.toNat=((Q++x).map (ix C),row')/\PartOk d C (Q++x) (D2++[row']) (D3++[ix d.2.2.2.1 (ix Q i)])/\zvO d C (Q++x) NA'/\
   zaK d.1 C d l d l ((C.length:Int)+1) d.1 0 L0 D2 D3 r4 t (Q.map (ix C)) (iota (Q.map (ix C)).length) (Q.map (ix C)) row=r4 d.1 0 ((Q++x).map (ix C)) (iota ((Q++x).map (ix C)).length) ((Q++x).map (ix C)) (D2++[row']) (D3++[ix d.2.2.2.1 (ix Q i)]):=by
 have hn:=h.n1;have hlt:=h.let1;have hmk:=h.mkl;have hcl:=hC.len;have hK:=hC.le;intro f
 induction f with
 | zero=>
  intro t Q NA row hf t0 t1 hP hiQ eQ hN hrl hrow hxr;obtain rfl:t=d.1:=by omega
  have hQK:=hP.q.le hC;have hq:=hP.q.b _ (zaX (by omega) hiQ)
  have hv:=hC.b _ hq.1 hq.2;obtain ⟨o1,o2,o3⟩:=hl.b _ hv.1 hv.2;have hl3:=hP.l3;have hll:=hl.len;have hmark:ix d.2.2.2.1 (ix l (ix C (ix Q i)))=ix d.2.2.2.1 (ix Q i):=hC.mark _ _ o1 o2 hq.1 hq.2 o3;refine ⟨[],NA,row,by rw [hxr,List.append_nil,List.take_of_length_le (by omega)],⟨by simpa using hP.q,by rw [List.length_append,List.length_append,List.length_singleton];omega,by rw [List.length_append,List.length_append,List.length_singleton,List.length_singleton];omega,fun j j0 j1 => ?_,fun j j0 j1 => ?_⟩,by simpa using hN,?_⟩
  ·rw [List.length_append,List.length_singleton] at j1;rw [List.append_nil];by_cases e:j < D2.length
   ·rw [zav j0 e];exact hP.row j j0 e
   ·obtain rfl:j=D2.length:=by omega
    rw [zaL,<- hi];exact ⟨hrl,hrow⟩
  ·rw [List.length_append,List.length_singleton] at j1;rw [List.append_nil];by_cases e:j < D2.length
   ·rw [zav j0 (by omega)];exact hP.mark j j0 e
   ·have e1:j=D3.length:=by omega
    have e2:j=i:=by omega
    rw [e1,zaL,<- e1,e2]
  ·rw [ze2];unfold za1 zfY;rw [if_neg (by simp),<- hi,eL,<- eQ,List.append_nil]
   refine G_to (by unfold room;simp;have:=hP.l2;omega) ?_
   refine zae (y:=ix d.2.2.2.1 (ix Q i)) ?_ ?_
   ·rw [<- hmark];exact G_to (by omega) (G_to (by omega) rfl)
   ·exact G_to (by unfold room;simp;have:=hP.l2;omega) rfl
 | succ f ih=>
  intro t Q NA row hf t0 t1 hP hiQ eQ hN hrl hrow hxr;have hQK:=hP.q.le hC;have hq:=hP.q.b _ (zaX (by omega) hiQ)
  have hv:=hC.b _ hq.1 hq.2;obtain ⟨o1,o2,o3⟩:=hl.b _ hv.1 hv.2;have hll:=hl.len;have hr1:=h.tab.rowlen hq.1 hq.2;have hr2:=h.tab.rowlen o1 o2;have hx:=h.tab.stpb hq.1 hq.2 t0 (by omega)
  have hy:=h.tab.stpb o1 o2 t0 (by omega)
  unfold stp at hx hy;have hst:=hC.stable _ _ o1 o2 hq.1 hq.2 o3 t t0 (by omega)
  have hw:=hC.b _ hx.1 hx.2;have hNx:=hN.2 _ hw.1 (by omega:_ < (d.2.2.1.length:Int))
  have hNl:=hN.1;obtain ⟨x,hxd⟩:∃ x,x=ix (ix d.2.2.1 (ix Q i)) t:=⟨_,rfl⟩;rw [<- hxd] at hx hst hw hNx;have hnx:nxC d C l (ix C (ix Q0 i)) (t.toNat:Int)=ix C x:=by
   unfold nxC;rw [<- eQ,Int.toNat_of_nonneg t0];exact hst
  have s1:zec (ix L0 (D2.length:Int)) t C d l=some (ix C x):=by
   unfold zec;rw [<- hi,eL,<- eQ,<- hst];exact G_to (by omega) (G_to (by omega) (G_to (by omega) (G_to (by omega) rfl)))
  have hP1:zaK d.1 C d l d l ((C.length:Int)+1) d.1 0 L0 D2 D3 r4 t (Q.map (ix C)) (iota (Q.map (ix C)).length) (Q.map (ix C)) row=
    if ix C x∈Q.map (ix C) then zaK d.1 C d l d l ((C.length:Int)+1) d.1 0 L0 D2 D3 r4 (t+1) (Q.map (ix C)) (iota (Q.map (ix C)).length) (Q.map (ix C)) (row.set t.toNat (mget (Q.map (ix C)) (iota (Q.map (ix C)).length) (ix C x) 0))
    else zaK d.1 C d l d l ((C.length:Int)+1) d.1 0 L0 D2 D3 r4 (t+1) ((Q++[x]).map (ix C)) (iota ((Q++[x]).map (ix C)).length) ((Q++[x]).map (ix C)) (row.set t.toNat (Q.length:Int)):=by
   conv=>lhs;rw [ze2];unfold za1
   rw [if_pos (by simp;omega)]
   refine zae s1 ?_
   unfold zbM;by_cases c:ix C x∈Q.map (ix C)
   ·rw [if_neg (by rw [znW.2 c];simp),if_pos c]
    exact G_to (by omega) (G_to (by omega) (G_to (by unfold fits;omega) rfl))
   ·have hh:mhas (Q.map (ix C)) (ix C x)=false:=by
     cases e:mhas (Q.map (ix C)) (ix C x) with
     | false=>rfl
     | true=>exact absurd (znW.1 e) c
    rw [if_pos (by rw [hh];rfl),if_neg c,if_neg (by rw [decide_eq_true_iff,List.length_map];omega),zoY c,zma c,List.map_append,List.map_singleton,List.length_map]
    exact G_to (by unfold room;simp;omega) (G_to (by omega) (G_to (by omega) (G_to (by unfold fits;omega) rfl)))
  rw [hP1];have rowstep:∀ (Q':List Int) (v:Int),(∀ j:Int,0<=j->j < Q.length->ix Q' j=ix Q j)->Q.length<=Q'.length->0<=v->v < Q'.length->ix C (ix Q' v)=ix C x->
    ∀ a:Int,0<=a->a < t+1->0<=ix (row.set t.toNat v) a/\ix (row.set t.toNat v) a < Q'.length/\ix C (ix Q' (ix (row.set t.toNat v) a))=ix C (ix (ix d.2.2.1 (ix Q' i)) a):=fun Q' v hQ' hle v0 v1 hv' a a0 a1=>by
   by_cases e:a=t
   ·subst e;rw [zal a0 (by omega),hQ' i (by omega) hiQ,<- hxd];exact ⟨v0,v1,hv'⟩
   ·obtain ⟨h1,h2,h3⟩:=hrow a a0 (by omega)
    rw [zak t0 a0 (Ne.symm e),hQ' _ h1 h2,hQ' i (by omega) hiQ]
    exact ⟨h1,by omega,h3⟩
  by_cases c:ix C x∈Q.map (ix C)
  ·obtain ⟨j,hj⟩:=zsy c;have hjl:=zhb hj;rw [List.length_map] at hjl;have hjx:ix C (ix Q j)=ix C x:=by
    have:=ze7 hj;rw [List.getElem?_map,List.getElem?_eq_getElem hjl,Option.map_some] at this;have e2:ix Q (j:Int)=Q[j]:=by rw [zkl (l:=Q) (by omega) (by omega)];simp
    rw [e2];exact Option.some.inj this
   rw [hj] at hNx;have hNx:ix NA (ix C x)=(j:Int):=hNx;rw [if_pos c,zoW hj];refine ih (t+1) Q NA _ (by omega) (by omega) (by omega) hP hiQ eQ hN (by rw [List.length_set];exact hrl) (rowstep Q j (fun _ _ _=>rfl) (Nat.le_refl _) (by omega) (by omega) hjx) ?_
   rw [show (t+1).toNat=t.toNat+1 by omega,zpJ (j:=j) (by rw [hxr,hnx];exact hj),hxr,zlM (by omega)]
  ·rw [zbX.2 c] at hNx;have hNx:ix NA (ix C x) = -1:=hNx;rw [if_neg c];have hQ':∀ j:Int,0<=j->j < Q.length->ix (Q++[x]) j=ix Q j:=fun j j0 j1=>zav j0 j1
   have hP':PartOk d C (Q++[x]) D2 D3:=by
    refine ⟨⟨fun q hq=>(List.mem_append.1 hq).elim (hP.q.b q) (fun e=>by rw [List.mem_singleton.1 e];exact hx),?_,?_⟩,by rw [List.length_append];have:=hP.l2;omega,hP.l3,fun j j0 j1 => ?_,fun j j0 j1 => ?_⟩
    ·rw [List.map_append,List.nodup_append];exact ⟨hP.q.nd,by simp,fun u hu w hw=>by rw [List.map_singleton,List.mem_singleton] at hw;rw [hw];rintro rfl;exact c hu⟩
    ·have:=hP.q.z;exact ⟨by simp,by rw [hQ' 0 (by omega) (by omega)];exact this.2⟩
    ·exact (hP.row j j0 j1).ext j0 (by have:=hP.l2;omega) _
    ·rw [hQ' j j0 (by have:=hP.l2;omega)];exact hP.mark j j0 j1
   have hN':zvO d C (Q++[x]) (NA.set (ix C x).toNat (Q.length:Int)):=by
    refine ⟨by rw [List.length_set];exact hN.1,fun v v0 v1 => ?_⟩
    rw [List.map_append,List.map_singleton];by_cases e:v=ix C x
    ·subst e;rw [zal v0 (by omega),zsz c]
     simp
    ·rw [zak hw.1 v0 (Ne.symm e),hN.2 v v0 v1]
     cases hm:za4 (Q.map (ix C)) v with
     | some j=>rw [zoV _ hm]
     | none=>
      rw [zbX.2 (fun hh=>by
       rcases List.mem_append.1 hh with hh | hh
       ·exact zbX.1 hm hh
       ·exact e (List.mem_singleton.1 hh))]
   obtain ⟨y,NA',row',z0,z1,z2,z3⟩:=ih (t+1) (Q++[x]) _ (row.set t.toNat (Q.length:Int)) (by omega) (by omega) (by omega) hP' (by rw [List.length_append];omega) (by rw [hQ' i (by omega) hiQ];exact eQ) hN' (by rw [List.length_set];exact hrl)
    (rowstep (Q++[x]) (Q.length:Int) hQ' (by rw [List.length_append];omega) (by omega) (by rw [List.length_append,List.length_singleton];omega) (by rw [zaL])) (by rw [show (t+1).toNat=t.toNat+1 by omega,zpI (by rw [hxr,hnx];exact zbX.2 c),hxr,hnx,zlM (by omega),List.length_map,List.map_append,List.map_singleton])
   rw [hQ' i (by omega) hiQ] at z1 z3
   rw [List.append_assoc] at z0 z1 z2 z3;exact ⟨_,NA',row',z0,z1,z2,z3⟩
theorem zvv (h:DOk 20000 badM d) {C l:List Int} {K:Nat} (hC:FinC d C K) (hl:OfOk d C l K):∀ (f:Nat) (Q NA:List Int) (D2:List (List Int)) (D3:List Int),20000 - D2.length=f->PartOk d C Q D2 D3->zvO d C Q NA->XGo (nxC d C l) (mkC d l) d.1.toNat (ix C d.2.1) D2.length->xSt (nxC d C l) (mkC d l) d.1.toNat (ix C d.2.1) D2.length=(Q.map (ix C),D2,D3)->
  ∃ o Q',LeastOk d o C Q' K/\zcu d.1 C d l d l ((C.length:Int)+1) d.1 0 (Q.map (ix C)) (iota (Q.map (ix C)).length) (Q.map (ix C)) D2 D3=some (o,true):=by
 have hn:=h.n1;have hlt:=h.let1;intro f
 induction f using Nat.strongRecOn with
 | ind f ih=>
 intro Q NA D2 D3 hf hP hN hgo hxs;have hQK:=hP.q.le hC;have hK:=hC.le;rw [zkg];unfold zbl;by_cases e:D2.length < Q.length
 ·have e1:ix (Q.map (ix C)) (D2.length:Int)=ix C (ix Q (D2.length:Int)):=zuD _ (by omega) (by omega)
  obtain ⟨x,NA',row',z0,z1,z2,z3⟩:=zrj (lk:=Q.map (ix C)) (r4:=zcu d.1 C d l d l ((C.length:Int)+1)) h hC hl (L0:=Q.map (ix C)) (Q0:=Q) (D2:=D2) (D3:=D3) rfl e1 _ 0 Q NA (List.replicate d.1.toNat 0) rfl (by omega) (by omega) hP (by omega) rfl hN (by rw [List.length_replicate];omega) (fun a a0 a1=>by omega) (by simp [xRow])
  have hq:=hP.q.b _ (zaX (by omega) (by omega:(D2.length:Int) < Q.length))
  have hv:=hC.b _ hq.1 hq.2;obtain ⟨o1,o2,o3⟩:=hl.b _ hv.1 hv.2;have hmark:mkC d l (ix C (ix Q (D2.length:Int)))=ix d.2.2.2.1 (ix Q (D2.length:Int)):=hC.mark _ _ o1 o2 hq.1 hq.2 o3;have hgo':XGo (nxC d C l) (mkC d l) d.1.toNat (ix C d.2.1) (D2++[row']).length:=fun k hk=>by
   rw [List.length_append,List.length_singleton] at hk;by_cases c:k < D2.length
   ·exact hgo k c
   ·obtain rfl:k=D2.length:=by omega
    rw [hxs,List.length_map];exact e
  have hxs':xSt (nxC d C l) (mkC d l) d.1.toNat (ix C d.2.1) (D2++[row']).length=((Q++x).map (ix C),D2++[row'],D3++[ix d.2.2.2.1 (ix Q (D2.length:Int))]):=by
   rw [List.length_append,List.length_singleton,xSt,hxs];show ((xRow _ (ix (Q.map (ix C)) (D2.length:Int)) (Q.map (ix C)) d.1.toNat).1,D2++[(xRow _ (ix (Q.map (ix C)) (D2.length:Int)) (Q.map (ix C)) d.1.toNat).2],D3++[mkC d l (ix (Q.map (ix C)) (D2.length:Int))])=_;rw [e1,z0,hmark]
  obtain ⟨o,Q',w1,w2⟩:=ih (20000 - (D2++[row']).length) (by rw [List.length_append,List.length_singleton];have:=z1.q.le hC;have:=z1.l2;rw [List.length_append,List.length_singleton] at this;omega) (Q++x) NA' (D2++[row']) _ rfl z1 z2 hgo' hxs'
  refine ⟨o,Q',w1,?_⟩
  rw [if_pos (by simp;omega)]
  exact G_to (by rw [List.length_map];omega) (G_to (by rw [List.length_map];omega) (G_to (by unfold mkOK;omega) (z3.trans w2)))
 ·refine ⟨(d.1,0,D2,D3,()),Q,⟨hC,hP,by have:=hP.l2;show D2.length=Q.length;omega,rfl,rfl,l,D2.length,hl,hgo,by rw [hxs,List.length_map];have:=hP.l2;omega,by unfold xAut;rw [hxs,Int.toNat_of_nonneg (by omega)]⟩,?_⟩
  rw [if_neg (by rw [decide_eq_true_iff,List.length_map];omega)]
theorem zs6 (h:DOk 20000 badM d) {C:List Int} {K:Nat} (hC:FinC d C K):∃ l,OfOk d C l K/\zbN d C 0 (List.replicate C.length 0)=zbN d C (C.length:Int) l:=by
 have hn:=h.n1;have hcl:=hC.len;have hK:=hC.le;have key:∀ (f:Nat) (t:Int) (l:List Int),(C.length - t).toNat=f->0<=t->t<=C.length->l.length=C.length->(∀ v:Int,0<=v->v < K->(∃ q:Int,0<=q/\q < t/\ix C q=v)->0<=ix l v/\ix l v < d.2.2.1.length/\ix C (ix l v)=v)->
   ∃ l',OfOk d C l' K/\zbN d C t l=zbN d C (C.length:Int) l':=by
  intro f
  induction f with
  | zero=>
   intro t l hf t0 t1 hll hv;obtain rfl:t=C.length:=by omega
   exact ⟨l,⟨by omega,fun v v0 v1=>by
    obtain ⟨q,q0,q1,e⟩:=hC.sur v v0 v1;exact hv v v0 v1 ⟨q,q0,by omega,e⟩⟩,rfl⟩
  | succ f ih=>
   intro t l hf t0 t1 hll hv;have hb:=hC.b t t0 (by omega)
   obtain ⟨l',h1,h2⟩:=ih (t+1) (l.set (ix C t).toNat t) (by omega) (by omega) (by omega) (by rw [List.length_set];exact hll) (fun v v0 v1 ⟨q,q0,q1,e⟩=>by
    by_cases e2:v=ix C t
    ·subst e2;rw [zal v0 (by omega)];exact ⟨t0,by omega,rfl⟩
    ·rw [zak hb.1 v0 (Ne.symm e2)];refine hv v v0 v1 ⟨q,q0,?_,e⟩
     by_cases e3:q=t
     ·subst e3;exact absurd e.symm e2
     ·omega)
   refine ⟨l',h1,?_⟩
   rw [<- h2]
   conv=>lhs;rw [zfN];unfold zbc
   rw [if_pos (by simp;omega)]
   exact G_to (by omega) (G_to (by omega) (G_to (by omega) (G_to (by omega) (G_to (by unfold fits;omega) rfl))))
 exact key _ 0 _ rfl (by omega) (by omega) (by rw [List.length_replicate]) (fun v v0 v1 ⟨q,q0,q1,_⟩=>by omega)
theorem zvu (h:DOk 20000 badM d):∃ o C Q K,LeastOk d o C Q K/\zej d=some o:=by
 have hn:=h.n1;obtain ⟨C,K,hC,c1⟩:=zr1 h;obtain ⟨l,hl,l1⟩:=zs6 h hC;have hs:=h.st;have hcl:=hC.len;have hb:=hC.b _ hs.1 hs.2;have hK:=hC.le;have hP:PartOk d C [d.2.1] [] []:=⟨⟨fun q hq=>by rw [List.mem_singleton.1 hq];exact hs,by simp,by simp,rfl⟩,by simp,rfl,fun i i0 i1=>by simp at i1;omega,fun i i0 i1=>by simp at i1;omega⟩
 have hN:zvO d C [d.2.1] ((List.replicate C.length (-1:Int)).set (ix C d.2.1).toNat 0):=by
  refine ⟨by rw [List.length_set,List.length_replicate];exact hcl,fun v v0 v1 => ?_⟩
  rw [List.map_singleton];by_cases e:v=ix C d.2.1
  ·subst e;rw [zal v0 (by rw [List.length_replicate];omega),zjm];rfl
  ·rw [zak hb.1 v0 (Ne.symm e),zc9 v0 (by omega),zbX.2 (by simpa using e)]
 obtain ⟨o,Q,w1,w2⟩:=zvv h hC hl _ [d.2.1] _ [] [] rfl hP hN (fun k hk=>by simp at hk) rfl
 have ed:(d.1,d.2.1,d.2.2.1,d.2.2.2.1,())=d:=rfl;refine ⟨o,C,Q,K,w1,?_⟩
 ·unfold zej;rw [ed];refine zae c1 ?_
  refine G_to (by unfold mkOK;omega) ?_
  rw [Int.toNat_natCast,l1,zfN];unfold zbc;rw [if_neg (by simp)]
  refine G_to (by omega) (G_to (by omega) (G_to (by unfold fits;omega) ?_))
  have hE:zeH d.1 (ix C d.2.1) C d l d l ((C.length:Int)+1)=some (o,true):=w2;refine zam ?_ ?_
  ·rw [ed];exact zae hE rfl
  ·rw [ed];exact zae hE rfl
end
theorem zqk {d o:Dt} {C Q:List Int} {K:Nat} (hd:DOk 20000 badM d) (h:LeastOk d o C Q K):∀ (w:List Int) (i q:Int),0<=i->i < Q.length->0<=q->q < d.2.2.1.length->ix C (ix Q i)=ix C q->(∀ a∈w,0<=a/\a < d.1)->
  0<=wlk o.2.2.1 i w/\wlk o.2.2.1 i w < Q.length/\ix C (ix Q (wlk o.2.2.1 i w))=ix C (wlk d.2.2.1 q w)
 | [],i,q,i0,i1,_,_,e,_=>⟨i0,i1,e⟩
 | a::w,i,q,i0,i1,q0,q1,e,hw=>by
  have ha:=hw a (by simp)
  have hr:=h.part.row i i0 (by rw [h.all];exact i1)
  obtain ⟨t1,t2,t3⟩:=hr.to a ha.1 ha.2;have hq:=h.part.q.b _ (zaX i0 i1);have hs:=hd.tab.stpb q0 q1 ha.1 ha.2;have hst:=h.fin.stable _ _ hq.1 hq.2 q0 q1 e a ha.1 ha.2;exact zqk hd h w (ix (ix o.2.2.1 i) a) (stp d.2.2.1 q a) t1 t2 hs.1 hs.2 (t3.trans hst) (fun b hb=>hw b (by simp [hb]))
theorem zvw {d o:Dt} {C Q:List Int} {K:Nat} (hd:DOk 20000 badM d) (h:LeastOk d o C Q K) {w:List Int} (hw:∀ a∈w,0<=a/\a < d.1):0<=wlk o.2.2.1 o.2.1 w/\wlk o.2.2.1 o.2.1 w < o.2.2.1.length/\ix o.2.2.2.1 (wlk o.2.2.1 o.2.1 w)=ix d.2.2.2.1 (wlk d.2.2.1 d.2.1 w):=by
 have hz:=h.part.q.z;have hst:=hd.st;obtain ⟨h1,h2,h3⟩:=zqk hd h w 0 d.2.1 (by omega) (by omega) hst.1 hst.2 (by rw [hz.2]) hw
 rw [h.st];refine ⟨h1,by rw [h.all];exact h2,?_⟩
 rw [h.part.mark _ h1 (by rw [h.all];exact h2)]
 have hq:=h.part.q.b _ (zaX h1 h2);have hw2:=hd.tab.wlkb hst.1 hst.2 hw;exact h.fin.mark _ _ hq.1 hq.2 hw2.1 hw2.2 h3
theorem zAz {α:Type} [Inhabited α] {l:List α} (h:l.Nodup) {i j:Int} (i0:0<=i) (i1:i < l.length) (j0:0<=j) (j1:j < l.length) (e:ix l i=ix l j):i=j:=by
 rw [zkl i0 i1,zkl j0 j1] at e;have key:∀ a b:Nat,(ha:a < l.length)->(hb:b < l.length)->a < b->l[a]≠l[b]:=fun a b ha hb hlt=>List.pairwise_iff_getElem.1 h a b ha hb hlt
 rcases Nat.lt_trichotomy i.toNat j.toNat with c | c | c
 ·exact absurd e (key _ _ (by omega) (by omega) c)
 ·omega
 ·exact absurd e.symm (key _ _ (by omega) (by omega) c)
theorem zs1 {nx:Int->Int->Int} {s:Int} {l:List Int}:∀ t:Nat,∀ x∈(xRow nx s l t).1,x∈l\/∃ a:Int,0<=a/\a < t/\x=nx s a
 | 0,x,hx => .inl hx
 | t+1,x,hx=>by
  have ih:=zs1 (nx:=nx) (s:=s) (l:=l) t;have up:(x∈l\/∃ a:Int,0<=a/\a < t/\x=nx s a)->(x∈l\/∃ a:Int,0<=a/\a < ((t+1:Nat):Int)/\x=nx s a):=fun h=>h.imp id (fun ⟨a,a0,a1,e⟩=>⟨a,a0,by omega,e⟩)
  cases c:za4 (xRow nx s l t).1 (nx s t) with
  | some j=>rw [zpJ c] at hx;exact up (ih x hx)
  | none=>
   rw [zpI c] at hx;rcases List.mem_append.1 hx with hx | hx
   ·exact up (ih x hx)
   ·rw [List.mem_singleton.1 hx];exact .inr ⟨t,by omega,by omega,rfl⟩
theorem zu2 {nx:Int->Int->Int} {mk:Int->Int} {L:Nat} {first:Int}:∀ i:Nat,XGo nx mk L first i->∀ x∈(xSt nx mk L first i).1,∃ w:List Int,(∀ a∈w,0<=a/\a < (L:Int))/\x=w.foldl nx first
 | 0,_,x,hx=>⟨[],(fun a ha=>by cases ha),by simpa [xSt] using hx⟩
 | i+1,hg,x,hx=>by
  have ih:=zu2 i (fun k hk=>hg k (by omega))
  have hi:=hg i (by omega)
  rcases zs1 L x hx with h | ⟨a,a0,a1,rfl⟩
  ·exact ih x h
  ·obtain ⟨w,w1,w2⟩:=ih _ (zaX (i:=(i:Int)) (by omega) (by omega))
   refine ⟨w++[a],fun b hb=>(List.mem_append.1 hb).elim (w1 b) (fun e=>by rw [List.mem_singleton.1 e];exact ⟨a0,a1⟩),?_⟩
   rw [List.foldl_append,<- w2];rfl
section
variable {d o:Dt} {C Q:List Int} {K:Nat}
theorem LeastOk.xok (hd:DOk 20000 badM d) (h:LeastOk d o C Q K) {l:List Int} (hl:OfOk d C l K):XOk (nxC d C l) (mkC d l) d.1.toNat (ix C d.2.1) K (fun v=>0<=v/\v < K):=by
 have hlt:=hd.let1;have hmk:=hd.mkl;refine XOk.int (fun s hs=>hs) (h.fin.b _ hd.st.1 hd.st.2) (fun s hs t t0 t1 => ?_) (fun s hs => ?_)
 ·obtain ⟨a1,a2,_⟩:=hl.b s hs.1 hs.2;have:=hd.tab.stpb a1 a2 t0 (by omega)
  exact h.fin.b _ this.1 this.2
 ·obtain ⟨a1,a2,_⟩:=hl.b s hs.1 hs.2;have:=hd.mok _ (zaX a1 (by omega:ix l s < d.2.2.2.1.length))
  unfold badM at this;unfold mkC;omega
theorem LeastOk.dok (hd:DOk 20000 badM d) (h:LeastOk d o C Q K):DOk 20000 badM o:=by
 obtain ⟨l,n,hl,go,gn,rfl⟩:=h.by1;have hlt:=hd.let1;have hn:=hd.n1;have hK:=h.fin.le;exact zxy (h.xok hd hl) (by omega) (by omega) go gn
theorem LeastOk.reach (hd:DOk 20000 badM d) (h:LeastOk d o C Q K) {q:Int} (q0:0<=q) (q1:q < o.2.2.1.length):∃ w:List Int,(∀ a∈w,0<=a/\a < d.1)/\wlk o.2.2.1 o.2.1 w=q:=by
 obtain ⟨l,n,hl,go,gn,rfl⟩:=h.by1;have hlt:=hd.let1;have hx:=h.xok hd hl;obtain ⟨k1,k2,k3⟩:=zka hx n go;have hr:=k3.r;have q1':q < ((xSt (nxC d C l) (mkC d l) d.1.toNat (ix C d.2.1) n).1.length:Int):=by
  have:q < ((xSt (nxC d C l) (mkC d l) d.1.toNat (ix C d.2.1) n).2.1.length:Int):=q1;omega
 obtain ⟨w,w1,w2⟩:=zu2 n go _ (zaX q0 q1');obtain ⟨y1,y2,y3⟩:=zpH hx go gn w 0 (by omega) (by omega) w1
 rw [k3.z,<- w2] at y3;refine ⟨w,fun a ha=>by have:=w1 a ha;omega,?_⟩
 show wlk _ 0 w=q;exact zAz k1.nd y1 (by omega) q0 q1' y3
end
inductive Star {α:Type} (R:α->α->Prop):α->α->Prop
 | refl (x:α):Star R x x
 | tail {x y z:α}:Star R x y->R y z->Star R x z
def StA (a:Au) (p x q:Int):Prop:=(p,x,q,())∈a.2.2.2.1
structure AuOk (a:Au):Prop where
 let1:1<=a.1/\a.1<=4
 n1:1<=a.2.1/\a.2.1<=300
 sl:(a.2.2.2.1.length:Int)<=40000
 sb:∀ x∈a.2.2.2.1,(0<=x.1/\x.1 < a.2.1)/\(0<=x.2.1/\x.2.1 < a.1)/\(0<=x.2.2.1/\x.2.2.1 < a.2.1)
 s:∀ q∈a.2.2.1,0<=q/\q < a.2.1
 f:∀ q∈a.2.2.2.2.1,0<=q/\q < a.2.1
 ls:(a.2.2.1.length:Int)<=300
 lf:(a.2.2.2.2.1.length:Int)<=300
theorem zuV {l:List Int} {n:Int} (hf : ¬ zqI l) (hb:∀ q∈l,0<=q/\q < n) (n0:0<=n):(l.length:Int)<=n:=by
 have key:∀ (k:Nat),k < l.length->(k:Int)<=ix l k:=by
  intro k
  induction k with
  | zero=>intro h;exact (hb _ (zaX (by omega) (by omega))).1
  | succ k ih=>
   intro h;have h1:=ih (by omega)
   have h2 : ¬ ix l ((k+1:Nat):Int)<=ix l (((k+1:Nat):Int) - 1):=fun hh=>hf ⟨((k+1:Nat):Int),by omega,by omega,hh⟩
   rw [show ((k+1:Nat):Int) - 1=(k:Int) by omega] at h2
   omega
 by_cases c:l.length=0
 ·omega
 ·have h1:=key (l.length - 1) (by omega)
  have h2:=(hb _ (zaX (l:=l) (i:=((l.length - 1:Nat):Int)) (by omega) (by omega))).2
  omega
theorem zvT {a:Au} (h:autE a=0):AuOk a:=by
 unfold autE at h;by_cases c1:a.1 < 1\/4 < a.1
 ·rw [if_pos c1] at h;omega
 rw [if_neg c1] at h;by_cases c2:zqH a
 ·rw [if_pos c2] at h;omega
 rw [if_neg c2] at h;by_cases c3:AOut a
 ·rw [if_pos c3] at h;omega
 rw [if_neg c3] at h;by_cases c4:zn6 a
 ·rw [if_pos c4] at h;omega
 unfold zqH at c2;unfold AOut at c3;unfold zn6 at c4;have hs:∀ q∈a.2.2.1,0<=q/\q < a.2.1:=fun q hq=>by
  have : ¬ noS a q:=fun hh=>c3 (.inl ⟨q,hq,hh⟩)
  unfold noS at this;omega
 have hf:∀ q∈a.2.2.2.2.1,0<=q/\q < a.2.1:=fun q hq=>by
  have : ¬ noS a q:=fun hh=>c3 (.inr (.inl ⟨q,hq,hh⟩))
  unfold noS at this;omega
 have n1:1<=a.2.1/\a.2.1<=300:=by omega
 have ls:=zuV (fun hh=>c4 (.inl hh)) hs (by omega)
 have lf:=zuV (fun hh=>c4 (.inr (.inl hh))) hf (by omega)
 refine ⟨by omega,n1,by omega,fun x hx => ?_,hs,hf,by omega,by omega⟩
 have : ¬ badX a x:=fun hh=>c3 (.inr (.inr ⟨x,hx,hh⟩))
 unfold badX noS at this;omega
def Wt (a:Au) (u:Nat->Int):Nat->Nat->Int->Int->Prop
 | 0,_,p,q=>p=q
 | m+1,s,p,q=>∃ r,StA a p (u s) r/\Wt a u m (s+1) r q
def Wf (a:Au) (u:Nat->Int) (m s:Nat) (p q:Int):Prop:=∃ i f,i < m/\f∈a.2.2.2.2.1/\Wt a u i s p f/\Wt a u (m - i) (s+i) f q
section
variable {a:Au} {u:Nat->Int} {h len:Nat}
theorem Wt.add {k:Nat}:∀ {m s:Nat} {p q:Int},Wt a u (m+k) s p q↔∃ r,Wt a u m s p r/\Wt a u k (s+m) r q
 | 0,s,p,q=>by
  rw [Nat.zero_add];exact ⟨fun hh=>⟨p,rfl,hh⟩,fun ⟨r,h1,h2⟩=>by cases h1;exact h2⟩
 | m+1,s,p,q=>by
  rw [show m+1+k=(m+k)+1 by omega]
  have e:s+(m+1)=s+1+m:=by omega
  constructor
  ·rintro ⟨r,h1,h2⟩;obtain ⟨x,h3,h4⟩:=Wt.add.1 h2;exact ⟨x,⟨r,h1,h3⟩,by rw [e];exact h4⟩
  ·rintro ⟨x,⟨r,h1,h3⟩,h4⟩;rw [e] at h4;exact ⟨r,h1,Wt.add.2 ⟨x,h3,h4⟩⟩
theorem Wt.comp {m k s t:Nat} {p r q:Int} (h1:Wt a u m s p r) (h2:Wt a u k t r q) (e:t=s+m):Wt a u (m+k) s p q:=Wt.add.2 ⟨r,h1,e ▸ h2⟩
theorem Wt.snoc {m s:Nat} {p q:Int}:Wt a u (m+1) s p q↔∃ r,Wt a u m s p r/\StA a r (u (s+m)) q:=by
 rw [Wt.add];exact ⟨fun ⟨r,h1,x,h2,h3⟩=>⟨r,h1,by cases h3;exact h2⟩,fun ⟨r,h1,h2⟩=>⟨r,h1,q,h2,rfl⟩⟩
theorem Wt.shift (hu:∀ t,h<=t->u (t+len)=u t):∀ {m s:Nat} {p q:Int},h<=s->(Wt a u m (s+len) p q↔Wt a u m s p q)
 | 0,s,p,q,_=>Iff.rfl
 | m+1,s,p,q,hs=>by
  show (∃ r,StA a p (u (s+len)) r/\Wt a u m (s+len+1) r q)↔(∃ r,StA a p (u s) r/\Wt a u m (s+1) r q);rw [hu s hs,show s+len+1=s+1+len by omega]
  exact exists_congr fun r=>and_congr Iff.rfl (Wt.shift hu (by omega))
theorem Wt.shifts (hu:∀ t,h<=t->u (t+len)=u t) {m s:Nat} {p q:Int} (hs:h<=s):∀ k:Nat,(Wt a u m (s+k * len) p q↔Wt a u m s p q)
 | 0=>by rw [Nat.zero_mul];exact Iff.rfl
 | k+1=>by
  rw [Nat.succ_mul,<- Nat.add_assoc];exact (Wt.shift hu (by omega)).trans (Wt.shifts hu hs k)
def Rd (a:Au) (u:Nat->Int) (h len:Nat) (p q:Int):Prop:=Wt a u len h p q
def Rf (a:Au) (u:Nat->Int) (h len:Nat) (p q:Int):Prop:=Wf a u len h p q
theorem zpx (hu:∀ t,h<=t->u (t+len)=u t) {p q:Int}:Star (Rd a u h len) p q↔∃ k,Wt a u (k * len) h p q:=by
 constructor
 ·intro hs
  induction hs with
  | refl=>exact ⟨0,by rw [Nat.zero_mul];rfl⟩
  | tail _ r ih=>
   obtain ⟨k,hk⟩:=ih;exact ⟨k+1,by rw [Nat.succ_mul];exact hk.comp ((Wt.shifts hu (Nat.le_refl h) k).2 r) rfl⟩
 ·rintro ⟨k,hk⟩
  induction k generalizing q with
  | zero=>rw [Nat.zero_mul] at hk;cases hk;exact .refl _
  | succ k ih=>
   rw [Nat.succ_mul] at hk;obtain ⟨r,h1,h2⟩:=Wt.add.1 hk;exact (ih h1).tail ((Wt.shifts hu (Nat.le_refl h) k).1 h2)
theorem Rf.rd {p q:Int} (hh:Rf a u h len p q):Rd a u h len p q:=by
 obtain ⟨i,f,hi,_,h1,h2⟩:=hh;have:=h1.comp h2 rfl
 rwa [show i+(len - i)=len by omega] at this
def zjy (a:Au) (u:Nat->Int) (h len:Nat) (q:Int):Prop:=∃ x y,Star (Rd a u h len) q x/\Rf a u h len x y/\Star (Rd a u h len) y q
def FarP (a:Au) (u:Nat->Int) (h len:Nat) (q:Int):Prop:=∃ r,(∃ q0∈a.2.2.1,Wt a u h 0 q0 r)/\Star (Rd a u h len) r q
def RefA (a:Au) (u:Nat->Int) (h len:Nat):Prop:=∃ q,FarP a u h len q/\zjy a u h len q
def zyU (a:Au) (u:Nat->Int) (h len:Nat):Prop:=∃ q0∈a.2.2.1,∃ s f,Wt a u s 0 q0 f/\f∈a.2.2.2.2.1/\h<=s/\∃ b,1<=b/\Wt a u (b * len) s f f
theorem zyi (hl:0 < len) (hu:∀ t,h<=t->u (t+len)=u t):RefA a u h len↔zyU a u h len:=by
 constructor
 ·rintro ⟨q,⟨r,⟨q0,hq0,h0⟩,hrq⟩,x,y,hqx,⟨i,f,hi,hf,hxf,hfy⟩,hyq⟩;obtain ⟨k1,h1⟩:=(zpx hu).1 hrq;obtain ⟨k2,h2⟩:=(zpx hu).1 hqx;obtain ⟨k3,h3⟩:=(zpx hu).1 hyq;have g1:Wt a u (h+k1 * len) 0 q0 q:=h0.comp h1 (by omega)
  have g2:Wt a u (h+k1 * len+k2 * len) 0 q0 x:=g1.comp ((Wt.shifts hu (Nat.le_refl h) k1).2 h2) (by omega)
  have g3:Wt a u (h+k1 * len+k2 * len+i) 0 q0 f:=by
   refine g2.comp (t:=h+(k1+k2) * len) ((Wt.shifts hu (Nat.le_refl h) (k1+k2)).2 hxf) ?_
   rw [Nat.add_mul];omega
  refine ⟨q0,hq0,_,f,g3,hf,by omega,1+k3+k2,by omega,?_⟩
  have c1:Wt a u (len - i+k3 * len) (h+i) f q:=hfy.comp (t:=h+1 * len) ((Wt.shifts hu (Nat.le_refl h) 1).2 h3) (by omega)
  have c2:Wt a u (len - i+k3 * len+k2 * len) (h+i) f x:=by
   refine c1.comp (t:=h+(1+k3) * len) ((Wt.shifts hu (Nat.le_refl h) (1+k3)).2 h2) ?_
   rw [Nat.add_mul];omega
  have c3:Wt a u (len - i+k3 * len+k2 * len+i) (h+i) f f:=by
   refine c2.comp (t:=h+(1+k3+k2) * len) ((Wt.shifts hu (Nat.le_refl h) (1+k3+k2)).2 hxf) ?_
   rw [Nat.add_mul,Nat.add_mul];omega
  have c4:=(Wt.shifts hu (show h<=h+i by omega) (k1+k2)).2 c3
  rw [show len - i+k3 * len+k2 * len+i=(1+k3+k2) * len by rw [Nat.add_mul,Nat.add_mul];omega,show h+i+(k1+k2) * len=h+k1 * len+k2 * len+i by rw [Nat.add_mul];omega] at c4
  exact c4
 ·rintro ⟨q0,hq0,s,f,h0,hf,hs,b,hb,hc⟩;obtain ⟨c,d,hd,es⟩:∃ c d,d < len/\s=h+c * len+d:=⟨(s - h) / len,(s - h) % len,Nat.mod_lt _ hl,by
   have:=Nat.div_add_mod (s - h) len;rw [Nat.mul_comm] at this;omega⟩
  subst es;obtain ⟨x,hx,hxf⟩:=Wt.add.1 h0;obtain ⟨r,hr,hrx⟩:=Wt.add.1 hx;rw [Nat.zero_add] at hrx hxf;obtain ⟨b,rfl⟩:∃ b',b=b'+1:=⟨b - 1,by omega⟩
  rw [show (b+1) * len=(len - d)+(b * len+d) by rw [Nat.succ_mul];omega] at hc
  obtain ⟨y,hy1,hy2⟩:=Wt.add.1 hc;obtain ⟨z,hz1,hz2⟩:=Wt.add.1 hy2;have e1:h+c * len+d+(len - d)=h+(c+1) * len:=by rw [Nat.succ_mul];omega
  have e2:h+c * len+d+(len - d)+b * len=h+(c+1+b) * len:=by rw [e1,Nat.add_mul (c+1)];omega
  have w1:Wt a u d h x f:=(Wt.shifts hu (Nat.le_refl h) c).1 hxf;have w2:Wt a u (len - d) (h+d) f y:=by
   refine (Wt.shifts hu (show h<=h+d by omega) c).1 ?_
   rw [show h+d+c * len=h+c * len+d by omega];exact hy1
  have w3:Wt a u (b * len) h y z:=(Wt.shifts hu (Nat.le_refl h) (c+1)).1 (by rw [<- e1];exact hz1)
  have w4:Wt a u d h z f:=(Wt.shifts hu (Nat.le_refl h) (c+1+b)).1 (by rw [<- e2];exact hz2)
  have rf:∀ {v},Wt a u d h v f->Rf a u h len v y:=fun hv=>⟨d,f,hd,hf,hv,w2⟩
  exact ⟨y,⟨r,⟨q0,hq0,hr⟩,((zpx hu).2 ⟨c,hrx⟩).tail (rf w1).rd⟩,z,y,(zpx hu).2 ⟨b,w3⟩,rf w4,.refl y⟩
theorem StA.b (ha:AuOk a) {p x q:Int} (hh:StA a p x q):(0<=p/\p < a.2.1)/\(0<=q/\q < a.2.1):=⟨(ha.sb _ hh).1,(ha.sb _ hh).2.2⟩
theorem Wt.b (ha:AuOk a):∀ {m s:Nat} {p q:Int},Wt a u m s p q->0<=p->p < a.2.1->0<=q/\q < a.2.1
 | 0,_,_,_,h,p0,p1=>by cases h;exact ⟨p0,p1⟩
 | _+1,_,_,_,⟨_,h1,h2⟩,_,_=>Wt.b ha h2 (h1.b ha).2.1 (h1.b ha).2.2
def nots (P:Int->Bool):Nat->Nat
 | 0=>0
 | k+1=>nots P k+(if P (k:Int)=true then 0 else 1)
theorem zrq {P Q:Int->Bool}:∀ {n:Nat},(∀ k:Int,0<=k->k < n->P k=true->Q k=true)->nots Q n<=nots P n
 | 0,_=>Nat.le_refl _
 | n+1,hh=>by
  have h1:=zrq (n:=n) (fun k k0 k1=>hh k k0 (by omega))
  have h2:=hh n (by omega) (by omega)
  unfold nots;by_cases c:P (n:Int)=true
  ·rw [if_pos c,if_pos (h2 c)];exact h1
  ·rw [if_neg c];split<;>omega
theorem zrr {P Q:Int->Bool}:∀ {n:Nat},(∀ k:Int,0<=k->k < n->P k=true->Q k=true)->(∃ k:Int,0<=k/\k < n/\Q k=true /\ ¬ P k=true)->nots Q n < nots P n
 | 0,_,⟨k,k0,k1,_⟩=>by omega
 | n+1,hh,⟨k,k0,k1,hq,hp⟩=>by
  have h1:∀ k:Int,0<=k->k < n->P k=true->Q k=true:=fun k k0 k1=>hh k k0 (by omega)
  unfold nots;by_cases e:k=n
  ·subst e;rw [if_pos hq,if_neg hp];have:=zrq h1;omega
  ·have h2:=zrr h1 ⟨k,k0,by omega,hq,hp⟩
   have h3:=hh n (by omega) (by omega)
   by_cases c:P (n:Int)=true
   ·rw [if_pos c,if_pos (h3 c)];exact h2
   ·rw [if_neg c];split<;>omega
end
section
variable {a:Au} {u:Nat->Int} {h len:Nat}
theorem zoe (ha:AuOk a) {B:List Bool} (hB:(B.length:Int)=a.2.1) (x:Int):∃ o,zsH a B x=some o/\(o.length:Int)=a.2.1/\∀ q:Int,0<=q->q < a.2.1->(ix o q=true↔∃ p,ix B p=true/\StA a p x q):=by
 have hsl:=ha.sl;have hn:=ha.n1;have key:∀ (m:Nat) (i:Int) (o:List Bool),0<=i->i+m=a.2.2.2.1.length->(o.length:Int)=a.2.1->
   (∀ q:Int,0<=q->q < a.2.1->(ix o q=true↔∃ k:Int,0<=k/\k < i/\ix B (ix a.2.2.2.1 k).1=true/\(ix a.2.2.2.1 k).2.1=x/\(ix a.2.2.2.1 k).2.2.1=q))->
   ∃ o',zlt a B x i o=some o'/\(o'.length:Int)=a.2.1/\∀ q:Int,0<=q->q < a.2.1->(ix o' q=true↔∃ k:Int,0<=k/\k < a.2.2.2.1.length/\ix B (ix a.2.2.2.1 k).1=true/\(ix a.2.2.2.1 k).2.1=x/\(ix a.2.2.2.1 k).2.2.1=q):=by
  intro m
  induction m with
  | zero=>
   intro i o i0 hi ho hq;refine ⟨o,?_,ho,fun q q0 q1 => ?_⟩
   ·rw [zpm];unfold zd2;rw [if_neg (by simp only [decide_eq_true_eq];omega)]
   ·rw [hq q q0 q1,show i=(a.2.2.2.1.length:Int) by omega]
  | succ m ih=>
   intro i o i0 hi ho hq;have hb:=ha.sb _ (zaX i0 (by omega:i < a.2.2.2.1.length))
   have old:∀ (t:Bool),(t=true↔ix B (ix a.2.2.2.1 i).1=true/\(ix a.2.2.2.1 i).2.1=x)->∃ o',zhh a i o (zlt a B x) t=some o'/\(o'.length:Int)=a.2.1/\∀ q:Int,0<=q->q < a.2.1->(ix o' q=true↔∃ k:Int,0<=k/\k < a.2.2.2.1.length/\ix B (ix a.2.2.2.1 k).1=true/\(ix a.2.2.2.1 k).2.1=x/\(ix a.2.2.2.1 k).2.2.1=q):=by
    intro t ht;unfold zhh
    cases t with
    | true=>
     have ht:=ht.1 rfl;rw [if_pos rfl,zab (by omega),zab (by omega),zab (by unfold fits;omega)]
     refine ih (i+1) _ (by omega) (by omega) (by rw [List.length_set];exact ho) (fun q q0 q1 => ?_)
     by_cases e:(ix a.2.2.2.1 i).2.2.1=q
     ·rw [e,zal q0 (by omega)]
      exact ⟨fun _=>⟨i,i0,by omega,ht.1,ht.2,e⟩,fun _=>rfl⟩
     ·rw [zak (by omega) q0 e,hq q q0 q1]
      constructor
      ·rintro ⟨k,k0,k1,k2⟩;exact ⟨k,k0,by omega,k2⟩
      ·rintro ⟨k,k0,k1,k2⟩;by_cases ek:k=i
       ·rw [ek] at k2;exact absurd k2.2.2 e
       ·exact ⟨k,k0,by omega,k2⟩
    | false=>
     rw [if_neg (by decide),zab (by unfold fits;omega)]
     refine ih (i+1) o (by omega) (by omega) ho (fun q q0 q1 => ?_)
     rw [hq q q0 q1];constructor
     ·rintro ⟨k,k0,k1,k2⟩;exact ⟨k,k0,by omega,k2⟩
     ·rintro ⟨k,k0,k1,k2⟩;by_cases ek:k=i
      ·rw [ek] at k2;have:=ht.2 ⟨k2.1,k2.2.1⟩;cases this
      ·exact ⟨k,k0,by omega,k2⟩
   rw [zpm];unfold zd2;rw [if_pos (decide_eq_true (by omega)),zab (by omega)]
   by_cases c:(ix a.2.2.2.1 i).2.1=x
   ·rw [if_pos (decide_eq_true c),zab (by omega)]
    exact old _ (by simp [c])
   ·rw [if_neg (by simpa using c)]
    exact old false (by simp [c])
 obtain ⟨o,e,h1,h2⟩:=key a.2.2.2.1.length 0 (List.replicate a.2.1.toNat false) (by omega) (by omega) (by rw [List.length_replicate];omega) (fun q q0 q1=>by
  rw [zc9 q0 (by omega)]
  exact ⟨fun hh=>(by cases hh),fun ⟨k,k0,k1,_⟩=>by omega⟩)
 refine ⟨o,by unfold zsH;rw [zab (by unfold mkOK;omega)];exact e,h1,fun q q0 q1=>(h2 q q0 q1).trans ⟨?_,?_⟩⟩
 ·rintro ⟨k,k0,k1,k2,k3,k4⟩;have hm:=zaX k0 k1;exact ⟨_,k2,by unfold StA;rw [<- k3,<- k4];exact hm⟩
 ·rintro ⟨p,hp,hs⟩;obtain ⟨k,k0,k1,e⟩:=(zdX (P:=fun y=>y=(p,x,q,()))).1 ⟨_,hs,rfl⟩
  exact ⟨k,k0,k1,by rw [e];exact hp,by rw [e],by rw [e]⟩
theorem Wf.snoc {m s:Nat} {p q:Int}:Wf a u (m+1) s p q↔∃ r,(Wf a u m s p r\/(Wt a u m s p r/\r∈a.2.2.2.2.1))/\StA a r (u (s+m)) q:=by
 constructor
 ·rintro ⟨i,f,hi,hf,h1,h2⟩;by_cases c:i=m
  ·subst c;rw [show i+1 - i=0+1 by omega] at h2
   obtain ⟨r,h3,h4⟩:=Wt.snoc.1 h2
   cases h3;exact ⟨f,.inr ⟨h1,hf⟩,by rw [show s+i+0=s+i by omega] at h4;exact h4⟩
  ·rw [show m+1 - i=(m - i)+1 by omega] at h2
   obtain ⟨r,h3,h4⟩:=Wt.snoc.1 h2;exact ⟨r,.inl ⟨i,f,by omega,hf,h1,h3⟩,by rw [show s+i+(m - i)=s+m by omega] at h4;exact h4⟩
 ·rintro ⟨r,⟨i,f,hi,hf,h1,h2⟩ | ⟨h1,hf⟩,h3⟩
  ·refine ⟨i,f,by omega,hf,h1,?_⟩
   rw [show m+1 - i=(m - i)+1 by omega]
   exact Wt.snoc.2 ⟨r,h2,by rw [show s+i+(m - i)=s+m by omega];exact h3⟩
  ·refine ⟨m,r,by omega,hf,h1,?_⟩
   rw [show m+1 - m=0+1 by omega]
   exact ⟨q,h3,rfl⟩
def FinB (a:Au) (F:List Bool):Prop:=(F.length:Int)=a.2.1/\∀ q:Int,0<=q->q < a.2.1->(ix F q=true↔q∈a.2.2.2.2.1)
abbrev RB:=Bool->List Bool->List Bool->Option Bool
theorem zyN (ha:AuOk a) {L F:List Bool} {loop:List Int} {i:Int} (hF:FinB a F) {p:List Bool} (hp:(p.length:Int)=a.2.1) {r10:Int->List Bool->List Bool->Option Bool} (i0:0<=i) (i1:i < loop.length) (hlen:loop.length<=1000):
  ∀ (m:Nat) (k:Int) (g:List Bool),0<=k->k+m=a.2.1->(g.length:Int)=a.2.1->∃ p' g',zbG a loop F i p r10 k g=r10 (i+1) p' g'/\(p'.length:Int)=a.2.1/\(g'.length:Int)=a.2.1/\
   (∀ q:Int,0<=q->q < a.2.1->(ix p' q=true↔∃ r,ix p r=true/\StA a r (ix loop i) q))/\
   (∀ q:Int,0<=q->q < a.2.1->(ix g' q=true↔∃ r,(ix g r=true\/(k<=r/\ix p r=true/\r∈a.2.2.2.2.1))/\StA a r (ix loop i) q)):=by
 have hn:=ha.n1;have ea:(a.1,a.2.1,a.2.2.1,a.2.2.2.1,a.2.2.2.2.1,())=a:=rfl;intro m
 induction m with
 | zero=>
  intro k g k0 hk hg;obtain ⟨p',e1,l1,s1⟩:=zoe ha hp (ix loop i);obtain ⟨g',e2,l2,s2⟩:=zoe ha hg (ix loop i);refine ⟨p',g',?_,l1,l2,s1,fun q q0 q1=>(s2 q q0 q1).trans (exists_congr fun r => ?_)⟩
  ·rw [zdy];unfold zbg;rw [if_neg (by simp only [decide_eq_true_eq];omega),zab (by omega),ea]
   refine zae e1 ?_
   rw [zab (by omega)]
   refine zae e2 ?_
   rw [zab (by unfold fits;omega)]
  ·constructor
   ·rintro ⟨h1,h2⟩;exact ⟨.inl h1,h2⟩
   ·rintro ⟨h1 | ⟨h1,_,_⟩,h2⟩
    ·exact ⟨h1,h2⟩
    ·have:=(h2.b ha).1;omega
 | succ m ih=>
  intro k g k0 hk hg;have fin:∀ (b:Bool),(b=true↔ix g k=true\/(ix p k=true/\k∈a.2.2.2.2.1))->zbG a loop F i p r10 k g=zbG a loop F i p r10 (k+1) (g.set k.toNat b)->∃ p' g',zbG a loop F i p r10 k g=r10 (i+1) p' g'/\(p'.length:Int)=a.2.1/\(g'.length:Int)=a.2.1/\
   (∀ q:Int,0<=q->q < a.2.1->(ix p' q=true↔∃ r,ix p r=true/\StA a r (ix loop i) q))/\
   (∀ q:Int,0<=q->q < a.2.1->(ix g' q=true↔∃ r,(ix g r=true\/(k<=r/\ix p r=true/\r∈a.2.2.2.2.1))/\StA a r (ix loop i) q)):=by
   intro b hb e;obtain ⟨p',g',e',l1,l2,s1,s2⟩:=ih (k+1) (g.set k.toNat b) (by omega) (by omega) (by rw [List.length_set];exact hg)
   refine ⟨p',g',e.trans e',l1,l2,s1,fun q q0 q1=>(s2 q q0 q1).trans (exists_congr fun r => ?_)⟩
   refine and_congr_left fun hs => ?_
   have hr:=(hs.b ha).1;by_cases er:r=k
   ·subst er;rw [zal k0 (by omega),hb]
    constructor
    ·rintro (h1 | ⟨h1,_⟩)
     ·exact h1.imp id (fun h=>⟨Int.le_refl _,h⟩)
     ·omega
    ·rintro (h1 | ⟨_,h1⟩)
     ·exact .inl (.inl h1)
     ·exact .inl (.inr h1)
   ·rw [zak k0 hr.1 (fun hh=>er hh.symm)]
    exact or_congr Iff.rfl (and_congr (by omega) Iff.rfl)
  by_cases c:ix g k=true
  ·refine fin true (by simp [c]) ?_
   conv=>lhs;rw [zdy];unfold zbg
   rw [if_pos (decide_eq_true (by omega)),zab (by omega),zab (by omega),if_pos c,zab (by omega),zab (by omega),zab (by unfold fits;omega)]
  ·by_cases c2:ix p k=true
   ·refine fin (ix F k) (by rw [hF.2 k k0 (by omega)];simp [c,c2]) ?_
    have:=hF.1
    conv=>lhs;rw [zdy];unfold zbg
    rw [if_pos (decide_eq_true (by omega)),zab (by omega),zab (by omega),if_neg c,zab (by omega),zab (by omega),if_pos c2,zab (by omega),zab (by omega),zab (by omega),zab (by unfold fits;omega)]
   ·refine fin false (by simp [c,c2]) ?_
    conv=>lhs;rw [zdy];unfold zbg
    rw [if_pos (decide_eq_true (by omega)),zab (by omega),zab (by omega),if_neg c,zab (by omega),zab (by omega),if_neg c2,zab (by omega),zab (by omega),zab (by unfold fits;omega)]
theorem zyQ (ha:AuOk a) {p g:List Bool} (hp:(p.length:Int)=a.2.1) (hg:(g.length:Int)=a.2.1) {r5:RB}:∀ (m:Nat) (k:Int) (ag:Bool) (P Q:List Bool),0<=k->k+m=a.2.1->(P.length:Int)=a.2.1->(Q.length:Int)=a.2.1->
  ∃ ag' P' Q',zaH a r5 p g ag k P Q=r5 ag' P' Q'/\(P'.length:Int)=a.2.1/\(Q'.length:Int)=a.2.1/\
   (∀ q:Int,0<=q->q < a.2.1->(ix P' q=true↔ix P q=true\/(k<=q/\ix p q=true)))/\(∀ q:Int,0<=q->q < a.2.1->(ix Q' q=true↔ix Q q=true\/(k<=q/\ix g q=true)))/\
   (ag'=true↔ag=true\/∃ q:Int,k<=q/\q < a.2.1/\((ix p q=true /\ ¬ ix P q=true)\/(ix g q=true /\ ¬ ix Q q=true))):=by
 have hn:=ha.n1;intro m
 induction m with
 | zero=>
  intro k ag P Q k0 hk hP hQ;refine ⟨ag,P,Q,?_,hP,hQ,fun q q0 q1 => ?_,fun q q0 q1 => ?_,?_⟩
  ·rw [zbQ];unfold zaN;rw [if_neg (by simp only [decide_eq_true_eq];omega)]
  ·exact ⟨.inl,fun hh=>hh.elim id (fun hh=>by omega)⟩
  ·exact ⟨.inl,fun hh=>hh.elim id (fun hh=>by omega)⟩
  ·exact ⟨.inl,fun hh=>hh.elim id (fun ⟨q,h1,h2,_⟩=>by omega)⟩
 | succ m ih=>
  intro k ag P Q k0 hk hP hQ;have J24:∀ ag2 P2,zcD g k Q (zaH a r5 p g) ag2 P2=zaH a r5 p g ag2 (k+1) P2 (Q.set k.toNat (ix Q k || ix g k)):=by
   intro ag2 P2;unfold zcD;rw [zab (by omega),zab (by omega)]
   by_cases c:ix Q k=true
   ·rw [if_pos c,zab (by omega),zab (by omega),zab (by unfold fits;omega),c];rfl
   ·rw [if_neg c,zab (by omega),zab (by omega),zab (by omega),zab (by omega),zab (by unfold fits;omega),Bool.eq_false_iff.2 c];rfl
  have J23:∀ ag2,za6 p g k P Q (zaH a r5 p g) ag2=zaH a r5 p g ag2 (k+1) (P.set k.toNat (ix P k || ix p k)) (Q.set k.toNat (ix Q k || ix g k)):=by
   intro ag2;unfold za6;rw [zab (by omega),zab (by omega)]
   by_cases c:ix P k=true
   ·rw [if_pos c,zab (by omega),zab (by omega),J24,c];rfl
   ·rw [if_neg c,zab (by omega),zab (by omega),zab (by omega),zab (by omega),J24,Bool.eq_false_iff.2 c];rfl
  obtain ⟨ag2,hag2,e⟩:∃ ag2,(ag2=true↔ag=true\/(ix p k=true /\ ¬ ix P k=true)\/(ix g k=true /\ ¬ ix Q k=true))/\zaH a r5 p g ag k P Q=za6 p g k P Q (zaH a r5 p g) ag2:=by
   by_cases c0:ag=true
   ·refine ⟨true,by simp [c0],?_⟩
    rw [zbQ];unfold zaN;rw [if_pos (decide_eq_true (by omega)),if_pos c0]
   by_cases c1:ix p k=true
   ·by_cases c2:ix P k=true
    ·by_cases c3:ix g k=true
     ·refine ⟨!(ix Q k),by simp [c0,c2,c3],?_⟩
      rw [zbQ];unfold zaN;rw [if_pos (decide_eq_true (by omega)),if_neg c0,zab (by omega),zab (by omega),if_pos c1,zab (by omega),zab (by omega),if_neg (by simp [c2]),zab (by omega),zab (by omega),if_pos c3,zab (by omega),zab (by omega)]
     ·refine ⟨false,by simp [c0,c2,c3],?_⟩
      rw [zbQ];unfold zaN;rw [if_pos (decide_eq_true (by omega)),if_neg c0,zab (by omega),zab (by omega),if_pos c1,zab (by omega),zab (by omega),if_neg (by simp [c2]),zab (by omega),zab (by omega),if_neg c3]
    ·refine ⟨true,by simp [c1,c2],?_⟩
     rw [zbQ];unfold zaN;rw [if_pos (decide_eq_true (by omega)),if_neg c0,zab (by omega),zab (by omega),if_pos c1,zab (by omega),zab (by omega),if_pos (by simp [c2])]
   ·by_cases c3:ix g k=true
    ·refine ⟨!(ix Q k),by simp [c0,c1,c3],?_⟩
     rw [zbQ];unfold zaN;rw [if_pos (decide_eq_true (by omega)),if_neg c0,zab (by omega),zab (by omega),if_neg c1,zab (by omega),zab (by omega),if_pos c3,zab (by omega),zab (by omega)]
    ·refine ⟨false,by simp [c0,c1,c3],?_⟩
     rw [zbQ];unfold zaN;rw [if_pos (decide_eq_true (by omega)),if_neg c0,zab (by omega),zab (by omega),if_neg c1,zab (by omega),zab (by omega),if_neg c3]
  obtain ⟨ag',P',Q',e',l1,l2,s1,s2,s3⟩:=ih (k+1) ag2 (P.set k.toNat (ix P k || ix p k)) (Q.set k.toNat (ix Q k || ix g k)) (by omega) (by omega) (by rw [List.length_set];exact hP) (by rw [List.length_set];exact hQ)
  have st:∀ (P p:List Bool),(P.length:Int)=a.2.1->∀ q:Int,0<=q->(ix (P.set k.toNat (ix P k || ix p k)) q=true\/(k+1<=q/\ix p q=true)↔ix P q=true\/(k<=q/\ix p q=true)):=by
   intro P p hP q q0;by_cases eq:q=k
   ·subst eq;rw [zal k0 (by omega),Bool.or_eq_true]
    constructor
    ·rintro ((h1 | h1) | ⟨h1,_⟩)
     ·exact .inl h1
     ·exact .inr ⟨Int.le_refl _,h1⟩
     ·omega
    ·rintro (h1 | ⟨_,h1⟩)
     ·exact .inl (.inl h1)
     ·exact .inl (.inr h1)
   ·rw [zak k0 q0 (fun hh=>eq hh.symm)]
    exact or_congr Iff.rfl (and_congr (by omega) Iff.rfl)
  refine ⟨ag',P',Q',by rw [e,J23];exact e',l1,l2,fun q q0 q1=>(s1 q q0 q1).trans (st P p hP q q0),fun q q0 q1=>(s2 q q0 q1).trans (st Q g hQ q q0),?_⟩
  rw [s3,hag2];constructor
  ·rintro ((h1 | h1) | ⟨q,h1,h2,h3⟩)
   ·exact .inl h1
   ·exact .inr ⟨k,Int.le_refl _,by omega,h1⟩
   ·rw [zak k0 (by omega) (by omega),zak k0 (by omega) (by omega)] at h3
    exact .inr ⟨q,by omega,h2,h3⟩
  ·rintro (h1 | ⟨q,h1,h2,h3⟩)
   ·exact .inl (.inl h1)
   ·by_cases eq:q=k
    ·rw [eq] at h3;exact .inl (.inr h3)
    ·refine .inr ⟨q,by omega,h2,?_⟩
     rw [zak k0 (by omega) (by omega),zak k0 (by omega) (by omega)]
     exact h3
end
section
variable {a:Au} {u:Nat->Int} {h len:Nat}
def Ms (a:Au) (B:List Bool) (x:Int):Prop:=(0<=x/\x < a.2.1)/\ix B x=true
structure RInv (a:Au) (u:Nat->Int) (h:Nat) (P Q:List Bool) (i:Nat) (p g:List Bool):Prop where
 lp:(p.length:Int)=a.2.1
 lg:(g.length:Int)=a.2.1
 p:∀ q:Int,0<=q->q < a.2.1->(ix p q=true↔∃ x,Ms a P x/\Wt a u i h x q)
 g:∀ q:Int,0<=q->q < a.2.1->(ix g q=true↔(∃ x,Ms a Q x/\Wt a u i h x q)\/∃ x,Ms a P x/\Wf a u i h x q)
theorem zyL (ha:AuOk a) {F:List Bool} (hF:FinB a F) {loop:List Int} (hlen:loop.length<=1000) (hL:loop.length=len) (hw:∀ i:Nat,i < len->ix loop (i:Int)=u (h+i)) {q:Int} (q0:0<=q) (q1:q < a.2.1) {P Q:List Bool} {r5:RB}:
  ∀ (m i:Nat) (p g:List Bool),i+m=len->RInv a u h P Q i p g->∃ p' g',zcj a loop F q P Q r5 (i:Int) p g=(if ix g' q=true then some true else zaH a r5 p' g' false 0 P Q)/\RInv a u h P Q len p' g':=by
 intro m
 induction m with
 | zero=>
  intro i p g hi hr;have:i=len:=by omega
  subst this;have:=hr.lg;refine ⟨p,g,?_,hr⟩
  rw [ziK];unfold zb5;rw [if_neg (by simp only [decide_eq_true_eq];omega),zab (by omega),zab (by omega)]
 | succ m ih=>
  intro i p g hi hr;have hn:=ha.n1;obtain ⟨p1,g1,e1,l1,l2,s1,s2⟩:=zyN ha (L:=p) (i:=(i:Int)) hF hr.lp (loop:=loop) (r10:=zcj a loop F q P Q r5) (by omega) (by omega) hlen a.2.1.toNat 0 g (by omega) (by omega) hr.lg
  have hwi:=hw i (by omega)
  have hr1:RInv a u h P Q (i+1) p1 g1:=by
   refine ⟨l1,l2,fun y y0 y1 => ?_,fun y y0 y1 => ?_⟩
   ·rw [s1 y y0 y1,hwi];constructor
    ·rintro ⟨r,h1,h2⟩;have hb:=(h2.b ha).1;obtain ⟨x,hx,hxr⟩:=(hr.p r hb.1 hb.2).1 h1;exact ⟨x,hx,Wt.snoc.2 ⟨r,hxr,h2⟩⟩
    ·rintro ⟨x,hx,h1⟩;obtain ⟨r,h2,h3⟩:=Wt.snoc.1 h1;have hb:=(h3.b ha).1;exact ⟨r,(hr.p r hb.1 hb.2).2 ⟨x,hx,h2⟩,h3⟩
   ·rw [s2 y y0 y1,hwi];constructor
    ·rintro ⟨r,h1,h2⟩;have hb:=(h2.b ha).1;rcases h1 with h1 | ⟨_,h1,hf⟩
     ·rcases (hr.g r hb.1 hb.2).1 h1 with ⟨x,hx,hxr⟩ | ⟨x,hx,hxr⟩
      ·exact .inl ⟨x,hx,Wt.snoc.2 ⟨r,hxr,h2⟩⟩
      ·exact .inr ⟨x,hx,Wf.snoc.2 ⟨r,.inl hxr,h2⟩⟩
     ·obtain ⟨x,hx,hxr⟩:=(hr.p r hb.1 hb.2).1 h1;exact .inr ⟨x,hx,Wf.snoc.2 ⟨r,.inr ⟨hxr,hf⟩,h2⟩⟩
    ·rintro (⟨x,hx,h1⟩ | ⟨x,hx,h1⟩)
     ·obtain ⟨r,h2,h3⟩:=Wt.snoc.1 h1;have hb:=(h3.b ha).1;exact ⟨r,.inl ((hr.g r hb.1 hb.2).2 (.inl ⟨x,hx,h2⟩)),h3⟩
     ·obtain ⟨r,h2,h3⟩:=Wf.snoc.1 h1;have hb:=(h3.b ha).1;rcases h2 with h2 | ⟨h2,hf⟩
      ·exact ⟨r,.inl ((hr.g r hb.1 hb.2).2 (.inr ⟨x,hx,h2⟩)),h3⟩
      ·exact ⟨r,.inr ⟨hb.1,(hr.p r hb.1 hb.2).2 ⟨x,hx,h2⟩,hf⟩,h3⟩
  obtain ⟨p',g',e',h'⟩:=ih (i+1) p1 g1 (by omega) hr1
  refine ⟨p',g',?_,h'⟩
  rw [<- e',ziK];unfold zb5;rw [if_pos (decide_eq_true (by omega)),e1]
  rfl
open Classical in
theorem zAp (ha:AuOk a) {F:List Bool} (hF:FinB a F) {loop:List Int} (hlen:loop.length<=1000) (hL:loop.length=len) (hw:∀ i:Nat,i < len->ix loop (i:Int)=u (h+i)) {q:Int} (q0:0<=q) (q1:q < a.2.1):
  ∀ (f:Nat) (P Q:List Bool),nots (ix P) a.2.1.toNat+nots (ix Q) a.2.1.toNat=f->(P.length:Int)=a.2.1->(Q.length:Int)=a.2.1->ix P q=true->(∀ k,Ms a P k->Star (Rd a u h len) q k)->
   (∀ k,Ms a Q k->∃ x y,Star (Rd a u h len) q x/\Rf a u h len x y/\Star (Rd a u h len) y k)->zcE a loop F q true P Q=some (decide (zjy a u h len q)):=by
 intro f
 induction f using Nat.strongRecOn with
 | _ f ih=>
 intro P Q hf hP hQ hPq iP iQ;have hn:=ha.n1;have start:RInv a u h P Q 0 P Q:=by
  refine ⟨hP,hQ,fun y y0 y1 => ?_,fun y y0 y1 => ?_⟩
  ·exact ⟨fun hh=>⟨y,⟨⟨y0,y1⟩,hh⟩,rfl⟩,fun ⟨x,hx,e⟩=>by cases e;exact hx.2⟩
  ·refine ⟨fun hh => .inl ⟨y,⟨⟨y0,y1⟩,hh⟩,rfl⟩,?_⟩
   rintro (⟨x,hx,e⟩ | ⟨x,hx,i,f,hi,_⟩)
   ·cases e;exact hx.2
   ·omega
 obtain ⟨p,g,e1,hr⟩:=zyL ha hF hlen hL hw q0 q1 (P:=P) (Q:=Q) (r5:=zcE a loop F q) len 0 P Q (by omega) start
 have e0:zcE a loop F q true P Q=(if ix g q=true then some true else zaH a (zcE a loop F q) p g false 0 P Q):=by
  rw [zjS];unfold zcq;rw [if_pos rfl,zab (by unfold room;simp;omega),zab (by unfold room;simp;omega),List.nil_append,List.nil_append]
  exact e1
 have sg:∀ y,0<=y->y < a.2.1->ix g y=true->∃ x z,Star (Rd a u h len) q x/\Rf a u h len x z/\Star (Rd a u h len) z y:=by
  intro y y0 y1 hy;rcases (hr.g y y0 y1).1 hy with ⟨x,hx,hxy⟩ | ⟨x,hx,hxy⟩
  ·obtain ⟨v,z,h1,h2,h3⟩:=iQ x hx;exact ⟨v,z,h1,h2,h3.tail hxy⟩
  ·exact ⟨x,y,iP x hx,hxy,.refl y⟩
 rw [e0];by_cases c:ix g q=true
 ·rw [if_pos c,decide_eq_true (show zjy a u h len q from sg q q0 q1 c)]
 ·rw [if_neg c];obtain ⟨ag,P',Q',e2,l1,l2,s1,s2,s3⟩:=zyQ ha hr.lp hr.lg (r5:=zcE a loop F q) a.2.1.toNat 0 false P Q (by omega) (by omega) hP hQ
  rw [e2]
  cases ag with
  | true=>
   have h3:=s3.1 rfl;have mP:∀ k:Int,0<=k->k < (a.2.1.toNat:Int)->ix P k=true->ix P' k=true:=fun k k0 k1 hk=>(s1 k k0 (by omega)).2 (.inl hk)
   have mQ:∀ k:Int,0<=k->k < (a.2.1.toNat:Int)->ix Q k=true->ix Q' k=true:=fun k k0 k1 hk=>(s2 k k0 (by omega)).2 (.inl hk)
   have hlt:nots (ix P') a.2.1.toNat+nots (ix Q') a.2.1.toNat < f:=by
    rcases h3 with h3 | ⟨k,k0,k1,h3 | h3⟩
    ·cases h3
    ·have:=zrr mP ⟨k,k0,by omega,(s1 k k0 k1).2 (.inr ⟨k0,h3.1⟩),h3.2⟩
     have:=zrq mQ;omega
    ·have:=zrr mQ ⟨k,k0,by omega,(s2 k k0 k1).2 (.inr ⟨k0,h3.1⟩),h3.2⟩
     have:=zrq mP;omega
   refine ih _ hlt P' Q' rfl l1 l2 ((s1 q q0 q1).2 (.inl hPq)) (fun k hk => ?_) (fun k hk => ?_)
   ·rcases (s1 k hk.1.1 hk.1.2).1 hk.2 with h4 | ⟨_,h4⟩
    ·exact iP k ⟨hk.1,h4⟩
    ·obtain ⟨x,hx,hxk⟩:=(hr.p k hk.1.1 hk.1.2).1 h4;exact (iP x hx).tail hxk
   ·rcases (s2 k hk.1.1 hk.1.2).1 hk.2 with h4 | ⟨_,h4⟩
    ·exact iQ k ⟨hk.1,h4⟩
    ·exact sg k hk.1.1 hk.1.2 h4
  | false=>
   have hno:∀ k:Int,0<=k->k < a.2.1->(ix p k=true->ix P k=true)/\(ix g k=true->ix Q k=true):=fun k k0 k1=>by
    constructor
    ·intro h1;by_cases h2:ix P k=true
     ·exact h2
     ·have:=s3.2 (.inr ⟨k,k0,k1,.inl ⟨h1,h2⟩⟩);cases this
    ·intro h1;by_cases h2:ix Q k=true
     ·exact h2
     ·have:=s3.2 (.inr ⟨k,k0,k1,.inr ⟨h1,h2⟩⟩);cases this
   have hnr : ¬ zjy a u h len q:=by
    rintro ⟨x,y,h1,h2,h3⟩;have inP:∀ x,Star (Rd a u h len) q x->Ms a P x:=by
     intro x hx
     induction hx with
     | refl=>exact ⟨⟨q0,q1⟩,hPq⟩
     | tail _ r ih=>
      have hb:=Wt.b ha r ih.1.1 ih.1.2;exact ⟨hb,(hno _ hb.1 hb.2).1 ((hr.p _ hb.1 hb.2).2 ⟨_,ih,r⟩)⟩
    have hx:=inP x h1;have hyb:=Wt.b ha h2.rd hx.1.1 hx.1.2;have hyg:=(hr.g y hyb.1 hyb.2).2 (.inr ⟨x,hx,h2⟩);have inG:∀ z,Star (Rd a u h len) y z->(0<=z/\z < a.2.1)/\ix g z=true:=by
     intro z hz
     induction hz with
     | refl=>exact ⟨hyb,hyg⟩
     | tail _ r ih=>
      have hb:=Wt.b ha r ih.1.1 ih.1.2;exact ⟨hb,(hr.g _ hb.1 hb.2).2 (.inl ⟨_,⟨ih.1,(hno _ ih.1.1 ih.1.2).2 ih.2⟩,r⟩)⟩
    exact c (inG q h3).2
   rw [decide_eq_false hnr,zjS];unfold zcq;rw [if_neg (by decide)]
open Classical in
theorem zvQ (ha:AuOk a) {F:List Bool} (hF:FinB a F) {loop:List Int} (hlen:loop.length<=1000) (hL:loop.length=len) (hw:∀ i:Nat,i < len->ix loop (i:Int)=u (h+i)) {q:Int} (q0:0<=q) (q1:q < a.2.1):zn2 a loop F q=some (decide (zjy a u h len q)):=by
 have hn:=ha.n1;have hl:((List.replicate a.2.1.toNat false).length:Int)=a.2.1:=by rw [List.length_replicate];omega
 unfold zn2;rw [zab (by unfold mkOK;omega),zab (by unfold mkOK;omega),zab (by omega),zab (by omega)]
 refine zAp ha hF hlen hL hw q0 q1 _ _ _ rfl (by rw [List.length_set];exact hl) hl (zal q0 (by omega)) (fun k hk => ?_) (fun k hk => ?_)
 ·by_cases e:k=q
  ·rw [e];exact .refl _
  ·have:=hk.2;rw [zak q0 hk.1.1 (fun hh=>e hh.symm),zc9 hk.1.1 (by have:=hk.1.2;omega)] at this
   cases this
 ·have:=hk.2;rw [zc9 hk.1.1 (by have:=hk.1.2;omega)] at this
  cases this
end
end
end Go.Proofs.Ytobjcafelollfaa.safraDetW
