import Derived.Test.YtiegbkgnhjncdaaSynthAnswersP
set_option maxHeartbeats 1000000
set_option maxRecDepth 20000
set_option linter.unusedSimpArgs false
set_option linter.unusedVariables false
set_option linter.unusedSectionVars false
namespace Go.Proofs.Ytiegbkgnhjncdaa.synthAnswersW
open Go Go.Ab
noncomputable section
def kp (l:List Nd):Nat->Int
 | 0=>0
 | t+1=>if (ix l (t:Int)).2.2.2.1=true then kp l t else kp l t+1
section
variable {l:List Nd}
theorem zqY:∀ t:Nat,0<=kp l t/\kp l t<=t
 | 0=>by unfold kp;omega
 | t+1=>by
  have:=zqY t;unfold kp;split<;>omega
theorem zz6 {s t:Nat} (h:s<=t):kp l s<=kp l t:=by
 induction t with
 | zero=>
  obtain rfl:s=0:=by omega
  exact Int.le_refl _
 | succ t a=>
  by_cases e:s=t+1
  ·rw [e];exact Int.le_refl _
  ·have:=a (by omega);show kp l s<=kp l (t+1);rw [kp];split<;>omega
theorem zBu {s t:Nat} (h:s < t) (a : ¬ (ix l (s:Int)).2.2.2.1=true):kp l s < kp l t:=by
 have b:kp l (s+1)=kp l s+1:=by rw [kp,if_neg a]
 have:=zz6 (l:=l) (s:=s+1) (t:=t) h;omega
theorem kp_eq {t:Nat} (h:∀ j,j < t -> ¬ (ix l ((j:Nat):Int)).2.2.2.1=true):kp l t=t:=by
 induction t with
 | zero=>rfl
 | succ t a=>
  rw [kp,if_neg (h t (by omega)),a (fun j b=>h j (by omega))];omega
theorem zDc {s t:Nat} (h:s < t) (a:(ix l (s:Int)).2.2.2.1=true):kp l t < t:=by
 induction t with
 | zero=>omega
 | succ t b=>
  by_cases e:s=t
  ·subst e;rw [kp,if_pos a];have:=zqY (l:=l) s;omega
  ·have:=b (by omega);rw [kp];split<;>omega
theorem zwZ {t:Nat} {k:Int} (k0:0<=k) (a:k < kp l t):∃ s:Nat,s < t /\ ¬ (ix l (s:Int)).2.2.2.1=true/\kp l s=k:=by
 induction t with
 | zero=>unfold kp at a;omega
 | succ t e=>
  by_cases c:k < kp l t
  ·obtain ⟨s,f,d⟩:=e c;exact ⟨s,by omega,d⟩
  ·by_cases b:(ix l (t:Int)).2.2.2.1=true
   ·rw [kp,if_pos b] at a;exact absurd a c
   ·rw [kp,if_neg b] at a;exact ⟨t,by omega,b,by omega⟩
end
structure MkTo (l:List Nd) (t:Int) (m:Int):Prop where
 gone:∀ i:Int,0<=i->i < t->(ix l i).2.2.1=true->(ix l i).2.2.2.1=true->m<=2 * i+1
 fl:∀ i:Int,0<=i->i < t->(ix l i).2.2.1=true->(ix l i).2.2.2.1=false->(ix l i).2.2.2.2.1=true->m<=2 * i+2
 is:m=9\/(∃ i:Int,(0<=i/\i < t)/\(ix l i).2.2.1=true/\(ix l i).2.2.2.1=true/\m=2 * i+1)\/∃ i:Int,(0<=i/\i < t)/\(ix l i).2.2.1=true/\(ix l i).2.2.2.1=false/\(ix l i).2.2.2.2.1=true/\m=2 * i+2
 le:m<=9
structure TdTo (l:List Nd) (t:Nat) (L A N:List Int):Prop where
 lL:L.length=4
 lA:A.length=4
 lN:N.length=12
 lab:∀ j:Nat,j < t -> ¬ (ix l (j:Int)).2.2.2.1=true->ix L (kp l j)=(ix l (j:Int)).1
 abv:∀ j:Nat,j < t -> ¬ (ix l (j:Int)).2.2.2.1=true->ix A (kp l j)=if 0<=(ix l (j:Int)).2.1 then kp l (ix l (j:Int)).2.1.toNat else -1
 now:∀ j:Nat,j < t -> ¬ (ix l (j:Int)).2.2.2.1=true->ix N (j:Int)=kp l j
 fill:∀ k:Int,kp l t<=k->k < 4->ix L k=0/\ix A k=0
theorem zw0 {L:List Int} (h:L.length=4):[L.getD 0 0,L.getD 1 0,L.getD 2 0,L.getD 3 0]=L:=by
 match L,h with
 | [a,b,c,d],_=>rfl
theorem zAa {L:List Int} (h:L.length=12):[L.getD 0 0,L.getD 1 0,L.getD 2 0,L.getD 3 0,L.getD 4 0,L.getD 5 0,L.getD 6 0,L.getD 7 0,L.getD 8 0,L.getD 9 0,L.getD 10 0,L.getD 11 0]=L:=by
 match L,h with
 | [a,b,c,d,e,f,g,i,j,k,m,n],_=>rfl
def zsR (l:List Nd) (t c:Int) (L A:List Int) (m:Int) (N:List Int):=zee l t c (L.getD 0 0) (L.getD 1 0) (L.getD 2 0) (L.getD 3 0) (A.getD 0 0) (A.getD 1 0) (A.getD 2 0) (A.getD 3 0) m (N.getD 0 0) (N.getD 1 0) (N.getD 2 0) (N.getD 3 0) (N.getD 4 0) (N.getD 5 0) (N.getD 6 0) (N.getD 7 0) (N.getD 8 0) (N.getD 9 0) (N.getD 10 0) (N.getD 11 0)
section
variable {l:List Nd}
theorem zAQ (O:l.length<=8) {t:Nat} (B:(t:Int) < l.length) (W:(ix l (t:Int)).2.1 < t) (Y:kp l (t+1)<=4) {L A N:List Int} {m:Int} (h:TdTo l t L A N) (o:MkTo l t m) (F : ¬ (ix l (t:Int)).2.2.2.1=true->0<=(ix l (t:Int)).2.1 -> ¬ (ix l (ix l (t:Int)).2.1).2.2.2.1=true):
  ∃ P Q R p,TdTo l (t+1) P Q R/\MkTo l ((t:Int)+1) p/\zsR l t (kp l t) L A m N=zsR l ((t:Int)+1) (kp l (t+1)) P Q p R:=by
 have u:=zqY (l:=l) t;obtain ⟨p,x,z⟩:∃ p,MkTo l ((t:Int)+1) p/\zsR l t (kp l t) L A m N=zbj l t (N.getD 0 0) (N.getD 1 0) (N.getD 2 0) (N.getD 3 0) (N.getD 4 0) (N.getD 5 0) (N.getD 6 0) (N.getD 7 0) (N.getD 8 0) (N.getD 9 0) (N.getD 10 0) (N.getD 11 0) (zee l) (kp l t) (L.getD 0 0) (L.getD 1 0) (L.getD 2 0) (L.getD 3 0) (A.getD 0 0) (A.getD 1 0) (A.getD 2 0) (A.getD 3 0) p:=by
  have up:∀ {i:Int},i < (t:Int)+1->i≠t->i < t:=fun f Z=>by omega
  cases q:(ix l (t:Int)).2.2.1 with
  | false=>
   refine ⟨m,⟨fun i d g a b => ?_,fun i d g a b c => ?_,?_,o.le⟩,?_⟩
   ·by_cases e:i=t
    ·rw [e,q] at a;cases a
    ·exact o.gone i d (up g e) a b
   ·by_cases e:i=t
    ·rw [e,q] at a;cases a
    ·exact o.fl i d (up g e) a b c
   ·rcases o.is with f | ⟨i,⟨d,g⟩,f⟩ | ⟨i,⟨d,g⟩,f⟩
    ·exact .inl f
    ·exact .inr (.inl ⟨i,⟨d,by omega⟩,f⟩)
    ·exact .inr (.inr ⟨i,⟨d,by omega⟩,f⟩)
   ·unfold zsR;rw [zdN];unfold zbo;rw [if_pos (decide_eq_true B),zab (by omega),q,if_neg (by simp)]
  | true=>
   cases n:(ix l (t:Int)).2.2.2.1 with
   | true=>
    refine ⟨imin m (2 * (t:Int)+1),⟨fun i d g a b => ?_,fun i d g a b c => ?_,?_,?_⟩,?_⟩
    ·unfold imin;by_cases e:i=t
     ·subst e;split<;>omega
     ·have:=o.gone i d (up g e) a b;split<;>omega
    ·unfold imin;by_cases e:i=t
     ·rw [e,n] at b;cases b
     ·have:=o.fl i d (up g e) a b c;split<;>omega
    ·unfold imin;split
     ·exact .inr (.inl ⟨t,by omega,q,n,rfl⟩)
     ·rcases o.is with f | ⟨i,⟨d,g⟩,f⟩ | ⟨i,⟨d,g⟩,f⟩
      ·exact .inl f
      ·exact .inr (.inl ⟨i,⟨d,by omega⟩,f⟩)
      ·exact .inr (.inr ⟨i,⟨d,by omega⟩,f⟩)
    ·have:=o.le;unfold imin;split<;>omega
    ·unfold zsR;rw [zdN];unfold zbo;rw [if_pos (decide_eq_true B),zab (by omega),q,if_pos rfl,n,if_pos rfl,zab (by unfold fits;omega),zab (by unfold fits;omega)]
   | false=>
    cases E:(ix l (t:Int)).2.2.2.2.1 with
    | true=>
     refine ⟨imin m (2 * (t:Int)+2),⟨fun i d g a b => ?_,fun i d g a b c => ?_,?_,?_⟩,?_⟩
     ·unfold imin;by_cases e:i=t
      ·rw [e,n] at b;cases b
      ·have:=o.gone i d (up g e) a b;split<;>omega
     ·unfold imin;by_cases e:i=t
      ·subst e;split<;>omega
      ·have:=o.fl i d (up g e) a b c;split<;>omega
     ·unfold imin;split
      ·exact .inr (.inr ⟨t,by omega,q,n,E,rfl⟩)
      ·rcases o.is with f | ⟨i,⟨d,g⟩,f⟩ | ⟨i,⟨d,g⟩,f⟩
       ·exact .inl f
       ·exact .inr (.inl ⟨i,⟨d,by omega⟩,f⟩)
       ·exact .inr (.inr ⟨i,⟨d,by omega⟩,f⟩)
     ·have:=o.le;unfold imin;split<;>omega
     ·unfold zsR;rw [zdN];unfold zbo;rw [if_pos (decide_eq_true B),zab (by omega),q,if_pos rfl,n,if_neg (by simp),E,if_pos rfl,zab (by unfold fits;omega),zab (by unfold fits;omega)]
    | false=>
     refine ⟨m,⟨fun i d g a b => ?_,fun i d g a b c => ?_,?_,o.le⟩,?_⟩
     ·by_cases e:i=t
      ·rw [e,n] at b;cases b
      ·exact o.gone i d (up g e) a b
     ·by_cases e:i=t
      ·rw [e,E] at c;cases c
      ·exact o.fl i d (up g e) a b c
     ·rcases o.is with f | ⟨i,⟨d,g⟩,f⟩ | ⟨i,⟨d,g⟩,f⟩
      ·exact .inl f
      ·exact .inr (.inl ⟨i,⟨d,by omega⟩,f⟩)
      ·exact .inr (.inr ⟨i,⟨d,by omega⟩,f⟩)
     ·unfold zsR;rw [zdN];unfold zbo;rw [if_pos (decide_eq_true B),zab (by omega),q,if_pos rfl,n,if_neg (by simp),E,if_neg (by simp)]
 rw [z];by_cases n:(ix l (t:Int)).2.2.2.1=true
 ·have I:kp l (t+1)=kp l t:=by rw [kp,if_pos n]
  refine ⟨L,A,N,p,⟨h.lL,h.lA,h.lN,fun j w a => ?_,fun j w a => ?_,fun j w a => ?_,fun k k0 H=>h.fill k (by omega) H⟩,x,?_⟩
  ·by_cases e:j=t
   ·rw [e] at a;exact absurd n a
   ·exact h.lab j (by omega) a
  ·by_cases e:j=t
   ·rw [e] at a;exact absurd n a
   ·exact h.abv j (by omega) a
  ·by_cases e:j=t
   ·rw [e] at a;exact absurd n a
   ·exact h.now j (by omega) a
  ·unfold zbj zcC zsR;rw [if_pos n,zab (by unfold fits;omega),I]
 ·have I:kp l (t+1)=kp l t+1:=by rw [kp,if_neg n]
  have hN:=h.lN;have J:=h.lL;have D:=h.lA;obtain ⟨v,V,s⟩:∃ v,v=(if 0<=(ix l (t:Int)).2.1 then kp l (ix l (t:Int)).2.1.toNat else -1)/\zbj l t (N.getD 0 0) (N.getD 1 0) (N.getD 2 0) (N.getD 3 0) (N.getD 4 0) (N.getD 5 0) (N.getD 6 0) (N.getD 7 0) (N.getD 8 0) (N.getD 9 0) (N.getD 10 0) (N.getD 11 0) (zee l) (kp l t) (L.getD 0 0) (L.getD 1 0) (L.getD 2 0) (L.getD 3 0) (A.getD 0 0) (A.getD 1 0) (A.getD 2 0) (A.getD 3 0) p=zsR l ((t:Int)+1) (kp l t+1) (L.set (kp l t).toNat (ix l (t:Int)).1) (A.set (kp l t).toNat v) p (N.set t (kp l t)):=by
   have r:∀ (X:List Int) (k:Nat) (y:Int),X.length=4->(X.set k y).length=4:=fun X k y T=>by rw [List.length_set,T]
   have M:(N.set ((t:Int)).toNat (kp l t)).length=12:=by rw [List.length_set,hN]
   by_cases c:0<=(ix l (t:Int)).2.1
   ·refine ⟨_,rfl,?_⟩;unfold zbj zdc zcC;rw [if_neg n,zab (by omega),zab (by omega),zab (by omega),zab (by omega),zab (by omega),zab (by omega),if_pos (decide_eq_true c),zab (by omega),zab (by omega),zab (by omega),zab (by omega),zab (by unfold fits;omega),zab (by unfold fits;omega)];rw [zw0 J,zw0 D,zAa hN,zw0 (r _ _ _ D),zAa M,List.set_set,if_pos c];have ev:(N.set ((t:Int)).toNat (kp l t)).getD (ix l (t:Int)).2.1.toNat 0=kp l (ix l (t:Int)).2.1.toNat:=by
     obtain ⟨j,C⟩:∃ j:Nat,(ix l (t:Int)).2.1=j:=⟨_,(Int.toNat_of_nonneg c).symm⟩;have U:=h.now j (by omega) (by rw [<- C];exact F n c);show ix (N.set ((t:Int)).toNat (kp l t)) (ix l (t:Int)).2.1=_;rw [zam (by omega) (by omega) (by omega),C,U];rfl
    rw [ev];rfl
   ·refine ⟨_,rfl,?_⟩;unfold zbj zdc zcC;rw [if_neg n,zab (by omega),zab (by omega),zab (by omega),zab (by omega),zab (by omega),zab (by omega),if_neg (by simpa using c),zab (by unfold fits;omega),zab (by unfold fits;omega)];rw [zw0 J,zw0 D,zAa hN,if_neg c];rfl
  rw [s];have S:∀ j:Nat,j < t -> ¬ (ix l (j:Int)).2.2.2.1=true->kp l j < kp l t:=fun j C a=>zBu C a
  refine ⟨L.set (kp l t).toNat (ix l (t:Int)).1,A.set (kp l t).toNat v,N.set t (kp l t),p,⟨by rw [List.length_set,J],by rw [List.length_set,D],by rw [List.length_set,hN],fun j w a => ?_,fun j w a => ?_,fun j w a => ?_,fun k k0 H => ?_⟩,x,by rw [I]⟩
  ·by_cases e:j=t
   ·rw [e,zak u.1 (by omega)]
   ·have:=S j (by omega) a;have:=(zqY (l:=l) j).1;rw [zam u.1 (by omega) (by omega)];exact h.lab j (by omega) a
  ·by_cases e:j=t
   ·rw [e,zak u.1 (by omega),V]
   ·have:=S j (by omega) a;have:=(zqY (l:=l) j).1;rw [zam u.1 (by omega) (by omega)];exact h.abv j (by omega) a
  ·by_cases e:j=t
   ·rw [e];have:ix (N.set ((t:Int)).toNat (kp l t)) (t:Int)=kp l t:=zak (by omega) (by omega);exact this
   ·have:ix (N.set ((t:Int)).toNat (kp l t)) (j:Int)=ix N (j:Int):=zam (by omega) (by omega) (by omega);exact this.trans (h.now j (by omega) a)
  ·rw [zam u.1 (by omega) (by omega),zam u.1 (by omega) (by omega)];exact h.fill k (by omega) H
theorem zAP (e:l.length<=8) (r:∀ k:Int,0<=k->k < l.length->(ix l k).2.1 < k) (g:∀ k:Int,0<=k->k < l.length -> ¬ (ix l k).2.2.2.1=true->0<=(ix l k).2.1 -> ¬ (ix l (ix l k).2.1).2.2.2.1=true) (B:kp l l.length<=4):
  ∃ L A N m,TdTo l l.length L A N/\MkTo l l.length m/\zj2 l=some ((kp l l.length,(L.getD 0 0,L.getD 1 0,L.getD 2 0,L.getD 3 0,()),(A.getD 0 0,A.getD 1 0,A.getD 2 0,A.getD 3 0,()),()),m,()):=by
 have key:∀ (n t:Nat) (L A N:List Int) (m:Int),l.length - t=n->t<=l.length->TdTo l t L A N->MkTo l t m->
   ∃ c d o f,TdTo l l.length c d o/\MkTo l l.length f/\zsR l t (kp l t) L A m N=some ((kp l l.length,(c.getD 0 0,c.getD 1 0,c.getD 2 0,c.getD 3 0,()),(d.getD 0 0,d.getD 1 0,d.getD 2 0,d.getD 3 0,()),()),f,()):=by
  intro n;induction n with
  | zero=>
   intro t L A N m u v h p;obtain rfl:t=l.length:=by omega
   refine ⟨L,A,N,m,h,p,?_⟩;unfold zsR;rw [zdN];unfold zbo;rw [if_neg (by simp)]
  | succ n z=>
   intro t L A N m u v h p;obtain ⟨c,d,o,f,w,x,y⟩:=zAQ e (t:=t) (by omega) (r t (by omega) (by omega)) (by have:=zz6 (l:=l) (s:=t+1) (t:=l.length) (by omega);omega) h p (g t (by omega) (by omega));rw [y];exact z (t+1) c d o f (by omega) (by omega) w x
 exact key _ 0 [0,0,0,0] [0,0,0,0] [0,0,0,0,0,0,0,0,0,0,0,0] 9 rfl (by omega) ⟨rfl,rfl,rfl,fun j q=>by omega,fun j q=>by omega,fun j q=>by omega,fun k k0 C=>by
  have:k=0\/k=1\/k=2\/k=3:=by have:kp l 0=0:=rfl;omega
  rcases this with rfl | rfl | rfl | rfl<;>exact ⟨rfl,rfl⟩⟩ ⟨fun i a b=>by omega,fun i a b=>by omega,.inl rfl,by omega⟩
end
section
variable {l l2:List Nd}
structure Fin2 (l l2:List Nd):Prop where
 c:ClOk l
 f:Fi l l2 l.length
 dis:∀ j k:Int,0<=j->j < k->k < l.length->(ix l j).2.1=(ix l k).2.1->∀ q,bt (ix l j).1 q -> ¬ bt (ix l k).1 q
 root:∀ k:Int,0<=k->k < l.length->(ix l k).2.1 < 0->k=0
theorem Fin2.chain (h:Fin2 l l2) {q:Int}:∀ (n:Nat) (i j:Int),j.toNat<=n->0<=i->i < j->j < l.length->(ix l2 i).2.2.2.1=false->(ix l2 j).2.2.2.1=false->bt (ix l i).1 q->bt (ix l j).1 q->∃ k:Int,i < k/\k<=j/\(ix l2 k).2.2.2.1=false/\(ix l k).2.1=i/\bt (ix l k).1 q:=by
 have m:∀ k:Int,0<=k->k < l.length->(ix l2 k).2.2.2.1=false->0<=(ix l k).2.1->(ix l2 (ix l k).2.1).2.2.2.1=false:=fun k k0 A B C=>by
  cases hh:(ix l2 (ix l k).2.1).2.2.2.1 with
  | false=>rfl
  | true=>have:=(h.f.gn k k0 A).2 (.inr ⟨C,.inl hh⟩);rw [B] at this;cases this
 intro n;induction n with
 | zero=>intro i j D t o;omega
 | succ n y=>
  intro i j D t o p x z w u;have F:=h.c.p j (by omega) p;have H:=h.c.p i t (by omega);have g:0<=(ix l j).2.1:=by
   have:=h.root j (by omega) p;omega
  have r:=m j (by omega) p z g;have s:=h.c.sub j (by omega) p g q u;by_cases e:(ix l j).2.1=i
  ·exact ⟨j,o,Int.le_refl _,z,e,u⟩
  by_cases c:i < (ix l j).2.1
  ·obtain ⟨k,a,b,d⟩:=y i (ix l j).2.1 (by omega) t c (by omega) x r w s;exact ⟨k,a,by omega,d⟩
  exfalso;by_cases E:(ix l i).2.1=(ix l j).2.1
  ·exact h.dis i j t o p E q w u
  by_cases I:(ix l i).2.1 < (ix l j).2.1
  ·obtain ⟨k,a,b,_,d,f⟩:=y (ix l j).2.1 i (by omega) g (by omega) (by omega) r x s w;exact h.dis k j (by omega) (by omega) p d q f u
  ·have v:0<=(ix l i).2.1:=by omega
   obtain ⟨k,a,b,_,d,f⟩:=y (ix l j).2.1 (ix l i).2.1 (by omega) g (by omega) (by omega) r (m i t (by omega) x v) s (h.c.sub i t (by omega) v q w);exact h.dis k j (by omega) (by omega) p d q f u
theorem Fin2.own (h:Fin2 l l2) {i:Int} (a:0<=i) (b:i < l.length) (g:(ix l2 i).2.2.2.1=false):∃ q,bt (ix l i).1 q/\∀ k:Int,0<=k->k < l.length->(ix l2 k).2.2.2.1=false->(ix l k).2.1=i -> ¬ bt (ix l k).1 q:=by
 have e : ¬ (ix l i).1=0:=fun n=>by
  have:=(h.f.gn i a b).2 (.inl n);rw [g] at this;cases this
 cases m:(ix l2 i).2.2.2.2.1 with
 | true=>
  obtain ⟨q,f⟩:=(zu4 (h.c.b i a b)).1 e;refine ⟨q,f,fun k k0 c o d => ?_⟩;have:=(h.f.gn k k0 c).2 (.inr ⟨by omega,.inr (by rw [d];exact m)⟩);rw [o] at this;cases this
 | false=>
  obtain ⟨q,f,j⟩:=(h.f.fc i a b).2 g m;exact ⟨q,f,fun k k0 c _ d p=>j ⟨k,k0,c,d,p⟩⟩
theorem Fin2.own_inj (h:Fin2 l l2) {q:Int} {i j:Int} (g:0<=i) (f:i < j) (m:j < l.length) (n:(ix l2 i).2.2.2.1=false) (o:(ix l2 j).2.2.2.1=false) (p:bt (ix l i).1 q) (r:bt (ix l j).1 q)
  (s:∀ k:Int,0<=k->k < l.length->(ix l2 k).2.2.2.1=false->(ix l k).2.1=i -> ¬ bt (ix l k).1 q):False:=by
 obtain ⟨k,a,b,c,d,e⟩:=h.chain _ i j (Nat.le_refl _) g f m n o p r;exact s k (by omega) (by omega) c d e
theorem Fin2.four (h:Fin2 l l2):kp l2 l.length<=4:=by
 have key:∀ t:Nat,t<=l.length->∃ Q:List Int,Q.Nodup/\(Q.length:Int)=kp l2 t/\∀ q∈Q,(0<=q/\q < 4)/\∃ i:Nat,i < t/\(ix l2 (i:Int)).2.2.2.1=false/\bt (ix l (i:Int)).1 q/\∀ k:Int,0<=k->k < l.length->(ix l2 k).2.2.2.1=false->(ix l k).2.1=i -> ¬ bt (ix l k).1 q:=by
  intro t;induction t with
  | zero=>intro _;exact ⟨[],by simp,rfl,by simp⟩
  | succ t v=>
   intro w;obtain ⟨Q,n,s,m⟩:=v (by omega);cases g:(ix l2 (t:Int)).2.2.2.1 with
   | true=>
    refine ⟨Q,n,by rw [kp,if_pos g];exact s,fun q f => ?_⟩;obtain ⟨a,i,b,c⟩:=m q f;exact ⟨a,i,by omega,c⟩
   | false=>
    obtain ⟨q,f,r⟩:=h.own (i:=(t:Int)) (by omega) (by omega) g;refine ⟨q::Q,?_,?_,fun p o => ?_⟩
    ·rw [List.nodup_cons];refine ⟨fun u => ?_,n⟩;obtain ⟨_,i,b,c,d,e⟩:=m q u;exact h.own_inj (i:=(i:Int)) (j:=(t:Int)) (by omega) (by omega) (by omega) c g d f e
    ·rw [kp,if_neg (by simp [g]),List.length_cons];omega
    ·rcases List.mem_cons.1 o with rfl | o
     ·exact ⟨f.1,t,by omega,g,f,r⟩
     ·obtain ⟨a,i,b,c⟩:=m p o;exact ⟨a,i,by omega,c⟩
 obtain ⟨Q,n,s,m⟩:=key l.length (Nat.le_refl _);have:=zsp (U:=[0,1,2,3]) n (fun q f=>by
  have:=(m q f).1;have:q=0\/q=1\/q=2\/q=3:=by omega
  rcases this with rfl | rfl | rfl | rfl<;>simp)
 simp at this;omega
end
abbrev Tv:=Int×(Int×Int×Int×Int×Unit)×(Int×Int×Int×Int×Unit)×Unit
abbrev Bv:=((Int×Int×Int×Int×Unit)×(Int×Int×Int×Int×Unit)×(Int×Int×Int×Int×Unit)×(Int×Int×Int×Int×Unit)×Unit)×Int×Unit
abbrev rL (t:Tv):List Int:=[t.2.1.1,t.2.1.2.1,t.2.1.2.2.1,t.2.1.2.2.2.1]
abbrev rA (t:Tv):List Int:=[t.2.2.1.1,t.2.2.1.2.1,t.2.2.1.2.2.1,t.2.2.1.2.2.2.1]
def Tr (t:Tv):Tre:=⟨t.1.toNat,fun i q=>bt ((rL t).getD i 0) q,fun i=>(rA t).getD i 0⟩
structure TOk (t:Tv):Prop where
 n:0<=t.1/\t.1<=4
 v:Vld (Tr t)
 b:∀ i,i < 4->B4 ((rL t).getD i 0)
 fill:∀ i:Nat,t.1<=i->i < 4->(rL t).getD i 0=0/\(rA t).getD i 0=0
 rt:0 < t.1->(rA t).getD 0 0 = -1
def nxB (b:Bv) (p letter:Int):Int:=vget (.int .i64) 4 (vget (.pair (.int .i64) (.pair (.int .i64) (.pair (.int .i64) (.pair (.int .i64) .unit)))) 4 b.1 p.toNat) letter.toNat
structure BOk (b:Bv) (letter:Int) (E:Int->Int->Prop) (F:Int->Prop):Prop where
 lt:0<=letter/\letter < 4
 e:∀ p:Int,0<=p->p < 4->B4 (nxB b p letter)/\∀ q,bt (nxB b p letter) q↔E p q
 f:B4 b.2.1/\∀ q,bt b.2.1 q↔F q
section
variable {b:Bv} {letter:Int} {E:Int->Int->Prop} {F:Int->Prop} {t:Tv}
theorem zDx (u:BOk b letter E F) {f:Int} (t0:0<=f) (J:f < 4) {l:List Nd} (hl:l.length<=4) {r3:Int->List Nd->Option (Tv×Int×Unit)} {A:Int}:∀ (n:Nat) (k x:Int),(4 - k).toNat=n->0<=k->k<=4->B4 x->(∀ q,bt x q↔∃ p,p < k/\bt ((rL t).getD f.toNat 0) p/\E p q)->
  ∃ y,B4 y/\(∀ q,bt y q↔∃ p,bt ((rL t).getD f.toNat 0) p/\E p q)/\zbe b t letter f l r3 k x A true false false=r3 (f+1) (l++[(y,A,true,false,false,())]):=by
 intro n;induction n with
 | zero=>
  intro k x w k0 z i j;refine ⟨x,i,fun q=>(j q).trans ⟨fun ⟨p,_,a⟩=>⟨p,a⟩,fun ⟨p,a,c⟩=>⟨p,by have:=a.1;omega,a,c⟩⟩,?_⟩;rw [ze9];unfold za2;rw [if_neg (by simp;omega),zab (by unfold room;simp;omega),zab (by unfold fits;omega)]
 | succ n v=>
  intro k x w k0 z i j;have B:=u.lt;rw [ze9];unfold za2 zbl;rw [if_pos (by simp;omega),zab (by omega),zab (by omega),zab (by omega)];have g:(iand .i64 (ishr .i64 ([t.2.1.1,t.2.1.2.1,t.2.1.2.2.1,t.2.1.2.2.2.1].getD ((f).toNat) 0) k) (1:Int)=(1:Int))↔bt ((rL t).getD f.toNat 0) k:=⟨fun h=>⟨by omega,h⟩,fun h=>h.2⟩;by_cases c:bt ((rL t).getD f.toNat 0) k
  ·obtain ⟨C,D⟩:=u.e k k0 (by omega);obtain ⟨H,I⟩:=zA2 i C;obtain ⟨y,o,r,s⟩:=v (k+1) _ (by omega) (by omega) (by omega) H (fun q=>by
    rw [I,D,j];constructor
    ·rintro (⟨p,a,d,e⟩ | h)
     ·exact ⟨p,by omega,d,e⟩
     ·exact ⟨k,by omega,c,h⟩
    ·rintro ⟨p,a,d,e⟩;by_cases m:p=k
     ·rw [m] at e;exact .inr e
     ·exact .inl ⟨p,by omega,d,e⟩)
   refine ⟨y,o,r,?_⟩;rw [if_pos (decide_eq_true (g.2 c)),zab (by omega),zab (by omega),zab (by unfold fits;omega)];exact s
  ·obtain ⟨y,o,r,s⟩:=v (k+1) x (by omega) (by omega) (by omega) i (fun q=>by
    rw [j];constructor
    ·rintro ⟨p,a,d⟩;exact ⟨p,by omega,d⟩
    ·rintro ⟨p,a,d,e⟩;by_cases m:p=k
     ·rw [m] at d;exact absurd d c
     ·exact ⟨p,by omega,d,e⟩)
   refine ⟨y,o,r,?_⟩;rw [if_neg (fun hh=>c (g.1 (of_decide_eq_true hh))),zab (by unfold fits;omega)];exact s
structure St1 (t:Tv) (E:Int->Int->Prop) (l:List Nd) (n:Int):Prop where
 len:(l.length:Int)=n
 b:∀ i:Int,0<=i->i < n->B4 (ix l i).1
 lb:∀ i:Int,0<=i->i < n->∀ q,bt (ix l i).1 q↔∃ p,bt ((rL t).getD i.toNat 0) p/\E p q
 r:∀ i:Int,0<=i->i < n->(ix l i).2=((rA t).getD i.toNat 0,true,false,false,())
theorem zDw (r:BOk b letter E F) (s:TOk t):∀ (n:Nat) (k:Int) (l:List Nd),(t.1 - k).toNat=n->0<=k->k<=t.1->St1 t E l k->∃ g,St1 t E g t.1/\zb2 b t letter k l=zbP b t 0 g:=by
 have w:=s.n;intro n;induction n with
 | zero=>
  intro k l u k0 v hs;obtain rfl:k=t.1:=by omega
  refine ⟨l,hs,?_⟩;rw [ze8];unfold za1;rw [if_neg (by simp)]
 | succ n H=>
  intro k l u k0 v hs;have f:=hs.len;obtain ⟨y,x,z,B⟩:=zDx (t:=t) r k0 (by omega) (l:=l) (by omega) (r3:=zb2 b t letter) (A:=(rA t).getD k.toNat 0) 4 0 0 rfl (by omega) (by omega) zdS.1 (fun q=>⟨fun h=>absurd h (zdS.2 q),fun ⟨p,a,c,_⟩=>by have:=c.1;omega⟩);have m:∀ i:Int,0<=i->i < k->ix (l++[(y,(rA t).getD k.toNat 0,true,false,false,())]) i=ix l i:=fun i d j=>zan d (by omega)
  have o:ix (l++[(y,(rA t).getD k.toNat 0,true,false,false,())]) k=(y,(rA t).getD k.toNat 0,true,false,false,()):=by rw [<- f];exact zaB
  obtain ⟨g,C,D⟩:=H (k+1) (l++[(y,(rA t).getD k.toNat 0,true,false,false,())]) (by omega) (by omega) (by omega) ⟨by simp;omega,fun i d j=>by
   by_cases e:i=k
   ·rw [e,o];exact x
   ·rw [m i d (by omega)];exact hs.b i d (by omega),fun i d j=>by
   by_cases e:i=k
   ·rw [e,o];exact z
   ·rw [m i d (by omega)];exact hs.lb i d (by omega),fun i d j=>by
   by_cases e:i=k
   ·rw [e,o]
   ·rw [m i d (by omega)];exact hs.r i d (by omega)⟩
  refine ⟨g,C,?_⟩;rw [ze8];unfold za1;rw [if_pos (by simp;omega),zab (by omega),zab (by omega)];exact B.trans D
structure St2 (b:Bv) (l0 l:List Nd) (n k:Int):Prop where
 len:n<=l.length/\l.length<=n+k
 old:∀ i:Int,0<=i->i < n->ix l i=ix l0 i
 new:∀ j:Int,n<=j->j < l.length->∃ i:Int,0<=i/\i < k/\ix l j=(iand .i64 (ix l0 i).1 b.2.1,i,false,false,false,())
 all:∀ i:Int,0<=i->i < k -> ¬ iand .i64 (ix l0 i).1 b.2.1=0->∃ j:Int,n<=j/\j < l.length/\(ix l j).2.1=i
theorem zBY (z:TOk t) {g:List Nd} (A:(g.length:Int)=t.1):∀ (n:Nat) (k:Int) (l:List Nd),(t.1 - k).toNat=n->0<=k->k<=t.1->St2 b g l t.1 k->∃ s,St2 b g s t.1 t.1/\zbP b t k l=(zhX s).bind (fun u=>zaH u 0 u):=by
 have D:=z.n;intro n;induction n with
 | zero=>
  intro k l B k0 C hs;obtain rfl:k=t.1:=by omega
  refine ⟨l,hs,?_⟩;rw [zev];unfold zaR;rw [if_neg (by simp)]
 | succ n y=>
  intro k l B k0 C hs;obtain ⟨r,ln2⟩:=hs.len;rw [zev];unfold zaR;rw [if_pos (by simp;omega),zab (by omega),zab (by omega),hs.old k k0 (by omega)];by_cases c:iand .i64 (ix g k).1 b.2.1=0
  ·rw [if_neg (by simpa using c),zab (by unfold fits;omega)];exact y (k+1) l (by omega) (by omega) (by omega) ⟨⟨r,by omega⟩,hs.old,fun j p v=>by
    obtain ⟨i,a,d,e⟩:=hs.new j p v;exact ⟨i,a,by omega,e⟩,fun i h m o=>by
    by_cases e:i=k
    ·rw [e] at o;exact absurd c o
    ·exact hs.all i h (by omega) o⟩
  ·rw [if_pos (by simpa using c),zab (by unfold room;simp;omega),zab (by unfold fits;omega)];have q:∀ i:Int,0<=i->i < l.length->ix (l++[(iand .i64 (ix g k).1 b.2.1,k,false,false,false,())]) i=ix l i:=fun i h m=>zan h m
   have w:ix (l++[(iand .i64 (ix g k).1 b.2.1,k,false,false,false,())]) (l.length:Int)=(iand .i64 (ix g k).1 b.2.1,k,false,false,false,()):=zaB;have x:(l++[(iand .i64 (ix g k).1 b.2.1,k,false,false,false,())]).length=l.length+1:=by simp
   exact y (k+1) (l++[(iand .i64 (ix g k).1 b.2.1,k,false,false,false,())]) (by omega) (by omega) (by omega) ⟨⟨by omega,by omega⟩,fun i h m=>by rw [q i h (by omega)];exact hs.old i h m,fun j p v=>by
    by_cases e:j=l.length
    ·rw [e,w];exact ⟨k,k0,by omega,rfl⟩
    ·rw [q j (by omega) (by omega)];obtain ⟨i,a,d,f⟩:=hs.new j p (by omega);exact ⟨i,a,by omega,f⟩,fun i h m o=>by
    by_cases e:i=k
    ·exact ⟨l.length,by omega,by omega,by rw [w];exact e.symm⟩
    ·obtain ⟨j,a,d,f⟩:=hs.all i h (by omega) o;exact ⟨j,a,by omega,by rw [q j (by omega) d];exact f⟩⟩
end
section
variable {b:Bv} {letter:Int} {E:Int->Int->Prop} {F:Int->Prop} {t:Tv}
structure Lists (t:Tv) (E:Int->Int->Prop) (F:Int->Prop) (l l2:List Nd):Prop where
 fin:Fin2 l l2
 len:t.1<=l.length/\l.length<=8
 pOld:∀ i:Int,0<=i->i < t.1->(ix l i).2.1=(rA t).getD i.toNat 0/\(ix l2 i).2.2.1=true
 pNew:∀ i:Int,t.1<=i->i < l.length->(0<=(ix l i).2.1/\(ix l i).2.1 < t.1)/\(ix l2 i).2.2.1=false
 cOld:∀ i:Int,0<=i->i < t.1->∀ q,bt (ix l i).1 q↔(∃ p,bt ((rL t).getD i.toNat 0) p/\E p q)/\(0<=(ix l i).2.1->bt (ix l (ix l i).2.1).1 q)/\∀ k:Int,0<=k->k < i->(ix l k).2.1=(ix l i).2.1 -> ¬ bt (ix l k).1 q
 cNew:∀ i:Int,t.1<=i->i < l.length->∀ q,bt (ix l i).1 q↔((∃ p,bt ((rL t).getD (ix l i).2.1.toNat 0) p/\E p q)/\F q)/\bt (ix l (ix l i).2.1).1 q/\∀ k:Int,0<=k->k < i->(ix l k).2.1=(ix l i).2.1 -> ¬ bt (ix l k).1 q
 new:∀ i:Int,0<=i->i < t.1->(∃ q,(∃ p,bt ((rL t).getD i.toNat 0) p/\E p q)/\F q)->∃ j:Int,t.1<=j/\j < l.length/\(ix l j).2.1=i
theorem zyV (v:BOk b letter E F) (C:TOk t):∃ l l2,Lists t E F l l2/\zb5 b t letter=(zj2 l2).bind (fun y=>some y):=by
 have A:=C.n;obtain ⟨l0,n,e1⟩:=zDw (t:=t) v C _ 0 [] rfl (Int.le_refl _) A.1 ⟨rfl,fun i a c=>by omega,fun i a c=>by omega,fun i a c=>by omega⟩;obtain ⟨u,o,e2⟩:=zBY (b:=b) C n.len _ 0 l0 rfl (Int.le_refl _) A.1 ⟨⟨by rw [n.len];omega,by rw [n.len];omega⟩,fun _ _ _=>rfl,fun j a c=>by rw [n.len] at c;omega,fun i a c=>by omega⟩;obtain ⟨ln1,ln2⟩:=o.len;have Q:=C.v;have R:(Tr t).n=t.1.toNat:=rfl;have H:∀ i:Int,0<=i->i < t.1->(ix u i).2.1=(rA t).getD i.toNat 0:=fun i a c=>by rw [o.old i a c,n.r i a c]
 have S:∀ k:Int,0<=k->k < u.length->(ix u k).2.1 < k:=fun k a c=>by
  by_cases d:k < t.1
  ·rw [H k a d];have r:=Q.par k.toNat (by rw [R];omega);have h2:(Tr t).A k.toNat=(rA t).getD k.toNat 0:=rfl;omega
  ·obtain ⟨i,e,f,g⟩:=o.new k (by omega) c;rw [g];show i < k;omega
 have I:NdOk u:=⟨by omega,fun k a c=>by
  by_cases d:k < t.1
  ·rw [o.old k a d];exact n.b k a d
  ·obtain ⟨i,e,f,g⟩:=o.new k (by omega) c;rw [g];exact (zxs (n.b i e f) v.f.1).1,S⟩
 obtain ⟨l,e3,m⟩:=zyo I;have hl:=m.len;have B:∀ k:Int,0<=k->k < u.length->(ix l k).2.2.2.2.1=false:=fun k a c=>by
  rw [m.fl k a c];by_cases d:k < t.1
  ·rw [o.old k a d,n.r k a d]
  ·obtain ⟨i,e,f,g⟩:=o.new k (by omega) c;rw [g]
 have s:∀ k:Int,0<=k->k < l.length->0<=(ix l k).2.1->∀ q,bt (ix l k).1 q->bt (ix l (ix l k).2.1).1 q:=fun k a c w q z=>by
  rw [m.pa k a (by omega)] at w ⊢;exact ((m.lb k a (by omega) q).1 z).2.1 w
 have hcl:ClOk l:=⟨by omega,fun k a c=>m.b k a (by omega),fun k a c=>by rw [m.pa k a (by omega)];exact S k a (by omega),s⟩;have J:Fi l l 0:=by
  refine ⟨rfl,fun _ _ _=>rfl,fun _ _ _=>rfl,fun _ _ _=>rfl,fun k a c => ?_,fun k a c=>B k a (by omega),fun k a c=>by omega⟩;rw [m.gn k a (by omega)];refine ⟨.inl,fun h=>h.elim id fun ⟨w,r⟩ => ?_⟩;have W:=hcl.p k a c;rcases r with r | r
  ·have X:=(m.gn _ w (by omega)).1 r;refine Classical.byContradiction fun D => ?_
   obtain ⟨q,z⟩:=(zu4 (hcl.b k a c)).1 D;have:=s k a c w q z;rw [X] at this;exact zdS.2 q this
  ·rw [B _ w (by omega)] at r;cases r
 obtain ⟨l2,M,e4⟩:=zyz hcl rfl _ 0 l rfl (Int.le_refl _) (by omega) J;refine ⟨l,l2,⟨⟨hcl,M,fun j k a c d e q T U => ?_,fun k a c d => ?_⟩,by omega,fun i a c=>⟨?_,?_⟩,fun i a c => ?_,fun i a c q => ?_,fun i a c q => ?_,fun i a c z => ?_⟩,?_⟩
 ·rw [m.pa j a (by omega),m.pa k (by omega) (by omega)] at e;exact ((m.lb k (by omega) (by omega) q).1 U).2.2 j a c e T
 ·rw [m.pa k a (by omega)] at d;by_cases e:k < t.1
  ·rw [H k a e] at d;have r:=(Q.root k.toNat (by rw [R];omega)).1 d;omega
  ·obtain ⟨i,e,f,g⟩:=o.new k (by omega) (by omega);rw [g] at d;have d:i < 0:=d;omega
 ·rw [m.pa i a (by omega)];exact H i a c
 ·rw [M.ol i a (by omega),m.ol i a (by omega),o.old i a c,n.r i a c]
 ·obtain ⟨x,e,f,g⟩:=o.new i a (by omega);rw [m.pa i (by omega) (by omega),M.ol i (by omega) (by omega),m.ol i (by omega) (by omega),g];exact ⟨⟨e,f⟩,rfl⟩
 ·rw [m.lb i a (by omega) q,m.pa i a (by omega),o.old i a c,n.lb i a c q];refine and_congr Iff.rfl (and_congr Iff.rfl (forall_congr' fun k=>forall_congr' fun k0=>forall_congr' fun V => ?_));rw [m.pa k k0 (by omega),o.old k k0 (by omega)]
 ·obtain ⟨x,e,f,g⟩:=o.new i a (by omega);have Y:(ix l i).2.1=x:=by rw [m.pa i (by omega) (by omega),g]
  have L:(ix u i).2.1=x:=by rw [g]
  rw [m.lb i (by omega) (by omega) q,Y,L];obtain ⟨_,N⟩:=zxs (n.b x e f) v.f.1;have Z:bt (ix u i).1 q↔(∃ p,bt ((rL t).getD x.toNat 0) p/\E p q)/\F q:=by
   rw [g];exact (N q).trans (and_congr (n.lb x e f q) (v.f.2 q))
  rw [Z];refine and_congr Iff.rfl (and_congr ⟨fun h=>h e,fun h _=>h⟩ (forall_congr' fun k=>forall_congr' fun k0=>forall_congr' fun V => ?_));rw [m.pa k k0 (by omega)]
 ·obtain ⟨a1,N⟩:=zxs (n.b i a c) v.f.1;obtain ⟨q,O,P⟩:=z;obtain ⟨j,j0,j1,j2⟩:=o.all i a c ((zu4 a1).2 ⟨q,(N q).2 ⟨(n.lb i a c q).2 O,(v.f.2 q).2 P⟩⟩);exact ⟨j,j0,by omega,by rw [m.pa j (by omega) (by omega)];exact j2⟩
 ·unfold zb5;rw [e1,e2,e3];exact e4
theorem zAI (hb:BOk b letter E F) (T:TOk t):∃ t' m d,zb5 b t letter=some (t',m,())/\TOk t'/\(1<=m/\m<=9)/\IsStep E F (Tr t) d (Tr t') m:=by
 have hn4:=T.n;obtain ⟨l,l2,y,e⟩:=zyV hb T;obtain ⟨ln1,ln2⟩:=y.len;have u:=y.fin;have w:=u.f;have R:=w.len;have four:=u.four;have H:∀ k:Int,0<=k->k < l.length -> ¬ (ix l2 k).2.2.2.1=true->0<=(ix l k).2.1 -> ¬ (ix l2 (ix l k).2.1).2.2.2.1=true:=fun k k0 U n x hh=>n ((w.gn k k0 U).2 (.inr ⟨x,.inl hh⟩))
 obtain ⟨L,A,N,m,P,hM,e2⟩:=zAP (l:=l2) (by omega) (fun k a c=>by rw [w.pa k a (by omega)];exact u.c.p k a (by omega)) (fun k a c g r=>by
  rw [w.pa k a (by omega)] at r ⊢;exact H k a (by omega) g r) (by rw [R];exact four)
 rw [R] at e2 P hM;have V:=P.lL;have W:=P.lA;have X:=zqY (l:=l2) l.length;have lab:∀ i:Nat,i < l.length -> ¬ (ix l2 (i:Int)).2.2.2.1=true->ix L (kp l2 i)=(ix l (i:Int)).1:=fun i a c=>(P.lab i a c).trans (w.lb i (by omega) (by omega))
 have abv:∀ i:Nat,i < l.length -> ¬ (ix l2 (i:Int)).2.2.2.1=true->ix A (kp l2 i)=if 0<=(ix l (i:Int)).2.1 then kp l2 (ix l (i:Int)).2.1.toNat else -1:=fun i a c=>by
  have:=P.abv i a c
  rwa [w.pa i (by omega) (by omega)] at this
 have O:∀ i:Nat,i < l.length -> ¬ (ix l2 (i:Int)).2.2.2.1=true->0<=kp l2 i/\kp l2 i < kp l2 l.length:=fun i a c=>⟨(zqY i).1,zBu a c⟩
 let t':Tv:=(kp l2 l.length,(L.getD 0 0,L.getD 1 0,L.getD 2 0,L.getD 3 0,()),(A.getD 0 0,A.getD 1 0,A.getD 2 0,A.getD 3 0,()),())
 let d:SD:=⟨l.length,fun i q=>bt (ix l (i:Int)).1 q,fun i=>(ix l (i:Int)).2.1,fun i=>(ix l2 (i:Int)).2.2.2.1=true,fun i=>(ix l2 (i:Int)).2.2.2.2.1=true,fun i=>(kp l2 i).toNat⟩
 have Y:∀ k:Nat,(rL t').getD k 0=ix L (k:Int):=fun k=>by
  show [L.getD 0 0,L.getD 1 0,L.getD 2 0,L.getD 3 0].getD k 0=_;rw [zw0 V];rfl
 have Z:∀ k:Nat,(rA t').getD k 0=ix A (k:Int):=fun k=>by
  show [A.getD 0 0,A.getD 1 0,A.getD 2 0,A.getD 3 0].getD k 0=_;rw [zw0 W];rfl
 have z:IsStep E F (Tr t) d (Tr t') m:=by
  have B:(Tr t).n=t.1.toNat:=rfl;have a0:(Tr t').n=(kp l2 l.length).toNat:=rfl;refine { hN := ?_,pOld := ?_,pNew := ?_,cOld := ?_,cNew := ?_,new := ?_,gNot := ?_,gRoot := ?_,gEmp := ?_,gFl := ?_,gPar := ?_,flU := ?_,flN := ?_,nuS := ?_,nuI := ?_,nuLe := ?_,nuEq := ?_,nuLt := ?_,onto := ?_,lab := ?_,abv := ?_,mGone := ?_,mFl := ?_,mIs := ?_ }
  ·show t.1.toNat<=l.length;omega
  ·intro i v;rw [B] at v;exact (y.pOld i (by omega) (by omega)).1
  ·intro i v o;have o:i < l.length:=o;rw [B] at v;have:=(y.pNew i (by omega) (by omega)).1;show 0<=(ix l (i:Int)).2.1/\(ix l (i:Int)).2.1 < (t.1.toNat:Int);omega
  ·intro i v q;rw [B] at v;refine (y.cOld i (by omega) (by omega) q).trans (and_congr Iff.rfl (and_congr ?_ ?_))
   ·refine forall_congr' fun r => ?_
    show _↔bt (ix l (((ix l (i:Int)).2.1.toNat:Nat):Int)).1 q;rw [Int.toNat_of_nonneg r]
   ·exact ⟨fun h k Q x=>h k (by omega) (by omega) x,fun h k k0 U x=>by
     have:=h k.toNat (by omega) (by show (ix l ((k.toNat:Nat):Int)).2.1=_;rw [Int.toNat_of_nonneg k0];exact x);have this : ¬ bt (ix l ((k.toNat:Nat):Int)).1 q:=this
     rwa [Int.toNat_of_nonneg k0] at this⟩
  ·intro i v o q;have o:i < l.length:=o;rw [B] at v;have r:=(y.pNew i (by omega) (by omega)).1;refine (y.cNew i (by omega) (by omega) q).trans (and_congr Iff.rfl (and_congr ?_ ?_))
   ·show _↔bt (ix l (((ix l (i:Int)).2.1.toNat:Nat):Int)).1 q;rw [Int.toNat_of_nonneg r.1]
   ·exact ⟨fun h k Q x=>h k (by omega) (by omega) x,fun h k k0 U x=>by
     have:=h k.toNat (by omega) (by show (ix l ((k.toNat:Nat):Int)).2.1=_;rw [Int.toNat_of_nonneg k0];exact x);have this : ¬ bt (ix l ((k.toNat:Nat):Int)).1 q:=this
     rwa [Int.toNat_of_nonneg k0] at this⟩
  ·intro i v C;rw [B] at v;obtain ⟨j,j0,j1,j2⟩:=y.new i (by omega) (by omega) C;exact ⟨j.toNat,by rw [B];omega,by show j.toNat < l.length;omega,by show (ix l ((j.toNat:Nat):Int)).2.1=_;rw [Int.toNat_of_nonneg (by omega)];exact j2⟩
  ·intro i o C r n p J;have o:i < l.length:=o;have r:0<=(ix l (i:Int)).2.1:=r;have n : ¬ (ix l2 (((ix l (i:Int)).2.1.toNat:Nat):Int)).2.2.2.1=true:=n;have p : ¬ (ix l2 (((ix l (i:Int)).2.1.toNat:Nat):Int)).2.2.2.2.1=true:=p;rw [Int.toNat_of_nonneg r] at n p;rcases (w.gn i (by omega) (by omega)).1 J with h | ⟨_,h | h⟩
   ·exact (zu4 (u.c.b i (by omega) (by omega))).2 C h
   ·exact n h
   ·exact p h
  ·intro i o C r J;have o:i < l.length:=o;have r:(ix l (i:Int)).2.1 < 0:=r;rcases (w.gn i (by omega) (by omega)).1 J with h | ⟨h,_⟩
   ·exact (zu4 (u.c.b i (by omega) (by omega))).2 C h
   ·omega
  ·intro i o n;have o:i < l.length:=o;exact (zu4 (u.c.b i (by omega) (by omega))).1 fun hz=>n ((w.gn i (by omega) (by omega)).2 (.inl hz))
  ·intro i o r p;have o:i < l.length:=o;have r:0<=(ix l (i:Int)).2.1:=r;have p:(ix l2 (((ix l (i:Int)).2.1.toNat:Nat):Int)).2.2.2.2.1=true:=p;rw [Int.toNat_of_nonneg r] at p;exact (w.gn i (by omega) (by omega)).2 (.inr ⟨r,.inr p⟩)
  ·intro i o r n D;have o:i < l.length:=o;have r:0<=(ix l (i:Int)).2.1:=r;have D:(ix l2 (((ix l (i:Int)).2.1.toNat:Nat):Int)).2.2.2.1=true:=D;rw [Int.toNat_of_nonneg r] at D;exact n ((w.gn i (by omega) (by omega)).2 (.inr ⟨r,.inl D⟩))
  ·intro i o p q C;have o:i < l.length:=o;obtain ⟨j,j0,j1,j2,j3⟩:=(w.fc i (by omega) (by omega)).1 p q C;exact ⟨j.toNat,by show j.toNat < l.length;omega,by show (ix l ((j.toNat:Nat):Int)).2.1=_;rw [Int.toNat_of_nonneg (by omega)];exact j2,by show bt (ix l ((j.toNat:Nat):Int)).1 q;rw [Int.toNat_of_nonneg (by omega)];exact j3⟩
  ·intro i o n p;have o:i < l.length:=o;have n : ¬ (ix l2 (i:Int)).2.2.2.1=true:=n;have p : ¬ (ix l2 (i:Int)).2.2.2.2.1=true:=p;obtain ⟨q,C,I⟩:=(w.fc i (by omega) (by omega)).2 (by simpa using n) (by simpa using p);refine ⟨q,C,fun k Q x hh=>I ⟨k,by omega,?_,x,hh⟩⟩;have Q:k < l.length:=Q;omega
  ·intro i o n;have o:i < l.length:=o;have:=O i o n;show (kp l2 i).toNat < (kp l2 l.length).toNat;omega
  ·intro i j M o n _;have:=zBu (l:=l2) M n;have:=(zqY (l:=l2) i).1;show (kp l2 i).toNat < (kp l2 j).toNat;omega
  ·intro i;have:=zqY (l:=l2) i;show (kp l2 i).toNat<=i;omega
  ·intro i o n;have:=kp_eq (l:=l2) n;show (kp l2 i).toNat=i;omega
  ·intro i j M o n;have:=zDc (l:=l2) M n;have:=(zqY (l:=l2) i).1;show (kp l2 i).toNat < i;omega
  ·intro k Q;rw [a0] at Q;obtain ⟨i,a,c,f⟩:=zwZ (l:=l2) (t:=l.length) (k:=(k:Int)) (by omega) (by omega);exact ⟨i,a,c,by show (kp l2 i).toNat=k;omega⟩
  ·intro i o n q;have o:i < l.length:=o;have:=O i o n;show bt ((rL t').getD (kp l2 i).toNat 0) q↔_;rw [Y,Int.toNat_of_nonneg this.1,lab i o n]
  ·intro i o n;have o:i < l.length:=o;have:=O i o n;show (rA t').getD (kp l2 i).toNat 0=if 0<=(ix l (i:Int)).2.1 then (((kp l2 (ix l (i:Int)).2.1.toNat).toNat:Nat):Int) else -1
   rw [Z,Int.toNat_of_nonneg this.1,abv i o n];have:=(zqY (l:=l2) (ix l (i:Int)).2.1.toNat).1;split<;>omega
  ·intro i v n;rw [B] at v;exact hM.gone i (by omega) (by omega) (y.pOld i (by omega) (by omega)).2 n
  ·intro i v p n;rw [B] at v;have n : ¬ (ix l2 (i:Int)).2.2.2.1=true:=n;exact hM.fl i (by omega) (by omega) (y.pOld i (by omega) (by omega)).2 (by simpa using n) p
  ·rcases hM.is with h | ⟨i,⟨i0,i1⟩,ho,n,h⟩ | ⟨i,⟨i0,i1⟩,ho,n,p,h⟩
   ·exact .inl h
   ·have a1:i < t.1:=Classical.byContradiction fun I=>by
     have:=(y.pNew i (by omega) (by omega)).2;rw [ho] at this;cases this
    refine .inr (.inl ⟨i.toNat,by rw [B];omega,?_,by omega⟩);show (ix l2 ((i.toNat:Nat):Int)).2.2.2.1=true;rw [Int.toNat_of_nonneg i0];exact n
   ·have a1:i < t.1:=Classical.byContradiction fun I=>by
     have:=(y.pNew i (by omega) (by omega)).2;rw [ho] at this;cases this
    refine .inr (.inr ⟨i.toNat,by rw [B];omega,?_,?_,by omega⟩)
    ·show ¬ (ix l2 ((i.toNat:Nat):Int)).2.2.2.1=true;rw [Int.toNat_of_nonneg i0,n];simp
    ·show (ix l2 ((i.toNat:Nat):Int)).2.2.2.2.1=true;rw [Int.toNat_of_nonneg i0];exact p
 refine ⟨t',m,d,?_,⟨⟨X.1,by omega⟩,z.vld T.v,fun i v => ?_,fun i r h4 => ?_,fun r => ?_⟩,⟨?_,hM.le⟩,z⟩
 ·rw [e,e2];rfl
 ·rw [Y];by_cases c:(i:Int) < kp l2 l.length
  ·obtain ⟨j,a,S,f⟩:=zwZ (l:=l2) (t:=l.length) (k:=(i:Int)) (by omega) c;rw [<- f,lab j a S];exact u.c.b j (by omega) (by omega)
  ·rw [(P.fill i (by omega) (by omega)).1];exact zdS.1
 ·rw [Y,Z];have r:kp l2 l.length<=(i:Int):=r;exact P.fill i (by omega) (by omega)
 ·have r:0 < kp l2 l.length:=r;obtain ⟨j,a,S,f⟩:=zwZ (l:=l2) (t:=l.length) (k:=0) (by omega) r;have h1:=abv j a S;rw [f] at h1;have h2:(rA t').getD 0 0=ix A 0:=Z 0;rw [h2,h1];by_cases c:0<=(ix l (j:Int)).2.1
  ·exfalso;have x:=u.c.p (j:Int) (by omega) (by omega);have n:=H (j:Int) (by omega) (by omega) S c;rw [<- Int.toNat_of_nonneg c] at n;have:=zBu (l:=l2) (s:=(ix l (j:Int)).2.1.toNat) (t:=j) (by omega) n;have:=(zqY (l:=l2) (ix l (j:Int)).2.1.toNat).1;omega
  ·rw [if_neg c]
 ·rcases hM.is with h | ⟨i,⟨i0,i1⟩,ho,n,h⟩ | ⟨i,⟨i0,i1⟩,ho,n,p,h⟩<;>omega
end
abbrev Pl:=Tv×Int×Unit
section
variable {g:Int} {nx:Pl->Int->Pl} {mk:Pl->Int} {first:Pl} {B:Nat} {P:Pl->Prop} {c:Bv}
theorem zrS (f:XOk nx mk g.toNat first B P) (D:B < 1048576) (v:B<=20000) (E:1<=g/\g<=4) (h:∀ s,P s->∀ t,0<=t->t < g->zbA s t c=some (nx s t,c)) (i:∀ s,P s->zdV s=some (mk s)) {s:Pl} {l:List Pl} {L0:List Pl} {D2:List (List Int)} {D3:List Int} {r4} (hs:P s) (hl:LiOk B P l) (p:ix L0 (D2.length:Int)=s) (F:D2.length<=20000) (H:D3.length<=20000):
  zbw g 1048576 g 0 L0 D2 D3 r4 0 c l (iota l.length) l (List.replicate g.toNat 0)=
   r4 c g 0 (xRow nx s l g.toNat).1 (iota (xRow nx s l g.toNat).1.length) (xRow nx s l g.toNat).1 (D2++[(xRow nx s l g.toNat).2]) (D3++[mk s]):=by
 have key:∀ (n t:Nat) (row:List Int),g.toNat - t=n->t<=g.toNat->row.length=g.toNat->(∀ j:Int,0<=j->j < t->ix row j=ix (xRow nx s l t).2 j)->
   zbw g 1048576 g 0 L0 D2 D3 r4 t c (xRow nx s l t).1 (iota (xRow nx s l t).1.length) (xRow nx s l t).1 row=
   r4 c g 0 (xRow nx s l g.toNat).1 (iota (xRow nx s l g.toNat).1.length) (xRow nx s l g.toNat).1 (D2++[(xRow nx s l g.toNat).2]) (D3++[mk s]):=by
  intro n;induction n with
  | zero=>
   intro t row y z m d;obtain rfl:t=g.toNat:=by omega
   obtain ⟨u,⟨_,A,_⟩⟩:=zn8 f hs hl g.toNat (Nat.le_refl _);have:row=(xRow nx s l g.toNat).2:=zxN (by omega) fun j q w=>d j q (by omega)
   rw [zjo];unfold zb8;rw [if_neg (by simp;omega),this];refine G_to (by unfold room;simp;omega) ?_;rw [p];exact zaj (i s hs) (G_to (by unfold room;simp;omega) rfl)
  | succ n C=>
   intro t row y z m d;obtain ⟨u,⟨_,A,_⟩⟩:=zn8 f hs hl t (by omega);have r:=u.len f;have a:=fun row=>C (t+1) row (by omega) (by omega)
   rw [zjo];unfold zb8 zdj;rw [if_pos (by simp;omega),p];refine zaj (h s hs t (by omega) (by omega)) ?_;show (if (!(mhas (xRow nx s l t).1 (nx s t)))=true then
    if decide (((xRow nx s l t).1.length:Int)=1048576)=true then _ else
     G (room (xRow nx s l t).1 [nx s t] _) (G _ (G _ (G _ (zbw g 1048576 g 0 L0 D2 D3 r4 (t+1) c (zlQ (xRow nx s l t).1 (nx s t)) (zlR (xRow nx s l t).1 (iota (xRow nx s l t).1.length) (nx s t) ((xRow nx s l t).1.length:Int)) ((xRow nx s l t).1++[nx s t]) (row.set ((t:Int)).toNat ((xRow nx s l t).1.length:Int)))))) else
    G _ (G _ (G _ (zbw g 1048576 g 0 L0 D2 D3 r4 (t+1) c _ _ _ (row.set ((t:Int)).toNat (mget (xRow nx s l t).1 (iota (xRow nx s l t).1.length) (nx s t) 0))))))=_
   cases e:zbv (xRow nx s l t).1 (nx s t) with
   | some j=>
    rw [zmy e] at a;have o:mhas (xRow nx s l t).1 (nx s t)=true:=by unfold mhas;rw [e];rfl
    rw [if_neg (by rw [o];simp),zoJ e];refine G_to (by omega) (G_to (by omega) (G_to (by unfold fits;omega) ?_));refine a (row.set ((t:Int)).toNat (j:Int)) (by rw [List.length_set];exact m) (fun k k0 x => ?_);by_cases c:k < t
    ·rw [zam (by omega) k0 (by omega),zan k0 (by omega)];exact d k k0 c
    ·obtain rfl:k=(t:Int):=by omega
     rw [zak k0 (by omega)];have:(t:Int)=((xRow nx s l t).2.length:Int):=by omega
     rw [this,zaB]
   | none=>
    rw [zmx e] at a;have b:=zcE.1 e;have o:mhas (xRow nx s l t).1 (nx s t)=false:=by unfold mhas;rw [e];rfl
    rw [if_pos (by rw [o];rfl),if_neg (by simp;omega),zoL b,zmK b];refine G_to (by unfold room;simp;omega) (G_to (by omega) (G_to (by omega) (G_to (by unfold fits;omega) ?_)));refine a (row.set ((t:Int)).toNat ((xRow nx s l t).1.length:Int)) (by rw [List.length_set];exact m) (fun k k0 x => ?_);by_cases c:k < t
    ·rw [zam (by omega) k0 (by omega),zan k0 (by omega)];exact d k k0 c
    ·obtain rfl:k=(t:Int):=by omega
     rw [zak k0 (by omega)];have:(t:Int)=((xRow nx s l t).2.length:Int):=by omega
     rw [this,zaB]
 exact key _ 0 _ rfl (by omega) (by rw [List.length_replicate]) (fun j q w=>by omega)
theorem zqW (a:XOk nx mk g.toNat first B P) (p:B < 1048576) (e:B<=20000) (q:1<=g/\g<=4) (h:∀ s,P s->∀ t,0<=t->t < g->zbA s t c=some (nx s t,c)) (j:∀ s,P s->zdV s=some (mk s)) {n:Nat} (l:XGo nx mk g.toNat first n) (z:(xSt nx mk g.toNat first n).1.length=n):zhx g first 1048576 c=some (xAut nx mk g.toNat first n,true,c):=by
 have key:∀ (f i:Nat),n - i=f->i<=n->zgh g 1048576 c g 0 (xSt nx mk g.toNat first i).1 (iota (xSt nx mk g.toNat first i).1.length) (xSt nx mk g.toNat first i).1 (xSt nx mk g.toNat first i).2.1 (xSt nx mk g.toNat first i).2.2=some (xAut nx mk g.toNat first n,true,c):=by
  intro f;induction f with
  | zero=>
   intro i r u;obtain rfl:i=n:=by omega
   obtain ⟨b,x,d⟩:=zkh a i l;have m:=d.r;rw [zjn];unfold zb7;rw [if_neg (by rw [decide_eq_true_iff];omega)];unfold xAut;rw [Int.toNat_of_nonneg (by omega)]
  | succ f y=>
   intro i r u;obtain ⟨b,x,d⟩:=zkh a i (fun k A=>l k (by omega));have v:=l i (by omega);have m:=d.r;have C:=d.m;have o:=b.len a;have w:=b.p _ (zbc (i:=(i:Int)) (by omega) (by omega));rw [zjn];unfold zb7;rw [if_pos (by rw [decide_eq_true_iff];omega)];refine G_to (by omega) (G_to (by omega) (G_to (by unfold mkOK;omega) ?_));rw [zrS a p e q h j w b (by rw [m]) (by omega) (by omega)];exact y (i+1) (by omega) (by omega)
 unfold zhx;exact key _ 0 rfl (by omega)
end
open Classical in
def topN (P:Nat->Prop):Nat->Nat
 | 0=>0
 | n+1=>if P n then n+1 else topN P n
section
variable {P:Nat->Prop}
theorem zAR:∀ n,topN P n<=n
 | 0=>Nat.le_refl _
 | n+1=>by have:=zAR n;unfold topN;split<;>omega
theorem zxn {i:Nat} (h:P i):∀ n,i < n->i+1<=topN P n
 | 0,hn=>by omega
 | n+1,hn=>by
  unfold topN;by_cases c:P n
  ·rw [if_pos c];omega
  ·rw [if_neg c];by_cases e:i=n
   ·rw [e] at h;exact absurd h c
   ·exact zxn h n (by omega)
theorem zuX {i:Nat}:∀ n,topN P n=i+1->i < n/\P i
 | 0,h=>by unfold topN at h;omega
 | n+1,h=>by
  unfold topN at h;by_cases c:P n
  ·rw [if_pos c] at h;have:i=n:=by omega
   rw [this];exact ⟨by omega,c⟩
  ·rw [if_neg c] at h;have:=zuX n h;exact ⟨by omega,this.2⟩
end
section
variable {T T':Tre}
theorem Vld.chain (h:Vld T) {q:Int}:∀ (n i j:Nat),j<=n->i < j->j < T.n->T.L i q->T.L j q->∃ k,i < k/\k<=j/\T.A k=i/\T.L k q:=by
 intro n;induction n with
 | zero=>intro i j s g;omega
 | succ n r=>
  intro i j s g m p o;have v:=h.par j m;have w:=h.par i (by omega);have t:0<=T.A j:=by
   have:=(h.root j m).1;omega
  have l:=h.sub j m t q o;by_cases e:T.A j=i
  ·exact ⟨j,g,Nat.le_refl _,e,o⟩
  by_cases c:(i:Int) < T.A j
  ·obtain ⟨k,a,b,d⟩:=r i (T.A j).toNat (by omega) (by omega) (by omega) p l;exact ⟨k,a,by omega,d⟩
  exfalso;by_cases u:T.A i=T.A j
  ·exact h.dis i j g m u q p o
  by_cases x:T.A i < T.A j
  ·obtain ⟨k,a,b,d,f⟩:=r (T.A j).toNat i (by omega) (by omega) (by omega) l p;exact h.dis k j (by omega) m (by omega) q f o
  ·obtain ⟨k,a,b,d,f⟩:=r (T.A j).toNat (T.A i).toNat (by omega) (by omega) (by omega) l (h.sub i (by omega) (by omega) q p);exact h.dis k j (by omega) m (by omega) q f o
theorem Vld.owned (h:Vld T) {i:Nat} (n:i < T.n):∃ q,T.L i q/\topN (fun j=>T.L j q) T.n=i+1:=by
 obtain ⟨q,l,m⟩:=h.str i n;refine ⟨q,l,?_⟩;have r:=zxn (P:=fun j=>T.L j q) l T.n n;obtain ⟨o,p⟩:∃ o,topN (fun j=>T.L j q) T.n=o+1:=⟨_,(Nat.succ_pred (by omega)).symm⟩;obtain ⟨a,b⟩:=zuX _ p;by_cases e:o=i
 ·rw [p,e]
 ·obtain ⟨k,c,d,f,g⟩:=h.chain _ i o (Nat.le_refl _) (by omega) a l b;exact absurd g (m k (by omega) f)
theorem Vld.same (h:Vld T) (t:Vld T') (p:T.n=T'.n) (u:∀ i,i < T.n->T.A i=T'.A i) {q:Int} (r:topN (fun j=>T.L j q) T.n=topN (fun j=>T'.L j q) T'.n) {i:Nat} (v:i < T.n) (l:T.L i q):T'.L i q:=by
 have A:=zxn (P:=fun j=>T.L j q) l T.n v;obtain ⟨o,e⟩:∃ o,topN (fun j=>T.L j q) T.n=o+1:=⟨_,(Nat.succ_pred (by omega)).symm⟩;obtain ⟨a,b⟩:=zuX _ e;rw [e] at r;obtain ⟨B,s⟩:=zuX _ r.symm;have key:∀ (n i:Nat),o - i<=n->i<=o->T.L i q->T'.L i q:=by
  intro n;induction n with
  | zero=>
   intro i p m l;obtain rfl:i=o:=by omega
   exact s
  | succ n z=>
   intro i p m l;by_cases y:i=o
   ·rw [y];exact s
   ·obtain ⟨k,c,d,f,g⟩:=h.chain _ i o (Nat.le_refl _) (by omega) a l b;have w:=z k (by omega) d g;have x:T'.A k=i:=by rw [<- u k (by omega)];exact f
    have:=t.sub k (by omega) (by omega) q w
    rwa [x,Int.toNat_natCast] at this
 exact key _ i (Nat.le_refl _) (by omega) l
end
def own (t:Tv) (q:Int):Int:=(topN (fun j=>(Tr t).L j q) (Tr t).n:Int)
def zgq (t:Tv):Int:=
 if t.1=0 then 0 else if t.1=1 then 1+(own t 0+2 * own t 1+4 * own t 2+8 * own t 3) else if t.1=2 then 17+(own t 0+3 * own t 1+9 * own t 2+27 * own t 3)
 else if t.1=3 then 98+((rA t).getD 2 0 * 256+(own t 0+4 * own t 1+16 * own t 2+64 * own t 3))
 else 610+(((rA t).getD 2 0 * 3+(rA t).getD 3 0) * 256+(own t 0 - 1+4 * (own t 1 - 1)+16 * (own t 2 - 1)+64 * (own t 3 - 1)))
def zEh (a b c d:Fin 5):Bool := !((a==1 || b==1 || c==1 || d==1) && (a==2 || b==2 || c==2 || d==2) && (a==3 || b==3 || c==3 || d==3) && (a==4 || b==4 || c==4 || d==4)) || (a != 0 && b != 0 && c != 0 && d != 0)
theorem zBi:∀ a b c d:Fin 5,zEh a b c d=true:=by decide+kernel
theorem zBh {a b c d:Int} (r:0<=a/\a<=4) (s:0<=b/\b<=4) (t:0<=c/\c<=4) (u:0<=d/\d<=4) (h:∀ i:Int,1<=i->i<=4->a=i\/b=i\/c=i\/d=i):1<=a/\1<=b/\1<=c/\1<=d:=by
 have to:∀ {x:Int} (hx:0<=x/\x<=4),∃ y:Fin 5,x=(y.val:Int):=fun {x} hx=>⟨⟨x.toNat,by omega⟩,by show x=(x.toNat:Int);omega⟩
 obtain ⟨a,rfl⟩:=to r;obtain ⟨b,rfl⟩:=to s;obtain ⟨c,rfl⟩:=to t;obtain ⟨d,rfl⟩:=to u;have j:∀ (x:Fin 5) (k:Nat) (f:k < 5),(x.val:Int)=(k:Int)->x=⟨k,f⟩:=fun x k f e=>Fin.ext (by show x.val=k;omega)
 have conv:∀ (k:Nat) (f:k < 5),1<=k->(a=⟨k,f⟩\/b=⟨k,f⟩\/c=⟨k,f⟩\/d=⟨k,f⟩):=fun k f q=>(h (k:Int) (by omega) (by omega)).imp (j a k f) (Or.imp (j b k f) (Or.imp (j c k f) (j d k f)))
 have k:=zBi a b c d;have m:=conv 1 (by omega) (by omega)
 have n:=conv 2 (by omega) (by omega)
 have o:=conv 3 (by omega) (by omega)
 have p:=conv 4 (by omega) (by omega)
 have m:(a=1\/b=1\/c=1\/d=1):=m;have n:(a=2\/b=2\/c=2\/d=2):=n;have o:(a=3\/b=3\/c=3\/d=3):=o;have p:(a=4\/b=4\/c=4\/d=4):=p;have k:(¬ ((a=1\/b=1\/c=1\/d=1)/\(a=2\/b=2\/c=2\/d=2)/\(a=3\/b=3\/c=3\/d=3)/\(a=4\/b=4\/c=4\/d=4)))\/(a≠0/\b≠0/\c≠0/\d≠0):=by
  unfold zEh at k;simp only [Bool.or_eq_true,Bool.and_eq_true,Bool.not_eq_true',beq_iff_eq,bne_iff_ne,ne_eq,Bool.and_eq_false_iff,Bool.or_eq_false_iff,beq_eq_false_iff_ne] at k;rcases k with k | k
  ·left;rintro ⟨v,w,z,A⟩;rcases k with ((k | k) | k) | k
   ·rcases v with g | g | g | g
    ·exact k.1.1.1 g
    ·exact k.1.1.2 g
    ·exact k.1.2 g
    ·exact k.2 g
   ·rcases w with g | g | g | g
    ·exact k.1.1.1 g
    ·exact k.1.1.2 g
    ·exact k.1.2 g
    ·exact k.2 g
   ·rcases z with g | g | g | g
    ·exact k.1.1.1 g
    ·exact k.1.1.2 g
    ·exact k.1.2 g
    ·exact k.2 g
   ·rcases A with g | g | g | g
    ·exact k.1.1.1 g
    ·exact k.1.1.2 g
    ·exact k.1.2 g
    ·exact k.2 g
  ·right;exact ⟨k.1.1.1,k.1.1.2,k.1.2,k.2⟩
 obtain ⟨q,B,C,D⟩:=k.resolve_left (fun hh=>hh ⟨m,n,o,p⟩);have l:∀ {x:Fin 5},x≠0->1<=(x.val:Int):=fun {x} hx=>by
  have:x.val≠0:=fun e=>hx (Fin.ext e)
  omega
 exact ⟨l q,l B,l C,l D⟩
section
variable {t t':Tv}
theorem ziV (h:TOk t) (q:Int):0<=own t q/\own t q<=t.1:=by
 have:=zAR (P:=fun j=>(Tr t).L j q) (Tr t).n;have a:=h.n;have e:(Tr t).n=t.1.toNat:=rfl;unfold own;omega
theorem zBG (h:TOk t) (d:t.1=4):1<=own t 0/\1<=own t 1/\1<=own t 2/\1<=own t 3:=by
 have b:=fun q=>ziV h q
 refine zBh (by have:=b 0;omega) (by have:=b 1;omega) (by have:=b 2;omega) (by have:=b 3;omega) fun i f g => ?_
 have e:(Tr t).n=t.1.toNat:=rfl;obtain ⟨q,c,a⟩:=h.v.owned (i:=(i - 1).toNat) (by omega);have a:own t q=i:=by unfold own;omega
 have:q=0\/q=1\/q=2\/q=3:=by have:=c.1;omega
 rcases this with rfl | rfl | rfl | rfl
 ·exact .inl a
 ·exact .inr (.inl a)
 ·exact .inr (.inr (.inl a))
 ·exact .inr (.inr (.inr a))
theorem zA0 (h:TOk t) {i:Nat} (d:0 < i) (f:(i:Int) < t.1):0<=(rA t).getD i 0/\(rA t).getD i 0 < i:=by
 have e:(Tr t).n=t.1.toNat:=rfl;have a:=h.v.par i (by omega);have b:=h.v.root i (by omega);have c:(Tr t).A i=(rA t).getD i 0:=rfl;rw [c] at a b;omega
theorem zrg (h:TOk t):(t.1=0/\zgq t=0)\/(t.1=1/\zgq t=1+(own t 0+2 * own t 1+4 * own t 2+8 * own t 3)/\zgq t < 17)\/(t.1=2/\zgq t=17+(own t 0+3 * own t 1+9 * own t 2+27 * own t 3)/\zgq t < 98)\/
  (t.1=3/\zgq t=98+((rA t).getD 2 0 * 256+(own t 0+4 * own t 1+16 * own t 2+64 * own t 3))/\zgq t < 610/\(0<=(rA t).getD 2 0/\(rA t).getD 2 0 < 2))\/
  (t.1=4/\zgq t=610+(((rA t).getD 2 0 * 3+(rA t).getD 3 0) * 256+(own t 0 - 1+4 * (own t 1 - 1)+16 * (own t 2 - 1)+64 * (own t 3 - 1)))/\zgq t < 2146/\(0<=(rA t).getD 2 0/\(rA t).getD 2 0 < 2)/\(0<=(rA t).getD 3 0/\(rA t).getD 3 0 < 3)/\1<=own t 0/\1<=own t 1/\1<=own t 2/\1<=own t 3):=by
 have e:=h.n;have g:=ziV h 0;have j:=ziV h 1;have k:=ziV h 2;have l:=ziV h 3;unfold zgq;by_cases a:t.1=0
 ·exact .inl ⟨a,if_pos a⟩
 rw [if_neg a];by_cases b:t.1=1
 ·rw [if_pos b];exact .inr (.inl ⟨b,rfl,by omega⟩)
 rw [if_neg b];by_cases c:t.1=2
 ·rw [if_pos c];exact .inr (.inr (.inl ⟨c,rfl,by omega⟩))
 rw [if_neg c];have m:=zA0 h (i:=2) (by omega) (by omega);generalize (rA t).getD 2 0=x2 at *
 by_cases d:t.1=3
 ·rw [if_pos d];exact .inr (.inr (.inr (.inl ⟨d,rfl,by omega,by omega⟩)))
 rw [if_neg d];have n:=zA0 h (i:=3) (by omega) (by omega);generalize (rA t).getD 3 0=x3 at *
 have f:=zBG h (by omega);exact .inr (.inr (.inr (.inr ⟨by omega,rfl,by omega,by omega,by omega,f⟩)))
theorem zwC (h:TOk t):0<=zgq t/\zgq t < 2146:=by
 have b:=ziV h 0;have d:=ziV h 1;have e:=ziV h 2;have f:=ziV h 3;have:=zrg h;generalize (rA t).getD 2 0=x2 at *
 generalize (rA t).getD 3 0=x3 at *
 generalize zgq t=c at *
 rcases this with ⟨_,a⟩ | ⟨_,a,h2⟩ | ⟨_,a,h2⟩ | ⟨_,a,h2,h3⟩ | ⟨_,a,h2,h3,h4,h5⟩<;>omega
theorem zzo (h:TOk t) (a:TOk t') (e:zgq t=zgq t'):t.1=t'.1/\(t.1=0\/(own t 0=own t' 0/\own t 1=own t' 1/\own t 2=own t' 2/\own t 3=own t' 3))/\(2 < t.1->(rA t).getD 2 0=(rA t').getD 2 0)/\(3 < t.1->(rA t).getD 3 0=(rA t').getD 3 0):=by
 have l:=ziV h 0;have m:=ziV h 1;have n:=ziV h 2;have o:=ziV h 3;have p:=ziV a 0;have q:=ziV a 1;have r:=ziV a 2;have s:=ziV a 3;have k:=zrg h;have i:=zrg a;rw [<- e] at i;generalize (rA t).getD 2 0=x2 at *
 generalize (rA t').getD 2 0=y2 at *
 generalize (rA t).getD 3 0=x3 at *
 generalize (rA t').getD 3 0=y3 at *
 generalize zgq t=c at *
 generalize own t 0=o0 at *
 generalize own t 1=o1 at *
 generalize own t 2=o2 at *
 generalize own t 3=o3 at *
 generalize own t' 0=p0 at *
 generalize own t' 1=p1 at *
 generalize own t' 2=p2 at *
 generalize own t' 3=p3 at *
 rcases k with ⟨b,d⟩ | ⟨b,d,h2⟩ | ⟨b,d,h2⟩ | ⟨b,d,h2,h3⟩ | ⟨b,d,h2,h3,h4,h5⟩<;>rcases i with ⟨f,g⟩ | ⟨f,g,i2⟩ | ⟨f,g,i2⟩ | ⟨f,g,i2,i3⟩ | ⟨f,g,i2,i3,i4,i5⟩<;>first | (exfalso;omega) | skip
 ·exact ⟨by omega,.inl b,fun _=>by omega,fun _=>by omega⟩
 ·exact ⟨by omega,.inr (by omega),fun _=>by omega,fun _=>by omega⟩
 ·exact ⟨by omega,.inr (by omega),fun _=>by omega,fun _=>by omega⟩
 ·exact ⟨by omega,.inr (by omega),fun _=>by omega,fun _=>by omega⟩
 ·have j:x2=y2/\x3=y3:=by omega
  obtain ⟨rfl,rfl⟩:=j;exact ⟨by omega,.inr (by omega),fun _=>rfl,fun _=>rfl⟩
theorem zzn (h:TOk t) (a:TOk t') (e:zgq t=zgq t'):t=t':=by
 obtain ⟨l,g,I,J⟩:=zzo h a e;have S:=h.n;have w:=a.n;have T:(Tr t).n=t.1.toNat:=rfl;have z:(Tr t').n=t'.1.toNat:=rfl;have f:∀ i,i < 4->(rA t).getD i 0=(rA t').getD i 0:=fun i b=>by
  by_cases c:t.1<=i
  ·rw [(h.fill i c b).2,(a.fill i (by omega) b).2]
  ·have:i=0\/i=1\/i=2\/i=3:=by omega
   rcases this with rfl | rfl | rfl | rfl
   ·rw [h.rt (by omega),a.rt (by omega)]
   ·have s:=zA0 h (i:=1) (by omega) (by omega);have U:=zA0 a (i:=1) (by omega) (by omega);generalize (rA t).getD 1 0=x at *
    generalize (rA t').getD 1 0=y at *
    omega
   ·exact I (by omega)
   ·exact J (by omega)
 have u:0 < t.1->∀ q:Int,0<=q->q < 4->topN (fun j=>(Tr t).L j q) (Tr t).n=topN (fun j=>(Tr t').L j q) (Tr t').n:=fun P q Q R=>by
  have g:=g.resolve_left (by omega);have:own t q=own t' q:=by
   have:q=0\/q=1\/q=2\/q=3:=by omega
   rcases this with rfl | rfl | rfl | rfl
   ·exact g.1
   ·exact g.2.1
   ·exact g.2.2.1
   ·exact g.2.2.2
  unfold own at this;omega
 have k:∀ i,i < 4->(rL t).getD i 0=(rL t').getD i 0:=fun i b=>by
  by_cases c:t.1<=i
  ·rw [(h.fill i c b).1,(a.fill i (by omega) b).1]
  ·refine zzc (h.b i b) (a.b i b) fun q=>⟨fun d => ?_,fun d => ?_⟩
   ·exact h.v.same (T':=Tr t') (q:=q) a.v (by omega) (fun j v=>f j (by omega)) (u (by omega) q d.1.1 d.1.2) (i:=i) (by omega) d
   ·exact a.v.same (T':=Tr t) (q:=q) h.v (by omega) (fun j v=>(f j (by omega)).symm) (u (by omega) q d.1.1 d.1.2).symm (i:=i) (by omega) d
 obtain ⟨n,⟨L,s,M,N,_⟩,⟨c0,c1,c2,c3,_⟩,_⟩:=t;obtain ⟨O,⟨m,o,p,r,_⟩,⟨c0',c1',c2',c3',_⟩,_⟩:=t';have A:L=m:=k 0 (by omega);have B:s=o:=k 1 (by omega);have l2:M=p:=k 2 (by omega);have C:N=r:=k 3 (by omega);have D:c0=c0':=f 0 (by omega);have E:c1=c1':=f 1 (by omega);have F:c2=c2':=f 2 (by omega);have H:c3=c3':=f 3 (by omega);have l:n=O:=l;rw [A,B,l2,C,D,E,F,H,l]
end
def PlOk (p:Tv×Int×Unit):Prop:=TOk p.1/\1<=p.2.1/\p.2.1<=9
section
variable {E:Int->Int->Prop} {F:Int->Prop} {T T':Tre} {d:SD} {m:Int}
theorem IsStep.up (h:IsStep E F T d T' m) (i:Vld T):∀ (n j:Nat),j<=n->j < d.N -> ¬ d.gone j->0 < j->0<=d.P j /\ ¬ d.gone 0/\∃ k,k < d.N /\ ¬ d.gone k/\d.P k=0:=by
 intro n;induction n with
 | zero=>intro j o _ _ p;omega
 | succ n r=>
  intro j o hN l p;have g:0<=d.P j:=by
   by_cases c:j < T.n
   ·have:=(i.root j c).1;rw [h.pOld j c];omega
   ·exact (h.pNew j (by omega) hN).1
  have q:=h.plt i hN;have f:=h.gPar j hN g l;by_cases e:d.P j=0
  ·rw [e] at f;exact ⟨g,f,j,hN,l,e⟩
  ·obtain ⟨_,a,b⟩:=r (d.P j).toNat (by omega) (by omega) f (by omega);exact ⟨g,a,b⟩
theorem IsStep.one (h:IsStep E F T d T' m) (c:Vld T) (k:m=1):T'.n=0:=by
 rcases h.mIs with g | ⟨i,h1,h2,g⟩ | ⟨i,_,_,_,g⟩
 ·omega
 ·obtain rfl:i=0:=by omega
  refine Nat.eq_zero_of_not_pos fun a => ?_
  obtain ⟨j,f,b,_⟩:=h.onto 0 a;by_cases e:j=0
  ·rw [e] at b;exact b h2
  ·exact (h.up c _ j (Nat.le_refl _) f b (by omega)).2.1 h2
 ·omega
theorem IsStep.two (h:IsStep E F T d T' m) (l:Vld T) (q:m=2):T'.n<=1:=by
 rcases h.mIs with g | ⟨i,_,_,g⟩ | ⟨i,h1,h2,h3,g⟩
 ·omega
 ·omega
 ·obtain rfl:i=0:=by omega
  refine Nat.le_of_not_lt fun f => ?_
  obtain ⟨j,o,p,e⟩:=h.onto 1 f;have n:=h.nuLe j;obtain ⟨_,_,k,a,b,c⟩:=h.up l _ j (Nat.le_refl _) o p (by omega);exact b (h.gFl k a (by omega) (by rw [c];exact h3))
end
def has3 (x d:Nat):Bool:=x % 3==d || x / 3 % 3==d || x / 9 % 3==d || x / 27 % 3==d
def has4 (x d:Nat):Bool:=x % 4==d || x / 4 % 4==d || x / 16 % 4==d || x / 64 % 4==d
def good (c:Nat):Bool:=
 if c / 9==0 then true else if Nat.blt (c / 9) 17 then c / 9 != 1 && c % 9 != 0 else if Nat.blt (c / 9) 98 then has3 (c / 9 - 17) 1 && has3 (c / 9 - 17) 2 && Nat.ble 2 (c % 9)
 else if Nat.blt (c / 9) 610 then has4 ((c / 9 - 98) % 256) 1 && has4 ((c / 9 - 98) % 256) 2 && has4 ((c / 9 - 98) % 256) 3 && Nat.ble 2 (c % 9)
 else if Nat.blt (c / 9) 2146 then has4 ((c / 9 - 610) % 256) 0 && has4 ((c / 9 - 610) % 256) 1 && has4 ((c / 9 - 610) % 256) 2 && has4 ((c / 9 - 610) % 256) 3 && Nat.ble 2 (c % 9) else false
def cntG (lo:Nat):Nat->Nat
 | 0=>if good lo then 1 else 0
 | k+1=>cntG lo k+cntG (lo+2 ^ k) k
theorem ztX:∀ (k lo:Nat),((List.range' lo (2 ^ k)).filter good).length=cntG lo k
 | 0,lo=>by
  show ((List.range' lo 1).filter good).length=_;rw [List.range'_one];unfold cntG;by_cases c:good lo=true
  ·rw [if_pos c];simp [c]
  ·rw [if_neg c];simp [c]
 | k+1,lo=>by
  have e:List.range' lo (2 ^ (k+1))=List.range' lo (2 ^ k)++List.range' (lo+2 ^ k) (2 ^ k):=by
   rw [show 2 ^ (k+1)=2 ^ k+2 ^ k by rw [Nat.pow_succ];omega,<- List.range'_append_1]
  rw [e,List.filter_append,List.length_append,ztX k lo,ztX k (lo+2 ^ k)];rfl
theorem zBB {k c:Nat} (h:c < 2 ^ k) (a:good c=true):c∈(List.range' 0 (2 ^ k)).filter good:=List.mem_filter.2 ⟨List.mem_range'_1.2 ⟨Nat.zero_le _,by omega⟩,a⟩
theorem zw4 {k:Nat} {l:List Nat} (b:l.Nodup) (h:∀ x∈l,x < 2 ^ k/\good x=true):l.length<=cntG 0 k:=by
 have:=zsp (U:=(List.range' 0 (2 ^ k)).filter good) b (fun x a=>zBB (h x a).1 (h x a).2)
 rwa [ztX] at this
theorem zA6:cntG 0 15<=2327:=by decide+kernel
theorem zzY {o0 a b c d:Nat} (i:o0 < 3) (j:a < 3) (k:b < 3) (l:c < 3) (h:o0=d\/a=d\/b=d\/c=d):has3 (o0+3 * a+9 * b+27 * c) d=true:=by
 have e0:(o0+3 * a+9 * b+27 * c) % 3=o0:=by omega
 have e:(o0+3 * a+9 * b+27 * c) / 3 % 3=a:=by omega
 have f:(o0+3 * a+9 * b+27 * c) / 9 % 3=b:=by omega
 have g:(o0+3 * a+9 * b+27 * c) / 27 % 3=c:=by omega
 unfold has3;rw [e0,e,f,g];simp only [Bool.or_eq_true,beq_iff_eq];omega
theorem znP {o0 a b c d:Nat} (i:o0 < 4) (j:a < 4) (k:b < 4) (l:c < 4) (h:o0=d\/a=d\/b=d\/c=d):has4 (o0+4 * a+16 * b+64 * c) d=true:=by
 have e0:(o0+4 * a+16 * b+64 * c) % 4=o0:=by omega
 have e:(o0+4 * a+16 * b+64 * c) / 4 % 4=a:=by omega
 have f:(o0+4 * a+16 * b+64 * c) / 16 % 4=b:=by omega
 have g:(o0+4 * a+16 * b+64 * c) / 64 % 4=c:=by omega
 unfold has4;rw [e0,e,f,g];simp only [Bool.or_eq_true,beq_iff_eq];omega
def PlW (p:Tv×Int×Unit):Prop:=PlOk p/\(p.2.1=1->p.1.1=0)/\(p.2.1=2->p.1.1<=1)
theorem zuD {t:Tv} (h:TOk t) {i:Int} (c:1<=i) (d:i<=t.1):own t 0=i\/own t 1=i\/own t 2=i\/own t 3=i:=by
 have f:=h.n;have e:(Tr t).n=t.1.toNat:=rfl;obtain ⟨q,b,a⟩:=h.v.owned (i:=(i - 1).toNat) (by omega);have a:own t q=i:=by unfold own;omega
 have:q=0\/q=1\/q=2\/q=3:=by have:=b.1;omega
 rcases this with rfl | rfl | rfl | rfl
 ·exact .inl a
 ·exact .inr (.inl a)
 ·exact .inr (.inr (.inl a))
 ·exact .inr (.inr (.inr a))
theorem zxu {x y:Nat} (h:x < y):Nat.blt x y=true:=Nat.ble_eq_true_of_le h
theorem zpI {x y:Nat} (h : ¬ x < y) : ¬ Nat.blt x y=true:=fun hh=>h (Nat.le_of_ble_eq_true hh)
theorem good0 {m:Nat} (a:m < 9):good (0 * 9+m)=true:=by
 unfold good;rw [show (0 * 9+m) / 9=0 by omega];rfl
theorem good1 {x m:Nat} (b:m < 9) (c:1<=x) (d:x < 16) (a:1<=m):good ((1+x) * 9+m)=true:=by
 unfold good;rw [show ((1+x) * 9+m) / 9=1+x by omega,show ((1+x) * 9+m) % 9=m by omega,if_neg (by simp),if_pos (zxu (by omega))];simp only [Bool.and_eq_true,bne_iff_ne];omega
theorem good2 {x m:Nat} (d:m < 9) (h:x < 81) (b:has3 x 1=true) (c:has3 x 2=true) (a:2<=m):good ((17+x) * 9+m)=true:=by
 unfold good;rw [show ((17+x) * 9+m) / 9=17+x by omega,show ((17+x) * 9+m) % 9=m by omega,if_neg (by simp),if_neg (zpI (by omega)),if_pos (zxu (by omega)),show 17+x - 17=x by omega,b,c];exact Nat.ble_eq_true_of_le a
theorem good3 {a x m:Nat} (f:m < 9) (g:a < 2) (h:x < 256) (c:has4 x 1=true) (d:has4 x 2=true) (e:has4 x 3=true) (b:2<=m):good ((98+(a * 256+x)) * 9+m)=true:=by
 unfold good;rw [show ((98+(a * 256+x)) * 9+m) / 9=98+(a * 256+x) by omega,show ((98+(a * 256+x)) * 9+m) % 9=m by omega,if_neg (by simp),if_neg (zpI (by omega)),if_neg (zpI (by omega)),if_pos (zxu (by omega)),show (98+(a * 256+x) - 98) % 256=x by omega,c,d,e];exact Nat.ble_eq_true_of_le b
theorem good4 {a x m:Nat} (g:m < 9) (i:a < 6) (h:x < 256) (c:has4 x 0=true) (d:has4 x 1=true) (e:has4 x 2=true) (f:has4 x 3=true) (b:2<=m):good ((610+(a * 256+x)) * 9+m)=true:=by
 unfold good;rw [show ((610+(a * 256+x)) * 9+m) / 9=610+(a * 256+x) by omega,show ((610+(a * 256+x)) * 9+m) % 9=m by omega,if_neg (by simp),if_neg (zpI (by omega)),if_neg (zpI (by omega)),if_neg (zpI (by omega)),if_pos (zxu (by omega)),show (610+(a * 256+x) - 610) % 256=x by omega,c,d,e,f];exact Nat.ble_eq_true_of_le b
theorem zBK {p:Tv×Int×Unit} (h:PlW p):good (zgq p.1 * 9+(p.2.1 - 1)).toNat=true:=by
 obtain ⟨⟨o,M,N⟩,hm1,hm2⟩:=h;have B:=zrg o;have d:=zuD o (i:=1) (by omega);have e:=zuD o (i:=2) (by omega);have q:=zuD o (i:=3) (by omega);have s:=zuD o (i:=4) (by omega);have C:=ziV o 0;have D:=ziV o 1;have E:=ziV o 2;have F:=ziV o 3;obtain ⟨p,m,_⟩:=p;simp only at *
 generalize zgq p=c at *
 generalize own p 0=w0 at *
 generalize own p 1=w1 at *
 generalize own p 2=w2 at *
 generalize own p 3=w3 at *
 obtain ⟨o0,rfl⟩:∃ o0:Nat,w0=o0:=⟨_,(Int.toNat_of_nonneg C.1).symm⟩;obtain ⟨k,rfl⟩:∃ k:Nat,w1=k:=⟨_,(Int.toNat_of_nonneg D.1).symm⟩;obtain ⟨l,rfl⟩:∃ l:Nat,w2=l:=⟨_,(Int.toNat_of_nonneg E.1).symm⟩;obtain ⟨n,rfl⟩:∃ n:Nat,w3=n:=⟨_,(Int.toNat_of_nonneg F.1).symm⟩;obtain ⟨u,rfl⟩:∃ u:Nat,m=(u:Int)+1:=⟨(m - 1).toNat,by omega⟩;have t:∀ r:Nat,c=r->(c * 9+((u:Int)+1 - 1)).toNat=r * 9+u:=fun r J=>by omega
 rcases B with ⟨O,I⟩ | ⟨n1,c1,c2⟩ | ⟨n2,c1,c2⟩ | ⟨n3,c1,c2,c3⟩ | ⟨n4,c1,c2,c3,c4,c5⟩
 ·rw [t 0 I];exact good0 (by omega)
 ·rw [t (1+(o0+2 * k+4 * l+8 * n)) (by omega)];have:=d (by omega);exact good1 (by omega) (by omega) (by omega) (by omega)
 ·rw [t (17+(o0+3 * k+9 * l+27 * n)) (by omega)];have z:=d (by omega);have A:=e (by omega);have f:o0 < 3:=by omega
  have g:k < 3:=by omega
  have l2:l < 3:=by omega
  have j:n < 3:=by omega
  exact good2 (by omega) (by omega) (zzY f g l2 j (by omega)) (zzY f g l2 j (by omega)) (by omega)
 ·generalize (rA p).getD 2 0=y2 at *
  obtain ⟨a,rfl⟩:∃ a:Nat,y2=a:=⟨_,(Int.toNat_of_nonneg c3.1).symm⟩;rw [t (98+(a * 256+(o0+4 * k+16 * l+64 * n))) (by omega)];have z:=d (by omega);have A:=e (by omega);have H:=q (by omega);have f:o0 < 4:=by omega
  have g:k < 4:=by omega
  have l2:l < 4:=by omega
  have j:n < 4:=by omega
  exact good3 (by omega) (by omega) (by omega) (znP f g l2 j (by omega)) (znP f g l2 j (by omega)) (znP f g l2 j (by omega)) (by omega)
 ·generalize (rA p).getD 2 0=y2 at *
  generalize (rA p).getD 3 0=y3 at *
  obtain ⟨a,rfl⟩:∃ a:Nat,y2=a:=⟨_,(Int.toNat_of_nonneg c3.1).symm⟩;obtain ⟨b,rfl⟩:∃ b:Nat,y3=b:=⟨_,(Int.toNat_of_nonneg c4.1).symm⟩;obtain ⟨v,rfl⟩:∃ v,o0=v+1:=⟨o0 - 1,by omega⟩;obtain ⟨w,rfl⟩:∃ w,k=w+1:=⟨k - 1,by omega⟩;obtain ⟨x,rfl⟩:∃ x,l=x+1:=⟨l - 1,by omega⟩;obtain ⟨y,rfl⟩:∃ y,n=y+1:=⟨n - 1,by omega⟩;rw [t (610+((a * 3+b) * 256+(v+4 * w+16 * x+64 * y))) (by omega)];have z:=d (by omega);have A:=e (by omega);have H:=q (by omega);have L:=s (by omega);have f:v < 4:=by omega
  have g:w < 4:=by omega
  have l2:x < 4:=by omega
  have j:y < 4:=by omega
  exact good4 (by omega) (by omega) (by omega) (znP f g l2 j (by omega)) (znP f g l2 j (by omega)) (znP f g l2 j (by omega)) (znP f g l2 j (by omega)) (by omega)
theorem zBJ {p:Tv×Int×Unit} (a:PlW p):(zgq p.1 * 9+(p.2.1 - 1)).toNat < 2 ^ 15:=by
 have:=zwC a.1.1;have:=a.1.2;have e:(2:Nat) ^ 15=32768:=by decide
 rw [e];omega
theorem zDm {x y:Tv×Int×Unit} (f:PlW x) (g:PlW y) (e:(zgq x.1 * 9+(x.2.1 - 1)).toNat=(zgq y.1 * 9+(y.2.1 - 1)).toNat):x=y:=by
 obtain ⟨⟨c,l⟩,_⟩:=f;obtain ⟨⟨d,n⟩,_⟩:=g;have k:=zwC c;have h:=zwC d;have i:zgq x.1=zgq y.1:=by omega
 have a:x.2.1=y.2.1:=by omega
 have b:=zzn c d i;obtain ⟨x,m,_⟩:=x;obtain ⟨y,j,_⟩:=y;have b:x=y:=b;have a:m=j:=a;rw [b,a]
def zEc (p:Tv×Int×Unit):Nat:=(zgq p.1 * 9+(p.2.1 - 1)).toNat
theorem zDn {k:Nat} {l:List (Tv×Int×Unit)} (d:l.Nodup) (a:∀ x∈l,PlW x) (f:∀ x∈l,zEc x < 2 ^ k):l.length<=cntG 0 k:=by
 have g:(l.map zEc).Nodup:=by
  rw [List.nodup_iff_pairwise_ne,List.pairwise_map];exact List.Pairwise.imp_of_mem (fun {x y} b hy hxy e=>hxy (zDm (a x b) (a y hy) e)) (List.nodup_iff_pairwise_ne.1 d)
 have h:=zw4 (k:=k) g (fun x b=>by
  obtain ⟨p,c,rfl⟩:=List.mem_map.1 b;exact ⟨f p c,zBK (a p c)⟩)
 rwa [List.length_map] at h
theorem zAr {l:List (Tv×Int×Unit)} (b:l.Nodup) (a:∀ x∈l,PlW x):l.length<=2327:=
 Nat.le_trans (zDn (k:=15) b a (fun x c=>zBJ (a x c))) zA6
theorem zEn {L:List Int} (h:L.length=16):[L.getD 0 0,L.getD 1 0,L.getD 2 0,L.getD 3 0,L.getD 4 0,L.getD 5 0,L.getD 6 0,L.getD 7 0,L.getD 8 0,L.getD 9 0,L.getD 10 0,L.getD 11 0,L.getD 12 0,L.getD 13 0,L.getD 14 0,L.getD 15 0]=L:=by
 match L,h with
 | [a,b,c,d,e,f,g,i,j,k,m,n,o,p,q,r],_=>rfl
def det3 (a:Au) (t:Int) (V:List Int) (f:Int):=zdH a t (V.getD 0 0) (V.getD 1 0) (V.getD 2 0) (V.getD 3 0) (V.getD 4 0) (V.getD 5 0) (V.getD 6 0) (V.getD 7 0) (V.getD 8 0) (V.getD 9 0) (V.getD 10 0) (V.getD 11 0) (V.getD 12 0) (V.getD 13 0) (V.getD 14 0) (V.getD 15 0) f
def bOf (V:List Int) (f:Int):Bv:=(((V.getD 0 0,V.getD 1 0,V.getD 2 0,V.getD 3 0,()),(V.getD 4 0,V.getD 5 0,V.getD 6 0,V.getD 7 0,()),(V.getD 8 0,V.getD 9 0,V.getD 10 0,V.getD 11 0,()),(V.getD 12 0,V.getD 13 0,V.getD 14 0,V.getD 15 0,()),()),f,())
theorem zEr {V:List Int} {f:Int} {p x:Int} (c:0<=p) (d:p < 4) (e:0<=x) (g:x < 4):nxB (bOf V f) p x=V.getD (p.toNat * 4+x.toNat) 0:=by
 have a:p=0\/p=1\/p=2\/p=3:=by omega
 have b:x=0\/x=1\/x=2\/x=3:=by omega
 rcases a with rfl | rfl | rfl | rfl<;>rcases b with rfl | rfl | rfl | rfl<;>rfl
def zeW (s:Int):Pl:=if s=0 then ((0,(0,0,0,0,()),(0,0,0,0,()),()),9,()) else ((1,(s,0,0,0,()),(-1,0,0,0,()),()),9,())
def nxS (b:Bv) (p:Pl) (x:Int):Pl:=if p.1.1=0 then ((0,(0,0,0,0,()),(0,0,0,0,()),()),1,()) else (zb5 b p.1 x).getD default
section
variable {a:Au}
def zy2 (a:Au) (t:Int) (V:List Int):Prop:=V.length=16/\∀ p x:Int,0<=p->p < 4->0<=x->x < 4->B4 (V.getD (p.toNat * 4+x.toNat) 0)/\∀ q,bt (V.getD (p.toNat * 4+x.toNat) 0) q↔∃ k:Int,0<=k/\k < t/\ix a.2.2.2.1 k=(p,x,q,())
theorem zzx (u:AuOk a) (h4:a.2.1<=4) {f s:Int} (hs:zhp a.2.2.1=some s) {g b:Dt}:∀ (n:Nat) (t:Int) (V:List Int),(a.2.2.2.1.length - t).toNat=n->0<=t->t<=a.2.2.2.1.length->zy2 a t V->
  ∃ o,zy2 a a.2.2.2.1.length o/\det3 a t V f=(zhx a.1 (zeW s) 1048576 (bOf o f)).bind (fun y=>(zgt y.1).bind fun y=>some y):=by
 have F:=u.sl;have P:=u.let1;intro n;induction n with
 | zero=>
  intro t V N t0 O v;obtain rfl:t=a.2.2.2.1.length:=by omega
  refine ⟨V,v,?_⟩;unfold det3;rw [zfS];unfold zbf zen;rw [if_neg (by simp)];refine zaj hs ?_;by_cases c:s=0
  ·rw [if_neg (by simpa using c)];unfold zeW;rw [if_pos c];rfl
  ·rw [if_pos (by simpa using c)];unfold zeW;rw [if_neg c];rfl
 | succ n ih=>
  intro t V N t0 O v;obtain ⟨j,m⟩:=v;obtain ⟨⟨H,Q⟩,⟨l0,l1⟩,g0,g1⟩:=u.sb _ (zbc (l:=a.2.2.2.1) t0 (by omega));obtain ⟨p,z⟩:∃ p,(ix a.2.2.2.1 t).1=p:=⟨_,rfl⟩;obtain ⟨x,A⟩:∃ x,(ix a.2.2.2.1 t).2.1=x:=⟨_,rfl⟩;obtain ⟨q,B⟩:∃ q,(ix a.2.2.2.1 t).2.2.1=q:=⟨_,rfl⟩;have h:ix a.2.2.2.1 t=(p,x,q,()):=by rw [<- z,<- A,<- B]
  rw [z] at H Q;rw [A] at l0 l1;rw [B] at g0 g1;obtain ⟨R,S⟩:=m p x H (by omega) l0 (by omega);obtain ⟨T,U⟩:=zCe g0 (show q < 4 by omega);obtain ⟨W,X⟩:=zA2 R T;have hk:p.toNat * 4+x.toNat < 16:=by omega
  obtain ⟨o,Y,Z⟩:=ih (t+1) (V.set (p.toNat * 4+x.toNat) (ior .i64 (V.getD (p.toNat * 4+x.toNat) 0) (ishl .i64 1 q))) (by omega) (by omega) (by omega) ⟨by rw [List.length_set,j],fun D E I J L M=>by
   by_cases e:D=p/\E=x
   ·obtain ⟨rfl,rfl⟩:=e;rw [List.getD_eq_getElem?_getD,List.getElem?_set_self (by omega),Option.getD_some];refine ⟨W,fun r => ?_⟩;rw [X,S,U];constructor
    ·rintro (⟨k,i,C,d⟩ | rfl)
     ·exact ⟨k,i,by omega,d⟩
     ·exact ⟨t,t0,by omega,h⟩
    ·rintro ⟨k,i,C,d⟩;by_cases w:k=t
     ·rw [w,h] at d;right;simp only [Prod.mk.injEq] at d;exact d.2.2.1.symm
     ·exact .inl ⟨k,i,by omega,d⟩
   ·rw [List.getD_eq_getElem?_getD,List.getElem?_set_ne (by
     intro e2;exact e ⟨by omega,by omega⟩),<- List.getD_eq_getElem?_getD]
    obtain ⟨d1,d2⟩:=m D E I J L M;refine ⟨d1,fun r=>(d2 r).trans ⟨fun ⟨k,i,C,d⟩=>⟨k,i,by omega,d⟩,fun ⟨k,i,C,d⟩ => ?_⟩⟩;by_cases w:k=t
    ·rw [w,h] at d;simp only [Prod.mk.injEq] at d;exact absurd ⟨d.1.symm,d.2.1.symm⟩ e
    ·exact ⟨k,i,by omega,d⟩⟩
  refine ⟨o,Y,?_⟩;rw [<- Z];unfold det3
  conv=>lhs;rw [zfS];unfold zbf
  rw [if_pos (by simp;omega),zab (by omega),z,A,B,zab (by omega),zab (by omega),zab (by omega),zab (by omega),zab (by omega),zab (by omega),zab (by omega),zab (by unfold fits;omega)];rw [zEn j]
theorem zx9:TOk (0,(0,0,0,0,()),(0,0,0,0,()),()):=by
 refine ⟨by decide,zya rfl,fun i a => ?_,fun i b c => ?_,fun h=>absurd h (by decide)⟩
 ·have:i=0\/i=1\/i=2\/i=3:=by omega
  rcases this with rfl | rfl | rfl | rfl<;>exact zdS.1
 ·have:i=0\/i=1\/i=2\/i=3:=by omega
  rcases this with rfl | rfl | rfl | rfl<;>exact ⟨rfl,rfl⟩
theorem zr3 {s:Int} (hs:B4 s):PlOk (zeW s):=by
 unfold zeW;by_cases c:s=0
 ·rw [if_pos c];exact ⟨zx9,by decide,by decide⟩
 ·rw [if_neg c];obtain ⟨q,f⟩:=(zu4 hs).1 c;have b:(Tr (1,(s,0,0,0,()),(-1,0,0,0,()),())).n=1:=rfl;refine ⟨⟨⟨show (0:Int)<=1 by decide,show (1:Int)<=4 by decide⟩,⟨fun i a => ?_,fun i a => ?_,fun i a d => ?_,fun i a => ?_,fun i a => ?_,fun i j g h => ?_⟩,fun i a => ?_,fun i d m => ?_,fun _=>rfl⟩,show (1:Int)<=9 by decide,show (9:Int)<=9 by decide⟩
  ·rw [b] at a;obtain rfl:i=0:=by omega
   exact ⟨fun _=>rfl,fun _=>by show (-1:Int) < 0;omega⟩
  ·rw [b] at a;obtain rfl:i=0:=by omega
   show (-1:Int) < 0;omega
  ·rw [b] at a;obtain rfl:i=0:=by omega
   have d:(0:Int) <= -1:=d;omega
  ·rw [b] at a;obtain rfl:i=0:=by omega
   exact ⟨q,f⟩
  ·rw [b] at a;obtain rfl:i=0:=by omega
   refine ⟨q,f,fun k l e => ?_⟩;rw [b] at l;obtain rfl:k=0:=by omega
   have e:(-1:Int)=0:=e;omega
  ·rw [b] at h;omega
  ·have:i=0\/i=1\/i=2\/i=3:=by omega
   rcases this with rfl | rfl | rfl | rfl
   ·exact hs
   ·exact zdS.1
   ·exact zdS.1
   ·exact zdS.1
  ·have d:(1:Int)<=i:=d;have:i=1\/i=2\/i=3:=by omega
   rcases this with rfl | rfl | rfl<;>exact ⟨rfl,rfl⟩
def BAll (a:Au) (b:Bv):Prop:=∀ x:Int,0<=x->x < a.1->BOk b x (fun p q=>StA a p x q) (fun q=>q∈a.2.2.2.2.1)
theorem zCM (j:AuOk a) (s:a.2.1<=4) {V:List Int} {f:Int} (l:zy2 a a.2.2.2.1.length V) (m:B4 f/\∀ q,bt f q↔q∈a.2.2.2.2.1):BAll a (bOf V f):=fun x b t=>by
 have n:=j.let1;refine ⟨⟨b,by omega⟩,fun p g i => ?_,m⟩;rw [zEr g i b (by omega)];obtain ⟨o,r⟩:=l.2 p x g i b (by omega);refine ⟨o,fun q=>(r q).trans ?_⟩;unfold StA;constructor
 ·rintro ⟨k,c,d,e⟩;rw [<- e];exact zbc c d
 ·intro h;obtain ⟨k,c,d,e⟩:=(zkq (P:=fun y=>y=(p,x,q,()))).1 ⟨_,h,rfl⟩;exact ⟨k,c,d,e⟩
theorem zoM {b:Bv} (h:BAll a b) {p:Pl} (i:PlOk p) {x:Int} (j:0<=x) (k:x < a.1):PlOk (nxS b p x)/\zbA p x b=some (nxS b p x,b)/\
  ∃ d,((Tr p.1).n=0/\(Tr (nxS b p x).1).n=0/\(nxS b p x).2.1=1)\/(0 < (Tr p.1).n/\IsStep (fun p q=>StA a p x q) (fun q=>q∈a.2.2.2.2.1) (Tr p.1) d (Tr (nxS b p x).1) (nxS b p x).2.1):=by
 obtain ⟨f,t,u⟩:=i;have r:=f.n;have s:(Tr p.1).n=p.1.1.toNat:=rfl;by_cases c:p.1.1=0
 ·have e:nxS b p x=((0,(0,0,0,0,()),(0,0,0,0,()),()),1,()):=if_pos c;rw [e];refine ⟨⟨zx9,by decide,by decide⟩,?_,⟨0,fun _ _=>False,fun _=>0,fun _=>False,fun _=>False,fun _=>0⟩,.inl ⟨by omega,rfl,rfl⟩⟩;unfold zbA;rw [if_pos (decide_eq_true c)]
 ·obtain ⟨t',m,d,g,l,n,o⟩:=zAI (h x j k) f;have e:nxS b p x=(t',m,()):=by unfold nxS;rw [if_neg c,g];rfl
  rw [e];refine ⟨⟨l,n⟩,?_,d,.inr ⟨by omega,o⟩⟩;unfold zbA;rw [if_neg (by simpa using c)];exact zaj g rfl
end
section
variable {a:Au}
theorem nxS_W {b:Bv} (h:BAll a b) {p:Pl} (e:PlW p) {x:Int} (i:0<=x) (j:x < a.1):PlW (nxS b p x):=by
 obtain ⟨g,_,d,c⟩:=zoM h e.1 i j;have k:=g.1.n;have l:(Tr (nxS b p x).1).n=(nxS b p x).1.1.toNat:=rfl;rcases c with ⟨_,c,m⟩ | ⟨_,c⟩
 ·exact ⟨g,fun _=>by omega,fun _=>by omega⟩
 ·refine ⟨g,fun f => ?_,fun f => ?_⟩
  ·have:=c.one e.1.1.v f;omega
  ·have:=c.two e.1.1.v f;omega
theorem zBd {s:Int} (hs:B4 s):PlW (zeW s):=by
 refine ⟨zr3 hs,fun h => ?_,fun h => ?_⟩
 ·unfold zeW at h ⊢;by_cases c:s=0
  ·rw [if_pos c]
  ·rw [if_neg c] at h;have h:(9:Int)=1:=h;omega
 ·unfold zeW at h;by_cases c:s=0
  ·rw [if_pos c] at h;have h:(9:Int)=2:=h;omega
  ·rw [if_neg c] at h;have h:(9:Int)=2:=h;omega
theorem zEz {b:Bv} (d:BAll a b) {s:Int} (hs:B4 s):XOk (nxS b) (fun p:Pl=>p.2.1) a.1.toNat (zeW s) 2327 PlW:=
 ⟨fun l e c=>zAr e c,zBd hs,fun p c t t0 f=>nxS_W d c t0 (by omega),fun p c=>by have:=c.1.2;omega⟩
theorem zwD (u:AuOk a) (J:a.2.1<=4):∃ o b s,zdM a=some o/\DOk 20000 badM o/\o.2.2.1.length<=2327/\o.1=a.1/\BAll a b/\(B4 s/\∀ q,bt s q↔q∈a.2.2.1)/\(∀ m∈o.2.2.2.1,1<=m/\m<=9)/\
  ∀ w:List Int,(∀ x∈w,0<=x/\x < a.1)->ix o.2.2.2.1 (wlk o.2.2.1 o.2.1 w)=(w.foldl (nxS b) (zeW s)).2.1:=by
 have O:=u.let1;have R:=u.ls;have S:=u.lf;obtain ⟨f,W,X,Y⟩:=zmd (l:=a.2.2.2.2.1) (by omega) (fun q A=>by have:=u.f q A;omega);obtain ⟨s,Z,H,s3⟩:=zmd (l:=a.2.2.1) (by omega) (fun q A=>by have:=u.s q A;omega);obtain ⟨V,hV,E⟩:=zzx (f:=f) u J Z (g:=default) (b:=default) _ 0 [0,0,0,0,0,0,0,0,0,0,0,0,0,0,0,0] rfl (Int.le_refl _) (by omega) ⟨rfl,fun p x p0 p1 x0 x1=>by
  have e:[(0:Int),0,0,0,0,0,0,0,0,0,0,0,0,0,0,0].getD (p.toNat * 4+x.toNat) 0=0:=by
   have j:p=0\/p=1\/p=2\/p=3:=by omega
   have d:x=0\/x=1\/x=2\/x=3:=by omega
   rcases j with rfl | rfl | rfl | rfl<;>rcases d with rfl | rfl | rfl | rfl<;>rfl
  rw [e];exact ⟨zdS.1,fun q=>⟨fun h=>absurd h (zdS.2 q),fun ⟨k,k0,k1,_⟩=>by omega⟩⟩⟩
 have F:=zCM u J hV ⟨X,Y⟩;have d:=zEz F H;obtain ⟨n,n1,v,I⟩:=zwf d;have B:=zAS d (by omega) (by omega) v I;obtain ⟨o,C,Q,K,r,g2⟩:=zyE B;have e0:(xAut (nxS (bOf V f)) (fun p:Pl=>p.2.1) a.1.toNat (zeW s) n).1=a.1:=by show (a.1.toNat:Int)=a.1;omega
 have T:o.1=a.1:=by rw [r.let1,e0]
 have dok:=r.dok B;have run:zdM a=some o:=by
  unfold zdM;refine zaj W ?_;refine Eq.trans E ?_;refine zaj (zqW (mk:=fun p:Pl=>p.2.1) (c:=bOf V f) d (by omega) (by omega) (by omega) (fun p j t t0 t1=>(zoM F j.1 t0 (by omega)).2.1) (fun p j=>rfl) v I) ?_;exact zaj g2 rfl
 have i:∀ w:List Int,(∀ x∈w,0<=x/\x < a.1)->ix o.2.2.2.1 (wlk o.2.2.1 o.2.1 w)=(w.foldl (nxS (bOf V f)) (zeW s)).2.1:=fun w hw=>by
  obtain ⟨_,_,m3⟩:=zyG B r (w:=w) (fun x d=>by rw [e0];exact hw x d);rw [m3];have L:0 < n:=by
   have:=B.n1.1;obtain ⟨_,_,z⟩:=zkh d n v;have e:(xAut (nxS (bOf V f)) (fun p:Pl=>p.2.1) a.1.toNat (zeW s) n).2.2.1.length=n:=z.r;omega
  obtain ⟨_,_,z⟩:=zkh d n v;obtain ⟨w1,w2,w3⟩:=zsY d v I w 0 (by omega) (by omega) (fun x d=>by have:=hw x d;omega);have:=z.mark _ w1 w2;rw [w3,z.z] at this;exact this
 have D:o.2.2.1.length<=2327:=by
  have h1:=r.part.q.le r.fin;have h2:=r.all;have h3:=r.fin.le;obtain ⟨_,_,z⟩:=zkh d n v;have e:(xAut (nxS (bOf V f)) (fun p:Pl=>p.2.1) a.1.toNat (zeW s) n).2.2.1.length=n:=z.r;omega
 refine ⟨o,bOf V f,s,run,dok,D,T,F,⟨H,s3⟩,fun m M => ?_,i⟩;obtain ⟨k,k0,k1,rfl⟩:=(zkq (P:=fun x=>x=m)).1 ⟨m,M,rfl⟩;obtain ⟨w,hw,A⟩:=r.reach B k0 (by have:=dok.mkl;omega);have hw:∀ x∈w,0<=x/\x < a.1:=fun x d=>by have:=hw x d;rw [e0] at this;exact this
 rw [<- A,i w hw];have U:∀ (w:List Int) (p:Pl),(∀ x∈w,0<=x/\x < a.1)->PlOk p->PlOk (w.foldl (nxS (bOf V f)) p):=fun w=>by
  induction w with
  | nil=>intro p _ j;exact j
  | cons x w ih=>
   intro p hw j;have:=hw x (by simp);exact ih _ (fun y N=>hw y (by simp [N])) (zoM F j this.1 this.2).1
 exact (U w _ hw (zr3 H)).2
end
theorem zyX {N:List (List Int)} (q:Int) (u v:List Int):wlk N q (u++v)=wlk N (wlk N q u) v:=by unfold wlk;rw [List.foldl_append]
def preW (l:LsT) (t:Nat):List Int:=(List.range t).map (las l)
theorem zvM (l:LsT) (t:Nat):preW l (t+1)=preW l t++[las l t]:=by unfold preW;rw [List.range_succ,List.map_append];rfl
theorem zEl {l:LsT} (k i:Nat) (a:i < l.2.1.length):las l (l.1.length+k * l.2.1.length+i)=ix l.2.1 (i:Int):=by
 unfold las;rw [if_neg (by omega),show l.1.length+k * l.2.1.length+i - l.1.length=i+k * l.2.1.length by omega,Nat.add_mul_mod_self_right,Nat.mod_eq_of_lt a]
def mkAt (d:Dt) (l:LsT) (t:Nat):Int:=ix d.2.2.2.1 (wlk d.2.2.1 d.2.1 (preW l (t+1)))
section
variable {a:Au}
def plAt (b:Bv) (s:Int) (l:LsT) (t:Nat):Pl:=(preW l t).foldl (nxS b) (zeW s)
theorem zvL (b:Bv) (s:Int) (l:LsT) (t:Nat):plAt b s l (t+1)=nxS b (plAt b s l t) (las l t):=by
 unfold plAt;rw [zvM,List.foldl_append];rfl
theorem las_b {L:Int} {l:LsT} (a:0 < l.2.1.length) (hh:∀ x∈l.1,0<=x/\x < L) (hw:∀ x∈l.2.1,0<=x/\x < L) (t:Nat):0<=las l t/\las l t < L:=by
 unfold las;by_cases c:t < l.1.length
 ·rw [if_pos c];exact hh _ (zbc (by omega) (by omega))
 ·rw [if_neg c];have:=Nat.mod_lt (t - l.1.length) a;exact hw _ (zbc (by omega) (by omega))
theorem zAD {b:Bv} (e:BAll a b) {s:Int} (hs:B4 s) {l:LsT} (c:∀ t,0<=las l t/\las l t < a.1):∃ D,Row (fun t p q=>StA a p (las l t) q) (fun q=>q∈a.2.2.2.2.1) (fun t=>Tr (plAt b s l t).1) D (fun t=>(plAt b s l (t+1)).2.1)/\∀ t,PlOk (plAt b s l t):=by
 have d:∀ t,PlOk (plAt b s l t):=fun t=>by
  induction t with
  | zero=>exact zr3 hs
  | succ t f=>rw [zvL];exact (zoM e f (c t).1 (c t).2).1
 have st:=fun t=>(zoM e (d t) (c t).1 (c t).2).2.2
 refine ⟨fun t=>Classical.choose (st t),⟨(d 0).1.v,fun t => ?_⟩,d⟩;have:=Classical.choose_spec (st t);show ((Tr (plAt b s l t).1).n=0/\(Tr (plAt b s l (t+1)).1).n=0/\(plAt b s l (t+1)).2.1=1)\/(0 < (Tr (plAt b s l t).1).n/\IsStep (fun p q=>StA a p (las l t) q) (fun q=>q∈a.2.2.2.2.1) (Tr (plAt b s l t).1) (Classical.choose (st t)) (Tr (plAt b s l (t+1)).1) (plAt b s l (t+1)).2.1);rw [zvL];exact this
theorem zEv {L:Int} {l:LsT} (a:∀ t,0<=las l t/\las l t < L) (t:Nat):∀ x∈preW l t,0<=x/\x < L:=fun x b=>by
 obtain ⟨k,_,rfl⟩:=List.mem_map.1 b;exact a k
theorem zxh (h:AuOk a) (i:a.2.1<=4) {o:Dt} {b:Bv} {s:Int} (j:BAll a b) (hs:B4 s/\∀ q,bt s q↔q∈a.2.2.1) (e:∀ w:List Int,(∀ x∈w,0<=x/\x < a.1)->ix o.2.2.2.1 (wlk o.2.2.1 o.2.1 w)=(w.foldl (nxS b) (zeW s)).2.1)
  {l:LsT} (k:0 < l.2.1.length) (f:∀ t,0<=las l t/\las l t < a.1) {m:Int} (g:zqf (mkAt o l) m):m % 2=0↔RefA a (las l) l.1.length l.2.1.length:=by
 obtain ⟨D,r,u⟩:=zAD j hs.1 f;have p:mkAt o l=fun t=>(plAt b s l (t+1)).2.1:=funext fun t=>e _ (zEv f _)
 rw [p] at g;have e0:plAt b s l 0=zeW s:=rfl;refine zAC h i k (fun t n=>zDe t n) r ?_ (fun q d => ?_) (fun q d => ?_) (fun t => ?_) g
 ·show (Tr (plAt b s l 0).1).n<=1;rw [e0];unfold zeW;by_cases c:s=0
  ·rw [if_pos c];exact Nat.zero_le 1
  ·rw [if_neg c];exact Nat.le_refl 1
 ·have d:0 < (Tr (plAt b s l 0).1).n:=d;show (Tr (plAt b s l 0).1).L 0 q↔_;rw [e0] at d ⊢;unfold zeW at d ⊢;by_cases c:s=0
  ·rw [if_pos c] at d;exact absurd d (Nat.lt_irrefl 0)
  ·rw [if_neg c];exact hs.2 q
 ·show 0 < (Tr (plAt b s l 0).1).n;rw [e0];unfold zeW;rw [if_neg ((zu4 hs.1).2 ⟨q,(hs.2 q).2 d⟩)];exact Nat.one_pos
 ·have:=(u t).1.n;show (plAt b s l t).1.1.toNat<=4;omega
end
structure GG (n:Int) (O M:List Int) (N B:List (List Int)):Prop where
 n1:0<=n/\n<=1000000
 lo:(O.length:Int)=n
 lm:(M.length:Int)=n
 ln:(N.length:Int)=n
 lb:(B.length:Int)=n
 own:∀ p:Int,0<=p->p < n->ix O p=0\/ix O p=1
 mrk:∀ p:Int,0<=p->p < n->0<=ix M p
 rng:∀ p:Int,0<=p->p < n->∀ q∈ix N p,0<=q/\q < n
 nd:∀ p:Int,0<=p->p < n->(ix N p).Nodup
 brng:∀ q:Int,0<=q->q < n->∀ p∈ix B q,0<=p/\p < n
 back:∀ p q:Int,0<=p->p < n->0<=q->q < n->(p∈ix B q↔q∈ix N p)
 bnd:∀ q:Int,0<=q->q < n->(ix B q).Nodup
def In (n:Int) (W:List Bool) (p:Int):Prop:=0<=p/\p < n/\ix W p=true
open Classical in
def cnt (N:List (List Int)) (W:List Bool) (D:Int->Prop) (p:Int):Int:=(((ix N p).filter (fun q=>decide (ix W q=true /\ ¬ D q))).length:Int)
section
variable {n:Int} {O M:List Int} {N B:List (List Int)} {W:List Bool} {player:Int} {to mv0:List Int}
theorem GG.nlen (g:GG n O M N B) {p:Int} (a:0<=p) (b:p < n):((ix N p).length:Int)<=n:=by
 have:=zcW (n:=n.toNat) (g.nd p a b) (fun x c=>by have:=g.rng p a b x c;omega);have:=g.n1;omega
theorem GG.blen (g:GG n O M N B) {p:Int} (a:0<=p) (b:p < n):((ix B p).length:Int)<=n:=by
 have:=zcW (n:=n.toNat) (g.bnd p a b) (fun x c=>by have:=g.brng p a b x c;omega);have:=g.n1;omega
open Classical in
theorem zrN {D D':Int->Prop} {p:Int} (h:∀ q∈ix N p,D q↔D' q):cnt N W D p=cnt N W D' p:=by
 unfold cnt;congr 2;refine List.filter_congr fun q a => ?_
 exact decide_eq_decide.2 (and_congr Iff.rfl (not_congr (h q a)))
theorem zr1 {α:Type} [DecidableEq α] {P P':α->Bool} {x:α} (g:P x=true):∀ {l:List α},l.Nodup->x∈l->(∀ y∈l,P' y=true↔P y=true/\y≠x)->(l.filter P').length+1=(l.filter P).length
 | [],_,h,_=>by cases h
 | y::l,hn,h,he=>by
  obtain ⟨m,f⟩:=List.nodup_cons.1 hn;by_cases e:y=x
  ·subst e;have i:P' y=false:=by
    have:=(he y (List.mem_cons_self ..)).1;cases c:P' y with
    | false=>rfl
    | true=>exact absurd rfl (this c).2
   rw [List.filter_cons_of_neg (by simp [i]),List.filter_cons_of_pos g];have:l.filter P'=l.filter P:=by
    refine List.filter_congr fun z b => ?_
    have d:z≠y:=fun e=>m (e ▸ b)
    rw [Bool.eq_iff_iff,he z (List.mem_cons_of_mem _ b)];exact ⟨fun h=>h.1,fun h=>⟨h,d⟩⟩
   rw [this];rfl
  ·have j:x∈l:=(List.mem_cons.1 h).resolve_left (fun h=>e h.symm);have k:=zr1 g f j (fun z b=>he z (List.mem_cons_of_mem _ b));have a:P' y=P y:=by
    rw [Bool.eq_iff_iff,he y (List.mem_cons_self ..)];exact ⟨fun h=>h.1,fun h=>⟨h,e⟩⟩
   by_cases c:P y=true
   ·rw [List.filter_cons_of_pos (by rw [a];exact c),List.filter_cons_of_pos c];simp only [List.length_cons];omega
   ·rw [List.filter_cons_of_neg (by rw [a];exact c),List.filter_cons_of_neg c];exact k
open Classical in
theorem zA7 (g:GG n O M N B) {D D':Int->Prop} {p x:Int} (c:0<=p) (d:p < n) (e:x∈ix N p) (f:ix W x=true) (i : ¬ D x) (h:∀ q,D' q↔D q\/q=x):cnt N W D' p=cnt N W D p - 1:=by
 unfold cnt;have:=zr1 (P:=fun q=>decide (ix W q=true /\ ¬ D q)) (P':=fun q=>decide (ix W q=true /\ ¬ D' q)) (x:=x) (by simp [f,i]) (g.nd p c d) e (fun y j=>by
  simp only [decide_eq_true_eq];rw [h y];constructor
  ·rintro ⟨b,a⟩;exact ⟨⟨b,fun h=>a (.inl h)⟩,fun h=>a (.inr h)⟩
  ·rintro ⟨⟨b,a⟩,h3⟩;exact ⟨b,fun h=>h.elim a h3⟩)
 omega
open Classical in
theorem zzm {D:Int->Prop} {p:Int}:0 < cnt N W D p↔∃ q∈ix N p,ix W q=true /\ ¬ D q:=by
 unfold cnt;constructor
 ·intro h;have b:0 < ((ix N p).filter (fun q=>decide (ix W q=true /\ ¬ D q))).length:=by omega
  obtain ⟨q,a⟩:=List.exists_mem_of_length_pos b;rw [List.mem_filter] at a;exact ⟨q,a.1,by simpa using a.2⟩
 ·rintro ⟨q,a,h⟩;have:q∈(ix N p).filter (fun q=>decide (ix W q=true /\ ¬ D q)):=List.mem_filter.2 ⟨a,by simpa using h⟩;have:=List.length_pos_of_mem this;omega
open Classical in
theorem zEb (g:GG n O M N B) {D:Int->Prop} {p:Int} (a:0<=p) (b:p < n):0<=cnt N W D p/\cnt N W D p<=n:=by
 have h:=g.nlen a b;have c:((ix N p).filter (fun q=>decide (ix W q=true /\ ¬ D q))).length<=(ix N p).length:=List.length_filter_le _ _;unfold cnt;omega
structure AInv (n:Int) (O:List Int) (N:List (List Int)) (W:List Bool) (player:Int) (to mv0:List Int) (D:Int->Int->Prop) (L:List Int) (rk:Int->Int) (inn:List Bool) (left mv:List Int):Prop where
 li:(inn.length:Int)=n
 ll:(left.length:Int)=n
 lv:(mv.length:Int)=n
 i:∀ p:Int,0<=p->p < n->(ix inn p=true↔p∈L)
 nd:L.Nodup
 sub:∀ p∈L,In n W p
 rk':∀ p∈L,rk p < L.length
 st:∀ p∈L,p∉to->(ix O p=player->ix mv p∈ix N p/\ix mv p∈L/\rk (ix mv p) < rk p)/\(¬ ix O p=player->∀ q∈ix N p,ix W q=true->q∈L/\rk q < rk p)
 mv':∀ p:Int,0<=p->p < n->(p∉L\/p∈to)->ix mv p=ix mv0 p
 lf:∀ p:Int,In n W p->p∉L->ix left p=cnt N W (D p) p/\(ix O p=player->∀ q∈ix N p,¬ D p q)/\(¬ ix O p=player->∃ q∈ix N p,ix W q=true /\ ¬ D p q)
 tos:∀ p∈to,p∈L
theorem AInv.congr {D D':Int->Int->Prop} {L:List Int} {rk:Int->Int} {a:List Bool} {left mv:List Int} (h:AInv n O N W player to mv0 D L rk a left mv) (e:∀ p,In n W p->p∉L->∀ q∈ix N p,D p q↔D' p q):AInv n O N W player to mv0 D' L rk a left mv:=by
 refine { h with lf:=fun p c hl => ?_ };obtain ⟨i,j,k⟩:=h.lf p c hl;refine ⟨i.trans (zrN (e p c hl)),fun d q b f=>j d q b ((e p c hl q b).2 f),fun d => ?_⟩;obtain ⟨q,b,l,f⟩:=k d;exact ⟨q,b,l,fun g=>f ((e p c hl q b).2 g)⟩
theorem AInv.add {D D':Int->Int->Prop} {L:List Int} {rk:Int->Int} {s:List Bool} {left mv:List Int} (h:AInv n O N W player to mv0 D L rk s left mv) {p x v:Int} (m:In n W p) (hl:p∉L) (A:x∈L) (B:x∈ix N p)
  (e:∀ w,w≠p->∀ q∈ix N w,D w q↔D' w q) (U : ¬ ix O p=player->∀ q∈ix N p,ix W q=true->q∈L):
  AInv n O N W player to mv0 D' (L++[p]) (fun q=>if q=p then L.length else rk q) (s.set p.toNat true) (left.set p.toNat v) (if ix O p=player then mv.set p.toNat x else mv):=by
 have I:=h.li;have J:=h.ll;have M:=h.lv;have Y:=m.2.1;have P:p∉to:=fun g=>hl (h.tos p g)
 have f:∀ q∈L,q≠p:=fun q d e=>hl (e ▸ d)
 have j:∀ q:Int,0<=q->q≠p->ix (if ix O p=player then mv.set p.toNat x else mv) q=ix mv q:=by
  intro q k d;split
  ·exact zam m.1 k (fun e=>d e.symm)
  ·rfl
 refine ⟨by simpa using I,by simpa using J,by split<;>simpa using M,fun q k C => ?_,?_,fun q d => ?_,fun q d => ?_,fun q d E => ?_,fun q k C d => ?_,fun q d t => ?_,fun q d=>List.mem_append.2 (.inl (h.tos q d))⟩
 ·by_cases c:p=q
  ·subst c;rw [zak m.1 (by omega)];simp
  ·rw [zam m.1 k c,h.i q k C,List.mem_append,List.mem_singleton];exact ⟨.inl,fun h=>h.elim id (fun h=>absurd h.symm c)⟩
 ·rw [List.nodup_append];exact ⟨h.nd,by simp,fun a V b T=>by rw [List.mem_singleton] at T;subst T;exact f a V⟩
 ·rcases List.mem_append.1 d with d | d
  ·exact h.sub q d
  ·rw [List.mem_singleton.1 d];exact m
 ·simp only [List.length_append,List.length_singleton];rcases List.mem_append.1 d with d | d
  ·rw [if_neg (f q d)];have:=h.rk' q d;omega
  ·rw [if_pos (List.mem_singleton.1 d)];omega
 ·rcases List.mem_append.1 d with d | d
  ·obtain ⟨R,S⟩:=h.st q d E;have k:=(h.sub q d).1;rw [if_neg (f q d),j q k (f q d)];refine ⟨fun c => ?_,fun c r l u => ?_⟩
   ·obtain ⟨y,z,Z⟩:=R c;rw [if_neg (f _ z)];exact ⟨y,List.mem_append.2 (.inl z),Z⟩
   ·obtain ⟨y,z⟩:=S c r l u;rw [if_neg (f _ y)];exact ⟨List.mem_append.2 (.inl y),z⟩
  ·have i:q=p:=List.mem_singleton.1 d;subst i;rw [if_pos rfl];refine ⟨fun c => ?_,fun c r l u => ?_⟩
   ·rw [if_pos c,zak m.1 (by omega),if_neg (f x A)];exact ⟨B,List.mem_append.2 (.inl A),h.rk' x A⟩
   ·have o:=U c r l u;rw [if_neg (f r o)];exact ⟨List.mem_append.2 (.inl o),h.rk' r o⟩
 ·have i:q≠p:=by
   rintro rfl;rcases d with d | d
   ·exact d (List.mem_append.2 (.inr (List.mem_singleton.2 rfl)))
   ·exact P d
  rw [j q k i];exact h.mv' q k C (d.imp (fun h X=>h (List.mem_append.2 (.inl X))) id)
 ·have Q:q∉L:=fun h=>t (List.mem_append.2 (.inl h))
  have i:q≠p:=fun e=>t (List.mem_append.2 (.inr (List.mem_singleton.2 e)))
  obtain ⟨R,S,h3⟩:=h.lf q d Q;refine ⟨?_,fun c r l F=>S c r l ((e q i r l).2 F),fun c => ?_⟩
  ·rw [zam m.1 d.1 (fun e=>i e.symm),R];exact zrN (e q i)
  ·obtain ⟨r,l,u,F⟩:=h3 c;exact ⟨r,l,u,fun H=>F ((e q i r l).2 H)⟩
theorem AInv.dec {D D':Int->Int->Prop} {L:List Int} {rk:Int->Int} {b:List Bool} {left mv:List Int} (h:AInv n O N W player to mv0 D L rk b left mv) {p v:Int} (i:In n W p) (hl:p∉L)
  (e:∀ g,g≠p->∀ q∈ix N g,D g q↔D' g q) (t : ¬ ix O p=player) (o:v=cnt N W (D' p) p) (d:0 < v):
  AInv n O N W player to mv0 D' L rk b (left.set p.toNat v) mv:=by
 have m:=h.ll;have u:=i.2.1;refine { h with ll:=by simpa using m,lf:=fun q s j => ?_ };by_cases c:p=q
 ·subst c;rw [zak i.1 (by omega)];exact ⟨o,fun c=>absurd c t,fun _=>zzm.1 (o ▸ d)⟩
 ·obtain ⟨w,x,y⟩:=h.lf q s j;have a:q≠p:=fun e=>c e.symm
  rw [zam i.1 s.1 c];refine ⟨w.trans (zrN (e q a)),fun c r f k=>x c r f ((e q a r f).2 k),fun c => ?_⟩;obtain ⟨r,f,z,k⟩:=y c;exact ⟨r,f,z,fun l=>k ((e q a r f).2 l)⟩
abbrev R19:=List Int->List Int->List (List Int)->List (List Int)->List Bool->List Int->List Int->List Int->List Int->Option (List Bool×List Int×List Int×List (List Int)×List (List Int)×List Int×List Int×List Int×List Bool)
def Dk (B:List (List Int)) (a:List Int) (x:Int) (k:Int) (p q:Int):Prop:=q∈a\/(q=x/\p∈(ix B x).take k.toNat)
theorem zhk {l:List Int} {k p:Int} (k0:0<=k) (a:k < l.length):p∈l.take (k+1).toNat↔p∈l.take k.toNat\/p=ix l k:=by
 have b:k.toNat < l.length:=by omega
 rw [show (k+1).toNat=k.toNat+1 by omega,List.take_succ_eq_append_getElem b,List.mem_append,List.mem_singleton,zhF k0 a]
theorem zqL {l:List Int} (a:l.Nodup) {k:Int} (k0:0<=k) (b:k < l.length):ix l k∉l.take k.toNat:=by
 have c:k.toNat < l.length:=by omega
 intro h;have e:l=l.take k.toNat++ix l k::l.drop (k.toNat+1):=by
  rw [zhF k0 b,<- List.drop_eq_getElem_cons c,List.take_append_drop]
 rw [e] at a;exact (List.nodup_append.1 a).2.2 _ h _ (List.mem_cons_self ..) rfl
theorem zAW (g:GG n O M N B) (hW:(W.length:Int)=n) {r row0:List Int} {x:Int} (A:In n W x) (L:ix row0 0=x) {win:List Int} (hwl:(win.length:Int)=n) {r19:R19}:∀ (m:Nat) (k:Int) (j:List Bool) (left u mv:List Int) (rk:Int->Int),0<=k->k+m=(ix B x).length->AInv n O N W player to mv0 (Dk B r x k) (r++x::u) rk j left mv->
  ∃ f d l o s,zaq player W B row0 r19 k O M N B j left (x::u) win mv=r19 O M N B f d l win o/\AInv n O N W player to mv0 (fun _ q=>q∈r++[x]) ((r++[x])++l) s f d o:=by
 have hn1:=g.n1;have hlb:=g.lb;have hlo:=g.lo;have hbl:=g.blen A.1 A.2.1;intro m;induction m with
 | zero=>
  intro k j left u mv rk k0 hk h;refine ⟨j,left,u,mv,rk,?_,?_⟩
  ·rw [zdU];unfold zag;rw [L,if_neg (by simp only [decide_eq_true_eq];omega),zab (by simp;omega)];rfl
  ·have C:AInv n O N W player to mv0 (fun _ q=>q∈r++[x]) (r++x::u) rk j left mv:=h.congr fun p P hl q Q=>by
    unfold Dk;rw [List.take_of_length_le (by omega),List.mem_append,List.mem_singleton];refine or_congr Iff.rfl ⟨fun h=>h.1,fun e=>⟨e,?_⟩⟩;subst e;exact (g.back p q P.1 P.2.1 A.1 A.2.1).2 Q
   rw [List.append_assoc];exact C
 | succ m ih=>
  intro k j left u mv rk k0 hk h;have I:k < (ix B x).length:=by omega
  have i:=g.brng x A.1 A.2.1 _ (zbc k0 I);obtain ⟨p,F⟩:∃ p,ix (ix B x) k=p:=⟨_,rfl⟩;rw [F] at i;have R:x∈ix N p:=(g.back p x i.1 i.2 A.1 A.2.1).1 (F ▸ zbc k0 I);have hnt:p∉(ix B x).take k.toNat:=F ▸ zqL (g.bnd x A.1 A.2.1) k0 I;have hD:∀ z q,Dk B r x (k+1) z q↔Dk B r x k z q\/(q=x/\z=p):=by
   intro z q;unfold Dk;rw [zhk k0 I,F];constructor
   ·rintro (h | ⟨h1,h2 | h2⟩)
    ·exact .inl (.inl h)
    ·exact .inl (.inr ⟨h1,h2⟩)
    ·exact .inr ⟨h1,h2⟩
   ·rintro ((h | ⟨h1,h2⟩) | ⟨h1,h2⟩)
    ·exact .inl h
    ·exact .inr ⟨h1,.inl h2⟩
    ·exact .inr ⟨h1,.inr h2⟩
  have w:∀ z,z≠p->∀ q∈ix N z,Dk B r x k z q↔Dk B r x (k+1) z q:=fun z H q _=>by
   rw [hD];exact ⟨.inl,fun h=>h.elim id (fun h=>absurd h.2 H)⟩
  have hli:=h.li;have hll:=h.ll;have hlv:=h.lv;have J:fits (k+1):=by unfold fits;omega
  have e0:∀ X,zag player W B row0 r19 (zaq player W B row0 r19) k O M N B j left (x::u) win mv=X->zaq player W B row0 r19 k O M N B j left (x::u) win mv=X:=fun X h=>by rw [zdU];exact h
  by_cases T:ix W p=true
  case neg=>
   obtain ⟨f,d,l,o,s,e,C⟩:=ih (k+1) j left u mv rk (by omega) (by omega) (h.congr fun z H _ q Q=>w z (fun e=>T (e ▸ H.2.2)) q Q);refine ⟨f,d,l,o,s,e0 _ ?_,C⟩;unfold zag;rw [L,if_pos (decide_eq_true I),zab (by omega),F,zab (by omega),zab (by omega),if_pos (by simpa using T),zab J];exact e
  by_cases U:p∈r++x::u
  ·have E:=(h.i p i.1 i.2).2 U;obtain ⟨f,d,l,o,s,e,C⟩:=ih (k+1) j left u mv rk (by omega) (by omega) (h.congr fun z H hl' q Q=>w z (fun e=>hl' (e ▸ U)) q Q);refine ⟨f,d,l,o,s,e0 _ ?_,C⟩;unfold zag;rw [L,if_pos (decide_eq_true I),zab (by omega),F,zab (by omega),zab (by omega),if_neg (by simp [T]),zab (by omega),zab (by omega),if_pos E,zab J];exact e
  have E : ¬ ix j p=true:=fun g=>U ((h.i p i.1 i.2).1 g)
  have P:In n W p:=⟨i.1,i.2,T⟩;obtain ⟨l1,l2,l3⟩:=h.lf p P U;have Y:x∉r:=fun g=>(List.nodup_append.1 h.nd).2.2 x g x (List.mem_cons_self ..) rfl
  have S:x∈r++x::u:=List.mem_append.2 (.inr (List.mem_cons_self ..));have hDx : ¬ Dk B r x k p x:=fun g=>g.elim Y (fun g=>hnt g.2)
  have hcnt:cnt N W (Dk B r x (k+1) p) p=cnt N W (Dk B r x k p) p - 1:=zA7 g i.1 i.2 R A.2.2 hDx (fun q=>by rw [hD];simp);have hcb:=zEb (W:=W) (D:=Dk B r x k p) g i.1 i.2;have hcl:r.length+(u.length+1)<=n.toNat:=by
   have:=zcW (n:=n.toNat) h.nd (fun y hy=>by have:=h.sub y hy;unfold In at this;omega);simpa using this
  have hJ:∀ (a:List Int) (b:List Int),zaK B row0 k j left (x::u) (zaq player W B row0 r19) O M N B a b=zaq player W B row0 r19 (k+1) O M N B (j.set p.toNat true) (left.set p.toNat (ix left p - 1)) (x::(u++[p])) a b:=by
   intro a b;unfold zaK;rw [L,F,zab (by omega),zab (by omega),zab (by unfold room;simp;omega),zab J];rfl
  by_cases V:ix O p=player
  ·have t:=h.add (v:=ix left p - 1) (D':=Dk B r x (k+1)) P U S R w (fun c=>absurd V c);rw [if_pos V] at t;rw [List.append_assoc] at t;obtain ⟨f,d,l,o,s,e,C⟩:=ih (k+1) _ _ (u++[p]) _ _ (by omega) (by omega) t;refine ⟨f,d,l,o,s,e0 _ ?_,C⟩;unfold zag;rw [L,if_pos (decide_eq_true I),zab (by omega),F,zab (by omega),zab (by omega),if_neg (by simp [T]),zab (by omega),zab (by omega),if_neg E,zab (by omega),zab (by omega),zab (by unfold fits;omega),zab (by omega),zab (by omega),zab (by omega),if_pos (decide_eq_true V),zab (by simp),zab (by simp),zab (by omega),zab (by omega),hJ];exact e
  ·have Z:ix (left.set p.toNat (ix left p - 1)) p=ix left p - 1:=zak i.1 (by omega);by_cases c4:0 < ix left p - 1
   ·have a0:=h.dec (v:=ix left p - 1) (D':=Dk B r x (k+1)) P U w V (by omega) c4;obtain ⟨f,d,l,o,s,e,C⟩:=ih (k+1) _ _ u _ _ (by omega) (by omega) a0;refine ⟨f,d,l,o,s,e0 _ ?_,C⟩;unfold zag;rw [L,if_pos (decide_eq_true I),zab (by omega),F,zab (by omega),zab (by omega),if_neg (by simp [T]),zab (by omega),zab (by omega),if_neg E,zab (by omega),zab (by omega),zab (by unfold fits;omega),zab (by omega),zab (by omega),zab (by omega),if_neg (by simpa using V),List.length_set,zab (by omega),zab (by omega),Z,if_pos (decide_eq_true c4),zab J];exact e
   ·have a1:∀ q∈ix N p,ix W q=true->q∈r++x::u:=by
     intro q Q hWq;refine Classical.byContradiction fun hn => ?_
     have:0 < cnt N W (Dk B r x (k+1) p) p:=zzm.2 ⟨q,Q,hWq,fun hd=>hn ?_⟩
     ·omega
     ·rcases hd with hd | ⟨rfl,_⟩
      ·exact List.mem_append.2 (.inl hd)
      ·exact S
    have t:=h.add (v:=ix left p - 1) (D':=Dk B r x (k+1)) P U S R w (fun _=>a1);rw [if_neg V] at t;rw [List.append_assoc] at t;obtain ⟨f,d,l,o,s,e,C⟩:=ih (k+1) _ _ (u++[p]) _ _ (by omega) (by omega) t;refine ⟨f,d,l,o,s,e0 _ ?_,C⟩;unfold zag;rw [L,if_pos (decide_eq_true I),zab (by omega),F,zab (by omega),zab (by omega),if_neg (by simp [T]),zab (by omega),zab (by omega),if_neg E,zab (by omega),zab (by omega),zab (by unfold fits;omega),zab (by omega),zab (by omega),zab (by omega),if_neg (by simpa using V),List.length_set,zab (by omega),zab (by omega),Z,if_neg (by simpa using c4),hJ];exact e
theorem zAV (g:GG n O M N B) (s:(W.length:Int)=n) {win:List Int} (l:(win.length:Int)=n):∀ (f:Nat) (d row:List Int) (a:List Bool) (left mv:List Int) (rk:Int->Int),n.toNat - d.length=f->AInv n O N W player to mv0 (fun _ q=>q∈d) (d++row) rk a left mv->
  ∃ c b i j L,za5 player to W O M N B a left row win mv=some (c,O,M,N,B,win,i,to,W)/\AInv n O N W player to mv0 (fun _ q=>q∈L) L j c b i:=by
 have v:=g.n1;have w:=g.lb;intro f;induction f with
 | zero=>
  intro d row a left mv rk u h;have hcl:=zcW (n:=n.toNat) h.nd (fun y t=>by have:=h.sub y t;unfold In at this;omega);rw [List.length_append] at hcl;have:row=[]:=List.length_eq_zero_iff.1 (by omega);subst this;rw [List.append_nil] at h;refine ⟨a,left,mv,rk,d,?_,h⟩;rw [zcn];unfold zaw;rw [if_neg (by simp)]
 | succ f I=>
  intro d row a left mv rk u h;cases row with
  | nil=>
   rw [List.append_nil] at h;refine ⟨a,left,mv,rk,d,?_,h⟩;rw [zcn];unfold zaw;rw [if_neg (by simp)]
  | cons x k=>
   have r:=h.sub x (List.mem_append.2 (.inr (List.mem_cons_self ..)));have z:AInv n O N W player to mv0 (Dk B d x 0) (d++x::k) rk a left mv:=h.congr fun p _ _ q _=>by unfold Dk;simp
   obtain ⟨c,b,o,i,j,e,A⟩:=zAW g s (row0:=x::k) r rfl l (r19:=za5 player to W) (ix B x).length 0 a left k mv rk (by omega) (by omega) z;obtain ⟨C,l2,D,E,L,F,H⟩:=I (d++[x]) o c b i j (by simp;omega) A;refine ⟨C,l2,D,E,L,?_,H⟩;rw [zcn];unfold zaw;have m:ix (x::k) 0=x:=rfl;unfold In at r;rw [if_pos (by simp),zab (by simp),zab (by simp),m,zab (by omega),e];exact F
structure Attr (n:Int) (O:List Int) (N:List (List Int)) (W:List Bool) (player:Int) (to mv0:List Int) (inn:List Bool) (mv:List Int) (rk:Int->Int):Prop where
 li:(inn.length:Int)=n
 lv:(mv.length:Int)=n
 sub:∀ p,In n inn p->In n W p
 tos:∀ p∈to,In n inn p
 st:∀ p,In n inn p->p∉to->(ix O p=player->ix mv p∈ix N p/\In n inn (ix mv p)/\rk (ix mv p) < rk p)/\(¬ ix O p=player->∀ q∈ix N p,ix W q=true->In n inn q/\rk q < rk p)
 mv':∀ p:Int,0<=p->p < n->(¬ ix inn p=true\/p∈to)->ix mv p=ix mv0 p
 out:∀ p,In n W p -> ¬ ix inn p=true->(ix O p=player->∀ q∈ix N p,¬ ix inn q=true)/\(¬ ix O p=player->∃ q∈ix N p,ix W q=true /\ ¬ ix inn q=true)
theorem zCF (g:GG n O M N B) (C:(W.length:Int)=n) {t:Int} (t0:0<=t) (r:t < n) {r4:Int->List Int->Option (List Bool×List Int×List Int×List (List Int)×List (List Int)×List Int×List Int×List Int×List Bool)}:∀ (m:Nat) (k:Nat) (left:List Int),k+m=(ix N t).length->(left.length:Int)=n->ix left t=(((ix N t).take k).filter (fun q=>ix W q)).length->
  ∃ a,zaP N W t r4 k left=r4 (t+1) a/\(a.length:Int)=n/\ix a t=((ix N t).filter (fun q=>ix W q)).length/\∀ p:Int,0<=p->p≠t->ix a p=ix left p:=by
 have x:=g.n1;have y:=g.nlen t0 r;intro m;induction m with
 | zero=>
  intro k left w hl h;refine ⟨left,?_,hl,?_,fun _ _ _=>rfl⟩
  ·rw [zcI];unfold zaC;rw [if_neg (by simp only [decide_eq_true_eq];omega),zab (by unfold fits;omega)]
  ·rw [h,List.take_of_length_le (by omega)]
 | succ m v=>
  intro k left w hl h;have D:=g.rng t t0 r _ (zbc (l:=ix N t) (by omega:(0:Int)<=(k:Int)) (by omega));have d:k < (ix N t).length:=by omega
  have z:(ix N t)[k]=ix (ix N t) (k:Int):=(zhF (l:=ix N t) (i:=(k:Int)) (by omega) (by omega)).symm;have b:(((ix N t).take (k+1)).filter (fun q=>ix W q)).length=(((ix N t).take k).filter (fun q=>ix W q)).length+(if ix W (ix (ix N t) (k:Int))=true then 1 else 0):=by
   rw [List.take_succ_eq_append_getElem d,List.filter_append,List.length_append,z];by_cases c:ix W (ix (ix N t) (k:Int))=true
   ·rw [if_pos c,List.filter_cons_of_pos c];rfl
   ·rw [if_neg c,List.filter_cons_of_neg c];rfl
  have A:(((ix N t).take k).filter (fun q=>ix W q)).length<=k:=Nat.le_trans (List.length_filter_le _ _) (by rw [List.length_take];omega);by_cases c:ix W (ix (ix N t) (k:Int))=true
  ·rw [if_pos c] at b;obtain ⟨a,e,f,j,o⟩:=v (k+1) (left.set t.toNat (ix left t+1)) (by omega) (by simpa using hl) (by rw [zak t0 (by omega)];omega);refine ⟨a,?_,f,j,fun p s u=>by rw [o p s u,zam t0 s (fun e=>u e.symm)]⟩;rw [<- e]
   conv=>lhs;rw [zcI];unfold zaC
   rw [if_pos (decide_eq_true (by omega)),zab (by omega),zab (by omega),zab (by omega),if_pos c,zab (by omega),zab (by omega),zab (by unfold fits;omega),zab (by omega),zab (by omega),zab (by unfold fits;omega)];rfl
  ·rw [if_neg c] at b;obtain ⟨a,e,f,j,o⟩:=v (k+1) left (by omega) hl (by omega);refine ⟨a,?_,f,j,o⟩;rw [<- e]
   conv=>lhs;rw [zcI];unfold zaC
   rw [if_pos (decide_eq_true (by omega)),zab (by omega),zab (by omega),zab (by omega),if_neg c,zab (by unfold fits;omega)];rfl
theorem zm2 (g:GG n O M N B) (z:(W.length:Int)=n) {win:List Int} (A:(win.length:Int)=n) (C:(mv0.length:Int)=n) (r:∀ p∈to,In n W p) (hnd:to.Nodup) (hcl:∀ p,In n W p->∃ q∈ix N p,ix W q=true):
  ∃ a mv rk,zb0 player O M N B to W win mv0=some (a,O,M,N,B,win,mv,to,W)/\Attr n O N W player to mv0 a mv rk:=by
 have hn1:=g.n1;have hln:=g.ln;have hlo:=g.lo;have htl:=zcW (n:=n.toNat) hnd (fun y hy=>by have:=r y hy;unfold In at this;omega);have k4:∀ (m:Nat) (t:Int) (left:List Int),0<=t->t+m=n->(left.length:Int)=n->(∀ p:Int,0<=p->p < t->ix left p=((ix N p).filter (fun q=>ix W q)).length)->(∀ p:Int,t<=p->p < n->ix left p=0)->
   ∃ b,zbs player O M N B to W win mv0 t left=zbn player O M N B to W win mv0 b 0 (List.replicate (O.length:Int).toNat false)/\(b.length:Int)=n/\∀ p:Int,0<=p->p < n->ix b p=((ix N p).filter (fun q=>ix W q)).length:=by
  intro m;induction m with
  | zero=>
   intro t left t0 I hl J P;refine ⟨left,?_,hl,fun p j k=>J p j (by omega)⟩;rw [zd1];unfold zaI;rw [if_neg (by simp only [decide_eq_true_eq];omega)]
  | succ m ih=>
   intro t left t0 I hl J P;obtain ⟨l7,e,q1,q2,q3⟩:=zCF g z t0 (by omega) (r4:=zbs player O M N B to W win mv0) (ix N t).length 0 left (by omega) hl (by rw [P t (Int.le_refl t) (by omega)];rfl);obtain ⟨b,S,v⟩:=ih (t+1) l7 (by omega) (by omega) q1 (fun p j k=>by
    by_cases c:p=t
    ·rw [c];exact q2
    ·rw [q3 p j c];exact J p j (by omega)) (fun p j k=>by rw [q3 p (by omega) (by omega)];exact P p (by omega) k)
   refine ⟨b,?_,v⟩;rw [<- S]
   conv=>lhs;rw [zd1];unfold zaI
   rw [if_pos (decide_eq_true (by omega)),zab (by omega)];exact e
 have Q:∀ (left:List Int) (m:Nat) (t:Int) (a:List Bool),0<=t->t+m=to.length->(a.length:Int)=n->(∀ p:Int,0<=p->p < n->(ix a p=true↔p∈to.take t.toNat))->
   ∃ d,zbn player O M N B to W win mv0 left t a=za5 player to W O M N B d left to win mv0/\(d.length:Int)=n/\∀ p:Int,0<=p->p < n->(ix d p=true↔p∈to):=by
  intro left m;induction m with
  | zero=>
   intro t a t0 I hl h;refine ⟨a,?_,hl,fun p j k=>by rw [h p j k,List.take_of_length_le (by omega)]⟩;rw [zdT];unfold zaE;rw [if_neg (by simp only [decide_eq_true_eq];omega)];exact zaj (zj6 (by omega)) rfl
  | succ m ih=>
   intro t a t0 I hl h;have f:=r _ (zbc t0 (by omega:t < to.length));unfold In at f;obtain ⟨d,e,v⟩:=ih (t+1) (a.set (ix to t).toNat true) (by omega) (by omega) (by simpa using hl) (fun p j k=>by
    rw [zhk t0 (by omega)];by_cases c:ix to t=p
    ·rw [c,zak j (by omega)];simp
    ·rw [zam (by omega) j c,h p j k];exact ⟨.inl,fun h=>h.elim id (fun h=>absurd h.symm c)⟩)
   refine ⟨d,?_,v⟩;rw [<- e]
   conv=>lhs;rw [zdT];unfold zaE
   rw [if_pos (decide_eq_true (by omega)),zab (by omega),zab (by omega),zab (by omega),zab (by omega),zab (by unfold fits;omega)]
 have w:∀ p:Int,ix (List.replicate (O.length:Int).toNat (0:Int)) p=0:=fun p=>by
  simp only [ix,List.getD_eq_getElem?_getD,List.getElem?_replicate];split<;>rfl
 have s:∀ p:Int,ix (List.replicate (O.length:Int).toNat false) p=false:=fun p=>by
  simp only [ix,List.getD_eq_getElem?_getD,List.getElem?_replicate];split<;>rfl
 obtain ⟨left,e1,T,U⟩:=k4 n.toNat 0 (List.replicate (O.length:Int).toNat 0) (by omega) (by omega) (by simp;omega) (fun p j k=>by omega) (fun p _ _=>w p);obtain ⟨a,S,V,X⟩:=Q left to.length 0 (List.replicate (O.length:Int).toNat false) (by omega) (by omega) (by simp;omega) (fun p _ _=>by rw [s];simp);have hc:∀ p,cnt N W (fun q=>q∈([]:List Int)) p=((ix N p).filter (fun q=>ix W q)).length:=fun p=>by
  unfold cnt;congr 2;refine List.filter_congr fun q _ => ?_
  simp
 have h0:AInv n O N W player to mv0 (fun _ q=>q∈([]:List Int)) ([]++to) (fun _ => -1) a left mv0:=by
  refine ⟨V,T,C,X,hnd,r,fun p _=>by omega,fun p f D=>absurd f D,fun _ _ _ _=>rfl,fun p f _=>⟨?_,fun _ q _ h=>(by cases h),fun _ => ?_⟩,fun p f=>f⟩
  ·rw [U p f.1 f.2.1,hc]
  ·obtain ⟨q,o,u⟩:=hcl p f;exact ⟨q,o,u,fun h=>(by cases h)⟩
 obtain ⟨d,b,Y,Z,L,e3,l⟩:=zAV g z A _ [] to a left mv0 _ rfl h0;have i:∀ p,In n d p↔p∈L:=fun p=>⟨fun h=>(l.i p h.1 h.2.1).1 h.2.2,fun h=>by have hs:=l.sub p h;exact ⟨hs.1,hs.2.1,(l.i p hs.1 hs.2.1).2 h⟩⟩
 refine ⟨d,Y,Z,?_,l.li,l.lv,fun p f=>l.sub p ((i p).1 f),fun p f=>(i p).2 (l.tos p f),fun p f E => ?_,fun p j k h => ?_,fun p f F => ?_⟩
 ·unfold zb0;rw [zab (by unfold mkOK;omega),zab (by unfold mkOK;omega),e1,S];exact e3
 ·obtain ⟨s1,s2⟩:=l.st p ((i p).1 f) E;refine ⟨fun c => ?_,fun c q o z => ?_⟩
  ·obtain ⟨g1,g2,g3⟩:=s1 c;exact ⟨g1,(i _).2 g2,g3⟩
  ·obtain ⟨g1,g2⟩:=s2 c q o z;exact ⟨(i _).2 g1,g2⟩
 ·exact l.mv' p j k (h.imp (fun h v=>h ((i p).2 v).2.2) id)
 ·have R:p∉L:=fun h=>F ((i p).2 h).2.2
  obtain ⟨_,l2,l3⟩:=l.lf p f R;refine ⟨fun c q o H => ?_,fun c => ?_⟩
  ·have x:=g.rng p f.1 f.2.1 q o;exact l2 c q o ((i q).1 ⟨x.1,x.2,H⟩)
  ·obtain ⟨q,o,u,D⟩:=l3 c;have x:=g.rng p f.1 f.2.1 q o;exact ⟨q,o,u,fun H=>D ((i q).1 ⟨x.1,x.2,H⟩)⟩
end
inductive Rch (E:Int->Int->Prop) (ok:Int->Prop) (p:Int):Int->Prop
 | one {q:Int} (h:E p q):Rch E ok p q
 | more {q r:Int} (h:Rch E ok p q) (k:ok q) (e:E q r):Rch E ok p r
def Ed (N:List (List Int)) (O:List Int) (W:List Bool) (mv:List Int) (i p q:Int):Prop:=q∈ix N p/\ix W q=true/\(ix O p=i->q=ix mv p)
structure Post (n:Int) (O M:List Int) (N:List (List Int)) (W:List Bool) (win0 mv0 win mv:List Int):Prop where
 lw:(win.length:Int)=n
 lv:(mv.length:Int)=n
 out:∀ p:Int,0<=p->p < n -> ¬ ix W p=true->ix win p=ix win0 p/\ix mv p=ix mv0 p
 two:∀ p,In n W p->ix win p=0\/ix win p=1
 own:∀ p,In n W p->ix O p=ix win p->ix mv p∈ix N p/\In n W (ix mv p)/\ix win (ix mv p)=ix win p
 oth:∀ p,In n W p -> ¬ ix O p=ix win p->∀ q∈ix N p,ix W q=true->ix win q=ix win p
 cyc:∀ p,In n W p -> ¬ Int.tmod (ix M p) 2=ix win p -> ¬ Rch (Ed N O W mv (ix win p)) (fun q=>ix M p<=ix M q) p p
def zu0 (n:Int) (N:List (List Int)) (W:List Bool):Prop:=∀ p,In n W p->∃ q∈ix N p,ix W q=true
section
variable {n:Int} {O M:List Int} {N B:List (List Int)} {W R near gone:List Bool} {player:Int} {win0 mv0 mv1 win2 mv2 best:List Int} {rk:Int->Int}
theorem zrJ (g:GG n O M N B) (j:zu0 n N W) {to:List Int} (k:Attr n O N W player to mv0 near mv1 rk) (e:∀ p:Int,0<=p->p < n->(ix R p=true↔ix W p=true /\ ¬ ix near p=true)):zu0 n N R:=by
 intro p a;have h:=(e p a.1 a.2.1).1 a.2.2;have i:In n W p:=⟨a.1,a.2.1,h.1⟩;obtain ⟨l,m⟩:=k.out p i h.2;by_cases c:ix O p=player
 ·obtain ⟨q,b,f⟩:=j p i;have d:=g.rng p a.1 a.2.1 q b;exact ⟨q,b,(e q d.1 d.2).2 ⟨f,l c q b⟩⟩
 ·obtain ⟨q,b,o,r⟩:=m c;have d:=g.rng p a.1 a.2.1 q b;exact ⟨q,b,(e q d.1 d.2).2 ⟨o,r⟩⟩
theorem zCI (g:GG n O M N B) (x:player=0\/player=1) {least:Int} (T:Int.tmod least 2=player) (U:∀ p,In n W p->least<=ix M p) (m:∀ p,p∈best↔In n W p/\ix M p=least) (C:Attr n O N W player best mv0 near mv1 rk)
  (S:∀ p:Int,0<=p->p < n->(ix R p=true↔ix W p=true /\ ¬ ix near p=true)) (t:Post n O M N R win0 mv1 win2 mv2) (u:∀ p,In n R p->ix win2 p=player) {win3 mv3:List Int} (V:(win3.length:Int)=n) (X:(mv3.length:Int)=n)
  (F:∀ p:Int,0<=p->p < n->ix win3 p=if ix W p=true then player else ix win2 p) (o:∀ p:Int,0<=p->p < n->(p∈best/\ix O p=player->ix mv3 p∈ix N p/\ix W (ix mv3 p)=true)/\(¬ (p∈best/\ix O p=player)->ix mv3 p=ix mv2 p)):Post n O M N W win0 mv0 win3 mv3:=by
 have l:∀ p,In n W p->ix win3 p=player:=fun p t=>by rw [F p t.1 t.2.1,if_pos t.2.2]
 have z:∀ p,In n near p -> ¬ ix R p=true:=fun p v h=>((S p v.1 v.2.1).1 h).2 v.2.2
 have a0:∀ p,In n R p->In n W p:=fun p h=>⟨h.1,h.2.1,((S p h.1 h.2.1).1 h.2.2).1⟩
 have a:∀ p,In n W p->In n near p\/In n R p:=fun p h=>by
  by_cases c:ix near p=true
  ·exact .inl ⟨h.1,h.2.1,c⟩
  ·exact .inr ⟨h.1,h.2.1,(S p h.1 h.2.1).2 ⟨h.2.2,c⟩⟩
 have I:∀ p,In n R p->ix mv3 p=ix mv2 p:=fun p h=>(o p h.1 h.2.1).2 (fun d=>z p (C.tos p d.1) h.2.2)
 have J:∀ p,In n near p->p∉best->ix mv3 p=ix mv1 p:=fun p h d=>by
  rw [(o p h.1 h.2.1).2 (fun Y=>d Y.1)];exact (t.out p h.1 h.2.1 (z p h)).2
 have L:∀ p,In n W p->ix O p=player->ix mv3 p∈ix N p/\In n W (ix mv3 p):=by
  intro p h y;have key:ix mv3 p∈ix N p/\ix W (ix mv3 p)=true:=by
   by_cases d:p∈best
   ·exact (o p h.1 h.2.1).1 ⟨d,y⟩
   ·rcases a p h with v | i
    ·rw [J p v d];obtain ⟨g1,g2,_⟩:=(C.st p v d).1 y;exact ⟨g1,(C.sub _ g2).2.2⟩
    ·rw [I p i];obtain ⟨g1,g2,_⟩:=t.own p i (by rw [u p i];exact y);exact ⟨g1,(a0 _ g2).2.2⟩
  have i:=g.rng p h.1 h.2.1 _ key.1;exact ⟨key.1,i.1,i.2,key.2⟩
 refine ⟨V,X,fun p D E s => ?_,fun p h=>by rw [l p h];exact x,fun p h y => ?_,fun p h y q j Z => ?_,fun p h f => ?_⟩
 ·have A : ¬ ix R p=true:=fun h=>s ((S p D E).1 h).1
  have w : ¬ ix near p=true:=fun h=>s (C.sub p ⟨D,E,h⟩).2.2
  have d:p∉best:=fun h=>s ((m p).1 h).1.2.2
  obtain ⟨o1,o2⟩:=t.out p D E A;rw [F p D E,if_neg s,(o p D E).2 (fun h=>d h.1),o1,o2];exact ⟨rfl,C.mv' p D E (.inl w)⟩
 ·rw [l p h] at y ⊢;obtain ⟨A,w⟩:=L p h y;exact ⟨A,w,l _ w⟩
 ·have i:=g.rng p h.1 h.2.1 q j;rw [l p h,l q ⟨i.1,i.2,Z⟩]
 ·rw [l p h] at f ⊢;intro H;have hgt:least < ix M p:=by
   have:=U p h;rcases Int.lt_or_eq_of_le this with h | h
   ·exact h
   ·rw [<- h] at f;exact absurd T f
  have nb:∀ q,ix M p<=ix M q->q∉best:=fun q j d=>by have:=((m q).1 d).2;omega
  have b:∀ q r,In n near q->ix M p<=ix M q->Ed N O W mv3 player q r->In n near r/\rk r < rk q:=by
   rintro q r j hm ⟨e1,e2,e3⟩;have d:=nb q hm;obtain ⟨s1,s2⟩:=C.st q j d;by_cases c:ix O q=player
   ·rw [e3 c,J q j d];exact (s1 c).2
   ·exact s2 c r e1 e2
  rcases a p h with v | i
  ·have:∀ q,Rch (Ed N O W mv3 player) (fun q=>ix M p<=ix M q) p q->In n near q/\rk q < rk p:=by
    intro q j;induction j with
    | one e=>exact b p _ v (Int.le_refl _) e
    | more _ k e Q=>
     obtain ⟨i1,i2⟩:=Q;obtain ⟨j1,j2⟩:=b _ _ i1 k e;exact ⟨j1,by omega⟩
   have:=(this p H).2;omega
  ·have step:∀ q r,In n R q->Ed N O W mv3 player q r->In n near r\/(In n R r/\Ed N O R mv2 player q r):=by
    rintro q r j ⟨e1,e2,e3⟩;have P:=g.rng q j.1 j.2.1 r e1;rcases a r ⟨P.1,P.2,e2⟩ with h | h
    ·exact .inl h
    ·exact .inr ⟨h,e1,h.2.2,fun c=>by rw [e3 c,I q j]⟩
   have:∀ q,Rch (Ed N O W mv3 player) (fun q=>ix M p<=ix M q) p q->In n near q\/(In n R q/\Rch (Ed N O R mv2 player) (fun q=>ix M p<=ix M q) p q):=by
    intro q j;induction j with
    | one e=>
     rcases step p _ i e with h | ⟨A,w⟩
     ·exact .inl h
     ·exact .inr ⟨A,.one w⟩
    | more _ k e Q=>
     rcases Q with Q | ⟨i1,i2⟩
     ·exact .inl (b _ _ Q k e).1
     ·rcases step _ _ i1 e with h | ⟨A,w⟩
      ·exact .inl h
      ·exact .inr ⟨A,.more i2 k w⟩
   rcases this p H with h' | ⟨_,h'⟩
   ·exact z p h' i.2.2
   ·have hw:=u p i;exact t.cyc p i (by rw [hw];exact f) (by rw [hw];exact h')
theorem zAG (g:GG n O M N B) (hplay:player=0\/player=1) (ha:Attr n O N W player best mv0 near mv1 rk) (hR:∀ p:Int,0<=p->p < n->(ix R p=true↔ix W p=true /\ ¬ ix near p=true)) (hp:Post n O M N R win0 mv1 win2 mv2)
  {f:List Int} (s:∀ p,p∈f↔In n R p /\ ¬ ix win2 p=player) {mv3:List Int} {J:Int->Int} (U:Attr n O N W (1 - player) f mv2 gone mv3 J) {Y i j:List Int} {w:List Bool}
  (hw4:∀ p:Int,0<=p->p < n->ix Y p=if ix gone p=true then 1 - player else ix win2 p) (t:∀ p:Int,0<=p->p < n->(ix w p=true↔ix W p=true /\ ¬ ix gone p=true)) (D:Post n O M N w Y mv3 i j):Post n O M N W win0 mv0 i j:=by
 have hRW:∀ p,In n R p->In n W p:=fun p h=>⟨h.1,h.2.1,((hR p h.1 h.2.1).1 h.2.2).1⟩
 have a0:∀ p,In n w p->In n W p:=fun p h=>⟨h.1,h.2.1,((t p h.1 h.2.1).1 h.2.2).1⟩
 have Q:∀ p,In n gone p -> ¬ ix w p=true:=fun p hn h=>((t p hn.1 hn.2.1).1 h).2 hn.2.2
 have m:∀ p,In n W p->In n gone p\/In n w p:=fun p h=>by
  by_cases c:ix gone p=true
  ·exact .inl ⟨h.1,h.2.1,c⟩
  ·exact .inr ⟨h.1,h.2.1,(t p h.1 h.2.1).2 ⟨h.2.2,c⟩⟩
 have wG:∀ p,In n gone p->ix i p=1 - player:=fun p h=>by
  rw [(D.out p h.1 h.2.1 (Q p h)).1,hw4 p h.1 h.2.1,if_pos h.2.2]
 have mG:∀ p,In n gone p->ix j p=ix mv3 p:=fun p h=>(D.out p h.1 h.2.1 (Q p h)).2
 have z:∀ p,p∈f->In n R p:=fun p h=>((s p).1 h).1
 have A:∀ p,p∈f->In n gone p:=U.tos;have w2:∀ p,p∈f->ix win2 p=1 - player:=fun p h=>by
  have X:=(s p).1 h;have:=hp.two p X.1;have:=X.2;omega
 have ownv:∀ p:Int,0<=p->p < n->(¬ ix O p=player↔ix O p=1 - player):=fun p L P=>by
  have:=g.own p L P;omega
 have mL:∀ p,p∈f->ix j p=ix mv2 p:=fun p h=>by
  have y:=A p h;rw [mG p y];exact U.mv' p y.1 y.2.1 (.inr h)
 have F:∀ p r,p∈f->Ed N O W j (1 - player) p r->r∈f/\Ed N O R mv2 (1 - player) p r:=by
  rintro p r h ⟨e1,e2,e3⟩;have x:=z p h;have l:=g.rng p x.1 x.2.1 r e1;have hRp:=(hR p x.1 x.2.1).1 x.2.2;by_cases c:ix O p=player
  ·-- no way to what is near
   have hnear:=(ha.out p (hRW p x) hRp.2).1 c r e1;have hRr:In n R r:=⟨l.1,l.2,(hR r l.1 l.2).2 ⟨e2,hnear⟩⟩;have hw:=w2 p h;have hwr:=hp.oth p x (by omega) r e1 hRr.2.2;refine ⟨(s r).2 ⟨hRr,by omega⟩,e1,hRr.2.2,fun c' => ?_⟩;omega
  ·have c':=(ownv p x.1 x.2.1).1 c;have hw:=w2 p h;obtain ⟨T,C,s3⟩:=hp.own p x (by omega);have er:r=ix mv2 p:=by rw [e3 c',mL p h]
   rw [er];exact ⟨(s _).2 ⟨C,by omega⟩,T,C.2.2,fun _=>rfl⟩
 have u:∀ q r,In n gone q->q∉f->Ed N O W j (1 - player) q r->In n gone r/\J r < J q:=by
  rintro q r o hl ⟨e1,e2,e3⟩;obtain ⟨T,C⟩:=U.st q o hl;by_cases c:ix O q=1 - player
  ·rw [e3 c,mG q o];exact (T c).2
  ·exact C c r e1 e2
 have S:∀ q r,In n gone q->Ed N O W j (1 - player) q r->In n gone r:=fun q r o e=>by
  by_cases hl:q∈f
  ·exact A r (F q r hl e).1
  ·exact (u q r o hl e).1
 refine ⟨D.lw,D.lv,fun p L P V => ?_,fun p h => ?_,fun p h Z => ?_,fun p h Z r x hWr => ?_,fun p h E => ?_⟩
 ·have h1 : ¬ ix R p=true:=fun h=>V ((hR p L P).1 h).1
  have v : ¬ ix near p=true:=fun h=>V (ha.sub p ⟨L,P,h⟩).2.2
  have h3 : ¬ ix w p=true:=fun h=>V ((t p L P).1 h).1
  have h4 : ¬ ix gone p=true:=fun h=>V (U.sub p ⟨L,P,h⟩).2.2
  obtain ⟨o1,o2⟩:=D.out p L P h3;obtain ⟨o3,o4⟩:=hp.out p L P h1;rw [o1,o2,hw4 p L P,if_neg h4,o3,U.mv' p L P (.inl h4),o4,ha.mv' p L P (.inl v)];exact ⟨rfl,rfl⟩
 ·rcases m p h with h | h
  ·rw [wG p h];omega
  ·exact D.two p h
 ·rcases m p h with y | v
  ·rw [wG p y] at Z ⊢;rw [mG p y];by_cases hl:p∈f
   ·have x:=z p hl;have hw:=w2 p hl;obtain ⟨T,C,s3⟩:=hp.own p x (by omega);have em:ix mv3 p=ix mv2 p:=U.mv' p y.1 y.2.1 (.inr hl);rw [em];have hl2:ix mv2 p∈f:=(s _).2 ⟨C,by omega⟩;exact ⟨T,hRW _ C,wG _ (A _ hl2)⟩
   ·obtain ⟨T,C,_⟩:=(U.st p y hl).1 Z;exact ⟨T,U.sub _ C,wG _ C⟩
  ·obtain ⟨T,C,s3⟩:=D.own p v Z;exact ⟨T,a0 _ C,s3⟩
 ·have l:=g.rng p h.1 h.2.1 r x;rcases m p h with y | v
  ·rw [wG p y] at Z ⊢;exact wG r (S p r y ⟨x,hWr,fun c=>absurd c Z⟩)
  ·by_cases cg:ix gone r=true
   ·-- a way into what is gone
    have y:In n gone r:=⟨l.1,l.2,cg⟩;have hp2:=(t p v.1 v.2.1).1 v.2.2;have ho2 : ¬ ix O p=1 - player:=fun c=>(U.out p h hp2.2).1 c r x cg
    rw [wG r y];have:=D.two p v;have:=g.own p h.1 h.2.1;omega
   ·exact D.oth p v Z r x ((t r l.1 l.2).2 ⟨hWr,cg⟩)
 ·intro H;rcases m p h with y | v
  ·rw [wG p y] at E H;by_cases hl:p∈f
   ·have:∀ q,Rch (Ed N O W j (1 - player)) (fun q=>ix M p<=ix M q) p q->q∈f/\Rch (Ed N O R mv2 (1 - player)) (fun q=>ix M p<=ix M q) p q:=by
     intro q o;induction o with
     | one e=>
      obtain ⟨a,b⟩:=F p _ hl e;exact ⟨a,.one b⟩
     | more _ k e I=>
      obtain ⟨a,b⟩:=F _ _ I.1 e;exact ⟨a,.more I.2 k b⟩
    have hw:=w2 p hl;exact hp.cyc p (z p hl) (by rw [hw];exact E) (by rw [hw];exact (this p H).2)
   ·have:∀ q,Rch (Ed N O W j (1 - player)) (fun q=>ix M p<=ix M q) p q->q∈f\/(In n gone q/\J q < J p):=by
     intro q o;induction o with
     | one e=>exact .inr (u p _ y hl e)
     | @more q r _ k e I=>
      by_cases hl':q∈f
      ·exact .inl (F q r hl' e).1
      ·obtain ⟨i1,i2⟩:=I.resolve_left hl';obtain ⟨j1,j2⟩:=u q r i1 hl' e;exact .inr ⟨j1,by omega⟩
    rcases this p H with X | ⟨_,X⟩
    ·exact hl X
    ·omega
  ·have hp2:=(t p v.1 v.2.1).1 v.2.2;have h5:=D.two p v;by_cases cw:ix i p=player
   ·have:∀ q,Rch (Ed N O W j (ix i p)) (fun q=>ix M p<=ix M q) p q->In n w q/\ix i q=ix i p/\Rch (Ed N O w j (ix i p)) (fun q=>ix M p<=ix M q) p q:=by
     have st:∀ q r,In n w q->ix i q=ix i p->Ed N O W j (ix i p) q r->In n w r/\ix i r=ix i p/\Ed N O w j (ix i p) q r:=by
      rintro q r hq2 hw ⟨e1,e2,e3⟩;have l:=g.rng q hq2.1 hq2.2.1 r e1;have hq2':=(t q hq2.1 hq2.2.1).1 hq2.2.2;by_cases c:ix O q=ix i p
      ·obtain ⟨T,C,s3⟩:=D.own q hq2 (by rw [hw];exact c);have er:=e3 c;rw [er];exact ⟨C,by rw [s3,hw],T,C.2.2,fun _=>rfl⟩
      ·have Z:=g.own q hq2.1 hq2.2.1;have hng : ¬ ix gone r=true:=(U.out q (a0 q hq2) hq2'.2).1 (by omega) r e1;have hr2:In n w r:=⟨l.1,l.2,(t r l.1 l.2).2 ⟨e2,hng⟩⟩;refine ⟨hr2,?_,e1,hr2.2.2,fun c'=>absurd c' c⟩;rw [<- hw];exact D.oth q hq2 (by rw [hw];exact c) r e1 hr2.2.2
     intro q o;induction o with
     | one e=>
      obtain ⟨a,b,d⟩:=st p _ v rfl e;exact ⟨a,b,.one d⟩
     | more _ k e I=>
      obtain ⟨a,b,d⟩:=st _ _ I.1 I.2.1 e;exact ⟨a,b,.more I.2.2 k d⟩
    exact D.cyc p v E (this p H).2.2
   ·have ew:ix i p=1 - player:=by omega
    rw [ew] at H;have:∀ q,Rch (Ed N O W j (1 - player)) (fun q=>ix M p<=ix M q) p q->In n gone q\/(In n w q/\Rch (Ed N O w j (1 - player)) (fun q=>ix M p<=ix M q) p q):=by
     have st:∀ q r,In n w q->Ed N O W j (1 - player) q r->In n gone r\/(In n w r/\Ed N O w j (1 - player) q r):=by
      rintro q r hq2 ⟨e1,e2,e3⟩;have l:=g.rng q hq2.1 hq2.2.1 r e1;rcases m r ⟨l.1,l.2,e2⟩ with h | h
      ·exact .inl h
      ·exact .inr ⟨h,e1,h.2.2,e3⟩
     intro q o;induction o with
     | one e=>
      rcases st p _ v e with h | ⟨a,b⟩
      ·exact .inl h
      ·exact .inr ⟨a,.one b⟩
     | more _ k e I=>
      rcases I with I | ⟨i1,i2⟩
      ·exact .inl (S _ _ I e)
      ·rcases st _ _ i1 e with h | ⟨a,b⟩
       ·exact .inl h
       ·exact .inr ⟨a,.more i2 k b⟩
    rcases this p H with X | ⟨_,X⟩
    ·exact Q p X v.2.2
    ·exact D.cyc p v E (by rw [ew];exact X)
end
section
variable {n:Int} {O M:List Int} {N B:List (List Int)} {W:List Bool} {win mv:List Int}
theorem znZ {s:List Bool} (hs:s.length<=140737488355328):zgn s=some s:=by
 have a:G (room ([]:List Bool) s 1) (some (([]:List Bool)++s))=some s:=by
  rw [zab (zAz (by simpa using hs))];rfl
 unfold zgn;refine zz3 (fun h => ?_) (fun h=>a);obtain rfl:s=[]:=List.length_eq_zero_iff.1 h;rw [a];exact zod (ts:=[(.list .bool)]) (some ([]:List Bool))
theorem zqN {a b:List Bool} (l:0<=n/\n<=1000000) (i:(a.length:Int)=n) (o:(b.length:Int)=n):∃ r,zgA a b=some r/\(r.length:Int)=n/\∀ p:Int,0<=p->p < n->(ix r p=true↔ix a p=true /\ ¬ ix b p=true):=by
 have key:∀ (m:Nat) (t:Int) (out:List Bool),0<=t->t+m=n->(out.length:Int)=n->(∀ p:Int,0<=p->p < t->(ix out p=true↔ix a p=true /\ ¬ ix b p=true))->
   ∃ r,zfr a b t out=some r/\(r.length:Int)=n/\∀ p:Int,0<=p->p < n->(ix r p=true↔ix a p=true /\ ¬ ix b p=true):=by
  intro m;induction m with
  | zero=>
   intro t out t0 j hl h;refine ⟨out,?_,hl,fun p d f=>h p d (by omega)⟩;rw [ziz];unfold zbU;rw [if_neg (by simp only [decide_eq_true_eq];omega)]
  | succ m g=>
   intro t out t0 j hl h;have step:∀ v:Bool,(v=true↔ix a t=true /\ ¬ ix b t=true)->∀ p:Int,0<=p->p < t+1->(ix (out.set t.toNat v) p=true↔ix a p=true /\ ¬ ix b p=true):=by
    intro v k p d f;by_cases c:t=p
    ·subst c;rw [zak t0 (by omega)];exact k
    ·rw [zam t0 d c];exact h p d (by omega)
   conv=>arg 1;ext r;arg 1;lhs;rw [ziz];unfold zbU
   rw [if_pos (decide_eq_true (by omega)),zab (by omega)];by_cases c:ix a t=true
   ·rw [if_pos c,zab (by omega),zab (by omega),zab (by omega),zab (by unfold fits;omega)];exact g (t+1) _ (by omega) (by omega) (by simpa using hl) (step _ (by simp [c]))
   ·rw [if_neg c,zab (by omega),zab (by omega),zab (by unfold fits;omega)];exact g (t+1) _ (by omega) (by omega) (by simpa using hl) (step _ (by simp [c]))
 obtain ⟨r,e,h⟩:=key n.toNat 0 a (by omega) (by omega) i (fun p d f=>by omega);exact ⟨r,by unfold zgA;exact zaj (znZ (by omega)) e,h⟩
abbrev RC:=List Int->List Int->List (List Int)->List (List Int)->List Bool->List Int->List Int->Option (List Int×List Int×List (List Int)×List (List Int)×List Int×List Int×List Bool)
def LI (n:Int) (M:List Int) (W:List Bool) (t least:Int):Prop:=(least = -1/\∀ p,In n W p -> ¬ p < t)\/(0<=least/\(∃ p,In n W p/\ix M p=least)/\∀ p,In n W p->p < t->least<=ix M p)
theorem zy4 (g:GG n O M N B) (A:(W.length:Int)=n) {rc:RC}:∃ least,zal rc O M N B W win mv (-1) 0=zal rc O M N B W win mv least n/\LI n M W n least:=by
 have u:=g.n1;have v:=g.lm;have key:∀ (m:Nat) (t least:Int),0<=t->t+m=n->LI n M W t least->∃ a,zal rc O M N B W win mv least t=zal rc O M N B W win mv a n/\LI n M W n a:=by
  intro m;induction m with
  | zero=>
   intro t least t0 s h;obtain rfl:t=n:=by omega
   exact ⟨least,rfl,h⟩
  | succ m z=>
   intro t least t0 s h;have w:=g.mrk t t0 (by omega);have d:∀ l2,LI n M W (t+1) l2->zal rc O M N B W win mv least t=zal rc O M N B W win mv l2 (t+1)->∃ a,zal rc O M N B W win mv least t=zal rc O M N B W win mv a n/\LI n M W n a:=by
    intro l2 i e;obtain ⟨x,e',y⟩:=z (t+1) l2 (by omega) (by omega) i;exact ⟨x,e.trans e',y⟩
   have e0:∀ X,zao rc O M N B W win mv (zal rc O M N B W win mv) least t=X->zal rc O M N B W win mv least t=X:=fun X h=>by rw [zcp];exact h
   by_cases j:ix W t=true
   ·have q:In n W t:=⟨t0,by omega,j⟩;have f:(least < 0\/ix M t < least)->LI n M W (t+1) (ix M t):=by
     intro C;refine .inr ⟨w,⟨t,q,rfl⟩,fun p b c => ?_⟩;by_cases e:p=t
     ·rw [e];exact Int.le_refl _
     ·rcases h with ⟨o,i⟩ | ⟨o,i,h3⟩
      ·exact absurd (by omega) (i p b)
      ·have:=h3 p b (by omega);omega
    by_cases l:least < 0
    ·refine d (ix M t) (f (.inl l)) (e0 _ ?_);unfold zao;rw [if_pos (decide_eq_true (by omega)),zab (by omega),zab (by omega),if_pos j,if_pos (decide_eq_true l),zab (by omega),zab (by unfold fits;omega)]
    ·by_cases r:ix M t < least
     ·refine d (ix M t) (f (.inr r)) (e0 _ ?_);unfold zao;rw [if_pos (decide_eq_true (by omega)),zab (by omega),zab (by omega),if_pos j,if_neg (by simpa using l),zab (by omega),if_pos (decide_eq_true r),zab (by omega),zab (by unfold fits;omega)]
     ·refine d least ?_ (e0 _ ?_)
      ·rcases h with ⟨o,i⟩ | ⟨o,i,h3⟩
       ·omega
       ·refine .inr ⟨o,i,fun p b c => ?_⟩;by_cases e:p=t
        ·rw [e];omega
        ·exact h3 p b (by omega)
      ·unfold zao;rw [if_pos (decide_eq_true (by omega)),zab (by omega),zab (by omega),if_pos j,if_neg (by simpa using l),zab (by omega),if_neg (by simpa using r),zab (by unfold fits;omega)]
   ·have k:∀ p,In n W p->p < t+1->p < t:=fun p b c=>by
     by_cases e:p=t
     ·rw [e] at b;exact absurd b.2.2 j
     ·omega
    refine d least (h.imp (fun h=>⟨h.1,fun p b c=>h.2 p b (k p b c)⟩) (fun h=>⟨h.1,h.2.1,fun p b c=>h.2.2 p b (k p b c)⟩)) (e0 _ ?_);unfold zao;rw [if_pos (decide_eq_true (by omega)),zab (by omega),zab (by omega),if_neg j,zab (by unfold fits;omega)]
 exact key n.toNat 0 (-1) (by omega) (by omega) (.inl ⟨rfl,fun p b=>by unfold In at b;omega⟩)
structure Lst (P:Int->Prop) (t:Int) (l:List Int):Prop where
 mem:∀ p:Int,p∈l↔0<=p/\p < t/\P p
 nd:l.Nodup
theorem Lst.len {P:Int->Prop} {t:Int} {l:List Int} (h:Lst P t l) (t0:0<=t):(l.length:Int)<=t:=by
 have:=zcW (n:=t.toNat) h.nd (fun x a=>by have:=(h.mem x).1 a;omega);omega
theorem Lst.nil {P:Int->Prop}:Lst P 0 []:=⟨fun p=>⟨fun h=>(by cases h),fun h=>by omega⟩,by simp⟩
theorem Lst.put {P:Int->Prop} {t:Int} {l:List Int} (h:Lst P t l) (t0:0<=t) (g:P t):Lst P (t+1) (l++[t]):=by
 refine ⟨fun p => ?_,?_⟩
 ·rw [List.mem_append,h.mem,List.mem_singleton];constructor
  ·rintro (⟨c,j,d⟩ | rfl)
   ·exact ⟨c,by omega,d⟩
   ·exact ⟨t0,by omega,g⟩
  ·rintro ⟨c,j,d⟩;by_cases e:p=t
   ·exact .inr e
   ·exact .inl ⟨c,by omega,d⟩
 ·rw [List.nodup_append];exact ⟨h.nd,by simp,fun a i b f=>by rw [List.mem_singleton] at f;subst f;have:=(h.mem a).1 i;omega⟩
theorem Lst.not {P:Int->Prop} {t:Int} {l:List Int} (h:Lst P t l) (c : ¬ P t):Lst P (t+1) l:=by
 refine ⟨fun p => ?_,h.nd⟩;rw [h.mem];constructor
 ·rintro ⟨b,d,a⟩;exact ⟨b,by omega,a⟩
 ·rintro ⟨b,d,a⟩;by_cases e:p=t
  ·rw [e] at a;exact absurd a c
  ·exact ⟨b,by omega,a⟩
theorem zAU (g:GG n O M N B) (o:(W.length:Int)=n) {rc:RC} {least:Int}:∃ best,zas rc O M N B W win mv least 0 []=zas rc O M N B W win mv least n best/\Lst (fun p=>ix W p=true/\ix M p=least) n best:=by
 have i:=g.n1;have j:=g.lm;have key:∀ (m:Nat) (t:Int) (l:List Int),0<=t->t+m=n->Lst (fun p=>ix W p=true/\ix M p=least) t l->∃ best,zas rc O M N B W win mv least t l=zas rc O M N B W win mv least n best/\Lst (fun p=>ix W p=true/\ix M p=least) n best:=by
  intro m;induction m with
  | zero=>
   intro t l t0 f h;obtain rfl:t=n:=by omega
   exact ⟨l,rfl,h⟩
  | succ m d=>
   intro t l t0 f h;have k:=h.len t0;have e:∀ b:Bool,za9 t l (zas rc O M N B W win mv least) b=zas rc O M N B W win mv least (t+1) (if b=true then l++[t] else l):=by
    intro b;unfold za9;cases b with
    | true=>rw [if_pos rfl,if_pos rfl,zab (by unfold room;simp;omega),zab (by unfold fits;omega)]
    | false=>rw [if_neg (by decide),if_neg (by decide),zab (by unfold fits;omega)]
   conv=>arg 1;ext best;arg 1;lhs;rw [zeY];unfold zaX
   rw [if_pos (decide_eq_true (by omega)),zab (by omega),zab (by omega)];by_cases a:ix W t=true
   ·rw [if_pos a,zab (by omega),e];by_cases c:ix M t=least
    ·rw [if_pos (decide_eq_true c)];exact d (t+1) _ (by omega) (by omega) (h.put t0 ⟨a,c⟩)
    ·rw [if_neg (by simpa using c)];exact d (t+1) _ (by omega) (by omega) (h.not (fun h=>c h.2))
   ·rw [if_neg a,e,if_neg (by decide)];exact d (t+1) _ (by omega) (by omega) (h.not (fun h=>a h.1))
 exact key n.toNat 0 [] (by omega) (by omega) Lst.nil
theorem zy3 (g:0<=n/\n<=1000000) {R:List Bool} (k:(R.length:Int)=n) {win2 mv2 best:List Int} (hw:(win2.length:Int)=n) {rc:RC} {least:Int}:∃ a,zar rc least best W O M N B win2 mv2 R 0 []=zar rc least best W O M N B win2 mv2 R n a/\Lst (fun p=>ix R p=true /\ ¬ ix win2 p=Int.tmod least 2) n a:=by
 have key:∀ (m:Nat) (t:Int) (l:List Int),0<=t->t+m=n->Lst (fun p=>ix R p=true /\ ¬ ix win2 p=Int.tmod least 2) t l->∃ a,zar rc least best W O M N B win2 mv2 R t l=zar rc least best W O M N B win2 mv2 R n a/\Lst (fun p=>ix R p=true /\ ¬ ix win2 p=Int.tmod least 2) n a:=by
  intro m;induction m with
  | zero=>
   intro t l t0 i h;obtain rfl:t=n:=by omega
   exact ⟨l,rfl,h⟩
  | succ m e=>
   intro t l t0 i h;have j:=h.len t0;have f:∀ b:Bool,zba t l (zar rc least best W O M N B win2 mv2 R) b=zar rc least best W O M N B win2 mv2 R (t+1) (if b=true then l++[t] else l):=by
    intro b;unfold zba;cases b with
    | true=>rw [if_pos rfl,if_pos rfl,zab (by unfold room;simp;omega),zab (by unfold fits;omega)]
    | false=>rw [if_neg (by decide),if_neg (by decide),zab (by unfold fits;omega)]
   conv=>arg 1;ext best;arg 1;lhs;rw [zdm];unfold zaJ
   rw [if_pos (decide_eq_true (by omega)),zab (by omega),zab (by omega)];by_cases c:ix R t=true
   ·rw [if_pos c,zab (by omega),zab (by omega),f];by_cases d:ix win2 t=Int.tmod least 2
    ·rw [if_neg (by simpa using d)];exact e (t+1) _ (by omega) (by omega) (h.not (fun h=>h.2 d))
    ·rw [if_pos (decide_eq_true d)];exact e (t+1) _ (by omega) (by omega) (h.put t0 ⟨c,d⟩)
   ·rw [if_neg c,f,if_neg (by decide)];exact e (t+1) _ (by omega) (by omega) (h.not (fun h=>c h.1))
 exact key n.toNat 0 [] (by omega) (by omega) Lst.nil
theorem zv2 {S:List Bool} {v:Int} {w0 w:List Int} {t:Int} (t0:0<=t) (b:t < w.length) (h:∀ p:Int,0<=p->ix w p=if ix S p=true/\p < t then v else ix w0 p):
  ∀ p:Int,0<=p->ix (if ix S t=true then w.set t.toNat v else w) p=if ix S p=true/\p < t+1 then v else ix w0 p:=by
 intro p a;by_cases e:t=p
 ·subst e;by_cases c:ix S t=true
  ·rw [if_pos c,zak t0 b,if_pos ⟨c,by omega⟩]
  ·rw [if_neg c,h t a,if_neg (fun h=>c h.1),if_neg (fun h=>c h.1)]
 ·have d:ix (if ix S t=true then w.set t.toNat v else w) p=ix w p:=by
   split
   ·exact zam t0 a e
   ·rfl
  rw [d,h p a];by_cases c:ix S p=true/\p < t
  ·rw [if_pos c,if_pos ⟨c.1,by omega⟩]
  ·rw [if_neg c,if_neg (fun h=>c ⟨h.1,by omega⟩)]
theorem zAX (d:0<=n/\n<=1000000) (i:(W.length:Int)=n) {win2 mv2 best:List Int} (hw:(win2.length:Int)=n) {least:Int}:∃ win3,zb1 least best W 0 O M N B win2 mv2=zbb least best W 0 O M N B win3 mv2/\(win3.length:Int)=n/\∀ p:Int,0<=p->p < n->ix win3 p=if ix W p=true then Int.tmod least 2 else ix win2 p:=by
 have key:∀ (m:Nat) (t:Int) (w:List Int),0<=t->t+m=n->(w.length:Int)=n->(∀ p:Int,0<=p->ix w p=if ix W p=true/\p < t then Int.tmod least 2 else ix win2 p)->
   ∃ win3,zb1 least best W t O M N B w mv2=zbb least best W 0 O M N B win3 mv2/\(win3.length:Int)=n/\∀ p:Int,0<=p->p < n->ix win3 p=if ix W p=true then Int.tmod least 2 else ix win2 p:=by
  intro m;induction m with
  | zero=>
   intro t w t0 e hl h;refine ⟨w,?_,hl,fun p b j => ?_⟩
   ·rw [zeZ];unfold zaY;rw [if_neg (by simp only [decide_eq_true_eq];omega)]
   ·rw [h p b];by_cases c:ix W p=true
    ·rw [if_pos ⟨c,by omega⟩,if_pos c]
    ·rw [if_neg (fun h=>c h.1),if_neg c]
  | succ m g=>
   intro t w t0 e hl h;have f:=zv2 (v:=Int.tmod least 2) t0 (by omega:t < w.length) h;have a:=g (t+1) _ (by omega) (by omega) (by split<;>simpa using hl) f
   conv=>arg 1;ext win3;arg 1;lhs;rw [zeZ];unfold zaY
   rw [if_pos (decide_eq_true (by omega)),zab (by omega),zab (by omega)];by_cases c:ix W t=true
   ·rw [if_pos c] at a ⊢;rw [zab (by omega),zab (by omega),zab (by unfold fits;omega)];exact a
   ·rw [if_neg c] at a ⊢;rw [zab (by unfold fits;omega)];exact a
 exact key n.toNat 0 win2 (by omega) (by omega) hw (fun p b=>by rw [if_neg (by omega)])
theorem zAZ (e:0<=n/\n<=1000000) {gone:List Bool} (j:(gone.length:Int)=n) {win2 mv3:List Int} (hw:(win2.length:Int)=n) {rc:RC} {least:Int} (k:Int.tmod least 2=0\/Int.tmod least 2=1):∃ a,zaD rc least gone W 0 O M N B win2 mv3=zaD rc least gone W n O M N B a mv3/\(a.length:Int)=n/\∀ p:Int,0<=p->p < n->ix a p=if ix gone p=true then 1 - Int.tmod least 2 else ix win2 p:=by
 have key:∀ (m:Nat) (t:Int) (w:List Int),0<=t->t+m=n->(w.length:Int)=n->(∀ p:Int,0<=p->ix w p=if ix gone p=true/\p < t then 1 - Int.tmod least 2 else ix win2 p)->
   ∃ a,zaD rc least gone W t O M N B w mv3=zaD rc least gone W n O M N B a mv3/\(a.length:Int)=n/\∀ p:Int,0<=p->p < n->ix a p=if ix gone p=true then 1 - Int.tmod least 2 else ix win2 p:=by
  intro m;induction m with
  | zero=>
   intro t w t0 f hl h;obtain rfl:t=n:=by omega
   refine ⟨w,rfl,hl,fun p d l => ?_⟩;rw [h p d];by_cases c:ix gone p=true
   ·rw [if_pos ⟨c,by omega⟩,if_pos c]
   ·rw [if_neg (fun h=>c h.1),if_neg c]
  | succ m i=>
   intro t w t0 f hl h;have g:=zv2 (v:=1 - Int.tmod least 2) t0 (by omega:t < w.length) h;have b:=i (t+1) _ (by omega) (by omega) (by split<;>simpa using hl) g
   conv=>arg 1;ext a;arg 1;lhs;rw [ze1];unfold za0
   rw [if_pos (decide_eq_true (by omega)),zab (by omega),zab (by omega)];by_cases c:ix gone t=true
   ·rw [if_pos c] at b ⊢;rw [zab (by unfold fits;omega),zab (by omega),zab (by omega),zab (by unfold fits;omega)];exact b
   ·rw [if_neg c] at b ⊢;rw [zab (by unfold fits;omega)];exact b
 exact key n.toNat 0 win2 (by omega) (by omega) hw (fun p d=>by rw [if_neg (by omega)])
theorem zyy (j:(W.length:Int)=n) {l:List Int} (hl:l.length<=4611686018427387904) (b:∀ q∈l,0<=q/\q < n) (a:∃ q∈l,ix W q=true):∃ i,zfE l W=some i/\0<=i/\i < l.length/\ix W (ix l i)=true:=by
 obtain ⟨i,e,h⟩:=ztu (f:=fun q=>zdy q W) (P:=fun q=>ix W q=true) hl (fun t=>zkc l W t) (fun q c=>by
  have:=b q c;unfold zdy;rw [zab (by omega)];exact ⟨_,rfl,Iff.rfl⟩) _ 0 (by omega) (by omega) rfl
 refine ⟨i,e,?_⟩;rcases h with ⟨_,h⟩ | ⟨h1,h2,h3,_⟩
 ·obtain ⟨k,k0,d,g⟩:=(zkq (P:=fun q=>ix W q=true)).1 a;exact absurd g (h k k0 d)
 ·exact ⟨h1,h2,h3⟩
theorem zAY (g:GG n O M N B) (A:(W.length:Int)=n) (C:zu0 n N W) {win3 mv2 best:List Int} (D:(mv2.length:Int)=n) (v:∀ p∈best,In n W p) (hnd:best.Nodup) {least:Int}:∃ mv3,zbb least best W 0 O M N B win3 mv2=some (O,M,N,B,win3,mv3,W)/\(mv3.length:Int)=n/\
  ∀ p:Int,0<=p->p < n->(p∈best/\ix O p=Int.tmod least 2->ix mv3 p∈ix N p/\ix W (ix mv3 p)=true)/\(¬ (p∈best/\ix O p=Int.tmod least 2)->ix mv3 p=ix mv2 p):=by
 have H:=g.n1;have I:=g.lo;have J:=g.ln;have L:=zcW (n:=n.toNat) hnd (fun y E=>by have:=v y E;unfold In at this;omega);have key:∀ (m:Nat) (t:Int) (w:List Int),0<=t->t+m=best.length->(w.length:Int)=n->(∀ p:Int,0<=p->p < n->(p∈best.take t.toNat/\ix O p=Int.tmod least 2->ix w p∈ix N p/\ix W (ix w p)=true)/\(¬ (p∈best.take t.toNat/\ix O p=Int.tmod least 2)->ix w p=ix mv2 p))->
   ∃ mv3,zbb least best W t O M N B win3 w=some (O,M,N,B,win3,mv3,W)/\(mv3.length:Int)=n/\∀ p:Int,0<=p->p < n->(p∈best/\ix O p=Int.tmod least 2->ix mv3 p∈ix N p/\ix W (ix mv3 p)=true)/\(¬ (p∈best/\ix O p=Int.tmod least 2)->ix mv3 p=ix mv2 p):=by
  intro m;induction m with
  | zero=>
   intro t w t0 F hl h;refine ⟨w,?_,hl,?_⟩
   ·rw [ze0];unfold zaZ;rw [if_neg (by simp only [decide_eq_true_eq];omega)]
   ·rw [List.take_of_length_le (by omega)] at h;exact h
  | succ m z=>
   intro t w t0 F hl h;obtain ⟨b,u⟩:∃ b,ix best t=b:=⟨_,rfl⟩;have d:=v _ (zbc t0 (by omega:t < best.length));rw [u] at d;have a:0<=b/\b < n:=⟨d.1,d.2.1⟩;have q:∀ p,p∈best.take (t+1).toNat↔p∈best.take t.toNat\/p=b:=fun p=>by rw [zhk t0 (by omega),u]
   conv=>arg 1;ext mv3;arg 1;lhs;rw [ze0];unfold zaZ
   rw [u,if_pos (decide_eq_true (by omega)),zab (by omega),zab (by omega),zab (by omega)];by_cases c:ix O b=Int.tmod least 2
   ·rw [if_pos (decide_eq_true c),zab (by omega),zab (by omega)];have x:=g.nlen a.1 a.2;obtain ⟨i,e,P,Q,R⟩:=zyy (l:=ix N b) A (by omega) (g.rng b a.1 a.2) (C b d);rw [e];have r:=z (t+1) (w.set b.toNat (ix (ix N b) i)) (by omega) (by omega) (by simpa using hl) (fun p j k=>by
     rw [q];by_cases s:b=p
     ·subst s;rw [zak j (by omega)];exact ⟨fun _=>⟨zbc P Q,R⟩,fun o=>absurd ⟨.inr rfl,c⟩ o⟩
     ·rw [zam a.1 j s];refine ⟨fun ⟨h1,h2⟩=>(h p j k).1 ⟨h1.elim id (fun e=>absurd e.symm s),h2⟩,fun o=>(h p j k).2 (fun ⟨h1,h2⟩=>o ⟨.inl h1,h2⟩)⟩)
    rw [show ∀ (f:Int->Option (List Int×List Int×List (List Int)×List (List Int)×List Int×List Int×List Bool)),(some i).bind f=f i from fun _=>rfl,zab (by omega),zab (by omega),zab (by omega),zab (by unfold fits;omega)];exact r
   ·rw [if_neg (by simpa using c),zab (by unfold fits;omega)];refine z (t+1) w (by omega) (by omega) hl (fun p j k => ?_);rw [q];refine ⟨fun ⟨h1,h2⟩=>(h p j k).1 ⟨h1.elim id (fun e=>absurd (e ▸ h2) c),h2⟩,fun o=>(h p j k).2 (fun ⟨h1,h2⟩=>o ⟨.inl h1,h2⟩)⟩
 exact key best.length 0 mv2 (by omega) (by omega) D (fun p _ _=>⟨fun h=>(by simp at h),fun _=>rfl⟩)
def card (W:List Bool):Nat->Nat
 | 0=>0
 | k+1=>card W k+(if ix W (k:Int)=true then 1 else 0)
theorem zzh {W R:List Bool}:∀ k:Nat,(∀ p:Int,0<=p->p < k->ix R p=true->ix W p=true)->card R k<=card W k
 | 0,_=>Nat.le_refl _
 | k+1,h=>by
  have:=zzh k (fun p a b=>h p a (by omega));unfold card;by_cases c:ix R (k:Int)=true
  ·rw [if_pos c,if_pos (h k (by omega) (by omega) c)];omega
  ·rw [if_neg c];split<;>omega
theorem ztW {W R:List Bool} {x:Int} (f:0<=x) (d:ix W x=true) (a : ¬ ix R x=true):∀ k:Nat,x < k->(∀ p:Int,0<=p->p < k->ix R p=true->ix W p=true)->card R k < card W k
 | 0,hk,_=>by omega
 | k+1,hk,h=>by
  unfold card;by_cases e:x=k
  ·have:=zzh (W:=W) (R:=R) k (fun p b g=>h p b (by omega));rw [<- e,if_pos d,if_neg a];omega
  ·have:=ztW f d a k (by omega) (fun p b g=>h p b (by omega));by_cases c:ix R (k:Int)=true
   ·rw [if_pos c,if_pos (h k (by omega) (by omega) c)];omega
   ·rw [if_neg c];split<;>omega
theorem tmod2 {x:Int} (h:0<=x):Int.tmod x 2=0\/Int.tmod x 2=1:=by
 rw [Int.tmod_eq_emod_of_nonneg h];omega
theorem zyS (g:GG n O M N B):∀ (m:Nat) (W:List Bool) (win mv:List Int),card W n.toNat<=m->(W.length:Int)=n->zu0 n N W->(win.length:Int)=n->(mv.length:Int)=n->
  ∃ v E,zaQ O M N B W win mv=some (O,M,N,B,v,E,W)/\Post n O M N W win mv v E:=by
 have o:=g.n1;intro m;induction m with
 | zero=>
  intro W win mv hm s A hw U;obtain ⟨least,Y,hL⟩:=zy4 g s (win:=win) (mv:=mv) (rc:=zaQ);rcases hL with ⟨Z,h2⟩ | ⟨Z,⟨p,e,_⟩,h3⟩
  ·have f:∀ p,¬ In n W p:=fun p e=>h2 p e e.2.1
   refine ⟨win,mv,?_,hw,U,fun p _ _ _=>⟨rfl,rfl⟩,fun p h=>absurd h (f p),fun p h=>absurd h (f p),fun p h=>absurd h (f p),fun p h=>absurd h (f p)⟩;rw [zem];unfold za8;rw [Y,zcp];unfold zao;rw [if_neg (by simp only [decide_eq_true_eq];omega),if_pos (decide_eq_true (by omega))]
  ·have hpb:=e.2.1;have:=ztW (W:=W) (R:=[]) e.1 e.2.2 (by simp [ix]) n.toNat (by omega) (fun q _ _ h=>by simp [ix] at h);omega
 | succ m ih=>
  intro W win mv hm s A hw U;obtain ⟨least,Y,hL⟩:=zy4 g s (win:=win) (mv:=mv) (rc:=zaQ);rcases hL with ⟨Z,h2⟩ | ⟨Z,⟨p,e,hpm⟩,h3⟩
  ·have f:∀ p,¬ In n W p:=fun p e=>h2 p e e.2.1
   refine ⟨win,mv,?_,hw,U,fun p _ _ _=>⟨rfl,rfl⟩,fun p h=>absurd h (f p),fun p h=>absurd h (f p),fun p h=>absurd h (f p),fun p h=>absurd h (f p)⟩;rw [zem];unfold za8;rw [Y,zcp];unfold zao;rw [if_neg (by simp only [decide_eq_true_eq];omega),if_pos (decide_eq_true (by omega))]
  ·have k:=tmod2 Z;obtain ⟨best,e12,hb⟩:=zAU g s (win:=win) (mv:=mv) (rc:=zaQ) (least:=least);have i:∀ p,p∈best↔In n W p/\ix M p=least:=fun p=>(hb.mem p).trans ⟨fun ⟨a,b,c,d⟩=>⟨⟨a,b,c⟩,d⟩,fun ⟨⟨a,b,c⟩,d⟩=>⟨a,b,c,d⟩⟩
   obtain ⟨near,mv1,rk,eA,C⟩:=zm2 (player:=Int.tmod least 2) (to:=best) g s hw U (fun p e=>((i p).1 e).1) hb.nd A;obtain ⟨R,eR,I,D⟩:=zqN o s C.li;have hRc:=zrJ g A C D;have t:p∈best:=(i p).2 ⟨e,hpm⟩;have hpb:=e.2.1;have hcard:card R n.toNat < card W n.toNat:=ztW e.1 e.2.2 (fun h=>((D p e.1 e.2.1).1 h).2 (C.tos p t).2.2) n.toNat (by omega) (fun q q0 q1 h=>((D q q0 (by omega)).1 h).1);obtain ⟨win2,mv2,eS,w⟩:=ih R win mv1 (by omega) I hRc hw C.lv;obtain ⟨j,e22,hl⟩:=zy3 (W:=W) (O:=O) (M:=M) (N:=N) (B:=B) o I (win2:=win2) (mv2:=mv2) (best:=best) w.lw (rc:=zaQ) (least:=least);have l:∀ p,p∈j↔In n R p /\ ¬ ix win2 p=Int.tmod least 2:=fun p=>(hl.mem p).trans ⟨fun ⟨a,b,c,d⟩=>⟨⟨a,b,c⟩,d⟩,fun ⟨⟨a,b,c⟩,d⟩=>⟨a,b,c,d⟩⟩
   have start:∀ X,zar zaQ least best W O M N B win2 mv2 R n j=X->zaQ O M N B W win mv=X:=by
    intro X hX;rw [zem];unfold za8;rw [Y,zcp];unfold zao;rw [if_neg (by simp only [decide_eq_true_eq];omega),if_neg (by simp only [decide_eq_true_eq];omega),zab (by omega),e12,zeY];unfold zaX;rw [if_neg (by simp only [decide_eq_true_eq];omega)];refine zaj eA (zaj eR (zaj eS ?_));exact e22.trans hX
   by_cases c:j=[]
   ·obtain ⟨win3,e29,J,hw3⟩:=zAX (W:=W) (O:=O) (M:=M) (N:=N) (B:=B) o s (win2:=win2) (mv2:=mv2) (best:=best) w.lw (least:=least);obtain ⟨mv3,e35,L,hm3⟩:=zAY g s A (win3:=win3) (best:=best) w.lv (fun p e=>((i p).1 e).1) hb.nd (least:=least);refine ⟨win3,mv3,start _ ?_,zCI g k rfl (fun q z=>h3 q z z.2.1) i C D w (fun q z => ?_) J L hw3 hm3⟩
    ·rw [zdm];unfold zaJ;rw [if_neg (by simp only [decide_eq_true_eq];omega),if_pos (by simp [c]),e29,e35]
    ·refine Classical.byContradiction fun hn => ?_
     have:=(l q).2 ⟨z,hn⟩;rw [c] at this;cases this
   ·have F:∀ q∈j,In n W q:=fun q z=>by have h:=((l q).1 z).1;exact ⟨h.1,h.2.1,((D q h.1 h.2.1).1 h.2.2).1⟩
    obtain ⟨gone,mv3,rk2,eG,y⟩:=zm2 (player:=1 - Int.tmod least 2) (to:=j) g s w.lw w.lv F hl.nd A;obtain ⟨P,e42,Q,hw4⟩:=zAZ (W:=W) (O:=O) (M:=M) (N:=N) (B:=B) o y.li (win2:=win2) (mv3:=mv3) w.lw (rc:=zaQ) k;obtain ⟨R2,eR2,S,u⟩:=zqN o s y.li;have H:=zrJ g A y u;obtain ⟨x,hx⟩:=List.exists_mem_of_length_pos ((List.length_pos_iff.2 c));have r:=F x hx;have hxb:=r.2.1;have V:card R2 n.toNat < card W n.toNat:=ztW r.1 r.2.2 (fun h=>((u x r.1 r.2.1).1 h).2 (y.tos x hx).2.2) n.toNat (by omega) (fun q q0 q1 h=>((u q q0 (by omega)).1 h).1);obtain ⟨T,mv5,eS2,hQ⟩:=ih R2 P mv3 (by omega) S H Q y.lv;have hpos:=(List.length_pos_iff.2 c);refine ⟨T,mv5,start _ ?_,zAG g k C D w l y hw4 u hQ⟩;rw [zdm];unfold zaJ;rw [if_neg (by simp only [decide_eq_true_eq];omega),if_neg (by simp only [decide_eq_true_eq];omega),zab (by unfold fits;omega)];refine zaj eG ?_;refine e42.trans ?_;have hgl:=y.li;rw [ze1];unfold za0;rw [if_neg (by simp only [decide_eq_true_eq];omega)];refine zaj eR2 (zaj eS2 rfl)
end
abbrev GM:=List Int×List Int×List (List Int)×Unit
structure GOk (g:GM):Prop where
 n:1<=g.1.length/\g.1.length<=7000
 lm:g.2.1.length=g.1.length
 ln:g.2.2.1.length=g.1.length
 own:∀ p:Int,0<=p->p < g.1.length->ix g.1 p=0\/ix g.1 p=1
 mrk:∀ p:Int,0<=p->p < g.1.length->0<=ix g.2.1 p/\ix g.2.1 p<=9
 ne:∀ p:Int,0<=p->p < g.1.length->0 < (ix g.2.2.1 p).length
 rng:∀ p:Int,0<=p->p < g.1.length->∀ q∈ix g.2.2.1 p,0<=q/\q < g.1.length
 inc:∀ p:Int,0<=p->p < g.1.length->∀ k:Int,1<=k->k < (ix g.2.2.1 p).length->ix (ix g.2.2.1 p) (k - 1) < ix (ix g.2.2.1 p) k
section
variable {g:GM}
structure Won (g:GM) (win mv:List Int):Prop where
 lw:win.length=g.1.length
 lv:mv.length=g.1.length
 two:∀ p:Int,0<=p->p < g.1.length->ix win p=0\/ix win p=1
 own:∀ p:Int,0<=p->p < g.1.length->ix g.1 p=ix win p->ix mv p∈ix g.2.2.1 p/\ix win (ix mv p)=ix win p
 oth:∀ p:Int,0<=p->p < g.1.length -> ¬ ix g.1 p=ix win p->ix mv p = -1/\∀ q∈ix g.2.2.1 p,ix win q=ix win p
 cyc:∀ p:Int,0<=p->p < g.1.length -> ¬ Int.tmod (ix g.2.1 p) 2=ix win p -> ¬ Rch (fun a b=>b∈ix g.2.2.1 a/\(ix g.1 a=ix win p->b=ix mv a)) (fun b=>ix g.2.1 p<=ix g.2.1 b) p p
theorem zCk {l:List Int} (h:∀ k:Int,1<=k->k < l.length->ix l (k - 1) < ix l k):∀ (m:Nat) (i:Int),0<=i->i+(m+1) < l.length->ix l i < ix l (i+(m+1))
 | 0,i,i0,i1=>by
  have:=h (i+1) (by omega) (by omega);rw [show i+1 - 1=i by omega] at this;exact this
 | m+1,i,i0,i1=>by
  have b:=zCk h m i i0 (by omega);have a:=h (i+((m+1:Nat)+1)) (by omega) (by omega);rw [show i+((m+1:Nat)+1) - 1=i+(m+1) by omega] at a;have e:i+(((m+1:Nat):Int)+1)=i+((m+1:Nat)+1):=rfl;omega
theorem zr8 {l:List Int} (h:∀ k:Int,1<=k->k < l.length->ix l (k - 1) < ix l k):l.Nodup:=by
 rw [List.nodup_iff_pairwise_ne,List.pairwise_iff_getElem];intro i j d e c;have:=zCk h (j - i - 1) (i:Int) (by omega) (by omega);rw [show (i:Int)+(((j - i - 1:Nat):Int)+1)=(j:Int) by omega] at this;have a:=zhF (l:=l) (i:=(i:Int)) (by omega) (by omega);have b:=zhF (l:=l) (i:=(j:Int)) (by omega) (by omega);have a:ix l (i:Int)=l[i]:=a;have b:ix l (j:Int)=l[j]:=b;omega
structure BI (g:GM) (t k:Int) (B:List (List Int)):Prop where
 l:B.length=g.1.length
 mem:∀ p q:Int,0<=q->q < g.1.length->(p∈ix B q↔(0<=p/\p < t/\q∈ix g.2.2.1 p)\/(p=t/\q∈(ix g.2.2.1 t).take k.toNat))
 nd:∀ q:Int,0<=q->q < g.1.length->(ix B q).Nodup
theorem BI.blen {t k:Int} {B:List (List Int)} (h:BI g t k B) (f:t < g.1.length) {q:Int} (c:0<=q) (d:q < g.1.length) {t0:0<=t}:(ix B q).length<=g.1.length:=
 zcW (h.nd q c d) (fun p e=>by rcases (h.mem p q c d).1 e with ⟨a,b,_⟩ | ⟨rfl,_⟩<;>omega)
theorem zCt {α:Type} [Inhabited α] {k:Nat} {x:α} {p:Int} (a:0<=p) (b:p < k):ix (List.replicate k x) p=x:=by
 rw [zhF a (by rw [List.length_replicate];exact b),List.getElem_replicate]
theorem zy9 (ok:GOk g) {t:Int} (t0:0<=t) (i:t < g.1.length) {all:List Bool} {win mv:List Int} {r5:Int->List Int->List Int->List (List Int)->List Bool->List (List Int)->List Int->List Int->Option (List Int×List Int×Unit)}:∀ (m:Nat) (k:Int) (B:List (List Int)),0<=k->k+m=(ix g.2.2.1 t).length->BI g t k B->
  ∃ l,zbW g.2.2.1 t all r5 k g.1 g.2.1 g.2.2.1 B win mv=r5 (t+1) g.1 g.2.1 g.2.2.1 (all.set t.toNat true) l win mv/\BI g (t+1) 0 l:=by
 have F:=ok.n;have y:(ix g.2.2.1 t).length<=g.1.length:=zcW (zr8 (ok.inc t t0 i)) (ok.rng t t0 i);intro m;induction m with
 | zero=>
  intro k B k0 x h;refine ⟨B,?_,h.l,fun p q u v => ?_,h.nd⟩
  ·rw [zjx];unfold zca;rw [if_neg (by simp only [decide_eq_true_eq];omega),zab (by unfold fits;omega)]
  ·rw [h.mem p q u v,List.take_of_length_le (by omega)];constructor
   ·rintro (⟨a,b,c⟩ | ⟨rfl,c⟩)
    ·exact .inl ⟨a,by omega,c⟩
    ·exact .inl ⟨t0,by omega,c⟩
   ·rintro (⟨a,b,c⟩ | ⟨_,c⟩)
    ·by_cases e:p=t
     ·subst e;exact .inr ⟨rfl,c⟩
     ·exact .inl ⟨a,by omega,c⟩
    ·simp at c
 | succ m E=>
  intro k B k0 x h;obtain ⟨q,n⟩:∃ q,ix (ix g.2.2.1 t) k=q:=⟨_,rfl⟩;have j:=ok.rng t t0 i _ (zbc k0 (by omega:k < (ix g.2.2.1 t).length));rw [n] at j;have hl:=h.l;have z:=h.blen i j.1 j.2 (t0:=t0);have o:q∉(ix g.2.2.1 t).take k.toNat:=n ▸ zqL (zr8 (ok.inc t t0 i)) k0 (by omega);have A:BI g t (k+1) (B.set q.toNat (ix B q++[t])):=by
   refine ⟨by simpa using hl,fun p r d r1 => ?_,fun r d r1 => ?_⟩
   ·rw [zhk k0 (by omega),n];by_cases e:q=r
    ·subst e;rw [zak d (by omega),List.mem_append,List.mem_singleton,h.mem p q d r1];constructor
     ·rintro ((a | ⟨a,b⟩) | a)
      ·exact .inl a
      ·exact .inr ⟨a,.inl b⟩
      ·exact .inr ⟨a,.inr rfl⟩
     ·rintro (a | ⟨a,_⟩)
      ·exact .inl (.inl a)
      ·exact .inr a
    ·rw [zam j.1 d e,h.mem p r d r1];refine or_congr Iff.rfl (and_congr Iff.rfl ⟨.inl,fun h=>h.elim id (fun h=>absurd h.symm e)⟩)
   ·by_cases e:q=r
    ·subst e;rw [zak d (by omega),List.nodup_append];refine ⟨h.nd q d r1,by simp,fun a w b s => ?_⟩;rw [List.mem_singleton] at s;subst s;rcases (h.mem a q d r1).1 w with ⟨_,c,_⟩ | ⟨_,c⟩
     ·omega
     ·exact absurd c o
    ·rw [zam j.1 d e];exact h.nd r d r1
  obtain ⟨l,e,D⟩:=E (k+1) _ (by omega) (by omega) A;refine ⟨l,?_,D⟩;rw [<- e];have C:∀ b,zcG k (zbW g.2.2.1 t all r5) g.1 g.2.1 g.2.2.1 b win mv=zbW g.2.2.1 t all r5 (k+1) g.1 g.2.1 g.2.2.1 b win mv:=fun b=>by
   unfold zcG;rw [zab (by unfold fits;omega)]
  conv=>lhs;rw [zjx];unfold zca
  rw [if_pos (decide_eq_true (by omega)),zab (by omega),n,zab (by omega),zab (by omega),C];have f:room (ix B q) [t] 8:=by unfold room;simp;omega
  rw [zab (by omega),zab f,zab (by omega),zab rfl];exact zcm rfl rfl
theorem zwm (ok:GOk g):∃ win mv,zhB g=some (win,mv,())/\Won g win mv:=by
 have hn:=ok.n;have hlm:=ok.lm;have hln:=ok.ln;have k5:∀ (m:Nat) (t:Int) (all:List Bool) (B:List (List Int)) (win mv:List Int),0<=t->t+m=g.1.length->all.length=g.1.length->(∀ p:Int,0<=p->p < t->ix all p=true)->BI g t 0 B->
   ∃ j L,zdP g g.1 g.2.2.1 t g.1 g.2.1 g.2.2.1 all B win mv=zdP g g.1 g.2.2.1 g.1.length g.1 g.2.1 g.2.2.1 j L win mv/\j.length=g.1.length/\(∀ p:Int,0<=p->p < g.1.length->ix j p=true)/\BI g g.1.length 0 L:=by
  intro m;induction m with
  | zero=>
   intro t all B win mv t0 P hl h x;obtain rfl:t=g.1.length:=by omega
   exact ⟨all,B,rfl,hl,h,x⟩
  | succ m v=>
   intro t all B win mv t0 P hl h x;obtain ⟨B1,I,T⟩:=zy9 (all:=all) (win:=win) (mv:=mv) (r5:=zdP g g.1 g.2.2.1) ok t0 (by omega) (ix g.2.2.1 t).length 0 B (by omega) (by omega) x;obtain ⟨j,L,N,h'⟩:=v (t+1) (all.set t.toNat true) B1 win mv (by omega) (by omega) (by simpa using hl) (fun p d f=>by
    by_cases e:t=p
    ·subst e;rw [zak t0 (by omega)]
    ·rw [zam t0 d e];exact h p d (by omega)) T
   refine ⟨j,L,?_,h'⟩;rw [<- N]
   conv=>lhs;rw [zjw];unfold zb9
   rw [if_pos (decide_eq_true (by omega)),zab (by omega),zab (by omega),zab (by omega),I]
 obtain ⟨Z,hZ⟩:∃ Z:Nat,(g.1.length:Int).toNat=Z:=⟨_,rfl⟩;have Q:BI g 0 0 (List.replicate Z []):=by
  refine ⟨by rw [List.length_replicate];omega,fun p q z D => ?_,fun q z D => ?_⟩
  ·rw [zCt z (by omega)];constructor
   ·intro h;cases h
   ·rintro (h | ⟨_,h⟩)
    ·omega
    ·simp at h
  ·rw [zCt z (by omega)];simp
 obtain ⟨all,B,e5,ha1,s,x⟩:=k5 g.1.length 0 (List.replicate Z false) (List.replicate Z []) (List.replicate Z 0) (List.replicate Z 0) (by omega) (by omega) (by rw [List.length_replicate];omega) (fun p d f=>by omega) Q;have gg:GG g.1.length g.1 g.2.1 g.2.2.1 B:=by
  refine ⟨by omega,rfl,by omega,by omega,by have:=x.l;omega,ok.own,fun p d f=>(ok.mrk p d f).1,ok.rng,fun p d f=>zr8 (ok.inc p d f),fun q z D p C => ?_,fun p q d f z D => ?_,x.nd⟩
  ·rcases (x.mem p q z D).1 C with ⟨a,b,_⟩ | ⟨_,c⟩
   ·exact ⟨a,b⟩
   ·simp at c
  ·rw [x.mem p q z D];exact ⟨fun h=>h.elim (fun h=>h.2.2) (fun h=>by simp at h),fun h => .inl ⟨d,f,h⟩⟩
 have hcl:zu0 g.1.length g.2.2.1 all:=fun p C=>by
  have hne:=ok.ne p C.1 C.2.1;have Y:=zbc (l:=ix g.2.2.1 p) (i:=0) (by omega) (by omega);have r:=ok.rng p C.1 C.2.1 _ Y;exact ⟨_,Y,s _ r.1 r.2⟩
 obtain ⟨win,mv,e,y⟩:=zyS gg (card all (g.1.length:Int).toNat) all (List.replicate Z 0) (List.replicate Z 0) (Nat.le_refl _) (by omega) hcl (by rw [List.length_replicate];omega) (by rw [List.length_replicate];omega);have n:∀ p:Int,0<=p->p < g.1.length->In g.1.length all p:=fun p d f=>⟨d,f,s p d f⟩
 have hlw:=y.lw;have R:=y.lv;have S:∀ (m:Nat) (t:Int) (w:List Int),0<=t->t+m=g.1.length->(w.length:Int)=g.1.length->(∀ p:Int,0<=p->p < g.1.length->ix w p=if p < t /\ ¬ ix g.1 p=ix win p then -1 else ix mv p)->
   ∃ w',zfj g g.1 t g.1 g.2.1 g.2.2.1 B win w=some (win,w',())/\(w'.length:Int)=g.1.length/\∀ p:Int,0<=p->p < g.1.length->ix w' p=if ¬ ix g.1 p=ix win p then -1 else ix mv p:=by
  intro m;induction m with
  | zero=>
   intro t w t0 P hl h;refine ⟨w,?_,hl,fun p d f => ?_⟩
   ·rw [ziy];unfold zbT;rw [if_neg (by simp only [decide_eq_true_eq];omega)]
   ·rw [h p d f];by_cases c : ¬ ix g.1 p=ix win p
    ·rw [if_pos ⟨by omega,c⟩,if_pos c]
    ·rw [if_neg (fun h=>c h.2),if_neg c]
  | succ m v=>
   intro t w t0 P hl h
   conv=>arg 1;ext w';arg 1;lhs;rw [ziy];unfold zbT
   rw [if_pos (decide_eq_true (by omega)),zab (by omega),zab (by omega),zab (by omega)];by_cases c:ix g.1 t=ix win t
   ·rw [if_neg (by simpa using c),zab (by unfold fits;omega)];refine v (t+1) w (by omega) (by omega) hl (fun p d f => ?_);rw [h p d f];by_cases u:p < t /\ ¬ ix g.1 p=ix win p
    ·rw [if_pos u,if_pos ⟨by omega,u.2⟩]
    ·rw [if_neg u,if_neg (fun h=>by
      by_cases e:p=t
      ·rw [e] at h;exact h.2 c
      ·exact u ⟨by omega,h.2⟩)]
   ·rw [if_pos (by simpa using c),zab (by omega),zab (by omega),zab (by unfold fits;omega)];refine v (t+1) _ (by omega) (by omega) (by simpa using hl) (fun p d f => ?_);by_cases e:t=p
    ·subst e;rw [zak t0 (by omega),if_pos ⟨by omega,c⟩]
    ·rw [zam t0 d e,h p d f];by_cases u:p < t /\ ¬ ix g.1 p=ix win p
     ·rw [if_pos u,if_pos ⟨by omega,u.2⟩]
     ·rw [if_neg u,if_neg (fun h=>u ⟨by omega,h.2⟩)]
 obtain ⟨o,U,hm1,J⟩:=S g.1.length 0 mv (by omega) (by omega) R (fun p d f=>by rw [if_neg (by omega)]);have A:∀ p:Int,0<=p->p < g.1.length->ix g.1 p=ix win p->ix o p=ix mv p:=fun p d f c=>by rw [J p d f,if_neg (by simpa using c)]
 refine ⟨win,o,?_,by omega,by omega,fun p d f=>y.two p (n p d f),fun p d f E => ?_,fun p d f E=>⟨by rw [J p d f,if_pos E],fun q M => ?_⟩,fun p d f F O => ?_⟩
 ·have H:zaA g g.1 g.2.1 g.2.2.1 g.1 g.2.1 g.2.2.1 (List.replicate Z []) (List.replicate Z 0) (List.replicate Z 0)=some (win,o,()):=by
   unfold zaA;rw [hZ,zab (by unfold mkOK;omega),e5,zjw];unfold zb9;rw [if_neg (by simp only [decide_eq_true_eq];omega)];exact zaj e U
  have hS:zhB g=some (win,o,()):=by
   unfold zhB;rw [hZ]
   repeat' first | exact H | refine zcm ?_ ?_ | refine G_to (by unfold mkOK;omega) ?_
  exact hS
 ·obtain ⟨s1,s2,V⟩:=y.own p (n p d f) E;rw [A p d f E];exact ⟨s1,V⟩
 ·have r:=ok.rng p d f q M;exact y.oth p (n p d f) E q M (s q r.1 r.2)
 ·refine y.cyc p (n p d f) F ?_;have key:∀ a b:Int,0<=a->a < g.1.length->ix win a=ix win p->(b∈ix g.2.2.1 a/\(ix g.1 a=ix win p->b=ix o a))->(0<=b/\b < g.1.length/\ix win b=ix win p)/\Ed g.2.2.1 g.1 all mv (ix win p) a b:=by
   rintro a b a0 a1 hw ⟨I,N⟩;have r:=ok.rng a a0 a1 b I;refine ⟨⟨r.1,r.2,?_⟩,I,s b r.1 r.2,fun c=>by rw [N c,A a a0 a1 (by rw [hw];exact c)]⟩;by_cases c:ix g.1 a=ix win a
   ·obtain ⟨_,_,V⟩:=y.own a (n a a0 a1) c;rw [N (by rw [<- hw];exact c),A a a0 a1 c,V,hw]
   ·rw [y.oth a (n a a0 a1) c b I (s b r.1 r.2),hw]
  have:∀ q,Rch (fun a b=>b∈ix g.2.2.1 a/\(ix g.1 a=ix win p->b=ix o a)) (fun b=>ix g.2.1 p<=ix g.2.1 b) p q->(0<=q/\q < g.1.length/\ix win q=ix win p)/\Rch (Ed g.2.2.1 g.1 all mv (ix win p)) (fun q=>ix g.2.1 p<=ix g.2.1 q) p q:=by
   intro q M;induction M with
   | one e=>
    obtain ⟨W,X⟩:=key p _ d f rfl e;exact ⟨W,.one X⟩
   | more _ k e v=>
    obtain ⟨W,X⟩:=key _ _ v.1.1 v.1.2.1 v.1.2.2 e;exact ⟨W,.more v.2 k X⟩
  exact (this p O).2
end
theorem zBx {x y:Int}:zrf x y=some (decide (x < y)):=by
 have h:∀ x:Int,zgp x=some false:=fun x=>by unfold zgp;simp
 unfold zrf;refine zaj (h x) ?_;rw [if_neg (by simp)]
theorem zDf:∃ n,zob (IntKind.wrap .u64 (2:Int))=some n:=by
 have e:IntKind.wrap .u64 (2:Int)=2:=by decide
 rw [e];unfold zob zpm;rw [if_neg (by decide)];unfold zki;rw [if_neg (by decide)];unfold zkj;rw [if_neg (by decide)];unfold zkk;rw [zab (by decide),zab (by decide)];exact ⟨_,rfl⟩
theorem sort2 {x y:Int}:zh6 [x,y]=some (if y < x then [y,x] else [x,y]):=by
 obtain ⟨n,b⟩:=zDf;unfold zh6;refine zaj (show zob (IntKind.wrap .u64 (([x,y]:List Int).length:Int))=some n from b) ?_;have key:zc4 0 (([x,y]:List Int).length:Int) n [x,y]=some (if y < x then [y,x] else [x,y]):=by
  unfold zc4;rw [zh8];unfold zaW;show G (fits ((2:Int) - 0)) _=_;rw [zab (by unfold fits;omega),if_pos (by simp)];refine zaj ?_ rfl;show zbD 0 2 [x,y]=_;unfold zbD;rw [zab (by unfold fits;omega),zc2];unfold zau;rw [if_pos (by decide),zc3];unfold zav;have a:∀ l:List Int,zaV 0 2 2 l=some l:=fun l=>by
   rw [zc2];unfold zau;rw [if_neg (by decide)]
  rw [if_pos (by decide),zab (by simp),zab (by simp),zab (by unfold fits;omega),zab (by simp),zab (by simp)];refine zaj zBx ?_;show (if decide (y < x)=true then _ else _)=_;by_cases c:y < x
  ·rw [if_pos (by simpa using c),if_pos c,zab (by unfold fits;omega),zab (by unfold fits;omega),zab (by simp),zab (by simp),zab (by simp),zab (by simp),zab (by simp),zab (by simp),zab (by simp),zab (by simp),zab (by unfold fits;omega)];show zax 0 1 (zaV 0 2) 0 [y,x]=_;rw [zc3];unfold zav;rw [if_neg (by decide),zab (by unfold fits;omega)];exact a _
  ·rw [if_neg (by simpa using c),if_neg c,zab (by unfold fits;omega)];exact a _
 exact zaj key rfl
def row2 (x y:Int):List Int:=if y < x then [y,x] else if x=y then [x] else [x,y]
theorem zxx {u v:Int}:zdQ [u,v]=some (if v=u then [u] else [u,v]):=by
 unfold zdQ;rw [if_neg (by simp),zg5];unfold zbq;rw [if_pos (by simp),zab (by simp),zab (by simp),zab (by unfold fits;omega),zab (by simp),zab (by simp)];show (if decide (v=u)=true then _ else _)=_;by_cases c:v=u
 ·rw [if_pos (by simpa using c),if_pos c,zab (by simp),zm0];unfold zbV;rw [if_neg (by simp),zab (by simp),zab (by simp),zab (by simp)];rfl
 ·rw [if_neg (by simpa using c),if_neg c,zab (by unfold fits;omega),zg5];unfold zbq;rw [if_neg (by simp)]
theorem zAA {x y:Int}:∃ l,zh6 [x,y]=some l/\zdQ l=some (row2 x y):=by
 refine ⟨_,sort2,?_⟩;unfold row2;by_cases c:y < x
 ·rw [if_pos c,if_pos c,zxx,if_neg (by omega)]
 ·rw [if_neg c,if_neg c,zxx];by_cases d:x=y
  ·rw [if_pos d.symm,if_pos d]
  ·rw [if_neg (fun e=>d e.symm),if_neg d]
theorem zxe {x y:Int}:0 < (row2 x y).length/\(row2 x y).length<=2/\(∀ q,q∈row2 x y↔q=x\/q=y)/\∀ k:Int,1<=k->k < (row2 x y).length->ix (row2 x y) (k - 1) < ix (row2 x y) k:=by
 unfold row2;by_cases c:y < x
 ·rw [if_pos c];refine ⟨by simp,by simp,fun q=>by simp [or_comm],fun k k0 a => ?_⟩;simp at a;obtain rfl:k=1:=by omega
  exact c
 ·rw [if_neg c];by_cases d:x=y
  ·rw [if_pos d];exact ⟨by simp,by simp,fun q=>by simp [d],fun k k0 a=>by simp at a;omega⟩
  ·rw [if_neg d];refine ⟨by simp,by simp,fun q=>by simp,fun k k0 a => ?_⟩;simp at a;obtain rfl:k=1:=by omega
   show x < y;omega
section
variable {d:Dt}
structure GI (d:Dt) (T:Nat) (O M:List Int) (N:List (List Int)):Prop where
 lo:O.length=3 * T
 lm:M.length=3 * T
 ln:N.length=3 * T
 o:∀ q:Nat,q < T->ix O (3 * (q:Int))=1/\ix O (3 * (q:Int)+1)=0/\ix O (3 * (q:Int)+2)=0
 m:∀ q:Nat,q < T->ix M (3 * (q:Int))=ix d.2.2.2.1 (q:Int)/\ix M (3 * (q:Int)+1)=9/\ix M (3 * (q:Int)+2)=9
 w:∀ q:Nat,q < T->ix N (3 * (q:Int))=[3 * (q:Int)+1,3 * (q:Int)+2]
 a:∀ q:Nat,q < T->∀ i:Int,0<=i->i < 2->ix N (3 * (q:Int)+1+i)=row2 (3 * ix (ix d.2.2.1 (q:Int)) i) (3 * ix (ix d.2.2.1 (q:Int)) (i+2))
theorem app3 {l:List Int} {T:Nat} (hl:l.length=3 * T) {x y z:Int}:(∀ k:Int,0<=k->k < 3 * T->ix (l++[x,y,z]) k=ix l k)/\ix (l++[x,y,z]) (3 * (T:Int))=x/\ix (l++[x,y,z]) (3 * (T:Int)+1)=y/\ix (l++[x,y,z]) (3 * (T:Int)+2)=z:=by
 refine ⟨fun k k0 a=>zan k0 (by omega),?_,?_,?_⟩
 ·rw [zcJ (by omega),show 3 * (T:Int) - l.length=0 by omega];rfl
 ·rw [zcJ (by omega),show 3 * (T:Int)+1 - l.length=1 by omega];rfl
 ·rw [zcJ (by omega),show 3 * (T:Int)+2 - l.length=2 by omega];rfl
theorem app3L {l:List (List Int)} {T:Nat} (hl:l.length=3 * T) {x y z:List Int}:(∀ k:Int,0<=k->k < 3 * T->ix (l++[x]++[y]++[z]) k=ix l k)/\ix (l++[x]++[y]++[z]) (3 * (T:Int))=x/\ix (l++[x]++[y]++[z]) (3 * (T:Int)+1)=y/\ix (l++[x]++[y]++[z]) (3 * (T:Int)+2)=z:=by
 rw [List.append_assoc,List.append_assoc];refine ⟨fun k k0 a=>zan k0 (by omega),?_,?_,?_⟩
 ·rw [zcJ (by omega),show 3 * (T:Int) - l.length=0 by omega];rfl
 ·rw [zcJ (by omega),show 3 * (T:Int)+1 - l.length=1 by omega];rfl
 ·rw [zcJ (by omega),show 3 * (T:Int)+2 - l.length=2 by omega];rfl
structure D4 (d:Dt):Prop where
 kd:DOk 20000 badM d
 l4:d.1=4
 n:d.2.2.1.length<=2327
theorem D4.row (h:D4 d) {q:Int} (a:0<=q) (b:q < d.2.2.1.length):((ix d.2.2.1 q).length:Int)=4/\∀ x:Int,0<=x->x < 4->0<=ix (ix d.2.2.1 q) x/\ix (ix d.2.2.1 q) x < d.2.2.1.length:=
 ⟨by rw [h.kd.tab.rowlen a b,h.l4],fun x c e=>h.kd.tab.stpb a b c (by rw [h.l4];exact e)⟩
theorem zAL (h:D4 d) {t:Int} (t0:0<=t) (c:t < d.2.2.1.length) {r11:Int->List Int->List Int->List (List Int)->Option ((Bool×Int×List (Int×Int×Unit)×List (Int×Int×Unit)×Unit)×Bool×Int)} {O M:List Int} {N:List (List Int)} (hN:N.length<=100000):
  za4 d t r11 0 O M N=r11 (t+1) O M (N++[row2 (3 * ix (ix d.2.2.1 t) 0) (3 * ix (ix d.2.2.1 t) 2)]++[row2 (3 * ix (ix d.2.2.1 t) 1) (3 * ix (ix d.2.2.1 t) 3)]):=by
 have j:=h.n;obtain ⟨r,r1⟩:=h.row t0 c;have k:=r1 0 (by omega) (by omega);have m:=r1 1 (by omega) (by omega);have n:=r1 2 (by omega) (by omega);have o:=r1 3 (by omega) (by omega);have step:∀ (i:Int) (N:List (List Int)),0<=i->i < 2->N.length<=200000->za4 d t r11 i O M N=za4 d t r11 (i+1) O M (N++[row2 (3 * ix (ix d.2.2.1 t) i) (3 * ix (ix d.2.2.1 t) (i+2))]):=fun i N e f hN=>by
  have p:=r1 i e (by omega);have q:=r1 (i+2) (by omega) (by omega);obtain ⟨l,g,b⟩:=zAA (x:=3 * ix (ix d.2.2.1 t) i) (y:=3 * ix (ix d.2.2.1 t) (i+2))
  conv=>lhs;rw [zib];unfold zbG
  rw [if_pos (by simpa using f),zab (by omega),zab (by unfold fits;omega),zab (by unfold fits;omega),zab (by omega),zab (by unfold fits;omega)];refine zaj g ?_;have a:(G (room N [row2 (3 * ix (ix d.2.2.1 t) i) (3 * ix (ix d.2.2.1 t) (i+2))] 24) (zch i (za4 d t r11) O M (N++[row2 (3 * ix (ix d.2.2.1 t) i) (3 * ix (ix d.2.2.1 t) (i+2))])))=za4 d t r11 (i+1) O M (N++[row2 (3 * ix (ix d.2.2.1 t) i) (3 * ix (ix d.2.2.1 t) (i+2))]):=by
   unfold zch;rw [zab (by unfold room;simp;omega),zab (by unfold fits;omega)]
  exact zcm (zaj b a) (zaj b a)
 rw [step 0 N (by omega) (by omega) (by omega),show (0:Int)+1=1 by omega,show (0:Int)+2=2 by omega,step 1 _ (by omega) (by omega) (by simp;omega),show (1:Int)+1=2 by omega,show (1:Int)+2=3 by omega];rw [zib];unfold zbG;rw [if_neg (by decide),zab (by unfold fits;omega)]
theorem GI.put {T:Nat} {O M:List Int} {N:List (List Int)} (h:GI d T O M N):GI d (T+1) (O++[1,0,0]) (M++[ix d.2.2.2.1 (T:Int),9,9]) (N++[[3 * (T:Int)+1,3 * (T:Int)+2]]++[row2 (3 * ix (ix d.2.2.1 (T:Int)) 0) (3 * ix (ix d.2.2.1 (T:Int)) 2)]++[row2 (3 * ix (ix d.2.2.1 (T:Int)) 1) (3 * ix (ix d.2.2.1 (T:Int)) 3)]):=by
 obtain ⟨b,n,o,p⟩:=app3 h.lo (x:=1) (y:=0) (z:=0);obtain ⟨c,r,s,t⟩:=app3 h.lm (x:=ix d.2.2.2.1 (T:Int)) (y:=9) (z:=9);obtain ⟨f,u,v,w⟩:=app3L h.ln (x:=[3 * (T:Int)+1,3 * (T:Int)+2]) (y:=row2 (3 * ix (ix d.2.2.1 (T:Int)) 0) (3 * ix (ix d.2.2.1 (T:Int)) 2)) (z:=row2 (3 * ix (ix d.2.2.1 (T:Int)) 1) (3 * ix (ix d.2.2.1 (T:Int)) 3));have k:=h.lo;have l:=h.lm;have m:=h.ln;refine ⟨by simp;omega,by simp;omega,by simp;omega,fun q a => ?_,fun q a => ?_,fun q a => ?_,fun q a i g j => ?_⟩
 ·by_cases e:q=T
  ·rw [e];exact ⟨n,o,p⟩
  ·rw [b _ (by omega) (by omega),b _ (by omega) (by omega),b _ (by omega) (by omega)];exact h.o q (by omega)
 ·by_cases e:q=T
  ·rw [e];exact ⟨r,s,t⟩
  ·rw [c _ (by omega) (by omega),c _ (by omega) (by omega),c _ (by omega) (by omega)];exact h.m q (by omega)
 ·by_cases e:q=T
  ·rw [e];exact u
  ·rw [f _ (by omega) (by omega)];exact h.w q (by omega)
 ·by_cases e:q=T
  ·rw [e];have:i=0\/i=1:=by omega
   rcases this with rfl | rfl
   ·rw [Int.add_zero,v];rfl
   ·rw [show 3 * (T:Int)+1+1=3 * (T:Int)+2 by omega,w];rfl
  ·rw [f _ (by omega) (by omega)];exact h.a q (by omega) i g j
variable {T:Nat} {O M:List Int} {N:List (List Int)}
theorem zAs (p:Int) (a:0<=p) (b:p < 3 * (T:Int)):∃ q:Nat,q < T/\(p=3 * (q:Int)\/p=3 * (q:Int)+1\/p=3 * (q:Int)+2):=
 ⟨(p / 3).toNat,by omega,by omega⟩
theorem GI.ok (g:D4 d) (h:GI d d.2.2.1.length O M N):GOk (O,M,N,()):=by
 have I:=g.n;have B:=g.kd.n1;have J:=g.kd.mkl;have C:=h.lo;have D:=h.lm;have E:=h.ln;have nxt:∀ p:Int,0<=p->p < (O.length:Int)->0 < (ix N p).length/\(∀ q∈ix N p,0<=q/\q < (O.length:Int))/\∀ k:Int,1<=k->k < (ix N p).length->ix (ix N p) (k - 1) < ix (ix N p) k:=fun p b a=>by
  obtain ⟨q,f,m⟩:=zAs (T:=d.2.2.1.length) p b (by omega);have c:=(g.row (q:=(q:Int)) (by omega) (by omega)).2;have j:∀ i:Int,0<=i->i < 2->p=3 * (q:Int)+1+i->0 < (ix N p).length/\(∀ q∈ix N p,0<=q/\q < (O.length:Int))/\∀ k:Int,1<=k->k < (ix N p).length->ix (ix N p) (k - 1) < ix (ix N p) k:=fun i u A e=>by
   have v:=h.a q f i u A;rw [<- e] at v;rw [v];obtain ⟨o,_,F,H⟩:=zxe (x:=3 * ix (ix d.2.2.1 (q:Int)) i) (y:=3 * ix (ix d.2.2.1 (q:Int)) (i+2));have L:=c i u (by omega);have P:=c (i+2) (by omega) (by omega);refine ⟨o,fun z n => ?_,H⟩;rcases (F z).1 n with rfl | rfl<;>omega
  rcases m with e | e | e
  ·rw [e,h.w q f];refine ⟨by simp,fun z n => ?_,fun k k0 o => ?_⟩
   ·simp only [List.mem_cons,List.not_mem_nil,or_false] at n;omega
   ·simp at o;obtain rfl:k=1:=by omega
    show 3 * (q:Int)+1 < 3 * (q:Int)+2;omega
  ·exact j 0 (by omega) (by omega) (by omega)
  ·exact j 1 (by omega) (by omega) (by omega)
 refine ⟨by show 1<=O.length/\O.length<=7000;omega,by show M.length=O.length;omega,by show N.length=O.length;omega,fun p b a => ?_,fun p b a => ?_,fun p b a=>(nxt p b a).1,fun p b a=>(nxt p b a).2.1,fun p b a=>(nxt p b a).2.2⟩
 ·obtain ⟨q,f,m⟩:=zAs (T:=d.2.2.1.length) p b (by have a:p < (O.length:Int):=a;omega);obtain ⟨r,s,t⟩:=h.o q f;show ix O p=0\/ix O p=1;rcases m with e | e | e
  ·rw [e,r];exact .inr rfl
  ·rw [e,s];exact .inl rfl
  ·rw [e,t];exact .inl rfl
 ·obtain ⟨q,f,m⟩:=zAs (T:=d.2.2.1.length) p b (by have a:p < (O.length:Int):=a;omega);obtain ⟨r,s,t⟩:=h.m q f;have w:=g.kd.mok _ (zbc (l:=d.2.2.2.1) (i:=(q:Int)) (by omega) (by omega));have w : ¬ (ix d.2.2.2.1 (q:Int) < 0\/9 < ix d.2.2.2.1 (q:Int)):=w;show 0<=ix M p/\ix M p<=9;rcases m with e | e | e
  ·rw [e,r];omega
  ·rw [e,s];omega
  ·rw [e,t];omega
theorem zAK (h:D4 d):∃ O M N,GI d d.2.2.1.length O M N/\zbL d 0 [] [] []=zbL d (d.2.2.1.length:Int) O M N:=by
 have p:=h.n;have r:=h.kd.mkl;have key:∀ (n T:Nat) (O M:List Int) (N:List (List Int)),T+n=d.2.2.1.length->GI d T O M N->∃ b c e,GI d d.2.2.1.length b c e/\zbL d (T:Int) O M N=zbL d (d.2.2.1.length:Int) b c e:=by
  intro n;induction n with
  | zero=>
   intro T O M N g a;obtain rfl:T=d.2.2.1.length:=by omega
   exact ⟨O,M,N,a,rfl⟩
  | succ n o=>
   intro T O M N g a;have i:=a.lo;have j:=a.lm;have k:=a.ln;obtain ⟨b,c,e,l,m⟩:=o (T+1) _ _ _ (by omega) a.put;refine ⟨b,c,e,l,?_⟩;rw [<- m]
   conv=>lhs;rw [zia];unfold zbF
   rw [if_pos (by simp;omega),zab (by omega),zab (by unfold room;simp;omega),zab (by omega),zab (by unfold room;simp;omega),zab (by unfold fits;omega),zab (by unfold fits;omega),zab (by unfold fits;omega),zab (by unfold fits;omega),zab (by unfold room;simp;omega)];exact zAL h (by omega) (by omega) (by simp;omega)
 exact key d.2.2.1.length 0 [] [] [] (by omega) ⟨rfl,rfl,rfl,fun q f=>by omega,fun q f=>by omega,fun q f=>by omega,fun q f=>by omega⟩
end
section
variable {d:Dt} {win mv:List Int}
def saM (d:Dt) (mv:List Int) (a:Prop) [Decidable a] (q i:Int):Int:=if a then (if 3 * ix (ix d.2.2.1 q) i=ix mv (3 * q+1+i) then 0 else 1) else ix mv (3 * q) - 3 * q - 1
def leM (d:Dt) (mv:List Int) (a:Prop) [Decidable a] (q i:Int):Int:=if a then i+2 * saM d mv a q i else saM d mv a q i+2 * i
def nxM (d:Dt) (mv:List Int) (a:Prop) [Decidable a] (q i:Int):Int:=ix (ix d.2.2.1 q) (leM d mv a q i)
abbrev canP (d:Dt) (win:List Int):Prop:=ix win (3 * d.2.1)=0
def InW (d:Dt) (win:List Int) (q:Int):Prop:=(0<=q/\q < d.2.2.1.length)/\(ix win (3 * q)=0↔canP d win)
structure Sol (d:Dt) (win mv:List Int):Prop where
 hd:D4 d
 lw:win.length=3 * d.2.2.1.length
 lv:mv.length=3 * d.2.2.1.length
 two:∀ p:Int,0<=p->p < 3 * d.2.2.1.length->ix win p=0\/ix win p=1
 st:∀ q,InW d win q->∀ i:Int,0<=i->i < 2->(0<=saM d mv (canP d win) q i/\saM d mv (canP d win) q i<=1)/\InW d win (nxM d mv (canP d win) q i)
variable (hs:Sol d win mv)
include hs
theorem Sol.start:InW d win d.2.1:=⟨hs.hd.kd.st,Iff.rfl⟩
theorem Sol.let {q i:Int} (a:InW d win q) (b:0<=i) (c:i < 2):0<=leM d mv (canP d win) q i/\leM d mv (canP d win) q i < 4:=by
 obtain ⟨⟨e,f⟩,_⟩:=hs.st q a i b c;unfold leM;split<;>omega
theorem zEo:XOk (nxM d mv (canP d win)) (fun _=>0) 2 d.2.1 2327 (InW d win):=
 XOk.int (fun q a=>by have:=a.1;have:=hs.hd.n;omega) hs.start (fun q a t t0 b=>(hs.st q a t t0 (by omega)).2) (fun _ _=>⟨Int.le_refl _,by omega⟩)
omit hs in
theorem zBQ {nx:Int->Int->Int} {s:Int} {l:List Int} {t:Nat} (hl:(xRow nx s l t).1.length<=100000) (c:(xRow nx s l t).2.length=t):zeC (nx s (t:Int)) (xRow nx s l t).1 (iota (xRow nx s l t).1.length) (xRow nx s l t).1=some (ix (xRow nx s l (t+1)).2 (t:Int),(xRow nx s l (t+1)).1,(xRow nx s l (t+1)).1,iota (xRow nx s l (t+1)).1.length):=by
 unfold zeC;cases e:zbv (xRow nx s l t).1 (nx s (t:Int)) with
 | some j=>
  have b:mhas (xRow nx s l t).1 (nx s t)=true:=by unfold mhas;rw [e];rfl
  rw [if_neg (by rw [b];simp),zoJ e,zmy e];have:(t:Int)=((xRow nx s l t).2.length:Int):=by omega
  rw [show ix ((xRow nx s l t).1,(xRow nx s l t).2++[(j:Int)]).2 (t:Int)=(j:Int) from by
   show ix ((xRow nx s l t).2++[(j:Int)]) (t:Int)=_;rw [this,zaB]]
 | none=>
  have a:=zcE.1 e;have b:mhas (xRow nx s l t).1 (nx s t)=false:=by unfold mhas;rw [e];rfl
  rw [if_pos (by rw [b];rfl),zoL a,zmK a,zmx e,zab (by unfold room;simp;omega)];have:(t:Int)=((xRow nx s l t).2.length:Int):=by omega
  rw [show ix ((xRow nx s l t).1++[nx s (t:Int)],(xRow nx s l t).2++[((xRow nx s l t).1.length:Int)]).2 (t:Int)=((xRow nx s l t).1.length:Int) from by
   show ix ((xRow nx s l t).2++[((xRow nx s l t).1.length:Int)]) (t:Int)=_;rw [this,zaB]]
theorem zBz {k:Int} {first:Bool} {f:Int} {R l:List Int} {S2 S3:List (Int×Int×Unit)} {q:Int} (C:InW d win q) (hl:LiOk 2327 (InW d win) l) (M:ix R k=q) (k0:0<=k) (k1:k < 100000) (h2:S2.length<=100000) (h3:S3.length<=100000) {g}:
  zaM d (win,mv,()) k first f R S2 S3 g 0 0 0 0 0 l l (iota l.length)=
   g (k+1) first f (xRow (nxM d mv (canP d win)) q l 2).1 (xRow (nxM d mv (canP d win)) q l 2).1 (iota (xRow (nxM d mv (canP d win)) q l 2).1.length)
    (S2++[(saM d mv (canP d win) q 0,saM d mv (canP d win) q 1,())]) (S3++[(ix (xRow (nxM d mv (canP d win)) q l 2).2 0,ix (xRow (nxM d mv (canP d win)) q l 2).2 1,())]):=by
 have E:=zEo hs;have hn:=hs.hd.n;have S:=hs.lw;have T:=hs.lv;obtain ⟨Z,q1⟩:=C.1;obtain ⟨w0,w1⟩:=hs.hd.row Z q1;have U:=hs.hd.kd.st;obtain ⟨g1,⟨_,g2,_⟩⟩:=zn8 E C hl 1 (by omega);obtain ⟨g3,⟨_,g4,g5⟩⟩:=zn8 E C hl 2 (by omega);have V:=hl.len E;have W:=g1.len E;have step:∀ (i:Nat) (s0 n r u:Int),i < 2->([s0,n].getD i 0=0)->(xRow (nxM d mv (canP d win)) q l i).1.length<=2327->(xRow (nxM d mv (canP d win)) q l i).2.length=i->
   zaM d (win,mv,()) k first f R S2 S3 g (i:Int) s0 n r u (xRow (nxM d mv (canP d win)) q l i).1 (xRow (nxM d mv (canP d win)) q l i).1 (iota (xRow (nxM d mv (canP d win)) q l i).1.length)=
   zaM d (win,mv,()) k first f R S2 S3 g ((i:Int)+1) (([s0,n].set i (saM d mv (canP d win) q (i:Int))).getD 0 0) (([s0,n].set i (saM d mv (canP d win) q (i:Int))).getD 1 0) (([r,u].set i (ix (xRow (nxM d mv (canP d win)) q l (i+1)).2 (i:Int))).getD 0 0) (([r,u].set i (ix (xRow (nxM d mv (canP d win)) q l (i+1)).2 (i:Int))).getD 1 0) (xRow (nxM d mv (canP d win)) q l (i+1)).1 (xRow (nxM d mv (canP d win)) q l (i+1)).1 (iota (xRow (nxM d mv (canP d win)) q l (i+1)).1.length):=by
  intro i s0 n r u N Q O J;obtain ⟨⟨t0,t1⟩,_⟩:=hs.st q C (i:Int) (by omega) (by omega);have lt:=hs.let C (i:=(i:Int)) (by omega) (by omega)
  have wi:=w1 (i:Int) (by omega) (by omega);have o:=zBQ (nx:=nxM d mv (canP d win)) (s:=q) (l:=l) (t:=i) (by omega) J;have w:((i:Int)).toNat=i:=by omega
  have L:∀ (x y v:Int),([(([x,y]:List Int).set i v).getD 0 0,(([x,y]:List Int).set i v).getD 1 0]:List Int)=[x,y].set i v:=fun x y v=>by
   have:i=0\/i=1:=by omega
   rcases this with rfl | rfl<;>rfl
  have P:∀ (x y v:Int),(([x,y]:List Int).set i v).getD i 0=v:=fun x y v=>by
   have:i=0\/i=1:=by omega
   rcases this with rfl | rfl<;>rfl
  have X:∀ (x y:Int),[x,y].getD i 0=0->(([x,y]:List Int).set i 0).getD 0 0=x/\(([x,y]:List Int).set i 0).getD 1 0=y:=fun x y h=>by
   have:i=0\/i=1:=by omega
   rcases this with rfl | rfl
   ·have h:x=0:=h;subst h;exact ⟨rfl,rfl⟩
   ·have h:y=0:=h;subst h;exact ⟨rfl,rfl⟩
  have p:fits ((i:Int)+1):=by unfold fits;omega
  conv=>lhs;rw [zid];unfold zbI zcj
  rw [if_pos (by simp;omega),M];by_cases c:canP d win
  ·rw [if_pos (by simpa using c),zab (by omega),zab (by unfold fits;omega),zab (by unfold fits;omega),zab (by unfold fits;omega),zab (by unfold fits;omega),zab (by show 0<=3 * q+1+(i:Int)/\3 * q+1+(i:Int) < (mv.length:Int);omega)];have D:∀ a b,[a,b]=[s0,n].set i (saM d mv (canP d win) q (i:Int))->zci d k R (i:Int) r u (xRow (nxM d mv (canP d win)) q l i).1 (xRow (nxM d mv (canP d win)) q l i).1 (iota (xRow (nxM d mv (canP d win)) q l i).1.length) (zaM d (win,mv,()) k first f R S2 S3 g) a b=zaM d (win,mv,()) k first f R S2 S3 g ((i:Int)+1) a b (([r,u].set i (ix (xRow (nxM d mv (canP d win)) q l (i+1)).2 (i:Int))).getD 0 0) (([r,u].set i (ix (xRow (nxM d mv (canP d win)) q l (i+1)).2 (i:Int))).getD 1 0) (xRow (nxM d mv (canP d win)) q l (i+1)).1 (xRow (nxM d mv (canP d win)) q l (i+1)).1 (iota (xRow (nxM d mv (canP d win)) q l (i+1)).1.length):=fun a b I=>by
    have z:(i:Int)+2 * saM d mv (canP d win) q (i:Int)=leM d mv (canP d win) q (i:Int):=by unfold leM;rw [if_pos c]
    unfold zci zcj;rw [w,I,P,M,zab (by omega),zab (by omega),zab (by unfold fits;omega),zab (by unfold fits;omega),z,zab (by omega)];refine zaj o ?_;show G (0<=(i:Int)/\(i:Int) < 2) (G (i < 2) (G (fits ((i:Int)+1)) _))=_;rw [zab (by omega),zab N,zab p]
   by_cases H:3 * ix (ix d.2.2.1 q) (i:Int)=ix mv (3 * q+1+(i:Int))
   ·have m:saM d mv (canP d win) q (i:Int)=0:=by unfold saM;rw [if_pos c,if_pos H]
    obtain ⟨A,B⟩:=X s0 n Q;rw [if_neg (by simpa using H)];refine (D s0 n ?_).trans ?_
    ·rw [m,<- L s0 n 0,A,B]
    ·rw [m,A,B]
   ·have m:saM d mv (canP d win) q (i:Int)=1:=by unfold saM;rw [if_pos c,if_neg H]
    rw [if_pos (by simpa using H),zab (by omega),zab (by omega),w];refine (D _ _ ?_).trans ?_
    ·rw [m];exact L s0 n 1
    ·rw [m]
  ·have m:ix mv (3 * q) - 3 * q - 1=saM d mv (canP d win) q (i:Int):=by unfold saM;rw [if_neg c]
   have z:saM d mv (canP d win) q (i:Int)+2 * (i:Int)=leM d mv (canP d win) q (i:Int):=by unfold leM;rw [if_neg c]
   rw [if_neg (by simpa using c),zab (by unfold fits;omega),zab (by show 0<=3 * q/\3 * q < (mv.length:Int);omega),zab (by unfold fits;omega)];show G (fits (ix mv (3 * q) - 3 * q)) (G (fits (ix mv (3 * q) - 3 * q - 1)) _)=_;rw [zab (by unfold fits;omega),zab (by unfold fits;omega),m,w,zab (by omega),zab (by omega),zab (by omega),zab (by omega),zab (by unfold fits;omega),L,P,zab (by unfold fits;omega),z,zab (by omega)];refine zaj o ?_;show G (0<=(i:Int)/\(i:Int) < 2) (G (i < 2) (G (fits ((i:Int)+1)) _))=_;rw [zab (by omega),zab N,zab p]
 have n:=step 0 0 0 0 0 (by omega) rfl (by exact V) rfl;have Y:=step 1 (saM d mv (canP d win) q 0) 0 (ix (xRow (nxM d mv (canP d win)) q l 1).2 0) 0 (by omega) rfl (by exact W) g2;have e0:ix (xRow (nxM d mv (canP d win)) q l 2).2 0=ix (xRow (nxM d mv (canP d win)) q l 1).2 0:=by
  cases e:zbv (xRow (nxM d mv (canP d win)) q l 1).1 (nxM d mv (canP d win) q ((1:Nat):Int)) with
  | some j=>rw [zmy e];exact zan (by omega) (by omega)
  | none=>rw [zmx e];exact zan (by omega) (by omega)
 refine Eq.trans n (Eq.trans Y ?_);show zaM d (win,mv,()) k first f R S2 S3 g 2 (saM d mv (canP d win) q 0) (saM d mv (canP d win) q 1) (ix (xRow (nxM d mv (canP d win)) q l 1).2 0) (ix (xRow (nxM d mv (canP d win)) q l 2).2 1) (xRow (nxM d mv (canP d win)) q l 2).1 (xRow (nxM d mv (canP d win)) q l 2).1 (iota (xRow (nxM d mv (canP d win)) q l 2).1.length)=_;rw [<- e0,zid];unfold zbI zck;rw [if_neg (by decide)]
 have A:room S2 [(saM d mv (canP d win) q 0,saM d mv (canP d win) q 1,())] 16:=by unfold room;simp;omega
 have B:room S3 [(ix (xRow (nxM d mv (canP d win)) q l 2).2 0,ix (xRow (nxM d mv (canP d win)) q l 2).2 1,())] 16:=by unfold room;simp;omega
 have F:fits (k+1):=by unfold fits;omega
 repeat' first | exact G_to A (G_to B (G_to F rfl)) | exact G_to B (G_to A (G_to F rfl)) | refine zcm ?_ ?_ | exact G_to A (G_to F rfl) | exact G_to B (G_to F rfl)
end
section
variable {d:Dt} {win mv:List Int}
abbrev Pr:=Int×Int×Unit
def two (p:Pr) (i:Int):Int:=vget (.int .i64) 2 p i.toNat
structure MachOk (d:Dt) (win mv:List Int) (L:List Int) (S2 S3:List Pr):Prop where
 ne:0 < L.length/\L.length<=2327
 z:ix L 0=d.2.1
 p:∀ k:Int,0<=k->k < L.length->InW d win (ix L k)
 l2:S2.length=L.length
 l3:S3.length=L.length
 say:∀ k:Int,0<=k->k < L.length->∀ i:Int,0<=i->i < 2->two (ix S2 k) i=saM d mv (canP d win) (ix L k) i
 nx:∀ k:Int,0<=k->k < L.length->∀ i:Int,0<=i->i < 2->(0<=two (ix S3 k) i/\two (ix S3 k) i < L.length)/\ix L (two (ix S3 k) i)=nxM d mv (canP d win) (ix L k) i
theorem zAM (hs:Sol d win mv) {b:Bool}:∃ L S2 S3,MachOk d win mv L S2 S3/\zcY d (win,mv,()) 0 b 0 [d.2.1] [d.2.1] [0] [] []=some ((b,0,S2,S3,()),decide (canP d win),0):=by
 have w:=zEo hs;obtain ⟨n,hn,r,o⟩:=zwf w;have key:∀ (f k:Nat) (S2 S3:List Pr),n - k=f->k<=n->S2.length=k->S3.length=k->
   (∀ j:Int,0<=j->j < k->∀ i:Int,0<=i->i < 2->two (ix S2 j) i=saM d mv (canP d win) (ix (xSt (nxM d mv (canP d win)) (fun _=>0) 2 d.2.1 k).1 j) i)->
   (∀ j:Int,0<=j->j < k->∀ i:Int,0<=i->i < 2->two (ix S3 j) i=ix (ix (xSt (nxM d mv (canP d win)) (fun _=>0) 2 d.2.1 k).2.1 j) i)->
   ∃ g h,g.length=n/\h.length=n/\
   (∀ j:Int,0<=j->j < n->∀ i:Int,0<=i->i < 2->two (ix g j) i=saM d mv (canP d win) (ix (xSt (nxM d mv (canP d win)) (fun _=>0) 2 d.2.1 n).1 j) i)/\
   (∀ j:Int,0<=j->j < n->∀ i:Int,0<=i->i < 2->two (ix h j) i=ix (ix (xSt (nxM d mv (canP d win)) (fun _=>0) 2 d.2.1 n).2.1 j) i)/\
   zcY d (win,mv,()) (k:Int) b 0 (xSt (nxM d mv (canP d win)) (fun _=>0) 2 d.2.1 k).1 (xSt (nxM d mv (canP d win)) (fun _=>0) 2 d.2.1 k).1 (iota (xSt (nxM d mv (canP d win)) (fun _=>0) 2 d.2.1 k).1.length) S2 S3=some ((b,0,g,h,()),decide (canP d win),0):=by
  intro f;induction f with
  | zero=>
   intro k S2 S3 P Q l2 A B C;obtain rfl:k=n:=by omega
   refine ⟨S2,S3,l2,A,B,C,?_⟩;rw [zic];unfold zbH;rw [if_neg (by rw [decide_eq_true_iff];omega)]
  | succ f X=>
   intro k S2 S3 P Q l2 A B C;obtain ⟨t,S,y⟩:=zkh w k (fun j v=>r j (by omega));have R:=r k (by omega);have D:=t.p _ (zbc (i:=(k:Int)) (by omega) (by omega));obtain ⟨_,⟨⟨x,u⟩,_,_⟩⟩:=zn8 w D t 2 (by omega);have Y:=y.r;have grow:∀ j:Int,0<=j->j < (xSt (nxM d mv (canP d win)) (fun _=>0) 2 d.2.1 k).1.length->ix (xSt (nxM d mv (canP d win)) (fun _=>0) 2 d.2.1 (k+1)).1 j=ix (xSt (nxM d mv (canP d win)) (fun _=>0) 2 d.2.1 k).1 j:=fun j l s=>by
    rw [show (xSt (nxM d mv (canP d win)) (fun _=>0) 2 d.2.1 (k+1)).1=(xSt (nxM d mv (canP d win)) (fun _=>0) 2 d.2.1 k).1++x from u];exact zan l s
   have E:(xSt (nxM d mv (canP d win)) (fun _=>0) 2 d.2.1 (k+1)).2.1=(xSt (nxM d mv (canP d win)) (fun _=>0) 2 d.2.1 k).2.1++[(xRow (nxM d mv (canP d win)) (ix (xSt (nxM d mv (canP d win)) (fun _=>0) 2 d.2.1 k).1 (k:Int)) (xSt (nxM d mv (canP d win)) (fun _=>0) 2 d.2.1 k).1 2).2]:=rfl;have F:=D.1;have m:∀ (a b:Int) (i:Int),0<=i->i < 2->two (a,b,()) i=if i=0 then a else b:=fun a b i p q=>by
    have:i=0\/i=1:=by omega
    rcases this with rfl | rfl<;>rfl
   obtain ⟨g,h,N,O,I,J,M⟩:=X (k+1) (S2++[(saM d mv (canP d win) (ix (xSt (nxM d mv (canP d win)) (fun _=>0) 2 d.2.1 k).1 (k:Int)) 0,saM d mv (canP d win) (ix (xSt (nxM d mv (canP d win)) (fun _=>0) 2 d.2.1 k).1 (k:Int)) 1,())])
    (S3++[(ix (xRow (nxM d mv (canP d win)) (ix (xSt (nxM d mv (canP d win)) (fun _=>0) 2 d.2.1 k).1 (k:Int)) (xSt (nxM d mv (canP d win)) (fun _=>0) 2 d.2.1 k).1 2).2 0,ix (xRow (nxM d mv (canP d win)) (ix (xSt (nxM d mv (canP d win)) (fun _=>0) 2 d.2.1 k).1 (k:Int)) (xSt (nxM d mv (canP d win)) (fun _=>0) 2 d.2.1 k).1 2).2 1,())])
    (by omega) (by omega) (by simp [l2]) (by simp [A])
    (fun j l s i p q=>by
     rw [grow j l (by omega)];by_cases c:j < k
     ·rw [zan l (by omega)];exact B j l c i p q
     ·have v:j=(S2.length:Int):=by omega
      rw [v,zaB,m _ _ _ p q,l2];have:i=0\/i=1:=by omega
      rcases this with rfl | rfl<;>rfl)
    (fun j l s i p q=>by
     rw [E];by_cases c:j < k
     ·rw [zan l (by omega),zan l (by omega)];exact C j l c i p q
     ·have v:j=(S3.length:Int):=by omega
      have H:(S3.length:Int)=((xSt (nxM d mv (canP d win)) (fun _=>0) 2 d.2.1 k).2.1.length:Int):=by omega
      rw [v,zaB,m _ _ _ p q,H,zaB];have:i=0\/i=1:=by omega
      rcases this with rfl | rfl<;>rfl)
   refine ⟨g,h,N,O,I,J,?_⟩;rw [<- M]
   conv=>lhs;rw [zic];unfold zbH
   rw [if_pos (by rw [decide_eq_true_iff];omega),zab (by omega),zab (by omega),zab F,zBz hs D t rfl (by omega) (by omega) (by omega) (by omega)];rfl
 obtain ⟨S2,S3,N,O,I,J,M⟩:=key n 0 [] [] (by omega) (by omega) rfl rfl (fun j l s=>by omega) (fun j l s=>by omega);obtain ⟨t,S,y⟩:=zkh w n r;have Z:0 < n:=by
  rcases Nat.eq_zero_or_pos n with e | e
  ·rw [e] at o;exact absurd o (by simp [xSt])
  ·exact e
 refine ⟨(xSt (nxM d mv (canP d win)) (fun _=>0) 2 d.2.1 n).1,S2,S3,⟨by omega,y.z,fun k k0 z=>t.p _ (zbc k0 z),by omega,by omega,fun k k0 z=>I k k0 (by omega),fun k k0 z i p q => ?_⟩,M⟩;rw [J k k0 (by omega) i p q];obtain ⟨_,T⟩:=y.row k k0 (by omega);obtain ⟨U,V,W⟩:=T i p (by omega);exact ⟨⟨U,V⟩,W⟩
end
section
variable {b:Bool} {S2 S3:List Pr}
theorem zyH (t:0 < S2.length) (u:S2.length<=20000) (v:S3.length=S2.length)
  (m:∀ k:Int,0<=k->k < S2.length->∀ i:Int,0<=i->i < 2->0<=two (ix S3 k) i/\two (ix S3 k) i < S2.length)
  (hs:∀ k:Int,0<=k->k < S2.length->∀ i:Int,0<=i->i < 2->0<=two (ix S2 k) i/\two (ix S2 k) i<=1)
  (n:b=true->∀ k:Int,0<=k->k < S2.length->two (ix S2 k) 0=two (ix S2 k) 1):zlY (b,0,S2,S3,())=some 0:=by
 have h:∀ (f:Nat) (k:Int),(S2.length:Int) - k=f->0<=k->zhf (b,0,S2,S3,()) k=some 0:=by
  intro f;induction f with
  | zero=>
   intro k d k0;rw [zkS];unfold zcM;rw [if_neg (by rw [decide_eq_true_iff];show ¬ k < (S2.length:Int);omega)]
  | succ f a=>
   intro k d k0;have c:fits (k+1):=by unfold fits;omega
   rw [zkS];unfold zcM zeb;rw [if_pos (by rw [decide_eq_true_iff];show k < (S2.length:Int);omega)];show (if b=true then G (0<=k/\k < (S2.length:Int)) (G _ (G (0<=k/\k < (S2.length:Int)) (G _ (if decide (¬ two (ix S2 k) 0=two (ix S2 k) 1)=true then _ else _)))) else _)=_;cases e:b with
   | true=>
    rw [if_pos rfl,zab (by omega),zab (by decide),zab (by omega),zab (by decide),if_neg (by rw [decide_eq_true_iff,Decidable.not_not];exact n e k k0 (by omega)),zab c];rw [<- e];exact a (k+1) (by omega) (by omega)
   | false=>
    rw [if_neg (by decide),if_neg (by decide),zab c];rw [<- e];exact a (k+1) (by omega) (by omega)
 have j:∀ k:Int,0<=k->k < S2.length->∀ (f:Nat) (i:Int),2 - i=f->0<=i->zdE (b,0,S2,S3,()) k (ze4 (b,0,S2,S3,())) i=ze4 (b,0,S2,S3,()) (k+1):=by
  intro k k0 l f;induction f with
  | zero=>
   intro i o g;rw [zkR];unfold zcL;rw [if_neg (by simp;omega),zab (by unfold fits;omega)]
  | succ f a=>
   intro i o g;obtain ⟨q,r⟩:=m k k0 l i g (by omega);obtain ⟨s0,s⟩:=hs k k0 l i g (by omega);rw [zkR];unfold zcL;rw [if_pos (by simp;omega)];show G (0<=k/\k < (S3.length:Int)) (G _ (if decide (two (ix S3 k) i < 0)=true then _ else G (0<=k/\k < (S3.length:Int)) (G _ (if decide ((S2.length:Int)<=two (ix S3 k) i)=true then _ else G (0<=k/\k < (S2.length:Int)) (G _ (if decide (two (ix S2 k) i < 0)=true then _ else G (0<=k/\k < (S2.length:Int)) (G _ (if decide (1 < two (ix S2 k) i)=true then _ else _))))))))=_;rw [zab (by omega),zab (by omega),if_neg (by simpa using q),zab (by omega),zab (by omega),if_neg (by simpa using r),zab (by omega),zab (by omega),if_neg (by simpa using s0),zab (by omega),zab (by omega),if_neg (by simpa using s),zab (by unfold fits;omega)];exact a (i+1) (by omega) (by omega)
 have p:∀ (f:Nat) (k:Int),(S2.length:Int) - k=f->0<=k->ze4 (b,0,S2,S3,()) k=some 0:=by
  intro f;induction f with
  | zero=>
   intro k d k0;rw [zl1];unfold zc5;rw [if_neg (by rw [decide_eq_true_iff];show ¬ k < (S2.length:Int);omega)];exact h S2.length 0 (by omega) (by omega)
  | succ f a=>
   intro k d k0;rw [zl1];unfold zc5;rw [if_pos (by rw [decide_eq_true_iff];show k < (S2.length:Int);omega),j k k0 (by omega) 2 0 (by omega) (by omega)];exact a (k+1) (by omega) (by omega)
 unfold zlY;rw [if_neg (by rw [decide_eq_true_iff];show ¬ (S2.length:Int) < 1;omega),if_neg (by rw [decide_eq_true_iff];show ¬ 20000 < (S2.length:Int);omega),if_neg (by rw [decide_eq_true_iff,Decidable.not_not];show (S3.length:Int)=(S2.length:Int);omega),if_neg (by rw [decide_eq_true_iff];show ¬ (0:Int) < 0;omega),if_neg (by rw [decide_eq_true_iff];show ¬ (S2.length:Int)<=0;omega)];exact p S2.length 0 (by omega) (by omega)
end
section
variable {d:Dt} {win mv L:List Int} {S2 S3:List Pr} {hh hw:List Int}
def kAt (S3:List Pr) (l:LsT):Nat->Int
 | 0=>0
 | t+1=>two (ix S3 (kAt S3 l t)) (las l t)
def ltr (d:Dt) (win mv L:List Int) (S3:List Pr) (l:LsT) (t:Nat):Int:=leM d mv (canP d win) (ix L (kAt S3 l t)) (las l t)
structure Heard (l:LsT):Prop where
 h1:l.1.length<=60
 h2:l.2.1.length<=60
 h0:0 < l.2.1.length
 b:∀ t,0<=las l t/\las l t < 2
theorem zwY (hM:MachOk d win mv L S2 S3) {l:LsT} (hl:Heard l):∀ t,0<=kAt S3 l t/\kAt S3 l t < L.length
 | 0=>⟨Int.le_refl _,by have:=hM.ne;show (0:Int) < _;omega⟩
 | t+1=>by
  have h:=zwY hM hl t;exact (hM.nx _ h.1 h.2 _ (hl.b t).1 (hl.b t).2).1
theorem kAt_q (hM:MachOk d win mv L S2 S3) {l:LsT} (hl:Heard l) (t:Nat):ix L (kAt S3 l (t+1))=nxM d mv (canP d win) (ix L (kAt S3 l t)) (las l t):=by
 have h:=zwY hM hl t;exact (hM.nx _ h.1 h.2 _ (hl.b t).1 (hl.b t).2).2
structure Out (d:Dt) (win mv L:List Int) (S3:List Pr) (l:LsT) (T:Nat) (o:List Int):Prop where
 len:o.length=T
 at':∀ t:Nat,t < T->ix o (t:Int)=ltr d win mv L S3 l t
theorem Out.put {l:LsT} {T:Nat} {o:List Int} (h:Out d win mv L S3 l T o):Out d win mv L S3 l (T+1) (o++[ltr d win mv L S3 l T]):=by
 have hl:=h.len;refine ⟨by simp [hl],fun t a => ?_⟩;by_cases c:t < T
 ·rw [zan (by omega) (by omega)];exact h.at' t c
 ·obtain rfl:t=T:=by omega
  have e:(t:Int)=(o.length:Int):=by omega
  have:=zaB (l:=o) (x:=ltr d win mv L S3 l t);rw [<- e] at this;exact this
theorem zl3 (hs:Sol d win mv) (hM:MachOk d win mv L S2 S3) {l:LsT} (hl:Heard l) (t:Nat):zjM (!decide (canP d win)) (las l t) (two (ix S2 (kAt S3 l t)) (las l t))=some (ltr d win mv L S3 l t):=by
 have h:=zwY hM hl t;have a:=hl.b t;have b:=hM.p _ h.1 h.2;rw [hM.say _ h.1 h.2 _ a.1 a.2];have e:=(hs.st _ b _ a.1 a.2).1;unfold zjM ltr leM;by_cases c:canP d win
 ·rw [if_neg (by simpa using c),zab (by unfold fits;omega),zab (by unfold fits;omega),if_pos c]
 ·rw [if_pos (by simpa using c),zab (by unfold fits;omega),zab (by unfold fits;omega),if_neg c]
variable (hs:Sol d win mv) (hM:MachOk d win mv L S2 S3) {l:LsT} (hl:Heard l)
include hs hM hl
theorem zDo {r:Int->Int->List Int->Option (List Int×List Int×Unit)}:∀ (f i:Nat) (o:List Int),i+f=l.1.length->Out d win mv L S3 l i o->∃ o',Out d win mv L S3 l l.1.length o'/\zdF (!decide (canP d win),0,S2,S3,()) l (kAt S3 l i) (i:Int) o=zdF (!decide (canP d win),0,S2,S3,()) l (kAt S3 l l.1.length) (l.1.length:Int) o':=by
 intro f;induction f with
 | zero=>
  intro i o c a;obtain rfl:i=l.1.length:=by omega
  exact ⟨o,a,rfl⟩
 | succ f h=>
  intro i o c a;obtain ⟨o',e,g⟩:=h (i+1) _ (by omega) a.put;refine ⟨o',e,?_⟩;rw [<- g];have j:=hl.b i;have k:=zwY hM hl i;have l2:=hM.l2;have m:=hM.l3;have b:=a.len;have n:=hl.h1
  conv=>lhs;rw [zkV];unfold zcN
  rw [zxQ i (by omega),if_pos (by rw [decide_eq_true_iff];omega),zab (by omega),zab (by omega),zab (by show _/\_ < (S2.length:Int);omega),zab (by omega)];refine zaj (zl3 hs hM hl i) ?_;rw [zab (by unfold room;simp;omega),zab (by omega),zab (by show _/\_ < (S3.length:Int);omega),zab (by omega),zab (by unfold fits;omega)];rfl
theorem zBM {k0:Int} {st o0:List Int} {r:Int->List Int->List Int->Option (List Int×List Int×Unit)} (j:Nat) (g:j<=2400):∀ (f i:Nat) (o:List Int),i+f=l.2.1.length->Out d win mv L S3 l (l.1.length+j * l.2.1.length+i) o->∃ o',Out d win mv L S3 l (l.1.length+(j+1) * l.2.1.length) o'/\zct (!decide (canP d win),0,S2,S3,()) l k0 st o0 r (kAt S3 l (l.1.length+j * l.2.1.length+i)) (i:Int) o=r (kAt S3 l (l.1.length+(j+1) * l.2.1.length)) (st.set k0.toNat ((o0.length:Int)+1)) o':=by
 intro f;have q:(j+1) * l.2.1.length=j * l.2.1.length+l.2.1.length:=by rw [Nat.add_mul,Nat.one_mul]
 induction f with
 | zero=>
  intro i o h a;obtain rfl:i=l.2.1.length:=by omega
  have e:l.1.length+j * l.2.1.length+l.2.1.length=l.1.length+(j+1) * l.2.1.length:=by omega
  rw [e] at a;refine ⟨o,a,?_⟩;rw [zjL];unfold zcb;rw [if_neg (by rw [decide_eq_true_iff];omega),e]
 | succ f p=>
  intro i o h a;obtain ⟨o',m,n⟩:=p (i+1) _ (by omega) a.put;refine ⟨o',m,?_⟩;rw [<- n];have s:=hl.b (l.1.length+j * l.2.1.length+i);have t:=zwY hM hl (l.1.length+j * l.2.1.length+i);have l2:=hM.l2;have u:=hM.l3;have b:=a.len;have v:=hl.h1;have k:=hl.h2;have c:j * l.2.1.length<=2400 * 60:=Nat.mul_le_mul g k
  conv=>lhs;rw [zjL];unfold zcb
  rw [<- zEl (l:=l) j i (by omega),if_pos (by rw [decide_eq_true_iff];omega),zab (by omega),zab (by omega),zab (by show _/\_ < (S2.length:Int);omega),zab (by omega)];refine zaj (zl3 hs hM hl _) ?_;rw [zab (by unfold room;simp;omega),zab (by omega),zab (by show _/\_ < (S3.length:Int);omega),zab (by omega),zab (by unfold fits;omega)];rfl
omit hs hM in
theorem zDb {i j:Nat} (e:kAt S3 l (l.1.length+i * l.2.1.length)=kAt S3 l (l.1.length+j * l.2.1.length)):∀ s:Nat,kAt S3 l (l.1.length+i * l.2.1.length+s)=kAt S3 l (l.1.length+j * l.2.1.length+s)/\las l (l.1.length+i * l.2.1.length+s)=las l (l.1.length+j * l.2.1.length+s):=by
 have a:∀ s:Nat,las l (l.1.length+i * l.2.1.length+s)=las l (l.1.length+j * l.2.1.length+s):=fun s=>by
  have:∀ k:Nat,las l (l.1.length+k * l.2.1.length+s)=las l (l.1.length+s):=fun k=>by
   unfold las;rw [if_neg (by omega),if_neg (by omega),show l.1.length+k * l.2.1.length+s - l.1.length=s+k * l.2.1.length by omega,Nat.add_mul_mod_self_right,show l.1.length+s - l.1.length=s by omega]
  rw [this,this]
 intro s;induction s with
 | zero=>exact ⟨e,a 0⟩
 | succ s b=>
  refine ⟨?_,a _⟩;show two (ix S3 (kAt S3 l (l.1.length+i * l.2.1.length+s))) (las l (l.1.length+i * l.2.1.length+s))=two (ix S3 (kAt S3 l (l.1.length+j * l.2.1.length+s))) (las l (l.1.length+j * l.2.1.length+s));rw [b.1,b.2]
structure Stood (S3:List Pr) (l:LsT) (n j:Nat) (st:List Int):Prop where
 len:st.length=n
 inj:∀ a b:Nat,a < b->b < j -> ¬ kAt S3 l (l.1.length+a * l.2.1.length)=kAt S3 l (l.1.length+b * l.2.1.length)
 at':∀ k:Int,0<=k->k < n->(ix st k=0/\∀ i < j,¬ kAt S3 l (l.1.length+i * l.2.1.length)=k)\/∃ i < j,kAt S3 l (l.1.length+i * l.2.1.length)=k/\ix st k=((l.1.length+i * l.2.1.length:Nat):Int)+1
theorem zBL:∀ (f j:Nat) (st o:List Int),j+f=L.length+1->Stood S3 l L.length j st->Out d win mv L S3 l (l.1.length+j * l.2.1.length) o->
  ∃ u w,zc6 (!decide (canP d win),0,S2,S3,()) l (kAt S3 l (l.1.length+j * l.2.1.length)) st o=some (u,w,())/\0 < w.length/\u.length<=200000/\w.length<=200000/\∀ t,las (u,w,()) t=ltr d win mv L S3 l t:=by
 intro f;induction f with
 | zero=>
  intro j st o W g v;exfalso;have:=zcW (l:=(List.range j).map (fun a=>kAt S3 l (l.1.length+a * l.2.1.length))) (n:=L.length) (by
   rw [List.nodup_iff_pairwise_ne,List.pairwise_map];refine (List.pairwise_lt_range (n:=j)).imp_of_mem (fun {a b} Q N p => ?_);exact g.inj a b p (List.mem_range.1 N)) (fun x U=>by
   obtain ⟨a,_,rfl⟩:=List.mem_map.1 U;exact zwY hM hl _)
  simp at this;omega
 | succ f ih=>
  intro j st o W g v;have q:=zwY hM hl (l.1.length+j * l.2.1.length);have y:=g.len;have hol:=v.len;have hn:=hM.ne;have b1:=hl.h1;have X:=hl.h2;have b0:=hl.h0;have P:j * l.2.1.length<=2400 * 60:=Nat.mul_le_mul (by omega) X;rw [zpN];unfold zcX;rw [zab (by omega),zab (by omega)];rcases g.at' _ q.1 q.2 with ⟨e,I⟩ | ⟨i,O,e1,e2⟩
  ·rw [if_pos (by rw [decide_eq_true_iff];exact e),zab (by unfold fits;omega),zab (by omega),zab (by omega)];obtain ⟨o',J,z⟩:=zBM hs hM hl (k0:=kAt S3 l (l.1.length+j * l.2.1.length)) (st:=st) (o0:=o) (r:=zc6 (!decide (canP d win),0,S2,S3,()) l) j (by omega) l.2.1.length 0 o (by omega) v;have z:zct (!decide (canP d win),0,S2,S3,()) l (kAt S3 l (l.1.length+j * l.2.1.length)) st o (zc6 (!decide (canP d win),0,S2,S3,()) l) (kAt S3 l (l.1.length+j * l.2.1.length)) 0 o=_:=z;rw [z];refine ih (j+1) _ o' (by omega) ⟨by rw [List.length_set];exact y,fun a b p N => ?_,fun k k0 V => ?_⟩ J
   ·by_cases c:b < j
    ·exact g.inj a b p c
    ·obtain rfl:b=j:=by omega
     exact I a p
   ·by_cases c:k=kAt S3 l (l.1.length+j * l.2.1.length)
    ·refine .inr ⟨j,by omega,c.symm,?_⟩;rw [c,zak q.1 (by omega),hol]
    ·rw [zam q.1 k0 (fun h=>c h.symm)];rcases g.at' k k0 V with ⟨e',E⟩ | ⟨i,O,e1,e2⟩
     ·refine .inl ⟨e',fun i O => ?_⟩;by_cases Z:i < j
      ·exact E i Z
      ·obtain rfl:i=j:=by omega
       exact fun h=>c h.symm
     ·exact .inr ⟨i,by omega,e1,e2⟩
  ·have Y:i * l.2.1.length+l.2.1.length<=j * l.2.1.length:=by
    have:=Nat.mul_le_mul_right l.2.1.length (show i+1<=j by omega)
    rwa [Nat.add_mul,Nat.one_mul] at this
   have A:=zDb hl e1;have Q:(((l.1.length+i * l.2.1.length:Nat):Int)+1 - 1).toNat=l.1.length+i * l.2.1.length:=by omega
   rw [if_neg (by rw [decide_eq_true_iff];omega),e2,Q,zab (by omega),zab (by omega),zab (by unfold fits;omega),zab (by omega),zab (by omega),zab (by unfold room;simp;omega),zab (by omega),zab (by omega),zab (by unfold room;simp;omega)];refine ⟨_,_,rfl,by simp;omega,by simp;omega,by simp;omega,?_⟩;have H:∀ (m s:Nat),ltr d win mv L S3 l (l.1.length+i * l.2.1.length+(s+m * ((j - i) * l.2.1.length)))=ltr d win mv L S3 l (l.1.length+i * l.2.1.length+s):=fun m=>by
    induction m with
    | zero=>intro s;rw [Nat.zero_mul,Nat.add_zero]
    | succ m M=>
     intro s;rw [<- M s,Nat.add_mul,Nat.one_mul];have B:(j - i) * l.2.1.length=j * l.2.1.length - i * l.2.1.length:=Nat.sub_mul _ _ _;rw [show l.1.length+i * l.2.1.length+(s+(m * ((j - i) * l.2.1.length)+(j - i) * l.2.1.length))=l.1.length+j * l.2.1.length+(s+m * ((j - i) * l.2.1.length)) by omega];obtain ⟨J,z⟩:=A (s+m * ((j - i) * l.2.1.length));unfold ltr;rw [J,z]
   intro t;have B:(j - i) * l.2.1.length=j * l.2.1.length - i * l.2.1.length:=Nat.sub_mul _ _ _;unfold las;have R:(([]:List Int)++((o.drop 0).take (l.1.length+i * l.2.1.length))).length=l.1.length+i * l.2.1.length:=by simp;omega
   have S:((o.drop (l.1.length+i * l.2.1.length)).take (o.length - (l.1.length+i * l.2.1.length))).length=(j - i) * l.2.1.length:=by simp;omega
   show (if t < (([]:List Int)++((o.drop 0).take (l.1.length+i * l.2.1.length))).length then ix (([]:List Int)++((o.drop 0).take (l.1.length+i * l.2.1.length))) (t:Int) else ix ((o.drop (l.1.length+i * l.2.1.length)).take (o.length - (l.1.length+i * l.2.1.length))) (((t - (([]:List Int)++((o.drop 0).take (l.1.length+i * l.2.1.length))).length) % ((o.drop (l.1.length+i * l.2.1.length)).take (o.length - (l.1.length+i * l.2.1.length))).length:Nat):Int))=_;rw [R,S];have get:∀ (F:List Int) (k:Nat),k < F.length->ix F (k:Int)=F[k]?.getD 0:=fun F k q=>by
    rw [zhF (by omega) (by omega)];simp [q]
   by_cases c:t < l.1.length+i * l.2.1.length
   ·rw [if_pos c,<- v.at' t (by omega),get _ t (by rw [R];exact c),get o t (by omega)];simp [c]
   ·rw [if_neg c];have C:0 < (j - i) * l.2.1.length:=by omega
    have D:=Nat.mod_lt (t - (l.1.length+i * l.2.1.length)) C;have T:=Nat.mod_add_div (t - (l.1.length+i * l.2.1.length)) ((j - i) * l.2.1.length);rw [Nat.mul_comm ((j - i) * l.2.1.length)] at T;have:=H ((t - (l.1.length+i * l.2.1.length)) / ((j - i) * l.2.1.length)) ((t - (l.1.length+i * l.2.1.length)) % ((j - i) * l.2.1.length));rw [T,show l.1.length+i * l.2.1.length+(t - (l.1.length+i * l.2.1.length))=t by omega] at this;rw [this,<- v.at' _ (by omega),get _ _ (by rw [S];exact D),get o _ (by omega),List.getElem?_take,if_pos (by omega),List.getElem?_drop]
theorem zwj:∃ u w,zjK (!decide (canP d win),0,S2,S3,()) l=some (u,w,())/\0 < w.length/\u.length<=200000/\w.length<=200000/\∀ t,las (u,w,()) t=ltr d win mv L S3 l t:=by
 obtain ⟨o',j,f⟩:=zDo hs hM hl (r:=fun _ _ _=>none) l.1.length 0 [] (by omega) ⟨rfl,fun t m=>by omega⟩;have l2:=hM.l2;have q:=hM.ne;have h:((S2.length:Int)).toNat=L.length:=by omega
 obtain ⟨u,w,e,c⟩:=zBL hs hM hl (L.length+1) 0 (List.replicate L.length 0) o' (by omega) ⟨by simp,fun a b g n=>by omega,fun k k0 o => .inl ⟨by
  rw [zhF k0 (by simp;omega)];simp,fun i p=>by omega⟩⟩ (by rw [Nat.zero_mul,Nat.add_zero];exact j)
 refine ⟨u,w,?_,c⟩;unfold zjK;have f:zdF (!decide (canP d win),0,S2,S3,()) l 0 0 []=_:=f;show zdF (!decide (canP d win),0,S2,S3,()) l 0 0 []=_;rw [f,zkV];unfold zcN;rw [if_neg (by simp),zab (by show mkOK (S2.length:Int) (S2.length:Int) 8;unfold mkOK;omega)];show zc6 _ l (kAt S3 l l.1.length) (List.replicate ((S2.length:Int)).toNat 0) o'=_;rw [h,<- e,Nat.zero_mul,Nat.add_zero]
end
section
variable {d:Dt} {O M:List Int} {N:List (List Int)} {win mv:List Int}
theorem turn (B:D4 d) (k:GI d d.2.2.1.length O M N) (hw:Won (O,M,N,()) win mv) {q:Int} (H:InW d win q) {i:Int} (l:0<=i) (m:i < 2):
  ((0<=saM d mv (canP d win) q i/\saM d mv (canP d win) q i<=1)/\InW d win (nxM d mv (canP d win) q i))/\
  ∃ r,ix M r=9/\(r∈ix N (3 * q)/\(ix O (3 * q)=ix win (3 * d.2.1)->r=ix mv (3 * q)))/\(3 * nxM d mv (canP d win) q i∈ix N r/\(ix O r=ix win (3 * d.2.1)->3 * nxM d mv (canP d win) q i=ix mv r)):=by
 obtain ⟨⟨S,T⟩,hqw⟩:=H;have v:=k.lo;have L:=B.kd.st;have len:((O,M,N,()):GM).1.length=3 * d.2.2.1.length:=v;obtain ⟨V,row⟩:=B.row S T;have P:((q.toNat:Nat):Int)=q:=by omega
 obtain ⟨U,C,D⟩:=k.o q.toNat (by omega);obtain ⟨_,E,F⟩:=k.m q.toNat (by omega);have w:=k.w q.toNat (by omega);have x:=k.a q.toNat (by omega);rw [P] at U C D E F w x;have n:∀ j:Int,0<=j->j < 2->ix O (3 * q+1+j)=0/\ix M (3 * q+1+j)=9:=fun j I J=>by
  have:j=0\/j=1:=by omega
  rcases this with rfl | rfl
  ·rw [Int.add_zero];exact ⟨C,E⟩
  ·rw [show 3 * q+1+1=3 * q+2 by omega];exact ⟨D,F⟩
 have f:∀ j:Int,0<=j->j < 2->3 * q+1+j∈ix N (3 * q):=fun j I J=>by
  rw [w];simp only [List.mem_cons,List.not_mem_nil,or_false];omega
 by_cases c:canP d win
 ·have Q:ix win (3 * d.2.1)=0:=c;have y:=hqw.2 c;have o:=(hw.oth (3 * q) (by omega) (by omega) (by show ¬ ix O (3 * q)=_;omega)).2;have p:ix win (3 * q+1+i)=0:=by
   rw [<- y];exact o _ (f i l m)
  have own:=hw.own (3 * q+1+i) (by omega) (by omega) (by show ix O (3 * q+1+i)=_;rw [(n i l m).1,p]);have b:ix mv (3 * q+1+i)∈ix N (3 * q+1+i):=own.1;have a:=own.2;rw [p] at a;have mem:=b;rw [x i l m] at mem;have z:=(zxe.2.2.1 _).1 mem;have g:0<=saM d mv (canP d win) q i/\saM d mv (canP d win) q i<=1:=by
   unfold saM;rw [if_pos c];split<;>omega
  have h:3 * nxM d mv (canP d win) q i=ix mv (3 * q+1+i):=by
   unfold nxM leM;rw [if_pos c];unfold saM;rw [if_pos c];by_cases u:3 * ix (ix d.2.2.1 q) i=ix mv (3 * q+1+i)
   ·rw [if_pos u,Int.mul_zero,Int.add_zero];exact u
   ·rw [if_neg u,Int.mul_one];exact (z.resolve_left (fun e=>u e.symm)).symm
  have le:0<=leM d mv (canP d win) q i/\leM d mv (canP d win) q i < 4:=by
   unfold leM;rw [if_pos c];omega
  refine ⟨⟨g,row _ le.1 le.2,?_⟩,3 * q+1+i,(n i l m).2,⟨f i l m,fun e=>by omega⟩,by rw [h];exact b,fun _=>h⟩;rw [h];exact ⟨fun _=>c,fun _=>a⟩
 ·have R:ix win (3 * d.2.1)=1:=(hw.two (3 * d.2.1) (by omega) (by omega)).resolve_left c;have A:ix win (3 * q)=1:=(hw.two (3 * q) (by omega) (by omega)).resolve_left (fun e=>c (hqw.1 e));have own:=hw.own (3 * q) (by omega) (by omega) (by show ix O (3 * q)=_;omega);have b:ix mv (3 * q)∈ix N (3 * q):=own.1;have a:=own.2;rw [A] at a;have mem:=b;rw [w] at mem;simp only [List.mem_cons,List.not_mem_nil,or_false] at mem;have g:0<=saM d mv (canP d win) q i/\saM d mv (canP d win) q i<=1:=by
   unfold saM;rw [if_neg c];omega
  have s:ix mv (3 * q)=3 * q+1+saM d mv (canP d win) q i:=by unfold saM;rw [if_neg c];omega
  have le:leM d mv (canP d win) q i=saM d mv (canP d win) q i+2 * i:=by unfold leM;rw [if_neg c]
  have t:3 * nxM d mv (canP d win) q i∈ix N (3 * q+1+saM d mv (canP d win) q i):=by
   rw [x _ g.1 (by omega)];refine (zxe.2.2.1 _).2 ?_;unfold nxM;rw [le];have:i=0\/i=1:=by omega
   rcases this with rfl | rfl
   ·rw [Int.mul_zero,Int.add_zero];exact .inl rfl
   ·exact .inr rfl
  rw [s] at a;have o:=(hw.oth (3 * q+1+saM d mv (canP d win) q i) (by omega) (by omega) (by show ¬ ix O _=_;rw [(n _ g.1 (by omega)).1];omega)).2 _ t;refine ⟨⟨g,row _ (by omega) (by omega),?_⟩,3 * q+1+saM d mv (canP d win) q i,(n _ g.1 (by omega)).2,⟨f _ g.1 (by omega),fun _=>s.symm⟩,t,fun e => ?_⟩
  ·exact ⟨fun e=>by omega,fun e=>absurd e c⟩
  ·rw [(n _ g.1 (by omega)).1] at e;omega
theorem Sol.ofWon (a:D4 d) (b:GI d d.2.2.1.length O M N) (hw:Won (O,M,N,()) win mv):Sol d win mv:=by
 have len:((O,M,N,()):GM).1.length=3 * d.2.2.1.length:=b.lo;have j:=hw.lw;have k:=hw.lv;exact ⟨a,by omega,by omega,fun p c h=>hw.two p c (by omega),fun q e i f g=>(turn a b hw e f g).1⟩
structure Play (d:Dt) (win mv:List Int) (Q x:Nat->Int):Prop where
 z:Q 0=d.2.1
 b:∀ t,0<=x t/\x t < 2
 s:∀ t,Q (t+1)=nxM d mv (canP d win) (Q t) (x t)
variable {Q x:Nat->Int}
theorem Play.inw (hs:Sol d win mv) (h:Play d win mv Q x):∀ t,InW d win (Q t)
 | 0=>by rw [h.z];exact hs.start
 | t+1=>by rw [h.s];exact (hs.st _ (h.inw hs t) _ (h.b t).1 (h.b t).2).2
theorem Play.rch (c:D4 d) (e:GI d d.2.2.1.length O M N) (hw:Won (O,M,N,()) win mv) (h:Play d win mv Q x) {m:Int} (i:m<=9) (s:Nat):∀ n:Nat,(∀ u,s < u->u < s+n+1->m<=ix M (3 * Q u))->Rch (fun a b=>b∈ix N a/\(ix O a=ix win (3 * d.2.1)->b=ix mv a)) (fun b=>m<=ix M b) (3 * Q s) (3 * Q (s+n+1))
 | 0,_=>by
  obtain ⟨r,l,g,f⟩:=(turn c e hw (h.inw (Sol.ofWon c e hw) s) (h.b s).1 (h.b s).2).2;rw [<- h.s] at f;exact Rch.more (Rch.one g) (by show m<=ix M r;omega) f
 | n+1,hu=>by
  have k:=Play.rch c e hw h i s n (fun u j o=>hu u j (by omega));obtain ⟨r,l,g,f⟩:=(turn c e hw (h.inw (Sol.ofWon c e hw) (s+n+1)) (h.b (s+n+1)).1 (h.b (s+n+1)).2).2;rw [<- h.s] at f;exact Rch.more (Rch.more k (hu (s+n+1) (by omega) (by omega)) g) (by show m<=ix M r;omega) f
theorem Play.least (s:D4 d) (p:GI d d.2.2.1.length O M N) (hw:Won (O,M,N,()) win mv) (h:Play d win mv Q x) {m:Int} (B:zqf (fun t=>ix d.2.2.2.1 (Q (t+1))) m) (C:0<=m) (D:m<=9):m % 2=0↔canP d win:=by
 have hs:=Sol.ofWon s p hw;have len:((O,M,N,()):GM).1.length=3 * d.2.2.1.length:=p.lo;have E:=s.kd.st;have mk:∀ t,ix M (3 * Q t)=ix d.2.2.2.1 (Q t):=fun t=>by
  have R:=(h.inw hs t).1;have F:(((Q t).toNat:Nat):Int)=Q t:=by omega
  have:=(p.m (Q t).toNat (by omega)).1
  rwa [F] at this
 have e:Int.tmod m 2=ix win (3 * d.2.1):=Classical.byContradiction fun v=>by
  obtain ⟨o,n,J⟩:=B;obtain ⟨r,U,g⟩:=zr9 (f:=fun t=>(Q (t+1)).toNat) d.2.2.1.length o (fun t _=>by have:=(h.inw hs (t+1)).1;show (Q (t+1)).toNat < _;omega);obtain ⟨c,V,q,y⟩:=g n;obtain ⟨j,W,X,z⟩:=g (c+1);have S:=(h.inw hs (c+1)).1;have T:=(h.inw hs (j+1)).1;have y:(Q (c+1)).toNat=r:=y;have z:(Q (j+1)).toNat=r:=z;have H:Q (j+1)=Q (c+1):=by omega
  have q:ix d.2.2.2.1 (Q (c+1))=m:=q;have k:ix win (3 * Q (c+1))=ix win (3 * d.2.1):=by
   have A:=(h.inw hs (c+1)).2;have l:=hw.two (3 * Q (c+1)) (by omega) (by omega);have i:=hw.two (3 * d.2.1) (by omega) (by omega);rcases i with i | i
   ·rw [i];exact A.2 i
   ·rcases l with l | l
    ·have:=A.1 l;have:ix win (3 * d.2.1)=0:=this;omega
    ·rw [l,i]
  have w:=hw.cyc (3 * Q (c+1)) (by omega) (by omega) (by
   show ¬ Int.tmod (ix M (3 * Q (c+1))) 2=_;rw [mk,q,k];exact v)
  refine w ?_;show Rch (fun a b=>b∈ix N a/\(ix O a=ix win (3 * Q (c+1))->b=ix mv a)) (fun b=>ix M (3 * Q (c+1))<=ix M b) (3 * Q (c+1)) (3 * Q (c+1));rw [k,mk,q];have:=h.rch s p hw D (c+1) (j - c - 1) (fun u L P=>by
   rw [mk];have:=J (u - 1) (by omega);have this:m<=ix d.2.2.2.1 (Q (u - 1+1)):=this
   rwa [show u - 1+1=u by omega] at this)
  rw [show c+1+(j - c - 1)+1=j+1 by omega,H] at this;exact this
 have I:Int.tmod m 2=m % 2:=Int.tmod_eq_emod_of_nonneg C;rw [I] at e;show m % 2=0↔ix win (3 * d.2.1)=0;omega
end
theorem zBw {M:Nat->Int} {K:Int} (h:∀ t,0<=M t/\M t < K):∃ m,zqf M m/\0<=m/\m < K:=by
 have key:∀ (d:Nat) (lo:Int),(K - lo).toNat=d->0<=lo->(∃ n,∀ t,n<=t->lo<=M t)->∃ m,zqf M m/\0<=m/\m < K:=by
  intro d;induction d with
  | zero=>
   rintro lo hd h0 ⟨n,hn⟩;have:=hn n (Nat.le_refl _);have:=h n;omega
  | succ d f=>
   rintro lo hd h0 ⟨n,hn⟩;by_cases c:Infn (fun t=>M t=lo)
   ·obtain ⟨t,_,e⟩:=c 0;have:=h t;exact ⟨lo,⟨c,n,hn⟩,h0,by omega⟩
   ·obtain ⟨b,a⟩:=Classical.not_forall.1 c;refine f (lo+1) (by omega) (by omega) ⟨max n b,fun t g => ?_⟩;have i:=hn t (by omega);have j : ¬ M t=lo:=fun e=>a ⟨t,by omega,e⟩
    omega
 exact key _ 0 rfl (Int.le_refl _) ⟨0,fun t _=>(h t).1⟩
section
variable {a:Au}
theorem zrb (hl:AuLen a):zkA a=some (if autE a=0 then (if 4 < a.2.1 then 1 else 0) else autE a):=by
 unfold zkA;refine zaj (zgR hl) ?_;by_cases c:autE a=0
 ·rw [if_pos c,if_neg (by simpa using c)];by_cases b:4 < a.2.1
  ·rw [if_pos b,if_pos (by simpa using b)]
  ·rw [if_neg b,if_neg (by simpa using b)]
 ·rw [if_neg c,if_pos (by simpa using c)]
def synE (a:Au):Int:=if autE a=0 then (if a.1=4 then (if 4 < a.2.1 then 1 else 0) else 3) else autE a
theorem zv6 (h:synE a=0):autE a=0/\a.1=4 /\ ¬ 4 < a.2.1:=by
 unfold synE at h;by_cases c:autE a=0
 ·rw [if_pos c] at h;by_cases b:a.1=4
  ·rw [if_pos b] at h;by_cases d:4 < a.2.1
   ·rw [if_pos d] at h;omega
   ·exact ⟨c,b,d⟩
  ·rw [if_neg b] at h;omega
 ·rw [if_neg c] at h;exact absurd h c
theorem zyf (e:AuLen a) (h : ¬ synE a=0):zd7 a=some ((false,0,[],[],()),false,synE a):=by
 have f:(a.1,a.2.1,a.2.2.1,a.2.2.2.1,a.2.2.2.2.1,())=a:=rfl;unfold zd7;rw [f];refine zaj (zgR e) ?_;unfold synE at h ⊢;by_cases c:autE a=0
 ·rw [if_pos c] at h ⊢;rw [if_neg (by simpa using c)];by_cases b:a.1=4
  ·rw [if_pos b] at h ⊢;rw [if_neg (by simpa using b)];by_cases d:4 < a.2.1
   ·rw [if_pos d,if_pos (by simpa using d)]
   ·rw [if_neg d] at h;exact absurd rfl h
  ·rw [if_neg b,if_pos (by simpa using b)]
 ·rw [if_neg c,if_pos (by simpa using c)]
theorem zyb {d:Dt} {win mv:List Int} {Q x:Nat->Int} (h:Play d win mv Q x) {l:LsT} (hl:∀ t,las l t=leM d mv (canP d win) (Q t) (x t)):∀ t,wlk d.2.2.1 d.2.1 (preW l t)=Q t
 | 0=>h.z.symm
 | t+1=>by
  rw [zvM,zyX,zyb h hl t,h.s,hl];rfl
theorem zwq (F:AuLen a) (h:synE a=0):∃ (can:Bool) (S2 S3:List Pr),zd7 a=some ((!can,0,S2,S3,()),can,0)/\zlY (!can,0,S2,S3,())=some 0/\
  ∀ l:LsT,Heard l->∃ u w,zjK (!can,0,S2,S3,()) l=some (u,w,())/\0 < w.length/\u.length<=200000/\w.length<=200000/\(RefA a (las (u,w,())) u.length w.length↔can=true):=by
 have I:(a.1,a.2.1,a.2.2.1,a.2.2.2.1,a.2.2.2.2.1,())=a:=rfl;obtain ⟨c,x,Q⟩:=zv6 h;have J:=zu3 c;obtain ⟨o,bl,s,run,dok,j,Y,Z,y,z,A⟩:=zwD J (by omega);have f:D4 o:=⟨dok,by rw [Y,x],j⟩;obtain ⟨O,M,N,B,C⟩:=zAK f;obtain ⟨win,mv,n,hw⟩:=zwm (B.ok f);have hs:=Sol.ofWon f B hw;obtain ⟨L,S2,S3,hM,D⟩:=zAM hs (b := !decide (canP o win));have S:=hs.lw;have T:=f.kd.st;have hn:=hM.ne;have l2:=hM.l2;have l3:=hM.l3;have U:=f.n;refine ⟨decide (canP o win),S2,S3,?_,?_,fun l hl => ?_⟩
 ·unfold zd7;rw [I];refine zaj (zgR F) ?_;rw [if_neg (by simpa using c),if_neg (by simpa using x),if_neg (by simpa using Q)];refine zaj (show zo8 a=some (o,0) from ?_) ?_
  ·unfold zo8;rw [I];refine zaj (zrb F) ?_;rw [if_pos c,if_neg Q,if_neg (by simp)];exact zaj run rfl
  show zbL o 0 [] [] []=_;rw [C,zia];unfold zbF;rw [if_neg (by simp)];refine zaj n ?_;show G (fits (3 * o.2.1)) (G (0<=3 * o.2.1/\3 * o.2.1 < (win.length:Int)) (zcY o (win,mv,()) 0 (!decide (canP o win)) 0 [o.2.1] [o.2.1] [0] [] []))=_;rw [zab (by unfold fits;omega),zab (by omega),D]
 ·refine zyH (by omega) (by omega) (by omega) (fun k k0 H i p q => ?_) (fun k k0 H i p q => ?_) (fun R k k0 H => ?_)
  ·have:=(hM.nx k k0 (by omega) i p q).1;omega
  ·rw [hM.say k k0 (by omega) i p q];exact (hs.st _ (hM.p k k0 (by omega)) i p q).1
  ·rw [hM.say k k0 (by omega) 0 (by omega) (by omega),hM.say k k0 (by omega) 1 (by omega) (by omega)];have P : ¬ canP o win:=by simpa using R
   unfold saM;rw [if_neg P,if_neg P]
 ·obtain ⟨u,w,e,w0,lu,lw,d⟩:=zwj hs hM hl;refine ⟨u,w,e,w0,lu,lw,?_⟩;have r:Play o win mv (fun t=>ix L (kAt S3 l t)) (las l):=⟨hM.z,hl.b,fun t=>kAt_q hM hl t⟩;have lt:∀ t,0<=las (u,w,()) t/\las (u,w,()) t < 4:=fun t=>by
   rw [d];exact hs.let (r.inw hs t) (hl.b t).1 (hl.b t).2
  have v:=zyb r d;have g:mkAt o (u,w,())=fun t=>ix o.2.2.2.1 (ix L (kAt S3 l (t+1))):=funext fun t=>by
   unfold mkAt;rw [v]
  have mb:∀ t,0<=mkAt o (u,w,()) t/\mkAt o (u,w,()) t < 10:=fun t=>by
   rw [g];have V:=(r.inw hs (t+1)).1;have:=z _ (zbc (l:=o.2.2.2.1) V.1 (by have:=f.kd.mkl;omega));show 0<=ix o.2.2.2.1 (ix L (kAt S3 l (t+1)))/\ix o.2.2.2.1 (ix L (kAt S3 l (t+1))) < 10;omega
  obtain ⟨m,E,m0,m10⟩:=zBw mb;have W:=zxh J (by omega) Z y A (l:=(u,w,())) w0 (by rw [x];exact lt) E;rw [g] at E;have X:=r.least f B hw E m0 (by omega);rw [decide_eq_true_iff];exact W.symm.trans X
open Classical in
theorem zEm (f:AuLen a) (b:LsT):∃ r,zd7 a=some r/\zcK a b r.1 r.2.1 r.2.2 (synE a)=some true:=by
 have m:(a.1,a.2.1,a.2.2.1,a.2.2.2.1,a.2.2.2.2.1,())=a:=rfl;by_cases h:synE a=0
 ·obtain ⟨n,S2,S3,e,o,p⟩:=zwq f h;refine ⟨_,e,?_⟩;unfold zcK;rw [if_neg (by simpa using h)];refine zaj o ?_;rw [if_neg (by simp),if_neg (by simp),if_neg (by simp)];refine zaj (show zoY 2 b=some (lasE 2 b) from zuK) ?_;by_cases c:lasE 2 b=0
  ·rw [if_neg (by simpa using c)];obtain ⟨q,s,k⟩:=zz7 c;have g:=zvF q;have j:=zvF s;obtain ⟨u,w,t,w0,x,y,v⟩:=p b ⟨by have:=g.2.1;omega,by have:=j.2.1;omega,k,las_b k g.2.2 j.2.2⟩;refine zaj t ?_;rw [m];refine zaj (zwg (l:=(u,w,())) (zu3 (zv6 h).1) (show u.length<=4000000 by omega) rfl (show w.length<=4000000 by omega) rfl w0 (fun i d=>zxQ i d) (fun i d=>zBv i d)) ?_;rw [Option.some.injEq,decide_eq_true_iff,Bool.eq_iff_iff,decide_eq_true_iff];exact v
  ·rw [if_pos (by simpa using c)]
 ·refine ⟨_,zyf f h,?_⟩;unfold zcK;rw [if_pos (by simpa using h),if_pos (by simp),if_pos (by simp),if_pos (by simp),if_pos (by simp),zab (by unfold fits;simp)];simp
theorem law_true (a:Au) (l:List Int×List Int×Unit) (g:Sml (.pair (.int .i64) (.pair (.int .i64) (.pair (.list (.int .i64)) (.pair (.list (.pair (.int .i64) (.pair (.int .i64) (.pair (.int .i64) .unit)))) (.pair (.list (.int .i64)) .unit))))) a) (sl:Sml (.pair (.list (.int .i64)) (.pair (.list (.int .i64)) .unit)) l):zgU a l=some true:=by
 have i:(a.1,a.2.1,a.2.2.1,a.2.2.2.1,a.2.2.2.2.1,())=a:=rfl;have j:a.2.2.1.length * 8<=140737488351232:=g.2.2.1.1;have k:a.2.2.2.2.1.length * 8<=140737488351232:=g.2.2.2.2.1.1;have h:AuLen a:=⟨by omega,by omega⟩;obtain ⟨r,e,b⟩:=zEm h l;unfold zgU;rw [i];refine zaj e (zaj (zuM h) ?_);unfold synE at b;unfold zeK zeL zeM;by_cases c:autE a=0
 ·rw [if_pos c] at b;rw [if_pos (by simpa using c)];by_cases d:a.1=4
  ·rw [if_pos d] at b;rw [if_neg (by simpa using d),if_pos (by simpa using c)];by_cases f:4 < a.2.1
   ·rw [if_pos f] at b;rw [if_pos (by simpa using f)];exact b
   ·rw [if_neg f] at b;rw [if_neg (by simpa using f),c];exact b
  ·rw [if_neg d] at b;rw [if_pos (by simpa using d),if_neg (by decide),if_neg (by decide)];exact b
 ·rw [if_neg c] at b;rw [if_neg (by simpa using c),if_neg (by decide),if_neg (by simpa using c),if_neg (by decide)];exact b
end
end
end Go.Proofs.Ytiegbkgnhjncdaa.synthAnswersW
