import Derived.Test.YticelcjhokgcbaaSafraWithinP
set_option maxHeartbeats 1000000
set_option maxRecDepth 20000
set_option linter.unusedSimpArgs false
set_option linter.unusedVariables false
set_option linter.unusedSectionVars false
namespace Go.Proofs.Yticelcjhokgcbaa.safraWithinW
open Go Go.Ab
noncomputable section
section
variable {a:Au} {u:Nat->Int} {h len:Nat} {T:Nat->Tre} {D:Nat->SD} {M:Nat->Int}
theorem Pth.wt {s:Nat} {p:Int} {t:Nat} {q:Int} (hp:Pth (fun t p q=>StA a p (u t) q) s p t q):Wt a u (t - s) s p q:=by
 induction hp with
 | nil=>rw [Nat.sub_self];rfl
 | @snoc t q r h1 e ih=>
  have:=Pth.le h1;rw [show t+1 - s=(t - s)+1 by omega]
  exact Wt.snoc.2 ⟨q,ih,by rw [show s+(t - s)=t by omega];exact e⟩
theorem zwd (ha:AuOk a) (ha4:a.2.1<=4) (hl:0 < len) (hu:∀ t,h<=t->u (t+len)=u t) (hR:Row (fun t p q=>StA a p (u t) q) (fun q=>q∈a.2.2.2.2.1) T D M) (t0:(T 0).n<=1) (l0:∀ q,0 < (T 0).n->(T 0).L 0 q->q∈a.2.2.1) {m:Int} (hm:zmD M m) (he:m % 2=0):zBk a u h len:=by
 obtain ⟨k,t1,hs,hfl⟩:=hR.even hm he;obtain ⟨r,hr,hinf⟩:=zrc (f:=fun t=>(t+1) % len) len hfl (fun t _=>Nat.mod_lt _ hl)
 obtain ⟨s,s0,slt,sP⟩:=zBN hinf (max t1 h);have smono:∀ i,s 0<=s i:=fun i=>by
  rcases Nat.eq_zero_or_pos i with c | c
  ·subst c;exact Nat.le_refl _
  ·exact Nat.le_of_lt (zA8 slt c)
 obtain ⟨g1,_⟩:=hs (s 4+1) (by have:=smono 4;omega)
 obtain ⟨q4,hq4⟩:=(hR.v (s 4+1)).ne k g1;have back:∀ i q,(T (s (i+1)+1)).L k q->∃ p,(T (s i+1)).L k p/\PthF (fun t p q=>StA a p (u t) q) (fun q=>q∈a.2.2.2.2.1) (s i+1) p (s (i+1)+1) q:=fun i q hq=>hR.flash hs (by have:=smono i;omega) (sP i).1 (slt i) (sP (i+1)).1 hq
 obtain ⟨q3,hq3,w3⟩:=back 3 q4 hq4;obtain ⟨q2,hq2,w2⟩:=back 2 q3 hq3;obtain ⟨q1,hq1,w1⟩:=back 1 q2 hq2;obtain ⟨q0,hq0,w0⟩:=back 0 q1 hq1;have bnd:∀ i q,(T (s i+1)).L k q->0<=q/\q < 4:=fun i q hq=>by
  obtain ⟨p,j,_,_,hp⟩:=hR.reach _ _ (hs (s i+1) (by have:=smono i;omega)).1 q hq
  cases hp with
  | snoc h1 e=>have:=(ha.sb _ e).2.2;simp only at this;omega
 let f:Nat->Int:=fun i=>match i with | 0=>q0 | 1=>q1 | 2=>q2 | 3=>q3 | _=>q4
 have hf:∀ i,i<=4->(T (s i+1)).L k (f i):=fun i hi=>by
  match i,hi with
  | 0,_=>exact hq0
  | 1,_=>exact hq1
  | 2,_=>exact hq2
  | 3,_=>exact hq3
  | 4,_=>exact hq4
 have hw:∀ i,i < 4->PthF (fun t p q=>StA a p (u t) q) (fun q=>q∈a.2.2.2.2.1) (s i+1) (f i) (s (i+1)+1) (f (i+1)):=fun i hi=>by
  match i,hi with
  | 0,_=>exact w0
  | 1,_=>exact w1
  | 2,_=>exact w2
  | 3,_=>exact w3
 obtain ⟨i,j,hij,hj,e⟩:=pig (K:=4) (f:=fun i=>if i<=4 then (f i).toNat else 0) (fun i hi=>by
  show (if i<=4 then (f i).toNat else 0) < 4
  rw [if_pos hi];have:=bnd i _ (hf i hi);omega)
 have e:(if i<=4 then (f i).toNat else 0)=(if j<=4 then (f j).toNat else 0):=e
 rw [if_pos (by omega),if_pos (by omega)] at e
 have e:f i=f j:=by have:=bnd i _ (hf i (by omega));have:=bnd j _ (hf j hj);omega
 have far:∀ d,i+1+d<=4->PthF (fun t p q=>StA a p (u t) q) (fun q=>q∈a.2.2.2.2.1) (s i+1) (f i) (s (i+1+d)+1) (f (i+1+d)):=fun d=>by
  induction d with
  | zero=>intro _;exact hw i (by omega)
  | succ d ih=>intro hd;exact (ih (by omega)).trans (hw (i+1+d) (by omega)).pth
 have all:=far (j - (i+1)) (by omega)
 rw [show i+1+(j - (i+1))=j by omega,<- e] at all
 obtain ⟨c,x,hc,c1,hx,c2⟩:=all;have hc2:=c2.le;obtain ⟨p0,j0,hj0,hp0,hp⟩:=hR.reach _ _ (hs (s i+1) (by have:=smono i;omega)).1 _ (hf i (by omega))
 have hj0:j0=0:=by omega
 subst hj0;have hsij:=zA8 slt hij;have mods:(s i+1) % len=(s j+1) % len:=by rw [(sP i).2,(sP j).2]
 obtain ⟨b,hb⟩:∃ b,s j+1=s i+1+b * len:=by
  refine ⟨(s j+1) / len - (s i+1) / len,?_⟩
  have e1:=Nat.div_add_mod (s i+1) len;have e2:=Nat.div_add_mod (s j+1) len;have:(s i+1) / len<=(s j+1) / len:=Nat.div_le_div_right (by omega)
  rw [Nat.sub_mul,Nat.mul_comm _ len,Nat.mul_comm _ len];have:=Nat.mul_le_mul_left len this;omega
 have b1:1<=b:=by
  rcases Nat.eq_zero_or_pos b with c | c
  ·subst c;rw [Nat.zero_mul] at hb;omega
  ·exact c
 have hc0:h<=s i+1:=by have:=smono i;omega
 have k1:Wt a u c 0 p0 x:=by
  have:=(hp.trans c1).wt
  rwa [Nat.sub_zero] at this
 have k2:Wt a u (s j+1 - c) c x (f i):=c2.wt;have k3:Wt a u (c - (s i+1)) (s j+1) (f i) x:=by rw [hb];exact (Wt.shifts hu hc0 b).2 c1.wt
 have k4:=k2.comp k3 (by omega)
 rw [show s j+1 - c+(c - (s i+1))=b * len by omega] at k4
 exact ⟨p0,l0 p0 (by omega) hp0,c,x,k1,hx,by omega,b,b1,k4⟩
theorem zzy (ha:AuOk a) (ha4:a.2.1<=4) (hl:0 < len) (hu:∀ t,h<=t->u (t+len)=u t) (hR:Row (fun t p q=>StA a p (u t) q) (fun q=>q∈a.2.2.2.2.1) T D M) (t0:(T 0).n<=1) (l0:∀ q,0 < (T 0).n->((T 0).L 0 q↔q∈a.2.2.1)) (l1:∀ q∈a.2.2.1,0 < (T 0).n) (h4:∀ t,(T t).n<=4) {m:Int} (hm:zmD M m):m % 2=0↔RefA a u h len:=by
 rw [zw2 hl hu];constructor
 ·exact zwd ha ha4 hl hu hR t0 (fun q hq hh=>(l0 q hq).1 hh) hm
 ·intro hh;obtain ⟨r,⟨r0,hr⟩,hF⟩:=(zwY ha hl hu).1 hh;have:=l1 _ r0;exact hR.odd (fun t p q e=>by have:=(ha.sb _ e).2.2;simp only at this;omega) h4 (by omega) ((l0 _ this).2 r0) hr hF hm
end
def B4 (s:Int):Prop:=0<=s/\s < 16
def bt (s q:Int):Prop:=(0<=q/\q < 4)/\iand .i64 (ishr .i64 s q) 1=1
instance (s:Int):Decidable (B4 s):=by unfold B4;infer_instance
instance (s q:Int):Decidable (bt s q):=by unfold bt;infer_instance
theorem zpu {s:Int} (h:B4 s):∃ x:Fin 16,s=(x.val:Int):=⟨⟨s.toNat,by have:=h.2;have:=h.1;omega⟩,by have:=h.1;show s=(s.toNat:Int);omega⟩
theorem zub {P:Int->Prop} (h:∀ q:Fin 4,P (q.val:Int)) (hn:∀ q,¬ (0<=q/\q < 4)->P q) (q:Int):P q:=by
 by_cases c:0<=q/\q < 4
 ·have:=h ⟨q.toNat,by omega⟩
  rwa [show (((⟨q.toNat,by omega⟩:Fin 4).val:Nat):Int)=q from by show ((q.toNat:Nat):Int)=q;omega] at this
 ·exact hn q c
theorem zya:∀ x y:Fin 16,B4 (ior .i64 (x.val:Int) (y.val:Int))/\∀ q:Fin 4,(bt (ior .i64 (x.val:Int) (y.val:Int)) (q.val:Int)↔bt (x.val:Int) (q.val:Int)\/bt (y.val:Int) (q.val:Int)):=by decide+kernel
theorem zxe:∀ x y:Fin 16,B4 (iand .i64 (x.val:Int) (y.val:Int))/\∀ q:Fin 4,(bt (iand .i64 (x.val:Int) (y.val:Int)) (q.val:Int)↔bt (x.val:Int) (q.val:Int)/\bt (y.val:Int) (q.val:Int)):=by decide+kernel
theorem zvp:∀ x y:Fin 16,B4 (zvS .i64 (x.val:Int) (y.val:Int))/\∀ q:Fin 4,(bt (zvS .i64 (x.val:Int) (y.val:Int)) (q.val:Int)↔bt (x.val:Int) (q.val:Int) /\ ¬ bt (y.val:Int) (q.val:Int)):=by decide+kernel
theorem zxg:∀ x y:Fin 16,(∀ q:Fin 4,(bt (x.val:Int) (q.val:Int)↔bt (y.val:Int) (q.val:Int)))->x=y:=by decide+kernel
theorem zxf:∀ p:Fin 4,B4 (ishl .i64 1 (p.val:Int))/\∀ q:Fin 4,(bt (ishl .i64 1 (p.val:Int)) (q.val:Int)↔q=p):=by decide+kernel
theorem zvq:∀ q:Fin 4,¬ bt 0 (q.val:Int):=by decide+kernel
section
variable {s t:Int}
theorem zzQ (hs:B4 s) (ht:B4 t):B4 (ior .i64 s t)/\∀ q,bt (ior .i64 s t) q↔bt s q\/bt t q:=by
 obtain ⟨x,rfl⟩:=zpu hs;obtain ⟨y,rfl⟩:=zpu ht;obtain ⟨h1,h2⟩:=zya x y;exact ⟨h1,zub (P:=fun q=>_↔_) h2 (fun q hq=>⟨fun h=>absurd h.1 hq,fun h=>h.elim (fun h=>absurd h.1 hq) (fun h=>absurd h.1 hq)⟩)⟩
theorem zwq (hs:B4 s) (ht:B4 t):B4 (iand .i64 s t)/\∀ q,bt (iand .i64 s t) q↔bt s q/\bt t q:=by
 obtain ⟨x,rfl⟩:=zpu hs;obtain ⟨y,rfl⟩:=zpu ht;obtain ⟨h1,h2⟩:=zxe x y;exact ⟨h1,zub (P:=fun q=>_↔_) h2 (fun q hq=>⟨fun h=>absurd h.1 hq,fun h=>absurd h.1.1 hq⟩)⟩
theorem zBo (hs:B4 s) (ht:B4 t):B4 (zvS .i64 s t)/\∀ q,bt (zvS .i64 s t) q↔bt s q /\ ¬ bt t q:=by
 obtain ⟨x,rfl⟩:=zpu hs;obtain ⟨y,rfl⟩:=zpu ht;obtain ⟨h1,h2⟩:=zvp x y;exact ⟨h1,zub (P:=fun q=>_↔_) h2 (fun q hq=>⟨fun h=>absurd h.1 hq,fun h=>absurd h.1.1 hq⟩)⟩
theorem zx9 (hs:B4 s) (ht:B4 t) (h:∀ q,bt s q↔bt t q):s=t:=by
 obtain ⟨x,rfl⟩:=zpu hs;obtain ⟨y,rfl⟩:=zpu ht;rw [zxg x y (fun q=>h _)]
theorem zdq:B4 0/\∀ q,¬ bt 0 q:=⟨by decide,zub (P:=fun q => ¬ bt 0 q) zvq (fun q hq h=>hq h.1)⟩
theorem zAV {p:Int} (p0:0<=p) (p1:p < 4):B4 (ishl .i64 1 p)/\∀ q,bt (ishl .i64 1 p) q↔q=p:=by
 obtain ⟨x,rfl⟩:∃ x:Fin 4,p=(x.val:Int):=⟨⟨p.toNat,by omega⟩,by show p=(p.toNat:Int);omega⟩
 obtain ⟨h1,h2⟩:=zxf x;refine ⟨h1,zub (P:=fun q=>_↔_) (fun q=>(h2 q).trans ⟨fun h=>by rw [h],fun h=>Fin.ext (by omega)⟩) (fun q hq=>⟨fun h=>absurd h.1 hq,fun h=>absurd (by rw [h];omega) hq⟩)⟩
theorem zt7 (hs:B4 s) : ¬ s=0↔∃ q,bt s q:=by
 constructor
 ·intro h;refine Classical.byContradiction fun hno=>h (zx9 hs zdq.1 fun q=>⟨fun hq=>absurd ⟨q,hq⟩ hno,fun hq=>absurd hq (zdq.2 q)⟩)
 ·rintro ⟨q,hq⟩ rfl;exact zdq.2 q hq
end
theorem zlP {l:List Int} (hl:l.length<=20000) (hb:∀ q∈l,0<=q/\q < 4):∃ s,zhe l=some s/\B4 s/\∀ q,bt s q↔q∈l:=by
 have key:∀ (n:Nat) (t s:Int),(l.length - t).toNat=n->0<=t->t<=l.length->B4 s->(∀ q,bt s q↔∃ k:Int,0<=k/\k < t/\ix l k=q)->∃ s',zg7 l s t=some s'/\B4 s'/\∀ q,bt s' q↔q∈l:=by
  intro n
  induction n with
  | zero=>
   intro t s hn t0 t1 hs hq;obtain rfl:t=l.length:=by omega
   refine ⟨s,?_,hs,fun q=>(hq q).trans ?_⟩
   ·rw [zkL];unfold zcv;rw [if_neg (by simp)]
   ·have:=zho (l:=l) (P:=fun x=>x=q)
    constructor
    ·rintro ⟨k,h1,h2,h3⟩;rw [<- h3];exact za5 h1 h2
    ·intro h;obtain ⟨k,h1,h2,h3⟩:=this.1 ⟨q,h,rfl⟩;exact ⟨k,h1,h2,h3⟩
  | succ n ih=>
   intro t s hn t0 t1 hs hq;have hm:=hb _ (za5 (l:=l) t0 (by omega))
   obtain ⟨g1,g2⟩:=zAV hm.1 hm.2;obtain ⟨g3,g4⟩:=zzQ hs g1;obtain ⟨s',e,h1,h2⟩:=ih (t+1) _ (by omega) (by omega) (by omega) g3 (fun q=>by
    rw [g4,g2,hq];constructor
    ·rintro (⟨k,a,b,c⟩ | h)
     ·exact ⟨k,a,by omega,c⟩
     ·exact ⟨t,t0,by omega,h.symm⟩
    ·rintro ⟨k,a,b,c⟩;by_cases e:k=t
     ·rw [e] at c;exact .inr c.symm
     ·exact .inl ⟨k,a,by omega,c⟩)
   refine ⟨s',?_,h1,h2⟩
   rw [zkL];unfold zcv;rw [if_pos (by simp;omega),zaa (by omega),zaa (by omega),zaa (by unfold fits;omega)]
   exact e
 unfold zhe;exact key _ 0 0 rfl (by omega) (by omega) zdq.1 (fun q=>⟨fun h=>absurd h (zdq.2 q),fun ⟨k,a,b,_⟩=>by omega⟩)
abbrev Nd:=Int×Int×Bool×Bool×Bool×Unit
structure NdOk (l:List Nd):Prop where
 len:l.length<=12
 b:∀ k:Int,0<=k->k < l.length->B4 (ix l k).1
 p:∀ k:Int,0<=k->k < l.length->(ix l k).2.1 < k
theorem zzT {t:Int} {r1:Int->List Nd->Option (List Nd)} {l:List Nd} (hl:l.length<=12) (t0:0<=t) (t1:t < l.length) (hb:∀ k:Int,0<=k->k < l.length->B4 (ix l k).1):∀ (n:Nat) (j:Int) (x:Int),(t - j).toNat=n->0<=j->j<=t->B4 x->
  ∃ y,B4 y/\(∀ q,bt y q↔bt x q/\∀ i:Int,j<=i->i < t->(ix l i).2.1=(ix l t).2.1 -> ¬ bt (ix l i).1 q)/\
   zcn t r1 j (l.set t.toNat (x,(ix l t).2))=r1 (t+1) (l.set t.toNat (y,(ix l t).2.1,(ix l t).2.2.1,decide (y=0),(ix l t).2.2.2.2)):=by
 intro n
 induction n with
 | zero=>
  intro j x hn j0 j1 hx;refine ⟨x,hx,fun q=>⟨fun h=>⟨h,fun i a b=>by omega⟩,fun h=>h.1⟩,?_⟩
  rw [zjH];unfold zb7;have hlen:(l.set t.toNat (x,(ix l t).2)).length=l.length:=List.length_set;rw [if_neg (by simp;omega),hlen,zaa (by omega),zaa (by omega),zaa (by omega),zaa (by omega),zaa (by unfold fits;omega),zap t0 t1,List.set_set]
 | succ n ih=>
  intro j x hn j0 j1 hx;have hlen:(l.set t.toNat (x,(ix l t).2)).length=l.length:=List.length_set;have ej:ix (l.set t.toNat (x,(ix l t).2)) j=ix l j:=zat t0 j0 (by omega)
  have et:ix (l.set t.toNat (x,(ix l t).2)) t=(x,(ix l t).2):=zap t0 t1;rw [zjH];unfold zb7;rw [if_pos (by simp;omega),hlen,zaa (by omega),zaa (by omega),zaa (by omega),zaa (by omega),ej,et]
  by_cases c:(ix l j).2.1=(ix l t).2.1
  ·obtain ⟨g1,g2⟩:=zBo hx (hb j j0 (by omega))
   obtain ⟨y,h1,h2,h3⟩:=ih (j+1) _ (by omega) (by omega) (by omega) g1
   refine ⟨y,h1,fun q => ?_,?_⟩
   ·rw [h2,g2];constructor
    ·rintro ⟨⟨a,b⟩,d⟩;refine ⟨a,fun i i0 i1 e => ?_⟩
     by_cases e2:i=j
     ·rw [e2];exact b
     ·exact d i (by omega) i1 e
    ·rintro ⟨a,b⟩;exact ⟨⟨a,b j (Int.le_refl _) (by omega) c⟩,fun i i0 i1 e=>b i (by omega) i1 e⟩
   ·rw [if_pos (decide_eq_true c),zaa (by omega),zaa (by omega),zaa (by omega),zaa (by omega),zaa (by omega),zaa (by omega),zaa (by unfold fits;omega),List.set_set]
    exact h3
  ·obtain ⟨y,h1,h2,h3⟩:=ih (j+1) x (by omega) (by omega) (by omega) hx
   refine ⟨y,h1,fun q => ?_,?_⟩
   ·rw [h2];constructor
    ·rintro ⟨a,d⟩;refine ⟨a,fun i i0 i1 e => ?_⟩
     by_cases e2:i=j
     ·rw [e2] at e;exact absurd e c
     ·exact d i (by omega) i1 e
    ·rintro ⟨a,b⟩;exact ⟨a,fun i i0 i1 e=>b i (by omega) i1 e⟩
   ·rw [if_neg (by simpa using c),zaa (by unfold fits;omega)]
    exact h3
structure Cl (l l':List Nd) (t:Int):Prop where
 len:l'.length=l.length
 pa:∀ k:Int,0<=k->k < l.length->(ix l' k).2.1=(ix l k).2.1
 ol:∀ k:Int,0<=k->k < l.length->(ix l' k).2.2.1=(ix l k).2.2.1
 fl:∀ k:Int,0<=k->k < l.length->(ix l' k).2.2.2.2=(ix l k).2.2.2.2
 far:∀ k:Int,t<=k->k < l.length->ix l' k=ix l k
 b:∀ k:Int,0<=k->k < l.length->B4 (ix l' k).1
 gn:∀ k:Int,0<=k->k < t->((ix l' k).2.2.2.1=true↔(ix l' k).1=0)
 lb:∀ k:Int,0<=k->k < t->∀ q,bt (ix l' k).1 q↔bt (ix l k).1 q/\(0<=(ix l k).2.1->bt (ix l' (ix l k).2.1).1 q)/\∀ j:Int,0<=j->j < k->(ix l j).2.1=(ix l k).2.1 -> ¬ bt (ix l' j).1 q
theorem zyf {l:List Nd} (h:NdOk l):∀ (n:Nat) (t:Int) (l1:List Nd),(l.length - t).toNat=n->0<=t->t<=l.length->Cl l l1 t->∃ l',zcN l t l1=some l'/\Cl l l' l.length:=by
 have hlen:=h.len;intro n
 induction n with
 | zero=>
  intro t l1 hn t0 t1 hc;obtain rfl:t=l.length:=by omega
  refine ⟨l1,?_,hc⟩
  rw [zf1];unfold zbJ;rw [if_neg (by simp)]
 | succ n ih=>
  intro t l1 hn t0 t1 hc;have hl1:=hc.len;have ht:t < l.length:=by omega
  have hp:=h.p t t0 ht;have e0:ix l1 t=ix l t:=hc.far t (Int.le_refl _) ht;have hbt:=h.b t t0 ht;obtain ⟨x,hx,hxq,hrun⟩:∃ x,B4 x/\(∀ q,bt x q↔bt (ix l t).1 q/\(0<=(ix l t).2.1->bt (ix l1 (ix l t).2.1).1 q))/\zcN l t l1=zcn t (zcN l) 0 (l1.set t.toNat (x,(ix l1 t).2)):=by
   by_cases c:0<=(ix l t).2.1
   ·obtain ⟨g1,g2⟩:=zwq hbt (hc.b (ix l t).2.1 c (by omega))
    refine ⟨_,g1,fun q=>(g2 q).trans ⟨fun h=>⟨h.1,fun _=>h.2⟩,fun h=>⟨h.1,h.2 c⟩⟩,?_⟩
    rw [zf1];unfold zbJ zcM;rw [if_pos (by simp;omega),hl1,zaa (by omega),zaa (by omega),e0,if_pos (decide_eq_true c),zaa (by omega),zaa (by omega),zaa (by omega),zaa (by omega),zaa (by omega),zaa (by omega),zaa (by omega),zaa (by omega)]
   ·refine ⟨(ix l t).1,hbt,fun q=>⟨fun h=>⟨h,fun h2=>absurd h2 c⟩,fun h=>h.1⟩,?_⟩
    rw [zf1];unfold zbJ zcM;rw [if_pos (by simp;omega),hl1,zaa (by omega),zaa (by omega),e0,if_neg (by simpa using c)]
    congr 1
    refine zuF (by simp) fun j j0 j1 => ?_
    by_cases e:j=t
    ·rw [e,zap t0 (by omega),e0]
    ·rw [zat t0 j0 (by omega)]
  obtain ⟨y,hy,hyq,hrun2⟩:=zzT (r1:=zcN l) (l:=l1) (t:=t) (by omega) t0 (by omega) (fun k k0 k1=>hc.b k k0 (by omega)) _ 0 x rfl (Int.le_refl _) t0 hx
  rw [hrun,hrun2];refine ih (t+1) _ (by omega) (by omega) (by omega) ?_
  have es:∀ k:Int,0<=k->k≠t->ix (l1.set t.toNat (y,(ix l1 t).2.1,(ix l1 t).2.2.1,decide (y=0),(ix l1 t).2.2.2.2)) k=ix l1 k:=fun k k0 hk=>zat t0 k0 (by omega)
  have et:ix (l1.set t.toNat (y,(ix l1 t).2.1,(ix l1 t).2.2.1,decide (y=0),(ix l1 t).2.2.2.2)) t=(y,(ix l1 t).2.1,(ix l1 t).2.2.1,decide (y=0),(ix l1 t).2.2.2.2):=zap t0 (by omega)
  generalize hL:l1.set t.toNat (y,(ix l1 t).2.1,(ix l1 t).2.2.1,decide (y=0),(ix l1 t).2.2.2.2)=L at es et;have hLl:L.length=l.length:=by rw [<- hL,List.length_set,hl1]
  refine ⟨hLl,fun k k0 k1 => ?_,fun k k0 k1 => ?_,fun k k0 k1 => ?_,fun k k0 k1 => ?_,fun k k0 k1 => ?_,fun k k0 k1 => ?_,fun k k0 k1 q => ?_⟩
  ·by_cases e:k=t
   ·rw [e,et];exact hc.pa t t0 ht
   ·rw [es k k0 e];exact hc.pa k k0 k1
  ·by_cases e:k=t
   ·rw [e,et];exact hc.ol t t0 ht
   ·rw [es k k0 e];exact hc.ol k k0 k1
  ·by_cases e:k=t
   ·rw [e,et];exact hc.fl t t0 ht
   ·rw [es k k0 e];exact hc.fl k k0 k1
  ·rw [es k (by omega) (by omega)];exact hc.far k (by omega) k1
  ·by_cases e:k=t
   ·rw [e,et];exact hy
   ·rw [es k k0 e];exact hc.b k k0 k1
  ·by_cases e:k=t
   ·rw [e,et];simp
   ·rw [es k k0 e];exact hc.gn k k0 (by omega)
  ·by_cases e:k=t
   ·subst e;rw [et];show bt y q↔_;rw [hyq,hxq];have hpe:0<=(ix l k).2.1->ix L (ix l k).2.1=ix l1 (ix l k).2.1:=fun h0=>es _ h0 (by omega)
    constructor
    ·rintro ⟨⟨a,b⟩,d⟩;refine ⟨a,fun h0=>by rw [hpe h0];exact b h0,fun j j0 j1 ej => ?_⟩
     rw [es j j0 (by omega)]
     exact d j j0 j1 (by rw [hc.pa j j0 (by omega),hc.pa k k0 ht];exact ej)
    ·rintro ⟨a,b,d⟩;refine ⟨⟨a,fun h0=>by rw [<- hpe h0];exact b h0⟩,fun j j0 j1 ej => ?_⟩
     rw [<- es j j0 (by omega)]
     exact d j j0 j1 (by rw [<- hc.pa j j0 (by omega),<- hc.pa k k0 ht];exact ej)
   ·have hpk:=h.p k k0 (by omega)
    rw [es k k0 e,hc.lb k k0 (by omega) q]
    refine and_congr Iff.rfl (and_congr ?_ ?_)
    ·refine forall_congr' fun h0 => ?_
     rw [es _ h0 (by omega)]
    ·refine forall_congr' fun j=>forall_congr' fun j0=>forall_congr' fun j1=>forall_congr' fun _ => ?_
     rw [es j j0 (by omega)]
theorem zxm {l:List Nd} (h:NdOk l):∃ l',zhN l=some l'/\Cl l l' l.length:=by
 unfold zhN;exact zyf h _ 0 l rfl (by omega) (by omega) ⟨rfl,fun _ _ _=>rfl,fun _ _ _=>rfl,fun _ _ _=>rfl,fun _ _ _=>rfl,h.b,fun k k0 k1=>by omega,fun k k0 k1=>by omega⟩
structure Dr (i:Int) (l l':List Nd) (t:Int):Prop where
 len:l'.length=l.length
 lb:∀ k:Int,0<=k->k < l.length->(ix l' k).1=(ix l k).1
 pa:∀ k:Int,0<=k->k < l.length->(ix l' k).2.1=(ix l k).2.1
 ol:∀ k:Int,0<=k->k < l.length->(ix l' k).2.2.1=(ix l k).2.2.1
 fl:∀ k:Int,0<=k->k < l.length->(ix l' k).2.2.2.2=(ix l k).2.2.2.2
 le:∀ k:Int,0<=k->k<=i->k < l.length->ix l' k=ix l k
 far:∀ k:Int,t<=k->k < l.length->ix l' k=ix l k
 gn:∀ k:Int,i < k->k < t->((ix l' k).2.2.2.1=true↔(ix l k).2.2.2.1=true\/(ix l k).2.1=i\/(i < (ix l k).2.1/\(ix l' (ix l k).2.1).2.2.2.1=true))
theorem zBx {i:Int} {l:List Nd} (i0:0<=i) (hlen:l.length<=12) (hp:∀ k:Int,0<=k->k < l.length->(ix l k).2.1 < k):∀ (n:Nat) (t:Int) (l1:List Nd),(l.length - t).toNat=n->i < t->t<=l.length->Dr i l l1 t->∃ l',zg8 i t l1=some l'/\Dr i l l' l.length:=by
 intro n
 induction n with
 | zero=>
  intro t l1 hn t0 t1 hd;obtain rfl:t=l.length:=by omega
  have:=hd.len;refine ⟨l1,?_,hd⟩
  rw [zkO];unfold zcx;rw [if_neg (by simp;omega)]
 | succ n ih=>
  intro t l1 hn t0 t1 hd;have hl1:=hd.len;have ht:t < l.length:=by omega
  have hpt:=hp t (by omega) ht
  have e0:ix l1 t=ix l t:=hd.far t (Int.le_refl _) ht;have keep:(¬ ((ix l t).2.1=i\/(i < (ix l t).2.1/\(ix l1 (ix l t).2.1).2.2.2.1=true)))->Dr i l l1 (t+1):=fun hno=>⟨hd.len,hd.lb,hd.pa,hd.ol,hd.fl,hd.le,fun k k0 k1=>hd.far k (by omega) k1,fun k k0 k1=>by
   by_cases e:k=t
   ·subst e;rw [e0];exact ⟨.inl,fun h=>h.elim id (fun h=>absurd h hno)⟩
   ·exact hd.gn k k0 (by omega)⟩
  have put:((ix l t).2.1=i\/(i < (ix l t).2.1/\(ix l1 (ix l t).2.1).2.2.2.1=true))->Dr i l (l1.set t.toNat ((ix l t).1,(ix l t).2.1,(ix l t).2.2.1,true,(ix l t).2.2.2.2)) (t+1):=fun hyes=>by
   have es:∀ k:Int,0<=k->k≠t->ix (l1.set t.toNat ((ix l t).1,(ix l t).2.1,(ix l t).2.2.1,true,(ix l t).2.2.2.2)) k=ix l1 k:=fun k k0 hk=>zat (by omega) k0 (by omega)
   have et:ix (l1.set t.toNat ((ix l t).1,(ix l t).2.1,(ix l t).2.2.1,true,(ix l t).2.2.2.2)) t=((ix l t).1,(ix l t).2.1,(ix l t).2.2.1,true,(ix l t).2.2.2.2):=zap (by omega) (by omega)
   generalize hL:l1.set t.toNat ((ix l t).1,(ix l t).2.1,(ix l t).2.2.1,true,(ix l t).2.2.2.2)=L at es et;refine ⟨by rw [<- hL,List.length_set,hl1],fun k k0 k1 => ?_,fun k k0 k1 => ?_,fun k k0 k1 => ?_,fun k k0 k1 => ?_,fun k k0 k1 k2 => ?_,fun k k0 k1 => ?_,fun k k0 k1 => ?_⟩
   ·by_cases e:k=t
    ·rw [e,et]
    ·rw [es k k0 e];exact hd.lb k k0 k1
   ·by_cases e:k=t
    ·rw [e,et]
    ·rw [es k k0 e];exact hd.pa k k0 k1
   ·by_cases e:k=t
    ·rw [e,et]
    ·rw [es k k0 e];exact hd.ol k k0 k1
   ·by_cases e:k=t
    ·rw [e,et]
    ·rw [es k k0 e];exact hd.fl k k0 k1
   ·rw [es k k0 (by omega)];exact hd.le k k0 k1 k2
   ·rw [es k (by omega) (by omega)];exact hd.far k (by omega) k1
   ·have hpk:=hp k (by omega) (by omega)
    by_cases e:k=t
    ·subst e;rw [et];refine ⟨fun _ => ?_,fun _=>rfl⟩
     rcases hyes with h | ⟨h,h2⟩
     ·exact .inr (.inl h)
     ·exact .inr (.inr ⟨h,by rw [es _ (by omega) (by omega)];exact h2⟩)
    ·rw [es k (by omega) e,hd.gn k k0 (by omega)]
     refine or_congr Iff.rfl (or_congr Iff.rfl ⟨fun ⟨a,b⟩=>⟨a,?_⟩,fun ⟨a,b⟩=>⟨a,?_⟩⟩)
     ·rw [es _ (by omega) (by omega)];exact b
     ·rw [es _ (by omega) (by omega)] at b;exact b
  rw [zkO];unfold zcx zcH zdT;rw [if_pos (by simp;omega),hl1,zaa (by omega),zaa (by omega),e0]
  by_cases c:(ix l t).2.1=i
  ·obtain ⟨l',h1,h2⟩:=ih (t+1) _ (by omega) (by omega) (by omega) (put (.inl c))
   refine ⟨l',?_,h2⟩
   rw [if_pos (decide_eq_true c),if_pos rfl,zaa (by omega),zaa (by omega),zaa (by unfold fits;omega)]
   exact h1
  ·rw [if_neg (by simpa using c)]
   by_cases c2:0<=(ix l t).2.1
   ·rw [if_pos (decide_eq_true c2),zaa (by omega),zaa (by omega)]
    by_cases c3:(ix l1 (ix l t).2.1).2.2.2.1=true
    ·rw [if_pos c3];by_cases c4:i < (ix l t).2.1
     ·obtain ⟨l',h1,h2⟩:=ih (t+1) _ (by omega) (by omega) (by omega) (put (.inr ⟨c4,c3⟩))
      refine ⟨l',?_,h2⟩
      rw [if_pos (decide_eq_true c4),zaa (by omega),zaa (by omega),zaa (by unfold fits;omega)]
      exact h1
     ·obtain ⟨l',h1,h2⟩:=ih (t+1) l1 (by omega) (by omega) (by omega) (keep (fun h=>h.elim c (fun h=>c4 h.1)))
      refine ⟨l',?_,h2⟩
      rw [if_neg (by simpa using c4),zaa (by unfold fits;omega)]
      exact h1
    ·obtain ⟨l',h1,h2⟩:=ih (t+1) l1 (by omega) (by omega) (by omega) (keep (fun h=>h.elim c (fun h=>c3 h.2)))
     refine ⟨l',?_,h2⟩
     rw [if_neg c3,if_neg (by simp),zaa (by unfold fits;omega)]
     exact h1
   ·obtain ⟨l',h1,h2⟩:=ih (t+1) l1 (by omega) (by omega) (by omega) (keep (fun h=>h.elim c (fun h=>by omega)))
    refine ⟨l',?_,h2⟩
    rw [if_neg (by simpa using c2),if_neg (by simp),zaa (by unfold fits;omega)]
    exact h1
theorem zys {i:Int} {l:List Nd} (i0:0<=i) (i1:i < l.length) (hlen:l.length<=12) (hp:∀ k:Int,0<=k->k < l.length->(ix l k).2.1 < k):∃ l',zjJ i l=some l'/\Dr i l l' l.length:=by
 unfold zjJ;rw [zaa (by unfold fits;omega)]
 exact zBx i0 hlen hp _ (i+1) l rfl (by omega) (by omega) ⟨rfl,fun _ _ _=>rfl,fun _ _ _=>rfl,fun _ _ _=>rfl,fun _ _ _=>rfl,fun _ _ _ _=>rfl,fun _ _ _=>rfl,fun k k0 k1=>by omega⟩
def zt6 (l:List Nd) (i q:Int):Prop:=∃ j:Int,0<=j/\j < l.length/\(ix l j).2.1=i/\bt (ix l j).1 q
structure Fi (l l':List Nd) (i:Int):Prop where
 len:l'.length=l.length
 lb:∀ k:Int,0<=k->k < l.length->(ix l' k).1=(ix l k).1
 pa:∀ k:Int,0<=k->k < l.length->(ix l' k).2.1=(ix l k).2.1
 ol:∀ k:Int,0<=k->k < l.length->(ix l' k).2.2.1=(ix l k).2.2.1
 gn:∀ k:Int,0<=k->k < l.length->((ix l' k).2.2.2.1=true↔(ix l k).1=0\/(0<=(ix l k).2.1/\((ix l' (ix l k).2.1).2.2.2.1=true\/(ix l' (ix l k).2.1).2.2.2.2.1=true)))
 fa:∀ k:Int,i<=k->k < l.length->(ix l' k).2.2.2.2.1=false
 fc:∀ k:Int,0<=k->k < i->((ix l' k).2.2.2.2.1=true->∀ q,bt (ix l k).1 q->zt6 l k q)/\((ix l' k).2.2.2.1=false->(ix l' k).2.2.2.2.1=false->∃ q,bt (ix l k).1 q /\ ¬ zt6 l k q)
structure ClOk (l:List Nd):Prop where
 len:l.length<=12
 b:∀ k:Int,0<=k->k < l.length->B4 (ix l k).1
 p:∀ k:Int,0<=k->k < l.length->(ix l k).2.1 < k
 sub:∀ k:Int,0<=k->k < l.length->0<=(ix l k).2.1->∀ q,bt (ix l k).1 q->bt (ix l (ix l k).2.1).1 q
section
variable {l:List Nd}
theorem zy1 (h:ClOk l) {l1:List Nd} {i:Int} (hf:Fi l l1 i) (i0:0<=i) (i1:i < l.length) {r23}:∀ (n:Nat) (t s:Int),(l.length - t).toNat=n->0<=t->t<=l.length->B4 s->(∀ q,bt s q↔∃ j:Int,0<=j/\j < t/\(ix l j).2.1=i/\(ix l1 j).2.2.2.1=false/\bt (ix l j).1 q)->
  ∃ s',B4 s'/\(∀ q,bt s' q↔∃ j:Int,0<=j/\j < l.length/\(ix l j).2.1=i/\(ix l1 j).2.2.2.1=false/\bt (ix l j).1 q)/\za3 i l1 r23 s t=zaD i l1 r23 (decide ((ix l1 i).2.2.2.1=false/\s'=(ix l i).1 /\ ¬ s'=0)):=by
 have hl1:=hf.len;have hlen:=h.len;intro n
 induction n with
 | zero=>
  intro t s hn t0 t1 hs hq;obtain rfl:t=l.length:=by omega
  refine ⟨s,hs,hq,?_⟩
  rw [zd8];unfold zaP;rw [if_neg (by simp;omega),hl1,zaa (by omega),zaa (by omega)]
  cases hg:(ix l1 i).2.2.2.1 with
  | true=>rw [if_neg (by simp)];simp
  | false=>
   rw [if_pos (by simp),zaa (by omega),zaa (by omega),hf.lb i i0 i1]
   by_cases c:s=(ix l i).1
   ·rw [if_pos (decide_eq_true c)];simp [c]
   ·rw [if_neg (by simpa using c)];simp [c]
 | succ n ih=>
  intro t s hn t0 t1 hs hq;have ht:t < l.length:=by omega
  have same : ¬ ((ix l t).2.1=i/\(ix l1 t).2.2.2.1=false)->(∀ q,bt s q↔∃ j:Int,0<=j/\j < t+1/\(ix l j).2.1=i/\(ix l1 j).2.2.2.1=false/\bt (ix l j).1 q):=fun hno q=>(hq q).trans ⟨fun ⟨j,a,b,c⟩=>⟨j,a,by omega,c⟩,fun ⟨j,a,b,c,d,e⟩=>by
   by_cases ej:j=t
   ·rw [ej] at c d;exact absurd ⟨c,d⟩ hno
   ·exact ⟨j,a,by omega,c,d,e⟩⟩
  rw [zd8];unfold zaP zbo;rw [if_pos (by simp;omega),hl1,zaa (by omega),zaa (by omega),hf.pa t t0 ht]
  by_cases c:(ix l t).2.1=i
  ·rw [if_pos (decide_eq_true c),zaa (by omega),zaa (by omega)]
   cases hg:(ix l1 t).2.2.2.1 with
   | true=>
    rw [if_neg (by simp),zaa (by unfold fits;omega)]
    exact ih (t+1) s (by omega) (by omega) (by omega) hs (same (fun hh=>by rw [hg] at hh;exact absurd hh.2 (by simp)))
   | false=>
    rw [if_pos (by simp),zaa (by omega),zaa (by omega),zaa (by unfold fits;omega),hf.lb t t0 ht]
    obtain ⟨g1,g2⟩:=zzQ hs (h.b t t0 ht);refine ih (t+1) _ (by omega) (by omega) (by omega) g1 (fun q => ?_)
    rw [g2,hq];constructor
    ·rintro (⟨j,a,b,d⟩ | hh)
     ·exact ⟨j,a,by omega,d⟩
     ·exact ⟨t,t0,by omega,c,hg,hh⟩
    ·rintro ⟨j,a,b,d,e,f⟩;by_cases ej:j=t
     ·rw [ej] at f;exact .inr f
     ·exact .inl ⟨j,a,by omega,d,e,f⟩
  ·rw [if_neg (by simpa using c),if_neg (by simp),zaa (by unfold fits;omega)]
   exact ih (t+1) s (by omega) (by omega) (by omega) hs (same (fun hh=>c hh.1))
theorem Fi.drop (h:ClOk l) {l1:List Nd} {i:Int} (hf:Fi l l1 i) (i0:0<=i) (i1:i < l.length) (hg:(ix l1 i).2.2.2.1=false) (hk:∀ q,bt (ix l i).1 q->zt6 l i q):
  ∃ l',zjJ i (l1.set i.toNat ((ix l1 i).1,(ix l1 i).2.1,(ix l1 i).2.2.1,(ix l1 i).2.2.2.1,true,(ix l1 i).2.2.2.2.2))=some l'/\Fi l l' (i+1):=by
 have hl1:=hf.len;have hlen:=h.len;have es:∀ k:Int,0<=k->k≠i->ix (l1.set i.toNat ((ix l1 i).1,(ix l1 i).2.1,(ix l1 i).2.2.1,(ix l1 i).2.2.2.1,true,(ix l1 i).2.2.2.2.2)) k=ix l1 k:=fun k k0 hk=>zat (by omega) k0 (by omega)
 have et:ix (l1.set i.toNat ((ix l1 i).1,(ix l1 i).2.1,(ix l1 i).2.2.1,(ix l1 i).2.2.2.1,true,(ix l1 i).2.2.2.2.2)) i=((ix l1 i).1,(ix l1 i).2.1,(ix l1 i).2.2.1,(ix l1 i).2.2.2.1,true,(ix l1 i).2.2.2.2.2):=zap (by omega) (by omega)
 have hLl:(l1.set i.toNat ((ix l1 i).1,(ix l1 i).2.1,(ix l1 i).2.2.1,(ix l1 i).2.2.2.1,true,(ix l1 i).2.2.2.2.2)).length=l.length:=by rw [List.length_set,hl1]
 generalize hL:l1.set i.toNat ((ix l1 i).1,(ix l1 i).2.1,(ix l1 i).2.2.1,(ix l1 i).2.2.2.1,true,(ix l1 i).2.2.2.2.2)=L at es et hLl ⊢;have pL:∀ k:Int,0<=k->k < l.length->(ix L k).2.1=(ix l k).2.1:=fun k k0 k1=>by
  by_cases e:k=i
  ·rw [e,et];exact hf.pa i i0 i1
  ·rw [es k k0 e];exact hf.pa k k0 k1
 have gL:∀ k:Int,0<=k->(ix L k).2.2.2.1=(ix l1 k).2.2.2.1:=fun k k0=>by
  by_cases e:k=i
  ·rw [e,et]
  ·rw [es k k0 e]
 obtain ⟨l',h1,hd⟩:=zys (i:=i) (l:=L) i0 (by omega) (by omega) (fun k k0 k1=>by rw [pL k k0 (by omega)];exact h.p k k0 (by omega))
 have hfl:∀ k:Int,0<=k->k < l.length->(ix l' k).2.2.2.2.1=if k=i then true else (ix l1 k).2.2.2.2.1:=fun k k0 k1=>by
  rw [hd.fl k k0 (by omega)]
  by_cases e:k=i
  ·rw [if_pos e,e,et]
  ·rw [if_neg e,es k k0 e]
 have gle:∀ k:Int,0<=k->k<=i->(ix l' k).2.2.2.1=(ix l1 k).2.2.2.1:=fun k k0 k1=>by
  rw [hd.le k k0 k1 (by omega),gL k k0]
 refine ⟨l',h1,⟨by rw [hd.len,hLl],fun k k0 k1 => ?_,fun k k0 k1 => ?_,fun k k0 k1 => ?_,fun k k0 k1 => ?_,fun k k0 k1 => ?_,fun k k0 k1 => ?_⟩⟩
 ·rw [hd.lb k k0 (by omega)]
  by_cases e:k=i
  ·rw [e,et];exact hf.lb i i0 i1
  ·rw [es k k0 e];exact hf.lb k k0 k1
 ·rw [hd.pa k k0 (by omega)];exact pL k k0 k1
 ·rw [hd.ol k k0 (by omega)]
  by_cases e:k=i
  ·rw [e,et];exact hf.ol i i0 i1
  ·rw [es k k0 e];exact hf.ol k k0 k1
 ·have hpk:=h.p k k0 k1;have old:=hf.gn k k0 k1;by_cases c:k<=i
  ·rw [gle k k0 c,old];refine or_congr Iff.rfl ⟨fun ⟨a,b⟩=>⟨a,?_⟩,fun ⟨a,b⟩=>⟨a,?_⟩⟩
   ·rw [gle _ a (by omega),hfl _ a (by omega),if_neg (by omega)];exact b
   ·rw [gle _ a (by omega),hfl _ a (by omega),if_neg (by omega)] at b;exact b
  ·have new:=hd.gn k (by omega) (by omega)
   rw [gL k k0,pL k k0 k1] at new;rw [new];by_cases c2:(ix l k).2.1=i
   ·refine ⟨fun _ => .inr ⟨by omega,.inr ?_⟩,fun _ => .inr (.inl c2)⟩
    rw [hfl _ (by omega) (by omega),if_pos c2]
   ·by_cases c3:i < (ix l k).2.1
    ·have mono:(ix l1 (ix l k).2.1).2.2.2.1=true->(ix l' (ix l k).2.1).2.2.2.1=true:=fun hh=>(hd.gn _ c3 (by omega)).2 (.inl (by rw [gL _ (by omega)];exact hh))
     rw [old];constructor
     ·rintro ((a | ⟨a,b | b⟩) | a | ⟨_,a⟩)
      ·exact .inl a
      ·exact .inr ⟨a,.inl (mono b)⟩
      ·exact .inr ⟨a,.inr (by rw [hfl _ (by omega) (by omega),if_neg c2];exact b)⟩
      ·exact absurd a c2
      ·exact .inr ⟨by omega,.inl a⟩
     ·rintro (a | ⟨a,b | b⟩)
      ·exact .inl (.inl a)
      ·exact .inr (.inr ⟨c3,b⟩)
      ·rw [hfl _ (by omega) (by omega),if_neg c2] at b;exact .inl (.inr ⟨a,.inr b⟩)
    ·rw [old];constructor
     ·rintro ((a | ⟨a,b⟩) | a | ⟨a,_⟩)
      ·exact .inl a
      ·refine .inr ⟨a,?_⟩
       rw [gle _ a (by omega),hfl _ a (by omega),if_neg c2];exact b
      ·exact absurd a c2
      ·exact absurd a c3
     ·rintro (a | ⟨a,b⟩)
      ·exact .inl (.inl a)
      ·rw [gle _ a (by omega),hfl _ a (by omega),if_neg c2] at b
       exact .inl (.inr ⟨a,b⟩)
 ·rw [hfl k (by omega) k1,if_neg (by omega)];exact hf.fa k (by omega) k1
 ·rw [hfl k k0 (by omega),gle k k0 (by omega)]
  by_cases e:k=i
  ·subst e;rw [if_pos rfl];exact ⟨fun _=>hk,fun _ hh=>by cases hh⟩
  ·rw [if_neg e];exact hf.fc k k0 (by omega)
theorem zxw (h:ClOk l) {y:List Nd} (hy:y.length=l.length):∀ (n:Nat) (i:Int) (l1:List Nd),(l.length - i).toNat=n->0<=i->i<=l.length->Fi l l1 i->∃ l',Fi l l' l.length/\zaE y i l1=(zjM l').bind (fun y=>some y):=by
 have hlen:=h.len;intro n
 induction n with
 | zero=>
  intro i l1 hn i0 i1 hf;obtain rfl:i=l.length:=by omega
  refine ⟨l1,hf,?_⟩
  rw [zd7];unfold zaO;rw [if_neg (by simp;omega)]
 | succ n ih=>
  intro i l1 hn i0 i1 hf;have hi:i < l.length:=by omega
  have hl1:=hf.len;obtain ⟨s,s1,s2,s3⟩:=zy1 h hf i0 hi (r23:=zaE y) _ 0 0 rfl (by omega) (by omega) zdq.1 (fun q=>⟨fun hh=>absurd hh (zdq.2 q),fun ⟨j,a,b,_⟩=>by omega⟩)
  have run:zaE y i l1=zaD i l1 (zaE y) (decide ((ix l1 i).2.2.2.1=false/\s=(ix l i).1 /\ ¬ s=0)):=by
   rw [zd7];unfold zaO;rw [if_pos (by simp;omega)];exact s3
  rw [run];unfold zaD;have all:(ix l1 i).2.2.2.1=false->∀ q,bt s q↔zt6 l i q:=fun hg q=>(s2 q).trans ⟨fun ⟨j,a,b,c,_,e⟩=>⟨j,a,b,c,e⟩,fun ⟨j,a,b,c,e⟩=>by
   refine ⟨j,a,b,c,?_,e⟩
   cases hgj:(ix l1 j).2.2.2.1 with
   | false=>rfl
   | true=>
    exfalso;rcases (hf.gn j a b).1 hgj with g | ⟨_,g | g⟩
    ·rw [g] at e;exact zdq.2 q e
    ·rw [c,hg] at g;cases g
    ·rw [c,hf.fa i (Int.le_refl _) hi] at g;cases g⟩
  by_cases c:(ix l1 i).2.2.2.1=false/\s=(ix l i).1 /\ ¬ s=0
  ·obtain ⟨l',h1,h2⟩:=hf.drop h i0 hi c.1 (fun q hq=>(all c.1 q).1 (by rw [c.2.1];exact hq))
   obtain ⟨l'',k1,k2⟩:=ih (i+1) l' (by omega) (by omega) (by omega) h2
   refine ⟨l'',k1,?_⟩
   rw [if_pos (decide_eq_true c),hl1,zaa (by omega),zaa (by omega),h1]
   show G (fits (i+1)) (zaE y (i+1) l')=_;rw [zaa (by unfold fits;omega)]
   exact k2
  ·obtain ⟨l'',k1,k2⟩:=ih (i+1) l1 (by omega) (by omega) (by omega) ⟨hf.len,hf.lb,hf.pa,hf.ol,hf.gn,fun k k0 k1=>hf.fa k (by omega) k1,fun k k0 k1=>by
    by_cases e:k=i
    ·subst e;have ff:=hf.fa k (Int.le_refl _) hi;rw [ff];refine ⟨fun hh=>by (cases hh),fun hg _ => ?_⟩
     have hne : ¬ (ix l k).1=0:=fun hz=>by
      have:=(hf.gn k k0 hi).2 (.inl hz);rw [hg] at this;cases this
     refine Classical.byContradiction fun hno=>c ⟨hg,?_⟩
     have hall:∀ q,bt (ix l k).1 q->zt6 l k q:=fun q hq=>Classical.byContradiction fun hn=>hno ⟨q,hq,hn⟩
     have hs:s=(ix l k).1:=zx9 s1 (h.b k k0 hi) (fun q=>(all hg q).trans ⟨fun ⟨j,a,b,d,e⟩=>by
      have:=h.sub j a b (by omega) q e
      rwa [d] at this,hall q⟩)
     exact ⟨hs,by rw [hs];exact hne⟩
    ·exact hf.fc k k0 (by omega)⟩
   refine ⟨l'',k1,?_⟩
   rw [if_neg (by simpa using c),zaa (by unfold fits;omega)]
   exact k2
end
def kp (l:List Nd):Nat->Int
 | 0=>0
 | t+1=>if (ix l (t:Int)).2.2.2.1=true then kp l t else kp l t+1
section
variable {l:List Nd}
theorem zp9:∀ t:Nat,0<=kp l t/\kp l t<=t
 | 0=>by unfold kp;omega
 | t+1=>by
  have:=zp9 t;unfold kp;split<;>omega
theorem zy2 {s t:Nat} (h:s<=t):kp l s<=kp l t:=by
 induction t with
 | zero=>
  obtain rfl:s=0:=by omega
  exact Int.le_refl _
 | succ t ih=>
  by_cases e:s=t+1
  ·rw [e];exact Int.le_refl _
  ·have:=ih (by omega)
   show kp l s<=kp l (t+1);rw [kp];split<;>omega
theorem zAh {s t:Nat} (h:s < t) (hg : ¬ (ix l (s:Int)).2.2.2.1=true):kp l s < kp l t:=by
 have h1:kp l (s+1)=kp l s+1:=by rw [kp,if_neg hg]
 have:=zy2 (l:=l) (s:=s+1) (t:=t) h;omega
theorem kp_eq {t:Nat} (h:∀ j,j < t -> ¬ (ix l ((j:Nat):Int)).2.2.2.1=true):kp l t=t:=by
 induction t with
 | zero=>rfl
 | succ t ih=>
  rw [kp,if_neg (h t (by omega)),ih (fun j hj=>h j (by omega))];omega
theorem zBR {s t:Nat} (h:s < t) (hg:(ix l (s:Int)).2.2.2.1=true):kp l t < t:=by
 induction t with
 | zero=>omega
 | succ t ih=>
  by_cases e:s=t
  ·subst e;rw [kp,if_pos hg];have:=zp9 (l:=l) s;omega
  ·have:=ih (by omega)
   rw [kp];split<;>omega
theorem zvU {t:Nat} {k:Int} (k0:0<=k) (k1:k < kp l t):∃ s:Nat,s < t /\ ¬ (ix l (s:Int)).2.2.2.1=true/\kp l s=k:=by
 induction t with
 | zero=>unfold kp at k1;omega
 | succ t ih=>
  by_cases c:k < kp l t
  ·obtain ⟨s,h1,h2⟩:=ih c;exact ⟨s,by omega,h2⟩
  ·by_cases hg:(ix l (t:Int)).2.2.2.1=true
   ·rw [kp,if_pos hg] at k1;exact absurd k1 c
   ·rw [kp,if_neg hg] at k1;exact ⟨t,by omega,hg,by omega⟩
end
structure MkTo (l:List Nd) (t:Int) (m:Int):Prop where
 gone:∀ i:Int,0<=i->i < t->(ix l i).2.2.1=true->(ix l i).2.2.2.1=true->m<=2 * i+1
 fl:∀ i:Int,0<=i->i < t->(ix l i).2.2.1=true->(ix l i).2.2.2.1=false->(ix l i).2.2.2.2.1=true->m<=2 * i+2
 is:m=9\/(∃ i:Int,(0<=i/\i < t)/\(ix l i).2.2.1=true/\(ix l i).2.2.2.1=true/\m=2 * i+1)\/∃ i:Int,(0<=i/\i < t)/\(ix l i).2.2.1=true/\(ix l i).2.2.2.1=false/\(ix l i).2.2.2.2.1=true/\m=2 * i+2
 le:m<=9
structure TdTo (l:List Nd) (t:Nat) (L A N:List Int):Prop where
 lL:L.length=4
 lA:A.length=4
 lN:N.length=12
 lab:∀ j:Nat,j < t -> ¬ (ix l (j:Int)).2.2.2.1=true->ix L (kp l j)=(ix l (j:Int)).1
 abv:∀ j:Nat,j < t -> ¬ (ix l (j:Int)).2.2.2.1=true->ix A (kp l j)=if 0<=(ix l (j:Int)).2.1 then kp l (ix l (j:Int)).2.1.toNat else -1
 now:∀ j:Nat,j < t -> ¬ (ix l (j:Int)).2.2.2.1=true->ix N (j:Int)=kp l j
 fill:∀ k:Int,kp l t<=k->k < 4->ix L k=0/\ix A k=0
theorem zvX {L:List Int} (h:L.length=4):[L.getD 0 0,L.getD 1 0,L.getD 2 0,L.getD 3 0]=L:=by
 match L,h with
 | [a,b,c,d],_=>rfl
theorem zy7 {L:List Int} (h:L.length=12):[L.getD 0 0,L.getD 1 0,L.getD 2 0,L.getD 3 0,L.getD 4 0,L.getD 5 0,L.getD 6 0,L.getD 7 0,L.getD 8 0,L.getD 9 0,L.getD 10 0,L.getD 11 0]=L:=by
 match L,h with
 | [a,b,c,d,e,f,g,i,j,k,m,n],_=>rfl
def zr0 (l:List Nd) (t c:Int) (L A:List Int) (m:Int) (N:List Int):=zdU l t c (L.getD 0 0) (L.getD 1 0) (L.getD 2 0) (L.getD 3 0) (A.getD 0 0) (A.getD 1 0) (A.getD 2 0) (A.getD 3 0) m (N.getD 0 0) (N.getD 1 0) (N.getD 2 0) (N.getD 3 0) (N.getD 4 0) (N.getD 5 0) (N.getD 6 0) (N.getD 7 0) (N.getD 8 0) (N.getD 9 0) (N.getD 10 0) (N.getD 11 0)
section
variable {l:List Nd}
theorem zzI (hlen:l.length<=8) {t:Nat} (ht:(t:Int) < l.length) (hp:(ix l (t:Int)).2.1 < t) (hc:kp l (t+1)<=4) {L A N:List Int} {m:Int} (h:TdTo l t L A N) (hm:MkTo l t m) (hgp : ¬ (ix l (t:Int)).2.2.2.1=true->0<=(ix l (t:Int)).2.1 -> ¬ (ix l (ix l (t:Int)).2.1).2.2.2.1=true):
  ∃ L' A' N' m',TdTo l (t+1) L' A' N'/\MkTo l ((t:Int)+1) m'/\zr0 l t (kp l t) L A m N=zr0 l ((t:Int)+1) (kp l (t+1)) L' A' m' N':=by
 have hk:=zp9 (l:=l) t;obtain ⟨m',hm',hrun⟩:∃ m',MkTo l ((t:Int)+1) m'/\zr0 l t (kp l t) L A m N=zbi l t (N.getD 0 0) (N.getD 1 0) (N.getD 2 0) (N.getD 3 0) (N.getD 4 0) (N.getD 5 0) (N.getD 6 0) (N.getD 7 0) (N.getD 8 0) (N.getD 9 0) (N.getD 10 0) (N.getD 11 0) (zdU l) (kp l t) (L.getD 0 0) (L.getD 1 0) (L.getD 2 0) (L.getD 3 0) (A.getD 0 0) (A.getD 1 0) (A.getD 2 0) (A.getD 3 0) m':=by
  have up:∀ {i:Int},i < (t:Int)+1->i≠t->i < t:=fun h1 h2=>by omega
  cases ho:(ix l (t:Int)).2.2.1 with
  | false=>
   refine ⟨m,⟨fun i i0 i1 a b => ?_,fun i i0 i1 a b c => ?_,?_,hm.le⟩,?_⟩
   ·by_cases e:i=t
    ·rw [e,ho] at a;cases a
    ·exact hm.gone i i0 (up i1 e) a b
   ·by_cases e:i=t
    ·rw [e,ho] at a;cases a
    ·exact hm.fl i i0 (up i1 e) a b c
   ·rcases hm.is with h1 | ⟨i,⟨i0,i1⟩,h1⟩ | ⟨i,⟨i0,i1⟩,h1⟩
    ·exact .inl h1
    ·exact .inr (.inl ⟨i,⟨i0,by omega⟩,h1⟩)
    ·exact .inr (.inr ⟨i,⟨i0,by omega⟩,h1⟩)
   ·unfold zr0;rw [zdn];unfold zbp;rw [if_pos (decide_eq_true ht),zaa (by omega),ho,if_neg (by simp)]
  | true=>
   cases hg:(ix l (t:Int)).2.2.2.1 with
   | true=>
    refine ⟨imin m (2 * (t:Int)+1),⟨fun i i0 i1 a b => ?_,fun i i0 i1 a b c => ?_,?_,?_⟩,?_⟩
    ·unfold imin;by_cases e:i=t
     ·subst e;split<;>omega
     ·have:=hm.gone i i0 (up i1 e) a b;split<;>omega
    ·unfold imin;by_cases e:i=t
     ·rw [e,hg] at b;cases b
     ·have:=hm.fl i i0 (up i1 e) a b c;split<;>omega
    ·unfold imin
     split
     ·exact .inr (.inl ⟨t,by omega,ho,hg,rfl⟩)
     ·rcases hm.is with h1 | ⟨i,⟨i0,i1⟩,h1⟩ | ⟨i,⟨i0,i1⟩,h1⟩
      ·exact .inl h1
      ·exact .inr (.inl ⟨i,⟨i0,by omega⟩,h1⟩)
      ·exact .inr (.inr ⟨i,⟨i0,by omega⟩,h1⟩)
    ·have:=hm.le;unfold imin;split<;>omega
    ·unfold zr0;rw [zdn];unfold zbp;rw [if_pos (decide_eq_true ht),zaa (by omega),ho,if_pos rfl,hg,if_pos rfl,zaa (by unfold fits;omega),zaa (by unfold fits;omega)]
   | false=>
    cases hf:(ix l (t:Int)).2.2.2.2.1 with
    | true=>
     refine ⟨imin m (2 * (t:Int)+2),⟨fun i i0 i1 a b => ?_,fun i i0 i1 a b c => ?_,?_,?_⟩,?_⟩
     ·unfold imin;by_cases e:i=t
      ·rw [e,hg] at b;cases b
      ·have:=hm.gone i i0 (up i1 e) a b;split<;>omega
     ·unfold imin;by_cases e:i=t
      ·subst e;split<;>omega
      ·have:=hm.fl i i0 (up i1 e) a b c;split<;>omega
     ·unfold imin
      split
      ·exact .inr (.inr ⟨t,by omega,ho,hg,hf,rfl⟩)
      ·rcases hm.is with h1 | ⟨i,⟨i0,i1⟩,h1⟩ | ⟨i,⟨i0,i1⟩,h1⟩
       ·exact .inl h1
       ·exact .inr (.inl ⟨i,⟨i0,by omega⟩,h1⟩)
       ·exact .inr (.inr ⟨i,⟨i0,by omega⟩,h1⟩)
     ·have:=hm.le;unfold imin;split<;>omega
     ·unfold zr0;rw [zdn];unfold zbp;rw [if_pos (decide_eq_true ht),zaa (by omega),ho,if_pos rfl,hg,if_neg (by simp),hf,if_pos rfl,zaa (by unfold fits;omega),zaa (by unfold fits;omega)]
    | false=>
     refine ⟨m,⟨fun i i0 i1 a b => ?_,fun i i0 i1 a b c => ?_,?_,hm.le⟩,?_⟩
     ·by_cases e:i=t
      ·rw [e,hg] at b;cases b
      ·exact hm.gone i i0 (up i1 e) a b
     ·by_cases e:i=t
      ·rw [e,hf] at c;cases c
      ·exact hm.fl i i0 (up i1 e) a b c
     ·rcases hm.is with h1 | ⟨i,⟨i0,i1⟩,h1⟩ | ⟨i,⟨i0,i1⟩,h1⟩
      ·exact .inl h1
      ·exact .inr (.inl ⟨i,⟨i0,by omega⟩,h1⟩)
      ·exact .inr (.inr ⟨i,⟨i0,by omega⟩,h1⟩)
     ·unfold zr0;rw [zdn];unfold zbp;rw [if_pos (decide_eq_true ht),zaa (by omega),ho,if_pos rfl,hg,if_neg (by simp),hf,if_neg (by simp)]
 rw [hrun];by_cases hg:(ix l (t:Int)).2.2.2.1=true
 ·have ek:kp l (t+1)=kp l t:=by rw [kp,if_pos hg]
  refine ⟨L,A,N,m',⟨h.lL,h.lA,h.lN,fun j j1 a => ?_,fun j j1 a => ?_,fun j j1 a => ?_,fun k k0 k1=>h.fill k (by omega) k1⟩,hm',?_⟩
  ·by_cases e:j=t
   ·rw [e] at a;exact absurd hg a
   ·exact h.lab j (by omega) a
  ·by_cases e:j=t
   ·rw [e] at a;exact absurd hg a
   ·exact h.abv j (by omega) a
  ·by_cases e:j=t
   ·rw [e] at a;exact absurd hg a
   ·exact h.now j (by omega) a
  ·unfold zbi zco zr0;rw [if_pos hg,zaa (by unfold fits;omega),ek]
 ·have ek:kp l (t+1)=kp l t+1:=by rw [kp,if_neg hg]
  have hN:=h.lN;have hL:=h.lL;have hA:=h.lA;obtain ⟨v,hv,hrun2⟩:∃ v,v=(if 0<=(ix l (t:Int)).2.1 then kp l (ix l (t:Int)).2.1.toNat else -1)/\zbi l t (N.getD 0 0) (N.getD 1 0) (N.getD 2 0) (N.getD 3 0) (N.getD 4 0) (N.getD 5 0) (N.getD 6 0) (N.getD 7 0) (N.getD 8 0) (N.getD 9 0) (N.getD 10 0) (N.getD 11 0) (zdU l) (kp l t) (L.getD 0 0) (L.getD 1 0) (L.getD 2 0) (L.getD 3 0) (A.getD 0 0) (A.getD 1 0) (A.getD 2 0) (A.getD 3 0) m'=zr0 l ((t:Int)+1) (kp l t+1) (L.set (kp l t).toNat (ix l (t:Int)).1) (A.set (kp l t).toNat v) m' (N.set t (kp l t)):=by
   have hset4:∀ (X:List Int) (k:Nat) (y:Int),X.length=4->(X.set k y).length=4:=fun X k y hX=>by rw [List.length_set,hX]
   have hN2:(N.set ((t:Int)).toNat (kp l t)).length=12:=by rw [List.length_set,hN]
   by_cases c:0<=(ix l (t:Int)).2.1
   ·refine ⟨_,rfl,?_⟩
    unfold zbi zcO zco;rw [if_neg hg,zaa (by omega),zaa (by omega),zaa (by omega),zaa (by omega),zaa (by omega),zaa (by omega),if_pos (decide_eq_true c),zaa (by omega),zaa (by omega),zaa (by omega),zaa (by omega),zaa (by unfold fits;omega),zaa (by unfold fits;omega)]
    rw [zvX hL,zvX hA,zy7 hN,zvX (hset4 _ _ _ hA),zy7 hN2,List.set_set,if_pos c];have ev:(N.set ((t:Int)).toNat (kp l t)).getD (ix l (t:Int)).2.1.toNat 0=kp l (ix l (t:Int)).2.1.toNat:=by
     obtain ⟨j,hj⟩:∃ j:Nat,(ix l (t:Int)).2.1=j:=⟨_,(Int.toNat_of_nonneg c).symm⟩;have e1:=h.now j (by omega) (by rw [<- hj];exact hgp hg c)
     show ix (N.set ((t:Int)).toNat (kp l t)) (ix l (t:Int)).2.1=_;rw [zat (by omega) (by omega) (by omega),hj,e1];rfl
    rw [ev];rfl
   ·refine ⟨_,rfl,?_⟩
    unfold zbi zcO zco;rw [if_neg hg,zaa (by omega),zaa (by omega),zaa (by omega),zaa (by omega),zaa (by omega),zaa (by omega),if_neg (by simpa using c),zaa (by unfold fits;omega),zaa (by unfold fits;omega)]
    rw [zvX hL,zvX hA,zy7 hN,if_neg c];rfl
  rw [hrun2];have kj:∀ j:Nat,j < t -> ¬ (ix l (j:Int)).2.2.2.1=true->kp l j < kp l t:=fun j hj a=>zAh hj a
  refine ⟨L.set (kp l t).toNat (ix l (t:Int)).1,A.set (kp l t).toNat v,N.set t (kp l t),m',⟨by rw [List.length_set,hL],by rw [List.length_set,hA],by rw [List.length_set,hN],fun j j1 a => ?_,fun j j1 a => ?_,fun j j1 a => ?_,fun k k0 k1 => ?_⟩,hm',by rw [ek]⟩
  ·by_cases e:j=t
   ·rw [e,zap hk.1 (by omega)]
   ·have:=kj j (by omega) a
    have:=(zp9 (l:=l) j).1;rw [zat hk.1 (by omega) (by omega)]
    exact h.lab j (by omega) a
  ·by_cases e:j=t
   ·rw [e,zap hk.1 (by omega),hv]
   ·have:=kj j (by omega) a
    have:=(zp9 (l:=l) j).1;rw [zat hk.1 (by omega) (by omega)]
    exact h.abv j (by omega) a
  ·by_cases e:j=t
   ·rw [e];have:ix (N.set ((t:Int)).toNat (kp l t)) (t:Int)=kp l t:=zap (by omega) (by omega)
    exact this
   ·have:ix (N.set ((t:Int)).toNat (kp l t)) (j:Int)=ix N (j:Int):=zat (by omega) (by omega) (by omega)
    exact this.trans (h.now j (by omega) a)
  ·rw [zat hk.1 (by omega) (by omega),zat hk.1 (by omega) (by omega)]
   exact h.fill k (by omega) k1
theorem zzH (hlen:l.length<=8) (hp:∀ k:Int,0<=k->k < l.length->(ix l k).2.1 < k) (hgp:∀ k:Int,0<=k->k < l.length -> ¬ (ix l k).2.2.2.1=true->0<=(ix l k).2.1 -> ¬ (ix l (ix l k).2.1).2.2.2.1=true) (hc:kp l l.length<=4):
  ∃ L A N m,TdTo l l.length L A N/\MkTo l l.length m/\zjM l=some ((kp l l.length,(L.getD 0 0,L.getD 1 0,L.getD 2 0,L.getD 3 0,()),(A.getD 0 0,A.getD 1 0,A.getD 2 0,A.getD 3 0,()),()),m,()):=by
 have key:∀ (n t:Nat) (L A N:List Int) (m:Int),l.length - t=n->t<=l.length->TdTo l t L A N->MkTo l t m->
   ∃ L' A' N' m',TdTo l l.length L' A' N'/\MkTo l l.length m'/\zr0 l t (kp l t) L A m N=some ((kp l l.length,(L'.getD 0 0,L'.getD 1 0,L'.getD 2 0,L'.getD 3 0,()),(A'.getD 0 0,A'.getD 1 0,A'.getD 2 0,A'.getD 3 0,()),()),m',()):=by
  intro n
  induction n with
  | zero=>
   intro t L A N m hn ht h hm;obtain rfl:t=l.length:=by omega
   refine ⟨L,A,N,m,h,hm,?_⟩
   unfold zr0;rw [zdn];unfold zbp;rw [if_neg (by simp)]
  | succ n ih=>
   intro t L A N m hn ht h hm;obtain ⟨L',A',N',m',h1,h2,h3⟩:=zzI hlen (t:=t) (by omega) (hp t (by omega) (by omega)) (by have:=zy2 (l:=l) (s:=t+1) (t:=l.length) (by omega);omega) h hm (hgp t (by omega) (by omega))
   rw [h3];exact ih (t+1) L' A' N' m' (by omega) (by omega) h1 h2
 exact key _ 0 [0,0,0,0] [0,0,0,0] [0,0,0,0,0,0,0,0,0,0,0,0] 9 rfl (by omega) ⟨rfl,rfl,rfl,fun j hj=>by omega,fun j hj=>by omega,fun j hj=>by omega,fun k k0 k1=>by
  have:k=0\/k=1\/k=2\/k=3:=by have:kp l 0=0:=rfl;omega
  rcases this with rfl | rfl | rfl | rfl<;>exact ⟨rfl,rfl⟩⟩ ⟨fun i a b=>by omega,fun i a b=>by omega,.inl rfl,by omega⟩
end
section
variable {l l2:List Nd}
structure Fin2 (l l2:List Nd):Prop where
 c:ClOk l
 f:Fi l l2 l.length
 dis:∀ j k:Int,0<=j->j < k->k < l.length->(ix l j).2.1=(ix l k).2.1->∀ q,bt (ix l j).1 q -> ¬ bt (ix l k).1 q
 root:∀ k:Int,0<=k->k < l.length->(ix l k).2.1 < 0->k=0
theorem Fin2.chain (h:Fin2 l l2) {q:Int}:∀ (n:Nat) (i j:Int),j.toNat<=n->0<=i->i < j->j < l.length->(ix l2 i).2.2.2.1=false->(ix l2 j).2.2.2.1=false->bt (ix l i).1 q->bt (ix l j).1 q->∃ k:Int,i < k/\k<=j/\(ix l2 k).2.2.2.1=false/\(ix l k).2.1=i/\bt (ix l k).1 q:=by
 have gpar:∀ k:Int,0<=k->k < l.length->(ix l2 k).2.2.2.1=false->0<=(ix l k).2.1->(ix l2 (ix l k).2.1).2.2.2.1=false:=fun k k0 k1 hg hp=>by
  cases hh:(ix l2 (ix l k).2.1).2.2.2.1 with
  | false=>rfl
  | true=>have:=(h.f.gn k k0 k1).2 (.inr ⟨hp,.inl hh⟩);rw [hg] at this;cases this
 intro n
 induction n with
 | zero=>intro i j hn i0 hij;omega
 | succ n ih=>
  intro i j hn i0 hij hj gi gj qi qj;have pj:=h.c.p j (by omega) hj
  have pi:=h.c.p i i0 (by omega)
  have hpj:0<=(ix l j).2.1:=by
   have:=h.root j (by omega) hj
   omega
  have gpj:=gpar j (by omega) hj gj hpj
  have qpj:=h.c.sub j (by omega) hj hpj q qj
  by_cases e:(ix l j).2.1=i
  ·exact ⟨j,hij,Int.le_refl _,gj,e,qj⟩
  by_cases c:i < (ix l j).2.1
  ·obtain ⟨k,a,b,d⟩:=ih i (ix l j).2.1 (by omega) i0 c (by omega) gi gpj qi qpj
   exact ⟨k,a,by omega,d⟩
  exfalso;by_cases e2:(ix l i).2.1=(ix l j).2.1
  ·exact h.dis i j i0 hij hj e2 q qi qj
  by_cases c2:(ix l i).2.1 < (ix l j).2.1
  ·obtain ⟨k,a,b,_,d,f⟩:=ih (ix l j).2.1 i (by omega) hpj (by omega) (by omega) gpj gi qpj qi
   exact h.dis k j (by omega) (by omega) hj d q f qj
  ·have hpi:0<=(ix l i).2.1:=by omega
   obtain ⟨k,a,b,_,d,f⟩:=ih (ix l j).2.1 (ix l i).2.1 (by omega) hpj (by omega) (by omega) gpj (gpar i i0 (by omega) gi hpi) qpj (h.c.sub i i0 (by omega) hpi q qi)
   exact h.dis k j (by omega) (by omega) hj d q f qj
theorem Fin2.own (h:Fin2 l l2) {i:Int} (i0:0<=i) (i1:i < l.length) (g:(ix l2 i).2.2.2.1=false):∃ q,bt (ix l i).1 q/\∀ k:Int,0<=k->k < l.length->(ix l2 k).2.2.2.1=false->(ix l k).2.1=i -> ¬ bt (ix l k).1 q:=by
 have hne : ¬ (ix l i).1=0:=fun hz=>by
  have:=(h.f.gn i i0 i1).2 (.inl hz);rw [g] at this;cases this
 cases hf:(ix l2 i).2.2.2.2.1 with
 | true=>
  obtain ⟨q,hq⟩:=(zt7 (h.c.b i i0 i1)).1 hne;refine ⟨q,hq,fun k k0 k1 gk ek => ?_⟩
  have:=(h.f.gn k k0 k1).2 (.inr ⟨by omega,.inr (by rw [ek];exact hf)⟩)
  rw [gk] at this;cases this
 | false=>
  obtain ⟨q,hq,hno⟩:=(h.f.fc i i0 i1).2 g hf;exact ⟨q,hq,fun k k0 k1 _ ek hk=>hno ⟨k,k0,k1,ek,hk⟩⟩
theorem Fin2.own_inj (h:Fin2 l l2) {q:Int} {i j:Int} (i0:0<=i) (hij:i < j) (j1:j < l.length) (gi:(ix l2 i).2.2.2.1=false) (gj:(ix l2 j).2.2.2.1=false) (qi:bt (ix l i).1 q) (qj:bt (ix l j).1 q)
  (hi:∀ k:Int,0<=k->k < l.length->(ix l2 k).2.2.2.1=false->(ix l k).2.1=i -> ¬ bt (ix l k).1 q):False:=by
 obtain ⟨k,a,b,c,d,e⟩:=h.chain _ i j (Nat.le_refl _) i0 hij j1 gi gj qi qj;exact hi k (by omega) (by omega) c d e
theorem Fin2.four (h:Fin2 l l2):kp l2 l.length<=4:=by
 have key:∀ t:Nat,t<=l.length->∃ Q:List Int,Q.Nodup/\(Q.length:Int)=kp l2 t/\∀ q∈Q,(0<=q/\q < 4)/\∃ i:Nat,i < t/\(ix l2 (i:Int)).2.2.2.1=false/\bt (ix l (i:Int)).1 q/\∀ k:Int,0<=k->k < l.length->(ix l2 k).2.2.2.1=false->(ix l k).2.1=i -> ¬ bt (ix l k).1 q:=by
  intro t
  induction t with
  | zero=>intro _;exact ⟨[],by simp,rfl,by simp⟩
  | succ t ih=>
   intro ht;obtain ⟨Q,h1,h2,h3⟩:=ih (by omega)
   cases hg:(ix l2 (t:Int)).2.2.2.1 with
   | true=>
    refine ⟨Q,h1,by rw [kp,if_pos hg];exact h2,fun q hq => ?_⟩
    obtain ⟨a,i,b,c⟩:=h3 q hq;exact ⟨a,i,by omega,c⟩
   | false=>
    obtain ⟨q,hq,hno⟩:=h.own (i:=(t:Int)) (by omega) (by omega) hg
    refine ⟨q::Q,?_,?_,fun p hp => ?_⟩
    ·rw [List.nodup_cons];refine ⟨fun hm => ?_,h1⟩
     obtain ⟨_,i,b,c,d,e⟩:=h3 q hm;exact h.own_inj (i:=(i:Int)) (j:=(t:Int)) (by omega) (by omega) (by omega) c hg d hq e
    ·rw [kp,if_neg (by simp [hg]),List.length_cons];omega
    ·rcases List.mem_cons.1 hp with rfl | hp
     ·exact ⟨hq.1,t,by omega,hg,hq,hno⟩
     ·obtain ⟨a,i,b,c⟩:=h3 p hp;exact ⟨a,i,by omega,c⟩
 obtain ⟨Q,h1,h2,h3⟩:=key l.length (Nat.le_refl _);have:=zrw (U:=[0,1,2,3]) h1 (fun q hq=>by
  have:=(h3 q hq).1;have:q=0\/q=1\/q=2\/q=3:=by omega
  rcases this with rfl | rfl | rfl | rfl<;>simp)
 simp at this;omega
end
abbrev Tv:=Int×(Int×Int×Int×Int×Unit)×(Int×Int×Int×Int×Unit)×Unit
abbrev Bv:=((Int×Int×Int×Int×Unit)×(Int×Int×Int×Int×Unit)×(Int×Int×Int×Int×Unit)×(Int×Int×Int×Int×Unit)×Unit)×Int×Unit
abbrev rL (t:Tv):List Int:=[t.2.1.1,t.2.1.2.1,t.2.1.2.2.1,t.2.1.2.2.2.1]
abbrev rA (t:Tv):List Int:=[t.2.2.1.1,t.2.2.1.2.1,t.2.2.1.2.2.1,t.2.2.1.2.2.2.1]
def Tr (t:Tv):Tre:=⟨t.1.toNat,fun i q=>bt ((rL t).getD i 0) q,fun i=>(rA t).getD i 0⟩
structure TOk (t:Tv):Prop where
 n:0<=t.1/\t.1<=4
 v:Vld (Tr t)
 b:∀ i,i < 4->B4 ((rL t).getD i 0)
 fill:∀ i:Nat,t.1<=i->i < 4->(rL t).getD i 0=0/\(rA t).getD i 0=0
 rt:0 < t.1->(rA t).getD 0 0 = -1
def nxB (b:Bv) (p letter:Int):Int:=vget (.int .i64) 4 (vget (.pair (.int .i64) (.pair (.int .i64) (.pair (.int .i64) (.pair (.int .i64) .unit)))) 4 b.1 p.toNat) letter.toNat
structure BOk (b:Bv) (letter:Int) (E:Int->Int->Prop) (F:Int->Prop):Prop where
 lt:0<=letter/\letter < 4
 e:∀ p:Int,0<=p->p < 4->B4 (nxB b p letter)/\∀ q,bt (nxB b p letter) q↔E p q
 f:B4 b.2.1/\∀ q,bt b.2.1 q↔F q
section
variable {b:Bv} {letter:Int} {E:Int->Int->Prop} {F:Int->Prop} {t:Tv}
theorem zCh (hb:BOk b letter E F) {t1:Int} (t0:0<=t1) (t4:t1 < 4) {l:List Nd} (hl:l.length<=4) {r3:Int->List Nd->Option (Tv×Int×Unit)} {A:Int}:∀ (n:Nat) (k x:Int),(4 - k).toNat=n->0<=k->k<=4->B4 x->(∀ q,bt x q↔∃ p,p < k/\bt ((rL t).getD t1.toNat 0) p/\E p q)->
  ∃ y,B4 y/\(∀ q,bt y q↔∃ p,bt ((rL t).getD t1.toNat 0) p/\E p q)/\zbd b t letter t1 l r3 k x A true false false=r3 (t1+1) (l++[(y,A,true,false,false,())]):=by
 intro n
 induction n with
 | zero=>
  intro k x hn k0 k1 hx hq;refine ⟨x,hx,fun q=>(hq q).trans ⟨fun ⟨p,_,a⟩=>⟨p,a⟩,fun ⟨p,a,c⟩=>⟨p,by have:=a.1;omega,a,c⟩⟩,?_⟩
  rw [zeD];unfold zaU;rw [if_neg (by simp;omega),zaa (by unfold room;simp;omega),zaa (by unfold fits;omega)]
 | succ n ih=>
  intro k x hn k0 k1 hx hq;have hlt:=hb.lt;rw [zeD];unfold zaU zbn;rw [if_pos (by simp;omega),zaa (by omega),zaa (by omega),zaa (by omega)]
  have hbit:(iand .i64 (ishr .i64 ([t.2.1.1,t.2.1.2.1,t.2.1.2.2.1,t.2.1.2.2.2.1].getD ((t1).toNat) 0) k) (1:Int)=(1:Int))↔bt ((rL t).getD t1.toNat 0) k:=⟨fun h=>⟨by omega,h⟩,fun h=>h.2⟩
  by_cases c:bt ((rL t).getD t1.toNat 0) k
  ·obtain ⟨g1,g2⟩:=hb.e k k0 (by omega)
   obtain ⟨g3,g4⟩:=zzQ hx g1;obtain ⟨y,h1,h2,h3⟩:=ih (k+1) _ (by omega) (by omega) (by omega) g3 (fun q=>by
    rw [g4,g2,hq];constructor
    ·rintro (⟨p,a,d,e⟩ | h)
     ·exact ⟨p,by omega,d,e⟩
     ·exact ⟨k,by omega,c,h⟩
    ·rintro ⟨p,a,d,e⟩;by_cases ep:p=k
     ·rw [ep] at e;exact .inr e
     ·exact .inl ⟨p,by omega,d,e⟩)
   refine ⟨y,h1,h2,?_⟩
   rw [if_pos (decide_eq_true (hbit.2 c)),zaa (by omega),zaa (by omega),zaa (by unfold fits;omega)]
   exact h3
  ·obtain ⟨y,h1,h2,h3⟩:=ih (k+1) x (by omega) (by omega) (by omega) hx (fun q=>by
    rw [hq];constructor
    ·rintro ⟨p,a,d⟩;exact ⟨p,by omega,d⟩
    ·rintro ⟨p,a,d,e⟩;by_cases ep:p=k
     ·rw [ep] at d;exact absurd d c
     ·exact ⟨p,by omega,d,e⟩)
   refine ⟨y,h1,h2,?_⟩
   rw [if_neg (fun hh=>c (hbit.1 (of_decide_eq_true hh))),zaa (by unfold fits;omega)]
   exact h3
structure St1 (t:Tv) (E:Int->Int->Prop) (l:List Nd) (n:Int):Prop where
 len:(l.length:Int)=n
 b:∀ i:Int,0<=i->i < n->B4 (ix l i).1
 lb:∀ i:Int,0<=i->i < n->∀ q,bt (ix l i).1 q↔∃ p,bt ((rL t).getD i.toNat 0) p/\E p q
 r:∀ i:Int,0<=i->i < n->(ix l i).2=((rA t).getD i.toNat 0,true,false,false,())
theorem zCg (hb:BOk b letter E F) (ht:TOk t):∀ (n:Nat) (k:Int) (l:List Nd),(t.1 - k).toNat=n->0<=k->k<=t.1->St1 t E l k->∃ l',St1 t E l' t.1/\zbU b t letter k l=zbM b t 0 l':=by
 have hn4:=ht.n;intro n
 induction n with
 | zero=>
  intro k l hn k0 k1 hs;obtain rfl:k=t.1:=by omega
  refine ⟨l,hs,?_⟩
  rw [zeC];unfold zaT;rw [if_neg (by simp)]
 | succ n ih=>
  intro k l hn k0 k1 hs;have hlen:=hs.len;obtain ⟨y,h1,h2,h3⟩:=zCh (t:=t) hb k0 (by omega) (l:=l) (by omega) (r3:=zbU b t letter) (A:=(rA t).getD k.toNat 0) 4 0 0 rfl (by omega) (by omega) zdq.1 (fun q=>⟨fun h=>absurd h (zdq.2 q),fun ⟨p,a,c,_⟩=>by have:=c.1;omega⟩)
  have eo:∀ i:Int,0<=i->i < k->ix (l++[(y,(rA t).getD k.toNat 0,true,false,false,())]) i=ix l i:=fun i i0 i1=>zai i0 (by omega)
  have en:ix (l++[(y,(rA t).getD k.toNat 0,true,false,false,())]) k=(y,(rA t).getD k.toNat 0,true,false,false,()):=by rw [<- hlen];exact zaR
  obtain ⟨l',g1,g2⟩:=ih (k+1) (l++[(y,(rA t).getD k.toNat 0,true,false,false,())]) (by omega) (by omega) (by omega) ⟨by simp;omega,fun i i0 i1=>by
   by_cases e:i=k
   ·rw [e,en];exact h1
   ·rw [eo i i0 (by omega)];exact hs.b i i0 (by omega),fun i i0 i1=>by
   by_cases e:i=k
   ·rw [e,en];exact h2
   ·rw [eo i i0 (by omega)];exact hs.lb i i0 (by omega),fun i i0 i1=>by
   by_cases e:i=k
   ·rw [e,en]
   ·rw [eo i i0 (by omega)];exact hs.r i i0 (by omega)⟩
  refine ⟨l',g1,?_⟩
  rw [zeC];unfold zaT;rw [if_pos (by simp;omega),zaa (by omega),zaa (by omega)]
  exact h3.trans g2
structure St2 (b:Bv) (l0 l:List Nd) (n k:Int):Prop where
 len:n<=l.length/\l.length<=n+k
 old:∀ i:Int,0<=i->i < n->ix l i=ix l0 i
 new:∀ j:Int,n<=j->j < l.length->∃ i:Int,0<=i/\i < k/\ix l j=(iand .i64 (ix l0 i).1 b.2.1,i,false,false,false,())
 all:∀ i:Int,0<=i->i < k -> ¬ iand .i64 (ix l0 i).1 b.2.1=0->∃ j:Int,n<=j/\j < l.length/\(ix l j).2.1=i
theorem zAH (ht:TOk t) {l0:List Nd} (hl0:(l0.length:Int)=t.1):∀ (n:Nat) (k:Int) (l:List Nd),(t.1 - k).toNat=n->0<=k->k<=t.1->St2 b l0 l t.1 k->∃ l',St2 b l0 l' t.1 t.1/\zbM b t k l=(zhN l').bind (fun y'=>zaE y' 0 y'):=by
 have hn4:=ht.n;intro n
 induction n with
 | zero=>
  intro k l hn k0 k1 hs;obtain rfl:k=t.1:=by omega
  refine ⟨l,hs,?_⟩
  rw [zd6];unfold zaN;rw [if_neg (by simp)]
 | succ n ih=>
  intro k l hn k0 k1 hs;obtain ⟨ln1,ln2⟩:=hs.len;rw [zd6];unfold zaN;rw [if_pos (by simp;omega),zaa (by omega),zaa (by omega),hs.old k k0 (by omega)]
  by_cases c:iand .i64 (ix l0 k).1 b.2.1=0
  ·rw [if_neg (by simpa using c),zaa (by unfold fits;omega)]
   exact ih (k+1) l (by omega) (by omega) (by omega) ⟨⟨ln1,by omega⟩,hs.old,fun j j0 j1=>by
    obtain ⟨i,a,d,e⟩:=hs.new j j0 j1;exact ⟨i,a,by omega,e⟩,fun i i0 i1 hz=>by
    by_cases e:i=k
    ·rw [e] at hz;exact absurd c hz
    ·exact hs.all i i0 (by omega) hz⟩
  ·rw [if_pos (by simpa using c),zaa (by unfold room;simp;omega),zaa (by unfold fits;omega)]
   have eo:∀ i:Int,0<=i->i < l.length->ix (l++[(iand .i64 (ix l0 k).1 b.2.1,k,false,false,false,())]) i=ix l i:=fun i i0 i1=>zai i0 i1
   have en:ix (l++[(iand .i64 (ix l0 k).1 b.2.1,k,false,false,false,())]) (l.length:Int)=(iand .i64 (ix l0 k).1 b.2.1,k,false,false,false,()):=zaR;have hlen:(l++[(iand .i64 (ix l0 k).1 b.2.1,k,false,false,false,())]).length=l.length+1:=by simp
   exact ih (k+1) (l++[(iand .i64 (ix l0 k).1 b.2.1,k,false,false,false,())]) (by omega) (by omega) (by omega) ⟨⟨by omega,by omega⟩,fun i i0 i1=>by rw [eo i i0 (by omega)];exact hs.old i i0 i1,fun j j0 j1=>by
    by_cases e:j=l.length
    ·rw [e,en];exact ⟨k,k0,by omega,rfl⟩
    ·rw [eo j (by omega) (by omega)]
     obtain ⟨i,a,d,f⟩:=hs.new j j0 (by omega)
     exact ⟨i,a,by omega,f⟩,fun i i0 i1 hz=>by
    by_cases e:i=k
    ·exact ⟨l.length,by omega,by omega,by rw [en];exact e.symm⟩
    ·obtain ⟨j,a,d,f⟩:=hs.all i i0 (by omega) hz
     exact ⟨j,a,by omega,by rw [eo j (by omega) d];exact f⟩⟩
end
section
variable {b:Bv} {letter:Int} {E:Int->Int->Prop} {F:Int->Prop} {t:Tv}
structure Lists (t:Tv) (E:Int->Int->Prop) (F:Int->Prop) (l l2:List Nd):Prop where
 fin:Fin2 l l2
 len:t.1<=l.length/\l.length<=8
 pOld:∀ i:Int,0<=i->i < t.1->(ix l i).2.1=(rA t).getD i.toNat 0/\(ix l2 i).2.2.1=true
 pNew:∀ i:Int,t.1<=i->i < l.length->(0<=(ix l i).2.1/\(ix l i).2.1 < t.1)/\(ix l2 i).2.2.1=false
 cOld:∀ i:Int,0<=i->i < t.1->∀ q,bt (ix l i).1 q↔(∃ p,bt ((rL t).getD i.toNat 0) p/\E p q)/\(0<=(ix l i).2.1->bt (ix l (ix l i).2.1).1 q)/\∀ k:Int,0<=k->k < i->(ix l k).2.1=(ix l i).2.1 -> ¬ bt (ix l k).1 q
 cNew:∀ i:Int,t.1<=i->i < l.length->∀ q,bt (ix l i).1 q↔((∃ p,bt ((rL t).getD (ix l i).2.1.toNat 0) p/\E p q)/\F q)/\bt (ix l (ix l i).2.1).1 q/\∀ k:Int,0<=k->k < i->(ix l k).2.1=(ix l i).2.1 -> ¬ bt (ix l k).1 q
 new:∀ i:Int,0<=i->i < t.1->(∃ q,(∃ p,bt ((rL t).getD i.toNat 0) p/\E p q)/\F q)->∃ j:Int,t.1<=j/\j < l.length/\(ix l j).2.1=i
theorem zxU (hb:BOk b letter E F) (ht:TOk t):∃ l l2,Lists t E F l l2/\zbZ b t letter=(zjM l2).bind (fun y=>some y):=by
 have hn4:=ht.n;obtain ⟨l0,s1,e1⟩:=zCg (t:=t) hb ht _ 0 [] rfl (Int.le_refl _) hn4.1 ⟨rfl,fun i a c=>by omega,fun i a c=>by omega,fun i a c=>by omega⟩
 obtain ⟨l1,s2,e2⟩:=zAH (b:=b) ht s1.len _ 0 l0 rfl (Int.le_refl _) hn4.1 ⟨⟨by rw [s1.len];omega,by rw [s1.len];omega⟩,fun _ _ _=>rfl,fun j a c=>by rw [s1.len] at c;omega,fun i a c=>by omega⟩
 obtain ⟨ln1,ln2⟩:=s2.len;have hv:=ht.v;have vn:(Tr t).n=t.1.toNat:=rfl;have p1:∀ i:Int,0<=i->i < t.1->(ix l1 i).2.1=(rA t).getD i.toNat 0:=fun i a c=>by rw [s2.old i a c,s1.r i a c]
 have pl:∀ k:Int,0<=k->k < l1.length->(ix l1 k).2.1 < k:=fun k a c=>by
  by_cases d:k < t.1
  ·rw [p1 k a d];have h1:=hv.par k.toNat (by rw [vn];omega)
   have h2:(Tr t).A k.toNat=(rA t).getD k.toNat 0:=rfl;omega
  ·obtain ⟨i,e,f,g⟩:=s2.new k (by omega) c
   rw [g];show i < k;omega
 have hok:NdOk l1:=⟨by omega,fun k a c=>by
  by_cases d:k < t.1
  ·rw [s2.old k a d];exact s1.b k a d
  ·obtain ⟨i,e,f,g⟩:=s2.new k (by omega) c
   rw [g];exact (zwq (s1.b i e f) hb.f.1).1,pl⟩
 obtain ⟨l,e3,hc⟩:=zxm hok;have hl:=hc.len;have flF:∀ k:Int,0<=k->k < l1.length->(ix l k).2.2.2.2.1=false:=fun k a c=>by
  rw [hc.fl k a c];by_cases d:k < t.1
  ·rw [s2.old k a d,s1.r k a d]
  ·obtain ⟨i,e,f,g⟩:=s2.new k (by omega) c
   rw [g]
 have hsub:∀ k:Int,0<=k->k < l.length->0<=(ix l k).2.1->∀ q,bt (ix l k).1 q->bt (ix l (ix l k).2.1).1 q:=fun k a c h0 q hq=>by
  rw [hc.pa k a (by omega)] at h0 ⊢
  exact ((hc.lb k a (by omega) q).1 hq).2.1 h0
 have hcl:ClOk l:=⟨by omega,fun k a c=>hc.b k a (by omega),fun k a c=>by rw [hc.pa k a (by omega)];exact pl k a (by omega),hsub⟩
 have hf0:Fi l l 0:=by
  refine ⟨rfl,fun _ _ _=>rfl,fun _ _ _=>rfl,fun _ _ _=>rfl,fun k a c => ?_,fun k a c=>flF k a (by omega),fun k a c=>by omega⟩
  rw [hc.gn k a (by omega)]
  refine ⟨.inl,fun h=>h.elim id fun ⟨h0,h1⟩ => ?_⟩
  have hpk:=hcl.p k a c;rcases h1 with h1 | h1
  ·have hz:=(hc.gn _ h0 (by omega)).1 h1
   refine Classical.byContradiction fun hne => ?_
   obtain ⟨q,hq⟩:=(zt7 (hcl.b k a c)).1 hne;have:=hsub k a c h0 q hq;rw [hz] at this;exact zdq.2 q this
  ·rw [flF _ h0 (by omega)] at h1;cases h1
 obtain ⟨l2,hf,e4⟩:=zxw hcl rfl _ 0 l rfl (Int.le_refl _) (by omega) hf0
 refine ⟨l,l2,⟨⟨hcl,hf,fun j k a c d e q hj hk => ?_,fun k a c d => ?_⟩,by omega,fun i a c=>⟨?_,?_⟩,fun i a c => ?_,fun i a c q => ?_,fun i a c q => ?_,fun i a c hq => ?_⟩,?_⟩
 ·rw [hc.pa j a (by omega),hc.pa k (by omega) (by omega)] at e
  exact ((hc.lb k (by omega) (by omega) q).1 hk).2.2 j a c e hj
 ·rw [hc.pa k a (by omega)] at d
  by_cases e:k < t.1
  ·rw [p1 k a e] at d;have h1:=(hv.root k.toNat (by rw [vn];omega)).1 d
   omega
  ·obtain ⟨i,e,f,g⟩:=s2.new k (by omega) (by omega)
   rw [g] at d;have d:i < 0:=d;omega
 ·rw [hc.pa i a (by omega)];exact p1 i a c
 ·rw [hf.ol i a (by omega),hc.ol i a (by omega),s2.old i a c,s1.r i a c]
 ·obtain ⟨i',e,f,g⟩:=s2.new i a (by omega)
  rw [hc.pa i (by omega) (by omega),hf.ol i (by omega) (by omega),hc.ol i (by omega) (by omega),g]
  exact ⟨⟨e,f⟩,rfl⟩
 ·rw [hc.lb i a (by omega) q,hc.pa i a (by omega),s2.old i a c,s1.lb i a c q]
  refine and_congr Iff.rfl (and_congr Iff.rfl (forall_congr' fun k=>forall_congr' fun k0=>forall_congr' fun k1 => ?_))
  rw [hc.pa k k0 (by omega),s2.old k k0 (by omega)]
 ·obtain ⟨i',e,f,g⟩:=s2.new i a (by omega)
  have gP:(ix l i).2.1=i':=by rw [hc.pa i (by omega) (by omega),g]
  have gP1:(ix l1 i).2.1=i':=by rw [g]
  rw [hc.lb i (by omega) (by omega) q,gP,gP1]
  obtain ⟨_,a2⟩:=zwq (s1.b i' e f) hb.f.1;have gL:bt (ix l1 i).1 q↔(∃ p,bt ((rL t).getD i'.toNat 0) p/\E p q)/\F q:=by
   rw [g];exact (a2 q).trans (and_congr (s1.lb i' e f q) (hb.f.2 q))
  rw [gL];refine and_congr Iff.rfl (and_congr ⟨fun h=>h e,fun h _=>h⟩ (forall_congr' fun k=>forall_congr' fun k0=>forall_congr' fun k1 => ?_))
  rw [hc.pa k k0 (by omega)]
 ·obtain ⟨a1,a2⟩:=zwq (s1.b i a c) hb.f.1;obtain ⟨q,hq1,hq2⟩:=hq;obtain ⟨j,j0,j1,j2⟩:=s2.all i a c ((zt7 a1).2 ⟨q,(a2 q).2 ⟨(s1.lb i a c q).2 hq1,(hb.f.2 q).2 hq2⟩⟩);exact ⟨j,j0,by omega,by rw [hc.pa j (by omega) (by omega)];exact j2⟩
 ·unfold zbZ;rw [e1,e2,e3];exact e4
theorem zzD (hb:BOk b letter E F) (ht:TOk t):∃ t' m d,zbZ b t letter=some (t',m,())/\TOk t'/\(1<=m/\m<=9)/\IsStep E F (Tr t) d (Tr t') m:=by
 have hn4:=ht.n;obtain ⟨l,l2,hL,e⟩:=zxU hb ht;obtain ⟨ln1,ln2⟩:=hL.len;have hfin:=hL.fin;have hf:=hfin.f;have hl2:=hf.len;have four:=hfin.four;have gpar:∀ k:Int,0<=k->k < l.length -> ¬ (ix l2 k).2.2.2.1=true->0<=(ix l k).2.1 -> ¬ (ix l2 (ix l k).2.1).2.2.2.1=true:=fun k k0 k1 hg hp hh=>hg ((hf.gn k k0 k1).2 (.inr ⟨hp,.inl hh⟩))
 obtain ⟨L,A,N,m,hT,hM,e2⟩:=zzH (l:=l2) (by omega) (fun k a c=>by rw [hf.pa k a (by omega)];exact hfin.c.p k a (by omega)) (fun k a c g h0=>by
  rw [hf.pa k a (by omega)] at h0 ⊢
  exact gpar k a (by omega) g h0) (by rw [hl2];exact four)
 rw [hl2] at e2 hT hM;have hLl:=hT.lL;have hAl:=hT.lA;have hkp:=zp9 (l:=l2) l.length;have lab:∀ i:Nat,i < l.length -> ¬ (ix l2 (i:Int)).2.2.2.1=true->ix L (kp l2 i)=(ix l (i:Int)).1:=fun i a c=>(hT.lab i a c).trans (hf.lb i (by omega) (by omega))
 have abv:∀ i:Nat,i < l.length -> ¬ (ix l2 (i:Int)).2.2.2.1=true->ix A (kp l2 i)=if 0<=(ix l (i:Int)).2.1 then kp l2 (ix l (i:Int)).2.1.toNat else -1:=fun i a c=>by
  have:=hT.abv i a c
  rwa [hf.pa i (by omega) (by omega)] at this
 have kp4:∀ i:Nat,i < l.length -> ¬ (ix l2 (i:Int)).2.2.2.1=true->0<=kp l2 i/\kp l2 i < kp l2 l.length:=fun i a c=>⟨(zp9 i).1,zAh a c⟩
 let t':Tv:=(kp l2 l.length,(L.getD 0 0,L.getD 1 0,L.getD 2 0,L.getD 3 0,()),(A.getD 0 0,A.getD 1 0,A.getD 2 0,A.getD 3 0,()),())
 let d:SD:=⟨l.length,fun i q=>bt (ix l (i:Int)).1 q,fun i=>(ix l (i:Int)).2.1,fun i=>(ix l2 (i:Int)).2.2.2.1=true,fun i=>(ix l2 (i:Int)).2.2.2.2.1=true,fun i=>(kp l2 i).toNat⟩
 have tL:∀ k:Nat,(rL t').getD k 0=ix L (k:Int):=fun k=>by
  show [L.getD 0 0,L.getD 1 0,L.getD 2 0,L.getD 3 0].getD k 0=_;rw [zvX hLl];rfl
 have tA:∀ k:Nat,(rA t').getD k 0=ix A (k:Int):=fun k=>by
  show [A.getD 0 0,A.getD 1 0,A.getD 2 0,A.getD 3 0].getD k 0=_;rw [zvX hAl];rfl
 have hstep:IsStep E F (Tr t) d (Tr t') m:=by
  have vn:(Tr t).n=t.1.toNat:=rfl;have vn':(Tr t').n=(kp l2 l.length).toNat:=rfl;refine { hN := ?_,pOld := ?_,pNew := ?_,cOld := ?_,cNew := ?_,new := ?_,gNot := ?_,gRoot := ?_,gEmp := ?_,gFl := ?_,gPar := ?_,flU := ?_,flN := ?_,nuS := ?_,nuI := ?_,nuLe := ?_,nuEq := ?_,nuLt := ?_,onto := ?_,lab := ?_,abv := ?_,mGone := ?_,mFl := ?_,mIs := ?_ }
  ·show t.1.toNat<=l.length;omega
  ·intro i hi;rw [vn] at hi;exact (hL.pOld i (by omega) (by omega)).1
  ·intro i hi hd;have hd:i < l.length:=hd;rw [vn] at hi;have:=(hL.pNew i (by omega) (by omega)).1
   show 0<=(ix l (i:Int)).2.1/\(ix l (i:Int)).2.1 < (t.1.toNat:Int);omega
  ·intro i hi q;rw [vn] at hi;refine (hL.cOld i (by omega) (by omega) q).trans (and_congr Iff.rfl (and_congr ?_ ?_))
   ·refine forall_congr' fun h0 => ?_
    show _↔bt (ix l (((ix l (i:Int)).2.1.toNat:Nat):Int)).1 q;rw [Int.toNat_of_nonneg h0]
   ·exact ⟨fun h k hk hp=>h k (by omega) (by omega) hp,fun h k k0 k1 hp=>by
     have:=h k.toNat (by omega) (by show (ix l ((k.toNat:Nat):Int)).2.1=_;rw [Int.toNat_of_nonneg k0];exact hp)
     have this : ¬ bt (ix l ((k.toNat:Nat):Int)).1 q:=this
     rwa [Int.toNat_of_nonneg k0] at this⟩
  ·intro i hi hd q;have hd:i < l.length:=hd;rw [vn] at hi;have h0:=(hL.pNew i (by omega) (by omega)).1
   refine (hL.cNew i (by omega) (by omega) q).trans (and_congr Iff.rfl (and_congr ?_ ?_))
   ·show _↔bt (ix l (((ix l (i:Int)).2.1.toNat:Nat):Int)).1 q;rw [Int.toNat_of_nonneg h0.1]
   ·exact ⟨fun h k hk hp=>h k (by omega) (by omega) hp,fun h k k0 k1 hp=>by
     have:=h k.toNat (by omega) (by show (ix l ((k.toNat:Nat):Int)).2.1=_;rw [Int.toNat_of_nonneg k0];exact hp)
     have this : ¬ bt (ix l ((k.toNat:Nat):Int)).1 q:=this
     rwa [Int.toNat_of_nonneg k0] at this⟩
  ·intro i hi hq;rw [vn] at hi;obtain ⟨j,j0,j1,j2⟩:=hL.new i (by omega) (by omega) hq
   exact ⟨j.toNat,by rw [vn];omega,by show j.toNat < l.length;omega,by show (ix l ((j.toNat:Nat):Int)).2.1=_;rw [Int.toNat_of_nonneg (by omega)];exact j2⟩
  ·intro i hd hq h0 hg hfl hgi;have hd:i < l.length:=hd;have h0:0<=(ix l (i:Int)).2.1:=h0;have hg : ¬ (ix l2 (((ix l (i:Int)).2.1.toNat:Nat):Int)).2.2.2.1=true:=hg;have hfl : ¬ (ix l2 (((ix l (i:Int)).2.1.toNat:Nat):Int)).2.2.2.2.1=true:=hfl;rw [Int.toNat_of_nonneg h0] at hg hfl;rcases (hf.gn i (by omega) (by omega)).1 hgi with h | ⟨_,h | h⟩
   ·exact (zt7 (hfin.c.b i (by omega) (by omega))).2 hq h
   ·exact hg h
   ·exact hfl h
  ·intro i hd hq h0 hgi;have hd:i < l.length:=hd;have h0:(ix l (i:Int)).2.1 < 0:=h0;rcases (hf.gn i (by omega) (by omega)).1 hgi with h | ⟨h,_⟩
   ·exact (zt7 (hfin.c.b i (by omega) (by omega))).2 hq h
   ·omega
  ·intro i hd hg;have hd:i < l.length:=hd;exact (zt7 (hfin.c.b i (by omega) (by omega))).1 fun hz=>hg ((hf.gn i (by omega) (by omega)).2 (.inl hz))
  ·intro i hd h0 hfl;have hd:i < l.length:=hd;have h0:0<=(ix l (i:Int)).2.1:=h0;have hfl:(ix l2 (((ix l (i:Int)).2.1.toNat:Nat):Int)).2.2.2.2.1=true:=hfl;rw [Int.toNat_of_nonneg h0] at hfl;exact (hf.gn i (by omega) (by omega)).2 (.inr ⟨h0,.inr hfl⟩)
  ·intro i hd h0 hg hgp;have hd:i < l.length:=hd;have h0:0<=(ix l (i:Int)).2.1:=h0;have hgp:(ix l2 (((ix l (i:Int)).2.1.toNat:Nat):Int)).2.2.2.1=true:=hgp;rw [Int.toNat_of_nonneg h0] at hgp;exact hg ((hf.gn i (by omega) (by omega)).2 (.inr ⟨h0,.inl hgp⟩))
  ·intro i hd hfl q hq;have hd:i < l.length:=hd;obtain ⟨j,j0,j1,j2,j3⟩:=(hf.fc i (by omega) (by omega)).1 hfl q hq
   exact ⟨j.toNat,by show j.toNat < l.length;omega,by show (ix l ((j.toNat:Nat):Int)).2.1=_;rw [Int.toNat_of_nonneg (by omega)];exact j2,by show bt (ix l ((j.toNat:Nat):Int)).1 q;rw [Int.toNat_of_nonneg (by omega)];exact j3⟩
  ·intro i hd hg hfl;have hd:i < l.length:=hd;have hg : ¬ (ix l2 (i:Int)).2.2.2.1=true:=hg;have hfl : ¬ (ix l2 (i:Int)).2.2.2.2.1=true:=hfl;obtain ⟨q,hq,hno⟩:=(hf.fc i (by omega) (by omega)).2 (by simpa using hg) (by simpa using hfl)
   refine ⟨q,hq,fun k hk hp hh=>hno ⟨k,by omega,?_,hp,hh⟩⟩
   have hk:k < l.length:=hk;omega
  ·intro i hd hg;have hd:i < l.length:=hd;have:=kp4 i hd hg;show (kp l2 i).toNat < (kp l2 l.length).toNat;omega
  ·intro i j hij hd hg _;have:=zAh (l:=l2) hij hg;have:=(zp9 (l:=l2) i).1;show (kp l2 i).toNat < (kp l2 j).toNat;omega
  ·intro i;have:=zp9 (l:=l2) i;show (kp l2 i).toNat<=i;omega
  ·intro i hd hg;have:=kp_eq (l:=l2) hg;show (kp l2 i).toNat=i;omega
  ·intro i j hij hd hg;have:=zBR (l:=l2) hij hg;have:=(zp9 (l:=l2) i).1;show (kp l2 i).toNat < i;omega
  ·intro k hk;rw [vn'] at hk;obtain ⟨i,a,c,f⟩:=zvU (l:=l2) (t:=l.length) (k:=(k:Int)) (by omega) (by omega)
   exact ⟨i,a,c,by show (kp l2 i).toNat=k;omega⟩
  ·intro i hd hg q;have hd:i < l.length:=hd;have:=kp4 i hd hg;show bt ((rL t').getD (kp l2 i).toNat 0) q↔_;rw [tL,Int.toNat_of_nonneg this.1,lab i hd hg]
  ·intro i hd hg;have hd:i < l.length:=hd;have:=kp4 i hd hg;show (rA t').getD (kp l2 i).toNat 0=if 0<=(ix l (i:Int)).2.1 then (((kp l2 (ix l (i:Int)).2.1.toNat).toNat:Nat):Int) else -1
   rw [tA,Int.toNat_of_nonneg this.1,abv i hd hg];have:=(zp9 (l:=l2) (ix l (i:Int)).2.1.toNat).1
   split<;>omega
  ·intro i hi hg;rw [vn] at hi;exact hM.gone i (by omega) (by omega) (hL.pOld i (by omega) (by omega)).2 hg
  ·intro i hi hfl hg;rw [vn] at hi;have hg : ¬ (ix l2 (i:Int)).2.2.2.1=true:=hg;exact hM.fl i (by omega) (by omega) (hL.pOld i (by omega) (by omega)).2 (by simpa using hg) hfl
  ·rcases hM.is with h | ⟨i,⟨i0,i1⟩,ho,hg,h⟩ | ⟨i,⟨i0,i1⟩,ho,hg,hfl,h⟩
   ·exact .inl h
   ·have hlt:i < t.1:=Classical.byContradiction fun hno=>by
     have:=(hL.pNew i (by omega) (by omega)).2;rw [ho] at this;cases this
    refine .inr (.inl ⟨i.toNat,by rw [vn];omega,?_,by omega⟩)
    show (ix l2 ((i.toNat:Nat):Int)).2.2.2.1=true;rw [Int.toNat_of_nonneg i0];exact hg
   ·have hlt:i < t.1:=Classical.byContradiction fun hno=>by
     have:=(hL.pNew i (by omega) (by omega)).2;rw [ho] at this;cases this
    refine .inr (.inr ⟨i.toNat,by rw [vn];omega,?_,?_,by omega⟩)
    ·show ¬ (ix l2 ((i.toNat:Nat):Int)).2.2.2.1=true;rw [Int.toNat_of_nonneg i0,hg];simp
    ·show (ix l2 ((i.toNat:Nat):Int)).2.2.2.2.1=true;rw [Int.toNat_of_nonneg i0];exact hfl
 refine ⟨t',m,d,?_,⟨⟨hkp.1,by omega⟩,hstep.vld ht.v,fun i hi => ?_,fun i h0 h4 => ?_,fun h0 => ?_⟩,⟨?_,hM.le⟩,hstep⟩
 ·rw [e,e2];rfl
 ·rw [tL];by_cases c:(i:Int) < kp l2 l.length
  ·obtain ⟨j,a,c2,f⟩:=zvU (l:=l2) (t:=l.length) (k:=(i:Int)) (by omega) c
   rw [<- f,lab j a c2];exact hfin.c.b j (by omega) (by omega)
  ·rw [(hT.fill i (by omega) (by omega)).1];exact zdq.1
 ·rw [tL,tA];have h0:kp l2 l.length<=(i:Int):=h0;exact hT.fill i (by omega) (by omega)
 ·have h0:0 < kp l2 l.length:=h0;obtain ⟨j,a,c2,f⟩:=zvU (l:=l2) (t:=l.length) (k:=0) (by omega) h0
  have h1:=abv j a c2;rw [f] at h1;have h2:(rA t').getD 0 0=ix A 0:=tA 0;rw [h2,h1];by_cases c:0<=(ix l (j:Int)).2.1
  ·exfalso;have hp:=hfin.c.p (j:Int) (by omega) (by omega)
   have hg:=gpar (j:Int) (by omega) (by omega) c2 c
   rw [<- Int.toNat_of_nonneg c] at hg;have:=zAh (l:=l2) (s:=(ix l (j:Int)).2.1.toNat) (t:=j) (by omega) hg
   have:=(zp9 (l:=l2) (ix l (j:Int)).2.1.toNat).1;omega
  ·rw [if_neg c]
 ·rcases hM.is with h | ⟨i,⟨i0,i1⟩,ho,hg,h⟩ | ⟨i,⟨i0,i1⟩,ho,hg,hfl,h⟩<;>omega
end
abbrev Pl:=Tv×Int×Unit
section
variable {g:Int} {nx:Pl->Int->Pl} {mk:Pl->Int} {first:Pl} {B:Nat} {P:Pl->Prop} {c:Bv}
theorem zqY (hx:XOk nx mk g.toNat first B P) (hB:B < 1048576) (hB3:B<=20000) (h1:1<=g/\g<=4) (hnx:∀ s,P s->∀ t,0<=t->t < g->zbB s t c=some (nx s t,c)) (hmk:∀ s,P s->zdz s=some (mk s)) {s:Pl} {l:List Pl} {L0:List Pl} {D2:List (List Int)} {D3:List Int} {r4} (hs:P s) (hl:LiOk B P l) (eL:ix L0 (D2.length:Int)=s) (h2:D2.length<=20000) (h3:D3.length<=20000):
  zbv g 1048576 g 0 L0 D2 D3 r4 0 c l (iota l.length) l (List.replicate g.toNat 0)=
   r4 c g 0 (xRow nx s l g.toNat).1 (iota (xRow nx s l g.toNat).1.length) (xRow nx s l g.toNat).1 (D2++[(xRow nx s l g.toNat).2]) (D3++[mk s]):=by
 have key:∀ (n t:Nat) (row:List Int),g.toNat - t=n->t<=g.toNat->row.length=g.toNat->(∀ j:Int,0<=j->j < t->ix row j=ix (xRow nx s l t).2 j)->
   zbv g 1048576 g 0 L0 D2 D3 r4 t c (xRow nx s l t).1 (iota (xRow nx s l t).1.length) (xRow nx s l t).1 row=
   r4 c g 0 (xRow nx s l g.toNat).1 (iota (xRow nx s l g.toNat).1.length) (xRow nx s l g.toNat).1 (D2++[(xRow nx s l g.toNat).2]) (D3++[mk s]):=by
  intro n
  induction n with
  | zero=>
   intro t row hn ht hr hj;obtain rfl:t=g.toNat:=by omega
   obtain ⟨g1,⟨_,g2,_⟩⟩:=zt4 hx hs hl g.toNat (Nat.le_refl _);have:row=(xRow nx s l g.toNat).2:=zuF (by omega) fun j j0 j1=>hj j j0 (by omega)
   rw [zjb];unfold zb2;rw [if_neg (by simp;omega),this]
   refine G_to (by unfold room;simp;omega) ?_
   rw [eL];exact zac (hmk s hs) (G_to (by unfold room;simp;omega) rfl)
  | succ n ih=>
   intro t row hn ht hr hj;obtain ⟨g1,⟨_,g2,_⟩⟩:=zt4 hx hs hl t (by omega)
   have hlen:=g1.len hx;have ih':=fun row=>ih (t+1) row (by omega) (by omega)
   rw [zjb];unfold zb2 zcS;rw [if_pos (by simp;omega),eL]
   refine zac (hnx s hs t (by omega) (by omega)) ?_
   show (if (!(mhas (xRow nx s l t).1 (nx s t)))=true then
    if decide (((xRow nx s l t).1.length:Int)=1048576)=true then _ else
     G (room (xRow nx s l t).1 [nx s t] _) (G _ (G _ (G _ (zbv g 1048576 g 0 L0 D2 D3 r4 (t+1) c (znl (xRow nx s l t).1 (nx s t)) (znm (xRow nx s l t).1 (iota (xRow nx s l t).1.length) (nx s t) ((xRow nx s l t).1.length:Int)) ((xRow nx s l t).1++[nx s t]) (row.set ((t:Int)).toNat ((xRow nx s l t).1.length:Int)))))) else
    G _ (G _ (G _ (zbv g 1048576 g 0 L0 D2 D3 r4 (t+1) c _ _ _ (row.set ((t:Int)).toNat (mget (xRow nx s l t).1 (iota (xRow nx s l t).1.length) (nx s t) 0))))))=_
   cases e:zbG (xRow nx s l t).1 (nx s t) with
   | some j=>
    rw [zr9 e] at ih';have hm:mhas (xRow nx s l t).1 (nx s t)=true:=by unfold mhas;rw [e];rfl
    rw [if_neg (by rw [hm];simp),zro e]
    refine G_to (by omega) (G_to (by omega) (G_to (by unfold fits;omega) ?_))
    refine ih' (row.set ((t:Int)).toNat (j:Int)) (by rw [List.length_set];exact hr) (fun k k0 k1 => ?_)
    by_cases c:k < t
    ·rw [zat (by omega) k0 (by omega),zai k0 (by omega)];exact hj k k0 c
    ·obtain rfl:k=(t:Int):=by omega
     rw [zap k0 (by omega)]
     have:(t:Int)=((xRow nx s l t).2.length:Int):=by omega
     rw [this,zaR]
   | none=>
    rw [zr8 e] at ih';have hnm:=zcA.1 e;have hm:mhas (xRow nx s l t).1 (nx s t)=false:=by unfold mhas;rw [e];rfl
    rw [if_pos (by rw [hm];rfl),if_neg (by simp;omega),zrq hnm,zo0 hnm]
    refine G_to (by unfold room;simp;omega) (G_to (by omega) (G_to (by omega) (G_to (by unfold fits;omega) ?_)))
    refine ih' (row.set ((t:Int)).toNat ((xRow nx s l t).1.length:Int)) (by rw [List.length_set];exact hr) (fun k k0 k1 => ?_)
    by_cases c:k < t
    ·rw [zat (by omega) k0 (by omega),zai k0 (by omega)];exact hj k k0 c
    ·obtain rfl:k=(t:Int):=by omega
     rw [zap k0 (by omega)]
     have:(t:Int)=((xRow nx s l t).2.length:Int):=by omega
     rw [this,zaR]
 exact key _ 0 _ rfl (by omega) (by rw [List.length_replicate]) (fun j j0 j1=>by omega)
theorem zp7 (hx:XOk nx mk g.toNat first B P) (hB:B < 1048576) (hB3:B<=20000) (h1:1<=g/\g<=4) (hnx:∀ s,P s->∀ t,0<=t->t < g->zbB s t c=some (nx s t,c)) (hmk:∀ s,P s->zdz s=some (mk s)) {n:Nat} (hg:XGo nx mk g.toNat first n) (hn:(xSt nx mk g.toNat first n).1.length=n):zhk g first 1048576 c=some (xAut nx mk g.toNat first n,true,c):=by
 have key:∀ (f i:Nat),n - i=f->i<=n->zf5 g 1048576 c g 0 (xSt nx mk g.toNat first i).1 (iota (xSt nx mk g.toNat first i).1.length) (xSt nx mk g.toNat first i).1 (xSt nx mk g.toNat first i).2.1 (xSt nx mk g.toNat first i).2.2=some (xAut nx mk g.toNat first n,true,c):=by
  intro f
  induction f with
  | zero=>
   intro i hf hi;obtain rfl:i=n:=by omega
   obtain ⟨g1,g2,g3⟩:=zmb hx i hg;have hr:=g3.r;rw [zja];unfold zb1;rw [if_neg (by rw [decide_eq_true_iff];omega)]
   unfold xAut;rw [Int.toNat_of_nonneg (by omega)]
  | succ f ih=>
   intro i hf hi;obtain ⟨g1,g2,g3⟩:=zmb hx i (fun k hk=>hg k (by omega))
   have hlt:=hg i (by omega)
   have hr:=g3.r;have hm:=g3.m;have hlen:=g1.len hx;have hP:=g1.p _ (za5 (i:=(i:Int)) (by omega) (by omega))
   rw [zja];unfold zb1;rw [if_pos (by rw [decide_eq_true_iff];omega)]
   refine G_to (by omega) (G_to (by omega) (G_to (by unfold mkOK;omega) ?_))
   rw [zqY hx hB hB3 h1 hnx hmk hP g1 (by rw [hr]) (by omega) (by omega)]
   exact ih (i+1) (by omega) (by omega)
 unfold zhk;exact key _ 0 rfl (by omega)
end
open Classical in
def topN (P:Nat->Prop):Nat->Nat
 | 0=>0
 | n+1=>if P n then n+1 else topN P n
section
variable {P:Nat->Prop}
theorem zzJ:∀ n,topN P n<=n
 | 0=>Nat.le_refl _
 | n+1=>by have:=zzJ n;unfold topN;split<;>omega
theorem zwk {i:Nat} (h:P i):∀ n,i < n->i+1<=topN P n
 | 0,hn=>by omega
 | n+1,hn=>by
  unfold topN;by_cases c:P n
  ·rw [if_pos c];omega
  ·rw [if_neg c];by_cases e:i=n
   ·rw [e] at h;exact absurd h c
   ·exact zwk h n (by omega)
theorem zt1 {i:Nat}:∀ n,topN P n=i+1->i < n/\P i
 | 0,h=>by unfold topN at h;omega
 | n+1,h=>by
  unfold topN at h;by_cases c:P n
  ·rw [if_pos c] at h;have:i=n:=by omega
   rw [this];exact ⟨by omega,c⟩
  ·rw [if_neg c] at h;have:=zt1 n h;exact ⟨by omega,this.2⟩
end
section
variable {T T':Tre}
theorem Vld.chain (h:Vld T) {q:Int}:∀ (n i j:Nat),j<=n->i < j->j < T.n->T.L i q->T.L j q->∃ k,i < k/\k<=j/\T.A k=i/\T.L k q:=by
 intro n
 induction n with
 | zero=>intro i j hn hij;omega
 | succ n ih=>
  intro i j hn hij hj qi qj;have pj:=h.par j hj;have pi:=h.par i (by omega)
  have rj:0<=T.A j:=by
   have:=(h.root j hj).1;omega
  have qpj:=h.sub j hj rj q qj;by_cases e:T.A j=i
  ·exact ⟨j,hij,Nat.le_refl _,e,qj⟩
  by_cases c:(i:Int) < T.A j
  ·obtain ⟨k,a,b,d⟩:=ih i (T.A j).toNat (by omega) (by omega) (by omega) qi qpj
   exact ⟨k,a,by omega,d⟩
  exfalso;by_cases e2:T.A i=T.A j
  ·exact h.dis i j hij hj e2 q qi qj
  by_cases c2:T.A i < T.A j
  ·obtain ⟨k,a,b,d,f⟩:=ih (T.A j).toNat i (by omega) (by omega) (by omega) qpj qi
   exact h.dis k j (by omega) hj (by omega) q f qj
  ·obtain ⟨k,a,b,d,f⟩:=ih (T.A j).toNat (T.A i).toNat (by omega) (by omega) (by omega) qpj (h.sub i (by omega) (by omega) q qi)
   exact h.dis k j (by omega) hj (by omega) q f qj
theorem Vld.owned (h:Vld T) {i:Nat} (hi:i < T.n):∃ q,T.L i q/\topN (fun j=>T.L j q) T.n=i+1:=by
 obtain ⟨q,hq,hno⟩:=h.str i hi;refine ⟨q,hq,?_⟩
 have h1:=zwk (P:=fun j=>T.L j q) hq T.n hi
 obtain ⟨o,ho⟩:∃ o,topN (fun j=>T.L j q) T.n=o+1:=⟨_,(Nat.succ_pred (by omega)).symm⟩
 obtain ⟨a,b⟩:=zt1 _ ho;by_cases e:o=i
 ·rw [ho,e]
 ·obtain ⟨k,c,d,f,g⟩:=h.chain _ i o (Nat.le_refl _) (by omega) a hq b
  exact absurd g (hno k (by omega) f)
theorem Vld.same (h:Vld T) (h':Vld T') (hn:T.n=T'.n) (hA:∀ i,i < T.n->T.A i=T'.A i) {q:Int} (ho:topN (fun j=>T.L j q) T.n=topN (fun j=>T'.L j q) T'.n) {i:Nat} (hi:i < T.n) (hq:T.L i q):T'.L i q:=by
 have h1:=zwk (P:=fun j=>T.L j q) hq T.n hi
 obtain ⟨o,e⟩:∃ o,topN (fun j=>T.L j q) T.n=o+1:=⟨_,(Nat.succ_pred (by omega)).symm⟩
 obtain ⟨a,b⟩:=zt1 _ e;rw [e] at ho;obtain ⟨a',b'⟩:=zt1 _ ho.symm;have key:∀ (n i:Nat),o - i<=n->i<=o->T.L i q->T'.L i q:=by
  intro n
  induction n with
  | zero=>
   intro i hn hio hq;obtain rfl:i=o:=by omega
   exact b'
  | succ n ih=>
   intro i hn hio hq;by_cases e2:i=o
   ·rw [e2];exact b'
   ·obtain ⟨k,c,d,f,g⟩:=h.chain _ i o (Nat.le_refl _) (by omega) a hq b
    have g':=ih k (by omega) d g
    have f':T'.A k=i:=by rw [<- hA k (by omega)];exact f
    have:=h'.sub k (by omega) (by omega) q g'
    rwa [f',Int.toNat_natCast] at this
 exact key _ i (Nat.le_refl _) (by omega) hq
end
def own (t:Tv) (q:Int):Int:=(topN (fun j=>(Tr t).L j q) (Tr t).n:Int)
def zgc (t:Tv):Int:=
 if t.1=0 then 0 else if t.1=1 then 1+(own t 0+2 * own t 1+4 * own t 2+8 * own t 3) else if t.1=2 then 17+(own t 0+3 * own t 1+9 * own t 2+27 * own t 3)
 else if t.1=3 then 98+((rA t).getD 2 0 * 256+(own t 0+4 * own t 1+16 * own t 2+64 * own t 3))
 else 610+(((rA t).getD 2 0 * 3+(rA t).getD 3 0) * 256+(own t 0 - 1+4 * (own t 1 - 1)+16 * (own t 2 - 1)+64 * (own t 3 - 1)))
def zC4 (a b c d:Fin 5):Bool := !((a==1 || b==1 || c==1 || d==1) && (a==2 || b==2 || c==2 || d==2) && (a==3 || b==3 || c==3 || d==3) && (a==4 || b==4 || c==4 || d==4)) || (a != 0 && b != 0 && c != 0 && d != 0)
theorem zz5:∀ a b c d:Fin 5,zC4 a b c d=true:=by decide+kernel
theorem zz4 {a b c d:Int} (ha:0<=a/\a<=4) (hb:0<=b/\b<=4) (hc:0<=c/\c<=4) (hd:0<=d/\d<=4) (h:∀ i:Int,1<=i->i<=4->a=i\/b=i\/c=i\/d=i):1<=a/\1<=b/\1<=c/\1<=d:=by
 have to:∀ {x:Int} (hx:0<=x/\x<=4),∃ y:Fin 5,x=(y.val:Int):=fun {x} hx=>⟨⟨x.toNat,by omega⟩,by show x=(x.toNat:Int);omega⟩
 obtain ⟨a,rfl⟩:=to ha;obtain ⟨b,rfl⟩:=to hb;obtain ⟨c,rfl⟩:=to hc;obtain ⟨d,rfl⟩:=to hd;have eqv:∀ (x:Fin 5) (k:Nat) (hk:k < 5),(x.val:Int)=(k:Int)->x=⟨k,hk⟩:=fun x k hk e=>Fin.ext (by show x.val=k;omega)
 have conv:∀ (k:Nat) (hk:k < 5),1<=k->(a=⟨k,hk⟩\/b=⟨k,hk⟩\/c=⟨k,hk⟩\/d=⟨k,hk⟩):=fun k hk h1=>(h (k:Int) (by omega) (by omega)).imp (eqv a k hk) (Or.imp (eqv b k hk) (Or.imp (eqv c k hk) (eqv d k hk)))
 have k:=zz5 a b c d;have c1:=conv 1 (by omega) (by omega)
 have c2:=conv 2 (by omega) (by omega)
 have c3:=conv 3 (by omega) (by omega)
 have c4:=conv 4 (by omega) (by omega)
 have c1:(a=1\/b=1\/c=1\/d=1):=c1;have c2:(a=2\/b=2\/c=2\/d=2):=c2;have c3:(a=3\/b=3\/c=3\/d=3):=c3;have c4:(a=4\/b=4\/c=4\/d=4):=c4;have k:(¬ ((a=1\/b=1\/c=1\/d=1)/\(a=2\/b=2\/c=2\/d=2)/\(a=3\/b=3\/c=3\/d=3)/\(a=4\/b=4\/c=4\/d=4)))\/(a≠0/\b≠0/\c≠0/\d≠0):=by
  unfold zC4 at k;simp only [Bool.or_eq_true,Bool.and_eq_true,Bool.not_eq_true',beq_iff_eq,bne_iff_ne,ne_eq,Bool.and_eq_false_iff,Bool.or_eq_false_iff,beq_eq_false_iff_ne] at k;rcases k with k | k
  ·left
   rintro ⟨g1,g2,g3,g4⟩;rcases k with ((k | k) | k) | k
   ·rcases g1 with g | g | g | g
    ·exact k.1.1.1 g
    ·exact k.1.1.2 g
    ·exact k.1.2 g
    ·exact k.2 g
   ·rcases g2 with g | g | g | g
    ·exact k.1.1.1 g
    ·exact k.1.1.2 g
    ·exact k.1.2 g
    ·exact k.2 g
   ·rcases g3 with g | g | g | g
    ·exact k.1.1.1 g
    ·exact k.1.1.2 g
    ·exact k.1.2 g
    ·exact k.2 g
   ·rcases g4 with g | g | g | g
    ·exact k.1.1.1 g
    ·exact k.1.1.2 g
    ·exact k.1.2 g
    ·exact k.2 g
  ·right;exact ⟨k.1.1.1,k.1.1.2,k.1.2,k.2⟩
 obtain ⟨h1,h2,h3,h4⟩:=k.resolve_left (fun hh=>hh ⟨c1,c2,c3,c4⟩)
 have pos:∀ {x:Fin 5},x≠0->1<=(x.val:Int):=fun {x} hx=>by
  have:x.val≠0:=fun e=>hx (Fin.ext e)
  omega
 exact ⟨pos h1,pos h2,pos h3,pos h4⟩
section
variable {t t':Tv}
theorem ziB (h:TOk t) (q:Int):0<=own t q/\own t q<=t.1:=by
 have:=zzJ (P:=fun j=>(Tr t).L j q) (Tr t).n
 have hn:=h.n;have e:(Tr t).n=t.1.toNat:=rfl;unfold own;omega
theorem zAr (h:TOk t) (h4:t.1=4):1<=own t 0/\1<=own t 1/\1<=own t 2/\1<=own t 3:=by
 have b:=fun q=>ziB h q
 refine zz4 (by have:=b 0;omega) (by have:=b 1;omega) (by have:=b 2;omega) (by have:=b 3;omega) fun i i1 i4 => ?_
 have e:(Tr t).n=t.1.toNat:=rfl;obtain ⟨q,hq,ho⟩:=h.v.owned (i:=(i - 1).toNat) (by omega)
 have ho:own t q=i:=by unfold own;omega
 have:q=0\/q=1\/q=2\/q=3:=by have:=hq.1;omega
 rcases this with rfl | rfl | rfl | rfl
 ·exact .inl ho
 ·exact .inr (.inl ho)
 ·exact .inr (.inr (.inl ho))
 ·exact .inr (.inr (.inr ho))
theorem zzO (h:TOk t) {i:Nat} (i0:0 < i) (i1:(i:Int) < t.1):0<=(rA t).getD i 0/\(rA t).getD i 0 < i:=by
 have e:(Tr t).n=t.1.toNat:=rfl;have h1:=h.v.par i (by omega)
 have h2:=h.v.root i (by omega)
 have e2:(Tr t).A i=(rA t).getD i 0:=rfl;rw [e2] at h1 h2;omega
theorem zqn (h:TOk t):(t.1=0/\zgc t=0)\/(t.1=1/\zgc t=1+(own t 0+2 * own t 1+4 * own t 2+8 * own t 3)/\zgc t < 17)\/(t.1=2/\zgc t=17+(own t 0+3 * own t 1+9 * own t 2+27 * own t 3)/\zgc t < 98)\/
  (t.1=3/\zgc t=98+((rA t).getD 2 0 * 256+(own t 0+4 * own t 1+16 * own t 2+64 * own t 3))/\zgc t < 610/\(0<=(rA t).getD 2 0/\(rA t).getD 2 0 < 2))\/
  (t.1=4/\zgc t=610+(((rA t).getD 2 0 * 3+(rA t).getD 3 0) * 256+(own t 0 - 1+4 * (own t 1 - 1)+16 * (own t 2 - 1)+64 * (own t 3 - 1)))/\zgc t < 2146/\(0<=(rA t).getD 2 0/\(rA t).getD 2 0 < 2)/\(0<=(rA t).getD 3 0/\(rA t).getD 3 0 < 3)/\1<=own t 0/\1<=own t 1/\1<=own t 2/\1<=own t 3):=by
 have hn:=h.n;have b0:=ziB h 0;have b1:=ziB h 1;have b2:=ziB h 2;have b3:=ziB h 3;unfold zgc;by_cases c0:t.1=0
 ·exact .inl ⟨c0,if_pos c0⟩
 rw [if_neg c0];by_cases c1:t.1=1
 ·rw [if_pos c1];exact .inr (.inl ⟨c1,rfl,by omega⟩)
 rw [if_neg c1];by_cases c2:t.1=2
 ·rw [if_pos c2];exact .inr (.inr (.inl ⟨c2,rfl,by omega⟩))
 rw [if_neg c2];have a2:=zzO h (i:=2) (by omega) (by omega)
 generalize (rA t).getD 2 0=x2 at *
 by_cases c3:t.1=3
 ·rw [if_pos c3];exact .inr (.inr (.inr (.inl ⟨c3,rfl,by omega,by omega⟩)))
 rw [if_neg c3];have a3:=zzO h (i:=3) (by omega) (by omega)
 generalize (rA t).getD 3 0=x3 at *
 have f:=zAr h (by omega)
 exact .inr (.inr (.inr (.inr ⟨by omega,rfl,by omega,by omega,by omega,f⟩)))
theorem zvy (h:TOk t):0<=zgc t/\zgc t < 2146:=by
 have b0:=ziB h 0;have b1:=ziB h 1;have b2:=ziB h 2;have b3:=ziB h 3;have:=zqn h;generalize (rA t).getD 2 0=x2 at *
 generalize (rA t).getD 3 0=x3 at *
 generalize zgc t=c at *
 rcases this with ⟨_,h1⟩ | ⟨_,h1,h2⟩ | ⟨_,h1,h2⟩ | ⟨_,h1,h2,h3⟩ | ⟨_,h1,h2,h3,h4,h5⟩<;>omega
theorem zyj (h:TOk t) (h':TOk t') (e:zgc t=zgc t'):t.1=t'.1/\(t.1=0\/(own t 0=own t' 0/\own t 1=own t' 1/\own t 2=own t' 2/\own t 3=own t' 3))/\(2 < t.1->(rA t).getD 2 0=(rA t').getD 2 0)/\(3 < t.1->(rA t).getD 3 0=(rA t').getD 3 0):=by
 have b0:=ziB h 0;have b1:=ziB h 1;have b2:=ziB h 2;have b3:=ziB h 3;have d0:=ziB h' 0;have d1:=ziB h' 1;have d2:=ziB h' 2;have d3:=ziB h' 3;have k:=zqn h;have k':=zqn h';rw [<- e] at k';generalize (rA t).getD 2 0=x2 at *
 generalize (rA t').getD 2 0=y2 at *
 generalize (rA t).getD 3 0=x3 at *
 generalize (rA t').getD 3 0=y3 at *
 generalize zgc t=c at *
 generalize own t 0=o0 at *
 generalize own t 1=o1 at *
 generalize own t 2=o2 at *
 generalize own t 3=o3 at *
 generalize own t' 0=p0 at *
 generalize own t' 1=p1 at *
 generalize own t' 2=p2 at *
 generalize own t' 3=p3 at *
 rcases k with ⟨n1,h1⟩ | ⟨n1,h1,h2⟩ | ⟨n1,h1,h2⟩ | ⟨n1,h1,h2,h3⟩ | ⟨n1,h1,h2,h3,h4,h5⟩<;>rcases k' with ⟨m1,i1⟩ | ⟨m1,i1,i2⟩ | ⟨m1,i1,i2⟩ | ⟨m1,i1,i2,i3⟩ | ⟨m1,i1,i2,i3,i4,i5⟩<;>first | (exfalso;omega) | skip
 ·exact ⟨by omega,.inl n1,fun _=>by omega,fun _=>by omega⟩
 ·exact ⟨by omega,.inr (by omega),fun _=>by omega,fun _=>by omega⟩
 ·exact ⟨by omega,.inr (by omega),fun _=>by omega,fun _=>by omega⟩
 ·exact ⟨by omega,.inr (by omega),fun _=>by omega,fun _=>by omega⟩
 ·have hx:x2=y2/\x3=y3:=by omega
  obtain ⟨rfl,rfl⟩:=hx;exact ⟨by omega,.inr (by omega),fun _=>rfl,fun _=>rfl⟩
theorem zyi (h:TOk t) (h':TOk t') (e:zgc t=zgc t'):t=t':=by
 obtain ⟨k1,k2,k3,k4⟩:=zyj h h' e;have hn:=h.n;have hn':=h'.n;have en:(Tr t).n=t.1.toNat:=rfl;have en':(Tr t').n=t'.1.toNat:=rfl;have eA:∀ i,i < 4->(rA t).getD i 0=(rA t').getD i 0:=fun i hi=>by
  by_cases c:t.1<=i
  ·rw [(h.fill i c hi).2,(h'.fill i (by omega) hi).2]
  ·have:i=0\/i=1\/i=2\/i=3:=by omega
   rcases this with rfl | rfl | rfl | rfl
   ·rw [h.rt (by omega),h'.rt (by omega)]
   ·have a1:=zzO h (i:=1) (by omega) (by omega)
    have g1:=zzO h' (i:=1) (by omega) (by omega)
    generalize (rA t).getD 1 0=x at *
    generalize (rA t').getD 1 0=y at *
    omega
   ·exact k3 (by omega)
   ·exact k4 (by omega)
 have eo:0 < t.1->∀ q:Int,0<=q->q < 4->topN (fun j=>(Tr t).L j q) (Tr t).n=topN (fun j=>(Tr t').L j q) (Tr t').n:=fun h0 q q0 q1=>by
  have k2:=k2.resolve_left (by omega)
  have:own t q=own t' q:=by
   have:q=0\/q=1\/q=2\/q=3:=by omega
   rcases this with rfl | rfl | rfl | rfl
   ·exact k2.1
   ·exact k2.2.1
   ·exact k2.2.2.1
   ·exact k2.2.2.2
  unfold own at this;omega
 have eL:∀ i,i < 4->(rL t).getD i 0=(rL t').getD i 0:=fun i hi=>by
  by_cases c:t.1<=i
  ·rw [(h.fill i c hi).1,(h'.fill i (by omega) hi).1]
  ·refine zx9 (h.b i hi) (h'.b i hi) fun q=>⟨fun hq => ?_,fun hq => ?_⟩
   ·exact h.v.same (T':=Tr t') (q:=q) h'.v (by omega) (fun j hj=>eA j (by omega)) (eo (by omega) q hq.1.1 hq.1.2) (i:=i) (by omega) hq
   ·exact h'.v.same (T':=Tr t) (q:=q) h.v (by omega) (fun j hj=>(eA j (by omega)).symm) (eo (by omega) q hq.1.1 hq.1.2).symm (i:=i) (by omega) hq
 obtain ⟨n,⟨a0,a1,a2,a3,_⟩,⟨c0,c1,c2,c3,_⟩,_⟩:=t;obtain ⟨n',⟨a0',a1',a2',a3',_⟩,⟨c0',c1',c2',c3',_⟩,_⟩:=t';have l0:a0=a0':=eL 0 (by omega)
 have l1:a1=a1':=eL 1 (by omega)
 have l2:a2=a2':=eL 2 (by omega)
 have l3:a3=a3':=eL 3 (by omega)
 have m0:c0=c0':=eA 0 (by omega)
 have m1:c1=c1':=eA 1 (by omega)
 have m2:c2=c2':=eA 2 (by omega)
 have m3:c3=c3':=eA 3 (by omega)
 have k1:n=n':=k1;rw [l0,l1,l2,l3,m0,m1,m2,m3,k1]
end
def PlOk (p:Tv×Int×Unit):Prop:=TOk p.1/\1<=p.2.1/\p.2.1<=9
theorem zxB {l:List Int} {k:Int} (k0:0<=k) (k1:k < l.length):ix l.reverse k=ix l (l.length - 1 - k):=by
 rw [zlq k0 (by rw [List.length_reverse];exact k1),zlq (by omega) (by omega),List.getElem_reverse]
 congr 1;omega
theorem zdi {w:List Int} (hw:w.length<=1000000):zcP w=some w.reverse:=by
 have key:∀ (m:Nat) (i j:Int) (s:List Int),(j - i).toNat=m->0<=i->i+j=w.length - 1->i<=j+1->s.length=w.length->(∀ k:Int,0<=k->k < w.length->ix s k=if k < i\/j < k then ix w (w.length - 1 - k) else ix w k)->zdV i j s=some w.reverse:=by
  intro m
  induction m using Nat.strongRecOn with
  | _ m ih=>
  intro i j s hm i0 hij hji hs hk;rw [zmC];unfold zbR;by_cases c:i < j
  ·rw [if_pos (decide_eq_true c),zaa (by omega),zaa (by omega),zaa (by omega),zaa (by omega),zaa (by omega),zaa (by omega),zaa (by rw [List.length_set];omega),zaa (by rw [List.length_set];omega),zaa (by unfold fits;omega),zaa (by unfold fits;omega)]
   refine ih (j - 1 - (i+1)).toNat (by omega) (i+1) (j - 1) _ rfl (by omega) (by omega) (by omega) (by rw [List.length_set,List.length_set];exact hs) (fun k k0 k1 => ?_)
   by_cases e1:j=k
   ·subst e1;rw [zap (by omega) (by rw [List.length_set];omega),hk i i0 (by omega),if_neg (by omega),if_pos (by omega)]
    congr 1;omega
   ·rw [zat (by omega) k0 e1]
    by_cases e2:i=k
    ·subst e2;rw [zap i0 (by omega),hk j (by omega) (by omega),if_neg (by omega),if_pos (by omega)]
     congr 1;omega
    ·rw [zat i0 k0 e2,hk k k0 k1];by_cases e3:k < i\/j < k
     ·rw [if_pos e3,if_pos (by omega)]
     ·rw [if_neg e3,if_neg (by omega)]
  ·rw [if_neg (by simpa using c)]
   refine congrArg some (zuF (by rw [List.length_reverse];exact hs) (fun k k0 k1 => ?_))
   rw [hk k k0 (by omega),zxB k0 (by omega)]
   by_cases e3:k < i\/j < k
   ·rw [if_pos e3]
   ·rw [if_neg e3];congr 1;omega
 unfold zcP;rw [zaa (by unfold fits;omega)]
 exact key _ 0 (w.length - 1) w rfl (by omega) (by omega) (by omega) rfl (fun k k0 k1=>by rw [if_neg (by omega)])
section
variable {E:Int->Int->Prop} {F:Int->Prop} {T T':Tre} {d:SD} {m:Int}
theorem IsStep.up (h:IsStep E F T d T' m) (hv:Vld T):∀ (n j:Nat),j<=n->j < d.N -> ¬ d.gone j->0 < j->0<=d.P j /\ ¬ d.gone 0/\∃ k,k < d.N /\ ¬ d.gone k/\d.P k=0:=by
 intro n
 induction n with
 | zero=>intro j hj _ _ h0;omega
 | succ n ih=>
  intro j hj hN hg h0;have hp:0<=d.P j:=by
   by_cases c:j < T.n
   ·have:=(hv.root j c).1;rw [h.pOld j c];omega
   ·exact (h.pNew j (by omega) hN).1
  have hlt:=h.plt hv hN;have hgp:=h.gPar j hN hp hg;by_cases e:d.P j=0
  ·rw [e] at hgp;exact ⟨hp,hgp,j,hN,hg,e⟩
  ·obtain ⟨_,a,b⟩:=ih (d.P j).toNat (by omega) (by omega) hgp (by omega)
   exact ⟨hp,a,b⟩
theorem IsStep.one (h:IsStep E F T d T' m) (hv:Vld T) (hm:m=1):T'.n=0:=by
 rcases h.mIs with g | ⟨i,h1,h2,g⟩ | ⟨i,_,_,_,g⟩
 ·omega
 ·obtain rfl:i=0:=by omega
  refine Nat.eq_zero_of_not_pos fun hpos => ?_
  obtain ⟨j,hj,hg,_⟩:=h.onto 0 hpos;by_cases e:j=0
  ·rw [e] at hg;exact hg h2
  ·exact (h.up hv _ j (Nat.le_refl _) hj hg (by omega)).2.1 h2
 ·omega
theorem IsStep.two (h:IsStep E F T d T' m) (hv:Vld T) (hm:m=2):T'.n<=1:=by
 rcases h.mIs with g | ⟨i,_,_,g⟩ | ⟨i,h1,h2,h3,g⟩
 ·omega
 ·omega
 ·obtain rfl:i=0:=by omega
  refine Nat.le_of_not_lt fun hlt => ?_
  obtain ⟨j,hj,hg,e⟩:=h.onto 1 hlt;have hle:=h.nuLe j;obtain ⟨_,_,k,a,b,c⟩:=h.up hv _ j (Nat.le_refl _) hj hg (by omega)
  exact b (h.gFl k a (by omega) (by rw [c];exact h3))
end
def has3 (x d:Nat):Bool:=x % 3==d || x / 3 % 3==d || x / 9 % 3==d || x / 27 % 3==d
def has4 (x d:Nat):Bool:=x % 4==d || x / 4 % 4==d || x / 16 % 4==d || x / 64 % 4==d
def good (c:Nat):Bool:=
 if c / 9==0 then true else if Nat.blt (c / 9) 17 then c / 9 != 1 && c % 9 != 0 else if Nat.blt (c / 9) 98 then has3 (c / 9 - 17) 1 && has3 (c / 9 - 17) 2 && Nat.ble 2 (c % 9)
 else if Nat.blt (c / 9) 610 then has4 ((c / 9 - 98) % 256) 1 && has4 ((c / 9 - 98) % 256) 2 && has4 ((c / 9 - 98) % 256) 3 && Nat.ble 2 (c % 9)
 else if Nat.blt (c / 9) 2146 then has4 ((c / 9 - 610) % 256) 0 && has4 ((c / 9 - 610) % 256) 1 && has4 ((c / 9 - 610) % 256) 2 && has4 ((c / 9 - 610) % 256) 3 && Nat.ble 2 (c % 9) else false
def cntG (lo:Nat):Nat->Nat
 | 0=>if good lo then 1 else 0
 | k+1=>cntG lo k+cntG (lo+2 ^ k) k
theorem zs6:∀ (k lo:Nat),((List.range' lo (2 ^ k)).filter good).length=cntG lo k
 | 0,lo=>by
  show ((List.range' lo 1).filter good).length=_;rw [List.range'_one];unfold cntG;by_cases c:good lo=true
  ·rw [if_pos c];simp [c]
  ·rw [if_neg c];simp [c]
 | k+1,lo=>by
  have e:List.range' lo (2 ^ (k+1))=List.range' lo (2 ^ k)++List.range' (lo+2 ^ k) (2 ^ k):=by
   rw [show 2 ^ (k+1)=2 ^ k+2 ^ k by rw [Nat.pow_succ];omega,<- List.range'_append_1]
  rw [e,List.filter_append,List.length_append,zs6 k lo,zs6 k (lo+2 ^ k)];rfl
theorem zAm {k c:Nat} (h:c < 2 ^ k) (hg:good c=true):c∈(List.range' 0 (2 ^ k)).filter good:=List.mem_filter.2 ⟨List.mem_range'_1.2 ⟨Nat.zero_le _,by omega⟩,hg⟩
theorem zv1 {k:Nat} {l:List Nat} (hn:l.Nodup) (h:∀ x∈l,x < 2 ^ k/\good x=true):l.length<=cntG 0 k:=by
 have:=zrw (U:=(List.range' 0 (2 ^ k)).filter good) hn (fun x hx=>zAm (h x hx).1 (h x hx).2)
 rwa [zs6] at this
theorem zzU:cntG 0 15<=2327:=by decide+kernel
theorem zyU {o0 o1 o2 o3 d:Nat} (h0:o0 < 3) (h1:o1 < 3) (h2:o2 < 3) (h3:o3 < 3) (h:o0=d\/o1=d\/o2=d\/o3=d):has3 (o0+3 * o1+9 * o2+27 * o3) d=true:=by
 have e0:(o0+3 * o1+9 * o2+27 * o3) % 3=o0:=by omega
 have e1:(o0+3 * o1+9 * o2+27 * o3) / 3 % 3=o1:=by omega
 have e2:(o0+3 * o1+9 * o2+27 * o3) / 9 % 3=o2:=by omega
 have e3:(o0+3 * o1+9 * o2+27 * o3) / 27 % 3=o3:=by omega
 unfold has3;rw [e0,e1,e2,e3];simp only [Bool.or_eq_true,beq_iff_eq];omega
theorem znj {o0 o1 o2 o3 d:Nat} (h0:o0 < 4) (h1:o1 < 4) (h2:o2 < 4) (h3:o3 < 4) (h:o0=d\/o1=d\/o2=d\/o3=d):has4 (o0+4 * o1+16 * o2+64 * o3) d=true:=by
 have e0:(o0+4 * o1+16 * o2+64 * o3) % 4=o0:=by omega
 have e1:(o0+4 * o1+16 * o2+64 * o3) / 4 % 4=o1:=by omega
 have e2:(o0+4 * o1+16 * o2+64 * o3) / 16 % 4=o2:=by omega
 have e3:(o0+4 * o1+16 * o2+64 * o3) / 64 % 4=o3:=by omega
 unfold has4;rw [e0,e1,e2,e3];simp only [Bool.or_eq_true,beq_iff_eq];omega
def PlW (p:Tv×Int×Unit):Prop:=PlOk p/\(p.2.1=1->p.1.1=0)/\(p.2.1=2->p.1.1<=1)
theorem ztJ {t:Tv} (h:TOk t) {i:Int} (i1:1<=i) (i2:i<=t.1):own t 0=i\/own t 1=i\/own t 2=i\/own t 3=i:=by
 have hn:=h.n;have e:(Tr t).n=t.1.toNat:=rfl;obtain ⟨q,hq,ho⟩:=h.v.owned (i:=(i - 1).toNat) (by omega)
 have ho:own t q=i:=by unfold own;omega
 have:q=0\/q=1\/q=2\/q=3:=by have:=hq.1;omega
 rcases this with rfl | rfl | rfl | rfl
 ·exact .inl ho
 ·exact .inr (.inl ho)
 ·exact .inr (.inr (.inl ho))
 ·exact .inr (.inr (.inr ho))
theorem zws {x y:Nat} (h:x < y):Nat.blt x y=true:=Nat.ble_eq_true_of_le h
theorem zo1 {x y:Nat} (h : ¬ x < y) : ¬ Nat.blt x y=true:=fun hh=>h (Nat.le_of_ble_eq_true hh)
theorem good0 {m:Nat} (hm:m < 9):good (0 * 9+m)=true:=by
 unfold good;rw [show (0 * 9+m) / 9=0 by omega];rfl
theorem good1 {x m:Nat} (hm:m < 9) (h0:1<=x) (h1:x < 16) (hm1:1<=m):good ((1+x) * 9+m)=true:=by
 unfold good;rw [show ((1+x) * 9+m) / 9=1+x by omega,show ((1+x) * 9+m) % 9=m by omega,if_neg (by simp),if_pos (zws (by omega))]
 simp only [Bool.and_eq_true,bne_iff_ne];omega
theorem good2 {x m:Nat} (hm:m < 9) (h:x < 81) (h1:has3 x 1=true) (h2:has3 x 2=true) (hm1:2<=m):good ((17+x) * 9+m)=true:=by
 unfold good;rw [show ((17+x) * 9+m) / 9=17+x by omega,show ((17+x) * 9+m) % 9=m by omega,if_neg (by simp),if_neg (zo1 (by omega)),if_pos (zws (by omega)),show 17+x - 17=x by omega,h1,h2]
 exact Nat.ble_eq_true_of_le hm1
theorem good3 {a x m:Nat} (hm:m < 9) (ha:a < 2) (h:x < 256) (h1:has4 x 1=true) (h2:has4 x 2=true) (h3:has4 x 3=true) (hm1:2<=m):good ((98+(a * 256+x)) * 9+m)=true:=by
 unfold good;rw [show ((98+(a * 256+x)) * 9+m) / 9=98+(a * 256+x) by omega,show ((98+(a * 256+x)) * 9+m) % 9=m by omega,if_neg (by simp),if_neg (zo1 (by omega)),if_neg (zo1 (by omega)),if_pos (zws (by omega)),show (98+(a * 256+x) - 98) % 256=x by omega,h1,h2,h3]
 exact Nat.ble_eq_true_of_le hm1
theorem good4 {a x m:Nat} (hm:m < 9) (ha:a < 6) (h:x < 256) (h0:has4 x 0=true) (h1:has4 x 1=true) (h2:has4 x 2=true) (h3:has4 x 3=true) (hm1:2<=m):good ((610+(a * 256+x)) * 9+m)=true:=by
 unfold good;rw [show ((610+(a * 256+x)) * 9+m) / 9=610+(a * 256+x) by omega,show ((610+(a * 256+x)) * 9+m) % 9=m by omega,if_neg (by simp),if_neg (zo1 (by omega)),if_neg (zo1 (by omega)),if_neg (zo1 (by omega)),if_pos (zws (by omega)),show (610+(a * 256+x) - 610) % 256=x by omega,h0,h1,h2,h3]
 exact Nat.ble_eq_true_of_le hm1
theorem zAv {p:Tv×Int×Unit} (h:PlW p):good (zgc p.1 * 9+(p.2.1 - 1)).toNat=true:=by
 obtain ⟨⟨ht,m1,m9⟩,hm1,hm2⟩:=h;have hc:=zqn ht;have own1:=ztJ ht (i:=1) (by omega)
 have own2:=ztJ ht (i:=2) (by omega)
 have own3:=ztJ ht (i:=3) (by omega)
 have own4:=ztJ ht (i:=4) (by omega)
 have b0:=ziB ht 0;have b1:=ziB ht 1;have b2:=ziB ht 2;have b3:=ziB ht 3;obtain ⟨p,m,_⟩:=p;simp only at *
 generalize zgc p=c at *
 generalize own p 0=w0 at *
 generalize own p 1=w1 at *
 generalize own p 2=w2 at *
 generalize own p 3=w3 at *
 obtain ⟨o0,rfl⟩:∃ o0:Nat,w0=o0:=⟨_,(Int.toNat_of_nonneg b0.1).symm⟩;obtain ⟨o1,rfl⟩:∃ o1:Nat,w1=o1:=⟨_,(Int.toNat_of_nonneg b1.1).symm⟩;obtain ⟨o2,rfl⟩:∃ o2:Nat,w2=o2:=⟨_,(Int.toNat_of_nonneg b2.1).symm⟩;obtain ⟨o3,rfl⟩:∃ o3:Nat,w3=o3:=⟨_,(Int.toNat_of_nonneg b3.1).symm⟩;obtain ⟨m',rfl⟩:∃ m':Nat,m=(m':Int)+1:=⟨(m - 1).toNat,by omega⟩
 have em:∀ r:Nat,c=r->(c * 9+((m':Int)+1 - 1)).toNat=r * 9+m':=fun r hr=>by omega
 rcases hc with ⟨n0,c0⟩ | ⟨n1,c1,c2⟩ | ⟨n2,c1,c2⟩ | ⟨n3,c1,c2,c3⟩ | ⟨n4,c1,c2,c3,c4,c5⟩
 ·rw [em 0 c0];exact good0 (by omega)
 ·rw [em (1+(o0+2 * o1+4 * o2+8 * o3)) (by omega)]
  have:=own1 (by omega)
  exact good1 (by omega) (by omega) (by omega) (by omega)
 ·rw [em (17+(o0+3 * o1+9 * o2+27 * o3)) (by omega)]
  have k1:=own1 (by omega);have k2:=own2 (by omega)
  have l0:o0 < 3:=by omega
  have l1:o1 < 3:=by omega
  have l2:o2 < 3:=by omega
  have l3:o3 < 3:=by omega
  exact good2 (by omega) (by omega) (zyU l0 l1 l2 l3 (by omega)) (zyU l0 l1 l2 l3 (by omega)) (by omega)
 ·generalize (rA p).getD 2 0=y2 at *
  obtain ⟨a,rfl⟩:∃ a:Nat,y2=a:=⟨_,(Int.toNat_of_nonneg c3.1).symm⟩;rw [em (98+(a * 256+(o0+4 * o1+16 * o2+64 * o3))) (by omega)]
  have k1:=own1 (by omega);have k2:=own2 (by omega);have k3:=own3 (by omega)
  have l0:o0 < 4:=by omega
  have l1:o1 < 4:=by omega
  have l2:o2 < 4:=by omega
  have l3:o3 < 4:=by omega
  exact good3 (by omega) (by omega) (by omega) (znj l0 l1 l2 l3 (by omega)) (znj l0 l1 l2 l3 (by omega)) (znj l0 l1 l2 l3 (by omega)) (by omega)
 ·generalize (rA p).getD 2 0=y2 at *
  generalize (rA p).getD 3 0=y3 at *
  obtain ⟨a,rfl⟩:∃ a:Nat,y2=a:=⟨_,(Int.toNat_of_nonneg c3.1).symm⟩;obtain ⟨b,rfl⟩:∃ b:Nat,y3=b:=⟨_,(Int.toNat_of_nonneg c4.1).symm⟩;obtain ⟨p0,rfl⟩:∃ p0,o0=p0+1:=⟨o0 - 1,by omega⟩
  obtain ⟨p1,rfl⟩:∃ p1,o1=p1+1:=⟨o1 - 1,by omega⟩
  obtain ⟨p2,rfl⟩:∃ p2,o2=p2+1:=⟨o2 - 1,by omega⟩
  obtain ⟨p3,rfl⟩:∃ p3,o3=p3+1:=⟨o3 - 1,by omega⟩
  rw [em (610+((a * 3+b) * 256+(p0+4 * p1+16 * p2+64 * p3))) (by omega)]
  have k1:=own1 (by omega);have k2:=own2 (by omega);have k3:=own3 (by omega);have k4:=own4 (by omega)
  have l0:p0 < 4:=by omega
  have l1:p1 < 4:=by omega
  have l2:p2 < 4:=by omega
  have l3:p3 < 4:=by omega
  exact good4 (by omega) (by omega) (by omega) (znj l0 l1 l2 l3 (by omega)) (znj l0 l1 l2 l3 (by omega)) (znj l0 l1 l2 l3 (by omega)) (znj l0 l1 l2 l3 (by omega)) (by omega)
theorem zAu {p:Tv×Int×Unit} (h4:PlW p):(zgc p.1 * 9+(p.2.1 - 1)).toNat < 2 ^ 15:=by
 have:=zvy h4.1.1;have:=h4.1.2;have e:(2:Nat) ^ 15=32768:=by decide
 rw [e];omega
theorem zB1 {x y:Tv×Int×Unit} (hx:PlW x) (hy:PlW y) (e:(zgc x.1 * 9+(x.2.1 - 1)).toNat=(zgc y.1 * 9+(y.2.1 - 1)).toNat):x=y:=by
 obtain ⟨⟨x1,x2⟩,_⟩:=hx;obtain ⟨⟨y1,y2⟩,_⟩:=hy;have bx:=zvy x1;have by':=zvy y1
 have e1:zgc x.1=zgc y.1:=by omega
 have e2:x.2.1=y.2.1:=by omega
 have e3:=zyi x1 y1 e1;obtain ⟨x,m,_⟩:=x;obtain ⟨y,m',_⟩:=y;have e3:x=y:=e3;have e2:m=m':=e2;rw [e3,e2]
def zCY (p:Tv×Int×Unit):Nat:=(zgc p.1 * 9+(p.2.1 - 1)).toNat
theorem zB2 {k:Nat} {l:List (Tv×Int×Unit)} (hn:l.Nodup) (hp:∀ x∈l,PlW x) (hk:∀ x∈l,zCY x < 2 ^ k):l.length<=cntG 0 k:=by
 have h1:(l.map zCY).Nodup:=by
  rw [List.nodup_iff_pairwise_ne,List.pairwise_map];exact List.Pairwise.imp_of_mem (fun {x y} hx hy hxy e=>hxy (zB1 (hp x hx) (hp y hy) e)) (List.nodup_iff_pairwise_ne.1 hn)
 have h2:=zv1 (k:=k) h1 (fun x hx=>by
  obtain ⟨p,h3,rfl⟩:=List.mem_map.1 hx;exact ⟨hk p h3,zAv (hp p h3)⟩)
 rwa [List.length_map] at h2
theorem zzn {l:List (Tv×Int×Unit)} (hn:l.Nodup) (hp:∀ x∈l,PlW x):l.length<=2327:=
 Nat.le_trans (zB2 (k:=15) hn hp (fun x hx=>zAu (hp x hx))) zzU
theorem zDa {L:List Int} (h:L.length=16):[L.getD 0 0,L.getD 1 0,L.getD 2 0,L.getD 3 0,L.getD 4 0,L.getD 5 0,L.getD 6 0,L.getD 7 0,L.getD 8 0,L.getD 9 0,L.getD 10 0,L.getD 11 0,L.getD 12 0,L.getD 13 0,L.getD 14 0,L.getD 15 0]=L:=by
 match L,h with
 | [a,b,c,d,e,f,g,i,j,k,m,n,o,p,q,r],_=>rfl
def det3 (a:Au) (t:Int) (V:List Int) (f:Int):=zdg a t (V.getD 0 0) (V.getD 1 0) (V.getD 2 0) (V.getD 3 0) (V.getD 4 0) (V.getD 5 0) (V.getD 6 0) (V.getD 7 0) (V.getD 8 0) (V.getD 9 0) (V.getD 10 0) (V.getD 11 0) (V.getD 12 0) (V.getD 13 0) (V.getD 14 0) (V.getD 15 0) f
def bOf (V:List Int) (f:Int):Bv:=(((V.getD 0 0,V.getD 1 0,V.getD 2 0,V.getD 3 0,()),(V.getD 4 0,V.getD 5 0,V.getD 6 0,V.getD 7 0,()),(V.getD 8 0,V.getD 9 0,V.getD 10 0,V.getD 11 0,()),(V.getD 12 0,V.getD 13 0,V.getD 14 0,V.getD 15 0,()),()),f,())
theorem zDd {V:List Int} {f:Int} {p x:Int} (p0:0<=p) (p1:p < 4) (x0:0<=x) (x1:x < 4):nxB (bOf V f) p x=V.getD (p.toNat * 4+x.toNat) 0:=by
 have hp:p=0\/p=1\/p=2\/p=3:=by omega
 have hx:x=0\/x=1\/x=2\/x=3:=by omega
 rcases hp with rfl | rfl | rfl | rfl<;>rcases hx with rfl | rfl | rfl | rfl<;>rfl
def zes (s:Int):Pl:=if s=0 then ((0,(0,0,0,0,()),(0,0,0,0,()),()),9,()) else ((1,(s,0,0,0,()),(-1,0,0,0,()),()),9,())
def nxS (b:Bv) (p:Pl) (x:Int):Pl:=if p.1.1=0 then ((0,(0,0,0,0,()),(0,0,0,0,()),()),1,()) else (zbZ b p.1 x).getD default
section
variable {a:Au}
def zx1 (a:Au) (t:Int) (V:List Int):Prop:=V.length=16/\∀ p x:Int,0<=p->p < 4->0<=x->x < 4->B4 (V.getD (p.toNat * 4+x.toNat) 0)/\∀ q,bt (V.getD (p.toNat * 4+x.toNat) 0) q↔∃ k:Int,0<=k/\k < t/\ix a.2.2.2.1 k=(p,x,q,())
theorem zyr (ha:AuOk a) (h4:a.2.1<=4) {f s:Int} (hs:zhe a.2.2.1=some s) {g b:Dt}:∀ (n:Nat) (t:Int) (V:List Int),(a.2.2.2.1.length - t).toNat=n->0<=t->t<=a.2.2.2.1.length->zx1 a t V->
  ∃ V',zx1 a a.2.2.2.1.length V'/\det3 a t V f=(zhk a.1 (zes s) 1048576 (bOf V' f)).bind (fun y=>(zgf y.1).bind fun y=>some y):=by
 have hlen:=ha.sl;have hl4:=ha.let1;intro n
 induction n with
 | zero=>
  intro t V hn t0 t1 hV;obtain rfl:t=a.2.2.2.1.length:=by omega
  refine ⟨V,hV,?_⟩
  unfold det3;rw [zfL];unfold zbe zd1;rw [if_neg (by simp)]
  refine zac hs ?_
  by_cases c:s=0
  ·rw [if_neg (by simpa using c)]
   unfold zes;rw [if_pos c];rfl
  ·rw [if_pos (by simpa using c)]
   unfold zes;rw [if_neg c];rfl
 | succ n ih=>
  intro t V hn t0 t1 hV;obtain ⟨hV1,hV2⟩:=hV;obtain ⟨⟨f0,f1⟩,⟨l0,l1⟩,g0,g1⟩:=ha.sb _ (za5 (l:=a.2.2.2.1) t0 (by omega))
  obtain ⟨p,hp⟩:∃ p,(ix a.2.2.2.1 t).1=p:=⟨_,rfl⟩;obtain ⟨x,hx⟩:∃ x,(ix a.2.2.2.1 t).2.1=x:=⟨_,rfl⟩;obtain ⟨q,hq⟩:∃ q,(ix a.2.2.2.1 t).2.2.1=q:=⟨_,rfl⟩;have hst:ix a.2.2.2.1 t=(p,x,q,()):=by rw [<- hp,<- hx,<- hq]
  rw [hp] at f0 f1;rw [hx] at l0 l1;rw [hq] at g0 g1;obtain ⟨c1,c2⟩:=hV2 p x f0 (by omega) l0 (by omega)
  obtain ⟨b1,b2⟩:=zAV g0 (show q < 4 by omega)
  obtain ⟨o1,o2⟩:=zzQ c1 b1;have hk:p.toNat * 4+x.toNat < 16:=by omega
  obtain ⟨V',h1,h2⟩:=ih (t+1) (V.set (p.toNat * 4+x.toNat) (ior .i64 (V.getD (p.toNat * 4+x.toNat) 0) (ishl .i64 1 q))) (by omega) (by omega) (by omega) ⟨by rw [List.length_set,hV1],fun p' x' p0 p1 x0 x1=>by
   by_cases e:p'=p/\x'=x
   ·obtain ⟨rfl,rfl⟩:=e;rw [List.getD_eq_getElem?_getD,List.getElem?_set_self (by omega),Option.getD_some]
    refine ⟨o1,fun r => ?_⟩
    rw [o2,c2,b2];constructor
    ·rintro (⟨k,a1,a2,a3⟩ | rfl)
     ·exact ⟨k,a1,by omega,a3⟩
     ·exact ⟨t,t0,by omega,hst⟩
    ·rintro ⟨k,a1,a2,a3⟩;by_cases ek:k=t
     ·rw [ek,hst] at a3;right
      simp only [Prod.mk.injEq] at a3;exact a3.2.2.1.symm
     ·exact .inl ⟨k,a1,by omega,a3⟩
   ·rw [List.getD_eq_getElem?_getD,List.getElem?_set_ne (by
     intro e2;exact e ⟨by omega,by omega⟩),<- List.getD_eq_getElem?_getD]
    obtain ⟨d1,d2⟩:=hV2 p' x' p0 p1 x0 x1;refine ⟨d1,fun r=>(d2 r).trans ⟨fun ⟨k,a1,a2,a3⟩=>⟨k,a1,by omega,a3⟩,fun ⟨k,a1,a2,a3⟩ => ?_⟩⟩
    by_cases ek:k=t
    ·rw [ek,hst] at a3;simp only [Prod.mk.injEq] at a3;exact absurd ⟨a3.1.symm,a3.2.1.symm⟩ e
    ·exact ⟨k,a1,by omega,a3⟩⟩
  refine ⟨V',h1,?_⟩
  rw [<- h2];unfold det3
  conv=>lhs;rw [zfL];unfold zbe
  rw [if_pos (by simp;omega),zaa (by omega),hp,hx,hq,zaa (by omega),zaa (by omega),zaa (by omega),zaa (by omega),zaa (by omega),zaa (by omega),zaa (by omega),zaa (by unfold fits;omega)]
  rw [zDa hV1]
theorem zw9:TOk (0,(0,0,0,0,()),(0,0,0,0,()),()):=by
 refine ⟨by decide,zxa rfl,fun i hi => ?_,fun i h0 h4 => ?_,fun h=>absurd h (by decide)⟩
 ·have:i=0\/i=1\/i=2\/i=3:=by omega
  rcases this with rfl | rfl | rfl | rfl<;>exact zdq.1
 ·have:i=0\/i=1\/i=2\/i=3:=by omega
  rcases this with rfl | rfl | rfl | rfl<;>exact ⟨rfl,rfl⟩
theorem zq8 {s:Int} (hs:B4 s):PlOk (zes s):=by
 unfold zes;by_cases c:s=0
 ·rw [if_pos c];exact ⟨zw9,by decide,by decide⟩
 ·rw [if_neg c];obtain ⟨q,hq⟩:=(zt7 hs).1 c;have n1:(Tr (1,(s,0,0,0,()),(-1,0,0,0,()),())).n=1:=rfl;refine ⟨⟨⟨show (0:Int)<=1 by decide,show (1:Int)<=4 by decide⟩,⟨fun i hi => ?_,fun i hi => ?_,fun i hi h0 => ?_,fun i hi => ?_,fun i hi => ?_,fun i j hij hj => ?_⟩,fun i hi => ?_,fun i h0 h4 => ?_,fun _=>rfl⟩,show (1:Int)<=9 by decide,show (9:Int)<=9 by decide⟩
  ·rw [n1] at hi;obtain rfl:i=0:=by omega
   exact ⟨fun _=>rfl,fun _=>by show (-1:Int) < 0;omega⟩
  ·rw [n1] at hi;obtain rfl:i=0:=by omega
   show (-1:Int) < 0;omega
  ·rw [n1] at hi;obtain rfl:i=0:=by omega
   have h0:(0:Int) <= -1:=h0;omega
  ·rw [n1] at hi;obtain rfl:i=0:=by omega
   exact ⟨q,hq⟩
  ·rw [n1] at hi;obtain rfl:i=0:=by omega
   refine ⟨q,hq,fun k hk he => ?_⟩
   rw [n1] at hk;obtain rfl:k=0:=by omega
   have he:(-1:Int)=0:=he;omega
  ·rw [n1] at hj;omega
  ·have:i=0\/i=1\/i=2\/i=3:=by omega
   rcases this with rfl | rfl | rfl | rfl
   ·exact hs
   ·exact zdq.1
   ·exact zdq.1
   ·exact zdq.1
  ·have h0:(1:Int)<=i:=h0;have:i=1\/i=2\/i=3:=by omega
   rcases this with rfl | rfl | rfl<;>exact ⟨rfl,rfl⟩
def BAll (a:Au) (b:Bv):Prop:=∀ x:Int,0<=x->x < a.1->BOk b x (fun p q=>StA a p x q) (fun q=>q∈a.2.2.2.2.1)
theorem zBp (ha:AuOk a) (h4:a.2.1<=4) {V:List Int} {f:Int} (hV:zx1 a a.2.2.2.1.length V) (hf:B4 f/\∀ q,bt f q↔q∈a.2.2.2.2.1):BAll a (bOf V f):=fun x x0 x1=>by
 have hl4:=ha.let1;refine ⟨⟨x0,by omega⟩,fun p p0 p1 => ?_,hf⟩
 rw [zDd p0 p1 x0 (by omega)]
 obtain ⟨h1,h2⟩:=hV.2 p x p0 p1 x0 (by omega)
 refine ⟨h1,fun q=>(h2 q).trans ?_⟩
 unfold StA;constructor
 ·rintro ⟨k,a1,a2,a3⟩;rw [<- a3];exact za5 a1 a2
 ·intro h;obtain ⟨k,a1,a2,a3⟩:=(zho (P:=fun y=>y=(p,x,q,()))).1 ⟨_,h,rfl⟩
  exact ⟨k,a1,a2,a3⟩
theorem zoa {b:Bv} (hb:BAll a b) {p:Pl} (hp:PlOk p) {x:Int} (x0:0<=x) (x1:x < a.1):PlOk (nxS b p x)/\zbB p x b=some (nxS b p x,b)/\
  ∃ d,((Tr p.1).n=0/\(Tr (nxS b p x).1).n=0/\(nxS b p x).2.1=1)\/(0 < (Tr p.1).n/\IsStep (fun p q=>StA a p x q) (fun q=>q∈a.2.2.2.2.1) (Tr p.1) d (Tr (nxS b p x).1) (nxS b p x).2.1):=by
 obtain ⟨h1,h2,h3⟩:=hp;have hn:=h1.n;have en:(Tr p.1).n=p.1.1.toNat:=rfl;by_cases c:p.1.1=0
 ·have e:nxS b p x=((0,(0,0,0,0,()),(0,0,0,0,()),()),1,()):=if_pos c;rw [e];refine ⟨⟨zw9,by decide,by decide⟩,?_,⟨0,fun _ _=>False,fun _=>0,fun _=>False,fun _=>False,fun _=>0⟩,.inl ⟨by omega,rfl,rfl⟩⟩
  unfold zbB;rw [if_pos (decide_eq_true c)]
 ·obtain ⟨t',m,d,h4,h5,h6,h7⟩:=zzD (hb x x0 x1) h1;have e:nxS b p x=(t',m,()):=by unfold nxS;rw [if_neg c,h4];rfl
  rw [e];refine ⟨⟨h5,h6⟩,?_,d,.inr ⟨by omega,h7⟩⟩
  unfold zbB;rw [if_neg (by simpa using c)]
  exact zac h4 rfl
end
abbrev NXT:=List (List (Int×Int×Unit))
abbrev Way:=Int×Int×Int×Unit
def Ed (nx:NXT) (p x q:Int):Prop:=(q,x,())∈ix nx p
def WkG (nx:NXT) (may:Int->Prop):List Int->Int->Int->Prop
 | [],p,q=>p=q
 | x::w,p,q=>∃ r,Ed nx p x r/\may r/\WkG nx may w r q
structure GrOk (nx:NXT) (L:Int):Prop where
 n:nx.length<=10000
 r:∀ p:Int,0<=p->p < nx.length->(ix nx p).length<=40000/\∀ e∈ix nx p,(0<=e.1/\e.1 < nx.length)/\0<=e.2.1/\e.2.1 < L
section
variable {nx:NXT} {L:Int} {may ok:Int->Prop}
theorem WkG.app {v:List Int}:∀ {w:List Int} {p q:Int},WkG nx may (w++v) p q↔∃ r,WkG nx may w p r/\WkG nx may v r q
 | [],p,q=>⟨fun hh=>⟨p,rfl,hh⟩,fun ⟨r,h1,h2⟩=>by cases h1;exact h2⟩
 | x::w,p,q=>by
  constructor
  ·rintro ⟨r,h1,hm,h2⟩;obtain ⟨y,h3,h4⟩:=WkG.app.1 h2;exact ⟨y,⟨r,h1,hm,h3⟩,h4⟩
  ·rintro ⟨y,⟨r,h1,hm,h3⟩,h4⟩;exact ⟨r,h1,hm,WkG.app.2 ⟨y,h3,h4⟩⟩
theorem WkG.snoc {x:Int} {w:List Int} {p q:Int}:WkG nx may (w++[x]) p q↔∃ r,WkG nx may w p r/\Ed nx r x q/\may q:=by
 rw [WkG.app];exact ⟨fun ⟨r,h1,y,h2,hm,h3⟩=>⟨r,h1,by cases h3;exact ⟨h2,hm⟩⟩,fun ⟨r,h1,h2,hm⟩=>⟨r,h1,q,h2,hm,rfl⟩⟩
theorem WkG.b (hg:GrOk nx L):∀ {w:List Int} {p q:Int},0<=p->p < nx.length->WkG nx may w p q->(0<=q/\q < nx.length)/\∀ x∈w,0<=x/\x < L
 | [],p,q,p0,p1,h=>by cases h;exact ⟨⟨p0,p1⟩,fun x hx=>by cases hx⟩
 | y::w,p,q,p0,p1,⟨r,h1,_,h2⟩=>by
  obtain ⟨g1,g2⟩:=(hg.r p p0 p1).2 _ h1;obtain ⟨h3,h4⟩:=WkG.b hg g1.1 g1.2 h2;exact ⟨h3,fun x hx=>(List.mem_cons.1 hx).elim (fun e=>by rw [e];exact g2) (h4 x)⟩
def fl (fr:List Int):List Way:=fr.map (fun q=>(q,-1,0,()))
theorem zpC (fr:List Int):(fl fr).length=fr.length:=by unfold fl;rw [List.length_map]
theorem zz0 {fr:List Int} {k:Int} (k0:0<=k) (k1:k < fr.length):ix (fl fr) k=(ix fr k,-1,0,()):=by
 unfold fl;rw [zwL _ k0 k1]
structure BI (nx:NXT) (may:Int->Prop) (fr:List Int) (t:List Way) (seen:List Bool):Prop where
 nd:(t.map (·.1)).Nodup
 rg:∀ q:Int,q∈t.map (·.1)->(0<=q/\q < nx.length)/\may q
 sl:seen.length=nx.length
 sn:∀ q:Int,0<=q->q < nx.length->(ix seen q=true↔q∈t.map (·.1))
 bk:∀ j:Nat,j < t.length->∃ k:Nat,k < fr.length+j/\(ix t (j:Int)).2.1=(k:Int)/\Ed nx (ix (fl fr++t) (k:Int)).1 (ix t (j:Int)).2.2.1 (ix t (j:Int)).1
theorem BI.len {fr:List Int} {t:List Way} {seen:List Bool} (h:BI nx may fr t seen):t.length<=nx.length:=by
 have:=zo4 (n:=nx.length) h.nd (fun x hx=>(h.rg x hx).1)
 rwa [List.length_map] at this
theorem BI.add {fr:List Int} {t:List Way} {seen:List Bool} (h:BI nx may fr t seen) {i:Nat} {x q:Int} (hi:i < fr.length+t.length) (hs:Ed nx (ix (fl fr++t) (i:Int)).1 x q) (q0:0<=q) (q1:q < nx.length) (hm:may q) (hn : ¬ ix seen q=true):BI nx may fr (t++[(q,(i:Int),x,())]) (seen.set q.toNat true):=by
 have hnq:q∉t.map (·.1):=fun hh=>hn ((h.sn q q0 q1).2 hh)
 have hlen:=zpC fr;refine ⟨?_,?_,by rw [List.length_set];exact h.sl,fun r r0 r1 => ?_,fun j hj => ?_⟩
 ·rw [List.map_append,List.nodup_append];refine ⟨h.nd,by simp,fun y hy z hz e => ?_⟩
  simp only [List.map_cons,List.map_nil,List.mem_singleton] at hz;rw [e,hz] at hy;exact hnq hy
 ·intro r hr;rw [List.map_append,List.mem_append] at hr;rcases hr with hr | hr
  ·exact h.rg r hr
  ·simp only [List.map_cons,List.map_nil,List.mem_singleton] at hr;rw [hr];exact ⟨⟨q0,q1⟩,hm⟩
 ·rw [List.map_append,List.mem_append];simp only [List.map_cons,List.map_nil,List.mem_singleton];by_cases e:q=r
  ·subst e;rw [zap q0 (by have:=h.sl;omega)]
   simp
  ·rw [zat q0 r0 e,h.sn r r0 r1];exact ⟨.inl,fun hh=>hh.elim id (fun hh=>absurd hh.symm e)⟩
 ·rw [List.length_append,List.length_singleton] at hj;by_cases e:j=t.length
  ·subst e;rw [zaR];refine ⟨i,hi,rfl,?_⟩
   rw [<- List.append_assoc,zai (by omega) (by rw [List.length_append];omega)]
   exact hs
  ·obtain ⟨k,k0,k1,k2⟩:=h.bk j (by omega)
   rw [zai (l:=t) (by omega) (by omega)]
   refine ⟨k,k0,k1,?_⟩
   rw [<- List.append_assoc,zai (by omega) (by rw [List.length_append];omega)]
   exact k2
structure Srch {X:Type} (nx:NXT) (may ok:Int->Prop) (R9:Int->List Way->List Bool->Option X) (R12:Int->List Way->Int->List Way->List Bool->Option X) (R20:Int->List Way->Int->List Way->Int->List Int->Option X) (hit:Int->List Int->X) (miss:X):Prop where
 e9:∀ i l s,0<=i->i < (l.length:Int)->0<=(ix l i).1->(ix l i).1 < (nx.length:Int)->R9 i l s=R12 i l 0 l s
 x9:∀ l s,R9 (l.length:Int) l s=some miss
 x12:∀ i l l' s,0<=i->i < 100000->R12 i l ((ix nx (ix l i).1).length:Int) l' s=R9 (i+1) l' s
 e12:∀ i l t l' s,0<=t->t < ((ix nx (ix l i).1).length:Int)->t < 100000->0<=(ix (ix nx (ix l i).1) t).1->(ix (ix nx (ix l i).1) t).1 < (s.length:Int)->(ix (ix nx (ix l i).1) t).1 < (nx.length:Int)->l'.length < 100000->
  (ix s (ix (ix nx (ix l i).1) t).1=true \/ ¬ may (ix (ix nx (ix l i).1) t).1->R12 i l t l' s=R12 i l (t+1) l' s)/\
  (¬ ix s (ix (ix nx (ix l i).1) t).1=true->may (ix (ix nx (ix l i).1) t).1->(¬ ok (ix (ix nx (ix l i).1) t).1->R12 i l t l' s=R12 i l (t+1) (l'++[((ix (ix nx (ix l i).1) t).1,i,(ix (ix nx (ix l i).1) t).2.1,())]) (s.set (ix (ix nx (ix l i).1) t).1.toNat true))/\
   (ok (ix (ix nx (ix l i).1) t).1->R12 i l t l' s=R20 i l t l' (l'.length:Int) []))
 e20:∀ i l t l' k w,0<=k->k<=(l'.length:Int)->w.length < 100000->
  (0<=(ix (l'++[((ix (ix nx (ix l i).1) t).1,i,(ix (ix nx (ix l i).1) t).2.1,())]) k).2.1->R20 i l t l' k w=R20 i l t l' (ix (l'++[((ix (ix nx (ix l i).1) t).1,i,(ix (ix nx (ix l i).1) t).2.1,())]) k).2.1 (w++[(ix (l'++[((ix (ix nx (ix l i).1) t).1,i,(ix (ix nx (ix l i).1) t).2.1,())]) k).2.2.1]))/\
  ((ix (l'++[((ix (ix nx (ix l i).1) t).1,i,(ix (ix nx (ix l i).1) t).2.1,())]) k).2.1 < 0->R20 i l t l' k w=some (hit (ix (ix nx (ix l i).1) t).1 w.reverse))
def SrR {X:Type} (nx:NXT) (may ok:Int->Prop) (fr:List Int) (hit:Int->List Int->X) (miss:X) (o:Option X):Prop:=
 (∃ v w,o=some (hit v w)/\ok v/\(∃ f∈fr,WkG nx may w f v)/\1<=w.length/\w.length<=nx.length)\/(o=some miss/\∀ f∈fr,∀ w v,w≠[]->WkG nx may w f v -> ¬ ok v)
variable {X:Type} {R9:Int->List Way->List Bool->Option X} {R12:Int->List Way->Int->List Way->List Bool->Option X} {R20:Int->List Way->Int->List Way->Int->List Int->Option X} {hit:Int->List Int->X} {miss:X}
theorem Srch.back (S:Srch nx may ok R9 R12 R20 hit miss) (hg:GrOk nx L) {fr:List Int} {t:List Way} {seen:List Bool} (h:BI nx may fr t seen) (hfr:fr.length<=300) {i t3:Int} {l1 l2:List Way}
  (hL:l2++[((ix (ix nx (ix l1 i).1) t3).1,i,(ix (ix nx (ix l1 i).1) t3).2.1,())]=fl fr++t):
  ∀ (k:Nat) (w:List Int),k < fr.length+t.length->w.length+(k+1 - fr.length)<=20000->∃ f∈fr,∃ v,WkG nx may v f (ix (fl fr++t) (k:Int)).1/\v.length<=k+1 - fr.length/\(fr.length<=k->1<=v.length)/\
   R20 i l1 t3 l2 (k:Int) w=some (hit (ix (ix nx (ix l1 i).1) t3).1 (v++w.reverse)):=by
 have hlen:=zpC fr;have ht:=h.len;have hn:=hg.n;have hll:l2.length+1=fr.length+t.length:=by
  have:=congrArg List.length hL;rw [List.length_append,List.length_append,List.length_singleton] at this;omega
 intro k
 induction k using Nat.strongRecOn with
 | _ k ih=>
 intro w hk hw;have hkl:(k:Int) < ((fl fr++t).length:Int):=by rw [List.length_append];omega
 obtain ⟨s1,s2⟩:=S.e20 i l1 t3 l2 (k:Int) w (by omega) (by omega) (by omega)
 rw [hL] at s1 s2;by_cases c:k < fr.length
 ·refine ⟨ix fr (k:Int),za5 (by omega) (by omega),[],?_,by simp,fun hh=>by omega,?_⟩
  ·rw [zai (by omega) (by omega),zz0 (by omega) (by omega)];rfl
  ·rw [s2 (by rw [zai (by omega) (by omega),zz0 (by omega) (by omega)];show (-1:Int) < 0;omega),List.nil_append]
 ·obtain ⟨j,rfl⟩:∃ j,k=fr.length+j:=⟨k - fr.length,by omega⟩
  obtain ⟨k',k0,k1,k2⟩:=h.bk j (by omega)
  have e:ix (fl fr++t) ((fr.length+j:Nat):Int)=ix t (j:Int):=by
   rw [zdD (by omega)]
   congr 1;omega
  obtain ⟨f,hf,v,h1,h2,_,h4⟩:=ih k' k0 (w++[(ix t (j:Int)).2.2.1]) (by omega) (by rw [List.length_append,List.length_singleton];omega)
  refine ⟨f,hf,v++[(ix t (j:Int)).2.2.1],?_,by rw [List.length_append,List.length_singleton];omega,fun _=>by rw [List.length_append,List.length_singleton];omega,?_⟩
  ·rw [e];exact WkG.snoc.2 ⟨_,h1,k2,(h.rg _ (List.mem_map.2 ⟨_,za5 (i:=(j:Int)) (by omega) (by omega),rfl⟩)).2⟩
  ·rw [e] at s1;rw [s1 (by rw [k1];omega),k1,h4]
   simp
theorem Srch.row (S:Srch nx may ok R9 R12 R20 hit miss) (hg:GrOk nx L) {fr:List Int} (hfr:fr.length<=300) {i:Nat} {t1:List Way} (hi:i < fr.length+t1.length) {p:Int} (hp:(ix (fl fr++t1) (i:Int)).1=p) (p0:0<=p) (p1:p < nx.length)
  (cont:∀ t seen,BI nx may fr t seen->(∀ q∈t.map (·.1),¬ ok q)->(∃ e,t=t1++e)->(∀ x q,Ed nx p x q->may q->q∈t.map (·.1))->SrR nx may ok fr hit miss (R9 ((i:Int)+1) (fl fr++t) seen)):
  ∀ (m:Nat) (t3:Int) (t:List Way) (seen:List Bool),0<=t3->t3+m=(ix nx p).length->BI nx may fr t seen->(∀ q∈t.map (·.1),¬ ok q)->(∃ e,t=t1++e)->(∀ k:Int,0<=k->k < t3->may (ix (ix nx p) k).1->(ix (ix nx p) k).1∈t.map (·.1))->
   SrR nx may ok fr hit miss (R12 (i:Int) (fl fr++t1) t3 (fl fr++t) seen):=by
 have hlen:=zpC fr;have hn:=hg.n;obtain ⟨hr1,hr2⟩:=hg.r p p0 p1;intro m
 induction m with
 | zero=>
  intro t3 t seen t0 ht hB hnt he hd;have hbl:=hB.len;have htl:t1.length<=t.length:=by obtain ⟨e,rfl⟩:=he;simp
  obtain rfl:t3=((ix nx (ix (fl fr++t1) (i:Int)).1).length:Int):=by rw [hp];omega
  rw [S.x12 _ _ _ _ (by omega) (by omega)]
  refine cont t seen hB hnt he (fun x q hs hm => ?_)
  obtain ⟨k,k0,k1,ek⟩:=(zho (P:=fun y=>y=(q,x,()))).1 ⟨_,hs,rfl⟩
  have:=hd k k0 (by rw [hp];omega)
  rw [ek] at this;exact this hm
 | succ m ih=>
  intro t3 t seen t0 ht hB hnt he hd;obtain ⟨x,ex⟩:∃ x,ix (ix nx p) t3=x:=⟨_,rfl⟩;have hxm:x∈ix nx p:=by rw [<- ex];exact za5 t0 (by omega)
  obtain ⟨hb,_⟩:=hr2 x hxm;have hs:Ed nx p x.2.1 x.1:=hxm;have hsl:=hB.sl;have htl:t1.length<=t.length:=by obtain ⟨e,rfl⟩:=he;simp
  have hpt:(ix (fl fr++t) (i:Int)).1=p:=by
   obtain ⟨e,rfl⟩:=he;rw [<- List.append_assoc,zai (by omega) (by rw [List.length_append];omega)]
   exact hp
  have hbl:=hB.len;obtain ⟨s1,s2⟩:=S.e12 (i:Int) (fl fr++t1) t3 (fl fr++t) seen t0 (by rw [hp];omega) (by omega) (by rw [hp,ex];exact hb.1) (by rw [hp,ex];omega) (by rw [hp,ex];exact hb.2) (by rw [List.length_append];omega)
  rw [hp,ex] at s1 s2;by_cases c:ix seen x.1=true \/ ¬ may x.1
  ·rw [s1 c];refine ih (t3+1) t seen (by omega) (by omega) hB hnt he (fun k k0 k1 hm => ?_)
   by_cases ek:k=t3
   ·rw [ek,ex] at hm ⊢;exact (hB.sn _ hb.1 hb.2).1 (c.resolve_right (fun hh=>hh hm))
   ·exact hd k k0 (by omega) hm
  ·have c1 : ¬ ix seen x.1=true:=fun hh=>c (.inl hh)
   have c2:may x.1:=Classical.byContradiction fun hh=>c (.inr hh)
   obtain ⟨s3,s4⟩:=s2 c1 c2;have hB':=hB.add (i:=i) (x:=x.2.1) (q:=x.1) (by omega) (by rw [hpt];exact hs) hb.1 hb.2 c2 c1
   by_cases c3:ok x.1
   ·rw [s4 c3];obtain ⟨f,hf,v,h1,h2,h3,h4⟩:=S.back hg (i:=(i:Int)) (t3:=t3) (l1:=fl fr++t1) (l2:=fl fr++t) hB' hfr (by rw [hp,ex,List.append_assoc]) (fr.length+t.length) [] (by simp) (by simp;omega)
    have ek:(ix (fl fr++(t++[(x.1,(i:Int),x.2.1,())])) ((fr.length+t.length:Nat):Int)).1=x.1:=by
     rw [<- List.append_assoc,show ((fr.length+t.length:Nat):Int)=((fl fr++t).length:Int) by rw [List.length_append,hlen],zaR]
    rw [ek] at h1;rw [hp,ex,List.reverse_nil,List.append_nil] at h4;have hbl':=hB'.len;rw [List.length_append,List.length_singleton] at hbl';refine .inl ⟨x.1,v,?_,c3,⟨f,hf,h1⟩,h3 (by omega),by omega⟩
    rw [<- h4];congr 1
    rw [List.length_append,hlen]
   ·rw [s3 c3,List.append_assoc];refine ih (t3+1) (t++[(x.1,(i:Int),x.2.1,())]) _ (by omega) (by omega) hB' (fun q hq => ?_) (by obtain ⟨e,rfl⟩:=he;exact ⟨e++[(x.1,(i:Int),x.2.1,())],by rw [List.append_assoc]⟩) (fun k k0 k1 hm => ?_)
    ·rw [List.map_append,List.mem_append] at hq;rcases hq with hq | hq
     ·exact hnt q hq
     ·simp only [List.map_cons,List.map_nil,List.mem_singleton] at hq;rw [hq];exact c3
    ·rw [List.map_append,List.mem_append];by_cases ek:k=t3
     ·rw [ek,ex];right;simp
     ·exact .inl (hd k k0 (by omega) hm)
theorem Srch.all (S:Srch nx may ok R9 R12 R20 hit miss) (hg:GrOk nx L) {fr:List Int} (hfr:fr.length<=300) (hrg:∀ f∈fr,0<=f/\f < nx.length):
  ∀ (f i:Nat) (t:List Way) (seen:List Bool),fr.length+nx.length - i=f->i<=fr.length+t.length->BI nx may fr t seen->(∀ q∈t.map (·.1),¬ ok q)->(∀ j:Nat,j < i->∀ x q,Ed nx (ix (fl fr++t) (j:Int)).1 x q->may q->q∈t.map (·.1))->
   SrR nx may ok fr hit miss (R9 (i:Int) (fl fr++t) seen):=by
 have hlen:=zpC fr;have hn:=hg.n;intro f
 induction f using Nat.strongRecOn with
 | _ f ih=>
 intro i t seen hf hi hB hnt hd;have hbl:=hB.len;have rg:∀ j:Nat,j < fr.length+t.length->0<=(ix (fl fr++t) (j:Int)).1/\(ix (fl fr++t) (j:Int)).1 < nx.length:=fun j hj=>by
  by_cases c:j < fr.length
  ·rw [zai (by omega) (by omega),zz0 (by omega) (by omega)]
   exact hrg _ (za5 (by omega) (by omega))
  ·rw [zdD (by omega)]
   exact (hB.rg _ (List.mem_map.2 ⟨_,za5 (by omega) (by omega),rfl⟩)).1
 by_cases c:i < fr.length+t.length
 ·have hp:=rg i c;rw [S.e9 _ _ _ (by omega) (by rw [List.length_append];omega) hp.1 hp.2]
  exact S.row hg hfr (i:=i) (t1:=t) c rfl hp.1 hp.2 (fun t' seen' hB' hnt' ⟨e,he⟩ hd'=>by
   have hbl':=hB'.len;have hkeep:∀ j:Nat,j < fr.length+t.length->ix (fl fr++t') (j:Int)=ix (fl fr++t) (j:Int):=fun j hj=>by
    rw [he,<- List.append_assoc,zai (by omega) (by rw [List.length_append];omega)]
   have htl:t.length<=t'.length:=by rw [he];simp
   refine ih (fr.length+nx.length - (i+1)) (by omega) (i+1) t' seen' rfl (by omega) hB' hnt' (fun j hj x q hs hm => ?_)
   rw [hkeep j (by omega)] at hs
   by_cases ej:j=i
   ·rw [ej] at hs;exact hd' x q hs hm
   ·have:=hd j (by omega) x q hs hm
    rw [he,List.map_append,List.mem_append];exact .inl this) (ix nx (ix (fl fr++t) (i:Int)).1).length 0 t seen (by omega) (by omega) hB hnt ⟨[],by simp⟩ (fun k k0 k1=>by omega)
 ·obtain rfl:i=fr.length+t.length:=by omega
  have e:((fr.length+t.length:Nat):Int)=((fl fr++t).length:Int):=by rw [List.length_append,hlen]
  rw [e,S.x9];refine .inr ⟨rfl,?_⟩
  have stp:∀ j:Nat,j < fr.length+t.length->∀ x q,Ed nx (ix (fl fr++t) (j:Int)).1 x q->may q->q∈t.map (·.1):=fun j hj=>hd j (by omega)
  have back:∀ q,q∈t.map (·.1)->∃ j:Nat,j < fr.length+t.length/\(ix (fl fr++t) (j:Int)).1=q:=fun q hq=>by
   obtain ⟨y,hy,e⟩:=List.mem_map.1 hq;obtain ⟨k,k0,k1,ek⟩:=(zho (P:=fun z=>z=y)).1 ⟨y,hy,rfl⟩
   refine ⟨fr.length+k.toNat,by omega,?_⟩
   rw [zdD (by omega),show ((fr.length+k.toNat:Nat):Int) - ((fl fr).length:Int)=k by omega,ek]
   exact e
  have key:∀ (v:List Int) (p q:Int),(∃ j:Nat,j < fr.length+t.length/\(ix (fl fr++t) (j:Int)).1=p)->v≠[]->WkG nx may v p q->q∈t.map (·.1):=by
   intro v
   induction v with
   | nil=>intro p q _ hv;exact absurd rfl hv
   | cons x v ihv=>
    rintro p q ⟨j,hj,rfl⟩ _ ⟨r,h1,hm,h2⟩;have hr:=stp j hj x r h1 hm
    cases v with
    | nil=>cases h2;exact hr
    | cons y v=>exact ihv r q (back r hr) (by simp) h2
  intro f hf v q hv hk;obtain ⟨k,k0,k1,ek⟩:=(zho (P:=fun z=>z=f)).1 ⟨f,hf,rfl⟩
  refine hnt q (key v f q ⟨k.toNat,by omega,?_⟩ hv hk)
  rw [show ((k.toNat:Nat):Int)=k by omega,zai k0 (by omega),zz0 k0 k1]
  exact ek
theorem Srch.run (S:Srch nx may ok R9 R12 R20 hit miss) (hg:GrOk nx L) {fr:List Int} (hfr:fr.length<=300) (hrg:∀ f∈fr,0<=f/\f < nx.length):SrR nx may ok fr hit miss (R9 0 (fl fr) (List.replicate nx.length false)):=by
 have:=S.all hg hfr hrg _ 0 [] (List.replicate nx.length false) rfl (by omega) ⟨by simp,fun q hq=>by simp at hq,by rw [List.length_replicate],fun q q0 q1=>by
  rw [zc1 q0 (by omega)];simp,fun j hj=>by simp at hj⟩ (fun q hq=>by simp at hq) (fun j hj=>by omega)
 rw [List.append_nil] at this;exact this
end
abbrev PT:=Au×Dt×NXT×Unit
def mkP (p:PT) (v:Int):Int:=ix p.2.1.2.2.2.1 (v / p.1.2.1)
def zvh (p:PT) (m to f v:Int):Prop:=v % p.1.2.1=f/\∃ w,w≠[]/\WkG p.2.2.1 (fun v=>m<=mkP p v) w v to
open Classical in
theorem sr0 {p:PT} {to:Int} (hn:p.2.2.1.length<=10000) (hmay:∀ v:Int,0<=v->v < p.2.2.1.length->zeV v=some true) (hok:∀ v:Int,0<=v->v < p.2.2.1.length->zdw v to=some (decide (v=to))):
  Srch p.2.2.1 (fun v=>True) (fun v=>v=to) (fun i l s=>zao p to i l s) (fun i l t l' s=>zaB p to i l (zao p to) t l' s) (fun i l t l' k w=>zbr p i l t l' k w) (fun v w=>(v,true,w)) (0,false,[]) where
 e9 i l s h0 h1 h2 h3:=by
  show zao p to i l s=_;rw [zgA];unfold zbl;rw [if_pos (decide_eq_true h1),zaa ⟨h0,h1⟩,zaa (by omega),zaa ⟨h2,h3⟩]
 x9 l s:=by
  show zao p to (l.length:Int) l s=_;rw [zgA];unfold zbl;rw [if_neg (by simp)]
 x12 i l l' s h0 h1:=by
  show zaB p to i l (zao p to) ((ix p.2.2.1 (ix l i).1).length:Int) l' s=_;rw [zfE];unfold zaA;rw [if_neg (by simp),zaa (by unfold fits;omega)]
 e12 i l t l' s h0 h1 h2 h3 h4 h6 h5:=by
  have run:∀ x,zaA p to i l (zao p to) (zaB p to i l (zao p to)) t l' s=x->zaB p to i l (zao p to) t l' s=x:=fun x hx=>by rw [zfE];exact hx
  refine ⟨fun hc=>run _ ?_,fun c1 c2=>⟨fun c3=>run _ ?_,fun c3=>run _ ?_⟩⟩
  ·unfold zaA;rw [if_pos (decide_eq_true h1),zaa ⟨h0,h1⟩,zaa ⟨h3,h4⟩,zaa (by omega)]
   by_cases c:ix s (ix (ix p.2.2.1 (ix l i).1) t).1=true
   ·rw [if_pos c,zaa (by unfold fits;omega)]
   ·rw [if_neg c];refine zac (hmay _ h3 h6) ?_
    exact absurd True.intro (hc.resolve_left c)
  ·unfold zaA;rw [if_pos (decide_eq_true h1),zaa ⟨h0,h1⟩,zaa ⟨h3,h4⟩,zaa (by omega),if_neg c1]
   refine zac (hmay _ h3 h6) ?_
   rw [if_neg (by simp [c2]),zaa ⟨h3,h4⟩,zaa (by omega),zaa (by unfold room;simp;omega)]
   refine zac (hok _ h3 h6) ?_
   rw [if_pos (by simp [c3]),zaa (by unfold fits;omega)]
  ·unfold zaA;rw [if_pos (decide_eq_true h1),zaa ⟨h0,h1⟩,zaa ⟨h3,h4⟩,zaa (by omega),if_neg c1]
   refine zac (hmay _ h3 h6) ?_
   rw [if_neg (by simp [c2]),zaa ⟨h3,h4⟩,zaa (by omega),zaa (by unfold room;simp;omega)]
   refine zac (hok _ h3 h6) ?_
   rw [if_neg (by simp [c3]),zaa (by unfold fits;simp;omega)]
   have e:((l'++[((ix (ix p.2.2.1 (ix l i).1) t).1,i,(ix (ix p.2.2.1 (ix l i).1) t).2.1,())]).length:Int) - 1=(l'.length:Int):=by simp
   rw [e]
 e20 i l t l' k w h0 h1 h2:=by
  have hl:((l'++[((ix (ix p.2.2.1 (ix l i).1) t).1,i,(ix (ix p.2.2.1 (ix l i).1) t).2.1,())]).length:Int)=l'.length+1:=by simp
  have run:∀ x,zaS p i l t l' (zbr p i l t l') k w=x->zbr p i l t l' k w=x:=fun x hx=>by rw [zk0];exact hx
  refine ⟨fun c=>run _ ?_,fun c=>run _ ?_⟩
  ·unfold zaS;rw [zaa (by omega),zaa (by omega),if_pos (decide_eq_true c),zaa (by omega),zaa (by omega),zaa (by unfold room;simp;omega),zaa (by omega),zaa (by omega)]
  ·unfold zaS;rw [zaa (by omega),zaa (by omega),if_neg (by simpa using c)]
   exact zac (zdi (by omega)) rfl
open Classical in
theorem sr2 {p:PT} {to m:Int} (hn:p.2.2.1.length<=10000) (hmay:∀ v:Int,0<=v->v < p.2.2.1.length->za4 v m p=some (decide (m<=mkP p v),p)) (hok:∀ v:Int,0<=v->v < p.2.2.1.length->zdy v to=some (decide (v=to))):
  Srch p.2.2.1 (fun v=>m<=mkP p v) (fun v=>v=to) (fun i l s=>zal p to m i l s p) (fun i l t l' s=>zav p to i l (zal p to) m t l' s p) (fun i l t l' k w=>zbb p i l t l' p k w) (fun v w=>(v,true,w,p)) (0,false,[],p) where
 e9 i l s h0 h1 h2 h3:=by
  show zal p to m i l s p=_;rw [ze3];unfold za0;rw [if_pos (decide_eq_true h1),zaa ⟨h0,h1⟩,zaa (by omega),zaa ⟨h2,h3⟩]
 x9 l s:=by
  show zal p to m (l.length:Int) l s p=_;rw [ze3];unfold za0;rw [if_neg (by simp)]
 x12 i l l' s h0 h1:=by
  show zav p to i l (zal p to) m ((ix p.2.2.1 (ix l i).1).length:Int) l' s p=_;rw [zew];unfold zar;rw [if_neg (by simp),zaa (by unfold fits;omega)]
 e12 i l t l' s h0 h1 h2 h3 h4 h6 h5:=by
  have run:∀ x,zar p to i l (zal p to) (zav p to i l (zal p to)) m t l' s p=x->zav p to i l (zal p to) m t l' s p=x:=fun x hx=>by rw [zew];exact hx
  refine ⟨fun hc=>run _ ?_,fun c1 c2=>⟨fun c3=>run _ ?_,fun c3=>run _ ?_⟩⟩
  ·unfold zar;rw [if_pos (decide_eq_true h1),zaa ⟨h0,h1⟩,zaa ⟨h3,h4⟩,zaa (by omega)]
   by_cases c:ix s (ix (ix p.2.2.1 (ix l i).1) t).1=true
   ·rw [if_pos c,zaa (by unfold fits;omega)]
   ·rw [if_neg c];refine zac (hmay _ h3 h6) ?_
    have:=hc.resolve_left c;rw [if_pos (by simp [this]),zaa (by unfold fits;omega)]
  ·unfold zar;rw [if_pos (decide_eq_true h1),zaa ⟨h0,h1⟩,zaa ⟨h3,h4⟩,zaa (by omega),if_neg c1]
   refine zac (hmay _ h3 h6) ?_
   rw [if_neg (by simp [c2]),zaa ⟨h3,h4⟩,zaa (by omega),zaa (by unfold room;simp;omega)]
   refine zac (hok _ h3 h6) ?_
   rw [if_pos (by simp [c3]),zaa (by unfold fits;omega)]
  ·unfold zar;rw [if_pos (decide_eq_true h1),zaa ⟨h0,h1⟩,zaa ⟨h3,h4⟩,zaa (by omega),if_neg c1]
   refine zac (hmay _ h3 h6) ?_
   rw [if_neg (by simp [c2]),zaa ⟨h3,h4⟩,zaa (by omega),zaa (by unfold room;simp;omega)]
   refine zac (hok _ h3 h6) ?_
   rw [if_neg (by simp [c3]),zaa (by unfold fits;simp;omega)]
   have e:((l'++[((ix (ix p.2.2.1 (ix l i).1) t).1,i,(ix (ix p.2.2.1 (ix l i).1) t).2.1,())]).length:Int) - 1=(l'.length:Int):=by simp
   rw [e]
 e20 i l t l' k w h0 h1 h2:=by
  have hl:((l'++[((ix (ix p.2.2.1 (ix l i).1) t).1,i,(ix (ix p.2.2.1 (ix l i).1) t).2.1,())]).length:Int)=l'.length+1:=by simp
  have run:∀ x,zaH p i l t l' p (zbb p i l t l' p) k w=x->zbb p i l t l' p k w=x:=fun x hx=>by rw [zjA];exact hx
  refine ⟨fun c=>run _ ?_,fun c=>run _ ?_⟩
  ·unfold zaH;rw [zaa (by omega),zaa (by omega),if_pos (decide_eq_true c),zaa (by omega),zaa (by omega),zaa (by unfold room;simp;omega),zaa (by omega),zaa (by omega)]
  ·unfold zaH;rw [zaa (by omega),zaa (by omega),if_neg (by simpa using c)]
   exact zac (zdi (by omega)) rfl
open Classical in
theorem sr3 {p:PT} {to m:Int} (hn:p.2.2.1.length<=10000) (hmay:∀ v:Int,0<=v->v < p.2.2.1.length->za4 v m p=some (decide (m<=mkP p v),p)) (hok:∀ v:Int,0<=v->v < p.2.2.1.length->zdx v to=some (decide (v=to))):
  Srch p.2.2.1 (fun v=>m<=mkP p v) (fun v=>v=to) (fun i l s=>zam p to m i l s p) (fun i l t l' s=>zaw p to i l (zam p to) m t l' s p) (fun i l t l' k w=>zbc p i l t l' p k w) (fun v w=>(v,true,w,p)) (0,false,[],p) where
 e9 i l s h0 h1 h2 h3:=by
  show zam p to m i l s p=_;rw [ze7];unfold za2;rw [if_pos (decide_eq_true h1),zaa ⟨h0,h1⟩,zaa (by omega),zaa ⟨h2,h3⟩]
 x9 l s:=by
  show zam p to m (l.length:Int) l s p=_;rw [ze7];unfold za2;rw [if_neg (by simp)]
 x12 i l l' s h0 h1:=by
  show zaw p to i l (zam p to) m ((ix p.2.2.1 (ix l i).1).length:Int) l' s p=_;rw [zex];unfold zas;rw [if_neg (by simp),zaa (by unfold fits;omega)]
 e12 i l t l' s h0 h1 h2 h3 h4 h6 h5:=by
  have run:∀ x,zas p to i l (zam p to) (zaw p to i l (zam p to)) m t l' s p=x->zaw p to i l (zam p to) m t l' s p=x:=fun x hx=>by rw [zex];exact hx
  refine ⟨fun hc=>run _ ?_,fun c1 c2=>⟨fun c3=>run _ ?_,fun c3=>run _ ?_⟩⟩
  ·unfold zas;rw [if_pos (decide_eq_true h1),zaa ⟨h0,h1⟩,zaa ⟨h3,h4⟩,zaa (by omega)]
   by_cases c:ix s (ix (ix p.2.2.1 (ix l i).1) t).1=true
   ·rw [if_pos c,zaa (by unfold fits;omega)]
   ·rw [if_neg c];refine zac (hmay _ h3 h6) ?_
    have:=hc.resolve_left c;rw [if_pos (by simp [this]),zaa (by unfold fits;omega)]
  ·unfold zas;rw [if_pos (decide_eq_true h1),zaa ⟨h0,h1⟩,zaa ⟨h3,h4⟩,zaa (by omega),if_neg c1]
   refine zac (hmay _ h3 h6) ?_
   rw [if_neg (by simp [c2]),zaa ⟨h3,h4⟩,zaa (by omega),zaa (by unfold room;simp;omega)]
   refine zac (hok _ h3 h6) ?_
   rw [if_pos (by simp [c3]),zaa (by unfold fits;omega)]
  ·unfold zas;rw [if_pos (decide_eq_true h1),zaa ⟨h0,h1⟩,zaa ⟨h3,h4⟩,zaa (by omega),if_neg c1]
   refine zac (hmay _ h3 h6) ?_
   rw [if_neg (by simp [c2]),zaa ⟨h3,h4⟩,zaa (by omega),zaa (by unfold room;simp;omega)]
   refine zac (hok _ h3 h6) ?_
   rw [if_neg (by simp [c3]),zaa (by unfold fits;simp;omega)]
   have e:((l'++[((ix (ix p.2.2.1 (ix l i).1) t).1,i,(ix (ix p.2.2.1 (ix l i).1) t).2.1,())]).length:Int) - 1=(l'.length:Int):=by simp
   rw [e]
 e20 i l t l' k w h0 h1 h2:=by
  have hl:((l'++[((ix (ix p.2.2.1 (ix l i).1) t).1,i,(ix (ix p.2.2.1 (ix l i).1) t).2.1,())]).length:Int)=l'.length+1:=by simp
  have run:∀ x,zaI p i l t l' p (zbc p i l t l' p) k w=x->zbc p i l t l' p k w=x:=fun x hx=>by rw [zjD];exact hx
  refine ⟨fun c=>run _ ?_,fun c=>run _ ?_⟩
  ·unfold zaI;rw [zaa (by omega),zaa (by omega),if_pos (decide_eq_true c),zaa (by omega),zaa (by omega),zaa (by unfold room;simp;omega),zaa (by omega),zaa (by omega)]
  ·unfold zaI;rw [zaa (by omega),zaa (by omega),if_neg (by simpa using c)]
   exact zac (zdi (by omega)) rfl
open Classical in
theorem sr1 {p:PT} {to m f:Int} (hn:p.2.2.1.length<=10000) (hmay:∀ v:Int,0<=v->v < p.2.2.1.length->za4 v m p=some (decide (m<=mkP p v),p)) (hok:∀ v:Int,0<=v->v < p.2.2.1.length->zcF v to f p m=some (decide (zvh p m to f v),f,p,m)):
  Srch p.2.2.1 (fun v=>m<=mkP p v) (fun v=>zvh p m to f v) (fun i l s=>zak p m to i f p m l s) (fun i l t l' s=>zau p i l (zak p) m to t f p m l' s) (fun i l t l' k w=>zba p i l t l' f p m k w) (fun v w=>(v,true,w,f,p,m)) (0,false,[],f,p,m) where
 e9 i l s h0 h1 h2 h3:=by
  show zak p m to i f p m l s=_;rw [zeZ];unfold zaY;rw [if_pos (decide_eq_true h1),zaa ⟨h0,h1⟩,zaa (by omega),zaa ⟨h2,h3⟩]
 x9 l s:=by
  show zak p m to (l.length:Int) f p m l s=_;rw [zeZ];unfold zaY;rw [if_neg (by simp)]
 x12 i l l' s h0 h1:=by
  show zau p i l (zak p) m to ((ix p.2.2.1 (ix l i).1).length:Int) f p m l' s=_;rw [zev];unfold zaq;rw [if_neg (by simp),zaa (by unfold fits;omega)]
 e12 i l t l' s h0 h1 h2 h3 h4 h6 h5:=by
  have run:∀ x,zaq p i l (zak p) (zau p i l (zak p)) m to t f p m l' s=x->zau p i l (zak p) m to t f p m l' s=x:=fun x hx=>by rw [zev];exact hx
  refine ⟨fun hc=>run _ ?_,fun c1 c2=>⟨fun c3=>run _ ?_,fun c3=>run _ ?_⟩⟩
  ·unfold zaq;rw [if_pos (decide_eq_true h1),zaa ⟨h0,h1⟩,zaa ⟨h3,h4⟩,zaa (by omega)]
   by_cases c:ix s (ix (ix p.2.2.1 (ix l i).1) t).1=true
   ·rw [if_pos c,zaa (by unfold fits;omega)]
   ·rw [if_neg c];refine zac (hmay _ h3 h6) ?_
    have:=hc.resolve_left c;rw [if_pos (by simp [this]),zaa (by unfold fits;omega)]
  ·unfold zaq;rw [if_pos (decide_eq_true h1),zaa ⟨h0,h1⟩,zaa ⟨h3,h4⟩,zaa (by omega),if_neg c1]
   refine zac (hmay _ h3 h6) ?_
   rw [if_neg (by simp [c2]),zaa ⟨h3,h4⟩,zaa (by omega),zaa (by unfold room;simp;omega)]
   refine zac (hok _ h3 h6) ?_
   rw [if_pos (by simp [c3]),zaa (by unfold fits;omega)]
  ·unfold zaq;rw [if_pos (decide_eq_true h1),zaa ⟨h0,h1⟩,zaa ⟨h3,h4⟩,zaa (by omega),if_neg c1]
   refine zac (hmay _ h3 h6) ?_
   rw [if_neg (by simp [c2]),zaa ⟨h3,h4⟩,zaa (by omega),zaa (by unfold room;simp;omega)]
   refine zac (hok _ h3 h6) ?_
   rw [if_neg (by simp [c3]),zaa (by unfold fits;simp;omega)]
   have e:((l'++[((ix (ix p.2.2.1 (ix l i).1) t).1,i,(ix (ix p.2.2.1 (ix l i).1) t).2.1,())]).length:Int) - 1=(l'.length:Int):=by simp
   rw [e]
 e20 i l t l' k w h0 h1 h2:=by
  have hl:((l'++[((ix (ix p.2.2.1 (ix l i).1) t).1,i,(ix (ix p.2.2.1 (ix l i).1) t).2.1,())]).length:Int)=l'.length+1:=by simp
  have run:∀ x,zaG p i l t l' f p m (zba p i l t l' f p m) k w=x->zba p i l t l' f p m k w=x:=fun x hx=>by rw [zjx];exact hx
  refine ⟨fun c=>run _ ?_,fun c=>run _ ?_⟩
  ·unfold zaG;rw [zaa (by omega),zaa (by omega),if_pos (decide_eq_true c),zaa (by omega),zaa (by omega),zaa (by unfold room;simp;omega),zaa (by omega),zaa (by omega)]
  ·unfold zaG;rw [zaa (by omega),zaa (by omega),if_neg (by simpa using c)]
   exact zac (zdi (by omega)) rfl
theorem zzo {n q x:Int} (x0:0<=x) (x1:x < n):(q * n+x) / n=q/\(q * n+x) % n=x:=by
 rw [Int.add_comm];constructor
 ·rw [Int.add_mul_ediv_right _ _ (by omega),Int.ediv_eq_zero_of_lt x0 x1];omega
 ·rw [Int.add_mul_emod_self_right,Int.emod_eq_of_lt x0 x1]
theorem pl_b {n q x N:Int} (q0:0<=q) (q1:q < N) (x0:0<=x) (x1:x < n):0<=q * n/\q * n+x < n * N:=by
 have h1:0<=q * n:=Int.mul_nonneg q0 (by omega)
 have h2:(q+1) * n<=N * n:=Int.mul_le_mul_of_nonneg_right (by omega) (by omega)
 rw [Int.add_mul,Int.one_mul,Int.mul_comm N n] at h2;omega
theorem zDh {n N v:Int} (n0:0 < n) (v0:0<=v) (v1:v < n * N):0<=v / n/\v / n < N/\0<=v % n/\v % n < n/\v / n * n+v % n=v:=by
 refine ⟨Int.ediv_nonneg v0 (by omega),?_,Int.emod_nonneg _ (by omega),Int.emod_lt_of_pos _ n0,?_⟩
 ·exact Int.ediv_lt_of_lt_mul n0 (by rw [Int.mul_comm];exact v1)
 ·rw [Int.mul_comm];exact Int.mul_ediv_add_emod v n
section
variable {a:Au} {d:Dt}
def bndP (a:Au) (T S q:Int):Int:=if q < T then a.2.2.2.1.length else if q=T then S else 0
def eP (a:Au) (d:Dt) (q k:Int):Int×Int×Unit:=(ix (ix d.2.2.1 q) (ix a.2.2.2.1 k).2.1 * a.2.1+(ix a.2.2.2.1 k).2.2.1,(ix a.2.2.2.1 k).2.1,())
structure PrTo (a:Au) (d:Dt) (T S:Int) (nx:NXT):Prop where
 len:(nx.length:Int)=a.2.1 * d.2.2.1.length
 row:∀ q x:Int,0<=q->q < d.2.2.1.length->0<=x->x < a.2.1->((ix nx (q * a.2.1+x)).length:Int)<=bndP a T S q/\∀ e,e∈ix nx (q * a.2.1+x)↔∃ k:Int,0<=k/\k < bndP a T S q/\(ix a.2.2.2.1 k).1=x/\e=eP a d q k
structure AdOk (a:Au) (d:Dt):Prop where
 ka:AuOk a
 kd:DOk 20000 badM d
 kl:d.1=a.1
 kn:a.2.1 * d.2.2.1.length<=10000
theorem zB3 (h:AdOk a d) {T:Int} (T0:0<=T) (T1:T < d.2.2.1.length) {r3:Int->Int->Int->List Int->List (Int×Int×Int×Unit)->List Int->Int->Int->List (List Int)->List Int->NXT->Option PT}:∀ (n:Nat) (S:Int) (nx:NXT),(a.2.2.2.1.length - S).toNat=n->0<=S->S<=a.2.2.2.1.length->PrTo a d T S nx->
  ∃ nx',PrTo a d (T+1) 0 nx'/\zb8 a d T r3 S a.1 a.2.1 a.2.2.1 a.2.2.2.1 a.2.2.2.2.1 d.1 d.2.1 d.2.2.1 d.2.2.2.1 nx=r3 (T+1) a.1 a.2.1 a.2.2.1 a.2.2.2.1 a.2.2.2.2.1 d.1 d.2.1 d.2.2.1 d.2.2.2.1 nx':=by
 have hsl:=h.ka.sl;have hn:=h.kn;have hdn:=h.kd.n1;intro n
 induction n with
 | zero=>
  intro S nx hm S0 S1 hP;obtain rfl:S=a.2.2.2.1.length:=by omega
  have e:∀ q,bndP a T a.2.2.2.1.length q=bndP a (T+1) 0 q:=fun q=>by
   unfold bndP;by_cases c:q < T
   ·rw [if_pos c,if_pos (by omega)]
   ·rw [if_neg c];by_cases c2:q=T
    ·rw [if_pos c2,if_pos (by omega)]
    ·rw [if_neg c2,if_neg (by omega)];split<;>rfl
  refine ⟨nx,⟨hP.len,fun q x q0 q1 x0 x1=>by rw [<- e];exact hP.row q x q0 q1 x0 x1⟩,?_⟩
  rw [zhR];unfold zbD;rw [if_neg (by simp),zaa (by unfold fits;omega)]
 | succ n ih=>
  intro S nx hm S0 S1 hP;have hlen:=hP.len;obtain ⟨⟨f0,f1⟩,⟨l0,l1⟩,g0,g1⟩:=h.ka.sb _ (za5 (l:=a.2.2.2.1) S0 (by omega))
  obtain ⟨y,hy⟩:∃ y,ix a.2.2.2.1 S=y:=⟨_,rfl⟩;rw [hy] at f0 f1 l0 l1 g0 g1;obtain ⟨b1,b2⟩:=pl_b T0 T1 f0 f1;have hrow:=h.kd.tab.rowlen T0 T1;have hst:=h.kd.tab.stpb T0 T1 l0 (by rw [h.kl];exact l1)
  obtain ⟨b3,b4⟩:=pl_b hst.1 hst.2 g0 g1;have hln:=h.kl;obtain ⟨r1,r2⟩:=hP.row T y.1 T0 T1 f0 f1;have hbS:∀ S',bndP a T S' T=S':=fun S'=>by unfold bndP;rw [if_neg (by omega),if_pos rfl]
  have hbo:∀ S' q,q≠T->bndP a T S' q=bndP a T S q:=fun S' q hq=>by unfold bndP;rw [if_neg hq,if_neg hq]
  rw [hbS] at r1;have ee:eP a d T S=(ix (ix d.2.2.1 T) y.2.1 * a.2.1+y.2.2.1,y.2.1,()):=by unfold eP;rw [hy]
  have he0:∀ x,stp d.2.2.1 T x=ix (ix d.2.2.1 T) x:=fun _=>rfl
  rw [he0] at hst b3 b4;obtain ⟨nx',k1,k2⟩:=ih (S+1) (nx.set (T * a.2.1+y.1).toNat (ix nx (T * a.2.1+y.1)++[(ix (ix d.2.2.1 T) y.2.1 * a.2.1+y.2.2.1,y.2.1,())])) (by omega) (by omega) (by omega) ⟨by rw [List.length_set];exact hlen,fun q x q0 q1 x0 x1=>by
   obtain ⟨c1,c2⟩:=pl_b q0 q1 x0 x1;obtain ⟨o1,o2⟩:=hP.row q x q0 q1 x0 x1;by_cases e:q=T/\x=y.1
   ·obtain ⟨rfl,rfl⟩:=e;rw [zap (by omega) (by omega),hbS]
    rw [hbS] at o1;refine ⟨by rw [List.length_append,List.length_singleton];omega,fun e => ?_⟩
    rw [List.mem_append,o2,List.mem_singleton,hbS];constructor
    ·rintro (⟨k,a1,a2,a3⟩ | rfl)
     ·exact ⟨k,a1,by omega,a3⟩
     ·exact ⟨S,S0,by omega,by rw [hy],ee.symm⟩
    ·rintro ⟨k,a1,a2,a3,a4⟩;by_cases ek:k=S
     ·rw [ek,ee] at a4;exact .inr a4
     ·exact .inl ⟨k,a1,by omega,a3,a4⟩
   ·have hne:T * a.2.1+y.1≠q * a.2.1+x:=fun hh=>by
     obtain ⟨p1,p2⟩:=zzo (q:=q) x0 x1;obtain ⟨p3,p4⟩:=zzo (q:=T) f0 f1;rw [hh] at p3 p4;exact e ⟨by omega,by omega⟩
    rw [zat (by omega) (by omega) hne]
    by_cases eq:q=T
    ·subst eq;rw [hbS] at o1 o2 ⊢;refine ⟨by omega,fun e'=>(o2 e').trans ⟨fun ⟨k,a1,a2,a3⟩=>⟨k,a1,by omega,a3⟩,fun ⟨k,a1,a2,a3,a4⟩=>⟨k,a1,?_,a3,a4⟩⟩⟩
     by_cases ek:k=S
     ·rw [ek,hy] at a3;exact absurd ⟨rfl,a3.symm⟩ e
     ·omega
    ·rw [hbo _ q eq];exact ⟨o1,o2⟩⟩
  refine ⟨nx',k1,?_⟩
  rw [<- k2]
  conv=>lhs;rw [zhR];unfold zbD zcB
  rw [if_pos (by simp;omega),zaa (by omega),hy,zaa (by unfold fits;omega),zaa (by unfold fits;omega),zaa (by omega),zaa (by omega),zaa (by omega),zaa (by omega),zaa (by unfold fits;omega),zaa (by unfold fits;omega)]
  have g1:(T * a.2.1+y.1).toNat < nx.length:=by omega
  have g2:room (ix nx (T * a.2.1+y.1)) [(ix (ix d.2.2.1 T) y.2.1 * a.2.1+y.2.2.1,y.2.1,())] 16:=by unfold room;simp;omega
  have g3:0<=T * a.2.1+y.1/\T * a.2.1+y.1 < (nx.length:Int):=by omega
  have g4:fits (S+1):=by unfold fits;omega
  refine zbN ?_ ?_<;>exact G_to g1 (G_to g2 (G_to g3 (G_to rfl (G_to g4 rfl))))
def PrOk (a:Au) (d:Dt) (nx:NXT):Prop:=(nx.length:Int)=a.2.1 * d.2.2.1.length/\GrOk nx a.1/\∀ q x:Int,0<=q->q < d.2.2.1.length->0<=x->x < a.2.1->∀ c v,Ed nx (q * a.2.1+x) c v↔∃ y,StA a x c y/\v=ix (ix d.2.2.1 q) c * a.2.1+y
theorem zuR (h:AdOk a d):∃ nx,zg9 a d=some (a,d,nx,())/\PrOk a d nx:=by
 have hsl:=h.ka.sl;have hn:=h.kn;have hdn:=h.kd.n1;have han:=h.ka.n1;have L3:∀ (n:Nat) (T:Int) (nx:NXT),(d.2.2.1.length - T).toNat=n->0<=T->T<=d.2.2.1.length->PrTo a d T 0 nx->∃ nx',PrTo a d d.2.2.1.length 0 nx'/\zdm a d T a.1 a.2.1 a.2.2.1 a.2.2.2.1 a.2.2.2.2.1 d.1 d.2.1 d.2.2.1 d.2.2.2.1 nx=some (a,d,nx',()):=by
  intro n
  induction n with
  | zero=>
   intro T nx hm T0 T1 hP;obtain rfl:T=d.2.2.1.length:=by omega
   refine ⟨nx,hP,?_⟩
   rw [zhQ];unfold zbC;rw [if_neg (by simp)]
  | succ n ih=>
   intro T nx hm T0 T1 hP;obtain ⟨nx1,h1,h2⟩:=zB3 h T0 (by omega) (r3:=zdm a d) _ 0 nx rfl (Int.le_refl _) (by omega) hP
   obtain ⟨nx2,h3,h4⟩:=ih (T+1) nx1 (by omega) (by omega) (by omega) h1
   refine ⟨nx2,h3,?_⟩
   rw [zhQ];unfold zbC;rw [if_pos (by simp;omega),h2];exact h4
 obtain ⟨nx,hP,hrun⟩:=L3 _ 0 (List.replicate (a.2.1 * d.2.2.1.length).toNat []) rfl (Int.le_refl _) (by omega) ⟨by rw [List.length_replicate];have:=(pl_b (x:=0) (Int.le_refl 0) (show (0:Int) < d.2.2.1.length by omega) (Int.le_refl _) (show 0 < a.2.1 by omega)).2;omega,fun q x q0 q1 x0 x1=>by
  have:=pl_b q0 q1 x0 x1;rw [zc1 (by omega) (by omega)]
  have e:bndP a 0 0 q=0:=by unfold bndP;rw [if_neg (by omega)];split<;>rfl
  rw [e];exact ⟨by simp,fun e=>⟨fun hh=>(by cases hh),fun ⟨k,k0,k1,_⟩=>by omega⟩⟩⟩
 have hP':∀ q x:Int,0<=q->q < d.2.2.1.length->0<=x->x < a.2.1->((ix nx (q * a.2.1+x)).length:Int)<=a.2.2.2.1.length/\∀ e,e∈ix nx (q * a.2.1+x)↔∃ k:Int,0<=k/\k < a.2.2.2.1.length/\(ix a.2.2.2.1 k).1=x/\e=eP a d q k:=fun q x q0 q1 x0 x1=>by
  have:=hP.row q x q0 q1 x0 x1;have e:bndP a d.2.2.1.length 0 q=a.2.2.2.1.length:=by unfold bndP;rw [if_pos q1]
  rwa [e] at this
 refine ⟨nx,?_,hP.len,⟨by have:=hP.len;omega,fun v v0 v1 => ?_⟩,fun q x q0 q1 x0 x1 c v => ?_⟩
 ·unfold zg9;have g:mkOK (a.2.1 * (d.2.2.1.length:Int)) (a.2.1 * (d.2.2.1.length:Int)) 24:=by
   unfold mkOK;have:=(pl_b (x:=0) (Int.le_refl 0) (show (0:Int) < d.2.2.1.length by omega) (Int.le_refl _) (show 0 < a.2.1 by omega)).2
   omega
  rw [zaa (by unfold fits;have:=(pl_b (x:=0) (Int.le_refl 0) (show (0:Int) < d.2.2.1.length by omega) (Int.le_refl _) (show 0 < a.2.1 by omega)).2;omega)]
  exact zbN (zbN (G_to g hrun) (G_to g hrun)) (zbN (G_to g hrun) (G_to g hrun))
 ·obtain ⟨p1,p2,p3,p4,p5⟩:=zDh (n:=a.2.1) (N:=d.2.2.1.length) (by omega) v0 (by rw [<- hP.len];exact v1)
  obtain ⟨r1,r2⟩:=hP' _ _ p1 p2 p3 p4;rw [p5] at r1 r2;refine ⟨by omega,fun e he => ?_⟩
  obtain ⟨k,k0,k1,_,rfl⟩:=(r2 e).1 he;obtain ⟨_,⟨l0,l1⟩,g0,g1⟩:=h.ka.sb _ (za5 k0 k1);have hst:=h.kd.tab.stpb p1 p2 l0 (by rw [h.kl];exact l1)
  obtain ⟨b3,b4⟩:=pl_b hst.1 hst.2 g0 g1;rw [<- hP.len] at b4;refine ⟨⟨?_,b4⟩,l0,l1⟩
  show 0<=stp d.2.2.1 (v / a.2.1) (ix a.2.2.2.1 k).2.1 * a.2.1+(ix a.2.2.2.1 k).2.2.1;omega
 ·unfold Ed;rw [(hP' q x q0 q1 x0 x1).2];constructor
  ·rintro ⟨k,k0,k1,k2,k3⟩;unfold eP at k3;simp only [Prod.mk.injEq] at k3;refine ⟨(ix a.2.2.2.1 k).2.2.1,?_,?_⟩
   ·unfold StA;rw [<- k2,k3.2.1];exact za5 k0 k1
   ·rw [k3.1,k3.2.1]
  ·rintro ⟨y,hs,rfl⟩;obtain ⟨k,k0,k1,ek⟩:=(zho (P:=fun z=>z=(x,c,y,()))).1 ⟨_,hs,rfl⟩
   refine ⟨k,k0,k1,by rw [ek],?_⟩
   unfold eP;rw [ek]
end
theorem zl7 {s:List Int} {v:Int} (hs:s.length<=4611686018427387904):zfP (zcY s v) (v∈s):=
 zfP.iff (zmI (f:=fun x=>some (decide (v=x))) (P:=fun x=>v=x) (zoC s v) hs (fun x _=>zfP.dec Iff.rfl)) ⟨fun ⟨x,hx,e⟩=>e ▸ hx,fun h=>⟨v,h,rfl⟩⟩
theorem zCb {p:PT} {to:Int} {fr:List Int} {L:Int} (hg:GrOk p.2.2.1 L) (hfr:fr.length<=300) (hrg:∀ f∈fr,0<=f/\f < (p.2.2.1.length:Int)) (S:Srch p.2.2.1 (fun v=>True) (fun v=>v=to) (fun i l s=>zao p to i l s) (fun i l t l' s=>zaB p to i l (zao p to) t l' s) (fun i l t l' k w=>zbr p i l t l' k w) (fun v w=>(v,true,w)) (0,false,[])):
  SrR p.2.2.1 (fun v=>True) (fun v=>v=to) fr (fun v w=>(v,true,w)) (0,false,[]) (zcw p fr to):=by
 have hn:=hg.n;have key:∀ (mm t:Nat),t+mm=fr.length->zcG p fr to (t:Int) (fl (fr.take t))=zao p to 0 (fl fr) (List.replicate p.2.2.1.length false):=by
  intro mm
  induction mm with
  | zero=>
   intro t ht;rw [zgz];unfold zbk;rw [if_neg (by simp only [decide_eq_true_eq];omega),List.take_of_length_le (by omega),zaa (by unfold mkOK;omega),Int.toNat_natCast]
  | succ mm ih=>
   intro t ht;rw [<- ih (t+1) (by omega)]
   conv=>lhs;rw [zgz];unfold zbk
   rw [if_pos (decide_eq_true (by omega)),zaa (by omega),zaa (by unfold room;rw [zpC];simp;omega),zaa (by unfold fits;omega)]
   have:=ziA (l:=fr) (i:=(t:Int)) (by omega) (by omega)
   rw [show ((t:Int)+1).toNat=t+1 by omega,Int.toNat_natCast] at this
   rw [this];unfold fl;rw [List.map_append];rfl
 have e:=key fr.length 0 (by omega)
 have e2:zcw p fr to=zcG p fr to ((0:Nat):Int) (fl (fr.take 0)):=rfl;rw [e2,e];exact S.run hg hfr hrg
theorem zCd {p:PT} {to m:Int} {fr:List Int} {L:Int} (hg:GrOk p.2.2.1 L) (hfr:fr.length<=300) (hrg:∀ f∈fr,0<=f/\f < (p.2.2.1.length:Int)) (S:Srch p.2.2.1 (fun v=>m<=mkP p v) (fun v=>v=to) (fun i l s=>zal p to m i l s p) (fun i l t l' s=>zav p to i l (zal p to) m t l' s p) (fun i l t l' k w=>zbb p i l t l' p k w) (fun v w=>(v,true,w,p)) (0,false,[],p)):
  SrR p.2.2.1 (fun v=>m<=mkP p v) (fun v=>v=to) fr (fun v w=>(v,true,w,p)) (0,false,[],p) (zdS p fr m to p):=by
 have hn:=hg.n;have key:∀ (mm t:Nat),t+mm=fr.length->zca p fr m to p (t:Int) (fl (fr.take t))=zal p to m 0 (fl fr) (List.replicate p.2.2.1.length false) p:=by
  intro mm
  induction mm with
  | zero=>
   intro t ht;rw [ze2];unfold zaZ;rw [if_neg (by simp only [decide_eq_true_eq];omega),List.take_of_length_le (by omega),zaa (by unfold mkOK;omega),Int.toNat_natCast]
  | succ mm ih=>
   intro t ht;rw [<- ih (t+1) (by omega)]
   conv=>lhs;rw [ze2];unfold zaZ
   rw [if_pos (decide_eq_true (by omega)),zaa (by omega),zaa (by unfold room;rw [zpC];simp;omega),zaa (by unfold fits;omega)]
   have:=ziA (l:=fr) (i:=(t:Int)) (by omega) (by omega)
   rw [show ((t:Int)+1).toNat=t+1 by omega,Int.toNat_natCast] at this
   rw [this];unfold fl;rw [List.map_append];rfl
 have e:=key fr.length 0 (by omega)
 have e2:zdS p fr m to p=zca p fr m to p ((0:Nat):Int) (fl (fr.take 0)):=rfl;rw [e2,e];exact S.run hg hfr hrg
theorem zCe {p:PT} {to m:Int} {fr:List Int} {L:Int} (hg:GrOk p.2.2.1 L) (hfr:fr.length<=300) (hrg:∀ f∈fr,0<=f/\f < (p.2.2.1.length:Int)) (S:Srch p.2.2.1 (fun v=>m<=mkP p v) (fun v=>v=to) (fun i l s=>zam p to m i l s p) (fun i l t l' s=>zaw p to i l (zam p to) m t l' s p) (fun i l t l' k w=>zbc p i l t l' p k w) (fun v w=>(v,true,w,p)) (0,false,[],p)):
  SrR p.2.2.1 (fun v=>m<=mkP p v) (fun v=>v=to) fr (fun v w=>(v,true,w,p)) (0,false,[],p) (zcV p fr m to p):=by
 have hn:=hg.n;have key:∀ (mm t:Nat),t+mm=fr.length->zcb p fr m to p (t:Int) (fl (fr.take t))=zam p to m 0 (fl fr) (List.replicate p.2.2.1.length false) p:=by
  intro mm
  induction mm with
  | zero=>
   intro t ht;rw [ze6];unfold za1;rw [if_neg (by simp only [decide_eq_true_eq];omega),List.take_of_length_le (by omega),zaa (by unfold mkOK;omega),Int.toNat_natCast]
  | succ mm ih=>
   intro t ht;rw [<- ih (t+1) (by omega)]
   conv=>lhs;rw [ze6];unfold za1
   rw [if_pos (decide_eq_true (by omega)),zaa (by omega),zaa (by unfold room;rw [zpC];simp;omega),zaa (by unfold fits;omega)]
   have:=ziA (l:=fr) (i:=(t:Int)) (by omega) (by omega)
   rw [show ((t:Int)+1).toNat=t+1 by omega,Int.toNat_natCast] at this
   rw [this];unfold fl;rw [List.map_append];rfl
 have e:=key fr.length 0 (by omega)
 have e2:zcV p fr m to p=zcb p fr m to p ((0:Nat):Int) (fl (fr.take 0)):=rfl;rw [e2,e];exact S.run hg hfr hrg
theorem zCc {p:PT} {to m f:Int} {fr:List Int} {L:Int} (hg:GrOk p.2.2.1 L) (hfr:fr.length<=300) (hrg:∀ f∈fr,0<=f/\f < (p.2.2.1.length:Int)) (S:Srch p.2.2.1 (fun v=>m<=mkP p v) (fun v=>zvh p m to f v) (fun i l s=>zak p m to i f p m l s) (fun i l t l' s=>zau p i l (zak p) m to t f p m l' s) (fun i l t l' k w=>zba p i l t l' f p m k w) (fun v w=>(v,true,w,f,p,m)) (0,false,[],f,p,m)):
  SrR p.2.2.1 (fun v=>m<=mkP p v) (fun v=>zvh p m to f v) fr (fun v w=>(v,true,w,f,p,m)) (0,false,[],f,p,m) (zdR p fr m to f p m):=by
 have hn:=hg.n;have key:∀ (mm t:Nat),t+mm=fr.length->zb9 p fr m to f p m (t:Int) (fl (fr.take t))=zak p m to 0 f p m (fl fr) (List.replicate p.2.2.1.length false):=by
  intro mm
  induction mm with
  | zero=>
   intro t ht;rw [zeY];unfold zaX;rw [if_neg (by simp only [decide_eq_true_eq];omega),List.take_of_length_le (by omega),zaa (by unfold mkOK;omega),Int.toNat_natCast]
  | succ mm ih=>
   intro t ht;rw [<- ih (t+1) (by omega)]
   conv=>lhs;rw [zeY];unfold zaX
   rw [if_pos (decide_eq_true (by omega)),zaa (by omega),zaa (by unfold room;rw [zpC];simp;omega),zaa (by unfold fits;omega)]
   have:=ziA (l:=fr) (i:=(t:Int)) (by omega) (by omega)
   rw [show ((t:Int)+1).toNat=t+1 by omega,Int.toNat_natCast] at this
   rw [this];unfold fl;rw [List.map_append];rfl
 have e:=key fr.length 0 (by omega)
 have e2:zdR p fr m to f p m=zb9 p fr m to f p m ((0:Nat):Int) (fl (fr.take 0)):=rfl;rw [e2,e];exact S.run hg hfr hrg
structure POk (p:PT):Prop where
 ad:AdOk p.1 p.2.1
 pr:PrOk p.1 p.2.1 p.2.2.1
section
variable {p:PT}
theorem POk.div (h:POk p) {v:Int} (v0:0<=v) (v1:v < p.2.2.1.length):0<=v / p.1.2.1/\v / p.1.2.1 < p.2.1.2.2.1.length/\0<=v % p.1.2.1/\v % p.1.2.1 < p.1.2.1/\v / p.1.2.1 * p.1.2.1+v % p.1.2.1=v:=
 zDh (by have:=h.ad.ka.n1;omega) v0 (by rw [<- h.pr.1];exact v1)
theorem zfV (h:POk p) {v:Int} (v0:0<=v) (v1:v < p.2.2.1.length):zbA v p=some (mkP p v,p):=by
 obtain ⟨d0,d1,_⟩:=h.div v0 v1;have hn:=h.ad.ka.n1;have hk:=h.ad.kd.mkl;have hdn:=h.ad.kd.n1;unfold zbA;rw [Int.tdiv_eq_ediv_of_nonneg v0,zaa (by omega),zaa (by unfold fits;omega),zaa (by omega)]
 rfl
theorem znk (h:POk p) {v m:Int} (v0:0<=v) (v1:v < p.2.2.1.length):za4 v m p=some (decide (m<=mkP p v),p):=by
 unfold za4;exact zbN (zac (zfV h v0 v1) rfl) (zac (zfV h v0 v1) rfl)
theorem zj1 (h:POk p) {v f:Int} (v0:0<=v):zcE v f p=some (decide (v % p.1.2.1=f),p):=by
 have hn:=h.ad.ka.n1;unfold zcE;rw [zaa (by omega),Int.tmod_eq_emod_of_nonneg v0]
def Lds (p:PT) (m u to:Int):Prop:=∃ w,w≠[]/\WkG p.2.2.1 (fun v=>m<=mkP p v) w u to
open Classical in
theorem zxE (h:POk p) {m u to:Int} (u0:0<=u) (u1:u < p.2.2.1.length):zeg p u to m p=some (decide (Lds p m u to),p):=by
 have S:=zCd (fr:=[u]) h.pr.2.1 (by simp) (fun f hf=>by rw [List.mem_singleton.1 hf];exact ⟨u0,u1⟩) (sr2 (to:=to) (m:=m) h.pr.2.1.n (fun v a b=>(znk h a b).trans (by simp)) (fun v _ _=>by unfold zdy;simp))
 unfold zeg;rcases S with ⟨v,w,e,rfl,⟨f,hf,hw⟩,h1,_⟩ | ⟨e,hno⟩
 ·rw [List.mem_singleton.1 hf] at hw;refine zac e ?_
  have:Lds p m u v:=⟨w,by intro hh;rw [hh] at h1;simp at h1,hw⟩
  simp [this]
 ·refine zac e ?_
  have : ¬ Lds p m u to:=fun ⟨w,hne,hw⟩=>hno u (by simp) w to hne hw rfl
  simp [this]
open Classical in
theorem zvV (h:POk p) {v m to f:Int} (v0:0<=v) (v1:v < p.2.2.1.length):zcF v to f p m=some (decide (zvh p m to f v),f,p,m):=by
 unfold zcF;refine zac (zj1 h v0) ?_
 by_cases c:v % p.1.2.1=f
 ·rw [if_pos (by simpa using c)]
  refine zac (zxE h v0 v1) ?_
  have:zvh p m to f v↔Lds p m v to:=⟨fun hh=>hh.2,fun hh=>⟨c,hh⟩⟩
  simp [this]
 ·rw [if_neg (by simpa using c)]
  have : ¬ zvh p m to f v:=fun hh=>c hh.1
  simp [this]
def stP (p:PT):List Int:=p.1.2.2.1.map (fun q=>p.2.1.2.1 * p.1.2.1+q)
structure LasHit (p:PT) (m:Int) (u w:List Int):Prop where
 ex:∃ at':Int,(0<=at'/\at' < p.2.2.1.length)/\mkP p at'=m/\(∃ s∈stP p,WkG p.2.2.1 (fun _=>True) u s at')/\∃ f∈p.1.2.2.2.2.1,∃ one two mid,w=one++two/\two≠[]/\mid % p.1.2.1=f/\WkG p.2.2.1 (fun v=>m<=mkP p v) one at' mid/\WkG p.2.2.1 (fun v=>m<=mkP p v) two mid at'
 lu:u.length<=10000
 lw:w.length<=20000
def zzN (p:PT) (m at':Int):Prop:=mkP p at'=m/\(∃ s∈stP p,∃ u,WkG p.2.2.1 (fun _=>True) u s at')/\∃ f∈p.1.2.2.2.2.1,∃ one two mid,two≠[]/\mid % p.1.2.1=f/\WkG p.2.2.1 (fun v=>m<=mkP p v) one at' mid/\WkG p.2.2.1 (fun v=>m<=mkP p v) two mid at'
def LasR (p:PT) (m:Int) (P:Int->Prop) (o:Option ((List Int×List Int×Unit)×Bool)):Prop:=(∃ u w,o=some ((u,w,()),true)/\LasHit p m u w)\/(o=some (([],[],()),false)/\∀ at',0<=at'->at' < (p.2.2.1.length:Int)->P at' -> ¬ zzN p m at')
theorem zBU (h:POk p) {m at':Int} (a0:0<=at') (a1:at' < p.2.2.1.length) (hm:mkP p at'=m) {u:List Int} (hu:∃ s∈stP p,WkG p.2.2.1 (fun _=>True) u s at') (lu:u.length<=10000) {r11:Int->PT->Int->Option ((List Int×List Int×Unit)×Bool)} {P:Int->Prop}
  (cont:(∀ f∈p.1.2.2.2.2.1,∀ one two mid,two≠[]->mid % p.1.2.1=f->WkG p.2.2.1 (fun v=>m<=mkP p v) one at' mid->WkG p.2.2.1 (fun v=>m<=mkP p v) two mid at'->False)->LasR p m P (r11 (at'+1) p m)):
  ∀ (n:Nat) (t:Int),(p.1.2.2.2.2.1.length - t).toNat=n->0<=t->t<=p.1.2.2.2.2.1.length->(∀ k:Int,0<=k->k < t->∀ one two mid,two≠[]->mid % p.1.2.1=ix p.1.2.2.2.2.1 k->WkG p.2.2.1 (fun v=>m<=mkP p v) one at' mid->WkG p.2.2.1 (fun v=>m<=mkP p v) two mid at'->False)->LasR p m P (zae at' r11 p u at' t p m):=by
 have hg:=h.pr.2.1;have hP:=hg.n;have hlf:=h.ad.ka.lf;intro n
 induction n with
 | zero=>
  intro t hn t0 t1 hd;obtain rfl:t=p.1.2.2.2.2.1.length:=by omega
  have:zae at' r11 p u at' (p.1.2.2.2.2.1.length:Int) p m=r11 (at'+1) p m:=by
   rw [zcd];unfold zaC;rw [if_neg (by simp),zaa (by unfold fits;omega)]
  rw [this];refine cont fun f hf => ?_
  obtain ⟨k,k0,k1,rfl⟩:=(zho (P:=fun z=>z=f)).1 ⟨f,hf,rfl⟩
  exact hd k k0 k1
 | succ n ih=>
  intro t hn t0 t1 hd;have hf:=za5 (l:=p.1.2.2.2.2.1) t0 (by omega)
  obtain ⟨f,ef⟩:∃ f,ix p.1.2.2.2.2.1 t=f:=⟨_,rfl⟩;rw [ef] at hf;have next:(∀ one two mid,two≠[]->mid % p.1.2.1=f->WkG p.2.2.1 (fun v=>m<=mkP p v) one at' mid->WkG p.2.2.1 (fun v=>m<=mkP p v) two mid at'->False)->LasR p m P (zae at' r11 p u at' (t+1) p m):=fun hno=>ih (t+1) (by omega) (by omega) (by omega) (fun k k0 k1=>by
   by_cases e:k=t
   ·rw [e,ef];exact hno
   ·exact hd k k0 (by omega))
  have J26:∀ (mid:Int) (one:List Int),0<=mid->mid < p.2.2.1.length->mid % p.1.2.1=f->WkG p.2.2.1 (fun v=>m<=mkP p v) one at' mid->one.length<=10000->(¬ Lds p m mid at'->LasR p m P (zae at' r11 p u at' (t+1) p m))->LasR p m P (zaL u at' t (zae at' r11 p u) mid p m one):=fun mid one d0 d1 em hw lo hno=>by
   have S:=zCe (fr:=[mid]) hg (by simp) (fun f hf=>by rw [List.mem_singleton.1 hf];exact ⟨d0,d1⟩) (sr3 (to:=at') (m:=m) hg.n (fun v a b=>(znk h a b).trans (by simp)) (fun v _ _=>by unfold zdx;simp))
   unfold zaL;rcases S with ⟨v,w,e,rfl,⟨f',hf',hw2⟩,h1,h2⟩ | ⟨e,hn2⟩
   ·rw [List.mem_singleton.1 hf'] at hw2;refine .inl ⟨u,one++w,?_,⟨⟨v,⟨a0,a1⟩,hm,hu,f,hf,one,w,mid,rfl,by intro hh;rw [hh] at h1;simp at h1,em,hw,hw2⟩,lu,by rw [List.length_append];omega⟩⟩
    refine zac e ?_
    show (if true=true then G (room one w 8) (some ((u,one++w,()),true)) else _)=_
    rw [if_pos rfl,zaa (by unfold room;omega)]
   ·have hnl : ¬ Lds p m mid at':=fun ⟨w,hne,hw⟩=>hn2 mid (by simp) w at' hne hw rfl
    have:=hno hnl;rw [show ((zcV p [mid] m at' p).bind fun y'_23=>if y'_23.2.1=true then G (room one y'_23.2.2.1 8) (some ((u,one++y'_23.2.2.1,()),true)) else G (fits (t+1)) (zae at' r11 p u at' (t+1) y'_23.2.2.2 m))=zae at' r11 p u at' (t+1) p m from zac e (by rw [if_neg (by simp),zaa (by unfold fits;omega)])]
    exact this
  by_cases c:at' % p.1.2.1=f
  ·have:=J26 at' [] a0 a1 c rfl (by simp) (fun hno=>next fun one two mid hne em h1 h2=>hno ⟨one++two,by simp [hne],WkG.app.2 ⟨mid,h1,h2⟩⟩)
   rw [show zae at' r11 p u at' t p m=zaL u at' t (zae at' r11 p u) at' p m [] from by
    rw [zcd];unfold zaC;rw [if_pos (by simp;omega),zaa (by omega),ef]
    exact zac (zj1 h a0) (by rw [if_neg (by simp [c])])]
   exact this
  ·have S:=zCc (fr:=[at']) hg (by simp) (fun f hf=>by rw [List.mem_singleton.1 hf];exact ⟨a0,a1⟩) (sr1 (to:=at') (m:=m) (f:=f) hg.n (fun v a b=>(znk h a b).trans (by simp)) (fun v a b=>(zvV h a b)))
   rcases S with ⟨v,w,e,hgd,⟨f',hf',hw2⟩,h1,h2⟩ | ⟨e,hn2⟩
   ·rw [List.mem_singleton.1 hf'] at hw2;have hb:=(WkG.b hg a0 a1 hw2).1;have:=J26 v w hb.1 hb.2 hgd.1 hw2 (by omega) (fun hno=>absurd hgd.2 hno)
    rw [show zae at' r11 p u at' t p m=zaL u at' t (zae at' r11 p u) v p m w from by
     rw [zcd];unfold zaC;rw [if_pos (by simp;omega),zaa (by omega),ef]
     exact zac (zj1 h a0) (by rw [if_pos (by simp [c])];exact zac e (by rw [if_neg (by simp)]))]
    exact this
   ·have:=next fun one two mid hne em h1 h2=>by
     refine hn2 at' (by simp) one mid (fun hh => ?_) h1 ⟨em,two,hne,h2⟩
     rw [hh] at h1
     cases h1;exact c em
    rw [show zae at' r11 p u at' t p m=zae at' r11 p u at' (t+1) p m from by
     conv=>lhs;rw [zcd];unfold zaC
     rw [if_pos (by simp;omega),zaa (by omega),ef]
     exact zac (zj1 h a0) (by rw [if_pos (by simp [c])];exact zac e (by rw [if_pos (by simp),zaa (by unfold fits;omega)]))]
    exact this
theorem zDm (h:POk p):∀ s∈stP p,0<=s/\s < (p.2.2.1.length:Int):=fun s hs=>by
 obtain ⟨q,hq,rfl⟩:=List.mem_map.1 hs;have hb:=h.ad.ka.s q hq;have hst:=h.ad.kd.st;have:=pl_b hst.1 hst.2 hb.1 hb.2;rw [h.pr.1];omega
theorem zBT (h:POk p) {m:Int}:∀ (n:Nat) (t:Int),(p.2.2.1.length - t).toNat=n->0<=t->t<=p.2.2.1.length->LasR p m (fun v=>t<=v) (zad p m (stP p) t p m):=by
 have hg:=h.pr.2.1;have hP:=hg.n;have hls:=h.ad.ka.ls;have hsl:(stP p).length=p.1.2.2.1.length:=by unfold stP;rw [List.length_map]
 intro n
 induction n with
 | zero=>
  intro t hn t0 t1;refine .inr ⟨?_,fun v v0 v1 hv=>by omega⟩
  rw [zdd];unfold zaK;rw [if_neg (by simp;omega)]
 | succ n ih=>
  intro t hn t0 t1;have ht:t < p.2.2.1.length:=by omega
  have ih':=ih (t+1) (by omega) (by omega) (by omega)
  have next : ¬ zzN p m t->LasR p m (fun v=>t<=v) (zad p m (stP p) (t+1) p m):=fun hno=>by
   rcases ih' with hh | ⟨e,hh⟩
   ·exact .inl hh
   ·refine .inr ⟨e,fun v v0 v1 hv => ?_⟩
    by_cases ev:v=t
    ·rw [ev];exact hno
    ·exact hh v v0 v1 (by omega)
  by_cases cm:mkP p t=m
  ·have run:zad p m (stP p) t p m=zbj (stP p) t m (zad p m (stP p)) p:=by
    rw [zdd];unfold zaK;rw [if_pos (by simp;omega)]
    exact zbN (zac (zfV h t0 ht) (by rw [if_neg (by simp [cm])])) (zac (zfV h t0 ht) (by rw [if_neg (by simp [cm])]))
   have go:∀ u:List Int,(∃ s∈stP p,WkG p.2.2.1 (fun _=>True) u s t)->u.length<=10000->LasR p m (fun v=>t<=v) (zah t m (zad p m (stP p)) p true u):=fun u hu lu=>by
    unfold zah;rw [if_neg (by simp)]
    exact zBU h t0 ht cm hu lu (fun hno=>next fun ⟨_,_,f,hf,one,two,mid,h1,h2,h3,h4⟩=>hno f hf one two mid h1 h2 h3 h4) _ 0 rfl (Int.le_refl _) (by omega) (fun k k0 k1=>by omega)
   rw [run];unfold zbj;obtain ⟨c,hc,hct⟩:=zl7 (s:=stP p) (v:=t) (by omega)
   cases c with
   | true=>
    have e:((zcY (stP p) t).bind fun y'_3=>if (!y'_3)=true then (zcw p (stP p) t).bind fun y'_26=>zah t m (zad p m (stP p)) p y'_26.2.1 y'_26.2.2 else zah t m (zad p m (stP p)) p y'_3 [])=zah t m (zad p m (stP p)) p true []:=zac hc (by rw [if_neg (by simp)])
    rw [e];exact go [] ⟨t,hct.1 rfl,rfl⟩ (by simp)
   | false=>
    have hnc:t∉stP p:=fun hh=>by have:=hct.2 hh;cases this
    have S:=zCb (fr:=stP p) hg (by omega) (zDm h) (sr0 (to:=t) hg.n (fun v _ _=>rfl) (fun v _ _=>by unfold zdw;simp))
    rcases S with ⟨v,w,e,rfl,hw,h1,h2⟩ | ⟨e,hn2⟩
    ·have e:((zcY (stP p) v).bind fun y'_3=>if (!y'_3)=true then (zcw p (stP p) v).bind fun y'_26=>zah v m (zad p m (stP p)) p y'_26.2.1 y'_26.2.2 else zah v m (zad p m (stP p)) p y'_3 [])=zah v m (zad p m (stP p)) p true w:=zac hc (by rw [if_pos (by simp)];exact zac e rfl)
     rw [e];exact go w hw (by omega)
    ·have e:((zcY (stP p) t).bind fun y'_3=>if (!y'_3)=true then (zcw p (stP p) t).bind fun y'_26=>zah t m (zad p m (stP p)) p y'_26.2.1 y'_26.2.2 else zah t m (zad p m (stP p)) p y'_3 [])=zad p m (stP p) (t+1) p m:=zac hc (by
      rw [if_pos (by simp)]
      refine zac e ?_
      unfold zah;rw [if_pos (by simp),zaa (by unfold fits;omega)])
     rw [e];refine next fun ⟨_,⟨s,hs,u,hu⟩,_⟩ => ?_
     by_cases cu:u=[]
     ·rw [cu] at hu;cases hu;exact hnc hs
     ·exact hn2 s hs u t cu hu rfl
  ·have e:zad p m (stP p) t p m=zad p m (stP p) (t+1) p m:=by
    conv=>lhs;rw [zdd];unfold zaK
    rw [if_pos (by simp;omega)]
    exact zbN (zac (zfV h t0 ht) (by rw [if_pos (by simp [cm]),zaa (by unfold fits;omega)])) (zac (zfV h t0 ht) (by rw [if_pos (by simp [cm]),zaa (by unfold fits;omega)]))
   rw [e];exact next fun hh=>cm hh.1
theorem zxC (h:POk p) {m:Int}:LasR p m (fun v=>0<=v) (zef p m):=by
 have hls:=h.ad.ka.ls;have hst:=h.ad.kd.st;have hn:=h.ad.ka.n1;have hdn:=h.ad.kd.n1;have hb:=pl_b hst.1 hst.2 (Int.le_refl 0) (show (0:Int) < p.1.2.1 by omega)
 have hk:=h.ad.kn;have key:∀ (n t:Nat),t+n=p.1.2.2.1.length->zdf p m (t:Int) ((stP p).take t)=zad p m (stP p) 0 p m:=by
  intro n;have hsl:(stP p).length=p.1.2.2.1.length:=by unfold stP;rw [List.length_map]
  induction n with
  | zero=>
   intro t ht;rw [zfv];unfold za9;rw [if_neg (by simp only [decide_eq_true_eq];omega),List.take_of_length_le (by omega)]
  | succ n ih=>
   intro t ht;rw [<- ih (t+1) (by omega)]
   have hq:=h.ad.ka.s _ (za5 (l:=p.1.2.2.1) (i:=(t:Int)) (by omega) (by omega))
   conv=>lhs;rw [zfv];unfold za9
   rw [if_pos (decide_eq_true (by omega)),zaa (by omega),zaa (by unfold fits;omega),zaa (by unfold fits;omega),zaa (by unfold room;simp;omega),zaa (by unfold fits;omega)]
   have:=ziA (l:=stP p) (i:=(t:Int)) (by omega) (by omega)
   rw [show ((t:Int)+1).toNat=t+1 by omega,Int.toNat_natCast] at this
   rw [this];unfold stP;rw [zwL _ (by omega) (by omega)]
   rfl
 have e:zef p m=zad p m (stP p) 0 p m:=key p.1.2.2.1.length 0 (by omega)
 rw [e];exact zBT h _ 0 rfl (Int.le_refl _) (by omega)
end
section
variable {a:Au}
theorem nxS_W {b:Bv} (hb:BAll a b) {p:Pl} (hp:PlW p) {x:Int} (x0:0<=x) (x1:x < a.1):PlW (nxS b p x):=by
 obtain ⟨h1,_,d,h2⟩:=zoa hb hp.1 x0 x1;have hn:=h1.1.n;have en:(Tr (nxS b p x).1).n=(nxS b p x).1.1.toNat:=rfl;rcases h2 with ⟨_,h2,h3⟩ | ⟨_,h2⟩
 ·exact ⟨h1,fun _=>by omega,fun _=>by omega⟩
 ·refine ⟨h1,fun hm => ?_,fun hm => ?_⟩
  ·have:=h2.one hp.1.1.v hm;omega
  ·have:=h2.two hp.1.1.v hm;omega
theorem zzZ {s:Int} (hs:B4 s):PlW (zes s):=by
 refine ⟨zq8 hs,fun h => ?_,fun h => ?_⟩
 ·unfold zes at h ⊢;by_cases c:s=0
  ·rw [if_pos c]
  ·rw [if_neg c] at h;have h:(9:Int)=1:=h;omega
 ·unfold zes at h;by_cases c:s=0
  ·rw [if_pos c] at h;have h:(9:Int)=2:=h;omega
  ·rw [if_neg c] at h;have h:(9:Int)=2:=h;omega
theorem zDl {b:Bv} (hb:BAll a b) {s:Int} (hs:B4 s):XOk (nxS b) (fun p:Pl=>p.2.1) a.1.toNat (zes s) 2327 PlW:=
 ⟨fun l hn hp=>zzn hn hp,zzZ hs,fun p hp t t0 t1=>nxS_W hb hp t0 (by omega),fun p hp=>by have:=hp.1.2;omega⟩
theorem zvz (ha:AuOk a) (h4:a.2.1<=4):∃ o b s,zdl a=some o/\DOk 20000 badM o/\o.2.2.1.length<=2327/\o.1=a.1/\BAll a b/\(B4 s/\∀ q,bt s q↔q∈a.2.2.1)/\(∀ m∈o.2.2.2.1,1<=m/\m<=9)/\
  ∀ w:List Int,(∀ x∈w,0<=x/\x < a.1)->ix o.2.2.2.1 (wlk o.2.2.1 o.2.1 w)=(w.foldl (nxS b) (zes s)).2.1:=by
 have hl4:=ha.let1;have hls:=ha.ls;have hlf:=ha.lf;obtain ⟨f,f1,f2,f3⟩:=zlP (l:=a.2.2.2.2.1) (by omega) (fun q hq=>by have:=ha.f q hq;omega)
 obtain ⟨s,s1,s2,s3⟩:=zlP (l:=a.2.2.1) (by omega) (fun q hq=>by have:=ha.s q hq;omega)
 obtain ⟨V,hV,hrun⟩:=zyr (f:=f) ha h4 s1 (g:=default) (b:=default) _ 0 [0,0,0,0,0,0,0,0,0,0,0,0,0,0,0,0] rfl (Int.le_refl _) (by omega) ⟨rfl,fun p x p0 p1 x0 x1=>by
  have e:[(0:Int),0,0,0,0,0,0,0,0,0,0,0,0,0,0,0].getD (p.toNat * 4+x.toNat) 0=0:=by
   have hp:p=0\/p=1\/p=2\/p=3:=by omega
   have hx:x=0\/x=1\/x=2\/x=3:=by omega
   rcases hp with rfl | rfl | rfl | rfl<;>rcases hx with rfl | rfl | rfl | rfl<;>rfl
  rw [e];exact ⟨zdq.1,fun q=>⟨fun h=>absurd h (zdq.2 q),fun ⟨k,k0,k1,_⟩=>by omega⟩⟩⟩
 have hb:=zBp ha h4 hV ⟨f2,f3⟩;have hx:=zDl hb s2;obtain ⟨n,n1,n2,n3⟩:=zzL hx;have d1:=zzK hx (by omega) (by omega) n2 n3
 obtain ⟨o,C,Q,K,g1,g2⟩:=zxF d1;have e0:(xAut (nxS (bOf V f)) (fun p:Pl=>p.2.1) a.1.toNat (zes s) n).1=a.1:=by show (a.1.toNat:Int)=a.1;omega
 have e1:o.1=a.1:=by rw [g1.let1,e0]
 have dok:=g1.dok d1;have run:zdl a=some o:=by
  unfold zdl;refine zac f1 ?_
  refine Eq.trans hrun ?_
  refine zac (zp7 (mk:=fun p:Pl=>p.2.1) (c:=bOf V f) hx (by omega) (by omega) (by omega) (fun p hp t t0 t1=>(zoa hb hp.1 t0 (by omega)).2.1) (fun p hp=>rfl) n2 n3) ?_
  exact zac g2 rfl
 have marks:∀ w:List Int,(∀ x∈w,0<=x/\x < a.1)->ix o.2.2.2.1 (wlk o.2.2.1 o.2.1 w)=(w.foldl (nxS (bOf V f)) (zes s)).2.1:=fun w hw=>by
  obtain ⟨_,_,m3⟩:=zxH d1 g1 (w:=w) (fun x hx=>by rw [e0];exact hw x hx)
  rw [m3];have hpos:0 < n:=by
   have:=d1.n1.1;obtain ⟨_,_,x3⟩:=zmb hx n n2;have e:(xAut (nxS (bOf V f)) (fun p:Pl=>p.2.1) a.1.toNat (zes s) n).2.2.1.length=n:=x3.r
   omega
  obtain ⟨_,_,x3⟩:=zmb hx n n2;obtain ⟨w1,w2,w3⟩:=zr7 hx n2 n3 w 0 (by omega) (by omega) (fun x hx=>by have:=hw x hx;omega)
  have:=x3.mark _ w1 w2;rw [w3,x3.z] at this;exact this
 have hlen:o.2.2.1.length<=2327:=by
  have h1:=g1.part.q.le g1.fin;have h2:=g1.all;have h3:=g1.fin.le;obtain ⟨_,_,x3⟩:=zmb hx n n2;have e:(xAut (nxS (bOf V f)) (fun p:Pl=>p.2.1) a.1.toNat (zes s) n).2.2.1.length=n:=x3.r
  omega
 refine ⟨o,bOf V f,s,run,dok,hlen,e1,hb,⟨s2,s3⟩,fun m hm => ?_,marks⟩
 obtain ⟨k,k0,k1,rfl⟩:=(zho (P:=fun x=>x=m)).1 ⟨m,hm,rfl⟩
 obtain ⟨w,hw,hq⟩:=g1.reach d1 k0 (by have:=dok.mkl;omega)
 have hw:∀ x∈w,0<=x/\x < a.1:=fun x hx=>by have:=hw x hx;rw [e0] at this;exact this
 rw [<- hq,marks w hw];have pl:∀ (w:List Int) (p:Pl),(∀ x∈w,0<=x/\x < a.1)->PlOk p->PlOk (w.foldl (nxS (bOf V f)) p):=fun w=>by
  induction w with
  | nil=>intro p _ hp;exact hp
  | cons x w ih=>
   intro p hw hp;have:=hw x (by simp)
   exact ih _ (fun y hy=>hw y (by simp [hy])) (zoa hb hp this.1 this.2).1
 exact (pl w _ hw (zq8 s2)).2
end
def rds (h w:List Int):Nat->List Int
 | 0=>h
 | k+1=>rds h w k++w
theorem zmq {N:List (List Int)} (q:Int) (u v:List Int):wlk N q (u++v)=wlk N (wlk N q u) v:=by unfold wlk;rw [List.foldl_append]
def preW (l:LsT) (t:Nat):List Int:=(List.range t).map (las l)
theorem zlB (l:LsT) (t:Nat):preW l (t+1)=preW l t++[las l t]:=by unfold preW;rw [List.range_succ,List.map_append];rfl
theorem zzq (l:LsT):∀ t:Nat,t<=l.1.length->preW l t=l.1.take t:=fun t=>by
 induction t with
 | zero=>intro _;rfl
 | succ t ih=>
  intro ht;rw [zlB,ih (by omega),<- zmh t (by omega)]
  have:=ziA (l:=l.1) (i:=(t:Int)) (by omega) (by omega)
  rw [show ((t:Int)+1).toNat=t+1 by omega,show ((t:Int)).toNat=t by omega] at this
  exact this.symm
theorem zA2 {l:LsT} (k i:Nat) (hi:i < l.2.1.length):las l (l.1.length+k * l.2.1.length+i)=ix l.2.1 (i:Int):=by
 unfold las;rw [if_neg (by omega),show l.1.length+k * l.2.1.length+i - l.1.length=i+k * l.2.1.length by omega,Nat.add_mul_mod_self_right,Nat.mod_eq_of_lt hi]
theorem zAw (l:LsT):∀ k j:Nat,j<=l.2.1.length->preW l (l.1.length+k * l.2.1.length+j)=rds l.1 l.2.1 k++l.2.1.take j:=by
 intro k
 induction k with
 | zero=>
  intro j
  induction j with
  | zero=>intro _;rw [show l.1.length+0 * l.2.1.length+0=l.1.length by omega,zzq l _ (Nat.le_refl _),List.take_length,List.take_zero,List.append_nil];rfl
  | succ j ih=>
   intro hj;rw [<- Nat.add_assoc,zlB,ih (by omega),zA2 0 j (by omega),List.append_assoc]
   congr 1
   have:=ziA (l:=l.2.1) (i:=(j:Int)) (by omega) (by omega)
   rw [show ((j:Int)+1).toNat=j+1 by omega,show ((j:Int)).toNat=j by omega] at this
   exact this.symm
 | succ k ih=>
  intro j
  induction j with
  | zero=>
   intro _;have:=ih l.2.1.length (Nat.le_refl _);rw [show l.1.length+(k+1) * l.2.1.length+0=l.1.length+k * l.2.1.length+l.2.1.length by rw [Nat.succ_mul];omega,this,List.take_length,List.take_zero,List.append_nil];rfl
  | succ j ihj=>
   intro hj;rw [<- Nat.add_assoc,zlB,ihj (by omega),zA2 (k+1) j (by omega),List.append_assoc]
   congr 1
   have:=ziA (l:=l.2.1) (i:=(j:Int)) (by omega) (by omega)
   rw [show ((j:Int)+1).toNat=j+1 by omega,show ((j:Int)).toNat=j by omega] at this
   exact this.symm
theorem zCP {l:LsT} (h0:0 < l.2.1.length) {t:Nat} (ht:l.1.length<=t):∃ k j,j < l.2.1.length/\t=l.1.length+k * l.2.1.length+j:=by
 refine ⟨(t - l.1.length) / l.2.1.length,(t - l.1.length) % l.2.1.length,Nat.mod_lt _ h0,?_⟩
 have:=Nat.div_add_mod (t - l.1.length) l.2.1.length;rw [Nat.mul_comm] at this;omega
def mkAt (d:Dt) (l:LsT) (t:Nat):Int:=ix d.2.2.2.1 (wlk d.2.2.1 d.2.1 (preW l (t+1)))
theorem zAF {w:List Int} {j:Nat} (hj:j < w.length):w=w.take j++ix w (j:Int)::w.drop (j+1)/\w.take (j+1)=w.take j++[ix w (j:Int)]:=by
 have h1:=ziA (l:=w) (i:=(j:Int)) (by omega) (by omega)
 rw [show ((j:Int)+1).toNat=j+1 by omega,show ((j:Int)).toNat=j by omega] at h1
 refine ⟨?_,h1⟩
 have h2:=List.take_append_drop (j+1) w;rw [h1] at h2
 conv=>lhs;rw [<- h2]
 simp
section
variable {a:Au}
def plAt (b:Bv) (s:Int) (l:LsT) (t:Nat):Pl:=(preW l t).foldl (nxS b) (zes s)
theorem zuQ (b:Bv) (s:Int) (l:LsT) (t:Nat):plAt b s l (t+1)=nxS b (plAt b s l t) (las l t):=by
 unfold plAt;rw [zlB,List.foldl_append];rfl
theorem zC8 {L:Int} {l:LsT} (h0:0 < l.2.1.length) (hh:∀ x∈l.1,0<=x/\x < L) (hw:∀ x∈l.2.1,0<=x/\x < L) (t:Nat):0<=las l t/\las l t < L:=by
 unfold las;by_cases c:t < l.1.length
 ·rw [if_pos c];exact hh _ (za5 (by omega) (by omega))
 ·rw [if_neg c];have:=Nat.mod_lt (t - l.1.length) h0;exact hw _ (za5 (by omega) (by omega))
theorem zzz {b:Bv} (hb:BAll a b) {s:Int} (hs:B4 s) {l:LsT} (hu:∀ t,0<=las l t/\las l t < a.1):∃ D,Row (fun t p q=>StA a p (las l t) q) (fun q=>q∈a.2.2.2.2.1) (fun t=>Tr (plAt b s l t).1) D (fun t=>(plAt b s l (t+1)).2.1)/\∀ t,PlOk (plAt b s l t):=by
 have pl:∀ t,PlOk (plAt b s l t):=fun t=>by
  induction t with
  | zero=>exact zq8 hs
  | succ t ih=>rw [zuQ];exact (zoa hb ih (hu t).1 (hu t).2).1
 have st:=fun t=>(zoa hb (pl t) (hu t).1 (hu t).2).2.2
 refine ⟨fun t=>Classical.choose (st t),⟨(pl 0).1.v,fun t => ?_⟩,pl⟩
 have:=Classical.choose_spec (st t);show ((Tr (plAt b s l t).1).n=0/\(Tr (plAt b s l (t+1)).1).n=0/\(plAt b s l (t+1)).2.1=1)\/(0 < (Tr (plAt b s l t).1).n/\IsStep (fun p q=>StA a p (las l t) q) (fun q=>q∈a.2.2.2.2.1) (Tr (plAt b s l t).1) (Classical.choose (st t)) (Tr (plAt b s l (t+1)).1) (plAt b s l (t+1)).2.1)
 rw [zuQ];exact this
theorem zzp {L:Int} {l:LsT} (hu:∀ t,0<=las l t/\las l t < L) (t:Nat):∀ x∈preW l t,0<=x/\x < L:=fun x hx=>by
 obtain ⟨k,_,rfl⟩:=List.mem_map.1 hx;exact hu k
theorem zwe (ha:AuOk a) (h4:a.2.1<=4) {o:Dt} {b:Bv} {s:Int} (hb:BAll a b) (hs:B4 s/\∀ q,bt s q↔q∈a.2.2.1) (hmk:∀ w:List Int,(∀ x∈w,0<=x/\x < a.1)->ix o.2.2.2.1 (wlk o.2.2.1 o.2.1 w)=(w.foldl (nxS b) (zes s)).2.1)
  {l:LsT} (h0:0 < l.2.1.length) (hu:∀ t,0<=las l t/\las l t < a.1) {m:Int} (hm:zmD (mkAt o l) m):m % 2=0↔RefA a (las l) l.1.length l.2.1.length:=by
 obtain ⟨D,hR,hP⟩:=zzz hb hs.1 hu;have eM:mkAt o l=fun t=>(plAt b s l (t+1)).2.1:=funext fun t=>hmk _ (zzp hu _)
 rw [eM] at hm;have e0:plAt b s l 0=zes s:=rfl;refine zzy ha h4 h0 (fun t ht=>zy4 t ht) hR ?_ (fun q hq => ?_) (fun q hq => ?_) (fun t => ?_) hm
 ·show (Tr (plAt b s l 0).1).n<=1;rw [e0];unfold zes;by_cases c:s=0
  ·rw [if_pos c];exact Nat.zero_le 1
  ·rw [if_neg c];exact Nat.le_refl 1
 ·have hq:0 < (Tr (plAt b s l 0).1).n:=hq;show (Tr (plAt b s l 0).1).L 0 q↔_;rw [e0] at hq ⊢;unfold zes at hq ⊢;by_cases c:s=0
  ·rw [if_pos c] at hq;exact absurd hq (Nat.lt_irrefl 0)
  ·rw [if_neg c];exact hs.2 q
 ·show 0 < (Tr (plAt b s l 0).1).n;rw [e0];unfold zes;rw [if_neg ((zt7 hs.1).2 ⟨q,(hs.2 q).2 hq⟩)];exact Nat.one_pos
 ·have:=(hP t).1.n;show (plAt b s l t).1.1.toNat<=4;omega
end
theorem zAj {M:Nat->Int} {K:Int} (h:∀ t,0<=M t/\M t < K):∃ m,zmD M m/\0<=m/\m < K:=by
 have key:∀ (d:Nat) (lo:Int),(K - lo).toNat=d->0<=lo->(∃ n,∀ t,n<=t->lo<=M t)->∃ m,zmD M m/\0<=m/\m < K:=by
  intro d
  induction d with
  | zero=>
   rintro lo hd h0 ⟨n,hn⟩;have:=hn n (Nat.le_refl _);have:=h n;omega
  | succ d ih=>
   rintro lo hd h0 ⟨n,hn⟩;by_cases c:Infn (fun t=>M t=lo)
   ·obtain ⟨t,_,e⟩:=c 0;have:=h t;exact ⟨lo,⟨c,n,hn⟩,h0,by omega⟩
   ·obtain ⟨n',hn'⟩:=Classical.not_forall.1 c;refine ih (lo+1) (by omega) (by omega) ⟨max n n',fun t ht => ?_⟩
    have h1:=hn t (by omega)
    have h2 : ¬ M t=lo:=fun e=>hn' ⟨t,by omega,e⟩
    omega
 exact key _ 0 rfl (Int.le_refl _) ⟨0,fun t _=>(h t).1⟩
section
variable {p:PT}
theorem zBy (h:POk p) {v c r:Int} (v0:0<=v) (v1:v < p.2.2.1.length) (he:Ed p.2.2.1 v c r):StA p.1 (v % p.1.2.1) c (r % p.1.2.1)/\r / p.1.2.1=stp p.2.1.2.2.1 (v / p.1.2.1) c/\(0<=r/\r < p.2.2.1.length):=by
 obtain ⟨d0,d1,m0,m1,e⟩:=h.div v0 v1;have hr:=((h.pr.2.1.r v v0 v1).2 _ he).1;rw [<- e] at he;obtain ⟨y,hs,hr2⟩:=(h.pr.2.2 _ _ d0 d1 m0 m1 c r).1 he;have hy:=(h.ad.ka.sb _ hs).2.2;simp only at hy;have:=zzo (q:=ix (ix p.2.1.2.2.1 (v / p.1.2.1)) c) hy.1 hy.2;rw [<- hr2] at this;exact ⟨by rw [this.2];exact hs,this.1,hr⟩
theorem WkG.proj (h:POk p) {may:Int->Prop} {u:Nat->Int}:∀ {w:List Int} {s:Nat} {v v':Int},0<=v->v < p.2.2.1.length->(∀ t:Nat,t < w.length->ix w (t:Int)=u (s+t))->WkG p.2.2.1 may w v v'->Wt p.1 u w.length s (v % p.1.2.1) (v' % p.1.2.1)/\v' / p.1.2.1=wlk p.2.1.2.2.1 (v / p.1.2.1) w
 | [],s,v,v',_,_,_,hw=>by cases hw;exact ⟨rfl,rfl⟩
 | c::w,s,v,v',v0,v1,hu,⟨r,he,_,hw⟩=>by
  obtain ⟨h1,h2,h3⟩:=zBy h v0 v1 he;have hc:c=u s:=hu 0 (by simp)
  obtain ⟨k1,k2⟩:=WkG.proj h (s:=s+1) h3.1 h3.2 (fun t ht=>by
   have:=hu (t+1) (by simp;omega)
   rw [show ((t+1:Nat):Int)=(t:Int)+1 by omega,zuE (by omega),show (t:Int)+1 - 1=t by omega] at this
   rw [this];congr 1;omega) hw
  rw [hc] at h1 h2;refine ⟨⟨_,h1,k1⟩,?_⟩
  rw [k2,h2];show _=wlk p.2.1.2.2.1 (stp p.2.1.2.2.1 (v / p.1.2.1) c) w;rw [hc]
theorem WkG.at {nx:NXT} {may:Int->Prop} {w:List Int} {v v':Int} (h:WkG nx may w v v') {j:Nat} (hj:j < w.length):∃ r,WkG nx may (w.take (j+1)) v r/\may r:=by
 have e:=List.take_append_drop (j+1) w;rw [<- e] at h;obtain ⟨r,h1,_⟩:=WkG.app.1 h;refine ⟨r,h1,?_⟩
 rw [(zAF hj).2] at h1;obtain ⟨_,_,_,hm⟩:=WkG.snoc.1 h1;exact hm
theorem zCf (h:POk p) {s:Int} (hs:s∈stP p):s / p.1.2.1=p.2.1.2.1/\s % p.1.2.1∈p.1.2.2.1:=by
 obtain ⟨q,hq,rfl⟩:=List.mem_map.1 hs;have hb:=h.ad.ka.s q hq;have:=zzo (q:=p.2.1.2.1) hb.1 hb.2;rw [this.1,this.2];exact ⟨rfl,hq⟩
theorem zyV (h:POk p) {m:Int} {u w:List Int} (hh:LasHit p m u w):RefA p.1 (las (u,w,())) u.length w.length/\zmD (mkAt p.2.1 (u,w,())) m/\0 < w.length/\(∀ x∈u,0<=x/\x < p.1.1)/\∀ x∈w,0<=x/\x < p.1.1:=by
 have hg:=h.pr.2.1;obtain ⟨at',⟨a0,a1⟩,hm,⟨s,hs,hu⟩,f,hf,one,two,mid,rfl,hne,hmid,h1,h2⟩:=hh.ex;have hsb:=zDm h s hs;obtain ⟨sd,sm⟩:=zCf h hs;have hmb:=(WkG.b hg a0 a1 h1).1;have hlt:0 < two.length:=List.length_pos_iff.2 hne;obtain ⟨i1,i2⟩:=WkG.proj h (u:=las (u,one++two,())) (s:=0) hsb.1 hsb.2 (fun t ht=>by rw [Nat.zero_add];exact zmh (l:=(u,one++two,())) t ht) hu
 have loopAt:∀ t:Nat,t < (one++two).length->ix (one++two) (t:Int)=las (u,one++two,()) (u.length+t):=fun t ht=>zn2 (l:=(u,one++two,())) t ht
 obtain ⟨j1,j2⟩:=WkG.proj h (u:=las (u,one++two,())) (s:=u.length) a0 a1 (fun t ht=>by rw [<- loopAt t (by rw [List.length_append];omega),zai (by omega) (by omega)]) h1
 obtain ⟨k1,k2⟩:=WkG.proj h (u:=las (u,one++two,())) (s:=u.length+one.length) hmb.1 hmb.2 (fun t ht=>by rw [Nat.add_assoc,<- loopAt (one.length+t) (by rw [List.length_append];omega),zdD (by omega)];congr 1;omega) h2
 have hw:=WkG.app.2 ⟨mid,h1,h2⟩;have hll:(one++two).length=one.length+two.length:=List.length_append;have hb1:=(WkG.b hg hsb.1 hsb.2 hu).2;have hb2:=(WkG.b hg a0 a1 hw).2;refine ⟨⟨at' % p.1.2.1,⟨at' % p.1.2.1,⟨_,sm,i1⟩,.refl _⟩,at' % p.1.2.1,at' % p.1.2.1,.refl _,⟨one.length,f,by omega,hf,by rw [<- hmid];exact j1,by rw [<- hmid,show (one++two).length - one.length=two.length by omega];exact k1⟩,.refl _⟩,?_,by omega,hb1,hb2⟩
 have back:wlk p.2.1.2.2.1 (at' / p.1.2.1) (one++two)=at' / p.1.2.1:=by rw [zmq,<- j2,<- k2]
 have head:∀ k,wlk p.2.1.2.2.1 p.2.1.2.1 (rds u (one++two) k)=at' / p.1.2.1:=fun k=>by
  induction k with
  | zero=>rw [<- sd];exact i2.symm
  | succ k ih=>rw [rds,zmq,ih,back]
 have mark:∀ k j,j < (one++two).length->∃ r,WkG p.2.2.1 (fun v=>m<=mkP p v) ((one++two).take (j+1)) at' r/\m<=mkP p r/\mkAt p.2.1 (u,one++two,()) (u.length+k * (one++two).length+j)=mkP p r:=fun k j hj=>by
  obtain ⟨r,r1,r2⟩:=hw.at hj;refine ⟨r,r1,r2,?_⟩
  obtain ⟨_,q2⟩:=WkG.proj h (u:=fun t=>ix ((one++two).take (j+1)) (t:Int)) (s:=0) a0 a1 (fun t _=>by rw [Nat.zero_add]) r1
  unfold mkAt mkP;have:=zAw (u,one++two,()) k (j+1) (by show j+1<=(one++two).length;omega)
  have this:preW (u,one++two,()) (u.length+k * (one++two).length+(j+1))=rds u (one++two) k++(one++two).take (j+1):=this;rw [Nat.add_assoc,this,zmq,head,q2]
 refine ⟨fun n => ?_,u.length,fun t ht => ?_⟩
 ·obtain ⟨r,r1,_,r3⟩:=mark n ((one++two).length - 1) (by omega)
  refine ⟨u.length+n * (one++two).length+((one++two).length - 1),?_,?_⟩
  ·have:=Nat.le_mul_of_pos_right n (show 0 < (one++two).length by omega);omega
  ·show mkAt p.2.1 (u,one++two,()) _=m;rw [r3];obtain ⟨_,q2⟩:=WkG.proj h (u:=fun t=>ix ((one++two).take ((one++two).length - 1+1)) (t:Int)) (s:=0) a0 a1 (fun t _=>by rw [Nat.zero_add]) r1
   rw [show (one++two).length - 1+1=(one++two).length by omega,List.take_length,back] at q2
   unfold mkP at hm ⊢;rw [q2];exact hm
 ·obtain ⟨k,j,hj,rfl⟩:=zCP (l:=(u,one++two,())) (by show 0 < (one++two).length;omega) ht
  obtain ⟨r,_,r2,r3⟩:=mark k j hj;have r3:mkAt p.2.1 (u,one++two,()) (u.length+k * (one++two).length+j)=mkP p r:=r3;show m<=mkAt p.2.1 (u,one++two,()) (u.length+k * (one++two).length+j);rw [r3];exact r2
theorem zxI (h:POk p) {l:LsT} (h0:0 < l.2.1.length) (hu:∀ t,0<=las l t/\las l t < p.1.1) (hR:RefA p.1 (las l) l.1.length l.2.1.length) {m:Int} (hm:zmD (mkAt p.2.1 l) m):∃ at',0<=at'/\at' < (p.2.2.1.length:Int)/\zzN p m at':=by
 have ha:=h.ad.ka;obtain ⟨r,⟨r0,hr⟩,hF⟩:=(zB7 ha h0 (fun t ht=>zy4 t ht)).1 hR
 have hrb:∀ t,0<=r t/\r t < p.1.2.1:=fun t=>by
  cases t with
  | zero=>exact ha.s _ r0
  | succ t=>have:=(ha.sb _ (hr t)).2.2;simp only at this;exact this
 have hdl:=h.ad.kl;have hob:∀ t,0<=wlk p.2.1.2.2.1 p.2.1.2.1 (preW l t)/\wlk p.2.1.2.2.1 p.2.1.2.1 (preW l t) < p.2.1.2.2.1.length:=fun t=>h.ad.kd.tab.wlkb h.ad.kd.st.1 h.ad.kd.st.2 (zzp (by rw [hdl];exact hu) t)
 obtain ⟨pi,hpi⟩:∃ pi:Nat->Int,∀ t,pi t=wlk p.2.1.2.2.1 p.2.1.2.1 (preW l t) * p.1.2.1+r t:=⟨fun t=>_,fun t=>rfl⟩
 have pdm:∀ t,pi t / p.1.2.1=wlk p.2.1.2.2.1 p.2.1.2.1 (preW l t)/\pi t % p.1.2.1=r t:=fun t=>by rw [hpi];exact zzo (hrb t).1 (hrb t).2
 have pb:∀ t,0<=pi t/\pi t < p.2.2.1.length:=fun t=>by
  have:=pl_b (hob t).1 (hob t).2 (hrb t).1 (hrb t).2;have:=hrb t;rw [hpi,h.pr.1];omega
 have ed:∀ t,Ed p.2.2.1 (pi t) (las l t) (pi (t+1)):=fun t=>by
  have e:=(h.pr.2.2 _ _ (hob t).1 (hob t).2 (hrb t).1 (hrb t).2 (las l t) (pi (t+1))).2 ⟨r (t+1),hr t,by rw [hpi,zlB,zmq];rfl⟩
  rwa [<- hpi] at e
 have mk:∀ t,mkP p (pi (t+1))=mkAt p.2.1 l t:=fun t=>by unfold mkP mkAt;rw [(pdm (t+1)).1]
 have walk:∀ (may:Int->Prop) (s d:Nat),(∀ k,s < k->k<=s+d->may (pi k))->∃ w:List Int,w.length=d/\WkG p.2.2.1 may w (pi s) (pi (s+d)):=fun may s d=>by
  induction d with
  | zero=>intro _;exact ⟨[],rfl,rfl⟩
  | succ d ih=>
   intro hm;obtain ⟨w,h1,h2⟩:=ih (fun k a b=>hm k a (by omega))
   exact ⟨w++[las l (s+d)],by rw [List.length_append,h1];rfl,WkG.snoc.2 ⟨_,h2,ed (s+d),hm (s+d+1) (by omega) (by omega)⟩⟩
 obtain ⟨m1,n0,m2⟩:=hm;obtain ⟨P0,hP0,hinf⟩:=zrc (f:=fun t=>(pi (t+1)).toNat) p.2.2.1.length m1 (fun t _=>by have:=pb (t+1);omega)
 obtain ⟨t0,ht0,e0,e0'⟩:=hinf n0;obtain ⟨t1,ht1,hf1⟩:=hF (t0+2);obtain ⟨t2,ht2,_,e2'⟩:=hinf (t1+1);have eP:pi (t2+1)=pi (t0+1):=by have:=pb (t2+1);have:=pb (t0+1);omega
 have mayA:∀ k,t0+1 < k->m<=mkP p (pi k):=fun k hk=>by
  obtain ⟨k,rfl⟩:∃ k',k=k'+1:=⟨k - 1,by omega⟩
  rw [mk];exact m2 k (by omega)
 obtain ⟨u,_,u2⟩:=walk (fun _=>True) 0 (t0+1) (fun _ _ _=>trivial)
 obtain ⟨w1,_,w2⟩:=walk (fun v=>m<=mkP p v) (t0+1) (t1 - (t0+1)) (fun k a _=>mayA k a)
 obtain ⟨w3,w4,w5⟩:=walk (fun v=>m<=mkP p v) t1 (t2+1 - t1) (fun k a _=>mayA k (by omega))
 rw [Nat.zero_add] at u2;rw [show t0+1+(t1 - (t0+1))=t1 by omega] at w2
 rw [show t1+(t2+1 - t1)=t2+1 by omega,eP] at w5
 refine ⟨pi (t0+1),(pb _).1,(pb _).2,by rw [mk];exact e0,⟨pi 0,?_,u,u2⟩,r t1,hf1,w1,w3,pi t1,?_,(pdm t1).2,w2,w5⟩
 ·refine List.mem_map.2 ⟨r 0,r0,?_⟩
  rw [hpi];rfl
 ·intro e;rw [e] at w4;have w4:0=t2+1 - t1:=w4;omega
theorem zxW (h:POk p):∀ (n k:Nat),k+n=5->(∃ u w m,zbI p (2 * (k:Int)+1)=some ((u,w,()),false,0)/\LasHit p m u w/\m % 2=1)\/(zbI p (2 * (k:Int)+1)=some (([],[],()),true,0)/\∀ j:Nat,k<=j->j < 5->∀ at',0<=at'->at' < (p.2.2.1.length:Int) -> ¬ zzN p (2 * (j:Int)+1) at'):=by
 intro n
 induction n with
 | zero=>
  intro k hk;refine .inr ⟨?_,fun j a b=>by omega⟩
  rw [zen];unfold zbm;rw [if_neg (by simp;omega)]
 | succ n ih=>
  intro k hk;rcases zxC h (m:=2 * (k:Int)+1) with ⟨u,w,e,hh⟩ | ⟨e,hh⟩
  ·refine .inl ⟨u,w,_,?_,hh,by omega⟩
   rw [zen];unfold zbm;rw [if_pos (by simp;omega)]
   exact zac e (by rw [if_pos rfl])
  ·have run:zbI p (2 * (k:Int)+1)=zbI p (2 * ((k+1:Nat):Int)+1):=by
    conv=>lhs;rw [zen];unfold zbm
    rw [if_pos (by simp;omega)]
    refine zac e ?_
    rw [if_neg (by simp),zaa (by unfold fits;omega)]
    congr 1
   rw [run];rcases ih (k+1) (by omega) with h1 | ⟨h1,h2⟩
   ·exact .inl h1
   ·refine .inr ⟨h1,fun j a b at' c d => ?_⟩
    by_cases ej:j=k
    ·rw [ej];exact hh at' c d c
    ·exact h2 j (by omega) b at' c d
end
theorem zBI {l:LsT} {L:Int} (h1:l.1.length<=20000) (h2:l.2.1.length<=20000) (h3:1<=l.2.1.length) (hu:∀ x∈l.1,0<=x/\x < L) (hv:∀ x∈l.2.1,0<=x/\x < L):zqu l L 20000=some true:=by
 have key:∀ (m:Nat) (i:Int),0<=i->i+m=l.1.length+l.2.1.length->zj2 l L i=some true:=by
  intro m
  induction m with
  | zero=>
   intro i i0 hi;rw [zmM];unfold zda;rw [zaa (by unfold fits;omega),if_neg (by simp only [decide_eq_true_eq];omega)]
  | succ m ih=>
   intro i i0 hi;have hat:∃ x,zAz (l.1,(l.2.1,())) i=some x/\0<=x/\x < L:=by
    unfold zAz;dsimp only;by_cases c:i < l.1.length
    ·rw [if_pos (decide_eq_true c),zaa (by omega)]
     exact ⟨_,rfl,hu _ (za5 i0 c)⟩
    ·have hm0:0<=Int.tmod (i - l.1.length) l.2.1.length:=Int.tmod_nonneg _ (by omega)
     have hm1:Int.tmod (i - l.1.length) l.2.1.length < l.2.1.length:=Int.tmod_lt_of_pos _ (by omega)
     rw [if_neg (by simp only [decide_eq_true_eq];omega),zaa (by unfold fits;omega),zaa (by omega),zaa ⟨hm0,hm1⟩]
     exact ⟨_,rfl,hv _ (za5 hm0 hm1)⟩
   obtain ⟨x,ex,x0,x1⟩:=hat;rw [zmM];unfold zda;rw [zaa (by unfold fits;omega),if_pos (decide_eq_true (by omega))]
   refine zac ex ?_
   rw [if_neg (by simp only [decide_eq_true_eq];omega),if_neg (by simp only [decide_eq_true_eq];omega),zaa (by unfold fits;omega)]
   exact ih (i+1) (by omega) (by omega)
 unfold zqu;rw [if_neg (by simp only [decide_eq_true_eq];omega),if_neg (by simp only [decide_eq_true_eq];omega),if_neg (by simp only [decide_eq_true_eq];omega)]
 exact key (l.1.length+l.2.1.length) 0 (by omega) (by omega)
theorem zAi (l:List Int×List Int×Unit) (hl:l.1.length<=10000) (hw:l.2.1.length<=20000):zj3 l=some (decide ((l.1.length:Int)+l.2.1.length=0)):=by
 unfold zj3;exact G_to (by unfold fits;omega) rfl
def twoE (a b:Au):Int:=if autE a=0 then (if autE b=0 then (if a.1=b.1 then (if 4 < a.2.1\/4 < b.2.1 then 1 else 0) else 3) else autE b) else autE a
theorem zr1 {a b:Au} (h:twoE a b=0):autE a=0/\autE b=0/\a.1=b.1 /\ ¬ 4 < a.2.1 /\ ¬ 4 < b.2.1:=by
 unfold twoE at h;by_cases c:autE a=0
 ·rw [if_pos c] at h;by_cases c2:autE b=0
  ·rw [if_pos c2] at h;by_cases c3:a.1=b.1
   ·rw [if_pos c3] at h;by_cases c4:4 < a.2.1\/4 < b.2.1
    ·rw [if_pos c4] at h;omega
    ·exact ⟨c,c2,c3,fun hh=>c4 (.inl hh),fun hh=>c4 (.inr hh)⟩
   ·rw [if_neg c3] at h;omega
  ·rw [if_neg c2] at h;exact absurd h c2
 ·rw [if_neg c] at h;exact absurd h c
theorem zxX {a b:Au} (la:AuLen a) (lb:AuLen b) (h : ¬ twoE a b=0):zdH a b=some (([],[],()),false,twoE a b):=by
 have ea:(a.1,a.2.1,a.2.2.1,a.2.2.2.1,a.2.2.2.2.1,())=a:=rfl;have eb:(b.1,b.2.1,b.2.2.1,b.2.2.2.1,b.2.2.2.2.1,())=b:=rfl;unfold zdH twoE at *
 rw [zbY];unfold zaM;rw [ea,eb,if_pos (by simp),zaa (by simp),zaa (by simp)]
 refine zac (show zdB a=some (autE a) from zec la) ?_
 by_cases c:autE a=0
 ·rw [if_pos c] at h ⊢;rw [if_neg (by simpa using c),zaa (by decide),zbY];unfold zaM
  rw [ea,eb,if_pos (by simp),zaa (by simp),zaa (by simp)]
  refine zac (show zdB b=some (autE b) from zec lb) ?_
  by_cases c2:autE b=0
  ·rw [if_pos c2] at h ⊢;rw [if_neg (by simpa using c2),zaa (by decide),zbY];unfold zaM
   rw [ea,eb,if_neg (by simp)]
   by_cases c3:a.1=b.1
   ·rw [if_pos c3] at h ⊢;rw [if_neg (by simpa using c3)]
    by_cases c4:4 < a.2.1
    ·rw [if_pos (by simpa using c4),if_pos (.inl c4)]
    ·rw [if_neg (by simpa using c4)]
     by_cases c5:4 < b.2.1
     ·rw [if_pos (by simpa using c5),if_pos (.inr c5)]
     ·exact absurd (if_neg (fun hh=>hh.elim c4 c5)) h
   ·rw [if_neg c3,if_pos (by simpa using c3)]
  ·rw [if_neg c2,if_pos (by simpa using c2)]
 ·rw [if_neg c,if_pos (by simpa using c)]
theorem zwn {a b:Au} (la:AuLen a) (lb:AuLen b) (h:twoE a b=0):∃ p:PT,POk p/\p.1=a/\zdH a b=zbI p 1/\(∀ m∈p.2.1.2.2.2.1,1<=m/\m<=9)/\
  ∀ l:LsT,0 < l.2.1.length->(∀ t,0<=las l t/\las l t < b.1)->∀ m,zmD (mkAt p.2.1 l) m->(m % 2=0↔RefA b (las l) l.1.length l.2.1.length):=by
 have ea:(a.1,a.2.1,a.2.2.1,a.2.2.2.1,a.2.2.2.2.1,())=a:=rfl;have eb:(b.1,b.2.1,b.2.2.1,b.2.2.2.1,b.2.2.2.2.1,())=b:=rfl;obtain ⟨c,c2,c3,c4,c5⟩:=zr1 h;have ha:=zqH c;have hb:=zqH c2;obtain ⟨o,bl,s,run,dok,hlen,e1,hB,hs,hm9,hmk⟩:=zvz hb (by omega)
 have hna:=ha.n1;have ad:AdOk a o:=⟨ha,dok,by rw [e1,c3],by
  have h1:a.2.1 * (o.2.2.1.length:Int)<=4 * o.2.2.1.length:=Int.mul_le_mul_of_nonneg_right (by omega) (by omega)
  omega⟩
 obtain ⟨nx,e2,pr⟩:=zuR ad;refine ⟨(a,o,nx,()),⟨ad,pr⟩,rfl,?_,hm9,fun l h0 hu m hm=>zwe hb (by omega) hB hs hmk h0 hu hm⟩
 unfold zdH;rw [zbY];unfold zaM;rw [ea,eb,if_pos (by simp),zaa (by simp),zaa (by simp)]
 refine zac (show zdB a=some (autE a) from zec la) ?_
 rw [if_neg (by simpa using c),zaa (by decide),zbY];unfold zaM
 rw [ea,eb,if_pos (by simp),zaa (by simp),zaa (by simp)]
 refine zac (show zdB b=some (autE b) from zec lb) ?_
 rw [if_neg (by simpa using c2),zaa (by decide),zbY];unfold zaM
 rw [ea,eb,if_neg (by simp),if_neg (by simpa using c3),if_neg (by simp;omega),if_neg (by simp;omega)]
 exact zac run (zac e2 rfl)
open Classical in
theorem zC9 {a b:Au} (la:AuLen a) (lb:AuLen b) (l:List Int×List Int×Unit):∃ r,zdH a b=some r/\zbX a b l r.1 r.2.1 r.2.2 (decide ((r.1.1.length:Int)+r.1.2.1.length=0)) (twoE a b)=some true/\r.1.1.length<=10000/\r.1.2.1.length<=20000:=by
 rcases Classical.em (¬ twoE a b=0) with h | h
 ·refine ⟨_,zxX la lb h,?_,by simp,by simp⟩
  unfold zbX;rw [if_pos (by simpa using h),if_pos (by simp),if_pos (by simp)]
  rfl
 have h:=Classical.not_not.1 h;have ea:(a.1,a.2.1,a.2.2.1,a.2.2.2.1,a.2.2.2.2.1,())=a:=rfl;have eb:(b.1,b.2.1,b.2.2.1,b.2.2.2.1,b.2.2.2.2.1,())=b:=rfl;have el:(l.1,l.2.1,())=l:=rfl;obtain ⟨p,hp,rfl,run,hm9,tells⟩:=zwn la lb h;have hb2:autE b=0/\p.1.1=b.1:=⟨(zr1 h).2.1,(zr1 h).2.2.1⟩;have ha:=hp.ad.ka;have hb:=zqH hb2.1;rcases zxW hp 5 0 rfl with ⟨u,w,m,e,hh,hodd⟩ | ⟨e,hno⟩
 ·obtain ⟨t1,t2,t3,t4,t5⟩:=zyV hp hh;have lu:=hh.lu;have lw:=hh.lw;have nb:=tells (u,w,()) t3 (zC8 t3 (by rw [<- hb2.2];exact t4) (by rw [<- hb2.2];exact t5)) m t2
  have nr : ¬ RefA b (las (u,w,())) u.length w.length:=fun hR=>by have:=nb.2 hR;omega
  refine ⟨_,run.trans e,?_,lu,lw⟩
  unfold zbX;rw [if_neg (by simpa using h),if_neg (by simp),if_pos (by simp)]
  refine zac (zBI (l:=(u,w,())) (show u.length<=20000 by omega) lw t3 t4 t5) ?_
  rw [if_neg (by simp),ea,eb]
  refine zac (zjU (l:=(u,w,())) ha (show u.length<=20000 by omega) rfl lw rfl t3 (fun i hi=>zmh i hi) (fun i hi=>zn2 i hi)) (zac (zjU (l:=(u,w,())) hb (show u.length<=20000 by omega) rfl lw rfl t3 (fun i hi=>zmh i hi) (fun i hi=>zn2 i hi)) ?_)
  rw [if_pos (decide_eq_true t1)];simp [nr]
 ·refine ⟨_,run.trans e,?_,by simp,by simp⟩
  unfold zbX;rw [if_neg (by simpa using h),if_neg (by simp),if_neg (by simp),ea,eb,el]
  refine zac (show ztP p.1 l=some (lasE p.1.1 l) from zac ztN rfl) ?_
  rw [if_neg (by simp)]
  by_cases hle:lasE p.1.1 l=0
  ·rw [if_neg (by simpa using hle)]
   obtain ⟨m1,m2,m3⟩:=zy3 hle;have q1:=zuK m1;have q2:=zuK m2;have hu:=zC8 m3 q1.2.2 q2.2.2;refine zac (zjU (l:=l) ha (by omega) rfl (by omega) rfl m3 (fun i hi=>zmh i hi) (fun i hi=>zn2 i hi)) (zac (zjU (l:=l) hb (by omega) rfl (by omega) rfl m3 (fun i hi=>zmh i hi) (fun i hi=>zn2 i hi)) ?_)
   by_cases hR:RefA p.1 (las l) l.1.length l.2.1.length
   ·rw [if_neg (by simp [hR])]
    have hRb:RefA b (las l) l.1.length l.2.1.length:=by
     have hob:∀ t,1<=mkAt p.2.1 l t/\mkAt p.2.1 l t<=9:=fun t=>by
      have hbw:=hp.ad.kd.tab.wlkb hp.ad.kd.st.1 hp.ad.kd.st.2 (zzp (L:=p.2.1.1) (by rw [hp.ad.kl];exact hu) (t+1))
      exact hm9 _ (za5 hbw.1 (by have:=hp.ad.kd.mkl;omega))
     obtain ⟨m,hm,hm0,hm10⟩:=zAj (M:=mkAt p.2.1 l) (K:=10) (fun t=>by have:=hob t;omega)
     refine (tells l m3 (by rw [<- hb2.2];exact hu) m hm).1 (Classical.byContradiction fun hodd => ?_)
     obtain ⟨at',a0,a1,hat⟩:=zxI hp m3 hu hR hm;have:=hno ((m - 1) / 2).toNat (by omega) (by omega) at' a0 a1
     rw [show 2 * ((((m - 1) / 2).toNat:Nat):Int)+1=m by omega] at this
     exact this hat
    simp [hRb]
   ·rw [if_pos (by simp [hR])]
  ·rw [if_pos (by simpa using hle)]
   simp
theorem law_true (a b:Au) (l:List Int×List Int×Unit) (sa:Sml (.pair (.int .i64) (.pair (.int .i64) (.pair (.list (.int .i64)) (.pair (.list (.pair (.int .i64) (.pair (.int .i64) (.pair (.int .i64) .unit)))) (.pair (.list (.int .i64)) .unit))))) a) (sb:Sml (.pair (.int .i64) (.pair (.int .i64) (.pair (.list (.int .i64)) (.pair (.list (.pair (.int .i64) (.pair (.int .i64) (.pair (.int .i64) .unit)))) (.pair (.list (.int .i64)) .unit))))) b) (sl:Sml (.pair (.list (.int .i64)) (.pair (.list (.int .i64)) .unit)) l):zhp a b l=some true:=by
 have ea:(a.1,a.2.1,a.2.2.1,a.2.2.2.1,a.2.2.2.2.1,())=a:=rfl;have eb:(b.1,b.2.1,b.2.2.1,b.2.2.2.1,b.2.2.2.2.1,())=b:=rfl;have a1:a.2.2.1.length * 8<=140737488351232:=sa.2.2.1.1;have a2:a.2.2.2.2.1.length * 8<=140737488351232:=sa.2.2.2.2.1.1;have b1:b.2.2.1.length * 8<=140737488351232:=sb.2.2.1.1;have b2:b.2.2.2.2.1.length * 8<=140737488351232:=sb.2.2.2.2.1.1;have la:AuLen a:=⟨by omega,by omega⟩
 have lb:AuLen b:=⟨by omega,by omega⟩
 obtain ⟨r,e,fin,h1,h2⟩:=zC9 la lb l;unfold zhp;rw [ea,eb];refine zac e (zac (zAi r.1 h1 h2) (zac (zon la) ?_))
 have J7:∀ no,no=(if autE a=0 then (if autE b=0 then (if a.1=b.1 then 0 else 3) else autE b) else autE a)->zdu a b l r.1 r.2.1 r.2.2 (decide ((r.1.1.length:Int)+r.1.2.1.length=0)) no=some true:=fun no hno=>by
  unfold zdu zdv;by_cases c:no=0
  ·have t:twoE a b=if 4 < a.2.1\/4 < b.2.1 then 1 else 0:=by
    unfold twoE;rw [c] at hno;by_cases c1:autE a=0
    ·rw [if_pos c1] at hno ⊢;by_cases c2:autE b=0
     ·rw [if_pos c2] at hno ⊢;by_cases c3:a.1=b.1
      ·rw [if_pos c3]
      ·rw [if_neg c3] at hno;omega
     ·rw [if_neg c2] at hno;exact absurd hno.symm c2
    ·rw [if_neg c1] at hno;exact absurd hno.symm c1
   rw [if_pos (by simpa using c)]
   by_cases c4:4 < a.2.1
   ·rw [if_pos (.inl c4)] at t;rw [if_pos (by simpa using c4),if_pos rfl,<- t];exact fin
   ·rw [if_neg (by simpa using c4)]
    by_cases c5:4 < b.2.1
    ·rw [if_pos (.inr c5)] at t;rw [if_pos (by simpa using c5),<- t];exact fin
    ·rw [if_neg (fun hh=>hh.elim c4 c5)] at t
     rw [if_neg (by simpa using c5),c];rw [t] at fin;exact fin
  ·have t:twoE a b=no:=by
    rw [hno];unfold twoE;by_cases c1:autE a=0
    ·rw [if_pos c1,if_pos c1];rw [if_pos c1] at hno;by_cases c2:autE b=0
     ·rw [if_pos c2,if_pos c2];rw [if_pos c2] at hno;by_cases c3:a.1=b.1
      ·rw [if_pos c3] at hno;exact absurd hno c
      ·rw [if_neg c3,if_neg c3]
     ·rw [if_neg c2,if_neg c2]
    ·rw [if_neg c1,if_neg c1]
   rw [if_neg (by simpa using c),if_neg (by simp),<- t];exact fin
 by_cases c:autE a=0
 ·rw [if_pos (by simpa using c)]
  refine zac (zon lb) ?_
  unfold zds zdt;by_cases c2:autE b=0
  ·rw [if_pos (by simpa using c2)]
   by_cases c3:a.1=b.1
   ·rw [if_neg (by simp [c3]),c2]
    exact J7 0 (by rw [if_pos c,if_pos c2,if_pos c3])
   ·rw [if_pos (by simp [c3])]
    exact J7 3 (by rw [if_pos c,if_pos c2,if_neg c3])
  ·rw [if_neg (by simpa using c2),if_neg (by simp)]
   exact J7 _ (by rw [if_pos c,if_neg c2])
 ·rw [if_neg (by simpa using c)]
  unfold zds zdt;rw [if_neg (by simpa using c),if_neg (by simp)]
  exact J7 _ (by rw [if_neg c])
end
end Go.Proofs.Yticelcjhokgcbaa.safraWithinW
