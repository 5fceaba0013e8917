/- The law 'GrowBoth' of the plain functions. -/
import Derived.Test.YtebeobobeinlnaaGrowBothD
import Derived.Sort.AssemblyPlain
set_option maxHeartbeats 1000000
set_option maxRecDepth 20000
set_option linter.unusedSimpArgs false
set_option linter.unusedVariables false
set_option linter.unusedSectionVars false
namespace Go.Proofs.Ytebeobobeinlnaa.growBothW
open Go Go.Ab
def zgN (o:Option Bool) (P:Prop):Prop:=∃ b,o=some b/\(b=true↔P)
theorem zgN.of {b:Bool} {P:Prop} (h:b=true↔P):zgN (some b) P:=⟨b,rfl,h⟩
theorem zgN.dec {P Q:Prop} [Decidable P] (h:P↔Q):zgN (some (decide P)) Q:=⟨_,rfl,by simpa using h⟩
theorem zgN.iff {o:Option Bool} {P Q:Prop} (h:zgN o P) (k:P↔Q):zgN o Q:=let ⟨b,h1,h2⟩:=h;⟨b,h1,h2.trans k⟩
theorem zgN.eq {o:Option Bool} {P:Prop} [Decidable P] (h:zgN o P):o=some (decide P):=by
 obtain ⟨b,rfl,hb⟩:=h;by_cases hp:P
 ·simp [hp,hb.2 hp]
 ·have:b=false:=by cases b;rfl;exact absurd (hb.1 rfl) hp
  simp [hp,this]
theorem zgN.to {R:Type} {o:Option Bool} {P:Prop} {k1 k2 x:Option R} (h:zgN o P) (h1:P->k1=x) (h2 : ¬ P->k2=x):(o.bind fun y=>if y=true then k1 else k2)=x:=by
 obtain ⟨b,rfl,hb⟩:=h;refine zaS rfl ?_
 cases b
 ·exact h2 fun hp=>by simpa using hb.2 hp
 ·exact h1 (hb.1 rfl)
theorem zgN.bind {R:Type} {o:Option Bool} {P:Prop} {k:Bool->Option R} {x:Option R} (h:zgN o P) (h1:∀ b,(b=true↔P)->k b=x):o.bind k=x:=by
 obtain ⟨b,rfl,hb⟩:=h;exact h1 b hb
section
variable {α C:Type} [Inhabited α]
theorem zut {l:List α} {P:α->Prop}:(∃ x∈l,P x)↔∃ i:Int,0<=i/\i < l.length/\P (ix l i):=by
 constructor
 ·rintro ⟨x,hx,hp⟩;obtain ⟨i,hi,rfl⟩:=List.mem_iff_getElem.1 hx;refine ⟨i,by omega,by omega,?_⟩
  rwa [znL (by omega) (by omega)]
 ·rintro ⟨i,h0,h1,hp⟩;exact ⟨_,zg4 h0 h1,hp⟩
theorem zrD {s:List α} {f:α->Option Bool} {L:Int->Option Int} {P:α->Prop} (hs:s.length<=4611686018427387904)
  (hL:∀ t,L t=if decide (t < (s.length:Int))=true then G (0<=t/\t < (s.length:Int)) ((f (ix s t)).bind fun y=>if y=true then some t else G (fits (t+1)) (L (t+1))) else some (-1))
  (hf:∀ x∈s,zgN (f x) (P x)):∀ (n:Nat) (t:Int),0<=t->t<=s.length->(s.length - t).toNat=n->
   ∃ i,L t=some i/\((i = -1/\∀ j:Int,t<=j->j < s.length -> ¬ P (ix s j))\/(t<=i/\i < s.length/\P (ix s i)/\∀ j:Int,t<=j->j < i -> ¬ P (ix s j))):=by
 intro n
 induction n with
 | zero=>
  intro t h0 h1 hn;refine ⟨-1,?_,.inl ⟨rfl,fun j a b=>by omega⟩⟩
  rw [hL,if_neg (by simp;omega)]
 | succ n ih=>
  intro t h0 h1 hn;rw [hL,if_pos (by simp;omega),zad (by omega)]
  obtain ⟨b,hb,hbp⟩:=hf _ (zg4 h0 (by omega:t < s.length))
  rw [hb]
  cases b with
  | true=>exact ⟨t,rfl,.inr ⟨by omega,by omega,hbp.1 rfl,fun j a b=>by omega⟩⟩
  | false=>
   have hnp : ¬ P (ix s t):=fun hp=>by simpa using hbp.2 hp
   obtain ⟨i,hi,hc⟩:=ih (t+1) (by omega) (by omega) (by omega)
   refine ⟨i,?_,?_⟩
   ·refine (if_neg (by simp):(if false=true then some t else G (fits (t+1)) (L (t+1)))=_).trans ?_
    rw [zad (by unfold fits;omega),hi]
   ·rcases hc with ⟨h2,h3⟩ | ⟨h2,h3,h4,h5⟩
    ·refine .inl ⟨h2,fun j a b => ?_⟩
     by_cases e:j=t
     ·rw [e];exact hnp
     ·exact h3 j (by omega) b
    ·refine .inr ⟨by omega,h3,h4,fun j a b => ?_⟩
     by_cases e:j=t
     ·rw [e];exact hnp
     ·exact h5 j (by omega) b
theorem zrd {s:List α} {f:α->Option Bool} {L:Int->Option Int} {P:α->Prop}
  (hL:∀ t,L t=if decide (t < (s.length:Int))=true then G (0<=t/\t < (s.length:Int)) ((f (ix s t)).bind fun y=>if y=true then some t else G (fits (t+1)) (L (t+1))) else some (-1))
  (hs:s.length<=4611686018427387904) (hf:∀ x∈s,zgN (f x) (P x)):zgN ((L 0).bind fun y=>some (decide ((0:Int)<=y))) (∃ x∈s,P x):=by
 obtain ⟨i,hi,hc⟩:=zrD hs hL hf _ 0 (by omega) (by omega) rfl
 rw [hi];refine ⟨decide (0<=i),rfl,?_⟩
 rw [decide_eq_true_iff,zut];rcases hc with ⟨h2,h3⟩ | ⟨h2,h3,h4,h5⟩
 ·constructor
  ·intro h;omega
  ·rintro ⟨j,h0,h1,hp⟩;exact absurd hp (h3 j h0 h1)
 ·exact ⟨fun _=>⟨i,by omega,h3,h4⟩,fun _=>by omega⟩
theorem zqe {s:List α} {c:C} {f:α->C->Option (Bool×C)} {L:Int->C->Option (Int×C)} {P:α->Prop}
  (hL:∀ t c,L t c=if decide (t < (s.length:Int))=true then G (0<=t/\t < (s.length:Int)) ((f (ix s t) c).bind fun y=>if y.1=true then some (t,y.2) else G (fits (t+1)) (L (t+1) y.2)) else some (-1,c))
  (hs:s.length<=4611686018427387904) (hf:∀ x∈s,∃ b,f x c=some (b,c)/\(b=true↔P x)):∃ b,((L 0 c).bind fun y=>some (decide ((0:Int)<=y.1),y.2))=some (b,c)/\(b=true↔∃ x∈s,P x):=by
 have key:∀ (n:Nat) (t:Int),0<=t->t<=s.length->(s.length - t).toNat=n->
   ∃ i,L t c=some (i,c)/\((i = -1/\∀ j:Int,t<=j->j < s.length -> ¬ P (ix s j))\/(t<=i/\i < s.length/\P (ix s i))):=by
  intro n
  induction n with
  | zero=>
   intro t h0 h1 hn;refine ⟨-1,?_,.inl ⟨rfl,fun j a b=>by omega⟩⟩
   rw [hL,if_neg (by simp;omega)]
  | succ n ih=>
   intro t h0 h1 hn;rw [hL,if_pos (by simp;omega),zad (by omega)]
   obtain ⟨b,hb,hbp⟩:=hf _ (zg4 h0 (by omega:t < s.length))
   rw [hb]
   cases b with
   | true=>exact ⟨t,rfl,.inr ⟨by omega,by omega,hbp.1 rfl⟩⟩
   | false=>
    have hnp : ¬ P (ix s t):=fun hp=>by simpa using hbp.2 hp
    obtain ⟨i,hi,hc⟩:=ih (t+1) (by omega) (by omega) (by omega)
    refine ⟨i,?_,?_⟩
    ·refine (if_neg (by simp):(if false=true then some (t,c) else G (fits (t+1)) (L (t+1) c))=_).trans ?_
     rw [zad (by unfold fits;omega),hi]
    ·rcases hc with ⟨h2,h3⟩ | ⟨h2,h3,h4⟩
     ·refine .inl ⟨h2,fun j a b => ?_⟩
      by_cases e:j=t
      ·rw [e];exact hnp
      ·exact h3 j (by omega) b
     ·exact .inr ⟨by omega,h3,h4⟩
 obtain ⟨i,hi,hc⟩:=key _ 0 (by omega) (by omega) rfl
 rw [hi];refine ⟨decide (0<=i),rfl,?_⟩
 rw [decide_eq_true_iff,zut];rcases hc with ⟨h2,h3⟩ | ⟨h2,h3,h4⟩
 ·constructor
  ·intro h;omega
  ·rintro ⟨j,h0,h1,hp⟩;exact absurd hp (h3 j h0 h1)
 ·exact ⟨fun _=>⟨i,by omega,h3,h4⟩,fun _=>by omega⟩
end
theorem zuO {R:Type} {len:Int} {L:Int->Option R} {bad:Int->Prop} {x:Option R} {lo:Int} (h0:lo<=len)
  (hs:∀ t,lo<=t->t < len->(bad t->L t=x)/\(¬ bad t->L t=L (t+1))) (hf:(∀ t,lo<=t->t < len -> ¬ bad t)->L len=x):L lo=x:=by
 have key:∀ (n:Nat) (t:Int),lo<=t->t<=len->(len - t).toNat=n->(∀ j,lo<=j->j < t -> ¬ bad j)->L t=x:=by
  intro n
  induction n with
  | zero=>
   intro t h1 h2 hn h;obtain rfl:t=len:=by omega
   exact hf h
  | succ n ih=>
   intro t h1 h2 hn h;by_cases hb:bad t
   ·exact (hs t h1 (by omega)).1 hb
   ·rw [(hs t h1 (by omega)).2 hb]
    refine ih (t+1) (by omega) (by omega) (by omega) fun j a b => ?_
    by_cases e:j=t
    ·rw [e];exact hb
    ·exact h j a (by omega)
 exact key _ lo (Int.le_refl _) h0 rfl (fun j a b=>by omega)
theorem fold_to {R S:Type} {len:Int} {L:Int->S->Option R} {f:Int->S->S} {lo:Int} {I:Int->S->Prop} {s:S} (h0:lo<=len) (hI:I lo s)
  (hs:∀ t s,lo<=t->t < len->I t s->L t s=L (t+1) (f t s)/\I (t+1) (f t s)):∃ s',I len s'/\L lo s=L len s':=by
 have key:∀ (n:Nat) (t:Int) (s:S),lo<=t->t<=len->(len - t).toNat=n->I t s->∃ s',I len s'/\L t s=L len s':=by
  intro n
  induction n with
  | zero=>
   intro t s h1 h2 hn h;obtain rfl:t=len:=by omega
   exact ⟨s,h,rfl⟩
  | succ n ih=>
   intro t s h1 h2 hn h;obtain ⟨e,h3⟩:=hs t s h1 (by omega) h
   obtain ⟨s',h4,h5⟩:=ih (t+1) _ (by omega) (by omega) (by omega) h3
   exact ⟨s',h4,e.trans h5⟩
 exact key _ lo s (Int.le_refl _) h0 rfl hI
theorem zxq {α:Type} [DecidableEq α]:∀ {l U:List α},l.Nodup->(∀ x∈l,x∈U)->l.length<=U.length
 | [],_,_,_=>Nat.zero_le _
 | a::l,U,hn,hs=>by
  have ha:=hs a (by simp)
  obtain ⟨h1,h2⟩:=List.nodup_cons.1 hn;have:=zxq (U:=U.erase a) h2 (fun x hx=>(List.mem_erase_of_ne (by rintro rfl;exact h1 hx)).2 (hs x (by simp [hx])))
  rw [List.length_erase_of_mem ha] at this;have hp:0 < U.length:=List.length_pos_of_mem ha;rw [List.length_cons];omega
theorem zce {l:List Int} {n:Nat} (h:l.Nodup) (hb:∀ x∈l,0<=x/\x < n):l.length<=n:=by
 have:=zxq (U:=(List.range n).map Int.ofNat) h (fun x hx=>by
  have:=hb x hx;exact List.mem_map.2 ⟨x.toNat,List.mem_range.2 (by omega),by show ((x.toNat:Nat):Int)=x;omega⟩)
 simpa using this
theorem zoM {s:List Int} (hs:s.length * 8<=140737488355328):zjI s=some s:=by
 have hr:G (room ([]:List Int) s 8) (some (([]:List Int)++s))=some s:=by
  rw [zad (zxy (by simpa using hs))];rfl
 unfold zjI;refine zw4 (fun h => ?_) (fun h=>hr)
 obtain rfl:s=[]:=List.length_eq_zero_iff.1 h;rw [hr];exact znk (ts:=[(.list (.int .i64))]) (some ([]:List Int))
structure GG (n:Int) (O M:List Int) (N B:List (List Int)):Prop where
 n1:0<=n/\n<=1000000
 lo:(O.length:Int)=n
 lm:(M.length:Int)=n
 ln:(N.length:Int)=n
 lb:(B.length:Int)=n
 own:∀ p:Int,0<=p->p < n->ix O p=0\/ix O p=1
 mrk:∀ p:Int,0<=p->p < n->0<=ix M p
 rng:∀ p:Int,0<=p->p < n->∀ q∈ix N p,0<=q/\q < n
 nd:∀ p:Int,0<=p->p < n->(ix N p).Nodup
 brng:∀ q:Int,0<=q->q < n->∀ p∈ix B q,0<=p/\p < n
 back:∀ p q:Int,0<=p->p < n->0<=q->q < n->(p∈ix B q↔q∈ix N p)
 bnd:∀ q:Int,0<=q->q < n->(ix B q).Nodup
def In (n:Int) (W:List Bool) (p:Int):Prop:=0<=p/\p < n/\ix W p=true
open Classical in
noncomputable def cnt (N:List (List Int)) (W:List Bool) (D:Int->Prop) (p:Int):Int:=(((ix N p).filter (fun q=>decide (ix W q=true /\ ¬ D q))).length:Int)
section
variable {n:Int} {O M:List Int} {N B:List (List Int)} {W:List Bool} {player:Int} {to mv0:List Int}
theorem GG.nlen (g:GG n O M N B) {p:Int} (p0:0<=p) (p1:p < n):((ix N p).length:Int)<=n:=by
 have:=zce (n:=n.toNat) (g.nd p p0 p1) (fun x hx=>by have:=g.rng p p0 p1 x hx;omega)
 have:=g.n1;omega
theorem GG.blen (g:GG n O M N B) {p:Int} (p0:0<=p) (p1:p < n):((ix B p).length:Int)<=n:=by
 have:=zce (n:=n.toNat) (g.bnd p p0 p1) (fun x hx=>by have:=g.brng p p0 p1 x hx;omega)
 have:=g.n1;omega
open Classical in
theorem zqd {D D':Int->Prop} {p:Int} (h:∀ q∈ix N p,D q↔D' q):cnt N W D p=cnt N W D' p:=by
 unfold cnt;congr 2
 refine List.filter_congr fun q hq => ?_
 exact decide_eq_decide.2 (and_congr Iff.rfl (not_congr (h q hq)))
theorem zqn {α:Type} [DecidableEq α] {P P':α->Bool} {x:α} (hx:P x=true):∀ {l:List α},l.Nodup->x∈l->(∀ y∈l,P' y=true↔P y=true/\y≠x)->(l.filter P').length+1=(l.filter P).length
 | [],_,h,_=>by cases h
 | y::l,hn,h,he=>by
  obtain ⟨hy,hn'⟩:=List.nodup_cons.1 hn;by_cases e:y=x
  ·subst e;have h1:P' y=false:=by
    have:=(he y (List.mem_cons_self ..)).1
    cases c:P' y with
    | false=>rfl
    | true=>exact absurd rfl (this c).2
   rw [List.filter_cons_of_neg (by simp [h1]),List.filter_cons_of_pos hx]
   have:l.filter P'=l.filter P:=by
    refine List.filter_congr fun z hz => ?_
    have hne:z≠y:=fun e=>hy (e ▸ hz)
    rw [Bool.eq_iff_iff,he z (List.mem_cons_of_mem _ hz)];exact ⟨fun h=>h.1,fun h=>⟨h,hne⟩⟩
   rw [this];rfl
  ·have hm:x∈l:=(List.mem_cons.1 h).resolve_left (fun h=>e h.symm)
   have ih:=zqn hx hn' hm (fun z hz=>he z (List.mem_cons_of_mem _ hz))
   have hyy:P' y=P y:=by
    rw [Bool.eq_iff_iff,he y (List.mem_cons_self ..)];exact ⟨fun h=>h.1,fun h=>⟨h,e⟩⟩
   by_cases c:P y=true
   ·rw [List.filter_cons_of_pos (by rw [hyy];exact c),List.filter_cons_of_pos c]
    simp only [List.length_cons];omega
   ·rw [List.filter_cons_of_neg (by rw [hyy];exact c),List.filter_cons_of_neg c]
    exact ih
open Classical in
theorem zxV (g:GG n O M N B) {D D':Int->Prop} {p x:Int} (p0:0<=p) (p1:p < n) (hx:x∈ix N p) (hW:ix W x=true) (hD : ¬ D x) (h:∀ q,D' q↔D q\/q=x):cnt N W D' p=cnt N W D p - 1:=by
 unfold cnt;have:=zqn (P:=fun q=>decide (ix W q=true /\ ¬ D q)) (P':=fun q=>decide (ix W q=true /\ ¬ D' q)) (x:=x) (by simp [hW,hD]) (g.nd p p0 p1) hx (fun y hy=>by
  simp only [decide_eq_true_eq];rw [h y];constructor
  ·rintro ⟨h1,h2⟩;exact ⟨⟨h1,fun h=>h2 (.inl h)⟩,fun h=>h2 (.inr h)⟩
  ·rintro ⟨⟨h1,h2⟩,h3⟩;exact ⟨h1,fun h=>h.elim h2 h3⟩)
 omega
open Classical in
theorem zwq {D:Int->Prop} {p:Int}:0 < cnt N W D p↔∃ q∈ix N p,ix W q=true /\ ¬ D q:=by
 unfold cnt;constructor
 ·intro h;have hne:0 < ((ix N p).filter (fun q=>decide (ix W q=true /\ ¬ D q))).length:=by omega
  obtain ⟨q,hq⟩:=List.exists_mem_of_length_pos hne;rw [List.mem_filter] at hq;exact ⟨q,hq.1,by simpa using hq.2⟩
 ·rintro ⟨q,hq,h⟩;have:q∈(ix N p).filter (fun q=>decide (ix W q=true /\ ¬ D q)):=List.mem_filter.2 ⟨hq,by simpa using h⟩
  have:=List.length_pos_of_mem this;omega
open Classical in
theorem zzQ (g:GG n O M N B) {D:Int->Prop} {p:Int} (p0:0<=p) (p1:p < n):0<=cnt N W D p/\cnt N W D p<=n:=by
 have h:=g.nlen p0 p1;have h2:((ix N p).filter (fun q=>decide (ix W q=true /\ ¬ D q))).length<=(ix N p).length:=List.length_filter_le _ _
 unfold cnt;omega
structure AInv (n:Int) (O:List Int) (N:List (List Int)) (W:List Bool) (player:Int) (to mv0:List Int) (D:Int->Int->Prop) (L:List Int) (rk:Int->Int) (inn:List Bool) (left mv:List Int):Prop where
 li:(inn.length:Int)=n
 ll:(left.length:Int)=n
 lv:(mv.length:Int)=n
 i:∀ p:Int,0<=p->p < n->(ix inn p=true↔p∈L)
 nd:L.Nodup
 sub:∀ p∈L,In n W p
 rk':∀ p∈L,rk p < L.length
 st:∀ p∈L,p∉to->(ix O p=player->ix mv p∈ix N p/\ix mv p∈L/\rk (ix mv p) < rk p)/\(¬ ix O p=player->∀ q∈ix N p,ix W q=true->q∈L/\rk q < rk p)
 mv':∀ p:Int,0<=p->p < n->(p∉L\/p∈to)->ix mv p=ix mv0 p
 lf:∀ p:Int,In n W p->p∉L->ix left p=cnt N W (D p) p/\(ix O p=player->∀ q∈ix N p,¬ D p q)/\(¬ ix O p=player->∃ q∈ix N p,ix W q=true /\ ¬ D p q)
 tos:∀ p∈to,p∈L
theorem AInv.congr {D D':Int->Int->Prop} {L:List Int} {rk:Int->Int} {inn:List Bool} {left mv:List Int} (h:AInv n O N W player to mv0 D L rk inn left mv) (e:∀ p,In n W p->p∉L->∀ q∈ix N p,D p q↔D' p q):AInv n O N W player to mv0 D' L rk inn left mv:=by
 refine { h with lf:=fun p hp hl => ?_ }
 obtain ⟨h1,h2,h3⟩:=h.lf p hp hl;refine ⟨h1.trans (zqd (e p hp hl)),fun ho q hq hd=>h2 ho q hq ((e p hp hl q hq).2 hd),fun ho => ?_⟩
 obtain ⟨q,hq,hW,hd⟩:=h3 ho;exact ⟨q,hq,hW,fun hd'=>hd ((e p hp hl q hq).2 hd')⟩
theorem AInv.add {D D':Int->Int->Prop} {L:List Int} {rk:Int->Int} {inn:List Bool} {left mv:List Int} (h:AInv n O N W player to mv0 D L rk inn left mv) {p x v:Int} (hp:In n W p) (hl:p∉L) (hx:x∈L) (hxp:x∈ix N p)
  (e:∀ p',p'≠p->∀ q∈ix N p',D p' q↔D' p' q) (ho : ¬ ix O p=player->∀ q∈ix N p,ix W q=true->q∈L):
  AInv n O N W player to mv0 D' (L++[p]) (fun q=>if q=p then L.length else rk q) (inn.set p.toNat true) (left.set p.toNat v) (if ix O p=player then mv.set p.toNat x else mv):=by
 have hli:=h.li;have hll:=h.ll;have hlv:=h.lv;have hpb:=hp.2.1;have hnt:p∉to:=fun g=>hl (h.tos p g)
 have hne:∀ q∈L,q≠p:=fun q hq e=>hl (e ▸ hq)
 have hmvne:∀ q:Int,0<=q->q≠p->ix (if ix O p=player then mv.set p.toNat x else mv) q=ix mv q:=by
  intro q q0 hq
  split
  ·exact zcp hp.1 q0 (fun e=>hq e.symm)
  ·rfl
 refine ⟨by simpa using hli,by simpa using hll,by split<;>simpa using hlv,fun q q0 q1 => ?_,?_,fun q hq => ?_,fun q hq => ?_,fun q hq hqt => ?_,fun q q0 q1 hq => ?_,fun q hq hql => ?_,fun q hq=>List.mem_append.2 (.inl (h.tos q hq))⟩
 ·by_cases c:p=q
  ·subst c;rw [zbP hp.1 (by omega)];simp
  ·rw [zcp hp.1 q0 c,h.i q q0 q1,List.mem_append,List.mem_singleton];exact ⟨.inl,fun h=>h.elim id (fun h=>absurd h.symm c)⟩
 ·rw [List.nodup_append];exact ⟨h.nd,by simp,fun a ha b hb=>by rw [List.mem_singleton] at hb;subst hb;exact hne a ha⟩
 ·rcases List.mem_append.1 hq with hq | hq
  ·exact h.sub q hq
  ·rw [List.mem_singleton.1 hq];exact hp
 ·simp only [List.length_append,List.length_singleton];rcases List.mem_append.1 hq with hq | hq
  ·rw [if_neg (hne q hq)];have:=h.rk' q hq;omega
  ·rw [if_pos (List.mem_singleton.1 hq)];omega
 ·rcases List.mem_append.1 hq with hq | hq
  ·obtain ⟨h1,h2⟩:=h.st q hq hqt;have q0:=(h.sub q hq).1;rw [if_neg (hne q hq),hmvne q q0 (hne q hq)];refine ⟨fun c => ?_,fun c r hr hW => ?_⟩
   ·obtain ⟨g1,g2,g3⟩:=h1 c;rw [if_neg (hne _ g2)];exact ⟨g1,List.mem_append.2 (.inl g2),g3⟩
   ·obtain ⟨g1,g2⟩:=h2 c r hr hW;rw [if_neg (hne _ g1)];exact ⟨List.mem_append.2 (.inl g1),g2⟩
  ·have hqp:q=p:=List.mem_singleton.1 hq;subst hqp;rw [if_pos rfl];refine ⟨fun c => ?_,fun c r hr hW => ?_⟩
   ·rw [if_pos c,zbP hp.1 (by omega),if_neg (hne x hx)]
    exact ⟨hxp,List.mem_append.2 (.inl hx),h.rk' x hx⟩
   ·have hr':=ho c r hr hW;rw [if_neg (hne r hr')];exact ⟨List.mem_append.2 (.inl hr'),h.rk' r hr'⟩
 ·have hqp:q≠p:=by
   rintro rfl;rcases hq with hq | hq
   ·exact hq (List.mem_append.2 (.inr (List.mem_singleton.2 rfl)))
   ·exact hnt hq
  rw [hmvne q q0 hqp];exact h.mv' q q0 q1 (hq.imp (fun h h'=>h (List.mem_append.2 (.inl h'))) id)
 ·have hq1:q∉L:=fun h=>hql (List.mem_append.2 (.inl h))
  have hqp:q≠p:=fun e=>hql (List.mem_append.2 (.inr (List.mem_singleton.2 e)))
  obtain ⟨h1,h2,h3⟩:=h.lf q hq hq1;refine ⟨?_,fun c r hr hd=>h2 c r hr ((e q hqp r hr).2 hd),fun c => ?_⟩
  ·rw [zcp hp.1 hq.1 (fun e=>hqp e.symm),h1]
   exact zqd (e q hqp)
  ·obtain ⟨r,hr,hW,hd⟩:=h3 c;exact ⟨r,hr,hW,fun hd'=>hd ((e q hqp r hr).2 hd')⟩
theorem AInv.dec {D D':Int->Int->Prop} {L:List Int} {rk:Int->Int} {inn:List Bool} {left mv:List Int} (h:AInv n O N W player to mv0 D L rk inn left mv) {p v:Int} (hp:In n W p) (hl:p∉L)
  (e:∀ p',p'≠p->∀ q∈ix N p',D p' q↔D' p' q) (ho : ¬ ix O p=player) (hv:v=cnt N W (D' p) p) (hpos:0 < v):
  AInv n O N W player to mv0 D' L rk inn (left.set p.toNat v) mv:=by
 have hll:=h.ll;have hpb:=hp.2.1;refine { h with ll:=by simpa using hll,lf:=fun q hq hql => ?_ }
 by_cases c:p=q
 ·subst c;rw [zbP hp.1 (by omega)]
  exact ⟨hv,fun c=>absurd c ho,fun _=>zwq.1 (hv ▸ hpos)⟩
 ·obtain ⟨h1,h2,h3⟩:=h.lf q hq hql;have hqp:q≠p:=fun e=>c e.symm
  rw [zcp hp.1 hq.1 c];refine ⟨h1.trans (zqd (e q hqp)),fun c r hr hd=>h2 c r hr ((e q hqp r hr).2 hd),fun c => ?_⟩
  obtain ⟨r,hr,hW,hd⟩:=h3 c;exact ⟨r,hr,hW,fun hd'=>hd ((e q hqp r hr).2 hd')⟩
abbrev R19:=List Int->List Int->List (List Int)->List (List Int)->List Bool->List Int->List Int->List Int->List Int->Option (List Bool×List Int×List Int×List (List Int)×List (List Int)×List Int×List Int×List Int×List Bool)
def Dk (B:List (List Int)) (Pd:List Int) (x:Int) (k:Int) (p q:Int):Prop:=q∈Pd\/(q=x/\p∈(ix B x).take k.toNat)
theorem ziQ {l:List Int} {k p:Int} (k0:0<=k) (k1:k < l.length):p∈l.take (k+1).toNat↔p∈l.take k.toNat\/p=ix l k:=by
 have hk:k.toNat < l.length:=by omega
 rw [show (k+1).toNat=k.toNat+1 by omega,List.take_succ_eq_append_getElem hk,List.mem_append,List.mem_singleton,znL k0 k1]
theorem zpu {l:List Int} (hn:l.Nodup) {k:Int} (k0:0<=k) (k1:k < l.length):ix l k∉l.take k.toNat:=by
 have hk:k.toNat < l.length:=by omega
 intro h;have e:l=l.take k.toNat++ix l k::l.drop (k.toNat+1):=by
  rw [znL k0 k1,<- List.drop_eq_getElem_cons hk,List.take_append_drop]
 rw [e] at hn;exact (List.nodup_append.1 hn).2.2 _ h _ (List.mem_cons_self ..) rfl
theorem zxM (g:GG n O M N B) (hW:(W.length:Int)=n) {Pd row0:List Int} {x:Int} (hx:In n W x) (h0:ix row0 0=x) {win:List Int} (hwl:(win.length:Int)=n) {r19:R19}:∀ (m:Nat) (k:Int) (inn:List Bool) (left tl mv:List Int) (rk:Int->Int),0<=k->k+m=(ix B x).length->AInv n O N W player to mv0 (Dk B Pd x k) (Pd++x::tl) rk inn left mv->
  ∃ inn' left' tl' mv' rk',zaB player W B row0 r19 k O M N B inn left (x::tl) win mv=r19 O M N B inn' left' tl' win mv'/\AInv n O N W player to mv0 (fun _ q=>q∈Pd++[x]) ((Pd++[x])++tl') rk' inn' left' mv':=by
 have hn1:=g.n1;have hlb:=g.lb;have hlo:=g.lo;have hbl:=g.blen hx.1 hx.2.1;intro m
 induction m with
 | zero=>
  intro k inn left tl mv rk k0 hk h;refine ⟨inn,left,tl,mv,rk,?_,?_⟩
  ·rw [ze4];unfold zan;rw [h0,if_neg (by simp only [decide_eq_true_eq];omega),zad (by simp;omega)]
   rfl
  ·have h':AInv n O N W player to mv0 (fun _ q=>q∈Pd++[x]) (Pd++x::tl) rk inn left mv:=h.congr fun p hp hl q hq=>by
    unfold Dk;rw [List.take_of_length_le (by omega),List.mem_append,List.mem_singleton]
    refine or_congr Iff.rfl ⟨fun h=>h.1,fun e=>⟨e,?_⟩⟩
    subst e;exact (g.back p q hp.1 hp.2.1 hx.1 hx.2.1).2 hq
   rw [List.append_assoc];exact h'
 | succ m ih=>
  intro k inn left tl mv rk k0 hk h;have k1:k < (ix B x).length:=by omega
  have hpr:=g.brng x hx.1 hx.2.1 _ (zg4 k0 k1);obtain ⟨p,ep⟩:∃ p,ix (ix B x) k=p:=⟨_,rfl⟩;rw [ep] at hpr;have hxp:x∈ix N p:=(g.back p x hpr.1 hpr.2 hx.1 hx.2.1).1 (ep ▸ zg4 k0 k1);have hnt:p∉(ix B x).take k.toNat:=ep ▸ zpu (g.bnd x hx.1 hx.2.1) k0 k1;have hD:∀ p' q,Dk B Pd x (k+1) p' q↔Dk B Pd x k p' q\/(q=x/\p'=p):=by
   intro p' q;unfold Dk;rw [ziQ k0 k1,ep];constructor
   ·rintro (h | ⟨h1,h2 | h2⟩)
    ·exact .inl (.inl h)
    ·exact .inl (.inr ⟨h1,h2⟩)
    ·exact .inr ⟨h1,h2⟩
   ·rintro ((h | ⟨h1,h2⟩) | ⟨h1,h2⟩)
    ·exact .inl h
    ·exact .inr ⟨h1,.inl h2⟩
    ·exact .inr ⟨h1,.inr h2⟩
  have hDne:∀ p',p'≠p->∀ q∈ix N p',Dk B Pd x k p' q↔Dk B Pd x (k+1) p' q:=fun p' hp' q _=>by
   rw [hD];exact ⟨.inl,fun h=>h.elim id (fun h=>absurd h.2 hp')⟩
  have hli:=h.li;have hll:=h.ll;have hlv:=h.lv;have hfk:fits (k+1):=by unfold fits;omega
  have e0:∀ X,zan player W B row0 r19 (zaB player W B row0 r19) k O M N B inn left (x::tl) win mv=X->zaB player W B row0 r19 k O M N B inn left (x::tl) win mv=X:=fun X h=>by rw [ze4];exact h
  by_cases c1:ix W p=true
  case neg=>
   obtain ⟨inn',left',tl',mv',rk',e,h'⟩:=ih (k+1) inn left tl mv rk (by omega) (by omega) (h.congr fun p' hp' _ q hq=>hDne p' (fun e=>c1 (e ▸ hp'.2.2)) q hq)
   refine ⟨inn',left',tl',mv',rk',e0 _ ?_,h'⟩
   unfold zan;rw [h0,if_pos (decide_eq_true k1),zad (by omega),ep,zad (by omega),zad (by omega),if_pos (by simpa using c1),zad hfk]
   exact e
  by_cases c2:p∈Pd++x::tl
  ·have hin:=(h.i p hpr.1 hpr.2).2 c2;obtain ⟨inn',left',tl',mv',rk',e,h'⟩:=ih (k+1) inn left tl mv rk (by omega) (by omega) (h.congr fun p' hp' hl' q hq=>hDne p' (fun e=>hl' (e ▸ c2)) q hq)
   refine ⟨inn',left',tl',mv',rk',e0 _ ?_,h'⟩
   unfold zan;rw [h0,if_pos (decide_eq_true k1),zad (by omega),ep,zad (by omega),zad (by omega),if_neg (by simp [c1]),zad (by omega),zad (by omega),if_pos hin,zad hfk]
   exact e
  have hin : ¬ ix inn p=true:=fun g=>c2 ((h.i p hpr.1 hpr.2).1 g)
  have hp:In n W p:=⟨hpr.1,hpr.2,c1⟩;obtain ⟨l1,l2,l3⟩:=h.lf p hp c2;have hxPd:x∉Pd:=fun g=>(List.nodup_append.1 h.nd).2.2 x g x (List.mem_cons_self ..) rfl
  have hxL:x∈Pd++x::tl:=List.mem_append.2 (.inr (List.mem_cons_self ..));have hDx : ¬ Dk B Pd x k p x:=fun g=>g.elim hxPd (fun g=>hnt g.2)
  have hcnt:cnt N W (Dk B Pd x (k+1) p) p=cnt N W (Dk B Pd x k p) p - 1:=zxV g hpr.1 hpr.2 hxp hx.2.2 hDx (fun q=>by rw [hD];simp)
  have hcb:=zzQ (W:=W) (D:=Dk B Pd x k p) g hpr.1 hpr.2;have hcl:Pd.length+(tl.length+1)<=n.toNat:=by
   have:=zce (n:=n.toNat) h.nd (fun y hy=>by have:=h.sub y hy;unfold In at this;omega)
   simpa using this
  have hJ:∀ (a:List Int) (b:List Int),zbo B row0 k inn left (x::tl) (zaB player W B row0 r19) O M N B a b=zaB player W B row0 r19 (k+1) O M N B (inn.set p.toNat true) (left.set p.toNat (ix left p - 1)) (x::(tl++[p])) a b:=by
   intro a b;unfold zbo;rw [h0,ep,zad (by omega),zad (by omega),zad (by unfold room;simp;omega),zad hfk]
   rfl
  by_cases c3:ix O p=player
  ·have hadd:=h.add (v:=ix left p - 1) (D':=Dk B Pd x (k+1)) hp c2 hxL hxp hDne (fun c=>absurd c3 c)
   rw [if_pos c3] at hadd;rw [List.append_assoc] at hadd;obtain ⟨inn',left',tl',mv',rk',e,h'⟩:=ih (k+1) _ _ (tl++[p]) _ _ (by omega) (by omega) hadd
   refine ⟨inn',left',tl',mv',rk',e0 _ ?_,h'⟩
   unfold zan;rw [h0,if_pos (decide_eq_true k1),zad (by omega),ep,zad (by omega),zad (by omega),if_neg (by simp [c1]),zad (by omega),zad (by omega),if_neg hin,zad (by omega),zad (by omega),zad (by unfold fits;omega),zad (by omega),zad (by omega),zad (by omega),if_pos (decide_eq_true c3),zad (by simp),zad (by simp),zad (by omega),zad (by omega),hJ]
   exact e
  ·have hls:ix (left.set p.toNat (ix left p - 1)) p=ix left p - 1:=zbP hpr.1 (by omega)
   by_cases c4:0 < ix left p - 1
   ·have hdec:=h.dec (v:=ix left p - 1) (D':=Dk B Pd x (k+1)) hp c2 hDne c3 (by omega) c4
    obtain ⟨inn',left',tl',mv',rk',e,h'⟩:=ih (k+1) _ _ tl _ _ (by omega) (by omega) hdec
    refine ⟨inn',left',tl',mv',rk',e0 _ ?_,h'⟩
    unfold zan;rw [h0,if_pos (decide_eq_true k1),zad (by omega),ep,zad (by omega),zad (by omega),if_neg (by simp [c1]),zad (by omega),zad (by omega),if_neg hin,zad (by omega),zad (by omega),zad (by unfold fits;omega),zad (by omega),zad (by omega),zad (by omega),if_neg (by simpa using c3),List.length_set,zad (by omega),zad (by omega),hls,if_pos (decide_eq_true c4),zad hfk]
    exact e
   ·have hall:∀ q∈ix N p,ix W q=true->q∈Pd++x::tl:=by
     intro q hq hWq;refine Classical.byContradiction fun hn => ?_
     have:0 < cnt N W (Dk B Pd x (k+1) p) p:=zwq.2 ⟨q,hq,hWq,fun hd=>hn ?_⟩
     ·omega
     ·rcases hd with hd | ⟨rfl,_⟩
      ·exact List.mem_append.2 (.inl hd)
      ·exact hxL
    have hadd:=h.add (v:=ix left p - 1) (D':=Dk B Pd x (k+1)) hp c2 hxL hxp hDne (fun _=>hall)
    rw [if_neg c3] at hadd;rw [List.append_assoc] at hadd;obtain ⟨inn',left',tl',mv',rk',e,h'⟩:=ih (k+1) _ _ (tl++[p]) _ _ (by omega) (by omega) hadd
    refine ⟨inn',left',tl',mv',rk',e0 _ ?_,h'⟩
    unfold zan;rw [h0,if_pos (decide_eq_true k1),zad (by omega),ep,zad (by omega),zad (by omega),if_neg (by simp [c1]),zad (by omega),zad (by omega),if_neg hin,zad (by omega),zad (by omega),zad (by unfold fits;omega),zad (by omega),zad (by omega),zad (by omega),if_neg (by simpa using c3),List.length_set,zad (by omega),zad (by omega),hls,if_neg (by simpa using c4),hJ]
    exact e
theorem zxL (g:GG n O M N B) (hW:(W.length:Int)=n) {win:List Int} (hwl:(win.length:Int)=n):∀ (f:Nat) (Pd row:List Int) (inn:List Bool) (left mv:List Int) (rk:Int->Int),n.toNat - Pd.length=f->AInv n O N W player to mv0 (fun _ q=>q∈Pd) (Pd++row) rk inn left mv->
  ∃ inn' left' mv' rk' L,zbM player to W O M N B inn left row win mv=some (inn',O,M,N,B,win,mv',to,W)/\AInv n O N W player to mv0 (fun _ q=>q∈L) L rk' inn' left' mv':=by
 have hn1:=g.n1;have hlb:=g.lb;intro f
 induction f with
 | zero=>
  intro Pd row inn left mv rk hf h;have hcl:=zce (n:=n.toNat) h.nd (fun y hy=>by have:=h.sub y hy;unfold In at this;omega)
  rw [List.length_append] at hcl;have:row=[]:=List.length_eq_zero_iff.1 (by omega)
  subst this;rw [List.append_nil] at h;refine ⟨inn,left,mv,rk,Pd,?_,h⟩
  rw [zdk];unfold zaT;rw [if_neg (by simp)]
 | succ f ih=>
  intro Pd row inn left mv rk hf h
  cases row with
  | nil=>
   rw [List.append_nil] at h;refine ⟨inn,left,mv,rk,Pd,?_,h⟩
   rw [zdk];unfold zaT;rw [if_neg (by simp)]
  | cons x tl=>
   have hx:=h.sub x (List.mem_append.2 (.inr (List.mem_cons_self ..)));have h':AInv n O N W player to mv0 (Dk B Pd x 0) (Pd++x::tl) rk inn left mv:=h.congr fun p _ _ q _=>by unfold Dk;simp
   obtain ⟨inn',left',tl',mv',rk',e,h2⟩:=zxM g hW (row0:=x::tl) hx rfl hwl (r19:=zbM player to W) (ix B x).length 0 inn left tl mv rk (by omega) (by omega) h'
   obtain ⟨i2,l2,m2,r2,L,e2,h3⟩:=ih (Pd++[x]) tl' inn' left' mv' rk' (by simp;omega) h2
   refine ⟨i2,l2,m2,r2,L,?_,h3⟩
   rw [zdk];unfold zaT;have hx0:ix (x::tl) 0=x:=rfl;unfold In at hx;rw [if_pos (by simp),zad (by simp),zad (by simp),hx0,zad (by omega),e]
   exact e2
structure Attr (n:Int) (O:List Int) (N:List (List Int)) (W:List Bool) (player:Int) (to mv0:List Int) (inn:List Bool) (mv:List Int) (rk:Int->Int):Prop where
 li:(inn.length:Int)=n
 lv:(mv.length:Int)=n
 sub:∀ p,In n inn p->In n W p
 tos:∀ p∈to,In n inn p
 st:∀ p,In n inn p->p∉to->(ix O p=player->ix mv p∈ix N p/\In n inn (ix mv p)/\rk (ix mv p) < rk p)/\(¬ ix O p=player->∀ q∈ix N p,ix W q=true->In n inn q/\rk q < rk p)
 mv':∀ p:Int,0<=p->p < n->(¬ ix inn p=true\/p∈to)->ix mv p=ix mv0 p
 out:∀ p,In n W p -> ¬ ix inn p=true->(ix O p=player->∀ q∈ix N p,¬ ix inn q=true)/\(¬ ix O p=player->∃ q∈ix N p,ix W q=true /\ ¬ ix inn q=true)
theorem zyG (g:GG n O M N B) (hW:(W.length:Int)=n) {t:Int} (t0:0<=t) (t1:t < n) {r4:Int->List Int->Option (List Bool×List Int×List Int×List (List Int)×List (List Int)×List Int×List Int×List Int×List Bool)}:∀ (m:Nat) (k:Nat) (left:List Int),k+m=(ix N t).length->(left.length:Int)=n->ix left t=(((ix N t).take k).filter (fun q=>ix W q)).length->
  ∃ left',zby N W t r4 k left=r4 (t+1) left'/\(left'.length:Int)=n/\ix left' t=((ix N t).filter (fun q=>ix W q)).length/\∀ p:Int,0<=p->p≠t->ix left' p=ix left p:=by
 have hn1:=g.n1;have hnl:=g.nlen t0 t1;intro m
 induction m with
 | zero=>
  intro k left hk hl h;refine ⟨left,?_,hl,?_,fun _ _ _=>rfl⟩
  ·rw [zdz];unfold za1;rw [if_neg (by simp only [decide_eq_true_eq];omega),zad (by unfold fits;omega)]
  ·rw [h,List.take_of_length_le (by omega)]
 | succ m ih=>
  intro k left hk hl h;have hr:=g.rng t t0 t1 _ (zg4 (l:=ix N t) (by omega:(0:Int)<=(k:Int)) (by omega))
  have hkl:k < (ix N t).length:=by omega
  have hg:(ix N t)[k]=ix (ix N t) (k:Int):=(znL (l:=ix N t) (i:=(k:Int)) (by omega) (by omega)).symm
  have htk:(((ix N t).take (k+1)).filter (fun q=>ix W q)).length=(((ix N t).take k).filter (fun q=>ix W q)).length+(if ix W (ix (ix N t) (k:Int))=true then 1 else 0):=by
   rw [List.take_succ_eq_append_getElem hkl,List.filter_append,List.length_append,hg];by_cases c:ix W (ix (ix N t) (k:Int))=true
   ·rw [if_pos c,List.filter_cons_of_pos c];rfl
   ·rw [if_neg c,List.filter_cons_of_neg c];rfl
  have hle:(((ix N t).take k).filter (fun q=>ix W q)).length<=k:=Nat.le_trans (List.length_filter_le _ _) (by rw [List.length_take];omega)
  by_cases c:ix W (ix (ix N t) (k:Int))=true
  ·rw [if_pos c] at htk;obtain ⟨left',e,h1,h2,h3⟩:=ih (k+1) (left.set t.toNat (ix left t+1)) (by omega) (by simpa using hl) (by rw [zbP t0 (by omega)];omega)
   refine ⟨left',?_,h1,h2,fun p p0 hp=>by rw [h3 p p0 hp,zcp t0 p0 (fun e=>hp e.symm)]⟩
   rw [<- e]
   conv=>lhs;rw [zdz];unfold za1
   rw [if_pos (decide_eq_true (by omega)),zad (by omega),zad (by omega),zad (by omega),if_pos c,zad (by omega),zad (by omega),zad (by unfold fits;omega),zad (by omega),zad (by omega),zad (by unfold fits;omega)]
   rfl
  ·rw [if_neg c] at htk;obtain ⟨left',e,h1,h2,h3⟩:=ih (k+1) left (by omega) hl (by omega)
   refine ⟨left',?_,h1,h2,h3⟩
   rw [<- e]
   conv=>lhs;rw [zdz];unfold za1
   rw [if_pos (decide_eq_true (by omega)),zad (by omega),zad (by omega),zad (by omega),if_neg c,zad (by unfold fits;omega)]
   rfl
theorem zmD (g:GG n O M N B) (hW:(W.length:Int)=n) {win:List Int} (hwl:(win.length:Int)=n) (hmv:(mv0.length:Int)=n) (hto:∀ p∈to,In n W p) (hnd:to.Nodup) (hcl:∀ p,In n W p->∃ q∈ix N p,ix W q=true):
  ∃ inn mv rk,zcW player O M N B to W win mv0=some (inn,O,M,N,B,win,mv,to,W)/\Attr n O N W player to mv0 inn mv rk:=by
 have hn1:=g.n1;have hln:=g.ln;have hlo:=g.lo;have htl:=zce (n:=n.toNat) hnd (fun y hy=>by have:=hto y hy;unfold In at this;omega)
 have k4:∀ (m:Nat) (t:Int) (left:List Int),0<=t->t+m=n->(left.length:Int)=n->(∀ p:Int,0<=p->p < t->ix left p=((ix N p).filter (fun q=>ix W q)).length)->(∀ p:Int,t<=p->p < n->ix left p=0)->
   ∃ left',zcd player O M N B to W win mv0 t left=zb6 player O M N B to W win mv0 left' 0 (List.replicate (O.length:Int).toNat false)/\(left'.length:Int)=n/\∀ p:Int,0<=p->p < n->ix left' p=((ix N p).filter (fun q=>ix W q)).length:=by
  intro m
  induction m with
  | zero=>
   intro t left t0 ht hl h1 h2;refine ⟨left,?_,hl,fun p p0 p1=>h1 p p0 (by omega)⟩
   rw [zfk];unfold zbm;rw [if_neg (by simp only [decide_eq_true_eq];omega)]
  | succ m ih=>
   intro t left t0 ht hl h1 h2;obtain ⟨l7,e,q1,q2,q3⟩:=zyG g hW t0 (by omega) (r4:=zcd player O M N B to W win mv0) (ix N t).length 0 left (by omega) hl (by rw [h2 t (Int.le_refl t) (by omega)];rfl)
   obtain ⟨left',e2,h'⟩:=ih (t+1) l7 (by omega) (by omega) q1 (fun p p0 p1=>by
    by_cases c:p=t
    ·rw [c];exact q2
    ·rw [q3 p p0 c];exact h1 p p0 (by omega)) (fun p p0 p1=>by rw [q3 p (by omega) (by omega)];exact h2 p (by omega) p1)
   refine ⟨left',?_,h'⟩
   rw [<- e2]
   conv=>lhs;rw [zfk];unfold zbm
   rw [if_pos (decide_eq_true (by omega)),zad (by omega)]
   exact e
 have k14:∀ (left:List Int) (m:Nat) (t:Int) (inn:List Bool),0<=t->t+m=to.length->(inn.length:Int)=n->(∀ p:Int,0<=p->p < n->(ix inn p=true↔p∈to.take t.toNat))->
   ∃ inn',zb6 player O M N B to W win mv0 left t inn=zbM player to W O M N B inn' left to win mv0/\(inn'.length:Int)=n/\∀ p:Int,0<=p->p < n->(ix inn' p=true↔p∈to):=by
  intro left m
  induction m with
  | zero=>
   intro t inn t0 ht hl h;refine ⟨inn,?_,hl,fun p p0 p1=>by rw [h p p0 p1,List.take_of_length_le (by omega)]⟩
   rw [ze3];unfold za9;rw [if_neg (by simp only [decide_eq_true_eq];omega)]
   exact zaS (zoM (by omega)) rfl
  | succ m ih=>
   intro t inn t0 ht hl h;have hp:=hto _ (zg4 t0 (by omega:t < to.length))
   unfold In at hp;obtain ⟨inn',e,h'⟩:=ih (t+1) (inn.set (ix to t).toNat true) (by omega) (by omega) (by simpa using hl) (fun p p0 p1=>by
    rw [ziQ t0 (by omega)]
    by_cases c:ix to t=p
    ·rw [c,zbP p0 (by omega)];simp
    ·rw [zcp (by omega) p0 c,h p p0 p1]
     exact ⟨.inl,fun h=>h.elim id (fun h=>absurd h.symm c)⟩)
   refine ⟨inn',?_,h'⟩
   rw [<- e]
   conv=>lhs;rw [ze3];unfold za9
   rw [if_pos (decide_eq_true (by omega)),zad (by omega),zad (by omega),zad (by omega),zad (by omega),zad (by unfold fits;omega)]
 have hrep:∀ p:Int,ix (List.replicate (O.length:Int).toNat (0:Int)) p=0:=fun p=>by
  simp only [ix,List.getD_eq_getElem?_getD,List.getElem?_replicate]
  split<;>rfl
 have hrepb:∀ p:Int,ix (List.replicate (O.length:Int).toNat false) p=false:=fun p=>by
  simp only [ix,List.getD_eq_getElem?_getD,List.getElem?_replicate]
  split<;>rfl
 obtain ⟨left,e1,hl1,hl2⟩:=k4 n.toNat 0 (List.replicate (O.length:Int).toNat 0) (by omega) (by omega) (by simp;omega) (fun p p0 p1=>by omega) (fun p _ _=>hrep p)
 obtain ⟨inn,e2,hi1,hi2⟩:=k14 left to.length 0 (List.replicate (O.length:Int).toNat false) (by omega) (by omega) (by simp;omega) (fun p _ _=>by rw [hrepb];simp)
 have hc:∀ p,cnt N W (fun q=>q∈([]:List Int)) p=((ix N p).filter (fun q=>ix W q)).length:=fun p=>by
  unfold cnt;congr 2
  refine List.filter_congr fun q _ => ?_
  simp
 have h0:AInv n O N W player to mv0 (fun _ q=>q∈([]:List Int)) ([]++to) (fun _ => -1) inn left mv0:=by
  refine ⟨hi1,hl1,hmv,hi2,hnd,hto,fun p _=>by omega,fun p hp hn=>absurd hp hn,fun _ _ _ _=>rfl,fun p hp _=>⟨?_,fun _ q _ h=>(by cases h),fun _ => ?_⟩,fun p hp=>hp⟩
  ·rw [hl2 p hp.1 hp.2.1,hc]
  ·obtain ⟨q,hq,hWq⟩:=hcl p hp;exact ⟨q,hq,hWq,fun h=>(by cases h)⟩
 obtain ⟨inn',left',mv',rk',L,e3,h3⟩:=zxL g hW hwl _ [] to inn left mv0 _ rfl h0;have hIn:∀ p,In n inn' p↔p∈L:=fun p=>⟨fun h=>(h3.i p h.1 h.2.1).1 h.2.2,fun h=>by have hs:=h3.sub p h;exact ⟨hs.1,hs.2.1,(h3.i p hs.1 hs.2.1).2 h⟩⟩
 refine ⟨inn',mv',rk',?_,h3.li,h3.lv,fun p hp=>h3.sub p ((hIn p).1 hp),fun p hp=>(hIn p).2 (h3.tos p hp),fun p hp hpt => ?_,fun p p0 p1 h => ?_,fun p hp hpi => ?_⟩
 ·unfold zcW;rw [zad (by unfold mkOK;omega),zad (by unfold mkOK;omega),e1,e2]
  exact e3
 ·obtain ⟨s1,s2⟩:=h3.st p ((hIn p).1 hp) hpt;refine ⟨fun c => ?_,fun c q hq hW => ?_⟩
  ·obtain ⟨g1,g2,g3⟩:=s1 c;exact ⟨g1,(hIn _).2 g2,g3⟩
  ·obtain ⟨g1,g2⟩:=s2 c q hq hW;exact ⟨(hIn _).2 g1,g2⟩
 ·exact h3.mv' p p0 p1 (h.imp (fun h h'=>h ((hIn p).2 h').2.2) id)
 ·have hpL:p∉L:=fun h=>hpi ((hIn p).2 h).2.2
  obtain ⟨_,l2,l3⟩:=h3.lf p hp hpL;refine ⟨fun c q hq hi => ?_,fun c => ?_⟩
  ·have hr:=g.rng p hp.1 hp.2.1 q hq;exact l2 c q hq ((hIn q).1 ⟨hr.1,hr.2,hi⟩)
  ·obtain ⟨q,hq,hWq,hn⟩:=l3 c;have hr:=g.rng p hp.1 hp.2.1 q hq;exact ⟨q,hq,hWq,fun hi=>hn ((hIn q).1 ⟨hr.1,hr.2,hi⟩)⟩
end
inductive Rch (E:Int->Int->Prop) (ok:Int->Prop) (p:Int):Int->Prop
 | one {q:Int} (h:E p q):Rch E ok p q
 | more {q r:Int} (h:Rch E ok p q) (k:ok q) (e:E q r):Rch E ok p r
def Ed (N:List (List Int)) (O:List Int) (W:List Bool) (mv:List Int) (i p q:Int):Prop:=q∈ix N p/\ix W q=true/\(ix O p=i->q=ix mv p)
structure Post (n:Int) (O M:List Int) (N:List (List Int)) (W:List Bool) (win0 mv0 win mv:List Int):Prop where
 lw:(win.length:Int)=n
 lv:(mv.length:Int)=n
 out:∀ p:Int,0<=p->p < n -> ¬ ix W p=true->ix win p=ix win0 p/\ix mv p=ix mv0 p
 two:∀ p,In n W p->ix win p=0\/ix win p=1
 own:∀ p,In n W p->ix O p=ix win p->ix mv p∈ix N p/\In n W (ix mv p)/\ix win (ix mv p)=ix win p
 oth:∀ p,In n W p -> ¬ ix O p=ix win p->∀ q∈ix N p,ix W q=true->ix win q=ix win p
 cyc:∀ p,In n W p -> ¬ Int.tmod (ix M p) 2=ix win p -> ¬ Rch (Ed N O W mv (ix win p)) (fun q=>ix M p<=ix M q) p p
def zsX (n:Int) (N:List (List Int)) (W:List Bool):Prop:=∀ p,In n W p->∃ q∈ix N p,ix W q=true
section
variable {n:Int} {O M:List Int} {N B:List (List Int)} {W R near gone:List Bool} {player:Int} {win0 mv0 mv1 win2 mv2 best:List Int} {rk:Int->Int}
theorem zqa (g:GG n O M N B) (hc:zsX n N W) {to:List Int} (ha:Attr n O N W player to mv0 near mv1 rk) (hR:∀ p:Int,0<=p->p < n->(ix R p=true↔ix W p=true /\ ¬ ix near p=true)):zsX n N R:=by
 intro p hp;have h:=(hR p hp.1 hp.2.1).1 hp.2.2;have hW:In n W p:=⟨hp.1,hp.2.1,h.1⟩;obtain ⟨o1,o2⟩:=ha.out p hW h.2;by_cases c:ix O p=player
 ·obtain ⟨q,hq,hWq⟩:=hc p hW;have hr:=g.rng p hp.1 hp.2.1 q hq;exact ⟨q,hq,(hR q hr.1 hr.2).2 ⟨hWq,o1 c q hq⟩⟩
 ·obtain ⟨q,hq,h1,h2⟩:=o2 c;have hr:=g.rng p hp.1 hp.2.1 q hq;exact ⟨q,hq,(hR q hr.1 hr.2).2 ⟨h1,h2⟩⟩
theorem zyJ (g:GG n O M N B) (hplay:player=0\/player=1) {least:Int} (hlp:Int.tmod least 2=player) (hle:∀ p,In n W p->least<=ix M p) (hbest:∀ p,p∈best↔In n W p/\ix M p=least) (ha:Attr n O N W player best mv0 near mv1 rk)
  (hR:∀ p:Int,0<=p->p < n->(ix R p=true↔ix W p=true /\ ¬ ix near p=true)) (hp:Post n O M N R win0 mv1 win2 mv2) (hall:∀ p,In n R p->ix win2 p=player) {win3 mv3:List Int} (hl3:(win3.length:Int)=n) (hv3:(mv3.length:Int)=n)
  (hw3:∀ p:Int,0<=p->p < n->ix win3 p=if ix W p=true then player else ix win2 p) (hm3:∀ p:Int,0<=p->p < n->(p∈best/\ix O p=player->ix mv3 p∈ix N p/\ix W (ix mv3 p)=true)/\(¬ (p∈best/\ix O p=player)->ix mv3 p=ix mv2 p)):Post n O M N W win0 mv0 win3 mv3:=by
 have hW3:∀ p,In n W p->ix win3 p=player:=fun p hp=>by rw [hw3 p hp.1 hp.2.1,if_pos hp.2.2]
 have hnr:∀ p,In n near p -> ¬ ix R p=true:=fun p hn h=>((hR p hn.1 hn.2.1).1 h).2 hn.2.2
 have hRW:∀ p,In n R p->In n W p:=fun p h=>⟨h.1,h.2.1,((hR p h.1 h.2.1).1 h.2.2).1⟩
 have hsplit:∀ p,In n W p->In n near p\/In n R p:=fun p h=>by
  by_cases c:ix near p=true
  ·exact .inl ⟨h.1,h.2.1,c⟩
  ·exact .inr ⟨h.1,h.2.1,(hR p h.1 h.2.1).2 ⟨h.2.2,c⟩⟩
 have mvR:∀ p,In n R p->ix mv3 p=ix mv2 p:=fun p h=>(hm3 p h.1 h.2.1).2 (fun hb=>hnr p (ha.tos p hb.1) h.2.2)
 have mvN:∀ p,In n near p->p∉best->ix mv3 p=ix mv1 p:=fun p h hb=>by
  rw [(hm3 p h.1 h.2.1).2 (fun hb'=>hb hb'.1)]
  exact (hp.out p h.1 h.2.1 (hnr p h)).2
 have hown:∀ p,In n W p->ix O p=player->ix mv3 p∈ix N p/\In n W (ix mv3 p):=by
  intro p h ho;have key:ix mv3 p∈ix N p/\ix W (ix mv3 p)=true:=by
   by_cases hb:p∈best
   ·exact (hm3 p h.1 h.2.1).1 ⟨hb,ho⟩
   ·rcases hsplit p h with hn | hr
    ·rw [mvN p hn hb];obtain ⟨g1,g2,_⟩:=(ha.st p hn hb).1 ho;exact ⟨g1,(ha.sub _ g2).2.2⟩
    ·rw [mvR p hr];obtain ⟨g1,g2,_⟩:=hp.own p hr (by rw [hall p hr];exact ho)
     exact ⟨g1,(hRW _ g2).2.2⟩
  have hr:=g.rng p h.1 h.2.1 _ key.1;exact ⟨key.1,hr.1,hr.2,key.2⟩
 refine ⟨hl3,hv3,fun p p0 p1 hpW => ?_,fun p h=>by rw [hW3 p h];exact hplay,fun p h ho => ?_,fun p h ho q hq hWq => ?_,fun p h hpar => ?_⟩
 ·have h1 : ¬ ix R p=true:=fun h=>hpW ((hR p p0 p1).1 h).1
  have h2 : ¬ ix near p=true:=fun h=>hpW (ha.sub p ⟨p0,p1,h⟩).2.2
  have hb:p∉best:=fun h=>hpW ((hbest p).1 h).1.2.2
  obtain ⟨o1,o2⟩:=hp.out p p0 p1 h1;rw [hw3 p p0 p1,if_neg hpW,(hm3 p p0 p1).2 (fun h=>hb h.1),o1,o2]
  exact ⟨rfl,ha.mv' p p0 p1 (.inl h2)⟩
 ·rw [hW3 p h] at ho ⊢;obtain ⟨h1,h2⟩:=hown p h ho;exact ⟨h1,h2,hW3 _ h2⟩
 ·have hr:=g.rng p h.1 h.2.1 q hq;rw [hW3 p h,hW3 q ⟨hr.1,hr.2,hWq⟩]
 ·rw [hW3 p h] at hpar ⊢;intro hcy;have hgt:least < ix M p:=by
   have:=hle p h;rcases Int.lt_or_eq_of_le this with h | h
   ·exact h
   ·rw [<- h] at hpar;exact absurd hlp hpar
  have nb:∀ q,ix M p<=ix M q->q∉best:=fun q hq hb=>by have:=((hbest q).1 hb).2;omega
  have nearer:∀ q r,In n near q->ix M p<=ix M q->Ed N O W mv3 player q r->In n near r/\rk r < rk q:=by
   rintro q r hq hm ⟨e1,e2,e3⟩;have hb:=nb q hm;obtain ⟨s1,s2⟩:=ha.st q hq hb;by_cases c:ix O q=player
   ·rw [e3 c,mvN q hq hb];exact (s1 c).2
   ·exact s2 c r e1 e2
  rcases hsplit p h with hn | hr
  ·have:∀ q,Rch (Ed N O W mv3 player) (fun q=>ix M p<=ix M q) p q->In n near q/\rk q < rk p:=by
    intro q hq
    induction hq with
    | one e=>exact nearer p _ hn (Int.le_refl _) e
    | more _ k e ih=>
     obtain ⟨i1,i2⟩:=ih;obtain ⟨j1,j2⟩:=nearer _ _ i1 k e;exact ⟨j1,by omega⟩
   have:=(this p hcy).2;omega
  ·have step:∀ q r,In n R q->Ed N O W mv3 player q r->In n near r\/(In n R r/\Ed N O R mv2 player q r):=by
    rintro q r hq ⟨e1,e2,e3⟩;have hrr:=g.rng q hq.1 hq.2.1 r e1;rcases hsplit r ⟨hrr.1,hrr.2,e2⟩ with h | h
    ·exact .inl h
    ·exact .inr ⟨h,e1,h.2.2,fun c=>by rw [e3 c,mvR q hq]⟩
   have:∀ q,Rch (Ed N O W mv3 player) (fun q=>ix M p<=ix M q) p q->In n near q\/(In n R q/\Rch (Ed N O R mv2 player) (fun q=>ix M p<=ix M q) p q):=by
    intro q hq
    induction hq with
    | one e=>
     rcases step p _ hr e with h | ⟨h1,h2⟩
     ·exact .inl h
     ·exact .inr ⟨h1,.one h2⟩
    | more _ k e ih=>
     rcases ih with ih | ⟨i1,i2⟩
     ·exact .inl (nearer _ _ ih k e).1
     ·rcases step _ _ i1 e with h | ⟨h1,h2⟩
      ·exact .inl h
      ·exact .inr ⟨h1,.more i2 k h2⟩
   rcases this p hcy with h' | ⟨_,h'⟩
   ·exact hnr p h' hr.2.2
   ·have hw:=hall p hr;exact hp.cyc p hr (by rw [hw];exact hpar) (by rw [hw];exact h')
theorem zxB (g:GG n O M N B) (hplay:player=0\/player=1) (ha:Attr n O N W player best mv0 near mv1 rk) (hR:∀ p:Int,0<=p->p < n->(ix R p=true↔ix W p=true /\ ¬ ix near p=true)) (hp:Post n O M N R win0 mv1 win2 mv2)
  {lost:List Int} (hlost:∀ p,p∈lost↔In n R p /\ ¬ ix win2 p=player) {mv3:List Int} {rk2:Int->Int} (hg:Attr n O N W (1 - player) lost mv2 gone mv3 rk2) {win4 win5 mv5:List Int} {R2:List Bool}
  (hw4:∀ p:Int,0<=p->p < n->ix win4 p=if ix gone p=true then 1 - player else ix win2 p) (hR2:∀ p:Int,0<=p->p < n->(ix R2 p=true↔ix W p=true /\ ¬ ix gone p=true)) (hq:Post n O M N R2 win4 mv3 win5 mv5):Post n O M N W win0 mv0 win5 mv5:=by
 have hRW:∀ p,In n R p->In n W p:=fun p h=>⟨h.1,h.2.1,((hR p h.1 h.2.1).1 h.2.2).1⟩
 have hR2W:∀ p,In n R2 p->In n W p:=fun p h=>⟨h.1,h.2.1,((hR2 p h.1 h.2.1).1 h.2.2).1⟩
 have hgR2:∀ p,In n gone p -> ¬ ix R2 p=true:=fun p hn h=>((hR2 p hn.1 hn.2.1).1 h).2 hn.2.2
 have hsplit:∀ p,In n W p->In n gone p\/In n R2 p:=fun p h=>by
  by_cases c:ix gone p=true
  ·exact .inl ⟨h.1,h.2.1,c⟩
  ·exact .inr ⟨h.1,h.2.1,(hR2 p h.1 h.2.1).2 ⟨h.2.2,c⟩⟩
 have wG:∀ p,In n gone p->ix win5 p=1 - player:=fun p h=>by
  rw [(hq.out p h.1 h.2.1 (hgR2 p h)).1,hw4 p h.1 h.2.1,if_pos h.2.2]
 have mG:∀ p,In n gone p->ix mv5 p=ix mv3 p:=fun p h=>(hq.out p h.1 h.2.1 (hgR2 p h)).2
 have lostR:∀ p,p∈lost->In n R p:=fun p h=>((hlost p).1 h).1
 have lostG:∀ p,p∈lost->In n gone p:=hg.tos;have w2:∀ p,p∈lost->ix win2 p=1 - player:=fun p h=>by
  have h':=(hlost p).1 h;have:=hp.two p h'.1;have:=h'.2;omega
 have ownv:∀ p:Int,0<=p->p < n->(¬ ix O p=player↔ix O p=1 - player):=fun p p0 p1=>by
  have:=g.own p p0 p1;omega
 have mL:∀ p,p∈lost->ix mv5 p=ix mv2 p:=fun p h=>by
  have hG:=lostG p h;rw [mG p hG];exact hg.mv' p hG.1 hG.2.1 (.inr h)
 have stay:∀ p r,p∈lost->Ed N O W mv5 (1 - player) p r->r∈lost/\Ed N O R mv2 (1 - player) p r:=by
  rintro p r h ⟨e1,e2,e3⟩;have hr:=lostR p h;have hrr:=g.rng p hr.1 hr.2.1 r e1;have hRp:=(hR p hr.1 hr.2.1).1 hr.2.2;by_cases c:ix O p=player
  ·-- no way to what is near
   have hnear:=(ha.out p (hRW p hr) hRp.2).1 c r e1;have hRr:In n R r:=⟨hrr.1,hrr.2,(hR r hrr.1 hrr.2).2 ⟨e2,hnear⟩⟩;have hw:=w2 p h;have hwr:=hp.oth p hr (by omega) r e1 hRr.2.2
   refine ⟨(hlost r).2 ⟨hRr,by omega⟩,e1,hRr.2.2,fun c' => ?_⟩
   omega
  ·have c':=(ownv p hr.1 hr.2.1).1 c;have hw:=w2 p h;obtain ⟨s1,s2,s3⟩:=hp.own p hr (by omega)
   have er:r=ix mv2 p:=by rw [e3 c',mL p h]
   rw [er];exact ⟨(hlost _).2 ⟨s2,by omega⟩,s1,s2.2.2,fun _=>rfl⟩
 have nearer:∀ q r,In n gone q->q∉lost->Ed N O W mv5 (1 - player) q r->In n gone r/\rk2 r < rk2 q:=by
  rintro q r hq' hl ⟨e1,e2,e3⟩;obtain ⟨s1,s2⟩:=hg.st q hq' hl;by_cases c:ix O q=1 - player
  ·rw [e3 c,mG q hq'];exact (s1 c).2
  ·exact s2 c r e1 e2
 have goneG:∀ q r,In n gone q->Ed N O W mv5 (1 - player) q r->In n gone r:=fun q r hq' e=>by
  by_cases hl:q∈lost
  ·exact lostG r (stay q r hl e).1
  ·exact (nearer q r hq' hl e).1
 refine ⟨hq.lw,hq.lv,fun p p0 p1 hpW => ?_,fun p h => ?_,fun p h ho => ?_,fun p h ho r hr hWr => ?_,fun p h hpar => ?_⟩
 ·have h1 : ¬ ix R p=true:=fun h=>hpW ((hR p p0 p1).1 h).1
  have h2 : ¬ ix near p=true:=fun h=>hpW (ha.sub p ⟨p0,p1,h⟩).2.2
  have h3 : ¬ ix R2 p=true:=fun h=>hpW ((hR2 p p0 p1).1 h).1
  have h4 : ¬ ix gone p=true:=fun h=>hpW (hg.sub p ⟨p0,p1,h⟩).2.2
  obtain ⟨o1,o2⟩:=hq.out p p0 p1 h3;obtain ⟨o3,o4⟩:=hp.out p p0 p1 h1;rw [o1,o2,hw4 p p0 p1,if_neg h4,o3,hg.mv' p p0 p1 (.inl h4),o4,ha.mv' p p0 p1 (.inl h2)];exact ⟨rfl,rfl⟩
 ·rcases hsplit p h with h | h
  ·rw [wG p h];omega
  ·exact hq.two p h
 ·rcases hsplit p h with hG | h2
  ·rw [wG p hG] at ho ⊢;rw [mG p hG];by_cases hl:p∈lost
   ·have hr:=lostR p hl;have hw:=w2 p hl;obtain ⟨s1,s2,s3⟩:=hp.own p hr (by omega)
    have em:ix mv3 p=ix mv2 p:=hg.mv' p hG.1 hG.2.1 (.inr hl);rw [em];have hl2:ix mv2 p∈lost:=(hlost _).2 ⟨s2,by omega⟩
    exact ⟨s1,hRW _ s2,wG _ (lostG _ hl2)⟩
   ·obtain ⟨s1,s2,_⟩:=(hg.st p hG hl).1 ho;exact ⟨s1,hg.sub _ s2,wG _ s2⟩
  ·obtain ⟨s1,s2,s3⟩:=hq.own p h2 ho;exact ⟨s1,hR2W _ s2,s3⟩
 ·have hrr:=g.rng p h.1 h.2.1 r hr;rcases hsplit p h with hG | h2
  ·rw [wG p hG] at ho ⊢;exact wG r (goneG p r hG ⟨hr,hWr,fun c=>absurd c ho⟩)
  ·by_cases cg:ix gone r=true
   ·-- a way into what is gone
    have hG:In n gone r:=⟨hrr.1,hrr.2,cg⟩;have hp2:=(hR2 p h2.1 h2.2.1).1 h2.2.2;have ho2 : ¬ ix O p=1 - player:=fun c=>(hg.out p h hp2.2).1 c r hr cg
    rw [wG r hG];have:=hq.two p h2;have:=g.own p h.1 h.2.1;omega
   ·exact hq.oth p h2 ho r hr ((hR2 r hrr.1 hrr.2).2 ⟨hWr,cg⟩)
 ·intro hcy;rcases hsplit p h with hG | h2
  ·rw [wG p hG] at hpar hcy;by_cases hl:p∈lost
   ·have:∀ q,Rch (Ed N O W mv5 (1 - player)) (fun q=>ix M p<=ix M q) p q->q∈lost/\Rch (Ed N O R mv2 (1 - player)) (fun q=>ix M p<=ix M q) p q:=by
     intro q hq'
     induction hq' with
     | one e=>
      obtain ⟨a,b⟩:=stay p _ hl e;exact ⟨a,.one b⟩
     | more _ k e ih=>
      obtain ⟨a,b⟩:=stay _ _ ih.1 e;exact ⟨a,.more ih.2 k b⟩
    have hw:=w2 p hl;exact hp.cyc p (lostR p hl) (by rw [hw];exact hpar) (by rw [hw];exact (this p hcy).2)
   ·have:∀ q,Rch (Ed N O W mv5 (1 - player)) (fun q=>ix M p<=ix M q) p q->q∈lost\/(In n gone q/\rk2 q < rk2 p):=by
     intro q hq'
     induction hq' with
     | one e=>exact .inr (nearer p _ hG hl e)
     | @more q r _ k e ih=>
      by_cases hl':q∈lost
      ·exact .inl (stay q r hl' e).1
      ·obtain ⟨i1,i2⟩:=ih.resolve_left hl';obtain ⟨j1,j2⟩:=nearer q r i1 hl' e;exact .inr ⟨j1,by omega⟩
    rcases this p hcy with h' | ⟨_,h'⟩
    ·exact hl h'
    ·omega
  ·have hp2:=(hR2 p h2.1 h2.2.1).1 h2.2.2;have h5:=hq.two p h2;by_cases cw:ix win5 p=player
   ·have:∀ q,Rch (Ed N O W mv5 (ix win5 p)) (fun q=>ix M p<=ix M q) p q->In n R2 q/\ix win5 q=ix win5 p/\Rch (Ed N O R2 mv5 (ix win5 p)) (fun q=>ix M p<=ix M q) p q:=by
     have st:∀ q r,In n R2 q->ix win5 q=ix win5 p->Ed N O W mv5 (ix win5 p) q r->In n R2 r/\ix win5 r=ix win5 p/\Ed N O R2 mv5 (ix win5 p) q r:=by
      rintro q r hq2 hw ⟨e1,e2,e3⟩;have hrr:=g.rng q hq2.1 hq2.2.1 r e1;have hq2':=(hR2 q hq2.1 hq2.2.1).1 hq2.2.2;by_cases c:ix O q=ix win5 p
      ·obtain ⟨s1,s2,s3⟩:=hq.own q hq2 (by rw [hw];exact c)
       have er:=e3 c;rw [er];exact ⟨s2,by rw [s3,hw],s1,s2.2.2,fun _=>rfl⟩
      ·have ho:=g.own q hq2.1 hq2.2.1;have hng : ¬ ix gone r=true:=(hg.out q (hR2W q hq2) hq2'.2).1 (by omega) r e1
       have hr2:In n R2 r:=⟨hrr.1,hrr.2,(hR2 r hrr.1 hrr.2).2 ⟨e2,hng⟩⟩;refine ⟨hr2,?_,e1,hr2.2.2,fun c'=>absurd c' c⟩
       rw [<- hw];exact hq.oth q hq2 (by rw [hw];exact c) r e1 hr2.2.2
     intro q hq'
     induction hq' with
     | one e=>
      obtain ⟨a,b,d⟩:=st p _ h2 rfl e;exact ⟨a,b,.one d⟩
     | more _ k e ih=>
      obtain ⟨a,b,d⟩:=st _ _ ih.1 ih.2.1 e;exact ⟨a,b,.more ih.2.2 k d⟩
    exact hq.cyc p h2 hpar (this p hcy).2.2
   ·have ew:ix win5 p=1 - player:=by omega
    rw [ew] at hcy;have:∀ q,Rch (Ed N O W mv5 (1 - player)) (fun q=>ix M p<=ix M q) p q->In n gone q\/(In n R2 q/\Rch (Ed N O R2 mv5 (1 - player)) (fun q=>ix M p<=ix M q) p q):=by
     have st:∀ q r,In n R2 q->Ed N O W mv5 (1 - player) q r->In n gone r\/(In n R2 r/\Ed N O R2 mv5 (1 - player) q r):=by
      rintro q r hq2 ⟨e1,e2,e3⟩;have hrr:=g.rng q hq2.1 hq2.2.1 r e1;rcases hsplit r ⟨hrr.1,hrr.2,e2⟩ with h | h
      ·exact .inl h
      ·exact .inr ⟨h,e1,h.2.2,e3⟩
     intro q hq'
     induction hq' with
     | one e=>
      rcases st p _ h2 e with h | ⟨a,b⟩
      ·exact .inl h
      ·exact .inr ⟨a,.one b⟩
     | more _ k e ih=>
      rcases ih with ih | ⟨i1,i2⟩
      ·exact .inl (goneG _ _ ih e)
      ·rcases st _ _ i1 e with h | ⟨a,b⟩
       ·exact .inl h
       ·exact .inr ⟨a,.more i2 k b⟩
    rcases this p hcy with h' | ⟨_,h'⟩
    ·exact hgR2 p h' h2.2.2
    ·exact hq.cyc p h2 hpar (by rw [ew];exact h')
end
section
variable {n:Int} {O M:List Int} {N B:List (List Int)} {W:List Bool} {win mv:List Int}
theorem zne {s:List Bool} (hs:s.length<=140737488355328):zhR s=some s:=by
 have hr:G (room ([]:List Bool) s 1) (some (([]:List Bool)++s))=some s:=by
  rw [zad (zxy (by simpa using hs))];rfl
 unfold zhR;refine zw4 (fun h => ?_) (fun h=>hr)
 obtain rfl:s=[]:=List.length_eq_zero_iff.1 h;rw [hr];exact znk (ts:=[(.list .bool)]) (some ([]:List Bool))
theorem zpv {a b:List Bool} (hn:0<=n/\n<=1000000) (ha:(a.length:Int)=n) (hb:(b.length:Int)=n):∃ r,zh0 a b=some r/\(r.length:Int)=n/\∀ p:Int,0<=p->p < n->(ix r p=true↔ix a p=true /\ ¬ ix b p=true):=by
 have key:∀ (m:Nat) (t:Int) (out:List Bool),0<=t->t+m=n->(out.length:Int)=n->(∀ p:Int,0<=p->p < t->(ix out p=true↔ix a p=true /\ ¬ ix b p=true))->
   ∃ r,zg1 a b t out=some r/\(r.length:Int)=n/\∀ p:Int,0<=p->p < n->(ix r p=true↔ix a p=true /\ ¬ ix b p=true):=by
  intro m
  induction m with
  | zero=>
   intro t out t0 ht hl h;refine ⟨out,?_,hl,fun p p0 p1=>h p p0 (by omega)⟩
   rw [zjz];unfold zcL;rw [if_neg (by simp only [decide_eq_true_eq];omega)]
  | succ m ih=>
   intro t out t0 ht hl h;have step:∀ v:Bool,(v=true↔ix a t=true /\ ¬ ix b t=true)->∀ p:Int,0<=p->p < t+1->(ix (out.set t.toNat v) p=true↔ix a p=true /\ ¬ ix b p=true):=by
    intro v hv p p0 p1;by_cases c:t=p
    ·subst c;rw [zbP t0 (by omega)];exact hv
    ·rw [zcp t0 p0 c];exact h p p0 (by omega)
   conv=>arg 1;ext r;arg 1;lhs;rw [zjz];unfold zcL
   rw [if_pos (decide_eq_true (by omega)),zad (by omega)]
   by_cases c:ix a t=true
   ·rw [if_pos c,zad (by omega),zad (by omega),zad (by omega),zad (by unfold fits;omega)]
    exact ih (t+1) _ (by omega) (by omega) (by simpa using hl) (step _ (by simp [c]))
   ·rw [if_neg c,zad (by omega),zad (by omega),zad (by unfold fits;omega)]
    exact ih (t+1) _ (by omega) (by omega) (by simpa using hl) (step _ (by simp [c]))
 obtain ⟨r,e,h⟩:=key n.toNat 0 a (by omega) (by omega) ha (fun p p0 p1=>by omega)
 exact ⟨r,by unfold zh0;exact zaS (zne (by omega)) e,h⟩
abbrev RC:=List Int->List Int->List (List Int)->List (List Int)->List Bool->List Int->List Int->Option (List Int×List Int×List (List Int)×List (List Int)×List Int×List Int×List Bool)
def LI (n:Int) (M:List Int) (W:List Bool) (t least:Int):Prop:=(least = -1/\∀ p,In n W p -> ¬ p < t)\/(0<=least/\(∃ p,In n W p/\ix M p=least)/\∀ p,In n W p->p < t->least<=ix M p)
theorem zwe (g:GG n O M N B) (hW:(W.length:Int)=n) {rc:RC}:∃ least,zat rc O M N B W win mv (-1) 0=zat rc O M N B W win mv least n/\LI n M W n least:=by
 have hn1:=g.n1;have hlm:=g.lm;have key:∀ (m:Nat) (t least:Int),0<=t->t+m=n->LI n M W t least->∃ least',zat rc O M N B W win mv least t=zat rc O M N B W win mv least' n/\LI n M W n least':=by
  intro m
  induction m with
  | zero=>
   intro t least t0 ht h;obtain rfl:t=n:=by omega
   exact ⟨least,rfl,h⟩
  | succ m ih=>
   intro t least t0 ht h;have hm:=g.mrk t t0 (by omega)
   have hgo:∀ l2,LI n M W (t+1) l2->zat rc O M N B W win mv least t=zat rc O M N B W win mv l2 (t+1)->∃ least',zat rc O M N B W win mv least t=zat rc O M N B W win mv least' n/\LI n M W n least':=by
    intro l2 h2 e;obtain ⟨l',e',h'⟩:=ih (t+1) l2 (by omega) (by omega) h2
    exact ⟨l',e.trans e',h'⟩
   have e0:∀ X,zaA rc O M N B W win mv (zat rc O M N B W win mv) least t=X->zat rc O M N B W win mv least t=X:=fun X h=>by rw [zdn];exact h
   by_cases c1:ix W t=true
   ·have hIn:In n W t:=⟨t0,by omega,c1⟩
    have take:(least < 0\/ix M t < least)->LI n M W (t+1) (ix M t):=by
     intro hc;refine .inr ⟨hm,⟨t,hIn,rfl⟩,fun p hp hlt => ?_⟩
     by_cases e:p=t
     ·rw [e];exact Int.le_refl _
     ·rcases h with ⟨h1,h2⟩ | ⟨h1,h2,h3⟩
      ·exact absurd (by omega) (h2 p hp)
      ·have:=h3 p hp (by omega);omega
    by_cases c2:least < 0
    ·refine hgo (ix M t) (take (.inl c2)) (e0 _ ?_)
     unfold zaA;rw [if_pos (decide_eq_true (by omega)),zad (by omega),zad (by omega),if_pos c1,if_pos (decide_eq_true c2),zad (by omega),zad (by unfold fits;omega)]
    ·by_cases c3:ix M t < least
     ·refine hgo (ix M t) (take (.inr c3)) (e0 _ ?_)
      unfold zaA;rw [if_pos (decide_eq_true (by omega)),zad (by omega),zad (by omega),if_pos c1,if_neg (by simpa using c2),zad (by omega),if_pos (decide_eq_true c3),zad (by omega),zad (by unfold fits;omega)]
     ·refine hgo least ?_ (e0 _ ?_)
      ·rcases h with ⟨h1,h2⟩ | ⟨h1,h2,h3⟩
       ·omega
       ·refine .inr ⟨h1,h2,fun p hp hlt => ?_⟩
        by_cases e:p=t
        ·rw [e];omega
        ·exact h3 p hp (by omega)
      ·unfold zaA;rw [if_pos (decide_eq_true (by omega)),zad (by omega),zad (by omega),if_pos c1,if_neg (by simpa using c2),zad (by omega),if_neg (by simpa using c3),zad (by unfold fits;omega)]
   ·have hne:∀ p,In n W p->p < t+1->p < t:=fun p hp hlt=>by
     by_cases e:p=t
     ·rw [e] at hp;exact absurd hp.2.2 c1
     ·omega
    refine hgo least (h.imp (fun h=>⟨h.1,fun p hp hlt=>h.2 p hp (hne p hp hlt)⟩) (fun h=>⟨h.1,h.2.1,fun p hp hlt=>h.2.2 p hp (hne p hp hlt)⟩)) (e0 _ ?_)
    unfold zaA;rw [if_pos (decide_eq_true (by omega)),zad (by omega),zad (by omega),if_neg c1,zad (by unfold fits;omega)]
 exact key n.toNat 0 (-1) (by omega) (by omega) (.inl ⟨rfl,fun p hp=>by unfold In at hp;omega⟩)
structure Lst (P:Int->Prop) (t:Int) (l:List Int):Prop where
 mem:∀ p:Int,p∈l↔0<=p/\p < t/\P p
 nd:l.Nodup
theorem Lst.len {P:Int->Prop} {t:Int} {l:List Int} (h:Lst P t l) (t0:0<=t):(l.length:Int)<=t:=by
 have:=zce (n:=t.toNat) h.nd (fun x hx=>by have:=(h.mem x).1 hx;omega)
 omega
theorem Lst.nil {P:Int->Prop}:Lst P 0 []:=⟨fun p=>⟨fun h=>(by cases h),fun h=>by omega⟩,by simp⟩
theorem Lst.put {P:Int->Prop} {t:Int} {l:List Int} (h:Lst P t l) (t0:0<=t) (hp:P t):Lst P (t+1) (l++[t]):=by
 refine ⟨fun p => ?_,?_⟩
 ·rw [List.mem_append,h.mem,List.mem_singleton];constructor
  ·rintro (⟨h1,h2,h3⟩ | rfl)
   ·exact ⟨h1,by omega,h3⟩
   ·exact ⟨t0,by omega,hp⟩
  ·rintro ⟨h1,h2,h3⟩;by_cases e:p=t
   ·exact .inr e
   ·exact .inl ⟨h1,by omega,h3⟩
 ·rw [List.nodup_append];exact ⟨h.nd,by simp,fun a ha b hb=>by rw [List.mem_singleton] at hb;subst hb;have:=(h.mem a).1 ha;omega⟩
theorem Lst.not {P:Int->Prop} {t:Int} {l:List Int} (h:Lst P t l) (hp : ¬ P t):Lst P (t+1) l:=by
 refine ⟨fun p => ?_,h.nd⟩
 rw [h.mem];constructor
 ·rintro ⟨h1,h2,h3⟩;exact ⟨h1,by omega,h3⟩
 ·rintro ⟨h1,h2,h3⟩;by_cases e:p=t
  ·rw [e] at h3;exact absurd h3 hp
  ·exact ⟨h1,by omega,h3⟩
theorem zxK (g:GG n O M N B) (hW:(W.length:Int)=n) {rc:RC} {least:Int}:∃ best,zaH rc O M N B W win mv least 0 []=zaH rc O M N B W win mv least n best/\Lst (fun p=>ix W p=true/\ix M p=least) n best:=by
 have hn1:=g.n1;have hlm:=g.lm;have key:∀ (m:Nat) (t:Int) (l:List Int),0<=t->t+m=n->Lst (fun p=>ix W p=true/\ix M p=least) t l->∃ best,zaH rc O M N B W win mv least t l=zaH rc O M N B W win mv least n best/\Lst (fun p=>ix W p=true/\ix M p=least) n best:=by
  intro m
  induction m with
  | zero=>
   intro t l t0 ht h;obtain rfl:t=n:=by omega
   exact ⟨l,rfl,h⟩
  | succ m ih=>
   intro t l t0 ht h;have hll:=h.len t0;have hJ:∀ b:Bool,zbZ t l (zaH rc O M N B W win mv least) b=zaH rc O M N B W win mv least (t+1) (if b=true then l++[t] else l):=by
    intro b;unfold zbZ
    cases b with
    | true=>rw [if_pos rfl,if_pos rfl,zad (by unfold room;simp;omega),zad (by unfold fits;omega)]
    | false=>rw [if_neg (by decide),if_neg (by decide),zad (by unfold fits;omega)]
   conv=>arg 1;ext best;arg 1;lhs;rw [zgw];unfold zbF
   rw [if_pos (decide_eq_true (by omega)),zad (by omega),zad (by omega)]
   by_cases c1:ix W t=true
   ·rw [if_pos c1,zad (by omega),hJ]
    by_cases c2:ix M t=least
    ·rw [if_pos (decide_eq_true c2)];exact ih (t+1) _ (by omega) (by omega) (h.put t0 ⟨c1,c2⟩)
    ·rw [if_neg (by simpa using c2)]
     exact ih (t+1) _ (by omega) (by omega) (h.not (fun h=>c2 h.2))
   ·rw [if_neg c1,hJ,if_neg (by decide)]
    exact ih (t+1) _ (by omega) (by omega) (h.not (fun h=>c1 h.1))
 exact key n.toNat 0 [] (by omega) (by omega) Lst.nil
theorem zwd (hn1:0<=n/\n<=1000000) {R:List Bool} (hR:(R.length:Int)=n) {win2 mv2 best:List Int} (hw:(win2.length:Int)=n) {rc:RC} {least:Int}:∃ lost,zaC rc least best W O M N B win2 mv2 R 0 []=zaC rc least best W O M N B win2 mv2 R n lost/\Lst (fun p=>ix R p=true /\ ¬ ix win2 p=Int.tmod least 2) n lost:=by
 have key:∀ (m:Nat) (t:Int) (l:List Int),0<=t->t+m=n->Lst (fun p=>ix R p=true /\ ¬ ix win2 p=Int.tmod least 2) t l->∃ lost,zaC rc least best W O M N B win2 mv2 R t l=zaC rc least best W O M N B win2 mv2 R n lost/\Lst (fun p=>ix R p=true /\ ¬ ix win2 p=Int.tmod least 2) n lost:=by
  intro m
  induction m with
  | zero=>
   intro t l t0 ht h;obtain rfl:t=n:=by omega
   exact ⟨l,rfl,h⟩
  | succ m ih=>
   intro t l t0 ht h;have hll:=h.len t0;have hJ:∀ b:Bool,zb0 t l (zaC rc least best W O M N B win2 mv2 R) b=zaC rc least best W O M N B win2 mv2 R (t+1) (if b=true then l++[t] else l):=by
    intro b;unfold zb0
    cases b with
    | true=>rw [if_pos rfl,if_pos rfl,zad (by unfold room;simp;omega),zad (by unfold fits;omega)]
    | false=>rw [if_neg (by decide),if_neg (by decide),zad (by unfold fits;omega)]
   conv=>arg 1;ext best;arg 1;lhs;rw [zel];unfold zbn
   rw [if_pos (decide_eq_true (by omega)),zad (by omega),zad (by omega)]
   by_cases c1:ix R t=true
   ·rw [if_pos c1,zad (by omega),zad (by omega),hJ]
    by_cases c2:ix win2 t=Int.tmod least 2
    ·rw [if_neg (by simpa using c2)]
     exact ih (t+1) _ (by omega) (by omega) (h.not (fun h=>h.2 c2))
    ·rw [if_pos (decide_eq_true c2)];exact ih (t+1) _ (by omega) (by omega) (h.put t0 ⟨c1,c2⟩)
   ·rw [if_neg c1,hJ,if_neg (by decide)]
    exact ih (t+1) _ (by omega) (by omega) (h.not (fun h=>c1 h.1))
 exact key n.toNat 0 [] (by omega) (by omega) Lst.nil
theorem ztP {S:List Bool} {v:Int} {w0 w:List Int} {t:Int} (t0:0<=t) (ht:t < w.length) (h:∀ p:Int,0<=p->ix w p=if ix S p=true/\p < t then v else ix w0 p):
  ∀ p:Int,0<=p->ix (if ix S t=true then w.set t.toNat v else w) p=if ix S p=true/\p < t+1 then v else ix w0 p:=by
 intro p p0;by_cases e:t=p
 ·subst e;by_cases c:ix S t=true
  ·rw [if_pos c,zbP t0 ht,if_pos ⟨c,by omega⟩]
  ·rw [if_neg c,h t p0,if_neg (fun h=>c h.1),if_neg (fun h=>c h.1)]
 ·have e1:ix (if ix S t=true then w.set t.toNat v else w) p=ix w p:=by
   split
   ·exact zcp t0 p0 e
   ·rfl
  rw [e1,h p p0];by_cases c:ix S p=true/\p < t
  ·rw [if_pos c,if_pos ⟨c.1,by omega⟩]
  ·rw [if_neg c,if_neg (fun h=>c ⟨h.1,by omega⟩)]
theorem zxN (hn1:0<=n/\n<=1000000) (hW:(W.length:Int)=n) {win2 mv2 best:List Int} (hw:(win2.length:Int)=n) {least:Int}:∃ win3,zcX least best W 0 O M N B win2 mv2=zb1 least best W 0 O M N B win3 mv2/\(win3.length:Int)=n/\∀ p:Int,0<=p->p < n->ix win3 p=if ix W p=true then Int.tmod least 2 else ix win2 p:=by
 have key:∀ (m:Nat) (t:Int) (w:List Int),0<=t->t+m=n->(w.length:Int)=n->(∀ p:Int,0<=p->ix w p=if ix W p=true/\p < t then Int.tmod least 2 else ix win2 p)->
   ∃ win3,zcX least best W t O M N B w mv2=zb1 least best W 0 O M N B win3 mv2/\(win3.length:Int)=n/\∀ p:Int,0<=p->p < n->ix win3 p=if ix W p=true then Int.tmod least 2 else ix win2 p:=by
  intro m
  induction m with
  | zero=>
   intro t w t0 ht hl h;refine ⟨w,?_,hl,fun p p0 p1 => ?_⟩
   ·rw [zgx];unfold zbG;rw [if_neg (by simp only [decide_eq_true_eq];omega)]
   ·rw [h p p0];by_cases c:ix W p=true
    ·rw [if_pos ⟨c,by omega⟩,if_pos c]
    ·rw [if_neg (fun h=>c h.1),if_neg c]
  | succ m ih=>
   intro t w t0 ht hl h;have h':=ztP (v:=Int.tmod least 2) t0 (by omega:t < w.length) h
   have ih':=ih (t+1) _ (by omega) (by omega) (by split<;>simpa using hl) h'
   conv=>arg 1;ext win3;arg 1;lhs;rw [zgx];unfold zbG
   rw [if_pos (decide_eq_true (by omega)),zad (by omega),zad (by omega)]
   by_cases c:ix W t=true
   ·rw [if_pos c] at ih' ⊢;rw [zad (by omega),zad (by omega),zad (by unfold fits;omega)]
    exact ih'
   ·rw [if_neg c] at ih' ⊢;rw [zad (by unfold fits;omega)]
    exact ih'
 exact key n.toNat 0 win2 (by omega) (by omega) hw (fun p p0=>by rw [if_neg (by omega)])
theorem zxP (hn1:0<=n/\n<=1000000) {gone:List Bool} (hG:(gone.length:Int)=n) {win2 mv3:List Int} (hw:(win2.length:Int)=n) {rc:RC} {least:Int} (hp:Int.tmod least 2=0\/Int.tmod least 2=1):∃ win4,za6 rc least gone W 0 O M N B win2 mv3=za6 rc least gone W n O M N B win4 mv3/\(win4.length:Int)=n/\∀ p:Int,0<=p->p < n->ix win4 p=if ix gone p=true then 1 - Int.tmod least 2 else ix win2 p:=by
 have key:∀ (m:Nat) (t:Int) (w:List Int),0<=t->t+m=n->(w.length:Int)=n->(∀ p:Int,0<=p->ix w p=if ix gone p=true/\p < t then 1 - Int.tmod least 2 else ix win2 p)->
   ∃ win4,za6 rc least gone W t O M N B w mv3=za6 rc least gone W n O M N B win4 mv3/\(win4.length:Int)=n/\∀ p:Int,0<=p->p < n->ix win4 p=if ix gone p=true then 1 - Int.tmod least 2 else ix win2 p:=by
  intro m
  induction m with
  | zero=>
   intro t w t0 ht hl h;obtain rfl:t=n:=by omega
   refine ⟨w,rfl,hl,fun p p0 p1 => ?_⟩
   rw [h p p0];by_cases c:ix gone p=true
   ·rw [if_pos ⟨c,by omega⟩,if_pos c]
   ·rw [if_neg (fun h=>c h.1),if_neg c]
  | succ m ih=>
   intro t w t0 ht hl h;have h':=ztP (v:=1 - Int.tmod least 2) t0 (by omega:t < w.length) h
   have ih':=ih (t+1) _ (by omega) (by omega) (by split<;>simpa using hl) h'
   conv=>arg 1;ext win4;arg 1;lhs;rw [zgz];unfold zbI
   rw [if_pos (decide_eq_true (by omega)),zad (by omega),zad (by omega)]
   by_cases c:ix gone t=true
   ·rw [if_pos c] at ih' ⊢;rw [zad (by unfold fits;omega),zad (by omega),zad (by omega),zad (by unfold fits;omega)]
    exact ih'
   ·rw [if_neg c] at ih' ⊢;rw [zad (by unfold fits;omega)]
    exact ih'
 exact key n.toNat 0 win2 (by omega) (by omega) hw (fun p p0=>by rw [if_neg (by omega)])
theorem zvL (hW:(W.length:Int)=n) {l:List Int} (hl:l.length<=4611686018427387904) (hr:∀ q∈l,0<=q/\q < n) (hex:∃ q∈l,ix W q=true):∃ i,zhe l W=some i/\0<=i/\i < l.length/\ix W (ix l i)=true:=by
 obtain ⟨i,e,h⟩:=zrD (f:=fun q=>zeF q W) (P:=fun q=>ix W q=true) hl (fun t=>zkx l W t) (fun q hq=>by
  have:=hr q hq;unfold zeF;rw [zad (by omega)]
  exact ⟨_,rfl,Iff.rfl⟩) _ 0 (by omega) (by omega) rfl
 refine ⟨i,e,?_⟩
 rcases h with ⟨_,h⟩ | ⟨h1,h2,h3,_⟩
 ·obtain ⟨k,k0,k1,k2⟩:=(zut (P:=fun q=>ix W q=true)).1 hex
  exact absurd k2 (h k k0 k1)
 ·exact ⟨h1,h2,h3⟩
theorem zxO (g:GG n O M N B) (hW:(W.length:Int)=n) (hc:zsX n N W) {win3 mv2 best:List Int} (hv:(mv2.length:Int)=n) (hb:∀ p∈best,In n W p) (hnd:best.Nodup) {least:Int}:∃ mv3,zb1 least best W 0 O M N B win3 mv2=some (O,M,N,B,win3,mv3,W)/\(mv3.length:Int)=n/\
  ∀ p:Int,0<=p->p < n->(p∈best/\ix O p=Int.tmod least 2->ix mv3 p∈ix N p/\ix W (ix mv3 p)=true)/\(¬ (p∈best/\ix O p=Int.tmod least 2)->ix mv3 p=ix mv2 p):=by
 have hn1:=g.n1;have hlo:=g.lo;have hln:=g.ln;have hbl:=zce (n:=n.toNat) hnd (fun y hy=>by have:=hb y hy;unfold In at this;omega)
 have key:∀ (m:Nat) (t:Int) (w:List Int),0<=t->t+m=best.length->(w.length:Int)=n->(∀ p:Int,0<=p->p < n->(p∈best.take t.toNat/\ix O p=Int.tmod least 2->ix w p∈ix N p/\ix W (ix w p)=true)/\(¬ (p∈best.take t.toNat/\ix O p=Int.tmod least 2)->ix w p=ix mv2 p))->
   ∃ mv3,zb1 least best W t O M N B win3 w=some (O,M,N,B,win3,mv3,W)/\(mv3.length:Int)=n/\∀ p:Int,0<=p->p < n->(p∈best/\ix O p=Int.tmod least 2->ix mv3 p∈ix N p/\ix W (ix mv3 p)=true)/\(¬ (p∈best/\ix O p=Int.tmod least 2)->ix mv3 p=ix mv2 p):=by
  intro m
  induction m with
  | zero=>
   intro t w t0 ht hl h;refine ⟨w,?_,hl,?_⟩
   ·rw [zgy];unfold zbH;rw [if_neg (by simp only [decide_eq_true_eq];omega)]
   ·rw [List.take_of_length_le (by omega)] at h;exact h
  | succ m ih=>
   intro t w t0 ht hl h;obtain ⟨b,eb⟩:∃ b,ix best t=b:=⟨_,rfl⟩;have hIn:=hb _ (zg4 t0 (by omega:t < best.length))
   rw [eb] at hIn;have hbr:0<=b/\b < n:=⟨hIn.1,hIn.2.1⟩;have htk:∀ p,p∈best.take (t+1).toNat↔p∈best.take t.toNat\/p=b:=fun p=>by rw [ziQ t0 (by omega),eb]
   conv=>arg 1;ext mv3;arg 1;lhs;rw [zgy];unfold zbH
   rw [eb,if_pos (decide_eq_true (by omega)),zad (by omega),zad (by omega),zad (by omega)]
   by_cases c:ix O b=Int.tmod least 2
   ·rw [if_pos (decide_eq_true c),zad (by omega),zad (by omega)]
    have hbl2:=g.nlen hbr.1 hbr.2;obtain ⟨i,e,i0,i1,hi⟩:=zvL (l:=ix N b) hW (by omega) (g.rng b hbr.1 hbr.2) (hc b hIn)
    rw [e];have ih':=ih (t+1) (w.set b.toNat (ix (ix N b) i)) (by omega) (by omega) (by simpa using hl) (fun p p0 p1=>by
     rw [htk];by_cases ep:b=p
     ·subst ep;rw [zbP p0 (by omega)]
      exact ⟨fun _=>⟨zg4 i0 i1,hi⟩,fun hn=>absurd ⟨.inr rfl,c⟩ hn⟩
     ·rw [zcp hbr.1 p0 ep];refine ⟨fun ⟨h1,h2⟩=>(h p p0 p1).1 ⟨h1.elim id (fun e=>absurd e.symm ep),h2⟩,fun hn=>(h p p0 p1).2 (fun ⟨h1,h2⟩=>hn ⟨.inl h1,h2⟩)⟩)
    rw [show ∀ (f:Int->Option (List Int×List Int×List (List Int)×List (List Int)×List Int×List Int×List Bool)),(some i).bind f=f i from fun _=>rfl,zad (by omega),zad (by omega),zad (by omega),zad (by unfold fits;omega)]
    exact ih'
   ·rw [if_neg (by simpa using c),zad (by unfold fits;omega)]
    refine ih (t+1) w (by omega) (by omega) hl (fun p p0 p1 => ?_)
    rw [htk];refine ⟨fun ⟨h1,h2⟩=>(h p p0 p1).1 ⟨h1.elim id (fun e=>absurd (e ▸ h2) c),h2⟩,fun hn=>(h p p0 p1).2 (fun ⟨h1,h2⟩=>hn ⟨.inl h1,h2⟩)⟩
 exact key best.length 0 mv2 (by omega) (by omega) hv (fun p _ _=>⟨fun h=>(by simp at h),fun _=>rfl⟩)
def card (W:List Bool):Nat->Nat
 | 0=>0
 | k+1=>card W k+(if ix W (k:Int)=true then 1 else 0)
theorem zwn {W R:List Bool}:∀ k:Nat,(∀ p:Int,0<=p->p < k->ix R p=true->ix W p=true)->card R k<=card W k
 | 0,_=>Nat.le_refl _
 | k+1,h=>by
  have:=zwn k (fun p p0 p1=>h p p0 (by omega))
  unfold card;by_cases c:ix R (k:Int)=true
  ·rw [if_pos c,if_pos (h k (by omega) (by omega) c)];omega
  ·rw [if_neg c];split<;>omega
theorem zr6 {W R:List Bool} {x:Int} (x0:0<=x) (hx:ix W x=true) (hx2 : ¬ ix R x=true):∀ k:Nat,x < k->(∀ p:Int,0<=p->p < k->ix R p=true->ix W p=true)->card R k < card W k
 | 0,hk,_=>by omega
 | k+1,hk,h=>by
  unfold card;by_cases e:x=k
  ·have:=zwn (W:=W) (R:=R) k (fun p p0 p1=>h p p0 (by omega))
   rw [<- e,if_pos hx,if_neg hx2];omega
  ·have:=zr6 x0 hx hx2 k (by omega) (fun p p0 p1=>h p p0 (by omega))
   by_cases c:ix R (k:Int)=true
   ·rw [if_pos c,if_pos (h k (by omega) (by omega) c)];omega
   ·rw [if_neg c];split<;>omega
theorem tmod2 {x:Int} (h:0<=x):Int.tmod x 2=0\/Int.tmod x 2=1:=by
 rw [Int.tmod_eq_emod_of_nonneg h];omega
theorem zv6 (g:GG n O M N B):∀ (m:Nat) (W:List Bool) (win mv:List Int),card W n.toNat<=m->(W.length:Int)=n->zsX n N W->(win.length:Int)=n->(mv.length:Int)=n->
  ∃ win' mv',zbz O M N B W win mv=some (O,M,N,B,win',mv',W)/\Post n O M N W win mv win' mv':=by
 have hn1:=g.n1;intro m
 induction m with
 | zero=>
  intro W win mv hm hW hc hw hv;obtain ⟨least,e3,hL⟩:=zwe g hW (win:=win) (mv:=mv) (rc:=zbz);rcases hL with ⟨h1,h2⟩ | ⟨h1,⟨p,hp,_⟩,h3⟩
  ·have hno:∀ p,¬ In n W p:=fun p hp=>h2 p hp hp.2.1
   refine ⟨win,mv,?_,hw,hv,fun p _ _ _=>⟨rfl,rfl⟩,fun p h=>absurd h (hno p),fun p h=>absurd h (hno p),fun p h=>absurd h (hno p),fun p h=>absurd h (hno p)⟩
   rw [zfV];unfold zbY;rw [e3,zdn];unfold zaA;rw [if_neg (by simp only [decide_eq_true_eq];omega),if_pos (decide_eq_true (by omega))]
  ·have hpb:=hp.2.1;have:=zr6 (W:=W) (R:=[]) hp.1 hp.2.2 (by simp [ix]) n.toNat (by omega) (fun q _ _ h=>by simp [ix] at h)
   omega
 | succ m ih=>
  intro W win mv hm hW hc hw hv;obtain ⟨least,e3,hL⟩:=zwe g hW (win:=win) (mv:=mv) (rc:=zbz);rcases hL with ⟨h1,h2⟩ | ⟨h1,⟨p,hp,hpm⟩,h3⟩
  ·have hno:∀ p,¬ In n W p:=fun p hp=>h2 p hp hp.2.1
   refine ⟨win,mv,?_,hw,hv,fun p _ _ _=>⟨rfl,rfl⟩,fun p h=>absurd h (hno p),fun p h=>absurd h (hno p),fun p h=>absurd h (hno p),fun p h=>absurd h (hno p)⟩
   rw [zfV];unfold zbY;rw [e3,zdn];unfold zaA;rw [if_neg (by simp only [decide_eq_true_eq];omega),if_pos (decide_eq_true (by omega))]
  ·have hplay:=tmod2 h1;obtain ⟨best,e12,hb⟩:=zxK g hW (win:=win) (mv:=mv) (rc:=zbz) (least:=least);have hbest:∀ p,p∈best↔In n W p/\ix M p=least:=fun p=>(hb.mem p).trans ⟨fun ⟨a,b,c,d⟩=>⟨⟨a,b,c⟩,d⟩,fun ⟨⟨a,b,c⟩,d⟩=>⟨a,b,c,d⟩⟩
   obtain ⟨near,mv1,rk,eA,hA⟩:=zmD (player:=Int.tmod least 2) (to:=best) g hW hw hv (fun p hp=>((hbest p).1 hp).1) hb.nd hc
   obtain ⟨R,eR,hRl,hR⟩:=zpv hn1 hW hA.li;have hRc:=zqa g hc hA hR;have hpbest:p∈best:=(hbest p).2 ⟨hp,hpm⟩;have hpb:=hp.2.1;have hcard:card R n.toNat < card W n.toNat:=zr6 hp.1 hp.2.2 (fun h=>((hR p hp.1 hp.2.1).1 h).2 (hA.tos p hpbest).2.2) n.toNat (by omega) (fun q q0 q1 h=>((hR q q0 (by omega)).1 h).1)
   obtain ⟨win2,mv2,eS,hP⟩:=ih R win mv1 (by omega) hRl hRc hw hA.lv
   obtain ⟨lost,e22,hl⟩:=zwd (W:=W) (O:=O) (M:=M) (N:=N) (B:=B) hn1 hRl (win2:=win2) (mv2:=mv2) (best:=best) hP.lw (rc:=zbz) (least:=least);have hlost:∀ p,p∈lost↔In n R p /\ ¬ ix win2 p=Int.tmod least 2:=fun p=>(hl.mem p).trans ⟨fun ⟨a,b,c,d⟩=>⟨⟨a,b,c⟩,d⟩,fun ⟨⟨a,b,c⟩,d⟩=>⟨a,b,c,d⟩⟩
   have start:∀ X,zaC zbz least best W O M N B win2 mv2 R n lost=X->zbz O M N B W win mv=X:=by
    intro X hX;rw [zfV];unfold zbY;rw [e3,zdn];unfold zaA;rw [if_neg (by simp only [decide_eq_true_eq];omega),if_neg (by simp only [decide_eq_true_eq];omega),zad (by omega),e12,zgw];unfold zbF
    rw [if_neg (by simp only [decide_eq_true_eq];omega)]
    refine zaS eA (zaS eR (zaS eS ?_))
    exact e22.trans hX
   by_cases c:lost=[]
   ·obtain ⟨win3,e29,hw3l,hw3⟩:=zxN (W:=W) (O:=O) (M:=M) (N:=N) (B:=B) hn1 hW (win2:=win2) (mv2:=mv2) (best:=best) hP.lw (least:=least);obtain ⟨mv3,e35,hm3l,hm3⟩:=zxO g hW hc (win3:=win3) (best:=best) hP.lv (fun p hp=>((hbest p).1 hp).1) hb.nd (least:=least)
    refine ⟨win3,mv3,start _ ?_,zyJ g hplay rfl (fun q hq=>h3 q hq hq.2.1) hbest hA hR hP (fun q hq => ?_) hw3l hm3l hw3 hm3⟩
    ·rw [zel];unfold zbn;rw [if_neg (by simp only [decide_eq_true_eq];omega),if_pos (by simp [c]),e29,e35]
    ·refine Classical.byContradiction fun hn => ?_
     have:=(hlost q).2 ⟨hq,hn⟩;rw [c] at this;cases this
   ·have hlr:∀ q∈lost,In n W q:=fun q hq=>by have h:=((hlost q).1 hq).1;exact ⟨h.1,h.2.1,((hR q h.1 h.2.1).1 h.2.2).1⟩
    obtain ⟨gone,mv3,rk2,eG,hG⟩:=zmD (player:=1 - Int.tmod least 2) (to:=lost) g hW hP.lw hP.lv hlr hl.nd hc;obtain ⟨win4,e42,hw4l,hw4⟩:=zxP (W:=W) (O:=O) (M:=M) (N:=N) (B:=B) hn1 hG.li (win2:=win2) (mv3:=mv3) hP.lw (rc:=zbz) hplay;obtain ⟨R2,eR2,hR2l,hR2⟩:=zpv hn1 hW hG.li;have hR2c:=zqa g hc hG hR2;obtain ⟨x,hx⟩:=List.exists_mem_of_length_pos ((List.length_pos_iff.2 c));have hxW:=hlr x hx;have hxb:=hxW.2.1;have hcard2:card R2 n.toNat < card W n.toNat:=zr6 hxW.1 hxW.2.2 (fun h=>((hR2 x hxW.1 hxW.2.1).1 h).2 (hG.tos x hx).2.2) n.toNat (by omega) (fun q q0 q1 h=>((hR2 q q0 (by omega)).1 h).1)
    obtain ⟨win5,mv5,eS2,hQ⟩:=ih R2 win4 mv3 (by omega) hR2l hR2c hw4l hG.lv
    have hpos:=(List.length_pos_iff.2 c);refine ⟨win5,mv5,start _ ?_,zxB g hplay hA hR hP hlost hG hw4 hR2 hQ⟩
    rw [zel];unfold zbn;rw [if_neg (by simp only [decide_eq_true_eq];omega),if_neg (by simp only [decide_eq_true_eq];omega),zad (by unfold fits;omega)]
    refine zaS eG ?_
    refine e42.trans ?_
    have hgl:=hG.li;rw [zgz];unfold zbI;rw [if_neg (by simp only [decide_eq_true_eq];omega)]
    refine zaS eR2 (zaS eS2 rfl)
end
abbrev GM:=List Int×List Int×List (List Int)×Unit
structure GOk (g:GM):Prop where
 n:1<=g.1.length/\g.1.length<=100
 lm:g.2.1.length=g.1.length
 ln:g.2.2.1.length=g.1.length
 own:∀ p:Int,0<=p->p < g.1.length->ix g.1 p=0\/ix g.1 p=1
 mrk:∀ p:Int,0<=p->p < g.1.length->0<=ix g.2.1 p/\ix g.2.1 p<=9
 ne:∀ p:Int,0<=p->p < g.1.length->0 < (ix g.2.2.1 p).length
 rng:∀ p:Int,0<=p->p < g.1.length->∀ q∈ix g.2.2.1 p,0<=q/\q < g.1.length
 inc:∀ p:Int,0<=p->p < g.1.length->∀ k:Int,1<=k->k < (ix g.2.2.1 p).length->ix (ix g.2.2.1 p) (k - 1) < ix (ix g.2.2.1 p) k
section
variable {g:GM}
structure Won (g:GM) (win mv:List Int):Prop where
 lw:win.length=g.1.length
 lv:mv.length=g.1.length
 two:∀ p:Int,0<=p->p < g.1.length->ix win p=0\/ix win p=1
 own:∀ p:Int,0<=p->p < g.1.length->ix g.1 p=ix win p->ix mv p∈ix g.2.2.1 p/\ix win (ix mv p)=ix win p
 oth:∀ p:Int,0<=p->p < g.1.length -> ¬ ix g.1 p=ix win p->ix mv p = -1/\∀ q∈ix g.2.2.1 p,ix win q=ix win p
 cyc:∀ p:Int,0<=p->p < g.1.length -> ¬ Int.tmod (ix g.2.1 p) 2=ix win p -> ¬ Rch (fun a b=>b∈ix g.2.2.1 a/\(ix g.1 a=ix win p->b=ix mv a)) (fun b=>ix g.2.1 p<=ix g.2.1 b) p p
theorem zyx {l:List Int} (h:∀ k:Int,1<=k->k < l.length->ix l (k - 1) < ix l k):∀ (m:Nat) (i:Int),0<=i->i+(m+1) < l.length->ix l i < ix l (i+(m+1))
 | 0,i,i0,i1=>by
  have:=h (i+1) (by omega) (by omega)
  rw [show i+1 - 1=i by omega] at this
  exact this
 | m+1,i,i0,i1=>by
  have h1:=zyx h m i i0 (by omega)
  have h2:=h (i+((m+1:Nat)+1)) (by omega) (by omega)
  rw [show i+((m+1:Nat)+1) - 1=i+(m+1) by omega] at h2
  have e:i+(((m+1:Nat):Int)+1)=i+((m+1:Nat)+1):=rfl;omega
theorem zqx {l:List Int} (h:∀ k:Int,1<=k->k < l.length->ix l (k - 1) < ix l k):l.Nodup:=by
 rw [List.nodup_iff_pairwise_ne,List.pairwise_iff_getElem];intro i j hi hj hij;have:=zyx h (j - i - 1) (i:Int) (by omega) (by omega)
 rw [show (i:Int)+(((j - i - 1:Nat):Int)+1)=(j:Int) by omega] at this
 have e1:=znL (l:=l) (i:=(i:Int)) (by omega) (by omega)
 have e2:=znL (l:=l) (i:=(j:Int)) (by omega) (by omega)
 have e1:ix l (i:Int)=l[i]:=e1;have e2:ix l (j:Int)=l[j]:=e2;omega
structure BI (g:GM) (t k:Int) (B:List (List Int)):Prop where
 l:B.length=g.1.length
 mem:∀ p q:Int,0<=q->q < g.1.length->(p∈ix B q↔(0<=p/\p < t/\q∈ix g.2.2.1 p)\/(p=t/\q∈(ix g.2.2.1 t).take k.toNat))
 nd:∀ q:Int,0<=q->q < g.1.length->(ix B q).Nodup
theorem BI.blen {t k:Int} {B:List (List Int)} (h:BI g t k B) (ht:t < g.1.length) {q:Int} (q0:0<=q) (q1:q < g.1.length) {t0:0<=t}:(ix B q).length<=g.1.length:=
 zce (h.nd q q0 q1) (fun p hp=>by rcases (h.mem p q q0 q1).1 hp with ⟨a,b,_⟩ | ⟨rfl,_⟩<;>omega)
theorem zvq {α:Type} [Inhabited α] {k:Nat} {x:α} {p:Int} (p0:0<=p) (p1:p < k):ix (List.replicate k x) p=x:=by
 rw [znL p0 (by rw [List.length_replicate];exact p1),List.getElem_replicate]
theorem zwh (ok:GOk g) {t:Int} (t0:0<=t) (t1:t < g.1.length) {all:List Bool} {win mv:List Int} {r5:Int->List Int->List Int->List (List Int)->List Bool->List (List Int)->List Int->List Int->Option (List Int×List Int×Unit)}:∀ (m:Nat) (k:Int) (B:List (List Int)),0<=k->k+m=(ix g.2.2.1 t).length->BI g t k B->
  ∃ B',zcS g.2.2.1 t all r5 k g.1 g.2.1 g.2.2.1 B win mv=r5 (t+1) g.1 g.2.1 g.2.2.1 (all.set t.toNat true) B' win mv/\BI g (t+1) 0 B':=by
 have hn:=ok.n;have hrl:(ix g.2.2.1 t).length<=g.1.length:=zce (zqx (ok.inc t t0 t1)) (ok.rng t t0 t1);intro m
 induction m with
 | zero=>
  intro k B k0 hk h;refine ⟨B,?_,h.l,fun p q q0 q1 => ?_,h.nd⟩
  ·rw [zkd];unfold zde;rw [if_neg (by simp only [decide_eq_true_eq];omega),zad (by unfold fits;omega)]
  ·rw [h.mem p q q0 q1,List.take_of_length_le (by omega)]
   constructor
   ·rintro (⟨a,b,c⟩ | ⟨rfl,c⟩)
    ·exact .inl ⟨a,by omega,c⟩
    ·exact .inl ⟨t0,by omega,c⟩
   ·rintro (⟨a,b,c⟩ | ⟨_,c⟩)
    ·by_cases e:p=t
     ·subst e;exact .inr ⟨rfl,c⟩
     ·exact .inl ⟨a,by omega,c⟩
    ·simp at c
 | succ m ih=>
  intro k B k0 hk h;obtain ⟨q,eq⟩:∃ q,ix (ix g.2.2.1 t) k=q:=⟨_,rfl⟩;have hr:=ok.rng t t0 t1 _ (zg4 k0 (by omega:k < (ix g.2.2.1 t).length))
  rw [eq] at hr;have hl:=h.l;have hbl:=h.blen t1 hr.1 hr.2 (t0:=t0);have hnt:q∉(ix g.2.2.1 t).take k.toNat:=eq ▸ zpu (zqx (ok.inc t t0 t1)) k0 (by omega)
  have hB:BI g t (k+1) (B.set q.toNat (ix B q++[t])):=by
   refine ⟨by simpa using hl,fun p r r0 r1 => ?_,fun r r0 r1 => ?_⟩
   ·rw [ziQ k0 (by omega),eq]
    by_cases e:q=r
    ·subst e;rw [zbP r0 (by omega),List.mem_append,List.mem_singleton,h.mem p q r0 r1]
     constructor
     ·rintro ((a | ⟨a,b⟩) | a)
      ·exact .inl a
      ·exact .inr ⟨a,.inl b⟩
      ·exact .inr ⟨a,.inr rfl⟩
     ·rintro (a | ⟨a,_⟩)
      ·exact .inl (.inl a)
      ·exact .inr a
    ·rw [zcp hr.1 r0 e,h.mem p r r0 r1];refine or_congr Iff.rfl (and_congr Iff.rfl ⟨.inl,fun h=>h.elim id (fun h=>absurd h.symm e)⟩)
   ·by_cases e:q=r
    ·subst e;rw [zbP r0 (by omega),List.nodup_append]
     refine ⟨h.nd q r0 r1,by simp,fun a ha b hb => ?_⟩
     rw [List.mem_singleton] at hb;subst hb;rcases (h.mem a q r0 r1).1 ha with ⟨_,c,_⟩ | ⟨_,c⟩
     ·omega
     ·exact absurd c hnt
    ·rw [zcp hr.1 r0 e];exact h.nd r r0 r1
  obtain ⟨B',e,h'⟩:=ih (k+1) _ (by omega) (by omega) hB
  refine ⟨B',?_,h'⟩
  rw [<- e];have hJ:∀ b,zdx k (zcS g.2.2.1 t all r5) g.1 g.2.1 g.2.2.1 b win mv=zcS g.2.2.1 t all r5 (k+1) g.1 g.2.1 g.2.2.1 b win mv:=fun b=>by
   unfold zdx;rw [zad (by unfold fits;omega)]
  conv=>lhs;rw [zkd];unfold zde
  rw [if_pos (decide_eq_true (by omega)),zad (by omega),eq,zad (by omega),zad (by omega),hJ]
  have hroom:room (ix B q) [t] 8:=by unfold room;simp;omega
  rw [zad (by omega),zad hroom,zad (by omega),zad rfl]
  exact zeE rfl rfl
theorem zt2 (ok:GOk g):∃ win mv,zi1 g=some (win,mv,())/\Won g win mv:=by
 have hn:=ok.n;have hlm:=ok.lm;have hln:=ok.ln;have k5:∀ (m:Nat) (t:Int) (all:List Bool) (B:List (List Int)) (win mv:List Int),0<=t->t+m=g.1.length->all.length=g.1.length->(∀ p:Int,0<=p->p < t->ix all p=true)->BI g t 0 B->
   ∃ all' B',ze2 g g.1 g.2.2.1 t g.1 g.2.1 g.2.2.1 all B win mv=ze2 g g.1 g.2.2.1 g.1.length g.1 g.2.1 g.2.2.1 all' B' win mv/\all'.length=g.1.length/\(∀ p:Int,0<=p->p < g.1.length->ix all' p=true)/\BI g g.1.length 0 B':=by
  intro m
  induction m with
  | zero=>
   intro t all B win mv t0 ht hl h hB;obtain rfl:t=g.1.length:=by omega
   exact ⟨all,B,rfl,hl,h,hB⟩
  | succ m ih=>
   intro t all B win mv t0 ht hl h hB;obtain ⟨B1,e1,hB1⟩:=zwh (all:=all) (win:=win) (mv:=mv) (r5:=ze2 g g.1 g.2.2.1) ok t0 (by omega) (ix g.2.2.1 t).length 0 B (by omega) (by omega) hB
   obtain ⟨all',B',e2,h'⟩:=ih (t+1) (all.set t.toNat true) B1 win mv (by omega) (by omega) (by simpa using hl) (fun p p0 p1=>by
    by_cases e:t=p
    ·subst e;rw [zbP t0 (by omega)]
    ·rw [zcp t0 p0 e];exact h p p0 (by omega)) hB1
   refine ⟨all',B',?_,h'⟩
   rw [<- e2]
   conv=>lhs;rw [zkb];unfold zdd
   rw [if_pos (decide_eq_true (by omega)),zad (by omega),zad (by omega),zad (by omega),e1]
 obtain ⟨Z,hZ⟩:∃ Z:Nat,(g.1.length:Int).toNat=Z:=⟨_,rfl⟩;have hB0:BI g 0 0 (List.replicate Z []):=by
  refine ⟨by rw [List.length_replicate];omega,fun p q q0 q1 => ?_,fun q q0 q1 => ?_⟩
  ·rw [zvq q0 (by omega)]
   constructor
   ·intro h;cases h
   ·rintro (h | ⟨_,h⟩)
    ·omega
    ·simp at h
  ·rw [zvq q0 (by omega)];simp
 obtain ⟨all,B,e5,ha1,ha2,hB⟩:=k5 g.1.length 0 (List.replicate Z false) (List.replicate Z []) (List.replicate Z 0) (List.replicate Z 0) (by omega) (by omega) (by rw [List.length_replicate];omega) (fun p p0 p1=>by omega) hB0
 have gg:GG g.1.length g.1 g.2.1 g.2.2.1 B:=by
  refine ⟨by omega,rfl,by omega,by omega,by have:=hB.l;omega,ok.own,fun p p0 p1=>(ok.mrk p p0 p1).1,ok.rng,fun p p0 p1=>zqx (ok.inc p p0 p1),fun q q0 q1 p hp => ?_,fun p q p0 p1 q0 q1 => ?_,hB.nd⟩
  ·rcases (hB.mem p q q0 q1).1 hp with ⟨a,b,_⟩ | ⟨_,c⟩
   ·exact ⟨a,b⟩
   ·simp at c
  ·rw [hB.mem p q q0 q1];exact ⟨fun h=>h.elim (fun h=>h.2.2) (fun h=>by simp at h),fun h => .inl ⟨p0,p1,h⟩⟩
 have hcl:zsX g.1.length g.2.2.1 all:=fun p hp=>by
  have hne:=ok.ne p hp.1 hp.2.1;have hm:=zg4 (l:=ix g.2.2.1 p) (i:=0) (by omega) (by omega)
  have hr:=ok.rng p hp.1 hp.2.1 _ hm;exact ⟨_,hm,ha2 _ hr.1 hr.2⟩
 obtain ⟨win,mv,e,hP⟩:=zv6 gg (card all (g.1.length:Int).toNat) all (List.replicate Z 0) (List.replicate Z 0) (Nat.le_refl _) (by omega) hcl (by rw [List.length_replicate];omega) (by rw [List.length_replicate];omega)
 have hIn:∀ p:Int,0<=p->p < g.1.length->In g.1.length all p:=fun p p0 p1=>⟨p0,p1,ha2 p p0 p1⟩
 have hlw:=hP.lw;have hlv:=hP.lv;have k16:∀ (m:Nat) (t:Int) (w:List Int),0<=t->t+m=g.1.length->(w.length:Int)=g.1.length->(∀ p:Int,0<=p->p < g.1.length->ix w p=if p < t /\ ¬ ix g.1 p=ix win p then -1 else ix mv p)->
   ∃ w',zgT g g.1 t g.1 g.2.1 g.2.2.1 B win w=some (win,w',())/\(w'.length:Int)=g.1.length/\∀ p:Int,0<=p->p < g.1.length->ix w' p=if ¬ ix g.1 p=ix win p then -1 else ix mv p:=by
  intro m
  induction m with
  | zero=>
   intro t w t0 ht hl h;refine ⟨w,?_,hl,fun p p0 p1 => ?_⟩
   ·rw [zjy];unfold zcK;rw [if_neg (by simp only [decide_eq_true_eq];omega)]
   ·rw [h p p0 p1];by_cases c : ¬ ix g.1 p=ix win p
    ·rw [if_pos ⟨by omega,c⟩,if_pos c]
    ·rw [if_neg (fun h=>c h.2),if_neg c]
  | succ m ih=>
   intro t w t0 ht hl h
   conv=>arg 1;ext w';arg 1;lhs;rw [zjy];unfold zcK
   rw [if_pos (decide_eq_true (by omega)),zad (by omega),zad (by omega),zad (by omega)]
   by_cases c:ix g.1 t=ix win t
   ·rw [if_neg (by simpa using c),zad (by unfold fits;omega)]
    refine ih (t+1) w (by omega) (by omega) hl (fun p p0 p1 => ?_)
    rw [h p p0 p1];by_cases c2:p < t /\ ¬ ix g.1 p=ix win p
    ·rw [if_pos c2,if_pos ⟨by omega,c2.2⟩]
    ·rw [if_neg c2,if_neg (fun h=>by
      by_cases e:p=t
      ·rw [e] at h;exact h.2 c
      ·exact c2 ⟨by omega,h.2⟩)]
   ·rw [if_pos (by simpa using c),zad (by omega),zad (by omega),zad (by unfold fits;omega)]
    refine ih (t+1) _ (by omega) (by omega) (by simpa using hl) (fun p p0 p1 => ?_)
    by_cases e:t=p
    ·subst e;rw [zbP t0 (by omega),if_pos ⟨by omega,c⟩]
    ·rw [zcp t0 p0 e,h p p0 p1];by_cases c2:p < t /\ ¬ ix g.1 p=ix win p
     ·rw [if_pos c2,if_pos ⟨by omega,c2.2⟩]
     ·rw [if_neg c2,if_neg (fun h=>c2 ⟨by omega,h.2⟩)]
 obtain ⟨mv',e16,hm1,hm2⟩:=k16 g.1.length 0 mv (by omega) (by omega) hlv (fun p p0 p1=>by rw [if_neg (by omega)])
 have mvO:∀ p:Int,0<=p->p < g.1.length->ix g.1 p=ix win p->ix mv' p=ix mv p:=fun p p0 p1 c=>by rw [hm2 p p0 p1,if_neg (by simpa using c)]
 refine ⟨win,mv',?_,by omega,by omega,fun p p0 p1=>hP.two p (hIn p p0 p1),fun p p0 p1 ho => ?_,fun p p0 p1 ho=>⟨by rw [hm2 p p0 p1,if_pos ho],fun q hq => ?_⟩,fun p p0 p1 hpar hcy => ?_⟩
 ·have hfin:zaX g g.1 g.2.1 g.2.2.1 g.1 g.2.1 g.2.2.1 (List.replicate Z []) (List.replicate Z 0) (List.replicate Z 0)=some (win,mv',()):=by
   unfold zaX;rw [hZ,zad (by unfold mkOK;omega),e5,zkb];unfold zdd
   rw [if_neg (by simp only [decide_eq_true_eq];omega)]
   exact zaS e e16
  have hS:zi1 g=some (win,mv',()):=by
   unfold zi1;rw [hZ]
   repeat' first | exact hfin | refine zeE ?_ ?_ | refine G_to (by unfold mkOK;omega) ?_
  exact hS
 ·obtain ⟨s1,s2,s3⟩:=hP.own p (hIn p p0 p1) ho;rw [mvO p p0 p1 ho];exact ⟨s1,s3⟩
 ·have hr:=ok.rng p p0 p1 q hq;exact hP.oth p (hIn p p0 p1) ho q hq (ha2 q hr.1 hr.2)
 ·refine hP.cyc p (hIn p p0 p1) hpar ?_
  have key:∀ a b:Int,0<=a->a < g.1.length->ix win a=ix win p->(b∈ix g.2.2.1 a/\(ix g.1 a=ix win p->b=ix mv' a))->(0<=b/\b < g.1.length/\ix win b=ix win p)/\Ed g.2.2.1 g.1 all mv (ix win p) a b:=by
   rintro a b a0 a1 hw ⟨e1,e2⟩;have hr:=ok.rng a a0 a1 b e1;refine ⟨⟨hr.1,hr.2,?_⟩,e1,ha2 b hr.1 hr.2,fun c=>by rw [e2 c,mvO a a0 a1 (by rw [hw];exact c)]⟩
   by_cases c:ix g.1 a=ix win a
   ·obtain ⟨_,_,s3⟩:=hP.own a (hIn a a0 a1) c;rw [e2 (by rw [<- hw];exact c),mvO a a0 a1 c,s3,hw]
   ·rw [hP.oth a (hIn a a0 a1) c b e1 (ha2 b hr.1 hr.2),hw]
  have:∀ q,Rch (fun a b=>b∈ix g.2.2.1 a/\(ix g.1 a=ix win p->b=ix mv' a)) (fun b=>ix g.2.1 p<=ix g.2.1 b) p q->(0<=q/\q < g.1.length/\ix win q=ix win p)/\Rch (Ed g.2.2.1 g.1 all mv (ix win p)) (fun q=>ix g.2.1 p<=ix g.2.1 q) p q:=by
   intro q hq
   induction hq with
   | one e=>
    obtain ⟨k1,k2⟩:=key p _ p0 p1 rfl e;exact ⟨k1,.one k2⟩
   | more _ k e ih=>
    obtain ⟨k1,k2⟩:=key _ _ ih.1.1 ih.1.2.1 ih.1.2.2 e;exact ⟨k1,.more ih.2 k k2⟩
  exact (this p hcy).2
theorem zuX {n:Int} (hn:0<=n/\n<=1000000) {mark:List Int} {nx:List (List Int)} {inn:List Bool} {player:Int} (hm:(mark.length:Int)=n) (hx:(nx.length:Int)=n) (hi:(inn.length:Int)=n) (hr:∀ p:Int,0<=p->p < n->∀ q∈ix nx p,0<=q/\q < n) (hl:∀ p:Int,0<=p->p < n->((ix nx p).length:Int)<=1000000)
  (hc:∀ p:Int,0<=p->p < n->ix inn p=true -> ¬ Int.tmod (ix mark p) 2=player -> ¬ Rch (fun a b=>b∈ix nx a) (fun b=>ix inn b=true/\ix mark p<=ix mark b) p p):zoF mark nx inn player=some false:=by
 have k12:∀ {p i:Int} {row0:List Int} {q:Int} {r8:Int->List Bool->List Int->Option Bool},0<=p->p < n->ix row0 i=q->0<=q->q < n -> ¬ Rch (fun a b=>b∈ix nx a) (fun b=>ix inn b=true/\ix mark p<=ix mark b) p p->(q=p\/(Rch (fun a b=>b∈ix nx a) (fun b=>ix inn b=true/\ix mark p<=ix mark b) p q/\(ix inn q=true/\ix mark p<=ix mark q)))->fits (i+1)->
   ∀ (m:Nat) (k:Int) (seen:List Bool) (tl:List Int),0<=k->k+m=(ix nx q).length->(seen.length:Int)=n->tl.Nodup->(∀ x∈tl,0<=x/\x < n/\ix seen x=true/\Rch (fun a b=>b∈ix nx a) (fun b=>ix inn b=true/\ix mark p<=ix mark b) p x/\(ix inn x=true/\ix mark p<=ix mark x))->
    ∃ seen' tl',zdZ mark nx inn p i row0 r8 k seen (p::tl)=r8 (i+1) seen' (p::tl')/\(seen'.length:Int)=n/\tl'.Nodup/\(∃ z,tl'=tl++z)/\(∀ x∈tl',0<=x/\x < n/\ix seen' x=true/\Rch (fun a b=>b∈ix nx a) (fun b=>ix inn b=true/\ix mark p<=ix mark b) p x/\(ix inn x=true/\ix mark p<=ix mark x)):=by
  intro p i row0 q r8 p0 p1 hq q0 q1 hno hqp hf m;have hql:=hl q q0 q1
  induction m with
  | zero=>
   intro k seen tl k0 hk hs hnd h;refine ⟨seen,tl,?_,hs,hnd,⟨[],by simp⟩,h⟩
   rw [zmQ];unfold zeK;rw [hq,if_neg (by simp only [decide_eq_true_eq];omega),zad hf]
  | succ m ih=>
   intro k seen tl k0 hk hs hnd h;obtain ⟨r,er⟩:∃ r,ix (ix nx q) k=r:=⟨_,rfl⟩;have hrm:r∈ix nx q:=er ▸ zg4 k0 (by omega)
   have hrr:=hr q q0 q1 r hrm;have hR:Rch (fun a b=>b∈ix nx a) (fun b=>ix inn b=true/\ix mark p<=ix mark b) p r:=by
    rcases hqp with rfl | ⟨h1,h2⟩
    ·exact .one hrm
    ·exact .more h1 h2 hrm
   have hrp : ¬ r=p:=fun e=>hno (e ▸ hR)
   have htl:=zce (n:=n.toNat) hnd (fun x hx=>by have:=h x hx;omega)
   have hJ:∀ b:Bool,zfp nx i row0 k seen (p::tl) (zdZ mark nx inn p i row0 r8) b=if b=true then zdZ mark nx inn p i row0 r8 (k+1) (seen.set r.toNat true) (p::(tl++[r])) else zdZ mark nx inn p i row0 r8 (k+1) seen (p::tl):=by
    intro b;unfold zfp;rw [hq,er]
    cases b with
    | true=>rw [if_pos rfl,if_pos rfl,zad (by omega),zad (by omega),zad (by unfold room;simp;omega),zad (by unfold fits;omega)];rfl
    | false=>rw [if_neg (by decide),if_neg (by decide),zad (by unfold fits;omega)]
   have skip:=ih (k+1) seen tl (by omega) (by omega) hs hnd h
   conv=>arg 1;ext s';arg 1;ext t';arg 1;lhs;rw [zmQ];unfold zeK
   rw [hq,er,if_pos (decide_eq_true (by omega)),zad (by omega),if_neg (by simpa using hrp),zad (by omega)]
   by_cases c1:ix inn r=true
   ·rw [if_pos c1,zad (by omega),zad (by omega)]
    by_cases c2:ix mark p<=ix mark r
    ·rw [if_pos (decide_eq_true c2),zad (by omega),zad (by omega),hJ]
     by_cases c3:ix seen r=true
     ·rw [if_neg (by simp [c3])];exact skip
     ·rw [if_pos (by simpa using c3)]
      have hrt:r∉tl:=fun hm=>c3 (h r hm).2.2.1
      obtain ⟨s',t',e,a1,a2,⟨z,a3⟩,a4⟩:=ih (k+1) (seen.set r.toNat true) (tl++[r]) (by omega) (by omega) (by simpa using hs) (by
       rw [List.nodup_append];exact ⟨hnd,by simp,fun a ha b hb=>by rw [List.mem_singleton] at hb;subst hb;exact fun e=>hrt (e ▸ ha)⟩) (fun x hx=>by
       rcases List.mem_append.1 hx with hx | hx
       ·obtain ⟨b1,b2,b3,b4⟩:=h x hx;refine ⟨b1,b2,?_,b4⟩
        rw [zcp hrr.1 b1 (fun e=>hrt (e ▸ hx))];exact b3
       ·rw [List.mem_singleton.1 hx];exact ⟨hrr.1,hrr.2,zbP hrr.1 (by omega),hR,c1,c2⟩)
      exact ⟨s',t',e,a1,a2,⟨r::z,by rw [a3];simp⟩,a4⟩
    ·rw [if_neg (by simpa using c2),hJ,if_neg (by decide)];exact skip
   ·rw [if_neg c1,hJ,if_neg (by decide)];exact skip
 have k8:∀ {p:Int},0<=p->p < n -> ¬ Rch (fun a b=>b∈ix nx a) (fun b=>ix inn b=true/\ix mark p<=ix mark b) p p->∀ (f:Nat) (i:Int) (seen:List Bool) (tl:List Int),n.toNat+2 - i.toNat=f->0<=i->i<=(tl.length:Int)+1->(seen.length:Int)=n->tl.Nodup->(∀ x∈tl,0<=x/\x < n/\ix seen x=true/\Rch (fun a b=>b∈ix nx a) (fun b=>ix inn b=true/\ix mark p<=ix mark b) p x/\(ix inn x=true/\ix mark p<=ix mark x))->
   zgC mark nx inn p (zhG mark nx inn player) i seen (p::tl)=zhG mark nx inn player (p+1):=by
  intro p p0 p1 hno f
  induction f with
  | zero=>
   intro i seen tl hf i0 i1 hs hnd h;have htl:=zce (n:=n.toNat) hnd (fun x hx=>by have:=h x hx;omega)
   omega
  | succ f ih=>
   intro i seen tl hf i0 i1 hs hnd h;have htl:=zce (n:=n.toNat) hnd (fun x hx=>by have:=h x hx;omega)
   by_cases c:i < (tl.length:Int)+1
   ·have hq:(ix (p::tl) i=p\/ix (p::tl) i∈tl):=by
     have:=zg4 (l:=p::tl) i0 (by simp;omega)
     exact List.mem_cons.1 this
    have hqr:0<=ix (p::tl) i/\ix (p::tl) i < n:=by
     rcases hq with h1 | h1
     ·rw [h1];exact ⟨p0,p1⟩
     ·have:=h _ h1;exact ⟨this.1,this.2.1⟩
    obtain ⟨s',t',e,a1,a2,⟨z,a3⟩,a4⟩:=k12 (p:=p) (i:=i) (row0:=p::tl) (r8:=zgC mark nx inn p (zhG mark nx inn player)) p0 p1 rfl hqr.1 hqr.2 hno (hq.imp id (fun h1=>(h _ h1).2.2.2)) (by unfold fits;omega) (ix nx (ix (p::tl) i)).length 0 seen tl (by omega) (by omega) hs hnd h
    rw [zn4];unfold zfr;rw [if_pos (by simp;omega),zad (by simp;omega),zad (by simp;omega),zad (by omega),e]
    exact ih (i+1) s' t' (by omega) (by omega) (by rw [a3,List.length_append];omega) a1 a2 a4
   ·rw [zn4];unfold zfr;rw [if_neg (by simp;omega),zad (by unfold fits;omega)]
 have k2:∀ (m:Nat) (p:Int),0<=p->p+m=n->zhG mark nx inn player p=some false:=by
  intro m
  induction m with
  | zero=>
   intro p p0 hp;rw [zn3];unfold zfq;rw [if_neg (by simp only [decide_eq_true_eq];omega)]
  | succ m ih=>
   intro p p0 hp;have ih':=ih (p+1) (by omega) (by omega)
   rw [zn3];unfold zfq;rw [if_pos (decide_eq_true (by omega)),zad (by omega)]
   by_cases c1:ix inn p=true
   ·rw [if_neg (by simp [c1]),zad (by omega),zad (by omega)]
    by_cases c2:Int.tmod (ix mark p) 2=player
    ·rw [if_pos (decide_eq_true c2),zad (by unfold fits;omega)];exact ih'
    ·rw [if_neg (by simpa using c2),zad (by unfold mkOK;omega)]
     rw [k8 p0 (by omega) (hc p p0 (by omega) c1 c2) _ 0 _ [] rfl (by omega) (by simp) (by simp;omega) (by simp) (fun x hx=>(by cases hx))]
     exact ih'
   ·rw [if_pos (by simpa using c1),zad (by unfold fits;omega)];exact ih'
 exact k2 n.toNat 0 (by omega) (by omega)end
section
variable {α:Type} [Inhabited α]
theorem ixA (d:Array α) (n:Nat):ix d.toList (n:Int)=d[n]! :=by
 unfold ix;rw [Int.toNat_natCast,List.getD_eq_getElem?_getD,Array.getElem?_toList,getElem!_def]
 cases h:d[n]? <;>rfl
theorem setA (d:Array α) (i:Nat) (x:α):d.toList.set i x=(d.setIfInBounds i x).toList:=by simp
theorem swpA (d:Array α) (i j:Nat):(d.toList.set i d[j]!).set j d[i]! =(Go.Sort.swp d i j).toList:=by
 unfold Go.Sort.swp;rw [setA,setA]
theorem swpZ (d:Array α) (i j:Nat):(Go.Sort.swp d i j).size=d.size:=by unfold Go.Sort.swp;simp
end
theorem zq9 {x:Int} (h0:0<=x) (h1:x < 18446744073709551616):IntKind.wrap .u64 x=x:=by
 unfold IntKind.wrap;simp [IntKind.bits,IntKind.signed];omega
theorem zAk {x:Int} (h0:0<=x) (h1:x < 256):IntKind.wrap .u8 x=x:=by
 unfold IntKind.wrap;simp [IntKind.bits,IntKind.signed];omega
theorem zxH {x:Int} (h0:0<=x) (h1:x < 9223372036854775808):IntKind.wrap .i64 x=x:=by
 unfold IntKind.wrap;simp [IntKind.bits,IntKind.signed];omega
def BL (x v:Int):Prop:=0<=v/\v<=32/\x < 2 ^ v.toNat/\(0 < x->(2:Int) ^ v.toNat<=2 * x)
def bTbl:List UInt8:=[0,1,2,2,3,3,3,3,4,4,4,4,4,4,4,4,5,5,5,5,5,5,5,5,5,5,5,5,5,5,5,5,6,6,6,6,6,6,6,6,6,6,6,6,6,6,6,6,6,6,6,6,6,6,6,6,6,6,6,6,6,6,6,6,7,7,7,7,7,7,7,7,7,7,7,7,7,7,7,7,7,7,7,7,7,7,7,7,7,7,7,7,7,7,7,7,7,7,7,7,7,7,7,7,7,7,7,7,7,7,7,7,7,7,7,7,7,7,7,7,7,7,7,7,7,7,7,7,8,8,8,8,8,8,8,8,8,8,8,8,8,8,8,8,8,8,8,8,8,8,8,8,8,8,8,8,8,8,8,8,8,8,8,8,8,8,8,8,8,8,8,8,8,8,8,8,8,8,8,8,8,8,8,8,8,8,8,8,8,8,8,8,8,8,8,8,8,8,8,8,8,8,8,8,8,8,8,8,8,8,8,8,8,8,8,8,8,8,8,8,8,8,8,8,8,8,8,8,8,8,8,8,8,8,8,8,8,8,8,8,8,8,8,8,8,8,8,8,8,8,8,8,8,8,8,8]
theorem zxR:(List.range 256).all (fun x=>decide ((bTbl.getD x 0).toNat<=8/\x < 2 ^ (bTbl.getD x 0).toNat/\(x=0\/2 ^ (bTbl.getD x 0).toNat<=2 * x)))=true:=by decide+kernel
theorem zxS:bTbl.length=256:=by decide+kernel
theorem zzO {x n:Int} (h0:0<=x) (h1:x < 256) (n0:0<=n) (n1:n<=100):∃ v,ziE x n=some (n+v)/\v<=8/\BL x v:=by
 have ha:=zxR;rw [List.all_eq_true] at ha;have hx:=ha x.toNat (by rw [List.mem_range];omega)
 simp only [decide_eq_true_eq] at hx;obtain ⟨k1,k2,k3⟩:=hx;have e:ziE x n=G (0<=IntKind.wrap .u8 x/\IntKind.wrap .u8 x < (bTbl.length:Int)) (G (fits (n+IntKind.wrap .i64 (bAt bTbl (IntKind.wrap .u8 x)))) (some (n+IntKind.wrap .i64 (bAt bTbl (IntKind.wrap .u8 x))))):=rfl;have eb:bAt bTbl x=((bTbl.getD x.toNat 0).toNat:Int):=rfl;rw [e,zAk h0 h1,eb,zxS];generalize (bTbl.getD x.toNat 0).toNat=t at *
 rw [zxH (by omega) (by omega),zad (by omega),zad (by unfold fits;omega)]
 have h2:(2:Int) ^ t=((2 ^ t:Nat):Int):=by simp
 exact ⟨t,rfl,by omega,by omega,by omega,by rw [Int.toNat_natCast,h2];omega,fun hp=>by rw [Int.toNat_natCast,h2];omega⟩
theorem zw3 {x:Int} {k:Nat} (hk:k<=64):ishr .u64 x (k:Int)=x / 2 ^ k:=by
 unfold ishr;rw [Int.toNat_natCast,show min k (IntKind.bits .u64)=k from Nat.min_eq_left hk];exact Int.fdiv_eq_ediv_of_nonneg _ (by
  have:(2:Int) ^ k=((2 ^ k:Nat):Int):=by simp
  rw [this];exact Int.natCast_nonneg _)
theorem BL.up {x v:Int} {k:Nat} (h:BL (x / 2 ^ k) v) (hx:(2:Int) ^ k<=x) (hv:v+k<=32):BL x (k+v):=by
 obtain ⟨a,b,c,d⟩:=h;have hk:(0:Int) < 2 ^ k:=by
  have:(2:Int) ^ k=((2 ^ k:Nat):Int):=by simp
  have:=Nat.two_pow_pos k;omega
 have e:((k:Int)+v).toNat=k+v.toNat:=by omega
 have hm:=Int.mul_ediv_add_emod x (2 ^ k);have hr:=Int.emod_nonneg x (by omega:(2:Int) ^ k≠0)
 have hr2:=Int.emod_lt_of_pos x hk;have hq:1<=x / 2 ^ k:=by
  have:=(Int.le_ediv_iff_mul_le hk).2 (by omega:1 * (2:Int) ^ k<=x)
  exact this
 refine ⟨by omega,by omega,?_,fun _ => ?_⟩
 ·rw [e,Int.pow_add];have h1:(2:Int) ^ k * (x / 2 ^ k+1)<=2 ^ k * 2 ^ v.toNat:=Int.mul_le_mul_of_nonneg_left (by omega) (by omega)
  rw [Int.mul_add] at h1;omega
 ·rw [e,Int.pow_add];have h1:(2:Int) ^ k * 2 ^ v.toNat<=2 ^ k * (2 * (x / 2 ^ k)):=Int.mul_le_mul_of_nonneg_left (d (by omega)) (by omega)
  rw [<- Int.mul_assoc,Int.mul_comm _ 2,Int.mul_assoc] at h1;omega
theorem zzN {x n:Int} (h0:0<=x) (h1:x < 65536) (n0:0<=n) (n1:n<=64):∃ v,ziD x n=some (n+v)/\v<=16/\BL x v:=by
 unfold ziD;by_cases c:256<=x
 ·rw [if_pos (decide_eq_true c),zad (by omega),zad (by unfold fits;omega),show (8:Int)=((8:Nat):Int) from rfl,zw3 (by omega)]
  have e8:(2:Int) ^ 8=256:=rfl;obtain ⟨v,e,h,b⟩:=zzO (x:=x / 2 ^ 8) (n:=n+((8:Nat):Int)) (by omega) (by omega) (by omega) (by omega)
  exact ⟨((8:Nat):Int)+v,by rw [e,Int.add_assoc],by omega,b.up (by omega) (by omega)⟩
 ·rw [if_neg (by simpa using c)]
  obtain ⟨v,e,h,b⟩:=zzO (x:=x) (n:=n) h0 (by omega) (by omega) (by omega)
  exact ⟨v,e,by omega,b⟩
theorem bits3 {x n:Int} (h0:0<=x) (h1:x < 4294967296) (n0:0<=n) (n1:n<=32):∃ v,ziC x n=some (n+v)/\v<=32/\BL x v:=by
 unfold ziC;by_cases c:65536<=x
 ·rw [if_pos (decide_eq_true c),zad (by omega),zad (by unfold fits;omega),show (16:Int)=((16:Nat):Int) from rfl,zw3 (by omega)]
  have e8:(2:Int) ^ 16=65536:=rfl;obtain ⟨v,e,h,b⟩:=zzN (x:=x / 2 ^ 16) (n:=n+((16:Nat):Int)) (by omega) (by omega) (by omega) (by omega)
  exact ⟨((16:Nat):Int)+v,by rw [e,Int.add_assoc],by omega,b.up (by omega) (by omega)⟩
 ·rw [if_neg (by simpa using c)]
  obtain ⟨v,e,h,b⟩:=zzN (x:=x) (n:=n) h0 (by omega) (by omega) (by omega)
  exact ⟨v,e,by omega,b⟩
theorem zs1 {x:Int} (h0:0<=x) (h1:x < 4294967296):∃ v,zni x=some v/\BL x v:=by
 unfold zni zop;obtain ⟨v,e,h,b⟩:=bits3 (x:=x) (n:=0) h0 h1 (by omega) (by omega)
 refine ⟨v,?_,b⟩
 rw [if_neg (by simp only [decide_eq_true_eq];omega),e,Int.zero_add]
 rfl
theorem zy8 {n:Int} (h0:8<=n) (h1:n<=1000000000):∃ M,zdS n=some M/\0 < M/\M<=2 * n:=by
 unfold zdS;rw [zq9 (by omega) (by omega)]
 obtain ⟨v,e,b1,b2,b3,b4⟩:=zs1 (x:=n) (by omega) (by omega)
 have b4:=b4 (by omega)
 have h2:(2:Int) ^ v.toNat=((2 ^ v.toNat:Nat):Int):=by simp
 refine ⟨2 ^ v.toNat,zaS e ?_,by omega,b4⟩
 rw [zad b1];unfold ishl;rw [show min v.toNat (IntKind.bits .u64)=v.toNat from Nat.min_eq_left (by show v.toNat<=64;omega),Int.one_mul,zq9 (by omega) (by omega)]
theorem iandU {x y:Int} (h0:0<=y) (h1:y < 4294967296):0<=iand .u64 x y/\iand .u64 x y<=y:=by
 unfold iand;have h:(BitVec.ofInt IntKind.u64.bits x &&& BitVec.ofInt IntKind.u64.bits y).toNat<=y.toNat:=by
  show (BitVec.ofInt 64 x &&& BitVec.ofInt 64 y).toNat<=y.toNat;rw [BitVec.toNat_and];refine Nat.le_trans Nat.and_le_right ?_
  rw [BitVec.toNat_ofInt];have:y % ((2 ^ 64:Nat):Int)=y:=Int.emod_eq_of_lt h0 (by omega)
  rw [this];exact Nat.le_refl _
 generalize (BitVec.ofInt IntKind.u64.bits x &&& BitVec.ofInt IntKind.u64.bits y).toNat=t at *
 rw [zq9 (by omega) (by omega)]
 omega
theorem zg5 (x y:Int):zdM x y=some (Go.Sort.ltInt x y):=by
 unfold zdM ziY Go.Sort.ltInt;simp
theorem swoI:Go.Sort.SWO Go.Sort.ltInt:=Go.Sort.swo_ltInt
section
theorem zqy (a:Nat) (r1:Int->List Int->Option (List Int)) (i:Int) (hi:0<=i/\i < 1000000000):∀ (j:Nat) (d:Array Int),j < d.size->d.size<=1000000000->
  zaV a i r1 j d.toList=r1 (i+1) (Go.Sort.insInner Go.Sort.ltInt a j d).toList
 | 0,d,hj,hd=>by
  have:=d.length_toList;rw [zdR];unfold zaK;rw [if_neg (by simp),zad (by unfold fits;omega)]
  rfl
 | j+1,d,hj,hd=>by
  have hl:=d.length_toList;rw [zdR];unfold zaK;unfold Go.Sort.insInner;rw [show ((j+1:Nat):Int) - 1=(j:Int) by omega]
  by_cases c:a < j+1
  ·rw [if_pos (by simp only [decide_eq_true_eq];omega)]
   (repeat (rw [zad (by first | omega | (unfold fits;omega) | (simp only [List.length_set,Array.length_toList];omega))]))
   rw [ixA,ixA,zg5];show (if Go.Sort.ltInt d[j+1]! d[j]! =true then _ else _)=_
   rw [show decide (j+1 > a)=true from decide_eq_true c,Bool.true_and]
   cases Go.Sort.ltInt d[j+1]! d[j]! with
   | true=>
    rw [if_pos rfl,if_pos rfl]
    (repeat (rw [zad (by first | omega | (unfold fits;omega) | (simp only [List.length_set,Array.length_toList];omega))]))
    rw [Int.toNat_natCast,Int.toNat_natCast,swpA];exact zqy a r1 i hi j _ (by rw [swpZ];omega) (by rw [swpZ];exact hd)
   | false=>
    rw [if_neg (by simp),if_neg (by simp)]
    (repeat (rw [zad (by first | omega | (unfold fits;omega) | (simp only [List.length_set,Array.length_toList];omega))]))
  ·rw [if_neg (by simp only [decide_eq_true_eq];omega),zad (by unfold fits;omega)]
   rw [show decide (j+1 > a)=false from decide_eq_false c,Bool.false_and,if_neg (by simp)]
theorem zil (a:Nat):∀ (j:Nat) (d:Array Int),(Go.Sort.insInner Go.Sort.ltInt a j d).size=d.size
 | 0,_=>rfl
 | j+1,d=>by
  unfold Go.Sort.insInner
  split
  ·rw [zil a j,swpZ]
  ·rfl
theorem zuy (a b:Nat):∀ (n i:Nat) (d:Array Int),b - i=n->i<=1000000001->b<=d.size->d.size<=1000000000->
  zb4 a b i d.toList=some (Go.Sort.insOuter Go.Sort.ltInt a b i d).toList:=by
 intro n
 induction n with
 | zero=>
  intro i d hn hi hb hd;rw [zdQ];unfold zaJ;unfold Go.Sort.insOuter;rw [if_neg (by simp only [decide_eq_true_eq];omega),if_neg (by omega)]
 | succ n ih=>
  intro i d hn hi hb hd;rw [zdQ];unfold zaJ;unfold Go.Sort.insOuter;rw [if_pos (by simp only [decide_eq_true_eq];omega),if_pos (by omega),zqy a _ i (by omega) i d (by omega) hd]
  have:=ih (i+1) (Go.Sort.insInner Go.Sort.ltInt a i d) (by omega) (by omega) (by rw [zil];exact hb) (by rw [zil];exact hd)
  rw [<- this];rfl
theorem zvO (a b:Nat) (d:Array Int) (ha:a<=b) (hb:b<=d.size) (hd:d.size<=1000000000):zcu a b d.toList=some (Go.Sort.insertionSort Go.Sort.ltInt d a b).toList:=by
 unfold zcu Go.Sort.insertionSort
 (repeat (rw [zad (by first | omega | (unfold fits;omega) | (simp only [List.length_set,Array.length_toList];omega))]))
 exact zuy a b _ (a+1) d rfl (by omega) hb hd
theorem zuS (hi first:Nat):∀ (n root:Nat) (d:Array Int),hi - root<=n->first+hi<=d.size->d.size<=1000000000->root<=1000000000->
  zbN hi first root d.toList=some (Go.Sort.siftDown Go.Sort.ltInt hi first root d).toList:=by
 intro n
 induction n with
 | zero=>
  intro root d hn hf hd hr;rw [zfc];unfold zbg;unfold Go.Sort.siftDown
  (repeat (rw [zad (by first | omega | (unfold fits;omega) | (simp only [List.length_set,Array.length_toList];omega))]))
  rw [if_pos (by simp only [decide_eq_true_eq];omega),dif_pos (by omega)]
 | succ n ih=>
  intro root d hn hf hd hr;have hl:=d.length_toList;rw [zfc];unfold zbg;unfold Go.Sort.siftDown
  (repeat (rw [zad (by first | omega | (unfold fits;omega) | (simp only [List.length_set,Array.length_toList];omega))]))
  by_cases c:hi<=2 * root+1
  ·rw [if_pos (by simp only [decide_eq_true_eq];omega),dif_pos (by omega)]
  ·rw [if_neg (by simp only [decide_eq_true_eq];omega),dif_neg (by omega)]
   (repeat (rw [zad (by first | omega | (unfold fits;omega) | (simp only [List.length_set,Array.length_toList];omega))]))
   have J4:∀ ch:Nat,ch < hi->root < ch->zbt first root d.toList (zbN hi first) ch=some (if !Go.Sort.ltInt d[first+root]! d[first+ch]! then d else Go.Sort.siftDown Go.Sort.ltInt hi first ch (Go.Sort.swp d (first+root) (first+ch))).toList:=fun ch h1 h2=>by
    unfold zbt;rw [show (first:Int)+(root:Int)=((first+root:Nat):Int) by omega,show (first:Int)+(ch:Int)=((first+ch:Nat):Int) by omega]
    (repeat (rw [zad (by first | omega | (unfold fits;omega) | (simp only [List.length_set,Array.length_toList];omega))]))
    rw [ixA,ixA,zg5];show (if (!Go.Sort.ltInt d[first+root]! d[first+ch]!)=true then _ else _)=_
    cases Go.Sort.ltInt d[first+root]! d[first+ch]! with
    | true=>
     rw [if_neg (by simp),if_neg (by simp)]
     (repeat (rw [zad (by first | omega | (unfold fits;omega) | (simp only [List.length_set,Array.length_toList];omega))]))
     rw [Int.toNat_natCast,Int.toNat_natCast,swpA];exact ih ch _ (by omega) (by rw [swpZ];exact hf) (by rw [swpZ];exact hd) (by omega)
    | false=>rw [if_pos (by simp),if_pos (by simp)]
   have e1:(2:Int) * (root:Int)+1=((2 * root+1:Nat):Int):=by omega
   have e2:((2 * root+1:Nat):Int)+1=((2 * root+2:Nat):Int):=by omega
   have J3:∀ t:Bool,(t=true->2 * root+2 < hi)->zbs first root d.toList (zbN hi first) t=some (if t=true then (if !Go.Sort.ltInt d[first+root]! d[first+(2 * root+2)]! then d else Go.Sort.siftDown Go.Sort.ltInt hi first (2 * root+2) (Go.Sort.swp d (first+root) (first+(2 * root+2)))) else
     (if !Go.Sort.ltInt d[first+root]! d[first+(2 * root+1)]! then d else Go.Sort.siftDown Go.Sort.ltInt hi first (2 * root+1) (Go.Sort.swp d (first+root) (first+(2 * root+1))))).toList:=fun t ht=>by
    unfold zbs;rw [e1,e2]
    cases t with
    | true=>rw [if_pos rfl,if_pos rfl];(repeat (rw [zad (by first | omega | (unfold fits;omega) | (simp only [List.length_set,Array.length_toList];omega))]));exact J4 _ (ht rfl) (by omega)
    | false=>rw [if_neg (by simp),if_neg (by simp)];exact J4 _ (by omega) (by omega)
   rw [e1,e2];by_cases c2:2 * root+2 < hi
   ·rw [if_pos (by simp only [decide_eq_true_eq];omega)]
    rw [show (first:Int)+((2 * root+1:Nat):Int)=((first+(2 * root+1):Nat):Int) by omega,show ((first+(2 * root+1):Nat):Int)+1=((first+(2 * root+1)+1:Nat):Int) by omega]
    (repeat (rw [zad (by first | omega | (unfold fits;omega) | (simp only [List.length_set,Array.length_toList];omega))]))
    rw [ixA,ixA,zg5];refine (J3 _ (fun _=>c2)).trans ?_
    rw [show decide (2 * root+1+1 < hi)=true from decide_eq_true c2,Bool.true_and];show some (Array.toList (if Go.Sort.ltInt d[first+(2 * root+1)]! d[first+(2 * root+1)+1]! =true then _ else _))=_
    cases Go.Sort.ltInt d[first+(2 * root+1)]! d[first+(2 * root+1)+1]! with
    | true=>simp [c2]
    | false=>simp
   ·rw [if_neg (by simp only [decide_eq_true_eq];omega),J3 false (by simp),show decide (2 * root+1+1 < hi)=false from decide_eq_false c2,Bool.false_and]
    simp
theorem zh6 (hi first:Nat):∀ (n root:Nat) (d:Array Int),hi - root<=n->(Go.Sort.siftDown Go.Sort.ltInt hi first root d).size=d.size:=by
 intro n
 induction n with
 | zero=>intro root d hn;unfold Go.Sort.siftDown;rw [dif_pos (by omega)]
 | succ n ih=>
  intro root d hn;unfold Go.Sort.siftDown
  split
  ·rfl
  ·split
   ·split
    ·rfl
    ·split
     ·rw [ih _ _ (by omega),swpZ]
     ·rfl
   ·split
    ·rfl
    ·rw [ih _ _ (by omega),swpZ]
theorem zps (lo hi first:Nat) (d:Array Int) (hf:first+hi<=d.size) (hd:d.size<=1000000000) (hl:lo<=1000000000):zcJ lo hi first d.toList=some (Go.Sort.siftDown Go.Sort.ltInt hi first lo d).toList:=by
 unfold zcJ;exact zuS hi first _ lo d (Nat.le_refl _) hf hd hl
theorem zpd (a n:Nat):∀ (k:Nat) (d:Array Int),k<=n->a+n<=d.size->d.size<=1000000000->zcV a ((k:Int) - 1) d.toList=some (Go.Sort.heapPop Go.Sort.ltInt a k d).toList
 | 0,d,hk,ha,hd=>by
  rw [ze8];unfold zbb;rw [if_neg (by simp only [decide_eq_true_eq];omega)];rfl
 | k+1,d,hk,ha,hd=>by
  have hl:=d.length_toList;rw [ze8];unfold zbb;unfold Go.Sort.heapPop;rw [show ((k+1:Nat):Int) - 1=(k:Int) by omega,if_pos (by simp only [decide_eq_true_eq];omega),show (a:Int)+(k:Int)=((a+k:Nat):Int) by omega]
  (repeat (rw [zad (by first | omega | (unfold fits;omega) | (simp only [List.length_set,Array.length_toList];omega))]))
  rw [ixA,ixA,Int.toNat_natCast,Int.toNat_natCast,swpA];refine zaS (zps 0 k a _ (by rw [swpZ];omega) (by rw [swpZ];exact hd) (by omega)) ?_
  (repeat (rw [zad (by first | omega | (unfold fits;omega) | (simp only [List.length_set,Array.length_toList];omega))]))
  exact zpd a n k _ (by omega) (by rw [zh6 _ _ _ _ _ (Nat.le_refl _),swpZ];exact ha) (by rw [zh6 _ _ _ _ _ (Nat.le_refl _),swpZ];exact hd)
theorem zsA (hi first:Nat):∀ (k:Nat) (d:Array Int),(Go.Sort.heapBuild Go.Sort.ltInt hi first k d).size=d.size
 | 0,_=>rfl
 | k+1,d=>by unfold Go.Sort.heapBuild;rw [zsA hi first k,zh6 _ _ _ _ _ (Nat.le_refl _)]
theorem zpc (a b:Nat) (hab:a<=b):∀ (k:Nat) (d:Array Int),k<=b->b<=d.size->d.size<=1000000000->zcU a b ((k:Int) - 1) d.toList=some (Go.Sort.heapPop Go.Sort.ltInt a (b - a) (Go.Sort.heapBuild Go.Sort.ltInt (b - a) a k d)).toList
 | 0,d,hk,hb,hd=>by
  rw [ze7];unfold zba;rw [if_neg (by simp only [decide_eq_true_eq];omega),show (b:Int) - (a:Int)=((b - a:Nat):Int) by omega]
  (repeat (rw [zad (by first | omega | (unfold fits;omega) | (simp only [List.length_set,Array.length_toList];omega))]))
  exact zpd a (b - a) (b - a) d (Nat.le_refl _) (by omega) hd
 | k+1,d,hk,hb,hd=>by
  rw [ze7];unfold zba;unfold Go.Sort.heapBuild;rw [show ((k+1:Nat):Int) - 1=(k:Int) by omega,if_pos (by simp only [decide_eq_true_eq];omega),show (b:Int) - (a:Int)=((b - a:Nat):Int) by omega]
  (repeat (rw [zad (by first | omega | (unfold fits;omega) | (simp only [List.length_set,Array.length_toList];omega))]))
  refine zaS (zps k (b - a) a d (by omega) hd (by omega)) ?_
  (repeat (rw [zad (by first | omega | (unfold fits;omega) | (simp only [List.length_set,Array.length_toList];omega))]))
  exact zpc a b hab k _ (by omega) (by rw [zh6 _ _ _ _ _ (Nat.le_refl _)];exact hb) (by rw [zh6 _ _ _ _ _ (Nat.le_refl _)];exact hd)
theorem zux (a b:Nat) (d:Array Int) (hab:a < b) (hb:b<=d.size) (hd:d.size<=1000000000):zdG a b d.toList=some (Go.Sort.heapSort Go.Sort.ltInt d a b).toList:=by
 unfold zdG Go.Sort.heapSort;have e:Int.tdiv ((b:Int) - (a:Int) - 1) 2=(((b - a - 1) / 2+1:Nat):Int) - 1:=by
  rw [show (b:Int) - (a:Int) - 1=((b - a - 1:Nat):Int) by omega,show (2:Int)=((2:Nat):Int) from rfl,<- Int.ofNat_tdiv];omega
 rw [e]
 (repeat (rw [zad (by first | omega | (unfold fits;omega) | (simp only [List.length_set,Array.length_toList];omega))]))
 exact zpc a b (by omega) _ d (by omega) hb hd
theorem zkQ (d:Array Int) (a b s:Nat) (ha:a < d.size) (hb:b < d.size) (hs:s<=1000):zcy d.toList a b s=some (((Go.Sort.order2 Go.Sort.ltInt d a b s).1:Int),((Go.Sort.order2 Go.Sort.ltInt d a b s).2.1:Int),((Go.Sort.order2 Go.Sort.ltInt d a b s).2.2:Int)):=by
 have hl:=d.length_toList;unfold zcy Go.Sort.order2
 (repeat (rw [zad (by first | omega | (unfold fits;omega) | (simp only [List.length_set,Array.length_toList];omega))]))
 rw [ixA,ixA,zg5];show (if Go.Sort.ltInt d[b]! d[a]! =true then _ else _)=_
 cases Go.Sort.ltInt d[b]! d[a]! with
 | true=>rw [if_pos rfl,if_pos rfl];(repeat (rw [zad (by first | omega | (unfold fits;omega) | (simp only [List.length_set,Array.length_toList];omega))]));rfl
 | false=>rw [if_neg (by simp),if_neg (by simp)]
theorem zf5 (d:Array Int) (a b s:Nat):(Go.Sort.order2 Go.Sort.ltInt d a b s).2.2<=s+1:=by
 unfold Go.Sort.order2;split<;>simp
theorem znT (d:Array Int) (a b c s:Nat) (ha:a < d.size) (hb:b < d.size) (hc:c < d.size) (hs:s<=100):zdi d.toList a b c s=some (((Go.Sort.median Go.Sort.ltInt d a b c s).1:Int),((Go.Sort.median Go.Sort.ltInt d a b c s).2:Int)):=by
 unfold zdi Go.Sort.median;have h1:=Go.Sort.order2_mem Go.Sort.ltInt d a b s;have s1:=zf5 d a b s;have h2:=Go.Sort.order2_mem Go.Sort.ltInt d (Go.Sort.order2 Go.Sort.ltInt d a b s).2.1 c (Go.Sort.order2 Go.Sort.ltInt d a b s).2.2;have s2:=zf5 d (Go.Sort.order2 Go.Sort.ltInt d a b s).2.1 c (Go.Sort.order2 Go.Sort.ltInt d a b s).2.2;refine zaS (zkQ d a b s ha hb (by omega)) ?_
 refine zaS (zkQ d _ c _ (by omega) hc (by omega)) ?_
 refine zaS (zkQ d _ _ _ (by omega) (by omega) (by omega)) ?_
 rfl
theorem zjT (d:Array Int) (a b c s:Nat):(Go.Sort.median Go.Sort.ltInt d a b c s).2<=s+3:=by
 have s1:=zf5 d a b s;have s2:=zf5 d (Go.Sort.order2 Go.Sort.ltInt d a b s).2.1 c (Go.Sort.order2 Go.Sort.ltInt d a b s).2.2;have s3:=zf5 d (Go.Sort.order2 Go.Sort.ltInt d a b s).1 (Go.Sort.order2 Go.Sort.ltInt d (Go.Sort.order2 Go.Sort.ltInt d a b s).2.1 c (Go.Sort.order2 Go.Sort.ltInt d a b s).2.2).1 (Go.Sort.order2 Go.Sort.ltInt d (Go.Sort.order2 Go.Sort.ltInt d a b s).2.1 c (Go.Sort.order2 Go.Sort.ltInt d a b s).2.2).2.2;unfold Go.Sort.median;show (Go.Sort.order2 _ _ _ _ _).2.2<=_;omega
theorem zkN (d:Array Int) (a s:Nat) (h0:0 < a) (ha:a+1 < d.size) (hd:d.size<=1000000000) (hs:s<=100):zbu d.toList a s=some (((Go.Sort.medianAdjacent Go.Sort.ltInt d a s).1:Int),((Go.Sort.medianAdjacent Go.Sort.ltInt d a s).2:Int)):=by
 unfold zbu Go.Sort.medianAdjacent
 (repeat (rw [zad (by first | omega | (unfold fits;omega) | (simp only [List.length_set,Array.length_toList];omega))]))
 rw [show (a:Int) - 1=((a - 1:Nat):Int) by omega,show (a:Int)+1=((a+1:Nat):Int) by omega]
 exact zaS (znT d _ _ _ _ (by omega) (by omega) ha hs) rfl
def zi8:Go.Sort.Hint->Int
 | .unknown=>0
 | .increasing=>1
 | .decreasing=>2
theorem zqf (j s:Nat):zb8 j s=some ((j:Int),zi8 (if s=0 then .increasing else if s=12 then .decreasing else .unknown)):=by
 unfold zb8;by_cases c:s=0
 ·rw [if_pos (by simp [c]),if_pos c];rfl
 ·rw [if_neg (by simp;omega),if_neg c]
  by_cases c2:s=12
  ·rw [if_pos (by simp [c2]),if_pos c2];rfl
  ·rw [if_neg (by simp;omega),if_neg c2];rfl
theorem ztD (d:Array Int) (a b:Nat) (hab:a < b) (hb:b<=d.size) (hd:d.size<=1000000000):zcT d.toList a b=some (((Go.Sort.choosePivot Go.Sort.ltInt d a b).1:Int),zi8 (Go.Sort.choosePivot Go.Sort.ltInt d a b).2):=by
 unfold zcT Go.Sort.choosePivot;have e:Int.tdiv ((b:Int) - (a:Int)) 4=(((b - a) / 4:Nat):Int):=by
  rw [show (b:Int) - (a:Int)=((b - a:Nat):Int) by omega,show (4:Int)=((4:Nat):Int) from rfl,<- Int.ofNat_tdiv]
 have h4:=Nat.div_mul_le_self (b - a) 4;have h5:(b - a) / 4 * 4+4 > b - a:=by omega
 rw [e];dsimp only;generalize hq:(b - a) / 4=q at *
 rw [show (a:Int)+(q:Int) * 1=((a+q * 1:Nat):Int) by omega,show (a:Int)+(q:Int) * 2=((a+q * 2:Nat):Int) by omega,show (a:Int)+(q:Int) * 3=((a+q * 3:Nat):Int) by omega]
 (repeat (rw [zad (by first | omega | (unfold fits;omega) | (simp only [List.length_set,Array.length_toList];omega))]))
 have J10:∀ i j k s:Nat,i < d.size->j < d.size->k < d.size->s<=100->zb7 d.toList i j k s=some (((Go.Sort.median Go.Sort.ltInt d i j k s).1:Int),zi8 (if (Go.Sort.median Go.Sort.ltInt d i j k s).2=0 then .increasing else if (Go.Sort.median Go.Sort.ltInt d i j k s).2=12 then .decreasing else .unknown)):=fun i j k s h1 h2 h3 h4=>by
  unfold zb7;exact zaS (znT d i j k s h1 h2 h3 h4) (zqf _ _)
 by_cases c:8<=b - a
 ·rw [if_pos (by simp only [decide_eq_true_eq];omega),if_pos c]
  by_cases c2:50<=b - a
  ·rw [if_pos (by simp only [decide_eq_true_eq];omega),if_pos c2]
   have q1:=zjT d (a+q * 1 - 1) (a+q * 1) (a+q * 1+1) 0;have m1:=Go.Sort.median_mem Go.Sort.ltInt d (a+q * 1 - 1) (a+q * 1) (a+q * 1+1) 0;refine zaS (zkN d (a+q * 1) 0 (by omega) (by omega) hd (by omega)) ?_
   unfold Go.Sort.medianAdjacent;generalize Go.Sort.median Go.Sort.ltInt d (a+q * 1 - 1) (a+q * 1) (a+q * 1+1) 0=r1 at *
   have q2:=zjT d (a+q * 2 - 1) (a+q * 2) (a+q * 2+1) r1.2;have m2:=Go.Sort.median_mem Go.Sort.ltInt d (a+q * 2 - 1) (a+q * 2) (a+q * 2+1) r1.2;refine zaS (zkN d (a+q * 2) r1.2 (by omega) (by omega) hd (by omega)) ?_
   unfold Go.Sort.medianAdjacent;generalize Go.Sort.median Go.Sort.ltInt d (a+q * 2 - 1) (a+q * 2) (a+q * 2+1) r1.2=r2 at *
   have q3:=zjT d (a+q * 3 - 1) (a+q * 3) (a+q * 3+1) r2.2;have m3:=Go.Sort.median_mem Go.Sort.ltInt d (a+q * 3 - 1) (a+q * 3) (a+q * 3+1) r2.2;refine zaS (zkN d (a+q * 3) r2.2 (by omega) (by omega) hd (by omega)) ?_
   unfold Go.Sort.medianAdjacent;generalize Go.Sort.median Go.Sort.ltInt d (a+q * 3 - 1) (a+q * 3) (a+q * 3+1) r2.2=r3 at *
   exact J10 r1.1 r2.1 r3.1 r3.2 (by omega) (by omega) (by omega) (by omega)
  ·rw [if_neg (by simp only [decide_eq_true_eq];omega),if_neg c2]
   exact J10 (a+q * 1) (a+q * 2) (a+q * 3) 0 (by omega) (by omega) (by omega) (by omega)
 ·rw [if_neg (by simp only [decide_eq_true_eq];omega),if_neg c]
  exact zqf (a+q * 2) 0
theorem zuM:∀ (n i j:Nat) (d:Array Int),j - i<=n->j < d.size->d.size<=1000000000->zb9 i j d.toList=some (Go.Sort.reverseLoop i j d).toList:=by
 intro n
 induction n with
 | zero=>
  intro i j d hn hj hd;rw [zed];unfold zaQ;unfold Go.Sort.reverseLoop;rw [if_neg (by simp only [decide_eq_true_eq];omega),if_neg (by omega)]
 | succ n ih=>
  intro i j d hn hj hd;have hl:=d.length_toList;rw [zed];unfold zaQ;unfold Go.Sort.reverseLoop;by_cases c:i < j
  ·rw [if_pos (by simp only [decide_eq_true_eq];omega),if_pos c]
   (repeat (rw [zad (by first | omega | (unfold fits;omega) | (simp only [List.length_set,Array.length_toList];omega))]))
   rw [ixA,ixA,Int.toNat_natCast,Int.toNat_natCast,swpA,show (j:Int) - 1=((j - 1:Nat):Int) by omega]
   exact ih (i+1) (j - 1) _ (by omega) (by rw [swpZ];omega) (by rw [swpZ];exact hd)
  ·rw [if_neg (by simp only [decide_eq_true_eq];omega),if_neg c]
theorem zv1 (a b:Nat) (d:Array Int) (hab:a < b) (hb:b<=d.size) (hd:d.size<=1000000000):zcG a b d.toList=some (Go.Sort.reverseRange d a b).toList:=by
 unfold zcG Go.Sort.reverseRange
 (repeat (rw [zad (by first | omega | (unfold fits;omega) | (simp only [List.length_set,Array.length_toList];omega))]))
 rw [show (b:Int) - 1=((b - 1:Nat):Int) by omega]
 exact zuM _ a (b - 1) d (Nat.le_refl _) (by omega) hd
theorem zuG (b:Nat) (j:Int) (r3:Int->Int->List Int->Option (Bool×List Int)) (i2:Int) (hj:0<=j/\j<=100):∀ (n k:Nat) (d:Array Int),b - k=n->0 < k->b<=d.size->d.size<=1000000000->
  zax b j r3 i2 k d.toList=r3 i2 (j+1) (Go.Sort.shiftUp Go.Sort.ltInt b k d).toList:=by
 intro n
 induction n with
 | zero=>
  intro k d hn hk hb hd;rw [zcI];unfold zas;unfold Go.Sort.shiftUp;rw [if_neg (by simp only [decide_eq_true_eq];omega),if_neg (by omega)]
  (repeat (rw [zad (by first | omega | (unfold fits;omega) | (simp only [List.length_set,Array.length_toList];omega))]))
 | succ n ih=>
  intro k d hn hk hb hd;have hl:=d.length_toList;rw [zcI];unfold zas;unfold Go.Sort.shiftUp;rw [if_pos (by simp only [decide_eq_true_eq];omega),if_pos (by omega),show (k:Int) - 1=((k - 1:Nat):Int) by omega]
  (repeat (rw [zad (by first | omega | (unfold fits;omega) | (simp only [List.length_set,Array.length_toList];omega))]))
  rw [ixA,ixA,zg5];show (if (!Go.Sort.ltInt d[k]! d[k - 1]!)=true then _ else _)=_
  cases Go.Sort.ltInt d[k]! d[k - 1]! with
  | true=>
   rw [if_neg (by simp),if_neg (by simp)]
   (repeat (rw [zad (by first | omega | (unfold fits;omega) | (simp only [List.length_set,Array.length_toList];omega))]))
   rw [Int.toNat_natCast,Int.toNat_natCast,swpA];exact ih (k+1) _ (by omega) (by omega) (by rw [swpZ];exact hb) (by rw [swpZ];exact hd)
  | false=>
   rw [if_pos (by simp),if_pos (by simp)]
   (repeat (rw [zad (by first | omega | (unfold fits;omega) | (simp only [List.length_set,Array.length_toList];omega))]))
theorem zuF (b:Nat) (j:Int) (r3:Int->Int->List Int->Option (Bool×List Int)) (i2:Nat) (hj:0<=j/\j<=100) (d:Array Int) (hb:b<=d.size) (hd:d.size<=1000000000) (hi:i2<=b):
  zaj b j r3 i2 d.toList=r3 i2 (j+1) (if b - i2 ≥ 2 then Go.Sort.shiftUp Go.Sort.ltInt b (i2+1) d else d).toList:=by
 unfold zaj
 (repeat (rw [zad (by first | omega | (unfold fits;omega) | (simp only [List.length_set,Array.length_toList];omega))]))
 by_cases c:b - i2 ≥ 2
 ·rw [if_pos (by simp only [decide_eq_true_eq];omega),if_pos c]
  (repeat (rw [zad (by first | omega | (unfold fits;omega) | (simp only [List.length_set,Array.length_toList];omega))]))
  exact zuG b j r3 i2 hj _ (i2+1) d rfl (by omega) hb hd
 ·rw [if_neg (by simp only [decide_eq_true_eq];omega),if_neg c]
  (repeat (rw [zad (by first | omega | (unfold fits;omega) | (simp only [List.length_set,Array.length_toList];omega))]))
theorem zqP (b:Nat) (j:Int) (r3:Int->Int->List Int->Option (Bool×List Int)) (i2:Nat) (hj:0<=j/\j<=100) (hi:i2<=b):∀ (k:Nat) (d:Array Int),k < d.size->b<=d.size->d.size<=1000000000->
  zaw b j r3 i2 k d.toList=zaj b j r3 i2 (Go.Sort.shiftDown Go.Sort.ltInt k d).toList
 | 0,d,hk,hb,hd=>by
  rw [zcH];unfold zar;rw [if_neg (by simp)];rfl
 | k+1,d,hk,hb,hd=>by
  have hl:=d.length_toList;rw [zcH];unfold zar;unfold Go.Sort.shiftDown;rw [if_pos (by simp only [decide_eq_true_eq];omega),show ((k+1:Nat):Int) - 1=(k:Int) by omega]
  (repeat (rw [zad (by first | omega | (unfold fits;omega) | (simp only [List.length_set,Array.length_toList];omega))]))
  rw [ixA,ixA,zg5];show (if (!Go.Sort.ltInt d[k+1]! d[k]!)=true then _ else _)=_
  cases Go.Sort.ltInt d[k+1]! d[k]! with
  | true=>
   rw [if_neg (by simp),if_neg (by simp)]
   (repeat (rw [zad (by first | omega | (unfold fits;omega) | (simp only [List.length_set,Array.length_toList];omega))]))
   rw [Int.toNat_natCast,Int.toNat_natCast,swpA];exact zqP b j r3 i2 hj hi k _ (by rw [swpZ];omega) (by rw [swpZ];exact hb) (by rw [swpZ];exact hd)
  | false=>rw [if_pos (by simp),if_pos (by simp)]
theorem zmX:∀ (k:Nat) (d:Array Int),(Go.Sort.shiftDown Go.Sort.ltInt k d).size=d.size
 | 0,_=>rfl
 | k+1,d=>by
  unfold Go.Sort.shiftDown
  split
  ·rfl
  ·rw [zmX k,swpZ]
theorem zrp (b:Nat):∀ (n k:Nat) (d:Array Int),b - k=n->(Go.Sort.shiftUp Go.Sort.ltInt b k d).size=d.size:=by
 intro n
 induction n with
 | zero=>intro k d hn;unfold Go.Sort.shiftUp;rw [if_neg (by omega)]
 | succ n ih=>
  intro k d hn;unfold Go.Sort.shiftUp;rw [if_pos (by omega)]
  split
  ·rfl
  ·rw [ih _ _ (by omega),swpZ]
theorem zvX (a b:Nat) (j:Int) (d:Array Int) (r3:Int->Int->List Int->Option (Bool×List Int)) (hb:b<=d.size) (hd:d.size<=1000000000):∀ (n i:Nat),b - i=n->0 < i->
  zaz a b j d.toList r3 i=zay a b j d.toList r3 (Go.Sort.scanSorted Go.Sort.ltInt d b i:Nat):=by
 intro n
 induction n with
 | zero=>
  intro i hn hi;rw [zcR];unfold zav;unfold Go.Sort.scanSorted;rw [if_neg (by simp only [decide_eq_true_eq];omega),show decide (i < b)=false from decide_eq_false (by omega),Bool.false_and,if_neg (by simp)]
 | succ n ih=>
  intro i hn hi;have hl:=d.length_toList;rw [zcR];unfold zav;unfold Go.Sort.scanSorted;rw [if_pos (by simp only [decide_eq_true_eq];omega),show (i:Int) - 1=((i - 1:Nat):Int) by omega]
  (repeat (rw [zad (by first | omega | (unfold fits;omega) | (simp only [List.length_set,Array.length_toList];omega))]))
  rw [ixA,ixA,zg5,show decide (i < b)=true from decide_eq_true (by omega),Bool.true_and]
  show (if (!Go.Sort.ltInt d[i]! d[i - 1]!)=true then _ else _)=_
  cases Go.Sort.ltInt d[i]! d[i - 1]! with
  | true=>rw [if_neg (by simp),if_neg (by simp)]
  | false=>
   rw [if_pos (by simp),if_pos (by simp)]
   (repeat (rw [zad (by first | omega | (unfold fits;omega) | (simp only [List.length_set,Array.length_toList];omega))]))
   exact ih (i+1) (by omega) (by omega)
theorem ztN (d:Array Int) (b:Nat):∀ (n i:Nat),b - i=n->i<=b->i<=Go.Sort.scanSorted Go.Sort.ltInt d b i/\Go.Sort.scanSorted Go.Sort.ltInt d b i<=b:=by
 intro n
 induction n with
 | zero=>intro i hn hi;unfold Go.Sort.scanSorted;rw [show decide (i < b)=false from decide_eq_false (by omega),Bool.false_and,if_neg (by simp)];omega
 | succ n ih=>
  intro i hn hi;unfold Go.Sort.scanSorted
  split
  ·have:=ih (i+1) (by omega) (by omega);omega
  ·omega
theorem zrQ (a b:Nat) (hab:a < b):∀ (s i:Nat) (d:Array Int),s<=5->a < i->i<=b->b<=d.size->d.size<=1000000000->
  za3 a b i (5 - (s:Int)) d.toList=some ((Go.Sort.partialIns Go.Sort.ltInt a b s i d).2,(Go.Sort.partialIns Go.Sort.ltInt a b s i d).1.toList)
 | 0,i,d,hs,hi,hib,hb,hd=>by
  rw [zcQ];unfold zau;rw [if_neg (by simp)];rfl
 | s+1,i,d,hs,hi,hib,hb,hd=>by
  have hl:=d.length_toList;rw [zcQ];unfold zau;unfold Go.Sort.partialIns;rw [if_pos (by simp only [decide_eq_true_eq];omega),zvX a b _ d _ hb hd _ i rfl (by omega)]
  obtain ⟨k1,k2⟩:=ztN d b _ i rfl hib;dsimp only;generalize Go.Sort.scanSorted Go.Sort.ltInt d b i=k at *
  unfold zay;by_cases c1:k=b
  ·rw [if_pos (by simp [c1]),if_pos c1]
  ·rw [if_neg (by simp only [decide_eq_true_eq];omega),if_neg c1]
   (repeat (rw [zad (by first | omega | (unfold fits;omega) | (simp only [List.length_set,Array.length_toList];omega))]))
   by_cases c2:b - a < 50
   ·rw [if_pos (by simp only [decide_eq_true_eq];omega),if_pos c2]
   ·rw [if_neg (by simp only [decide_eq_true_eq];omega),if_neg c2,show (k:Int) - 1=((k - 1:Nat):Int) by omega]
    (repeat (rw [zad (by first | omega | (unfold fits;omega) | (simp only [List.length_set,Array.length_toList];omega))]))
    rw [ixA,ixA,Int.toNat_natCast,Int.toNat_natCast,swpA];have hz:=swpZ d k (k - 1);have e5:(5 - ((s+1:Nat):Int))+1=5 - (s:Int):=by omega
    have fin:∀ d2:Array Int,d2.size=d.size->zaj b (5 - ((s+1:Nat):Int)) (za3 a b) k d2.toList=some ((Go.Sort.partialIns Go.Sort.ltInt a b s k (if b - k ≥ 2 then Go.Sort.shiftUp Go.Sort.ltInt b (k+1) d2 else d2)).2,(Go.Sort.partialIns Go.Sort.ltInt a b s k (if b - k ≥ 2 then Go.Sort.shiftUp Go.Sort.ltInt b (k+1) d2 else d2)).1.toList):=fun d2 h2=>by
     rw [zuF b _ _ k (by omega) d2 (by omega) (by omega) k2,e5]
     have hz2:(if b - k ≥ 2 then Go.Sort.shiftUp Go.Sort.ltInt b (k+1) d2 else d2).size=d2.size:=by
      split
      ·exact zrp b _ _ _ rfl
      ·rfl
     exact zrQ a b hab s k _ (by omega) (by omega) k2 (by omega) (by omega)
    by_cases c3:k - a ≥ 2
    ·rw [if_pos (by simp only [decide_eq_true_eq];omega),if_pos c3,zqP b _ _ k (by omega) k2 (k - 1) _ (by omega) (by omega) (by omega)]
     exact fin _ ((zmX _ _).trans hz)
    ·rw [if_neg (by simp only [decide_eq_true_eq];omega),if_neg c3]
     exact fin _ hz
theorem zrn (a b:Nat) (d:Array Int) (hab:a < b) (hb:b<=d.size) (hd:d.size<=1000000000):zbK a b d.toList=some ((Go.Sort.partialInsertionSort Go.Sort.ltInt d a b).2,(Go.Sort.partialInsertionSort Go.Sort.ltInt d a b).1.toList):=by
 unfold zbK Go.Sort.partialInsertionSort
 (repeat (rw [zad (by first | omega | (unfold fits;omega) | (simp only [List.length_set,Array.length_toList];omega))]))
 exact zrQ a b hab 5 (a+1) d (Nat.le_refl _) (by omega) (by omega) hb hd
theorem zrP (a i2:Nat) (d:Array Int) (r:Int->Int->List Int->Option (Int×List Int)) (ha:a < d.size) (hd:d.size<=1000000000) (hi:0 < i2):∀ j:Nat,j < d.size->
  zaP a d.toList r i2 j=zaN d.toList r i2 (Go.Sort.scanDown (fun x=>Go.Sort.ltInt d[a]! x) d i2 j:Nat)
 | 0,hj=>by
  rw [zdL];unfold zaG;rw [if_neg (by simp only [decide_eq_true_eq];omega)];rfl
 | j+1,hj=>by
  have hl:=d.length_toList;rw [zdL];unfold zaG;unfold Go.Sort.scanDown;by_cases c:i2<=j+1
  ·rw [if_pos (by simp only [decide_eq_true_eq];omega)]
   (repeat (rw [zad (by first | omega | (unfold fits;omega) | (simp only [List.length_set,Array.length_toList];omega))]))
   rw [ixA,ixA,zg5,show decide (i2<=j+1)=true from decide_eq_true c,Bool.true_and];show (if Go.Sort.ltInt d[a]! d[j+1]! =true then _ else _)=_
   cases Go.Sort.ltInt d[a]! d[j+1]! with
   | true=>
    rw [if_pos rfl,if_pos rfl]
    (repeat (rw [zad (by first | omega | (unfold fits;omega) | (simp only [List.length_set,Array.length_toList];omega))]))
    rw [show ((j+1:Nat):Int) - 1=(j:Int) by omega]
    exact zrP a i2 d r ha hd hi j (by omega)
   | false=>rw [if_neg (by simp),if_neg (by simp)]
  ·rw [if_neg (by simp only [decide_eq_true_eq];omega),show decide (i2<=j+1)=false from decide_eq_false c,Bool.false_and,if_neg (by simp)]
theorem zvW (a j:Nat) (d:Array Int) (r:Int->Int->List Int->Option (Int×List Int)) (ha:a < d.size) (hj:j < d.size) (hd:d.size<=1000000000):∀ (n i:Nat),j+1 - i=n->
  zaO a j d.toList r i=zaM a j d.toList r (Go.Sort.scanUp (fun x => !Go.Sort.ltInt d[a]! x) d j i:Nat):=by
 intro n
 induction n with
 | zero=>
  intro i hn;rw [zdJ];unfold zaF;unfold Go.Sort.scanUp;rw [if_neg (by simp only [decide_eq_true_eq];omega),show decide (i<=j)=false from decide_eq_false (by omega),Bool.false_and,if_neg (by simp)]
 | succ n ih=>
  intro i hn;have hl:=d.length_toList;rw [zdJ];unfold zaF;unfold Go.Sort.scanUp;rw [if_pos (by simp only [decide_eq_true_eq];omega),show decide (i<=j)=true from decide_eq_true (by omega),Bool.true_and]
  (repeat (rw [zad (by first | omega | (unfold fits;omega) | (simp only [List.length_set,Array.length_toList];omega))]))
  rw [ixA,ixA,zg5];show (if (!Go.Sort.ltInt d[a]! d[i]!)=true then _ else _)=_
  cases Go.Sort.ltInt d[a]! d[i]! with
  | true=>rw [if_neg (by simp),if_neg (by simp)]
  | false=>
   rw [if_pos (by simp),if_pos (by simp)]
   (repeat (rw [zad (by first | omega | (unfold fits;omega) | (simp only [List.length_set,Array.length_toList];omega))]))
   exact ih (i+1) (by omega)
theorem zuE (a:Nat):∀ (n i j:Nat) (d:Array Int),j+1 - i<=n->a < i->j < d.size->a < d.size->d.size<=1000000000->
  zbW a i j d.toList=some (((Go.Sort.partEqLoop Go.Sort.ltInt a i j d).1:Int),(Go.Sort.partEqLoop Go.Sort.ltInt a i j d).2.toList):=by
 intro n
 induction n using Nat.strongRecOn with
 | ind n ih=>
  intro i j d hn hi hj ha hd;have hl:=d.length_toList;rw [zgs];unfold zaR;have g1:=Go.Sort.scanUp_ge (fun x => !Go.Sort.ltInt d[a]! x) d j i
  have u1:=Go.Sort.scanUp_spec (fun x => !Go.Sort.ltInt d[a]! x) d j _ i rfl
  rw [zvW a j d _ ha hj hd _ i rfl,Go.Sort.partEqLoop_eq];unfold zaM;generalize Go.Sort.scanUp (fun x => !Go.Sort.ltInt d[a]! x) d j i=i2 at *
  have g2:=Go.Sort.scanDown_le (fun x=>Go.Sort.ltInt d[a]! x) d i2 j
  rw [zrP a i2 d _ ha hd (by omega) j hj]
  unfold zaN;generalize Go.Sort.scanDown (fun x=>Go.Sort.ltInt d[a]! x) d i2 j=j2 at *
  by_cases c:i2 > j2
  ·rw [if_pos (by simp only [decide_eq_true_eq];omega),if_pos c]
  ·rw [if_neg (by simp only [decide_eq_true_eq];omega),if_neg c]
   (repeat (rw [zad (by first | omega | (unfold fits;omega) | (simp only [List.length_set,Array.length_toList];omega))]))
   rw [ixA,ixA,Int.toNat_natCast,Int.toNat_natCast,swpA,show (j2:Int) - 1=((j2 - 1:Nat):Int) by omega]
   exact ih (j2 - 1+1 - (i2+1)) (by omega) (i2+1) (j2 - 1) _ (Nat.le_refl _) (by omega) (by rw [swpZ];omega) (by rw [swpZ];exact ha) (by rw [swpZ];exact hd)
theorem zsJ (a b pivot:Nat) (d:Array Int) (h1:a<=pivot) (h2:pivot < b) (hb:b<=d.size) (hd:d.size<=1000000000):zcg a b pivot d.toList=some (((Go.Sort.partitionEqual Go.Sort.ltInt d a b pivot).1:Int),(Go.Sort.partitionEqual Go.Sort.ltInt d a b pivot).2.toList):=by
 have hl:=d.length_toList;unfold zcg Go.Sort.partitionEqual
 (repeat (rw [zad (by first | omega | (unfold fits;omega) | (simp only [List.length_set,Array.length_toList];omega))]))
 rw [ixA,ixA,Int.toNat_natCast,Int.toNat_natCast,swpA,show (b:Int) - 1=((b - 1:Nat):Int) by omega]
 exact zuE a _ (a+1) (b - 1) _ (Nat.le_refl _) (by omega) (by rw [swpZ];omega) (by rw [swpZ];omega) (by rw [swpZ];exact hd)
theorem zrL (a i2:Nat) (d:Array Int) (r:Int->Int->List Int->Option (Int×Bool×List Int)) (ha:a < d.size) (hd:d.size<=1000000000) (hi:0 < i2):∀ j:Nat,j < d.size->
  zbf a d.toList r i2 j=zbd a d.toList r i2 (Go.Sort.scanDown (fun x => !Go.Sort.ltInt x d[a]!) d i2 j:Nat)
 | 0,hj=>by
  rw [zeB];unfold za0;rw [if_neg (by simp only [decide_eq_true_eq];omega)];rfl
 | j+1,hj=>by
  have hl:=d.length_toList;rw [zeB];unfold za0;unfold Go.Sort.scanDown;by_cases c:i2<=j+1
  ·rw [if_pos (by simp only [decide_eq_true_eq];omega)]
   (repeat (rw [zad (by first | omega | (unfold fits;omega) | (simp only [List.length_set,Array.length_toList];omega))]))
   rw [ixA,ixA,zg5,show decide (i2<=j+1)=true from decide_eq_true c,Bool.true_and];show (if (!Go.Sort.ltInt d[j+1]! d[a]!)=true then _ else _)=_
   cases Go.Sort.ltInt d[j+1]! d[a]! with
   | false=>
    rw [if_pos (by simp),if_pos (by simp)]
    (repeat (rw [zad (by first | omega | (unfold fits;omega) | (simp only [List.length_set,Array.length_toList];omega))]))
    rw [show ((j+1:Nat):Int) - 1=(j:Int) by omega]
    exact zrL a i2 d r ha hd hi j (by omega)
   | true=>rw [if_neg (by simp),if_neg (by simp)]
  ·rw [if_neg (by simp only [decide_eq_true_eq];omega),show decide (i2<=j+1)=false from decide_eq_false c,Bool.false_and,if_neg (by simp)]
theorem zvU (a j:Nat) (d:Array Int) (r:Int->Int->List Int->Option (Int×Bool×List Int)) (ha:a < d.size) (hj:j < d.size) (hd:d.size<=1000000000):∀ (n i:Nat),j+1 - i=n->
  zbe a j d.toList r i=zbc a j d.toList r (Go.Sort.scanUp (fun x=>Go.Sort.ltInt x d[a]!) d j i:Nat):=by
 intro n
 induction n with
 | zero=>
  intro i hn;rw [zez];unfold zaZ;unfold Go.Sort.scanUp;rw [if_neg (by simp only [decide_eq_true_eq];omega),show decide (i<=j)=false from decide_eq_false (by omega),Bool.false_and,if_neg (by simp)]
 | succ n ih=>
  intro i hn;have hl:=d.length_toList;rw [zez];unfold zaZ;unfold Go.Sort.scanUp;rw [if_pos (by simp only [decide_eq_true_eq];omega),show decide (i<=j)=true from decide_eq_true (by omega),Bool.true_and]
  (repeat (rw [zad (by first | omega | (unfold fits;omega) | (simp only [List.length_set,Array.length_toList];omega))]))
  rw [ixA,ixA,zg5];show (if Go.Sort.ltInt d[i]! d[a]! =true then _ else _)=_
  cases Go.Sort.ltInt d[i]! d[a]! with
  | false=>rw [if_neg (by simp),if_neg (by simp)]
  | true=>
   rw [if_pos (by simp),if_pos (by simp)]
   (repeat (rw [zad (by first | omega | (unfold fits;omega) | (simp only [List.length_set,Array.length_toList];omega))]))
   exact ih (i+1) (by omega)
theorem zuC (a:Nat):∀ (n i j:Nat) (d:Array Int),j+1 - i<=n->a < i->j < d.size->a < d.size->d.size<=1000000000->
  zch a i j d.toList=some (((Go.Sort.partLoop Go.Sort.ltInt a i j d).1:Int),false,(Go.Sort.swp (Go.Sort.partLoop Go.Sort.ltInt a i j d).2 (Go.Sort.partLoop Go.Sort.ltInt a i j d).1 a).toList):=by
 intro n
 induction n using Nat.strongRecOn with
 | ind n ih=>
  intro i j d hn hi hj ha hd;have hl:=d.length_toList;rw [zhL];unfold zbl;have g1:=Go.Sort.scanUp_ge (fun x=>Go.Sort.ltInt x d[a]!) d j i
  rw [zvU a j d _ ha hj hd _ i rfl,Go.Sort.partLoop_eq];unfold zbc;generalize Go.Sort.scanUp (fun x=>Go.Sort.ltInt x d[a]!) d j i=i2 at *
  have g2:=Go.Sort.scanDown_le (fun x => !Go.Sort.ltInt x d[a]!) d i2 j
  rw [zrL a i2 d _ ha hd (by omega) j hj]
  unfold zbd;generalize Go.Sort.scanDown (fun x => !Go.Sort.ltInt x d[a]!) d i2 j=j2 at *
  by_cases c:i2 > j2
  ·rw [if_pos (by simp only [decide_eq_true_eq];omega),if_pos c]
   (repeat (rw [zad (by first | omega | (unfold fits;omega) | (simp only [List.length_set,Array.length_toList];omega))]))
   rw [ixA,ixA,Int.toNat_natCast,Int.toNat_natCast,swpA]
  ·rw [if_neg (by simp only [decide_eq_true_eq];omega),if_neg c]
   (repeat (rw [zad (by first | omega | (unfold fits;omega) | (simp only [List.length_set,Array.length_toList];omega))]))
   rw [ixA,ixA,Int.toNat_natCast,Int.toNat_natCast,swpA,show (j2:Int) - 1=((j2 - 1:Nat):Int) by omega]
   exact ih (j2 - 1+1 - (i2+1)) (by omega) (i2+1) (j2 - 1) _ (Nat.le_refl _) (by omega) (by rw [swpZ];omega) (by rw [swpZ];exact ha) (by rw [swpZ];exact hd)
theorem ztC (a pivot i1:Nat) (d:Array Int) (ha:a < d.size) (hp:pivot < d.size) (hd:d.size<=1000000000) (hi:0 < i1):∀ j:Nat,j < d.size->
  zcF a pivot d.toList i1 j=zcD a pivot d.toList i1 (Go.Sort.scanDown (fun x => !Go.Sort.ltInt x (Go.Sort.swp d a pivot)[a]!) (Go.Sort.swp d a pivot) i1 j:Nat)
 | 0,hj=>by
  rw [zeZ];unfold za5;rw [if_neg (by simp only [decide_eq_true_eq];omega)];rfl
 | j+1,hj=>by
  have hl:=d.length_toList;have hz:=swpZ d a pivot;have hl2:=(Go.Sort.swp d a pivot).length_toList;rw [zeZ];unfold za5;unfold Go.Sort.scanDown;rw [ixA d pivot,ixA d a,Int.toNat_natCast a,Int.toNat_natCast pivot,swpA];by_cases c:i1<=j+1
  ·rw [if_pos (by simp only [decide_eq_true_eq];omega)]
   (repeat (rw [zad (by first | omega | (unfold fits;omega) | (simp only [List.length_set,Array.length_toList];omega))]))
   rw [ixA,ixA,zg5,show decide (i1<=j+1)=true from decide_eq_true c,Bool.true_and];show (if (!Go.Sort.ltInt (Go.Sort.swp d a pivot)[j+1]! (Go.Sort.swp d a pivot)[a]!)=true then _ else _)=_
   cases Go.Sort.ltInt (Go.Sort.swp d a pivot)[j+1]! (Go.Sort.swp d a pivot)[a]! with
   | false=>
    rw [if_pos (by simp),if_pos (by simp)]
    (repeat (rw [zad (by first | omega | (unfold fits;omega) | (simp only [List.length_set,Array.length_toList];omega))]))
    rw [show ((j+1:Nat):Int) - 1=(j:Int) by omega]
    exact ztC a pivot i1 d ha hp hd hi j (by omega)
   | true=>rw [if_neg (by simp),if_neg (by simp)]
  ·rw [if_neg (by simp only [decide_eq_true_eq];omega),show decide (i1<=j+1)=false from decide_eq_false c,Bool.false_and,if_neg (by simp)]
theorem zxn (a b pivot:Nat) (d:Array Int) (ha:a < d.size) (hp:pivot < d.size) (hb0:0 < b) (hb:b<=d.size) (hd:d.size<=1000000000):∀ (n i:Nat),b - 1+1 - i=n->
  zcE a b pivot d.toList i=zcC a b pivot d.toList (Go.Sort.scanUp (fun x=>Go.Sort.ltInt x (Go.Sort.swp d a pivot)[a]!) (Go.Sort.swp d a pivot) (b - 1) i:Nat):=by
 intro n;have hl:=d.length_toList;have hz:=swpZ d a pivot;have hl2:=(Go.Sort.swp d a pivot).length_toList
 induction n with
 | zero=>
  intro i hn;rw [zeY];unfold za4;unfold Go.Sort.scanUp
  (repeat (rw [zad (by first | omega | (unfold fits;omega) | (simp only [List.length_set,Array.length_toList];omega))]))
  rw [if_neg (by simp only [decide_eq_true_eq];omega),show decide (i<=b - 1)=false from decide_eq_false (by omega),Bool.false_and,if_neg (by simp)]
 | succ n ih=>
  intro i hn;rw [zeY];unfold za4;unfold Go.Sort.scanUp
  (repeat (rw [zad (by first | omega | (unfold fits;omega) | (simp only [List.length_set,Array.length_toList];omega))]))
  rw [ixA d pivot,ixA d a,Int.toNat_natCast a,Int.toNat_natCast pivot,swpA];rw [if_pos (by simp only [decide_eq_true_eq];omega),show decide (i<=b - 1)=true from decide_eq_true (by omega),Bool.true_and]
  (repeat (rw [zad (by first | omega | (unfold fits;omega) | (simp only [List.length_set,Array.length_toList];omega))]))
  rw [ixA,ixA,zg5];show (if Go.Sort.ltInt (Go.Sort.swp d a pivot)[i]! (Go.Sort.swp d a pivot)[a]! =true then _ else _)=_
  cases Go.Sort.ltInt (Go.Sort.swp d a pivot)[i]! (Go.Sort.swp d a pivot)[a]! with
  | false=>rw [if_neg (by simp),if_neg (by simp)]
  | true=>
   rw [if_pos (by simp),if_pos (by simp)]
   (repeat (rw [zad (by first | omega | (unfold fits;omega) | (simp only [List.length_set,Array.length_toList];omega))]))
   exact ih (i+1) (by omega)
theorem zuD (a b pivot:Nat) (d:Array Int) (h1:a<=pivot) (h2:pivot < b) (hb:b<=d.size) (hd:d.size<=1000000000):zdq a b pivot d.toList=some (((Go.Sort.partition Go.Sort.ltInt d a b pivot).1:Int),(Go.Sort.partition Go.Sort.ltInt d a b pivot).2.1,(Go.Sort.partition Go.Sort.ltInt d a b pivot).2.2.toList):=by
 have hl:=d.length_toList;have hz:=swpZ d a pivot;have hl2:=(Go.Sort.swp d a pivot).length_toList;unfold zdq Go.Sort.partition;dsimp only
 (repeat (rw [zad (by first | omega | (unfold fits;omega) | (simp only [List.length_set,Array.length_toList];omega))]))
 have g1:=Go.Sort.scanUp_ge (fun x=>Go.Sort.ltInt x (Go.Sort.swp d a pivot)[a]!) (Go.Sort.swp d a pivot) (b - 1) (a+1)
 have e1:=zxn a b pivot d (by omega) (by omega) (by omega) hb hd _ (a+1) rfl
 rw [show ((a+1:Nat):Int)=(a:Int)+1 by omega] at e1
 rw [e1];unfold zcC;generalize Go.Sort.scanUp (fun x=>Go.Sort.ltInt x (Go.Sort.swp d a pivot)[a]!) (Go.Sort.swp d a pivot) (b - 1) (a+1)=i1 at *
 have g2:=Go.Sort.scanDown_le (fun x => !Go.Sort.ltInt x (Go.Sort.swp d a pivot)[a]!) (Go.Sort.swp d a pivot) i1 (b - 1)
 rw [show (b:Int) - 1=((b - 1:Nat):Int) by omega]
 (repeat (rw [zad (by first | omega | (unfold fits;omega) | (simp only [List.length_set,Array.length_toList];omega))]))
 rw [ztC a pivot i1 d (by omega) (by omega) hd (by omega) (b - 1) (by omega)]
 unfold zcD;generalize Go.Sort.scanDown (fun x => !Go.Sort.ltInt x (Go.Sort.swp d a pivot)[a]!) (Go.Sort.swp d a pivot) i1 (b - 1)=j1 at *
 rw [ixA d pivot,ixA d a,Int.toNat_natCast a,Int.toNat_natCast pivot,swpA];by_cases c:i1 > j1
 ·rw [if_pos (by simp only [decide_eq_true_eq];omega),if_pos c]
  (repeat (rw [zad (by first | omega | (unfold fits;omega) | (simp only [List.length_set,Array.length_toList];omega))]))
  rw [ixA,ixA,Int.toNat_natCast,swpA]
 ·rw [if_neg (by simp only [decide_eq_true_eq];omega),if_neg c]
  (repeat (rw [zad (by first | omega | (unfold fits;omega) | (simp only [List.length_set,Array.length_toList];omega))]))
  rw [ixA,ixA,Int.toNat_natCast,Int.toNat_natCast,swpA,show (j1:Int) - 1=((j1 - 1:Nat):Int) by omega]
  exact zuC a _ (i1+1) (j1 - 1) _ (Nat.le_refl _) (by omega) (by rw [swpZ];omega) (by rw [swpZ];omega) (by rw [swpZ];omega)
theorem zvA (a b:Nat) (M:Int) (h8:a+8<=b) (hM:0 < M/\M<=2 * ((b:Int) - a)):∀ (n idx:Nat) (rnd:Int) (d:Array Int),a+(b - a) / 4 * 2+2 - idx=n->a<=idx->b<=d.size->d.size<=1000000000->
  ∃ d',zbC a b M idx d.toList rnd=some d'.toList/\Go.Sort.PermIn a b d d':=by
 intro n;have e:Int.tdiv ((b:Int) - (a:Int)) 4=(((b - a) / 4:Nat):Int):=by
  rw [show (b:Int) - (a:Int)=((b - a:Nat):Int) by omega,show (4:Int)=((4:Nat):Int) from rfl,<- Int.ofNat_tdiv]
 have h4:=Nat.div_mul_le_self (b - a) 4
 induction n with
 | zero=>
  intro idx rnd d hn hi hb hd;refine ⟨d,?_,Go.Sort.permIn_refl d a b⟩
  rw [zdP];unfold zaI;rw [e]
  (repeat (rw [zad (by first | omega | (unfold fits;omega) | (simp only [List.length_set,Array.length_toList];omega))]))
  rw [if_neg (by simp only [decide_eq_true_eq];omega)]
 | succ n ih=>
  intro idx rnd d hn hi hb hd;have hl:=d.length_toList;rw [zdP];unfold zaI;rw [e]
  (repeat (rw [zad (by first | omega | (unfold fits;omega) | (simp only [List.length_set,Array.length_toList];omega))]))
  rw [if_pos (by simp only [decide_eq_true_eq];omega)]
  unfold zfY;rw [zad (by omega),zad (by omega),zad (by omega)]
  simp only [Option.bind_some];generalize ixor .u64 _ _=rn;rw [zq9 (x:=M - 1) (by omega) (by omega)]
  have hia:=iandU (x:=rn) (y:=M - 1) (by omega) (by omega)
  generalize iand .u64 rn (M - 1)=o at *
  rw [zxH (x:=o) (by omega) (by omega)]
  have J9:∀ t:Nat,t < b - a->∃ d',zaU a idx d.toList (zbC a b M) rn t=some d'.toList/\Go.Sort.PermIn a b d d':=fun t ht=>by
   unfold zaU;rw [show (a:Int)+(t:Int)=((a+t:Nat):Int) by omega]
   (repeat (rw [zad (by first | omega | (unfold fits;omega) | (simp only [List.length_set,Array.length_toList];omega))]))
   rw [ixA,ixA,Int.toNat_natCast,Int.toNat_natCast,swpA,show (idx:Int)+1=((idx+1:Nat):Int) by omega]
   obtain ⟨d',e',p'⟩:=ih (idx+1) rn (Go.Sort.swp d idx (a+t)) (by omega) (by omega) (by rw [swpZ];exact hb) (by rw [swpZ];exact hd)
   exact ⟨d',e',Go.Sort.permIn_trans d _ d' a b (Go.Sort.swp_permIn d a b idx (a+t) hi (by omega) (by omega) (by omega) hb) p'⟩
  by_cases c:(b:Int) - (a:Int)<=o
  ·rw [if_pos (decide_eq_true c),zad (by unfold fits;omega),show o - ((b:Int) - (a:Int))=((o - ((b:Int) - (a:Int))).toNat:Int) by omega]
   exact J9 _ (by omega)
  ·rw [if_neg (by simpa using c),show o=(o.toNat:Int) by omega]
   exact J9 _ (by omega)
theorem zs4 (a b:Nat) (d:Array Int) (hab:a<=b) (hb:b<=d.size) (hd:d.size<=1000000000):∃ d',zct a b d.toList=some d'.toList/\Go.Sort.PermIn a b d d':=by
 unfold zct
 (repeat (rw [zad (by first | omega | (unfold fits;omega) | (simp only [List.length_set,Array.length_toList];omega))]))
 by_cases c:8<=b - a
 ·rw [if_pos (by simp only [decide_eq_true_eq];omega)]
  obtain ⟨M,e,h⟩:=zy8 (n:=(b:Int) - (a:Int)) (by omega) (by omega)
  rw [e];have e4:Int.tdiv ((b:Int) - (a:Int)) 4=(((b - a) / 4:Nat):Int):=by
   rw [show (b:Int) - (a:Int)=((b - a:Nat):Int) by omega,show (4:Int)=((4:Nat):Int) from rfl,<- Int.ofNat_tdiv]
  show ∃ d',G _ _=_/\_;rw [e4];have h4:=Nat.div_mul_le_self (b - a) 4
  (repeat (rw [zad (by first | omega | (unfold fits;omega) | (simp only [List.length_set,Array.length_toList];omega))]))
  rw [show (a:Int)+(((b - a) / 4:Nat):Int) * 2 - 1=((a+(b - a) / 4 * 2 - 1:Nat):Int) by omega]
  exact zvA a b M (by omega) h _ _ _ d rfl (by omega) hb hd
 ·rw [if_neg (by simp only [decide_eq_true_eq];omega)]
  exact ⟨d,rfl,Go.Sort.permIn_refl d a b⟩
def zhS (n:Nat):Prop:=∀ (a b lim:Nat) (wb wp:Bool) (d:Array Int),b - a<=n->a<=b->b<=d.size->d.size<=1000000000->lim<=64->Go.Sort.Below Go.Sort.ltInt a b d->
 ∃ d',zal zak a b lim wb wp d.toList=some d'.toList/\Go.Sort.PermIn a b d d'/\Go.Sort.SortedIn Go.Sort.ltInt a b d'
theorem zkR (a b lim:Nat) (l:List Int):zak a b lim l=zal zak a b lim true true l:=by
 rw [zkB];unfold zb2;rfl
theorem zrG (hS:Go.Sort.SWO Go.Sort.ltInt) {n:Nat} (ih:∀ m,m < n->zhS m) (a b lim pivot:Nat) (wb wp:Bool) (d:Array Int) (hn:b - a=n) (hab:a < b) (hb:b<=d.size) (hd:d.size<=1000000000) (hlim:lim<=64) (hB:Go.Sort.Below Go.Sort.ltInt a b d) (p0:a<=pivot) (p1:pivot < b) (t:Bool) (ht:t=true->0 < a/\Go.Sort.ltInt d[a - 1]! d[pivot]! =false):
  ∃ d',zbr zak a b wb wp (zal zak) lim pivot d.toList t=some d'.toList/\Go.Sort.PermIn a b d d'/\Go.Sort.SortedIn Go.Sort.ltInt a b d':=by
 unfold zbr
 cases t with
 | true=>
  obtain ⟨ha,hlt⟩:=ht rfl;have hle:∀ i,a<=i->i < b->Go.Sort.ltInt d[i]! d[pivot]! =false:=fun i i0 i1=>hS.ntrans _ _ _ ((hB.resolve_left (by omega)) i i0 i1) hlt
  obtain ⟨q1,q2,q3,q4,q5⟩:=Go.Sort.partitionEqual_holds Go.Sort.ltInt hS d a b pivot p0 p1 hb hle;rw [if_pos rfl,zsJ a b pivot d p0 p1 hb hd];simp only [Option.bind_some];have hall:=Go.Sort.permIn_all d (Go.Sort.partitionEqual Go.Sort.ltInt d a b pivot).2 a b (fun x=>Go.Sort.ltInt x d[pivot]! =false) hb q3 hle
  generalize Go.Sort.partitionEqual Go.Sort.ltInt d a b pivot=r at *
  obtain ⟨mid,d4⟩:=r;dsimp only at q1 q2 q3 q4 q5 hall ⊢;have hz:=q3.1;obtain ⟨R,e,r1,r2⟩:=ih (b - mid) (by omega) mid b lim wb wp d4 (Nat.le_refl _) q2 (by omega) (by omega) hlim (.inr fun i i0 i1=>by
   cases hc:Go.Sort.ltInt d4[i]! d4[mid - 1]! with
   | false=>rfl
   | true=>have:=hS.trans _ _ _ (q5 i i0 i1) hc;rw [q4 (mid - 1) (by omega) (by omega)] at this;cases this)
  have hm:=Go.Sort.permIn_mono d4 R mid b a b (by omega) (Nat.le_refl _) (by omega) r1
  refine ⟨R,e,Go.Sort.permIn_trans d d4 R a b q3 hm,?_⟩
  have hout:∀ i,i < mid->R[i]! =d4[i]! :=fun i h=>r1.2.1 i (.inl h)
  have hin:=Go.Sort.permIn_all d4 R mid b (fun x=>Go.Sort.ltInt d[pivot]! x=true) (by omega) r1 q5
  exact Go.Sort.sorted_glue_eq hS d[pivot]! r2 (fun i i0 i1=>by rw [hout i i1];exact q4 i i0 i1) (fun i i0 i1=>by rw [hout i i1];exact hall i i0 (by omega)) hin
 | false=>
  obtain ⟨q1,q2,q3,q4,q5⟩:=Go.Sort.partition_holds Go.Sort.ltInt hS d a b pivot p0 p1 hb;rw [if_neg (by simp),zuD a b pivot d p0 p1 hb hd]
  simp only [Option.bind_some];have hB4:=hB.perm hb q3;generalize Go.Sort.partition Go.Sort.ltInt d a b pivot=r at *
  obtain ⟨mid,al,d4⟩:=r;dsimp only at q1 q2 q3 q4 q5 hB4 ⊢;have hz:=q3.1;have e8:Int.tdiv ((b:Int) - (a:Int)) 8=(((b - a) / 8:Nat):Int):=by
   rw [show (b:Int) - (a:Int)=((b - a:Nat):Int) by omega,show (8:Int)=((8:Nat):Int) from rfl,<- Int.ofNat_tdiv]
  have h8:=Nat.div_mul_le_self (b - a) 8;rw [e8]
  (repeat (rw [zad (by first | omega | (unfold fits;omega) | (simp only [List.length_set,Array.length_toList];omega))]))
  have e1:(mid:Int)+1=((mid+1:Nat):Int):=by omega
  rw [e1];have left:∀ (d5:Array Int) (wb wp:Bool),d5.size=d.size->(∀ i,a<=i->i < mid->d5[i]! =d4[i]!)->(∀ i,i < a->d5[i]! =d4[i]!)->∃ R,zal zak a mid lim wb wp d5.toList=some R.toList/\Go.Sort.PermIn a mid d5 R/\Go.Sort.SortedIn Go.Sort.ltInt a mid R:=fun d5 wb wp h1 h2 h3=>
   ih (mid - a) (by omega) a mid lim wb wp d5 (Nat.le_refl _) q1 (by omega) (by omega) hlim (by
    rcases hB4 with h | h
    ·exact .inl h
    ·rcases Nat.eq_zero_or_pos a with h0 | h0
     ·exact .inl h0
     ·exact .inr fun i i0 i1=>by rw [h2 i i0 i1,h3 (a - 1) (by omega)];exact h i i0 (by omega))
  have right:∀ (d5:Array Int) (wb wp:Bool),d5.size=d.size->(∀ i,mid<=i->i < b->d5[i]! =d4[i]!)->∃ R,zal zak (mid+1:Nat) b lim wb wp d5.toList=some R.toList/\Go.Sort.PermIn (mid+1) b d5 R/\Go.Sort.SortedIn Go.Sort.ltInt (mid+1) b R:=fun d5 wb wp h1 h2=>
   ih (b - (mid+1)) (by omega) (mid+1) b lim wb wp d5 (Nat.le_refl _) (by omega) (by omega) (by omega) hlim (.inr fun i i0 i1=>by
    rw [Nat.add_sub_cancel,h2 i (by omega) i1,h2 mid (Nat.le_refl _) q2]
    exact q5 i (by omega) i1)
  by_cases c:mid - a < b - mid
  ·rw [if_pos (by simp only [decide_eq_true_eq];omega)]
   obtain ⟨R1,s1,s2,s3⟩:=left d4 true true hz (fun _ _ _=>rfl) (fun _ _=>rfl)
   rw [zkR,s1];simp only [Option.bind_some]
   (repeat (rw [zad (by first | omega | (unfold fits;omega) | (simp only [List.length_set,Array.length_toList];omega))]))
   obtain ⟨R2,t1,t2,t3⟩:=right R1 (decide ((((b - a) / 8:Nat):Int)<=(mid:Int) - (a:Int))) al (by rw [s2.1];exact hz) (fun i i0 i1=>s2.2.1 i (.inr i0))
   refine ⟨R2,t1,?_,?_⟩
   ·exact Go.Sort.permIn_trans d d4 R2 a b q3 (Go.Sort.permIn_trans d4 R1 R2 a b (Go.Sort.permIn_mono d4 R1 a mid a b (Nat.le_refl _) (by omega) (by omega) s2) (Go.Sort.permIn_mono R1 R2 (mid+1) b a b (by omega) (Nat.le_refl _) (by rw [s2.1];omega) t2))
   ·have hl:∀ i,i < mid+1->R2[i]! =R1[i]! :=fun i h=>t2.2.1 i (.inl h)
    have hmid:R2[mid]! =d4[mid]! :=(hl mid (by omega)).trans (s2.2.1 mid (.inr (Nat.le_refl _)))
    have hlo:=Go.Sort.permIn_all d4 R1 a mid (fun x=>Go.Sort.ltInt x d4[mid]! =true) (by omega) s2 q4
    have hhi:=Go.Sort.permIn_all R1 R2 (mid+1) b (fun x=>Go.Sort.ltInt x d4[mid]! =false) (by rw [s2.1];omega) t2 (fun i i0 i1=>by rw [s2.2.1 i (.inr (by omega))];exact q5 i (by omega) i1)
    exact Go.Sort.sorted_glue hS (s3.congr fun i i0 i1=>hl i (by omega)) t3 (fun i i0 i1=>by rw [hl i (by omega),hmid];exact hlo i i0 i1) (fun i i0 i1=>by rw [hmid];exact hhi i (by omega) i1)
  ·rw [if_neg (by simp only [decide_eq_true_eq];omega)]
   obtain ⟨R1,s1,s2,s3⟩:=right d4 true true hz (fun _ _ _=>rfl)
   rw [zkR,s1];simp only [Option.bind_some]
   (repeat (rw [zad (by first | omega | (unfold fits;omega) | (simp only [List.length_set,Array.length_toList];omega))]))
   obtain ⟨R2,t1,t2,t3⟩:=left R1 (decide ((((b - a) / 8:Nat):Int)<=(b:Int) - (mid:Int))) al (by rw [s2.1];exact hz) (fun i i0 i1=>s2.2.1 i (.inl (by omega))) (fun i i0=>s2.2.1 i (.inl (by omega)))
   refine ⟨R2,t1,?_,?_⟩
   ·exact Go.Sort.permIn_trans d d4 R2 a b q3 (Go.Sort.permIn_trans d4 R1 R2 a b (Go.Sort.permIn_mono d4 R1 (mid+1) b a b (by omega) (Nat.le_refl _) (by omega) s2) (Go.Sort.permIn_mono R1 R2 a mid a b (Nat.le_refl _) (by omega) (by rw [s2.1];omega) t2))
   ·have hl:∀ i,mid<=i->R2[i]! =R1[i]! :=fun i h=>t2.2.1 i (.inr h)
    have hmid:R2[mid]! =d4[mid]! :=(hl mid (Nat.le_refl _)).trans (s2.2.1 mid (.inl (by omega)))
    have hlo:=Go.Sort.permIn_all R1 R2 a mid (fun x=>Go.Sort.ltInt x d4[mid]! =true) (by rw [s2.1];omega) t2 (fun i i0 i1=>by rw [s2.2.1 i (.inl (by omega))];exact q4 i i0 i1)
    have hhi:=Go.Sort.permIn_all d4 R1 (mid+1) b (fun x=>Go.Sort.ltInt x d4[mid]! =false) (by omega) s2 (fun i i0 i1=>q5 i (by omega) i1)
    exact Go.Sort.sorted_glue hS t3 (s3.congr fun i i0 i1=>hl i (by omega)) (fun i i0 i1=>by rw [hmid];exact hlo i i0 i1) (fun i i0 i1=>by rw [hl i (by omega),hmid];exact hhi i (by omega) i1)
theorem zrF (hS:Go.Sort.SWO Go.Sort.ltInt) {n:Nat} (ih:∀ m,m < n->zhS m) (a b lim pivot:Nat) (wb wp:Bool) (d:Array Int) (hn:b - a=n) (hab:a < b) (hb:b<=d.size) (hd:d.size<=1000000000) (hlim:lim<=64) (hB:Go.Sort.Below Go.Sort.ltInt a b d) (p0:a<=pivot) (p1:pivot < b):
  ∃ d',zbq zak a b wb wp (zal zak) lim pivot d.toList=some d'.toList/\Go.Sort.PermIn a b d d'/\Go.Sort.SortedIn Go.Sort.ltInt a b d':=by
 have hl:=d.length_toList;unfold zbq;by_cases c:0 < a
 ·rw [if_pos (by simp only [decide_eq_true_eq];omega),show (a:Int) - 1=((a - 1:Nat):Int) by omega]
  (repeat (rw [zad (by first | omega | (unfold fits;omega) | (simp only [List.length_set,Array.length_toList];omega))]))
  rw [ixA,ixA,zg5];simp only [Option.bind_some];exact zrG hS ih a b lim pivot wb wp d hn hab hb hd hlim hB p0 p1 (!Go.Sort.ltInt d[a - 1]! d[pivot]!) (fun h=>⟨c,by simpa using h⟩)
 ·rw [if_neg (by simp only [decide_eq_true_eq];omega)]
  exact zrG hS ih a b lim pivot wb wp d hn hab hb hd hlim hB p0 p1 false (by simp)
theorem zrE (hS:Go.Sort.SWO Go.Sort.ltInt) {n:Nat} (ih:∀ m,m < n->zhS m) (a b lim pivot:Nat) (wb wp:Bool) (hint:Int) (d:Array Int) (hn:b - a=n) (hab:a < b) (hb:b<=d.size) (hd:d.size<=1000000000) (hlim:lim<=64) (hB:Go.Sort.Below Go.Sort.ltInt a b d) (p0:a<=pivot) (p1:pivot < b):
  ∃ d',zbp zak a b wb wp (zal zak) lim pivot hint d.toList=some d'.toList/\Go.Sort.PermIn a b d d'/\Go.Sort.SortedIn Go.Sort.ltInt a b d':=by
 have J15:∀ t:Bool,∃ d',za7 zak a b wb wp (zal zak) lim pivot d.toList t=some d'.toList/\Go.Sort.PermIn a b d d'/\Go.Sort.SortedIn Go.Sort.ltInt a b d':=fun t=>by
  unfold za7
  cases t with
  | true=>
   obtain ⟨k1,k2⟩:=Go.Sort.partialInsertionSort_holds hS d a b hab hb hB;rw [if_pos rfl,zrn a b d hab hb hd];simp only [Option.bind_some];generalize Go.Sort.partialInsertionSort Go.Sort.ltInt d a b=r at *
   obtain ⟨d3,ok⟩:=r;dsimp only at k1 k2 ⊢
   cases ok with
   | true=>exact ⟨d3,rfl,k1,k2 rfl⟩
   | false=>
    rw [if_neg (by simp)]
    obtain ⟨d',e,q1,q2⟩:=zrF hS ih a b lim pivot wb wp d3 hn hab (by rw [k1.1];exact hb) (by rw [k1.1];exact hd) hlim (hB.perm hb k1) p0 p1
    exact ⟨d',e,Go.Sort.permIn_trans d d3 d' a b k1 q1,q2⟩
  | false=>
   rw [if_neg (by simp)]
   exact zrF hS ih a b lim pivot wb wp d hn hab hb hd hlim hB p0 p1
 unfold zbp
 split
 ·split
  ·exact J15 _
  ·exact J15 _
 ·exact J15 _
theorem zvV (hS:Go.Sort.SWO Go.Sort.ltInt):∀ n,zhS n:=by
 intro n
 induction n using Nat.strongRecOn with
 | ind n ih=>
  intro a b lim wb wp d hn hab hb hd hlim hB;have hl:=d.length_toList;rw [zjn];unfold zbE
  (repeat (rw [zad (by first | omega | (unfold fits;omega) | (simp only [List.length_set,Array.length_toList];omega))]))
  by_cases c1:b - a<=12
  ·rw [if_pos (by simp only [decide_eq_true_eq];omega),zvO a b d hab hb hd]
   obtain ⟨q1,q2⟩:=Go.Sort.insertionSort_holds hS d a b hab hb;exact ⟨_,rfl,q1,q2⟩
  ·rw [if_neg (by simp only [decide_eq_true_eq];omega)]
   by_cases c2:lim=0
   ·rw [if_pos (by simp [c2]),zux a b d (by omega) hb hd]
    obtain ⟨q1,q2⟩:=Go.Sort.heapSort_holds hS d a b hab hb;exact ⟨_,rfl,q1,q2⟩
   ·rw [if_neg (by simp only [decide_eq_true_eq];omega)]
    have J9:∀ (lim:Nat) (d1:Array Int),lim<=64->Go.Sort.PermIn a b d d1->∃ d',zbB zak a b wb wp (zal zak) lim d1.toList=some d'.toList/\Go.Sort.PermIn a b d d'/\Go.Sort.SortedIn Go.Sort.ltInt a b d':=fun lim d1 h1 h2=>by
     have hz:=h2.1;have hB1:=hB.perm hb h2;obtain ⟨c3,c4⟩:=Go.Sort.choosePivot_holds Go.Sort.ltInt d1 a b (by omega)
     unfold zbB;rw [ztD d1 a b (by omega) (by omega) (by omega)]
     simp only [Option.bind_some];generalize Go.Sort.choosePivot Go.Sort.ltInt d1 a b=r at *
     obtain ⟨pv,hi⟩:=r;dsimp only at c3 c4 ⊢;have ih':∀ m,m < b - a->zhS m:=fun m hm=>ih m (by omega)
     by_cases c5:zi8 hi=2
     ·rw [if_pos (by simp [c5]),zv1 a b d1 (by omega) (by omega) (by omega)]
      simp only [Option.bind_some];have hr:=Go.Sort.reverseRange_holds d1 a b hab (by omega)
      have hz2:=hr.1
      (repeat (rw [zad (by first | omega | (unfold fits;omega) | (simp only [List.length_set,Array.length_toList];omega))]))
      rw [show (b:Int) - 1 - ((pv:Int) - (a:Int))=(((b - 1) - (pv - a):Nat):Int) by omega]
      obtain ⟨d',e,q1,q2⟩:=zrE hS ih' a b lim ((b - 1) - (pv - a)) wb wp 1 _ rfl (by omega) (by omega) (by omega) h1 (hB1.perm (by omega) hr) (by omega) (by omega)
      exact ⟨d',e,Go.Sort.permIn_trans d d1 d' a b h2 (Go.Sort.permIn_trans d1 _ d' a b hr q1),q2⟩
     ·rw [if_neg (by simpa using c5)]
      obtain ⟨d',e,q1,q2⟩:=zrE hS ih' a b lim pv wb wp (zi8 hi) d1 rfl (by omega) (by omega) (by omega) h1 hB1 c3 c4
      exact ⟨d',e,Go.Sort.permIn_trans d d1 d' a b h2 q1,q2⟩
    cases wb with
    | true=>
     rw [if_neg (by simp)]
     exact J9 lim d hlim (Go.Sort.permIn_refl d a b)
    | false=>
     rw [if_pos (by simp)]
     obtain ⟨d1,e,q⟩:=zs4 a b d hab hb hd;rw [e];simp only [Option.bind_some]
     (repeat (rw [zad (by first | omega | (unfold fits;omega) | (simp only [List.length_set,Array.length_toList];omega))]))
     rw [show (lim:Int) - 1=((lim - 1:Nat):Int) by omega]
     exact J9 (lim - 1) d1 (by omega) q
theorem zsK (hS:Go.Sort.SWO Go.Sort.ltInt) (l:List Int) (hl:l.length<=1000000000) {v:Int} (hv:BL l.length v):∃ l',zak 0 l.length v l=some l'/\l'.Perm l/\l'.Pairwise (fun x y=>Go.Sort.ltInt y x=false):=by
 obtain ⟨v0,v1,_⟩:=hv;obtain ⟨d',e,q1,q2⟩:=zvV hS _ 0 l.length v.toNat true true l.toArray (Nat.le_refl _) (Nat.zero_le _) (by simp) (by simpa using hl) (by omega) (.inl rfl)
 have hz:=q1.1;refine ⟨d'.toList,?_,?_,?_⟩
 ·have:=zkR 0 l.length v.toNat l;rw [show ((v.toNat:Nat):Int)=v by omega] at this
  rw [show ((0:Nat):Int)=0 from rfl] at this;rw [this];rw [show ((v.toNat:Nat):Int)=v by omega] at e
  exact e
 ·have:=q1.2.2;rw [show d'.extract 0 l.length=d' by rw [<- show d'.size=l.length by simpa using hz];simp,show l.toArray.extract 0 l.length=l.toArray by simp] at this
  simpa using this
 ·rw [List.pairwise_iff_getElem];intro i j hi hj hij;have:=q2 i j (Nat.zero_le _) hij (by simpa [hz] using hj)
  simp only [Array.length_toList] at hi hj;rw [getElem!_pos d' j hj,getElem!_pos d' i hi] at this;simpa using this
end
theorem zzS {a b:Int} (c:a=b):decide (a=b)=true:=decide_eq_true c
theorem zzR {a b:Int} (c : ¬ a=b) : ¬ decide (a=b)=true:=fun h=>c (of_decide_eq_true h)
theorem cq_np {a b:Int} (c : ¬ a=b):decide (¬ a=b)=true:=decide_eq_true c
theorem cq_nn {a b:Int} (c:a=b) : ¬ decide (¬ a=b)=true:=fun h=>of_decide_eq_true h c
theorem zxW {s:List Int} (hl:s.length<=1000000000) (hT:∀ x y,Go.Sort.ltInt x y=false->Go.Sort.ltInt y x=false->x=y) (hS:s.Pairwise (fun x y=>Go.Sort.ltInt y x=false)) {k:Nat} (hk:0 < k) (hks:k < s.length):
  ∀ (n k2 k1:Nat) (s1:List Int),s.length - k - k2=n->1<=k2->k+k2<=s.length->0 < k1->k1+1<=k+k2->s1.length=s.length->(∀ i:Nat,k1<=i->s1[i]? =s[i]?)->
   (∀ x,x∈s1.take k1↔x∈s.take (k+k2))->(s1.take k1).Pairwise (fun x y=>Go.Sort.ltInt x y=true)->
   ∃ r,zfJ s (k:Nat) (k1:Nat) (k2:Nat) s1=some r/\(∀ x,x∈r↔x∈s)/\r.Pairwise (fun x y=>Go.Sort.ltInt x y=true)/\r.length<=s.length:=by
 intro n
 induction n with
 | zero=>
  intro k2 k1 s1 hn h1 h2 h3 h4 h5 h6 h7 h8;rw [ziz];unfold zcc;simp only [Int.toNat_natCast];rw [if_neg (by simp only [decide_eq_true_eq];omega),zad (by omega),zad (by omega),zad (by simp;omega)]
  refine ⟨_,rfl,?_,?_,by simp;omega⟩
  ·intro x;rw [List.append_assoc,List.take_append_of_le_length (by simp;omega),List.take_take,Nat.min_self,h7,show k+k2=s.length by omega,List.take_length]
  ·rw [List.append_assoc,List.take_append_of_le_length (by simp;omega),List.take_take,Nat.min_self]
   exact h8
 | succ n ih=>
  intro k2 k1 s1 hn h1 h2 h3 h4 h5 h6 h7 h8;have hj:k+k2 < s.length:=by omega
  rw [ziz];unfold zcc;rw [show (k2:Int) - 1=((k2 - 1:Nat):Int) by omega]
  rw [if_pos (by simp only [decide_eq_true_eq];omega),zad (by omega),zad (by omega),zad (by unfold fits;omega),zad (by omega),zad (by omega)]
  have e1:ix s1 (((k:Int).toNat+(k2:Int).toNat:Nat):Int)=s[k+k2]:=by
   rw [Int.toNat_natCast,Int.toNat_natCast,zyz,List.getD_eq_getElem?_getD,h6 (k+k2) (by omega),List.getElem?_eq_getElem hj];rfl
  have e2:ix s1 (((k:Int).toNat+((k2 - 1:Nat):Int).toNat:Nat):Int)=s[k+(k2 - 1)]'(by omega):=by
   rw [Int.toNat_natCast,Int.toNat_natCast,zyz,List.getD_eq_getElem?_getD,h6 (k+(k2 - 1)) (by omega),List.getElem?_eq_getElem (by omega)];rfl
  have et:s.take (k+(k2+1))=s.take (k+k2)++[s[k+k2]]:=by
   rw [<- Nat.add_assoc,List.take_add_one,List.getElem?_eq_getElem hj];rfl
  have hm:s[k+(k2 - 1)]'(by omega)∈s.take (k+k2):=by
   rw [List.mem_take_iff_getElem];exact ⟨k+(k2 - 1),by omega,rfl⟩
  by_cases c:s[k+k2]=s[k+(k2 - 1)]'(by omega)
  ·rw [if_neg (cq_nn (e1.trans (c.trans e2.symm))),zad (by unfold fits;omega)]
   exact ih (k2+1) k1 s1 (by omega) (by omega) (by omega) h3 (by omega) h5 h6 (fun x=>by
    rw [h7,et,List.mem_append,List.mem_singleton];refine ⟨.inl,fun h=>h.elim id fun h => ?_⟩
    rw [h,c];exact hm) h8
  ·rw [if_pos (cq_np (fun h=>c (e1.symm.trans (h.trans e2)))),zad (by omega),zad (by omega),zad (by omega),zad (by omega),zad (by unfold fits;omega),zad (by unfold fits;omega),e1,Int.toNat_natCast k1]
   have eset:(s1.set k1 s[k+k2]).take (k1+1)=s1.take k1++[s[k+k2]]:=by
    rw [List.take_add_one,List.take_set_of_le (Nat.le_refl _),List.getElem?_set_self (by omega)];rfl
   refine ih (k2+1) (k1+1) (s1.set k1 s[k+k2]) (by omega) (by omega) (by omega) (by omega) (by omega) (by simp;omega) (fun i hi=>by
    rw [List.getElem?_set_ne (by omega)];exact h6 i (by omega)) (fun x=>by
    rw [eset,et,List.mem_append,List.mem_append,h7]) ?_
   rw [eset,List.pairwise_append];refine ⟨h8,List.pairwise_singleton _ _,fun x hx y hy => ?_⟩
   rw [List.mem_singleton.1 hy];rw [h7,List.mem_take_iff_getElem] at hx;obtain ⟨i,hi,rfl⟩:=hx;have hp:=List.pairwise_iff_getElem.1 hS
   cases hc:Go.Sort.ltInt s[i] s[k+k2] with
   | true=>rfl
   | false=>
    exfalso;have e3:=hT _ _ hc (hp i (k+k2) (by omega) hj (by omega))
    apply c
    by_cases ei:i=k+(k2 - 1)
    ·subst ei;exact e3.symm
    ·have p1:=hp i (k+(k2 - 1)) (by omega) (by omega) (by omega)
     have p2:=hp (k+(k2 - 1)) (k+k2) (by omega) hj (by omega)
     rw [e3] at p1;exact hT _ _ p2 p1
theorem zyO {s:List Int} (hl:s.length<=1000000000) (hI:∀ x,Go.Sort.ltInt x x=false) (hT:∀ x y,Go.Sort.ltInt x y=false->Go.Sort.ltInt y x=false->x=y) (hS:s.Pairwise (fun x y=>Go.Sort.ltInt y x=false)):
  ∃ r,zd3 s=some r/\(∀ x,x∈r↔x∈s)/\r.Pairwise (fun x y=>Go.Sort.ltInt x y=true)/\r.length<=s.length:=by
 have hp:=List.pairwise_iff_getElem.1 hS;have str:∀ k:Nat,k<=s.length->(∀ i:Nat,0 < i->i < k->∀ h:i < s.length,¬ s[i]=s[i - 1]'(by omega))->(s.take k).Pairwise (fun x y=>Go.Sort.ltInt x y=true):=fun k hk h=>by
  rw [List.pairwise_iff_getElem];intro i j hi hj hij;simp only [List.length_take] at hi hj;rw [List.getElem_take,List.getElem_take]
  cases hc:Go.Sort.ltInt (s[i]'(by omega)) (s[j]'(by omega)) with
  | true=>rfl
  | false=>
   exfalso;have e3:=hT _ _ hc (hp i j (by omega) (by omega) hij)
   apply h j (by omega) (by omega) (by omega)
   by_cases ei:i=j - 1
   ·subst ei;exact e3.symm
   ·have p1:=hp i (j - 1) (by omega) (by omega) (by omega)
    have p2:=hp (j - 1) j (by omega) (by omega) (by omega)
    rw [e3] at p1;exact hT _ _ p2 p1
 unfold zd3;by_cases c:s.length < 2
 ·rw [if_pos (by simp only [decide_eq_true_eq];omega)]
  have:=str s.length (Nat.le_refl _) (fun i h1 h2 h=>by omega)
  rw [List.take_length] at this;exact ⟨s,rfl,fun _=>Iff.rfl,this,Nat.le_refl _⟩
 ·rw [if_neg (by simp only [decide_eq_true_eq];omega)]
  have key:∀ (n k:Nat),s.length - k=n->1<=k->k<=s.length->(∀ i:Nat,0 < i->i < k->∀ h:i < s.length,¬ s[i]=s[i - 1]'(by omega))->∃ r,zfI s (k:Nat)=some r/\(∀ x,x∈r↔x∈s)/\r.Pairwise (fun x y=>Go.Sort.ltInt x y=true)/\r.length<=s.length:=by
   intro n
   induction n with
   | zero=>
    intro k hn h1 h2 h3;rw [ziy];unfold zcb;rw [if_neg (by simp only [decide_eq_true_eq];omega)]
    have:=str s.length (Nat.le_refl _) (fun i a b h=>h3 i a (by omega) h)
    rw [List.take_length] at this;exact ⟨s,rfl,fun _=>Iff.rfl,this,Nat.le_refl _⟩
   | succ n ih=>
    intro k hn h1 h2 h3;have hks:k < s.length:=by omega
    rw [ziy];unfold zcb;rw [show (k:Int) - 1=((k - 1:Nat):Int) by omega]
    simp only [Int.toNat_natCast];rw [if_pos (by simp only [decide_eq_true_eq];omega),zad (by omega),zad (by omega),zad (by unfold fits;omega),zad (by omega),zad (by omega)]
    have e1:ix s (k:Int)=s[k]:=by rw [znL (by omega) (by omega)];simp
    have e2:ix s ((k - 1:Nat):Int)=s[k - 1]'(by omega):=by rw [znL (by omega) (by omega)];simp
    by_cases c2:s[k]=s[k - 1]'(by omega)
    ·rw [if_pos (zzS (e1.trans (c2.trans e2.symm))),zad (by omega)]
     have hm:s[k - 1]'(by omega)∈s.take k:=by
      rw [List.mem_take_iff_getElem];exact ⟨k - 1,by omega,rfl⟩
     have:=zxW hl hT hS (by omega:0 < k) hks (s.length - k - 1) 1 k s rfl (Nat.le_refl _) (by omega) (by omega) (Nat.le_refl _) rfl (fun _ _=>rfl) (fun x=>by
      rw [show s.take (k+1)=s.take k++[s[k]] by rw [List.take_add_one,List.getElem?_eq_getElem hks];rfl,List.mem_append,List.mem_singleton]
      refine ⟨.inl,fun h=>h.elim id fun h => ?_⟩
      rw [h,c2];exact hm) (str k (by omega) h3)
     exact this
    ·rw [if_neg (zzR (fun h=>c2 (e1.symm.trans (h.trans e2)))),zad (by unfold fits;omega)]
     exact ih (k+1) (by omega) (by omega) (by omega) (fun i a b h=>by
      by_cases e:i=k
      ·subst e;exact c2
      ·exact h3 i a (by omega) h)
  exact key _ 1 rfl (Nat.le_refl _) (by omega) (fun i a b h=>by omega)
theorem sortI {l:List Int} (hl:l.length<=1000000000):∃ l1 r,zkY l=some l1/\zd3 l1=some r/\(∀ x,x∈r↔x∈l)/\r.Pairwise (· < ·)/\r.length<=l.length:=by
 obtain ⟨v,e,b⟩:=zs1 (x:=(l.length:Int)) (by omega) (by omega)
 obtain ⟨l1,e1,h1,h2⟩:=zsK swoI l hl b;have hle:=h1.length_eq;obtain ⟨r,e2,k1,k2,k3⟩:=zyO (s:=l1) (by omega) swoI.irrefl (fun x y a b=>by unfold Go.Sort.ltInt at a b;simp at a b;omega) h2
 refine ⟨l1,r,?_,e2,fun x=>(k1 x).trans h1.mem_iff,k2.imp fun h=>by unfold Go.Sort.ltInt at h;simpa using h,by omega⟩
 unfold zkY;rw [zq9 (by omega) (by omega),e]
 show (zak 0 _ v l).bind _=_;rw [e1];rfl
abbrev Rl:=Int×Int×Int×Int×Unit
abbrev TA:=Int×Int×(List Rl)×Int×(List Int)×Unit
def RLt (x y:Rl):Prop:=x.1 < y.1\/x.1=y.1/\(x.2.1 < y.2.1\/x.2.1=y.2.1/\(x.2.2.1 < y.2.2.1\/x.2.2.1=y.2.2.1/\x.2.2.2.1 < y.2.2.2.1))
theorem zpO (x y:Int):zgl x y=some (if x < y then -1 else if y < x then 1 else 0):=by
 unfold zgl ziY;simp only [Option.bind_some,not_true,decide_false,Bool.false_eq_true,if_false,decide_eq_true_eq];by_cases h:x < y
 ·simp [h]
 ·by_cases h2:y < x<;>simp [h,h2]
theorem zze (a b c d:Int):zu3 [a,b,c,d]=some (if a≠0 then a else if b≠0 then b else if c≠0 then c else d):=by
 unfold zu3;rw [zhT];unfold zdX;have e0:ix [a,b,c,d] 0=a:=rfl;have e1:ix [a,b,c,d] (0+1)=b:=rfl;have e2:ix [a,b,c,d] (0+1+1)=c:=rfl;have e3:ix [a,b,c,d] (0+1+1+1)=d:=rfl;rw [if_pos (by simp),zad (by simp),e0]
 by_cases h:a=0
 ·rw [if_neg (by simp [h]),zad (by decide),zhT];unfold zdX
  rw [if_pos (by simp),zad (by simp),e1]
  by_cases h2:b=0
  ·rw [if_neg (by simp [h2]),zad (by decide),zhT];unfold zdX
   rw [if_pos (by simp),zad (by simp),e2]
   by_cases h3:c=0
   ·rw [if_neg (by simp [h3]),zad (by decide),zhT];unfold zdX
    rw [if_pos (by simp),zad (by simp),e3]
    by_cases h4:d=0
    ·rw [if_neg (by simp [h4]),zad (by decide),zhT];unfold zdX
     rw [if_neg (by simp)]
     simp [h,h2,h3,h4]
    ·rw [if_pos (by simp [h4])];simp [h,h2,h3]
   ·rw [if_pos (by simp [h3])];simp [h,h2,h3]
  ·rw [if_pos (by simp [h2])];simp [h,h2]
 ·rw [if_pos (by simp [h])];simp [h]
theorem zrI (x y:Rl):∃ o,zmr x y=some o/\(0<=o ↔ ¬ RLt x y):=by
 unfold zmr RLt;rw [zpO,zpO,zpO,zpO];simp only [Option.bind_some];rw [zze];refine ⟨_,rfl,?_⟩
 repeat' split
 all_goals omega
theorem zt5 (x y:Rl):zgN (zn5 x y) (RLt x y):=by
 unfold zn5 RLt;by_cases h:x.1=y.1
 ·rw [if_neg (by simp [h])]
  by_cases h2:x.2.1=y.2.1
  ·rw [if_neg (by simp [h2])]
   by_cases h3:x.2.2.1=y.2.2.1
   ·rw [if_neg (by simp [h3])];exact zgN.dec (by omega)
   ·rw [if_pos (by simp [h3])];exact zgN.dec (by omega)
  ·rw [if_pos (by simp [h2])];exact zgN.dec (by omega)
 ·rw [if_pos (by simp [h])];exact zgN.dec (by omega)
def TLet (t:TA):Prop:=t.1 < 1\/4 < t.1
def zr1 (t:TA):Prop:=t.2.1 < 1\/6 < t.2.1\/60 < t.2.2.1.length \/ ¬ (t.2.2.2.2.1.length:Int)=t.2.1
def NoQ (t:TA) (q:Int):Prop:=q < 0\/t.2.1<=q
def RBad (t:TA) (r:Rl):Prop:=r.1 < 0\/t.1<=r.1\/NoQ t r.2.1\/NoQ t r.2.2.1\/NoQ t r.2.2.2.1
def TRul (t:TA):Prop:=∃ x∈t.2.2.1,RBad t x
def TMrk (t:TA):Prop:=∃ x∈t.2.2.2.2.1,x < 0\/9 < x
def TOrd (t:TA):Prop:=∃ i:Int,1<=i/\i < t.2.2.1.length /\ ¬ RLt (ix t.2.2.1 (i - 1)) (ix t.2.2.1 i)
open Classical in
noncomputable def taE (t:TA):Int:=if TLet t then 2 else if zr1 t then 1 else if TRul t then 2 else if NoQ t t.2.2.2.1 then 2 else if TMrk t then 2 else if TOrd t then 3 else 0
theorem chk1 (p:Int) (t:TA):zgN (zfm p t) (NoQ t p):=by
 unfold zfm NoQ;by_cases h:p < 0
 ·rw [if_pos (decide_eq_true h)];exact zgN.of (by simp [h])
 ·rw [if_neg (by simpa using h)];exact zgN.dec (by omega)
theorem chk2 (r:Rl) (t c:TA):∃ b,zh1 r t c=some (b,c)/\(b=true↔(r.1 < 0\/t.1<=r.1\/NoQ c r.2.1\/NoQ c r.2.2.1\/NoQ c r.2.2.2.1)):=by
 unfold zh1;by_cases h:r.1 < 0
 ·rw [if_pos (decide_eq_true h)];exact ⟨true,rfl,by simp [h]⟩
 rw [if_neg (by simpa using h)]
 by_cases h2:t.1<=r.1
 ·rw [if_pos (decide_eq_true h2)];exact ⟨true,rfl,by simp [h2]⟩
 rw [if_neg (by simpa using h2)]
 obtain ⟨b1,e1,i1⟩:=chk1 r.2.1 c;obtain ⟨b2,e2,i2⟩:=chk1 r.2.2.1 c;obtain ⟨b3,e3,i3⟩:=chk1 r.2.2.2.1 c;rw [e1,Option.bind_some]
 cases b1 with
 | true=>rw [if_pos rfl];exact ⟨true,rfl,by simp [i1.1 rfl]⟩
 | false=>
  have n1 : ¬ NoQ c r.2.1:=fun hh=>by simpa using i1.2 hh
  rw [if_neg (by simp),e2,Option.bind_some]
  cases b2 with
  | true=>rw [if_pos rfl];exact ⟨true,rfl,by simp [i2.1 rfl]⟩
  | false=>
   have n2 : ¬ NoQ c r.2.2.1:=fun hh=>by simpa using i2.2 hh
   rw [if_neg (by simp),e3,Option.bind_some]
   exact ⟨b3,rfl,by simp [h,h2,n1,n2,i3]⟩
theorem chk3 (m:Int):zgN (zh2 m) (m < 0\/9 < m):=by
 unfold zh2;by_cases h:m < 0
 ·rw [if_pos (decide_eq_true h)];exact zgN.of (by simp [h])
 ·rw [if_neg (by simpa using h)];exact zgN.dec (by omega)
section
variable {t:TA}
theorem zcn:ziU t=some (taE t):=by
 unfold ziU taE;by_cases c1:TLet t
 ·rw [if_pos c1];unfold TLet at c1
  (try dsimp only);(repeat' first | (with_reducible refine G_to ?_ ?_;focus (first | omega | (unfold fits;omega) | (unfold room;(try simp only [List.length_append,List.length_cons,List.length_nil]);omega))) | (with_reducible refine zeE ?_ ?_) | (with_reducible refine zin ?_) | (with_reducible refine zim ?_) | (with_reducible refine zld (fun _ => ?_) (fun _ => ?_)))<;>try (exfalso;omega)
  all_goals rfl
 rw [if_neg c1];unfold TLet at c1;by_cases c2:zr1 t
 ·rw [if_pos c2];unfold zr1 at c2
  (try dsimp only);(repeat' first | (with_reducible refine G_to ?_ ?_;focus (first | omega | (unfold fits;omega) | (unfold room;(try simp only [List.length_append,List.length_cons,List.length_nil]);omega))) | (with_reducible refine zeE ?_ ?_) | (with_reducible refine zin ?_) | (with_reducible refine zim ?_) | (with_reducible refine zld (fun _ => ?_) (fun _ => ?_)))<;>try (exfalso;omega)
  all_goals rfl
 rw [if_neg c2];unfold zr1 at c2;rw [if_neg (by simp only [decide_eq_true_eq];omega),if_neg (by simp only [decide_eq_true_eq];omega),if_neg (by simp only [decide_eq_true_eq];omega),if_neg (by simp only [decide_eq_true_eq];omega),if_neg (by simp only [decide_eq_true_eq];omega),if_neg (by simp only [decide_eq_true_eq];omega)]
 have k1:∃ b,zeN t.2.2.1 t t=some (b,t)/\(b=true↔TRul t):=by
  unfold zeN zit;exact zqe (f:=fun x c=>zh1 x t c) (L:=fun k c=>zeO t.2.2.1 t k c) (fun k c=>zlu _ _ _ _) (by omega) (fun x _=>chk2 x t t)
 obtain ⟨b,e,hb⟩:=k1;refine zaS e ?_
 cases b with
 | true=>rw [if_pos rfl,if_pos (hb.1 rfl)]
 | false=>
  rw [if_neg (by simp),if_neg (fun h=>by simpa using hb.2 h)]
  refine zgN.to (chk1 _ _) (fun h=>by rw [if_pos h]) (fun c3 => ?_)
  rw [if_neg c3];have hc:zgN (zfx t.2.2.2.2.1) (TMrk t):=zrd (f:=zh2) (zkv t.2.2.2.2.1) (by omega) (fun x _=>chk3 x)
  refine zgN.to hc (fun h=>by rw [if_pos h]) (fun c4 => ?_)
  rw [if_neg c4];refine zuO (len:=(t.2.2.1.length:Int)) (bad:=fun i=>1<=i /\ ¬ RLt (ix t.2.2.1 (i - 1)) (ix t.2.2.1 i)) (by omega) (fun i h0 h1=>⟨fun hb => ?_,fun hb => ?_⟩) (fun hh => ?_)
  ·rw [if_pos (show TOrd t from ⟨i,hb.1,h1,hb.2⟩)];rw [zij];unfold zcY
   (try dsimp only);(repeat' first | (with_reducible refine G_to ?_ ?_;focus (first | omega | (unfold fits;omega) | (unfold room;(try simp only [List.length_append,List.length_cons,List.length_nil]);omega))) | (with_reducible refine zeE ?_ ?_) | (with_reducible refine zin ?_) | (with_reducible refine zim ?_) | (with_reducible refine zld (fun _ => ?_) (fun _ => ?_)))<;>try (exfalso;omega)
   obtain ⟨o,e,ho⟩:=zrI (ix t.2.2.1 (i - 1)) (ix t.2.2.1 i);refine zaS e ?_
   rw [if_pos (decide_eq_true (ho.2 hb.2))]
  ·conv=>lhs;rw [zij];unfold zcY
   by_cases h:0 < i
   ·(try dsimp only);(repeat' first | (with_reducible refine G_to ?_ ?_;focus (first | omega | (unfold fits;omega) | (unfold room;(try simp only [List.length_append,List.length_cons,List.length_nil]);omega))) | (with_reducible refine zeE ?_ ?_) | (with_reducible refine zin ?_) | (with_reducible refine zim ?_) | (with_reducible refine zld (fun _ => ?_) (fun _ => ?_)))<;>try (exfalso;omega)
    obtain ⟨o,e,ho⟩:=zrI (ix t.2.2.1 (i - 1)) (ix t.2.2.1 i);refine zaS e ?_
    rw [if_neg (by rw [decide_eq_true_iff,ho];exact fun h=>hb ⟨by omega,h⟩),zad (by unfold fits;omega)]
   ·(try dsimp only);(repeat' first | (with_reducible refine G_to ?_ ?_;focus (first | omega | (unfold fits;omega) | (unfold room;(try simp only [List.length_append,List.length_cons,List.length_nil]);omega))) | (with_reducible refine zeE ?_ ?_) | (with_reducible refine zin ?_) | (with_reducible refine zim ?_) | (with_reducible refine zld (fun _ => ?_) (fun _ => ?_)))<;>try (exfalso;omega)
    all_goals rfl
  ·have c5 : ¬ TOrd t:=fun ⟨i,i0,i1,i2⟩=>hh i (by omega) i1 ⟨i0,i2⟩
   rw [zij];unfold zcY;rw [if_neg (by simp),if_neg c5]
open Classical in
theorem zjY:zn9 t=some (taE t):=by
 unfold zn9 taE;by_cases c1:TLet t
 ·rw [if_pos c1];unfold TLet at c1
  (try dsimp only);(repeat' first | (with_reducible refine G_to ?_ ?_;focus (first | omega | (unfold fits;omega) | (unfold room;(try simp only [List.length_append,List.length_cons,List.length_nil]);omega))) | (with_reducible refine zeE ?_ ?_) | (with_reducible refine zin ?_) | (with_reducible refine zim ?_) | (with_reducible refine zld (fun _ => ?_) (fun _ => ?_)))<;>try (exfalso;omega)
  all_goals rfl
 rw [if_neg c1];unfold TLet at c1;by_cases c2:zr1 t
 ·rw [if_pos c2];unfold zr1 at c2
  (try dsimp only);(repeat' first | (with_reducible refine G_to ?_ ?_;focus (first | omega | (unfold fits;omega) | (unfold room;(try simp only [List.length_append,List.length_cons,List.length_nil]);omega))) | (with_reducible refine zeE ?_ ?_) | (with_reducible refine zin ?_) | (with_reducible refine zim ?_) | (with_reducible refine zld (fun _ => ?_) (fun _ => ?_)))<;>try (exfalso;omega)
  all_goals rfl
 rw [if_neg c2];unfold zr1 at c2;rw [if_neg (by simp only [decide_eq_true_eq];omega),if_neg (by simp only [decide_eq_true_eq];omega),if_neg (by simp only [decide_eq_true_eq];omega),if_neg (by simp only [decide_eq_true_eq];omega),if_neg (by simp only [decide_eq_true_eq];omega),if_neg (by simp only [decide_eq_true_eq];omega)]
 refine zuO (len:=(t.2.2.1.length:Int)) (bad:=fun i=>RBad t (ix t.2.2.1 i)) (by omega) (fun i h0 h1=>⟨fun hb => ?_,fun hb => ?_⟩) (fun hh => ?_)
 ·rw [if_pos (show TRul t from zut.2 ⟨i,h0,h1,hb⟩)];rw [zje];unfold zdu;unfold RBad NoQ at hb;generalize ix t.2.2.1 i=r at *
  (try dsimp only);(repeat' first | (with_reducible refine G_to ?_ ?_;focus (first | omega | (unfold fits;omega) | (unfold room;(try simp only [List.length_append,List.length_cons,List.length_nil]);omega))) | (with_reducible refine zeE ?_ ?_) | (with_reducible refine zin ?_) | (with_reducible refine zim ?_) | (with_reducible refine zld (fun _ => ?_) (fun _ => ?_)))<;>try (exfalso;omega)
  all_goals rfl
 ·conv=>lhs;rw [zje];unfold zdu
  unfold RBad NoQ at hb;generalize ix t.2.2.1 i=r at *
  (try dsimp only);(repeat' first | (with_reducible refine G_to ?_ ?_;focus (first | omega | (unfold fits;omega) | (unfold room;(try simp only [List.length_append,List.length_cons,List.length_nil]);omega))) | (with_reducible refine zeE ?_ ?_) | (with_reducible refine zin ?_) | (with_reducible refine zim ?_) | (with_reducible refine zld (fun _ => ?_) (fun _ => ?_)))<;>try (exfalso;omega)
  all_goals rfl
 rw [if_neg (show ¬ TRul t from fun h=>by obtain ⟨i,i0,i1,i2⟩:=zut.1 h;exact hh i i0 i1 i2)]
 rw [zje];unfold zdu;rw [if_neg (by simp)]
 by_cases c3:NoQ t t.2.2.2.1
 ·rw [if_pos c3];unfold NoQ at c3
  (try dsimp only);(repeat' first | (with_reducible refine G_to ?_ ?_;focus (first | omega | (unfold fits;omega) | (unfold room;(try simp only [List.length_append,List.length_cons,List.length_nil]);omega))) | (with_reducible refine zeE ?_ ?_) | (with_reducible refine zin ?_) | (with_reducible refine zim ?_) | (with_reducible refine zld (fun _ => ?_) (fun _ => ?_)))<;>try (exfalso;omega)
  all_goals rfl
 rw [if_neg c3];unfold NoQ at c3;rw [if_neg (by simp only [decide_eq_true_eq];omega),if_neg (by simp only [decide_eq_true_eq];omega)]
 refine zuO (len:=(t.2.2.2.2.1.length:Int)) (bad:=fun i=>ix t.2.2.2.2.1 i < 0\/9 < ix t.2.2.2.2.1 i) (by omega) (fun i h0 h1=>⟨fun hb => ?_,fun hb => ?_⟩) (fun hh => ?_)
 ·rw [if_pos (show TMrk t from zut.2 ⟨i,h0,h1,hb⟩)];rw [ziq];unfold zc1
  (try dsimp only);(repeat' first | (with_reducible refine G_to ?_ ?_;focus (first | omega | (unfold fits;omega) | (unfold room;(try simp only [List.length_append,List.length_cons,List.length_nil]);omega))) | (with_reducible refine zeE ?_ ?_) | (with_reducible refine zin ?_) | (with_reducible refine zim ?_) | (with_reducible refine zld (fun _ => ?_) (fun _ => ?_)))<;>try (exfalso;omega)
  all_goals rfl
 ·conv=>lhs;rw [ziq];unfold zc1
  (try dsimp only);(repeat' first | (with_reducible refine G_to ?_ ?_;focus (first | omega | (unfold fits;omega) | (unfold room;(try simp only [List.length_append,List.length_cons,List.length_nil]);omega))) | (with_reducible refine zeE ?_ ?_) | (with_reducible refine zin ?_) | (with_reducible refine zim ?_) | (with_reducible refine zld (fun _ => ?_) (fun _ => ?_)))<;>try (exfalso;omega)
  all_goals rfl
 rw [if_neg (show ¬ TMrk t from fun h=>by obtain ⟨i,i0,i1,i2⟩:=zut.1 h;exact hh i i0 i1 i2)]
 rw [ziq];unfold zc1;rw [if_neg (by simp)]
 by_cases c0:t.2.2.1.length=0
 ·rw [zir];unfold zc2;rw [if_neg (by simp only [decide_eq_true_eq];omega),if_neg (fun ⟨i,i0,i1,_⟩=>by omega)]
 have k:∀ (n:Nat) (i:Int),(t.2.2.1.length - i).toNat=n->1<=i->i<=t.2.2.1.length->(∀ j:Int,1<=j->j < i->RLt (ix t.2.2.1 (j - 1)) (ix t.2.2.1 j))->ziK t i=some (if TOrd t then 3 else 0):=by
  intro n
  induction n with
  | zero=>
   intro i hn i0 i1 h;rw [zir];unfold zc2;rw [if_neg (by simp only [decide_eq_true_eq];omega),if_neg (fun ⟨j,j0,j1,j2⟩=>j2 (h j j0 (by omega)))]
  | succ n ih=>
   intro i hn i0 i1 h;rw [zir];unfold zc2;rw [if_pos (by simp only [decide_eq_true_eq];omega),zad (by unfold fits;omega),zad (by omega),zad (by omega)]
   obtain ⟨b,eb,hb⟩:=zt5 (ix t.2.2.1 (i - 1)) (ix t.2.2.1 i);refine zaS eb ?_
   cases b with
   | true=>
    rw [if_neg (by simp),zad (by unfold fits;omega)]
    refine ih (i+1) (by omega) (by omega) (by omega) fun j j0 j1 => ?_
    by_cases e:j=i
    ·rw [e];exact hb.1 rfl
    ·exact h j j0 (by omega)
   | false=>rw [if_pos (by simp),if_pos ⟨i,i0,by omega,fun c=>by simpa using hb.2 c⟩]
 exact k _ 1 rfl (by omega) (by omega) (fun j j0 j1=>by omega)
structure AOk (t:TA):Prop where
 s:1<=t.2.1/\t.2.1<=6
 r:t.2.2.1.length<=60
 m:(t.2.2.2.2.1.length:Int)=t.2.1
 ru:∀ k:Int,0<=k->k < t.2.2.1.length->(0<=(ix t.2.2.1 k).2.1/\(ix t.2.2.1 k).2.1 < t.2.1)/\(0<=(ix t.2.2.1 k).2.2.1/\(ix t.2.2.1 k).2.2.1 < t.2.1)/\(0<=(ix t.2.2.1 k).2.2.2.1/\(ix t.2.2.1 k).2.2.2.1 < t.2.1)
 st:0<=t.2.2.2.1/\t.2.2.2.1 < t.2.1
 mq:∀ p:Int,0<=p->p < t.2.1->0<=ix t.2.2.2.2.1 p/\ix t.2.2.2.2.1 p<=9
theorem zym (h:taE t=0):AOk t:=by
 unfold taE at h;by_cases c1:TLet t
 ·rw [if_pos c1] at h;omega
 rw [if_neg c1] at h;by_cases c2:zr1 t
 ·rw [if_pos c2] at h;omega
 rw [if_neg c2] at h;by_cases c3:TRul t
 ·rw [if_pos c3] at h;omega
 rw [if_neg c3] at h;by_cases c4:NoQ t t.2.2.2.1
 ·rw [if_pos c4] at h;omega
 rw [if_neg c4] at h;by_cases c5:TMrk t
 ·rw [if_pos c5] at h;omega
 unfold zr1 at c2;unfold NoQ at c4;refine ⟨by omega,by omega,by omega,fun k k0 k1 => ?_,by omega,fun p p0 p1 => ?_⟩
 ·have : ¬ RBad t (ix t.2.2.1 k):=fun hb=>c3 ⟨_,zg4 k0 k1,hb⟩
  unfold RBad NoQ at this;omega
 ·have : ¬ (ix t.2.2.2.2.1 p < 0\/9 < ix t.2.2.2.2.1 p):=fun hb=>c5 ⟨_,zg4 p0 (by omega),hb⟩
  omega
end
section
variable {a:TA}
def ToOf (a:TA) (k:Int):Int:=(ix a.2.2.1 k).2.2.2.1
def LfOf (a:TA) (k:Int):Int:=(ix a.2.2.1 k).2.1
def RtOf (a:TA) (k:Int):Int:=(ix a.2.2.1 k).2.2.1
def ow (a:TA) (p:Int):Int:=if p < a.2.1 then 0 else if p < a.2.1+(a.2.2.1.length:Int) then 1 else 0
def mkG (a:TA) (p:Int):Int:=if p < a.2.1 then ix a.2.2.2.2.1 p else if p < a.2.1+(a.2.2.1.length:Int) then 9 else 1
def Nxt (a:TA) (p q:Int):Prop:=
 (p < a.2.1/\((∃ k,0<=k/\k < (a.2.2.1.length:Int)/\ToOf a k=p/\q=a.2.1+k)\/((∀ k,0<=k->k < (a.2.2.1.length:Int) -> ¬ ToOf a k=p)/\q=a.2.1+(a.2.2.1.length:Int))))\/
 (a.2.1<=p/\p < a.2.1+(a.2.2.1.length:Int)/\(q=LfOf a (p - a.2.1)\/q=RtOf a (p - a.2.1)))\/(p=a.2.1+(a.2.2.1.length:Int)/\q=a.2.1+(a.2.2.1.length:Int))
structure Row (a:TA) (p:Int) (l:List Int):Prop where
 mem:∀ q,q∈l↔Nxt a p q
 inc:l.Pairwise (fun x y=>x < y)
structure PI (a:TA) (t:Int) (O M:List Int) (N:List (List Int)):Prop where
 lo:(O.length:Int)=t
 lm:(M.length:Int)=t
 ln:(N.length:Int)=t
 o:∀ p:Int,0<=p->p < t->ix O p=ow a p
 m:∀ p:Int,0<=p->p < t->ix M p=mkG a p
 x:∀ p:Int,0<=p->p < t->Row a p (ix N p)
theorem zhP {α:Type} [Inhabited α] {l:List α} {x:α} {t:Int} (h:(l.length:Int)=t):ix (l++[x]) t=x:=by rw [<- h];exact zmO
theorem PI.put {t x y:Int} {O M l:List Int} {N:List (List Int)} (h:PI a t O M N) (hx:x=ow a t) (hy:y=mkG a t) (hl:Row a t l):PI a (t+1) (O++[x]) (M++[y]) (N++[l]):=by
 have h1:=h.lo;have h2:=h.lm;have h3:=h.ln;refine ⟨by rw [List.length_append,List.length_singleton];omega,by rw [List.length_append,List.length_singleton];omega,by rw [List.length_append,List.length_singleton];omega,fun p p0 p1 => ?_,fun p p0 p1 => ?_,fun p p0 p1 => ?_⟩
 all_goals by_cases e:p=t
 ·rw [e,zhP h1];exact hx
 ·rw [zaY p0 (by omega)];exact h.o p p0 (by omega)
 ·rw [e,zhP h2];exact hy
 ·rw [zaY p0 (by omega)];exact h.m p p0 (by omega)
 ·rw [e,zhP h3];exact hl
 ·rw [zaY p0 (by omega)];exact h.x p p0 (by omega)
theorem pw_ix {l:List Int} (h:l.Pairwise (fun x y=>x < y)) {k:Int} (k0:1<=k) (k1:k < l.length):ix l (k - 1) < ix l k:=by
 have e1:ix l (k - 1)=l[(k - 1).toNat]'(by omega):=znL (by omega) (by omega)
 have e2:ix l k=l[k.toNat]'(by omega):=znL (by omega) (by omega)
 rw [e1,e2];exact (List.pairwise_iff_getElem.1 h) _ _ _ _ (by omega)
theorem zzd (ok:AOk a) {p q:Int} (p0:0<=p) (h:Nxt a p q):0<=q/\q < a.2.1+(a.2.2.1.length:Int)+1:=by
 have hs:=ok.s;rcases h with ⟨_,⟨k,k0,k1,_,e⟩ | ⟨_,e⟩⟩ | ⟨h1,h2,e⟩ | ⟨_,e⟩
 ·omega
 ·omega
 ·have:=ok.ru (p - a.2.1) (by omega) (by omega)
  unfold LfOf RtOf at e;omega
 ·omega
theorem zz7 (p:Int) (p0:0<=p) (p1:p < a.2.1+(a.2.2.1.length:Int)+1):∃ q,Nxt a p q:=by
 by_cases c1:p < a.2.1
 ·by_cases c:∃ k,0<=k/\k < (a.2.2.1.length:Int)/\ToOf a k=p
  ·obtain ⟨k,k0,k1,e⟩:=c;exact ⟨_,.inl ⟨c1,.inl ⟨k,k0,k1,e,rfl⟩⟩⟩
  ·exact ⟨_,.inl ⟨c1,.inr ⟨fun k k0 k1 e=>c ⟨k,k0,k1,e⟩,rfl⟩⟩⟩
 ·by_cases c2:p < a.2.1+(a.2.2.1.length:Int)
  ·exact ⟨_,.inr (.inl ⟨by omega,c2,.inl rfl⟩)⟩
  ·exact ⟨_,.inr (.inr ⟨by omega,rfl⟩)⟩
theorem PI.ok (hA:AOk a) {O M:List Int} {N:List (List Int)} (h:PI a (a.2.1+(a.2.2.1.length:Int)+1) O M N):GOk (O,M,N,()):=by
 have hs:=hA.s;have hr:=hA.r;have h1:=h.lo;have h2:=h.lm;have h3:=h.ln;refine ⟨by dsimp only;omega,by dsimp only;omega,by dsimp only;omega,fun p p0 p1 => ?_,fun p p0 p1 => ?_,fun p p0 p1 => ?_,fun p p0 p1 q hq => ?_,fun p p0 p1 k k0 k1 => ?_⟩
 all_goals dsimp only at *
 ·rw [h.o p p0 (by omega)];unfold ow;split
  ·exact .inl rfl
  ·split
   ·exact .inr rfl
   ·exact .inl rfl
 ·rw [h.m p p0 (by omega)];unfold mkG;split
  ·exact hA.mq p p0 (by omega)
  ·split<;>omega
 ·obtain ⟨q,hq⟩:=zz7 (a:=a) p p0 (by omega)
  exact List.length_pos_of_mem (((h.x p p0 (by omega)).mem q).2 hq)
 ·have:=zzd hA p0 (((h.x p p0 (by omega)).mem q).1 hq)
  omega
 ·exact pw_ix (h.x p p0 (by omega)).inc k0 k1
abbrev WonR:=List Int×List Int×Unit
theorem zxr (ok:AOk a) {t:Int} (t0:0<=t) (t1:t < a.2.1) {O M:List Int} {N:List (List Int)} (h:PI a t O M N) {r4:TA->Int->List Int->List Int->List (List Int)->Option (GM×WonR)}:∀ (n:Nat) (k:Int) (l:List Int),((a.2.2.1.length:Int) - k).toNat=n->0<=k->k<=(a.2.2.1.length:Int)->(∀ q,q∈l↔∃ j,0<=j/\j < k/\ToOf a j=t/\q=a.2.1+j)->l.Pairwise (fun x y=>x < y)->
  ∃ O' M' N',zdY a a t O M N r4 k l=r4 a (t+1) O' M' N'/\PI a (t+1) O' M' N':=by
 have hs:=ok.s;have hr:=ok.r;have hm:=ok.m;have hO:=h.lo;have hM:=h.lm;have hN:=h.ln;have J:∀ l,Row a t l->∃ O' M' N',zdA a t O M N r4 l=r4 a (t+1) O' M' N'/\PI a (t+1) O' M' N':=fun l hl=>by
  refine ⟨O++[0],M++[ix a.2.2.2.2.1 t],N++[l],?_,h.put (by unfold ow;rw [if_pos t1]) (by unfold mkG;rw [if_pos t1]) hl⟩
  have fin:zaD t r4 a (O++[0]) (M++[ix a.2.2.2.2.1 t]) (N++[l])=r4 a (t+1) (O++[0]) (M++[ix a.2.2.2.2.1 t]) (N++[l]):=by
   unfold zaD;rw [zad (by unfold fits;omega)]
  unfold zdA;rw [zad (by omega)]
  repeat' first | exact fin | refine zeE ?_ ?_ | refine G_to (by unfold room;simp;omega) ?_
 intro n
 induction n with
 | zero=>
  intro k l hn k0 k1 hl hp;obtain rfl:k=(a.2.2.1.length:Int):=by omega
  rw [zkk];unfold zdg;rw [if_neg (by simp only [decide_eq_true_eq];omega)]
  by_cases c:l.length=0
  ·rw [if_pos (by simpa using c)]
   obtain rfl:l=[]:=List.eq_nil_of_length_eq_zero c;refine J _ ⟨fun q => ?_,by simp⟩
   rw [List.mem_singleton];have hno:∀ k,0<=k->k < (a.2.2.1.length:Int) -> ¬ ToOf a k=t:=fun k k0 k1 e=>by cases (hl _).2 ⟨k,k0,k1,e,rfl⟩
   constructor
   ·intro e;exact .inl ⟨t1,.inr ⟨hno,e⟩⟩
   ·rintro (⟨_,⟨k,k0,k1,e,_⟩ | ⟨_,e⟩⟩ | ⟨h1,_⟩ | ⟨h1,_⟩)
    ·exact absurd e (hno k k0 k1)
    ·exact e
    ·omega
    ·omega
  ·rw [if_neg (by simpa using c)]
   refine J _ ⟨fun q => ?_,hp⟩
   obtain ⟨y,hy⟩:∃ y,y∈l:=List.exists_mem_of_length_pos (by omega)
   obtain ⟨j,j0,j1,je,_⟩:=(hl y).1 hy;rw [hl q];constructor
   ·rintro ⟨k,k0,k1,e⟩;exact .inl ⟨t1,.inl ⟨k,k0,k1,e⟩⟩
   ·rintro (⟨_,⟨k,k0,k1,e⟩ | ⟨hno,_⟩⟩ | ⟨h1,_⟩ | ⟨h1,_⟩)
    ·exact ⟨k,k0,k1,e⟩
    ·exact absurd je (hno j j0 j1)
    ·omega
    ·omega
 | succ n ih=>
  intro k l hn k0 k1 hl hp;have hlen:(l.length:Int)<=k:=by
   have hnd:l.Nodup:=hp.imp fun h=>by omega
   have:=zce (l:=l.map (fun x=>x - a.2.1)) (n:=k.toNat) (by unfold List.Nodup;rw [List.pairwise_map];exact hp.imp fun h=>by omega) (fun x hx=>by
    obtain ⟨y,hy,rfl⟩:=List.mem_map.1 hx;obtain ⟨j,j0,j1,_,e⟩:=(hl y).1 hy;omega)
   rw [List.length_map] at this;omega
  have hru:=(ok.ru k k0 (by omega)).2.2
  rw [zkk];unfold zdg;rw [if_pos (by simp only [decide_eq_true_eq];omega),zad (by omega)]
  by_cases c:(ix a.2.2.1 k).2.2.2.1=t
  ·rw [if_pos (decide_eq_true c),zad (by unfold fits;omega),zad (by unfold room;simp;omega),zad (by unfold fits;omega)]
   refine ih (k+1) _ (by omega) (by omega) (by omega) (fun q => ?_) ?_
   ·rw [List.mem_append,List.mem_singleton,hl q];constructor
    ·rintro (⟨j,j0,j1,e⟩ | e)
     ·exact ⟨j,j0,by omega,e⟩
     ·exact ⟨k,k0,by omega,c,e⟩
    ·rintro ⟨j,j0,j1,e1,e2⟩;by_cases e:j=k
     ·subst e;exact .inr e2
     ·exact .inl ⟨j,j0,by omega,e1,e2⟩
   ·rw [List.pairwise_append];refine ⟨hp,by simp,fun x hx y hy => ?_⟩
    obtain ⟨j,j0,j1,_,e⟩:=(hl x).1 hx;rw [List.mem_singleton] at hy;omega
  ·rw [if_neg (by simpa using c),zad (by unfold fits;omega)]
   refine ih (k+1) _ (by omega) (by omega) (by omega) (fun q => ?_) hp
   rw [hl q];constructor
   ·rintro ⟨j,j0,j1,e⟩;exact ⟨j,j0,by omega,e⟩
   ·rintro ⟨j,j0,j1,e1,e2⟩;by_cases e:j=k
    ·subst e;exact absurd e1 c
    ·exact ⟨j,j0,by omega,e1,e2⟩
theorem zvY (ok:AOk a):∀ (n:Nat) (k:Int) (O M:List Int) (N:List (List Int)),((a.2.2.1.length:Int) - k).toNat=n->0<=k->k<=(a.2.2.1.length:Int)->PI a (a.2.1+k) O M N->
  ∃ O' M' N' win mv,zfn a a k O M N=some ((O',M',N',()),win,mv,())/\PI a (a.2.1+(a.2.2.1.length:Int)+1) O' M' N'/\Won (O',M',N',()) win mv:=by
 have hs:=ok.s;have hr:=ok.r;have hm:=ok.m;intro n
 induction n with
 | zero=>
  intro k O M N hn k0 k1 h;obtain rfl:k=(a.2.2.1.length:Int):=by omega
  have hO:=h.lo;have hM:=h.lm;have hN:=h.ln;have h':PI a (a.2.1+(a.2.2.1.length:Int)+1) (O++[0]) (M++[1]) (N++[[a.2.1+(a.2.2.1.length:Int)]]):=h.put (by unfold ow;rw [if_neg (by omega),if_neg (by omega)]) (by unfold mkG;rw [if_neg (by omega),if_neg (by omega)]) ⟨fun q=>by
   rw [List.mem_singleton];constructor
   ·intro e;exact .inr (.inr ⟨rfl,e⟩)
   ·rintro (⟨h1,_⟩ | ⟨_,h1,_⟩ | ⟨_,e⟩)
    ·omega
    ·omega
    ·exact e,by simp⟩
  obtain ⟨win,mv,e,hw⟩:=zt2 (h'.ok ok);refine ⟨_,_,_,win,mv,?_,h',hw⟩
  have fin:zaf (O++[0]) (M++[1]) (N++[[a.2.1+(a.2.2.1.length:Int)]])=some ((O++[0],M++[1],N++[[a.2.1+(a.2.2.1.length:Int)]],()),win,mv,()):=by
   unfold zaf;rw [e];rfl
  rw [zjB];unfold zcM;rw [if_neg (by simp only [decide_eq_true_eq];omega)]
  repeat' first | exact fin | refine zeE ?_ ?_ | refine G_to (by unfold room;simp;omega) ?_
 | succ n ih=>
  intro k O M N hn k0 k1 h;have hO:=h.lo;have hM:=h.lm;have hN:=h.ln;obtain ⟨l1,r,e1,e2,m1,m2,m3⟩:=sortI (l:=[(ix a.2.2.1 k).2.1,(ix a.2.2.1 k).2.2.1]) (by simp)
  have h':PI a (a.2.1+k+1) (O++[1]) (M++[9]) (N++[r]):=h.put (by unfold ow;rw [if_neg (by omega),if_pos (by omega)]) (by unfold mkG;rw [if_neg (by omega),if_pos (by omega)]) ⟨fun q=>by
   rw [m1 q];simp only [List.mem_cons,List.not_mem_nil,or_false];constructor
   ·intro e;exact .inr (.inl ⟨by omega,by omega,by rw [show a.2.1+k - a.2.1=k by omega];exact e⟩)
   ·rintro (⟨h1,_⟩ | ⟨_,_,e⟩ | ⟨h1,e⟩)
    ·omega
    ·rw [show a.2.1+k - a.2.1=k by omega] at e;exact e
    ·omega,m2⟩
  rw [show a.2.1+k+1=a.2.1+(k+1) by omega] at h'
  obtain ⟨O',M',N',win,mv,e,hh⟩:=ih (k+1) _ _ _ (by omega) (by omega) (by omega) h'
  refine ⟨O',M',N',win,mv,?_,hh⟩
  have fin:zc0 k (zfn a a) (O++[1]) (M++[9]) (N++[r])=some ((O',M',N',()),win,mv,()):=by
   unfold zc0;rw [zad (by unfold fits;omega)];exact e
  rw [zjB];unfold zcM;rw [if_pos (by simp only [decide_eq_true_eq];omega),zad (by omega),e1,Option.bind_some,e2]
  simp only [Option.bind_some]
  repeat' first | exact fin | refine zeE ?_ ?_ | refine G_to (by unfold room;simp;omega) ?_
theorem zuH (ok:AOk a):∃ O M N win mv,zi6 a=some ((O,M,N,()),win,mv,())/\PI a (a.2.1+(a.2.2.1.length:Int)+1) O M N/\Won (O,M,N,()) win mv:=by
 have hs:=ok.s;have hr:=ok.r;have hm:=ok.m;have k4:∀ (n:Nat) (t:Int) (O M:List Int) (N:List (List Int)),(a.2.1 - t).toNat=n->0<=t->t<=a.2.1->PI a t O M N->
   ∃ O' M' N' win mv,zf3 a a t O M N=some ((O',M',N',()),win,mv,())/\PI a (a.2.1+(a.2.2.1.length:Int)+1) O' M' N'/\Won (O',M',N',()) win mv:=by
  intro n
  induction n with
  | zero=>
   intro t O M N hn t0 t1 h;obtain rfl:t=a.2.1:=by omega
   rw [zkj];unfold zdf;rw [if_neg (by simp only [decide_eq_true_eq];omega)]
   exact zvY ok _ 0 O M N rfl (by omega) (by omega) (by rw [Int.add_zero];exact h)
  | succ n ih=>
   intro t O M N hn t0 t1 h;obtain ⟨O',M',N',e,h'⟩:=zxr ok t0 (by omega) h (r4:=zf3 a) _ 0 [] rfl (by omega) (by omega) (fun q=>⟨fun h=>(by cases h),fun ⟨j,j0,j1,_⟩=>by omega⟩) (by simp)
   rw [zkj];unfold zdf;rw [if_pos (by simp only [decide_eq_true_eq];omega),e]
   exact ih (t+1) O' M' N' (by omega) (by omega) (by omega) h'
 unfold zi6;rw [zad (by unfold fits;omega)]
 exact k4 _ 0 [] [] [] rfl (by omega) (by omega) ⟨rfl,rfl,rfl,fun p p0 p1=>by omega,fun p p0 p1=>by omega,fun p p0 p1=>by omega⟩
end
theorem zfH {α:Type}:∀ {ks:List α} {x:α},zdH ks x=none↔x∉ks
 | [],x=>by simp [zdH]
 | y::ys,x=>by
  unfold zdH;by_cases h:y=x
  ·rw [if_pos h];simp [h]
  ·rw [if_neg h,Option.map_eq_none_iff,zfH];simp [Ne.symm h]
abbrev ones {α:Type} (ks:List α):List Int:=List.replicate ks.length 1
theorem zz4 {α:Type} {ks:List α} {x:α}:(mget ks (ones ks) x 0=0)↔x∉ks:=by
 unfold mget
 cases h:zdH ks x with
 | none=>simp [zfH.1 h]
 | some j=>
  have hx:x∈ks:=by
   refine Classical.byContradiction fun hn => ?_
   rw [zfH.2 hn] at h;cases h
  have:=zkO h;simp [hx,this]
theorem zz5 {α:Type} {ks:List α} {x:α} (h:x∉ks):zmx ks x=ks++[x]:=by
 unfold zmx;rw [zfH.2 h]
theorem zz6 {α:Type} {ks:List α} {x:α} (h:x∉ks):zpG ks (ones ks) x 1=ones (ks++[x]):=by
 unfold zpG;rw [zfH.2 h];show List.replicate ks.length 1++[1]=List.replicate (ks++[x]).length 1;rw [List.length_append,List.length_singleton,List.replicate_succ']
theorem zxf {α:Type} {ks:List α} {x:α} (h:x∈ks):∃ j,zdH ks x=some j:=by
 cases e:zdH ks x with
 | none=>exact absurd h (zfH.1 e)
 | some j=>exact ⟨j,rfl⟩
theorem znU {α:Type} (ks:List α) (x:α):zdH (x::ks) x=some 0:=by unfold zdH;rw [if_pos rfl]
theorem znV {α:Type} {ks:List α} {x y:α} (h:y≠x):zdH (y::ks) x=(zdH ks x).map (·+1):=by
 rw [zdH,if_neg h]
theorem zxd {α:Type}:∀ {ks:List α} {x:α} {j:Nat} (l:List α),zdH ks x=some j->zdH (ks++l) x=some j
 | [],_,_,_,h=>by cases h
 | y::ks,x,j,l,h=>by
  rw [List.cons_append];by_cases e:y=x
  ·subst e;rw [znU] at h ⊢;exact h
  ·rw [znV e] at h ⊢
   cases hm:zdH ks x with
   | none=>rw [hm] at h;cases h
   | some i=>rw [hm] at h;rw [zxd l hm];exact h
theorem zxg {α:Type}:∀ {ks:List α} {x:α},x∉ks->zdH (ks++[x]) x=some ks.length
 | [],x,_=>znU _ _
 | y::ks,x,h=>by
  have hy:y≠x:=by rintro rfl;exact h (by simp)
  rw [List.cons_append,znV hy,zxg (fun hh=>h (by simp [hh]))];rfl
theorem zvl {α:Type}:∀ {ks:List α} {x:α} {k:Nat},ks[k]? =some x->(∀ j,j < k->ks[j]? ≠some x)->zdH ks x=some k
 | [],_,_,h,_=>by simp at h
 | y::ks,x,k,h,hf=>by
  cases k with
  | zero=>
   have:y=x:=by simpa using h
   subst this;exact znU _ _
  | succ k=>
   have hy:y≠x:=by have:=hf 0 (by omega);simpa using this
   rw [znV hy,zvl (k:=k) (by simpa using h) (fun j hj=>by have:=hf (j+1) (by omega);simpa using this)];rfl
theorem zz3 {α:Type} {ks:List α} {x y:α} {j:Nat} (h:zdH ks x=some j) (k:zdH ks y=some j):x=y:=by
 have:=zjb h;rw [zjb k] at this;injection this with this;exact this.symm
theorem zy7 {α:Type} {ks:List α} (hn:ks.Nodup) {j:Nat} (hj:j < ks.length):zdH ks ks[j]=some j:=
 zvl (by simp) fun i hi e=>by
  have hi':i < ks.length:=by omega
  rw [List.getElem?_eq_getElem hi'] at e;exact List.pairwise_iff_getElem.1 hn i j hi' hj hi (Option.some.inj e)
theorem zxe {α β:Type} (f:α->β):∀ {ks:List α} {x:α},(∀ y∈ks,f y=f x->y=x)->zdH (ks.map f) (f x)=zdH ks x
 | [],_,_=>rfl
 | y::ks,x,h=>by
  have ih:=zxe f (ks:=ks) (x:=x) (fun z hz=>h z (by simp [hz]))
  rw [List.map_cons];by_cases e:y=x
  ·subst e;rw [znU,znU]
  ·rw [znV e,znV (fun hh=>e (h y (by simp) hh)),ih]
def iota (n:Nat):List Int:=(List.range n).map fun j:Nat=>(j:Int)
theorem iota_len (n:Nat):(iota n).length=n:=by simp [iota]
theorem ztu (n:Nat):iota (n+1)=iota n++[(n:Int)]:=by simp [iota,List.range_succ]
theorem zxh {α:Type} {ks:List α} {x:α} {j:Nat} (h:zdH ks x=some j):mget ks (iota ks.length) x 0=j:=by
 have:=zkO h;unfold mget;rw [h];simp [iota,this]
theorem zvm {α:Type} {ks:List α} {x:α}:mhas ks x=true↔x∈ks:=by
 unfold mhas
 cases e:zdH ks x with
 | none=>simp [zfH.1 e]
 | some j=>
  have:=zjb e;simp [List.mem_of_getElem? this]
theorem zzK {α:Type} {ks:List α} {x:α} (h:x∉ks):zpG ks (iota ks.length) x ks.length=iota (ks++[x]).length:=by
 unfold zpG;rw [zfH.2 h,List.length_append,List.length_singleton,ztu]
theorem zub {α:Type} [DecidableEq α]:∀ {l U:List α},U.Nodup->(∀ x∈U,x∈l)->l.length<=U.length->l.Nodup
 | [],_,_,_,_=>List.nodup_nil
 | a::l,U,hU,hs,hl=>by
  have ha:a∉l:=fun ha=>by
   have:=zxq (l:=U) (U:=l) hU (fun x hx=>by
    rcases List.mem_cons.1 (hs x hx) with rfl | h
    ·exact ha
    ·exact h)
   rw [List.length_cons] at hl;omega
  refine List.nodup_cons.2 ⟨ha,?_⟩
  refine zub (U:=U.erase a) (hU.erase a) (fun x hx => ?_) ?_
  ·have hne:x≠a:=((List.Nodup.mem_erase_iff hU).1 hx).1;rcases List.mem_cons.1 (hs x (List.mem_of_mem_erase hx)) with h | h
   ·exact absurd h hne
   ·exact h
  ·have:U.length - 1<=(U.erase a).length:=by
    by_cases h:a∈U
    ·rw [List.length_erase_of_mem h];omega
    ·rw [List.erase_of_not_mem h];omega
   rw [List.length_cons] at hl;omega
section
variable {a:TA} {O M win mv:List Int} {N:List (List Int)}
theorem zpL (ok:AOk a) {k:Int} (k0:0<=k) (k1:k < a.2.2.1.length):(0<=ToOf a k/\ToOf a k < a.2.1)/\(0<=LfOf a k/\LfOf a k < a.2.1)/\(0<=RtOf a k/\RtOf a k < a.2.1):=by
 have:=ok.ru k k0 k1;unfold ToOf LfOf RtOf;exact ⟨this.2.2,this.1,this.2.1⟩
theorem zyR (ok:AOk a) (h:PI a (a.2.1+(a.2.2.1.length:Int)+1) O M N) (w:Won (O,M,N,()) win mv):ix win (a.2.1+(a.2.2.1.length:Int))=1:=by
 have hs:=ok.s;have hO:=h.lo;have e0:ix O (a.2.1+(a.2.2.1.length:Int))=0:=by rw [h.o _ (by omega) (by omega)];unfold ow;rw [if_neg (by omega),if_neg (by omega)]
 have e1:ix M (a.2.1+(a.2.2.1.length:Int))=1:=by rw [h.m _ (by omega) (by omega)];unfold mkG;rw [if_neg (by omega),if_neg (by omega)]
 have em:∀ q,q∈ix N (a.2.1+(a.2.2.1.length:Int))↔q=a.2.1+(a.2.2.1.length:Int):=fun q=>by
  rw [(h.x _ (by omega) (by omega)).mem q]
  constructor
  ·rintro (⟨h1,_⟩ | ⟨_,h1,_⟩ | ⟨_,e⟩)
   ·omega
   ·omega
   ·exact e
  ·intro e;exact .inr (.inr ⟨rfl,e⟩)
 rcases w.two (a.2.1+(a.2.2.1.length:Int)) (by omega) (by dsimp only;omega) with c | c
 ·exfalso;have hc:=w.cyc (a.2.1+(a.2.2.1.length:Int)) (by omega) (by dsimp only;omega) (by dsimp only;rw [e1,c];decide)
  have ho:=(w.own (a.2.1+(a.2.2.1.length:Int)) (by omega) (by dsimp only;omega) (by dsimp only;rw [e0,c])).1
  dsimp only at ho hc;refine hc (.one ⟨(em _).2 rfl,fun _ => ?_⟩)
  exact ((em _).1 ho).symm
 ·exact c
theorem zzk (ok:AOk a) (h:PI a (a.2.1+(a.2.2.1.length:Int)+1) O M N) (w:Won (O,M,N,()) win mv) {q:Int} (q0:0<=q) (q1:q < a.2.1) (hq:ix win q=0):
  ∃ k:Int,0<=k/\k < a.2.2.1.length/\ix mv q=a.2.1+k/\ToOf a k=q/\ix win (LfOf a k)=0/\ix win (RtOf a k)=0:=by
 have hs:=ok.s;have hO:=h.lo;have e0:ix O q=0:=by rw [h.o _ q0 (by omega)];unfold ow;rw [if_pos q1]
 obtain ⟨m1,m2⟩:=w.own q q0 (by dsimp only;omega) (by dsimp only;rw [e0,hq])
 dsimp only at m1 m2;rcases ((h.x q q0 (by omega)).mem _).1 m1 with ⟨_,⟨k,k0,k1,e1,e2⟩ | ⟨_,e⟩⟩ | ⟨h1,_⟩ | ⟨h1,_⟩
 ·refine ⟨k,k0,k1,e2,e1,?_⟩
  have o1:ix O (a.2.1+k)=1:=by rw [h.o _ (by omega) (by omega)];unfold ow;rw [if_neg (by omega),if_pos (by omega)]
  rw [e2,hq] at m2;have:=(w.oth (a.2.1+k) (by omega) (by dsimp only;omega) (by dsimp only;rw [o1,m2];decide)).2
  dsimp only at this;have hm:=(h.x (a.2.1+k) (by omega) (by omega)).mem
  refine ⟨?_,?_⟩
  ·rw [this _ ((hm _).2 (.inr (.inl ⟨by omega,by omega,.inl (by rw [show a.2.1+k - a.2.1=k by omega])⟩))),m2]
  ·rw [this _ ((hm _).2 (.inr (.inl ⟨by omega,by omega,.inr (by rw [show a.2.1+k - a.2.1=k by omega])⟩))),m2]
 ·rw [e,zyR ok h w,hq] at m2;omega
 ·omega
 ·omega
structure MI (a:TA) (win row c c1:List Int):Prop where
 nd:row.Nodup
 rng:∀ x∈row,0<=x/\x < a.2.1/\ix win x=0
 k:c=row
 v:c1=iota row.length
theorem MI.len (ok:AOk a) {row c c1:List Int} (h:MI a win row c c1):row.length<=6:=by
 have hs:=ok.s;have:=zce (n:=a.2.1.toNat) h.nd (fun x hx=>by have:=h.rng x hx;omega)
 omega
theorem zsP (ok:AOk a) {row c c1:List Int} (h:MI a win row c c1) {q:Int} (q0:0<=q) (q1:q < a.2.1) (hq:ix win q=0):
  ∃ n row' c' c1',zgn q c c1 row=some (n,row',c',c1')/\MI a win row' c' c1'/\0<=n/\n < row'.length/\ix row' n=q/\∃ z,row'=row++z:=by
 have hl:=h.len ok;obtain ⟨nd,rng,hk,hv⟩:=h;rw [hk,hv];unfold zgn;by_cases cq:q∈row
 ·obtain ⟨j,hj⟩:=zxf cq;have h1:=zkO hj;have h2:=zjb hj;refine ⟨j,row,row,iota row.length,?_,⟨nd,rng,rfl,rfl⟩,by omega,by omega,?_,[],by simp⟩
  ·rw [if_neg (by rw [zvm.2 cq];simp),zxh hj]
  ·unfold ix;simp [List.getD_eq_getElem?_getD,h2]
 ·refine ⟨row.length,row++[q],row++[q],iota (row++[q]).length,?_,⟨?_,fun x hx => ?_,rfl,rfl⟩,by omega,by rw [List.length_append,List.length_singleton];omega,zmO,[q],rfl⟩
  ·have hn:zdH row q=none:=zfH.2 cq;have:mhas row q=false:=by cases e:mhas row q with
    | false=>rfl
    | true=>exact absurd (zvm.1 e) cq
   rw [if_pos (by rw [this];rfl),zad (by unfold room;simp;omega)]
   unfold zmx zpG;rw [hn];simp only [List.length_append,List.length_singleton,ztu]
  ·rw [List.nodup_append];exact ⟨nd,by simp,fun x hx y hy=>by rw [List.mem_singleton] at hy;subst hy;exact fun e=>cq (e ▸ hx)⟩
  ·rcases List.mem_append.1 hx with hx | hx
   ·exact rng x hx
   ·rw [List.mem_singleton.1 hx];exact ⟨q0,q1,hq⟩
structure TI (a:TA) (row mv:List Int) (k:Int) (A B L R:List Int):Prop where
 la:(A.length:Int)=k
 lb:(B.length:Int)=k
 ll:(L.length:Int)=k
 lr:(R.length:Int)=k
 tat:∀ p:Int,0<=p->p < k->∃ j:Int,0<=j/\j < a.2.2.1.length/\ix mv (ix row p)=a.2.1+j/\ToOf a j=ix row p/\ix A p=(ix a.2.2.1 j).1/\ix B p=ix row p/\
  (0<=ix L p/\ix L p < row.length/\ix row (ix L p)=LfOf a j)/\(0<=ix R p/\ix R p < row.length/\ix row (ix R p)=RtOf a j)
theorem TI.grow {row z A B L R:List Int} {k:Int} (h:TI a row mv k A B L R) (hk:k<=row.length):TI a (row++z) mv k A B L R:=by
 refine ⟨h.la,h.lb,h.ll,h.lr,fun p p0 p1 => ?_⟩
 obtain ⟨j,j0,j1,e1,e2,e3,e4,⟨l0,l1,l2⟩,r0,r1,r2⟩:=h.tat p p0 p1;have hp:ix (row++z) p=ix row p:=zaY p0 (by omega)
 rw [hp];refine ⟨j,j0,j1,e1,e2,e3,e4,⟨l0,by rw [List.length_append];omega,?_⟩,r0,by rw [List.length_append];omega,?_⟩
 ·rw [zaY l0 l1];exact l2
 ·rw [zaY r0 r1];exact r2
theorem zxJ (ok:AOk a) (h:PI a (a.2.1+(a.2.2.1.length:Int)+1) O M N) (w:Won (O,M,N,()) win mv):∀ (n:Nat) (k:Int) (row c c1 A B L R:List Int),(6 - k).toNat=n->0<=k->k<=row.length->MI a win row c c1->TI a row mv k A B L R->ix row 0=a.2.2.2.1->0 < row.length->
  ∃ row' c' c1' A' B' L' R',zg2 a (win,mv,()) k row c c1 A B L R=some ((A',B',L',R',()),true,0)/\MI a win row' c' c1'/\TI a row' mv row'.length A' B' L' R'/\ix row' 0=a.2.2.2.1/\0 < row'.length:=by
 have hs:=ok.s;have hr:=ok.r;have hlv:=w.lv;have hO:=h.lo;dsimp only at hlv;intro n
 induction n with
 | zero=>
  intro k row c c1 A B L R hn k0 k1 hM hT h0 hp;have:=hM.len ok;obtain rfl:k=row.length:=by omega
  refine ⟨row,c,c1,A,B,L,R,?_,hM,hT,h0,hp⟩
  rw [zik];unfold zcZ;rw [if_neg (by simp)]
 | succ n ih=>
  intro k row c c1 A B L R hn k0 k1 hM hT h0 hp;have hlen:=hM.len ok;by_cases ck:k=row.length
  ·obtain rfl:=ck;refine ⟨row,c,c1,A,B,L,R,?_,hM,hT,h0,hp⟩
   rw [zik];unfold zcZ;rw [if_neg (by simp)]
  ·obtain ⟨q,eq⟩:∃ q,ix row k=q:=⟨_,rfl⟩;obtain ⟨q0,q1,hq⟩:=hM.rng q (eq ▸ zg4 k0 (by omega))
   obtain ⟨j,j0,j1,em,et,wl,wr⟩:=zzk ok h w q0 q1 hq;obtain ⟨_,⟨l0,l1⟩,r0,r1⟩:=zpL ok j0 j1;obtain ⟨nl,row1,c',c1',e1,hM1,nl0,nl1,nl2,z1,hz1⟩:=zsP ok hM l0 l1 wl;obtain ⟨nr,row2,c'',c1'',e2,hM2,nr0,nr1,nr2,z2,hz2⟩:=zsP ok hM1 r0 r1 wr;have hl2:=hM2.len ok;have hA:=hT.la;have hB:=hT.lb;have hL:=hT.ll;have hR:=hT.lr;have hT2:TI a row2 mv k A B L R:=by
    rw [hz2,hz1];exact (hT.grow k1).grow (by rw [List.length_append];omega)
   have len1:row1.length=row.length+z1.length:=by rw [hz1,List.length_append]
   have len2:row2.length=row1.length+z2.length:=by rw [hz2,List.length_append]
   have rk:ix row2 k=q:=by rw [hz2,zaY k0 (by omega),hz1,zaY k0 (by omega),eq]
   have r00:ix row2 0=a.2.2.2.1:=by rw [hz2,zaY (by omega) (by omega),hz1,zaY (by omega) (by omega),h0]
   have hT3:TI a row2 mv (k+1) (A++[(ix a.2.2.1 j).1]) (B++[q]) (L++[nl]) (R++[nr]):=by
    refine ⟨by rw [List.length_append,List.length_singleton];omega,by rw [List.length_append,List.length_singleton];omega,by rw [List.length_append,List.length_singleton];omega,by rw [List.length_append,List.length_singleton];omega,fun p p0 p1 => ?_⟩
    by_cases e:p=k
    ·subst e;rw [zhP hA,zhP hB,zhP hL,zhP hR,rk];refine ⟨j,j0,j1,em,et,rfl,rfl,⟨nl0,by omega,?_⟩,nr0,nr1,nr2⟩
     rw [hz2,zaY nl0 nl1,nl2]
    ·rw [zaY p0 (by omega),zaY p0 (by omega),zaY p0 (by omega),zaY p0 (by omega)]
     exact hT2.tat p p0 (by omega)
   obtain ⟨row',c3,c13,A',B',L',R',e,res⟩:=ih (k+1) row2 c'' c1'' _ _ _ _ (by omega) (by omega) (by omega) hM2 hT3 r00 (by omega)
   refine ⟨row',c3,c13,A',B',L',R',?_,res⟩
   have fin:zco k row c c1 (zg2 a (win,mv,())) ((ix a.2.2.1 j).1,((ix a.2.2.1 j).2.1,((ix a.2.2.1 j).2.2.1,((ix a.2.2.1 j).2.2.2.1,())))) (A++[(ix a.2.2.1 j).1]) (B++[q]) L R=some ((A',B',L',R',()),true,0):=by
    unfold zco;refine zaS e1 ?_
    refine G_to (by unfold room;simp;omega) ?_
    refine zaS e2 ?_
    refine G_to (by unfold room;simp;omega) ?_
    rw [zad (by unfold fits;omega)]
    exact e
   rw [zik];unfold zcZ;rw [eq];dsimp only;rw [em,show a.2.1+j - a.2.1=j by omega]
   rw [if_pos (by simp only [decide_eq_true_eq];omega),zad (by omega),zad (by omega),zad (by omega),zad (by unfold fits;omega),zad (by omega)]
   repeat' first | exact fin | refine zeE ?_ ?_ | refine G_to (by first | omega | (unfold room;simp;omega)) ?_
theorem zvu (ok:AOk a) (h:PI a (a.2.1+(a.2.2.1.length:Int)+1) O M N) (w:Won (O,M,N,()) win mv) {row c c1 A B L R:List Int} (hM:MI a win row c c1) (hT:TI a row mv row.length A B L R) (h0:ix row 0=a.2.2.2.1) (hp:0 < row.length):zoe a (A,B,L,R,())=some true:=by
 have hs:=ok.s;have hr:=ok.r;have hm:=ok.m;have hlen:=hM.len ok;have hA:=hT.la;have hB:=hT.lb;have hL:=hT.ll;have hR:=hT.lr;have hO:=h.lo;have rowB:∀ p:Int,0<=p->p < row.length->ix B p=ix row p:=fun p p0 p1=>by
  obtain ⟨j,_,_,_,_,_,e,_⟩:=hT.tat p p0 p1;exact e
 have rr:∀ p:Int,0<=p->p < row.length->0<=ix row p/\ix row p < a.2.1/\ix win (ix row p)=0:=fun p p0 p1=>hM.rng _ (zg4 p0 p1)
 have k13:∀ (n:Nat) (p:Int) (inn:List Bool) (mark:List Int) (nx:List (List Int)),(row.length - p).toNat=n->0<=p->p<=row.length->(inn.length:Int)=row.length->(mark.length:Int)=p->(nx.length:Int)=p->
   (∀ i:Int,0<=i->i < p->ix mark i=ix a.2.2.2.2.1 (ix row i)/\ix nx i=[ix L i,ix R i])->zeM a (A,B,L,R,()) p inn mark nx=some true:=by
  intro n
  induction n with
  | zero=>
   intro p inn mark nx hn p0 p1 hi hmk hnx hh;obtain rfl:p=row.length:=by omega
   rw [zlh];unfold zdB;rw [if_neg (by simp only [decide_eq_true_eq];omega)]
   have hO:zoF mark nx inn 0=some false:=by
    refine zuX (n:=row.length) (by omega) hmk hnx hi (fun p p0 p1 q hq => ?_) (fun p p0 p1=>by rw [(hh p p0 p1).2];simp) (fun p p0 p1 _ hpar hcy => ?_)
    ·obtain ⟨j,_,_,_,_,_,_,⟨l0,l1,_⟩,r0,r1,_⟩:=hT.tat p p0 p1;rw [(hh p p0 p1).2] at hq;simp only [List.mem_cons,List.not_mem_nil,or_false] at hq;rcases hq with rfl | rfl
     ·exact ⟨l0,l1⟩
     ·exact ⟨r0,r1⟩
    ·obtain ⟨g0,g1,g2⟩:=rr p p0 p1;rw [(hh p p0 p1).1] at hpar;have mkr:∀ i:Int,0<=i->i < a.2.1->ix M i=ix a.2.2.2.2.1 i:=fun i i0 i1=>by rw [h.m i i0 (by omega)];unfold mkG;rw [if_pos i1]
     refine w.cyc (ix row p) g0 (by dsimp only;omega) (by dsimp only;rw [mkr _ g0 g1,g2];exact hpar) ?_
     dsimp only;rw [g2];have mid:∀ x y:Int,0<=x->x < row.length->y∈ix nx x->∃ j:Int,0<=j/\j < a.2.2.1.length/\(0<=y/\y < row.length)/\(a.2.1+j∈ix N (ix row x)/\(ix O (ix row x)=0->a.2.1+j=ix mv (ix row x)))/\(ix row y∈ix N (a.2.1+j)/\(ix O (a.2.1+j)=0->ix row y=ix mv (a.2.1+j)))/\ix M (ix row p)<=ix M (a.2.1+j):=by
      intro x y x0 x1 hy;obtain ⟨j,j0,j1,em,et,_,_,⟨l0,l1,l2⟩,r0,r1,r2⟩:=hT.tat x x0 x1;obtain ⟨y0,y1,_⟩:=rr x x0 x1;rw [(hh x x0 x1).2] at hy;simp only [List.mem_cons,List.not_mem_nil,or_false] at hy;have o1:ix O (a.2.1+j)=1:=by rw [h.o _ (by omega) (by omega)];unfold ow;rw [if_neg (by omega),if_pos (by omega)]
      have m9:ix M (a.2.1+j)=9:=by rw [h.m _ (by omega) (by omega)];unfold mkG;rw [if_neg (by omega),if_pos (by omega)]
      have mle:=(ok.mq _ g0 g1).2;refine ⟨j,j0,j1,?_,⟨((h.x _ y0 (by omega)).mem _).2 (.inl ⟨y1,.inl ⟨j,j0,j1,et,rfl⟩⟩),fun _=>em.symm⟩,⟨((h.x _ (by omega) (by omega)).mem _).2 (.inr (.inl ⟨by omega,by omega,?_⟩)),fun hh=>by rw [o1] at hh;cases hh⟩,by rw [m9,mkr _ g0 g1];exact mle⟩
      ·rcases hy with rfl | rfl
       ·exact ⟨l0,l1⟩
       ·exact ⟨r0,r1⟩
      ·rw [show a.2.1+j - a.2.1=j by omega]
       rcases hy with rfl | rfl
       ·exact .inl l2
       ·exact .inr r2
     have:∀ q,Rch (fun a b=>b∈ix nx a) (fun b=>ix inn b=true/\ix mark p<=ix mark b) p q->(0<=q/\q < row.length)/\Rch (fun a b=>b∈ix N a/\(ix O a=0->b=ix mv a)) (fun b=>ix M (ix row p)<=ix M b) (ix row p) (ix row q):=by
      intro q hq
      induction hq with
      | @one q e=>
       obtain ⟨j,j0,j1,hy,s1,s2,s3⟩:=mid p q p0 p1 e;exact ⟨hy,.more (.one s1) s3 s2⟩
      | @more q r _ k e ih=>
       obtain ⟨⟨q0,q1⟩,hR⟩:=ih;obtain ⟨j,j0,j1,hy,s1,s2,s3⟩:=mid q r q0 q1 e;obtain ⟨x0,x1,_⟩:=rr q q0 q1;have hk:ix M (ix row p)<=ix M (ix row q):=by
        rw [mkr _ g0 g1,mkr _ x0 x1,<- (hh p p0 p1).1,<- (hh q q0 q1).1];exact k.2
       exact ⟨hy,.more (.more hR hk s1) s3 s2⟩
     exact (this p hcy).2
   rw [hO];rfl
  | succ n ih=>
   intro p inn mark nx hn p0 p1 hi hmk hnx hh;obtain ⟨j,j0,j1,em,et,eA,eB,⟨l0,l1,l2⟩,r0,r1,r2⟩:=hT.tat p p0 (by omega)
   obtain ⟨g0,g1,g2⟩:=rr p p0 (by omega)
   have next:zeM a (A,B,L,R,()) (p+1) (inn.set p.toNat true) (mark++[ix a.2.2.2.2.1 (ix B p)]) (nx++[[ix L p,ix R p]])=some true:=by
    refine ih (p+1) _ _ _ (by omega) (by omega) (by omega) (by rw [List.length_set];exact hi) (by rw [List.length_append,List.length_singleton];omega) (by rw [List.length_append,List.length_singleton];omega) (fun i i0 i1 => ?_)
    by_cases e:i=p
    ·subst e;rw [zhP hmk,zhP hnx,eB];exact ⟨rfl,rfl⟩
    ·rw [zaY i0 (by omega),zaY i0 (by omega)]
     exact hh i i0 (by omega)
   have k17:∀ (m:Nat) (k:Int) (b:Bool),(a.2.2.1.length - k).toNat=m->0<=k->k<=a.2.2.1.length->(b=true\/k<=j)->zdO a (A,B,L,R,()) p inn mark nx (zeM a (A,B,L,R,())) b k=some true:=by
    intro m
    induction m with
    | zero=>
     intro k b hk k0 k1 hb;obtain rfl:b=true:=hb.elim id (fun h=>by omega)
     rw [zlj];unfold zdC;dsimp only;rw [if_neg (by simp only [decide_eq_true_eq];omega),if_neg (by simp),zad (by omega),zad (by rw [eB];omega),zad (by unfold room;simp;omega),zad (by omega),zad (by omega),zad (by unfold room;simp;omega),zad (by omega),zad (by omega),zad (by unfold fits;omega)]
     exact next
    | succ m ihm=>
     intro k b hk k0 k1 hb;rw [zlj];unfold zdC;dsimp only;rw [if_pos (by simp only [decide_eq_true_eq];omega),zad (by omega)]
     cases b with
     | true=>rw [if_pos rfl,zad (by unfold fits;omega)];exact ihm (k+1) true (by omega) (by omega) (by omega) (.inl rfl)
     | false=>
      have hkj:k<=j:=hb.elim (fun h=>by cases h) id
      rw [if_neg (by simp),zad (by omega)]
      have no:∀ b',(k=j->b'=true)->zdO a (A,B,L,R,()) p inn mark nx (zeM a (A,B,L,R,())) b' (k+1)=some true:=fun b' hb'=>by
       refine ihm (k+1) b' (by omega) (by omega) (by omega) ?_
       by_cases e:k=j
       ·exact .inl (hb' e)
       ·exact .inr (by omega)
      have f1:fits (k+1):=by unfold fits;omega
      unfold ToOf at et;unfold LfOf at l2;unfold RtOf at r2;by_cases d1:(ix a.2.2.1 k).1=ix A p
      ·rw [if_pos (decide_eq_true d1),zad (by omega)]
       by_cases d2:(ix a.2.2.1 k).2.2.2.1=ix B p
       ·rw [if_pos (decide_eq_true d2),zad (by omega),zad (by omega)]
        by_cases d3:(ix a.2.2.1 k).2.1=ix B (ix L p)
        ·rw [if_pos (decide_eq_true d3),zad (by omega),zad (by omega),zad f1]
         refine no _ fun e => ?_
         rw [e,rowB _ r0 r1,r2];simp
        ·rw [if_neg (by simpa using d3),zad f1]
         exact no _ fun e=>absurd (by rw [e,rowB _ l0 l1,l2]) d3
       ·rw [if_neg (by simpa using d2),zad f1]
        exact no _ fun e=>absurd (by rw [e,eB,et]) d2
      ·rw [if_neg (by simpa using d1),zad f1]
       exact no _ fun e=>absurd (by rw [e,eA]) d1
   rw [zlh];unfold zdB;rw [if_pos (by simp only [decide_eq_true_eq];omega)]
   exact k17 _ 0 false rfl (by omega) (by omega) (.inr j0)
 have k8:∀ (n:Nat) (p:Int),(row.length - p).toNat=n->0<=p->p<=row.length->zjF a (A,B,L,R,()) p=some true:=by
  intro n
  induction n with
  | zero=>
   intro p hn p0 p1;rw [zl5];unfold zd2;dsimp only;rw [if_neg (by simp only [decide_eq_true_eq];omega)]
   exact k13 _ 0 _ [] [] rfl (by omega) (by omega) (by simp;omega) rfl rfl (fun i i0 i1=>by omega)
  | succ n ih=>
   intro p hn p0 p1;obtain ⟨j,j0,j1,em,et,eA,eB,⟨l0,l1,l2⟩,r0,r1,r2⟩:=hT.tat p p0 (by omega)
   obtain ⟨g0,g1,g2⟩:=rr p p0 (by omega)
   rw [zl5];unfold zd2;dsimp only;rw [eB,if_pos (by simp only [decide_eq_true_eq];omega),zad (by omega),if_neg (by simp only [decide_eq_true_eq];omega),zad (by omega),if_neg (by simp only [decide_eq_true_eq];omega),zad (by omega),if_neg (by simp only [decide_eq_true_eq];omega),zad (by omega),if_neg (by simp only [decide_eq_true_eq];omega),zad (by omega),if_neg (by simp only [decide_eq_true_eq];omega),zad (by omega),if_neg (by simp only [decide_eq_true_eq];omega),zad (by unfold fits;omega)]
   exact ih (p+1) (by omega) (by omega) (by omega)
 unfold zoe;dsimp only;rw [if_neg (by simp only [decide_eq_true_eq];omega),if_neg (by simp only [decide_eq_true_eq];omega),if_neg (by simp only [decide_eq_true_eq];omega),if_neg (by simp only [decide_eq_true_eq];omega),if_neg (by simp only [decide_eq_true_eq];omega),zad (by omega),rowB 0 (by omega) (by omega),h0,if_neg (by simp),zad (by unfold mkOK;omega)]
 exact k8 _ 0 rfl (by omega) (by omega)
end
section
variable {a:TA} {O M win mv:List Int} {N:List (List Int)}
def zmC (a:TA) (mv:List Int) (k:Int):Int:=if 0<=ix mv (a.2.1+k) /\ ¬ ix mv (a.2.1+k)=LfOf a k then 1 else 0
def goOf (a:TA) (mv:List Int) (k:Int):Int:=if zmC a mv k=1 then RtOf a k else LfOf a k
theorem zzM (ok:AOk a) (hlv:(mv.length:Int)=a.2.1+a.2.2.1.length+1):∀ (n:Nat) (k:Int) (ways:List Int),(a.2.2.1.length - k).toNat=n->0<=k->k<=a.2.2.1.length->(ways.length:Int)=k->(∀ i:Int,0<=i->i < k->ix ways i=zmC a mv i)->
  ∃ ways',zi4 a (win,mv,()) k ways=some (true,0,ways')/\ways'.length=a.2.2.1.length/\∀ i:Int,0<=i->i < a.2.2.1.length->ix ways' i=zmC a mv i:=by
 have hs:=ok.s;have hr:=ok.r;intro n
 induction n with
 | zero=>
  intro k ways hn k0 k1 hl h;obtain rfl:k=a.2.2.1.length:=by omega
  refine ⟨ways,?_,by omega,h⟩
  rw [zmJ];unfold zeI;rw [if_neg (by simp)]
 | succ n ih=>
  intro k ways hn k0 k1 hl h;obtain ⟨w',e,res⟩:=ih (k+1) (ways++[zmC a mv k]) (by omega) (by omega) (by omega) (by rw [List.length_append,List.length_singleton];omega) (fun i i0 i1=>by
   by_cases e:i=k
   ·rw [e,zhP hl]
   ·rw [zaY i0 (by omega)];exact h i i0 (by omega))
  refine ⟨w',?_,res⟩
  have J:∀ b:Bool,(if b=true then (1:Int) else 0)=zmC a mv k->zfl k ways (zi4 a (win,mv,())) b=some (true,0,w'):=fun b hb=>by
   unfold zfl;rw [<- hb] at e
   cases b with
   | true=>rw [if_pos rfl,zad (by unfold room;simp;omega),zad (by unfold fits;omega)];exact e
   | false=>rw [if_neg (by simp),zad (by unfold room;simp;omega),zad (by unfold fits;omega)];exact e
  rw [zmJ];unfold zeI;dsimp only;rw [if_pos (by simp only [decide_eq_true_eq];omega),zad (by omega),zad (by unfold fits;omega),zad (by omega)]
  by_cases c:0<=ix mv (a.2.1+k)
  ·rw [if_pos (decide_eq_true c)];refine J _ ?_
   unfold zmC LfOf;by_cases c2:ix mv (a.2.1+k)=(ix a.2.2.1 k).2.1
   ·rw [if_neg (by simpa using c2),if_neg (fun h=>h.2 c2)]
   ·rw [if_pos (by simpa using c2),if_pos ⟨c,c2⟩]
  ·rw [if_neg (by simpa using c)]
   refine J _ ?_
   unfold zmC;rw [if_neg (by simp),if_neg (fun h=>c h.1)]
theorem zzX (ok:AOk a) (h:PI a (a.2.1+(a.2.2.1.length:Int)+1) O M N) (w:Won (O,M,N,()) win mv) {k:Int} (k0:0<=k) (k1:k < a.2.2.1.length) (hq:ix win (ToOf a k)=1):
  goOf a mv k∈ix N (a.2.1+k)/\goOf a mv k=ix mv (a.2.1+k)/\ix win (goOf a mv k)=1:=by
 have hs:=ok.s;have hO:=h.lo;obtain ⟨⟨q0,q1⟩,⟨l0,l1⟩,r0,r1⟩:=zpL ok k0 k1;have e0:ix O (ToOf a k)=0:=by rw [h.o _ q0 (by omega)];unfold ow;rw [if_pos q1]
 have w1:=(w.oth (ToOf a k) q0 (by dsimp only;omega) (by dsimp only;rw [e0,hq];decide)).2
 dsimp only at w1;have hw1:=w1 (a.2.1+k) (((h.x _ q0 (by omega)).mem _).2 (.inl ⟨q1,.inl ⟨k,k0,k1,rfl,rfl⟩⟩))
 rw [hq] at hw1;have o1:ix O (a.2.1+k)=1:=by rw [h.o _ (by omega) (by omega)];unfold ow;rw [if_neg (by omega),if_pos (by omega)]
 obtain ⟨m1,m2⟩:=w.own (a.2.1+k) (by omega) (by dsimp only;omega) (by dsimp only;rw [o1,hw1])
 dsimp only at m1 m2;have key:goOf a mv k=ix mv (a.2.1+k):=by
  have hm:=((h.x (a.2.1+k) (by omega) (by omega)).mem _).1 m1
  have hm2:ix mv (a.2.1+k)=LfOf a k\/ix mv (a.2.1+k)=RtOf a k:=by
   rcases hm with ⟨h1,_⟩ | ⟨_,_,e⟩ | ⟨h1,_⟩
   ·omega
   ·rw [show a.2.1+k - a.2.1=k by omega] at e;exact e
   ·omega
  by_cases c:ix mv (a.2.1+k)=LfOf a k
  ·have wy:zmC a mv k=0:=by unfold zmC;rw [if_neg (fun h=>h.2 c)]
   unfold goOf;rw [wy,if_neg (by decide),c]
  ·have c2:=hm2.resolve_left c;have wy:zmC a mv k=1:=by unfold zmC;rw [if_pos ⟨by omega,c⟩]
   unfold goOf;rw [wy,if_pos rfl,c2]
 exact ⟨key ▸ m1,key,by rw [key,m2,hw1]⟩
structure NI (a:TA) (mv:List Int) (t:Int) (nx:List (List Int)):Prop where
 l:(nx.length:Int)=a.2.1
 len:∀ p:Int,0<=p->p < a.2.1->((ix nx p).length:Int)<=t
 mem:∀ p:Int,0<=p->p < a.2.1->∀ q∈ix nx p,∃ k:Int,0<=k/\k < a.2.2.1.length/\ToOf a k=p/\q=goOf a mv k
theorem zwc (ok:AOk a) (h:PI a (a.2.1+(a.2.2.1.length:Int)+1) O M N) (w:Won (O,M,N,()) win mv) (hst:ix win a.2.2.2.1=1) {ways:List Int} (hwl:ways.length=a.2.2.1.length) (hw:∀ i:Int,0<=i->i < a.2.2.1.length->ix ways i=zmC a mv i):zpX a ways=some true:=by
 have hs:=ok.s;have hr:=ok.r;have hm:=ok.m;have hst0:=ok.st;have hO:=h.lo;have go_rng:∀ k:Int,0<=k->k < a.2.2.1.length->0<=goOf a mv k/\goOf a mv k < a.2.1:=fun k k0 k1=>by
  obtain ⟨_,hl,hr⟩:=zpL ok k0 k1;unfold goOf;split
  ·exact hr
  ·exact hl
 have k18:∀ {nx:List (List Int)},NI a mv a.2.2.1.length nx->∀ (n:Nat) (i:Int) (inn:List Bool) (row:List Int),(7 - i).toNat=n->0<=i->i<=row.length->(inn.length:Int)=a.2.1->row.Nodup->(∀ x∈row,0<=x/\x < a.2.1/\ix win x=1)->(∀ x:Int,0<=x->x < a.2.1->ix inn x=true->x∈row)->(∀ x∈row,ix inn x=true)->zh4 a nx i inn row=some true:=by
  intro nx hN n;have hNl:=hN.l
  induction n with
  | zero=>
   intro i inn row hn i0 i1 hi hnd hrow hin hin2;have:=zce (n:=a.2.1.toNat) hnd (fun x hx=>by have:=hrow x hx;omega)
   omega
  | succ n ih=>
   intro i inn row hn i0 i1 hi hnd hrow hin hin2;have hlen:=zce (n:=a.2.1.toNat) hnd (fun x hx=>by have:=hrow x hx;omega)
   by_cases ci:i=row.length
   ·rw [zlX];unfold zd0;rw [if_neg (by simp only [decide_eq_true_eq];omega)]
    have hOdd:zoF a.2.2.2.2.1 nx inn 1=some false:=by
     refine zuX (n:=a.2.1) (by omega) hm hNl hi (fun p p0 p1 q hq => ?_) (fun p p0 p1=>by have:=hN.len p p0 p1;omega) (fun p p0 p1 hp hpar hcy => ?_)
     ·obtain ⟨k,k0,k1,_,e⟩:=hN.mem p p0 p1 q hq;rw [e];exact go_rng k k0 k1
     ·have mkr:∀ i:Int,0<=i->i < a.2.1->ix M i=ix a.2.2.2.2.1 i:=fun i i0 i1=>by rw [h.m i i0 (by omega)];unfold mkG;rw [if_pos i1]
      have wp:ix win p=1:=(hrow p (hin p p0 p1 hp)).2.2;refine w.cyc p p0 (by dsimp only;omega) (by dsimp only;rw [mkr _ p0 p1,wp];exact hpar) ?_
      dsimp only;rw [wp];have mid:∀ x y:Int,0<=x->x < a.2.1->ix win x=1->y∈ix nx x->∃ j:Int,(0<=y/\y < a.2.1/\ix win y=1)/\(j∈ix N x/\(ix O x=1->j=ix mv x))/\(y∈ix N j/\(ix O j=1->y=ix mv j))/\ix M p<=ix M j:=by
       intro x y x0 x1 wx hy;obtain ⟨k,k0,k1,et,ey⟩:=hN.mem x x0 x1 y hy;obtain ⟨g1,g2,g3⟩:=zzX ok h w k0 k1 (by rw [et];exact wx)
       obtain ⟨r0,r1⟩:=go_rng k k0 k1;have o0:ix O x=0:=by rw [h.o _ x0 (by omega)];unfold ow;rw [if_pos x1]
       have m9:ix M (a.2.1+k)=9:=by rw [h.m _ (by omega) (by omega)];unfold mkG;rw [if_neg (by omega),if_pos (by omega)]
       have mle:=(ok.mq _ p0 p1).2;rw [<- ey] at g1 g2 g3 r0 r1;exact ⟨a.2.1+k,⟨r0,r1,g3⟩,⟨((h.x _ x0 (by omega)).mem _).2 (.inl ⟨x1,.inl ⟨k,k0,k1,et,rfl⟩⟩),fun hh=>by rw [o0] at hh;cases hh⟩,⟨g1,fun _=>g2⟩,by rw [m9,mkr _ p0 p1];exact mle⟩
      have:∀ q,Rch (fun a b=>b∈ix nx a) (fun b=>ix inn b=true/\ix a.2.2.2.2.1 p<=ix a.2.2.2.2.1 b) p q->(0<=q/\q < a.2.1/\ix win q=1)/\Rch (fun a b=>b∈ix N a/\(ix O a=1->b=ix mv a)) (fun b=>ix M p<=ix M b) p q:=by
       intro q hq
       induction hq with
       | @one q e=>
        obtain ⟨j,hy,s1,s2,s3⟩:=mid p q p0 p1 wp e;exact ⟨hy,.more (.one s1) s3 s2⟩
       | @more q r _ k e ih=>
        obtain ⟨⟨q0,q1,wq⟩,hR⟩:=ih;obtain ⟨j,hy,s1,s2,s3⟩:=mid q r q0 q1 wq e;have hk:ix M p<=ix M q:=by rw [mkr _ p0 p1,mkr _ q0 q1];exact k.2
        exact ⟨hy,.more (.more hR hk s1) s3 s2⟩
      exact (this p hcy).2
    rw [hOdd];rfl
   ·obtain ⟨q,eq⟩:∃ q,ix row i=q:=⟨_,rfl⟩;obtain ⟨q0,q1,hq⟩:=hrow q (eq ▸ zg4 i0 (by omega))
    have hnl:=hN.len q q0 q1;have k22:∀ (m:Nat) (k:Int) (inn2:List Bool) (row2:List Int),((ix nx q).length - k).toNat=m->0<=k->k<=(ix nx q).length->row.length<=row2.length->(inn2.length:Int)=a.2.1->row2.Nodup->(∀ x∈row2,0<=x/\x < a.2.1/\ix win x=1)->(∀ x:Int,0<=x->x < a.2.1->ix inn2 x=true->x∈row2)->(∀ x∈row2,ix inn2 x=true)->zfv nx i row (zh4 a) k inn2 row2=some true:=by
     intro m
     induction m with
     | zero=>
      intro k inn2 row2 hk k0 k1 hl hi hnd hrow hin hin2;rw [zlZ];unfold zd1;rw [eq,if_neg (by simp only [decide_eq_true_eq];omega),zad (by unfold fits;omega)]
      exact ih (i+1) inn2 row2 (by omega) (by omega) (by omega) hi hnd hrow hin hin2
     | succ m ihm=>
      intro k inn2 row2 hk k0 k1 hl hi hnd hrow hin hin2;have hlen2:=zce (n:=a.2.1.toNat) hnd (fun x hx=>by have:=hrow x hx;omega)
      obtain ⟨y,ey⟩:∃ y,ix (ix nx q) k=y:=⟨_,rfl⟩;have hy:y∈ix nx q:=ey ▸ zg4 k0 (by omega)
      obtain ⟨j,j0,j1,et,eg⟩:=hN.mem q q0 q1 y hy;obtain ⟨_,_,g3⟩:=zzX ok h w j0 j1 (by rw [et];exact hq)
      obtain ⟨y0,y1⟩:=go_rng j j0 j1;rw [<- eg] at g3 y0 y1;rw [zlZ];unfold zd1;rw [eq,ey,if_pos (by simp only [decide_eq_true_eq];omega),zad (by omega),zad (by omega),zad (by omega)]
      by_cases c:ix inn2 y=true
      ·rw [if_neg (by simp [c]),zad (by unfold fits;omega)]
       exact ihm (k+1) inn2 row2 (by omega) (by omega) (by omega) hl hi hnd hrow hin hin2
      ·have hyr:y∉row2:=fun hm=>c (hin2 y hm)
       rw [if_pos (by simpa using c),zad (by omega),zad (by omega),zad (by omega),zad (by omega),zad (by unfold room;simp;omega),zad (by unfold fits;omega)]
       refine ihm (k+1) _ _ (by omega) (by omega) (by omega) (by rw [List.length_append];omega) (by rw [List.length_set];exact hi) ?_ (fun x hx => ?_) (fun x x0 x1 hx => ?_) (fun x hx => ?_)
       ·rw [List.nodup_append];exact ⟨hnd,by simp,fun x hx z hz=>by rw [List.mem_singleton] at hz;subst hz;exact fun e=>hyr (e ▸ hx)⟩
       ·rcases List.mem_append.1 hx with hx | hx
        ·exact hrow x hx
        ·rw [List.mem_singleton.1 hx];exact ⟨y0,y1,g3⟩
       ·by_cases e:y=x
        ·subst e;simp
        ·rw [zcp y0 x0 e] at hx;exact List.mem_append_left _ (hin x x0 x1 hx)
       ·by_cases e:y=x
        ·subst e;exact zbP y0 (by omega)
        ·rcases List.mem_append.1 hx with hx | hx
         ·rw [zcp y0 (hrow x hx).1 e];exact hin2 x hx
         ·exact absurd (List.mem_singleton.1 hx).symm e
    rw [zlX];unfold zd0;rw [if_pos (by simp only [decide_eq_true_eq];omega),zad (by omega),zad (by omega),zad (by rw [eq];omega)]
    exact k22 _ 0 inn row rfl (by omega) (by omega) (Nat.le_refl _) hi hnd hrow hin hin2
 have k5:∀ (n:Nat) (k:Int) (nx:List (List Int)),(a.2.2.1.length - k).toNat=n->0<=k->k<=a.2.2.1.length->NI a mv k nx->zfw a ways k nx=some true:=by
  intro n
  induction n with
  | zero=>
   intro k nx hn k0 k1 hN;obtain rfl:k=a.2.2.1.length:=by omega
   rw [zmT];unfold zeL;rw [if_neg (by simp only [decide_eq_true_eq];omega),zad (by unfold mkOK;omega),zad (by rw [List.length_replicate];omega),zad (by rw [List.length_replicate];omega)]
   have hfl:∀ x:Int,0<=x->x < a.2.1 -> ¬ a.2.2.2.1=x->ix ((List.replicate a.2.1.toNat false).set a.2.2.2.1.toNat true) x=false:=fun x x0 x1 hx=>by
    rw [zcp hst0.1 x0 hx];exact ztw x0 (by omega)
   refine k18 hN _ 0 _ [a.2.2.2.1] rfl (by omega) (by simp) (by rw [List.length_set,List.length_replicate];omega) (by simp) (fun x hx => ?_) (fun x x0 x1 hx => ?_) (fun x hx => ?_)
   ·rw [List.mem_singleton.1 hx];exact ⟨hst0.1,hst0.2,hst⟩
   ·refine List.mem_singleton.2 (Classical.byContradiction fun hne => ?_)
    rw [hfl x x0 x1 (fun e=>hne e.symm)] at hx;cases hx
   ·rw [List.mem_singleton.1 hx];exact zbP hst0.1 (by rw [List.length_replicate];omega)
  | succ n ih=>
   intro k nx hn k0 k1 hN;have hNl:=hN.l;obtain ⟨⟨q0,q1⟩,_⟩:=zpL ok k0 (by omega:k < a.2.2.1.length)
   have hlq:=hN.len (ToOf a k) q0 q1;have next:zfw a ways (k+1) (nx.set (ToOf a k).toNat (ix nx (ToOf a k)++[goOf a mv k]))=some true:=by
    refine ih (k+1) _ (by omega) (by omega) (by omega) ⟨by rw [List.length_set];exact hNl,fun p p0 p1 => ?_,fun p p0 p1 q hq => ?_⟩
    ·by_cases e:ToOf a k=p
     ·rw [<- e,zbP q0 (by omega),List.length_append,List.length_singleton];omega
     ·rw [zcp q0 p0 e];have:=hN.len p p0 p1;omega
    ·by_cases e:ToOf a k=p
     ·rw [<- e,zbP q0 (by omega)] at hq
      rcases List.mem_append.1 hq with hq | hq
      ·rw [<- e];exact hN.mem _ q0 q1 q hq
      ·exact ⟨k,k0,by omega,e,List.mem_singleton.1 hq⟩
     ·rw [zcp q0 p0 e] at hq;exact hN.mem p p0 p1 q hq
   have J12:∀ to,to=goOf a mv k->zfs a k nx (zfw a ways) to=some true:=fun to et=>by
    rw [et];have fin:zft k (zfw a ways) (nx.set (ToOf a k).toNat (ix nx (ToOf a k)++[goOf a mv k]))=some true:=by
     unfold zft;rw [zad (by unfold fits;omega)];exact next
    unfold zfs
    change G (0<=ToOf a k/\ToOf a k < (nx.length:Int)) (G ((ToOf a k).toNat < nx.length) (both _ _ _))=_
    rw [zad (by omega),zad (by omega)]
    refine zeE ?_ ?_
    all_goals
     refine G_to (show (ToOf a k).toNat < nx.length by omega) ?_
     refine G_to (show room (ix nx (ToOf a k)) [goOf a mv k] 8 by unfold room;simp;omega) ?_
     refine G_to (show 0<=ToOf a k/\ToOf a k < (nx.length:Int) by omega) ?_
     refine G_to rfl ?_
     exact fin
   have J8:zgo a ways k nx (zfw a ways) false=some true:=by
    unfold zgo;rw [if_neg (by simp),zad (by omega),hw k k0 (by omega)]
    by_cases c:zmC a mv k=1
    ·rw [if_pos (decide_eq_true c)];exact J12 _ (by unfold goOf;rw [if_pos c];rfl)
    ·rw [if_neg (by simpa using c)]
     exact J12 _ (by unfold goOf;rw [if_neg c];rfl)
   rw [zmT];unfold zeL;rw [if_pos (by simp only [decide_eq_true_eq];omega),zad (by omega),zad (by omega),hw k k0 (by omega)]
   by_cases c:zmC a mv k=0
   ·rw [if_neg (by simpa using c)];exact J8
   ·have c1:zmC a mv k=1:=by
     unfold zmC at c ⊢;by_cases d:0<=ix mv (a.2.1+k) /\ ¬ ix mv (a.2.1+k)=LfOf a k
     ·rw [if_pos d]
     ·rw [if_neg d] at c;exact absurd rfl c
    rw [if_pos (by simpa using c),zad (by omega),c1]
    exact J8
 unfold zpX;rw [if_neg (by simp only [decide_eq_true_eq];omega),zad (by unfold mkOK;omega)]
 refine k5 _ 0 _ rfl (by omega) (by omega) ⟨by rw [List.length_replicate];omega,fun p p0 p1 => ?_,fun p p0 p1 q hq => ?_⟩
 ·rw [zvq p0 (by omega)];simp
 ·rw [zvq p0 (by omega)] at hq;cases hq
end
theorem zw8 {w:List Int} (hs:w.length * 8<=140737488351232):zpV w=some w:=by
 unfold zpV;refine G_to (by unfold fits;omega) ?_
 refine G_to (by unfold mkOK;omega) ?_
 simp
theorem law_true (a:TA) (sg:Sml (.pair (.int .i64) (.pair (.int .i64) (.pair (.list (.pair (.int .i64) (.pair (.int .i64) (.pair (.int .i64) (.pair (.int .i64) .unit))))) (.pair (.int .i64) (.pair (.list (.int .i64)) .unit))))) a):zlR a=some true:=by
 have b1:a.2.2.1.length * 32<=140737488351232:=sg.2.2.1.1;have b2:a.2.2.2.2.1.length * 8<=140737488351232:=sg.2.2.2.2.1.1;unfold zlR;refine zaS (y:=a) ?_ ?_
 ·unfold zqF;rw [zad (by unfold room;simp;omega),zw8 b2]
  rfl
 have ea:(a.1,a.2.1,a.2.2.1,a.2.2.2.1,a.2.2.2.2.1,())=a:=rfl;rw [ea];by_cases h0:taE a=0
 ·have ok:=zym h0;have hs:=ok.s;have hst:=ok.st;obtain ⟨O,M,N,win,mv,e,hP,hw⟩:=zuH ok;have hlw:=hw.lw;have hlv:=hw.lv;have hO:=hP.lo;dsimp only at hlw hlv;by_cases c:ix win a.2.2.2.1=0
  ·obtain ⟨n,row,c0,c1,e1,hM,n0,n1,n2,z,hz⟩:=zsP ok (win:=win) (row:=[]) (c:=[]) (c1:=[]) ⟨by simp,fun x hx=>(by cases hx),rfl,rfl⟩ hst.1 hst.2 c
   have hz0:row=z:=by simpa using hz
   have hrl:0 < row.length:=by omega
   have hr1:ix row 0=a.2.2.2.1:=by
    unfold zgn at e1;rw [if_pos (by unfold mhas zdH;rfl),zad (by unfold room;simp)] at e1
    simp only [Option.some.injEq,Prod.mk.injEq] at e1;rw [<- e1.2.1];rfl
   obtain ⟨row',c0',c1',A,B,L,R,e2,hM',hT,h00,hp⟩:=zxJ ok hP hw _ 0 row c0 c1 [] [] [] [] rfl (by omega) (by omega) hM ⟨rfl,rfl,rfl,rfl,fun p p0 p1=>by omega⟩ hr1 hrl
   refine zaS (y:=((A,B,L,R,()),true,0)) ?_ ?_
   ·unfold zlJ;rw [ea];refine zaS zcn ?_
    rw [h0,if_neg (by simp)]
    refine zaS e ?_
    dsimp only;rw [zad (by omega),c,if_neg (by simp)]
    exact zaS e1 e2
   refine zaS (y:=(false,0,[])) ?_ ?_
   ·unfold znC;rw [ea];refine zaS zcn ?_
    rw [h0,if_neg (by simp)]
    refine zaS e ?_
    dsimp only;rw [zad (by omega),c,if_pos (by simp)]
   refine zaS zcn (zaS zjY ?_)
   have l1:=hT.la;have l2:=hT.lb;have l3:=hT.ll;have l4:=hT.lr;have l5:=hM'.len ok;dsimp only;rw [zad (by unfold fits;omega),zad (by unfold fits;omega),zad (by unfold fits;omega),h0,if_neg (by simp),if_neg (by simp),if_neg (by simp),if_neg (by simp),if_neg (by simp),if_pos rfl]
   refine zaS (zvu ok hP hw hM' hT h00 hp) ?_
   rw [if_pos rfl];simp
  ·have c1:ix win a.2.2.2.1=1:=(hw.two a.2.2.2.1 hst.1 (by dsimp only;omega)).resolve_left c
   obtain ⟨ways,eb,wl,hwy⟩:=zzM (win:=win) ok (mv:=mv) (by omega) _ 0 [] rfl (by omega) (by omega) rfl (fun i i0 i1=>by omega)
   refine zaS (y:=(([],[],[],[],()),false,0)) ?_ ?_
   ·unfold zlJ;rw [ea];refine zaS zcn ?_
    rw [h0,if_neg (by simp)]
    refine zaS e ?_
    dsimp only;rw [zad (by omega),if_pos (by simpa using c)]
   refine zaS (y:=(true,0,ways)) ?_ ?_
   ·unfold znC;rw [ea];refine zaS zcn ?_
    rw [h0,if_neg (by simp)]
    refine zaS e ?_
    dsimp only;rw [zad (by omega),if_neg (by simpa using c)]
    exact eb
   refine zaS zcn (zaS zjY ?_)
   dsimp only;rw [zad (by unfold fits;decide),zad (by unfold fits;decide),zad (by unfold fits;decide),h0,if_neg (by simp),if_neg (by simp),if_neg (by simp),if_neg (by simp),if_neg (by simp),if_neg (by simp)]
   refine zaS (zwc ok hP hw c1 wl hwy) ?_
   rw [if_pos rfl];simp
 ·refine zaS (y:=(([],[],[],[],()),false,taE a)) ?_ ?_
  ·unfold zlJ;rw [ea];refine zaS zcn ?_
   rw [if_pos (by simpa using h0)]
  refine zaS (y:=(false,taE a,[])) ?_ ?_
  ·unfold znC;rw [ea];refine zaS zcn ?_
   rw [if_pos (by simpa using h0)]
  refine zaS zcn (zaS zjY ?_)
  dsimp only;rw [zad (by unfold fits;decide),zad (by unfold fits;decide),zad (by unfold fits;decide),if_neg (by simp),if_neg (by simp),if_neg (by simp),if_pos (by simpa using h0),if_pos (by simp),if_pos (by simp),if_pos (by simp)]
  simp
end Go.Proofs.Ytebeobobeinlnaa.growBothW
