import Derived.Test.YtobjcafelollfaaSafraDetP
set_option maxHeartbeats 1000000
set_option maxRecDepth 20000
set_option linter.unusedSimpArgs false
set_option linter.unusedVariables false
set_option linter.unusedSectionVars false
namespace Go.Proofs.Ytobjcafelollfaa.safraDetW
open Go Go.Ab
noncomputable section
section
variable {a:Au} {u:Nat->Int} {h len:Nat} {l:List Int×List Int×Unit}
theorem zyP (ha:AuOk a) {N:List Bool} (hN:(N.length:Int)=a.2.1) {r11:Bool->List Bool->Option Bool}:∀ (m:Nat) (k:Int) (ag:Bool) (P:List Bool),0<=k->k+m=a.2.1->(P.length:Int)=a.2.1->
  ∃ ag' P',zaM a r11 N ag k P=r11 ag' P'/\(P'.length:Int)=a.2.1/\(∀ q:Int,0<=q->q < a.2.1->(ix P' q=true↔ix P q=true\/(k<=q/\ix N q=true)))/\
   (ag'=true↔ag=true\/∃ q:Int,k<=q/\q < a.2.1/\ix N q=true /\ ¬ ix P q=true):=by
 have hn:=ha.n1;intro m
 induction m with
 | zero=>
  intro k ag P k0 hk hP;refine ⟨ag,P,?_,hP,fun q q0 q1 => ?_,?_⟩
  ·rw [zcK];unfold zaU;rw [if_neg (by simp only [decide_eq_true_eq];omega)]
  ·exact ⟨.inl,fun hh=>hh.elim id (fun hh=>by omega)⟩
  ·exact ⟨.inl,fun hh=>hh.elim id (fun ⟨q,h1,h2,_⟩=>by omega)⟩
 | succ m ih=>
  intro k ag P k0 hk hP;have J21:∀ ag2,zbf N k P (zaM a r11 N) ag2=zaM a r11 N ag2 (k+1) (P.set k.toNat (ix P k || ix N k)):=by
   intro ag2;unfold zbf;rw [zab (by omega),zab (by omega)]
   by_cases c:ix P k=true
   ·rw [if_pos c,zab (by omega),zab (by omega),zab (by unfold fits;omega),c];rfl
   ·rw [if_neg c,zab (by omega),zab (by omega),zab (by omega),zab (by omega),zab (by unfold fits;omega),Bool.eq_false_iff.2 c];rfl
  obtain ⟨ag2,hag2,e⟩:∃ ag2,(ag2=true↔ag=true\/(ix N k=true /\ ¬ ix P k=true))/\zaM a r11 N ag k P=zbf N k P (zaM a r11 N) ag2:=by
   by_cases c0:ag=true
   ·refine ⟨true,by simp [c0],?_⟩
    rw [zcK];unfold zaU;rw [if_pos (decide_eq_true (by omega)),if_pos c0]
   by_cases c1:ix N k=true
   ·refine ⟨!(ix P k),by simp [c0,c1],?_⟩
    rw [zcK];unfold zaU;rw [if_pos (decide_eq_true (by omega)),if_neg c0,zab (by omega),zab (by omega),if_pos c1,zab (by omega),zab (by omega)]
   ·refine ⟨false,by simp [c0,c1],?_⟩
    rw [zcK];unfold zaU;rw [if_pos (decide_eq_true (by omega)),if_neg c0,zab (by omega),zab (by omega),if_neg c1]
  obtain ⟨ag',P',e',l1,s1,s3⟩:=ih (k+1) ag2 (P.set k.toNat (ix P k || ix N k)) (by omega) (by omega) (by rw [List.length_set];exact hP)
  refine ⟨ag',P',by rw [e,J21];exact e',l1,fun q q0 q1=>(s1 q q0 q1).trans ?_,?_⟩
  ·by_cases eq:q=k
   ·subst eq;rw [zal k0 (by omega),Bool.or_eq_true]
    constructor
    ·rintro ((h1 | h1) | ⟨h1,_⟩)
     ·exact .inl h1
     ·exact .inr ⟨Int.le_refl _,h1⟩
     ·omega
    ·rintro (h1 | ⟨_,h1⟩)
     ·exact .inl (.inl h1)
     ·exact .inl (.inr h1)
   ·rw [zak k0 q0 (fun hh=>eq hh.symm)]
    exact or_congr Iff.rfl (and_congr (by omega) Iff.rfl)
  ·rw [s3,hag2];constructor
   ·rintro ((h1 | h1) | ⟨q,h1,h2,h3⟩)
    ·exact .inl h1
    ·exact .inr ⟨k,Int.le_refl _,by omega,h1⟩
    ·rw [zak k0 (by omega) (by omega)] at h3
     exact .inr ⟨q,by omega,h2,h3⟩
   ·rintro (h1 | ⟨q,h1,h2,h3⟩)
    ·exact .inl (.inl h1)
    ·by_cases eq:q=k
     ·rw [eq] at h3;exact .inl (.inr h3)
     ·refine .inr ⟨q,by omega,h2,?_⟩
      rw [zak k0 (by omega) (by omega)]
      exact h3
theorem zyO (ha:AuOk a) (hlen:l.2.1.length<=1000) (hL:l.2.1.length=len) (hw:∀ i:Nat,i < len->ix l.2.1 (i:Int)=u (h+i)) {P:List Bool} {r11:Bool->List Bool->Option Bool}:
  ∀ (m i:Nat) (N:List Bool),i+m=len->(N.length:Int)=a.2.1->(∀ q:Int,0<=q->q < a.2.1->(ix N q=true↔∃ x,Ms a P x/\Wt a u i h x q))->
   ∃ N',zb4 a l r11 (i:Int) P N=zaM a r11 N' false 0 P/\(N'.length:Int)=a.2.1/\∀ q:Int,0<=q->q < a.2.1->(ix N' q=true↔∃ x,Ms a P x/\Rd a u h len x q):=by
 have ea:(a.1,a.2.1,a.2.2.1,a.2.2.2.1,a.2.2.2.2.1,())=a:=rfl;intro m
 induction m with
 | zero=>
  intro i N hi hN hq;have:i=len:=by omega
  subst this;refine ⟨N,?_,hN,hq⟩
  rw [zgE];unfold zbr;rw [if_neg (by simp only [decide_eq_true_eq];omega)]
 | succ m ih=>
  intro i N hi hN hq;obtain ⟨o,e,lo,so⟩:=zoe ha hN (ix l.2.1 (i:Int));have hwi:=hw i (by omega)
  obtain ⟨N',e',l',s'⟩:=ih (i+1) o (by omega) lo (fun q q0 q1=>by
   rw [so q q0 q1,hwi];constructor
   ·rintro ⟨r,h1,h2⟩;have hb:=(h2.b ha).1;obtain ⟨x,hx,hxr⟩:=(hq r hb.1 hb.2).1 h1;exact ⟨x,hx,Wt.snoc.2 ⟨r,hxr,h2⟩⟩
   ·rintro ⟨x,hx,h1⟩;obtain ⟨r,h2,h3⟩:=Wt.snoc.1 h1;have hb:=(h3.b ha).1;exact ⟨r,(hq r hb.1 hb.2).2 ⟨x,hx,h2⟩,h3⟩)
  refine ⟨N',?_,l',s'⟩
  rw [<- e',zgE];unfold zbr;rw [if_pos (decide_eq_true (by omega)),zab (by omega),ea]
  refine zae e ?_
  rw [zab (by unfold fits;omega)]
  rfl
open Classical in
theorem zyS (ha:AuOk a) {F:List Bool} (hF:FinB a F) (hlen:l.2.1.length<=1000) (hL:l.2.1.length=len) (hw:∀ i:Nat,i < len->ix l.2.1 (i:Int)=u (h+i)) {P:List Bool} (hP:(P.length:Int)=a.2.1):
  ∀ (m:Nat) (k:Int),0<=k->k+m=a.2.1->zcS a l P F k=some (decide (∃ q:Int,k<=q/\Ms a P q/\zjy a u h len q)):=by
 have ea:(a.1,a.2.1,a.2.2.1,a.2.2.2.1,a.2.2.2.2.1,())=a:=rfl;have hn:=ha.n1;intro m
 induction m with
 | zero=>
  intro k k0 hk;rw [zgG];unfold zbt;rw [if_neg (by simp only [decide_eq_true_eq];omega),decide_eq_false]
  rintro ⟨q,h1,h2,_⟩;have:=h2.1;omega
 | succ m ih=>
  intro k k0 hk;have nx : ¬ (Ms a P k/\zjy a u h len k)->(some (decide (∃ q:Int,k+1<=q/\Ms a P q/\zjy a u h len q)):Option Bool)=some (decide (∃ q:Int,k<=q/\Ms a P q/\zjy a u h len q)):=by
   intro hno;refine congrArg some (decide_eq_decide.2 ⟨fun ⟨q,h1,h2⟩=>⟨q,by omega,h2⟩,fun ⟨q,h1,h2⟩=>⟨q,?_,h2⟩⟩)
   by_cases e:q=k
   ·rw [e] at h2;exact absurd h2 hno
   ·omega
  rw [zgG];unfold zbt;rw [if_pos (decide_eq_true (by omega)),zab (by omega),zab (by omega)]
  by_cases c:ix P k=true
  ·rw [if_neg (by simp [c]),ea]
   refine zae (zvQ ha hF hlen hL hw k0 (by omega)) ?_
   by_cases c2:zjy a u h len k
   ·rw [if_pos (decide_eq_true c2),decide_eq_true ⟨k,Int.le_refl _,⟨⟨k0,by omega⟩,c⟩,c2⟩]
   ·rw [if_neg (by simpa using c2),zab (by unfold fits;omega),ih (k+1) (by omega) (by omega)]
    exact nx (fun hh=>c2 hh.2)
  ·rw [if_pos (by simp [c]),zab (by unfold fits;omega),ih (k+1) (by omega) (by omega)]
   exact nx (fun hh=>c hh.1.2)
theorem zyR (ha:AuOk a) {P:List Bool}:∀ (m:Nat) (k:Int) (F:List Bool),0<=k->k+m=a.2.2.2.2.1.length->(F.length:Int)=a.2.1->(∀ q:Int,0<=q->q < a.2.1->(ix F q=true↔∃ j:Int,0<=j/\j < k/\ix a.2.2.2.2.1 j=q))->
  ∃ F',zee a l P k F=zcS a l P F' 0/\FinB a F':=by
 have hlf:=ha.lf;intro m
 induction m with
 | zero=>
  intro k F k0 hk hF hq;refine ⟨F,?_,hF,fun q q0 q1=>(hq q q0 q1).trans ?_⟩
  ·rw [zgF];unfold zbs;rw [if_neg (by simp only [decide_eq_true_eq];omega)]
  ·constructor
   ·rintro ⟨j,j0,j1,rfl⟩;exact zaX j0 (by omega)
   ·intro hm;obtain ⟨j,j0,j1,e⟩:=(zdX (P:=fun y=>y=q)).1 ⟨q,hm,rfl⟩
    exact ⟨j,j0,by omega,e⟩
 | succ m ih=>
  intro k F k0 hk hF hq;have hb:=ha.f _ (zaX k0 (by omega:k < a.2.2.2.2.1.length))
  obtain ⟨F',e,h'⟩:=ih (k+1) (F.set (ix a.2.2.2.2.1 k).toNat true) (by omega) (by omega) (by rw [List.length_set];exact hF) (fun q q0 q1=>by
   by_cases c:ix a.2.2.2.2.1 k=q
   ·rw [c,zal q0 (by omega)]
    exact ⟨fun _=>⟨k,k0,by omega,c⟩,fun _=>rfl⟩
   ·rw [zak hb.1 q0 c,hq q q0 q1];constructor
    ·rintro ⟨j,j0,j1,e⟩;exact ⟨j,j0,by omega,e⟩
    ·rintro ⟨j,j0,j1,e⟩;by_cases ej:j=k
     ·rw [ej] at e;exact absurd e c
     ·exact ⟨j,j0,by omega,e⟩)
  refine ⟨F',?_,h'⟩
  rw [<- e]
  conv=>lhs;rw [zgF];unfold zbs
  rw [if_pos (decide_eq_true (by omega)),zab (by omega),zab (by omega),zab (by omega),zab (by unfold fits;omega)]
open Classical in
theorem zyM (ha:AuOk a) (hlen:l.2.1.length<=1000) (hL:l.2.1.length=len) (hl0:0 < len) (hw:∀ i:Nat,i < len->ix l.2.1 (i:Int)=u (h+i)):
  ∀ (f:Nat) (P:List Bool),nots (ix P) a.2.1.toNat=f->(P.length:Int)=a.2.1->(∀ k,Ms a P k->FarP a u h len k)->(∀ r,(∃ q0∈a.2.2.1,Wt a u h 0 q0 r)->Ms a P r)->
   zbA a l true P=some (decide (RefA a u h len)):=by
 have ea:(a.1,a.2.1,a.2.2.1,a.2.2.2.1,a.2.2.2.2.1,())=a:=rfl;have hn:=ha.n1;intro f
 induction f using Nat.strongRecOn with
 | _ f ih=>
 intro P hf hP hin hst;obtain ⟨o,eo,lo,so⟩:=zoe ha hP (ix l.2.1 0);have hw0:=hw 0 hl0;obtain ⟨N,e1,lN,sN⟩:=zyO ha hlen hL hw (P:=P) (r11:=zbA a l) (len - 1) 1 o (by omega) lo (fun q q0 q1=>by
  rw [so q q0 q1,show ix l.2.1 0=u (h+0) from hw0];constructor
  ·rintro ⟨r,h1,h2⟩;exact ⟨r,⟨(h2.b ha).1,h1⟩,q,h2,rfl⟩
  ·rintro ⟨x,hx,r,h1,h2⟩
   cases h2;exact ⟨x,hx.2,h1⟩)
 obtain ⟨ag,P',e2,l1,s1,s3⟩:=zyP ha lN (r11:=zbA a l) a.2.1.toNat 0 false P (by omega) (by omega) hP
 have e0:zbA a l true P=zbA a l ag P':=by
  rw [<- e2,<- e1]
  conv=>lhs;rw [zgD];unfold zbq
  rw [if_pos rfl,if_pos (decide_eq_true (by omega)),zab (by omega),ea]
  refine zae eo ?_
  rw [zab (by unfold fits;omega)]
  rfl
 rw [e0];have mP:∀ k:Int,0<=k->k < (a.2.1.toNat:Int)->ix P k=true->ix P' k=true:=fun k k0 k1 hk=>(s1 k k0 (by omega)).2 (.inl hk)
 have hin':∀ k,Ms a P' k->FarP a u h len k:=fun k hk=>by
  rcases (s1 k hk.1.1 hk.1.2).1 hk.2 with h4 | ⟨_,h4⟩
  ·exact hin k ⟨hk.1,h4⟩
  ·obtain ⟨x,hx,hxk⟩:=(sN k hk.1.1 hk.1.2).1 h4;obtain ⟨r,h5,h6⟩:=hin x hx;exact ⟨r,h5,h6.tail hxk⟩
 have hst':∀ r,(∃ q0∈a.2.2.1,Wt a u h 0 q0 r)->Ms a P' r:=fun r hr=>by
  have:=hst r hr;exact ⟨this.1,(s1 r this.1.1 this.1.2).2 (.inl this.2)⟩
 cases ag with
 | true=>
  rcases s3.1 rfl with h3 | ⟨k,k0,k1,h3⟩
  ·cases h3
  ·have hlt:nots (ix P') a.2.1.toNat < f:=by
    have:=zrr mP ⟨k,k0,by omega,(s1 k k0 k1).2 (.inr ⟨k0,h3.1⟩),h3.2⟩
    omega
   exact ih _ hlt P' rfl l1 hin' hst'
 | false=>
  have hno:∀ k:Int,0<=k->k < a.2.1->ix N k=true->ix P k=true:=fun k k0 k1 h1=>by
   by_cases h2:ix P k=true
   ·exact h2
   ·have:=s3.2 (.inr ⟨k,k0,k1,h1,h2⟩);cases this
  have far:∀ k,FarP a u h len k->Ms a P' k:=by
   rintro k ⟨r,hr,hs⟩;have:Ms a P k:=by
    induction hs with
    | refl=>exact hst r hr
    | tail _ rr ih2=>
     have hb:=Wt.b ha rr ih2.1.1 ih2.1.2;exact ⟨hb,hno _ hb.1 hb.2 ((sN _ hb.1 hb.2).2 ⟨_,ih2,rr⟩)⟩
   exact ⟨this.1,(s1 k this.1.1 this.1.2).2 (.inl this.2)⟩
  obtain ⟨F,e3,hF⟩:=zyR ha (l:=l) (P:=P') a.2.2.2.2.1.length 0 (List.replicate a.2.1.toNat false) (by omega) (by omega) (by rw [List.length_replicate];omega) (fun q q0 q1=>by
   rw [zc9 q0 (by omega)]
   exact ⟨fun hh=>(by cases hh),fun ⟨k,k0,k1,_⟩=>by omega⟩)
  rw [zgD];unfold zbq;rw [if_neg (by decide),zab (by unfold mkOK;omega),e3,zyS ha hF hlen hL hw l1 a.2.1.toNat 0 (by omega) (by omega)]
  refine congrArg some (decide_eq_decide.2 ⟨fun ⟨q,_,h1,h2⟩=>⟨q,hin' q h1,h2⟩,fun ⟨q,h1,h2⟩=>⟨q,(far q h1).1.1,far q h1,h2⟩⟩)
open Classical in
theorem zs2 (ha:AuOk a) (hh1:l.1.length<=1000) (hh:l.1.length=h) (hlen:l.2.1.length<=1000) (hL:l.2.1.length=len) (hl0:0 < len) (hwh:∀ i:Nat,i < h->ix l.1 (i:Int)=u i) (hw:∀ i:Nat,i < len->ix l.2.1 (i:Int)=u (h+i)):
  zjo a l=some (decide (RefA a u h len)):=by
 have ea:(a.1,a.2.1,a.2.2.1,a.2.2.2.1,a.2.2.2.2.1,())=a:=rfl;have hn:=ha.n1;have hls:=ha.ls;have L7:∀ (m i:Nat) (P:List Bool),i+m=h->(P.length:Int)=a.2.1->(∀ q:Int,0<=q->q < a.2.1->(ix P q=true↔∃ q0∈a.2.2.1,Wt a u i 0 q0 q))->zeM a l (i:Int) P=some (decide (RefA a u h len)):=by
  intro m
  induction m with
  | zero=>
   intro i P hi hP hq;have:i=h:=by omega
   subst this;rw [zhF];unfold zbP;rw [if_neg (by simp only [decide_eq_true_eq];omega)]
   refine zyM ha hlen hL hl0 hw _ P rfl hP (fun k hk => ?_) (fun r hr => ?_)
   ·exact ⟨k,(hq k hk.1.1 hk.1.2).1 hk.2,.refl _⟩
   ·obtain ⟨q0,h1,h2⟩:=hr;have hb:=Wt.b ha h2 (ha.s _ h1).1 (ha.s _ h1).2;exact ⟨hb,(hq r hb.1 hb.2).2 ⟨q0,h1,h2⟩⟩
  | succ m ih=>
   intro i P hi hP hq;obtain ⟨o,e,lo,so⟩:=zoe ha hP (ix l.1 (i:Int));have hwi:=hwh i (by omega)
   rw [zhF];unfold zbP;rw [if_pos (decide_eq_true (by omega)),zab (by omega),ea]
   refine zae e ?_
   rw [zab (by unfold fits;omega)]
   refine ih (i+1) o (by omega) lo (fun q q0 q1 => ?_)
   rw [so q q0 q1,hwi];constructor
   ·rintro ⟨r,h1,h2⟩;have hb:=(h2.b ha).1;obtain ⟨x,hx,hxr⟩:=(hq r hb.1 hb.2).1 h1;exact ⟨x,hx,Wt.snoc.2 ⟨r,hxr,by rw [Nat.zero_add];exact h2⟩⟩
   ·rintro ⟨x,hx,h1⟩;obtain ⟨r,h2,h3⟩:=Wt.snoc.1 h1;have hb:=(h3.b ha).1;rw [Nat.zero_add] at h3;exact ⟨r,(hq r hb.1 hb.2).2 ⟨x,hx,h2⟩,h3⟩
 have L3:∀ (m:Nat) (k:Int) (P:List Bool),0<=k->k+m=a.2.2.1.length->(P.length:Int)=a.2.1->(∀ q:Int,0<=q->q < a.2.1->(ix P q=true↔∃ j:Int,0<=j/\j < k/\ix a.2.2.1 j=q))->zeL a l k P=some (decide (RefA a u h len)):=by
  intro m
  induction m with
  | zero=>
   intro k P k0 hk hP hq;rw [zhE];unfold zbO;rw [if_neg (by simp only [decide_eq_true_eq];omega)]
   refine L7 h 0 P (by omega) hP (fun q q0 q1=>(hq q q0 q1).trans ?_)
   constructor
   ·rintro ⟨j,j0,j1,rfl⟩;exact ⟨_,zaX j0 (by omega),rfl⟩
   ·rintro ⟨q',hm,e⟩
    cases e;obtain ⟨j,j0,j1,e⟩:=(zdX (P:=fun y=>y=q)).1 ⟨q,hm,rfl⟩
    exact ⟨j,j0,by omega,e⟩
  | succ m ih=>
   intro k P k0 hk hP hq;have hb:=ha.s _ (zaX k0 (by omega:k < a.2.2.1.length))
   rw [zhE];unfold zbO;rw [if_pos (decide_eq_true (by omega)),zab (by omega),zab (by omega),zab (by omega),zab (by unfold fits;omega)]
   refine ih (k+1) (P.set (ix a.2.2.1 k).toNat true) (by omega) (by omega) (by rw [List.length_set];exact hP) (fun q q0 q1 => ?_)
   by_cases c:ix a.2.2.1 k=q
   ·rw [c,zal q0 (by omega)]
    exact ⟨fun _=>⟨k,k0,by omega,c⟩,fun _=>rfl⟩
   ·rw [zak hb.1 q0 c,hq q q0 q1];constructor
    ·rintro ⟨j,j0,j1,e⟩;exact ⟨j,j0,by omega,e⟩
    ·rintro ⟨j,j0,j1,e⟩;by_cases ej:j=k
     ·rw [ej] at e;exact absurd e c
     ·exact ⟨j,j0,by omega,e⟩
 unfold zjo;rw [zab (by unfold mkOK;omega)]
 refine L3 a.2.2.1.length 0 _ (by omega) (by omega) (by rw [List.length_replicate];omega) (fun q q0 q1 => ?_)
 rw [zc9 q0 (by omega)]
 exact ⟨fun hh=>(by cases hh),fun ⟨k,k0,k1,_⟩=>by omega⟩
end
def RunA (a:Au) (u:Nat->Int) (r:Nat->Int):Prop:=r 0∈a.2.2.1/\∀ t,StA a (r t) (u t) (r (t+1))
def InfA (a:Au) (u:Nat->Int):Prop:=∃ r,RunA a u r/\∀ N,∃ t,N<=t/\r t∈a.2.2.2.2.1
section
variable {a:Au} {u:Nat->Int} {h len:Nat}
theorem Wt.path:∀ {m s:Nat} {p q:Int},Wt a u m s p q->∃ r:Nat->Int,r 0=p/\r m=q/\∀ i,i < m->StA a (r i) (u (s+i)) (r (i+1))
 | 0,s,p,q,hh=>⟨fun _=>p,rfl,hh,fun i hi=>by omega⟩
 | m+1,s,p,q,⟨x,h1,h2⟩=>by
  obtain ⟨r,r0,rm,hr⟩:=Wt.path h2;refine ⟨fun i=>if i=0 then p else r (i - 1),rfl,?_,fun i hi => ?_⟩
  ·show (if m+1=0 then p else r (m+1 - 1))=q
   rw [if_neg (by omega),Nat.add_sub_cancel];exact rm
  ·show StA a (if i=0 then p else r (i - 1)) _ (if i+1=0 then p else r (i+1 - 1))
   rw [if_neg (by omega : ¬ i+1=0),Nat.add_sub_cancel]
   by_cases e:i=0
   ·subst e;rw [if_pos rfl,r0];exact h1
   ·rw [if_neg e];have:=hr (i - 1) (by omega)
    rw [show s+1+(i - 1)=s+i by omega,show i - 1+1=i by omega] at this
    exact this
theorem Wt.of_run {r:Nat->Int} (hr:∀ t,StA a (r t) (u t) (r (t+1))):∀ (m s:Nat),Wt a u m s (r s) (r (s+m))
 | 0,_=>rfl
 | m+1,s=>⟨r (s+1),hr s,by have:=Wt.of_run hr m (s+1);rwa [show s+1+m=s+(m+1) by omega] at this⟩
theorem zxa (hu:∀ t,h<=t->u (t+len)=u t) {t:Nat} (ht:h<=t):∀ k:Nat,u (t+k * len)=u t
 | 0=>by rw [Nat.zero_mul,Nat.add_zero]
 | k+1=>by rw [Nat.succ_mul,<- Nat.add_assoc,hu _ (by omega),zxa hu ht k]
theorem pig {K:Nat} {f:Nat->Nat} (hf:∀ i,i<=K->f i < K):∃ i j,i < j/\j<=K/\f i=f j:=by
 refine Classical.byContradiction fun hno => ?_
 have hn:((List.range (K+1)).map f).Nodup:=by
  rw [List.nodup_iff_pairwise_ne,List.pairwise_map];refine List.Pairwise.imp_of_mem (fun {i j} hi hj hij => ?_) (List.pairwise_lt_range (n:=K+1))
  intro e;exact hno ⟨i,j,hij,by have:=List.mem_range.1 hj;omega,e⟩
 have:=zqt (U:=List.range K) hn (fun x hx=>by
  obtain ⟨i,hi,rfl⟩:=List.mem_map.1 hx;rw [List.mem_range] at *
  exact hf i (by omega))
 simp at this;omega
theorem zyg (ha:AuOk a) (hl:0 < len) (hu:∀ t,h<=t->u (t+len)=u t):zyU a u h len↔InfA a u:=by
 constructor
 ·rintro ⟨q0,hq0,s,f,h1,hf,hs,b,hb,h2⟩;obtain ⟨r1,a0,a1,ar⟩:=h1.path;obtain ⟨r2,b0,b1,br⟩:=h2.path;have hL:0 < b * len:=Nat.mul_pos (by omega) hl
  refine ⟨fun t=>if t < s then r1 t else r2 ((t - s) % (b * len)),⟨?_,fun t => ?_⟩,fun N => ?_⟩
  ·show (if 0 < s then r1 0 else r2 ((0 - s) % (b * len)))∈_
   by_cases c:0 < s
   ·rw [if_pos c,a0];exact hq0
   ·rw [if_neg c,show (0 - s) % (b * len)=0 by rw [Nat.zero_sub,Nat.zero_mod],b0]
    have:s=0:=by omega
    subst this;rw [<- a1,a0];exact hq0
  ·show StA a (if t < s then r1 t else r2 ((t - s) % (b * len))) (u t) (if t+1 < s then r1 (t+1) else r2 ((t+1 - s) % (b * len)))
   by_cases c:t < s
   ·rw [if_pos c];have:=ar t c;rw [Nat.zero_add] at this;by_cases c2:t+1 < s
    ·rw [if_pos c2];exact this
    ·rw [if_neg c2,show t+1 - s=0 by omega,Nat.zero_mod,b0,<- a1]
     rwa [show t+1=s by omega] at this
   ·rw [if_neg c,if_neg (by omega)]
    have hm:=Nat.mod_lt (t - s) hL;have hst:=br _ hm;have hut:u t=u (s+(t - s) % (b * len)):=by
     have e:t=s+(t - s) % (b * len)+((t - s) / (b * len) * b) * len:=by
      have:=Nat.mod_add_div (t - s) (b * len);rw [Nat.mul_assoc,Nat.mul_comm _ (b * len)];omega
     conv=>lhs;rw [e]
     exact zxa hu (by omega) _
    rw [hut];by_cases c2:(t - s) % (b * len)+1 < b * len
    ·rw [show (t+1 - s) % (b * len)=(t - s) % (b * len)+1 by
      rw [show t+1 - s=(t - s)+1 by omega,Nat.add_mod,Nat.mod_eq_of_lt (a:=1) (by omega),Nat.mod_eq_of_lt c2]]
     exact hst
    ·have e1:(t - s) % (b * len)+1=b * len:=by omega
     rw [e1,b1] at hst;rw [show (t+1 - s) % (b * len)=0 by
      rw [show t+1 - s=(t - s)+1 by omega,Nat.add_mod]
      by_cases c3:b * len=1
      ·rw [c3,Nat.mod_one]
      ·rw [Nat.mod_eq_of_lt (a:=1) (by omega),e1,Nat.mod_self],b0]
     exact hst
  ·refine ⟨s+N * (b * len),?_,?_⟩
   ·have:N * 1<=N * (b * len):=Nat.mul_le_mul_left N hL;omega
   ·show (if s+N * (b * len) < s then r1 (s+N * (b * len)) else r2 ((s+N * (b * len) - s) % (b * len)))∈_
    rw [if_neg (by omega),Nat.add_sub_cancel_left,Nat.mul_mod_left,b0];exact hf
 ·rintro ⟨r,⟨r0,hr⟩,hi⟩;have hrb:∀ t,0<=r t/\r t < 300:=fun t=>by
   have:=(hr t).b ha;have:=ha.n1;omega
  let g:Nat->Nat:=fun k=>Nat.rec (Classical.choose (hi h)) (fun _ p=>Classical.choose (hi (p+1))) k
  have g0:h<=g 0/\r (g 0)∈a.2.2.2.2.1:=Classical.choose_spec (hi h);have gs:∀ k,g k+1<=g (k+1)/\r (g (k+1))∈a.2.2.2.2.1:=fun k=>Classical.choose_spec (hi (g k+1))
  have gm:∀ j i,i < j->g i < g j:=fun j=>by
   induction j with
   | zero=>intro i hij;omega
   | succ j ih=>
    intro i hij;have:=(gs j).1;by_cases e:i=j
    ·subst e;omega
    ·have:=ih i (by omega);omega
  have gf:∀ k,r (g k)∈a.2.2.2.2.1:=fun k=>by
   cases k with
   | zero=>exact g0.2
   | succ k=>exact (gs k).2
  have gh:∀ k,h<=g k:=fun k=>by
   cases k with
   | zero=>exact g0.1
   | succ k=>have:=gm (k+1) 0 (by omega);have:=g0.1;omega
  obtain ⟨i,j,hij,_,e⟩:=pig (K:=300 * len) (f:=fun k=>(r (g k)).toNat * len+g k % len) (fun k _=>by
   have h1:=hrb (g k);have h2:=Nat.mod_lt (g k) hl;have h3:(r (g k)).toNat * len<=299 * len:=Nat.mul_le_mul_right len (by omega)
   have h4:300 * len=299 * len+len:=by omega
   show (r (g k)).toNat * len+g k % len < 300 * len;omega)
  have e:(r (g i)).toNat * len+g i % len=(r (g j)).toNat * len+g j % len:=e;have d1:(r (g i)).toNat=(r (g j)).toNat:=by
   have h1:((r (g i)).toNat * len+g i % len) / len=(r (g i)).toNat:=by
    rw [Nat.add_comm,Nat.add_mul_div_right _ _ hl,Nat.div_eq_of_lt (Nat.mod_lt _ hl),Nat.zero_add]
   have h2:((r (g j)).toNat * len+g j % len) / len=(r (g j)).toNat:=by
    rw [Nat.add_comm,Nat.add_mul_div_right _ _ hl,Nat.div_eq_of_lt (Nat.mod_lt _ hl),Nat.zero_add]
   rw [<- h1,<- h2,e]
  have d2:g i % len=g j % len:=by rw [d1] at e;omega
  have d3:r (g i)=r (g j):=by have:=hrb (g i);have:=hrb (g j);omega
  have hlt:=gm j i hij;have hd:g j - g i=(g j / len - g i / len) * len:=by
   have m1:=Nat.mod_add_div (g i) len;have m2:=Nat.mod_add_div (g j) len;rw [Nat.sub_mul,Nat.mul_comm (g j / len),Nat.mul_comm (g i / len)];omega
  have hw1:=Wt.of_run hr (g i) 0;rw [Nat.zero_add] at hw1;have hw2:=Wt.of_run hr (g j - g i) (g i);rw [show g i+(g j - g i)=g j by omega,<- d3,hd] at hw2
  refine ⟨r 0,r0,g i,r (g i),hw1,gf i,gh i,g j / len - g i / len,?_,hw2⟩
  rcases Nat.eq_zero_or_pos (g j / len - g i / len) with h0 | h0
  ·rw [h0,Nat.zero_mul] at hd;omega
  ·exact h0
end
structure Tre where
 n:Nat
 L:Nat->Int->Prop
 A:Nat->Int
structure SD where
 N:Nat
 C:Nat->Int->Prop
 P:Nat->Int
 gone:Nat->Prop
 fl:Nat->Prop
 nu:Nat->Nat
structure IsStep (E:Int->Int->Prop) (F:Int->Prop) (T:Tre) (d:SD) (T':Tre) (m:Int):Prop where
 hN:T.n<=d.N
 pOld:∀ i,i < T.n->d.P i=T.A i
 pNew:∀ i,T.n<=i->i < d.N->0<=d.P i/\d.P i < T.n
 cOld:∀ i,i < T.n->∀ q,d.C i q↔(∃ p,T.L i p/\E p q)/\(0<=d.P i->d.C (d.P i).toNat q)/\∀ k,k < i->d.P k=d.P i -> ¬ d.C k q
 cNew:∀ i,T.n<=i->i < d.N->∀ q,d.C i q↔((∃ p,T.L (d.P i).toNat p/\E p q)/\F q)/\d.C (d.P i).toNat q/\∀ k,k < i->d.P k=d.P i -> ¬ d.C k q
 new:∀ i,i < T.n->(∃ q,(∃ p,T.L i p/\E p q)/\F q)->∃ j,T.n<=j/\j < d.N/\d.P j=i
 gNot:∀ i,i < d.N->(∃ q,d.C i q)->0<=d.P i -> ¬ d.gone (d.P i).toNat -> ¬ d.fl (d.P i).toNat -> ¬ d.gone i
 gRoot:∀ i,i < d.N->(∃ q,d.C i q)->d.P i < 0 -> ¬ d.gone i
 gEmp:∀ i,i < d.N -> ¬ d.gone i->∃ q,d.C i q
 gFl:∀ i,i < d.N->0<=d.P i->d.fl (d.P i).toNat->d.gone i
 gPar:∀ i,i < d.N->0<=d.P i -> ¬ d.gone i -> ¬ d.gone (d.P i).toNat
 flU:∀ i,i < d.N->d.fl i->∀ q,d.C i q->∃ k,k < d.N/\d.P k=i/\d.C k q
 flN:∀ i,i < d.N -> ¬ d.gone i -> ¬ d.fl i->∃ q,d.C i q/\∀ k,k < d.N->d.P k=i -> ¬ d.C k q
 nuS:∀ i,i < d.N -> ¬ d.gone i->d.nu i < T'.n
 nuI:∀ i j,i < j->j < d.N -> ¬ d.gone i -> ¬ d.gone j->d.nu i < d.nu j
 nuLe:∀ i,d.nu i<=i
 nuEq:∀ i,i < d.N->(∀ j,j < i -> ¬ d.gone j)->d.nu i=i
 nuLt:∀ i j,j < i->i < d.N->d.gone j->d.nu i < i
 onto:∀ k,k < T'.n->∃ i,i < d.N /\ ¬ d.gone i/\d.nu i=k
 lab:∀ i,i < d.N -> ¬ d.gone i->∀ q,T'.L (d.nu i) q↔d.C i q
 abv:∀ i,i < d.N -> ¬ d.gone i->T'.A (d.nu i)=if 0<=d.P i then (d.nu (d.P i).toNat:Int) else -1
 mGone:∀ i,i < T.n->d.gone i->m<=2 * i+1
 mFl:∀ i,i < T.n->d.fl i -> ¬ d.gone i->m<=2 * i+2
 mIs:m=9\/(∃ i,i < T.n/\d.gone i/\m=2 * i+1)\/∃ i,i < T.n /\ ¬ d.gone i/\d.fl i/\m=2 * i+2
structure Vld (T:Tre):Prop where
 root:∀ i,i < T.n->(T.A i < 0↔i=0)
 par:∀ i,i < T.n->T.A i < i
 sub:∀ i,i < T.n->0<=T.A i->∀ q,T.L i q->T.L (T.A i).toNat q
 ne:∀ i,i < T.n->∃ q,T.L i q
 str:∀ i,i < T.n->∃ q,T.L i q/\∀ k,k < T.n->T.A k=i -> ¬ T.L k q
 dis:∀ i j,i < j->j < T.n->T.A i=T.A j->∀ q,T.L i q -> ¬ T.L j q
section
variable {E:Int->Int->Prop} {F:Int->Prop} {T T':Tre} {d:SD} {m:Int}
theorem IsStep.plt (h:IsStep E F T d T' m) (hv:Vld T) {i:Nat} (hi:i < d.N):d.P i < i:=by
 by_cases c:i < T.n
 ·rw [h.pOld i c];exact hv.par i c
 ·have:=h.pNew i (by omega) hi;omega
theorem IsStep.csub (h:IsStep E F T d T' m) {i:Nat} (hi:i < d.N) (hp:0<=d.P i) {q:Int} (hq:d.C i q):d.C (d.P i).toNat q:=by
 by_cases c:i < T.n
 ·exact ((h.cOld i c q).1 hq).2.1 hp
 ·exact ((h.cNew i (by omega) hi q).1 hq).2.1
theorem IsStep.cdis (h:IsStep E F T d T' m) {i j:Nat} (hij:i < j) (hj:j < d.N) (hp:d.P i=d.P j) {q:Int} (hq:d.C i q) : ¬ d.C j q:=fun hq'=>by
 by_cases c:j < T.n
 ·exact ((h.cOld j c q).1 hq').2.2 i hij hp hq
 ·exact ((h.cNew j (by omega) hj q).1 hq').2.2 i hij hp hq
theorem IsStep.vld (h:IsStep E F T d T' m) (hv:Vld T):Vld T' where
 root k hk:=by
  obtain ⟨i,hi,hg,rfl⟩:=h.onto k hk;rw [h.abv i hi hg];by_cases c:0<=d.P i
  ·rw [if_pos c];have hlt:=h.plt hv hi;have hp:(d.P i).toNat < d.N:=by omega
   have:=h.nuI (d.P i).toNat i (by omega) hi (h.gPar i hi c hg) hg
   constructor
   ·intro h1;omega
   ·intro h1;omega
  ·rw [if_neg c];have hi0:i=0:=by
    by_cases c2:i < T.n
    ·exact (hv.root i c2).1 (by rw [<- h.pOld i c2];omega)
    ·have:=h.pNew i (by omega) hi;omega
   subst hi0;have:=h.nuLe 0;constructor
   ·intro _;omega
   ·intro _;omega
 par k hk:=by
  obtain ⟨i,hi,hg,rfl⟩:=h.onto k hk;rw [h.abv i hi hg];by_cases c:0<=d.P i
  ·rw [if_pos c];have hlt:=h.plt hv hi;have:=h.nuI (d.P i).toNat i (by omega) hi (h.gPar i hi c hg) hg
   omega
  ·rw [if_neg c];omega
 sub k hk hk0 q hq:=by
  obtain ⟨i,hi,hg,rfl⟩:=h.onto k hk;have e:=h.abv i hi hg;by_cases c:0<=d.P i
  ·rw [if_pos c] at e;have hlt:=h.plt hv hi;rw [e,Int.toNat_natCast,h.lab _ (by omega) (h.gPar i hi c hg)]
   exact h.csub hi c ((h.lab i hi hg q).1 hq)
  ·rw [if_neg c] at e;omega
 ne k hk:=by
  obtain ⟨i,hi,hg,rfl⟩:=h.onto k hk;obtain ⟨q,hq⟩:=h.gEmp i hi hg;exact ⟨q,(h.lab i hi hg q).2 hq⟩
 str k hk:=by
  obtain ⟨i,hi,hg,rfl⟩:=h.onto k hk;have noKid:∀ k',k' < T'.n->T'.A k'=(d.nu i:Int)->∃ j,j < d.N /\ ¬ d.gone j/\d.nu j=k'/\d.P j=i:=fun k' hk' he=>by
   obtain ⟨j,hj,hgj,rfl⟩:=h.onto k' hk';refine ⟨j,hj,hgj,rfl,?_⟩
   rw [h.abv j hj hgj] at he;by_cases c:0<=d.P j
   ·rw [if_pos c] at he;have hlt:=h.plt hv hj;have hgp:=h.gPar j hj c hgj;have he:d.nu (d.P j).toNat=d.nu i:=by omega
    have:(d.P j).toNat=i:=by
     rcases Nat.lt_trichotomy (d.P j).toNat i with g | g | g
     ·have:=h.nuI _ _ g hi hgp hg;omega
     ·exact g
     ·have:=h.nuI _ _ g (by omega) hg hgp;omega
    omega
   ·rw [if_neg c] at he;omega
  by_cases f:d.fl i
  ·obtain ⟨q,hq⟩:=h.gEmp i hi hg;refine ⟨q,(h.lab i hi hg q).2 hq,fun k' hk' he => ?_⟩
   obtain ⟨j,hj,hgj,_,hp⟩:=noKid k' hk' he;exact absurd (h.gFl j hj (by omega) (by rw [hp,Int.toNat_natCast];exact f)) hgj
  ·obtain ⟨q,hq,hno⟩:=h.flN i hi hg f;refine ⟨q,(h.lab i hi hg q).2 hq,fun k' hk' he hq' => ?_⟩
   obtain ⟨j,hj,hgj,rfl,hp⟩:=noKid k' hk' he;exact hno j hj hp ((h.lab j hj hgj q).1 hq')
 dis k k' hlt hk' he q hq hq':=by
  obtain ⟨i,hi,hg,rfl⟩:=h.onto k (by omega)
  obtain ⟨j,hj,hgj,rfl⟩:=h.onto k' hk';have hij:i < j:=by
   rcases Nat.lt_trichotomy i j with g | g | g
   ·exact g
   ·subst g;omega
   ·have:=h.nuI _ _ g hi hgj hg;omega
  rw [h.abv i hi hg,h.abv j hj hgj] at he;have hp:d.P i=d.P j:=by
   by_cases c:0<=d.P i
   ·by_cases c2:0<=d.P j
    ·rw [if_pos c,if_pos c2] at he;have h1:=h.plt hv hi;have h2:=h.plt hv hj;have g1:=h.gPar i hi c hg;have g2:=h.gPar j hj c2 hgj;have he:d.nu (d.P i).toNat=d.nu (d.P j).toNat:=by omega
     have:(d.P i).toNat=(d.P j).toNat:=by
      rcases Nat.lt_trichotomy (d.P i).toNat (d.P j).toNat with g | g | g
      ·have:=h.nuI _ _ g (by omega) g1 g2;omega
      ·exact g
      ·have:=h.nuI _ _ g (by omega) g2 g1;omega
     omega
    ·rw [if_pos c,if_neg c2] at he;omega
   ·by_cases c2:0<=d.P j
    ·rw [if_neg c,if_pos c2] at he;omega
    ·-- two roots
     have r0:∀ i,i < d.N -> ¬ 0<=d.P i->i=0:=fun i hi c=>by
      by_cases c2:i < T.n
      ·exact (hv.root i c2).1 (by rw [<- h.pOld i c2];omega)
      ·have:=h.pNew i (by omega) hi;omega
     have:=r0 i hi c;have:=r0 j hj c2;omega
  exact h.cdis hij hj hp ((h.lab i hi hg q).1 hq) ((h.lab j hj hgj q).1 hq')
end
structure Row (E:Nat->Int->Int->Prop) (F:Int->Prop) (T:Nat->Tre) (D:Nat->SD) (M:Nat->Int):Prop where
 v0:Vld (T 0)
 s:∀ t,((T t).n=0/\(T (t+1)).n=0/\M t=1)\/(0 < (T t).n/\IsStep (E t) F (T t) (D t) (T (t+1)) (M t))
section
variable {E:Nat->Int->Int->Prop} {F:Int->Prop} {T:Nat->Tre} {D:Nat->SD} {M:Nat->Int}
theorem zu1 {T:Tre} (h:T.n=0):Vld T:=⟨fun i hi=>by omega,fun i hi=>by omega,fun i hi=>by omega,fun i hi=>by omega,fun i hi=>by omega,fun i j hij hj=>by omega⟩
theorem Row.v (h:Row E F T D M):∀ t,Vld (T t)
 | 0=>h.v0
 | t+1=>by
  rcases h.s t with ⟨_,h2,_⟩ | ⟨_,h2⟩
  ·exact zu1 h2
  ·exact h2.vld (h.v t)
inductive Pth (E:Nat->Int->Int->Prop):Nat->Int->Nat->Int->Prop
 | nil (s:Nat) (p:Int):Pth E s p s p
 | snoc {s:Nat} {p:Int} {t:Nat} {q r:Int} (h:Pth E s p t q) (e:E t q r):Pth E s p (t+1) r
def PthF (E:Nat->Int->Int->Prop) (F:Int->Prop) (s:Nat) (p:Int) (t:Nat) (q:Int):Prop:=∃ c f,s < c/\Pth E s p c f/\F f/\Pth E c f t q
theorem PthF.snoc {s:Nat} {p:Int} {t:Nat} {q r:Int} (h:PthF E F s p t q) (e:E t q r):PthF E F s p (t+1) r:=by
 obtain ⟨c,f,h1,h2,h3,h4⟩:=h;exact ⟨c,f,h1,h2,h3,h4.snoc e⟩
theorem Pth.le {s:Nat} {p:Int} {t:Nat} {q:Int} (h:Pth E s p t q):s<=t:=by
 induction h with
 | nil=>exact Nat.le_refl _
 | snoc _ _ ih=>omega
theorem Row.reach (h:Row E F T D M):∀ t i,i < (T t).n->∀ q,(T t).L i q->∃ p j,j < (T 0).n/\(T 0).L j p/\Pth E 0 p t q
 | 0,i,hi,q,hq=>⟨q,i,hi,hq,.nil 0 q⟩
 | t+1,k,hk,q,hq=>by
  rcases h.s t with ⟨_,h2,_⟩ | ⟨_,h2⟩
  ·omega
  ·obtain ⟨i,hi,hg,rfl⟩:=h2.onto k hk;have hc:=(h2.lab i hi hg q).1 hq;have:∃ j p,j < (T t).n/\(T t).L j p/\E t p q:=by
    by_cases c:i < (T t).n
    ·obtain ⟨⟨p,hp,he⟩,_⟩:=(h2.cOld i c q).1 hc;exact ⟨i,p,c,hp,he⟩
    ·obtain ⟨⟨⟨p,hp,he⟩,_⟩,_⟩:=(h2.cNew i (by omega) hi q).1 hc
     have:=h2.pNew i (by omega) hi
     exact ⟨_,p,by omega,hp,he⟩
   obtain ⟨j,p,hj,hp,he⟩:=this;obtain ⟨p0,j0,a1,a2,a3⟩:=h.reach t j hj p hp;exact ⟨p0,j0,a1,a2,a3.snoc he⟩
def zs7 (T:Nat->Tre) (D:Nat->SD) (k:Nat) (t0:Nat):Prop:=∀ t,t0<=t->k < (T t).n/\∀ j,j<=k -> ¬ (D t).gone j
theorem Row.step (h:Row E F T D M) {k t0:Nat} (hs:zs7 T D k t0) {t:Nat} (ht:t0<=t):IsStep (E t) F (T t) (D t) (T (t+1)) (M t)/\(D t).nu k=k/\∀ j,j<=k->(D t).nu j=j:=by
 obtain ⟨h1,h2⟩:=hs t ht;rcases h.s t with ⟨h3,_⟩ | ⟨_,h3⟩
 ·omega
 ·have hN:=h3.hN;exact ⟨h3,h3.nuEq k (by omega) (fun j hj=>h2 j (by omega)),fun j hj=>h3.nuEq j (by omega) (fun j' hj'=>h2 j' (by omega))⟩
theorem Row.stepL (h:Row E F T D M) {k t0:Nat} (hs:zs7 T D k t0) {t:Nat} (ht:t0<=t) (q:Int):(T (t+1)).L k q↔(D t).C k q:=by
 obtain ⟨h1,h2,_⟩:=h.step hs ht;have hk:=(hs t ht).1;have hN:=h1.hN;have:=h1.lab k (by omega) ((hs t ht).2 k (Nat.le_refl _)) q
 rwa [h2] at this
theorem Row.kid (h:Row E F T D M) {k t0:Nat} (hs:zs7 T D k t0) {t:Nat} (ht:t0<=t) {c:Nat} (hc:c < (T (t+1)).n) (hA:(T (t+1)).A c=k):∃ i,i < (D t).N /\ ¬ (D t).gone i/\(D t).nu i=c/\(D t).P i=k:=by
 obtain ⟨h1,h2,h3⟩:=h.step hs ht;have hk:=(hs t ht).1;have hN:=h1.hN;obtain ⟨i,hi,hg,rfl⟩:=h1.onto c hc;refine ⟨i,hi,hg,rfl,?_⟩
 rw [h1.abv i hi hg] at hA;by_cases c:0<=(D t).P i
 ·rw [if_pos c] at hA;have hlt:=h1.plt (h.v t) hi;have hgp:=h1.gPar i hi c hg;have hA:(D t).nu ((D t).P i).toNat=k:=by omega
  have:((D t).P i).toNat=k:=by
   rcases Nat.lt_trichotomy ((D t).P i).toNat k with g | g | g
   ·have:=h3 _ (Nat.le_of_lt g);omega
   ·exact g
   ·have:=h1.nuI _ _ g (by omega) ((hs t ht).2 k (Nat.le_refl _)) hgp;omega
  omega
 ·rw [if_neg c] at hA;omega
theorem Row.between (h:Row E F T D M) {k t0:Nat} (hs:zs7 T D k t0) {s:Nat} (hs0:t0<=s) (hfl:(D s).fl k):∀ n:Nat,(∀ q,(T (s+1+n)).L k q->∃ p,(T (s+1)).L k p/\Pth E (s+1) p (s+1+n) q)/\∀ c,c < (T (s+1+n)).n->(T (s+1+n)).A c=k->∀ q,(T (s+1+n)).L c q->∃ p,(T (s+1)).L k p/\PthF E F (s+1) p (s+1+n) q:=by
 have step:∀ n,(∀ q,(T (s+1+n)).L k q->∃ p,(T (s+1)).L k p/\Pth E (s+1) p (s+1+n) q)->(∀ c,c < (T (s+1+n)).n->(T (s+1+n)).A c=k->∀ q,(T (s+1+n)).L c q->∃ p,(T (s+1)).L k p/\PthF E F (s+1) p (s+1+n) q)->
   ∀ i,i < (D (s+1+n)).N->(D (s+1+n)).P i=k->∀ q,(D (s+1+n)).C i q->∃ p,(T (s+1)).L k p/\PthF E F (s+1) p (s+1+n+1) q:=by
  intro n h1 h2 i hi hp q hq;obtain ⟨g1,_,_⟩:=h.step hs (t:=s+1+n) (by omega)
  by_cases c:i < (T (s+1+n)).n
  ·obtain ⟨⟨r,hr,he⟩,_⟩:=(g1.cOld i c q).1 hq;obtain ⟨p,hp1,hp2⟩:=h2 i c (by rw [<- g1.pOld i c];exact hp) r hr
   exact ⟨p,hp1,hp2.snoc he⟩
  ·obtain ⟨⟨⟨r,hr,he⟩,hF⟩,_⟩:=(g1.cNew i (by omega) hi q).1 hq
   rw [hp,Int.toNat_natCast] at hr;obtain ⟨p,hp1,hp2⟩:=h1 r hr;exact ⟨p,hp1,s+1+n+1,q,by omega,hp2.snoc he,hF,.nil _ _⟩
 intro n
 induction n with
 | zero=>
  refine ⟨fun q hq=>⟨q,hq,.nil _ _⟩,fun c hc hA => ?_⟩
  obtain ⟨g1,_,_⟩:=h.step hs hs0;obtain ⟨i,hi,hg,_,hp⟩:=h.kid hs hs0 hc hA;exact absurd (g1.gFl i hi (by omega) (by rw [hp,Int.toNat_natCast];exact hfl)) hg
 | succ n ih=>
  obtain ⟨h1,h2⟩:=ih;obtain ⟨g1,_,_⟩:=h.step hs (t:=s+1+n) (by omega)
  have hk:=(hs (s+1+n) (by omega)).1
  refine ⟨fun q hq => ?_,fun c hc hA q hq => ?_⟩
  ·have hc:=(h.stepL hs (t:=s+1+n) (by omega) q).1 hq
   obtain ⟨⟨r,hr,he⟩,_⟩:=(g1.cOld k hk q).1 hc;obtain ⟨p,hp1,hp2⟩:=h1 r hr;exact ⟨p,hp1,hp2.snoc he⟩
  ·obtain ⟨i,hi,hg,rfl,hp⟩:=h.kid hs (t:=s+1+n) (by omega) hc hA
   exact step n h1 h2 i hi hp q ((g1.lab i hi hg q).1 hq)
theorem Row.flash (h:Row E F T D M) {k t0:Nat} (hs:zs7 T D k t0) {s s':Nat} (hs0:t0<=s) (hfl:(D s).fl k) (hlt:s < s') (hfl':(D s').fl k) {q:Int} (hq:(T (s'+1)).L k q):∃ p,(T (s+1)).L k p/\PthF E F (s+1) p (s'+1) q:=by
 obtain ⟨n,rfl⟩:∃ n,s'=s+1+n:=⟨s' - (s+1),by omega⟩
 obtain ⟨h1,h2⟩:=h.between hs hs0 hfl n;obtain ⟨g1,_,_⟩:=h.step hs (t:=s+1+n) (by omega)
 have hk:=(hs (s+1+n) (by omega)).1
 have hN:=g1.hN;have hc:=(h.stepL hs (t:=s+1+n) (by omega) q).1 hq
 obtain ⟨i,hi,hp,hqi⟩:=g1.flU k (by omega) hfl' q hc
 by_cases c:i < (T (s+1+n)).n
 ·obtain ⟨⟨r,hr,he⟩,_⟩:=(g1.cOld i c q).1 hqi;obtain ⟨p,hp1,hp2⟩:=h2 i c (by rw [<- g1.pOld i c];exact hp) r hr
  exact ⟨p,hp1,hp2.snoc he⟩
 ·obtain ⟨⟨⟨r,hr,he⟩,hF⟩,_⟩:=(g1.cNew i (by omega) hi q).1 hqi
  rw [hp,Int.toNat_natCast] at hr;obtain ⟨p,hp1,hp2⟩:=h1 r hr;exact ⟨p,hp1,s+1+n+1,q,by omega,hp2.snoc he,hF,.nil _ _⟩
open Classical in
def cnt4 (S:Int->Prop):Nat:=(if S 0 then 1 else 0)+(if S 1 then 1 else 0)+(if S 2 then 1 else 0)+(if S 3 then 1 else 0)
theorem zv2 {S S':Int->Prop} (h:∀ q,S q->S' q) {q:Int} (hq:S' q) (hn : ¬ S q) (q0:0<=q) (q1:q < 4):cnt4 S < cnt4 S':=by
 have h0:=h 0;have h1:=h 1;have h2:=h 2;have h3:=h 3;unfold cnt4;have:q=0\/q=1\/q=2\/q=3:=by omega
 rcases this with rfl | rfl | rfl | rfl<;>by_cases a0:S 0<;>by_cases a1:S 1<;>by_cases a2:S 2<;>by_cases a3:S 3<;>by_cases b0:S' 0<;>by_cases b1:S' 1<;>by_cases b2:S' 2<;>by_cases b3:S' 3<;>simp_all
theorem zy4 (S:Int->Prop):cnt4 S<=4:=by
 unfold cnt4;split<;>split<;>split<;>split<;>omega
theorem zyo {f:Nat->Nat} {t0:Nat} (h:∀ t,t0<=t->f (t+1)<=f t):∃ t1,t0<=t1/\∀ t,t1<=t->f t=f t1:=by
 have key:∀ (b t0:Nat),f t0<=b->(∀ t,t0<=t->f (t+1)<=f t)->∃ t1,t0<=t1/\∀ t,t1<=t->f t=f t1:=by
  intro b
  induction b with
  | zero=>
   intro t0 hb h;have le:∀ n,f (t0+n)<=f t0:=fun n=>by
    induction n with
    | zero=>exact Nat.le_refl _
    | succ n ih=>have:=h (t0+n) (by omega);rw [<- Nat.add_assoc];omega
   exact ⟨t0,Nat.le_refl _,fun t ht=>by have:=le (t - t0);rw [show t0+(t - t0)=t by omega] at this;omega⟩
  | succ b ih=>
   intro t0 hb h;by_cases c:∃ t,t0<=t/\f t<=b
   ·obtain ⟨t,ht,hft⟩:=c;obtain ⟨t1,h1,h2⟩:=ih t hft (fun s hs=>h s (by omega))
    exact ⟨t1,by omega,h2⟩
   ·have all:∀ t,t0<=t->f t=b+1:=fun t ht=>by
     have le:∀ n,f (t0+n)<=f t0:=fun n=>by
      induction n with
      | zero=>exact Nat.le_refl _
      | succ n ih=>have:=h (t0+n) (by omega);rw [<- Nat.add_assoc];omega
     have h1:=le (t - t0);rw [show t0+(t - t0)=t by omega] at h1
     have h2 : ¬ f t<=b:=fun hh=>c ⟨t,ht,hh⟩
     omega
    exact ⟨t0,Nat.le_refl _,fun t ht=>by rw [all t ht,all t0 (Nat.le_refl _)]⟩
 exact key (f t0) t0 (Nat.le_refl _) h
structure Within (T:Nat->Tre) (D:Nat->SD) (r:Nat->Int) (k t0:Nat):Prop where
 s:zs7 T D k t0
 i:∀ t,t0<=t->(T t).L k (r t)
theorem Row.deeper (h:Row E F T D M) {r:Nat->Int} (hr:∀ t,E t (r t) (r (t+1))) (hF:∀ n,∃ t,n<=t/\F (r t)) {k t0:Nat} (hw:Within T D r k t0) (hno:∀ t,t0<=t -> ¬ (D t).fl k):
  ∃ c t1,t0<=t1/\Within T D r c t1/\∀ t,t1<=t->(T t).A c=k:=by
 have hs:=hw.s;have one:∀ t,t0<=t->∀ i,i < (D t).N->(D t).P i=k->(D t).C i (r (t+1)) -> ¬ (D t).gone i/\(D t).nu i < (T (t+1)).n/\(T (t+1)).A ((D t).nu i)=k/\(T (t+1)).L ((D t).nu i) (r (t+1)):=fun t ht i hi hp hc=>by
  obtain ⟨g1,g2,_⟩:=h.step hs ht;have hg : ¬ (D t).gone i:=g1.gNot i hi ⟨_,hc⟩ (by omega) (by rw [hp,Int.toNat_natCast];exact (hs t ht).2 k (Nat.le_refl _)) (by rw [hp,Int.toNat_natCast];exact hno t ht)
  refine ⟨hg,g1.nuS i hi hg,?_,(g1.lab i hi hg _).2 hc⟩
  rw [g1.abv i hi hg,if_pos (by omega),hp,Int.toNat_natCast,g2]
 have go:∀ t,t0<=t->∀ c,c < (T t).n->(T t).A c=k->(T t).L c (r t)->∃ i,i<=c/\i < (D t).N/\(D t).P i=k/\(D t).C i (r (t+1)):=fun t ht c hc hA hL=>by
  obtain ⟨g1,_,_⟩:=h.step hs ht;have hN:=g1.hN;have hk:(D t).C k (r (t+1)):=(h.stepL hs ht _).1 (hw.i (t+1) (by omega))
  by_cases e:∃ i,i < c/\(D t).P i=(D t).P c/\(D t).C i (r (t+1))
  ·obtain ⟨i,hi,hp,hq⟩:=e;exact ⟨i,by omega,by omega,by rw [hp,g1.pOld c hc];exact hA,hq⟩
  ·have hp:(D t).P c=k:=by rw [g1.pOld c hc];exact hA
   refine ⟨c,Nat.le_refl _,by omega,hp,(g1.cOld c hc _).2 ⟨⟨r t,hL,hr t⟩,fun _=>by rw [hp,Int.toNat_natCast];exact hk,fun i hi hpi hq=>e ⟨i,hi,hpi,hq⟩⟩⟩
 obtain ⟨t1,ht1,hF1⟩:=hF (t0+1);obtain ⟨t1,rfl⟩:∃ t,t1=t+1:=⟨t1 - 1,by omega⟩
 have first:∃ c,c < (T (t1+1)).n/\(T (t1+1)).A c=k/\(T (t1+1)).L c (r (t1+1)):=by
  have ht:t0<=t1:=by omega
  obtain ⟨g1,g2,_⟩:=h.step hs ht;have hkn:=(hs t1 ht).1;have hN:=g1.hN;have hk:(D t1).C k (r (t1+1)):=(h.stepL hs ht _).1 (hw.i (t1+1) (by omega))
  obtain ⟨j,j0,j1,j2⟩:=g1.new k hkn ⟨r (t1+1),⟨r t1,hw.i t1 ht,hr t1⟩,hF1⟩;have:∃ i,i < (D t1).N/\(D t1).P i=k/\(D t1).C i (r (t1+1)):=by
   by_cases e:∃ i,i < j/\(D t1).P i=(D t1).P j/\(D t1).C i (r (t1+1))
   ·obtain ⟨i,hi,hp,hq⟩:=e;exact ⟨i,by omega,by rw [hp];exact j2,hq⟩
   ·exact ⟨j,j1,j2,(g1.cNew j j0 j1 _).2 ⟨⟨⟨r t1,by rw [j2,Int.toNat_natCast];exact hw.i t1 ht,hr t1⟩,hF1⟩,by rw [j2,Int.toNat_natCast];exact hk,fun i hi hp hq=>e ⟨i,hi,hp,hq⟩⟩⟩
  obtain ⟨i,hi,hp,hq⟩:=this;obtain ⟨_,o2,o3,o4⟩:=one t1 ht i hi hp hq;exact ⟨_,o2,o3,o4⟩
 have next:∀ n,∃ c,c < (T (t1+1+n)).n/\(T (t1+1+n)).A c=k/\(T (t1+1+n)).L c (r (t1+1+n)):=fun n=>by
  induction n with
  | zero=>exact first
  | succ n ih=>
   obtain ⟨c,h1,h2,h3⟩:=ih;obtain ⟨i,_,hi,hp,hq⟩:=go (t1+1+n) (by omega) c h1 h2 h3
   obtain ⟨_,o2,o3,o4⟩:=one (t1+1+n) (by omega) i hi hp hq
   exact ⟨_,o2,o3,o4⟩
 let f:Nat->Nat:=fun t=>if ht:t1+1<=t then Classical.choose (next (t - (t1+1))) else 0
 have hf:∀ t,t1+1<=t->f t < (T t).n/\(T t).A (f t)=k/\(T t).L (f t) (r t):=fun t ht=>by
  have hc:=Classical.choose_spec (next (t - (t1+1)));have e:t1+1+(t - (t1+1))=t:=by omega
  have e2:f t=Classical.choose (next (t - (t1+1))):=dif_pos ht;rw [e2];generalize Classical.choose (next (t - (t1+1)))=c at hc ⊢;rw [e] at hc;exact hc
 have uniq:∀ t,t1+1<=t->∀ c,c < (T t).n->(T t).A c=k->(T t).L c (r t)->c=f t:=fun t ht c hc hA hL=>by
  obtain ⟨f1,f2,f3⟩:=hf t ht;rcases Nat.lt_trichotomy c (f t) with g | g | g
  ·exact absurd f3 ((h.v t).dis _ _ g f1 (by rw [hA,f2]) _ hL)
  ·exact g
  ·exact absurd hL ((h.v t).dis _ _ g hc (by rw [hA,f2]) _ f3)
 have down:∀ t,t1+1<=t->∃ i,i<=f t/\i < (D t).N /\ ¬ (D t).gone i/\(D t).nu i=f (t+1):=fun t ht=>by
  obtain ⟨f1,f2,f3⟩:=hf t ht;obtain ⟨i,h1,hi,hp,hq⟩:=go t (by omega) _ f1 f2 f3
  obtain ⟨o1,o2,o3,o4⟩:=one t (by omega) i hi hp hq
  exact ⟨i,h1,hi,o1,uniq (t+1) (by omega) _ o2 o3 o4⟩
 obtain ⟨t2,ht2,hst⟩:=zyo (f:=f) (t0:=t1+1) (fun t ht=>by
  obtain ⟨i,h1,hi,_,h2⟩:=down t ht;rcases h.s t with ⟨h3,_⟩ | ⟨_,h3⟩
  ·have:=(hf t ht).1;omega
  ·have:=h3.nuLe i;omega)
 refine ⟨f t2,t2,by omega,⟨fun t ht => ?_,fun t ht => ?_⟩,fun t ht => ?_⟩
 ·have e1:=hst t ht;have e2:=hst (t+1) (by omega)
  obtain ⟨f1,f2,f3⟩:=hf t (by omega)
  obtain ⟨i,h1,hi,hg,h2⟩:=down t (by omega)
  rw [<- e1];refine ⟨f1,?_⟩
  rcases h.s t with ⟨h3,_⟩ | ⟨_,h3⟩
  ·omega
  ·have hle:=h3.nuLe i;have hif:i=f t:=by omega
   intro j hj hgj;rcases Nat.lt_or_eq_of_le hj with g | g
   ·have:=h3.nuLt i j (by omega) hi hgj;omega
   ·rw [g,<- hif] at hgj;exact hg hgj
 ·rw [<- hst t ht];exact (hf t (by omega)).2.2
 ·rw [<- hst t ht];exact (hf t (by omega)).2.1
theorem Row.finds (h:Row E F T D M) (hb:∀ t p q,E t p q->0<=q/\q < 4) {r:Nat->Int} (hr:∀ t,E t (r t) (r (t+1))) (hF:∀ n,∃ t,n<=t/\F (r t)):∀ (d:Nat) (k t0:Nat),1<=t0->Within T D r k t0->(∀ t,t0<=t->cnt4 ((T t).L k)<=d)->
  ∃ k' t1,Within T D r k' t1/\∀ n,∃ t,n<=t/\(D t).fl k':=by
 intro d
 induction d with
 | zero=>
  intro k t0 h1 hw hc;have h2:=hw.i t0 (Nat.le_refl _);have h3:=hc t0 (Nat.le_refl _);obtain ⟨t,rfl⟩:∃ t,t0=t+1:=⟨t0 - 1,by omega⟩
  obtain ⟨q0,q1⟩:=hb _ _ _ (hr t);have:=zv2 (S:=fun _=>False) (S':=(T (t+1)).L k) (fun _ h=>h.elim) h2 id q0 q1
  omega
 | succ d ih=>
  intro k t0 h1 hw hc;by_cases c:∀ n,∃ t,n<=t/\(D t).fl k
  ·exact ⟨k,t0,hw,c⟩
  ·obtain ⟨n,hn⟩:=Classical.not_forall.1 c;have hn:∀ t,n<=t -> ¬ (D t).fl k:=fun t ht hfl=>hn ⟨t,ht,hfl⟩
   have hw':Within T D r k (max t0 n):=⟨fun t ht=>hw.s t (by omega),fun t ht=>hw.i t (by omega)⟩
   obtain ⟨c,t1,ht1,hw1,hA⟩:=h.deeper hr hF hw' (fun t ht=>hn t (by omega))
   refine ih c (t1+1) (by omega) ⟨fun t ht=>hw1.s t (by omega),fun t ht=>hw1.i t (by omega)⟩ fun t ht => ?_
   have hcn:=(hw1.s t (by omega)).1
   have hkn:=(hw.s t (by omega)).1
   obtain ⟨q,hq,hno⟩:=(h.v t).str k hkn;obtain ⟨t',rfl⟩:∃ t',t=t'+1:=⟨t - 1,by omega⟩
   have hq4:0<=q/\q < 4:=by
    obtain ⟨g1,_,_⟩:=h.step hw.s (t:=t') (by
     have:=hw1.s;omega)
    have hcq:=(h.stepL hw.s (t:=t') (by omega) q).1 hq
    obtain ⟨⟨p,_,he⟩,_⟩:=(g1.cOld k (hw.s t' (by omega)).1 q).1 hcq
    exact hb _ _ _ he
   have hlt:=zv2 (S:=(T (t'+1)).L c) (S':=(T (t'+1)).L k) (fun p hp=>by
    have:=(h.v (t'+1)).sub c hcn (by rw [hA (t'+1) (by omega)];omega) p hp
    rwa [hA (t'+1) (by omega),Int.toNat_natCast] at this) hq (hno c hcn (hA (t'+1) (by omega))) hq4.1 hq4.2
   have:=hc (t'+1) (by omega)
   omega
end
def Infn (P:Nat->Prop):Prop:=∀ n,∃ t,n<=t/\P t
theorem zsp {f:Nat->Nat}:∀ (K:Nat) {P:Nat->Prop},Infn P->(∀ t,P t->f t < K)->∃ r,r < K/\Infn (fun t=>P t/\f t=r)
 | 0,P,h,hf=>by obtain ⟨t,_,ht⟩:=h 0;exact absurd (hf t ht) (by omega)
 | K+1,P,h,hf=>by
  by_cases c:Infn (fun t=>P t/\f t=K)
  ·exact ⟨K,by omega,c⟩
  ·obtain ⟨N,hN⟩:=Classical.not_forall.1 c;have hN:∀ t,N<=t->P t->f t≠K:=fun t ht hp he=>hN ⟨t,ht,hp,he⟩
   obtain ⟨r,hr,hi⟩:=zsp (f:=f) K (P:=fun t=>N<=t/\P t) (fun n=>by
    obtain ⟨t,ht,hp⟩:=h (max n N);exact ⟨t,by omega,by omega,hp⟩) (fun t ⟨h1,h2⟩=>by
    have:=hf t h2;have:=hN t h1 h2;omega)
   exact ⟨r,by omega,fun n=>by obtain ⟨t,ht,⟨_,hp⟩,he⟩:=hi n;exact ⟨t,ht,hp,he⟩⟩
theorem zzo {P:Nat->Prop} (h:Infn P) (n0:Nat):∃ s:Nat->Nat,n0<=s 0/\(∀ i,s i < s (i+1))/\∀ i,P (s i):=by
 let g:Nat->Nat:=fun n=>Classical.choose (h n)
 have hg:∀ n,n<=g n/\P (g n):=fun n=>Classical.choose_spec (h n)
 refine ⟨fun i=>Nat.rec (g n0) (fun _ x=>g (x+1)) i,(hg n0).1,fun i => ?_,fun i => ?_⟩
 ·show _ < g (_+1);exact (hg ((Nat.rec (g n0) (fun _ x=>g (x+1)) i:Nat)+1)).1
 ·cases i with
  | zero=>exact (hg n0).2
  | succ i=>exact (hg _).2
theorem zyI {s:Nat->Nat} (h:∀ i,s i < s (i+1)) {i j:Nat} (hij:i < j):s i < s j:=by
 induction j with
 | zero=>omega
 | succ j ih=>
  have:=h j;by_cases e:i=j
  ·subst e;exact this
  ·have:=ih (by omega);omega
section
variable {E:Nat->Int->Int->Prop} {F:Int->Prop} {T:Nat->Tre} {D:Nat->SD} {M:Nat->Int}
theorem Pth.trans {s:Nat} {p:Int} {t:Nat} {q:Int} {v:Nat} {r:Int} (h1:Pth E s p t q) (h2:Pth E t q v r):Pth E s p v r:=by
 induction h2 generalizing p with
 | nil=>exact h1
 | snoc _ e ih=>exact (ih h1).snoc e
theorem PthF.pth {s:Nat} {p:Int} {t:Nat} {q:Int} (h:PthF E F s p t q):Pth E s p t q:=by
 obtain ⟨c,f,_,h2,_,h4⟩:=h;exact h2.trans h4
theorem PthF.trans {s:Nat} {p:Int} {t:Nat} {q:Int} {v:Nat} {r:Int} (h1:PthF E F s p t q) (h2:Pth E t q v r):PthF E F s p v r:=by
 obtain ⟨c,f,h0,h3,h4,h5⟩:=h1;exact ⟨c,f,h0,h3,h4,h5.trans h2⟩
def zh0 (M:Nat->Int) (m:Int):Prop:=Infn (fun t=>M t=m)/\∃ n,∀ t,n<=t->m<=M t
theorem Row.even (h:Row E F T D M) {m:Int} (hm:zh0 M m) (he:m % 2=0):∃ k t0,zs7 T D k t0/\Infn (fun t=>(D t).fl k):=by
 obtain ⟨h1,n,h2⟩:=hm;have fl:∀ t,M t=m->∃ i,i < (T t).n/\(D t).fl i/\m=2 * i+2/\IsStep (E t) F (T t) (D t) (T (t+1)) (M t):=fun t ht=>by
  rcases h.s t with ⟨_,_,e⟩ | ⟨_,e⟩
  ·omega
  ·rcases e.mIs with g | ⟨i,_,_,g⟩ | ⟨i,g1,_,g3,g⟩
   ·omega
   ·omega
   ·exact ⟨i,g1,g3,by omega,e⟩
 obtain ⟨t1,ht1,hM⟩:=h1 n;obtain ⟨k,hk,_,em,_⟩:=fl t1 hM;have st:∀ d,k < (T (t1+d)).n/\∀ j,j<=k -> ¬ (D (t1+d)).gone j:=fun d=>by
  have no:∀ t,t1<=t->k < (T t).n->∀ j,j<=k -> ¬ (D t).gone j:=fun t ht hkt j hj hg=>by
   have:=h2 t (by omega)
   rcases h.s t with ⟨e,_⟩ | ⟨_,e⟩
   ·omega
   ·have:=e.mGone j (by omega) hg;omega
  induction d with
  | zero=>exact ⟨hk,no _ (by omega) hk⟩
  | succ d ih=>
   have:k < (T (t1+(d+1))).n:=by
    obtain ⟨i1,i2⟩:=ih;rcases h.s (t1+d) with ⟨e,_⟩ | ⟨_,e⟩
    ·omega
    ·have hN:=e.hN;have e1:=e.nuS k (by omega) (i2 k (Nat.le_refl _))
     rw [e.nuEq k (by omega) (fun j hj=>i2 j (by omega))] at e1
     exact e1
   exact ⟨this,no _ (by omega) this⟩
 refine ⟨k,t1,fun t ht=>by have:=st (t - t1);rwa [show t1+(t - t1)=t by omega] at this,fun n' => ?_⟩
 obtain ⟨t,ht,hMt⟩:=h1 n';obtain ⟨i,_,hf,e,_⟩:=fl t hMt;have:i=k:=by omega
 subst this;exact ⟨t,ht,hf⟩
theorem Row.odd (h:Row E F T D M) (hb:∀ t p q,E t p q->0<=q/\q < 4) (h4:∀ t,(T t).n<=4) (n0:(T 0).n=1) {r:Nat->Int} (r0:(T 0).L 0 (r 0)) (hr:∀ t,E t (r t) (r (t+1))) (hF:Infn (fun t=>F (r t))) {m:Int} (hm:zh0 M m):m % 2=0:=by
 have root:∀ t,0 < (T t).n/\(T t).L 0 (r t):=fun t=>by
  induction t with
  | zero=>exact ⟨by omega,r0⟩
  | succ t ih=>
   obtain ⟨i1,i2⟩:=ih;rcases h.s t with ⟨e,_⟩ | ⟨_,e⟩
   ·omega
   ·have hN:=e.hN;have hp:(D t).P 0 < 0:=by rw [e.pOld 0 i1];exact ((h.v t).root 0 i1).2 rfl
    have hc:(D t).C 0 (r (t+1)):=(e.cOld 0 i1 _).2 ⟨⟨_,i2,hr t⟩,fun hh=>by omega,fun k hk=>by omega⟩
    have hg:=e.gRoot 0 (by omega) ⟨_,hc⟩ hp
    have hn:=e.nuEq 0 (by omega) (fun j hj=>by omega)
    have e1:=e.nuS 0 (by omega) hg
    have e2:=(e.lab 0 (by omega) hg (r (t+1))).2 hc
    rw [hn] at e1 e2;exact ⟨e1,e2⟩
 have hw:Within T D r 0 1:=by
  refine ⟨fun t ht=>⟨(root t).1,fun j hj hg => ?_⟩,fun t ht=>(root t).2⟩
  obtain ⟨i1,i2⟩:=root t;have hj:j=0:=by omega
  subst hj;rcases h.s t with ⟨e,_⟩ | ⟨_,e⟩
  ·omega
  ·have hN:=e.hN;have hp:(D t).P 0 < 0:=by rw [e.pOld 0 i1];exact ((h.v t).root 0 i1).2 rfl
   have hc:(D t).C 0 (r (t+1)):=(e.cOld 0 i1 _).2 ⟨⟨_,i2,hr t⟩,fun hh=>by omega,fun k hk=>by omega⟩
   exact e.gRoot 0 (by omega) ⟨_,hc⟩ hp hg
 obtain ⟨k,t1,hk,hfl⟩:=h.finds hb hr hF 4 0 1 (Nat.le_refl _) hw (fun t _=>zy4 _)
 obtain ⟨h1,n,h2⟩:=hm;have le:m<=2 * k+2:=by
  obtain ⟨t,ht,hf⟩:=hfl (max n t1);have:=h2 t (by omega)
  obtain ⟨s1,s2⟩:=hk.s t (by omega)
  rcases h.s t with ⟨e,_⟩ | ⟨_,e⟩
  ·omega
  ·have:=e.mFl k s1 hf (s2 k (Nat.le_refl _));omega
 obtain ⟨t,ht,hM⟩:=h1 t1;obtain ⟨s1,s2⟩:=hk.s t ht;have:=h4 t;rcases h.s t with ⟨e,_⟩ | ⟨_,e⟩
 ·omega
 ·rcases e.mIs with g | ⟨i,g1,g2,g⟩ | ⟨i,_,_,_,g⟩
  ·omega
  ·exact absurd g2 (s2 i (by omega))
  ·omega
end
section
variable {a:Au} {u:Nat->Int} {h len:Nat} {T:Nat->Tre} {D:Nat->SD} {M:Nat->Int}
theorem Pth.wt {s:Nat} {p:Int} {t:Nat} {q:Int} (hp:Pth (fun t p q=>StA a p (u t) q) s p t q):Wt a u (t - s) s p q:=by
 induction hp with
 | nil=>rw [Nat.sub_self];rfl
 | @snoc t q r h1 e ih=>
  have:=Pth.le h1;rw [show t+1 - s=(t - s)+1 by omega]
  exact Wt.snoc.2 ⟨q,ih,by rw [show s+(t - s)=t by omega];exact e⟩
theorem ztZ (ha:AuOk a) (ha4:a.2.1<=4) (hl:0 < len) (hu:∀ t,h<=t->u (t+len)=u t) (hR:Row (fun t p q=>StA a p (u t) q) (fun q=>q∈a.2.2.2.2.1) T D M) (t0:(T 0).n<=1) (l0:∀ q,0 < (T 0).n->(T 0).L 0 q->q∈a.2.2.1) {m:Int} (hm:zh0 M m) (he:m % 2=0):zyU a u h len:=by
 obtain ⟨k,t1,hs,hfl⟩:=hR.even hm he;obtain ⟨r,hr,hinf⟩:=zsp (f:=fun t=>(t+1) % len) len hfl (fun t _=>Nat.mod_lt _ hl)
 obtain ⟨s,s0,slt,sP⟩:=zzo hinf (max t1 h);have smono:∀ i,s 0<=s i:=fun i=>by
  rcases Nat.eq_zero_or_pos i with c | c
  ·subst c;exact Nat.le_refl _
  ·exact Nat.le_of_lt (zyI slt c)
 obtain ⟨g1,_⟩:=hs (s 4+1) (by have:=smono 4;omega)
 obtain ⟨q4,hq4⟩:=(hR.v (s 4+1)).ne k g1;have back:∀ i q,(T (s (i+1)+1)).L k q->∃ p,(T (s i+1)).L k p/\PthF (fun t p q=>StA a p (u t) q) (fun q=>q∈a.2.2.2.2.1) (s i+1) p (s (i+1)+1) q:=fun i q hq=>hR.flash hs (by have:=smono i;omega) (sP i).1 (slt i) (sP (i+1)).1 hq
 obtain ⟨q3,hq3,w3⟩:=back 3 q4 hq4;obtain ⟨q2,hq2,w2⟩:=back 2 q3 hq3;obtain ⟨q1,hq1,w1⟩:=back 1 q2 hq2;obtain ⟨q0,hq0,w0⟩:=back 0 q1 hq1;have bnd:∀ i q,(T (s i+1)).L k q->0<=q/\q < 4:=fun i q hq=>by
  obtain ⟨p,j,_,_,hp⟩:=hR.reach _ _ (hs (s i+1) (by have:=smono i;omega)).1 q hq
  cases hp with
  | snoc h1 e=>have:=(ha.sb _ e).2.2;simp only at this;omega
 let f:Nat->Int:=fun i=>match i with | 0=>q0 | 1=>q1 | 2=>q2 | 3=>q3 | _=>q4
 have hf:∀ i,i<=4->(T (s i+1)).L k (f i):=fun i hi=>by
  match i,hi with
  | 0,_=>exact hq0
  | 1,_=>exact hq1
  | 2,_=>exact hq2
  | 3,_=>exact hq3
  | 4,_=>exact hq4
 have hw:∀ i,i < 4->PthF (fun t p q=>StA a p (u t) q) (fun q=>q∈a.2.2.2.2.1) (s i+1) (f i) (s (i+1)+1) (f (i+1)):=fun i hi=>by
  match i,hi with
  | 0,_=>exact w0
  | 1,_=>exact w1
  | 2,_=>exact w2
  | 3,_=>exact w3
 obtain ⟨i,j,hij,hj,e⟩:=pig (K:=4) (f:=fun i=>if i<=4 then (f i).toNat else 0) (fun i hi=>by
  show (if i<=4 then (f i).toNat else 0) < 4
  rw [if_pos hi];have:=bnd i _ (hf i hi);omega)
 have e:(if i<=4 then (f i).toNat else 0)=(if j<=4 then (f j).toNat else 0):=e
 rw [if_pos (by omega),if_pos (by omega)] at e
 have e:f i=f j:=by have:=bnd i _ (hf i (by omega));have:=bnd j _ (hf j hj);omega
 have far:∀ d,i+1+d<=4->PthF (fun t p q=>StA a p (u t) q) (fun q=>q∈a.2.2.2.2.1) (s i+1) (f i) (s (i+1+d)+1) (f (i+1+d)):=fun d=>by
  induction d with
  | zero=>intro _;exact hw i (by omega)
  | succ d ih=>intro hd;exact (ih (by omega)).trans (hw (i+1+d) (by omega)).pth
 have all:=far (j - (i+1)) (by omega)
 rw [show i+1+(j - (i+1))=j by omega,<- e] at all
 obtain ⟨c,x,hc,c1,hx,c2⟩:=all;have hc2:=c2.le;obtain ⟨p0,j0,hj0,hp0,hp⟩:=hR.reach _ _ (hs (s i+1) (by have:=smono i;omega)).1 _ (hf i (by omega))
 have hj0:j0=0:=by omega
 subst hj0;have hsij:=zyI slt hij;have mods:(s i+1) % len=(s j+1) % len:=by rw [(sP i).2,(sP j).2]
 obtain ⟨b,hb⟩:∃ b,s j+1=s i+1+b * len:=by
  refine ⟨(s j+1) / len - (s i+1) / len,?_⟩
  have e1:=Nat.div_add_mod (s i+1) len;have e2:=Nat.div_add_mod (s j+1) len;have:(s i+1) / len<=(s j+1) / len:=Nat.div_le_div_right (by omega)
  rw [Nat.sub_mul,Nat.mul_comm _ len,Nat.mul_comm _ len];have:=Nat.mul_le_mul_left len this;omega
 have b1:1<=b:=by
  rcases Nat.eq_zero_or_pos b with c | c
  ·subst c;rw [Nat.zero_mul] at hb;omega
  ·exact c
 have hc0:h<=s i+1:=by have:=smono i;omega
 have k1:Wt a u c 0 p0 x:=by
  have:=(hp.trans c1).wt
  rwa [Nat.sub_zero] at this
 have k2:Wt a u (s j+1 - c) c x (f i):=c2.wt;have k3:Wt a u (c - (s i+1)) (s j+1) (f i) x:=by rw [hb];exact (Wt.shifts hu hc0 b).2 c1.wt
 have k4:=k2.comp k3 (by omega)
 rw [show s j+1 - c+(c - (s i+1))=b * len by omega] at k4
 exact ⟨p0,l0 p0 (by omega) hp0,c,x,k1,hx,by omega,b,b1,k4⟩
theorem zxl (ha:AuOk a) (ha4:a.2.1<=4) (hl:0 < len) (hu:∀ t,h<=t->u (t+len)=u t) (hR:Row (fun t p q=>StA a p (u t) q) (fun q=>q∈a.2.2.2.2.1) T D M) (t0:(T 0).n<=1) (l0:∀ q,0 < (T 0).n->((T 0).L 0 q↔q∈a.2.2.1)) (l1:∀ q∈a.2.2.1,0 < (T 0).n) (h4:∀ t,(T t).n<=4) {m:Int} (hm:zh0 M m):m % 2=0↔RefA a u h len:=by
 rw [zyi hl hu];constructor
 ·exact ztZ ha ha4 hl hu hR t0 (fun q hq hh=>(l0 q hq).1 hh) hm
 ·intro hh;obtain ⟨r,⟨r0,hr⟩,hF⟩:=(zyg ha hl hu).1 hh;have:=l1 _ r0;exact hR.odd (fun t p q e=>by have:=(ha.sb _ e).2.2;simp only at this;omega) h4 (by omega) ((l0 _ this).2 r0) hr hF hm
end
def B4 (s:Int):Prop:=0<=s/\s < 16
def bt (s q:Int):Prop:=(0<=q/\q < 4)/\iand .i64 (ishr .i64 s q) 1=1
instance (s:Int):Decidable (B4 s):=by unfold B4;infer_instance
instance (s q:Int):Decidable (bt s q):=by unfold bt;infer_instance
theorem zmH {s:Int} (h:B4 s):∃ x:Fin 16,s=(x.val:Int):=⟨⟨s.toNat,by have:=h.2;have:=h.1;omega⟩,by have:=h.1;show s=(s.toNat:Int);omega⟩
theorem zrX {P:Int->Prop} (h:∀ q:Fin 4,P (q.val:Int)) (hn:∀ q,¬ (0<=q/\q < 4)->P q) (q:Int):P q:=by
 by_cases c:0<=q/\q < 4
 ·have:=h ⟨q.toNat,by omega⟩
  rwa [show (((⟨q.toNat,by omega⟩:Fin 4).val:Nat):Int)=q from by show ((q.toNat:Nat):Int)=q;omega] at this
 ·exact hn q c
theorem zvV:∀ x y:Fin 16,B4 (ior .i64 (x.val:Int) (y.val:Int))/\∀ q:Fin 4,(bt (ior .i64 (x.val:Int) (y.val:Int)) (q.val:Int)↔bt (x.val:Int) (q.val:Int)\/bt (y.val:Int) (q.val:Int)):=by decide+kernel
theorem zu6:∀ x y:Fin 16,B4 (iand .i64 (x.val:Int) (y.val:Int))/\∀ q:Fin 4,(bt (iand .i64 (x.val:Int) (y.val:Int)) (q.val:Int)↔bt (x.val:Int) (q.val:Int)/\bt (y.val:Int) (q.val:Int)):=by decide+kernel
theorem zta:∀ x y:Fin 16,B4 (ztA .i64 (x.val:Int) (y.val:Int))/\∀ q:Fin 4,(bt (ztA .i64 (x.val:Int) (y.val:Int)) (q.val:Int)↔bt (x.val:Int) (q.val:Int) /\ ¬ bt (y.val:Int) (q.val:Int)):=by decide+kernel
theorem zu8:∀ x y:Fin 16,(∀ q:Fin 4,(bt (x.val:Int) (q.val:Int)↔bt (y.val:Int) (q.val:Int)))->x=y:=by decide+kernel
theorem zu7:∀ p:Fin 4,B4 (ishl .i64 1 (p.val:Int))/\∀ q:Fin 4,(bt (ishl .i64 1 (p.val:Int)) (q.val:Int)↔q=p):=by decide+kernel
theorem ztb:∀ q:Fin 4,¬ bt 0 (q.val:Int):=by decide+kernel
section
variable {s t:Int}
theorem zxD (hs:B4 s) (ht:B4 t):B4 (ior .i64 s t)/\∀ q,bt (ior .i64 s t) q↔bt s q\/bt t q:=by
 obtain ⟨x,rfl⟩:=zmH hs;obtain ⟨y,rfl⟩:=zmH ht;obtain ⟨h1,h2⟩:=zvV x y;exact ⟨h1,zrX (P:=fun q=>_↔_) h2 (fun q hq=>⟨fun h=>absurd h.1 hq,fun h=>h.elim (fun h=>absurd h.1 hq) (fun h=>absurd h.1 hq)⟩)⟩
theorem zui (hs:B4 s) (ht:B4 t):B4 (iand .i64 s t)/\∀ q,bt (iand .i64 s t) q↔bt s q/\bt t q:=by
 obtain ⟨x,rfl⟩:=zmH hs;obtain ⟨y,rfl⟩:=zmH ht;obtain ⟨h1,h2⟩:=zu6 x y;exact ⟨h1,zrX (P:=fun q=>_↔_) h2 (fun q hq=>⟨fun h=>absurd h.1 hq,fun h=>absurd h.1.1 hq⟩)⟩
theorem zyY (hs:B4 s) (ht:B4 t):B4 (ztA .i64 s t)/\∀ q,bt (ztA .i64 s t) q↔bt s q /\ ¬ bt t q:=by
 obtain ⟨x,rfl⟩:=zmH hs;obtain ⟨y,rfl⟩:=zmH ht;obtain ⟨h1,h2⟩:=zta x y;exact ⟨h1,zrX (P:=fun q=>_↔_) h2 (fun q hq=>⟨fun h=>absurd h.1 hq,fun h=>absurd h.1.1 hq⟩)⟩
theorem zvU (hs:B4 s) (ht:B4 t) (h:∀ q,bt s q↔bt t q):s=t:=by
 obtain ⟨x,rfl⟩:=zmH hs;obtain ⟨y,rfl⟩:=zmH ht;rw [zu8 x y (fun q=>h _)]
theorem zcy:B4 0/\∀ q,¬ bt 0 q:=⟨by decide,zrX (P:=fun q => ¬ bt 0 q) ztb (fun q hq h=>hq h.1)⟩
theorem zyw {p:Int} (p0:0<=p) (p1:p < 4):B4 (ishl .i64 1 p)/\∀ q,bt (ishl .i64 1 p) q↔q=p:=by
 obtain ⟨x,rfl⟩:∃ x:Fin 4,p=(x.val:Int):=⟨⟨p.toNat,by omega⟩,by show p=(p.toNat:Int);omega⟩
 obtain ⟨h1,h2⟩:=zu7 x;refine ⟨h1,zrX (P:=fun q=>_↔_) (fun q=>(h2 q).trans ⟨fun h=>by rw [h],fun h=>Fin.ext (by omega)⟩) (fun q hq=>⟨fun h=>absurd h.1 hq,fun h=>absurd (by rw [h];omega) hq⟩)⟩
theorem zrS (hs:B4 s) : ¬ s=0↔∃ q,bt s q:=by
 constructor
 ·intro h;refine Classical.byContradiction fun hno=>h (zvU hs zcy.1 fun q=>⟨fun hq=>absurd ⟨q,hq⟩ hno,fun hq=>absurd hq (zcy.2 q)⟩)
 ·rintro ⟨q,hq⟩ rfl;exact zcy.2 q hq
end
theorem ziV {l:List Int} (hl:l.length<=1000) (hb:∀ q∈l,0<=q/\q < 4):∃ s,zeU l=some s/\B4 s/\∀ q,bt s q↔q∈l:=by
 have key:∀ (n:Nat) (t s:Int),(l.length - t).toNat=n->0<=t->t<=l.length->B4 s->(∀ q,bt s q↔∃ k:Int,0<=k/\k < t/\ix l k=q)->∃ s',zeO l s t=some s'/\B4 s'/\∀ q,bt s' q↔q∈l:=by
  intro n
  induction n with
  | zero=>
   intro t s hn t0 t1 hs hq;obtain rfl:t=l.length:=by omega
   refine ⟨s,?_,hs,fun q=>(hq q).trans ?_⟩
   ·rw [zhL];unfold zbT;rw [if_neg (by simp)]
   ·have:=zdX (l:=l) (P:=fun x=>x=q)
    constructor
    ·rintro ⟨k,h1,h2,h3⟩;rw [<- h3];exact zaX h1 h2
    ·intro h;obtain ⟨k,h1,h2,h3⟩:=this.1 ⟨q,h,rfl⟩;exact ⟨k,h1,h2,h3⟩
  | succ n ih=>
   intro t s hn t0 t1 hs hq;have hm:=hb _ (zaX (l:=l) t0 (by omega))
   obtain ⟨g1,g2⟩:=zyw hm.1 hm.2;obtain ⟨g3,g4⟩:=zxD hs g1;obtain ⟨s',e,h1,h2⟩:=ih (t+1) _ (by omega) (by omega) (by omega) g3 (fun q=>by
    rw [g4,g2,hq];constructor
    ·rintro (⟨k,a,b,c⟩ | h)
     ·exact ⟨k,a,by omega,c⟩
     ·exact ⟨t,t0,by omega,h.symm⟩
    ·rintro ⟨k,a,b,c⟩;by_cases e:k=t
     ·rw [e] at c;exact .inr c.symm
     ·exact .inl ⟨k,a,by omega,c⟩)
   refine ⟨s',?_,h1,h2⟩
   rw [zhL];unfold zbT;rw [if_pos (by simp;omega),zab (by omega),zab (by omega),zab (by unfold fits;omega)]
   exact e
 unfold zeU;exact key _ 0 0 rfl (by omega) (by omega) zcy.1 (fun q=>⟨fun h=>absurd h (zcy.2 q),fun ⟨k,a,b,_⟩=>by omega⟩)
abbrev Nd:=Int×Int×Bool×Bool×Bool×Unit
structure NdOk (l:List Nd):Prop where
 len:l.length<=12
 b:∀ k:Int,0<=k->k < l.length->B4 (ix l k).1
 p:∀ k:Int,0<=k->k < l.length->(ix l k).2.1 < k
theorem zxG {t:Int} {r1:Int->List Nd->Option (List Nd)} {l:List Nd} (hl:l.length<=12) (t0:0<=t) (t1:t < l.length) (hb:∀ k:Int,0<=k->k < l.length->B4 (ix l k).1):∀ (n:Nat) (j:Int) (x:Int),(t - j).toNat=n->0<=j->j<=t->B4 x->
  ∃ y,B4 y/\(∀ q,bt y q↔bt x q/\∀ i:Int,j<=i->i < t->(ix l i).2.1=(ix l t).2.1 -> ¬ bt (ix l i).1 q)/\
   zbJ t r1 j (l.set t.toNat (x,(ix l t).2))=r1 (t+1) (l.set t.toNat (y,(ix l t).2.1,(ix l t).2.2.1,decide (y=0),(ix l t).2.2.2.2)):=by
 intro n
 induction n with
 | zero=>
  intro j x hn j0 j1 hx;refine ⟨x,hx,fun q=>⟨fun h=>⟨h,fun i a b=>by omega⟩,fun h=>h.1⟩,?_⟩
  rw [zgR];unfold zbv;have hlen:(l.set t.toNat (x,(ix l t).2)).length=l.length:=List.length_set;rw [if_neg (by simp;omega),hlen,zab (by omega),zab (by omega),zab (by omega),zab (by omega),zab (by unfold fits;omega),zal t0 t1,List.set_set]
 | succ n ih=>
  intro j x hn j0 j1 hx;have hlen:(l.set t.toNat (x,(ix l t).2)).length=l.length:=List.length_set;have ej:ix (l.set t.toNat (x,(ix l t).2)) j=ix l j:=zak t0 j0 (by omega)
  have et:ix (l.set t.toNat (x,(ix l t).2)) t=(x,(ix l t).2):=zal t0 t1;rw [zgR];unfold zbv;rw [if_pos (by simp;omega),hlen,zab (by omega),zab (by omega),zab (by omega),zab (by omega),ej,et]
  by_cases c:(ix l j).2.1=(ix l t).2.1
  ·obtain ⟨g1,g2⟩:=zyY hx (hb j j0 (by omega))
   obtain ⟨y,h1,h2,h3⟩:=ih (j+1) _ (by omega) (by omega) (by omega) g1
   refine ⟨y,h1,fun q => ?_,?_⟩
   ·rw [h2,g2];constructor
    ·rintro ⟨⟨a,b⟩,d⟩;refine ⟨a,fun i i0 i1 e => ?_⟩
     by_cases e2:i=j
     ·rw [e2];exact b
     ·exact d i (by omega) i1 e
    ·rintro ⟨a,b⟩;exact ⟨⟨a,b j (Int.le_refl _) (by omega) c⟩,fun i i0 i1 e=>b i (by omega) i1 e⟩
   ·rw [if_pos (decide_eq_true c),zab (by omega),zab (by omega),zab (by omega),zab (by omega),zab (by omega),zab (by omega),zab (by unfold fits;omega),List.set_set]
    exact h3
  ·obtain ⟨y,h1,h2,h3⟩:=ih (j+1) x (by omega) (by omega) (by omega) hx
   refine ⟨y,h1,fun q => ?_,?_⟩
   ·rw [h2];constructor
    ·rintro ⟨a,d⟩;refine ⟨a,fun i i0 i1 e => ?_⟩
     by_cases e2:i=j
     ·rw [e2] at e;exact absurd e c
     ·exact d i (by omega) i1 e
    ·rintro ⟨a,b⟩;exact ⟨a,fun i i0 i1 e=>b i (by omega) i1 e⟩
   ·rw [if_neg (by simpa using c),zab (by unfold fits;omega)]
    exact h3
structure Cl (l l':List Nd) (t:Int):Prop where
 len:l'.length=l.length
 pa:∀ k:Int,0<=k->k < l.length->(ix l' k).2.1=(ix l k).2.1
 ol:∀ k:Int,0<=k->k < l.length->(ix l' k).2.2.1=(ix l k).2.2.1
 fl:∀ k:Int,0<=k->k < l.length->(ix l' k).2.2.2.2=(ix l k).2.2.2.2
 far:∀ k:Int,t<=k->k < l.length->ix l' k=ix l k
 b:∀ k:Int,0<=k->k < l.length->B4 (ix l' k).1
 gn:∀ k:Int,0<=k->k < t->((ix l' k).2.2.2.1=true↔(ix l' k).1=0)
 lb:∀ k:Int,0<=k->k < t->∀ q,bt (ix l' k).1 q↔bt (ix l k).1 q/\(0<=(ix l k).2.1->bt (ix l' (ix l k).2.1).1 q)/\∀ j:Int,0<=j->j < k->(ix l j).2.1=(ix l k).2.1 -> ¬ bt (ix l' j).1 q
theorem zv0 {l:List Nd} (h:NdOk l):∀ (n:Nat) (t:Int) (l1:List Nd),(l.length - t).toNat=n->0<=t->t<=l.length->Cl l l1 t->∃ l',zb9 l t l1=some l'/\Cl l l' l.length:=by
 have hlen:=h.len;intro n
 induction n with
 | zero=>
  intro t l1 hn t0 t1 hc;obtain rfl:t=l.length:=by omega
  refine ⟨l1,?_,hc⟩
  rw [zd6];unfold za7;rw [if_neg (by simp)]
 | succ n ih=>
  intro t l1 hn t0 t1 hc;have hl1:=hc.len;have ht:t < l.length:=by omega
  have hp:=h.p t t0 ht;have e0:ix l1 t=ix l t:=hc.far t (Int.le_refl _) ht;have hbt:=h.b t t0 ht;obtain ⟨x,hx,hxq,hrun⟩:∃ x,B4 x/\(∀ q,bt x q↔bt (ix l t).1 q/\(0<=(ix l t).2.1->bt (ix l1 (ix l t).2.1).1 q))/\zb9 l t l1=zbJ t (zb9 l) 0 (l1.set t.toNat (x,(ix l1 t).2)):=by
   by_cases c:0<=(ix l t).2.1
   ·obtain ⟨g1,g2⟩:=zui hbt (hc.b (ix l t).2.1 c (by omega))
    refine ⟨_,g1,fun q=>(g2 q).trans ⟨fun h=>⟨h.1,fun _=>h.2⟩,fun h=>⟨h.1,h.2 c⟩⟩,?_⟩
    rw [zd6];unfold za7 zb8;rw [if_pos (by simp;omega),hl1,zab (by omega),zab (by omega),e0,if_pos (decide_eq_true c),zab (by omega),zab (by omega),zab (by omega),zab (by omega),zab (by omega),zab (by omega),zab (by omega),zab (by omega)]
   ·refine ⟨(ix l t).1,hbt,fun q=>⟨fun h=>⟨h,fun h2=>absurd h2 c⟩,fun h=>h.1⟩,?_⟩
    rw [zd6];unfold za7 zb8;rw [if_pos (by simp;omega),hl1,zab (by omega),zab (by omega),e0,if_neg (by simpa using c)]
    congr 1
    refine zqi (by simp) fun j j0 j1 => ?_
    by_cases e:j=t
    ·rw [e,zal t0 (by omega),e0]
    ·rw [zak t0 j0 (by omega)]
  obtain ⟨y,hy,hyq,hrun2⟩:=zxG (r1:=zb9 l) (l:=l1) (t:=t) (by omega) t0 (by omega) (fun k k0 k1=>hc.b k k0 (by omega)) _ 0 x rfl (Int.le_refl _) t0 hx
  rw [hrun,hrun2];refine ih (t+1) _ (by omega) (by omega) (by omega) ?_
  have es:∀ k:Int,0<=k->k≠t->ix (l1.set t.toNat (y,(ix l1 t).2.1,(ix l1 t).2.2.1,decide (y=0),(ix l1 t).2.2.2.2)) k=ix l1 k:=fun k k0 hk=>zak t0 k0 (by omega)
  have et:ix (l1.set t.toNat (y,(ix l1 t).2.1,(ix l1 t).2.2.1,decide (y=0),(ix l1 t).2.2.2.2)) t=(y,(ix l1 t).2.1,(ix l1 t).2.2.1,decide (y=0),(ix l1 t).2.2.2.2):=zal t0 (by omega)
  generalize hL:l1.set t.toNat (y,(ix l1 t).2.1,(ix l1 t).2.2.1,decide (y=0),(ix l1 t).2.2.2.2)=L at es et;have hLl:L.length=l.length:=by rw [<- hL,List.length_set,hl1]
  refine ⟨hLl,fun k k0 k1 => ?_,fun k k0 k1 => ?_,fun k k0 k1 => ?_,fun k k0 k1 => ?_,fun k k0 k1 => ?_,fun k k0 k1 => ?_,fun k k0 k1 q => ?_⟩
  ·by_cases e:k=t
   ·rw [e,et];exact hc.pa t t0 ht
   ·rw [es k k0 e];exact hc.pa k k0 k1
  ·by_cases e:k=t
   ·rw [e,et];exact hc.ol t t0 ht
   ·rw [es k k0 e];exact hc.ol k k0 k1
  ·by_cases e:k=t
   ·rw [e,et];exact hc.fl t t0 ht
   ·rw [es k k0 e];exact hc.fl k k0 k1
  ·rw [es k (by omega) (by omega)];exact hc.far k (by omega) k1
  ·by_cases e:k=t
   ·rw [e,et];exact hy
   ·rw [es k k0 e];exact hc.b k k0 k1
  ·by_cases e:k=t
   ·rw [e,et];simp
   ·rw [es k k0 e];exact hc.gn k k0 (by omega)
  ·by_cases e:k=t
   ·subst e;rw [et];show bt y q↔_;rw [hyq,hxq];have hpe:0<=(ix l k).2.1->ix L (ix l k).2.1=ix l1 (ix l k).2.1:=fun h0=>es _ h0 (by omega)
    constructor
    ·rintro ⟨⟨a,b⟩,d⟩;refine ⟨a,fun h0=>by rw [hpe h0];exact b h0,fun j j0 j1 ej => ?_⟩
     rw [es j j0 (by omega)]
     exact d j j0 j1 (by rw [hc.pa j j0 (by omega),hc.pa k k0 ht];exact ej)
    ·rintro ⟨a,b,d⟩;refine ⟨⟨a,fun h0=>by rw [<- hpe h0];exact b h0⟩,fun j j0 j1 ej => ?_⟩
     rw [<- es j j0 (by omega)]
     exact d j j0 j1 (by rw [<- hc.pa j j0 (by omega),<- hc.pa k k0 ht];exact ej)
   ·have hpk:=h.p k k0 (by omega)
    rw [es k k0 e,hc.lb k k0 (by omega) q]
    refine and_congr Iff.rfl (and_congr ?_ ?_)
    ·refine forall_congr' fun h0 => ?_
     rw [es _ h0 (by omega)]
    ·refine forall_congr' fun j=>forall_congr' fun j0=>forall_congr' fun j1=>forall_congr' fun _ => ?_
     rw [es j j0 (by omega)]
theorem zve {l:List Nd} (h:NdOk l):∃ l',zfr l=some l'/\Cl l l' l.length:=by
 unfold zfr;exact zv0 h _ 0 l rfl (by omega) (by omega) ⟨rfl,fun _ _ _=>rfl,fun _ _ _=>rfl,fun _ _ _=>rfl,fun _ _ _=>rfl,h.b,fun k k0 k1=>by omega,fun k k0 k1=>by omega⟩
structure Dr (i:Int) (l l':List Nd) (t:Int):Prop where
 len:l'.length=l.length
 lb:∀ k:Int,0<=k->k < l.length->(ix l' k).1=(ix l k).1
 pa:∀ k:Int,0<=k->k < l.length->(ix l' k).2.1=(ix l k).2.1
 ol:∀ k:Int,0<=k->k < l.length->(ix l' k).2.2.1=(ix l k).2.2.1
 fl:∀ k:Int,0<=k->k < l.length->(ix l' k).2.2.2.2=(ix l k).2.2.2.2
 le:∀ k:Int,0<=k->k<=i->k < l.length->ix l' k=ix l k
 far:∀ k:Int,t<=k->k < l.length->ix l' k=ix l k
 gn:∀ k:Int,i < k->k < t->((ix l' k).2.2.2.1=true↔(ix l k).2.2.2.1=true\/(ix l k).2.1=i\/(i < (ix l k).2.1/\(ix l' (ix l k).2.1).2.2.2.1=true))
theorem zza {i:Int} {l:List Nd} (i0:0<=i) (hlen:l.length<=12) (hp:∀ k:Int,0<=k->k < l.length->(ix l k).2.1 < k):∀ (n:Nat) (t:Int) (l1:List Nd),(l.length - t).toNat=n->i < t->t<=l.length->Dr i l l1 t->∃ l',zeP i t l1=some l'/\Dr i l l' l.length:=by
 intro n
 induction n with
 | zero=>
  intro t l1 hn t0 t1 hd;obtain rfl:t=l.length:=by omega
  have:=hd.len;refine ⟨l1,?_,hd⟩
  rw [zhO];unfold zbU;rw [if_neg (by simp;omega)]
 | succ n ih=>
  intro t l1 hn t0 t1 hd;have hl1:=hd.len;have ht:t < l.length:=by omega
  have hpt:=hp t (by omega) ht
  have e0:ix l1 t=ix l t:=hd.far t (Int.le_refl _) ht;have keep:(¬ ((ix l t).2.1=i\/(i < (ix l t).2.1/\(ix l1 (ix l t).2.1).2.2.2.1=true)))->Dr i l l1 (t+1):=fun hno=>⟨hd.len,hd.lb,hd.pa,hd.ol,hd.fl,hd.le,fun k k0 k1=>hd.far k (by omega) k1,fun k k0 k1=>by
   by_cases e:k=t
   ·subst e;rw [e0];exact ⟨.inl,fun h=>h.elim id (fun h=>absurd h hno)⟩
   ·exact hd.gn k k0 (by omega)⟩
  have put:((ix l t).2.1=i\/(i < (ix l t).2.1/\(ix l1 (ix l t).2.1).2.2.2.1=true))->Dr i l (l1.set t.toNat ((ix l t).1,(ix l t).2.1,(ix l t).2.2.1,true,(ix l t).2.2.2.2)) (t+1):=fun hyes=>by
   have es:∀ k:Int,0<=k->k≠t->ix (l1.set t.toNat ((ix l t).1,(ix l t).2.1,(ix l t).2.2.1,true,(ix l t).2.2.2.2)) k=ix l1 k:=fun k k0 hk=>zak (by omega) k0 (by omega)
   have et:ix (l1.set t.toNat ((ix l t).1,(ix l t).2.1,(ix l t).2.2.1,true,(ix l t).2.2.2.2)) t=((ix l t).1,(ix l t).2.1,(ix l t).2.2.1,true,(ix l t).2.2.2.2):=zal (by omega) (by omega)
   generalize hL:l1.set t.toNat ((ix l t).1,(ix l t).2.1,(ix l t).2.2.1,true,(ix l t).2.2.2.2)=L at es et;refine ⟨by rw [<- hL,List.length_set,hl1],fun k k0 k1 => ?_,fun k k0 k1 => ?_,fun k k0 k1 => ?_,fun k k0 k1 => ?_,fun k k0 k1 k2 => ?_,fun k k0 k1 => ?_,fun k k0 k1 => ?_⟩
   ·by_cases e:k=t
    ·rw [e,et]
    ·rw [es k k0 e];exact hd.lb k k0 k1
   ·by_cases e:k=t
    ·rw [e,et]
    ·rw [es k k0 e];exact hd.pa k k0 k1
   ·by_cases e:k=t
    ·rw [e,et]
    ·rw [es k k0 e];exact hd.ol k k0 k1
   ·by_cases e:k=t
    ·rw [e,et]
    ·rw [es k k0 e];exact hd.fl k k0 k1
   ·rw [es k k0 (by omega)];exact hd.le k k0 k1 k2
   ·rw [es k (by omega) (by omega)];exact hd.far k (by omega) k1
   ·have hpk:=hp k (by omega) (by omega)
    by_cases e:k=t
    ·subst e;rw [et];refine ⟨fun _ => ?_,fun _=>rfl⟩
     rcases hyes with h | ⟨h,h2⟩
     ·exact .inr (.inl h)
     ·exact .inr (.inr ⟨h,by rw [es _ (by omega) (by omega)];exact h2⟩)
    ·rw [es k (by omega) e,hd.gn k k0 (by omega)]
     refine or_congr Iff.rfl (or_congr Iff.rfl ⟨fun ⟨a,b⟩=>⟨a,?_⟩,fun ⟨a,b⟩=>⟨a,?_⟩⟩)
     ·rw [es _ (by omega) (by omega)];exact b
     ·rw [es _ (by omega) (by omega)] at b;exact b
  rw [zhO];unfold zbU zb1 zcL;rw [if_pos (by simp;omega),hl1,zab (by omega),zab (by omega),e0]
  by_cases c:(ix l t).2.1=i
  ·obtain ⟨l',h1,h2⟩:=ih (t+1) _ (by omega) (by omega) (by omega) (put (.inl c))
   refine ⟨l',?_,h2⟩
   rw [if_pos (decide_eq_true c),if_pos rfl,zab (by omega),zab (by omega),zab (by unfold fits;omega)]
   exact h1
  ·rw [if_neg (by simpa using c)]
   by_cases c2:0<=(ix l t).2.1
   ·rw [if_pos (decide_eq_true c2),zab (by omega),zab (by omega)]
    by_cases c3:(ix l1 (ix l t).2.1).2.2.2.1=true
    ·rw [if_pos c3];by_cases c4:i < (ix l t).2.1
     ·obtain ⟨l',h1,h2⟩:=ih (t+1) _ (by omega) (by omega) (by omega) (put (.inr ⟨c4,c3⟩))
      refine ⟨l',?_,h2⟩
      rw [if_pos (decide_eq_true c4),zab (by omega),zab (by omega),zab (by unfold fits;omega)]
      exact h1
     ·obtain ⟨l',h1,h2⟩:=ih (t+1) l1 (by omega) (by omega) (by omega) (keep (fun h=>h.elim c (fun h=>c4 h.1)))
      refine ⟨l',?_,h2⟩
      rw [if_neg (by simpa using c4),zab (by unfold fits;omega)]
      exact h1
    ·obtain ⟨l',h1,h2⟩:=ih (t+1) l1 (by omega) (by omega) (by omega) (keep (fun h=>h.elim c (fun h=>c3 h.2)))
     refine ⟨l',?_,h2⟩
     rw [if_neg c3,if_neg (by simp),zab (by unfold fits;omega)]
     exact h1
   ·obtain ⟨l',h1,h2⟩:=ih (t+1) l1 (by omega) (by omega) (by omega) (keep (fun h=>h.elim c (fun h=>by omega)))
    refine ⟨l',?_,h2⟩
    rw [if_neg (by simpa using c2),if_neg (by simp),zab (by unfold fits;omega)]
    exact h1
theorem zwh {i:Int} {l:List Nd} (i0:0<=i) (i1:i < l.length) (hlen:l.length<=12) (hp:∀ k:Int,0<=k->k < l.length->(ix l k).2.1 < k):∃ l',zgT i l=some l'/\Dr i l l' l.length:=by
 unfold zgT;rw [zab (by unfold fits;omega)]
 exact zza i0 hlen hp _ (i+1) l rfl (by omega) (by omega) ⟨rfl,fun _ _ _=>rfl,fun _ _ _=>rfl,fun _ _ _=>rfl,fun _ _ _=>rfl,fun _ _ _ _=>rfl,fun _ _ _=>rfl,fun k k0 k1=>by omega⟩
def zrR (l:List Nd) (i q:Int):Prop:=∃ j:Int,0<=j/\j < l.length/\(ix l j).2.1=i/\bt (ix l j).1 q
structure Fi (l l':List Nd) (i:Int):Prop where
 len:l'.length=l.length
 lb:∀ k:Int,0<=k->k < l.length->(ix l' k).1=(ix l k).1
 pa:∀ k:Int,0<=k->k < l.length->(ix l' k).2.1=(ix l k).2.1
 ol:∀ k:Int,0<=k->k < l.length->(ix l' k).2.2.1=(ix l k).2.2.1
 gn:∀ k:Int,0<=k->k < l.length->((ix l' k).2.2.2.1=true↔(ix l k).1=0\/(0<=(ix l k).2.1/\((ix l' (ix l k).2.1).2.2.2.1=true\/(ix l' (ix l k).2.1).2.2.2.2.1=true)))
 fa:∀ k:Int,i<=k->k < l.length->(ix l' k).2.2.2.2.1=false
 fc:∀ k:Int,0<=k->k < i->((ix l' k).2.2.2.2.1=true->∀ q,bt (ix l k).1 q->zrR l k q)/\((ix l' k).2.2.2.1=false->(ix l' k).2.2.2.2.1=false->∃ q,bt (ix l k).1 q /\ ¬ zrR l k q)
structure ClOk (l:List Nd):Prop where
 len:l.length<=12
 b:∀ k:Int,0<=k->k < l.length->B4 (ix l k).1
 p:∀ k:Int,0<=k->k < l.length->(ix l k).2.1 < k
 sub:∀ k:Int,0<=k->k < l.length->0<=(ix l k).2.1->∀ q,bt (ix l k).1 q->bt (ix l (ix l k).2.1).1 q
section
variable {l:List Nd}
theorem zwQ (h:ClOk l) {l1:List Nd} {i:Int} (hf:Fi l l1 i) (i0:0<=i) (i1:i < l.length) {r23}:∀ (n:Nat) (t s:Int),(l.length - t).toNat=n->0<=t->t<=l.length->B4 s->(∀ q,bt s q↔∃ j:Int,0<=j/\j < t/\(ix l j).2.1=i/\(ix l1 j).2.2.2.1=false/\bt (ix l j).1 q)->
  ∃ s',B4 s'/\(∀ q,bt s' q↔∃ j:Int,0<=j/\j < l.length/\(ix l j).2.1=i/\(ix l1 j).2.2.2.1=false/\bt (ix l j).1 q)/\zaE i l1 r23 s t=zaq i l1 r23 (decide ((ix l1 i).2.2.2.1=false/\s'=(ix l i).1 /\ ¬ s'=0)):=by
 have hl1:=hf.len;have hlen:=h.len;intro n
 induction n with
 | zero=>
  intro t s hn t0 t1 hs hq;obtain rfl:t=l.length:=by omega
  refine ⟨s,hs,hq,?_⟩
  rw [zcW];unfold zaz;rw [if_neg (by simp;omega),hl1,zab (by omega),zab (by omega)]
  cases hg:(ix l1 i).2.2.2.1 with
  | true=>rw [if_neg (by simp)];simp
  | false=>
   rw [if_pos (by simp),zab (by omega),zab (by omega),hf.lb i i0 i1]
   by_cases c:s=(ix l i).1
   ·rw [if_pos (decide_eq_true c)];simp [c]
   ·rw [if_neg (by simpa using c)];simp [c]
 | succ n ih=>
  intro t s hn t0 t1 hs hq;have ht:t < l.length:=by omega
  have same : ¬ ((ix l t).2.1=i/\(ix l1 t).2.2.2.1=false)->(∀ q,bt s q↔∃ j:Int,0<=j/\j < t+1/\(ix l j).2.1=i/\(ix l1 j).2.2.2.1=false/\bt (ix l j).1 q):=fun hno q=>(hq q).trans ⟨fun ⟨j,a,b,c⟩=>⟨j,a,by omega,c⟩,fun ⟨j,a,b,c,d,e⟩=>by
   by_cases ej:j=t
   ·rw [ej] at c d;exact absurd ⟨c,d⟩ hno
   ·exact ⟨j,a,by omega,c,d,e⟩⟩
  rw [zcW];unfold zaz zaR;rw [if_pos (by simp;omega),hl1,zab (by omega),zab (by omega),hf.pa t t0 ht]
  by_cases c:(ix l t).2.1=i
  ·rw [if_pos (decide_eq_true c),zab (by omega),zab (by omega)]
   cases hg:(ix l1 t).2.2.2.1 with
   | true=>
    rw [if_neg (by simp),zab (by unfold fits;omega)]
    exact ih (t+1) s (by omega) (by omega) (by omega) hs (same (fun hh=>by rw [hg] at hh;exact absurd hh.2 (by simp)))
   | false=>
    rw [if_pos (by simp),zab (by omega),zab (by omega),zab (by unfold fits;omega),hf.lb t t0 ht]
    obtain ⟨g1,g2⟩:=zxD hs (h.b t t0 ht);refine ih (t+1) _ (by omega) (by omega) (by omega) g1 (fun q => ?_)
    rw [g2,hq];constructor
    ·rintro (⟨j,a,b,d⟩ | hh)
     ·exact ⟨j,a,by omega,d⟩
     ·exact ⟨t,t0,by omega,c,hg,hh⟩
    ·rintro ⟨j,a,b,d,e,f⟩;by_cases ej:j=t
     ·rw [ej] at f;exact .inr f
     ·exact .inl ⟨j,a,by omega,d,e,f⟩
  ·rw [if_neg (by simpa using c),if_neg (by simp),zab (by unfold fits;omega)]
   exact ih (t+1) s (by omega) (by omega) (by omega) hs (same (fun hh=>c hh.1))
theorem Fi.drop (h:ClOk l) {l1:List Nd} {i:Int} (hf:Fi l l1 i) (i0:0<=i) (i1:i < l.length) (hg:(ix l1 i).2.2.2.1=false) (hk:∀ q,bt (ix l i).1 q->zrR l i q):
  ∃ l',zgT i (l1.set i.toNat ((ix l1 i).1,(ix l1 i).2.1,(ix l1 i).2.2.1,(ix l1 i).2.2.2.1,true,(ix l1 i).2.2.2.2.2))=some l'/\Fi l l' (i+1):=by
 have hl1:=hf.len;have hlen:=h.len;have es:∀ k:Int,0<=k->k≠i->ix (l1.set i.toNat ((ix l1 i).1,(ix l1 i).2.1,(ix l1 i).2.2.1,(ix l1 i).2.2.2.1,true,(ix l1 i).2.2.2.2.2)) k=ix l1 k:=fun k k0 hk=>zak (by omega) k0 (by omega)
 have et:ix (l1.set i.toNat ((ix l1 i).1,(ix l1 i).2.1,(ix l1 i).2.2.1,(ix l1 i).2.2.2.1,true,(ix l1 i).2.2.2.2.2)) i=((ix l1 i).1,(ix l1 i).2.1,(ix l1 i).2.2.1,(ix l1 i).2.2.2.1,true,(ix l1 i).2.2.2.2.2):=zal (by omega) (by omega)
 have hLl:(l1.set i.toNat ((ix l1 i).1,(ix l1 i).2.1,(ix l1 i).2.2.1,(ix l1 i).2.2.2.1,true,(ix l1 i).2.2.2.2.2)).length=l.length:=by rw [List.length_set,hl1]
 generalize hL:l1.set i.toNat ((ix l1 i).1,(ix l1 i).2.1,(ix l1 i).2.2.1,(ix l1 i).2.2.2.1,true,(ix l1 i).2.2.2.2.2)=L at es et hLl ⊢;have pL:∀ k:Int,0<=k->k < l.length->(ix L k).2.1=(ix l k).2.1:=fun k k0 k1=>by
  by_cases e:k=i
  ·rw [e,et];exact hf.pa i i0 i1
  ·rw [es k k0 e];exact hf.pa k k0 k1
 have gL:∀ k:Int,0<=k->(ix L k).2.2.2.1=(ix l1 k).2.2.2.1:=fun k k0=>by
  by_cases e:k=i
  ·rw [e,et]
  ·rw [es k k0 e]
 obtain ⟨l',h1,hd⟩:=zwh (i:=i) (l:=L) i0 (by omega) (by omega) (fun k k0 k1=>by rw [pL k k0 (by omega)];exact h.p k k0 (by omega))
 have hfl:∀ k:Int,0<=k->k < l.length->(ix l' k).2.2.2.2.1=if k=i then true else (ix l1 k).2.2.2.2.1:=fun k k0 k1=>by
  rw [hd.fl k k0 (by omega)]
  by_cases e:k=i
  ·rw [if_pos e,e,et]
  ·rw [if_neg e,es k k0 e]
 have gle:∀ k:Int,0<=k->k<=i->(ix l' k).2.2.2.1=(ix l1 k).2.2.2.1:=fun k k0 k1=>by
  rw [hd.le k k0 k1 (by omega),gL k k0]
 refine ⟨l',h1,⟨by rw [hd.len,hLl],fun k k0 k1 => ?_,fun k k0 k1 => ?_,fun k k0 k1 => ?_,fun k k0 k1 => ?_,fun k k0 k1 => ?_,fun k k0 k1 => ?_⟩⟩
 ·rw [hd.lb k k0 (by omega)]
  by_cases e:k=i
  ·rw [e,et];exact hf.lb i i0 i1
  ·rw [es k k0 e];exact hf.lb k k0 k1
 ·rw [hd.pa k k0 (by omega)];exact pL k k0 k1
 ·rw [hd.ol k k0 (by omega)]
  by_cases e:k=i
  ·rw [e,et];exact hf.ol i i0 i1
  ·rw [es k k0 e];exact hf.ol k k0 k1
 ·have hpk:=h.p k k0 k1;have old:=hf.gn k k0 k1;by_cases c:k<=i
  ·rw [gle k k0 c,old];refine or_congr Iff.rfl ⟨fun ⟨a,b⟩=>⟨a,?_⟩,fun ⟨a,b⟩=>⟨a,?_⟩⟩
   ·rw [gle _ a (by omega),hfl _ a (by omega),if_neg (by omega)];exact b
   ·rw [gle _ a (by omega),hfl _ a (by omega),if_neg (by omega)] at b;exact b
  ·have new:=hd.gn k (by omega) (by omega)
   rw [gL k k0,pL k k0 k1] at new;rw [new];by_cases c2:(ix l k).2.1=i
   ·refine ⟨fun _ => .inr ⟨by omega,.inr ?_⟩,fun _ => .inr (.inl c2)⟩
    rw [hfl _ (by omega) (by omega),if_pos c2]
   ·by_cases c3:i < (ix l k).2.1
    ·have mono:(ix l1 (ix l k).2.1).2.2.2.1=true->(ix l' (ix l k).2.1).2.2.2.1=true:=fun hh=>(hd.gn _ c3 (by omega)).2 (.inl (by rw [gL _ (by omega)];exact hh))
     rw [old];constructor
     ·rintro ((a | ⟨a,b | b⟩) | a | ⟨_,a⟩)
      ·exact .inl a
      ·exact .inr ⟨a,.inl (mono b)⟩
      ·exact .inr ⟨a,.inr (by rw [hfl _ (by omega) (by omega),if_neg c2];exact b)⟩
      ·exact absurd a c2
      ·exact .inr ⟨by omega,.inl a⟩
     ·rintro (a | ⟨a,b | b⟩)
      ·exact .inl (.inl a)
      ·exact .inr (.inr ⟨c3,b⟩)
      ·rw [hfl _ (by omega) (by omega),if_neg c2] at b;exact .inl (.inr ⟨a,.inr b⟩)
    ·rw [old];constructor
     ·rintro ((a | ⟨a,b⟩) | a | ⟨a,_⟩)
      ·exact .inl a
      ·refine .inr ⟨a,?_⟩
       rw [gle _ a (by omega),hfl _ a (by omega),if_neg c2];exact b
      ·exact absurd a c2
      ·exact absurd a c3
     ·rintro (a | ⟨a,b⟩)
      ·exact .inl (.inl a)
      ·rw [gle _ a (by omega),hfl _ a (by omega),if_neg c2] at b
       exact .inl (.inr ⟨a,b⟩)
 ·rw [hfl k (by omega) k1,if_neg (by omega)];exact hf.fa k (by omega) k1
 ·rw [hfl k k0 (by omega),gle k k0 (by omega)]
  by_cases e:k=i
  ·subst e;rw [if_pos rfl];exact ⟨fun _=>hk,fun _ hh=>by cases hh⟩
  ·rw [if_neg e];exact hf.fc k k0 (by omega)
theorem zvo (h:ClOk l) {y:List Nd} (hy:y.length=l.length):∀ (n:Nat) (i:Int) (l1:List Nd),(l.length - i).toNat=n->0<=i->i<=l.length->Fi l l1 i->∃ l',Fi l l' l.length/\zar y i l1=(zgU l').bind (fun y=>some y):=by
 have hlen:=h.len;intro n
 induction n with
 | zero=>
  intro i l1 hn i0 i1 hf;obtain rfl:i=l.length:=by omega
  refine ⟨l1,hf,?_⟩
  rw [zcV];unfold zay;rw [if_neg (by simp;omega)]
 | succ n ih=>
  intro i l1 hn i0 i1 hf;have hi:i < l.length:=by omega
  have hl1:=hf.len;obtain ⟨s,s1,s2,s3⟩:=zwQ h hf i0 hi (r23:=zar y) _ 0 0 rfl (by omega) (by omega) zcy.1 (fun q=>⟨fun hh=>absurd hh (zcy.2 q),fun ⟨j,a,b,_⟩=>by omega⟩)
  have run:zar y i l1=zaq i l1 (zar y) (decide ((ix l1 i).2.2.2.1=false/\s=(ix l i).1 /\ ¬ s=0)):=by
   rw [zcV];unfold zay;rw [if_pos (by simp;omega)];exact s3
  rw [run];unfold zaq;have all:(ix l1 i).2.2.2.1=false->∀ q,bt s q↔zrR l i q:=fun hg q=>(s2 q).trans ⟨fun ⟨j,a,b,c,_,e⟩=>⟨j,a,b,c,e⟩,fun ⟨j,a,b,c,e⟩=>by
   refine ⟨j,a,b,c,?_,e⟩
   cases hgj:(ix l1 j).2.2.2.1 with
   | false=>rfl
   | true=>
    exfalso;rcases (hf.gn j a b).1 hgj with g | ⟨_,g | g⟩
    ·rw [g] at e;exact zcy.2 q e
    ·rw [c,hg] at g;cases g
    ·rw [c,hf.fa i (Int.le_refl _) hi] at g;cases g⟩
  by_cases c:(ix l1 i).2.2.2.1=false/\s=(ix l i).1 /\ ¬ s=0
  ·obtain ⟨l',h1,h2⟩:=hf.drop h i0 hi c.1 (fun q hq=>(all c.1 q).1 (by rw [c.2.1];exact hq))
   obtain ⟨l'',k1,k2⟩:=ih (i+1) l' (by omega) (by omega) (by omega) h2
   refine ⟨l'',k1,?_⟩
   rw [if_pos (decide_eq_true c),hl1,zab (by omega),zab (by omega),h1]
   show G (fits (i+1)) (zar y (i+1) l')=_;rw [zab (by unfold fits;omega)]
   exact k2
  ·obtain ⟨l'',k1,k2⟩:=ih (i+1) l1 (by omega) (by omega) (by omega) ⟨hf.len,hf.lb,hf.pa,hf.ol,hf.gn,fun k k0 k1=>hf.fa k (by omega) k1,fun k k0 k1=>by
    by_cases e:k=i
    ·subst e;have ff:=hf.fa k (Int.le_refl _) hi;rw [ff];refine ⟨fun hh=>by (cases hh),fun hg _ => ?_⟩
     have hne : ¬ (ix l k).1=0:=fun hz=>by
      have:=(hf.gn k k0 hi).2 (.inl hz);rw [hg] at this;cases this
     refine Classical.byContradiction fun hno=>c ⟨hg,?_⟩
     have hall:∀ q,bt (ix l k).1 q->zrR l k q:=fun q hq=>Classical.byContradiction fun hn=>hno ⟨q,hq,hn⟩
     have hs:s=(ix l k).1:=zvU s1 (h.b k k0 hi) (fun q=>(all hg q).trans ⟨fun ⟨j,a,b,d,e⟩=>by
      have:=h.sub j a b (by omega) q e
      rwa [d] at this,hall q⟩)
     exact ⟨hs,by rw [hs];exact hne⟩
    ·exact hf.fc k k0 (by omega)⟩
   refine ⟨l'',k1,?_⟩
   rw [if_neg (by simpa using c),zab (by unfold fits;omega)]
   exact k2
end
def kp (l:List Nd):Nat->Int
 | 0=>0
 | t+1=>if (ix l (t:Int)).2.2.2.1=true then kp l t else kp l t+1
section
variable {l:List Nd}
theorem znu:∀ t:Nat,0<=kp l t/\kp l t<=t
 | 0=>by unfold kp;omega
 | t+1=>by
  have:=znu t;unfold kp;split<;>omega
theorem zwR {s t:Nat} (h:s<=t):kp l s<=kp l t:=by
 induction t with
 | zero=>
  obtain rfl:s=0:=by omega
  exact Int.le_refl _
 | succ t ih=>
  by_cases e:s=t+1
  ·rw [e];exact Int.le_refl _
  ·have:=ih (by omega)
   show kp l s<=kp l (t+1);rw [kp];split<;>omega
theorem zx2 {s t:Nat} (h:s < t) (hg : ¬ (ix l (s:Int)).2.2.2.1=true):kp l s < kp l t:=by
 have h1:kp l (s+1)=kp l s+1:=by rw [kp,if_neg hg]
 have:=zwR (l:=l) (s:=s+1) (t:=t) h;omega
theorem kp_eq {t:Nat} (h:∀ j,j < t -> ¬ (ix l ((j:Nat):Int)).2.2.2.1=true):kp l t=t:=by
 induction t with
 | zero=>rfl
 | succ t ih=>
  rw [kp,if_neg (h t (by omega)),ih (fun j hj=>h j (by omega))];omega
theorem zzs {s t:Nat} (h:s < t) (hg:(ix l (s:Int)).2.2.2.1=true):kp l t < t:=by
 induction t with
 | zero=>omega
 | succ t ih=>
  by_cases e:s=t
  ·subst e;rw [kp,if_pos hg];have:=znu (l:=l) s;omega
  ·have:=ih (by omega)
   rw [kp];split<;>omega
theorem ztD {t:Nat} {k:Int} (k0:0<=k) (k1:k < kp l t):∃ s:Nat,s < t /\ ¬ (ix l (s:Int)).2.2.2.1=true/\kp l s=k:=by
 induction t with
 | zero=>unfold kp at k1;omega
 | succ t ih=>
  by_cases c:k < kp l t
  ·obtain ⟨s,h1,h2⟩:=ih c;exact ⟨s,by omega,h2⟩
  ·by_cases hg:(ix l (t:Int)).2.2.2.1=true
   ·rw [kp,if_pos hg] at k1;exact absurd k1 c
   ·rw [kp,if_neg hg] at k1;exact ⟨t,by omega,hg,by omega⟩
end
structure MkTo (l:List Nd) (t:Int) (m:Int):Prop where
 gone:∀ i:Int,0<=i->i < t->(ix l i).2.2.1=true->(ix l i).2.2.2.1=true->m<=2 * i+1
 fl:∀ i:Int,0<=i->i < t->(ix l i).2.2.1=true->(ix l i).2.2.2.1=false->(ix l i).2.2.2.2.1=true->m<=2 * i+2
 is:m=9\/(∃ i:Int,(0<=i/\i < t)/\(ix l i).2.2.1=true/\(ix l i).2.2.2.1=true/\m=2 * i+1)\/∃ i:Int,(0<=i/\i < t)/\(ix l i).2.2.1=true/\(ix l i).2.2.2.1=false/\(ix l i).2.2.2.2.1=true/\m=2 * i+2
 le:m<=9
structure TdTo (l:List Nd) (t:Nat) (L A N:List Int):Prop where
 lL:L.length=4
 lA:A.length=4
 lN:N.length=12
 lab:∀ j:Nat,j < t -> ¬ (ix l (j:Int)).2.2.2.1=true->ix L (kp l j)=(ix l (j:Int)).1
 abv:∀ j:Nat,j < t -> ¬ (ix l (j:Int)).2.2.2.1=true->ix A (kp l j)=if 0<=(ix l (j:Int)).2.1 then kp l (ix l (j:Int)).2.1.toNat else -1
 now:∀ j:Nat,j < t -> ¬ (ix l (j:Int)).2.2.2.1=true->ix N (j:Int)=kp l j
 fill:∀ k:Int,kp l t<=k->k < 4->ix L k=0/\ix A k=0
theorem ztG {L:List Int} (h:L.length=4):[L.getD 0 0,L.getD 1 0,L.getD 2 0,L.getD 3 0]=L:=by
 match L,h with
 | [a,b,c,d],_=>rfl
theorem zwU {L:List Int} (h:L.length=12):[L.getD 0 0,L.getD 1 0,L.getD 2 0,L.getD 3 0,L.getD 4 0,L.getD 5 0,L.getD 6 0,L.getD 7 0,L.getD 8 0,L.getD 9 0,L.getD 10 0,L.getD 11 0]=L:=by
 match L,h with
 | [a,b,c,d,e,f,g,i,j,k,m,n],_=>rfl
def zpA (l:List Nd) (t c:Int) (L A:List Int) (m:Int) (N:List Int):=zcM l t c (L.getD 0 0) (L.getD 1 0) (L.getD 2 0) (L.getD 3 0) (A.getD 0 0) (A.getD 1 0) (A.getD 2 0) (A.getD 3 0) m (N.getD 0 0) (N.getD 1 0) (N.getD 2 0) (N.getD 3 0) (N.getD 4 0) (N.getD 5 0) (N.getD 6 0) (N.getD 7 0) (N.getD 8 0) (N.getD 9 0) (N.getD 10 0) (N.getD 11 0)
section
variable {l:List Nd}
theorem zxu (hlen:l.length<=8) {t:Nat} (ht:(t:Int) < l.length) (hp:(ix l (t:Int)).2.1 < t) (hc:kp l (t+1)<=4) {L A N:List Int} {m:Int} (h:TdTo l t L A N) (hm:MkTo l t m) (hgp : ¬ (ix l (t:Int)).2.2.2.1=true->0<=(ix l (t:Int)).2.1 -> ¬ (ix l (ix l (t:Int)).2.1).2.2.2.1=true):
  ∃ L' A' N' m',TdTo l (t+1) L' A' N'/\MkTo l ((t:Int)+1) m'/\zpA l t (kp l t) L A m N=zpA l ((t:Int)+1) (kp l (t+1)) L' A' m' N':=by
 have hk:=znu (l:=l) t;obtain ⟨m',hm',hrun⟩:∃ m',MkTo l ((t:Int)+1) m'/\zpA l t (kp l t) L A m N=zaO l t (N.getD 0 0) (N.getD 1 0) (N.getD 2 0) (N.getD 3 0) (N.getD 4 0) (N.getD 5 0) (N.getD 6 0) (N.getD 7 0) (N.getD 8 0) (N.getD 9 0) (N.getD 10 0) (N.getD 11 0) (zcM l) (kp l t) (L.getD 0 0) (L.getD 1 0) (L.getD 2 0) (L.getD 3 0) (A.getD 0 0) (A.getD 1 0) (A.getD 2 0) (A.getD 3 0) m':=by
  have up:∀ {i:Int},i < (t:Int)+1->i≠t->i < t:=fun h1 h2=>by omega
  cases ho:(ix l (t:Int)).2.2.1 with
  | false=>
   refine ⟨m,⟨fun i i0 i1 a b => ?_,fun i i0 i1 a b c => ?_,?_,hm.le⟩,?_⟩
   ·by_cases e:i=t
    ·rw [e,ho] at a;cases a
    ·exact hm.gone i i0 (up i1 e) a b
   ·by_cases e:i=t
    ·rw [e,ho] at a;cases a
    ·exact hm.fl i i0 (up i1 e) a b c
   ·rcases hm.is with h1 | ⟨i,⟨i0,i1⟩,h1⟩ | ⟨i,⟨i0,i1⟩,h1⟩
    ·exact .inl h1
    ·exact .inr (.inl ⟨i,⟨i0,by omega⟩,h1⟩)
    ·exact .inr (.inr ⟨i,⟨i0,by omega⟩,h1⟩)
   ·unfold zpA;rw [zcw];unfold zaT;rw [if_pos (decide_eq_true ht),zab (by omega),ho,if_neg (by simp)]
  | true=>
   cases hg:(ix l (t:Int)).2.2.2.1 with
   | true=>
    refine ⟨imin m (2 * (t:Int)+1),⟨fun i i0 i1 a b => ?_,fun i i0 i1 a b c => ?_,?_,?_⟩,?_⟩
    ·unfold imin;by_cases e:i=t
     ·subst e;split<;>omega
     ·have:=hm.gone i i0 (up i1 e) a b;split<;>omega
    ·unfold imin;by_cases e:i=t
     ·rw [e,hg] at b;cases b
     ·have:=hm.fl i i0 (up i1 e) a b c;split<;>omega
    ·unfold imin
     split
     ·exact .inr (.inl ⟨t,by omega,ho,hg,rfl⟩)
     ·rcases hm.is with h1 | ⟨i,⟨i0,i1⟩,h1⟩ | ⟨i,⟨i0,i1⟩,h1⟩
      ·exact .inl h1
      ·exact .inr (.inl ⟨i,⟨i0,by omega⟩,h1⟩)
      ·exact .inr (.inr ⟨i,⟨i0,by omega⟩,h1⟩)
    ·have:=hm.le;unfold imin;split<;>omega
    ·unfold zpA;rw [zcw];unfold zaT;rw [if_pos (decide_eq_true ht),zab (by omega),ho,if_pos rfl,hg,if_pos rfl,zab (by unfold fits;omega),zab (by unfold fits;omega)]
   | false=>
    cases hf:(ix l (t:Int)).2.2.2.2.1 with
    | true=>
     refine ⟨imin m (2 * (t:Int)+2),⟨fun i i0 i1 a b => ?_,fun i i0 i1 a b c => ?_,?_,?_⟩,?_⟩
     ·unfold imin;by_cases e:i=t
      ·rw [e,hg] at b;cases b
      ·have:=hm.gone i i0 (up i1 e) a b;split<;>omega
     ·unfold imin;by_cases e:i=t
      ·subst e;split<;>omega
      ·have:=hm.fl i i0 (up i1 e) a b c;split<;>omega
     ·unfold imin
      split
      ·exact .inr (.inr ⟨t,by omega,ho,hg,hf,rfl⟩)
      ·rcases hm.is with h1 | ⟨i,⟨i0,i1⟩,h1⟩ | ⟨i,⟨i0,i1⟩,h1⟩
       ·exact .inl h1
       ·exact .inr (.inl ⟨i,⟨i0,by omega⟩,h1⟩)
       ·exact .inr (.inr ⟨i,⟨i0,by omega⟩,h1⟩)
     ·have:=hm.le;unfold imin;split<;>omega
     ·unfold zpA;rw [zcw];unfold zaT;rw [if_pos (decide_eq_true ht),zab (by omega),ho,if_pos rfl,hg,if_neg (by simp),hf,if_pos rfl,zab (by unfold fits;omega),zab (by unfold fits;omega)]
    | false=>
     refine ⟨m,⟨fun i i0 i1 a b => ?_,fun i i0 i1 a b c => ?_,?_,hm.le⟩,?_⟩
     ·by_cases e:i=t
      ·rw [e,hg] at b;cases b
      ·exact hm.gone i i0 (up i1 e) a b
     ·by_cases e:i=t
      ·rw [e,hf] at c;cases c
      ·exact hm.fl i i0 (up i1 e) a b c
     ·rcases hm.is with h1 | ⟨i,⟨i0,i1⟩,h1⟩ | ⟨i,⟨i0,i1⟩,h1⟩
      ·exact .inl h1
      ·exact .inr (.inl ⟨i,⟨i0,by omega⟩,h1⟩)
      ·exact .inr (.inr ⟨i,⟨i0,by omega⟩,h1⟩)
     ·unfold zpA;rw [zcw];unfold zaT;rw [if_pos (decide_eq_true ht),zab (by omega),ho,if_pos rfl,hg,if_neg (by simp),hf,if_neg (by simp)]
 rw [hrun];by_cases hg:(ix l (t:Int)).2.2.2.1=true
 ·have ek:kp l (t+1)=kp l t:=by rw [kp,if_pos hg]
  refine ⟨L,A,N,m',⟨h.lL,h.lA,h.lN,fun j j1 a => ?_,fun j j1 a => ?_,fun j j1 a => ?_,fun k k0 k1=>h.fill k (by omega) k1⟩,hm',?_⟩
  ·by_cases e:j=t
   ·rw [e] at a;exact absurd hg a
   ·exact h.lab j (by omega) a
  ·by_cases e:j=t
   ·rw [e] at a;exact absurd hg a
   ·exact h.abv j (by omega) a
  ·by_cases e:j=t
   ·rw [e] at a;exact absurd hg a
   ·exact h.now j (by omega) a
  ·unfold zaO zbK zpA;rw [if_pos hg,zab (by unfold fits;omega),ek]
 ·have ek:kp l (t+1)=kp l t+1:=by rw [kp,if_neg hg]
  have hN:=h.lN;have hL:=h.lL;have hA:=h.lA;obtain ⟨v,hv,hrun2⟩:∃ v,v=(if 0<=(ix l (t:Int)).2.1 then kp l (ix l (t:Int)).2.1.toNat else -1)/\zaO l t (N.getD 0 0) (N.getD 1 0) (N.getD 2 0) (N.getD 3 0) (N.getD 4 0) (N.getD 5 0) (N.getD 6 0) (N.getD 7 0) (N.getD 8 0) (N.getD 9 0) (N.getD 10 0) (N.getD 11 0) (zcM l) (kp l t) (L.getD 0 0) (L.getD 1 0) (L.getD 2 0) (L.getD 3 0) (A.getD 0 0) (A.getD 1 0) (A.getD 2 0) (A.getD 3 0) m'=zpA l ((t:Int)+1) (kp l t+1) (L.set (kp l t).toNat (ix l (t:Int)).1) (A.set (kp l t).toNat v) m' (N.set t (kp l t)):=by
   have hset4:∀ (X:List Int) (k:Nat) (y:Int),X.length=4->(X.set k y).length=4:=fun X k y hX=>by rw [List.length_set,hX]
   have hN2:(N.set ((t:Int)).toNat (kp l t)).length=12:=by rw [List.length_set,hN]
   by_cases c:0<=(ix l (t:Int)).2.1
   ·refine ⟨_,rfl,?_⟩
    unfold zaO zca zbK;rw [if_neg hg,zab (by omega),zab (by omega),zab (by omega),zab (by omega),zab (by omega),zab (by omega),if_pos (decide_eq_true c),zab (by omega),zab (by omega),zab (by omega),zab (by omega),zab (by unfold fits;omega),zab (by unfold fits;omega)]
    rw [ztG hL,ztG hA,zwU hN,ztG (hset4 _ _ _ hA),zwU hN2,List.set_set,if_pos c];have ev:(N.set ((t:Int)).toNat (kp l t)).getD (ix l (t:Int)).2.1.toNat 0=kp l (ix l (t:Int)).2.1.toNat:=by
     obtain ⟨j,hj⟩:∃ j:Nat,(ix l (t:Int)).2.1=j:=⟨_,(Int.toNat_of_nonneg c).symm⟩;have e1:=h.now j (by omega) (by rw [<- hj];exact hgp hg c)
     show ix (N.set ((t:Int)).toNat (kp l t)) (ix l (t:Int)).2.1=_;rw [zak (by omega) (by omega) (by omega),hj,e1];rfl
    rw [ev];rfl
   ·refine ⟨_,rfl,?_⟩
    unfold zaO zca zbK;rw [if_neg hg,zab (by omega),zab (by omega),zab (by omega),zab (by omega),zab (by omega),zab (by omega),if_neg (by simpa using c),zab (by unfold fits;omega),zab (by unfold fits;omega)]
    rw [ztG hL,ztG hA,zwU hN,if_neg c];rfl
  rw [hrun2];have kj:∀ j:Nat,j < t -> ¬ (ix l (j:Int)).2.2.2.1=true->kp l j < kp l t:=fun j hj a=>zx2 hj a
  refine ⟨L.set (kp l t).toNat (ix l (t:Int)).1,A.set (kp l t).toNat v,N.set t (kp l t),m',⟨by rw [List.length_set,hL],by rw [List.length_set,hA],by rw [List.length_set,hN],fun j j1 a => ?_,fun j j1 a => ?_,fun j j1 a => ?_,fun k k0 k1 => ?_⟩,hm',by rw [ek]⟩
  ·by_cases e:j=t
   ·rw [e,zal hk.1 (by omega)]
   ·have:=kj j (by omega) a
    have:=(znu (l:=l) j).1;rw [zak hk.1 (by omega) (by omega)]
    exact h.lab j (by omega) a
  ·by_cases e:j=t
   ·rw [e,zal hk.1 (by omega),hv]
   ·have:=kj j (by omega) a
    have:=(znu (l:=l) j).1;rw [zak hk.1 (by omega) (by omega)]
    exact h.abv j (by omega) a
  ·by_cases e:j=t
   ·rw [e];have:ix (N.set ((t:Int)).toNat (kp l t)) (t:Int)=kp l t:=zal (by omega) (by omega)
    exact this
   ·have:ix (N.set ((t:Int)).toNat (kp l t)) (j:Int)=ix N (j:Int):=zak (by omega) (by omega) (by omega)
    exact this.trans (h.now j (by omega) a)
  ·rw [zak hk.1 (by omega) (by omega),zak hk.1 (by omega) (by omega)]
   exact h.fill k (by omega) k1
theorem zxt (hlen:l.length<=8) (hp:∀ k:Int,0<=k->k < l.length->(ix l k).2.1 < k) (hgp:∀ k:Int,0<=k->k < l.length -> ¬ (ix l k).2.2.2.1=true->0<=(ix l k).2.1 -> ¬ (ix l (ix l k).2.1).2.2.2.1=true) (hc:kp l l.length<=4):
  ∃ L A N m,TdTo l l.length L A N/\MkTo l l.length m/\zgU l=some ((kp l l.length,(L.getD 0 0,L.getD 1 0,L.getD 2 0,L.getD 3 0,()),(A.getD 0 0,A.getD 1 0,A.getD 2 0,A.getD 3 0,()),()),m,()):=by
 have key:∀ (n t:Nat) (L A N:List Int) (m:Int),l.length - t=n->t<=l.length->TdTo l t L A N->MkTo l t m->
   ∃ L' A' N' m',TdTo l l.length L' A' N'/\MkTo l l.length m'/\zpA l t (kp l t) L A m N=some ((kp l l.length,(L'.getD 0 0,L'.getD 1 0,L'.getD 2 0,L'.getD 3 0,()),(A'.getD 0 0,A'.getD 1 0,A'.getD 2 0,A'.getD 3 0,()),()),m',()):=by
  intro n
  induction n with
  | zero=>
   intro t L A N m hn ht h hm;obtain rfl:t=l.length:=by omega
   refine ⟨L,A,N,m,h,hm,?_⟩
   unfold zpA;rw [zcw];unfold zaT;rw [if_neg (by simp)]
  | succ n ih=>
   intro t L A N m hn ht h hm;obtain ⟨L',A',N',m',h1,h2,h3⟩:=zxu hlen (t:=t) (by omega) (hp t (by omega) (by omega)) (by have:=zwR (l:=l) (s:=t+1) (t:=l.length) (by omega);omega) h hm (hgp t (by omega) (by omega))
   rw [h3];exact ih (t+1) L' A' N' m' (by omega) (by omega) h1 h2
 exact key _ 0 [0,0,0,0] [0,0,0,0] [0,0,0,0,0,0,0,0,0,0,0,0] 9 rfl (by omega) ⟨rfl,rfl,rfl,fun j hj=>by omega,fun j hj=>by omega,fun j hj=>by omega,fun k k0 k1=>by
  have:k=0\/k=1\/k=2\/k=3:=by have:kp l 0=0:=rfl;omega
  rcases this with rfl | rfl | rfl | rfl<;>exact ⟨rfl,rfl⟩⟩ ⟨fun i a b=>by omega,fun i a b=>by omega,.inl rfl,by omega⟩
end
section
variable {l l2:List Nd}
structure Fin2 (l l2:List Nd):Prop where
 c:ClOk l
 f:Fi l l2 l.length
 dis:∀ j k:Int,0<=j->j < k->k < l.length->(ix l j).2.1=(ix l k).2.1->∀ q,bt (ix l j).1 q -> ¬ bt (ix l k).1 q
 root:∀ k:Int,0<=k->k < l.length->(ix l k).2.1 < 0->k=0
theorem Fin2.chain (h:Fin2 l l2) {q:Int}:∀ (n:Nat) (i j:Int),j.toNat<=n->0<=i->i < j->j < l.length->(ix l2 i).2.2.2.1=false->(ix l2 j).2.2.2.1=false->bt (ix l i).1 q->bt (ix l j).1 q->∃ k:Int,i < k/\k<=j/\(ix l2 k).2.2.2.1=false/\(ix l k).2.1=i/\bt (ix l k).1 q:=by
 have gpar:∀ k:Int,0<=k->k < l.length->(ix l2 k).2.2.2.1=false->0<=(ix l k).2.1->(ix l2 (ix l k).2.1).2.2.2.1=false:=fun k k0 k1 hg hp=>by
  cases hh:(ix l2 (ix l k).2.1).2.2.2.1 with
  | false=>rfl
  | true=>have:=(h.f.gn k k0 k1).2 (.inr ⟨hp,.inl hh⟩);rw [hg] at this;cases this
 intro n
 induction n with
 | zero=>intro i j hn i0 hij;omega
 | succ n ih=>
  intro i j hn i0 hij hj gi gj qi qj;have pj:=h.c.p j (by omega) hj
  have pi:=h.c.p i i0 (by omega)
  have hpj:0<=(ix l j).2.1:=by
   have:=h.root j (by omega) hj
   omega
  have gpj:=gpar j (by omega) hj gj hpj
  have qpj:=h.c.sub j (by omega) hj hpj q qj
  by_cases e:(ix l j).2.1=i
  ·exact ⟨j,hij,Int.le_refl _,gj,e,qj⟩
  by_cases c:i < (ix l j).2.1
  ·obtain ⟨k,a,b,d⟩:=ih i (ix l j).2.1 (by omega) i0 c (by omega) gi gpj qi qpj
   exact ⟨k,a,by omega,d⟩
  exfalso;by_cases e2:(ix l i).2.1=(ix l j).2.1
  ·exact h.dis i j i0 hij hj e2 q qi qj
  by_cases c2:(ix l i).2.1 < (ix l j).2.1
  ·obtain ⟨k,a,b,_,d,f⟩:=ih (ix l j).2.1 i (by omega) hpj (by omega) (by omega) gpj gi qpj qi
   exact h.dis k j (by omega) (by omega) hj d q f qj
  ·have hpi:0<=(ix l i).2.1:=by omega
   obtain ⟨k,a,b,_,d,f⟩:=ih (ix l j).2.1 (ix l i).2.1 (by omega) hpj (by omega) (by omega) gpj (gpar i i0 (by omega) gi hpi) qpj (h.c.sub i i0 (by omega) hpi q qi)
   exact h.dis k j (by omega) (by omega) hj d q f qj
theorem Fin2.own (h:Fin2 l l2) {i:Int} (i0:0<=i) (i1:i < l.length) (g:(ix l2 i).2.2.2.1=false):∃ q,bt (ix l i).1 q/\∀ k:Int,0<=k->k < l.length->(ix l2 k).2.2.2.1=false->(ix l k).2.1=i -> ¬ bt (ix l k).1 q:=by
 have hne : ¬ (ix l i).1=0:=fun hz=>by
  have:=(h.f.gn i i0 i1).2 (.inl hz);rw [g] at this;cases this
 cases hf:(ix l2 i).2.2.2.2.1 with
 | true=>
  obtain ⟨q,hq⟩:=(zrS (h.c.b i i0 i1)).1 hne;refine ⟨q,hq,fun k k0 k1 gk ek => ?_⟩
  have:=(h.f.gn k k0 k1).2 (.inr ⟨by omega,.inr (by rw [ek];exact hf)⟩)
  rw [gk] at this;cases this
 | false=>
  obtain ⟨q,hq,hno⟩:=(h.f.fc i i0 i1).2 g hf;exact ⟨q,hq,fun k k0 k1 _ ek hk=>hno ⟨k,k0,k1,ek,hk⟩⟩
theorem Fin2.own_inj (h:Fin2 l l2) {q:Int} {i j:Int} (i0:0<=i) (hij:i < j) (j1:j < l.length) (gi:(ix l2 i).2.2.2.1=false) (gj:(ix l2 j).2.2.2.1=false) (qi:bt (ix l i).1 q) (qj:bt (ix l j).1 q)
  (hi:∀ k:Int,0<=k->k < l.length->(ix l2 k).2.2.2.1=false->(ix l k).2.1=i -> ¬ bt (ix l k).1 q):False:=by
 obtain ⟨k,a,b,c,d,e⟩:=h.chain _ i j (Nat.le_refl _) i0 hij j1 gi gj qi qj;exact hi k (by omega) (by omega) c d e
theorem Fin2.four (h:Fin2 l l2):kp l2 l.length<=4:=by
 have key:∀ t:Nat,t<=l.length->∃ Q:List Int,Q.Nodup/\(Q.length:Int)=kp l2 t/\∀ q∈Q,(0<=q/\q < 4)/\∃ i:Nat,i < t/\(ix l2 (i:Int)).2.2.2.1=false/\bt (ix l (i:Int)).1 q/\∀ k:Int,0<=k->k < l.length->(ix l2 k).2.2.2.1=false->(ix l k).2.1=i -> ¬ bt (ix l k).1 q:=by
  intro t
  induction t with
  | zero=>intro _;exact ⟨[],by simp,rfl,by simp⟩
  | succ t ih=>
   intro ht;obtain ⟨Q,h1,h2,h3⟩:=ih (by omega)
   cases hg:(ix l2 (t:Int)).2.2.2.1 with
   | true=>
    refine ⟨Q,h1,by rw [kp,if_pos hg];exact h2,fun q hq => ?_⟩
    obtain ⟨a,i,b,c⟩:=h3 q hq;exact ⟨a,i,by omega,c⟩
   | false=>
    obtain ⟨q,hq,hno⟩:=h.own (i:=(t:Int)) (by omega) (by omega) hg
    refine ⟨q::Q,?_,?_,fun p hp => ?_⟩
    ·rw [List.nodup_cons];refine ⟨fun hm => ?_,h1⟩
     obtain ⟨_,i,b,c,d,e⟩:=h3 q hm;exact h.own_inj (i:=(i:Int)) (j:=(t:Int)) (by omega) (by omega) (by omega) c hg d hq e
    ·rw [kp,if_neg (by simp [hg]),List.length_cons];omega
    ·rcases List.mem_cons.1 hp with rfl | hp
     ·exact ⟨hq.1,t,by omega,hg,hq,hno⟩
     ·obtain ⟨a,i,b,c⟩:=h3 p hp;exact ⟨a,i,by omega,c⟩
 obtain ⟨Q,h1,h2,h3⟩:=key l.length (Nat.le_refl _);have:=zqt (U:=[0,1,2,3]) h1 (fun q hq=>by
  have:=(h3 q hq).1;have:q=0\/q=1\/q=2\/q=3:=by omega
  rcases this with rfl | rfl | rfl | rfl<;>simp)
 simp at this;omega
end
abbrev Tv:=Int×(Int×Int×Int×Int×Unit)×(Int×Int×Int×Int×Unit)×Unit
abbrev Bv:=((Int×Int×Int×Int×Unit)×(Int×Int×Int×Int×Unit)×(Int×Int×Int×Int×Unit)×(Int×Int×Int×Int×Unit)×Unit)×Int×Unit
abbrev rL (t:Tv):List Int:=[t.2.1.1,t.2.1.2.1,t.2.1.2.2.1,t.2.1.2.2.2.1]
abbrev rA (t:Tv):List Int:=[t.2.2.1.1,t.2.2.1.2.1,t.2.2.1.2.2.1,t.2.2.1.2.2.2.1]
def Tr (t:Tv):Tre:=⟨t.1.toNat,fun i q=>bt ((rL t).getD i 0) q,fun i=>(rA t).getD i 0⟩
structure TOk (t:Tv):Prop where
 n:0<=t.1/\t.1<=4
 v:Vld (Tr t)
 b:∀ i,i < 4->B4 ((rL t).getD i 0)
 fill:∀ i:Nat,t.1<=i->i < 4->(rL t).getD i 0=0/\(rA t).getD i 0=0
 rt:0 < t.1->(rA t).getD 0 0 = -1
def nxB (b:Bv) (p letter:Int):Int:=vget (.int .i64) 4 (vget (.pair (.int .i64) (.pair (.int .i64) (.pair (.int .i64) (.pair (.int .i64) .unit)))) 4 b.1 p.toNat) letter.toNat
structure BOk (b:Bv) (letter:Int) (E:Int->Int->Prop) (F:Int->Prop):Prop where
 lt:0<=letter/\letter < 4
 e:∀ p:Int,0<=p->p < 4->B4 (nxB b p letter)/\∀ q,bt (nxB b p letter) q↔E p q
 f:B4 b.2.1/\∀ q,bt b.2.1 q↔F q
section
variable {b:Bv} {letter:Int} {E:Int->Int->Prop} {F:Int->Prop} {t:Tv}
theorem zzJ (hb:BOk b letter E F) {t1:Int} (t0:0<=t1) (t4:t1 < 4) {l:List Nd} (hl:l.length<=4) {r3:Int->List Nd->Option (Tv×Int×Unit)} {A:Int}:∀ (n:Nat) (k x:Int),(4 - k).toNat=n->0<=k->k<=4->B4 x->(∀ q,bt x q↔∃ p,p < k/\bt ((rL t).getD t1.toNat 0) p/\E p q)->
  ∃ y,B4 y/\(∀ q,bt y q↔∃ p,bt ((rL t).getD t1.toNat 0) p/\E p q)/\zaI b t letter t1 l r3 k x A true false false=r3 (t1+1) (l++[(y,A,true,false,false,())]):=by
 intro n
 induction n with
 | zero=>
  intro k x hn k0 k1 hx hq;refine ⟨x,hx,fun q=>(hq q).trans ⟨fun ⟨p,_,a⟩=>⟨p,a⟩,fun ⟨p,a,c⟩=>⟨p,by have:=a.1;omega,a,c⟩⟩,?_⟩
  rw [zdg];unfold zaB;rw [if_neg (by simp;omega),zab (by unfold room;simp;omega),zab (by unfold fits;omega)]
 | succ n ih=>
  intro k x hn k0 k1 hx hq;have hlt:=hb.lt;rw [zdg];unfold zaB zaQ;rw [if_pos (by simp;omega),zab (by omega),zab (by omega),zab (by omega)]
  have hbit:(iand .i64 (ishr .i64 ([t.2.1.1,t.2.1.2.1,t.2.1.2.2.1,t.2.1.2.2.2.1].getD ((t1).toNat) 0) k) (1:Int)=(1:Int))↔bt ((rL t).getD t1.toNat 0) k:=⟨fun h=>⟨by omega,h⟩,fun h=>h.2⟩
  by_cases c:bt ((rL t).getD t1.toNat 0) k
  ·obtain ⟨g1,g2⟩:=hb.e k k0 (by omega)
   obtain ⟨g3,g4⟩:=zxD hx g1;obtain ⟨y,h1,h2,h3⟩:=ih (k+1) _ (by omega) (by omega) (by omega) g3 (fun q=>by
    rw [g4,g2,hq];constructor
    ·rintro (⟨p,a,d,e⟩ | h)
     ·exact ⟨p,by omega,d,e⟩
     ·exact ⟨k,by omega,c,h⟩
    ·rintro ⟨p,a,d,e⟩;by_cases ep:p=k
     ·rw [ep] at e;exact .inr e
     ·exact .inl ⟨p,by omega,d,e⟩)
   refine ⟨y,h1,h2,?_⟩
   rw [if_pos (decide_eq_true (hbit.2 c)),zab (by omega),zab (by omega),zab (by unfold fits;omega)]
   exact h3
  ·obtain ⟨y,h1,h2,h3⟩:=ih (k+1) x (by omega) (by omega) (by omega) hx (fun q=>by
    rw [hq];constructor
    ·rintro ⟨p,a,d⟩;exact ⟨p,by omega,d⟩
    ·rintro ⟨p,a,d,e⟩;by_cases ep:p=k
     ·rw [ep] at d;exact absurd d c
     ·exact ⟨p,by omega,d,e⟩)
   refine ⟨y,h1,h2,?_⟩
   rw [if_neg (fun hh=>c (hbit.1 (of_decide_eq_true hh))),zab (by unfold fits;omega)]
   exact h3
structure St1 (t:Tv) (E:Int->Int->Prop) (l:List Nd) (n:Int):Prop where
 len:(l.length:Int)=n
 b:∀ i:Int,0<=i->i < n->B4 (ix l i).1
 lb:∀ i:Int,0<=i->i < n->∀ q,bt (ix l i).1 q↔∃ p,bt ((rL t).getD i.toNat 0) p/\E p q
 r:∀ i:Int,0<=i->i < n->(ix l i).2=((rA t).getD i.toNat 0,true,false,false,())
theorem zzI (hb:BOk b letter E F) (ht:TOk t):∀ (n:Nat) (k:Int) (l:List Nd),(t.1 - k).toNat=n->0<=k->k<=t.1->St1 t E l k->∃ l',St1 t E l' t.1/\zbj b t letter k l=za9 b t 0 l':=by
 have hn4:=ht.n;intro n
 induction n with
 | zero=>
  intro k l hn k0 k1 hs;obtain rfl:k=t.1:=by omega
  refine ⟨l,hs,?_⟩
  rw [zdf];unfold zaA;rw [if_neg (by simp)]
 | succ n ih=>
  intro k l hn k0 k1 hs;have hlen:=hs.len;obtain ⟨y,h1,h2,h3⟩:=zzJ (t:=t) hb k0 (by omega) (l:=l) (by omega) (r3:=zbj b t letter) (A:=(rA t).getD k.toNat 0) 4 0 0 rfl (by omega) (by omega) zcy.1 (fun q=>⟨fun h=>absurd h (zcy.2 q),fun ⟨p,a,c,_⟩=>by have:=c.1;omega⟩)
  have eo:∀ i:Int,0<=i->i < k->ix (l++[(y,(rA t).getD k.toNat 0,true,false,false,())]) i=ix l i:=fun i i0 i1=>zav i0 (by omega)
  have en:ix (l++[(y,(rA t).getD k.toNat 0,true,false,false,())]) k=(y,(rA t).getD k.toNat 0,true,false,false,()):=by rw [<- hlen];exact zaL
  obtain ⟨l',g1,g2⟩:=ih (k+1) (l++[(y,(rA t).getD k.toNat 0,true,false,false,())]) (by omega) (by omega) (by omega) ⟨by simp;omega,fun i i0 i1=>by
   by_cases e:i=k
   ·rw [e,en];exact h1
   ·rw [eo i i0 (by omega)];exact hs.b i i0 (by omega),fun i i0 i1=>by
   by_cases e:i=k
   ·rw [e,en];exact h2
   ·rw [eo i i0 (by omega)];exact hs.lb i i0 (by omega),fun i i0 i1=>by
   by_cases e:i=k
   ·rw [e,en]
   ·rw [eo i i0 (by omega)];exact hs.r i i0 (by omega)⟩
  refine ⟨l',g1,?_⟩
  rw [zdf];unfold zaA;rw [if_pos (by simp;omega),zab (by omega),zab (by omega)]
  exact h3.trans g2
structure St2 (b:Bv) (l0 l:List Nd) (n k:Int):Prop where
 len:n<=l.length/\l.length<=n+k
 old:∀ i:Int,0<=i->i < n->ix l i=ix l0 i
 new:∀ j:Int,n<=j->j < l.length->∃ i:Int,0<=i/\i < k/\ix l j=(iand .i64 (ix l0 i).1 b.2.1,i,false,false,false,())
 all:∀ i:Int,0<=i->i < k -> ¬ iand .i64 (ix l0 i).1 b.2.1=0->∃ j:Int,n<=j/\j < l.length/\(ix l j).2.1=i
theorem zyp (ht:TOk t) {l0:List Nd} (hl0:(l0.length:Int)=t.1):∀ (n:Nat) (k:Int) (l:List Nd),(t.1 - k).toNat=n->0<=k->k<=t.1->St2 b l0 l t.1 k->∃ l',St2 b l0 l' t.1 t.1/\za9 b t k l=(zfr l').bind (fun y'=>zar y' 0 y'):=by
 have hn4:=ht.n;intro n
 induction n with
 | zero=>
  intro k l hn k0 k1 hs;obtain rfl:k=t.1:=by omega
  refine ⟨l,hs,?_⟩
  rw [zcU];unfold zax;rw [if_neg (by simp)]
 | succ n ih=>
  intro k l hn k0 k1 hs;obtain ⟨ln1,ln2⟩:=hs.len;rw [zcU];unfold zax;rw [if_pos (by simp;omega),zab (by omega),zab (by omega),hs.old k k0 (by omega)]
  by_cases c:iand .i64 (ix l0 k).1 b.2.1=0
  ·rw [if_neg (by simpa using c),zab (by unfold fits;omega)]
   exact ih (k+1) l (by omega) (by omega) (by omega) ⟨⟨ln1,by omega⟩,hs.old,fun j j0 j1=>by
    obtain ⟨i,a,d,e⟩:=hs.new j j0 j1;exact ⟨i,a,by omega,e⟩,fun i i0 i1 hz=>by
    by_cases e:i=k
    ·rw [e] at hz;exact absurd c hz
    ·exact hs.all i i0 (by omega) hz⟩
  ·rw [if_pos (by simpa using c),zab (by unfold room;simp;omega),zab (by unfold fits;omega)]
   have eo:∀ i:Int,0<=i->i < l.length->ix (l++[(iand .i64 (ix l0 k).1 b.2.1,k,false,false,false,())]) i=ix l i:=fun i i0 i1=>zav i0 i1
   have en:ix (l++[(iand .i64 (ix l0 k).1 b.2.1,k,false,false,false,())]) (l.length:Int)=(iand .i64 (ix l0 k).1 b.2.1,k,false,false,false,()):=zaL;have hlen:(l++[(iand .i64 (ix l0 k).1 b.2.1,k,false,false,false,())]).length=l.length+1:=by simp
   exact ih (k+1) (l++[(iand .i64 (ix l0 k).1 b.2.1,k,false,false,false,())]) (by omega) (by omega) (by omega) ⟨⟨by omega,by omega⟩,fun i i0 i1=>by rw [eo i i0 (by omega)];exact hs.old i i0 i1,fun j j0 j1=>by
    by_cases e:j=l.length
    ·rw [e,en];exact ⟨k,k0,by omega,rfl⟩
    ·rw [eo j (by omega) (by omega)]
     obtain ⟨i,a,d,f⟩:=hs.new j j0 (by omega)
     exact ⟨i,a,by omega,f⟩,fun i i0 i1 hz=>by
    by_cases e:i=k
    ·exact ⟨l.length,by omega,by omega,by rw [en];exact e.symm⟩
    ·obtain ⟨j,a,d,f⟩:=hs.all i i0 (by omega) hz
     exact ⟨j,a,by omega,by rw [eo j (by omega) d];exact f⟩⟩
end
section
variable {b:Bv} {letter:Int} {E:Int->Int->Prop} {F:Int->Prop} {t:Tv}
structure Lists (t:Tv) (E:Int->Int->Prop) (F:Int->Prop) (l l2:List Nd):Prop where
 fin:Fin2 l l2
 len:t.1<=l.length/\l.length<=8
 pOld:∀ i:Int,0<=i->i < t.1->(ix l i).2.1=(rA t).getD i.toNat 0/\(ix l2 i).2.2.1=true
 pNew:∀ i:Int,t.1<=i->i < l.length->(0<=(ix l i).2.1/\(ix l i).2.1 < t.1)/\(ix l2 i).2.2.1=false
 cOld:∀ i:Int,0<=i->i < t.1->∀ q,bt (ix l i).1 q↔(∃ p,bt ((rL t).getD i.toNat 0) p/\E p q)/\(0<=(ix l i).2.1->bt (ix l (ix l i).2.1).1 q)/\∀ k:Int,0<=k->k < i->(ix l k).2.1=(ix l i).2.1 -> ¬ bt (ix l k).1 q
 cNew:∀ i:Int,t.1<=i->i < l.length->∀ q,bt (ix l i).1 q↔((∃ p,bt ((rL t).getD (ix l i).2.1.toNat 0) p/\E p q)/\F q)/\bt (ix l (ix l i).2.1).1 q/\∀ k:Int,0<=k->k < i->(ix l k).2.1=(ix l i).2.1 -> ¬ bt (ix l k).1 q
 new:∀ i:Int,0<=i->i < t.1->(∃ q,(∃ p,bt ((rL t).getD i.toNat 0) p/\E p q)/\F q)->∃ j:Int,t.1<=j/\j < l.length/\(ix l j).2.1=i
theorem zvH (hb:BOk b letter E F) (ht:TOk t):∃ l l2,Lists t E F l l2/\zbm b t letter=(zgU l2).bind (fun y=>some y):=by
 have hn4:=ht.n;obtain ⟨l0,s1,e1⟩:=zzI (t:=t) hb ht _ 0 [] rfl (Int.le_refl _) hn4.1 ⟨rfl,fun i a c=>by omega,fun i a c=>by omega,fun i a c=>by omega⟩
 obtain ⟨l1,s2,e2⟩:=zyp (b:=b) ht s1.len _ 0 l0 rfl (Int.le_refl _) hn4.1 ⟨⟨by rw [s1.len];omega,by rw [s1.len];omega⟩,fun _ _ _=>rfl,fun j a c=>by rw [s1.len] at c;omega,fun i a c=>by omega⟩
 obtain ⟨ln1,ln2⟩:=s2.len;have hv:=ht.v;have vn:(Tr t).n=t.1.toNat:=rfl;have p1:∀ i:Int,0<=i->i < t.1->(ix l1 i).2.1=(rA t).getD i.toNat 0:=fun i a c=>by rw [s2.old i a c,s1.r i a c]
 have pl:∀ k:Int,0<=k->k < l1.length->(ix l1 k).2.1 < k:=fun k a c=>by
  by_cases d:k < t.1
  ·rw [p1 k a d];have h1:=hv.par k.toNat (by rw [vn];omega)
   have h2:(Tr t).A k.toNat=(rA t).getD k.toNat 0:=rfl;omega
  ·obtain ⟨i,e,f,g⟩:=s2.new k (by omega) c
   rw [g];show i < k;omega
 have hok:NdOk l1:=⟨by omega,fun k a c=>by
  by_cases d:k < t.1
  ·rw [s2.old k a d];exact s1.b k a d
  ·obtain ⟨i,e,f,g⟩:=s2.new k (by omega) c
   rw [g];exact (zui (s1.b i e f) hb.f.1).1,pl⟩
 obtain ⟨l,e3,hc⟩:=zve hok;have hl:=hc.len;have flF:∀ k:Int,0<=k->k < l1.length->(ix l k).2.2.2.2.1=false:=fun k a c=>by
  rw [hc.fl k a c];by_cases d:k < t.1
  ·rw [s2.old k a d,s1.r k a d]
  ·obtain ⟨i,e,f,g⟩:=s2.new k (by omega) c
   rw [g]
 have hsub:∀ k:Int,0<=k->k < l.length->0<=(ix l k).2.1->∀ q,bt (ix l k).1 q->bt (ix l (ix l k).2.1).1 q:=fun k a c h0 q hq=>by
  rw [hc.pa k a (by omega)] at h0 ⊢
  exact ((hc.lb k a (by omega) q).1 hq).2.1 h0
 have hcl:ClOk l:=⟨by omega,fun k a c=>hc.b k a (by omega),fun k a c=>by rw [hc.pa k a (by omega)];exact pl k a (by omega),hsub⟩
 have hf0:Fi l l 0:=by
  refine ⟨rfl,fun _ _ _=>rfl,fun _ _ _=>rfl,fun _ _ _=>rfl,fun k a c => ?_,fun k a c=>flF k a (by omega),fun k a c=>by omega⟩
  rw [hc.gn k a (by omega)]
  refine ⟨.inl,fun h=>h.elim id fun ⟨h0,h1⟩ => ?_⟩
  have hpk:=hcl.p k a c;rcases h1 with h1 | h1
  ·have hz:=(hc.gn _ h0 (by omega)).1 h1
   refine Classical.byContradiction fun hne => ?_
   obtain ⟨q,hq⟩:=(zrS (hcl.b k a c)).1 hne;have:=hsub k a c h0 q hq;rw [hz] at this;exact zcy.2 q this
  ·rw [flF _ h0 (by omega)] at h1;cases h1
 obtain ⟨l2,hf,e4⟩:=zvo hcl rfl _ 0 l rfl (Int.le_refl _) (by omega) hf0
 refine ⟨l,l2,⟨⟨hcl,hf,fun j k a c d e q hj hk => ?_,fun k a c d => ?_⟩,by omega,fun i a c=>⟨?_,?_⟩,fun i a c => ?_,fun i a c q => ?_,fun i a c q => ?_,fun i a c hq => ?_⟩,?_⟩
 ·rw [hc.pa j a (by omega),hc.pa k (by omega) (by omega)] at e
  exact ((hc.lb k (by omega) (by omega) q).1 hk).2.2 j a c e hj
 ·rw [hc.pa k a (by omega)] at d
  by_cases e:k < t.1
  ·rw [p1 k a e] at d;have h1:=(hv.root k.toNat (by rw [vn];omega)).1 d
   omega
  ·obtain ⟨i,e,f,g⟩:=s2.new k (by omega) (by omega)
   rw [g] at d;have d:i < 0:=d;omega
 ·rw [hc.pa i a (by omega)];exact p1 i a c
 ·rw [hf.ol i a (by omega),hc.ol i a (by omega),s2.old i a c,s1.r i a c]
 ·obtain ⟨i',e,f,g⟩:=s2.new i a (by omega)
  rw [hc.pa i (by omega) (by omega),hf.ol i (by omega) (by omega),hc.ol i (by omega) (by omega),g]
  exact ⟨⟨e,f⟩,rfl⟩
 ·rw [hc.lb i a (by omega) q,hc.pa i a (by omega),s2.old i a c,s1.lb i a c q]
  refine and_congr Iff.rfl (and_congr Iff.rfl (forall_congr' fun k=>forall_congr' fun k0=>forall_congr' fun k1 => ?_))
  rw [hc.pa k k0 (by omega),s2.old k k0 (by omega)]
 ·obtain ⟨i',e,f,g⟩:=s2.new i a (by omega)
  have gP:(ix l i).2.1=i':=by rw [hc.pa i (by omega) (by omega),g]
  have gP1:(ix l1 i).2.1=i':=by rw [g]
  rw [hc.lb i (by omega) (by omega) q,gP,gP1]
  obtain ⟨_,a2⟩:=zui (s1.b i' e f) hb.f.1;have gL:bt (ix l1 i).1 q↔(∃ p,bt ((rL t).getD i'.toNat 0) p/\E p q)/\F q:=by
   rw [g];exact (a2 q).trans (and_congr (s1.lb i' e f q) (hb.f.2 q))
  rw [gL];refine and_congr Iff.rfl (and_congr ⟨fun h=>h e,fun h _=>h⟩ (forall_congr' fun k=>forall_congr' fun k0=>forall_congr' fun k1 => ?_))
  rw [hc.pa k k0 (by omega)]
 ·obtain ⟨a1,a2⟩:=zui (s1.b i a c) hb.f.1;obtain ⟨q,hq1,hq2⟩:=hq;obtain ⟨j,j0,j1,j2⟩:=s2.all i a c ((zrS a1).2 ⟨q,(a2 q).2 ⟨(s1.lb i a c q).2 hq1,(hb.f.2 q).2 hq2⟩⟩);exact ⟨j,j0,by omega,by rw [hc.pa j (by omega) (by omega)];exact j2⟩
 ·unfold zbm;rw [e1,e2,e3];exact e4
theorem zxp (hb:BOk b letter E F) (ht:TOk t):∃ t' m d,zbm b t letter=some (t',m,())/\TOk t'/\(1<=m/\m<=9)/\IsStep E F (Tr t) d (Tr t') m:=by
 have hn4:=ht.n;obtain ⟨l,l2,hL,e⟩:=zvH hb ht;obtain ⟨ln1,ln2⟩:=hL.len;have hfin:=hL.fin;have hf:=hfin.f;have hl2:=hf.len;have four:=hfin.four;have gpar:∀ k:Int,0<=k->k < l.length -> ¬ (ix l2 k).2.2.2.1=true->0<=(ix l k).2.1 -> ¬ (ix l2 (ix l k).2.1).2.2.2.1=true:=fun k k0 k1 hg hp hh=>hg ((hf.gn k k0 k1).2 (.inr ⟨hp,.inl hh⟩))
 obtain ⟨L,A,N,m,hT,hM,e2⟩:=zxt (l:=l2) (by omega) (fun k a c=>by rw [hf.pa k a (by omega)];exact hfin.c.p k a (by omega)) (fun k a c g h0=>by
  rw [hf.pa k a (by omega)] at h0 ⊢
  exact gpar k a (by omega) g h0) (by rw [hl2];exact four)
 rw [hl2] at e2 hT hM;have hLl:=hT.lL;have hAl:=hT.lA;have hkp:=znu (l:=l2) l.length;have lab:∀ i:Nat,i < l.length -> ¬ (ix l2 (i:Int)).2.2.2.1=true->ix L (kp l2 i)=(ix l (i:Int)).1:=fun i a c=>(hT.lab i a c).trans (hf.lb i (by omega) (by omega))
 have abv:∀ i:Nat,i < l.length -> ¬ (ix l2 (i:Int)).2.2.2.1=true->ix A (kp l2 i)=if 0<=(ix l (i:Int)).2.1 then kp l2 (ix l (i:Int)).2.1.toNat else -1:=fun i a c=>by
  have:=hT.abv i a c
  rwa [hf.pa i (by omega) (by omega)] at this
 have kp4:∀ i:Nat,i < l.length -> ¬ (ix l2 (i:Int)).2.2.2.1=true->0<=kp l2 i/\kp l2 i < kp l2 l.length:=fun i a c=>⟨(znu i).1,zx2 a c⟩
 let t':Tv:=(kp l2 l.length,(L.getD 0 0,L.getD 1 0,L.getD 2 0,L.getD 3 0,()),(A.getD 0 0,A.getD 1 0,A.getD 2 0,A.getD 3 0,()),())
 let d:SD:=⟨l.length,fun i q=>bt (ix l (i:Int)).1 q,fun i=>(ix l (i:Int)).2.1,fun i=>(ix l2 (i:Int)).2.2.2.1=true,fun i=>(ix l2 (i:Int)).2.2.2.2.1=true,fun i=>(kp l2 i).toNat⟩
 have tL:∀ k:Nat,(rL t').getD k 0=ix L (k:Int):=fun k=>by
  show [L.getD 0 0,L.getD 1 0,L.getD 2 0,L.getD 3 0].getD k 0=_;rw [ztG hLl];rfl
 have tA:∀ k:Nat,(rA t').getD k 0=ix A (k:Int):=fun k=>by
  show [A.getD 0 0,A.getD 1 0,A.getD 2 0,A.getD 3 0].getD k 0=_;rw [ztG hAl];rfl
 have hstep:IsStep E F (Tr t) d (Tr t') m:=by
  have vn:(Tr t).n=t.1.toNat:=rfl;have vn':(Tr t').n=(kp l2 l.length).toNat:=rfl;refine { hN := ?_,pOld := ?_,pNew := ?_,cOld := ?_,cNew := ?_,new := ?_,gNot := ?_,gRoot := ?_,gEmp := ?_,gFl := ?_,gPar := ?_,flU := ?_,flN := ?_,nuS := ?_,nuI := ?_,nuLe := ?_,nuEq := ?_,nuLt := ?_,onto := ?_,lab := ?_,abv := ?_,mGone := ?_,mFl := ?_,mIs := ?_ }
  ·show t.1.toNat<=l.length;omega
  ·intro i hi;rw [vn] at hi;exact (hL.pOld i (by omega) (by omega)).1
  ·intro i hi hd;have hd:i < l.length:=hd;rw [vn] at hi;have:=(hL.pNew i (by omega) (by omega)).1
   show 0<=(ix l (i:Int)).2.1/\(ix l (i:Int)).2.1 < (t.1.toNat:Int);omega
  ·intro i hi q;rw [vn] at hi;refine (hL.cOld i (by omega) (by omega) q).trans (and_congr Iff.rfl (and_congr ?_ ?_))
   ·refine forall_congr' fun h0 => ?_
    show _↔bt (ix l (((ix l (i:Int)).2.1.toNat:Nat):Int)).1 q;rw [Int.toNat_of_nonneg h0]
   ·exact ⟨fun h k hk hp=>h k (by omega) (by omega) hp,fun h k k0 k1 hp=>by
     have:=h k.toNat (by omega) (by show (ix l ((k.toNat:Nat):Int)).2.1=_;rw [Int.toNat_of_nonneg k0];exact hp)
     have this : ¬ bt (ix l ((k.toNat:Nat):Int)).1 q:=this
     rwa [Int.toNat_of_nonneg k0] at this⟩
  ·intro i hi hd q;have hd:i < l.length:=hd;rw [vn] at hi;have h0:=(hL.pNew i (by omega) (by omega)).1
   refine (hL.cNew i (by omega) (by omega) q).trans (and_congr Iff.rfl (and_congr ?_ ?_))
   ·show _↔bt (ix l (((ix l (i:Int)).2.1.toNat:Nat):Int)).1 q;rw [Int.toNat_of_nonneg h0.1]
   ·exact ⟨fun h k hk hp=>h k (by omega) (by omega) hp,fun h k k0 k1 hp=>by
     have:=h k.toNat (by omega) (by show (ix l ((k.toNat:Nat):Int)).2.1=_;rw [Int.toNat_of_nonneg k0];exact hp)
     have this : ¬ bt (ix l ((k.toNat:Nat):Int)).1 q:=this
     rwa [Int.toNat_of_nonneg k0] at this⟩
  ·intro i hi hq;rw [vn] at hi;obtain ⟨j,j0,j1,j2⟩:=hL.new i (by omega) (by omega) hq
   exact ⟨j.toNat,by rw [vn];omega,by show j.toNat < l.length;omega,by show (ix l ((j.toNat:Nat):Int)).2.1=_;rw [Int.toNat_of_nonneg (by omega)];exact j2⟩
  ·intro i hd hq h0 hg hfl hgi;have hd:i < l.length:=hd;have h0:0<=(ix l (i:Int)).2.1:=h0;have hg : ¬ (ix l2 (((ix l (i:Int)).2.1.toNat:Nat):Int)).2.2.2.1=true:=hg;have hfl : ¬ (ix l2 (((ix l (i:Int)).2.1.toNat:Nat):Int)).2.2.2.2.1=true:=hfl;rw [Int.toNat_of_nonneg h0] at hg hfl;rcases (hf.gn i (by omega) (by omega)).1 hgi with h | ⟨_,h | h⟩
   ·exact (zrS (hfin.c.b i (by omega) (by omega))).2 hq h
   ·exact hg h
   ·exact hfl h
  ·intro i hd hq h0 hgi;have hd:i < l.length:=hd;have h0:(ix l (i:Int)).2.1 < 0:=h0;rcases (hf.gn i (by omega) (by omega)).1 hgi with h | ⟨h,_⟩
   ·exact (zrS (hfin.c.b i (by omega) (by omega))).2 hq h
   ·omega
  ·intro i hd hg;have hd:i < l.length:=hd;exact (zrS (hfin.c.b i (by omega) (by omega))).1 fun hz=>hg ((hf.gn i (by omega) (by omega)).2 (.inl hz))
  ·intro i hd h0 hfl;have hd:i < l.length:=hd;have h0:0<=(ix l (i:Int)).2.1:=h0;have hfl:(ix l2 (((ix l (i:Int)).2.1.toNat:Nat):Int)).2.2.2.2.1=true:=hfl;rw [Int.toNat_of_nonneg h0] at hfl;exact (hf.gn i (by omega) (by omega)).2 (.inr ⟨h0,.inr hfl⟩)
  ·intro i hd h0 hg hgp;have hd:i < l.length:=hd;have h0:0<=(ix l (i:Int)).2.1:=h0;have hgp:(ix l2 (((ix l (i:Int)).2.1.toNat:Nat):Int)).2.2.2.1=true:=hgp;rw [Int.toNat_of_nonneg h0] at hgp;exact hg ((hf.gn i (by omega) (by omega)).2 (.inr ⟨h0,.inl hgp⟩))
  ·intro i hd hfl q hq;have hd:i < l.length:=hd;obtain ⟨j,j0,j1,j2,j3⟩:=(hf.fc i (by omega) (by omega)).1 hfl q hq
   exact ⟨j.toNat,by show j.toNat < l.length;omega,by show (ix l ((j.toNat:Nat):Int)).2.1=_;rw [Int.toNat_of_nonneg (by omega)];exact j2,by show bt (ix l ((j.toNat:Nat):Int)).1 q;rw [Int.toNat_of_nonneg (by omega)];exact j3⟩
  ·intro i hd hg hfl;have hd:i < l.length:=hd;have hg : ¬ (ix l2 (i:Int)).2.2.2.1=true:=hg;have hfl : ¬ (ix l2 (i:Int)).2.2.2.2.1=true:=hfl;obtain ⟨q,hq,hno⟩:=(hf.fc i (by omega) (by omega)).2 (by simpa using hg) (by simpa using hfl)
   refine ⟨q,hq,fun k hk hp hh=>hno ⟨k,by omega,?_,hp,hh⟩⟩
   have hk:k < l.length:=hk;omega
  ·intro i hd hg;have hd:i < l.length:=hd;have:=kp4 i hd hg;show (kp l2 i).toNat < (kp l2 l.length).toNat;omega
  ·intro i j hij hd hg _;have:=zx2 (l:=l2) hij hg;have:=(znu (l:=l2) i).1;show (kp l2 i).toNat < (kp l2 j).toNat;omega
  ·intro i;have:=znu (l:=l2) i;show (kp l2 i).toNat<=i;omega
  ·intro i hd hg;have:=kp_eq (l:=l2) hg;show (kp l2 i).toNat=i;omega
  ·intro i j hij hd hg;have:=zzs (l:=l2) hij hg;have:=(znu (l:=l2) i).1;show (kp l2 i).toNat < i;omega
  ·intro k hk;rw [vn'] at hk;obtain ⟨i,a,c,f⟩:=ztD (l:=l2) (t:=l.length) (k:=(k:Int)) (by omega) (by omega)
   exact ⟨i,a,c,by show (kp l2 i).toNat=k;omega⟩
  ·intro i hd hg q;have hd:i < l.length:=hd;have:=kp4 i hd hg;show bt ((rL t').getD (kp l2 i).toNat 0) q↔_;rw [tL,Int.toNat_of_nonneg this.1,lab i hd hg]
  ·intro i hd hg;have hd:i < l.length:=hd;have:=kp4 i hd hg;show (rA t').getD (kp l2 i).toNat 0=if 0<=(ix l (i:Int)).2.1 then (((kp l2 (ix l (i:Int)).2.1.toNat).toNat:Nat):Int) else -1
   rw [tA,Int.toNat_of_nonneg this.1,abv i hd hg];have:=(znu (l:=l2) (ix l (i:Int)).2.1.toNat).1
   split<;>omega
  ·intro i hi hg;rw [vn] at hi;exact hM.gone i (by omega) (by omega) (hL.pOld i (by omega) (by omega)).2 hg
  ·intro i hi hfl hg;rw [vn] at hi;have hg : ¬ (ix l2 (i:Int)).2.2.2.1=true:=hg;exact hM.fl i (by omega) (by omega) (hL.pOld i (by omega) (by omega)).2 (by simpa using hg) hfl
  ·rcases hM.is with h | ⟨i,⟨i0,i1⟩,ho,hg,h⟩ | ⟨i,⟨i0,i1⟩,ho,hg,hfl,h⟩
   ·exact .inl h
   ·have hlt:i < t.1:=Classical.byContradiction fun hno=>by
     have:=(hL.pNew i (by omega) (by omega)).2;rw [ho] at this;cases this
    refine .inr (.inl ⟨i.toNat,by rw [vn];omega,?_,by omega⟩)
    show (ix l2 ((i.toNat:Nat):Int)).2.2.2.1=true;rw [Int.toNat_of_nonneg i0];exact hg
   ·have hlt:i < t.1:=Classical.byContradiction fun hno=>by
     have:=(hL.pNew i (by omega) (by omega)).2;rw [ho] at this;cases this
    refine .inr (.inr ⟨i.toNat,by rw [vn];omega,?_,?_,by omega⟩)
    ·show ¬ (ix l2 ((i.toNat:Nat):Int)).2.2.2.1=true;rw [Int.toNat_of_nonneg i0,hg];simp
    ·show (ix l2 ((i.toNat:Nat):Int)).2.2.2.2.1=true;rw [Int.toNat_of_nonneg i0];exact hfl
 refine ⟨t',m,d,?_,⟨⟨hkp.1,by omega⟩,hstep.vld ht.v,fun i hi => ?_,fun i h0 h4 => ?_,fun h0 => ?_⟩,⟨?_,hM.le⟩,hstep⟩
 ·rw [e,e2];rfl
 ·rw [tL];by_cases c:(i:Int) < kp l2 l.length
  ·obtain ⟨j,a,c2,f⟩:=ztD (l:=l2) (t:=l.length) (k:=(i:Int)) (by omega) c
   rw [<- f,lab j a c2];exact hfin.c.b j (by omega) (by omega)
  ·rw [(hT.fill i (by omega) (by omega)).1];exact zcy.1
 ·rw [tL,tA];have h0:kp l2 l.length<=(i:Int):=h0;exact hT.fill i (by omega) (by omega)
 ·have h0:0 < kp l2 l.length:=h0;obtain ⟨j,a,c2,f⟩:=ztD (l:=l2) (t:=l.length) (k:=0) (by omega) h0
  have h1:=abv j a c2;rw [f] at h1;have h2:(rA t').getD 0 0=ix A 0:=tA 0;rw [h2,h1];by_cases c:0<=(ix l (j:Int)).2.1
  ·exfalso;have hp:=hfin.c.p (j:Int) (by omega) (by omega)
   have hg:=gpar (j:Int) (by omega) (by omega) c2 c
   rw [<- Int.toNat_of_nonneg c] at hg;have:=zx2 (l:=l2) (s:=(ix l (j:Int)).2.1.toNat) (t:=j) (by omega) hg
   have:=(znu (l:=l2) (ix l (j:Int)).2.1.toNat).1;omega
  ·rw [if_neg c]
 ·rcases hM.is with h | ⟨i,⟨i0,i1⟩,ho,hg,h⟩ | ⟨i,⟨i0,i1⟩,ho,hg,hfl,h⟩<;>omega
end
open Classical in
def topN (P:Nat->Prop):Nat->Nat
 | 0=>0
 | n+1=>if P n then n+1 else topN P n
section
variable {P:Nat->Prop}
theorem zxv:∀ n,topN P n<=n
 | 0=>Nat.le_refl _
 | n+1=>by have:=zxv n;unfold topN;split<;>omega
theorem zt7 {i:Nat} (h:P i):∀ n,i < n->i+1<=topN P n
 | 0,hn=>by omega
 | n+1,hn=>by
  unfold topN;by_cases c:P n
  ·rw [if_pos c];omega
  ·rw [if_neg c];by_cases e:i=n
   ·rw [e] at h;exact absurd h c
   ·exact zt7 h n (by omega)
theorem zrM {i:Nat}:∀ n,topN P n=i+1->i < n/\P i
 | 0,h=>by unfold topN at h;omega
 | n+1,h=>by
  unfold topN at h;by_cases c:P n
  ·rw [if_pos c] at h;have:i=n:=by omega
   rw [this];exact ⟨by omega,c⟩
  ·rw [if_neg c] at h;have:=zrM n h;exact ⟨by omega,this.2⟩
end
section
variable {T T':Tre}
theorem Vld.chain (h:Vld T) {q:Int}:∀ (n i j:Nat),j<=n->i < j->j < T.n->T.L i q->T.L j q->∃ k,i < k/\k<=j/\T.A k=i/\T.L k q:=by
 intro n
 induction n with
 | zero=>intro i j hn hij;omega
 | succ n ih=>
  intro i j hn hij hj qi qj;have pj:=h.par j hj;have pi:=h.par i (by omega)
  have rj:0<=T.A j:=by
   have:=(h.root j hj).1;omega
  have qpj:=h.sub j hj rj q qj;by_cases e:T.A j=i
  ·exact ⟨j,hij,Nat.le_refl _,e,qj⟩
  by_cases c:(i:Int) < T.A j
  ·obtain ⟨k,a,b,d⟩:=ih i (T.A j).toNat (by omega) (by omega) (by omega) qi qpj
   exact ⟨k,a,by omega,d⟩
  exfalso;by_cases e2:T.A i=T.A j
  ·exact h.dis i j hij hj e2 q qi qj
  by_cases c2:T.A i < T.A j
  ·obtain ⟨k,a,b,d,f⟩:=ih (T.A j).toNat i (by omega) (by omega) (by omega) qpj qi
   exact h.dis k j (by omega) hj (by omega) q f qj
  ·obtain ⟨k,a,b,d,f⟩:=ih (T.A j).toNat (T.A i).toNat (by omega) (by omega) (by omega) qpj (h.sub i (by omega) (by omega) q qi)
   exact h.dis k j (by omega) hj (by omega) q f qj
theorem Vld.owned (h:Vld T) {i:Nat} (hi:i < T.n):∃ q,T.L i q/\topN (fun j=>T.L j q) T.n=i+1:=by
 obtain ⟨q,hq,hno⟩:=h.str i hi;refine ⟨q,hq,?_⟩
 have h1:=zt7 (P:=fun j=>T.L j q) hq T.n hi
 obtain ⟨o,ho⟩:∃ o,topN (fun j=>T.L j q) T.n=o+1:=⟨_,(Nat.succ_pred (by omega)).symm⟩
 obtain ⟨a,b⟩:=zrM _ ho;by_cases e:o=i
 ·rw [ho,e]
 ·obtain ⟨k,c,d,f,g⟩:=h.chain _ i o (Nat.le_refl _) (by omega) a hq b
  exact absurd g (hno k (by omega) f)
theorem Vld.same (h:Vld T) (h':Vld T') (hn:T.n=T'.n) (hA:∀ i,i < T.n->T.A i=T'.A i) {q:Int} (ho:topN (fun j=>T.L j q) T.n=topN (fun j=>T'.L j q) T'.n) {i:Nat} (hi:i < T.n) (hq:T.L i q):T'.L i q:=by
 have h1:=zt7 (P:=fun j=>T.L j q) hq T.n hi
 obtain ⟨o,e⟩:∃ o,topN (fun j=>T.L j q) T.n=o+1:=⟨_,(Nat.succ_pred (by omega)).symm⟩
 obtain ⟨a,b⟩:=zrM _ e;rw [e] at ho;obtain ⟨a',b'⟩:=zrM _ ho.symm;have key:∀ (n i:Nat),o - i<=n->i<=o->T.L i q->T'.L i q:=by
  intro n
  induction n with
  | zero=>
   intro i hn hio hq;obtain rfl:i=o:=by omega
   exact b'
  | succ n ih=>
   intro i hn hio hq;by_cases e2:i=o
   ·rw [e2];exact b'
   ·obtain ⟨k,c,d,f,g⟩:=h.chain _ i o (Nat.le_refl _) (by omega) a hq b
    have g':=ih k (by omega) d g
    have f':T'.A k=i:=by rw [<- hA k (by omega)];exact f
    have:=h'.sub k (by omega) (by omega) q g'
    rwa [f',Int.toNat_natCast] at this
 exact key _ i (Nat.le_refl _) (by omega) hq
end
def own (t:Tv) (q:Int):Int:=(topN (fun j=>(Tr t).L j q) (Tr t).n:Int)
def zeY (t:Tv):Int:=
 if t.1=0 then 0 else if t.1=1 then 1+(own t 0+2 * own t 1+4 * own t 2+8 * own t 3) else if t.1=2 then 17+(own t 0+3 * own t 1+9 * own t 2+27 * own t 3)
 else if t.1=3 then 98+((rA t).getD 2 0 * 256+(own t 0+4 * own t 1+16 * own t 2+64 * own t 3))
 else 610+(((rA t).getD 2 0 * 3+(rA t).getD 3 0) * 256+(own t 0 - 1+4 * (own t 1 - 1)+16 * (own t 2 - 1)+64 * (own t 3 - 1)))
def zAv (a b c d:Fin 5):Bool := !((a==1 || b==1 || c==1 || d==1) && (a==2 || b==2 || c==2 || d==2) && (a==3 || b==3 || c==3 || d==3) && (a==4 || b==4 || c==4 || d==4)) || (a != 0 && b != 0 && c != 0 && d != 0)
theorem zxP:∀ a b c d:Fin 5,zAv a b c d=true:=by decide+kernel
theorem zxO {a b c d:Int} (ha:0<=a/\a<=4) (hb:0<=b/\b<=4) (hc:0<=c/\c<=4) (hd:0<=d/\d<=4) (h:∀ i:Int,1<=i->i<=4->a=i\/b=i\/c=i\/d=i):1<=a/\1<=b/\1<=c/\1<=d:=by
 have to:∀ {x:Int} (hx:0<=x/\x<=4),∃ y:Fin 5,x=(y.val:Int):=fun {x} hx=>⟨⟨x.toNat,by omega⟩,by show x=(x.toNat:Int);omega⟩
 obtain ⟨a,rfl⟩:=to ha;obtain ⟨b,rfl⟩:=to hb;obtain ⟨c,rfl⟩:=to hc;obtain ⟨d,rfl⟩:=to hd;have eqv:∀ (x:Fin 5) (k:Nat) (hk:k < 5),(x.val:Int)=(k:Int)->x=⟨k,hk⟩:=fun x k hk e=>Fin.ext (by show x.val=k;omega)
 have conv:∀ (k:Nat) (hk:k < 5),1<=k->(a=⟨k,hk⟩\/b=⟨k,hk⟩\/c=⟨k,hk⟩\/d=⟨k,hk⟩):=fun k hk h1=>(h (k:Int) (by omega) (by omega)).imp (eqv a k hk) (Or.imp (eqv b k hk) (Or.imp (eqv c k hk) (eqv d k hk)))
 have k:=zxP a b c d;have c1:=conv 1 (by omega) (by omega)
 have c2:=conv 2 (by omega) (by omega)
 have c3:=conv 3 (by omega) (by omega)
 have c4:=conv 4 (by omega) (by omega)
 have c1:(a=1\/b=1\/c=1\/d=1):=c1;have c2:(a=2\/b=2\/c=2\/d=2):=c2;have c3:(a=3\/b=3\/c=3\/d=3):=c3;have c4:(a=4\/b=4\/c=4\/d=4):=c4;have k:(¬ ((a=1\/b=1\/c=1\/d=1)/\(a=2\/b=2\/c=2\/d=2)/\(a=3\/b=3\/c=3\/d=3)/\(a=4\/b=4\/c=4\/d=4)))\/(a≠0/\b≠0/\c≠0/\d≠0):=by
  unfold zAv at k;simp only [Bool.or_eq_true,Bool.and_eq_true,Bool.not_eq_true',beq_iff_eq,bne_iff_ne,ne_eq,Bool.and_eq_false_iff,Bool.or_eq_false_iff,beq_eq_false_iff_ne] at k;rcases k with k | k
  ·left
   rintro ⟨g1,g2,g3,g4⟩;rcases k with ((k | k) | k) | k
   ·rcases g1 with g | g | g | g
    ·exact k.1.1.1 g
    ·exact k.1.1.2 g
    ·exact k.1.2 g
    ·exact k.2 g
   ·rcases g2 with g | g | g | g
    ·exact k.1.1.1 g
    ·exact k.1.1.2 g
    ·exact k.1.2 g
    ·exact k.2 g
   ·rcases g3 with g | g | g | g
    ·exact k.1.1.1 g
    ·exact k.1.1.2 g
    ·exact k.1.2 g
    ·exact k.2 g
   ·rcases g4 with g | g | g | g
    ·exact k.1.1.1 g
    ·exact k.1.1.2 g
    ·exact k.1.2 g
    ·exact k.2 g
  ·right;exact ⟨k.1.1.1,k.1.1.2,k.1.2,k.2⟩
 obtain ⟨h1,h2,h3,h4⟩:=k.resolve_left (fun hh=>hh ⟨c1,c2,c3,c4⟩)
 have pos:∀ {x:Fin 5},x≠0->1<=(x.val:Int):=fun {x} hx=>by
  have:x.val≠0:=fun e=>hx (Fin.ext e)
  omega
 exact ⟨pos h1,pos h2,pos h3,pos h4⟩
section
variable {t t':Tv}
theorem ziB (h:TOk t) (q:Int):0<=own t q/\own t q<=t.1:=by
 have:=zxv (P:=fun j=>(Tr t).L j q) (Tr t).n
 have hn:=h.n;have e:(Tr t).n=t.1.toNat:=rfl;unfold own;omega
theorem zya (h:TOk t) (h4:t.1=4):1<=own t 0/\1<=own t 1/\1<=own t 2/\1<=own t 3:=by
 have b:=fun q=>ziB h q
 refine zxO (by have:=b 0;omega) (by have:=b 1;omega) (by have:=b 2;omega) (by have:=b 3;omega) fun i i1 i4 => ?_
 have e:(Tr t).n=t.1.toNat:=rfl;obtain ⟨q,hq,ho⟩:=h.v.owned (i:=(i - 1).toNat) (by omega)
 have ho:own t q=i:=by unfold own;omega
 have:q=0\/q=1\/q=2\/q=3:=by have:=hq.1;omega
 rcases this with rfl | rfl | rfl | rfl
 ·exact .inl ho
 ·exact .inr (.inl ho)
 ·exact .inr (.inr (.inl ho))
 ·exact .inr (.inr (.inr ho))
theorem zxB (h:TOk t) {i:Nat} (i0:0 < i) (i1:(i:Int) < t.1):0<=(rA t).getD i 0/\(rA t).getD i 0 < i:=by
 have e:(Tr t).n=t.1.toNat:=rfl;have h1:=h.v.par i (by omega)
 have h2:=h.v.root i (by omega)
 have e2:(Tr t).A i=(rA t).getD i 0:=rfl;rw [e2] at h1 h2;omega
theorem zqN (h:TOk t):(t.1=0/\zeY t=0)\/(t.1=1/\zeY t=1+(own t 0+2 * own t 1+4 * own t 2+8 * own t 3)/\zeY t < 17)\/(t.1=2/\zeY t=17+(own t 0+3 * own t 1+9 * own t 2+27 * own t 3)/\zeY t < 98)\/
  (t.1=3/\zeY t=98+((rA t).getD 2 0 * 256+(own t 0+4 * own t 1+16 * own t 2+64 * own t 3))/\zeY t < 610/\(0<=(rA t).getD 2 0/\(rA t).getD 2 0 < 2))\/
  (t.1=4/\zeY t=610+(((rA t).getD 2 0 * 3+(rA t).getD 3 0) * 256+(own t 0 - 1+4 * (own t 1 - 1)+16 * (own t 2 - 1)+64 * (own t 3 - 1)))/\zeY t < 2146/\(0<=(rA t).getD 2 0/\(rA t).getD 2 0 < 2)/\(0<=(rA t).getD 3 0/\(rA t).getD 3 0 < 3)/\1<=own t 0/\1<=own t 1/\1<=own t 2/\1<=own t 3):=by
 have hn:=h.n;have b0:=ziB h 0;have b1:=ziB h 1;have b2:=ziB h 2;have b3:=ziB h 3;unfold zeY;by_cases c0:t.1=0
 ·exact .inl ⟨c0,if_pos c0⟩
 rw [if_neg c0];by_cases c1:t.1=1
 ·rw [if_pos c1];exact .inr (.inl ⟨c1,rfl,by omega⟩)
 rw [if_neg c1];by_cases c2:t.1=2
 ·rw [if_pos c2];exact .inr (.inr (.inl ⟨c2,rfl,by omega⟩))
 rw [if_neg c2];have a2:=zxB h (i:=2) (by omega) (by omega)
 generalize (rA t).getD 2 0=x2 at *
 by_cases c3:t.1=3
 ·rw [if_pos c3];exact .inr (.inr (.inr (.inl ⟨c3,rfl,by omega,by omega⟩)))
 rw [if_neg c3];have a3:=zxB h (i:=3) (by omega) (by omega)
 generalize (rA t).getD 3 0=x3 at *
 have f:=zya h (by omega)
 exact .inr (.inr (.inr (.inr ⟨by omega,rfl,by omega,by omega,by omega,f⟩)))
theorem zy5 (h:TOk t):0<=zeY t/\zeY t < 2146:=by
 have b0:=ziB h 0;have b1:=ziB h 1;have b2:=ziB h 2;have b3:=ziB h 3;have:=zqN h;generalize (rA t).getD 2 0=x2 at *
 generalize (rA t).getD 3 0=x3 at *
 generalize zeY t=c at *
 rcases this with ⟨_,h1⟩ | ⟨_,h1,h2⟩ | ⟨_,h1,h2⟩ | ⟨_,h1,h2,h3⟩ | ⟨_,h1,h2,h3,h4,h5⟩<;>omega
theorem zv4 (h:TOk t) (h':TOk t') (e:zeY t=zeY t'):t.1=t'.1/\(t.1=0\/(own t 0=own t' 0/\own t 1=own t' 1/\own t 2=own t' 2/\own t 3=own t' 3))/\(2 < t.1->(rA t).getD 2 0=(rA t').getD 2 0)/\(3 < t.1->(rA t).getD 3 0=(rA t').getD 3 0):=by
 have b0:=ziB h 0;have b1:=ziB h 1;have b2:=ziB h 2;have b3:=ziB h 3;have d0:=ziB h' 0;have d1:=ziB h' 1;have d2:=ziB h' 2;have d3:=ziB h' 3;have k:=zqN h;have k':=zqN h';rw [<- e] at k';generalize (rA t).getD 2 0=x2 at *
 generalize (rA t').getD 2 0=y2 at *
 generalize (rA t).getD 3 0=x3 at *
 generalize (rA t').getD 3 0=y3 at *
 generalize zeY t=c at *
 generalize own t 0=o0 at *
 generalize own t 1=o1 at *
 generalize own t 2=o2 at *
 generalize own t 3=o3 at *
 generalize own t' 0=p0 at *
 generalize own t' 1=p1 at *
 generalize own t' 2=p2 at *
 generalize own t' 3=p3 at *
 rcases k with ⟨n1,h1⟩ | ⟨n1,h1,h2⟩ | ⟨n1,h1,h2⟩ | ⟨n1,h1,h2,h3⟩ | ⟨n1,h1,h2,h3,h4,h5⟩<;>rcases k' with ⟨m1,i1⟩ | ⟨m1,i1,i2⟩ | ⟨m1,i1,i2⟩ | ⟨m1,i1,i2,i3⟩ | ⟨m1,i1,i2,i3,i4,i5⟩<;>first | (exfalso;omega) | skip
 ·exact ⟨by omega,.inl n1,fun _=>by omega,fun _=>by omega⟩
 ·exact ⟨by omega,.inr (by omega),fun _=>by omega,fun _=>by omega⟩
 ·exact ⟨by omega,.inr (by omega),fun _=>by omega,fun _=>by omega⟩
 ·exact ⟨by omega,.inr (by omega),fun _=>by omega,fun _=>by omega⟩
 ·have hx:x2=y2/\x3=y3:=by omega
  obtain ⟨rfl,rfl⟩:=hx;exact ⟨by omega,.inr (by omega),fun _=>rfl,fun _=>rfl⟩
theorem zv3 (h:TOk t) (h':TOk t') (e:zeY t=zeY t'):t=t':=by
 obtain ⟨k1,k2,k3,k4⟩:=zv4 h h' e;have hn:=h.n;have hn':=h'.n;have en:(Tr t).n=t.1.toNat:=rfl;have en':(Tr t').n=t'.1.toNat:=rfl;have eA:∀ i,i < 4->(rA t).getD i 0=(rA t').getD i 0:=fun i hi=>by
  by_cases c:t.1<=i
  ·rw [(h.fill i c hi).2,(h'.fill i (by omega) hi).2]
  ·have:i=0\/i=1\/i=2\/i=3:=by omega
   rcases this with rfl | rfl | rfl | rfl
   ·rw [h.rt (by omega),h'.rt (by omega)]
   ·have a1:=zxB h (i:=1) (by omega) (by omega)
    have g1:=zxB h' (i:=1) (by omega) (by omega)
    generalize (rA t).getD 1 0=x at *
    generalize (rA t').getD 1 0=y at *
    omega
   ·exact k3 (by omega)
   ·exact k4 (by omega)
 have eo:0 < t.1->∀ q:Int,0<=q->q < 4->topN (fun j=>(Tr t).L j q) (Tr t).n=topN (fun j=>(Tr t').L j q) (Tr t').n:=fun h0 q q0 q1=>by
  have k2:=k2.resolve_left (by omega)
  have:own t q=own t' q:=by
   have:q=0\/q=1\/q=2\/q=3:=by omega
   rcases this with rfl | rfl | rfl | rfl
   ·exact k2.1
   ·exact k2.2.1
   ·exact k2.2.2.1
   ·exact k2.2.2.2
  unfold own at this;omega
 have eL:∀ i,i < 4->(rL t).getD i 0=(rL t').getD i 0:=fun i hi=>by
  by_cases c:t.1<=i
  ·rw [(h.fill i c hi).1,(h'.fill i (by omega) hi).1]
  ·refine zvU (h.b i hi) (h'.b i hi) fun q=>⟨fun hq => ?_,fun hq => ?_⟩
   ·exact h.v.same (T':=Tr t') (q:=q) h'.v (by omega) (fun j hj=>eA j (by omega)) (eo (by omega) q hq.1.1 hq.1.2) (i:=i) (by omega) hq
   ·exact h'.v.same (T':=Tr t) (q:=q) h.v (by omega) (fun j hj=>(eA j (by omega)).symm) (eo (by omega) q hq.1.1 hq.1.2).symm (i:=i) (by omega) hq
 obtain ⟨n,⟨a0,a1,a2,a3,_⟩,⟨c0,c1,c2,c3,_⟩,_⟩:=t;obtain ⟨n',⟨a0',a1',a2',a3',_⟩,⟨c0',c1',c2',c3',_⟩,_⟩:=t';have l0:a0=a0':=eL 0 (by omega)
 have l1:a1=a1':=eL 1 (by omega)
 have l2:a2=a2':=eL 2 (by omega)
 have l3:a3=a3':=eL 3 (by omega)
 have m0:c0=c0':=eA 0 (by omega)
 have m1:c1=c1':=eA 1 (by omega)
 have m2:c2=c2':=eA 2 (by omega)
 have m3:c3=c3':=eA 3 (by omega)
 have k1:n=n':=k1;rw [l0,l1,l2,l3,m0,m1,m2,m3,k1]
end
def PlOk (p:Tv×Int×Unit):Prop:=TOk p.1/\1<=p.2.1/\p.2.1<=9
theorem zyd {l:List (Tv×Int×Unit)} (hn:l.Nodup) (hp:∀ x∈l,PlOk x):l.length<=20000:=by
 have h1:(l.map (fun p=>zeY p.1 * 9+(p.2.1 - 1))).Nodup:=by
  rw [List.nodup_iff_pairwise_ne,List.pairwise_map];refine List.Pairwise.imp_of_mem (fun {x y} hx hy hxy e=>hxy ?_) (List.nodup_iff_pairwise_ne.1 hn)
  obtain ⟨x1,x2⟩:=hp x hx;obtain ⟨y1,y2⟩:=hp y hy;have e1:zeY x.1=zeY y.1:=by omega
  have e2:x.2.1=y.2.1:=by omega
  have e3:=zv3 x1 y1 e1;obtain ⟨x,m,_⟩:=x;obtain ⟨y,m',_⟩:=y;have e3:x=y:=e3;have e2:m=m':=e2;rw [e3,e2]
 have h2:=zmd (n:=20000) h1 (fun x hx=>by
  obtain ⟨p,h3,rfl⟩:=List.mem_map.1 hx;obtain ⟨h4,h5⟩:=hp p h3;have:=zy5 h4;show 0<=zeY p.1 * 9+(p.2.1 - 1)/\zeY p.1 * 9+(p.2.1 - 1) < ((20000:Nat):Int);omega)
 rwa [List.length_map] at h2
abbrev Pl:=Tv×Int×Unit
section
variable {g:Int} {nx:Pl->Int->Pl} {mk:Pl->Int} {first:Pl} {B:Nat} {P:Pl->Prop} {c:Bv}
theorem zop (hx:XOk nx mk g.toNat first B P) (hB:B < 1048576) (hB3:B<=20000) (h1:1<=g/\g<=4) (hnx:∀ s,P s->∀ t,0<=t->t < g->za2 s t c=some (nx s t,c)) (hmk:∀ s,P s->zcz s=some (mk s)) {s:Pl} {l:List Pl} {L0:List Pl} {D2:List (List Int)} {D3:List Int} {r4} (hs:P s) (hl:LiOk B P l) (eL:ix L0 (D2.length:Int)=s) (h2:D2.length<=20000) (h3:D3.length<=20000):
  zaY g 1048576 g 0 L0 D2 D3 r4 0 c l (iota l.length) l (List.replicate g.toNat 0)=
   r4 c g 0 (xRow nx s l g.toNat).1 (iota (xRow nx s l g.toNat).1.length) (xRow nx s l g.toNat).1 (D2++[(xRow nx s l g.toNat).2]) (D3++[mk s]):=by
 have key:∀ (n t:Nat) (row:List Int),g.toNat - t=n->t<=g.toNat->row.length=g.toNat->(∀ j:Int,0<=j->j < t->ix row j=ix (xRow nx s l t).2 j)->
   zaY g 1048576 g 0 L0 D2 D3 r4 t c (xRow nx s l t).1 (iota (xRow nx s l t).1.length) (xRow nx s l t).1 row=
   r4 c g 0 (xRow nx s l g.toNat).1 (iota (xRow nx s l g.toNat).1.length) (xRow nx s l g.toNat).1 (D2++[(xRow nx s l g.toNat).2]) (D3++[mk s]):=by
  intro n
  induction n with
  | zero=>
   intro t row hn ht hr hj;obtain rfl:t=g.toNat:=by omega
   obtain ⟨g1,⟨_,g2,_⟩⟩:=zrO hx hs hl g.toNat (Nat.le_refl _);have:row=(xRow nx s l g.toNat).2:=zqi (by omega) fun j j0 j1=>hj j j0 (by omega)
   rw [zgu];unfold zbp;rw [if_neg (by simp;omega),this]
   refine G_to (by unfold room;simp;omega) ?_
   rw [eL];exact zae (hmk s hs) (G_to (by unfold room;simp;omega) rfl)
  | succ n ih=>
   intro t row hn ht hr hj;obtain ⟨g1,⟨_,g2,_⟩⟩:=zrO hx hs hl t (by omega)
   have hlen:=g1.len hx;have ih':=fun row=>ih (t+1) row (by omega) (by omega)
   rw [zgu];unfold zbp zce;rw [if_pos (by simp;omega),eL]
   refine zae (hnx s hs t (by omega) (by omega)) ?_
   show (if (!(mhas (xRow nx s l t).1 (nx s t)))=true then
    if decide (((xRow nx s l t).1.length:Int)=1048576)=true then _ else
     G (room (xRow nx s l t).1 [nx s t] _) (G _ (G _ (G _ (zaY g 1048576 g 0 L0 D2 D3 r4 (t+1) c (zkm (xRow nx s l t).1 (nx s t)) (zkn (xRow nx s l t).1 (iota (xRow nx s l t).1.length) (nx s t) ((xRow nx s l t).1.length:Int)) ((xRow nx s l t).1++[nx s t]) (row.set ((t:Int)).toNat ((xRow nx s l t).1.length:Int)))))) else
    G _ (G _ (G _ (zaY g 1048576 g 0 L0 D2 D3 r4 (t+1) c _ _ _ (row.set ((t:Int)).toNat (mget (xRow nx s l t).1 (iota (xRow nx s l t).1.length) (nx s t) 0))))))=_
   cases e:za4 (xRow nx s l t).1 (nx s t) with
   | some j=>
    rw [zpJ e] at ih';have hm:mhas (xRow nx s l t).1 (nx s t)=true:=by unfold mhas;rw [e];rfl
    rw [if_neg (by rw [hm];simp),zoW e]
    refine G_to (by omega) (G_to (by omega) (G_to (by unfold fits;omega) ?_))
    refine ih' (row.set ((t:Int)).toNat (j:Int)) (by rw [List.length_set];exact hr) (fun k k0 k1 => ?_)
    by_cases c:k < t
    ·rw [zak (by omega) k0 (by omega),zav k0 (by omega)];exact hj k k0 c
    ·obtain rfl:k=(t:Int):=by omega
     rw [zal k0 (by omega)]
     have:(t:Int)=((xRow nx s l t).2.length:Int):=by omega
     rw [this,zaL]
   | none=>
    rw [zpI e] at ih';have hnm:=zbX.1 e;have hm:mhas (xRow nx s l t).1 (nx s t)=false:=by unfold mhas;rw [e];rfl
    rw [if_pos (by rw [hm];rfl),if_neg (by simp;omega),zoY hnm,zma hnm]
    refine G_to (by unfold room;simp;omega) (G_to (by omega) (G_to (by omega) (G_to (by unfold fits;omega) ?_)))
    refine ih' (row.set ((t:Int)).toNat ((xRow nx s l t).1.length:Int)) (by rw [List.length_set];exact hr) (fun k k0 k1 => ?_)
    by_cases c:k < t
    ·rw [zak (by omega) k0 (by omega),zav k0 (by omega)];exact hj k k0 c
    ·obtain rfl:k=(t:Int):=by omega
     rw [zal k0 (by omega)]
     have:(t:Int)=((xRow nx s l t).2.length:Int):=by omega
     rw [this,zaL]
 exact key _ 0 _ rfl (by omega) (by rw [List.length_replicate]) (fun j j0 j1=>by omega)
theorem zns (hx:XOk nx mk g.toNat first B P) (hB:B < 1048576) (hB3:B<=20000) (h1:1<=g/\g<=4) (hnx:∀ s,P s->∀ t,0<=t->t < g->za2 s t c=some (nx s t,c)) (hmk:∀ s,P s->zcz s=some (mk s)) {n:Nat} (hg:XGo nx mk g.toNat first n) (hn:(xSt nx mk g.toNat first n).1.length=n):ze1 g first 1048576 c=some (xAut nx mk g.toNat first n,true,c):=by
 have key:∀ (f i:Nat),n - i=f->i<=n->zeb g 1048576 c g 0 (xSt nx mk g.toNat first i).1 (iota (xSt nx mk g.toNat first i).1.length) (xSt nx mk g.toNat first i).1 (xSt nx mk g.toNat first i).2.1 (xSt nx mk g.toNat first i).2.2=some (xAut nx mk g.toNat first n,true,c):=by
  intro f
  induction f with
  | zero=>
   intro i hf hi;obtain rfl:i=n:=by omega
   obtain ⟨g1,g2,g3⟩:=zka hx i hg;have hr:=g3.r;rw [zgt];unfold zbo;rw [if_neg (by rw [decide_eq_true_iff];omega)]
   unfold xAut;rw [Int.toNat_of_nonneg (by omega)]
  | succ f ih=>
   intro i hf hi;obtain ⟨g1,g2,g3⟩:=zka hx i (fun k hk=>hg k (by omega))
   have hlt:=hg i (by omega)
   have hr:=g3.r;have hm:=g3.m;have hlen:=g1.len hx;have hP:=g1.p _ (zaX (i:=(i:Int)) (by omega) (by omega))
   rw [zgt];unfold zbo;rw [if_pos (by rw [decide_eq_true_iff];omega)]
   refine G_to (by omega) (G_to (by omega) (G_to (by unfold mkOK;omega) ?_))
   rw [zop hx hB hB3 h1 hnx hmk hP g1 (by rw [hr]) (by omega) (by omega)]
   exact ih (i+1) (by omega) (by omega)
 unfold ze1;exact key _ 0 rfl (by omega)
end
theorem zAB {L:List Int} (h:L.length=16):[L.getD 0 0,L.getD 1 0,L.getD 2 0,L.getD 3 0,L.getD 4 0,L.getD 5 0,L.getD 6 0,L.getD 7 0,L.getD 8 0,L.getD 9 0,L.getD 10 0,L.getD 11 0,L.getD 12 0,L.getD 13 0,L.getD 14 0,L.getD 15 0]=L:=by
 match L,h with
 | [a,b,c,d,e,f,g,i,j,k,m,n,o,p,q,r],_=>rfl
def det3 (a:Au) (t:Int) (V:List Int) (f:Int):=zcr a t (V.getD 0 0) (V.getD 1 0) (V.getD 2 0) (V.getD 3 0) (V.getD 4 0) (V.getD 5 0) (V.getD 6 0) (V.getD 7 0) (V.getD 8 0) (V.getD 9 0) (V.getD 10 0) (V.getD 11 0) (V.getD 12 0) (V.getD 13 0) (V.getD 14 0) (V.getD 15 0) f
def bOf (V:List Int) (f:Int):Bv:=(((V.getD 0 0,V.getD 1 0,V.getD 2 0,V.getD 3 0,()),(V.getD 4 0,V.getD 5 0,V.getD 6 0,V.getD 7 0,()),(V.getD 8 0,V.getD 9 0,V.getD 10 0,V.getD 11 0,()),(V.getD 12 0,V.getD 13 0,V.getD 14 0,V.getD 15 0,()),()),f,())
theorem zAF {V:List Int} {f:Int} {p x:Int} (p0:0<=p) (p1:p < 4) (x0:0<=x) (x1:x < 4):nxB (bOf V f) p x=V.getD (p.toNat * 4+x.toNat) 0:=by
 have hp:p=0\/p=1\/p=2\/p=3:=by omega
 have hx:x=0\/x=1\/x=2\/x=3:=by omega
 rcases hp with rfl | rfl | rfl | rfl<;>rcases hx with rfl | rfl | rfl | rfl<;>rfl
def zeC (s:Int):Pl:=if s=0 then ((0,(0,0,0,0,()),(0,0,0,0,()),()),9,()) else ((1,(s,0,0,0,()),(-1,0,0,0,()),()),9,())
def nxS (b:Bv) (p:Pl) (x:Int):Pl:=if p.1.1=0 then ((0,(0,0,0,0,()),(0,0,0,0,()),()),1,()) else (zbm b p.1 x).getD default
section
variable {a:Au}
def zvN (a:Au) (t:Int) (V:List Int):Prop:=V.length=16/\∀ p x:Int,0<=p->p < 4->0<=x->x < 4->B4 (V.getD (p.toNat * 4+x.toNat) 0)/\∀ q,bt (V.getD (p.toNat * 4+x.toNat) 0) q↔∃ k:Int,0<=k/\k < t/\ix a.2.2.2.1 k=(p,x,q,())
theorem zwe (ha:AuOk a) (h4:a.2.1<=4) {f s:Int} (hs:zeU a.2.2.1=some s) {g b:Dt}:∀ (n:Nat) (t:Int) (V:List Int),(a.2.2.2.1.length - t).toNat=n->0<=t->t<=a.2.2.2.1.length->zvN a t V->
  ∃ V',zvN a a.2.2.2.1.length V'/\det3 a t V f=(ze1 a.1 (zeC s) 1048576 (bOf V' f)).bind (fun y=>(zej y.1).bind fun y=>some y):=by
 have hlen:=ha.sl;have hl4:=ha.let1;intro n
 induction n with
 | zero=>
  intro t V hn t0 t1 hV;obtain rfl:t=a.2.2.2.1.length:=by omega
  refine ⟨V,hV,?_⟩
  unfold det3;rw [zdQ];unfold zaJ zcP;rw [if_neg (by simp)]
  refine zae hs ?_
  by_cases c:s=0
  ·rw [if_neg (by simpa using c)]
   unfold zeC;rw [if_pos c];rfl
  ·rw [if_pos (by simpa using c)]
   unfold zeC;rw [if_neg c];rfl
 | succ n ih=>
  intro t V hn t0 t1 hV;obtain ⟨hV1,hV2⟩:=hV;obtain ⟨⟨f0,f1⟩,⟨l0,l1⟩,g0,g1⟩:=ha.sb _ (zaX (l:=a.2.2.2.1) t0 (by omega))
  obtain ⟨p,hp⟩:∃ p,(ix a.2.2.2.1 t).1=p:=⟨_,rfl⟩;obtain ⟨x,hx⟩:∃ x,(ix a.2.2.2.1 t).2.1=x:=⟨_,rfl⟩;obtain ⟨q,hq⟩:∃ q,(ix a.2.2.2.1 t).2.2.1=q:=⟨_,rfl⟩;have hst:ix a.2.2.2.1 t=(p,x,q,()):=by rw [<- hp,<- hx,<- hq]
  rw [hp] at f0 f1;rw [hx] at l0 l1;rw [hq] at g0 g1;obtain ⟨c1,c2⟩:=hV2 p x f0 (by omega) l0 (by omega)
  obtain ⟨b1,b2⟩:=zyw g0 (show q < 4 by omega)
  obtain ⟨o1,o2⟩:=zxD c1 b1;have hk:p.toNat * 4+x.toNat < 16:=by omega
  obtain ⟨V',h1,h2⟩:=ih (t+1) (V.set (p.toNat * 4+x.toNat) (ior .i64 (V.getD (p.toNat * 4+x.toNat) 0) (ishl .i64 1 q))) (by omega) (by omega) (by omega) ⟨by rw [List.length_set,hV1],fun p' x' p0 p1 x0 x1=>by
   by_cases e:p'=p/\x'=x
   ·obtain ⟨rfl,rfl⟩:=e;rw [List.getD_eq_getElem?_getD,List.getElem?_set_self (by omega),Option.getD_some]
    refine ⟨o1,fun r => ?_⟩
    rw [o2,c2,b2];constructor
    ·rintro (⟨k,a1,a2,a3⟩ | rfl)
     ·exact ⟨k,a1,by omega,a3⟩
     ·exact ⟨t,t0,by omega,hst⟩
    ·rintro ⟨k,a1,a2,a3⟩;by_cases ek:k=t
     ·rw [ek,hst] at a3;right
      simp only [Prod.mk.injEq] at a3;exact a3.2.2.1.symm
     ·exact .inl ⟨k,a1,by omega,a3⟩
   ·rw [List.getD_eq_getElem?_getD,List.getElem?_set_ne (by
     intro e2;exact e ⟨by omega,by omega⟩),<- List.getD_eq_getElem?_getD]
    obtain ⟨d1,d2⟩:=hV2 p' x' p0 p1 x0 x1;refine ⟨d1,fun r=>(d2 r).trans ⟨fun ⟨k,a1,a2,a3⟩=>⟨k,a1,by omega,a3⟩,fun ⟨k,a1,a2,a3⟩ => ?_⟩⟩
    by_cases ek:k=t
    ·rw [ek,hst] at a3;simp only [Prod.mk.injEq] at a3;exact absurd ⟨a3.1.symm,a3.2.1.symm⟩ e
    ·exact ⟨k,a1,by omega,a3⟩⟩
  refine ⟨V',h1,?_⟩
  rw [<- h2];unfold det3
  conv=>lhs;rw [zdQ];unfold zaJ
  rw [if_pos (by simp;omega),zab (by omega),hp,hx,hq,zab (by omega),zab (by omega),zab (by omega),zab (by omega),zab (by omega),zab (by omega),zab (by omega),zab (by unfold fits;omega)]
  rw [zAB hV1]
theorem zu0:TOk (0,(0,0,0,0,()),(0,0,0,0,()),()):=by
 refine ⟨by decide,zu1 rfl,fun i hi => ?_,fun i h0 h4 => ?_,fun h=>absurd h (by decide)⟩
 ·have:i=0\/i=1\/i=2\/i=3:=by omega
  rcases this with rfl | rfl | rfl | rfl<;>exact zcy.1
 ·have:i=0\/i=1\/i=2\/i=3:=by omega
  rcases this with rfl | rfl | rfl | rfl<;>exact ⟨rfl,rfl⟩
theorem zoC {s:Int} (hs:B4 s):PlOk (zeC s):=by
 unfold zeC;by_cases c:s=0
 ·rw [if_pos c];exact ⟨zu0,by decide,by decide⟩
 ·rw [if_neg c];obtain ⟨q,hq⟩:=(zrS hs).1 c;have n1:(Tr (1,(s,0,0,0,()),(-1,0,0,0,()),())).n=1:=rfl;refine ⟨⟨⟨show (0:Int)<=1 by decide,show (1:Int)<=4 by decide⟩,⟨fun i hi => ?_,fun i hi => ?_,fun i hi h0 => ?_,fun i hi => ?_,fun i hi => ?_,fun i j hij hj => ?_⟩,fun i hi => ?_,fun i h0 h4 => ?_,fun _=>rfl⟩,show (1:Int)<=9 by decide,show (9:Int)<=9 by decide⟩
  ·rw [n1] at hi;obtain rfl:i=0:=by omega
   exact ⟨fun _=>rfl,fun _=>by show (-1:Int) < 0;omega⟩
  ·rw [n1] at hi;obtain rfl:i=0:=by omega
   show (-1:Int) < 0;omega
  ·rw [n1] at hi;obtain rfl:i=0:=by omega
   have h0:(0:Int) <= -1:=h0;omega
  ·rw [n1] at hi;obtain rfl:i=0:=by omega
   exact ⟨q,hq⟩
  ·rw [n1] at hi;obtain rfl:i=0:=by omega
   refine ⟨q,hq,fun k hk he => ?_⟩
   rw [n1] at hk;obtain rfl:k=0:=by omega
   have he:(-1:Int)=0:=he;omega
  ·rw [n1] at hj;omega
  ·have:i=0\/i=1\/i=2\/i=3:=by omega
   rcases this with rfl | rfl | rfl | rfl
   ·exact hs
   ·exact zcy.1
   ·exact zcy.1
   ·exact zcy.1
  ·have h0:(1:Int)<=i:=h0;have:i=1\/i=2\/i=3:=by omega
   rcases this with rfl | rfl | rfl<;>exact ⟨rfl,rfl⟩
def BAll (a:Au) (b:Bv):Prop:=∀ x:Int,0<=x->x < a.1->BOk b x (fun p q=>StA a p x q) (fun q=>q∈a.2.2.2.2.1)
theorem zyZ (ha:AuOk a) (h4:a.2.1<=4) {V:List Int} {f:Int} (hV:zvN a a.2.2.2.1.length V) (hf:B4 f/\∀ q,bt f q↔q∈a.2.2.2.2.1):BAll a (bOf V f):=fun x x0 x1=>by
 have hl4:=ha.let1;refine ⟨⟨x0,by omega⟩,fun p p0 p1 => ?_,hf⟩
 rw [zAF p0 p1 x0 (by omega)]
 obtain ⟨h1,h2⟩:=hV.2 p x p0 p1 x0 (by omega)
 refine ⟨h1,fun q=>(h2 q).trans ?_⟩
 unfold StA;constructor
 ·rintro ⟨k,a1,a2,a3⟩;rw [<- a3];exact zaX a1 a2
 ·intro h;obtain ⟨k,a1,a2,a3⟩:=(zdX (P:=fun y=>y=(p,x,q,()))).1 ⟨_,h,rfl⟩
  exact ⟨k,a1,a2,a3⟩
theorem zk9 {b:Bv} (hb:BAll a b) {p:Pl} (hp:PlOk p) {x:Int} (x0:0<=x) (x1:x < a.1):PlOk (nxS b p x)/\za2 p x b=some (nxS b p x,b)/\
  ∃ d,((Tr p.1).n=0/\(Tr (nxS b p x).1).n=0/\(nxS b p x).2.1=1)\/(0 < (Tr p.1).n/\IsStep (fun p q=>StA a p x q) (fun q=>q∈a.2.2.2.2.1) (Tr p.1) d (Tr (nxS b p x).1) (nxS b p x).2.1):=by
 obtain ⟨h1,h2,h3⟩:=hp;have hn:=h1.n;have en:(Tr p.1).n=p.1.1.toNat:=rfl;by_cases c:p.1.1=0
 ·have e:nxS b p x=((0,(0,0,0,0,()),(0,0,0,0,()),()),1,()):=if_pos c;rw [e];refine ⟨⟨zu0,by decide,by decide⟩,?_,⟨0,fun _ _=>False,fun _=>0,fun _=>False,fun _=>False,fun _=>0⟩,.inl ⟨by omega,rfl,rfl⟩⟩
  unfold za2;rw [if_pos (decide_eq_true c)]
 ·obtain ⟨t',m,d,h4,h5,h6,h7⟩:=zxp (hb x x0 x1) h1;have e:nxS b p x=(t',m,()):=by unfold nxS;rw [if_neg c,h4];rfl
  rw [e];refine ⟨⟨h5,h6⟩,?_,d,.inr ⟨by omega,h7⟩⟩
  unfold za2;rw [if_neg (by simpa using c)]
  exact zae h4 rfl
theorem s_xok {b:Bv} (hb:BAll a b) {s:Int} (hs:B4 s):XOk (nxS b) (fun p:Pl=>p.2.1) a.1.toNat (zeC s) 20000 PlOk:=
 ⟨fun l hn hp=>zyd hn hp,zoC hs,fun p hp t t0 t1=>(zk9 hb hp t0 (by omega)).1,fun p hp=>by have:=hp.2;omega⟩
theorem zor (ha:AuOk a) (h4:a.2.1<=4):∃ o b s,zbY a=some o/\DOk 20000 badM o/\o.1=a.1/\BAll a b/\(B4 s/\∀ q,bt s q↔q∈a.2.2.1)/\(∀ m∈o.2.2.2.1,1<=m/\m<=9)/\
  ∀ w:List Int,(∀ x∈w,0<=x/\x < a.1)->ix o.2.2.2.1 (wlk o.2.2.1 o.2.1 w)=(w.foldl (nxS b) (zeC s)).2.1:=by
 have hl4:=ha.let1;have hls:=ha.ls;have hlf:=ha.lf;obtain ⟨f,f1,f2,f3⟩:=ziV (l:=a.2.2.2.2.1) (by omega) (fun q hq=>by have:=ha.f q hq;omega)
 obtain ⟨s,s1,s2,s3⟩:=ziV (l:=a.2.2.1) (by omega) (fun q hq=>by have:=ha.s q hq;omega)
 obtain ⟨V,hV,hrun⟩:=zwe (f:=f) ha h4 s1 (g:=default) (b:=default) _ 0 [0,0,0,0,0,0,0,0,0,0,0,0,0,0,0,0] rfl (Int.le_refl _) (by omega) ⟨rfl,fun p x p0 p1 x0 x1=>by
  have e:[(0:Int),0,0,0,0,0,0,0,0,0,0,0,0,0,0,0].getD (p.toNat * 4+x.toNat) 0=0:=by
   have hp:p=0\/p=1\/p=2\/p=3:=by omega
   have hx:x=0\/x=1\/x=2\/x=3:=by omega
   rcases hp with rfl | rfl | rfl | rfl<;>rcases hx with rfl | rfl | rfl | rfl<;>rfl
  rw [e];exact ⟨zcy.1,fun q=>⟨fun h=>absurd h (zcy.2 q),fun ⟨k,k0,k1,_⟩=>by omega⟩⟩⟩
 have hb:=zyZ ha h4 hV ⟨f2,f3⟩;have hx:=s_xok hb s2;obtain ⟨n,n1,n2,n3⟩:=zxz hx;have d1:=zxy hx (by omega) (by omega) n2 n3
 obtain ⟨o,C,Q,K,g1,g2⟩:=zvu d1;have e0:(xAut (nxS (bOf V f)) (fun p:Pl=>p.2.1) a.1.toNat (zeC s) n).1=a.1:=by show (a.1.toNat:Int)=a.1;omega
 have e1:o.1=a.1:=by rw [g1.let1,e0]
 have dok:=g1.dok d1;have run:zbY a=some o:=by
  unfold zbY;refine zae f1 ?_
  refine Eq.trans hrun ?_
  refine zae (zns (mk:=fun p:Pl=>p.2.1) (c:=bOf V f) hx (by omega) (by omega) (by omega) (fun p hp t t0 t1=>(zk9 hb hp t0 (by omega)).2.1) (fun p hp=>rfl) n2 n3) ?_
  exact zae g2 rfl
 have marks:∀ w:List Int,(∀ x∈w,0<=x/\x < a.1)->ix o.2.2.2.1 (wlk o.2.2.1 o.2.1 w)=(w.foldl (nxS (bOf V f)) (zeC s)).2.1:=fun w hw=>by
  obtain ⟨_,_,m3⟩:=zvw d1 g1 (w:=w) (fun x hx=>by rw [e0];exact hw x hx)
  rw [m3];have hpos:0 < n:=by
   have:=d1.n1.1;obtain ⟨_,_,x3⟩:=zka hx n n2;have e:(xAut (nxS (bOf V f)) (fun p:Pl=>p.2.1) a.1.toNat (zeC s) n).2.2.1.length=n:=x3.r
   omega
  obtain ⟨_,_,x3⟩:=zka hx n n2;obtain ⟨w1,w2,w3⟩:=zpH hx n2 n3 w 0 (by omega) (by omega) (fun x hx=>by have:=hw x hx;omega)
  have:=x3.mark _ w1 w2;rw [w3,x3.z] at this;exact this
 refine ⟨o,bOf V f,s,run,dok,e1,hb,⟨s2,s3⟩,fun m hm => ?_,marks⟩
 obtain ⟨k,k0,k1,rfl⟩:=(zdX (P:=fun x=>x=m)).1 ⟨m,hm,rfl⟩
 obtain ⟨w,hw,hq⟩:=g1.reach d1 k0 (by have:=dok.mkl;omega)
 have hw:∀ x∈w,0<=x/\x < a.1:=fun x hx=>by have:=hw x hx;rw [e0] at this;exact this
 rw [<- hq,marks w hw];have pl:∀ (w:List Int) (p:Pl),(∀ x∈w,0<=x/\x < a.1)->PlOk p->PlOk (w.foldl (nxS (bOf V f)) p):=fun w=>by
  induction w with
  | nil=>intro p _ hp;exact hp
  | cons x w ih=>
   intro p hw hp;have:=hw x (by simp)
   exact ih _ (fun y hy=>hw y (by simp [hy])) (zk9 hb hp this.1 this.2).1
 exact (pl w _ hw (zoC s2)).2
end
def rds (h w:List Int):Nat->List Int
 | 0=>h
 | k+1=>rds h w k++w
theorem zt8 {N:List (List Int)}:∀ {w:List Int} {q b:Int},b∈trc N q w↔∃ p x s,w=p++x::s/\b=wlk N q (p++[x])
 | [],q,b=>⟨fun h=>(by cases h),fun ⟨p,x,s,h,_⟩=>(by cases p<;>cases h)⟩
 | a::w,q,b=>by
  show b∈stp N q a::trc N (stp N q a) w↔_;rw [List.mem_cons,zt8 (w:=w)];constructor
  ·rintro (rfl | ⟨p,x,s,rfl,rfl⟩)
   ·exact ⟨[],a,w,rfl,rfl⟩
   ·exact ⟨a::p,x,s,rfl,rfl⟩
  ·rintro ⟨p,x,s,h,rfl⟩
   cases p with
   | nil=>cases h;exact .inl rfl
   | cons c p=>cases h;exact .inr ⟨p,x,s,rfl,rfl⟩
theorem zmE {N:List (List Int)} (q:Int) (u v:List Int):wlk N q (u++v)=wlk N (wlk N q u) v:=by unfold wlk;rw [List.foldl_append]
theorem zud {N:List (List Int)} (q:Int) (h w:List Int):∀ k,wlk N q (rds h w k)=itn (fun q=>wlk N q w) k (wlk N q h)
 | 0=>rfl
 | k+1=>by rw [rds,zmE,zud q h w k];rfl
section
variable {L:Int} {N:List (List Int)} {q0:Int} {h w:List Int}
def zrP (N:List (List Int)) (q0:Int) (h w:List Int) (b:Int):Prop:=∃ i,i < N.length/\b∈trc N (itn (fun q=>wlk N q w) i (itn (fun q=>wlk N q w) N.length (wlk N q0 h))) w
structure LasOk (L:Int) (N:List (List Int)) (q0:Int) (h w:List Int):Prop where
 tab:Tab L N
 st:0<=q0/\q0 < N.length
 hh:∀ a∈h,0<=a/\a < L
 hw:∀ a∈w,0<=a/\a < L
theorem LasOk.circ (o:LasOk L N q0 h w):∃ p,0 < p/\p<=N.length/\itn (fun q=>wlk N q w) p (itn (fun q=>wlk N q w) N.length (wlk N q0 h))=itn (fun q=>wlk N q w) N.length (wlk N q0 h):=by
 have hb:=o.tab.wlkb o.st.1 o.st.2 o.hh;exact zy2 (f:=fun q=>wlk N q w) (n:=N.length) (fun q q0 q1=>o.tab.wlkb q0 q1 o.hw) hb.1 hb.2
theorem zrP.of (o:LasOk L N q0 h w) {k:Nat} (hk:N.length<=k) {b:Int} (hb:b∈trc N (wlk N q0 (rds h w k)) w):zrP N q0 h w b:=by
 obtain ⟨p,p0,p1,hp⟩:=o.circ;rw [zud,show k=(k - N.length)+N.length by omega,zio,ztC hp] at hb
 exact ⟨(k - N.length) % p,Nat.lt_of_lt_of_le (Nat.mod_lt _ p0) p1,hb⟩
theorem zrP.soon (o:LasOk L N q0 h w) {b:Int} (hb:zrP N q0 h w b) {k:Nat} (hk:N.length<=k):∃ k',k<=k'/\k' < k+N.length/\b∈trc N (wlk N q0 (rds h w k')) w:=by
 obtain ⟨p,p0,p1,hp⟩:=o.circ;obtain ⟨i,_,hi⟩:=hb;obtain ⟨J,rfl⟩:∃ J,k=N.length+J:=⟨k - N.length,by omega⟩
 have hm:(J+(i+(p - 1) * J) % p) % p=i % p:=by
  rw [Nat.add_mod_mod,show J+(i+(p - 1) * J)=i+p * J by
   obtain ⟨r,rfl⟩:∃ r,p=r+1:=⟨p - 1,by omega⟩
   rw [Nat.add_sub_cancel,Nat.add_mul,Nat.one_mul];omega,Nat.add_mul_mod_self_left]
 have hlt:=Nat.mod_lt (i+(p - 1) * J) p0;refine ⟨N.length+J+(i+(p - 1) * J) % p,by omega,by omega,?_⟩
 rw [zud,show N.length+J+(i+(p - 1) * J) % p=(J+(i+(p - 1) * J) % p)+N.length by omega,zio,ztC hp,hm,<- ztC hp]
 exact hi
theorem zuc (o:LasOk L N q0 h w) {k:Nat} (hk:N.length<=k) {p s:List Int} {x:Int} (e:w=p++x::s):zrP N q0 h w (wlk N q0 (rds h w k++(p++[x]))):=by
 refine zrP.of o hk ?_
 rw [zmE];exact zt8.2 ⟨p,x,s,e,rfl⟩
end
def preW (l:LsT) (t:Nat):List Int:=(List.range t).map (las l)
theorem zle (l:LsT) (t:Nat):preW l (t+1)=preW l t++[las l t]:=by unfold preW;rw [List.range_succ,List.map_append];rfl
theorem zxd (l:LsT):∀ t:Nat,t<=l.1.length->preW l t=l.1.take t:=fun t=>by
 induction t with
 | zero=>intro _;rfl
 | succ t ih=>
  intro ht;rw [zle,ih (by omega),<- zuG t (by omega)]
  have:=zoK (l:=l.1) (i:=(t:Int)) (by omega) (by omega)
  rw [show ((t:Int)+1).toNat=t+1 by omega,show ((t:Int)).toNat=t by omega] at this
  exact this.symm
theorem zyC {l:LsT} (k i:Nat) (hi:i < l.2.1.length):las l (l.1.length+k * l.2.1.length+i)=ix l.2.1 (i:Int):=by
 unfold las;rw [if_neg (by omega),show l.1.length+k * l.2.1.length+i - l.1.length=i+k * l.2.1.length by omega,Nat.add_mul_mod_self_right,Nat.mod_eq_of_lt hi]
theorem zrx (l:LsT):∀ k j:Nat,j<=l.2.1.length->preW l (l.1.length+k * l.2.1.length+j)=rds l.1 l.2.1 k++l.2.1.take j:=by
 intro k
 induction k with
 | zero=>
  intro j
  induction j with
  | zero=>intro _;rw [show l.1.length+0 * l.2.1.length+0=l.1.length by omega,zxd l _ (Nat.le_refl _),List.take_length,List.take_zero,List.append_nil];rfl
  | succ j ih=>
   intro hj;rw [<- Nat.add_assoc,zle,ih (by omega),zyC 0 j (by omega),List.append_assoc]
   congr 1
   have:=zoK (l:=l.2.1) (i:=(j:Int)) (by omega) (by omega)
   rw [show ((j:Int)+1).toNat=j+1 by omega,show ((j:Int)).toNat=j by omega] at this
   exact this.symm
 | succ k ih=>
  intro j
  induction j with
  | zero=>
   intro _;have:=ih l.2.1.length (Nat.le_refl _);rw [show l.1.length+(k+1) * l.2.1.length+0=l.1.length+k * l.2.1.length+l.2.1.length by rw [Nat.succ_mul];omega,this,List.take_length,List.take_zero,List.append_nil];rfl
  | succ j ihj=>
   intro hj;rw [<- Nat.add_assoc,zle,ihj (by omega),zyC (k+1) j (by omega),List.append_assoc]
   congr 1
   have:=zoK (l:=l.2.1) (i:=(j:Int)) (by omega) (by omega)
   rw [show ((j:Int)+1).toNat=j+1 by omega,show ((j:Int)).toNat=j by omega] at this
   exact this.symm
theorem zAh {l:LsT} (h0:0 < l.2.1.length) {t:Nat} (ht:l.1.length<=t):∃ k j,j < l.2.1.length/\t=l.1.length+k * l.2.1.length+j:=by
 refine ⟨(t - l.1.length) / l.2.1.length,(t - l.1.length) % l.2.1.length,Nat.mod_lt _ h0,?_⟩
 have:=Nat.div_add_mod (t - l.1.length) l.2.1.length;rw [Nat.mul_comm] at this;omega
def mkAt (d:Dt) (l:LsT) (t:Nat):Int:=ix d.2.2.2.1 (wlk d.2.2.1 d.2.1 (preW l (t+1)))
theorem zyn {w:List Int} {j:Nat} (hj:j < w.length):w=w.take j++ix w (j:Int)::w.drop (j+1)/\w.take (j+1)=w.take j++[ix w (j:Int)]:=by
 have h1:=zoK (l:=w) (i:=(j:Int)) (by omega) (by omega)
 rw [show ((j:Int)+1).toNat=j+1 by omega,show ((j:Int)).toNat=j by omega] at h1
 refine ⟨?_,h1⟩
 have h2:=List.take_append_drop (j+1) w;rw [h1] at h2
 conv=>lhs;rw [<- h2]
 simp
theorem zsQ {d:Dt} (dok:SOk d) {l:LsT} (hh:∀ a∈l.1,0<=a/\a < d.1) (hw:∀ a∈l.2.1,0<=a/\a < d.1) (h0:0 < l.2.1.length):zh0 (mkAt d l) (safV d l):=by
 have o:LasOk d.1 d.2.2.1 d.2.1 l.1 l.2.1:=⟨dok.tab,dok.st,hh,hw⟩;have hq:=dok.tab.wlkb dok.st.1 dok.st.2 hh;have hq2:=(zpu dok hw hq.1 hq.2 d.2.2.1.length).1;have lst:Lst d.2.2.2.1 (safV d l) (fun b=>zrP d.2.2.1 d.2.1 l.1 l.2.1 b):=(zpu dok hw hq2.1 hq2.2 d.2.2.1.length).2
 obtain ⟨s1,s2,s3⟩:=lst;have late:∀ k j,d.2.2.1.length<=k->j < l.2.1.length->safV d l<=mkAt d l (l.1.length+k * l.2.1.length+j)/\mkAt d l (l.1.length+k * l.2.1.length+j)<=9:=fun k j hk hj=>by
  obtain ⟨p1,p2⟩:=zyn hj;have ha:=zuc o hk p1;rw [<- p2,<- zrx l k (j+1) (by omega),<- Nat.add_assoc] at ha
  refine ⟨s3 _ ha,?_⟩
  have hb:0<=wlk d.2.2.1 d.2.1 (preW l (l.1.length+k * l.2.1.length+j+1))/\wlk d.2.2.1 d.2.1 (preW l (l.1.length+k * l.2.1.length+j+1)) < d.2.2.1.length:=by
   refine dok.tab.wlkb dok.st.1 dok.st.2 (fun a ha => ?_)
   rw [Nat.add_assoc,zrx l k (j+1) (by omega)] at ha
   rcases List.mem_append.1 ha with h | h
   ·have:∀ k,∀ a∈rds l.1 l.2.1 k,0<=a/\a < d.1:=fun k=>by
     induction k with
     | zero=>exact hh
     | succ k ih=>exact fun a ha=>(List.mem_append.1 ha).elim (ih a) (hw a)
    exact this k a h
   ·exact hw a (List.mem_of_mem_take h)
  have hm:=dok.mok _ (zaX (l:=d.2.2.2.1) hb.1 (by have:=dok.mkl;omega))
  unfold mkAt;have hm : ¬ (ix d.2.2.2.1 (wlk d.2.2.1 d.2.1 (preW l (l.1.length+k * l.2.1.length+j+1))) < 0\/9 < ix d.2.2.2.1 (wlk d.2.2.1 d.2.1 (preW l (l.1.length+k * l.2.1.length+j+1)))):=hm;omega
 refine ⟨fun n => ?_,l.1.length+d.2.2.1.length * l.2.1.length,fun t ht => ?_⟩
 ·obtain ⟨b,hb,e⟩:∃ b,zrP d.2.2.1 d.2.1 l.1 l.2.1 b/\safV d l=ix d.2.2.2.1 b:=by
   rcases s1 with s1 | s1
   ·have:=late _ 0 (Nat.le_refl _) h0;omega
   ·exact s1
  obtain ⟨k,k1,_,hk⟩:=hb.soon o (k:=max d.2.2.1.length n) (by omega)
  obtain ⟨p,x,s,ew,rfl⟩:=zt8.1 hk;have hp:p.length < l.2.1.length:=by rw [ew];simp
  have hp2:l.2.1.take (p.length+1)=p++[x]:=by rw [ew,show p++x::s=(p++[x])++s by simp,List.take_left' (by simp)]
  refine ⟨l.1.length+k * l.2.1.length+p.length,?_,?_⟩
  ·have:=Nat.le_mul_of_pos_right k h0;omega
  ·show ix d.2.2.2.1 (wlk d.2.2.1 d.2.1 (preW l (l.1.length+k * l.2.1.length+(p.length+1))))=safV d l;rw [zrx l k (p.length+1) (by omega),hp2,zmE]
   exact e.symm
 ·obtain ⟨k,j,hj,rfl⟩:=zAh h0 (t:=t) (by omega)
  refine (late k j ?_ hj).1
  refine Classical.byContradiction fun hno => ?_
  have h1:(k+1) * l.2.1.length<=d.2.2.1.length * l.2.1.length:=Nat.mul_le_mul_right _ (by omega)
  rw [Nat.succ_mul] at h1;omega
theorem zh0.uniq {M:Nat->Int} {m m':Int} (h:zh0 M m) (h':zh0 M m'):m=m':=by
 obtain ⟨a,n,b⟩:=h;obtain ⟨a',n',b'⟩:=h';obtain ⟨t,ht,e⟩:=a n';obtain ⟨t',ht',e'⟩:=a' n;have:=b' t ht;have:=b t' ht';omega
section
variable {a:Au}
def plAt (b:Bv) (s:Int) (l:LsT) (t:Nat):Pl:=(preW l t).foldl (nxS b) (zeC s)
theorem zsD (b:Bv) (s:Int) (l:LsT) (t:Nat):plAt b s l (t+1)=nxS b (plAt b s l t) (las l t):=by
 unfold plAt;rw [zle,List.foldl_append];rfl
theorem las_b {L:Int} {l:LsT} (h0:0 < l.2.1.length) (hh:∀ x∈l.1,0<=x/\x < L) (hw:∀ x∈l.2.1,0<=x/\x < L) (t:Nat):0<=las l t/\las l t < L:=by
 unfold las;by_cases c:t < l.1.length
 ·rw [if_pos c];exact hh _ (zaX (by omega) (by omega))
 ·rw [if_neg c];have:=Nat.mod_lt (t - l.1.length) h0;exact hw _ (zaX (by omega) (by omega))
theorem zxm {b:Bv} (hb:BAll a b) {s:Int} (hs:B4 s) {l:LsT} (hu:∀ t,0<=las l t/\las l t < a.1):∃ D,Row (fun t p q=>StA a p (las l t) q) (fun q=>q∈a.2.2.2.2.1) (fun t=>Tr (plAt b s l t).1) D (fun t=>(plAt b s l (t+1)).2.1)/\∀ t,PlOk (plAt b s l t):=by
 have pl:∀ t,PlOk (plAt b s l t):=fun t=>by
  induction t with
  | zero=>exact zoC hs
  | succ t ih=>rw [zsD];exact (zk9 hb ih (hu t).1 (hu t).2).1
 have st:=fun t=>(zk9 hb (pl t) (hu t).1 (hu t).2).2.2
 refine ⟨fun t=>Classical.choose (st t),⟨(pl 0).1.v,fun t => ?_⟩,pl⟩
 have:=Classical.choose_spec (st t);show ((Tr (plAt b s l t).1).n=0/\(Tr (plAt b s l (t+1)).1).n=0/\(plAt b s l (t+1)).2.1=1)\/(0 < (Tr (plAt b s l t).1).n/\IsStep (fun p q=>StA a p (las l t) q) (fun q=>q∈a.2.2.2.2.1) (Tr (plAt b s l t).1) (Classical.choose (st t)) (Tr (plAt b s l (t+1)).1) (plAt b s l (t+1)).2.1)
 rw [zsD];exact this
theorem zxc {L:Int} {l:LsT} (hu:∀ t,0<=las l t/\las l t < L) (t:Nat):∀ x∈preW l t,0<=x/\x < L:=fun x hx=>by
 obtain ⟨k,_,rfl⟩:=List.mem_map.1 hx;exact hu k
theorem zt0 (ha:AuOk a) (h4:a.2.1<=4) {o:Dt} {b:Bv} {s:Int} (hb:BAll a b) (hs:B4 s/\∀ q,bt s q↔q∈a.2.2.1) (hmk:∀ w:List Int,(∀ x∈w,0<=x/\x < a.1)->ix o.2.2.2.1 (wlk o.2.2.1 o.2.1 w)=(w.foldl (nxS b) (zeC s)).2.1)
  {l:LsT} (h0:0 < l.2.1.length) (hu:∀ t,0<=las l t/\las l t < a.1) {m:Int} (hm:zh0 (mkAt o l) m):m % 2=0↔RefA a (las l) l.1.length l.2.1.length:=by
 obtain ⟨D,hR,hP⟩:=zxm hb hs.1 hu;have eM:mkAt o l=fun t=>(plAt b s l (t+1)).2.1:=funext fun t=>hmk _ (zxc hu _)
 rw [eM] at hm;have e0:plAt b s l 0=zeC s:=rfl;refine zxl ha h4 h0 (fun t ht=>zzu t ht) hR ?_ (fun q hq => ?_) (fun q hq => ?_) (fun t => ?_) hm
 ·show (Tr (plAt b s l 0).1).n<=1;rw [e0];unfold zeC;by_cases c:s=0
  ·rw [if_pos c];exact Nat.zero_le 1
  ·rw [if_neg c];exact Nat.le_refl 1
 ·have hq:0 < (Tr (plAt b s l 0).1).n:=hq;show (Tr (plAt b s l 0).1).L 0 q↔_;rw [e0] at hq ⊢;unfold zeC at hq ⊢;by_cases c:s=0
  ·rw [if_pos c] at hq;exact absurd hq (Nat.lt_irrefl 0)
  ·rw [if_neg c];exact hs.2 q
 ·show 0 < (Tr (plAt b s l 0).1).n;rw [e0];unfold zeC;rw [if_neg ((zrS hs.1).2 ⟨q,(hs.2 q).2 hq⟩)];exact Nat.one_pos
 ·have:=(hP t).1.n;show (plAt b s l t).1.1.toNat<=4;omega
def zhZ (o:Dt):Dt:=(o.1,o.2.1,o.2.2.1,o.2.2.2.1.map (· - 1),())
theorem zub {o:Dt} (dok:DOk 20000 badM o):zfR o=some (zhZ o):=by
 have hl:=dok.mkl;have hn:=dok.n1;have key:∀ (n:Nat) (t:Int) (R:List Int),(o.2.2.2.1.length - t).toNat=n->0<=t->t<=o.2.2.2.1.length->R.length=o.2.2.2.1.length->(∀ j:Int,0<=j->j < t->ix R j=ix o.2.2.2.1 j - 1)->(∀ j:Int,t<=j->j < o.2.2.2.1.length->ix R j=ix o.2.2.2.1 j)->zdE o.2.2.2.1 t o.1 o.2.1 o.2.2.1 R=some (zhZ o):=by
  intro n
  induction n with
  | zero=>
   intro t R hn t0 t1 hR h1 h2;obtain rfl:t=o.2.2.2.1.length:=by omega
   rw [zfS];unfold zbe;rw [if_neg (by simp)]
   have:R=o.2.2.2.1.map (· - 1):=zqi (by rw [List.length_map,hR]) fun j j0 j1=>by rw [h1 j j0 (by omega),zuD (fun x=>x - 1) j0 (by omega)]
   rw [this];rfl
  | succ n ih=>
   intro t R hn t0 t1 hR h1 h2;have hm:=dok.mok _ (zaX (l:=o.2.2.2.1) t0 (by omega))
   have hm : ¬ (ix o.2.2.2.1 t < 0\/9 < ix o.2.2.2.1 t):=hm;rw [zfS];unfold zbe;rw [if_pos (by simp;omega),h2 t (Int.le_refl _) (by omega),zab (by omega),zab (by omega),zab (by unfold fits;omega),zab (by omega),zab (by omega),zab (by unfold fits;omega)]
   refine ih (t+1) _ (by omega) (by omega) (by omega) (by rw [List.length_set,hR]) (fun j j0 j1 => ?_) (fun j j0 j1 => ?_)
   ·by_cases e:j=t
    ·rw [e,zal t0 (by omega)]
    ·rw [zak t0 j0 (by omega)];exact h1 j j0 (by omega)
   ·rw [zak t0 (by omega) (by omega)];exact h2 j (by omega) j1
 unfold zfR;refine zae (zgY (by omega)) ?_
 exact key _ 0 _ rfl (Int.le_refl _) (by omega) rfl (fun j j0 j1=>by omega) (fun j _ _=>rfl)
theorem zyr {o:Dt} (dok:DOk 20000 badM o) (h1:∀ m∈o.2.2.2.1,1<=m/\m<=9):DOk 20000 badM (zhZ o):=by
 refine ⟨dok.let1,dok.n1,dok.st,?_,fun m hm => ?_,dok.tab⟩
 ·show ((o.2.2.2.1.map (· - 1)).length:Int)=_;rw [List.length_map];exact dok.mkl
 ·obtain ⟨x,hx,rfl⟩:=List.mem_map.1 hm;have:=h1 x hx;show ¬ (x - 1 < 0\/9 < x - 1);omega
theorem zsA {o:Dt} (dok:DOk 20000 badM o) {l:LsT} (hu:∀ t,0<=las l t/\las l t < o.1) (t:Nat):mkAt (zhZ o) l t=mkAt o l t - 1:=by
 have hb:=dok.tab.wlkb dok.st.1 dok.st.2 (zxc hu (t+1));have hl:=dok.mkl;show ix (o.2.2.2.1.map (· - 1)) (wlk o.2.2.1 o.2.1 (preW l (t+1)))=_;rw [zuD (fun x=>x - 1) hb.1 (by omega)];rfl
theorem zvJ {o:Dt} (dok:DOk 20000 badM o) {l:LsT} (hu:∀ t,0<=las l t/\las l t < o.1) {m m':Int} (h:zh0 (mkAt o l) m) (h':zh0 (mkAt (zhZ o) l) m'):m=m'+1:=by
 refine h.uniq (m':=m'+1) ?_
 obtain ⟨h1,n,h2⟩:=h';refine ⟨fun k => ?_,n,fun t ht => ?_⟩
 ·obtain ⟨t,ht,e⟩:=h1 k;rw [zsA dok hu] at e;exact ⟨t,ht,by omega⟩
 ·have:=h2 t ht;rw [zsA dok hu] at this;omega
theorem znJ (hl:AuLen a):zd8 a=some (if autE a=0 then (if 4 < a.2.1 then 1 else 0) else autE a):=by
 unfold zd8;refine zae (znp hl) ?_
 by_cases c:autE a=0
 ·rw [if_neg (by simpa using c),if_pos c]
  by_cases d:4 < a.2.1
  ·rw [if_pos (by simpa using d),if_pos d]
  ·rw [if_neg (by simpa using d),if_neg d]
 ·rw [if_pos (by simpa using c),if_neg c]
end
theorem zqm:zit (0,0,[],[],())=some true:=by
 unfold zit;rw [if_pos (by simp),if_pos (by simp)]
 exact G_to (by decide) (by simp)
theorem law_true (a:Au) (l:List Int×List Int×Unit) (sa:Sml (.pair (.int .i64) (.pair (.int .i64) (.pair (.list (.int .i64)) (.pair (.list (.pair (.int .i64) (.pair (.int .i64) (.pair (.int .i64) .unit)))) (.pair (.list (.int .i64)) .unit))))) a) (sl:Sml (.pair (.list (.int .i64)) (.pair (.list (.int .i64)) .unit)) l):zis a l=some true:=by
 have ea:(a.1,a.2.1,a.2.2.1,a.2.2.2.1,a.2.2.2.2.1,())=a:=rfl;have el:(l.1,l.2.1,())=l:=rfl;have b1:a.2.2.1.length * 8<=140737488351232:=sa.2.2.1.1;have b2:a.2.2.2.2.1.length * 8<=140737488351232:=sa.2.2.2.2.1.1;have b3:a.2.2.2.1.length * 24<=140737488351232:=sa.2.2.2.1.1;have hl:AuLen a:=⟨by omega,by omega⟩
 have hsm:=znJ hl;have same:=zrI (a:=a) (by omega) (by omega) (by omega)
 unfold zis;rw [ea];refine zae (zri (by omega) (by omega) (by omega)) ?_
 rw [ea];by_cases h0:autE a=0/\a.2.1<=4
 ·obtain ⟨h0,h4⟩:=h0;have ha:=zvT h0;rw [if_pos h0,if_neg (by omega)] at hsm
  obtain ⟨o,b,s,run,dok,e1,hb,hs,hm9,hmk⟩:=zor ha h4;have rD:zgO a=some (o,0):=by
   unfold zgO;rw [ea];refine zae hsm ?_
   rw [if_neg (by simp)]
   exact zae run rfl
  have rO:zd5 a=some (zhZ o,0):=by
   unfold zd5;rw [ea];refine zae hsm ?_
   rw [if_neg (by simp)]
   exact zae run (zae (zub dok) rfl)
  have tdok:=zyr dok hm9;have c1:detE 20000 badM o=0:=zwf dok;have c2:detE 20000 badM (zhZ o)=0:=zwf tdok;refine zae rD (zae rO (zae same (zae (zlr hl) ?_)))
  rw [if_pos (by simpa using h0)]
  unfold zcA;rw [if_neg (by simp;omega)]
  unfold zcB;rw [if_neg (by simp),if_neg (by simpa using h0)]
  refine zae (zlz (d:=o)) (zae (zlz (d:=zhZ o)) ?_)
  rw [c1,c2];have e2:(zhZ o).1=a.1:=e1;rw [if_neg (by simp),if_neg (by simp),if_neg (by simp),if_neg (by simp),if_neg (by simp [e1]),if_neg (by simp [e2]),ea,el]
  refine zae (show zrA a l=some (lasE a.1 l) from zae zry rfl) ?_
  by_cases hle:lasE a.1 l=0
  ·rw [if_neg (by simpa using hle)]
   obtain ⟨m1,m2,m3⟩:=zss hle;have q1:=zk5 m1;have q2:=zk5 m2;have hu:=las_b m3 q1.2.2 q2.2.2;have r7:=zs2 (l:=l) ha (by omega) rfl (by omega) rfl m3 (fun i hi=>zuG i hi) (fun i hi=>zx3 i hi)
   refine zae r7 (zae (ziN (m:=o) (l:=l) c1 (by rw [e1];exact hle)) (zae (ziN (m:=zhZ o) (l:=l) c2 (by rw [e2];exact hle)) ?_))
   have l1:=zsQ (d:=o) dok (l:=l) (by rw [e1];exact q1.2.2) (by rw [e1];exact q2.2.2) m3
   have l2:=zsQ (d:=zhZ o) tdok (l:=l) (by rw [e2];exact q1.2.2) (by rw [e2];exact q2.2.2) m3
   have key:=zt0 ha h4 hb hs hmk m3 hu l1;have turn:=zvJ dok (by rw [e1];exact hu) l1 l2
   have n2:0<=safV (zhZ o) l:=by
    obtain ⟨i1,_⟩:=l2;obtain ⟨t,_,e⟩:=i1 0;have hbw:=tdok.tab.wlkb tdok.st.1 tdok.st.2 (zxc (L:=(zhZ o).1) (by rw [e2];exact hu) (t+1))
    have:=tdok.mok _ (zaX (l:=(zhZ o).2.2.2.1) hbw.1 (by have:=tdok.mkl;omega))
    have this : ¬ (mkAt (zhZ o) l t < 0\/9 < mkAt (zhZ o) l t):=this;omega
   rw [Int.tmod_eq_emod_of_nonneg (by omega:0<=safV o l),Int.tmod_eq_emod_of_nonneg n2]
   by_cases hR:RefA a (las l) l.1.length l.2.1.length
   ·have:=key.2 hR;rw [if_pos (by simp [hR,this])]
    have : ¬ safV (zhZ o) l % 2=0:=by omega
    simp [hR,this]
   ·have h3 : ¬ safV o l % 2=0:=fun hh=>hR (key.1 hh)
    rw [if_pos (by simp [hR,h3])]
    have:safV (zhZ o) l % 2=0:=by omega
    simp [hR,this]
  ·rw [if_pos (by simpa using hle)]
 ·obtain ⟨e,he,he0,hsm,hno⟩:∃ e,e=(if autE a=0 then (if 4 < a.2.1 then 1 else 0) else autE a) /\ ¬ e=0/\zd8 a=some e/\((autE a=0/\4 < a.2.1/\e=1)\/(¬ autE a=0/\e=autE a)):=by
   by_cases c:autE a=0
   ·have:4 < a.2.1:=Classical.byContradiction fun hh=>h0 ⟨c,by omega⟩
    rw [if_pos c,if_pos this] at hsm;exact ⟨1,by rw [if_pos c,if_pos this],by omega,hsm,.inl ⟨c,this,rfl⟩⟩
   ·rw [if_neg c] at hsm;exact ⟨autE a,by rw [if_neg c],c,hsm,.inr ⟨c,rfl⟩⟩
  have rD:zgO a=some ((0,0,[],[],()),e):=by
   unfold zgO;rw [ea];refine zae hsm ?_
   rw [if_pos (by simpa using he0)]
  have rO:zd5 a=some ((0,0,[],[],()),e):=by
   unfold zd5;rw [ea];refine zae hsm ?_
   rw [if_pos (by simpa using he0)]
  have fin:zcB a l (0,0,[],[],()) e (0,0,[],[],()) e true e=some true:=by
   unfold zcB;rw [if_neg (by simp),if_pos (by simpa using he0)]
   refine zae zqm (zae zqm ?_)
   rw [if_pos (by simp),if_pos (by simp),if_pos rfl]
  refine zae rD (zae rO (zae same (zae (zlr hl) ?_)))
  rcases hno with ⟨c,d,e1⟩ | ⟨c,e1⟩
  ·rw [if_pos (by simpa using c)]
   unfold zcA;rw [if_pos (by simpa using d)]
   rw [e1] at fin ⊢;exact fin
  ·rw [if_neg (by simpa using c)]
   unfold zcA;rw [if_neg (by simp)]
   rw [e1] at fin ⊢;exact fin
end
end Go.Proofs.Ytobjcafelollfaa.safraDetW
