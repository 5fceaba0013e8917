import Derived.Test.YticelcjhokgcbaaSafraWithinD
set_option maxHeartbeats 1000000
set_option maxRecDepth 20000
set_option linter.unusedSimpArgs false
set_option linter.unusedVariables false
set_option linter.unusedSectionVars false
namespace Go.Proofs.Yticelcjhokgcbaa.safraWithinW
open Go Go.Ab
noncomputable section
theorem zwK {m k:Nat} (hk:k<=64):ishr .i64 (m:Int) (k:Int)=((m >>> k:Nat):Int):=by
 unfold ishr;have e:min ((k:Int).toNat) IntKind.i64.bits=k:=by
  show min ((k:Int).toNat) 64=k;omega
 rw [e,Nat.shiftRight_eq_div_pow,Int.fdiv_eq_ediv_of_nonneg _ (by exact_mod_cast Nat.zero_le _)]
 push_cast;rfl
def zfP (o:Option Bool) (P:Prop):Prop:=∃ b,o=some b/\(b=true↔P)
theorem zfP.of {b:Bool} {P:Prop} (h:b=true↔P):zfP (some b) P:=⟨b,rfl,h⟩
theorem zfP.dec {P Q:Prop} [Decidable P] (h:P↔Q):zfP (some (decide P)) Q:=⟨_,rfl,by simpa using h⟩
theorem zfP.iff {o:Option Bool} {P Q:Prop} (h:zfP o P) (k:P↔Q):zfP o Q:=let ⟨b,h1,h2⟩:=h;⟨b,h1,h2.trans k⟩
theorem zfP.to {R:Type} {o:Option Bool} {P:Prop} {k1 k2 x:Option R} (h:zfP o P) (h1:P->k1=x) (h2 : ¬ P->k2=x):(o.bind fun y=>if y=true then k1 else k2)=x:=by
 obtain ⟨b,rfl,hb⟩:=h;refine zac rfl ?_
 cases b
 ·exact h2 fun hp=>by simpa using hb.2 hp
 ·exact h1 (hb.1 rfl)
section
variable {α C:Type} [Inhabited α]
theorem zho {l:List α} {P:α->Prop}:(∃ x∈l,P x)↔∃ i:Int,0<=i/\i < l.length/\P (ix l i):=by
 constructor
 ·rintro ⟨x,hx,hp⟩;obtain ⟨i,hi,rfl⟩:=List.mem_iff_getElem.1 hx;refine ⟨i,by omega,by omega,?_⟩
  rwa [zlq (by omega) (by omega)]
 ·rintro ⟨i,h0,h1,hp⟩;exact ⟨_,za5 h0 h1,hp⟩
theorem zxA {s:List α} {f:α->Option Bool} {L:Int->Option Int} {P:α->Prop} (hs:s.length<=4611686018427387904)
  (hL:∀ t,L t=if decide (t < (s.length:Int))=true then G (0<=t/\t < (s.length:Int)) ((f (ix s t)).bind fun y=>if y=true then some t else G (fits (t+1)) (L (t+1))) else some (-1))
  (hf:∀ x∈s,zfP (f x) (P x)):∀ (n:Nat) (t:Int),0<=t->t<=s.length->(s.length - t).toNat=n->
   ∃ i,L t=some i/\((i = -1/\∀ j:Int,t<=j->j < s.length -> ¬ P (ix s j))\/(t<=i/\i < s.length/\P (ix s i)/\∀ j:Int,t<=j->j < i -> ¬ P (ix s j))):=by
 intro n
 induction n with
 | zero=>
  intro t h0 h1 hn;refine ⟨-1,?_,.inl ⟨rfl,fun j a b=>by omega⟩⟩
  rw [hL,if_neg (by simp;omega)]
 | succ n ih=>
  intro t h0 h1 hn;rw [hL,if_pos (by simp;omega),zaa (by omega)]
  obtain ⟨b,hb,hbp⟩:=hf _ (za5 h0 (by omega:t < s.length))
  rw [hb]
  cases b with
  | true=>exact ⟨t,rfl,.inr ⟨by omega,by omega,hbp.1 rfl,fun j a b=>by omega⟩⟩
  | false=>
   have hnp : ¬ P (ix s t):=fun hp=>by simpa using hbp.2 hp
   obtain ⟨i,hi,hc⟩:=ih (t+1) (by omega) (by omega) (by omega)
   refine ⟨i,?_,?_⟩
   ·refine (if_neg (by simp):(if false=true then some t else G (fits (t+1)) (L (t+1)))=_).trans ?_
    rw [zaa (by unfold fits;omega),hi]
   ·rcases hc with ⟨h2,h3⟩ | ⟨h2,h3,h4,h5⟩
    ·refine .inl ⟨h2,fun j a b => ?_⟩
     by_cases e:j=t
     ·rw [e];exact hnp
     ·exact h3 j (by omega) b
    ·refine .inr ⟨by omega,h3,h4,fun j a b => ?_⟩
     by_cases e:j=t
     ·rw [e];exact hnp
     ·exact h5 j (by omega) b
theorem zmI {s:List α} {f:α->Option Bool} {L:Int->Option Int} {P:α->Prop}
  (hL:∀ t,L t=if decide (t < (s.length:Int))=true then G (0<=t/\t < (s.length:Int)) ((f (ix s t)).bind fun y=>if y=true then some t else G (fits (t+1)) (L (t+1))) else some (-1))
  (hs:s.length<=4611686018427387904) (hf:∀ x∈s,zfP (f x) (P x)):zfP ((L 0).bind fun y=>some (decide ((0:Int)<=y))) (∃ x∈s,P x):=by
 obtain ⟨i,hi,hc⟩:=zxA hs hL hf _ 0 (by omega) (by omega) rfl
 rw [hi];refine ⟨decide (0<=i),rfl,?_⟩
 rw [decide_eq_true_iff,zho];rcases hc with ⟨h2,h3⟩ | ⟨h2,h3,h4,h5⟩
 ·constructor
  ·intro h;omega
  ·rintro ⟨j,h0,h1,hp⟩;exact absurd hp (h3 j h0 h1)
 ·exact ⟨fun _=>⟨i,by omega,h3,h4⟩,fun _=>by omega⟩
theorem zqU {s:List α} {c:C} {f:α->C->Option (Bool×C)} {L:Int->C->Option (Int×C)} {P:α->Prop}
  (hL:∀ t c,L t c=if decide (t < (s.length:Int))=true then G (0<=t/\t < (s.length:Int)) ((f (ix s t) c).bind fun y=>if y.1=true then some (t,y.2) else G (fits (t+1)) (L (t+1) y.2)) else some (-1,c))
  (hs:s.length<=4611686018427387904) (hf:∀ x∈s,∃ b,f x c=some (b,c)/\(b=true↔P x)):∃ b,((L 0 c).bind fun y=>some (decide ((0:Int)<=y.1),y.2))=some (b,c)/\(b=true↔∃ x∈s,P x):=by
 have key:∀ (n:Nat) (t:Int),0<=t->t<=s.length->(s.length - t).toNat=n->
   ∃ i,L t c=some (i,c)/\((i = -1/\∀ j:Int,t<=j->j < s.length -> ¬ P (ix s j))\/(t<=i/\i < s.length/\P (ix s i))):=by
  intro n
  induction n with
  | zero=>
   intro t h0 h1 hn;refine ⟨-1,?_,.inl ⟨rfl,fun j a b=>by omega⟩⟩
   rw [hL,if_neg (by simp;omega)]
  | succ n ih=>
   intro t h0 h1 hn;rw [hL,if_pos (by simp;omega),zaa (by omega)]
   obtain ⟨b,hb,hbp⟩:=hf _ (za5 h0 (by omega:t < s.length))
   rw [hb]
   cases b with
   | true=>exact ⟨t,rfl,.inr ⟨by omega,by omega,hbp.1 rfl⟩⟩
   | false=>
    have hnp : ¬ P (ix s t):=fun hp=>by simpa using hbp.2 hp
    obtain ⟨i,hi,hc⟩:=ih (t+1) (by omega) (by omega) (by omega)
    refine ⟨i,?_,?_⟩
    ·refine (if_neg (by simp):(if false=true then some (t,c) else G (fits (t+1)) (L (t+1) c))=_).trans ?_
     rw [zaa (by unfold fits;omega),hi]
    ·rcases hc with ⟨h2,h3⟩ | ⟨h2,h3,h4⟩
     ·refine .inl ⟨h2,fun j a b => ?_⟩
      by_cases e:j=t
      ·rw [e];exact hnp
      ·exact h3 j (by omega) b
     ·exact .inr ⟨by omega,h3,h4⟩
 obtain ⟨i,hi,hc⟩:=key _ 0 (by omega) (by omega) rfl
 rw [hi];refine ⟨decide (0<=i),rfl,?_⟩
 rw [decide_eq_true_iff,zho];rcases hc with ⟨h2,h3⟩ | ⟨h2,h3,h4⟩
 ·constructor
  ·intro h;omega
  ·rintro ⟨j,h0,h1,hp⟩;exact absurd hp (h3 j h0 h1)
 ·exact ⟨fun _=>⟨i,by omega,h3,h4⟩,fun _=>by omega⟩
end
theorem zCa {R:Type} {len:Int} {L:Int->Option R} {bad:Int->Prop} {x:Option R} {lo:Int} (h0:lo<=len)
  (hs:∀ t,lo<=t->t < len->(bad t->L t=x)/\(¬ bad t->L t=L (t+1))) (hf:(∀ t,lo<=t->t < len -> ¬ bad t)->L len=x):L lo=x:=by
 have key:∀ (n:Nat) (t:Int),lo<=t->t<=len->(len - t).toNat=n->(∀ j,lo<=j->j < t -> ¬ bad j)->L t=x:=by
  intro n
  induction n with
  | zero=>
   intro t h1 h2 hn h;obtain rfl:t=len:=by omega
   exact hf h
  | succ n ih=>
   intro t h1 h2 hn h;by_cases hb:bad t
   ·exact (hs t h1 (by omega)).1 hb
   ·rw [(hs t h1 (by omega)).2 hb]
    refine ih (t+1) (by omega) (by omega) (by omega) fun j a b => ?_
    by_cases e:j=t
    ·rw [e];exact hb
    ·exact h j a (by omega)
 exact key _ lo (Int.le_refl _) h0 rfl (fun j a b=>by omega)
theorem zsp {letters:Int} {w:List Int} (hL:1<=letters/\letters<=4) (hw:w.length<=(60:Int)):∀ (n:Nat) (i:Int),0<=i->i<=w.length->(w.length - i).toNat=n->(∀ j:Int,0<=j->j < i->0<=ix w j/\ix w j < letters)->zog letters w i=some (mayE letters w):=by
 intro n
 induction n with
 | zero=>
  intro i h0 h1 hn h;rw [zpM];unfold zem
  (try dsimp only);(repeat' first | (with_reducible refine G_to ?_ ?_;focus (first | omega | (unfold fits;omega) | (unfold room;(try simp only [List.length_append,List.length_cons,List.length_nil]);omega))) | (with_reducible refine zbN ?_ ?_) | (with_reducible refine zc9 ?_) | (with_reducible refine zc8 ?_) | (with_reducible refine zeO (fun _ => ?_) (fun _ => ?_)))<;>try (exfalso;omega)
  ·rw [zBX hL hw (fun j a b=>h j a (by omega))]
 | succ n ih=>
  intro i h0 h1 hn h;rw [zpM];unfold zem
  (try dsimp only);(repeat' first | (with_reducible refine G_to ?_ ?_;focus (first | omega | (unfold fits;omega) | (unfold room;(try simp only [List.length_append,List.length_cons,List.length_nil]);omega))) | (with_reducible refine zbN ?_ ?_) | (with_reducible refine zc9 ?_) | (with_reducible refine zc8 ?_) | (with_reducible refine zeO (fun _ => ?_) (fun _ => ?_)))<;>try (exfalso;omega)
  ·rw [zwR hL hw (i:=i) (by omega) (by omega)]
  ·rw [zwR hL hw (i:=i) (by omega) (by omega)]
  ·exact ih _ (by omega) (by omega) (by omega) (zxh h (by omega))
theorem zrz {letters:Int} {w:List Int}:zuU letters w=some (mayE letters w):=by
 unfold zuU
 (try dsimp only);(repeat' first | (with_reducible refine G_to ?_ ?_;focus (first | omega | (unfold fits;omega) | (unfold room;(try simp only [List.length_append,List.length_cons,List.length_nil]);omega))) | (with_reducible refine zbN ?_ ?_) | (with_reducible refine zc9 ?_) | (with_reducible refine zc8 ?_) | (with_reducible refine zeO (fun _ => ?_) (fun _ => ?_)))<;>try (exfalso;omega)
 ·rw [zsH (by omega)]
 ·rw [zsH (by omega)]
 ·rw [zzb (by omega) (by omega)]
 ·exact zsp (by omega) (by omega) _ 0 (by omega) (by omega) rfl (fun j a b=>by omega)
abbrev Stp:=Int×Int×Int×Unit
abbrev Au:=Int×Int×List Int×List Stp×List Int×Unit
theorem zwf {R:Type} {len:Int} {L:Int->Option R} {bad:Int->Prop} {x:Option R} {lo:Int}
  (hs:∀ t,lo<=t->t < len->(bad t->L t=x)/\(¬ bad t->L t=L (t+1))) (hf:∀ t,lo<=t->len<=t->(∀ u,lo<=u->u < len -> ¬ bad u)->L t=x):L lo=x:=by
 by_cases h:lo<=len
 ·exact zCa h hs (fun hh=>hf len h (Int.le_refl _) hh)
 ·exact hf lo (Int.le_refl _) (by omega) (fun u a b=>by omega)
def noS (a:Au) (q:Int):Prop:=q < 0\/a.2.1<=q
def badX (a:Au) (x:Stp):Prop:=noS a x.1\/noS a x.2.2.1\/x.2.1 < 0\/a.1<=x.2.1
def zps (x y:Stp):Prop:=x.1 < y.1\/(x.1=y.1/\(x.2.1 < y.2.1\/(x.2.1=y.2.1/\x.2.2.1 < y.2.2.1)))
def zs1 (l:List Int):Prop:=∃ i:Int,1<=i/\i < l.length/\ix l i<=ix l (i - 1)
def FallX (l:List Stp):Prop:=∃ i:Int,1<=i/\i < l.length /\ ¬ zps (ix l (i - 1)) (ix l i)
def zs0 (a:Au):Prop:=a.2.1 < 1\/300 < a.2.1\/40000 < (a.2.2.2.1.length:Int)
def AOut (a:Au):Prop:=(∃ q∈a.2.2.1,noS a q)\/(∃ q∈a.2.2.2.2.1,noS a q)\/(∃ x∈a.2.2.2.1,badX a x)
def zqE (a:Au):Prop:=zs1 a.2.2.1\/zs1 a.2.2.2.2.1\/FallX a.2.2.2.1
open Classical in
def autE (a:Au):Int:=if a.1 < 1\/4 < a.1 then 2 else if zs0 a then 1 else if AOut a then 2 else if zqE a then 3 else 0
structure AuLen (a:Au):Prop where
 s:(a.2.2.1.length:Int)<=20000000000000
 f:(a.2.2.2.2.1.length:Int)<=20000000000000
theorem ztG (q:Int) (a:Au):zfP (zc5 q a) (noS a q):=by
 unfold zc5 noS;by_cases h:q < 0
 ·rw [if_pos (decide_eq_true h)];exact zfP.of (by simp [h])
 ·rw [if_neg (by simpa using h)];exact zfP.dec (by omega)
theorem zrR {l:List Int} (hl:(l.length:Int)<=20000000000000):zfP (zgb l) (¬ zs1 l):=by
 unfold zgb;have key:∀ (n:Nat) (t:Int),(l.length - t).toNat=n->0<=t->t<=l.length->(∀ i:Int,1<=i->i < t -> ¬ ix l i<=ix l (i - 1))->zfP (zeJ l t) (¬ zs1 l):=by
  intro n
  induction n with
  | zero=>
   intro t hn h0 h1 hj;rw [zh6];unfold zbO;rw [if_neg (by simp;omega)]
   refine zfP.of (Iff.intro (fun _ hh => ?_) (fun _=>rfl))
   obtain ⟨i,i0,i1,i2⟩:=hh;exact hj i i0 (by omega) i2
  | succ n ih=>
   intro t hn h0 h1 hj;rw [zh6];unfold zbO;rw [if_pos (by simp;omega)]
   by_cases c:0 < t
   ·rw [if_pos (decide_eq_true c),zaa (by unfold fits;omega),zaa (by omega),zaa (by omega)]
    by_cases c2:ix l t<=ix l (t - 1)
    ·rw [if_pos (decide_eq_true c2)];exact zfP.of ⟨fun e=>absurd e (by simp),fun h=>absurd ⟨t,by omega,by omega,c2⟩ h⟩
    ·rw [if_neg (by simpa using c2),zaa (by unfold fits;omega)]
     refine ih (t+1) (by omega) (by omega) (by omega) (fun i i0 i1 => ?_)
     by_cases e:i=t
     ·rw [e];exact c2
     ·exact hj i i0 (by omega)
   ·rw [if_neg (by simpa using c),zaa (by unfold fits;omega)]
    exact ih (t+1) (by omega) (by omega) (by omega) (fun i i0 i1=>by omega)
 exact key _ 0 rfl (by omega) (by omega) (fun i i0 i1=>by omega)
theorem zsI (x y:Stp):∃ v:Int,zjV x y=some v/\(v < 0↔zps x y):=by
 have cmp:∀ a b:Int,zfR a b=some (if a < b then -1 else if b < a then 1 else 0):=fun a b=>by
  unfold zfR znG;refine zac rfl (zac rfl ?_)
  rw [if_neg (by simp),if_neg (by simp)]
  by_cases c:a < b
  ·rw [if_pos (decide_eq_true c),if_pos c]
  ·rw [if_neg (by simpa using c),if_neg c]
   by_cases c2:b < a
   ·rw [if_pos (decide_eq_true c2),if_pos c2]
   ·rw [if_neg (by simpa using c2),if_neg c2]
 have or3:∀ p q r:Int,zwu [p,q,r]=some (if p≠0 then p else if q≠0 then q else r):=fun p q r=>by
  unfold zwu;rw [zh9];unfold zc6;rw [if_pos (by simp),zaa (by simp),show ix [p,q,r] 0=p from rfl]
  by_cases c:p=0
  ·rw [if_neg (by simpa using c),if_neg (by simpa using c),zaa (by unfold fits;omega),zh9];unfold zc6
   rw [if_pos (by simp),zaa (by simp),show ix [p,q,r] (0+1)=q from rfl]
   by_cases c2:q=0
   ·rw [if_neg (by simpa using c2),if_neg (by simpa using c2),zaa (by unfold fits;omega),zh9];unfold zc6
    rw [if_pos (by simp),zaa (by simp),show ix [p,q,r] (0+1+1)=r from rfl]
    by_cases c3:r=0
    ·rw [if_neg (by simpa using c3),zaa (by unfold fits;omega),zh9];unfold zc6
     rw [if_neg (by simp),c3]
    ·rw [if_pos (by simpa using c3)]
   ·rw [if_pos (by simpa using c2),if_pos (by simpa using c2)]
  ·rw [if_pos (by simpa using c),if_pos (by simpa using c)]
 refine ⟨if (if x.1 < y.1 then (-1:Int) else if y.1 < x.1 then 1 else 0)≠0 then (if x.1 < y.1 then -1 else if y.1 < x.1 then 1 else 0) else if (if x.2.1 < y.2.1 then (-1:Int) else if y.2.1 < x.2.1 then 1 else 0)≠0 then (if x.2.1 < y.2.1 then -1 else if y.2.1 < x.2.1 then 1 else 0) else (if x.2.2.1 < y.2.2.1 then -1 else if y.2.2.1 < x.2.2.1 then 1 else 0),?_,?_⟩
 ·unfold zjV;exact zac (cmp _ _) (zac (cmp _ _) (zac (cmp _ _) (zac (or3 _ _ _) rfl)))
 ·unfold zps;generalize x.1=a,y.1=b,x.2.1=c,y.2.1=e,x.2.2.1=f,y.2.2.1=g;by_cases h1:a < b
  ·rw [if_pos h1];simp [h1]
  ·rw [if_neg h1];by_cases h2:b < a
   ·rw [if_pos h2];simp;omega
   ·rw [if_neg h2];have:a=b:=by omega
    subst this;by_cases h3:c < e
    ·rw [if_pos h3];simp [h3]
    ·rw [if_neg h3];by_cases h4:e < c
     ·rw [if_pos h4];simp;omega
     ·rw [if_neg h4];have:c=e:=by omega
      subst this;by_cases h5:f < g
      ·rw [if_pos h5];simp [h5]
      ·rw [if_neg h5];by_cases h6:g < f
       ·rw [if_pos h6];simp;omega
       ·rw [if_neg h6];simp;omega
theorem zvw (x:Stp) (a:Au):∃ b,zeH x a a=some (b,a)/\(b=true↔badX a x):=by
 unfold zeH badX;obtain ⟨p,hp,hp2⟩:=ztG x.1 a;obtain ⟨q,hq,hq2⟩:=ztG x.2.2.1 a;rw [hp]
 cases p with
 | true=>exact ⟨true,rfl,by simp [hp2.1 rfl]⟩
 | false=>
  have np : ¬ noS a x.1:=fun h=>by have:=hp2.2 h;cases this
  cases q with
  | true=>exact ⟨true,zac rfl (by rw [if_neg (by simp)];exact zac hq rfl),by simp [hq2.1 rfl]⟩
  | false=>
   have nq : ¬ noS a x.2.2.1:=fun h=>by have:=hq2.2 h;cases this
   by_cases c:x.2.1 < 0
   ·exact ⟨true,zac rfl (by rw [if_neg (by simp)];exact zac hq (by rw [if_neg (by simp),if_pos (decide_eq_true c)])),by simp [c]⟩
   ·exact ⟨decide (a.1<=x.2.1),zac rfl (by rw [if_neg (by simp)];exact zac hq (by rw [if_neg (by simp),if_neg (by simpa using c)])),by simp [np,nq];omega⟩
theorem zec {a:Au} (hl:AuLen a):zdB a=some (autE a):=by
 have hs:=hl.s;have hff:=hl.f;unfold zdB autE;by_cases c1:a.1 < 1\/4 < a.1
 ·rw [if_pos c1]
  (try dsimp only);(repeat' first | (with_reducible refine G_to ?_ ?_;focus (first | omega | (unfold fits;omega) | (unfold room;(try simp only [List.length_append,List.length_cons,List.length_nil]);omega))) | (with_reducible refine zbN ?_ ?_) | (with_reducible refine zc9 ?_) | (with_reducible refine zc8 ?_) | (with_reducible refine zeO (fun _ => ?_) (fun _ => ?_)))<;>try (exfalso;omega)
  all_goals rfl
 rw [if_neg c1];by_cases c2:zs0 a
 ·rw [if_pos c2];unfold zs0 at c2
  (try dsimp only);(repeat' first | (with_reducible refine G_to ?_ ?_;focus (first | omega | (unfold fits;omega) | (unfold room;(try simp only [List.length_append,List.length_cons,List.length_nil]);omega))) | (with_reducible refine zbN ?_ ?_) | (with_reducible refine zc9 ?_) | (with_reducible refine zc8 ?_) | (with_reducible refine zeO (fun _ => ?_) (fun _ => ?_)))<;>try (exfalso;omega)
  all_goals rfl
 rw [if_neg c2];unfold zs0 at c2
 (try dsimp only);(repeat' first | (with_reducible refine G_to ?_ ?_;focus (first | omega | (unfold fits;omega) | (unfold room;(try simp only [List.length_append,List.length_cons,List.length_nil]);omega))) | (with_reducible refine zbN ?_ ?_) | (with_reducible refine zc9 ?_) | (with_reducible refine zc8 ?_) | (with_reducible refine zeO (fun _ => ?_) (fun _ => ?_)))<;>try (exfalso;omega)
 have k1:∀ s:List Int,(s.length:Int)<=20000000000000->zfP (zdh s a) (∃ q∈s,noS a q):=fun s hs=>zmI (f:=fun q=>zc5 q a) (zk4 s a) (by omega) (fun x _=>ztG x a)
 obtain ⟨b3,hb3,hb32⟩:∃ b,zdM a.2.2.2.1 a a=some (b,a)/\(b=true↔∃ x∈a.2.2.2.1,badX a x):=
  zqU (f:=fun x c=>zeH x a c) (L:=fun t c=>zcI a.2.2.2.1 a t c) (fun t c=>zjR a.2.2.2.1 a t c) (by omega) (fun x _=>zvw x a)
 have ea:(a.1,a.2.1,a.2.2.1,a.2.2.2.1,a.2.2.2.2.1,())=a:=rfl;rw [ea];refine (k1 _ hs).to (fun h=>by rw [if_pos (show AOut a from .inl h)]) (fun h1 => ?_)
 refine (k1 _ hff).to (fun h=>by rw [if_pos (show AOut a from .inr (.inl h))]) (fun h2 => ?_)
 refine zac hb3 ?_
 by_cases h3:∃ x∈a.2.2.2.1,badX a x
 ·rw [if_pos (hb32.2 h3),if_pos (show AOut a from .inr (.inr h3))]
 rw [if_neg (fun e=>h3 (hb32.1 e)),if_neg (show ¬ AOut a from fun h=>h.elim h1 (fun h=>h.elim h2 h3))]
 obtain ⟨r1,e1,f1⟩:=zrR hs;obtain ⟨r2,e2,f2⟩:=zrR hff;refine zac e1 ?_
 by_cases g1:zs1 a.2.2.1
 ·rw [if_pos (show zqE a from .inl g1),if_pos (by cases r1;rfl;exact absurd g1 (f1.1 rfl))]
 rw [if_neg (by rw [f1.2 g1];simp)]
 refine zac e2 ?_
 by_cases g2:zs1 a.2.2.2.2.1
 ·rw [if_pos (show zqE a from .inr (.inl g2)),if_pos (by cases r2;rfl;exact absurd g2 (f2.1 rfl))]
 rw [if_neg (by rw [f2.2 g2];simp)]
 refine zwf (len:=(a.2.2.2.1.length:Int)) (bad:=fun t=>1<=t /\ ¬ zps (ix a.2.2.2.1 (t - 1)) (ix a.2.2.2.1 t)) (lo:=0) (fun t t0 t1=>⟨fun hb => ?_,fun hb => ?_⟩) (fun t t0 t1 hh => ?_)
 ·rw [if_pos (show zqE a from .inr (.inr ⟨t,hb.1,t1,hb.2⟩)),zeI];unfold zbs;obtain ⟨v,hv,hv2⟩:=zsI (ix a.2.2.2.1 (t - 1)) (ix a.2.2.2.1 t);rw [if_pos (by simp;omega),if_pos (by simp;omega),zaa (by unfold fits;omega),zaa (by omega),zaa (by omega)]
  refine zac hv ?_
  rw [if_pos (by rw [decide_eq_true_iff];exact Int.not_lt.1 (fun h=>hb.2 (hv2.1 h)))]
 ·conv=>lhs;rw [zeI];unfold zbs
  rw [if_pos (by simp;omega)]
  by_cases c:0 < t
  ·obtain ⟨v,hv,hv2⟩:=zsI (ix a.2.2.2.1 (t - 1)) (ix a.2.2.2.1 t);have hah:zps (ix a.2.2.2.1 (t - 1)) (ix a.2.2.2.1 t):=Classical.byContradiction fun hn=>hb ⟨by omega,hn⟩
   rw [if_pos (decide_eq_true c),zaa (by unfold fits;omega),zaa (by omega),zaa (by omega)]
   refine zac hv ?_
   rw [if_neg (by have:=hv2.2 hah;simp;omega),zaa (by unfold fits;omega)]
  ·rw [if_neg (by simpa using c),zaa (by unfold fits;omega)]
 ·rw [if_neg (show ¬ zqE a from fun h=>h.elim g1 (fun h=>h.elim g2 (fun ⟨i,i0,i1,i2⟩=>hh i (by omega) i1 ⟨i0,i2⟩))),zeI];unfold zbs
  rw [if_neg (by simp;omega)]
theorem zok (x y:Stp):zfP (zqz x y) (zps x y):=by
 unfold zqz zps;by_cases c:x.1=y.1
 ·rw [if_neg (by simpa using c)]
  by_cases c2:x.2.1=y.2.1
  ·rw [if_neg (by simpa using c2)];exact zfP.dec (by omega)
  ·rw [if_pos (by simpa using c2)];exact zfP.dec (by omega)
 ·rw [if_pos (by simpa using c)];exact zfP.dec (by omega)
theorem zon {a:Au} (hl:AuLen a):zol a=some (autE a):=by
 have hs:=hl.s;have hff:=hl.f;unfold zol autE;by_cases c1:a.1 < 1\/4 < a.1
 ·rw [if_pos c1]
  (try dsimp only);(repeat' first | (with_reducible refine G_to ?_ ?_;focus (first | omega | (unfold fits;omega) | (unfold room;(try simp only [List.length_append,List.length_cons,List.length_nil]);omega))) | (with_reducible refine zbN ?_ ?_) | (with_reducible refine zc9 ?_) | (with_reducible refine zc8 ?_) | (with_reducible refine zeO (fun _ => ?_) (fun _ => ?_)))<;>try (exfalso;omega)
  all_goals rfl
 rw [if_neg c1];by_cases c2:zs0 a
 ·rw [if_pos c2];unfold zs0 at c2
  (try dsimp only);(repeat' first | (with_reducible refine G_to ?_ ?_;focus (first | omega | (unfold fits;omega) | (unfold room;(try simp only [List.length_append,List.length_cons,List.length_nil]);omega))) | (with_reducible refine zbN ?_ ?_) | (with_reducible refine zc9 ?_) | (with_reducible refine zc8 ?_) | (with_reducible refine zeO (fun _ => ?_) (fun _ => ?_)))<;>try (exfalso;omega)
  all_goals rfl
 rw [if_neg c2];unfold zs0 at c2
 (try dsimp only);(repeat' first | (with_reducible refine G_to ?_ ?_;focus (first | omega | (unfold fits;omega) | (unfold room;(try simp only [List.length_append,List.length_cons,List.length_nil]);omega))) | (with_reducible refine zbN ?_ ?_) | (with_reducible refine zc9 ?_) | (with_reducible refine zc8 ?_) | (with_reducible refine zeO (fun _ => ?_) (fun _ => ?_)))<;>try (exfalso;omega)
 refine zwf (len:=(a.2.2.1.length:Int)) (bad:=fun t=>noS a (ix a.2.2.1 t)) (lo:=0) (fun t t0 t1=>⟨fun hb => ?_,fun hb => ?_⟩) (fun t t0 t1 hh => ?_)
 ·rw [if_pos (show AOut a from .inl (zho.2 ⟨t,t0,t1,hb⟩)),ziC];unfold zcC;unfold noS at hb
  (try dsimp only);(repeat' first | (with_reducible refine G_to ?_ ?_;focus (first | omega | (unfold fits;omega) | (unfold room;(try simp only [List.length_append,List.length_cons,List.length_nil]);omega))) | (with_reducible refine zbN ?_ ?_) | (with_reducible refine zc9 ?_) | (with_reducible refine zc8 ?_) | (with_reducible refine zeO (fun _ => ?_) (fun _ => ?_)))<;>try (exfalso;omega)
  all_goals rfl
 ·conv=>lhs;rw [ziC];unfold zcC
  unfold noS at hb
  (try dsimp only);(repeat' first | (with_reducible refine G_to ?_ ?_;focus (first | omega | (unfold fits;omega) | (unfold room;(try simp only [List.length_append,List.length_cons,List.length_nil]);omega))) | (with_reducible refine zbN ?_ ?_) | (with_reducible refine zc9 ?_) | (with_reducible refine zc8 ?_) | (with_reducible refine zeO (fun _ => ?_) (fun _ => ?_)))<;>try (exfalso;omega)
  all_goals rfl
 have h1 : ¬ ∃ q∈a.2.2.1,noS a q:=fun h=>by obtain ⟨i,i0,i1,i2⟩:=zho.1 h;exact hh i i0 i1 i2
 rw [ziC];unfold zcC;rw [if_neg (by simp;omega)]
 refine zwf (len:=(a.2.2.2.2.1.length:Int)) (bad:=fun t=>noS a (ix a.2.2.2.2.1 t)) (lo:=0) (fun t t0 t1=>⟨fun hb => ?_,fun hb => ?_⟩) (fun t t0 t1 hh => ?_)
 ·rw [if_pos (show AOut a from .inr (.inl (zho.2 ⟨t,t0,t1,hb⟩))),zhw];unfold zch;unfold noS at hb
  (try dsimp only);(repeat' first | (with_reducible refine G_to ?_ ?_;focus (first | omega | (unfold fits;omega) | (unfold room;(try simp only [List.length_append,List.length_cons,List.length_nil]);omega))) | (with_reducible refine zbN ?_ ?_) | (with_reducible refine zc9 ?_) | (with_reducible refine zc8 ?_) | (with_reducible refine zeO (fun _ => ?_) (fun _ => ?_)))<;>try (exfalso;omega)
  all_goals rfl
 ·conv=>lhs;rw [zhw];unfold zch
  unfold noS at hb
  (try dsimp only);(repeat' first | (with_reducible refine G_to ?_ ?_;focus (first | omega | (unfold fits;omega) | (unfold room;(try simp only [List.length_append,List.length_cons,List.length_nil]);omega))) | (with_reducible refine zbN ?_ ?_) | (with_reducible refine zc9 ?_) | (with_reducible refine zc8 ?_) | (with_reducible refine zeO (fun _ => ?_) (fun _ => ?_)))<;>try (exfalso;omega)
  all_goals rfl
 have h2 : ¬ ∃ q∈a.2.2.2.2.1,noS a q:=fun h=>by obtain ⟨i,i0,i1,i2⟩:=zho.1 h;exact hh i i0 i1 i2
 rw [zhw];unfold zch;rw [if_neg (by simp;omega)]
 refine zwf (len:=(a.2.2.2.1.length:Int)) (bad:=fun t=>badX a (ix a.2.2.2.1 t)) (lo:=0) (fun t t0 t1=>⟨fun hb => ?_,fun hb => ?_⟩) (fun t t0 t1 hh => ?_)
 ·rw [if_pos (show AOut a from .inr (.inr (zho.2 ⟨t,t0,t1,hb⟩))),zhx];unfold zci;unfold badX noS at hb
  (try dsimp only);(repeat' first | (with_reducible refine G_to ?_ ?_;focus (first | omega | (unfold fits;omega) | (unfold room;(try simp only [List.length_append,List.length_cons,List.length_nil]);omega))) | (with_reducible refine zbN ?_ ?_) | (with_reducible refine zc9 ?_) | (with_reducible refine zc8 ?_) | (with_reducible refine zeO (fun _ => ?_) (fun _ => ?_)))<;>try (exfalso;omega)
  all_goals rfl
 ·conv=>lhs;rw [zhx];unfold zci
  unfold badX noS at hb
  (try dsimp only);(repeat' first | (with_reducible refine G_to ?_ ?_;focus (first | omega | (unfold fits;omega) | (unfold room;(try simp only [List.length_append,List.length_cons,List.length_nil]);omega))) | (with_reducible refine zbN ?_ ?_) | (with_reducible refine zc9 ?_) | (with_reducible refine zc8 ?_) | (with_reducible refine zeO (fun _ => ?_) (fun _ => ?_)))<;>try (exfalso;omega)
  all_goals rfl
 have h3 : ¬ ∃ q∈a.2.2.2.1,badX a q:=fun h=>by obtain ⟨i,i0,i1,i2⟩:=zho.1 h;exact hh i i0 i1 i2
 rw [if_neg (show ¬ AOut a from fun h=>h.elim h1 (fun h=>h.elim h2 h3)),zhx];unfold zci
 rw [if_neg (by simp;omega)]
 refine zwf (len:=(a.2.2.1.length:Int)) (bad:=fun t=>ix a.2.2.1 t<=ix a.2.2.1 (t - 1)) (lo:=1) (fun t t0 t1=>⟨fun hb => ?_,fun hb => ?_⟩) (fun t t0 t1 hh => ?_)
 ·rw [if_pos (show zqE a from .inl ⟨t,t0,t1,hb⟩),zhy];unfold zcj
  (try dsimp only);(repeat' first | (with_reducible refine G_to ?_ ?_;focus (first | omega | (unfold fits;omega) | (unfold room;(try simp only [List.length_append,List.length_cons,List.length_nil]);omega))) | (with_reducible refine zbN ?_ ?_) | (with_reducible refine zc9 ?_) | (with_reducible refine zc8 ?_) | (with_reducible refine zeO (fun _ => ?_) (fun _ => ?_)))<;>try (exfalso;omega)
  all_goals rfl
 ·conv=>lhs;rw [zhy];unfold zcj
  (try dsimp only);(repeat' first | (with_reducible refine G_to ?_ ?_;focus (first | omega | (unfold fits;omega) | (unfold room;(try simp only [List.length_append,List.length_cons,List.length_nil]);omega))) | (with_reducible refine zbN ?_ ?_) | (with_reducible refine zc9 ?_) | (with_reducible refine zc8 ?_) | (with_reducible refine zeO (fun _ => ?_) (fun _ => ?_)))<;>try (exfalso;omega)
  all_goals rfl
 have g1 : ¬ zs1 a.2.2.1:=fun ⟨i,i0,i1,i2⟩=>hh i i0 i1 i2
 rw [zhy];unfold zcj;rw [if_neg (by simp;omega)]
 refine zwf (len:=(a.2.2.2.2.1.length:Int)) (bad:=fun t=>ix a.2.2.2.2.1 t<=ix a.2.2.2.2.1 (t - 1)) (lo:=1) (fun t t0 t1=>⟨fun hb => ?_,fun hb => ?_⟩) (fun t t0 t1 hh => ?_)
 ·rw [if_pos (show zqE a from .inr (.inl ⟨t,t0,t1,hb⟩)),zhz];unfold zck
  (try dsimp only);(repeat' first | (with_reducible refine G_to ?_ ?_;focus (first | omega | (unfold fits;omega) | (unfold room;(try simp only [List.length_append,List.length_cons,List.length_nil]);omega))) | (with_reducible refine zbN ?_ ?_) | (with_reducible refine zc9 ?_) | (with_reducible refine zc8 ?_) | (with_reducible refine zeO (fun _ => ?_) (fun _ => ?_)))<;>try (exfalso;omega)
  all_goals rfl
 ·conv=>lhs;rw [zhz];unfold zck
  (try dsimp only);(repeat' first | (with_reducible refine G_to ?_ ?_;focus (first | omega | (unfold fits;omega) | (unfold room;(try simp only [List.length_append,List.length_cons,List.length_nil]);omega))) | (with_reducible refine zbN ?_ ?_) | (with_reducible refine zc9 ?_) | (with_reducible refine zc8 ?_) | (with_reducible refine zeO (fun _ => ?_) (fun _ => ?_)))<;>try (exfalso;omega)
  all_goals rfl
 have g2 : ¬ zs1 a.2.2.2.2.1:=fun ⟨i,i0,i1,i2⟩=>hh i i0 i1 i2
 rw [zhz];unfold zck;rw [if_neg (by simp;omega)]
 refine zwf (len:=(a.2.2.2.1.length:Int)) (bad:=fun t => ¬ zps (ix a.2.2.2.1 (t - 1)) (ix a.2.2.2.1 t)) (lo:=1) (fun t t0 t1=>⟨fun hb => ?_,fun hb => ?_⟩) (fun t t0 t1 hh => ?_)
 ·rw [if_pos (show zqE a from .inr (.inr ⟨t,t0,t1,hb⟩)),zhA];unfold zcl;obtain ⟨v,hv,hv2⟩:=zok (ix a.2.2.2.1 (t - 1)) (ix a.2.2.2.1 t);rw [if_pos (by simp;omega),zaa (by unfold fits;omega),zaa (by omega),zaa (by omega)]
  refine zac hv ?_
  rw [if_pos (by cases v;rfl;exact absurd (hv2.1 rfl) hb)]
 ·conv=>lhs;rw [zhA];unfold zcl
  obtain ⟨v,hv,hv2⟩:=zok (ix a.2.2.2.1 (t - 1)) (ix a.2.2.2.1 t);rw [if_pos (by simp;omega),zaa (by unfold fits;omega),zaa (by omega),zaa (by omega)]
  refine zac hv ?_
  rw [if_neg (by rw [hv2.2 (Classical.byContradiction hb)];simp),zaa (by unfold fits;omega)]
 ·rw [if_neg (show ¬ zqE a from fun h=>h.elim g1 (fun h=>h.elim g2 (fun ⟨i,i0,i1,i2⟩=>hh i i0 i1 i2))),zhA];unfold zcl
  rw [if_neg (by simp;omega)]
def lasE (letters:Int) (l:List Int×List Int×Unit):Int:=if mayE letters l.1=0 then (if mayE letters l.2.1=0 then (if l.2.1.length=0 then 1 else 0) else mayE letters l.2.1) else mayE letters l.1
theorem ztN {letters:Int} {l:List Int×List Int×Unit}:zqy letters l=some (lasE letters l):=by
 unfold zqy lasE;refine zac zrz ?_
 by_cases h1:mayE letters l.1=0
 ·rw [if_pos h1,if_neg (by simp [h1])]
  refine zac zrz ?_
  by_cases h2:mayE letters l.2.1=0
  ·rw [if_pos h2,if_neg (by simp [h2])]
   by_cases h3:l.2.1.length=0
   ·rw [if_pos (by simp [h3]),if_pos h3]
   ·rw [if_neg (by simp only [decide_eq_true_eq];omega),if_neg h3]
  ·rw [if_neg h2,if_pos (by simp [h2])]
 ·rw [if_neg h1,if_pos (by simp [h1])]
theorem zy3 {letters:Int} {l:List Int×List Int×Unit} (h:lasE letters l=0):mayE letters l.1=0/\mayE letters l.2.1=0/\0 < l.2.1.length:=by
 unfold lasE at h;by_cases h1:mayE letters l.1=0
 ·rw [if_pos h1] at h;by_cases h2:mayE letters l.2.1=0
  ·rw [if_pos h2] at h;by_cases h3:l.2.1.length=0
   ·rw [if_pos h3] at h;omega
   ·exact ⟨h1,h2,by omega⟩
  ·rw [if_neg h2] at h;exact absurd h h2
 ·rw [if_neg h1] at h;exact absurd h h1
section
abbrev LsT:=List Int×List Int×Unit
def las (l:LsT) (t:Nat):Int:=if t < l.1.length then ix l.1 (t:Int) else ix l.2.1 (((t - l.1.length) % l.2.1.length:Nat):Int)
theorem zmh {l:LsT} (i:Nat) (h:i < l.1.length):ix l.1 (i:Int)=las l i:=by unfold las;rw [if_pos h]
theorem zn2 {l:LsT} (i:Nat) (h:i < l.2.1.length):ix l.2.1 (i:Int)=las l (l.1.length+i):=by
 unfold las;rw [if_neg (by omega),show l.1.length+i - l.1.length=i by omega,Nat.mod_eq_of_lt h]
theorem zy4 {l:LsT} (t:Nat) (h:l.1.length<=t):las l (t+l.2.1.length)=las l t:=by
 unfold las;rw [if_neg (by omega),if_neg (by omega),show t+l.2.1.length - l.1.length=(t - l.1.length)+l.2.1.length by omega,Nat.add_mod_right]
end
theorem zpm {s:List Int} (hs:s.length * 8<=140737488355328):zis s=some s:=by
 have hr:G (room ([]:List Int) s 8) (some (([]:List Int)++s))=some s:=by
  rw [zaa (zB9 (by simpa using hs))];rfl
 unfold zis;refine zBP (fun h => ?_) (fun h=>hr)
 obtain rfl:s=[]:=List.length_eq_zero_iff.1 h;rw [hr];exact zqJ (ts:=[(.list (.int .i64))]) (some ([]:List Int))
def stp (N:List (List Int)) (q a:Int):Int:=ix (ix N q) a
def wlk (N:List (List Int)) (q:Int) (w:List Int):Int:=w.foldl (stp N) q
structure Tab (L:Int) (N:List (List Int)):Prop where
 row:∀ r∈N,(r.length:Int)=L
 to:∀ r∈N,∀ q∈r,0<=q/\q < N.length
theorem Tab.stpb {L:Int} {N:List (List Int)} (h:Tab L N) {q a:Int} (q0:0<=q) (q1:q < N.length) (a0:0<=a) (a1:a < L):0<=stp N q a/\stp N q a < N.length:=by
 have h1:=za5 q0 q1;have h2:=h.row _ h1;exact h.to _ h1 _ (za5 a0 (by omega))
theorem Tab.rowlen {L:Int} {N:List (List Int)} (h:Tab L N) {q:Int} (q0:0<=q) (q1:q < N.length):((ix N q).length:Int)=L:=h.row _ (za5 q0 q1)
theorem Tab.wlkb {L:Int} {N:List (List Int)} (h:Tab L N):∀ {w:List Int} {q:Int},0<=q->q < N.length->(∀ a∈w,0<=a/\a < L)->0<=wlk N q w/\wlk N q w < N.length
 | [],q,q0,q1,_=>⟨q0,q1⟩
 | a::w,q,q0,q1,hw=>by
  have:=h.stpb q0 q1 (hw a (by simp)).1 (hw a (by simp)).2
  exact Tab.wlkb h (q:=stp N q a) (w:=w) this.1 this.2 (fun b hb=>hw b (by simp [hb]))
theorem zcA {α:Type}:∀ {ks:List α} {x:α},zbG ks x=none↔x∉ks
 | [],x=>by simp [zbG]
 | y::ys,x=>by
  unfold zbG;by_cases h:y=x
  ·rw [if_pos h];simp [h]
  ·rw [if_neg h,Option.map_eq_none_iff,zcA];simp [Ne.symm h]
theorem zrq {α:Type} {ks:List α} {x:α} (h:x∉ks):znl ks x=ks++[x]:=by
 unfold znl;rw [zcA.2 h]
theorem zrw {α:Type} [DecidableEq α]:∀ {l U:List α},l.Nodup->(∀ x∈l,x∈U)->l.length<=U.length
 | [],_,_,_=>Nat.zero_le _
 | a::l,U,hn,hs=>by
  have ha:=hs a (by simp)
  obtain ⟨h1,h2⟩:=List.nodup_cons.1 hn;have:=zrw (U:=U.erase a) h2 (fun x hx=>(List.mem_erase_of_ne (by rintro rfl;exact h1 hx)).2 (hs x (by simp [hx])))
  rw [List.length_erase_of_mem ha] at this;have hp:0 < U.length:=List.length_pos_of_mem ha;rw [List.length_cons];omega
theorem zo4 {l:List Int} {n:Nat} (h:l.Nodup) (hb:∀ x∈l,0<=x/\x < n):l.length<=n:=by
 have:=zrw (U:=(List.range n).map Int.ofNat) h (fun x hx=>by
  have:=hb x hx;exact List.mem_map.2 ⟨x.toNat,List.mem_range.2 (by omega),by show ((x.toNat:Nat):Int)=x;omega⟩)
 simpa using this
theorem zuM {α:Type} {ks:List α} {x:α} (h:x∈ks):∃ j,zbG ks x=some j:=by
 cases e:zbG ks x with
 | none=>exact absurd h (zcA.1 e)
 | some j=>exact ⟨j,rfl⟩
theorem zmm {α:Type} (ks:List α) (x:α):zbG (x::ks) x=some 0:=by unfold zbG;rw [if_pos rfl]
theorem zn8 {α:Type} {ks:List α} {x y:α} (h:y≠x):zbG (y::ks) x=(zbG ks x).map (·+1):=by
 rw [zbG,if_neg h]
theorem zrn {α:Type}:∀ {ks:List α} {x:α} {j:Nat} (l:List α),zbG ks x=some j->zbG (ks++l) x=some j
 | [],_,_,_,h=>by cases h
 | y::ks,x,j,l,h=>by
  rw [List.cons_append];by_cases e:y=x
  ·subst e;rw [zmm] at h ⊢;exact h
  ·rw [zn8 e] at h ⊢
   cases hm:zbG ks x with
   | none=>rw [hm] at h;cases h
   | some i=>rw [hm] at h;rw [zrn l hm];exact h
theorem zuN {α:Type}:∀ {ks:List α} {x:α},x∉ks->zbG (ks++[x]) x=some ks.length
 | [],x,_=>zmm _ _
 | y::ks,x,h=>by
  have hy:y≠x:=by rintro rfl;exact h (by simp)
  rw [List.cons_append,zn8 hy,zuN (fun hh=>h (by simp [hh]))];rfl
theorem zwT {α:Type}:∀ {ks:List α} {x:α} {k:Nat},ks[k]? =some x->(∀ j,j < k->ks[j]? ≠some x)->zbG ks x=some k
 | [],_,_,h,_=>by simp at h
 | y::ks,x,k,h,hf=>by
  cases k with
  | zero=>
   have:y=x:=by simpa using h
   subst this;exact zmm _ _
  | succ k=>
   have hy:y≠x:=by have:=hf 0 (by omega);simpa using this
   rw [zn8 hy,zwT (k:=k) (by simpa using h) (fun j hj=>by have:=hf (j+1) (by omega);simpa using this)];rfl
theorem zzd {α:Type} {ks:List α} {x y:α} {j:Nat} (h:zbG ks x=some j) (k:zbG ks y=some j):x=y:=by
 have:=zht h;rw [zht k] at this;injection this with this;exact this.symm
theorem zvZ {α:Type} {ks:List α} (hn:ks.Nodup) {j:Nat} (hj:j < ks.length):zbG ks ks[j]=some j:=
 zwT (by simp) fun i hi e=>by
  have hi':i < ks.length:=by omega
  rw [List.getElem?_eq_getElem hi'] at e;exact List.pairwise_iff_getElem.1 hn i j hi' hj hi (Option.some.inj e)
theorem zuL {α β:Type} (f:α->β):∀ {ks:List α} {x:α},(∀ y∈ks,f y=f x->y=x)->zbG (ks.map f) (f x)=zbG ks x
 | [],_,_=>rfl
 | y::ks,x,h=>by
  have ih:=zuL f (ks:=ks) (x:=x) (fun z hz=>h z (by simp [hz]))
  rw [List.map_cons];by_cases e:y=x
  ·subst e;rw [zmm,zmm]
  ·rw [zn8 e,zn8 (fun hh=>e (h y (by simp) hh)),ih]
def iota (n:Nat):List Int:=(List.range n).map fun j:Nat=>(j:Int)
theorem zwG (n:Nat):(iota n).length=n:=by simp [iota]
theorem zyX (n:Nat):iota (n+1)=iota n++[(n:Int)]:=by simp [iota,List.range_succ]
theorem zro {α:Type} {ks:List α} {x:α} {j:Nat} (h:zbG ks x=some j):mget ks (iota ks.length) x 0=j:=by
 have:=zj5 h;unfold mget;rw [h];simp [iota,this]
theorem zqw {α:Type} {ks:List α} {x:α}:mhas ks x=true↔x∈ks:=by
 unfold mhas
 cases e:zbG ks x with
 | none=>simp [zcA.1 e]
 | some j=>
  have:=zht e;simp [List.mem_of_getElem? this]
theorem zo0 {α:Type} {ks:List α} {x:α} (h:x∉ks):znm ks (iota ks.length) x ks.length=iota (ks++[x]).length:=by
 unfold znm;rw [zcA.2 h,List.length_append,List.length_singleton,zyX]
theorem zqV {α:Type} [DecidableEq α]:∀ {l U:List α},U.Nodup->(∀ x∈U,x∈l)->l.length<=U.length->l.Nodup
 | [],_,_,_,_=>List.nodup_nil
 | a::l,U,hU,hs,hl=>by
  have ha:a∉l:=fun ha=>by
   have:=zrw (l:=U) (U:=l) hU (fun x hx=>by
    rcases List.mem_cons.1 (hs x hx) with rfl | h
    ·exact ha
    ·exact h)
   rw [List.length_cons] at hl;omega
  refine List.nodup_cons.2 ⟨ha,?_⟩
  refine zqV (U:=U.erase a) (hU.erase a) (fun x hx => ?_) ?_
  ·have hne:x≠a:=((List.Nodup.mem_erase_iff hU).1 hx).1;rcases List.mem_cons.1 (hs x (List.mem_of_mem_erase hx)) with h | h
   ·exact absurd h hne
   ·exact h
  ·have:U.length - 1<=(U.erase a).length:=by
    by_cases h:a∈U
    ·rw [List.length_erase_of_mem h];omega
    ·rw [List.erase_of_not_mem h];omega
   rw [List.length_cons] at hl;omega
def keyL (l:List Int):List Int:=l.flatMap fun x=>[IntKind.wrap .u8 x,IntKind.wrap .u8 (ishr .i64 x 8)]
def keyB (l:List Int):List UInt8:=bstr (keyL l)
theorem zCS (x:Int):IntKind.wrap .u8 x=x % 256:=by
 unfold IntKind.wrap;simp [IntKind.bits,IntKind.signed]
theorem zn1 (x:Int) (l:List Int):keyB (x::l)=UInt8.ofNat (x % 256).toNat::UInt8.ofNat (ishr .i64 x 8 % 256).toNat::keyB l:=by
 unfold keyB keyL bstr;simp [zCS]
theorem zBa {a b:Int} (h:UInt8.ofNat (a % 256).toNat=UInt8.ofNat (b % 256).toNat):a % 256=b % 256:=by
 have:=congrArg UInt8.toNat h;simp only [UInt8.toNat_ofNat'] at this;omega
theorem zwM:∀ {l k:List Int},(∀ x∈l,0<=x/\x < 65536)->(∀ x∈k,0<=x/\x < 65536)->keyB l=keyB k->l=k
 | [],[],_,_,_=>rfl
 | [],y::k,_,_,h=>by rw [zn1] at h;cases h
 | x::l,[],_,_,h=>by rw [zn1] at h;cases h
 | x::l,y::k,hl,hk,h=>by
  rw [zn1,zn1] at h;injection h with h1 h
  injection h with h2 h
  have hx:=hl x (by simp)
  have hy:=hk y (by simp)
  have e1:=zBa h1;have e2:=zBa h2;obtain ⟨a,rfl⟩:∃ a:Nat,x=a:=⟨x.toNat,by omega⟩
  obtain ⟨b,rfl⟩:∃ b:Nat,y=b:=⟨y.toNat,by omega⟩
  rw [show (8:Int)=((8:Nat):Int) from rfl,zwK (by omega),zwK (by omega),Nat.shiftRight_eq_div_pow,Nat.shiftRight_eq_div_pow] at e2
  have:a=b:=by omega
  rw [this,zwM (fun z hz=>hl z (by simp [hz])) (fun z hz=>hk z (by simp [hz])) h]
theorem zAg (l:List Int):(keyL l).length=2 * l.length:=by
 induction l with
 | nil=>rfl
 | cons x l ih=>unfold keyL at *; rw [List.flatMap_cons,List.length_append,ih];simp;omega
def mkR (n:Nat) (g:Int->Int):List Int:=(List.range n).map fun a:Nat=>g a
theorem zze (n:Nat) (g:Int->Int):(mkR n g).length=n:=by simp [mkR]
theorem zDc {n:Nat} {g:Int->Int} {a:Int} (h0:0<=a) (h1:a < n):ix (mkR n g) a=g a:=by
 rw [zlq h0 (by rw [zze];exact h1)]
 simp [mkR,Int.toNat_of_nonneg h0]
abbrev Dt:=Int×Int×(List (List Int))×(List Int)×Unit
structure DOk (mx:Int) (mb:Int->Prop) (d:Dt):Prop where
 let1:1<=d.1/\d.1<=4
 n1:1<=d.2.2.1.length/\(d.2.2.1.length:Int)<=mx
 st:0<=d.2.1/\d.2.1 < d.2.2.1.length
 mkl:(d.2.2.2.1.length:Int)=d.2.2.1.length
 mok:∀ s∈d.2.2.2.1,¬ mb s
 tab:Tab d.1 d.2.2.1
abbrev badM (s:Int):Prop:=s < 0\/9 < s
section
variable {d:Dt} {mb:Int->Prop}
def sigC (d:Dt) (c:List Int) (q:Int):Int×List Int:=(ix c q,(ix d.2.2.1 q).map (ix c))
def ksC (d:Dt) (c:List Int):Nat->List (Int×List Int)
 | 0=>[]
 | t+1=>if sigC d c (t:Int)∈ksC d c t then ksC d c t else ksC d c t++[sigC d c (t:Int)]
def idxC (d:Dt) (c:List Int) (q:Nat):Nat:=(zbG (ksC d c (q+1)) (sigC d c (q:Int))).getD 0
def rfC (d:Dt) (c:List Int):List Int:=mkR d.2.2.1.length fun q=>(idxC d c q.toNat:Int)
theorem zj0 (c:List Int) (t:Nat):ksC d c (t+1)=if sigC d c (t:Int)∈ksC d c t then ksC d c t else ksC d c t++[sigC d c (t:Int)]:=rfl
theorem zBS (c:List Int):∀ t,∃ x,ksC d c (t+1)=ksC d c t++x:=fun t=>by
 rw [zj0];by_cases h:sigC d c (t:Int)∈ksC d c t
 ·exact ⟨[],by rw [if_pos h,List.append_nil]⟩
 ·exact ⟨_,by rw [if_neg h]⟩
theorem zoX (c:List Int):∀ t q:Nat,q < t->sigC d c (q:Int)∈ksC d c t
 | t+1,q,h=>by
  rw [zj0];by_cases e:q=t
  ·subst e;by_cases h:sigC d c (q:Int)∈ksC d c q
   ·rw [if_pos h];exact h
   ·rw [if_neg h];simp
  ·have:=zoX c t q (by omega)
   by_cases h:sigC d c (t:Int)∈ksC d c t
   ·rw [if_pos h];exact this
   ·rw [if_neg h];simp [this]
theorem zuG (c:List Int):∀ (t:Nat),∀ k∈ksC d c t,∃ q:Nat,q < t/\k=sigC d c (q:Int)
 | 0,k,h=>by cases h
 | t+1,k,h=>by
  rw [zj0] at h;by_cases e:sigC d c (t:Int)∈ksC d c t
  ·rw [if_pos e] at h;obtain ⟨q,h1,h2⟩:=zuG c t k h;exact ⟨q,by omega,h2⟩
  ·rw [if_neg e] at h;rcases List.mem_append.1 h with h | h
   ·obtain ⟨q,h1,h2⟩:=zuG c t k h;exact ⟨q,by omega,h2⟩
   ·exact ⟨t,by omega,List.mem_singleton.1 h⟩
theorem zrg (c:List Int):∀ t,(ksC d c t).Nodup
 | 0=>List.nodup_nil
 | t+1=>by
  rw [zj0];by_cases h:sigC d c (t:Int)∈ksC d c t
  ·rw [if_pos h];exact zrg c t
  ·rw [if_neg h,List.nodup_append];exact ⟨zrg c t,by simp,fun a ha b hb=>by rw [List.mem_singleton.1 hb];rintro rfl;exact h ha⟩
theorem zA1 (c:List Int):∀ t,(ksC d c t).length<=t
 | 0=>Nat.le_refl _
 | t+1=>by
  have:=zA1 c t;rw [zj0]
  split
  ·omega
  ·rw [List.length_append,List.length_singleton];omega
theorem zoW (c:List Int) (q:Nat):∀ t,q < t->zbG (ksC d c t) (sigC d c (q:Int))=some (idxC d c q)
 | t+1,h=>by
  by_cases e:q=t
  ·subst e;obtain ⟨j,hj⟩:=zuM (zoX (d:=d) c (q+1) q (by omega))
   unfold idxC;rw [hj];rfl
  ·obtain ⟨x,hx⟩:=zBS (d:=d) c t;rw [hx];exact zrn x (zoW c q t (by omega))
theorem zAd (c:List Int) {q r:Nat}:idxC d c q=idxC d c r↔sigC d c (q:Int)=sigC d c (r:Int):=by
 have h1:=zoW (d:=d) c q (max q r+1) (by omega)
 have h2:=zoW (d:=d) c r (max q r+1) (by omega)
 constructor
 ·intro e;rw [<- e] at h2;exact zzd h1 h2
 ·intro e;rw [e,h2] at h1;exact (Option.some.inj h1).symm
theorem zBM (c:List Int) {q t:Nat} (h:q < t):idxC d c q < (ksC d c t).length:=zj5 (zoW c q t h)
theorem zAe (c:List Int) {t j:Nat} (h:j < (ksC d c t).length):∃ q,q < t/\idxC d c q=j:=by
 obtain ⟨q,hq,e⟩:=zuG c t _ (List.getElem_mem h);refine ⟨q,hq,?_⟩
 have h1:=zoW (d:=d) c q t hq;rw [<- e,zvZ (zrg c t) h] at h1;exact (Option.some.inj h1).symm
structure ClsOk (d:Dt) (c:List Int):Prop where
 len:c.length=d.2.2.1.length
 b:∀ q:Int,0<=q->q < c.length->0<=ix c q/\ix c q < 65536
theorem ztT (c:List Int):(rfC d c).length=d.2.2.1.length:=zze _ _
theorem zu1 (c:List Int) {q:Int} (h0:0<=q) (h1:q < d.2.2.1.length):ix (rfC d c) q=idxC d c q.toNat:=zDc h0 h1
theorem ztZ (h:DOk 20000 mb d) (c:List Int) {q:Int} (h0:0<=q) (h1:q < d.2.2.1.length):((sigC d c q).2.length:Int)=d.1:=by
 unfold sigC;rw [List.length_map];exact h.tab.rowlen h0 h1
theorem zw6 (h:DOk 20000 mb d) {c:List Int} (hc:ClsOk d c) {q:Int} (h0:0<=q) (h1:q < d.2.2.1.length):∀ x∈(sigC d c q).2,0<=x/\x < 65536:=by
 intro x hx;unfold sigC at hx;obtain ⟨y,hy,rfl⟩:=List.mem_map.1 hx;have:=h.tab.to _ (za5 h0 h1) y hy;exact hc.b y this.1 (by rw [hc.len];exact this.2)
theorem zoz (h:DOk 20000 mb d) (c:List Int) {q a:Int} (h0:0<=q) (h1:q < d.2.2.1.length) (a0:0<=a) (a1:a < d.1):ix (sigC d c q).2 a=ix c (ix (ix d.2.2.1 q) a):=by
 have:=h.tab.rowlen h0 h1;unfold sigC;exact zwL _ a0 (by omega)
theorem zzB (h:DOk 20000 mb d) (c:List Int) {p q:Int} (p0:0<=p) (p1:p < d.2.2.1.length) (q0:0<=q) (q1:q < d.2.2.1.length):sigC d c p=sigC d c q↔ix c p=ix c q/\∀ a:Int,0<=a->a < d.1->ix c (ix (ix d.2.2.1 p) a)=ix c (ix (ix d.2.2.1 q) a):=by
 have l1:=ztZ h c p0 p1;have l2:=ztZ h c q0 q1;constructor
 ·intro e;refine ⟨congrArg Prod.fst e,fun a a0 a1 => ?_⟩
  rw [<- zoz h c p0 p1 a0 a1,<- zoz h c q0 q1 a0 a1,e]
 ·rintro ⟨e1,e2⟩;refine Prod.ext e1 (zuF (by omega) fun a a0 a1 => ?_)
  rw [zoz h c p0 p1 a0 (by omega),zoz h c q0 q1 a0 (by omega)]
  exact e2 a a0 (by omega)
def encK (k:Int×List Int):Int×List UInt8×Unit:=(k.1,keyB k.2,())
theorem zww {k l:Int×List Int} (hk:∀ x∈k.2,0<=x/\x < 65536) (hl:∀ x∈l.2,0<=x/\x < 65536) (e:encK k=encK l):k=l:=by
 unfold encK at e;injection e with e1 e2
 injection e2 with e2 e3
 exact Prod.ext e1 (zwM hk hl e2)
theorem zqX (h:DOk 20000 mb d) {c:List Int} (hc:ClsOk d c) {t:Nat} (ht:t < d.2.2.1.length) {number:List (Int×List UInt8×Unit)} {number_1 next':List Int} {r6}:
  zby d c t number number_1 next' r6 0 []=if mhas number (encK (sigC d c t))=true then zbx c t next' r6 (keyL (sigC d c t).2) number number_1
   else zbx c t next' r6 (keyL (sigC d c t).2) (znl number (encK (sigC d c t))) (znm number number_1 (encK (sigC d c t)) (number.length:Int)):=by
 have hrl:=h.tab.rowlen (q:=(t:Int)) (by omega) (by omega)
 have hlt:=h.let1;have hcl:=hc.len;have key:∀ (n:Nat) (a:Int),((ix d.2.2.1 (t:Int)).length - a).toNat=n->0<=a->a<=(ix d.2.2.1 (t:Int)).length->
   zby d c t number number_1 next' r6 a (keyL ((sigC d c t).2.take a.toNat))=zby d c t number number_1 next' r6 (ix d.2.2.1 (t:Int)).length (keyL (sigC d c t).2):=by
  intro n
  induction n with
  | zero=>
   intro a hn a0 a1;obtain rfl:a=(ix d.2.2.1 (t:Int)).length:=by omega
   rw [List.take_of_length_le (by unfold sigC;rw [List.length_map];omega)]
  | succ n ih=>
   intro a hn a0 a1;have hst:=h.tab.stpb (q:=(t:Int)) (a:=a) (by omega) (by omega) a0 (by omega)
   unfold stp at hst;rw [<- ih (a+1) (by omega) (by omega) (by omega)]
   conv=>lhs;rw [zib];unfold zbP
   have hk:=zAg ((sigC d c t).2.take a.toNat);rw [List.length_take] at hk;have hsl:=ztZ h c (q:=(t:Int)) (by omega) (by omega)
   rw [if_pos (by simp;omega)]
   refine G_to (by omega) (G_to (by omega) (G_to (by omega) (G_to (by omega) (G_to (by omega) (G_to (by omega) (G_to (by unfold room;simp;omega) (G_to (by unfold fits;omega) ?_)))))))
   congr 1
   rw [ziA a0 (by omega),zoz h c (q:=(t:Int)) (by omega) (by omega) a0 (by omega)]
   unfold keyL;rw [List.flatMap_append];rfl
 refine (key _ 0 rfl (by omega) (by omega)).trans ?_
 rw [zib];unfold zbP;rw [if_neg (by simp)]
 refine G_to (by omega) (G_to (by omega) ?_)
 rw [show (ix c (t:Int),bstr (keyL (sigC d c t).2),())=encK (sigC d c t) from rfl];by_cases c1:mhas number (encK (sigC d c t))=true
 ·rw [if_neg (by simp [c1]),if_pos c1]
 ·rw [if_pos (by simpa using c1),if_neg c1]
theorem zp5 (h:DOk 20000 mb d) {c:List Int} (hc:ClsOk d c) {count:Int} {r3}:∀ (n t:Nat) (next':List Int),d.2.2.1.length - t=n->t<=d.2.2.1.length->next'.length=d.2.2.1.length->(∀ j:Int,0<=j->j < t->ix next' j=ix (rfC d c) j)->
  zce d count c r3 t ((ksC d c t).map encK) (iota (ksC d c t).length) next'=if ((ksC d c d.2.2.1.length).length:Int)=count then some (rfC d c) else r3 ((ksC d c d.2.2.1.length).length:Int) (rfC d c):=by
 have hn:=h.n1;intro n
 induction n with
 | zero=>
  intro t next' hn2 ht hl hj;obtain rfl:t=d.2.2.1.length:=by omega
  have:next'=rfC d c:=zuF (by rw [ztT];exact hl) fun j j0 j1=>hj j j0 (by omega)
  rw [zi7];unfold zb0;rw [if_neg (by simp),List.length_map,this]
  by_cases e:((ksC d c d.2.2.1.length).length:Int)=count
  ·rw [if_pos (decide_eq_true e),if_pos e]
  ·rw [if_neg (by simpa using e),if_neg e]
 | succ n ih=>
  intro t next' hn2 ht hl hj;rw [zi7];unfold zb0;rw [if_pos (by simp;omega)]
  refine G_to (by omega) ?_
  rw [zqX h hc (by omega)]
  have inj:∀ y∈ksC d c t,encK y=encK (sigC d c t)->y=sigC d c t:=fun y hy e=>by
   obtain ⟨q,hq,rfl⟩:=zuG c t y hy;exact zww (zw6 h hc (by omega) (by omega)) (zw6 h hc (by omega) (by omega)) e
  have hmem:encK (sigC d c t)∈(ksC d c t).map encK↔sigC d c t∈ksC d c t:=by
   rw [List.mem_map];exact ⟨fun ⟨y,hy,e⟩=>inj y hy e ▸ hy,fun hy=>⟨_,hy,rfl⟩⟩
  have hat:=zoW (d:=d) c t (t+1) (by omega)
  have inj':∀ y∈ksC d c (t+1),encK y=encK (sigC d c t)->y=sigC d c t:=fun y hy e=>by
   obtain ⟨q,hq,rfl⟩:=zuG c (t+1) y hy;exact zww (zw6 h hc (by omega) (by omega)) (zw6 h hc (by omega) (by omega)) e
  have hget:mget ((ksC d c (t+1)).map encK) (iota (ksC d c (t+1)).length) (encK (sigC d c t)) 0=idxC d c t:=by
   have h1:zbG ((ksC d c (t+1)).map encK) (encK (sigC d c t))=some (idxC d c t):=by rw [zuL encK inj',hat]
   have:=zro h1
   rwa [List.length_map] at this
  have fin:zbx c t next' (zce d count c r3) (keyL (sigC d c t).2) ((ksC d c (t+1)).map encK) (iota (ksC d c (t+1)).length)=if ((ksC d c d.2.2.1.length).length:Int)=count then some (rfC d c) else r3 ((ksC d c d.2.2.1.length).length:Int) (rfC d c):=by
   unfold zbx;refine G_to (by omega) (G_to (by omega) (G_to (by unfold fits;omega) ?_))
   rw [show (ix c (t:Int),bstr (keyL (sigC d c t).2),())=encK (sigC d c t) from rfl,hget];refine ih (t+1) _ (by omega) (by omega) (by rw [List.length_set];exact hl) (fun j j0 j1 => ?_)
   by_cases e:j=t
   ·subst e;rw [zap j0 (by omega),zu1 c j0 (by omega)];simp
   ·rw [zat (by omega) j0 (Ne.symm e)];exact hj j j0 (by omega)
  by_cases e:sigC d c t∈ksC d c t
  ·rw [if_pos (zqw.2 (hmem.2 e))];rw [zj0,if_pos e] at fin;exact fin
  ·have hne:=fun hh=>e (hmem.1 hh)
   rw [if_neg (fun hh=>hne (zqw.1 hh)),zrq hne]
   have hv:=zo0 hne;rw [List.length_map] at hv;rw [List.length_map,hv];rw [zj0,if_neg e] at fin;rw [List.map_append] at fin;rw [List.length_append,List.length_map];rw [List.length_append] at fin;exact fin
end
section
variable {d:Dt}
def LEq (d:Dt) (q:Int) (e:Dt) (r:Int):Prop:=∀ w:List Int,(∀ a∈w,0<=a/\a < d.1)->ix d.2.2.2.1 (wlk d.2.2.1 q w)=ix e.2.2.2.1 (wlk e.2.2.1 r w)
theorem LEq.step {d e:Dt} {q r:Int} (h:LEq d q e r) {a:Int} (a0:0<=a) (a1:a < d.1):LEq d (ix (ix d.2.2.1 q) a) e (ix (ix e.2.2.1 r) a):=fun w hw=>h (a::w) (fun b hb=>(List.mem_cons.1 hb).elim (fun e=>by rw [e];exact ⟨a0,a1⟩) (hw b))
structure FinC (d:Dt) (C:List Int) (K:Nat):Prop where
 len:C.length=d.2.2.1.length
 le:K<=d.2.2.1.length
 b:∀ q:Int,0<=q->q < d.2.2.1.length->0<=ix C q/\ix C q < K
 sur:∀ v:Int,0<=v->v < K->∃ q:Int,0<=q/\q < d.2.2.1.length/\ix C q=v
 mark:∀ q r:Int,0<=q->q < d.2.2.1.length->0<=r->r < d.2.2.1.length->ix C q=ix C r->ix d.2.2.2.1 q=ix d.2.2.2.1 r
 stable:∀ q r:Int,0<=q->q < d.2.2.1.length->0<=r->r < d.2.2.1.length->ix C q=ix C r->∀ a:Int,0<=a->a < d.1->ix C (ix (ix d.2.2.1 q) a)=ix C (ix (ix d.2.2.1 r) a)
 coarse:∀ q r:Int,0<=q->q < d.2.2.1.length->0<=r->r < d.2.2.1.length->LEq d q d r->ix C q=ix C r
theorem zqC {c:List Int} {q r:Int} (q0:0<=q) (q1:q < d.2.2.1.length) (r0:0<=r) (r1:r < d.2.2.1.length):ix (rfC d c) q=ix (rfC d c) r↔sigC d c q=sigC d c r:=by
 rw [zu1 c q0 q1,zu1 c r0 r1];have:=zAd (d:=d) c (q:=q.toNat) (r:=r.toNat);rw [Int.toNat_of_nonneg q0,Int.toNat_of_nonneg r0] at this;rw [<- this];exact ⟨fun e=>by exact_mod_cast e,fun e=>by rw [e]⟩
theorem zAf {n:Nat} {v:Int}:v∈iota n↔0<=v/\v < n:=by
 unfold iota;rw [List.mem_map];constructor
 ·rintro ⟨j,hj,rfl⟩;have:=List.mem_range.1 hj;omega
 ·rintro ⟨h0,h1⟩;exact ⟨v.toNat,List.mem_range.2 (by omega),by omega⟩
theorem zsE (n:Nat):(iota n).Nodup:=by
 unfold iota;refine List.Pairwise.map _ (fun a b (h:a≠b)=>by omega) (List.nodup_range (n:=n))
theorem zug (h:DOk 20000 badM d):∀ (f k:Nat) (c:List Int),d.2.2.1.length - k=f->ClsOk d c->
  (∀ q r:Int,0<=q->q < d.2.2.1.length->0<=r->r < d.2.2.1.length->ix c q=ix c r->ix d.2.2.2.1 q=ix d.2.2.2.1 r)->(∀ v:Int,0<=v->v < k->∃ q:Int,0<=q/\q < d.2.2.1.length/\ix c q=v)->(∀ q r:Int,0<=q->q < d.2.2.1.length->0<=r->r < d.2.2.1.length->LEq d q d r->ix c q=ix c r)->
  ∃ C K,FinC d C K/\zdo d (k:Int) c=some C:=by
 have hn:=h.n1;intro f
 induction f using Nat.strongRecOn with
 | ind f ih=>
 intro k c hf hc hm hs hco;have hcl:=hc.len;have hK:=zA1 (d:=d) c d.2.2.1.length;have hcov:∀ x∈iota k,x∈(ksC d c d.2.2.1.length).map Prod.fst:=fun x hx=>by
  obtain ⟨x0,x1⟩:=zAf.1 hx;obtain ⟨q,q0,q1,e⟩:=hs x x0 x1;have:=zoX (d:=d) c d.2.2.1.length q.toNat (by omega)
  rw [Int.toNat_of_nonneg q0] at this;exact List.mem_map.2 ⟨_,this,e⟩
 have hge:k<=(ksC d c d.2.2.1.length).length:=by
  have:=zrw (zsE k) hcov
  rwa [zwG,List.length_map] at this
 have hpos:0 < (ksC d c d.2.2.1.length).length:=List.length_pos_of_mem (zoX (d:=d) c d.2.2.1.length 0 (by omega))
 have eP:zdo d (k:Int) c=if ((ksC d c d.2.2.1.length).length:Int)=k then some (rfC d c) else zdo d ((ksC d c d.2.2.1.length).length:Int) (rfC d c):=by
  conv=>lhs;rw [zoM];unfold zcz
  refine G_to (by unfold mkOK;omega) ?_
  exact zp5 h hc _ 0 _ rfl (by omega) (by simp;omega) (fun j j0 j1=>by omega)
 have b':∀ q:Int,0<=q->q < d.2.2.1.length->0<=ix (rfC d c) q/\ix (rfC d c) q < (ksC d c d.2.2.1.length).length:=fun q q0 q1=>by
  rw [zu1 c q0 q1];have:=zBM (d:=d) c (q:=q.toNat) (t:=d.2.2.1.length) (by omega)
  omega
 have sur':∀ v:Int,0<=v->v < (ksC d c d.2.2.1.length).length->∃ q:Int,0<=q/\q < d.2.2.1.length/\ix (rfC d c) q=v:=fun v v0 v1=>by
  obtain ⟨q,hq,e⟩:=zAe (d:=d) c (t:=d.2.2.1.length) (j:=v.toNat) (by omega)
  refine ⟨q,by omega,by omega,?_⟩
  rw [zu1 c (by omega) (by omega),Int.toNat_natCast,e];omega
 have m':∀ q r:Int,0<=q->q < d.2.2.1.length->0<=r->r < d.2.2.1.length->ix (rfC d c) q=ix (rfC d c) r->ix d.2.2.2.1 q=ix d.2.2.2.1 r:=fun q r q0 q1 r0 r1 e=>
  hm q r q0 q1 r0 r1 (congrArg Prod.fst ((zqC q0 q1 r0 r1).1 e))
 have co':∀ q r:Int,0<=q->q < d.2.2.1.length->0<=r->r < d.2.2.1.length->LEq d q d r->ix (rfC d c) q=ix (rfC d c) r:=fun q r q0 q1 r0 r1 hq=>by
  refine (zqC q0 q1 r0 r1).2 ((zzB h c q0 q1 r0 r1).2 ⟨hco q r q0 q1 r0 r1 hq,fun a a0 a1 => ?_⟩)
  have sq:=h.tab.stpb q0 q1 a0 a1;have sr:=h.tab.stpb r0 r1 a0 a1;exact hco _ _ sq.1 sq.2 sr.1 sr.2 (hq.step a0 a1)
 by_cases e:((ksC d c d.2.2.1.length).length:Int)=k
 ·rw [if_pos e] at eP;refine ⟨rfC d c,_,⟨ztT c,hK,b',sur',m',fun q r q0 q1 r0 r1 he a a0 a1 => ?_,co'⟩,eP⟩
  have hnd:((ksC d c d.2.2.1.length).map Prod.fst).Nodup:=zqV (zsE k) hcov (by rw [List.length_map,zwG];omega)
  have tot:∀ x y:Int,0<=x->x < d.2.2.1.length->0<=y->y < d.2.2.1.length->ix c x=ix c y->ix (rfC d c) x=ix (rfC d c) y:=fun x y x0 x1 y0 y1 exy=>by
   rw [zqC x0 x1 y0 y1];have hx:=zoX (d:=d) c d.2.2.1.length x.toNat (by omega)
   have hy:=zoX (d:=d) c d.2.2.1.length y.toNat (by omega)
   rw [Int.toNat_of_nonneg x0] at hx;rw [Int.toNat_of_nonneg y0] at hy;obtain ⟨i,hi,ei⟩:=List.mem_iff_getElem.1 hx;obtain ⟨j,hj,ej⟩:=List.mem_iff_getElem.1 hy;have key:∀ i j:Nat,(hi:i < (ksC d c d.2.2.1.length).length)->(hj:j < (ksC d c d.2.2.1.length).length)->i < j->(ksC d c d.2.2.1.length)[i].1≠(ksC d c d.2.2.1.length)[j].1:=fun i j hi hj hlt hh=>by
    have:=List.pairwise_iff_getElem.1 hnd i j (by rw [List.length_map];exact hi) (by rw [List.length_map];exact hj) hlt
    rw [List.getElem_map,List.getElem_map] at this;exact this hh
   have hfst:(ksC d c d.2.2.1.length)[i].1=(ksC d c d.2.2.1.length)[j].1:=by rw [ei,ej];exact exy
   have:i=j:=by
    rcases Nat.lt_trichotomy i j with hlt | rfl | hlt
    ·exact absurd hfst (key i j hi hj hlt)
    ·rfl
    ·exact absurd hfst.symm (key j i hj hi hlt)
   subst this;rw [<- ei,ej]
  have hsig:=(zzB h c q0 q1 r0 r1).1 ((zqC q0 q1 r0 r1).1 he);have sq:=h.tab.stpb q0 q1 a0 a1;have sr:=h.tab.stpb r0 r1 a0 a1;unfold stp at sq sr;exact tot _ _ sq.1 sq.2 sr.1 sr.2 (hsig.2 a a0 a1)
 ·rw [if_neg e] at eP;rw [eP];have hlt:k < (ksC d c d.2.2.1.length).length:=by omega
  exact ih (d.2.2.1.length - (ksC d c d.2.2.1.length).length) (by omega) _ (rfC d c) rfl ⟨ztT c,fun q q0 q1=>by
   rw [ztT] at q1;have:=b' q q0 q1;omega⟩ m' sur' co'
theorem zuf (h:DOk 20000 badM d):∃ C K,FinC d C K/\zjX d=some C:=by
 have hn:=h.n1;have hmk:=h.mkl;have hc:ClsOk d d.2.2.2.1:=⟨by omega,fun q q0 q1=>by
  have:=h.mok _ (za5 q0 q1);omega⟩
 obtain ⟨C,K,h1,h2⟩:=zug h _ 0 d.2.2.2.1 rfl hc (fun q r _ _ _ _ e=>e) (fun v v0 v1=>by omega) (fun q r _ _ _ _ e=>e [] (fun a ha=>by cases ha))
 refine ⟨C,K,h1,?_⟩
 unfold zjX;exact zac (zpm (by omega)) h2
end
def xRow {α:Type} (nx:α->Int->α) (s:α) (l:List α):Nat->List α×List Int
 | 0=>(l,[])
 | t+1=>match zbG (xRow nx s l t).1 (nx s (t:Int)) with
  | some j=>((xRow nx s l t).1,(xRow nx s l t).2++[(j:Int)])
  | none=>((xRow nx s l t).1++[nx s (t:Int)],(xRow nx s l t).2++[((xRow nx s l t).1.length:Int)])
def xSt {α:Type} [Inhabited α] (nx:α->Int->α) (mk:α->Int) (L:Nat) (first:α):Nat->List α×List (List Int)×List Int
 | 0=>([first],[],[])
 | i+1=>((xRow nx (ix (xSt nx mk L first i).1 (i:Int)) (xSt nx mk L first i).1 L).1,(xSt nx mk L first i).2.1++[(xRow nx (ix (xSt nx mk L first i).1 (i:Int)) (xSt nx mk L first i).1 L).2],(xSt nx mk L first i).2.2++[mk (ix (xSt nx mk L first i).1 (i:Int))])
theorem zr9 {α:Type} {nx:α->Int->α} {s:α} {l:List α} {t j:Nat} (h:zbG (xRow nx s l t).1 (nx s (t:Int))=some j):xRow nx s l (t+1)=((xRow nx s l t).1,(xRow nx s l t).2++[(j:Int)]):=by
 rw [xRow,h]
theorem zr8 {α:Type} {nx:α->Int->α} {s:α} {l:List α} {t:Nat} (h:zbG (xRow nx s l t).1 (nx s (t:Int))=none):xRow nx s l (t+1)=((xRow nx s l t).1++[nx s (t:Int)],(xRow nx s l t).2++[((xRow nx s l t).1.length:Int)]):=by
 rw [xRow,h]
section
variable {α:Type} [Inhabited α] {nx:α->Int->α} {mk:α->Int} {L:Nat} {first:α} {B:Nat} {P:α->Prop}
structure XOk {α:Type} (nx:α->Int->α) (mk:α->Int) (L:Nat) (first:α) (B:Nat) (P:α->Prop):Prop where
 b:∀ l:List α,l.Nodup->(∀ x∈l,P x)->l.length<=B
 f:P first
 n:∀ s,P s->∀ t:Int,0<=t->t < L->P (nx s t)
 m:∀ s,P s->0<=mk s/\mk s<=9
theorem XOk.int {nx:Int->Int->Int} {mk:Int->Int} {L:Nat} {first:Int} {B:Nat} {P:Int->Prop} (b:∀ s,P s->0<=s/\s < B) (f:P first) (n:∀ s,P s->∀ t:Int,0<=t->t < L->P (nx s t)) (m:∀ s,P s->0<=mk s/\mk s<=9):XOk nx mk L first B P:=
 ⟨fun l hn hp=>zo4 hn (fun x hx=>b x (hp x hx)),f,n,m⟩
structure LiOk {α:Type} (B:Nat) (P:α->Prop) (l:List α):Prop where
 nd:l.Nodup
 p:∀ x∈l,P x
theorem LiOk.len (h:XOk nx mk L first B P) {l:List α} (k:LiOk B P l):l.length<=B:=h.b l k.nd k.p
structure XR {α:Type} [Inhabited α] (nx:α->Int->α) (s:α) (l:List α) (t:Nat) (r:List α×List Int):Prop where
 pre:∃ x,r.1=l++x
 len:r.2.length=t
 to:∀ a:Int,0<=a->a < t->0<=ix r.2 a/\ix r.2 a < r.1.length/\ix r.1 (ix r.2 a)=nx s a
theorem zAn {l:List α} {x:α} {j:Nat} (h:zbG l x=some j):(j:Int) < l.length/\ix l (j:Int)=x:=by
 have h1:=zj5 h;have h2:=zht h;refine ⟨by omega,?_⟩
 rw [List.getElem?_eq_getElem h1] at h2;rw [zlq (l:=l) (by omega) (by omega)]
 simpa using h2
theorem zt4 (h:XOk nx mk L first B P) {s:α} (hs:P s) {l:List α} (hl:LiOk B P l):∀ t:Nat,t<=L->LiOk B P (xRow nx s l t).1/\XR nx s l t (xRow nx s l t)
 | 0,_=>⟨hl,⟨[],by simp [xRow]⟩,rfl,fun a a0 a1=>by omega⟩
 | t+1,ht=>by
  obtain ⟨h1,⟨⟨x,hx⟩,h2,h3⟩⟩:=zt4 h hs hl t (by omega)
  have hp:=h.n s hs (t:Int) (by omega) (by omega)
  unfold xRow
  cases e:zbG (xRow nx s l t).1 (nx s (t:Int)) with
  | some j=>
   obtain ⟨j1,j2⟩:=zAn e;refine ⟨h1,⟨⟨x,hx⟩,by simp [h2],fun a a0 a1 => ?_⟩⟩
   show 0<=ix ((xRow nx s l t).2++[(j:Int)]) a/\_;by_cases c:a < t
   ·rw [zai a0 (by omega)];exact h3 a a0 c
   ·obtain rfl:a=((xRow nx s l t).2.length:Int):=by omega
    rw [zaR];refine ⟨by omega,j1,?_⟩
    show ix (xRow nx s l t).1 (j:Int)=_;rw [j2,h2]
  | none=>
   have hn:=zcA.1 e;refine ⟨⟨?_,fun y hy=>(List.mem_append.1 hy).elim (h1.p y) (fun e2=>by rw [List.mem_singleton.1 e2];exact hp)⟩,⟨⟨x++[nx s (t:Int)],by show (xRow nx s l t).1++_=_;rw [hx,List.append_assoc]⟩,by simp [h2],fun a a0 a1 => ?_⟩⟩
   ·show ((xRow nx s l t).1++[nx s (t:Int)]).Nodup;rw [List.nodup_append];exact ⟨h1.nd,by simp,fun u hu v hv=>by rw [List.mem_singleton.1 hv];rintro rfl;exact hn hu⟩
   ·show 0<=ix ((xRow nx s l t).2++[((xRow nx s l t).1.length:Int)]) a/\ix ((xRow nx s l t).2++[((xRow nx s l t).1.length:Int)]) a < (((xRow nx s l t).1++[nx s (t:Int)]).length:Int)/\ix ((xRow nx s l t).1++[nx s (t:Int)]) (ix ((xRow nx s l t).2++[((xRow nx s l t).1.length:Int)]) a)=nx s a;rw [List.length_append,List.length_singleton];by_cases c:a < t
    ·obtain ⟨g1,g2,g3⟩:=h3 a a0 c;rw [zai a0 (by omega),zai g1 g2]
     exact ⟨g1,by omega,g3⟩
    ·obtain rfl:a=((xRow nx s l t).2.length:Int):=by omega
     rw [zaR,zaR,h2];exact ⟨by omega,by omega,rfl⟩
structure XS {α:Type} [Inhabited α] (nx:α->Int->α) (mk:α->Int) (L:Nat) (first:α) (i:Nat) (x:List α×List (List Int)×List Int):Prop where
 z:ix x.1 0=first
 r:x.2.1.length=i
 m:x.2.2.length=i
 row:∀ k:Int,0<=k->k < i->(ix x.2.1 k).length=L/\∀ a:Int,0<=a->a < L->0<=ix (ix x.2.1 k) a/\ix (ix x.2.1 k) a < x.1.length/\ix x.1 (ix (ix x.2.1 k) a)=nx (ix x.1 k) a
 mark:∀ k:Int,0<=k->k < i->ix x.2.2 k=mk (ix x.1 k)
def XGo {α:Type} [Inhabited α] (nx:α->Int->α) (mk:α->Int) (L:Nat) (first:α) (i:Nat):Prop:=∀ k < i,k < (xSt nx mk L first k).1.length
theorem zmb (h:XOk nx mk L first B P):∀ i:Nat,XGo nx mk L first i->LiOk B P (xSt nx mk L first i).1/\i<=(xSt nx mk L first i).1.length/\XS nx mk L first i (xSt nx mk L first i)
 | 0,_=>⟨⟨by simp [xSt],fun x hx=>by
   have:x=first:=by simpa [xSt] using hx
   rw [this];exact h.f⟩,by omega,rfl,rfl,rfl,fun k k0 k1=>by omega,fun k k0 k1=>by omega⟩
 | i+1,hg=>by
  obtain ⟨h1,h2,h3⟩:=zmb h i (fun k hk=>hg k (by omega))
  have hi:=hg i (by omega)
  have hP:=h1.p _ (za5 (by omega) (by omega:(i:Int) < (xSt nx mk L first i).1.length))
  obtain ⟨g1,⟨⟨x,hx⟩,g2,g3⟩⟩:=zt4 h hP h1 L (Nat.le_refl _);unfold xSt;generalize hX:xSt nx mk L first i=X at *
  generalize hR:xRow nx (ix X.1 (i:Int)) X.1 L=R at *
  have pre:∀ k:Int,0<=k->k < X.1.length->ix R.1 k=ix X.1 k:=fun k k0 k1=>by rw [hx,zai k0 k1]
  have lenR:X.1.length<=R.1.length:=by rw [hx,List.length_append];omega
  refine ⟨g1,by show i+1<=R.1.length;omega,?_,by simp [h3.r],by simp [h3.m],fun k k0 k1 => ?_,fun k k0 k1 => ?_⟩
  ·show ix R.1 0=first;rw [pre 0 (by omega) (by omega)];exact h3.z
  ·show (ix (X.2.1++[R.2]) k).length=L/\∀ a:Int,0<=a->a < L->0<=ix (ix (X.2.1++[R.2]) k) a/\ix (ix (X.2.1++[R.2]) k) a < R.1.length/\ix R.1 (ix (ix (X.2.1++[R.2]) k) a)=nx (ix R.1 k) a;have hr:=h3.r;by_cases c:k < i
   ·obtain ⟨r1,r2⟩:=h3.row k k0 c;rw [zai k0 (by omega),pre k k0 (by omega)]
    refine ⟨r1,fun a a0 a1 => ?_⟩
    obtain ⟨s1,s2,s3⟩:=r2 a a0 a1;rw [pre _ s1 s2];exact ⟨s1,by omega,s3⟩
   ·have hk:k=(X.2.1.length:Int):=by omega
    rw [hk,zaR,hr,pre (i:Int) (by omega) (by omega)]
    exact ⟨g2,fun a a0 a1=>g3 a a0 a1⟩
  ·show ix (X.2.2++[mk (ix X.1 (i:Int))]) k=mk (ix R.1 k);have hm:=h3.m;rw [pre k k0 (by omega)]
   by_cases c:k < i
   ·rw [zai k0 (by omega)];exact h3.mark k k0 c
   ·have hk:k=(X.2.2.length:Int):=by omega
    rw [hk,zaR,hm]
theorem zzL (h:XOk nx mk L first B P):∃ n,n<=B/\XGo nx mk L first n/\(xSt nx mk L first n).1.length=n:=by
 have key:∀ f i:Nat,B - i=f->XGo nx mk L first i->∃ n,n<=B/\XGo nx mk L first n/\(xSt nx mk L first n).1.length=n:=by
  intro f
  induction f with
  | zero=>
   intro i hf hg;obtain ⟨h1,h2,_⟩:=zmb h i hg;have:=h1.len h;exact ⟨i,by omega,hg,by omega⟩
  | succ f ih=>
   intro i hf hg;obtain ⟨h1,h2,_⟩:=zmb h i hg;have:=h1.len h;by_cases c:(xSt nx mk L first i).1.length=i
   ·exact ⟨i,by omega,hg,c⟩
   ·refine ih (i+1) (by omega) (fun k hk => ?_)
    by_cases e:k=i
    ·subst e;omega
    ·exact hg k (by omega)
 exact key _ 0 rfl (fun k hk=>by omega)
def xAut {α:Type} [Inhabited α] (nx:α->Int->α) (mk:α->Int) (L:Nat) (first:α) (n:Nat):Dt:=((L:Int),0,(xSt nx mk L first n).2.1,(xSt nx mk L first n).2.2,())
theorem zzK (h:XOk nx mk L first B P) (hL:1<=L/\L<=4) (hB:B<=20000) {n:Nat} (hg:XGo nx mk L first n) (hn:(xSt nx mk L first n).1.length=n):DOk 20000 badM (xAut nx mk L first n):=by
 obtain ⟨h1,h2,h3⟩:=zmb h n hg;have hb:=h1.len h;have hr:=h3.r;have hm:=h3.m;have hpos:0 < n:=by
  refine Nat.pos_of_ne_zero fun e => ?_
  subst e;simp [xSt] at hn
 refine ⟨by show 1<=(L:Int)/\(L:Int)<=4;omega,?_,?_,?_,fun s hs => ?_,⟨fun r hr2 => ?_,fun r hr2 q hq => ?_⟩⟩
 ·show 1<=(xSt nx mk L first n).2.1.length/\((xSt nx mk L first n).2.1.length:Int)<=20000;omega
 ·show (0:Int)<=0/\(0:Int) < ((xSt nx mk L first n).2.1.length:Int);omega
 ·show ((xSt nx mk L first n).2.2.length:Int)=((xSt nx mk L first n).2.1.length:Int);omega
 ·obtain ⟨k,k0,k1,rfl⟩:=(zho (P:=fun x=>x=s)).1 ⟨s,hs,rfl⟩
  have hk:k < n:=by
   have:k < ((xSt nx mk L first n).2.2.length:Int):=k1;omega
  have e:ix (xAut nx mk L first n).2.2.2.1 k=mk (ix (xSt nx mk L first n).1 k):=h3.mark k k0 hk;rw [e];have:=h.m _ (h1.p _ (za5 k0 (by omega)))
  omega
 ·obtain ⟨k,k0,k1,rfl⟩:=(zho (P:=fun x=>x=r)).1 ⟨r,hr2,rfl⟩
  have hk:k < n:=by
   have:k < ((xSt nx mk L first n).2.1.length:Int):=k1;omega
  have:=(h3.row k k0 hk).1;show ((ix (xSt nx mk L first n).2.1 k).length:Int)=(L:Int);omega
 ·obtain ⟨k,k0,k1,rfl⟩:=(zho (P:=fun x=>x=r)).1 ⟨r,hr2,rfl⟩
  have hk:k < n:=by
   have:k < ((xSt nx mk L first n).2.1.length:Int):=k1;omega
  obtain ⟨r1,r2⟩:=h3.row k k0 hk;obtain ⟨a,a0,a1,rfl⟩:=(zho (P:=fun x=>x=q)).1 ⟨q,hq,rfl⟩
  have ha:a < (L:Int):=by
   have:a < ((ix (xSt nx mk L first n).2.1 k).length:Int):=a1;omega
  obtain ⟨s1,s2,s3⟩:=r2 a a0 ha;show 0<=ix (ix (xSt nx mk L first n).2.1 k) a/\ix (ix (xSt nx mk L first n).2.1 k) a < ((xSt nx mk L first n).2.1.length:Int);omega
theorem zr7 (h:XOk nx mk L first B P) {n:Nat} (hg:XGo nx mk L first n) (hn:(xSt nx mk L first n).1.length=n):∀ (w:List Int) (q:Int),0<=q->q < n->(∀ a∈w,0<=a/\a < (L:Int))->
  0<=wlk (xAut nx mk L first n).2.2.1 q w/\wlk (xAut nx mk L first n).2.2.1 q w < n/\ix (xSt nx mk L first n).1 (wlk (xAut nx mk L first n).2.2.1 q w)=w.foldl nx (ix (xSt nx mk L first n).1 q)
 | [],q,q0,q1,_=>⟨q0,q1,rfl⟩
 | a::w,q,q0,q1,hw=>by
  obtain ⟨_,_,h3⟩:=zmb h n hg;have ha:=hw a (by simp)
  obtain ⟨s1,s2,s3⟩:=(h3.row q q0 q1).2 a ha.1 ha.2;have:=zr7 h hg hn w (ix (ix (xSt nx mk L first n).2.1 q) a) s1 (by omega) (fun b hb=>hw b (by simp [hb]))
  rw [s3] at this;exact this
end
section
variable {d:Dt}
structure RowOk (d:Dt) (C Q:List Int) (i:Int) (row:List Int):Prop where
 len:(row.length:Int)=d.1
 to:∀ a:Int,0<=a->a < d.1->0<=ix row a/\ix row a < Q.length/\ix C (ix Q (ix row a))=ix C (ix (ix d.2.2.1 (ix Q i)) a)
structure QOk (d:Dt) (C Q:List Int):Prop where
 b:∀ q:Int,q∈Q->0<=q/\q < d.2.2.1.length
 nd:(Q.map (ix C)).Nodup
 z:0 < Q.length/\ix Q 0=d.2.1
structure PartOk (d:Dt) (C Q:List Int) (D2:List (List Int)) (D3:List Int):Prop where
 q:QOk d C Q
 l2:D2.length<=Q.length
 l3:D3.length=D2.length
 row:∀ i:Int,0<=i->i < D2.length->RowOk d C Q i (ix D2 i)
 mark:∀ i:Int,0<=i->i < D2.length->ix D3 i=ix d.2.2.2.1 (ix Q i)
theorem QOk.le {C Q:List Int} {K:Nat} (hC:FinC d C K) (h:QOk d C Q):Q.length<=K:=by
 have:=zo4 (n:=K) h.nd (fun v hv=>by
  obtain ⟨q,hq,rfl⟩:=List.mem_map.1 hv;have:=h.b q hq;exact hC.b q this.1 this.2)
 rwa [List.length_map] at this
theorem RowOk.ext {C Q:List Int} {i:Int} {row:List Int} (h:RowOk d C Q i row) (i0:0<=i) (i1:i < Q.length) (x:List Int):RowOk d C (Q++x) i row:=
 ⟨h.len,fun a a0 a1=>by
  obtain ⟨h1,h2,h3⟩:=h.to a a0 a1;rw [zai h1 h2,zai i0 i1];exact ⟨h1,by rw [List.length_append];omega,h3⟩⟩
structure OfOk (d:Dt) (C l:List Int) (K:Nat):Prop where
 len:l.length=d.2.2.1.length
 b:∀ v:Int,0<=v->v < K->0<=ix l v/\ix l v < d.2.2.1.length/\ix C (ix l v)=v
def nxC (d:Dt) (C l:List Int) (v a:Int):Int:=ix C (ix (ix d.2.2.1 (ix l v)) a)
def mkC (d:Dt) (l:List Int) (v:Int):Int:=ix d.2.2.2.1 (ix l v)
structure LeastOk (d o:Dt) (C Q:List Int) (K:Nat):Prop where
 fin:FinC d C K
 part:PartOk d C Q o.2.2.1 o.2.2.2.1
 all:o.2.2.1.length=Q.length
 let1:o.1=d.1
 st:o.2.1=0
 by1:∃ (l:List Int) (n:Nat),OfOk d C l K/\XGo (nxC d C l) (mkC d l) d.1.toNat (ix C d.2.1) n/\(xSt (nxC d C l) (mkC d l) d.1.toNat (ix C d.2.1) n).1.length=n/\o=xAut (nxC d C l) (mkC d l) d.1.toNat (ix C d.2.1) n
def zx2 (d:Dt) (C Q NA:List Int):Prop:=NA.length=d.2.2.1.length/\∀ v:Int,0<=v->v < d.2.2.1.length->ix NA v=match zbG (Q.map (ix C)) v with
 | some j=>(j:Int)
 | none => -1
theorem zoD {row:List Int} {t:Nat} {v:Int} (h:t < row.length):(row.set t v).take (t+1)=row.take t++[v]:=by
 rw [List.take_add_one,List.take_set_of_le (Nat.le_refl _),List.getElem?_set_self h];rfl
theorem ztA (h:DOk 20000 badM d) {C l Q0:List Int} {K:Nat} (hC:FinC d C K) (hl:OfOk d C l K) {L0:List Int} {D2:List (List Int)} {D3:List Int} {r4} {lk:List Int} {i:Int} (hi:i=D2.length) (eL:ix L0 i=ix C (ix Q0 i)):
  ∀ (f:Nat) (t:Int) (Q NA row:List Int),(d.1 - t).toNat=f->0<=t->t<=d.1->PartOk d C Q D2 D3->i < Q.length->ix Q i=ix Q0 i->zx2 d C Q NA->(row.length:Int)=d.1->
   (∀ a:Int,0<=a->a < t->0<=ix row a/\ix row a < Q.length/\ix C (ix Q (ix row a))=ix C (ix (ix d.2.2.1 (ix Q i)) a))->xRow (nxC d C l) (ix C (ix Q0 i)) lk t.toNat=(Q.map (ix C),row.take t.toNat)->
  ∃ x NA' row',xRow (nxC d C l) (ix C (ix Q0 i)) lk d.1.toNat=((Q++x).map (ix C),row')/\PartOk d C (Q++x) (D2++[row']) (D3++[ix d.2.2.2.1 (ix Q i)])/\zx2 d C (Q++x) NA'/\
   zbf d.1 C d l d l ((C.length:Int)+1) d.1 0 L0 D2 D3 r4 t (Q.map (ix C)) (iota (Q.map (ix C)).length) (Q.map (ix C)) row=r4 d.1 0 ((Q++x).map (ix C)) (iota ((Q++x).map (ix C)).length) ((Q++x).map (ix C)) (D2++[row']) (D3++[ix d.2.2.2.1 (ix Q i)]):=by
 have hn:=h.n1;have hlt:=h.let1;have hmk:=h.mkl;have hcl:=hC.len;have hK:=hC.le;intro f
 induction f with
 | zero=>
  intro t Q NA row hf t0 t1 hP hiQ eQ hN hrl hrow hxr;obtain rfl:t=d.1:=by omega
  have hQK:=hP.q.le hC;have hq:=hP.q.b _ (za5 (by omega) hiQ)
  have hv:=hC.b _ hq.1 hq.2;obtain ⟨o1,o2,o3⟩:=hl.b _ hv.1 hv.2;have hl3:=hP.l3;have hll:=hl.len;have hmark:ix d.2.2.2.1 (ix l (ix C (ix Q i)))=ix d.2.2.2.1 (ix Q i):=hC.mark _ _ o1 o2 hq.1 hq.2 o3;refine ⟨[],NA,row,by rw [hxr,List.append_nil,List.take_of_length_le (by omega)],⟨by simpa using hP.q,by rw [List.length_append,List.length_append,List.length_singleton];omega,by rw [List.length_append,List.length_append,List.length_singleton,List.length_singleton];omega,fun j j0 j1 => ?_,fun j j0 j1 => ?_⟩,by simpa using hN,?_⟩
  ·rw [List.length_append,List.length_singleton] at j1;rw [List.append_nil];by_cases e:j < D2.length
   ·rw [zai j0 e];exact hP.row j j0 e
   ·obtain rfl:j=D2.length:=by omega
    rw [zaR,<- hi];exact ⟨hrl,hrow⟩
  ·rw [List.length_append,List.length_singleton] at j1;rw [List.append_nil];by_cases e:j < D2.length
   ·rw [zai j0 (by omega)];exact hP.mark j j0 e
   ·have e1:j=D3.length:=by omega
    have e2:j=i:=by omega
    rw [e1,zaR,<- e1,e2]
  ·rw [zhl];unfold zbz zix;rw [if_neg (by simp),<- hi,eL,<- eQ,List.append_nil]
   refine G_to (by unfold room;simp;have:=hP.l2;omega) ?_
   refine zac (y:=ix d.2.2.2.1 (ix Q i)) ?_ ?_
   ·rw [<- hmark];exact G_to (by omega) (G_to (by omega) rfl)
   ·exact G_to (by unfold room;simp;have:=hP.l2;omega) rfl
 | succ f ih=>
  intro t Q NA row hf t0 t1 hP hiQ eQ hN hrl hrow hxr;have hQK:=hP.q.le hC;have hq:=hP.q.b _ (za5 (by omega) hiQ)
  have hv:=hC.b _ hq.1 hq.2;obtain ⟨o1,o2,o3⟩:=hl.b _ hv.1 hv.2;have hll:=hl.len;have hr1:=h.tab.rowlen hq.1 hq.2;have hr2:=h.tab.rowlen o1 o2;have hx:=h.tab.stpb hq.1 hq.2 t0 (by omega)
  have hy:=h.tab.stpb o1 o2 t0 (by omega)
  unfold stp at hx hy;have hst:=hC.stable _ _ o1 o2 hq.1 hq.2 o3 t t0 (by omega)
  have hw:=hC.b _ hx.1 hx.2;have hNx:=hN.2 _ hw.1 (by omega:_ < (d.2.2.1.length:Int))
  have hNl:=hN.1;obtain ⟨x,hxd⟩:∃ x,x=ix (ix d.2.2.1 (ix Q i)) t:=⟨_,rfl⟩;rw [<- hxd] at hx hst hw hNx;have hnx:nxC d C l (ix C (ix Q0 i)) (t.toNat:Int)=ix C x:=by
   unfold nxC;rw [<- eQ,Int.toNat_of_nonneg t0];exact hst
  have s1:zf6 (ix L0 (D2.length:Int)) t C d l=some (ix C x):=by
   unfold zf6;rw [<- hi,eL,<- eQ,<- hst];exact G_to (by omega) (G_to (by omega) (G_to (by omega) (G_to (by omega) rfl)))
  have hP1:zbf d.1 C d l d l ((C.length:Int)+1) d.1 0 L0 D2 D3 r4 t (Q.map (ix C)) (iota (Q.map (ix C)).length) (Q.map (ix C)) row=
    if ix C x∈Q.map (ix C) then zbf d.1 C d l d l ((C.length:Int)+1) d.1 0 L0 D2 D3 r4 (t+1) (Q.map (ix C)) (iota (Q.map (ix C)).length) (Q.map (ix C)) (row.set t.toNat (mget (Q.map (ix C)) (iota (Q.map (ix C)).length) (ix C x) 0))
    else zbf d.1 C d l d l ((C.length:Int)+1) d.1 0 L0 D2 D3 r4 (t+1) ((Q++[x]).map (ix C)) (iota ((Q++[x]).map (ix C)).length) ((Q++[x]).map (ix C)) (row.set t.toNat (Q.length:Int)):=by
   conv=>lhs;rw [zhl];unfold zbz
   rw [if_pos (by simp;omega)]
   refine zac s1 ?_
   unfold zcp;by_cases c:ix C x∈Q.map (ix C)
   ·rw [if_neg (by rw [zqw.2 c];simp),if_pos c]
    exact G_to (by omega) (G_to (by omega) (G_to (by unfold fits;omega) rfl))
   ·have hh:mhas (Q.map (ix C)) (ix C x)=false:=by
     cases e:mhas (Q.map (ix C)) (ix C x) with
     | false=>rfl
     | true=>exact absurd (zqw.1 e) c
    rw [if_pos (by rw [hh];rfl),if_neg c,if_neg (by rw [decide_eq_true_iff,List.length_map];omega),zrq c,zo0 c,List.map_append,List.map_singleton,List.length_map]
    exact G_to (by unfold room;simp;omega) (G_to (by omega) (G_to (by omega) (G_to (by unfold fits;omega) rfl)))
  rw [hP1];have rowstep:∀ (Q':List Int) (v:Int),(∀ j:Int,0<=j->j < Q.length->ix Q' j=ix Q j)->Q.length<=Q'.length->0<=v->v < Q'.length->ix C (ix Q' v)=ix C x->
    ∀ a:Int,0<=a->a < t+1->0<=ix (row.set t.toNat v) a/\ix (row.set t.toNat v) a < Q'.length/\ix C (ix Q' (ix (row.set t.toNat v) a))=ix C (ix (ix d.2.2.1 (ix Q' i)) a):=fun Q' v hQ' hle v0 v1 hv' a a0 a1=>by
   by_cases e:a=t
   ·subst e;rw [zap a0 (by omega),hQ' i (by omega) hiQ,<- hxd];exact ⟨v0,v1,hv'⟩
   ·obtain ⟨h1,h2,h3⟩:=hrow a a0 (by omega)
    rw [zat t0 a0 (Ne.symm e),hQ' _ h1 h2,hQ' i (by omega) hiQ]
    exact ⟨h1,by omega,h3⟩
  by_cases c:ix C x∈Q.map (ix C)
  ·obtain ⟨j,hj⟩:=zuM c;have hjl:=zj5 hj;rw [List.length_map] at hjl;have hjx:ix C (ix Q j)=ix C x:=by
    have:=zht hj;rw [List.getElem?_map,List.getElem?_eq_getElem hjl,Option.map_some] at this;have e2:ix Q (j:Int)=Q[j]:=by rw [zlq (l:=Q) (by omega) (by omega)];simp
    rw [e2];exact Option.some.inj this
   rw [hj] at hNx;have hNx:ix NA (ix C x)=(j:Int):=hNx;rw [if_pos c,zro hj];refine ih (t+1) Q NA _ (by omega) (by omega) (by omega) hP hiQ eQ hN (by rw [List.length_set];exact hrl) (rowstep Q j (fun _ _ _=>rfl) (Nat.le_refl _) (by omega) (by omega) hjx) ?_
   rw [show (t+1).toNat=t.toNat+1 by omega,zr9 (j:=j) (by rw [hxr,hnx];exact hj),hxr,zoD (by omega)]
  ·rw [zcA.2 c] at hNx;have hNx:ix NA (ix C x) = -1:=hNx;rw [if_neg c];have hQ':∀ j:Int,0<=j->j < Q.length->ix (Q++[x]) j=ix Q j:=fun j j0 j1=>zai j0 j1
   have hP':PartOk d C (Q++[x]) D2 D3:=by
    refine ⟨⟨fun q hq=>(List.mem_append.1 hq).elim (hP.q.b q) (fun e=>by rw [List.mem_singleton.1 e];exact hx),?_,?_⟩,by rw [List.length_append];have:=hP.l2;omega,hP.l3,fun j j0 j1 => ?_,fun j j0 j1 => ?_⟩
    ·rw [List.map_append,List.nodup_append];exact ⟨hP.q.nd,by simp,fun u hu w hw=>by rw [List.map_singleton,List.mem_singleton] at hw;rw [hw];rintro rfl;exact c hu⟩
    ·have:=hP.q.z;exact ⟨by simp,by rw [hQ' 0 (by omega) (by omega)];exact this.2⟩
    ·exact (hP.row j j0 j1).ext j0 (by have:=hP.l2;omega) _
    ·rw [hQ' j j0 (by have:=hP.l2;omega)];exact hP.mark j j0 j1
   have hN':zx2 d C (Q++[x]) (NA.set (ix C x).toNat (Q.length:Int)):=by
    refine ⟨by rw [List.length_set];exact hN.1,fun v v0 v1 => ?_⟩
    rw [List.map_append,List.map_singleton];by_cases e:v=ix C x
    ·subst e;rw [zap v0 (by omega),zuN c]
     simp
    ·rw [zat hw.1 v0 (Ne.symm e),hN.2 v v0 v1]
     cases hm:zbG (Q.map (ix C)) v with
     | some j=>rw [zrn _ hm]
     | none=>
      rw [zcA.2 (fun hh=>by
       rcases List.mem_append.1 hh with hh | hh
       ·exact zcA.1 hm hh
       ·exact e (List.mem_singleton.1 hh))]
   obtain ⟨y,NA',row',z0,z1,z2,z3⟩:=ih (t+1) (Q++[x]) _ (row.set t.toNat (Q.length:Int)) (by omega) (by omega) (by omega) hP' (by rw [List.length_append];omega) (by rw [hQ' i (by omega) hiQ];exact eQ) hN' (by rw [List.length_set];exact hrl)
    (rowstep (Q++[x]) (Q.length:Int) hQ' (by rw [List.length_append];omega) (by omega) (by rw [List.length_append,List.length_singleton];omega) (by rw [zaR])) (by rw [show (t+1).toNat=t.toNat+1 by omega,zr8 (by rw [hxr,hnx];exact zcA.2 c),hxr,hnx,zoD (by omega),List.length_map,List.map_append,List.map_singleton])
   rw [hQ' i (by omega) hiQ] at z1 z3
   rw [List.append_assoc] at z0 z1 z2 z3;exact ⟨_,NA',row',z0,z1,z2,z3⟩
theorem zxG (h:DOk 20000 badM d) {C l:List Int} {K:Nat} (hC:FinC d C K) (hl:OfOk d C l K):∀ (f:Nat) (Q NA:List Int) (D2:List (List Int)) (D3:List Int),20000 - D2.length=f->PartOk d C Q D2 D3->zx2 d C Q NA->XGo (nxC d C l) (mkC d l) d.1.toNat (ix C d.2.1) D2.length->xSt (nxC d C l) (mkC d l) d.1.toNat (ix C d.2.1) D2.length=(Q.map (ix C),D2,D3)->
  ∃ o Q',LeastOk d o C Q' K/\zdj d.1 C d l d l ((C.length:Int)+1) d.1 0 (Q.map (ix C)) (iota (Q.map (ix C)).length) (Q.map (ix C)) D2 D3=some (o,true):=by
 have hn:=h.n1;have hlt:=h.let1;intro f
 induction f using Nat.strongRecOn with
 | ind f ih=>
 intro Q NA D2 D3 hf hP hN hgo hxs;have hQK:=hP.q.le hC;have hK:=hC.le;rw [zne];unfold zbW;by_cases e:D2.length < Q.length
 ·have e1:ix (Q.map (ix C)) (D2.length:Int)=ix C (ix Q (D2.length:Int)):=zwL _ (by omega) (by omega)
  obtain ⟨x,NA',row',z0,z1,z2,z3⟩:=ztA (lk:=Q.map (ix C)) (r4:=zdj d.1 C d l d l ((C.length:Int)+1)) h hC hl (L0:=Q.map (ix C)) (Q0:=Q) (D2:=D2) (D3:=D3) rfl e1 _ 0 Q NA (List.replicate d.1.toNat 0) rfl (by omega) (by omega) hP (by omega) rfl hN (by rw [List.length_replicate];omega) (fun a a0 a1=>by omega) (by simp [xRow])
  have hq:=hP.q.b _ (za5 (by omega) (by omega:(D2.length:Int) < Q.length))
  have hv:=hC.b _ hq.1 hq.2;obtain ⟨o1,o2,o3⟩:=hl.b _ hv.1 hv.2;have hmark:mkC d l (ix C (ix Q (D2.length:Int)))=ix d.2.2.2.1 (ix Q (D2.length:Int)):=hC.mark _ _ o1 o2 hq.1 hq.2 o3;have hgo':XGo (nxC d C l) (mkC d l) d.1.toNat (ix C d.2.1) (D2++[row']).length:=fun k hk=>by
   rw [List.length_append,List.length_singleton] at hk;by_cases c:k < D2.length
   ·exact hgo k c
   ·obtain rfl:k=D2.length:=by omega
    rw [hxs,List.length_map];exact e
  have hxs':xSt (nxC d C l) (mkC d l) d.1.toNat (ix C d.2.1) (D2++[row']).length=((Q++x).map (ix C),D2++[row'],D3++[ix d.2.2.2.1 (ix Q (D2.length:Int))]):=by
   rw [List.length_append,List.length_singleton,xSt,hxs];show ((xRow _ (ix (Q.map (ix C)) (D2.length:Int)) (Q.map (ix C)) d.1.toNat).1,D2++[(xRow _ (ix (Q.map (ix C)) (D2.length:Int)) (Q.map (ix C)) d.1.toNat).2],D3++[mkC d l (ix (Q.map (ix C)) (D2.length:Int))])=_;rw [e1,z0,hmark]
  obtain ⟨o,Q',w1,w2⟩:=ih (20000 - (D2++[row']).length) (by rw [List.length_append,List.length_singleton];have:=z1.q.le hC;have:=z1.l2;rw [List.length_append,List.length_singleton] at this;omega) (Q++x) NA' (D2++[row']) _ rfl z1 z2 hgo' hxs'
  refine ⟨o,Q',w1,?_⟩
  rw [if_pos (by simp;omega)]
  exact G_to (by rw [List.length_map];omega) (G_to (by rw [List.length_map];omega) (G_to (by unfold mkOK;omega) (z3.trans w2)))
 ·refine ⟨(d.1,0,D2,D3,()),Q,⟨hC,hP,by have:=hP.l2;show D2.length=Q.length;omega,rfl,rfl,l,D2.length,hl,hgo,by rw [hxs,List.length_map];have:=hP.l2;omega,by unfold xAut;rw [hxs,Int.toNat_of_nonneg (by omega)]⟩,?_⟩
  rw [if_neg (by rw [decide_eq_true_iff,List.length_map];omega)]
theorem zvl (h:DOk 20000 badM d) {C:List Int} {K:Nat} (hC:FinC d C K):∃ l,OfOk d C l K/\zcq d C 0 (List.replicate C.length 0)=zcq d C (C.length:Int) l:=by
 have hn:=h.n1;have hcl:=hC.len;have hK:=hC.le;have key:∀ (f:Nat) (t:Int) (l:List Int),(C.length - t).toNat=f->0<=t->t<=C.length->l.length=C.length->(∀ v:Int,0<=v->v < K->(∃ q:Int,0<=q/\q < t/\ix C q=v)->0<=ix l v/\ix l v < d.2.2.1.length/\ix C (ix l v)=v)->
   ∃ l',OfOk d C l' K/\zcq d C t l=zcq d C (C.length:Int) l':=by
  intro f
  induction f with
  | zero=>
   intro t l hf t0 t1 hll hv;obtain rfl:t=C.length:=by omega
   exact ⟨l,⟨by omega,fun v v0 v1=>by
    obtain ⟨q,q0,q1,e⟩:=hC.sur v v0 v1;exact hv v v0 v1 ⟨q,q0,by omega,e⟩⟩,rfl⟩
  | succ f ih=>
   intro t l hf t0 t1 hll hv;have hb:=hC.b t t0 (by omega)
   obtain ⟨l',h1,h2⟩:=ih (t+1) (l.set (ix C t).toNat t) (by omega) (by omega) (by omega) (by rw [List.length_set];exact hll) (fun v v0 v1 ⟨q,q0,q1,e⟩=>by
    by_cases e2:v=ix C t
    ·subst e2;rw [zap v0 (by omega)];exact ⟨t0,by omega,rfl⟩
    ·rw [zat hb.1 v0 (Ne.symm e2)];refine hv v v0 v1 ⟨q,q0,?_,e⟩
     by_cases e3:q=t
     ·subst e3;exact absurd e.symm e2
     ·omega)
   refine ⟨l',h1,?_⟩
   rw [<- h2]
   conv=>lhs;rw [zii];unfold zbQ
   rw [if_pos (by simp;omega)]
   exact G_to (by omega) (G_to (by omega) (G_to (by omega) (G_to (by omega) (G_to (by unfold fits;omega) rfl))))
 exact key _ 0 _ rfl (by omega) (by omega) (by rw [List.length_replicate]) (fun v v0 v1 ⟨q,q0,q1,_⟩=>by omega)
theorem zxF (h:DOk 20000 badM d):∃ o C Q K,LeastOk d o C Q K/\zgf d=some o:=by
 have hn:=h.n1;obtain ⟨C,K,hC,c1⟩:=zuf h;obtain ⟨l,hl,l1⟩:=zvl h hC;have hs:=h.st;have hcl:=hC.len;have hb:=hC.b _ hs.1 hs.2;have hK:=hC.le;have hP:PartOk d C [d.2.1] [] []:=⟨⟨fun q hq=>by rw [List.mem_singleton.1 hq];exact hs,by simp,by simp,rfl⟩,by simp,rfl,fun i i0 i1=>by simp at i1;omega,fun i i0 i1=>by simp at i1;omega⟩
 have hN:zx2 d C [d.2.1] ((List.replicate C.length (-1:Int)).set (ix C d.2.1).toNat 0):=by
  refine ⟨by rw [List.length_set,List.length_replicate];exact hcl,fun v v0 v1 => ?_⟩
  rw [List.map_singleton];by_cases e:v=ix C d.2.1
  ·subst e;rw [zap v0 (by rw [List.length_replicate];omega),zmm];rfl
  ·rw [zat hb.1 v0 (Ne.symm e),zc1 v0 (by omega),zcA.2 (by simpa using e)]
 obtain ⟨o,Q,w1,w2⟩:=zxG h hC hl _ [d.2.1] _ [] [] rfl hP hN (fun k hk=>by simp at hk) rfl
 have ed:(d.1,d.2.1,d.2.2.1,d.2.2.2.1,())=d:=rfl;refine ⟨o,C,Q,K,w1,?_⟩
 ·unfold zgf;rw [ed];refine zac c1 ?_
  refine G_to (by unfold mkOK;omega) ?_
  rw [Int.toNat_natCast,l1,zii];unfold zbQ;rw [if_neg (by simp)]
  refine G_to (by omega) (G_to (by omega) (G_to (by unfold fits;omega) ?_))
  have hE:zg2 d.1 (ix C d.2.1) C d l d l ((C.length:Int)+1)=some (o,true):=w2;refine zbN ?_ ?_
  ·rw [ed];exact zac hE rfl
  ·rw [ed];exact zac hE rfl
end
theorem zsG {d o:Dt} {C Q:List Int} {K:Nat} (hd:DOk 20000 badM d) (h:LeastOk d o C Q K):∀ (w:List Int) (i q:Int),0<=i->i < Q.length->0<=q->q < d.2.2.1.length->ix C (ix Q i)=ix C q->(∀ a∈w,0<=a/\a < d.1)->
  0<=wlk o.2.2.1 i w/\wlk o.2.2.1 i w < Q.length/\ix C (ix Q (wlk o.2.2.1 i w))=ix C (wlk d.2.2.1 q w)
 | [],i,q,i0,i1,_,_,e,_=>⟨i0,i1,e⟩
 | a::w,i,q,i0,i1,q0,q1,e,hw=>by
  have ha:=hw a (by simp)
  have hr:=h.part.row i i0 (by rw [h.all];exact i1)
  obtain ⟨t1,t2,t3⟩:=hr.to a ha.1 ha.2;have hq:=h.part.q.b _ (za5 i0 i1);have hs:=hd.tab.stpb q0 q1 ha.1 ha.2;have hst:=h.fin.stable _ _ hq.1 hq.2 q0 q1 e a ha.1 ha.2;exact zsG hd h w (ix (ix o.2.2.1 i) a) (stp d.2.2.1 q a) t1 t2 hs.1 hs.2 (t3.trans hst) (fun b hb=>hw b (by simp [hb]))
theorem zxH {d o:Dt} {C Q:List Int} {K:Nat} (hd:DOk 20000 badM d) (h:LeastOk d o C Q K) {w:List Int} (hw:∀ a∈w,0<=a/\a < d.1):0<=wlk o.2.2.1 o.2.1 w/\wlk o.2.2.1 o.2.1 w < o.2.2.1.length/\ix o.2.2.2.1 (wlk o.2.2.1 o.2.1 w)=ix d.2.2.2.1 (wlk d.2.2.1 d.2.1 w):=by
 have hz:=h.part.q.z;have hst:=hd.st;obtain ⟨h1,h2,h3⟩:=zsG hd h w 0 d.2.1 (by omega) (by omega) hst.1 hst.2 (by rw [hz.2]) hw
 rw [h.st];refine ⟨h1,by rw [h.all];exact h2,?_⟩
 rw [h.part.mark _ h1 (by rw [h.all];exact h2)]
 have hq:=h.part.q.b _ (za5 h1 h2);have hw2:=hd.tab.wlkb hst.1 hst.2 hw;exact h.fin.mark _ _ hq.1 hq.2 hw2.1 hw2.2 h3
theorem zC7 {α:Type} [Inhabited α] {l:List α} (h:l.Nodup) {i j:Int} (i0:0<=i) (i1:i < l.length) (j0:0<=j) (j1:j < l.length) (e:ix l i=ix l j):i=j:=by
 rw [zlq i0 i1,zlq j0 j1] at e;have key:∀ a b:Nat,(ha:a < l.length)->(hb:b < l.length)->a < b->l[a]≠l[b]:=fun a b ha hb hlt=>List.pairwise_iff_getElem.1 h a b ha hb hlt
 rcases Nat.lt_trichotomy i.toNat j.toNat with c | c | c
 ·exact absurd e (key _ _ (by omega) (by omega) c)
 ·omega
 ·exact absurd e.symm (key _ _ (by omega) (by omega) c)
theorem zvg {nx:Int->Int->Int} {s:Int} {l:List Int}:∀ t:Nat,∀ x∈(xRow nx s l t).1,x∈l\/∃ a:Int,0<=a/\a < t/\x=nx s a
 | 0,x,hx => .inl hx
 | t+1,x,hx=>by
  have ih:=zvg (nx:=nx) (s:=s) (l:=l) t;have up:(x∈l\/∃ a:Int,0<=a/\a < t/\x=nx s a)->(x∈l\/∃ a:Int,0<=a/\a < ((t+1:Nat):Int)/\x=nx s a):=fun h=>h.imp id (fun ⟨a,a0,a1,e⟩=>⟨a,a0,by omega,e⟩)
  cases c:zbG (xRow nx s l t).1 (nx s t) with
  | some j=>rw [zr9 c] at hx;exact up (ih x hx)
  | none=>
   rw [zr8 c] at hx;rcases List.mem_append.1 hx with hx | hx
   ·exact up (ih x hx)
   ·rw [List.mem_singleton.1 hx];exact .inr ⟨t,by omega,by omega,rfl⟩
theorem zxb {nx:Int->Int->Int} {mk:Int->Int} {L:Nat} {first:Int}:∀ i:Nat,XGo nx mk L first i->∀ x∈(xSt nx mk L first i).1,∃ w:List Int,(∀ a∈w,0<=a/\a < (L:Int))/\x=w.foldl nx first
 | 0,_,x,hx=>⟨[],(fun a ha=>by cases ha),by simpa [xSt] using hx⟩
 | i+1,hg,x,hx=>by
  have ih:=zxb i (fun k hk=>hg k (by omega))
  have hi:=hg i (by omega)
  rcases zvg L x hx with h | ⟨a,a0,a1,rfl⟩
  ·exact ih x h
  ·obtain ⟨w,w1,w2⟩:=ih _ (za5 (i:=(i:Int)) (by omega) (by omega))
   refine ⟨w++[a],fun b hb=>(List.mem_append.1 hb).elim (w1 b) (fun e=>by rw [List.mem_singleton.1 e];exact ⟨a0,a1⟩),?_⟩
   rw [List.foldl_append,<- w2];rfl
section
variable {d o:Dt} {C Q:List Int} {K:Nat}
theorem LeastOk.xok (hd:DOk 20000 badM d) (h:LeastOk d o C Q K) {l:List Int} (hl:OfOk d C l K):XOk (nxC d C l) (mkC d l) d.1.toNat (ix C d.2.1) K (fun v=>0<=v/\v < K):=by
 have hlt:=hd.let1;have hmk:=hd.mkl;refine XOk.int (fun s hs=>hs) (h.fin.b _ hd.st.1 hd.st.2) (fun s hs t t0 t1 => ?_) (fun s hs => ?_)
 ·obtain ⟨a1,a2,_⟩:=hl.b s hs.1 hs.2;have:=hd.tab.stpb a1 a2 t0 (by omega)
  exact h.fin.b _ this.1 this.2
 ·obtain ⟨a1,a2,_⟩:=hl.b s hs.1 hs.2;have:=hd.mok _ (za5 a1 (by omega:ix l s < d.2.2.2.1.length))
  unfold badM at this;unfold mkC;omega
theorem LeastOk.dok (hd:DOk 20000 badM d) (h:LeastOk d o C Q K):DOk 20000 badM o:=by
 obtain ⟨l,n,hl,go,gn,rfl⟩:=h.by1;have hlt:=hd.let1;have hn:=hd.n1;have hK:=h.fin.le;exact zzK (h.xok hd hl) (by omega) (by omega) go gn
theorem LeastOk.reach (hd:DOk 20000 badM d) (h:LeastOk d o C Q K) {q:Int} (q0:0<=q) (q1:q < o.2.2.1.length):∃ w:List Int,(∀ a∈w,0<=a/\a < d.1)/\wlk o.2.2.1 o.2.1 w=q:=by
 obtain ⟨l,n,hl,go,gn,rfl⟩:=h.by1;have hlt:=hd.let1;have hx:=h.xok hd hl;obtain ⟨k1,k2,k3⟩:=zmb hx n go;have hr:=k3.r;have q1':q < ((xSt (nxC d C l) (mkC d l) d.1.toNat (ix C d.2.1) n).1.length:Int):=by
  have:q < ((xSt (nxC d C l) (mkC d l) d.1.toNat (ix C d.2.1) n).2.1.length:Int):=q1;omega
 obtain ⟨w,w1,w2⟩:=zxb n go _ (za5 q0 q1');obtain ⟨y1,y2,y3⟩:=zr7 hx go gn w 0 (by omega) (by omega) w1
 rw [k3.z,<- w2] at y3;refine ⟨w,fun a ha=>by have:=w1 a ha;omega,?_⟩
 show wlk _ 0 w=q;exact zC7 k1.nd y1 (by omega) q0 q1' y3
end
inductive Star {α:Type} (R:α->α->Prop):α->α->Prop
 | refl (x:α):Star R x x
 | tail {x y z:α}:Star R x y->R y z->Star R x z
def StA (a:Au) (p x q:Int):Prop:=(p,x,q,())∈a.2.2.2.1
structure AuOk (a:Au):Prop where
 let1:1<=a.1/\a.1<=4
 n1:1<=a.2.1/\a.2.1<=300
 sl:(a.2.2.2.1.length:Int)<=40000
 sb:∀ x∈a.2.2.2.1,(0<=x.1/\x.1 < a.2.1)/\(0<=x.2.1/\x.2.1 < a.1)/\(0<=x.2.2.1/\x.2.2.1 < a.2.1)
 s:∀ q∈a.2.2.1,0<=q/\q < a.2.1
 f:∀ q∈a.2.2.2.2.1,0<=q/\q < a.2.1
 ls:(a.2.2.1.length:Int)<=300
 lf:(a.2.2.2.2.1.length:Int)<=300
theorem zw4 {l:List Int} {n:Int} (hf : ¬ zs1 l) (hb:∀ q∈l,0<=q/\q < n) (n0:0<=n):(l.length:Int)<=n:=by
 have key:∀ (k:Nat),k < l.length->(k:Int)<=ix l k:=by
  intro k
  induction k with
  | zero=>intro h;exact (hb _ (za5 (by omega) (by omega))).1
  | succ k ih=>
   intro h;have h1:=ih (by omega)
   have h2 : ¬ ix l ((k+1:Nat):Int)<=ix l (((k+1:Nat):Int) - 1):=fun hh=>hf ⟨((k+1:Nat):Int),by omega,by omega,hh⟩
   rw [show ((k+1:Nat):Int) - 1=(k:Int) by omega] at h2
   omega
 by_cases c:l.length=0
 ·omega
 ·have h1:=key (l.length - 1) (by omega)
  have h2:=(hb _ (za5 (l:=l) (i:=((l.length - 1:Nat):Int)) (by omega) (by omega))).2
  omega
theorem zqH {a:Au} (h:autE a=0):AuOk a:=by
 unfold autE at h;by_cases c1:a.1 < 1\/4 < a.1
 ·rw [if_pos c1] at h;omega
 rw [if_neg c1] at h;by_cases c2:zs0 a
 ·rw [if_pos c2] at h;omega
 rw [if_neg c2] at h;by_cases c3:AOut a
 ·rw [if_pos c3] at h;omega
 rw [if_neg c3] at h;by_cases c4:zqE a
 ·rw [if_pos c4] at h;omega
 unfold zs0 at c2;unfold AOut at c3;unfold zqE at c4;have hs:∀ q∈a.2.2.1,0<=q/\q < a.2.1:=fun q hq=>by
  have : ¬ noS a q:=fun hh=>c3 (.inl ⟨q,hq,hh⟩)
  unfold noS at this;omega
 have hf:∀ q∈a.2.2.2.2.1,0<=q/\q < a.2.1:=fun q hq=>by
  have : ¬ noS a q:=fun hh=>c3 (.inr (.inl ⟨q,hq,hh⟩))
  unfold noS at this;omega
 have n1:1<=a.2.1/\a.2.1<=300:=by omega
 have ls:=zw4 (fun hh=>c4 (.inl hh)) hs (by omega)
 have lf:=zw4 (fun hh=>c4 (.inr (.inl hh))) hf (by omega)
 refine ⟨by omega,n1,by omega,fun x hx => ?_,hs,hf,by omega,by omega⟩
 have : ¬ badX a x:=fun hh=>c3 (.inr (.inr ⟨x,hx,hh⟩))
 unfold badX noS at this;omega
def Wt (a:Au) (u:Nat->Int):Nat->Nat->Int->Int->Prop
 | 0,_,p,q=>p=q
 | m+1,s,p,q=>∃ r,StA a p (u s) r/\Wt a u m (s+1) r q
def Wf (a:Au) (u:Nat->Int) (m s:Nat) (p q:Int):Prop:=∃ i f,i < m/\f∈a.2.2.2.2.1/\Wt a u i s p f/\Wt a u (m - i) (s+i) f q
section
variable {a:Au} {u:Nat->Int} {h len:Nat}
theorem Wt.add {k:Nat}:∀ {m s:Nat} {p q:Int},Wt a u (m+k) s p q↔∃ r,Wt a u m s p r/\Wt a u k (s+m) r q
 | 0,s,p,q=>by
  rw [Nat.zero_add];exact ⟨fun hh=>⟨p,rfl,hh⟩,fun ⟨r,h1,h2⟩=>by cases h1;exact h2⟩
 | m+1,s,p,q=>by
  rw [show m+1+k=(m+k)+1 by omega]
  have e:s+(m+1)=s+1+m:=by omega
  constructor
  ·rintro ⟨r,h1,h2⟩;obtain ⟨x,h3,h4⟩:=Wt.add.1 h2;exact ⟨x,⟨r,h1,h3⟩,by rw [e];exact h4⟩
  ·rintro ⟨x,⟨r,h1,h3⟩,h4⟩;rw [e] at h4;exact ⟨r,h1,Wt.add.2 ⟨x,h3,h4⟩⟩
theorem Wt.comp {m k s t:Nat} {p r q:Int} (h1:Wt a u m s p r) (h2:Wt a u k t r q) (e:t=s+m):Wt a u (m+k) s p q:=Wt.add.2 ⟨r,h1,e ▸ h2⟩
theorem Wt.snoc {m s:Nat} {p q:Int}:Wt a u (m+1) s p q↔∃ r,Wt a u m s p r/\StA a r (u (s+m)) q:=by
 rw [Wt.add];exact ⟨fun ⟨r,h1,x,h2,h3⟩=>⟨r,h1,by cases h3;exact h2⟩,fun ⟨r,h1,h2⟩=>⟨r,h1,q,h2,rfl⟩⟩
theorem Wt.shift (hu:∀ t,h<=t->u (t+len)=u t):∀ {m s:Nat} {p q:Int},h<=s->(Wt a u m (s+len) p q↔Wt a u m s p q)
 | 0,s,p,q,_=>Iff.rfl
 | m+1,s,p,q,hs=>by
  show (∃ r,StA a p (u (s+len)) r/\Wt a u m (s+len+1) r q)↔(∃ r,StA a p (u s) r/\Wt a u m (s+1) r q);rw [hu s hs,show s+len+1=s+1+len by omega]
  exact exists_congr fun r=>and_congr Iff.rfl (Wt.shift hu (by omega))
theorem Wt.shifts (hu:∀ t,h<=t->u (t+len)=u t) {m s:Nat} {p q:Int} (hs:h<=s):∀ k:Nat,(Wt a u m (s+k * len) p q↔Wt a u m s p q)
 | 0=>by rw [Nat.zero_mul];exact Iff.rfl
 | k+1=>by
  rw [Nat.succ_mul,<- Nat.add_assoc];exact (Wt.shift hu (by omega)).trans (Wt.shifts hu hs k)
def Rd (a:Au) (u:Nat->Int) (h len:Nat) (p q:Int):Prop:=Wt a u len h p q
def Rf (a:Au) (u:Nat->Int) (h len:Nat) (p q:Int):Prop:=Wf a u len h p q
theorem zrW (hu:∀ t,h<=t->u (t+len)=u t) {p q:Int}:Star (Rd a u h len) p q↔∃ k,Wt a u (k * len) h p q:=by
 constructor
 ·intro hs
  induction hs with
  | refl=>exact ⟨0,by rw [Nat.zero_mul];rfl⟩
  | tail _ r ih=>
   obtain ⟨k,hk⟩:=ih;exact ⟨k+1,by rw [Nat.succ_mul];exact hk.comp ((Wt.shifts hu (Nat.le_refl h) k).2 r) rfl⟩
 ·rintro ⟨k,hk⟩
  induction k generalizing q with
  | zero=>rw [Nat.zero_mul] at hk;cases hk;exact .refl _
  | succ k ih=>
   rw [Nat.succ_mul] at hk;obtain ⟨r,h1,h2⟩:=Wt.add.1 hk;exact (ih h1).tail ((Wt.shifts hu (Nat.le_refl h) k).1 h2)
theorem Rf.rd {p q:Int} (hh:Rf a u h len p q):Rd a u h len p q:=by
 obtain ⟨i,f,hi,_,h1,h2⟩:=hh;have:=h1.comp h2 rfl
 rwa [show i+(len - i)=len by omega] at this
def zmE (a:Au) (u:Nat->Int) (h len:Nat) (q:Int):Prop:=∃ x y,Star (Rd a u h len) q x/\Rf a u h len x y/\Star (Rd a u h len) y q
def FarP (a:Au) (u:Nat->Int) (h len:Nat) (q:Int):Prop:=∃ r,(∃ q0∈a.2.2.1,Wt a u h 0 q0 r)/\Star (Rd a u h len) r q
def RefA (a:Au) (u:Nat->Int) (h len:Nat):Prop:=∃ q,FarP a u h len q/\zmE a u h len q
def zBk (a:Au) (u:Nat->Int) (h len:Nat):Prop:=∃ q0∈a.2.2.1,∃ s f,Wt a u s 0 q0 f/\f∈a.2.2.2.2.1/\h<=s/\∃ b,1<=b/\Wt a u (b * len) s f f
theorem zw2 (hl:0 < len) (hu:∀ t,h<=t->u (t+len)=u t):RefA a u h len↔zBk a u h len:=by
 constructor
 ·rintro ⟨q,⟨r,⟨q0,hq0,h0⟩,hrq⟩,x,y,hqx,⟨i,f,hi,hf,hxf,hfy⟩,hyq⟩;obtain ⟨k1,h1⟩:=(zrW hu).1 hrq;obtain ⟨k2,h2⟩:=(zrW hu).1 hqx;obtain ⟨k3,h3⟩:=(zrW hu).1 hyq;have g1:Wt a u (h+k1 * len) 0 q0 q:=h0.comp h1 (by omega)
  have g2:Wt a u (h+k1 * len+k2 * len) 0 q0 x:=g1.comp ((Wt.shifts hu (Nat.le_refl h) k1).2 h2) (by omega)
  have g3:Wt a u (h+k1 * len+k2 * len+i) 0 q0 f:=by
   refine g2.comp (t:=h+(k1+k2) * len) ((Wt.shifts hu (Nat.le_refl h) (k1+k2)).2 hxf) ?_
   rw [Nat.add_mul];omega
  refine ⟨q0,hq0,_,f,g3,hf,by omega,1+k3+k2,by omega,?_⟩
  have c1:Wt a u (len - i+k3 * len) (h+i) f q:=hfy.comp (t:=h+1 * len) ((Wt.shifts hu (Nat.le_refl h) 1).2 h3) (by omega)
  have c2:Wt a u (len - i+k3 * len+k2 * len) (h+i) f x:=by
   refine c1.comp (t:=h+(1+k3) * len) ((Wt.shifts hu (Nat.le_refl h) (1+k3)).2 h2) ?_
   rw [Nat.add_mul];omega
  have c3:Wt a u (len - i+k3 * len+k2 * len+i) (h+i) f f:=by
   refine c2.comp (t:=h+(1+k3+k2) * len) ((Wt.shifts hu (Nat.le_refl h) (1+k3+k2)).2 hxf) ?_
   rw [Nat.add_mul,Nat.add_mul];omega
  have c4:=(Wt.shifts hu (show h<=h+i by omega) (k1+k2)).2 c3
  rw [show len - i+k3 * len+k2 * len+i=(1+k3+k2) * len by rw [Nat.add_mul,Nat.add_mul];omega,show h+i+(k1+k2) * len=h+k1 * len+k2 * len+i by rw [Nat.add_mul];omega] at c4
  exact c4
 ·rintro ⟨q0,hq0,s,f,h0,hf,hs,b,hb,hc⟩;obtain ⟨c,d,hd,es⟩:∃ c d,d < len/\s=h+c * len+d:=⟨(s - h) / len,(s - h) % len,Nat.mod_lt _ hl,by
   have:=Nat.div_add_mod (s - h) len;rw [Nat.mul_comm] at this;omega⟩
  subst es;obtain ⟨x,hx,hxf⟩:=Wt.add.1 h0;obtain ⟨r,hr,hrx⟩:=Wt.add.1 hx;rw [Nat.zero_add] at hrx hxf;obtain ⟨b,rfl⟩:∃ b',b=b'+1:=⟨b - 1,by omega⟩
  rw [show (b+1) * len=(len - d)+(b * len+d) by rw [Nat.succ_mul];omega] at hc
  obtain ⟨y,hy1,hy2⟩:=Wt.add.1 hc;obtain ⟨z,hz1,hz2⟩:=Wt.add.1 hy2;have e1:h+c * len+d+(len - d)=h+(c+1) * len:=by rw [Nat.succ_mul];omega
  have e2:h+c * len+d+(len - d)+b * len=h+(c+1+b) * len:=by rw [e1,Nat.add_mul (c+1)];omega
  have w1:Wt a u d h x f:=(Wt.shifts hu (Nat.le_refl h) c).1 hxf;have w2:Wt a u (len - d) (h+d) f y:=by
   refine (Wt.shifts hu (show h<=h+d by omega) c).1 ?_
   rw [show h+d+c * len=h+c * len+d by omega];exact hy1
  have w3:Wt a u (b * len) h y z:=(Wt.shifts hu (Nat.le_refl h) (c+1)).1 (by rw [<- e1];exact hz1)
  have w4:Wt a u d h z f:=(Wt.shifts hu (Nat.le_refl h) (c+1+b)).1 (by rw [<- e2];exact hz2)
  have rf:∀ {v},Wt a u d h v f->Rf a u h len v y:=fun hv=>⟨d,f,hd,hf,hv,w2⟩
  exact ⟨y,⟨r,⟨q0,hq0,hr⟩,((zrW hu).2 ⟨c,hrx⟩).tail (rf w1).rd⟩,z,y,(zrW hu).2 ⟨b,w3⟩,rf w4,.refl y⟩
theorem StA.b (ha:AuOk a) {p x q:Int} (hh:StA a p x q):(0<=p/\p < a.2.1)/\(0<=q/\q < a.2.1):=⟨(ha.sb _ hh).1,(ha.sb _ hh).2.2⟩
theorem Wt.b (ha:AuOk a):∀ {m s:Nat} {p q:Int},Wt a u m s p q->0<=p->p < a.2.1->0<=q/\q < a.2.1
 | 0,_,_,_,h,p0,p1=>by cases h;exact ⟨p0,p1⟩
 | _+1,_,_,_,⟨_,h1,h2⟩,_,_=>Wt.b ha h2 (h1.b ha).2.1 (h1.b ha).2.2
def nots (P:Int->Bool):Nat->Nat
 | 0=>0
 | k+1=>nots P k+(if P (k:Int)=true then 0 else 1)
theorem ztH {P Q:Int->Bool}:∀ {n:Nat},(∀ k:Int,0<=k->k < n->P k=true->Q k=true)->nots Q n<=nots P n
 | 0,_=>Nat.le_refl _
 | n+1,hh=>by
  have h1:=ztH (n:=n) (fun k k0 k1=>hh k k0 (by omega))
  have h2:=hh n (by omega) (by omega)
  unfold nots;by_cases c:P (n:Int)=true
  ·rw [if_pos c,if_pos (h2 c)];exact h1
  ·rw [if_neg c];split<;>omega
theorem ztI {P Q:Int->Bool}:∀ {n:Nat},(∀ k:Int,0<=k->k < n->P k=true->Q k=true)->(∃ k:Int,0<=k/\k < n/\Q k=true /\ ¬ P k=true)->nots Q n < nots P n
 | 0,_,⟨k,k0,k1,_⟩=>by omega
 | n+1,hh,⟨k,k0,k1,hq,hp⟩=>by
  have h1:∀ k:Int,0<=k->k < n->P k=true->Q k=true:=fun k k0 k1=>hh k k0 (by omega)
  unfold nots;by_cases e:k=n
  ·subst e;rw [if_pos hq,if_neg hp];have:=ztH h1;omega
  ·have h2:=ztI h1 ⟨k,k0,by omega,hq,hp⟩
   have h3:=hh n (by omega) (by omega)
   by_cases c:P (n:Int)=true
   ·rw [if_pos c,if_pos (h3 c)];exact h2
   ·rw [if_neg c];split<;>omega
end
section
variable {a:Au} {u:Nat->Int} {h len:Nat}
theorem zqN (ha:AuOk a) {B:List Bool} (hB:(B.length:Int)=a.2.1) (x:Int):∃ o,zuX a B x=some o/\(o.length:Int)=a.2.1/\∀ q:Int,0<=q->q < a.2.1->(ix o q=true↔∃ p,ix B p=true/\StA a p x q):=by
 have hsl:=ha.sl;have hn:=ha.n1;have key:∀ (m:Nat) (i:Int) (o:List Bool),0<=i->i+m=a.2.2.2.1.length->(o.length:Int)=a.2.1->
   (∀ q:Int,0<=q->q < a.2.1->(ix o q=true↔∃ k:Int,0<=k/\k < i/\ix B (ix a.2.2.2.1 k).1=true/\(ix a.2.2.2.1 k).2.1=x/\(ix a.2.2.2.1 k).2.2.1=q))->
   ∃ o',zop a B x i o=some o'/\(o'.length:Int)=a.2.1/\∀ q:Int,0<=q->q < a.2.1->(ix o' q=true↔∃ k:Int,0<=k/\k < a.2.2.2.1.length/\ix B (ix a.2.2.2.1 k).1=true/\(ix a.2.2.2.1 k).2.1=x/\(ix a.2.2.2.1 k).2.2.1=q):=by
  intro m
  induction m with
  | zero=>
   intro i o i0 hi ho hq;refine ⟨o,?_,ho,fun q q0 q1 => ?_⟩
   ·rw [zrO];unfold zf0;rw [if_neg (by simp only [decide_eq_true_eq];omega)]
   ·rw [hq q q0 q1,show i=(a.2.2.2.1.length:Int) by omega]
  | succ m ih=>
   intro i o i0 hi ho hq;have hb:=ha.sb _ (za5 i0 (by omega:i < a.2.2.2.1.length))
   have old:∀ (t:Bool),(t=true↔ix B (ix a.2.2.2.1 i).1=true/\(ix a.2.2.2.1 i).2.1=x)->∃ o',zka a i o (zop a B x) t=some o'/\(o'.length:Int)=a.2.1/\∀ q:Int,0<=q->q < a.2.1->(ix o' q=true↔∃ k:Int,0<=k/\k < a.2.2.2.1.length/\ix B (ix a.2.2.2.1 k).1=true/\(ix a.2.2.2.1 k).2.1=x/\(ix a.2.2.2.1 k).2.2.1=q):=by
    intro t ht;unfold zka
    cases t with
    | true=>
     have ht:=ht.1 rfl;rw [if_pos rfl,zaa (by omega),zaa (by omega),zaa (by unfold fits;omega)]
     refine ih (i+1) _ (by omega) (by omega) (by rw [List.length_set];exact ho) (fun q q0 q1 => ?_)
     by_cases e:(ix a.2.2.2.1 i).2.2.1=q
     ·rw [e,zap q0 (by omega)]
      exact ⟨fun _=>⟨i,i0,by omega,ht.1,ht.2,e⟩,fun _=>rfl⟩
     ·rw [zat (by omega) q0 e,hq q q0 q1]
      constructor
      ·rintro ⟨k,k0,k1,k2⟩;exact ⟨k,k0,by omega,k2⟩
      ·rintro ⟨k,k0,k1,k2⟩;by_cases ek:k=i
       ·rw [ek] at k2;exact absurd k2.2.2 e
       ·exact ⟨k,k0,by omega,k2⟩
    | false=>
     rw [if_neg (by decide),zaa (by unfold fits;omega)]
     refine ih (i+1) o (by omega) (by omega) ho (fun q q0 q1 => ?_)
     rw [hq q q0 q1];constructor
     ·rintro ⟨k,k0,k1,k2⟩;exact ⟨k,k0,by omega,k2⟩
     ·rintro ⟨k,k0,k1,k2⟩;by_cases ek:k=i
      ·rw [ek] at k2;have:=ht.2 ⟨k2.1,k2.2.1⟩;cases this
      ·exact ⟨k,k0,by omega,k2⟩
   rw [zrO];unfold zf0;rw [if_pos (decide_eq_true (by omega)),zaa (by omega)]
   by_cases c:(ix a.2.2.2.1 i).2.1=x
   ·rw [if_pos (decide_eq_true c),zaa (by omega)]
    exact old _ (by simp [c])
   ·rw [if_neg (by simpa using c)]
    exact old false (by simp [c])
 obtain ⟨o,e,h1,h2⟩:=key a.2.2.2.1.length 0 (List.replicate a.2.1.toNat false) (by omega) (by omega) (by rw [List.length_replicate];omega) (fun q q0 q1=>by
  rw [zc1 q0 (by omega)]
  exact ⟨fun hh=>(by cases hh),fun ⟨k,k0,k1,_⟩=>by omega⟩)
 refine ⟨o,by unfold zuX;rw [zaa (by unfold mkOK;omega)];exact e,h1,fun q q0 q1=>(h2 q q0 q1).trans ⟨?_,?_⟩⟩
 ·rintro ⟨k,k0,k1,k2,k3,k4⟩;have hm:=za5 k0 k1;exact ⟨_,k2,by unfold StA;rw [<- k3,<- k4];exact hm⟩
 ·rintro ⟨p,hp,hs⟩;obtain ⟨k,k0,k1,e⟩:=(zho (P:=fun y=>y=(p,x,q,()))).1 ⟨_,hs,rfl⟩
  exact ⟨k,k0,k1,by rw [e];exact hp,by rw [e],by rw [e]⟩
theorem Wf.snoc {m s:Nat} {p q:Int}:Wf a u (m+1) s p q↔∃ r,(Wf a u m s p r\/(Wt a u m s p r/\r∈a.2.2.2.2.1))/\StA a r (u (s+m)) q:=by
 constructor
 ·rintro ⟨i,f,hi,hf,h1,h2⟩;by_cases c:i=m
  ·subst c;rw [show i+1 - i=0+1 by omega] at h2
   obtain ⟨r,h3,h4⟩:=Wt.snoc.1 h2
   cases h3;exact ⟨f,.inr ⟨h1,hf⟩,by rw [show s+i+0=s+i by omega] at h4;exact h4⟩
  ·rw [show m+1 - i=(m - i)+1 by omega] at h2
   obtain ⟨r,h3,h4⟩:=Wt.snoc.1 h2;exact ⟨r,.inl ⟨i,f,by omega,hf,h1,h3⟩,by rw [show s+i+(m - i)=s+m by omega] at h4;exact h4⟩
 ·rintro ⟨r,⟨i,f,hi,hf,h1,h2⟩ | ⟨h1,hf⟩,h3⟩
  ·refine ⟨i,f,by omega,hf,h1,?_⟩
   rw [show m+1 - i=(m - i)+1 by omega]
   exact Wt.snoc.2 ⟨r,h2,by rw [show s+i+(m - i)=s+m by omega];exact h3⟩
  ·refine ⟨m,r,by omega,hf,h1,?_⟩
   rw [show m+1 - m=0+1 by omega]
   exact ⟨q,h3,rfl⟩
def FinB (a:Au) (F:List Bool):Prop:=(F.length:Int)=a.2.1/\∀ q:Int,0<=q->q < a.2.1->(ix F q=true↔q∈a.2.2.2.2.1)
abbrev RB:=Bool->List Bool->List Bool->Option Bool
theorem zBd (ha:AuOk a) {L F:List Bool} {loop:List Int} {i:Int} (hF:FinB a F) {p:List Bool} (hp:(p.length:Int)=a.2.1) {r10:Int->List Bool->List Bool->Option Bool} (i0:0<=i) (i1:i < loop.length) (hlen:loop.length<=20000):
  ∀ (m:Nat) (k:Int) (g:List Bool),0<=k->k+m=a.2.1->(g.length:Int)=a.2.1->∃ p' g',zcm a loop F i p r10 k g=r10 (i+1) p' g'/\(p'.length:Int)=a.2.1/\(g'.length:Int)=a.2.1/\
   (∀ q:Int,0<=q->q < a.2.1->(ix p' q=true↔∃ r,ix p r=true/\StA a r (ix loop i) q))/\
   (∀ q:Int,0<=q->q < a.2.1->(ix g' q=true↔∃ r,(ix g r=true\/(k<=r/\ix p r=true/\r∈a.2.2.2.2.1))/\StA a r (ix loop i) q)):=by
 have hn:=ha.n1;have ea:(a.1,a.2.1,a.2.2.1,a.2.2.2.1,a.2.2.2.2.1,())=a:=rfl;intro m
 induction m with
 | zero=>
  intro k g k0 hk hg;obtain ⟨p',e1,l1,s1⟩:=zqN ha hp (ix loop i);obtain ⟨g',e2,l2,s2⟩:=zqN ha hg (ix loop i);refine ⟨p',g',?_,l1,l2,s1,fun q q0 q1=>(s2 q q0 q1).trans (exists_congr fun r => ?_)⟩
  ·rw [zeT];unfold zbT;rw [if_neg (by simp only [decide_eq_true_eq];omega),zaa (by omega),ea]
   refine zac e1 ?_
   rw [zaa (by omega)]
   refine zac e2 ?_
   rw [zaa (by unfold fits;omega)]
  ·constructor
   ·rintro ⟨h1,h2⟩;exact ⟨.inl h1,h2⟩
   ·rintro ⟨h1 | ⟨h1,_,_⟩,h2⟩
    ·exact ⟨h1,h2⟩
    ·have:=(h2.b ha).1;omega
 | succ m ih=>
  intro k g k0 hk hg;have fin:∀ (b:Bool),(b=true↔ix g k=true\/(ix p k=true/\k∈a.2.2.2.2.1))->zcm a loop F i p r10 k g=zcm a loop F i p r10 (k+1) (g.set k.toNat b)->∃ p' g',zcm a loop F i p r10 k g=r10 (i+1) p' g'/\(p'.length:Int)=a.2.1/\(g'.length:Int)=a.2.1/\
   (∀ q:Int,0<=q->q < a.2.1->(ix p' q=true↔∃ r,ix p r=true/\StA a r (ix loop i) q))/\
   (∀ q:Int,0<=q->q < a.2.1->(ix g' q=true↔∃ r,(ix g r=true\/(k<=r/\ix p r=true/\r∈a.2.2.2.2.1))/\StA a r (ix loop i) q)):=by
   intro b hb e;obtain ⟨p',g',e',l1,l2,s1,s2⟩:=ih (k+1) (g.set k.toNat b) (by omega) (by omega) (by rw [List.length_set];exact hg)
   refine ⟨p',g',e.trans e',l1,l2,s1,fun q q0 q1=>(s2 q q0 q1).trans (exists_congr fun r => ?_)⟩
   refine and_congr_left fun hs => ?_
   have hr:=(hs.b ha).1;by_cases er:r=k
   ·subst er;rw [zap k0 (by omega),hb]
    constructor
    ·rintro (h1 | ⟨h1,_⟩)
     ·exact h1.imp id (fun h=>⟨Int.le_refl _,h⟩)
     ·omega
    ·rintro (h1 | ⟨_,h1⟩)
     ·exact .inl (.inl h1)
     ·exact .inl (.inr h1)
   ·rw [zat k0 hr.1 (fun hh=>er hh.symm)]
    exact or_congr Iff.rfl (and_congr (by omega) Iff.rfl)
  by_cases c:ix g k=true
  ·refine fin true (by simp [c]) ?_
   conv=>lhs;rw [zeT];unfold zbT
   rw [if_pos (decide_eq_true (by omega)),zaa (by omega),zaa (by omega),if_pos c,zaa (by omega),zaa (by omega),zaa (by unfold fits;omega)]
  ·by_cases c2:ix p k=true
   ·refine fin (ix F k) (by rw [hF.2 k k0 (by omega)];simp [c,c2]) ?_
    have:=hF.1
    conv=>lhs;rw [zeT];unfold zbT
    rw [if_pos (decide_eq_true (by omega)),zaa (by omega),zaa (by omega),if_neg c,zaa (by omega),zaa (by omega),if_pos c2,zaa (by omega),zaa (by omega),zaa (by omega),zaa (by unfold fits;omega)]
   ·refine fin false (by simp [c,c2]) ?_
    conv=>lhs;rw [zeT];unfold zbT
    rw [if_pos (decide_eq_true (by omega)),zaa (by omega),zaa (by omega),if_neg c,zaa (by omega),zaa (by omega),if_neg c2,zaa (by omega),zaa (by omega),zaa (by unfold fits;omega)]
theorem zBg (ha:AuOk a) {p g:List Bool} (hp:(p.length:Int)=a.2.1) (hg:(g.length:Int)=a.2.1) {r5:RB}:∀ (m:Nat) (k:Int) (ag:Bool) (P Q:List Bool),0<=k->k+m=a.2.1->(P.length:Int)=a.2.1->(Q.length:Int)=a.2.1->
  ∃ ag' P' Q',za8 a r5 p g ag k P Q=r5 ag' P' Q'/\(P'.length:Int)=a.2.1/\(Q'.length:Int)=a.2.1/\
   (∀ q:Int,0<=q->q < a.2.1->(ix P' q=true↔ix P q=true\/(k<=q/\ix p q=true)))/\(∀ q:Int,0<=q->q < a.2.1->(ix Q' q=true↔ix Q q=true\/(k<=q/\ix g q=true)))/\
   (ag'=true↔ag=true\/∃ q:Int,k<=q/\q < a.2.1/\((ix p q=true /\ ¬ ix P q=true)\/(ix g q=true /\ ¬ ix Q q=true))):=by
 have hn:=ha.n1;intro m
 induction m with
 | zero=>
  intro k ag P Q k0 hk hP hQ;refine ⟨ag,P,Q,?_,hP,hQ,fun q q0 q1 => ?_,fun q q0 q1 => ?_,?_⟩
  ·rw [zct];unfold zbh;rw [if_neg (by simp only [decide_eq_true_eq];omega)]
  ·exact ⟨.inl,fun hh=>hh.elim id (fun hh=>by omega)⟩
  ·exact ⟨.inl,fun hh=>hh.elim id (fun hh=>by omega)⟩
  ·exact ⟨.inl,fun hh=>hh.elim id (fun ⟨q,h1,h2,_⟩=>by omega)⟩
 | succ m ih=>
  intro k ag P Q k0 hk hP hQ;have J24:∀ ag2 P2,zdF g k Q (za8 a r5 p g) ag2 P2=za8 a r5 p g ag2 (k+1) P2 (Q.set k.toNat (ix Q k || ix g k)):=by
   intro ag2 P2;unfold zdF;rw [zaa (by omega),zaa (by omega)]
   by_cases c:ix Q k=true
   ·rw [if_pos c,zaa (by omega),zaa (by omega),zaa (by unfold fits;omega),c];rfl
   ·rw [if_neg c,zaa (by omega),zaa (by omega),zaa (by omega),zaa (by omega),zaa (by unfold fits;omega),Bool.eq_false_iff.2 c];rfl
  have J23:∀ ag2,zbH p g k P Q (za8 a r5 p g) ag2=za8 a r5 p g ag2 (k+1) (P.set k.toNat (ix P k || ix p k)) (Q.set k.toNat (ix Q k || ix g k)):=by
   intro ag2;unfold zbH;rw [zaa (by omega),zaa (by omega)]
   by_cases c:ix P k=true
   ·rw [if_pos c,zaa (by omega),zaa (by omega),J24,c];rfl
   ·rw [if_neg c,zaa (by omega),zaa (by omega),zaa (by omega),zaa (by omega),J24,Bool.eq_false_iff.2 c];rfl
  obtain ⟨ag2,hag2,e⟩:∃ ag2,(ag2=true↔ag=true\/(ix p k=true /\ ¬ ix P k=true)\/(ix g k=true /\ ¬ ix Q k=true))/\za8 a r5 p g ag k P Q=zbH p g k P Q (za8 a r5 p g) ag2:=by
   by_cases c0:ag=true
   ·refine ⟨true,by simp [c0],?_⟩
    rw [zct];unfold zbh;rw [if_pos (decide_eq_true (by omega)),if_pos c0]
   by_cases c1:ix p k=true
   ·by_cases c2:ix P k=true
    ·by_cases c3:ix g k=true
     ·refine ⟨!(ix Q k),by simp [c0,c2,c3],?_⟩
      rw [zct];unfold zbh;rw [if_pos (decide_eq_true (by omega)),if_neg c0,zaa (by omega),zaa (by omega),if_pos c1,zaa (by omega),zaa (by omega),if_neg (by simp [c2]),zaa (by omega),zaa (by omega),if_pos c3,zaa (by omega),zaa (by omega)]
     ·refine ⟨false,by simp [c0,c2,c3],?_⟩
      rw [zct];unfold zbh;rw [if_pos (decide_eq_true (by omega)),if_neg c0,zaa (by omega),zaa (by omega),if_pos c1,zaa (by omega),zaa (by omega),if_neg (by simp [c2]),zaa (by omega),zaa (by omega),if_neg c3]
    ·refine ⟨true,by simp [c1,c2],?_⟩
     rw [zct];unfold zbh;rw [if_pos (decide_eq_true (by omega)),if_neg c0,zaa (by omega),zaa (by omega),if_pos c1,zaa (by omega),zaa (by omega),if_pos (by simp [c2])]
   ·by_cases c3:ix g k=true
    ·refine ⟨!(ix Q k),by simp [c0,c1,c3],?_⟩
     rw [zct];unfold zbh;rw [if_pos (decide_eq_true (by omega)),if_neg c0,zaa (by omega),zaa (by omega),if_neg c1,zaa (by omega),zaa (by omega),if_pos c3,zaa (by omega),zaa (by omega)]
    ·refine ⟨false,by simp [c0,c1,c3],?_⟩
     rw [zct];unfold zbh;rw [if_pos (decide_eq_true (by omega)),if_neg c0,zaa (by omega),zaa (by omega),if_neg c1,zaa (by omega),zaa (by omega),if_neg c3]
  obtain ⟨ag',P',Q',e',l1,l2,s1,s2,s3⟩:=ih (k+1) ag2 (P.set k.toNat (ix P k || ix p k)) (Q.set k.toNat (ix Q k || ix g k)) (by omega) (by omega) (by rw [List.length_set];exact hP) (by rw [List.length_set];exact hQ)
  have st:∀ (P p:List Bool),(P.length:Int)=a.2.1->∀ q:Int,0<=q->(ix (P.set k.toNat (ix P k || ix p k)) q=true\/(k+1<=q/\ix p q=true)↔ix P q=true\/(k<=q/\ix p q=true)):=by
   intro P p hP q q0;by_cases eq:q=k
   ·subst eq;rw [zap k0 (by omega),Bool.or_eq_true]
    constructor
    ·rintro ((h1 | h1) | ⟨h1,_⟩)
     ·exact .inl h1
     ·exact .inr ⟨Int.le_refl _,h1⟩
     ·omega
    ·rintro (h1 | ⟨_,h1⟩)
     ·exact .inl (.inl h1)
     ·exact .inl (.inr h1)
   ·rw [zat k0 q0 (fun hh=>eq hh.symm)]
    exact or_congr Iff.rfl (and_congr (by omega) Iff.rfl)
  refine ⟨ag',P',Q',by rw [e,J23];exact e',l1,l2,fun q q0 q1=>(s1 q q0 q1).trans (st P p hP q q0),fun q q0 q1=>(s2 q q0 q1).trans (st Q g hQ q q0),?_⟩
  rw [s3,hag2];constructor
  ·rintro ((h1 | h1) | ⟨q,h1,h2,h3⟩)
   ·exact .inl h1
   ·exact .inr ⟨k,Int.le_refl _,by omega,h1⟩
   ·rw [zat k0 (by omega) (by omega),zat k0 (by omega) (by omega)] at h3
    exact .inr ⟨q,by omega,h2,h3⟩
  ·rintro (h1 | ⟨q,h1,h2,h3⟩)
   ·exact .inl (.inl h1)
   ·by_cases eq:q=k
    ·rw [eq] at h3;exact .inl (.inr h3)
    ·refine .inr ⟨q,by omega,h2,?_⟩
     rw [zat k0 (by omega) (by omega),zat k0 (by omega) (by omega)]
     exact h3
end
section
variable {a:Au} {u:Nat->Int} {h len:Nat}
def Ms (a:Au) (B:List Bool) (x:Int):Prop:=(0<=x/\x < a.2.1)/\ix B x=true
structure RInv (a:Au) (u:Nat->Int) (h:Nat) (P Q:List Bool) (i:Nat) (p g:List Bool):Prop where
 lp:(p.length:Int)=a.2.1
 lg:(g.length:Int)=a.2.1
 p:∀ q:Int,0<=q->q < a.2.1->(ix p q=true↔∃ x,Ms a P x/\Wt a u i h x q)
 g:∀ q:Int,0<=q->q < a.2.1->(ix g q=true↔(∃ x,Ms a Q x/\Wt a u i h x q)\/∃ x,Ms a P x/\Wf a u i h x q)
theorem zBb (ha:AuOk a) {F:List Bool} (hF:FinB a F) {loop:List Int} (hlen:loop.length<=20000) (hL:loop.length=len) (hw:∀ i:Nat,i < len->ix loop (i:Int)=u (h+i)) {q:Int} (q0:0<=q) (q1:q < a.2.1) {P Q:List Bool} {r5:RB}:
  ∀ (m i:Nat) (p g:List Bool),i+m=len->RInv a u h P Q i p g->∃ p' g',zc3 a loop F q P Q r5 (i:Int) p g=(if ix g' q=true then some true else za8 a r5 p' g' false 0 P Q)/\RInv a u h P Q len p' g':=by
 intro m
 induction m with
 | zero=>
  intro i p g hi hr;have:i=len:=by omega
  subst this;have:=hr.lg;refine ⟨p,g,?_,hr⟩
  rw [zlJ];unfold zcK;rw [if_neg (by simp only [decide_eq_true_eq];omega),zaa (by omega),zaa (by omega)]
 | succ m ih=>
  intro i p g hi hr;have hn:=ha.n1;obtain ⟨p1,g1,e1,l1,l2,s1,s2⟩:=zBd ha (L:=p) (i:=(i:Int)) hF hr.lp (loop:=loop) (r10:=zc3 a loop F q P Q r5) (by omega) (by omega) hlen a.2.1.toNat 0 g (by omega) (by omega) hr.lg
  have hwi:=hw i (by omega)
  have hr1:RInv a u h P Q (i+1) p1 g1:=by
   refine ⟨l1,l2,fun y y0 y1 => ?_,fun y y0 y1 => ?_⟩
   ·rw [s1 y y0 y1,hwi];constructor
    ·rintro ⟨r,h1,h2⟩;have hb:=(h2.b ha).1;obtain ⟨x,hx,hxr⟩:=(hr.p r hb.1 hb.2).1 h1;exact ⟨x,hx,Wt.snoc.2 ⟨r,hxr,h2⟩⟩
    ·rintro ⟨x,hx,h1⟩;obtain ⟨r,h2,h3⟩:=Wt.snoc.1 h1;have hb:=(h3.b ha).1;exact ⟨r,(hr.p r hb.1 hb.2).2 ⟨x,hx,h2⟩,h3⟩
   ·rw [s2 y y0 y1,hwi];constructor
    ·rintro ⟨r,h1,h2⟩;have hb:=(h2.b ha).1;rcases h1 with h1 | ⟨_,h1,hf⟩
     ·rcases (hr.g r hb.1 hb.2).1 h1 with ⟨x,hx,hxr⟩ | ⟨x,hx,hxr⟩
      ·exact .inl ⟨x,hx,Wt.snoc.2 ⟨r,hxr,h2⟩⟩
      ·exact .inr ⟨x,hx,Wf.snoc.2 ⟨r,.inl hxr,h2⟩⟩
     ·obtain ⟨x,hx,hxr⟩:=(hr.p r hb.1 hb.2).1 h1;exact .inr ⟨x,hx,Wf.snoc.2 ⟨r,.inr ⟨hxr,hf⟩,h2⟩⟩
    ·rintro (⟨x,hx,h1⟩ | ⟨x,hx,h1⟩)
     ·obtain ⟨r,h2,h3⟩:=Wt.snoc.1 h1;have hb:=(h3.b ha).1;exact ⟨r,.inl ((hr.g r hb.1 hb.2).2 (.inl ⟨x,hx,h2⟩)),h3⟩
     ·obtain ⟨r,h2,h3⟩:=Wf.snoc.1 h1;have hb:=(h3.b ha).1;rcases h2 with h2 | ⟨h2,hf⟩
      ·exact ⟨r,.inl ((hr.g r hb.1 hb.2).2 (.inr ⟨x,hx,h2⟩)),h3⟩
      ·exact ⟨r,.inr ⟨hb.1,(hr.p r hb.1 hb.2).2 ⟨x,hx,h2⟩,hf⟩,h3⟩
  obtain ⟨p',g',e',h'⟩:=ih (i+1) p1 g1 (by omega) hr1
  refine ⟨p',g',?_,h'⟩
  rw [<- e',zlJ];unfold zcK;rw [if_pos (decide_eq_true (by omega)),e1]
  rfl
open Classical in
theorem zCV (ha:AuOk a) {F:List Bool} (hF:FinB a F) {loop:List Int} (hlen:loop.length<=20000) (hL:loop.length=len) (hw:∀ i:Nat,i < len->ix loop (i:Int)=u (h+i)) {q:Int} (q0:0<=q) (q1:q < a.2.1):
  ∀ (f:Nat) (P Q:List Bool),nots (ix P) a.2.1.toNat+nots (ix Q) a.2.1.toNat=f->(P.length:Int)=a.2.1->(Q.length:Int)=a.2.1->ix P q=true->(∀ k,Ms a P k->Star (Rd a u h len) q k)->
   (∀ k,Ms a Q k->∃ x y,Star (Rd a u h len) q x/\Rf a u h len x y/\Star (Rd a u h len) y k)->zdG a loop F q true P Q=some (decide (zmE a u h len q)):=by
 intro f
 induction f using Nat.strongRecOn with
 | _ f ih=>
 intro P Q hf hP hQ hPq iP iQ;have hn:=ha.n1;have start:RInv a u h P Q 0 P Q:=by
  refine ⟨hP,hQ,fun y y0 y1 => ?_,fun y y0 y1 => ?_⟩
  ·exact ⟨fun hh=>⟨y,⟨⟨y0,y1⟩,hh⟩,rfl⟩,fun ⟨x,hx,e⟩=>by cases e;exact hx.2⟩
  ·refine ⟨fun hh => .inl ⟨y,⟨⟨y0,y1⟩,hh⟩,rfl⟩,?_⟩
   rintro (⟨x,hx,e⟩ | ⟨x,hx,i,f,hi,_⟩)
   ·cases e;exact hx.2
   ·omega
 obtain ⟨p,g,e1,hr⟩:=zBb ha hF hlen hL hw q0 q1 (P:=P) (Q:=Q) (r5:=zdG a loop F q) len 0 P Q (by omega) start
 have e0:zdG a loop F q true P Q=(if ix g q=true then some true else za8 a (zdG a loop F q) p g false 0 P Q):=by
  rw [zmY];unfold zdc;rw [if_pos rfl,zaa (by unfold room;simp;omega),zaa (by unfold room;simp;omega),List.nil_append,List.nil_append]
  exact e1
 have sg:∀ y,0<=y->y < a.2.1->ix g y=true->∃ x z,Star (Rd a u h len) q x/\Rf a u h len x z/\Star (Rd a u h len) z y:=by
  intro y y0 y1 hy;rcases (hr.g y y0 y1).1 hy with ⟨x,hx,hxy⟩ | ⟨x,hx,hxy⟩
  ·obtain ⟨v,z,h1,h2,h3⟩:=iQ x hx;exact ⟨v,z,h1,h2,h3.tail hxy⟩
  ·exact ⟨x,y,iP x hx,hxy,.refl y⟩
 rw [e0];by_cases c:ix g q=true
 ·rw [if_pos c,decide_eq_true (show zmE a u h len q from sg q q0 q1 c)]
 ·rw [if_neg c];obtain ⟨ag,P',Q',e2,l1,l2,s1,s2,s3⟩:=zBg ha hr.lp hr.lg (r5:=zdG a loop F q) a.2.1.toNat 0 false P Q (by omega) (by omega) hP hQ
  rw [e2]
  cases ag with
  | true=>
   have h3:=s3.1 rfl;have mP:∀ k:Int,0<=k->k < (a.2.1.toNat:Int)->ix P k=true->ix P' k=true:=fun k k0 k1 hk=>(s1 k k0 (by omega)).2 (.inl hk)
   have mQ:∀ k:Int,0<=k->k < (a.2.1.toNat:Int)->ix Q k=true->ix Q' k=true:=fun k k0 k1 hk=>(s2 k k0 (by omega)).2 (.inl hk)
   have hlt:nots (ix P') a.2.1.toNat+nots (ix Q') a.2.1.toNat < f:=by
    rcases h3 with h3 | ⟨k,k0,k1,h3 | h3⟩
    ·cases h3
    ·have:=ztI mP ⟨k,k0,by omega,(s1 k k0 k1).2 (.inr ⟨k0,h3.1⟩),h3.2⟩
     have:=ztH mQ;omega
    ·have:=ztI mQ ⟨k,k0,by omega,(s2 k k0 k1).2 (.inr ⟨k0,h3.1⟩),h3.2⟩
     have:=ztH mP;omega
   refine ih _ hlt P' Q' rfl l1 l2 ((s1 q q0 q1).2 (.inl hPq)) (fun k hk => ?_) (fun k hk => ?_)
   ·rcases (s1 k hk.1.1 hk.1.2).1 hk.2 with h4 | ⟨_,h4⟩
    ·exact iP k ⟨hk.1,h4⟩
    ·obtain ⟨x,hx,hxk⟩:=(hr.p k hk.1.1 hk.1.2).1 h4;exact (iP x hx).tail hxk
   ·rcases (s2 k hk.1.1 hk.1.2).1 hk.2 with h4 | ⟨_,h4⟩
    ·exact iQ k ⟨hk.1,h4⟩
    ·exact sg k hk.1.1 hk.1.2 h4
  | false=>
   have hno:∀ k:Int,0<=k->k < a.2.1->(ix p k=true->ix P k=true)/\(ix g k=true->ix Q k=true):=fun k k0 k1=>by
    constructor
    ·intro h1;by_cases h2:ix P k=true
     ·exact h2
     ·have:=s3.2 (.inr ⟨k,k0,k1,.inl ⟨h1,h2⟩⟩);cases this
    ·intro h1;by_cases h2:ix Q k=true
     ·exact h2
     ·have:=s3.2 (.inr ⟨k,k0,k1,.inr ⟨h1,h2⟩⟩);cases this
   have hnr : ¬ zmE a u h len q:=by
    rintro ⟨x,y,h1,h2,h3⟩;have inP:∀ x,Star (Rd a u h len) q x->Ms a P x:=by
     intro x hx
     induction hx with
     | refl=>exact ⟨⟨q0,q1⟩,hPq⟩
     | tail _ r ih=>
      have hb:=Wt.b ha r ih.1.1 ih.1.2;exact ⟨hb,(hno _ hb.1 hb.2).1 ((hr.p _ hb.1 hb.2).2 ⟨_,ih,r⟩)⟩
    have hx:=inP x h1;have hyb:=Wt.b ha h2.rd hx.1.1 hx.1.2;have hyg:=(hr.g y hyb.1 hyb.2).2 (.inr ⟨x,hx,h2⟩);have inG:∀ z,Star (Rd a u h len) y z->(0<=z/\z < a.2.1)/\ix g z=true:=by
     intro z hz
     induction hz with
     | refl=>exact ⟨hyb,hyg⟩
     | tail _ r ih=>
      have hb:=Wt.b ha r ih.1.1 ih.1.2;exact ⟨hb,(hr.g _ hb.1 hb.2).2 (.inl ⟨_,⟨ih.1,(hno _ ih.1.1 ih.1.2).2 ih.2⟩,r⟩)⟩
    exact c (inG q h3).2
   rw [decide_eq_false hnr,zmY];unfold zdc;rw [if_neg (by decide)]
open Classical in
theorem zx6 (ha:AuOk a) {F:List Bool} (hF:FinB a F) {loop:List Int} (hlen:loop.length<=20000) (hL:loop.length=len) (hw:∀ i:Nat,i < len->ix loop (i:Int)=u (h+i)) {q:Int} (q0:0<=q) (q1:q < a.2.1):zqA a loop F q=some (decide (zmE a u h len q)):=by
 have hn:=ha.n1;have hl:((List.replicate a.2.1.toNat false).length:Int)=a.2.1:=by rw [List.length_replicate];omega
 unfold zqA;rw [zaa (by unfold mkOK;omega),zaa (by unfold mkOK;omega),zaa (by omega),zaa (by omega)]
 refine zCV ha hF hlen hL hw q0 q1 _ _ _ rfl (by rw [List.length_set];exact hl) hl (zap q0 (by omega)) (fun k hk => ?_) (fun k hk => ?_)
 ·by_cases e:k=q
  ·rw [e];exact .refl _
  ·have:=hk.2;rw [zat q0 hk.1.1 (fun hh=>e hh.symm),zc1 hk.1.1 (by have:=hk.1.2;omega)] at this
   cases this
 ·have:=hk.2;rw [zc1 hk.1.1 (by have:=hk.1.2;omega)] at this
  cases this
end
section
variable {a:Au} {u:Nat->Int} {h len:Nat} {l:List Int×List Int×Unit}
theorem zBf (ha:AuOk a) {N:List Bool} (hN:(N.length:Int)=a.2.1) {r11:Bool->List Bool->Option Bool}:∀ (m:Nat) (k:Int) (ag:Bool) (P:List Bool),0<=k->k+m=a.2.1->(P.length:Int)=a.2.1->
  ∃ ag' P',zbg a r11 N ag k P=r11 ag' P'/\(P'.length:Int)=a.2.1/\(∀ q:Int,0<=q->q < a.2.1->(ix P' q=true↔ix P q=true\/(k<=q/\ix N q=true)))/\
   (ag'=true↔ag=true\/∃ q:Int,k<=q/\q < a.2.1/\ix N q=true /\ ¬ ix P q=true):=by
 have hn:=ha.n1;intro m
 induction m with
 | zero=>
  intro k ag P k0 hk hP;refine ⟨ag,P,?_,hP,fun q q0 q1 => ?_,?_⟩
  ·rw [zdQ];unfold zbq;rw [if_neg (by simp only [decide_eq_true_eq];omega)]
  ·exact ⟨.inl,fun hh=>hh.elim id (fun hh=>by omega)⟩
  ·exact ⟨.inl,fun hh=>hh.elim id (fun ⟨q,h1,h2,_⟩=>by omega)⟩
 | succ m ih=>
  intro k ag P k0 hk hP;have J21:∀ ag2,zbS N k P (zbg a r11 N) ag2=zbg a r11 N ag2 (k+1) (P.set k.toNat (ix P k || ix N k)):=by
   intro ag2;unfold zbS;rw [zaa (by omega),zaa (by omega)]
   by_cases c:ix P k=true
   ·rw [if_pos c,zaa (by omega),zaa (by omega),zaa (by unfold fits;omega),c];rfl
   ·rw [if_neg c,zaa (by omega),zaa (by omega),zaa (by omega),zaa (by omega),zaa (by unfold fits;omega),Bool.eq_false_iff.2 c];rfl
  obtain ⟨ag2,hag2,e⟩:∃ ag2,(ag2=true↔ag=true\/(ix N k=true /\ ¬ ix P k=true))/\zbg a r11 N ag k P=zbS N k P (zbg a r11 N) ag2:=by
   by_cases c0:ag=true
   ·refine ⟨true,by simp [c0],?_⟩
    rw [zdQ];unfold zbq;rw [if_pos (decide_eq_true (by omega)),if_pos c0]
   by_cases c1:ix N k=true
   ·refine ⟨!(ix P k),by simp [c0,c1],?_⟩
    rw [zdQ];unfold zbq;rw [if_pos (decide_eq_true (by omega)),if_neg c0,zaa (by omega),zaa (by omega),if_pos c1,zaa (by omega),zaa (by omega)]
   ·refine ⟨false,by simp [c0,c1],?_⟩
    rw [zdQ];unfold zbq;rw [if_pos (decide_eq_true (by omega)),if_neg c0,zaa (by omega),zaa (by omega),if_neg c1]
  obtain ⟨ag',P',e',l1,s1,s3⟩:=ih (k+1) ag2 (P.set k.toNat (ix P k || ix N k)) (by omega) (by omega) (by rw [List.length_set];exact hP)
  refine ⟨ag',P',by rw [e,J21];exact e',l1,fun q q0 q1=>(s1 q q0 q1).trans ?_,?_⟩
  ·by_cases eq:q=k
   ·subst eq;rw [zap k0 (by omega),Bool.or_eq_true]
    constructor
    ·rintro ((h1 | h1) | ⟨h1,_⟩)
     ·exact .inl h1
     ·exact .inr ⟨Int.le_refl _,h1⟩
     ·omega
    ·rintro (h1 | ⟨_,h1⟩)
     ·exact .inl (.inl h1)
     ·exact .inl (.inr h1)
   ·rw [zat k0 q0 (fun hh=>eq hh.symm)]
    exact or_congr Iff.rfl (and_congr (by omega) Iff.rfl)
  ·rw [s3,hag2];constructor
   ·rintro ((h1 | h1) | ⟨q,h1,h2,h3⟩)
    ·exact .inl h1
    ·exact .inr ⟨k,Int.le_refl _,by omega,h1⟩
    ·rw [zat k0 (by omega) (by omega)] at h3
     exact .inr ⟨q,by omega,h2,h3⟩
   ·rintro (h1 | ⟨q,h1,h2,h3⟩)
    ·exact .inl (.inl h1)
    ·by_cases eq:q=k
     ·rw [eq] at h3;exact .inl (.inr h3)
     ·refine .inr ⟨q,by omega,h2,?_⟩
      rw [zat k0 (by omega) (by omega)]
      exact h3
theorem zBe (ha:AuOk a) (hlen:l.2.1.length<=20000) (hL:l.2.1.length=len) (hw:∀ i:Nat,i < len->ix l.2.1 (i:Int)=u (h+i)) {P:List Bool} {r11:Bool->List Bool->Option Bool}:
  ∀ (m i:Nat) (N:List Bool),i+m=len->(N.length:Int)=a.2.1->(∀ q:Int,0<=q->q < a.2.1->(ix N q=true↔∃ x,Ms a P x/\Wt a u i h x q))->
   ∃ N',zcJ a l r11 (i:Int) P N=zbg a r11 N' false 0 P/\(N'.length:Int)=a.2.1/\∀ q:Int,0<=q->q < a.2.1->(ix N' q=true↔∃ x,Ms a P x/\Rd a u h len x q):=by
 have ea:(a.1,a.2.1,a.2.2.1,a.2.2.2.1,a.2.2.2.2.1,())=a:=rfl;intro m
 induction m with
 | zero=>
  intro i N hi hN hq;have:i=len:=by omega
  subst this;refine ⟨N,?_,hN,hq⟩
  rw [zjm];unfold zb4;rw [if_neg (by simp only [decide_eq_true_eq];omega)]
 | succ m ih=>
  intro i N hi hN hq;obtain ⟨o,e,lo,so⟩:=zqN ha hN (ix l.2.1 (i:Int));have hwi:=hw i (by omega)
  obtain ⟨N',e',l',s'⟩:=ih (i+1) o (by omega) lo (fun q q0 q1=>by
   rw [so q q0 q1,hwi];constructor
   ·rintro ⟨r,h1,h2⟩;have hb:=(h2.b ha).1;obtain ⟨x,hx,hxr⟩:=(hq r hb.1 hb.2).1 h1;exact ⟨x,hx,Wt.snoc.2 ⟨r,hxr,h2⟩⟩
   ·rintro ⟨x,hx,h1⟩;obtain ⟨r,h2,h3⟩:=Wt.snoc.1 h1;have hb:=(h3.b ha).1;exact ⟨r,(hq r hb.1 hb.2).2 ⟨x,hx,h2⟩,h3⟩)
  refine ⟨N',?_,l',s'⟩
  rw [<- e',zjm];unfold zb4;rw [if_pos (decide_eq_true (by omega)),zaa (by omega),ea]
  refine zac e ?_
  rw [zaa (by unfold fits;omega)]
  rfl
open Classical in
theorem zBi (ha:AuOk a) {F:List Bool} (hF:FinB a F) (hlen:l.2.1.length<=20000) (hL:l.2.1.length=len) (hw:∀ i:Nat,i < len->ix l.2.1 (i:Int)=u (h+i)) {P:List Bool} (hP:(P.length:Int)=a.2.1):
  ∀ (m:Nat) (k:Int),0<=k->k+m=a.2.1->zd4 a l P F k=some (decide (∃ q:Int,k<=q/\Ms a P q/\zmE a u h len q)):=by
 have ea:(a.1,a.2.1,a.2.2.1,a.2.2.2.1,a.2.2.2.2.1,())=a:=rfl;have hn:=ha.n1;intro m
 induction m with
 | zero=>
  intro k k0 hk;rw [zjo];unfold zb6;rw [if_neg (by simp only [decide_eq_true_eq];omega),decide_eq_false]
  rintro ⟨q,h1,h2,_⟩;have:=h2.1;omega
 | succ m ih=>
  intro k k0 hk;have nx : ¬ (Ms a P k/\zmE a u h len k)->(some (decide (∃ q:Int,k+1<=q/\Ms a P q/\zmE a u h len q)):Option Bool)=some (decide (∃ q:Int,k<=q/\Ms a P q/\zmE a u h len q)):=by
   intro hno;refine congrArg some (decide_eq_decide.2 ⟨fun ⟨q,h1,h2⟩=>⟨q,by omega,h2⟩,fun ⟨q,h1,h2⟩=>⟨q,?_,h2⟩⟩)
   by_cases e:q=k
   ·rw [e] at h2;exact absurd h2 hno
   ·omega
  rw [zjo];unfold zb6;rw [if_pos (decide_eq_true (by omega)),zaa (by omega),zaa (by omega)]
  by_cases c:ix P k=true
  ·rw [if_neg (by simp [c]),ea]
   refine zac (zx6 ha hF hlen hL hw k0 (by omega)) ?_
   by_cases c2:zmE a u h len k
   ·rw [if_pos (decide_eq_true c2),decide_eq_true ⟨k,Int.le_refl _,⟨⟨k0,by omega⟩,c⟩,c2⟩]
   ·rw [if_neg (by simpa using c2),zaa (by unfold fits;omega),ih (k+1) (by omega) (by omega)]
    exact nx (fun hh=>c2 hh.2)
  ·rw [if_pos (by simp [c]),zaa (by unfold fits;omega),ih (k+1) (by omega) (by omega)]
   exact nx (fun hh=>c hh.1.2)
theorem zBh (ha:AuOk a) {P:List Bool}:∀ (m:Nat) (k:Int) (F:List Bool),0<=k->k+m=a.2.2.2.2.1.length->(F.length:Int)=a.2.1->(∀ q:Int,0<=q->q < a.2.1->(ix F q=true↔∃ j:Int,0<=j/\j < k/\ix a.2.2.2.2.1 j=q))->
  ∃ F',zf9 a l P k F=zd4 a l P F' 0/\FinB a F':=by
 have hlf:=ha.lf;intro m
 induction m with
 | zero=>
  intro k F k0 hk hF hq;refine ⟨F,?_,hF,fun q q0 q1=>(hq q q0 q1).trans ?_⟩
  ·rw [zjn];unfold zb5;rw [if_neg (by simp only [decide_eq_true_eq];omega)]
  ·constructor
   ·rintro ⟨j,j0,j1,rfl⟩;exact za5 j0 (by omega)
   ·intro hm;obtain ⟨j,j0,j1,e⟩:=(zho (P:=fun y=>y=q)).1 ⟨q,hm,rfl⟩
    exact ⟨j,j0,by omega,e⟩
 | succ m ih=>
  intro k F k0 hk hF hq;have hb:=ha.f _ (za5 k0 (by omega:k < a.2.2.2.2.1.length))
  obtain ⟨F',e,h'⟩:=ih (k+1) (F.set (ix a.2.2.2.2.1 k).toNat true) (by omega) (by omega) (by rw [List.length_set];exact hF) (fun q q0 q1=>by
   by_cases c:ix a.2.2.2.2.1 k=q
   ·rw [c,zap q0 (by omega)]
    exact ⟨fun _=>⟨k,k0,by omega,c⟩,fun _=>rfl⟩
   ·rw [zat hb.1 q0 c,hq q q0 q1];constructor
    ·rintro ⟨j,j0,j1,e⟩;exact ⟨j,j0,by omega,e⟩
    ·rintro ⟨j,j0,j1,e⟩;by_cases ej:j=k
     ·rw [ej] at e;exact absurd e c
     ·exact ⟨j,j0,by omega,e⟩)
  refine ⟨F',?_,h'⟩
  rw [<- e]
  conv=>lhs;rw [zjn];unfold zb5
  rw [if_pos (decide_eq_true (by omega)),zaa (by omega),zaa (by omega),zaa (by omega),zaa (by unfold fits;omega)]
open Classical in
theorem zBc (ha:AuOk a) (hlen:l.2.1.length<=20000) (hL:l.2.1.length=len) (hl0:0 < len) (hw:∀ i:Nat,i < len->ix l.2.1 (i:Int)=u (h+i)):
  ∀ (f:Nat) (P:List Bool),nots (ix P) a.2.1.toNat=f->(P.length:Int)=a.2.1->(∀ k,Ms a P k->FarP a u h len k)->(∀ r,(∃ q0∈a.2.2.1,Wt a u h 0 q0 r)->Ms a P r)->
   zcg a l true P=some (decide (RefA a u h len)):=by
 have ea:(a.1,a.2.1,a.2.2.1,a.2.2.2.1,a.2.2.2.2.1,())=a:=rfl;have hn:=ha.n1;intro f
 induction f using Nat.strongRecOn with
 | _ f ih=>
 intro P hf hP hin hst;obtain ⟨o,eo,lo,so⟩:=zqN ha hP (ix l.2.1 0);have hw0:=hw 0 hl0;obtain ⟨N,e1,lN,sN⟩:=zBe ha hlen hL hw (P:=P) (r11:=zcg a l) (len - 1) 1 o (by omega) lo (fun q q0 q1=>by
  rw [so q q0 q1,show ix l.2.1 0=u (h+0) from hw0];constructor
  ·rintro ⟨r,h1,h2⟩;exact ⟨r,⟨(h2.b ha).1,h1⟩,q,h2,rfl⟩
  ·rintro ⟨x,hx,r,h1,h2⟩
   cases h2;exact ⟨x,hx.2,h1⟩)
 obtain ⟨ag,P',e2,l1,s1,s3⟩:=zBf ha lN (r11:=zcg a l) a.2.1.toNat 0 false P (by omega) (by omega) hP
 have e0:zcg a l true P=zcg a l ag P':=by
  rw [<- e2,<- e1]
  conv=>lhs;rw [zjl];unfold zb3
  rw [if_pos rfl,if_pos (decide_eq_true (by omega)),zaa (by omega),ea]
  refine zac eo ?_
  rw [zaa (by unfold fits;omega)]
  rfl
 rw [e0];have mP:∀ k:Int,0<=k->k < (a.2.1.toNat:Int)->ix P k=true->ix P' k=true:=fun k k0 k1 hk=>(s1 k k0 (by omega)).2 (.inl hk)
 have hin':∀ k,Ms a P' k->FarP a u h len k:=fun k hk=>by
  rcases (s1 k hk.1.1 hk.1.2).1 hk.2 with h4 | ⟨_,h4⟩
  ·exact hin k ⟨hk.1,h4⟩
  ·obtain ⟨x,hx,hxk⟩:=(sN k hk.1.1 hk.1.2).1 h4;obtain ⟨r,h5,h6⟩:=hin x hx;exact ⟨r,h5,h6.tail hxk⟩
 have hst':∀ r,(∃ q0∈a.2.2.1,Wt a u h 0 q0 r)->Ms a P' r:=fun r hr=>by
  have:=hst r hr;exact ⟨this.1,(s1 r this.1.1 this.1.2).2 (.inl this.2)⟩
 cases ag with
 | true=>
  rcases s3.1 rfl with h3 | ⟨k,k0,k1,h3⟩
  ·cases h3
  ·have hlt:nots (ix P') a.2.1.toNat < f:=by
    have:=ztI mP ⟨k,k0,by omega,(s1 k k0 k1).2 (.inr ⟨k0,h3.1⟩),h3.2⟩
    omega
   exact ih _ hlt P' rfl l1 hin' hst'
 | false=>
  have hno:∀ k:Int,0<=k->k < a.2.1->ix N k=true->ix P k=true:=fun k k0 k1 h1=>by
   by_cases h2:ix P k=true
   ·exact h2
   ·have:=s3.2 (.inr ⟨k,k0,k1,h1,h2⟩);cases this
  have far:∀ k,FarP a u h len k->Ms a P' k:=by
   rintro k ⟨r,hr,hs⟩;have:Ms a P k:=by
    induction hs with
    | refl=>exact hst r hr
    | tail _ rr ih2=>
     have hb:=Wt.b ha rr ih2.1.1 ih2.1.2;exact ⟨hb,hno _ hb.1 hb.2 ((sN _ hb.1 hb.2).2 ⟨_,ih2,rr⟩)⟩
   exact ⟨this.1,(s1 k this.1.1 this.1.2).2 (.inl this.2)⟩
  obtain ⟨F,e3,hF⟩:=zBh ha (l:=l) (P:=P') a.2.2.2.2.1.length 0 (List.replicate a.2.1.toNat false) (by omega) (by omega) (by rw [List.length_replicate];omega) (fun q q0 q1=>by
   rw [zc1 q0 (by omega)]
   exact ⟨fun hh=>(by cases hh),fun ⟨k,k0,k1,_⟩=>by omega⟩)
  rw [zjl];unfold zb3;rw [if_neg (by decide),zaa (by unfold mkOK;omega),e3,zBi ha hF hlen hL hw l1 a.2.1.toNat 0 (by omega) (by omega)]
  refine congrArg some (decide_eq_decide.2 ⟨fun ⟨q,_,h1,h2⟩=>⟨q,hin' q h1,h2⟩,fun ⟨q,h1,h2⟩=>⟨q,(far q h1).1.1,far q h1,h2⟩⟩)
open Classical in
theorem zjU (ha:AuOk a) (hh1:l.1.length<=20000) (hh:l.1.length=h) (hlen:l.2.1.length<=20000) (hL:l.2.1.length=len) (hl0:0 < len) (hwh:∀ i:Nat,i < h->ix l.1 (i:Int)=u i) (hw:∀ i:Nat,i < len->ix l.2.1 (i:Int)=u (h+i)):
  zfX a l=some (decide (RefA a u h len)):=by
 have ea:(a.1,a.2.1,a.2.2.1,a.2.2.2.1,a.2.2.2.2.1,())=a:=rfl;have hn:=ha.n1;have hls:=ha.ls;have L7:∀ (m i:Nat) (P:List Bool),i+m=h->(P.length:Int)=a.2.1->(∀ q:Int,0<=q->q < a.2.1->(ix P q=true↔∃ q0∈a.2.2.1,Wt a u i 0 q0 q))->zg6 a l (i:Int) P=some (decide (RefA a u h len)):=by
  intro m
  induction m with
  | zero=>
   intro i P hi hP hq;have:i=h:=by omega
   subst this;rw [zkG];unfold zcs;rw [if_neg (by simp only [decide_eq_true_eq];omega)]
   refine zBc ha hlen hL hl0 hw _ P rfl hP (fun k hk => ?_) (fun r hr => ?_)
   ·exact ⟨k,(hq k hk.1.1 hk.1.2).1 hk.2,.refl _⟩
   ·obtain ⟨q0,h1,h2⟩:=hr;have hb:=Wt.b ha h2 (ha.s _ h1).1 (ha.s _ h1).2;exact ⟨hb,(hq r hb.1 hb.2).2 ⟨q0,h1,h2⟩⟩
  | succ m ih=>
   intro i P hi hP hq;obtain ⟨o,e,lo,so⟩:=zqN ha hP (ix l.1 (i:Int));have hwi:=hwh i (by omega)
   rw [zkG];unfold zcs;rw [if_pos (decide_eq_true (by omega)),zaa (by omega),ea]
   refine zac e ?_
   rw [zaa (by unfold fits;omega)]
   refine ih (i+1) o (by omega) lo (fun q q0 q1 => ?_)
   rw [so q q0 q1,hwi];constructor
   ·rintro ⟨r,h1,h2⟩;have hb:=(h2.b ha).1;obtain ⟨x,hx,hxr⟩:=(hq r hb.1 hb.2).1 h1;exact ⟨x,hx,Wt.snoc.2 ⟨r,hxr,by rw [Nat.zero_add];exact h2⟩⟩
   ·rintro ⟨x,hx,h1⟩;obtain ⟨r,h2,h3⟩:=Wt.snoc.1 h1;have hb:=(h3.b ha).1;rw [Nat.zero_add] at h3;exact ⟨r,(hq r hb.1 hb.2).2 ⟨x,hx,h2⟩,h3⟩
 have L3:∀ (m:Nat) (k:Int) (P:List Bool),0<=k->k+m=a.2.2.1.length->(P.length:Int)=a.2.1->(∀ q:Int,0<=q->q < a.2.1->(ix P q=true↔∃ j:Int,0<=j/\j < k/\ix a.2.2.1 j=q))->zg5 a l k P=some (decide (RefA a u h len)):=by
  intro m
  induction m with
  | zero=>
   intro k P k0 hk hP hq;rw [zkF];unfold zcr;rw [if_neg (by simp only [decide_eq_true_eq];omega)]
   refine L7 h 0 P (by omega) hP (fun q q0 q1=>(hq q q0 q1).trans ?_)
   constructor
   ·rintro ⟨j,j0,j1,rfl⟩;exact ⟨_,za5 j0 (by omega),rfl⟩
   ·rintro ⟨q',hm,e⟩
    cases e;obtain ⟨j,j0,j1,e⟩:=(zho (P:=fun y=>y=q)).1 ⟨q,hm,rfl⟩
    exact ⟨j,j0,by omega,e⟩
  | succ m ih=>
   intro k P k0 hk hP hq;have hb:=ha.s _ (za5 k0 (by omega:k < a.2.2.1.length))
   rw [zkF];unfold zcr;rw [if_pos (decide_eq_true (by omega)),zaa (by omega),zaa (by omega),zaa (by omega),zaa (by unfold fits;omega)]
   refine ih (k+1) (P.set (ix a.2.2.1 k).toNat true) (by omega) (by omega) (by rw [List.length_set];exact hP) (fun q q0 q1 => ?_)
   by_cases c:ix a.2.2.1 k=q
   ·rw [c,zap q0 (by omega)]
    exact ⟨fun _=>⟨k,k0,by omega,c⟩,fun _=>rfl⟩
   ·rw [zat hb.1 q0 c,hq q q0 q1];constructor
    ·rintro ⟨j,j0,j1,e⟩;exact ⟨j,j0,by omega,e⟩
    ·rintro ⟨j,j0,j1,e⟩;by_cases ej:j=k
     ·rw [ej] at e;exact absurd e c
     ·exact ⟨j,j0,by omega,e⟩
 unfold zfX;rw [zaa (by unfold mkOK;omega)]
 refine L3 a.2.2.1.length 0 _ (by omega) (by omega) (by rw [List.length_replicate];omega) (fun q q0 q1 => ?_)
 rw [zc1 q0 (by omega)]
 exact ⟨fun hh=>(by cases hh),fun ⟨k,k0,k1,_⟩=>by omega⟩
end
def RunA (a:Au) (u:Nat->Int) (r:Nat->Int):Prop:=r 0∈a.2.2.1/\∀ t,StA a (r t) (u t) (r (t+1))
def InfA (a:Au) (u:Nat->Int):Prop:=∃ r,RunA a u r/\∀ N,∃ t,N<=t/\r t∈a.2.2.2.2.1
section
variable {a:Au} {u:Nat->Int} {h len:Nat}
theorem Wt.path:∀ {m s:Nat} {p q:Int},Wt a u m s p q->∃ r:Nat->Int,r 0=p/\r m=q/\∀ i,i < m->StA a (r i) (u (s+i)) (r (i+1))
 | 0,s,p,q,hh=>⟨fun _=>p,rfl,hh,fun i hi=>by omega⟩
 | m+1,s,p,q,⟨x,h1,h2⟩=>by
  obtain ⟨r,r0,rm,hr⟩:=Wt.path h2;refine ⟨fun i=>if i=0 then p else r (i - 1),rfl,?_,fun i hi => ?_⟩
  ·show (if m+1=0 then p else r (m+1 - 1))=q
   rw [if_neg (by omega),Nat.add_sub_cancel];exact rm
  ·show StA a (if i=0 then p else r (i - 1)) _ (if i+1=0 then p else r (i+1 - 1))
   rw [if_neg (by omega : ¬ i+1=0),Nat.add_sub_cancel]
   by_cases e:i=0
   ·subst e;rw [if_pos rfl,r0];exact h1
   ·rw [if_neg e];have:=hr (i - 1) (by omega)
    rw [show s+1+(i - 1)=s+i by omega,show i - 1+1=i by omega] at this
    exact this
theorem Wt.of_run {r:Nat->Int} (hr:∀ t,StA a (r t) (u t) (r (t+1))):∀ (m s:Nat),Wt a u m s (r s) (r (s+m))
 | 0,_=>rfl
 | m+1,s=>⟨r (s+1),hr s,by have:=Wt.of_run hr m (s+1);rwa [show s+1+m=s+(m+1) by omega] at this⟩
theorem zzm (hu:∀ t,h<=t->u (t+len)=u t) {t:Nat} (ht:h<=t):∀ k:Nat,u (t+k * len)=u t
 | 0=>by rw [Nat.zero_mul,Nat.add_zero]
 | k+1=>by rw [Nat.succ_mul,<- Nat.add_assoc,hu _ (by omega),zzm hu ht k]
theorem pig {K:Nat} {f:Nat->Nat} (hf:∀ i,i<=K->f i < K):∃ i j,i < j/\j<=K/\f i=f j:=by
 refine Classical.byContradiction fun hno => ?_
 have hn:((List.range (K+1)).map f).Nodup:=by
  rw [List.nodup_iff_pairwise_ne,List.pairwise_map];refine List.Pairwise.imp_of_mem (fun {i j} hi hj hij => ?_) (List.pairwise_lt_range (n:=K+1))
  intro e;exact hno ⟨i,j,hij,by have:=List.mem_range.1 hj;omega,e⟩
 have:=zrw (U:=List.range K) hn (fun x hx=>by
  obtain ⟨i,hi,rfl⟩:=List.mem_map.1 hx;rw [List.mem_range] at *
  exact hf i (by omega))
 simp at this;omega
theorem zwY (ha:AuOk a) (hl:0 < len) (hu:∀ t,h<=t->u (t+len)=u t):zBk a u h len↔InfA a u:=by
 constructor
 ·rintro ⟨q0,hq0,s,f,h1,hf,hs,b,hb,h2⟩;obtain ⟨r1,a0,a1,ar⟩:=h1.path;obtain ⟨r2,b0,b1,br⟩:=h2.path;have hL:0 < b * len:=Nat.mul_pos (by omega) hl
  refine ⟨fun t=>if t < s then r1 t else r2 ((t - s) % (b * len)),⟨?_,fun t => ?_⟩,fun N => ?_⟩
  ·show (if 0 < s then r1 0 else r2 ((0 - s) % (b * len)))∈_
   by_cases c:0 < s
   ·rw [if_pos c,a0];exact hq0
   ·rw [if_neg c,show (0 - s) % (b * len)=0 by rw [Nat.zero_sub,Nat.zero_mod],b0]
    have:s=0:=by omega
    subst this;rw [<- a1,a0];exact hq0
  ·show StA a (if t < s then r1 t else r2 ((t - s) % (b * len))) (u t) (if t+1 < s then r1 (t+1) else r2 ((t+1 - s) % (b * len)))
   by_cases c:t < s
   ·rw [if_pos c];have:=ar t c;rw [Nat.zero_add] at this;by_cases c2:t+1 < s
    ·rw [if_pos c2];exact this
    ·rw [if_neg c2,show t+1 - s=0 by omega,Nat.zero_mod,b0,<- a1]
     rwa [show t+1=s by omega] at this
   ·rw [if_neg c,if_neg (by omega)]
    have hm:=Nat.mod_lt (t - s) hL;have hst:=br _ hm;have hut:u t=u (s+(t - s) % (b * len)):=by
     have e:t=s+(t - s) % (b * len)+((t - s) / (b * len) * b) * len:=by
      have:=Nat.mod_add_div (t - s) (b * len);rw [Nat.mul_assoc,Nat.mul_comm _ (b * len)];omega
     conv=>lhs;rw [e]
     exact zzm hu (by omega) _
    rw [hut];by_cases c2:(t - s) % (b * len)+1 < b * len
    ·rw [show (t+1 - s) % (b * len)=(t - s) % (b * len)+1 by
      rw [show t+1 - s=(t - s)+1 by omega,Nat.add_mod,Nat.mod_eq_of_lt (a:=1) (by omega),Nat.mod_eq_of_lt c2]]
     exact hst
    ·have e1:(t - s) % (b * len)+1=b * len:=by omega
     rw [e1,b1] at hst;rw [show (t+1 - s) % (b * len)=0 by
      rw [show t+1 - s=(t - s)+1 by omega,Nat.add_mod]
      by_cases c3:b * len=1
      ·rw [c3,Nat.mod_one]
      ·rw [Nat.mod_eq_of_lt (a:=1) (by omega),e1,Nat.mod_self],b0]
     exact hst
  ·refine ⟨s+N * (b * len),?_,?_⟩
   ·have:N * 1<=N * (b * len):=Nat.mul_le_mul_left N hL;omega
   ·show (if s+N * (b * len) < s then r1 (s+N * (b * len)) else r2 ((s+N * (b * len) - s) % (b * len)))∈_
    rw [if_neg (by omega),Nat.add_sub_cancel_left,Nat.mul_mod_left,b0];exact hf
 ·rintro ⟨r,⟨r0,hr⟩,hi⟩;have hrb:∀ t,0<=r t/\r t < 300:=fun t=>by
   have:=(hr t).b ha;have:=ha.n1;omega
  let g:Nat->Nat:=fun k=>Nat.rec (Classical.choose (hi h)) (fun _ p=>Classical.choose (hi (p+1))) k
  have g0:h<=g 0/\r (g 0)∈a.2.2.2.2.1:=Classical.choose_spec (hi h);have gs:∀ k,g k+1<=g (k+1)/\r (g (k+1))∈a.2.2.2.2.1:=fun k=>Classical.choose_spec (hi (g k+1))
  have gm:∀ j i,i < j->g i < g j:=fun j=>by
   induction j with
   | zero=>intro i hij;omega
   | succ j ih=>
    intro i hij;have:=(gs j).1;by_cases e:i=j
    ·subst e;omega
    ·have:=ih i (by omega);omega
  have gf:∀ k,r (g k)∈a.2.2.2.2.1:=fun k=>by
   cases k with
   | zero=>exact g0.2
   | succ k=>exact (gs k).2
  have gh:∀ k,h<=g k:=fun k=>by
   cases k with
   | zero=>exact g0.1
   | succ k=>have:=gm (k+1) 0 (by omega);have:=g0.1;omega
  obtain ⟨i,j,hij,_,e⟩:=pig (K:=300 * len) (f:=fun k=>(r (g k)).toNat * len+g k % len) (fun k _=>by
   have h1:=hrb (g k);have h2:=Nat.mod_lt (g k) hl;have h3:(r (g k)).toNat * len<=299 * len:=Nat.mul_le_mul_right len (by omega)
   have h4:300 * len=299 * len+len:=by omega
   show (r (g k)).toNat * len+g k % len < 300 * len;omega)
  have e:(r (g i)).toNat * len+g i % len=(r (g j)).toNat * len+g j % len:=e;have d1:(r (g i)).toNat=(r (g j)).toNat:=by
   have h1:((r (g i)).toNat * len+g i % len) / len=(r (g i)).toNat:=by
    rw [Nat.add_comm,Nat.add_mul_div_right _ _ hl,Nat.div_eq_of_lt (Nat.mod_lt _ hl),Nat.zero_add]
   have h2:((r (g j)).toNat * len+g j % len) / len=(r (g j)).toNat:=by
    rw [Nat.add_comm,Nat.add_mul_div_right _ _ hl,Nat.div_eq_of_lt (Nat.mod_lt _ hl),Nat.zero_add]
   rw [<- h1,<- h2,e]
  have d2:g i % len=g j % len:=by rw [d1] at e;omega
  have d3:r (g i)=r (g j):=by have:=hrb (g i);have:=hrb (g j);omega
  have hlt:=gm j i hij;have hd:g j - g i=(g j / len - g i / len) * len:=by
   have m1:=Nat.mod_add_div (g i) len;have m2:=Nat.mod_add_div (g j) len;rw [Nat.sub_mul,Nat.mul_comm (g j / len),Nat.mul_comm (g i / len)];omega
  have hw1:=Wt.of_run hr (g i) 0;rw [Nat.zero_add] at hw1;have hw2:=Wt.of_run hr (g j - g i) (g i);rw [show g i+(g j - g i)=g j by omega,<- d3,hd] at hw2
  refine ⟨r 0,r0,g i,r (g i),hw1,gf i,gh i,g j / len - g i / len,?_,hw2⟩
  rcases Nat.eq_zero_or_pos (g j / len - g i / len) with h0 | h0
  ·rw [h0,Nat.zero_mul] at hd;omega
  ·exact h0
theorem zB7 (ha:AuOk a) (hl:0 < len) (hu:∀ t,h<=t->u (t+len)=u t):RefA a u h len↔InfA a u:=(zw2 hl hu).trans (zwY ha hl hu)
end
structure Tre where
 n:Nat
 L:Nat->Int->Prop
 A:Nat->Int
structure SD where
 N:Nat
 C:Nat->Int->Prop
 P:Nat->Int
 gone:Nat->Prop
 fl:Nat->Prop
 nu:Nat->Nat
structure IsStep (E:Int->Int->Prop) (F:Int->Prop) (T:Tre) (d:SD) (T':Tre) (m:Int):Prop where
 hN:T.n<=d.N
 pOld:∀ i,i < T.n->d.P i=T.A i
 pNew:∀ i,T.n<=i->i < d.N->0<=d.P i/\d.P i < T.n
 cOld:∀ i,i < T.n->∀ q,d.C i q↔(∃ p,T.L i p/\E p q)/\(0<=d.P i->d.C (d.P i).toNat q)/\∀ k,k < i->d.P k=d.P i -> ¬ d.C k q
 cNew:∀ i,T.n<=i->i < d.N->∀ q,d.C i q↔((∃ p,T.L (d.P i).toNat p/\E p q)/\F q)/\d.C (d.P i).toNat q/\∀ k,k < i->d.P k=d.P i -> ¬ d.C k q
 new:∀ i,i < T.n->(∃ q,(∃ p,T.L i p/\E p q)/\F q)->∃ j,T.n<=j/\j < d.N/\d.P j=i
 gNot:∀ i,i < d.N->(∃ q,d.C i q)->0<=d.P i -> ¬ d.gone (d.P i).toNat -> ¬ d.fl (d.P i).toNat -> ¬ d.gone i
 gRoot:∀ i,i < d.N->(∃ q,d.C i q)->d.P i < 0 -> ¬ d.gone i
 gEmp:∀ i,i < d.N -> ¬ d.gone i->∃ q,d.C i q
 gFl:∀ i,i < d.N->0<=d.P i->d.fl (d.P i).toNat->d.gone i
 gPar:∀ i,i < d.N->0<=d.P i -> ¬ d.gone i -> ¬ d.gone (d.P i).toNat
 flU:∀ i,i < d.N->d.fl i->∀ q,d.C i q->∃ k,k < d.N/\d.P k=i/\d.C k q
 flN:∀ i,i < d.N -> ¬ d.gone i -> ¬ d.fl i->∃ q,d.C i q/\∀ k,k < d.N->d.P k=i -> ¬ d.C k q
 nuS:∀ i,i < d.N -> ¬ d.gone i->d.nu i < T'.n
 nuI:∀ i j,i < j->j < d.N -> ¬ d.gone i -> ¬ d.gone j->d.nu i < d.nu j
 nuLe:∀ i,d.nu i<=i
 nuEq:∀ i,i < d.N->(∀ j,j < i -> ¬ d.gone j)->d.nu i=i
 nuLt:∀ i j,j < i->i < d.N->d.gone j->d.nu i < i
 onto:∀ k,k < T'.n->∃ i,i < d.N /\ ¬ d.gone i/\d.nu i=k
 lab:∀ i,i < d.N -> ¬ d.gone i->∀ q,T'.L (d.nu i) q↔d.C i q
 abv:∀ i,i < d.N -> ¬ d.gone i->T'.A (d.nu i)=if 0<=d.P i then (d.nu (d.P i).toNat:Int) else -1
 mGone:∀ i,i < T.n->d.gone i->m<=2 * i+1
 mFl:∀ i,i < T.n->d.fl i -> ¬ d.gone i->m<=2 * i+2
 mIs:m=9\/(∃ i,i < T.n/\d.gone i/\m=2 * i+1)\/∃ i,i < T.n /\ ¬ d.gone i/\d.fl i/\m=2 * i+2
structure Vld (T:Tre):Prop where
 root:∀ i,i < T.n->(T.A i < 0↔i=0)
 par:∀ i,i < T.n->T.A i < i
 sub:∀ i,i < T.n->0<=T.A i->∀ q,T.L i q->T.L (T.A i).toNat q
 ne:∀ i,i < T.n->∃ q,T.L i q
 str:∀ i,i < T.n->∃ q,T.L i q/\∀ k,k < T.n->T.A k=i -> ¬ T.L k q
 dis:∀ i j,i < j->j < T.n->T.A i=T.A j->∀ q,T.L i q -> ¬ T.L j q
section
variable {E:Int->Int->Prop} {F:Int->Prop} {T T':Tre} {d:SD} {m:Int}
theorem IsStep.plt (h:IsStep E F T d T' m) (hv:Vld T) {i:Nat} (hi:i < d.N):d.P i < i:=by
 by_cases c:i < T.n
 ·rw [h.pOld i c];exact hv.par i c
 ·have:=h.pNew i (by omega) hi;omega
theorem IsStep.csub (h:IsStep E F T d T' m) {i:Nat} (hi:i < d.N) (hp:0<=d.P i) {q:Int} (hq:d.C i q):d.C (d.P i).toNat q:=by
 by_cases c:i < T.n
 ·exact ((h.cOld i c q).1 hq).2.1 hp
 ·exact ((h.cNew i (by omega) hi q).1 hq).2.1
theorem IsStep.cdis (h:IsStep E F T d T' m) {i j:Nat} (hij:i < j) (hj:j < d.N) (hp:d.P i=d.P j) {q:Int} (hq:d.C i q) : ¬ d.C j q:=fun hq'=>by
 by_cases c:j < T.n
 ·exact ((h.cOld j c q).1 hq').2.2 i hij hp hq
 ·exact ((h.cNew j (by omega) hj q).1 hq').2.2 i hij hp hq
theorem IsStep.vld (h:IsStep E F T d T' m) (hv:Vld T):Vld T' where
 root k hk:=by
  obtain ⟨i,hi,hg,rfl⟩:=h.onto k hk;rw [h.abv i hi hg];by_cases c:0<=d.P i
  ·rw [if_pos c];have hlt:=h.plt hv hi;have hp:(d.P i).toNat < d.N:=by omega
   have:=h.nuI (d.P i).toNat i (by omega) hi (h.gPar i hi c hg) hg
   constructor
   ·intro h1;omega
   ·intro h1;omega
  ·rw [if_neg c];have hi0:i=0:=by
    by_cases c2:i < T.n
    ·exact (hv.root i c2).1 (by rw [<- h.pOld i c2];omega)
    ·have:=h.pNew i (by omega) hi;omega
   subst hi0;have:=h.nuLe 0;constructor
   ·intro _;omega
   ·intro _;omega
 par k hk:=by
  obtain ⟨i,hi,hg,rfl⟩:=h.onto k hk;rw [h.abv i hi hg];by_cases c:0<=d.P i
  ·rw [if_pos c];have hlt:=h.plt hv hi;have:=h.nuI (d.P i).toNat i (by omega) hi (h.gPar i hi c hg) hg
   omega
  ·rw [if_neg c];omega
 sub k hk hk0 q hq:=by
  obtain ⟨i,hi,hg,rfl⟩:=h.onto k hk;have e:=h.abv i hi hg;by_cases c:0<=d.P i
  ·rw [if_pos c] at e;have hlt:=h.plt hv hi;rw [e,Int.toNat_natCast,h.lab _ (by omega) (h.gPar i hi c hg)]
   exact h.csub hi c ((h.lab i hi hg q).1 hq)
  ·rw [if_neg c] at e;omega
 ne k hk:=by
  obtain ⟨i,hi,hg,rfl⟩:=h.onto k hk;obtain ⟨q,hq⟩:=h.gEmp i hi hg;exact ⟨q,(h.lab i hi hg q).2 hq⟩
 str k hk:=by
  obtain ⟨i,hi,hg,rfl⟩:=h.onto k hk;have noKid:∀ k',k' < T'.n->T'.A k'=(d.nu i:Int)->∃ j,j < d.N /\ ¬ d.gone j/\d.nu j=k'/\d.P j=i:=fun k' hk' he=>by
   obtain ⟨j,hj,hgj,rfl⟩:=h.onto k' hk';refine ⟨j,hj,hgj,rfl,?_⟩
   rw [h.abv j hj hgj] at he;by_cases c:0<=d.P j
   ·rw [if_pos c] at he;have hlt:=h.plt hv hj;have hgp:=h.gPar j hj c hgj;have he:d.nu (d.P j).toNat=d.nu i:=by omega
    have:(d.P j).toNat=i:=by
     rcases Nat.lt_trichotomy (d.P j).toNat i with g | g | g
     ·have:=h.nuI _ _ g hi hgp hg;omega
     ·exact g
     ·have:=h.nuI _ _ g (by omega) hg hgp;omega
    omega
   ·rw [if_neg c] at he;omega
  by_cases f:d.fl i
  ·obtain ⟨q,hq⟩:=h.gEmp i hi hg;refine ⟨q,(h.lab i hi hg q).2 hq,fun k' hk' he => ?_⟩
   obtain ⟨j,hj,hgj,_,hp⟩:=noKid k' hk' he;exact absurd (h.gFl j hj (by omega) (by rw [hp,Int.toNat_natCast];exact f)) hgj
  ·obtain ⟨q,hq,hno⟩:=h.flN i hi hg f;refine ⟨q,(h.lab i hi hg q).2 hq,fun k' hk' he hq' => ?_⟩
   obtain ⟨j,hj,hgj,rfl,hp⟩:=noKid k' hk' he;exact hno j hj hp ((h.lab j hj hgj q).1 hq')
 dis k k' hlt hk' he q hq hq':=by
  obtain ⟨i,hi,hg,rfl⟩:=h.onto k (by omega)
  obtain ⟨j,hj,hgj,rfl⟩:=h.onto k' hk';have hij:i < j:=by
   rcases Nat.lt_trichotomy i j with g | g | g
   ·exact g
   ·subst g;omega
   ·have:=h.nuI _ _ g hi hgj hg;omega
  rw [h.abv i hi hg,h.abv j hj hgj] at he;have hp:d.P i=d.P j:=by
   by_cases c:0<=d.P i
   ·by_cases c2:0<=d.P j
    ·rw [if_pos c,if_pos c2] at he;have h1:=h.plt hv hi;have h2:=h.plt hv hj;have g1:=h.gPar i hi c hg;have g2:=h.gPar j hj c2 hgj;have he:d.nu (d.P i).toNat=d.nu (d.P j).toNat:=by omega
     have:(d.P i).toNat=(d.P j).toNat:=by
      rcases Nat.lt_trichotomy (d.P i).toNat (d.P j).toNat with g | g | g
      ·have:=h.nuI _ _ g (by omega) g1 g2;omega
      ·exact g
      ·have:=h.nuI _ _ g (by omega) g2 g1;omega
     omega
    ·rw [if_pos c,if_neg c2] at he;omega
   ·by_cases c2:0<=d.P j
    ·rw [if_neg c,if_pos c2] at he;omega
    ·-- two roots
     have r0:∀ i,i < d.N -> ¬ 0<=d.P i->i=0:=fun i hi c=>by
      by_cases c2:i < T.n
      ·exact (hv.root i c2).1 (by rw [<- h.pOld i c2];omega)
      ·have:=h.pNew i (by omega) hi;omega
     have:=r0 i hi c;have:=r0 j hj c2;omega
  exact h.cdis hij hj hp ((h.lab i hi hg q).1 hq) ((h.lab j hj hgj q).1 hq')
end
structure Row (E:Nat->Int->Int->Prop) (F:Int->Prop) (T:Nat->Tre) (D:Nat->SD) (M:Nat->Int):Prop where
 v0:Vld (T 0)
 s:∀ t,((T t).n=0/\(T (t+1)).n=0/\M t=1)\/(0 < (T t).n/\IsStep (E t) F (T t) (D t) (T (t+1)) (M t))
section
variable {E:Nat->Int->Int->Prop} {F:Int->Prop} {T:Nat->Tre} {D:Nat->SD} {M:Nat->Int}
theorem zxa {T:Tre} (h:T.n=0):Vld T:=⟨fun i hi=>by omega,fun i hi=>by omega,fun i hi=>by omega,fun i hi=>by omega,fun i hi=>by omega,fun i j hij hj=>by omega⟩
theorem Row.v (h:Row E F T D M):∀ t,Vld (T t)
 | 0=>h.v0
 | t+1=>by
  rcases h.s t with ⟨_,h2,_⟩ | ⟨_,h2⟩
  ·exact zxa h2
  ·exact h2.vld (h.v t)
inductive Pth (E:Nat->Int->Int->Prop):Nat->Int->Nat->Int->Prop
 | nil (s:Nat) (p:Int):Pth E s p s p
 | snoc {s:Nat} {p:Int} {t:Nat} {q r:Int} (h:Pth E s p t q) (e:E t q r):Pth E s p (t+1) r
def PthF (E:Nat->Int->Int->Prop) (F:Int->Prop) (s:Nat) (p:Int) (t:Nat) (q:Int):Prop:=∃ c f,s < c/\Pth E s p c f/\F f/\Pth E c f t q
theorem PthF.snoc {s:Nat} {p:Int} {t:Nat} {q r:Int} (h:PthF E F s p t q) (e:E t q r):PthF E F s p (t+1) r:=by
 obtain ⟨c,f,h1,h2,h3,h4⟩:=h;exact ⟨c,f,h1,h2,h3,h4.snoc e⟩
theorem Pth.le {s:Nat} {p:Int} {t:Nat} {q:Int} (h:Pth E s p t q):s<=t:=by
 induction h with
 | nil=>exact Nat.le_refl _
 | snoc _ _ ih=>omega
theorem Row.reach (h:Row E F T D M):∀ t i,i < (T t).n->∀ q,(T t).L i q->∃ p j,j < (T 0).n/\(T 0).L j p/\Pth E 0 p t q
 | 0,i,hi,q,hq=>⟨q,i,hi,hq,.nil 0 q⟩
 | t+1,k,hk,q,hq=>by
  rcases h.s t with ⟨_,h2,_⟩ | ⟨_,h2⟩
  ·omega
  ·obtain ⟨i,hi,hg,rfl⟩:=h2.onto k hk;have hc:=(h2.lab i hi hg q).1 hq;have:∃ j p,j < (T t).n/\(T t).L j p/\E t p q:=by
    by_cases c:i < (T t).n
    ·obtain ⟨⟨p,hp,he⟩,_⟩:=(h2.cOld i c q).1 hc;exact ⟨i,p,c,hp,he⟩
    ·obtain ⟨⟨⟨p,hp,he⟩,_⟩,_⟩:=(h2.cNew i (by omega) hi q).1 hc
     have:=h2.pNew i (by omega) hi
     exact ⟨_,p,by omega,hp,he⟩
   obtain ⟨j,p,hj,hp,he⟩:=this;obtain ⟨p0,j0,a1,a2,a3⟩:=h.reach t j hj p hp;exact ⟨p0,j0,a1,a2,a3.snoc he⟩
def zvm (T:Nat->Tre) (D:Nat->SD) (k:Nat) (t0:Nat):Prop:=∀ t,t0<=t->k < (T t).n/\∀ j,j<=k -> ¬ (D t).gone j
theorem Row.step (h:Row E F T D M) {k t0:Nat} (hs:zvm T D k t0) {t:Nat} (ht:t0<=t):IsStep (E t) F (T t) (D t) (T (t+1)) (M t)/\(D t).nu k=k/\∀ j,j<=k->(D t).nu j=j:=by
 obtain ⟨h1,h2⟩:=hs t ht;rcases h.s t with ⟨h3,_⟩ | ⟨_,h3⟩
 ·omega
 ·have hN:=h3.hN;exact ⟨h3,h3.nuEq k (by omega) (fun j hj=>h2 j (by omega)),fun j hj=>h3.nuEq j (by omega) (fun j' hj'=>h2 j' (by omega))⟩
theorem Row.stepL (h:Row E F T D M) {k t0:Nat} (hs:zvm T D k t0) {t:Nat} (ht:t0<=t) (q:Int):(T (t+1)).L k q↔(D t).C k q:=by
 obtain ⟨h1,h2,_⟩:=h.step hs ht;have hk:=(hs t ht).1;have hN:=h1.hN;have:=h1.lab k (by omega) ((hs t ht).2 k (Nat.le_refl _)) q
 rwa [h2] at this
theorem Row.kid (h:Row E F T D M) {k t0:Nat} (hs:zvm T D k t0) {t:Nat} (ht:t0<=t) {c:Nat} (hc:c < (T (t+1)).n) (hA:(T (t+1)).A c=k):∃ i,i < (D t).N /\ ¬ (D t).gone i/\(D t).nu i=c/\(D t).P i=k:=by
 obtain ⟨h1,h2,h3⟩:=h.step hs ht;have hk:=(hs t ht).1;have hN:=h1.hN;obtain ⟨i,hi,hg,rfl⟩:=h1.onto c hc;refine ⟨i,hi,hg,rfl,?_⟩
 rw [h1.abv i hi hg] at hA;by_cases c:0<=(D t).P i
 ·rw [if_pos c] at hA;have hlt:=h1.plt (h.v t) hi;have hgp:=h1.gPar i hi c hg;have hA:(D t).nu ((D t).P i).toNat=k:=by omega
  have:((D t).P i).toNat=k:=by
   rcases Nat.lt_trichotomy ((D t).P i).toNat k with g | g | g
   ·have:=h3 _ (Nat.le_of_lt g);omega
   ·exact g
   ·have:=h1.nuI _ _ g (by omega) ((hs t ht).2 k (Nat.le_refl _)) hgp;omega
  omega
 ·rw [if_neg c] at hA;omega
theorem Row.between (h:Row E F T D M) {k t0:Nat} (hs:zvm T D k t0) {s:Nat} (hs0:t0<=s) (hfl:(D s).fl k):∀ n:Nat,(∀ q,(T (s+1+n)).L k q->∃ p,(T (s+1)).L k p/\Pth E (s+1) p (s+1+n) q)/\∀ c,c < (T (s+1+n)).n->(T (s+1+n)).A c=k->∀ q,(T (s+1+n)).L c q->∃ p,(T (s+1)).L k p/\PthF E F (s+1) p (s+1+n) q:=by
 have step:∀ n,(∀ q,(T (s+1+n)).L k q->∃ p,(T (s+1)).L k p/\Pth E (s+1) p (s+1+n) q)->(∀ c,c < (T (s+1+n)).n->(T (s+1+n)).A c=k->∀ q,(T (s+1+n)).L c q->∃ p,(T (s+1)).L k p/\PthF E F (s+1) p (s+1+n) q)->
   ∀ i,i < (D (s+1+n)).N->(D (s+1+n)).P i=k->∀ q,(D (s+1+n)).C i q->∃ p,(T (s+1)).L k p/\PthF E F (s+1) p (s+1+n+1) q:=by
  intro n h1 h2 i hi hp q hq;obtain ⟨g1,_,_⟩:=h.step hs (t:=s+1+n) (by omega)
  by_cases c:i < (T (s+1+n)).n
  ·obtain ⟨⟨r,hr,he⟩,_⟩:=(g1.cOld i c q).1 hq;obtain ⟨p,hp1,hp2⟩:=h2 i c (by rw [<- g1.pOld i c];exact hp) r hr
   exact ⟨p,hp1,hp2.snoc he⟩
  ·obtain ⟨⟨⟨r,hr,he⟩,hF⟩,_⟩:=(g1.cNew i (by omega) hi q).1 hq
   rw [hp,Int.toNat_natCast] at hr;obtain ⟨p,hp1,hp2⟩:=h1 r hr;exact ⟨p,hp1,s+1+n+1,q,by omega,hp2.snoc he,hF,.nil _ _⟩
 intro n
 induction n with
 | zero=>
  refine ⟨fun q hq=>⟨q,hq,.nil _ _⟩,fun c hc hA => ?_⟩
  obtain ⟨g1,_,_⟩:=h.step hs hs0;obtain ⟨i,hi,hg,_,hp⟩:=h.kid hs hs0 hc hA;exact absurd (g1.gFl i hi (by omega) (by rw [hp,Int.toNat_natCast];exact hfl)) hg
 | succ n ih=>
  obtain ⟨h1,h2⟩:=ih;obtain ⟨g1,_,_⟩:=h.step hs (t:=s+1+n) (by omega)
  have hk:=(hs (s+1+n) (by omega)).1
  refine ⟨fun q hq => ?_,fun c hc hA q hq => ?_⟩
  ·have hc:=(h.stepL hs (t:=s+1+n) (by omega) q).1 hq
   obtain ⟨⟨r,hr,he⟩,_⟩:=(g1.cOld k hk q).1 hc;obtain ⟨p,hp1,hp2⟩:=h1 r hr;exact ⟨p,hp1,hp2.snoc he⟩
  ·obtain ⟨i,hi,hg,rfl,hp⟩:=h.kid hs (t:=s+1+n) (by omega) hc hA
   exact step n h1 h2 i hi hp q ((g1.lab i hi hg q).1 hq)
theorem Row.flash (h:Row E F T D M) {k t0:Nat} (hs:zvm T D k t0) {s s':Nat} (hs0:t0<=s) (hfl:(D s).fl k) (hlt:s < s') (hfl':(D s').fl k) {q:Int} (hq:(T (s'+1)).L k q):∃ p,(T (s+1)).L k p/\PthF E F (s+1) p (s'+1) q:=by
 obtain ⟨n,rfl⟩:∃ n,s'=s+1+n:=⟨s' - (s+1),by omega⟩
 obtain ⟨h1,h2⟩:=h.between hs hs0 hfl n;obtain ⟨g1,_,_⟩:=h.step hs (t:=s+1+n) (by omega)
 have hk:=(hs (s+1+n) (by omega)).1
 have hN:=g1.hN;have hc:=(h.stepL hs (t:=s+1+n) (by omega) q).1 hq
 obtain ⟨i,hi,hp,hqi⟩:=g1.flU k (by omega) hfl' q hc
 by_cases c:i < (T (s+1+n)).n
 ·obtain ⟨⟨r,hr,he⟩,_⟩:=(g1.cOld i c q).1 hqi;obtain ⟨p,hp1,hp2⟩:=h2 i c (by rw [<- g1.pOld i c];exact hp) r hr
  exact ⟨p,hp1,hp2.snoc he⟩
 ·obtain ⟨⟨⟨r,hr,he⟩,hF⟩,_⟩:=(g1.cNew i (by omega) hi q).1 hqi
  rw [hp,Int.toNat_natCast] at hr;obtain ⟨p,hp1,hp2⟩:=h1 r hr;exact ⟨p,hp1,s+1+n+1,q,by omega,hp2.snoc he,hF,.nil _ _⟩
open Classical in
def cnt4 (S:Int->Prop):Nat:=(if S 0 then 1 else 0)+(if S 1 then 1 else 0)+(if S 2 then 1 else 0)+(if S 3 then 1 else 0)
theorem zyh {S S':Int->Prop} (h:∀ q,S q->S' q) {q:Int} (hq:S' q) (hn : ¬ S q) (q0:0<=q) (q1:q < 4):cnt4 S < cnt4 S':=by
 have h0:=h 0;have h1:=h 1;have h2:=h 2;have h3:=h 3;unfold cnt4;have:q=0\/q=1\/q=2\/q=3:=by omega
 rcases this with rfl | rfl | rfl | rfl<;>by_cases a0:S 0<;>by_cases a1:S 1<;>by_cases a2:S 2<;>by_cases a3:S 3<;>by_cases b0:S' 0<;>by_cases b1:S' 1<;>by_cases b2:S' 2<;>by_cases b3:S' 3<;>simp_all
theorem zBs (S:Int->Prop):cnt4 S<=4:=by
 unfold cnt4;split<;>split<;>split<;>split<;>omega
theorem zAG {f:Nat->Nat} {t0:Nat} (h:∀ t,t0<=t->f (t+1)<=f t):∃ t1,t0<=t1/\∀ t,t1<=t->f t=f t1:=by
 have key:∀ (b t0:Nat),f t0<=b->(∀ t,t0<=t->f (t+1)<=f t)->∃ t1,t0<=t1/\∀ t,t1<=t->f t=f t1:=by
  intro b
  induction b with
  | zero=>
   intro t0 hb h;have le:∀ n,f (t0+n)<=f t0:=fun n=>by
    induction n with
    | zero=>exact Nat.le_refl _
    | succ n ih=>have:=h (t0+n) (by omega);rw [<- Nat.add_assoc];omega
   exact ⟨t0,Nat.le_refl _,fun t ht=>by have:=le (t - t0);rw [show t0+(t - t0)=t by omega] at this;omega⟩
  | succ b ih=>
   intro t0 hb h;by_cases c:∃ t,t0<=t/\f t<=b
   ·obtain ⟨t,ht,hft⟩:=c;obtain ⟨t1,h1,h2⟩:=ih t hft (fun s hs=>h s (by omega))
    exact ⟨t1,by omega,h2⟩
   ·have all:∀ t,t0<=t->f t=b+1:=fun t ht=>by
     have le:∀ n,f (t0+n)<=f t0:=fun n=>by
      induction n with
      | zero=>exact Nat.le_refl _
      | succ n ih=>have:=h (t0+n) (by omega);rw [<- Nat.add_assoc];omega
     have h1:=le (t - t0);rw [show t0+(t - t0)=t by omega] at h1
     have h2 : ¬ f t<=b:=fun hh=>c ⟨t,ht,hh⟩
     omega
    exact ⟨t0,Nat.le_refl _,fun t ht=>by rw [all t ht,all t0 (Nat.le_refl _)]⟩
 exact key (f t0) t0 (Nat.le_refl _) h
structure Within (T:Nat->Tre) (D:Nat->SD) (r:Nat->Int) (k t0:Nat):Prop where
 s:zvm T D k t0
 i:∀ t,t0<=t->(T t).L k (r t)
theorem Row.deeper (h:Row E F T D M) {r:Nat->Int} (hr:∀ t,E t (r t) (r (t+1))) (hF:∀ n,∃ t,n<=t/\F (r t)) {k t0:Nat} (hw:Within T D r k t0) (hno:∀ t,t0<=t -> ¬ (D t).fl k):
  ∃ c t1,t0<=t1/\Within T D r c t1/\∀ t,t1<=t->(T t).A c=k:=by
 have hs:=hw.s;have one:∀ t,t0<=t->∀ i,i < (D t).N->(D t).P i=k->(D t).C i (r (t+1)) -> ¬ (D t).gone i/\(D t).nu i < (T (t+1)).n/\(T (t+1)).A ((D t).nu i)=k/\(T (t+1)).L ((D t).nu i) (r (t+1)):=fun t ht i hi hp hc=>by
  obtain ⟨g1,g2,_⟩:=h.step hs ht;have hg : ¬ (D t).gone i:=g1.gNot i hi ⟨_,hc⟩ (by omega) (by rw [hp,Int.toNat_natCast];exact (hs t ht).2 k (Nat.le_refl _)) (by rw [hp,Int.toNat_natCast];exact hno t ht)
  refine ⟨hg,g1.nuS i hi hg,?_,(g1.lab i hi hg _).2 hc⟩
  rw [g1.abv i hi hg,if_pos (by omega),hp,Int.toNat_natCast,g2]
 have go:∀ t,t0<=t->∀ c,c < (T t).n->(T t).A c=k->(T t).L c (r t)->∃ i,i<=c/\i < (D t).N/\(D t).P i=k/\(D t).C i (r (t+1)):=fun t ht c hc hA hL=>by
  obtain ⟨g1,_,_⟩:=h.step hs ht;have hN:=g1.hN;have hk:(D t).C k (r (t+1)):=(h.stepL hs ht _).1 (hw.i (t+1) (by omega))
  by_cases e:∃ i,i < c/\(D t).P i=(D t).P c/\(D t).C i (r (t+1))
  ·obtain ⟨i,hi,hp,hq⟩:=e;exact ⟨i,by omega,by omega,by rw [hp,g1.pOld c hc];exact hA,hq⟩
  ·have hp:(D t).P c=k:=by rw [g1.pOld c hc];exact hA
   refine ⟨c,Nat.le_refl _,by omega,hp,(g1.cOld c hc _).2 ⟨⟨r t,hL,hr t⟩,fun _=>by rw [hp,Int.toNat_natCast];exact hk,fun i hi hpi hq=>e ⟨i,hi,hpi,hq⟩⟩⟩
 obtain ⟨t1,ht1,hF1⟩:=hF (t0+1);obtain ⟨t1,rfl⟩:∃ t,t1=t+1:=⟨t1 - 1,by omega⟩
 have first:∃ c,c < (T (t1+1)).n/\(T (t1+1)).A c=k/\(T (t1+1)).L c (r (t1+1)):=by
  have ht:t0<=t1:=by omega
  obtain ⟨g1,g2,_⟩:=h.step hs ht;have hkn:=(hs t1 ht).1;have hN:=g1.hN;have hk:(D t1).C k (r (t1+1)):=(h.stepL hs ht _).1 (hw.i (t1+1) (by omega))
  obtain ⟨j,j0,j1,j2⟩:=g1.new k hkn ⟨r (t1+1),⟨r t1,hw.i t1 ht,hr t1⟩,hF1⟩;have:∃ i,i < (D t1).N/\(D t1).P i=k/\(D t1).C i (r (t1+1)):=by
   by_cases e:∃ i,i < j/\(D t1).P i=(D t1).P j/\(D t1).C i (r (t1+1))
   ·obtain ⟨i,hi,hp,hq⟩:=e;exact ⟨i,by omega,by rw [hp];exact j2,hq⟩
   ·exact ⟨j,j1,j2,(g1.cNew j j0 j1 _).2 ⟨⟨⟨r t1,by rw [j2,Int.toNat_natCast];exact hw.i t1 ht,hr t1⟩,hF1⟩,by rw [j2,Int.toNat_natCast];exact hk,fun i hi hp hq=>e ⟨i,hi,hp,hq⟩⟩⟩
  obtain ⟨i,hi,hp,hq⟩:=this;obtain ⟨_,o2,o3,o4⟩:=one t1 ht i hi hp hq;exact ⟨_,o2,o3,o4⟩
 have next:∀ n,∃ c,c < (T (t1+1+n)).n/\(T (t1+1+n)).A c=k/\(T (t1+1+n)).L c (r (t1+1+n)):=fun n=>by
  induction n with
  | zero=>exact first
  | succ n ih=>
   obtain ⟨c,h1,h2,h3⟩:=ih;obtain ⟨i,_,hi,hp,hq⟩:=go (t1+1+n) (by omega) c h1 h2 h3
   obtain ⟨_,o2,o3,o4⟩:=one (t1+1+n) (by omega) i hi hp hq
   exact ⟨_,o2,o3,o4⟩
 let f:Nat->Nat:=fun t=>if ht:t1+1<=t then Classical.choose (next (t - (t1+1))) else 0
 have hf:∀ t,t1+1<=t->f t < (T t).n/\(T t).A (f t)=k/\(T t).L (f t) (r t):=fun t ht=>by
  have hc:=Classical.choose_spec (next (t - (t1+1)));have e:t1+1+(t - (t1+1))=t:=by omega
  have e2:f t=Classical.choose (next (t - (t1+1))):=dif_pos ht;rw [e2];generalize Classical.choose (next (t - (t1+1)))=c at hc ⊢;rw [e] at hc;exact hc
 have uniq:∀ t,t1+1<=t->∀ c,c < (T t).n->(T t).A c=k->(T t).L c (r t)->c=f t:=fun t ht c hc hA hL=>by
  obtain ⟨f1,f2,f3⟩:=hf t ht;rcases Nat.lt_trichotomy c (f t) with g | g | g
  ·exact absurd f3 ((h.v t).dis _ _ g f1 (by rw [hA,f2]) _ hL)
  ·exact g
  ·exact absurd hL ((h.v t).dis _ _ g hc (by rw [hA,f2]) _ f3)
 have down:∀ t,t1+1<=t->∃ i,i<=f t/\i < (D t).N /\ ¬ (D t).gone i/\(D t).nu i=f (t+1):=fun t ht=>by
  obtain ⟨f1,f2,f3⟩:=hf t ht;obtain ⟨i,h1,hi,hp,hq⟩:=go t (by omega) _ f1 f2 f3
  obtain ⟨o1,o2,o3,o4⟩:=one t (by omega) i hi hp hq
  exact ⟨i,h1,hi,o1,uniq (t+1) (by omega) _ o2 o3 o4⟩
 obtain ⟨t2,ht2,hst⟩:=zAG (f:=f) (t0:=t1+1) (fun t ht=>by
  obtain ⟨i,h1,hi,_,h2⟩:=down t ht;rcases h.s t with ⟨h3,_⟩ | ⟨_,h3⟩
  ·have:=(hf t ht).1;omega
  ·have:=h3.nuLe i;omega)
 refine ⟨f t2,t2,by omega,⟨fun t ht => ?_,fun t ht => ?_⟩,fun t ht => ?_⟩
 ·have e1:=hst t ht;have e2:=hst (t+1) (by omega)
  obtain ⟨f1,f2,f3⟩:=hf t (by omega)
  obtain ⟨i,h1,hi,hg,h2⟩:=down t (by omega)
  rw [<- e1];refine ⟨f1,?_⟩
  rcases h.s t with ⟨h3,_⟩ | ⟨_,h3⟩
  ·omega
  ·have hle:=h3.nuLe i;have hif:i=f t:=by omega
   intro j hj hgj;rcases Nat.lt_or_eq_of_le hj with g | g
   ·have:=h3.nuLt i j (by omega) hi hgj;omega
   ·rw [g,<- hif] at hgj;exact hg hgj
 ·rw [<- hst t ht];exact (hf t (by omega)).2.2
 ·rw [<- hst t ht];exact (hf t (by omega)).2.1
theorem Row.finds (h:Row E F T D M) (hb:∀ t p q,E t p q->0<=q/\q < 4) {r:Nat->Int} (hr:∀ t,E t (r t) (r (t+1))) (hF:∀ n,∃ t,n<=t/\F (r t)):∀ (d:Nat) (k t0:Nat),1<=t0->Within T D r k t0->(∀ t,t0<=t->cnt4 ((T t).L k)<=d)->
  ∃ k' t1,Within T D r k' t1/\∀ n,∃ t,n<=t/\(D t).fl k':=by
 intro d
 induction d with
 | zero=>
  intro k t0 h1 hw hc;have h2:=hw.i t0 (Nat.le_refl _);have h3:=hc t0 (Nat.le_refl _);obtain ⟨t,rfl⟩:∃ t,t0=t+1:=⟨t0 - 1,by omega⟩
  obtain ⟨q0,q1⟩:=hb _ _ _ (hr t);have:=zyh (S:=fun _=>False) (S':=(T (t+1)).L k) (fun _ h=>h.elim) h2 id q0 q1
  omega
 | succ d ih=>
  intro k t0 h1 hw hc;by_cases c:∀ n,∃ t,n<=t/\(D t).fl k
  ·exact ⟨k,t0,hw,c⟩
  ·obtain ⟨n,hn⟩:=Classical.not_forall.1 c;have hn:∀ t,n<=t -> ¬ (D t).fl k:=fun t ht hfl=>hn ⟨t,ht,hfl⟩
   have hw':Within T D r k (max t0 n):=⟨fun t ht=>hw.s t (by omega),fun t ht=>hw.i t (by omega)⟩
   obtain ⟨c,t1,ht1,hw1,hA⟩:=h.deeper hr hF hw' (fun t ht=>hn t (by omega))
   refine ih c (t1+1) (by omega) ⟨fun t ht=>hw1.s t (by omega),fun t ht=>hw1.i t (by omega)⟩ fun t ht => ?_
   have hcn:=(hw1.s t (by omega)).1
   have hkn:=(hw.s t (by omega)).1
   obtain ⟨q,hq,hno⟩:=(h.v t).str k hkn;obtain ⟨t',rfl⟩:∃ t',t=t'+1:=⟨t - 1,by omega⟩
   have hq4:0<=q/\q < 4:=by
    obtain ⟨g1,_,_⟩:=h.step hw.s (t:=t') (by
     have:=hw1.s;omega)
    have hcq:=(h.stepL hw.s (t:=t') (by omega) q).1 hq
    obtain ⟨⟨p,_,he⟩,_⟩:=(g1.cOld k (hw.s t' (by omega)).1 q).1 hcq
    exact hb _ _ _ he
   have hlt:=zyh (S:=(T (t'+1)).L c) (S':=(T (t'+1)).L k) (fun p hp=>by
    have:=(h.v (t'+1)).sub c hcn (by rw [hA (t'+1) (by omega)];omega) p hp
    rwa [hA (t'+1) (by omega),Int.toNat_natCast] at this) hq (hno c hcn (hA (t'+1) (by omega))) hq4.1 hq4.2
   have:=hc (t'+1) (by omega)
   omega
end
def Infn (P:Nat->Prop):Prop:=∀ n,∃ t,n<=t/\P t
theorem zrc {f:Nat->Nat}:∀ (K:Nat) {P:Nat->Prop},Infn P->(∀ t,P t->f t < K)->∃ r,r < K/\Infn (fun t=>P t/\f t=r)
 | 0,P,h,hf=>by obtain ⟨t,_,ht⟩:=h 0;exact absurd (hf t ht) (by omega)
 | K+1,P,h,hf=>by
  by_cases c:Infn (fun t=>P t/\f t=K)
  ·exact ⟨K,by omega,c⟩
  ·obtain ⟨N,hN⟩:=Classical.not_forall.1 c;have hN:∀ t,N<=t->P t->f t≠K:=fun t ht hp he=>hN ⟨t,ht,hp,he⟩
   obtain ⟨r,hr,hi⟩:=zrc (f:=f) K (P:=fun t=>N<=t/\P t) (fun n=>by
    obtain ⟨t,ht,hp⟩:=h (max n N);exact ⟨t,by omega,by omega,hp⟩) (fun t ⟨h1,h2⟩=>by
    have:=hf t h2;have:=hN t h1 h2;omega)
   exact ⟨r,by omega,fun n=>by obtain ⟨t,ht,⟨_,hp⟩,he⟩:=hi n;exact ⟨t,ht,hp,he⟩⟩
theorem zBN {P:Nat->Prop} (h:Infn P) (n0:Nat):∃ s:Nat->Nat,n0<=s 0/\(∀ i,s i < s (i+1))/\∀ i,P (s i):=by
 let g:Nat->Nat:=fun n=>Classical.choose (h n)
 have hg:∀ n,n<=g n/\P (g n):=fun n=>Classical.choose_spec (h n)
 refine ⟨fun i=>Nat.rec (g n0) (fun _ x=>g (x+1)) i,(hg n0).1,fun i => ?_,fun i => ?_⟩
 ·show _ < g (_+1);exact (hg ((Nat.rec (g n0) (fun _ x=>g (x+1)) i:Nat)+1)).1
 ·cases i with
  | zero=>exact (hg n0).2
  | succ i=>exact (hg _).2
theorem zA8 {s:Nat->Nat} (h:∀ i,s i < s (i+1)) {i j:Nat} (hij:i < j):s i < s j:=by
 induction j with
 | zero=>omega
 | succ j ih=>
  have:=h j;by_cases e:i=j
  ·subst e;exact this
  ·have:=ih (by omega);omega
section
variable {E:Nat->Int->Int->Prop} {F:Int->Prop} {T:Nat->Tre} {D:Nat->SD} {M:Nat->Int}
theorem Pth.trans {s:Nat} {p:Int} {t:Nat} {q:Int} {v:Nat} {r:Int} (h1:Pth E s p t q) (h2:Pth E t q v r):Pth E s p v r:=by
 induction h2 generalizing p with
 | nil=>exact h1
 | snoc _ e ih=>exact (ih h1).snoc e
theorem PthF.pth {s:Nat} {p:Int} {t:Nat} {q:Int} (h:PthF E F s p t q):Pth E s p t q:=by
 obtain ⟨c,f,_,h2,_,h4⟩:=h;exact h2.trans h4
theorem PthF.trans {s:Nat} {p:Int} {t:Nat} {q:Int} {v:Nat} {r:Int} (h1:PthF E F s p t q) (h2:Pth E t q v r):PthF E F s p v r:=by
 obtain ⟨c,f,h0,h3,h4,h5⟩:=h1;exact ⟨c,f,h0,h3,h4,h5.trans h2⟩
def zmD (M:Nat->Int) (m:Int):Prop:=Infn (fun t=>M t=m)/\∃ n,∀ t,n<=t->m<=M t
theorem Row.even (h:Row E F T D M) {m:Int} (hm:zmD M m) (he:m % 2=0):∃ k t0,zvm T D k t0/\Infn (fun t=>(D t).fl k):=by
 obtain ⟨h1,n,h2⟩:=hm;have fl:∀ t,M t=m->∃ i,i < (T t).n/\(D t).fl i/\m=2 * i+2/\IsStep (E t) F (T t) (D t) (T (t+1)) (M t):=fun t ht=>by
  rcases h.s t with ⟨_,_,e⟩ | ⟨_,e⟩
  ·omega
  ·rcases e.mIs with g | ⟨i,_,_,g⟩ | ⟨i,g1,_,g3,g⟩
   ·omega
   ·omega
   ·exact ⟨i,g1,g3,by omega,e⟩
 obtain ⟨t1,ht1,hM⟩:=h1 n;obtain ⟨k,hk,_,em,_⟩:=fl t1 hM;have st:∀ d,k < (T (t1+d)).n/\∀ j,j<=k -> ¬ (D (t1+d)).gone j:=fun d=>by
  have no:∀ t,t1<=t->k < (T t).n->∀ j,j<=k -> ¬ (D t).gone j:=fun t ht hkt j hj hg=>by
   have:=h2 t (by omega)
   rcases h.s t with ⟨e,_⟩ | ⟨_,e⟩
   ·omega
   ·have:=e.mGone j (by omega) hg;omega
  induction d with
  | zero=>exact ⟨hk,no _ (by omega) hk⟩
  | succ d ih=>
   have:k < (T (t1+(d+1))).n:=by
    obtain ⟨i1,i2⟩:=ih;rcases h.s (t1+d) with ⟨e,_⟩ | ⟨_,e⟩
    ·omega
    ·have hN:=e.hN;have e1:=e.nuS k (by omega) (i2 k (Nat.le_refl _))
     rw [e.nuEq k (by omega) (fun j hj=>i2 j (by omega))] at e1
     exact e1
   exact ⟨this,no _ (by omega) this⟩
 refine ⟨k,t1,fun t ht=>by have:=st (t - t1);rwa [show t1+(t - t1)=t by omega] at this,fun n' => ?_⟩
 obtain ⟨t,ht,hMt⟩:=h1 n';obtain ⟨i,_,hf,e,_⟩:=fl t hMt;have:i=k:=by omega
 subst this;exact ⟨t,ht,hf⟩
theorem Row.odd (h:Row E F T D M) (hb:∀ t p q,E t p q->0<=q/\q < 4) (h4:∀ t,(T t).n<=4) (n0:(T 0).n=1) {r:Nat->Int} (r0:(T 0).L 0 (r 0)) (hr:∀ t,E t (r t) (r (t+1))) (hF:Infn (fun t=>F (r t))) {m:Int} (hm:zmD M m):m % 2=0:=by
 have root:∀ t,0 < (T t).n/\(T t).L 0 (r t):=fun t=>by
  induction t with
  | zero=>exact ⟨by omega,r0⟩
  | succ t ih=>
   obtain ⟨i1,i2⟩:=ih;rcases h.s t with ⟨e,_⟩ | ⟨_,e⟩
   ·omega
   ·have hN:=e.hN;have hp:(D t).P 0 < 0:=by rw [e.pOld 0 i1];exact ((h.v t).root 0 i1).2 rfl
    have hc:(D t).C 0 (r (t+1)):=(e.cOld 0 i1 _).2 ⟨⟨_,i2,hr t⟩,fun hh=>by omega,fun k hk=>by omega⟩
    have hg:=e.gRoot 0 (by omega) ⟨_,hc⟩ hp
    have hn:=e.nuEq 0 (by omega) (fun j hj=>by omega)
    have e1:=e.nuS 0 (by omega) hg
    have e2:=(e.lab 0 (by omega) hg (r (t+1))).2 hc
    rw [hn] at e1 e2;exact ⟨e1,e2⟩
 have hw:Within T D r 0 1:=by
  refine ⟨fun t ht=>⟨(root t).1,fun j hj hg => ?_⟩,fun t ht=>(root t).2⟩
  obtain ⟨i1,i2⟩:=root t;have hj:j=0:=by omega
  subst hj;rcases h.s t with ⟨e,_⟩ | ⟨_,e⟩
  ·omega
  ·have hN:=e.hN;have hp:(D t).P 0 < 0:=by rw [e.pOld 0 i1];exact ((h.v t).root 0 i1).2 rfl
   have hc:(D t).C 0 (r (t+1)):=(e.cOld 0 i1 _).2 ⟨⟨_,i2,hr t⟩,fun hh=>by omega,fun k hk=>by omega⟩
   exact e.gRoot 0 (by omega) ⟨_,hc⟩ hp hg
 obtain ⟨k,t1,hk,hfl⟩:=h.finds hb hr hF 4 0 1 (Nat.le_refl _) hw (fun t _=>zBs _)
 obtain ⟨h1,n,h2⟩:=hm;have le:m<=2 * k+2:=by
  obtain ⟨t,ht,hf⟩:=hfl (max n t1);have:=h2 t (by omega)
  obtain ⟨s1,s2⟩:=hk.s t (by omega)
  rcases h.s t with ⟨e,_⟩ | ⟨_,e⟩
  ·omega
  ·have:=e.mFl k s1 hf (s2 k (Nat.le_refl _));omega
 obtain ⟨t,ht,hM⟩:=h1 t1;obtain ⟨s1,s2⟩:=hk.s t ht;have:=h4 t;rcases h.s t with ⟨e,_⟩ | ⟨_,e⟩
 ·omega
 ·rcases e.mIs with g | ⟨i,g1,g2,g⟩ | ⟨i,_,_,_,g⟩
  ·omega
  ·exact absurd g2 (s2 i (by omega))
  ·omega
end
end
end Go.Proofs.Yticelcjhokgcbaa.safraWithinW
