/- The law 'BuchiJoins' of the plain functions. -/
import Derived.Test.YtekjdmjngekjpaaBuchiJoinsD
import Derived.Sort.AssemblyPlain
set_option maxHeartbeats 1000000
set_option maxRecDepth 20000
set_option linter.unusedSimpArgs false
set_option linter.unusedVariables false
set_option linter.unusedSectionVars false
namespace Go.Proofs.Ytekjdmjngekjpaa.buchiJoinsW
open Go Go.Ab
noncomputable section
def ziI (o:Option Bool) (P:Prop):Prop:=∃ b,o=some b/\(b=true↔P)
theorem ziI.of {b:Bool} {P:Prop} (h:b=true↔P):ziI (some b) P:=⟨b,rfl,h⟩
theorem ziI.dec {P Q:Prop} [Decidable P] (h:P↔Q):ziI (some (decide P)) Q:=⟨_,rfl,by simpa using h⟩
theorem ziI.iff {o:Option Bool} {P Q:Prop} (h:ziI o P) (k:P↔Q):ziI o Q:=let ⟨b,h1,h2⟩:=h;⟨b,h1,h2.trans k⟩
theorem ziI.eq {o:Option Bool} {P:Prop} [Decidable P] (h:ziI o P):o=some (decide P):=by
 obtain ⟨b,rfl,hb⟩:=h;by_cases hp:P
 ·simp [hp,hb.2 hp]
 ·have:b=false:=by cases b;rfl;exact absurd (hb.1 rfl) hp
  simp [hp,this]
theorem ziI.to {R:Type} {o:Option Bool} {P:Prop} {k1 k2 x:Option R} (h:ziI o P) (h1:P->k1=x) (h2 : ¬ P->k2=x):(o.bind fun y=>if y=true then k1 else k2)=x:=by
 obtain ⟨b,rfl,hb⟩:=h;refine zaH rfl ?_
 cases b
 ·exact h2 fun hp=>by simpa using hb.2 hp
 ·exact h1 (hb.1 rfl)
theorem ziI.bind {R:Type} {o:Option Bool} {P:Prop} {k:Bool->Option R} {x:Option R} (h:ziI o P) (h1:∀ b,(b=true↔P)->k b=x):o.bind k=x:=by
 obtain ⟨b,rfl,hb⟩:=h;exact h1 b hb
section
variable {α C:Type} [Inhabited α]
theorem zug {l:List α} {P:α->Prop}:(∃ x∈l,P x)↔∃ i:Int,0<=i/\i < l.length/\P (ix l i):=by
 constructor
 ·rintro ⟨x,hx,hp⟩;obtain ⟨i,hi,rfl⟩:=List.mem_iff_getElem.1 hx;refine ⟨i,by omega,by omega,?_⟩
  rwa [zn5 (by omega) (by omega)]
 ·rintro ⟨i,h0,h1,hp⟩;exact ⟨_,zin h0 h1,hp⟩
theorem zz9 {s:List α} {f:α->Option Bool} {L:Int->Option Int} {P:α->Prop} (hs:s.length<=4611686018427387904)
  (hL:∀ t,L t=if decide (t < (s.length:Int))=true then G (0<=t/\t < (s.length:Int)) ((f (ix s t)).bind fun y=>if y=true then some t else G (fits (t+1)) (L (t+1))) else some (-1))
  (hf:∀ x∈s,ziI (f x) (P x)):∀ (n:Nat) (t:Int),0<=t->t<=s.length->(s.length - t).toNat=n->
   ∃ i,L t=some i/\((i = -1/\∀ j:Int,t<=j->j < s.length -> ¬ P (ix s j))\/(t<=i/\i < s.length/\P (ix s i)/\∀ j:Int,t<=j->j < i -> ¬ P (ix s j))):=by
 intro n
 induction n with
 | zero=>
  intro t h0 h1 hn;refine ⟨-1,?_,.inl ⟨rfl,fun j a b=>by omega⟩⟩
  rw [hL,if_neg (by simp;omega)]
 | succ n ih=>
  intro t h0 h1 hn;rw [hL,if_pos (by simp;omega),zad (by omega)]
  obtain ⟨b,hb,hbp⟩:=hf _ (zin h0 (by omega:t < s.length))
  rw [hb]
  cases b with
  | true=>exact ⟨t,rfl,.inr ⟨by omega,by omega,hbp.1 rfl,fun j a b=>by omega⟩⟩
  | false=>
   have hnp : ¬ P (ix s t):=fun hp=>by simpa using hbp.2 hp
   obtain ⟨i,hi,hc⟩:=ih (t+1) (by omega) (by omega) (by omega)
   refine ⟨i,?_,?_⟩
   ·refine (if_neg (by simp):(if false=true then some t else G (fits (t+1)) (L (t+1)))=_).trans ?_
    rw [zad (by unfold fits;omega),hi]
   ·rcases hc with ⟨h2,h3⟩ | ⟨h2,h3,h4,h5⟩
    ·refine .inl ⟨h2,fun j a b => ?_⟩
     by_cases e:j=t
     ·rw [e];exact hnp
     ·exact h3 j (by omega) b
    ·refine .inr ⟨by omega,h3,h4,fun j a b => ?_⟩
     by_cases e:j=t
     ·rw [e];exact hnp
     ·exact h5 j (by omega) b
theorem zqg {s:List α} {f:α->Option Bool} {L:Int->Option Int} {P:α->Prop}
  (hL:∀ t,L t=if decide (t < (s.length:Int))=true then G (0<=t/\t < (s.length:Int)) ((f (ix s t)).bind fun y=>if y=true then some t else G (fits (t+1)) (L (t+1))) else some (-1))
  (hs:s.length<=4611686018427387904) (hf:∀ x∈s,ziI (f x) (P x)):ziI ((L 0).bind fun y=>some (decide ((0:Int)<=y))) (∃ x∈s,P x):=by
 obtain ⟨i,hi,hc⟩:=zz9 hs hL hf _ 0 (by omega) (by omega) rfl
 rw [hi];refine ⟨decide (0<=i),rfl,?_⟩
 rw [decide_eq_true_iff,zug];rcases hc with ⟨h2,h3⟩ | ⟨h2,h3,h4,h5⟩
 ·constructor
  ·intro h;omega
  ·rintro ⟨j,h0,h1,hp⟩;exact absurd hp (h3 j h0 h1)
 ·exact ⟨fun _=>⟨i,by omega,h3,h4⟩,fun _=>by omega⟩
theorem zt6 {s:List α} {c:C} {f:α->C->Option (Bool×C)} {L:Int->C->Option (Int×C)} {P:α->Prop}
  (hL:∀ t c,L t c=if decide (t < (s.length:Int))=true then G (0<=t/\t < (s.length:Int)) ((f (ix s t) c).bind fun y=>if y.1=true then some (t,y.2) else G (fits (t+1)) (L (t+1) y.2)) else some (-1,c))
  (hs:s.length<=4611686018427387904) (hf:∀ x∈s,∃ b,f x c=some (b,c)/\(b=true↔P x)):∃ b,((L 0 c).bind fun y=>some (decide ((0:Int)<=y.1),y.2))=some (b,c)/\(b=true↔∃ x∈s,P x):=by
 have key:∀ (n:Nat) (t:Int),0<=t->t<=s.length->(s.length - t).toNat=n->
   ∃ i,L t c=some (i,c)/\((i = -1/\∀ j:Int,t<=j->j < s.length -> ¬ P (ix s j))\/(t<=i/\i < s.length/\P (ix s i))):=by
  intro n
  induction n with
  | zero=>
   intro t h0 h1 hn;refine ⟨-1,?_,.inl ⟨rfl,fun j a b=>by omega⟩⟩
   rw [hL,if_neg (by simp;omega)]
  | succ n ih=>
   intro t h0 h1 hn;rw [hL,if_pos (by simp;omega),zad (by omega)]
   obtain ⟨b,hb,hbp⟩:=hf _ (zin h0 (by omega:t < s.length))
   rw [hb]
   cases b with
   | true=>exact ⟨t,rfl,.inr ⟨by omega,by omega,hbp.1 rfl⟩⟩
   | false=>
    have hnp : ¬ P (ix s t):=fun hp=>by simpa using hbp.2 hp
    obtain ⟨i,hi,hc⟩:=ih (t+1) (by omega) (by omega) (by omega)
    refine ⟨i,?_,?_⟩
    ·refine (if_neg (by simp):(if false=true then some (t,c) else G (fits (t+1)) (L (t+1) c))=_).trans ?_
     rw [zad (by unfold fits;omega),hi]
    ·rcases hc with ⟨h2,h3⟩ | ⟨h2,h3,h4⟩
     ·refine .inl ⟨h2,fun j a b => ?_⟩
      by_cases e:j=t
      ·rw [e];exact hnp
      ·exact h3 j (by omega) b
     ·exact .inr ⟨by omega,h3,h4⟩
 obtain ⟨i,hi,hc⟩:=key _ 0 (by omega) (by omega) rfl
 rw [hi];refine ⟨decide (0<=i),rfl,?_⟩
 rw [decide_eq_true_iff,zug];rcases hc with ⟨h2,h3⟩ | ⟨h2,h3,h4⟩
 ·constructor
  ·intro h;omega
  ·rintro ⟨j,h0,h1,hp⟩;exact absurd hp (h3 j h0 h1)
 ·exact ⟨fun _=>⟨i,by omega,h3,h4⟩,fun _=>by omega⟩
end
theorem zDR {R:Type} {len:Int} {L:Int->Option R} {bad:Int->Prop} {x:Option R} {lo:Int} (h0:lo<=len)
  (hs:∀ t,lo<=t->t < len->(bad t->L t=x)/\(¬ bad t->L t=L (t+1))) (hf:(∀ t,lo<=t->t < len -> ¬ bad t)->L len=x):L lo=x:=by
 have key:∀ (n:Nat) (t:Int),lo<=t->t<=len->(len - t).toNat=n->(∀ j,lo<=j->j < t -> ¬ bad j)->L t=x:=by
  intro n
  induction n with
  | zero=>
   intro t h1 h2 hn h;obtain rfl:t=len:=by omega
   exact hf h
  | succ n ih=>
   intro t h1 h2 hn h;by_cases hb:bad t
   ·exact (hs t h1 (by omega)).1 hb
   ·rw [(hs t h1 (by omega)).2 hb]
    refine ih (t+1) (by omega) (by omega) (by omega) fun j a b => ?_
    by_cases e:j=t
    ·rw [e];exact hb
    ·exact h j a (by omega)
 exact key _ lo (Int.le_refl _) h0 rfl (fun j a b=>by omega)
theorem fold_to {R S:Type} {len:Int} {L:Int->S->Option R} {f:Int->S->S} {lo:Int} {I:Int->S->Prop} {s:S} (h0:lo<=len) (hI:I lo s)
  (hs:∀ t s,lo<=t->t < len->I t s->L t s=L (t+1) (f t s)/\I (t+1) (f t s)):∃ s',I len s'/\L lo s=L len s':=by
 have key:∀ (n:Nat) (t:Int) (s:S),lo<=t->t<=len->(len - t).toNat=n->I t s->∃ s',I len s'/\L t s=L len s':=by
  intro n
  induction n with
  | zero=>
   intro t s h1 h2 hn h;obtain rfl:t=len:=by omega
   exact ⟨s,h,rfl⟩
  | succ n ih=>
   intro t s h1 h2 hn h;obtain ⟨e,h3⟩:=hs t s h1 (by omega) h
   obtain ⟨s',h4,h5⟩:=ih (t+1) _ (by omega) (by omega) (by omega) h3
   exact ⟨s',h4,e.trans h5⟩
 exact key _ lo s (Int.le_refl _) h0 rfl hI
theorem znK {s:List Int} (hs:s.length * 8<=140737488355328):zgs s=some s:=by
 have hr:G (room ([]:List Int) s 8) (some (([]:List Int)++s))=some s:=by
  rw [zad (zpD (by simpa using hs))];rfl
 unfold zgs;refine zBs (fun h => ?_) (fun h=>hr)
 obtain rfl:s=[]:=List.length_eq_zero_iff.1 h;rw [hr];exact ztT (ts:=[(.list (.int .i64))]) (some ([]:List Int))
theorem zvn {letters:Int} {w:List Int} (hL:1<=letters/\letters<=4) (hw:w.length<=(60:Int)):∀ (n:Nat) (i:Int),0<=i->i<=w.length->(w.length - i).toNat=n->(∀ j:Int,0<=j->j < i->0<=ix w j/\ix w j < letters)->zrD letters w i=some (mayE letters w):=by
 intro n
 induction n with
 | zero=>
  intro i h0 h1 hn h;rw [zsZ];unfold ziL
  (try dsimp only);(repeat' first | (with_reducible refine G_to ?_ ?_;focus (first | omega | (unfold fits;omega) | (unfold room;(try simp only [List.length_append,List.length_cons,List.length_nil]);omega))) | (with_reducible refine both_to ?_ ?_) | (with_reducible refine zfl ?_) | (with_reducible refine zfk ?_) | (with_reducible refine zh5 (fun _ => ?_) (fun _ => ?_)))<;>try (exfalso;omega)
  ·rw [zDB hL hw (fun j a b=>h j a (by omega))]
 | succ n ih=>
  intro i h0 h1 hn h;rw [zsZ];unfold ziL
  (try dsimp only);(repeat' first | (with_reducible refine G_to ?_ ?_;focus (first | omega | (unfold fits;omega) | (unfold room;(try simp only [List.length_append,List.length_cons,List.length_nil]);omega))) | (with_reducible refine both_to ?_ ?_) | (with_reducible refine zfl ?_) | (with_reducible refine zfk ?_) | (with_reducible refine zh5 (fun _ => ?_) (fun _ => ?_)))<;>try (exfalso;omega)
  ·rw [zzB hL hw (i:=i) (by omega) (by omega)]
  ·rw [zzB hL hw (i:=i) (by omega) (by omega)]
  ·exact ih _ (by omega) (by omega) (by omega) (zvv h (by omega))
theorem zuF {letters:Int} {w:List Int}:zxK letters w=some (mayE letters w):=by
 unfold zxK
 (try dsimp only);(repeat' first | (with_reducible refine G_to ?_ ?_;focus (first | omega | (unfold fits;omega) | (unfold room;(try simp only [List.length_append,List.length_cons,List.length_nil]);omega))) | (with_reducible refine both_to ?_ ?_) | (with_reducible refine zfl ?_) | (with_reducible refine zfk ?_) | (with_reducible refine zh5 (fun _ => ?_) (fun _ => ?_)))<;>try (exfalso;omega)
 ·rw [zvM (by omega)]
 ·rw [zvM (by omega)]
 ·rw [zBC (by omega) (by omega)]
 ·exact zvn (by omega) (by omega) _ 0 (by omega) (by omega) rfl (fun j a b=>by omega)
theorem zts {a b:List Int} (hl:a.length=b.length):∀ (n:Nat) (i:Int),0<=i->i<=a.length->(a.length - i).toNat=n->a.length<=2305843009213693951->(∀ j:Int,0<=j->j < i->ix a j=ix b j)->zog a b i=some (decide (a=b)):=by
 intro n
 induction n with
 | zero=>
  intro i h0 h1 hn hs h;rw [zql];unfold zgM
  (try dsimp only);(repeat' first | (with_reducible refine G_to ?_ ?_;focus (first | omega | (unfold fits;omega) | (unfold room;(try simp only [List.length_append,List.length_cons,List.length_nil]);omega))) | (with_reducible refine both_to ?_ ?_) | (with_reducible refine zfl ?_) | (with_reducible refine zfk ?_) | (with_reducible refine zh5 (fun _ => ?_) (fun _ => ?_)))<;>try (exfalso;omega)
  ·rw [Option.some_inj,eq_comm,decide_eq_true_iff];exact zEt hl (fun j a b=>h j a (by omega))
 | succ n ih=>
  intro i h0 h1 hn hs h;rw [zql];unfold zgM
  (try dsimp only);(repeat' first | (with_reducible refine G_to ?_ ?_;focus (first | omega | (unfold fits;omega) | (unfold room;(try simp only [List.length_append,List.length_cons,List.length_nil]);omega))) | (with_reducible refine both_to ?_ ?_) | (with_reducible refine zfl ?_) | (with_reducible refine zfk ?_) | (with_reducible refine zh5 (fun _ => ?_) (fun _ => ?_)))<;>try (exfalso;omega)
  ·rw [Option.some_inj,eq_comm,decide_eq_false_iff_not];rintro rfl;contradiction
  ·rename_i hx;exact ih _ (by omega) (by omega) (by omega) hs (zvv h (Decidable.not_not.1 hx))
theorem zrG {a b:List Int} (hs:a.length<=2305843009213693951):zrE a b=some (decide (a=b)):=by
 unfold zrE
 (try dsimp only);(repeat' first | (with_reducible refine G_to ?_ ?_;focus (first | omega | (unfold fits;omega) | (unfold room;(try simp only [List.length_append,List.length_cons,List.length_nil]);omega))) | (with_reducible refine both_to ?_ ?_) | (with_reducible refine zfl ?_) | (with_reducible refine zfk ?_) | (with_reducible refine zh5 (fun _ => ?_) (fun _ => ?_)))<;>try (exfalso;omega)
 ·rw [Option.some_inj,eq_comm,decide_eq_false_iff_not];rintro rfl;contradiction
 ·exact zts (by omega) _ 0 (by omega) (by omega) rfl hs (fun j a b=>by omega)
theorem zkP {s:List Int} {v:Int} (hs:s.length<=4611686018427387904):ziI (zhM s v) (v∈s):=
 ziI.iff (zqg (f:=fun x=>some (decide (v=x))) (P:=fun x=>v=x) (zrS s v) hs (fun x _=>ziI.dec Iff.rfl)) ⟨fun ⟨x,hx,e⟩=>e ▸ hx,fun h=>⟨v,h,rfl⟩⟩
abbrev Stp:=Int×Int×Int×Unit
abbrev Au:=Int×Int×List Int×List Stp×List Int×Unit
theorem zy6 {R:Type} {len:Int} {L:Int->Option R} {bad:Int->Prop} {x:Option R} {lo:Int}
  (hs:∀ t,lo<=t->t < len->(bad t->L t=x)/\(¬ bad t->L t=L (t+1))) (hf:∀ t,lo<=t->len<=t->(∀ u,lo<=u->u < len -> ¬ bad u)->L t=x):L lo=x:=by
 by_cases h:lo<=len
 ·exact zDR h hs (fun hh=>hf len h (Int.le_refl _) hh)
 ·exact hf lo (Int.le_refl _) (by omega) (fun u a b=>by omega)
def noS (a:Au) (q:Int):Prop:=q < 0\/a.2.1<=q
def badX (a:Au) (x:Stp):Prop:=noS a x.1\/noS a x.2.2.1\/x.2.1 < 0\/a.1<=x.2.1
def zd8 (x y:Stp):Prop:=x.1 < y.1\/(x.1=y.1/\(x.2.1 < y.2.1\/(x.2.1=y.2.1/\x.2.2.1 < y.2.2.1)))
def zu9 (l:List Int):Prop:=∃ i:Int,1<=i/\i < l.length/\ix l i<=ix l (i - 1)
def zC0 (l:List Stp):Prop:=∃ i:Int,1<=i/\i < l.length /\ ¬ zd8 (ix l (i - 1)) (ix l i)
def ztN (a:Au):Prop:=a.2.1 < 1\/300 < a.2.1\/40000 < (a.2.2.2.1.length:Int)
def AOut (a:Au):Prop:=(∃ q∈a.2.2.1,noS a q)\/(∃ q∈a.2.2.2.2.1,noS a q)\/(∃ x∈a.2.2.2.1,badX a x)
def ztm (a:Au):Prop:=zu9 a.2.2.1\/zu9 a.2.2.2.2.1\/zC0 a.2.2.2.1
open Classical in
def autE (a:Au):Int:=if a.1 < 1\/4 < a.1 then 2 else if ztN a then 1 else if AOut a then 2 else if ztm a then 3 else 0
structure AuLen (a:Au):Prop where
 s:(a.2.2.1.length:Int)<=20000000000000
 f:(a.2.2.2.2.1.length:Int)<=20000000000000
theorem zwK (q:Int) (a:Au):ziI (zgH q a) (noS a q):=by
 unfold zgH noS;by_cases h:q < 0
 ·rw [if_pos (decide_eq_true h)];exact ziI.of (by simp [h])
 ·rw [if_neg (by simpa using h)];exact ziI.dec (by omega)
theorem zuU {l:List Int} (hl:(l.length:Int)<=20000000000000):ziI (zkE l) (¬ zu9 l):=by
 unfold zkE;have key:∀ (n:Nat) (t:Int),(l.length - t).toNat=n->0<=t->t<=l.length->(∀ i:Int,1<=i->i < t -> ¬ ix l i<=ix l (i - 1))->ziI (zjm l t) (¬ zu9 l):=by
  intro n
  induction n with
  | zero=>
   intro t hn h0 h1 hj;rw [zmA];unfold zdL;rw [if_neg (by simp;omega)]
   refine ziI.of (Iff.intro (fun _ hh => ?_) (fun _=>rfl))
   obtain ⟨i,i0,i1,i2⟩:=hh;exact hj i i0 (by omega) i2
  | succ n ih=>
   intro t hn h0 h1 hj;rw [zmA];unfold zdL;rw [if_pos (by simp;omega)]
   by_cases c:0 < t
   ·rw [if_pos (decide_eq_true c),zad (by unfold fits;omega),zad (by omega),zad (by omega)]
    by_cases c2:ix l t<=ix l (t - 1)
    ·rw [if_pos (decide_eq_true c2)];exact ziI.of ⟨fun e=>absurd e (by simp),fun h=>absurd ⟨t,by omega,by omega,c2⟩ h⟩
    ·rw [if_neg (by simpa using c2),zad (by unfold fits;omega)]
     refine ih (t+1) (by omega) (by omega) (by omega) (fun i i0 i1 => ?_)
     by_cases e:i=t
     ·rw [e];exact c2
     ·exact hj i i0 (by omega)
   ·rw [if_neg (by simpa using c),zad (by unfold fits;omega)]
    exact ih (t+1) (by omega) (by omega) (by omega) (fun i i0 i1=>by omega)
 exact key _ 0 rfl (by omega) (by omega) (fun i i0 i1=>by omega)
theorem znx (x y:Stp):∃ v:Int,zb8 x y=some v/\(v < 0↔zd8 x y):=by
 have cmp:∀ a b:Int,zke a b=some (if a < b then -1 else if b < a then 1 else 0):=fun a b=>by
  unfold zke zlS;refine zaH rfl (zaH rfl ?_)
  rw [if_neg (by simp),if_neg (by simp)]
  by_cases c:a < b
  ·rw [if_pos (decide_eq_true c),if_pos c]
  ·rw [if_neg (by simpa using c),if_neg c]
   by_cases c2:b < a
   ·rw [if_pos (decide_eq_true c2),if_pos c2]
   ·rw [if_neg (by simpa using c2),if_neg c2]
 have or3:∀ p q r:Int,zzk [p,q,r]=some (if p≠0 then p else if q≠0 then q else r):=fun p q r=>by
  unfold zzk;rw [zmD];unfold zgI;rw [if_pos (by simp),zad (by simp),show ix [p,q,r] 0=p from rfl]
  by_cases c:p=0
  ·rw [if_neg (by simpa using c),if_neg (by simpa using c),zad (by unfold fits;omega),zmD];unfold zgI
   rw [if_pos (by simp),zad (by simp),show ix [p,q,r] (0+1)=q from rfl]
   by_cases c2:q=0
   ·rw [if_neg (by simpa using c2),if_neg (by simpa using c2),zad (by unfold fits;omega),zmD];unfold zgI
    rw [if_pos (by simp),zad (by simp),show ix [p,q,r] (0+1+1)=r from rfl]
    by_cases c3:r=0
    ·rw [if_neg (by simpa using c3),zad (by unfold fits;omega),zmD];unfold zgI
     rw [if_neg (by simp),c3]
    ·rw [if_pos (by simpa using c3)]
   ·rw [if_pos (by simpa using c2),if_pos (by simpa using c2)]
  ·rw [if_pos (by simpa using c),if_pos (by simpa using c)]
 refine ⟨if (if x.1 < y.1 then (-1:Int) else if y.1 < x.1 then 1 else 0)≠0 then (if x.1 < y.1 then -1 else if y.1 < x.1 then 1 else 0) else if (if x.2.1 < y.2.1 then (-1:Int) else if y.2.1 < x.2.1 then 1 else 0)≠0 then (if x.2.1 < y.2.1 then -1 else if y.2.1 < x.2.1 then 1 else 0) else (if x.2.2.1 < y.2.2.1 then -1 else if y.2.2.1 < x.2.2.1 then 1 else 0),?_,?_⟩
 ·unfold zb8;exact zaH (cmp _ _) (zaH (cmp _ _) (zaH (cmp _ _) (zaH (or3 _ _ _) rfl)))
 ·unfold zd8;generalize x.1=a,y.1=b,x.2.1=c,y.2.1=e,x.2.2.1=f,y.2.2.1=g;by_cases h1:a < b
  ·rw [if_pos h1];simp [h1]
  ·rw [if_neg h1];by_cases h2:b < a
   ·rw [if_pos h2];simp;omega
   ·rw [if_neg h2];have:a=b:=by omega
    subst this;by_cases h3:c < e
    ·rw [if_pos h3];simp [h3]
    ·rw [if_neg h3];by_cases h4:e < c
     ·rw [if_pos h4];simp;omega
     ·rw [if_neg h4];have:c=e:=by omega
      subst this;by_cases h5:f < g
      ·rw [if_pos h5];simp [h5]
      ·rw [if_neg h5];by_cases h6:g < f
       ·rw [if_pos h6];simp;omega
       ·rw [if_neg h6];simp;omega
theorem zyf (x:Stp) (a:Au):∃ b,zjj x a a=some (b,a)/\(b=true↔badX a x):=by
 unfold zjj badX;obtain ⟨p,hp,hp2⟩:=zwK x.1 a;obtain ⟨q,hq,hq2⟩:=zwK x.2.2.1 a;rw [hp]
 cases p with
 | true=>exact ⟨true,rfl,by simp [hp2.1 rfl]⟩
 | false=>
  have np : ¬ noS a x.1:=fun h=>by have:=hp2.2 h;cases this
  cases q with
  | true=>exact ⟨true,zaH rfl (by rw [if_neg (by simp)];exact zaH hq rfl),by simp [hq2.1 rfl]⟩
  | false=>
   have nq : ¬ noS a x.2.2.1:=fun h=>by have:=hq2.2 h;cases this
   by_cases c:x.2.1 < 0
   ·exact ⟨true,zaH rfl (by rw [if_neg (by simp)];exact zaH hq (by rw [if_neg (by simp),if_pos (decide_eq_true c)])),by simp [c]⟩
   ·exact ⟨decide (a.1<=x.2.1),zaH rfl (by rw [if_neg (by simp)];exact zaH hq (by rw [if_neg (by simp),if_neg (by simpa using c)])),by simp [np,nq];omega⟩
theorem zoy {a:Au} (hl:AuLen a):zkc a=some (autE a):=by
 have hs:=hl.s;have hff:=hl.f;unfold zkc autE;by_cases c1:a.1 < 1\/4 < a.1
 ·rw [if_pos c1]
  (try dsimp only);(repeat' first | (with_reducible refine G_to ?_ ?_;focus (first | omega | (unfold fits;omega) | (unfold room;(try simp only [List.length_append,List.length_cons,List.length_nil]);omega))) | (with_reducible refine both_to ?_ ?_) | (with_reducible refine zfl ?_) | (with_reducible refine zfk ?_) | (with_reducible refine zh5 (fun _ => ?_) (fun _ => ?_)))<;>try (exfalso;omega)
  all_goals rfl
 rw [if_neg c1];by_cases c2:ztN a
 ·rw [if_pos c2];unfold ztN at c2
  (try dsimp only);(repeat' first | (with_reducible refine G_to ?_ ?_;focus (first | omega | (unfold fits;omega) | (unfold room;(try simp only [List.length_append,List.length_cons,List.length_nil]);omega))) | (with_reducible refine both_to ?_ ?_) | (with_reducible refine zfl ?_) | (with_reducible refine zfk ?_) | (with_reducible refine zh5 (fun _ => ?_) (fun _ => ?_)))<;>try (exfalso;omega)
  all_goals rfl
 rw [if_neg c2];unfold ztN at c2
 (try dsimp only);(repeat' first | (with_reducible refine G_to ?_ ?_;focus (first | omega | (unfold fits;omega) | (unfold room;(try simp only [List.length_append,List.length_cons,List.length_nil]);omega))) | (with_reducible refine both_to ?_ ?_) | (with_reducible refine zfl ?_) | (with_reducible refine zfk ?_) | (with_reducible refine zh5 (fun _ => ?_) (fun _ => ?_)))<;>try (exfalso;omega)
 have k1:∀ s:List Int,(s.length:Int)<=20000000000000->ziI (zgQ s a) (∃ q∈s,noS a q):=fun s hs=>zqg (f:=fun q=>zgH q a) (zo0 s a) (by omega) (fun x _=>zwK x a)
 obtain ⟨b3,hb3,hb32⟩:∃ b,zhN a.2.2.2.1 a a=some (b,a)/\(b=true↔∃ x∈a.2.2.2.1,badX a x):=
  zt6 (f:=fun x c=>zjj x a c) (L:=fun t c=>zfq a.2.2.2.1 a t c) (fun t c=>znQ a.2.2.2.1 a t c) (by omega) (fun x _=>zyf x a)
 have ea:(a.1,a.2.1,a.2.2.1,a.2.2.2.1,a.2.2.2.2.1,())=a:=rfl;rw [ea];refine (k1 _ hs).to (fun h=>by rw [if_pos (show AOut a from .inl h)]) (fun h1 => ?_)
 refine (k1 _ hff).to (fun h=>by rw [if_pos (show AOut a from .inr (.inl h))]) (fun h2 => ?_)
 refine zaH hb3 ?_
 by_cases h3:∃ x∈a.2.2.2.1,badX a x
 ·rw [if_pos (hb32.2 h3),if_pos (show AOut a from .inr (.inr h3))]
 rw [if_neg (fun e=>h3 (hb32.1 e)),if_neg (show ¬ AOut a from fun h=>h.elim h1 (fun h=>h.elim h2 h3))]
 obtain ⟨r1,e1,f1⟩:=zuU hs;obtain ⟨r2,e2,f2⟩:=zuU hff;refine zaH e1 ?_
 by_cases g1:zu9 a.2.2.1
 ·rw [if_pos (show ztm a from .inl g1),if_pos (by cases r1;rfl;exact absurd g1 (f1.1 rfl))]
 rw [if_neg (by rw [f1.2 g1];simp)]
 refine zaH e2 ?_
 by_cases g2:zu9 a.2.2.2.2.1
 ·rw [if_pos (show ztm a from .inr (.inl g2)),if_pos (by cases r2;rfl;exact absurd g2 (f2.1 rfl))]
 rw [if_neg (by rw [f2.2 g2];simp)]
 refine zy6 (len:=(a.2.2.2.1.length:Int)) (bad:=fun t=>1<=t /\ ¬ zd8 (ix a.2.2.2.1 (t - 1)) (ix a.2.2.2.1 t)) (lo:=0) (fun t t0 t1=>⟨fun hb => ?_,fun hb => ?_⟩) (fun t t0 t1 hh => ?_)
 ·rw [if_pos (show ztm a from .inr (.inr ⟨t,hb.1,t1,hb.2⟩)),zjk];unfold zcS;obtain ⟨v,hv,hv2⟩:=znx (ix a.2.2.2.1 (t - 1)) (ix a.2.2.2.1 t);rw [if_pos (by simp;omega),if_pos (by simp;omega),zad (by unfold fits;omega),zad (by omega),zad (by omega)]
  refine zaH hv ?_
  rw [if_pos (by rw [decide_eq_true_iff];exact Int.not_lt.1 (fun h=>hb.2 (hv2.1 h)))]
 ·conv=>lhs;rw [zjk];unfold zcS
  rw [if_pos (by simp;omega)]
  by_cases c:0 < t
  ·obtain ⟨v,hv,hv2⟩:=znx (ix a.2.2.2.1 (t - 1)) (ix a.2.2.2.1 t);have hah:zd8 (ix a.2.2.2.1 (t - 1)) (ix a.2.2.2.1 t):=Classical.byContradiction fun hn=>hb ⟨by omega,hn⟩
   rw [if_pos (decide_eq_true c),zad (by unfold fits;omega),zad (by omega),zad (by omega)]
   refine zaH hv ?_
   rw [if_neg (by have:=hv2.2 hah;simp;omega),zad (by unfold fits;omega)]
  ·rw [if_neg (by simpa using c),zad (by unfold fits;omega)]
 ·rw [if_neg (show ¬ ztm a from fun h=>h.elim g1 (fun h=>h.elim g2 (fun ⟨i,i0,i1,i2⟩=>hh i (by omega) i1 ⟨i0,i2⟩))),zjk];unfold zcS
  rw [if_neg (by simp;omega)]
theorem zrK (x y:Stp):ziI (ztJ x y) (zd8 x y):=by
 unfold ztJ zd8;by_cases c:x.1=y.1
 ·rw [if_neg (by simpa using c)]
  by_cases c2:x.2.1=y.2.1
  ·rw [if_neg (by simpa using c2)];exact ziI.dec (by omega)
  ·rw [if_pos (by simpa using c2)];exact ziI.dec (by omega)
 ·rw [if_pos (by simpa using c)];exact ziI.dec (by omega)
theorem zls {a:Au} (hl:AuLen a):zoh a=some (autE a):=by
 have hs:=hl.s;have hff:=hl.f;unfold zoh autE;by_cases c1:a.1 < 1\/4 < a.1
 ·rw [if_pos c1]
  (try dsimp only);(repeat' first | (with_reducible refine G_to ?_ ?_;focus (first | omega | (unfold fits;omega) | (unfold room;(try simp only [List.length_append,List.length_cons,List.length_nil]);omega))) | (with_reducible refine both_to ?_ ?_) | (with_reducible refine zfl ?_) | (with_reducible refine zfk ?_) | (with_reducible refine zh5 (fun _ => ?_) (fun _ => ?_)))<;>try (exfalso;omega)
  all_goals rfl
 rw [if_neg c1];by_cases c2:ztN a
 ·rw [if_pos c2];unfold ztN at c2
  (try dsimp only);(repeat' first | (with_reducible refine G_to ?_ ?_;focus (first | omega | (unfold fits;omega) | (unfold room;(try simp only [List.length_append,List.length_cons,List.length_nil]);omega))) | (with_reducible refine both_to ?_ ?_) | (with_reducible refine zfl ?_) | (with_reducible refine zfk ?_) | (with_reducible refine zh5 (fun _ => ?_) (fun _ => ?_)))<;>try (exfalso;omega)
  all_goals rfl
 rw [if_neg c2];unfold ztN at c2
 (try dsimp only);(repeat' first | (with_reducible refine G_to ?_ ?_;focus (first | omega | (unfold fits;omega) | (unfold room;(try simp only [List.length_append,List.length_cons,List.length_nil]);omega))) | (with_reducible refine both_to ?_ ?_) | (with_reducible refine zfl ?_) | (with_reducible refine zfk ?_) | (with_reducible refine zh5 (fun _ => ?_) (fun _ => ?_)))<;>try (exfalso;omega)
 refine zy6 (len:=(a.2.2.1.length:Int)) (bad:=fun t=>noS a (ix a.2.2.1 t)) (lo:=0) (fun t t0 t1=>⟨fun hb => ?_,fun hb => ?_⟩) (fun t t0 t1 hh => ?_)
 ·rw [if_pos (show AOut a from .inl (zug.2 ⟨t,t0,t1,hb⟩)),zmZ];unfold zfo;unfold noS at hb
  (try dsimp only);(repeat' first | (with_reducible refine G_to ?_ ?_;focus (first | omega | (unfold fits;omega) | (unfold room;(try simp only [List.length_append,List.length_cons,List.length_nil]);omega))) | (with_reducible refine both_to ?_ ?_) | (with_reducible refine zfl ?_) | (with_reducible refine zfk ?_) | (with_reducible refine zh5 (fun _ => ?_) (fun _ => ?_)))<;>try (exfalso;omega)
  all_goals rfl
 ·conv=>lhs;rw [zmZ];unfold zfo
  unfold noS at hb
  (try dsimp only);(repeat' first | (with_reducible refine G_to ?_ ?_;focus (first | omega | (unfold fits;omega) | (unfold room;(try simp only [List.length_append,List.length_cons,List.length_nil]);omega))) | (with_reducible refine both_to ?_ ?_) | (with_reducible refine zfl ?_) | (with_reducible refine zfk ?_) | (with_reducible refine zh5 (fun _ => ?_) (fun _ => ?_)))<;>try (exfalso;omega)
  all_goals rfl
 have h1 : ¬ ∃ q∈a.2.2.1,noS a q:=fun h=>by obtain ⟨i,i0,i1,i2⟩:=zug.1 h;exact hh i i0 i1 i2
 rw [zmZ];unfold zfo;rw [if_neg (by simp;omega)]
 refine zy6 (len:=(a.2.2.2.2.1.length:Int)) (bad:=fun t=>noS a (ix a.2.2.2.2.1 t)) (lo:=0) (fun t t0 t1=>⟨fun hb => ?_,fun hb => ?_⟩) (fun t t0 t1 hh => ?_)
 ·rw [if_pos (show AOut a from .inr (.inl (zug.2 ⟨t,t0,t1,hb⟩))),zl0];unfold zeP;unfold noS at hb
  (try dsimp only);(repeat' first | (with_reducible refine G_to ?_ ?_;focus (first | omega | (unfold fits;omega) | (unfold room;(try simp only [List.length_append,List.length_cons,List.length_nil]);omega))) | (with_reducible refine both_to ?_ ?_) | (with_reducible refine zfl ?_) | (with_reducible refine zfk ?_) | (with_reducible refine zh5 (fun _ => ?_) (fun _ => ?_)))<;>try (exfalso;omega)
  all_goals rfl
 ·conv=>lhs;rw [zl0];unfold zeP
  unfold noS at hb
  (try dsimp only);(repeat' first | (with_reducible refine G_to ?_ ?_;focus (first | omega | (unfold fits;omega) | (unfold room;(try simp only [List.length_append,List.length_cons,List.length_nil]);omega))) | (with_reducible refine both_to ?_ ?_) | (with_reducible refine zfl ?_) | (with_reducible refine zfk ?_) | (with_reducible refine zh5 (fun _ => ?_) (fun _ => ?_)))<;>try (exfalso;omega)
  all_goals rfl
 have h2 : ¬ ∃ q∈a.2.2.2.2.1,noS a q:=fun h=>by obtain ⟨i,i0,i1,i2⟩:=zug.1 h;exact hh i i0 i1 i2
 rw [zl0];unfold zeP;rw [if_neg (by simp;omega)]
 refine zy6 (len:=(a.2.2.2.1.length:Int)) (bad:=fun t=>badX a (ix a.2.2.2.1 t)) (lo:=0) (fun t t0 t1=>⟨fun hb => ?_,fun hb => ?_⟩) (fun t t0 t1 hh => ?_)
 ·rw [if_pos (show AOut a from .inr (.inr (zug.2 ⟨t,t0,t1,hb⟩))),zl1];unfold zeQ;unfold badX noS at hb
  (try dsimp only);(repeat' first | (with_reducible refine G_to ?_ ?_;focus (first | omega | (unfold fits;omega) | (unfold room;(try simp only [List.length_append,List.length_cons,List.length_nil]);omega))) | (with_reducible refine both_to ?_ ?_) | (with_reducible refine zfl ?_) | (with_reducible refine zfk ?_) | (with_reducible refine zh5 (fun _ => ?_) (fun _ => ?_)))<;>try (exfalso;omega)
  all_goals rfl
 ·conv=>lhs;rw [zl1];unfold zeQ
  unfold badX noS at hb
  (try dsimp only);(repeat' first | (with_reducible refine G_to ?_ ?_;focus (first | omega | (unfold fits;omega) | (unfold room;(try simp only [List.length_append,List.length_cons,List.length_nil]);omega))) | (with_reducible refine both_to ?_ ?_) | (with_reducible refine zfl ?_) | (with_reducible refine zfk ?_) | (with_reducible refine zh5 (fun _ => ?_) (fun _ => ?_)))<;>try (exfalso;omega)
  all_goals rfl
 have h3 : ¬ ∃ q∈a.2.2.2.1,badX a q:=fun h=>by obtain ⟨i,i0,i1,i2⟩:=zug.1 h;exact hh i i0 i1 i2
 rw [if_neg (show ¬ AOut a from fun h=>h.elim h1 (fun h=>h.elim h2 h3)),zl1];unfold zeQ
 rw [if_neg (by simp;omega)]
 refine zy6 (len:=(a.2.2.1.length:Int)) (bad:=fun t=>ix a.2.2.1 t<=ix a.2.2.1 (t - 1)) (lo:=1) (fun t t0 t1=>⟨fun hb => ?_,fun hb => ?_⟩) (fun t t0 t1 hh => ?_)
 ·rw [if_pos (show ztm a from .inl ⟨t,t0,t1,hb⟩),zl2];unfold zeR
  (try dsimp only);(repeat' first | (with_reducible refine G_to ?_ ?_;focus (first | omega | (unfold fits;omega) | (unfold room;(try simp only [List.length_append,List.length_cons,List.length_nil]);omega))) | (with_reducible refine both_to ?_ ?_) | (with_reducible refine zfl ?_) | (with_reducible refine zfk ?_) | (with_reducible refine zh5 (fun _ => ?_) (fun _ => ?_)))<;>try (exfalso;omega)
  all_goals rfl
 ·conv=>lhs;rw [zl2];unfold zeR
  (try dsimp only);(repeat' first | (with_reducible refine G_to ?_ ?_;focus (first | omega | (unfold fits;omega) | (unfold room;(try simp only [List.length_append,List.length_cons,List.length_nil]);omega))) | (with_reducible refine both_to ?_ ?_) | (with_reducible refine zfl ?_) | (with_reducible refine zfk ?_) | (with_reducible refine zh5 (fun _ => ?_) (fun _ => ?_)))<;>try (exfalso;omega)
  all_goals rfl
 have g1 : ¬ zu9 a.2.2.1:=fun ⟨i,i0,i1,i2⟩=>hh i i0 i1 i2
 rw [zl2];unfold zeR;rw [if_neg (by simp;omega)]
 refine zy6 (len:=(a.2.2.2.2.1.length:Int)) (bad:=fun t=>ix a.2.2.2.2.1 t<=ix a.2.2.2.2.1 (t - 1)) (lo:=1) (fun t t0 t1=>⟨fun hb => ?_,fun hb => ?_⟩) (fun t t0 t1 hh => ?_)
 ·rw [if_pos (show ztm a from .inr (.inl ⟨t,t0,t1,hb⟩)),zl3];unfold zeS
  (try dsimp only);(repeat' first | (with_reducible refine G_to ?_ ?_;focus (first | omega | (unfold fits;omega) | (unfold room;(try simp only [List.length_append,List.length_cons,List.length_nil]);omega))) | (with_reducible refine both_to ?_ ?_) | (with_reducible refine zfl ?_) | (with_reducible refine zfk ?_) | (with_reducible refine zh5 (fun _ => ?_) (fun _ => ?_)))<;>try (exfalso;omega)
  all_goals rfl
 ·conv=>lhs;rw [zl3];unfold zeS
  (try dsimp only);(repeat' first | (with_reducible refine G_to ?_ ?_;focus (first | omega | (unfold fits;omega) | (unfold room;(try simp only [List.length_append,List.length_cons,List.length_nil]);omega))) | (with_reducible refine both_to ?_ ?_) | (with_reducible refine zfl ?_) | (with_reducible refine zfk ?_) | (with_reducible refine zh5 (fun _ => ?_) (fun _ => ?_)))<;>try (exfalso;omega)
  all_goals rfl
 have g2 : ¬ zu9 a.2.2.2.2.1:=fun ⟨i,i0,i1,i2⟩=>hh i i0 i1 i2
 rw [zl3];unfold zeS;rw [if_neg (by simp;omega)]
 refine zy6 (len:=(a.2.2.2.1.length:Int)) (bad:=fun t => ¬ zd8 (ix a.2.2.2.1 (t - 1)) (ix a.2.2.2.1 t)) (lo:=1) (fun t t0 t1=>⟨fun hb => ?_,fun hb => ?_⟩) (fun t t0 t1 hh => ?_)
 ·rw [if_pos (show ztm a from .inr (.inr ⟨t,t0,t1,hb⟩)),zl4];unfold zeT;obtain ⟨v,hv,hv2⟩:=zrK (ix a.2.2.2.1 (t - 1)) (ix a.2.2.2.1 t);rw [if_pos (by simp;omega),zad (by unfold fits;omega),zad (by omega),zad (by omega)]
  refine zaH hv ?_
  rw [if_pos (by cases v;rfl;exact absurd (hv2.1 rfl) hb)]
 ·conv=>lhs;rw [zl4];unfold zeT
  obtain ⟨v,hv,hv2⟩:=zrK (ix a.2.2.2.1 (t - 1)) (ix a.2.2.2.1 t);rw [if_pos (by simp;omega),zad (by unfold fits;omega),zad (by omega),zad (by omega)]
  refine zaH hv ?_
  rw [if_neg (by rw [hv2.2 (Classical.byContradiction hb)];simp),zad (by unfold fits;omega)]
 ·rw [if_neg (show ¬ ztm a from fun h=>h.elim g1 (fun h=>h.elim g2 (fun ⟨i,i0,i1,i2⟩=>hh i i0 i1 i2))),zl4];unfold zeT
  rw [if_neg (by simp;omega)]
section
variable {a:Au}
theorem zrn {l:List Int} (hl:(l.length:Int) * 8<=140737488351232):zrm l=some l:=by
 unfold zrm;refine G_to (by unfold fits;omega) (G_to (by unfold mkOK;omega) ?_)
 simp
theorem zrl (h1:(a.2.2.1.length:Int) * 8<=140737488351232) (h2:(a.2.2.2.2.1.length:Int) * 8<=140737488351232) (h3:(a.2.2.2.1.length:Int) * 24<=140737488351232):zrk a=some a:=by
 unfold zrk;refine zaH (zrn h1) (zaH (zrn h2) ?_)
 exact G_to (by unfold room;simp;omega) rfl
theorem zrP (h1:(a.2.2.1.length:Int) * 8<=140737488351232) (h2:(a.2.2.2.2.1.length:Int) * 8<=140737488351232) (h3:(a.2.2.2.1.length:Int) * 24<=140737488351232):zkI a a=some true:=by
 have key:∀ (n:Nat) (i:Int),(a.2.2.2.1.length - i).toNat=n->0<=i->i<=a.2.2.2.1.length->zju a a i=some true:=by
  intro n
  induction n with
  | zero=>
   intro i hn i0 i1;rw [zmI];unfold zdN;rw [if_neg (by simp;omega)]
  | succ n ih=>
   intro i hn i0 i1;rw [zmI];unfold zdN;rw [if_pos (by simp;omega),zgK.2 rfl]
   exact G_to (by omega) (G_to (by omega) (G_to (by unfold fits;omega) (ih (i+1) (by omega) (by omega) (by omega))))
 unfold zkI;refine zaH (zrG (by omega)) (zaH (zrG (by omega)) ?_)
 rw [if_neg (by simp),if_neg (by simp),if_neg (by simp),if_neg (by simp),if_neg (by simp)]
 exact key _ 0 rfl (by omega) (by omega)
end
def lasE (letters:Int) (l:List Int×List Int×Unit):Int:=if mayE letters l.1=0 then (if mayE letters l.2.1=0 then (if l.2.1.length=0 then 1 else 0) else mayE letters l.2.1) else mayE letters l.1
theorem zwY {letters:Int} {l:List Int×List Int×Unit}:ztI letters l=some (lasE letters l):=by
 unfold ztI lasE;refine zaH zuF ?_
 by_cases h1:mayE letters l.1=0
 ·rw [if_pos h1,if_neg (by simp [h1])]
  refine zaH zuF ?_
  by_cases h2:mayE letters l.2.1=0
  ·rw [if_pos h2,if_neg (by simp [h2])]
   by_cases h3:l.2.1.length=0
   ·rw [if_pos (by simp [h3]),if_pos h3]
   ·rw [if_neg (by simp only [decide_eq_true_eq];omega),if_neg h3]
  ·rw [if_neg h2,if_pos (by simp [h2])]
 ·rw [if_neg h1,if_pos (by simp [h1])]
theorem zBv {letters:Int} {l:List Int×List Int×Unit} (h:lasE letters l=0):mayE letters l.1=0/\mayE letters l.2.1=0/\0 < l.2.1.length:=by
 unfold lasE at h;by_cases h1:mayE letters l.1=0
 ·rw [if_pos h1] at h;by_cases h2:mayE letters l.2.1=0
  ·rw [if_pos h2] at h;by_cases h3:l.2.1.length=0
   ·rw [if_pos h3] at h;omega
   ·exact ⟨h1,h2,by omega⟩
  ·rw [if_neg h2] at h;exact absurd h h2
 ·rw [if_neg h1] at h;exact absurd h h1
section
abbrev LsT:=List Int×List Int×Unit
def las (l:LsT) (t:Nat):Int:=if t < l.1.length then ix l.1 (t:Int) else ix l.2.1 (((t - l.1.length) % l.2.1.length:Nat):Int)
theorem zCt {l:LsT} (i:Nat) (h:i < l.1.length):ix l.1 (i:Int)=las l i:=by unfold las;rw [if_pos h]
theorem zCu {l:LsT} (i:Nat) (h:i < l.2.1.length):ix l.2.1 (i:Int)=las l (l.1.length+i):=by
 unfold las;rw [if_neg (by omega),show l.1.length+i - l.1.length=i by omega,Nat.mod_eq_of_lt h]
theorem zDz {l:LsT} (t:Nat) (h:l.1.length<=t):las l (t+l.2.1.length)=las l t:=by
 unfold las;rw [if_neg (by omega),if_neg (by omega),show t+l.2.1.length - l.1.length=(t - l.1.length)+l.2.1.length by omega,Nat.add_mod_right]
end
inductive Star {α:Type} (R:α->α->Prop):α->α->Prop
 | refl (x:α):Star R x x
 | tail {x y z:α}:Star R x y->R y z->Star R x z
theorem Star.trans {α:Type} {R:α->α->Prop} {x y z:α} (h:Star R x y) (k:Star R y z):Star R x z:=by
 induction k with
 | refl=>exact h
 | tail _ r ih=>exact ih.tail r
theorem Star.one {α:Type} {R:α->α->Prop} {x y:α} (h:R x y):Star R x y:=(Star.refl x).tail h
def StA (a:Au) (p x q:Int):Prop:=(p,x,q,())∈a.2.2.2.1
structure AuOk (a:Au):Prop where
 let1:1<=a.1/\a.1<=4
 n1:1<=a.2.1/\a.2.1<=300
 sl:(a.2.2.2.1.length:Int)<=40000
 sb:∀ x∈a.2.2.2.1,(0<=x.1/\x.1 < a.2.1)/\(0<=x.2.1/\x.2.1 < a.1)/\(0<=x.2.2.1/\x.2.2.1 < a.2.1)
 s:∀ q∈a.2.2.1,0<=q/\q < a.2.1
 f:∀ q∈a.2.2.2.2.1,0<=q/\q < a.2.1
 ls:(a.2.2.1.length:Int)<=300
 lf:(a.2.2.2.2.1.length:Int)<=300
theorem zzH {l:List Int} {n:Int} (hf : ¬ zu9 l) (hb:∀ q∈l,0<=q/\q < n) (n0:0<=n):(l.length:Int)<=n:=by
 have key:∀ (k:Nat),k < l.length->(k:Int)<=ix l k:=by
  intro k
  induction k with
  | zero=>intro h;exact (hb _ (zin (by omega) (by omega))).1
  | succ k ih=>
   intro h;have h1:=ih (by omega)
   have h2 : ¬ ix l ((k+1:Nat):Int)<=ix l (((k+1:Nat):Int) - 1):=fun hh=>hf ⟨((k+1:Nat):Int),by omega,by omega,hh⟩
   rw [show ((k+1:Nat):Int) - 1=(k:Int) by omega] at h2
   omega
 by_cases c:l.length=0
 ·omega
 ·have h1:=key (l.length - 1) (by omega)
  have h2:=(hb _ (zin (l:=l) (i:=((l.length - 1:Nat):Int)) (by omega) (by omega))).2
  omega
theorem zqW {a:Au} (h:autE a=0):AuOk a:=by
 unfold autE at h;by_cases c1:a.1 < 1\/4 < a.1
 ·rw [if_pos c1] at h;omega
 rw [if_neg c1] at h;by_cases c2:ztN a
 ·rw [if_pos c2] at h;omega
 rw [if_neg c2] at h;by_cases c3:AOut a
 ·rw [if_pos c3] at h;omega
 rw [if_neg c3] at h;by_cases c4:ztm a
 ·rw [if_pos c4] at h;omega
 unfold ztN at c2;unfold AOut at c3;unfold ztm at c4;have hs:∀ q∈a.2.2.1,0<=q/\q < a.2.1:=fun q hq=>by
  have : ¬ noS a q:=fun hh=>c3 (.inl ⟨q,hq,hh⟩)
  unfold noS at this;omega
 have hf:∀ q∈a.2.2.2.2.1,0<=q/\q < a.2.1:=fun q hq=>by
  have : ¬ noS a q:=fun hh=>c3 (.inr (.inl ⟨q,hq,hh⟩))
  unfold noS at this;omega
 have n1:1<=a.2.1/\a.2.1<=300:=by omega
 have ls:=zzH (fun hh=>c4 (.inl hh)) hs (by omega)
 have lf:=zzH (fun hh=>c4 (.inr (.inl hh))) hf (by omega)
 refine ⟨by omega,n1,by omega,fun x hx => ?_,hs,hf,by omega,by omega⟩
 have : ¬ badX a x:=fun hh=>c3 (.inr (.inr ⟨x,hx,hh⟩))
 unfold badX noS at this;omega
def Wt (a:Au) (u:Nat->Int):Nat->Nat->Int->Int->Prop
 | 0,_,p,q=>p=q
 | m+1,s,p,q=>∃ r,StA a p (u s) r/\Wt a u m (s+1) r q
def Wf (a:Au) (u:Nat->Int) (m s:Nat) (p q:Int):Prop:=∃ i f,i < m/\f∈a.2.2.2.2.1/\Wt a u i s p f/\Wt a u (m - i) (s+i) f q
section
variable {a:Au} {u:Nat->Int} {h len:Nat}
theorem Wt.add {k:Nat}:∀ {m s:Nat} {p q:Int},Wt a u (m+k) s p q↔∃ r,Wt a u m s p r/\Wt a u k (s+m) r q
 | 0,s,p,q=>by
  rw [Nat.zero_add];exact ⟨fun hh=>⟨p,rfl,hh⟩,fun ⟨r,h1,h2⟩=>by cases h1;exact h2⟩
 | m+1,s,p,q=>by
  rw [show m+1+k=(m+k)+1 by omega]
  have e:s+(m+1)=s+1+m:=by omega
  constructor
  ·rintro ⟨r,h1,h2⟩;obtain ⟨x,h3,h4⟩:=Wt.add.1 h2;exact ⟨x,⟨r,h1,h3⟩,by rw [e];exact h4⟩
  ·rintro ⟨x,⟨r,h1,h3⟩,h4⟩;rw [e] at h4;exact ⟨r,h1,Wt.add.2 ⟨x,h3,h4⟩⟩
theorem Wt.comp {m k s t:Nat} {p r q:Int} (h1:Wt a u m s p r) (h2:Wt a u k t r q) (e:t=s+m):Wt a u (m+k) s p q:=Wt.add.2 ⟨r,h1,e ▸ h2⟩
theorem Wt.snoc {m s:Nat} {p q:Int}:Wt a u (m+1) s p q↔∃ r,Wt a u m s p r/\StA a r (u (s+m)) q:=by
 rw [Wt.add];exact ⟨fun ⟨r,h1,x,h2,h3⟩=>⟨r,h1,by cases h3;exact h2⟩,fun ⟨r,h1,h2⟩=>⟨r,h1,q,h2,rfl⟩⟩
theorem Wt.shift (hu:∀ t,h<=t->u (t+len)=u t):∀ {m s:Nat} {p q:Int},h<=s->(Wt a u m (s+len) p q↔Wt a u m s p q)
 | 0,s,p,q,_=>Iff.rfl
 | m+1,s,p,q,hs=>by
  show (∃ r,StA a p (u (s+len)) r/\Wt a u m (s+len+1) r q)↔(∃ r,StA a p (u s) r/\Wt a u m (s+1) r q);rw [hu s hs,show s+len+1=s+1+len by omega]
  exact exists_congr fun r=>and_congr Iff.rfl (Wt.shift hu (by omega))
theorem Wt.shifts (hu:∀ t,h<=t->u (t+len)=u t) {m s:Nat} {p q:Int} (hs:h<=s):∀ k:Nat,(Wt a u m (s+k * len) p q↔Wt a u m s p q)
 | 0=>by rw [Nat.zero_mul];exact Iff.rfl
 | k+1=>by
  rw [Nat.succ_mul,<- Nat.add_assoc];exact (Wt.shift hu (by omega)).trans (Wt.shifts hu hs k)
def Rd (a:Au) (u:Nat->Int) (h len:Nat) (p q:Int):Prop:=Wt a u len h p q
def Rf (a:Au) (u:Nat->Int) (h len:Nat) (p q:Int):Prop:=Wf a u len h p q
theorem zu0 (hu:∀ t,h<=t->u (t+len)=u t) {p q:Int}:Star (Rd a u h len) p q↔∃ k,Wt a u (k * len) h p q:=by
 constructor
 ·intro hs
  induction hs with
  | refl=>exact ⟨0,by rw [Nat.zero_mul];rfl⟩
  | tail _ r ih=>
   obtain ⟨k,hk⟩:=ih;exact ⟨k+1,by rw [Nat.succ_mul];exact hk.comp ((Wt.shifts hu (Nat.le_refl h) k).2 r) rfl⟩
 ·rintro ⟨k,hk⟩
  induction k generalizing q with
  | zero=>rw [Nat.zero_mul] at hk;cases hk;exact .refl _
  | succ k ih=>
   rw [Nat.succ_mul] at hk;obtain ⟨r,h1,h2⟩:=Wt.add.1 hk;exact (ih h1).tail ((Wt.shifts hu (Nat.le_refl h) k).1 h2)
theorem Rf.rd {p q:Int} (hh:Rf a u h len p q):Rd a u h len p q:=by
 obtain ⟨i,f,hi,_,h1,h2⟩:=hh;have:=h1.comp h2 rfl
 rwa [show i+(len - i)=len by omega] at this
def zp8 (a:Au) (u:Nat->Int) (h len:Nat) (q:Int):Prop:=∃ x y,Star (Rd a u h len) q x/\Rf a u h len x y/\Star (Rd a u h len) y q
def FarP (a:Au) (u:Nat->Int) (h len:Nat) (q:Int):Prop:=∃ r,(∃ q0∈a.2.2.1,Wt a u h 0 q0 r)/\Star (Rd a u h len) r q
def RefA (a:Au) (u:Nat->Int) (h len:Nat):Prop:=∃ q,FarP a u h len q/\zp8 a u h len q
def zEd (a:Au) (u:Nat->Int) (h len:Nat):Prop:=∃ q0∈a.2.2.1,∃ s f,Wt a u s 0 q0 f/\f∈a.2.2.2.2.1/\h<=s/\∃ b,1<=b/\Wt a u (b * len) s f f
theorem zCF (hl:0 < len) (hu:∀ t,h<=t->u (t+len)=u t):RefA a u h len↔zEd a u h len:=by
 constructor
 ·rintro ⟨q,⟨r,⟨q0,hq0,h0⟩,hrq⟩,x,y,hqx,⟨i,f,hi,hf,hxf,hfy⟩,hyq⟩;obtain ⟨k1,h1⟩:=(zu0 hu).1 hrq;obtain ⟨k2,h2⟩:=(zu0 hu).1 hqx;obtain ⟨k3,h3⟩:=(zu0 hu).1 hyq;have g1:Wt a u (h+k1 * len) 0 q0 q:=h0.comp h1 (by omega)
  have g2:Wt a u (h+k1 * len+k2 * len) 0 q0 x:=g1.comp ((Wt.shifts hu (Nat.le_refl h) k1).2 h2) (by omega)
  have g3:Wt a u (h+k1 * len+k2 * len+i) 0 q0 f:=by
   refine g2.comp (t:=h+(k1+k2) * len) ((Wt.shifts hu (Nat.le_refl h) (k1+k2)).2 hxf) ?_
   rw [Nat.add_mul];omega
  refine ⟨q0,hq0,_,f,g3,hf,by omega,1+k3+k2,by omega,?_⟩
  have c1:Wt a u (len - i+k3 * len) (h+i) f q:=hfy.comp (t:=h+1 * len) ((Wt.shifts hu (Nat.le_refl h) 1).2 h3) (by omega)
  have c2:Wt a u (len - i+k3 * len+k2 * len) (h+i) f x:=by
   refine c1.comp (t:=h+(1+k3) * len) ((Wt.shifts hu (Nat.le_refl h) (1+k3)).2 h2) ?_
   rw [Nat.add_mul];omega
  have c3:Wt a u (len - i+k3 * len+k2 * len+i) (h+i) f f:=by
   refine c2.comp (t:=h+(1+k3+k2) * len) ((Wt.shifts hu (Nat.le_refl h) (1+k3+k2)).2 hxf) ?_
   rw [Nat.add_mul,Nat.add_mul];omega
  have c4:=(Wt.shifts hu (show h<=h+i by omega) (k1+k2)).2 c3
  rw [show len - i+k3 * len+k2 * len+i=(1+k3+k2) * len by rw [Nat.add_mul,Nat.add_mul];omega,show h+i+(k1+k2) * len=h+k1 * len+k2 * len+i by rw [Nat.add_mul];omega] at c4
  exact c4
 ·rintro ⟨q0,hq0,s,f,h0,hf,hs,b,hb,hc⟩;obtain ⟨c,d,hd,es⟩:∃ c d,d < len/\s=h+c * len+d:=⟨(s - h) / len,(s - h) % len,Nat.mod_lt _ hl,by
   have:=Nat.div_add_mod (s - h) len;rw [Nat.mul_comm] at this;omega⟩
  subst es;obtain ⟨x,hx,hxf⟩:=Wt.add.1 h0;obtain ⟨r,hr,hrx⟩:=Wt.add.1 hx;rw [Nat.zero_add] at hrx hxf;obtain ⟨b,rfl⟩:∃ b',b=b'+1:=⟨b - 1,by omega⟩
  rw [show (b+1) * len=(len - d)+(b * len+d) by rw [Nat.succ_mul];omega] at hc
  obtain ⟨y,hy1,hy2⟩:=Wt.add.1 hc;obtain ⟨z,hz1,hz2⟩:=Wt.add.1 hy2;have e1:h+c * len+d+(len - d)=h+(c+1) * len:=by rw [Nat.succ_mul];omega
  have e2:h+c * len+d+(len - d)+b * len=h+(c+1+b) * len:=by rw [e1,Nat.add_mul (c+1)];omega
  have w1:Wt a u d h x f:=(Wt.shifts hu (Nat.le_refl h) c).1 hxf;have w2:Wt a u (len - d) (h+d) f y:=by
   refine (Wt.shifts hu (show h<=h+d by omega) c).1 ?_
   rw [show h+d+c * len=h+c * len+d by omega];exact hy1
  have w3:Wt a u (b * len) h y z:=(Wt.shifts hu (Nat.le_refl h) (c+1)).1 (by rw [<- e1];exact hz1)
  have w4:Wt a u d h z f:=(Wt.shifts hu (Nat.le_refl h) (c+1+b)).1 (by rw [<- e2];exact hz2)
  have rf:∀ {v},Wt a u d h v f->Rf a u h len v y:=fun hv=>⟨d,f,hd,hf,hv,w2⟩
  exact ⟨y,⟨r,⟨q0,hq0,hr⟩,((zu0 hu).2 ⟨c,hrx⟩).tail (rf w1).rd⟩,z,y,(zu0 hu).2 ⟨b,w3⟩,rf w4,.refl y⟩
theorem StA.b (ha:AuOk a) {p x q:Int} (hh:StA a p x q):(0<=p/\p < a.2.1)/\(0<=q/\q < a.2.1):=⟨(ha.sb _ hh).1,(ha.sb _ hh).2.2⟩
theorem Wt.b (ha:AuOk a):∀ {m s:Nat} {p q:Int},Wt a u m s p q->0<=p->p < a.2.1->0<=q/\q < a.2.1
 | 0,_,_,_,h,p0,p1=>by cases h;exact ⟨p0,p1⟩
 | _+1,_,_,_,⟨_,h1,h2⟩,_,_=>Wt.b ha h2 (h1.b ha).2.1 (h1.b ha).2.2
def nots (P:Int->Bool):Nat->Nat
 | 0=>0
 | k+1=>nots P k+(if P (k:Int)=true then 0 else 1)
theorem zwL {P Q:Int->Bool}:∀ {n:Nat},(∀ k:Int,0<=k->k < n->P k=true->Q k=true)->nots Q n<=nots P n
 | 0,_=>Nat.le_refl _
 | n+1,hh=>by
  have h1:=zwL (n:=n) (fun k k0 k1=>hh k k0 (by omega))
  have h2:=hh n (by omega) (by omega)
  unfold nots;by_cases c:P (n:Int)=true
  ·rw [if_pos c,if_pos (h2 c)];exact h1
  ·rw [if_neg c];split<;>omega
theorem zwM {P Q:Int->Bool}:∀ {n:Nat},(∀ k:Int,0<=k->k < n->P k=true->Q k=true)->(∃ k:Int,0<=k/\k < n/\Q k=true /\ ¬ P k=true)->nots Q n < nots P n
 | 0,_,⟨k,k0,k1,_⟩=>by omega
 | n+1,hh,⟨k,k0,k1,hq,hp⟩=>by
  have h1:∀ k:Int,0<=k->k < n->P k=true->Q k=true:=fun k k0 k1=>hh k k0 (by omega)
  unfold nots;by_cases e:k=n
  ·subst e;rw [if_pos hq,if_neg hp];have:=zwL h1;omega
  ·have h2:=zwM h1 ⟨k,k0,by omega,hq,hp⟩
   have h3:=hh n (by omega) (by omega)
   by_cases c:P (n:Int)=true
   ·rw [if_pos c,if_pos (h3 c)];exact h2
   ·rw [if_neg c];split<;>omega
end
theorem zBQ {α:Type} [DecidableEq α]:∀ {l U:List α},l.Nodup->(∀ x∈l,x∈U)->l.length<=U.length
 | [],_,_,_=>Nat.zero_le _
 | a::l,U,hn,hs=>by
  have ha:=hs a (by simp)
  obtain ⟨h1,h2⟩:=List.nodup_cons.1 hn;have:=zBQ (U:=U.erase a) h2 (fun x hx=>(List.mem_erase_of_ne (by rintro rfl;exact h1 hx)).2 (hs x (by simp [hx])))
  rw [List.length_erase_of_mem ha] at this;have hp:0 < U.length:=List.length_pos_of_mem ha;rw [List.length_cons];omega
theorem zvY {l:List Int} {n:Nat} (h:l.Nodup) (hb:∀ x∈l,0<=x/\x < n):l.length<=n:=by
 have:=zBQ (U:=(List.range n).map Int.ofNat) h (fun x hx=>by
  have:=hb x hx;exact List.mem_map.2 ⟨x.toNat,List.mem_range.2 (by omega),by show ((x.toNat:Nat):Int)=x;omega⟩)
 simpa using this
section
variable {a:Au} {u:Nat->Int} {h len:Nat}
theorem ztZ (ha:AuOk a) {B:List Bool} (hB:(B.length:Int)=a.2.1) (x:Int):∃ o,zxN a B x=some o/\(o.length:Int)=a.2.1/\∀ q:Int,0<=q->q < a.2.1->(ix o q=true↔∃ p,ix B p=true/\StA a p x q):=by
 have hsl:=ha.sl;have hn:=ha.n1;have key:∀ (m:Nat) (i:Int) (o:List Bool),0<=i->i+m=a.2.2.2.1.length->(o.length:Int)=a.2.1->
   (∀ q:Int,0<=q->q < a.2.1->(ix o q=true↔∃ k:Int,0<=k/\k < i/\ix B (ix a.2.2.2.1 k).1=true/\(ix a.2.2.2.1 k).2.1=x/\(ix a.2.2.2.1 k).2.2.1=q))->
   ∃ o',zrN a B x i o=some o'/\(o'.length:Int)=a.2.1/\∀ q:Int,0<=q->q < a.2.1->(ix o' q=true↔∃ k:Int,0<=k/\k < a.2.2.2.1.length/\ix B (ix a.2.2.2.1 k).1=true/\(ix a.2.2.2.1 k).2.1=x/\(ix a.2.2.2.1 k).2.2.1=q):=by
  intro m
  induction m with
  | zero=>
   intro i o i0 hi ho hq;refine ⟨o,?_,ho,fun q q0 q1 => ?_⟩
   ·rw [zuR];unfold zkl;rw [if_neg (by simp only [decide_eq_true_eq];omega)]
   ·rw [hq q q0 q1,show i=(a.2.2.2.1.length:Int) by omega]
  | succ m ih=>
   intro i o i0 hi ho hq;have hb:=ha.sb _ (zin i0 (by omega:i < a.2.2.2.1.length))
   have old:∀ (t:Bool),(t=true↔ix B (ix a.2.2.2.1 i).1=true/\(ix a.2.2.2.1 i).2.1=x)->∃ o',zoi a i o (zrN a B x) t=some o'/\(o'.length:Int)=a.2.1/\∀ q:Int,0<=q->q < a.2.1->(ix o' q=true↔∃ k:Int,0<=k/\k < a.2.2.2.1.length/\ix B (ix a.2.2.2.1 k).1=true/\(ix a.2.2.2.1 k).2.1=x/\(ix a.2.2.2.1 k).2.2.1=q):=by
    intro t ht;unfold zoi
    cases t with
    | true=>
     have ht:=ht.1 rfl;rw [if_pos rfl,zad (by omega),zad (by omega),zad (by unfold fits;omega)]
     refine ih (i+1) _ (by omega) (by omega) (by rw [List.length_set];exact ho) (fun q q0 q1 => ?_)
     by_cases e:(ix a.2.2.2.1 i).2.2.1=q
     ·rw [e,ziK q0 (by omega)]
      exact ⟨fun _=>⟨i,i0,by omega,ht.1,ht.2,e⟩,fun _=>rfl⟩
     ·rw [zf7 (by omega) q0 e,hq q q0 q1]
      constructor
      ·rintro ⟨k,k0,k1,k2⟩;exact ⟨k,k0,by omega,k2⟩
      ·rintro ⟨k,k0,k1,k2⟩;by_cases ek:k=i
       ·rw [ek] at k2;exact absurd k2.2.2 e
       ·exact ⟨k,k0,by omega,k2⟩
    | false=>
     rw [if_neg (by decide),zad (by unfold fits;omega)]
     refine ih (i+1) o (by omega) (by omega) ho (fun q q0 q1 => ?_)
     rw [hq q q0 q1];constructor
     ·rintro ⟨k,k0,k1,k2⟩;exact ⟨k,k0,by omega,k2⟩
     ·rintro ⟨k,k0,k1,k2⟩;by_cases ek:k=i
      ·rw [ek] at k2;have:=ht.2 ⟨k2.1,k2.2.1⟩;cases this
      ·exact ⟨k,k0,by omega,k2⟩
   rw [zuR];unfold zkl;rw [if_pos (decide_eq_true (by omega)),zad (by omega)]
   by_cases c:(ix a.2.2.2.1 i).2.1=x
   ·rw [if_pos (decide_eq_true c),zad (by omega)]
    exact old _ (by simp [c])
   ·rw [if_neg (by simpa using c)]
    exact old false (by simp [c])
 obtain ⟨o,e,h1,h2⟩:=key a.2.2.2.1.length 0 (List.replicate a.2.1.toNat false) (by omega) (by omega) (by rw [List.length_replicate];omega) (fun q q0 q1=>by
  rw [zkH q0 (by omega)]
  exact ⟨fun hh=>(by cases hh),fun ⟨k,k0,k1,_⟩=>by omega⟩)
 refine ⟨o,by unfold zxN;rw [zad (by unfold mkOK;omega)];exact e,h1,fun q q0 q1=>(h2 q q0 q1).trans ⟨?_,?_⟩⟩
 ·rintro ⟨k,k0,k1,k2,k3,k4⟩;have hm:=zin k0 k1;exact ⟨_,k2,by unfold StA;rw [<- k3,<- k4];exact hm⟩
 ·rintro ⟨p,hp,hs⟩;obtain ⟨k,k0,k1,e⟩:=(zug (P:=fun y=>y=(p,x,q,()))).1 ⟨_,hs,rfl⟩
  exact ⟨k,k0,k1,by rw [e];exact hp,by rw [e],by rw [e]⟩
theorem Wf.snoc {m s:Nat} {p q:Int}:Wf a u (m+1) s p q↔∃ r,(Wf a u m s p r\/(Wt a u m s p r/\r∈a.2.2.2.2.1))/\StA a r (u (s+m)) q:=by
 constructor
 ·rintro ⟨i,f,hi,hf,h1,h2⟩;by_cases c:i=m
  ·subst c;rw [show i+1 - i=0+1 by omega] at h2
   obtain ⟨r,h3,h4⟩:=Wt.snoc.1 h2
   cases h3;exact ⟨f,.inr ⟨h1,hf⟩,by rw [show s+i+0=s+i by omega] at h4;exact h4⟩
  ·rw [show m+1 - i=(m - i)+1 by omega] at h2
   obtain ⟨r,h3,h4⟩:=Wt.snoc.1 h2;exact ⟨r,.inl ⟨i,f,by omega,hf,h1,h3⟩,by rw [show s+i+(m - i)=s+m by omega] at h4;exact h4⟩
 ·rintro ⟨r,⟨i,f,hi,hf,h1,h2⟩ | ⟨h1,hf⟩,h3⟩
  ·refine ⟨i,f,by omega,hf,h1,?_⟩
   rw [show m+1 - i=(m - i)+1 by omega]
   exact Wt.snoc.2 ⟨r,h2,by rw [show s+i+(m - i)=s+m by omega];exact h3⟩
  ·refine ⟨m,r,by omega,hf,h1,?_⟩
   rw [show m+1 - m=0+1 by omega]
   exact ⟨q,h3,rfl⟩
def FinB (a:Au) (F:List Bool):Prop:=(F.length:Int)=a.2.1/\∀ q:Int,0<=q->q < a.2.1->(ix F q=true↔q∈a.2.2.2.2.1)
abbrev RB:=Bool->List Bool->List Bool->Option Bool
theorem zC3 (ha:AuOk a) {L F:List Bool} {loop:List Int} {i:Int} (hF:FinB a F) {p:List Bool} (hp:(p.length:Int)=a.2.1) {r10:Int->List Bool->List Bool->Option Bool} (i0:0<=i) (i1:i < loop.length) (hlen:loop.length<=1000):
  ∀ (m:Nat) (k:Int) (g:List Bool),0<=k->k+m=a.2.1->(g.length:Int)=a.2.1->∃ p' g',zeU a loop F i p r10 k g=r10 (i+1) p' g'/\(p'.length:Int)=a.2.1/\(g'.length:Int)=a.2.1/\
   (∀ q:Int,0<=q->q < a.2.1->(ix p' q=true↔∃ r,ix p r=true/\StA a r (ix loop i) q))/\
   (∀ q:Int,0<=q->q < a.2.1->(ix g' q=true↔∃ r,(ix g r=true\/(k<=r/\ix p r=true/\r∈a.2.2.2.2.1))/\StA a r (ix loop i) q)):=by
 have hn:=ha.n1;have ea:(a.1,a.2.1,a.2.2.1,a.2.2.2.1,a.2.2.2.2.1,())=a:=rfl;intro m
 induction m with
 | zero=>
  intro k g k0 hk hg;obtain ⟨p',e1,l1,s1⟩:=ztZ ha hp (ix loop i);obtain ⟨g',e2,l2,s2⟩:=ztZ ha hg (ix loop i);refine ⟨p',g',?_,l1,l2,s1,fun q q0 q1=>(s2 q q0 q1).trans (exists_congr fun r => ?_)⟩
  ·rw [zjA];unfold zd1;rw [if_neg (by simp only [decide_eq_true_eq];omega),zad (by omega),ea]
   refine zaH e1 ?_
   rw [zad (by omega)]
   refine zaH e2 ?_
   rw [zad (by unfold fits;omega)]
  ·constructor
   ·rintro ⟨h1,h2⟩;exact ⟨.inl h1,h2⟩
   ·rintro ⟨h1 | ⟨h1,_,_⟩,h2⟩
    ·exact ⟨h1,h2⟩
    ·have:=(h2.b ha).1;omega
 | succ m ih=>
  intro k g k0 hk hg;have fin:∀ (b:Bool),(b=true↔ix g k=true\/(ix p k=true/\k∈a.2.2.2.2.1))->zeU a loop F i p r10 k g=zeU a loop F i p r10 (k+1) (g.set k.toNat b)->∃ p' g',zeU a loop F i p r10 k g=r10 (i+1) p' g'/\(p'.length:Int)=a.2.1/\(g'.length:Int)=a.2.1/\
   (∀ q:Int,0<=q->q < a.2.1->(ix p' q=true↔∃ r,ix p r=true/\StA a r (ix loop i) q))/\
   (∀ q:Int,0<=q->q < a.2.1->(ix g' q=true↔∃ r,(ix g r=true\/(k<=r/\ix p r=true/\r∈a.2.2.2.2.1))/\StA a r (ix loop i) q)):=by
   intro b hb e;obtain ⟨p',g',e',l1,l2,s1,s2⟩:=ih (k+1) (g.set k.toNat b) (by omega) (by omega) (by rw [List.length_set];exact hg)
   refine ⟨p',g',e.trans e',l1,l2,s1,fun q q0 q1=>(s2 q q0 q1).trans (exists_congr fun r => ?_)⟩
   refine and_congr_left fun hs => ?_
   have hr:=(hs.b ha).1;by_cases er:r=k
   ·subst er;rw [ziK k0 (by omega),hb]
    constructor
    ·rintro (h1 | ⟨h1,_⟩)
     ·exact h1.imp id (fun h=>⟨Int.le_refl _,h⟩)
     ·omega
    ·rintro (h1 | ⟨_,h1⟩)
     ·exact .inl (.inl h1)
     ·exact .inl (.inr h1)
   ·rw [zf7 k0 hr.1 (fun hh=>er hh.symm)]
    exact or_congr Iff.rfl (and_congr (by omega) Iff.rfl)
  by_cases c:ix g k=true
  ·refine fin true (by simp [c]) ?_
   conv=>lhs;rw [zjA];unfold zd1
   rw [if_pos (decide_eq_true (by omega)),zad (by omega),zad (by omega),if_pos c,zad (by omega),zad (by omega),zad (by unfold fits;omega)]
  ·by_cases c2:ix p k=true
   ·refine fin (ix F k) (by rw [hF.2 k k0 (by omega)];simp [c,c2]) ?_
    have:=hF.1
    conv=>lhs;rw [zjA];unfold zd1
    rw [if_pos (decide_eq_true (by omega)),zad (by omega),zad (by omega),if_neg c,zad (by omega),zad (by omega),if_pos c2,zad (by omega),zad (by omega),zad (by omega),zad (by unfold fits;omega)]
   ·refine fin false (by simp [c,c2]) ?_
    conv=>lhs;rw [zjA];unfold zd1
    rw [if_pos (decide_eq_true (by omega)),zad (by omega),zad (by omega),if_neg c,zad (by omega),zad (by omega),if_neg c2,zad (by omega),zad (by omega),zad (by unfold fits;omega)]
theorem zC6 (ha:AuOk a) {p g:List Bool} (hp:(p.length:Int)=a.2.1) (hg:(g.length:Int)=a.2.1) {r5:RB}:∀ (m:Nat) (k:Int) (ag:Bool) (P Q:List Bool),0<=k->k+m=a.2.1->(P.length:Int)=a.2.1->(Q.length:Int)=a.2.1->
  ∃ ag' P' Q',zct a r5 p g ag k P Q=r5 ag' P' Q'/\(P'.length:Int)=a.2.1/\(Q'.length:Int)=a.2.1/\
   (∀ q:Int,0<=q->q < a.2.1->(ix P' q=true↔ix P q=true\/(k<=q/\ix p q=true)))/\(∀ q:Int,0<=q->q < a.2.1->(ix Q' q=true↔ix Q q=true\/(k<=q/\ix g q=true)))/\
   (ag'=true↔ag=true\/∃ q:Int,k<=q/\q < a.2.1/\((ix p q=true /\ ¬ ix P q=true)\/(ix g q=true /\ ¬ ix Q q=true))):=by
 have hn:=ha.n1;intro m
 induction m with
 | zero=>
  intro k ag P Q k0 hk hP hQ;refine ⟨ag,P,Q,?_,hP,hQ,fun q q0 q1 => ?_,fun q q0 q1 => ?_,?_⟩
  ·rw [ze5];unfold zcy;rw [if_neg (by simp only [decide_eq_true_eq];omega)]
  ·exact ⟨.inl,fun hh=>hh.elim id (fun hh=>by omega)⟩
  ·exact ⟨.inl,fun hh=>hh.elim id (fun hh=>by omega)⟩
  ·exact ⟨.inl,fun hh=>hh.elim id (fun ⟨q,h1,h2,_⟩=>by omega)⟩
 | succ m ih=>
  intro k ag P Q k0 hk hP hQ;have J24:∀ ag2 P2,zhI g k Q (zct a r5 p g) ag2 P2=zct a r5 p g ag2 (k+1) P2 (Q.set k.toNat (ix Q k || ix g k)):=by
   intro ag2 P2;unfold zhI;rw [zad (by omega),zad (by omega)]
   by_cases c:ix Q k=true
   ·rw [if_pos c,zad (by omega),zad (by omega),zad (by unfold fits;omega),c];rfl
   ·rw [if_neg c,zad (by omega),zad (by omega),zad (by omega),zad (by omega),zad (by unfold fits;omega),Bool.eq_false_iff.2 c];rfl
  have J23:∀ ag2,zdn p g k P Q (zct a r5 p g) ag2=zct a r5 p g ag2 (k+1) (P.set k.toNat (ix P k || ix p k)) (Q.set k.toNat (ix Q k || ix g k)):=by
   intro ag2;unfold zdn;rw [zad (by omega),zad (by omega)]
   by_cases c:ix P k=true
   ·rw [if_pos c,zad (by omega),zad (by omega),J24,c];rfl
   ·rw [if_neg c,zad (by omega),zad (by omega),zad (by omega),zad (by omega),J24,Bool.eq_false_iff.2 c];rfl
  obtain ⟨ag2,hag2,e⟩:∃ ag2,(ag2=true↔ag=true\/(ix p k=true /\ ¬ ix P k=true)\/(ix g k=true /\ ¬ ix Q k=true))/\zct a r5 p g ag k P Q=zdn p g k P Q (zct a r5 p g) ag2:=by
   by_cases c0:ag=true
   ·refine ⟨true,by simp [c0],?_⟩
    rw [ze5];unfold zcy;rw [if_pos (decide_eq_true (by omega)),if_pos c0]
   by_cases c1:ix p k=true
   ·by_cases c2:ix P k=true
    ·by_cases c3:ix g k=true
     ·refine ⟨!(ix Q k),by simp [c0,c2,c3],?_⟩
      rw [ze5];unfold zcy;rw [if_pos (decide_eq_true (by omega)),if_neg c0,zad (by omega),zad (by omega),if_pos c1,zad (by omega),zad (by omega),if_neg (by simp [c2]),zad (by omega),zad (by omega),if_pos c3,zad (by omega),zad (by omega)]
     ·refine ⟨false,by simp [c0,c2,c3],?_⟩
      rw [ze5];unfold zcy;rw [if_pos (decide_eq_true (by omega)),if_neg c0,zad (by omega),zad (by omega),if_pos c1,zad (by omega),zad (by omega),if_neg (by simp [c2]),zad (by omega),zad (by omega),if_neg c3]
    ·refine ⟨true,by simp [c1,c2],?_⟩
     rw [ze5];unfold zcy;rw [if_pos (decide_eq_true (by omega)),if_neg c0,zad (by omega),zad (by omega),if_pos c1,zad (by omega),zad (by omega),if_pos (by simp [c2])]
   ·by_cases c3:ix g k=true
    ·refine ⟨!(ix Q k),by simp [c0,c1,c3],?_⟩
     rw [ze5];unfold zcy;rw [if_pos (decide_eq_true (by omega)),if_neg c0,zad (by omega),zad (by omega),if_neg c1,zad (by omega),zad (by omega),if_pos c3,zad (by omega),zad (by omega)]
    ·refine ⟨false,by simp [c0,c1,c3],?_⟩
     rw [ze5];unfold zcy;rw [if_pos (decide_eq_true (by omega)),if_neg c0,zad (by omega),zad (by omega),if_neg c1,zad (by omega),zad (by omega),if_neg c3]
  obtain ⟨ag',P',Q',e',l1,l2,s1,s2,s3⟩:=ih (k+1) ag2 (P.set k.toNat (ix P k || ix p k)) (Q.set k.toNat (ix Q k || ix g k)) (by omega) (by omega) (by rw [List.length_set];exact hP) (by rw [List.length_set];exact hQ)
  have st:∀ (P p:List Bool),(P.length:Int)=a.2.1->∀ q:Int,0<=q->(ix (P.set k.toNat (ix P k || ix p k)) q=true\/(k+1<=q/\ix p q=true)↔ix P q=true\/(k<=q/\ix p q=true)):=by
   intro P p hP q q0;by_cases eq:q=k
   ·subst eq;rw [ziK k0 (by omega),Bool.or_eq_true]
    constructor
    ·rintro ((h1 | h1) | ⟨h1,_⟩)
     ·exact .inl h1
     ·exact .inr ⟨Int.le_refl _,h1⟩
     ·omega
    ·rintro (h1 | ⟨_,h1⟩)
     ·exact .inl (.inl h1)
     ·exact .inl (.inr h1)
   ·rw [zf7 k0 q0 (fun hh=>eq hh.symm)]
    exact or_congr Iff.rfl (and_congr (by omega) Iff.rfl)
  refine ⟨ag',P',Q',by rw [e,J23];exact e',l1,l2,fun q q0 q1=>(s1 q q0 q1).trans (st P p hP q q0),fun q q0 q1=>(s2 q q0 q1).trans (st Q g hQ q q0),?_⟩
  rw [s3,hag2];constructor
  ·rintro ((h1 | h1) | ⟨q,h1,h2,h3⟩)
   ·exact .inl h1
   ·exact .inr ⟨k,Int.le_refl _,by omega,h1⟩
   ·rw [zf7 k0 (by omega) (by omega),zf7 k0 (by omega) (by omega)] at h3
    exact .inr ⟨q,by omega,h2,h3⟩
  ·rintro (h1 | ⟨q,h1,h2,h3⟩)
   ·exact .inl (.inl h1)
   ·by_cases eq:q=k
    ·rw [eq] at h3;exact .inl (.inr h3)
    ·refine .inr ⟨q,by omega,h2,?_⟩
     rw [zf7 k0 (by omega) (by omega),zf7 k0 (by omega) (by omega)]
     exact h3
end
section
variable {a:Au} {u:Nat->Int} {h len:Nat}
def Ms (a:Au) (B:List Bool) (x:Int):Prop:=(0<=x/\x < a.2.1)/\ix B x=true
structure RInv (a:Au) (u:Nat->Int) (h:Nat) (P Q:List Bool) (i:Nat) (p g:List Bool):Prop where
 lp:(p.length:Int)=a.2.1
 lg:(g.length:Int)=a.2.1
 p:∀ q:Int,0<=q->q < a.2.1->(ix p q=true↔∃ x,Ms a P x/\Wt a u i h x q)
 g:∀ q:Int,0<=q->q < a.2.1->(ix g q=true↔(∃ x,Ms a Q x/\Wt a u i h x q)\/∃ x,Ms a P x/\Wf a u i h x q)
theorem zC1 (ha:AuOk a) {F:List Bool} (hF:FinB a F) {loop:List Int} (hlen:loop.length<=1000) (hL:loop.length=len) (hw:∀ i:Nat,i < len->ix loop (i:Int)=u (h+i)) {q:Int} (q0:0<=q) (q1:q < a.2.1) {P Q:List Bool} {r5:RB}:
  ∀ (m i:Nat) (p g:List Bool),i+m=len->RInv a u h P Q i p g->∃ p' g',zgr a loop F q P Q r5 (i:Int) p g=(if ix g' q=true then some true else zct a r5 p' g' false 0 P Q)/\RInv a u h P Q len p' g':=by
 intro m
 induction m with
 | zero=>
  intro i p g hi hr;have:i=len:=by omega
  subst this;have:=hr.lg;refine ⟨p,g,?_,hr⟩
  rw [zpB];unfold zfH;rw [if_neg (by simp only [decide_eq_true_eq];omega),zad (by omega),zad (by omega)]
 | succ m ih=>
  intro i p g hi hr;have hn:=ha.n1;obtain ⟨p1,g1,e1,l1,l2,s1,s2⟩:=zC3 ha (L:=p) (i:=(i:Int)) hF hr.lp (loop:=loop) (r10:=zgr a loop F q P Q r5) (by omega) (by omega) hlen a.2.1.toNat 0 g (by omega) (by omega) hr.lg
  have hwi:=hw i (by omega)
  have hr1:RInv a u h P Q (i+1) p1 g1:=by
   refine ⟨l1,l2,fun y y0 y1 => ?_,fun y y0 y1 => ?_⟩
   ·rw [s1 y y0 y1,hwi];constructor
    ·rintro ⟨r,h1,h2⟩;have hb:=(h2.b ha).1;obtain ⟨x,hx,hxr⟩:=(hr.p r hb.1 hb.2).1 h1;exact ⟨x,hx,Wt.snoc.2 ⟨r,hxr,h2⟩⟩
    ·rintro ⟨x,hx,h1⟩;obtain ⟨r,h2,h3⟩:=Wt.snoc.1 h1;have hb:=(h3.b ha).1;exact ⟨r,(hr.p r hb.1 hb.2).2 ⟨x,hx,h2⟩,h3⟩
   ·rw [s2 y y0 y1,hwi];constructor
    ·rintro ⟨r,h1,h2⟩;have hb:=(h2.b ha).1;rcases h1 with h1 | ⟨_,h1,hf⟩
     ·rcases (hr.g r hb.1 hb.2).1 h1 with ⟨x,hx,hxr⟩ | ⟨x,hx,hxr⟩
      ·exact .inl ⟨x,hx,Wt.snoc.2 ⟨r,hxr,h2⟩⟩
      ·exact .inr ⟨x,hx,Wf.snoc.2 ⟨r,.inl hxr,h2⟩⟩
     ·obtain ⟨x,hx,hxr⟩:=(hr.p r hb.1 hb.2).1 h1;exact .inr ⟨x,hx,Wf.snoc.2 ⟨r,.inr ⟨hxr,hf⟩,h2⟩⟩
    ·rintro (⟨x,hx,h1⟩ | ⟨x,hx,h1⟩)
     ·obtain ⟨r,h2,h3⟩:=Wt.snoc.1 h1;have hb:=(h3.b ha).1;exact ⟨r,.inl ((hr.g r hb.1 hb.2).2 (.inl ⟨x,hx,h2⟩)),h3⟩
     ·obtain ⟨r,h2,h3⟩:=Wf.snoc.1 h1;have hb:=(h3.b ha).1;rcases h2 with h2 | ⟨h2,hf⟩
      ·exact ⟨r,.inl ((hr.g r hb.1 hb.2).2 (.inr ⟨x,hx,h2⟩)),h3⟩
      ·exact ⟨r,.inr ⟨hb.1,(hr.p r hb.1 hb.2).2 ⟨x,hx,h2⟩,hf⟩,h3⟩
  obtain ⟨p',g',e',h'⟩:=ih (i+1) p1 g1 (by omega) hr1
  refine ⟨p',g',?_,h'⟩
  rw [<- e',zpB];unfold zfH;rw [if_pos (decide_eq_true (by omega)),e1]
  rfl
theorem Ms.b {B:List Bool} {x:Int} (h:Ms a B x):0<=x/\x < a.2.1:=h.1
open Classical in
theorem zEc (ha:AuOk a) {F:List Bool} (hF:FinB a F) {loop:List Int} (hlen:loop.length<=1000) (hL:loop.length=len) (hw:∀ i:Nat,i < len->ix loop (i:Int)=u (h+i)) {q:Int} (q0:0<=q) (q1:q < a.2.1):
  ∀ (f:Nat) (P Q:List Bool),nots (ix P) a.2.1.toNat+nots (ix Q) a.2.1.toNat=f->(P.length:Int)=a.2.1->(Q.length:Int)=a.2.1->ix P q=true->(∀ k,Ms a P k->Star (Rd a u h len) q k)->
   (∀ k,Ms a Q k->∃ x y,Star (Rd a u h len) q x/\Rf a u h len x y/\Star (Rd a u h len) y k)->zhK a loop F q true P Q=some (decide (zp8 a u h len q)):=by
 intro f
 induction f using Nat.strongRecOn with
 | _ f ih=>
 intro P Q hf hP hQ hPq iP iQ;have hn:=ha.n1;have start:RInv a u h P Q 0 P Q:=by
  refine ⟨hP,hQ,fun y y0 y1 => ?_,fun y y0 y1 => ?_⟩
  ·exact ⟨fun hh=>⟨y,⟨⟨y0,y1⟩,hh⟩,rfl⟩,fun ⟨x,hx,e⟩=>by cases e;exact hx.2⟩
  ·refine ⟨fun hh => .inl ⟨y,⟨⟨y0,y1⟩,hh⟩,rfl⟩,?_⟩
   rintro (⟨x,hx,e⟩ | ⟨x,hx,i,f,hi,_⟩)
   ·cases e;exact hx.2
   ·omega
 obtain ⟨p,g,e1,hr⟩:=zC1 ha hF hlen hL hw q0 q1 (P:=P) (Q:=Q) (r5:=zhK a loop F q) len 0 P Q (by omega) start
 have e0:zhK a loop F q true P Q=(if ix g q=true then some true else zct a (zhK a loop F q) p g false 0 P Q):=by
  rw [zqw];unfold zgN;rw [if_pos rfl,zad (by unfold room;simp;omega),zad (by unfold room;simp;omega),List.nil_append,List.nil_append]
  exact e1
 have sg:∀ y,0<=y->y < a.2.1->ix g y=true->∃ x z,Star (Rd a u h len) q x/\Rf a u h len x z/\Star (Rd a u h len) z y:=by
  intro y y0 y1 hy;rcases (hr.g y y0 y1).1 hy with ⟨x,hx,hxy⟩ | ⟨x,hx,hxy⟩
  ·obtain ⟨v,z,h1,h2,h3⟩:=iQ x hx;exact ⟨v,z,h1,h2,h3.tail hxy⟩
  ·exact ⟨x,y,iP x hx,hxy,.refl y⟩
 rw [e0];by_cases c:ix g q=true
 ·rw [if_pos c,decide_eq_true (show zp8 a u h len q from sg q q0 q1 c)]
 ·rw [if_neg c];obtain ⟨ag,P',Q',e2,l1,l2,s1,s2,s3⟩:=zC6 ha hr.lp hr.lg (r5:=zhK a loop F q) a.2.1.toNat 0 false P Q (by omega) (by omega) hP hQ
  rw [e2]
  cases ag with
  | true=>
   have h3:=s3.1 rfl;have mP:∀ k:Int,0<=k->k < (a.2.1.toNat:Int)->ix P k=true->ix P' k=true:=fun k k0 k1 hk=>(s1 k k0 (by omega)).2 (.inl hk)
   have mQ:∀ k:Int,0<=k->k < (a.2.1.toNat:Int)->ix Q k=true->ix Q' k=true:=fun k k0 k1 hk=>(s2 k k0 (by omega)).2 (.inl hk)
   have hlt:nots (ix P') a.2.1.toNat+nots (ix Q') a.2.1.toNat < f:=by
    rcases h3 with h3 | ⟨k,k0,k1,h3 | h3⟩
    ·cases h3
    ·have:=zwM mP ⟨k,k0,by omega,(s1 k k0 k1).2 (.inr ⟨k0,h3.1⟩),h3.2⟩
     have:=zwL mQ;omega
    ·have:=zwM mQ ⟨k,k0,by omega,(s2 k k0 k1).2 (.inr ⟨k0,h3.1⟩),h3.2⟩
     have:=zwL mP;omega
   refine ih _ hlt P' Q' rfl l1 l2 ((s1 q q0 q1).2 (.inl hPq)) (fun k hk => ?_) (fun k hk => ?_)
   ·rcases (s1 k hk.1.1 hk.1.2).1 hk.2 with h4 | ⟨_,h4⟩
    ·exact iP k ⟨hk.1,h4⟩
    ·obtain ⟨x,hx,hxk⟩:=(hr.p k hk.1.1 hk.1.2).1 h4;exact (iP x hx).tail hxk
   ·rcases (s2 k hk.1.1 hk.1.2).1 hk.2 with h4 | ⟨_,h4⟩
    ·exact iQ k ⟨hk.1,h4⟩
    ·exact sg k hk.1.1 hk.1.2 h4
  | false=>
   have hno:∀ k:Int,0<=k->k < a.2.1->(ix p k=true->ix P k=true)/\(ix g k=true->ix Q k=true):=fun k k0 k1=>by
    constructor
    ·intro h1;by_cases h2:ix P k=true
     ·exact h2
     ·have:=s3.2 (.inr ⟨k,k0,k1,.inl ⟨h1,h2⟩⟩);cases this
    ·intro h1;by_cases h2:ix Q k=true
     ·exact h2
     ·have:=s3.2 (.inr ⟨k,k0,k1,.inr ⟨h1,h2⟩⟩);cases this
   have hnr : ¬ zp8 a u h len q:=by
    rintro ⟨x,y,h1,h2,h3⟩;have inP:∀ x,Star (Rd a u h len) q x->Ms a P x:=by
     intro x hx
     induction hx with
     | refl=>exact ⟨⟨q0,q1⟩,hPq⟩
     | tail _ r ih=>
      have hb:=Wt.b ha r ih.1.1 ih.1.2;exact ⟨hb,(hno _ hb.1 hb.2).1 ((hr.p _ hb.1 hb.2).2 ⟨_,ih,r⟩)⟩
    have hx:=inP x h1;have hyb:=Wt.b ha h2.rd hx.1.1 hx.1.2;have hyg:=(hr.g y hyb.1 hyb.2).2 (.inr ⟨x,hx,h2⟩);have inG:∀ z,Star (Rd a u h len) y z->(0<=z/\z < a.2.1)/\ix g z=true:=by
     intro z hz
     induction hz with
     | refl=>exact ⟨hyb,hyg⟩
     | tail _ r ih=>
      have hb:=Wt.b ha r ih.1.1 ih.1.2;exact ⟨hb,(hr.g _ hb.1 hb.2).2 (.inl ⟨_,⟨ih.1,(hno _ ih.1.1 ih.1.2).2 ih.2⟩,r⟩)⟩
    exact c (inG q h3).2
   rw [decide_eq_false hnr,zqw];unfold zgN;rw [if_neg (by decide)]
open Classical in
theorem zAF (ha:AuOk a) {F:List Bool} (hF:FinB a F) {loop:List Int} (hlen:loop.length<=1000) (hL:loop.length=len) (hw:∀ i:Nat,i < len->ix loop (i:Int)=u (h+i)) {q:Int} (q0:0<=q) (q1:q < a.2.1):ztK a loop F q=some (decide (zp8 a u h len q)):=by
 have hn:=ha.n1;have hl:((List.replicate a.2.1.toNat false).length:Int)=a.2.1:=by rw [List.length_replicate];omega
 unfold ztK;rw [zad (by unfold mkOK;omega),zad (by unfold mkOK;omega),zad (by omega),zad (by omega)]
 refine zEc ha hF hlen hL hw q0 q1 _ _ _ rfl (by rw [List.length_set];exact hl) hl (ziK q0 (by omega)) (fun k hk => ?_) (fun k hk => ?_)
 ·by_cases e:k=q
  ·rw [e];exact .refl _
  ·have:=hk.2;rw [zf7 q0 hk.1.1 (fun hh=>e hh.symm),zkH hk.1.1 (by have:=hk.1.2;omega)] at this
   cases this
 ·have:=hk.2;rw [zkH hk.1.1 (by have:=hk.1.2;omega)] at this
  cases this
end
section
variable {a:Au} {u:Nat->Int} {h len:Nat} {l:List Int×List Int×Unit}
theorem zC5 (ha:AuOk a) {N:List Bool} (hN:(N.length:Int)=a.2.1) {r11:Bool->List Bool->Option Bool}:∀ (m:Nat) (k:Int) (ag:Bool) (P:List Bool),0<=k->k+m=a.2.1->(P.length:Int)=a.2.1->
  ∃ ag' P',zcx a r11 N ag k P=r11 ag' P'/\(P'.length:Int)=a.2.1/\(∀ q:Int,0<=q->q < a.2.1->(ix P' q=true↔ix P q=true\/(k<=q/\ix N q=true)))/\
   (ag'=true↔ag=true\/∃ q:Int,k<=q/\q < a.2.1/\ix N q=true /\ ¬ ix P q=true):=by
 have hn:=ha.n1;intro m
 induction m with
 | zero=>
  intro k ag P k0 hk hP;refine ⟨ag,P,?_,hP,fun q q0 q1 => ?_,?_⟩
  ·rw [zh2];unfold zcH;rw [if_neg (by simp only [decide_eq_true_eq];omega)]
  ·exact ⟨.inl,fun hh=>hh.elim id (fun hh=>by omega)⟩
  ·exact ⟨.inl,fun hh=>hh.elim id (fun ⟨q,h1,h2,_⟩=>by omega)⟩
 | succ m ih=>
  intro k ag P k0 hk hP;have J21:∀ ag2,zd0 N k P (zcx a r11 N) ag2=zcx a r11 N ag2 (k+1) (P.set k.toNat (ix P k || ix N k)):=by
   intro ag2;unfold zd0;rw [zad (by omega),zad (by omega)]
   by_cases c:ix P k=true
   ·rw [if_pos c,zad (by omega),zad (by omega),zad (by unfold fits;omega),c];rfl
   ·rw [if_neg c,zad (by omega),zad (by omega),zad (by omega),zad (by omega),zad (by unfold fits;omega),Bool.eq_false_iff.2 c];rfl
  obtain ⟨ag2,hag2,e⟩:∃ ag2,(ag2=true↔ag=true\/(ix N k=true /\ ¬ ix P k=true))/\zcx a r11 N ag k P=zd0 N k P (zcx a r11 N) ag2:=by
   by_cases c0:ag=true
   ·refine ⟨true,by simp [c0],?_⟩
    rw [zh2];unfold zcH;rw [if_pos (decide_eq_true (by omega)),if_pos c0]
   by_cases c1:ix N k=true
   ·refine ⟨!(ix P k),by simp [c0,c1],?_⟩
    rw [zh2];unfold zcH;rw [if_pos (decide_eq_true (by omega)),if_neg c0,zad (by omega),zad (by omega),if_pos c1,zad (by omega),zad (by omega)]
   ·refine ⟨false,by simp [c0,c1],?_⟩
    rw [zh2];unfold zcH;rw [if_pos (decide_eq_true (by omega)),if_neg c0,zad (by omega),zad (by omega),if_neg c1]
  obtain ⟨ag',P',e',l1,s1,s3⟩:=ih (k+1) ag2 (P.set k.toNat (ix P k || ix N k)) (by omega) (by omega) (by rw [List.length_set];exact hP)
  refine ⟨ag',P',by rw [e,J21];exact e',l1,fun q q0 q1=>(s1 q q0 q1).trans ?_,?_⟩
  ·by_cases eq:q=k
   ·subst eq;rw [ziK k0 (by omega),Bool.or_eq_true]
    constructor
    ·rintro ((h1 | h1) | ⟨h1,_⟩)
     ·exact .inl h1
     ·exact .inr ⟨Int.le_refl _,h1⟩
     ·omega
    ·rintro (h1 | ⟨_,h1⟩)
     ·exact .inl (.inl h1)
     ·exact .inl (.inr h1)
   ·rw [zf7 k0 q0 (fun hh=>eq hh.symm)]
    exact or_congr Iff.rfl (and_congr (by omega) Iff.rfl)
  ·rw [s3,hag2];constructor
   ·rintro ((h1 | h1) | ⟨q,h1,h2,h3⟩)
    ·exact .inl h1
    ·exact .inr ⟨k,Int.le_refl _,by omega,h1⟩
    ·rw [zf7 k0 (by omega) (by omega)] at h3
     exact .inr ⟨q,by omega,h2,h3⟩
   ·rintro (h1 | ⟨q,h1,h2,h3⟩)
    ·exact .inl (.inl h1)
    ·by_cases eq:q=k
     ·rw [eq] at h3;exact .inl (.inr h3)
     ·refine .inr ⟨q,by omega,h2,?_⟩
      rw [zf7 k0 (by omega) (by omega)]
      exact h3
theorem zC4 (ha:AuOk a) (hlen:l.2.1.length<=1000) (hL:l.2.1.length=len) (hw:∀ i:Nat,i < len->ix l.2.1 (i:Int)=u (h+i)) {P:List Bool} {r11:Bool->List Bool->Option Bool}:
  ∀ (m i:Nat) (N:List Bool),i+m=len->(N.length:Int)=a.2.1->(∀ q:Int,0<=q->q < a.2.1->(ix N q=true↔∃ x,Ms a P x/\Wt a u i h x q))->
   ∃ N',zfG a l r11 (i:Int) P N=zcx a r11 N' false 0 P/\(N'.length:Int)=a.2.1/\∀ q:Int,0<=q->q < a.2.1->(ix N' q=true↔∃ x,Ms a P x/\Rd a u h len x q):=by
 have ea:(a.1,a.2.1,a.2.2.1,a.2.2.2.1,a.2.2.2.2.1,())=a:=rfl;intro m
 induction m with
 | zero=>
  intro i N hi hN hq;have:i=len:=by omega
  subst this;refine ⟨N,?_,hN,hq⟩
  rw [znA];unfold zew;rw [if_neg (by simp only [decide_eq_true_eq];omega)]
 | succ m ih=>
  intro i N hi hN hq;obtain ⟨o,e,lo,so⟩:=ztZ ha hN (ix l.2.1 (i:Int));have hwi:=hw i (by omega)
  obtain ⟨N',e',l',s'⟩:=ih (i+1) o (by omega) lo (fun q q0 q1=>by
   rw [so q q0 q1,hwi];constructor
   ·rintro ⟨r,h1,h2⟩;have hb:=(h2.b ha).1;obtain ⟨x,hx,hxr⟩:=(hq r hb.1 hb.2).1 h1;exact ⟨x,hx,Wt.snoc.2 ⟨r,hxr,h2⟩⟩
   ·rintro ⟨x,hx,h1⟩;obtain ⟨r,h2,h3⟩:=Wt.snoc.1 h1;have hb:=(h3.b ha).1;exact ⟨r,(hq r hb.1 hb.2).2 ⟨x,hx,h2⟩,h3⟩)
  refine ⟨N',?_,l',s'⟩
  rw [<- e',znA];unfold zew;rw [if_pos (decide_eq_true (by omega)),zad (by omega),ea]
  refine zaH e ?_
  rw [zad (by unfold fits;omega)]
  rfl
open Classical in
theorem zC8 (ha:AuOk a) {F:List Bool} (hF:FinB a F) (hlen:l.2.1.length<=1000) (hL:l.2.1.length=len) (hw:∀ i:Nat,i < len->ix l.2.1 (i:Int)=u (h+i)) {P:List Bool} (hP:(P.length:Int)=a.2.1):
  ∀ (m:Nat) (k:Int),0<=k->k+m=a.2.1->zis a l P F k=some (decide (∃ q:Int,k<=q/\Ms a P q/\zp8 a u h len q)):=by
 have ea:(a.1,a.2.1,a.2.2.1,a.2.2.2.1,a.2.2.2.2.1,())=a:=rfl;have hn:=ha.n1;intro m
 induction m with
 | zero=>
  intro k k0 hk;rw [znC];unfold zey;rw [if_neg (by simp only [decide_eq_true_eq];omega),decide_eq_false]
  rintro ⟨q,h1,h2,_⟩;have:=h2.1;omega
 | succ m ih=>
  intro k k0 hk;have nx : ¬ (Ms a P k/\zp8 a u h len k)->(some (decide (∃ q:Int,k+1<=q/\Ms a P q/\zp8 a u h len q)):Option Bool)=some (decide (∃ q:Int,k<=q/\Ms a P q/\zp8 a u h len q)):=by
   intro hno;refine congrArg some (decide_eq_decide.2 ⟨fun ⟨q,h1,h2⟩=>⟨q,by omega,h2⟩,fun ⟨q,h1,h2⟩=>⟨q,?_,h2⟩⟩)
   by_cases e:q=k
   ·rw [e] at h2;exact absurd h2 hno
   ·omega
  rw [znC];unfold zey;rw [if_pos (decide_eq_true (by omega)),zad (by omega),zad (by omega)]
  by_cases c:ix P k=true
  ·rw [if_neg (by simp [c]),ea]
   refine zaH (zAF ha hF hlen hL hw k0 (by omega)) ?_
   by_cases c2:zp8 a u h len k
   ·rw [if_pos (decide_eq_true c2),decide_eq_true ⟨k,Int.le_refl _,⟨⟨k0,by omega⟩,c⟩,c2⟩]
   ·rw [if_neg (by simpa using c2),zad (by unfold fits;omega),ih (k+1) (by omega) (by omega)]
    exact nx (fun hh=>c2 hh.2)
  ·rw [if_pos (by simp [c]),zad (by unfold fits;omega),ih (k+1) (by omega) (by omega)]
   exact nx (fun hh=>c hh.1.2)
theorem zC7 (ha:AuOk a) {P:List Bool}:∀ (m:Nat) (k:Int) (F:List Bool),0<=k->k+m=a.2.2.2.2.1.length->(F.length:Int)=a.2.1->(∀ q:Int,0<=q->q < a.2.1->(ix F q=true↔∃ j:Int,0<=j/\j < k/\ix a.2.2.2.2.1 j=q))->
  ∃ F',zkB a l P k F=zis a l P F' 0/\FinB a F':=by
 have hlf:=ha.lf;intro m
 induction m with
 | zero=>
  intro k F k0 hk hF hq;refine ⟨F,?_,hF,fun q q0 q1=>(hq q q0 q1).trans ?_⟩
  ·rw [znB];unfold zex;rw [if_neg (by simp only [decide_eq_true_eq];omega)]
  ·constructor
   ·rintro ⟨j,j0,j1,rfl⟩;exact zin j0 (by omega)
   ·intro hm;obtain ⟨j,j0,j1,e⟩:=(zug (P:=fun y=>y=q)).1 ⟨q,hm,rfl⟩
    exact ⟨j,j0,by omega,e⟩
 | succ m ih=>
  intro k F k0 hk hF hq;have hb:=ha.f _ (zin k0 (by omega:k < a.2.2.2.2.1.length))
  obtain ⟨F',e,h'⟩:=ih (k+1) (F.set (ix a.2.2.2.2.1 k).toNat true) (by omega) (by omega) (by rw [List.length_set];exact hF) (fun q q0 q1=>by
   by_cases c:ix a.2.2.2.2.1 k=q
   ·rw [c,ziK q0 (by omega)]
    exact ⟨fun _=>⟨k,k0,by omega,c⟩,fun _=>rfl⟩
   ·rw [zf7 hb.1 q0 c,hq q q0 q1];constructor
    ·rintro ⟨j,j0,j1,e⟩;exact ⟨j,j0,by omega,e⟩
    ·rintro ⟨j,j0,j1,e⟩;by_cases ej:j=k
     ·rw [ej] at e;exact absurd e c
     ·exact ⟨j,j0,by omega,e⟩)
  refine ⟨F',?_,h'⟩
  rw [<- e]
  conv=>lhs;rw [znB];unfold zex
  rw [if_pos (decide_eq_true (by omega)),zad (by omega),zad (by omega),zad (by omega),zad (by unfold fits;omega)]
open Classical in
theorem zC2 (ha:AuOk a) (hlen:l.2.1.length<=1000) (hL:l.2.1.length=len) (hl0:0 < len) (hw:∀ i:Nat,i < len->ix l.2.1 (i:Int)=u (h+i)):
  ∀ (f:Nat) (P:List Bool),nots (ix P) a.2.1.toNat=f->(P.length:Int)=a.2.1->(∀ k,Ms a P k->FarP a u h len k)->(∀ r,(∃ q0∈a.2.2.1,Wt a u h 0 q0 r)->Ms a P r)->
   zeO a l true P=some (decide (RefA a u h len)):=by
 have ea:(a.1,a.2.1,a.2.2.1,a.2.2.2.1,a.2.2.2.2.1,())=a:=rfl;have hn:=ha.n1;intro f
 induction f using Nat.strongRecOn with
 | _ f ih=>
 intro P hf hP hin hst;obtain ⟨o,eo,lo,so⟩:=ztZ ha hP (ix l.2.1 0);have hw0:=hw 0 hl0;obtain ⟨N,e1,lN,sN⟩:=zC4 ha hlen hL hw (P:=P) (r11:=zeO a l) (len - 1) 1 o (by omega) lo (fun q q0 q1=>by
  rw [so q q0 q1,show ix l.2.1 0=u (h+0) from hw0];constructor
  ·rintro ⟨r,h1,h2⟩;exact ⟨r,⟨(h2.b ha).1,h1⟩,q,h2,rfl⟩
  ·rintro ⟨x,hx,r,h1,h2⟩
   cases h2;exact ⟨x,hx.2,h1⟩)
 obtain ⟨ag,P',e2,l1,s1,s3⟩:=zC5 ha lN (r11:=zeO a l) a.2.1.toNat 0 false P (by omega) (by omega) hP
 have e0:zeO a l true P=zeO a l ag P':=by
  rw [<- e2,<- e1]
  conv=>lhs;rw [znz];unfold zev
  rw [if_pos rfl,if_pos (decide_eq_true (by omega)),zad (by omega),ea]
  refine zaH eo ?_
  rw [zad (by unfold fits;omega)]
  rfl
 rw [e0];have mP:∀ k:Int,0<=k->k < (a.2.1.toNat:Int)->ix P k=true->ix P' k=true:=fun k k0 k1 hk=>(s1 k k0 (by omega)).2 (.inl hk)
 have hin':∀ k,Ms a P' k->FarP a u h len k:=fun k hk=>by
  rcases (s1 k hk.1.1 hk.1.2).1 hk.2 with h4 | ⟨_,h4⟩
  ·exact hin k ⟨hk.1,h4⟩
  ·obtain ⟨x,hx,hxk⟩:=(sN k hk.1.1 hk.1.2).1 h4;obtain ⟨r,h5,h6⟩:=hin x hx;exact ⟨r,h5,h6.tail hxk⟩
 have hst':∀ r,(∃ q0∈a.2.2.1,Wt a u h 0 q0 r)->Ms a P' r:=fun r hr=>by
  have:=hst r hr;exact ⟨this.1,(s1 r this.1.1 this.1.2).2 (.inl this.2)⟩
 cases ag with
 | true=>
  rcases s3.1 rfl with h3 | ⟨k,k0,k1,h3⟩
  ·cases h3
  ·have hlt:nots (ix P') a.2.1.toNat < f:=by
    have:=zwM mP ⟨k,k0,by omega,(s1 k k0 k1).2 (.inr ⟨k0,h3.1⟩),h3.2⟩
    omega
   exact ih _ hlt P' rfl l1 hin' hst'
 | false=>
  have hno:∀ k:Int,0<=k->k < a.2.1->ix N k=true->ix P k=true:=fun k k0 k1 h1=>by
   by_cases h2:ix P k=true
   ·exact h2
   ·have:=s3.2 (.inr ⟨k,k0,k1,h1,h2⟩);cases this
  have far:∀ k,FarP a u h len k->Ms a P' k:=by
   rintro k ⟨r,hr,hs⟩;have:Ms a P k:=by
    induction hs with
    | refl=>exact hst r hr
    | tail _ rr ih2=>
     have hb:=Wt.b ha rr ih2.1.1 ih2.1.2;exact ⟨hb,hno _ hb.1 hb.2 ((sN _ hb.1 hb.2).2 ⟨_,ih2,rr⟩)⟩
   exact ⟨this.1,(s1 k this.1.1 this.1.2).2 (.inl this.2)⟩
  obtain ⟨F,e3,hF⟩:=zC7 ha (l:=l) (P:=P') a.2.2.2.2.1.length 0 (List.replicate a.2.1.toNat false) (by omega) (by omega) (by rw [List.length_replicate];omega) (fun q q0 q1=>by
   rw [zkH q0 (by omega)]
   exact ⟨fun hh=>(by cases hh),fun ⟨k,k0,k1,_⟩=>by omega⟩)
  rw [znz];unfold zev;rw [if_neg (by decide),zad (by unfold mkOK;omega),e3,zC8 ha hF hlen hL hw l1 a.2.1.toNat 0 (by omega) (by omega)]
  refine congrArg some (decide_eq_decide.2 ⟨fun ⟨q,_,h1,h2⟩=>⟨q,hin' q h1,h2⟩,fun ⟨q,h1,h2⟩=>⟨q,(far q h1).1.1,far q h1,h2⟩⟩)
open Classical in
theorem zx6 (ha:AuOk a) (hh1:l.1.length<=1000) (hh:l.1.length=h) (hlen:l.2.1.length<=1000) (hL:l.2.1.length=len) (hl0:0 < len) (hwh:∀ i:Nat,i < h->ix l.1 (i:Int)=u i) (hw:∀ i:Nat,i < len->ix l.2.1 (i:Int)=u (h+i)):
  ziY a l=some (decide (RefA a u h len)):=by
 have ea:(a.1,a.2.1,a.2.2.1,a.2.2.2.1,a.2.2.2.2.1,())=a:=rfl;have hn:=ha.n1;have hls:=ha.ls;have L7:∀ (m i:Nat) (P:List Bool),i+m=h->(P.length:Int)=a.2.1->(∀ q:Int,0<=q->q < a.2.1->(ix P q=true↔∃ q0∈a.2.2.1,Wt a u i 0 q0 q))->zlr a l (i:Int) P=some (decide (RefA a u h len)):=by
  intro m
  induction m with
  | zero=>
   intro i P hi hP hq;have:i=h:=by omega
   subst this;rw [zoN];unfold ze4;rw [if_neg (by simp only [decide_eq_true_eq];omega)]
   refine zC2 ha hlen hL hl0 hw _ P rfl hP (fun k hk => ?_) (fun r hr => ?_)
   ·exact ⟨k,(hq k hk.1.1 hk.1.2).1 hk.2,.refl _⟩
   ·obtain ⟨q0,h1,h2⟩:=hr;have hb:=Wt.b ha h2 (ha.s _ h1).1 (ha.s _ h1).2;exact ⟨hb,(hq r hb.1 hb.2).2 ⟨q0,h1,h2⟩⟩
  | succ m ih=>
   intro i P hi hP hq;obtain ⟨o,e,lo,so⟩:=ztZ ha hP (ix l.1 (i:Int));have hwi:=hwh i (by omega)
   rw [zoN];unfold ze4;rw [if_pos (decide_eq_true (by omega)),zad (by omega),ea]
   refine zaH e ?_
   rw [zad (by unfold fits;omega)]
   refine ih (i+1) o (by omega) lo (fun q q0 q1 => ?_)
   rw [so q q0 q1,hwi];constructor
   ·rintro ⟨r,h1,h2⟩;have hb:=(h2.b ha).1;obtain ⟨x,hx,hxr⟩:=(hq r hb.1 hb.2).1 h1;exact ⟨x,hx,Wt.snoc.2 ⟨r,hxr,by rw [Nat.zero_add];exact h2⟩⟩
   ·rintro ⟨x,hx,h1⟩;obtain ⟨r,h2,h3⟩:=Wt.snoc.1 h1;have hb:=(h3.b ha).1;rw [Nat.zero_add] at h3;exact ⟨r,(hq r hb.1 hb.2).2 ⟨x,hx,h2⟩,h3⟩
 have L3:∀ (m:Nat) (k:Int) (P:List Bool),0<=k->k+m=a.2.2.1.length->(P.length:Int)=a.2.1->(∀ q:Int,0<=q->q < a.2.1->(ix P q=true↔∃ j:Int,0<=j/\j < k/\ix a.2.2.1 j=q))->zlq a l k P=some (decide (RefA a u h len)):=by
  intro m
  induction m with
  | zero=>
   intro k P k0 hk hP hq;rw [zoM];unfold ze3;rw [if_neg (by simp only [decide_eq_true_eq];omega)]
   refine L7 h 0 P (by omega) hP (fun q q0 q1=>(hq q q0 q1).trans ?_)
   constructor
   ·rintro ⟨j,j0,j1,rfl⟩;exact ⟨_,zin j0 (by omega),rfl⟩
   ·rintro ⟨q',hm,e⟩
    cases e;obtain ⟨j,j0,j1,e⟩:=(zug (P:=fun y=>y=q)).1 ⟨q,hm,rfl⟩
    exact ⟨j,j0,by omega,e⟩
  | succ m ih=>
   intro k P k0 hk hP hq;have hb:=ha.s _ (zin k0 (by omega:k < a.2.2.1.length))
   rw [zoM];unfold ze3;rw [if_pos (decide_eq_true (by omega)),zad (by omega),zad (by omega),zad (by omega),zad (by unfold fits;omega)]
   refine ih (k+1) (P.set (ix a.2.2.1 k).toNat true) (by omega) (by omega) (by rw [List.length_set];exact hP) (fun q q0 q1 => ?_)
   by_cases c:ix a.2.2.1 k=q
   ·rw [c,ziK q0 (by omega)]
    exact ⟨fun _=>⟨k,k0,by omega,c⟩,fun _=>rfl⟩
   ·rw [zf7 hb.1 q0 c,hq q q0 q1];constructor
    ·rintro ⟨j,j0,j1,e⟩;exact ⟨j,j0,by omega,e⟩
    ·rintro ⟨j,j0,j1,e⟩;by_cases ej:j=k
     ·rw [ej] at e;exact absurd e c
     ·exact ⟨j,j0,by omega,e⟩
 unfold ziY;rw [zad (by unfold mkOK;omega)]
 refine L3 a.2.2.1.length 0 _ (by omega) (by omega) (by rw [List.length_replicate];omega) (fun q q0 q1 => ?_)
 rw [zkH q0 (by omega)]
 exact ⟨fun hh=>(by cases hh),fun ⟨k,k0,k1,_⟩=>by omega⟩
end
def RunA (a:Au) (u:Nat->Int) (r:Nat->Int):Prop:=r 0∈a.2.2.1/\∀ t,StA a (r t) (u t) (r (t+1))
def InfA (a:Au) (u:Nat->Int):Prop:=∃ r,RunA a u r/\∀ N,∃ t,N<=t/\r t∈a.2.2.2.2.1
section
variable {a:Au} {u:Nat->Int} {h len:Nat}
theorem Wt.path:∀ {m s:Nat} {p q:Int},Wt a u m s p q->∃ r:Nat->Int,r 0=p/\r m=q/\∀ i,i < m->StA a (r i) (u (s+i)) (r (i+1))
 | 0,s,p,q,hh=>⟨fun _=>p,rfl,hh,fun i hi=>by omega⟩
 | m+1,s,p,q,⟨x,h1,h2⟩=>by
  obtain ⟨r,r0,rm,hr⟩:=Wt.path h2;refine ⟨fun i=>if i=0 then p else r (i - 1),rfl,?_,fun i hi => ?_⟩
  ·show (if m+1=0 then p else r (m+1 - 1))=q
   rw [if_neg (by omega),Nat.add_sub_cancel];exact rm
  ·show StA a (if i=0 then p else r (i - 1)) _ (if i+1=0 then p else r (i+1 - 1))
   rw [if_neg (by omega : ¬ i+1=0),Nat.add_sub_cancel]
   by_cases e:i=0
   ·subst e;rw [if_pos rfl,r0];exact h1
   ·rw [if_neg e];have:=hr (i - 1) (by omega)
    rw [show s+1+(i - 1)=s+i by omega,show i - 1+1=i by omega] at this
    exact this
theorem Wt.of_run {r:Nat->Int} (hr:∀ t,StA a (r t) (u t) (r (t+1))):∀ (m s:Nat),Wt a u m s (r s) (r (s+m))
 | 0,_=>rfl
 | m+1,s=>⟨r (s+1),hr s,by have:=Wt.of_run hr m (s+1);rwa [show s+1+m=s+(m+1) by omega] at this⟩
theorem zBP (hu:∀ t,h<=t->u (t+len)=u t) {t:Nat} (ht:h<=t):∀ k:Nat,u (t+k * len)=u t
 | 0=>by rw [Nat.zero_mul,Nat.add_zero]
 | k+1=>by rw [Nat.succ_mul,<- Nat.add_assoc,hu _ (by omega),zBP hu ht k]
theorem pig {K:Nat} {f:Nat->Nat} (hf:∀ i,i<=K->f i < K):∃ i j,i < j/\j<=K/\f i=f j:=by
 refine Classical.byContradiction fun hno => ?_
 have hn:((List.range (K+1)).map f).Nodup:=by
  rw [List.nodup_iff_pairwise_ne,List.pairwise_map];refine List.Pairwise.imp_of_mem (fun {i j} hi hj hij => ?_) (List.pairwise_lt_range (n:=K+1))
  intro e;exact hno ⟨i,j,hij,by have:=List.mem_range.1 hj;omega,e⟩
 have:=zBQ (U:=List.range K) hn (fun x hx=>by
  obtain ⟨i,hi,rfl⟩:=List.mem_map.1 hx;rw [List.mem_range] at *
  exact hf i (by omega))
 simp at this;omega
theorem zCD (ha:AuOk a) (hl:0 < len) (hu:∀ t,h<=t->u (t+len)=u t):zEd a u h len↔InfA a u:=by
 constructor
 ·rintro ⟨q0,hq0,s,f,h1,hf,hs,b,hb,h2⟩;obtain ⟨r1,a0,a1,ar⟩:=h1.path;obtain ⟨r2,b0,b1,br⟩:=h2.path;have hL:0 < b * len:=Nat.mul_pos (by omega) hl
  refine ⟨fun t=>if t < s then r1 t else r2 ((t - s) % (b * len)),⟨?_,fun t => ?_⟩,fun N => ?_⟩
  ·show (if 0 < s then r1 0 else r2 ((0 - s) % (b * len)))∈_
   by_cases c:0 < s
   ·rw [if_pos c,a0];exact hq0
   ·rw [if_neg c,show (0 - s) % (b * len)=0 by rw [Nat.zero_sub,Nat.zero_mod],b0]
    have:s=0:=by omega
    subst this;rw [<- a1,a0];exact hq0
  ·show StA a (if t < s then r1 t else r2 ((t - s) % (b * len))) (u t) (if t+1 < s then r1 (t+1) else r2 ((t+1 - s) % (b * len)))
   by_cases c:t < s
   ·rw [if_pos c];have:=ar t c;rw [Nat.zero_add] at this;by_cases c2:t+1 < s
    ·rw [if_pos c2];exact this
    ·rw [if_neg c2,show t+1 - s=0 by omega,Nat.zero_mod,b0,<- a1]
     rwa [show t+1=s by omega] at this
   ·rw [if_neg c,if_neg (by omega)]
    have hm:=Nat.mod_lt (t - s) hL;have hst:=br _ hm;have hut:u t=u (s+(t - s) % (b * len)):=by
     have e:t=s+(t - s) % (b * len)+((t - s) / (b * len) * b) * len:=by
      have:=Nat.mod_add_div (t - s) (b * len);rw [Nat.mul_assoc,Nat.mul_comm _ (b * len)];omega
     conv=>lhs;rw [e]
     exact zBP hu (by omega) _
    rw [hut];by_cases c2:(t - s) % (b * len)+1 < b * len
    ·rw [show (t+1 - s) % (b * len)=(t - s) % (b * len)+1 by
      rw [show t+1 - s=(t - s)+1 by omega,Nat.add_mod,Nat.mod_eq_of_lt (a:=1) (by omega),Nat.mod_eq_of_lt c2]]
     exact hst
    ·have e1:(t - s) % (b * len)+1=b * len:=by omega
     rw [e1,b1] at hst;rw [show (t+1 - s) % (b * len)=0 by
      rw [show t+1 - s=(t - s)+1 by omega,Nat.add_mod]
      by_cases c3:b * len=1
      ·rw [c3,Nat.mod_one]
      ·rw [Nat.mod_eq_of_lt (a:=1) (by omega),e1,Nat.mod_self],b0]
     exact hst
  ·refine ⟨s+N * (b * len),?_,?_⟩
   ·have:N * 1<=N * (b * len):=Nat.mul_le_mul_left N hL;omega
   ·show (if s+N * (b * len) < s then r1 (s+N * (b * len)) else r2 ((s+N * (b * len) - s) % (b * len)))∈_
    rw [if_neg (by omega),Nat.add_sub_cancel_left,Nat.mul_mod_left,b0];exact hf
 ·rintro ⟨r,⟨r0,hr⟩,hi⟩;have hrb:∀ t,0<=r t/\r t < 300:=fun t=>by
   have:=(hr t).b ha;have:=ha.n1;omega
  let g:Nat->Nat:=fun k=>Nat.rec (Classical.choose (hi h)) (fun _ p=>Classical.choose (hi (p+1))) k
  have g0:h<=g 0/\r (g 0)∈a.2.2.2.2.1:=Classical.choose_spec (hi h);have gs:∀ k,g k+1<=g (k+1)/\r (g (k+1))∈a.2.2.2.2.1:=fun k=>Classical.choose_spec (hi (g k+1))
  have gm:∀ j i,i < j->g i < g j:=fun j=>by
   induction j with
   | zero=>intro i hij;omega
   | succ j ih=>
    intro i hij;have:=(gs j).1;by_cases e:i=j
    ·subst e;omega
    ·have:=ih i (by omega);omega
  have gf:∀ k,r (g k)∈a.2.2.2.2.1:=fun k=>by
   cases k with
   | zero=>exact g0.2
   | succ k=>exact (gs k).2
  have gh:∀ k,h<=g k:=fun k=>by
   cases k with
   | zero=>exact g0.1
   | succ k=>have:=gm (k+1) 0 (by omega);have:=g0.1;omega
  obtain ⟨i,j,hij,_,e⟩:=pig (K:=300 * len) (f:=fun k=>(r (g k)).toNat * len+g k % len) (fun k _=>by
   have h1:=hrb (g k);have h2:=Nat.mod_lt (g k) hl;have h3:(r (g k)).toNat * len<=299 * len:=Nat.mul_le_mul_right len (by omega)
   have h4:300 * len=299 * len+len:=by omega
   show (r (g k)).toNat * len+g k % len < 300 * len;omega)
  have e:(r (g i)).toNat * len+g i % len=(r (g j)).toNat * len+g j % len:=e;have d1:(r (g i)).toNat=(r (g j)).toNat:=by
   have h1:((r (g i)).toNat * len+g i % len) / len=(r (g i)).toNat:=by
    rw [Nat.add_comm,Nat.add_mul_div_right _ _ hl,Nat.div_eq_of_lt (Nat.mod_lt _ hl),Nat.zero_add]
   have h2:((r (g j)).toNat * len+g j % len) / len=(r (g j)).toNat:=by
    rw [Nat.add_comm,Nat.add_mul_div_right _ _ hl,Nat.div_eq_of_lt (Nat.mod_lt _ hl),Nat.zero_add]
   rw [<- h1,<- h2,e]
  have d2:g i % len=g j % len:=by rw [d1] at e;omega
  have d3:r (g i)=r (g j):=by have:=hrb (g i);have:=hrb (g j);omega
  have hlt:=gm j i hij;have hd:g j - g i=(g j / len - g i / len) * len:=by
   have m1:=Nat.mod_add_div (g i) len;have m2:=Nat.mod_add_div (g j) len;rw [Nat.sub_mul,Nat.mul_comm (g j / len),Nat.mul_comm (g i / len)];omega
  have hw1:=Wt.of_run hr (g i) 0;rw [Nat.zero_add] at hw1;have hw2:=Wt.of_run hr (g j - g i) (g i);rw [show g i+(g j - g i)=g j by omega,<- d3,hd] at hw2
  refine ⟨r 0,r0,g i,r (g i),hw1,gf i,gh i,g j / len - g i / len,?_,hw2⟩
  rcases Nat.eq_zero_or_pos (g j / len - g i / len) with h0 | h0
  ·rw [h0,Nat.zero_mul] at hd;omega
  ·exact h0
theorem zDL (ha:AuOk a) (hl:0 < len) (hu:∀ t,h<=t->u (t+len)=u t):RefA a u h len↔InfA a u:=(zCF hl hu).trans (zCD ha hl hu)
end
section
variable {α:Type} [Inhabited α]
theorem ixA (d:Array α) (n:Nat):ix d.toList (n:Int)=d[n]! :=by
 unfold ix;rw [Int.toNat_natCast,List.getD_eq_getElem?_getD,Array.getElem?_toList,getElem!_def]
 cases h:d[n]? <;>rfl
theorem setA (d:Array α) (i:Nat) (x:α):d.toList.set i x=(d.setIfInBounds i x).toList:=by simp
theorem swpA (d:Array α) (i j:Nat):(d.toList.set i d[j]!).set j d[i]! =(Go.Sort.swp d i j).toList:=by
 unfold Go.Sort.swp;rw [setA,setA]
theorem swpZ (d:Array α) (i j:Nat):(Go.Sort.swp d i j).size=d.size:=by unfold Go.Sort.swp;simp
end
theorem zqT {x:Int} (h0:0<=x) (h1:x < 18446744073709551616):IntKind.wrap .u64 x=x:=by
 unfold IntKind.wrap;simp [IntKind.bits,IntKind.signed];omega
theorem zEI {x:Int} (h0:0<=x) (h1:x < 256):IntKind.wrap .u8 x=x:=by
 unfold IntKind.wrap;simp [IntKind.bits,IntKind.signed];omega
theorem zzf {x:Int} (h0:0<=x) (h1:x < 9223372036854775808):IntKind.wrap .i64 x=x:=by
 unfold IntKind.wrap;simp [IntKind.bits,IntKind.signed];omega
def BL (x v:Int):Prop:=0<=v/\v<=32/\x < 2 ^ v.toNat/\(0 < x->(2:Int) ^ v.toNat<=2 * x)
def bTbl:List UInt8:=[0,1,2,2,3,3,3,3,4,4,4,4,4,4,4,4,5,5,5,5,5,5,5,5,5,5,5,5,5,5,5,5,6,6,6,6,6,6,6,6,6,6,6,6,6,6,6,6,6,6,6,6,6,6,6,6,6,6,6,6,6,6,6,6,7,7,7,7,7,7,7,7,7,7,7,7,7,7,7,7,7,7,7,7,7,7,7,7,7,7,7,7,7,7,7,7,7,7,7,7,7,7,7,7,7,7,7,7,7,7,7,7,7,7,7,7,7,7,7,7,7,7,7,7,7,7,7,7,8,8,8,8,8,8,8,8,8,8,8,8,8,8,8,8,8,8,8,8,8,8,8,8,8,8,8,8,8,8,8,8,8,8,8,8,8,8,8,8,8,8,8,8,8,8,8,8,8,8,8,8,8,8,8,8,8,8,8,8,8,8,8,8,8,8,8,8,8,8,8,8,8,8,8,8,8,8,8,8,8,8,8,8,8,8,8,8,8,8,8,8,8,8,8,8,8,8,8,8,8,8,8,8,8,8,8,8,8,8,8,8,8,8,8,8,8,8,8,8,8,8,8,8,8,8,8,8]
theorem zB9:(List.range 256).all (fun x=>decide ((bTbl.getD x 0).toNat<=8/\x < 2 ^ (bTbl.getD x 0).toNat/\(x=0\/2 ^ (bTbl.getD x 0).toNat<=2 * x)))=true:=by decide+kernel
theorem zCa:bTbl.length=256:=by decide+kernel
theorem zEg {x n:Int} (h0:0<=x) (h1:x < 256) (n0:0<=n) (n1:n<=100):∃ v,zln x n=some (n+v)/\v<=8/\BL x v:=by
 have ha:=zB9;rw [List.all_eq_true] at ha;have hx:=ha x.toNat (by rw [List.mem_range];omega)
 simp only [decide_eq_true_eq] at hx;obtain ⟨k1,k2,k3⟩:=hx;have e:zln x n=G (0<=IntKind.wrap .u8 x/\IntKind.wrap .u8 x < (bTbl.length:Int)) (G (fits (n+IntKind.wrap .i64 (bAt bTbl (IntKind.wrap .u8 x)))) (some (n+IntKind.wrap .i64 (bAt bTbl (IntKind.wrap .u8 x))))):=rfl;have eb:bAt bTbl x=((bTbl.getD x.toNat 0).toNat:Int):=rfl;rw [e,zEI h0 h1,eb,zCa];generalize (bTbl.getD x.toNat 0).toNat=t at *
 rw [zzf (by omega) (by omega),zad (by omega),zad (by unfold fits;omega)]
 have h2:(2:Int) ^ t=((2 ^ t:Nat):Int):=by simp
 exact ⟨t,rfl,by omega,by omega,by omega,by rw [Int.toNat_natCast,h2];omega,fun hp=>by rw [Int.toNat_natCast,h2];omega⟩
theorem zBr {x:Int} {k:Nat} (hk:k<=64):ishr .u64 x (k:Int)=x / 2 ^ k:=by
 unfold ishr;rw [Int.toNat_natCast,show min k (IntKind.bits .u64)=k from Nat.min_eq_left hk];exact Int.fdiv_eq_ediv_of_nonneg _ (by
  have:(2:Int) ^ k=((2 ^ k:Nat):Int):=by simp
  rw [this];exact Int.natCast_nonneg _)
theorem BL.up {x v:Int} {k:Nat} (h:BL (x / 2 ^ k) v) (hx:(2:Int) ^ k<=x) (hv:v+k<=32):BL x (k+v):=by
 obtain ⟨a,b,c,d⟩:=h;have hk:(0:Int) < 2 ^ k:=by
  have:(2:Int) ^ k=((2 ^ k:Nat):Int):=by simp
  have:=Nat.two_pow_pos k;omega
 have e:((k:Int)+v).toNat=k+v.toNat:=by omega
 have hm:=Int.mul_ediv_add_emod x (2 ^ k);have hr:=Int.emod_nonneg x (by omega:(2:Int) ^ k≠0)
 have hr2:=Int.emod_lt_of_pos x hk;have hq:1<=x / 2 ^ k:=by
  have:=(Int.le_ediv_iff_mul_le hk).2 (by omega:1 * (2:Int) ^ k<=x)
  exact this
 refine ⟨by omega,by omega,?_,fun _ => ?_⟩
 ·rw [e,Int.pow_add];have h1:(2:Int) ^ k * (x / 2 ^ k+1)<=2 ^ k * 2 ^ v.toNat:=Int.mul_le_mul_of_nonneg_left (by omega) (by omega)
  rw [Int.mul_add] at h1;omega
 ·rw [e,Int.pow_add];have h1:(2:Int) ^ k * 2 ^ v.toNat<=2 ^ k * (2 * (x / 2 ^ k)):=Int.mul_le_mul_of_nonneg_left (d (by omega)) (by omega)
  rw [<- Int.mul_assoc,Int.mul_comm _ 2,Int.mul_assoc] at h1;omega
theorem zEf {x n:Int} (h0:0<=x) (h1:x < 65536) (n0:0<=n) (n1:n<=64):∃ v,zlm x n=some (n+v)/\v<=16/\BL x v:=by
 unfold zlm;by_cases c:256<=x
 ·rw [if_pos (decide_eq_true c),zad (by omega),zad (by unfold fits;omega),show (8:Int)=((8:Nat):Int) from rfl,zBr (by omega)]
  have e8:(2:Int) ^ 8=256:=rfl;obtain ⟨v,e,h,b⟩:=zEg (x:=x / 2 ^ 8) (n:=n+((8:Nat):Int)) (by omega) (by omega) (by omega) (by omega)
  exact ⟨((8:Nat):Int)+v,by rw [e,Int.add_assoc],by omega,b.up (by omega) (by omega)⟩
 ·rw [if_neg (by simpa using c)]
  obtain ⟨v,e,h,b⟩:=zEg (x:=x) (n:=n) h0 (by omega) (by omega) (by omega)
  exact ⟨v,e,by omega,b⟩
theorem bits3 {x n:Int} (h0:0<=x) (h1:x < 4294967296) (n0:0<=n) (n1:n<=32):∃ v,zll x n=some (n+v)/\v<=32/\BL x v:=by
 unfold zll;by_cases c:65536<=x
 ·rw [if_pos (decide_eq_true c),zad (by omega),zad (by unfold fits;omega),show (16:Int)=((16:Nat):Int) from rfl,zBr (by omega)]
  have e8:(2:Int) ^ 16=65536:=rfl;obtain ⟨v,e,h,b⟩:=zEf (x:=x / 2 ^ 16) (n:=n+((16:Nat):Int)) (by omega) (by omega) (by omega) (by omega)
  exact ⟨((16:Nat):Int)+v,by rw [e,Int.add_assoc],by omega,b.up (by omega) (by omega)⟩
 ·rw [if_neg (by simpa using c)]
  obtain ⟨v,e,h,b⟩:=zEf (x:=x) (n:=n) h0 (by omega) (by omega) (by omega)
  exact ⟨v,e,by omega,b⟩
theorem ztS {x:Int} (h0:0<=x) (h1:x < 4294967296):∃ v,zpN x=some v/\BL x v:=by
 unfold zpN zr0;obtain ⟨v,e,h,b⟩:=bits3 (x:=x) (n:=0) h0 h1 (by omega) (by omega)
 refine ⟨v,?_,b⟩
 rw [if_neg (by simp only [decide_eq_true_eq];omega),e,Int.zero_add]
 rfl
theorem zBF {n:Int} (h0:8<=n) (h1:n<=1000000000):∃ M,zea n=some M/\0 < M/\M<=2 * n:=by
 unfold zea;rw [zqT (by omega) (by omega)]
 obtain ⟨v,e,b1,b2,b3,b4⟩:=ztS (x:=n) (by omega) (by omega)
 have b4:=b4 (by omega)
 have h2:(2:Int) ^ v.toNat=((2 ^ v.toNat:Nat):Int):=by simp
 refine ⟨2 ^ v.toNat,zaH e ?_,by omega,b4⟩
 rw [zad b1];unfold ishl;rw [show min v.toNat (IntKind.bits .u64)=v.toNat from Nat.min_eq_left (by show v.toNat<=64;omega),Int.one_mul,zqT (by omega) (by omega)]
theorem zEr {x y:Int} (h0:0<=y) (h1:y < 4294967296):0<=iand .u64 x y/\iand .u64 x y<=y:=by
 unfold iand;have h:(BitVec.ofInt IntKind.u64.bits x &&& BitVec.ofInt IntKind.u64.bits y).toNat<=y.toNat:=by
  show (BitVec.ofInt 64 x &&& BitVec.ofInt 64 y).toNat<=y.toNat;rw [BitVec.toNat_and];refine Nat.le_trans Nat.and_le_right ?_
  rw [BitVec.toNat_ofInt];have:y % ((2 ^ 64:Nat):Int)=y:=Int.emod_eq_of_lt h0 (by omega)
  rw [this];exact Nat.le_refl _
 generalize (BitVec.ofInt IntKind.u64.bits x &&& BitVec.ofInt IntKind.u64.bits y).toNat=t at *
 rw [zqT (by omega) (by omega)]
 omega
theorem zjv (x y:Int):zfm x y=some (Go.Sort.ltInt x y):=by
 unfold zfm zlS Go.Sort.ltInt;simp
open Classical in
def ordV (x y:Stp):Int:=(znx x y).choose
theorem zjy (x y:Stp):zb8 x y=some (ordV x y):=(znx x y).choose_spec.1
theorem zDH (x y:Stp):ordV x y < 0↔zd8 x y:=(znx x y).choose_spec.2
def ltS (x y:Stp):Bool:=decide (ordV x y < 0)
theorem zyH {x y:Stp}:ltS x y=true↔zd8 x y:=by unfold ltS;rw [decide_eq_true_iff];exact zDH x y
theorem zBA {x y:Stp}:ltS x y=false ↔ ¬ zd8 x y:=by rw [<- zyH];cases ltS x y<;>simp
theorem swoI:Go.Sort.SWO Go.Sort.ltInt:=Go.Sort.swo_ltInt
theorem swoS:Go.Sort.SWO ltS where
 irrefl x:=by rw [zBA];unfold zd8;omega
 trans x y z h1 h2:=by rw [zyH] at *; unfold zd8 at *; omega
 ntrans x y z h1 h2:=by rw [zBA] at *; unfold zd8 at *; omega
section
theorem zum (a:Nat) (r1:Int->List Int->Option (List Int)) (i:Int) (hi:0<=i/\i < 1000000000):∀ (j:Nat) (d:Array Int),j < d.size->d.size<=1000000000->
  zbb a i r1 j d.toList=r1 (i+1) (Go.Sort.insInner Go.Sort.ltInt a j d).toList
 | 0,d,hj,hd=>by
  have:=d.length_toList;rw [zfw];unfold zaT;rw [if_neg (by simp),zad (by unfold fits;omega)]
  rfl
 | j+1,d,hj,hd=>by
  have hl:=d.length_toList;rw [zfw];unfold zaT;unfold Go.Sort.insInner;rw [show ((j+1:Nat):Int) - 1=(j:Int) by omega]
  by_cases c:a < j+1
  ·rw [if_pos (by simp only [decide_eq_true_eq];omega)]
   (repeat (rw [zad (by first | omega | (unfold fits;omega) | (simp only [List.length_set,Array.length_toList];omega))]))
   rw [ixA,ixA,zjv];show (if Go.Sort.ltInt d[j+1]! d[j]! =true then _ else _)=_
   rw [show decide (j+1 > a)=true from decide_eq_true c,Bool.true_and]
   cases Go.Sort.ltInt d[j+1]! d[j]! with
   | true=>
    rw [if_pos rfl,if_pos rfl]
    (repeat (rw [zad (by first | omega | (unfold fits;omega) | (simp only [List.length_set,Array.length_toList];omega))]))
    rw [Int.toNat_natCast,Int.toNat_natCast,swpA];exact zum a r1 i hi j _ (by rw [swpZ];omega) (by rw [swpZ];exact hd)
   | false=>
    rw [if_neg (by simp),if_neg (by simp)]
    (repeat (rw [zad (by first | omega | (unfold fits;omega) | (simp only [List.length_set,Array.length_toList];omega))]))
  ·rw [if_neg (by simp only [decide_eq_true_eq];omega),zad (by unfold fits;omega)]
   rw [show decide (j+1 > a)=false from decide_eq_false c,Bool.false_and,if_neg (by simp)]
theorem zk7 (a:Nat):∀ (j:Nat) (d:Array Int),(Go.Sort.insInner Go.Sort.ltInt a j d).size=d.size
 | 0,_=>rfl
 | j+1,d=>by
  unfold Go.Sort.insInner
  split
  ·rw [zk7 a j,swpZ]
  ·rfl
theorem zyC (a b:Nat):∀ (n i:Nat) (d:Array Int),b - i=n->i<=1000000001->b<=d.size->d.size<=1000000000->
  zcE a b i d.toList=some (Go.Sort.insOuter Go.Sort.ltInt a b i d).toList:=by
 intro n
 induction n with
 | zero=>
  intro i d hn hi hb hd;rw [zfv];unfold zaS;unfold Go.Sort.insOuter;rw [if_neg (by simp only [decide_eq_true_eq];omega),if_neg (by omega)]
 | succ n ih=>
  intro i d hn hi hb hd;rw [zfv];unfold zaS;unfold Go.Sort.insOuter;rw [if_pos (by simp only [decide_eq_true_eq];omega),if_pos (by omega),zum a _ i (by omega) i d (by omega) hd]
  have:=ih (i+1) (Go.Sort.insInner Go.Sort.ltInt a i d) (by omega) (by omega) (by rw [zk7];exact hb) (by rw [zk7];exact hd)
  rw [<- this];rfl
theorem zAb (a b:Nat) (d:Array Int) (ha:a<=b) (hb:b<=d.size) (hd:d.size<=1000000000):zde a b d.toList=some (Go.Sort.insertionSort Go.Sort.ltInt d a b).toList:=by
 unfold zde Go.Sort.insertionSort
 (repeat (rw [zad (by first | omega | (unfold fits;omega) | (simp only [List.length_set,Array.length_toList];omega))]))
 exact zyC a b _ (a+1) d rfl (by omega) hb hd
theorem zza (hi first:Nat):∀ (n root:Nat) (d:Array Int),hi - root<=n->first+hi<=d.size->d.size<=1000000000->root<=1000000000->
  zce hi first root d.toList=some (Go.Sort.siftDown Go.Sort.ltInt hi first root d).toList:=by
 intro n
 induction n with
 | zero=>
  intro root d hn hf hd hr;rw [zhy];unfold zbC;unfold Go.Sort.siftDown
  (repeat (rw [zad (by first | omega | (unfold fits;omega) | (simp only [List.length_set,Array.length_toList];omega))]))
  rw [if_pos (by simp only [decide_eq_true_eq];omega),dif_pos (by omega)]
 | succ n ih=>
  intro root d hn hf hd hr;have hl:=d.length_toList;rw [zhy];unfold zbC;unfold Go.Sort.siftDown
  (repeat (rw [zad (by first | omega | (unfold fits;omega) | (simp only [List.length_set,Array.length_toList];omega))]))
  by_cases c:hi<=2 * root+1
  ·rw [if_pos (by simp only [decide_eq_true_eq];omega),dif_pos (by omega)]
  ·rw [if_neg (by simp only [decide_eq_true_eq];omega),dif_neg (by omega)]
   (repeat (rw [zad (by first | omega | (unfold fits;omega) | (simp only [List.length_set,Array.length_toList];omega))]))
   have J4:∀ ch:Nat,ch < hi->root < ch->zbU first root d.toList (zce hi first) ch=some (if !Go.Sort.ltInt d[first+root]! d[first+ch]! then d else Go.Sort.siftDown Go.Sort.ltInt hi first ch (Go.Sort.swp d (first+root) (first+ch))).toList:=fun ch h1 h2=>by
    unfold zbU;rw [show (first:Int)+(root:Int)=((first+root:Nat):Int) by omega,show (first:Int)+(ch:Int)=((first+ch:Nat):Int) by omega]
    (repeat (rw [zad (by first | omega | (unfold fits;omega) | (simp only [List.length_set,Array.length_toList];omega))]))
    rw [ixA,ixA,zjv];show (if (!Go.Sort.ltInt d[first+root]! d[first+ch]!)=true then _ else _)=_
    cases Go.Sort.ltInt d[first+root]! d[first+ch]! with
    | true=>
     rw [if_neg (by simp),if_neg (by simp)]
     (repeat (rw [zad (by first | omega | (unfold fits;omega) | (simp only [List.length_set,Array.length_toList];omega))]))
     rw [Int.toNat_natCast,Int.toNat_natCast,swpA];exact ih ch _ (by omega) (by rw [swpZ];exact hf) (by rw [swpZ];exact hd) (by omega)
    | false=>rw [if_pos (by simp),if_pos (by simp)]
   have e1:(2:Int) * (root:Int)+1=((2 * root+1:Nat):Int):=by omega
   have e2:((2 * root+1:Nat):Int)+1=((2 * root+2:Nat):Int):=by omega
   have J3:∀ t:Bool,(t=true->2 * root+2 < hi)->zbT first root d.toList (zce hi first) t=some (if t=true then (if !Go.Sort.ltInt d[first+root]! d[first+(2 * root+2)]! then d else Go.Sort.siftDown Go.Sort.ltInt hi first (2 * root+2) (Go.Sort.swp d (first+root) (first+(2 * root+2)))) else
     (if !Go.Sort.ltInt d[first+root]! d[first+(2 * root+1)]! then d else Go.Sort.siftDown Go.Sort.ltInt hi first (2 * root+1) (Go.Sort.swp d (first+root) (first+(2 * root+1))))).toList:=fun t ht=>by
    unfold zbT;rw [e1,e2]
    cases t with
    | true=>rw [if_pos rfl,if_pos rfl];(repeat (rw [zad (by first | omega | (unfold fits;omega) | (simp only [List.length_set,Array.length_toList];omega))]));exact J4 _ (ht rfl) (by omega)
    | false=>rw [if_neg (by simp),if_neg (by simp)];exact J4 _ (by omega) (by omega)
   rw [e1,e2];by_cases c2:2 * root+2 < hi
   ·rw [if_pos (by simp only [decide_eq_true_eq];omega)]
    rw [show (first:Int)+((2 * root+1:Nat):Int)=((first+(2 * root+1):Nat):Int) by omega,show ((first+(2 * root+1):Nat):Int)+1=((first+(2 * root+1)+1:Nat):Int) by omega]
    (repeat (rw [zad (by first | omega | (unfold fits;omega) | (simp only [List.length_set,Array.length_toList];omega))]))
    rw [ixA,ixA,zjv];refine (J3 _ (fun _=>c2)).trans ?_
    rw [show decide (2 * root+1+1 < hi)=true from decide_eq_true c2,Bool.true_and];show some (Array.toList (if Go.Sort.ltInt d[first+(2 * root+1)]! d[first+(2 * root+1)+1]! =true then _ else _))=_
    cases Go.Sort.ltInt d[first+(2 * root+1)]! d[first+(2 * root+1)+1]! with
    | true=>simp [c2]
    | false=>simp
   ·rw [if_neg (by simp only [decide_eq_true_eq];omega),J3 false (by simp),show decide (2 * root+1+1 < hi)=false from decide_eq_false c2,Bool.false_and]
    simp
theorem zkM (hi first:Nat):∀ (n root:Nat) (d:Array Int),hi - root<=n->(Go.Sort.siftDown Go.Sort.ltInt hi first root d).size=d.size:=by
 intro n
 induction n with
 | zero=>intro root d hn;unfold Go.Sort.siftDown;rw [dif_pos (by omega)]
 | succ n ih=>
  intro root d hn;unfold Go.Sort.siftDown
  split
  ·rfl
  ·split
   ·split
    ·rfl
    ·split
     ·rw [ih _ _ (by omega),swpZ]
     ·rfl
   ·split
    ·rfl
    ·rw [ih _ _ (by omega),swpZ]
theorem zte (lo hi first:Nat) (d:Array Int) (hf:first+hi<=d.size) (hd:d.size<=1000000000) (hl:lo<=1000000000):zdH lo hi first d.toList=some (Go.Sort.siftDown Go.Sort.ltInt hi first lo d).toList:=by
 unfold zdH;exact zza hi first _ lo d (Nat.le_refl _) hf hd hl
theorem zsP (a n:Nat):∀ (k:Nat) (d:Array Int),k<=n->a+n<=d.size->d.size<=1000000000->zd7 a ((k:Int) - 1) d.toList=some (Go.Sort.heapPop Go.Sort.ltInt a k d).toList
 | 0,d,hk,ha,hd=>by
  rw [zhq];unfold zbs;rw [if_neg (by simp only [decide_eq_true_eq];omega)];rfl
 | k+1,d,hk,ha,hd=>by
  have hl:=d.length_toList;rw [zhq];unfold zbs;unfold Go.Sort.heapPop;rw [show ((k+1:Nat):Int) - 1=(k:Int) by omega,if_pos (by simp only [decide_eq_true_eq];omega),show (a:Int)+(k:Int)=((a+k:Nat):Int) by omega]
  (repeat (rw [zad (by first | omega | (unfold fits;omega) | (simp only [List.length_set,Array.length_toList];omega))]))
  rw [ixA,ixA,Int.toNat_natCast,Int.toNat_natCast,swpA];refine zaH (zte 0 k a _ (by rw [swpZ];omega) (by rw [swpZ];exact hd) (by omega)) ?_
  (repeat (rw [zad (by first | omega | (unfold fits;omega) | (simp only [List.length_set,Array.length_toList];omega))]))
  exact zsP a n k _ (by omega) (by rw [zkM _ _ _ _ _ (Nat.le_refl _),swpZ];exact ha) (by rw [zkM _ _ _ _ _ (Nat.le_refl _),swpZ];exact hd)
theorem zwC (hi first:Nat):∀ (k:Nat) (d:Array Int),(Go.Sort.heapBuild Go.Sort.ltInt hi first k d).size=d.size
 | 0,_=>rfl
 | k+1,d=>by unfold Go.Sort.heapBuild;rw [zwC hi first k,zkM _ _ _ _ _ (Nat.le_refl _)]
theorem zsN (a b:Nat) (hab:a<=b):∀ (k:Nat) (d:Array Int),k<=b->b<=d.size->d.size<=1000000000->zd6 a b ((k:Int) - 1) d.toList=some (Go.Sort.heapPop Go.Sort.ltInt a (b - a) (Go.Sort.heapBuild Go.Sort.ltInt (b - a) a k d)).toList
 | 0,d,hk,hb,hd=>by
  rw [zhp];unfold zbr;rw [if_neg (by simp only [decide_eq_true_eq];omega),show (b:Int) - (a:Int)=((b - a:Nat):Int) by omega]
  (repeat (rw [zad (by first | omega | (unfold fits;omega) | (simp only [List.length_set,Array.length_toList];omega))]))
  exact zsP a (b - a) (b - a) d (Nat.le_refl _) (by omega) hd
 | k+1,d,hk,hb,hd=>by
  rw [zhp];unfold zbr;unfold Go.Sort.heapBuild;rw [show ((k+1:Nat):Int) - 1=(k:Int) by omega,if_pos (by simp only [decide_eq_true_eq];omega),show (b:Int) - (a:Int)=((b - a:Nat):Int) by omega]
  (repeat (rw [zad (by first | omega | (unfold fits;omega) | (simp only [List.length_set,Array.length_toList];omega))]))
  refine zaH (zte k (b - a) a d (by omega) hd (by omega)) ?_
  (repeat (rw [zad (by first | omega | (unfold fits;omega) | (simp only [List.length_set,Array.length_toList];omega))]))
  exact zsN a b hab k _ (by omega) (by rw [zkM _ _ _ _ _ (Nat.le_refl _)];exact hb) (by rw [zkM _ _ _ _ _ (Nat.le_refl _)];exact hd)
theorem zyA (a b:Nat) (d:Array Int) (hab:a < b) (hb:b<=d.size) (hd:d.size<=1000000000):zfb a b d.toList=some (Go.Sort.heapSort Go.Sort.ltInt d a b).toList:=by
 unfold zfb Go.Sort.heapSort;have e:Int.tdiv ((b:Int) - (a:Int) - 1) 2=(((b - a - 1) / 2+1:Nat):Int) - 1:=by
  rw [show (b:Int) - (a:Int) - 1=((b - a - 1:Nat):Int) by omega,show (2:Int)=((2:Nat):Int) from rfl,<- Int.ofNat_tdiv];omega
 rw [e]
 (repeat (rw [zad (by first | omega | (unfold fits;omega) | (simp only [List.length_set,Array.length_toList];omega))]))
 exact zsN a b (by omega) _ d (by omega) hb hd
theorem zoc (d:Array Int) (a b s:Nat) (ha:a < d.size) (hb:b < d.size) (hs:s<=1000):zdl d.toList a b s=some (((Go.Sort.order2 Go.Sort.ltInt d a b s).1:Int),((Go.Sort.order2 Go.Sort.ltInt d a b s).2.1:Int),((Go.Sort.order2 Go.Sort.ltInt d a b s).2.2:Int)):=by
 have hl:=d.length_toList;unfold zdl Go.Sort.order2
 (repeat (rw [zad (by first | omega | (unfold fits;omega) | (simp only [List.length_set,Array.length_toList];omega))]))
 rw [ixA,ixA,zjv];show (if Go.Sort.ltInt d[b]! d[a]! =true then _ else _)=_
 cases Go.Sort.ltInt d[b]! d[a]! with
 | true=>rw [if_pos rfl,if_pos rfl];(repeat (rw [zad (by first | omega | (unfold fits;omega) | (simp only [List.length_set,Array.length_toList];omega))]));rfl
 | false=>rw [if_neg (by simp),if_neg (by simp)]
theorem zir (d:Array Int) (a b s:Nat):(Go.Sort.order2 Go.Sort.ltInt d a b s).2.2<=s+1:=by
 unfold Go.Sort.order2;split<;>simp
theorem zrw (d:Array Int) (a b c s:Nat) (ha:a < d.size) (hb:b < d.size) (hc:c < d.size) (hs:s<=100):zeA d.toList a b c s=some (((Go.Sort.median Go.Sort.ltInt d a b c s).1:Int),((Go.Sort.median Go.Sort.ltInt d a b c s).2:Int)):=by
 unfold zeA Go.Sort.median;have h1:=Go.Sort.order2_mem Go.Sort.ltInt d a b s;have s1:=zir d a b s;have h2:=Go.Sort.order2_mem Go.Sort.ltInt d (Go.Sort.order2 Go.Sort.ltInt d a b s).2.1 c (Go.Sort.order2 Go.Sort.ltInt d a b s).2.2;have s2:=zir d (Go.Sort.order2 Go.Sort.ltInt d a b s).2.1 c (Go.Sort.order2 Go.Sort.ltInt d a b s).2.2;refine zaH (zoc d a b s ha hb (by omega)) ?_
 refine zaH (zoc d _ c _ (by omega) hc (by omega)) ?_
 refine zaH (zoc d _ _ _ (by omega) (by omega) (by omega)) ?_
 rfl
theorem zmY (d:Array Int) (a b c s:Nat):(Go.Sort.median Go.Sort.ltInt d a b c s).2<=s+3:=by
 have s1:=zir d a b s;have s2:=zir d (Go.Sort.order2 Go.Sort.ltInt d a b s).2.1 c (Go.Sort.order2 Go.Sort.ltInt d a b s).2.2;have s3:=zir d (Go.Sort.order2 Go.Sort.ltInt d a b s).1 (Go.Sort.order2 Go.Sort.ltInt d (Go.Sort.order2 Go.Sort.ltInt d a b s).2.1 c (Go.Sort.order2 Go.Sort.ltInt d a b s).2.2).1 (Go.Sort.order2 Go.Sort.ltInt d (Go.Sort.order2 Go.Sort.ltInt d a b s).2.1 c (Go.Sort.order2 Go.Sort.ltInt d a b s).2.2).2.2;unfold Go.Sort.median;show (Go.Sort.order2 _ _ _ _ _).2.2<=_;omega
theorem zn8 (d:Array Int) (a s:Nat) (h0:0 < a) (ha:a+1 < d.size) (hd:d.size<=1000000000) (hs:s<=100):zbW d.toList a s=some (((Go.Sort.medianAdjacent Go.Sort.ltInt d a s).1:Int),((Go.Sort.medianAdjacent Go.Sort.ltInt d a s).2:Int)):=by
 unfold zbW Go.Sort.medianAdjacent
 (repeat (rw [zad (by first | omega | (unfold fits;omega) | (simp only [List.length_set,Array.length_toList];omega))]))
 rw [show (a:Int) - 1=((a - 1:Nat):Int) by omega,show (a:Int)+1=((a+1:Nat):Int) by omega]
 exact zaH (zrw d _ _ _ _ (by omega) (by omega) ha hs) rfl
def zlW:Go.Sort.Hint->Int
 | .unknown=>0
 | .increasing=>1
 | .decreasing=>2
theorem zt8 (j s:Nat):zcL j s=some ((j:Int),zlW (if s=0 then .increasing else if s=12 then .decreasing else .unknown)):=by
 unfold zcL;by_cases c:s=0
 ·rw [if_pos (by simp [c]),if_pos c];rfl
 ·rw [if_neg (by simp;omega),if_neg c]
  by_cases c2:s=12
  ·rw [if_pos (by simp [c2]),if_pos c2];rfl
  ·rw [if_neg (by simp;omega),if_neg c2];rfl
theorem zxJ (d:Array Int) (a b:Nat) (hab:a < b) (hb:b<=d.size) (hd:d.size<=1000000000):zd3 d.toList a b=some (((Go.Sort.choosePivot Go.Sort.ltInt d a b).1:Int),zlW (Go.Sort.choosePivot Go.Sort.ltInt d a b).2):=by
 unfold zd3 Go.Sort.choosePivot;have e:Int.tdiv ((b:Int) - (a:Int)) 4=(((b - a) / 4:Nat):Int):=by
  rw [show (b:Int) - (a:Int)=((b - a:Nat):Int) by omega,show (4:Int)=((4:Nat):Int) from rfl,<- Int.ofNat_tdiv]
 have h4:=Nat.div_mul_le_self (b - a) 4;have h5:(b - a) / 4 * 4+4 > b - a:=by omega
 rw [e];dsimp only;generalize hq:(b - a) / 4=q at *
 rw [show (a:Int)+(q:Int) * 1=((a+q * 1:Nat):Int) by omega,show (a:Int)+(q:Int) * 2=((a+q * 2:Nat):Int) by omega,show (a:Int)+(q:Int) * 3=((a+q * 3:Nat):Int) by omega]
 (repeat (rw [zad (by first | omega | (unfold fits;omega) | (simp only [List.length_set,Array.length_toList];omega))]))
 have J10:∀ i j k s:Nat,i < d.size->j < d.size->k < d.size->s<=100->zcK d.toList i j k s=some (((Go.Sort.median Go.Sort.ltInt d i j k s).1:Int),zlW (if (Go.Sort.median Go.Sort.ltInt d i j k s).2=0 then .increasing else if (Go.Sort.median Go.Sort.ltInt d i j k s).2=12 then .decreasing else .unknown)):=fun i j k s h1 h2 h3 h4=>by
  unfold zcK;exact zaH (zrw d i j k s h1 h2 h3 h4) (zt8 _ _)
 by_cases c:8<=b - a
 ·rw [if_pos (by simp only [decide_eq_true_eq];omega),if_pos c]
  by_cases c2:50<=b - a
  ·rw [if_pos (by simp only [decide_eq_true_eq];omega),if_pos c2]
   have q1:=zmY d (a+q * 1 - 1) (a+q * 1) (a+q * 1+1) 0;have m1:=Go.Sort.median_mem Go.Sort.ltInt d (a+q * 1 - 1) (a+q * 1) (a+q * 1+1) 0;refine zaH (zn8 d (a+q * 1) 0 (by omega) (by omega) hd (by omega)) ?_
   unfold Go.Sort.medianAdjacent;generalize Go.Sort.median Go.Sort.ltInt d (a+q * 1 - 1) (a+q * 1) (a+q * 1+1) 0=r1 at *
   have q2:=zmY d (a+q * 2 - 1) (a+q * 2) (a+q * 2+1) r1.2;have m2:=Go.Sort.median_mem Go.Sort.ltInt d (a+q * 2 - 1) (a+q * 2) (a+q * 2+1) r1.2;refine zaH (zn8 d (a+q * 2) r1.2 (by omega) (by omega) hd (by omega)) ?_
   unfold Go.Sort.medianAdjacent;generalize Go.Sort.median Go.Sort.ltInt d (a+q * 2 - 1) (a+q * 2) (a+q * 2+1) r1.2=r2 at *
   have q3:=zmY d (a+q * 3 - 1) (a+q * 3) (a+q * 3+1) r2.2;have m3:=Go.Sort.median_mem Go.Sort.ltInt d (a+q * 3 - 1) (a+q * 3) (a+q * 3+1) r2.2;refine zaH (zn8 d (a+q * 3) r2.2 (by omega) (by omega) hd (by omega)) ?_
   unfold Go.Sort.medianAdjacent;generalize Go.Sort.median Go.Sort.ltInt d (a+q * 3 - 1) (a+q * 3) (a+q * 3+1) r2.2=r3 at *
   exact J10 r1.1 r2.1 r3.1 r3.2 (by omega) (by omega) (by omega) (by omega)
  ·rw [if_neg (by simp only [decide_eq_true_eq];omega),if_neg c2]
   exact J10 (a+q * 1) (a+q * 2) (a+q * 3) 0 (by omega) (by omega) (by omega) (by omega)
 ·rw [if_neg (by simp only [decide_eq_true_eq];omega),if_neg c]
  exact zt8 (a+q * 2) 0
theorem zy4:∀ (n i j:Nat) (d:Array Int),j - i<=n->j < d.size->d.size<=1000000000->zcN i j d.toList=some (Go.Sort.reverseLoop i j d).toList:=by
 intro n
 induction n with
 | zero=>
  intro i j d hn hj hd;rw [zf3];unfold za5;unfold Go.Sort.reverseLoop;rw [if_neg (by simp only [decide_eq_true_eq];omega),if_neg (by omega)]
 | succ n ih=>
  intro i j d hn hj hd;have hl:=d.length_toList;rw [zf3];unfold za5;unfold Go.Sort.reverseLoop;by_cases c:i < j
  ·rw [if_pos (by simp only [decide_eq_true_eq];omega),if_pos c]
   (repeat (rw [zad (by first | omega | (unfold fits;omega) | (simp only [List.length_set,Array.length_toList];omega))]))
   rw [ixA,ixA,Int.toNat_natCast,Int.toNat_natCast,swpA,show (j:Int) - 1=((j - 1:Nat):Int) by omega]
   exact ih (i+1) (j - 1) _ (by omega) (by rw [swpZ];omega) (by rw [swpZ];exact hd)
  ·rw [if_neg (by simp only [decide_eq_true_eq];omega),if_neg c]
theorem zAs (a b:Nat) (d:Array Int) (hab:a < b) (hb:b<=d.size) (hd:d.size<=1000000000):zdz a b d.toList=some (Go.Sort.reverseRange d a b).toList:=by
 unfold zdz Go.Sort.reverseRange
 (repeat (rw [zad (by first | omega | (unfold fits;omega) | (simp only [List.length_set,Array.length_toList];omega))]))
 rw [show (b:Int) - 1=((b - 1:Nat):Int) by omega]
 exact zy4 _ a (b - 1) d (Nat.le_refl _) (by omega) hd
theorem zyR (b:Nat) (j:Int) (r3:Int->Int->List Int->Option (Bool×List Int)) (i2:Int) (hj:0<=j/\j<=100):∀ (n k:Nat) (d:Array Int),b - k=n->0 < k->b<=d.size->d.size<=1000000000->
  zaB b j r3 i2 k d.toList=r3 i2 (j+1) (Go.Sort.shiftUp Go.Sort.ltInt b k d).toList:=by
 intro n
 induction n with
 | zero=>
  intro k d hn hk hb hd;rw [zdF];unfold zas;unfold Go.Sort.shiftUp;rw [if_neg (by simp only [decide_eq_true_eq];omega),if_neg (by omega)]
  (repeat (rw [zad (by first | omega | (unfold fits;omega) | (simp only [List.length_set,Array.length_toList];omega))]))
 | succ n ih=>
  intro k d hn hk hb hd;have hl:=d.length_toList;rw [zdF];unfold zas;unfold Go.Sort.shiftUp;rw [if_pos (by simp only [decide_eq_true_eq];omega),if_pos (by omega),show (k:Int) - 1=((k - 1:Nat):Int) by omega]
  (repeat (rw [zad (by first | omega | (unfold fits;omega) | (simp only [List.length_set,Array.length_toList];omega))]))
  rw [ixA,ixA,zjv];show (if (!Go.Sort.ltInt d[k]! d[k - 1]!)=true then _ else _)=_
  cases Go.Sort.ltInt d[k]! d[k - 1]! with
  | true=>
   rw [if_neg (by simp),if_neg (by simp)]
   (repeat (rw [zad (by first | omega | (unfold fits;omega) | (simp only [List.length_set,Array.length_toList];omega))]))
   rw [Int.toNat_natCast,Int.toNat_natCast,swpA];exact ih (k+1) _ (by omega) (by omega) (by rw [swpZ];exact hb) (by rw [swpZ];exact hd)
  | false=>
   rw [if_pos (by simp),if_pos (by simp)]
   (repeat (rw [zad (by first | omega | (unfold fits;omega) | (simp only [List.length_set,Array.length_toList];omega))]))
theorem zyP (b:Nat) (j:Int) (r3:Int->Int->List Int->Option (Bool×List Int)) (i2:Nat) (hj:0<=j/\j<=100) (d:Array Int) (hb:b<=d.size) (hd:d.size<=1000000000) (hi:i2<=b):
  zaj b j r3 i2 d.toList=r3 i2 (j+1) (if b - i2 ≥ 2 then Go.Sort.shiftUp Go.Sort.ltInt b (i2+1) d else d).toList:=by
 unfold zaj
 (repeat (rw [zad (by first | omega | (unfold fits;omega) | (simp only [List.length_set,Array.length_toList];omega))]))
 by_cases c:b - i2 ≥ 2
 ·rw [if_pos (by simp only [decide_eq_true_eq];omega),if_pos c]
  (repeat (rw [zad (by first | omega | (unfold fits;omega) | (simp only [List.length_set,Array.length_toList];omega))]))
  exact zyR b j r3 i2 hj _ (i2+1) d rfl (by omega) hb hd
 ·rw [if_neg (by simp only [decide_eq_true_eq];omega),if_neg c]
  (repeat (rw [zad (by first | omega | (unfold fits;omega) | (simp only [List.length_set,Array.length_toList];omega))]))
theorem zuC (b:Nat) (j:Int) (r3:Int->Int->List Int->Option (Bool×List Int)) (i2:Nat) (hj:0<=j/\j<=100) (hi:i2<=b):∀ (k:Nat) (d:Array Int),k < d.size->b<=d.size->d.size<=1000000000->
  zaA b j r3 i2 k d.toList=zaj b j r3 i2 (Go.Sort.shiftDown Go.Sort.ltInt k d).toList
 | 0,d,hk,hb,hd=>by
  rw [zdE];unfold zar;rw [if_neg (by simp)];rfl
 | k+1,d,hk,hb,hd=>by
  have hl:=d.length_toList;rw [zdE];unfold zar;unfold Go.Sort.shiftDown;rw [if_pos (by simp only [decide_eq_true_eq];omega),show ((k+1:Nat):Int) - 1=(k:Int) by omega]
  (repeat (rw [zad (by first | omega | (unfold fits;omega) | (simp only [List.length_set,Array.length_toList];omega))]))
  rw [ixA,ixA,zjv];show (if (!Go.Sort.ltInt d[k+1]! d[k]!)=true then _ else _)=_
  cases Go.Sort.ltInt d[k+1]! d[k]! with
  | true=>
   rw [if_neg (by simp),if_neg (by simp)]
   (repeat (rw [zad (by first | omega | (unfold fits;omega) | (simp only [List.length_set,Array.length_toList];omega))]))
   rw [Int.toNat_natCast,Int.toNat_natCast,swpA];exact zuC b j r3 i2 hj hi k _ (by rw [swpZ];omega) (by rw [swpZ];exact hb) (by rw [swpZ];exact hd)
  | false=>rw [if_pos (by simp),if_pos (by simp)]
theorem zqy:∀ (k:Nat) (d:Array Int),(Go.Sort.shiftDown Go.Sort.ltInt k d).size=d.size
 | 0,_=>rfl
 | k+1,d=>by
  unfold Go.Sort.shiftDown
  split
  ·rfl
  ·rw [zqy k,swpZ]
theorem zvs (b:Nat):∀ (n k:Nat) (d:Array Int),b - k=n->(Go.Sort.shiftUp Go.Sort.ltInt b k d).size=d.size:=by
 intro n
 induction n with
 | zero=>intro k d hn;unfold Go.Sort.shiftUp;rw [if_neg (by omega)]
 | succ n ih=>
  intro k d hn;unfold Go.Sort.shiftUp;rw [if_pos (by omega)]
  split
  ·rfl
  ·rw [ih _ _ (by omega),swpZ]
theorem zAo (a b:Nat) (j:Int) (d:Array Int) (r3:Int->Int->List Int->Option (Bool×List Int)) (hb:b<=d.size) (hd:d.size<=1000000000):∀ (n i:Nat),b - i=n->0 < i->
  zaF a b j d.toList r3 i=zaE a b j d.toList r3 (Go.Sort.scanSorted Go.Sort.ltInt d b i:Nat):=by
 intro n
 induction n with
 | zero=>
  intro i hn hi;rw [zdY];unfold zax;unfold Go.Sort.scanSorted;rw [if_neg (by simp only [decide_eq_true_eq];omega),show decide (i < b)=false from decide_eq_false (by omega),Bool.false_and,if_neg (by simp)]
 | succ n ih=>
  intro i hn hi;have hl:=d.length_toList;rw [zdY];unfold zax;unfold Go.Sort.scanSorted;rw [if_pos (by simp only [decide_eq_true_eq];omega),show (i:Int) - 1=((i - 1:Nat):Int) by omega]
  (repeat (rw [zad (by first | omega | (unfold fits;omega) | (simp only [List.length_set,Array.length_toList];omega))]))
  rw [ixA,ixA,zjv,show decide (i < b)=true from decide_eq_true (by omega),Bool.true_and]
  show (if (!Go.Sort.ltInt d[i]! d[i - 1]!)=true then _ else _)=_
  cases Go.Sort.ltInt d[i]! d[i - 1]! with
  | true=>rw [if_neg (by simp),if_neg (by simp)]
  | false=>
   rw [if_pos (by simp),if_pos (by simp)]
   (repeat (rw [zad (by first | omega | (unfold fits;omega) | (simp only [List.length_set,Array.length_toList];omega))]))
   exact ih (i+1) (by omega) (by omega)
theorem zxV (d:Array Int) (b:Nat):∀ (n i:Nat),b - i=n->i<=b->i<=Go.Sort.scanSorted Go.Sort.ltInt d b i/\Go.Sort.scanSorted Go.Sort.ltInt d b i<=b:=by
 intro n
 induction n with
 | zero=>intro i hn hi;unfold Go.Sort.scanSorted;rw [show decide (i < b)=false from decide_eq_false (by omega),Bool.false_and,if_neg (by simp)];omega
 | succ n ih=>
  intro i hn hi;unfold Go.Sort.scanSorted
  split
  ·have:=ih (i+1) (by omega) (by omega);omega
  ·omega
theorem zvX (a b:Nat) (hab:a < b):∀ (s i:Nat) (d:Array Int),s<=5->a < i->i<=b->b<=d.size->d.size<=1000000000->
  zbi a b i (5 - (s:Int)) d.toList=some ((Go.Sort.partialIns Go.Sort.ltInt a b s i d).2,(Go.Sort.partialIns Go.Sort.ltInt a b s i d).1.toList)
 | 0,i,d,hs,hi,hib,hb,hd=>by
  rw [zdX];unfold zaw;rw [if_neg (by simp)];rfl
 | s+1,i,d,hs,hi,hib,hb,hd=>by
  have hl:=d.length_toList;rw [zdX];unfold zaw;unfold Go.Sort.partialIns;rw [if_pos (by simp only [decide_eq_true_eq];omega),zAo a b _ d _ hb hd _ i rfl (by omega)]
  obtain ⟨k1,k2⟩:=zxV d b _ i rfl hib;dsimp only;generalize Go.Sort.scanSorted Go.Sort.ltInt d b i=k at *
  unfold zaE;by_cases c1:k=b
  ·rw [if_pos (by simp [c1]),if_pos c1]
  ·rw [if_neg (by simp only [decide_eq_true_eq];omega),if_neg c1]
   (repeat (rw [zad (by first | omega | (unfold fits;omega) | (simp only [List.length_set,Array.length_toList];omega))]))
   by_cases c2:b - a < 50
   ·rw [if_pos (by simp only [decide_eq_true_eq];omega),if_pos c2]
   ·rw [if_neg (by simp only [decide_eq_true_eq];omega),if_neg c2,show (k:Int) - 1=((k - 1:Nat):Int) by omega]
    (repeat (rw [zad (by first | omega | (unfold fits;omega) | (simp only [List.length_set,Array.length_toList];omega))]))
    rw [ixA,ixA,Int.toNat_natCast,Int.toNat_natCast,swpA];have hz:=swpZ d k (k - 1);have e5:(5 - ((s+1:Nat):Int))+1=5 - (s:Int):=by omega
    have fin:∀ d2:Array Int,d2.size=d.size->zaj b (5 - ((s+1:Nat):Int)) (zbi a b) k d2.toList=some ((Go.Sort.partialIns Go.Sort.ltInt a b s k (if b - k ≥ 2 then Go.Sort.shiftUp Go.Sort.ltInt b (k+1) d2 else d2)).2,(Go.Sort.partialIns Go.Sort.ltInt a b s k (if b - k ≥ 2 then Go.Sort.shiftUp Go.Sort.ltInt b (k+1) d2 else d2)).1.toList):=fun d2 h2=>by
     rw [zyP b _ _ k (by omega) d2 (by omega) (by omega) k2,e5]
     have hz2:(if b - k ≥ 2 then Go.Sort.shiftUp Go.Sort.ltInt b (k+1) d2 else d2).size=d2.size:=by
      split
      ·exact zvs b _ _ _ rfl
      ·rfl
     exact zvX a b hab s k _ (by omega) (by omega) k2 (by omega) (by omega)
    by_cases c3:k - a ≥ 2
    ·rw [if_pos (by simp only [decide_eq_true_eq];omega),if_pos c3,zuC b _ _ k (by omega) k2 (k - 1) _ (by omega) (by omega) (by omega)]
     exact fin _ ((zqy _ _).trans hz)
    ·rw [if_neg (by simp only [decide_eq_true_eq];omega),if_neg c3]
     exact fin _ hz
theorem zvl (a b:Nat) (d:Array Int) (hab:a < b) (hb:b<=d.size) (hd:d.size<=1000000000):zca a b d.toList=some ((Go.Sort.partialInsertionSort Go.Sort.ltInt d a b).2,(Go.Sort.partialInsertionSort Go.Sort.ltInt d a b).1.toList):=by
 unfold zca Go.Sort.partialInsertionSort
 (repeat (rw [zad (by first | omega | (unfold fits;omega) | (simp only [List.length_set,Array.length_toList];omega))]))
 exact zvX a b hab 5 (a+1) d (Nat.le_refl _) (by omega) (by omega) hb hd
theorem zvV (a i2:Nat) (d:Array Int) (r:Int->Int->List Int->Option (Int×List Int)) (ha:a < d.size) (hd:d.size<=1000000000) (hi:0 < i2):∀ j:Nat,j < d.size->
  za3 a d.toList r i2 j=za1 d.toList r i2 (Go.Sort.scanDown (fun x=>Go.Sort.ltInt d[a]! x) d i2 j:Nat)
 | 0,hj=>by
  rw [zfj];unfold zaN;rw [if_neg (by simp only [decide_eq_true_eq];omega)];rfl
 | j+1,hj=>by
  have hl:=d.length_toList;rw [zfj];unfold zaN;unfold Go.Sort.scanDown;by_cases c:i2<=j+1
  ·rw [if_pos (by simp only [decide_eq_true_eq];omega)]
   (repeat (rw [zad (by first | omega | (unfold fits;omega) | (simp only [List.length_set,Array.length_toList];omega))]))
   rw [ixA,ixA,zjv,show decide (i2<=j+1)=true from decide_eq_true c,Bool.true_and];show (if Go.Sort.ltInt d[a]! d[j+1]! =true then _ else _)=_
   cases Go.Sort.ltInt d[a]! d[j+1]! with
   | true=>
    rw [if_pos rfl,if_pos rfl]
    (repeat (rw [zad (by first | omega | (unfold fits;omega) | (simp only [List.length_set,Array.length_toList];omega))]))
    rw [show ((j+1:Nat):Int) - 1=(j:Int) by omega]
    exact zvV a i2 d r ha hd hi j (by omega)
   | false=>rw [if_neg (by simp),if_neg (by simp)]
  ·rw [if_neg (by simp only [decide_eq_true_eq];omega),show decide (i2<=j+1)=false from decide_eq_false c,Bool.false_and,if_neg (by simp)]
theorem zAm (a j:Nat) (d:Array Int) (r:Int->Int->List Int->Option (Int×List Int)) (ha:a < d.size) (hj:j < d.size) (hd:d.size<=1000000000):∀ (n i:Nat),j+1 - i=n->
  za2 a j d.toList r i=za0 a j d.toList r (Go.Sort.scanUp (fun x => !Go.Sort.ltInt d[a]! x) d j i:Nat):=by
 intro n
 induction n with
 | zero=>
  intro i hn;rw [zfh];unfold zaM;unfold Go.Sort.scanUp;rw [if_neg (by simp only [decide_eq_true_eq];omega),show decide (i<=j)=false from decide_eq_false (by omega),Bool.false_and,if_neg (by simp)]
 | succ n ih=>
  intro i hn;have hl:=d.length_toList;rw [zfh];unfold zaM;unfold Go.Sort.scanUp;rw [if_pos (by simp only [decide_eq_true_eq];omega),show decide (i<=j)=true from decide_eq_true (by omega),Bool.true_and]
  (repeat (rw [zad (by first | omega | (unfold fits;omega) | (simp only [List.length_set,Array.length_toList];omega))]))
  rw [ixA,ixA,zjv];show (if (!Go.Sort.ltInt d[a]! d[i]!)=true then _ else _)=_
  cases Go.Sort.ltInt d[a]! d[i]! with
  | true=>rw [if_neg (by simp),if_neg (by simp)]
  | false=>
   rw [if_pos (by simp),if_pos (by simp)]
   (repeat (rw [zad (by first | omega | (unfold fits;omega) | (simp only [List.length_set,Array.length_toList];omega))]))
   exact ih (i+1) (by omega)
theorem zyN (a:Nat):∀ (n i j:Nat) (d:Array Int),j+1 - i<=n->a < i->j < d.size->a < d.size->d.size<=1000000000->
  zcs a i j d.toList=some (((Go.Sort.partEqLoop Go.Sort.ltInt a i j d).1:Int),(Go.Sort.partEqLoop Go.Sort.ltInt a i j d).2.toList):=by
 intro n
 induction n using Nat.strongRecOn with
 | ind n ih=>
  intro i j d hn hi hj ha hd;have hl:=d.length_toList;rw [ziU];unfold za7;have g1:=Go.Sort.scanUp_ge (fun x => !Go.Sort.ltInt d[a]! x) d j i
  have u1:=Go.Sort.scanUp_spec (fun x => !Go.Sort.ltInt d[a]! x) d j _ i rfl
  rw [zAm a j d _ ha hj hd _ i rfl,Go.Sort.partEqLoop_eq];unfold za0;generalize Go.Sort.scanUp (fun x => !Go.Sort.ltInt d[a]! x) d j i=i2 at *
  have g2:=Go.Sort.scanDown_le (fun x=>Go.Sort.ltInt d[a]! x) d i2 j
  rw [zvV a i2 d _ ha hd (by omega) j hj]
  unfold za1;generalize Go.Sort.scanDown (fun x=>Go.Sort.ltInt d[a]! x) d i2 j=j2 at *
  by_cases c:i2 > j2
  ·rw [if_pos (by simp only [decide_eq_true_eq];omega),if_pos c]
  ·rw [if_neg (by simp only [decide_eq_true_eq];omega),if_neg c]
   (repeat (rw [zad (by first | omega | (unfold fits;omega) | (simp only [List.length_set,Array.length_toList];omega))]))
   rw [ixA,ixA,Int.toNat_natCast,Int.toNat_natCast,swpA,show (j2:Int) - 1=((j2 - 1:Nat):Int) by omega]
   exact ih (j2 - 1+1 - (i2+1)) (by omega) (i2+1) (j2 - 1) _ (Nat.le_refl _) (by omega) (by rw [swpZ];omega) (by rw [swpZ];exact ha) (by rw [swpZ];exact hd)
theorem zwR (a b pivot:Nat) (d:Array Int) (h1:a<=pivot) (h2:pivot < b) (hb:b<=d.size) (hd:d.size<=1000000000):zcV a b pivot d.toList=some (((Go.Sort.partitionEqual Go.Sort.ltInt d a b pivot).1:Int),(Go.Sort.partitionEqual Go.Sort.ltInt d a b pivot).2.toList):=by
 have hl:=d.length_toList;unfold zcV Go.Sort.partitionEqual
 (repeat (rw [zad (by first | omega | (unfold fits;omega) | (simp only [List.length_set,Array.length_toList];omega))]))
 rw [ixA,ixA,Int.toNat_natCast,Int.toNat_natCast,swpA,show (b:Int) - 1=((b - 1:Nat):Int) by omega]
 exact zyN a _ (a+1) (b - 1) _ (Nat.le_refl _) (by omega) (by rw [swpZ];omega) (by rw [swpZ];omega) (by rw [swpZ];exact hd)
theorem zvQ (a i2:Nat) (d:Array Int) (r:Int->Int->List Int->Option (Int×Bool×List Int)) (ha:a < d.size) (hd:d.size<=1000000000) (hi:0 < i2):∀ j:Nat,j < d.size->
  zbA a d.toList r i2 j=zby a d.toList r i2 (Go.Sort.scanDown (fun x => !Go.Sort.ltInt x d[a]!) d i2 j:Nat)
 | 0,hj=>by
  rw [zgC];unfold zbg;rw [if_neg (by simp only [decide_eq_true_eq];omega)];rfl
 | j+1,hj=>by
  have hl:=d.length_toList;rw [zgC];unfold zbg;unfold Go.Sort.scanDown;by_cases c:i2<=j+1
  ·rw [if_pos (by simp only [decide_eq_true_eq];omega)]
   (repeat (rw [zad (by first | omega | (unfold fits;omega) | (simp only [List.length_set,Array.length_toList];omega))]))
   rw [ixA,ixA,zjv,show decide (i2<=j+1)=true from decide_eq_true c,Bool.true_and];show (if (!Go.Sort.ltInt d[j+1]! d[a]!)=true then _ else _)=_
   cases Go.Sort.ltInt d[j+1]! d[a]! with
   | false=>
    rw [if_pos (by simp),if_pos (by simp)]
    (repeat (rw [zad (by first | omega | (unfold fits;omega) | (simp only [List.length_set,Array.length_toList];omega))]))
    rw [show ((j+1:Nat):Int) - 1=(j:Int) by omega]
    exact zvQ a i2 d r ha hd hi j (by omega)
   | true=>rw [if_neg (by simp),if_neg (by simp)]
  ·rw [if_neg (by simp only [decide_eq_true_eq];omega),show decide (i2<=j+1)=false from decide_eq_false c,Bool.false_and,if_neg (by simp)]
theorem zAi (a j:Nat) (d:Array Int) (r:Int->Int->List Int->Option (Int×Bool×List Int)) (ha:a < d.size) (hj:j < d.size) (hd:d.size<=1000000000):∀ (n i:Nat),j+1 - i=n->
  zbz a j d.toList r i=zbx a j d.toList r (Go.Sort.scanUp (fun x=>Go.Sort.ltInt x d[a]!) d j i:Nat):=by
 intro n
 induction n with
 | zero=>
  intro i hn;rw [zgA];unfold zbf;unfold Go.Sort.scanUp;rw [if_neg (by simp only [decide_eq_true_eq];omega),show decide (i<=j)=false from decide_eq_false (by omega),Bool.false_and,if_neg (by simp)]
 | succ n ih=>
  intro i hn;have hl:=d.length_toList;rw [zgA];unfold zbf;unfold Go.Sort.scanUp;rw [if_pos (by simp only [decide_eq_true_eq];omega),show decide (i<=j)=true from decide_eq_true (by omega),Bool.true_and]
  (repeat (rw [zad (by first | omega | (unfold fits;omega) | (simp only [List.length_set,Array.length_toList];omega))]))
  rw [ixA,ixA,zjv];show (if Go.Sort.ltInt d[i]! d[a]! =true then _ else _)=_
  cases Go.Sort.ltInt d[i]! d[a]! with
  | false=>rw [if_neg (by simp),if_neg (by simp)]
  | true=>
   rw [if_pos (by simp),if_pos (by simp)]
   (repeat (rw [zad (by first | omega | (unfold fits;omega) | (simp only [List.length_set,Array.length_toList];omega))]))
   exact ih (i+1) (by omega)
theorem zyJ (a:Nat):∀ (n i j:Nat) (d:Array Int),j+1 - i<=n->a < i->j < d.size->a < d.size->d.size<=1000000000->
  zcW a i j d.toList=some (((Go.Sort.partLoop Go.Sort.ltInt a i j d).1:Int),false,(Go.Sort.swp (Go.Sort.partLoop Go.Sort.ltInt a i j d).2 (Go.Sort.partLoop Go.Sort.ltInt a i j d).1 a).toList):=by
 intro n
 induction n using Nat.strongRecOn with
 | ind n ih=>
  intro i j d hn hi hj ha hd;have hl:=d.length_toList;rw [zkv];unfold zbK;have g1:=Go.Sort.scanUp_ge (fun x=>Go.Sort.ltInt x d[a]!) d j i
  rw [zAi a j d _ ha hj hd _ i rfl,Go.Sort.partLoop_eq];unfold zbx;generalize Go.Sort.scanUp (fun x=>Go.Sort.ltInt x d[a]!) d j i=i2 at *
  have g2:=Go.Sort.scanDown_le (fun x => !Go.Sort.ltInt x d[a]!) d i2 j
  rw [zvQ a i2 d _ ha hd (by omega) j hj]
  unfold zby;generalize Go.Sort.scanDown (fun x => !Go.Sort.ltInt x d[a]!) d i2 j=j2 at *
  by_cases c:i2 > j2
  ·rw [if_pos (by simp only [decide_eq_true_eq];omega),if_pos c]
   (repeat (rw [zad (by first | omega | (unfold fits;omega) | (simp only [List.length_set,Array.length_toList];omega))]))
   rw [ixA,ixA,Int.toNat_natCast,Int.toNat_natCast,swpA]
  ·rw [if_neg (by simp only [decide_eq_true_eq];omega),if_neg c]
   (repeat (rw [zad (by first | omega | (unfold fits;omega) | (simp only [List.length_set,Array.length_toList];omega))]))
   rw [ixA,ixA,Int.toNat_natCast,Int.toNat_natCast,swpA,show (j2:Int) - 1=((j2 - 1:Nat):Int) by omega]
   exact ih (j2 - 1+1 - (i2+1)) (by omega) (i2+1) (j2 - 1) _ (Nat.le_refl _) (by omega) (by rw [swpZ];omega) (by rw [swpZ];exact ha) (by rw [swpZ];exact hd)
theorem zxH (a pivot i1:Nat) (d:Array Int) (ha:a < d.size) (hp:pivot < d.size) (hd:d.size<=1000000000) (hi:0 < i1):∀ j:Nat,j < d.size->
  zdx a pivot d.toList i1 j=zdv a pivot d.toList i1 (Go.Sort.scanDown (fun x => !Go.Sort.ltInt x (Go.Sort.swp d a pivot)[a]!) (Go.Sort.swp d a pivot) i1 j:Nat)
 | 0,hj=>by
  rw [zhc];unfold zbm;rw [if_neg (by simp only [decide_eq_true_eq];omega)];rfl
 | j+1,hj=>by
  have hl:=d.length_toList;have hz:=swpZ d a pivot;have hl2:=(Go.Sort.swp d a pivot).length_toList;rw [zhc];unfold zbm;unfold Go.Sort.scanDown;rw [ixA d pivot,ixA d a,Int.toNat_natCast a,Int.toNat_natCast pivot,swpA];by_cases c:i1<=j+1
  ·rw [if_pos (by simp only [decide_eq_true_eq];omega)]
   (repeat (rw [zad (by first | omega | (unfold fits;omega) | (simp only [List.length_set,Array.length_toList];omega))]))
   rw [ixA,ixA,zjv,show decide (i1<=j+1)=true from decide_eq_true c,Bool.true_and];show (if (!Go.Sort.ltInt (Go.Sort.swp d a pivot)[j+1]! (Go.Sort.swp d a pivot)[a]!)=true then _ else _)=_
   cases Go.Sort.ltInt (Go.Sort.swp d a pivot)[j+1]! (Go.Sort.swp d a pivot)[a]! with
   | false=>
    rw [if_pos (by simp),if_pos (by simp)]
    (repeat (rw [zad (by first | omega | (unfold fits;omega) | (simp only [List.length_set,Array.length_toList];omega))]))
    rw [show ((j+1:Nat):Int) - 1=(j:Int) by omega]
    exact zxH a pivot i1 d ha hp hd hi j (by omega)
   | true=>rw [if_neg (by simp),if_neg (by simp)]
  ·rw [if_neg (by simp only [decide_eq_true_eq];omega),show decide (i1<=j+1)=false from decide_eq_false c,Bool.false_and,if_neg (by simp)]
theorem zBM (a b pivot:Nat) (d:Array Int) (ha:a < d.size) (hp:pivot < d.size) (hb0:0 < b) (hb:b<=d.size) (hd:d.size<=1000000000):∀ (n i:Nat),b - 1+1 - i=n->
  zdw a b pivot d.toList i=zdu a b pivot d.toList (Go.Sort.scanUp (fun x=>Go.Sort.ltInt x (Go.Sort.swp d a pivot)[a]!) (Go.Sort.swp d a pivot) (b - 1) i:Nat):=by
 intro n;have hl:=d.length_toList;have hz:=swpZ d a pivot;have hl2:=(Go.Sort.swp d a pivot).length_toList
 induction n with
 | zero=>
  intro i hn;rw [zhb];unfold zbl;unfold Go.Sort.scanUp
  (repeat (rw [zad (by first | omega | (unfold fits;omega) | (simp only [List.length_set,Array.length_toList];omega))]))
  rw [if_neg (by simp only [decide_eq_true_eq];omega),show decide (i<=b - 1)=false from decide_eq_false (by omega),Bool.false_and,if_neg (by simp)]
 | succ n ih=>
  intro i hn;rw [zhb];unfold zbl;unfold Go.Sort.scanUp
  (repeat (rw [zad (by first | omega | (unfold fits;omega) | (simp only [List.length_set,Array.length_toList];omega))]))
  rw [ixA d pivot,ixA d a,Int.toNat_natCast a,Int.toNat_natCast pivot,swpA];rw [if_pos (by simp only [decide_eq_true_eq];omega),show decide (i<=b - 1)=true from decide_eq_true (by omega),Bool.true_and]
  (repeat (rw [zad (by first | omega | (unfold fits;omega) | (simp only [List.length_set,Array.length_toList];omega))]))
  rw [ixA,ixA,zjv];show (if Go.Sort.ltInt (Go.Sort.swp d a pivot)[i]! (Go.Sort.swp d a pivot)[a]! =true then _ else _)=_
  cases Go.Sort.ltInt (Go.Sort.swp d a pivot)[i]! (Go.Sort.swp d a pivot)[a]! with
  | false=>rw [if_neg (by simp),if_neg (by simp)]
  | true=>
   rw [if_pos (by simp),if_pos (by simp)]
   (repeat (rw [zad (by first | omega | (unfold fits;omega) | (simp only [List.length_set,Array.length_toList];omega))]))
   exact ih (i+1) (by omega)
theorem zyL (a b pivot:Nat) (d:Array Int) (h1:a<=pivot) (h2:pivot < b) (hb:b<=d.size) (hd:d.size<=1000000000):zeG a b pivot d.toList=some (((Go.Sort.partition Go.Sort.ltInt d a b pivot).1:Int),(Go.Sort.partition Go.Sort.ltInt d a b pivot).2.1,(Go.Sort.partition Go.Sort.ltInt d a b pivot).2.2.toList):=by
 have hl:=d.length_toList;have hz:=swpZ d a pivot;have hl2:=(Go.Sort.swp d a pivot).length_toList;unfold zeG Go.Sort.partition;dsimp only
 (repeat (rw [zad (by first | omega | (unfold fits;omega) | (simp only [List.length_set,Array.length_toList];omega))]))
 have g1:=Go.Sort.scanUp_ge (fun x=>Go.Sort.ltInt x (Go.Sort.swp d a pivot)[a]!) (Go.Sort.swp d a pivot) (b - 1) (a+1)
 have e1:=zBM a b pivot d (by omega) (by omega) (by omega) hb hd _ (a+1) rfl
 rw [show ((a+1:Nat):Int)=(a:Int)+1 by omega] at e1
 rw [e1];unfold zdu;generalize Go.Sort.scanUp (fun x=>Go.Sort.ltInt x (Go.Sort.swp d a pivot)[a]!) (Go.Sort.swp d a pivot) (b - 1) (a+1)=i1 at *
 have g2:=Go.Sort.scanDown_le (fun x => !Go.Sort.ltInt x (Go.Sort.swp d a pivot)[a]!) (Go.Sort.swp d a pivot) i1 (b - 1)
 rw [show (b:Int) - 1=((b - 1:Nat):Int) by omega]
 (repeat (rw [zad (by first | omega | (unfold fits;omega) | (simp only [List.length_set,Array.length_toList];omega))]))
 rw [zxH a pivot i1 d (by omega) (by omega) hd (by omega) (b - 1) (by omega)]
 unfold zdv;generalize Go.Sort.scanDown (fun x => !Go.Sort.ltInt x (Go.Sort.swp d a pivot)[a]!) (Go.Sort.swp d a pivot) i1 (b - 1)=j1 at *
 rw [ixA d pivot,ixA d a,Int.toNat_natCast a,Int.toNat_natCast pivot,swpA];by_cases c:i1 > j1
 ·rw [if_pos (by simp only [decide_eq_true_eq];omega),if_pos c]
  (repeat (rw [zad (by first | omega | (unfold fits;omega) | (simp only [List.length_set,Array.length_toList];omega))]))
  rw [ixA,ixA,Int.toNat_natCast,swpA]
 ·rw [if_neg (by simp only [decide_eq_true_eq];omega),if_neg c]
  (repeat (rw [zad (by first | omega | (unfold fits;omega) | (simp only [List.length_set,Array.length_toList];omega))]))
  rw [ixA,ixA,Int.toNat_natCast,Int.toNat_natCast,swpA,show (j1:Int) - 1=((j1 - 1:Nat):Int) by omega]
  exact zyJ a _ (i1+1) (j1 - 1) _ (Nat.le_refl _) (by omega) (by rw [swpZ];omega) (by rw [swpZ];omega) (by rw [swpZ];omega)
theorem zzT (a b:Nat) (M:Int) (h8:a+8<=b) (hM:0 < M/\M<=2 * ((b:Int) - a)):∀ (n idx:Nat) (rnd:Int) (d:Array Int),a+(b - a) / 4 * 2+2 - idx=n->a<=idx->b<=d.size->d.size<=1000000000->
  ∃ d',zb3 a b M idx d.toList rnd=some d'.toList/\Go.Sort.PermIn a b d d':=by
 intro n;have e:Int.tdiv ((b:Int) - (a:Int)) 4=(((b - a) / 4:Nat):Int):=by
  rw [show (b:Int) - (a:Int)=((b - a:Nat):Int) by omega,show (4:Int)=((4:Nat):Int) from rfl,<- Int.ofNat_tdiv]
 have h4:=Nat.div_mul_le_self (b - a) 4
 induction n with
 | zero=>
  intro idx rnd d hn hi hb hd;refine ⟨d,?_,Go.Sort.permIn_refl d a b⟩
  rw [zfs];unfold zaP;rw [e]
  (repeat (rw [zad (by first | omega | (unfold fits;omega) | (simp only [List.length_set,Array.length_toList];omega))]))
  rw [if_neg (by simp only [decide_eq_true_eq];omega)]
 | succ n ih=>
  intro idx rnd d hn hi hb hd;have hl:=d.length_toList;rw [zfs];unfold zaP;rw [e]
  (repeat (rw [zad (by first | omega | (unfold fits;omega) | (simp only [List.length_set,Array.length_toList];omega))]))
  rw [if_pos (by simp only [decide_eq_true_eq];omega)]
  unfold zeD;rw [zad (by omega),zad (by omega),zad (by omega)]
  simp only [Option.bind_some];generalize ixor .u64 _ _=rn;rw [zqT (x:=M - 1) (by omega) (by omega)]
  have hia:=zEr (x:=rn) (y:=M - 1) (by omega) (by omega)
  generalize iand .u64 rn (M - 1)=o at *
  rw [zzf (x:=o) (by omega) (by omega)]
  have J9:∀ t:Nat,t < b - a->∃ d',za9 a idx d.toList (zb3 a b M) rn t=some d'.toList/\Go.Sort.PermIn a b d d':=fun t ht=>by
   unfold za9;rw [show (a:Int)+(t:Int)=((a+t:Nat):Int) by omega]
   (repeat (rw [zad (by first | omega | (unfold fits;omega) | (simp only [List.length_set,Array.length_toList];omega))]))
   rw [ixA,ixA,Int.toNat_natCast,Int.toNat_natCast,swpA,show (idx:Int)+1=((idx+1:Nat):Int) by omega]
   obtain ⟨d',e',p'⟩:=ih (idx+1) rn (Go.Sort.swp d idx (a+t)) (by omega) (by omega) (by rw [swpZ];exact hb) (by rw [swpZ];exact hd)
   exact ⟨d',e',Go.Sort.permIn_trans d _ d' a b (Go.Sort.swp_permIn d a b idx (a+t) hi (by omega) (by omega) (by omega) hb) p'⟩
  by_cases c:(b:Int) - (a:Int)<=o
  ·rw [if_pos (decide_eq_true c),zad (by unfold fits;omega),show o - ((b:Int) - (a:Int))=((o - ((b:Int) - (a:Int))).toNat:Int) by omega]
   exact J9 _ (by omega)
  ·rw [if_neg (by simpa using c),show o=(o.toNat:Int) by omega]
   exact J9 _ (by omega)
theorem zxd (a b:Nat) (d:Array Int) (hab:a<=b) (hb:b<=d.size) (hd:d.size<=1000000000):∃ d',zdb a b d.toList=some d'.toList/\Go.Sort.PermIn a b d d':=by
 unfold zdb
 (repeat (rw [zad (by first | omega | (unfold fits;omega) | (simp only [List.length_set,Array.length_toList];omega))]))
 by_cases c:8<=b - a
 ·rw [if_pos (by simp only [decide_eq_true_eq];omega)]
  obtain ⟨M,e,h⟩:=zBF (n:=(b:Int) - (a:Int)) (by omega) (by omega)
  rw [e];have e4:Int.tdiv ((b:Int) - (a:Int)) 4=(((b - a) / 4:Nat):Int):=by
   rw [show (b:Int) - (a:Int)=((b - a:Nat):Int) by omega,show (4:Int)=((4:Nat):Int) from rfl,<- Int.ofNat_tdiv]
  show ∃ d',G _ _=_/\_;rw [e4];have h4:=Nat.div_mul_le_self (b - a) 4
  (repeat (rw [zad (by first | omega | (unfold fits;omega) | (simp only [List.length_set,Array.length_toList];omega))]))
  rw [show (a:Int)+(((b - a) / 4:Nat):Int) * 2 - 1=((a+(b - a) / 4 * 2 - 1:Nat):Int) by omega]
  exact zzT a b M (by omega) h _ _ _ d rfl (by omega) hb hd
 ·rw [if_neg (by simp only [decide_eq_true_eq];omega)]
  exact ⟨d,rfl,Go.Sort.permIn_refl d a b⟩
def zkD (n:Nat):Prop:=∀ (a b lim:Nat) (wb wp:Bool) (d:Array Int),b - a<=n->a<=b->b<=d.size->d.size<=1000000000->lim<=64->Go.Sort.Below Go.Sort.ltInt a b d->
 ∃ d',zao zal a b lim wb wp d.toList=some d'.toList/\Go.Sort.PermIn a b d d'/\Go.Sort.SortedIn Go.Sort.ltInt a b d'
theorem zoe (a b lim:Nat) (l:List Int):zal a b lim l=zao zal a b lim true true l:=by
 rw [znX];unfold zcC;rfl
theorem zvK (hS:Go.Sort.SWO Go.Sort.ltInt) {n:Nat} (ih:∀ m,m < n->zkD m) (a b lim pivot:Nat) (wb wp:Bool) (d:Array Int) (hn:b - a=n) (hab:a < b) (hb:b<=d.size) (hd:d.size<=1000000000) (hlim:lim<=64) (hB:Go.Sort.Below Go.Sort.ltInt a b d) (p0:a<=pivot) (p1:pivot < b) (t:Bool) (ht:t=true->0 < a/\Go.Sort.ltInt d[a - 1]! d[pivot]! =false):
  ∃ d',zbQ zal a b wb wp (zao zal) lim pivot d.toList t=some d'.toList/\Go.Sort.PermIn a b d d'/\Go.Sort.SortedIn Go.Sort.ltInt a b d':=by
 unfold zbQ
 cases t with
 | true=>
  obtain ⟨ha,hlt⟩:=ht rfl;have hle:∀ i,a<=i->i < b->Go.Sort.ltInt d[i]! d[pivot]! =false:=fun i i0 i1=>hS.ntrans _ _ _ ((hB.resolve_left (by omega)) i i0 i1) hlt
  obtain ⟨q1,q2,q3,q4,q5⟩:=Go.Sort.partitionEqual_holds Go.Sort.ltInt hS d a b pivot p0 p1 hb hle;rw [if_pos rfl,zwR a b pivot d p0 p1 hb hd];simp only [Option.bind_some];have hall:=Go.Sort.permIn_all d (Go.Sort.partitionEqual Go.Sort.ltInt d a b pivot).2 a b (fun x=>Go.Sort.ltInt x d[pivot]! =false) hb q3 hle
  generalize Go.Sort.partitionEqual Go.Sort.ltInt d a b pivot=r at *
  obtain ⟨mid,d4⟩:=r;dsimp only at q1 q2 q3 q4 q5 hall ⊢;have hz:=q3.1;obtain ⟨R,e,r1,r2⟩:=ih (b - mid) (by omega) mid b lim wb wp d4 (Nat.le_refl _) q2 (by omega) (by omega) hlim (.inr fun i i0 i1=>by
   cases hc:Go.Sort.ltInt d4[i]! d4[mid - 1]! with
   | false=>rfl
   | true=>have:=hS.trans _ _ _ (q5 i i0 i1) hc;rw [q4 (mid - 1) (by omega) (by omega)] at this;cases this)
  have hm:=Go.Sort.permIn_mono d4 R mid b a b (by omega) (Nat.le_refl _) (by omega) r1
  refine ⟨R,e,Go.Sort.permIn_trans d d4 R a b q3 hm,?_⟩
  have hout:∀ i,i < mid->R[i]! =d4[i]! :=fun i h=>r1.2.1 i (.inl h)
  have hin:=Go.Sort.permIn_all d4 R mid b (fun x=>Go.Sort.ltInt d[pivot]! x=true) (by omega) r1 q5
  exact Go.Sort.sorted_glue_eq hS d[pivot]! r2 (fun i i0 i1=>by rw [hout i i1];exact q4 i i0 i1) (fun i i0 i1=>by rw [hout i i1];exact hall i i0 (by omega)) hin
 | false=>
  obtain ⟨q1,q2,q3,q4,q5⟩:=Go.Sort.partition_holds Go.Sort.ltInt hS d a b pivot p0 p1 hb;rw [if_neg (by simp),zyL a b pivot d p0 p1 hb hd]
  simp only [Option.bind_some];have hB4:=hB.perm hb q3;generalize Go.Sort.partition Go.Sort.ltInt d a b pivot=r at *
  obtain ⟨mid,al,d4⟩:=r;dsimp only at q1 q2 q3 q4 q5 hB4 ⊢;have hz:=q3.1;have e8:Int.tdiv ((b:Int) - (a:Int)) 8=(((b - a) / 8:Nat):Int):=by
   rw [show (b:Int) - (a:Int)=((b - a:Nat):Int) by omega,show (8:Int)=((8:Nat):Int) from rfl,<- Int.ofNat_tdiv]
  have h8:=Nat.div_mul_le_self (b - a) 8;rw [e8]
  (repeat (rw [zad (by first | omega | (unfold fits;omega) | (simp only [List.length_set,Array.length_toList];omega))]))
  have e1:(mid:Int)+1=((mid+1:Nat):Int):=by omega
  rw [e1];have left:∀ (d5:Array Int) (wb wp:Bool),d5.size=d.size->(∀ i,a<=i->i < mid->d5[i]! =d4[i]!)->(∀ i,i < a->d5[i]! =d4[i]!)->∃ R,zao zal a mid lim wb wp d5.toList=some R.toList/\Go.Sort.PermIn a mid d5 R/\Go.Sort.SortedIn Go.Sort.ltInt a mid R:=fun d5 wb wp h1 h2 h3=>
   ih (mid - a) (by omega) a mid lim wb wp d5 (Nat.le_refl _) q1 (by omega) (by omega) hlim (by
    rcases hB4 with h | h
    ·exact .inl h
    ·rcases Nat.eq_zero_or_pos a with h0 | h0
     ·exact .inl h0
     ·exact .inr fun i i0 i1=>by rw [h2 i i0 i1,h3 (a - 1) (by omega)];exact h i i0 (by omega))
  have right:∀ (d5:Array Int) (wb wp:Bool),d5.size=d.size->(∀ i,mid<=i->i < b->d5[i]! =d4[i]!)->∃ R,zao zal (mid+1:Nat) b lim wb wp d5.toList=some R.toList/\Go.Sort.PermIn (mid+1) b d5 R/\Go.Sort.SortedIn Go.Sort.ltInt (mid+1) b R:=fun d5 wb wp h1 h2=>
   ih (b - (mid+1)) (by omega) (mid+1) b lim wb wp d5 (Nat.le_refl _) (by omega) (by omega) (by omega) hlim (.inr fun i i0 i1=>by
    rw [Nat.add_sub_cancel,h2 i (by omega) i1,h2 mid (Nat.le_refl _) q2]
    exact q5 i (by omega) i1)
  by_cases c:mid - a < b - mid
  ·rw [if_pos (by simp only [decide_eq_true_eq];omega)]
   obtain ⟨R1,s1,s2,s3⟩:=left d4 true true hz (fun _ _ _=>rfl) (fun _ _=>rfl)
   rw [zoe,s1];simp only [Option.bind_some]
   (repeat (rw [zad (by first | omega | (unfold fits;omega) | (simp only [List.length_set,Array.length_toList];omega))]))
   obtain ⟨R2,t1,t2,t3⟩:=right R1 (decide ((((b - a) / 8:Nat):Int)<=(mid:Int) - (a:Int))) al (by rw [s2.1];exact hz) (fun i i0 i1=>s2.2.1 i (.inr i0))
   refine ⟨R2,t1,?_,?_⟩
   ·exact Go.Sort.permIn_trans d d4 R2 a b q3 (Go.Sort.permIn_trans d4 R1 R2 a b (Go.Sort.permIn_mono d4 R1 a mid a b (Nat.le_refl _) (by omega) (by omega) s2) (Go.Sort.permIn_mono R1 R2 (mid+1) b a b (by omega) (Nat.le_refl _) (by rw [s2.1];omega) t2))
   ·have hl:∀ i,i < mid+1->R2[i]! =R1[i]! :=fun i h=>t2.2.1 i (.inl h)
    have hmid:R2[mid]! =d4[mid]! :=(hl mid (by omega)).trans (s2.2.1 mid (.inr (Nat.le_refl _)))
    have hlo:=Go.Sort.permIn_all d4 R1 a mid (fun x=>Go.Sort.ltInt x d4[mid]! =true) (by omega) s2 q4
    have hhi:=Go.Sort.permIn_all R1 R2 (mid+1) b (fun x=>Go.Sort.ltInt x d4[mid]! =false) (by rw [s2.1];omega) t2 (fun i i0 i1=>by rw [s2.2.1 i (.inr (by omega))];exact q5 i (by omega) i1)
    exact Go.Sort.sorted_glue hS (s3.congr fun i i0 i1=>hl i (by omega)) t3 (fun i i0 i1=>by rw [hl i (by omega),hmid];exact hlo i i0 i1) (fun i i0 i1=>by rw [hmid];exact hhi i (by omega) i1)
  ·rw [if_neg (by simp only [decide_eq_true_eq];omega)]
   obtain ⟨R1,s1,s2,s3⟩:=right d4 true true hz (fun _ _ _=>rfl)
   rw [zoe,s1];simp only [Option.bind_some]
   (repeat (rw [zad (by first | omega | (unfold fits;omega) | (simp only [List.length_set,Array.length_toList];omega))]))
   obtain ⟨R2,t1,t2,t3⟩:=left R1 (decide ((((b - a) / 8:Nat):Int)<=(b:Int) - (mid:Int))) al (by rw [s2.1];exact hz) (fun i i0 i1=>s2.2.1 i (.inl (by omega))) (fun i i0=>s2.2.1 i (.inl (by omega)))
   refine ⟨R2,t1,?_,?_⟩
   ·exact Go.Sort.permIn_trans d d4 R2 a b q3 (Go.Sort.permIn_trans d4 R1 R2 a b (Go.Sort.permIn_mono d4 R1 (mid+1) b a b (by omega) (Nat.le_refl _) (by omega) s2) (Go.Sort.permIn_mono R1 R2 a mid a b (Nat.le_refl _) (by omega) (by rw [s2.1];omega) t2))
   ·have hl:∀ i,mid<=i->R2[i]! =R1[i]! :=fun i h=>t2.2.1 i (.inr h)
    have hmid:R2[mid]! =d4[mid]! :=(hl mid (Nat.le_refl _)).trans (s2.2.1 mid (.inl (by omega)))
    have hlo:=Go.Sort.permIn_all R1 R2 a mid (fun x=>Go.Sort.ltInt x d4[mid]! =true) (by rw [s2.1];omega) t2 (fun i i0 i1=>by rw [s2.2.1 i (.inl (by omega))];exact q4 i i0 i1)
    have hhi:=Go.Sort.permIn_all d4 R1 (mid+1) b (fun x=>Go.Sort.ltInt x d4[mid]! =false) (by omega) s2 (fun i i0 i1=>q5 i (by omega) i1)
    exact Go.Sort.sorted_glue hS t3 (s3.congr fun i i0 i1=>hl i (by omega)) (fun i i0 i1=>by rw [hmid];exact hlo i i0 i1) (fun i i0 i1=>by rw [hl i (by omega),hmid];exact hhi i (by omega) i1)
theorem zvI (hS:Go.Sort.SWO Go.Sort.ltInt) {n:Nat} (ih:∀ m,m < n->zkD m) (a b lim pivot:Nat) (wb wp:Bool) (d:Array Int) (hn:b - a=n) (hab:a < b) (hb:b<=d.size) (hd:d.size<=1000000000) (hlim:lim<=64) (hB:Go.Sort.Below Go.Sort.ltInt a b d) (p0:a<=pivot) (p1:pivot < b):
  ∃ d',zbP zal a b wb wp (zao zal) lim pivot d.toList=some d'.toList/\Go.Sort.PermIn a b d d'/\Go.Sort.SortedIn Go.Sort.ltInt a b d':=by
 have hl:=d.length_toList;unfold zbP;by_cases c:0 < a
 ·rw [if_pos (by simp only [decide_eq_true_eq];omega),show (a:Int) - 1=((a - 1:Nat):Int) by omega]
  (repeat (rw [zad (by first | omega | (unfold fits;omega) | (simp only [List.length_set,Array.length_toList];omega))]))
  rw [ixA,ixA,zjv];simp only [Option.bind_some];exact zvK hS ih a b lim pivot wb wp d hn hab hb hd hlim hB p0 p1 (!Go.Sort.ltInt d[a - 1]! d[pivot]!) (fun h=>⟨c,by simpa using h⟩)
 ·rw [if_neg (by simp only [decide_eq_true_eq];omega)]
  exact zvK hS ih a b lim pivot wb wp d hn hab hb hd hlim hB p0 p1 false (by simp)
theorem zvG (hS:Go.Sort.SWO Go.Sort.ltInt) {n:Nat} (ih:∀ m,m < n->zkD m) (a b lim pivot:Nat) (wb wp:Bool) (hint:Int) (d:Array Int) (hn:b - a=n) (hab:a < b) (hb:b<=d.size) (hd:d.size<=1000000000) (hlim:lim<=64) (hB:Go.Sort.Below Go.Sort.ltInt a b d) (p0:a<=pivot) (p1:pivot < b):
  ∃ d',zbO zal a b wb wp (zao zal) lim pivot hint d.toList=some d'.toList/\Go.Sort.PermIn a b d d'/\Go.Sort.SortedIn Go.Sort.ltInt a b d':=by
 have J15:∀ t:Bool,∃ d',zbo zal a b wb wp (zao zal) lim pivot d.toList t=some d'.toList/\Go.Sort.PermIn a b d d'/\Go.Sort.SortedIn Go.Sort.ltInt a b d':=fun t=>by
  unfold zbo
  cases t with
  | true=>
   obtain ⟨k1,k2⟩:=Go.Sort.partialInsertionSort_holds hS d a b hab hb hB;rw [if_pos rfl,zvl a b d hab hb hd];simp only [Option.bind_some];generalize Go.Sort.partialInsertionSort Go.Sort.ltInt d a b=r at *
   obtain ⟨d3,ok⟩:=r;dsimp only at k1 k2 ⊢
   cases ok with
   | true=>exact ⟨d3,rfl,k1,k2 rfl⟩
   | false=>
    rw [if_neg (by simp)]
    obtain ⟨d',e,q1,q2⟩:=zvI hS ih a b lim pivot wb wp d3 hn hab (by rw [k1.1];exact hb) (by rw [k1.1];exact hd) hlim (hB.perm hb k1) p0 p1
    exact ⟨d',e,Go.Sort.permIn_trans d d3 d' a b k1 q1,q2⟩
  | false=>
   rw [if_neg (by simp)]
   exact zvI hS ih a b lim pivot wb wp d hn hab hb hd hlim hB p0 p1
 unfold zbO
 split
 ·split
  ·exact J15 _
  ·exact J15 _
 ·exact J15 _
theorem zAk (hS:Go.Sort.SWO Go.Sort.ltInt):∀ n,zkD n:=by
 intro n
 induction n using Nat.strongRecOn with
 | ind n ih=>
  intro a b lim wb wp d hn hab hb hd hlim hB;have hl:=d.length_toList;rw [zmp];unfold zb7
  (repeat (rw [zad (by first | omega | (unfold fits;omega) | (simp only [List.length_set,Array.length_toList];omega))]))
  by_cases c1:b - a<=12
  ·rw [if_pos (by simp only [decide_eq_true_eq];omega),zAb a b d hab hb hd]
   obtain ⟨q1,q2⟩:=Go.Sort.insertionSort_holds hS d a b hab hb;exact ⟨_,rfl,q1,q2⟩
  ·rw [if_neg (by simp only [decide_eq_true_eq];omega)]
   by_cases c2:lim=0
   ·rw [if_pos (by simp [c2]),zyA a b d (by omega) hb hd]
    obtain ⟨q1,q2⟩:=Go.Sort.heapSort_holds hS d a b hab hb;exact ⟨_,rfl,q1,q2⟩
   ·rw [if_neg (by simp only [decide_eq_true_eq];omega)]
    have J9:∀ (lim:Nat) (d1:Array Int),lim<=64->Go.Sort.PermIn a b d d1->∃ d',zb1 zal a b wb wp (zao zal) lim d1.toList=some d'.toList/\Go.Sort.PermIn a b d d'/\Go.Sort.SortedIn Go.Sort.ltInt a b d':=fun lim d1 h1 h2=>by
     have hz:=h2.1;have hB1:=hB.perm hb h2;obtain ⟨c3,c4⟩:=Go.Sort.choosePivot_holds Go.Sort.ltInt d1 a b (by omega)
     unfold zb1;rw [zxJ d1 a b (by omega) (by omega) (by omega)]
     simp only [Option.bind_some];generalize Go.Sort.choosePivot Go.Sort.ltInt d1 a b=r at *
     obtain ⟨pv,hi⟩:=r;dsimp only at c3 c4 ⊢;have ih':∀ m,m < b - a->zkD m:=fun m hm=>ih m (by omega)
     by_cases c5:zlW hi=2
     ·rw [if_pos (by simp [c5]),zAs a b d1 (by omega) (by omega) (by omega)]
      simp only [Option.bind_some];have hr:=Go.Sort.reverseRange_holds d1 a b hab (by omega)
      have hz2:=hr.1
      (repeat (rw [zad (by first | omega | (unfold fits;omega) | (simp only [List.length_set,Array.length_toList];omega))]))
      rw [show (b:Int) - 1 - ((pv:Int) - (a:Int))=(((b - 1) - (pv - a):Nat):Int) by omega]
      obtain ⟨d',e,q1,q2⟩:=zvG hS ih' a b lim ((b - 1) - (pv - a)) wb wp 1 _ rfl (by omega) (by omega) (by omega) h1 (hB1.perm (by omega) hr) (by omega) (by omega)
      exact ⟨d',e,Go.Sort.permIn_trans d d1 d' a b h2 (Go.Sort.permIn_trans d1 _ d' a b hr q1),q2⟩
     ·rw [if_neg (by simpa using c5)]
      obtain ⟨d',e,q1,q2⟩:=zvG hS ih' a b lim pv wb wp (zlW hi) d1 rfl (by omega) (by omega) (by omega) h1 hB1 c3 c4
      exact ⟨d',e,Go.Sort.permIn_trans d d1 d' a b h2 q1,q2⟩
    cases wb with
    | true=>
     rw [if_neg (by simp)]
     exact J9 lim d hlim (Go.Sort.permIn_refl d a b)
    | false=>
     rw [if_pos (by simp)]
     obtain ⟨d1,e,q⟩:=zxd a b d hab hb hd;rw [e];simp only [Option.bind_some]
     (repeat (rw [zad (by first | omega | (unfold fits;omega) | (simp only [List.length_set,Array.length_toList];omega))]))
     rw [show (lim:Int) - 1=((lim - 1:Nat):Int) by omega]
     exact J9 (lim - 1) d1 (by omega) q
theorem zwT (hS:Go.Sort.SWO Go.Sort.ltInt) (l:List Int) (hl:l.length<=1000000000) {v:Int} (hv:BL l.length v):∃ l',zal 0 l.length v l=some l'/\l'.Perm l/\l'.Pairwise (fun x y=>Go.Sort.ltInt y x=false):=by
 obtain ⟨v0,v1,_⟩:=hv;obtain ⟨d',e,q1,q2⟩:=zAk hS _ 0 l.length v.toNat true true l.toArray (Nat.le_refl _) (Nat.zero_le _) (by simp) (by simpa using hl) (by omega) (.inl rfl)
 have hz:=q1.1;refine ⟨d'.toList,?_,?_,?_⟩
 ·have:=zoe 0 l.length v.toNat l;rw [show ((v.toNat:Nat):Int)=v by omega] at this
  rw [show ((0:Nat):Int)=0 from rfl] at this;rw [this];rw [show ((v.toNat:Nat):Int)=v by omega] at e
  exact e
 ·have:=q1.2.2;rw [show d'.extract 0 l.length=d' by rw [<- show d'.size=l.length by simpa using hz];simp,show l.toArray.extract 0 l.length=l.toArray by simp] at this
  simpa using this
 ·rw [List.pairwise_iff_getElem];intro i j hi hj hij;have:=q2 i j (Nat.zero_le _) hij (by simpa [hz] using hj)
  simp only [Array.length_toList] at hi hj;rw [getElem!_pos d' j hj,getElem!_pos d' i hi] at this;simpa using this
end
section
theorem zul (a:Nat) (r1:Int->List Stp->Option (List Stp)) (i:Int) (hi:0<=i/\i < 1000000000):∀ (j:Nat) (d:Array Stp),j < d.size->d.size<=1000000000->
  zba a i r1 j d.toList=r1 (i+1) (Go.Sort.insInner ltS a j d).toList
 | 0,d,hj,hd=>by
  have:=d.length_toList;rw [zfu];unfold zaR;rw [if_neg (by simp),zad (by unfold fits;omega)]
  rfl
 | j+1,d,hj,hd=>by
  have hl:=d.length_toList;rw [zfu];unfold zaR;unfold Go.Sort.insInner;rw [show ((j+1:Nat):Int) - 1=(j:Int) by omega]
  by_cases c:a < j+1
  ·rw [if_pos (by simp only [decide_eq_true_eq];omega)]
   (repeat (rw [zad (by first | omega | (unfold fits;omega) | (simp only [List.length_set,Array.length_toList];omega))]))
   rw [ixA,ixA,zjy];show (if ltS d[j+1]! d[j]! =true then _ else _)=_
   rw [show decide (j+1 > a)=true from decide_eq_true c,Bool.true_and]
   cases ltS d[j+1]! d[j]! with
   | true=>
    rw [if_pos rfl,if_pos rfl]
    (repeat (rw [zad (by first | omega | (unfold fits;omega) | (simp only [List.length_set,Array.length_toList];omega))]))
    rw [Int.toNat_natCast,Int.toNat_natCast,swpA];exact zul a r1 i hi j _ (by rw [swpZ];omega) (by rw [swpZ];exact hd)
   | false=>
    rw [if_neg (by simp),if_neg (by simp)]
    (repeat (rw [zad (by first | omega | (unfold fits;omega) | (simp only [List.length_set,Array.length_toList];omega))]))
  ·rw [if_neg (by simp only [decide_eq_true_eq];omega),zad (by unfold fits;omega)]
   rw [show decide (j+1 > a)=false from decide_eq_false c,Bool.false_and,if_neg (by simp)]
theorem zk6 (a:Nat):∀ (j:Nat) (d:Array Stp),(Go.Sort.insInner ltS a j d).size=d.size
 | 0,_=>rfl
 | j+1,d=>by
  unfold Go.Sort.insInner
  split
  ·rw [zk6 a j,swpZ]
  ·rfl
theorem zyB (a b:Nat):∀ (n i:Nat) (d:Array Stp),b - i=n->i<=1000000001->b<=d.size->d.size<=1000000000->
  zcD a b i d.toList=some (Go.Sort.insOuter ltS a b i d).toList:=by
 intro n
 induction n with
 | zero=>
  intro i d hn hi hb hd;rw [zft];unfold zaQ;unfold Go.Sort.insOuter;rw [if_neg (by simp only [decide_eq_true_eq];omega),if_neg (by omega)]
 | succ n ih=>
  intro i d hn hi hb hd;rw [zft];unfold zaQ;unfold Go.Sort.insOuter;rw [if_pos (by simp only [decide_eq_true_eq];omega),if_pos (by omega),zul a _ i (by omega) i d (by omega) hd]
  have:=ih (i+1) (Go.Sort.insInner ltS a i d) (by omega) (by omega) (by rw [zk6];exact hb) (by rw [zk6];exact hd)
  rw [<- this];rfl
theorem zAa (a b:Nat) (d:Array Stp) (ha:a<=b) (hb:b<=d.size) (hd:d.size<=1000000000):zdc a b d.toList=some (Go.Sort.insertionSort ltS d a b).toList:=by
 unfold zdc Go.Sort.insertionSort
 (repeat (rw [zad (by first | omega | (unfold fits;omega) | (simp only [List.length_set,Array.length_toList];omega))]))
 exact zyB a b _ (a+1) d rfl (by omega) hb hd
theorem zy9 (hi first:Nat):∀ (n root:Nat) (d:Array Stp),hi - root<=n->first+hi<=d.size->d.size<=1000000000->root<=1000000000->
  zcd hi first root d.toList=some (Go.Sort.siftDown ltS hi first root d).toList:=by
 intro n
 induction n with
 | zero=>
  intro root d hn hf hd hr;rw [zhw];unfold zbB;unfold Go.Sort.siftDown
  (repeat (rw [zad (by first | omega | (unfold fits;omega) | (simp only [List.length_set,Array.length_toList];omega))]))
  rw [if_pos (by simp only [decide_eq_true_eq];omega),dif_pos (by omega)]
 | succ n ih=>
  intro root d hn hf hd hr;have hl:=d.length_toList;rw [zhw];unfold zbB;unfold Go.Sort.siftDown
  (repeat (rw [zad (by first | omega | (unfold fits;omega) | (simp only [List.length_set,Array.length_toList];omega))]))
  by_cases c:hi<=2 * root+1
  ·rw [if_pos (by simp only [decide_eq_true_eq];omega),dif_pos (by omega)]
  ·rw [if_neg (by simp only [decide_eq_true_eq];omega),dif_neg (by omega)]
   (repeat (rw [zad (by first | omega | (unfold fits;omega) | (simp only [List.length_set,Array.length_toList];omega))]))
   have J4:∀ ch:Nat,ch < hi->root < ch->zbS first root d.toList (zcd hi first) ch=some (if !ltS d[first+root]! d[first+ch]! then d else Go.Sort.siftDown ltS hi first ch (Go.Sort.swp d (first+root) (first+ch))).toList:=fun ch h1 h2=>by
    unfold zbS;rw [show (first:Int)+(root:Int)=((first+root:Nat):Int) by omega,show (first:Int)+(ch:Int)=((first+ch:Nat):Int) by omega]
    (repeat (rw [zad (by first | omega | (unfold fits;omega) | (simp only [List.length_set,Array.length_toList];omega))]))
    rw [ixA,ixA,zjy];show (if (!ltS d[first+root]! d[first+ch]!)=true then _ else _)=_
    cases ltS d[first+root]! d[first+ch]! with
    | true=>
     rw [if_neg (by simp),if_neg (by simp)]
     (repeat (rw [zad (by first | omega | (unfold fits;omega) | (simp only [List.length_set,Array.length_toList];omega))]))
     rw [Int.toNat_natCast,Int.toNat_natCast,swpA];exact ih ch _ (by omega) (by rw [swpZ];exact hf) (by rw [swpZ];exact hd) (by omega)
    | false=>rw [if_pos (by simp),if_pos (by simp)]
   have e1:(2:Int) * (root:Int)+1=((2 * root+1:Nat):Int):=by omega
   have e2:((2 * root+1:Nat):Int)+1=((2 * root+2:Nat):Int):=by omega
   have J3:∀ t:Bool,(t=true->2 * root+2 < hi)->zbR first root d.toList (zcd hi first) t=some (if t=true then (if !ltS d[first+root]! d[first+(2 * root+2)]! then d else Go.Sort.siftDown ltS hi first (2 * root+2) (Go.Sort.swp d (first+root) (first+(2 * root+2)))) else
     (if !ltS d[first+root]! d[first+(2 * root+1)]! then d else Go.Sort.siftDown ltS hi first (2 * root+1) (Go.Sort.swp d (first+root) (first+(2 * root+1))))).toList:=fun t ht=>by
    unfold zbR;rw [e1,e2]
    cases t with
    | true=>rw [if_pos rfl,if_pos rfl];(repeat (rw [zad (by first | omega | (unfold fits;omega) | (simp only [List.length_set,Array.length_toList];omega))]));exact J4 _ (ht rfl) (by omega)
    | false=>rw [if_neg (by simp),if_neg (by simp)];exact J4 _ (by omega) (by omega)
   rw [e1,e2];by_cases c2:2 * root+2 < hi
   ·rw [if_pos (by simp only [decide_eq_true_eq];omega)]
    rw [show (first:Int)+((2 * root+1:Nat):Int)=((first+(2 * root+1):Nat):Int) by omega,show ((first+(2 * root+1):Nat):Int)+1=((first+(2 * root+1)+1:Nat):Int) by omega]
    (repeat (rw [zad (by first | omega | (unfold fits;omega) | (simp only [List.length_set,Array.length_toList];omega))]))
    rw [ixA,ixA,zjy];refine (J3 _ (fun _=>c2)).trans ?_
    rw [show decide (2 * root+1+1 < hi)=true from decide_eq_true c2,Bool.true_and];show some (Array.toList (if ltS d[first+(2 * root+1)]! d[first+(2 * root+1)+1]! =true then _ else _))=_
    cases ltS d[first+(2 * root+1)]! d[first+(2 * root+1)+1]! with
    | true=>simp [c2]
    | false=>simp
   ·rw [if_neg (by simp only [decide_eq_true_eq];omega),J3 false (by simp),show decide (2 * root+1+1 < hi)=false from decide_eq_false c2,Bool.false_and]
    simp
theorem zkL (hi first:Nat):∀ (n root:Nat) (d:Array Stp),hi - root<=n->(Go.Sort.siftDown ltS hi first root d).size=d.size:=by
 intro n
 induction n with
 | zero=>intro root d hn;unfold Go.Sort.siftDown;rw [dif_pos (by omega)]
 | succ n ih=>
  intro root d hn;unfold Go.Sort.siftDown
  split
  ·rfl
  ·split
   ·split
    ·rfl
    ·split
     ·rw [ih _ _ (by omega),swpZ]
     ·rfl
   ·split
    ·rfl
    ·rw [ih _ _ (by omega),swpZ]
theorem ztd (lo hi first:Nat) (d:Array Stp) (hf:first+hi<=d.size) (hd:d.size<=1000000000) (hl:lo<=1000000000):zdG lo hi first d.toList=some (Go.Sort.siftDown ltS hi first lo d).toList:=by
 unfold zdG;exact zy9 hi first _ lo d (Nat.le_refl _) hf hd hl
theorem zsO (a n:Nat):∀ (k:Nat) (d:Array Stp),k<=n->a+n<=d.size->d.size<=1000000000->zd5 a ((k:Int) - 1) d.toList=some (Go.Sort.heapPop ltS a k d).toList
 | 0,d,hk,ha,hd=>by
  rw [zho];unfold zbq;rw [if_neg (by simp only [decide_eq_true_eq];omega)];rfl
 | k+1,d,hk,ha,hd=>by
  have hl:=d.length_toList;rw [zho];unfold zbq;unfold Go.Sort.heapPop;rw [show ((k+1:Nat):Int) - 1=(k:Int) by omega,if_pos (by simp only [decide_eq_true_eq];omega),show (a:Int)+(k:Int)=((a+k:Nat):Int) by omega]
  (repeat (rw [zad (by first | omega | (unfold fits;omega) | (simp only [List.length_set,Array.length_toList];omega))]))
  rw [ixA,ixA,Int.toNat_natCast,Int.toNat_natCast,swpA];refine zaH (ztd 0 k a _ (by rw [swpZ];omega) (by rw [swpZ];exact hd) (by omega)) ?_
  (repeat (rw [zad (by first | omega | (unfold fits;omega) | (simp only [List.length_set,Array.length_toList];omega))]))
  exact zsO a n k _ (by omega) (by rw [zkL _ _ _ _ _ (Nat.le_refl _),swpZ];exact ha) (by rw [zkL _ _ _ _ _ (Nat.le_refl _),swpZ];exact hd)
theorem zwB (hi first:Nat):∀ (k:Nat) (d:Array Stp),(Go.Sort.heapBuild ltS hi first k d).size=d.size
 | 0,_=>rfl
 | k+1,d=>by unfold Go.Sort.heapBuild;rw [zwB hi first k,zkL _ _ _ _ _ (Nat.le_refl _)]
theorem zsM (a b:Nat) (hab:a<=b):∀ (k:Nat) (d:Array Stp),k<=b->b<=d.size->d.size<=1000000000->zd4 a b ((k:Int) - 1) d.toList=some (Go.Sort.heapPop ltS a (b - a) (Go.Sort.heapBuild ltS (b - a) a k d)).toList
 | 0,d,hk,hb,hd=>by
  rw [zhn];unfold zbp;rw [if_neg (by simp only [decide_eq_true_eq];omega),show (b:Int) - (a:Int)=((b - a:Nat):Int) by omega]
  (repeat (rw [zad (by first | omega | (unfold fits;omega) | (simp only [List.length_set,Array.length_toList];omega))]))
  exact zsO a (b - a) (b - a) d (Nat.le_refl _) (by omega) hd
 | k+1,d,hk,hb,hd=>by
  rw [zhn];unfold zbp;unfold Go.Sort.heapBuild;rw [show ((k+1:Nat):Int) - 1=(k:Int) by omega,if_pos (by simp only [decide_eq_true_eq];omega),show (b:Int) - (a:Int)=((b - a:Nat):Int) by omega]
  (repeat (rw [zad (by first | omega | (unfold fits;omega) | (simp only [List.length_set,Array.length_toList];omega))]))
  refine zaH (ztd k (b - a) a d (by omega) hd (by omega)) ?_
  (repeat (rw [zad (by first | omega | (unfold fits;omega) | (simp only [List.length_set,Array.length_toList];omega))]))
  exact zsM a b hab k _ (by omega) (by rw [zkL _ _ _ _ _ (Nat.le_refl _)];exact hb) (by rw [zkL _ _ _ _ _ (Nat.le_refl _)];exact hd)
theorem zyz (a b:Nat) (d:Array Stp) (hab:a < b) (hb:b<=d.size) (hd:d.size<=1000000000):zfa a b d.toList=some (Go.Sort.heapSort ltS d a b).toList:=by
 unfold zfa Go.Sort.heapSort;have e:Int.tdiv ((b:Int) - (a:Int) - 1) 2=(((b - a - 1) / 2+1:Nat):Int) - 1:=by
  rw [show (b:Int) - (a:Int) - 1=((b - a - 1:Nat):Int) by omega,show (2:Int)=((2:Nat):Int) from rfl,<- Int.ofNat_tdiv];omega
 rw [e]
 (repeat (rw [zad (by first | omega | (unfold fits;omega) | (simp only [List.length_set,Array.length_toList];omega))]))
 exact zsM a b (by omega) _ d (by omega) hb hd
theorem zob (d:Array Stp) (a b s:Nat) (ha:a < d.size) (hb:b < d.size) (hs:s<=1000):zdk d.toList a b s=some (((Go.Sort.order2 ltS d a b s).1:Int),((Go.Sort.order2 ltS d a b s).2.1:Int),((Go.Sort.order2 ltS d a b s).2.2:Int)):=by
 have hl:=d.length_toList;unfold zdk Go.Sort.order2
 (repeat (rw [zad (by first | omega | (unfold fits;omega) | (simp only [List.length_set,Array.length_toList];omega))]))
 rw [ixA,ixA,zjy];show (if ltS d[b]! d[a]! =true then _ else _)=_
 cases ltS d[b]! d[a]! with
 | true=>rw [if_pos rfl,if_pos rfl];(repeat (rw [zad (by first | omega | (unfold fits;omega) | (simp only [List.length_set,Array.length_toList];omega))]));rfl
 | false=>rw [if_neg (by simp),if_neg (by simp)]
theorem ziq (d:Array Stp) (a b s:Nat):(Go.Sort.order2 ltS d a b s).2.2<=s+1:=by
 unfold Go.Sort.order2;split<;>simp
theorem zrv (d:Array Stp) (a b c s:Nat) (ha:a < d.size) (hb:b < d.size) (hc:c < d.size) (hs:s<=100):zez d.toList a b c s=some (((Go.Sort.median ltS d a b c s).1:Int),((Go.Sort.median ltS d a b c s).2:Int)):=by
 unfold zez Go.Sort.median;have h1:=Go.Sort.order2_mem ltS d a b s;have s1:=ziq d a b s;have h2:=Go.Sort.order2_mem ltS d (Go.Sort.order2 ltS d a b s).2.1 c (Go.Sort.order2 ltS d a b s).2.2;have s2:=ziq d (Go.Sort.order2 ltS d a b s).2.1 c (Go.Sort.order2 ltS d a b s).2.2;refine zaH (zob d a b s ha hb (by omega)) ?_
 refine zaH (zob d _ c _ (by omega) hc (by omega)) ?_
 refine zaH (zob d _ _ _ (by omega) (by omega) (by omega)) ?_
 rfl
theorem zmX (d:Array Stp) (a b c s:Nat):(Go.Sort.median ltS d a b c s).2<=s+3:=by
 have s1:=ziq d a b s;have s2:=ziq d (Go.Sort.order2 ltS d a b s).2.1 c (Go.Sort.order2 ltS d a b s).2.2;have s3:=ziq d (Go.Sort.order2 ltS d a b s).1 (Go.Sort.order2 ltS d (Go.Sort.order2 ltS d a b s).2.1 c (Go.Sort.order2 ltS d a b s).2.2).1 (Go.Sort.order2 ltS d (Go.Sort.order2 ltS d a b s).2.1 c (Go.Sort.order2 ltS d a b s).2.2).2.2;unfold Go.Sort.median;show (Go.Sort.order2 _ _ _ _ _).2.2<=_;omega
theorem zn7 (d:Array Stp) (a s:Nat) (h0:0 < a) (ha:a+1 < d.size) (hd:d.size<=1000000000) (hs:s<=100):zbV d.toList a s=some (((Go.Sort.medianAdjacent ltS d a s).1:Int),((Go.Sort.medianAdjacent ltS d a s).2:Int)):=by
 unfold zbV Go.Sort.medianAdjacent
 (repeat (rw [zad (by first | omega | (unfold fits;omega) | (simp only [List.length_set,Array.length_toList];omega))]))
 rw [show (a:Int) - 1=((a - 1:Nat):Int) by omega,show (a:Int)+1=((a+1:Nat):Int) by omega]
 exact zaH (zrv d _ _ _ _ (by omega) (by omega) ha hs) rfl
def zlV:Go.Sort.Hint->Int
 | .unknown=>0
 | .increasing=>1
 | .decreasing=>2
theorem zt7 (j s:Nat):zcJ j s=some ((j:Int),zlV (if s=0 then .increasing else if s=12 then .decreasing else .unknown)):=by
 unfold zcJ;by_cases c:s=0
 ·rw [if_pos (by simp [c]),if_pos c];rfl
 ·rw [if_neg (by simp;omega),if_neg c]
  by_cases c2:s=12
  ·rw [if_pos (by simp [c2]),if_pos c2];rfl
  ·rw [if_neg (by simp;omega),if_neg c2];rfl
theorem zxI (d:Array Stp) (a b:Nat) (hab:a < b) (hb:b<=d.size) (hd:d.size<=1000000000):zd2 d.toList a b=some (((Go.Sort.choosePivot ltS d a b).1:Int),zlV (Go.Sort.choosePivot ltS d a b).2):=by
 unfold zd2 Go.Sort.choosePivot;have e:Int.tdiv ((b:Int) - (a:Int)) 4=(((b - a) / 4:Nat):Int):=by
  rw [show (b:Int) - (a:Int)=((b - a:Nat):Int) by omega,show (4:Int)=((4:Nat):Int) from rfl,<- Int.ofNat_tdiv]
 have h4:=Nat.div_mul_le_self (b - a) 4;have h5:(b - a) / 4 * 4+4 > b - a:=by omega
 rw [e];dsimp only;generalize hq:(b - a) / 4=q at *
 rw [show (a:Int)+(q:Int) * 1=((a+q * 1:Nat):Int) by omega,show (a:Int)+(q:Int) * 2=((a+q * 2:Nat):Int) by omega,show (a:Int)+(q:Int) * 3=((a+q * 3:Nat):Int) by omega]
 (repeat (rw [zad (by first | omega | (unfold fits;omega) | (simp only [List.length_set,Array.length_toList];omega))]))
 have J10:∀ i j k s:Nat,i < d.size->j < d.size->k < d.size->s<=100->zcI d.toList i j k s=some (((Go.Sort.median ltS d i j k s).1:Int),zlV (if (Go.Sort.median ltS d i j k s).2=0 then .increasing else if (Go.Sort.median ltS d i j k s).2=12 then .decreasing else .unknown)):=fun i j k s h1 h2 h3 h4=>by
  unfold zcI;exact zaH (zrv d i j k s h1 h2 h3 h4) (zt7 _ _)
 by_cases c:8<=b - a
 ·rw [if_pos (by simp only [decide_eq_true_eq];omega),if_pos c]
  by_cases c2:50<=b - a
  ·rw [if_pos (by simp only [decide_eq_true_eq];omega),if_pos c2]
   have q1:=zmX d (a+q * 1 - 1) (a+q * 1) (a+q * 1+1) 0;have m1:=Go.Sort.median_mem ltS d (a+q * 1 - 1) (a+q * 1) (a+q * 1+1) 0;refine zaH (zn7 d (a+q * 1) 0 (by omega) (by omega) hd (by omega)) ?_
   unfold Go.Sort.medianAdjacent;generalize Go.Sort.median ltS d (a+q * 1 - 1) (a+q * 1) (a+q * 1+1) 0=r1 at *
   have q2:=zmX d (a+q * 2 - 1) (a+q * 2) (a+q * 2+1) r1.2;have m2:=Go.Sort.median_mem ltS d (a+q * 2 - 1) (a+q * 2) (a+q * 2+1) r1.2;refine zaH (zn7 d (a+q * 2) r1.2 (by omega) (by omega) hd (by omega)) ?_
   unfold Go.Sort.medianAdjacent;generalize Go.Sort.median ltS d (a+q * 2 - 1) (a+q * 2) (a+q * 2+1) r1.2=r2 at *
   have q3:=zmX d (a+q * 3 - 1) (a+q * 3) (a+q * 3+1) r2.2;have m3:=Go.Sort.median_mem ltS d (a+q * 3 - 1) (a+q * 3) (a+q * 3+1) r2.2;refine zaH (zn7 d (a+q * 3) r2.2 (by omega) (by omega) hd (by omega)) ?_
   unfold Go.Sort.medianAdjacent;generalize Go.Sort.median ltS d (a+q * 3 - 1) (a+q * 3) (a+q * 3+1) r2.2=r3 at *
   exact J10 r1.1 r2.1 r3.1 r3.2 (by omega) (by omega) (by omega) (by omega)
  ·rw [if_neg (by simp only [decide_eq_true_eq];omega),if_neg c2]
   exact J10 (a+q * 1) (a+q * 2) (a+q * 3) 0 (by omega) (by omega) (by omega) (by omega)
 ·rw [if_neg (by simp only [decide_eq_true_eq];omega),if_neg c]
  exact zt7 (a+q * 2) 0
theorem zy3:∀ (n i j:Nat) (d:Array Stp),j - i<=n->j < d.size->d.size<=1000000000->zcM i j d.toList=some (Go.Sort.reverseLoop i j d).toList:=by
 intro n
 induction n with
 | zero=>
  intro i j d hn hj hd;rw [zf2];unfold za4;unfold Go.Sort.reverseLoop;rw [if_neg (by simp only [decide_eq_true_eq];omega),if_neg (by omega)]
 | succ n ih=>
  intro i j d hn hj hd;have hl:=d.length_toList;rw [zf2];unfold za4;unfold Go.Sort.reverseLoop;by_cases c:i < j
  ·rw [if_pos (by simp only [decide_eq_true_eq];omega),if_pos c]
   (repeat (rw [zad (by first | omega | (unfold fits;omega) | (simp only [List.length_set,Array.length_toList];omega))]))
   rw [ixA,ixA,Int.toNat_natCast,Int.toNat_natCast,swpA,show (j:Int) - 1=((j - 1:Nat):Int) by omega]
   exact ih (i+1) (j - 1) _ (by omega) (by rw [swpZ];omega) (by rw [swpZ];exact hd)
  ·rw [if_neg (by simp only [decide_eq_true_eq];omega),if_neg c]
theorem zAr (a b:Nat) (d:Array Stp) (hab:a < b) (hb:b<=d.size) (hd:d.size<=1000000000):zdy a b d.toList=some (Go.Sort.reverseRange d a b).toList:=by
 unfold zdy Go.Sort.reverseRange
 (repeat (rw [zad (by first | omega | (unfold fits;omega) | (simp only [List.length_set,Array.length_toList];omega))]))
 rw [show (b:Int) - 1=((b - 1:Nat):Int) by omega]
 exact zy3 _ a (b - 1) d (Nat.le_refl _) (by omega) hd
theorem zyQ (b:Nat) (j:Int) (r3:Int->Int->List Stp->Option (Bool×List Stp)) (i2:Int) (hj:0<=j/\j<=100):∀ (n k:Nat) (d:Array Stp),b - k=n->0 < k->b<=d.size->d.size<=1000000000->
  zaz b j r3 i2 k d.toList=r3 i2 (j+1) (Go.Sort.shiftUp ltS b k d).toList:=by
 intro n
 induction n with
 | zero=>
  intro k d hn hk hb hd;rw [zdD];unfold zaq;unfold Go.Sort.shiftUp;rw [if_neg (by simp only [decide_eq_true_eq];omega),if_neg (by omega)]
  (repeat (rw [zad (by first | omega | (unfold fits;omega) | (simp only [List.length_set,Array.length_toList];omega))]))
 | succ n ih=>
  intro k d hn hk hb hd;have hl:=d.length_toList;rw [zdD];unfold zaq;unfold Go.Sort.shiftUp;rw [if_pos (by simp only [decide_eq_true_eq];omega),if_pos (by omega),show (k:Int) - 1=((k - 1:Nat):Int) by omega]
  (repeat (rw [zad (by first | omega | (unfold fits;omega) | (simp only [List.length_set,Array.length_toList];omega))]))
  rw [ixA,ixA,zjy];show (if (!ltS d[k]! d[k - 1]!)=true then _ else _)=_
  cases ltS d[k]! d[k - 1]! with
  | true=>
   rw [if_neg (by simp),if_neg (by simp)]
   (repeat (rw [zad (by first | omega | (unfold fits;omega) | (simp only [List.length_set,Array.length_toList];omega))]))
   rw [Int.toNat_natCast,Int.toNat_natCast,swpA];exact ih (k+1) _ (by omega) (by omega) (by rw [swpZ];exact hb) (by rw [swpZ];exact hd)
  | false=>
   rw [if_pos (by simp),if_pos (by simp)]
   (repeat (rw [zad (by first | omega | (unfold fits;omega) | (simp only [List.length_set,Array.length_toList];omega))]))
theorem zyO (b:Nat) (j:Int) (r3:Int->Int->List Stp->Option (Bool×List Stp)) (i2:Nat) (hj:0<=j/\j<=100) (d:Array Stp) (hb:b<=d.size) (hd:d.size<=1000000000) (hi:i2<=b):
  zai b j r3 i2 d.toList=r3 i2 (j+1) (if b - i2 ≥ 2 then Go.Sort.shiftUp ltS b (i2+1) d else d).toList:=by
 unfold zai
 (repeat (rw [zad (by first | omega | (unfold fits;omega) | (simp only [List.length_set,Array.length_toList];omega))]))
 by_cases c:b - i2 ≥ 2
 ·rw [if_pos (by simp only [decide_eq_true_eq];omega),if_pos c]
  (repeat (rw [zad (by first | omega | (unfold fits;omega) | (simp only [List.length_set,Array.length_toList];omega))]))
  exact zyQ b j r3 i2 hj _ (i2+1) d rfl (by omega) hb hd
 ·rw [if_neg (by simp only [decide_eq_true_eq];omega),if_neg c]
  (repeat (rw [zad (by first | omega | (unfold fits;omega) | (simp only [List.length_set,Array.length_toList];omega))]))
theorem zuB (b:Nat) (j:Int) (r3:Int->Int->List Stp->Option (Bool×List Stp)) (i2:Nat) (hj:0<=j/\j<=100) (hi:i2<=b):∀ (k:Nat) (d:Array Stp),k < d.size->b<=d.size->d.size<=1000000000->
  zay b j r3 i2 k d.toList=zai b j r3 i2 (Go.Sort.shiftDown ltS k d).toList
 | 0,d,hk,hb,hd=>by
  rw [zdC];unfold zap;rw [if_neg (by simp)];rfl
 | k+1,d,hk,hb,hd=>by
  have hl:=d.length_toList;rw [zdC];unfold zap;unfold Go.Sort.shiftDown;rw [if_pos (by simp only [decide_eq_true_eq];omega),show ((k+1:Nat):Int) - 1=(k:Int) by omega]
  (repeat (rw [zad (by first | omega | (unfold fits;omega) | (simp only [List.length_set,Array.length_toList];omega))]))
  rw [ixA,ixA,zjy];show (if (!ltS d[k+1]! d[k]!)=true then _ else _)=_
  cases ltS d[k+1]! d[k]! with
  | true=>
   rw [if_neg (by simp),if_neg (by simp)]
   (repeat (rw [zad (by first | omega | (unfold fits;omega) | (simp only [List.length_set,Array.length_toList];omega))]))
   rw [Int.toNat_natCast,Int.toNat_natCast,swpA];exact zuB b j r3 i2 hj hi k _ (by rw [swpZ];omega) (by rw [swpZ];exact hb) (by rw [swpZ];exact hd)
  | false=>rw [if_pos (by simp),if_pos (by simp)]
theorem zqx:∀ (k:Nat) (d:Array Stp),(Go.Sort.shiftDown ltS k d).size=d.size
 | 0,_=>rfl
 | k+1,d=>by
  unfold Go.Sort.shiftDown
  split
  ·rfl
  ·rw [zqx k,swpZ]
theorem zvr (b:Nat):∀ (n k:Nat) (d:Array Stp),b - k=n->(Go.Sort.shiftUp ltS b k d).size=d.size:=by
 intro n
 induction n with
 | zero=>intro k d hn;unfold Go.Sort.shiftUp;rw [if_neg (by omega)]
 | succ n ih=>
  intro k d hn;unfold Go.Sort.shiftUp;rw [if_pos (by omega)]
  split
  ·rfl
  ·rw [ih _ _ (by omega),swpZ]
theorem zAn (a b:Nat) (j:Int) (d:Array Stp) (r3:Int->Int->List Stp->Option (Bool×List Stp)) (hb:b<=d.size) (hd:d.size<=1000000000):∀ (n i:Nat),b - i=n->0 < i->
  zaD a b j d.toList r3 i=zaC a b j d.toList r3 (Go.Sort.scanSorted ltS d b i:Nat):=by
 intro n
 induction n with
 | zero=>
  intro i hn hi;rw [zdT];unfold zav;unfold Go.Sort.scanSorted;rw [if_neg (by simp only [decide_eq_true_eq];omega),show decide (i < b)=false from decide_eq_false (by omega),Bool.false_and,if_neg (by simp)]
 | succ n ih=>
  intro i hn hi;have hl:=d.length_toList;rw [zdT];unfold zav;unfold Go.Sort.scanSorted;rw [if_pos (by simp only [decide_eq_true_eq];omega),show (i:Int) - 1=((i - 1:Nat):Int) by omega]
  (repeat (rw [zad (by first | omega | (unfold fits;omega) | (simp only [List.length_set,Array.length_toList];omega))]))
  rw [ixA,ixA,zjy,show decide (i < b)=true from decide_eq_true (by omega),Bool.true_and]
  show (if (!ltS d[i]! d[i - 1]!)=true then _ else _)=_
  cases ltS d[i]! d[i - 1]! with
  | true=>rw [if_neg (by simp),if_neg (by simp)]
  | false=>
   rw [if_pos (by simp),if_pos (by simp)]
   (repeat (rw [zad (by first | omega | (unfold fits;omega) | (simp only [List.length_set,Array.length_toList];omega))]))
   exact ih (i+1) (by omega) (by omega)
theorem zxU (d:Array Stp) (b:Nat):∀ (n i:Nat),b - i=n->i<=b->i<=Go.Sort.scanSorted ltS d b i/\Go.Sort.scanSorted ltS d b i<=b:=by
 intro n
 induction n with
 | zero=>intro i hn hi;unfold Go.Sort.scanSorted;rw [show decide (i < b)=false from decide_eq_false (by omega),Bool.false_and,if_neg (by simp)];omega
 | succ n ih=>
  intro i hn hi;unfold Go.Sort.scanSorted
  split
  ·have:=ih (i+1) (by omega) (by omega);omega
  ·omega
theorem zvW (a b:Nat) (hab:a < b):∀ (s i:Nat) (d:Array Stp),s<=5->a < i->i<=b->b<=d.size->d.size<=1000000000->
  zbh a b i (5 - (s:Int)) d.toList=some ((Go.Sort.partialIns ltS a b s i d).2,(Go.Sort.partialIns ltS a b s i d).1.toList)
 | 0,i,d,hs,hi,hib,hb,hd=>by
  rw [zdS];unfold zau;rw [if_neg (by simp)];rfl
 | s+1,i,d,hs,hi,hib,hb,hd=>by
  have hl:=d.length_toList;rw [zdS];unfold zau;unfold Go.Sort.partialIns;rw [if_pos (by simp only [decide_eq_true_eq];omega),zAn a b _ d _ hb hd _ i rfl (by omega)]
  obtain ⟨k1,k2⟩:=zxU d b _ i rfl hib;dsimp only;generalize Go.Sort.scanSorted ltS d b i=k at *
  unfold zaC;by_cases c1:k=b
  ·rw [if_pos (by simp [c1]),if_pos c1]
  ·rw [if_neg (by simp only [decide_eq_true_eq];omega),if_neg c1]
   (repeat (rw [zad (by first | omega | (unfold fits;omega) | (simp only [List.length_set,Array.length_toList];omega))]))
   by_cases c2:b - a < 50
   ·rw [if_pos (by simp only [decide_eq_true_eq];omega),if_pos c2]
   ·rw [if_neg (by simp only [decide_eq_true_eq];omega),if_neg c2,show (k:Int) - 1=((k - 1:Nat):Int) by omega]
    (repeat (rw [zad (by first | omega | (unfold fits;omega) | (simp only [List.length_set,Array.length_toList];omega))]))
    rw [ixA,ixA,Int.toNat_natCast,Int.toNat_natCast,swpA];have hz:=swpZ d k (k - 1);have e5:(5 - ((s+1:Nat):Int))+1=5 - (s:Int):=by omega
    have fin:∀ d2:Array Stp,d2.size=d.size->zai b (5 - ((s+1:Nat):Int)) (zbh a b) k d2.toList=some ((Go.Sort.partialIns ltS a b s k (if b - k ≥ 2 then Go.Sort.shiftUp ltS b (k+1) d2 else d2)).2,(Go.Sort.partialIns ltS a b s k (if b - k ≥ 2 then Go.Sort.shiftUp ltS b (k+1) d2 else d2)).1.toList):=fun d2 h2=>by
     rw [zyO b _ _ k (by omega) d2 (by omega) (by omega) k2,e5]
     have hz2:(if b - k ≥ 2 then Go.Sort.shiftUp ltS b (k+1) d2 else d2).size=d2.size:=by
      split
      ·exact zvr b _ _ _ rfl
      ·rfl
     exact zvW a b hab s k _ (by omega) (by omega) k2 (by omega) (by omega)
    by_cases c3:k - a ≥ 2
    ·rw [if_pos (by simp only [decide_eq_true_eq];omega),if_pos c3,zuB b _ _ k (by omega) k2 (k - 1) _ (by omega) (by omega) (by omega)]
     exact fin _ ((zqx _ _).trans hz)
    ·rw [if_neg (by simp only [decide_eq_true_eq];omega),if_neg c3]
     exact fin _ hz
theorem zvk (a b:Nat) (d:Array Stp) (hab:a < b) (hb:b<=d.size) (hd:d.size<=1000000000):zb9 a b d.toList=some ((Go.Sort.partialInsertionSort ltS d a b).2,(Go.Sort.partialInsertionSort ltS d a b).1.toList):=by
 unfold zb9 Go.Sort.partialInsertionSort
 (repeat (rw [zad (by first | omega | (unfold fits;omega) | (simp only [List.length_set,Array.length_toList];omega))]))
 exact zvW a b hab 5 (a+1) d (Nat.le_refl _) (by omega) (by omega) hb hd
theorem zvU (a i2:Nat) (d:Array Stp) (r:Int->Int->List Stp->Option (Int×List Stp)) (ha:a < d.size) (hd:d.size<=1000000000) (hi:0 < i2):∀ j:Nat,j < d.size->
  zaZ a d.toList r i2 j=zaX d.toList r i2 (Go.Sort.scanDown (fun x=>ltS d[a]! x) d i2 j:Nat)
 | 0,hj=>by
  rw [zff];unfold zaL;rw [if_neg (by simp only [decide_eq_true_eq];omega)];rfl
 | j+1,hj=>by
  have hl:=d.length_toList;rw [zff];unfold zaL;unfold Go.Sort.scanDown;by_cases c:i2<=j+1
  ·rw [if_pos (by simp only [decide_eq_true_eq];omega)]
   (repeat (rw [zad (by first | omega | (unfold fits;omega) | (simp only [List.length_set,Array.length_toList];omega))]))
   rw [ixA,ixA,zjy,show decide (i2<=j+1)=true from decide_eq_true c,Bool.true_and];show (if ltS d[a]! d[j+1]! =true then _ else _)=_
   cases ltS d[a]! d[j+1]! with
   | true=>
    rw [if_pos rfl,if_pos rfl]
    (repeat (rw [zad (by first | omega | (unfold fits;omega) | (simp only [List.length_set,Array.length_toList];omega))]))
    rw [show ((j+1:Nat):Int) - 1=(j:Int) by omega]
    exact zvU a i2 d r ha hd hi j (by omega)
   | false=>rw [if_neg (by simp),if_neg (by simp)]
  ·rw [if_neg (by simp only [decide_eq_true_eq];omega),show decide (i2<=j+1)=false from decide_eq_false c,Bool.false_and,if_neg (by simp)]
theorem zAl (a j:Nat) (d:Array Stp) (r:Int->Int->List Stp->Option (Int×List Stp)) (ha:a < d.size) (hj:j < d.size) (hd:d.size<=1000000000):∀ (n i:Nat),j+1 - i=n->
  zaY a j d.toList r i=zaW a j d.toList r (Go.Sort.scanUp (fun x => !ltS d[a]! x) d j i:Nat):=by
 intro n
 induction n with
 | zero=>
  intro i hn;rw [zfd];unfold zaK;unfold Go.Sort.scanUp;rw [if_neg (by simp only [decide_eq_true_eq];omega),show decide (i<=j)=false from decide_eq_false (by omega),Bool.false_and,if_neg (by simp)]
 | succ n ih=>
  intro i hn;have hl:=d.length_toList;rw [zfd];unfold zaK;unfold Go.Sort.scanUp;rw [if_pos (by simp only [decide_eq_true_eq];omega),show decide (i<=j)=true from decide_eq_true (by omega),Bool.true_and]
  (repeat (rw [zad (by first | omega | (unfold fits;omega) | (simp only [List.length_set,Array.length_toList];omega))]))
  rw [ixA,ixA,zjy];show (if (!ltS d[a]! d[i]!)=true then _ else _)=_
  cases ltS d[a]! d[i]! with
  | true=>rw [if_neg (by simp),if_neg (by simp)]
  | false=>
   rw [if_pos (by simp),if_pos (by simp)]
   (repeat (rw [zad (by first | omega | (unfold fits;omega) | (simp only [List.length_set,Array.length_toList];omega))]))
   exact ih (i+1) (by omega)
theorem zyM (a:Nat):∀ (n i j:Nat) (d:Array Stp),j+1 - i<=n->a < i->j < d.size->a < d.size->d.size<=1000000000->
  zcr a i j d.toList=some (((Go.Sort.partEqLoop ltS a i j d).1:Int),(Go.Sort.partEqLoop ltS a i j d).2.toList):=by
 intro n
 induction n using Nat.strongRecOn with
 | ind n ih=>
  intro i j d hn hi hj ha hd;have hl:=d.length_toList;rw [ziS];unfold za6;have g1:=Go.Sort.scanUp_ge (fun x => !ltS d[a]! x) d j i
  have u1:=Go.Sort.scanUp_spec (fun x => !ltS d[a]! x) d j _ i rfl
  rw [zAl a j d _ ha hj hd _ i rfl,Go.Sort.partEqLoop_eq];unfold zaW;generalize Go.Sort.scanUp (fun x => !ltS d[a]! x) d j i=i2 at *
  have g2:=Go.Sort.scanDown_le (fun x=>ltS d[a]! x) d i2 j
  rw [zvU a i2 d _ ha hd (by omega) j hj]
  unfold zaX;generalize Go.Sort.scanDown (fun x=>ltS d[a]! x) d i2 j=j2 at *
  by_cases c:i2 > j2
  ·rw [if_pos (by simp only [decide_eq_true_eq];omega),if_pos c]
  ·rw [if_neg (by simp only [decide_eq_true_eq];omega),if_neg c]
   (repeat (rw [zad (by first | omega | (unfold fits;omega) | (simp only [List.length_set,Array.length_toList];omega))]))
   rw [ixA,ixA,Int.toNat_natCast,Int.toNat_natCast,swpA,show (j2:Int) - 1=((j2 - 1:Nat):Int) by omega]
   exact ih (j2 - 1+1 - (i2+1)) (by omega) (i2+1) (j2 - 1) _ (Nat.le_refl _) (by omega) (by rw [swpZ];omega) (by rw [swpZ];exact ha) (by rw [swpZ];exact hd)
theorem zwQ (a b pivot:Nat) (d:Array Stp) (h1:a<=pivot) (h2:pivot < b) (hb:b<=d.size) (hd:d.size<=1000000000):zcU a b pivot d.toList=some (((Go.Sort.partitionEqual ltS d a b pivot).1:Int),(Go.Sort.partitionEqual ltS d a b pivot).2.toList):=by
 have hl:=d.length_toList;unfold zcU Go.Sort.partitionEqual
 (repeat (rw [zad (by first | omega | (unfold fits;omega) | (simp only [List.length_set,Array.length_toList];omega))]))
 rw [ixA,ixA,Int.toNat_natCast,Int.toNat_natCast,swpA,show (b:Int) - 1=((b - 1:Nat):Int) by omega]
 exact zyM a _ (a+1) (b - 1) _ (Nat.le_refl _) (by omega) (by rw [swpZ];omega) (by rw [swpZ];omega) (by rw [swpZ];exact hd)
theorem zvP (a i2:Nat) (d:Array Stp) (r:Int->Int->List Stp->Option (Int×Bool×List Stp)) (ha:a < d.size) (hd:d.size<=1000000000) (hi:0 < i2):∀ j:Nat,j < d.size->
  zbw a d.toList r i2 j=zbu a d.toList r i2 (Go.Sort.scanDown (fun x => !ltS x d[a]!) d i2 j:Nat)
 | 0,hj=>by
  rw [zgz];unfold zbe;rw [if_neg (by simp only [decide_eq_true_eq];omega)];rfl
 | j+1,hj=>by
  have hl:=d.length_toList;rw [zgz];unfold zbe;unfold Go.Sort.scanDown;by_cases c:i2<=j+1
  ·rw [if_pos (by simp only [decide_eq_true_eq];omega)]
   (repeat (rw [zad (by first | omega | (unfold fits;omega) | (simp only [List.length_set,Array.length_toList];omega))]))
   rw [ixA,ixA,zjy,show decide (i2<=j+1)=true from decide_eq_true c,Bool.true_and];show (if (!ltS d[j+1]! d[a]!)=true then _ else _)=_
   cases ltS d[j+1]! d[a]! with
   | false=>
    rw [if_pos (by simp),if_pos (by simp)]
    (repeat (rw [zad (by first | omega | (unfold fits;omega) | (simp only [List.length_set,Array.length_toList];omega))]))
    rw [show ((j+1:Nat):Int) - 1=(j:Int) by omega]
    exact zvP a i2 d r ha hd hi j (by omega)
   | true=>rw [if_neg (by simp),if_neg (by simp)]
  ·rw [if_neg (by simp only [decide_eq_true_eq];omega),show decide (i2<=j+1)=false from decide_eq_false c,Bool.false_and,if_neg (by simp)]
theorem zAh (a j:Nat) (d:Array Stp) (r:Int->Int->List Stp->Option (Int×Bool×List Stp)) (ha:a < d.size) (hj:j < d.size) (hd:d.size<=1000000000):∀ (n i:Nat),j+1 - i=n->
  zbv a j d.toList r i=zbt a j d.toList r (Go.Sort.scanUp (fun x=>ltS x d[a]!) d j i:Nat):=by
 intro n
 induction n with
 | zero=>
  intro i hn;rw [zgx];unfold zbd;unfold Go.Sort.scanUp;rw [if_neg (by simp only [decide_eq_true_eq];omega),show decide (i<=j)=false from decide_eq_false (by omega),Bool.false_and,if_neg (by simp)]
 | succ n ih=>
  intro i hn;have hl:=d.length_toList;rw [zgx];unfold zbd;unfold Go.Sort.scanUp;rw [if_pos (by simp only [decide_eq_true_eq];omega),show decide (i<=j)=true from decide_eq_true (by omega),Bool.true_and]
  (repeat (rw [zad (by first | omega | (unfold fits;omega) | (simp only [List.length_set,Array.length_toList];omega))]))
  rw [ixA,ixA,zjy];show (if ltS d[i]! d[a]! =true then _ else _)=_
  cases ltS d[i]! d[a]! with
  | false=>rw [if_neg (by simp),if_neg (by simp)]
  | true=>
   rw [if_pos (by simp),if_pos (by simp)]
   (repeat (rw [zad (by first | omega | (unfold fits;omega) | (simp only [List.length_set,Array.length_toList];omega))]))
   exact ih (i+1) (by omega)
theorem zyI (a:Nat):∀ (n i j:Nat) (d:Array Stp),j+1 - i<=n->a < i->j < d.size->a < d.size->d.size<=1000000000->
  zcT a i j d.toList=some (((Go.Sort.partLoop ltS a i j d).1:Int),false,(Go.Sort.swp (Go.Sort.partLoop ltS a i j d).2 (Go.Sort.partLoop ltS a i j d).1 a).toList):=by
 intro n
 induction n using Nat.strongRecOn with
 | ind n ih=>
  intro i j d hn hi hj ha hd;have hl:=d.length_toList;rw [zkp];unfold zbI;have g1:=Go.Sort.scanUp_ge (fun x=>ltS x d[a]!) d j i
  rw [zAh a j d _ ha hj hd _ i rfl,Go.Sort.partLoop_eq];unfold zbt;generalize Go.Sort.scanUp (fun x=>ltS x d[a]!) d j i=i2 at *
  have g2:=Go.Sort.scanDown_le (fun x => !ltS x d[a]!) d i2 j
  rw [zvP a i2 d _ ha hd (by omega) j hj]
  unfold zbu;generalize Go.Sort.scanDown (fun x => !ltS x d[a]!) d i2 j=j2 at *
  by_cases c:i2 > j2
  ·rw [if_pos (by simp only [decide_eq_true_eq];omega),if_pos c]
   (repeat (rw [zad (by first | omega | (unfold fits;omega) | (simp only [List.length_set,Array.length_toList];omega))]))
   rw [ixA,ixA,Int.toNat_natCast,Int.toNat_natCast,swpA]
  ·rw [if_neg (by simp only [decide_eq_true_eq];omega),if_neg c]
   (repeat (rw [zad (by first | omega | (unfold fits;omega) | (simp only [List.length_set,Array.length_toList];omega))]))
   rw [ixA,ixA,Int.toNat_natCast,Int.toNat_natCast,swpA,show (j2:Int) - 1=((j2 - 1:Nat):Int) by omega]
   exact ih (j2 - 1+1 - (i2+1)) (by omega) (i2+1) (j2 - 1) _ (Nat.le_refl _) (by omega) (by rw [swpZ];omega) (by rw [swpZ];exact ha) (by rw [swpZ];exact hd)
theorem zxG (a pivot i1:Nat) (d:Array Stp) (ha:a < d.size) (hp:pivot < d.size) (hd:d.size<=1000000000) (hi:0 < i1):∀ j:Nat,j < d.size->
  zdt a pivot d.toList i1 j=zdr a pivot d.toList i1 (Go.Sort.scanDown (fun x => !ltS x (Go.Sort.swp d a pivot)[a]!) (Go.Sort.swp d a pivot) i1 j:Nat)
 | 0,hj=>by
  rw [zg8];unfold zbk;rw [if_neg (by simp only [decide_eq_true_eq];omega)];rfl
 | j+1,hj=>by
  have hl:=d.length_toList;have hz:=swpZ d a pivot;have hl2:=(Go.Sort.swp d a pivot).length_toList;rw [zg8];unfold zbk;unfold Go.Sort.scanDown;rw [ixA d pivot,ixA d a,Int.toNat_natCast a,Int.toNat_natCast pivot,swpA];by_cases c:i1<=j+1
  ·rw [if_pos (by simp only [decide_eq_true_eq];omega)]
   (repeat (rw [zad (by first | omega | (unfold fits;omega) | (simp only [List.length_set,Array.length_toList];omega))]))
   rw [ixA,ixA,zjy,show decide (i1<=j+1)=true from decide_eq_true c,Bool.true_and];show (if (!ltS (Go.Sort.swp d a pivot)[j+1]! (Go.Sort.swp d a pivot)[a]!)=true then _ else _)=_
   cases ltS (Go.Sort.swp d a pivot)[j+1]! (Go.Sort.swp d a pivot)[a]! with
   | false=>
    rw [if_pos (by simp),if_pos (by simp)]
    (repeat (rw [zad (by first | omega | (unfold fits;omega) | (simp only [List.length_set,Array.length_toList];omega))]))
    rw [show ((j+1:Nat):Int) - 1=(j:Int) by omega]
    exact zxG a pivot i1 d ha hp hd hi j (by omega)
   | true=>rw [if_neg (by simp),if_neg (by simp)]
  ·rw [if_neg (by simp only [decide_eq_true_eq];omega),show decide (i1<=j+1)=false from decide_eq_false c,Bool.false_and,if_neg (by simp)]
theorem zBL (a b pivot:Nat) (d:Array Stp) (ha:a < d.size) (hp:pivot < d.size) (hb0:0 < b) (hb:b<=d.size) (hd:d.size<=1000000000):∀ (n i:Nat),b - 1+1 - i=n->
  zds a b pivot d.toList i=zdq a b pivot d.toList (Go.Sort.scanUp (fun x=>ltS x (Go.Sort.swp d a pivot)[a]!) (Go.Sort.swp d a pivot) (b - 1) i:Nat):=by
 intro n;have hl:=d.length_toList;have hz:=swpZ d a pivot;have hl2:=(Go.Sort.swp d a pivot).length_toList
 induction n with
 | zero=>
  intro i hn;rw [zg7];unfold zbj;unfold Go.Sort.scanUp
  (repeat (rw [zad (by first | omega | (unfold fits;omega) | (simp only [List.length_set,Array.length_toList];omega))]))
  rw [if_neg (by simp only [decide_eq_true_eq];omega),show decide (i<=b - 1)=false from decide_eq_false (by omega),Bool.false_and,if_neg (by simp)]
 | succ n ih=>
  intro i hn;rw [zg7];unfold zbj;unfold Go.Sort.scanUp
  (repeat (rw [zad (by first | omega | (unfold fits;omega) | (simp only [List.length_set,Array.length_toList];omega))]))
  rw [ixA d pivot,ixA d a,Int.toNat_natCast a,Int.toNat_natCast pivot,swpA];rw [if_pos (by simp only [decide_eq_true_eq];omega),show decide (i<=b - 1)=true from decide_eq_true (by omega),Bool.true_and]
  (repeat (rw [zad (by first | omega | (unfold fits;omega) | (simp only [List.length_set,Array.length_toList];omega))]))
  rw [ixA,ixA,zjy];show (if ltS (Go.Sort.swp d a pivot)[i]! (Go.Sort.swp d a pivot)[a]! =true then _ else _)=_
  cases ltS (Go.Sort.swp d a pivot)[i]! (Go.Sort.swp d a pivot)[a]! with
  | false=>rw [if_neg (by simp),if_neg (by simp)]
  | true=>
   rw [if_pos (by simp),if_pos (by simp)]
   (repeat (rw [zad (by first | omega | (unfold fits;omega) | (simp only [List.length_set,Array.length_toList];omega))]))
   exact ih (i+1) (by omega)
theorem zyK (a b pivot:Nat) (d:Array Stp) (h1:a<=pivot) (h2:pivot < b) (hb:b<=d.size) (hd:d.size<=1000000000):zeF a b pivot d.toList=some (((Go.Sort.partition ltS d a b pivot).1:Int),(Go.Sort.partition ltS d a b pivot).2.1,(Go.Sort.partition ltS d a b pivot).2.2.toList):=by
 have hl:=d.length_toList;have hz:=swpZ d a pivot;have hl2:=(Go.Sort.swp d a pivot).length_toList;unfold zeF Go.Sort.partition;dsimp only
 (repeat (rw [zad (by first | omega | (unfold fits;omega) | (simp only [List.length_set,Array.length_toList];omega))]))
 have g1:=Go.Sort.scanUp_ge (fun x=>ltS x (Go.Sort.swp d a pivot)[a]!) (Go.Sort.swp d a pivot) (b - 1) (a+1)
 have e1:=zBL a b pivot d (by omega) (by omega) (by omega) hb hd _ (a+1) rfl
 rw [show ((a+1:Nat):Int)=(a:Int)+1 by omega] at e1
 rw [e1];unfold zdq;generalize Go.Sort.scanUp (fun x=>ltS x (Go.Sort.swp d a pivot)[a]!) (Go.Sort.swp d a pivot) (b - 1) (a+1)=i1 at *
 have g2:=Go.Sort.scanDown_le (fun x => !ltS x (Go.Sort.swp d a pivot)[a]!) (Go.Sort.swp d a pivot) i1 (b - 1)
 rw [show (b:Int) - 1=((b - 1:Nat):Int) by omega]
 (repeat (rw [zad (by first | omega | (unfold fits;omega) | (simp only [List.length_set,Array.length_toList];omega))]))
 rw [zxG a pivot i1 d (by omega) (by omega) hd (by omega) (b - 1) (by omega)]
 unfold zdr;generalize Go.Sort.scanDown (fun x => !ltS x (Go.Sort.swp d a pivot)[a]!) (Go.Sort.swp d a pivot) i1 (b - 1)=j1 at *
 rw [ixA d pivot,ixA d a,Int.toNat_natCast a,Int.toNat_natCast pivot,swpA];by_cases c:i1 > j1
 ·rw [if_pos (by simp only [decide_eq_true_eq];omega),if_pos c]
  (repeat (rw [zad (by first | omega | (unfold fits;omega) | (simp only [List.length_set,Array.length_toList];omega))]))
  rw [ixA,ixA,Int.toNat_natCast,swpA]
 ·rw [if_neg (by simp only [decide_eq_true_eq];omega),if_neg c]
  (repeat (rw [zad (by first | omega | (unfold fits;omega) | (simp only [List.length_set,Array.length_toList];omega))]))
  rw [ixA,ixA,Int.toNat_natCast,Int.toNat_natCast,swpA,show (j1:Int) - 1=((j1 - 1:Nat):Int) by omega]
  exact zyI a _ (i1+1) (j1 - 1) _ (Nat.le_refl _) (by omega) (by rw [swpZ];omega) (by rw [swpZ];omega) (by rw [swpZ];omega)
theorem zzS (a b:Nat) (M:Int) (h8:a+8<=b) (hM:0 < M/\M<=2 * ((b:Int) - a)):∀ (n idx:Nat) (rnd:Int) (d:Array Stp),a+(b - a) / 4 * 2+2 - idx=n->a<=idx->b<=d.size->d.size<=1000000000->
  ∃ d',zb2 a b M idx d.toList rnd=some d'.toList/\Go.Sort.PermIn a b d d':=by
 intro n;have e:Int.tdiv ((b:Int) - (a:Int)) 4=(((b - a) / 4:Nat):Int):=by
  rw [show (b:Int) - (a:Int)=((b - a:Nat):Int) by omega,show (4:Int)=((4:Nat):Int) from rfl,<- Int.ofNat_tdiv]
 have h4:=Nat.div_mul_le_self (b - a) 4
 induction n with
 | zero=>
  intro idx rnd d hn hi hb hd;refine ⟨d,?_,Go.Sort.permIn_refl d a b⟩
  rw [zfr];unfold zaO;rw [e]
  (repeat (rw [zad (by first | omega | (unfold fits;omega) | (simp only [List.length_set,Array.length_toList];omega))]))
  rw [if_neg (by simp only [decide_eq_true_eq];omega)]
 | succ n ih=>
  intro idx rnd d hn hi hb hd;have hl:=d.length_toList;rw [zfr];unfold zaO;rw [e]
  (repeat (rw [zad (by first | omega | (unfold fits;omega) | (simp only [List.length_set,Array.length_toList];omega))]))
  rw [if_pos (by simp only [decide_eq_true_eq];omega)]
  unfold zeD;rw [zad (by omega),zad (by omega),zad (by omega)]
  simp only [Option.bind_some];generalize ixor .u64 _ _=rn;rw [zqT (x:=M - 1) (by omega) (by omega)]
  have hia:=zEr (x:=rn) (y:=M - 1) (by omega) (by omega)
  generalize iand .u64 rn (M - 1)=o at *
  rw [zzf (x:=o) (by omega) (by omega)]
  have J9:∀ t:Nat,t < b - a->∃ d',za8 a idx d.toList (zb2 a b M) rn t=some d'.toList/\Go.Sort.PermIn a b d d':=fun t ht=>by
   unfold za8;rw [show (a:Int)+(t:Int)=((a+t:Nat):Int) by omega]
   (repeat (rw [zad (by first | omega | (unfold fits;omega) | (simp only [List.length_set,Array.length_toList];omega))]))
   rw [ixA,ixA,Int.toNat_natCast,Int.toNat_natCast,swpA,show (idx:Int)+1=((idx+1:Nat):Int) by omega]
   obtain ⟨d',e',p'⟩:=ih (idx+1) rn (Go.Sort.swp d idx (a+t)) (by omega) (by omega) (by rw [swpZ];exact hb) (by rw [swpZ];exact hd)
   exact ⟨d',e',Go.Sort.permIn_trans d _ d' a b (Go.Sort.swp_permIn d a b idx (a+t) hi (by omega) (by omega) (by omega) hb) p'⟩
  by_cases c:(b:Int) - (a:Int)<=o
  ·rw [if_pos (decide_eq_true c),zad (by unfold fits;omega),show o - ((b:Int) - (a:Int))=((o - ((b:Int) - (a:Int))).toNat:Int) by omega]
   exact J9 _ (by omega)
  ·rw [if_neg (by simpa using c),show o=(o.toNat:Int) by omega]
   exact J9 _ (by omega)
theorem zxc (a b:Nat) (d:Array Stp) (hab:a<=b) (hb:b<=d.size) (hd:d.size<=1000000000):∃ d',zda a b d.toList=some d'.toList/\Go.Sort.PermIn a b d d':=by
 unfold zda
 (repeat (rw [zad (by first | omega | (unfold fits;omega) | (simp only [List.length_set,Array.length_toList];omega))]))
 by_cases c:8<=b - a
 ·rw [if_pos (by simp only [decide_eq_true_eq];omega)]
  obtain ⟨M,e,h⟩:=zBF (n:=(b:Int) - (a:Int)) (by omega) (by omega)
  rw [e];have e4:Int.tdiv ((b:Int) - (a:Int)) 4=(((b - a) / 4:Nat):Int):=by
   rw [show (b:Int) - (a:Int)=((b - a:Nat):Int) by omega,show (4:Int)=((4:Nat):Int) from rfl,<- Int.ofNat_tdiv]
  show ∃ d',G _ _=_/\_;rw [e4];have h4:=Nat.div_mul_le_self (b - a) 4
  (repeat (rw [zad (by first | omega | (unfold fits;omega) | (simp only [List.length_set,Array.length_toList];omega))]))
  rw [show (a:Int)+(((b - a) / 4:Nat):Int) * 2 - 1=((a+(b - a) / 4 * 2 - 1:Nat):Int) by omega]
  exact zzS a b M (by omega) h _ _ _ d rfl (by omega) hb hd
 ·rw [if_neg (by simp only [decide_eq_true_eq];omega)]
  exact ⟨d,rfl,Go.Sort.permIn_refl d a b⟩
def zkC (n:Nat):Prop:=∀ (a b lim:Nat) (wb wp:Bool) (d:Array Stp),b - a<=n->a<=b->b<=d.size->d.size<=1000000000->lim<=64->Go.Sort.Below ltS a b d->
 ∃ d',zan zak a b lim wb wp d.toList=some d'.toList/\Go.Sort.PermIn a b d d'/\Go.Sort.SortedIn ltS a b d'
theorem zod (a b lim:Nat) (l:List Stp):zak a b lim l=zan zak a b lim true true l:=by
 rw [znU];unfold zcB;rfl
theorem zvJ (hS:Go.Sort.SWO ltS) {n:Nat} (ih:∀ m,m < n->zkC m) (a b lim pivot:Nat) (wb wp:Bool) (d:Array Stp) (hn:b - a=n) (hab:a < b) (hb:b<=d.size) (hd:d.size<=1000000000) (hlim:lim<=64) (hB:Go.Sort.Below ltS a b d) (p0:a<=pivot) (p1:pivot < b) (t:Bool) (ht:t=true->0 < a/\ltS d[a - 1]! d[pivot]! =false):
  ∃ d',zbN zak a b wb wp (zan zak) lim pivot d.toList t=some d'.toList/\Go.Sort.PermIn a b d d'/\Go.Sort.SortedIn ltS a b d':=by
 unfold zbN
 cases t with
 | true=>
  obtain ⟨ha,hlt⟩:=ht rfl;have hle:∀ i,a<=i->i < b->ltS d[i]! d[pivot]! =false:=fun i i0 i1=>hS.ntrans _ _ _ ((hB.resolve_left (by omega)) i i0 i1) hlt
  obtain ⟨q1,q2,q3,q4,q5⟩:=Go.Sort.partitionEqual_holds ltS hS d a b pivot p0 p1 hb hle;rw [if_pos rfl,zwQ a b pivot d p0 p1 hb hd];simp only [Option.bind_some];have hall:=Go.Sort.permIn_all d (Go.Sort.partitionEqual ltS d a b pivot).2 a b (fun x=>ltS x d[pivot]! =false) hb q3 hle
  generalize Go.Sort.partitionEqual ltS d a b pivot=r at *
  obtain ⟨mid,d4⟩:=r;dsimp only at q1 q2 q3 q4 q5 hall ⊢;have hz:=q3.1;obtain ⟨R,e,r1,r2⟩:=ih (b - mid) (by omega) mid b lim wb wp d4 (Nat.le_refl _) q2 (by omega) (by omega) hlim (.inr fun i i0 i1=>by
   cases hc:ltS d4[i]! d4[mid - 1]! with
   | false=>rfl
   | true=>have:=hS.trans _ _ _ (q5 i i0 i1) hc;rw [q4 (mid - 1) (by omega) (by omega)] at this;cases this)
  have hm:=Go.Sort.permIn_mono d4 R mid b a b (by omega) (Nat.le_refl _) (by omega) r1
  refine ⟨R,e,Go.Sort.permIn_trans d d4 R a b q3 hm,?_⟩
  have hout:∀ i,i < mid->R[i]! =d4[i]! :=fun i h=>r1.2.1 i (.inl h)
  have hin:=Go.Sort.permIn_all d4 R mid b (fun x=>ltS d[pivot]! x=true) (by omega) r1 q5
  exact Go.Sort.sorted_glue_eq hS d[pivot]! r2 (fun i i0 i1=>by rw [hout i i1];exact q4 i i0 i1) (fun i i0 i1=>by rw [hout i i1];exact hall i i0 (by omega)) hin
 | false=>
  obtain ⟨q1,q2,q3,q4,q5⟩:=Go.Sort.partition_holds ltS hS d a b pivot p0 p1 hb;rw [if_neg (by simp),zyK a b pivot d p0 p1 hb hd]
  simp only [Option.bind_some];have hB4:=hB.perm hb q3;generalize Go.Sort.partition ltS d a b pivot=r at *
  obtain ⟨mid,al,d4⟩:=r;dsimp only at q1 q2 q3 q4 q5 hB4 ⊢;have hz:=q3.1;have e8:Int.tdiv ((b:Int) - (a:Int)) 8=(((b - a) / 8:Nat):Int):=by
   rw [show (b:Int) - (a:Int)=((b - a:Nat):Int) by omega,show (8:Int)=((8:Nat):Int) from rfl,<- Int.ofNat_tdiv]
  have h8:=Nat.div_mul_le_self (b - a) 8;rw [e8]
  (repeat (rw [zad (by first | omega | (unfold fits;omega) | (simp only [List.length_set,Array.length_toList];omega))]))
  have e1:(mid:Int)+1=((mid+1:Nat):Int):=by omega
  rw [e1];have left:∀ (d5:Array Stp) (wb wp:Bool),d5.size=d.size->(∀ i,a<=i->i < mid->d5[i]! =d4[i]!)->(∀ i,i < a->d5[i]! =d4[i]!)->∃ R,zan zak a mid lim wb wp d5.toList=some R.toList/\Go.Sort.PermIn a mid d5 R/\Go.Sort.SortedIn ltS a mid R:=fun d5 wb wp h1 h2 h3=>
   ih (mid - a) (by omega) a mid lim wb wp d5 (Nat.le_refl _) q1 (by omega) (by omega) hlim (by
    rcases hB4 with h | h
    ·exact .inl h
    ·rcases Nat.eq_zero_or_pos a with h0 | h0
     ·exact .inl h0
     ·exact .inr fun i i0 i1=>by rw [h2 i i0 i1,h3 (a - 1) (by omega)];exact h i i0 (by omega))
  have right:∀ (d5:Array Stp) (wb wp:Bool),d5.size=d.size->(∀ i,mid<=i->i < b->d5[i]! =d4[i]!)->∃ R,zan zak (mid+1:Nat) b lim wb wp d5.toList=some R.toList/\Go.Sort.PermIn (mid+1) b d5 R/\Go.Sort.SortedIn ltS (mid+1) b R:=fun d5 wb wp h1 h2=>
   ih (b - (mid+1)) (by omega) (mid+1) b lim wb wp d5 (Nat.le_refl _) (by omega) (by omega) (by omega) hlim (.inr fun i i0 i1=>by
    rw [Nat.add_sub_cancel,h2 i (by omega) i1,h2 mid (Nat.le_refl _) q2]
    exact q5 i (by omega) i1)
  by_cases c:mid - a < b - mid
  ·rw [if_pos (by simp only [decide_eq_true_eq];omega)]
   obtain ⟨R1,s1,s2,s3⟩:=left d4 true true hz (fun _ _ _=>rfl) (fun _ _=>rfl)
   rw [zod,s1];simp only [Option.bind_some]
   (repeat (rw [zad (by first | omega | (unfold fits;omega) | (simp only [List.length_set,Array.length_toList];omega))]))
   obtain ⟨R2,t1,t2,t3⟩:=right R1 (decide ((((b - a) / 8:Nat):Int)<=(mid:Int) - (a:Int))) al (by rw [s2.1];exact hz) (fun i i0 i1=>s2.2.1 i (.inr i0))
   refine ⟨R2,t1,?_,?_⟩
   ·exact Go.Sort.permIn_trans d d4 R2 a b q3 (Go.Sort.permIn_trans d4 R1 R2 a b (Go.Sort.permIn_mono d4 R1 a mid a b (Nat.le_refl _) (by omega) (by omega) s2) (Go.Sort.permIn_mono R1 R2 (mid+1) b a b (by omega) (Nat.le_refl _) (by rw [s2.1];omega) t2))
   ·have hl:∀ i,i < mid+1->R2[i]! =R1[i]! :=fun i h=>t2.2.1 i (.inl h)
    have hmid:R2[mid]! =d4[mid]! :=(hl mid (by omega)).trans (s2.2.1 mid (.inr (Nat.le_refl _)))
    have hlo:=Go.Sort.permIn_all d4 R1 a mid (fun x=>ltS x d4[mid]! =true) (by omega) s2 q4
    have hhi:=Go.Sort.permIn_all R1 R2 (mid+1) b (fun x=>ltS x d4[mid]! =false) (by rw [s2.1];omega) t2 (fun i i0 i1=>by rw [s2.2.1 i (.inr (by omega))];exact q5 i (by omega) i1)
    exact Go.Sort.sorted_glue hS (s3.congr fun i i0 i1=>hl i (by omega)) t3 (fun i i0 i1=>by rw [hl i (by omega),hmid];exact hlo i i0 i1) (fun i i0 i1=>by rw [hmid];exact hhi i (by omega) i1)
  ·rw [if_neg (by simp only [decide_eq_true_eq];omega)]
   obtain ⟨R1,s1,s2,s3⟩:=right d4 true true hz (fun _ _ _=>rfl)
   rw [zod,s1];simp only [Option.bind_some]
   (repeat (rw [zad (by first | omega | (unfold fits;omega) | (simp only [List.length_set,Array.length_toList];omega))]))
   obtain ⟨R2,t1,t2,t3⟩:=left R1 (decide ((((b - a) / 8:Nat):Int)<=(b:Int) - (mid:Int))) al (by rw [s2.1];exact hz) (fun i i0 i1=>s2.2.1 i (.inl (by omega))) (fun i i0=>s2.2.1 i (.inl (by omega)))
   refine ⟨R2,t1,?_,?_⟩
   ·exact Go.Sort.permIn_trans d d4 R2 a b q3 (Go.Sort.permIn_trans d4 R1 R2 a b (Go.Sort.permIn_mono d4 R1 (mid+1) b a b (by omega) (Nat.le_refl _) (by omega) s2) (Go.Sort.permIn_mono R1 R2 a mid a b (Nat.le_refl _) (by omega) (by rw [s2.1];omega) t2))
   ·have hl:∀ i,mid<=i->R2[i]! =R1[i]! :=fun i h=>t2.2.1 i (.inr h)
    have hmid:R2[mid]! =d4[mid]! :=(hl mid (Nat.le_refl _)).trans (s2.2.1 mid (.inl (by omega)))
    have hlo:=Go.Sort.permIn_all R1 R2 a mid (fun x=>ltS x d4[mid]! =true) (by rw [s2.1];omega) t2 (fun i i0 i1=>by rw [s2.2.1 i (.inl (by omega))];exact q4 i i0 i1)
    have hhi:=Go.Sort.permIn_all d4 R1 (mid+1) b (fun x=>ltS x d4[mid]! =false) (by omega) s2 (fun i i0 i1=>q5 i (by omega) i1)
    exact Go.Sort.sorted_glue hS t3 (s3.congr fun i i0 i1=>hl i (by omega)) (fun i i0 i1=>by rw [hmid];exact hlo i i0 i1) (fun i i0 i1=>by rw [hl i (by omega),hmid];exact hhi i (by omega) i1)
theorem zvH (hS:Go.Sort.SWO ltS) {n:Nat} (ih:∀ m,m < n->zkC m) (a b lim pivot:Nat) (wb wp:Bool) (d:Array Stp) (hn:b - a=n) (hab:a < b) (hb:b<=d.size) (hd:d.size<=1000000000) (hlim:lim<=64) (hB:Go.Sort.Below ltS a b d) (p0:a<=pivot) (p1:pivot < b):
  ∃ d',zbM zak a b wb wp (zan zak) lim pivot d.toList=some d'.toList/\Go.Sort.PermIn a b d d'/\Go.Sort.SortedIn ltS a b d':=by
 have hl:=d.length_toList;unfold zbM;by_cases c:0 < a
 ·rw [if_pos (by simp only [decide_eq_true_eq];omega),show (a:Int) - 1=((a - 1:Nat):Int) by omega]
  (repeat (rw [zad (by first | omega | (unfold fits;omega) | (simp only [List.length_set,Array.length_toList];omega))]))
  rw [ixA,ixA,zjy];simp only [Option.bind_some];exact zvJ hS ih a b lim pivot wb wp d hn hab hb hd hlim hB p0 p1 (!ltS d[a - 1]! d[pivot]!) (fun h=>⟨c,by simpa using h⟩)
 ·rw [if_neg (by simp only [decide_eq_true_eq];omega)]
  exact zvJ hS ih a b lim pivot wb wp d hn hab hb hd hlim hB p0 p1 false (by simp)
theorem zvF (hS:Go.Sort.SWO ltS) {n:Nat} (ih:∀ m,m < n->zkC m) (a b lim pivot:Nat) (wb wp:Bool) (hint:Int) (d:Array Stp) (hn:b - a=n) (hab:a < b) (hb:b<=d.size) (hd:d.size<=1000000000) (hlim:lim<=64) (hB:Go.Sort.Below ltS a b d) (p0:a<=pivot) (p1:pivot < b):
  ∃ d',zbL zak a b wb wp (zan zak) lim pivot hint d.toList=some d'.toList/\Go.Sort.PermIn a b d d'/\Go.Sort.SortedIn ltS a b d':=by
 have J15:∀ t:Bool,∃ d',zbn zak a b wb wp (zan zak) lim pivot d.toList t=some d'.toList/\Go.Sort.PermIn a b d d'/\Go.Sort.SortedIn ltS a b d':=fun t=>by
  unfold zbn
  cases t with
  | true=>
   obtain ⟨k1,k2⟩:=Go.Sort.partialInsertionSort_holds hS d a b hab hb hB;rw [if_pos rfl,zvk a b d hab hb hd];simp only [Option.bind_some];generalize Go.Sort.partialInsertionSort ltS d a b=r at *
   obtain ⟨d3,ok⟩:=r;dsimp only at k1 k2 ⊢
   cases ok with
   | true=>exact ⟨d3,rfl,k1,k2 rfl⟩
   | false=>
    rw [if_neg (by simp)]
    obtain ⟨d',e,q1,q2⟩:=zvH hS ih a b lim pivot wb wp d3 hn hab (by rw [k1.1];exact hb) (by rw [k1.1];exact hd) hlim (hB.perm hb k1) p0 p1
    exact ⟨d',e,Go.Sort.permIn_trans d d3 d' a b k1 q1,q2⟩
  | false=>
   rw [if_neg (by simp)]
   exact zvH hS ih a b lim pivot wb wp d hn hab hb hd hlim hB p0 p1
 unfold zbL
 split
 ·split
  ·exact J15 _
  ·exact J15 _
 ·exact J15 _
theorem zAj (hS:Go.Sort.SWO ltS):∀ n,zkC n:=by
 intro n
 induction n using Nat.strongRecOn with
 | ind n ih=>
  intro a b lim wb wp d hn hab hb hd hlim hB;have hl:=d.length_toList;rw [zmn];unfold zb6
  (repeat (rw [zad (by first | omega | (unfold fits;omega) | (simp only [List.length_set,Array.length_toList];omega))]))
  by_cases c1:b - a<=12
  ·rw [if_pos (by simp only [decide_eq_true_eq];omega),zAa a b d hab hb hd]
   obtain ⟨q1,q2⟩:=Go.Sort.insertionSort_holds hS d a b hab hb;exact ⟨_,rfl,q1,q2⟩
  ·rw [if_neg (by simp only [decide_eq_true_eq];omega)]
   by_cases c2:lim=0
   ·rw [if_pos (by simp [c2]),zyz a b d (by omega) hb hd]
    obtain ⟨q1,q2⟩:=Go.Sort.heapSort_holds hS d a b hab hb;exact ⟨_,rfl,q1,q2⟩
   ·rw [if_neg (by simp only [decide_eq_true_eq];omega)]
    have J9:∀ (lim:Nat) (d1:Array Stp),lim<=64->Go.Sort.PermIn a b d d1->∃ d',zb0 zak a b wb wp (zan zak) lim d1.toList=some d'.toList/\Go.Sort.PermIn a b d d'/\Go.Sort.SortedIn ltS a b d':=fun lim d1 h1 h2=>by
     have hz:=h2.1;have hB1:=hB.perm hb h2;obtain ⟨c3,c4⟩:=Go.Sort.choosePivot_holds ltS d1 a b (by omega)
     unfold zb0;rw [zxI d1 a b (by omega) (by omega) (by omega)]
     simp only [Option.bind_some];generalize Go.Sort.choosePivot ltS d1 a b=r at *
     obtain ⟨pv,hi⟩:=r;dsimp only at c3 c4 ⊢;have ih':∀ m,m < b - a->zkC m:=fun m hm=>ih m (by omega)
     by_cases c5:zlV hi=2
     ·rw [if_pos (by simp [c5]),zAr a b d1 (by omega) (by omega) (by omega)]
      simp only [Option.bind_some];have hr:=Go.Sort.reverseRange_holds d1 a b hab (by omega)
      have hz2:=hr.1
      (repeat (rw [zad (by first | omega | (unfold fits;omega) | (simp only [List.length_set,Array.length_toList];omega))]))
      rw [show (b:Int) - 1 - ((pv:Int) - (a:Int))=(((b - 1) - (pv - a):Nat):Int) by omega]
      obtain ⟨d',e,q1,q2⟩:=zvF hS ih' a b lim ((b - 1) - (pv - a)) wb wp 1 _ rfl (by omega) (by omega) (by omega) h1 (hB1.perm (by omega) hr) (by omega) (by omega)
      exact ⟨d',e,Go.Sort.permIn_trans d d1 d' a b h2 (Go.Sort.permIn_trans d1 _ d' a b hr q1),q2⟩
     ·rw [if_neg (by simpa using c5)]
      obtain ⟨d',e,q1,q2⟩:=zvF hS ih' a b lim pv wb wp (zlV hi) d1 rfl (by omega) (by omega) (by omega) h1 hB1 c3 c4
      exact ⟨d',e,Go.Sort.permIn_trans d d1 d' a b h2 q1,q2⟩
    cases wb with
    | true=>
     rw [if_neg (by simp)]
     exact J9 lim d hlim (Go.Sort.permIn_refl d a b)
    | false=>
     rw [if_pos (by simp)]
     obtain ⟨d1,e,q⟩:=zxc a b d hab hb hd;rw [e];simp only [Option.bind_some]
     (repeat (rw [zad (by first | omega | (unfold fits;omega) | (simp only [List.length_set,Array.length_toList];omega))]))
     rw [show (lim:Int) - 1=((lim - 1:Nat):Int) by omega]
     exact J9 (lim - 1) d1 (by omega) q
theorem zwS (hS:Go.Sort.SWO ltS) (l:List Stp) (hl:l.length<=1000000000) {v:Int} (hv:BL l.length v):∃ l',zak 0 l.length v l=some l'/\l'.Perm l/\l'.Pairwise (fun x y=>ltS y x=false):=by
 obtain ⟨v0,v1,_⟩:=hv;obtain ⟨d',e,q1,q2⟩:=zAj hS _ 0 l.length v.toNat true true l.toArray (Nat.le_refl _) (Nat.zero_le _) (by simp) (by simpa using hl) (by omega) (.inl rfl)
 have hz:=q1.1;refine ⟨d'.toList,?_,?_,?_⟩
 ·have:=zod 0 l.length v.toNat l;rw [show ((v.toNat:Nat):Int)=v by omega] at this
  rw [show ((0:Nat):Int)=0 from rfl] at this;rw [this];rw [show ((v.toNat:Nat):Int)=v by omega] at e
  exact e
 ·have:=q1.2.2;rw [show d'.extract 0 l.length=d' by rw [<- show d'.size=l.length by simpa using hz];simp,show l.toArray.extract 0 l.length=l.toArray by simp] at this
  simpa using this
 ·rw [List.pairwise_iff_getElem];intro i j hi hj hij;have:=q2 i j (Nat.zero_le _) hij (by simpa [hz] using hj)
  simp only [Array.length_toList] at hi hj;rw [getElem!_pos d' j hj,getElem!_pos d' i hi] at this;simpa using this
end
theorem zEj {a b:Int} (c:a=b):decide (a=b)=true:=decide_eq_true c
theorem zEi {a b:Int} (c : ¬ a=b) : ¬ decide (a=b)=true:=fun h=>c (of_decide_eq_true h)
theorem cq_np {a b:Int} (c : ¬ a=b):decide (¬ a=b)=true:=decide_eq_true c
theorem cq_nn {a b:Int} (c:a=b) : ¬ decide (¬ a=b)=true:=fun h=>of_decide_eq_true h c
theorem zCh {a b:Stp} (c:a=b):eqB a b=true:=zgK.2 c
theorem zCg {a b:Stp} (c : ¬ a=b) : ¬ eqB a b=true:=fun h=>c (zgK.1 h)
theorem zDj {a b:Stp} (c : ¬ a=b):(!(eqB a b))=true:=by
 cases h:eqB a b with
 | false=>rfl
 | true=>exact absurd (zgK.1 h) c
theorem zDi {a b:Stp} (c:a=b) : ¬ (!(eqB a b))=true:=by rw [zgK.2 c];simp
theorem zCf {s:List Int} (hl:s.length<=1000000000) (hT:∀ x y,Go.Sort.ltInt x y=false->Go.Sort.ltInt y x=false->x=y) (hS:s.Pairwise (fun x y=>Go.Sort.ltInt y x=false)) {k:Nat} (hk:0 < k) (hks:k < s.length):
  ∀ (n k2 k1:Nat) (s1:List Int),s.length - k - k2=n->1<=k2->k+k2<=s.length->0 < k1->k1+1<=k+k2->s1.length=s.length->(∀ i:Nat,k1<=i->s1[i]? =s[i]?)->
   (∀ x,x∈s1.take k1↔x∈s.take (k+k2))->(s1.take k1).Pairwise (fun x y=>Go.Sort.ltInt x y=true)->
   ∃ r,zh4 s (k:Nat) (k1:Nat) (k2:Nat) s1=some r/\(∀ x,x∈r↔x∈s)/\r.Pairwise (fun x y=>Go.Sort.ltInt x y=true)/\r.length<=s.length:=by
 intro n
 induction n with
 | zero=>
  intro k2 k1 s1 hn h1 h2 h3 h4 h5 h6 h7 h8;rw [zli];unfold zcQ;simp only [Int.toNat_natCast];rw [if_neg (by simp only [decide_eq_true_eq];omega),zad (by omega),zad (by omega),zad (by simp;omega)]
  refine ⟨_,rfl,?_,?_,by simp;omega⟩
  ·intro x;rw [List.append_assoc,List.take_append_of_le_length (by simp;omega),List.take_take,Nat.min_self,h7,show k+k2=s.length by omega,List.take_length]
  ·rw [List.append_assoc,List.take_append_of_le_length (by simp;omega),List.take_take,Nat.min_self]
   exact h8
 | succ n ih=>
  intro k2 k1 s1 hn h1 h2 h3 h4 h5 h6 h7 h8;have hj:k+k2 < s.length:=by omega
  rw [zli];unfold zcQ;rw [show (k2:Int) - 1=((k2 - 1:Nat):Int) by omega]
  rw [if_pos (by simp only [decide_eq_true_eq];omega),zad (by omega),zad (by omega),zad (by unfold fits;omega),zad (by omega),zad (by omega)]
  have e1:ix s1 (((k:Int).toNat+(k2:Int).toNat:Nat):Int)=s[k+k2]:=by
   rw [Int.toNat_natCast,Int.toNat_natCast,zzy,List.getD_eq_getElem?_getD,h6 (k+k2) (by omega),List.getElem?_eq_getElem hj];rfl
  have e2:ix s1 (((k:Int).toNat+((k2 - 1:Nat):Int).toNat:Nat):Int)=s[k+(k2 - 1)]'(by omega):=by
   rw [Int.toNat_natCast,Int.toNat_natCast,zzy,List.getD_eq_getElem?_getD,h6 (k+(k2 - 1)) (by omega),List.getElem?_eq_getElem (by omega)];rfl
  have et:s.take (k+(k2+1))=s.take (k+k2)++[s[k+k2]]:=by
   rw [<- Nat.add_assoc,List.take_add_one,List.getElem?_eq_getElem hj];rfl
  have hm:s[k+(k2 - 1)]'(by omega)∈s.take (k+k2):=by
   rw [List.mem_take_iff_getElem];exact ⟨k+(k2 - 1),by omega,rfl⟩
  by_cases c:s[k+k2]=s[k+(k2 - 1)]'(by omega)
  ·rw [if_neg (cq_nn (e1.trans (c.trans e2.symm))),zad (by unfold fits;omega)]
   exact ih (k2+1) k1 s1 (by omega) (by omega) (by omega) h3 (by omega) h5 h6 (fun x=>by
    rw [h7,et,List.mem_append,List.mem_singleton];refine ⟨.inl,fun h=>h.elim id fun h => ?_⟩
    rw [h,c];exact hm) h8
  ·rw [if_pos (cq_np (fun h=>c (e1.symm.trans (h.trans e2)))),zad (by omega),zad (by omega),zad (by omega),zad (by omega),zad (by unfold fits;omega),zad (by unfold fits;omega),e1,Int.toNat_natCast k1]
   have eset:(s1.set k1 s[k+k2]).take (k1+1)=s1.take k1++[s[k+k2]]:=by
    rw [List.take_add_one,List.take_set_of_le (Nat.le_refl _),List.getElem?_set_self (by omega)];rfl
   refine ih (k2+1) (k1+1) (s1.set k1 s[k+k2]) (by omega) (by omega) (by omega) (by omega) (by omega) (by simp;omega) (fun i hi=>by
    rw [List.getElem?_set_ne (by omega)];exact h6 i (by omega)) (fun x=>by
    rw [eset,et,List.mem_append,List.mem_append,h7]) ?_
   rw [eset,List.pairwise_append];refine ⟨h8,List.pairwise_singleton _ _,fun x hx y hy => ?_⟩
   rw [List.mem_singleton.1 hy];rw [h7,List.mem_take_iff_getElem] at hx;obtain ⟨i,hi,rfl⟩:=hx;have hp:=List.pairwise_iff_getElem.1 hS
   cases hc:Go.Sort.ltInt s[i] s[k+k2] with
   | true=>rfl
   | false=>
    exfalso;have e3:=hT _ _ hc (hp i (k+k2) (by omega) hj (by omega))
    apply c
    by_cases ei:i=k+(k2 - 1)
    ·subst ei;exact e3.symm
    ·have p1:=hp i (k+(k2 - 1)) (by omega) (by omega) (by omega)
     have p2:=hp (k+(k2 - 1)) (k+k2) (by omega) hj (by omega)
     rw [e3] at p1;exact hT _ _ p2 p1
theorem zDh {s:List Int} (hl:s.length<=1000000000) (hI:∀ x,Go.Sort.ltInt x x=false) (hT:∀ x y,Go.Sort.ltInt x y=false->Go.Sort.ltInt y x=false->x=y) (hS:s.Pairwise (fun x y=>Go.Sort.ltInt y x=false)):
  ∃ r,zhj s=some r/\(∀ x,x∈r↔x∈s)/\r.Pairwise (fun x y=>Go.Sort.ltInt x y=true)/\r.length<=s.length:=by
 have hp:=List.pairwise_iff_getElem.1 hS;have str:∀ k:Nat,k<=s.length->(∀ i:Nat,0 < i->i < k->∀ h:i < s.length,¬ s[i]=s[i - 1]'(by omega))->(s.take k).Pairwise (fun x y=>Go.Sort.ltInt x y=true):=fun k hk h=>by
  rw [List.pairwise_iff_getElem];intro i j hi hj hij;simp only [List.length_take] at hi hj;rw [List.getElem_take,List.getElem_take]
  cases hc:Go.Sort.ltInt (s[i]'(by omega)) (s[j]'(by omega)) with
  | true=>rfl
  | false=>
   exfalso;have e3:=hT _ _ hc (hp i j (by omega) (by omega) hij)
   apply h j (by omega) (by omega) (by omega)
   by_cases ei:i=j - 1
   ·subst ei;exact e3.symm
   ·have p1:=hp i (j - 1) (by omega) (by omega) (by omega)
    have p2:=hp (j - 1) j (by omega) (by omega) (by omega)
    rw [e3] at p1;exact hT _ _ p2 p1
 unfold zhj;by_cases c:s.length < 2
 ·rw [if_pos (by simp only [decide_eq_true_eq];omega)]
  have:=str s.length (Nat.le_refl _) (fun i h1 h2 h=>by omega)
  rw [List.take_length] at this;exact ⟨s,rfl,fun _=>Iff.rfl,this,Nat.le_refl _⟩
 ·rw [if_neg (by simp only [decide_eq_true_eq];omega)]
  have key:∀ (n k:Nat),s.length - k=n->1<=k->k<=s.length->(∀ i:Nat,0 < i->i < k->∀ h:i < s.length,¬ s[i]=s[i - 1]'(by omega))->∃ r,zh3 s (k:Nat)=some r/\(∀ x,x∈r↔x∈s)/\r.Pairwise (fun x y=>Go.Sort.ltInt x y=true)/\r.length<=s.length:=by
   intro n
   induction n with
   | zero=>
    intro k hn h1 h2 h3;rw [zlh];unfold zcP;rw [if_neg (by simp only [decide_eq_true_eq];omega)]
    have:=str s.length (Nat.le_refl _) (fun i a b h=>h3 i a (by omega) h)
    rw [List.take_length] at this;exact ⟨s,rfl,fun _=>Iff.rfl,this,Nat.le_refl _⟩
   | succ n ih=>
    intro k hn h1 h2 h3;have hks:k < s.length:=by omega
    rw [zlh];unfold zcP;rw [show (k:Int) - 1=((k - 1:Nat):Int) by omega]
    simp only [Int.toNat_natCast];rw [if_pos (by simp only [decide_eq_true_eq];omega),zad (by omega),zad (by omega),zad (by unfold fits;omega),zad (by omega),zad (by omega)]
    have e1:ix s (k:Int)=s[k]:=by rw [zn5 (by omega) (by omega)];simp
    have e2:ix s ((k - 1:Nat):Int)=s[k - 1]'(by omega):=by rw [zn5 (by omega) (by omega)];simp
    by_cases c2:s[k]=s[k - 1]'(by omega)
    ·rw [if_pos (zEj (e1.trans (c2.trans e2.symm))),zad (by omega)]
     have hm:s[k - 1]'(by omega)∈s.take k:=by
      rw [List.mem_take_iff_getElem];exact ⟨k - 1,by omega,rfl⟩
     have:=zCf hl hT hS (by omega:0 < k) hks (s.length - k - 1) 1 k s rfl (Nat.le_refl _) (by omega) (by omega) (Nat.le_refl _) rfl (fun _ _=>rfl) (fun x=>by
      rw [show s.take (k+1)=s.take k++[s[k]] by rw [List.take_add_one,List.getElem?_eq_getElem hks];rfl,List.mem_append,List.mem_singleton]
      refine ⟨.inl,fun h=>h.elim id fun h => ?_⟩
      rw [h,c2];exact hm) (str k (by omega) h3)
     exact this
    ·rw [if_neg (zEi (fun h=>c2 (e1.symm.trans (h.trans e2)))),zad (by unfold fits;omega)]
     exact ih (k+1) (by omega) (by omega) (by omega) (fun i a b h=>by
      by_cases e:i=k
      ·subst e;exact c2
      ·exact h3 i a (by omega) h)
  exact key _ 1 rfl (Nat.le_refl _) (by omega) (fun i a b h=>by omega)
theorem zzW {s:List Stp} (hl:s.length<=1000000000) (hT:∀ x y,ltS x y=false->ltS y x=false->x=y) (hS:s.Pairwise (fun x y=>ltS y x=false)) {k:Nat} (hk:0 < k) (hks:k < s.length):
  ∀ (n k2 k1:Nat) (s1:List Stp),s.length - k - k2=n->1<=k2->k+k2<=s.length->0 < k1->k1+1<=k+k2->s1.length=s.length->(∀ i:Nat,k1<=i->s1[i]? =s[i]?)->
   (∀ x,x∈s1.take k1↔x∈s.take (k+k2))->(s1.take k1).Pairwise (fun x y=>ltS x y=true)->
   ∃ r,zgP s (k:Nat) (k1:Nat) (k2:Nat) s1=some r/\(∀ x,x∈r↔x∈s)/\r.Pairwise (fun x y=>ltS x y=true)/\r.length<=s.length:=by
 intro n
 induction n with
 | zero=>
  intro k2 k1 s1 hn h1 h2 h3 h4 h5 h6 h7 h8;rw [zj0];unfold zcv;simp only [Int.toNat_natCast];rw [if_neg (by simp only [decide_eq_true_eq];omega),zad (by omega),zad (by omega),zad (by simp;omega)]
  refine ⟨_,rfl,?_,?_,by simp;omega⟩
  ·intro x;rw [List.append_assoc,List.take_append_of_le_length (by simp;omega),List.take_take,Nat.min_self,h7,show k+k2=s.length by omega,List.take_length]
  ·rw [List.append_assoc,List.take_append_of_le_length (by simp;omega),List.take_take,Nat.min_self]
   exact h8
 | succ n ih=>
  intro k2 k1 s1 hn h1 h2 h3 h4 h5 h6 h7 h8;have hj:k+k2 < s.length:=by omega
  rw [zj0];unfold zcv;rw [show (k2:Int) - 1=((k2 - 1:Nat):Int) by omega]
  rw [if_pos (by simp only [decide_eq_true_eq];omega),zad (by omega),zad (by omega),zad (by unfold fits;omega),zad (by omega),zad (by omega)]
  have e1:ix s1 (((k:Int).toNat+(k2:Int).toNat:Nat):Int)=s[k+k2]:=by
   rw [Int.toNat_natCast,Int.toNat_natCast,zzy,List.getD_eq_getElem?_getD,h6 (k+k2) (by omega),List.getElem?_eq_getElem hj];rfl
  have e2:ix s1 (((k:Int).toNat+((k2 - 1:Nat):Int).toNat:Nat):Int)=s[k+(k2 - 1)]'(by omega):=by
   rw [Int.toNat_natCast,Int.toNat_natCast,zzy,List.getD_eq_getElem?_getD,h6 (k+(k2 - 1)) (by omega),List.getElem?_eq_getElem (by omega)];rfl
  have et:s.take (k+(k2+1))=s.take (k+k2)++[s[k+k2]]:=by
   rw [<- Nat.add_assoc,List.take_add_one,List.getElem?_eq_getElem hj];rfl
  have hm:s[k+(k2 - 1)]'(by omega)∈s.take (k+k2):=by
   rw [List.mem_take_iff_getElem];exact ⟨k+(k2 - 1),by omega,rfl⟩
  by_cases c:s[k+k2]=s[k+(k2 - 1)]'(by omega)
  ·rw [if_neg (zDi (e1.trans (c.trans e2.symm))),zad (by unfold fits;omega)]
   exact ih (k2+1) k1 s1 (by omega) (by omega) (by omega) h3 (by omega) h5 h6 (fun x=>by
    rw [h7,et,List.mem_append,List.mem_singleton];refine ⟨.inl,fun h=>h.elim id fun h => ?_⟩
    rw [h,c];exact hm) h8
  ·rw [if_pos (zDj (fun h=>c (e1.symm.trans (h.trans e2)))),zad (by omega),zad (by omega),zad (by omega),zad (by omega),zad (by unfold fits;omega),zad (by unfold fits;omega),e1,Int.toNat_natCast k1]
   have eset:(s1.set k1 s[k+k2]).take (k1+1)=s1.take k1++[s[k+k2]]:=by
    rw [List.take_add_one,List.take_set_of_le (Nat.le_refl _),List.getElem?_set_self (by omega)];rfl
   refine ih (k2+1) (k1+1) (s1.set k1 s[k+k2]) (by omega) (by omega) (by omega) (by omega) (by omega) (by simp;omega) (fun i hi=>by
    rw [List.getElem?_set_ne (by omega)];exact h6 i (by omega)) (fun x=>by
    rw [eset,et,List.mem_append,List.mem_append,h7]) ?_
   rw [eset,List.pairwise_append];refine ⟨h8,List.pairwise_singleton _ _,fun x hx y hy => ?_⟩
   rw [List.mem_singleton.1 hy];rw [h7,List.mem_take_iff_getElem] at hx;obtain ⟨i,hi,rfl⟩:=hx;have hp:=List.pairwise_iff_getElem.1 hS
   cases hc:ltS s[i] s[k+k2] with
   | true=>rfl
   | false=>
    exfalso;have e3:=hT _ _ hc (hp i (k+k2) (by omega) hj (by omega))
    apply c
    by_cases ei:i=k+(k2 - 1)
    ·subst ei;exact e3.symm
    ·have p1:=hp i (k+(k2 - 1)) (by omega) (by omega) (by omega)
     have p2:=hp (k+(k2 - 1)) (k+k2) (by omega) hj (by omega)
     rw [e3] at p1;exact hT _ _ p2 p1
theorem zAR {s:List Stp} (hl:s.length<=1000000000) (hI:∀ x,ltS x x=false) (hT:∀ x y,ltS x y=false->ltS y x=false->x=y) (hS:s.Pairwise (fun x y=>ltS y x=false)):
  ∃ r,zgY s=some r/\(∀ x,x∈r↔x∈s)/\r.Pairwise (fun x y=>ltS x y=true)/\r.length<=s.length:=by
 have hp:=List.pairwise_iff_getElem.1 hS;have str:∀ k:Nat,k<=s.length->(∀ i:Nat,0 < i->i < k->∀ h:i < s.length,¬ s[i]=s[i - 1]'(by omega))->(s.take k).Pairwise (fun x y=>ltS x y=true):=fun k hk h=>by
  rw [List.pairwise_iff_getElem];intro i j hi hj hij;simp only [List.length_take] at hi hj;rw [List.getElem_take,List.getElem_take]
  cases hc:ltS (s[i]'(by omega)) (s[j]'(by omega)) with
  | true=>rfl
  | false=>
   exfalso;have e3:=hT _ _ hc (hp i j (by omega) (by omega) hij)
   apply h j (by omega) (by omega) (by omega)
   by_cases ei:i=j - 1
   ·subst ei;exact e3.symm
   ·have p1:=hp i (j - 1) (by omega) (by omega) (by omega)
    have p2:=hp (j - 1) j (by omega) (by omega) (by omega)
    rw [e3] at p1;exact hT _ _ p2 p1
 unfold zgY;by_cases c:s.length < 2
 ·rw [if_pos (by simp only [decide_eq_true_eq];omega)]
  have:=str s.length (Nat.le_refl _) (fun i h1 h2 h=>by omega)
  rw [List.take_length] at this;exact ⟨s,rfl,fun _=>Iff.rfl,this,Nat.le_refl _⟩
 ·rw [if_neg (by simp only [decide_eq_true_eq];omega)]
  have key:∀ (n k:Nat),s.length - k=n->1<=k->k<=s.length->(∀ i:Nat,0 < i->i < k->∀ h:i < s.length,¬ s[i]=s[i - 1]'(by omega))->∃ r,zgO s (k:Nat)=some r/\(∀ x,x∈r↔x∈s)/\r.Pairwise (fun x y=>ltS x y=true)/\r.length<=s.length:=by
   intro n
   induction n with
   | zero=>
    intro k hn h1 h2 h3;rw [zjZ];unfold zcu;rw [if_neg (by simp only [decide_eq_true_eq];omega)]
    have:=str s.length (Nat.le_refl _) (fun i a b h=>h3 i a (by omega) h)
    rw [List.take_length] at this;exact ⟨s,rfl,fun _=>Iff.rfl,this,Nat.le_refl _⟩
   | succ n ih=>
    intro k hn h1 h2 h3;have hks:k < s.length:=by omega
    rw [zjZ];unfold zcu;rw [show (k:Int) - 1=((k - 1:Nat):Int) by omega]
    simp only [Int.toNat_natCast];rw [if_pos (by simp only [decide_eq_true_eq];omega),zad (by omega),zad (by omega),zad (by unfold fits;omega),zad (by omega),zad (by omega)]
    have e1:ix s (k:Int)=s[k]:=by rw [zn5 (by omega) (by omega)];simp
    have e2:ix s ((k - 1:Nat):Int)=s[k - 1]'(by omega):=by rw [zn5 (by omega) (by omega)];simp
    by_cases c2:s[k]=s[k - 1]'(by omega)
    ·rw [if_pos (zCh (e1.trans (c2.trans e2.symm))),zad (by omega)]
     have hm:s[k - 1]'(by omega)∈s.take k:=by
      rw [List.mem_take_iff_getElem];exact ⟨k - 1,by omega,rfl⟩
     have:=zzW hl hT hS (by omega:0 < k) hks (s.length - k - 1) 1 k s rfl (Nat.le_refl _) (by omega) (by omega) (Nat.le_refl _) rfl (fun _ _=>rfl) (fun x=>by
      rw [show s.take (k+1)=s.take k++[s[k]] by rw [List.take_add_one,List.getElem?_eq_getElem hks];rfl,List.mem_append,List.mem_singleton]
      refine ⟨.inl,fun h=>h.elim id fun h => ?_⟩
      rw [h,c2];exact hm) (str k (by omega) h3)
     exact this
    ·rw [if_neg (zCg (fun h=>c2 (e1.symm.trans (h.trans e2)))),zad (by unfold fits;omega)]
     exact ih (k+1) (by omega) (by omega) (by omega) (fun i a b h=>by
      by_cases e:i=k
      ·subst e;exact c2
      ·exact h3 i a (by omega) h)
  exact key _ 1 rfl (Nat.le_refl _) (by omega) (fun i a b h=>by omega)
theorem zB3 (x:Stp):x=(x.1,x.2.1,x.2.2.1,()):=rfl
theorem zEB {l:List Int} (hl:l.length<=1000000000):∃ l1 r,zmj l=some l1/\zhj l1=some r/\(∀ x,x∈r↔x∈l)/\r.Pairwise (· < ·)/\r.length<=l.length:=by
 obtain ⟨v,e,b⟩:=ztS (x:=(l.length:Int)) (by omega) (by omega)
 obtain ⟨l1,e1,h1,h2⟩:=zwT swoI l hl b;have hle:=h1.length_eq;obtain ⟨r,e2,k1,k2,k3⟩:=zDh (s:=l1) (by omega) swoI.irrefl (fun x y a b=>by unfold Go.Sort.ltInt at a b;simp at a b;omega) h2
 refine ⟨l1,r,?_,e2,fun x=>(k1 x).trans h1.mem_iff,k2.imp fun h=>by unfold Go.Sort.ltInt at h;simpa using h,by omega⟩
 unfold zmj;rw [zqT (by omega) (by omega),e]
 show (zal 0 _ v l).bind _=_;rw [e1];rfl
theorem sortS {l:List Stp} (hl:l.length<=1000000000):∃ l1 r,zjF l=some l1/\zgY l1=some r/\(∀ x,x∈r↔x∈l)/\r.Pairwise zd8/\r.length<=l.length:=by
 obtain ⟨v,e,b⟩:=ztS (x:=(l.length:Int)) (by omega) (by omega)
 obtain ⟨l1,e1,h1,h2⟩:=zwS swoS l hl b;have hle:=h1.length_eq;obtain ⟨r,e2,k1,k2,k3⟩:=zAR (s:=l1) (by omega) swoS.irrefl (fun x y a b=>by
  rw [zBA] at a b;unfold zd8 at a b;rw [zB3 x,zB3 y];have h1:x.1=y.1:=by omega
  have h2:x.2.1=y.2.1:=by omega
  have h3:x.2.2.1=y.2.2.1:=by omega
  rw [h1,h2,h3]) h2
 refine ⟨l1,r,?_,e2,fun x=>(k1 x).trans h1.mem_iff,k2.imp fun h=>zyH.1 h,by omega⟩
 unfold zjF;rw [zqT (by omega) (by omega),e]
 show (zak 0 _ v l).bind _=_;rw [e1];rfl
theorem zyg {s:List Stp} (hs:s.length * 24<=140737488355328):zfI s=some s:=by
 have hr:G (room ([]:List Stp) s 24) (some (([]:List Stp)++s))=some s:=by
  rw [zad (zpD (by simpa using hs))];rfl
 unfold zfI;refine zBs (fun h => ?_) (fun h=>hr)
 obtain rfl:s=[]:=List.length_eq_zero_iff.1 h;rw [hr];exact ztT (ts:=[(.list (.pair (.int .i64) (.pair (.int .i64) (.pair (.int .i64) .unit))))]) (some ([]:List Stp))
theorem zBY {l:List Int} (h:l.Pairwise (· < ·)) : ¬ zu9 l:=fun ⟨i,i0,i1,hh⟩=>by
 have:=List.pairwise_iff_getElem.1 h (i - 1).toNat i.toNat (by omega) (by omega) (by omega)
 rw [zn5 (by omega) i1,zn5 (by omega) (by omega)] at hh
 omega
theorem zCH {l:List Stp} (h:l.Pairwise zd8) : ¬ zC0 l:=fun ⟨i,i0,i1,hh⟩=>by
 have:=List.pairwise_iff_getElem.1 h (i - 1).toNat i.toNat (by omega) (by omega) (by omega)
 rw [zn5 (by omega) i1,zn5 (by omega) (by omega)] at hh
 exact hh this
theorem zDd {a:Au} (l1:1<=a.1/\a.1<=4) (n1:1<=a.2.1/\a.2.1<=300) (sl:a.2.2.2.1.length<=40000) (hs:∀ q∈a.2.2.1,0<=q/\q < a.2.1) (hf:∀ q∈a.2.2.2.2.1,0<=q/\q < a.2.1)
  (hx:∀ x∈a.2.2.2.1,(0<=x.1/\x.1 < a.2.1)/\(0<=x.2.1/\x.2.1 < a.1)/\(0<=x.2.2.1/\x.2.2.1 < a.2.1)) (p1:a.2.2.1.Pairwise (· < ·)) (p2:a.2.2.2.2.1.Pairwise (· < ·)) (p3:a.2.2.2.1.Pairwise zd8):autE a=0:=by
 unfold autE;rw [if_neg (by omega),if_neg (by unfold ztN;omega),if_neg,if_neg]
 ·rintro (h | h | h)
  ·exact zBY p1 h
  ·exact zBY p2 h
  ·exact zCH p3 h
 ·rintro (⟨q,hq,h⟩ | ⟨q,hq,h⟩ | ⟨x,hq,h⟩)
  ·have:=hs q hq;unfold noS at h;omega
  ·have:=hf q hq;unfold noS at h;omega
  ·have:=hx x hq;unfold badX noS at h;omega
theorem zd8.trans {x y z:Stp} (h:zd8 x y) (k:zd8 y z):zd8 x z:=by unfold zd8 at *; omega
theorem zDP {l:List Stp} (h : ¬ zC0 l):l.Pairwise zd8:=by
 have key:∀ (d i:Nat) (h1:i+d+1 < l.length),zd8 (l[i]'(by omega)) (l[i+d+1]'h1):=by
  intro d
  induction d with
  | zero=>
   intro i h1;refine Classical.byContradiction fun hn=>h ⟨((i+1:Nat):Int),by omega,by omega,?_⟩
   rw [show ((i+1:Nat):Int) - 1=(i:Int) by omega,zn5 (by omega) (by omega),zn5 (by omega) (by omega)]
   simpa using hn
  | succ d ih=>
   intro i h1;have h2:=ih i (by omega)
   refine h2.trans ?_
   refine Classical.byContradiction fun hn=>h ⟨((i+(d+1)+1:Nat):Int),by omega,by omega,?_⟩
   rw [show ((i+(d+1)+1:Nat):Int) - 1=((i+d+1:Nat):Int) by omega,zn5 (by omega) (by omega),zn5 (by omega) (by omega)]
   simpa only [Int.toNat_natCast] using hn
 rw [List.pairwise_iff_getElem];intro i j hi hj hij;have:=key (j - i - 1) i (by omega)
 simpa [show i+(j - i - 1)+1=j by omega] using this
theorem zwb {a:Au} (h:autE a=0):a.2.2.2.1.Pairwise zd8:=by
 unfold autE at h;by_cases c1:a.1 < 1\/4 < a.1
 ·rw [if_pos c1] at h;omega
 rw [if_neg c1] at h;by_cases c2:ztN a
 ·rw [if_pos c2] at h;omega
 rw [if_neg c2] at h;by_cases c3:AOut a
 ·rw [if_pos c3] at h;omega
 rw [if_neg c3] at h;by_cases c4:ztm a
 ·rw [if_pos c4] at h;omega
 exact zDP fun hh=>c4 (.inr (.inr hh))
structure Srt (o:Au) (c c1:Int) (l:List Int) (l1:List Stp) (l2:List Int):Prop where
 c:o.1=c
 c1:o.2.1=c1
 m:∀ x,x∈o.2.2.1↔x∈l
 m1:∀ x,x∈o.2.2.2.1↔x∈l1
 m2:∀ x,x∈o.2.2.2.2.1↔x∈l2
 p:o.2.2.1.Pairwise (· < ·)
 p1:o.2.2.2.1.Pairwise zd8
 p2:o.2.2.2.2.1.Pairwise (· < ·)
 n1:o.2.2.2.1.length<=l1.length
theorem zuZ {c c1:Int} {l:List Int} {l1:List Stp} {l2:List Int} (h:l.length<=1000000000) (h1:l1.length<=1000000000) (h2:l2.length<=1000000000):∃ o,zhF c c1 l l1 l2=some o/\Srt o c c1 l l1 l2:=by
 obtain ⟨a,r,e1,e2,k1,k2,_⟩:=zEB h;obtain ⟨a',r',e1',e2',k1',k2',_⟩:=zEB h2;obtain ⟨b,q,f1,f2,g1,g2,g3⟩:=sortS h1;refine ⟨(c,c1,r,q,r',()),?_,rfl,rfl,k1,g1,k1',k2,g2,k2',g3⟩
 unfold zhF zo8;simp only [e1,e1',f1,e2,e2',f2,Option.bind_some]
theorem Srt.autE {o:Au} {c c1:Int} {l:List Int} {l1:List Stp} {l2:List Int} (h:Srt o c c1 l l1 l2) (lt:1<=c/\c<=4) (n1:1<=c1/\c1<=300) (sl:l1.length<=40000) (hs:∀ q∈l,0<=q/\q < c1) (hf:∀ q∈l2,0<=q/\q < c1)
  (hx:∀ x∈l1,(0<=x.1/\x.1 < c1)/\(0<=x.2.1/\x.2.1 < c)/\(0<=x.2.2.1/\x.2.2.1 < c1)):autE o=0:=by
 have hc:=h.c;have hc1:=h.c1;have:=h.n1;refine zDd (by omega) (by omega) (by omega) (fun q hq => ?_) (fun q hq => ?_) (fun x hq => ?_) h.p h.p2 h.p1
 ·rw [hc1];exact hs q ((h.m q).1 hq)
 ·rw [hc1];exact hf q ((h.m2 q).1 hq)
 ·rw [hc,hc1];exact hx x ((h.m1 x).1 hq)
def twoE (a b:Au) (e f:Int):Int:=if e≠0 then e else if f≠0 then f else if a.1≠b.1 then 3 else if 8 < a.2.1\/8 < b.2.1 then 1 else 0
theorem ztM {a b:Au} (ha:AuLen a) (hb:AuLen b):zjn a b=some (twoE a b (autE a) (autE b)):=by
 unfold zjn twoE;rw [zlQ];unfold zeM;rw [if_pos (by simp),zad (by simp),zad (by simp)]
 refine zaH (show zkc _=some (autE a) from zoy ha) ?_
 by_cases c1:autE a=0
 ·rw [if_neg (by simpa using c1),if_neg (by simpa using c1),zad (by unfold fits;omega),zlQ];unfold zeM
  rw [if_pos (by simp),zad (by simp),zad (by simp)]
  refine zaH (show zkc _=some (autE b) from zoy hb) ?_
  by_cases c2:autE b=0
  ·rw [if_neg (by simpa using c2),if_neg (by simpa using c2),zad (by unfold fits;omega),zlQ];unfold zeM
   rw [if_neg (by simp)]
   by_cases c3:a.1=b.1<;>by_cases c4:8 < a.2.1<;>by_cases c5:8 < b.2.1<;>simp [c3,c4,c5]
  ·rw [if_pos (by simpa using c2),if_pos c2]
 ·rw [if_pos (by simpa using c1),if_pos c1]
section
variable {a b:Au}
def sh (n:Int) (x:Stp):Stp:=(n+x.1,x.2.1,n+x.2.2.1,())
theorem e16 (ha:AuOk a) (hb:AuOk b) {o1 o2:Int} {s f:List Int}:∀ (n t:Nat) (l:List Stp),b.2.2.2.1.length - t=n->t<=b.2.2.2.1.length->l.length+(b.2.2.2.1.length - t)<=100000->
  zgV a b t o1 o2 s l f=(zhF o1 o2 s (l++(b.2.2.2.1.drop t).map (sh a.2.1)) f).bind fun o=>some (o,0):=by
 have hsb:=hb.sb;have hn:=ha.n1;have hm:=hb.n1;have hl:=hb.sl;intro n
 induction n with
 | zero=>
  intro t l ht h1 h2;rw [zlO];unfold zc7;rw [if_neg (by simp only [decide_eq_true_eq];omega),List.drop_eq_nil_of_le (by omega),List.map_nil,List.append_nil]
 | succ n ih=>
  intro t l ht h1 h2;have hx:=hsb _ (zin (l:=b.2.2.2.1) (i:=(t:Int)) (by omega) (by omega))
  rw [zlO];unfold zc7;rw [if_pos (by simp only [decide_eq_true_eq];omega),zad (by omega),zad (by unfold fits;omega),zad (by unfold fits;omega),zad (zpD (by simp only [List.length_singleton];omega)),zad (by unfold fits;omega)]
  have:=ih (t+1) (l++[sh a.2.1 (ix b.2.2.2.1 t)]) (by omega) (by omega) (by simp;omega)
  have ed:=zpn (l:=b.2.2.2.1) (i:=(t:Int)) (by omega) (by omega)
  rw [Int.toNat_natCast,show ((t:Int)+1).toNat=t+1 by omega] at ed
  refine this.trans ?_
  rw [ed,List.map_cons,List.append_assoc];rfl
theorem e11 (ha:AuOk a) (hb:AuOk b) {o1 o2:Int} {s:List Int} {x:List Stp}:∀ (n t:Nat) (l:List Int),b.2.2.2.2.1.length - t=n->t<=b.2.2.2.2.1.length->l.length+(b.2.2.2.2.1.length - t)<=100000->
  zgU a b t o1 o2 s x l=zgV a b 0 o1 o2 s x (l++(b.2.2.2.2.1.drop t).map (a.2.1+·)):=by
 have hsb:=hb.f;have hn:=ha.n1;have hm:=hb.n1;have hl:=hb.lf;intro n
 induction n with
 | zero=>
  intro t l ht h1 h2;rw [zlN];unfold zc6;rw [if_neg (by simp only [decide_eq_true_eq];omega),List.drop_eq_nil_of_le (by omega),List.map_nil,List.append_nil]
 | succ n ih=>
  intro t l ht h1 h2;have hx:=hsb _ (zin (l:=b.2.2.2.2.1) (i:=(t:Int)) (by omega) (by omega))
  rw [zlN];unfold zc6;rw [if_pos (by simp only [decide_eq_true_eq];omega),zad (by omega),zad (by unfold fits;omega),zad (zpD (by simp only [List.length_singleton];omega)),zad (by unfold fits;omega)]
  have:=ih (t+1) (l++[a.2.1+(ix b.2.2.2.2.1 t)]) (by omega) (by omega) (by simp;omega)
  have ed:=zpn (l:=b.2.2.2.2.1) (i:=(t:Int)) (by omega) (by omega)
  rw [Int.toNat_natCast,show ((t:Int)+1).toNat=t+1 by omega] at ed
  refine this.trans ?_
  rw [ed,List.map_cons,List.append_assoc];rfl
theorem e6 (ha:AuOk a) (hb:AuOk b) {o1 o2:Int} {f:List Int} {x:List Stp}:∀ (n t:Nat) (l:List Int),b.2.2.1.length - t=n->t<=b.2.2.1.length->l.length+(b.2.2.1.length - t)<=100000->
  zjl a b t o1 o2 l x f=zgU a b 0 o1 o2 (l++(b.2.2.1.drop t).map (a.2.1+·)) x f:=by
 have hsb:=hb.s;have hn:=ha.n1;have hm:=hb.n1;have hl:=hb.ls;intro n
 induction n with
 | zero=>
  intro t l ht h1 h2;rw [zmz];unfold zdK;rw [if_neg (by simp only [decide_eq_true_eq];omega),List.drop_eq_nil_of_le (by omega),List.map_nil,List.append_nil]
 | succ n ih=>
  intro t l ht h1 h2;have hx:=hsb _ (zin (l:=b.2.2.1) (i:=(t:Int)) (by omega) (by omega))
  rw [zmz];unfold zdK;rw [if_pos (by simp only [decide_eq_true_eq];omega),zad (by omega),zad (by unfold fits;omega),zad (zpD (by simp only [List.length_singleton];omega)),zad (by unfold fits;omega)]
  have:=ih (t+1) (l++[a.2.1+(ix b.2.2.1 t)]) (by omega) (by omega) (by simp;omega)
  have ed:=zpn (l:=b.2.2.1) (i:=(t:Int)) (by omega) (by omega)
  rw [Int.toNat_natCast,show ((t:Int)+1).toNat=t+1 by omega] at ed
  refine this.trans ?_
  rw [ed,List.map_cons,List.append_assoc];rfl
abbrev EOr (a b o:Au):Prop:=Srt o a.1 (a.2.1+b.2.1) (a.2.2.1++b.2.2.1.map (a.2.1+·)) (a.2.2.2.1++b.2.2.2.1.map (sh a.2.1)) (a.2.2.2.2.1++b.2.2.2.2.1.map (a.2.1+·))
theorem zyj (ha:AuOk a) (hb:AuOk b) (hal:AuLen a) (hbl:AuLen b) (h2:twoE a b (autE a) (autE b)=0):∃ o,zhE a b=some (o,0)/\EOr a b o:=by
 have h1:=ha.ls;have h3:=ha.lf;have h4:=ha.sl;have h5:=hb.ls;have h6:=hb.lf;have h7:=hb.sl;have hn:=ha.n1;have hm:=hb.n1;obtain ⟨o,e,hs⟩:=zuZ (c:=a.1) (c1:=a.2.1+b.2.1) (l:=a.2.2.1++b.2.2.1.map (a.2.1+·)) (l1:=a.2.2.2.1++b.2.2.2.1.map (sh a.2.1)) (l2:=a.2.2.2.2.1++b.2.2.2.2.1.map (a.2.1+·)) (by simp;omega) (by simp;omega) (by simp;omega)
 refine ⟨o,?_,hs⟩
 have J:ze2 a b a.1 (a.2.1+b.2.1) a.2.2.1 a.2.2.2.1 a.2.2.2.2.1=some (o,0):=by
  unfold ze2;have k1:=e6 ha hb (o1:=a.1) (o2:=a.2.1+b.2.1) (f:=a.2.2.2.2.1) (x:=a.2.2.2.1) _ 0 a.2.2.1 rfl (Nat.zero_le _) (by omega)
  have k2:=e11 ha hb (o1:=a.1) (o2:=a.2.1+b.2.1) (s:=a.2.2.1++b.2.2.1.map (a.2.1+·)) (x:=a.2.2.2.1) _ 0 a.2.2.2.2.1 rfl (Nat.zero_le _) (by omega)
  have k3:=e16 ha hb (o1:=a.1) (o2:=a.2.1+b.2.1) (s:=a.2.2.1++b.2.2.1.map (a.2.1+·)) (f:=a.2.2.2.2.1++b.2.2.2.2.1.map (a.2.1+·)) _ 0 a.2.2.2.1 rfl (Nat.zero_le _) (by omega)
  rw [List.drop_zero,show ((0:Nat):Int)=0 from rfl] at k1 k2 k3;rw [k1,k2,k3,e];rfl
 unfold zhE;refine zaH (show zjn _ _=some _ from ztM hal hbl) ?_
 rw [h2,if_neg (by simp),zad (by unfold fits;omega)]
 simp only [znK (show a.2.2.1.length * 8<=140737488355328 by omega),znK (show a.2.2.2.2.1.length * 8<=140737488355328 by omega),zyg (show a.2.2.2.1.length * 24<=140737488355328 by omega),Option.bind_some,ztT]
 exact J
theorem zzZ (hal:AuLen a) (hbl:AuLen b) (h2 : ¬ twoE a b (autE a) (autE b)=0):zhE a b=some ((0,0,[],[],[],()),twoE a b (autE a) (autE b)):=by
 unfold zhE;refine zaH (show zjn _ _=some _ from ztM hal hbl) ?_
 rw [if_pos (by simpa using h2)]
theorem zyi (ha:AuOk a) (hb:AuOk b) (hab:a.1=b.1) (h8:a.2.1<=8) (k8:b.2.1<=8) (la:a.2.2.2.1.length<=256) (lb:b.2.2.2.1.length<=256) {o:Au} (h:EOr a b o):autE o=0:=by
 have hn:=ha.n1;have hm:=hb.n1;refine h.autE ha.let1 (by omega) (by simp;omega) (fun q hq => ?_) (fun q hq => ?_) (fun x hq => ?_)
 ·rcases List.mem_append.1 hq with hq | hq
  ·have:=ha.s q hq;omega
  ·obtain ⟨y,hy,rfl⟩:=List.mem_map.1 hq;have:=hb.s y hy;omega
 ·rcases List.mem_append.1 hq with hq | hq
  ·have:=ha.f q hq;omega
  ·obtain ⟨y,hy,rfl⟩:=List.mem_map.1 hq;have:=hb.f y hy;omega
 ·rcases List.mem_append.1 hq with hq | hq
  ·have:=ha.sb x hq;omega
  ·obtain ⟨y,hy,rfl⟩:=List.mem_map.1 hq;have:=hb.sb y hy;unfold sh;dsimp only;omega
theorem zz0 (ha:AuOk a) (hb:AuOk b) {o:Au} (h:EOr a b o) {u:Nat->Int}:InfA o u↔InfA a u\/InfA b u:=by
 have hsA:∀ p x q,StA o p x q↔StA a p x q\/∃ p' q',p=a.2.1+p'/\q=a.2.1+q'/\StA b p' x q':=fun p x q=>by
  unfold StA;rw [h.m1,List.mem_append,List.mem_map];refine or_congr Iff.rfl ⟨fun ⟨y,hy,e⟩ => ?_,fun ⟨p',q',e1,e2,hy⟩=>⟨_,hy,by unfold sh;rw [e1,e2]⟩⟩
  obtain ⟨y1,y2,y3,u0⟩:=y;unfold sh at e;simp only [Prod.mk.injEq] at e;obtain ⟨rfl,rfl,rfl,_⟩:=e;exact ⟨y1,y3,rfl,rfl,hy⟩
 constructor
 ·rintro ⟨R,⟨R0,hR⟩,hi⟩;rw [h.m,List.mem_append] at R0;rcases R0 with R0 | R0
  ·have hlt:∀ t,R t < a.2.1:=fun t=>by
    induction t with
    | zero=>exact (ha.s _ R0).2
    | succ t ih=>
     rcases (hsA _ _ _).1 (hR t) with k | ⟨p',q',e1,e2,k⟩
     ·exact (k.b ha).2.2
     ·have:=(k.b hb).1;omega
   refine .inl ⟨R,⟨R0,fun t => ?_⟩,fun N => ?_⟩
   ·rcases (hsA _ _ _).1 (hR t) with k | ⟨p',q',e1,e2,k⟩
    ·exact k
    ·have:=(k.b hb).1;have:=hlt t;omega
   ·obtain ⟨t,t0,ht⟩:=hi N;refine ⟨t,t0,?_⟩
    rw [h.m2,List.mem_append] at ht;rcases ht with ht | ht
    ·exact ht
    ·obtain ⟨y,hy,e⟩:=List.mem_map.1 ht;have:=hb.f y hy;have:=hlt t;omega
  ·obtain ⟨q0,hq0,e0⟩:=List.mem_map.1 R0;have hge:∀ t,a.2.1<=R t:=fun t=>by
    induction t with
    | zero=>have:=(hb.s _ hq0).1;omega
    | succ t ih=>
     rcases (hsA _ _ _).1 (hR t) with k | ⟨p',q',e1,e2,k⟩
     ·have:=(k.b ha).1.2;omega
     ·have:=(k.b hb).2.1;omega
   refine .inr ⟨fun t=>R t - a.2.1,⟨?_,fun t => ?_⟩,fun N => ?_⟩
   ·show R 0 - a.2.1∈_;rw [show R 0 - a.2.1=q0 by omega];exact hq0
   ·rcases (hsA _ _ _).1 (hR t) with k | ⟨p',q',e1,e2,k⟩
    ·have:=(k.b ha).1.2;have:=hge t;omega
    ·show StA b (R t - a.2.1) (u t) (R (t+1) - a.2.1);rw [show R t - a.2.1=p' by omega,show R (t+1) - a.2.1=q' by omega];exact k
   ·obtain ⟨t,t0,ht⟩:=hi N;refine ⟨t,t0,?_⟩
    rw [h.m2,List.mem_append] at ht;rcases ht with ht | ht
    ·have:=(ha.f _ ht).2;have:=hge t;omega
    ·obtain ⟨y,hy,e⟩:=List.mem_map.1 ht;show R t - a.2.1∈_;rw [show R t - a.2.1=y by omega];exact hy
 ·rintro (⟨r,⟨r0,hr⟩,hi⟩ | ⟨r,⟨r0,hr⟩,hi⟩)
  ·refine ⟨r,⟨(h.m _).2 (List.mem_append.2 (.inl r0)),fun t=>(hsA _ _ _).2 (.inl (hr t))⟩,fun N => ?_⟩
   obtain ⟨t,t0,ht⟩:=hi N;exact ⟨t,t0,(h.m2 _).2 (List.mem_append.2 (.inl ht))⟩
  ·refine ⟨fun t=>a.2.1+r t,⟨(h.m _).2 (List.mem_append.2 (.inr (List.mem_map.2 ⟨_,r0,rfl⟩))),fun t=>(hsA _ _ _).2 (.inr ⟨_,_,rfl,rfl,hr t⟩)⟩,fun N => ?_⟩
   obtain ⟨t,t0,ht⟩:=hi N;exact ⟨t,t0,(h.m2 _).2 (List.mem_append.2 (.inr (List.mem_map.2 ⟨_,ht,rfl⟩)))⟩
end
def at2 (m p q t:Int):Int:=(p * m+q) * 2+t
theorem at_b {n m p q t:Int} (n8:n<=8) (m0:1<=m) (m8:m<=8) (p0:0<=p) (p1:p < n) (q0:0<=q) (q1:q < m) (t0:0<=t) (t1:t<=1):(0<=p * m/\p * m<=56)/\0<=at2 m p q t/\at2 m p q t < 2 * n * m:=by
 have h1:0<=p * m:=Int.mul_nonneg p0 (by omega)
 have h2:p * m<=7 * m:=Int.mul_le_mul_of_nonneg_right (by omega) (by omega)
 have h3:(p+1) * m<=n * m:=Int.mul_le_mul_of_nonneg_right (by omega) (by omega)
 rw [Int.add_mul,Int.one_mul] at h3;unfold at2;refine ⟨⟨h1,by omega⟩,by omega,?_⟩
 rw [Int.mul_assoc];omega
theorem zEe {m p q t p' q' t':Int} (m0:1<=m) (q0:0<=q) (q1:q < m) (t0:0<=t) (t1:t<=1) (q0':0<=q') (q1':q' < m) (t0':0<=t') (t1':t'<=1) (e:at2 m p q t=at2 m p' q' t'):p=p'/\q=q'/\t=t':=by
 unfold at2 at e;have h1:p * m+q=p' * m+q':=by omega
 have h2:t=t':=by omega
 have d:∀ {x y:Int},0<=y->y < m->(x * m+y) / m=x:=fun {x y} y0 y1=>by
  rw [Int.add_comm,Int.add_mul_ediv_right _ _ (by omega),Int.ediv_eq_zero_of_lt y0 y1,Int.zero_add]
 have h3:p=p':=by
  have:=d (x:=p) q0 q1;rw [h1,d q0' q1'] at this;exact this.symm
 subst h3;exact ⟨rfl,by omega,h2⟩
open Classical in
def nx (a b:Au) (p q t:Int):Int:=if (t=0/\p∈a.2.2.2.2.1)\/(t=1/\q∈b.2.2.2.2.1) then 1 - t else t
theorem nx_b {a b:Au} {p q t:Int} (h:t=0\/t=1):nx a b p q t=0\/nx a b p q t=1:=by unfold nx;split<;>omega
def mkS (a b:Au) (x y:Stp) (t:Int):Stp:=(at2 b.2.1 x.1 y.1 t,x.2.1,at2 b.2.1 x.2.2.1 y.2.2.1 (nx a b x.1 y.1 t),())
open Classical in
def sof (a b:Au) (x y:Stp):List Stp:=if x.2.1=y.2.1 then [mkS a b x y 0,mkS a b x y 1] else []
section
variable {a b:Au}
theorem zwd (hm:1<=b.2.1/\b.2.1<=8) {n p q t:Int} (n8:n<=8) (p0:0<=p) (p1:p < n) (q0:0<=q) (q1:q < b.2.1) (t0:0<=t) (t1:t<=1):zhD p q t b=some (at2 b.2.1 p q t):=by
 have h:=at_b n8 hm.1 hm.2 p0 p1 q0 q1 t0 t1;unfold at2 at h;unfold zhD at2;rw [zad (by unfold fits;omega),zad (by unfold fits;omega),zad (by unfold fits;omega),zad (by unfold fits;omega)]
theorem b23 (ha:AuOk a) (hb:AuOk b) (h8:a.2.1<=8) (k8:b.2.1<=8) {i j:Nat} (hi:i < a.2.2.2.1.length) (hj:j < b.2.2.2.1.length) {o1 o2:Int} {s:List Int} {r:Int->Int->Int->List Int->List Stp->Option (Au×Int)} {t:Int} (ht:t=0\/t=1) {l:List Stp} (hl:l.length<=4000000000):
  zcw a b i j r t o1 o2 s l=zcw a b i j r (t+1) o1 o2 s (l++[mkS a b (ix a.2.2.2.1 i) (ix b.2.2.2.1 j) t]):=by
 have hx:=ha.sb _ (zin (l:=a.2.2.2.1) (i:=(i:Int)) (by omega) (by omega))
 have hy:=hb.sb _ (zin (l:=b.2.2.2.1) (i:=(j:Int)) (by omega) (by omega))
 have hm:=hb.n1;have hlf:=ha.lf;have hlg:=hb.lf;generalize hxe:ix a.2.2.2.1 (i:Int)=x at *
 generalize hye:ix b.2.2.2.1 (j:Int)=y at *
 have J27:∀ nt:Int,nt=nx a b x.1 y.1 t->zfC a b i j t o1 o2 s l (zcw a b i j r) nt=zcw a b i j r (t+1) o1 o2 s (l++[mkS a b x y t]):=fun nt hnt=>by
  have hnb:=nx_b (a:=a) (b:=b) (p:=x.1) (q:=y.1) ht;unfold zfC;rw [hxe,hye];refine zaH (zwd (b:=b) ⟨hm.1,k8⟩ h8 hx.1.1 hx.1.2 hy.1.1 hy.1.2 (by omega) (by omega)) ?_
  refine zaH (zwd (b:=b) ⟨hm.1,k8⟩ h8 hx.2.2.1 hx.2.2.2 hy.2.2.1 hy.2.2.2 (by omega) (by omega)) ?_
  rw [zad (zpD (by simp only [List.length_singleton];omega)),zad (by unfold fits;omega),hnt]
  rfl
 have J26:∀ f:Bool,(f=true↔((t=0/\x.1∈a.2.2.2.2.1)\/(t=1/\y.1∈b.2.2.2.2.1)))->zc5 a b i j t o1 o2 s l (zcw a b i j r) f=zcw a b i j r (t+1) o1 o2 s (l++[mkS a b x y t]):=fun f hf=>by
  unfold zc5
  cases f with
  | true=>rw [if_pos rfl,zad (by unfold fits;omega)];exact J27 _ (by unfold nx;rw [if_pos (hf.1 rfl)])
  | false=>
   rw [if_neg (by simp)]
   exact J27 _ (by unfold nx;rw [if_neg (fun h=>by simpa using hf.2 h)])
 conv=>lhs;rw [znc];unfold zes
 rw [hxe,hye,if_pos (by simp only [decide_eq_true_eq];omega)]
 obtain ⟨c,ec,hc⟩:=zkP (s:=a.2.2.2.2.1) (v:=x.1) (by omega)
 obtain ⟨d,ed,hd⟩:=zkP (s:=b.2.2.2.2.1) (v:=y.1) (by omega)
 have g1:(i:Int) < a.2.2.2.1.length:=by omega
 have g2:(j:Int) < b.2.2.2.1.length:=by omega
 rcases ht with rfl | rfl
 ·rw [if_pos (by simp)]
  try rw [zad (by omega)]
  rw [ec];simp only [Option.bind_some]
  cases c with
  | true=>rw [if_pos rfl];exact J26 true (by simp [hc.1 rfl])
  | false=>
   rw [if_neg (by simp),if_neg (by simp)]
   exact J26 false (by simp [<- hc])
 ·rw [if_neg (by simp),if_pos (by simp)]
  try rw [zad (by omega)]
  rw [ed];simp only [Option.bind_some];exact J26 d (by simp [hd])
theorem b19 (ha:AuOk a) (hb:AuOk b) (h8:a.2.1<=8) (k8:b.2.1<=8) {i:Nat} (hi:i < a.2.2.2.1.length) {o1 o2:Int} {s:List Int} {r:Int->Int->Int->List Int->List Stp->Option (Au×Int)}:∀ (n t:Nat) (l:List Stp),b.2.2.2.1.length - t=n->t<=b.2.2.2.1.length->l.length+2 * (b.2.2.2.1.length - t)<=4000000000->
  zfE a b i r t o1 o2 s l=r (i+1) o1 o2 s (l++(b.2.2.2.1.drop t).flatMap (sof a b (ix a.2.2.2.1 i))):=by
 have hsl:=ha.sl;have hsm:=hb.sl;intro n
 induction n with
 | zero=>
  intro t l ht h1 h2;rw [znb];unfold zer;rw [if_neg (by simp only [decide_eq_true_eq];omega),List.drop_eq_nil_of_le (by omega),List.flatMap_nil,List.append_nil,zad (by unfold fits;omega)]
 | succ n ih=>
  intro t l ht h1 h2;have ed:=zpn (l:=b.2.2.2.1) (i:=(t:Int)) (by omega) (by omega)
  rw [Int.toNat_natCast,show ((t:Int)+1).toNat=t+1 by omega] at ed
  rw [znb];unfold zer;rw [if_pos (by simp only [decide_eq_true_eq];omega),zad (by omega)]
  try rw [zad (by omega)]
  rw [ed,List.flatMap_cons];by_cases c:(ix a.2.2.2.1 (i:Int)).2.1=(ix b.2.2.2.1 (t:Int)).2.1
  ·rw [if_neg (by simpa using c),b23 ha hb h8 k8 hi (by omega) (.inl rfl) (by omega),show (0:Int)+1=1 from rfl,b23 ha hb h8 k8 hi (by omega) (.inr rfl) (by simp;omega),znc];unfold zes
   rw [if_neg (by simp),zad (by unfold fits;omega)]
   have:=ih (t+1) (l++[mkS a b (ix a.2.2.2.1 i) (ix b.2.2.2.1 t) 0]++[mkS a b (ix a.2.2.2.1 i) (ix b.2.2.2.1 t) 1]) (by omega) (by omega) (by simp;omega)
   refine this.trans ?_
   unfold sof;rw [if_pos c];simp [List.append_assoc]
  ·rw [if_pos (by simpa using c),zad (by unfold fits;omega)]
   refine (ih (t+1) l (by omega) (by omega) (by omega)).trans ?_
   rw [show sof a b (ix a.2.2.2.1 i) (ix b.2.2.2.1 t)=[] by unfold sof;rw [if_neg c],List.nil_append]
theorem zB1 (x:Stp):∀ l:List Stp,(l.flatMap (sof a b x)).length<=2 * l.length
 | []=>by simp
 | y::l=>by
  have:=zB1 x l;rw [List.flatMap_cons,List.length_append,List.length_cons];have h2:(sof a b x y).length<=2:=by unfold sof;split<;>simp
  omega
theorem b16 (ha:AuOk a) (hb:AuOk b) (h8:a.2.1<=8) (k8:b.2.1<=8) {o1 o2:Int} {s:List Int}:∀ (n t:Nat) (l:List Stp),a.2.2.2.1.length - t=n->t<=a.2.2.2.1.length->l.length+80000 * (a.2.2.2.1.length - t)<=3300000000->
  zhh a b t o1 o2 s l=zhi a b 0 o1 o2 s (l++(a.2.2.2.1.drop t).flatMap fun x=>b.2.2.2.1.flatMap (sof a b x)) []:=by
 have hsl:=ha.sl;have hsm:=hb.sl;intro n
 induction n with
 | zero=>
  intro t l ht h1 h2;rw [zna];unfold zeq;rw [if_neg (by simp only [decide_eq_true_eq];omega),List.drop_eq_nil_of_le (by omega),List.flatMap_nil,List.append_nil]
 | succ n ih=>
  intro t l ht h1 h2;have ed:=zpn (l:=a.2.2.2.1) (i:=(t:Int)) (by omega) (by omega)
  rw [Int.toNat_natCast,show ((t:Int)+1).toNat=t+1 by omega] at ed
  have hsz:=zB1 (a:=a) (b:=b) (ix a.2.2.2.1 t) b.2.2.2.1;have k:=b19 ha hb h8 k8 (i:=t) (by omega) (o1:=o1) (o2:=o2) (s:=s) (r:=zhh a b) _ 0 l rfl (Nat.zero_le _) (by omega)
  rw [show ((0:Nat):Int)=0 from rfl,List.drop_zero] at k;rw [zna];unfold zeq;rw [if_pos (by simp only [decide_eq_true_eq];omega),zad (by omega),k]
  refine (ih (t+1) _ (by omega) (by omega) (by rw [List.length_append];omega)).trans ?_
  rw [ed,List.flatMap_cons,List.append_assoc]
def qs (m:Int):List Int:=(List.range m.toNat).map fun k:Nat=>(k:Int)
theorem b36 (ha:AuOk a) (hb:AuOk b) (h8:a.2.1<=8) (k8:b.2.1<=8) {i:Nat} (hi:i < a.2.2.2.2.1.length) {o1 o2:Int} {s:List Int} {x:List Stp} {r:Int->Int->Int->List Int->List Stp->List Int->Option (Au×Int)}:∀ (n t:Nat) (l:List Int),b.2.1.toNat - t=n->t<=b.2.1.toNat->l.length+(b.2.1.toNat - t)<=1000000->
  zfF a b i r t o1 o2 s x l=r (i+1) o1 o2 s x (l++((List.range b.2.1.toNat).drop t).map fun k:Nat=>at2 b.2.1 (ix a.2.2.2.2.1 i) (k:Int) 0):=by
 have hf:=ha.f _ (zin (l:=a.2.2.2.2.1) (i:=(i:Int)) (by omega) (by omega))
 have hm:=hb.n1;have hlf:=ha.lf;intro n
 induction n with
 | zero=>
  intro t l ht h1 h2;rw [zne];unfold zeu;rw [if_neg (by simp only [decide_eq_true_eq];omega),List.drop_eq_nil_of_le (by simp;omega),List.map_nil,List.append_nil,zad (by unfold fits;omega)]
 | succ n ih=>
  intro t l ht h1 h2;rw [zne];unfold zeu;rw [if_pos (by simp only [decide_eq_true_eq];omega)]
  try rw [zad (by omega)]
  refine zaH (zwd (b:=b) ⟨hm.1,k8⟩ h8 hf.1 hf.2 (by omega) (by omega) (by omega) (by omega)) ?_
  rw [zad (zpD (by simp only [List.length_singleton];omega)),zad (by unfold fits;omega)]
  refine (ih (t+1) _ (by omega) (by omega) (by simp;omega)).trans ?_
  rw [List.drop_eq_getElem_cons (i:=t) (by simp;omega),List.map_cons,List.getElem_range,List.append_assoc];rfl
def ats (b:Au) (p:Int):List Int:=(List.range b.2.1.toNat).map fun k:Nat=>at2 b.2.1 p (k:Int) 0
theorem zAI (p:Int):(ats b p).length=b.2.1.toNat:=by unfold ats;simp
theorem b33 (ha:AuOk a) (hb:AuOk b) (h8:a.2.1<=8) (k8:b.2.1<=8) {o1 o2:Int} {s:List Int} {x:List Stp}:∀ (n t:Nat) (l:List Int),a.2.2.2.2.1.length - t=n->t<=a.2.2.2.2.1.length->l.length+10 * (a.2.2.2.2.1.length - t)<=10000->
  zhi a b t o1 o2 s x l=(zhF o1 o2 s x (l++(a.2.2.2.2.1.drop t).flatMap (ats b))).bind fun o=>some (o,0):=by
 have hlf:=ha.lf;have hm:=hb.n1;intro n
 induction n with
 | zero=>
  intro t l ht h1 h2;rw [znd];unfold zet;rw [if_neg (by simp only [decide_eq_true_eq];omega),List.drop_eq_nil_of_le (by omega),List.flatMap_nil,List.append_nil]
 | succ n ih=>
  intro t l ht h1 h2;have ed:=zpn (l:=a.2.2.2.2.1) (i:=(t:Int)) (by omega) (by omega)
  rw [Int.toNat_natCast,show ((t:Int)+1).toNat=t+1 by omega] at ed
  have k:=b36 ha hb h8 k8 (i:=t) (by omega) (o1:=o1) (o2:=o2) (s:=s) (x:=x) (r:=zhi a b) _ 0 l rfl (Nat.zero_le _) (by omega)
  rw [show ((0:Nat):Int)=0 from rfl,List.drop_zero] at k;have hal:=zAI (b:=b) (ix a.2.2.2.2.1 t);rw [znd];unfold zet;rw [if_pos (by simp only [decide_eq_true_eq];omega),zad (by omega),k]
  refine (ih (t+1) _ (by omega) (by omega) (by rw [List.length_append];unfold ats at hal;omega)).trans ?_
  rw [ed,List.flatMap_cons,List.append_assoc];rfl
theorem b10 (ha:AuOk a) (hb:AuOk b) (h8:a.2.1<=8) (k8:b.2.1<=8) {i:Nat} (hi:i < a.2.2.1.length) {o1 o2:Int} {r:Int->Int->Int->List Int->Option (Au×Int)}:∀ (n t:Nat) (l:List Int),b.2.2.1.length - t=n->t<=b.2.2.1.length->l.length+(b.2.2.1.length - t)<=1000000->
  zfD a b i r t o1 o2 l=r (i+1) o1 o2 (l++(b.2.2.1.drop t).map fun q=>at2 b.2.1 (ix a.2.2.1 i) q 0):=by
 have hf:=ha.s _ (zin (l:=a.2.2.1) (i:=(i:Int)) (by omega) (by omega))
 have hm:=hb.n1;have hls:=ha.ls;have hlt:=hb.ls;intro n
 induction n with
 | zero=>
  intro t l ht h1 h2;rw [zm9];unfold zep;rw [if_neg (by simp only [decide_eq_true_eq];omega),List.drop_eq_nil_of_le (by omega),List.map_nil,List.append_nil,zad (by unfold fits;omega)]
 | succ n ih=>
  intro t l ht h1 h2;have hg:=hb.s _ (zin (l:=b.2.2.1) (i:=(t:Int)) (by omega) (by omega))
  have ed:=zpn (l:=b.2.2.1) (i:=(t:Int)) (by omega) (by omega)
  rw [Int.toNat_natCast,show ((t:Int)+1).toNat=t+1 by omega] at ed
  rw [zm9];unfold zep;rw [if_pos (by simp only [decide_eq_true_eq];omega)]
  repeat rw [zad (by omega)]
  refine zaH (zwd (b:=b) ⟨hm.1,k8⟩ h8 hf.1 hf.2 hg.1 hg.2 (by omega) (by omega)) ?_
  rw [zad (zpD (by simp only [List.length_singleton];omega)),zad (by unfold fits;omega)]
  refine (ih (t+1) _ (by omega) (by omega) (by simp;omega)).trans ?_
  rw [ed,List.map_cons,List.append_assoc];rfl
theorem b7 (ha:AuOk a) (hb:AuOk b) (h8:a.2.1<=8) (k8:b.2.1<=8) {o1 o2:Int}:∀ (n t:Nat) (l:List Int),a.2.2.1.length - t=n->t<=a.2.2.1.length->l.length+300 * (a.2.2.1.length - t)<=100000->
  zji a b t o1 o2 l=zhh a b 0 o1 o2 (l++(a.2.2.1.drop t).flatMap fun p=>b.2.2.1.map fun q=>at2 b.2.1 p q 0) []:=by
 have hls:=ha.ls;have hlt:=hb.ls;intro n
 induction n with
 | zero=>
  intro t l ht h1 h2;rw [zov];unfold ze1;rw [if_neg (by simp only [decide_eq_true_eq];omega),List.drop_eq_nil_of_le (by omega),List.flatMap_nil,List.append_nil]
 | succ n ih=>
  intro t l ht h1 h2;have ed:=zpn (l:=a.2.2.1) (i:=(t:Int)) (by omega) (by omega)
  rw [Int.toNat_natCast,show ((t:Int)+1).toNat=t+1 by omega] at ed
  have k:=b10 ha hb h8 k8 (i:=t) (by omega) (o1:=o1) (o2:=o2) (r:=zji a b) _ 0 l rfl (Nat.zero_le _) (by omega)
  rw [show ((0:Nat):Int)=0 from rfl,List.drop_zero] at k;rw [zov];unfold ze1;rw [if_pos (by simp only [decide_eq_true_eq];omega),zad (by omega),k]
  refine (ih (t+1) _ (by omega) (by omega) (by simp;omega)).trans ?_
  rw [ed,List.flatMap_cons,List.append_assoc]
theorem zrU {a:Au} (ha:AuOk a) (h8:a.2.1<=8) (hp:a.2.2.2.1.Pairwise zd8):a.2.2.2.1.length<=256:=by
 have hl:=ha.let1;have hn:(a.2.2.2.1.map fun x:Stp=>(x.1 * 4+x.2.1) * 8+x.2.2.1).Nodup:=by
  rw [List.nodup_iff_pairwise_ne,List.pairwise_map];refine List.Pairwise.imp_of_mem (fun {x y} hx hy h => ?_) hp
  have:=ha.sb x hx;have:=ha.sb y hy;unfold zd8 at h;omega
 have:=zvY (n:=256) hn (fun z hz=>by
  obtain ⟨x,hx,rfl⟩:=List.mem_map.1 hz;have:=ha.sb x hx;omega)
 simpa using this
theorem zAd {b:Au} (hb:AuOk b) (k8:b.2.1<=8) (hp:b.2.2.2.1.Pairwise zd8) (c:Int):(b.2.2.2.1.filter fun y:Stp=>decide (c=y.2.1)).length<=64:=by
 have hn:((b.2.2.2.1.filter fun y:Stp=>decide (c=y.2.1)).map fun x:Stp=>x.1 * 8+x.2.2.1).Nodup:=by
  rw [List.nodup_iff_pairwise_ne,List.pairwise_map];refine List.Pairwise.imp_of_mem (fun {x y} hx hy h => ?_) (hp.filter _)
  rw [List.mem_filter,decide_eq_true_iff] at hx hy;have:=hb.sb x hx.1;have:=hb.sb y hy.1;unfold zd8 at h;omega
 have:=zvY (n:=64) hn (fun z hz=>by
  obtain ⟨x,hx,rfl⟩:=List.mem_map.1 hz;rw [List.mem_filter] at hx;have:=hb.sb x hx.1;omega)
 simpa using this
theorem zzJ (x:Stp):∀ l:List Stp,(l.flatMap (sof a b x)).length=2 * (l.filter fun y:Stp=>decide (x.2.1=y.2.1)).length
 | []=>by simp
 | y::l=>by
  have:=zzJ x l;rw [List.flatMap_cons,List.length_append,this];unfold sof;by_cases c:x.2.1=y.2.1
  ·rw [if_pos c,List.filter_cons,if_pos (decide_eq_true c)];simp;omega
  ·rw [if_neg c,List.filter_cons,if_neg (by simpa using c)];simp
theorem ztF {α β:Type} {f:α->List β} {k:Nat}:∀ l:List α,(∀ x∈l,(f x).length<=k)->(l.flatMap f).length<=k * l.length
 | [],_=>by simp
 | x::l,h=>by
  have:=ztF l (fun y hy=>h y (by simp [hy]))
  have:=h x (by simp)
  rw [List.flatMap_cons,List.length_append,List.length_cons,Nat.mul_add];omega
abbrev BSt (a b:Au):List Int:=a.2.2.1.flatMap fun p=>b.2.2.1.map fun q=>at2 b.2.1 p q 0
noncomputable abbrev BSs (a b:Au):List Stp:=a.2.2.2.1.flatMap fun x=>b.2.2.2.1.flatMap (sof a b x)
noncomputable abbrev BFs (a b:Au):List Int:=a.2.2.2.2.1.flatMap (ats b)
abbrev BAnd (a b o:Au):Prop:=Srt o a.1 (2 * a.2.1 * b.2.1) (BSt a b) (BSs a b) (BFs a b)
theorem zAN (ha:AuOk a) (hb:AuOk b) (h8:a.2.1<=8) (k8:b.2.1<=8) (pa:a.2.2.2.1.Pairwise zd8) (pb:b.2.2.2.1.Pairwise zd8):(BSs a b).length<=32768:=by
 have h1:=zrU ha h8 pa;have h2:=ztF (f:=fun x=>b.2.2.2.1.flatMap (sof a b x)) (k:=128) a.2.2.2.1 (fun x _=>by
  rw [zzJ];have:=zAd hb k8 pb x.2.1;omega)
 unfold BSs;omega
theorem zzL {e f:Int} (h:twoE a b e f=0):e=0/\f=0/\a.1=b.1/\a.2.1<=8/\b.2.1<=8:=by
 unfold twoE at h;by_cases c1:e=0
 ·by_cases c2:f=0
  ·by_cases c3:a.1=b.1
   ·by_cases c4:8 < a.2.1\/8 < b.2.1
    ·simp [c1,c2,c3,c4] at h
    ·exact ⟨c1,c2,c3,by omega,by omega⟩
   ·simp [c1,c2,c3] at h
  ·simp [c1,c2] at h
 ·simp [c1] at h
theorem zAL (ha:AuOk a) (hb:AuOk b) (hal:AuLen a) (hbl:AuLen b) (h2:twoE a b (autE a) (autE b)=0):∃ o,zj6 a b=some (o,0)/\BAnd a b o:=by
 obtain ⟨e1,e2,e3,h8,k8⟩:=zzL h2;have pa:=zwb e1;have pb:=zwb e2;have hn:=ha.n1;have hm:=hb.n1;have hls:=ha.ls;have hlt:=hb.ls;have hlf:=ha.lf;have hsa:=zrU ha h8 pa;have l1:=zAN ha hb h8 k8 pa pb;have l2:(BSt a b).length<=90000:=by
  have:=ztF (f:=fun p=>b.2.2.1.map fun q=>at2 b.2.1 p q 0) (k:=300) a.2.2.1 (fun x _=>by simp;omega)
  unfold BSt;omega
 have l3:(BFs a b).length<=3000:=by
  have:=ztF (f:=ats b) (k:=8) a.2.2.2.2.1 (fun x _=>by rw [zAI];omega)
  unfold BFs;omega
 obtain ⟨o,e,hs⟩:=zuZ (c:=a.1) (c1:=2 * a.2.1 * b.2.1) (l:=BSt a b) (l1:=BSs a b) (l2:=BFs a b) (by omega) (by omega) (by omega)
 refine ⟨o,?_,hs⟩
 unfold zj6;refine zaH (show zjn _ _=some _ from ztM hal hbl) ?_
 have hnm:=at_b (n:=a.2.1) (m:=b.2.1) (p:=0) (q:=0) (t:=0) h8 hm.1 k8 (by omega) (by omega) (by omega) (by omega) (by omega) (by omega)
 have hmul:2 * a.2.1 * b.2.1<=16 * b.2.1:=Int.mul_le_mul_of_nonneg_right (by omega) (by omega)
 rw [h2,if_neg (by simp),zad (by unfold fits;omega),zad (by unfold fits;omega)]
 have k1:=b7 ha hb h8 k8 (o1:=a.1) (o2:=2 * a.2.1 * b.2.1) _ 0 [] rfl (Nat.zero_le _) (by simp;omega)
 have k2:=b16 ha hb h8 k8 (o1:=a.1) (o2:=2 * a.2.1 * b.2.1) (s:=BSt a b) _ 0 [] rfl (Nat.zero_le _) (by simp;omega)
 have k3:=b33 ha hb h8 k8 (o1:=a.1) (o2:=2 * a.2.1 * b.2.1) (s:=BSt a b) (x:=BSs a b) _ 0 [] rfl (Nat.zero_le _) (by simp;omega)
 rw [List.drop_zero,List.nil_append,show ((0:Nat):Int)=0 from rfl] at k1 k2 k3;rw [k1,k2,k3,e];rfl
theorem zCd (hal:AuLen a) (hbl:AuLen b) (h2 : ¬ twoE a b (autE a) (autE b)=0):zj6 a b=some ((0,0,[],[],[],()),twoE a b (autE a) (autE b)):=by
 unfold zj6;refine zaH (show zjn _ _=some _ from ztM hal hbl) ?_
 rw [if_pos (by simpa using h2)]
theorem zBE {x:Stp}:x∈BSs a b↔∃ y∈a.2.2.2.1,∃ z∈b.2.2.2.1,y.2.1=z.2.1/\∃ t:Int,(t=0\/t=1)/\x=mkS a b y z t:=by
 unfold BSs sof;rw [List.mem_flatMap];refine exists_congr fun y=>and_congr Iff.rfl ?_
 rw [List.mem_flatMap];refine exists_congr fun z=>and_congr Iff.rfl ?_
 by_cases c:y.2.1=z.2.1
 ·rw [if_pos c];simp [c]
 ·rw [if_neg c];simp [c]
theorem zAK (ha:AuOk a) (hb:AuOk b) (hab:a.1=b.1) (h8:a.2.1<=8) (k8:b.2.1<=8) (pa:a.2.2.2.1.Pairwise zd8) (pb:b.2.2.2.1.Pairwise zd8) {o:Au} (h:BAnd a b o):autE o=0:=by
 have hn:=ha.n1;have hm:=hb.n1;have l1:=zAN ha hb h8 k8 pa pb;have A:=fun {p q t:Int} (p0:0<=p) (p1:p < a.2.1) (q0:0<=q) (q1:q < b.2.1) (t0:0<=t) (t1:t<=1)=>(at_b (n:=a.2.1) (m:=b.2.1) h8 hm.1 k8 p0 p1 q0 q1 t0 t1).2
 have hnm:=A (p:=0) (q:=0) (t:=1) (by omega) (by omega) (by omega) (by omega) (by omega) (by omega)
 have hmul:2 * a.2.1 * b.2.1<=16 * b.2.1:=Int.mul_le_mul_of_nonneg_right (by omega) (by omega)
 refine h.autE ha.let1 (by unfold at2 at hnm;omega) (by omega) (fun q hq => ?_) (fun q hq => ?_) (fun x hq => ?_)
 ·obtain ⟨p,hp,hq⟩:=List.mem_flatMap.1 hq;obtain ⟨r,hr,rfl⟩:=List.mem_map.1 hq;have h1:=ha.s p hp;have h2:=hb.s r hr;exact A h1.1 h1.2 h2.1 h2.2 (by omega) (by omega)
 ·obtain ⟨p,hp,hq⟩:=List.mem_flatMap.1 hq;unfold ats at hq;obtain ⟨r,hr,rfl⟩:=List.mem_map.1 hq;have h1:=ha.f p hp;rw [List.mem_range] at hr;exact A h1.1 h1.2 (by omega) (by omega) (by omega) (by omega)
 ·obtain ⟨y,hy,z,hz,e,t,ht,rfl⟩:=zBE.1 hq;have h1:=ha.sb y hy;have h2:=hb.sb z hz;have hx:=nx_b (a:=a) (b:=b) (p:=y.1) (q:=z.1) ht;unfold mkS;exact ⟨A h1.1.1 h1.1.2 h2.1.1 h2.1.2 (by omega) (by omega),h1.2.1,A h1.2.2.1 h1.2.2.2 h2.2.2.1 h2.2.2.2 (by omega) (by omega)⟩
theorem zCe (ha:AuOk a) (hb:AuOk b) (h8:a.2.1<=8) (k8:b.2.1<=8) {o:Au} (h:BAnd a b o) {u:Nat->Int}:InfA o u↔InfA a u/\InfA b u:=by
 have hm:=hb.n1;have hst:∀ p x q,StA o p x q↔∃ p1 q1 p2 q2 t,StA a p1 x p2/\StA b q1 x q2/\(t=0\/t=1)/\p=at2 b.2.1 p1 q1 t/\q=at2 b.2.1 p2 q2 (nx a b p1 q1 t):=fun p x q=>by
  unfold StA;rw [h.m1,zBE];constructor
  ·rintro ⟨⟨y1,y2,y3,yu⟩,hy,⟨z1,z2,z3,zu⟩,hz,e,t,ht,ex⟩;unfold mkS at ex;simp only [Prod.mk.injEq] at ex e;obtain ⟨rfl,rfl,rfl,_⟩:=ex;subst e;exact ⟨y1,z1,y3,z3,t,hy,hz,ht,rfl,rfl⟩
  ·rintro ⟨p1,q1,p2,q2,t,h1,h2,ht,rfl,rfl⟩;exact ⟨_,h1,_,h2,rfl,t,ht,rfl⟩
 constructor
 ·rintro ⟨R,⟨R0,hR⟩,hi⟩;have hdec:∀ t,∃ p q c,(0<=p/\p < a.2.1)/\(0<=q/\q < b.2.1)/\(c=0\/c=1)/\R t=at2 b.2.1 p q c:=fun t=>by
   obtain ⟨p1,q1,p2,q2,c,h1,h2,hc,e1,_⟩:=(hst _ _ _).1 (hR t);exact ⟨p1,q1,c,(h1.b ha).1,(h2.b hb).1,hc,e1⟩
  let pa:Nat->Int:=fun t=>Classical.choose (hdec t)
  let pb:Nat->Int:=fun t=>Classical.choose (Classical.choose_spec (hdec t))
  let pc:Nat->Int:=fun t=>Classical.choose (Classical.choose_spec (Classical.choose_spec (hdec t)))
  have hp:∀ t,(0<=pa t/\pa t < a.2.1)/\(0<=pb t/\pb t < b.2.1)/\(pc t=0\/pc t=1)/\R t=at2 b.2.1 (pa t) (pb t) (pc t):=fun t=>Classical.choose_spec (Classical.choose_spec (Classical.choose_spec (hdec t)))
  have uniq:∀ t p q c,R t=at2 b.2.1 p q c->0<=q->q < b.2.1->(c=0\/c=1)->p=pa t/\q=pb t/\c=pc t:=fun t p q c e q0 q1 hc=>by
   obtain ⟨k1,k2,k3,k4⟩:=hp t;exact zEe hm.1 q0 q1 (by omega) (by omega) k2.1 k2.2 (by omega) (by omega) (e.symm.trans k4)
  have step:∀ t,StA a (pa t) (u t) (pa (t+1))/\StA b (pb t) (u t) (pb (t+1))/\pc (t+1)=nx a b (pa t) (pb t) (pc t):=fun t=>by
   obtain ⟨p1,q1,p2,q2,c,h1,h2,hc,e1,e2⟩:=(hst _ _ _).1 (hR t);obtain ⟨f1,f2,f3⟩:=uniq t p1 q1 c e1 (h2.b hb).1.1 (h2.b hb).1.2 hc;obtain ⟨g1,g2,g3⟩:=uniq (t+1) p2 q2 _ e2 (h2.b hb).2.1 (h2.b hb).2.2 (nx_b hc);rw [<- f1,<- f2,<- f3,<- g1,<- g2,<- g3];exact ⟨h1,h2,rfl⟩
  have fin:∀ N,∃ t,N<=t/\pa t∈a.2.2.2.2.1/\pc t=0:=fun N=>by
   obtain ⟨t,t0,ht⟩:=hi N;rw [h.m2] at ht;obtain ⟨p,hp',hq⟩:=List.mem_flatMap.1 ht;unfold ats at hq;obtain ⟨k,hk,e⟩:=List.mem_map.1 hq;rw [List.mem_range] at hk;obtain ⟨f1,f2,f3⟩:=uniq t p k 0 e.symm (by omega) (by omega) (.inl rfl)
   exact ⟨t,t0,f1 ▸ hp',f3.symm⟩
  rw [h.m] at R0;obtain ⟨p,hp0,hq0⟩:=List.mem_flatMap.1 R0;obtain ⟨q,hq1,e0⟩:=List.mem_map.1 hq0;obtain ⟨f1,f2,_⟩:=uniq 0 p q 0 e0.symm (hb.s q hq1).1 (hb.s q hq1).2 (.inl rfl);refine ⟨⟨pa,⟨f1 ▸ hp0,fun t=>(step t).1⟩,fun N => ?_⟩,pb,⟨f2 ▸ hq1,fun t=>(step t).2.1⟩,fun N => ?_⟩
  ·obtain ⟨t,t0,ht,_⟩:=fin N;exact ⟨t,t0,ht⟩
  ·obtain ⟨t1,k1,k2,k3⟩:=fin N;obtain ⟨t2,k4,k5,k6⟩:=fin (t1+1);refine Classical.byContradiction fun hno => ?_
   have h1:pc (t1+1)=1:=by rw [(step t1).2.2,k3];unfold nx;rw [if_pos (.inl ⟨rfl,k2⟩)];rfl
   have all:∀ d,pc (t1+1+d)=1:=fun d=>by
    induction d with
    | zero=>exact h1
    | succ d ih=>
     have:=(step (t1+1+d)).2.2;rw [ih] at this;unfold nx at this;rw [if_neg (by
      rintro (⟨h,_⟩ | ⟨_,h⟩)
      ·omega
      ·exact hno ⟨t1+1+d,by omega,h⟩)] at this
     exact this
   have:=all (t2 - (t1+1));rw [show t1+1+(t2 - (t1+1))=t2 by omega] at this
   omega
 ·rintro ⟨⟨ra,⟨a0,har⟩,hia⟩,rb,⟨b0,hbr⟩,hib⟩
  let tn:Nat->Int:=fun t=>Nat.rec 0 (fun t c=>nx a b (ra t) (rb t) c) t
  have tn0:tn 0=0:=rfl;have tns:∀ t,tn (t+1)=nx a b (ra t) (rb t) (tn t):=fun _=>rfl
  have tnb:∀ t,tn t=0\/tn t=1:=fun t=>by
   induction t with
   | zero=>exact .inl rfl
   | succ t ih=>rw [tns];exact nx_b ih
  have nextA:∀ d N,tn N=0->(∃ t,N<=t/\t<=N+d/\ra t∈a.2.2.2.2.1)->∃ t,N<=t/\tn t=0/\ra t∈a.2.2.2.2.1:=fun d=>by
   induction d with
   | zero=>
    rintro N h0 ⟨t,t0,t1,ht⟩;obtain rfl:t=N:=by omega
    exact ⟨t,t0,h0,ht⟩
   | succ d ih=>
    rintro N h0 ⟨t,t0,t1,ht⟩;by_cases c:ra N∈a.2.2.2.2.1
    ·exact ⟨N,Nat.le_refl _,h0,c⟩
    ·have:tn (N+1)=0:=by rw [tns,h0];unfold nx;rw [if_neg (by rintro (⟨_,h⟩ | ⟨h,_⟩);exact c h;omega)]
     obtain ⟨t',q0,q1,q2⟩:=ih (N+1) this ⟨t,by
      rcases Nat.lt_or_ge N t with h | h
      ·omega
      ·have:t=N:=by omega
       subst this;exact absurd ht c,by omega,ht⟩
     exact ⟨t',by omega,q1,q2⟩
  have nextB:∀ d N,tn N=1->(∃ t,N<=t/\t<=N+d/\rb t∈b.2.2.2.2.1)->∃ t,N<=t/\tn t=0:=fun d=>by
   induction d with
   | zero=>
    rintro N h0 ⟨t,t0,t1,ht⟩;obtain rfl:t=N:=by omega
    exact ⟨t+1,by omega,by rw [tns,h0];unfold nx;rw [if_pos (.inr ⟨rfl,ht⟩)];rfl⟩
   | succ d ih=>
    rintro N h0 ⟨t,t0,t1,ht⟩;by_cases c:rb N∈b.2.2.2.2.1
    ·exact ⟨N+1,by omega,by rw [tns,h0];unfold nx;rw [if_pos (.inr ⟨rfl,c⟩)];rfl⟩
    ·have:tn (N+1)=1:=by rw [tns,h0];unfold nx;rw [if_neg (by rintro (⟨h,_⟩ | ⟨_,h⟩);omega;exact c h)]
     obtain ⟨t',q0,q1⟩:=ih (N+1) this ⟨t,by
      rcases Nat.lt_or_ge N t with h | h
      ·omega
      ·have:t=N:=by omega
       subst this;exact absurd ht c,by omega,ht⟩
     exact ⟨t',by omega,q1⟩
  refine ⟨fun t=>at2 b.2.1 (ra t) (rb t) (tn t),⟨?_,fun t => ?_⟩,fun N => ?_⟩
  ·show at2 b.2.1 (ra 0) (rb 0) 0∈_;rw [h.m];exact List.mem_flatMap.2 ⟨_,a0,List.mem_map.2 ⟨_,b0,rfl⟩⟩
  ·exact (hst _ _ _).2 ⟨_,_,_,_,_,har t,hbr t,tnb t,rfl,rfl⟩
  ·have z:∃ M,N<=M/\tn M=0:=by
    rcases tnb N with h0 | h1
    ·exact ⟨N,Nat.le_refl _,h0⟩
    ·obtain ⟨t,t0,ht⟩:=hib N;obtain ⟨t',q0,q1⟩:=nextB (t - N) N h1 ⟨t,t0,by omega,ht⟩
     exact ⟨t',q0,q1⟩
   obtain ⟨M,m0,hM⟩:=z;obtain ⟨t,t0,ht⟩:=hia M;obtain ⟨t',q0,q1,q2⟩:=nextA (t - M) M hM ⟨t,t0,by omega,ht⟩
   refine ⟨t',by omega,?_⟩
   show at2 b.2.1 (ra t') (rb t') (tn t')∈_;rw [h.m2,q1];refine List.mem_flatMap.2 ⟨_,q2,?_⟩
   have hrb:=(hbr t').b hb;unfold ats;exact List.mem_map.2 ⟨(rb t').toNat,List.mem_range.2 (by omega),by rw [show (((rb t').toNat:Nat):Int)=rb t' by omega]⟩
end
theorem zDF:znt (0,0,[],[],[],())=some true:=by
 unfold znt;rw [if_pos (by simp),if_pos (by simp),zad (by unfold fits;simp),zad (by unfold fits;simp)]
 simp
open Classical in
theorem law_true (a b:Au) (l:List Int×List Int×Unit) (sa:Sml (.pair (.int .i64) (.pair (.int .i64) (.pair (.list (.int .i64)) (.pair (.list (.pair (.int .i64) (.pair (.int .i64) (.pair (.int .i64) .unit)))) (.pair (.list (.int .i64)) .unit))))) a) (sb:Sml (.pair (.int .i64) (.pair (.int .i64) (.pair (.list (.int .i64)) (.pair (.list (.pair (.int .i64) (.pair (.int .i64) (.pair (.int .i64) .unit)))) (.pair (.list (.int .i64)) .unit))))) b) (sl:Sml (.pair (.list (.int .i64)) (.pair (.list (.int .i64)) .unit)) l):zkA a b l=some true:=by
 have ea:(a.1,a.2.1,a.2.2.1,a.2.2.2.1,a.2.2.2.2.1,())=a:=rfl;have eb:(b.1,b.2.1,b.2.2.1,b.2.2.2.1,b.2.2.2.2.1,())=b:=rfl;have el:(l.1,l.2.1,())=l:=rfl;have hal:AuLen a:=⟨by have:a.2.2.1.length * 8<=140737488351232:=sa.2.2.1.1;omega,by have:a.2.2.2.2.1.length * 8<=140737488351232:=sa.2.2.2.2.1.1;omega⟩
 have hbl:AuLen b:=⟨by have:b.2.2.1.length * 8<=140737488351232:=sb.2.2.1.1;omega,by have:b.2.2.2.2.1.length * 8<=140737488351232:=sb.2.2.2.2.1.1;omega⟩
 have a1:(a.2.2.1.length:Int) * 8<=140737488351232:=by have:a.2.2.1.length * 8<=140737488351232:=sa.2.2.1.1;omega
 have a2:(a.2.2.2.2.1.length:Int) * 8<=140737488351232:=by have:a.2.2.2.2.1.length * 8<=140737488351232:=sa.2.2.2.2.1.1;omega
 have a3:(a.2.2.2.1.length:Int) * 24<=140737488351232:=by have:a.2.2.2.1.length * 24<=140737488351232:=sa.2.2.2.1.1;omega
 have b1:(b.2.2.1.length:Int) * 8<=140737488351232:=by have:b.2.2.1.length * 8<=140737488351232:=sb.2.2.1.1;omega
 have b2:(b.2.2.2.2.1.length:Int) * 8<=140737488351232:=by have:b.2.2.2.2.1.length * 8<=140737488351232:=sb.2.2.2.2.1.1;omega
 have b3:(b.2.2.2.1.length:Int) * 24<=140737488351232:=by have:b.2.2.2.1.length * 24<=140737488351232:=sb.2.2.2.1.1;omega
 have res:∀ (y2:Au) (y3:Int) (y5:Au) (y6:Int),zhE a b=some (y2,y3)->zj6 a b=some (y5,y6)->zfn a b l y2 y3 y5 y6 (twoE a b (autE a) (autE b))=some true->zkA a b l=some true:=fun y2 y3 y5 y6 h1 h2 h3=>by
  unfold zkA;rw [ea,eb];simp only [zrl a1 a2 a3,zrl b1 b2 b3,Option.bind_some,ea,eb,h1,h2,zrP a1 a2 a3,zrP b1 b2 b3,Bool.not_true,Bool.false_eq_true,if_false,zls hal,zls hbl];unfold zjr zjs zjt zhk;unfold twoE at h3;by_cases c1:autE a=0
  ·by_cases c2:autE b=0
   ·by_cases c3:a.1=b.1
    ·by_cases c4:8 < a.2.1
     ·simpa [c1,c2,c3,c4] using h3
     ·by_cases c5:8 < b.2.1
      ·simpa [c1,c2,c3,c4,c5] using h3
      ·simpa [c1,c2,c3,c4,c5] using h3
    ·simpa [c1,c2,c3] using h3
   ·simpa [c1,c2] using h3
  ·simpa [c1] using h3
 by_cases h2:twoE a b (autE a) (autE b)=0
 ·obtain ⟨e1,e2,e3,h8,k8⟩:=zzL h2;have ha:=zqW e1;have hb:=zqW e2;have pa:=zwb e1;have pb:=zwb e2;obtain ⟨o,eo,ho⟩:=zyj ha hb hal hbl h2;obtain ⟨p,ep,hp⟩:=zAL ha hb hal hbl h2;refine res o 0 p 0 eo ep ?_
  have ko:=zyi ha hb e3 h8 k8 (zrU ha h8 pa) (zrU hb k8 pb) ho;have kp:=zAK ha hb e3 h8 k8 pa pb hp;have ao:=zqW ko;have ap:=zqW kp;have hol:AuLen o:=⟨by have:=ao.ls;omega,by have:=ao.lf;omega⟩
  have hpl:AuLen p:=⟨by have:=ap.ls;omega,by have:=ap.lf;omega⟩
  have eo':(o.1,o.2.1,o.2.2.1,o.2.2.2.1,o.2.2.2.2.1,())=o:=rfl;have ep':(p.1,p.2.1,p.2.2.1,p.2.2.2.1,p.2.2.2.2.1,())=p:=rfl;have hoc:=ho.c;have hpc:=hp.c;unfold zfn;rw [ea,eb,el,eo',ep',h2,if_neg (by simp),zls hol,zls hpl,ko,kp]
  simp only [Option.bind_some];rw [if_neg (by simp),if_neg (by simp),if_neg (by simp),if_neg (by simp),if_neg (by simpa using hoc),if_neg (by simpa using hpc)]
  rw [show zw0 a l=some (lasE a.1 l) from zaH zwY rfl];simp only [Option.bind_some];by_cases hle:lasE a.1 l=0
  ·rw [if_neg (by simpa using hle)]
   obtain ⟨m1,m2,m3⟩:=zBv hle;have l1:=(zxD m1).2.1;have l2:=(zxD m2).2.1;have R:∀ {c:Au},AuOk c->ziY c l=some (decide (InfA c (las l))):=fun {c} hc=>by
    rw [zx6 (l:=l) hc (by omega) rfl (by omega) rfl m3 (fun i hi=>zCt i hi) (fun i hi=>zCu i hi)]
    congr 1
    exact decide_eq_decide.2 (zDL hc m3 (fun t ht=>zDz t ht))
   rw [R ha,R hb,R ao,R ap];simp only [Option.bind_some];have i1:=zz0 ha hb ho (u:=las l);have i2:=zCe ha hb h8 k8 hp (u:=las l);by_cases c1:InfA a (las l)<;>by_cases c2:InfA b (las l)<;>simp [i1,i2,c1,c2]
  ·rw [if_pos (by simpa using hle)]
 ·refine res _ _ _ _ (zzZ hal hbl h2) (zCd hal hbl h2) ?_
  unfold zfn;rw [if_pos (by simpa using h2)]
  simp only [zDF,Option.bind_some];simp
end
end Go.Proofs.Ytekjdmjngekjpaa.buchiJoinsW
