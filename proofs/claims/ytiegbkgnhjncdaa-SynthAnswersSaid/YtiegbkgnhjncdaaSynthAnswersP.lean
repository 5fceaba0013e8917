import Derived.Test.YtiegbkgnhjncdaaSynthAnswersD
set_option maxHeartbeats 1000000
set_option maxRecDepth 20000
set_option linter.unusedSimpArgs false
set_option linter.unusedVariables false
set_option linter.unusedSectionVars false
namespace Go.Proofs.Ytiegbkgnhjncdaa.synthAnswersW
open Go Go.Ab
noncomputable section
theorem zxM {m k:Nat} (a:k<=64):ishr .i64 (m:Int) (k:Int)=((m >>> k:Nat):Int):=by
 unfold ishr;have e:min ((k:Int).toNat) IntKind.i64.bits=k:=by
  show min ((k:Int).toNat) 64=k;omega
 rw [e,Nat.shiftRight_eq_div_pow,Int.fdiv_eq_ediv_of_nonneg _ (by exact_mod_cast Nat.zero_le _)]
 push_cast;rfl
def ziQ (o:Option Bool) (P:Prop):Prop:=∃ b,o=some b/\(b=true↔P)
theorem ziQ.of {b:Bool} {P:Prop} (h:b=true↔P):ziQ (some b) P:=⟨b,rfl,h⟩
theorem ziQ.dec {P Q:Prop} [Decidable P] (h:P↔Q):ziQ (some (decide P)) Q:=⟨_,rfl,by simpa using h⟩
theorem ziQ.to {R:Type} {o:Option Bool} {P:Prop} {a c x:Option R} (h:ziQ o P) (e:P->a=x) (f : ¬ P->c=x):(o.bind fun y=>if y=true then a else c)=x:=by
 obtain ⟨b,rfl,d⟩:=h;refine zaj rfl ?_;cases b
 ·exact f fun g=>by simpa using d.2 g
 ·exact e (d.1 rfl)
section
variable {α C:Type} [Inhabited α]
theorem zkq {l:List α} {P:α->Prop}:(∃ x∈l,P x)↔∃ i:Int,0<=i/\i < l.length/\P (ix l i):=by
 constructor
 ·rintro ⟨x,b,a⟩;obtain ⟨i,e,rfl⟩:=List.mem_iff_getElem.1 b;refine ⟨i,by omega,by omega,?_⟩
  rwa [zhF (by omega) (by omega)]
 ·rintro ⟨i,c,d,a⟩;exact ⟨_,zbc c d,a⟩
theorem ztu {s:List α} {f:α->Option Bool} {L:Int->Option Int} {P:α->Prop} (hs:s.length<=4611686018427387904)
  (h:∀ t,L t=if decide (t < (s.length:Int))=true then G (0<=t/\t < (s.length:Int)) ((f (ix s t)).bind fun y=>if y=true then some t else G (fits (t+1)) (L (t+1))) else some (-1))
  (m:∀ x∈s,ziQ (f x) (P x)):∀ (n:Nat) (t:Int),0<=t->t<=s.length->(s.length - t).toNat=n->
   ∃ i,L t=some i/\((i = -1/\∀ j:Int,t<=j->j < s.length -> ¬ P (ix s j))\/(t<=i/\i < s.length/\P (ix s i)/\∀ j:Int,t<=j->j < i -> ¬ P (ix s j))):=by
 intro n;induction n with
 | zero=>
  intro t k p q;refine ⟨-1,?_,.inl ⟨rfl,fun j a b=>by omega⟩⟩;rw [h,if_neg (by simp;omega)]
 | succ n w=>
  intro t k p q;rw [h,if_pos (by simp;omega),zab (by omega)];obtain ⟨b,r,d⟩:=m _ (zbc k (by omega:t < s.length));rw [r];cases b with
  | true=>exact ⟨t,rfl,.inr ⟨by omega,by omega,d.1 rfl,fun j a b=>by omega⟩⟩
  | false=>
   have c : ¬ P (ix s t):=fun o=>by simpa using d.2 o
   obtain ⟨i,u,v⟩:=w (t+1) (by omega) (by omega) (by omega);refine ⟨i,?_,?_⟩
   ·refine (if_neg (by simp):(if false=true then some t else G (fits (t+1)) (L (t+1)))=_).trans ?_;rw [zab (by unfold fits;omega),u]
   ·rcases v with ⟨l,g⟩ | ⟨l,g,h4,h5⟩
    ·refine .inl ⟨l,fun j a b => ?_⟩;by_cases e:j=t
     ·rw [e];exact c
     ·exact g j (by omega) b
    ·refine .inr ⟨by omega,g,h4,fun j a b => ?_⟩;by_cases e:j=t
     ·rw [e];exact c
     ·exact h5 j (by omega) b
theorem zs3 {s:List α} {f:α->Option Bool} {L:Int->Option Int} {P:α->Prop}
  (b:∀ t,L t=if decide (t < (s.length:Int))=true then G (0<=t/\t < (s.length:Int)) ((f (ix s t)).bind fun y=>if y=true then some t else G (fits (t+1)) (L (t+1))) else some (-1))
  (hs:s.length<=4611686018427387904) (c:∀ x∈s,ziQ (f x) (P x)):ziQ ((L 0).bind fun y=>some (decide ((0:Int)<=y))) (∃ x∈s,P x):=by
 obtain ⟨i,d,e⟩:=ztu hs b c _ 0 (by omega) (by omega) rfl;rw [d];refine ⟨decide (0<=i),rfl,?_⟩;rw [decide_eq_true_iff,zkq];rcases e with ⟨g,a⟩ | ⟨g,a,h4,h5⟩
 ·constructor
  ·intro h;omega
  ·rintro ⟨j,k,l,m⟩;exact absurd m (a j k l)
 ·exact ⟨fun _=>⟨i,by omega,a,h4⟩,fun _=>by omega⟩
theorem zrO {s:List α} {c:C} {f:α->C->Option (Bool×C)} {L:Int->C->Option (Int×C)} {P:α->Prop}
  (u:∀ t c,L t c=if decide (t < (s.length:Int))=true then G (0<=t/\t < (s.length:Int)) ((f (ix s t) c).bind fun y=>if y.1=true then some (t,y.2) else G (fits (t+1)) (L (t+1) y.2)) else some (-1,c))
  (hs:s.length<=4611686018427387904) (v:∀ x∈s,∃ b,f x c=some (b,c)/\(b=true↔P x)):∃ b,((L 0 c).bind fun y=>some (decide ((0:Int)<=y.1),y.2))=some (b,c)/\(b=true↔∃ x∈s,P x):=by
 have key:∀ (n:Nat) (t:Int),0<=t->t<=s.length->(s.length - t).toNat=n->
   ∃ i,L t c=some (i,c)/\((i = -1/\∀ j:Int,t<=j->j < s.length -> ¬ P (ix s j))\/(t<=i/\i < s.length/\P (ix s i))):=by
  intro n;induction n with
  | zero=>
   intro t k o w;refine ⟨-1,?_,.inl ⟨rfl,fun j a b=>by omega⟩⟩;rw [u,if_neg (by simp;omega)]
  | succ n A=>
   intro t k o w;rw [u,if_pos (by simp;omega),zab (by omega)];obtain ⟨b,z,g⟩:=v _ (zbc k (by omega:t < s.length));rw [z];cases b with
   | true=>exact ⟨t,rfl,.inr ⟨by omega,by omega,g.1 rfl⟩⟩
   | false=>
    have p : ¬ P (ix s t):=fun m=>by simpa using g.2 m
    obtain ⟨i,q,r⟩:=A (t+1) (by omega) (by omega) (by omega);refine ⟨i,?_,?_⟩
    ·refine (if_neg (by simp):(if false=true then some (t,c) else G (fits (t+1)) (L (t+1) c))=_).trans ?_;rw [zab (by unfold fits;omega),q]
    ·rcases r with ⟨l,d⟩ | ⟨l,d,h4⟩
     ·refine .inl ⟨l,fun j a b => ?_⟩;by_cases e:j=t
      ·rw [e];exact p
      ·exact d j (by omega) b
     ·exact .inr ⟨by omega,d,h4⟩
 obtain ⟨i,q,r⟩:=key _ 0 (by omega) (by omega) rfl;rw [q];refine ⟨decide (0<=i),rfl,?_⟩;rw [decide_eq_true_iff,zkq];rcases r with ⟨l,d⟩ | ⟨l,d,h4⟩
 ·constructor
  ·intro h;omega
  ·rintro ⟨j,k,o,m⟩;exact absurd m (d j k o)
 ·exact ⟨fun _=>⟨i,by omega,d,h4⟩,fun _=>by omega⟩
end
theorem zDv {R:Type} {len:Int} {L:Int->Option R} {bad:Int->Prop} {x:Option R} {lo:Int} (f:lo<=len)
  (hs:∀ t,lo<=t->t < len->(bad t->L t=x)/\(¬ bad t->L t=L (t+1))) (g:(∀ t,lo<=t->t < len -> ¬ bad t)->L len=x):L lo=x:=by
 have key:∀ (n:Nat) (t:Int),lo<=t->t<=len->(len - t).toNat=n->(∀ j,lo<=j->j < t -> ¬ bad j)->L t=x:=by
  intro n;induction n with
  | zero=>
   intro t c i k h;obtain rfl:t=len:=by omega
   exact g h
  | succ n l=>
   intro t c i k h;by_cases d:bad t
   ·exact (hs t c (by omega)).1 d
   ·rw [(hs t c (by omega)).2 d];refine l (t+1) (by omega) (by omega) (by omega) fun j a b => ?_
    by_cases e:j=t
    ·rw [e];exact d
    ·exact h j a (by omega)
 exact key _ lo (Int.le_refl _) f rfl (fun j a b=>by omega)
theorem ztd {c:Int} {w:List Int} (d:1<=c/\c<=4) (hw:w.length<=(60:Int)):∀ (n:Nat) (i:Int),0<=i->i<=w.length->(w.length - i).toNat=n->(∀ j:Int,0<=j->j < i->0<=ix w j/\ix w j < c)->zoZ c w i=some (mayE c w):=by
 intro n;induction n with
 | zero=>
  intro i e f g h;rw [zqB];unfold zeP
  (try dsimp only);(repeat' first | (with_reducible refine G_to ?_ ?_;focus (first | omega | (unfold fits;omega) | (unfold room;(try simp only [List.length_append,List.length_cons,List.length_nil]);omega))) | (with_reducible refine zcm ?_ ?_) | (with_reducible refine zdC ?_) | (with_reducible refine zdB ?_) | (with_reducible refine zft (fun _ => ?_) (fun _ => ?_)))<;>try (exfalso;omega)
  ·rw [zDi d hw (fun j a b=>h j a (by omega))]
 | succ n k=>
  intro i e f g h;rw [zqB];unfold zeP
  (try dsimp only);(repeat' first | (with_reducible refine G_to ?_ ?_;focus (first | omega | (unfold fits;omega) | (unfold room;(try simp only [List.length_append,List.length_cons,List.length_nil]);omega))) | (with_reducible refine zcm ?_ ?_) | (with_reducible refine zdC ?_) | (with_reducible refine zdB ?_) | (with_reducible refine zft (fun _ => ?_) (fun _ => ?_)))<;>try (exfalso;omega)
  ·rw [zxU d hw (i:=i) (by omega) (by omega)]
  ·rw [zxU d hw (i:=i) (by omega) (by omega)]
  ·exact k _ (by omega) (by omega) (by omega) (zyj h (by omega))
theorem zst {c:Int} {w:List Int}:zvO c w=some (mayE c w):=by
 unfold zvO
 (try dsimp only);(repeat' first | (with_reducible refine G_to ?_ ?_;focus (first | omega | (unfold fits;omega) | (unfold room;(try simp only [List.length_append,List.length_cons,List.length_nil]);omega))) | (with_reducible refine zcm ?_ ?_) | (with_reducible refine zdC ?_) | (with_reducible refine zdB ?_) | (with_reducible refine zft (fun _ => ?_) (fun _ => ?_)))<;>try (exfalso;omega)
 ·rw [zty (by omega)]
 ·rw [zty (by omega)]
 ·rw [zAe (by omega) (by omega)]
 ·exact ztd (by omega) (by omega) _ 0 (by omega) (by omega) rfl (fun j a b=>by omega)
abbrev Stp:=Int×Int×Int×Unit
abbrev Au:=Int×Int×List Int×List Stp×List Int×Unit
theorem zxi {R:Type} {len:Int} {L:Int->Option R} {bad:Int->Prop} {x:Option R} {lo:Int}
  (hs:∀ t,lo<=t->t < len->(bad t->L t=x)/\(¬ bad t->L t=L (t+1))) (c:∀ t,lo<=t->len<=t->(∀ u,lo<=u->u < len -> ¬ bad u)->L t=x):L lo=x:=by
 by_cases h:lo<=len
 ·exact zDv h hs (fun hh=>c len h (Int.le_refl _) hh)
 ·exact c lo (Int.le_refl _) (by omega) (fun u a b=>by omega)
def noS (a:Au) (q:Int):Prop:=q < 0\/a.2.1<=q
def badX (a:Au) (x:Stp):Prop:=noS a x.1\/noS a x.2.2.1\/x.2.1 < 0\/a.1<=x.2.1
def zqg (x y:Stp):Prop:=x.1 < y.1\/(x.1=y.1/\(x.2.1 < y.2.1\/(x.2.1=y.2.1/\x.2.2.1 < y.2.2.1)))
def ztP (l:List Int):Prop:=∃ i:Int,1<=i/\i < l.length/\ix l i<=ix l (i - 1)
def FallX (l:List Stp):Prop:=∃ i:Int,1<=i/\i < l.length /\ ¬ zqg (ix l (i - 1)) (ix l i)
def ztO (a:Au):Prop:=a.2.1 < 1\/300 < a.2.1\/40000 < (a.2.2.2.1.length:Int)
def AOut (a:Au):Prop:=(∃ q∈a.2.2.1,noS a q)\/(∃ q∈a.2.2.2.2.1,noS a q)\/(∃ x∈a.2.2.2.1,badX a x)
def zrw (a:Au):Prop:=ztP a.2.2.1\/ztP a.2.2.2.2.1\/FallX a.2.2.2.1
open Classical in
def autE (a:Au):Int:=if a.1 < 1\/4 < a.1 then 2 else if ztO a then 1 else if AOut a then 2 else if zrw a then 3 else 0
structure AuLen (a:Au):Prop where
 s:(a.2.2.1.length:Int)<=20000000000000
 f:(a.2.2.2.2.1.length:Int)<=20000000000000
theorem zuz (q:Int) (a:Au):ziQ (zdw q a) (noS a q):=by
 unfold zdw noS;by_cases h:q < 0
 ·rw [if_pos (decide_eq_true h)];exact ziQ.of (by simp [h])
 ·rw [if_neg (by simpa using h)];exact ziQ.dec (by omega)
theorem zsK {l:List Int} (hl:(l.length:Int)<=20000000000000):ziQ (zgo l) (¬ ztP l):=by
 unfold zgo;have key:∀ (n:Nat) (t:Int),(l.length - t).toNat=n->0<=t->t<=l.length->(∀ i:Int,1<=i->i < t -> ¬ ix l i<=ix l (i - 1))->ziQ (zfg l t) (¬ ztP l):=by
  intro n;induction n with
  | zero=>
   intro t j k m f;rw [zik];unfold zbQ;rw [if_neg (by simp;omega)];refine ziQ.of (Iff.intro (fun _ hh => ?_) (fun _=>rfl));obtain ⟨i,a,d,o⟩:=hh;exact f i a (by omega) o
  | succ n g=>
   intro t j k m f;rw [zik];unfold zbQ;rw [if_pos (by simp;omega)];by_cases c:0 < t
   ·rw [if_pos (decide_eq_true c),zab (by unfold fits;omega),zab (by omega),zab (by omega)];by_cases b:ix l t<=ix l (t - 1)
    ·rw [if_pos (decide_eq_true b)];exact ziQ.of ⟨fun e=>absurd e (by simp),fun h=>absurd ⟨t,by omega,by omega,b⟩ h⟩
    ·rw [if_neg (by simpa using b),zab (by unfold fits;omega)];refine g (t+1) (by omega) (by omega) (by omega) (fun i a d => ?_);by_cases e:i=t
     ·rw [e];exact b
     ·exact f i a (by omega)
   ·rw [if_neg (by simpa using c),zab (by unfold fits;omega)];exact g (t+1) (by omega) (by omega) (by omega) (fun i a d=>by omega)
 exact key _ 0 rfl (by omega) (by omega) (fun i a d=>by omega)
theorem ztz (x y:Stp):∃ v:Int,zkl x y=some v/\(v < 0↔zqg x y):=by
 have h:∀ a b:Int,zf0 a b=some (if a < b then -1 else if b < a then 1 else 0):=fun a b=>by
  unfold zf0 zgp;refine zaj rfl (zaj rfl ?_);rw [if_neg (by simp),if_neg (by simp)];by_cases c:a < b
  ·rw [if_pos (decide_eq_true c),if_pos c]
  ·rw [if_neg (by simpa using c),if_neg c];by_cases d:b < a
   ·rw [if_pos (decide_eq_true d),if_pos d]
   ·rw [if_neg (by simpa using d),if_neg d]
 have i:∀ p q r:Int,zxw [p,q,r]=some (if p≠0 then p else if q≠0 then q else r):=fun p q r=>by
  unfold zxw;rw [zin];unfold zdx;rw [if_pos (by simp),zab (by simp),show ix [p,q,r] 0=p from rfl];by_cases c:p=0
  ·rw [if_neg (by simpa using c),if_neg (by simpa using c),zab (by unfold fits;omega),zin];unfold zdx;rw [if_pos (by simp),zab (by simp),show ix [p,q,r] (0+1)=q from rfl];by_cases d:q=0
   ·rw [if_neg (by simpa using d),if_neg (by simpa using d),zab (by unfold fits;omega),zin];unfold zdx;rw [if_pos (by simp),zab (by simp),show ix [p,q,r] (0+1+1)=r from rfl];by_cases j:r=0
    ·rw [if_neg (by simpa using j),zab (by unfold fits;omega),zin];unfold zdx;rw [if_neg (by simp),j]
    ·rw [if_pos (by simpa using j)]
   ·rw [if_pos (by simpa using d),if_pos (by simpa using d)]
  ·rw [if_pos (by simpa using c),if_pos (by simpa using c)]
 refine ⟨if (if x.1 < y.1 then (-1:Int) else if y.1 < x.1 then 1 else 0)≠0 then (if x.1 < y.1 then -1 else if y.1 < x.1 then 1 else 0) else if (if x.2.1 < y.2.1 then (-1:Int) else if y.2.1 < x.2.1 then 1 else 0)≠0 then (if x.2.1 < y.2.1 then -1 else if y.2.1 < x.2.1 then 1 else 0) else (if x.2.2.1 < y.2.2.1 then -1 else if y.2.2.1 < x.2.2.1 then 1 else 0),?_,?_⟩
 ·unfold zkl;exact zaj (h _ _) (zaj (h _ _) (zaj (h _ _) (zaj (i _ _ _) rfl)))
 ·unfold zqg;generalize x.1=a,y.1=b,x.2.1=c,y.2.1=e,x.2.2.1=f,y.2.2.1=g;by_cases k:a < b
  ·rw [if_pos k];simp [k]
  ·rw [if_neg k];by_cases n:b < a
   ·rw [if_pos n];simp;omega
   ·rw [if_neg n];have:a=b:=by omega
    subst this;by_cases l:c < e
    ·rw [if_pos l];simp [l]
    ·rw [if_neg l];by_cases o:e < c
     ·rw [if_pos o];simp;omega
     ·rw [if_neg o];have:c=e:=by omega
      subst this;by_cases m:f < g
      ·rw [if_pos m];simp [m]
      ·rw [if_neg m];by_cases s:g < f
       ·rw [if_pos s];simp;omega
       ·rw [if_neg s];simp;omega
theorem zwz (x:Stp) (a:Au):∃ b,zfe x a a=some (b,a)/\(b=true↔badX a x):=by
 unfold zfe badX;obtain ⟨p,j,d⟩:=zuz x.1 a;obtain ⟨q,f,e⟩:=zuz x.2.2.1 a;rw [j];cases p with
 | true=>exact ⟨true,rfl,by simp [d.1 rfl]⟩
 | false=>
  have g : ¬ noS a x.1:=fun h=>by have:=d.2 h;cases this
  cases q with
  | true=>exact ⟨true,zaj rfl (by rw [if_neg (by simp)];exact zaj f rfl),by simp [e.1 rfl]⟩
  | false=>
   have i : ¬ noS a x.2.2.1:=fun h=>by have:=e.2 h;cases this
   by_cases c:x.2.1 < 0
   ·exact ⟨true,zaj rfl (by rw [if_neg (by simp)];exact zaj f (by rw [if_neg (by simp),if_pos (decide_eq_true c)])),by simp [c]⟩
   ·exact ⟨decide (a.1<=x.2.1),zaj rfl (by rw [if_neg (by simp)];exact zaj f (by rw [if_neg (by simp),if_neg (by simpa using c)])),by simp [g,i];omega⟩
theorem zgR {a:Au} (hl:AuLen a):zhs a=some (autE a):=by
 have hs:=hl.s;have k:=hl.f;unfold zhs autE;by_cases z:a.1 < 1\/4 < a.1
 ·rw [if_pos z]
  (try dsimp only);(repeat' first | (with_reducible refine G_to ?_ ?_;focus (first | omega | (unfold fits;omega) | (unfold room;(try simp only [List.length_append,List.length_cons,List.length_nil]);omega))) | (with_reducible refine zcm ?_ ?_) | (with_reducible refine zdC ?_) | (with_reducible refine zdB ?_) | (with_reducible refine zft (fun _ => ?_) (fun _ => ?_)))<;>try (exfalso;omega)
  all_goals rfl
 rw [if_neg z];by_cases l:ztO a
 ·rw [if_pos l];unfold ztO at l
  (try dsimp only);(repeat' first | (with_reducible refine G_to ?_ ?_;focus (first | omega | (unfold fits;omega) | (unfold room;(try simp only [List.length_append,List.length_cons,List.length_nil]);omega))) | (with_reducible refine zcm ?_ ?_) | (with_reducible refine zdC ?_) | (with_reducible refine zdB ?_) | (with_reducible refine zft (fun _ => ?_) (fun _ => ?_)))<;>try (exfalso;omega)
  all_goals rfl
 rw [if_neg l];unfold ztO at l
 (try dsimp only);(repeat' first | (with_reducible refine G_to ?_ ?_;focus (first | omega | (unfold fits;omega) | (unfold room;(try simp only [List.length_append,List.length_cons,List.length_nil]);omega))) | (with_reducible refine zcm ?_ ?_) | (with_reducible refine zdC ?_) | (with_reducible refine zdB ?_) | (with_reducible refine zft (fun _ => ?_) (fun _ => ?_)))<;>try (exfalso;omega)
 have y:∀ s:List Int,(s.length:Int)<=20000000000000->ziQ (zdI s a) (∃ q∈s,noS a q):=fun s hs=>zs3 (f:=fun q=>zdw q a) (zln s a) (by omega) (fun x _=>zuz x a)
 obtain ⟨M,r,d⟩:∃ b,zd5 a.2.2.2.1 a a=some (b,a)/\(b=true↔∃ x∈a.2.2.2.1,badX a x):=
  zrO (f:=fun x c=>zfe x a c) (L:=fun t c=>zc1 a.2.2.2.1 a t c) (fun t c=>zka a.2.2.2.1 a t c) (by omega) (fun x _=>zwz x a)
 have F:(a.1,a.2.1,a.2.2.1,a.2.2.2.1,a.2.2.2.2.1,())=a:=rfl;rw [F];refine (y _ hs).to (fun h=>by rw [if_pos (show AOut a from .inl h)]) (fun C => ?_);refine (y _ k).to (fun h=>by rw [if_pos (show AOut a from .inr (.inl h))]) (fun D => ?_);refine zaj r ?_;by_cases m:∃ x∈a.2.2.2.1,badX a x
 ·rw [if_pos (d.2 m),if_pos (show AOut a from .inr (.inr m))]
 rw [if_neg (fun e=>m (d.1 e)),if_neg (show ¬ AOut a from fun h=>h.elim C (fun h=>h.elim D m))];obtain ⟨r1,H,A⟩:=zsK hs;obtain ⟨I,J,B⟩:=zsK k;refine zaj H ?_;by_cases n:ztP a.2.2.1
 ·rw [if_pos (show zrw a from .inl n),if_pos (by cases r1;rfl;exact absurd n (A.1 rfl))]
 rw [if_neg (by rw [A.2 n];simp)];refine zaj J ?_;by_cases o:ztP a.2.2.2.2.1
 ·rw [if_pos (show zrw a from .inr (.inl o)),if_pos (by cases I;rfl;exact absurd o (B.1 rfl))]
 rw [if_neg (by rw [B.2 o];simp)];refine zxi (len:=(a.2.2.2.1.length:Int)) (bad:=fun t=>1<=t /\ ¬ zqg (ix a.2.2.2.1 (t - 1)) (ix a.2.2.2.1 t)) (lo:=0) (fun t t0 w=>⟨fun j => ?_,fun j => ?_⟩) (fun t t0 w hh => ?_)
 ·rw [if_pos (show zrw a from .inr (.inr ⟨t,j.1,w,j.2⟩)),zff];unfold zbr;obtain ⟨v,u,g⟩:=ztz (ix a.2.2.2.1 (t - 1)) (ix a.2.2.2.1 t);rw [if_pos (by simp;omega),if_pos (by simp;omega),zab (by unfold fits;omega),zab (by omega),zab (by omega)];refine zaj u ?_;rw [if_pos (by rw [decide_eq_true_iff];exact Int.not_lt.1 (fun h=>j.2 (g.1 h)))]
 ·conv=>lhs;rw [zff];unfold zbr
  rw [if_pos (by simp;omega)];by_cases c:0 < t
  ·obtain ⟨v,u,g⟩:=ztz (ix a.2.2.2.1 (t - 1)) (ix a.2.2.2.1 t);have p:zqg (ix a.2.2.2.1 (t - 1)) (ix a.2.2.2.1 t):=Classical.byContradiction fun E=>j ⟨by omega,E⟩
   rw [if_pos (decide_eq_true c),zab (by unfold fits;omega),zab (by omega),zab (by omega)];refine zaj u ?_;rw [if_neg (by have:=g.2 p;simp;omega),zab (by unfold fits;omega)]
  ·rw [if_neg (by simpa using c),zab (by unfold fits;omega)]
 ·rw [if_neg (show ¬ zrw a from fun h=>h.elim n (fun h=>h.elim o (fun ⟨i,i0,i1,i2⟩=>hh i (by omega) i1 ⟨i0,i2⟩))),zff];unfold zbr;rw [if_neg (by simp;omega)]
theorem zo3 (x y:Stp):ziQ (zrq x y) (zqg x y):=by
 unfold zrq zqg;by_cases c:x.1=y.1
 ·rw [if_neg (by simpa using c)];by_cases a:x.2.1=y.2.1
  ·rw [if_neg (by simpa using a)];exact ziQ.dec (by omega)
  ·rw [if_pos (by simpa using a)];exact ziQ.dec (by omega)
 ·rw [if_pos (by simpa using c)];exact ziQ.dec (by omega)
theorem zuM {a:Au} (hl:AuLen a):zrr a=some (autE a):=by
 have hs:=hl.s;have m:=hl.f;unfold zrr autE;by_cases l:a.1 < 1\/4 < a.1
 ·rw [if_pos l]
  (try dsimp only);(repeat' first | (with_reducible refine G_to ?_ ?_;focus (first | omega | (unfold fits;omega) | (unfold room;(try simp only [List.length_append,List.length_cons,List.length_nil]);omega))) | (with_reducible refine zcm ?_ ?_) | (with_reducible refine zdC ?_) | (with_reducible refine zdB ?_) | (with_reducible refine zft (fun _ => ?_) (fun _ => ?_)))<;>try (exfalso;omega)
  all_goals rfl
 rw [if_neg l];by_cases j:ztO a
 ·rw [if_pos j];unfold ztO at j
  (try dsimp only);(repeat' first | (with_reducible refine G_to ?_ ?_;focus (first | omega | (unfold fits;omega) | (unfold room;(try simp only [List.length_append,List.length_cons,List.length_nil]);omega))) | (with_reducible refine zcm ?_ ?_) | (with_reducible refine zdC ?_) | (with_reducible refine zdB ?_) | (with_reducible refine zft (fun _ => ?_) (fun _ => ?_)))<;>try (exfalso;omega)
  all_goals rfl
 rw [if_neg j];unfold ztO at j
 (try dsimp only);(repeat' first | (with_reducible refine G_to ?_ ?_;focus (first | omega | (unfold fits;omega) | (unfold room;(try simp only [List.length_append,List.length_cons,List.length_nil]);omega))) | (with_reducible refine zcm ?_ ?_) | (with_reducible refine zdC ?_) | (with_reducible refine zdB ?_) | (with_reducible refine zft (fun _ => ?_) (fun _ => ?_)))<;>try (exfalso;omega)
 refine zxi (len:=(a.2.2.1.length:Int)) (bad:=fun t=>noS a (ix a.2.2.1 t)) (lo:=0) (fun t t0 c=>⟨fun b => ?_,fun b => ?_⟩) (fun t t0 c hh => ?_)
 ·rw [if_pos (show AOut a from .inl (zkq.2 ⟨t,t0,c,b⟩)),ziX];unfold zcZ;unfold noS at b
  (try dsimp only);(repeat' first | (with_reducible refine G_to ?_ ?_;focus (first | omega | (unfold fits;omega) | (unfold room;(try simp only [List.length_append,List.length_cons,List.length_nil]);omega))) | (with_reducible refine zcm ?_ ?_) | (with_reducible refine zdC ?_) | (with_reducible refine zdB ?_) | (with_reducible refine zft (fun _ => ?_) (fun _ => ?_)))<;>try (exfalso;omega)
  all_goals rfl
 ·conv=>lhs;rw [ziX];unfold zcZ
  unfold noS at b
  (try dsimp only);(repeat' first | (with_reducible refine G_to ?_ ?_;focus (first | omega | (unfold fits;omega) | (unfold room;(try simp only [List.length_append,List.length_cons,List.length_nil]);omega))) | (with_reducible refine zcm ?_ ?_) | (with_reducible refine zdC ?_) | (with_reducible refine zdB ?_) | (with_reducible refine zft (fun _ => ?_) (fun _ => ?_)))<;>try (exfalso;omega)
  all_goals rfl
 have n : ¬ ∃ q∈a.2.2.1,noS a q:=fun h=>by obtain ⟨i,d,e,f⟩:=zkq.1 h;exact hh i d e f
 rw [ziX];unfold zcZ;rw [if_neg (by simp;omega)];refine zxi (len:=(a.2.2.2.2.1.length:Int)) (bad:=fun t=>noS a (ix a.2.2.2.2.1 t)) (lo:=0) (fun t t0 c=>⟨fun b => ?_,fun b => ?_⟩) (fun t t0 c hh => ?_)
 ·rw [if_pos (show AOut a from .inr (.inl (zkq.2 ⟨t,t0,c,b⟩))),zhL];unfold zcv;unfold noS at b
  (try dsimp only);(repeat' first | (with_reducible refine G_to ?_ ?_;focus (first | omega | (unfold fits;omega) | (unfold room;(try simp only [List.length_append,List.length_cons,List.length_nil]);omega))) | (with_reducible refine zcm ?_ ?_) | (with_reducible refine zdC ?_) | (with_reducible refine zdB ?_) | (with_reducible refine zft (fun _ => ?_) (fun _ => ?_)))<;>try (exfalso;omega)
  all_goals rfl
 ·conv=>lhs;rw [zhL];unfold zcv
  unfold noS at b
  (try dsimp only);(repeat' first | (with_reducible refine G_to ?_ ?_;focus (first | omega | (unfold fits;omega) | (unfold room;(try simp only [List.length_append,List.length_cons,List.length_nil]);omega))) | (with_reducible refine zcm ?_ ?_) | (with_reducible refine zdC ?_) | (with_reducible refine zdB ?_) | (with_reducible refine zft (fun _ => ?_) (fun _ => ?_)))<;>try (exfalso;omega)
  all_goals rfl
 have o : ¬ ∃ q∈a.2.2.2.2.1,noS a q:=fun h=>by obtain ⟨i,d,e,f⟩:=zkq.1 h;exact hh i d e f
 rw [zhL];unfold zcv;rw [if_neg (by simp;omega)];refine zxi (len:=(a.2.2.2.1.length:Int)) (bad:=fun t=>badX a (ix a.2.2.2.1 t)) (lo:=0) (fun t t0 c=>⟨fun b => ?_,fun b => ?_⟩) (fun t t0 c hh => ?_)
 ·rw [if_pos (show AOut a from .inr (.inr (zkq.2 ⟨t,t0,c,b⟩))),zhM];unfold zcw;unfold badX noS at b
  (try dsimp only);(repeat' first | (with_reducible refine G_to ?_ ?_;focus (first | omega | (unfold fits;omega) | (unfold room;(try simp only [List.length_append,List.length_cons,List.length_nil]);omega))) | (with_reducible refine zcm ?_ ?_) | (with_reducible refine zdC ?_) | (with_reducible refine zdB ?_) | (with_reducible refine zft (fun _ => ?_) (fun _ => ?_)))<;>try (exfalso;omega)
  all_goals rfl
 ·conv=>lhs;rw [zhM];unfold zcw
  unfold badX noS at b
  (try dsimp only);(repeat' first | (with_reducible refine G_to ?_ ?_;focus (first | omega | (unfold fits;omega) | (unfold room;(try simp only [List.length_append,List.length_cons,List.length_nil]);omega))) | (with_reducible refine zcm ?_ ?_) | (with_reducible refine zdC ?_) | (with_reducible refine zdB ?_) | (with_reducible refine zft (fun _ => ?_) (fun _ => ?_)))<;>try (exfalso;omega)
  all_goals rfl
 have p : ¬ ∃ q∈a.2.2.2.1,badX a q:=fun h=>by obtain ⟨i,d,e,f⟩:=zkq.1 h;exact hh i d e f
 rw [if_neg (show ¬ AOut a from fun h=>h.elim n (fun h=>h.elim o p)),zhM];unfold zcw;rw [if_neg (by simp;omega)];refine zxi (len:=(a.2.2.1.length:Int)) (bad:=fun t=>ix a.2.2.1 t<=ix a.2.2.1 (t - 1)) (lo:=1) (fun t t0 c=>⟨fun b => ?_,fun b => ?_⟩) (fun t t0 c hh => ?_)
 ·rw [if_pos (show zrw a from .inl ⟨t,t0,c,b⟩),zhN];unfold zcx
  (try dsimp only);(repeat' first | (with_reducible refine G_to ?_ ?_;focus (first | omega | (unfold fits;omega) | (unfold room;(try simp only [List.length_append,List.length_cons,List.length_nil]);omega))) | (with_reducible refine zcm ?_ ?_) | (with_reducible refine zdC ?_) | (with_reducible refine zdB ?_) | (with_reducible refine zft (fun _ => ?_) (fun _ => ?_)))<;>try (exfalso;omega)
  all_goals rfl
 ·conv=>lhs;rw [zhN];unfold zcx
  (try dsimp only);(repeat' first | (with_reducible refine G_to ?_ ?_;focus (first | omega | (unfold fits;omega) | (unfold room;(try simp only [List.length_append,List.length_cons,List.length_nil]);omega))) | (with_reducible refine zcm ?_ ?_) | (with_reducible refine zdC ?_) | (with_reducible refine zdB ?_) | (with_reducible refine zft (fun _ => ?_) (fun _ => ?_)))<;>try (exfalso;omega)
  all_goals rfl
 have r : ¬ ztP a.2.2.1:=fun ⟨i,d,e,f⟩=>hh i d e f
 rw [zhN];unfold zcx;rw [if_neg (by simp;omega)];refine zxi (len:=(a.2.2.2.2.1.length:Int)) (bad:=fun t=>ix a.2.2.2.2.1 t<=ix a.2.2.2.2.1 (t - 1)) (lo:=1) (fun t t0 c=>⟨fun b => ?_,fun b => ?_⟩) (fun t t0 c hh => ?_)
 ·rw [if_pos (show zrw a from .inr (.inl ⟨t,t0,c,b⟩)),zhO];unfold zcy
  (try dsimp only);(repeat' first | (with_reducible refine G_to ?_ ?_;focus (first | omega | (unfold fits;omega) | (unfold room;(try simp only [List.length_append,List.length_cons,List.length_nil]);omega))) | (with_reducible refine zcm ?_ ?_) | (with_reducible refine zdC ?_) | (with_reducible refine zdB ?_) | (with_reducible refine zft (fun _ => ?_) (fun _ => ?_)))<;>try (exfalso;omega)
  all_goals rfl
 ·conv=>lhs;rw [zhO];unfold zcy
  (try dsimp only);(repeat' first | (with_reducible refine G_to ?_ ?_;focus (first | omega | (unfold fits;omega) | (unfold room;(try simp only [List.length_append,List.length_cons,List.length_nil]);omega))) | (with_reducible refine zcm ?_ ?_) | (with_reducible refine zdC ?_) | (with_reducible refine zdB ?_) | (with_reducible refine zft (fun _ => ?_) (fun _ => ?_)))<;>try (exfalso;omega)
  all_goals rfl
 have s : ¬ ztP a.2.2.2.2.1:=fun ⟨i,d,e,f⟩=>hh i d e f
 rw [zhO];unfold zcy;rw [if_neg (by simp;omega)];refine zxi (len:=(a.2.2.2.1.length:Int)) (bad:=fun t => ¬ zqg (ix a.2.2.2.1 (t - 1)) (ix a.2.2.2.1 t)) (lo:=1) (fun t t0 c=>⟨fun b => ?_,fun b => ?_⟩) (fun t t0 c hh => ?_)
 ·rw [if_pos (show zrw a from .inr (.inr ⟨t,t0,c,b⟩)),zhP];unfold zcz;obtain ⟨v,k,g⟩:=zo3 (ix a.2.2.2.1 (t - 1)) (ix a.2.2.2.1 t);rw [if_pos (by simp;omega),zab (by unfold fits;omega),zab (by omega),zab (by omega)];refine zaj k ?_;rw [if_pos (by cases v;rfl;exact absurd (g.1 rfl) b)]
 ·conv=>lhs;rw [zhP];unfold zcz
  obtain ⟨v,k,g⟩:=zo3 (ix a.2.2.2.1 (t - 1)) (ix a.2.2.2.1 t);rw [if_pos (by simp;omega),zab (by unfold fits;omega),zab (by omega),zab (by omega)];refine zaj k ?_;rw [if_neg (by rw [g.2 (Classical.byContradiction b)];simp),zab (by unfold fits;omega)]
 ·rw [if_neg (show ¬ zrw a from fun h=>h.elim r (fun h=>h.elim s (fun ⟨i,d,e,f⟩=>hh i d e f))),zhP];unfold zcz;rw [if_neg (by simp;omega)]
def lasE (a:Int) (l:List Int×List Int×Unit):Int:=if mayE a l.1=0 then (if mayE a l.2.1=0 then (if l.2.1.length=0 then 1 else 0) else mayE a l.2.1) else mayE a l.1
theorem zuK {a:Int} {l:List Int×List Int×Unit}:zoY a l=some (lasE a l):=by
 unfold zoY lasE;refine zaj zst ?_;by_cases b:mayE a l.1=0
 ·rw [if_pos b,if_neg (by simp [b])];refine zaj zst ?_;by_cases c:mayE a l.2.1=0
  ·rw [if_pos c,if_neg (by simp [c])];by_cases d:l.2.1.length=0
   ·rw [if_pos (by simp [d]),if_pos d]
   ·rw [if_neg (by simp only [decide_eq_true_eq];omega),if_neg d]
  ·rw [if_neg c,if_pos (by simp [c])]
 ·rw [if_neg b,if_pos (by simp [b])]
theorem zz7 {a:Int} {l:List Int×List Int×Unit} (h:lasE a l=0):mayE a l.1=0/\mayE a l.2.1=0/\0 < l.2.1.length:=by
 unfold lasE at h;by_cases b:mayE a l.1=0
 ·rw [if_pos b] at h;by_cases c:mayE a l.2.1=0
  ·rw [if_pos c] at h;by_cases d:l.2.1.length=0
   ·rw [if_pos d] at h;omega
   ·exact ⟨b,c,by omega⟩
  ·rw [if_neg c] at h;exact absurd h c
 ·rw [if_neg b] at h;exact absurd h b
section
abbrev LsT:=List Int×List Int×Unit
def las (l:LsT) (t:Nat):Int:=if t < l.1.length then ix l.1 (t:Int) else ix l.2.1 (((t - l.1.length) % l.2.1.length:Nat):Int)
theorem zxQ {l:LsT} (i:Nat) (h:i < l.1.length):ix l.1 (i:Int)=las l i:=by unfold las;rw [if_pos h]
theorem zBv {l:LsT} (i:Nat) (h:i < l.2.1.length):ix l.2.1 (i:Int)=las l (l.1.length+i):=by
 unfold las;rw [if_neg (by omega),show l.1.length+i - l.1.length=i by omega,Nat.mod_eq_of_lt h]
theorem zDe {l:LsT} (t:Nat) (h:l.1.length<=t):las l (t+l.2.1.length)=las l t:=by
 unfold las;rw [if_neg (by omega),if_neg (by omega),show t+l.2.1.length - l.1.length=(t - l.1.length)+l.2.1.length by omega,Nat.add_mod_right]
end
theorem zj6 {s:List Int} (hs:s.length * 8<=140737488355328):zgH s=some s:=by
 have a:G (room ([]:List Int) s 8) (some (([]:List Int)++s))=some s:=by
  rw [zab (zAz (by simpa using hs))];rfl
 unfold zgH;refine zz3 (fun h => ?_) (fun h=>a);obtain rfl:s=[]:=List.length_eq_zero_iff.1 h;rw [a];exact zod (ts:=[(.list (.int .i64))]) (some ([]:List Int))
def stp (N:List (List Int)) (q a:Int):Int:=ix (ix N q) a
def wlk (N:List (List Int)) (q:Int) (w:List Int):Int:=w.foldl (stp N) q
structure Tab (L:Int) (N:List (List Int)):Prop where
 row:∀ r∈N,(r.length:Int)=L
 to:∀ r∈N,∀ q∈r,0<=q/\q < N.length
theorem Tab.stpb {L:Int} {N:List (List Int)} (h:Tab L N) {q a:Int} (c:0<=q) (d:q < N.length) (e:0<=a) (f:a < L):0<=stp N q a/\stp N q a < N.length:=by
 have b:=zbc c d;have g:=h.row _ b;exact h.to _ b _ (zbc e (by omega))
theorem Tab.rowlen {L:Int} {N:List (List Int)} (h:Tab L N) {q:Int} (a:0<=q) (b:q < N.length):((ix N q).length:Int)=L:=h.row _ (zbc a b)
theorem Tab.wlkb {L:Int} {N:List (List Int)} (h:Tab L N):∀ {w:List Int} {q:Int},0<=q->q < N.length->(∀ a∈w,0<=a/\a < L)->0<=wlk N q w/\wlk N q w < N.length
 | [],q,q0,q1,_=>⟨q0,q1⟩
 | a::w,q,q0,q1,hw=>by
  have:=h.stpb q0 q1 (hw a (by simp)).1 (hw a (by simp)).2;exact Tab.wlkb h (q:=stp N q a) (w:=w) this.1 this.2 (fun b c=>hw b (by simp [c]))
theorem zcE {α:Type}:∀ {ks:List α} {x:α},zbv ks x=none↔x∉ks
 | [],x=>by simp [zbv]
 | y::ys,x=>by
  unfold zbv;by_cases h:y=x
  ·rw [if_pos h];simp [h]
  ·rw [if_neg h,Option.map_eq_none_iff,zcE];simp [Ne.symm h]
theorem zoL {α:Type} {ks:List α} {x:α} (h:x∉ks):zlQ ks x=ks++[x]:=by
 unfold zlQ;rw [zcE.2 h]
theorem zsp {α:Type} [DecidableEq α]:∀ {l U:List α},l.Nodup->(∀ x∈l,x∈U)->l.length<=U.length
 | [],_,_,_=>Nat.zero_le _
 | a::l,U,hn,hs=>by
  have c:=hs a (by simp);obtain ⟨d,e⟩:=List.nodup_cons.1 hn;have:=zsp (U:=U.erase a) e (fun x b=>(List.mem_erase_of_ne (by rintro rfl;exact d b)).2 (hs x (by simp [b])));rw [List.length_erase_of_mem c] at this;have f:0 < U.length:=List.length_pos_of_mem c;rw [List.length_cons];omega
theorem zcW {l:List Int} {n:Nat} (h:l.Nodup) (a:∀ x∈l,0<=x/\x < n):l.length<=n:=by
 have:=zsp (U:=(List.range n).map Int.ofNat) h (fun x b=>by
  have:=a x b;exact List.mem_map.2 ⟨x.toNat,List.mem_range.2 (by omega),by show ((x.toNat:Nat):Int)=x;omega⟩)
 simpa using this
theorem zvH {α:Type} {ks:List α} {x:α} (h:x∈ks):∃ j,zbv ks x=some j:=by
 cases e:zbv ks x with
 | none=>exact absurd h (zcE.1 e)
 | some j=>exact ⟨j,rfl⟩
theorem zmJ {α:Type} (ks:List α) (x:α):zbv (x::ks) x=some 0:=by unfold zbv;rw [if_pos rfl]
theorem zoI {α:Type} {ks:List α} {x y:α} (h:y≠x):zbv (y::ks) x=(zbv ks x).map (·+1):=by
 rw [zbv,if_neg h]
theorem zsj {α:Type}:∀ {ks:List α} {x:α} {j:Nat} (l:List α),zbv ks x=some j->zbv (ks++l) x=some j
 | [],_,_,_,h=>by cases h
 | y::ks,x,j,l,h=>by
  rw [List.cons_append];by_cases e:y=x
  ·subst e;rw [zmJ] at h ⊢;exact h
  ·rw [zoI e] at h ⊢;cases a:zbv ks x with
   | none=>rw [a] at h;cases h
   | some i=>rw [a] at h;rw [zsj l a];exact h
theorem zvI {α:Type}:∀ {ks:List α} {x:α},x∉ks->zbv (ks++[x]) x=some ks.length
 | [],x,_=>zmJ _ _
 | y::ks,x,h=>by
  have a:y≠x:=by rintro rfl;exact h (by simp)
  rw [List.cons_append,zoI a,zvI (fun hh=>h (by simp [hh]))];rfl
theorem zxW {α:Type}:∀ {ks:List α} {x:α} {k:Nat},ks[k]? =some x->(∀ j,j < k->ks[j]? ≠some x)->zbv ks x=some k
 | [],_,_,h,_=>by simp at h
 | y::ks,x,k,h,hf=>by
  cases k with
  | zero=>
   have:y=x:=by simpa using h
   subst this;exact zmJ _ _
  | succ k=>
   have a:y≠x:=by have:=hf 0 (by omega);simpa using this
   rw [zoI a,zxW (k:=k) (by simpa using h) (fun j b=>by have:=hf (j+1) (by omega);simpa using this)];rfl
theorem zAg {α:Type} {ks:List α} {x y:α} {j:Nat} (h:zbv ks x=some j) (k:zbv ks y=some j):x=y:=by
 have:=zhH h;rw [zhH k] at this;injection this with this;exact this.symm
theorem zw2 {α:Type} {ks:List α} (b:ks.Nodup) {j:Nat} (c:j < ks.length):zbv ks ks[j]=some j:=
 zxW (by simp) fun i d e=>by
  have a:i < ks.length:=by omega
  rw [List.getElem?_eq_getElem a] at e;exact List.pairwise_iff_getElem.1 b i j a c d (Option.some.inj e)
theorem zvG {α β:Type} (f:α->β):∀ {ks:List α} {x:α},(∀ y∈ks,f y=f x->y=x)->zbv (ks.map f) (f x)=zbv ks x
 | [],_,_=>rfl
 | y::ks,x,h=>by
  have b:=zvG f (ks:=ks) (x:=x) (fun z a=>h z (by simp [a]));rw [List.map_cons];by_cases e:y=x
  ·subst e;rw [zmJ,zmJ]
  ·rw [zoI e,zoI (fun hh=>e (h y (by simp) hh)),b]
def iota (n:Nat):List Int:=(List.range n).map fun j:Nat=>(j:Int)
theorem zxI (n:Nat):(iota n).length=n:=by simp [iota]
theorem zz0 (n:Nat):iota (n+1)=iota n++[(n:Int)]:=by simp [iota,List.range_succ]
theorem zoJ {α:Type} {ks:List α} {x:α} {j:Nat} (h:zbv ks x=some j):mget ks (iota ks.length) x 0=j:=by
 have:=zku h;unfold mget;rw [h];simp [iota,this]
theorem zro {α:Type} {ks:List α} {x:α}:mhas ks x=true↔x∈ks:=by
 unfold mhas;cases e:zbv ks x with
 | none=>simp [zcE.1 e]
 | some j=>
  have:=zhH e;simp [List.mem_of_getElem? this]
theorem zmK {α:Type} {ks:List α} {x:α} (h:x∉ks):zlR ks (iota ks.length) x ks.length=iota (ks++[x]).length:=by
 unfold zlR;rw [zcE.2 h,List.length_append,List.length_singleton,zz0]
theorem zrP {α:Type} [DecidableEq α]:∀ {l U:List α},U.Nodup->(∀ x∈U,x∈l)->l.length<=U.length->l.Nodup
 | [],_,_,_,_=>List.nodup_nil
 | a::l,U,hU,hs,hl=>by
  have c:a∉l:=fun c=>by
   have:=zsp (l:=U) (U:=l) hU (fun x b=>by
    rcases List.mem_cons.1 (hs x b) with rfl | h
    ·exact c
    ·exact h)
   rw [List.length_cons] at hl;omega
  refine List.nodup_cons.2 ⟨c,?_⟩;refine zrP (U:=U.erase a) (hU.erase a) (fun x b => ?_) ?_
  ·have d:x≠a:=((List.Nodup.mem_erase_iff hU).1 b).1;rcases List.mem_cons.1 (hs x (List.mem_of_mem_erase b)) with h | h
   ·exact absurd h d
   ·exact h
  ·have:U.length - 1<=(U.erase a).length:=by
    by_cases h:a∈U
    ·rw [List.length_erase_of_mem h];omega
    ·rw [List.erase_of_not_mem h];omega
   rw [List.length_cons] at hl;omega
def keyL (l:List Int):List Int:=l.flatMap fun x=>[IntKind.wrap .u8 x,IntKind.wrap .u8 (ishr .i64 x 8)]
def keyB (l:List Int):List UInt8:=bstr (keyL l)
theorem zD4 (x:Int):IntKind.wrap .u8 x=x % 256:=by
 unfold IntKind.wrap;simp [IntKind.bits,IntKind.signed]
theorem zoE (x:Int) (l:List Int):keyB (x::l)=UInt8.ofNat (x % 256).toNat::UInt8.ofNat (ishr .i64 x 8 % 256).toNat::keyB l:=by
 unfold keyB keyL bstr;simp [zD4]
theorem zCw {a b:Int} (h:UInt8.ofNat (a % 256).toNat=UInt8.ofNat (b % 256).toNat):a % 256=b % 256:=by
 have:=congrArg UInt8.toNat h;simp only [UInt8.toNat_ofNat'] at this;omega
theorem zxO:∀ {l k:List Int},(∀ x∈l,0<=x/\x < 65536)->(∀ x∈k,0<=x/\x < 65536)->keyB l=keyB k->l=k
 | [],[],_,_,_=>rfl
 | [],y::k,_,_,h=>by rw [zoE] at h;cases h
 | x::l,[],_,_,h=>by rw [zoE] at h;cases h
 | x::l,y::k,hl,hk,h=>by
  rw [zoE,zoE] at h;injection h with h1 h
  injection h with h2 h
  have e:=hl x (by simp);have f:=hk y (by simp);have g:=zCw h1;have d:=zCw h2;obtain ⟨a,rfl⟩:∃ a:Nat,x=a:=⟨x.toNat,by omega⟩;obtain ⟨b,rfl⟩:∃ b:Nat,y=b:=⟨y.toNat,by omega⟩;rw [show (8:Int)=((8:Nat):Int) from rfl,zxM (by omega),zxM (by omega),Nat.shiftRight_eq_div_pow,Nat.shiftRight_eq_div_pow] at d;have:a=b:=by omega
  rw [this,zxO (fun z c=>hl z (by simp [c])) (fun z c=>hk z (by simp [c])) h]
theorem zBt (l:List Int):(keyL l).length=2 * l.length:=by
 induction l with
 | nil=>rfl
 | cons x l a=>unfold keyL at *; rw [List.flatMap_cons,List.length_append,a];simp;omega
def mkR (n:Nat) (g:Int->Int):List Int:=(List.range n).map fun a:Nat=>g a
theorem zAh (n:Nat) (g:Int->Int):(mkR n g).length=n:=by simp [mkR]
theorem zEq {n:Nat} {g:Int->Int} {a:Int} (b:0<=a) (c:a < n):ix (mkR n g) a=g a:=by
 rw [zhF b (by rw [zAh];exact c)];simp [mkR,Int.toNat_of_nonneg b]
abbrev Dt:=Int×Int×(List (List Int))×(List Int)×Unit
structure DOk (mx:Int) (mb:Int->Prop) (d:Dt):Prop where
 let1:1<=d.1/\d.1<=4
 n1:1<=d.2.2.1.length/\(d.2.2.1.length:Int)<=mx
 st:0<=d.2.1/\d.2.1 < d.2.2.1.length
 mkl:(d.2.2.2.1.length:Int)=d.2.2.1.length
 mok:∀ s∈d.2.2.2.1,¬ mb s
 tab:Tab d.1 d.2.2.1
abbrev badM (s:Int):Prop:=s < 0\/9 < s
section
variable {d:Dt} {mb:Int->Prop}
def sigC (d:Dt) (c:List Int) (q:Int):Int×List Int:=(ix c q,(ix d.2.2.1 q).map (ix c))
def ksC (d:Dt) (c:List Int):Nat->List (Int×List Int)
 | 0=>[]
 | t+1=>if sigC d c (t:Int)∈ksC d c t then ksC d c t else ksC d c t++[sigC d c (t:Int)]
def idxC (d:Dt) (c:List Int) (q:Nat):Nat:=(zbv (ksC d c (q+1)) (sigC d c (q:Int))).getD 0
def rfC (d:Dt) (c:List Int):List Int:=mkR d.2.2.1.length fun q=>(idxC d c q.toNat:Int)
theorem zks (c:List Int) (t:Nat):ksC d c (t+1)=if sigC d c (t:Int)∈ksC d c t then ksC d c t else ksC d c t++[sigC d c (t:Int)]:=rfl
theorem zDd (c:List Int):∀ t,∃ x,ksC d c (t+1)=ksC d c t++x:=fun t=>by
 rw [zks];by_cases h:sigC d c (t:Int)∈ksC d c t
 ·exact ⟨[],by rw [if_pos h,List.append_nil]⟩
 ·exact ⟨_,by rw [if_neg h]⟩
theorem zpF (c:List Int):∀ t q:Nat,q < t->sigC d c (q:Int)∈ksC d c t
 | t+1,q,h=>by
  rw [zks];by_cases e:q=t
  ·subst e;by_cases h:sigC d c (q:Int)∈ksC d c q
   ·rw [if_pos h];exact h
   ·rw [if_neg h];simp
  ·have:=zpF c t q (by omega);by_cases h:sigC d c (t:Int)∈ksC d c t
   ·rw [if_pos h];exact this
   ·rw [if_neg h];simp [this]
theorem zvB (c:List Int):∀ (t:Nat),∀ k∈ksC d c t,∃ q:Nat,q < t/\k=sigC d c (q:Int)
 | 0,k,h=>by cases h
 | t+1,k,h=>by
  rw [zks] at h;by_cases e:sigC d c (t:Int)∈ksC d c t
  ·rw [if_pos e] at h;obtain ⟨q,b,a⟩:=zvB c t k h;exact ⟨q,by omega,a⟩
  ·rw [if_neg e] at h;rcases List.mem_append.1 h with h | h
   ·obtain ⟨q,b,a⟩:=zvB c t k h;exact ⟨q,by omega,a⟩
   ·exact ⟨t,by omega,List.mem_singleton.1 h⟩
theorem zsd (c:List Int):∀ t,(ksC d c t).Nodup
 | 0=>List.nodup_nil
 | t+1=>by
  rw [zks];by_cases h:sigC d c (t:Int)∈ksC d c t
  ·rw [if_pos h];exact zsd c t
  ·rw [if_neg h,List.nodup_append];exact ⟨zsd c t,by simp,fun a e b f=>by rw [List.mem_singleton.1 f];rintro rfl;exact h e⟩
theorem zCn (c:List Int):∀ t,(ksC d c t).length<=t
 | 0=>Nat.le_refl _
 | t+1=>by
  have:=zCn c t;rw [zks];split
  ·omega
  ·rw [List.length_append,List.length_singleton];omega
theorem zpE (c:List Int) (q:Nat):∀ t,q < t->zbv (ksC d c t) (sigC d c (q:Int))=some (idxC d c q)
 | t+1,h=>by
  by_cases e:q=t
  ·subst e;obtain ⟨j,a⟩:=zvH (zpF (d:=d) c (q+1) q (by omega));unfold idxC;rw [a];rfl
  ·obtain ⟨x,b⟩:=zDd (d:=d) c t;rw [b];exact zsj x (zpE c q t (by omega))
theorem zBq (c:List Int) {q r:Nat}:idxC d c q=idxC d c r↔sigC d c (q:Int)=sigC d c (r:Int):=by
 have a:=zpE (d:=d) c q (max q r+1) (by omega);have b:=zpE (d:=d) c r (max q r+1) (by omega);constructor
 ·intro e;rw [<- e] at b;exact zAg a b
 ·intro e;rw [e,b] at a;exact (Option.some.inj a).symm
theorem zC6 (c:List Int) {q t:Nat} (h:q < t):idxC d c q < (ksC d c t).length:=zku (zpE c q t h)
theorem zBr (c:List Int) {t j:Nat} (h:j < (ksC d c t).length):∃ q,q < t/\idxC d c q=j:=by
 obtain ⟨q,b,e⟩:=zvB c t _ (List.getElem_mem h);refine ⟨q,b,?_⟩;have a:=zpE (d:=d) c q t b;rw [<- e,zw2 (zsd c t) h] at a;exact (Option.some.inj a).symm
structure ClsOk (d:Dt) (c:List Int):Prop where
 len:c.length=d.2.2.1.length
 b:∀ q:Int,0<=q->q < c.length->0<=ix c q/\ix c q < 65536
theorem zuP (c:List Int):(rfC d c).length=d.2.2.1.length:=zAh _ _
theorem zvV (c:List Int) {q:Int} (a:0<=q) (b:q < d.2.2.1.length):ix (rfC d c) q=idxC d c q.toNat:=zEq a b
theorem zuV (h:DOk 20000 mb d) (c:List Int) {q:Int} (a:0<=q) (b:q < d.2.2.1.length):((sigC d c q).2.length:Int)=d.1:=by
 unfold sigC;rw [List.length_map];exact h.tab.rowlen a b
theorem zx6 (h:DOk 20000 mb d) {c:List Int} (a:ClsOk d c) {q:Int} (e:0<=q) (f:q < d.2.2.1.length):∀ x∈(sigC d c q).2,0<=x/\x < 65536:=by
 intro x b;unfold sigC at b;obtain ⟨y,g,rfl⟩:=List.mem_map.1 b;have:=h.tab.to _ (zbc e f) y g;exact a.b y this.1 (by rw [a.len];exact this.2)
theorem zph (h:DOk 20000 mb d) (c:List Int) {q a:Int} (b:0<=q) (e:q < d.2.2.1.length) (f:0<=a) (g:a < d.1):ix (sigC d c q).2 a=ix c (ix (ix d.2.2.1 q) a):=by
 have:=h.tab.rowlen b e;unfold sigC;exact zCm _ f (by omega)
theorem zAF (h:DOk 20000 mb d) (c:List Int) {p q:Int} (f:0<=p) (g:p < d.2.2.1.length) (i:0<=q) (j:q < d.2.2.1.length):sigC d c p=sigC d c q↔ix c p=ix c q/\∀ a:Int,0<=a->a < d.1->ix c (ix (ix d.2.2.1 p) a)=ix c (ix (ix d.2.2.1 q) a):=by
 have n:=zuV h c f g;have l2:=zuV h c i j;constructor
 ·intro e;refine ⟨congrArg Prod.fst e,fun a b k => ?_⟩;rw [<- zph h c f g b k,<- zph h c i j b k,e]
 ·rintro ⟨l,m⟩;refine Prod.ext l (zxN (by omega) fun a b k => ?_);rw [zph h c f g b (by omega),zph h c i j b (by omega)];exact m a b (by omega)
def encK (k:Int×List Int):Int×List UInt8×Unit:=(k.1,keyB k.2,())
theorem zxz {k l:Int×List Int} (a:∀ x∈k.2,0<=x/\x < 65536) (hl:∀ x∈l.2,0<=x/\x < 65536) (e:encK k=encK l):k=l:=by
 unfold encK at e;injection e with e1 e2
 injection e2 with e2 e3
 exact Prod.ext e1 (zxO a hl e2)
theorem zrR (h:DOk 20000 mb d) {c:List Int} (l:ClsOk d c) {t:Nat} (w:t < d.2.2.1.length) {b:List (Int×List UInt8×Unit)} {e f:List Int} {g}:
  zby d c t b e f g 0 []=if mhas b (encK (sigC d c t))=true then zbx c t f g (keyL (sigC d c t).2) b e
   else zbx c t f g (keyL (sigC d c t).2) (zlQ b (encK (sigC d c t))) (zlR b e (encK (sigC d c t)) (b.length:Int)):=by
 have p:=h.tab.rowlen (q:=(t:Int)) (by omega) (by omega);have r:=h.let1;have hcl:=l.len;have key:∀ (n:Nat) (a:Int),((ix d.2.2.1 (t:Int)).length - a).toNat=n->0<=a->a<=(ix d.2.2.1 (t:Int)).length->
   zby d c t b e f g a (keyL ((sigC d c t).2.take a.toNat))=zby d c t b e f g (ix d.2.2.1 (t:Int)).length (keyL (sigC d c t).2):=by
  intro n;induction n with
  | zero=>
   intro a m i o;obtain rfl:a=(ix d.2.2.1 (t:Int)).length:=by omega
   rw [List.take_of_length_le (by unfold sigC;rw [List.length_map];omega)]
  | succ n v=>
   intro a m i o;have k:=h.tab.stpb (q:=(t:Int)) (a:=a) (by omega) (by omega) i (by omega);unfold stp at k;rw [<- v (a+1) (by omega) (by omega) (by omega)]
   conv=>lhs;rw [ziq];unfold zbR
   have s:=zBt ((sigC d c t).2.take a.toNat);rw [List.length_take] at s;have u:=zuV h c (q:=(t:Int)) (by omega) (by omega);rw [if_pos (by simp;omega)];refine G_to (by omega) (G_to (by omega) (G_to (by omega) (G_to (by omega) (G_to (by omega) (G_to (by omega) (G_to (by unfold room;simp;omega) (G_to (by unfold fits;omega) ?_)))))));congr 1;rw [zDa i (by omega),zph h c (q:=(t:Int)) (by omega) (by omega) i (by omega)];unfold keyL;rw [List.flatMap_append];rfl
 refine (key _ 0 rfl (by omega) (by omega)).trans ?_;rw [ziq];unfold zbR;rw [if_neg (by simp)];refine G_to (by omega) (G_to (by omega) ?_);rw [show (ix c (t:Int),bstr (keyL (sigC d c t).2),())=encK (sigC d c t) from rfl];by_cases j:mhas b (encK (sigC d c t))=true
 ·rw [if_neg (by simp [j]),if_pos j]
 ·rw [if_pos (by simpa using j),if_neg j]
theorem zqU (h:DOk 20000 mb d) {c:List Int} (m:ClsOk d c) {b:Int} {r3}:∀ (n t:Nat) (a:List Int),d.2.2.1.length - t=n->t<=d.2.2.1.length->a.length=d.2.2.1.length->(∀ j:Int,0<=j->j < t->ix a j=ix (rfC d c) j)->
  zcr d b c r3 t ((ksC d c t).map encK) (iota (ksC d c t).length) a=if ((ksC d c d.2.2.1.length).length:Int)=b then some (rfC d c) else r3 ((ksC d c d.2.2.1.length).length:Int) (rfC d c):=by
 have C:=h.n1;intro n;induction n with
 | zero=>
  intro t a r x hl s;obtain rfl:t=d.2.2.1.length:=by omega
  have:a=rfC d c:=zxN (by rw [zuP];exact hl) fun j l w=>s j l (by omega)
  rw [zjk];unfold zb6;rw [if_neg (by simp),List.length_map,this];by_cases e:((ksC d c d.2.2.1.length).length:Int)=b
  ·rw [if_pos (decide_eq_true e),if_pos e]
  ·rw [if_neg (by simpa using e),if_neg e]
 | succ n B=>
  intro t a r x hl s;rw [zjk];unfold zb6;rw [if_pos (by simp;omega)];refine G_to (by omega) ?_;rw [zrR h m (by omega)];have inj:∀ y∈ksC d c t,encK y=encK (sigC d c t)->y=sigC d c t:=fun y g e=>by
   obtain ⟨q,A,rfl⟩:=zvB c t y g;exact zxz (zx6 h m (by omega) (by omega)) (zx6 h m (by omega) (by omega)) e
  have i:encK (sigC d c t)∈(ksC d c t).map encK↔sigC d c t∈ksC d c t:=by
   rw [List.mem_map];exact ⟨fun ⟨y,g,e⟩=>inj y g e ▸ g,fun g=>⟨_,g,rfl⟩⟩
  have u:=zpE (d:=d) c t (t+1) (by omega);have o:∀ y∈ksC d c (t+1),encK y=encK (sigC d c t)->y=sigC d c t:=fun y g e=>by
   obtain ⟨q,A,rfl⟩:=zvB c (t+1) y g;exact zxz (zx6 h m (by omega) (by omega)) (zx6 h m (by omega) (by omega)) e
  have p:mget ((ksC d c (t+1)).map encK) (iota (ksC d c (t+1)).length) (encK (sigC d c t)) 0=idxC d c t:=by
   have z:zbv ((ksC d c (t+1)).map encK) (encK (sigC d c t))=some (idxC d c t):=by rw [zvG encK o,u]
   have:=zoJ z
   rwa [List.length_map] at this
  have f:zbx c t a (zcr d b c r3) (keyL (sigC d c t).2) ((ksC d c (t+1)).map encK) (iota (ksC d c (t+1)).length)=if ((ksC d c d.2.2.1.length).length:Int)=b then some (rfC d c) else r3 ((ksC d c d.2.2.1.length).length:Int) (rfC d c):=by
   unfold zbx;refine G_to (by omega) (G_to (by omega) (G_to (by unfold fits;omega) ?_));rw [show (ix c (t:Int),bstr (keyL (sigC d c t).2),())=encK (sigC d c t) from rfl,p];refine B (t+1) _ (by omega) (by omega) (by rw [List.length_set];exact hl) (fun j l w => ?_);by_cases e:j=t
   ·subst e;rw [zak l (by omega),zvV c l (by omega)];simp
   ·rw [zam (by omega) l (Ne.symm e)];exact s j l (by omega)
  by_cases e:sigC d c t∈ksC d c t
  ·rw [if_pos (zro.2 (i.2 e))];rw [zks,if_pos e] at f;exact f
  ·have k:=fun hh=>e (i.1 hh)
   rw [if_neg (fun hh=>k (zro.1 hh)),zoL k];have v:=zmK k;rw [List.length_map] at v;rw [List.length_map,v];rw [zks,if_neg e] at f;rw [List.map_append] at f;rw [List.length_append,List.length_map];rw [List.length_append] at f;exact f
end
section
variable {d:Dt}
def LEq (d:Dt) (q:Int) (e:Dt) (r:Int):Prop:=∀ w:List Int,(∀ a∈w,0<=a/\a < d.1)->ix d.2.2.2.1 (wlk d.2.2.1 q w)=ix e.2.2.2.1 (wlk e.2.2.1 r w)
theorem LEq.step {d e:Dt} {q r:Int} (h:LEq d q e r) {a:Int} (c:0<=a) (f:a < d.1):LEq d (ix (ix d.2.2.1 q) a) e (ix (ix e.2.2.1 r) a):=fun w hw=>h (a::w) (fun b g=>(List.mem_cons.1 g).elim (fun e=>by rw [e];exact ⟨c,f⟩) (hw b))
structure FinC (d:Dt) (C:List Int) (K:Nat):Prop where
 len:C.length=d.2.2.1.length
 le:K<=d.2.2.1.length
 b:∀ q:Int,0<=q->q < d.2.2.1.length->0<=ix C q/\ix C q < K
 sur:∀ v:Int,0<=v->v < K->∃ q:Int,0<=q/\q < d.2.2.1.length/\ix C q=v
 mark:∀ q r:Int,0<=q->q < d.2.2.1.length->0<=r->r < d.2.2.1.length->ix C q=ix C r->ix d.2.2.2.1 q=ix d.2.2.2.1 r
 stable:∀ q r:Int,0<=q->q < d.2.2.1.length->0<=r->r < d.2.2.1.length->ix C q=ix C r->∀ a:Int,0<=a->a < d.1->ix C (ix (ix d.2.2.1 q) a)=ix C (ix (ix d.2.2.1 r) a)
 coarse:∀ q r:Int,0<=q->q < d.2.2.1.length->0<=r->r < d.2.2.1.length->LEq d q d r->ix C q=ix C r
theorem zrv {c:List Int} {q r:Int} (a:0<=q) (f:q < d.2.2.1.length) (b:0<=r) (r1:r < d.2.2.1.length):ix (rfC d c) q=ix (rfC d c) r↔sigC d c q=sigC d c r:=by
 rw [zvV c a f,zvV c b r1];have:=zBq (d:=d) c (q:=q.toNat) (r:=r.toNat);rw [Int.toNat_of_nonneg a,Int.toNat_of_nonneg b] at this;rw [<- this];exact ⟨fun e=>by exact_mod_cast e,fun e=>by rw [e]⟩
theorem zBs {n:Nat} {v:Int}:v∈iota n↔0<=v/\v < n:=by
 unfold iota;rw [List.mem_map];constructor
 ·rintro ⟨j,a,rfl⟩;have:=List.mem_range.1 a;omega
 ·rintro ⟨b,c⟩;exact ⟨v.toNat,List.mem_range.2 (by omega),by omega⟩
theorem ztv (n:Nat):(iota n).Nodup:=by
 unfold iota;refine List.Pairwise.map _ (fun a b (h:a≠b)=>by omega) (List.nodup_range (n:=n))
theorem zvd (h:DOk 20000 badM d):∀ (f k:Nat) (c:List Int),d.2.2.1.length - k=f->ClsOk d c->
  (∀ q r:Int,0<=q->q < d.2.2.1.length->0<=r->r < d.2.2.1.length->ix c q=ix c r->ix d.2.2.2.1 q=ix d.2.2.2.1 r)->(∀ v:Int,0<=v->v < k->∃ q:Int,0<=q/\q < d.2.2.1.length/\ix c q=v)->(∀ q r:Int,0<=q->q < d.2.2.1.length->0<=r->r < d.2.2.1.length->LEq d q d r->ix c q=ix c r)->
  ∃ C K,FinC d C K/\zdO d (k:Int) c=some C:=by
 have hn:=h.n1;intro f;induction f using Nat.strongRecOn with
 | ind f ih=>
 intro k c hf Q Z hs D;have hcl:=Q.len;have hK:=zCn (d:=d) c d.2.2.1.length;have n:∀ x∈iota k,x∈(ksC d c d.2.2.1.length).map Prod.fst:=fun x H=>by
  obtain ⟨I,M⟩:=zBs.1 H;obtain ⟨q,b,g,e⟩:=hs x I M;have:=zpF (d:=d) c d.2.2.1.length q.toNat (by omega);rw [Int.toNat_of_nonneg b] at this;exact List.mem_map.2 ⟨_,this,e⟩
 have hge:k<=(ksC d c d.2.2.1.length).length:=by
  have:=zsp (ztv k) n
  rwa [zxI,List.length_map] at this
 have R:0 < (ksC d c d.2.2.1.length).length:=List.length_pos_of_mem (zpF (d:=d) c d.2.2.1.length 0 (by omega));have J:zdO d (k:Int) c=if ((ksC d c d.2.2.1.length).length:Int)=k then some (rfC d c) else zdO d ((ksC d c d.2.2.1.length).length:Int) (rfC d c):=by
  conv=>lhs;rw [zpt];unfold zcV
  refine G_to (by unfold mkOK;omega) ?_;exact zqU h Q _ 0 _ rfl (by omega) (by simp;omega) (fun j j0 j1=>by omega)
 have S:∀ q:Int,0<=q->q < d.2.2.1.length->0<=ix (rfC d c) q/\ix (rfC d c) q < (ksC d c d.2.2.1.length).length:=fun q b g=>by
  rw [zvV c b g];have:=zC6 (d:=d) c (q:=q.toNat) (t:=d.2.2.1.length) (by omega);omega
 have o:∀ v:Int,0<=v->v < (ksC d c d.2.2.1.length).length->∃ q:Int,0<=q/\q < d.2.2.1.length/\ix (rfC d c) q=v:=fun v v0 v1=>by
  obtain ⟨q,L,e⟩:=zBr (d:=d) c (t:=d.2.2.1.length) (j:=v.toNat) (by omega);refine ⟨q,by omega,by omega,?_⟩;rw [zvV c (by omega) (by omega),Int.toNat_natCast,e];omega
 have T:∀ q r:Int,0<=q->q < d.2.2.1.length->0<=r->r < d.2.2.1.length->ix (rfC d c) q=ix (rfC d c) r->ix d.2.2.2.1 q=ix d.2.2.2.1 r:=fun q r b g m r1 e=>
  Z q r b g m r1 (congrArg Prod.fst ((zrv b g m r1).1 e))
 have E:∀ q r:Int,0<=q->q < d.2.2.1.length->0<=r->r < d.2.2.1.length->LEq d q d r->ix (rfC d c) q=ix (rfC d c) r:=fun q r b g m r1 L=>by
  refine (zrv b g m r1).2 ((zAF h c b g m r1).2 ⟨D q r b g m r1 L,fun a s u => ?_⟩);have w:=h.tab.stpb b g s u;have z:=h.tab.stpb m r1 s u;exact D _ _ w.1 w.2 z.1 z.2 (L.step s u)
 by_cases e:((ksC d c d.2.2.1.length).length:Int)=k
 ·rw [if_pos e] at J;refine ⟨rfC d c,_,⟨zuP c,hK,S,o,T,fun q r b g m r1 X a s u => ?_,E⟩,J⟩;have hnd:((ksC d c d.2.2.1.length).map Prod.fst).Nodup:=zrP (ztv k) n (by rw [List.length_map,zxI];omega);have O:∀ x y:Int,0<=x->x < d.2.2.1.length->0<=y->y < d.2.2.1.length->ix c x=ix c y->ix (rfC d c) x=ix (rfC d c) y:=fun x y I M P Y N=>by
   rw [zrv I M P Y];have H:=zpF (d:=d) c d.2.2.1.length x.toNat (by omega);have U:=zpF (d:=d) c d.2.2.1.length y.toNat (by omega);rw [Int.toNat_of_nonneg I] at H;rw [Int.toNat_of_nonneg P] at U;obtain ⟨i,A,V⟩:=List.mem_iff_getElem.1 H;obtain ⟨j,B,W⟩:=List.mem_iff_getElem.1 U;have key:∀ i j:Nat,(A:i < (ksC d c d.2.2.1.length).length)->(B:j < (ksC d c d.2.2.1.length).length)->i < j->(ksC d c d.2.2.1.length)[i].1≠(ksC d c d.2.2.1.length)[j].1:=fun i j A B l hh=>by
    have:=List.pairwise_iff_getElem.1 hnd i j (by rw [List.length_map];exact A) (by rw [List.length_map];exact B) l;rw [List.getElem_map,List.getElem_map] at this;exact this hh
   have p:(ksC d c d.2.2.1.length)[i].1=(ksC d c d.2.2.1.length)[j].1:=by rw [V,W];exact N
   have:i=j:=by
    rcases Nat.lt_trichotomy i j with l | rfl | l
    ·exact absurd p (key i j A B l)
    ·rfl
    ·exact absurd p.symm (key j i B A l)
   subst this;rw [<- V,W]
  have F:=(zAF h c b g m r1).1 ((zrv b g m r1).1 X);have w:=h.tab.stpb b g s u;have z:=h.tab.stpb m r1 s u;unfold stp at w z;exact O _ _ w.1 w.2 z.1 z.2 (F.2 a s u)
 ·rw [if_neg e] at J;rw [J];have l:k < (ksC d c d.2.2.1.length).length:=by omega
  exact ih (d.2.2.1.length - (ksC d c d.2.2.1.length).length) (by omega) _ (rfC d c) rfl ⟨zuP c,fun q b g=>by
   rw [zuP] at g;have:=S q b g;omega⟩ T o E
theorem zvc (h:DOk 20000 badM d):∃ C K,FinC d C K/\zkn d=some C:=by
 have n:=h.n1;have g:=h.mkl;have i:ClsOk d d.2.2.2.1:=⟨by omega,fun q b c=>by
  have:=h.mok _ (zbc b c);omega⟩
 obtain ⟨C,K,j,k⟩:=zvd h _ 0 d.2.2.2.1 rfl i (fun q r _ _ _ _ e=>e) (fun v l m=>by omega) (fun q r _ _ _ _ e=>e [] (fun a f=>by cases f));refine ⟨C,K,j,?_⟩;unfold zkn;exact zaj (zj6 (by omega)) k
end
def xRow {α:Type} (nx:α->Int->α) (s:α) (l:List α):Nat->List α×List Int
 | 0=>(l,[])
 | t+1=>match zbv (xRow nx s l t).1 (nx s (t:Int)) with
  | some j=>((xRow nx s l t).1,(xRow nx s l t).2++[(j:Int)])
  | none=>((xRow nx s l t).1++[nx s (t:Int)],(xRow nx s l t).2++[((xRow nx s l t).1.length:Int)])
def xSt {α:Type} [Inhabited α] (nx:α->Int->α) (mk:α->Int) (L:Nat) (first:α):Nat->List α×List (List Int)×List Int
 | 0=>([first],[],[])
 | i+1=>((xRow nx (ix (xSt nx mk L first i).1 (i:Int)) (xSt nx mk L first i).1 L).1,(xSt nx mk L first i).2.1++[(xRow nx (ix (xSt nx mk L first i).1 (i:Int)) (xSt nx mk L first i).1 L).2],(xSt nx mk L first i).2.2++[mk (ix (xSt nx mk L first i).1 (i:Int))])
theorem zmy {α:Type} {nx:α->Int->α} {s:α} {l:List α} {t j:Nat} (h:zbv (xRow nx s l t).1 (nx s (t:Int))=some j):xRow nx s l (t+1)=((xRow nx s l t).1,(xRow nx s l t).2++[(j:Int)]):=by
 rw [xRow,h]
theorem zmx {α:Type} {nx:α->Int->α} {s:α} {l:List α} {t:Nat} (h:zbv (xRow nx s l t).1 (nx s (t:Int))=none):xRow nx s l (t+1)=((xRow nx s l t).1++[nx s (t:Int)],(xRow nx s l t).2++[((xRow nx s l t).1.length:Int)]):=by
 rw [xRow,h]
section
variable {α:Type} [Inhabited α] {nx:α->Int->α} {mk:α->Int} {L:Nat} {first:α} {B:Nat} {P:α->Prop}
structure XOk {α:Type} (nx:α->Int->α) (mk:α->Int) (L:Nat) (first:α) (B:Nat) (P:α->Prop):Prop where
 b:∀ l:List α,l.Nodup->(∀ x∈l,P x)->l.length<=B
 f:P first
 n:∀ s,P s->∀ t:Int,0<=t->t < L->P (nx s t)
 m:∀ s,P s->0<=mk s/\mk s<=9
theorem XOk.int {nx:Int->Int->Int} {mk:Int->Int} {L:Nat} {first:Int} {B:Nat} {P:Int->Prop} (b:∀ s,P s->0<=s/\s < B) (f:P first) (n:∀ s,P s->∀ t:Int,0<=t->t < L->P (nx s t)) (m:∀ s,P s->0<=mk s/\mk s<=9):XOk nx mk L first B P:=
 ⟨fun l a c=>zcW a (fun x d=>b x (c x d)),f,n,m⟩
structure LiOk {α:Type} (B:Nat) (P:α->Prop) (l:List α):Prop where
 nd:l.Nodup
 p:∀ x∈l,P x
theorem LiOk.len (h:XOk nx mk L first B P) {l:List α} (k:LiOk B P l):l.length<=B:=h.b l k.nd k.p
structure XR {α:Type} [Inhabited α] (nx:α->Int->α) (s:α) (l:List α) (t:Nat) (r:List α×List Int):Prop where
 pre:∃ x,r.1=l++x
 len:r.2.length=t
 to:∀ a:Int,0<=a->a < t->0<=ix r.2 a/\ix r.2 a < r.1.length/\ix r.1 (ix r.2 a)=nx s a
theorem zBC {l:List α} {x:α} {j:Nat} (h:zbv l x=some j):(j:Int) < l.length/\ix l (j:Int)=x:=by
 have b:=zku h;have a:=zhH h;refine ⟨by omega,?_⟩;rw [List.getElem?_eq_getElem b] at a;rw [zhF (l:=l) (by omega) (by omega)];simpa using a
theorem zn8 (h:XOk nx mk L first B P) {s:α} (hs:P s) {l:List α} (hl:LiOk B P l):∀ t:Nat,t<=L->LiOk B P (xRow nx s l t).1/\XR nx s l t (xRow nx s l t)
 | 0,_=>⟨hl,⟨[],by simp [xRow]⟩,rfl,fun a b f=>by omega⟩
 | t+1,ht=>by
  obtain ⟨d,⟨⟨x,g⟩,h2,h3⟩⟩:=zn8 h hs hl t (by omega);have p:=h.n s hs (t:Int) (by omega) (by omega);unfold xRow;cases e:zbv (xRow nx s l t).1 (nx s (t:Int)) with
  | some j=>
   obtain ⟨r,w⟩:=zBC e;refine ⟨d,⟨⟨x,g⟩,by simp [h2],fun a b f => ?_⟩⟩;show 0<=ix ((xRow nx s l t).2++[(j:Int)]) a/\_;by_cases c:a < t
   ·rw [zan b (by omega)];exact h3 a b c
   ·obtain rfl:a=((xRow nx s l t).2.length:Int):=by omega
    rw [zaB];refine ⟨by omega,r,?_⟩;show ix (xRow nx s l t).1 (j:Int)=_;rw [w,h2]
  | none=>
   have q:=zcE.1 e;refine ⟨⟨?_,fun y k=>(List.mem_append.1 k).elim (d.p y) (fun m=>by rw [List.mem_singleton.1 m];exact p)⟩,⟨⟨x++[nx s (t:Int)],by show (xRow nx s l t).1++_=_;rw [g,List.append_assoc]⟩,by simp [h2],fun a b f => ?_⟩⟩
   ·show ((xRow nx s l t).1++[nx s (t:Int)]).Nodup;rw [List.nodup_append];exact ⟨d.nd,by simp,fun u n v o=>by rw [List.mem_singleton.1 o];rintro rfl;exact q n⟩
   ·show 0<=ix ((xRow nx s l t).2++[((xRow nx s l t).1.length:Int)]) a/\ix ((xRow nx s l t).2++[((xRow nx s l t).1.length:Int)]) a < (((xRow nx s l t).1++[nx s (t:Int)]).length:Int)/\ix ((xRow nx s l t).1++[nx s (t:Int)]) (ix ((xRow nx s l t).2++[((xRow nx s l t).1.length:Int)]) a)=nx s a;rw [List.length_append,List.length_singleton];by_cases c:a < t
    ·obtain ⟨i,z,A⟩:=h3 a b c;rw [zan b (by omega),zan i z];exact ⟨i,by omega,A⟩
    ·obtain rfl:a=((xRow nx s l t).2.length:Int):=by omega
     rw [zaB,zaB,h2];exact ⟨by omega,by omega,rfl⟩
structure XS {α:Type} [Inhabited α] (nx:α->Int->α) (mk:α->Int) (L:Nat) (first:α) (i:Nat) (x:List α×List (List Int)×List Int):Prop where
 z:ix x.1 0=first
 r:x.2.1.length=i
 m:x.2.2.length=i
 row:∀ k:Int,0<=k->k < i->(ix x.2.1 k).length=L/\∀ a:Int,0<=a->a < L->0<=ix (ix x.2.1 k) a/\ix (ix x.2.1 k) a < x.1.length/\ix x.1 (ix (ix x.2.1 k) a)=nx (ix x.1 k) a
 mark:∀ k:Int,0<=k->k < i->ix x.2.2 k=mk (ix x.1 k)
def XGo {α:Type} [Inhabited α] (nx:α->Int->α) (mk:α->Int) (L:Nat) (first:α) (i:Nat):Prop:=∀ k < i,k < (xSt nx mk L first k).1.length
theorem zkh (h:XOk nx mk L first B P):∀ i:Nat,XGo nx mk L first i->LiOk B P (xSt nx mk L first i).1/\i<=(xSt nx mk L first i).1.length/\XS nx mk L first i (xSt nx mk L first i)
 | 0,_=>⟨⟨by simp [xSt],fun x f=>by
   have:x=first:=by simpa [xSt] using f
   rw [this];exact h.f⟩,by omega,rfl,rfl,rfl,fun k k0 e=>by omega,fun k k0 e=>by omega⟩
 | i+1,hg=>by
  obtain ⟨n,A,d⟩:=zkh h i (fun k g=>hg k (by omega));have w:=hg i (by omega);have p:=n.p _ (zbc (by omega) (by omega:(i:Int) < (xSt nx mk L first i).1.length));obtain ⟨s,⟨⟨x,f⟩,g2,g3⟩⟩:=zn8 h p n L (Nat.le_refl _);unfold xSt;generalize y:xSt nx mk L first i=X at *
  generalize z:xRow nx (ix X.1 (i:Int)) X.1 L=R at *
  have b:∀ k:Int,0<=k->k < X.1.length->ix R.1 k=ix X.1 k:=fun k k0 e=>by rw [f,zan k0 e]
  have m:X.1.length<=R.1.length:=by rw [f,List.length_append];omega
  refine ⟨s,by show i+1<=R.1.length;omega,?_,by simp [d.r],by simp [d.m],fun k k0 e => ?_,fun k k0 e => ?_⟩
  ·show ix R.1 0=first;rw [b 0 (by omega) (by omega)];exact d.z
  ·show (ix (X.2.1++[R.2]) k).length=L/\∀ a:Int,0<=a->a < L->0<=ix (ix (X.2.1++[R.2]) k) a/\ix (ix (X.2.1++[R.2]) k) a < R.1.length/\ix R.1 (ix (ix (X.2.1++[R.2]) k) a)=nx (ix R.1 k) a;have q:=d.r;by_cases c:k < i
   ·obtain ⟨r1,t⟩:=d.row k k0 c;rw [zan k0 (by omega),b k k0 (by omega)];refine ⟨r1,fun a j l => ?_⟩;obtain ⟨o,u,v⟩:=t a j l;rw [b _ o u];exact ⟨o,by omega,v⟩
   ·have g:k=(X.2.1.length:Int):=by omega
    rw [g,zaB,q,b (i:Int) (by omega) (by omega)];exact ⟨g2,fun a j l=>g3 a j l⟩
  ·show ix (X.2.2++[mk (ix X.1 (i:Int))]) k=mk (ix R.1 k);have r:=d.m;rw [b k k0 (by omega)];by_cases c:k < i
   ·rw [zan k0 (by omega)];exact d.mark k k0 c
   ·have g:k=(X.2.2.length:Int):=by omega
    rw [g,zaB,r]
theorem zwf (h:XOk nx mk L first B P):∃ n,n<=B/\XGo nx mk L first n/\(xSt nx mk L first n).1.length=n:=by
 have key:∀ f i:Nat,B - i=f->XGo nx mk L first i->∃ n,n<=B/\XGo nx mk L first n/\(xSt nx mk L first n).1.length=n:=by
  intro f;induction f with
  | zero=>
   intro i g a;obtain ⟨b,j,_⟩:=zkh h i a;have:=b.len h;exact ⟨i,by omega,a,by omega⟩
  | succ f l=>
   intro i g a;obtain ⟨b,j,_⟩:=zkh h i a;have:=b.len h;by_cases c:(xSt nx mk L first i).1.length=i
   ·exact ⟨i,by omega,a,c⟩
   ·refine l (i+1) (by omega) (fun k d => ?_);by_cases e:k=i
    ·subst e;omega
    ·exact a k (by omega)
 exact key _ 0 rfl (fun k d=>by omega)
def xAut {α:Type} [Inhabited α] (nx:α->Int->α) (mk:α->Int) (L:Nat) (first:α) (n:Nat):Dt:=((L:Int),0,(xSt nx mk L first n).2.1,(xSt nx mk L first n).2.2,())
theorem zAS (h:XOk nx mk L first B P) (v:1<=L/\L<=4) (w:B<=20000) {n:Nat} (j:XGo nx mk L first n) (l:(xSt nx mk L first n).1.length=n):DOk 20000 badM (xAut nx mk L first n):=by
 obtain ⟨i,C,d⟩:=zkh h n j;have y:=i.len h;have z:=d.r;have A:=d.m;have g:0 < n:=by
  refine Nat.pos_of_ne_zero fun e => ?_
  subst e;simp [xSt] at l
 refine ⟨by show 1<=(L:Int)/\(L:Int)<=4;omega,?_,?_,?_,fun s hs => ?_,⟨fun r b => ?_,fun r b q m => ?_⟩⟩
 ·show 1<=(xSt nx mk L first n).2.1.length/\((xSt nx mk L first n).2.1.length:Int)<=20000;omega
 ·show (0:Int)<=0/\(0:Int) < ((xSt nx mk L first n).2.1.length:Int);omega
 ·show ((xSt nx mk L first n).2.2.length:Int)=((xSt nx mk L first n).2.1.length:Int);omega
 ·obtain ⟨k,k0,f,rfl⟩:=(zkq (P:=fun x=>x=s)).1 ⟨s,hs,rfl⟩;have c:k < n:=by
   have:k < ((xSt nx mk L first n).2.2.length:Int):=f;omega
  have e:ix (xAut nx mk L first n).2.2.2.1 k=mk (ix (xSt nx mk L first n).1 k):=d.mark k k0 c;rw [e];have:=h.m _ (i.p _ (zbc k0 (by omega)));omega
 ·obtain ⟨k,k0,f,rfl⟩:=(zkq (P:=fun x=>x=r)).1 ⟨r,b,rfl⟩;have c:k < n:=by
   have:k < ((xSt nx mk L first n).2.1.length:Int):=f;omega
  have:=(d.row k k0 c).1;show ((ix (xSt nx mk L first n).2.1 k).length:Int)=(L:Int);omega
 ·obtain ⟨k,k0,f,rfl⟩:=(zkq (P:=fun x=>x=r)).1 ⟨r,b,rfl⟩;have c:k < n:=by
   have:k < ((xSt nx mk L first n).2.1.length:Int):=f;omega
  obtain ⟨r1,p⟩:=d.row k k0 c;obtain ⟨a,t,u,rfl⟩:=(zkq (P:=fun x=>x=q)).1 ⟨q,m,rfl⟩;have o:a < (L:Int):=by
   have:a < ((ix (xSt nx mk L first n).2.1 k).length:Int):=u;omega
  obtain ⟨D,E,F⟩:=p a t o;show 0<=ix (ix (xSt nx mk L first n).2.1 k) a/\ix (ix (xSt nx mk L first n).2.1 k) a < ((xSt nx mk L first n).2.1.length:Int);omega
theorem zsY (h:XOk nx mk L first B P) {n:Nat} (c:XGo nx mk L first n) (e:(xSt nx mk L first n).1.length=n):∀ (w:List Int) (q:Int),0<=q->q < n->(∀ a∈w,0<=a/\a < (L:Int))->
  0<=wlk (xAut nx mk L first n).2.2.1 q w/\wlk (xAut nx mk L first n).2.2.1 q w < n/\ix (xSt nx mk L first n).1 (wlk (xAut nx mk L first n).2.2.1 q w)=w.foldl nx (ix (xSt nx mk L first n).1 q)
 | [],q,q0,q1,_=>⟨q0,q1,rfl⟩
 | a::w,q,q0,q1,hw=>by
  obtain ⟨_,_,g⟩:=zkh h n c;have d:=hw a (by simp);obtain ⟨i,k,j⟩:=(g.row q q0 q1).2 a d.1 d.2;have:=zsY h c e w (ix (ix (xSt nx mk L first n).2.1 q) a) i (by omega) (fun b f=>hw b (by simp [f]));rw [j] at this;exact this
end
section
variable {d:Dt}
structure RowOk (d:Dt) (C Q:List Int) (i:Int) (row:List Int):Prop where
 len:(row.length:Int)=d.1
 to:∀ a:Int,0<=a->a < d.1->0<=ix row a/\ix row a < Q.length/\ix C (ix Q (ix row a))=ix C (ix (ix d.2.2.1 (ix Q i)) a)
structure QOk (d:Dt) (C Q:List Int):Prop where
 b:∀ q:Int,q∈Q->0<=q/\q < d.2.2.1.length
 nd:(Q.map (ix C)).Nodup
 z:0 < Q.length/\ix Q 0=d.2.1
structure PartOk (d:Dt) (C Q:List Int) (D2:List (List Int)) (D3:List Int):Prop where
 q:QOk d C Q
 l2:D2.length<=Q.length
 l3:D3.length=D2.length
 row:∀ i:Int,0<=i->i < D2.length->RowOk d C Q i (ix D2 i)
 mark:∀ i:Int,0<=i->i < D2.length->ix D3 i=ix d.2.2.2.1 (ix Q i)
theorem QOk.le {C Q:List Int} {K:Nat} (a:FinC d C K) (h:QOk d C Q):Q.length<=K:=by
 have:=zcW (n:=K) h.nd (fun v b=>by
  obtain ⟨q,c,rfl⟩:=List.mem_map.1 b;have:=h.b q c;exact a.b q this.1 this.2)
 rwa [List.length_map] at this
theorem RowOk.ext {C Q:List Int} {i:Int} {row:List Int} (h:RowOk d C Q i row) (c:0<=i) (e:i < Q.length) (x:List Int):RowOk d C (Q++x) i row:=
 ⟨h.len,fun a f g=>by
  obtain ⟨b,j,k⟩:=h.to a f g;rw [zan b j,zan c e];exact ⟨b,by rw [List.length_append];omega,k⟩⟩
structure OfOk (d:Dt) (C l:List Int) (K:Nat):Prop where
 len:l.length=d.2.2.1.length
 b:∀ v:Int,0<=v->v < K->0<=ix l v/\ix l v < d.2.2.1.length/\ix C (ix l v)=v
def nxC (d:Dt) (C l:List Int) (v a:Int):Int:=ix C (ix (ix d.2.2.1 (ix l v)) a)
def mkC (d:Dt) (l:List Int) (v:Int):Int:=ix d.2.2.2.1 (ix l v)
structure LeastOk (d o:Dt) (C Q:List Int) (K:Nat):Prop where
 fin:FinC d C K
 part:PartOk d C Q o.2.2.1 o.2.2.2.1
 all:o.2.2.1.length=Q.length
 let1:o.1=d.1
 st:o.2.1=0
 by1:∃ (l:List Int) (n:Nat),OfOk d C l K/\XGo (nxC d C l) (mkC d l) d.1.toNat (ix C d.2.1) n/\(xSt (nxC d C l) (mkC d l) d.1.toNat (ix C d.2.1) n).1.length=n/\o=xAut (nxC d C l) (mkC d l) d.1.toNat (ix C d.2.1) n
def zy5 (d:Dt) (C Q a:List Int):Prop:=a.length=d.2.2.1.length/\∀ v:Int,0<=v->v < d.2.2.1.length->ix a v=match zbv (Q.map (ix C)) v with
 | some j=>(j:Int)
 | none => -1
theorem zpi {row:List Int} {t:Nat} {v:Int} (h:t < row.length):(row.set t v).take (t+1)=row.take t++[v]:=by
 rw [List.take_add_one,List.take_set_of_le (Nat.le_refl _),List.getElem?_set_self h];rfl
theorem zut (h:DOk 20000 badM d) {C l Q0:List Int} {K:Nat} (A:FinC d C K) (hl:OfOk d C l K) {L0:List Int} {D2:List (List Int)} {D3:List Int} {r4} {lk:List Int} {i:Int} (W:i=D2.length) (eL:ix L0 i=ix C (ix Q0 i)):
  ∀ (f:Nat) (t:Int) (Q F row:List Int),(d.1 - t).toNat=f->0<=t->t<=d.1->PartOk d C Q D2 D3->i < Q.length->ix Q i=ix Q0 i->zy5 d C Q F->(row.length:Int)=d.1->
   (∀ a:Int,0<=a->a < t->0<=ix row a/\ix row a < Q.length/\ix C (ix Q (ix row a))=ix C (ix (ix d.2.2.1 (ix Q i)) a))->xRow (nxC d C l) (ix C (ix Q0 i)) lk t.toNat=(Q.map (ix C),row.take t.toNat)->
  ∃ x H k,xRow (nxC d C l) (ix C (ix Q0 i)) lk d.1.toNat=((Q++x).map (ix C),k)/\PartOk d C (Q++x) (D2++[k]) (D3++[ix d.2.2.2.1 (ix Q i)])/\zy5 d C (Q++x) H/\
   zbg d.1 C d l d l ((C.length:Int)+1) d.1 0 L0 D2 D3 r4 t (Q.map (ix C)) (iota (Q.map (ix C)).length) (Q.map (ix C)) row=r4 d.1 0 ((Q++x).map (ix C)) (iota ((Q++x).map (ix C)).length) ((Q++x).map (ix C)) (D2++[k]) (D3++[ix d.2.2.2.1 (ix Q i)]):=by
 have hn:=h.n1;have hlt:=h.let1;have hmk:=h.mkl;have hcl:=A.len;have hK:=A.le;intro f;induction f with
 | zero=>
  intro t Q F row hf t0 t1 b m M hN D z s;obtain rfl:t=d.1:=by omega
  have a2:=b.q.le A;have o:=b.q.b _ (zbc (by omega) m);have O:=A.b _ o.1 o.2;obtain ⟨S,T,o3⟩:=hl.b _ O.1 O.2;have hl3:=b.l3;have a3:=hl.len;have I:ix d.2.2.2.1 (ix l (ix C (ix Q i)))=ix d.2.2.2.1 (ix Q i):=A.mark _ _ S T o.1 o.2 o3;refine ⟨[],F,row,by rw [s,List.append_nil,List.take_of_length_le (by omega)],⟨by simpa using b.q,by rw [List.length_append,List.length_append,List.length_singleton];omega,by rw [List.length_append,List.length_append,List.length_singleton,List.length_singleton];omega,fun j r B => ?_,fun j r B => ?_⟩,by simpa using hN,?_⟩
  ·rw [List.length_append,List.length_singleton] at B;rw [List.append_nil];by_cases e:j < D2.length
   ·rw [zan r e];exact b.row j r e
   ·obtain rfl:j=D2.length:=by omega
    rw [zaB,<- W];exact ⟨D,z⟩
  ·rw [List.length_append,List.length_singleton] at B;rw [List.append_nil];by_cases e:j < D2.length
   ·rw [zan r (by omega)];exact b.mark j r e
   ·have e1:j=D3.length:=by omega
    have e2:j=i:=by omega
    rw [e1,zaB,<- e1,e2]
  ·rw [zhy];unfold zbz ziS;rw [if_neg (by simp),<- W,eL,<- M,List.append_nil];refine G_to (by unfold room;simp;have:=b.l2;omega) ?_;refine zaj (y:=ix d.2.2.2.1 (ix Q i)) ?_ ?_
   ·rw [<- I];exact G_to (by omega) (G_to (by omega) rfl)
   ·exact G_to (by unfold room;simp;have:=b.l2;omega) rfl
 | succ f ih=>
  intro t Q F row hf t0 t1 b m M hN D z s;have a2:=b.q.le A;have o:=b.q.b _ (zbc (by omega) m);have O:=A.b _ o.1 o.2;obtain ⟨S,T,o3⟩:=hl.b _ O.1 O.2;have a3:=hl.len;have hr1:=h.tab.rowlen o.1 o.2;have hr2:=h.tab.rowlen S T;have P:=h.tab.stpb o.1 o.2 t0 (by omega);have hy:=h.tab.stpb S T t0 (by omega);unfold stp at P hy;have J:=A.stable _ _ S T o.1 o.2 o3 t t0 (by omega);have hw:=A.b _ P.1 P.2;have p:=hN.2 _ hw.1 (by omega:_ < (d.2.2.1.length:Int));have hNl:=hN.1;obtain ⟨x,U⟩:∃ x,x=ix (ix d.2.2.1 (ix Q i)) t:=⟨_,rfl⟩;rw [<- U] at P J hw p;have L:nxC d C l (ix C (ix Q0 i)) (t.toNat:Int)=ix C x:=by
   unfold nxC;rw [<- M,Int.toNat_of_nonneg t0];exact J
  have s1:zgi (ix L0 (D2.length:Int)) t C d l=some (ix C x):=by
   unfold zgi;rw [<- W,eL,<- M,<- J];exact G_to (by omega) (G_to (by omega) (G_to (by omega) (G_to (by omega) rfl)))
  have hP1:zbg d.1 C d l d l ((C.length:Int)+1) d.1 0 L0 D2 D3 r4 t (Q.map (ix C)) (iota (Q.map (ix C)).length) (Q.map (ix C)) row=
    if ix C x∈Q.map (ix C) then zbg d.1 C d l d l ((C.length:Int)+1) d.1 0 L0 D2 D3 r4 (t+1) (Q.map (ix C)) (iota (Q.map (ix C)).length) (Q.map (ix C)) (row.set t.toNat (mget (Q.map (ix C)) (iota (Q.map (ix C)).length) (ix C x) 0))
    else zbg d.1 C d l d l ((C.length:Int)+1) d.1 0 L0 D2 D3 r4 (t+1) ((Q++[x]).map (ix C)) (iota ((Q++[x]).map (ix C)).length) ((Q++[x]).map (ix C)) (row.set t.toNat (Q.length:Int)):=by
   conv=>lhs;rw [zhy];unfold zbz
   rw [if_pos (by simp;omega)];refine zaj s1 ?_;unfold zcD;by_cases c:ix C x∈Q.map (ix C)
   ·rw [if_neg (by rw [zro.2 c];simp),if_pos c];exact G_to (by omega) (G_to (by omega) (G_to (by unfold fits;omega) rfl))
   ·have hh:mhas (Q.map (ix C)) (ix C x)=false:=by
     cases e:mhas (Q.map (ix C)) (ix C x) with
     | false=>rfl
     | true=>exact absurd (zro.1 e) c
    rw [if_pos (by rw [hh];rfl),if_neg c,if_neg (by rw [decide_eq_true_iff,List.length_map];omega),zoL c,zmK c,List.map_append,List.map_singleton,List.length_map];exact G_to (by unfold room;simp;omega) (G_to (by omega) (G_to (by omega) (G_to (by unfold fits;omega) rfl)))
  rw [hP1];have n:∀ (E:List Int) (v:Int),(∀ j:Int,0<=j->j < Q.length->ix E j=ix Q j)->Q.length<=E.length->0<=v->v < E.length->ix C (ix E v)=ix C x->
    ∀ a:Int,0<=a->a < t+1->0<=ix (row.set t.toNat v) a/\ix (row.set t.toNat v) a < E.length/\ix C (ix E (ix (row.set t.toNat v) a))=ix C (ix (ix d.2.2.1 (ix E i)) a):=fun E v g hle N X Y a Z a1=>by
   by_cases e:a=t
   ·subst e;rw [zak Z (by omega),g i (by omega) m,<- U];exact ⟨N,X,Y⟩
   ·obtain ⟨h1,h2,h3⟩:=z a Z (by omega);rw [zam t0 Z (Ne.symm e),g _ h1 h2,g i (by omega) m];exact ⟨h1,by omega,h3⟩
  by_cases c:ix C x∈Q.map (ix C)
  ·obtain ⟨j,V⟩:=zvH c;have R:=zku V;rw [List.length_map] at R;have hjx:ix C (ix Q j)=ix C x:=by
    have:=zhH V;rw [List.getElem?_map,List.getElem?_eq_getElem R,Option.map_some] at this;have e2:ix Q (j:Int)=Q[j]:=by rw [zhF (l:=Q) (by omega) (by omega)];simp
    rw [e2];exact Option.some.inj this
   rw [V] at p;have p:ix F (ix C x)=(j:Int):=p;rw [if_pos c,zoJ V];refine ih (t+1) Q F _ (by omega) (by omega) (by omega) b m M hN (by rw [List.length_set];exact D) (n Q j (fun _ _ _=>rfl) (Nat.le_refl _) (by omega) (by omega) hjx) ?_;rw [show (t+1).toNat=t.toNat+1 by omega,zmy (j:=j) (by rw [s,L];exact V),s,zpi (by omega)]
  ·rw [zcE.2 c] at p;have p:ix F (ix C x) = -1:=p;rw [if_neg c];have g:∀ j:Int,0<=j->j < Q.length->ix (Q++[x]) j=ix Q j:=fun j r B=>zan r B
   have hP':PartOk d C (Q++[x]) D2 D3:=by
    refine ⟨⟨fun q o=>(List.mem_append.1 o).elim (b.q.b q) (fun e=>by rw [List.mem_singleton.1 e];exact P),?_,?_⟩,by rw [List.length_append];have:=b.l2;omega,b.l3,fun j r B => ?_,fun j r B => ?_⟩
    ·rw [List.map_append,List.nodup_append];exact ⟨b.q.nd,by simp,fun u hu w hw=>by rw [List.map_singleton,List.mem_singleton] at hw;rw [hw];rintro rfl;exact c hu⟩
    ·have:=b.q.z;exact ⟨by simp,by rw [g 0 (by omega) (by omega)];exact this.2⟩
    ·exact (b.row j r B).ext r (by have:=b.l2;omega) _
    ·rw [g j r (by have:=b.l2;omega)];exact b.mark j r B
   have hN':zy5 d C (Q++[x]) (F.set (ix C x).toNat (Q.length:Int)):=by
    refine ⟨by rw [List.length_set];exact hN.1,fun v N X => ?_⟩;rw [List.map_append,List.map_singleton];by_cases e:v=ix C x
    ·subst e;rw [zak N (by omega),zvI c];simp
    ·rw [zam hw.1 N (Ne.symm e),hN.2 v N X];cases hm:zbv (Q.map (ix C)) v with
     | some j=>rw [zsj _ hm]
     | none=>
      rw [zcE.2 (fun hh=>by
       rcases List.mem_append.1 hh with hh | hh
       ·exact zcE.1 hm hh
       ·exact e (List.mem_singleton.1 hh))]
   obtain ⟨y,H,k,z0,z1,z2,z3⟩:=ih (t+1) (Q++[x]) _ (row.set t.toNat (Q.length:Int)) (by omega) (by omega) (by omega) hP' (by rw [List.length_append];omega) (by rw [g i (by omega) m];exact M) hN' (by rw [List.length_set];exact D)
    (n (Q++[x]) (Q.length:Int) g (by rw [List.length_append];omega) (by omega) (by rw [List.length_append,List.length_singleton];omega) (by rw [zaB])) (by rw [show (t+1).toNat=t.toNat+1 by omega,zmx (by rw [s,L];exact zcE.2 c),s,L,zpi (by omega),List.length_map,List.map_append,List.map_singleton])
   rw [g i (by omega) m] at z1 z3;rw [List.append_assoc] at z0 z1 z2 z3;exact ⟨_,H,k,z0,z1,z2,z3⟩
theorem zyF (h:DOk 20000 badM d) {C l:List Int} {K:Nat} (i:FinC d C K) (hl:OfOk d C l K):∀ (f:Nat) (Q t:List Int) (D2:List (List Int)) (D3:List Int),20000 - D2.length=f->PartOk d C Q D2 D3->zy5 d C Q t->XGo (nxC d C l) (mkC d l) d.1.toNat (ix C d.2.1) D2.length->xSt (nxC d C l) (mkC d l) d.1.toNat (ix C d.2.1) D2.length=(Q.map (ix C),D2,D3)->
  ∃ o s,LeastOk d o C s K/\zdJ d.1 C d l d l ((C.length:Int)+1) d.1 0 (Q.map (ix C)) (iota (Q.map (ix C)).length) (Q.map (ix C)) D2 D3=some (o,true):=by
 have R:=h.n1;have A:=h.let1;intro f;induction f using Nat.strongRecOn with
 | ind f M=>
 intro Q t D2 D3 P m hN n g;have B:=m.q.le i;have S:=i.le;rw [znJ];unfold zb4;by_cases e:D2.length < Q.length
 ·have w:ix (Q.map (ix C)) (D2.length:Int)=ix C (ix Q (D2.length:Int)):=zCm _ (by omega) (by omega);obtain ⟨x,u,b,z0,v,D,E⟩:=zut (lk:=Q.map (ix C)) (r4:=zdJ d.1 C d l d l ((C.length:Int)+1)) h i hl (L0:=Q.map (ix C)) (Q0:=Q) (D2:=D2) (D3:=D3) rfl w _ 0 Q t (List.replicate d.1.toNat 0) rfl (by omega) (by omega) m (by omega) rfl hN (by rw [List.length_replicate];omega) (fun a N O=>by omega) (by simp [xRow]);have r:=m.q.b _ (zbc (by omega) (by omega:(D2.length:Int) < Q.length));have y:=i.b _ r.1 r.2;obtain ⟨F,H,I⟩:=hl.b _ y.1 y.2;have j:mkC d l (ix C (ix Q (D2.length:Int)))=ix d.2.2.2.1 (ix Q (D2.length:Int)):=i.mark _ _ F H r.1 r.2 I;have p:XGo (nxC d C l) (mkC d l) d.1.toNat (ix C d.2.1) (D2++[b]).length:=fun k z=>by
   rw [List.length_append,List.length_singleton] at z;by_cases c:k < D2.length
   ·exact n k c
   ·obtain rfl:k=D2.length:=by omega
    rw [g,List.length_map];exact e
  have q:xSt (nxC d C l) (mkC d l) d.1.toNat (ix C d.2.1) (D2++[b]).length=((Q++x).map (ix C),D2++[b],D3++[ix d.2.2.2.1 (ix Q (D2.length:Int))]):=by
   rw [List.length_append,List.length_singleton,xSt,g];show ((xRow _ (ix (Q.map (ix C)) (D2.length:Int)) (Q.map (ix C)) d.1.toNat).1,D2++[(xRow _ (ix (Q.map (ix C)) (D2.length:Int)) (Q.map (ix C)) d.1.toNat).2],D3++[mkC d l (ix (Q.map (ix C)) (D2.length:Int))])=_;rw [w,z0,j]
  obtain ⟨o,s,J,L⟩:=M (20000 - (D2++[b]).length) (by rw [List.length_append,List.length_singleton];have:=v.q.le i;have:=v.l2;rw [List.length_append,List.length_singleton] at this;omega) (Q++x) u (D2++[b]) _ rfl v D p q;refine ⟨o,s,J,?_⟩;rw [if_pos (by simp;omega)];exact G_to (by rw [List.length_map];omega) (G_to (by rw [List.length_map];omega) (G_to (by unfold mkOK;omega) (E.trans L)))
 ·refine ⟨(d.1,0,D2,D3,()),Q,⟨i,m,by have:=m.l2;show D2.length=Q.length;omega,rfl,rfl,l,D2.length,hl,n,by rw [g,List.length_map];have:=m.l2;omega,by unfold xAut;rw [g,Int.toNat_of_nonneg (by omega)]⟩,?_⟩;rw [if_neg (by rw [decide_eq_true_iff,List.length_map];omega)]
theorem zwl (h:DOk 20000 badM d) {C:List Int} {K:Nat} (g:FinC d C K):∃ l,OfOk d C l K/\zcF d C 0 (List.replicate C.length 0)=zcF d C (C.length:Int) l:=by
 have y:=h.n1;have hcl:=g.len;have z:=g.le;have key:∀ (f:Nat) (t:Int) (l:List Int),(C.length - t).toNat=f->0<=t->t<=C.length->l.length=C.length->(∀ v:Int,0<=v->v < K->(∃ q:Int,0<=q/\q < t/\ix C q=v)->0<=ix l v/\ix l v < d.2.2.1.length/\ix C (ix l v)=v)->
   ∃ i,OfOk d C i K/\zcF d C t l=zcF d C (C.length:Int) i:=by
  intro f;induction f with
  | zero=>
   intro t l o t0 p c k;obtain rfl:t=C.length:=by omega
   exact ⟨l,⟨by omega,fun v a b=>by
    obtain ⟨q,j,n,e⟩:=g.sur v a b;exact k v a b ⟨q,j,by omega,e⟩⟩,rfl⟩
  | succ f x=>
   intro t l o t0 p c k;have r:=g.b t t0 (by omega);obtain ⟨i,u,w⟩:=x (t+1) (l.set (ix C t).toNat t) (by omega) (by omega) (by omega) (by rw [List.length_set];exact c) (fun v a b ⟨q,j,n,e⟩=>by
    by_cases m:v=ix C t
    ·subst m;rw [zak a (by omega)];exact ⟨t0,by omega,rfl⟩
    ·rw [zam r.1 a (Ne.symm m)];refine k v a b ⟨q,j,?_,e⟩;by_cases s:q=t
     ·subst s;exact absurd e.symm m
     ·omega)
   refine ⟨i,u,?_⟩;rw [<- w]
   conv=>lhs;rw [zix];unfold zbS
   rw [if_pos (by simp;omega)];exact G_to (by omega) (G_to (by omega) (G_to (by omega) (G_to (by omega) (G_to (by unfold fits;omega) rfl))))
 exact key _ 0 _ rfl (by omega) (by omega) (by rw [List.length_replicate]) (fun v a b ⟨q,j,n,_⟩=>by omega)
theorem zyE (h:DOk 20000 badM d):∃ o C Q K,LeastOk d o C Q K/\zgt d=some o:=by
 have y:=h.n1;obtain ⟨C,K,a,s⟩:=zvc h;obtain ⟨l,hl,t⟩:=zwl h a;have hs:=h.st;have hcl:=a.len;have p:=a.b _ hs.1 hs.2;have z:=a.le;have r:PartOk d C [d.2.1] [] []:=⟨⟨fun q j=>by rw [List.mem_singleton.1 j];exact hs,by simp,by simp,rfl⟩,by simp,rfl,fun i m b=>by simp at b;omega,fun i m b=>by simp at b;omega⟩;have hN:zy5 d C [d.2.1] ((List.replicate C.length (-1:Int)).set (ix C d.2.1).toNat 0):=by
  refine ⟨by rw [List.length_set,List.length_replicate];exact hcl,fun v c x => ?_⟩;rw [List.map_singleton];by_cases e:v=ix C d.2.1
  ·subst e;rw [zak c (by rw [List.length_replicate];omega),zmJ];rfl
  ·rw [zam p.1 c (Ne.symm e),ze2 c (by omega),zcE.2 (by simpa using e)]
 obtain ⟨o,Q,u,w⟩:=zyF h a hl _ [d.2.1] _ [] [] rfl r hN (fun k n=>by simp at n) rfl;have f:(d.1,d.2.1,d.2.2.1,d.2.2.2.1,())=d:=rfl;refine ⟨o,C,Q,K,u,?_⟩
 ·unfold zgt;rw [f];refine zaj s ?_;refine G_to (by unfold mkOK;omega) ?_;rw [Int.toNat_natCast,t,zix];unfold zbS;rw [if_neg (by simp)];refine G_to (by omega) (G_to (by omega) (G_to (by unfold fits;omega) ?_));have g:zg8 d.1 (ix C d.2.1) C d l d l ((C.length:Int)+1)=some (o,true):=w;refine zcm ?_ ?_
  ·rw [f];exact zaj g rfl
  ·rw [f];exact zaj g rfl
end
theorem ztx {d o:Dt} {C Q:List Int} {K:Nat} (g:DOk 20000 badM d) (h:LeastOk d o C Q K):∀ (w:List Int) (i q:Int),0<=i->i < Q.length->0<=q->q < d.2.2.1.length->ix C (ix Q i)=ix C q->(∀ a∈w,0<=a/\a < d.1)->
  0<=wlk o.2.2.1 i w/\wlk o.2.2.1 i w < Q.length/\ix C (ix Q (wlk o.2.2.1 i w))=ix C (wlk d.2.2.1 q w)
 | [],i,q,i0,i1,_,_,e,_=>⟨i0,i1,e⟩
 | a::w,i,q,i0,i1,q0,q1,e,hw=>by
  have c:=hw a (by simp);have l:=h.part.row i i0 (by rw [h.all];exact i1);obtain ⟨m,n,p⟩:=l.to a c.1 c.2;have j:=h.part.q.b _ (zbc i0 i1);have hs:=g.tab.stpb q0 q1 c.1 c.2;have f:=h.fin.stable _ _ j.1 j.2 q0 q1 e a c.1 c.2;exact ztx g h w (ix (ix o.2.2.1 i) a) (stp d.2.2.1 q a) m n hs.1 hs.2 (p.trans f) (fun b k=>hw b (by simp [k]))
theorem zyG {d o:Dt} {C Q:List Int} {K:Nat} (e:DOk 20000 badM d) (h:LeastOk d o C Q K) {w:List Int} (hw:∀ a∈w,0<=a/\a < d.1):0<=wlk o.2.2.1 o.2.1 w/\wlk o.2.2.1 o.2.1 w < o.2.2.1.length/\ix o.2.2.2.1 (wlk o.2.2.1 o.2.1 w)=ix d.2.2.2.1 (wlk d.2.2.1 d.2.1 w):=by
 have j:=h.part.q.z;have b:=e.st;obtain ⟨f,g,k⟩:=ztx e h w 0 d.2.1 (by omega) (by omega) b.1 b.2 (by rw [j.2]) hw;rw [h.st];refine ⟨f,by rw [h.all];exact g,?_⟩;rw [h.part.mark _ f (by rw [h.all];exact g)];have i:=h.part.q.b _ (zbc f g);have c:=e.tab.wlkb b.1 b.2 hw;exact h.fin.mark _ _ i.1 i.2 c.1 c.2 k
theorem zEk {α:Type} [Inhabited α] {l:List α} (h:l.Nodup) {i j:Int} (k:0<=i) (m:i < l.length) (n:0<=j) (o:j < l.length) (e:ix l i=ix l j):i=j:=by
 rw [zhF k m,zhF n o] at e;have key:∀ a b:Nat,(f:a < l.length)->(g:b < l.length)->a < b->l[a]≠l[b]:=fun a b f g d=>List.pairwise_iff_getElem.1 h a b f g d
 rcases Nat.lt_trichotomy i.toNat j.toNat with c | c | c
 ·exact absurd e (key _ _ (by omega) (by omega) c)
 ·omega
 ·exact absurd e.symm (key _ _ (by omega) (by omega) c)
theorem zwe {nx:Int->Int->Int} {s:Int} {l:List Int}:∀ t:Nat,∀ x∈(xRow nx s l t).1,x∈l\/∃ a:Int,0<=a/\a < t/\x=nx s a
 | 0,x,hx => .inl hx
 | t+1,x,hx=>by
  have b:=zwe (nx:=nx) (s:=s) (l:=l) t;have up:(x∈l\/∃ a:Int,0<=a/\a < t/\x=nx s a)->(x∈l\/∃ a:Int,0<=a/\a < ((t+1:Nat):Int)/\x=nx s a):=fun h=>h.imp id (fun ⟨a,a0,a1,e⟩=>⟨a,a0,by omega,e⟩)
  cases c:zbv (xRow nx s l t).1 (nx s t) with
  | some j=>rw [zmy c] at hx;exact up (b x hx)
  | none=>
   rw [zmx c] at hx;rcases List.mem_append.1 hx with hx | hx
   ·exact up (b x hx)
   ·rw [List.mem_singleton.1 hx];exact .inr ⟨t,by omega,by omega,rfl⟩
theorem zyc {nx:Int->Int->Int} {mk:Int->Int} {L:Nat} {first:Int}:∀ i:Nat,XGo nx mk L first i->∀ x∈(xSt nx mk L first i).1,∃ w:List Int,(∀ a∈w,0<=a/\a < (L:Int))/\x=w.foldl nx first
 | 0,_,x,hx=>⟨[],(fun a d=>by cases d),by simpa [xSt] using hx⟩
 | i+1,hg,x,hx=>by
  have c:=zyc i (fun k l=>hg k (by omega));have m:=hg i (by omega);rcases zwe L x hx with h | ⟨a,a0,a1,rfl⟩
  ·exact c x h
  ·obtain ⟨w,g,j⟩:=c _ (zbc (i:=(i:Int)) (by omega) (by omega));refine ⟨w++[a],fun b f=>(List.mem_append.1 f).elim (g b) (fun e=>by rw [List.mem_singleton.1 e];exact ⟨a0,a1⟩),?_⟩;rw [List.foldl_append,<- j];rfl
section
variable {d o:Dt} {C Q:List Int} {K:Nat}
theorem LeastOk.xok (a:DOk 20000 badM d) (h:LeastOk d o C Q K) {l:List Int} (hl:OfOk d C l K):XOk (nxC d C l) (mkC d l) d.1.toNat (ix C d.2.1) K (fun v=>0<=v/\v < K):=by
 have e:=a.let1;have f:=a.mkl;refine XOk.int (fun s hs=>hs) (h.fin.b _ a.st.1 a.st.2) (fun s hs t t0 g => ?_) (fun s hs => ?_)
 ·obtain ⟨b,c,_⟩:=hl.b s hs.1 hs.2;have:=a.tab.stpb b c t0 (by omega);exact h.fin.b _ this.1 this.2
 ·obtain ⟨b,c,_⟩:=hl.b s hs.1 hs.2;have:=a.mok _ (zbc b (by omega:ix l s < d.2.2.2.1.length));unfold badM at this;unfold mkC;omega
theorem LeastOk.dok (a:DOk 20000 badM d) (h:LeastOk d o C Q K):DOk 20000 badM o:=by
 obtain ⟨l,n,hl,c,e,rfl⟩:=h.by1;have b:=a.let1;have f:=a.n1;have g:=h.fin.le;exact zAS (h.xok a hl) (by omega) (by omega) c e
theorem LeastOk.reach (e:DOk 20000 badM d) (h:LeastOk d o C Q K) {q:Int} (f:0<=q) (m:q < o.2.2.1.length):∃ w:List Int,(∀ a∈w,0<=a/\a < d.1)/\wlk o.2.2.1 o.2.1 w=q:=by
 obtain ⟨l,n,hl,c,s,rfl⟩:=h.by1;have r:=e.let1;have g:=h.xok e hl;obtain ⟨t,y,i⟩:=zkh g n c;have x:=i.r;have b:q < ((xSt (nxC d C l) (mkC d l) d.1.toNat (ix C d.2.1) n).1.length:Int):=by
  have:q < ((xSt (nxC d C l) (mkC d l) d.1.toNat (ix C d.2.1) n).2.1.length:Int):=m;omega
 obtain ⟨w,j,u⟩:=zyc n c _ (zbc f b);obtain ⟨v,z,k⟩:=zsY g c s w 0 (by omega) (by omega) j;rw [i.z,<- u] at k;refine ⟨w,fun a p=>by have:=j a p;omega,?_⟩;show wlk _ 0 w=q;exact zEk t.nd v (by omega) f b k
end
inductive Star {α:Type} (R:α->α->Prop):α->α->Prop
 | refl (x:α):Star R x x
 | tail {x y z:α}:Star R x y->R y z->Star R x z
def StA (a:Au) (p x q:Int):Prop:=(p,x,q,())∈a.2.2.2.1
structure AuOk (a:Au):Prop where
 let1:1<=a.1/\a.1<=4
 n1:1<=a.2.1/\a.2.1<=300
 sl:(a.2.2.2.1.length:Int)<=40000
 sb:∀ x∈a.2.2.2.1,(0<=x.1/\x.1 < a.2.1)/\(0<=x.2.1/\x.2.1 < a.1)/\(0<=x.2.2.1/\x.2.2.1 < a.2.1)
 s:∀ q∈a.2.2.1,0<=q/\q < a.2.1
 f:∀ q∈a.2.2.2.2.1,0<=q/\q < a.2.1
 ls:(a.2.2.1.length:Int)<=300
 lf:(a.2.2.2.2.1.length:Int)<=300
theorem zx4 {l:List Int} {n:Int} (d : ¬ ztP l) (a:∀ q∈l,0<=q/\q < n) (g:0<=n):(l.length:Int)<=n:=by
 have key:∀ (k:Nat),k < l.length->(k:Int)<=ix l k:=by
  intro k;induction k with
  | zero=>intro h;exact (a _ (zbc (by omega) (by omega))).1
  | succ k f=>
   intro h;have e:=f (by omega);have b : ¬ ix l ((k+1:Nat):Int)<=ix l (((k+1:Nat):Int) - 1):=fun hh=>d ⟨((k+1:Nat):Int),by omega,by omega,hh⟩
   rw [show ((k+1:Nat):Int) - 1=(k:Int) by omega] at b;omega
 by_cases c:l.length=0
 ·omega
 ·have e:=key (l.length - 1) (by omega);have b:=(a _ (zbc (l:=l) (i:=((l.length - 1:Nat):Int)) (by omega) (by omega))).2;omega
theorem zu3 {a:Au} (h:autE a=0):AuOk a:=by
 unfold autE at h;by_cases g:a.1 < 1\/4 < a.1
 ·rw [if_pos g] at h;omega
 rw [if_neg g] at h;by_cases e:ztO a
 ·rw [if_pos e] at h;omega
 rw [if_neg e] at h;by_cases b:AOut a
 ·rw [if_pos b] at h;omega
 rw [if_neg b] at h;by_cases c:zrw a
 ·rw [if_pos c] at h;omega
 unfold ztO at e;unfold AOut at b;unfold zrw at c;have hs:∀ q∈a.2.2.1,0<=q/\q < a.2.1:=fun q d=>by
  have : ¬ noS a q:=fun hh=>b (.inl ⟨q,d,hh⟩)
  unfold noS at this;omega
 have f:∀ q∈a.2.2.2.2.1,0<=q/\q < a.2.1:=fun q d=>by
  have : ¬ noS a q:=fun hh=>b (.inr (.inl ⟨q,d,hh⟩))
  unfold noS at this;omega
 have j:1<=a.2.1/\a.2.1<=300:=by omega
 have k:=zx4 (fun hh=>c (.inl hh)) hs (by omega);have lf:=zx4 (fun hh=>c (.inr (.inl hh))) f (by omega);refine ⟨by omega,j,by omega,fun x i => ?_,hs,f,by omega,by omega⟩;have : ¬ badX a x:=fun hh=>b (.inr (.inr ⟨x,i,hh⟩))
 unfold badX noS at this;omega
def Wt (a:Au) (u:Nat->Int):Nat->Nat->Int->Int->Prop
 | 0,_,p,q=>p=q
 | m+1,s,p,q=>∃ r,StA a p (u s) r/\Wt a u m (s+1) r q
def Wf (a:Au) (u:Nat->Int) (m s:Nat) (p q:Int):Prop:=∃ i f,i < m/\f∈a.2.2.2.2.1/\Wt a u i s p f/\Wt a u (m - i) (s+i) f q
section
variable {a:Au} {u:Nat->Int} {h len:Nat}
theorem Wt.add {k:Nat}:∀ {m s:Nat} {p q:Int},Wt a u (m+k) s p q↔∃ r,Wt a u m s p r/\Wt a u k (s+m) r q
 | 0,s,p,q=>by
  rw [Nat.zero_add];exact ⟨fun hh=>⟨p,rfl,hh⟩,fun ⟨r,b,d⟩=>by cases b;exact d⟩
 | m+1,s,p,q=>by
  rw [show m+1+k=(m+k)+1 by omega];have e:s+(m+1)=s+1+m:=by omega
  constructor
  ·rintro ⟨r,b,d⟩;obtain ⟨x,f,c⟩:=Wt.add.1 d;exact ⟨x,⟨r,b,f⟩,by rw [e];exact c⟩
  ·rintro ⟨x,⟨r,b,f⟩,c⟩;rw [e] at c;exact ⟨r,b,Wt.add.2 ⟨x,f,c⟩⟩
theorem Wt.comp {m k s t:Nat} {p r q:Int} (b:Wt a u m s p r) (c:Wt a u k t r q) (e:t=s+m):Wt a u (m+k) s p q:=Wt.add.2 ⟨r,b,e ▸ c⟩
theorem Wt.snoc {m s:Nat} {p q:Int}:Wt a u (m+1) s p q↔∃ r,Wt a u m s p r/\StA a r (u (s+m)) q:=by
 rw [Wt.add];exact ⟨fun ⟨r,h1,x,h2,h3⟩=>⟨r,h1,by cases h3;exact h2⟩,fun ⟨r,h1,h2⟩=>⟨r,h1,q,h2,rfl⟩⟩
theorem Wt.shift (b:∀ t,h<=t->u (t+len)=u t):∀ {m s:Nat} {p q:Int},h<=s->(Wt a u m (s+len) p q↔Wt a u m s p q)
 | 0,s,p,q,_=>Iff.rfl
 | m+1,s,p,q,hs=>by
  show (∃ r,StA a p (u (s+len)) r/\Wt a u m (s+len+1) r q)↔(∃ r,StA a p (u s) r/\Wt a u m (s+1) r q);rw [b s hs,show s+len+1=s+1+len by omega];exact exists_congr fun r=>and_congr Iff.rfl (Wt.shift b (by omega))
theorem Wt.shifts (b:∀ t,h<=t->u (t+len)=u t) {m s:Nat} {p q:Int} (hs:h<=s):∀ k:Nat,(Wt a u m (s+k * len) p q↔Wt a u m s p q)
 | 0=>by rw [Nat.zero_mul];exact Iff.rfl
 | k+1=>by
  rw [Nat.succ_mul,<- Nat.add_assoc];exact (Wt.shift b (by omega)).trans (Wt.shifts b hs k)
def Rd (a:Au) (u:Nat->Int) (h len:Nat) (p q:Int):Prop:=Wt a u len h p q
def Rf (a:Au) (u:Nat->Int) (h len:Nat) (p q:Int):Prop:=Wf a u len h p q
theorem zsM (d:∀ t,h<=t->u (t+len)=u t) {p q:Int}:Star (Rd a u h len) p q↔∃ k,Wt a u (k * len) h p q:=by
 constructor
 ·intro hs;induction hs with
  | refl=>exact ⟨0,by rw [Nat.zero_mul];rfl⟩
  | tail _ r c=>
   obtain ⟨k,b⟩:=c;exact ⟨k+1,by rw [Nat.succ_mul];exact b.comp ((Wt.shifts d (Nat.le_refl h) k).2 r) rfl⟩
 ·rintro ⟨k,b⟩;induction k generalizing q with
  | zero=>rw [Nat.zero_mul] at b;cases b;exact .refl _
  | succ k c=>
   rw [Nat.succ_mul] at b;obtain ⟨r,e,f⟩:=Wt.add.1 b;exact (c e).tail ((Wt.shifts d (Nat.le_refl h) k).1 f)
theorem Rf.rd {p q:Int} (hh:Rf a u h len p q):Rd a u h len p q:=by
 obtain ⟨i,f,d,_,b,c⟩:=hh;have:=b.comp c rfl
 rwa [show i+(len - i)=len by omega] at this
def zm1 (a:Au) (u:Nat->Int) (h len:Nat) (q:Int):Prop:=∃ x y,Star (Rd a u h len) q x/\Rf a u h len x y/\Star (Rd a u h len) y q
def FarP (a:Au) (u:Nat->Int) (h len:Nat) (q:Int):Prop:=∃ r,(∃ q0∈a.2.2.1,Wt a u h 0 q0 r)/\Star (Rd a u h len) r q
def RefA (a:Au) (u:Nat->Int) (h len:Nat):Prop:=∃ q,FarP a u h len q/\zm1 a u h len q
def zCG (a:Au) (u:Nat->Int) (h len:Nat):Prop:=∃ q0∈a.2.2.1,∃ s f,Wt a u s 0 q0 f/\f∈a.2.2.2.2.1/\h<=s/\∃ b,1<=b/\Wt a u (b * len) s f f
theorem zBS (hl:0 < len) (e:∀ t,h<=t->u (t+len)=u t):RefA a u h len↔zCG a u h len:=by
 constructor
 ·rintro ⟨q,⟨r,⟨n,m,p⟩,hrq⟩,x,y,hqx,⟨i,f,hi,w,j,hfy⟩,hyq⟩;obtain ⟨l,Y⟩:=(zsM e).1 hrq;obtain ⟨g,I⟩:=(zsM e).1 hqx;obtain ⟨k,Z⟩:=(zsM e).1 hyq;have N:Wt a u (h+l * len) 0 n q:=p.comp Y (by omega);have O:Wt a u (h+l * len+g * len) 0 n x:=N.comp ((Wt.shifts e (Nat.le_refl h) l).2 I) (by omega);have P:Wt a u (h+l * len+g * len+i) 0 n f:=by
   refine O.comp (t:=h+(l+g) * len) ((Wt.shifts e (Nat.le_refl h) (l+g)).2 j) ?_;rw [Nat.add_mul];omega
  refine ⟨n,m,_,f,P,w,by omega,1+k+g,by omega,?_⟩;have Q:Wt a u (len - i+k * len) (h+i) f q:=hfy.comp (t:=h+1 * len) ((Wt.shifts e (Nat.le_refl h) 1).2 Z) (by omega);have R:Wt a u (len - i+k * len+g * len) (h+i) f x:=by
   refine Q.comp (t:=h+(1+k) * len) ((Wt.shifts e (Nat.le_refl h) (1+k)).2 I) ?_;rw [Nat.add_mul];omega
  have S:Wt a u (len - i+k * len+g * len+i) (h+i) f f:=by
   refine R.comp (t:=h+(1+k+g) * len) ((Wt.shifts e (Nat.le_refl h) (1+k+g)).2 j) ?_;rw [Nat.add_mul,Nat.add_mul];omega
  have E:=(Wt.shifts e (show h<=h+i by omega) (l+g)).2 S;rw [show len - i+k * len+g * len+i=(1+k+g) * len by rw [Nat.add_mul,Nat.add_mul];omega,show h+i+(l+g) * len=h+l * len+g * len+i by rw [Nat.add_mul];omega] at E;exact E
 ·rintro ⟨n,m,s,f,p,w,hs,b,hb,J⟩;obtain ⟨c,d,hd,es⟩:∃ c d,d < len/\s=h+c * len+d:=⟨(s - h) / len,(s - h) % len,Nat.mod_lt _ hl,by
   have:=Nat.div_add_mod (s - h) len;rw [Nat.mul_comm] at this;omega⟩
  subst es;obtain ⟨x,hx,j⟩:=Wt.add.1 p;obtain ⟨r,hr,o⟩:=Wt.add.1 hx;rw [Nat.zero_add] at o j;obtain ⟨b,rfl⟩:∃ L,b=L+1:=⟨b - 1,by omega⟩;rw [show (b+1) * len=(len - d)+(b * len+d) by rw [Nat.succ_mul];omega] at J;obtain ⟨y,A,B⟩:=Wt.add.1 J;obtain ⟨z,C,D⟩:=Wt.add.1 B;have F:h+c * len+d+(len - d)=h+(c+1) * len:=by rw [Nat.succ_mul];omega
  have T:h+c * len+d+(len - d)+b * len=h+(c+1+b) * len:=by rw [F,Nat.add_mul (c+1)];omega
  have U:Wt a u d h x f:=(Wt.shifts e (Nat.le_refl h) c).1 j;have V:Wt a u (len - d) (h+d) f y:=by
   refine (Wt.shifts e (show h<=h+d by omega) c).1 ?_;rw [show h+d+c * len=h+c * len+d by omega];exact A
  have W:Wt a u (b * len) h y z:=(Wt.shifts e (Nat.le_refl h) (c+1)).1 (by rw [<- F];exact C);have X:Wt a u d h z f:=(Wt.shifts e (Nat.le_refl h) (c+1+b)).1 (by rw [<- T];exact D);have H:∀ {v},Wt a u d h v f->Rf a u h len v y:=fun M=>⟨d,f,hd,w,M,V⟩
  exact ⟨y,⟨r,⟨n,m,hr⟩,((zsM e).2 ⟨c,o⟩).tail (H U).rd⟩,z,y,(zsM e).2 ⟨b,W⟩,H X,.refl y⟩
theorem StA.b (b:AuOk a) {p x q:Int} (hh:StA a p x q):(0<=p/\p < a.2.1)/\(0<=q/\q < a.2.1):=⟨(b.sb _ hh).1,(b.sb _ hh).2.2⟩
theorem Wt.b (b:AuOk a):∀ {m s:Nat} {p q:Int},Wt a u m s p q->0<=p->p < a.2.1->0<=q/\q < a.2.1
 | 0,_,_,_,h,p0,p1=>by cases h;exact ⟨p0,p1⟩
 | _+1,_,_,_,⟨_,h1,h2⟩,_,_=>Wt.b b h2 (h1.b b).2.1 (h1.b b).2.2
def nots (P:Int->Bool):Nat->Nat
 | 0=>0
 | k+1=>nots P k+(if P (k:Int)=true then 0 else 1)
theorem zuA {P Q:Int->Bool}:∀ {n:Nat},(∀ k:Int,0<=k->k < n->P k=true->Q k=true)->nots Q n<=nots P n
 | 0,_=>Nat.le_refl _
 | n+1,hh=>by
  have a:=zuA (n:=n) (fun k k0 d=>hh k k0 (by omega));have b:=hh n (by omega) (by omega);unfold nots;by_cases c:P (n:Int)=true
  ·rw [if_pos c,if_pos (b c)];exact a
  ·rw [if_neg c];split<;>omega
theorem zuB {P Q:Int->Bool}:∀ {n:Nat},(∀ k:Int,0<=k->k < n->P k=true->Q k=true)->(∃ k:Int,0<=k/\k < n/\Q k=true /\ ¬ P k=true)->nots Q n < nots P n
 | 0,_,⟨k,k0,a,_⟩=>by omega
 | n+1,hh,⟨k,k0,a,hq,hp⟩=>by
  have b:∀ k:Int,0<=k->k < n->P k=true->Q k=true:=fun k k0 a=>hh k k0 (by omega)
  unfold nots;by_cases e:k=n
  ·subst e;rw [if_pos hq,if_neg hp];have:=zuA b;omega
  ·have d:=zuB b ⟨k,k0,by omega,hq,hp⟩;have f:=hh n (by omega) (by omega);by_cases c:P (n:Int)=true
   ·rw [if_pos c,if_pos (f c)];exact d
   ·rw [if_neg c];split<;>omega
end
section
variable {a:Au} {u:Nat->Int} {h len:Nat}
theorem zrE (n:AuOk a) {B:List Bool} (H:(B.length:Int)=a.2.1) (x:Int):∃ o,zvR a B x=some o/\(o.length:Int)=a.2.1/\∀ q:Int,0<=q->q < a.2.1->(ix o q=true↔∃ p,ix B p=true/\StA a p x q):=by
 have w:=n.sl;have I:=n.n1;have key:∀ (m:Nat) (i:Int) (o:List Bool),0<=i->i+m=a.2.2.2.1.length->(o.length:Int)=a.2.1->
   (∀ q:Int,0<=q->q < a.2.1->(ix o q=true↔∃ k:Int,0<=k/\k < i/\ix B (ix a.2.2.2.1 k).1=true/\(ix a.2.2.2.1 k).2.1=x/\(ix a.2.2.2.1 k).2.2.1=q))->
   ∃ o',zo6 a B x i o=some o'/\(o'.length:Int)=a.2.1/\∀ q:Int,0<=q->q < a.2.1->(ix o' q=true↔∃ k:Int,0<=k/\k < a.2.2.2.1.length/\ix B (ix a.2.2.2.1 k).1=true/\(ix a.2.2.2.1 k).2.1=x/\(ix a.2.2.2.1 k).2.2.1=q):=by
  intro m;induction m with
  | zero=>
   intro i o r v j l;refine ⟨o,?_,j,fun q d f => ?_⟩
   ·rw [zsH];unfold zga;rw [if_neg (by simp only [decide_eq_true_eq];omega)]
   ·rw [l q d f,show i=(a.2.2.2.1.length:Int) by omega]
  | succ m u=>
   intro i o r v j l;have J:=n.sb _ (zbc r (by omega:i < a.2.2.2.1.length));have old:∀ (t:Bool),(t=true↔ix B (ix a.2.2.2.1 i).1=true/\(ix a.2.2.2.1 i).2.1=x)->∃ o',zkz a i o (zo6 a B x) t=some o'/\(o'.length:Int)=a.2.1/\∀ q:Int,0<=q->q < a.2.1->(ix o' q=true↔∃ k:Int,0<=k/\k < a.2.2.2.1.length/\ix B (ix a.2.2.2.1 k).1=true/\(ix a.2.2.2.1 k).2.1=x/\(ix a.2.2.2.1 k).2.2.1=q):=by
    intro t h;unfold zkz;cases t with
    | true=>
     have h:=h.1 rfl;rw [if_pos rfl,zab (by omega),zab (by omega),zab (by unfold fits;omega)];refine u (i+1) _ (by omega) (by omega) (by rw [List.length_set];exact j) (fun q d f => ?_);by_cases e:(ix a.2.2.2.1 i).2.2.1=q
     ·rw [e,zak d (by omega)];exact ⟨fun _=>⟨i,r,by omega,h.1,h.2,e⟩,fun _=>rfl⟩
     ·rw [zam (by omega) d e,l q d f];constructor
      ·rintro ⟨k,k0,g,b⟩;exact ⟨k,k0,by omega,b⟩
      ·rintro ⟨k,k0,g,b⟩;by_cases s:k=i
       ·rw [s] at b;exact absurd b.2.2 e
       ·exact ⟨k,k0,by omega,b⟩
    | false=>
     rw [if_neg (by decide),zab (by unfold fits;omega)];refine u (i+1) o (by omega) (by omega) j (fun q d f => ?_);rw [l q d f];constructor
     ·rintro ⟨k,k0,g,b⟩;exact ⟨k,k0,by omega,b⟩
     ·rintro ⟨k,k0,g,b⟩;by_cases s:k=i
      ·rw [s] at b;have:=h.2 ⟨b.1,b.2.1⟩;cases this
      ·exact ⟨k,k0,by omega,b⟩
   rw [zsH];unfold zga;rw [if_pos (decide_eq_true (by omega)),zab (by omega)];by_cases c:(ix a.2.2.2.1 i).2.1=x
   ·rw [if_pos (decide_eq_true c),zab (by omega)];exact old _ (by simp [c])
   ·rw [if_neg (by simpa using c)];exact old false (by simp [c])
 obtain ⟨o,e,A,C⟩:=key a.2.2.2.1.length 0 (List.replicate a.2.1.toNat false) (by omega) (by omega) (by rw [List.length_replicate];omega) (fun q d f=>by
  rw [ze2 d (by omega)];exact ⟨fun hh=>(by cases hh),fun ⟨k,k0,g,_⟩=>by omega⟩)
 refine ⟨o,by unfold zvR;rw [zab (by unfold mkOK;omega)];exact e,A,fun q d f=>(C q d f).trans ⟨?_,?_⟩⟩
 ·rintro ⟨k,k0,g,b,D,E⟩;have z:=zbc k0 g;exact ⟨_,b,by unfold StA;rw [<- D,<- E];exact z⟩
 ·rintro ⟨p,F,hs⟩;obtain ⟨k,k0,g,e⟩:=(zkq (P:=fun y=>y=(p,x,q,()))).1 ⟨_,hs,rfl⟩;exact ⟨k,k0,g,by rw [e];exact F,by rw [e],by rw [e]⟩
theorem Wf.snoc {m s:Nat} {p q:Int}:Wf a u (m+1) s p q↔∃ r,(Wf a u m s p r\/(Wt a u m s p r/\r∈a.2.2.2.2.1))/\StA a r (u (s+m)) q:=by
 constructor
 ·rintro ⟨i,f,j,b,d,e⟩;by_cases c:i=m
  ·subst c;rw [show i+1 - i=0+1 by omega] at e;obtain ⟨r,g,h⟩:=Wt.snoc.1 e;cases g;exact ⟨f,.inr ⟨d,b⟩,by rw [show s+i+0=s+i by omega] at h;exact h⟩
  ·rw [show m+1 - i=(m - i)+1 by omega] at e;obtain ⟨r,g,h⟩:=Wt.snoc.1 e;exact ⟨r,.inl ⟨i,f,by omega,b,d,g⟩,by rw [show s+i+(m - i)=s+m by omega] at h;exact h⟩
 ·rintro ⟨r,⟨i,f,j,b,d,e⟩ | ⟨d,b⟩,g⟩
  ·refine ⟨i,f,by omega,b,d,?_⟩;rw [show m+1 - i=(m - i)+1 by omega];exact Wt.snoc.2 ⟨r,e,by rw [show s+i+(m - i)=s+m by omega];exact g⟩
  ·refine ⟨m,r,by omega,b,d,?_⟩;rw [show m+1 - m=0+1 by omega];exact ⟨q,g,rfl⟩
def FinB (a:Au) (F:List Bool):Prop:=(F.length:Int)=a.2.1/\∀ q:Int,0<=q->q < a.2.1->(ix F q=true↔q∈a.2.2.2.2.1)
abbrev RB:=Bool->List Bool->List Bool->Option Bool
theorem zCz (n:AuOk a) {L F:List Bool} {loop:List Int} {i:Int} (z:FinB a F) {p:List Bool} (C:(p.length:Int)=a.2.1) {r10:Int->List Bool->List Bool->Option Bool} (O:0<=i) (P:i < loop.length) (A:loop.length<=4000000):
  ∀ (m:Nat) (k:Int) (g:List Bool),0<=k->k+m=a.2.1->(g.length:Int)=a.2.1->∃ d f,zcA a loop F i p r10 k g=r10 (i+1) d f/\(d.length:Int)=a.2.1/\(f.length:Int)=a.2.1/\
   (∀ q:Int,0<=q->q < a.2.1->(ix d q=true↔∃ r,ix p r=true/\StA a r (ix loop i) q))/\
   (∀ q:Int,0<=q->q < a.2.1->(ix f q=true↔∃ r,(ix g r=true\/(k<=r/\ix p r=true/\r∈a.2.2.2.2.1))/\StA a r (ix loop i) q)):=by
 have Q:=n.n1;have H:(a.1,a.2.1,a.2.2.1,a.2.2.2.1,a.2.2.2.2.1,())=a:=rfl;intro m;induction m with
 | zero=>
  intro k g k0 D v;obtain ⟨d,J,w,x⟩:=zrE n C (ix loop i);obtain ⟨f,M,l2,y⟩:=zrE n v (ix loop i);refine ⟨d,f,?_,w,l2,x,fun q t u=>(y q t u).trans (exists_congr fun r => ?_)⟩
  ·rw [zfx];unfold zbY;rw [if_neg (by simp only [decide_eq_true_eq];omega),zab (by omega),H];refine zaj J ?_;rw [zab (by omega)];refine zaj M ?_;rw [zab (by unfold fits;omega)]
  ·constructor
   ·rintro ⟨j,s⟩;exact ⟨.inl j,s⟩
   ·rintro ⟨j | ⟨j,_,_⟩,s⟩
    ·exact ⟨j,s⟩
    ·have:=(s.b n).1;omega
 | succ m N=>
  intro k g k0 D v;have l:∀ (b:Bool),(b=true↔ix g k=true\/(ix p k=true/\k∈a.2.2.2.2.1))->zcA a loop F i p r10 k g=zcA a loop F i p r10 (k+1) (g.set k.toNat b)->∃ d f,zcA a loop F i p r10 k g=r10 (i+1) d f/\(d.length:Int)=a.2.1/\(f.length:Int)=a.2.1/\
   (∀ q:Int,0<=q->q < a.2.1->(ix d q=true↔∃ r,ix p r=true/\StA a r (ix loop i) q))/\
   (∀ q:Int,0<=q->q < a.2.1->(ix f q=true↔∃ r,(ix g r=true\/(k<=r/\ix p r=true/\r∈a.2.2.2.2.1))/\StA a r (ix loop i) q)):=by
   intro b E e;obtain ⟨d,f,e',w,l2,x,y⟩:=N (k+1) (g.set k.toNat b) (by omega) (by omega) (by rw [List.length_set];exact v);refine ⟨d,f,e.trans e',w,l2,x,fun q t u=>(y q t u).trans (exists_congr fun r => ?_)⟩;refine and_congr_left fun hs => ?_
   have I:=(hs.b n).1;by_cases B:r=k
   ·subst B;rw [zak k0 (by omega),E];constructor
    ·rintro (j | ⟨j,_⟩)
     ·exact j.imp id (fun h=>⟨Int.le_refl _,h⟩)
     ·omega
    ·rintro (j | ⟨_,j⟩)
     ·exact .inl (.inl j)
     ·exact .inl (.inr j)
   ·rw [zam k0 I.1 (fun hh=>B hh.symm)];exact or_congr Iff.rfl (and_congr (by omega) Iff.rfl)
  by_cases c:ix g k=true
  ·refine l true (by simp [c]) ?_
   conv=>lhs;rw [zfx];unfold zbY
   rw [if_pos (decide_eq_true (by omega)),zab (by omega),zab (by omega),if_pos c,zab (by omega),zab (by omega),zab (by unfold fits;omega)]
  ·by_cases o:ix p k=true
   ·refine l (ix F k) (by rw [z.2 k k0 (by omega)];simp [c,o]) ?_;have:=z.1
    conv=>lhs;rw [zfx];unfold zbY
    rw [if_pos (decide_eq_true (by omega)),zab (by omega),zab (by omega),if_neg c,zab (by omega),zab (by omega),if_pos o,zab (by omega),zab (by omega),zab (by omega),zab (by unfold fits;omega)]
   ·refine l false (by simp [c,o]) ?_
    conv=>lhs;rw [zfx];unfold zbY
    rw [if_pos (decide_eq_true (by omega)),zab (by omega),zab (by omega),if_neg c,zab (by omega),zab (by omega),if_neg o,zab (by omega),zab (by omega),zab (by unfold fits;omega)]
theorem zCC (z:AuOk a) {p g:List Bool} (H:(p.length:Int)=a.2.1) (I:(g.length:Int)=a.2.1) {r5:RB}:∀ (m:Nat) (k:Int) (j:Bool) (P Q:List Bool),0<=k->k+m=a.2.1->(P.length:Int)=a.2.1->(Q.length:Int)=a.2.1->
  ∃ f P' o,zbd a r5 p g j k P Q=r5 f P' o/\(P'.length:Int)=a.2.1/\(o.length:Int)=a.2.1/\
   (∀ q:Int,0<=q->q < a.2.1->(ix P' q=true↔ix P q=true\/(k<=q/\ix p q=true)))/\(∀ q:Int,0<=q->q < a.2.1->(ix o q=true↔ix Q q=true\/(k<=q/\ix g q=true)))/\
   (f=true↔j=true\/∃ q:Int,k<=q/\q < a.2.1/\((ix p q=true /\ ¬ ix P q=true)\/(ix g q=true /\ ¬ ix Q q=true))):=by
 have J:=z.n1;intro m;induction m with
 | zero=>
  intro k j P Q k0 A s v;refine ⟨j,P,Q,?_,s,v,fun q h r => ?_,fun q h r => ?_,?_⟩
  ·rw [zcQ];unfold zbi;rw [if_neg (by simp only [decide_eq_true_eq];omega)]
  ·exact ⟨.inl,fun hh=>hh.elim id (fun hh=>by omega)⟩
  ·exact ⟨.inl,fun hh=>hh.elim id (fun hh=>by omega)⟩
  ·exact ⟨.inl,fun hh=>hh.elim id (fun ⟨q,h1,h2,_⟩=>by omega)⟩
 | succ m F=>
  intro k j P Q k0 A s v;have t:∀ b x,zd2 g k Q (zbd a r5 p g) b x=zbd a r5 p g b (k+1) x (Q.set k.toNat (ix Q k || ix g k)):=by
   intro b x;unfold zd2;rw [zab (by omega),zab (by omega)];by_cases c:ix Q k=true
   ·rw [if_pos c,zab (by omega),zab (by omega),zab (by unfold fits;omega),c];rfl
   ·rw [if_neg c,zab (by omega),zab (by omega),zab (by omega),zab (by omega),zab (by unfold fits;omega),Bool.eq_false_iff.2 c];rfl
  have y:∀ b,zbJ p g k P Q (zbd a r5 p g) b=zbd a r5 p g b (k+1) (P.set k.toNat (ix P k || ix p k)) (Q.set k.toNat (ix Q k || ix g k)):=by
   intro b;unfold zbJ;rw [zab (by omega),zab (by omega)];by_cases c:ix P k=true
   ·rw [if_pos c,zab (by omega),zab (by omega),t,c];rfl
   ·rw [if_neg c,zab (by omega),zab (by omega),zab (by omega),zab (by omega),t,Bool.eq_false_iff.2 c];rfl
  obtain ⟨b,u,e⟩:∃ b,(b=true↔j=true\/(ix p k=true /\ ¬ ix P k=true)\/(ix g k=true /\ ¬ ix Q k=true))/\zbd a r5 p g j k P Q=zbJ p g k P Q (zbd a r5 p g) b:=by
   by_cases d:j=true
   ·refine ⟨true,by simp [d],?_⟩;rw [zcQ];unfold zbi;rw [if_pos (decide_eq_true (by omega)),if_pos d]
   by_cases l:ix p k=true
   ·by_cases n:ix P k=true
    ·by_cases i:ix g k=true
     ·refine ⟨!(ix Q k),by simp [d,n,i],?_⟩;rw [zcQ];unfold zbi;rw [if_pos (decide_eq_true (by omega)),if_neg d,zab (by omega),zab (by omega),if_pos l,zab (by omega),zab (by omega),if_neg (by simp [n]),zab (by omega),zab (by omega),if_pos i,zab (by omega),zab (by omega)]
     ·refine ⟨false,by simp [d,n,i],?_⟩;rw [zcQ];unfold zbi;rw [if_pos (decide_eq_true (by omega)),if_neg d,zab (by omega),zab (by omega),if_pos l,zab (by omega),zab (by omega),if_neg (by simp [n]),zab (by omega),zab (by omega),if_neg i]
    ·refine ⟨true,by simp [l,n],?_⟩;rw [zcQ];unfold zbi;rw [if_pos (decide_eq_true (by omega)),if_neg d,zab (by omega),zab (by omega),if_pos l,zab (by omega),zab (by omega),if_pos (by simp [n])]
   ·by_cases i:ix g k=true
    ·refine ⟨!(ix Q k),by simp [d,l,i],?_⟩;rw [zcQ];unfold zbi;rw [if_pos (decide_eq_true (by omega)),if_neg d,zab (by omega),zab (by omega),if_neg l,zab (by omega),zab (by omega),if_pos i,zab (by omega),zab (by omega)]
    ·refine ⟨false,by simp [d,l,i],?_⟩;rw [zcQ];unfold zbi;rw [if_pos (decide_eq_true (by omega)),if_neg d,zab (by omega),zab (by omega),if_neg l,zab (by omega),zab (by omega),if_neg i]
  obtain ⟨f,P',o,e',B,l2,C,D,E⟩:=F (k+1) b (P.set k.toNat (ix P k || ix p k)) (Q.set k.toNat (ix Q k || ix g k)) (by omega) (by omega) (by rw [List.length_set];exact s) (by rw [List.length_set];exact v);have st:∀ (P p:List Bool),(P.length:Int)=a.2.1->∀ q:Int,0<=q->(ix (P.set k.toNat (ix P k || ix p k)) q=true\/(k+1<=q/\ix p q=true)↔ix P q=true\/(k<=q/\ix p q=true)):=by
   intro P p s q h;by_cases w:q=k
   ·subst w;rw [zak k0 (by omega),Bool.or_eq_true];constructor
    ·rintro ((h1 | h1) | ⟨h1,_⟩)
     ·exact .inl h1
     ·exact .inr ⟨Int.le_refl _,h1⟩
     ·omega
    ·rintro (h1 | ⟨_,h1⟩)
     ·exact .inl (.inl h1)
     ·exact .inl (.inr h1)
   ·rw [zam k0 h (fun hh=>w hh.symm)];exact or_congr Iff.rfl (and_congr (by omega) Iff.rfl)
  refine ⟨f,P',o,by rw [e,y];exact e',B,l2,fun q h r=>(C q h r).trans (st P p s q h),fun q h r=>(D q h r).trans (st Q g v q h),?_⟩;rw [E,u];constructor
  ·rintro ((h1 | h1) | ⟨q,h1,h2,h3⟩)
   ·exact .inl h1
   ·exact .inr ⟨k,Int.le_refl _,by omega,h1⟩
   ·rw [zam k0 (by omega) (by omega),zam k0 (by omega) (by omega)] at h3;exact .inr ⟨q,by omega,h2,h3⟩
  ·rintro (h1 | ⟨q,h1,h2,h3⟩)
   ·exact .inl (.inl h1)
   ·by_cases w:q=k
    ·rw [w] at h3;exact .inl (.inr h3)
    ·refine .inr ⟨q,by omega,h2,?_⟩;rw [zam k0 (by omega) (by omega),zam k0 (by omega) (by omega)];exact h3
end
section
variable {a:Au} {u:Nat->Int} {h len:Nat}
def Ms (a:Au) (B:List Bool) (x:Int):Prop:=(0<=x/\x < a.2.1)/\ix B x=true
structure RInv (a:Au) (u:Nat->Int) (h:Nat) (P Q:List Bool) (i:Nat) (p g:List Bool):Prop where
 lp:(p.length:Int)=a.2.1
 lg:(g.length:Int)=a.2.1
 p:∀ q:Int,0<=q->q < a.2.1->(ix p q=true↔∃ x,Ms a P x/\Wt a u i h x q)
 g:∀ q:Int,0<=q->q < a.2.1->(ix g q=true↔(∃ x,Ms a Q x/\Wt a u i h x q)\/∃ x,Ms a P x/\Wf a u i h x q)
theorem zCx (l:AuOk a) {F:List Bool} (C:FinB a F) {loop:List Int} (n:loop.length<=4000000) (O:loop.length=len) (hw:∀ i:Nat,i < len->ix loop (i:Int)=u (h+i)) {q:Int} (R:0<=q) (S:q < a.2.1) {P Q:List Bool} {r5:RB}:
  ∀ (m i:Nat) (p g:List Bool),i+m=len->RInv a u h P Q i p g->∃ t o,zdu a loop F q P Q r5 (i:Int) p g=(if ix o q=true then some true else zbd a r5 t o false 0 P Q)/\RInv a u h P Q len t o:=by
 intro m;induction m with
 | zero=>
  intro i p g D j;have:i=len:=by omega
  subst this;have:=j.lg;refine ⟨p,g,?_,j⟩;rw [zmb];unfold zc8;rw [if_neg (by simp only [decide_eq_true_eq];omega),zab (by omega),zab (by omega)]
 | succ m N=>
  intro i p g D j;have T:=l.n1;obtain ⟨A,B,E,H,l2,I,J⟩:=zCz l (L:=p) (i:=(i:Int)) C j.lp (loop:=loop) (r10:=zdu a loop F q P Q r5) (by omega) (by omega) n a.2.1.toNat 0 g (by omega) (by omega) j.lg;have s:=hw i (by omega);have z:RInv a u h P Q (i+1) A B:=by
   refine ⟨H,l2,fun y v w => ?_,fun y v w => ?_⟩
   ·rw [I y v w,s];constructor
    ·rintro ⟨r,f,c⟩;have b:=(c.b l).1;obtain ⟨x,e,d⟩:=(j.p r b.1 b.2).1 f;exact ⟨x,e,Wt.snoc.2 ⟨r,d,c⟩⟩
    ·rintro ⟨x,e,f⟩;obtain ⟨r,c,k⟩:=Wt.snoc.1 f;have b:=(k.b l).1;exact ⟨r,(j.p r b.1 b.2).2 ⟨x,e,c⟩,k⟩
   ·rw [J y v w,s];constructor
    ·rintro ⟨r,f,c⟩;have b:=(c.b l).1;rcases f with f | ⟨_,f,hf⟩
     ·rcases (j.g r b.1 b.2).1 f with ⟨x,e,d⟩ | ⟨x,e,d⟩
      ·exact .inl ⟨x,e,Wt.snoc.2 ⟨r,d,c⟩⟩
      ·exact .inr ⟨x,e,Wf.snoc.2 ⟨r,.inl d,c⟩⟩
     ·obtain ⟨x,e,d⟩:=(j.p r b.1 b.2).1 f;exact .inr ⟨x,e,Wf.snoc.2 ⟨r,.inr ⟨d,hf⟩,c⟩⟩
    ·rintro (⟨x,e,f⟩ | ⟨x,e,f⟩)
     ·obtain ⟨r,c,k⟩:=Wt.snoc.1 f;have b:=(k.b l).1;exact ⟨r,.inl ((j.g r b.1 b.2).2 (.inl ⟨x,e,c⟩)),k⟩
     ·obtain ⟨r,c,k⟩:=Wf.snoc.1 f;have b:=(k.b l).1;rcases c with c | ⟨c,hf⟩
      ·exact ⟨r,.inl ((j.g r b.1 b.2).2 (.inr ⟨x,e,c⟩)),k⟩
      ·exact ⟨r,.inr ⟨b.1,(j.p r b.1 b.2).2 ⟨x,e,c⟩,hf⟩,k⟩
  obtain ⟨t,o,e',M⟩:=N (i+1) A B (by omega) z;refine ⟨t,o,?_,M⟩;rw [<- e',zmb];unfold zc8;rw [if_pos (decide_eq_true (by omega)),E];rfl
open Classical in
theorem zD7 (B:AuOk a) {F:List Bool} (hF:FinB a F) {loop:List Int} (C:loop.length<=4000000) (hL:loop.length=len) (hw:∀ i:Nat,i < len->ix loop (i:Int)=u (h+i)) {q:Int} (J:0<=q) (L:q < a.2.1):
  ∀ (f:Nat) (P Q:List Bool),nots (ix P) a.2.1.toNat+nots (ix Q) a.2.1.toNat=f->(P.length:Int)=a.2.1->(Q.length:Int)=a.2.1->ix P q=true->(∀ k,Ms a P k->Star (Rd a u h len) q k)->
   (∀ k,Ms a Q k->∃ x y,Star (Rd a u h len) q x/\Rf a u h len x y/\Star (Rd a u h len) y k)->zd3 a loop F q true P Q=some (decide (zm1 a u h len q)):=by
 intro f;induction f using Nat.strongRecOn with
 | _ f l=>
 intro P Q hf Z hQ H N iQ;have hn:=B.n1;have start:RInv a u h P Q 0 P Q:=by
  refine ⟨Z,hQ,fun y D E => ?_,fun y D E => ?_⟩
  ·exact ⟨fun hh=>⟨y,⟨⟨D,E⟩,hh⟩,rfl⟩,fun ⟨x,d,e⟩=>by cases e;exact d.2⟩
  ·refine ⟨fun hh => .inl ⟨y,⟨⟨D,E⟩,hh⟩,rfl⟩,?_⟩;rintro (⟨x,d,e⟩ | ⟨x,d,i,f,hi,_⟩)
   ·cases e;exact d.2
   ·omega
 obtain ⟨p,g,e1,w⟩:=zCx B hF C hL hw J L (P:=P) (Q:=Q) (r5:=zd3 a loop F q) len 0 P Q (by omega) start;have e0:zd3 a loop F q true P Q=(if ix g q=true then some true else zbd a (zd3 a loop F q) p g false 0 P Q):=by
  rw [znr];unfold zdG;rw [if_pos rfl,zab (by unfold room;simp;omega),zab (by unfold room;simp;omega),List.nil_append,List.nil_append];exact e1
 have sg:∀ y,0<=y->y < a.2.1->ix g y=true->∃ x z,Star (Rd a u h len) q x/\Rf a u h len x z/\Star (Rd a u h len) z y:=by
  intro y D E hy;rcases (w.g y D E).1 hy with ⟨x,d,A⟩ | ⟨x,d,A⟩
  ·obtain ⟨v,z,s,m,j⟩:=iQ x d;exact ⟨v,z,s,m,j.tail A⟩
  ·exact ⟨x,y,N x d,A,.refl y⟩
 rw [e0];by_cases c:ix g q=true
 ·rw [if_pos c,decide_eq_true (show zm1 a u h len q from sg q J L c)]
 ·rw [if_neg c];obtain ⟨ag,P',V,e2,l1,l2,M,W,X⟩:=zCC B w.lp w.lg (r5:=zd3 a loop F q) a.2.1.toNat 0 false P Q (by omega) (by omega) Z hQ;rw [e2];cases ag with
  | true=>
   have j:=X.1 rfl;have mP:∀ k:Int,0<=k->k < (a.2.1.toNat:Int)->ix P k=true->ix P' k=true:=fun k k0 o b=>(M k k0 (by omega)).2 (.inl b)
   have mQ:∀ k:Int,0<=k->k < (a.2.1.toNat:Int)->ix Q k=true->ix V k=true:=fun k k0 o b=>(W k k0 (by omega)).2 (.inl b)
   have O:nots (ix P') a.2.1.toNat+nots (ix V) a.2.1.toNat < f:=by
    rcases j with j | ⟨k,k0,o,j | j⟩
    ·cases j
    ·have:=zuB mP ⟨k,k0,by omega,(M k k0 o).2 (.inr ⟨k0,j.1⟩),j.2⟩;have:=zuA mQ;omega
    ·have:=zuB mQ ⟨k,k0,by omega,(W k k0 o).2 (.inr ⟨k0,j.1⟩),j.2⟩;have:=zuA mP;omega
   refine l _ O P' V rfl l1 l2 ((M q J L).2 (.inl H)) (fun k b => ?_) (fun k b => ?_)
   ·rcases (M k b.1.1 b.1.2).1 b.2 with h4 | ⟨_,h4⟩
    ·exact N k ⟨b.1,h4⟩
    ·obtain ⟨x,d,Y⟩:=(w.p k b.1.1 b.1.2).1 h4;exact (N x d).tail Y
   ·rcases (W k b.1.1 b.1.2).1 b.2 with h4 | ⟨_,h4⟩
    ·exact iQ k ⟨b.1,h4⟩
    ·exact sg k b.1.1 b.1.2 h4
  | false=>
   have I:∀ k:Int,0<=k->k < a.2.1->(ix p k=true->ix P k=true)/\(ix g k=true->ix Q k=true):=fun k k0 o=>by
    constructor
    ·intro s;by_cases m:ix P k=true
     ·exact m
     ·have:=X.2 (.inr ⟨k,k0,o,.inl ⟨s,m⟩⟩);cases this
    ·intro s;by_cases m:ix Q k=true
     ·exact m
     ·have:=X.2 (.inr ⟨k,k0,o,.inr ⟨s,m⟩⟩);cases this
   have R : ¬ zm1 a u h len q:=by
    rintro ⟨x,y,s,m,j⟩;have S:∀ x,Star (Rd a u h len) q x->Ms a P x:=by
     intro x d;induction d with
     | refl=>exact ⟨⟨J,L⟩,H⟩
     | tail _ r l=>
      have n:=Wt.b B r l.1.1 l.1.2;exact ⟨n,(I _ n.1 n.2).1 ((w.p _ n.1 n.2).2 ⟨_,l,r⟩)⟩
    have d:=S x s;have t:=Wt.b B m.rd d.1.1 d.1.2;have T:=(w.g y t.1 t.2).2 (.inr ⟨x,d,m⟩);have U:∀ z,Star (Rd a u h len) y z->(0<=z/\z < a.2.1)/\ix g z=true:=by
     intro z hz;induction hz with
     | refl=>exact ⟨t,T⟩
     | tail _ r l=>
      have n:=Wt.b B r l.1.1 l.1.2;exact ⟨n,(w.g _ n.1 n.2).2 (.inl ⟨_,⟨l.1,(I _ l.1.1 l.1.2).2 l.2⟩,r⟩)⟩
    exact c (U q j).2
   rw [decide_eq_false R,znr];unfold zdG;rw [if_neg (by decide)]
open Classical in
theorem zy8 (f:AuOk a) {F:List Bool} (g:FinB a F) {loop:List Int} (c:loop.length<=4000000) (j:loop.length=len) (hw:∀ i:Nat,i < len->ix loop (i:Int)=u (h+i)) {q:Int} (d:0<=q) (l:q < a.2.1):zrt a loop F q=some (decide (zm1 a u h len q)):=by
 have m:=f.n1;have hl:((List.replicate a.2.1.toNat false).length:Int)=a.2.1:=by rw [List.length_replicate];omega
 unfold zrt;rw [zab (by unfold mkOK;omega),zab (by unfold mkOK;omega),zab (by omega),zab (by omega)];refine zD7 f g c j hw d l _ _ _ rfl (by rw [List.length_set];exact hl) hl (zak d (by omega)) (fun k b => ?_) (fun k b => ?_)
 ·by_cases e:k=q
  ·rw [e];exact .refl _
  ·have:=b.2;rw [zam d b.1.1 (fun hh=>e hh.symm),ze2 b.1.1 (by have:=b.1.2;omega)] at this;cases this
 ·have:=b.2;rw [ze2 b.1.1 (by have:=b.1.2;omega)] at this;cases this
end
section
variable {a:Au} {u:Nat->Int} {h len:Nat} {l:List Int×List Int×Unit}
theorem zCB (r:AuOk a) {N:List Bool} (hN:(N.length:Int)=a.2.1) {r11:Bool->List Bool->Option Bool}:∀ (m:Nat) (k:Int) (f:Bool) (P:List Bool),0<=k->k+m=a.2.1->(P.length:Int)=a.2.1->
  ∃ d P',zbh a r11 N f k P=r11 d P'/\(P'.length:Int)=a.2.1/\(∀ q:Int,0<=q->q < a.2.1->(ix P' q=true↔ix P q=true\/(k<=q/\ix N q=true)))/\
   (d=true↔f=true\/∃ q:Int,k<=q/\q < a.2.1/\ix N q=true /\ ¬ ix P q=true):=by
 have x:=r.n1;intro m;induction m with
 | zero=>
  intro k f P k0 s n;refine ⟨f,P,?_,n,fun q l p => ?_,?_⟩
  ·rw [zec];unfold zbp;rw [if_neg (by simp only [decide_eq_true_eq];omega)]
  ·exact ⟨.inl,fun hh=>hh.elim id (fun hh=>by omega)⟩
  ·exact ⟨.inl,fun hh=>hh.elim id (fun ⟨q,h1,h2,_⟩=>by omega)⟩
 | succ m w=>
  intro k f P k0 s n;have o:∀ b,zbX N k P (zbh a r11 N) b=zbh a r11 N b (k+1) (P.set k.toNat (ix P k || ix N k)):=by
   intro b;unfold zbX;rw [zab (by omega),zab (by omega)];by_cases c:ix P k=true
   ·rw [if_pos c,zab (by omega),zab (by omega),zab (by unfold fits;omega),c];rfl
   ·rw [if_neg c,zab (by omega),zab (by omega),zab (by omega),zab (by omega),zab (by unfold fits;omega),Bool.eq_false_iff.2 c];rfl
  obtain ⟨b,h,e⟩:∃ b,(b=true↔f=true\/(ix N k=true /\ ¬ ix P k=true))/\zbh a r11 N f k P=zbX N k P (zbh a r11 N) b:=by
   by_cases g:f=true
   ·refine ⟨true,by simp [g],?_⟩;rw [zec];unfold zbp;rw [if_pos (decide_eq_true (by omega)),if_pos g]
   by_cases i:ix N k=true
   ·refine ⟨!(ix P k),by simp [g,i],?_⟩;rw [zec];unfold zbp;rw [if_pos (decide_eq_true (by omega)),if_neg g,zab (by omega),zab (by omega),if_pos i,zab (by omega),zab (by omega)]
   ·refine ⟨false,by simp [g,i],?_⟩;rw [zec];unfold zbp;rw [if_pos (decide_eq_true (by omega)),if_neg g,zab (by omega),zab (by omega),if_neg i]
  obtain ⟨d,P',e',t,u,v⟩:=w (k+1) b (P.set k.toNat (ix P k || ix N k)) (by omega) (by omega) (by rw [List.length_set];exact n);refine ⟨d,P',by rw [e,o];exact e',t,fun q l p=>(u q l p).trans ?_,?_⟩
  ·by_cases j:q=k
   ·subst j;rw [zak k0 (by omega),Bool.or_eq_true];constructor
    ·rintro ((h1 | h1) | ⟨h1,_⟩)
     ·exact .inl h1
     ·exact .inr ⟨Int.le_refl _,h1⟩
     ·omega
    ·rintro (h1 | ⟨_,h1⟩)
     ·exact .inl (.inl h1)
     ·exact .inl (.inr h1)
   ·rw [zam k0 l (fun hh=>j hh.symm)];exact or_congr Iff.rfl (and_congr (by omega) Iff.rfl)
  ·rw [v,h];constructor
   ·rintro ((h1 | h1) | ⟨q,h1,h2,h3⟩)
    ·exact .inl h1
    ·exact .inr ⟨k,Int.le_refl _,by omega,h1⟩
    ·rw [zam k0 (by omega) (by omega)] at h3;exact .inr ⟨q,by omega,h2,h3⟩
   ·rintro (h1 | ⟨q,h1,h2,h3⟩)
    ·exact .inl (.inl h1)
    ·by_cases j:q=k
     ·rw [j] at h3;exact .inl (.inr h3)
     ·refine .inr ⟨q,by omega,h2,?_⟩;rw [zam k0 (by omega) (by omega)];exact h3
theorem zCA (g:AuOk a) (s:l.2.1.length<=4000000) (E:l.2.1.length=len) (hw:∀ i:Nat,i < len->ix l.2.1 (i:Int)=u (h+i)) {P:List Bool} {r11:Bool->List Bool->Option Bool}:
  ∀ (m i:Nat) (N:List Bool),i+m=len->(N.length:Int)=a.2.1->(∀ q:Int,0<=q->q < a.2.1->(ix N q=true↔∃ x,Ms a P x/\Wt a u i h x q))->
   ∃ b,zc7 a l r11 (i:Int) P N=zbh a r11 b false 0 P/\(b.length:Int)=a.2.1/\∀ q:Int,0<=q->q < a.2.1->(ix b q=true↔∃ x,Ms a P x/\Rd a u h len x q):=by
 have z:(a.1,a.2.1,a.2.2.1,a.2.2.2.1,a.2.2.2.2.1,())=a:=rfl;intro m;induction m with
 | zero=>
  intro i N y hN d;have:i=len:=by omega
  subst this;refine ⟨N,?_,hN,d⟩;rw [zjO];unfold zcd;rw [if_neg (by simp only [decide_eq_true_eq];omega)]
 | succ m D=>
  intro i N y hN d;obtain ⟨o,e,lo,A⟩:=zrE g hN (ix l.2.1 (i:Int));have j:=hw i (by omega);obtain ⟨b,e',B,C⟩:=D (i+1) o (by omega) lo (fun q v w=>by
   rw [A q v w,j];constructor
   ·rintro ⟨r,k,f⟩;have c:=(f.b g).1;obtain ⟨x,n,p⟩:=(d r c.1 c.2).1 k;exact ⟨x,n,Wt.snoc.2 ⟨r,p,f⟩⟩
   ·rintro ⟨x,n,k⟩;obtain ⟨r,f,t⟩:=Wt.snoc.1 k;have c:=(t.b g).1;exact ⟨r,(d r c.1 c.2).2 ⟨x,n,f⟩,t⟩)
  refine ⟨b,?_,B,C⟩;rw [<- e',zjO];unfold zcd;rw [if_pos (decide_eq_true (by omega)),zab (by omega),z];refine zaj e ?_;rw [zab (by unfold fits;omega)];rfl
open Classical in
theorem zCE (j:AuOk a) {F:List Bool} (p:FinB a F) (d:l.2.1.length<=4000000) (r:l.2.1.length=len) (hw:∀ i:Nat,i < len->ix l.2.1 (i:Int)=u (h+i)) {P:List Bool} (v:(P.length:Int)=a.2.1):
  ∀ (m:Nat) (k:Int),0<=k->k+m=a.2.1->zeu a l P F k=some (decide (∃ q:Int,k<=q/\Ms a P q/\zm1 a u h len q)):=by
 have t:(a.1,a.2.1,a.2.2.1,a.2.2.2.1,a.2.2.2.2.1,())=a:=rfl;have w:=j.n1;intro m;induction m with
 | zero=>
  intro k k0 s;rw [zjQ];unfold zcf;rw [if_neg (by simp only [decide_eq_true_eq];omega),decide_eq_false];rintro ⟨q,n,b,_⟩;have:=b.1;omega
 | succ m o=>
  intro k k0 s;have nx : ¬ (Ms a P k/\zm1 a u h len k)->(some (decide (∃ q:Int,k+1<=q/\Ms a P q/\zm1 a u h len q)):Option Bool)=some (decide (∃ q:Int,k<=q/\Ms a P q/\zm1 a u h len q)):=by
   intro g;refine congrArg some (decide_eq_decide.2 ⟨fun ⟨q,n,b⟩=>⟨q,by omega,b⟩,fun ⟨q,n,b⟩=>⟨q,?_,b⟩⟩);by_cases e:q=k
   ·rw [e] at b;exact absurd b g
   ·omega
  rw [zjQ];unfold zcf;rw [if_pos (decide_eq_true (by omega)),zab (by omega),zab (by omega)];by_cases c:ix P k=true
  ·rw [if_neg (by simp [c]),t];refine zaj (zy8 j p d r hw k0 (by omega)) ?_;by_cases f:zm1 a u h len k
   ·rw [if_pos (decide_eq_true f),decide_eq_true ⟨k,Int.le_refl _,⟨⟨k0,by omega⟩,c⟩,f⟩]
   ·rw [if_neg (by simpa using f),zab (by unfold fits;omega),o (k+1) (by omega) (by omega)];exact nx (fun hh=>f hh.2)
  ·rw [if_pos (by simp [c]),zab (by unfold fits;omega),o (k+1) (by omega) (by omega)];exact nx (fun hh=>c hh.1.2)
theorem zCD (o:AuOk a) {P:List Bool}:∀ (m:Nat) (k:Int) (F:List Bool),0<=k->k+m=a.2.2.2.2.1.length->(F.length:Int)=a.2.1->(∀ q:Int,0<=q->q < a.2.1->(ix F q=true↔∃ j:Int,0<=j/\j < k/\ix a.2.2.2.2.1 j=q))->
  ∃ f,zgl a l P k F=zeu a l P f 0/\FinB a f:=by
 have s:=o.lf;intro m;induction m with
 | zero=>
  intro k F k0 p h i;refine ⟨F,?_,h,fun q d g=>(i q d g).trans ?_⟩
  ·rw [zjP];unfold zce;rw [if_neg (by simp only [decide_eq_true_eq];omega)]
  ·constructor
   ·rintro ⟨j,b,n,rfl⟩;exact zbc b (by omega)
   ·intro r;obtain ⟨j,b,n,e⟩:=(zkq (P:=fun y=>y=q)).1 ⟨q,r,rfl⟩;exact ⟨j,b,by omega,e⟩
 | succ m w=>
  intro k F k0 p h i;have t:=o.f _ (zbc k0 (by omega:k < a.2.2.2.2.1.length));obtain ⟨f,e,v⟩:=w (k+1) (F.set (ix a.2.2.2.2.1 k).toNat true) (by omega) (by omega) (by rw [List.length_set];exact h) (fun q d g=>by
   by_cases c:ix a.2.2.2.2.1 k=q
   ·rw [c,zak d (by omega)];exact ⟨fun _=>⟨k,k0,by omega,c⟩,fun _=>rfl⟩
   ·rw [zam t.1 d c,i q d g];constructor
    ·rintro ⟨j,b,n,e⟩;exact ⟨j,b,by omega,e⟩
    ·rintro ⟨j,b,n,e⟩;by_cases u:j=k
     ·rw [u] at e;exact absurd e c
     ·exact ⟨j,b,by omega,e⟩)
  refine ⟨f,?_,v⟩;rw [<- e]
  conv=>lhs;rw [zjP];unfold zce
  rw [if_pos (decide_eq_true (by omega)),zab (by omega),zab (by omega),zab (by omega),zab (by unfold fits;omega)]
open Classical in
theorem zCy (d:AuOk a) (e:l.2.1.length<=4000000) (J:l.2.1.length=len) (A:0 < len) (hw:∀ i:Nat,i < len->ix l.2.1 (i:Int)=u (h+i)):
  ∀ (f:Nat) (P:List Bool),nots (ix P) a.2.1.toNat=f->(P.length:Int)=a.2.1->(∀ k,Ms a P k->FarP a u h len k)->(∀ r,(∃ m∈a.2.2.1,Wt a u h 0 m r)->Ms a P r)->
   zcu a l true P=some (decide (RefA a u h len)):=by
 have U:(a.1,a.2.1,a.2.2.1,a.2.2.2.1,a.2.2.2.2.1,())=a:=rfl;have hn:=d.n1;intro f;induction f using Nat.strongRecOn with
 | _ f ih=>
 intro P hf M s t;obtain ⟨o,W,lo,X⟩:=zrE d M (ix l.2.1 0);have C:=hw 0 A;obtain ⟨N,Y,Z,O⟩:=zCA d e J hw (P:=P) (r11:=zcu a l) (len - 1) 1 o (by omega) lo (fun q m L=>by
  rw [X q m L,show ix l.2.1 0=u (h+0) from C];constructor
  ·rintro ⟨r,c,b⟩;exact ⟨r,⟨(b.b d).1,c⟩,q,b,rfl⟩
  ·rintro ⟨x,H,r,c,b⟩;cases b;exact ⟨x,H.2,c⟩)
 obtain ⟨Q,P',e2,R,z,S⟩:=zCB d Z (r11:=zcu a l) a.2.1.toNat 0 false P (by omega) (by omega) M;have e0:zcu a l true P=zcu a l Q P':=by
  rw [<- e2,<- Y]
  conv=>lhs;rw [zjN];unfold zcc
  rw [if_pos rfl,if_pos (decide_eq_true (by omega)),zab (by omega),U];refine zaj W ?_;rw [zab (by unfold fits;omega)];rfl
 rw [e0];have V:∀ k:Int,0<=k->k < (a.2.1.toNat:Int)->ix P k=true->ix P' k=true:=fun k k0 p g=>(z k k0 (by omega)).2 (.inl g)
 have j:∀ k,Ms a P' k->FarP a u h len k:=fun k g=>by
  rcases (z k g.1.1 g.1.2).1 g.2 with h4 | ⟨_,h4⟩
  ·exact s k ⟨g.1,h4⟩
  ·obtain ⟨x,H,I⟩:=(O k g.1.1 g.1.2).1 h4;obtain ⟨r,h5,h6⟩:=s x H;exact ⟨r,h5,h6.tail I⟩
 have v:∀ r,(∃ m∈a.2.2.1,Wt a u h 0 m r)->Ms a P' r:=fun r B=>by
  have:=t r B;exact ⟨this.1,(z r this.1.1 this.1.2).2 (.inl this.2)⟩
 cases Q with
 | true=>
  rcases S.1 rfl with h3 | ⟨k,k0,p,h3⟩
  ·cases h3
  ·have D:nots (ix P') a.2.1.toNat < f:=by
    have:=zuB V ⟨k,k0,by omega,(z k k0 p).2 (.inr ⟨k0,h3.1⟩),h3.2⟩;omega
   exact ih _ D P' rfl R j v
 | false=>
  have E:∀ k:Int,0<=k->k < a.2.1->ix N k=true->ix P k=true:=fun k k0 p c=>by
   by_cases b:ix P k=true
   ·exact b
   ·have:=S.2 (.inr ⟨k,k0,p,c,b⟩);cases this
  have w:∀ k,FarP a u h len k->Ms a P' k:=by
   rintro k ⟨r,B,hs⟩;have:Ms a P k:=by
    induction hs with
    | refl=>exact t r B
    | tail _ T n=>
     have y:=Wt.b d T n.1.1 n.1.2;exact ⟨y,E _ y.1 y.2 ((O _ y.1 y.2).2 ⟨_,n,T⟩)⟩
   exact ⟨this.1,(z k this.1.1 this.1.2).2 (.inl this.2)⟩
  obtain ⟨F,e3,hF⟩:=zCD d (l:=l) (P:=P') a.2.2.2.2.1.length 0 (List.replicate a.2.1.toNat false) (by omega) (by omega) (by rw [List.length_replicate];omega) (fun q m L=>by
   rw [ze2 m (by omega)];exact ⟨fun hh=>(by cases hh),fun ⟨k,k0,p,_⟩=>by omega⟩)
  rw [zjN];unfold zcc;rw [if_neg (by decide),zab (by unfold mkOK;omega),e3,zCE d hF e J hw R a.2.1.toNat 0 (by omega) (by omega)];refine congrArg some (decide_eq_decide.2 ⟨fun ⟨q,_,c,b⟩=>⟨q,j q c,b⟩,fun ⟨q,c,b⟩=>⟨q,(w q c).1.1,w q c,b⟩⟩)
open Classical in
theorem zwg (f:AuOk a) (J:l.1.length<=4000000) (hh:l.1.length=h) (w:l.2.1.length<=4000000) (L:l.2.1.length=len) (A:0 < len) (B:∀ i:Nat,i < h->ix l.1 (i:Int)=u i) (hw:∀ i:Nat,i < len->ix l.2.1 (i:Int)=u (h+i)):
  zmM a l=some (decide (RefA a u h len)):=by
 have O:(a.1,a.2.1,a.2.2.1,a.2.2.2.1,a.2.2.2.2.1,())=a:=rfl;have W:=f.n1;have Q:=f.ls;have R:∀ (m i:Nat) (P:List Bool),i+m=h->(P.length:Int)=a.2.1->(∀ q:Int,0<=q->q < a.2.1->(ix P q=true↔∃ b∈a.2.2.1,Wt a u i 0 b q))->zhh a l (i:Int) P=some (decide (RefA a u h len)):=by
  intro m;induction m with
  | zero=>
   intro i P N n g;have:i=h:=by omega
   subst this;rw [zk2];unfold zcP;rw [if_neg (by simp only [decide_eq_true_eq];omega)];refine zCy f w L A hw _ P rfl n (fun k z => ?_) (fun r M => ?_)
   ·exact ⟨k,(g k z.1.1 z.1.2).1 z.2,.refl _⟩
   ·obtain ⟨b,p,s⟩:=M;have d:=Wt.b f s (f.s _ p).1 (f.s _ p).2;exact ⟨d,(g r d.1 d.2).2 ⟨b,p,s⟩⟩
  | succ m I=>
   intro i P N n g;obtain ⟨o,e,lo,U⟩:=zrE f n (ix l.1 (i:Int));have C:=B i (by omega);rw [zk2];unfold zcP;rw [if_pos (decide_eq_true (by omega)),zab (by omega),O];refine zaj e ?_;rw [zab (by unfold fits;omega)];refine I (i+1) o (by omega) lo (fun q b v => ?_);rw [U q b v,C];constructor
   ·rintro ⟨r,p,s⟩;have d:=(s.b f).1;obtain ⟨x,D,E⟩:=(g r d.1 d.2).1 p;exact ⟨x,D,Wt.snoc.2 ⟨r,E,by rw [Nat.zero_add];exact s⟩⟩
   ·rintro ⟨x,D,p⟩;obtain ⟨r,s,F⟩:=Wt.snoc.1 p;have d:=(F.b f).1;rw [Nat.zero_add] at F;exact ⟨r,(g r d.1 d.2).2 ⟨x,D,s⟩,F⟩
 have S:∀ (m:Nat) (k:Int) (P:List Bool),0<=k->k+m=a.2.2.1.length->(P.length:Int)=a.2.1->(∀ q:Int,0<=q->q < a.2.1->(ix P q=true↔∃ j:Int,0<=j/\j < k/\ix a.2.2.1 j=q))->zhg a l k P=some (decide (RefA a u h len)):=by
  intro m;induction m with
  | zero=>
   intro k P k0 z n g;rw [zk1];unfold zcO;rw [if_neg (by simp only [decide_eq_true_eq];omega)];refine R h 0 P (by omega) n (fun q b v=>(g q b v).trans ?_);constructor
   ·rintro ⟨j,t,H,rfl⟩;exact ⟨_,zbc t (by omega),rfl⟩
   ·rintro ⟨X,V,e⟩;cases e;obtain ⟨j,t,H,e⟩:=(zkq (P:=fun y=>y=q)).1 ⟨q,V,rfl⟩;exact ⟨j,t,by omega,e⟩
  | succ m I=>
   intro k P k0 z n g;have d:=f.s _ (zbc k0 (by omega:k < a.2.2.1.length));rw [zk1];unfold zcO;rw [if_pos (decide_eq_true (by omega)),zab (by omega),zab (by omega),zab (by omega),zab (by unfold fits;omega)];refine I (k+1) (P.set (ix a.2.2.1 k).toNat true) (by omega) (by omega) (by rw [List.length_set];exact n) (fun q b v => ?_);by_cases c:ix a.2.2.1 k=q
   ·rw [c,zak b (by omega)];exact ⟨fun _=>⟨k,k0,by omega,c⟩,fun _=>rfl⟩
   ·rw [zam d.1 b c,g q b v];constructor
    ·rintro ⟨j,t,H,e⟩;exact ⟨j,t,by omega,e⟩
    ·rintro ⟨j,t,H,e⟩;by_cases T:j=k
     ·rw [T] at e;exact absurd e c
     ·exact ⟨j,t,by omega,e⟩
 unfold zmM;rw [zab (by unfold mkOK;omega)];refine S a.2.2.1.length 0 _ (by omega) (by omega) (by rw [List.length_replicate];omega) (fun q b v => ?_);rw [ze2 b (by omega)];exact ⟨fun hh=>(by cases hh),fun ⟨k,k0,k1,_⟩=>by omega⟩
end
def RunA (a:Au) (u:Nat->Int) (r:Nat->Int):Prop:=r 0∈a.2.2.1/\∀ t,StA a (r t) (u t) (r (t+1))
def InfA (a:Au) (u:Nat->Int):Prop:=∃ r,RunA a u r/\∀ N,∃ t,N<=t/\r t∈a.2.2.2.2.1
section
variable {a:Au} {u:Nat->Int} {h len:Nat}
theorem Wt.path:∀ {m s:Nat} {p q:Int},Wt a u m s p q->∃ r:Nat->Int,r 0=p/\r m=q/\∀ i,i < m->StA a (r i) (u (s+i)) (r (i+1))
 | 0,s,p,q,hh=>⟨fun _=>p,rfl,hh,fun i b=>by omega⟩
 | m+1,s,p,q,⟨x,h1,h2⟩=>by
  obtain ⟨r,c,d,f⟩:=Wt.path h2;refine ⟨fun i=>if i=0 then p else r (i - 1),rfl,?_,fun i b => ?_⟩
  ·show (if m+1=0 then p else r (m+1 - 1))=q;rw [if_neg (by omega),Nat.add_sub_cancel];exact d
  ·show StA a (if i=0 then p else r (i - 1)) _ (if i+1=0 then p else r (i+1 - 1));rw [if_neg (by omega : ¬ i+1=0),Nat.add_sub_cancel];by_cases e:i=0
   ·subst e;rw [if_pos rfl,c];exact h1
   ·rw [if_neg e];have:=f (i - 1) (by omega);rw [show s+1+(i - 1)=s+i by omega,show i - 1+1=i by omega] at this;exact this
theorem Wt.of_run {r:Nat->Int} (b:∀ t,StA a (r t) (u t) (r (t+1))):∀ (m s:Nat),Wt a u m s (r s) (r (s+m))
 | 0,_=>rfl
 | m+1,s=>⟨r (s+1),b s,by have:=Wt.of_run b m (s+1);rwa [show s+1+m=s+(m+1) by omega] at this⟩
theorem zAq (a:∀ t,h<=t->u (t+len)=u t) {t:Nat} (b:h<=t):∀ k:Nat,u (t+k * len)=u t
 | 0=>by rw [Nat.zero_mul,Nat.add_zero]
 | k+1=>by rw [Nat.succ_mul,<- Nat.add_assoc,a _ (by omega),zAq a b k]
theorem pig {K:Nat} {f:Nat->Nat} (b:∀ i,i<=K->f i < K):∃ i j,i < j/\j<=K/\f i=f j:=by
 refine Classical.byContradiction fun a => ?_
 have d:((List.range (K+1)).map f).Nodup:=by
  rw [List.nodup_iff_pairwise_ne,List.pairwise_map];refine List.Pairwise.imp_of_mem (fun {i j} g hj hij => ?_) (List.pairwise_lt_range (n:=K+1));intro e;exact a ⟨i,j,hij,by have:=List.mem_range.1 hj;omega,e⟩
 have:=zsp (U:=List.range K) d (fun x c=>by
  obtain ⟨i,g,rfl⟩:=List.mem_map.1 c;rw [List.mem_range] at *
  exact b i (by omega))
 simp at this;omega
theorem zBP (D:AuOk a) (hl:0 < len) (O:∀ t,h<=t->u (t+len)=u t):zCG a u h len↔InfA a u:=by
 constructor
 ·rintro ⟨q0,q,s,f,w,W,hs,b,hb,x⟩;obtain ⟨r1,L,M,X⟩:=w.path;obtain ⟨v,z,Y,Z⟩:=x.path;have E:0 < b * len:=Nat.mul_pos (by omega) hl;refine ⟨fun t=>if t < s then r1 t else v ((t - s) % (b * len)),⟨?_,fun t => ?_⟩,fun N => ?_⟩
  ·show (if 0 < s then r1 0 else v ((0 - s) % (b * len)))∈_;by_cases c:0 < s
   ·rw [if_pos c,L];exact q
   ·rw [if_neg c,show (0 - s) % (b * len)=0 by rw [Nat.zero_sub,Nat.zero_mod],z];have:s=0:=by omega
    subst this;rw [<- M,L];exact q
  ·show StA a (if t < s then r1 t else v ((t - s) % (b * len))) (u t) (if t+1 < s then r1 (t+1) else v ((t+1 - s) % (b * len)));by_cases c:t < s
   ·rw [if_pos c];have:=X t c;rw [Nat.zero_add] at this;by_cases y:t+1 < s
    ·rw [if_pos y];exact this
    ·rw [if_neg y,show t+1 - s=0 by omega,Nat.zero_mod,z,<- M]
     rwa [show t+1=s by omega] at this
   ·rw [if_neg c,if_neg (by omega)];have P:=Nat.mod_lt (t - s) E;have l:=Z _ P;have A:u t=u (s+(t - s) % (b * len)):=by
     have e:t=s+(t - s) % (b * len)+((t - s) / (b * len) * b) * len:=by
      have:=Nat.mod_add_div (t - s) (b * len);rw [Nat.mul_assoc,Nat.mul_comm _ (b * len)];omega
     conv=>lhs;rw [e]
     exact zAq O (by omega) _
    rw [A];by_cases y:(t - s) % (b * len)+1 < b * len
    ·rw [show (t+1 - s) % (b * len)=(t - s) % (b * len)+1 by
      rw [show t+1 - s=(t - s)+1 by omega,Nat.add_mod,Nat.mod_eq_of_lt (a:=1) (by omega),Nat.mod_eq_of_lt y]]
     exact l
    ·have F:(t - s) % (b * len)+1=b * len:=by omega
     rw [F,Y] at l;rw [show (t+1 - s) % (b * len)=0 by
      rw [show t+1 - s=(t - s)+1 by omega,Nat.add_mod];by_cases V:b * len=1
      ·rw [V,Nat.mod_one]
      ·rw [Nat.mod_eq_of_lt (a:=1) (by omega),F,Nat.mod_self],z]
     exact l
  ·refine ⟨s+N * (b * len),?_,?_⟩
   ·have:N * 1<=N * (b * len):=Nat.mul_le_mul_left N E;omega
   ·show (if s+N * (b * len) < s then r1 (s+N * (b * len)) else v ((s+N * (b * len) - s) % (b * len)))∈_;rw [if_neg (by omega),Nat.add_sub_cancel_left,Nat.mul_mod_left,z];exact W
 ·rintro ⟨r,⟨r0,C⟩,hi⟩;have m:∀ t,0<=r t/\r t < 300:=fun t=>by
   have:=(C t).b D;have:=D.n1;omega
  let g:Nat->Nat:=fun k=>Nat.rec (Classical.choose (hi h)) (fun _ p=>Classical.choose (hi (p+1))) k
  have B:h<=g 0/\r (g 0)∈a.2.2.2.2.1:=Classical.choose_spec (hi h);have H:∀ k,g k+1<=g (k+1)/\r (g (k+1))∈a.2.2.2.2.1:=fun k=>Classical.choose_spec (hi (g k+1))
  have I:∀ j i,i < j->g i < g j:=fun j=>by
   induction j with
   | zero=>intro i d;omega
   | succ j ih=>
    intro i d;have:=(H j).1;by_cases e:i=j
    ·subst e;omega
    ·have:=ih i (by omega);omega
  have Q:∀ k,r (g k)∈a.2.2.2.2.1:=fun k=>by
   cases k with
   | zero=>exact B.2
   | succ k=>exact (H k).2
  have R:∀ k,h<=g k:=fun k=>by
   cases k with
   | zero=>exact B.1
   | succ k=>have:=I (k+1) 0 (by omega);have:=B.1;omega
  obtain ⟨i,j,d,_,e⟩:=pig (K:=300 * len) (f:=fun k=>(r (g k)).toNat * len+g k % len) (fun k _=>by
   have w:=m (g k);have x:=Nat.mod_lt (g k) hl;have h3:(r (g k)).toNat * len<=299 * len:=Nat.mul_le_mul_right len (by omega);have h4:300 * len=299 * len+len:=by omega
   show (r (g k)).toNat * len+g k % len < 300 * len;omega)
  have e:(r (g i)).toNat * len+g i % len=(r (g j)).toNat * len+g j % len:=e;have S:(r (g i)).toNat=(r (g j)).toNat:=by
   have w:((r (g i)).toNat * len+g i % len) / len=(r (g i)).toNat:=by
    rw [Nat.add_comm,Nat.add_mul_div_right _ _ hl,Nat.div_eq_of_lt (Nat.mod_lt _ hl),Nat.zero_add]
   have x:((r (g j)).toNat * len+g j % len) / len=(r (g j)).toNat:=by
    rw [Nat.add_comm,Nat.add_mul_div_right _ _ hl,Nat.div_eq_of_lt (Nat.mod_lt _ hl),Nat.zero_add]
   rw [<- w,<- x,e]
  have d2:g i % len=g j % len:=by rw [S] at e;omega
  have T:r (g i)=r (g j):=by have:=m (g i);have:=m (g j);omega
  have U:=I j i d;have J:g j - g i=(g j / len - g i / len) * len:=by
   have m1:=Nat.mod_add_div (g i) len;have m2:=Nat.mod_add_div (g j) len;rw [Nat.sub_mul,Nat.mul_comm (g j / len),Nat.mul_comm (g i / len)];omega
  have n:=Wt.of_run C (g i) 0;rw [Nat.zero_add] at n;have o:=Wt.of_run C (g j - g i) (g i);rw [show g i+(g j - g i)=g j by omega,<- T,J] at o;refine ⟨r 0,r0,g i,r (g i),n,Q i,R i,g j / len - g i / len,?_,o⟩;rcases Nat.eq_zero_or_pos (g j / len - g i / len) with h0 | h0
  ·rw [h0,Nat.zero_mul] at J;omega
  ·exact h0
end
structure Tre where
 n:Nat
 L:Nat->Int->Prop
 A:Nat->Int
structure SD where
 N:Nat
 C:Nat->Int->Prop
 P:Nat->Int
 gone:Nat->Prop
 fl:Nat->Prop
 nu:Nat->Nat
structure IsStep (E:Int->Int->Prop) (F:Int->Prop) (T:Tre) (d:SD) (T':Tre) (m:Int):Prop where
 hN:T.n<=d.N
 pOld:∀ i,i < T.n->d.P i=T.A i
 pNew:∀ i,T.n<=i->i < d.N->0<=d.P i/\d.P i < T.n
 cOld:∀ i,i < T.n->∀ q,d.C i q↔(∃ p,T.L i p/\E p q)/\(0<=d.P i->d.C (d.P i).toNat q)/\∀ k,k < i->d.P k=d.P i -> ¬ d.C k q
 cNew:∀ i,T.n<=i->i < d.N->∀ q,d.C i q↔((∃ p,T.L (d.P i).toNat p/\E p q)/\F q)/\d.C (d.P i).toNat q/\∀ k,k < i->d.P k=d.P i -> ¬ d.C k q
 new:∀ i,i < T.n->(∃ q,(∃ p,T.L i p/\E p q)/\F q)->∃ j,T.n<=j/\j < d.N/\d.P j=i
 gNot:∀ i,i < d.N->(∃ q,d.C i q)->0<=d.P i -> ¬ d.gone (d.P i).toNat -> ¬ d.fl (d.P i).toNat -> ¬ d.gone i
 gRoot:∀ i,i < d.N->(∃ q,d.C i q)->d.P i < 0 -> ¬ d.gone i
 gEmp:∀ i,i < d.N -> ¬ d.gone i->∃ q,d.C i q
 gFl:∀ i,i < d.N->0<=d.P i->d.fl (d.P i).toNat->d.gone i
 gPar:∀ i,i < d.N->0<=d.P i -> ¬ d.gone i -> ¬ d.gone (d.P i).toNat
 flU:∀ i,i < d.N->d.fl i->∀ q,d.C i q->∃ k,k < d.N/\d.P k=i/\d.C k q
 flN:∀ i,i < d.N -> ¬ d.gone i -> ¬ d.fl i->∃ q,d.C i q/\∀ k,k < d.N->d.P k=i -> ¬ d.C k q
 nuS:∀ i,i < d.N -> ¬ d.gone i->d.nu i < T'.n
 nuI:∀ i j,i < j->j < d.N -> ¬ d.gone i -> ¬ d.gone j->d.nu i < d.nu j
 nuLe:∀ i,d.nu i<=i
 nuEq:∀ i,i < d.N->(∀ j,j < i -> ¬ d.gone j)->d.nu i=i
 nuLt:∀ i j,j < i->i < d.N->d.gone j->d.nu i < i
 onto:∀ k,k < T'.n->∃ i,i < d.N /\ ¬ d.gone i/\d.nu i=k
 lab:∀ i,i < d.N -> ¬ d.gone i->∀ q,T'.L (d.nu i) q↔d.C i q
 abv:∀ i,i < d.N -> ¬ d.gone i->T'.A (d.nu i)=if 0<=d.P i then (d.nu (d.P i).toNat:Int) else -1
 mGone:∀ i,i < T.n->d.gone i->m<=2 * i+1
 mFl:∀ i,i < T.n->d.fl i -> ¬ d.gone i->m<=2 * i+2
 mIs:m=9\/(∃ i,i < T.n/\d.gone i/\m=2 * i+1)\/∃ i,i < T.n /\ ¬ d.gone i/\d.fl i/\m=2 * i+2
structure Vld (T:Tre):Prop where
 root:∀ i,i < T.n->(T.A i < 0↔i=0)
 par:∀ i,i < T.n->T.A i < i
 sub:∀ i,i < T.n->0<=T.A i->∀ q,T.L i q->T.L (T.A i).toNat q
 ne:∀ i,i < T.n->∃ q,T.L i q
 str:∀ i,i < T.n->∃ q,T.L i q/\∀ k,k < T.n->T.A k=i -> ¬ T.L k q
 dis:∀ i j,i < j->j < T.n->T.A i=T.A j->∀ q,T.L i q -> ¬ T.L j q
section
variable {E:Int->Int->Prop} {F:Int->Prop} {T T':Tre} {d:SD} {m:Int}
theorem IsStep.plt (h:IsStep E F T d T' m) (a:Vld T) {i:Nat} (b:i < d.N):d.P i < i:=by
 by_cases c:i < T.n
 ·rw [h.pOld i c];exact a.par i c
 ·have:=h.pNew i (by omega) b;omega
theorem IsStep.csub (h:IsStep E F T d T' m) {i:Nat} (b:i < d.N) (e:0<=d.P i) {q:Int} (a:d.C i q):d.C (d.P i).toNat q:=by
 by_cases c:i < T.n
 ·exact ((h.cOld i c q).1 a).2.1 e
 ·exact ((h.cNew i (by omega) b q).1 a).2.1
theorem IsStep.cdis (h:IsStep E F T d T' m) {i j:Nat} (a:i < j) (g:j < d.N) (e:d.P i=d.P j) {q:Int} (f:d.C i q) : ¬ d.C j q:=fun b=>by
 by_cases c:j < T.n
 ·exact ((h.cOld j c q).1 b).2.2 i a e f
 ·exact ((h.cNew j (by omega) g q).1 b).2.2 i a e f
theorem IsStep.vld (h:IsStep E F T d T' m) (hv:Vld T):Vld T' where
 root k hk:=by
  obtain ⟨i,hi,hg,rfl⟩:=h.onto k hk;rw [h.abv i hi hg];by_cases c:0<=d.P i
  ·rw [if_pos c];have hlt:=h.plt hv hi;have hp:(d.P i).toNat < d.N:=by omega
   have:=h.nuI (d.P i).toNat i (by omega) hi (h.gPar i hi c hg) hg;constructor
   ·intro h1;omega
   ·intro h1;omega
  ·rw [if_neg c];have hi0:i=0:=by
    by_cases c2:i < T.n
    ·exact (hv.root i c2).1 (by rw [<- h.pOld i c2];omega)
    ·have:=h.pNew i (by omega) hi;omega
   subst hi0;have:=h.nuLe 0;constructor
   ·intro _;omega
   ·intro _;omega
 par k hk:=by
  obtain ⟨i,hi,hg,rfl⟩:=h.onto k hk;rw [h.abv i hi hg];by_cases c:0<=d.P i
  ·rw [if_pos c];have hlt:=h.plt hv hi;have:=h.nuI (d.P i).toNat i (by omega) hi (h.gPar i hi c hg) hg;omega
  ·rw [if_neg c];omega
 sub k hk hk0 q hq:=by
  obtain ⟨i,hi,hg,rfl⟩:=h.onto k hk;have e:=h.abv i hi hg;by_cases c:0<=d.P i
  ·rw [if_pos c] at e;have hlt:=h.plt hv hi;rw [e,Int.toNat_natCast,h.lab _ (by omega) (h.gPar i hi c hg)];exact h.csub hi c ((h.lab i hi hg q).1 hq)
  ·rw [if_neg c] at e;omega
 ne k hk:=by
  obtain ⟨i,hi,hg,rfl⟩:=h.onto k hk;obtain ⟨q,hq⟩:=h.gEmp i hi hg;exact ⟨q,(h.lab i hi hg q).2 hq⟩
 str k hk:=by
  obtain ⟨i,hi,hg,rfl⟩:=h.onto k hk;have noKid:∀ k',k' < T'.n->T'.A k'=(d.nu i:Int)->∃ j,j < d.N /\ ¬ d.gone j/\d.nu j=k'/\d.P j=i:=fun k' hk' he=>by
   obtain ⟨j,hj,hgj,rfl⟩:=h.onto k' hk';refine ⟨j,hj,hgj,rfl,?_⟩;rw [h.abv j hj hgj] at he;by_cases c:0<=d.P j
   ·rw [if_pos c] at he;have hlt:=h.plt hv hj;have hgp:=h.gPar j hj c hgj;have he:d.nu (d.P j).toNat=d.nu i:=by omega
    have:(d.P j).toNat=i:=by
     rcases Nat.lt_trichotomy (d.P j).toNat i with g | g | g
     ·have:=h.nuI _ _ g hi hgp hg;omega
     ·exact g
     ·have:=h.nuI _ _ g (by omega) hg hgp;omega
    omega
   ·rw [if_neg c] at he;omega
  by_cases f:d.fl i
  ·obtain ⟨q,hq⟩:=h.gEmp i hi hg;refine ⟨q,(h.lab i hi hg q).2 hq,fun k' hk' he => ?_⟩;obtain ⟨j,hj,hgj,_,hp⟩:=noKid k' hk' he;exact absurd (h.gFl j hj (by omega) (by rw [hp,Int.toNat_natCast];exact f)) hgj
  ·obtain ⟨q,hq,hno⟩:=h.flN i hi hg f;refine ⟨q,(h.lab i hi hg q).2 hq,fun k' hk' he hq' => ?_⟩;obtain ⟨j,hj,hgj,rfl,hp⟩:=noKid k' hk' he;exact hno j hj hp ((h.lab j hj hgj q).1 hq')
 dis k k' hlt hk' he q hq hq':=by
  obtain ⟨i,hi,hg,rfl⟩:=h.onto k (by omega);obtain ⟨j,hj,hgj,rfl⟩:=h.onto k' hk';have hij:i < j:=by
   rcases Nat.lt_trichotomy i j with g | g | g
   ·exact g
   ·subst g;omega
   ·have:=h.nuI _ _ g hi hgj hg;omega
  rw [h.abv i hi hg,h.abv j hj hgj] at he;have hp:d.P i=d.P j:=by
   by_cases c:0<=d.P i
   ·by_cases c2:0<=d.P j
    ·rw [if_pos c,if_pos c2] at he;have h1:=h.plt hv hi;have h2:=h.plt hv hj;have g1:=h.gPar i hi c hg;have g2:=h.gPar j hj c2 hgj;have he:d.nu (d.P i).toNat=d.nu (d.P j).toNat:=by omega
     have:(d.P i).toNat=(d.P j).toNat:=by
      rcases Nat.lt_trichotomy (d.P i).toNat (d.P j).toNat with g | g | g
      ·have:=h.nuI _ _ g (by omega) g1 g2;omega
      ·exact g
      ·have:=h.nuI _ _ g (by omega) g2 g1;omega
     omega
    ·rw [if_pos c,if_neg c2] at he;omega
   ·by_cases c2:0<=d.P j
    ·rw [if_neg c,if_pos c2] at he;omega
    ·-- two roots
     have r0:∀ i,i < d.N -> ¬ 0<=d.P i->i=0:=fun i hi c=>by
      by_cases c2:i < T.n
      ·exact (hv.root i c2).1 (by rw [<- h.pOld i c2];omega)
      ·have:=h.pNew i (by omega) hi;omega
     have:=r0 i hi c;have:=r0 j hj c2;omega
  exact h.cdis hij hj hp ((h.lab i hi hg q).1 hq) ((h.lab j hj hgj q).1 hq')
end
structure Row (E:Nat->Int->Int->Prop) (F:Int->Prop) (T:Nat->Tre) (D:Nat->SD) (M:Nat->Int):Prop where
 v0:Vld (T 0)
 s:∀ t,((T t).n=0/\(T (t+1)).n=0/\M t=1)\/(0 < (T t).n/\IsStep (E t) F (T t) (D t) (T (t+1)) (M t))
section
variable {E:Nat->Int->Int->Prop} {F:Int->Prop} {T:Nat->Tre} {D:Nat->SD} {M:Nat->Int}
theorem zya {T:Tre} (h:T.n=0):Vld T:=⟨fun i a=>by omega,fun i a=>by omega,fun i a=>by omega,fun i a=>by omega,fun i a=>by omega,fun i j b c=>by omega⟩
theorem Row.v (h:Row E F T D M):∀ t,Vld (T t)
 | 0=>h.v0
 | t+1=>by
  rcases h.s t with ⟨_,a,_⟩ | ⟨_,a⟩
  ·exact zya a
  ·exact a.vld (h.v t)
inductive Pth (E:Nat->Int->Int->Prop):Nat->Int->Nat->Int->Prop
 | nil (s:Nat) (p:Int):Pth E s p s p
 | snoc {s:Nat} {p:Int} {t:Nat} {q r:Int} (h:Pth E s p t q) (e:E t q r):Pth E s p (t+1) r
def PthF (E:Nat->Int->Int->Prop) (F:Int->Prop) (s:Nat) (p:Int) (t:Nat) (q:Int):Prop:=∃ c f,s < c/\Pth E s p c f/\F f/\Pth E c f t q
theorem PthF.snoc {s:Nat} {p:Int} {t:Nat} {q r:Int} (h:PthF E F s p t q) (e:E t q r):PthF E F s p (t+1) r:=by
 obtain ⟨c,f,a,b,d,g⟩:=h;exact ⟨c,f,a,b,d,g.snoc e⟩
theorem Pth.le {s:Nat} {p:Int} {t:Nat} {q:Int} (h:Pth E s p t q):s<=t:=by
 induction h with
 | nil=>exact Nat.le_refl _
 | snoc _ _ a=>omega
theorem Row.reach (h:Row E F T D M):∀ t i,i < (T t).n->∀ q,(T t).L i q->∃ p j,j < (T 0).n/\(T 0).L j p/\Pth E 0 p t q
 | 0,i,b,q,hq=>⟨q,i,b,hq,.nil 0 q⟩
 | t+1,k,hk,q,hq=>by
  rcases h.s t with ⟨_,a,_⟩ | ⟨_,a⟩
  ·omega
  ·obtain ⟨i,b,g,rfl⟩:=a.onto k hk;have f:=(a.lab i b g q).1 hq;have:∃ j p,j < (T t).n/\(T t).L j p/\E t p q:=by
    by_cases c:i < (T t).n
    ·obtain ⟨⟨p,d,e⟩,_⟩:=(a.cOld i c q).1 f;exact ⟨i,p,c,d,e⟩
    ·obtain ⟨⟨⟨p,d,e⟩,_⟩,_⟩:=(a.cNew i (by omega) b q).1 f;have:=a.pNew i (by omega) b;exact ⟨_,p,by omega,d,e⟩
   obtain ⟨j,p,l,d,e⟩:=this;obtain ⟨m,n,o,r,s⟩:=h.reach t j l p d;exact ⟨m,n,o,r,s.snoc e⟩
def zwn (T:Nat->Tre) (D:Nat->SD) (k:Nat) (t0:Nat):Prop:=∀ t,t0<=t->k < (T t).n/\∀ j,j<=k -> ¬ (D t).gone j
theorem Row.step (h:Row E F T D M) {k t0:Nat} (hs:zwn T D k t0) {t:Nat} (c:t0<=t):IsStep (E t) F (T t) (D t) (T (t+1)) (M t)/\(D t).nu k=k/\∀ j,j<=k->(D t).nu j=j:=by
 obtain ⟨g,b⟩:=hs t c;rcases h.s t with ⟨a,_⟩ | ⟨_,a⟩
 ·omega
 ·have hN:=a.hN;exact ⟨a,a.nuEq k (by omega) (fun j d=>b j (by omega)),fun j d=>a.nuEq j (by omega) (fun e f=>b e (by omega))⟩
theorem Row.stepL (h:Row E F T D M) {k t0:Nat} (hs:zwn T D k t0) {t:Nat} (a:t0<=t) (q:Int):(T (t+1)).L k q↔(D t).C k q:=by
 obtain ⟨b,c,_⟩:=h.step hs a;have d:=(hs t a).1;have hN:=b.hN;have:=b.lab k (by omega) ((hs t a).2 k (Nat.le_refl _)) q
 rwa [c] at this
theorem Row.kid (h:Row E F T D M) {k t0:Nat} (hs:zwn T D k t0) {t:Nat} (e:t0<=t) {c:Nat} (l:c < (T (t+1)).n) (b:(T (t+1)).A c=k):∃ i,i < (D t).N /\ ¬ (D t).gone i/\(D t).nu i=c/\(D t).P i=k:=by
 obtain ⟨a,p,n⟩:=h.step hs e;have o:=(hs t e).1;have hN:=a.hN;obtain ⟨i,d,j,rfl⟩:=a.onto c l;refine ⟨i,d,j,rfl,?_⟩;rw [a.abv i d j] at b;by_cases c:0<=(D t).P i
 ·rw [if_pos c] at b;have m:=a.plt (h.v t) d;have f:=a.gPar i d c j;have b:(D t).nu ((D t).P i).toNat=k:=by omega
  have:((D t).P i).toNat=k:=by
   rcases Nat.lt_trichotomy ((D t).P i).toNat k with g | g | g
   ·have:=n _ (Nat.le_of_lt g);omega
   ·exact g
   ·have:=a.nuI _ _ g (by omega) ((hs t e).2 k (Nat.le_refl _)) f;omega
  omega
 ·rw [if_neg c] at b;omega
theorem Row.between (h:Row E F T D M) {k t0:Nat} (hs:zwn T D k t0) {s:Nat} (l:t0<=s) (v:(D s).fl k):∀ n:Nat,(∀ q,(T (s+1+n)).L k q->∃ p,(T (s+1)).L k p/\Pth E (s+1) p (s+1+n) q)/\∀ c,c < (T (s+1+n)).n->(T (s+1+n)).A c=k->∀ q,(T (s+1+n)).L c q->∃ p,(T (s+1)).L k p/\PthF E F (s+1) p (s+1+n) q:=by
 have step:∀ n,(∀ q,(T (s+1+n)).L k q->∃ p,(T (s+1)).L k p/\Pth E (s+1) p (s+1+n) q)->(∀ c,c < (T (s+1+n)).n->(T (s+1+n)).A c=k->∀ q,(T (s+1+n)).L c q->∃ p,(T (s+1)).L k p/\PthF E F (s+1) p (s+1+n) q)->
   ∀ i,i < (D (s+1+n)).N->(D (s+1+n)).P i=k->∀ q,(D (s+1+n)).C i q->∃ p,(T (s+1)).L k p/\PthF E F (s+1) p (s+1+n+1) q:=by
  intro n u x i f g q d;obtain ⟨e,_,_⟩:=h.step hs (t:=s+1+n) (by omega);by_cases c:i < (T (s+1+n)).n
  ·obtain ⟨⟨r,j,o⟩,_⟩:=(e.cOld i c q).1 d;obtain ⟨p,a,b⟩:=x i c (by rw [<- e.pOld i c];exact g) r j;exact ⟨p,a,b.snoc o⟩
  ·obtain ⟨⟨⟨r,j,o⟩,hF⟩,_⟩:=(e.cNew i (by omega) f q).1 d;rw [g,Int.toNat_natCast] at j;obtain ⟨p,a,b⟩:=u r j;exact ⟨p,a,s+1+n+1,q,by omega,b.snoc o,hF,.nil _ _⟩
 intro n;induction n with
 | zero=>
  refine ⟨fun q d=>⟨q,d,.nil _ _⟩,fun c m w => ?_⟩;obtain ⟨e,_,_⟩:=h.step hs l;obtain ⟨i,f,y,_,g⟩:=h.kid hs l m w;exact absurd (e.gFl i f (by omega) (by rw [g,Int.toNat_natCast];exact v)) y
 | succ n A=>
  obtain ⟨u,x⟩:=A;obtain ⟨e,_,_⟩:=h.step hs (t:=s+1+n) (by omega);have z:=(hs (s+1+n) (by omega)).1;refine ⟨fun q d => ?_,fun c m w q d => ?_⟩
  ·have m:=(h.stepL hs (t:=s+1+n) (by omega) q).1 d;obtain ⟨⟨r,j,o⟩,_⟩:=(e.cOld k z q).1 m;obtain ⟨p,a,b⟩:=u r j;exact ⟨p,a,b.snoc o⟩
  ·obtain ⟨i,f,y,rfl,g⟩:=h.kid hs (t:=s+1+n) (by omega) m w;exact step n u x i f g q ((e.lab i f y q).1 d)
theorem Row.flash (h:Row E F T D M) {k t0:Nat} (hs:zwn T D k t0) {s d:Nat} (l:t0<=s) (m:(D s).fl k) (v:s < d) (e:(D d).fl k) {q:Int} (w:(T (d+1)).L k q):∃ p,(T (s+1)).L k p/\PthF E F (s+1) p (d+1) q:=by
 obtain ⟨n,rfl⟩:∃ n,d=s+1+n:=⟨d - (s+1),by omega⟩;obtain ⟨y,z⟩:=h.between hs l m n;obtain ⟨f,_,_⟩:=h.step hs (t:=s+1+n) (by omega);have B:=(hs (s+1+n) (by omega)).1;have hN:=f.hN;have x:=(h.stepL hs (t:=s+1+n) (by omega) q).1 w;obtain ⟨i,A,u,g⟩:=f.flU k (by omega) e q x;by_cases c:i < (T (s+1+n)).n
 ·obtain ⟨⟨r,j,o⟩,_⟩:=(f.cOld i c q).1 g;obtain ⟨p,a,b⟩:=z i c (by rw [<- f.pOld i c];exact u) r j;exact ⟨p,a,b.snoc o⟩
 ·obtain ⟨⟨⟨r,j,o⟩,hF⟩,_⟩:=(f.cNew i (by omega) A q).1 g;rw [u,Int.toNat_natCast] at j;obtain ⟨p,a,b⟩:=y r j;exact ⟨p,a,s+1+n+1,q,by omega,b.snoc o,hF,.nil _ _⟩
open Classical in
def cnt4 (S:Int->Prop):Nat:=(if S 0 then 1 else 0)+(if S 1 then 1 else 0)+(if S 2 then 1 else 0)+(if S 3 then 1 else 0)
theorem zzl {S S':Int->Prop} (h:∀ q,S q->S' q) {q:Int} (a:S' q) (b : ¬ S q) (c:0<=q) (d:q < 4):cnt4 S < cnt4 S':=by
 have e:=h 0;have f:=h 1;have g:=h 2;have i:=h 3;unfold cnt4;have:q=0\/q=1\/q=2\/q=3:=by omega
 rcases this with rfl | rfl | rfl | rfl<;>by_cases j:S 0<;>by_cases k:S 1<;>by_cases l:S 2<;>by_cases m:S 3<;>by_cases n:S' 0<;>by_cases o:S' 1<;>by_cases p:S' 2<;>by_cases r:S' 3<;>simp_all
theorem zCP (S:Int->Prop):cnt4 S<=4:=by
 unfold cnt4;split<;>split<;>split<;>split<;>omega
theorem zBX {f:Nat->Nat} {t0:Nat} (h:∀ t,t0<=t->f (t+1)<=f t):∃ a,t0<=a/\∀ t,a<=t->f t=f a:=by
 have key:∀ (b t0:Nat),f t0<=b->(∀ t,t0<=t->f (t+1)<=f t)->∃ a,t0<=a/\∀ t,a<=t->f t=f a:=by
  intro b;induction b with
  | zero=>
   intro t0 k h;have le:∀ n,f (t0+n)<=f t0:=fun n=>by
    induction n with
    | zero=>exact Nat.le_refl _
    | succ n g=>have:=h (t0+n) (by omega);rw [<- Nat.add_assoc];omega
   exact ⟨t0,Nat.le_refl _,fun t d=>by have:=le (t - t0);rw [show t0+(t - t0)=t by omega] at this;omega⟩
  | succ b g=>
   intro t0 k h;by_cases c:∃ t,t0<=t/\f t<=b
   ·obtain ⟨t,d,e⟩:=c;obtain ⟨a,i,j⟩:=g t e (fun s hs=>h s (by omega));exact ⟨a,by omega,j⟩
   ·have all:∀ t,t0<=t->f t=b+1:=fun t d=>by
     have le:∀ n,f (t0+n)<=f t0:=fun n=>by
      induction n with
      | zero=>exact Nat.le_refl _
      | succ n g=>have:=h (t0+n) (by omega);rw [<- Nat.add_assoc];omega
     have i:=le (t - t0);rw [show t0+(t - t0)=t by omega] at i;have j : ¬ f t<=b:=fun hh=>c ⟨t,d,hh⟩
     omega
    exact ⟨t0,Nat.le_refl _,fun t d=>by rw [all t d,all t0 (Nat.le_refl _)]⟩
 exact key (f t0) t0 (Nat.le_refl _) h
structure Within (T:Nat->Tre) (D:Nat->SD) (r:Nat->Int) (k t0:Nat):Prop where
 s:zwn T D k t0
 i:∀ t,t0<=t->(T t).L k (r t)
theorem Row.deeper (h:Row E F T D M) {r:Nat->Int} (Q:∀ t,E t (r t) (r (t+1))) (hF:∀ n,∃ t,n<=t/\F (r t)) {k t0:Nat} (hw:Within T D r k t0) (R:∀ t,t0<=t -> ¬ (D t).fl k):
  ∃ c a,t0<=a/\Within T D r c a/\∀ t,a<=t->(T t).A c=k:=by
 have hs:=hw.s;have one:∀ t,t0<=t->∀ i,i < (D t).N->(D t).P i=k->(D t).C i (r (t+1)) -> ¬ (D t).gone i/\(D t).nu i < (T (t+1)).n/\(T (t+1)).A ((D t).nu i)=k/\(T (t+1)).L ((D t).nu i) (r (t+1)):=fun t b i d l p=>by
  obtain ⟨o,g2,_⟩:=h.step hs b;have w : ¬ (D t).gone i:=o.gNot i d ⟨_,p⟩ (by omega) (by rw [l,Int.toNat_natCast];exact (hs t b).2 k (Nat.le_refl _)) (by rw [l,Int.toNat_natCast];exact R t b);refine ⟨w,o.nuS i d w,?_,(o.lab i d w _).2 p⟩;rw [o.abv i d w,if_pos (by omega),l,Int.toNat_natCast,g2]
 have Y:∀ t,t0<=t->∀ c,c < (T t).n->(T t).A c=k->(T t).L c (r t)->∃ i,i<=c/\i < (D t).N/\(D t).P i=k/\(D t).C i (r (t+1)):=fun t b c p y O=>by
  obtain ⟨o,_,_⟩:=h.step hs b;have hN:=o.hN;have U:(D t).C k (r (t+1)):=(h.stepL hs b _).1 (hw.i (t+1) (by omega));by_cases e:∃ i,i < c/\(D t).P i=(D t).P c/\(D t).C i (r (t+1))
  ·obtain ⟨i,d,l,m⟩:=e;exact ⟨i,by omega,by omega,by rw [l,o.pOld c p];exact y,m⟩
  ·have l:(D t).P c=k:=by rw [o.pOld c p];exact y
   refine ⟨c,Nat.le_refl _,by omega,l,(o.cOld c p _).2 ⟨⟨r t,O,Q t⟩,fun _=>by rw [l,Int.toNat_natCast];exact U,fun i d S m=>e ⟨i,d,S,m⟩⟩⟩
 obtain ⟨a,ht1,A⟩:=hF (t0+1);obtain ⟨a,rfl⟩:∃ t,a=t+1:=⟨a - 1,by omega⟩;have first:∃ c,c < (T (a+1)).n/\(T (a+1)).A c=k/\(T (a+1)).L c (r (a+1)):=by
  have b:t0<=a:=by omega
  obtain ⟨o,g2,_⟩:=h.step hs b;have V:=(hs a b).1;have hN:=o.hN;have U:(D a).C k (r (a+1)):=(h.stepL hs b _).1 (hw.i (a+1) (by omega));obtain ⟨j,j0,j1,P⟩:=o.new k V ⟨r (a+1),⟨r a,hw.i a b,Q a⟩,A⟩;have:∃ i,i < (D a).N/\(D a).P i=k/\(D a).C i (r (a+1)):=by
   by_cases e:∃ i,i < j/\(D a).P i=(D a).P j/\(D a).C i (r (a+1))
   ·obtain ⟨i,d,l,m⟩:=e;exact ⟨i,by omega,by rw [l];exact P,m⟩
   ·exact ⟨j,j1,P,(o.cNew j j0 j1 _).2 ⟨⟨⟨r a,by rw [P,Int.toNat_natCast];exact hw.i a b,Q a⟩,A⟩,by rw [P,Int.toNat_natCast];exact U,fun i d l m=>e ⟨i,d,l,m⟩⟩⟩
  obtain ⟨i,d,l,m⟩:=this;obtain ⟨_,B,C,H⟩:=one a b i d l m;exact ⟨_,B,C,H⟩
 have next:∀ n,∃ c,c < (T (a+1+n)).n/\(T (a+1+n)).A c=k/\(T (a+1+n)).L c (r (a+1+n)):=fun n=>by
  induction n with
  | zero=>exact first
  | succ n ih=>
   obtain ⟨c,I,X,u⟩:=ih;obtain ⟨i,_,d,l,m⟩:=Y (a+1+n) (by omega) c I X u;obtain ⟨_,B,C,H⟩:=one (a+1+n) (by omega) i d l m;exact ⟨_,B,C,H⟩
 let f:Nat->Nat:=fun t=>if b:a+1<=t then Classical.choose (next (t - (a+1))) else 0
 have x:∀ t,a+1<=t->f t < (T t).n/\(T t).A (f t)=k/\(T t).L (f t) (r t):=fun t b=>by
  have p:=Classical.choose_spec (next (t - (a+1)));have e:a+1+(t - (a+1))=t:=by omega
  have Z:f t=Classical.choose (next (t - (a+1))):=dif_pos b;rw [Z];generalize Classical.choose (next (t - (a+1)))=c at p ⊢;rw [e] at p;exact p
 have z:∀ t,a+1<=t->∀ c,c < (T t).n->(T t).A c=k->(T t).L c (r t)->c=f t:=fun t b c p y O=>by
  obtain ⟨J,L,N⟩:=x t b;rcases Nat.lt_trichotomy c (f t) with g | g | g
  ·exact absurd N ((h.v t).dis _ _ g J (by rw [y,L]) _ O)
  ·exact g
  ·exact absurd O ((h.v t).dis _ _ g p (by rw [y,L]) _ N)
 have s:∀ t,a+1<=t->∃ i,i<=f t/\i < (D t).N /\ ¬ (D t).gone i/\(D t).nu i=f (t+1):=fun t b=>by
  obtain ⟨J,L,N⟩:=x t b;obtain ⟨i,I,d,l,m⟩:=Y t (by omega) _ J L N;obtain ⟨o1,B,C,H⟩:=one t (by omega) i d l m;exact ⟨i,I,d,o1,z (t+1) (by omega) _ B C H⟩
 obtain ⟨t2,ht2,q⟩:=zBX (f:=f) (t0:=a+1) (fun t b=>by
  obtain ⟨i,I,d,_,X⟩:=s t b;rcases h.s t with ⟨u,_⟩ | ⟨_,u⟩
  ·have:=(x t b).1;omega
  ·have:=u.nuLe i;omega)
 refine ⟨f t2,t2,by omega,⟨fun t b => ?_,fun t b => ?_⟩,fun t b => ?_⟩
 ·have e1:=q t b;have Z:=q (t+1) (by omega);obtain ⟨J,L,N⟩:=x t (by omega);obtain ⟨i,I,d,w,X⟩:=s t (by omega);rw [<- e1];refine ⟨J,?_⟩;rcases h.s t with ⟨u,_⟩ | ⟨_,u⟩
  ·omega
  ·have hle:=u.nuLe i;have W:i=f t:=by omega
   intro j hj v;rcases Nat.lt_or_eq_of_le hj with g | g
   ·have:=u.nuLt i j (by omega) d v;omega
   ·rw [g,<- W] at v;exact w v
 ·rw [<- q t b];exact (x t (by omega)).2.2
 ·rw [<- q t b];exact (x t (by omega)).2.1
theorem Row.finds (h:Row E F T D M) (w:∀ t p q,E t p q->0<=q/\q < 4) {r:Nat->Int} (x:∀ t,E t (r t) (r (t+1))) (A:∀ n,∃ t,n<=t/\F (r t)):∀ (d:Nat) (k t0:Nat),1<=t0->Within T D r k t0->(∀ t,t0<=t->cnt4 ((T t).L k)<=d)->
  ∃ y g,Within T D r y g/\∀ n,∃ t,n<=t/\(D t).fl y:=by
 intro d;induction d with
 | zero=>
  intro k t0 C hw j;have H:=hw.i t0 (Nat.le_refl _);have R:=j t0 (Nat.le_refl _);obtain ⟨t,rfl⟩:∃ t,t0=t+1:=⟨t0 - 1,by omega⟩;obtain ⟨J,L⟩:=w _ _ _ (x t);have:=zzl (S:=fun _=>False) (S':=(T (t+1)).L k) (fun _ h=>h.elim) H id J L;omega
 | succ d Q=>
  intro k t0 C hw j;by_cases c:∀ n,∃ t,n<=t/\(D t).fl k
  ·exact ⟨k,t0,hw,c⟩
  ·obtain ⟨n,l⟩:=Classical.not_forall.1 c;have l:∀ t,n<=t -> ¬ (D t).fl k:=fun t b i=>l ⟨t,b,i⟩
   have m:Within T D r k (max t0 n):=⟨fun t b=>hw.s t (by omega),fun t b=>hw.i t (by omega)⟩;obtain ⟨c,g,N,a,u⟩:=h.deeper x A m (fun t b=>l t (by omega));refine Q c (g+1) (by omega) ⟨fun t b=>a.s t (by omega),fun t b=>a.i t (by omega)⟩ fun t b => ?_
   have e:=(a.s t (by omega)).1;have o:=(hw.s t (by omega)).1;obtain ⟨q,z,v⟩:=(h.v t).str k o;obtain ⟨t',rfl⟩:∃ t',t=t'+1:=⟨t - 1,by omega⟩;have f:0<=q/\q < 4:=by
    obtain ⟨O,_,_⟩:=h.step hw.s (t:=t') (by
     have:=a.s;omega)
    have s:=(h.stepL hw.s (t:=t') (by omega) q).1 z;obtain ⟨⟨p,_,P⟩,_⟩:=(O.cOld k (hw.s t' (by omega)).1 q).1 s;exact w _ _ _ P
   have I:=zzl (S:=(T (t'+1)).L c) (S':=(T (t'+1)).L k) (fun p B=>by
    have:=(h.v (t'+1)).sub c e (by rw [u (t'+1) (by omega)];omega) p B
    rwa [u (t'+1) (by omega),Int.toNat_natCast] at this) z (v c e (u (t'+1) (by omega))) f.1 f.2
   have:=j (t'+1) (by omega);omega
end
def Infn (P:Nat->Prop):Prop:=∀ n,∃ t,n<=t/\P t
theorem zr9 {f:Nat->Nat}:∀ (K:Nat) {P:Nat->Prop},Infn P->(∀ t,P t->f t < K)->∃ r,r < K/\Infn (fun t=>P t/\f t=r)
 | 0,P,h,hf=>by obtain ⟨t,_,a⟩:=h 0;exact absurd (hf t a) (by omega)
 | K+1,P,h,hf=>by
  by_cases c:Infn (fun t=>P t/\f t=K)
  ·exact ⟨K,by omega,c⟩
  ·obtain ⟨N,hN⟩:=Classical.not_forall.1 c;have hN:∀ t,N<=t->P t->f t≠K:=fun t a b d=>hN ⟨t,a,b,d⟩
   obtain ⟨r,g,e⟩:=zr9 (f:=f) K (P:=fun t=>N<=t/\P t) (fun n=>by
    obtain ⟨t,a,b⟩:=h (max n N);exact ⟨t,by omega,by omega,b⟩) (fun t ⟨h1,h2⟩=>by
    have:=hf t h2;have:=hN t h1 h2;omega)
   exact ⟨r,by omega,fun n=>by obtain ⟨t,a,⟨_,b⟩,d⟩:=e n;exact ⟨t,a,b,d⟩⟩
theorem zC7 {P:Nat->Prop} (h:Infn P) (a:Nat):∃ s:Nat->Nat,a<=s 0/\(∀ i,s i < s (i+1))/\∀ i,P (s i):=by
 let g:Nat->Nat:=fun n=>Classical.choose (h n)
 have b:∀ n,n<=g n/\P (g n):=fun n=>Classical.choose_spec (h n)
 refine ⟨fun i=>Nat.rec (g a) (fun _ x=>g (x+1)) i,(b a).1,fun i => ?_,fun i => ?_⟩
 ·show _ < g (_+1);exact (b ((Nat.rec (g a) (fun _ x=>g (x+1)) i:Nat)+1)).1
 ·cases i with
  | zero=>exact (b a).2
  | succ i=>exact (b _).2
theorem zCu {s:Nat->Nat} (h:∀ i,s i < s (i+1)) {i j:Nat} (a:i < j):s i < s j:=by
 induction j with
 | zero=>omega
 | succ j b=>
  have:=h j;by_cases e:i=j
  ·subst e;exact this
  ·have:=b (by omega);omega
section
variable {E:Nat->Int->Int->Prop} {F:Int->Prop} {T:Nat->Tre} {D:Nat->SD} {M:Nat->Int}
theorem Pth.trans {s:Nat} {p:Int} {t:Nat} {q:Int} {v:Nat} {r:Int} (a:Pth E s p t q) (b:Pth E t q v r):Pth E s p v r:=by
 induction b generalizing p with
 | nil=>exact a
 | snoc _ e c=>exact (c a).snoc e
theorem PthF.pth {s:Nat} {p:Int} {t:Nat} {q:Int} (h:PthF E F s p t q):Pth E s p t q:=by
 obtain ⟨c,f,_,a,_,b⟩:=h;exact a.trans b
theorem PthF.trans {s:Nat} {p:Int} {t:Nat} {q:Int} {v:Nat} {r:Int} (a:PthF E F s p t q) (b:Pth E t q v r):PthF E F s p v r:=by
 obtain ⟨c,f,d,e,g,h⟩:=a;exact ⟨c,f,d,e,g,h.trans b⟩
def zqf (M:Nat->Int) (m:Int):Prop:=Infn (fun t=>M t=m)/\∃ n,∀ t,n<=t->m<=M t
theorem Row.even (h:Row E F T D M) {m:Int} (s:zqf M m) (C:m % 2=0):∃ k t0,zwn T D k t0/\Infn (fun t=>(D t).fl k):=by
 obtain ⟨p,n,y⟩:=s;have f:∀ t,M t=m->∃ i,i < (T t).n/\(D t).fl i/\m=2 * i+2/\IsStep (E t) F (T t) (D t) (T (t+1)) (M t):=fun t b=>by
  rcases h.s t with ⟨_,_,e⟩ | ⟨_,e⟩
  ·omega
  ·rcases e.mIs with g | ⟨i,_,_,g⟩ | ⟨i,g1,_,g3,g⟩
   ·omega
   ·omega
   ·exact ⟨i,g1,g3,by omega,e⟩
 obtain ⟨a,z,hM⟩:=p n;obtain ⟨k,q,_,H,_⟩:=f a hM;have st:∀ d,k < (T (a+d)).n/\∀ j,j<=k -> ¬ (D (a+d)).gone j:=fun d=>by
  have l:∀ t,a<=t->k < (T t).n->∀ j,j<=k -> ¬ (D t).gone j:=fun t b u j v w=>by
   have:=y t (by omega);rcases h.s t with ⟨e,_⟩ | ⟨_,e⟩
   ·omega
   ·have:=e.mGone j (by omega) w;omega
  induction d with
  | zero=>exact ⟨q,l _ (by omega) q⟩
  | succ d B=>
   have:k < (T (a+(d+1))).n:=by
    obtain ⟨I,r⟩:=B;rcases h.s (a+d) with ⟨e,_⟩ | ⟨_,e⟩
    ·omega
    ·have hN:=e.hN;have o:=e.nuS k (by omega) (r k (Nat.le_refl _));rw [e.nuEq k (by omega) (fun j v=>r j (by omega))] at o;exact o
   exact ⟨this,l _ (by omega) this⟩
 refine ⟨k,a,fun t b=>by have:=st (t - a);rwa [show a+(t - a)=t by omega] at this,fun x => ?_⟩;obtain ⟨t,b,c⟩:=p x;obtain ⟨i,_,A,e,_⟩:=f t c;have:i=k:=by omega
 subst this;exact ⟨t,b,A⟩
theorem Row.odd (h:Row E F T D M) (C:∀ t p q,E t p q->0<=q/\q < 4) (H:∀ t,(T t).n<=4) (S:(T 0).n=1) {r:Nat->Int} (I:(T 0).L 0 (r 0)) (o:∀ t,E t (r t) (r (t+1))) (J:Infn (fun t=>F (r t))) {m:Int} (L:zqf M m):m % 2=0:=by
 have a:∀ t,0 < (T t).n/\(T t).L 0 (r t):=fun t=>by
  induction t with
  | zero=>exact ⟨by omega,I⟩
  | succ t R=>
   obtain ⟨b,v⟩:=R;rcases h.s t with ⟨e,_⟩ | ⟨_,e⟩
   ·omega
   ·have hN:=e.hN;have u:(D t).P 0 < 0:=by rw [e.pOld 0 b];exact ((h.v t).root 0 b).2 rfl
    have l:(D t).C 0 (r (t+1)):=(e.cOld 0 b _).2 ⟨⟨_,v,o t⟩,fun hh=>by omega,fun k c=>by omega⟩;have f:=e.gRoot 0 (by omega) ⟨_,l⟩ u;have N:=e.nuEq 0 (by omega) (fun j s=>by omega);have y:=e.nuS 0 (by omega) f;have z:=(e.lab 0 (by omega) f (r (t+1))).2 l;rw [N] at y z;exact ⟨y,z⟩
 have hw:Within T D r 0 1:=by
  refine ⟨fun t d=>⟨(a t).1,fun j s f => ?_⟩,fun t d=>(a t).2⟩;obtain ⟨b,v⟩:=a t;have s:j=0:=by omega
  subst s;rcases h.s t with ⟨e,_⟩ | ⟨_,e⟩
  ·omega
  ·have hN:=e.hN;have u:(D t).P 0 < 0:=by rw [e.pOld 0 b];exact ((h.v t).root 0 b).2 rfl
   have l:(D t).C 0 (r (t+1)):=(e.cOld 0 b _).2 ⟨⟨_,v,o t⟩,fun hh=>by omega,fun k c=>by omega⟩;exact e.gRoot 0 (by omega) ⟨_,l⟩ u f
 obtain ⟨k,A,c,w⟩:=h.finds C o J 4 0 1 (Nat.le_refl _) hw (fun t _=>zCP _);obtain ⟨O,n,P⟩:=L;have le:m<=2 * k+2:=by
  obtain ⟨t,d,Q⟩:=w (max n A);have:=P t (by omega);obtain ⟨B,x⟩:=c.s t (by omega);rcases h.s t with ⟨e,_⟩ | ⟨_,e⟩
  ·omega
  ·have:=e.mFl k B Q (x k (Nat.le_refl _));omega
 obtain ⟨t,d,hM⟩:=O A;obtain ⟨B,x⟩:=c.s t d;have:=H t;rcases h.s t with ⟨e,_⟩ | ⟨_,e⟩
 ·omega
 ·rcases e.mIs with g | ⟨i,g1,g2,g⟩ | ⟨i,_,_,_,g⟩
  ·omega
  ·exact absurd g2 (x i (by omega))
  ·omega
end
section
variable {a:Au} {u:Nat->Int} {h len:Nat} {T:Nat->Tre} {D:Nat->SD} {M:Nat->Int}
theorem Pth.wt {s:Nat} {p:Int} {t:Nat} {q:Int} (b:Pth (fun t p q=>StA a p (u t) q) s p t q):Wt a u (t - s) s p q:=by
 induction b with
 | nil=>rw [Nat.sub_self];rfl
 | @snoc t q r h1 e ih=>
  have:=Pth.le h1;rw [show t+1 - s=(t - s)+1 by omega];exact Wt.snoc.2 ⟨q,ih,by rw [show s+(t - s)=t by omega];exact e⟩
theorem zxg (ha:AuOk a) (ha4:a.2.1<=4) (hl:0 < len) (hu:∀ t,h<=t->u (t+len)=u t) (v:Row (fun t p q=>StA a p (u t) q) (fun q=>q∈a.2.2.2.2.1) T D M) (t0:(T 0).n<=1) (l0:∀ q,0 < (T 0).n->(T 0).L 0 q->q∈a.2.2.1) {m:Int} (hm:zqf M m) (he:m % 2=0):zCG a u h len:=by
 obtain ⟨k,t1,hs,L⟩:=v.even hm he;obtain ⟨r,hr,y⟩:=zr9 (f:=fun t=>(t+1) % len) len L (fun t _=>Nat.mod_lt _ hl);obtain ⟨s,s0,n,F⟩:=zC7 y (max t1 h);have g:∀ i,s 0<=s i:=fun i=>by
  rcases Nat.eq_zero_or_pos i with c | c
  ·subst c;exact Nat.le_refl _
  ·exact Nat.le_of_lt (zCu n c)
 obtain ⟨g1,_⟩:=hs (s 4+1) (by have:=g 4;omega);obtain ⟨W,z⟩:=(v.v (s 4+1)).ne k g1;have back:∀ i q,(T (s (i+1)+1)).L k q->∃ p,(T (s i+1)).L k p/\PthF (fun t p q=>StA a p (u t) q) (fun q=>q∈a.2.2.2.2.1) (s i+1) p (s (i+1)+1) q:=fun i q H=>v.flash hs (by have:=g i;omega) (F i).1 (n i) (F (i+1)).1 H
 obtain ⟨X,A,w3⟩:=back 3 W z;obtain ⟨Y,B,w2⟩:=back 2 X A;obtain ⟨Z,C,w1⟩:=back 1 Y B;obtain ⟨q0,N,w0⟩:=back 0 Z C;have l:∀ i q,(T (s i+1)).L k q->0<=q/\q < 4:=fun i q H=>by
  obtain ⟨p,j,_,_,O⟩:=v.reach _ _ (hs (s i+1) (by have:=g i;omega)).1 q H;cases O with
  | snoc h1 e=>have:=(ha.sb _ e).2.2;simp only at this;omega
 let f:Nat->Int:=fun i=>match i with | 0=>q0 | 1=>Z | 2=>Y | 3=>X | _=>W
 have E:∀ i,i<=4->(T (s i+1)).L k (f i):=fun i o=>by
  match i,o with
  | 0,_=>exact N
  | 1,_=>exact C
  | 2,_=>exact B
  | 3,_=>exact A
  | 4,_=>exact z
 have hw:∀ i,i < 4->PthF (fun t p q=>StA a p (u t) q) (fun q=>q∈a.2.2.2.2.1) (s i+1) (f i) (s (i+1)+1) (f (i+1)):=fun i o=>by
  match i,o with
  | 0,_=>exact w0
  | 1,_=>exact w1
  | 2,_=>exact w2
  | 3,_=>exact w3
 obtain ⟨i,j,P,hj,e⟩:=pig (K:=4) (f:=fun i=>if i<=4 then (f i).toNat else 0) (fun i o=>by
  show (if i<=4 then (f i).toNat else 0) < 4;rw [if_pos o];have:=l i _ (E i o);omega)
 have e:(if i<=4 then (f i).toNat else 0)=(if j<=4 then (f j).toNat else 0):=e;rw [if_pos (by omega),if_pos (by omega)] at e;have e:f i=f j:=by have:=l i _ (E i (by omega));have:=l j _ (E j hj);omega
 have I:∀ d,i+1+d<=4->PthF (fun t p q=>StA a p (u t) q) (fun q=>q∈a.2.2.2.2.1) (s i+1) (f i) (s (i+1+d)+1) (f (i+1+d)):=fun d=>by
  induction d with
  | zero=>intro _;exact hw i (by omega)
  | succ d ih=>intro hd;exact (ih (by omega)).trans (hw (i+1+d) (by omega)).pth
 have all:=I (j - (i+1)) (by omega);rw [show i+1+(j - (i+1))=j by omega,<- e] at all;obtain ⟨c,x,hc,c1,hx,c2⟩:=all;have hc2:=c2.le;obtain ⟨Q,j0,w,R,O⟩:=v.reach _ _ (hs (s i+1) (by have:=g i;omega)).1 _ (E i (by omega));have w:j0=0:=by omega
 subst w;have S:=zCu n P;have U:(s i+1) % len=(s j+1) % len:=by rw [(F i).2,(F j).2]
 obtain ⟨b,hb⟩:∃ b,s j+1=s i+1+b * len:=by
  refine ⟨(s j+1) / len - (s i+1) / len,?_⟩;have e1:=Nat.div_add_mod (s i+1) len;have e2:=Nat.div_add_mod (s j+1) len;have:(s i+1) / len<=(s j+1) / len:=Nat.div_le_div_right (by omega);rw [Nat.sub_mul,Nat.mul_comm _ len,Nat.mul_comm _ len];have:=Nat.mul_le_mul_left len this;omega
 have b1:1<=b:=by
  rcases Nat.eq_zero_or_pos b with c | c
  ·subst c;rw [Nat.zero_mul] at hb;omega
  ·exact c
 have J:h<=s i+1:=by have:=g i;omega
 have k1:Wt a u c 0 Q x:=by
  have:=(O.trans c1).wt
  rwa [Nat.sub_zero] at this
 have k2:Wt a u (s j+1 - c) c x (f i):=c2.wt;have k3:Wt a u (c - (s i+1)) (s j+1) (f i) x:=by rw [hb];exact (Wt.shifts hu J b).2 c1.wt
 have V:=k2.comp k3 (by omega);rw [show s j+1 - c+(c - (s i+1))=b * len by omega] at V;exact ⟨Q,l0 Q (by omega) R,c,x,k1,hx,by omega,b,b1,V⟩
theorem zAC (b:AuOk a) (c:a.2.1<=4) (hl:0 < len) (d:∀ t,h<=t->u (t+len)=u t) (f:Row (fun t p q=>StA a p (u t) q) (fun q=>q∈a.2.2.2.2.1) T D M) (t0:(T 0).n<=1) (g:∀ q,0 < (T 0).n->((T 0).L 0 q↔q∈a.2.2.1)) (k:∀ q∈a.2.2.1,0 < (T 0).n) (l:∀ t,(T t).n<=4) {m:Int} (i:zqf M m):m % 2=0↔RefA a u h len:=by
 rw [zBS hl d];constructor
 ·exact zxg b c hl d f t0 (fun q n hh=>(g q n).1 hh) i
 ·intro hh;obtain ⟨r,⟨j,o⟩,hF⟩:=(zBP b hl d).1 hh;have:=k _ j;exact f.odd (fun t p q e=>by have:=(b.sb _ e).2.2;simp only at this;omega) l (by omega) ((g _ this).2 j) o hF i
end
def B4 (s:Int):Prop:=0<=s/\s < 16
def bt (s q:Int):Prop:=(0<=q/\q < 4)/\iand .i64 (ishr .i64 s q) 1=1
instance (s:Int):Decidable (B4 s):=by unfold B4;infer_instance
instance (s q:Int):Decidable (bt s q):=by unfold bt;infer_instance
theorem zqi {s:Int} (h:B4 s):∃ x:Fin 16,s=(x.val:Int):=⟨⟨s.toNat,by have:=h.2;have:=h.1;omega⟩,by have:=h.1;show s=(s.toNat:Int);omega⟩
theorem zu8 {P:Int->Prop} (h:∀ q:Fin 4,P (q.val:Int)) (a:∀ q,¬ (0<=q/\q < 4)->P q) (q:Int):P q:=by
 by_cases c:0<=q/\q < 4
 ·have:=h ⟨q.toNat,by omega⟩
  rwa [show (((⟨q.toNat,by omega⟩:Fin 4).val:Nat):Int)=q from by show ((q.toNat:Nat):Int)=q;omega] at this
 ·exact a q c
theorem zzd:∀ x y:Fin 16,B4 (ior .i64 (x.val:Int) (y.val:Int))/\∀ q:Fin 4,(bt (ior .i64 (x.val:Int) (y.val:Int)) (q.val:Int)↔bt (x.val:Int) (q.val:Int)\/bt (y.val:Int) (q.val:Int)):=by decide+kernel
theorem zyg:∀ x y:Fin 16,B4 (iand .i64 (x.val:Int) (y.val:Int))/\∀ q:Fin 4,(bt (iand .i64 (x.val:Int) (y.val:Int)) (q.val:Int)↔bt (x.val:Int) (q.val:Int)/\bt (y.val:Int) (q.val:Int)):=by decide+kernel
theorem zwr:∀ x y:Fin 16,B4 (zwW .i64 (x.val:Int) (y.val:Int))/\∀ q:Fin 4,(bt (zwW .i64 (x.val:Int) (y.val:Int)) (q.val:Int)↔bt (x.val:Int) (q.val:Int) /\ ¬ bt (y.val:Int) (q.val:Int)):=by decide+kernel
theorem zyi:∀ x y:Fin 16,(∀ q:Fin 4,(bt (x.val:Int) (q.val:Int)↔bt (y.val:Int) (q.val:Int)))->x=y:=by decide+kernel
theorem zyh:∀ p:Fin 4,B4 (ishl .i64 1 (p.val:Int))/\∀ q:Fin 4,(bt (ishl .i64 1 (p.val:Int)) (q.val:Int)↔q=p):=by decide+kernel
theorem zws:∀ q:Fin 4,¬ bt 0 (q.val:Int):=by decide+kernel
section
variable {s t:Int}
theorem zA2 (hs:B4 s) (b:B4 t):B4 (ior .i64 s t)/\∀ q,bt (ior .i64 s t) q↔bt s q\/bt t q:=by
 obtain ⟨x,rfl⟩:=zqi hs;obtain ⟨y,rfl⟩:=zqi b;obtain ⟨c,d⟩:=zzd x y;exact ⟨c,zu8 (P:=fun q=>_↔_) d (fun q a=>⟨fun h=>absurd h.1 a,fun h=>h.elim (fun h=>absurd h.1 a) (fun h=>absurd h.1 a)⟩)⟩
theorem zxs (hs:B4 s) (b:B4 t):B4 (iand .i64 s t)/\∀ q,bt (iand .i64 s t) q↔bt s q/\bt t q:=by
 obtain ⟨x,rfl⟩:=zqi hs;obtain ⟨y,rfl⟩:=zqi b;obtain ⟨c,d⟩:=zyg x y;exact ⟨c,zu8 (P:=fun q=>_↔_) d (fun q a=>⟨fun h=>absurd h.1 a,fun h=>absurd h.1.1 a⟩)⟩
theorem zCL (hs:B4 s) (b:B4 t):B4 (zwW .i64 s t)/\∀ q,bt (zwW .i64 s t) q↔bt s q /\ ¬ bt t q:=by
 obtain ⟨x,rfl⟩:=zqi hs;obtain ⟨y,rfl⟩:=zqi b;obtain ⟨c,d⟩:=zwr x y;exact ⟨c,zu8 (P:=fun q=>_↔_) d (fun q a=>⟨fun h=>absurd h.1 a,fun h=>absurd h.1.1 a⟩)⟩
theorem zzc (hs:B4 s) (a:B4 t) (h:∀ q,bt s q↔bt t q):s=t:=by
 obtain ⟨x,rfl⟩:=zqi hs;obtain ⟨y,rfl⟩:=zqi a;rw [zyi x y (fun q=>h _)]
theorem zdS:B4 0/\∀ q,¬ bt 0 q:=⟨by decide,zu8 (P:=fun q => ¬ bt 0 q) zws (fun q a h=>a h.1)⟩
theorem zCe {p:Int} (d:0<=p) (e:p < 4):B4 (ishl .i64 1 p)/\∀ q,bt (ishl .i64 1 p) q↔q=p:=by
 obtain ⟨x,rfl⟩:∃ x:Fin 4,p=(x.val:Int):=⟨⟨p.toNat,by omega⟩,by show p=(p.toNat:Int);omega⟩;obtain ⟨b,c⟩:=zyh x;refine ⟨b,zu8 (P:=fun q=>_↔_) (fun q=>(c q).trans ⟨fun h=>by rw [h],fun h=>Fin.ext (by omega)⟩) (fun q a=>⟨fun h=>absurd h.1 a,fun h=>absurd (by rw [h];omega) a⟩)⟩
theorem zu4 (hs:B4 s) : ¬ s=0↔∃ q,bt s q:=by
 constructor
 ·intro h;refine Classical.byContradiction fun b=>h (zzc hs zdS.1 fun q=>⟨fun a=>absurd ⟨q,a⟩ b,fun a=>absurd a (zdS.2 q)⟩)
 ·rintro ⟨q,a⟩ rfl;exact zdS.2 q a
end
theorem zmd {l:List Int} (hl:l.length<=4000000) (o:∀ q∈l,0<=q/\q < 4):∃ s,zhp l=some s/\B4 s/\∀ q,bt s q↔q∈l:=by
 have key:∀ (n:Nat) (t s:Int),(l.length - t).toNat=n->0<=t->t<=l.length->B4 s->(∀ q,bt s q↔∃ k:Int,0<=k/\k < t/\ix l k=q)->∃ d,zhi l s t=some d/\B4 d/\∀ q,bt d q↔q∈l:=by
  intro n;induction n with
  | zero=>
   intro t s p t0 r hs i;obtain rfl:t=l.length:=by omega
   refine ⟨s,?_,hs,fun q=>(i q).trans ?_⟩
   ·rw [zk5];unfold zcS;rw [if_neg (by simp)]
   ·have:=zkq (l:=l) (P:=fun x=>x=q);constructor
    ·rintro ⟨k,f,g,j⟩;rw [<- j];exact zbc f g
    ·intro h;obtain ⟨k,f,g,j⟩:=this.1 ⟨q,h,rfl⟩;exact ⟨k,f,g,j⟩
  | succ n z=>
   intro t s p t0 r hs i;have m:=o _ (zbc (l:=l) t0 (by omega));obtain ⟨u,v⟩:=zCe m.1 m.2;obtain ⟨w,y⟩:=zA2 hs u;obtain ⟨d,e,f,g⟩:=z (t+1) _ (by omega) (by omega) (by omega) w (fun q=>by
    rw [y,v,i];constructor
    ·rintro (⟨k,a,b,c⟩ | h)
     ·exact ⟨k,a,by omega,c⟩
     ·exact ⟨t,t0,by omega,h.symm⟩
    ·rintro ⟨k,a,b,c⟩;by_cases e:k=t
     ·rw [e] at c;exact .inr c.symm
     ·exact .inl ⟨k,a,by omega,c⟩)
   refine ⟨d,?_,f,g⟩;rw [zk5];unfold zcS;rw [if_pos (by simp;omega),zab (by omega),zab (by omega),zab (by unfold fits;omega)];exact e
 unfold zhp;exact key _ 0 0 rfl (by omega) (by omega) zdS.1 (fun q=>⟨fun h=>absurd h (zdS.2 q),fun ⟨k,a,b,_⟩=>by omega⟩)
abbrev Nd:=Int×Int×Bool×Bool×Bool×Unit
structure NdOk (l:List Nd):Prop where
 len:l.length<=12
 b:∀ k:Int,0<=k->k < l.length->B4 (ix l k).1
 p:∀ k:Int,0<=k->k < l.length->(ix l k).2.1 < k
theorem zA5 {t:Int} {r1:Int->List Nd->Option (List Nd)} {l:List Nd} (hl:l.length<=12) (t0:0<=t) (w:t < l.length) (A:∀ k:Int,0<=k->k < l.length->B4 (ix l k).1):∀ (n:Nat) (j:Int) (x:Int),(t - j).toNat=n->0<=j->j<=t->B4 x->
  ∃ y,B4 y/\(∀ q,bt y q↔bt x q/\∀ i:Int,j<=i->i < t->(ix l i).2.1=(ix l t).2.1 -> ¬ bt (ix l i).1 q)/\
   zcB t r1 j (l.set t.toNat (x,(ix l t).2))=r1 (t+1) (l.set t.toNat (y,(ix l t).2.1,(ix l t).2.2.1,decide (y=0),(ix l t).2.2.2.2)):=by
 intro n;induction n with
 | zero=>
  intro j x B p C m;refine ⟨x,m,fun q=>⟨fun h=>⟨h,fun i a b=>by omega⟩,fun h=>h.1⟩,?_⟩;rw [zjZ];unfold zcg;have f:(l.set t.toNat (x,(ix l t).2)).length=l.length:=List.length_set;rw [if_neg (by simp;omega),f,zab (by omega),zab (by omega),zab (by omega),zab (by omega),zab (by unfold fits;omega),zak t0 w,List.set_set]
 | succ n z=>
  intro j x B p C m;have f:(l.set t.toNat (x,(ix l t).2)).length=l.length:=List.length_set;have D:ix (l.set t.toNat (x,(ix l t).2)) j=ix l j:=zam t0 p (by omega);have E:ix (l.set t.toNat (x,(ix l t).2)) t=(x,(ix l t).2):=zak t0 w;rw [zjZ];unfold zcg;rw [if_pos (by simp;omega),f,zab (by omega),zab (by omega),zab (by omega),zab (by omega),D,E];by_cases c:(ix l j).2.1=(ix l t).2.1
  ·obtain ⟨F,H⟩:=zCL m (A j p (by omega));obtain ⟨y,s,u,v⟩:=z (j+1) _ (by omega) (by omega) (by omega) F;refine ⟨y,s,fun q => ?_,?_⟩
   ·rw [u,H];constructor
    ·rintro ⟨⟨a,b⟩,d⟩;refine ⟨a,fun i o g e => ?_⟩;by_cases r:i=j
     ·rw [r];exact b
     ·exact d i (by omega) g e
    ·rintro ⟨a,b⟩;exact ⟨⟨a,b j (Int.le_refl _) (by omega) c⟩,fun i o g e=>b i (by omega) g e⟩
   ·rw [if_pos (decide_eq_true c),zab (by omega),zab (by omega),zab (by omega),zab (by omega),zab (by omega),zab (by omega),zab (by unfold fits;omega),List.set_set];exact v
  ·obtain ⟨y,s,u,v⟩:=z (j+1) x (by omega) (by omega) (by omega) m;refine ⟨y,s,fun q => ?_,?_⟩
   ·rw [u];constructor
    ·rintro ⟨a,d⟩;refine ⟨a,fun i o g e => ?_⟩;by_cases r:i=j
     ·rw [r] at e;exact absurd e c
     ·exact d i (by omega) g e
    ·rintro ⟨a,b⟩;exact ⟨a,fun i o g e=>b i (by omega) g e⟩
   ·rw [if_neg (by simpa using c),zab (by unfold fits;omega)];exact v
structure Cl (l l':List Nd) (t:Int):Prop where
 len:l'.length=l.length
 pa:∀ k:Int,0<=k->k < l.length->(ix l' k).2.1=(ix l k).2.1
 ol:∀ k:Int,0<=k->k < l.length->(ix l' k).2.2.1=(ix l k).2.2.1
 fl:∀ k:Int,0<=k->k < l.length->(ix l' k).2.2.2.2=(ix l k).2.2.2.2
 far:∀ k:Int,t<=k->k < l.length->ix l' k=ix l k
 b:∀ k:Int,0<=k->k < l.length->B4 (ix l' k).1
 gn:∀ k:Int,0<=k->k < t->((ix l' k).2.2.2.1=true↔(ix l' k).1=0)
 lb:∀ k:Int,0<=k->k < t->∀ q,bt (ix l' k).1 q↔bt (ix l k).1 q/\(0<=(ix l k).2.1->bt (ix l' (ix l k).2.1).1 q)/\∀ j:Int,0<=j->j < k->(ix l j).2.1=(ix l k).2.1 -> ¬ bt (ix l' j).1 q
theorem zzj {l:List Nd} (h:NdOk l):∀ (n:Nat) (t:Int) (f:List Nd),(l.length - t).toNat=n->0<=t->t<=l.length->Cl l f t->∃ H,zdb l t f=some H/\Cl l H l.length:=by
 have I:=h.len;intro n;induction n with
 | zero=>
  intro t f M t0 N g;obtain rfl:t=l.length:=by omega
  refine ⟨f,?_,g⟩;rw [zgb];unfold zbK;rw [if_neg (by simp)]
 | succ n U=>
  intro t f M t0 N g;have s:=g.len;have r:t < l.length:=by omega
  have W:=h.p t t0 r;have e0:ix f t=ix l t:=g.far t (Int.le_refl _) r;have z:=h.b t t0 r;obtain ⟨x,Q,E,B⟩:∃ x,B4 x/\(∀ q,bt x q↔bt (ix l t).1 q/\(0<=(ix l t).2.1->bt (ix f (ix l t).2.1).1 q))/\zdb l t f=zcB t (zdb l) 0 (f.set t.toNat (x,(ix f t).2)):=by
   by_cases c:0<=(ix l t).2.1
   ·obtain ⟨R,S⟩:=zxs z (g.b (ix l t).2.1 c (by omega));refine ⟨_,R,fun q=>(S q).trans ⟨fun h=>⟨h.1,fun _=>h.2⟩,fun h=>⟨h.1,h.2 c⟩⟩,?_⟩;rw [zgb];unfold zbK zda;rw [if_pos (by simp;omega),s,zab (by omega),zab (by omega),e0,if_pos (decide_eq_true c),zab (by omega),zab (by omega),zab (by omega),zab (by omega),zab (by omega),zab (by omega),zab (by omega),zab (by omega)]
   ·refine ⟨(ix l t).1,z,fun q=>⟨fun h=>⟨h,fun J=>absurd J c⟩,fun h=>h.1⟩,?_⟩;rw [zgb];unfold zbK zda;rw [if_pos (by simp;omega),s,zab (by omega),zab (by omega),e0,if_neg (by simpa using c)];congr 1;refine zxN (by simp) fun j o w => ?_
    by_cases e:j=t
    ·rw [e,zak t0 (by omega),e0]
    ·rw [zam t0 o (by omega)]
  obtain ⟨y,T,F,v⟩:=zA5 (r1:=zdb l) (l:=f) (t:=t) (by omega) t0 (by omega) (fun k k0 m=>g.b k k0 (by omega)) _ 0 x rfl (Int.le_refl _) t0 Q;rw [B,v];refine U (t+1) _ (by omega) (by omega) (by omega) ?_;have i:∀ k:Int,0<=k->k≠t->ix (f.set t.toNat (y,(ix f t).2.1,(ix f t).2.2.1,decide (y=0),(ix f t).2.2.2.2)) k=ix f k:=fun k k0 V=>zam t0 k0 (by omega)
  have u:ix (f.set t.toNat (y,(ix f t).2.1,(ix f t).2.2.1,decide (y=0),(ix f t).2.2.2.2)) t=(y,(ix f t).2.1,(ix f t).2.2.1,decide (y=0),(ix f t).2.2.2.2):=zak t0 (by omega);generalize P:f.set t.toNat (y,(ix f t).2.1,(ix f t).2.2.1,decide (y=0),(ix f t).2.2.2.2)=L at i u;have D:L.length=l.length:=by rw [<- P,List.length_set,s]
  refine ⟨D,fun k k0 m => ?_,fun k k0 m => ?_,fun k k0 m => ?_,fun k k0 m => ?_,fun k k0 m => ?_,fun k k0 m => ?_,fun k k0 m q => ?_⟩
  ·by_cases e:k=t
   ·rw [e,u];exact g.pa t t0 r
   ·rw [i k k0 e];exact g.pa k k0 m
  ·by_cases e:k=t
   ·rw [e,u];exact g.ol t t0 r
   ·rw [i k k0 e];exact g.ol k k0 m
  ·by_cases e:k=t
   ·rw [e,u];exact g.fl t t0 r
   ·rw [i k k0 e];exact g.fl k k0 m
  ·rw [i k (by omega) (by omega)];exact g.far k (by omega) m
  ·by_cases e:k=t
   ·rw [e,u];exact T
   ·rw [i k k0 e];exact g.b k k0 m
  ·by_cases e:k=t
   ·rw [e,u];simp
   ·rw [i k k0 e];exact g.gn k k0 (by omega)
  ·by_cases e:k=t
   ·subst e;rw [u];show bt y q↔_;rw [F,E];have A:0<=(ix l k).2.1->ix L (ix l k).2.1=ix f (ix l k).2.1:=fun p=>i _ p (by omega)
    constructor
    ·rintro ⟨⟨a,b⟩,d⟩;refine ⟨a,fun p=>by rw [A p];exact b p,fun j o w C => ?_⟩;rw [i j o (by omega)];exact d j o w (by rw [g.pa j o (by omega),g.pa k k0 r];exact C)
    ·rintro ⟨a,b,d⟩;refine ⟨⟨a,fun p=>by rw [<- A p];exact b p⟩,fun j o w C => ?_⟩;rw [<- i j o (by omega)];exact d j o w (by rw [<- g.pa j o (by omega),<- g.pa k k0 r];exact C)
   ·have O:=h.p k k0 (by omega);rw [i k k0 e,g.lb k k0 (by omega) q];refine and_congr Iff.rfl (and_congr ?_ ?_)
    ·refine forall_congr' fun p => ?_
     rw [i _ p (by omega)]
    ·refine forall_congr' fun j=>forall_congr' fun o=>forall_congr' fun w=>forall_congr' fun _ => ?_
     rw [i j o (by omega)]
theorem zyo {l:List Nd} (h:NdOk l):∃ a,zhX l=some a/\Cl l a l.length:=by
 unfold zhX;exact zzj h _ 0 l rfl (by omega) (by omega) ⟨rfl,fun _ _ _=>rfl,fun _ _ _=>rfl,fun _ _ _=>rfl,fun _ _ _=>rfl,h.b,fun k k0 b=>by omega,fun k k0 b=>by omega⟩
structure Dr (i:Int) (l l':List Nd) (t:Int):Prop where
 len:l'.length=l.length
 lb:∀ k:Int,0<=k->k < l.length->(ix l' k).1=(ix l k).1
 pa:∀ k:Int,0<=k->k < l.length->(ix l' k).2.1=(ix l k).2.1
 ol:∀ k:Int,0<=k->k < l.length->(ix l' k).2.2.1=(ix l k).2.2.1
 fl:∀ k:Int,0<=k->k < l.length->(ix l' k).2.2.2.2=(ix l k).2.2.2.2
 le:∀ k:Int,0<=k->k<=i->k < l.length->ix l' k=ix l k
 far:∀ k:Int,t<=k->k < l.length->ix l' k=ix l k
 gn:∀ k:Int,i < k->k < t->((ix l' k).2.2.2.1=true↔(ix l k).2.2.2.1=true\/(ix l k).2.1=i\/(i < (ix l k).2.1/\(ix l' (ix l k).2.1).2.2.2.1=true))
theorem zCT {i:Int} {l:List Nd} (J:0<=i) (y:l.length<=12) (z:∀ k:Int,0<=k->k < l.length->(ix l k).2.1 < k):∀ (n:Nat) (t:Int) (f:List Nd),(l.length - t).toNat=n->i < t->t<=l.length->Dr i l f t->∃ j,zhj i t f=some j/\Dr i l j l.length:=by
 intro n;induction n with
 | zero=>
  intro t f D t0 E d;obtain rfl:t=l.length:=by omega
  have:=d.len;refine ⟨f,?_,d⟩;rw [zk8];unfold zcT;rw [if_neg (by simp;omega)]
 | succ n u=>
  intro t f D t0 E d;have s:=d.len;have A:t < l.length:=by omega
  have F:=z t (by omega) A;have e0:ix f t=ix l t:=d.far t (Int.le_refl _) A;have keep:(¬ ((ix l t).2.1=i\/(i < (ix l t).2.1/\(ix f (ix l t).2.1).2.2.2.1=true)))->Dr i l f (t+1):=fun x=>⟨d.len,d.lb,d.pa,d.ol,d.fl,d.le,fun k k0 g=>d.far k (by omega) g,fun k k0 g=>by
   by_cases e:k=t
   ·subst e;rw [e0];exact ⟨.inl,fun h=>h.elim id (fun h=>absurd h x)⟩
   ·exact d.gn k k0 (by omega)⟩
  have put:((ix l t).2.1=i\/(i < (ix l t).2.1/\(ix f (ix l t).2.1).2.2.2.1=true))->Dr i l (f.set t.toNat ((ix l t).1,(ix l t).2.1,(ix l t).2.2.1,true,(ix l t).2.2.2.2)) (t+1):=fun r=>by
   have m:∀ k:Int,0<=k->k≠t->ix (f.set t.toNat ((ix l t).1,(ix l t).2.1,(ix l t).2.2.1,true,(ix l t).2.2.2.2)) k=ix f k:=fun k k0 M=>zam (by omega) k0 (by omega)
   have q:ix (f.set t.toNat ((ix l t).1,(ix l t).2.1,(ix l t).2.2.1,true,(ix l t).2.2.2.2)) t=((ix l t).1,(ix l t).2.1,(ix l t).2.2.1,true,(ix l t).2.2.2.2):=zak (by omega) (by omega);generalize I:f.set t.toNat ((ix l t).1,(ix l t).2.1,(ix l t).2.2.1,true,(ix l t).2.2.2.2)=L at m q;refine ⟨by rw [<- I,List.length_set,s],fun k k0 g => ?_,fun k k0 g => ?_,fun k k0 g => ?_,fun k k0 g => ?_,fun k k0 g C => ?_,fun k k0 g => ?_,fun k k0 g => ?_⟩
   ·by_cases e:k=t
    ·rw [e,q]
    ·rw [m k k0 e];exact d.lb k k0 g
   ·by_cases e:k=t
    ·rw [e,q]
    ·rw [m k k0 e];exact d.pa k k0 g
   ·by_cases e:k=t
    ·rw [e,q]
    ·rw [m k k0 e];exact d.ol k k0 g
   ·by_cases e:k=t
    ·rw [e,q]
    ·rw [m k k0 e];exact d.fl k k0 g
   ·rw [m k k0 (by omega)];exact d.le k k0 g C
   ·rw [m k (by omega) (by omega)];exact d.far k (by omega) g
   ·have H:=z k (by omega) (by omega);by_cases e:k=t
    ·subst e;rw [q];refine ⟨fun _ => ?_,fun _=>rfl⟩;rcases r with h | ⟨h,o⟩
     ·exact .inr (.inl h)
     ·exact .inr (.inr ⟨h,by rw [m _ (by omega) (by omega)];exact o⟩)
    ·rw [m k (by omega) e,d.gn k k0 (by omega)];refine or_congr Iff.rfl (or_congr Iff.rfl ⟨fun ⟨a,b⟩=>⟨a,?_⟩,fun ⟨a,b⟩=>⟨a,?_⟩⟩)
     ·rw [m _ (by omega) (by omega)];exact b
     ·rw [m _ (by omega) (by omega)] at b;exact b
  rw [zk8];unfold zcT zc0 zed;rw [if_pos (by simp;omega),s,zab (by omega),zab (by omega),e0];by_cases c:(ix l t).2.1=i
  ·obtain ⟨j,p,o⟩:=u (t+1) _ (by omega) (by omega) (by omega) (put (.inl c));refine ⟨j,?_,o⟩;rw [if_pos (decide_eq_true c),if_pos rfl,zab (by omega),zab (by omega),zab (by unfold fits;omega)];exact p
  ·rw [if_neg (by simpa using c)];by_cases B:0<=(ix l t).2.1
   ·rw [if_pos (decide_eq_true B),zab (by omega),zab (by omega)];by_cases v:(ix f (ix l t).2.1).2.2.2.1=true
    ·rw [if_pos v];by_cases w:i < (ix l t).2.1
     ·obtain ⟨j,p,o⟩:=u (t+1) _ (by omega) (by omega) (by omega) (put (.inr ⟨w,v⟩));refine ⟨j,?_,o⟩;rw [if_pos (decide_eq_true w),zab (by omega),zab (by omega),zab (by unfold fits;omega)];exact p
     ·obtain ⟨j,p,o⟩:=u (t+1) f (by omega) (by omega) (by omega) (keep (fun h=>h.elim c (fun h=>w h.1)));refine ⟨j,?_,o⟩;rw [if_neg (by simpa using w),zab (by unfold fits;omega)];exact p
    ·obtain ⟨j,p,o⟩:=u (t+1) f (by omega) (by omega) (by omega) (keep (fun h=>h.elim c (fun h=>v h.2)));refine ⟨j,?_,o⟩;rw [if_neg v,if_neg (by simp),zab (by unfold fits;omega)];exact p
   ·obtain ⟨j,p,o⟩:=u (t+1) f (by omega) (by omega) (by omega) (keep (fun h=>h.elim c (fun h=>by omega)));refine ⟨j,?_,o⟩;rw [if_neg (by simpa using B),if_neg (by simp),zab (by unfold fits;omega)];exact p
theorem zzy {i:Int} {l:List Nd} (c:0<=i) (e:i < l.length) (a:l.length<=12) (d:∀ k:Int,0<=k->k < l.length->(ix l k).2.1 < k):∃ b,zj1 i l=some b/\Dr i l b l.length:=by
 unfold zj1;rw [zab (by unfold fits;omega)];exact zCT c a d _ (i+1) l rfl (by omega) (by omega) ⟨rfl,fun _ _ _=>rfl,fun _ _ _=>rfl,fun _ _ _=>rfl,fun _ _ _=>rfl,fun _ _ _ _=>rfl,fun _ _ _=>rfl,fun k k0 f=>by omega⟩
def zu2 (l:List Nd) (i q:Int):Prop:=∃ j:Int,0<=j/\j < l.length/\(ix l j).2.1=i/\bt (ix l j).1 q
structure Fi (l l':List Nd) (i:Int):Prop where
 len:l'.length=l.length
 lb:∀ k:Int,0<=k->k < l.length->(ix l' k).1=(ix l k).1
 pa:∀ k:Int,0<=k->k < l.length->(ix l' k).2.1=(ix l k).2.1
 ol:∀ k:Int,0<=k->k < l.length->(ix l' k).2.2.1=(ix l k).2.2.1
 gn:∀ k:Int,0<=k->k < l.length->((ix l' k).2.2.2.1=true↔(ix l k).1=0\/(0<=(ix l k).2.1/\((ix l' (ix l k).2.1).2.2.2.1=true\/(ix l' (ix l k).2.1).2.2.2.2.1=true)))
 fa:∀ k:Int,i<=k->k < l.length->(ix l' k).2.2.2.2.1=false
 fc:∀ k:Int,0<=k->k < i->((ix l' k).2.2.2.2.1=true->∀ q,bt (ix l k).1 q->zu2 l k q)/\((ix l' k).2.2.2.1=false->(ix l' k).2.2.2.2.1=false->∃ q,bt (ix l k).1 q /\ ¬ zu2 l k q)
structure ClOk (l:List Nd):Prop where
 len:l.length<=12
 b:∀ k:Int,0<=k->k < l.length->B4 (ix l k).1
 p:∀ k:Int,0<=k->k < l.length->(ix l k).2.1 < k
 sub:∀ k:Int,0<=k->k < l.length->0<=(ix l k).2.1->∀ q,bt (ix l k).1 q->bt (ix l (ix l k).2.1).1 q
section
variable {l:List Nd}
theorem zz5 (h:ClOk l) {g:List Nd} {i:Int} (m:Fi l g i) (z:0<=i) (A:i < l.length) {r23}:∀ (n:Nat) (t s:Int),(l.length - t).toNat=n->0<=t->t<=l.length->B4 s->(∀ q,bt s q↔∃ j:Int,0<=j/\j < t/\(ix l j).2.1=i/\(ix g j).2.2.2.1=false/\bt (ix l j).1 q)->
  ∃ o,B4 o/\(∀ q,bt o q↔∃ j:Int,0<=j/\j < l.length/\(ix l j).2.1=i/\(ix g j).2.2.2.1=false/\bt (ix l j).1 q)/\za7 i g r23 s t=zaG i g r23 (decide ((ix g i).2.2.2.1=false/\o=(ix l i).1 /\ ¬ o=0)):=by
 have k:=m.len;have y:=h.len;intro n;induction n with
 | zero=>
  intro t s B t0 C hs p;obtain rfl:t=l.length:=by omega
  refine ⟨s,hs,p,?_⟩;rw [zex];unfold zaT;rw [if_neg (by simp;omega),k,zab (by omega),zab (by omega)];cases v:(ix g i).2.2.2.1 with
  | true=>rw [if_neg (by simp)];simp
  | false=>
   rw [if_pos (by simp),zab (by omega),zab (by omega),m.lb i z A];by_cases c:s=(ix l i).1
   ·rw [if_pos (decide_eq_true c)];simp [c]
   ·rw [if_neg (by simpa using c)];simp [c]
 | succ n x=>
  intro t s B t0 C hs p;have u:t < l.length:=by omega
  have same : ¬ ((ix l t).2.1=i/\(ix g t).2.2.2.1=false)->(∀ q,bt s q↔∃ j:Int,0<=j/\j < t+1/\(ix l j).2.1=i/\(ix g j).2.2.2.1=false/\bt (ix l j).1 q):=fun r q=>(p q).trans ⟨fun ⟨j,a,b,c⟩=>⟨j,a,by omega,c⟩,fun ⟨j,a,b,c,d,e⟩=>by
   by_cases w:j=t
   ·rw [w] at c d;exact absurd ⟨c,d⟩ r
   ·exact ⟨j,a,by omega,c,d,e⟩⟩
  rw [zex];unfold zaT zbm;rw [if_pos (by simp;omega),k,zab (by omega),zab (by omega),m.pa t t0 u];by_cases c:(ix l t).2.1=i
  ·rw [if_pos (decide_eq_true c),zab (by omega),zab (by omega)];cases v:(ix g t).2.2.2.1 with
   | true=>
    rw [if_neg (by simp),zab (by unfold fits;omega)];exact x (t+1) s (by omega) (by omega) (by omega) hs (same (fun hh=>by rw [v] at hh;exact absurd hh.2 (by simp)))
   | false=>
    rw [if_pos (by simp),zab (by omega),zab (by omega),zab (by unfold fits;omega),m.lb t t0 u];obtain ⟨D,E⟩:=zA2 hs (h.b t t0 u);refine x (t+1) _ (by omega) (by omega) (by omega) D (fun q => ?_);rw [E,p];constructor
    ·rintro (⟨j,a,b,d⟩ | hh)
     ·exact ⟨j,a,by omega,d⟩
     ·exact ⟨t,t0,by omega,c,v,hh⟩
    ·rintro ⟨j,a,b,d,e,f⟩;by_cases w:j=t
     ·rw [w] at f;exact .inr f
     ·exact .inl ⟨j,a,by omega,d,e,f⟩
  ·rw [if_neg (by simpa using c),if_neg (by simp),zab (by unfold fits;omega)];exact x (t+1) s (by omega) (by omega) (by omega) hs (same (fun hh=>c hh.1))
theorem Fi.drop (h:ClOk l) {d:List Nd} {i:Int} (m:Fi l d i) (u:0<=i) (v:i < l.length) (E:(ix d i).2.2.2.1=false) (A:∀ q,bt (ix l i).1 q->zu2 l i q):
  ∃ p,zj1 i (d.set i.toNat ((ix d i).1,(ix d i).2.1,(ix d i).2.2.1,(ix d i).2.2.2.1,true,(ix d i).2.2.2.2.2))=some p/\Fi l p (i+1):=by
 have w:=m.len;have B:=h.len;have r:∀ k:Int,0<=k->k≠i->ix (d.set i.toNat ((ix d i).1,(ix d i).2.1,(ix d i).2.2.1,(ix d i).2.2.2.1,true,(ix d i).2.2.2.2.2)) k=ix d k:=fun k k0 A=>zam (by omega) k0 (by omega)
 have s:ix (d.set i.toNat ((ix d i).1,(ix d i).2.1,(ix d i).2.2.1,(ix d i).2.2.2.1,true,(ix d i).2.2.2.2.2)) i=((ix d i).1,(ix d i).2.1,(ix d i).2.2.1,(ix d i).2.2.2.1,true,(ix d i).2.2.2.2.2):=zak (by omega) (by omega);have t:(d.set i.toNat ((ix d i).1,(ix d i).2.1,(ix d i).2.2.1,(ix d i).2.2.2.1,true,(ix d i).2.2.2.2.2)).length=l.length:=by rw [List.length_set,w]
 generalize F:d.set i.toNat ((ix d i).1,(ix d i).2.1,(ix d i).2.2.1,(ix d i).2.2.2.1,true,(ix d i).2.2.2.2.2)=L at r s t ⊢;have x:∀ k:Int,0<=k->k < l.length->(ix L k).2.1=(ix l k).2.1:=fun k k0 f=>by
  by_cases e:k=i
  ·rw [e,s];exact m.pa i u v
  ·rw [r k k0 e];exact m.pa k k0 f
 have y:∀ k:Int,0<=k->(ix L k).2.2.2.1=(ix d k).2.2.2.1:=fun k k0=>by
  by_cases e:k=i
  ·rw [e,s]
  ·rw [r k k0 e]
 obtain ⟨p,D,o⟩:=zzy (i:=i) (l:=L) u (by omega) (by omega) (fun k k0 f=>by rw [x k k0 (by omega)];exact h.p k k0 (by omega));have g:∀ k:Int,0<=k->k < l.length->(ix p k).2.2.2.2.1=if k=i then true else (ix d k).2.2.2.2.1:=fun k k0 f=>by
  rw [o.fl k k0 (by omega)];by_cases e:k=i
  ·rw [if_pos e,e,s]
  ·rw [if_neg e,r k k0 e]
 have j:∀ k:Int,0<=k->k<=i->(ix p k).2.2.2.1=(ix d k).2.2.2.1:=fun k k0 f=>by
  rw [o.le k k0 f (by omega),y k k0]
 refine ⟨p,D,⟨by rw [o.len,t],fun k k0 f => ?_,fun k k0 f => ?_,fun k k0 f => ?_,fun k k0 f => ?_,fun k k0 f => ?_,fun k k0 f => ?_⟩⟩
 ·rw [o.lb k k0 (by omega)];by_cases e:k=i
  ·rw [e,s];exact m.lb i u v
  ·rw [r k k0 e];exact m.lb k k0 f
 ·rw [o.pa k k0 (by omega)];exact x k k0 f
 ·rw [o.ol k k0 (by omega)];by_cases e:k=i
  ·rw [e,s];exact m.ol i u v
  ·rw [r k k0 e];exact m.ol k k0 f
 ·have C:=h.p k k0 f;have old:=m.gn k k0 f;by_cases c:k<=i
  ·rw [j k k0 c,old];refine or_congr Iff.rfl ⟨fun ⟨a,b⟩=>⟨a,?_⟩,fun ⟨a,b⟩=>⟨a,?_⟩⟩
   ·rw [j _ a (by omega),g _ a (by omega),if_neg (by omega)];exact b
   ·rw [j _ a (by omega),g _ a (by omega),if_neg (by omega)] at b;exact b
  ·have new:=o.gn k (by omega) (by omega);rw [y k k0,x k k0 f] at new;rw [new];by_cases n:(ix l k).2.1=i
   ·refine ⟨fun _ => .inr ⟨by omega,.inr ?_⟩,fun _ => .inr (.inl n)⟩;rw [g _ (by omega) (by omega),if_pos n]
   ·by_cases z:i < (ix l k).2.1
    ·have mono:(ix d (ix l k).2.1).2.2.2.1=true->(ix p (ix l k).2.1).2.2.2.1=true:=fun hh=>(o.gn _ z (by omega)).2 (.inl (by rw [y _ (by omega)];exact hh))
     rw [old];constructor
     ·rintro ((a | ⟨a,b | b⟩) | a | ⟨_,a⟩)
      ·exact .inl a
      ·exact .inr ⟨a,.inl (mono b)⟩
      ·exact .inr ⟨a,.inr (by rw [g _ (by omega) (by omega),if_neg n];exact b)⟩
      ·exact absurd a n
      ·exact .inr ⟨by omega,.inl a⟩
     ·rintro (a | ⟨a,b | b⟩)
      ·exact .inl (.inl a)
      ·exact .inr (.inr ⟨z,b⟩)
      ·rw [g _ (by omega) (by omega),if_neg n] at b;exact .inl (.inr ⟨a,.inr b⟩)
    ·rw [old];constructor
     ·rintro ((a | ⟨a,b⟩) | a | ⟨a,_⟩)
      ·exact .inl a
      ·refine .inr ⟨a,?_⟩;rw [j _ a (by omega),g _ a (by omega),if_neg n];exact b
      ·exact absurd a n
      ·exact absurd a z
     ·rintro (a | ⟨a,b⟩)
      ·exact .inl (.inl a)
      ·rw [j _ a (by omega),g _ a (by omega),if_neg n] at b;exact .inl (.inr ⟨a,b⟩)
 ·rw [g k (by omega) f,if_neg (by omega)];exact m.fa k (by omega) f
 ·rw [g k k0 (by omega),j k k0 (by omega)];by_cases e:k=i
  ·subst e;rw [if_pos rfl];exact ⟨fun _=>A,fun _ hh=>by cases hh⟩
  ·rw [if_neg e];exact m.fc k k0 (by omega)
theorem zyz (h:ClOk l) {y:List Nd} (R:y.length=l.length):∀ (n:Nat) (i:Int) (m:List Nd),(l.length - i).toNat=n->0<=i->i<=l.length->Fi l m i->∃ t,Fi l t l.length/\zaH y i m=(zj2 t).bind (fun y=>some y):=by
 have F:=h.len;intro n;induction n with
 | zero=>
  intro i m z A J f;obtain rfl:i=l.length:=by omega
  refine ⟨m,f,?_⟩;rw [zew];unfold zaS;rw [if_neg (by simp;omega)]
 | succ n H=>
  intro i m z A J f;have r:i < l.length:=by omega
  have B:=f.len;obtain ⟨s,M,N,O⟩:=zz5 h f A r (r23:=zaH y) _ 0 0 rfl (by omega) (by omega) zdS.1 (fun q=>⟨fun hh=>absurd hh (zdS.2 q),fun ⟨j,a,b,_⟩=>by omega⟩);have run:zaH y i m=zaG i m (zaH y) (decide ((ix m i).2.2.2.1=false/\s=(ix l i).1 /\ ¬ s=0)):=by
   rw [zew];unfold zaS;rw [if_pos (by simp;omega)];exact O
  rw [run];unfold zaG;have all:(ix m i).2.2.2.1=false->∀ q,bt s q↔zu2 l i q:=fun u q=>(N q).trans ⟨fun ⟨j,a,b,c,_,e⟩=>⟨j,a,b,c,e⟩,fun ⟨j,a,b,c,e⟩=>by
   refine ⟨j,a,b,c,?_,e⟩;cases D:(ix m j).2.2.2.1 with
   | false=>rfl
   | true=>
    exfalso;rcases (f.gn j a b).1 D with g | ⟨_,g | g⟩
    ·rw [g] at e;exact zdS.2 q e
    ·rw [c,u] at g;cases g
    ·rw [c,f.fa i (Int.le_refl _) r] at g;cases g⟩
  by_cases c:(ix m i).2.2.2.1=false/\s=(ix l i).1 /\ ¬ s=0
  ·obtain ⟨t,P,Q⟩:=f.drop h A r c.1 (fun q w=>(all c.1 q).1 (by rw [c.2.1];exact w));obtain ⟨o,p,E⟩:=H (i+1) t (by omega) (by omega) (by omega) Q;refine ⟨o,p,?_⟩;rw [if_pos (decide_eq_true c),B,zab (by omega),zab (by omega),P];show G (fits (i+1)) (zaH y (i+1) t)=_;rw [zab (by unfold fits;omega)];exact E
  ·obtain ⟨o,p,E⟩:=H (i+1) m (by omega) (by omega) (by omega) ⟨f.len,f.lb,f.pa,f.ol,f.gn,fun k k0 p=>f.fa k (by omega) p,fun k k0 p=>by
    by_cases e:k=i
    ·subst e;have L:=f.fa k (Int.le_refl _) r;rw [L];refine ⟨fun hh=>by (cases hh),fun u _ => ?_⟩;have C : ¬ (ix l k).1=0:=fun I=>by
      have:=(f.gn k k0 r).2 (.inl I);rw [u] at this;cases this
     refine Classical.byContradiction fun x=>c ⟨u,?_⟩
     have v:∀ q,bt (ix l k).1 q->zu2 l k q:=fun q w=>Classical.byContradiction fun z=>x ⟨q,w,z⟩
     have hs:s=(ix l k).1:=zzc M (h.b k k0 r) (fun q=>(all u q).trans ⟨fun ⟨j,a,b,d,e⟩=>by
      have:=h.sub j a b (by omega) q e
      rwa [d] at this,v q⟩)
     exact ⟨hs,by rw [hs];exact C⟩
    ·exact f.fc k k0 (by omega)⟩
   refine ⟨o,p,?_⟩;rw [if_neg (by simpa using c),zab (by unfold fits;omega)];exact E
end
end
end Go.Proofs.Ytiegbkgnhjncdaa.synthAnswersW
