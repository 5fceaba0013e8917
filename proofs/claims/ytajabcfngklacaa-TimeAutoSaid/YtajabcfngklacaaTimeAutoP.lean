import Derived.Test.YtajabcfngklacaaTimeAutoD
import Derived.Sort.AssemblyPlain
set_option maxHeartbeats 1000000
set_option maxRecDepth 20000
set_option linter.unusedSimpArgs false
set_option linter.unusedVariables false
set_option linter.unusedSectionVars false
namespace Go.Proofs.Ytajabcfngklacaa.timeAutoW
open Go Go.Ab
noncomputable section
def zzC (o:Option Bool) (P:Prop):Prop:=∃ b,o=some b/\(b=true↔P)
theorem zzC.dec {P Q:Prop} [Decidable P] (h:P↔Q):zzC (some (decide P)) Q:=⟨_,rfl,by simpa using h⟩
section
variable {α C:Type} [Inhabited α]
theorem zv6 {l:List α} {P:α->Prop}:(∃ x∈l,P x)↔∃ i:Int,0<=i/\i < l.length/\P (ix l i):=by
 constructor
 ·rintro ⟨x,b,a⟩;obtain ⟨i,e,rfl⟩:=List.mem_iff_getElem.1 b;refine ⟨i,by omega,by omega,?_⟩
  rwa [zoo (by omega) (by omega)]
 ·rintro ⟨i,c,d,a⟩;exact ⟨_,zlH c d,a⟩
end
theorem zBP {R:Type} {len:Int} {L:Int->Option R} {bad:Int->Prop} {x:Option R} {lo:Int} (g:lo<=len)
  (hs:∀ t,lo<=t->t < len->(bad t->L t=x)/\(¬ bad t->L t=L (t+1))) (i:(∀ t,lo<=t->t < len -> ¬ bad t)->L len=x):L lo=x:=by
 have d:∀ (n:Nat) (t:Int),lo<=t->t<=len->(len - t).toNat=n->(∀ j,lo<=j->j < t -> ¬ bad j)->L t=x:=by
  intro n;induction n with
  | zero=>
   intro t c k l h;obtain rfl:t=len:=by omega
   exact i h
  | succ n m=>
   intro t c k l h;by_cases f:bad t
   ·exact (hs t c (by omega)).1 f
   ·rw [(hs t c (by omega)).2 f];refine m (t+1) (by omega) (by omega) (by omega) fun j a b => ?_
    by_cases e:j=t
    ·rw [e];exact f
    ·exact h j a (by omega)
 exact d _ lo (Int.le_refl _) g rfl (fun j a b=>by omega)
theorem zDD {R S:Type} {len:Int} {L:Int->S->Option R} {f:Int->S->S} {lo:Int} {I:Int->S->Prop} {s:S} (d:lo<=len) (g:I lo s)
  (hs:∀ t s,lo<=t->t < len->I t s->L t s=L (t+1) (f t s)/\I (t+1) (f t s)):∃ a,I len a/\L lo s=L len a:=by
 have b:∀ (n:Nat) (t:Int) (s:S),lo<=t->t<=len->(len - t).toNat=n->I t s->∃ a,I len a/\L t s=L len a:=by
  intro n;induction n with
  | zero=>
   intro t s c i j h;obtain rfl:t=len:=by omega
   exact ⟨s,h,rfl⟩
  | succ n o=>
   intro t s c i j h;obtain ⟨e,k⟩:=hs t s c (by omega) h;obtain ⟨a,l,m⟩:=o (t+1) _ (by omega) (by omega) (by omega) k;exact ⟨a,l,e.trans m⟩
 exact b _ lo s (Int.le_refl _) d rfl g
theorem zuX {letters:Int} {w:List Int} (c:1<=letters/\letters<=4) (d:w.length<=(60:Int)):∀ (n:Nat) (i:Int),0<=i->i<=w.length->(w.length - i).toNat=n->(∀ j:Int,0<=j->j < i->0<=ix w j/\ix w j < letters)->zqX letters w i=some (mayE letters w):=by
 intro n;induction n with
 | zero=>
  intro i e f g h;rw [zsn];unfold zhP
  (try dsimp only);(repeat' first | (with_reducible refine G_to ?_ ?_;focus (first | omega | (unfold fits;omega) | (unfold room;(try simp only [List.length_append,List.length_cons,List.length_nil]);omega))) | (with_reducible refine both_to ?_ ?_) | (with_reducible refine zhh ?_) | (with_reducible refine zhg ?_) | (with_reducible refine zj2 (fun _ => ?_) (fun _ => ?_)))<;>try (exfalso;omega)
  ·rw [zDO c d (fun j a b=>h j a (by omega))]
 | succ n k=>
  intro i e f g h;rw [zsn];unfold zhP
  (try dsimp only);(repeat' first | (with_reducible refine G_to ?_ ?_;focus (first | omega | (unfold fits;omega) | (unfold room;(try simp only [List.length_append,List.length_cons,List.length_nil]);omega))) | (with_reducible refine both_to ?_ ?_) | (with_reducible refine zhh ?_) | (with_reducible refine zhg ?_) | (with_reducible refine zj2 (fun _ => ?_) (fun _ => ?_)))<;>try (exfalso;omega)
  ·rw [zzc c d (i:=i) (by omega) (by omega)]
  ·rw [zzc c d (i:=i) (by omega) (by omega)]
  ·exact k _ (by omega) (by omega) (by omega) (zzD h (by omega))
theorem zub {letters:Int} {w:List Int}:zxo letters w=some (mayE letters w):=by
 unfold zxo
 (try dsimp only);(repeat' first | (with_reducible refine G_to ?_ ?_;focus (first | omega | (unfold fits;omega) | (unfold room;(try simp only [List.length_append,List.length_cons,List.length_nil]);omega))) | (with_reducible refine both_to ?_ ?_) | (with_reducible refine zhh ?_) | (with_reducible refine zhg ?_) | (with_reducible refine zj2 (fun _ => ?_) (fun _ => ?_)))<;>try (exfalso;omega)
 ·rw [zvm (by omega)]
 ·rw [zvm (by omega)]
 ·rw [zBm (by omega) (by omega)]
 ·exact zuX (by omega) (by omega) _ 0 (by omega) (by omega) rfl (fun j a b=>by omega)
abbrev Stp:=Int×Int×Int×Unit
abbrev Au:=Int×Int×List Int×List Stp×List Int×Unit
theorem zAe {R:Type} {len:Int} {L:Int->Option R} {bad:Int->Prop} {x:Option R} {lo:Int}
  (hs:∀ t,lo<=t->t < len->(bad t->L t=x)/\(¬ bad t->L t=L (t+1))) (c:∀ t,lo<=t->len<=t->(∀ u,lo<=u->u < len -> ¬ bad u)->L t=x):L lo=x:=by
 by_cases h:lo<=len
 ·exact zBP h hs (fun d=>c len h (Int.le_refl _) d)
 ·exact c lo (Int.le_refl _) (by omega) (fun u a b=>by omega)
def noS (a:Au) (q:Int):Prop:=q < 0\/a.2.1<=q
def badX (a:Au) (x:Stp):Prop:=noS a x.1\/noS a x.2.2.1\/x.2.1 < 0\/a.1<=x.2.1
def zjr (x y:Stp):Prop:=x.1 < y.1\/(x.1=y.1/\(x.2.1 < y.2.1\/(x.2.1=y.2.1/\x.2.2.1 < y.2.2.1)))
def zzz (l:List Int):Prop:=∃ i:Int,1<=i/\i < l.length/\ix l i<=ix l (i - 1)
def zEB (l:List Stp):Prop:=∃ i:Int,1<=i/\i < l.length /\ ¬ zjr (ix l (i - 1)) (ix l i)
def zxH (a:Au):Prop:=a.2.1 < 1\/300 < a.2.1\/40000 < (a.2.2.2.1.length:Int)
def AOut (a:Au):Prop:=(∃ q∈a.2.2.1,noS a q)\/(∃ q∈a.2.2.2.2.1,noS a q)\/(∃ x∈a.2.2.2.1,badX a x)
def zxG (a:Au):Prop:=zzz a.2.2.1\/zzz a.2.2.2.2.1\/zEB a.2.2.2.1
open Classical in
def autE (a:Au):Int:=if a.1 < 1\/4 < a.1 then 2 else if zxH a then 1 else if AOut a then 2 else if zxG a then 3 else 0
structure AuLen (a:Au):Prop where
 s:(a.2.2.1.length:Int)<=20000000000000
 f:(a.2.2.2.2.1.length:Int)<=20000000000000
theorem zrA (x y:Stp):∃ v:Int,zbX x y=some v/\(v < 0↔zjr x y):=by
 have h:∀ a b:Int,zi4 a b=some (if a < b then -1 else if b < a then 1 else 0):=fun a b=>by
  unfold zi4 zkM;refine zde rfl (zde rfl ?_);rw [if_neg (by simp),if_neg (by simp)];by_cases c:a < b
  ·rw [if_pos (decide_eq_true c),if_pos c]
  ·rw [if_neg (by simpa using c),if_neg c];by_cases d:b < a
   ·rw [if_pos (decide_eq_true d),if_pos d]
   ·rw [if_neg (by simpa using d),if_neg d]
 have i:∀ p q r:Int,zyV [p,q,r]=some (if p≠0 then p else if q≠0 then q else r):=fun p q r=>by
  unfold zyV;rw [zlF];unfold zfL;rw [if_pos (by simp),zae (by simp),show ix [p,q,r] 0=p from rfl];by_cases c:p=0
  ·rw [if_neg (by simpa using c),if_neg (by simpa using c),zae (by unfold fits;omega),zlF];unfold zfL;rw [if_pos (by simp),zae (by simp),show ix [p,q,r] (0+1)=q from rfl];by_cases d:q=0
   ·rw [if_neg (by simpa using d),if_neg (by simpa using d),zae (by unfold fits;omega),zlF];unfold zfL;rw [if_pos (by simp),zae (by simp),show ix [p,q,r] (0+1+1)=r from rfl];by_cases j:r=0
    ·rw [if_neg (by simpa using j),zae (by unfold fits;omega),zlF];unfold zfL;rw [if_neg (by simp),j]
    ·rw [if_pos (by simpa using j)]
   ·rw [if_pos (by simpa using d),if_pos (by simpa using d)]
  ·rw [if_pos (by simpa using c),if_pos (by simpa using c)]
 refine ⟨if (if x.1 < y.1 then (-1:Int) else if y.1 < x.1 then 1 else 0)≠0 then (if x.1 < y.1 then -1 else if y.1 < x.1 then 1 else 0) else if (if x.2.1 < y.2.1 then (-1:Int) else if y.2.1 < x.2.1 then 1 else 0)≠0 then (if x.2.1 < y.2.1 then -1 else if y.2.1 < x.2.1 then 1 else 0) else (if x.2.2.1 < y.2.2.1 then -1 else if y.2.2.1 < x.2.2.1 then 1 else 0),?_,?_⟩
 ·unfold zbX;exact zde (h _ _) (zde (h _ _) (zde (h _ _) (zde (i _ _ _) rfl)))
 ·unfold zjr;generalize x.1=a,y.1=b,x.2.1=c,y.2.1=e,x.2.2.1=f,y.2.2.1=g;by_cases k:a < b
  ·rw [if_pos k];simp [k]
  ·rw [if_neg k];by_cases n:b < a
   ·rw [if_pos n];simp;omega
   ·rw [if_neg n];have:a=b:=by omega
    subst this;by_cases l:c < e
    ·rw [if_pos l];simp [l]
    ·rw [if_neg l];by_cases o:e < c
     ·rw [if_pos o];simp;omega
     ·rw [if_neg o];have:c=e:=by omega
      subst this;by_cases m:f < g
      ·rw [if_pos m];simp [m]
      ·rw [if_neg m];by_cases s:g < f
       ·rw [if_pos s];simp;omega
       ·rw [if_neg s];simp;omega
theorem zq1 (x y:Stp):zzC (ztj x y) (zjr x y):=by
 unfold ztj zjr;by_cases c:x.1=y.1
 ·rw [if_neg (by simpa using c)];by_cases a:x.2.1=y.2.1
  ·rw [if_neg (by simpa using a)];exact zzC.dec (by omega)
  ·rw [if_pos (by simpa using a)];exact zzC.dec (by omega)
 ·rw [if_pos (by simpa using c)];exact zzC.dec (by omega)
theorem zwD {a:Au} (n:AuLen a):ztk a=some (autE a):=by
 have hs:=n.s;have o:=n.f;unfold ztk autE;by_cases c1:a.1 < 1\/4 < a.1
 ·rw [if_pos c1]
  (try dsimp only);(repeat' first | (with_reducible refine G_to ?_ ?_;focus (first | omega | (unfold fits;omega) | (unfold room;(try simp only [List.length_append,List.length_cons,List.length_nil]);omega))) | (with_reducible refine both_to ?_ ?_) | (with_reducible refine zhh ?_) | (with_reducible refine zhg ?_) | (with_reducible refine zj2 (fun _ => ?_) (fun _ => ?_)))<;>try (exfalso;omega)
  all_goals rfl
 rw [if_neg c1];by_cases l:zxH a
 ·rw [if_pos l];unfold zxH at l
  (try dsimp only);(repeat' first | (with_reducible refine G_to ?_ ?_;focus (first | omega | (unfold fits;omega) | (unfold room;(try simp only [List.length_append,List.length_cons,List.length_nil]);omega))) | (with_reducible refine both_to ?_ ?_) | (with_reducible refine zhh ?_) | (with_reducible refine zhg ?_) | (with_reducible refine zj2 (fun _ => ?_) (fun _ => ?_)))<;>try (exfalso;omega)
  all_goals rfl
 rw [if_neg l];unfold zxH at l
 (try dsimp only);(repeat' first | (with_reducible refine G_to ?_ ?_;focus (first | omega | (unfold fits;omega) | (unfold room;(try simp only [List.length_append,List.length_cons,List.length_nil]);omega))) | (with_reducible refine both_to ?_ ?_) | (with_reducible refine zhh ?_) | (with_reducible refine zhg ?_) | (with_reducible refine zj2 (fun _ => ?_) (fun _ => ?_)))<;>try (exfalso;omega)
 refine zAe (len:=(a.2.2.1.length:Int)) (bad:=fun t=>noS a (ix a.2.2.1 t)) (lo:=0) (fun t c d=>⟨fun b => ?_,fun b => ?_⟩) (fun t c d e => ?_)
 ·rw [if_pos (show AOut a from .inl (zv6.2 ⟨t,c,d,b⟩)),zmd];unfold zeH;unfold noS at b
  (try dsimp only);(repeat' first | (with_reducible refine G_to ?_ ?_;focus (first | omega | (unfold fits;omega) | (unfold room;(try simp only [List.length_append,List.length_cons,List.length_nil]);omega))) | (with_reducible refine both_to ?_ ?_) | (with_reducible refine zhh ?_) | (with_reducible refine zhg ?_) | (with_reducible refine zj2 (fun _ => ?_) (fun _ => ?_)))<;>try (exfalso;omega)
  all_goals rfl
 ·conv=>lhs;rw [zmd];unfold zeH
  unfold noS at b
  (try dsimp only);(repeat' first | (with_reducible refine G_to ?_ ?_;focus (first | omega | (unfold fits;omega) | (unfold room;(try simp only [List.length_append,List.length_cons,List.length_nil]);omega))) | (with_reducible refine both_to ?_ ?_) | (with_reducible refine zhh ?_) | (with_reducible refine zhg ?_) | (with_reducible refine zj2 (fun _ => ?_) (fun _ => ?_)))<;>try (exfalso;omega)
  all_goals rfl
 have p : ¬ ∃ q∈a.2.2.1,noS a q:=fun h=>by obtain ⟨i,f,g,j⟩:=zv6.1 h;exact e i f g j
 rw [zmd];unfold zeH;rw [if_neg (by simp;omega)];refine zAe (len:=(a.2.2.2.2.1.length:Int)) (bad:=fun t=>noS a (ix a.2.2.2.2.1 t)) (lo:=0) (fun t c d=>⟨fun b => ?_,fun b => ?_⟩) (fun t c d e => ?_)
 ·rw [if_pos (show AOut a from .inr (.inl (zv6.2 ⟨t,c,d,b⟩))),zkX];unfold zeb;unfold noS at b
  (try dsimp only);(repeat' first | (with_reducible refine G_to ?_ ?_;focus (first | omega | (unfold fits;omega) | (unfold room;(try simp only [List.length_append,List.length_cons,List.length_nil]);omega))) | (with_reducible refine both_to ?_ ?_) | (with_reducible refine zhh ?_) | (with_reducible refine zhg ?_) | (with_reducible refine zj2 (fun _ => ?_) (fun _ => ?_)))<;>try (exfalso;omega)
  all_goals rfl
 ·conv=>lhs;rw [zkX];unfold zeb
  unfold noS at b
  (try dsimp only);(repeat' first | (with_reducible refine G_to ?_ ?_;focus (first | omega | (unfold fits;omega) | (unfold room;(try simp only [List.length_append,List.length_cons,List.length_nil]);omega))) | (with_reducible refine both_to ?_ ?_) | (with_reducible refine zhh ?_) | (with_reducible refine zhg ?_) | (with_reducible refine zj2 (fun _ => ?_) (fun _ => ?_)))<;>try (exfalso;omega)
  all_goals rfl
 have r : ¬ ∃ q∈a.2.2.2.2.1,noS a q:=fun h=>by obtain ⟨i,f,g,j⟩:=zv6.1 h;exact e i f g j
 rw [zkX];unfold zeb;rw [if_neg (by simp;omega)];refine zAe (len:=(a.2.2.2.1.length:Int)) (bad:=fun t=>badX a (ix a.2.2.2.1 t)) (lo:=0) (fun t c d=>⟨fun b => ?_,fun b => ?_⟩) (fun t c d e => ?_)
 ·rw [if_pos (show AOut a from .inr (.inr (zv6.2 ⟨t,c,d,b⟩))),zkY];unfold zec;unfold badX noS at b
  (try dsimp only);(repeat' first | (with_reducible refine G_to ?_ ?_;focus (first | omega | (unfold fits;omega) | (unfold room;(try simp only [List.length_append,List.length_cons,List.length_nil]);omega))) | (with_reducible refine both_to ?_ ?_) | (with_reducible refine zhh ?_) | (with_reducible refine zhg ?_) | (with_reducible refine zj2 (fun _ => ?_) (fun _ => ?_)))<;>try (exfalso;omega)
  all_goals rfl
 ·conv=>lhs;rw [zkY];unfold zec
  unfold badX noS at b
  (try dsimp only);(repeat' first | (with_reducible refine G_to ?_ ?_;focus (first | omega | (unfold fits;omega) | (unfold room;(try simp only [List.length_append,List.length_cons,List.length_nil]);omega))) | (with_reducible refine both_to ?_ ?_) | (with_reducible refine zhh ?_) | (with_reducible refine zhg ?_) | (with_reducible refine zj2 (fun _ => ?_) (fun _ => ?_)))<;>try (exfalso;omega)
  all_goals rfl
 have s : ¬ ∃ q∈a.2.2.2.1,badX a q:=fun h=>by obtain ⟨i,f,g,j⟩:=zv6.1 h;exact e i f g j
 rw [if_neg (show ¬ AOut a from fun h=>h.elim p (fun h=>h.elim r s)),zkY];unfold zec;rw [if_neg (by simp;omega)];refine zAe (len:=(a.2.2.1.length:Int)) (bad:=fun t=>ix a.2.2.1 t<=ix a.2.2.1 (t - 1)) (lo:=1) (fun t c d=>⟨fun b => ?_,fun b => ?_⟩) (fun t c d e => ?_)
 ·rw [if_pos (show zxG a from .inl ⟨t,c,d,b⟩),zkZ];unfold zed
  (try dsimp only);(repeat' first | (with_reducible refine G_to ?_ ?_;focus (first | omega | (unfold fits;omega) | (unfold room;(try simp only [List.length_append,List.length_cons,List.length_nil]);omega))) | (with_reducible refine both_to ?_ ?_) | (with_reducible refine zhh ?_) | (with_reducible refine zhg ?_) | (with_reducible refine zj2 (fun _ => ?_) (fun _ => ?_)))<;>try (exfalso;omega)
  all_goals rfl
 ·conv=>lhs;rw [zkZ];unfold zed
  (try dsimp only);(repeat' first | (with_reducible refine G_to ?_ ?_;focus (first | omega | (unfold fits;omega) | (unfold room;(try simp only [List.length_append,List.length_cons,List.length_nil]);omega))) | (with_reducible refine both_to ?_ ?_) | (with_reducible refine zhh ?_) | (with_reducible refine zhg ?_) | (with_reducible refine zj2 (fun _ => ?_) (fun _ => ?_)))<;>try (exfalso;omega)
  all_goals rfl
 have u : ¬ zzz a.2.2.1:=fun ⟨i,f,g,j⟩=>e i f g j
 rw [zkZ];unfold zed;rw [if_neg (by simp;omega)];refine zAe (len:=(a.2.2.2.2.1.length:Int)) (bad:=fun t=>ix a.2.2.2.2.1 t<=ix a.2.2.2.2.1 (t - 1)) (lo:=1) (fun t c d=>⟨fun b => ?_,fun b => ?_⟩) (fun t c d e => ?_)
 ·rw [if_pos (show zxG a from .inr (.inl ⟨t,c,d,b⟩)),zk0];unfold zee
  (try dsimp only);(repeat' first | (with_reducible refine G_to ?_ ?_;focus (first | omega | (unfold fits;omega) | (unfold room;(try simp only [List.length_append,List.length_cons,List.length_nil]);omega))) | (with_reducible refine both_to ?_ ?_) | (with_reducible refine zhh ?_) | (with_reducible refine zhg ?_) | (with_reducible refine zj2 (fun _ => ?_) (fun _ => ?_)))<;>try (exfalso;omega)
  all_goals rfl
 ·conv=>lhs;rw [zk0];unfold zee
  (try dsimp only);(repeat' first | (with_reducible refine G_to ?_ ?_;focus (first | omega | (unfold fits;omega) | (unfold room;(try simp only [List.length_append,List.length_cons,List.length_nil]);omega))) | (with_reducible refine both_to ?_ ?_) | (with_reducible refine zhh ?_) | (with_reducible refine zhg ?_) | (with_reducible refine zj2 (fun _ => ?_) (fun _ => ?_)))<;>try (exfalso;omega)
  all_goals rfl
 have w : ¬ zzz a.2.2.2.2.1:=fun ⟨i,f,g,j⟩=>e i f g j
 rw [zk0];unfold zee;rw [if_neg (by simp;omega)];refine zAe (len:=(a.2.2.2.1.length:Int)) (bad:=fun t => ¬ zjr (ix a.2.2.2.1 (t - 1)) (ix a.2.2.2.1 t)) (lo:=1) (fun t c d=>⟨fun b => ?_,fun b => ?_⟩) (fun t c d e => ?_)
 ·rw [if_pos (show zxG a from .inr (.inr ⟨t,c,d,b⟩)),zk1];unfold zef;obtain ⟨v,m,k⟩:=zq1 (ix a.2.2.2.1 (t - 1)) (ix a.2.2.2.1 t);rw [if_pos (by simp;omega),zae (by unfold fits;omega),zae (by omega),zae (by omega)];refine zde m ?_;rw [if_pos (by cases v;rfl;exact absurd (k.1 rfl) b)]
 ·conv=>lhs;rw [zk1];unfold zef
  obtain ⟨v,m,k⟩:=zq1 (ix a.2.2.2.1 (t - 1)) (ix a.2.2.2.1 t);rw [if_pos (by simp;omega),zae (by unfold fits;omega),zae (by omega),zae (by omega)];refine zde m ?_;rw [if_neg (by rw [k.2 (Classical.byContradiction b)];simp),zae (by unfold fits;omega)]
 ·rw [if_neg (show ¬ zxG a from fun h=>h.elim u (fun h=>h.elim w (fun ⟨i,f,g,j⟩=>e i f g j))),zk1];unfold zef;rw [if_neg (by simp;omega)]
def lasE (letters:Int) (l:List Int×List Int×Unit):Int:=if mayE letters l.1=0 then (if mayE letters l.2.1=0 then (if l.2.1.length=0 then 1 else 0) else mayE letters l.2.1) else mayE letters l.1
theorem zwB {letters:Int} {l:List Int×List Int×Unit}:zqW letters l=some (lasE letters l):=by
 unfold zqW lasE;refine zde zub ?_;by_cases a:mayE letters l.1=0
 ·rw [if_pos a,if_neg (by simp [a])];refine zde zub ?_;by_cases b:mayE letters l.2.1=0
  ·rw [if_pos b,if_neg (by simp [b])];by_cases c:l.2.1.length=0
   ·rw [if_pos (by simp [c]),if_pos c]
   ·rw [if_neg (by simp only [decide_eq_true_eq];omega),if_neg c]
  ·rw [if_neg b,if_pos (by simp [b])]
 ·rw [if_neg a,if_pos (by simp [a])]
theorem zBe {letters:Int} {l:List Int×List Int×Unit} (h:lasE letters l=0):mayE letters l.1=0/\mayE letters l.2.1=0/\0 < l.2.1.length:=by
 unfold lasE at h;by_cases a:mayE letters l.1=0
 ·rw [if_pos a] at h;by_cases b:mayE letters l.2.1=0
  ·rw [if_pos b] at h;by_cases c:l.2.1.length=0
   ·rw [if_pos c] at h;omega
   ·exact ⟨a,b,by omega⟩
  ·rw [if_neg b] at h;exact absurd h b
 ·rw [if_neg a] at h;exact absurd h a
section
end
inductive Star {α:Type} (R:α->α->Prop):α->α->Prop
 | refl (x:α):Star R x x
 | tail {x y z:α}:Star R x y->R y z->Star R x z
def StA (a:Au) (p x q:Int):Prop:=(p,x,q,())∈a.2.2.2.1
structure AuOk (a:Au):Prop where
 let1:1<=a.1/\a.1<=4
 n1:1<=a.2.1/\a.2.1<=300
 sl:(a.2.2.2.1.length:Int)<=40000
 sb:∀ x∈a.2.2.2.1,(0<=x.1/\x.1 < a.2.1)/\(0<=x.2.1/\x.2.1 < a.1)/\(0<=x.2.2.1/\x.2.2.1 < a.2.1)
 s:∀ q∈a.2.2.1,0<=q/\q < a.2.1
 f:∀ q∈a.2.2.2.2.1,0<=q/\q < a.2.1
 ls:(a.2.2.1.length:Int)<=300
 lf:(a.2.2.2.2.1.length:Int)<=300
theorem zzq {l:List Int} {n:Int} (e : ¬ zzz l) (b:∀ q∈l,0<=q/\q < n) (m:0<=n):(l.length:Int)<=n:=by
 have a:∀ (k:Nat),k < l.length->(k:Int)<=ix l k:=by
  intro k;induction k with
  | zero=>intro h;exact (b _ (zlH (by omega) (by omega))).1
  | succ k j=>
   intro h;have g:=j (by omega);have d : ¬ ix l ((k+1:Nat):Int)<=ix l (((k+1:Nat):Int) - 1):=fun f=>e ⟨((k+1:Nat):Int),by omega,by omega,f⟩
   rw [show ((k+1:Nat):Int) - 1=(k:Int) by omega] at d;omega
 by_cases c:l.length=0
 ·omega
 ·have g:=a (l.length - 1) (by omega);have d:=(b _ (zlH (l:=l) (i:=((l.length - 1:Nat):Int)) (by omega) (by omega))).2;omega
theorem zAr {a:Au} (h:autE a=0):AuOk a:=by
 unfold autE at h;by_cases c1:a.1 < 1\/4 < a.1
 ·rw [if_pos c1] at h;omega
 rw [if_neg c1] at h;by_cases f:zxH a
 ·rw [if_pos f] at h;omega
 rw [if_neg f] at h;by_cases c:AOut a
 ·rw [if_pos c] at h;omega
 rw [if_neg c] at h;by_cases d:zxG a
 ·rw [if_pos d] at h;omega
 unfold zxH at f;unfold AOut at c;unfold zxG at d;have hs:∀ q∈a.2.2.1,0<=q/\q < a.2.1:=fun q e=>by
  have : ¬ noS a q:=fun b=>c (.inl ⟨q,e,b⟩)
  unfold noS at this;omega
 have g:∀ q∈a.2.2.2.2.1,0<=q/\q < a.2.1:=fun q e=>by
  have : ¬ noS a q:=fun b=>c (.inr (.inl ⟨q,e,b⟩))
  unfold noS at this;omega
 have j:1<=a.2.1/\a.2.1<=300:=by omega
 have k:=zzq (fun b=>d (.inl b)) hs (by omega);have l:=zzq (fun b=>d (.inr (.inl b))) g (by omega);refine ⟨by omega,j,by omega,fun x i => ?_,hs,g,by omega,by omega⟩;have : ¬ badX a x:=fun b=>c (.inr (.inr ⟨x,i,b⟩))
 unfold badX noS at this;omega
def Wt (a:Au) (u:Nat->Int):Nat->Nat->Int->Int->Prop
 | 0,_,p,q=>p=q
 | m+1,s,p,q=>∃ r,StA a p (u s) r/\Wt a u m (s+1) r q
def Wf (a:Au) (u:Nat->Int) (m s:Nat) (p q:Int):Prop:=∃ i f,i < m/\f∈a.2.2.2.2.1/\Wt a u i s p f/\Wt a u (m - i) (s+i) f q
section
variable {a:Au} {u:Nat->Int} {h len:Nat}
theorem Wt.add {k:Nat}:∀ {m s:Nat} {p q:Int},Wt a u (m+k) s p q↔∃ r,Wt a u m s p r/\Wt a u k (s+m) r q
 | 0,s,p,q=>by
  rw [Nat.zero_add];exact ⟨fun g=>⟨p,rfl,g⟩,fun ⟨r,b,d⟩=>by cases b;exact d⟩
 | m+1,s,p,q=>by
  rw [show m+1+k=(m+k)+1 by omega];have e:s+(m+1)=s+1+m:=by omega
  constructor
  ·rintro ⟨r,b,d⟩;obtain ⟨x,f,c⟩:=Wt.add.1 d;exact ⟨x,⟨r,b,f⟩,by rw [e];exact c⟩
  ·rintro ⟨x,⟨r,b,f⟩,c⟩;rw [e] at c;exact ⟨r,b,Wt.add.2 ⟨x,f,c⟩⟩
theorem Wt.comp {m k s t:Nat} {p r q:Int} (b:Wt a u m s p r) (c:Wt a u k t r q) (e:t=s+m):Wt a u (m+k) s p q:=Wt.add.2 ⟨r,b,e ▸ c⟩
theorem Wt.snoc {m s:Nat} {p q:Int}:Wt a u (m+1) s p q↔∃ r,Wt a u m s p r/\StA a r (u (s+m)) q:=by
 rw [Wt.add];exact ⟨fun ⟨r,h1,x,h2,h3⟩=>⟨r,h1,by cases h3;exact h2⟩,fun ⟨r,h1,h2⟩=>⟨r,h1,q,h2,rfl⟩⟩
theorem Wt.shift (b:∀ t,h<=t->u (t+len)=u t):∀ {m s:Nat} {p q:Int},h<=s->(Wt a u m (s+len) p q↔Wt a u m s p q)
 | 0,s,p,q,_=>Iff.rfl
 | m+1,s,p,q,hs=>by
  show (∃ r,StA a p (u (s+len)) r/\Wt a u m (s+len+1) r q)↔(∃ r,StA a p (u s) r/\Wt a u m (s+1) r q);rw [b s hs,show s+len+1=s+1+len by omega];exact exists_congr fun r=>and_congr Iff.rfl (Wt.shift b (by omega))
theorem Wt.shifts (b:∀ t,h<=t->u (t+len)=u t) {m s:Nat} {p q:Int} (hs:h<=s):∀ k:Nat,(Wt a u m (s+k * len) p q↔Wt a u m s p q)
 | 0=>by rw [Nat.zero_mul];exact Iff.rfl
 | k+1=>by
  rw [Nat.succ_mul,<- Nat.add_assoc];exact (Wt.shift b (by omega)).trans (Wt.shifts b hs k)
def Rd (a:Au) (u:Nat->Int) (h len:Nat) (p q:Int):Prop:=Wt a u len h p q
def Rf (a:Au) (u:Nat->Int) (h len:Nat) (p q:Int):Prop:=Wf a u len h p q
theorem zux (d:∀ t,h<=t->u (t+len)=u t) {p q:Int}:Star (Rd a u h len) p q↔∃ k,Wt a u (k * len) h p q:=by
 constructor
 ·intro hs;induction hs with
  | refl=>exact ⟨0,by rw [Nat.zero_mul];rfl⟩
  | tail _ r c=>
   obtain ⟨k,b⟩:=c;exact ⟨k+1,by rw [Nat.succ_mul];exact b.comp ((Wt.shifts d (Nat.le_refl h) k).2 r) rfl⟩
 ·rintro ⟨k,b⟩;induction k generalizing q with
  | zero=>rw [Nat.zero_mul] at b;cases b;exact .refl _
  | succ k c=>
   rw [Nat.succ_mul] at b;obtain ⟨r,e,f⟩:=Wt.add.1 b;exact (c e).tail ((Wt.shifts d (Nat.le_refl h) k).1 f)
theorem Rf.rd {p q:Int} (b:Rf a u h len p q):Rd a u h len p q:=by
 obtain ⟨i,f,e,_,c,d⟩:=b;have:=c.comp d rfl
 rwa [show i+(len - i)=len by omega] at this
def zpy (a:Au) (u:Nat->Int) (h len:Nat) (q:Int):Prop:=∃ x y,Star (Rd a u h len) q x/\Rf a u h len x y/\Star (Rd a u h len) y q
def FarP (a:Au) (u:Nat->Int) (h len:Nat) (q:Int):Prop:=∃ r,(∃ q0∈a.2.2.1,Wt a u h 0 q0 r)/\Star (Rd a u h len) r q
def RefA (a:Au) (u:Nat->Int) (h len:Nat):Prop:=∃ q,FarP a u h len q/\zpy a u h len q
def zEJ (a:Au) (u:Nat->Int) (h len:Nat):Prop:=∃ q0∈a.2.2.1,∃ s f,Wt a u s 0 q0 f/\f∈a.2.2.2.2.1/\h<=s/\∃ b,1<=b/\Wt a u (b * len) s f f
theorem zCG (L:0 < len) (e:∀ t,h<=t->u (t+len)=u t):RefA a u h len↔zEJ a u h len:=by
 constructor
 ·rintro ⟨q,⟨r,⟨n,m,p⟩,hrq⟩,x,y,hqx,⟨i,f,hi,w,j,hfy⟩,hyq⟩;obtain ⟨l,Y⟩:=(zux e).1 hrq;obtain ⟨g,I⟩:=(zux e).1 hqx;obtain ⟨k,Z⟩:=(zux e).1 hyq;have O:Wt a u (h+l * len) 0 n q:=p.comp Y (by omega);have P:Wt a u (h+l * len+g * len) 0 n x:=O.comp ((Wt.shifts e (Nat.le_refl h) l).2 I) (by omega);have Q:Wt a u (h+l * len+g * len+i) 0 n f:=by
   refine P.comp (t:=h+(l+g) * len) ((Wt.shifts e (Nat.le_refl h) (l+g)).2 j) ?_;rw [Nat.add_mul];omega
  refine ⟨n,m,_,f,Q,w,by omega,1+k+g,by omega,?_⟩;have c1:Wt a u (len - i+k * len) (h+i) f q:=hfy.comp (t:=h+1 * len) ((Wt.shifts e (Nat.le_refl h) 1).2 Z) (by omega);have R:Wt a u (len - i+k * len+g * len) (h+i) f x:=by
   refine c1.comp (t:=h+(1+k) * len) ((Wt.shifts e (Nat.le_refl h) (1+k)).2 I) ?_;rw [Nat.add_mul];omega
  have S:Wt a u (len - i+k * len+g * len+i) (h+i) f f:=by
   refine R.comp (t:=h+(1+k+g) * len) ((Wt.shifts e (Nat.le_refl h) (1+k+g)).2 j) ?_;rw [Nat.add_mul,Nat.add_mul];omega
  have E:=(Wt.shifts e (show h<=h+i by omega) (l+g)).2 S;rw [show len - i+k * len+g * len+i=(1+k+g) * len by rw [Nat.add_mul,Nat.add_mul];omega,show h+i+(l+g) * len=h+l * len+g * len+i by rw [Nat.add_mul];omega] at E;exact E
 ·rintro ⟨n,m,s,f,p,w,hs,b,hb,J⟩;obtain ⟨c,d,hd,es⟩:∃ c d,d < len/\s=h+c * len+d:=⟨(s - h) / len,(s - h) % len,Nat.mod_lt _ L,by
   have:=Nat.div_add_mod (s - h) len;rw [Nat.mul_comm] at this;omega⟩
  subst es;obtain ⟨x,hx,j⟩:=Wt.add.1 p;obtain ⟨r,hr,o⟩:=Wt.add.1 hx;rw [Nat.zero_add] at o j;obtain ⟨b,rfl⟩:∃ M,b=M+1:=⟨b - 1,by omega⟩;rw [show (b+1) * len=(len - d)+(b * len+d) by rw [Nat.succ_mul];omega] at J;obtain ⟨y,A,B⟩:=Wt.add.1 J;obtain ⟨z,C,D⟩:=Wt.add.1 B;have F:h+c * len+d+(len - d)=h+(c+1) * len:=by rw [Nat.succ_mul];omega
  have T:h+c * len+d+(len - d)+b * len=h+(c+1+b) * len:=by rw [F,Nat.add_mul (c+1)];omega
  have U:Wt a u d h x f:=(Wt.shifts e (Nat.le_refl h) c).1 j;have V:Wt a u (len - d) (h+d) f y:=by
   refine (Wt.shifts e (show h<=h+d by omega) c).1 ?_;rw [show h+d+c * len=h+c * len+d by omega];exact A
  have W:Wt a u (b * len) h y z:=(Wt.shifts e (Nat.le_refl h) (c+1)).1 (by rw [<- F];exact C);have X:Wt a u d h z f:=(Wt.shifts e (Nat.le_refl h) (c+1+b)).1 (by rw [<- T];exact D);have H:∀ {v},Wt a u d h v f->Rf a u h len v y:=fun N=>⟨d,f,hd,w,N,V⟩
  exact ⟨y,⟨r,⟨n,m,hr⟩,((zux e).2 ⟨c,o⟩).tail (H U).rd⟩,z,y,(zux e).2 ⟨b,W⟩,H X,.refl y⟩
theorem StA.b (b:AuOk a) {p x q:Int} (c:StA a p x q):(0<=p/\p < a.2.1)/\(0<=q/\q < a.2.1):=⟨(b.sb _ c).1,(b.sb _ c).2.2⟩
theorem Wt.b (b:AuOk a):∀ {m s:Nat} {p q:Int},Wt a u m s p q->0<=p->p < a.2.1->0<=q/\q < a.2.1
 | 0,_,_,_,h,p0,p1=>by cases h;exact ⟨p0,p1⟩
 | _+1,_,_,_,⟨_,h1,h2⟩,_,_=>Wt.b b h2 (h1.b b).2.1 (h1.b b).2.2
def nots (P:Int->Bool):Nat->Nat
 | 0=>0
 | k+1=>nots P k+(if P (k:Int)=true then 0 else 1)
theorem zws {P Q:Int->Bool}:∀ {n:Nat},(∀ k:Int,0<=k->k < n->P k=true->Q k=true)->nots Q n<=nots P n
 | 0,_=>Nat.le_refl _
 | n+1,hh=>by
  have b:=zws (n:=n) (fun k a e=>hh k a (by omega));have d:=hh n (by omega) (by omega);unfold nots;by_cases c:P (n:Int)=true
  ·rw [if_pos c,if_pos (d c)];exact b
  ·rw [if_neg c];split<;>omega
theorem zwt {P Q:Int->Bool}:∀ {n:Nat},(∀ k:Int,0<=k->k < n->P k=true->Q k=true)->(∃ k:Int,0<=k/\k < n/\Q k=true /\ ¬ P k=true)->nots Q n < nots P n
 | 0,_,⟨k,a,b,_⟩=>by omega
 | n+1,hh,⟨k,a,b,hq,hp⟩=>by
  have d:∀ k:Int,0<=k->k < n->P k=true->Q k=true:=fun k a b=>hh k a (by omega)
  unfold nots;by_cases e:k=n
  ·subst e;rw [if_pos hq,if_neg hp];have:=zws d;omega
  ·have f:=zwt d ⟨k,a,by omega,hq,hp⟩;have g:=hh n (by omega) (by omega);by_cases c:P (n:Int)=true
   ·rw [if_pos c,if_pos (g c)];exact f
   ·rw [if_neg c];split<;>omega
end
theorem zBB {α:Type} [DecidableEq α]:∀ {l U:List α},l.Nodup->(∀ x∈l,x∈U)->l.length<=U.length
 | [],_,_,_=>Nat.zero_le _
 | a::l,U,hn,hs=>by
  have c:=hs a (by simp);obtain ⟨d,e⟩:=List.nodup_cons.1 hn;have:=zBB (U:=U.erase a) e (fun x b=>(List.mem_erase_of_ne (by rintro rfl;exact d b)).2 (hs x (by simp [b])));rw [List.length_erase_of_mem c] at this;have f:0 < U.length:=List.length_pos_of_mem c;rw [List.length_cons];omega
theorem zz8 {l:List Int} {n:Nat} (h:l.Nodup) (a:∀ x∈l,0<=x/\x < n):l.length<=n:=by
 have:=zBB (U:=(List.range n).map Int.ofNat) h (fun x b=>by
  have:=a x b;exact List.mem_map.2 ⟨x.toNat,List.mem_range.2 (by omega),by show ((x.toNat:Nat):Int)=x;omega⟩)
 simpa using this
section
variable {a:Au} {u:Nat->Int} {h len:Nat}
theorem zty (s:AuOk a) {B:List Bool} (M:(B.length:Int)=a.2.1) (x:Int):∃ o,zxr a B x=some o/\(o.length:Int)=a.2.1/\∀ q:Int,0<=q->q < a.2.1->(ix o q=true↔∃ p,ix B p=true/\StA a p x q):=by
 have D:=s.sl;have N:=s.n1;have v:∀ (m:Nat) (i:Int) (o:List Bool),0<=i->i+m=a.2.2.2.1.length->(o.length:Int)=a.2.1->
   (∀ q:Int,0<=q->q < a.2.1->(ix o q=true↔∃ k:Int,0<=k/\k < i/\ix B (ix a.2.2.2.1 k).1=true/\(ix a.2.2.2.1 k).2.1=x/\(ix a.2.2.2.1 k).2.2.1=q))->
   ∃ j,zq4 a B x i o=some j/\(j.length:Int)=a.2.1/\∀ q:Int,0<=q->q < a.2.1->(ix j q=true↔∃ k:Int,0<=k/\k < a.2.2.2.1.length/\ix B (ix a.2.2.2.1 k).1=true/\(ix a.2.2.2.1 k).2.1=x/\(ix a.2.2.2.1 k).2.2.1=q):=by
  intro m;induction m with
  | zero=>
   intro i o u C n r;refine ⟨o,?_,n,fun q f g => ?_⟩
   ·rw [zup];unfold zi9;rw [if_neg (by simp only [decide_eq_true_eq];omega)]
   ·rw [r q f g,show i=(a.2.2.2.1.length:Int) by omega]
  | succ m z=>
   intro i o u C n r;have O:=s.sb _ (zlH u (by omega:i < a.2.2.2.1.length));have old:∀ (t:Bool),(t=true↔ix B (ix a.2.2.2.1 i).1=true/\(ix a.2.2.2.1 i).2.1=x)->∃ j,znn a i o (zq4 a B x) t=some j/\(j.length:Int)=a.2.1/\∀ q:Int,0<=q->q < a.2.1->(ix j q=true↔∃ k:Int,0<=k/\k < a.2.2.2.1.length/\ix B (ix a.2.2.2.1 k).1=true/\(ix a.2.2.2.1 k).2.1=x/\(ix a.2.2.2.1 k).2.2.1=q):=by
    intro t l;unfold znn;cases t with
    | true=>
     have l:=l.1 rfl;rw [if_pos rfl,zae (by omega),zae (by omega),zae (by unfold fits;omega)];refine z (i+1) _ (by omega) (by omega) (by rw [List.length_set];exact n) (fun q f g => ?_);by_cases e:(ix a.2.2.2.1 i).2.2.1=q
     ·rw [e,zfM f (by omega)];exact ⟨fun _=>⟨i,u,by omega,l.1,l.2,e⟩,fun _=>rfl⟩
     ·rw [zel (by omega) f e,r q f g];constructor
      ·rintro ⟨k,d,h,b⟩;exact ⟨k,d,by omega,b⟩
      ·rintro ⟨k,d,h,b⟩;by_cases w:k=i
       ·rw [w] at b;exact absurd b.2.2 e
       ·exact ⟨k,d,by omega,b⟩
    | false=>
     rw [if_neg (by decide),zae (by unfold fits;omega)];refine z (i+1) o (by omega) (by omega) n (fun q f g => ?_);rw [r q f g];constructor
     ·rintro ⟨k,d,h,b⟩;exact ⟨k,d,by omega,b⟩
     ·rintro ⟨k,d,h,b⟩;by_cases w:k=i
      ·rw [w] at b;have:=l.2 ⟨b.1,b.2.1⟩;cases this
      ·exact ⟨k,d,by omega,b⟩
   rw [zup];unfold zi9;rw [if_pos (decide_eq_true (by omega)),zae (by omega)];by_cases c:(ix a.2.2.2.1 i).2.1=x
   ·rw [if_pos (decide_eq_true c),zae (by omega)];exact old _ (by simp [c])
   ·rw [if_neg (by simpa using c)];exact old false (by simp [c])
 obtain ⟨o,e,F,H⟩:=v a.2.2.2.1.length 0 (List.replicate a.2.1.toNat false) (by omega) (by omega) (by rw [List.length_replicate];omega) (fun q f g=>by
  rw [zjv f (by omega)];exact ⟨fun A=>(by cases A),fun ⟨k,d,h,_⟩=>by omega⟩)
 refine ⟨o,by unfold zxr;rw [zae (by unfold mkOK;omega)];exact e,F,fun q f g=>(H q f g).trans ⟨?_,?_⟩⟩
 ·rintro ⟨k,d,h,b,I,J⟩;have E:=zlH d h;exact ⟨_,b,by unfold StA;rw [<- I,<- J];exact E⟩
 ·rintro ⟨p,L,hs⟩;obtain ⟨k,d,h,e⟩:=(zv6 (P:=fun y=>y=(p,x,q,()))).1 ⟨_,hs,rfl⟩;exact ⟨k,d,h,by rw [e];exact L,by rw [e],by rw [e]⟩
theorem Wf.snoc {m s:Nat} {p q:Int}:Wf a u (m+1) s p q↔∃ r,(Wf a u m s p r\/(Wt a u m s p r/\r∈a.2.2.2.2.1))/\StA a r (u (s+m)) q:=by
 constructor
 ·rintro ⟨i,f,j,b,d,e⟩;by_cases c:i=m
  ·subst c;rw [show i+1 - i=0+1 by omega] at e;obtain ⟨r,g,h⟩:=Wt.snoc.1 e;cases g;exact ⟨f,.inr ⟨d,b⟩,by rw [show s+i+0=s+i by omega] at h;exact h⟩
  ·rw [show m+1 - i=(m - i)+1 by omega] at e;obtain ⟨r,g,h⟩:=Wt.snoc.1 e;exact ⟨r,.inl ⟨i,f,by omega,b,d,g⟩,by rw [show s+i+(m - i)=s+m by omega] at h;exact h⟩
 ·rintro ⟨r,⟨i,f,j,b,d,e⟩ | ⟨d,b⟩,g⟩
  ·refine ⟨i,f,by omega,b,d,?_⟩;rw [show m+1 - i=(m - i)+1 by omega];exact Wt.snoc.2 ⟨r,e,by rw [show s+i+(m - i)=s+m by omega];exact g⟩
  ·refine ⟨m,r,by omega,b,d,?_⟩;rw [show m+1 - m=0+1 by omega];exact ⟨q,g,rfl⟩
def FinB (a:Au) (F:List Bool):Prop:=(F.length:Int)=a.2.1/\∀ q:Int,0<=q->q < a.2.1->(ix F q=true↔q∈a.2.2.2.2.1)
abbrev RB:=Bool->List Bool->List Bool->Option Bool
theorem zC9 (l:AuOk a) {L F:List Bool} {loop:List Int} {i:Int} (y:FinB a F) {p:List Bool} (B:(p.length:Int)=a.2.1) {r10:Int->List Bool->List Bool->Option Bool} (O:0<=i) (P:i < loop.length) (z:loop.length<=1000):
  ∀ (m:Nat) (k:Int) (g:List Bool),0<=k->k+m=a.2.1->(g.length:Int)=a.2.1->∃ d f,zeg a loop F i p r10 k g=r10 (i+1) d f/\(d.length:Int)=a.2.1/\(f.length:Int)=a.2.1/\
   (∀ q:Int,0<=q->q < a.2.1->(ix d q=true↔∃ r,ix p r=true/\StA a r (ix loop i) q))/\
   (∀ q:Int,0<=q->q < a.2.1->(ix f q=true↔∃ r,(ix g r=true\/(k<=r/\ix p r=true/\r∈a.2.2.2.2.1))/\StA a r (ix loop i) q)):=by
 have Q:=l.n1;have H:(a.1,a.2.1,a.2.2.1,a.2.2.2.1,a.2.2.2.2.1,())=a:=rfl;intro m;induction m with
 | zero=>
  intro k g n D v;obtain ⟨d,J,l1,w⟩:=zty l B (ix loop i);obtain ⟨f,M,l2,x⟩:=zty l v (ix loop i);refine ⟨d,f,?_,l1,l2,w,fun q t u=>(x q t u).trans (exists_congr fun r => ?_)⟩
  ·rw [ziw];unfold zds;rw [if_neg (by simp only [decide_eq_true_eq];omega),zae (by omega),H];refine zde J ?_;rw [zae (by omega)];refine zde M ?_;rw [zae (by unfold fits;omega)]
  ·constructor
   ·rintro ⟨j,s⟩;exact ⟨.inl j,s⟩
   ·rintro ⟨j | ⟨j,_,_⟩,s⟩
    ·exact ⟨j,s⟩
    ·have:=(s.b l).1;omega
 | succ m N=>
  intro k g n D v;have fin:∀ (b:Bool),(b=true↔ix g k=true\/(ix p k=true/\k∈a.2.2.2.2.1))->zeg a loop F i p r10 k g=zeg a loop F i p r10 (k+1) (g.set k.toNat b)->∃ d f,zeg a loop F i p r10 k g=r10 (i+1) d f/\(d.length:Int)=a.2.1/\(f.length:Int)=a.2.1/\
   (∀ q:Int,0<=q->q < a.2.1->(ix d q=true↔∃ r,ix p r=true/\StA a r (ix loop i) q))/\
   (∀ q:Int,0<=q->q < a.2.1->(ix f q=true↔∃ r,(ix g r=true\/(k<=r/\ix p r=true/\r∈a.2.2.2.2.1))/\StA a r (ix loop i) q)):=by
   intro b E e;obtain ⟨d,f,e',l1,l2,w,x⟩:=N (k+1) (g.set k.toNat b) (by omega) (by omega) (by rw [List.length_set];exact v);refine ⟨d,f,e.trans e',l1,l2,w,fun q t u=>(x q t u).trans (exists_congr fun r => ?_)⟩;refine and_congr_left fun hs => ?_
   have I:=(hs.b l).1;by_cases A:r=k
   ·subst A;rw [zfM n (by omega),E];constructor
    ·rintro (j | ⟨j,_⟩)
     ·exact j.imp id (fun h=>⟨Int.le_refl _,h⟩)
     ·omega
    ·rintro (j | ⟨_,j⟩)
     ·exact .inl (.inl j)
     ·exact .inl (.inr j)
   ·rw [zel n I.1 (fun C=>A C.symm)];exact or_congr Iff.rfl (and_congr (by omega) Iff.rfl)
  by_cases c:ix g k=true
  ·refine fin true (by simp [c]) ?_
   conv=>lhs;rw [ziw];unfold zds
   rw [if_pos (decide_eq_true (by omega)),zae (by omega),zae (by omega),if_pos c,zae (by omega),zae (by omega),zae (by unfold fits;omega)]
  ·by_cases o:ix p k=true
   ·refine fin (ix F k) (by rw [y.2 k n (by omega)];simp [c,o]) ?_;have:=y.1
    conv=>lhs;rw [ziw];unfold zds
    rw [if_pos (decide_eq_true (by omega)),zae (by omega),zae (by omega),if_neg c,zae (by omega),zae (by omega),if_pos o,zae (by omega),zae (by omega),zae (by omega),zae (by unfold fits;omega)]
   ·refine fin false (by simp [c,o]) ?_
    conv=>lhs;rw [ziw];unfold zds
    rw [if_pos (decide_eq_true (by omega)),zae (by omega),zae (by omega),if_neg c,zae (by omega),zae (by omega),if_neg o,zae (by omega),zae (by omega),zae (by unfold fits;omega)]
theorem zDc (B:AuOk a) {p g:List Bool} (I:(p.length:Int)=a.2.1) (J:(g.length:Int)=a.2.1) {r5:RB}:∀ (m:Nat) (k:Int) (l:Bool) (P Q:List Bool),0<=k->k+m=a.2.1->(P.length:Int)=a.2.1->(Q.length:Int)=a.2.1->
  ∃ f r s,zb7 a r5 p g l k P Q=r5 f r s/\(r.length:Int)=a.2.1/\(s.length:Int)=a.2.1/\
   (∀ q:Int,0<=q->q < a.2.1->(ix r q=true↔ix P q=true\/(k<=q/\ix p q=true)))/\(∀ q:Int,0<=q->q < a.2.1->(ix s q=true↔ix Q q=true\/(k<=q/\ix g q=true)))/\
   (f=true↔l=true\/∃ q:Int,k<=q/\q < a.2.1/\((ix p q=true /\ ¬ ix P q=true)\/(ix g q=true /\ ¬ ix Q q=true))):=by
 have L:=B.n1;intro m;induction m with
 | zero=>
  intro k l P Q n C u x;refine ⟨l,P,Q,?_,u,x,fun q h t => ?_,fun q h t => ?_,?_⟩
  ·rw [zeo];unfold zcc;rw [if_neg (by simp only [decide_eq_true_eq];omega)]
  ·exact ⟨.inl,fun i=>i.elim id (fun i=>by omega)⟩
  ·exact ⟨.inl,fun i=>i.elim id (fun i=>by omega)⟩
  ·exact ⟨.inl,fun i=>i.elim id (fun ⟨q,h1,h2,_⟩=>by omega)⟩
 | succ m H=>
  intro k l P Q n C u x;have v:∀ b z,zgM g k Q (zb7 a r5 p g) b z=zb7 a r5 p g b (k+1) z (Q.set k.toNat (ix Q k || ix g k)):=by
   intro b z;unfold zgM;rw [zae (by omega),zae (by omega)];by_cases c:ix Q k=true
   ·rw [if_pos c,zae (by omega),zae (by omega),zae (by unfold fits;omega),c];rfl
   ·rw [if_neg c,zae (by omega),zae (by omega),zae (by omega),zae (by omega),zae (by unfold fits;omega),Bool.eq_false_iff.2 c];rfl
  have A:∀ b,zcW p g k P Q (zb7 a r5 p g) b=zb7 a r5 p g b (k+1) (P.set k.toNat (ix P k || ix p k)) (Q.set k.toNat (ix Q k || ix g k)):=by
   intro b;unfold zcW;rw [zae (by omega),zae (by omega)];by_cases c:ix P k=true
   ·rw [if_pos c,zae (by omega),zae (by omega),v,c];rfl
   ·rw [if_neg c,zae (by omega),zae (by omega),zae (by omega),zae (by omega),v,Bool.eq_false_iff.2 c];rfl
  obtain ⟨b,w,e⟩:∃ b,(b=true↔l=true\/(ix p k=true /\ ¬ ix P k=true)\/(ix g k=true /\ ¬ ix Q k=true))/\zb7 a r5 p g l k P Q=zcW p g k P Q (zb7 a r5 p g) b:=by
   by_cases d:l=true
   ·refine ⟨true,by simp [d],?_⟩;rw [zeo];unfold zcc;rw [if_pos (decide_eq_true (by omega)),if_pos d]
   by_cases c1:ix p k=true
   ·by_cases o:ix P k=true
    ·by_cases j:ix g k=true
     ·refine ⟨!(ix Q k),by simp [d,o,j],?_⟩;rw [zeo];unfold zcc;rw [if_pos (decide_eq_true (by omega)),if_neg d,zae (by omega),zae (by omega),if_pos c1,zae (by omega),zae (by omega),if_neg (by simp [o]),zae (by omega),zae (by omega),if_pos j,zae (by omega),zae (by omega)]
     ·refine ⟨false,by simp [d,o,j],?_⟩;rw [zeo];unfold zcc;rw [if_pos (decide_eq_true (by omega)),if_neg d,zae (by omega),zae (by omega),if_pos c1,zae (by omega),zae (by omega),if_neg (by simp [o]),zae (by omega),zae (by omega),if_neg j]
    ·refine ⟨true,by simp [c1,o],?_⟩;rw [zeo];unfold zcc;rw [if_pos (decide_eq_true (by omega)),if_neg d,zae (by omega),zae (by omega),if_pos c1,zae (by omega),zae (by omega),if_pos (by simp [o])]
   ·by_cases j:ix g k=true
    ·refine ⟨!(ix Q k),by simp [d,c1,j],?_⟩;rw [zeo];unfold zcc;rw [if_pos (decide_eq_true (by omega)),if_neg d,zae (by omega),zae (by omega),if_neg c1,zae (by omega),zae (by omega),if_pos j,zae (by omega),zae (by omega)]
    ·refine ⟨false,by simp [d,c1,j],?_⟩;rw [zeo];unfold zcc;rw [if_pos (decide_eq_true (by omega)),if_neg d,zae (by omega),zae (by omega),if_neg c1,zae (by omega),zae (by omega),if_neg j]
  obtain ⟨f,r,s,e',l1,l2,D,E,F⟩:=H (k+1) b (P.set k.toNat (ix P k || ix p k)) (Q.set k.toNat (ix Q k || ix g k)) (by omega) (by omega) (by rw [List.length_set];exact u) (by rw [List.length_set];exact x);have st:∀ (P p:List Bool),(P.length:Int)=a.2.1->∀ q:Int,0<=q->(ix (P.set k.toNat (ix P k || ix p k)) q=true\/(k+1<=q/\ix p q=true)↔ix P q=true\/(k<=q/\ix p q=true)):=by
   intro P p u q h;by_cases y:q=k
   ·subst y;rw [zfM n (by omega),Bool.or_eq_true];constructor
    ·rintro ((h1 | h1) | ⟨h1,_⟩)
     ·exact .inl h1
     ·exact .inr ⟨Int.le_refl _,h1⟩
     ·omega
    ·rintro (h1 | ⟨_,h1⟩)
     ·exact .inl (.inl h1)
     ·exact .inl (.inr h1)
   ·rw [zel n h (fun i=>y i.symm)];exact or_congr Iff.rfl (and_congr (by omega) Iff.rfl)
  refine ⟨f,r,s,by rw [e,A];exact e',l1,l2,fun q h t=>(D q h t).trans (st P p u q h),fun q h t=>(E q h t).trans (st Q g x q h),?_⟩;rw [F,w];constructor
  ·rintro ((h1 | h1) | ⟨q,h1,h2,h3⟩)
   ·exact .inl h1
   ·exact .inr ⟨k,Int.le_refl _,by omega,h1⟩
   ·rw [zel n (by omega) (by omega),zel n (by omega) (by omega)] at h3;exact .inr ⟨q,by omega,h2,h3⟩
  ·rintro (h1 | ⟨q,h1,h2,h3⟩)
   ·exact .inl (.inl h1)
   ·by_cases y:q=k
    ·rw [y] at h3;exact .inl (.inr h3)
    ·refine .inr ⟨q,by omega,h2,?_⟩;rw [zel n (by omega) (by omega),zel n (by omega) (by omega)];exact h3
end
section
variable {a:Au} {u:Nat->Int} {h len:Nat}
def Ms (a:Au) (B:List Bool) (x:Int):Prop:=(0<=x/\x < a.2.1)/\ix B x=true
structure RInv (a:Au) (u:Nat->Int) (h:Nat) (P Q:List Bool) (i:Nat) (p g:List Bool):Prop where
 lp:(p.length:Int)=a.2.1
 lg:(g.length:Int)=a.2.1
 p:∀ q:Int,0<=q->q < a.2.1->(ix p q=true↔∃ x,Ms a P x/\Wt a u i h x q)
 g:∀ q:Int,0<=q->q < a.2.1->(ix g q=true↔(∃ x,Ms a Q x/\Wt a u i h x q)\/∃ x,Ms a P x/\Wf a u i h x q)
theorem zC7 (l:AuOk a) {F:List Bool} (C:FinB a F) {loop:List Int} (n:loop.length<=1000) (N:loop.length=len) (D:∀ i:Nat,i < len->ix loop (i:Int)=u (h+i)) {q:Int} (O:0<=q) (R:q < a.2.1) {P Q:List Bool} {r5:RB}:
  ∀ (m i:Nat) (p g:List Bool),i+m=len->RInv a u h P Q i p g->∃ t o,zfC a loop F q P Q r5 (i:Int) p g=(if ix o q=true then some true else zb7 a r5 t o false 0 P Q)/\RInv a u h P Q len t o:=by
 intro m;induction m with
 | zero=>
  intro i p g E j;have:i=len:=by omega
  subst this;have:=j.lg;refine ⟨p,g,?_,j⟩;rw [zoG];unfold zeZ;rw [if_neg (by simp only [decide_eq_true_eq];omega),zae (by omega),zae (by omega)]
 | succ m M=>
  intro i p g E j;have S:=l.n1;obtain ⟨A,B,H,l1,l2,I,J⟩:=zC9 l (L:=p) (i:=(i:Int)) C j.lp (loop:=loop) (r10:=zfC a loop F q P Q r5) (by omega) (by omega) n a.2.1.toNat 0 g (by omega) (by omega) j.lg;have s:=D i (by omega);have z:RInv a u h P Q (i+1) A B:=by
   refine ⟨l1,l2,fun y v w => ?_,fun y v w => ?_⟩
   ·rw [I y v w,s];constructor
    ·rintro ⟨r,f,c⟩;have b:=(c.b l).1;obtain ⟨x,e,d⟩:=(j.p r b.1 b.2).1 f;exact ⟨x,e,Wt.snoc.2 ⟨r,d,c⟩⟩
    ·rintro ⟨x,e,f⟩;obtain ⟨r,c,k⟩:=Wt.snoc.1 f;have b:=(k.b l).1;exact ⟨r,(j.p r b.1 b.2).2 ⟨x,e,c⟩,k⟩
   ·rw [J y v w,s];constructor
    ·rintro ⟨r,f,c⟩;have b:=(c.b l).1;rcases f with f | ⟨_,f,hf⟩
     ·rcases (j.g r b.1 b.2).1 f with ⟨x,e,d⟩ | ⟨x,e,d⟩
      ·exact .inl ⟨x,e,Wt.snoc.2 ⟨r,d,c⟩⟩
      ·exact .inr ⟨x,e,Wf.snoc.2 ⟨r,.inl d,c⟩⟩
     ·obtain ⟨x,e,d⟩:=(j.p r b.1 b.2).1 f;exact .inr ⟨x,e,Wf.snoc.2 ⟨r,.inr ⟨d,hf⟩,c⟩⟩
    ·rintro (⟨x,e,f⟩ | ⟨x,e,f⟩)
     ·obtain ⟨r,c,k⟩:=Wt.snoc.1 f;have b:=(k.b l).1;exact ⟨r,.inl ((j.g r b.1 b.2).2 (.inl ⟨x,e,c⟩)),k⟩
     ·obtain ⟨r,c,k⟩:=Wf.snoc.1 f;have b:=(k.b l).1;rcases c with c | ⟨c,hf⟩
      ·exact ⟨r,.inl ((j.g r b.1 b.2).2 (.inr ⟨x,e,c⟩)),k⟩
      ·exact ⟨r,.inr ⟨b.1,(j.p r b.1 b.2).2 ⟨x,e,c⟩,hf⟩,k⟩
  obtain ⟨t,o,e',h'⟩:=M (i+1) A B (by omega) z;refine ⟨t,o,?_,h'⟩;rw [<- e',zoG];unfold zeZ;rw [if_pos (decide_eq_true (by omega)),H];rfl
open Classical in
theorem zEH (C:AuOk a) {F:List Bool} (hF:FinB a F) {loop:List Int} (D:loop.length<=1000) (hL:loop.length=len) (hw:∀ i:Nat,i < len->ix loop (i:Int)=u (h+i)) {q:Int} (L:0<=q) (M:q < a.2.1):
  ∀ (f:Nat) (P Q:List Bool),nots (ix P) a.2.1.toNat+nots (ix Q) a.2.1.toNat=f->(P.length:Int)=a.2.1->(Q.length:Int)=a.2.1->ix P q=true->(∀ k,Ms a P k->Star (Rd a u h len) q k)->
   (∀ k,Ms a Q k->∃ x y,Star (Rd a u h len) q x/\Rf a u h len x y/\Star (Rd a u h len) y k)->zgN a loop F q true P Q=some (decide (zpy a u h len q)):=by
 intro f;induction f using Nat.strongRecOn with
 | _ f m=>
 intro P Q hf hP hQ I R iQ;have hn:=C.n1;have start:RInv a u h P Q 0 P Q:=by
  refine ⟨hP,hQ,fun y E H => ?_,fun y E H => ?_⟩
  ·exact ⟨fun O=>⟨y,⟨⟨E,H⟩,O⟩,rfl⟩,fun ⟨x,d,e⟩=>by cases e;exact d.2⟩
  ·refine ⟨fun O => .inl ⟨y,⟨⟨E,H⟩,O⟩,rfl⟩,?_⟩;rintro (⟨x,d,e⟩ | ⟨x,d,i,f,hi,_⟩)
   ·cases e;exact d.2
   ·omega
 obtain ⟨p,g,e1,A⟩:=zC7 C hF D hL hw L M (P:=P) (Q:=Q) (r5:=zgN a loop F q) len 0 P Q (by omega) start;have e0:zgN a loop F q true P Q=(if ix g q=true then some true else zb7 a (zgN a loop F q) p g false 0 P Q):=by
  rw [zpQ];unfold zfO;rw [if_pos rfl,zae (by unfold room;simp;omega),zae (by unfold room;simp;omega),List.nil_append,List.nil_append];exact e1
 have sg:∀ y,0<=y->y < a.2.1->ix g y=true->∃ x z,Star (Rd a u h len) q x/\Rf a u h len x z/\Star (Rd a u h len) z y:=by
  intro y E H hy;rcases (A.g y E H).1 hy with ⟨x,d,B⟩ | ⟨x,d,B⟩
  ·obtain ⟨v,z,t,n,l⟩:=iQ x d;exact ⟨v,z,t,n,l.tail B⟩
  ·exact ⟨x,y,R x d,B,.refl y⟩
 rw [e0];by_cases c:ix g q=true
 ·rw [if_pos c,decide_eq_true (show zpy a u h len q from sg q L M c)]
 ·rw [if_neg c];obtain ⟨ag,X,Y,e2,l1,l2,N,Z,s3⟩:=zDc C A.lp A.lg (r5:=zgN a loop F q) a.2.1.toNat 0 false P Q (by omega) (by omega) hP hQ;rw [e2];cases ag with
  | true=>
   have l:=s3.1 rfl;have mP:∀ k:Int,0<=k->k < (a.2.1.toNat:Int)->ix P k=true->ix X k=true:=fun k j s b=>(N k j (by omega)).2 (.inl b)
   have mQ:∀ k:Int,0<=k->k < (a.2.1.toNat:Int)->ix Q k=true->ix Y k=true:=fun k j s b=>(Z k j (by omega)).2 (.inl b)
   have S:nots (ix X) a.2.1.toNat+nots (ix Y) a.2.1.toNat < f:=by
    rcases l with l | ⟨k,j,s,l | l⟩
    ·cases l
    ·have:=zwt mP ⟨k,j,by omega,(N k j s).2 (.inr ⟨j,l.1⟩),l.2⟩;have:=zws mQ;omega
    ·have:=zwt mQ ⟨k,j,by omega,(Z k j s).2 (.inr ⟨j,l.1⟩),l.2⟩;have:=zws mP;omega
   refine m _ S X Y rfl l1 l2 ((N q L M).2 (.inl I)) (fun k b => ?_) (fun k b => ?_)
   ·rcases (N k b.1.1 b.1.2).1 b.2 with h4 | ⟨_,h4⟩
    ·exact R k ⟨b.1,h4⟩
    ·obtain ⟨x,d,hxk⟩:=(A.p k b.1.1 b.1.2).1 h4;exact (R x d).tail hxk
   ·rcases (Z k b.1.1 b.1.2).1 b.2 with h4 | ⟨_,h4⟩
    ·exact iQ k ⟨b.1,h4⟩
    ·exact sg k b.1.1 b.1.2 h4
  | false=>
   have J:∀ k:Int,0<=k->k < a.2.1->(ix p k=true->ix P k=true)/\(ix g k=true->ix Q k=true):=fun k j s=>by
    constructor
    ·intro t;by_cases n:ix P k=true
     ·exact n
     ·have:=s3.2 (.inr ⟨k,j,s,.inl ⟨t,n⟩⟩);cases this
    ·intro t;by_cases n:ix Q k=true
     ·exact n
     ·have:=s3.2 (.inr ⟨k,j,s,.inr ⟨t,n⟩⟩);cases this
   have T : ¬ zpy a u h len q:=by
    rintro ⟨x,y,t,n,l⟩;have U:∀ x,Star (Rd a u h len) q x->Ms a P x:=by
     intro x d;induction d with
     | refl=>exact ⟨⟨L,M⟩,I⟩
     | tail _ r m=>
      have o:=Wt.b C r m.1.1 m.1.2;exact ⟨o,(J _ o.1 o.2).1 ((A.p _ o.1 o.2).2 ⟨_,m,r⟩)⟩
    have d:=U x t;have w:=Wt.b C n.rd d.1.1 d.1.2;have V:=(A.g y w.1 w.2).2 (.inr ⟨x,d,n⟩);have W:∀ z,Star (Rd a u h len) y z->(0<=z/\z < a.2.1)/\ix g z=true:=by
     intro z hz;induction hz with
     | refl=>exact ⟨w,V⟩
     | tail _ r m=>
      have o:=Wt.b C r m.1.1 m.1.2;exact ⟨o,(A.g _ o.1 o.2).2 (.inl ⟨_,⟨m.1,(J _ m.1.1 m.1.2).2 m.2⟩,r⟩)⟩
    exact c (W q l).2
   rw [decide_eq_false T,zpQ];unfold zfO;rw [if_neg (by decide)]
open Classical in
theorem zAo (f:AuOk a) {F:List Bool} (j:FinB a F) {loop:List Int} (c:loop.length<=1000) (l:loop.length=len) (m:∀ i:Nat,i < len->ix loop (i:Int)=u (h+i)) {q:Int} (d:0<=q) (n:q < a.2.1):ztl a loop F q=some (decide (zpy a u h len q)):=by
 have p:=f.n1;have g:((List.replicate a.2.1.toNat false).length:Int)=a.2.1:=by rw [List.length_replicate];omega
 unfold ztl;rw [zae (by unfold mkOK;omega),zae (by unfold mkOK;omega),zae (by omega),zae (by omega)];refine zEH f j c l m d n _ _ _ rfl (by rw [List.length_set];exact g) g (zfM d (by omega)) (fun k b => ?_) (fun k b => ?_)
 ·by_cases e:k=q
  ·rw [e];exact .refl _
  ·have:=b.2;rw [zel d b.1.1 (fun o=>e o.symm),zjv b.1.1 (by have:=b.1.2;omega)] at this;cases this
 ·have:=b.2;rw [zjv b.1.1 (by have:=b.1.2;omega)] at this;cases this
end
section
variable {a:Au} {u:Nat->Int} {h len:Nat} {l:List Int×List Int×Unit}
theorem zDb (t:AuOk a) {N:List Bool} (y:(N.length:Int)=a.2.1) {r11:Bool->List Bool->Option Bool}:∀ (m:Nat) (k:Int) (f:Bool) (P:List Bool),0<=k->k+m=a.2.1->(P.length:Int)=a.2.1->
  ∃ d i,zcb a r11 N f k P=r11 d i/\(i.length:Int)=a.2.1/\(∀ q:Int,0<=q->q < a.2.1->(ix i q=true↔ix P q=true\/(k<=q/\ix N q=true)))/\
   (d=true↔f=true\/∃ q:Int,k<=q/\q < a.2.1/\ix N q=true /\ ¬ ix P q=true):=by
 have z:=t.n1;intro m;induction m with
 | zero=>
  intro k f P j u p;refine ⟨f,P,?_,p,fun q o s => ?_,?_⟩
  ·rw [zgY];unfold zck;rw [if_neg (by simp only [decide_eq_true_eq];omega)]
  ·exact ⟨.inl,fun g=>g.elim id (fun g=>by omega)⟩
  ·exact ⟨.inl,fun g=>g.elim id (fun ⟨q,h1,h2,_⟩=>by omega)⟩
 | succ m x=>
  intro k f P j u p;have r:∀ b,zdr N k P (zcb a r11 N) b=zcb a r11 N b (k+1) (P.set k.toNat (ix P k || ix N k)):=by
   intro b;unfold zdr;rw [zae (by omega),zae (by omega)];by_cases c:ix P k=true
   ·rw [if_pos c,zae (by omega),zae (by omega),zae (by unfold fits;omega),c];rfl
   ·rw [if_neg c,zae (by omega),zae (by omega),zae (by omega),zae (by omega),zae (by unfold fits;omega),Bool.eq_false_iff.2 c];rfl
  obtain ⟨b,l,e⟩:∃ b,(b=true↔f=true\/(ix N k=true /\ ¬ ix P k=true))/\zcb a r11 N f k P=zdr N k P (zcb a r11 N) b:=by
   by_cases h:f=true
   ·refine ⟨true,by simp [h],?_⟩;rw [zgY];unfold zck;rw [if_pos (decide_eq_true (by omega)),if_pos h]
   by_cases c1:ix N k=true
   ·refine ⟨!(ix P k),by simp [h,c1],?_⟩;rw [zgY];unfold zck;rw [if_pos (decide_eq_true (by omega)),if_neg h,zae (by omega),zae (by omega),if_pos c1,zae (by omega),zae (by omega)]
   ·refine ⟨false,by simp [h,c1],?_⟩;rw [zgY];unfold zck;rw [if_pos (decide_eq_true (by omega)),if_neg h,zae (by omega),zae (by omega),if_neg c1]
  obtain ⟨d,i,e',l1,v,w⟩:=x (k+1) b (P.set k.toNat (ix P k || ix N k)) (by omega) (by omega) (by rw [List.length_set];exact p);refine ⟨d,i,by rw [e,r];exact e',l1,fun q o s=>(v q o s).trans ?_,?_⟩
  ·by_cases n:q=k
   ·subst n;rw [zfM j (by omega),Bool.or_eq_true];constructor
    ·rintro ((h1 | h1) | ⟨h1,_⟩)
     ·exact .inl h1
     ·exact .inr ⟨Int.le_refl _,h1⟩
     ·omega
    ·rintro (h1 | ⟨_,h1⟩)
     ·exact .inl (.inl h1)
     ·exact .inl (.inr h1)
   ·rw [zel j o (fun g=>n g.symm)];exact or_congr Iff.rfl (and_congr (by omega) Iff.rfl)
  ·rw [w,l];constructor
   ·rintro ((h1 | h1) | ⟨q,h1,h2,h3⟩)
    ·exact .inl h1
    ·exact .inr ⟨k,Int.le_refl _,by omega,h1⟩
    ·rw [zel j (by omega) (by omega)] at h3;exact .inr ⟨q,by omega,h2,h3⟩
   ·rintro (h1 | ⟨q,h1,h2,h3⟩)
    ·exact .inl (.inl h1)
    ·by_cases n:q=k
     ·rw [n] at h3;exact .inl (.inr h3)
     ·refine .inr ⟨q,by omega,h2,?_⟩;rw [zel j (by omega) (by omega)];exact h3
theorem zDa (g:AuOk a) (t:l.2.1.length<=1000) (H:l.2.1.length=len) (w:∀ i:Nat,i < len->ix l.2.1 (i:Int)=u (h+i)) {P:List Bool} {r11:Bool->List Bool->Option Bool}:
  ∀ (m i:Nat) (N:List Bool),i+m=len->(N.length:Int)=a.2.1->(∀ q:Int,0<=q->q < a.2.1->(ix N q=true↔∃ x,Ms a P x/\Wt a u i h x q))->
   ∃ b,zeY a l r11 (i:Int) P N=zcb a r11 b false 0 P/\(b.length:Int)=a.2.1/\∀ q:Int,0<=q->q < a.2.1->(ix b q=true↔∃ x,Ms a P x/\Rd a u h len x q):=by
 have B:(a.1,a.2.1,a.2.2.1,a.2.2.2.1,a.2.2.2.2.1,())=a:=rfl;intro m;induction m with
 | zero=>
  intro i N A j d;have:i=len:=by omega
  subst this;refine ⟨N,?_,j,d⟩;rw [zmA];unfold zdP;rw [if_neg (by simp only [decide_eq_true_eq];omega)]
 | succ m F=>
  intro i N A j d;obtain ⟨o,e,lo,C⟩:=zty g j (ix l.2.1 (i:Int));have k:=w i (by omega);obtain ⟨b,e',D,E⟩:=F (i+1) o (by omega) lo (fun q y z=>by
   rw [C q y z,k];constructor
   ·rintro ⟨r,n,f⟩;have c:=(f.b g).1;obtain ⟨x,p,s⟩:=(d r c.1 c.2).1 n;exact ⟨x,p,Wt.snoc.2 ⟨r,s,f⟩⟩
   ·rintro ⟨x,p,n⟩;obtain ⟨r,f,v⟩:=Wt.snoc.1 n;have c:=(v.b g).1;exact ⟨r,(d r c.1 c.2).2 ⟨x,p,f⟩,v⟩)
  refine ⟨b,?_,D,E⟩;rw [<- e',zmA];unfold zdP;rw [if_pos (decide_eq_true (by omega)),zae (by omega),B];refine zde e ?_;rw [zae (by unfold fits;omega)];rfl
open Classical in
theorem zDe (o:AuOk a) {F:List Bool} (s:FinB a F) (d:l.2.1.length<=1000) (t:l.2.1.length=len) (v:∀ i:Nat,i < len->ix l.2.1 (i:Int)=u (h+i)) {P:List Bool} (y:(P.length:Int)=a.2.1):
  ∀ (m:Nat) (k:Int),0<=k->k+m=a.2.1->zhu a l P F k=some (decide (∃ q:Int,k<=q/\Ms a P q/\zpy a u h len q)):=by
 have x:(a.1,a.2.1,a.2.2.1,a.2.2.2.1,a.2.2.2.2.1,())=a:=rfl;have z:=o.n1;intro m;induction m with
 | zero=>
  intro k j w;rw [zmC];unfold zdR;rw [if_neg (by simp only [decide_eq_true_eq];omega),decide_eq_false];rintro ⟨q,p,b,_⟩;have:=b.1;omega
 | succ m r=>
  intro k j w;have nx : ¬ (Ms a P k/\zpy a u h len k)->(some (decide (∃ q:Int,k+1<=q/\Ms a P q/\zpy a u h len q)):Option Bool)=some (decide (∃ q:Int,k<=q/\Ms a P q/\zpy a u h len q)):=by
   intro n;refine congrArg some (decide_eq_decide.2 ⟨fun ⟨q,p,b⟩=>⟨q,by omega,b⟩,fun ⟨q,p,b⟩=>⟨q,?_,b⟩⟩);by_cases e:q=k
   ·rw [e] at b;exact absurd b n
   ·omega
  rw [zmC];unfold zdR;rw [if_pos (decide_eq_true (by omega)),zae (by omega),zae (by omega)];by_cases c:ix P k=true
  ·rw [if_neg (by simp [c]),x];refine zde (zAo o s d t v j (by omega)) ?_;by_cases f:zpy a u h len k
   ·rw [if_pos (decide_eq_true f),decide_eq_true ⟨k,Int.le_refl _,⟨⟨j,by omega⟩,c⟩,f⟩]
   ·rw [if_neg (by simpa using f),zae (by unfold fits;omega),r (k+1) (by omega) (by omega)];exact nx (fun g=>f g.2)
  ·rw [if_pos (by simp [c]),zae (by unfold fits;omega),r (k+1) (by omega) (by omega)];exact nx (fun g=>c g.1.2)
theorem zDd (p:AuOk a) {P:List Bool}:∀ (m:Nat) (k:Int) (F:List Bool),0<=k->k+m=a.2.2.2.2.1.length->(F.length:Int)=a.2.1->(∀ q:Int,0<=q->q < a.2.1->(ix F q=true↔∃ j:Int,0<=j/\j < k/\ix a.2.2.2.2.1 j=q))->
  ∃ f,zjp a l P k F=zhu a l P f 0/\FinB a f:=by
 have t:=p.lf;intro m;induction m with
 | zero=>
  intro k F h r i n;refine ⟨F,?_,i,fun q d g=>(n q d g).trans ?_⟩
  ·rw [zmB];unfold zdQ;rw [if_neg (by simp only [decide_eq_true_eq];omega)]
  ·constructor
   ·rintro ⟨j,b,o,rfl⟩;exact zlH b (by omega)
   ·intro s;obtain ⟨j,b,o,e⟩:=(zv6 (P:=fun y=>y=q)).1 ⟨q,s,rfl⟩;exact ⟨j,b,by omega,e⟩
 | succ m w=>
  intro k F h r i n;have u:=p.f _ (zlH h (by omega:k < a.2.2.2.2.1.length));obtain ⟨f,e,h'⟩:=w (k+1) (F.set (ix a.2.2.2.2.1 k).toNat true) (by omega) (by omega) (by rw [List.length_set];exact i) (fun q d g=>by
   by_cases c:ix a.2.2.2.2.1 k=q
   ·rw [c,zfM d (by omega)];exact ⟨fun _=>⟨k,h,by omega,c⟩,fun _=>rfl⟩
   ·rw [zel u.1 d c,n q d g];constructor
    ·rintro ⟨j,b,o,e⟩;exact ⟨j,b,by omega,e⟩
    ·rintro ⟨j,b,o,e⟩;by_cases v:j=k
     ·rw [v] at e;exact absurd e c
     ·exact ⟨j,b,by omega,e⟩)
  refine ⟨f,?_,h'⟩;rw [<- e]
  conv=>lhs;rw [zmB];unfold zdQ
  rw [if_pos (decide_eq_true (by omega)),zae (by omega),zae (by omega),zae (by omega),zae (by unfold fits;omega)]
open Classical in
theorem zC8 (d:AuOk a) (e:l.2.1.length<=1000) (O:l.2.1.length=len) (C:0 < len) (D:∀ i:Nat,i < len->ix l.2.1 (i:Int)=u (h+i)):
  ∀ (f:Nat) (P:List Bool),nots (ix P) a.2.1.toNat=f->(P.length:Int)=a.2.1->(∀ k,Ms a P k->FarP a u h len k)->(∀ r,(∃ p∈a.2.2.1,Wt a u h 0 p r)->Ms a P r)->
   zea a l true P=some (decide (RefA a u h len)):=by
 have X:(a.1,a.2.1,a.2.2.1,a.2.2.2.1,a.2.2.2.2.1,())=a:=rfl;have hn:=d.n1;intro f;induction f using Nat.strongRecOn with
 | _ f ih=>
 intro P hf R v w;obtain ⟨o,Z,lo,so⟩:=zty d R (ix l.2.1 0);have H:=D 0 C;obtain ⟨N,e1,lN,S⟩:=zDa d e O D (P:=P) (r11:=zea a l) (len - 1) 1 o (by omega) lo (fun q p Q=>by
  rw [so q p Q,show ix l.2.1 0=u (h+0) from H];constructor
  ·rintro ⟨r,c,b⟩;exact ⟨r,⟨(b.b d).1,c⟩,q,b,rfl⟩
  ·rintro ⟨x,L,r,c,b⟩;cases b;exact ⟨x,L.2,c⟩)
 obtain ⟨T,n,e2,l1,B,U⟩:=zDb d lN (r11:=zea a l) a.2.1.toNat 0 false P (by omega) (by omega) R;have e0:zea a l true P=zea a l T n:=by
  rw [<- e2,<- e1]
  conv=>lhs;rw [zmz];unfold zdO
  rw [if_pos rfl,if_pos (decide_eq_true (by omega)),zae (by omega),X];refine zde Z ?_;rw [zae (by unfold fits;omega)];rfl
 rw [e0];have Y:∀ k:Int,0<=k->k < (a.2.1.toNat:Int)->ix P k=true->ix n k=true:=fun k g t j=>(B k g (by omega)).2 (.inl j)
 have m:∀ k,Ms a n k->FarP a u h len k:=fun k j=>by
  rcases (B k j.1.1 j.1.2).1 j.2 with h4 | ⟨_,h4⟩
  ·exact v k ⟨j.1,h4⟩
  ·obtain ⟨x,L,M⟩:=(S k j.1.1 j.1.2).1 h4;obtain ⟨r,h5,h6⟩:=v x L;exact ⟨r,h5,h6.tail M⟩
 have y:∀ r,(∃ p∈a.2.2.1,Wt a u h 0 p r)->Ms a n r:=fun r E=>by
  have:=w r E;exact ⟨this.1,(B r this.1.1 this.1.2).2 (.inl this.2)⟩
 cases T with
 | true=>
  rcases U.1 rfl with h3 | ⟨k,g,t,h3⟩
  ·cases h3
  ·have I:nots (ix n) a.2.1.toNat < f:=by
    have:=zwt Y ⟨k,g,by omega,(B k g t).2 (.inr ⟨g,h3.1⟩),h3.2⟩;omega
   exact ih _ I n rfl l1 m y
 | false=>
  have J:∀ k:Int,0<=k->k < a.2.1->ix N k=true->ix P k=true:=fun k g t c=>by
   by_cases b:ix P k=true
   ·exact b
   ·have:=U.2 (.inr ⟨k,g,t,c,b⟩);cases this
  have z:∀ k,FarP a u h len k->Ms a n k:=by
   rintro k ⟨r,E,hs⟩;have:Ms a P k:=by
    induction hs with
    | refl=>exact w r E
    | tail _ V s=>
     have A:=Wt.b d V s.1.1 s.1.2;exact ⟨A,J _ A.1 A.2 ((S _ A.1 A.2).2 ⟨_,s,V⟩)⟩
   exact ⟨this.1,(B k this.1.1 this.1.2).2 (.inl this.2)⟩
  obtain ⟨F,e3,hF⟩:=zDd d (l:=l) (P:=n) a.2.2.2.2.1.length 0 (List.replicate a.2.1.toNat false) (by omega) (by omega) (by rw [List.length_replicate];omega) (fun q p Q=>by
   rw [zjv p (by omega)];exact ⟨fun W=>(by cases W),fun ⟨k,g,t,_⟩=>by omega⟩)
  rw [zmz];unfold zdO;rw [if_neg (by decide),zae (by unfold mkOK;omega),e3,zDe d hF e O D l1 a.2.1.toNat 0 (by omega) (by omega)];refine congrArg some (decide_eq_decide.2 ⟨fun ⟨q,_,c,b⟩=>⟨q,m q c,b⟩,fun ⟨q,c,b⟩=>⟨q,(z q c).1.1,z q c,b⟩⟩)
open Classical in
theorem zxI (f:AuOk a) (M:l.1.length<=1000) (L:l.1.length=h) (w:l.2.1.length<=1000) (N:l.2.1.length=len) (B:0 < len) (C:∀ i:Nat,i < h->ix l.1 (i:Int)=u i) (O:∀ i:Nat,i < len->ix l.2.1 (i:Int)=u (h+i)):
  zmy a l=some (decide (RefA a u h len)):=by
 have S:(a.1,a.2.1,a.2.2.1,a.2.2.2.1,a.2.2.2.2.1,())=a:=rfl;have Y:=f.n1;have T:=f.ls;have U:∀ (m i:Nat) (P:List Bool),i+m=h->(P.length:Int)=a.2.1->(∀ q:Int,0<=q->q < a.2.1->(ix P q=true↔∃ b∈a.2.2.1,Wt a u i 0 b q))->zkr a l (i:Int) P=some (decide (RefA a u h len)):=by
  intro m;induction m with
  | zero=>
   intro i P R n g;have:i=h:=by omega
   subst this;rw [znI];unfold zen;rw [if_neg (by simp only [decide_eq_true_eq];omega)];refine zC8 f w N B O _ P rfl n (fun k z => ?_) (fun r Q => ?_)
   ·exact ⟨k,(g k z.1.1 z.1.2).1 z.2,.refl _⟩
   ·obtain ⟨b,p,s⟩:=Q;have d:=Wt.b f s (f.s _ p).1 (f.s _ p).2;exact ⟨d,(g r d.1 d.2).2 ⟨b,p,s⟩⟩
  | succ m J=>
   intro i P R n g;obtain ⟨o,e,lo,W⟩:=zty f n (ix l.1 (i:Int));have D:=C i (by omega);rw [znI];unfold zen;rw [if_pos (decide_eq_true (by omega)),zae (by omega),S];refine zde e ?_;rw [zae (by unfold fits;omega)];refine J (i+1) o (by omega) lo (fun q b v => ?_);rw [W q b v,D];constructor
   ·rintro ⟨r,p,s⟩;have d:=(s.b f).1;obtain ⟨x,E,F⟩:=(g r d.1 d.2).1 p;exact ⟨x,E,Wt.snoc.2 ⟨r,F,by rw [Nat.zero_add];exact s⟩⟩
   ·rintro ⟨x,E,p⟩;obtain ⟨r,s,H⟩:=Wt.snoc.1 p;have d:=(H.b f).1;rw [Nat.zero_add] at H;exact ⟨r,(g r d.1 d.2).2 ⟨x,E,s⟩,H⟩
 have L3:∀ (m:Nat) (k:Int) (P:List Bool),0<=k->k+m=a.2.2.1.length->(P.length:Int)=a.2.1->(∀ q:Int,0<=q->q < a.2.1->(ix P q=true↔∃ j:Int,0<=j/\j < k/\ix a.2.2.1 j=q))->zkq a l k P=some (decide (RefA a u h len)):=by
  intro m;induction m with
  | zero=>
   intro k P A z n g;rw [znH];unfold zem;rw [if_neg (by simp only [decide_eq_true_eq];omega)];refine U h 0 P (by omega) n (fun q b v=>(g q b v).trans ?_);constructor
   ·rintro ⟨j,t,I,rfl⟩;exact ⟨_,zlH t (by omega),rfl⟩
   ·rintro ⟨Z,X,e⟩;cases e;obtain ⟨j,t,I,e⟩:=(zv6 (P:=fun y=>y=q)).1 ⟨q,X,rfl⟩;exact ⟨j,t,by omega,e⟩
  | succ m J=>
   intro k P A z n g;have d:=f.s _ (zlH A (by omega:k < a.2.2.1.length));rw [znH];unfold zem;rw [if_pos (decide_eq_true (by omega)),zae (by omega),zae (by omega),zae (by omega),zae (by unfold fits;omega)];refine J (k+1) (P.set (ix a.2.2.1 k).toNat true) (by omega) (by omega) (by rw [List.length_set];exact n) (fun q b v => ?_);by_cases c:ix a.2.2.1 k=q
   ·rw [c,zfM b (by omega)];exact ⟨fun _=>⟨k,A,by omega,c⟩,fun _=>rfl⟩
   ·rw [zel d.1 b c,g q b v];constructor
    ·rintro ⟨j,t,I,e⟩;exact ⟨j,t,by omega,e⟩
    ·rintro ⟨j,t,I,e⟩;by_cases V:j=k
     ·rw [V] at e;exact absurd e c
     ·exact ⟨j,t,by omega,e⟩
 unfold zmy;rw [zae (by unfold mkOK;omega)];refine L3 a.2.2.1.length 0 _ (by omega) (by omega) (by rw [List.length_replicate];omega) (fun q b v => ?_);rw [zjv b (by omega)];exact ⟨fun L=>(by cases L),fun ⟨k,A,k1,_⟩=>by omega⟩
end
def RunA (a:Au) (u:Nat->Int) (r:Nat->Int):Prop:=r 0∈a.2.2.1/\∀ t,StA a (r t) (u t) (r (t+1))
def InfA (a:Au) (u:Nat->Int):Prop:=∃ r,RunA a u r/\∀ N,∃ t,N<=t/\r t∈a.2.2.2.2.1
section
variable {a:Au} {u:Nat->Int} {h len:Nat}
theorem Wt.path:∀ {m s:Nat} {p q:Int},Wt a u m s p q->∃ r:Nat->Int,r 0=p/\r m=q/\∀ i,i < m->StA a (r i) (u (s+i)) (r (i+1))
 | 0,s,p,q,hh=>⟨fun _=>p,rfl,hh,fun i b=>by omega⟩
 | m+1,s,p,q,⟨x,h1,h2⟩=>by
  obtain ⟨r,c,d,f⟩:=Wt.path h2;refine ⟨fun i=>if i=0 then p else r (i - 1),rfl,?_,fun i b => ?_⟩
  ·show (if m+1=0 then p else r (m+1 - 1))=q;rw [if_neg (by omega),Nat.add_sub_cancel];exact d
  ·show StA a (if i=0 then p else r (i - 1)) _ (if i+1=0 then p else r (i+1 - 1));rw [if_neg (by omega : ¬ i+1=0),Nat.add_sub_cancel];by_cases e:i=0
   ·subst e;rw [if_pos rfl,c];exact h1
   ·rw [if_neg e];have:=f (i - 1) (by omega);rw [show s+1+(i - 1)=s+i by omega,show i - 1+1=i by omega] at this;exact this
theorem Wt.of_run {r:Nat->Int} (b:∀ t,StA a (r t) (u t) (r (t+1))):∀ (m s:Nat),Wt a u m s (r s) (r (s+m))
 | 0,_=>rfl
 | m+1,s=>⟨r (s+1),b s,by have:=Wt.of_run b m (s+1);rwa [show s+1+m=s+(m+1) by omega] at this⟩
theorem zBA (a:∀ t,h<=t->u (t+len)=u t) {t:Nat} (b:h<=t):∀ k:Nat,u (t+k * len)=u t
 | 0=>by rw [Nat.zero_mul,Nat.add_zero]
 | k+1=>by rw [Nat.succ_mul,<- Nat.add_assoc,a _ (by omega),zBA a b k]
theorem pig {K:Nat} {f:Nat->Nat} (b:∀ i,i<=K->f i < K):∃ i j,i < j/\j<=K/\f i=f j:=by
 refine Classical.byContradiction fun a => ?_
 have d:((List.range (K+1)).map f).Nodup:=by
  rw [List.nodup_iff_pairwise_ne,List.pairwise_map];refine List.Pairwise.imp_of_mem (fun {i j} g hj hij => ?_) (List.pairwise_lt_range (n:=K+1));intro e;exact a ⟨i,j,hij,by have:=List.mem_range.1 hj;omega,e⟩
 have:=zBB (U:=List.range K) d (fun x c=>by
  obtain ⟨i,g,rfl⟩:=List.mem_map.1 c;rw [List.mem_range] at *
  exact b i (by omega))
 simp at this;omega
theorem zCC (F:AuOk a) (n:0 < len) (Q:∀ t,h<=t->u (t+len)=u t):zEJ a u h len↔InfA a u:=by
 constructor
 ·rintro ⟨q0,v,s,f,y,Y,hs,b,hb,z⟩;obtain ⟨w,O,P,Z⟩:=y.path;obtain ⟨x,B,b1,br⟩:=z.path;have H:0 < b * len:=Nat.mul_pos (by omega) n;refine ⟨fun t=>if t < s then w t else x ((t - s) % (b * len)),⟨?_,fun t => ?_⟩,fun N => ?_⟩
  ·show (if 0 < s then w 0 else x ((0 - s) % (b * len)))∈_;by_cases c:0 < s
   ·rw [if_pos c,O];exact v
   ·rw [if_neg c,show (0 - s) % (b * len)=0 by rw [Nat.zero_sub,Nat.zero_mod],B];have:s=0:=by omega
    subst this;rw [<- P,O];exact v
  ·show StA a (if t < s then w t else x ((t - s) % (b * len))) (u t) (if t+1 < s then w (t+1) else x ((t+1 - s) % (b * len)));by_cases c:t < s
   ·rw [if_pos c];have:=Z t c;rw [Nat.zero_add] at this;by_cases A:t+1 < s
    ·rw [if_pos A];exact this
    ·rw [if_neg A,show t+1 - s=0 by omega,Nat.zero_mod,B,<- P]
     rwa [show t+1=s by omega] at this
   ·rw [if_neg c,if_neg (by omega)];have R:=Nat.mod_lt (t - s) H;have l:=br _ R;have C:u t=u (s+(t - s) % (b * len)):=by
     have e:t=s+(t - s) % (b * len)+((t - s) / (b * len) * b) * len:=by
      have:=Nat.mod_add_div (t - s) (b * len);rw [Nat.mul_assoc,Nat.mul_comm _ (b * len)];omega
     conv=>lhs;rw [e]
     exact zBA Q (by omega) _
    rw [C];by_cases A:(t - s) % (b * len)+1 < b * len
    ·rw [show (t+1 - s) % (b * len)=(t - s) % (b * len)+1 by
      rw [show t+1 - s=(t - s)+1 by omega,Nat.add_mod,Nat.mod_eq_of_lt (a:=1) (by omega),Nat.mod_eq_of_lt A]]
     exact l
    ·have I:(t - s) % (b * len)+1=b * len:=by omega
     rw [I,b1] at l;rw [show (t+1 - s) % (b * len)=0 by
      rw [show t+1 - s=(t - s)+1 by omega,Nat.add_mod];by_cases X:b * len=1
      ·rw [X,Nat.mod_one]
      ·rw [Nat.mod_eq_of_lt (a:=1) (by omega),I,Nat.mod_self],B]
     exact l
  ·refine ⟨s+N * (b * len),?_,?_⟩
   ·have:N * 1<=N * (b * len):=Nat.mul_le_mul_left N H;omega
   ·show (if s+N * (b * len) < s then w (s+N * (b * len)) else x ((s+N * (b * len) - s) % (b * len)))∈_;rw [if_neg (by omega),Nat.add_sub_cancel_left,Nat.mul_mod_left,B];exact Y
 ·rintro ⟨r,⟨r0,E⟩,hi⟩;have m:∀ t,0<=r t/\r t < 300:=fun t=>by
   have:=(E t).b F;have:=F.n1;omega
  let g:Nat->Nat:=fun k=>Nat.rec (Classical.choose (hi h)) (fun _ p=>Classical.choose (hi (p+1))) k
  have D:h<=g 0/\r (g 0)∈a.2.2.2.2.1:=Classical.choose_spec (hi h);have J:∀ k,g k+1<=g (k+1)/\r (g (k+1))∈a.2.2.2.2.1:=fun k=>Classical.choose_spec (hi (g k+1))
  have L:∀ j i,i < j->g i < g j:=fun j=>by
   induction j with
   | zero=>intro i d;omega
   | succ j ih=>
    intro i d;have:=(J j).1;by_cases e:i=j
    ·subst e;omega
    ·have:=ih i (by omega);omega
  have S:∀ k,r (g k)∈a.2.2.2.2.1:=fun k=>by
   cases k with
   | zero=>exact D.2
   | succ k=>exact (J k).2
  have T:∀ k,h<=g k:=fun k=>by
   cases k with
   | zero=>exact D.1
   | succ k=>have:=L (k+1) 0 (by omega);have:=D.1;omega
  obtain ⟨i,j,d,_,e⟩:=pig (K:=300 * len) (f:=fun k=>(r (g k)).toNat * len+g k % len) (fun k _=>by
   have y:=m (g k);have z:=Nat.mod_lt (g k) n;have h3:(r (g k)).toNat * len<=299 * len:=Nat.mul_le_mul_right len (by omega);have h4:300 * len=299 * len+len:=by omega
   show (r (g k)).toNat * len+g k % len < 300 * len;omega)
  have e:(r (g i)).toNat * len+g i % len=(r (g j)).toNat * len+g j % len:=e;have U:(r (g i)).toNat=(r (g j)).toNat:=by
   have y:((r (g i)).toNat * len+g i % len) / len=(r (g i)).toNat:=by
    rw [Nat.add_comm,Nat.add_mul_div_right _ _ n,Nat.div_eq_of_lt (Nat.mod_lt _ n),Nat.zero_add]
   have z:((r (g j)).toNat * len+g j % len) / len=(r (g j)).toNat:=by
    rw [Nat.add_comm,Nat.add_mul_div_right _ _ n,Nat.div_eq_of_lt (Nat.mod_lt _ n),Nat.zero_add]
   rw [<- y,<- z,e]
  have d2:g i % len=g j % len:=by rw [U] at e;omega
  have V:r (g i)=r (g j):=by have:=m (g i);have:=m (g j);omega
  have W:=L j i d;have M:g j - g i=(g j / len - g i / len) * len:=by
   have m1:=Nat.mod_add_div (g i) len;have m2:=Nat.mod_add_div (g j) len;rw [Nat.sub_mul,Nat.mul_comm (g j / len),Nat.mul_comm (g i / len)];omega
  have o:=Wt.of_run E (g i) 0;rw [Nat.zero_add] at o;have q:=Wt.of_run E (g j - g i) (g i);rw [show g i+(g j - g i)=g j by omega,<- V,M] at q;refine ⟨r 0,r0,g i,r (g i),o,S i,T i,g j / len - g i / len,?_,q⟩;rcases Nat.eq_zero_or_pos (g j / len - g i / len) with h0 | h0
  ·rw [h0,Nat.zero_mul] at M;omega
  ·exact h0
theorem zD1 (d:AuOk a) (b:0 < len) (c:∀ t,h<=t->u (t+len)=u t):RefA a u h len↔InfA a u:=(zCG b c).trans (zCC d b c)
end
section
variable {α:Type} [Inhabited α]
theorem ixA (d:Array α) (n:Nat):ix d.toList (n:Int)=d[n]! :=by
 unfold ix;rw [Int.toNat_natCast,List.getD_eq_getElem?_getD,Array.getElem?_toList,getElem!_def];cases h:d[n]? <;>rfl
theorem setA (d:Array α) (i:Nat) (x:α):d.toList.set i x=(d.setIfInBounds i x).toList:=by simp
theorem swpA (d:Array α) (i j:Nat):(d.toList.set i d[j]!).set j d[i]! =(Go.Sort.swp d i j).toList:=by
 unfold Go.Sort.swp;rw [setA,setA]
theorem swpZ (d:Array α) (i j:Nat):(Go.Sort.swp d i j).size=d.size:=by unfold Go.Sort.swp;simp
end
theorem zr2 {x:Int} (a:0<=x) (b:x < 18446744073709551616):IntKind.wrap .u64 x=x:=by
 unfold IntKind.wrap;simp [IntKind.bits,IntKind.signed];omega
theorem zFv {x:Int} (a:0<=x) (b:x < 256):IntKind.wrap .u8 x=x:=by
 unfold IntKind.wrap;simp [IntKind.bits,IntKind.signed];omega
theorem zBZ {x:Int} (a:0<=x) (b:x < 9223372036854775808):IntKind.wrap .i64 x=x:=by
 unfold IntKind.wrap;simp [IntKind.bits,IntKind.signed];omega
def BL (x v:Int):Prop:=0<=v/\v<=32/\x < 2 ^ v.toNat/\(0 < x->(2:Int) ^ v.toNat<=2 * x)
def bTbl:List UInt8:=[0,1,2,2,3,3,3,3,4,4,4,4,4,4,4,4,5,5,5,5,5,5,5,5,5,5,5,5,5,5,5,5,6,6,6,6,6,6,6,6,6,6,6,6,6,6,6,6,6,6,6,6,6,6,6,6,6,6,6,6,6,6,6,6,7,7,7,7,7,7,7,7,7,7,7,7,7,7,7,7,7,7,7,7,7,7,7,7,7,7,7,7,7,7,7,7,7,7,7,7,7,7,7,7,7,7,7,7,7,7,7,7,7,7,7,7,7,7,7,7,7,7,7,7,7,7,7,7,8,8,8,8,8,8,8,8,8,8,8,8,8,8,8,8,8,8,8,8,8,8,8,8,8,8,8,8,8,8,8,8,8,8,8,8,8,8,8,8,8,8,8,8,8,8,8,8,8,8,8,8,8,8,8,8,8,8,8,8,8,8,8,8,8,8,8,8,8,8,8,8,8,8,8,8,8,8,8,8,8,8,8,8,8,8,8,8,8,8,8,8,8,8,8,8,8,8,8,8,8,8,8,8,8,8,8,8,8,8,8,8,8,8,8,8,8,8,8,8,8,8,8,8,8,8,8,8]
theorem zB3:(List.range 256).all (fun x=>decide ((bTbl.getD x 0).toNat<=8/\x < 2 ^ (bTbl.getD x 0).toNat/\(x=0\/2 ^ (bTbl.getD x 0).toNat<=2 * x)))=true:=by decide+kernel
theorem zB4:bTbl.length=256:=by decide+kernel
theorem zEN {x n:Int} (d:0<=x) (f:x < 256) (h:0<=n) (i:n<=100):∃ v,zkm x n=some (n+v)/\v<=8/\BL x v:=by
 have a:=zB3;rw [List.all_eq_true] at a;have b:=a x.toNat (by rw [List.mem_range];omega);simp only [decide_eq_true_eq] at b;obtain ⟨k,l,m⟩:=b;have e:zkm x n=G (0<=IntKind.wrap .u8 x/\IntKind.wrap .u8 x < (bTbl.length:Int)) (G (fits (n+IntKind.wrap .i64 (bAt bTbl (IntKind.wrap .u8 x)))) (some (n+IntKind.wrap .i64 (bAt bTbl (IntKind.wrap .u8 x))))):=rfl;have g:bAt bTbl x=((bTbl.getD x.toNat 0).toNat:Int):=rfl;rw [e,zFv d f,g,zB4];generalize (bTbl.getD x.toNat 0).toNat=t at *
 rw [zBZ (by omega) (by omega),zae (by omega),zae (by unfold fits;omega)];have c:(2:Int) ^ t=((2 ^ t:Nat):Int):=by simp
 exact ⟨t,rfl,by omega,by omega,by omega,by rw [Int.toNat_natCast,c];omega,fun j=>by rw [Int.toNat_natCast,c];omega⟩
theorem zBa {x:Int} {k:Nat} (a:k<=64):ishr .u64 x (k:Int)=x / 2 ^ k:=by
 unfold ishr;rw [Int.toNat_natCast,show min k (IntKind.bits .u64)=k from Nat.min_eq_left a];exact Int.fdiv_eq_ediv_of_nonneg _ (by
  have:(2:Int) ^ k=((2 ^ k:Nat):Int):=by simp
  rw [this];exact Int.natCast_nonneg _)
theorem BL.up {x v:Int} {k:Nat} (h:BL (x / 2 ^ k) v) (j:(2:Int) ^ k<=x) (l:v+k<=32):BL x (k+v):=by
 obtain ⟨a,b,c,d⟩:=h;have g:(0:Int) < 2 ^ k:=by
  have:(2:Int) ^ k=((2 ^ k:Nat):Int):=by simp
  have:=Nat.two_pow_pos k;omega
 have e:((k:Int)+v).toNat=k+v.toNat:=by omega
 have m:=Int.mul_ediv_add_emod x (2 ^ k);have n:=Int.emod_nonneg x (by omega:(2:Int) ^ k≠0);have i:=Int.emod_lt_of_pos x g;have o:1<=x / 2 ^ k:=by
  have:=(Int.le_ediv_iff_mul_le g).2 (by omega:1 * (2:Int) ^ k<=x);exact this
 refine ⟨by omega,by omega,?_,fun _ => ?_⟩
 ·rw [e,Int.pow_add];have f:(2:Int) ^ k * (x / 2 ^ k+1)<=2 ^ k * 2 ^ v.toNat:=Int.mul_le_mul_of_nonneg_left (by omega) (by omega);rw [Int.mul_add] at f;omega
 ·rw [e,Int.pow_add];have f:(2:Int) ^ k * 2 ^ v.toNat<=2 ^ k * (2 * (x / 2 ^ k)):=Int.mul_le_mul_of_nonneg_left (d (by omega)) (by omega);rw [<- Int.mul_assoc,Int.mul_comm _ 2,Int.mul_assoc] at f;omega
theorem zEM {x n:Int} (a:0<=x) (d:x < 65536) (f:0<=n) (g:n<=64):∃ v,zkl x n=some (n+v)/\v<=16/\BL x v:=by
 unfold zkl;by_cases c:256<=x
 ·rw [if_pos (decide_eq_true c),zae (by omega),zae (by unfold fits;omega),show (8:Int)=((8:Nat):Int) from rfl,zBa (by omega)];have i:(2:Int) ^ 8=256:=rfl;obtain ⟨v,e,h,b⟩:=zEN (x:=x / 2 ^ 8) (n:=n+((8:Nat):Int)) (by omega) (by omega) (by omega) (by omega);exact ⟨((8:Nat):Int)+v,by rw [e,Int.add_assoc],by omega,b.up (by omega) (by omega)⟩
 ·rw [if_neg (by simpa using c)];obtain ⟨v,e,h,b⟩:=zEN (x:=x) (n:=n) a (by omega) (by omega) (by omega);exact ⟨v,e,by omega,b⟩
theorem bits3 {x n:Int} (a:0<=x) (d:x < 4294967296) (f:0<=n) (g:n<=32):∃ v,zkk x n=some (n+v)/\v<=32/\BL x v:=by
 unfold zkk;by_cases c:65536<=x
 ·rw [if_pos (decide_eq_true c),zae (by omega),zae (by unfold fits;omega),show (16:Int)=((16:Nat):Int) from rfl,zBa (by omega)];have i:(2:Int) ^ 16=65536:=rfl;obtain ⟨v,e,h,b⟩:=zEM (x:=x / 2 ^ 16) (n:=n+((16:Nat):Int)) (by omega) (by omega) (by omega) (by omega);exact ⟨((16:Nat):Int)+v,by rw [e,Int.add_assoc],by omega,b.up (by omega) (by omega)⟩
 ·rw [if_neg (by simpa using c)];obtain ⟨v,e,h,b⟩:=zEM (x:=x) (n:=n) a (by omega) (by omega) (by omega);exact ⟨v,e,by omega,b⟩
theorem ztu {x:Int} (a:0<=x) (c:x < 4294967296):∃ v,zo1 x=some v/\BL x v:=by
 unfold zo1 zrm;obtain ⟨v,e,h,b⟩:=bits3 (x:=x) (n:=0) a c (by omega) (by omega);refine ⟨v,?_,b⟩;rw [if_neg (by simp only [decide_eq_true_eq];omega),e,Int.zero_add];rfl
theorem zDP {n:Int} (c:8<=n) (d:n<=1000000000):∃ M,zeO n=some M/\0 < M/\M<=2 * n:=by
 unfold zeO;rw [zr2 (by omega) (by omega)];obtain ⟨v,e,b,g,h,a⟩:=ztu (x:=n) (by omega) (by omega);have a:=a (by omega);have f:(2:Int) ^ v.toNat=((2 ^ v.toNat:Nat):Int):=by simp
 refine ⟨2 ^ v.toNat,zde e ?_,by omega,a⟩;rw [zae b];unfold ishl;rw [show min v.toNat (IntKind.bits .u64)=v.toNat from Nat.min_eq_left (by show v.toNat<=64;omega),Int.one_mul,zr2 (by omega) (by omega)]
theorem iandU {x y:Int} (a:0<=y) (b:y < 4294967296):0<=iand .u64 x y/\iand .u64 x y<=y:=by
 unfold iand;have h:(BitVec.ofInt IntKind.u64.bits x &&& BitVec.ofInt IntKind.u64.bits y).toNat<=y.toNat:=by
  show (BitVec.ofInt 64 x &&& BitVec.ofInt 64 y).toNat<=y.toNat;rw [BitVec.toNat_and];refine Nat.le_trans Nat.and_le_right ?_;rw [BitVec.toNat_ofInt];have:y % ((2 ^ 64:Nat):Int)=y:=Int.emod_eq_of_lt a (by omega);rw [this];exact Nat.le_refl _
 generalize (BitVec.ofInt IntKind.u64.bits x &&& BitVec.ofInt IntKind.u64.bits y).toNat=t at *
 rw [zr2 (by omega) (by omega)];omega
theorem zDM (x y:Int):zjm x y=some (Go.Sort.ltInt x y):=by
 unfold zjm zkM Go.Sort.ltInt;simp
open Classical in
def ordV (x y:Stp):Int:=(zrA x y).choose
theorem ziv (x y:Stp):zbX x y=some (ordV x y):=(zrA x y).choose_spec.1
theorem zDU (x y:Stp):ordV x y < 0↔zjr x y:=(zrA x y).choose_spec.2
def ltS (x y:Stp):Bool:=decide (ordV x y < 0)
theorem zyi {x y:Stp}:ltS x y=true↔zjr x y:=by unfold ltS;rw [decide_eq_true_iff];exact zDU x y
theorem zBk {x y:Stp}:ltS x y=false ↔ ¬ zjr x y:=by rw [<- zyi];cases ltS x y<;>simp
theorem swoI:Go.Sort.SWO Go.Sort.ltInt:=Go.Sort.swo_ltInt
theorem swoS:Go.Sort.SWO ltS where
 irrefl x:=by rw [zBk];unfold zjr;omega
 trans x y z h1 h2:=by rw [zyi] at *; unfold zjr at *; omega
 ntrans x y z h1 h2:=by rw [zBk] at *; unfold zjr at *; omega
def Up (l:List Int):Prop:=l.length<=1000000000/\∀ i j:Int,0<=i->i<=j->j < l.length->ix l i<=ix l j
theorem zyO {l:List Int} (h:Up l) {i j:Int} (a:0<=i) (b:i<=j) (c:j < l.length):zjm (ix l j) (ix l i)=some false:=by
 rw [zDM];unfold Go.Sort.ltInt;have:=h.2 i j a b c;rw [decide_eq_false (by omega)]
theorem zuH {l:List Int} (h:Up l) {i j c:Int} (a:0<=i) (b:i<=j) (d:j < l.length):zcT l i j c=some (i,j,c):=by
 unfold zcT
 (repeat (rw [zae (by first | omega | (unfold fits;omega) | (simp only [List.length_set,Array.length_toList];omega))]))
 rw [zyO h a b d];rfl
theorem zuG {l:List Int} (h:Up l) {i j k c:Int} (a:0<=i) (b:i<=j) (d:j<=k) (e:k < l.length):zd0 l i j k c=some (j,c):=by
 unfold zd0;rw [zuH h a b (by omega),Option.bind_some,zuH h (by omega) d e,Option.bind_some,zuH h a b (by omega)];rfl
theorem zuF {l:List Int} (h:Up l) {i c:Int} (b:1<=i) (a:i+1 < l.length):zbE l i c=some (i,c):=by
 have:=h.1;unfold zbE
 (repeat (rw [zae (by first | omega | (unfold fits;omega) | (simp only [List.length_set,Array.length_toList];omega))]))
 rw [zuG h (by omega) (by omega) (by omega) a];rfl
theorem zCR {l:List Int} (h:Up l) (a:12 < l.length):∃ p,zdv l 0 l.length=some (p,1):=by
 have:=h.1;have e:Int.tdiv ((l.length:Int) - 0) 4=((l.length / 4:Nat):Int):=by rw [Int.sub_zero];rfl
 refine ⟨((l.length / 4:Nat):Int) * 2,?_⟩;unfold zdv;rw [e]
 (repeat (rw [zae (by first | omega | (unfold fits;omega) | (simp only [List.length_set,Array.length_toList];omega))]))
 rw [if_pos (by simp only [decide_eq_true_eq];omega)];simp only [Int.zero_add];split
 ·rename_i c;simp only [decide_eq_true_eq] at c;rw [zuF h (by omega) (by omega),Option.bind_some,zuF h (by omega) (by omega),Option.bind_some,zuF h (by omega) (by omega),Option.bind_some];unfold zco;rw [zuG h (by omega) (by omega) (by omega) (by omega)];rfl
 ·unfold zco;rw [zuG h (by omega) (by omega) (by omega) (by omega)];rfl
theorem up_L5 {l:List Int} (h:Up l) (a:Int->Int->List Int->Option (Bool×List Int)):∀ (n:Nat) (i:Int),((l.length:Int) - i).toNat=n->1<=i->i<=l.length->
  zaD 0 l.length 0 l a i=some (true,l):=by
 intro n;have f:=h.1;induction n with
 | zero=>
  intro i b c d;rw [zdq];unfold zay;rw [if_neg (by simp only [decide_eq_true_eq];omega)];unfold zaM;rw [if_pos (by simp only [decide_eq_true_eq];omega)]
 | succ n e=>
  intro i b c d;rw [zdq];unfold zay;rw [if_pos (by simp only [decide_eq_true_eq];omega)]
  (repeat (rw [zae (by first | omega | (unfold fits;omega) | (simp only [List.length_set,Array.length_toList];omega))]))
  rw [zyO h (by omega) (by omega) (by omega),Option.bind_some,if_pos (by decide)]
  (repeat (rw [zae (by first | omega | (unfold fits;omega) | (simp only [List.length_set,Array.length_toList];omega))]))
  exact e (i+1) (by omega) (by omega) (by omega)
theorem zEx {l:List Int} (h:Up l) (a:12 < l.length):zbS 0 l.length l=some (true,l):=by
 unfold zbS
 (repeat (rw [zae (by first | omega | (unfold fits;omega) | (simp only [List.length_set,Array.length_toList];omega))]))
 rw [zgH];unfold zaI;rw [if_pos (by decide)];exact up_L5 h _ _ _ rfl (by omega) (by omega)
theorem zFt {l:List Int} (h:Up l):zcK 0 l.length l=some l:=by
 have f:=h.1;have a:∀ (n:Nat) (i:Int),((l.length:Int) - i).toNat=n->1<=i->i<=1000000001->zcj 0 l.length i l=some l:=by
  intro n;induction n with
  | zero=>
   intro i b c d;rw [zeN];unfold zaT;rw [if_neg (by simp only [decide_eq_true_eq];omega)]
  | succ n e=>
   intro i b c d;rw [zeN];unfold zaT;rw [if_pos (by simp only [decide_eq_true_eq];omega)];rw [ziI];unfold zbb;rw [if_pos (by simp only [decide_eq_true_eq];omega)]
   (repeat (rw [zae (by first | omega | (unfold fits;omega) | (simp only [List.length_set,Array.length_toList];omega))]))
   rw [zyO h (by omega) (by omega) (by omega),Option.bind_some,if_neg (by simp)]
   (repeat (rw [zae (by first | omega | (unfold fits;omega) | (simp only [List.length_set,Array.length_toList];omega))]))
   exact e (i+1) (by omega) (by omega) (by omega)
 unfold zcK
 (repeat (rw [zae (by first | omega | (unfold fits;omega) | (simp only [List.length_set,Array.length_toList];omega))]))
 exact a _ _ rfl (by omega) (by omega)
theorem zEy {l:List Int} (h:Up l):zjc l=some l:=by
 have g:=h.1;obtain ⟨v,e,b⟩:=ztu (x:=(l.length:Int)) (by omega) (by omega);unfold zjc;rw [zr2 (by omega) (by omega),e,Option.bind_some];have:zeR 0 l.length v l=some l:=by
  unfold zeR;rw [zlk];unfold zbN
  (repeat (rw [zae (by first | omega | (unfold fits;omega) | (simp only [List.length_set,Array.length_toList];omega))]))
  by_cases c:l.length<=12
  ·rw [if_pos (by simp only [decide_eq_true_eq];omega),zFt h];rfl
  ·obtain ⟨p,f⟩:=zCR h (by omega);rw [if_neg (by simp only [decide_eq_true_eq];omega),if_neg,if_neg (by decide),f,Option.bind_some]
   ·rw [if_neg (by simp),if_pos rfl,if_pos rfl];unfold zdy;rw [if_pos (by simp),zEx h (by omega)];rfl
   ·simp only [decide_eq_true_eq];intro d;have a:=b.2.2.1;rw [d] at a;simp at a;omega
 rw [this];rfl
theorem up_of {l:List Int} (a:l.length<=1000000000) (h:l.Pairwise (· < ·)):Up l:=by
 refine ⟨a,fun i j b e d => ?_⟩;by_cases c:i=j
 ·rw [c];omega
 have:=List.pairwise_iff_getElem.1 h i.toNat j.toNat (by omega) (by omega) (by omega);rw [zoo b (by omega),zoo (by omega) d];omega
section
theorem ztT (a:Nat) (b:Int->List Stp->Option (List Stp)) (i:Int) (e:0<=i/\i < 1000000000):∀ (j:Nat) (d:Array Stp),j < d.size->d.size<=1000000000->
  za3 a i b j d.toList=b (i+1) (Go.Sort.insInner ltS a j d).toList
 | 0,d,hj,hd=>by
  have:=d.length_toList;rw [zeM];unfold zaS;rw [if_neg (by simp),zae (by unfold fits;omega)];rfl
 | j+1,d,hj,hd=>by
  have f:=d.length_toList;rw [zeM];unfold zaS;unfold Go.Sort.insInner;rw [show ((j+1:Nat):Int) - 1=(j:Int) by omega];by_cases c:a < j+1
  ·rw [if_pos (by simp only [decide_eq_true_eq];omega)]
   (repeat (rw [zae (by first | omega | (unfold fits;omega) | (simp only [List.length_set,Array.length_toList];omega))]))
   rw [ixA,ixA,ziv];show (if ltS d[j+1]! d[j]! =true then _ else _)=_;rw [show decide (j+1 > a)=true from decide_eq_true c,Bool.true_and];cases ltS d[j+1]! d[j]! with
   | true=>
    rw [if_pos rfl,if_pos rfl]
    (repeat (rw [zae (by first | omega | (unfold fits;omega) | (simp only [List.length_set,Array.length_toList];omega))]))
    rw [Int.toNat_natCast,Int.toNat_natCast,swpA];exact ztT a b i e j _ (by rw [swpZ];omega) (by rw [swpZ];exact hd)
   | false=>
    rw [if_neg (by simp),if_neg (by simp)]
    (repeat (rw [zae (by first | omega | (unfold fits;omega) | (simp only [List.length_set,Array.length_toList];omega))]))
  ·rw [if_neg (by simp only [decide_eq_true_eq];omega),zae (by unfold fits;omega)];rw [show decide (j+1 > a)=false from decide_eq_false c,Bool.false_and,if_neg (by simp)]
theorem zjR (a:Nat):∀ (j:Nat) (d:Array Stp),(Go.Sort.insInner ltS a j d).size=d.size
 | 0,_=>rfl
 | j+1,d=>by
  unfold Go.Sort.insInner;split
  ·rw [zjR a j,swpZ]
  ·rfl
theorem zye (a b:Nat):∀ (n i:Nat) (d:Array Stp),b - i=n->i<=1000000001->b<=d.size->d.size<=1000000000->
  zci a b i d.toList=some (Go.Sort.insOuter ltS a b i d).toList:=by
 intro n;induction n with
 | zero=>
  intro i d f g e c;rw [zeL];unfold zaR;unfold Go.Sort.insOuter;rw [if_neg (by simp only [decide_eq_true_eq];omega),if_neg (by omega)]
 | succ n h=>
  intro i d f g e c;rw [zeL];unfold zaR;unfold Go.Sort.insOuter;rw [if_pos (by simp only [decide_eq_true_eq];omega),if_pos (by omega),ztT a _ i (by omega) i d (by omega) c];have:=h (i+1) (Go.Sort.insInner ltS a i d) (by omega) (by omega) (by rw [zjR];exact e) (by rw [zjR];exact c);rw [<- this];rfl
theorem zzV (a b:Nat) (d:Array Stp) (f:a<=b) (c:b<=d.size) (e:d.size<=1000000000):zcI a b d.toList=some (Go.Sort.insertionSort ltS d a b).toList:=by
 unfold zcI Go.Sort.insertionSort
 (repeat (rw [zae (by first | omega | (unfold fits;omega) | (simp only [List.length_set,Array.length_toList];omega))]))
 exact zye a b _ (a+1) d rfl (by omega) c e
theorem zyI (b first:Nat):∀ (n a:Nat) (d:Array Stp),b - a<=n->first+b<=d.size->d.size<=1000000000->a<=1000000000->
  zbV b first a d.toList=some (Go.Sort.siftDown ltS b first a d).toList:=by
 intro n;induction n with
 | zero=>
  intro a d o g h p;rw [zgz];unfold zbp;unfold Go.Sort.siftDown
  (repeat (rw [zae (by first | omega | (unfold fits;omega) | (simp only [List.length_set,Array.length_toList];omega))]))
  rw [if_pos (by simp only [decide_eq_true_eq];omega),dif_pos (by omega)]
 | succ n q=>
  intro a d o g h p;have u:=d.length_toList;rw [zgz];unfold zbp;unfold Go.Sort.siftDown
  (repeat (rw [zae (by first | omega | (unfold fits;omega) | (simp only [List.length_set,Array.length_toList];omega))]))
  by_cases c:b<=2 * a+1
  ·rw [if_pos (by simp only [decide_eq_true_eq];omega),dif_pos (by omega)]
  ·rw [if_neg (by simp only [decide_eq_true_eq];omega),dif_neg (by omega)]
   (repeat (rw [zae (by first | omega | (unfold fits;omega) | (simp only [List.length_set,Array.length_toList];omega))]))
   have i:∀ e:Nat,e < b->a < e->zbB first a d.toList (zbV b first) e=some (if !ltS d[first+a]! d[first+e]! then d else Go.Sort.siftDown ltS b first e (Go.Sort.swp d (first+a) (first+e))).toList:=fun e r s=>by
    unfold zbB;rw [show (first:Int)+(a:Int)=((first+a:Nat):Int) by omega,show (first:Int)+(e:Int)=((first+e:Nat):Int) by omega]
    (repeat (rw [zae (by first | omega | (unfold fits;omega) | (simp only [List.length_set,Array.length_toList];omega))]))
    rw [ixA,ixA,ziv];show (if (!ltS d[first+a]! d[first+e]!)=true then _ else _)=_;cases ltS d[first+a]! d[first+e]! with
    | true=>
     rw [if_neg (by simp),if_neg (by simp)]
     (repeat (rw [zae (by first | omega | (unfold fits;omega) | (simp only [List.length_set,Array.length_toList];omega))]))
     rw [Int.toNat_natCast,Int.toNat_natCast,swpA];exact q e _ (by omega) (by rw [swpZ];exact g) (by rw [swpZ];exact h) (by omega)
    | false=>rw [if_pos (by simp),if_pos (by simp)]
   have j:(2:Int) * (a:Int)+1=((2 * a+1:Nat):Int):=by omega
   have k:((2 * a+1:Nat):Int)+1=((2 * a+2:Nat):Int):=by omega
   have l:∀ t:Bool,(t=true->2 * a+2 < b)->zbA first a d.toList (zbV b first) t=some (if t=true then (if !ltS d[first+a]! d[first+(2 * a+2)]! then d else Go.Sort.siftDown ltS b first (2 * a+2) (Go.Sort.swp d (first+a) (first+(2 * a+2)))) else
     (if !ltS d[first+a]! d[first+(2 * a+1)]! then d else Go.Sort.siftDown ltS b first (2 * a+1) (Go.Sort.swp d (first+a) (first+(2 * a+1))))).toList:=fun t m=>by
    unfold zbA;rw [j,k];cases t with
    | true=>rw [if_pos rfl,if_pos rfl];(repeat (rw [zae (by first | omega | (unfold fits;omega) | (simp only [List.length_set,Array.length_toList];omega))]));exact i _ (m rfl) (by omega)
    | false=>rw [if_neg (by simp),if_neg (by simp)];exact i _ (by omega) (by omega)
   rw [j,k];by_cases f:2 * a+2 < b
   ·rw [if_pos (by simp only [decide_eq_true_eq];omega)];rw [show (first:Int)+((2 * a+1:Nat):Int)=((first+(2 * a+1):Nat):Int) by omega,show ((first+(2 * a+1):Nat):Int)+1=((first+(2 * a+1)+1:Nat):Int) by omega]
    (repeat (rw [zae (by first | omega | (unfold fits;omega) | (simp only [List.length_set,Array.length_toList];omega))]))
    rw [ixA,ixA,ziv];refine (l _ (fun _=>f)).trans ?_;rw [show decide (2 * a+1+1 < b)=true from decide_eq_true f,Bool.true_and];show some (Array.toList (if ltS d[first+(2 * a+1)]! d[first+(2 * a+1)+1]! =true then _ else _))=_;cases ltS d[first+(2 * a+1)]! d[first+(2 * a+1)+1]! with
    | true=>simp [f]
    | false=>simp
   ·rw [if_neg (by simp only [decide_eq_true_eq];omega),l false (by simp),show decide (2 * a+1+1 < b)=false from decide_eq_false f,Bool.false_and];simp
theorem zlW (b first:Nat):∀ (n a:Nat) (d:Array Stp),b - a<=n->(Go.Sort.siftDown ltS b first a d).size=d.size:=by
 intro n;induction n with
 | zero=>intro a d e;unfold Go.Sort.siftDown;rw [dif_pos (by omega)]
 | succ n c=>
  intro a d e;unfold Go.Sort.siftDown;split
  ·rfl
  ·split
   ·split
    ·rfl
    ·split
     ·rw [c _ _ (by omega),swpZ]
     ·rfl
   ·split
    ·rfl
    ·rw [c _ _ (by omega),swpZ]
theorem zsE (lo a first:Nat) (d:Array Stp) (b:first+a<=d.size) (c:d.size<=1000000000) (e:lo<=1000000000):zdc lo a first d.toList=some (Go.Sort.siftDown ltS a first lo d).toList:=by
 unfold zdc;exact zyI a first _ lo d (Nat.le_refl _) b c e
theorem zsg (a n:Nat):∀ (k:Nat) (d:Array Stp),k<=n->a+n<=d.size->d.size<=1000000000->zdx a ((k:Int) - 1) d.toList=some (Go.Sort.heapPop ltS a k d).toList
 | 0,d,hk,ha,hd=>by
  rw [zgw];unfold zbk;rw [if_neg (by simp only [decide_eq_true_eq];omega)];rfl
 | k+1,d,hk,ha,hd=>by
  have b:=d.length_toList;rw [zgw];unfold zbk;unfold Go.Sort.heapPop;rw [show ((k+1:Nat):Int) - 1=(k:Int) by omega,if_pos (by simp only [decide_eq_true_eq];omega),show (a:Int)+(k:Int)=((a+k:Nat):Int) by omega]
  (repeat (rw [zae (by first | omega | (unfold fits;omega) | (simp only [List.length_set,Array.length_toList];omega))]))
  rw [ixA,ixA,Int.toNat_natCast,Int.toNat_natCast,swpA];refine zde (zsE 0 k a _ (by rw [swpZ];omega) (by rw [swpZ];exact hd) (by omega)) ?_
  (repeat (rw [zae (by first | omega | (unfold fits;omega) | (simp only [List.length_set,Array.length_toList];omega))]))
  exact zsg a n k _ (by omega) (by rw [zlW _ _ _ _ _ (Nat.le_refl _),swpZ];exact ha) (by rw [zlW _ _ _ _ _ (Nat.le_refl _),swpZ];exact hd)
theorem zsf (a b:Nat) (c:a<=b):∀ (k:Nat) (d:Array Stp),k<=b->b<=d.size->d.size<=1000000000->zdw a b ((k:Int) - 1) d.toList=some (Go.Sort.heapPop ltS a (b - a) (Go.Sort.heapBuild ltS (b - a) a k d)).toList
 | 0,d,hk,hb,hd=>by
  rw [zgv];unfold zbj;rw [if_neg (by simp only [decide_eq_true_eq];omega),show (b:Int) - (a:Int)=((b - a:Nat):Int) by omega]
  (repeat (rw [zae (by first | omega | (unfold fits;omega) | (simp only [List.length_set,Array.length_toList];omega))]))
  exact zsg a (b - a) (b - a) d (Nat.le_refl _) (by omega) hd
 | k+1,d,hk,hb,hd=>by
  rw [zgv];unfold zbj;unfold Go.Sort.heapBuild;rw [show ((k+1:Nat):Int) - 1=(k:Int) by omega,if_pos (by simp only [decide_eq_true_eq];omega),show (b:Int) - (a:Int)=((b - a:Nat):Int) by omega]
  (repeat (rw [zae (by first | omega | (unfold fits;omega) | (simp only [List.length_set,Array.length_toList];omega))]))
  refine zde (zsE k (b - a) a d (by omega) hd (by omega)) ?_
  (repeat (rw [zae (by first | omega | (unfold fits;omega) | (simp only [List.length_set,Array.length_toList];omega))]))
  exact zsf a b c k _ (by omega) (by rw [zlW _ _ _ _ _ (Nat.le_refl _)];exact hb) (by rw [zlW _ _ _ _ _ (Nat.le_refl _)];exact hd)
theorem zyd (a b:Nat) (d:Array Stp) (c:a < b) (f:b<=d.size) (g:d.size<=1000000000):zeA a b d.toList=some (Go.Sort.heapSort ltS d a b).toList:=by
 unfold zeA Go.Sort.heapSort;have e:Int.tdiv ((b:Int) - (a:Int) - 1) 2=(((b - a - 1) / 2+1:Nat):Int) - 1:=by
  rw [show (b:Int) - (a:Int) - 1=((b - a - 1:Nat):Int) by omega,show (2:Int)=((2:Nat):Int) from rfl,<- Int.ofNat_tdiv];omega
 rw [e]
 (repeat (rw [zae (by first | omega | (unfold fits;omega) | (simp only [List.length_set,Array.length_toList];omega))]))
 exact zsf a b (by omega) _ d (by omega) f g
theorem znj (d:Array Stp) (a b s:Nat) (c:a < d.size) (e:b < d.size) (hs:s<=1000):zcS d.toList a b s=some (((Go.Sort.order2 ltS d a b s).1:Int),((Go.Sort.order2 ltS d a b s).2.1:Int),((Go.Sort.order2 ltS d a b s).2.2:Int)):=by
 have f:=d.length_toList;unfold zcS Go.Sort.order2
 (repeat (rw [zae (by first | omega | (unfold fits;omega) | (simp only [List.length_set,Array.length_toList];omega))]))
 rw [ixA,ixA,ziv];show (if ltS d[b]! d[a]! =true then _ else _)=_;cases ltS d[b]! d[a]! with
 | true=>rw [if_pos rfl,if_pos rfl];(repeat (rw [zae (by first | omega | (unfold fits;omega) | (simp only [List.length_set,Array.length_toList];omega))]));rfl
 | false=>rw [if_neg (by simp),if_neg (by simp)]
theorem zht (d:Array Stp) (a b s:Nat):(Go.Sort.order2 ltS d a b s).2.2<=s+1:=by
 unfold Go.Sort.order2;split<;>simp
theorem zqO (d:Array Stp) (a b c s:Nat) (e:a < d.size) (f:b < d.size) (g:c < d.size) (hs:s<=100):zdZ d.toList a b c s=some (((Go.Sort.median ltS d a b c s).1:Int),((Go.Sort.median ltS d a b c s).2:Int)):=by
 unfold zdZ Go.Sort.median;have h:=Go.Sort.order2_mem ltS d a b s;have i:=zht d a b s;have j:=Go.Sort.order2_mem ltS d (Go.Sort.order2 ltS d a b s).2.1 c (Go.Sort.order2 ltS d a b s).2.2;have k:=zht d (Go.Sort.order2 ltS d a b s).2.1 c (Go.Sort.order2 ltS d a b s).2.2;refine zde (znj d a b s e f (by omega)) ?_;refine zde (znj d _ c _ (by omega) g (by omega)) ?_;refine zde (znj d _ _ _ (by omega) (by omega) (by omega)) ?_;rfl
theorem zmc (d:Array Stp) (a b c s:Nat):(Go.Sort.median ltS d a b c s).2<=s+3:=by
 have e:=zht d a b s;have f:=zht d (Go.Sort.order2 ltS d a b s).2.1 c (Go.Sort.order2 ltS d a b s).2.2;have g:=zht d (Go.Sort.order2 ltS d a b s).1 (Go.Sort.order2 ltS d (Go.Sort.order2 ltS d a b s).2.1 c (Go.Sort.order2 ltS d a b s).2.2).1 (Go.Sort.order2 ltS d (Go.Sort.order2 ltS d a b s).2.1 c (Go.Sort.order2 ltS d a b s).2.2).2.2;unfold Go.Sort.median;show (Go.Sort.order2 _ _ _ _ _).2.2<=_;omega
theorem zng (d:Array Stp) (a s:Nat) (c:0 < a) (b:a+1 < d.size) (e:d.size<=1000000000) (hs:s<=100):zbD d.toList a s=some (((Go.Sort.medianAdjacent ltS d a s).1:Int),((Go.Sort.medianAdjacent ltS d a s).2:Int)):=by
 unfold zbD Go.Sort.medianAdjacent
 (repeat (rw [zae (by first | omega | (unfold fits;omega) | (simp only [List.length_set,Array.length_toList];omega))]))
 rw [show (a:Int) - 1=((a - 1:Nat):Int) by omega,show (a:Int)+1=((a+1:Nat):Int) by omega];exact zde (zqO d _ _ _ _ (by omega) (by omega) b hs) rfl
def zkQ:Go.Sort.Hint->Int
 | .unknown=>0
 | .increasing=>1
 | .decreasing=>2
theorem ztF (j s:Nat):zcn j s=some ((j:Int),zkQ (if s=0 then .increasing else if s=12 then .decreasing else .unknown)):=by
 unfold zcn;by_cases c:s=0
 ·rw [if_pos (by simp [c]),if_pos c];rfl
 ·rw [if_neg (by simp;omega),if_neg c];by_cases a:s=12
  ·rw [if_pos (by simp [a]),if_pos a];rfl
  ·rw [if_neg (by simp;omega),if_neg a];rfl
theorem zxl (d:Array Stp) (a b:Nat) (m:a < b) (r:b<=d.size) (g:d.size<=1000000000):zdu d.toList a b=some (((Go.Sort.choosePivot ltS d a b).1:Int),zkQ (Go.Sort.choosePivot ltS d a b).2):=by
 unfold zdu Go.Sort.choosePivot;have e:Int.tdiv ((b:Int) - (a:Int)) 4=(((b - a) / 4:Nat):Int):=by
  rw [show (b:Int) - (a:Int)=((b - a:Nat):Int) by omega,show (4:Int)=((4:Nat):Int) from rfl,<- Int.ofNat_tdiv]
 have h:=Nat.div_mul_le_self (b - a) 4;have t:(b - a) / 4 * 4+4 > b - a:=by omega
 rw [e];dsimp only;generalize A:(b - a) / 4=q at *
 rw [show (a:Int)+(q:Int) * 1=((a+q * 1:Nat):Int) by omega,show (a:Int)+(q:Int) * 2=((a+q * 2:Nat):Int) by omega,show (a:Int)+(q:Int) * 3=((a+q * 3:Nat):Int) by omega]
 (repeat (rw [zae (by first | omega | (unfold fits;omega) | (simp only [List.length_set,Array.length_toList];omega))]))
 have f:∀ i j k s:Nat,i < d.size->j < d.size->k < d.size->s<=100->zcm d.toList i j k s=some (((Go.Sort.median ltS d i j k s).1:Int),zkQ (if (Go.Sort.median ltS d i j k s).2=0 then .increasing else if (Go.Sort.median ltS d i j k s).2=12 then .decreasing else .unknown)):=fun i j k s n o p h=>by
  unfold zcm;exact zde (zqO d i j k s n o p h) (ztF _ _)
 by_cases c:8<=b - a
 ·rw [if_pos (by simp only [decide_eq_true_eq];omega),if_pos c];by_cases l:50<=b - a
  ·rw [if_pos (by simp only [decide_eq_true_eq];omega),if_pos l];have u:=zmc d (a+q * 1 - 1) (a+q * 1) (a+q * 1+1) 0;have v:=Go.Sort.median_mem ltS d (a+q * 1 - 1) (a+q * 1) (a+q * 1+1) 0;refine zde (zng d (a+q * 1) 0 (by omega) (by omega) g (by omega)) ?_;unfold Go.Sort.medianAdjacent;generalize Go.Sort.median ltS d (a+q * 1 - 1) (a+q * 1) (a+q * 1+1) 0=r1 at *
   have w:=zmc d (a+q * 2 - 1) (a+q * 2) (a+q * 2+1) r1.2;have x:=Go.Sort.median_mem ltS d (a+q * 2 - 1) (a+q * 2) (a+q * 2+1) r1.2;refine zde (zng d (a+q * 2) r1.2 (by omega) (by omega) g (by omega)) ?_;unfold Go.Sort.medianAdjacent;generalize Go.Sort.median ltS d (a+q * 2 - 1) (a+q * 2) (a+q * 2+1) r1.2=r2 at *
   have y:=zmc d (a+q * 3 - 1) (a+q * 3) (a+q * 3+1) r2.2;have z:=Go.Sort.median_mem ltS d (a+q * 3 - 1) (a+q * 3) (a+q * 3+1) r2.2;refine zde (zng d (a+q * 3) r2.2 (by omega) (by omega) g (by omega)) ?_;unfold Go.Sort.medianAdjacent;generalize Go.Sort.median ltS d (a+q * 3 - 1) (a+q * 3) (a+q * 3+1) r2.2=r3 at *
   exact f r1.1 r2.1 r3.1 r3.2 (by omega) (by omega) (by omega) (by omega)
  ·rw [if_neg (by simp only [decide_eq_true_eq];omega),if_neg l];exact f (a+q * 1) (a+q * 2) (a+q * 3) 0 (by omega) (by omega) (by omega) (by omega)
 ·rw [if_neg (by simp only [decide_eq_true_eq];omega),if_neg c];exact ztF (a+q * 2) 0
theorem zyE:∀ (n i j:Nat) (d:Array Stp),j - i<=n->j < d.size->d.size<=1000000000->zcp i j d.toList=some (Go.Sort.reverseLoop i j d).toList:=by
 intro n;induction n with
 | zero=>
  intro i j d b e a;rw [zfh];unfold zaY;unfold Go.Sort.reverseLoop;rw [if_neg (by simp only [decide_eq_true_eq];omega),if_neg (by omega)]
 | succ n f=>
  intro i j d b e a;have g:=d.length_toList;rw [zfh];unfold zaY;unfold Go.Sort.reverseLoop;by_cases c:i < j
  ·rw [if_pos (by simp only [decide_eq_true_eq];omega),if_pos c]
   (repeat (rw [zae (by first | omega | (unfold fits;omega) | (simp only [List.length_set,Array.length_toList];omega))]))
   rw [ixA,ixA,Int.toNat_natCast,Int.toNat_natCast,swpA,show (j:Int) - 1=((j - 1:Nat):Int) by omega];exact f (i+1) (j - 1) _ (by omega) (by rw [swpZ];omega) (by rw [swpZ];exact a)
  ·rw [if_neg (by simp only [decide_eq_true_eq];omega),if_neg c]
theorem zAb (a b:Nat) (d:Array Stp) (c:a < b) (f:b<=d.size) (e:d.size<=1000000000):zc5 a b d.toList=some (Go.Sort.reverseRange d a b).toList:=by
 unfold zc5 Go.Sort.reverseRange
 (repeat (rw [zae (by first | omega | (unfold fits;omega) | (simp only [List.length_set,Array.length_toList];omega))]))
 rw [show (b:Int) - 1=((b - 1:Nat):Int) by omega];exact zyE _ a (b - 1) d (Nat.le_refl _) (by omega) e
theorem zyp (b:Nat) (j:Int) (a:Int->Int->List Stp->Option (Bool×List Stp)) (c:Int) (l:0<=j/\j<=100):∀ (n k:Nat) (d:Array Stp),b - k=n->0 < k->b<=d.size->d.size<=1000000000->
  zaA b j a c k d.toList=a c (j+1) (Go.Sort.shiftUp ltS b k d).toList:=by
 intro n;induction n with
 | zero=>
  intro k d g h e f;rw [zc8];unfold zau;unfold Go.Sort.shiftUp;rw [if_neg (by simp only [decide_eq_true_eq];omega),if_neg (by omega)]
  (repeat (rw [zae (by first | omega | (unfold fits;omega) | (simp only [List.length_set,Array.length_toList];omega))]))
 | succ n i=>
  intro k d g h e f;have m:=d.length_toList;rw [zc8];unfold zau;unfold Go.Sort.shiftUp;rw [if_pos (by simp only [decide_eq_true_eq];omega),if_pos (by omega),show (k:Int) - 1=((k - 1:Nat):Int) by omega]
  (repeat (rw [zae (by first | omega | (unfold fits;omega) | (simp only [List.length_set,Array.length_toList];omega))]))
  rw [ixA,ixA,ziv];show (if (!ltS d[k]! d[k - 1]!)=true then _ else _)=_;cases ltS d[k]! d[k - 1]! with
  | true=>
   rw [if_neg (by simp),if_neg (by simp)]
   (repeat (rw [zae (by first | omega | (unfold fits;omega) | (simp only [List.length_set,Array.length_toList];omega))]))
   rw [Int.toNat_natCast,Int.toNat_natCast,swpA];exact i (k+1) _ (by omega) (by omega) (by rw [swpZ];exact e) (by rw [swpZ];exact f)
  | false=>
   rw [if_pos (by simp),if_pos (by simp)]
   (repeat (rw [zae (by first | omega | (unfold fits;omega) | (simp only [List.length_set,Array.length_toList];omega))]))
theorem zyo (b:Nat) (j:Int) (e:Int->Int->List Stp->Option (Bool×List Stp)) (a:Nat) (f:0<=j/\j<=100) (d:Array Stp) (g:b<=d.size) (h:d.size<=1000000000) (i:a<=b):
  zal b j e a d.toList=e a (j+1) (if b - a ≥ 2 then Go.Sort.shiftUp ltS b (a+1) d else d).toList:=by
 unfold zal
 (repeat (rw [zae (by first | omega | (unfold fits;omega) | (simp only [List.length_set,Array.length_toList];omega))]))
 by_cases c:b - a ≥ 2
 ·rw [if_pos (by simp only [decide_eq_true_eq];omega),if_pos c]
  (repeat (rw [zae (by first | omega | (unfold fits;omega) | (simp only [List.length_set,Array.length_toList];omega))]))
  exact zyp b j e a f _ (a+1) d rfl (by omega) g h
 ·rw [if_neg (by simp only [decide_eq_true_eq];omega),if_neg c]
  (repeat (rw [zae (by first | omega | (unfold fits;omega) | (simp only [List.length_set,Array.length_toList];omega))]))
theorem zt8 (b:Nat) (j:Int) (c:Int->Int->List Stp->Option (Bool×List Stp)) (a:Nat) (e:0<=j/\j<=100) (f:a<=b):∀ (k:Nat) (d:Array Stp),k < d.size->b<=d.size->d.size<=1000000000->
  zaz b j c a k d.toList=zal b j c a (Go.Sort.shiftDown ltS k d).toList
 | 0,d,hk,hb,hd=>by
  rw [zc7];unfold zat;rw [if_neg (by simp)];rfl
 | k+1,d,hk,hb,hd=>by
  have g:=d.length_toList;rw [zc7];unfold zat;unfold Go.Sort.shiftDown;rw [if_pos (by simp only [decide_eq_true_eq];omega),show ((k+1:Nat):Int) - 1=(k:Int) by omega]
  (repeat (rw [zae (by first | omega | (unfold fits;omega) | (simp only [List.length_set,Array.length_toList];omega))]))
  rw [ixA,ixA,ziv];show (if (!ltS d[k+1]! d[k]!)=true then _ else _)=_;cases ltS d[k+1]! d[k]! with
  | true=>
   rw [if_neg (by simp),if_neg (by simp)]
   (repeat (rw [zae (by first | omega | (unfold fits;omega) | (simp only [List.length_set,Array.length_toList];omega))]))
   rw [Int.toNat_natCast,Int.toNat_natCast,swpA];exact zt8 b j c a e f k _ (by rw [swpZ];omega) (by rw [swpZ];exact hb) (by rw [swpZ];exact hd)
  | false=>rw [if_pos (by simp),if_pos (by simp)]
theorem zpU:∀ (k:Nat) (d:Array Stp),(Go.Sort.shiftDown ltS k d).size=d.size
 | 0,_=>rfl
 | k+1,d=>by
  unfold Go.Sort.shiftDown;split
  ·rfl
  ·rw [zpU k,swpZ]
theorem zu3 (b:Nat):∀ (n k:Nat) (d:Array Stp),b - k=n->(Go.Sort.shiftUp ltS b k d).size=d.size:=by
 intro n;induction n with
 | zero=>intro k d a;unfold Go.Sort.shiftUp;rw [if_neg (by omega)]
 | succ n c=>
  intro k d a;unfold Go.Sort.shiftUp;rw [if_pos (by omega)];split
  ·rfl
  ·rw [c _ _ (by omega),swpZ]
theorem zz7 (a b:Nat) (j:Int) (d:Array Stp) (c:Int->Int->List Stp->Option (Bool×List Stp)) (h:b<=d.size) (k:d.size<=1000000000):∀ (n i:Nat),b - i=n->0 < i->
  zaC a b j d.toList c i=zaB a b j d.toList c (Go.Sort.scanSorted ltS d b i:Nat):=by
 intro n;induction n with
 | zero=>
  intro i e f;rw [zdn];unfold zax;unfold Go.Sort.scanSorted;rw [if_neg (by simp only [decide_eq_true_eq];omega),show decide (i < b)=false from decide_eq_false (by omega),Bool.false_and,if_neg (by simp)]
 | succ n g=>
  intro i e f;have l:=d.length_toList;rw [zdn];unfold zax;unfold Go.Sort.scanSorted;rw [if_pos (by simp only [decide_eq_true_eq];omega),show (i:Int) - 1=((i - 1:Nat):Int) by omega]
  (repeat (rw [zae (by first | omega | (unfold fits;omega) | (simp only [List.length_set,Array.length_toList];omega))]))
  rw [ixA,ixA,ziv,show decide (i < b)=true from decide_eq_true (by omega),Bool.true_and];show (if (!ltS d[i]! d[i - 1]!)=true then _ else _)=_;cases ltS d[i]! d[i - 1]! with
  | true=>rw [if_neg (by simp),if_neg (by simp)]
  | false=>
   rw [if_pos (by simp),if_pos (by simp)]
   (repeat (rw [zae (by first | omega | (unfold fits;omega) | (simp only [List.length_set,Array.length_toList];omega))]))
   exact g (i+1) (by omega) (by omega)
theorem zxw (d:Array Stp) (b:Nat):∀ (n i:Nat),b - i=n->i<=b->i<=Go.Sort.scanSorted ltS d b i/\Go.Sort.scanSorted ltS d b i<=b:=by
 intro n;induction n with
 | zero=>intro i a c;unfold Go.Sort.scanSorted;rw [show decide (i < b)=false from decide_eq_false (by omega),Bool.false_and,if_neg (by simp)];omega
 | succ n e=>
  intro i a c;unfold Go.Sort.scanSorted;split
  ·have:=e (i+1) (by omega) (by omega);omega
  ·omega
theorem zvu (a b:Nat) (e:a < b):∀ (s i:Nat) (d:Array Stp),s<=5->a < i->i<=b->b<=d.size->d.size<=1000000000->
  zba a b i (5 - (s:Int)) d.toList=some ((Go.Sort.partialIns ltS a b s i d).2,(Go.Sort.partialIns ltS a b s i d).1.toList)
 | 0,i,d,hs,hi,hib,hb,hd=>by
  rw [zdm];unfold zaw;rw [if_neg (by simp)];rfl
 | s+1,i,d,hs,hi,hib,hb,hd=>by
  have o:=d.length_toList;rw [zdm];unfold zaw;unfold Go.Sort.partialIns;rw [if_pos (by simp only [decide_eq_true_eq];omega),zz7 a b _ d _ hb hd _ i rfl (by omega)];obtain ⟨p,f⟩:=zxw d b _ i rfl hib;dsimp only;generalize Go.Sort.scanSorted ltS d b i=k at *
  unfold zaB;by_cases c1:k=b
  ·rw [if_pos (by simp [c1]),if_pos c1]
  ·rw [if_neg (by simp only [decide_eq_true_eq];omega),if_neg c1]
   (repeat (rw [zae (by first | omega | (unfold fits;omega) | (simp only [List.length_set,Array.length_toList];omega))]))
   by_cases h:b - a < 50
   ·rw [if_pos (by simp only [decide_eq_true_eq];omega),if_pos h]
   ·rw [if_neg (by simp only [decide_eq_true_eq];omega),if_neg h,show (k:Int) - 1=((k - 1:Nat):Int) by omega]
    (repeat (rw [zae (by first | omega | (unfold fits;omega) | (simp only [List.length_set,Array.length_toList];omega))]))
    rw [ixA,ixA,Int.toNat_natCast,Int.toNat_natCast,swpA];have g:=swpZ d k (k - 1);have l:(5 - ((s+1:Nat):Int))+1=5 - (s:Int):=by omega
    have fin:∀ c:Array Stp,c.size=d.size->zal b (5 - ((s+1:Nat):Int)) (zba a b) k c.toList=some ((Go.Sort.partialIns ltS a b s k (if b - k ≥ 2 then Go.Sort.shiftUp ltS b (k+1) c else c)).2,(Go.Sort.partialIns ltS a b s k (if b - k ≥ 2 then Go.Sort.shiftUp ltS b (k+1) c else c)).1.toList):=fun c n=>by
     rw [zyo b _ _ k (by omega) c (by omega) (by omega) f,l];have m:(if b - k ≥ 2 then Go.Sort.shiftUp ltS b (k+1) c else c).size=c.size:=by
      split
      ·exact zu3 b _ _ _ rfl
      ·rfl
     exact zvu a b e s k _ (by omega) (by omega) f (by omega) (by omega)
    by_cases j:k - a ≥ 2
    ·rw [if_pos (by simp only [decide_eq_true_eq];omega),if_pos j,zt8 b _ _ k (by omega) f (k - 1) _ (by omega) (by omega) (by omega)];exact fin _ ((zpU _ _).trans g)
    ·rw [if_neg (by simp only [decide_eq_true_eq];omega),if_neg j];exact fin _ g
theorem zuV (a b:Nat) (d:Array Stp) (c:a < b) (e:b<=d.size) (f:d.size<=1000000000):zbR a b d.toList=some ((Go.Sort.partialInsertionSort ltS d a b).2,(Go.Sort.partialInsertionSort ltS d a b).1.toList):=by
 unfold zbR Go.Sort.partialInsertionSort
 (repeat (rw [zae (by first | omega | (unfold fits;omega) | (simp only [List.length_set,Array.length_toList];omega))]))
 exact zvu a b c 5 (a+1) d (Nat.le_refl _) (by omega) (by omega) e f
theorem zvt (a b:Nat) (d:Array Stp) (r:Int->Int->List Stp->Option (Int×List Stp)) (e:a < d.size) (f:d.size<=1000000000) (g:0 < b):∀ j:Nat,j < d.size->
  zaX a d.toList r b j=zaV d.toList r b (Go.Sort.scanDown (fun x=>ltS d[a]! x) d b j:Nat)
 | 0,hj=>by
  rw [zeG];unfold zaL;rw [if_neg (by simp only [decide_eq_true_eq];omega)];rfl
 | j+1,hj=>by
  have h:=d.length_toList;rw [zeG];unfold zaL;unfold Go.Sort.scanDown;by_cases c:b<=j+1
  ·rw [if_pos (by simp only [decide_eq_true_eq];omega)]
   (repeat (rw [zae (by first | omega | (unfold fits;omega) | (simp only [List.length_set,Array.length_toList];omega))]))
   rw [ixA,ixA,ziv,show decide (b<=j+1)=true from decide_eq_true c,Bool.true_and];show (if ltS d[a]! d[j+1]! =true then _ else _)=_;cases ltS d[a]! d[j+1]! with
   | true=>
    rw [if_pos rfl,if_pos rfl]
    (repeat (rw [zae (by first | omega | (unfold fits;omega) | (simp only [List.length_set,Array.length_toList];omega))]))
    rw [show ((j+1:Nat):Int) - 1=(j:Int) by omega];exact zvt a b d r e f g j (by omega)
   | false=>rw [if_neg (by simp),if_neg (by simp)]
  ·rw [if_neg (by simp only [decide_eq_true_eq];omega),show decide (b<=j+1)=false from decide_eq_false c,Bool.false_and,if_neg (by simp)]
theorem zz6 (a j:Nat) (d:Array Stp) (r:Int->Int->List Stp->Option (Int×List Stp)) (e:a < d.size) (f:j < d.size) (g:d.size<=1000000000):∀ (n i:Nat),j+1 - i=n->
  zaW a j d.toList r i=zaU a j d.toList r (Go.Sort.scanUp (fun x => !ltS d[a]! x) d j i:Nat):=by
 intro n;induction n with
 | zero=>
  intro i b;rw [zeE];unfold zaK;unfold Go.Sort.scanUp;rw [if_neg (by simp only [decide_eq_true_eq];omega),show decide (i<=j)=false from decide_eq_false (by omega),Bool.false_and,if_neg (by simp)]
 | succ n c=>
  intro i b;have h:=d.length_toList;rw [zeE];unfold zaK;unfold Go.Sort.scanUp;rw [if_pos (by simp only [decide_eq_true_eq];omega),show decide (i<=j)=true from decide_eq_true (by omega),Bool.true_and]
  (repeat (rw [zae (by first | omega | (unfold fits;omega) | (simp only [List.length_set,Array.length_toList];omega))]))
  rw [ixA,ixA,ziv];show (if (!ltS d[a]! d[i]!)=true then _ else _)=_;cases ltS d[a]! d[i]! with
  | true=>rw [if_neg (by simp),if_neg (by simp)]
  | false=>
   rw [if_pos (by simp),if_pos (by simp)]
   (repeat (rw [zae (by first | omega | (unfold fits;omega) | (simp only [List.length_set,Array.length_toList];omega))]))
   exact c (i+1) (by omega)
theorem zyn (a:Nat):∀ (n i j:Nat) (d:Array Stp),j+1 - i<=n->a < i->j < d.size->a < d.size->d.size<=1000000000->
  zb6 a i j d.toList=some (((Go.Sort.partEqLoop ltS a i j d).1:Int),(Go.Sort.partEqLoop ltS a i j d).2.toList):=by
 intro n;induction n using Nat.strongRecOn with
 | ind n g=>
  intro i j d h k f b e;have l:=d.length_toList;rw [zhU];unfold za1;have m:=Go.Sort.scanUp_ge (fun x => !ltS d[a]! x) d j i;have o:=Go.Sort.scanUp_spec (fun x => !ltS d[a]! x) d j _ i rfl;rw [zz6 a j d _ b f e _ i rfl,Go.Sort.partEqLoop_eq];unfold zaU;generalize Go.Sort.scanUp (fun x => !ltS d[a]! x) d j i=i2 at *
  have p:=Go.Sort.scanDown_le (fun x=>ltS d[a]! x) d i2 j;rw [zvt a i2 d _ b e (by omega) j f];unfold zaV;generalize Go.Sort.scanDown (fun x=>ltS d[a]! x) d i2 j=j2 at *
  by_cases c:i2 > j2
  ·rw [if_pos (by simp only [decide_eq_true_eq];omega),if_pos c]
  ·rw [if_neg (by simp only [decide_eq_true_eq];omega),if_neg c]
   (repeat (rw [zae (by first | omega | (unfold fits;omega) | (simp only [List.length_set,Array.length_toList];omega))]))
   rw [ixA,ixA,Int.toNat_natCast,Int.toNat_natCast,swpA,show (j2:Int) - 1=((j2 - 1:Nat):Int) by omega];exact g (j2 - 1+1 - (i2+1)) (by omega) (i2+1) (j2 - 1) _ (Nat.le_refl _) (by omega) (by rw [swpZ];omega) (by rw [swpZ];exact b) (by rw [swpZ];exact e)
theorem zwx (a b c:Nat) (d:Array Stp) (f:a<=c) (g:c < b) (h:b<=d.size) (e:d.size<=1000000000):zcz a b c d.toList=some (((Go.Sort.partitionEqual ltS d a b c).1:Int),(Go.Sort.partitionEqual ltS d a b c).2.toList):=by
 have i:=d.length_toList;unfold zcz Go.Sort.partitionEqual
 (repeat (rw [zae (by first | omega | (unfold fits;omega) | (simp only [List.length_set,Array.length_toList];omega))]))
 rw [ixA,ixA,Int.toNat_natCast,Int.toNat_natCast,swpA,show (b:Int) - 1=((b - 1:Nat):Int) by omega];exact zyn a _ (a+1) (b - 1) _ (Nat.le_refl _) (by omega) (by rw [swpZ];omega) (by rw [swpZ];omega) (by rw [swpZ];exact e)
theorem zvp (a b:Nat) (d:Array Stp) (r:Int->Int->List Stp->Option (Int×Bool×List Stp)) (e:a < d.size) (f:d.size<=1000000000) (g:0 < b):∀ j:Nat,j < d.size->
  zbo a d.toList r b j=zbm a d.toList r b (Go.Sort.scanDown (fun x => !ltS x d[a]!) d b j:Nat)
 | 0,hj=>by
  rw [zfI];unfold za8;rw [if_neg (by simp only [decide_eq_true_eq];omega)];rfl
 | j+1,hj=>by
  have h:=d.length_toList;rw [zfI];unfold za8;unfold Go.Sort.scanDown;by_cases c:b<=j+1
  ·rw [if_pos (by simp only [decide_eq_true_eq];omega)]
   (repeat (rw [zae (by first | omega | (unfold fits;omega) | (simp only [List.length_set,Array.length_toList];omega))]))
   rw [ixA,ixA,ziv,show decide (b<=j+1)=true from decide_eq_true c,Bool.true_and];show (if (!ltS d[j+1]! d[a]!)=true then _ else _)=_;cases ltS d[j+1]! d[a]! with
   | false=>
    rw [if_pos (by simp),if_pos (by simp)]
    (repeat (rw [zae (by first | omega | (unfold fits;omega) | (simp only [List.length_set,Array.length_toList];omega))]))
    rw [show ((j+1:Nat):Int) - 1=(j:Int) by omega];exact zvp a b d r e f g j (by omega)
   | true=>rw [if_neg (by simp),if_neg (by simp)]
  ·rw [if_neg (by simp only [decide_eq_true_eq];omega),show decide (b<=j+1)=false from decide_eq_false c,Bool.false_and,if_neg (by simp)]
theorem zz2 (a j:Nat) (d:Array Stp) (r:Int->Int->List Stp->Option (Int×Bool×List Stp)) (e:a < d.size) (f:j < d.size) (g:d.size<=1000000000):∀ (n i:Nat),j+1 - i=n->
  zbn a j d.toList r i=zbl a j d.toList r (Go.Sort.scanUp (fun x=>ltS x d[a]!) d j i:Nat):=by
 intro n;induction n with
 | zero=>
  intro i b;rw [zfG];unfold za7;unfold Go.Sort.scanUp;rw [if_neg (by simp only [decide_eq_true_eq];omega),show decide (i<=j)=false from decide_eq_false (by omega),Bool.false_and,if_neg (by simp)]
 | succ n c=>
  intro i b;have h:=d.length_toList;rw [zfG];unfold za7;unfold Go.Sort.scanUp;rw [if_pos (by simp only [decide_eq_true_eq];omega),show decide (i<=j)=true from decide_eq_true (by omega),Bool.true_and]
  (repeat (rw [zae (by first | omega | (unfold fits;omega) | (simp only [List.length_set,Array.length_toList];omega))]))
  rw [ixA,ixA,ziv];show (if ltS d[i]! d[a]! =true then _ else _)=_;cases ltS d[i]! d[a]! with
  | false=>rw [if_neg (by simp),if_neg (by simp)]
  | true=>
   rw [if_pos (by simp),if_pos (by simp)]
   (repeat (rw [zae (by first | omega | (unfold fits;omega) | (simp only [List.length_set,Array.length_toList];omega))]))
   exact c (i+1) (by omega)
theorem zyl (a:Nat):∀ (n i j:Nat) (d:Array Stp),j+1 - i<=n->a < i->j < d.size->a < d.size->d.size<=1000000000->
  zcy a i j d.toList=some (((Go.Sort.partLoop ltS a i j d).1:Int),false,(Go.Sort.swp (Go.Sort.partLoop ltS a i j d).2 (Go.Sort.partLoop ltS a i j d).1 a).toList):=by
 intro n;induction n using Nat.strongRecOn with
 | ind n g=>
  intro i j d h k f b e;have l:=d.length_toList;rw [zjg];unfold zbs;have m:=Go.Sort.scanUp_ge (fun x=>ltS x d[a]!) d j i;rw [zz2 a j d _ b f e _ i rfl,Go.Sort.partLoop_eq];unfold zbl;generalize Go.Sort.scanUp (fun x=>ltS x d[a]!) d j i=i2 at *
  have o:=Go.Sort.scanDown_le (fun x => !ltS x d[a]!) d i2 j;rw [zvp a i2 d _ b e (by omega) j f];unfold zbm;generalize Go.Sort.scanDown (fun x => !ltS x d[a]!) d i2 j=j2 at *
  by_cases c:i2 > j2
  ·rw [if_pos (by simp only [decide_eq_true_eq];omega),if_pos c]
   (repeat (rw [zae (by first | omega | (unfold fits;omega) | (simp only [List.length_set,Array.length_toList];omega))]))
   rw [ixA,ixA,Int.toNat_natCast,Int.toNat_natCast,swpA]
  ·rw [if_neg (by simp only [decide_eq_true_eq];omega),if_neg c]
   (repeat (rw [zae (by first | omega | (unfold fits;omega) | (simp only [List.length_set,Array.length_toList];omega))]))
   rw [ixA,ixA,Int.toNat_natCast,Int.toNat_natCast,swpA,show (j2:Int) - 1=((j2 - 1:Nat):Int) by omega];exact g (j2 - 1+1 - (i2+1)) (by omega) (i2+1) (j2 - 1) _ (Nat.le_refl _) (by omega) (by rw [swpZ];omega) (by rw [swpZ];exact b) (by rw [swpZ];exact e)
theorem zxj (a b e:Nat) (d:Array Stp) (f:a < d.size) (g:b < d.size) (h:d.size<=1000000000) (i:0 < e):∀ j:Nat,j < d.size->
  zc4 a b d.toList e j=zc2 a b d.toList e (Go.Sort.scanDown (fun x => !ltS x (Go.Sort.swp d a b)[a]!) (Go.Sort.swp d a b) e j:Nat)
 | 0,hj=>by
  rw [zgg];unfold zbe;rw [if_neg (by simp only [decide_eq_true_eq];omega)];rfl
 | j+1,hj=>by
  have l:=d.length_toList;have m:=swpZ d a b;have k:=(Go.Sort.swp d a b).length_toList;rw [zgg];unfold zbe;unfold Go.Sort.scanDown;rw [ixA d b,ixA d a,Int.toNat_natCast a,Int.toNat_natCast b,swpA];by_cases c:e<=j+1
  ·rw [if_pos (by simp only [decide_eq_true_eq];omega)]
   (repeat (rw [zae (by first | omega | (unfold fits;omega) | (simp only [List.length_set,Array.length_toList];omega))]))
   rw [ixA,ixA,ziv,show decide (e<=j+1)=true from decide_eq_true c,Bool.true_and];show (if (!ltS (Go.Sort.swp d a b)[j+1]! (Go.Sort.swp d a b)[a]!)=true then _ else _)=_;cases ltS (Go.Sort.swp d a b)[j+1]! (Go.Sort.swp d a b)[a]! with
   | false=>
    rw [if_pos (by simp),if_pos (by simp)]
    (repeat (rw [zae (by first | omega | (unfold fits;omega) | (simp only [List.length_set,Array.length_toList];omega))]))
    rw [show ((j+1:Nat):Int) - 1=(j:Int) by omega];exact zxj a b e d f g h i j (by omega)
   | true=>rw [if_neg (by simp),if_neg (by simp)]
  ·rw [if_neg (by simp only [decide_eq_true_eq];omega),show decide (e<=j+1)=false from decide_eq_false c,Bool.false_and,if_neg (by simp)]
theorem zBx (a b c:Nat) (d:Array Stp) (j:a < d.size) (k:c < d.size) (e:0 < b) (l:b<=d.size) (m:d.size<=1000000000):∀ (n i:Nat),b - 1+1 - i=n->
  zc3 a b c d.toList i=zc1 a b c d.toList (Go.Sort.scanUp (fun x=>ltS x (Go.Sort.swp d a c)[a]!) (Go.Sort.swp d a c) (b - 1) i:Nat):=by
 intro n;have o:=d.length_toList;have p:=swpZ d a c;have g:=(Go.Sort.swp d a c).length_toList;induction n with
 | zero=>
  intro i f;rw [zgf];unfold zbd;unfold Go.Sort.scanUp
  (repeat (rw [zae (by first | omega | (unfold fits;omega) | (simp only [List.length_set,Array.length_toList];omega))]))
  rw [if_neg (by simp only [decide_eq_true_eq];omega),show decide (i<=b - 1)=false from decide_eq_false (by omega),Bool.false_and,if_neg (by simp)]
 | succ n h=>
  intro i f;rw [zgf];unfold zbd;unfold Go.Sort.scanUp
  (repeat (rw [zae (by first | omega | (unfold fits;omega) | (simp only [List.length_set,Array.length_toList];omega))]))
  rw [ixA d c,ixA d a,Int.toNat_natCast a,Int.toNat_natCast c,swpA];rw [if_pos (by simp only [decide_eq_true_eq];omega),show decide (i<=b - 1)=true from decide_eq_true (by omega),Bool.true_and]
  (repeat (rw [zae (by first | omega | (unfold fits;omega) | (simp only [List.length_set,Array.length_toList];omega))]))
  rw [ixA,ixA,ziv];show (if ltS (Go.Sort.swp d a c)[i]! (Go.Sort.swp d a c)[a]! =true then _ else _)=_;cases ltS (Go.Sort.swp d a c)[i]! (Go.Sort.swp d a c)[a]! with
  | false=>rw [if_neg (by simp),if_neg (by simp)]
  | true=>
   rw [if_pos (by simp),if_pos (by simp)]
   (repeat (rw [zae (by first | omega | (unfold fits;omega) | (simp only [List.length_set,Array.length_toList];omega))]))
   exact h (i+1) (by omega)
theorem zym (a b e:Nat) (d:Array Stp) (j:a<=e) (k:e < b) (h:b<=d.size) (f:d.size<=1000000000):zd3 a b e d.toList=some (((Go.Sort.partition ltS d a b e).1:Int),(Go.Sort.partition ltS d a b e).2.1,(Go.Sort.partition ltS d a b e).2.2.toList):=by
 have l:=d.length_toList;have m:=swpZ d a e;have i:=(Go.Sort.swp d a e).length_toList;unfold zd3 Go.Sort.partition;dsimp only
 (repeat (rw [zae (by first | omega | (unfold fits;omega) | (simp only [List.length_set,Array.length_toList];omega))]))
 have n:=Go.Sort.scanUp_ge (fun x=>ltS x (Go.Sort.swp d a e)[a]!) (Go.Sort.swp d a e) (b - 1) (a+1);have g:=zBx a b e d (by omega) (by omega) (by omega) h f _ (a+1) rfl;rw [show ((a+1:Nat):Int)=(a:Int)+1 by omega] at g;rw [g];unfold zc1;generalize Go.Sort.scanUp (fun x=>ltS x (Go.Sort.swp d a e)[a]!) (Go.Sort.swp d a e) (b - 1) (a+1)=i1 at *
 have o:=Go.Sort.scanDown_le (fun x => !ltS x (Go.Sort.swp d a e)[a]!) (Go.Sort.swp d a e) i1 (b - 1);rw [show (b:Int) - 1=((b - 1:Nat):Int) by omega]
 (repeat (rw [zae (by first | omega | (unfold fits;omega) | (simp only [List.length_set,Array.length_toList];omega))]))
 rw [zxj a e i1 d (by omega) (by omega) f (by omega) (b - 1) (by omega)];unfold zc2;generalize Go.Sort.scanDown (fun x => !ltS x (Go.Sort.swp d a e)[a]!) (Go.Sort.swp d a e) i1 (b - 1)=j1 at *
 rw [ixA d e,ixA d a,Int.toNat_natCast a,Int.toNat_natCast e,swpA];by_cases c:i1 > j1
 ·rw [if_pos (by simp only [decide_eq_true_eq];omega),if_pos c]
  (repeat (rw [zae (by first | omega | (unfold fits;omega) | (simp only [List.length_set,Array.length_toList];omega))]))
  rw [ixA,ixA,Int.toNat_natCast,swpA]
 ·rw [if_neg (by simp only [decide_eq_true_eq];omega),if_neg c]
  (repeat (rw [zae (by first | omega | (unfold fits;omega) | (simp only [List.length_set,Array.length_toList];omega))]))
  rw [ixA,ixA,Int.toNat_natCast,Int.toNat_natCast,swpA,show (j1:Int) - 1=((j1 - 1:Nat):Int) by omega];exact zyl a _ (i1+1) (j1 - 1) _ (Nat.le_refl _) (by omega) (by rw [swpZ];omega) (by rw [swpZ];omega) (by rw [swpZ];omega)
theorem zzI (a b:Nat) (M:Int) (r:a+8<=b) (s:0 < M/\M<=2 * ((b:Int) - a)):∀ (n idx:Nat) (g:Int) (d:Array Stp),a+(b - a) / 4 * 2+2 - idx=n->a<=idx->b<=d.size->d.size<=1000000000->
  ∃ f,zbL a b M idx d.toList g=some f.toList/\Go.Sort.PermIn a b d f:=by
 intro n;have e:Int.tdiv ((b:Int) - (a:Int)) 4=(((b - a) / 4:Nat):Int):=by
  rw [show (b:Int) - (a:Int)=((b - a:Nat):Int) by omega,show (4:Int)=((4:Nat):Int) from rfl,<- Int.ofNat_tdiv]
 have v:=Nat.div_mul_le_self (b - a) 4;induction n with
 | zero=>
  intro idx g d l i h j;refine ⟨d,?_,Go.Sort.permIn_refl d a b⟩;rw [zeK];unfold zaQ;rw [e]
  (repeat (rw [zae (by first | omega | (unfold fits;omega) | (simp only [List.length_set,Array.length_toList];omega))]))
  rw [if_neg (by simp only [decide_eq_true_eq];omega)]
 | succ n q=>
  intro idx g d l i h j;have w:=d.length_toList;rw [zeK];unfold zaQ;rw [e]
  (repeat (rw [zae (by first | omega | (unfold fits;omega) | (simp only [List.length_set,Array.length_toList];omega))]))
  rw [if_pos (by simp only [decide_eq_true_eq];omega)];unfold zhn;rw [zae (by omega),zae (by omega),zae (by omega)];simp only [Option.bind_some];generalize ixor .u64 _ _=rn;rw [zr2 (x:=M - 1) (by omega) (by omega)];have m:=iandU (x:=rn) (y:=M - 1) (by omega) (by omega);generalize iand .u64 rn (M - 1)=o at *
  rw [zBZ (x:=o) (by omega) (by omega)];have k:∀ t:Nat,t < b - a->∃ f,za2 a idx d.toList (zbL a b M) rn t=some f.toList/\Go.Sort.PermIn a b d f:=fun t u=>by
   unfold za2;rw [show (a:Int)+(t:Int)=((a+t:Nat):Int) by omega]
   (repeat (rw [zae (by first | omega | (unfold fits;omega) | (simp only [List.length_set,Array.length_toList];omega))]))
   rw [ixA,ixA,Int.toNat_natCast,Int.toNat_natCast,swpA,show (idx:Int)+1=((idx+1:Nat):Int) by omega];obtain ⟨f,e',p⟩:=q (idx+1) rn (Go.Sort.swp d idx (a+t)) (by omega) (by omega) (by rw [swpZ];exact h) (by rw [swpZ];exact j);exact ⟨f,e',Go.Sort.permIn_trans d _ f a b (Go.Sort.swp_permIn d a b idx (a+t) i (by omega) (by omega) (by omega) h) p⟩
  by_cases c:(b:Int) - (a:Int)<=o
  ·rw [if_pos (decide_eq_true c),zae (by unfold fits;omega),show o - ((b:Int) - (a:Int))=((o - ((b:Int) - (a:Int))).toNat:Int) by omega];exact k _ (by omega)
  ·rw [if_neg (by simpa using c),show o=(o.toNat:Int) by omega];exact k _ (by omega)
theorem zwQ (a b:Nat) (d:Array Stp) (g:a<=b) (i:b<=d.size) (j:d.size<=1000000000):∃ f,zcH a b d.toList=some f.toList/\Go.Sort.PermIn a b d f:=by
 unfold zcH
 (repeat (rw [zae (by first | omega | (unfold fits;omega) | (simp only [List.length_set,Array.length_toList];omega))]))
 by_cases c:8<=b - a
 ·rw [if_pos (by simp only [decide_eq_true_eq];omega)];obtain ⟨M,e,h⟩:=zDP (n:=(b:Int) - (a:Int)) (by omega) (by omega);rw [e];have k:Int.tdiv ((b:Int) - (a:Int)) 4=(((b - a) / 4:Nat):Int):=by
   rw [show (b:Int) - (a:Int)=((b - a:Nat):Int) by omega,show (4:Int)=((4:Nat):Int) from rfl,<- Int.ofNat_tdiv]
  show ∃ f,G _ _=_/\_;rw [k];have l:=Nat.div_mul_le_self (b - a) 4
  (repeat (rw [zae (by first | omega | (unfold fits;omega) | (simp only [List.length_set,Array.length_toList];omega))]))
  rw [show (a:Int)+(((b - a) / 4:Nat):Int) * 2 - 1=((a+(b - a) / 4 * 2 - 1:Nat):Int) by omega];exact zzI a b M (by omega) h _ _ _ d rfl (by omega) i j
 ·rw [if_neg (by simp only [decide_eq_true_eq];omega)];exact ⟨d,rfl,Go.Sort.permIn_refl d a b⟩
def zjq (n:Nat):Prop:=∀ (a b lim:Nat) (wb wp:Bool) (d:Array Stp),b - a<=n->a<=b->b<=d.size->d.size<=1000000000->lim<=64->Go.Sort.Below ltS a b d->
 ∃ c,zap zam a b lim wb wp d.toList=some c.toList/\Go.Sort.PermIn a b d c/\Go.Sort.SortedIn ltS a b c
theorem znk (a b c:Nat) (l:List Stp):zam a b c l=zap zam a b c true true l:=by
 rw [zm0];unfold zce;rfl
theorem zvj (E:Go.Sort.SWO ltS) {n:Nat} (W:∀ m,m < n->zjq m) (a b q g:Nat) (y z:Bool) (d:Array Stp) (hn:b - a=n) (hab:a < b) (M:b<=d.size) (hd:d.size<=1000000000) (w:q<=64) (hB:Go.Sort.Below ltS a b d) (S:a<=g) (T:g < b) (t:Bool) (ht:t=true->0 < a/\ltS d[a - 1]! d[g]! =false):
  ∃ X,zbz zam a b y z (zap zam) q g d.toList t=some X.toList/\Go.Sort.PermIn a b d X/\Go.Sort.SortedIn ltS a b X:=by
 unfold zbz;cases t with
 | true=>
  obtain ⟨ha,Z⟩:=ht rfl;have N:∀ i,a<=i->i < b->ltS d[i]! d[g]! =false:=fun i k j=>E.ntrans _ _ _ ((hB.resolve_left (by omega)) i k j) Z
  obtain ⟨V,Q,A,J,D⟩:=Go.Sort.partitionEqual_holds ltS E d a b g S T M N;rw [if_pos rfl,zwx a b g d S T M hd];simp only [Option.bind_some];have B:=Go.Sort.permIn_all d (Go.Sort.partitionEqual ltS d a b g).2 a b (fun x=>ltS x d[g]! =false) M A N;generalize Go.Sort.partitionEqual ltS d a b g=r at *
  obtain ⟨f,l⟩:=r;dsimp only at V Q A J D B ⊢;have O:=A.1;obtain ⟨R,e,r1,r2⟩:=W (b - f) (by omega) f b q y z l (Nat.le_refl _) Q (by omega) (by omega) w (.inr fun i k j=>by
   cases hc:ltS l[i]! l[f - 1]! with
   | false=>rfl
   | true=>have:=E.trans _ _ _ (D i k j) hc;rw [J (f - 1) (by omega) (by omega)] at this;cases this)
  have hm:=Go.Sort.permIn_mono l R f b a b (by omega) (Nat.le_refl _) (by omega) r1;refine ⟨R,e,Go.Sort.permIn_trans d l R a b A hm,?_⟩;have C:∀ i,i < f->R[i]! =l[i]! :=fun i h=>r1.2.1 i (.inl h)
  have Y:=Go.Sort.permIn_all l R f b (fun x=>ltS d[g]! x=true) (by omega) r1 D;exact Go.Sort.sorted_glue_eq E d[g]! r2 (fun i k j=>by rw [C i j];exact J i k j) (fun i k j=>by rw [C i j];exact B i k (by omega)) Y
 | false=>
  obtain ⟨V,Q,A,J,D⟩:=Go.Sort.partition_holds ltS E d a b g S T M;rw [if_neg (by simp),zym a b g d S T M hd];simp only [Option.bind_some];have P:=hB.perm M A;generalize Go.Sort.partition ltS d a b g=r at *
  obtain ⟨f,al,l⟩:=r;dsimp only at V Q A J D P ⊢;have O:=A.1;have e8:Int.tdiv ((b:Int) - (a:Int)) 8=(((b - a) / 8:Nat):Int):=by
   rw [show (b:Int) - (a:Int)=((b - a:Nat):Int) by omega,show (8:Int)=((8:Nat):Int) from rfl,<- Int.ofNat_tdiv]
  have h8:=Nat.div_mul_le_self (b - a) 8;rw [e8]
  (repeat (rw [zae (by first | omega | (unfold fits;omega) | (simp only [List.length_set,Array.length_toList];omega))]))
  have e1:(f:Int)+1=((f+1:Nat):Int):=by omega
  rw [e1];have left:∀ (v:Array Stp) (y z:Bool),v.size=d.size->(∀ i,a<=i->i < f->v[i]! =l[i]!)->(∀ i,i < a->v[i]! =l[i]!)->∃ R,zap zam a f q y z v.toList=some R.toList/\Go.Sort.PermIn a f v R/\Go.Sort.SortedIn ltS a f R:=fun v y z h1 U h3=>
   W (f - a) (by omega) a f q y z v (Nat.le_refl _) V (by omega) (by omega) w (by
    rcases P with h | h
    ·exact .inl h
    ·rcases Nat.eq_zero_or_pos a with h0 | h0
     ·exact .inl h0
     ·exact .inr fun i k j=>by rw [U i k j,h3 (a - 1) (by omega)];exact h i k (by omega))
  have right:∀ (v:Array Stp) (y z:Bool),v.size=d.size->(∀ i,f<=i->i < b->v[i]! =l[i]!)->∃ R,zap zam (f+1:Nat) b q y z v.toList=some R.toList/\Go.Sort.PermIn (f+1) b v R/\Go.Sort.SortedIn ltS (f+1) b R:=fun v y z h1 U=>
   W (b - (f+1)) (by omega) (f+1) b q y z v (Nat.le_refl _) (by omega) (by omega) (by omega) w (.inr fun i k j=>by
    rw [Nat.add_sub_cancel,U i (by omega) j,U f (Nat.le_refl _) Q];exact D i (by omega) j)
  by_cases c:f - a < b - f
  ·rw [if_pos (by simp only [decide_eq_true_eq];omega)];obtain ⟨s,s1,o,s3⟩:=left l true true O (fun _ _ _=>rfl) (fun _ _=>rfl);rw [znk,s1];simp only [Option.bind_some]
   (repeat (rw [zae (by first | omega | (unfold fits;omega) | (simp only [List.length_set,Array.length_toList];omega))]))
   obtain ⟨u,t1,L,t3⟩:=right s (decide ((((b - a) / 8:Nat):Int)<=(f:Int) - (a:Int))) al (by rw [o.1];exact O) (fun i k j=>o.2.1 i (.inr k));refine ⟨u,t1,?_,?_⟩
   ·exact Go.Sort.permIn_trans d l u a b A (Go.Sort.permIn_trans l s u a b (Go.Sort.permIn_mono l s a f a b (Nat.le_refl _) (by omega) (by omega) o) (Go.Sort.permIn_mono s u (f+1) b a b (by omega) (Nat.le_refl _) (by rw [o.1];omega) L))
   ·have F:∀ i,i < f+1->u[i]! =s[i]! :=fun i h=>L.2.1 i (.inl h)
    have p:u[f]! =l[f]! :=(F f (by omega)).trans (o.2.1 f (.inr (Nat.le_refl _)));have H:=Go.Sort.permIn_all l s a f (fun x=>ltS x l[f]! =true) (by omega) o J;have I:=Go.Sort.permIn_all s u (f+1) b (fun x=>ltS x l[f]! =false) (by rw [o.1];omega) L (fun i k j=>by rw [o.2.1 i (.inr (by omega))];exact D i (by omega) j);exact Go.Sort.sorted_glue E (s3.congr fun i k j=>F i (by omega)) t3 (fun i k j=>by rw [F i (by omega),p];exact H i k j) (fun i k j=>by rw [p];exact I i (by omega) j)
  ·rw [if_neg (by simp only [decide_eq_true_eq];omega)];obtain ⟨s,s1,o,s3⟩:=right l true true O (fun _ _ _=>rfl);rw [znk,s1];simp only [Option.bind_some]
   (repeat (rw [zae (by first | omega | (unfold fits;omega) | (simp only [List.length_set,Array.length_toList];omega))]))
   obtain ⟨u,t1,L,t3⟩:=left s (decide ((((b - a) / 8:Nat):Int)<=(b:Int) - (f:Int))) al (by rw [o.1];exact O) (fun i k j=>o.2.1 i (.inl (by omega))) (fun i k=>o.2.1 i (.inl (by omega)));refine ⟨u,t1,?_,?_⟩
   ·exact Go.Sort.permIn_trans d l u a b A (Go.Sort.permIn_trans l s u a b (Go.Sort.permIn_mono l s (f+1) b a b (by omega) (Nat.le_refl _) (by omega) o) (Go.Sort.permIn_mono s u a f a b (Nat.le_refl _) (by omega) (by rw [o.1];omega) L))
   ·have F:∀ i,f<=i->u[i]! =s[i]! :=fun i h=>L.2.1 i (.inr h)
    have p:u[f]! =l[f]! :=(F f (Nat.le_refl _)).trans (o.2.1 f (.inl (by omega)));have H:=Go.Sort.permIn_all s u a f (fun x=>ltS x l[f]! =true) (by rw [o.1];omega) L (fun i k j=>by rw [o.2.1 i (.inl (by omega))];exact J i k j);have I:=Go.Sort.permIn_all l s (f+1) b (fun x=>ltS x l[f]! =false) (by omega) o (fun i k j=>D i (by omega) j);exact Go.Sort.sorted_glue E t3 (s3.congr fun i k j=>F i (by omega)) (fun i k j=>by rw [p];exact H i k j) (fun i k j=>by rw [F i (by omega),p];exact I i (by omega) j)
theorem zvi (o:Go.Sort.SWO ltS) {n:Nat} (p:∀ m,m < n->zjq m) (a b f e:Nat) (j k:Bool) (d:Array Stp) (q:b - a=n) (i:a < b) (r:b<=d.size) (s:d.size<=1000000000) (g:f<=64) (t:Go.Sort.Below ltS a b d) (u:a<=e) (v:e < b):
  ∃ l,zby zam a b j k (zap zam) f e d.toList=some l.toList/\Go.Sort.PermIn a b d l/\Go.Sort.SortedIn ltS a b l:=by
 have w:=d.length_toList;unfold zby;by_cases c:0 < a
 ·rw [if_pos (by simp only [decide_eq_true_eq];omega),show (a:Int) - 1=((a - 1:Nat):Int) by omega]
  (repeat (rw [zae (by first | omega | (unfold fits;omega) | (simp only [List.length_set,Array.length_toList];omega))]))
  rw [ixA,ixA,ziv];simp only [Option.bind_some];exact zvj o p a b f e j k d q i r s g t u v (!ltS d[a - 1]! d[e]!) (fun h=>⟨c,by simpa using h⟩)
 ·rw [if_neg (by simp only [decide_eq_true_eq];omega)];exact zvj o p a b f e j k d q i r s g t u v false (by simp)
theorem zvh (s:Go.Sort.SWO ltS) {n:Nat} (x:∀ m,m < n->zjq m) (a b f c:Nat) (p q:Bool) (l:Int) (d:Array Stp) (y:b - a=n) (h:a < b) (o:b<=d.size) (u:d.size<=1000000000) (i:f<=64) (v:Go.Sort.Below ltS a b d) (z:a<=c) (A:c < b):
  ∃ g,zbx zam a b p q (zap zam) f c l d.toList=some g.toList/\Go.Sort.PermIn a b d g/\Go.Sort.SortedIn ltS a b g:=by
 have j:∀ t:Bool,∃ g,zbf zam a b p q (zap zam) f c d.toList t=some g.toList/\Go.Sort.PermIn a b d g/\Go.Sort.SortedIn ltS a b g:=fun t=>by
  unfold zbf;cases t with
  | true=>
   obtain ⟨k,B⟩:=Go.Sort.partialInsertionSort_holds s d a b h o v;rw [if_pos rfl,zuV a b d h o u];simp only [Option.bind_some];generalize Go.Sort.partialInsertionSort ltS d a b=r at *
   obtain ⟨w,ok⟩:=r;dsimp only at k B ⊢;cases ok with
   | true=>exact ⟨w,rfl,k,B rfl⟩
   | false=>
    rw [if_neg (by simp)];obtain ⟨g,e,C,D⟩:=zvi s x a b f c p q w y h (by rw [k.1];exact o) (by rw [k.1];exact u) i (v.perm o k) z A;exact ⟨g,e,Go.Sort.permIn_trans d w g a b k C,D⟩
  | false=>
   rw [if_neg (by simp)];exact zvi s x a b f c p q d y h o u i v z A
 unfold zbx;split
 ·split
  ·exact j _
  ·exact j _
 ·exact j _
theorem zz5 (s:Go.Sort.SWO ltS):∀ n,zjq n:=by
 intro n;induction n using Nat.strongRecOn with
 | ind n J=>
  intro a b c u w d M g k x l F;have N:=d.length_toList;rw [zli];unfold zbM
  (repeat (rw [zae (by first | omega | (unfold fits;omega) | (simp only [List.length_set,Array.length_toList];omega))]))
  by_cases c1:b - a<=12
  ·rw [if_pos (by simp only [decide_eq_true_eq];omega),zzV a b d g k x];obtain ⟨i,j⟩:=Go.Sort.insertionSort_holds s d a b g k;exact ⟨_,rfl,i,j⟩
  ·rw [if_neg (by simp only [decide_eq_true_eq];omega)];by_cases I:c=0
   ·rw [if_pos (by simp [I]),zyd a b d (by omega) k x];obtain ⟨i,j⟩:=Go.Sort.heapSort_holds s d a b g k;exact ⟨_,rfl,i,j⟩
   ·rw [if_neg (by simp only [decide_eq_true_eq];omega)];have A:∀ (c:Nat) (f:Array Stp),c<=64->Go.Sort.PermIn a b d f->∃ h,zbJ zam a b u w (zap zam) c f.toList=some h.toList/\Go.Sort.PermIn a b d h/\Go.Sort.SortedIn ltS a b h:=fun c f z t=>by
     have O:=t.1;have o:=F.perm k t;obtain ⟨C,D⟩:=Go.Sort.choosePivot_holds ltS f a b (by omega);unfold zbJ;rw [zxl f a b (by omega) (by omega) (by omega)];simp only [Option.bind_some];generalize Go.Sort.choosePivot ltS f a b=r at *
     obtain ⟨v,E⟩:=r;dsimp only at C D ⊢;have p:∀ m,m < b - a->zjq m:=fun m L=>J m (by omega)
     by_cases B:zkQ E=2
     ·rw [if_pos (by simp [B]),zAb a b f (by omega) (by omega) (by omega)];simp only [Option.bind_some];have y:=Go.Sort.reverseRange_holds f a b g (by omega);have H:=y.1
      (repeat (rw [zae (by first | omega | (unfold fits;omega) | (simp only [List.length_set,Array.length_toList];omega))]))
      rw [show (b:Int) - 1 - ((v:Int) - (a:Int))=(((b - 1) - (v - a):Nat):Int) by omega];obtain ⟨h,e,i,j⟩:=zvh s p a b c ((b - 1) - (v - a)) u w 1 _ rfl (by omega) (by omega) (by omega) z (o.perm (by omega) y) (by omega) (by omega);exact ⟨h,e,Go.Sort.permIn_trans d f h a b t (Go.Sort.permIn_trans f _ h a b y i),j⟩
     ·rw [if_neg (by simpa using B)];obtain ⟨h,e,i,j⟩:=zvh s p a b c v u w (zkQ E) f rfl (by omega) (by omega) (by omega) z o C D;exact ⟨h,e,Go.Sort.permIn_trans d f h a b t i,j⟩
    cases u with
    | true=>
     rw [if_neg (by simp)];exact A c d l (Go.Sort.permIn_refl d a b)
    | false=>
     rw [if_pos (by simp)];obtain ⟨f,e,q⟩:=zwQ a b d g k x;rw [e];simp only [Option.bind_some]
     (repeat (rw [zae (by first | omega | (unfold fits;omega) | (simp only [List.length_set,Array.length_toList];omega))]))
     rw [show (c:Int) - 1=((c - 1:Nat):Int) by omega];exact A (c - 1) f (by omega) q
theorem zwy (k:Go.Sort.SWO ltS) (l:List Stp) (m:l.length<=1000000000) {v:Int} (n:BL l.length v):∃ b,zam 0 l.length v l=some b/\b.Perm l/\b.Pairwise (fun x y=>ltS y x=false):=by
 obtain ⟨p,q,_⟩:=n;obtain ⟨a,e,h,o⟩:=zz5 k _ 0 l.length v.toNat true true l.toArray (Nat.le_refl _) (Nat.zero_le _) (by simp) (by simpa using m) (by omega) (.inl rfl);have g:=h.1;refine ⟨a.toList,?_,?_,?_⟩
 ·have:=znk 0 l.length v.toNat l;rw [show ((v.toNat:Nat):Int)=v by omega] at this;rw [show ((0:Nat):Int)=0 from rfl] at this;rw [this];rw [show ((v.toNat:Nat):Int)=v by omega] at e;exact e
 ·have:=h.2.2;rw [show a.extract 0 l.length=a by rw [<- show a.size=l.length by simpa using g];simp,show l.toArray.extract 0 l.length=l.toArray by simp] at this;simpa using this
 ·rw [List.pairwise_iff_getElem];intro i j f c d;have:=o i j (Nat.zero_le _) d (by simpa [g] using c);simp only [Array.length_toList] at f c;rw [getElem!_pos a j c,getElem!_pos a i f] at this;simpa using this
end
theorem zER {a b:Int} (c:a=b):decide (a=b)=true:=decide_eq_true c
theorem zEQ {a b:Int} (c : ¬ a=b) : ¬ decide (a=b)=true:=fun h=>c (of_decide_eq_true h)
theorem cq_np {a b:Int} (c : ¬ a=b):decide (¬ a=b)=true:=decide_eq_true c
theorem cq_nn {a b:Int} (c:a=b) : ¬ decide (¬ a=b)=true:=fun h=>of_decide_eq_true h c
theorem zB9 {a b:Stp} (c:a=b):eqB a b=true:=zgl.2 c
theorem zB8 {a b:Stp} (c : ¬ a=b) : ¬ eqB a b=true:=fun h=>c (zgl.1 h)
theorem zDq {a b:Stp} (c : ¬ a=b):(!(eqB a b))=true:=by
 cases h:eqB a b with
 | false=>rfl
 | true=>exact absurd (zgl.1 h) c
theorem zDp {a b:Stp} (c:a=b) : ¬ (!(eqB a b))=true:=by rw [zgl.2 c];simp
theorem zB7 {s:List Int} (Q:s.length<=1000000000) (p:∀ x y,Go.Sort.ltInt x y=false->Go.Sort.ltInt y x=false->x=y) (C:s.Pairwise (fun x y=>Go.Sort.ltInt y x=false)) {k:Nat} (R:0 < k) (D:k < s.length):
  ∀ (n a b:Nat) (d:List Int),s.length - k - a=n->1<=a->k+a<=s.length->0 < b->b+1<=k+a->d.length=s.length->(∀ i:Nat,b<=i->d[i]? =s[i]?)->
   (∀ x,x∈d.take b↔x∈s.take (k+a))->(d.take b).Pairwise (fun x y=>Go.Sort.ltInt x y=true)->
   ∃ r,zg1 s (k:Nat) (b:Nat) (a:Nat) d=some r/\(∀ x,x∈r↔x∈s)/\r.Pairwise (fun x y=>Go.Sort.ltInt x y=true)/\r.length<=s.length:=by
 intro n;induction n with
 | zero=>
  intro a b d H I J t L u f g j;rw [zj9];unfold zcs;simp only [Int.toNat_natCast];rw [if_neg (by simp only [decide_eq_true_eq];omega),zae (by omega),zae (by omega),zae (by simp;omega)];refine ⟨_,rfl,?_,?_,by simp;omega⟩
  ·intro x;rw [List.append_assoc,List.take_append_of_le_length (by simp;omega),List.take_take,Nat.min_self,g,show k+a=s.length by omega,List.take_length]
  ·rw [List.append_assoc,List.take_append_of_le_length (by simp;omega),List.take_take,Nat.min_self];exact j
 | succ n B=>
  intro a b d H I J t L u f g j;have l:k+a < s.length:=by omega
  rw [zj9];unfold zcs;rw [show (a:Int) - 1=((a - 1:Nat):Int) by omega];rw [if_pos (by simp only [decide_eq_true_eq];omega),zae (by omega),zae (by omega),zae (by unfold fits;omega),zae (by omega),zae (by omega)];have m:ix d (((k:Int).toNat+(a:Int).toNat:Nat):Int)=s[k+a]:=by
   rw [Int.toNat_natCast,Int.toNat_natCast,zy8,List.getD_eq_getElem?_getD,f (k+a) (by omega),List.getElem?_eq_getElem l];rfl
  have v:ix d (((k:Int).toNat+((a - 1:Nat):Int).toNat:Nat):Int)=s[k+(a - 1)]'(by omega):=by
   rw [Int.toNat_natCast,Int.toNat_natCast,zy8,List.getD_eq_getElem?_getD,f (k+(a - 1)) (by omega),List.getElem?_eq_getElem (by omega)];rfl
  have w:s.take (k+(a+1))=s.take (k+a)++[s[k+a]]:=by
   rw [<- Nat.add_assoc,List.take_add_one,List.getElem?_eq_getElem l];rfl
  have M:s[k+(a - 1)]'(by omega)∈s.take (k+a):=by
   rw [List.mem_take_iff_getElem];exact ⟨k+(a - 1),by omega,rfl⟩
  by_cases c:s[k+a]=s[k+(a - 1)]'(by omega)
  ·rw [if_neg (cq_nn (m.trans (c.trans v.symm))),zae (by unfold fits;omega)];exact B (a+1) b d (by omega) (by omega) (by omega) t (by omega) u f (fun x=>by
    rw [g,w,List.mem_append,List.mem_singleton];refine ⟨.inl,fun h=>h.elim id fun h => ?_⟩;rw [h,c];exact M) j
  ·rw [if_pos (cq_np (fun h=>c (m.symm.trans (h.trans v)))),zae (by omega),zae (by omega),zae (by omega),zae (by omega),zae (by unfold fits;omega),zae (by unfold fits;omega),m,Int.toNat_natCast b];have e:(d.set b s[k+a]).take (b+1)=d.take b++[s[k+a]]:=by
    rw [List.take_add_one,List.take_set_of_le (Nat.le_refl _),List.getElem?_set_self (by omega)];rfl
   refine B (a+1) (b+1) (d.set b s[k+a]) (by omega) (by omega) (by omega) (by omega) (by omega) (by simp;omega) (fun i E=>by
    rw [List.getElem?_set_ne (by omega)];exact f i (by omega)) (fun x=>by
    rw [e,w,List.mem_append,List.mem_append,g]) ?_
   rw [e,List.pairwise_append];refine ⟨j,List.pairwise_singleton _ _,fun x q y F => ?_⟩;rw [List.mem_singleton.1 F];rw [g,List.mem_take_iff_getElem] at q;obtain ⟨i,E,rfl⟩:=q;have o:=List.pairwise_iff_getElem.1 C;cases O:Go.Sort.ltInt s[i] s[k+a] with
   | true=>rfl
   | false=>
    exfalso;have z:=p _ _ O (o i (k+a) (by omega) l (by omega));apply c;by_cases P:i=k+(a - 1)
    ·subst P;exact z.symm
    ·have A:=o i (k+(a - 1)) (by omega) (by omega) (by omega);have N:=o (k+(a - 1)) (k+a) (by omega) l (by omega);rw [z] at A;exact p _ _ N A
theorem zDo {s:List Int} (B:s.length<=1000000000) (M:∀ x,Go.Sort.ltInt x x=false) (l:∀ x y,Go.Sort.ltInt x y=false->Go.Sort.ltInt y x=false->x=y) (q:s.Pairwise (fun x y=>Go.Sort.ltInt y x=false)):
  ∃ r,zgj s=some r/\(∀ x,x∈r↔x∈s)/\r.Pairwise (fun x y=>Go.Sort.ltInt x y=true)/\r.length<=s.length:=by
 have o:=List.pairwise_iff_getElem.1 q;have str:∀ k:Nat,k<=s.length->(∀ i:Nat,0 < i->i < k->∀ h:i < s.length,¬ s[i]=s[i - 1]'(by omega))->(s.take k).Pairwise (fun x y=>Go.Sort.ltInt x y=true):=fun k N h=>by
  rw [List.pairwise_iff_getElem];intro i j C D m;simp only [List.length_take] at C D;rw [List.getElem_take,List.getElem_take];cases I:Go.Sort.ltInt (s[i]'(by omega)) (s[j]'(by omega)) with
  | true=>rfl
  | false=>
   exfalso;have v:=l _ _ I (o i j (by omega) (by omega) m);apply h j (by omega) (by omega) (by omega);by_cases J:i=j - 1
   ·subst J;exact v.symm
   ·have w:=o i (j - 1) (by omega) (by omega) (by omega);have F:=o (j - 1) j (by omega) (by omega) (by omega);rw [v] at w;exact l _ _ F w
 unfold zgj;by_cases c:s.length < 2
 ·rw [if_pos (by simp only [decide_eq_true_eq];omega)];have:=str s.length (Nat.le_refl _) (fun i t u h=>by omega);rw [List.take_length] at this;exact ⟨s,rfl,fun _=>Iff.rfl,this,Nat.le_refl _⟩
 ·rw [if_neg (by simp only [decide_eq_true_eq];omega)];have p:∀ (n k:Nat),s.length - k=n->1<=k->k<=s.length->(∀ i:Nat,0 < i->i < k->∀ h:i < s.length,¬ s[i]=s[i - 1]'(by omega))->∃ r,zg0 s (k:Nat)=some r/\(∀ x,x∈r↔x∈s)/\r.Pairwise (fun x y=>Go.Sort.ltInt x y=true)/\r.length<=s.length:=by
   intro n;induction n with
   | zero=>
    intro k E t u f;rw [zj8];unfold zcr;rw [if_neg (by simp only [decide_eq_true_eq];omega)];have:=str s.length (Nat.le_refl _) (fun i a b h=>f i a (by omega) h);rw [List.take_length] at this;exact ⟨s,rfl,fun _=>Iff.rfl,this,Nat.le_refl _⟩
   | succ n L=>
    intro k E t u f;have d:k < s.length:=by omega
    rw [zj8];unfold zcr;rw [show (k:Int) - 1=((k - 1:Nat):Int) by omega];simp only [Int.toNat_natCast];rw [if_pos (by simp only [decide_eq_true_eq];omega),zae (by omega),zae (by omega),zae (by unfold fits;omega),zae (by omega),zae (by omega)];have z:ix s (k:Int)=s[k]:=by rw [zoo (by omega) (by omega)];simp
    have A:ix s ((k - 1:Nat):Int)=s[k - 1]'(by omega):=by rw [zoo (by omega) (by omega)];simp
    by_cases g:s[k]=s[k - 1]'(by omega)
    ·rw [if_pos (zER (z.trans (g.trans A.symm))),zae (by omega)];have H:s[k - 1]'(by omega)∈s.take k:=by
      rw [List.mem_take_iff_getElem];exact ⟨k - 1,by omega,rfl⟩
     have:=zB7 B l q (by omega:0 < k) d (s.length - k - 1) 1 k s rfl (Nat.le_refl _) (by omega) (by omega) (Nat.le_refl _) rfl (fun _ _=>rfl) (fun x=>by
      rw [show s.take (k+1)=s.take k++[s[k]] by rw [List.take_add_one,List.getElem?_eq_getElem d];rfl,List.mem_append,List.mem_singleton];refine ⟨.inl,fun h=>h.elim id fun h => ?_⟩;rw [h,g];exact H) (str k (by omega) f)
     exact this
    ·rw [if_neg (zEQ (fun h=>g (z.symm.trans (h.trans A)))),zae (by unfold fits;omega)];exact L (k+1) (by omega) (by omega) (by omega) (fun i a b h=>by
      by_cases e:i=k
      ·subst e;exact g
      ·exact f i a (by omega) h)
  exact p _ 1 rfl (Nat.le_refl _) (by omega) (fun i a b h=>by omega)
end
end Go.Proofs.Ytajabcfngklacaa.timeAutoW
