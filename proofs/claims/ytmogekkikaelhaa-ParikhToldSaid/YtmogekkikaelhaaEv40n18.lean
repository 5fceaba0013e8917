import Derived.Test.YtmogekkikaelhaaEv40n17
set_option linter.unusedVariables false
set_option linter.unusedSimpArgs false
set_option linter.unusedSectionVars false
namespace Go.Ab
noncomputable section
def iter {A B:Type} (f:(A->Option B)->A->Option B):Nat->A->Option B
 | 0=>fun _=>none
 | n+1=>f (iter f n)
open Classical in
noncomputable def LFix {A B:Type} (f:(A->Option B)->A->Option B) (a:A):Option B:=
 if h:∃ b n,iter f n a=some b then some h.choose else none
theorem zck {A B:Type} {f:(A->Option B)->A->Option B} {a:A} {b:B} (h:LFix f a=some b):∃ n,iter f n a=some b:=by
 unfold LFix at h;split at h
 ·rename_i hh;cases h;exact hh.choose_spec
 ·cases h
def Le {B:Type} (x y:Option B):Prop:=∀ b,x=some b->y=some b
theorem Le.refl {B:Type} (x:Option B):Le x x:=fun _ h=>h
structure ChO {B:Type} (x:Nat->Option B) (y:Option B):Prop where
 up:∀ n,Le (x n) (x (n+1))
 sup:∀ b,y=some b->∃ n,x n=some b
 le:∀ n,Le (x n) y
def Ch {A B:Type} (g:Nat->A->Option B) (h:A->Option B):Prop:=∀ a,ChO (fun n=>g n a) (h a)
def Cn {A B:Type} (f:(A->Option B)->A->Option B):Prop:=∀ (g:Nat->A->Option B) (h:A->Option B),Ch g h->∀ a,ChO (fun n=>f (g n) a) (f h a)
section
variable {A B C:Type}
theorem ChO.const (x:Option B):ChO (fun _=>x) x:=⟨fun _=>Le.refl _,fun b h=>⟨0,h⟩,fun _=>Le.refl _⟩
theorem Ch.const (g:A->Option B):Ch (fun _=>g) g:=fun _=>ChO.const _
theorem ChO.mono {x:Nat->Option B} {y:Option B} (h:ChO x y) {n m:Nat} (hnm:n<=m):Le (x n) (x m):=by
 induction hnm with
 | refl=>exact Le.refl _
 | step _ ih=>exact fun b hb=>h.up _ b (ih b hb)
theorem ChO.app {g:Nat->A->Option B} {h:A->Option B} (hc:Ch g h) (a:A):ChO (fun n=>g n a) (h a):=hc a
theorem ChO.ite {c:Prop} [Decidable c] {x u:Nat->Option B} {y v:Option B} (h1:ChO x y) (h2:ChO u v):ChO (fun n=>if c then x n else u n) (if c then y else v):=by
 by_cases hc:c
 ·simp only [if_pos hc];exact h1
 ·simp only [if_neg hc];exact h2
theorem ChO.G {c:Prop} [Decidable c] {x:Nat->Option B} {y:Option B} (h:ChO x y):ChO (fun n=>Go.Ab.G c (x n)) (Go.Ab.G c y):=by
 by_cases hc:c
 ·simp only [zal hc];exact h
 ·have e:∀ z:Option B,Go.Ab.G c z=none:=fun z=>if_neg hc
  simp only [e];exact ChO.const _
theorem ChO.bind {o:Option C} {x:C->Nat->Option B} {y:C->Option B} (h:∀ c,ChO (x c) (y c)):ChO (fun n=>o.bind fun c=>x c n) (o.bind fun c=>y c):=by
 cases o with
 | none=>exact ChO.const _
 | some c=>exact h c
theorem ChO.bind2 {o:Nat->Option C} {o':Option C} {x:C->Nat->Option B} {y:C->Option B} (ho:ChO o o') (h:∀ c,ChO (x c) (y c)):ChO (fun n=>(o n).bind fun c=>x c n) (o'.bind fun c=>y c):=by
 refine ⟨fun n b hb => ?_,fun b hb => ?_,fun n b hb => ?_⟩
 ·obtain ⟨c,h1,h2⟩:=Option.bind_eq_some_iff.1 hb;exact Option.bind_eq_some_iff.2 ⟨c,ho.up n c h1,(h c).up n b h2⟩
 ·obtain ⟨c,h1,h2⟩:=Option.bind_eq_some_iff.1 hb;obtain ⟨n,hn⟩:=ho.sup c h1;obtain ⟨m,hm⟩:=(h c).sup b h2;exact ⟨max n m,Option.bind_eq_some_iff.2 ⟨c,ho.mono (Nat.le_max_left n m) c hn,(h c).mono (Nat.le_max_right n m) b hm⟩⟩
 ·obtain ⟨c,h1,h2⟩:=Option.bind_eq_some_iff.1 hb;exact Option.bind_eq_some_iff.2 ⟨c,ho.le n c h1,(h c).le n b h2⟩
def zor (f:(A->Option B)->A->Option B):Prop:=∀ g h:A->Option B,(∀ a,Le (g a) (h a))->∀ a,Le (f g a) (f h a)
theorem Cn.mono {f:(A->Option B)->A->Option B} (hf:Cn f):zor f:=by
 intro g h hgh a;have hc:Ch (fun n=>if n=0 then g else h) h:=by
  intro a;refine ⟨fun n => ?_,fun b hb=>⟨1,hb⟩,fun n => ?_⟩
  ·cases n with
   | zero=>exact hgh a
   | succ n=>exact Le.refl _
  ·cases n with
   | zero=>exact hgh a
   | succ n=>exact Le.refl _
 exact (hf _ _ hc a).up 0
theorem zld {f:(A->Option B)->A->Option B} (hf:zor f):∀ (n:Nat) (a:A),Le (iter f n a) (iter f (n+1) a)
 | 0,_=>fun _ h=>by cases h
 | n+1,a=>hf _ _ (zld hf n) a
theorem zrG {f:(A->Option B)->A->Option B} (hf:zor f) {n m:Nat} (h:n<=m) (a:A):Le (iter f n a) (iter f m a):=by
 induction h with
 | refl=>exact Le.refl _
 | step _ ih=>exact fun b hb=>zld hf _ a b (ih b hb)
theorem zkG {f:(A->Option B)->A->Option B} (hf:zor f) {a:A} {b:B} {n:Nat} (h:iter f n a=some b):LFix f a=some b:=by
 unfold LFix;have hh:∃ b n,iter f n a=some b:=⟨b,n,h⟩;rw [dif_pos hh];obtain ⟨m,hm⟩:=hh.choose_spec;have h1:=zrG hf (Nat.le_max_left n m) a b h;have h2:=zrG hf (Nat.le_max_right n m) a _ hm;rw [h1] at h2;exact h2.symm
theorem ztS {f:(A->Option B)->A->Option B} (hf:zor f):Ch (iter f) (LFix f):=fun a=>
 ⟨fun n=>zld hf n a,fun _ h=>zck h,fun _ _ h=>zkG hf h⟩
theorem zbe {f:(A->Option B)->A->Option B} (hf:Cn f) (a:A):LFix f a=f (LFix f) a:=by
 have hm:=hf.mono;have hc:=hf _ _ (ztS hm) a;cases h:LFix f a with
 | some b=>
  obtain ⟨n,hn⟩:=zck h;cases n with
  | zero=>cases hn
  | succ n=>exact (hc.le n b hn).symm
 | none=>
  cases h2:f (LFix f) a with
  | none=>rfl
  | some b=>
   obtain ⟨n,hn⟩:=hc.sup b h2;have:=zkG hm (n:=n+1) hn;rw [h] at this;cases this
theorem zgn {fs:Nat->(A->Option B)->A->Option B} {f:(A->Option B)->A->Option B} (hm:∀ n,zor (fs n)) (hm':zor f)
  (H:∀ (g:Nat->A->Option B) (h:A->Option B),Ch g h->∀ a,ChO (fun n=>fs n (g n) a) (f h a)) (a:A):ChO (fun n=>LFix (fs n) a) (LFix f a):=by
 have hk:∀ k,Ch (fun n=>iter (fs n) k) (iter f k):=by
  intro k;induction k with
  | zero=>exact fun a=>ChO.const none
  | succ k ih=>exact fun a=>H _ _ ih a
 refine ⟨fun n b hb => ?_,fun b hb => ?_,fun n b hb => ?_⟩
 ·obtain ⟨k,hk1⟩:=zck hb;exact zkG (hm _) ((hk k a).up n b hk1)
 ·obtain ⟨k,hk1⟩:=zck hb;obtain ⟨n,hn⟩:=(hk k a).sup b hk1;exact ⟨n,zkG (hm n) hn⟩
 ·obtain ⟨k,hk1⟩:=zck hb;exact zkG hm' ((hk k a).le n b hk1)
end
def leq {α:Type} (f:α->α->Bool):List α->List α->Bool
 | [],[]=>true
 | x::l,y::m=>f x y && leq f l m
 | _,_=>false
mutual
def teq {α:Type} (f:α->α->Bool):Tr α->Tr α->Bool
 | .nil,.nil=>true
 | .mk v k,.mk u l=>f v u && teqs f k l
 | _,_=>false
def teqs {α:Type} (f:α->α->Bool):List (Tr α)->List (Tr α)->Bool
 | [],[]=>true
 | x::l,y::m=>teq f x y && teqs f l m
 | _,_=>false
end
mutual
theorem zse {α:Type} {f:α->α->Bool} (hf:∀ x y,f x y=true↔x=y):∀ {x y:Tr α},teq f x y=true↔x=y
 | .nil,.nil=>by simp [teq]
 | .nil,.mk _ _=>by simp [teq]
 | .mk _ _,.nil=>by simp [teq]
 | .mk v k,.mk u l=>by simp only [teq,Bool.and_eq_true,hf,zp1 hf,Tr.mk.injEq]
theorem zp1 {α:Type} {f:α->α->Bool} (hf:∀ x y,f x y=true↔x=y):∀ {l m:List (Tr α)},teqs f l m=true↔l=m
 | [],[]=>by simp [teqs]
 | [],_::_=>by simp [teqs]
 | _::_,[]=>by simp [teqs]
 | x::l,y::m=>by simp only [teqs,Bool.and_eq_true,zse hf,zp1 hf,List.cons.injEq]
end
def Ty.deq:(t:Ty)->t.den->t.den->Bool
 | .int _,m,n=>decide ((m:Int)=n)
 | .bool,a,b=>decide ((a:Bool)=b)
 | .str,a,b=>decide ((a:List UInt8)=b)
 | .list t,l,m=>leq (Ty.deq t) l m
 | .unit,_,_=>true
 | .pair a b,x,y=>Ty.deq a x.1 y.1 && Ty.deq b x.2 y.2
 | .tree t,x,y=>teq (Ty.deq t) x y
theorem zrL {α:Type} {f:α->α->Bool} (hf:∀ x y,f x y=true↔x=y):∀ {l m:List α},leq f l m=true↔l=m
 | [],[]=>by simp [leq]
 | [],_::_=>by simp [leq]
 | _::_,[]=>by simp [leq]
 | x::l,y::m=>by simp only [leq,Bool.and_eq_true,hf,zrL hf,List.cons.injEq]
theorem zjj:∀ {t:Ty} {x y:t.den},Ty.deq t x y=true↔x=y
 | .int _,x,y=>by show decide ((x:Int)=y)=true↔_;simp
 | .bool,x,y=>by show decide ((x:Bool)=y)=true↔_;simp
 | .str,x,y=>by show decide ((x:List UInt8)=y)=true↔_;simp
 | .list t,x,y=>zrL fun _ _=>zjj
 | .unit,_,_=>by simp [Ty.deq]
 | .pair a b,(x1,x2),(y1,y2)=>by
  show (Ty.deq a x1 y1 && Ty.deq b x2 y2)=true↔_;rw [Bool.and_eq_true,zjj,zjj,Prod.mk.injEq]
 | .tree t,x,y=>zse fun _ _=>zjj
def Tup.deq:(ts:List Ty)->Tup ts->Tup ts->Bool
 | [],_,_=>true
 | [t],x,y=>t.deq x y
 | t::u::r,x,y=>t.deq x.1 y.1 && Tup.deq (u::r) x.2 y.2
theorem znl:∀ {ts:List Ty} {x y:Tup ts},Tup.deq ts x y=true↔x=y
 | [],_,_=>by simp [Tup.deq]
 | [t],x,y=>zjj
 | t::u::r,(x1,x2),(y1,y2)=>by
  show (Ty.deq t x1 y1 && Tup.deq (u::r) x2 y2)=true↔_;rw [Bool.and_eq_true,zjj,znl,Prod.mk.injEq]
def both (ts:List Ty) (a b:Option (Tup ts)):Option (Tup ts):=match a with
 | none=>none
 | some x=>match b with
  | none=>none
  | some y=>if Tup.deq ts x y=true then some x else none
theorem zkL (ts:List Ty):Both (both ts) where
 l h:=by
  unfold both at h;split at h
  ·cases h
  ·split at h
   ·cases h
   ·split at h
    ·exact h
    ·cases h
 r h:=by
  unfold both at h;split at h
  ·cases h
  ·split at h
   ·cases h
   ·split at h
    ·rename_i hd;rw [<- znl.1 hd];exact h
    ·cases h
theorem zkM {ts:List Ty} (a:Option (Tup ts)):both ts a a=a:=by
 cases a with
 | none=>rfl
 | some x=>show (if Tup.deq ts x x=true then some x else none)=_;rw [if_pos (znl.2 rfl)]
theorem ChO.both {ts:List Ty} {x u:Nat->Option (Tup ts)} {y v:Option (Tup ts)} (h1:ChO x y) (h2:ChO u v):ChO (fun n=>Go.Ab.both ts (x n) (u n)) (Go.Ab.both ts y v):=by
 have split:∀ {a b:Option (Tup ts)} {q:Tup ts},Go.Ab.both ts a b=some q->a=some q/\b=some q:=fun h=>⟨(zkL ts).l h,(zkL ts).r h⟩
 have join:∀ {a b:Option (Tup ts)} {q:Tup ts},a=some q->b=some q->Go.Ab.both ts a b=some q:=fun h k=>by rw [h,k,zkM]
 refine ⟨fun n b hb => ?_,fun b hb => ?_,fun n b hb => ?_⟩
 ·obtain ⟨h3,h4⟩:=split hb;exact join (h1.up n b h3) (h2.up n b h4)
 ·obtain ⟨h3,h4⟩:=split hb;obtain ⟨n,hn⟩:=h1.sup b h3;obtain ⟨m,hm⟩:=h2.sup b h4;exact ⟨max n m,join (h1.mono (Nat.le_max_left n m) b hn) (h2.mono (Nat.le_max_right n m) b hm)⟩
 ·obtain ⟨h3,h4⟩:=split hb;exact join (h1.le n b h3) (h2.le n b h4)
end
end Go.Ab
