import Derived.Test.YtajabcfngklacaaEv40n17
set_option linter.unusedVariables false
set_option linter.unusedSimpArgs false
set_option linter.unusedSectionVars false
namespace Go.Ab
noncomputable section
def iter {A B:Type} (f:(A->Option B)->A->Option B):Nat->A->Option B
 | 0=>fun _=>none
 | n+1=>f (iter f n)
open Classical in
noncomputable def LFix {A B:Type} (f:(A->Option B)->A->Option B) (a:A):Option B:=
 if h:∃ b n,iter f n a=some b then some h.choose else none
theorem zho {A B:Type} {f:(A->Option B)->A->Option B} {a:A} {b:B} (h:LFix f a=some b):∃ n,iter f n a=some b:=by
 unfold LFix at h;split at h
 ·rename_i c;cases h;exact c.choose_spec
 ·cases h
def Le {B:Type} (x y:Option B):Prop:=∀ b,x=some b->y=some b
theorem Le.refl {B:Type} (x:Option B):Le x x:=fun _ h=>h
structure ChO {B:Type} (x:Nat->Option B) (y:Option B):Prop where
 up:∀ n,Le (x n) (x (n+1))
 sup:∀ b,y=some b->∃ n,x n=some b
 le:∀ n,Le (x n) y
def Ch {A B:Type} (g:Nat->A->Option B) (h:A->Option B):Prop:=∀ a,ChO (fun n=>g n a) (h a)
def Cn {A B:Type} (f:(A->Option B)->A->Option B):Prop:=∀ (g:Nat->A->Option B) (h:A->Option B),Ch g h->∀ a,ChO (fun n=>f (g n) a) (f h a)
section
variable {A B C:Type}
theorem ChO.const (x:Option B):ChO (fun _=>x) x:=⟨fun _=>Le.refl _,fun b h=>⟨0,h⟩,fun _=>Le.refl _⟩
theorem ChO.mono {x:Nat->Option B} {y:Option B} (h:ChO x y) {n m:Nat} (a:n<=m):Le (x n) (x m):=by
 induction a with
 | refl=>exact Le.refl _
 | step _ d=>exact fun b c=>h.up _ b (d b c)
theorem ChO.ite {c:Prop} [Decidable c] {x u:Nat->Option B} {y v:Option B} (b:ChO x y) (d:ChO u v):ChO (fun n=>if c then x n else u n) (if c then y else v):=by
 by_cases a:c
 ·simp only [if_pos a];exact b
 ·simp only [if_neg a];exact d
theorem ChO.G {c:Prop} [Decidable c] {x:Nat->Option B} {y:Option B} (h:ChO x y):ChO (fun n=>Go.Ab.G c (x n)) (Go.Ab.G c y):=by
 by_cases a:c
 ·simp only [zae a];exact h
 ·have e:∀ z:Option B,Go.Ab.G c z=none:=fun z=>if_neg a
  simp only [e];exact ChO.const _
theorem ChO.bind {o:Option C} {x:C->Nat->Option B} {y:C->Option B} (h:∀ c,ChO (x c) (y c)):ChO (fun n=>o.bind fun c=>x c n) (o.bind fun c=>y c):=by
 cases o with
 | none=>exact ChO.const _
 | some c=>exact h c
theorem ChO.bind2 {o:Nat->Option C} {g:Option C} {x:C->Nat->Option B} {y:C->Option B} (f:ChO o g) (h:∀ c,ChO (x c) (y c)):ChO (fun n=>(o n).bind fun c=>x c n) (g.bind fun c=>y c):=by
 refine ⟨fun n b a => ?_,fun b a => ?_,fun n b a => ?_⟩
 ·obtain ⟨c,d,e⟩:=Option.bind_eq_some_iff.1 a;exact Option.bind_eq_some_iff.2 ⟨c,f.up n c d,(h c).up n b e⟩
 ·obtain ⟨c,d,e⟩:=Option.bind_eq_some_iff.1 a;obtain ⟨n,i⟩:=f.sup c d;obtain ⟨m,j⟩:=(h c).sup b e;exact ⟨max n m,Option.bind_eq_some_iff.2 ⟨c,f.mono (Nat.le_max_left n m) c i,(h c).mono (Nat.le_max_right n m) b j⟩⟩
 ·obtain ⟨c,d,e⟩:=Option.bind_eq_some_iff.1 a;exact Option.bind_eq_some_iff.2 ⟨c,f.le n c d,(h c).le n b e⟩
def zxL (f:(A->Option B)->A->Option B):Prop:=∀ g h:A->Option B,(∀ a,Le (g a) (h a))->∀ a,Le (f g a) (f h a)
theorem Cn.mono {f:(A->Option B)->A->Option B} (d:Cn f):zxL f:=by
 intro g h c a;have i:Ch (fun n=>if n=0 then g else h) h:=by
  intro a;refine ⟨fun n => ?_,fun b e=>⟨1,e⟩,fun n => ?_⟩
  ·cases n with
   | zero=>exact c a
   | succ n=>exact Le.refl _
  ·cases n with
   | zero=>exact c a
   | succ n=>exact Le.refl _
 exact (d _ _ i a).up 0
theorem ztX {f:(A->Option B)->A->Option B} (b:zxL f):∀ (n:Nat) (a:A),Le (iter f n a) (iter f (n+1) a)
 | 0,_=>fun _ h=>by cases h
 | n+1,a=>b _ _ (ztX b n) a
theorem zBc {f:(A->Option B)->A->Option B} (c:zxL f) {n m:Nat} (h:n<=m) (a:A):Le (iter f n a) (iter f m a):=by
 induction h with
 | refl=>exact Le.refl _
 | step _ e=>exact fun b d=>ztX c _ a b (e b d)
theorem ztq {f:(A->Option B)->A->Option B} (c:zxL f) {a:A} {b:B} {n:Nat} (h:iter f n a=some b):LFix f a=some b:=by
 unfold LFix;have d:∃ b n,iter f n a=some b:=⟨b,n,h⟩;rw [dif_pos d];obtain ⟨m,i⟩:=d.choose_spec;have g:=zBc c (Nat.le_max_left n m) a b h;have e:=zBc c (Nat.le_max_right n m) a _ i;rw [g] at e;exact e.symm
theorem zDL {f:(A->Option B)->A->Option B} (b:zxL f):Ch (iter f) (LFix f):=fun a=>
 ⟨fun n=>ztX b n a,fun _ h=>zho h,fun _ _ h=>ztq b h⟩
theorem zav {f:(A->Option B)->A->Option B} (d:Cn f) (a:A):LFix f a=f (LFix f) a:=by
 have e:=d.mono;have g:=d _ _ (zDL e) a;cases h:LFix f a with
 | some b=>
  obtain ⟨n,c⟩:=zho h;cases n with
  | zero=>cases c
  | succ n=>exact (g.le n b c).symm
 | none=>
  cases i:f (LFix f) a with
  | none=>rfl
  | some b=>
   obtain ⟨n,c⟩:=g.sup b i;have:=ztq e (n:=n+1) c;rw [h] at this;cases this
theorem zcA {e:Nat->(A->Option B)->A->Option B} {f:(A->Option B)->A->Option B} (l:∀ n,zxL (e n)) (i:zxL f)
  (H:∀ (g:Nat->A->Option B) (h:A->Option B),Ch g h->∀ a,ChO (fun n=>e n (g n) a) (f h a)) (a:A):ChO (fun n=>LFix (e n) a) (LFix f a):=by
 have j:∀ k,Ch (fun n=>iter (e n) k) (iter f k):=by
  intro k;induction k with
  | zero=>exact fun a=>ChO.const none
  | succ k o=>exact fun a=>H _ _ o a
 refine ⟨fun n b d => ?_,fun b d => ?_,fun n b d => ?_⟩
 ·obtain ⟨k,c⟩:=zho d;exact ztq (l _) ((j k a).up n b c)
 ·obtain ⟨k,c⟩:=zho d;obtain ⟨n,m⟩:=(j k a).sup b c;exact ⟨n,ztq (l n) m⟩
 ·obtain ⟨k,c⟩:=zho d;exact ztq i ((j k a).le n b c)
end
def leq {α:Type} (f:α->α->Bool):List α->List α->Bool
 | [],[]=>true
 | x::l,y::m=>f x y && leq f l m
 | _,_=>false
mutual
def teq {α:Type} (f:α->α->Bool):Tr α->Tr α->Bool
 | .nil,.nil=>true
 | .mk v k,.mk u l=>f v u && teqs f k l
 | _,_=>false
def teqs {α:Type} (f:α->α->Bool):List (Tr α)->List (Tr α)->Bool
 | [],[]=>true
 | x::l,y::m=>teq f x y && teqs f l m
 | _,_=>false
end
mutual
theorem zBV {α:Type} {f:α->α->Bool} (a:∀ x y,f x y=true↔x=y):∀ {x y:Tr α},teq f x y=true↔x=y
 | .nil,.nil=>by simp [teq]
 | .nil,.mk _ _=>by simp [teq]
 | .mk _ _,.nil=>by simp [teq]
 | .mk v k,.mk u l=>by simp only [teq,Bool.and_eq_true,a,zzx a,Tr.mk.injEq]
theorem zzx {α:Type} {f:α->α->Bool} (a:∀ x y,f x y=true↔x=y):∀ {l m:List (Tr α)},teqs f l m=true↔l=m
 | [],[]=>by simp [teqs]
 | [],_::_=>by simp [teqs]
 | _::_,[]=>by simp [teqs]
 | x::l,y::m=>by simp only [teqs,Bool.and_eq_true,zBV a,zzx a,List.cons.injEq]
end
def Ty.deq:(t:Ty)->t.den->t.den->Bool
 | .int _,m,n=>decide ((m:Int)=n)
 | .bool,a,b=>decide ((a:Bool)=b)
 | .str,a,b=>decide ((a:List UInt8)=b)
 | .list t,l,m=>leq (Ty.deq t) l m
 | .unit,_,_=>true
 | .pair a b,x,y=>Ty.deq a x.1 y.1 && Ty.deq b x.2 y.2
 | .tree t,x,y=>teq (Ty.deq t) x y
theorem zBg {α:Type} {f:α->α->Bool} (a:∀ x y,f x y=true↔x=y):∀ {l m:List α},leq f l m=true↔l=m
 | [],[]=>by simp [leq]
 | [],_::_=>by simp [leq]
 | _::_,[]=>by simp [leq]
 | x::l,y::m=>by simp only [leq,Bool.and_eq_true,a,zBg a,List.cons.injEq]
theorem zrq:∀ {t:Ty} {x y:t.den},Ty.deq t x y=true↔x=y
 | .int _,x,y=>by show decide ((x:Int)=y)=true↔_;simp
 | .bool,x,y=>by show decide ((x:Bool)=y)=true↔_;simp
 | .str,x,y=>by show decide ((x:List UInt8)=y)=true↔_;simp
 | .list t,x,y=>zBg fun _ _=>zrq
 | .unit,_,_=>by simp [Ty.deq]
 | .pair a b,(x1,x2),(y1,y2)=>by
  show (Ty.deq a x1 y1 && Ty.deq b x2 y2)=true↔_;rw [Bool.and_eq_true,zrq,zrq,Prod.mk.injEq]
 | .tree t,x,y=>zBV fun _ _=>zrq
def Tup.deq:(ts:List Ty)->Tup ts->Tup ts->Bool
 | [],_,_=>true
 | [t],x,y=>t.deq x y
 | t::u::r,x,y=>t.deq x.1 y.1 && Tup.deq (u::r) x.2 y.2
theorem zzw:∀ {ts:List Ty} {x y:Tup ts},Tup.deq ts x y=true↔x=y
 | [],_,_=>by simp [Tup.deq]
 | [t],x,y=>zrq
 | t::u::r,(x1,x2),(y1,y2)=>by
  show (Ty.deq t x1 y1 && Tup.deq (u::r) x2 y2)=true↔_;rw [Bool.and_eq_true,zrq,zzw,Prod.mk.injEq]
def both (ts:List Ty) (a b:Option (Tup ts)):Option (Tup ts):=match a with
 | none=>none
 | some x=>match b with
  | none=>none
  | some y=>if Tup.deq ts x y=true then some x else none
theorem zxQ (ts:List Ty):Both (both ts) where
 l h:=by
  unfold both at h;split at h
  ·cases h
  ·split at h
   ·cases h
   ·split at h
    ·exact h
    ·cases h
 r h:=by
  unfold both at h;split at h
  ·cases h
  ·split at h
   ·cases h
   ·split at h
    ·rename_i hd;rw [<- zzw.1 hd];exact h
    ·cases h
end
end Go.Ab
