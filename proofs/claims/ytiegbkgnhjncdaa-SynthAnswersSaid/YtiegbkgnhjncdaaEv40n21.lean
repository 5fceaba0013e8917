import Derived.Test.YtiegbkgnhjncdaaEv40n20
import Derived.Test.YtiegbkgnhjncdaaAb24n13
import Derived.Test.YtiegbkgnhjncdaaAb24n16
import Derived.Lib.Bytealg
import Derived.LoopTactic
import Derived.Lib.OthersKept
import Derived.Below
import Derived.RangeFuncBox
import Derived.RangeFuncLeaves
import Derived.RangeFuncWrites
import Derived.OwnWalkIn
import Derived.TacticsInMore
import Derived.LoopNIn
import Derived.LoopIn
set_option linter.unusedVariables false
set_option linter.unusedSimpArgs false
set_option linter.unusedSectionVars false
namespace Go.Ab
noncomputable section
theorem zft {R:Type} {p:Prop} [Decidable p] {a b x:R} (c:p->a=x) (d : ¬ p->b=x):(if decide p=true then a else b)=x:=by
 by_cases h:p
 ·rw [if_pos (decide_eq_true h)];exact c h
 ·rw [if_neg (by simpa using h)];exact d h
theorem zz3 {R:Type} {p:Prop} [Decidable p] {a b x:R} (c:p->a=x) (d : ¬ p->b=x):(if p then a else b)=x:=by
 by_cases h:p
 ·rw [if_pos h];exact c h
 ·rw [if_neg h];exact d h
theorem zdC {R:Type} {a b x:R} (h:a=x):(if true=true then a else b)=x:=h
theorem zdB {R:Type} {a b x:R} (h:b=x):(if false=true then a else b)=x:=h
theorem zcm {ts:List Ty} {a b x:Option (Tup ts)} (c:a=x) (d:b=x):both ts a b=x:=by rw [c,d,zod]
theorem G_to {R:Type} {c:Prop} [Decidable c] {k x:Option R} (h:c) (a:k=x):G c k=x:=(if_pos h).trans a
theorem zaj {A B:Type} {o:Option A} {f:A->Option B} {x:Option B} {y:A} (h:o=some y) (a:f y=x):o.bind f=x:=by rw [h];exact a
theorem zAz {α:Type} {xs ys:List α} {b:Nat} (h:(xs.length+ys.length) * b<=140737488355328):room xs ys b:=h
section
variable {α:Type} [Inhabited α]
end
def mayE (a:Int) (w:List Int):Int:=
 if a < 1\/4 < a then 2 else if (60:Int) < w.length then 1 else if ∀ x∈w,0<=x/\x < a then 0 else 2
theorem zty {a:Int} {w:List Int} (h:a < 1\/4 < a):mayE a w=2:=by unfold mayE;rw [if_pos h]
theorem zAe {a:Int} {w:List Int} (h:1<=a/\a<=4) (b:(60:Int) < w.length):mayE a w=1:=by unfold mayE;rw [if_neg (by omega),if_pos b]
theorem zxU {a i:Int} {w:List Int} (h:1<=a/\a<=4) (e:w.length<=(60:Int)) (b:0<=i/\i < w.length) (c : ¬ (0<=ix w i/\ix w i < a)):mayE a w=2:=by
 unfold mayE;rw [if_neg (by omega),if_neg (by omega),if_neg];intro d;exact c (d _ (zbc b.1 b.2))
theorem zDi {a:Int} {w:List Int} (h:1<=a/\a<=4) (c:w.length<=(60:Int)) (b:∀ j:Int,0<=j->j < w.length->0<=ix w j/\ix w j < a):mayE a w=0:=by
 unfold mayE;rw [if_neg (by omega),if_neg (by omega),if_pos];exact zzW.2 b
theorem zvF {a:Int} {w:List Int} (h:mayE a w=0):(1<=a/\a<=4)/\w.length<=(60:Int)/\∀ x∈w,0<=x/\x < a:=by
 unfold mayE at h;split at h
 ·omega
 ·split at h
  ·omega
  ·split at h
   ·rename_i b;exact ⟨by omega,by omega,b⟩
   ·omega
structure Spl (S:Nat->Prop) (w wr:World):Prop where
 o:wr.os=w.os/\wr.tape=w.tape/\wr.output=w.output/\wr.heap.size=w.heap.size
 k:∀ b,¬ S b->wr.heap[b]? =w.heap[b]?
 c:∀ (b:Nat) (cur:Array Value) (E:Nat),w.heap[b]? =some (.cells cur E (0,0))->∃ cur':Array Value,wr.heap[b]? =some (.cells cur' E (0,0))/\cur'.size=cur.size
section
open Go.RowKit (Below)
structure Bk (T N:Nat) (A B:World):Prop where
 size:A.heap.size<=B.heap.size
 block:∀ k,k < N->k≠T->B.heap[k]? =A.heap[k]?
end
end
section
open Go.RowKit (Below)
end
end Go.Ab
