import Derived.Test.YtajabcfngklacaaEv40n20
import Derived.Test.YtajabcfngklacaaAb24n13
import Derived.Test.YtajabcfngklacaaAb24n16
import Derived.Lib.Bytealg
import Derived.LoopTactic
import Derived.Lib.OthersKept
import Derived.Below
import Derived.RangeFuncBox
import Derived.RangeFuncLeaves
import Derived.RangeFuncWrites
import Derived.OwnWalkIn
import Derived.TacticsInMore
import Derived.LoopNIn
import Derived.LoopIn
set_option linter.unusedVariables false
set_option linter.unusedSimpArgs false
set_option linter.unusedSectionVars false
namespace Go.Ab
noncomputable section
theorem zj2 {R:Type} {p:Prop} [Decidable p] {a b x:R} (c:p->a=x) (d : ¬ p->b=x):(if decide p=true then a else b)=x:=by
 by_cases h:p
 ·rw [if_pos (decide_eq_true h)];exact c h
 ·rw [if_neg (by simpa using h)];exact d h
theorem zhh {R:Type} {a b x:R} (h:a=x):(if true=true then a else b)=x:=h
theorem zhg {R:Type} {a b x:R} (h:b=x):(if false=true then a else b)=x:=h
theorem G_to {R:Type} {c:Prop} [Decidable c] {k x:Option R} (h:c) (a:k=x):G c k=x:=(if_pos h).trans a
theorem zde {A B:Type} {o:Option A} {f:A->Option B} {x:Option B} {y:A} (h:o=some y) (a:f y=x):o.bind f=x:=by rw [h];exact a
theorem za4 {x:Int} (h : -9223372036854775808<=x) (a:x<=9223372036854775807):fits x:=⟨h,a⟩
theorem znq {α:Type} {xs ys:List α} {b:Nat} (h:(xs.length+ys.length) * b<=140737488355328):room xs ys b:=h
section
variable {α:Type} [Inhabited α]
end
def mayE (letters:Int) (w:List Int):Int:=
 if letters < 1\/4 < letters then 2 else if (60:Int) < w.length then 1 else if ∀ x∈w,0<=x/\x < letters then 0 else 2
theorem zvm {letters:Int} {w:List Int} (h:letters < 1\/4 < letters):mayE letters w=2:=by unfold mayE;rw [if_pos h]
theorem zBm {letters:Int} {w:List Int} (h:1<=letters/\letters<=4) (a:(60:Int) < w.length):mayE letters w=1:=by unfold mayE;rw [if_neg (by omega),if_pos a]
theorem zzc {letters i:Int} {w:List Int} (h:1<=letters/\letters<=4) (d:w.length<=(60:Int)) (a:0<=i/\i < w.length) (b : ¬ (0<=ix w i/\ix w i < letters)):mayE letters w=2:=by
 unfold mayE;rw [if_neg (by omega),if_neg (by omega),if_neg];intro c;exact b (c _ (zlH a.1 a.2))
theorem zDO {letters:Int} {w:List Int} (h:1<=letters/\letters<=4) (b:w.length<=(60:Int)) (a:∀ j:Int,0<=j->j < w.length->0<=ix w j/\ix w j < letters):mayE letters w=0:=by
 unfold mayE;rw [if_neg (by omega),if_neg (by omega),if_pos];exact zA3.2 a
theorem zxg {letters:Int} {w:List Int} (h:mayE letters w=0):(1<=letters/\letters<=4)/\w.length<=(60:Int)/\∀ x∈w,0<=x/\x < letters:=by
 unfold mayE at h;split at h
 ·omega
 ·split at h
  ·omega
  ·split at h
   ·rename_i a;exact ⟨by omega,by omega,a⟩
   ·omega
structure Spl (S:Nat->Prop) (w wr:World):Prop where
 o:wr.os=w.os/\wr.tape=w.tape/\wr.output=w.output/\wr.heap.size=w.heap.size
 k:∀ b,¬ S b->wr.heap[b]? =w.heap[b]?
 c:∀ (b:Nat) (cur:Array Value) (E:Nat),w.heap[b]? =some (.cells cur E (0,0))->∃ cur':Array Value,wr.heap[b]? =some (.cells cur' E (0,0))/\cur'.size=cur.size
section
open Go.RowKit (Below)
structure Bk (T N:Nat) (A B:World):Prop where
 size:A.heap.size<=B.heap.size
 block:∀ k,k < N->k≠T->B.heap[k]? =A.heap[k]?
end
end
section
open Go.RowKit (Below)
end
end Go.Ab
