/- Plain steps for proofs about what functions compute. -/
import Derived.Test.YtdobgbjlgcnehaaEv35n20
import Derived.Test.YtdobgbjlgcnehaaAb24n14
import Derived.Test.YtdobgbjlgcnehaaAb24n16
import Derived.Lib.Bytealg
import Derived.LoopTactic
set_option linter.unusedVariables false
set_option linter.unusedSimpArgs false
set_option linter.unusedSectionVars false
namespace Go.Ab
noncomputable section
theorem zl6 {R:Type} {p:Prop} [Decidable p] {a b x:R} (h1:p->a=x) (h2 : ¬ p->b=x):(if decide p=true then a else b)=x:=by
 by_cases h:p
 ·rw [if_pos (decide_eq_true h)];exact h1 h
 ·rw [if_neg (by simpa using h)];exact h2 h
theorem ztf {R:Type} {p:Prop} [Decidable p] {a b x:R} (h1:p->a=x) (h2 : ¬ p->b=x):(if p then a else b)=x:=by
 by_cases h:p
 ·rw [if_pos h];exact h1 h
 ·rw [if_neg h];exact h2 h
theorem zjK {R:Type} {a b x:R} (h:a=x):(if true=true then a else b)=x:=h
theorem zjJ {R:Type} {a b x:R} (h:b=x):(if false=true then a else b)=x:=h
theorem ze6 {ts:List Ty} {a b x:Option (Tup ts)} (h1:a=x) (h2:b=x):both ts a b=x:=by rw [h1,h2,zkS]
theorem G_to {R:Type} {c:Prop} [Decidable c] {k x:Option R} (h:c) (h2:k=x):G c k=x:=(if_pos h).trans h2
theorem za5 {A B:Type} {o:Option A} {f:A->Option B} {x:Option B} {y:A} (h:o=some y) (h2:f y=x):o.bind f=x:=by rw [h];exact h2
theorem zfT {x:Int} (h : -9223372036854775808<=x) (h2:x<=9223372036854775807):fits x:=⟨h,h2⟩
theorem zhM {α:Type} {xs ys:List α} {b:Nat} (h:(xs.length+ys.length) * b<=140737488355328):room xs ys b:=h
section
variable {α:Type} [Inhabited α]
end
def mayE (letters:Int) (w:List Int):Int:=
 if letters < 1\/4 < letters then 2 else if (60:Int) < w.length then 1 else if ∀ x∈w,0<=x/\x < letters then 0 else 2
theorem zh9 {letters:Int} {w:List Int} (h:letters < 1\/4 < letters):mayE letters w=2:=by unfold mayE;rw [if_pos h]
theorem zlm {letters:Int} {w:List Int} (h:1<=letters/\letters<=4) (h2:(60:Int) < w.length):mayE letters w=1:=by unfold mayE;rw [if_neg (by omega),if_pos h2]
theorem zkF {letters i:Int} {w:List Int} (h:1<=letters/\letters<=4) (h2:w.length<=(60:Int)) (h0:0<=i/\i < w.length) (hx : ¬ (0<=ix w i/\ix w i < letters)):mayE letters w=2:=by
 unfold mayE;rw [if_neg (by omega),if_neg (by omega),if_neg];intro hh;exact hx (hh _ (zge h0.1 h0.2))
theorem zrk {letters:Int} {w:List Int} (h:1<=letters/\letters<=4) (h2:w.length<=(60:Int)) (hx:∀ j:Int,0<=j->j < w.length->0<=ix w j/\ix w j < letters):mayE letters w=0:=by
 unfold mayE;rw [if_neg (by omega),if_neg (by omega),if_pos];exact zq4.2 hx
theorem Fc.pure {P:Program} {f:FuncId} {l:List Value} {r:Value} (hr:r.oneCell'=true) (hc:∀ w,Calls P f l.toArray w (fun e w'=>e = .returned r/\w'=w)) {h:Hp} {R:AV->Hp->Prop} (hR:R (.d (.lit r)) h):Fc P f (l.map fun v => .d (.lit v)) h R:=by
 intro w X H vs hX hH hok hs hv;have e:vs=l.toArray:=by
  apply Array.ext
  ·simpa using hs
  ·intro i h1 h2;have:=hv i (by simpa using h2)
   have hi:i < l.length:=by simpa using h2
   rw [List.getD_eq_getElem?_getD,List.getElem?_map,List.getElem?_eq_getElem hi,show vs.getD i undef=vs[i] by simp [Array.getD,h1]] at this
   simp only [Option.map_some,Option.getD_some] at this;generalize vs[i]=q at this
   cases this with
   | d _ _ h3=>cases h3;simp
 subst e;exact (hc w).mono fun e w' ⟨h1,h2⟩=>by
  subst h2;exact ⟨r,_,h,H,h1,hR,⟨rfl,rfl,rfl,Nat.le_refl _⟩,fun _ _ _=>rfl,hok,fun b hb => .inr hb,fun _ _=>rfl,.d _ _ (.lit _ hr)⟩
def znJ (s:List UInt8) (c:Int):Int:=Lib.indexByte s c.toNat.toUInt8
theorem zqs {P:Program} {f:FuncId} (h1:∀ (as:Array Value) (w:World),(callFunc f as).run P w = .ok (.enter f as) w)
  (hc:∀ (s:ByteArray) (c:Int) (w:World),Calls P f #[.string s,.int .u8 c] w fun e w'=>e = .returned (.int .i64 (Lib.indexByte s.data.toList c.toNat.toUInt8))/\w'=w):
  CE.ok P ⟨f,⟨[.str,.int .u8],[(0,.v 0),(1,.v 1)],[]⟩,⟨[.int .i64],[(0,.v 0)],[]⟩,fun X=>some (znJ X.1 X.2)⟩ where
 call:=h1
 fc X Y hY:=by
  cases hY;exact Fc.pure (l:=[.string ⟨⟨X.1⟩⟩,.int .u8 X.2]) (r := .int .i64 (znJ X.1 X.2)) rfl (fun w=>hc ⟨⟨X.1⟩⟩ X.2 w) ⟨rfl,rfl⟩
structure Spl (S:Nat->Prop) (w wr:World):Prop where
 o:wr.os=w.os/\wr.tape=w.tape/\wr.output=w.output/\wr.heap.size=w.heap.size
 k:∀ b,¬ S b->wr.heap[b]? =w.heap[b]?
 c:∀ (b:Nat) (cur:Array Value) (E:Nat),w.heap[b]? =some (.cells cur E (0,0))->∃ cur':Array Value,wr.heap[b]? =some (.cells cur' E (0,0))/\cur'.size=cur.size
end
end Go.Ab
