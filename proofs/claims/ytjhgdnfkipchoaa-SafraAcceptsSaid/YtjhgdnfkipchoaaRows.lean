/-
  No cell of these rows narrows 'for every input' (looked for: loops, veiled, ifaces, maps, wideKeys, modest, calm, conditions, laid).
  DERIVED. THE GIVEN ROWS OF THIS SEAT. 12 by the template 'for every input the law returns true; each argument reads behind the call as it read before'; 0 by the template 'total and deterministic' (their statements: YtjhgdnfkipchoaaTotals.lean).
  GIVEN WITH THE SEED: the statements are not yours to turn. If you find one false, say at which input.
  Laid BY PROGRAM, IN A SANDBOX (cutbox-rows.mjs): the forced cells as the released guide's own fill.sh prints them over the translation 0110eaf6f12950e5… (all of the seat's roots in one cut). By AI agents, Wed Nov 11 2026. No macro, syntax, notation, axiom, sorry.
-/
import Derived.Test.YtjhgdnfkipchoaaChecked
import GoSem.Claim
import GoSem.ClaimJoined
import GoSem.ClaimMapViews
import Derived.JoinedTies
import Derived.KernelRfl
namespace Go.Proofs.Ytjhgdnfkipchoaa
/- THE CELL 'sum', in the pinned program and in every row, IS THE sha256 OF THE DUMP (.gsa) THAT YtjhgdnfkipchoaaProg.lean LOADS. Nothing in Lean hashes anything: it is a label: what it is worth is what the hold of that sum in a sandbox is worth. -/
noncomputable def Try.pinned : Pinned := { name := "ytjhgdnfkipchoaa", sum := "0110eaf6f12950e54e12fd03191f9aabcb789ac4d27dd77b0a0cef8ea4b9b74d", checked := Try.checked }
namespace Rows
def none {H : Type} : Left H := { results := [], args := [] }

/-- 'evermorelaw.CodeSync': WHATEVER THE INPUT: true; the input reads as it did. -/
def codeSyncSpec : ChangeSpec := { name := "codeSync", fn := fun _ => fun
  | [d] => { results := [.lit (.bool true)], args := [d] }
  | _ => none }
def codeSyncRow : OpenClaim := { program := "ytjhgdnfkipchoaa", sum := "0110eaf6f12950e54e12fd03191f9aabcb789ac4d27dd77b0a0cef8ea4b9b74d", func := "evermore/evermorelaw.CodeSync", spec := "codeSync", unfollowed := true, recurses := true, plainKeys := false, apart := false }
def CodeSyncSaid : Prop := codeSyncRow.holds Try.pinned (OpenSpec.ofChange codeSyncSpec)

/-- ITS FALSE NEIGHBOUR: 'it returns false'. Refute it at one input. -/
def codeSyncWrong : ChangeSpec := { name := "codeSync", fn := fun _ => fun
  | [d] => { results := [.lit (.bool false)], args := [d] }
  | _ => none }
def CodeSyncWrongFalsely : Prop := codeSyncRow.holds Try.pinned (OpenSpec.ofChange codeSyncWrong)

/-- 'evermorelaw.AlterOther': WHATEVER THE INPUT: true; the input reads as it did. -/
def alterOtherSpec : ChangeSpec := { name := "alterOther", fn := fun _ => fun
  | [d1, d2] => { results := [.lit (.bool true)], args := [d1, d2] }
  | _ => none }
def alterOtherRow : OpenClaim := { program := "ytjhgdnfkipchoaa", sum := "0110eaf6f12950e54e12fd03191f9aabcb789ac4d27dd77b0a0cef8ea4b9b74d", func := "evermore/evermorelaw.AlterOther", spec := "alterOther", unfollowed := true, recurses := true, plainKeys := false, apart := false }
def AlterOtherSaid : Prop := alterOtherRow.holds Try.pinned (OpenSpec.ofChange alterOtherSpec)

/-- ITS FALSE NEIGHBOUR: 'it returns false'. Refute it at one input. -/
def alterOtherWrong : ChangeSpec := { name := "alterOther", fn := fun _ => fun
  | [d1, d2] => { results := [.lit (.bool false)], args := [d1, d2] }
  | _ => none }
def AlterOtherWrongFalsely : Prop := alterOtherRow.holds Try.pinned (OpenSpec.ofChange alterOtherWrong)

/-- 'evermorelaw.SafraAccepts': WHATEVER THE INPUT: true; the input reads as it did. -/
def safraAcceptsSpec : ChangeSpec := { name := "safraAccepts", fn := fun _ => fun
  | [d1, d2] => { results := [.lit (.bool true)], args := [d1, d2] }
  | _ => none }
def safraAcceptsRow : OpenClaim := { program := "ytjhgdnfkipchoaa", sum := "0110eaf6f12950e54e12fd03191f9aabcb789ac4d27dd77b0a0cef8ea4b9b74d", func := "evermore/evermorelaw.SafraAccepts", spec := "safraAccepts", unfollowed := true, recurses := true, plainKeys := false, apart := false }
def SafraAcceptsSaid : Prop := safraAcceptsRow.holds Try.pinned (OpenSpec.ofChange safraAcceptsSpec)

/-- ITS FALSE NEIGHBOUR: 'it returns false'. Refute it at one input. -/
def safraAcceptsWrong : ChangeSpec := { name := "safraAccepts", fn := fun _ => fun
  | [d1, d2] => { results := [.lit (.bool false)], args := [d1, d2] }
  | _ => none }
def SafraAcceptsWrongFalsely : Prop := safraAcceptsRow.holds Try.pinned (OpenSpec.ofChange safraAcceptsWrong)

/-- 'evermorelaw.WordTells': WHATEVER THE INPUT: true; the input reads as it did. -/
def wordTellsSpec : ChangeSpec := { name := "wordTells", fn := fun _ => fun
  | [d1, d2, d3, d4, d5] => { results := [.lit (.bool true)], args := [d1, d2, d3, d4, d5] }
  | _ => none }
def wordTellsRow : OpenClaim := { program := "ytjhgdnfkipchoaa", sum := "0110eaf6f12950e54e12fd03191f9aabcb789ac4d27dd77b0a0cef8ea4b9b74d", func := "evermore/evermorelaw.WordTells", spec := "wordTells", plainKeys := false, apart := false }
def WordTellsSaid : Prop := wordTellsRow.holds Try.pinned (OpenSpec.ofChange wordTellsSpec)

/-- ITS FALSE NEIGHBOUR: 'it returns false'. Refute it at one input. -/
def wordTellsWrong : ChangeSpec := { name := "wordTells", fn := fun _ => fun
  | [d1, d2, d3, d4, d5] => { results := [.lit (.bool false)], args := [d1, d2, d3, d4, d5] }
  | _ => none }
def WordTellsWrongFalsely : Prop := wordTellsRow.holds Try.pinned (OpenSpec.ofChange wordTellsWrong)

/-- 'evermorelaw.TimedReach': WHATEVER THE INPUT: true; the input reads as it did. -/
def timedReachSpec : ChangeSpec := { name := "timedReach", fn := fun _ => fun
  | [d] => { results := [.lit (.bool true)], args := [d] }
  | _ => none }
def timedReachRow : OpenClaim := { program := "ytjhgdnfkipchoaa", sum := "0110eaf6f12950e54e12fd03191f9aabcb789ac4d27dd77b0a0cef8ea4b9b74d", func := "evermore/evermorelaw.TimedReach", spec := "timedReach", unfollowed := true, recurses := true, plainKeys := false, apart := false }
def TimedReachSaid : Prop := timedReachRow.holds Try.pinned (OpenSpec.ofChange timedReachSpec)

/-- ITS FALSE NEIGHBOUR: 'it returns false'. Refute it at one input. -/
def timedReachWrong : ChangeSpec := { name := "timedReach", fn := fun _ => fun
  | [d] => { results := [.lit (.bool false)], args := [d] }
  | _ => none }
def TimedReachWrongFalsely : Prop := timedReachRow.holds Try.pinned (OpenSpec.ofChange timedReachWrong)

/-- 'evermorelaw.WordNormal': WHATEVER THE INPUT: true; the input reads as it did. -/
def wordNormalSpec : ChangeSpec := { name := "wordNormal", fn := fun _ => fun
  | [d1, d2] => { results := [.lit (.bool true)], args := [d1, d2] }
  | _ => none }
def wordNormalRow : OpenClaim := { program := "ytjhgdnfkipchoaa", sum := "0110eaf6f12950e54e12fd03191f9aabcb789ac4d27dd77b0a0cef8ea4b9b74d", func := "evermore/evermorelaw.WordNormal", spec := "wordNormal", plainKeys := false, apart := false }
def WordNormalSaid : Prop := wordNormalRow.holds Try.pinned (OpenSpec.ofChange wordNormalSpec)

/-- ITS FALSE NEIGHBOUR: 'it returns false'. Refute it at one input. -/
def wordNormalWrong : ChangeSpec := { name := "wordNormal", fn := fun _ => fun
  | [d1, d2] => { results := [.lit (.bool false)], args := [d1, d2] }
  | _ => none }
def WordNormalWrongFalsely : Prop := wordNormalRow.holds Try.pinned (OpenSpec.ofChange wordNormalWrong)

/-- 'evermorelaw.RegularReads': WHATEVER THE INPUT: true; the input reads as it did. -/
def regularReadsSpec : ChangeSpec := { name := "regularReads", fn := fun _ => fun
  | [d] => { results := [.lit (.bool true)], args := [d] }
  | _ => none }
def regularReadsRow : OpenClaim := { program := "ytjhgdnfkipchoaa", sum := "0110eaf6f12950e54e12fd03191f9aabcb789ac4d27dd77b0a0cef8ea4b9b74d", func := "evermore/evermorelaw.RegularReads", spec := "regularReads", inPlace := ["internal/bytealg.IndexByteString"], unfollowed := true, recurses := true, plainKeys := false, apart := false }
def RegularReadsSaid : Prop := regularReadsRow.holds Try.pinned (OpenSpec.ofChange regularReadsSpec)

/-- ITS FALSE NEIGHBOUR: 'it returns false'. Refute it at one input. -/
def regularReadsWrong : ChangeSpec := { name := "regularReads", fn := fun _ => fun
  | [d] => { results := [.lit (.bool false)], args := [d] }
  | _ => none }
def RegularReadsWrongFalsely : Prop := regularReadsRow.holds Try.pinned (OpenSpec.ofChange regularReadsWrong)

/-- 'evermorelaw.TwoRuns': WHATEVER THE INPUT: true; the input reads as it did. -/
def twoRunsSpec : ChangeSpec := { name := "twoRuns", fn := fun _ => fun
  | [d1, d2] => { results := [.lit (.bool true)], args := [d1, d2] }
  | _ => none }
def twoRunsRow : OpenClaim := { program := "ytjhgdnfkipchoaa", sum := "0110eaf6f12950e54e12fd03191f9aabcb789ac4d27dd77b0a0cef8ea4b9b74d", func := "evermore/evermorelaw.TwoRuns", spec := "twoRuns", unfollowed := true, recurses := true, plainKeys := false, apart := false }
def TwoRunsSaid : Prop := twoRunsRow.holds Try.pinned (OpenSpec.ofChange twoRunsSpec)

/-- ITS FALSE NEIGHBOUR: 'it returns false'. Refute it at one input. -/
def twoRunsWrong : ChangeSpec := { name := "twoRuns", fn := fun _ => fun
  | [d1, d2] => { results := [.lit (.bool false)], args := [d1, d2] }
  | _ => none }
def TwoRunsWrongFalsely : Prop := twoRunsRow.holds Try.pinned (OpenSpec.ofChange twoRunsWrong)

/-- 'evermorelaw.AlterAccepts': WHATEVER THE INPUT: true; the input reads as it did. -/
def alterAcceptsSpec : ChangeSpec := { name := "alterAccepts", fn := fun _ => fun
  | [d1, d2] => { results := [.lit (.bool true)], args := [d1, d2] }
  | _ => none }
def alterAcceptsRow : OpenClaim := { program := "ytjhgdnfkipchoaa", sum := "0110eaf6f12950e54e12fd03191f9aabcb789ac4d27dd77b0a0cef8ea4b9b74d", func := "evermore/evermorelaw.AlterAccepts", spec := "alterAccepts", unfollowed := true, recurses := true, plainKeys := false, apart := false }
def AlterAcceptsSaid : Prop := alterAcceptsRow.holds Try.pinned (OpenSpec.ofChange alterAcceptsSpec)

/-- ITS FALSE NEIGHBOUR: 'it returns false'. Refute it at one input. -/
def alterAcceptsWrong : ChangeSpec := { name := "alterAccepts", fn := fun _ => fun
  | [d1, d2] => { results := [.lit (.bool false)], args := [d1, d2] }
  | _ => none }
def AlterAcceptsWrongFalsely : Prop := alterAcceptsRow.holds Try.pinned (OpenSpec.ofChange alterAcceptsWrong)

/-- 'evermorelaw.CodeUnique': WHATEVER THE INPUT: true; the input reads as it did. -/
def codeUniqueSpec : ChangeSpec := { name := "codeUnique", fn := fun _ => fun
  | [d1, d2] => { results := [.lit (.bool true)], args := [d1, d2] }
  | _ => none }
def codeUniqueRow : OpenClaim := { program := "ytjhgdnfkipchoaa", sum := "0110eaf6f12950e54e12fd03191f9aabcb789ac4d27dd77b0a0cef8ea4b9b74d", func := "evermore/evermorelaw.CodeUnique", spec := "codeUnique", unfollowed := true, recurses := true, plainKeys := false, apart := false }
def CodeUniqueSaid : Prop := codeUniqueRow.holds Try.pinned (OpenSpec.ofChange codeUniqueSpec)

/-- ITS FALSE NEIGHBOUR: 'it returns false'. Refute it at one input. -/
def codeUniqueWrong : ChangeSpec := { name := "codeUnique", fn := fun _ => fun
  | [d1, d2] => { results := [.lit (.bool false)], args := [d1, d2] }
  | _ => none }
def CodeUniqueWrongFalsely : Prop := codeUniqueRow.holds Try.pinned (OpenSpec.ofChange codeUniqueWrong)

/-- 'evermorelaw.MullerDet': WHATEVER THE INPUT: true; the input reads as it did. -/
def mullerDetSpec : ChangeSpec := { name := "mullerDet", fn := fun _ => fun
  | [d1, d2] => { results := [.lit (.bool true)], args := [d1, d2] }
  | _ => none }
def mullerDetRow : OpenClaim := { program := "ytjhgdnfkipchoaa", sum := "0110eaf6f12950e54e12fd03191f9aabcb789ac4d27dd77b0a0cef8ea4b9b74d", func := "evermore/evermorelaw.MullerDet", spec := "mullerDet", unfollowed := true, recurses := true, plainKeys := false, apart := false }
def MullerDetSaid : Prop := mullerDetRow.holds Try.pinned (OpenSpec.ofChange mullerDetSpec)

/-- ITS FALSE NEIGHBOUR: 'it returns false'. Refute it at one input. -/
def mullerDetWrong : ChangeSpec := { name := "mullerDet", fn := fun _ => fun
  | [d1, d2] => { results := [.lit (.bool false)], args := [d1, d2] }
  | _ => none }
def MullerDetWrongFalsely : Prop := mullerDetRow.holds Try.pinned (OpenSpec.ofChange mullerDetWrong)

/-- 'evermorelaw.MullerAccepts': WHATEVER THE INPUT: true; the input reads as it did. -/
def mullerAcceptsSpec : ChangeSpec := { name := "mullerAccepts", fn := fun _ => fun
  | [d1, d2] => { results := [.lit (.bool true)], args := [d1, d2] }
  | _ => none }
def mullerAcceptsRow : OpenClaim := { program := "ytjhgdnfkipchoaa", sum := "0110eaf6f12950e54e12fd03191f9aabcb789ac4d27dd77b0a0cef8ea4b9b74d", func := "evermore/evermorelaw.MullerAccepts", spec := "mullerAccepts", unfollowed := true, recurses := true, plainKeys := false, apart := false }
def MullerAcceptsSaid : Prop := mullerAcceptsRow.holds Try.pinned (OpenSpec.ofChange mullerAcceptsSpec)

/-- ITS FALSE NEIGHBOUR: 'it returns false'. Refute it at one input. -/
def mullerAcceptsWrong : ChangeSpec := { name := "mullerAccepts", fn := fun _ => fun
  | [d1, d2] => { results := [.lit (.bool false)], args := [d1, d2] }
  | _ => none }
def MullerAcceptsWrongFalsely : Prop := mullerAcceptsRow.holds Try.pinned (OpenSpec.ofChange mullerAcceptsWrong)

/- THE SECOND FORM. 'bulk': how many values and letters a reading holds, each counted each time it is reached (what is shared counts as often as it is met; a slice's spare places count too). A statement '..UptoSaid' is the law's where the arguments, and the package variables that the reading takes, are together of bulk at most 1048576: NARROWER than '..Said'. Prove '..Said' where nothing that the law and all that it calls make is longer than what came in: it says more and counts as full. Else prove '..UptoSaid'. A law counts once. -/
mutual
def uptoBulk {H : Type} : DataW H → Nat
  | .lit (.string bytes) => bytes.length + 1
  | .lit _ => 1
  | .nil => 1
  | .ptr d => uptoBulk d + 1
  | .slice elems spare => uptoBulkAll elems + uptoBulkAll spare + 1
  | .agg parts => uptoBulkAll parts + 1
  | .iface _ d => uptoBulk d + 1
  | .map entries => uptoBulkEntries entries + 1
  | .held _ => 1
def uptoBulkAll {H : Type} : List (DataW H) → Nat
  | [] => 0
  | d :: r => uptoBulk d + uptoBulkAll r
def uptoBulkEntries {H : Type} : List (Lit × DataW H) → Nat
  | [] => 0
  | x :: r => uptoBulkEntry x + uptoBulkEntries r
def uptoBulkEntry {H : Type} : Lit × DataW H → Nat
  | (.string bytes, d) => bytes.length + uptoBulk d + 1
  | (_, d) => uptoBulk d + 1
 end
def uptoSmall : (H : Type) → List (DataW H) → Bool := fun _ ds => decide (uptoBulkAll ds ≤ 1048576)
def OpenSpec.upto (s : _root_.Go.ChangeSpec) : _root_.Go.OpenSpec := { _root_.Go.OpenSpec.ofChange s with cond := some uptoSmall }

/-- 'evermorelaw.CodeSync', WHERE WHAT IT READS IS OF BULK AT MOST 1048576: true; the input reads as it did. -/
def codeSyncUptoRow : OpenClaim := { program := "ytjhgdnfkipchoaa", sum := "0110eaf6f12950e54e12fd03191f9aabcb789ac4d27dd77b0a0cef8ea4b9b74d", func := "evermore/evermorelaw.CodeSync", spec := "codeSync", unfollowed := true, recurses := true, plainKeys := false, apart := false, narrowed := true }
def CodeSyncUptoSaid : Prop := codeSyncUptoRow.holds Try.pinned (OpenSpec.upto codeSyncSpec)

/-- 'evermorelaw.AlterOther', WHERE WHAT IT READS IS OF BULK AT MOST 1048576: true; the input reads as it did. -/
def alterOtherUptoRow : OpenClaim := { program := "ytjhgdnfkipchoaa", sum := "0110eaf6f12950e54e12fd03191f9aabcb789ac4d27dd77b0a0cef8ea4b9b74d", func := "evermore/evermorelaw.AlterOther", spec := "alterOther", unfollowed := true, recurses := true, plainKeys := false, apart := false, narrowed := true }
def AlterOtherUptoSaid : Prop := alterOtherUptoRow.holds Try.pinned (OpenSpec.upto alterOtherSpec)

/-- 'evermorelaw.SafraAccepts', WHERE WHAT IT READS IS OF BULK AT MOST 1048576: true; the input reads as it did. -/
def safraAcceptsUptoRow : OpenClaim := { program := "ytjhgdnfkipchoaa", sum := "0110eaf6f12950e54e12fd03191f9aabcb789ac4d27dd77b0a0cef8ea4b9b74d", func := "evermore/evermorelaw.SafraAccepts", spec := "safraAccepts", unfollowed := true, recurses := true, plainKeys := false, apart := false, narrowed := true }
def SafraAcceptsUptoSaid : Prop := safraAcceptsUptoRow.holds Try.pinned (OpenSpec.upto safraAcceptsSpec)

/-- 'evermorelaw.WordTells', WHERE WHAT IT READS IS OF BULK AT MOST 1048576: true; the input reads as it did. -/
def wordTellsUptoRow : OpenClaim := { program := "ytjhgdnfkipchoaa", sum := "0110eaf6f12950e54e12fd03191f9aabcb789ac4d27dd77b0a0cef8ea4b9b74d", func := "evermore/evermorelaw.WordTells", spec := "wordTells", plainKeys := false, apart := false, narrowed := true }
def WordTellsUptoSaid : Prop := wordTellsUptoRow.holds Try.pinned (OpenSpec.upto wordTellsSpec)

/-- 'evermorelaw.TimedReach', WHERE WHAT IT READS IS OF BULK AT MOST 1048576: true; the input reads as it did. -/
def timedReachUptoRow : OpenClaim := { program := "ytjhgdnfkipchoaa", sum := "0110eaf6f12950e54e12fd03191f9aabcb789ac4d27dd77b0a0cef8ea4b9b74d", func := "evermore/evermorelaw.TimedReach", spec := "timedReach", unfollowed := true, recurses := true, plainKeys := false, apart := false, narrowed := true }
def TimedReachUptoSaid : Prop := timedReachUptoRow.holds Try.pinned (OpenSpec.upto timedReachSpec)

/-- 'evermorelaw.WordNormal', WHERE WHAT IT READS IS OF BULK AT MOST 1048576: true; the input reads as it did. -/
def wordNormalUptoRow : OpenClaim := { program := "ytjhgdnfkipchoaa", sum := "0110eaf6f12950e54e12fd03191f9aabcb789ac4d27dd77b0a0cef8ea4b9b74d", func := "evermore/evermorelaw.WordNormal", spec := "wordNormal", plainKeys := false, apart := false, narrowed := true }
def WordNormalUptoSaid : Prop := wordNormalUptoRow.holds Try.pinned (OpenSpec.upto wordNormalSpec)

/-- 'evermorelaw.RegularReads', WHERE WHAT IT READS IS OF BULK AT MOST 1048576: true; the input reads as it did. -/
def regularReadsUptoRow : OpenClaim := { program := "ytjhgdnfkipchoaa", sum := "0110eaf6f12950e54e12fd03191f9aabcb789ac4d27dd77b0a0cef8ea4b9b74d", func := "evermore/evermorelaw.RegularReads", spec := "regularReads", inPlace := ["internal/bytealg.IndexByteString"], unfollowed := true, recurses := true, plainKeys := false, apart := false, narrowed := true }
def RegularReadsUptoSaid : Prop := regularReadsUptoRow.holds Try.pinned (OpenSpec.upto regularReadsSpec)

/-- 'evermorelaw.TwoRuns', WHERE WHAT IT READS IS OF BULK AT MOST 1048576: true; the input reads as it did. -/
def twoRunsUptoRow : OpenClaim := { program := "ytjhgdnfkipchoaa", sum := "0110eaf6f12950e54e12fd03191f9aabcb789ac4d27dd77b0a0cef8ea4b9b74d", func := "evermore/evermorelaw.TwoRuns", spec := "twoRuns", unfollowed := true, recurses := true, plainKeys := false, apart := false, narrowed := true }
def TwoRunsUptoSaid : Prop := twoRunsUptoRow.holds Try.pinned (OpenSpec.upto twoRunsSpec)

/-- 'evermorelaw.AlterAccepts', WHERE WHAT IT READS IS OF BULK AT MOST 1048576: true; the input reads as it did. -/
def alterAcceptsUptoRow : OpenClaim := { program := "ytjhgdnfkipchoaa", sum := "0110eaf6f12950e54e12fd03191f9aabcb789ac4d27dd77b0a0cef8ea4b9b74d", func := "evermore/evermorelaw.AlterAccepts", spec := "alterAccepts", unfollowed := true, recurses := true, plainKeys := false, apart := false, narrowed := true }
def AlterAcceptsUptoSaid : Prop := alterAcceptsUptoRow.holds Try.pinned (OpenSpec.upto alterAcceptsSpec)

/-- 'evermorelaw.CodeUnique', WHERE WHAT IT READS IS OF BULK AT MOST 1048576: true; the input reads as it did. -/
def codeUniqueUptoRow : OpenClaim := { program := "ytjhgdnfkipchoaa", sum := "0110eaf6f12950e54e12fd03191f9aabcb789ac4d27dd77b0a0cef8ea4b9b74d", func := "evermore/evermorelaw.CodeUnique", spec := "codeUnique", unfollowed := true, recurses := true, plainKeys := false, apart := false, narrowed := true }
def CodeUniqueUptoSaid : Prop := codeUniqueUptoRow.holds Try.pinned (OpenSpec.upto codeUniqueSpec)

/-- 'evermorelaw.MullerDet', WHERE WHAT IT READS IS OF BULK AT MOST 1048576: true; the input reads as it did. -/
def mullerDetUptoRow : OpenClaim := { program := "ytjhgdnfkipchoaa", sum := "0110eaf6f12950e54e12fd03191f9aabcb789ac4d27dd77b0a0cef8ea4b9b74d", func := "evermore/evermorelaw.MullerDet", spec := "mullerDet", unfollowed := true, recurses := true, plainKeys := false, apart := false, narrowed := true }
def MullerDetUptoSaid : Prop := mullerDetUptoRow.holds Try.pinned (OpenSpec.upto mullerDetSpec)

/-- 'evermorelaw.MullerAccepts', WHERE WHAT IT READS IS OF BULK AT MOST 1048576: true; the input reads as it did. -/
def mullerAcceptsUptoRow : OpenClaim := { program := "ytjhgdnfkipchoaa", sum := "0110eaf6f12950e54e12fd03191f9aabcb789ac4d27dd77b0a0cef8ea4b9b74d", func := "evermore/evermorelaw.MullerAccepts", spec := "mullerAccepts", unfollowed := true, recurses := true, plainKeys := false, apart := false, narrowed := true }
def MullerAcceptsUptoSaid : Prop := mullerAcceptsUptoRow.holds Try.pinned (OpenSpec.upto mullerAcceptsSpec)

end Rows
end Go.Proofs.Ytjhgdnfkipchoaa
