/-
  No cell of these rows narrows 'for every input' (looked for: loops, veiled, ifaces, maps, wideKeys, modest, calm, conditions, laid).
  DERIVED. THE GIVEN ROWS OF THIS SEAT. 12 by the template 'for every input the law returns true; each argument reads behind the call as it read before'; 0 by the template 'total and deterministic' (their statements: YtgjpkfbaobanlaaTotals.lean).
  GIVEN WITH THE SEED: the statements are not yours to turn. If you find one false, say at which input.
  Laid BY PROGRAM, IN A SANDBOX (cutbox-rows.mjs): the forced cells as the released guide's own fill.sh prints them over the translation 38ecd96a73cb6ad9… (all of the seat's roots in one cut). By AI agents, Wed Nov 11 2026. No macro, syntax, notation, axiom, sorry.
-/
import Derived.Test.YtgjpkfbaobanlaaChecked
import GoSem.Claim
import GoSem.ClaimJoined
import GoSem.ClaimMapViews
import Derived.JoinedTies
import Derived.KernelRfl
namespace Go.Proofs.Ytgjpkfbaobanlaa
/- THE CELL 'sum', in the pinned program and in every row, IS THE sha256 OF THE DUMP (.gsa) THAT YtgjpkfbaobanlaaProg.lean LOADS. Nothing in Lean hashes anything: it is a label: what it is worth is what the hold of that sum in a sandbox is worth. -/
noncomputable def Try.pinned : Pinned := { name := "ytgjpkfbaobanlaa", sum := "38ecd96a73cb6ad95f7ef1c951b4cccbf9b4bbe2786f49efce7b9287a4fd35b7", checked := Try.checked }
namespace Rows
def none {H : Type} : Left H := { results := [], args := [] }

/-- 'evermorelaw.Names': WHATEVER THE INPUT: true; the input reads as it did. -/
def namesSpec : ChangeSpec := { name := "names", fn := fun _ => fun
  | [] => { results := [.lit (.bool true)], args := [] }
  | _ => none }
def namesRow : OpenClaim := { program := "ytgjpkfbaobanlaa", sum := "38ecd96a73cb6ad95f7ef1c951b4cccbf9b4bbe2786f49efce7b9287a4fd35b7", func := "evermore/evermorelaw.Names", spec := "names", plainKeys := false, apart := false }
def NamesSaid : Prop := namesRow.holds Try.pinned (OpenSpec.ofChange namesSpec)

/-- ITS FALSE NEIGHBOUR: 'it returns false'. Refute it at one input. -/
def namesWrong : ChangeSpec := { name := "names", fn := fun _ => fun
  | [] => { results := [.lit (.bool false)], args := [] }
  | _ => none }
def NamesWrongFalsely : Prop := namesRow.holds Try.pinned (OpenSpec.ofChange namesWrong)

/-- 'evermorelaw.HigmanStands': WHATEVER THE INPUT: true; the input reads as it did. -/
def higmanStandsSpec : ChangeSpec := { name := "higmanStands", fn := fun _ => fun
  | [d1, d2] => { results := [.lit (.bool true)], args := [d1, d2] }
  | _ => none }
def higmanStandsRow : OpenClaim := { program := "ytgjpkfbaobanlaa", sum := "38ecd96a73cb6ad95f7ef1c951b4cccbf9b4bbe2786f49efce7b9287a4fd35b7", func := "evermore/evermorelaw.HigmanStands", spec := "higmanStands", plainKeys := false, apart := false }
def HigmanStandsSaid : Prop := higmanStandsRow.holds Try.pinned (OpenSpec.ofChange higmanStandsSpec)

/-- ITS FALSE NEIGHBOUR: 'it returns false'. Refute it at one input. -/
def higmanStandsWrong : ChangeSpec := { name := "higmanStands", fn := fun _ => fun
  | [d1, d2] => { results := [.lit (.bool false)], args := [d1, d2] }
  | _ => none }
def HigmanStandsWrongFalsely : Prop := higmanStandsRow.holds Try.pinned (OpenSpec.ofChange higmanStandsWrong)

/-- 'evermorelaw.LyndonBruijn': WHATEVER THE INPUT: true; the input reads as it did. -/
def lyndonBruijnSpec : ChangeSpec := { name := "lyndonBruijn", fn := fun _ => fun
  | [d1, d2] => { results := [.lit (.bool true)], args := [d1, d2] }
  | _ => none }
def lyndonBruijnRow : OpenClaim := { program := "ytgjpkfbaobanlaa", sum := "38ecd96a73cb6ad95f7ef1c951b4cccbf9b4bbe2786f49efce7b9287a4fd35b7", func := "evermore/evermorelaw.LyndonBruijn", spec := "lyndonBruijn", unfollowed := true, recurses := true, plainKeys := false, apart := false }
def LyndonBruijnSaid : Prop := lyndonBruijnRow.holds Try.pinned (OpenSpec.ofChange lyndonBruijnSpec)

/-- ITS FALSE NEIGHBOUR: 'it returns false'. Refute it at one input. -/
def lyndonBruijnWrong : ChangeSpec := { name := "lyndonBruijn", fn := fun _ => fun
  | [d1, d2] => { results := [.lit (.bool false)], args := [d1, d2] }
  | _ => none }
def LyndonBruijnWrongFalsely : Prop := lyndonBruijnRow.holds Try.pinned (OpenSpec.ofChange lyndonBruijnWrong)

/-- 'evermorelaw.SynthSays': WHATEVER THE INPUT: true; the input reads as it did. -/
def synthSaysSpec : ChangeSpec := { name := "synthSays", fn := fun _ => fun
  | [d1, d2] => { results := [.lit (.bool true)], args := [d1, d2] }
  | _ => none }
def synthSaysRow : OpenClaim := { program := "ytgjpkfbaobanlaa", sum := "38ecd96a73cb6ad95f7ef1c951b4cccbf9b4bbe2786f49efce7b9287a4fd35b7", func := "evermore/evermorelaw.SynthSays", spec := "synthSays", unfollowed := true, recurses := true, plainKeys := false, apart := false }
def SynthSaysSaid : Prop := synthSaysRow.holds Try.pinned (OpenSpec.ofChange synthSaysSpec)

/-- ITS FALSE NEIGHBOUR: 'it returns false'. Refute it at one input. -/
def synthSaysWrong : ChangeSpec := { name := "synthSays", fn := fun _ => fun
  | [d1, d2] => { results := [.lit (.bool false)], args := [d1, d2] }
  | _ => none }
def SynthSaysWrongFalsely : Prop := synthSaysRow.holds Try.pinned (OpenSpec.ofChange synthSaysWrong)

/-- 'evermorelaw.SeqsAt': WHATEVER THE INPUT: true; the input reads as it did. -/
def seqsAtSpec : ChangeSpec := { name := "seqsAt", fn := fun _ => fun
  | [d1, d2] => { results := [.lit (.bool true)], args := [d1, d2] }
  | _ => none }
def seqsAtRow : OpenClaim := { program := "ytgjpkfbaobanlaa", sum := "38ecd96a73cb6ad95f7ef1c951b4cccbf9b4bbe2786f49efce7b9287a4fd35b7", func := "evermore/evermorelaw.SeqsAt", spec := "seqsAt", unfollowed := true, recurses := true, plainKeys := false, apart := false }
def SeqsAtSaid : Prop := seqsAtRow.holds Try.pinned (OpenSpec.ofChange seqsAtSpec)

/-- ITS FALSE NEIGHBOUR: 'it returns false'. Refute it at one input. -/
def seqsAtWrong : ChangeSpec := { name := "seqsAt", fn := fun _ => fun
  | [d1, d2] => { results := [.lit (.bool false)], args := [d1, d2] }
  | _ => none }
def SeqsAtWrongFalsely : Prop := seqsAtRow.holds Try.pinned (OpenSpec.ofChange seqsAtWrong)

/-- 'evermorelaw.LyndonFactors': WHATEVER THE INPUT: true; the input reads as it did. -/
def lyndonFactorsSpec : ChangeSpec := { name := "lyndonFactors", fn := fun _ => fun
  | [d] => { results := [.lit (.bool true)], args := [d] }
  | _ => none }
def lyndonFactorsRow : OpenClaim := { program := "ytgjpkfbaobanlaa", sum := "38ecd96a73cb6ad95f7ef1c951b4cccbf9b4bbe2786f49efce7b9287a4fd35b7", func := "evermore/evermorelaw.LyndonFactors", spec := "lyndonFactors", plainKeys := false, apart := false }
def LyndonFactorsSaid : Prop := lyndonFactorsRow.holds Try.pinned (OpenSpec.ofChange lyndonFactorsSpec)

/-- ITS FALSE NEIGHBOUR: 'it returns false'. Refute it at one input. -/
def lyndonFactorsWrong : ChangeSpec := { name := "lyndonFactors", fn := fun _ => fun
  | [d] => { results := [.lit (.bool false)], args := [d] }
  | _ => none }
def LyndonFactorsWrongFalsely : Prop := lyndonFactorsRow.holds Try.pinned (OpenSpec.ofChange lyndonFactorsWrong)

/-- 'evermorelaw.SeqsDiffers': WHATEVER THE INPUT: true; the input reads as it did. -/
def seqsDiffersSpec : ChangeSpec := { name := "seqsDiffers", fn := fun _ => fun
  | [d1, d2, d3] => { results := [.lit (.bool true)], args := [d1, d2, d3] }
  | _ => none }
def seqsDiffersRow : OpenClaim := { program := "ytgjpkfbaobanlaa", sum := "38ecd96a73cb6ad95f7ef1c951b4cccbf9b4bbe2786f49efce7b9287a4fd35b7", func := "evermore/evermorelaw.SeqsDiffers", spec := "seqsDiffers", unfollowed := true, recurses := true, plainKeys := false, apart := false }
def SeqsDiffersSaid : Prop := seqsDiffersRow.holds Try.pinned (OpenSpec.ofChange seqsDiffersSpec)

/-- ITS FALSE NEIGHBOUR: 'it returns false'. Refute it at one input. -/
def seqsDiffersWrong : ChangeSpec := { name := "seqsDiffers", fn := fun _ => fun
  | [d1, d2, d3] => { results := [.lit (.bool false)], args := [d1, d2, d3] }
  | _ => none }
def SeqsDiffersWrongFalsely : Prop := seqsDiffersRow.holds Try.pinned (OpenSpec.ofChange seqsDiffersWrong)

/-- 'evermorelaw.LyndonFinds': WHATEVER THE INPUT: true; the input reads as it did. -/
def lyndonFindsSpec : ChangeSpec := { name := "lyndonFinds", fn := fun _ => fun
  | [d1, d2] => { results := [.lit (.bool true)], args := [d1, d2] }
  | _ => none }
def lyndonFindsRow : OpenClaim := { program := "ytgjpkfbaobanlaa", sum := "38ecd96a73cb6ad95f7ef1c951b4cccbf9b4bbe2786f49efce7b9287a4fd35b7", func := "evermore/evermorelaw.LyndonFinds", spec := "lyndonFinds", plainKeys := false, apart := false }
def LyndonFindsSaid : Prop := lyndonFindsRow.holds Try.pinned (OpenSpec.ofChange lyndonFindsSpec)

/-- ITS FALSE NEIGHBOUR: 'it returns false'. Refute it at one input. -/
def lyndonFindsWrong : ChangeSpec := { name := "lyndonFinds", fn := fun _ => fun
  | [d1, d2] => { results := [.lit (.bool false)], args := [d1, d2] }
  | _ => none }
def LyndonFindsWrongFalsely : Prop := lyndonFindsRow.holds Try.pinned (OpenSpec.ofChange lyndonFindsWrong)

/-- 'evermorelaw.StackSteps': WHATEVER THE INPUT: true; the input reads as it did. -/
def stackStepsSpec : ChangeSpec := { name := "stackSteps", fn := fun _ => fun
  | [d1, d2, d3] => { results := [.lit (.bool true)], args := [d1, d2, d3] }
  | _ => none }
def stackStepsRow : OpenClaim := { program := "ytgjpkfbaobanlaa", sum := "38ecd96a73cb6ad95f7ef1c951b4cccbf9b4bbe2786f49efce7b9287a4fd35b7", func := "evermore/evermorelaw.StackSteps", spec := "stackSteps", unfollowed := true, recurses := true, plainKeys := false, apart := false }
def StackStepsSaid : Prop := stackStepsRow.holds Try.pinned (OpenSpec.ofChange stackStepsSpec)

/-- ITS FALSE NEIGHBOUR: 'it returns false'. Refute it at one input. -/
def stackStepsWrong : ChangeSpec := { name := "stackSteps", fn := fun _ => fun
  | [d1, d2, d3] => { results := [.lit (.bool false)], args := [d1, d2, d3] }
  | _ => none }
def StackStepsWrongFalsely : Prop := stackStepsRow.holds Try.pinned (OpenSpec.ofChange stackStepsWrong)

/-- 'evermorelaw.LyndonBorders': WHATEVER THE INPUT: true; the input reads as it did. -/
def lyndonBordersSpec : ChangeSpec := { name := "lyndonBorders", fn := fun _ => fun
  | [d] => { results := [.lit (.bool true)], args := [d] }
  | _ => none }
def lyndonBordersRow : OpenClaim := { program := "ytgjpkfbaobanlaa", sum := "38ecd96a73cb6ad95f7ef1c951b4cccbf9b4bbe2786f49efce7b9287a4fd35b7", func := "evermore/evermorelaw.LyndonBorders", spec := "lyndonBorders", plainKeys := false, apart := false }
def LyndonBordersSaid : Prop := lyndonBordersRow.holds Try.pinned (OpenSpec.ofChange lyndonBordersSpec)

/-- ITS FALSE NEIGHBOUR: 'it returns false'. Refute it at one input. -/
def lyndonBordersWrong : ChangeSpec := { name := "lyndonBorders", fn := fun _ => fun
  | [d] => { results := [.lit (.bool false)], args := [d] }
  | _ => none }
def LyndonBordersWrongFalsely : Prop := lyndonBordersRow.holds Try.pinned (OpenSpec.ofChange lyndonBordersWrong)

/-- 'evermorelaw.SeqsSquares': WHATEVER THE INPUT: true; the input reads as it did. -/
def seqsSquaresSpec : ChangeSpec := { name := "seqsSquares", fn := fun _ => fun
  | [d1, d2] => { results := [.lit (.bool true)], args := [d1, d2] }
  | _ => none }
def seqsSquaresRow : OpenClaim := { program := "ytgjpkfbaobanlaa", sum := "38ecd96a73cb6ad95f7ef1c951b4cccbf9b4bbe2786f49efce7b9287a4fd35b7", func := "evermore/evermorelaw.SeqsSquares", spec := "seqsSquares", unfollowed := true, recurses := true, plainKeys := false, apart := false }
def SeqsSquaresSaid : Prop := seqsSquaresRow.holds Try.pinned (OpenSpec.ofChange seqsSquaresSpec)

/-- ITS FALSE NEIGHBOUR: 'it returns false'. Refute it at one input. -/
def seqsSquaresWrong : ChangeSpec := { name := "seqsSquares", fn := fun _ => fun
  | [d1, d2] => { results := [.lit (.bool false)], args := [d1, d2] }
  | _ => none }
def SeqsSquaresWrongFalsely : Prop := seqsSquaresRow.holds Try.pinned (OpenSpec.ofChange seqsSquaresWrong)

/-- 'evermorelaw.SeqsCounts': WHATEVER THE INPUT: true; the input reads as it did. -/
def seqsCountsSpec : ChangeSpec := { name := "seqsCounts", fn := fun _ => fun
  | [d1, d2] => { results := [.lit (.bool true)], args := [d1, d2] }
  | _ => none }
def seqsCountsRow : OpenClaim := { program := "ytgjpkfbaobanlaa", sum := "38ecd96a73cb6ad95f7ef1c951b4cccbf9b4bbe2786f49efce7b9287a4fd35b7", func := "evermore/evermorelaw.SeqsCounts", spec := "seqsCounts", unfollowed := true, recurses := true, plainKeys := false, apart := false }
def SeqsCountsSaid : Prop := seqsCountsRow.holds Try.pinned (OpenSpec.ofChange seqsCountsSpec)

/-- ITS FALSE NEIGHBOUR: 'it returns false'. Refute it at one input. -/
def seqsCountsWrong : ChangeSpec := { name := "seqsCounts", fn := fun _ => fun
  | [d1, d2] => { results := [.lit (.bool false)], args := [d1, d2] }
  | _ => none }
def SeqsCountsWrongFalsely : Prop := seqsCountsRow.holds Try.pinned (OpenSpec.ofChange seqsCountsWrong)

/- THE SECOND FORM. 'bulk': how many values and letters a reading holds, each counted each time it is reached (what is shared counts as often as it is met; a slice's spare places count too). A statement '..UptoSaid' is the law's where the arguments, and the package variables that the reading takes, are together of bulk at most 1048576: NARROWER than '..Said'. Prove '..Said' where nothing that the law and all that it calls make is longer than what came in: it says more and counts as full. Else prove '..UptoSaid'. A law counts once. -/
mutual
def uptoBulk {H : Type} : DataW H → Nat
  | .lit (.string bytes) => bytes.length + 1
  | .lit _ => 1
  | .nil => 1
  | .ptr d => uptoBulk d + 1
  | .slice elems spare => uptoBulkAll elems + uptoBulkAll spare + 1
  | .agg parts => uptoBulkAll parts + 1
  | .iface _ d => uptoBulk d + 1
  | .map entries => uptoBulkEntries entries + 1
  | .held _ => 1
def uptoBulkAll {H : Type} : List (DataW H) → Nat
  | [] => 0
  | d :: r => uptoBulk d + uptoBulkAll r
def uptoBulkEntries {H : Type} : List (Lit × DataW H) → Nat
  | [] => 0
  | x :: r => uptoBulkEntry x + uptoBulkEntries r
def uptoBulkEntry {H : Type} : Lit × DataW H → Nat
  | (.string bytes, d) => bytes.length + uptoBulk d + 1
  | (_, d) => uptoBulk d + 1
 end
def uptoSmall : (H : Type) → List (DataW H) → Bool := fun _ ds => decide (uptoBulkAll ds ≤ 1048576)
def OpenSpec.upto (s : _root_.Go.ChangeSpec) : _root_.Go.OpenSpec := { _root_.Go.OpenSpec.ofChange s with cond := some uptoSmall }

/-- 'evermorelaw.Names', WHERE WHAT IT READS IS OF BULK AT MOST 1048576: true; the input reads as it did. -/
def namesUptoRow : OpenClaim := { program := "ytgjpkfbaobanlaa", sum := "38ecd96a73cb6ad95f7ef1c951b4cccbf9b4bbe2786f49efce7b9287a4fd35b7", func := "evermore/evermorelaw.Names", spec := "names", plainKeys := false, apart := false, narrowed := true }
def NamesUptoSaid : Prop := namesUptoRow.holds Try.pinned (OpenSpec.upto namesSpec)

/-- 'evermorelaw.HigmanStands', WHERE WHAT IT READS IS OF BULK AT MOST 1048576: true; the input reads as it did. -/
def higmanStandsUptoRow : OpenClaim := { program := "ytgjpkfbaobanlaa", sum := "38ecd96a73cb6ad95f7ef1c951b4cccbf9b4bbe2786f49efce7b9287a4fd35b7", func := "evermore/evermorelaw.HigmanStands", spec := "higmanStands", plainKeys := false, apart := false, narrowed := true }
def HigmanStandsUptoSaid : Prop := higmanStandsUptoRow.holds Try.pinned (OpenSpec.upto higmanStandsSpec)

/-- 'evermorelaw.LyndonBruijn', WHERE WHAT IT READS IS OF BULK AT MOST 1048576: true; the input reads as it did. -/
def lyndonBruijnUptoRow : OpenClaim := { program := "ytgjpkfbaobanlaa", sum := "38ecd96a73cb6ad95f7ef1c951b4cccbf9b4bbe2786f49efce7b9287a4fd35b7", func := "evermore/evermorelaw.LyndonBruijn", spec := "lyndonBruijn", unfollowed := true, recurses := true, plainKeys := false, apart := false, narrowed := true }
def LyndonBruijnUptoSaid : Prop := lyndonBruijnUptoRow.holds Try.pinned (OpenSpec.upto lyndonBruijnSpec)

/-- 'evermorelaw.SynthSays', WHERE WHAT IT READS IS OF BULK AT MOST 1048576: true; the input reads as it did. -/
def synthSaysUptoRow : OpenClaim := { program := "ytgjpkfbaobanlaa", sum := "38ecd96a73cb6ad95f7ef1c951b4cccbf9b4bbe2786f49efce7b9287a4fd35b7", func := "evermore/evermorelaw.SynthSays", spec := "synthSays", unfollowed := true, recurses := true, plainKeys := false, apart := false, narrowed := true }
def SynthSaysUptoSaid : Prop := synthSaysUptoRow.holds Try.pinned (OpenSpec.upto synthSaysSpec)

/-- 'evermorelaw.SeqsAt', WHERE WHAT IT READS IS OF BULK AT MOST 1048576: true; the input reads as it did. -/
def seqsAtUptoRow : OpenClaim := { program := "ytgjpkfbaobanlaa", sum := "38ecd96a73cb6ad95f7ef1c951b4cccbf9b4bbe2786f49efce7b9287a4fd35b7", func := "evermore/evermorelaw.SeqsAt", spec := "seqsAt", unfollowed := true, recurses := true, plainKeys := false, apart := false, narrowed := true }
def SeqsAtUptoSaid : Prop := seqsAtUptoRow.holds Try.pinned (OpenSpec.upto seqsAtSpec)

/-- 'evermorelaw.LyndonFactors', WHERE WHAT IT READS IS OF BULK AT MOST 1048576: true; the input reads as it did. -/
def lyndonFactorsUptoRow : OpenClaim := { program := "ytgjpkfbaobanlaa", sum := "38ecd96a73cb6ad95f7ef1c951b4cccbf9b4bbe2786f49efce7b9287a4fd35b7", func := "evermore/evermorelaw.LyndonFactors", spec := "lyndonFactors", plainKeys := false, apart := false, narrowed := true }
def LyndonFactorsUptoSaid : Prop := lyndonFactorsUptoRow.holds Try.pinned (OpenSpec.upto lyndonFactorsSpec)

/-- 'evermorelaw.SeqsDiffers', WHERE WHAT IT READS IS OF BULK AT MOST 1048576: true; the input reads as it did. -/
def seqsDiffersUptoRow : OpenClaim := { program := "ytgjpkfbaobanlaa", sum := "38ecd96a73cb6ad95f7ef1c951b4cccbf9b4bbe2786f49efce7b9287a4fd35b7", func := "evermore/evermorelaw.SeqsDiffers", spec := "seqsDiffers", unfollowed := true, recurses := true, plainKeys := false, apart := false, narrowed := true }
def SeqsDiffersUptoSaid : Prop := seqsDiffersUptoRow.holds Try.pinned (OpenSpec.upto seqsDiffersSpec)

/-- 'evermorelaw.LyndonFinds', WHERE WHAT IT READS IS OF BULK AT MOST 1048576: true; the input reads as it did. -/
def lyndonFindsUptoRow : OpenClaim := { program := "ytgjpkfbaobanlaa", sum := "38ecd96a73cb6ad95f7ef1c951b4cccbf9b4bbe2786f49efce7b9287a4fd35b7", func := "evermore/evermorelaw.LyndonFinds", spec := "lyndonFinds", plainKeys := false, apart := false, narrowed := true }
def LyndonFindsUptoSaid : Prop := lyndonFindsUptoRow.holds Try.pinned (OpenSpec.upto lyndonFindsSpec)

/-- 'evermorelaw.StackSteps', WHERE WHAT IT READS IS OF BULK AT MOST 1048576: true; the input reads as it did. -/
def stackStepsUptoRow : OpenClaim := { program := "ytgjpkfbaobanlaa", sum := "38ecd96a73cb6ad95f7ef1c951b4cccbf9b4bbe2786f49efce7b9287a4fd35b7", func := "evermore/evermorelaw.StackSteps", spec := "stackSteps", unfollowed := true, recurses := true, plainKeys := false, apart := false, narrowed := true }
def StackStepsUptoSaid : Prop := stackStepsUptoRow.holds Try.pinned (OpenSpec.upto stackStepsSpec)

/-- 'evermorelaw.LyndonBorders', WHERE WHAT IT READS IS OF BULK AT MOST 1048576: true; the input reads as it did. -/
def lyndonBordersUptoRow : OpenClaim := { program := "ytgjpkfbaobanlaa", sum := "38ecd96a73cb6ad95f7ef1c951b4cccbf9b4bbe2786f49efce7b9287a4fd35b7", func := "evermore/evermorelaw.LyndonBorders", spec := "lyndonBorders", plainKeys := false, apart := false, narrowed := true }
def LyndonBordersUptoSaid : Prop := lyndonBordersUptoRow.holds Try.pinned (OpenSpec.upto lyndonBordersSpec)

/-- 'evermorelaw.SeqsSquares', WHERE WHAT IT READS IS OF BULK AT MOST 1048576: true; the input reads as it did. -/
def seqsSquaresUptoRow : OpenClaim := { program := "ytgjpkfbaobanlaa", sum := "38ecd96a73cb6ad95f7ef1c951b4cccbf9b4bbe2786f49efce7b9287a4fd35b7", func := "evermore/evermorelaw.SeqsSquares", spec := "seqsSquares", unfollowed := true, recurses := true, plainKeys := false, apart := false, narrowed := true }
def SeqsSquaresUptoSaid : Prop := seqsSquaresUptoRow.holds Try.pinned (OpenSpec.upto seqsSquaresSpec)

/-- 'evermorelaw.SeqsCounts', WHERE WHAT IT READS IS OF BULK AT MOST 1048576: true; the input reads as it did. -/
def seqsCountsUptoRow : OpenClaim := { program := "ytgjpkfbaobanlaa", sum := "38ecd96a73cb6ad95f7ef1c951b4cccbf9b4bbe2786f49efce7b9287a4fd35b7", func := "evermore/evermorelaw.SeqsCounts", spec := "seqsCounts", unfollowed := true, recurses := true, plainKeys := false, apart := false, narrowed := true }
def SeqsCountsUptoSaid : Prop := seqsCountsUptoRow.holds Try.pinned (OpenSpec.upto seqsCountsSpec)

end Rows
end Go.Proofs.Ytgjpkfbaobanlaa
