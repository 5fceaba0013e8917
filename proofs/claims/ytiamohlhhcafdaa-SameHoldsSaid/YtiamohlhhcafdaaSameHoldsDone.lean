/- 'SameHolds': the program's answer is the document's, for every input: no condition. -/
import Derived.Test.YtiamohlhhcafdaaSameHoldsC
import Derived.Test.YtiamohlhhcafdaaSameHoldsP
import Derived.Test.YtiamohlhhcafdaaRows
import Derived.WalkKit
import Derived.ProofKit
import Derived.OpenShut
import Derived.ShutString
import Derived.ChangeOld
import Derived.Below
set_option maxRecDepth 100000
set_option linter.unusedVariables false
set_option linter.unusedSimpArgs false
namespace Go.Proofs.Ytiamohlhhcafdaa.sameHoldsDone
open Go Go.Ab Go.Proofs Go.Proofs.Ytiamohlhhcafdaa Go.Proofs.Ytiamohlhhcafdaa.sameHoldsW
open Go.ChangeShapes Go.WideShapes Go.ChangeAt Go.RowKit
theorem own : ownKnob Try.prog.godebug = none := by kernel_rfl
theorem laidOut : laidOutB Try.prog = true := by kernel_rfl
theorem rd3 : RDT Try.prog 3 (.int .i64) := rd_int Try.underlying3
theorem rd138 : RDT Try.prog 138 (.pair (.int .i64) (.pair (.int .i64) (.pair (.int .i64) (.pair (.int .i64) .unit)))) := rd_struct Try.underlying138 (by kernel_rfl) ⟨_, rfl, rd3, by kernel_rfl, ⟨_, rfl, rd3, by kernel_rfl, ⟨_, rfl, rd3, by kernel_rfl, ⟨_, rfl, rd3, by kernel_rfl, trivial⟩⟩⟩⟩
theorem rd42 : RDT Try.prog 42 (.list (.pair (.int .i64) (.pair (.int .i64) (.pair (.int .i64) (.pair (.int .i64) .unit))))) := rd_slice Try.underlying42 rd138 (by kernel_rfl) (by kernel_rfl) (by decide)
theorem rd133 : RDT Try.prog 133 (.pair (.int .i64) (.pair (.int .i64) (.pair (.int .i64) .unit))) := rd_struct Try.underlying133 (by kernel_rfl) ⟨_, rfl, rd3, by kernel_rfl, ⟨_, rfl, rd3, by kernel_rfl, ⟨_, rfl, rd3, by kernel_rfl, trivial⟩⟩⟩
theorem rd39 : RDT Try.prog 39 (.list (.pair (.int .i64) (.pair (.int .i64) (.pair (.int .i64) .unit)))) := rd_slice Try.underlying39 rd133 (by kernel_rfl) (by kernel_rfl) (by decide)
theorem rd41 : RDT Try.prog 41 (.pair (.int .i64) (.pair (.int .i64) (.pair (.list (.pair (.int .i64) (.pair (.int .i64) (.pair (.int .i64) .unit)))) .unit))) := rd_struct Try.underlying41 (by kernel_rfl) ⟨_, rfl, rd3, by kernel_rfl, ⟨_, rfl, rd3, by kernel_rfl, ⟨_, rfl, rd39, by kernel_rfl, trivial⟩⟩⟩
theorem hlaw : ∀ dl, AllQ [QT (.pair (.int .i64) (.pair (.int .i64) (.pair (.list (.pair (.int .i64) (.pair (.int .i64) (.pair (.int .i64) .unit)))) .unit))), QT (.list (.pair (.int .i64) (.pair (.int .i64) (.pair (.int .i64) (.pair (.int .i64) .unit)))))] dl → Fc Try.prog 5 (dl.map .d) [] (fun r _ => r = .d (.lit (.bool true))) := by
  intro dl h
  obtain _ | ⟨d0, dl⟩ := dl
  · exact h.elim
  obtain ⟨⟨a0, rfl, s0⟩, h⟩ := h
  obtain _ | ⟨d1, dl⟩ := dl
  · exact h.elim
  obtain ⟨⟨a1, rfl, s1⟩, h⟩ := h
  obtain rfl : dl = [] := h
  refine Fc.mono (law_SameHolds_ok.fc (a0, a1) (true : Bool) (law_true a0 a1)) ?_
  rintro r h ⟨rfl, rfl⟩
  rfl
theorem lifted (os : Os) (started : os.Started) (H : Type) (enc : TypeId × Value → H) :
    ReturnsInHanded {} Try.checked os 5 .any (Rows.sameHoldsSpec.pre6 enc Try.prog Try.f5 Rows.sameHoldsRow.domain false) (Rows.sameHoldsSpec.post enc Try.prog Try.f5 false true false false) :=
  law_lifted (s := Rows.sameHoldsSpec) own started (by kernel_rfl) Try.func5
    (ChangeSpec.witness6 (enc := enc) (C := Try.checked) false ⟨#[], #[.agg ⟨[.int .i64 0, .int .i64 0, .slice none 0 0]⟩, .slice none 0 0], []⟩ 8 (by kernel_rfl) (by kernel_rfl) (by kernel_rfl) (by kernel_rfl))
    rfl laidOut (by kernel_rfl) rfl Try.underlying4
    (fun ds hl => by
      obtain _ | ⟨d0, ds⟩ := ds
      · cases hl
      obtain _ | ⟨d1, ds⟩ := ds
      · cases hl
      obtain _ | ⟨d2, ds⟩ := ds
      · rfl
      · cases hl)
    [QT (.pair (.int .i64) (.pair (.int .i64) (.pair (.list (.pair (.int .i64) (.pair (.int .i64) (.pair (.int .i64) .unit)))) .unit))), QT (.list (.pair (.int .i64) (.pair (.int .i64) (.pair (.int .i64) (.pair (.int .i64) .unit)))))]
    (rds_cons rd41 (by kernel_rfl) (TI.of (dsc := true) (size := 3) (bytes := 40) (z := .agg ⟨[.int .i64 0, .int .i64 0, .slice none 0 0]⟩) Try.underlying41 rfl (by kernel_rfl)) (rds_cons rd42 (by kernel_rfl) (TI.of (dsc := false) (size := 1) (bytes := 24) (z := .slice none 0 0) Try.underlying42 rfl (by kernel_rfl)) rfl))
    hlaw
theorem over : Rows.sameHoldsRow.holds Try.pinned (OpenSpec.ofChange Rows.sameHoldsSpec) :=
  OpenClaim.holds_of_wide 5 Try.f5 rfl rfl rfl rfl rfl rfl rfl ⟨rfl, rfl, rfl, rfl, rfl⟩ rfl rfl rfl rfl rfl (by kernel_rfl) Try.func5 (by kernel_rfl)
    (of_decide_eq_true (by kernel_rfl)) (by unfold Func.isWrapper; first | (rw [if_pos (by decide +kernel)]; kernel_rfl) | (rw [if_neg (by decide +kernel)]; exact ⟨rfl, rfl⟩))
    (fun os started H enc _ => lifted os started H enc)
/-- The statement. -/
theorem proved : Rows.SameHoldsSaid := over
end Go.Proofs.Ytiamohlhhcafdaa.sameHoldsDone
