/- 'CoverFires': the program's answer is the document's, for every input: no condition. -/
import Derived.Test.YtiamohlhhcafdaaCoverFiresC
import Derived.Test.YtiamohlhhcafdaaCoverFiresP
import Derived.Test.YtiamohlhhcafdaaRows
import Derived.WalkKit
import Derived.ProofKit
import Derived.OpenShut
import Derived.ShutString
import Derived.ChangeOld
import Derived.Below
set_option maxRecDepth 100000
set_option linter.unusedVariables false
set_option linter.unusedSimpArgs false
namespace Go.Proofs.Ytiamohlhhcafdaa.coverFiresDone
open Go Go.Ab Go.Proofs Go.Proofs.Ytiamohlhhcafdaa Go.Proofs.Ytiamohlhhcafdaa.coverFiresW
open Go.ChangeShapes Go.WideShapes Go.ChangeAt Go.RowKit
theorem own : ownKnob Try.prog.godebug = none := by kernel_rfl
theorem laidOut : laidOutB Try.prog = true := by kernel_rfl
theorem rd3 : RDT Try.prog 3 (.int .i64) := rd_int Try.underlying3
theorem rd32 : RDT Try.prog 32 (.list (.int .i64)) := rd_slice Try.underlying32 rd3 (by kernel_rfl) (by kernel_rfl) (by decide)
theorem rd31 : RDT Try.prog 31 (.list (.list (.int .i64))) := rd_slice Try.underlying31 rd32 (by kernel_rfl) (by kernel_rfl) (by decide)
theorem rd62 : RDT Try.prog 62 (.pair (.int .i64) (.pair (.list (.list (.int .i64))) (.pair (.list (.list (.int .i64))) .unit))) := rd_struct Try.underlying62 (by kernel_rfl) ⟨_, rfl, rd3, by kernel_rfl, ⟨_, rfl, rd31, by kernel_rfl, ⟨_, rfl, rd31, by kernel_rfl, trivial⟩⟩⟩
theorem hlaw : ∀ dl, AllQ [QT (.pair (.int .i64) (.pair (.list (.list (.int .i64))) (.pair (.list (.list (.int .i64))) .unit))), QT (.list (.int .i64)), QT (.int .i64)] dl → Fc Try.prog 7 (dl.map .d) [] (fun r _ => r = .d (.lit (.bool true))) := by
  intro dl h
  obtain _ | ⟨d0, dl⟩ := dl
  · exact h.elim
  obtain ⟨⟨a0, rfl, s0⟩, h⟩ := h
  obtain _ | ⟨d1, dl⟩ := dl
  · exact h.elim
  obtain ⟨⟨a1, rfl, s1⟩, h⟩ := h
  obtain _ | ⟨d2, dl⟩ := dl
  · exact h.elim
  obtain ⟨⟨a2, rfl, s2⟩, h⟩ := h
  obtain rfl : dl = [] := h
  refine Fc.mono (law_CoverFires_ok.fc (a0, a1, a2) (true : Bool) (law_true a0 a1 a2 s0 s1 s2)) ?_
  rintro r h ⟨rfl, rfl⟩
  rfl
theorem lifted (os : Os) (started : os.Started) (H : Type) (enc : TypeId × Value → H) :
    ReturnsInHanded {} Try.checked os 7 .any (Rows.coverFiresSpec.pre6 enc Try.prog Try.f7 Rows.coverFiresRow.domain false) (Rows.coverFiresSpec.post enc Try.prog Try.f7 false true false false) :=
  law_lifted (s := Rows.coverFiresSpec) own started (by kernel_rfl) Try.func7
    (ChangeSpec.witness6 (enc := enc) (C := Try.checked) false ⟨#[], #[.agg ⟨[.int .i64 0, .slice none 0 0, .slice none 0 0]⟩, .slice none 0 0, .int .i64 0], []⟩ 8 (by kernel_rfl) (by kernel_rfl) (by kernel_rfl) (by kernel_rfl))
    rfl laidOut (by kernel_rfl) rfl Try.underlying4
    (fun ds hl => by
      obtain _ | ⟨d0, ds⟩ := ds
      · cases hl
      obtain _ | ⟨d1, ds⟩ := ds
      · cases hl
      obtain _ | ⟨d2, ds⟩ := ds
      · cases hl
      obtain _ | ⟨d3, ds⟩ := ds
      · rfl
      · cases hl)
    [QT (.pair (.int .i64) (.pair (.list (.list (.int .i64))) (.pair (.list (.list (.int .i64))) .unit))), QT (.list (.int .i64)), QT (.int .i64)]
    (rds_cons rd62 (by kernel_rfl) (TI.of (dsc := true) (size := 3) (bytes := 56) (z := .agg ⟨[.int .i64 0, .slice none 0 0, .slice none 0 0]⟩) Try.underlying62 rfl (by kernel_rfl)) (rds_cons rd32 (by kernel_rfl) (TI.of (dsc := false) (size := 1) (bytes := 24) (z := .slice none 0 0) Try.underlying32 rfl (by kernel_rfl)) (rds_cons rd3 (by kernel_rfl) (TI.of (dsc := false) (size := 1) (bytes := 8) (z := .int .i64 0) Try.underlying3 rfl (by kernel_rfl)) rfl)))
    hlaw
theorem over : Rows.coverFiresRow.holds Try.pinned (OpenSpec.ofChange Rows.coverFiresSpec) :=
  OpenClaim.holds_of_wide 7 Try.f7 rfl rfl rfl rfl rfl rfl rfl ⟨rfl, rfl, rfl, rfl, rfl⟩ rfl rfl rfl rfl rfl (by kernel_rfl) Try.func7 (by kernel_rfl)
    (of_decide_eq_true (by kernel_rfl)) (by unfold Func.isWrapper; first | (rw [if_pos (by decide +kernel)]; kernel_rfl) | (rw [if_neg (by decide +kernel)]; exact ⟨rfl, rfl⟩))
    (fun os started H enc _ => lifted os started H enc)
/-- The statement. -/
theorem proved : Rows.CoverFiresSaid := over
end Go.Proofs.Ytiamohlhhcafdaa.coverFiresDone
