/- 'WordTells': the program's answer is the document's, for every input: no condition. -/
import Derived.Test.YtlbiilfoecehdaaWordTellsC
import Derived.Test.YtlbiilfoecehdaaWordTellsP
import Derived.Test.YtlbiilfoecehdaaRows
import Derived.WalkKit
import Derived.ProofKit
import Derived.OpenShut
import Derived.ShutString
import Derived.ChangeOld
import Derived.Below
set_option maxRecDepth 100000
set_option linter.unusedVariables false
set_option linter.unusedSimpArgs false
namespace Go.Proofs.Ytlbiilfoecehdaa.wordTellsDone
open Go Go.Ab Go.Proofs Go.Proofs.Ytlbiilfoecehdaa Go.Proofs.Ytlbiilfoecehdaa.wordTellsW
open Go.ChangeShapes Go.WideShapes Go.ChangeAt Go.RowKit
theorem own : ownKnob Try.prog.godebug = none := by kernel_rfl
theorem laidOut : laidOutB Try.prog = true := by kernel_rfl
theorem rd3 : RDT Try.prog 3 (.int .i64) := rd_int Try.underlying3
theorem rd22 : RDT Try.prog 22 (.list (.int .i64)) := rd_slice Try.underlying22 rd3 (by kernel_rfl) (by kernel_rfl) (by decide)
theorem rd24 : RDT Try.prog 24 (.pair (.list (.int .i64)) (.pair (.list (.int .i64)) .unit)) := rd_struct Try.underlying24 (by kernel_rfl) ⟨_, rfl, rd22, by kernel_rfl, ⟨_, rfl, rd22, by kernel_rfl, trivial⟩⟩
theorem hlaw : ∀ dl, AllQ [QT (.int .i64), QT (.list (.int .i64)), QT (.pair (.list (.int .i64)) (.pair (.list (.int .i64)) .unit)), QT (.pair (.list (.int .i64)) (.pair (.list (.int .i64)) .unit)), QT (.int .i64)] dl → Fc Try.prog 3 (dl.map .d) [] (fun r _ => r = .d (.lit (.bool true))) := by
  intro dl h
  obtain _ | ⟨d0, dl⟩ := dl
  · exact h.elim
  obtain ⟨⟨a0, rfl, s0⟩, h⟩ := h
  obtain _ | ⟨d1, dl⟩ := dl
  · exact h.elim
  obtain ⟨⟨a1, rfl, s1⟩, h⟩ := h
  obtain _ | ⟨d2, dl⟩ := dl
  · exact h.elim
  obtain ⟨⟨a2, rfl, s2⟩, h⟩ := h
  obtain _ | ⟨d3, dl⟩ := dl
  · exact h.elim
  obtain ⟨⟨a3, rfl, s3⟩, h⟩ := h
  obtain _ | ⟨d4, dl⟩ := dl
  · exact h.elim
  obtain ⟨⟨a4, rfl, s4⟩, h⟩ := h
  obtain rfl : dl = [] := h
  refine Fc.mono (law_WordTells_ok.fc (a0, a1, a2, a3, a4) (true : Bool) (law_true a0 a1 a2 a3 a4 s0 s1 s2 s3 s4)) ?_
  rintro r h ⟨rfl, rfl⟩
  rfl
theorem lifted (os : Os) (started : os.Started) (H : Type) (enc : TypeId × Value → H) :
    ReturnsInHanded {} Try.checked os 3 .any (Rows.wordTellsSpec.pre6 enc Try.prog Try.f3 Rows.wordTellsRow.domain false) (Rows.wordTellsSpec.post enc Try.prog Try.f3 false true false false) :=
  law_lifted (s := Rows.wordTellsSpec) own started (by kernel_rfl) Try.func3
    (ChangeSpec.witness6 (enc := enc) (C := Try.checked) false ⟨#[], #[.int .i64 0, .slice none 0 0, .agg ⟨[.slice none 0 0, .slice none 0 0]⟩, .agg ⟨[.slice none 0 0, .slice none 0 0]⟩, .int .i64 0], []⟩ 8 (by kernel_rfl) (by kernel_rfl) (by kernel_rfl) (by kernel_rfl))
    rfl laidOut (by kernel_rfl) rfl Try.underlying4
    (fun ds hl => by
      obtain _ | ⟨d0, ds⟩ := ds
      · cases hl
      obtain _ | ⟨d1, ds⟩ := ds
      · cases hl
      obtain _ | ⟨d2, ds⟩ := ds
      · cases hl
      obtain _ | ⟨d3, ds⟩ := ds
      · cases hl
      obtain _ | ⟨d4, ds⟩ := ds
      · cases hl
      obtain _ | ⟨d5, ds⟩ := ds
      · rfl
      · cases hl)
    [QT (.int .i64), QT (.list (.int .i64)), QT (.pair (.list (.int .i64)) (.pair (.list (.int .i64)) .unit)), QT (.pair (.list (.int .i64)) (.pair (.list (.int .i64)) .unit)), QT (.int .i64)]
    (rds_cons rd3 (by kernel_rfl) (TI.of (dsc := false) (size := 1) (bytes := 8) (z := .int .i64 0) Try.underlying3 rfl (by kernel_rfl)) (rds_cons rd22 (by kernel_rfl) (TI.of (dsc := false) (size := 1) (bytes := 24) (z := .slice none 0 0) Try.underlying22 rfl (by kernel_rfl)) (rds_cons rd24 (by kernel_rfl) (TI.of (dsc := true) (size := 2) (bytes := 48) (z := .agg ⟨[.slice none 0 0, .slice none 0 0]⟩) Try.underlying24 rfl (by kernel_rfl)) (rds_cons rd24 (by kernel_rfl) (TI.of (dsc := true) (size := 2) (bytes := 48) (z := .agg ⟨[.slice none 0 0, .slice none 0 0]⟩) Try.underlying24 rfl (by kernel_rfl)) (rds_cons rd3 (by kernel_rfl) (TI.of (dsc := false) (size := 1) (bytes := 8) (z := .int .i64 0) Try.underlying3 rfl (by kernel_rfl)) rfl)))))
    hlaw
theorem over : Rows.wordTellsRow.holds Try.pinned (OpenSpec.ofChange Rows.wordTellsSpec) :=
  OpenClaim.holds_of_wide 3 Try.f3 rfl rfl rfl rfl rfl rfl rfl ⟨rfl, rfl, rfl, rfl, rfl⟩ rfl rfl rfl rfl rfl (by kernel_rfl) Try.func3 (by kernel_rfl)
    (of_decide_eq_true (by kernel_rfl)) (by unfold Func.isWrapper; first | (rw [if_pos (by decide +kernel)]; kernel_rfl) | (rw [if_neg (by decide +kernel)]; exact ⟨rfl, rfl⟩))
    (fun os started H enc _ => lifted os started H enc)
/-- The statement. -/
theorem proved : Rows.WordTellsSaid := over
end Go.Proofs.Ytlbiilfoecehdaa.wordTellsDone
