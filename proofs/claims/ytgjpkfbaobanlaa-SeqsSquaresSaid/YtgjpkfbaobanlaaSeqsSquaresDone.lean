/- 'SeqsSquares': the program's answer is the document's, for every input: no condition. -/
import Derived.Test.YtgjpkfbaobanlaaSeqsSquaresW
import Derived.Test.YtgjpkfbaobanlaaRows
import Derived.WalkKit
import Derived.ProofKit
import Derived.OpenShut
import Derived.ShutString
import Derived.ChangeOld
import Derived.Below
set_option maxRecDepth 100000
set_option linter.unusedVariables false
set_option linter.unusedSimpArgs false
namespace Go.Proofs.Ytgjpkfbaobanlaa.seqsSquaresDone
open Go Go.Ab Go.Proofs Go.Proofs.Ytgjpkfbaobanlaa
open Go.ChangeShapes Go.WideShapes Go.ChangeAt Go.RowKit
theorem own : ownKnob Try.prog.godebug = none := by kernel_rfl
theorem laidOut : laidOutB Try.prog = true := by kernel_rfl
theorem reads47 : Reads Try.prog 47 Morph := by
  intro H en w fuel cs d ps hd hs
  obtain ⟨x0, h0⟩ := reads_field (α := Int) (i := 0) Try.underlying47 (by kernel_rfl) (reads_int Try.underlying3) (by kernel_rfl) hd hs
  obtain ⟨x1, h1⟩ := reads_field (α := (List (List Int))) (i := 1) Try.underlying47 (by kernel_rfl) (reads_slice Try.underlying45 (reads_slice Try.underlying26 (reads_int Try.underlying3) (by kernel_rfl) (by kernel_rfl) (by decide)) (by kernel_rfl) (by kernel_rfl) (by decide)) (by kernel_rfl) hd hs
  obtain ⟨x2, h2⟩ := reads_field (α := (List Int)) (i := 2) Try.underlying47 (by kernel_rfl) (reads_slice Try.underlying26 (reads_int Try.underlying3) (by kernel_rfl) (by kernel_rfl) (by decide)) (by kernel_rfl) hd hs
  refine ⟨by rw [reads_len Try.underlying47 hd]; kernel_rfl, _, ⟨⟨x0, x1, x2⟩, rfl⟩, rfl, fun j hj => ?_⟩
  have hj' : j = 0 ∨ j = 1 ∨ j = 2 := by
    have : j < 3 := hj
    omega
  rcases hj' with rfl | rfl | rfl
  · exact h0 0 (by decide)
  · exact h1 0 (by decide)
  · exact h2 0 (by decide)
theorem hlaw : ∀ dl, AllQ [fun d => ∃ x : Morph, d = Enc.enc x, fun d => ∃ x : Int, d = Enc.enc x ∧ -9223372036854775808 ≤ x ∧ x ≤ 9223372036854775807] dl → Fc Try.prog 13 (dl.map .d) [] (fun r _ => r = .d (.lit (.bool true))) := by
  intro dl h
  obtain _ | ⟨d0, dl⟩ := dl
  · exact h.elim
  obtain ⟨⟨a0, rfl⟩, h⟩ := h
  obtain _ | ⟨d1, dl⟩ := dl
  · exact h.elim
  obtain ⟨⟨a1, rfl, r1⟩, h⟩ := h
  obtain rfl : dl = [] := h
  refine Fc.mono (law_squares a0 a1 r1) ?_
  rintro r h ⟨y, rfl, rfl, rfl⟩
  rfl
theorem lifted (os : Os) (started : os.Started) (H : Type) (enc : TypeId × Value → H) :
    ReturnsInHanded {} Try.checked os 13 .any (Rows.seqsSquaresSpec.pre6 enc Try.prog Try.f13 Rows.seqsSquaresRow.domain false) (Rows.seqsSquaresSpec.post enc Try.prog Try.f13 false true false false) :=
  law_lifted (s := Rows.seqsSquaresSpec) own started (by kernel_rfl) Try.func13
    (ChangeSpec.witness6 (enc := enc) (C := Try.checked) false ⟨#[], #[.agg #[.int .i64 0, .slice none 0 0, .slice none 0 0], .int .i64 0], []⟩ 8 (by kernel_rfl) (by kernel_rfl) (by kernel_rfl) (by kernel_rfl))
    rfl laidOut (by kernel_rfl) rfl Try.underlying4
    (fun ds hl => by
      obtain _ | ⟨d0, ds⟩ := ds
      · cases hl
      obtain _ | ⟨d1, ds⟩ := ds
      · cases hl
      obtain _ | ⟨d2, ds⟩ := ds
      · rfl
      · cases hl)
    [fun d => ∃ x : Morph, d = Enc.enc x, fun d => ∃ x : Int, d = Enc.enc x ∧ -9223372036854775808 ≤ x ∧ x ≤ 9223372036854775807]
    ⟨⟨_, reads47, by kernel_rfl, .inl ⟨⟨_, Try.underlying47, rfl⟩, fun d ⟨x, h⟩ => by subst h; exact ⟨_, rfl⟩⟩⟩, ⟨1, (reads_intr Try.underlying3), by kernel_rfl, .inr ⟨rfl, ⟨_, Try.underlying3, rfl⟩, fun d ⟨x, h, _⟩ => by subst h; rfl⟩⟩, rfl⟩
    hlaw
theorem over : Rows.seqsSquaresRow.holds Try.pinned (OpenSpec.ofChange Rows.seqsSquaresSpec) :=
  OpenClaim.holds_of_wide 13 Try.f13 rfl rfl rfl rfl rfl rfl rfl ⟨rfl, rfl, rfl, rfl, rfl⟩ rfl rfl rfl rfl rfl (by kernel_rfl) Try.func13 (by kernel_rfl)
    (of_decide_eq_true (by kernel_rfl)) (by unfold Func.isWrapper; first | (rw [if_pos (by decide +kernel)]; kernel_rfl) | (rw [if_neg (by decide +kernel)]; exact ⟨rfl, rfl⟩))
    (fun os started H enc _ => lifted os started H enc)
/-- The statement. -/
theorem proved : Rows.SeqsSquaresSaid := over
end Go.Proofs.Ytgjpkfbaobanlaa.seqsSquaresDone
