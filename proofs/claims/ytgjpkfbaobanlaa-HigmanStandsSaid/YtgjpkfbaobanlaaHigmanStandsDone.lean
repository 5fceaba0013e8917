/- 'HigmanStands': the program's answer is the document's, for every input: no condition. -/
import Derived.Test.YtgjpkfbaobanlaaHigmanStandsW
import Derived.Test.YtgjpkfbaobanlaaRows
import Derived.WalkKit
import Derived.ProofKit
import Derived.OpenShut
import Derived.ShutString
import Derived.ChangeOld
import Derived.Below
set_option maxRecDepth 100000
set_option linter.unusedVariables false
set_option linter.unusedSimpArgs false
namespace Go.Proofs.Ytgjpkfbaobanlaa.higmanStandsDone
open Go Go.Ab Go.Proofs Go.Proofs.Ytgjpkfbaobanlaa
open Go.ChangeShapes Go.WideShapes Go.ChangeAt Go.RowKit
theorem own : ownKnob Try.prog.godebug = none := by kernel_rfl
theorem laidOut : laidOutB Try.prog = true := by kernel_rfl

theorem hlaw : ∀ dl, AllQ [fun d => ∃ x : (List Int), d = Enc.enc x, fun d => ∃ x : (List Int), d = Enc.enc x] dl → Fc Try.prog 4 (dl.map .d) [] (fun r _ => r = .d (.lit (.bool true))) := by
  intro dl h
  obtain _ | ⟨d0, dl⟩ := dl
  · exact h.elim
  obtain ⟨⟨a0, rfl⟩, h⟩ := h
  obtain _ | ⟨d1, dl⟩ := dl
  · exact h.elim
  obtain ⟨⟨a1, rfl⟩, h⟩ := h
  obtain rfl : dl = [] := h
  refine Fc.mono (law_ok a0 a1) ?_
  rintro r h ⟨y, rfl, rfl, rfl⟩
  rfl
theorem lifted (os : Os) (started : os.Started) (H : Type) (enc : TypeId × Value → H) :
    ReturnsInHanded {} Try.checked os 4 .any (Rows.higmanStandsSpec.pre6 enc Try.prog Try.f4 Rows.higmanStandsRow.domain false) (Rows.higmanStandsSpec.post enc Try.prog Try.f4 false true false false) :=
  law_lifted (s := Rows.higmanStandsSpec) own started (by kernel_rfl) Try.func4
    (ChangeSpec.witness6 (enc := enc) (C := Try.checked) false ⟨#[], #[.slice none 0 0, .slice none 0 0], []⟩ 8 (by kernel_rfl) (by kernel_rfl) (by kernel_rfl) (by kernel_rfl))
    rfl laidOut (by kernel_rfl) rfl Try.underlying4
    (fun ds hl => by
      obtain _ | ⟨d0, ds⟩ := ds
      · cases hl
      obtain _ | ⟨d1, ds⟩ := ds
      · cases hl
      obtain _ | ⟨d2, ds⟩ := ds
      · rfl
      · cases hl)
    [fun d => ∃ x : (List Int), d = Enc.enc x, fun d => ∃ x : (List Int), d = Enc.enc x]
    ⟨⟨1, (reads_slice Try.underlying26 (reads_int Try.underlying3) (by kernel_rfl) (by kernel_rfl) (by decide)), by kernel_rfl, .inr ⟨rfl, ⟨_, Try.underlying26, rfl⟩, fun d ⟨x, h⟩ => by subst h; rfl⟩⟩, ⟨1, (reads_slice Try.underlying26 (reads_int Try.underlying3) (by kernel_rfl) (by kernel_rfl) (by decide)), by kernel_rfl, .inr ⟨rfl, ⟨_, Try.underlying26, rfl⟩, fun d ⟨x, h⟩ => by subst h; rfl⟩⟩, rfl⟩
    hlaw
theorem over : Rows.higmanStandsRow.holds Try.pinned (OpenSpec.ofChange Rows.higmanStandsSpec) :=
  OpenClaim.holds_of_wide 4 Try.f4 rfl rfl rfl rfl rfl rfl rfl ⟨rfl, rfl, rfl, rfl, rfl⟩ rfl rfl rfl rfl rfl (by kernel_rfl) Try.func4 (by kernel_rfl)
    (of_decide_eq_true (by kernel_rfl)) (by unfold Func.isWrapper; first | (rw [if_pos (by decide +kernel)]; kernel_rfl) | (rw [if_neg (by decide +kernel)]; exact ⟨rfl, rfl⟩))
    (fun os started H enc _ => lifted os started H enc)
/-- The statement. -/
theorem proved : Rows.HigmanStandsSaid := over
end Go.Proofs.Ytgjpkfbaobanlaa.higmanStandsDone
