import Derived.Test.YtiegbkgnhjncdaaSynthAnswersC
import Derived.Test.YtiegbkgnhjncdaaSynthAnswersQ
import Derived.Test.YtiegbkgnhjncdaaRows
import Derived.WalkKit
import Derived.ProofKit
import Derived.OpenShut
import Derived.ShutString
import Derived.ChangeOld
import Derived.Below
set_option maxRecDepth 100000
set_option linter.unusedVariables false
namespace Go.Proofs.Ytiegbkgnhjncdaa.synthAnswersDone
open Go Go.Ab Go.Proofs Go.Proofs.Ytiegbkgnhjncdaa Go.Proofs.Ytiegbkgnhjncdaa.synthAnswersW
open Go.ChangeShapes Go.WideShapes Go.ChangeAt Go.RowKit
theorem own:ownKnob Try.prog.godebug=none:=by kernel_rfl
theorem laidOut:laidOutB Try.prog=true:=by kernel_rfl
theorem rd3:RDT Try.prog 3 (.int .i64):=zEw Try.underlying3
theorem rd22:RDT Try.prog 22 (.list (.int .i64)):=zx1 Try.underlying22 rd3 (by kernel_rfl) (by kernel_rfl) (by decide)
theorem rd27:RDT Try.prog 27 (.pair (.list (.int .i64)) (.pair (.list (.int .i64)) .unit)):=zsI Try.underlying27 (by kernel_rfl) ⟨_,rfl,rd22,by kernel_rfl,⟨_,rfl,rd22,by kernel_rfl,trivial⟩⟩
theorem rd56:RDT Try.prog 56 (.pair (.int .i64) (.pair (.int .i64) (.pair (.int .i64) .unit))):=zsI Try.underlying56 (by kernel_rfl) ⟨_,rfl,rd3,by kernel_rfl,⟨_,rfl,rd3,by kernel_rfl,⟨_,rfl,rd3,by kernel_rfl,trivial⟩⟩⟩
theorem rd23:RDT Try.prog 23 (.list (.pair (.int .i64) (.pair (.int .i64) (.pair (.int .i64) .unit)))):=zx1 Try.underlying23 rd56 (by kernel_rfl) (by kernel_rfl) (by decide)
theorem rd25:RDT Try.prog 25 (.pair (.int .i64) (.pair (.int .i64) (.pair (.list (.int .i64)) (.pair (.list (.pair (.int .i64) (.pair (.int .i64) (.pair (.int .i64) .unit)))) (.pair (.list (.int .i64)) .unit))))):=zsI Try.underlying25 (by kernel_rfl) ⟨_,rfl,rd3,by kernel_rfl,⟨_,rfl,rd3,by kernel_rfl,⟨_,rfl,rd22,by kernel_rfl,⟨_,rfl,rd23,by kernel_rfl,⟨_,rfl,rd22,by kernel_rfl,trivial⟩⟩⟩⟩⟩
theorem hpn:hpSt ([]:List (Nat×Option EEnt)) ([]:List (Nat×Option RW))=Hp.nil:=by
  funext k
  show zaL [] k=none
  unfold zaL
  split<;>rfl
theorem hlaw:∀ dl,AllQ [QT (.pair (.int .i64) (.pair (.int .i64) (.pair (.list (.int .i64)) (.pair (.list (.pair (.int .i64) (.pair (.int .i64) (.pair (.int .i64) .unit)))) (.pair (.list (.int .i64)) .unit))))),QT (.pair (.list (.int .i64)) (.pair (.list (.int .i64)) .unit))] dl->Fc Try.prog 3 (dl.map .d) Hp.nil (fun r _=>r = .d (.lit (.bool true))):=by
  intro dl h
  obtain _ | ⟨d0,dl⟩:=dl
  · exact h.elim
  obtain ⟨⟨a0,rfl,s0⟩,h⟩:=h
  obtain _ | ⟨d1,dl⟩:=dl
  · exact h.elim
  obtain ⟨⟨a1,rfl,s1⟩,h⟩:=h
  obtain rfl:dl=[]:=h
  have hc:=znQ.fc (a0,a1) (true:Bool) (law_true a0 a1 s0 s1)
  rw [show hpSt (zeN.sig.heap (a0,a1)) (zeN.sig.rws (a0,a1))=Hp.nil from hpn] at hc
  refine Fc.mono hc ?_
  rintro r h ⟨rfl,_⟩
  rfl
theorem lifted (os:Os) (started:os.Started) (H:Type) (enc:TypeId×Value->H):
    ReturnsInHanded {} Try.checked os 3 .any (Rows.synthAnswersSpec.pre6 enc Try.prog Try.f3 Rows.synthAnswersRow.domain false) (Rows.synthAnswersSpec.post enc Try.prog Try.f3 false true false false):=
  zyD (s:=Rows.synthAnswersSpec) own started (by kernel_rfl) Try.func3
    (ChangeSpec.witness6 (enc:=enc) (C:=Try.checked) false ⟨#[],#[.agg ⟨[.int .i64 0,.int .i64 0,.slice none 0 0,.slice none 0 0,.slice none 0 0]⟩,.agg ⟨[.slice none 0 0,.slice none 0 0]⟩],[]⟩ 8 (by kernel_rfl) (by kernel_rfl) (by kernel_rfl) (by kernel_rfl))
    rfl laidOut (by kernel_rfl) rfl Try.underlying4
    (fun ds hl=>by
      obtain _ | ⟨d0,ds⟩:=ds
      · cases hl
      obtain _ | ⟨d1,ds⟩:=ds
      · cases hl
      obtain _ | ⟨d2,ds⟩:=ds
      · rfl
      · cases hl)
    [QT (.pair (.int .i64) (.pair (.int .i64) (.pair (.list (.int .i64)) (.pair (.list (.pair (.int .i64) (.pair (.int .i64) (.pair (.int .i64) .unit)))) (.pair (.list (.int .i64)) .unit))))),QT (.pair (.list (.int .i64)) (.pair (.list (.int .i64)) .unit))]
    (zx2 rd25 (by kernel_rfl) (TI.of (dsc:=true) (size:=5) (bytes:=88) (z := .agg ⟨[.int .i64 0,.int .i64 0,.slice none 0 0,.slice none 0 0,.slice none 0 0]⟩) Try.underlying25 rfl (by kernel_rfl)) (zx2 rd27 (by kernel_rfl) (TI.of (dsc:=true) (size:=2) (bytes:=48) (z := .agg ⟨[.slice none 0 0,.slice none 0 0]⟩) Try.underlying27 rfl (by kernel_rfl)) rfl))
    hlaw
theorem over:Rows.synthAnswersRow.holds Try.pinned (OpenSpec.ofChange Rows.synthAnswersSpec):=
  OpenClaim.holds_of_wide 3 Try.f3 rfl rfl rfl rfl rfl rfl rfl ⟨rfl,rfl,rfl,rfl,rfl⟩ rfl rfl rfl rfl rfl (by kernel_rfl) Try.func3 (by kernel_rfl)
    (of_decide_eq_true (by kernel_rfl)) (by unfold Func.isWrapper;first | (rw [if_pos (by decide+kernel)];kernel_rfl) | (rw [if_neg (by decide+kernel)];exact ⟨rfl,rfl⟩))
    (fun os started H enc _=>lifted os started H enc)
/-- The statement. -/
theorem proved:Rows.SynthAnswersSaid:=over
end Go.Proofs.Ytiegbkgnhjncdaa.synthAnswersDone
