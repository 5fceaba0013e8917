/- 'GramBoth': the program's answer is the document's, for every input: no condition. -/
import Derived.Test.YtfboagjnknollaaGramBothC
import Derived.Test.YtfboagjnknollaaGramBothP
import Derived.Test.YtfboagjnknollaaRows
import Derived.WalkKit
import Derived.ProofKit
import Derived.OpenShut
import Derived.ShutString
import Derived.ChangeOld
import Derived.Below
set_option maxRecDepth 100000
set_option linter.unusedVariables false
set_option linter.unusedSimpArgs false
namespace Go.Proofs.Ytfboagjnknollaa.gramBothDone
open Go Go.Ab Go.Proofs Go.Proofs.Ytfboagjnknollaa Go.Proofs.Ytfboagjnknollaa.gramBothW
open Go.ChangeShapes Go.WideShapes Go.ChangeAt Go.RowKit
theorem own:ownKnob Try.prog.godebug=none:=by kernel_rfl
theorem laidOut:laidOutB Try.prog=true:=by kernel_rfl
theorem rd3:RDT Try.prog 3 (.int .i64):=zuc Try.underlying3
theorem rd26:RDT Try.prog 26 (.list (.int .i64)):=znD Try.underlying26 rd3 (by kernel_rfl) (by kernel_rfl) (by decide)
theorem rd25:RDT Try.prog 25 (.list (.list (.int .i64))):=znD Try.underlying25 rd26 (by kernel_rfl) (by kernel_rfl) (by decide)
theorem rd28:RDT Try.prog 28 (.pair (.int .i64) (.pair (.int .i64) (.pair (.list (.list (.int .i64))) (.pair (.list (.int .i64)) .unit)))):=zl1 Try.underlying28 (by kernel_rfl) ⟨_,rfl,rd3,by kernel_rfl,⟨_,rfl,rd3,by kernel_rfl,⟨_,rfl,rd25,by kernel_rfl,⟨_,rfl,rd26,by kernel_rfl,trivial⟩⟩⟩⟩
theorem rd39:RDT Try.prog 39 (.pair (.int .i64) (.pair (.list (.int .i64)) .unit)):=zl1 Try.underlying39 (by kernel_rfl) ⟨_,rfl,rd3,by kernel_rfl,⟨_,rfl,rd26,by kernel_rfl,trivial⟩⟩
theorem rd22:RDT Try.prog 22 (.list (.pair (.int .i64) (.pair (.list (.int .i64)) .unit))):=znD Try.underlying22 rd39 (by kernel_rfl) (by kernel_rfl) (by decide)
theorem rd24:RDT Try.prog 24 (.pair (.int .i64) (.pair (.int .i64) (.pair (.list (.pair (.int .i64) (.pair (.list (.int .i64)) .unit))) .unit))):=zl1 Try.underlying24 (by kernel_rfl) ⟨_,rfl,rd3,by kernel_rfl,⟨_,rfl,rd3,by kernel_rfl,⟨_,rfl,rd22,by kernel_rfl,trivial⟩⟩⟩
theorem hpn:hpSt ([]:List (Nat×Option EEnt)) ([]:List (Nat×Option RW))=Hp.nil:=by
  funext k
  show zay [] k=none
  unfold zay
  split<;>rfl
theorem hlaw:∀ dl,AllQ [QT (.pair (.int .i64) (.pair (.int .i64) (.pair (.list (.pair (.int .i64) (.pair (.list (.int .i64)) .unit))) .unit))),QT (.pair (.int .i64) (.pair (.int .i64) (.pair (.list (.list (.int .i64))) (.pair (.list (.int .i64)) .unit))))] dl->Fc Try.prog 3 (dl.map .d) Hp.nil (fun r _=>r = .d (.lit (.bool true))):=by
  intro dl h
  obtain _ | ⟨d0,dl⟩:=dl
  · exact h.elim
  obtain ⟨⟨a0,rfl,s0⟩,h⟩:=h
  obtain _ | ⟨d1,dl⟩:=dl
  · exact h.elim
  obtain ⟨⟨a1,rfl,s1⟩,h⟩:=h
  obtain rfl:dl=[]:=h
  have hc:=zlJ.fc (a0,a1) (true:Bool) (law_true a0 a1)
  rw [show hpSt (zeI.sig.heap (a0,a1)) (zeI.sig.rws (a0,a1))=Hp.nil from hpn] at hc
  refine Fc.mono hc ?_
  rintro r h ⟨rfl,_⟩
  rfl
theorem lifted (os:Os) (started:os.Started) (H:Type) (enc:TypeId×Value->H):
    ReturnsInHanded {} Try.checked os 3 .any (Rows.gramBothSpec.pre6 enc Try.prog Try.f3 Rows.gramBothRow.domain false) (Rows.gramBothSpec.post enc Try.prog Try.f3 false true false false):=
  zqe (s:=Rows.gramBothSpec) own started (by kernel_rfl) Try.func3
    (ChangeSpec.witness6 (enc:=enc) (C:=Try.checked) false ⟨#[],#[.agg ⟨[.int .i64 0,.int .i64 0,.slice none 0 0]⟩,.agg ⟨[.int .i64 0,.int .i64 0,.slice none 0 0,.slice none 0 0]⟩],[]⟩ 8 (by kernel_rfl) (by kernel_rfl) (by kernel_rfl) (by kernel_rfl))
    rfl laidOut (by kernel_rfl) rfl Try.underlying4
    (fun ds hl=>by
      obtain _ | ⟨d0,ds⟩:=ds
      · cases hl
      obtain _ | ⟨d1,ds⟩:=ds
      · cases hl
      obtain _ | ⟨d2,ds⟩:=ds
      · rfl
      · cases hl)
    [QT (.pair (.int .i64) (.pair (.int .i64) (.pair (.list (.pair (.int .i64) (.pair (.list (.int .i64)) .unit))) .unit))),QT (.pair (.int .i64) (.pair (.int .i64) (.pair (.list (.list (.int .i64))) (.pair (.list (.int .i64)) .unit))))]
    (zpP rd24 (by kernel_rfl) (TI.of (dsc:=true) (size:=3) (bytes:=40) (z := .agg ⟨[.int .i64 0,.int .i64 0,.slice none 0 0]⟩) Try.underlying24 rfl (by kernel_rfl)) (zpP rd28 (by kernel_rfl) (TI.of (dsc:=true) (size:=4) (bytes:=64) (z := .agg ⟨[.int .i64 0,.int .i64 0,.slice none 0 0,.slice none 0 0]⟩) Try.underlying28 rfl (by kernel_rfl)) rfl))
    hlaw
theorem over:Rows.gramBothRow.holds Try.pinned (OpenSpec.ofChange Rows.gramBothSpec):=
  OpenClaim.holds_of_wide 3 Try.f3 rfl rfl rfl rfl rfl rfl rfl ⟨rfl,rfl,rfl,rfl,rfl⟩ rfl rfl rfl rfl rfl (by kernel_rfl) Try.func3 (by kernel_rfl)
    (of_decide_eq_true (by kernel_rfl)) (by unfold Func.isWrapper;first | (rw [if_pos (by decide+kernel)];kernel_rfl) | (rw [if_neg (by decide+kernel)];exact ⟨rfl,rfl⟩))
    (fun os started H enc _=>lifted os started H enc)
/-- The statement. -/
theorem proved:Rows.GramBothSaid:=over
end Go.Proofs.Ytfboagjnknollaa.gramBothDone
