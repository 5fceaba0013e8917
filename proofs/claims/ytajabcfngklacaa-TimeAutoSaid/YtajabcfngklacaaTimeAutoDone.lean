import Derived.Test.YtajabcfngklacaaTimeAutoC
import Derived.Test.YtajabcfngklacaaTimeAutoQ
import Derived.Test.YtajabcfngklacaaRows
import Derived.WalkKit
import Derived.ProofKit
import Derived.OpenShut
import Derived.ShutString
import Derived.ChangeOld
import Derived.Below
set_option maxRecDepth 100000
set_option linter.unusedVariables false
namespace Go.Proofs.Ytajabcfngklacaa.timeAutoDone
open Go Go.Ab Go.Proofs Go.Proofs.Ytajabcfngklacaa Go.Proofs.Ytajabcfngklacaa.timeAutoW
open Go.ChangeShapes Go.WideShapes Go.ChangeAt Go.RowKit
theorem own:ownKnob Try.prog.godebug=none:=by kernel_rfl
theorem laidOut:laidOutB Try.prog=true:=by kernel_rfl
theorem rd3:RDT Try.prog 3 (.int .i64):=zFb Try.underlying3
theorem rd22:RDT Try.prog 22 (.list (.int .i64)):=zCF Try.underlying22 rd3 (by kernel_rfl) (by kernel_rfl) (by decide)
theorem rd24:RDT Try.prog 24 (.pair (.list (.int .i64)) (.pair (.list (.int .i64)) .unit)):=zBG Try.underlying24 (by kernel_rfl) ⟨_,rfl,rd22,by kernel_rfl,⟨_,rfl,rd22,by kernel_rfl,trivial⟩⟩
theorem rd9:RDT Try.prog 9 .str:=zFc Try.underlying9
theorem hpn:hpSt ([]:List (Nat×Option EEnt)) ([]:List (Nat×Option RW))=Hp.nil:=by
  funext k
  show zbi [] k=none
  unfold zbi
  split<;>rfl
theorem hlaw:∀ dl,AllQ [QT .str,QT (.pair (.list (.int .i64)) (.pair (.list (.int .i64)) .unit))] dl->Fc Try.prog 3 (dl.map .d) Hp.nil (fun r _=>r = .d (.lit (.bool true))):=by
  intro dl h
  obtain _ | ⟨d0,dl⟩:=dl
  · exact h.elim
  obtain ⟨⟨a0,rfl,s0⟩,h⟩:=h
  obtain _ | ⟨d1,dl⟩:=dl
  · exact h.elim
  obtain ⟨⟨a1,rfl,s1⟩,h⟩:=h
  obtain rfl:dl=[]:=h
  have hc:=ztY.fc (a0,a1) (true:Bool) (law_true a0 a1)
  rw [show hpSt (zkS.sig.heap (a0,a1)) (zkS.sig.rws (a0,a1))=Hp.nil from hpn] at hc
  refine Fc.mono hc ?_
  rintro r h ⟨rfl,_⟩
  rfl
theorem lifted (os:Os) (started:os.Started) (H:Type) (enc:TypeId×Value->H):
    ReturnsInHanded {} Try.checked os 3 .any (Rows.timeAutoSpec.pre6 enc Try.prog Try.f3 Rows.timeAutoRow.domain false) (Rows.timeAutoSpec.post enc Try.prog Try.f3 false true false false):=
  zzW (s:=Rows.timeAutoSpec) own started (by kernel_rfl) Try.func3
    (ChangeSpec.witness6 (enc:=enc) (C:=Try.checked) false ⟨#[],#[.string ⟨⟨[]⟩⟩,.agg ⟨[.slice none 0 0,.slice none 0 0]⟩],[]⟩ 8 (by kernel_rfl) (by kernel_rfl) (by kernel_rfl) (by kernel_rfl))
    rfl laidOut (by kernel_rfl) rfl Try.underlying4
    (fun ds hl=>by
      obtain _ | ⟨d0,ds⟩:=ds
      · cases hl
      obtain _ | ⟨d1,ds⟩:=ds
      · cases hl
      obtain _ | ⟨d2,ds⟩:=ds
      · rfl
      · cases hl)
    [QT .str,QT (.pair (.list (.int .i64)) (.pair (.list (.int .i64)) .unit))]
    (zzm rd9 (by kernel_rfl) (TI.of (dsc:=false) (size:=1) (bytes:=16) (z := .string ⟨⟨[]⟩⟩) Try.underlying9 rfl (by kernel_rfl)) (zzm rd24 (by kernel_rfl) (TI.of (dsc:=true) (size:=2) (bytes:=48) (z := .agg ⟨[.slice none 0 0,.slice none 0 0]⟩) Try.underlying24 rfl (by kernel_rfl)) rfl))
    hlaw
theorem over:Rows.timeAutoRow.holds Try.pinned (OpenSpec.ofChange Rows.timeAutoSpec):=
  OpenClaim.holds_of_wide 3 Try.f3 rfl rfl rfl rfl rfl rfl rfl ⟨rfl,rfl,rfl,rfl,rfl⟩ rfl rfl rfl rfl rfl (by kernel_rfl) Try.func3 (by kernel_rfl)
    (of_decide_eq_true (by kernel_rfl)) (by unfold Func.isWrapper;first | (rw [if_pos (by decide+kernel)];kernel_rfl) | (rw [if_neg (by decide+kernel)];exact ⟨rfl,rfl⟩))
    (fun os started H enc _=>lifted os started H enc)
/-- The statement. -/
theorem proved:Rows.TimeAutoSaid:=over
end Go.Proofs.Ytajabcfngklacaa.timeAutoDone
