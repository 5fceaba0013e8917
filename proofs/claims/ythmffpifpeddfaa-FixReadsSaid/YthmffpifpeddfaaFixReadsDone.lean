import Derived.Test.YthmffpifpeddfaaFixReadsC
import Derived.Test.YthmffpifpeddfaaFixReadsP
import Derived.Test.YthmffpifpeddfaaRows
import Derived.WalkKit
import Derived.ProofKit
import Derived.OpenShut
import Derived.ShutString
import Derived.ChangeOld
import Derived.Below
set_option maxRecDepth 100000
set_option linter.unusedVariables false
namespace Go.Proofs.Ythmffpifpeddfaa.fixReadsDone
open Go Go.Ab Go.Proofs Go.Proofs.Ythmffpifpeddfaa Go.Proofs.Ythmffpifpeddfaa.fixReadsW
open Go.ChangeShapes Go.WideShapes Go.ChangeAt Go.RowKit
theorem own:ownKnob Try.prog.godebug=none:=by kernel_rfl
theorem laidOut:laidOutB Try.prog=true:=by kernel_rfl
theorem rd9:RDT Try.prog 9 .str:=zsd Try.underlying9
theorem hpn:hpSt ([]:List (Nat×Option EEnt)) ([]:List (Nat×Option RW))=Hp.nil:=by
  funext k
  show zaw [] k=none
  unfold zaw
  split<;>rfl
theorem hlaw:∀ dl,AllQ [QT .str] dl->Fc Try.prog 3 (dl.map .d) Hp.nil (fun r _=>r = .d (.lit (.bool true))):=by
  intro dl h
  obtain _ | ⟨d0,dl⟩:=dl
  · exact h.elim
  obtain ⟨⟨a0,rfl,s0⟩,h⟩:=h
  obtain rfl:dl=[]:=h
  have hc:=zjE.fc a0 (true:Bool) (law_true a0)
  rw [show hpSt (zed.sig.heap a0) (zed.sig.rws a0)=Hp.nil from hpn] at hc
  refine Fc.mono hc ?_
  rintro r h ⟨rfl,_⟩
  rfl
theorem lifted (os:Os) (started:os.Started) (H:Type) (enc:TypeId×Value->H):
    ReturnsInHanded {} Try.checked os 3 .any (Rows.fixReadsSpec.pre6 enc Try.prog Try.f3 Rows.fixReadsRow.domain false) (Rows.fixReadsSpec.post enc Try.prog Try.f3 false true false false):=
  zn8 (s:=Rows.fixReadsSpec) own started (by kernel_rfl) Try.func3
    (ChangeSpec.witness6 (enc:=enc) (C:=Try.checked) false ⟨#[],#[.string ⟨⟨[]⟩⟩],[]⟩ 8 (by kernel_rfl) (by kernel_rfl) (by kernel_rfl) (by kernel_rfl))
    rfl laidOut (by kernel_rfl) rfl Try.underlying4
    (fun ds hl=>by
      obtain _ | ⟨d0,ds⟩:=ds
      · cases hl
      obtain _ | ⟨d1,ds⟩:=ds
      · rfl
      · cases hl)
    [QT .str]
    (zqo rd9 (by kernel_rfl) (TI.of (dsc:=false) (size:=1) (bytes:=16) (z := .string ⟨⟨[]⟩⟩) Try.underlying9 rfl (by kernel_rfl)) rfl)
    hlaw
theorem over:Rows.fixReadsRow.holds Try.pinned (OpenSpec.ofChange Rows.fixReadsSpec):=
  OpenClaim.holds_of_wide 3 Try.f3 rfl rfl rfl rfl rfl rfl rfl ⟨rfl,rfl,rfl,rfl,rfl⟩ rfl rfl rfl rfl rfl (by kernel_rfl) Try.func3 (by kernel_rfl)
    (of_decide_eq_true (by kernel_rfl)) (by unfold Func.isWrapper;first | (rw [if_pos (by decide+kernel)];kernel_rfl) | (rw [if_neg (by decide+kernel)];exact ⟨rfl,rfl⟩))
    (fun os started H enc _=>lifted os started H enc)
/-- The statement. -/
theorem proved:Rows.FixReadsSaid:=over
end Go.Proofs.Ythmffpifpeddfaa.fixReadsDone
