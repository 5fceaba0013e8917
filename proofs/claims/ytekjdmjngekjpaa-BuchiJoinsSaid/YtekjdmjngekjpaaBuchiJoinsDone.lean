/- 'BuchiJoins': the program's answer is the document's, for every input: no condition. -/
import Derived.Test.YtekjdmjngekjpaaBuchiJoinsC
import Derived.Test.YtekjdmjngekjpaaBuchiJoinsP
import Derived.Test.YtekjdmjngekjpaaRows
import Derived.WalkKit
import Derived.ProofKit
import Derived.OpenShut
import Derived.ShutString
import Derived.ChangeOld
import Derived.Below
set_option maxRecDepth 100000
set_option linter.unusedVariables false
set_option linter.unusedSimpArgs false
namespace Go.Proofs.Ytekjdmjngekjpaa.buchiJoinsDone
open Go Go.Ab Go.Proofs Go.Proofs.Ytekjdmjngekjpaa Go.Proofs.Ytekjdmjngekjpaa.buchiJoinsW
open Go.ChangeShapes Go.WideShapes Go.ChangeAt Go.RowKit
theorem own:ownKnob Try.prog.godebug=none:=by kernel_rfl
theorem laidOut:laidOutB Try.prog=true:=by kernel_rfl
theorem rd3:RDT Try.prog 3 (.int .i64):=zEy Try.underlying3
theorem rd22:RDT Try.prog 22 (.list (.int .i64)):=zzF Try.underlying22 rd3 (by kernel_rfl) (by kernel_rfl) (by decide)
theorem rd27:RDT Try.prog 27 (.pair (.list (.int .i64)) (.pair (.list (.int .i64)) .unit)):=zuS Try.underlying27 (by kernel_rfl) ⟨_,rfl,rd22,by kernel_rfl,⟨_,rfl,rd22,by kernel_rfl,trivial⟩⟩
theorem rd42:RDT Try.prog 42 (.pair (.int .i64) (.pair (.int .i64) (.pair (.int .i64) .unit))):=zuS Try.underlying42 (by kernel_rfl) ⟨_,rfl,rd3,by kernel_rfl,⟨_,rfl,rd3,by kernel_rfl,⟨_,rfl,rd3,by kernel_rfl,trivial⟩⟩⟩
theorem rd23:RDT Try.prog 23 (.list (.pair (.int .i64) (.pair (.int .i64) (.pair (.int .i64) .unit)))):=zzF Try.underlying23 rd42 (by kernel_rfl) (by kernel_rfl) (by decide)
theorem rd25:RDT Try.prog 25 (.pair (.int .i64) (.pair (.int .i64) (.pair (.list (.int .i64)) (.pair (.list (.pair (.int .i64) (.pair (.int .i64) (.pair (.int .i64) .unit)))) (.pair (.list (.int .i64)) .unit))))):=zuS Try.underlying25 (by kernel_rfl) ⟨_,rfl,rd3,by kernel_rfl,⟨_,rfl,rd3,by kernel_rfl,⟨_,rfl,rd22,by kernel_rfl,⟨_,rfl,rd23,by kernel_rfl,⟨_,rfl,rd22,by kernel_rfl,trivial⟩⟩⟩⟩⟩
theorem hpn:hpSt ([]:List (Nat×Option EEnt)) ([]:List (Nat×Option RW))=Hp.nil:=by
  funext k
  show zcA [] k=none
  unfold zcA
  split<;>rfl
theorem hlaw:∀ dl,AllQ [QT (.pair (.int .i64) (.pair (.int .i64) (.pair (.list (.int .i64)) (.pair (.list (.pair (.int .i64) (.pair (.int .i64) (.pair (.int .i64) .unit)))) (.pair (.list (.int .i64)) .unit))))),QT (.pair (.int .i64) (.pair (.int .i64) (.pair (.list (.int .i64)) (.pair (.list (.pair (.int .i64) (.pair (.int .i64) (.pair (.int .i64) .unit)))) (.pair (.list (.int .i64)) .unit))))),QT (.pair (.list (.int .i64)) (.pair (.list (.int .i64)) .unit))] dl->Fc Try.prog 3 (dl.map .d) Hp.nil (fun r _=>r = .d (.lit (.bool true))):=by
  intro dl h
  obtain _ | ⟨d0,dl⟩:=dl
  · exact h.elim
  obtain ⟨⟨a0,rfl,s0⟩,h⟩:=h
  obtain _ | ⟨d1,dl⟩:=dl
  · exact h.elim
  obtain ⟨⟨a1,rfl,s1⟩,h⟩:=h
  obtain _ | ⟨d2,dl⟩:=dl
  · exact h.elim
  obtain ⟨⟨a2,rfl,s2⟩,h⟩:=h
  obtain rfl:dl=[]:=h
  have hc:=zsc.fc (a0,a1,a2) (true:Bool) (law_true a0 a1 a2 s0 s1 s2)
  rw [show hpSt (zkh.sig.heap (a0,a1,a2)) (zkh.sig.rws (a0,a1,a2))=Hp.nil from hpn] at hc
  intro w X H vs h1 h2 h3 h4 h5
  refine (hc w X H vs h1 h2 h3 h4 h5).mono ?_
  rintro e w' ⟨v,r,h',H',ha,⟨rfl,_⟩,hb⟩
  exact ⟨v,_,h',H',ha,rfl,hb⟩
theorem lifted (os:Os) (started:os.Started) (H:Type) (enc:TypeId×Value->H):
    ReturnsInHanded {} Try.checked os 3 .any (Rows.buchiJoinsSpec.pre6 enc Try.prog Try.f3 Rows.buchiJoinsRow.domain false) (Rows.buchiJoinsSpec.post enc Try.prog Try.f3 false true false false):=
  zAc (s:=Rows.buchiJoinsSpec) own started (by kernel_rfl) Try.func3
    (ChangeSpec.witness6 (enc:=enc) (C:=Try.checked) false ⟨#[],#[.agg ⟨[.int .i64 0,.int .i64 0,.slice none 0 0,.slice none 0 0,.slice none 0 0]⟩,.agg ⟨[.int .i64 0,.int .i64 0,.slice none 0 0,.slice none 0 0,.slice none 0 0]⟩,.agg ⟨[.slice none 0 0,.slice none 0 0]⟩],[]⟩ 8 (by kernel_rfl) (by kernel_rfl) (by kernel_rfl) (by kernel_rfl))
    rfl laidOut (by kernel_rfl) rfl Try.underlying4
    (fun ds hl=>by
      obtain _ | ⟨d0,ds⟩:=ds
      · cases hl
      obtain _ | ⟨d1,ds⟩:=ds
      · cases hl
      obtain _ | ⟨d2,ds⟩:=ds
      · cases hl
      obtain _ | ⟨d3,ds⟩:=ds
      · rfl
      · cases hl)
    [QT (.pair (.int .i64) (.pair (.int .i64) (.pair (.list (.int .i64)) (.pair (.list (.pair (.int .i64) (.pair (.int .i64) (.pair (.int .i64) .unit)))) (.pair (.list (.int .i64)) .unit))))),QT (.pair (.int .i64) (.pair (.int .i64) (.pair (.list (.int .i64)) (.pair (.list (.pair (.int .i64) (.pair (.int .i64) (.pair (.int .i64) .unit)))) (.pair (.list (.int .i64)) .unit))))),QT (.pair (.list (.int .i64)) (.pair (.list (.int .i64)) .unit))]
    (zw3 rd25 (by kernel_rfl) (TI.of (dsc:=true) (size:=5) (bytes:=88) (z := .agg ⟨[.int .i64 0,.int .i64 0,.slice none 0 0,.slice none 0 0,.slice none 0 0]⟩) Try.underlying25 rfl (by kernel_rfl)) (zw3 rd25 (by kernel_rfl) (TI.of (dsc:=true) (size:=5) (bytes:=88) (z := .agg ⟨[.int .i64 0,.int .i64 0,.slice none 0 0,.slice none 0 0,.slice none 0 0]⟩) Try.underlying25 rfl (by kernel_rfl)) (zw3 rd27 (by kernel_rfl) (TI.of (dsc:=true) (size:=2) (bytes:=48) (z := .agg ⟨[.slice none 0 0,.slice none 0 0]⟩) Try.underlying27 rfl (by kernel_rfl)) rfl)))
    hlaw
theorem over:Rows.buchiJoinsRow.holds Try.pinned (OpenSpec.ofChange Rows.buchiJoinsSpec):=
  OpenClaim.holds_of_wide 3 Try.f3 rfl rfl rfl rfl rfl rfl rfl ⟨rfl,rfl,rfl,rfl,rfl⟩ rfl rfl rfl rfl rfl (by kernel_rfl) Try.func3 (by kernel_rfl)
    (of_decide_eq_true (by kernel_rfl)) (by unfold Func.isWrapper;first | (rw [if_pos (by decide+kernel)];kernel_rfl) | (rw [if_neg (by decide+kernel)];exact ⟨rfl,rfl⟩))
    (fun os started H enc _=>lifted os started H enc)
/-- The statement. -/
theorem proved:Rows.BuchiJoinsSaid:=over
end Go.Proofs.Ytekjdmjngekjpaa.buchiJoinsDone
