/- That the functions of 'TransDiffers' compute so. -/
import Derived.Test.YtgjkbjbknnlnpaaTransDiffersD
import Derived.Test.YtgjkbjbknnlnpaaProg
import Derived.KernelRfl
set_option maxHeartbeats 1000000
set_option maxRecDepth 20000
set_option linter.unusedSimpArgs false
set_option linter.unusedVariables false
set_option linter.unusedSectionVars false
namespace Go.Proofs.Ytgjkbjbknnlnpaa.transDiffersW
open Go Go.Ab
theorem te3_sz : SzT Try.prog 3 ((.int .i64)) := SzT.ofTI (dsc := false) (size := 1) (bytes := 8) (z := .int .i64 0) (TI.of Try.underlying3 rfl (by kernel_rfl)) rfl rfl
theorem te42_sz : SzT Try.prog 42 ((.pair (.int .i64) (.pair (.int .i64) .unit))) := SzT.ofTI (dsc := true) (size := 2) (bytes := 16) (z := .agg ⟨[.int .i64 0, .int .i64 0]⟩) (TI.of Try.underlying42 rfl (by kernel_rfl)) rfl rfl
def te3 : TE := ⟨3, .int .i64, false, 1, 8, .int .i64 0, some (.int .i64)⟩
theorem te3_ok : TEok Try.prog te3 := ⟨TI.of Try.underlying3 rfl (by kernel_rfl), Try.underlying3, fun t h => by cases h; exact ⟨rfl, rfl, by decide, rfl⟩⟩
def te4 : TE := ⟨4, .bool, false, 1, 1, .bool false, some .bool⟩
theorem te4_ok : TEok Try.prog te4 := ⟨TI.of Try.underlying4 rfl (by kernel_rfl), Try.underlying4, fun t h => by cases h; exact ⟨rfl, rfl, by decide, rfl⟩⟩
def te22 : TE := ⟨22, .slice 3, false, 1, 24, .slice none 0 0, some (.list (.int .i64))⟩
theorem te22_ok : TEok Try.prog te22 := ⟨TI.of Try.underlying22 rfl (by kernel_rfl), Try.underlying22, fun t h => by cases h; exact ⟨rfl, rfl, by decide, rfl⟩⟩
def te23 : TE := ⟨23, .slice 22, false, 1, 24, .slice none 0 0, some (.list (.list (.int .i64)))⟩
theorem te23_ok : TEok Try.prog te23 := ⟨TI.of Try.underlying23 rfl (by kernel_rfl), Try.underlying23, fun t h => by cases h; exact ⟨rfl, rfl, by decide, rfl⟩⟩
def te24 : TE := ⟨24, .slice 23, false, 1, 24, .slice none 0 0, some (.list (.list (.list (.int .i64))))⟩
theorem te24_ok : TEok Try.prog te24 := ⟨TI.of Try.underlying24 rfl (by kernel_rfl), Try.underlying24, fun t h => by cases h; exact ⟨rfl, rfl, by decide, rfl⟩⟩
def te26 : TE := ⟨26, .struct [(0, 3), (1, 3), (2, 3), (3, 22), (4, 23), (5, 24), (6, 23)] none, true, 7, 120, .agg ⟨[.int .i64 0, .int .i64 0, .int .i64 0, .slice none 0 0, .slice none 0 0, .slice none 0 0, .slice none 0 0]⟩, some (.pair (.int .i64) (.pair (.int .i64) (.pair (.int .i64) (.pair (.list (.int .i64)) (.pair (.list (.list (.int .i64))) (.pair (.list (.list (.list (.int .i64)))) (.pair (.list (.list (.int .i64))) .unit)))))))⟩
theorem te26_ok : TEok Try.prog te26 := ⟨TI.of Try.underlying26 rfl (by kernel_rfl), ⟨⟨_, Try.underlying26, rfl⟩, fun t h => by cases h⟩, fun t h => by cases h; exact ⟨rfl, rfl, by decide, rfl⟩⟩
def te27 : TE := ⟨27, .int .i64, false, 1, 8, .int .i64 0, some (.int .i64)⟩
theorem te27_ok : TEok Try.prog te27 := ⟨TI.of Try.underlying27 rfl (by kernel_rfl), Try.underlying27, fun t h => by cases h; exact ⟨rfl, rfl, by decide, rfl⟩⟩
def te37 : TE := ⟨37, .slice 26, false, 1, 24, .slice none 0 0, some (.list (.pair (.int .i64) (.pair (.int .i64) (.pair (.int .i64) (.pair (.list (.int .i64)) (.pair (.list (.list (.int .i64))) (.pair (.list (.list (.list (.int .i64)))) (.pair (.list (.list (.int .i64))) .unit))))))))⟩
theorem te37_ok : TEok Try.prog te37 := ⟨TI.of Try.underlying37 rfl (by kernel_rfl), Try.underlying37, fun t h => by cases h; exact ⟨rfl, rfl, by decide, rfl⟩⟩
def te42 : TE := ⟨42, .array 2 3, true, 2, 16, .agg ⟨[.int .i64 0, .int .i64 0]⟩, some (.pair (.int .i64) (.pair (.int .i64) .unit))⟩
theorem te42_ok : TEok Try.prog te42 := ⟨TI.of Try.underlying42 rfl (by kernel_rfl), Try.underlying42, fun t h => by cases h; exact ⟨rfl, rfl, by decide, rfl⟩⟩
def te47 : TE := ⟨47, .slice 4, false, 1, 24, .slice none 0 0, some (.list .bool)⟩
theorem te47_ok : TEok Try.prog te47 := ⟨TI.of Try.underlying47 rfl (by kernel_rfl), Try.underlying47, fun t h => by cases h; exact ⟨rfl, rfl, by decide, rfl⟩⟩
def te49 : TE := ⟨49, .other, false, 1, 8, .nilFunc, none⟩
theorem te49_ok : TEok Try.prog te49 := ⟨TI.of Try.underlying49 rfl (by kernel_rfl), trivial, fun t h => by cases h⟩
def te38 : TE := ⟨38, .map 42 3 ((.pair (.int .i64) (.pair (.int .i64) .unit))), false, 1, 8, .map none, none⟩
theorem te38_ok : TEok Try.prog te38 := ⟨TI.of Try.underlying38 rfl (by kernel_rfl), ⟨Try.underlying38, SK.ofKey (d := 16) (KeyT.array te42_sz Try.underlying42 (KeyT.int te3_sz Try.underlying3) rfl) (by decide) rfl rfl⟩, fun t h => by cases h⟩
def TT : List TE := [te3, te4, te22, te23, te24, te26, te27, te37, te42, te47, te49, te38]
theorem TT_ok : TOK Try.prog TT := TOK.cons te3_ok (TOK.cons te4_ok (TOK.cons te22_ok (TOK.cons te23_ok (TOK.cons te24_ok (TOK.cons te26_ok (TOK.cons te27_ok (TOK.cons te37_ok (TOK.cons te42_ok (TOK.cons te47_ok (TOK.cons te49_ok (TOK.cons te38_ok (TOK.nil))))))))))))

def trans_Check_1_sig : Shape := ⟨[(.int .i64), (.int .i64)], [(0, .v 0), (1, .addr 1)], []⟩
def trans_Check_1_out : Shape := ⟨[.bool], [(0, .v 0)], []⟩
noncomputable def trans_Check_1_ce : CE := ⟨19, trans_Check_1_sig, trans_Check_1_out, fun X => trans_Check_1 X.1 X.2⟩
theorem trans_Check_1_ok : CE.ok Try.prog trans_Check_1_ce := CE.of (Γ := []) (by kernel_rfl) TT_ok (GOK.nil) ⟨[], [], [], []⟩ Try.func19 rfl Try.ntmps19 (rs := [.tmp 3]) rfl (sig := trans_Check_1_sig) (out := trans_Check_1_out) rfl Try.call19 (fun X => by kernel_rfl)

def slices_IndexFunc_1_sig : Shape := ⟨[(.list (.int .i64)), (.int .i64)], [(0, .v 0), (1, .fn 19 [.addr 1])], []⟩
def slices_IndexFunc_1_out : Shape := ⟨[(.int .i64)], [(0, .v 0)], []⟩
noncomputable def slices_IndexFunc_1_ce : CE := ⟨28, slices_IndexFunc_1_sig, slices_IndexFunc_1_out, fun X => slices_IndexFunc_1 X.1 X.2⟩
theorem slices_IndexFunc_1_ok : CE.ok Try.prog slices_IndexFunc_1_ce := CE.of (Γ := [trans_Check_1_ce]) (by kernel_rfl) TT_ok (GOK.cons trans_Check_1_ok (GOK.nil)) ⟨[(2, ⟨⟨[(.int .i64)], [(8, .v 0)], []⟩, [4, 5, 9, 10, 11, 12, 13, 14, 15, 16, 17, 18], [], [], 0, []⟩)], [], [], []⟩ Try.func28 rfl Try.ntmps28 (rs := [.tmp 4]) rfl (sig := slices_IndexFunc_1_sig) (out := slices_IndexFunc_1_out) rfl Try.call28 (fun X => by kernel_rfl)

def slices_ContainsFunc_1_sig : Shape := ⟨[(.list (.int .i64)), (.int .i64)], [(0, .v 0), (1, .fn 19 [.addr 1])], []⟩
def slices_ContainsFunc_1_out : Shape := ⟨[.bool], [(0, .v 0)], []⟩
noncomputable def slices_ContainsFunc_1_ce : CE := ⟨22, slices_ContainsFunc_1_sig, slices_ContainsFunc_1_out, fun X => slices_ContainsFunc_1 X.1 X.2⟩
theorem slices_ContainsFunc_1_ok : CE.ok Try.prog slices_ContainsFunc_1_ce := CE.of (Γ := [slices_IndexFunc_1_ce]) (by kernel_rfl) TT_ok (GOK.cons slices_IndexFunc_1_ok (GOK.nil)) ⟨[], [], [], []⟩ Try.func22 rfl Try.ntmps22 (rs := [.tmp 4]) rfl (sig := slices_ContainsFunc_1_sig) (out := slices_ContainsFunc_1_out) rfl Try.call22 (fun X => by kernel_rfl)

def trans_Check_2_sig : Shape := ⟨[(.list (.int .i64)), (.int .i64)], [(0, .v 0), (1, .ptr 100000 0)], [(100000, .box 49 [.fn 19 [.addr 1]])]⟩
def trans_Check_2_out : Shape := ⟨[.bool, (.int .i64)], [(0, .v 0)], [(100000, .box 49 [.fn 19 [.addr 1]])]⟩
noncomputable def trans_Check_2_ce : CE := ⟨21, trans_Check_2_sig, trans_Check_2_out, fun X => trans_Check_2 X.1 X.2⟩
theorem trans_Check_2_ok : CE.ok Try.prog trans_Check_2_ce := CE.of (Γ := [slices_ContainsFunc_1_ce]) (by kernel_rfl) TT_ok (GOK.cons slices_ContainsFunc_1_ok (GOK.nil)) ⟨[], [], [], []⟩ Try.func21 rfl Try.ntmps21 (rs := [.tmp 3]) rfl (sig := trans_Check_2_sig) (out := trans_Check_2_out) rfl Try.call21 (fun X => by kernel_rfl)

def slices_IndexFunc_sig : Shape := ⟨[(.list (.list (.int .i64))), (.int .i64)], [(0, .v 0), (1, .fn 21 [.ptr 100000 0])], [(100000, .box 49 [.fn 19 [.addr 1]])]⟩
def slices_IndexFunc_out : Shape := ⟨[(.int .i64), (.int .i64)], [(0, .v 0)], [(100000, .box 49 [.fn 19 [.addr 1]])]⟩
noncomputable def slices_IndexFunc_ce : CE := ⟨27, slices_IndexFunc_sig, slices_IndexFunc_out, fun X => slices_IndexFunc X.1 X.2⟩
theorem slices_IndexFunc_ok : CE.ok Try.prog slices_IndexFunc_ce := CE.of (Γ := [trans_Check_2_ce]) (by kernel_rfl) TT_ok (GOK.cons trans_Check_2_ok (GOK.nil)) ⟨[(2, ⟨⟨[(.int .i64), (.int .i64)], [(1, .fn 21 [.ptr 100000 0]), (8, .v 0)], [(100000, .box 49 [.fn 19 [.addr 1]])]⟩, [4, 5, 9, 10, 11, 12, 13, 14, 15, 16, 17, 18], [], [], 0, []⟩)], [], [], []⟩ Try.func27 rfl Try.ntmps27 (rs := [.tmp 4]) rfl (sig := slices_IndexFunc_sig) (out := slices_IndexFunc_out) rfl Try.call27 (fun X => by kernel_rfl)

def slices_ContainsFunc_sig : Shape := ⟨[(.list (.list (.int .i64))), (.int .i64)], [(0, .v 0), (1, .fn 21 [.ptr 100000 0])], [(100000, .box 49 [.fn 19 [.addr 1]])]⟩
def slices_ContainsFunc_out : Shape := ⟨[.bool, (.int .i64)], [(0, .v 0)], [(100000, .box 49 [.fn 19 [.addr 1]])]⟩
noncomputable def slices_ContainsFunc_ce : CE := ⟨20, slices_ContainsFunc_sig, slices_ContainsFunc_out, fun X => slices_ContainsFunc X.1 X.2⟩
theorem slices_ContainsFunc_ok : CE.ok Try.prog slices_ContainsFunc_ce := CE.of (Γ := [slices_IndexFunc_ce]) (by kernel_rfl) TT_ok (GOK.cons slices_IndexFunc_ok (GOK.nil)) ⟨[], [], [], []⟩ Try.func20 rfl Try.ntmps20 (rs := [.tmp 4]) rfl (sig := slices_ContainsFunc_sig) (out := slices_ContainsFunc_out) rfl Try.call20 (fun X => by kernel_rfl)

def trans_said_sig : Shape := ⟨[(.pair (.int .i64) (.pair (.int .i64) (.pair (.int .i64) (.pair (.list (.int .i64)) (.pair (.list (.list (.int .i64))) (.pair (.list (.list (.list (.int .i64)))) (.pair (.list (.list (.int .i64))) .unit)))))))], [(0, .v 0)], []⟩
def trans_said_out : Shape := ⟨[(.list (.list (.int .i64)))], [(0, .own 0)], [(0, .arr 22 0)]⟩
noncomputable def trans_said_ce : CE := ⟨24, trans_said_sig, trans_said_out, fun X => trans_said X⟩
theorem trans_said_ok : CE.ok Try.prog trans_said_ce := CE.of (Γ := []) (by kernel_rfl) TT_ok (GOK.nil) ⟨[(3, ⟨⟨[(.int .i64), (.list (.list (.int .i64)))], [(3, .own 2), (15, .v 0)], [(2, .arr 22 1)]⟩, [5, 8, 11, 16, 17, 18, 19, 20, 21, 22], [], [0], 3, []⟩)], [], [], []⟩ Try.func24 rfl Try.ntmps24 (rs := [.tmp 2]) rfl (sig := trans_said_sig) (out := trans_said_out) rfl Try.call24 (fun X => by kernel_rfl)

def trans_long_1_sig : Shape := ⟨[(.list (.int .i64))], [(0, .v 0)], []⟩
def trans_long_1_out : Shape := ⟨[.bool], [(0, .v 0)], []⟩
noncomputable def trans_long_1_ce : CE := ⟨29, trans_long_1_sig, trans_long_1_out, fun X => trans_long_1 X⟩
theorem trans_long_1_ok : CE.ok Try.prog trans_long_1_ce := CE.of (Γ := []) (by kernel_rfl) TT_ok (GOK.nil) ⟨[], [], [], []⟩ Try.func29 rfl Try.ntmps29 (rs := [.tmp 2]) rfl (sig := trans_long_1_sig) (out := trans_long_1_out) rfl Try.call29 (fun X => by kernel_rfl)

def slices_IndexFunc_2_sig : Shape := ⟨[(.list (.list (.int .i64)))], [(0, .v 0), (1, .fn 29 [])], []⟩
def slices_IndexFunc_2_out : Shape := ⟨[(.int .i64)], [(0, .v 0)], []⟩
noncomputable def slices_IndexFunc_2_ce : CE := ⟨27, slices_IndexFunc_2_sig, slices_IndexFunc_2_out, fun X => slices_IndexFunc_2 X⟩
theorem slices_IndexFunc_2_ok : CE.ok Try.prog slices_IndexFunc_2_ce := CE.of (Γ := [trans_long_1_ce]) (by kernel_rfl) TT_ok (GOK.cons trans_long_1_ok (GOK.nil)) ⟨[(2, ⟨⟨[(.int .i64)], [(8, .v 0)], []⟩, [4, 5, 9, 10, 11, 12, 13, 14, 15, 16, 17, 18], [], [], 0, []⟩)], [], [], []⟩ Try.func27 rfl Try.ntmps27 (rs := [.tmp 4]) rfl (sig := slices_IndexFunc_2_sig) (out := slices_IndexFunc_2_out) rfl Try.call27 (fun X => by kernel_rfl)

def slices_ContainsFunc_2_sig : Shape := ⟨[(.list (.list (.int .i64)))], [(0, .v 0), (1, .fn 29 [])], []⟩
def slices_ContainsFunc_2_out : Shape := ⟨[.bool], [(0, .v 0)], []⟩
noncomputable def slices_ContainsFunc_2_ce : CE := ⟨20, slices_ContainsFunc_2_sig, slices_ContainsFunc_2_out, fun X => slices_ContainsFunc_2 X⟩
theorem slices_ContainsFunc_2_ok : CE.ok Try.prog slices_ContainsFunc_2_ce := CE.of (Γ := [slices_IndexFunc_2_ce]) (by kernel_rfl) TT_ok (GOK.cons slices_IndexFunc_2_ok (GOK.nil)) ⟨[], [], [], []⟩ Try.func20 rfl Try.ntmps20 (rs := [.tmp 4]) rfl (sig := slices_ContainsFunc_2_sig) (out := slices_ContainsFunc_2_out) rfl Try.call20 (fun X => by kernel_rfl)

def trans_long_sig : Shape := ⟨[(.pair (.int .i64) (.pair (.int .i64) (.pair (.int .i64) (.pair (.list (.int .i64)) (.pair (.list (.list (.int .i64))) (.pair (.list (.list (.list (.int .i64)))) (.pair (.list (.list (.int .i64))) .unit)))))))], [(0, .v 0)], []⟩
def trans_long_out : Shape := ⟨[.bool], [(0, .v 0)], []⟩
noncomputable def trans_long_ce : CE := ⟨23, trans_long_sig, trans_long_out, fun X => trans_long X⟩
theorem trans_long_ok : CE.ok Try.prog trans_long_ce := CE.of (Γ := [trans_said_ce, slices_ContainsFunc_2_ce]) (by kernel_rfl) TT_ok (GOK.cons trans_said_ok (GOK.cons slices_ContainsFunc_2_ok (GOK.nil))) ⟨[], [], [], []⟩ Try.func23 rfl Try.ntmps23 (rs := [.tmp 2]) rfl (sig := trans_long_sig) (out := trans_long_out) rfl Try.call23 (fun X => by kernel_rfl)

def trans_Check_3_sig : Shape := ⟨[(.int .i64), (.pair (.int .i64) (.pair (.int .i64) (.pair (.int .i64) (.pair (.list (.int .i64)) (.pair (.list (.list (.int .i64))) (.pair (.list (.list (.list (.int .i64)))) (.pair (.list (.list (.int .i64))) .unit)))))))], [(0, .v 0), (1, .addr 1)], []⟩
def trans_Check_3_out : Shape := ⟨[.bool], [(0, .v 0)], []⟩
noncomputable def trans_Check_3_ce : CE := ⟨25, trans_Check_3_sig, trans_Check_3_out, fun X => trans_Check_3 X.1 X.2⟩
theorem trans_Check_3_ok : CE.ok Try.prog trans_Check_3_ce := CE.of (Γ := []) (by kernel_rfl) TT_ok (GOK.nil) ⟨[], [], [], []⟩ Try.func25 rfl Try.ntmps25 (rs := [.tmp 3]) rfl (sig := trans_Check_3_sig) (out := trans_Check_3_out) rfl Try.call25 (fun X => by kernel_rfl)

def slices_IndexFunc_3_sig : Shape := ⟨[(.list (.int .i64)), (.pair (.int .i64) (.pair (.int .i64) (.pair (.int .i64) (.pair (.list (.int .i64)) (.pair (.list (.list (.int .i64))) (.pair (.list (.list (.list (.int .i64)))) (.pair (.list (.list (.int .i64))) .unit)))))))], [(0, .v 0), (1, .fn 25 [.addr 1])], []⟩
def slices_IndexFunc_3_out : Shape := ⟨[(.int .i64)], [(0, .v 0)], []⟩
noncomputable def slices_IndexFunc_3_ce : CE := ⟨28, slices_IndexFunc_3_sig, slices_IndexFunc_3_out, fun X => slices_IndexFunc_3 X.1 X.2⟩
theorem slices_IndexFunc_3_ok : CE.ok Try.prog slices_IndexFunc_3_ce := CE.of (Γ := [trans_Check_3_ce]) (by kernel_rfl) TT_ok (GOK.cons trans_Check_3_ok (GOK.nil)) ⟨[(2, ⟨⟨[(.int .i64)], [(8, .v 0)], []⟩, [4, 5, 9, 10, 11, 12, 13, 14, 15, 16, 17, 18], [], [], 0, []⟩)], [], [], []⟩ Try.func28 rfl Try.ntmps28 (rs := [.tmp 4]) rfl (sig := slices_IndexFunc_3_sig) (out := slices_IndexFunc_3_out) rfl Try.call28 (fun X => by kernel_rfl)

def slices_ContainsFunc_3_sig : Shape := ⟨[(.list (.int .i64)), (.pair (.int .i64) (.pair (.int .i64) (.pair (.int .i64) (.pair (.list (.int .i64)) (.pair (.list (.list (.int .i64))) (.pair (.list (.list (.list (.int .i64)))) (.pair (.list (.list (.int .i64))) .unit)))))))], [(0, .v 0), (1, .fn 25 [.addr 1])], []⟩
def slices_ContainsFunc_3_out : Shape := ⟨[.bool], [(0, .v 0)], []⟩
noncomputable def slices_ContainsFunc_3_ce : CE := ⟨22, slices_ContainsFunc_3_sig, slices_ContainsFunc_3_out, fun X => slices_ContainsFunc_3 X.1 X.2⟩
theorem slices_ContainsFunc_3_ok : CE.ok Try.prog slices_ContainsFunc_3_ce := CE.of (Γ := [slices_IndexFunc_3_ce]) (by kernel_rfl) TT_ok (GOK.cons slices_IndexFunc_3_ok (GOK.nil)) ⟨[], [], [], []⟩ Try.func22 rfl Try.ntmps22 (rs := [.tmp 4]) rfl (sig := slices_ContainsFunc_3_sig) (out := slices_ContainsFunc_3_out) rfl Try.call22 (fun X => by kernel_rfl)

def trans_Check_sig : Shape := ⟨[(.pair (.int .i64) (.pair (.int .i64) (.pair (.int .i64) (.pair (.list (.int .i64)) (.pair (.list (.list (.int .i64))) (.pair (.list (.list (.list (.int .i64)))) (.pair (.list (.list (.int .i64))) .unit)))))))], [(0, .v 0)], []⟩
def trans_Check_out : Shape := ⟨[(.int .i64)], [(0, .v 0)], []⟩
noncomputable def trans_Check_ce : CE := ⟨10, trans_Check_sig, trans_Check_out, fun X => trans_Check X⟩
theorem trans_Check_ok : CE.ok Try.prog trans_Check_ce := CE.of (Γ := [trans_Check_1_ce, slices_ContainsFunc_ce, trans_long_ce, trans_said_ce, slices_ContainsFunc_3_ce]) (by kernel_rfl) TT_ok (GOK.cons trans_Check_1_ok (GOK.cons slices_ContainsFunc_ok (GOK.cons trans_long_ok (GOK.cons trans_said_ok (GOK.cons slices_ContainsFunc_3_ok (GOK.nil)))))) ⟨[(2, ⟨⟨[(.int .i64)], [(16, .v 0)], []⟩, [2, 4, 17, 18, 19, 20, 21, 22, 23, 24, 25, 26], [], [0, 1], 2, []⟩), (13, ⟨⟨[(.int .i64)], [(49, .v 0)], []⟩, [2, 6, 50, 51, 52, 53, 54, 55, 56, 57, 58, 59, 60, 61, 62, 63, 64, 65, 66, 67, 68, 69, 70, 71, 72], [], [0, 1, 2], 3, []⟩), (24, ⟨⟨[(.int .i64)], [(89, .v 0)], []⟩, [2, 9, 90, 91, 92, 93, 94, 95, 96], [], [0, 1, 3, 4], 5, []⟩)], [], [(15, [(0, 0), (0, 1), (0, 2), (0, 3), (0, 4), (0, 5), (0, 6), (0, 7), (0, 8), (0, 9), (0, 10), (0, 11), (0, 12), (0, 13), (0, 14), (0, 15), (0, 16), (0, 17), (0, 18), (0, 19)])], []⟩ Try.func10 rfl Try.ntmps10 (rs := [.tmp 2]) rfl (sig := trans_Check_sig) (out := trans_Check_out) rfl Try.call10 (fun X => by kernel_rfl)

def trans_run_sig : Shape := ⟨[(.pair (.int .i64) (.pair (.int .i64) (.pair (.int .i64) (.pair (.list (.int .i64)) (.pair (.list (.list (.int .i64))) (.pair (.list (.list (.list (.int .i64)))) (.pair (.list (.list (.int .i64))) .unit))))))), (.int .i64), (.list (.int .i64))], [(0, .v 0), (1, .v 1), (2, .v 2)], []⟩
def trans_run_out : Shape := ⟨[(.int .i64), (.list (.int .i64))], [(0, .own 0), (1, .v 0)], [(0, .arr 3 1)]⟩
noncomputable def trans_run_ce : CE := ⟨13, trans_run_sig, trans_run_out, fun X => trans_run X.1 X.2.1 X.2.2⟩
theorem trans_run_ok : CE.ok Try.prog trans_run_ce := CE.of (Γ := []) (by kernel_rfl) TT_ok (GOK.nil) ⟨[(3, ⟨⟨[(.int .i64), (.int .i64), (.list (.int .i64))], [(1, .v 0), (8, .own 1), (13, .v 1)], [(1, .arr 3 2)]⟩, [10, 14, 15, 16, 17, 18, 19, 20, 21, 22, 23, 24, 25, 26, 27, 28, 29, 30, 31, 32, 33, 34, 35], [], [0], 2, []⟩)], [], [], []⟩ Try.func13 rfl Try.ntmps13 (rs := [.tmp 6, .tmp 7]) rfl (sig := trans_run_sig) (out := trans_run_out) rfl Try.call13 (fun X => by kernel_rfl)

def slices_Grow_sig : Shape := ⟨[(.int .i64)], [(0, .nil), (1, .v 0)], []⟩
def slices_Grow_out : Shape := ⟨[(.list (.int .i64))], [(0, .own 0)], [(0, .arr 3 0)]⟩
noncomputable def slices_Grow_ce : CE := ⟨30, slices_Grow_sig, slices_Grow_out, fun X => slices_Grow X⟩
theorem slices_Grow_ok : CE.ok Try.prog slices_Grow_ce := CE.of (Γ := []) (by kernel_rfl) TT_ok (GOK.nil) ⟨[], [], [(5, [(0, 0), (0, 1), (0, 2), (0, 3), (0, 4), (2, 5), (0, 6), (0, 7), (1, 8), (0, 9)])], []⟩ Try.func30 rfl Try.ntmps30 (rs := [.tmp 4]) rfl (sig := slices_Grow_sig) (out := slices_Grow_out) rfl Try.call30 (fun X => by kernel_rfl)

def slices_Concat_sig : Shape := ⟨[(.list (.list (.int .i64)))], [(0, .v 0)], []⟩
def slices_Concat_out : Shape := ⟨[(.list (.int .i64))], [(0, .own 0)], [(0, .arr 3 0)]⟩
noncomputable def slices_Concat_ce : CE := ⟨26, slices_Concat_sig, slices_Concat_out, fun X => slices_Concat X⟩
theorem slices_Concat_ok : CE.ok Try.prog slices_Concat_ce := CE.of (Γ := [slices_Grow_ce]) (by kernel_rfl) TT_ok (GOK.cons slices_Grow_ok (GOK.nil)) ⟨[(3, ⟨⟨[(.int .i64), (.int .i64)], [(3, .v 0), (11, .v 1)], []⟩, [5, 12, 13, 14, 15, 16, 17, 18, 19, 20, 21, 22], [], [], 0, []⟩), (11, ⟨⟨[(.int .i64), (.list (.int .i64))], [(6, .own 0), (27, .v 0)], [(0, .arr 3 1)]⟩, [8, 24, 28, 29, 30, 31, 32, 33, 34], [], [], 1, []⟩)], [], [], []⟩ Try.func26 rfl Try.ntmps26 (rs := [.tmp 2]) rfl (sig := slices_Concat_sig) (out := slices_Concat_out) rfl Try.call26 (fun X => by kernel_rfl)

def trans_whole_sig : Shape := ⟨[(.pair (.int .i64) (.pair (.int .i64) (.pair (.int .i64) (.pair (.list (.int .i64)) (.pair (.list (.list (.int .i64))) (.pair (.list (.list (.list (.int .i64)))) (.pair (.list (.list (.int .i64))) .unit))))))), (.list (.int .i64))], [(0, .v 0), (1, .v 1)], []⟩
def trans_whole_out : Shape := ⟨[(.list (.int .i64))], [(0, .own 0)], [(0, .arr 3 0)]⟩
noncomputable def trans_whole_ce : CE := ⟨12, trans_whole_sig, trans_whole_out, fun X => trans_whole X.1 X.2⟩
theorem trans_whole_ok : CE.ok Try.prog trans_whole_ce := CE.of (Γ := [trans_run_ce, slices_Concat_ce]) (by kernel_rfl) TT_ok (GOK.cons trans_run_ok (GOK.cons slices_Concat_ok (GOK.nil))) ⟨[], [], [(2, [(0, 0), (0, 1), (0, 2), (0, 3), (0, 4), (0, 5), (0, 6), (0, 7), (1, 8), (1, 9), (0, 10)])], []⟩ Try.func12 rfl Try.ntmps12 (rs := [.tmp 4]) rfl (sig := trans_whole_sig) (out := trans_whole_out) rfl Try.call12 (fun X => by kernel_rfl)

def slices_Equal_sig : Shape := ⟨[(.list (.int .i64)), (.list (.int .i64))], [(0, .v 0), (1, .v 1)], []⟩
def slices_Equal_out : Shape := ⟨[.bool], [(0, .v 0)], []⟩
noncomputable def slices_Equal_ce : CE := ⟨11, slices_Equal_sig, slices_Equal_out, fun X => slices_Equal X.1 X.2⟩
theorem slices_Equal_ok : CE.ok Try.prog slices_Equal_ce := CE.of (Γ := []) (by kernel_rfl) TT_ok (GOK.nil) ⟨[(4, ⟨⟨[(.int .i64)], [(13, .v 0)], []⟩, [4, 5, 14, 15, 16, 17, 18, 19, 20, 21, 22, 23, 24, 25], [], [], 0, []⟩)], [], [(6, [(0, 0), (0, 1), (0, 2), (0, 3), (0, 4), (0, 5), (0, 6), (0, 7), (0, 8)])], []⟩ Try.func11 rfl Try.ntmps11 (rs := [.tmp 4]) rfl (sig := slices_Equal_sig) (out := slices_Equal_out) rfl Try.call11 (fun X => by kernel_rfl)

def slices_Clone_sig : Shape := ⟨[(.list (.int .i64))], [(0, .v 0)], []⟩
def slices_Clone_out : Shape := ⟨[(.list (.int .i64))], [(0, .own 0)], [(0, .arr 3 0)]⟩
noncomputable def slices_Clone_ce : CE := ⟨14, slices_Clone_sig, slices_Clone_out, fun X => slices_Clone X⟩
theorem slices_Clone_ok : CE.ok Try.prog slices_Clone_ce := CE.of (Γ := []) (by kernel_rfl) TT_ok (GOK.nil) ⟨[], [], [], []⟩ Try.func14 rfl Try.ntmps14 (rs := [.tmp 2]) rfl (sig := slices_Clone_sig) (out := slices_Clone_out) rfl Try.call14 (fun X => by kernel_rfl)

def trans_Differ_sig : Shape := ⟨[(.pair (.int .i64) (.pair (.int .i64) (.pair (.int .i64) (.pair (.list (.int .i64)) (.pair (.list (.list (.int .i64))) (.pair (.list (.list (.list (.int .i64)))) (.pair (.list (.list (.int .i64))) .unit))))))), (.pair (.int .i64) (.pair (.int .i64) (.pair (.int .i64) (.pair (.list (.int .i64)) (.pair (.list (.list (.int .i64))) (.pair (.list (.list (.list (.int .i64)))) (.pair (.list (.list (.int .i64))) .unit)))))))], [(0, .v 0), (1, .v 1)], []⟩
def trans_Differ_out : Shape := ⟨[(.list (.int .i64)), .bool, (.int .i64)], [(0, .v 0), (1, .v 1), (2, .v 2)], []⟩
noncomputable def trans_Differ_ce : CE := ⟨4, trans_Differ_sig, trans_Differ_out, fun X => trans_Differ X.1 X.2⟩
theorem trans_Differ_ok : CE.ok Try.prog trans_Differ_ce := CE.of (Γ := [trans_Check_ce, trans_whole_ce, slices_Equal_ce, trans_run_ce, slices_Clone_ce]) (by kernel_rfl) TT_ok (GOK.cons trans_Check_ok (GOK.cons trans_whole_ok (GOK.cons slices_Equal_ok (GOK.cons trans_run_ok (GOK.cons slices_Clone_ok (GOK.nil)))))) ⟨[(2, ⟨⟨[(.int .i64)], [(22, .v 0)], []⟩, [4, 5, 6, 8, 9, 23, 24, 25, 26, 27, 28, 29, 30, 31], [], [0, 1, 2], 3, []⟩), (12, ⟨⟨[(.list (.pair (.int .i64) (.pair (.int .i64) .unit))), (.list (.int .i64)), (.list (.list (.int .i64)))], [(10, .own 3), (11, .own 5)], [(3, .box 38 [.v 0, .v 1]), (5, .arr 22 2)]⟩, [4, 5, 6, 12, 13, 14, 15, 16, 17, 44, 46, 47, 48, 49, 50, 51, 52, 53, 54, 55, 56, 57, 58, 59, 60, 61, 62, 63, 64, 65, 66, 67, 68, 69, 70, 71, 72, 73, 74, 75, 76, 77, 78, 79, 80, 81, 82, 83, 84, 85, 86, 87, 88, 89, 90, 91, 92, 93, 94, 95, 96, 97, 98, 99, 100, 101, 102, 103, 104, 105, 106, 107], [], [0, 1, 2], 6, []⟩), (22, ⟨⟨[(.int .i64), (.list (.list (.int .i64)))], [(11, .own 5), (96, .v 0)], [(5, .arr 22 1)]⟩, [17, 47, 52, 53, 97, 98, 99, 100, 101, 102, 103, 104, 105, 106, 107], [], [0, 1, 2, 3, 6, 7, 8, 9], 10, []⟩)], [(19, ⟨⟨[(.list (.pair (.int .i64) (.pair (.int .i64) .unit))), (.list (.int .i64))], [(10, .own 3)], [(3, .box 38 [.v 0, .v 1])]⟩, [80, 81, 82, 83, 84, 85, 86, 87], [], [0, 1, 2, 5, 6, 7, 8, 9], 10, []⟩)], [(15, [(0, 0), (0, 1), (0, 3), (0, 4), (1, 2), (1, 5), (1, 6), (0, 7)]), (13, [(0, 0), (1, 1), (0, 2)])], [(19, (.one 0 (.one 1 (.one 2 (.one 3 (.alt 0 4 (.leaf [(0, 5), (2, 6), (0, 7), (2, 8)]) (.alt 2 6 (.leaf [(0, 7), (0, 4), (0, 5), (2, 8)]) .stop)))))))]⟩ Try.func4 rfl Try.ntmps4 (rs := [.tmp 4, .tmp 5, .tmp 6]) rfl (sig := trans_Differ_sig) (out := trans_Differ_out) rfl Try.call4 (fun X => by kernel_rfl)

def r16_Words_sig : Shape := ⟨[(.pair (.int .i64) (.pair (.int .i64) (.pair (.int .i64) (.pair (.list (.int .i64)) (.pair (.list (.list (.int .i64))) (.pair (.list (.list (.list (.int .i64)))) (.pair (.list (.list (.int .i64))) .unit)))))))], [(0, .v 0)], []⟩
def r16_Words_out : Shape := ⟨[(.list (.list (.int .i64)))], [(0, .own 0)], [(0, .arr 22 0)]⟩
noncomputable def r16_Words_ce : CE := ⟨16, r16_Words_sig, r16_Words_out, fun X => r16_Words X⟩
theorem r16_Words_ok : CE.ok Try.prog r16_Words_ce := CE.of (Γ := []) (by kernel_rfl) TT_ok (GOK.nil) ⟨[(5, ⟨⟨[(.int .i64), (.list (.list (.int .i64)))], [(3, .own 3), (4, .v 0)], [(3, .arr 22 1)]⟩, [9, 10, 13, 14, 15, 16, 17, 18, 19, 20, 21, 22, 23, 24, 25, 26, 27], [], [0, 1], 4, []⟩)], [], [], []⟩ Try.func16 rfl Try.ntmps16 (rs := [.tmp 2]) rfl (sig := r16_Words_sig) (out := r16_Words_out) rfl Try.call16 (fun X => by kernel_rfl)

def r16_Long_sig : Shape := ⟨[(.pair (.int .i64) (.pair (.int .i64) (.pair (.int .i64) (.pair (.list (.int .i64)) (.pair (.list (.list (.int .i64))) (.pair (.list (.list (.list (.int .i64)))) (.pair (.list (.list (.int .i64))) .unit)))))))], [(0, .v 0)], []⟩
def r16_Long_out : Shape := ⟨[.bool], [(0, .v 0)], []⟩
noncomputable def r16_Long_ce : CE := ⟨15, r16_Long_sig, r16_Long_out, fun X => r16_Long X⟩
theorem r16_Long_ok : CE.ok Try.prog r16_Long_ce := CE.of (Γ := [r16_Words_ce]) (by kernel_rfl) TT_ok (GOK.cons r16_Words_ok (GOK.nil)) ⟨[(3, ⟨⟨[(.int .i64)], [(4, .v 0)], []⟩, [2, 7, 8, 9, 10, 11, 12, 13, 14, 15, 16, 17, 18], [], [0, 1], 2, []⟩)], [], [], []⟩ Try.func15 rfl Try.ntmps15 (rs := [.tmp 2]) rfl (sig := r16_Long_sig) (out := r16_Long_out) rfl Try.call15 (fun X => by kernel_rfl)

def r16_letters_sig : Shape := ⟨[(.list (.int .i64)), (.int .i64)], [(0, .v 0), (1, .v 1)], []⟩
def r16_letters_out : Shape := ⟨[(.int .i64)], [(0, .v 0)], []⟩
noncomputable def r16_letters_ce : CE := ⟨17, r16_letters_sig, r16_letters_out, fun X => r16_letters X.1 X.2⟩
theorem r16_letters_ok : CE.ok Try.prog r16_letters_ce := CE.of (Γ := []) (by kernel_rfl) TT_ok (GOK.nil) ⟨[(2, ⟨⟨[(.int .i64)], [(5, .v 0)], []⟩, [4, 6, 7, 8, 9, 10, 11, 12, 13, 14, 15, 16, 17, 18, 19, 20, 21, 22, 23, 24], [], [], 0, []⟩)], [], [], []⟩ Try.func17 rfl Try.ntmps17 (rs := [.tmp 4]) rfl (sig := r16_letters_sig) (out := r16_letters_out) rfl Try.call17 (fun X => by kernel_rfl)

def r16_Check_sig : Shape := ⟨[(.pair (.int .i64) (.pair (.int .i64) (.pair (.int .i64) (.pair (.list (.int .i64)) (.pair (.list (.list (.int .i64))) (.pair (.list (.list (.list (.int .i64)))) (.pair (.list (.list (.int .i64))) .unit)))))))], [(0, .v 0)], []⟩
def r16_Check_out : Shape := ⟨[(.int .i64)], [(0, .v 0)], []⟩
noncomputable def r16_Check_ce : CE := ⟨5, r16_Check_sig, r16_Check_out, fun X => r16_Check X⟩
theorem r16_Check_ok : CE.ok Try.prog r16_Check_ce := CE.of (Γ := [r16_Long_ce, r16_Words_ce, r16_letters_ce]) (by kernel_rfl) TT_ok (GOK.cons r16_Long_ok (GOK.cons r16_Words_ok (GOK.cons r16_letters_ok (GOK.nil)))) ⟨[(9, ⟨⟨[(.int .i64)], [(4, .v 0)], []⟩, [2, 50, 51, 52, 53, 54, 55, 56, 57, 58, 59, 60, 61, 62, 63, 64, 65, 66, 67, 68, 69, 70, 71, 72, 73, 74], [], [0], 1, []⟩), (16, ⟨⟨[(.int .i64)], [(5, .v 0)], []⟩, [2, 6, 84, 85, 86, 87, 88, 89, 90, 91, 92, 93, 94, 95, 96, 97, 98, 99, 100, 101, 102, 103, 104, 105, 106, 107, 108, 109, 110, 111, 112, 113, 114, 115], [], [0], 1, []⟩), (19, ⟨⟨[(.int .i64)], [(6, .v 0)], []⟩, [2, 89, 90, 91, 92, 93, 94, 95, 96, 97, 98, 99, 100, 101, 102, 103, 104, 105, 106, 107, 108, 109, 110, 111, 112, 113, 114, 115], [], [0], 1, []⟩), (28, ⟨⟨[(.int .i64)], [(9, .v 0)], []⟩, [2, 10, 121, 122, 123, 124, 125, 126, 127, 128, 129, 130, 131, 132, 133, 134, 135, 136], [], [0, 1], 2, []⟩)], [], [(11, [(0, 0), (0, 1), (0, 2), (0, 3), (0, 4), (0, 5), (0, 6), (0, 7), (0, 8), (0, 9), (0, 10), (0, 11), (0, 12), (0, 13), (0, 14), (0, 15), (0, 16), (0, 17), (0, 18), (0, 19)]), (30, [(0, 0), (0, 1), (0, 2), (0, 3), (0, 4), (0, 5), (1, 6), (0, 7)])], []⟩ Try.func5 rfl Try.ntmps5 (rs := [.tmp 2]) rfl (sig := r16_Check_sig) (out := r16_Check_out) rfl Try.call5 (fun X => by kernel_rfl)

def r16_Run_sig : Shape := ⟨[(.pair (.int .i64) (.pair (.int .i64) (.pair (.int .i64) (.pair (.list (.int .i64)) (.pair (.list (.list (.int .i64))) (.pair (.list (.list (.list (.int .i64)))) (.pair (.list (.list (.int .i64))) .unit))))))), (.list (.int .i64))], [(0, .v 0), (1, .v 1)], []⟩
def r16_Run_out : Shape := ⟨[(.list (.int .i64))], [(0, .own 0)], [(0, .arr 3 0)]⟩
noncomputable def r16_Run_ce : CE := ⟨9, r16_Run_sig, r16_Run_out, fun X => r16_Run X.1 X.2⟩
theorem r16_Run_ok : CE.ok Try.prog r16_Run_ce := CE.of (Γ := []) (by kernel_rfl) TT_ok (GOK.nil) ⟨[(4, ⟨⟨[(.int .i64), (.int .i64), (.list (.int .i64))], [(5, .own 2), (6, .v 0), (7, .v 1)], [(2, .arr 3 2)]⟩, [8, 11, 14, 15, 16, 17, 18, 19, 20, 21, 22, 23, 24, 25, 26, 27, 28, 29, 30, 31, 32, 33, 34, 35, 36, 37, 38, 39, 40, 41, 42, 43], [], [0], 3, []⟩)], [], [(6, [(0, 0), (0, 1), (0, 2), (0, 3), (0, 4), (0, 5), (0, 6), (0, 7), (0, 8), (0, 9), (0, 10), (0, 11), (2, 12), (0, 13)]), (7, [(0, 0), (0, 1), (0, 2), (0, 3), (0, 4), (0, 5), (0, 6), (0, 7), (0, 8), (0, 9), (0, 10), (0, 11)])], []⟩ Try.func9 rfl Try.ntmps9 (rs := [.tmp 4]) rfl (sig := r16_Run_sig) (out := r16_Run_out) rfl Try.call9 (fun X => by kernel_rfl)

def r1_Words_sig : Shape := ⟨[(.list (.int .i64)), (.list (.int .i64))], [(0, .v 0), (1, .v 1)], []⟩
def r1_Words_out : Shape := ⟨[.bool], [(0, .v 0)], []⟩
noncomputable def r1_Words_ce : CE := ⟨7, r1_Words_sig, r1_Words_out, fun X => r1_Words X.1 X.2⟩
theorem r1_Words_ok : CE.ok Try.prog r1_Words_ce := CE.of (Γ := []) (by kernel_rfl) TT_ok (GOK.nil) ⟨[(4, ⟨⟨[(.int .i64)], [(5, .v 0)], []⟩, [4, 11, 12, 13, 14, 15, 16, 17, 18, 19, 20, 21, 22, 23, 24, 25], [], [], 0, []⟩)], [], [(6, [(0, 0), (0, 1), (0, 2), (0, 3), (0, 4), (0, 5), (0, 6), (0, 7), (0, 8)])], []⟩ Try.func7 rfl Try.ntmps7 (rs := [.tmp 4]) rfl (sig := r1_Words_sig) (out := r1_Words_out) rfl Try.call7 (fun X => by kernel_rfl)

def r16_State_sig : Shape := ⟨[(.pair (.int .i64) (.pair (.int .i64) (.pair (.int .i64) (.pair (.list (.int .i64)) (.pair (.list (.list (.int .i64))) (.pair (.list (.list (.list (.int .i64)))) (.pair (.list (.list (.int .i64))) .unit))))))), (.list (.int .i64))], [(0, .v 0), (1, .v 1)], []⟩
def r16_State_out : Shape := ⟨[(.int .i64)], [(0, .v 0)], []⟩
noncomputable def r16_State_ce : CE := ⟨18, r16_State_sig, r16_State_out, fun X => r16_State X.1 X.2⟩
theorem r16_State_ok : CE.ok Try.prog r16_State_ce := CE.of (Γ := []) (by kernel_rfl) TT_ok (GOK.nil) ⟨[(3, ⟨⟨[(.int .i64), (.int .i64)], [(5, .v 0), (6, .v 1)], []⟩, [9, 10, 11, 12, 13, 14, 15, 16, 17, 18, 19, 20, 21, 22, 23, 24, 25], [], [0], 1, []⟩)], [], [(5, [(0, 0), (0, 1), (0, 2), (0, 3), (0, 4), (0, 5), (0, 6), (0, 7), (0, 8), (0, 9), (0, 10), (0, 11)])], []⟩ Try.func18 rfl Try.ntmps18 (rs := [.tmp 4]) rfl (sig := r16_State_sig) (out := r16_State_out) rfl Try.call18 (fun X => by kernel_rfl)

def r16_Differ_sig : Shape := ⟨[(.pair (.int .i64) (.pair (.int .i64) (.pair (.int .i64) (.pair (.list (.int .i64)) (.pair (.list (.list (.int .i64))) (.pair (.list (.list (.list (.int .i64)))) (.pair (.list (.list (.int .i64))) .unit))))))), (.pair (.int .i64) (.pair (.int .i64) (.pair (.int .i64) (.pair (.list (.int .i64)) (.pair (.list (.list (.int .i64))) (.pair (.list (.list (.list (.int .i64)))) (.pair (.list (.list (.int .i64))) .unit)))))))], [(0, .v 0), (1, .v 1)], []⟩
def r16_Differ_out : Shape := ⟨[(.list (.int .i64)), .bool], [(0, .v 0), (1, .v 1)], []⟩
noncomputable def r16_Differ_ce : CE := ⟨6, r16_Differ_sig, r16_Differ_out, fun X => r16_Differ X.1 X.2⟩
theorem r16_Differ_ok : CE.ok Try.prog r16_Differ_ce := CE.of (Γ := [r16_Run_ce, r1_Words_ce, r16_State_ce]) (by kernel_rfl) TT_ok (GOK.cons r16_Run_ok (GOK.cons r1_Words_ok (GOK.cons r16_State_ok (GOK.nil)))) ⟨[(5, ⟨⟨[(.int .i64), (.list .bool), (.list (.list (.int .i64)))], [(7, .own 2), (8, .own 4), (9, .v 0)], [(2, .arr 4 1), (4, .arr 22 2)]⟩, [4, 5, 10, 11, 12, 13, 14, 15, 16, 25, 27, 28, 29, 30, 31, 32, 33, 34, 35, 36, 37, 38, 39, 40, 41, 42, 43, 44, 45, 46, 47, 48, 49, 50, 51, 52, 53, 54, 55, 56, 57, 58, 59, 60, 61, 62, 63, 64, 65, 66, 67, 68, 69, 70, 71, 72, 73, 74, 75, 76, 77, 78, 79, 80, 81, 82, 83, 84, 85, 86, 87, 88, 89, 90, 91, 92, 93, 94, 95, 96, 97, 98, 99, 100, 101], [], [0, 1], 5, []⟩), (17, ⟨⟨[(.int .i64), (.list (.list (.int .i64)))], [(8, .own 4), (15, .v 0)], [(4, .arr 22 1)]⟩, [16, 29, 35, 37, 41, 43, 56, 58, 62, 64, 82, 83, 84, 85, 86, 87, 88, 89, 90, 91, 92, 93, 94, 95, 96, 97, 98, 99, 100, 101], [], [0, 1, 2, 5, 6], 7, []⟩)], [], [(7, [(0, 0), (0, 1), (0, 2), (0, 3), (0, 4), (1, 5), (0, 6)]), (8, [(0, 0), (0, 1), (0, 2), (0, 3), (0, 4), (1, 5), (0, 6)]), (12, [(0, 0), (0, 1), (0, 2), (0, 3), (0, 4), (1, 5), (0, 6)]), (13, [(0, 0), (0, 1), (0, 2), (0, 3), (0, 4), (1, 5), (0, 6)])], []⟩ Try.func6 rfl Try.ntmps6 (rs := [.tmp 4, .tmp 5]) rfl (sig := r16_Differ_sig) (out := r16_Differ_out) rfl Try.call6 (fun X => by kernel_rfl)

def r1_May_sig : Shape := ⟨[(.int .i64), (.list (.int .i64))], [(0, .v 0), (1, .v 1)], []⟩
def r1_May_out : Shape := ⟨[(.int .i64)], [(0, .v 0)], []⟩
noncomputable def r1_May_ce : CE := ⟨8, r1_May_sig, r1_May_out, fun X => r1_May X.1 X.2⟩
theorem r1_May_ok : CE.ok Try.prog r1_May_ce := CE.of (Γ := []) (by kernel_rfl) TT_ok (GOK.nil) ⟨[(6, ⟨⟨[(.int .i64)], [(5, .v 0)], []⟩, [4, 15, 16, 17, 18, 19, 20, 21, 22, 23, 24, 25, 26, 27, 28, 29, 30, 31, 32, 33], [], [], 0, []⟩)], [], [], []⟩ Try.func8 rfl Try.ntmps8 (rs := [.tmp 4]) rfl (sig := r1_May_sig) (out := r1_May_out) rfl Try.call8 (fun X => by kernel_rfl)

def law_TransDiffers_sig : Shape := ⟨[(.pair (.int .i64) (.pair (.int .i64) (.pair (.int .i64) (.pair (.list (.int .i64)) (.pair (.list (.list (.int .i64))) (.pair (.list (.list (.list (.int .i64)))) (.pair (.list (.list (.int .i64))) .unit))))))), (.pair (.int .i64) (.pair (.int .i64) (.pair (.int .i64) (.pair (.list (.int .i64)) (.pair (.list (.list (.int .i64))) (.pair (.list (.list (.list (.int .i64)))) (.pair (.list (.list (.int .i64))) .unit))))))), (.list (.int .i64))], [(0, .v 0), (1, .v 1), (2, .v 2)], []⟩
def law_TransDiffers_out : Shape := ⟨[.bool], [(0, .v 0)], []⟩
noncomputable def law_TransDiffers_ce : CE := ⟨3, law_TransDiffers_sig, law_TransDiffers_out, fun X => law_TransDiffers X.1 X.2.1 X.2.2⟩
theorem law_TransDiffers_ok : CE.ok Try.prog law_TransDiffers_ce := CE.of (Γ := [trans_Differ_ce, r16_Check_ce, r16_Differ_ce, r1_Words_ce, r1_May_ce, r16_Run_ce]) (by kernel_rfl) TT_ok (GOK.cons trans_Differ_ok (GOK.cons r16_Check_ok (GOK.cons r16_Differ_ok (GOK.cons r1_Words_ok (GOK.cons r1_May_ok (GOK.cons r16_Run_ok (GOK.nil))))))) ⟨[], [(4, ⟨⟨[(.int .i64)], [(10, .v 0)], []⟩, [26, 27, 28, 29], [], [0, 1], 2, []⟩), (5, ⟨⟨[.bool], [(45, .v 0)], []⟩, [30, 31, 32, 33, 34, 35, 36, 37, 38, 39, 40, 41, 42, 43, 44], [], [0, 1], 2, []⟩), (6, ⟨⟨[(.int .i64)], [(10, .v 0)], []⟩, [30, 31, 32, 33, 34, 35, 36, 37, 38, 39, 40, 41, 42, 43, 44, 45], [], [0, 1], 2, []⟩)], [], []⟩ Try.func3 rfl Try.ntmps3 (rs := [.tmp 6]) rfl (sig := law_TransDiffers_sig) (out := law_TransDiffers_out) rfl Try.call3 (fun X => by kernel_rfl)

end Go.Proofs.Ytgjkbjbknnlnpaa.transDiffersW
