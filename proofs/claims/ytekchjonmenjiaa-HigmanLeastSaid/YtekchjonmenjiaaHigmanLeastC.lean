/- That the functions of 'HigmanLeast' compute so. -/
import Derived.Test.YtekchjonmenjiaaHigmanLeastD
import Derived.Test.YtekchjonmenjiaaProg
import Derived.KernelRfl
set_option maxHeartbeats 1000000
set_option maxRecDepth 20000
set_option linter.unusedSimpArgs false
set_option linter.unusedVariables false
namespace Go.Proofs.Ytekchjonmenjiaa.higmanLeastW
open Go Go.Ab
def te3 : TE := ⟨3, .int .i64, false, 1, 8, .int .i64 0, some (.int .i64)⟩
theorem te3_ok : TEok Try.prog te3 := ⟨TI.of Try.underlying3 rfl (by kernel_rfl), Try.underlying3, fun t h => by cases h; exact ⟨rfl, rfl, by decide, rfl⟩⟩
def te4 : TE := ⟨4, .bool, false, 1, 1, .bool false, some .bool⟩
theorem te4_ok : TEok Try.prog te4 := ⟨TI.of Try.underlying4 rfl (by kernel_rfl), Try.underlying4, fun t h => by cases h; exact ⟨rfl, rfl, by decide, rfl⟩⟩
def te22 : TE := ⟨22, .slice 23, false, 1, 24, .slice none 0 0, some (.list (.list (.int .i64)))⟩
theorem te22_ok : TEok Try.prog te22 := ⟨TI.of Try.underlying22 rfl (by kernel_rfl), Try.underlying22, fun t h => by cases h; exact ⟨rfl, rfl, by decide, rfl⟩⟩
def te23 : TE := ⟨23, .slice 3, false, 1, 24, .slice none 0 0, some (.list (.int .i64))⟩
theorem te23_ok : TEok Try.prog te23 := ⟨TI.of Try.underlying23 rfl (by kernel_rfl), Try.underlying23, fun t h => by cases h; exact ⟨rfl, rfl, by decide, rfl⟩⟩
def te25 : TE := ⟨25, .struct [(0, 3), (1, 3), (2, 22), (3, 23)] none, true, 4, 64, .agg ⟨[.int .i64 0, .int .i64 0, .slice none 0 0, .slice none 0 0]⟩, some (.pair (.int .i64) (.pair (.int .i64) (.pair (.list (.list (.int .i64))) (.pair (.list (.int .i64)) .unit))))⟩
theorem te25_ok : TEok Try.prog te25 := ⟨TI.of Try.underlying25 rfl (by kernel_rfl), ⟨⟨_, Try.underlying25, rfl⟩, fun t h => by cases h⟩, fun t h => by cases h; exact ⟨rfl, rfl, by decide, rfl⟩⟩
def te26 : TE := ⟨26, .int .i64, false, 1, 8, .int .i64 0, some (.int .i64)⟩
theorem te26_ok : TEok Try.prog te26 := ⟨TI.of Try.underlying26 rfl (by kernel_rfl), Try.underlying26, fun t h => by cases h; exact ⟨rfl, rfl, by decide, rfl⟩⟩
def te45 : TE := ⟨45, .other, false, 1, 8, .nilFunc, none⟩
theorem te45_ok : TEok Try.prog te45 := ⟨TI.of Try.underlying45 rfl (by kernel_rfl), trivial, fun t h => by cases h⟩
def TT : List TE := [te3, te4, te22, te23, te25, te26, te45]
theorem TT_ok : TOK Try.prog TT := TOK.cons te3_ok (TOK.cons te4_ok (TOK.cons te22_ok (TOK.cons te23_ok (TOK.cons te25_ok (TOK.cons te26_ok (TOK.cons te45_ok (TOK.nil)))))))

def det_Check_1_sig : Shape := ⟨[(.list (.int .i64)), (.pair (.int .i64) (.pair (.int .i64) (.pair (.list (.list (.int .i64))) (.pair (.list (.int .i64)) .unit))))], [(0, .v 0), (1, .addr 1)], []⟩
def det_Check_1_out : Shape := ⟨[.bool], [(0, .v 0)], []⟩
noncomputable def det_Check_1_ce : CE := ⟨23, det_Check_1_sig, det_Check_1_out, fun X => det_Check_1 X.1 X.2⟩
theorem det_Check_1_ok : CE.ok Try.prog det_Check_1_ce := CE.of (Γ := []) (by kernel_rfl) TT_ok (GOK.nil) ⟨[], [], [], []⟩ Try.func23 rfl Try.ntmps23 (rs := [.tmp 3]) rfl (sig := det_Check_1_sig) (out := det_Check_1_out) rfl Try.call23 (fun X => by kernel_rfl)

def slices_IndexFunc_sig : Shape := ⟨[(.list (.list (.int .i64))), (.pair (.int .i64) (.pair (.int .i64) (.pair (.list (.list (.int .i64))) (.pair (.list (.int .i64)) .unit))))], [(0, .v 0), (1, .fn 23 [.addr 1])], []⟩
def slices_IndexFunc_out : Shape := ⟨[(.int .i64)], [(0, .v 0)], []⟩
noncomputable def slices_IndexFunc_ce : CE := ⟨21, slices_IndexFunc_sig, slices_IndexFunc_out, fun X => slices_IndexFunc X.1 X.2⟩
theorem slices_IndexFunc_ok : CE.ok Try.prog slices_IndexFunc_ce := CE.of (Γ := [det_Check_1_ce]) (by kernel_rfl) TT_ok (GOK.cons det_Check_1_ok (GOK.nil)) ⟨[(2, ⟨⟨[(.int .i64)], [(8, .v 0)], []⟩, [4, 5, 9, 10, 11, 12, 13, 14, 15, 16, 17, 18], [], [], 0, []⟩)], [], [], []⟩ Try.func21 rfl Try.ntmps21 (rs := [.tmp 4]) rfl (sig := slices_IndexFunc_sig) (out := slices_IndexFunc_out) rfl Try.call21 (fun X => by kernel_rfl)

def slices_ContainsFunc_sig : Shape := ⟨[(.list (.list (.int .i64))), (.pair (.int .i64) (.pair (.int .i64) (.pair (.list (.list (.int .i64))) (.pair (.list (.int .i64)) .unit))))], [(0, .v 0), (1, .fn 23 [.addr 1])], []⟩
def slices_ContainsFunc_out : Shape := ⟨[.bool], [(0, .v 0)], []⟩
noncomputable def slices_ContainsFunc_ce : CE := ⟨12, slices_ContainsFunc_sig, slices_ContainsFunc_out, fun X => slices_ContainsFunc X.1 X.2⟩
theorem slices_ContainsFunc_ok : CE.ok Try.prog slices_ContainsFunc_ce := CE.of (Γ := [slices_IndexFunc_ce]) (by kernel_rfl) TT_ok (GOK.cons slices_IndexFunc_ok (GOK.nil)) ⟨[], [], [], []⟩ Try.func12 rfl Try.ntmps12 (rs := [.tmp 4]) rfl (sig := slices_ContainsFunc_sig) (out := slices_ContainsFunc_out) rfl Try.call12 (fun X => by kernel_rfl)

def det_Check_2_sig : Shape := ⟨[(.int .i64), (.int .i64)], [(0, .v 0), (1, .addr 1)], []⟩
def det_Check_2_out : Shape := ⟨[.bool], [(0, .v 0)], []⟩
noncomputable def det_Check_2_ce : CE := ⟨24, det_Check_2_sig, det_Check_2_out, fun X => det_Check_2 X.1 X.2⟩
theorem det_Check_2_ok : CE.ok Try.prog det_Check_2_ce := CE.of (Γ := []) (by kernel_rfl) TT_ok (GOK.nil) ⟨[], [], [], []⟩ Try.func24 rfl Try.ntmps24 (rs := [.tmp 3]) rfl (sig := det_Check_2_sig) (out := det_Check_2_out) rfl Try.call24 (fun X => by kernel_rfl)

def slices_IndexFunc_2_sig : Shape := ⟨[(.list (.int .i64)), (.int .i64)], [(0, .v 0), (1, .fn 24 [.addr 1])], []⟩
def slices_IndexFunc_2_out : Shape := ⟨[(.int .i64)], [(0, .v 0)], []⟩
noncomputable def slices_IndexFunc_2_ce : CE := ⟨29, slices_IndexFunc_2_sig, slices_IndexFunc_2_out, fun X => slices_IndexFunc_2 X.1 X.2⟩
theorem slices_IndexFunc_2_ok : CE.ok Try.prog slices_IndexFunc_2_ce := CE.of (Γ := [det_Check_2_ce]) (by kernel_rfl) TT_ok (GOK.cons det_Check_2_ok (GOK.nil)) ⟨[(2, ⟨⟨[(.int .i64)], [(8, .v 0)], []⟩, [4, 5, 9, 10, 11, 12, 13, 14, 15, 16, 17, 18], [], [], 0, []⟩)], [], [], []⟩ Try.func29 rfl Try.ntmps29 (rs := [.tmp 4]) rfl (sig := slices_IndexFunc_2_sig) (out := slices_IndexFunc_2_out) rfl Try.call29 (fun X => by kernel_rfl)

def slices_ContainsFunc_2_sig : Shape := ⟨[(.list (.int .i64)), (.int .i64)], [(0, .v 0), (1, .fn 24 [.addr 1])], []⟩
def slices_ContainsFunc_2_out : Shape := ⟨[.bool], [(0, .v 0)], []⟩
noncomputable def slices_ContainsFunc_2_ce : CE := ⟨26, slices_ContainsFunc_2_sig, slices_ContainsFunc_2_out, fun X => slices_ContainsFunc_2 X.1 X.2⟩
theorem slices_ContainsFunc_2_ok : CE.ok Try.prog slices_ContainsFunc_2_ce := CE.of (Γ := [slices_IndexFunc_2_ce]) (by kernel_rfl) TT_ok (GOK.cons slices_IndexFunc_2_ok (GOK.nil)) ⟨[], [], [], []⟩ Try.func26 rfl Try.ntmps26 (rs := [.tmp 4]) rfl (sig := slices_ContainsFunc_2_sig) (out := slices_ContainsFunc_2_out) rfl Try.call26 (fun X => by kernel_rfl)

def det_Check_3_sig : Shape := ⟨[(.list (.int .i64)), (.int .i64)], [(0, .v 0), (1, .ptr 100000 0)], [(100000, .box 45 [.fn 24 [.addr 1]])]⟩
def det_Check_3_out : Shape := ⟨[.bool, (.int .i64)], [(0, .v 0)], [(100000, .box 45 [.fn 24 [.addr 1]])]⟩
noncomputable def det_Check_3_ce : CE := ⟨25, det_Check_3_sig, det_Check_3_out, fun X => det_Check_3 X.1 X.2⟩
theorem det_Check_3_ok : CE.ok Try.prog det_Check_3_ce := CE.of (Γ := [slices_ContainsFunc_2_ce]) (by kernel_rfl) TT_ok (GOK.cons slices_ContainsFunc_2_ok (GOK.nil)) ⟨[], [], [], []⟩ Try.func25 rfl Try.ntmps25 (rs := [.tmp 3]) rfl (sig := det_Check_3_sig) (out := det_Check_3_out) rfl Try.call25 (fun X => by kernel_rfl)

def slices_IndexFunc_1_sig : Shape := ⟨[(.list (.list (.int .i64))), (.int .i64)], [(0, .v 0), (1, .fn 25 [.ptr 100000 0])], [(100000, .box 45 [.fn 24 [.addr 1]])]⟩
def slices_IndexFunc_1_out : Shape := ⟨[(.int .i64), (.int .i64)], [(0, .v 0)], [(100000, .box 45 [.fn 24 [.addr 1]])]⟩
noncomputable def slices_IndexFunc_1_ce : CE := ⟨21, slices_IndexFunc_1_sig, slices_IndexFunc_1_out, fun X => slices_IndexFunc_1 X.1 X.2⟩
theorem slices_IndexFunc_1_ok : CE.ok Try.prog slices_IndexFunc_1_ce := CE.of (Γ := [det_Check_3_ce]) (by kernel_rfl) TT_ok (GOK.cons det_Check_3_ok (GOK.nil)) ⟨[(2, ⟨⟨[(.int .i64), (.int .i64)], [(1, .fn 25 [.ptr 100000 0]), (8, .v 0)], [(100000, .box 45 [.fn 24 [.addr 1]])]⟩, [4, 5, 9, 10, 11, 12, 13, 14, 15, 16, 17, 18], [], [], 0, []⟩)], [], [], []⟩ Try.func21 rfl Try.ntmps21 (rs := [.tmp 4]) rfl (sig := slices_IndexFunc_1_sig) (out := slices_IndexFunc_1_out) rfl Try.call21 (fun X => by kernel_rfl)

def slices_ContainsFunc_1_sig : Shape := ⟨[(.list (.list (.int .i64))), (.int .i64)], [(0, .v 0), (1, .fn 25 [.ptr 100000 0])], [(100000, .box 45 [.fn 24 [.addr 1]])]⟩
def slices_ContainsFunc_1_out : Shape := ⟨[.bool, (.int .i64)], [(0, .v 0)], [(100000, .box 45 [.fn 24 [.addr 1]])]⟩
noncomputable def slices_ContainsFunc_1_ce : CE := ⟨12, slices_ContainsFunc_1_sig, slices_ContainsFunc_1_out, fun X => slices_ContainsFunc_1 X.1 X.2⟩
theorem slices_ContainsFunc_1_ok : CE.ok Try.prog slices_ContainsFunc_1_ce := CE.of (Γ := [slices_IndexFunc_1_ce]) (by kernel_rfl) TT_ok (GOK.cons slices_IndexFunc_1_ok (GOK.nil)) ⟨[], [], [], []⟩ Try.func12 rfl Try.ntmps12 (rs := [.tmp 4]) rfl (sig := slices_ContainsFunc_1_sig) (out := slices_ContainsFunc_1_out) rfl Try.call12 (fun X => by kernel_rfl)

def det_Check_4_sig : Shape := ⟨[(.int .i64)], [(0, .v 0)], []⟩
def det_Check_4_out : Shape := ⟨[.bool], [(0, .v 0)], []⟩
noncomputable def det_Check_4_ce : CE := ⟨27, det_Check_4_sig, det_Check_4_out, fun X => det_Check_4 X⟩
theorem det_Check_4_ok : CE.ok Try.prog det_Check_4_ce := CE.of (Γ := []) (by kernel_rfl) TT_ok (GOK.nil) ⟨[], [], [], []⟩ Try.func27 rfl Try.ntmps27 (rs := [.tmp 2]) rfl (sig := det_Check_4_sig) (out := det_Check_4_out) rfl Try.call27 (fun X => by kernel_rfl)

def slices_IndexFunc_3_sig : Shape := ⟨[(.list (.int .i64))], [(0, .v 0), (1, .fn 27 [])], []⟩
def slices_IndexFunc_3_out : Shape := ⟨[(.int .i64)], [(0, .v 0)], []⟩
noncomputable def slices_IndexFunc_3_ce : CE := ⟨29, slices_IndexFunc_3_sig, slices_IndexFunc_3_out, fun X => slices_IndexFunc_3 X⟩
theorem slices_IndexFunc_3_ok : CE.ok Try.prog slices_IndexFunc_3_ce := CE.of (Γ := [det_Check_4_ce]) (by kernel_rfl) TT_ok (GOK.cons det_Check_4_ok (GOK.nil)) ⟨[(2, ⟨⟨[(.int .i64)], [(8, .v 0)], []⟩, [4, 5, 9, 10, 11, 12, 13, 14, 15, 16, 17, 18], [], [], 0, []⟩)], [], [], []⟩ Try.func29 rfl Try.ntmps29 (rs := [.tmp 4]) rfl (sig := slices_IndexFunc_3_sig) (out := slices_IndexFunc_3_out) rfl Try.call29 (fun X => by kernel_rfl)

def slices_ContainsFunc_3_sig : Shape := ⟨[(.list (.int .i64))], [(0, .v 0), (1, .fn 27 [])], []⟩
def slices_ContainsFunc_3_out : Shape := ⟨[.bool], [(0, .v 0)], []⟩
noncomputable def slices_ContainsFunc_3_ce : CE := ⟨26, slices_ContainsFunc_3_sig, slices_ContainsFunc_3_out, fun X => slices_ContainsFunc_3 X⟩
theorem slices_ContainsFunc_3_ok : CE.ok Try.prog slices_ContainsFunc_3_ce := CE.of (Γ := [slices_IndexFunc_3_ce]) (by kernel_rfl) TT_ok (GOK.cons slices_IndexFunc_3_ok (GOK.nil)) ⟨[], [], [], []⟩ Try.func26 rfl Try.ntmps26 (rs := [.tmp 4]) rfl (sig := slices_ContainsFunc_3_sig) (out := slices_ContainsFunc_3_out) rfl Try.call26 (fun X => by kernel_rfl)

def det_Check_sig : Shape := ⟨[(.pair (.int .i64) (.pair (.int .i64) (.pair (.list (.list (.int .i64))) (.pair (.list (.int .i64)) .unit))))], [(0, .v 0)], []⟩
def det_Check_out : Shape := ⟨[(.int .i64)], [(0, .v 0)], []⟩
noncomputable def det_Check_ce : CE := ⟨20, det_Check_sig, det_Check_out, fun X => det_Check X⟩
theorem det_Check_ok : CE.ok Try.prog det_Check_ce := CE.of (Γ := [slices_ContainsFunc_ce, det_Check_2_ce, slices_ContainsFunc_1_ce, slices_ContainsFunc_3_ce]) (by kernel_rfl) TT_ok (GOK.cons slices_ContainsFunc_ok (GOK.cons det_Check_2_ok (GOK.cons slices_ContainsFunc_1_ok (GOK.cons slices_ContainsFunc_3_ok (GOK.nil))))) ⟨[], [], [], []⟩ Try.func20 rfl Try.ntmps20 (rs := [.tmp 2]) rfl (sig := det_Check_sig) (out := det_Check_out) rfl Try.call20 (fun X => by kernel_rfl)

def higman_small_sig : Shape := ⟨[(.pair (.int .i64) (.pair (.int .i64) (.pair (.list (.list (.int .i64))) (.pair (.list (.int .i64)) .unit))))], [(0, .v 0)], []⟩
def higman_small_out : Shape := ⟨[(.int .i64)], [(0, .v 0)], []⟩
noncomputable def higman_small_ce : CE := ⟨11, higman_small_sig, higman_small_out, fun X => higman_small X⟩
theorem higman_small_ok : CE.ok Try.prog higman_small_ce := CE.of (Γ := [det_Check_ce]) (by kernel_rfl) TT_ok (GOK.cons det_Check_ok (GOK.nil)) ⟨[], [], [], []⟩ Try.func11 rfl Try.ntmps11 (rs := [.tmp 2]) rfl (sig := higman_small_sig) (out := higman_small_out) rfl Try.call11 (fun X => by kernel_rfl)

def word_May_sig : Shape := ⟨[(.int .i64), (.list (.int .i64))], [(0, .v 0), (1, .v 1)], []⟩
def word_May_out : Shape := ⟨[(.int .i64)], [(0, .v 0)], []⟩
noncomputable def word_May_ce : CE := ⟨28, word_May_sig, word_May_out, fun X => word_May X.1 X.2⟩
theorem word_May_ok : CE.ok Try.prog word_May_ce := CE.of (Γ := []) (by kernel_rfl) TT_ok (GOK.nil) ⟨[(6, ⟨⟨[(.int .i64)], [(18, .v 0)], []⟩, [4, 6, 19, 20, 21, 22, 23, 24, 25, 26, 27, 28, 29], [], [], 0, []⟩)], [], [], []⟩ Try.func28 rfl Try.ntmps28 (rs := [.tmp 4]) rfl (sig := word_May_sig) (out := word_May_out) rfl Try.call28 (fun X => by kernel_rfl)

def higman_Stands_sig : Shape := ⟨[(.list (.int .i64)), (.list (.int .i64))], [(0, .v 0), (1, .v 1)], []⟩
def higman_Stands_out : Shape := ⟨[.bool, (.int .i64), (.list (.int .i64))], [(0, .own 0), (1, .v 0), (2, .v 1)], [(0, .arr 3 2)]⟩
noncomputable def higman_Stands_ce : CE := ⟨22, higman_Stands_sig, higman_Stands_out, fun X => higman_Stands X.1 X.2⟩
theorem higman_Stands_ok : CE.ok Try.prog higman_Stands_ce := CE.of (Γ := [word_May_ce]) (by kernel_rfl) TT_ok (GOK.cons word_May_ok (GOK.nil)) ⟨[(2, ⟨⟨[(.int .i64), (.list (.int .i64))], [(4, .own 1), (16, .v 0)], [(1, .arr 3 1)]⟩, [5, 6, 8, 9, 17, 18, 19, 20, 21, 22, 23, 24, 25], [], [0], 2, []⟩), (9, ⟨⟨[(.int .i64), (.list (.int .i64))], [(4, .own 1), (28, .v 0)], [(1, .arr 3 1)]⟩, [10, 11, 29, 30, 31, 32, 33, 34, 35, 36, 37, 38, 39, 40, 41, 42, 43, 44, 45, 46, 47, 48, 49, 50, 51], [], [0], 2, []⟩)], [(11, ⟨⟨[.bool], [(46, .v 0)], []⟩, [33, 34, 35, 36, 37, 38, 39, 40, 41, 42, 43, 44, 45], [], [0, 1], 2, []⟩)], [], []⟩ Try.func22 rfl Try.ntmps22 (rs := [.tmp 4, .tmp 5, .tmp 6]) rfl (sig := higman_Stands_sig) (out := higman_Stands_out) rfl Try.call22 (fun X => by kernel_rfl)

def higman_within_sig : Shape := ⟨[(.list (.int .i64)), (.list (.int .i64))], [(0, .v 0), (1, .v 1)], []⟩
def higman_within_out : Shape := ⟨[.bool], [(0, .v 0)], []⟩
noncomputable def higman_within_ce : CE := ⟨14, higman_within_sig, higman_within_out, fun X => higman_within X.1 X.2⟩
theorem higman_within_ok : CE.ok Try.prog higman_within_ce := CE.of (Γ := [higman_Stands_ce]) (by kernel_rfl) TT_ok (GOK.cons higman_Stands_ok (GOK.nil)) ⟨[], [], [], []⟩ Try.func14 rfl Try.ntmps14 (rs := [.tmp 4]) rfl (sig := higman_within_sig) (out := higman_within_out) rfl Try.call14 (fun X => by kernel_rfl)

def higman_Least_1_sig : Shape := ⟨[(.list (.int .i64)), (.list (.int .i64))], [(0, .v 0), (1, .addr 1)], []⟩
def higman_Least_1_out : Shape := ⟨[.bool], [(0, .v 0)], []⟩
noncomputable def higman_Least_1_ce : CE := ⟨13, higman_Least_1_sig, higman_Least_1_out, fun X => higman_Least_1 X.1 X.2⟩
theorem higman_Least_1_ok : CE.ok Try.prog higman_Least_1_ce := CE.of (Γ := [higman_within_ce]) (by kernel_rfl) TT_ok (GOK.cons higman_within_ok (GOK.nil)) ⟨[], [], [], []⟩ Try.func13 rfl Try.ntmps13 (rs := [.tmp 3]) rfl (sig := higman_Least_1_sig) (out := higman_Least_1_out) rfl Try.call13 (fun X => by kernel_rfl)

def slices_IndexFunc_4_sig : Shape := ⟨[(.list (.list (.int .i64))), (.list (.int .i64))], [(0, .v 0), (1, .fn 13 [.addr 1])], []⟩
def slices_IndexFunc_4_out : Shape := ⟨[(.int .i64)], [(0, .v 0)], []⟩
noncomputable def slices_IndexFunc_4_ce : CE := ⟨21, slices_IndexFunc_4_sig, slices_IndexFunc_4_out, fun X => slices_IndexFunc_4 X.1 X.2⟩
theorem slices_IndexFunc_4_ok : CE.ok Try.prog slices_IndexFunc_4_ce := CE.of (Γ := [higman_Least_1_ce]) (by kernel_rfl) TT_ok (GOK.cons higman_Least_1_ok (GOK.nil)) ⟨[(2, ⟨⟨[(.int .i64)], [(8, .v 0)], []⟩, [4, 5, 9, 10, 11, 12, 13, 14, 15, 16, 17, 18], [], [], 0, []⟩)], [], [], []⟩ Try.func21 rfl Try.ntmps21 (rs := [.tmp 4]) rfl (sig := slices_IndexFunc_4_sig) (out := slices_IndexFunc_4_out) rfl Try.call21 (fun X => by kernel_rfl)

def slices_ContainsFunc_4_sig : Shape := ⟨[(.list (.list (.int .i64))), (.list (.int .i64))], [(0, .v 0), (1, .fn 13 [.addr 1])], []⟩
def slices_ContainsFunc_4_out : Shape := ⟨[.bool], [(0, .v 0)], []⟩
noncomputable def slices_ContainsFunc_4_ce : CE := ⟨12, slices_ContainsFunc_4_sig, slices_ContainsFunc_4_out, fun X => slices_ContainsFunc_4 X.1 X.2⟩
theorem slices_ContainsFunc_4_ok : CE.ok Try.prog slices_ContainsFunc_4_ce := CE.of (Γ := [slices_IndexFunc_4_ce]) (by kernel_rfl) TT_ok (GOK.cons slices_IndexFunc_4_ok (GOK.nil)) ⟨[], [], [], []⟩ Try.func12 rfl Try.ntmps12 (rs := [.tmp 4]) rfl (sig := slices_ContainsFunc_4_sig) (out := slices_ContainsFunc_4_out) rfl Try.call12 (fun X => by kernel_rfl)

def det_After_sig : Shape := ⟨[(.pair (.int .i64) (.pair (.int .i64) (.pair (.list (.list (.int .i64))) (.pair (.list (.int .i64)) .unit)))), (.int .i64), (.list (.int .i64))], [(0, .v 0), (1, .v 1), (2, .v 2)], []⟩
def det_After_out : Shape := ⟨[(.int .i64)], [(0, .v 0)], []⟩
noncomputable def det_After_ce : CE := ⟨15, det_After_sig, det_After_out, fun X => det_After X.1 X.2.1 X.2.2⟩
theorem det_After_ok : CE.ok Try.prog det_After_ce := CE.of (Γ := []) (by kernel_rfl) TT_ok (GOK.nil) ⟨[(2, ⟨⟨[(.int .i64), (.int .i64)], [(1, .v 0), (11, .v 1)], []⟩, [8, 12, 13, 14, 15, 16, 17, 18, 19, 20, 21, 22, 23], [], [0], 1, []⟩)], [], [], []⟩ Try.func15 rfl Try.ntmps15 (rs := [.tmp 6]) rfl (sig := det_After_sig) (out := det_After_out) rfl Try.call15 (fun X => by kernel_rfl)

def slices_Clone_sig : Shape := ⟨[(.list (.int .i64))], [(0, .v 0)], []⟩
def slices_Clone_out : Shape := ⟨[(.list (.int .i64))], [(0, .own 0)], [(0, .arr 3 0)]⟩
noncomputable def slices_Clone_ce : CE := ⟨16, slices_Clone_sig, slices_Clone_out, fun X => slices_Clone X⟩
theorem slices_Clone_ok : CE.ok Try.prog slices_Clone_ce := CE.of (Γ := []) (by kernel_rfl) TT_ok (GOK.nil) ⟨[], [], [], []⟩ Try.func16 rfl Try.ntmps16 (rs := [.tmp 2]) rfl (sig := slices_Clone_sig) (out := slices_Clone_out) rfl Try.call16 (fun X => by kernel_rfl)

def higman_Least_sig : Shape := ⟨[(.pair (.int .i64) (.pair (.int .i64) (.pair (.list (.list (.int .i64))) (.pair (.list (.int .i64)) .unit))))], [(0, .v 0)], []⟩
def higman_Least_out : Shape := ⟨[(.int .i64), (.list (.list (.int .i64)))], [(0, .own 0), (1, .v 0)], [(0, .arr 23 1)]⟩
noncomputable def higman_Least_ce : CE := ⟨4, higman_Least_sig, higman_Least_out, fun X => higman_Least X⟩
theorem higman_Least_ok : CE.ok Try.prog higman_Least_ce := CE.of (Γ := [higman_small_ce, slices_ContainsFunc_4_ce, det_After_ce, slices_Clone_ce]) (by kernel_rfl) TT_ok (GOK.cons higman_small_ok (GOK.cons slices_ContainsFunc_4_ok (GOK.cons det_After_ok (GOK.cons slices_Clone_ok (GOK.nil))))) ⟨[(6, ⟨⟨[(.list (.list (.int .i64))), (.list (.list (.int .i64)))], [(5, .own 3), (6, .own 2)], [(2, .arr 23 0), (3, .arr 23 1)]⟩, [7, 8, 15, 16, 17, 18, 19, 20, 21, 22, 23, 24, 25, 26, 27, 28, 29, 30, 31, 32, 33, 34, 35, 36, 37, 38, 39, 40, 41, 42, 43, 44, 45, 46, 47, 48, 49, 50, 51, 52, 53, 54, 55, 56, 57, 58, 59, 60, 61, 62, 63, 64], [], [0], 4, []⟩), (13, ⟨⟨[(.int .i64), (.list (.list (.int .i64)))], [(6, .own 2), (53, .v 0)], [(2, .arr 23 1)]⟩, [8, 16, 20, 21, 31, 32, 54, 55, 56, 57, 58, 59, 60, 61, 62, 63, 64], [], [0, 3, 4], 5, []⟩)], [], [(6, [(0, 0), (0, 1), (0, 2), (0, 3), (0, 4), (0, 5), (0, 6), (0, 7), (0, 8), (0, 9), (0, 10), (0, 11), (0, 12)]), (7, [(0, 0), (1, 1), (0, 2)]), (10, [(0, 0), (0, 1), (0, 2), (0, 3), (0, 4), (0, 5), (1, 6), (0, 7), (0, 8), (0, 9)])], []⟩ Try.func4 rfl Try.ntmps4 (rs := [.tmp 2, .tmp 3]) rfl (sig := higman_Least_sig) (out := higman_Least_out) rfl Try.call4 (fun X => by kernel_rfl)

def r3_Check_sig : Shape := ⟨[(.pair (.int .i64) (.pair (.int .i64) (.pair (.list (.list (.int .i64))) (.pair (.list (.int .i64)) .unit))))], [(0, .v 0)], []⟩
def r3_Check_out : Shape := ⟨[(.int .i64)], [(0, .v 0)], []⟩
noncomputable def r3_Check_ce : CE := ⟨5, r3_Check_sig, r3_Check_out, fun X => r3_Check X⟩
theorem r3_Check_ok : CE.ok Try.prog r3_Check_ce := CE.of (Γ := []) (by kernel_rfl) TT_ok (GOK.nil) ⟨[(9, ⟨⟨[(.int .i64)], [(4, .v 0)], []⟩, [2, 30, 31, 32, 33, 34, 35, 36, 37, 38, 39, 40, 41, 42, 43], [], [0], 1, []⟩), (16, ⟨⟨[(.int .i64)], [(5, .v 0)], []⟩, [2, 6, 53, 54, 55, 56, 57, 58, 59, 60, 61, 62, 63, 64, 65, 66, 67, 68, 69, 70, 71, 72, 73, 74, 75, 76, 77, 78, 79, 80, 81, 82, 83, 84], [], [0], 1, []⟩), (19, ⟨⟨[(.int .i64)], [(6, .v 0)], []⟩, [2, 58, 59, 60, 61, 62, 63, 64, 65, 66, 67, 68, 69, 70, 71, 72, 73, 74, 75, 76, 77, 78, 79, 80, 81, 82, 83, 84], [], [0], 1, []⟩), (24, ⟨⟨[(.int .i64)], [(7, .v 0)], []⟩, [2, 85, 86, 87, 88, 89, 90, 91, 92, 93, 94, 95, 96, 97, 98, 99, 100, 101, 102, 103], [], [0], 1, []⟩)], [], [(11, [(0, 0), (0, 1), (0, 2), (0, 3), (0, 4), (0, 5), (0, 6), (0, 7), (0, 8)])], []⟩ Try.func5 rfl Try.ntmps5 (rs := [.tmp 2]) rfl (sig := r3_Check_sig) (out := r3_Check_out) rfl Try.call5 (fun X => by kernel_rfl)

def r3_After_sig : Shape := ⟨[(.pair (.int .i64) (.pair (.int .i64) (.pair (.list (.list (.int .i64))) (.pair (.list (.int .i64)) .unit)))), (.int .i64), (.list (.int .i64))], [(0, .v 0), (1, .v 1), (2, .v 2)], []⟩
def r3_After_out : Shape := ⟨[(.int .i64)], [(0, .v 0)], []⟩
noncomputable def r3_After_ce : CE := ⟨19, r3_After_sig, r3_After_out, fun X => r3_After X.1 X.2.1 X.2.2⟩
theorem r3_After_ok : CE.ok Try.prog r3_After_ce := CE.of (Γ := []) (by kernel_rfl) TT_ok (GOK.nil) ⟨[(2, ⟨⟨[(.int .i64), (.int .i64)], [(1, .v 0), (7, .v 1)], []⟩, [8, 9, 10, 11, 12, 13, 14, 15, 16, 17, 18, 19, 20, 21, 22, 23, 24], [], [0], 1, []⟩)], [], [(4, [(0, 0), (0, 1), (0, 2), (0, 3), (0, 4), (0, 5), (0, 6), (0, 7), (0, 8), (0, 9), (0, 10), (0, 11)])], []⟩ Try.func19 rfl Try.ntmps19 (rs := [.tmp 6]) rfl (sig := r3_After_sig) (out := r3_After_out) rfl Try.call19 (fun X => by kernel_rfl)

def r3_Accepts_sig : Shape := ⟨[(.pair (.int .i64) (.pair (.int .i64) (.pair (.list (.list (.int .i64))) (.pair (.list (.int .i64)) .unit)))), (.list (.int .i64))], [(0, .v 0), (1, .v 1)], []⟩
def r3_Accepts_out : Shape := ⟨[.bool], [(0, .v 0)], []⟩
noncomputable def r3_Accepts_ce : CE := ⟨9, r3_Accepts_sig, r3_Accepts_out, fun X => r3_Accepts X.1 X.2⟩
theorem r3_Accepts_ok : CE.ok Try.prog r3_Accepts_ce := CE.of (Γ := [r3_After_ce]) (by kernel_rfl) TT_ok (GOK.cons r3_After_ok (GOK.nil)) ⟨[], [], [], []⟩ Try.func9 rfl Try.ntmps9 (rs := [.tmp 4]) rfl (sig := r3_Accepts_sig) (out := r3_Accepts_out) rfl Try.call9 (fun X => by kernel_rfl)

def r32_Within_sig : Shape := ⟨[(.list (.int .i64)), (.list (.int .i64))], [(0, .v 0), (1, .v 1)], []⟩
def r32_Within_out : Shape := ⟨[.bool, (.list (.int .i64))], [(0, .own 0), (1, .v 0)], [(0, .arr 3 1)]⟩
noncomputable def r32_Within_ce : CE := ⟨10, r32_Within_sig, r32_Within_out, fun X => r32_Within X.1 X.2⟩
theorem r32_Within_ok : CE.ok Try.prog r32_Within_ce := CE.of (Γ := []) (by kernel_rfl) TT_ok (GOK.nil) ⟨[(4, ⟨⟨[(.int .i64), (.int .i64), (.list (.int .i64))], [(6, .own 0), (7, .v 0), (8, .v 1)], [(0, .arr 3 2)]⟩, [4, 5, 9, 10, 11, 12, 13, 14, 15, 16, 17, 18, 19, 20, 21, 22, 23, 24, 25, 26, 27, 28, 29, 30, 31, 32, 33, 34, 35, 36, 37, 38, 39, 40, 41], [], [], 1, []⟩), (6, ⟨⟨[(.int .i64)], [(7, .v 0)], []⟩, [15, 16, 17, 18, 19, 20, 21, 22, 23, 24, 25, 26, 27, 28, 29, 30, 31], [], [0], 1, []⟩)], [(7, ⟨⟨[(.int .i64)], [(7, .v 0)], []⟩, [15, 16, 17, 18, 19, 20, 21, 22, 23, 24, 25, 26, 27, 28, 29, 30, 31], [], [0], 1, []⟩)], [(6, [(0, 0), (0, 1), (0, 2), (0, 3), (0, 4), (0, 5), (0, 6), (0, 7), (0, 8), (0, 9), (0, 10), (0, 11), (0, 12), (0, 13), (0, 14)])], []⟩ Try.func10 rfl Try.ntmps10 (rs := [.tmp 4, .tmp 5]) rfl (sig := r32_Within_sig) (out := r32_Within_out) rfl Try.call10 (fun X => by kernel_rfl)

def r1_Next_sig : Shape := ⟨[(.int .i64), (.list (.int .i64))], [(0, .v 0), (1, .v 1)], []⟩
def r1_Next_out : Shape := ⟨[(.list (.int .i64))], [(0, .own 0)], [(0, .arr 3 0)]⟩
noncomputable def r1_Next_ce : CE := ⟨17, r1_Next_sig, r1_Next_out, fun X => r1_Next X.1 X.2⟩
theorem r1_Next_ok : CE.ok Try.prog r1_Next_ce := CE.of (Γ := []) (by kernel_rfl) TT_ok (GOK.nil) ⟨[(3, ⟨⟨[(.int .i64), (.list (.int .i64))], [(5, .own 1), (6, .v 0)], [(1, .arr 3 1)]⟩, [4, 7, 9, 10, 13, 14, 15, 16, 17, 18, 19, 20, 21, 22, 23, 24, 25, 26, 27, 28, 29, 30, 31, 32, 33], [], [], 2, []⟩)], [], [], []⟩ Try.func17 rfl Try.ntmps17 (rs := [.tmp 4]) rfl (sig := r1_Next_sig) (out := r1_Next_out) rfl Try.call17 (fun X => by kernel_rfl)

def r32_Least_sig : Shape := ⟨[(.pair (.int .i64) (.pair (.int .i64) (.pair (.list (.list (.int .i64))) (.pair (.list (.int .i64)) .unit))))], [(0, .v 0)], []⟩
def r32_Least_out : Shape := ⟨[(.list (.list (.int .i64)))], [(0, .own 0)], [(0, .arr 23 0)]⟩
noncomputable def r32_Least_ce : CE := ⟨6, r32_Least_sig, r32_Least_out, fun X => r32_Least X⟩
theorem r32_Least_ok : CE.ok Try.prog r32_Least_ce := CE.of (Γ := [r3_Accepts_ce, r32_Within_ce, r1_Next_ce]) (by kernel_rfl) TT_ok (GOK.cons r3_Accepts_ok (GOK.cons r32_Within_ok (GOK.cons r1_Next_ok (GOK.nil)))) ⟨[(3, ⟨⟨[(.list (.list (.int .i64))), (.list (.int .i64))], [(3, .own 1), (4, .own 2)], [(1, .arr 23 0), (2, .arr 3 1)]⟩, [5, 6, 7, 8, 9, 10, 11, 12, 13, 14, 15, 16, 17, 18, 19, 20, 21, 22, 23, 24, 25, 26, 27, 28, 29, 30, 31, 32, 33, 34, 35, 36, 37, 38, 39, 40, 41, 42, 43, 44, 45, 46], [], [0], 3, []⟩), (6, ⟨⟨[.bool, (.int .i64)], [(5, .v 0), (6, .v 1)], []⟩, [7, 8, 18, 19, 20, 21, 22, 23, 24, 25, 26, 27, 28, 29, 30, 31, 32, 33, 34, 35, 36, 37], [], [0, 1, 2], 3, []⟩)], [(7, ⟨⟨[.bool], [(5, .v 0)], []⟩, [6, 7, 8, 18, 19, 20, 21, 22, 23, 24, 25, 26, 27, 28, 29, 30, 31, 32, 33, 34, 35, 36, 37], [], [0, 1, 2], 3, []⟩)], [], []⟩ Try.func6 rfl Try.ntmps6 (rs := [.tmp 2]) rfl (sig := r32_Least_sig) (out := r32_Least_out) rfl Try.call6 (fun X => by kernel_rfl)

def r1_Words_sig : Shape := ⟨[(.list (.int .i64)), (.list (.int .i64))], [(0, .v 0), (1, .v 1)], []⟩
def r1_Words_out : Shape := ⟨[.bool], [(0, .v 0)], []⟩
noncomputable def r1_Words_ce : CE := ⟨18, r1_Words_sig, r1_Words_out, fun X => r1_Words X.1 X.2⟩
theorem r1_Words_ok : CE.ok Try.prog r1_Words_ce := CE.of (Γ := []) (by kernel_rfl) TT_ok (GOK.nil) ⟨[(4, ⟨⟨[(.int .i64)], [(5, .v 0)], []⟩, [4, 11, 12, 13, 14, 15, 16, 17, 18, 19, 20, 21, 22, 23, 24, 25], [], [], 0, []⟩)], [], [(6, [(0, 0), (0, 1), (0, 2), (0, 3), (0, 4), (0, 5), (0, 6), (0, 7), (0, 8)])], []⟩ Try.func18 rfl Try.ntmps18 (rs := [.tmp 4]) rfl (sig := r1_Words_sig) (out := r1_Words_out) rfl Try.call18 (fun X => by kernel_rfl)

def law_sameLists_sig : Shape := ⟨[(.list (.list (.int .i64))), (.list (.list (.int .i64)))], [(0, .v 0), (1, .v 1)], []⟩
def law_sameLists_out : Shape := ⟨[.bool], [(0, .v 0)], []⟩
noncomputable def law_sameLists_ce : CE := ⟨7, law_sameLists_sig, law_sameLists_out, fun X => law_sameLists X.1 X.2⟩
theorem law_sameLists_ok : CE.ok Try.prog law_sameLists_ce := CE.of (Γ := [r1_Words_ce]) (by kernel_rfl) TT_ok (GOK.cons r1_Words_ok (GOK.nil)) ⟨[(4, ⟨⟨[(.int .i64)], [(5, .v 0)], []⟩, [4, 6, 12, 13, 14, 15, 16, 17, 18, 19, 20, 21, 22, 23, 24, 25, 26, 27, 28], [], [], 0, []⟩)], [], [(6, [(0, 0), (0, 1), (0, 2), (0, 3), (0, 4), (0, 5), (0, 6), (0, 7), (1, 8), (0, 9)])], []⟩ Try.func7 rfl Try.ntmps7 (rs := [.tmp 4]) rfl (sig := law_sameLists_sig) (out := law_sameLists_out) rfl Try.call7 (fun X => by kernel_rfl)

def r1_May_sig : Shape := ⟨[(.int .i64), (.list (.int .i64))], [(0, .v 0), (1, .v 1)], []⟩
def r1_May_out : Shape := ⟨[(.int .i64)], [(0, .v 0)], []⟩
noncomputable def r1_May_ce : CE := ⟨8, r1_May_sig, r1_May_out, fun X => r1_May X.1 X.2⟩
theorem r1_May_ok : CE.ok Try.prog r1_May_ce := CE.of (Γ := []) (by kernel_rfl) TT_ok (GOK.nil) ⟨[(6, ⟨⟨[(.int .i64)], [(5, .v 0)], []⟩, [4, 15, 16, 17, 18, 19, 20, 21, 22, 23, 24, 25, 26, 27, 28, 29, 30, 31, 32, 33], [], [], 0, []⟩)], [], [], []⟩ Try.func8 rfl Try.ntmps8 (rs := [.tmp 4]) rfl (sig := r1_May_sig) (out := r1_May_out) rfl Try.call8 (fun X => by kernel_rfl)

def law_HigmanLeast_sig : Shape := ⟨[(.pair (.int .i64) (.pair (.int .i64) (.pair (.list (.list (.int .i64))) (.pair (.list (.int .i64)) .unit)))), (.list (.int .i64))], [(0, .v 0), (1, .v 1)], []⟩
def law_HigmanLeast_out : Shape := ⟨[.bool], [(0, .v 0)], []⟩
noncomputable def law_HigmanLeast_ce : CE := ⟨3, law_HigmanLeast_sig, law_HigmanLeast_out, fun X => law_HigmanLeast X.1 X.2⟩
theorem law_HigmanLeast_ok : CE.ok Try.prog law_HigmanLeast_ce := CE.of (Γ := [higman_Least_ce, r3_Check_ce, r32_Least_ce, law_sameLists_ce, r1_May_ce, r3_Accepts_ce, r32_Within_ce]) (by kernel_rfl) TT_ok (GOK.cons higman_Least_ok (GOK.cons r3_Check_ok (GOK.cons r32_Least_ok (GOK.cons law_sameLists_ok (GOK.cons r1_May_ok (GOK.cons r3_Accepts_ok (GOK.cons r32_Within_ok (GOK.nil)))))))) ⟨[(16, ⟨⟨[(.int .i64)], [(12, .v 0)], []⟩, [4, 13, 14, 60, 61, 62, 63, 64, 65, 66, 67, 68, 69, 70, 71, 72, 73, 74, 75], [], [0, 1, 2], 3, []⟩)], [(3, ⟨⟨[.bool], [(29, .v 0)], []⟩, [22, 23, 24, 25, 26, 27, 28], [], [0, 1], 2, []⟩), (4, ⟨⟨[(.int .i64)], [(7, .v 0)], []⟩, [22, 23, 24, 25, 26, 27, 28, 29], [], [0, 1], 2, []⟩)], [], []⟩ Try.func3 rfl Try.ntmps3 (rs := [.tmp 4]) rfl (sig := law_HigmanLeast_sig) (out := law_HigmanLeast_out) rfl Try.call3 (fun X => by kernel_rfl)

end Go.Proofs.Ytekchjonmenjiaa.higmanLeastW
