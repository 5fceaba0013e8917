/- That the functions of 'CodeSync' compute so. -/
import Derived.Test.YtogcngcbpkjdfaaCodeSyncD
import Derived.Test.YtogcngcbpkjdfaaProg
import Derived.KernelRfl
set_option maxHeartbeats 1000000
set_option maxRecDepth 20000
set_option linter.unusedSimpArgs false
set_option linter.unusedVariables false
namespace Go.Proofs.Ytogcngcbpkjdfaa.codeSyncW
open Go Go.Ab
def te3 : TE := ⟨3, .int .i64, false, 1, 8, .int .i64 0, some (.int .i64)⟩
theorem te3_ok : TEok Try.prog te3 := ⟨TI.of Try.underlying3 rfl (by kernel_rfl), Try.underlying3, fun t h => by cases h; exact ⟨rfl, rfl, by decide, rfl⟩⟩
def te4 : TE := ⟨4, .bool, false, 1, 1, .bool false, some .bool⟩
theorem te4_ok : TEok Try.prog te4 := ⟨TI.of Try.underlying4 rfl (by kernel_rfl), Try.underlying4, fun t h => by cases h; exact ⟨rfl, rfl, by decide, rfl⟩⟩
def te22 : TE := ⟨22, .slice 23, false, 1, 24, .slice none 0 0, some (.list (.list (.int .i64)))⟩
theorem te22_ok : TEok Try.prog te22 := ⟨TI.of Try.underlying22 rfl (by kernel_rfl), Try.underlying22, fun t h => by cases h; exact ⟨rfl, rfl, by decide, rfl⟩⟩
def te23 : TE := ⟨23, .slice 3, false, 1, 24, .slice none 0 0, some (.list (.int .i64))⟩
theorem te23_ok : TEok Try.prog te23 := ⟨TI.of Try.underlying23 rfl (by kernel_rfl), Try.underlying23, fun t h => by cases h; exact ⟨rfl, rfl, by decide, rfl⟩⟩
def te25 : TE := ⟨25, .struct [(0, 3), (1, 3), (2, 22), (3, 23)], true, 4, 64, .agg ⟨[.int .i64 0, .int .i64 0, .slice none 0 0, .slice none 0 0]⟩, some (.pair (.int .i64) (.pair (.int .i64) (.pair (.list (.list (.int .i64))) (.pair (.list (.int .i64)) .unit))))⟩
theorem te25_ok : TEok Try.prog te25 := ⟨TI.of Try.underlying25 rfl (by kernel_rfl), ⟨_, Try.underlying25, rfl⟩, fun t h => by cases h; exact ⟨rfl, rfl, by decide, rfl⟩⟩
def te26 : TE := ⟨26, .int .i64, false, 1, 8, .int .i64 0, some (.int .i64)⟩
theorem te26_ok : TEok Try.prog te26 := ⟨TI.of Try.underlying26 rfl (by kernel_rfl), Try.underlying26, fun t h => by cases h; exact ⟨rfl, rfl, by decide, rfl⟩⟩
def te34 : TE := ⟨34, .map 3 3, false, 1, 8, .map none, none⟩
theorem te34_ok : TEok Try.prog te34 := ⟨TI.of Try.underlying34 rfl (by kernel_rfl), Try.underlying34, fun t h => by cases h⟩
def te36 : TE := ⟨36, .struct [(0, 3), (1, 23)], true, 2, 32, .agg ⟨[.int .i64 0, .slice none 0 0]⟩, some (.pair (.int .i64) (.pair (.list (.int .i64)) .unit))⟩
theorem te36_ok : TEok Try.prog te36 := ⟨TI.of Try.underlying36 rfl (by kernel_rfl), ⟨_, Try.underlying36, rfl⟩, fun t h => by cases h; exact ⟨rfl, rfl, by decide, rfl⟩⟩
def te37 : TE := ⟨37, .slice 36, false, 1, 24, .slice none 0 0, some (.list (.pair (.int .i64) (.pair (.list (.int .i64)) .unit)))⟩
theorem te37_ok : TEok Try.prog te37 := ⟨TI.of Try.underlying37 rfl (by kernel_rfl), Try.underlying37, fun t h => by cases h; exact ⟨rfl, rfl, by decide, rfl⟩⟩
def te39 : TE := ⟨39, .slice 4, false, 1, 24, .slice none 0 0, some (.list .bool)⟩
theorem te39_ok : TEok Try.prog te39 := ⟨TI.of Try.underlying39 rfl (by kernel_rfl), Try.underlying39, fun t h => by cases h; exact ⟨rfl, rfl, by decide, rfl⟩⟩
def te42 : TE := ⟨42, .other, false, 1, 8, .nilFunc, none⟩
theorem te42_ok : TEok Try.prog te42 := ⟨TI.of Try.underlying42 rfl (by kernel_rfl), trivial, fun t h => by cases h⟩
def TT : List TE := [te3, te4, te22, te23, te25, te26, te34, te36, te37, te39, te42]
theorem TT_ok : TOK Try.prog TT := TOK.cons te3_ok (TOK.cons te4_ok (TOK.cons te22_ok (TOK.cons te23_ok (TOK.cons te25_ok (TOK.cons te26_ok (TOK.cons te34_ok (TOK.cons te36_ok (TOK.cons te37_ok (TOK.cons te39_ok (TOK.cons te42_ok (TOK.nil)))))))))))

def det_Check_1_sig : Shape := ⟨[(.list (.int .i64)), (.pair (.int .i64) (.pair (.int .i64) (.pair (.list (.list (.int .i64))) (.pair (.list (.int .i64)) .unit))))], [(0, .v 0), (1, .addr 1)], []⟩
def det_Check_1_out : Shape := ⟨[.bool], [(0, .v 0)], []⟩
noncomputable def det_Check_1_ce : CE := ⟨11, det_Check_1_sig, det_Check_1_out, fun X => det_Check_1 X.1 X.2⟩
theorem det_Check_1_ok : CE.ok Try.prog det_Check_1_ce := CE.of (Γ := []) (by kernel_rfl) TT_ok (GOK.nil) ⟨[], [], [], []⟩ Try.func11 rfl Try.ntmps11 (rs := [.tmp 3]) rfl (sig := det_Check_1_sig) (out := det_Check_1_out) rfl Try.call11 (fun X => by kernel_rfl)

def slices_IndexFunc_sig : Shape := ⟨[(.list (.list (.int .i64))), (.pair (.int .i64) (.pair (.int .i64) (.pair (.list (.list (.int .i64))) (.pair (.list (.int .i64)) .unit))))], [(0, .v 0), (1, .fn 11 [.addr 1])], []⟩
def slices_IndexFunc_out : Shape := ⟨[(.int .i64)], [(0, .v 0)], []⟩
noncomputable def slices_IndexFunc_ce : CE := ⟨16, slices_IndexFunc_sig, slices_IndexFunc_out, fun X => slices_IndexFunc X.1 X.2⟩
theorem slices_IndexFunc_ok : CE.ok Try.prog slices_IndexFunc_ce := CE.of (Γ := [det_Check_1_ce]) (by kernel_rfl) TT_ok (GOK.cons det_Check_1_ok (GOK.nil)) ⟨[(2, ⟨⟨[(.int .i64)], [(8, .v 0)], []⟩, [4, 5, 9, 10, 11, 12, 13, 14, 15, 16, 17, 18], [], [], 0, []⟩)], [], [], []⟩ Try.func16 rfl Try.ntmps16 (rs := [.tmp 4]) rfl (sig := slices_IndexFunc_sig) (out := slices_IndexFunc_out) rfl Try.call16 (fun X => by kernel_rfl)

def slices_ContainsFunc_sig : Shape := ⟨[(.list (.list (.int .i64))), (.pair (.int .i64) (.pair (.int .i64) (.pair (.list (.list (.int .i64))) (.pair (.list (.int .i64)) .unit))))], [(0, .v 0), (1, .fn 11 [.addr 1])], []⟩
def slices_ContainsFunc_out : Shape := ⟨[.bool], [(0, .v 0)], []⟩
noncomputable def slices_ContainsFunc_ce : CE := ⟨10, slices_ContainsFunc_sig, slices_ContainsFunc_out, fun X => slices_ContainsFunc X.1 X.2⟩
theorem slices_ContainsFunc_ok : CE.ok Try.prog slices_ContainsFunc_ce := CE.of (Γ := [slices_IndexFunc_ce]) (by kernel_rfl) TT_ok (GOK.cons slices_IndexFunc_ok (GOK.nil)) ⟨[], [], [], []⟩ Try.func10 rfl Try.ntmps10 (rs := [.tmp 4]) rfl (sig := slices_ContainsFunc_sig) (out := slices_ContainsFunc_out) rfl Try.call10 (fun X => by kernel_rfl)

def det_Check_2_sig : Shape := ⟨[(.int .i64), (.int .i64)], [(0, .v 0), (1, .addr 1)], []⟩
def det_Check_2_out : Shape := ⟨[.bool], [(0, .v 0)], []⟩
noncomputable def det_Check_2_ce : CE := ⟨12, det_Check_2_sig, det_Check_2_out, fun X => det_Check_2 X.1 X.2⟩
theorem det_Check_2_ok : CE.ok Try.prog det_Check_2_ce := CE.of (Γ := []) (by kernel_rfl) TT_ok (GOK.nil) ⟨[], [], [], []⟩ Try.func12 rfl Try.ntmps12 (rs := [.tmp 3]) rfl (sig := det_Check_2_sig) (out := det_Check_2_out) rfl Try.call12 (fun X => by kernel_rfl)

def slices_IndexFunc_2_sig : Shape := ⟨[(.list (.int .i64)), (.int .i64)], [(0, .v 0), (1, .fn 12 [.addr 1])], []⟩
def slices_IndexFunc_2_out : Shape := ⟨[(.int .i64)], [(0, .v 0)], []⟩
noncomputable def slices_IndexFunc_2_ce : CE := ⟨17, slices_IndexFunc_2_sig, slices_IndexFunc_2_out, fun X => slices_IndexFunc_2 X.1 X.2⟩
theorem slices_IndexFunc_2_ok : CE.ok Try.prog slices_IndexFunc_2_ce := CE.of (Γ := [det_Check_2_ce]) (by kernel_rfl) TT_ok (GOK.cons det_Check_2_ok (GOK.nil)) ⟨[(2, ⟨⟨[(.int .i64)], [(8, .v 0)], []⟩, [4, 5, 9, 10, 11, 12, 13, 14, 15, 16, 17, 18], [], [], 0, []⟩)], [], [], []⟩ Try.func17 rfl Try.ntmps17 (rs := [.tmp 4]) rfl (sig := slices_IndexFunc_2_sig) (out := slices_IndexFunc_2_out) rfl Try.call17 (fun X => by kernel_rfl)

def slices_ContainsFunc_2_sig : Shape := ⟨[(.list (.int .i64)), (.int .i64)], [(0, .v 0), (1, .fn 12 [.addr 1])], []⟩
def slices_ContainsFunc_2_out : Shape := ⟨[.bool], [(0, .v 0)], []⟩
noncomputable def slices_ContainsFunc_2_ce : CE := ⟨14, slices_ContainsFunc_2_sig, slices_ContainsFunc_2_out, fun X => slices_ContainsFunc_2 X.1 X.2⟩
theorem slices_ContainsFunc_2_ok : CE.ok Try.prog slices_ContainsFunc_2_ce := CE.of (Γ := [slices_IndexFunc_2_ce]) (by kernel_rfl) TT_ok (GOK.cons slices_IndexFunc_2_ok (GOK.nil)) ⟨[], [], [], []⟩ Try.func14 rfl Try.ntmps14 (rs := [.tmp 4]) rfl (sig := slices_ContainsFunc_2_sig) (out := slices_ContainsFunc_2_out) rfl Try.call14 (fun X => by kernel_rfl)

def det_Check_3_sig : Shape := ⟨[(.list (.int .i64)), (.int .i64)], [(0, .v 0), (1, .ptr 100000 0)], [(100000, .box 42 [.fn 12 [.addr 1]])]⟩
def det_Check_3_out : Shape := ⟨[.bool, (.int .i64)], [(0, .v 0)], [(100000, .box 42 [.fn 12 [.addr 1]])]⟩
noncomputable def det_Check_3_ce : CE := ⟨13, det_Check_3_sig, det_Check_3_out, fun X => det_Check_3 X.1 X.2⟩
theorem det_Check_3_ok : CE.ok Try.prog det_Check_3_ce := CE.of (Γ := [slices_ContainsFunc_2_ce]) (by kernel_rfl) TT_ok (GOK.cons slices_ContainsFunc_2_ok (GOK.nil)) ⟨[], [], [], []⟩ Try.func13 rfl Try.ntmps13 (rs := [.tmp 3]) rfl (sig := det_Check_3_sig) (out := det_Check_3_out) rfl Try.call13 (fun X => by kernel_rfl)

def slices_IndexFunc_1_sig : Shape := ⟨[(.list (.list (.int .i64))), (.int .i64)], [(0, .v 0), (1, .fn 13 [.ptr 100000 0])], [(100000, .box 42 [.fn 12 [.addr 1]])]⟩
def slices_IndexFunc_1_out : Shape := ⟨[(.int .i64), (.int .i64)], [(0, .v 0)], [(100000, .box 42 [.fn 12 [.addr 1]])]⟩
noncomputable def slices_IndexFunc_1_ce : CE := ⟨16, slices_IndexFunc_1_sig, slices_IndexFunc_1_out, fun X => slices_IndexFunc_1 X.1 X.2⟩
theorem slices_IndexFunc_1_ok : CE.ok Try.prog slices_IndexFunc_1_ce := CE.of (Γ := [det_Check_3_ce]) (by kernel_rfl) TT_ok (GOK.cons det_Check_3_ok (GOK.nil)) ⟨[(2, ⟨⟨[(.int .i64), (.int .i64)], [(1, .fn 13 [.ptr 100000 0]), (8, .v 0)], [(100000, .box 42 [.fn 12 [.addr 1]])]⟩, [4, 5, 9, 10, 11, 12, 13, 14, 15, 16, 17, 18], [], [], 0, []⟩)], [], [], []⟩ Try.func16 rfl Try.ntmps16 (rs := [.tmp 4]) rfl (sig := slices_IndexFunc_1_sig) (out := slices_IndexFunc_1_out) rfl Try.call16 (fun X => by kernel_rfl)

def slices_ContainsFunc_1_sig : Shape := ⟨[(.list (.list (.int .i64))), (.int .i64)], [(0, .v 0), (1, .fn 13 [.ptr 100000 0])], [(100000, .box 42 [.fn 12 [.addr 1]])]⟩
def slices_ContainsFunc_1_out : Shape := ⟨[.bool, (.int .i64)], [(0, .v 0)], [(100000, .box 42 [.fn 12 [.addr 1]])]⟩
noncomputable def slices_ContainsFunc_1_ce : CE := ⟨10, slices_ContainsFunc_1_sig, slices_ContainsFunc_1_out, fun X => slices_ContainsFunc_1 X.1 X.2⟩
theorem slices_ContainsFunc_1_ok : CE.ok Try.prog slices_ContainsFunc_1_ce := CE.of (Γ := [slices_IndexFunc_1_ce]) (by kernel_rfl) TT_ok (GOK.cons slices_IndexFunc_1_ok (GOK.nil)) ⟨[], [], [], []⟩ Try.func10 rfl Try.ntmps10 (rs := [.tmp 4]) rfl (sig := slices_ContainsFunc_1_sig) (out := slices_ContainsFunc_1_out) rfl Try.call10 (fun X => by kernel_rfl)

def det_Check_4_sig : Shape := ⟨[(.int .i64)], [(0, .v 0)], []⟩
def det_Check_4_out : Shape := ⟨[.bool], [(0, .v 0)], []⟩
noncomputable def det_Check_4_ce : CE := ⟨15, det_Check_4_sig, det_Check_4_out, fun X => det_Check_4 X⟩
theorem det_Check_4_ok : CE.ok Try.prog det_Check_4_ce := CE.of (Γ := []) (by kernel_rfl) TT_ok (GOK.nil) ⟨[], [], [], []⟩ Try.func15 rfl Try.ntmps15 (rs := [.tmp 2]) rfl (sig := det_Check_4_sig) (out := det_Check_4_out) rfl Try.call15 (fun X => by kernel_rfl)

def slices_IndexFunc_3_sig : Shape := ⟨[(.list (.int .i64))], [(0, .v 0), (1, .fn 15 [])], []⟩
def slices_IndexFunc_3_out : Shape := ⟨[(.int .i64)], [(0, .v 0)], []⟩
noncomputable def slices_IndexFunc_3_ce : CE := ⟨17, slices_IndexFunc_3_sig, slices_IndexFunc_3_out, fun X => slices_IndexFunc_3 X⟩
theorem slices_IndexFunc_3_ok : CE.ok Try.prog slices_IndexFunc_3_ce := CE.of (Γ := [det_Check_4_ce]) (by kernel_rfl) TT_ok (GOK.cons det_Check_4_ok (GOK.nil)) ⟨[(2, ⟨⟨[(.int .i64)], [(8, .v 0)], []⟩, [4, 5, 9, 10, 11, 12, 13, 14, 15, 16, 17, 18], [], [], 0, []⟩)], [], [], []⟩ Try.func17 rfl Try.ntmps17 (rs := [.tmp 4]) rfl (sig := slices_IndexFunc_3_sig) (out := slices_IndexFunc_3_out) rfl Try.call17 (fun X => by kernel_rfl)

def slices_ContainsFunc_3_sig : Shape := ⟨[(.list (.int .i64))], [(0, .v 0), (1, .fn 15 [])], []⟩
def slices_ContainsFunc_3_out : Shape := ⟨[.bool], [(0, .v 0)], []⟩
noncomputable def slices_ContainsFunc_3_ce : CE := ⟨14, slices_ContainsFunc_3_sig, slices_ContainsFunc_3_out, fun X => slices_ContainsFunc_3 X⟩
theorem slices_ContainsFunc_3_ok : CE.ok Try.prog slices_ContainsFunc_3_ce := CE.of (Γ := [slices_IndexFunc_3_ce]) (by kernel_rfl) TT_ok (GOK.cons slices_IndexFunc_3_ok (GOK.nil)) ⟨[], [], [], []⟩ Try.func14 rfl Try.ntmps14 (rs := [.tmp 4]) rfl (sig := slices_ContainsFunc_3_sig) (out := slices_ContainsFunc_3_out) rfl Try.call14 (fun X => by kernel_rfl)

def det_Check_sig : Shape := ⟨[(.pair (.int .i64) (.pair (.int .i64) (.pair (.list (.list (.int .i64))) (.pair (.list (.int .i64)) .unit))))], [(0, .v 0)], []⟩
def det_Check_out : Shape := ⟨[(.int .i64)], [(0, .v 0)], []⟩
noncomputable def det_Check_ce : CE := ⟨8, det_Check_sig, det_Check_out, fun X => det_Check X⟩
theorem det_Check_ok : CE.ok Try.prog det_Check_ce := CE.of (Γ := [slices_ContainsFunc_ce, det_Check_2_ce, slices_ContainsFunc_1_ce, slices_ContainsFunc_3_ce]) (by kernel_rfl) TT_ok (GOK.cons slices_ContainsFunc_ok (GOK.cons det_Check_2_ok (GOK.cons slices_ContainsFunc_1_ok (GOK.cons slices_ContainsFunc_3_ok (GOK.nil))))) ⟨[], [], [], []⟩ Try.func8 rfl Try.ntmps8 (rs := [.tmp 2]) rfl (sig := det_Check_sig) (out := det_Check_out) rfl Try.call8 (fun X => by kernel_rfl)

def slices_Clone_sig : Shape := ⟨[(.list (.int .i64))], [(0, .v 0)], []⟩
def slices_Clone_out : Shape := ⟨[(.list (.int .i64))], [(0, .own 0)], [(0, .arr 3 0)]⟩
noncomputable def slices_Clone_ce : CE := ⟨9, slices_Clone_sig, slices_Clone_out, fun X => slices_Clone X⟩
theorem slices_Clone_ok : CE.ok Try.prog slices_Clone_ce := CE.of (Γ := []) (by kernel_rfl) TT_ok (GOK.nil) ⟨[], [], [], []⟩ Try.func9 rfl Try.ntmps9 (rs := [.tmp 2]) rfl (sig := slices_Clone_sig) (out := slices_Clone_out) rfl Try.call9 (fun X => by kernel_rfl)

def code_Sync_sig : Shape := ⟨[(.pair (.int .i64) (.pair (.int .i64) (.pair (.list (.list (.int .i64))) (.pair (.list (.int .i64)) .unit))))], [(0, .v 0)], []⟩
def code_Sync_out : Shape := ⟨[(.list (.int .i64)), .bool, (.int .i64)], [(0, .v 0), (1, .v 1), (2, .v 2)], []⟩
noncomputable def code_Sync_ce : CE := ⟨4, code_Sync_sig, code_Sync_out, fun X => code_Sync X⟩
theorem code_Sync_ok : CE.ok Try.prog code_Sync_ce := CE.of (Γ := [det_Check_ce, slices_Clone_ce]) (by kernel_rfl) TT_ok (GOK.cons det_Check_ok (GOK.cons slices_Clone_ok (GOK.nil))) ⟨[(8, ⟨⟨[(.list (.int .i64)), (.list (.int .i64)), (.list (.pair (.int .i64) (.pair (.list (.int .i64)) .unit)))], [(6, .own 1), (7, .own 2)], [(1, .box 34 [.v 0, .v 1]), (2, .arr 36 2)]⟩, [2, 3, 4, 8, 9, 10, 11, 12, 22, 29, 30, 31, 32, 33, 34, 35, 36, 37, 38, 39, 40, 41, 42, 43, 44, 45, 46, 47, 48, 49, 50, 51, 52, 53, 54, 55, 56, 57, 58, 59, 60, 61, 62, 63, 64, 65, 66, 67, 68, 69, 70, 71, 72, 73, 74, 75, 76, 77, 78, 79, 80, 81, 82, 83, 84, 85, 86, 87, 88, 89, 90, 91], [], [0], 3, []⟩), (14, ⟨⟨[(.int .i64), (.list (.int .i64)), (.list (.int .i64)), (.list (.pair (.int .i64) (.pair (.list (.int .i64)) .unit)))], [(6, .own 1), (7, .own 2), (49, .v 0)], [(1, .box 34 [.v 1, .v 2]), (2, .arr 36 3)]⟩, [9, 10, 11, 12, 30, 35, 36, 50, 51, 52, 53, 54, 55, 56, 57, 58, 59, 60, 61, 62, 63, 64, 65, 66, 67, 68, 69, 70, 71, 72, 73, 74, 75, 76, 77, 78, 79, 80, 81, 82, 83, 84, 85, 86, 87, 88, 89, 90, 91], [], [0, 3], 4, []⟩), (18, ⟨⟨[(.int .i64), (.int .i64)], [(10, .v 0), (55, .v 1)], []⟩, [11, 12, 56, 57, 58, 59, 60, 61, 62, 63, 64, 65, 66, 67, 68, 69, 70, 71, 72, 73], [], [0, 1, 2, 3], 4, []⟩)], [], [(9, [(0, 0), (1, 1), (0, 2)])], []⟩ Try.func4 rfl Try.ntmps4 (rs := [.tmp 2, .tmp 3, .tmp 4]) rfl (sig := code_Sync_sig) (out := code_Sync_out) rfl Try.call4 (fun X => by kernel_rfl)

def r3_Check_sig : Shape := ⟨[(.pair (.int .i64) (.pair (.int .i64) (.pair (.list (.list (.int .i64))) (.pair (.list (.int .i64)) .unit))))], [(0, .v 0)], []⟩
def r3_Check_out : Shape := ⟨[(.int .i64)], [(0, .v 0)], []⟩
noncomputable def r3_Check_ce : CE := ⟨5, r3_Check_sig, r3_Check_out, fun X => r3_Check X⟩
theorem r3_Check_ok : CE.ok Try.prog r3_Check_ce := CE.of (Γ := []) (by kernel_rfl) TT_ok (GOK.nil) ⟨[(9, ⟨⟨[(.int .i64)], [(4, .v 0)], []⟩, [2, 30, 31, 32, 33, 34, 35, 36, 37, 38, 39, 40, 41, 42, 43], [], [0], 1, []⟩), (16, ⟨⟨[(.int .i64)], [(5, .v 0)], []⟩, [2, 6, 53, 54, 55, 56, 57, 58, 59, 60, 61, 62, 63, 64, 65, 66, 67, 68, 69, 70, 71, 72, 73, 74, 75, 76, 77, 78, 79, 80, 81, 82, 83, 84], [], [0], 1, []⟩), (19, ⟨⟨[(.int .i64)], [(6, .v 0)], []⟩, [2, 58, 59, 60, 61, 62, 63, 64, 65, 66, 67, 68, 69, 70, 71, 72, 73, 74, 75, 76, 77, 78, 79, 80, 81, 82, 83, 84], [], [0], 1, []⟩), (24, ⟨⟨[(.int .i64)], [(7, .v 0)], []⟩, [2, 85, 86, 87, 88, 89, 90, 91, 92, 93, 94, 95, 96, 97, 98, 99, 100, 101, 102, 103], [], [0], 1, []⟩)], [], [(11, [(0, 0), (0, 1), (0, 2), (0, 3), (0, 4), (0, 5), (0, 6), (0, 7), (0, 8)])], []⟩ Try.func5 rfl Try.ntmps5 (rs := [.tmp 2]) rfl (sig := r3_Check_sig) (out := r3_Check_out) rfl Try.call5 (fun X => by kernel_rfl)

def r24_Sync_sig : Shape := ⟨[(.pair (.int .i64) (.pair (.int .i64) (.pair (.list (.list (.int .i64))) (.pair (.list (.int .i64)) .unit))))], [(0, .v 0)], []⟩
def r24_Sync_out : Shape := ⟨[(.list (.int .i64)), .bool], [(0, .v 0), (1, .v 1)], []⟩
noncomputable def r24_Sync_ce : CE := ⟨6, r24_Sync_sig, r24_Sync_out, fun X => r24_Sync X⟩
theorem r24_Sync_ok : CE.ok Try.prog r24_Sync_ce := CE.of (Γ := []) (by kernel_rfl) TT_ok (GOK.nil) ⟨[(7, ⟨⟨[(.int .i64), (.list .bool), (.list (.int .i64)), (.list (.list (.int .i64)))], [(4, .own 1), (6, .own 2), (7, .own 4), (8, .v 0)], [(1, .arr 4 1), (2, .arr 3 2), (4, .arr 23 3)]⟩, [2, 3, 9, 10, 11, 12, 13, 14, 15, 22, 24, 25, 27, 28, 29, 30, 31, 32, 33, 34, 35, 36, 37, 38, 39, 40, 41, 42, 43, 44, 45, 46, 47, 48, 49, 50, 51, 52, 53, 54, 55, 56, 57, 58, 59, 60, 61, 62, 63, 64, 65, 66, 67, 68, 69, 70, 71, 72, 73, 74, 75, 76, 77, 78, 79, 80, 81, 82, 83, 84, 85, 86, 87, 88, 89, 90, 91, 92, 93, 94, 95, 96, 97, 98, 99, 100, 101, 102, 103, 104, 105, 106, 107, 108, 109, 110, 111, 112, 113], [], [0], 5, []⟩), (11, ⟨⟨[(.int .i64), (.int .i64)], [(9, .v 0), (10, .v 1)], []⟩, [34, 35, 36, 37, 38, 39, 40, 41, 42, 43, 44, 45, 46, 47, 48, 49], [], [0, 1, 2, 4], 5, []⟩), (17, ⟨⟨[(.int .i64), (.list .bool), (.list (.int .i64)), (.list (.list (.int .i64)))], [(4, .own 1), (6, .own 2), (7, .own 4), (11, .v 0)], [(1, .arr 4 1), (2, .arr 3 2), (4, .arr 23 3)]⟩, [12, 13, 14, 29, 56, 57, 58, 59, 60, 61, 62, 63, 64, 65, 66, 67, 68, 69, 70, 71, 72, 73, 74, 75, 76, 77, 78, 79, 80, 81, 82, 83, 84, 85, 86, 87, 88, 89, 90, 91, 92, 93, 94, 95, 96, 97, 98, 99, 100, 101, 102, 103, 104, 105, 106, 107, 108, 109, 110, 111, 112, 113], [], [0], 5, []⟩), (21, ⟨⟨[(.int .i64), (.int .i64)], [(12, .v 0), (13, .v 1)], []⟩, [62, 63, 64, 65, 66, 67, 68, 69, 70, 71, 72, 73, 74, 75, 76, 77, 78, 79, 80, 81, 82, 83, 84, 85, 86, 87], [], [0, 1, 2, 4], 5, []⟩)], [(30, ⟨⟨[(.list .bool), (.list (.int .i64)), (.list (.list (.int .i64)))], [(4, .own 1), (6, .own 5), (7, .own 6)], [(1, .arr 4 0), (5, .arr 3 1), (6, .arr 23 2)]⟩, [12, 13, 14, 62, 63, 64, 65, 66, 67, 68, 69, 70, 71, 72, 73, 74, 75, 76, 77, 78, 79, 80, 81, 82, 83, 84, 85, 86, 87, 88, 89, 90, 91, 92, 93, 94, 95, 96, 97, 98, 99, 100, 101, 102, 103, 104, 105, 106, 107, 108, 109, 110, 111, 112, 113], [2, 4], [0], 7, []⟩)], [], []⟩ Try.func6 rfl Try.ntmps6 (rs := [.tmp 2, .tmp 3]) rfl (sig := r24_Sync_sig) (out := r24_Sync_out) rfl Try.call6 (fun X => by kernel_rfl)

def r1_Words_sig : Shape := ⟨[(.list (.int .i64)), (.list (.int .i64))], [(0, .v 0), (1, .v 1)], []⟩
def r1_Words_out : Shape := ⟨[.bool], [(0, .v 0)], []⟩
noncomputable def r1_Words_ce : CE := ⟨7, r1_Words_sig, r1_Words_out, fun X => r1_Words X.1 X.2⟩
theorem r1_Words_ok : CE.ok Try.prog r1_Words_ce := CE.of (Γ := []) (by kernel_rfl) TT_ok (GOK.nil) ⟨[(4, ⟨⟨[(.int .i64)], [(5, .v 0)], []⟩, [4, 11, 12, 13, 14, 15, 16, 17, 18, 19, 20, 21, 22, 23, 24, 25], [], [], 0, []⟩)], [], [(6, [(0, 0), (0, 1), (0, 2), (0, 3), (0, 4), (0, 5), (0, 6), (0, 7), (0, 8)])], []⟩ Try.func7 rfl Try.ntmps7 (rs := [.tmp 4]) rfl (sig := r1_Words_sig) (out := r1_Words_out) rfl Try.call7 (fun X => by kernel_rfl)

def law_CodeSync_sig : Shape := ⟨[(.pair (.int .i64) (.pair (.int .i64) (.pair (.list (.list (.int .i64))) (.pair (.list (.int .i64)) .unit))))], [(0, .v 0)], []⟩
def law_CodeSync_out : Shape := ⟨[.bool], [(0, .v 0)], []⟩
noncomputable def law_CodeSync_ce : CE := ⟨3, law_CodeSync_sig, law_CodeSync_out, fun X => law_CodeSync X⟩
theorem law_CodeSync_ok : CE.ok Try.prog law_CodeSync_ce := CE.of (Γ := [code_Sync_ce, r3_Check_ce, r24_Sync_ce, r1_Words_ce]) (by kernel_rfl) TT_ok (GOK.cons code_Sync_ok (GOK.cons r3_Check_ok (GOK.cons r24_Sync_ok (GOK.cons r1_Words_ok (GOK.nil))))) ⟨[], [(3, ⟨⟨[.bool], [(25, .v 0)], []⟩, [18, 19, 20, 21, 22, 23, 24], [], [0], 1, []⟩), (4, ⟨⟨[(.int .i64)], [(6, .v 0)], []⟩, [18, 19, 20, 21, 22, 23, 24, 25], [], [0], 1, []⟩)], [], []⟩ Try.func3 rfl Try.ntmps3 (rs := [.tmp 2]) rfl (sig := law_CodeSync_sig) (out := law_CodeSync_out) rfl Try.call3 (fun X => by kernel_rfl)

end Go.Proofs.Ytogcngcbpkjdfaa.codeSyncW
