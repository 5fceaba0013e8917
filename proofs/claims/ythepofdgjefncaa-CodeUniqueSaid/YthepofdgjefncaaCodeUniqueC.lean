/- That the functions of 'CodeUnique' compute so. -/
import Derived.Test.YthepofdgjefncaaCodeUniqueD
import Derived.Test.YthepofdgjefncaaProg
import Derived.KernelRfl
set_option maxHeartbeats 1000000
set_option maxRecDepth 20000
set_option linter.unusedSimpArgs false
set_option linter.unusedVariables false
set_option linter.unusedSectionVars false
namespace Go.Proofs.Ythepofdgjefncaa.codeUniqueW
open Go Go.Ab
theorem te9_sz : SzT Try.prog 9 (.str) := SzT.ofTI (dsc := false) (size := 1) (bytes := 16) (z := .string ⟨⟨[]⟩⟩) (TI.of Try.underlying9 rfl (by kernel_rfl)) rfl rfl
def te3 : TE := ⟨3, .int .i64, false, 1, 8, .int .i64 0, some (.int .i64)⟩
theorem te3_ok : TEok Try.prog te3 := ⟨TI.of Try.underlying3 rfl (by kernel_rfl), Try.underlying3, fun t h => by cases h; exact ⟨rfl, rfl, by decide, rfl⟩⟩
def te4 : TE := ⟨4, .bool, false, 1, 1, .bool false, some .bool⟩
theorem te4_ok : TEok Try.prog te4 := ⟨TI.of Try.underlying4 rfl (by kernel_rfl), Try.underlying4, fun t h => by cases h; exact ⟨rfl, rfl, by decide, rfl⟩⟩
def te5 : TE := ⟨5, .int .u8, false, 1, 1, .int .u8 0, some (.int .u8)⟩
theorem te5_ok : TEok Try.prog te5 := ⟨TI.of Try.underlying5 rfl (by kernel_rfl), Try.underlying5, fun t h => by cases h; exact ⟨rfl, rfl, by decide, rfl⟩⟩
def te9 : TE := ⟨9, .str, false, 1, 16, .string ⟨⟨[]⟩⟩, some .str⟩
theorem te9_ok : TEok Try.prog te9 := ⟨TI.of Try.underlying9 rfl (by kernel_rfl), Try.underlying9, fun t h => by cases h; exact ⟨rfl, rfl, by decide, rfl⟩⟩
def te22 : TE := ⟨22, .slice 24, false, 1, 24, .slice none 0 0, some (.list (.list (.int .i64)))⟩
theorem te22_ok : TEok Try.prog te22 := ⟨TI.of Try.underlying22 rfl (by kernel_rfl), Try.underlying22, fun t h => by cases h; exact ⟨rfl, rfl, by decide, rfl⟩⟩
def te24 : TE := ⟨24, .slice 3, false, 1, 24, .slice none 0 0, some (.list (.int .i64))⟩
theorem te24_ok : TEok Try.prog te24 := ⟨TI.of Try.underlying24 rfl (by kernel_rfl), Try.underlying24, fun t h => by cases h; exact ⟨rfl, rfl, by decide, rfl⟩⟩
def te25 : TE := ⟨25, .int .i64, false, 1, 8, .int .i64 0, some (.int .i64)⟩
theorem te25_ok : TEok Try.prog te25 := ⟨TI.of Try.underlying25 rfl (by kernel_rfl), Try.underlying25, fun t h => by cases h; exact ⟨rfl, rfl, by decide, rfl⟩⟩
def te37 : TE := ⟨37, .slice 39, false, 1, 24, .slice none 0 0, some (.list (.pair (.list (.int .i64)) (.pair (.list (.int .i64)) (.pair (.list (.int .i64)) .unit))))⟩
theorem te37_ok : TEok Try.prog te37 := ⟨TI.of Try.underlying37 rfl (by kernel_rfl), Try.underlying37, fun t h => by cases h; exact ⟨rfl, rfl, by decide, rfl⟩⟩
def te39 : TE := ⟨39, .struct [(0, 24), (1, 24), (2, 24)] none, true, 3, 72, .agg ⟨[.slice none 0 0, .slice none 0 0, .slice none 0 0]⟩, some (.pair (.list (.int .i64)) (.pair (.list (.int .i64)) (.pair (.list (.int .i64)) .unit)))⟩
theorem te39_ok : TEok Try.prog te39 := ⟨TI.of Try.underlying39 rfl (by kernel_rfl), ⟨⟨_, Try.underlying39, rfl⟩, fun t h => by cases h⟩, fun t h => by cases h; exact ⟨rfl, rfl, by decide, rfl⟩⟩
def te45 : TE := ⟨45, .slice 5, false, 1, 24, .slice none 0 0, some (.list (.int .u8))⟩
theorem te45_ok : TEok Try.prog te45 := ⟨TI.of Try.underlying45 rfl (by kernel_rfl), Try.underlying45, fun t h => by cases h; exact ⟨rfl, rfl, by decide, rfl⟩⟩
def te36 : TE := ⟨36, .map 9 3 (.str), false, 1, 8, .map none, none⟩
theorem te36_ok : TEok Try.prog te36 := ⟨TI.of Try.underlying36 rfl (by kernel_rfl), ⟨Try.underlying36, SK.str' Try.underlying9⟩, fun t h => by cases h⟩
def TT : List TE := [te3, te4, te5, te9, te22, te24, te25, te37, te39, te45, te36]
theorem TT_ok : TOK Try.prog TT := TOK.cons te3_ok (TOK.cons te4_ok (TOK.cons te5_ok (TOK.cons te9_ok (TOK.cons te22_ok (TOK.cons te24_ok (TOK.cons te25_ok (TOK.cons te37_ok (TOK.cons te39_ok (TOK.cons te45_ok (TOK.cons te36_ok (TOK.nil)))))))))))

def law_list_sig : Shape := ⟨[(.list (.int .i64))], [(0, .v 0)], []⟩
def law_list_out : Shape := ⟨[(.list (.int .i64))], [(0, .own 0)], [(0, .arr 3 0)]⟩
noncomputable def law_list_ce : CE := ⟨12, law_list_sig, law_list_out, fun X => law_list X⟩
theorem law_list_ok : CE.ok Try.prog law_list_ce := CE.of (Γ := []) (by kernel_rfl) TT_ok (GOK.nil) ⟨[], [], [], []⟩ Try.func12 rfl Try.ntmps12 (rs := [.tmp 2]) rfl (sig := law_list_sig) (out := law_list_out) rfl Try.call12 (fun X => by kernel_rfl)

def law_lists_sig : Shape := ⟨[(.list (.list (.int .i64)))], [(0, .v 0)], []⟩
def law_lists_out : Shape := ⟨[(.list (.list (.int .i64)))], [(0, .own 0)], [(0, .arr 24 0)]⟩
noncomputable def law_lists_ce : CE := ⟨4, law_lists_sig, law_lists_out, fun X => law_lists X⟩
theorem law_lists_ok : CE.ok Try.prog law_lists_ce := CE.of (Γ := [law_list_ce]) (by kernel_rfl) TT_ok (GOK.cons law_list_ok (GOK.nil)) ⟨[(3, ⟨⟨[(.int .i64), (.list (.list (.int .i64)))], [(3, .own 0), (4, .v 0)], [(0, .arr 24 1)]⟩, [5, 6, 7, 8, 9, 10, 11, 12, 13, 14, 15, 16, 17, 18, 19, 20], [], [], 1, []⟩)], [], [], []⟩ Try.func4 rfl Try.ntmps4 (rs := [.tmp 2]) rfl (sig := law_lists_sig) (out := law_lists_out) rfl Try.call4 (fun X => by kernel_rfl)

def code_Check_1_sig : Shape := ⟨[(.int .i64), (.int .i64)], [(0, .v 0), (1, .addr 1)], []⟩
def code_Check_1_out : Shape := ⟨[.bool], [(0, .v 0)], []⟩
noncomputable def code_Check_1_ce : CE := ⟨18, code_Check_1_sig, code_Check_1_out, fun X => code_Check_1 X.1 X.2⟩
theorem code_Check_1_ok : CE.ok Try.prog code_Check_1_ce := CE.of (Γ := []) (by kernel_rfl) TT_ok (GOK.nil) ⟨[], [], [], []⟩ Try.func18 rfl Try.ntmps18 (rs := [.tmp 3]) rfl (sig := code_Check_1_sig) (out := code_Check_1_out) rfl Try.call18 (fun X => by kernel_rfl)

def slices_IndexFunc_sig : Shape := ⟨[(.list (.int .i64)), (.int .i64)], [(0, .v 0), (1, .fn 18 [.addr 1])], []⟩
def slices_IndexFunc_out : Shape := ⟨[(.int .i64)], [(0, .v 0)], []⟩
noncomputable def slices_IndexFunc_ce : CE := ⟨21, slices_IndexFunc_sig, slices_IndexFunc_out, fun X => slices_IndexFunc X.1 X.2⟩
theorem slices_IndexFunc_ok : CE.ok Try.prog slices_IndexFunc_ce := CE.of (Γ := [code_Check_1_ce]) (by kernel_rfl) TT_ok (GOK.cons code_Check_1_ok (GOK.nil)) ⟨[(2, ⟨⟨[(.int .i64)], [(8, .v 0)], []⟩, [4, 5, 9, 10, 11, 12, 13, 14, 15, 16, 17, 18], [], [], 0, []⟩)], [], [], []⟩ Try.func21 rfl Try.ntmps21 (rs := [.tmp 4]) rfl (sig := slices_IndexFunc_sig) (out := slices_IndexFunc_out) rfl Try.call21 (fun X => by kernel_rfl)

def slices_ContainsFunc_sig : Shape := ⟨[(.list (.int .i64)), (.int .i64)], [(0, .v 0), (1, .fn 18 [.addr 1])], []⟩
def slices_ContainsFunc_out : Shape := ⟨[.bool], [(0, .v 0)], []⟩
noncomputable def slices_ContainsFunc_ce : CE := ⟨17, slices_ContainsFunc_sig, slices_ContainsFunc_out, fun X => slices_ContainsFunc X.1 X.2⟩
theorem slices_ContainsFunc_ok : CE.ok Try.prog slices_ContainsFunc_ce := CE.of (Γ := [slices_IndexFunc_ce]) (by kernel_rfl) TT_ok (GOK.cons slices_IndexFunc_ok (GOK.nil)) ⟨[], [], [], []⟩ Try.func17 rfl Try.ntmps17 (rs := [.tmp 4]) rfl (sig := slices_ContainsFunc_sig) (out := slices_ContainsFunc_out) rfl Try.call17 (fun X => by kernel_rfl)

def code_Check_sig : Shape := ⟨[(.int .i64), (.list (.list (.int .i64)))], [(0, .v 0), (1, .v 1)], []⟩
def code_Check_out : Shape := ⟨[(.int .i64)], [(0, .v 0)], []⟩
noncomputable def code_Check_ce : CE := ⟨6, code_Check_sig, code_Check_out, fun X => code_Check X.1 X.2⟩
theorem code_Check_ok : CE.ok Try.prog code_Check_ce := CE.of (Γ := [slices_ContainsFunc_ce]) (by kernel_rfl) TT_ok (GOK.cons slices_ContainsFunc_ok (GOK.nil)) ⟨[(6, ⟨⟨[(.int .i64)], [(23, .v 0)], []⟩, [4, 6, 24, 25, 26, 27, 28, 29, 30, 31, 32, 33, 34, 35, 36, 37, 38], [], [0], 1, []⟩)], [], [], []⟩ Try.func6 rfl Try.ntmps6 (rs := [.tmp 4]) rfl (sig := code_Check_sig) (out := code_Check_out) rfl Try.call6 (fun X => by kernel_rfl)

def slices_Equal_sig : Shape := ⟨[(.list (.int .i64)), (.list (.int .i64))], [(0, .v 0), (1, .v 1)], []⟩
def slices_Equal_out : Shape := ⟨[.bool], [(0, .v 0)], []⟩
noncomputable def slices_Equal_ce : CE := ⟨15, slices_Equal_sig, slices_Equal_out, fun X => slices_Equal X.1 X.2⟩
theorem slices_Equal_ok : CE.ok Try.prog slices_Equal_ce := CE.of (Γ := []) (by kernel_rfl) TT_ok (GOK.nil) ⟨[(4, ⟨⟨[(.int .i64)], [(13, .v 0)], []⟩, [4, 5, 14, 15, 16, 17, 18, 19, 20, 21, 22, 23, 24, 25], [], [], 0, []⟩)], [], [(6, [(0, 0), (0, 1), (0, 2), (0, 3), (0, 4), (0, 5), (0, 6), (0, 7), (0, 8)])], []⟩ Try.func15 rfl Try.ntmps15 (rs := [.tmp 4]) rfl (sig := slices_Equal_sig) (out := slices_Equal_out) rfl Try.call15 (fun X => by kernel_rfl)

def det_Key_sig : Shape := ⟨[(.list (.int .i64))], [(0, .v 0)], []⟩
def det_Key_out : Shape := ⟨[.str], [(0, .v 0)], []⟩
noncomputable def det_Key_ce : CE := ⟨14, det_Key_sig, det_Key_out, fun X => det_Key X⟩
theorem det_Key_ok : CE.ok Try.prog det_Key_ce := CE.of (Γ := []) (by kernel_rfl) TT_ok (GOK.nil) ⟨[(3, ⟨⟨[(.int .i64), (.list (.int .u8))], [(3, .own 0), (8, .v 0)], [(0, .arr 5 1)]⟩, [5, 9, 10, 11, 12, 13, 14, 15, 16, 17, 18, 19, 20], [], [], 1, []⟩)], [], [], []⟩ Try.func14 rfl Try.ntmps14 (rs := [.tmp 2]) rfl (sig := det_Key_sig) (out := det_Key_out) rfl Try.call14 (fun X => by kernel_rfl)

def code_Unique_1_sig : Shape := ⟨[(.pair (.list (.int .i64)) (.pair (.list (.int .i64)) (.pair (.list (.int .i64)) .unit))), (.list .str), (.list (.int .i64))], [(0, .v 0), (1, .ptr 100000 0), (2, .ptr 100001 0)], [(100000, .box 36 [.own 100002]), (100001, .box 37 [.nil]), (100002, .box 36 [.v 1, .v 2])]⟩
def code_Unique_1_out : Shape := ⟨[(.list (.pair (.list (.int .i64)) (.pair (.list (.int .i64)) (.pair (.list (.int .i64)) .unit)))), (.list .str), (.list (.int .i64))], [], [(100000, .box 36 [.own 100002]), (100001, .box 37 [.v 0]), (100002, .box 36 [.v 1, .v 2])]⟩
noncomputable def code_Unique_1_ce : CE := ⟨13, code_Unique_1_sig, code_Unique_1_out, fun X => code_Unique_1 X.1 X.2.1 X.2.2⟩
theorem code_Unique_1_ok : CE.ok Try.prog code_Unique_1_ce := CE.of (Γ := [det_Key_ce]) (by kernel_rfl) TT_ok (GOK.cons det_Key_ok (GOK.nil)) ⟨[], [], [], []⟩ Try.func13 rfl Try.ntmps13 (rs := []) rfl (sig := code_Unique_1_sig) (out := code_Unique_1_out) rfl Try.call13 (fun X => by kernel_rfl)

def code_Unique_1_1_sig : Shape := ⟨[(.pair (.list (.int .i64)) (.pair (.list (.int .i64)) (.pair (.list (.int .i64)) .unit))), (.list .str), (.list (.int .i64)), (.list (.pair (.list (.int .i64)) (.pair (.list (.int .i64)) (.pair (.list (.int .i64)) .unit))))], [(0, .v 0), (1, .ptr 100000 0), (2, .ptr 100001 0)], [(100000, .box 36 [.own 100002]), (100001, .box 37 [.own 100003]), (100002, .box 36 [.v 1, .v 2]), (100003, .arr 39 3)]⟩
def code_Unique_1_1_out : Shape := ⟨[(.list (.pair (.list (.int .i64)) (.pair (.list (.int .i64)) (.pair (.list (.int .i64)) .unit)))), (.list .str), (.list (.int .i64))], [], [(100000, .box 36 [.own 100002]), (100001, .box 37 [.own 51]), (51, .arr 39 0), (100002, .box 36 [.v 1, .v 2])]⟩
noncomputable def code_Unique_1_1_ce : CE := ⟨13, code_Unique_1_1_sig, code_Unique_1_1_out, fun X => code_Unique_1_1 X.1 X.2.1 X.2.2.1 X.2.2.2⟩
theorem code_Unique_1_1_ok : CE.ok Try.prog code_Unique_1_1_ce := CE.of (Γ := [det_Key_ce]) (by kernel_rfl) TT_ok (GOK.cons det_Key_ok (GOK.nil)) ⟨[], [], [], []⟩ Try.func13 rfl Try.ntmps13 (rs := []) rfl (sig := code_Unique_1_1_sig) (out := code_Unique_1_1_out) rfl Try.call13 (fun X => by kernel_rfl)

def slices_Clone_sig : Shape := ⟨[(.list (.int .i64))], [(0, .v 0)], []⟩
def slices_Clone_out : Shape := ⟨[(.list (.int .i64))], [(0, .own 0)], [(0, .arr 3 0)]⟩
noncomputable def slices_Clone_ce : CE := ⟨16, slices_Clone_sig, slices_Clone_out, fun X => slices_Clone X⟩
theorem slices_Clone_ok : CE.ok Try.prog slices_Clone_ce := CE.of (Γ := []) (by kernel_rfl) TT_ok (GOK.nil) ⟨[], [], [], []⟩ Try.func16 rfl Try.ntmps16 (rs := [.tmp 2]) rfl (sig := slices_Clone_sig) (out := slices_Clone_out) rfl Try.call16 (fun X => by kernel_rfl)

def code_Unique_sig : Shape := ⟨[(.int .i64), (.list (.list (.int .i64)))], [(0, .v 0), (1, .v 1)], []⟩
def code_Unique_out : Shape := ⟨[(.list (.int .i64)), (.list (.int .i64)), .bool, (.int .i64)], [(0, .v 0), (1, .v 1), (2, .v 2), (3, .v 3)], []⟩
noncomputable def code_Unique_ce : CE := ⟨5, code_Unique_sig, code_Unique_out, fun X => code_Unique X.1 X.2⟩
theorem code_Unique_ok : CE.ok Try.prog code_Unique_ce := CE.of (Γ := [code_Unique_1_1_ce, code_Check_ce, slices_Equal_ce, slices_Clone_ce]) (by kernel_rfl) TT_ok (GOK.cons code_Unique_1_1_ok (GOK.cons code_Check_ok (GOK.cons slices_Equal_ok (GOK.cons slices_Clone_ok (GOK.nil))))) ⟨[(8, ⟨⟨[(.int .i64), (.list .str), (.list (.int .i64)), (.list (.pair (.list (.int .i64)) (.pair (.list (.int .i64)) (.pair (.list (.int .i64)) .unit))))], [(10, .ptr 2 0), (11, .fn 13 [.ptr 1 0, .ptr 2 0]), (32, .v 0)], [(2, .box 37 [.own 3]), (1, .box 36 [.own 0]), (0, .box 36 [.v 1, .v 2]), (3, .arr 39 3)]⟩, [9, 12, 13, 14, 15, 28, 29, 33, 34, 35, 36, 37, 38, 39, 40, 41, 42, 43, 44, 45, 46, 47, 48, 49, 50, 51, 52, 53, 54, 55, 56, 57, 58, 59, 60, 61, 62, 63, 64, 65, 66, 67, 68, 69, 70, 71, 72, 73, 74], [], [], 4, [(2, 0, some 39, (.pair (.list (.int .i64)) (.pair (.list (.int .i64)) (.pair (.list (.int .i64)) .unit))))]⟩), (11, ⟨⟨[(.int .i64), (.list (.pair (.list (.int .i64)) (.pair (.list (.int .i64)) (.pair (.list (.int .i64)) .unit)))), (.list .str), (.list (.int .i64))], [(10, .ptr 2 0), (11, .fn 13 [.ptr 1 0, .ptr 2 0]), (39, .v 0)], [(2, .box 37 [.own 3]), (1, .box 36 [.own 0]), (3, .arr 39 1), (0, .box 36 [.v 2, .v 3])]⟩, [14, 15, 40, 41, 42, 43, 44, 45, 46, 47, 48, 49, 50, 51, 52, 53, 54, 55, 56, 57, 58, 59, 60, 61, 62, 63, 64, 65, 66, 67, 68, 69, 70, 71, 72, 73], [], [], 4, []⟩), (18, ⟨⟨[(.int .i64), (.list (.pair (.list (.int .i64)) (.pair (.list (.int .i64)) (.pair (.list (.int .i64)) .unit)))), (.list .str), (.list (.int .i64))], [(10, .ptr 2 0), (11, .fn 13 [.ptr 1 0, .ptr 2 0]), (16, .v 0)], [(2, .box 37 [.own 3]), (1, .box 36 [.own 0]), (3, .arr 39 1), (0, .box 36 [.v 2, .v 3])]⟩, [4, 5, 6, 7, 17, 18, 19, 20, 21, 75, 76, 77, 78, 79, 80, 81, 82, 83, 84, 85, 86, 87, 88, 89, 90, 91, 92, 93, 94, 95, 96, 97, 98, 99, 100, 101, 102, 103, 104, 105, 106, 107, 108, 109, 110, 111, 112, 113, 114, 115, 116, 117, 118, 119, 120, 121, 122, 123, 124, 125, 126, 127, 128, 129, 130, 131, 132, 133, 134, 135, 136, 137, 138, 139, 140, 141, 142, 143, 144, 145, 146, 147, 148], [], [], 4, []⟩), (24, ⟨⟨[(.int .i64), (.list (.pair (.list (.int .i64)) (.pair (.list (.int .i64)) (.pair (.list (.int .i64)) .unit)))), (.list .str), (.list (.int .i64))], [(10, .ptr 2 0), (11, .fn 13 [.ptr 1 0, .ptr 2 0]), (95, .v 0)], [(2, .box 37 [.own 3]), (1, .box 36 [.own 0]), (3, .arr 39 1), (0, .box 36 [.v 2, .v 3])]⟩, [18, 19, 20, 21, 76, 81, 83, 96, 97, 98, 99, 100, 101, 102, 103, 104, 105, 106, 107, 108, 109, 110, 111, 112, 113, 114, 115, 116, 117, 118, 119, 120, 121, 122, 123, 124, 125, 126, 127, 128, 129, 130, 131, 132, 133, 134, 135, 136, 137, 138, 139, 140, 141, 142, 143, 144, 145, 146, 147, 148], [], [4], 5, []⟩)], [(13, ⟨⟨[.bool], [(61, .v 0)], []⟩, [44, 45, 46, 47, 48, 49, 50, 51, 52, 53, 54, 55, 56, 57, 58, 59, 60], [], [0, 1, 2, 3], 4, []⟩)], [(22, [(0, 0), (0, 1), (0, 2), (0, 3), (0, 4), (0, 5), (0, 6), (0, 7)]), (29, [(0, 0), (0, 1), (0, 2), (0, 3), (0, 4), (0, 5), (0, 6), (1, 7), (0, 8), (0, 9)]), (31, [(0, 0), (0, 1), (0, 2), (0, 3), (0, 4), (0, 5), (0, 6), (0, 7), (0, 8), (2, 9)]), (28, [(0, 0), (0, 1), (0, 2), (0, 3), (0, 4), (0, 5), (0, 6), (0, 7), (2, 8)])], []⟩ Try.func5 rfl Try.ntmps5 (rs := [.tmp 4, .tmp 5, .tmp 6, .tmp 7]) rfl (sig := code_Unique_sig) (out := code_Unique_out) rfl Try.call5 (fun X => by kernel_rfl)

def r1_Words_sig : Shape := ⟨[(.list (.int .i64)), (.list (.int .i64))], [(0, .v 0), (1, .v 1)], []⟩
def r1_Words_out : Shape := ⟨[.bool], [(0, .v 0)], []⟩
noncomputable def r1_Words_ce : CE := ⟨11, r1_Words_sig, r1_Words_out, fun X => r1_Words X.1 X.2⟩
theorem r1_Words_ok : CE.ok Try.prog r1_Words_ce := CE.of (Γ := []) (by kernel_rfl) TT_ok (GOK.nil) ⟨[(4, ⟨⟨[(.int .i64)], [(5, .v 0)], []⟩, [4, 11, 12, 13, 14, 15, 16, 17, 18, 19, 20, 21, 22, 23, 24, 25], [], [], 0, []⟩)], [], [(6, [(0, 0), (0, 1), (0, 2), (0, 3), (0, 4), (0, 5), (0, 6), (0, 7), (0, 8)])], []⟩ Try.func11 rfl Try.ntmps11 (rs := [.tmp 4]) rfl (sig := r1_Words_sig) (out := r1_Words_out) rfl Try.call11 (fun X => by kernel_rfl)

def law_sameLists_sig : Shape := ⟨[(.list (.list (.int .i64))), (.list (.list (.int .i64)))], [(0, .v 0), (1, .v 1)], []⟩
def law_sameLists_out : Shape := ⟨[.bool], [(0, .v 0)], []⟩
noncomputable def law_sameLists_ce : CE := ⟨7, law_sameLists_sig, law_sameLists_out, fun X => law_sameLists X.1 X.2⟩
theorem law_sameLists_ok : CE.ok Try.prog law_sameLists_ce := CE.of (Γ := [r1_Words_ce]) (by kernel_rfl) TT_ok (GOK.cons r1_Words_ok (GOK.nil)) ⟨[(4, ⟨⟨[(.int .i64)], [(5, .v 0)], []⟩, [4, 6, 12, 13, 14, 15, 16, 17, 18, 19, 20, 21, 22, 23, 24, 25, 26, 27, 28], [], [], 0, []⟩)], [], [(6, [(0, 0), (0, 1), (0, 2), (0, 3), (0, 4), (0, 5), (0, 6), (0, 7), (1, 8), (0, 9)])], []⟩ Try.func7 rfl Try.ntmps7 (rs := [.tmp 4]) rfl (sig := law_sameLists_sig) (out := law_sameLists_out) rfl Try.call7 (fun X => by kernel_rfl)

def r24_Check_sig : Shape := ⟨[(.int .i64), (.list (.list (.int .i64)))], [(0, .v 0), (1, .v 1)], []⟩
def r24_Check_out : Shape := ⟨[(.int .i64)], [(0, .v 0)], []⟩
noncomputable def r24_Check_ce : CE := ⟨8, r24_Check_sig, r24_Check_out, fun X => r24_Check X.1 X.2⟩
theorem r24_Check_ok : CE.ok Try.prog r24_Check_ce := CE.of (Γ := []) (by kernel_rfl) TT_ok (GOK.nil) ⟨[(6, ⟨⟨[(.int .i64)], [(5, .v 0)], []⟩, [4, 6, 21, 22, 23, 24, 25, 26, 27, 28, 29, 30, 31, 32, 33, 34, 35, 36, 37, 38, 39, 40, 41, 42, 43, 44, 45, 46, 47, 48, 49, 50, 51, 52, 53, 54, 55, 56, 57, 58, 59, 60, 61, 62, 63, 64, 65, 66, 67, 68], [], [], 0, []⟩), (11, ⟨⟨[(.int .i64)], [(6, .v 0)], []⟩, [4, 41, 42, 43, 44, 45, 46, 47, 48, 49, 50, 51, 52, 53, 54, 55, 56, 57, 58, 59, 60, 61, 62, 63, 64, 65, 66, 67, 68], [], [], 0, []⟩)], [], [], []⟩ Try.func8 rfl Try.ntmps8 (rs := [.tmp 4]) rfl (sig := r24_Check_sig) (out := r24_Check_out) rfl Try.call8 (fun X => by kernel_rfl)

def r24_Begins_sig : Shape := ⟨[(.list (.int .i64)), (.list (.int .i64))], [(0, .v 0), (1, .v 1)], []⟩
def r24_Begins_out : Shape := ⟨[.bool], [(0, .v 0)], []⟩
noncomputable def r24_Begins_ce : CE := ⟨19, r24_Begins_sig, r24_Begins_out, fun X => r24_Begins X.1 X.2⟩
theorem r24_Begins_ok : CE.ok Try.prog r24_Begins_ce := CE.of (Γ := [r1_Words_ce]) (by kernel_rfl) TT_ok (GOK.cons r1_Words_ok (GOK.nil)) ⟨[], [], [], []⟩ Try.func19 rfl Try.ntmps19 (rs := [.tmp 4]) rfl (sig := r24_Begins_sig) (out := r24_Begins_out) rfl Try.call19 (fun X => by kernel_rfl)

def r24_put_sig : Shape := ⟨[(.list (.int .i64)), (.list (.list (.int .i64)))], [(0, .own 100000), (1, .v 0)], [(100000, .arr 24 1)]⟩
def r24_put_out : Shape := ⟨[(.list (.list (.int .i64)))], [(0, .own 0)], [(0, .arr 24 0)]⟩
noncomputable def r24_put_ce : CE := ⟨20, r24_put_sig, r24_put_out, fun X => r24_put X.1 X.2⟩
theorem r24_put_ok : CE.ok Try.prog r24_put_ce := CE.of (Γ := [r1_Words_ce]) (by kernel_rfl) TT_ok (GOK.cons r1_Words_ok (GOK.nil)) ⟨[(2, ⟨⟨[(.int .i64)], [(5, .v 0)], []⟩, [4, 6, 7, 8, 9, 10, 11, 12, 13, 14, 15, 16, 17, 18, 19, 20], [], [], 0, []⟩)], [], [], []⟩ Try.func20 rfl Try.ntmps20 (rs := [.tmp 4]) rfl (sig := r24_put_sig) (out := r24_put_out) rfl Try.call20 (fun X => by kernel_rfl)

def r24_Unique_sig : Shape := ⟨[(.list (.list (.int .i64)))], [(0, .v 0)], []⟩
def r24_Unique_out : Shape := ⟨[.bool], [(0, .v 0)], []⟩
noncomputable def r24_Unique_ce : CE := ⟨9, r24_Unique_sig, r24_Unique_out, fun X => r24_Unique X⟩
theorem r24_Unique_ok : CE.ok Try.prog r24_Unique_ce := CE.of (Γ := [r24_put_ce, r24_Begins_ce]) (by kernel_rfl) TT_ok (GOK.cons r24_put_ok (GOK.cons r24_Begins_ok (GOK.nil))) ⟨[(3, ⟨⟨[(.int .i64), (.list (.list (.int .i64)))], [(3, .own 0), (4, .v 0)], [(0, .arr 24 1)]⟩, [5, 6, 12, 13, 14, 15, 16, 17, 18, 19, 20, 21, 22, 23, 24, 25, 26, 27, 28, 29, 30, 31, 32, 33, 34, 35, 36, 37, 38, 39, 40, 41, 42, 43, 44, 45, 46, 47, 48, 49, 50], [], [], 1, []⟩), (6, ⟨⟨[(.int .i64), (.list (.list (.int .i64)))], [(3, .own 0), (5, .v 0)], [(0, .arr 24 1)]⟩, [6, 18, 19, 20, 21, 22, 23, 24, 25, 26, 27, 28, 29, 30, 31, 32, 33, 34, 35, 36, 37, 38, 39, 40, 41, 42, 43, 44, 45, 46, 47, 48, 49, 50], [], [], 1, []⟩), (12, ⟨⟨[(.int .i64), (.list (.list (.int .i64)))], [(3, .own 0), (7, .v 0)], [(0, .arr 24 1)]⟩, [2, 8, 9, 10, 11, 51, 52, 53, 54, 55, 56, 57, 58, 59, 60, 61, 62, 63, 64, 65, 66, 67, 68, 69, 70, 71, 72, 73, 74, 75, 76, 77, 78, 79, 80, 81, 82, 83, 84, 85, 86, 87, 88, 89, 90, 91, 92, 93, 94, 95, 96, 97, 98, 99, 100, 101], [], [], 1, []⟩), (18, ⟨⟨[(.int .i64), (.list (.list (.int .i64)))], [(3, .own 0), (9, .v 0)], [(0, .arr 24 1)]⟩, [10, 11, 52, 57, 59, 64, 65, 66, 67, 68, 69, 70, 71, 72, 73, 74, 75, 76, 77, 78, 79, 80, 81, 82, 83, 84, 85, 86, 87, 88, 89, 90, 91, 92, 93, 94, 95, 96, 97, 98, 99, 100, 101], [], [], 1, []⟩)], [(9, ⟨⟨[.bool], [(38, .v 0)], []⟩, [33, 34, 35, 36, 37], [], [0], 1, []⟩)], [(8, [(0, 0), (0, 1), (0, 2), (0, 3), (0, 4), (0, 5), (0, 6), (0, 7), (1, 8), (0, 9)]), (10, [(0, 0), (0, 1), (0, 2), (0, 3), (0, 4), (0, 5), (0, 6), (0, 7), (0, 8), (0, 9), (0, 10), (2, 11), (0, 12)])], []⟩ Try.func9 rfl Try.ntmps9 (rs := [.tmp 2]) rfl (sig := r24_Unique_sig) (out := r24_Unique_out) rfl Try.call9 (fun X => by kernel_rfl)

def r24_Whole_sig : Shape := ⟨[(.list (.list (.int .i64))), (.list (.int .i64))], [(0, .v 0), (1, .v 1)], []⟩
def r24_Whole_out : Shape := ⟨[.bool, (.list (.int .i64))], [(0, .own 0), (1, .v 0)], [(0, .arr 3 1)]⟩
noncomputable def r24_Whole_ce : CE := ⟨10, r24_Whole_sig, r24_Whole_out, fun X => r24_Whole X.1 X.2⟩
theorem r24_Whole_ok : CE.ok Try.prog r24_Whole_ce := CE.of (Γ := []) (by kernel_rfl) TT_ok (GOK.nil) ⟨[(3, ⟨⟨[(.int .i64), (.list (.int .i64))], [(6, .own 0), (7, .v 0)], [(0, .arr 3 1)]⟩, [4, 5, 8, 9, 10, 11, 12, 13, 14, 15, 16, 17, 18, 19, 20, 21, 22, 23, 24, 25, 26, 27, 28, 29, 30, 31, 32, 33, 34, 35, 36], [], [], 1, []⟩)], [], [], []⟩ Try.func10 rfl Try.ntmps10 (rs := [.tmp 4, .tmp 5]) rfl (sig := r24_Whole_sig) (out := r24_Whole_out) rfl Try.call10 (fun X => by kernel_rfl)

def law_CodeUnique_sig : Shape := ⟨[(.int .i64), (.list (.list (.int .i64)))], [(0, .v 0), (1, .v 1)], []⟩
def law_CodeUnique_out : Shape := ⟨[.bool], [(0, .v 0)], []⟩
noncomputable def law_CodeUnique_ce : CE := ⟨3, law_CodeUnique_sig, law_CodeUnique_out, fun X => law_CodeUnique X.1 X.2⟩
theorem law_CodeUnique_ok : CE.ok Try.prog law_CodeUnique_ce := CE.of (Γ := [law_lists_ce, code_Unique_ce, code_Check_ce, law_sameLists_ce, r24_Check_ce, r24_Unique_ce, r24_Whole_ce, r1_Words_ce]) (by kernel_rfl) TT_ok (GOK.cons law_lists_ok (GOK.cons code_Unique_ok (GOK.cons code_Check_ok (GOK.cons law_sameLists_ok (GOK.cons r24_Check_ok (GOK.cons r24_Unique_ok (GOK.cons r24_Whole_ok (GOK.cons r1_Words_ok (GOK.nil))))))))) ⟨[], [], [], []⟩ Try.func3 rfl Try.ntmps3 (rs := [.tmp 4]) rfl (sig := law_CodeUnique_sig) (out := law_CodeUnique_out) rfl Try.call3 (fun X => by kernel_rfl)

end Go.Proofs.Ythepofdgjefncaa.codeUniqueW
