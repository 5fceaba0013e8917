/- That the functions of 'CodeKraft' compute so. -/
import Derived.Test.YtnijfahigmajjaaCodeKraftD
import Derived.Test.YtnijfahigmajjaaProg
import Derived.KernelRfl
set_option maxHeartbeats 1000000
set_option maxRecDepth 20000
set_option linter.unusedSimpArgs false
set_option linter.unusedVariables false
namespace Go.Proofs.Ytnijfahigmajjaa.codeKraftW
open Go Go.Ab
def te3 : TE := ⟨3, .int .i64, false, 1, 8, .int .i64 0, some (.int .i64)⟩
theorem te3_ok : TEok Try.prog te3 := ⟨TI.of Try.underlying3 rfl (by kernel_rfl), Try.underlying3, fun t h => by cases h; exact ⟨rfl, rfl, by decide, rfl⟩⟩
def te4 : TE := ⟨4, .bool, false, 1, 1, .bool false, some .bool⟩
theorem te4_ok : TEok Try.prog te4 := ⟨TI.of Try.underlying4 rfl (by kernel_rfl), Try.underlying4, fun t h => by cases h; exact ⟨rfl, rfl, by decide, rfl⟩⟩
def te22 : TE := ⟨22, .slice 3, false, 1, 24, .slice none 0 0, some (.list (.int .i64))⟩
theorem te22_ok : TEok Try.prog te22 := ⟨TI.of Try.underlying22 rfl (by kernel_rfl), Try.underlying22, fun t h => by cases h; exact ⟨rfl, rfl, by decide, rfl⟩⟩
def te23 : TE := ⟨23, .slice 22, false, 1, 24, .slice none 0 0, some (.list (.list (.int .i64)))⟩
theorem te23_ok : TEok Try.prog te23 := ⟨TI.of Try.underlying23 rfl (by kernel_rfl), Try.underlying23, fun t h => by cases h; exact ⟨rfl, rfl, by decide, rfl⟩⟩
def te24 : TE := ⟨24, .int .i64, false, 1, 8, .int .i64 0, some (.int .i64)⟩
theorem te24_ok : TEok Try.prog te24 := ⟨TI.of Try.underlying24 rfl (by kernel_rfl), Try.underlying24, fun t h => by cases h; exact ⟨rfl, rfl, by decide, rfl⟩⟩
def te40 : TE := ⟨40, .int .u64, false, 1, 8, .int .u64 0, some (.int .u64)⟩
theorem te40_ok : TEok Try.prog te40 := ⟨TI.of Try.underlying40 rfl (by kernel_rfl), Try.underlying40, fun t h => by cases h; exact ⟨rfl, rfl, by decide, rfl⟩⟩
def TT : List TE := [te3, te4, te22, te23, te24, te40]
theorem TT_ok : TOK Try.prog TT := TOK.cons te3_ok (TOK.cons te4_ok (TOK.cons te22_ok (TOK.cons te23_ok (TOK.cons te24_ok (TOK.cons te40_ok (TOK.nil))))))

def code_Kraft_1_sig : Shape := ⟨[(.int .i64)], [(0, .v 0)], []⟩
def code_Kraft_1_out : Shape := ⟨[.bool], [(0, .v 0)], []⟩
noncomputable def code_Kraft_1_ce : CE := ⟨9, code_Kraft_1_sig, code_Kraft_1_out, fun X => code_Kraft_1 X⟩
theorem code_Kraft_1_ok : CE.ok Try.prog code_Kraft_1_ce := CE.of (Γ := []) (by kernel_rfl) TT_ok (GOK.nil) ⟨[], [], [], []⟩ Try.func9 rfl Try.ntmps9 (rs := [.tmp 2]) rfl (sig := code_Kraft_1_sig) (out := code_Kraft_1_out) rfl Try.call9 (fun X => by kernel_rfl)

def slices_IndexFunc_sig : Shape := ⟨[(.list (.int .i64))], [(0, .v 0), (1, .fn 9 [])], []⟩
def slices_IndexFunc_out : Shape := ⟨[(.int .i64)], [(0, .v 0)], []⟩
noncomputable def slices_IndexFunc_ce : CE := ⟨15, slices_IndexFunc_sig, slices_IndexFunc_out, fun X => slices_IndexFunc X⟩
theorem slices_IndexFunc_ok : CE.ok Try.prog slices_IndexFunc_ce := CE.of (Γ := [code_Kraft_1_ce]) (by kernel_rfl) TT_ok (GOK.cons code_Kraft_1_ok (GOK.nil)) ⟨[(2, ⟨⟨[(.int .i64)], [(8, .v 0)], []⟩, [4, 5, 9, 10, 11, 12, 13, 14, 15, 16, 17, 18], [], [], 0, []⟩)], [], [], []⟩ Try.func15 rfl Try.ntmps15 (rs := [.tmp 4]) rfl (sig := slices_IndexFunc_sig) (out := slices_IndexFunc_out) rfl Try.call15 (fun X => by kernel_rfl)

def slices_ContainsFunc_sig : Shape := ⟨[(.list (.int .i64))], [(0, .v 0), (1, .fn 9 [])], []⟩
def slices_ContainsFunc_out : Shape := ⟨[.bool], [(0, .v 0)], []⟩
noncomputable def slices_ContainsFunc_ce : CE := ⟨8, slices_ContainsFunc_sig, slices_ContainsFunc_out, fun X => slices_ContainsFunc X⟩
theorem slices_ContainsFunc_ok : CE.ok Try.prog slices_ContainsFunc_ce := CE.of (Γ := [slices_IndexFunc_ce]) (by kernel_rfl) TT_ok (GOK.cons slices_IndexFunc_ok (GOK.nil)) ⟨[], [], [], []⟩ Try.func8 rfl Try.ntmps8 (rs := [.tmp 4]) rfl (sig := slices_ContainsFunc_sig) (out := slices_ContainsFunc_out) rfl Try.call8 (fun X => by kernel_rfl)

def cmp_isNaN_sig : Shape := ⟨[(.int .i64)], [(0, .v 0)], []⟩
def cmp_isNaN_out : Shape := ⟨[.bool], [(0, .v 0)], []⟩
noncomputable def cmp_isNaN_ce : CE := ⟨17, cmp_isNaN_sig, cmp_isNaN_out, fun X => cmp_isNaN X⟩
theorem cmp_isNaN_ok : CE.ok Try.prog cmp_isNaN_ce := CE.of (Γ := []) (by kernel_rfl) TT_ok (GOK.nil) ⟨[], [], [], []⟩ Try.func17 rfl Try.ntmps17 (rs := [.tmp 2]) rfl (sig := cmp_isNaN_sig) (out := cmp_isNaN_out) rfl Try.call17 (fun X => by kernel_rfl)

def cmp_Compare_sig : Shape := ⟨[(.int .i64), (.int .i64)], [(0, .v 0), (1, .v 1)], []⟩
def cmp_Compare_out : Shape := ⟨[(.int .i64)], [(0, .v 0)], []⟩
noncomputable def cmp_Compare_ce : CE := ⟨12, cmp_Compare_sig, cmp_Compare_out, fun X => cmp_Compare X.1 X.2⟩
theorem cmp_Compare_ok : CE.ok Try.prog cmp_Compare_ce := CE.of (Γ := [cmp_isNaN_ce]) (by kernel_rfl) TT_ok (GOK.cons cmp_isNaN_ok (GOK.nil)) ⟨[], [], [], []⟩ Try.func12 rfl Try.ntmps12 (rs := [.tmp 4]) rfl (sig := cmp_Compare_sig) (out := cmp_Compare_out) rfl Try.call12 (fun X => by kernel_rfl)

def code_Kraft_2_sig : Shape := ⟨[(.int .i64), (.int .i64), (.list (.int .i64))], [(0, .v 0), (1, .v 1), (2, .addr 2)], []⟩
def code_Kraft_2_out : Shape := ⟨[(.int .i64)], [(0, .v 0)], []⟩
noncomputable def code_Kraft_2_ce : CE := ⟨11, code_Kraft_2_sig, code_Kraft_2_out, fun X => code_Kraft_2 X.1 X.2.1 X.2.2⟩
theorem code_Kraft_2_ok : CE.ok Try.prog code_Kraft_2_ce := CE.of (Γ := [cmp_Compare_ce]) (by kernel_rfl) TT_ok (GOK.cons cmp_Compare_ok (GOK.nil)) ⟨[], [], [(1, [(0, 0), (0, 1), (0, 2), (0, 3), (0, 4), (0, 5), (0, 6), (0, 7), (1, 8), (0, 9)])], []⟩ Try.func11 rfl Try.ntmps11 (rs := [.tmp 5]) rfl (sig := code_Kraft_2_sig) (out := code_Kraft_2_out) rfl Try.call11 (fun X => by kernel_rfl)

def slices_insertionSortCmpFunc_sig : Shape := ⟨[(.int .i64), (.int .i64), (.list (.int .i64)), (.list (.int .i64))], [(0, .own 100000), (1, .v 0), (2, .v 1), (3, .fn 11 [.addr 2])], [(100000, .arr 3 3)]⟩
def slices_insertionSortCmpFunc_out : Shape := ⟨[(.list (.int .i64))], [], [(100000, .arr 3 0)]⟩
noncomputable def slices_insertionSortCmpFunc_ce : CE := ⟨19, slices_insertionSortCmpFunc_sig, slices_insertionSortCmpFunc_out, fun X => slices_insertionSortCmpFunc X.1 X.2.1 X.2.2.1 X.2.2.2⟩
theorem slices_insertionSortCmpFunc_ok : CE.ok Try.prog slices_insertionSortCmpFunc_ce := CE.of (Γ := [code_Kraft_2_ce]) (by kernel_rfl) TT_ok (GOK.cons code_Kraft_2_ok (GOK.nil)) ⟨[(1, ⟨⟨[(.int .i64), (.list (.int .i64))], [(0, .own 100000), (8, .v 0)], [(100000, .arr 3 1)]⟩, [9, 12, 13, 14, 15, 16, 17, 18, 19, 20, 21, 22, 23, 24, 25, 26, 27, 28, 29, 30, 31, 32, 33, 34, 35, 36, 37, 38, 39, 40, 41, 42, 43, 44, 45, 46, 47, 48, 49, 50, 51, 52], [], [], 0, []⟩), (4, ⟨⟨[(.int .i64), (.list (.int .i64))], [(0, .own 100000), (9, .v 0)], [(100000, .arr 3 1)]⟩, [18, 19, 20, 21, 22, 23, 24, 25, 26, 27, 28, 29, 30, 31, 32, 33, 34, 35, 36, 37, 38, 39, 40, 41, 42, 43, 44, 45, 46, 47, 48, 49, 50, 51, 52], [], [], 0, []⟩)], [(4, ⟨⟨[.bool, (.list (.int .i64))], [(0, .own 100000), (34, .v 0)], [(100000, .arr 3 1)]⟩, [18, 19, 20, 21, 22, 23, 24, 25, 26, 27, 28, 29, 30, 31, 32, 33], [], [], 0, []⟩)], [(4, [(0, 0), (0, 1), (0, 2), (0, 3), (0, 4), (0, 5), (0, 6), (0, 7), (0, 8), (0, 9), (0, 10), (0, 11), (0, 12), (0, 13), (1, 14), (0, 15), (0, 16)]), (6, [(0, 0), (0, 1), (0, 2), (0, 3), (0, 4), (0, 5), (0, 6), (0, 7), (0, 8), (0, 9), (0, 10), (0, 11), (0, 12), (0, 13), (0, 14), (2, 15), (0, 16), (2, 17)])], []⟩ Try.func19 rfl Try.ntmps19 (rs := []) rfl (sig := slices_insertionSortCmpFunc_sig) (out := slices_insertionSortCmpFunc_out) rfl Try.call19 (fun X => by kernel_rfl)

def slices_swapRangeCmpFunc_sig : Shape := ⟨[(.int .i64), (.int .i64), (.int .i64), (.list (.int .i64)), (.list (.int .i64))], [(0, .own 100000), (1, .v 0), (2, .v 1), (3, .v 2), (4, .fn 11 [.addr 3])], [(100000, .arr 3 4)]⟩
def slices_swapRangeCmpFunc_out : Shape := ⟨[(.list (.int .i64))], [], [(100000, .arr 3 0)]⟩
noncomputable def slices_swapRangeCmpFunc_ce : CE := ⟨22, slices_swapRangeCmpFunc_sig, slices_swapRangeCmpFunc_out, fun X => slices_swapRangeCmpFunc X.1 X.2.1 X.2.2.1 X.2.2.2.1 X.2.2.2.2⟩
theorem slices_swapRangeCmpFunc_ok : CE.ok Try.prog slices_swapRangeCmpFunc_ce := CE.of (Γ := []) (by kernel_rfl) TT_ok (GOK.nil) ⟨[(1, ⟨⟨[(.int .i64), (.list (.int .i64))], [(0, .own 100000), (10, .v 0)], [(100000, .arr 3 1)]⟩, [11, 12, 13, 14, 15, 16, 17, 18, 19, 20, 21, 22, 23, 24, 25, 26, 27, 28, 29, 30, 31, 32, 33, 34, 35, 36, 37], [], [], 0, []⟩)], [], [(3, [(0, 0), (0, 1), (0, 2), (0, 3), (0, 4), (0, 5), (0, 6), (0, 7), (0, 8), (0, 9), (0, 10), (0, 11), (0, 12), (0, 13), (0, 14), (0, 15), (0, 16), (0, 17), (0, 18), (0, 19), (0, 20), (2, 21), (0, 22), (2, 23)])], []⟩ Try.func22 rfl Try.ntmps22 (rs := []) rfl (sig := slices_swapRangeCmpFunc_sig) (out := slices_swapRangeCmpFunc_out) rfl Try.call22 (fun X => by kernel_rfl)

def slices_rotateCmpFunc_sig : Shape := ⟨[(.int .i64), (.int .i64), (.int .i64), (.list (.int .i64)), (.list (.int .i64))], [(0, .own 100000), (1, .v 0), (2, .v 1), (3, .v 2), (4, .fn 11 [.addr 3])], [(100000, .arr 3 4)]⟩
def slices_rotateCmpFunc_out : Shape := ⟨[(.list (.int .i64))], [], [(100000, .arr 3 0)]⟩
noncomputable def slices_rotateCmpFunc_ce : CE := ⟨21, slices_rotateCmpFunc_sig, slices_rotateCmpFunc_out, fun X => slices_rotateCmpFunc X.1 X.2.1 X.2.2.1 X.2.2.2.1 X.2.2.2.2⟩
theorem slices_rotateCmpFunc_ok : CE.ok Try.prog slices_rotateCmpFunc_ce := CE.of (Γ := [slices_swapRangeCmpFunc_ce]) (by kernel_rfl) TT_ok (GOK.cons slices_swapRangeCmpFunc_ok (GOK.nil)) ⟨[(2, ⟨⟨[(.int .i64), (.int .i64), (.list (.int .i64))], [(0, .own 100000), (10, .v 0), (11, .v 1)], [(100000, .arr 3 2)]⟩, [18, 19, 20, 21, 22, 23, 24, 25, 26, 27, 28, 29, 30, 31, 32, 33, 34, 35, 36, 37, 38, 39, 40, 41, 42, 43, 44, 45, 46, 47, 48, 49], [], [], 0, []⟩)], [], [], []⟩ Try.func21 rfl Try.ntmps21 (rs := []) rfl (sig := slices_rotateCmpFunc_sig) (out := slices_rotateCmpFunc_out) rfl Try.call21 (fun X => by kernel_rfl)

def slices_symMergeCmpFunc_sig : Shape := ⟨[(.int .i64), (.int .i64), (.int .i64), (.list (.int .i64)), (.list (.int .i64))], [(0, .own 100000), (1, .v 0), (2, .v 1), (3, .v 2), (4, .fn 11 [.addr 3])], [(100000, .arr 3 4)]⟩
def slices_symMergeCmpFunc_out : Shape := ⟨[(.list (.int .i64))], [], [(100000, .arr 3 0)]⟩
noncomputable def slices_symMergeCmpFunc_ce : CE := ⟨20, slices_symMergeCmpFunc_sig, slices_symMergeCmpFunc_out, LFix slices_symMergeCmpFunc_F⟩
theorem slices_symMergeCmpFunc_ok : CE.ok Try.prog slices_symMergeCmpFunc_ce := CE.ofRec (Γ := [slices_rotateCmpFunc_ce, code_Kraft_2_ce]) (by kernel_rfl) TT_ok (GOK.cons slices_rotateCmpFunc_ok (GOK.cons code_Kraft_2_ok (GOK.nil))) ⟨[(3, ⟨⟨[(.int .i64), (.int .i64)], [(10, .v 0), (11, .v 1)], []⟩, [12, 31, 32, 33, 34, 35, 36, 37, 38, 39, 40, 41, 42, 43, 44, 45, 46, 47, 48, 49, 50, 51, 52, 53], [], [], 0, []⟩), (9, ⟨⟨[(.int .i64), (.list (.int .i64))], [(0, .own 100000), (13, .v 0)], [(100000, .arr 3 1)]⟩, [55, 56, 57, 58, 59, 60, 61, 62, 63, 64, 65, 66, 67, 68, 69, 70, 71, 72, 73, 74, 75, 76], [], [], 0, []⟩), (15, ⟨⟨[(.int .i64), (.int .i64)], [(14, .v 0), (15, .v 1)], []⟩, [16, 83, 84, 85, 86, 87, 88, 89, 90, 91, 92, 93, 94, 95, 96, 97, 98, 99, 100, 101, 102, 103, 104, 105, 106], [], [], 0, []⟩), (21, ⟨⟨[(.int .i64), (.list (.int .i64))], [(0, .own 100000), (17, .v 0)], [(100000, .arr 3 1)]⟩, [108, 109, 110, 111, 112, 113, 114, 115, 116, 117, 118, 119, 120, 121, 122, 123, 124, 125, 126, 127, 128], [], [], 0, []⟩), (33, ⟨⟨[(.int .i64), (.int .i64)], [(20, .v 0), (21, .v 1)], []⟩, [23, 149, 150, 151, 152, 153, 154, 155, 156, 157, 158, 159, 160, 161, 162, 163, 164, 165, 166, 167, 168, 169, 170, 171, 172, 173, 174], [], [], 0, []⟩)], [(31, ⟨⟨[(.int .i64), (.int .i64)], [(20, .v 0), (21, .v 1)], []⟩, [138, 139, 140, 141, 142, 143, 144, 145, 146], [], [], 0, []⟩), (39, ⟨⟨[.bool], [(185, .v 0)], []⟩, [178, 179, 180, 181, 182, 183, 184], [], [], 0, []⟩), (40, ⟨⟨[(.list (.int .i64))], [(0, .own 100000)], [(100000, .arr 3 0)]⟩, [178, 179, 180, 181, 182, 183, 184, 185, 186, 187, 188, 189, 190, 191], [], [], 0, []⟩), (41, ⟨⟨[.bool], [(199, .v 0)], []⟩, [192, 193, 194, 195, 196, 197, 198], [], [], 0, []⟩), (42, ⟨⟨[(.list (.int .i64))], [(0, .own 100000)], [(100000, .arr 3 0)]⟩, [192, 193, 194, 195, 196, 197, 198, 199, 200, 201, 202, 203, 204, 205], [], [], 0, []⟩), (43, ⟨⟨[.bool], [(213, .v 0)], []⟩, [206, 207, 208, 209, 210, 211, 212], [], [], 0, []⟩)], [(5, [(0, 0), (0, 1), (0, 2), (0, 3), (0, 4), (0, 5), (0, 6), (0, 7), (0, 8), (1, 9), (0, 10)]), (11, [(0, 0), (0, 1), (0, 2), (0, 3), (0, 4), (0, 5), (0, 6), (0, 7), (0, 8), (0, 9), (0, 10), (0, 11), (0, 12), (0, 13), (0, 14), (2, 15), (0, 16), (2, 17)]), (17, [(0, 0), (0, 1), (0, 2), (0, 3), (0, 4), (0, 5), (0, 6), (0, 7), (0, 8), (1, 9), (0, 10), (0, 11)]), (23, [(0, 0), (0, 1), (0, 2), (0, 3), (0, 4), (0, 5), (0, 6), (0, 7), (0, 8), (0, 9), (0, 10), (0, 11), (0, 12), (0, 13), (0, 14), (2, 15), (0, 16), (2, 17)]), (35, [(0, 0), (0, 1), (0, 2), (0, 3), (0, 4), (0, 5), (0, 6), (0, 7), (0, 8), (0, 9), (0, 10), (1, 11), (0, 12), (0, 13)])], []⟩ Try.func20 rfl Try.ntmps20 (rs := []) rfl (sig := slices_symMergeCmpFunc_sig) (out := slices_symMergeCmpFunc_out) rfl Try.call20 (d := slices_symMergeCmpFunc_F) (fun rc X => by kernel_rfl)

def slices_stableCmpFunc_sig : Shape := ⟨[(.int .i64), (.list (.int .i64)), (.list (.int .i64))], [(0, .own 100000), (1, .v 0), (2, .fn 11 [.addr 1])], [(100000, .arr 3 2)]⟩
def slices_stableCmpFunc_out : Shape := ⟨[(.list (.int .i64))], [], [(100000, .arr 3 0)]⟩
noncomputable def slices_stableCmpFunc_ce : CE := ⟨16, slices_stableCmpFunc_sig, slices_stableCmpFunc_out, fun X => slices_stableCmpFunc X.1 X.2.1 X.2.2⟩
theorem slices_stableCmpFunc_ok : CE.ok Try.prog slices_stableCmpFunc_ce := CE.of (Γ := [slices_insertionSortCmpFunc_ce, slices_symMergeCmpFunc_ce]) (by kernel_rfl) TT_ok (GOK.cons slices_insertionSortCmpFunc_ok (GOK.cons slices_symMergeCmpFunc_ok (GOK.nil))) ⟨[(2, ⟨⟨[(.int .i64), (.int .i64), (.list (.int .i64))], [(0, .own 100000), (7, .v 0), (8, .v 1)], [(100000, .arr 3 2)]⟩, [11, 12, 13, 14, 15, 16, 17, 18, 19, 20, 21, 22], [], [], 0, []⟩), (7, ⟨⟨[(.int .i64), (.list (.int .i64))], [(0, .own 100000), (6, .v 0)], [(100000, .arr 3 1)]⟩, [7, 8, 9, 28, 29, 30, 31, 32, 33, 34, 35, 36, 37, 38, 39, 40, 41, 42, 43, 44, 45, 46, 47, 48, 49, 50, 51, 52, 53, 54, 55, 56, 57, 58, 59, 60, 61, 62], [], [], 0, []⟩), (9, ⟨⟨[(.int .i64), (.int .i64), (.list (.int .i64))], [(0, .own 100000), (7, .v 0), (8, .v 1)], [(100000, .arr 3 2)]⟩, [33, 34, 35, 36, 37, 38, 39, 40, 41, 42, 43, 44, 45, 46, 47, 48], [], [], 0, []⟩)], [], [], []⟩ Try.func16 rfl Try.ntmps16 (rs := []) rfl (sig := slices_stableCmpFunc_sig) (out := slices_stableCmpFunc_out) rfl Try.call16 (fun X => by kernel_rfl)

def slices_SortStableFunc_sig : Shape := ⟨[(.list (.int .i64)), (.list (.int .i64))], [(0, .own 100000), (1, .fn 11 [.addr 0])], [(100000, .arr 3 1)]⟩
def slices_SortStableFunc_out : Shape := ⟨[(.list (.int .i64))], [], [(100000, .arr 3 0)]⟩
noncomputable def slices_SortStableFunc_ce : CE := ⟨10, slices_SortStableFunc_sig, slices_SortStableFunc_out, fun X => slices_SortStableFunc X.1 X.2⟩
theorem slices_SortStableFunc_ok : CE.ok Try.prog slices_SortStableFunc_ce := CE.of (Γ := [slices_stableCmpFunc_ce]) (by kernel_rfl) TT_ok (GOK.cons slices_stableCmpFunc_ok (GOK.nil)) ⟨[], [], [], []⟩ Try.func10 rfl Try.ntmps10 (rs := []) rfl (sig := slices_SortStableFunc_sig) (out := slices_SortStableFunc_out) rfl Try.call10 (fun X => by kernel_rfl)

def slices_Clone_sig : Shape := ⟨[(.list (.int .i64))], [(0, .v 0)], []⟩
def slices_Clone_out : Shape := ⟨[(.list (.int .i64))], [(0, .own 0)], [(0, .arr 3 0)]⟩
noncomputable def slices_Clone_ce : CE := ⟨13, slices_Clone_sig, slices_Clone_out, fun X => slices_Clone X⟩
theorem slices_Clone_ok : CE.ok Try.prog slices_Clone_ce := CE.of (Γ := []) (by kernel_rfl) TT_ok (GOK.nil) ⟨[], [], [], []⟩ Try.func13 rfl Try.ntmps13 (rs := [.tmp 2]) rfl (sig := slices_Clone_sig) (out := slices_Clone_out) rfl Try.call13 (fun X => by kernel_rfl)

def code_Kraft_sig : Shape := ⟨[(.int .i64), (.list (.int .i64))], [(0, .v 0), (1, .v 1)], []⟩
def code_Kraft_out : Shape := ⟨[.bool, (.int .i64), (.list (.list (.int .i64)))], [(0, .own 0), (1, .v 0), (2, .v 1)], [(0, .arr 22 2)]⟩
noncomputable def code_Kraft_ce : CE := ⟨4, code_Kraft_sig, code_Kraft_out, fun X => code_Kraft X.1 X.2⟩
theorem code_Kraft_ok : CE.ok Try.prog code_Kraft_ce := CE.of (Γ := [slices_SortStableFunc_ce, slices_ContainsFunc_ce, slices_Clone_ce]) (by kernel_rfl) TT_ok (GOK.cons slices_SortStableFunc_ok (GOK.cons slices_ContainsFunc_ok (GOK.cons slices_Clone_ok (GOK.nil)))) ⟨[(9, ⟨⟨[(.int .i64), (.list (.int .i64))], [(7, .own 1), (35, .v 0)], [(1, .arr 3 1)]⟩, [8, 32, 33, 36, 37, 38, 39, 40, 41, 42], [], [0], 2, []⟩), (17, ⟨⟨[.bool, (.int .i64), (.list (.list (.int .i64))), (.list (.int .i64))], [(4, .own 2), (9, .own 3), (10, .v 0), (52, .v 1)], [(2, .arr 22 2), (3, .arr 3 3)]⟩, [5, 6, 12, 13, 48, 49, 53, 54, 55, 56, 57, 58, 59, 60, 61, 62, 63, 64, 65, 66, 67, 68, 69, 70, 71, 72, 73, 74, 75, 76, 77, 78, 79, 80, 81, 82, 83, 84, 85, 86, 87, 88, 89, 90, 91, 92, 93, 94, 95, 96, 97, 98, 99, 100, 101], [], [0, 1], 4, []⟩), (21, ⟨⟨[(.list (.int .i64))], [(9, .own 3)], [(3, .arr 3 0)]⟩, [58, 59, 60, 61, 62, 63, 64, 65, 66, 67], [], [0, 1, 2], 4, []⟩), (25, ⟨⟨[(.int .i64), (.list (.int .i64))], [(9, .own 3), (13, .v 0)], [(3, .arr 3 1)]⟩, [58, 70, 73, 76, 77, 78, 79, 80, 81, 82, 83, 84, 85, 86, 87, 88, 89, 90, 91], [], [0, 1, 2], 5, []⟩)], [(25, ⟨⟨[.bool, (.list (.int .i64))], [(9, .own 3), (86, .v 0)], [(3, .arr 3 1)]⟩, [76, 77, 78, 79, 80, 81, 82, 83, 84, 85], [], [0, 1, 2], 5, []⟩), (30, ⟨⟨[.bool, (.list (.list (.int .i64))), (.list (.int .i64))], [(4, .own 2), (9, .own 3), (10, .v 0)], [(2, .arr 22 1), (3, .arr 3 2)]⟩, [5, 6, 12, 13, 54, 55, 56, 57, 58, 59, 60, 61, 62, 63, 64, 65, 66, 67, 68, 69, 70, 71, 72, 73, 74, 75, 76, 77, 78, 79, 80, 81, 82, 83, 84, 85, 86, 87, 88, 89, 90, 91, 92, 93, 94, 95, 96, 97, 98, 99, 100], [], [0, 1], 4, []⟩)], [], []⟩ Try.func4 rfl Try.ntmps4 (rs := [.tmp 4, .tmp 5, .tmp 6]) rfl (sig := code_Kraft_sig) (out := code_Kraft_out) rfl Try.call4 (fun X => by kernel_rfl)

def r24_Kraft_sig : Shape := ⟨[(.int .i64), (.list (.int .i64))], [(0, .v 0), (1, .v 1)], []⟩
def r24_Kraft_out : Shape := ⟨[.bool], [(0, .v 0)], []⟩
noncomputable def r24_Kraft_ce : CE := ⟨5, r24_Kraft_sig, r24_Kraft_out, fun X => r24_Kraft X.1 X.2⟩
theorem r24_Kraft_ok : CE.ok Try.prog r24_Kraft_ce := CE.of (Γ := []) (by kernel_rfl) TT_ok (GOK.nil) ⟨[(3, ⟨⟨[(.int .i64), (.int .i64)], [(5, .v 0), (6, .v 1)], []⟩, [4, 7, 8, 9, 10, 11, 12, 13, 14, 15, 16, 17, 18, 19, 20, 21, 22, 23, 24, 25, 26, 27, 28, 29, 30, 31, 32], [], [], 0, []⟩), (6, ⟨⟨[(.int .i64), (.int .i64)], [(5, .v 0), (7, .v 1)], []⟩, [12, 13, 14, 15, 16, 17, 18, 19, 20, 21, 22, 23, 24, 25], [], [], 0, []⟩)], [], [], []⟩ Try.func5 rfl Try.ntmps5 (rs := [.tmp 4]) rfl (sig := r24_Kraft_sig) (out := r24_Kraft_out) rfl Try.call5 (fun X => by kernel_rfl)

def r1_May_sig : Shape := ⟨[(.int .i64), (.list (.int .i64))], [(0, .v 0), (1, .v 1)], []⟩
def r1_May_out : Shape := ⟨[(.int .i64)], [(0, .v 0)], []⟩
noncomputable def r1_May_ce : CE := ⟨6, r1_May_sig, r1_May_out, fun X => r1_May X.1 X.2⟩
theorem r1_May_ok : CE.ok Try.prog r1_May_ce := CE.of (Γ := []) (by kernel_rfl) TT_ok (GOK.nil) ⟨[(6, ⟨⟨[(.int .i64)], [(5, .v 0)], []⟩, [4, 15, 16, 17, 18, 19, 20, 21, 22, 23, 24, 25, 26, 27, 28, 29, 30, 31, 32, 33], [], [], 0, []⟩)], [], [], []⟩ Try.func6 rfl Try.ntmps6 (rs := [.tmp 4]) rfl (sig := r1_May_sig) (out := r1_May_out) rfl Try.call6 (fun X => by kernel_rfl)

def r1_Words_sig : Shape := ⟨[(.list (.int .i64)), (.list (.int .i64))], [(0, .v 0), (1, .v 1)], []⟩
def r1_Words_out : Shape := ⟨[.bool], [(0, .v 0)], []⟩
noncomputable def r1_Words_ce : CE := ⟨18, r1_Words_sig, r1_Words_out, fun X => r1_Words X.1 X.2⟩
theorem r1_Words_ok : CE.ok Try.prog r1_Words_ce := CE.of (Γ := []) (by kernel_rfl) TT_ok (GOK.nil) ⟨[(4, ⟨⟨[(.int .i64)], [(5, .v 0)], []⟩, [4, 11, 12, 13, 14, 15, 16, 17, 18, 19, 20, 21, 22, 23, 24, 25], [], [], 0, []⟩)], [], [(6, [(0, 0), (0, 1), (0, 2), (0, 3), (0, 4), (0, 5), (0, 6), (0, 7), (0, 8)])], []⟩ Try.func18 rfl Try.ntmps18 (rs := [.tmp 4]) rfl (sig := r1_Words_sig) (out := r1_Words_out) rfl Try.call18 (fun X => by kernel_rfl)

def r24_Begins_sig : Shape := ⟨[(.list (.int .i64)), (.list (.int .i64))], [(0, .v 0), (1, .v 1)], []⟩
def r24_Begins_out : Shape := ⟨[.bool], [(0, .v 0)], []⟩
noncomputable def r24_Begins_ce : CE := ⟨14, r24_Begins_sig, r24_Begins_out, fun X => r24_Begins X.1 X.2⟩
theorem r24_Begins_ok : CE.ok Try.prog r24_Begins_ce := CE.of (Γ := [r1_Words_ce]) (by kernel_rfl) TT_ok (GOK.cons r1_Words_ok (GOK.nil)) ⟨[], [], [], []⟩ Try.func14 rfl Try.ntmps14 (rs := [.tmp 4]) rfl (sig := r24_Begins_sig) (out := r24_Begins_out) rfl Try.call14 (fun X => by kernel_rfl)

def r24_Apart_sig : Shape := ⟨[(.list (.list (.int .i64)))], [(0, .v 0)], []⟩
def r24_Apart_out : Shape := ⟨[.bool], [(0, .v 0)], []⟩
noncomputable def r24_Apart_ce : CE := ⟨7, r24_Apart_sig, r24_Apart_out, fun X => r24_Apart X⟩
theorem r24_Apart_ok : CE.ok Try.prog r24_Apart_ce := CE.of (Γ := [r24_Begins_ce]) (by kernel_rfl) TT_ok (GOK.cons r24_Begins_ok (GOK.nil)) ⟨[(2, ⟨⟨[(.int .i64)], [(3, .v 0)], []⟩, [2, 4, 5, 6, 7, 8, 9, 10, 11, 12, 13, 14, 15, 16, 17, 18, 19, 20, 21, 22, 23, 24, 25, 26, 27, 28, 29, 30, 31, 32], [], [], 0, []⟩), (5, ⟨⟨[(.int .i64)], [(4, .v 0)], []⟩, [2, 5, 12, 13, 14, 15, 16, 17, 18, 19, 20, 21, 22, 23, 24, 25, 26, 27, 28, 29, 30, 31, 32], [], [], 0, []⟩)], [], [(7, [(0, 0), (0, 1), (0, 2), (0, 3), (0, 4), (0, 5), (0, 6), (0, 7), (1, 8), (0, 9)])], []⟩ Try.func7 rfl Try.ntmps7 (rs := [.tmp 2]) rfl (sig := r24_Apart_sig) (out := r24_Apart_out) rfl Try.call7 (fun X => by kernel_rfl)

def law_CodeKraft_sig : Shape := ⟨[(.int .i64), (.list (.int .i64))], [(0, .v 0), (1, .v 1)], []⟩
def law_CodeKraft_out : Shape := ⟨[.bool], [(0, .v 0)], []⟩
noncomputable def law_CodeKraft_ce : CE := ⟨3, law_CodeKraft_sig, law_CodeKraft_out, fun X => law_CodeKraft X.1 X.2⟩
theorem law_CodeKraft_ok : CE.ok Try.prog law_CodeKraft_ce := CE.of (Γ := [code_Kraft_ce, r24_Kraft_ce, r1_May_ce, r24_Apart_ce]) (by kernel_rfl) TT_ok (GOK.cons code_Kraft_ok (GOK.cons r24_Kraft_ok (GOK.cons r1_May_ok (GOK.cons r24_Apart_ok (GOK.nil))))) ⟨[(8, ⟨⟨[(.int .i64), (.int .i64)], [(8, .v 0), (9, .v 1)], []⟩, [34, 35, 36, 37, 38, 39, 40, 41, 42, 43, 44, 45, 46, 47, 48, 49, 50, 51, 52, 53, 54, 55], [], [0], 1, []⟩), (22, ⟨⟨[(.int .i64)], [(11, .v 0)], []⟩, [4, 12, 90, 91, 92, 93, 94, 95, 96, 97, 98, 99, 100, 101, 102, 103, 104, 105, 106, 107, 108, 109, 110, 111, 112, 113, 114, 115], [], [0], 1, []⟩)], [(3, ⟨⟨[.bool], [(25, .v 0)], []⟩, [20, 21, 22, 23, 24], [], [0], 1, []⟩), (6, ⟨⟨[(.int .i64)], [(8, .v 0)], []⟩, [20, 21, 22, 23, 24, 25, 26, 27, 28, 29, 30, 31, 32, 33], [], [0], 1, []⟩), (8, ⟨⟨[.bool], [(41, .v 0)], []⟩, [34, 35, 36, 37, 38, 39, 40], [], [0], 1, []⟩)], [(25, [(0, 0), (0, 1), (0, 2), (0, 3), (0, 4), (0, 5), (0, 6), (0, 7), (0, 8), (0, 9), (0, 10), (0, 11), (0, 12), (0, 13)])], []⟩ Try.func3 rfl Try.ntmps3 (rs := [.tmp 4]) rfl (sig := law_CodeKraft_sig) (out := law_CodeKraft_out) rfl Try.call3 (fun X => by kernel_rfl)

end Go.Proofs.Ytnijfahigmajjaa.codeKraftW
