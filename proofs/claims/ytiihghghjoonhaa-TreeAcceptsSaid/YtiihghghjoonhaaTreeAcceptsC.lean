/- That the functions of 'TreeAccepts' compute so. -/
import Derived.Test.YtiihghghjoonhaaTreeAcceptsD
import Derived.Test.YtiihghghjoonhaaProg
import Derived.KernelRfl
set_option maxHeartbeats 1000000
set_option maxRecDepth 20000
set_option linter.unusedSimpArgs false
set_option linter.unusedVariables false
set_option linter.unusedSectionVars false
namespace Go.Proofs.Ytiihghghjoonhaa.treeAcceptsW
open Go Go.Ab
def te3 : TE := ⟨3, .int .i64, false, 1, 8, .int .i64 0, some (.int .i64)⟩
theorem te3_ok : TEok Try.prog te3 := ⟨TI.of Try.underlying3 rfl (by kernel_rfl), Try.underlying3, fun t h => by cases h; exact ⟨rfl, rfl, by decide, rfl⟩⟩
def te4 : TE := ⟨4, .bool, false, 1, 1, .bool false, some .bool⟩
theorem te4_ok : TEok Try.prog te4 := ⟨TI.of Try.underlying4 rfl (by kernel_rfl), Try.underlying4, fun t h => by cases h; exact ⟨rfl, rfl, by decide, rfl⟩⟩
def te22 : TE := ⟨22, .slice 38, false, 1, 24, .slice none 0 0, some (.list (.pair (.int .i64) (.pair (.int .i64) (.pair (.int .i64) (.pair (.int .i64) .unit)))))⟩
theorem te22_ok : TEok Try.prog te22 := ⟨TI.of Try.underlying22 rfl (by kernel_rfl), Try.underlying22, fun t h => by cases h; exact ⟨rfl, rfl, by decide, rfl⟩⟩
def te23 : TE := ⟨23, .slice 3, false, 1, 24, .slice none 0 0, some (.list (.int .i64))⟩
theorem te23_ok : TEok Try.prog te23 := ⟨TI.of Try.underlying23 rfl (by kernel_rfl), Try.underlying23, fun t h => by cases h; exact ⟨rfl, rfl, by decide, rfl⟩⟩
def te25 : TE := ⟨25, .struct [(0, 3), (1, 3), (2, 22), (3, 3), (4, 23)] none, true, 5, 72, .agg ⟨[.int .i64 0, .int .i64 0, .slice none 0 0, .int .i64 0, .slice none 0 0]⟩, some (.pair (.int .i64) (.pair (.int .i64) (.pair (.list (.pair (.int .i64) (.pair (.int .i64) (.pair (.int .i64) (.pair (.int .i64) .unit))))) (.pair (.int .i64) (.pair (.list (.int .i64)) .unit)))))⟩
theorem te25_ok : TEok Try.prog te25 := ⟨TI.of Try.underlying25 rfl (by kernel_rfl), ⟨⟨_, Try.underlying25, rfl⟩, fun t h => by cases h⟩, fun t h => by cases h; exact ⟨rfl, rfl, by decide, rfl⟩⟩
def te26 : TE := ⟨26, .slice 44, false, 1, 24, .slice none 0 0, some (.list (.pair (.int .i64) (.pair (.int .i64) (.pair (.int .i64) .unit))))⟩
theorem te26_ok : TEok Try.prog te26 := ⟨TI.of Try.underlying26 rfl (by kernel_rfl), Try.underlying26, fun t h => by cases h; exact ⟨rfl, rfl, by decide, rfl⟩⟩
def te28 : TE := ⟨28, .struct [(0, 26)] none, true, 1, 24, .agg ⟨[.slice none 0 0]⟩, some (.pair (.list (.pair (.int .i64) (.pair (.int .i64) (.pair (.int .i64) .unit)))) .unit)⟩
theorem te28_ok : TEok Try.prog te28 := ⟨TI.of Try.underlying28 rfl (by kernel_rfl), ⟨⟨_, Try.underlying28, rfl⟩, fun t h => by cases h⟩, fun t h => by cases h; exact ⟨rfl, rfl, by decide, rfl⟩⟩
def te29 : TE := ⟨29, .int .i64, false, 1, 8, .int .i64 0, some (.int .i64)⟩
theorem te29_ok : TEok Try.prog te29 := ⟨TI.of Try.underlying29 rfl (by kernel_rfl), Try.underlying29, fun t h => by cases h; exact ⟨rfl, rfl, by decide, rfl⟩⟩
def te38 : TE := ⟨38, .struct [(0, 3), (1, 3), (2, 3), (3, 3)] none, true, 4, 32, .agg ⟨[.int .i64 0, .int .i64 0, .int .i64 0, .int .i64 0]⟩, some (.pair (.int .i64) (.pair (.int .i64) (.pair (.int .i64) (.pair (.int .i64) .unit))))⟩
theorem te38_ok : TEok Try.prog te38 := ⟨TI.of Try.underlying38 rfl (by kernel_rfl), ⟨⟨_, Try.underlying38, rfl⟩, fun t h => by cases h⟩, fun t h => by cases h; exact ⟨rfl, rfl, by decide, rfl⟩⟩
def te42 : TE := ⟨42, .slice 4, false, 1, 24, .slice none 0 0, some (.list .bool)⟩
theorem te42_ok : TEok Try.prog te42 := ⟨TI.of Try.underlying42 rfl (by kernel_rfl), Try.underlying42, fun t h => by cases h; exact ⟨rfl, rfl, by decide, rfl⟩⟩
def te44 : TE := ⟨44, .struct [(0, 3), (1, 3), (2, 3)] none, true, 3, 24, .agg ⟨[.int .i64 0, .int .i64 0, .int .i64 0]⟩, some (.pair (.int .i64) (.pair (.int .i64) (.pair (.int .i64) .unit)))⟩
theorem te44_ok : TEok Try.prog te44 := ⟨TI.of Try.underlying44 rfl (by kernel_rfl), ⟨⟨_, Try.underlying44, rfl⟩, fun t h => by cases h⟩, fun t h => by cases h; exact ⟨rfl, rfl, by decide, rfl⟩⟩
def te46 : TE := ⟨46, .slice 42, false, 1, 24, .slice none 0 0, some (.list (.list .bool))⟩
theorem te46_ok : TEok Try.prog te46 := ⟨TI.of Try.underlying46 rfl (by kernel_rfl), Try.underlying46, fun t h => by cases h; exact ⟨rfl, rfl, by decide, rfl⟩⟩
def TT : List TE := [te3, te4, te22, te23, te25, te26, te28, te29, te38, te42, te44, te46]
theorem TT_ok : TOK Try.prog TT := TOK.cons te3_ok (TOK.cons te4_ok (TOK.cons te22_ok (TOK.cons te23_ok (TOK.cons te25_ok (TOK.cons te26_ok (TOK.cons te28_ok (TOK.cons te29_ok (TOK.cons te38_ok (TOK.cons te42_ok (TOK.cons te44_ok (TOK.cons te46_ok (TOK.nil))))))))))))

def tree_Check_1_sig : Shape := ⟨[(.int .i64), (.pair (.int .i64) (.pair (.int .i64) (.pair (.list (.pair (.int .i64) (.pair (.int .i64) (.pair (.int .i64) (.pair (.int .i64) .unit))))) (.pair (.int .i64) (.pair (.list (.int .i64)) .unit)))))], [(0, .v 0), (1, .addr 1)], []⟩
def tree_Check_1_out : Shape := ⟨[.bool], [(0, .v 0)], []⟩
noncomputable def tree_Check_1_ce : CE := ⟨10, tree_Check_1_sig, tree_Check_1_out, fun X => tree_Check_1 X.1 X.2⟩
theorem tree_Check_1_ok : CE.ok Try.prog tree_Check_1_ce := CE.of (Γ := []) (by kernel_rfl) TT_ok (GOK.nil) ⟨[], [], [], []⟩ Try.func10 rfl Try.ntmps10 (rs := [.tmp 3]) rfl (sig := tree_Check_1_sig) (out := tree_Check_1_out) rfl Try.call10 (fun X => by kernel_rfl)

def tree_Check_2_sig : Shape := ⟨[(.int .i64)], [(0, .v 0)], []⟩
def tree_Check_2_out : Shape := ⟨[.bool], [(0, .v 0)], []⟩
noncomputable def tree_Check_2_ce : CE := ⟨12, tree_Check_2_sig, tree_Check_2_out, fun X => tree_Check_2 X⟩
theorem tree_Check_2_ok : CE.ok Try.prog tree_Check_2_ce := CE.of (Γ := []) (by kernel_rfl) TT_ok (GOK.nil) ⟨[], [], [], []⟩ Try.func12 rfl Try.ntmps12 (rs := [.tmp 2]) rfl (sig := tree_Check_2_sig) (out := tree_Check_2_out) rfl Try.call12 (fun X => by kernel_rfl)

def slices_IndexFunc_sig : Shape := ⟨[(.list (.int .i64))], [(0, .v 0), (1, .fn 12 [])], []⟩
def slices_IndexFunc_out : Shape := ⟨[(.int .i64)], [(0, .v 0)], []⟩
noncomputable def slices_IndexFunc_ce : CE := ⟨17, slices_IndexFunc_sig, slices_IndexFunc_out, fun X => slices_IndexFunc X⟩
theorem slices_IndexFunc_ok : CE.ok Try.prog slices_IndexFunc_ce := CE.of (Γ := [tree_Check_2_ce]) (by kernel_rfl) TT_ok (GOK.cons tree_Check_2_ok (GOK.nil)) ⟨[(2, ⟨⟨[(.int .i64)], [(8, .v 0)], []⟩, [4, 5, 9, 10, 11, 12, 13, 14, 15, 16, 17, 18], [], [], 0, []⟩)], [], [], []⟩ Try.func17 rfl Try.ntmps17 (rs := [.tmp 4]) rfl (sig := slices_IndexFunc_sig) (out := slices_IndexFunc_out) rfl Try.call17 (fun X => by kernel_rfl)

def slices_ContainsFunc_sig : Shape := ⟨[(.list (.int .i64))], [(0, .v 0), (1, .fn 12 [])], []⟩
def slices_ContainsFunc_out : Shape := ⟨[.bool], [(0, .v 0)], []⟩
noncomputable def slices_ContainsFunc_ce : CE := ⟨11, slices_ContainsFunc_sig, slices_ContainsFunc_out, fun X => slices_ContainsFunc X⟩
theorem slices_ContainsFunc_ok : CE.ok Try.prog slices_ContainsFunc_ce := CE.of (Γ := [slices_IndexFunc_ce]) (by kernel_rfl) TT_ok (GOK.cons slices_IndexFunc_ok (GOK.nil)) ⟨[], [], [], []⟩ Try.func11 rfl Try.ntmps11 (rs := [.tmp 4]) rfl (sig := slices_ContainsFunc_sig) (out := slices_ContainsFunc_out) rfl Try.call11 (fun X => by kernel_rfl)

def cmp_isNaN_sig : Shape := ⟨[(.int .i64)], [(0, .v 0)], []⟩
def cmp_isNaN_out : Shape := ⟨[.bool], [(0, .v 0)], []⟩
noncomputable def cmp_isNaN_ce : CE := ⟨21, cmp_isNaN_sig, cmp_isNaN_out, fun X => cmp_isNaN X⟩
theorem cmp_isNaN_ok : CE.ok Try.prog cmp_isNaN_ce := CE.of (Γ := []) (by kernel_rfl) TT_ok (GOK.nil) ⟨[], [], [], []⟩ Try.func21 rfl Try.ntmps21 (rs := [.tmp 2]) rfl (sig := cmp_isNaN_sig) (out := cmp_isNaN_out) rfl Try.call21 (fun X => by kernel_rfl)

def cmp_Compare_sig : Shape := ⟨[(.int .i64), (.int .i64)], [(0, .v 0), (1, .v 1)], []⟩
def cmp_Compare_out : Shape := ⟨[(.int .i64)], [(0, .v 0)], []⟩
noncomputable def cmp_Compare_ce : CE := ⟨19, cmp_Compare_sig, cmp_Compare_out, fun X => cmp_Compare X.1 X.2⟩
theorem cmp_Compare_ok : CE.ok Try.prog cmp_Compare_ce := CE.of (Γ := [cmp_isNaN_ce]) (by kernel_rfl) TT_ok (GOK.cons cmp_isNaN_ok (GOK.nil)) ⟨[], [], [], []⟩ Try.func19 rfl Try.ntmps19 (rs := [.tmp 4]) rfl (sig := cmp_Compare_sig) (out := cmp_Compare_out) rfl Try.call19 (fun X => by kernel_rfl)

def cmp_Or_sig : Shape := ⟨[(.list (.int .i64))], [(0, .v 0)], []⟩
def cmp_Or_out : Shape := ⟨[(.int .i64)], [(0, .v 0)], []⟩
noncomputable def cmp_Or_ce : CE := ⟨18, cmp_Or_sig, cmp_Or_out, fun X => cmp_Or X⟩
theorem cmp_Or_ok : CE.ok Try.prog cmp_Or_ce := CE.of (Γ := []) (by kernel_rfl) TT_ok (GOK.nil) ⟨[(3, ⟨⟨[(.int .i64)], [(8, .v 0)], []⟩, [2, 5, 9, 10, 11, 12, 13, 14, 15, 16], [], [], 0, []⟩)], [], [], []⟩ Try.func18 rfl Try.ntmps18 (rs := [.tmp 2]) rfl (sig := cmp_Or_sig) (out := cmp_Or_out) rfl Try.call18 (fun X => by kernel_rfl)

def tree_Order_sig : Shape := ⟨[(.pair (.int .i64) (.pair (.int .i64) (.pair (.int .i64) (.pair (.int .i64) .unit)))), (.pair (.int .i64) (.pair (.int .i64) (.pair (.int .i64) (.pair (.int .i64) .unit))))], [(0, .v 0), (1, .v 1)], []⟩
def tree_Order_out : Shape := ⟨[(.int .i64)], [(0, .v 0)], []⟩
noncomputable def tree_Order_ce : CE := ⟨13, tree_Order_sig, tree_Order_out, fun X => tree_Order X.1 X.2⟩
theorem tree_Order_ok : CE.ok Try.prog tree_Order_ce := CE.of (Γ := [cmp_Compare_ce, cmp_Or_ce]) (by kernel_rfl) TT_ok (GOK.cons cmp_Compare_ok (GOK.cons cmp_Or_ok (GOK.nil))) ⟨[], [], [(1, [(0, 0), (0, 1), (0, 2), (0, 3), (0, 5), (0, 6), (0, 7), (0, 8), (0, 10), (0, 11), (0, 12), (0, 13), (0, 15), (0, 16), (0, 17), (0, 18), (1, 4), (1, 9), (1, 14), (1, 19), (1, 20), (1, 21), (0, 22)])], []⟩ Try.func13 rfl Try.ntmps13 (rs := [.tmp 4]) rfl (sig := tree_Order_sig) (out := tree_Order_out) rfl Try.call13 (fun X => by kernel_rfl)

def tree_Check_sig : Shape := ⟨[(.pair (.int .i64) (.pair (.int .i64) (.pair (.list (.pair (.int .i64) (.pair (.int .i64) (.pair (.int .i64) (.pair (.int .i64) .unit))))) (.pair (.int .i64) (.pair (.list (.int .i64)) .unit)))))], [(0, .v 0)], []⟩
def tree_Check_out : Shape := ⟨[(.int .i64)], [(0, .v 0)], []⟩
noncomputable def tree_Check_ce : CE := ⟨4, tree_Check_sig, tree_Check_out, fun X => tree_Check X⟩
theorem tree_Check_ok : CE.ok Try.prog tree_Check_ce := CE.of (Γ := [tree_Check_1_ce, slices_ContainsFunc_ce, tree_Order_ce]) (by kernel_rfl) TT_ok (GOK.cons tree_Check_1_ok (GOK.cons slices_ContainsFunc_ok (GOK.cons tree_Order_ok (GOK.nil)))) ⟨[(7, ⟨⟨[(.int .i64)], [(42, .v 0)], []⟩, [2, 5, 6, 43, 44, 45, 46, 47, 48, 49, 50, 51, 52, 53, 54, 55, 56, 57, 58, 59, 60, 61, 62, 63, 64, 65, 66, 67, 68, 69, 70, 71, 72, 73, 74, 75, 76, 77, 78, 79, 80, 81, 82, 83, 84, 85, 86], [], [0], 1, []⟩), (16, ⟨⟨[(.int .i64)], [(93, .v 0)], []⟩, [2, 7, 94, 95, 96, 97, 98, 99, 100, 101, 102, 103, 104, 105, 106, 107, 108, 109, 110, 111, 112, 113], [], [0], 1, []⟩)], [(9, ⟨⟨[.bool], [(6, .v 0)], []⟩, [46, 47, 48, 49, 50, 51, 52, 53], [], [0, 1], 2, []⟩)], [(18, [(0, 0), (0, 1), (0, 2), (0, 3), (0, 4), (0, 5), (0, 6), (0, 7), (0, 8), (0, 9), (0, 10), (0, 11), (0, 12), (0, 13), (1, 14), (0, 15), (0, 16)])], []⟩ Try.func4 rfl Try.ntmps4 (rs := [.tmp 2]) rfl (sig := tree_Check_sig) (out := tree_Check_out) rfl Try.call4 (fun X => by kernel_rfl)

def r12_Ahead_sig : Shape := ⟨[(.pair (.int .i64) (.pair (.int .i64) (.pair (.int .i64) (.pair (.int .i64) .unit)))), (.pair (.int .i64) (.pair (.int .i64) (.pair (.int .i64) (.pair (.int .i64) .unit))))], [(0, .v 0), (1, .v 1)], []⟩
def r12_Ahead_out : Shape := ⟨[.bool], [(0, .v 0)], []⟩
noncomputable def r12_Ahead_ce : CE := ⟨14, r12_Ahead_sig, r12_Ahead_out, fun X => r12_Ahead X.1 X.2⟩
theorem r12_Ahead_ok : CE.ok Try.prog r12_Ahead_ce := CE.of (Γ := []) (by kernel_rfl) TT_ok (GOK.nil) ⟨[], [], [], []⟩ Try.func14 rfl Try.ntmps14 (rs := [.tmp 4]) rfl (sig := r12_Ahead_sig) (out := r12_Ahead_out) rfl Try.call14 (fun X => by kernel_rfl)

def r12_Check_sig : Shape := ⟨[(.pair (.int .i64) (.pair (.int .i64) (.pair (.list (.pair (.int .i64) (.pair (.int .i64) (.pair (.int .i64) (.pair (.int .i64) .unit))))) (.pair (.int .i64) (.pair (.list (.int .i64)) .unit)))))], [(0, .v 0)], []⟩
def r12_Check_out : Shape := ⟨[(.int .i64)], [(0, .v 0)], []⟩
noncomputable def r12_Check_ce : CE := ⟨5, r12_Check_sig, r12_Check_out, fun X => r12_Check X⟩
theorem r12_Check_ok : CE.ok Try.prog r12_Check_ce := CE.of (Γ := [r12_Ahead_ce]) (by kernel_rfl) TT_ok (GOK.cons r12_Ahead_ok (GOK.nil)) ⟨[(6, ⟨⟨[(.int .i64)], [(3, .v 0)], []⟩, [2, 4, 5, 6, 40, 41, 42, 43, 44, 45, 46, 47, 48, 49, 50, 51, 52, 53, 54, 55, 56, 57, 58, 59, 60, 61, 62, 63, 64, 65, 66, 67, 68, 69, 70, 71, 72, 73, 74, 75, 76, 77, 78, 79, 80, 81, 82, 83, 84, 85, 86, 87, 88, 89, 90, 91, 92, 93, 94, 95, 96, 97, 98, 99, 100, 101, 102, 103, 104, 105, 106, 107, 108, 109, 110, 111], [], [0], 1, []⟩), (14, ⟨⟨[(.int .i64)], [(7, .v 0)], []⟩, [2, 112, 113, 114, 115, 116, 117, 118, 119, 120, 121, 122, 123, 124, 125, 126, 127, 128, 129, 130, 131, 132], [], [0], 1, []⟩), (19, ⟨⟨[(.int .i64)], [(8, .v 0)], []⟩, [2, 9, 133, 134, 135, 136, 137, 138, 139, 140, 141, 142, 143, 144, 145, 146, 147, 148, 149, 150, 151, 152, 153], [], [0], 1, []⟩)], [(9, ⟨⟨[.bool], [(5, .v 0)], []⟩, [52, 53, 54, 55, 56, 57, 58, 59], [], [0, 1], 2, []⟩), (10, ⟨⟨[.bool], [(6, .v 0)], []⟩, [60, 61, 62, 63, 64, 65, 66, 67, 68, 69, 70, 71, 72, 73, 74, 75, 76, 77, 78, 79, 80, 81], [], [0, 1], 2, []⟩)], [(21, [(0, 0), (0, 1), (0, 2), (0, 3), (0, 4), (0, 5), (0, 6), (0, 7), (0, 8), (0, 9), (0, 10), (1, 11), (0, 12)])], []⟩ Try.func5 rfl Try.ntmps5 (rs := [.tmp 2]) rfl (sig := r12_Check_sig) (out := r12_Check_out) rfl Try.call5 (fun X => by kernel_rfl)

def slices_Index_sig : Shape := ⟨[(.list .bool), .bool], [(0, .v 0), (1, .v 1)], []⟩
def slices_Index_out : Shape := ⟨[(.int .i64)], [(0, .v 0)], []⟩
noncomputable def slices_Index_ce : CE := ⟨20, slices_Index_sig, slices_Index_out, fun X => slices_Index X.1 X.2⟩
theorem slices_Index_ok : CE.ok Try.prog slices_Index_ce := CE.of (Γ := []) (by kernel_rfl) TT_ok (GOK.nil) ⟨[(2, ⟨⟨[(.int .i64)], [(8, .v 0)], []⟩, [4, 5, 9, 10, 11, 12, 13, 14, 15, 16, 17, 18], [], [], 0, []⟩)], [], [], []⟩ Try.func20 rfl Try.ntmps20 (rs := [.tmp 4]) rfl (sig := slices_Index_sig) (out := slices_Index_out) rfl Try.call20 (fun X => by kernel_rfl)

def slices_Contains_sig : Shape := ⟨[(.list .bool), .bool], [(0, .v 0), (1, .v 1)], []⟩
def slices_Contains_out : Shape := ⟨[.bool], [(0, .v 0)], []⟩
noncomputable def slices_Contains_ce : CE := ⟨15, slices_Contains_sig, slices_Contains_out, fun X => slices_Contains X.1 X.2⟩
theorem slices_Contains_ok : CE.ok Try.prog slices_Contains_ce := CE.of (Γ := [slices_Index_ce]) (by kernel_rfl) TT_ok (GOK.cons slices_Index_ok (GOK.nil)) ⟨[], [], [], []⟩ Try.func15 rfl Try.ntmps15 (rs := [.tmp 4]) rfl (sig := slices_Contains_sig) (out := slices_Contains_out) rfl Try.call15 (fun X => by kernel_rfl)

def tree_Tree_sig : Shape := ⟨[(.int .i64), (.pair (.list (.pair (.int .i64) (.pair (.int .i64) (.pair (.int .i64) .unit)))) .unit)], [(0, .v 0), (1, .v 1)], []⟩
def tree_Tree_out : Shape := ⟨[(.int .i64)], [(0, .v 0)], []⟩
noncomputable def tree_Tree_ce : CE := ⟨6, tree_Tree_sig, tree_Tree_out, fun X => tree_Tree X.1 X.2⟩
theorem tree_Tree_ok : CE.ok Try.prog tree_Tree_ce := CE.of (Γ := [slices_Contains_ce]) (by kernel_rfl) TT_ok (GOK.cons slices_Contains_ok (GOK.nil)) ⟨[(8, ⟨⟨[(.int .i64), (.list .bool)], [(6, .own 1), (31, .v 0)], [(1, .arr 4 1)]⟩, [4, 7, 8, 10, 27, 32, 33, 34, 35, 36, 37, 38, 39, 40, 41, 42, 43, 44, 45, 46, 47, 48, 49, 50, 51, 52, 53, 54, 55, 56, 57, 58, 59, 60, 61, 62, 63, 64, 65, 66, 67, 68, 69, 70, 71, 72, 73, 74, 75, 76, 77, 78, 79, 80], [], [0], 2, []⟩), (14, ⟨⟨[(.int .i64), (.list .bool)], [(6, .own 1), (59, .v 0)], [(1, .arr 4 1)]⟩, [4, 10, 60, 61, 62, 63, 64, 65, 66, 67, 68, 69, 70, 71, 72, 73, 74, 75, 76, 77, 78, 79], [], [0, 2, 3], 4, []⟩)], [(12, ⟨⟨[], [], []⟩, [45, 46, 47, 48, 49, 50, 51, 52], [], [0, 1, 2], 3, []⟩)], [], []⟩ Try.func6 rfl Try.ntmps6 (rs := [.tmp 4]) rfl (sig := tree_Tree_sig) (out := tree_Tree_out) rfl Try.call6 (fun X => by kernel_rfl)

def r12_Tree_sig : Shape := ⟨[(.int .i64), (.pair (.list (.pair (.int .i64) (.pair (.int .i64) (.pair (.int .i64) .unit)))) .unit)], [(0, .v 0), (1, .v 1)], []⟩
def r12_Tree_out : Shape := ⟨[(.int .i64)], [(0, .v 0)], []⟩
noncomputable def r12_Tree_ce : CE := ⟨7, r12_Tree_sig, r12_Tree_out, fun X => r12_Tree X.1 X.2⟩
theorem r12_Tree_ok : CE.ok Try.prog r12_Tree_ce := CE.of (Γ := []) (by kernel_rfl) TT_ok (GOK.nil) ⟨[(8, ⟨⟨[(.int .i64), (.list .bool)], [(6, .own 1), (7, .v 0)], [(1, .arr 4 1)]⟩, [4, 8, 26, 27, 28, 29, 30, 31, 32, 33, 34, 35, 36, 37, 38, 39, 40, 41, 42, 43, 44, 45, 46, 47, 48, 49, 50, 51, 52, 53, 54, 55, 56, 57, 58, 59, 60, 61, 62, 63, 64, 65, 66, 67, 68, 69, 70, 71, 72, 73, 74, 75, 76, 77, 78, 79, 80, 81, 82, 83, 84, 85, 86, 87, 88, 89, 90, 91, 92, 93], [], [0], 2, []⟩), (21, ⟨⟨[(.int .i64)], [(9, .v 0)], []⟩, [4, 94, 95, 96, 97, 98, 99, 100, 101, 102, 103, 104], [], [0, 1], 2, []⟩)], [(13, ⟨⟨[], [], []⟩, [46, 47, 48, 49, 50, 51, 52, 53], [], [0, 1, 2], 3, []⟩)], [], []⟩ Try.func7 rfl Try.ntmps7 (rs := [.tmp 4]) rfl (sig := r12_Tree_sig) (out := r12_Tree_out) rfl Try.call7 (fun X => by kernel_rfl)

def tree_states_sig : Shape := ⟨[(.pair (.int .i64) (.pair (.int .i64) (.pair (.list (.pair (.int .i64) (.pair (.int .i64) (.pair (.int .i64) (.pair (.int .i64) .unit))))) (.pair (.int .i64) (.pair (.list (.int .i64)) .unit))))), (.pair (.list (.pair (.int .i64) (.pair (.int .i64) (.pair (.int .i64) .unit)))) .unit)], [(0, .v 0), (1, .v 1)], []⟩
def tree_states_out : Shape := ⟨[(.list (.list .bool))], [(0, .v 0)], []⟩
noncomputable def tree_states_ce : CE := ⟨16, tree_states_sig, tree_states_out, fun X => tree_states X.1 X.2⟩
theorem tree_states_ok : CE.ok Try.prog tree_states_ce := CE.of (Γ := []) (by kernel_rfl) TT_ok (GOK.nil) ⟨[(3, ⟨⟨[(.int .i64), (.list (.list .bool))], [(5, .own 2), (18, .v 0)], [(2, .out 3 42 4 1)]⟩, [6, 7, 9, 10, 14, 19, 20, 21, 22, 23, 24, 25, 26, 27, 28, 29, 30, 31, 32, 33, 34, 35, 36, 37, 38, 39, 40, 41, 42, 43, 44, 45, 46, 47, 48, 49, 50, 51, 52, 53, 54, 55, 56, 57, 58, 59, 60, 61, 62, 63, 64, 65, 66, 67, 68, 69, 70, 71, 72, 73, 74, 75, 76, 77, 78, 79, 80, 81, 82, 83, 84], [], [0, 1], 4, []⟩), (7, ⟨⟨[(.int .i64), (.list (.list .bool))], [(5, .own 2), (32, .v 0)], [(2, .out 6 42 4 1)]⟩, [9, 10, 23, 27, 28, 33, 34, 35, 36, 37, 38, 39, 40, 41, 42, 43, 44, 45, 46, 47, 48, 49, 50, 51, 52, 53, 54, 55, 56, 57, 58, 59, 60, 61, 62, 63, 64, 65, 66, 67, 68, 69, 70, 71, 72, 73, 74, 75, 76, 77, 78, 79, 80, 81, 82, 83], [], [0, 1, 4], 7, []⟩)], [(10, ⟨⟨[.bool], [(75, .v 0)], []⟩, [39, 40, 41, 42, 43, 44, 45, 46, 47, 48, 49, 50, 51, 52, 53, 54, 55, 56, 57, 58, 59, 60, 61, 62, 63, 64, 65, 66, 67, 68, 69, 70, 71, 72, 73, 74], [], [0, 1, 2, 4, 7, 6], 8, []⟩)], [(1, [(0, 0), (0, 1), (0, 2), (4, 3), (0, 4)]), (5, [(0, 0), (0, 1), (0, 2), (0, 3), (2, 4), (0, 5), (4, 6)]), (10, [(0, 0), (0, 1), (0, 2), (0, 3), (0, 4), (0, 5), (0, 6), (0, 7), (0, 8), (0, 9), (0, 10), (0, 11), (0, 12), (0, 13), (0, 14), (0, 15), (0, 16), (0, 17), (0, 18), (0, 19), (0, 20), (0, 21), (0, 22), (0, 23), (0, 24), (0, 25), (0, 26), (0, 27), (0, 28), (0, 29), (0, 30), (0, 31), (0, 32), (0, 33), (0, 34), (0, 35), (0, 36)]), (11, [(0, 0), (0, 1), (0, 2), (0, 3), (0, 4), (0, 5), (0, 6), (4, 7)])], []⟩ Try.func16 rfl Try.ntmps16 (rs := [.tmp 4]) rfl (sig := tree_states_sig) (out := tree_states_out) rfl Try.call16 (fun X => by kernel_rfl)

def tree_Accepts_sig : Shape := ⟨[(.pair (.int .i64) (.pair (.int .i64) (.pair (.list (.pair (.int .i64) (.pair (.int .i64) (.pair (.int .i64) (.pair (.int .i64) .unit))))) (.pair (.int .i64) (.pair (.list (.int .i64)) .unit))))), (.pair (.list (.pair (.int .i64) (.pair (.int .i64) (.pair (.int .i64) .unit)))) .unit)], [(0, .v 0), (1, .v 1)], []⟩
def tree_Accepts_out : Shape := ⟨[.bool, (.int .i64)], [(0, .v 0), (1, .v 1)], []⟩
noncomputable def tree_Accepts_ce : CE := ⟨8, tree_Accepts_sig, tree_Accepts_out, fun X => tree_Accepts X.1 X.2⟩
theorem tree_Accepts_ok : CE.ok Try.prog tree_Accepts_ce := CE.of (Γ := [tree_Check_ce, tree_Tree_ce, tree_states_ce]) (by kernel_rfl) TT_ok (GOK.cons tree_Check_ok (GOK.cons tree_Tree_ok (GOK.cons tree_states_ok (GOK.nil)))) ⟨[(9, ⟨⟨[(.int .i64)], [(33, .v 0)], []⟩, [4, 5, 9, 10, 34, 35, 36, 37, 38, 39, 40, 41, 42, 43, 44, 45, 46, 47], [], [0, 1], 2, []⟩)], [], [], []⟩ Try.func8 rfl Try.ntmps8 (rs := [.tmp 4, .tmp 5]) rfl (sig := tree_Accepts_sig) (out := tree_Accepts_out) rfl Try.call8 (fun X => by kernel_rfl)

def r12_Accepts_sig : Shape := ⟨[(.pair (.int .i64) (.pair (.int .i64) (.pair (.list (.pair (.int .i64) (.pair (.int .i64) (.pair (.int .i64) (.pair (.int .i64) .unit))))) (.pair (.int .i64) (.pair (.list (.int .i64)) .unit))))), (.pair (.list (.pair (.int .i64) (.pair (.int .i64) (.pair (.int .i64) .unit)))) .unit)], [(0, .v 0), (1, .v 1)], []⟩
def r12_Accepts_out : Shape := ⟨[.bool], [(0, .v 0)], []⟩
noncomputable def r12_Accepts_ce : CE := ⟨9, r12_Accepts_sig, r12_Accepts_out, fun X => r12_Accepts X.1 X.2⟩
theorem r12_Accepts_ok : CE.ok Try.prog r12_Accepts_ce := CE.of (Γ := []) (by kernel_rfl) TT_ok (GOK.nil) ⟨[(3, ⟨⟨[(.int .i64), (.list (.list .bool))], [(5, .own 2), (6, .v 0)], [(2, .arr 42 1)]⟩, [7, 8, 9, 10, 13, 14, 15, 16, 17, 18, 19, 20, 21, 22, 23, 24, 25, 26, 27, 28, 29, 30, 31, 32, 33, 34, 35, 36, 37, 38, 39, 40, 41, 42, 43, 44, 45, 46, 47, 48, 49, 50, 51, 52, 53, 54, 55, 56, 57, 58, 59, 60, 61, 62, 63, 64, 65, 66, 67, 68, 69, 70, 71, 72, 73, 74, 75, 76, 77, 78, 79, 80, 81, 82, 83, 84, 85, 86], [], [0, 1], 3, []⟩), (8, ⟨⟨[(.int .i64), (.list .bool)], [(8, .own 4), (9, .v 0)], [(4, .arr 4 1)]⟩, [10, 27, 28, 29, 30, 31, 32, 33, 34, 35, 36, 37, 38, 39, 40, 41, 42, 43, 44, 45, 46, 47, 48, 49, 50, 51, 52, 53, 54, 55, 56, 57, 58, 59, 60, 61, 62, 63, 64, 65, 66, 67, 68, 69, 70, 71, 72, 73, 74, 75, 76, 77, 78, 79, 80, 81, 82], [], [0, 1, 2, 3], 5, []⟩), (17, ⟨⟨[(.int .i64)], [(12, .v 0)], []⟩, [4, 93, 94, 95, 96, 97, 98, 99, 100, 101, 102, 103, 104, 105, 106, 107, 108, 109, 110], [], [0, 1, 2], 3, []⟩)], [(12, ⟨⟨[.bool], [(78, .v 0)], []⟩, [54, 55, 56, 57, 58, 59, 60, 61, 62, 63, 64, 65, 66, 67, 68, 69, 70, 71, 72, 73, 74, 75, 76, 77], [], [0, 1, 2, 3, 4, 5], 6, []⟩)], [(12, [(0, 0), (0, 1), (0, 2), (0, 3), (0, 4), (0, 5), (0, 6), (0, 7), (0, 8), (0, 9), (0, 10), (0, 11), (0, 12), (0, 13), (0, 14), (0, 15), (0, 16), (0, 17), (0, 18), (0, 19), (0, 20), (0, 21), (0, 22), (0, 23), (0, 24)])], []⟩ Try.func9 rfl Try.ntmps9 (rs := [.tmp 4]) rfl (sig := r12_Accepts_sig) (out := r12_Accepts_out) rfl Try.call9 (fun X => by kernel_rfl)

def law_TreeAccepts_sig : Shape := ⟨[(.pair (.int .i64) (.pair (.int .i64) (.pair (.list (.pair (.int .i64) (.pair (.int .i64) (.pair (.int .i64) (.pair (.int .i64) .unit))))) (.pair (.int .i64) (.pair (.list (.int .i64)) .unit))))), (.pair (.list (.pair (.int .i64) (.pair (.int .i64) (.pair (.int .i64) .unit)))) .unit), (.int .i64)], [(0, .v 0), (1, .v 1), (2, .v 2)], []⟩
def law_TreeAccepts_out : Shape := ⟨[.bool], [(0, .v 0)], []⟩
noncomputable def law_TreeAccepts_ce : CE := ⟨3, law_TreeAccepts_sig, law_TreeAccepts_out, fun X => law_TreeAccepts X.1 X.2.1 X.2.2⟩
theorem law_TreeAccepts_ok : CE.ok Try.prog law_TreeAccepts_ce := CE.of (Γ := [tree_Check_ce, r12_Check_ce, tree_Tree_ce, r12_Tree_ce, tree_Accepts_ce, r12_Accepts_ce]) (by kernel_rfl) TT_ok (GOK.cons tree_Check_ok (GOK.cons r12_Check_ok (GOK.cons tree_Tree_ok (GOK.cons r12_Tree_ok (GOK.cons tree_Accepts_ok (GOK.cons r12_Accepts_ok (GOK.nil))))))) ⟨[], [], [], []⟩ Try.func3 rfl Try.ntmps3 (rs := [.tmp 6]) rfl (sig := law_TreeAccepts_sig) (out := law_TreeAccepts_out) rfl Try.call3 (fun X => by kernel_rfl)

end Go.Proofs.Ytiihghghjoonhaa.treeAcceptsW
