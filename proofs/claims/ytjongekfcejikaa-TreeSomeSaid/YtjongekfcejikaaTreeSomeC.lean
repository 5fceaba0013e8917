/- That the functions of 'TreeSome' compute so. -/
import Derived.Test.YtjongekfcejikaaTreeSomeD
import Derived.Test.YtjongekfcejikaaProg
import Derived.KernelRfl
set_option maxHeartbeats 1000000
set_option maxRecDepth 20000
set_option linter.unusedSimpArgs false
set_option linter.unusedVariables false
set_option linter.unusedSectionVars false
namespace Go.Proofs.Ytjongekfcejikaa.treeSomeW
open Go Go.Ab
def te3 : TE := ⟨3, .int .i64, false, 1, 8, .int .i64 0, some (.int .i64)⟩
theorem te3_ok : TEok Try.prog te3 := ⟨TI.of Try.underlying3 rfl (by kernel_rfl), Try.underlying3, fun t h => by cases h; exact ⟨rfl, rfl, by decide, rfl⟩⟩
def te4 : TE := ⟨4, .bool, false, 1, 1, .bool false, some .bool⟩
theorem te4_ok : TEok Try.prog te4 := ⟨TI.of Try.underlying4 rfl (by kernel_rfl), Try.underlying4, fun t h => by cases h; exact ⟨rfl, rfl, by decide, rfl⟩⟩
def te22 : TE := ⟨22, .slice 40, false, 1, 24, .slice none 0 0, some (.list (.pair (.int .i64) (.pair (.int .i64) (.pair (.int .i64) (.pair (.int .i64) .unit)))))⟩
theorem te22_ok : TEok Try.prog te22 := ⟨TI.of Try.underlying22 rfl (by kernel_rfl), Try.underlying22, fun t h => by cases h; exact ⟨rfl, rfl, by decide, rfl⟩⟩
def te23 : TE := ⟨23, .slice 3, false, 1, 24, .slice none 0 0, some (.list (.int .i64))⟩
theorem te23_ok : TEok Try.prog te23 := ⟨TI.of Try.underlying23 rfl (by kernel_rfl), Try.underlying23, fun t h => by cases h; exact ⟨rfl, rfl, by decide, rfl⟩⟩
def te25 : TE := ⟨25, .struct [(0, 3), (1, 3), (2, 22), (3, 3), (4, 23)] none, true, 5, 72, .agg ⟨[.int .i64 0, .int .i64 0, .slice none 0 0, .int .i64 0, .slice none 0 0]⟩, some (.pair (.int .i64) (.pair (.int .i64) (.pair (.list (.pair (.int .i64) (.pair (.int .i64) (.pair (.int .i64) (.pair (.int .i64) .unit))))) (.pair (.int .i64) (.pair (.list (.int .i64)) .unit)))))⟩
theorem te25_ok : TEok Try.prog te25 := ⟨TI.of Try.underlying25 rfl (by kernel_rfl), ⟨⟨_, Try.underlying25, rfl⟩, fun t h => by cases h⟩, fun t h => by cases h; exact ⟨rfl, rfl, by decide, rfl⟩⟩
def te27 : TE := ⟨27, .slice 44, false, 1, 24, .slice none 0 0, some (.list (.pair (.int .i64) (.pair (.int .i64) (.pair (.int .i64) .unit))))⟩
theorem te27_ok : TEok Try.prog te27 := ⟨TI.of Try.underlying27 rfl (by kernel_rfl), Try.underlying27, fun t h => by cases h; exact ⟨rfl, rfl, by decide, rfl⟩⟩
def te29 : TE := ⟨29, .struct [(0, 27)] none, true, 1, 24, .agg ⟨[.slice none 0 0]⟩, some (.pair (.list (.pair (.int .i64) (.pair (.int .i64) (.pair (.int .i64) .unit)))) .unit)⟩
theorem te29_ok : TEok Try.prog te29 := ⟨TI.of Try.underlying29 rfl (by kernel_rfl), ⟨⟨_, Try.underlying29, rfl⟩, fun t h => by cases h⟩, fun t h => by cases h; exact ⟨rfl, rfl, by decide, rfl⟩⟩
def te30 : TE := ⟨30, .int .i64, false, 1, 8, .int .i64 0, some (.int .i64)⟩
theorem te30_ok : TEok Try.prog te30 := ⟨TI.of Try.underlying30 rfl (by kernel_rfl), Try.underlying30, fun t h => by cases h; exact ⟨rfl, rfl, by decide, rfl⟩⟩
def te40 : TE := ⟨40, .struct [(0, 3), (1, 3), (2, 3), (3, 3)] none, true, 4, 32, .agg ⟨[.int .i64 0, .int .i64 0, .int .i64 0, .int .i64 0]⟩, some (.pair (.int .i64) (.pair (.int .i64) (.pair (.int .i64) (.pair (.int .i64) .unit))))⟩
theorem te40_ok : TEok Try.prog te40 := ⟨TI.of Try.underlying40 rfl (by kernel_rfl), ⟨⟨_, Try.underlying40, rfl⟩, fun t h => by cases h⟩, fun t h => by cases h; exact ⟨rfl, rfl, by decide, rfl⟩⟩
def te42 : TE := ⟨42, .slice 4, false, 1, 24, .slice none 0 0, some (.list .bool)⟩
theorem te42_ok : TEok Try.prog te42 := ⟨TI.of Try.underlying42 rfl (by kernel_rfl), Try.underlying42, fun t h => by cases h; exact ⟨rfl, rfl, by decide, rfl⟩⟩
def te44 : TE := ⟨44, .struct [(0, 3), (1, 3), (2, 3)] none, true, 3, 24, .agg ⟨[.int .i64 0, .int .i64 0, .int .i64 0]⟩, some (.pair (.int .i64) (.pair (.int .i64) (.pair (.int .i64) .unit)))⟩
theorem te44_ok : TEok Try.prog te44 := ⟨TI.of Try.underlying44 rfl (by kernel_rfl), ⟨⟨_, Try.underlying44, rfl⟩, fun t h => by cases h⟩, fun t h => by cases h; exact ⟨rfl, rfl, by decide, rfl⟩⟩
def te45 : TE := ⟨45, .slice 42, false, 1, 24, .slice none 0 0, some (.list (.list .bool))⟩
theorem te45_ok : TEok Try.prog te45 := ⟨TI.of Try.underlying45 rfl (by kernel_rfl), Try.underlying45, fun t h => by cases h; exact ⟨rfl, rfl, by decide, rfl⟩⟩
def TT : List TE := [te3, te4, te22, te23, te25, te27, te29, te30, te40, te42, te44, te45]
theorem TT_ok : TOK Try.prog TT := TOK.cons te3_ok (TOK.cons te4_ok (TOK.cons te22_ok (TOK.cons te23_ok (TOK.cons te25_ok (TOK.cons te27_ok (TOK.cons te29_ok (TOK.cons te30_ok (TOK.cons te40_ok (TOK.cons te42_ok (TOK.cons te44_ok (TOK.cons te45_ok (TOK.nil))))))))))))

def law_list_sig : Shape := ⟨[(.list (.int .i64))], [(0, .v 0)], []⟩
def law_list_out : Shape := ⟨[(.list (.int .i64))], [(0, .own 0)], [(0, .arr 3 0)]⟩
noncomputable def law_list_ce : CE := ⟨10, law_list_sig, law_list_out, fun X => law_list X⟩
theorem law_list_ok : CE.ok Try.prog law_list_ce := CE.of (Γ := []) (by kernel_rfl) TT_ok (GOK.nil) ⟨[], [], [], []⟩ Try.func10 rfl Try.ntmps10 (rs := [.tmp 2]) rfl (sig := law_list_sig) (out := law_list_out) rfl Try.call10 (fun X => by kernel_rfl)

def law_trees_sig : Shape := ⟨[(.pair (.int .i64) (.pair (.int .i64) (.pair (.list (.pair (.int .i64) (.pair (.int .i64) (.pair (.int .i64) (.pair (.int .i64) .unit))))) (.pair (.int .i64) (.pair (.list (.int .i64)) .unit)))))], [(0, .v 0)], []⟩
def law_trees_out : Shape := ⟨[(.pair (.int .i64) (.pair (.int .i64) (.pair (.list (.pair (.int .i64) (.pair (.int .i64) (.pair (.int .i64) (.pair (.int .i64) .unit))))) (.pair (.int .i64) (.pair (.list (.int .i64)) .unit)))))], [(0, .v 0)], []⟩
noncomputable def law_trees_ce : CE := ⟨4, law_trees_sig, law_trees_out, fun X => law_trees X⟩
theorem law_trees_ok : CE.ok Try.prog law_trees_ce := CE.of (Γ := [law_list_ce]) (by kernel_rfl) TT_ok (GOK.cons law_list_ok (GOK.nil)) ⟨[], [], [], []⟩ Try.func4 rfl Try.ntmps4 (rs := [.cell 2 25]) rfl (sig := law_trees_sig) (out := law_trees_out) rfl Try.call4 (fun X => by kernel_rfl)

def tree_Check_1_sig : Shape := ⟨[(.int .i64), (.pair (.int .i64) (.pair (.int .i64) (.pair (.list (.pair (.int .i64) (.pair (.int .i64) (.pair (.int .i64) (.pair (.int .i64) .unit))))) (.pair (.int .i64) (.pair (.list (.int .i64)) .unit)))))], [(0, .v 0), (1, .addr 1)], []⟩
def tree_Check_1_out : Shape := ⟨[.bool], [(0, .v 0)], []⟩
noncomputable def tree_Check_1_ce : CE := ⟨14, tree_Check_1_sig, tree_Check_1_out, fun X => tree_Check_1 X.1 X.2⟩
theorem tree_Check_1_ok : CE.ok Try.prog tree_Check_1_ce := CE.of (Γ := []) (by kernel_rfl) TT_ok (GOK.nil) ⟨[], [], [], []⟩ Try.func14 rfl Try.ntmps14 (rs := [.tmp 3]) rfl (sig := tree_Check_1_sig) (out := tree_Check_1_out) rfl Try.call14 (fun X => by kernel_rfl)

def tree_Check_2_sig : Shape := ⟨[(.int .i64)], [(0, .v 0)], []⟩
def tree_Check_2_out : Shape := ⟨[.bool], [(0, .v 0)], []⟩
noncomputable def tree_Check_2_ce : CE := ⟨16, tree_Check_2_sig, tree_Check_2_out, fun X => tree_Check_2 X⟩
theorem tree_Check_2_ok : CE.ok Try.prog tree_Check_2_ce := CE.of (Γ := []) (by kernel_rfl) TT_ok (GOK.nil) ⟨[], [], [], []⟩ Try.func16 rfl Try.ntmps16 (rs := [.tmp 2]) rfl (sig := tree_Check_2_sig) (out := tree_Check_2_out) rfl Try.call16 (fun X => by kernel_rfl)

def slices_IndexFunc_sig : Shape := ⟨[(.list (.int .i64))], [(0, .v 0), (1, .fn 16 [])], []⟩
def slices_IndexFunc_out : Shape := ⟨[(.int .i64)], [(0, .v 0)], []⟩
noncomputable def slices_IndexFunc_ce : CE := ⟨20, slices_IndexFunc_sig, slices_IndexFunc_out, fun X => slices_IndexFunc X⟩
theorem slices_IndexFunc_ok : CE.ok Try.prog slices_IndexFunc_ce := CE.of (Γ := [tree_Check_2_ce]) (by kernel_rfl) TT_ok (GOK.cons tree_Check_2_ok (GOK.nil)) ⟨[(2, ⟨⟨[(.int .i64)], [(8, .v 0)], []⟩, [4, 5, 9, 10, 11, 12, 13, 14, 15, 16, 17, 18], [], [], 0, []⟩)], [], [], []⟩ Try.func20 rfl Try.ntmps20 (rs := [.tmp 4]) rfl (sig := slices_IndexFunc_sig) (out := slices_IndexFunc_out) rfl Try.call20 (fun X => by kernel_rfl)

def slices_ContainsFunc_sig : Shape := ⟨[(.list (.int .i64))], [(0, .v 0), (1, .fn 16 [])], []⟩
def slices_ContainsFunc_out : Shape := ⟨[.bool], [(0, .v 0)], []⟩
noncomputable def slices_ContainsFunc_ce : CE := ⟨15, slices_ContainsFunc_sig, slices_ContainsFunc_out, fun X => slices_ContainsFunc X⟩
theorem slices_ContainsFunc_ok : CE.ok Try.prog slices_ContainsFunc_ce := CE.of (Γ := [slices_IndexFunc_ce]) (by kernel_rfl) TT_ok (GOK.cons slices_IndexFunc_ok (GOK.nil)) ⟨[], [], [], []⟩ Try.func15 rfl Try.ntmps15 (rs := [.tmp 4]) rfl (sig := slices_ContainsFunc_sig) (out := slices_ContainsFunc_out) rfl Try.call15 (fun X => by kernel_rfl)

def cmp_isNaN_sig : Shape := ⟨[(.int .i64)], [(0, .v 0)], []⟩
def cmp_isNaN_out : Shape := ⟨[.bool], [(0, .v 0)], []⟩
noncomputable def cmp_isNaN_ce : CE := ⟨23, cmp_isNaN_sig, cmp_isNaN_out, fun X => cmp_isNaN X⟩
theorem cmp_isNaN_ok : CE.ok Try.prog cmp_isNaN_ce := CE.of (Γ := []) (by kernel_rfl) TT_ok (GOK.nil) ⟨[], [], [], []⟩ Try.func23 rfl Try.ntmps23 (rs := [.tmp 2]) rfl (sig := cmp_isNaN_sig) (out := cmp_isNaN_out) rfl Try.call23 (fun X => by kernel_rfl)

def cmp_Compare_sig : Shape := ⟨[(.int .i64), (.int .i64)], [(0, .v 0), (1, .v 1)], []⟩
def cmp_Compare_out : Shape := ⟨[(.int .i64)], [(0, .v 0)], []⟩
noncomputable def cmp_Compare_ce : CE := ⟨22, cmp_Compare_sig, cmp_Compare_out, fun X => cmp_Compare X.1 X.2⟩
theorem cmp_Compare_ok : CE.ok Try.prog cmp_Compare_ce := CE.of (Γ := [cmp_isNaN_ce]) (by kernel_rfl) TT_ok (GOK.cons cmp_isNaN_ok (GOK.nil)) ⟨[], [], [], []⟩ Try.func22 rfl Try.ntmps22 (rs := [.tmp 4]) rfl (sig := cmp_Compare_sig) (out := cmp_Compare_out) rfl Try.call22 (fun X => by kernel_rfl)

def cmp_Or_sig : Shape := ⟨[(.list (.int .i64))], [(0, .v 0)], []⟩
def cmp_Or_out : Shape := ⟨[(.int .i64)], [(0, .v 0)], []⟩
noncomputable def cmp_Or_ce : CE := ⟨21, cmp_Or_sig, cmp_Or_out, fun X => cmp_Or X⟩
theorem cmp_Or_ok : CE.ok Try.prog cmp_Or_ce := CE.of (Γ := []) (by kernel_rfl) TT_ok (GOK.nil) ⟨[(3, ⟨⟨[(.int .i64)], [(8, .v 0)], []⟩, [2, 5, 9, 10, 11, 12, 13, 14, 15, 16], [], [], 0, []⟩)], [], [], []⟩ Try.func21 rfl Try.ntmps21 (rs := [.tmp 2]) rfl (sig := cmp_Or_sig) (out := cmp_Or_out) rfl Try.call21 (fun X => by kernel_rfl)

def tree_Order_sig : Shape := ⟨[(.pair (.int .i64) (.pair (.int .i64) (.pair (.int .i64) (.pair (.int .i64) .unit)))), (.pair (.int .i64) (.pair (.int .i64) (.pair (.int .i64) (.pair (.int .i64) .unit))))], [(0, .v 0), (1, .v 1)], []⟩
def tree_Order_out : Shape := ⟨[(.int .i64)], [(0, .v 0)], []⟩
noncomputable def tree_Order_ce : CE := ⟨17, tree_Order_sig, tree_Order_out, fun X => tree_Order X.1 X.2⟩
theorem tree_Order_ok : CE.ok Try.prog tree_Order_ce := CE.of (Γ := [cmp_Compare_ce, cmp_Or_ce]) (by kernel_rfl) TT_ok (GOK.cons cmp_Compare_ok (GOK.cons cmp_Or_ok (GOK.nil))) ⟨[], [], [(1, [(0, 0), (0, 1), (0, 2), (0, 3), (0, 5), (0, 6), (0, 7), (0, 8), (0, 10), (0, 11), (0, 12), (0, 13), (0, 15), (0, 16), (0, 17), (0, 18), (1, 4), (1, 9), (1, 14), (1, 19), (1, 20), (1, 21), (0, 22)])], []⟩ Try.func17 rfl Try.ntmps17 (rs := [.tmp 4]) rfl (sig := tree_Order_sig) (out := tree_Order_out) rfl Try.call17 (fun X => by kernel_rfl)

def tree_Check_sig : Shape := ⟨[(.pair (.int .i64) (.pair (.int .i64) (.pair (.list (.pair (.int .i64) (.pair (.int .i64) (.pair (.int .i64) (.pair (.int .i64) .unit))))) (.pair (.int .i64) (.pair (.list (.int .i64)) .unit)))))], [(0, .v 0)], []⟩
def tree_Check_out : Shape := ⟨[(.int .i64)], [(0, .v 0)], []⟩
noncomputable def tree_Check_ce : CE := ⟨11, tree_Check_sig, tree_Check_out, fun X => tree_Check X⟩
theorem tree_Check_ok : CE.ok Try.prog tree_Check_ce := CE.of (Γ := [tree_Check_1_ce, slices_ContainsFunc_ce, tree_Order_ce]) (by kernel_rfl) TT_ok (GOK.cons tree_Check_1_ok (GOK.cons slices_ContainsFunc_ok (GOK.cons tree_Order_ok (GOK.nil)))) ⟨[(7, ⟨⟨[(.int .i64)], [(42, .v 0)], []⟩, [2, 5, 6, 43, 44, 45, 46, 47, 48, 49, 50, 51, 52, 53, 54, 55, 56, 57, 58, 59, 60, 61, 62, 63, 64, 65, 66, 67, 68, 69, 70, 71, 72, 73, 74, 75, 76, 77, 78, 79, 80, 81, 82, 83, 84, 85, 86], [], [0], 1, []⟩), (16, ⟨⟨[(.int .i64)], [(93, .v 0)], []⟩, [2, 7, 94, 95, 96, 97, 98, 99, 100, 101, 102, 103, 104, 105, 106, 107, 108, 109, 110, 111, 112, 113], [], [0], 1, []⟩)], [(9, ⟨⟨[.bool], [(6, .v 0)], []⟩, [46, 47, 48, 49, 50, 51, 52, 53], [], [0, 1], 2, []⟩)], [(18, [(0, 0), (0, 1), (0, 2), (0, 3), (0, 4), (0, 5), (0, 6), (0, 7), (0, 8), (0, 9), (0, 10), (0, 11), (0, 12), (0, 13), (1, 14), (0, 15), (0, 16)])], []⟩ Try.func11 rfl Try.ntmps11 (rs := [.tmp 2]) rfl (sig := tree_Check_sig) (out := tree_Check_out) rfl Try.call11 (fun X => by kernel_rfl)

def tree_grown_sig : Shape := ⟨[(.pair (.int .i64) (.pair (.int .i64) (.pair (.list (.pair (.int .i64) (.pair (.int .i64) (.pair (.int .i64) (.pair (.int .i64) .unit))))) (.pair (.int .i64) (.pair (.list (.int .i64)) .unit)))))], [(0, .v 0)], []⟩
def tree_grown_out : Shape := ⟨[(.list (.int .i64)), (.list (.int .i64))], [(0, .own 0), (1, .own 1)], [(0, .arr 3 0), (1, .arr 3 1)]⟩
noncomputable def tree_grown_ce : CE := ⟨18, tree_grown_sig, tree_grown_out, fun X => tree_grown X⟩
theorem tree_grown_ok : CE.ok Try.prog tree_grown_ce := CE.of (Γ := []) (by kernel_rfl) TT_ok (GOK.nil) ⟨[(3, ⟨⟨[.bool, (.list (.int .i64)), (.list (.int .i64))], [(4, .own 1), (5, .own 2), (6, .v 0)], [(1, .arr 3 1), (2, .arr 3 2)]⟩, [7, 8, 9, 16, 17, 18, 19, 20, 21, 22, 23, 24, 25, 26, 27, 28, 29, 30, 31, 32, 33, 34, 35, 36, 37, 38, 39, 40, 41, 42, 43, 44, 45, 46, 47, 48, 49, 50, 51, 52, 53, 54, 55, 56, 57, 58, 59, 60, 61, 62, 63, 64, 65, 66, 67, 68, 69, 70, 71, 72, 73, 74, 75, 76, 77, 78, 79, 80, 81, 82, 83, 84], [], [0], 3, []⟩), (6, ⟨⟨[.bool, (.int .i64), (.list (.int .i64)), (.list (.int .i64))], [(4, .own 1), (5, .own 2), (6, .v 0), (20, .v 1)], [(1, .arr 3 2), (2, .arr 3 3)]⟩, [7, 8, 9, 21, 22, 23, 24, 25, 26, 27, 28, 29, 30, 31, 32, 33, 34, 35, 36, 37, 38, 39, 40, 41, 42, 43, 44, 45, 46, 47, 48, 49, 50, 51, 52, 53, 54, 55, 56, 57, 58, 59, 60, 61, 62, 63, 64, 65, 66, 67, 68, 69, 70, 71, 72, 73, 74, 75, 76, 77, 78, 79, 80, 81, 82, 83, 84], [], [0], 3, []⟩)], [(1, ⟨⟨[(.list (.int .i64)), (.list (.int .i64))], [(4, .own 1), (5, .own 2)], [(1, .arr 3 0), (2, .arr 3 1)]⟩, [10, 11, 12, 13, 14, 15], [], [0], 3, []⟩), (11, ⟨⟨[(.int .i64)], [(9, .v 0)], []⟩, [25, 26, 27, 28, 29, 30, 31, 32, 33, 34, 35, 36, 37, 38, 39, 40, 41, 42, 43, 44, 45, 46, 47, 48, 49, 50, 51, 52, 53, 54], [], [0, 1, 2, 3], 4, []⟩), (12, ⟨⟨[.bool], [(73, .v 0)], []⟩, [55, 56, 57, 58, 59, 60, 61, 62, 63, 64, 65, 66, 67, 68, 69, 70, 71, 72], [], [0, 1, 2, 3], 4, []⟩), (13, ⟨⟨[(.list (.int .i64)), (.list (.int .i64))], [(4, .own 1), (5, .own 2)], [(1, .arr 3 0), (2, .arr 3 1)]⟩, [74, 75, 76, 77, 78, 79, 80, 81, 82, 83], [], [0, 3], 4, []⟩)], [(11, [(0, 0), (0, 1), (0, 2), (0, 3), (0, 4), (0, 5), (0, 6), (0, 7), (0, 8), (0, 9), (0, 10), (0, 11), (0, 12), (0, 13)])], [(1, (.one 0 (.one 3 (.live [] (.rd 1 [2, 6, 7] (.rd 4 [5, 7] (.alt 1 2 (.rd 6 [7] (.alt 1 5 (.rd 7 [] (.leaf [])) .stop)) (.alt 1 5 (.alt 1 2 (.rd 6 [7] (.rd 7 [] (.leaf []))) .stop) .stop)))))))), (13, (.one 0 (.one 1 (.one 3 (.one 4 (.one 6 (.one 7 (.live [9, 11] (.rd 2 [8, 9, 10, 11] (.rd 8 [9, 10, 11] (.alt 0 5 (.alt 2 9 (.leaf [(0, 10), (2, 11)]) .stop) (.alt 2 9 (.leaf [(0, 5), (0, 10), (2, 11)]) .stop))))))))))))]⟩ Try.func18 rfl Try.ntmps18 (rs := [.tmp 2, .tmp 3]) rfl (sig := tree_grown_sig) (out := tree_grown_out) rfl Try.call18 (fun X => by kernel_rfl)

def tree_put_sig : Shape := ⟨[(.pair (.int .i64) (.pair (.int .i64) (.pair (.list (.pair (.int .i64) (.pair (.int .i64) (.pair (.int .i64) (.pair (.int .i64) .unit))))) (.pair (.int .i64) (.pair (.list (.int .i64)) .unit))))), (.list (.int .i64)), (.int .i64), (.list (.pair (.int .i64) (.pair (.int .i64) (.pair (.int .i64) .unit))))], [(0, .v 0), (1, .v 1), (2, .v 2), (3, .ptr 100000 0)], [(100000, .box 29 [.own 100001]), (100001, .arr 44 3)]⟩
def tree_put_out : Shape := ⟨[(.int .i64), (.list (.pair (.int .i64) (.pair (.int .i64) (.pair (.int .i64) .unit))))], [(0, .v 0)], [(100000, .box 29 [.own 50]), (50, .arr 44 1)]⟩
noncomputable def tree_put_ce : CE := ⟨19, tree_put_sig, tree_put_out, LFix tree_put_F⟩
theorem tree_put_ok : CE.ok Try.prog tree_put_ce := CE.ofRec (Γ := []) (by kernel_rfl) TT_ok (GOK.nil) ⟨[], [(5, ⟨⟨[(.int .i64), (.int .i64), (.int .i64), (.list (.pair (.int .i64) (.pair (.int .i64) (.pair (.int .i64) .unit))))], [(3, .ptr 100000 0), (10, .ptr 2 0)], [(100000, .box 29 [.own 3]), (2, .box 44 [.v 0, .v 1, .v 2]), (3, .arr 44 3)]⟩, [22, 23, 24, 25, 26, 27, 28, 29, 30, 31, 32, 33, 34, 35, 36, 37, 38], [100001], [0, 1], 4, []⟩)], [(1, [(0, 0), (0, 1), (0, 2), (0, 3), (0, 4), (0, 5), (0, 6), (0, 7), (1, 8), (2, 9)]), (6, [(0, 0), (0, 1), (0, 2), (0, 3), (0, 4), (0, 5), (1, 6), (2, 7), (0, 8), (0, 9), (2, 10)])], []⟩ Try.func19 rfl Try.ntmps19 (rs := [.tmp 8]) rfl (sig := tree_put_sig) (out := tree_put_out) rfl Try.call19 (d := tree_put_F) (fun rc X => by kernel_rfl)

def tree_some_sig : Shape := ⟨[(.pair (.int .i64) (.pair (.int .i64) (.pair (.list (.pair (.int .i64) (.pair (.int .i64) (.pair (.int .i64) (.pair (.int .i64) .unit))))) (.pair (.int .i64) (.pair (.list (.int .i64)) .unit)))))], [(0, .v 0)], []⟩
def tree_some_out : Shape := ⟨[(.pair (.list (.pair (.int .i64) (.pair (.int .i64) (.pair (.int .i64) .unit)))) .unit), .bool, (.int .i64)], [(0, .v 0), (1, .v 1), (2, .v 2)], []⟩
noncomputable def tree_some_ce : CE := ⟨12, tree_some_sig, tree_some_out, fun X => tree_some X⟩
theorem tree_some_ok : CE.ok Try.prog tree_some_ce := CE.of (Γ := [tree_put_ce, tree_grown_ce]) (by kernel_rfl) TT_ok (GOK.cons tree_put_ok (GOK.cons tree_grown_ok (GOK.nil))) ⟨[(4, ⟨⟨[(.int .i64), (.int .i64)], [(7, .v 0), (18, .v 1)], []⟩, [8, 9, 19, 20, 21, 22, 23, 24, 25, 26, 27, 28, 29, 30, 31, 32, 33, 34, 35, 36, 37, 38, 39, 40, 41, 42, 43, 44, 45, 46], [], [0, 1, 2, 3], 4, []⟩)], [], [], []⟩ Try.func12 rfl Try.ntmps12 (rs := [.cell 2 29, .tmp 3, .tmp 4]) rfl (sig := tree_some_sig) (out := tree_some_out) rfl Try.call12 (fun X => by kernel_rfl)

def tree_Some_sig : Shape := ⟨[(.pair (.int .i64) (.pair (.int .i64) (.pair (.list (.pair (.int .i64) (.pair (.int .i64) (.pair (.int .i64) (.pair (.int .i64) .unit))))) (.pair (.int .i64) (.pair (.list (.int .i64)) .unit)))))], [(0, .v 0)], []⟩
def tree_Some_out : Shape := ⟨[(.pair (.list (.pair (.int .i64) (.pair (.int .i64) (.pair (.int .i64) .unit)))) .unit), .bool, (.int .i64)], [(0, .v 0), (1, .v 1), (2, .v 2)], []⟩
noncomputable def tree_Some_ce : CE := ⟨5, tree_Some_sig, tree_Some_out, fun X => tree_Some X⟩
theorem tree_Some_ok : CE.ok Try.prog tree_Some_ce := CE.of (Γ := [tree_Check_ce, tree_some_ce]) (by kernel_rfl) TT_ok (GOK.cons tree_Check_ok (GOK.cons tree_some_ok (GOK.nil))) ⟨[], [], [], []⟩ Try.func5 rfl Try.ntmps5 (rs := [.cell 2 29, .tmp 3, .tmp 4]) rfl (sig := tree_Some_sig) (out := tree_Some_out) rfl Try.call5 (fun X => by kernel_rfl)

def r12_Ahead_sig : Shape := ⟨[(.pair (.int .i64) (.pair (.int .i64) (.pair (.int .i64) (.pair (.int .i64) .unit)))), (.pair (.int .i64) (.pair (.int .i64) (.pair (.int .i64) (.pair (.int .i64) .unit))))], [(0, .v 0), (1, .v 1)], []⟩
def r12_Ahead_out : Shape := ⟨[.bool], [(0, .v 0)], []⟩
noncomputable def r12_Ahead_ce : CE := ⟨13, r12_Ahead_sig, r12_Ahead_out, fun X => r12_Ahead X.1 X.2⟩
theorem r12_Ahead_ok : CE.ok Try.prog r12_Ahead_ce := CE.of (Γ := []) (by kernel_rfl) TT_ok (GOK.nil) ⟨[], [], [], []⟩ Try.func13 rfl Try.ntmps13 (rs := [.tmp 4]) rfl (sig := r12_Ahead_sig) (out := r12_Ahead_out) rfl Try.call13 (fun X => by kernel_rfl)

def r12_Check_sig : Shape := ⟨[(.pair (.int .i64) (.pair (.int .i64) (.pair (.list (.pair (.int .i64) (.pair (.int .i64) (.pair (.int .i64) (.pair (.int .i64) .unit))))) (.pair (.int .i64) (.pair (.list (.int .i64)) .unit)))))], [(0, .v 0)], []⟩
def r12_Check_out : Shape := ⟨[(.int .i64)], [(0, .v 0)], []⟩
noncomputable def r12_Check_ce : CE := ⟨6, r12_Check_sig, r12_Check_out, fun X => r12_Check X⟩
theorem r12_Check_ok : CE.ok Try.prog r12_Check_ce := CE.of (Γ := [r12_Ahead_ce]) (by kernel_rfl) TT_ok (GOK.cons r12_Ahead_ok (GOK.nil)) ⟨[(6, ⟨⟨[(.int .i64)], [(3, .v 0)], []⟩, [2, 4, 5, 6, 40, 41, 42, 43, 44, 45, 46, 47, 48, 49, 50, 51, 52, 53, 54, 55, 56, 57, 58, 59, 60, 61, 62, 63, 64, 65, 66, 67, 68, 69, 70, 71, 72, 73, 74, 75, 76, 77, 78, 79, 80, 81, 82, 83, 84, 85, 86, 87, 88, 89, 90, 91, 92, 93, 94, 95, 96, 97, 98, 99, 100, 101, 102, 103, 104, 105, 106, 107, 108, 109, 110, 111], [], [0], 1, []⟩), (14, ⟨⟨[(.int .i64)], [(7, .v 0)], []⟩, [2, 112, 113, 114, 115, 116, 117, 118, 119, 120, 121, 122, 123, 124, 125, 126, 127, 128, 129, 130, 131, 132], [], [0], 1, []⟩), (19, ⟨⟨[(.int .i64)], [(8, .v 0)], []⟩, [2, 9, 133, 134, 135, 136, 137, 138, 139, 140, 141, 142, 143, 144, 145, 146, 147, 148, 149, 150, 151, 152, 153], [], [0], 1, []⟩)], [(9, ⟨⟨[.bool], [(5, .v 0)], []⟩, [52, 53, 54, 55, 56, 57, 58, 59], [], [0, 1], 2, []⟩), (10, ⟨⟨[.bool], [(6, .v 0)], []⟩, [60, 61, 62, 63, 64, 65, 66, 67, 68, 69, 70, 71, 72, 73, 74, 75, 76, 77, 78, 79, 80, 81], [], [0, 1], 2, []⟩)], [(21, [(0, 0), (0, 1), (0, 2), (0, 3), (0, 4), (0, 5), (0, 6), (0, 7), (0, 8), (0, 9), (0, 10), (1, 11), (0, 12)])], []⟩ Try.func6 rfl Try.ntmps6 (rs := [.tmp 2]) rfl (sig := r12_Check_sig) (out := r12_Check_out) rfl Try.call6 (fun X => by kernel_rfl)

def r12_Least_sig : Shape := ⟨[(.pair (.int .i64) (.pair (.int .i64) (.pair (.list (.pair (.int .i64) (.pair (.int .i64) (.pair (.int .i64) (.pair (.int .i64) .unit))))) (.pair (.int .i64) (.pair (.list (.int .i64)) .unit)))))], [(0, .v 0)], []⟩
def r12_Least_out : Shape := ⟨[(.int .i64)], [(0, .v 0)], []⟩
noncomputable def r12_Least_ce : CE := ⟨7, r12_Least_sig, r12_Least_out, fun X => r12_Least X⟩
theorem r12_Least_ok : CE.ok Try.prog r12_Least_ce := CE.of (Γ := []) (by kernel_rfl) TT_ok (GOK.nil) ⟨[(3, ⟨⟨[(.int .i64), (.list (.int .i64))], [(3, .own 1), (4, .v 0)], [(1, .arr 3 1)]⟩, [2, 5, 6, 7, 8, 9, 12, 13, 14, 15, 16, 17, 18, 19, 20, 21, 22, 23, 24, 25, 26, 27, 28, 29, 30, 31, 32, 33, 34, 35, 36, 37, 38, 39, 40, 41, 42, 43, 44, 45, 46, 47, 48, 49, 50, 51, 52, 53, 54, 55, 56, 57, 58, 59, 60, 61, 62, 63, 64, 65, 66, 67, 68, 69, 70, 71, 72, 73, 74, 75, 76, 77, 78, 79, 80, 81, 82, 83, 84, 85, 86, 87, 88, 89, 90, 91, 92, 93, 94, 95, 96, 97, 98, 99, 100, 101, 102, 103, 104, 105, 106, 107, 108], [], [0], 2, []⟩), (7, ⟨⟨[(.int .i64), (.list (.int .i64))], [(5, .own 2), (6, .v 0)], [(2, .arr 3 1)]⟩, [7, 8, 17, 18, 19, 20, 21, 22, 23, 24, 25, 26, 27, 28, 29, 30, 31, 32, 33, 34, 35, 36, 37, 38, 39, 40, 41, 42, 43, 44, 45, 46, 47, 48, 49, 50, 51, 52, 53, 54, 55, 56, 57, 58, 59, 60, 61, 62, 63, 64, 65, 66, 67, 68, 69, 70, 71, 72, 73, 74, 75, 76, 77], [], [0, 1], 3, []⟩), (16, ⟨⟨[(.int .i64), (.list (.int .i64))], [(3, .own 1), (9, .v 0)], [(1, .arr 3 1)]⟩, [2, 78, 79, 80, 81, 82, 83, 84, 85, 86, 87, 88, 89, 90, 91, 92, 93, 94, 95, 96, 97, 98, 99, 100, 101, 102, 103, 104, 105, 106, 107, 108], [], [0, 2], 3, []⟩)], [(12, ⟨⟨[.bool], [(8, .v 0)], []⟩, [31, 32, 33, 34, 35, 36, 37, 38, 39, 40, 41, 42, 43, 44, 45, 46, 47, 48, 49, 50, 51, 52, 53, 54, 55, 56, 57, 58, 59, 60, 61, 62, 63], [], [0, 1, 2, 3], 4, []⟩), (13, ⟨⟨[.bool], [(72, .v 0)], []⟩, [64, 65, 66, 67, 68, 69, 70, 71], [], [0, 1, 2, 3], 4, []⟩), (19, ⟨⟨[(.list (.int .i64))], [(3, .own 1)], [(1, .arr 3 0)]⟩, [84, 85, 86, 87, 88, 89, 90, 91, 92, 93, 94, 95, 96, 97, 98], [], [0, 2], 3, []⟩)], [(12, [(0, 0), (0, 1), (0, 2), (0, 3), (0, 4), (0, 5), (0, 6), (0, 7), (0, 8), (0, 9), (0, 10), (0, 11), (0, 12), (0, 13), (0, 14), (0, 15), (0, 16), (0, 17), (0, 18), (0, 19), (0, 20), (0, 21), (0, 22), (0, 23), (0, 24), (0, 25), (0, 26), (0, 27), (0, 28), (0, 29), (0, 30)]), (20, [(0, 0), (0, 1), (0, 2), (0, 3), (0, 4), (0, 5), (0, 6), (0, 7), (0, 8)])], []⟩ Try.func7 rfl Try.ntmps7 (rs := [.tmp 2]) rfl (sig := r12_Least_sig) (out := r12_Least_out) rfl Try.call7 (fun X => by kernel_rfl)

def r12_Tree_sig : Shape := ⟨[(.int .i64), (.pair (.list (.pair (.int .i64) (.pair (.int .i64) (.pair (.int .i64) .unit)))) .unit)], [(0, .v 0), (1, .v 1)], []⟩
def r12_Tree_out : Shape := ⟨[(.int .i64)], [(0, .v 0)], []⟩
noncomputable def r12_Tree_ce : CE := ⟨8, r12_Tree_sig, r12_Tree_out, fun X => r12_Tree X.1 X.2⟩
theorem r12_Tree_ok : CE.ok Try.prog r12_Tree_ce := CE.of (Γ := []) (by kernel_rfl) TT_ok (GOK.nil) ⟨[(8, ⟨⟨[(.int .i64), (.list .bool)], [(6, .own 1), (7, .v 0)], [(1, .arr 4 1)]⟩, [4, 8, 26, 27, 28, 29, 30, 31, 32, 33, 34, 35, 36, 37, 38, 39, 40, 41, 42, 43, 44, 45, 46, 47, 48, 49, 50, 51, 52, 53, 54, 55, 56, 57, 58, 59, 60, 61, 62, 63, 64, 65, 66, 67, 68, 69, 70, 71, 72, 73, 74, 75, 76, 77, 78, 79, 80, 81, 82, 83, 84, 85, 86, 87, 88, 89, 90, 91, 92, 93], [], [0], 2, []⟩), (21, ⟨⟨[(.int .i64)], [(9, .v 0)], []⟩, [4, 94, 95, 96, 97, 98, 99, 100, 101, 102, 103, 104], [], [0, 1], 2, []⟩)], [(13, ⟨⟨[], [], []⟩, [46, 47, 48, 49, 50, 51, 52, 53], [], [0, 1, 2], 3, []⟩)], [], []⟩ Try.func8 rfl Try.ntmps8 (rs := [.tmp 4]) rfl (sig := r12_Tree_sig) (out := r12_Tree_out) rfl Try.call8 (fun X => by kernel_rfl)

def r12_Accepts_sig : Shape := ⟨[(.pair (.int .i64) (.pair (.int .i64) (.pair (.list (.pair (.int .i64) (.pair (.int .i64) (.pair (.int .i64) (.pair (.int .i64) .unit))))) (.pair (.int .i64) (.pair (.list (.int .i64)) .unit))))), (.pair (.list (.pair (.int .i64) (.pair (.int .i64) (.pair (.int .i64) .unit)))) .unit)], [(0, .v 0), (1, .v 1)], []⟩
def r12_Accepts_out : Shape := ⟨[.bool], [(0, .v 0)], []⟩
noncomputable def r12_Accepts_ce : CE := ⟨9, r12_Accepts_sig, r12_Accepts_out, fun X => r12_Accepts X.1 X.2⟩
theorem r12_Accepts_ok : CE.ok Try.prog r12_Accepts_ce := CE.of (Γ := []) (by kernel_rfl) TT_ok (GOK.nil) ⟨[(3, ⟨⟨[(.int .i64), (.list (.list .bool))], [(5, .own 2), (6, .v 0)], [(2, .arr 42 1)]⟩, [7, 8, 9, 10, 13, 14, 15, 16, 17, 18, 19, 20, 21, 22, 23, 24, 25, 26, 27, 28, 29, 30, 31, 32, 33, 34, 35, 36, 37, 38, 39, 40, 41, 42, 43, 44, 45, 46, 47, 48, 49, 50, 51, 52, 53, 54, 55, 56, 57, 58, 59, 60, 61, 62, 63, 64, 65, 66, 67, 68, 69, 70, 71, 72, 73, 74, 75, 76, 77, 78, 79, 80, 81, 82, 83, 84, 85, 86], [], [0, 1], 3, []⟩), (8, ⟨⟨[(.int .i64), (.list .bool)], [(8, .own 4), (9, .v 0)], [(4, .arr 4 1)]⟩, [10, 27, 28, 29, 30, 31, 32, 33, 34, 35, 36, 37, 38, 39, 40, 41, 42, 43, 44, 45, 46, 47, 48, 49, 50, 51, 52, 53, 54, 55, 56, 57, 58, 59, 60, 61, 62, 63, 64, 65, 66, 67, 68, 69, 70, 71, 72, 73, 74, 75, 76, 77, 78, 79, 80, 81, 82], [], [0, 1, 2, 3], 5, []⟩), (17, ⟨⟨[(.int .i64)], [(12, .v 0)], []⟩, [4, 93, 94, 95, 96, 97, 98, 99, 100, 101, 102, 103, 104, 105, 106, 107, 108, 109, 110], [], [0, 1, 2], 3, []⟩)], [(12, ⟨⟨[.bool], [(78, .v 0)], []⟩, [54, 55, 56, 57, 58, 59, 60, 61, 62, 63, 64, 65, 66, 67, 68, 69, 70, 71, 72, 73, 74, 75, 76, 77], [], [0, 1, 2, 3, 4, 5], 6, []⟩)], [(12, [(0, 0), (0, 1), (0, 2), (0, 3), (0, 4), (0, 5), (0, 6), (0, 7), (0, 8), (0, 9), (0, 10), (0, 11), (0, 12), (0, 13), (0, 14), (0, 15), (0, 16), (0, 17), (0, 18), (0, 19), (0, 20), (0, 21), (0, 22), (0, 23), (0, 24)])], []⟩ Try.func9 rfl Try.ntmps9 (rs := [.tmp 4]) rfl (sig := r12_Accepts_sig) (out := r12_Accepts_out) rfl Try.call9 (fun X => by kernel_rfl)

def law_TreeSome_sig : Shape := ⟨[(.pair (.int .i64) (.pair (.int .i64) (.pair (.list (.pair (.int .i64) (.pair (.int .i64) (.pair (.int .i64) (.pair (.int .i64) .unit))))) (.pair (.int .i64) (.pair (.list (.int .i64)) .unit)))))], [(0, .v 0)], []⟩
def law_TreeSome_out : Shape := ⟨[.bool], [(0, .v 0)], []⟩
noncomputable def law_TreeSome_ce : CE := ⟨3, law_TreeSome_sig, law_TreeSome_out, fun X => law_TreeSome X⟩
theorem law_TreeSome_ok : CE.ok Try.prog law_TreeSome_ce := CE.of (Γ := [law_trees_ce, tree_Some_ce, r12_Check_ce, r12_Least_ce, r12_Tree_ce, r12_Accepts_ce]) (by kernel_rfl) TT_ok (GOK.cons law_trees_ok (GOK.cons tree_Some_ok (GOK.cons r12_Check_ok (GOK.cons r12_Least_ok (GOK.cons r12_Tree_ok (GOK.cons r12_Accepts_ok (GOK.nil))))))) ⟨[], [], [], []⟩ Try.func3 rfl Try.ntmps3 (rs := [.tmp 2]) rfl (sig := law_TreeSome_sig) (out := law_TreeSome_out) rfl Try.call3 (fun X => by kernel_rfl)

end Go.Proofs.Ytjongekfcejikaa.treeSomeW
