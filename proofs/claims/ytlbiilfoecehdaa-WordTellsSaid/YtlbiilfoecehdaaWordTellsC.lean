/- That the functions of 'WordTells' compute so. -/
import Derived.Test.YtlbiilfoecehdaaWordTellsD
import Derived.Test.YtlbiilfoecehdaaProg
import Derived.KernelRfl
set_option maxHeartbeats 1000000
set_option maxRecDepth 20000
set_option linter.unusedSimpArgs false
set_option linter.unusedVariables false
set_option linter.unusedSectionVars false
namespace Go.Proofs.Ytlbiilfoecehdaa.wordTellsW
open Go Go.Ab
def te3 : TE := ⟨3, .int .i64, false, 1, 8, .int .i64 0, some (.int .i64)⟩
theorem te3_ok : TEok Try.prog te3 := ⟨TI.of Try.underlying3 rfl (by kernel_rfl), Try.underlying3, fun t h => by cases h; exact ⟨rfl, rfl, by decide, rfl⟩⟩
def te4 : TE := ⟨4, .bool, false, 1, 1, .bool false, some .bool⟩
theorem te4_ok : TEok Try.prog te4 := ⟨TI.of Try.underlying4 rfl (by kernel_rfl), Try.underlying4, fun t h => by cases h; exact ⟨rfl, rfl, by decide, rfl⟩⟩
def te22 : TE := ⟨22, .slice 3, false, 1, 24, .slice none 0 0, some (.list (.int .i64))⟩
theorem te22_ok : TEok Try.prog te22 := ⟨TI.of Try.underlying22 rfl (by kernel_rfl), Try.underlying22, fun t h => by cases h; exact ⟨rfl, rfl, by decide, rfl⟩⟩
def te24 : TE := ⟨24, .struct [(0, 22), (1, 22)] none, true, 2, 48, .agg ⟨[.slice none 0 0, .slice none 0 0]⟩, some (.pair (.list (.int .i64)) (.pair (.list (.int .i64)) .unit))⟩
theorem te24_ok : TEok Try.prog te24 := ⟨TI.of Try.underlying24 rfl (by kernel_rfl), ⟨⟨_, Try.underlying24, rfl⟩, fun t h => by cases h⟩, fun t h => by cases h; exact ⟨rfl, rfl, by decide, rfl⟩⟩
def te25 : TE := ⟨25, .int .i64, false, 1, 8, .int .i64 0, some (.int .i64)⟩
theorem te25_ok : TEok Try.prog te25 := ⟨TI.of Try.underlying25 rfl (by kernel_rfl), Try.underlying25, fun t h => by cases h; exact ⟨rfl, rfl, by decide, rfl⟩⟩
def te35 : TE := ⟨35, .array 2 22, true, 2, 48, .agg ⟨[.slice none 0 0, .slice none 0 0]⟩, some (.pair (.list (.int .i64)) (.pair (.list (.int .i64)) .unit))⟩
theorem te35_ok : TEok Try.prog te35 := ⟨TI.of Try.underlying35 rfl (by kernel_rfl), Try.underlying35, fun t h => by cases h; exact ⟨rfl, rfl, by decide, rfl⟩⟩
def te36 : TE := ⟨36, .slice 24, false, 1, 24, .slice none 0 0, some (.list (.pair (.list (.int .i64)) (.pair (.list (.int .i64)) .unit)))⟩
theorem te36_ok : TEok Try.prog te36 := ⟨TI.of Try.underlying36 rfl (by kernel_rfl), Try.underlying36, fun t h => by cases h; exact ⟨rfl, rfl, by decide, rfl⟩⟩
def TT : List TE := [te3, te4, te22, te24, te25, te35, te36]
theorem TT_ok : TOK Try.prog TT := TOK.cons te3_ok (TOK.cons te4_ok (TOK.cons te22_ok (TOK.cons te24_ok (TOK.cons te25_ok (TOK.cons te35_ok (TOK.cons te36_ok (TOK.nil)))))))

def word_May_sig : Shape := ⟨[(.int .i64), (.list (.int .i64))], [(0, .v 0), (1, .v 1)], []⟩
def word_May_out : Shape := ⟨[(.int .i64)], [(0, .v 0)], []⟩
noncomputable def word_May_ce : CE := ⟨4, word_May_sig, word_May_out, fun X => word_May X.1 X.2⟩
theorem word_May_ok : CE.ok Try.prog word_May_ce := CE.of (Γ := []) (by kernel_rfl) TT_ok (GOK.nil) ⟨[(6, ⟨⟨[(.int .i64)], [(18, .v 0)], []⟩, [4, 6, 19, 20, 21, 22, 23, 24, 25, 26, 27, 28, 29], [], [], 0, []⟩)], [], [], []⟩ Try.func4 rfl Try.ntmps4 (rs := [.tmp 4]) rfl (sig := word_May_sig) (out := word_May_out) rfl Try.call4 (fun X => by kernel_rfl)

def r1_May_sig : Shape := ⟨[(.int .i64), (.list (.int .i64))], [(0, .v 0), (1, .v 1)], []⟩
def r1_May_out : Shape := ⟨[(.int .i64)], [(0, .v 0)], []⟩
noncomputable def r1_May_ce : CE := ⟨5, r1_May_sig, r1_May_out, fun X => r1_May X.1 X.2⟩
theorem r1_May_ok : CE.ok Try.prog r1_May_ce := CE.of (Γ := []) (by kernel_rfl) TT_ok (GOK.nil) ⟨[(6, ⟨⟨[(.int .i64)], [(5, .v 0)], []⟩, [4, 15, 16, 17, 18, 19, 20, 21, 22, 23, 24, 25, 26, 27, 28, 29, 30, 31, 32, 33], [], [], 0, []⟩)], [], [], []⟩ Try.func5 rfl Try.ntmps5 (rs := [.tmp 4]) rfl (sig := r1_May_sig) (out := r1_May_out) rfl Try.call5 (fun X => by kernel_rfl)

def word_Lasso_sig : Shape := ⟨[(.int .i64), (.pair (.list (.int .i64)) (.pair (.list (.int .i64)) .unit))], [(0, .v 0), (1, .v 1)], []⟩
def word_Lasso_out : Shape := ⟨[(.int .i64)], [(0, .v 0)], []⟩
noncomputable def word_Lasso_ce : CE := ⟨6, word_Lasso_sig, word_Lasso_out, fun X => word_Lasso X.1 X.2⟩
theorem word_Lasso_ok : CE.ok Try.prog word_Lasso_ce := CE.of (Γ := [word_May_ce]) (by kernel_rfl) TT_ok (GOK.cons word_May_ok (GOK.nil)) ⟨[(2, ⟨⟨[(.int .i64)], [(13, .v 0)], []⟩, [4, 6, 7, 14, 15, 16, 17, 18, 19, 20, 21, 22], [], [0], 1, []⟩)], [], [], []⟩ Try.func6 rfl Try.ntmps6 (rs := [.tmp 4]) rfl (sig := word_Lasso_sig) (out := word_Lasso_out) rfl Try.call6 (fun X => by kernel_rfl)

def r1_Lasso_sig : Shape := ⟨[(.int .i64), (.pair (.list (.int .i64)) (.pair (.list (.int .i64)) .unit))], [(0, .v 0), (1, .v 1)], []⟩
def r1_Lasso_out : Shape := ⟨[(.int .i64)], [(0, .v 0)], []⟩
noncomputable def r1_Lasso_ce : CE := ⟨7, r1_Lasso_sig, r1_Lasso_out, fun X => r1_Lasso X.1 X.2⟩
theorem r1_Lasso_ok : CE.ok Try.prog r1_Lasso_ce := CE.of (Γ := [r1_May_ce]) (by kernel_rfl) TT_ok (GOK.cons r1_May_ok (GOK.nil)) ⟨[], [], [], []⟩ Try.func7 rfl Try.ntmps7 (rs := [.tmp 4]) rfl (sig := r1_Lasso_sig) (out := r1_Lasso_out) rfl Try.call7 (fun X => by kernel_rfl)

def word_at_sig : Shape := ⟨[(.pair (.list (.int .i64)) (.pair (.list (.int .i64)) .unit)), (.int .i64)], [(0, .v 0), (1, .v 1)], []⟩
def word_at_out : Shape := ⟨[(.int .i64)], [(0, .v 0)], []⟩
noncomputable def word_at_ce : CE := ⟨12, word_at_sig, word_at_out, fun X => word_at X.1 X.2⟩
theorem word_at_ok : CE.ok Try.prog word_at_ce := CE.of (Γ := []) (by kernel_rfl) TT_ok (GOK.nil) ⟨[], [], [(3, [(0, 0), (0, 1), (0, 2), (0, 3), (0, 4), (0, 5), (0, 6), (0, 7), (0, 8), (0, 9), (0, 10), (0, 11), (0, 12), (0, 13)])], []⟩ Try.func12 rfl Try.ntmps12 (rs := [.tmp 4]) rfl (sig := word_at_sig) (out := word_at_out) rfl Try.call12 (fun X => by kernel_rfl)

def word_At_sig : Shape := ⟨[(.pair (.list (.int .i64)) (.pair (.list (.int .i64)) .unit)), (.int .i64)], [(0, .v 0), (1, .v 1)], []⟩
def word_At_out : Shape := ⟨[(.int .i64), (.int .i64)], [(0, .v 0), (1, .v 1)], []⟩
noncomputable def word_At_ce : CE := ⟨8, word_At_sig, word_At_out, fun X => word_At X.1 X.2⟩
theorem word_At_ok : CE.ok Try.prog word_At_ce := CE.of (Γ := [word_Lasso_ce, word_at_ce]) (by kernel_rfl) TT_ok (GOK.cons word_Lasso_ok (GOK.cons word_at_ok (GOK.nil))) ⟨[], [], [], []⟩ Try.func8 rfl Try.ntmps8 (rs := [.tmp 4, .tmp 5]) rfl (sig := word_At_sig) (out := word_At_out) rfl Try.call8 (fun X => by kernel_rfl)

def slices_Clone_sig : Shape := ⟨[(.list (.int .i64))], [(0, .v 0)], []⟩
def slices_Clone_out : Shape := ⟨[(.list (.int .i64))], [(0, .own 0)], [(0, .arr 3 0)]⟩
noncomputable def slices_Clone_ce : CE := ⟨15, slices_Clone_sig, slices_Clone_out, fun X => slices_Clone X⟩
theorem slices_Clone_ok : CE.ok Try.prog slices_Clone_ce := CE.of (Γ := []) (by kernel_rfl) TT_ok (GOK.nil) ⟨[], [], [], []⟩ Try.func15 rfl Try.ntmps15 (rs := [.tmp 2]) rfl (sig := slices_Clone_sig) (out := slices_Clone_out) rfl Try.call15 (fun X => by kernel_rfl)

def slices_Equal_sig : Shape := ⟨[(.list (.int .i64)), (.list (.int .i64))], [(0, .v 0), (1, .v 1)], []⟩
def slices_Equal_out : Shape := ⟨[.bool], [(0, .v 0)], []⟩
noncomputable def slices_Equal_ce : CE := ⟨14, slices_Equal_sig, slices_Equal_out, fun X => slices_Equal X.1 X.2⟩
theorem slices_Equal_ok : CE.ok Try.prog slices_Equal_ce := CE.of (Γ := []) (by kernel_rfl) TT_ok (GOK.nil) ⟨[(4, ⟨⟨[(.int .i64)], [(13, .v 0)], []⟩, [4, 5, 14, 15, 16, 17, 18, 19, 20, 21, 22, 23, 24, 25], [], [], 0, []⟩)], [], [(6, [(0, 0), (0, 1), (0, 2), (0, 3), (0, 4), (0, 5), (0, 6), (0, 7), (0, 8)])], []⟩ Try.func14 rfl Try.ntmps14 (rs := [.tmp 4]) rfl (sig := slices_Equal_sig) (out := slices_Equal_out) rfl Try.call14 (fun X => by kernel_rfl)

def word_period_sig : Shape := ⟨[(.list (.int .i64))], [(0, .v 0)], []⟩
def word_period_out : Shape := ⟨[(.list (.int .i64))], [(0, .v 0)], []⟩
noncomputable def word_period_ce : CE := ⟨16, word_period_sig, word_period_out, fun X => word_period X⟩
theorem word_period_ok : CE.ok Try.prog word_period_ce := CE.of (Γ := [slices_Equal_ce]) (by kernel_rfl) TT_ok (GOK.cons slices_Equal_ok (GOK.nil)) ⟨[(2, ⟨⟨[(.int .i64)], [(6, .v 0)], []⟩, [2, 3, 7, 8, 9, 10, 11, 12, 13, 14, 15, 16, 17, 18, 19, 20, 21, 22, 23, 24, 25, 26, 27, 28, 29, 30, 31, 32, 33], [], [], 0, []⟩)], [(4, ⟨⟨[.bool], [(29, .v 0)], []⟩, [9, 10, 11, 12, 13, 14, 15, 16, 17, 18, 19, 20, 21, 22, 23, 24, 25, 26, 27, 28], [], [], 0, []⟩)], [(4, [(0, 0), (0, 1), (0, 2), (0, 3), (0, 4), (0, 5), (0, 6), (0, 7), (0, 8), (0, 9), (0, 10), (0, 11), (0, 12), (0, 13), (0, 14), (0, 15), (0, 16), (0, 17), (0, 18), (1, 19), (0, 20)])], []⟩ Try.func16 rfl Try.ntmps16 (rs := [.tmp 2]) rfl (sig := word_period_sig) (out := word_period_out) rfl Try.call16 (fun X => by kernel_rfl)

def word_normal_sig : Shape := ⟨[(.pair (.list (.int .i64)) (.pair (.list (.int .i64)) .unit))], [(0, .v 0)], []⟩
def word_normal_out : Shape := ⟨[(.pair (.list (.int .i64)) (.pair (.list (.int .i64)) .unit))], [(0, .v 0)], []⟩
noncomputable def word_normal_ce : CE := ⟨13, word_normal_sig, word_normal_out, fun X => word_normal X⟩
theorem word_normal_ok : CE.ok Try.prog word_normal_ce := CE.of (Γ := [slices_Clone_ce, word_period_ce, word_at_ce]) (by kernel_rfl) TT_ok (GOK.cons slices_Clone_ok (GOK.cons word_period_ok (GOK.cons word_at_ok (GOK.nil)))) ⟨[(2, ⟨⟨[(.list (.int .i64)), (.list (.int .i64))], [(3, .v 0), (4, .own 3)], [(3, .arr 3 1)]⟩, [7, 11, 12, 13, 14, 15, 16, 17, 18, 19, 20, 21, 22, 23, 24, 25, 26, 27, 28, 29, 30, 31, 32, 33, 34, 35, 36, 37, 38, 39, 40, 41, 42, 43, 44, 45], [2], [0, 1], 4, []⟩)], [], [(1, [(0, 0), (0, 1), (0, 3), (0, 4), (1, 2), (1, 5), (1, 6), (0, 7), (0, 8)]), (2, [(0, 0), (0, 1), (0, 2), (0, 3), (0, 4), (0, 5), (0, 6), (0, 7), (0, 8), (0, 9), (0, 10), (0, 11), (0, 12), (0, 13), (0, 14), (0, 15), (0, 16), (0, 17)]), (4, [(0, 0), (0, 1), (0, 2), (1, 3), (2, 4)])], []⟩ Try.func13 rfl Try.ntmps13 (rs := [.cell 2 24]) rfl (sig := word_normal_sig) (out := word_normal_out) rfl Try.call13 (fun X => by kernel_rfl)

def word_Same_sig : Shape := ⟨[(.pair (.list (.int .i64)) (.pair (.list (.int .i64)) .unit)), (.pair (.list (.int .i64)) (.pair (.list (.int .i64)) .unit))], [(0, .v 0), (1, .v 1)], []⟩
def word_Same_out : Shape := ⟨[.bool, (.int .i64)], [(0, .v 0), (1, .v 1)], []⟩
noncomputable def word_Same_ce : CE := ⟨10, word_Same_sig, word_Same_out, fun X => word_Same X.1 X.2⟩
theorem word_Same_ok : CE.ok Try.prog word_Same_ce := CE.of (Γ := [word_Lasso_ce, word_normal_ce, slices_Equal_ce]) (by kernel_rfl) TT_ok (GOK.cons word_Lasso_ok (GOK.cons word_normal_ok (GOK.cons slices_Equal_ok (GOK.nil)))) ⟨[(2, ⟨⟨[(.int .i64)], [(15, .v 0)], []⟩, [4, 5, 7, 8, 16, 17, 18, 19, 20, 21, 22, 23, 24], [], [0, 1, 2], 3, []⟩)], [(8, ⟨⟨[(.list (.int .i64)), (.list (.int .i64)), (.list (.int .i64)), (.list (.int .i64))], [(9, .ptr 3 0), (10, .ptr 4 0)], [(3, .box 24 [.v 0, .v 1]), (4, .box 24 [.v 2, .v 3])]⟩, [25, 26, 27, 28], [], [0, 1, 2], 5, []⟩)], [], [(8, (.live [3, 6, 7] (.rd 0 [1, 3, 6, 7] (.rd 2 [3, 6, 7] (.alt 1 1 (.alt 2 3 (.alt 1 4 (.leaf [(1, 5), (2, 6), (2, 7)]) (.alt 1 5 (.leaf [(1, 4), (2, 6), (2, 7)]) .stop)) (.alt 1 4 (.alt 2 3 (.leaf [(1, 5), (2, 6), (2, 7)]) (.alt 1 5 (.alt 2 3 (.leaf [(2, 6), (2, 7)]) .stop) .stop)) (.alt 1 5 (.alt 2 3 (.leaf [(1, 4), (2, 6), (2, 7)]) (.alt 1 4 (.alt 2 3 (.leaf [(2, 6), (2, 7)]) .stop) .stop)) .stop))) (.alt 1 4 (.alt 1 1 (.alt 2 3 (.leaf [(1, 5), (2, 6), (2, 7)]) (.alt 1 5 (.alt 2 3 (.leaf [(2, 6), (2, 7)]) .stop) .stop)) (.alt 1 5 (.alt 1 1 (.alt 2 3 (.leaf [(2, 6), (2, 7)]) .stop) .stop) .stop)) (.alt 1 5 (.alt 1 1 (.alt 2 3 (.leaf [(1, 4), (2, 6), (2, 7)]) (.alt 1 4 (.alt 2 3 (.leaf [(2, 6), (2, 7)]) .stop) .stop)) (.alt 1 4 (.alt 1 1 (.alt 2 3 (.leaf [(2, 6), (2, 7)]) .stop) .stop) .stop)) .stop)))))))]⟩ Try.func10 rfl Try.ntmps10 (rs := [.tmp 4, .tmp 5]) rfl (sig := word_Same_sig) (out := word_Same_out) rfl Try.call10 (fun X => by kernel_rfl)

def r1_At_sig : Shape := ⟨[(.pair (.list (.int .i64)) (.pair (.list (.int .i64)) .unit)), (.int .i64)], [(0, .v 0), (1, .v 1)], []⟩
def r1_At_out : Shape := ⟨[(.int .i64)], [(0, .v 0)], []⟩
noncomputable def r1_At_ce : CE := ⟨9, r1_At_sig, r1_At_out, fun X => r1_At X.1 X.2⟩
theorem r1_At_ok : CE.ok Try.prog r1_At_ce := CE.of (Γ := []) (by kernel_rfl) TT_ok (GOK.nil) ⟨[], [], [(3, [(0, 0), (0, 1), (0, 2), (0, 3), (0, 4), (0, 5), (0, 6), (0, 7), (0, 8), (0, 9), (0, 10), (0, 11), (0, 12), (0, 13)])], []⟩ Try.func9 rfl Try.ntmps9 (rs := [.tmp 4]) rfl (sig := r1_At_sig) (out := r1_At_out) rfl Try.call9 (fun X => by kernel_rfl)

def r1_Same_sig : Shape := ⟨[(.pair (.list (.int .i64)) (.pair (.list (.int .i64)) .unit)), (.pair (.list (.int .i64)) (.pair (.list (.int .i64)) .unit))], [(0, .v 0), (1, .v 1)], []⟩
def r1_Same_out : Shape := ⟨[.bool], [(0, .v 0)], []⟩
noncomputable def r1_Same_ce : CE := ⟨11, r1_Same_sig, r1_Same_out, fun X => r1_Same X.1 X.2⟩
theorem r1_Same_ok : CE.ok Try.prog r1_Same_ce := CE.of (Γ := [r1_At_ce]) (by kernel_rfl) TT_ok (GOK.cons r1_At_ok (GOK.nil)) ⟨[(3, ⟨⟨[(.int .i64)], [(6, .v 0)], []⟩, [4, 7, 8, 24, 25, 26, 27, 28, 29, 30, 31, 32, 33, 34, 35, 36, 37], [], [0, 1], 2, []⟩)], [], [], []⟩ Try.func11 rfl Try.ntmps11 (rs := [.tmp 4]) rfl (sig := r1_Same_sig) (out := r1_Same_out) rfl Try.call11 (fun X => by kernel_rfl)

def law_WordTells_sig : Shape := ⟨[(.int .i64), (.list (.int .i64)), (.pair (.list (.int .i64)) (.pair (.list (.int .i64)) .unit)), (.pair (.list (.int .i64)) (.pair (.list (.int .i64)) .unit)), (.int .i64)], [(0, .v 0), (1, .v 1), (2, .v 2), (3, .v 3), (4, .v 4)], []⟩
def law_WordTells_out : Shape := ⟨[.bool], [(0, .v 0)], []⟩
noncomputable def law_WordTells_ce : CE := ⟨3, law_WordTells_sig, law_WordTells_out, fun X => law_WordTells X.1 X.2.1 X.2.2.1 X.2.2.2.1 X.2.2.2.2⟩
theorem law_WordTells_ok : CE.ok Try.prog law_WordTells_ce := CE.of (Γ := [word_May_ce, r1_May_ce, word_Lasso_ce, r1_Lasso_ce, word_At_ce, word_Same_ce, r1_Same_ce, r1_At_ce]) (by kernel_rfl) TT_ok (GOK.cons word_May_ok (GOK.cons r1_May_ok (GOK.cons word_Lasso_ok (GOK.cons r1_Lasso_ok (GOK.cons word_At_ok (GOK.cons word_Same_ok (GOK.cons r1_Same_ok (GOK.cons r1_At_ok (GOK.nil))))))))) ⟨[], [(18, ⟨⟨[], [], []⟩, [10, 18, 51, 52, 53, 54, 55, 56, 57, 58, 59, 60, 61, 62, 63, 64, 65, 66, 67, 68, 69, 70, 71, 72, 73, 74, 75, 76, 77], [], [0, 1], 2, []⟩)], [], []⟩ Try.func3 rfl Try.ntmps3 (rs := [.tmp 10]) rfl (sig := law_WordTells_sig) (out := law_WordTells_out) rfl Try.call3 (fun X => by kernel_rfl)

end Go.Proofs.Ytlbiilfoecehdaa.wordTellsW
