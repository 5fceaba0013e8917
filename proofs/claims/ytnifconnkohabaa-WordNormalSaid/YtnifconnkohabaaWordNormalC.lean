/- That the functions of 'WordNormal' compute so. -/
import Derived.Test.YtnifconnkohabaaWordNormalD
import Derived.Test.YtnifconnkohabaaProg
import Derived.KernelRfl
set_option maxHeartbeats 1000000
set_option maxRecDepth 20000
set_option linter.unusedSimpArgs false
set_option linter.unusedVariables false
set_option linter.unusedSectionVars false
namespace Go.Proofs.Ytnifconnkohabaa.wordNormalW
open Go Go.Ab
def te3 : TE := ⟨3, .int .i64, false, 1, 8, .int .i64 0, some (.int .i64)⟩
theorem te3_ok : TEok Try.prog te3 := ⟨TI.of Try.underlying3 rfl (by kernel_rfl), Try.underlying3, fun t h => by cases h; exact ⟨rfl, rfl, by decide, rfl⟩⟩
def te4 : TE := ⟨4, .bool, false, 1, 1, .bool false, some .bool⟩
theorem te4_ok : TEok Try.prog te4 := ⟨TI.of Try.underlying4 rfl (by kernel_rfl), Try.underlying4, fun t h => by cases h; exact ⟨rfl, rfl, by decide, rfl⟩⟩
def te22 : TE := ⟨22, .slice 3, false, 1, 24, .slice none 0 0, some (.list (.int .i64))⟩
theorem te22_ok : TEok Try.prog te22 := ⟨TI.of Try.underlying22 rfl (by kernel_rfl), Try.underlying22, fun t h => by cases h; exact ⟨rfl, rfl, by decide, rfl⟩⟩
def te24 : TE := ⟨24, .struct [(0, 22), (1, 22)] none, true, 2, 48, .agg ⟨[.slice none 0 0, .slice none 0 0]⟩, some (.pair (.list (.int .i64)) (.pair (.list (.int .i64)) .unit))⟩
theorem te24_ok : TEok Try.prog te24 := ⟨TI.of Try.underlying24 rfl (by kernel_rfl), ⟨⟨_, Try.underlying24, rfl⟩, fun t h => by cases h⟩, fun t h => by cases h; exact ⟨rfl, rfl, by decide, rfl⟩⟩
def te26 : TE := ⟨26, .int .i64, false, 1, 8, .int .i64 0, some (.int .i64)⟩
theorem te26_ok : TEok Try.prog te26 := ⟨TI.of Try.underlying26 rfl (by kernel_rfl), Try.underlying26, fun t h => by cases h; exact ⟨rfl, rfl, by decide, rfl⟩⟩
def te40 : TE := ⟨40, .array 2 22, true, 2, 48, .agg ⟨[.slice none 0 0, .slice none 0 0]⟩, some (.pair (.list (.int .i64)) (.pair (.list (.int .i64)) .unit))⟩
theorem te40_ok : TEok Try.prog te40 := ⟨TI.of Try.underlying40 rfl (by kernel_rfl), Try.underlying40, fun t h => by cases h; exact ⟨rfl, rfl, by decide, rfl⟩⟩
def TT : List TE := [te3, te4, te22, te24, te26, te40]
theorem TT_ok : TOK Try.prog TT := TOK.cons te3_ok (TOK.cons te4_ok (TOK.cons te22_ok (TOK.cons te24_ok (TOK.cons te26_ok (TOK.cons te40_ok (TOK.nil))))))

def law_list_sig : Shape := ⟨[(.list (.int .i64))], [(0, .v 0)], []⟩
def law_list_out : Shape := ⟨[(.list (.int .i64))], [(0, .own 0)], [(0, .arr 3 0)]⟩
noncomputable def law_list_ce : CE := ⟨12, law_list_sig, law_list_out, fun X => law_list X⟩
theorem law_list_ok : CE.ok Try.prog law_list_ce := CE.of (Γ := []) (by kernel_rfl) TT_ok (GOK.nil) ⟨[], [], [], []⟩ Try.func12 rfl Try.ntmps12 (rs := [.tmp 2]) rfl (sig := law_list_sig) (out := law_list_out) rfl Try.call12 (fun X => by kernel_rfl)

def law_lasso_sig : Shape := ⟨[(.pair (.list (.int .i64)) (.pair (.list (.int .i64)) .unit))], [(0, .v 0)], []⟩
def law_lasso_out : Shape := ⟨[(.pair (.list (.int .i64)) (.pair (.list (.int .i64)) .unit))], [(0, .v 0)], []⟩
noncomputable def law_lasso_ce : CE := ⟨4, law_lasso_sig, law_lasso_out, fun X => law_lasso X⟩
theorem law_lasso_ok : CE.ok Try.prog law_lasso_ce := CE.of (Γ := [law_list_ce]) (by kernel_rfl) TT_ok (GOK.cons law_list_ok (GOK.nil)) ⟨[], [], [], []⟩ Try.func4 rfl Try.ntmps4 (rs := [.cell 2 24]) rfl (sig := law_lasso_sig) (out := law_lasso_out) rfl Try.call4 (fun X => by kernel_rfl)

def word_May_sig : Shape := ⟨[(.int .i64), (.list (.int .i64))], [(0, .v 0), (1, .v 1)], []⟩
def word_May_out : Shape := ⟨[(.int .i64)], [(0, .v 0)], []⟩
noncomputable def word_May_ce : CE := ⟨20, word_May_sig, word_May_out, fun X => word_May X.1 X.2⟩
theorem word_May_ok : CE.ok Try.prog word_May_ce := CE.of (Γ := []) (by kernel_rfl) TT_ok (GOK.nil) ⟨[(6, ⟨⟨[(.int .i64)], [(18, .v 0)], []⟩, [4, 6, 19, 20, 21, 22, 23, 24, 25, 26, 27, 28, 29], [], [], 0, []⟩)], [], [], []⟩ Try.func20 rfl Try.ntmps20 (rs := [.tmp 4]) rfl (sig := word_May_sig) (out := word_May_out) rfl Try.call20 (fun X => by kernel_rfl)

def word_Lasso_sig : Shape := ⟨[(.int .i64), (.pair (.list (.int .i64)) (.pair (.list (.int .i64)) .unit))], [(0, .v 0), (1, .v 1)], []⟩
def word_Lasso_out : Shape := ⟨[(.int .i64)], [(0, .v 0)], []⟩
noncomputable def word_Lasso_ce : CE := ⟨13, word_Lasso_sig, word_Lasso_out, fun X => word_Lasso X.1 X.2⟩
theorem word_Lasso_ok : CE.ok Try.prog word_Lasso_ce := CE.of (Γ := [word_May_ce]) (by kernel_rfl) TT_ok (GOK.cons word_May_ok (GOK.nil)) ⟨[(2, ⟨⟨[(.int .i64)], [(13, .v 0)], []⟩, [4, 6, 7, 14, 15, 16, 17, 18, 19, 20, 21, 22], [], [0], 1, []⟩)], [], [], []⟩ Try.func13 rfl Try.ntmps13 (rs := [.tmp 4]) rfl (sig := word_Lasso_sig) (out := word_Lasso_out) rfl Try.call13 (fun X => by kernel_rfl)

def slices_Clone_sig : Shape := ⟨[(.list (.int .i64))], [(0, .v 0)], []⟩
def slices_Clone_out : Shape := ⟨[(.list (.int .i64))], [(0, .own 0)], [(0, .arr 3 0)]⟩
noncomputable def slices_Clone_ce : CE := ⟨15, slices_Clone_sig, slices_Clone_out, fun X => slices_Clone X⟩
theorem slices_Clone_ok : CE.ok Try.prog slices_Clone_ce := CE.of (Γ := []) (by kernel_rfl) TT_ok (GOK.nil) ⟨[], [], [], []⟩ Try.func15 rfl Try.ntmps15 (rs := [.tmp 2]) rfl (sig := slices_Clone_sig) (out := slices_Clone_out) rfl Try.call15 (fun X => by kernel_rfl)

def slices_Equal_sig : Shape := ⟨[(.list (.int .i64)), (.list (.int .i64))], [(0, .v 0), (1, .v 1)], []⟩
def slices_Equal_out : Shape := ⟨[.bool], [(0, .v 0)], []⟩
noncomputable def slices_Equal_ce : CE := ⟨24, slices_Equal_sig, slices_Equal_out, fun X => slices_Equal X.1 X.2⟩
theorem slices_Equal_ok : CE.ok Try.prog slices_Equal_ce := CE.of (Γ := []) (by kernel_rfl) TT_ok (GOK.nil) ⟨[(4, ⟨⟨[(.int .i64)], [(13, .v 0)], []⟩, [4, 5, 14, 15, 16, 17, 18, 19, 20, 21, 22, 23, 24, 25], [], [], 0, []⟩)], [], [(6, [(0, 0), (0, 1), (0, 2), (0, 3), (0, 4), (0, 5), (0, 6), (0, 7), (0, 8)])], []⟩ Try.func24 rfl Try.ntmps24 (rs := [.tmp 4]) rfl (sig := slices_Equal_sig) (out := slices_Equal_out) rfl Try.call24 (fun X => by kernel_rfl)

def word_period_sig : Shape := ⟨[(.list (.int .i64))], [(0, .v 0)], []⟩
def word_period_out : Shape := ⟨[(.list (.int .i64))], [(0, .v 0)], []⟩
noncomputable def word_period_ce : CE := ⟨21, word_period_sig, word_period_out, fun X => word_period X⟩
theorem word_period_ok : CE.ok Try.prog word_period_ce := CE.of (Γ := [slices_Equal_ce]) (by kernel_rfl) TT_ok (GOK.cons slices_Equal_ok (GOK.nil)) ⟨[(2, ⟨⟨[(.int .i64)], [(6, .v 0)], []⟩, [2, 3, 7, 8, 9, 10, 11, 12, 13, 14, 15, 16, 17, 18, 19, 20, 21, 22, 23, 24, 25, 26, 27, 28, 29, 30, 31, 32, 33], [], [], 0, []⟩)], [(4, ⟨⟨[.bool], [(29, .v 0)], []⟩, [9, 10, 11, 12, 13, 14, 15, 16, 17, 18, 19, 20, 21, 22, 23, 24, 25, 26, 27, 28], [], [], 0, []⟩)], [(4, [(0, 0), (0, 1), (0, 2), (0, 3), (0, 4), (0, 5), (0, 6), (0, 7), (0, 8), (0, 9), (0, 10), (0, 11), (0, 12), (0, 13), (0, 14), (0, 15), (0, 16), (0, 17), (0, 18), (1, 19), (0, 20)])], []⟩ Try.func21 rfl Try.ntmps21 (rs := [.tmp 2]) rfl (sig := word_period_sig) (out := word_period_out) rfl Try.call21 (fun X => by kernel_rfl)

def word_at_sig : Shape := ⟨[(.pair (.list (.int .i64)) (.pair (.list (.int .i64)) .unit)), (.int .i64)], [(0, .v 0), (1, .v 1)], []⟩
def word_at_out : Shape := ⟨[(.int .i64)], [(0, .v 0)], []⟩
noncomputable def word_at_ce : CE := ⟨22, word_at_sig, word_at_out, fun X => word_at X.1 X.2⟩
theorem word_at_ok : CE.ok Try.prog word_at_ce := CE.of (Γ := []) (by kernel_rfl) TT_ok (GOK.nil) ⟨[], [], [(3, [(0, 0), (0, 1), (0, 2), (0, 3), (0, 4), (0, 5), (0, 6), (0, 7), (0, 8), (0, 9), (0, 10), (0, 11), (0, 12), (0, 13)])], []⟩ Try.func22 rfl Try.ntmps22 (rs := [.tmp 4]) rfl (sig := word_at_sig) (out := word_at_out) rfl Try.call22 (fun X => by kernel_rfl)

def word_normal_sig : Shape := ⟨[(.pair (.list (.int .i64)) (.pair (.list (.int .i64)) .unit))], [(0, .v 0)], []⟩
def word_normal_out : Shape := ⟨[(.list (.int .i64)), (.list (.int .i64))], [(0, .agg [.own 20, .own 21])], [(20, .arr 3 0), (21, .arr 3 1)]⟩
noncomputable def word_normal_ce : CE := ⟨14, word_normal_sig, word_normal_out, fun X => word_normal X⟩
theorem word_normal_ok : CE.ok Try.prog word_normal_ce := CE.of (Γ := [slices_Clone_ce, word_period_ce, word_at_ce]) (by kernel_rfl) TT_ok (GOK.cons slices_Clone_ok (GOK.cons word_period_ok (GOK.cons word_at_ok (GOK.nil)))) ⟨[(2, ⟨⟨[(.list (.int .i64)), (.list (.int .i64))], [(3, .own 2), (4, .own 3)], [(2, .arr 3 0), (3, .arr 3 1)]⟩, [7, 11, 12, 13, 14, 15, 16, 17, 18, 19, 20, 21, 22, 23, 24, 25, 26, 27, 28, 29, 30, 31, 32, 33, 34, 35, 36, 37, 38, 39, 40, 41, 42, 43, 44, 45], [], [0, 1], 4, []⟩)], [(4, ⟨⟨[(.list (.int .i64))], [(4, .own 3)], [(3, .arr 3 0)]⟩, [12, 16, 17, 20, 22, 23, 26, 30, 31, 35, 36, 37, 38, 39], [], [0, 1, 4], 5, []⟩)], [(1, [(0, 0), (0, 1), (0, 3), (0, 4), (1, 2), (1, 5), (1, 6), (0, 7), (0, 8)]), (2, [(0, 0), (0, 1), (0, 2), (0, 3), (0, 4), (0, 5), (0, 6), (0, 7), (0, 8), (0, 9), (0, 10), (0, 11), (0, 12), (0, 13), (0, 14), (0, 15), (0, 16), (0, 17)]), (3, [(0, 0), (0, 1), (0, 2), (0, 3), (1, 4), (0, 5)]), (4, [(0, 0), (0, 1), (0, 2), (1, 3), (2, 4)]), (6, [(0, 0), (0, 1), (1, 2), (2, 3)])], []⟩ Try.func14 rfl Try.ntmps14 (rs := [.cell 2 24]) rfl (sig := word_normal_sig) (out := word_normal_out) rfl Try.call14 (fun X => by kernel_rfl)

def word_Normal_sig : Shape := ⟨[(.pair (.list (.int .i64)) (.pair (.list (.int .i64)) .unit))], [(0, .v 0)], []⟩
def word_Normal_out : Shape := ⟨[(.list (.int .i64)), (.list (.int .i64)), (.int .i64)], [(0, .agg [.own 20, .own 21]), (1, .v 2)], [(20, .arr 3 0), (21, .arr 3 1)]⟩
noncomputable def word_Normal_ce : CE := ⟨5, word_Normal_sig, word_Normal_out, fun X => word_Normal X⟩
theorem word_Normal_ok : CE.ok Try.prog word_Normal_ce := CE.of (Γ := [word_Lasso_ce, word_normal_ce]) (by kernel_rfl) TT_ok (GOK.cons word_Lasso_ok (GOK.cons word_normal_ok (GOK.nil))) ⟨[], [], [], []⟩ Try.func5 rfl Try.ntmps5 (rs := [.cell 2 24, .tmp 3]) rfl (sig := word_Normal_sig) (out := word_Normal_out) rfl Try.call5 (fun X => by kernel_rfl)

def word_Rest_sig : Shape := ⟨[(.pair (.list (.int .i64)) (.pair (.list (.int .i64)) .unit)), (.int .i64)], [(0, .v 0), (1, .v 1)], []⟩
def word_Rest_out : Shape := ⟨[(.list (.int .i64)), (.list (.int .i64)), (.int .i64)], [(0, .agg [.own 20, .own 21]), (1, .v 2)], [(20, .arr 3 0), (21, .arr 3 1)]⟩
noncomputable def word_Rest_ce : CE := ⟨6, word_Rest_sig, word_Rest_out, fun X => word_Rest X.1 X.2⟩
theorem word_Rest_ok : CE.ok Try.prog word_Rest_ce := CE.of (Γ := [word_Lasso_ce, word_normal_ce, slices_Clone_ce]) (by kernel_rfl) TT_ok (GOK.cons word_Lasso_ok (GOK.cons word_normal_ok (GOK.cons slices_Clone_ok (GOK.nil)))) ⟨[], [], [(7, [(0, 0), (0, 1), (0, 2), (0, 3), (0, 4), (0, 5), (0, 6), (1, 7), (2, 8), (0, 9)]), (9, [(0, 0), (0, 1), (0, 2), (0, 3), (0, 5), (0, 6), (0, 7), (0, 8), (1, 4), (2, 9), (0, 10), (1, 11), (2, 12), (0, 13)])], []⟩ Try.func6 rfl Try.ntmps6 (rs := [.cell 4 24, .tmp 5]) rfl (sig := word_Rest_sig) (out := word_Rest_out) rfl Try.call6 (fun X => by kernel_rfl)

def r1_Words_sig : Shape := ⟨[(.list (.int .i64)), (.list (.int .i64))], [(0, .v 0), (1, .v 1)], []⟩
def r1_Words_out : Shape := ⟨[.bool], [(0, .v 0)], []⟩
noncomputable def r1_Words_ce : CE := ⟨16, r1_Words_sig, r1_Words_out, fun X => r1_Words X.1 X.2⟩
theorem r1_Words_ok : CE.ok Try.prog r1_Words_ce := CE.of (Γ := []) (by kernel_rfl) TT_ok (GOK.nil) ⟨[(4, ⟨⟨[(.int .i64)], [(5, .v 0)], []⟩, [4, 11, 12, 13, 14, 15, 16, 17, 18, 19, 20, 21, 22, 23, 24, 25], [], [], 0, []⟩)], [], [(6, [(0, 0), (0, 1), (0, 2), (0, 3), (0, 4), (0, 5), (0, 6), (0, 7), (0, 8)])], []⟩ Try.func16 rfl Try.ntmps16 (rs := [.tmp 4]) rfl (sig := r1_Words_sig) (out := r1_Words_out) rfl Try.call16 (fun X => by kernel_rfl)

def r1_Alike_sig : Shape := ⟨[(.pair (.list (.int .i64)) (.pair (.list (.int .i64)) .unit)), (.pair (.list (.int .i64)) (.pair (.list (.int .i64)) .unit))], [(0, .v 0), (1, .v 1)], []⟩
def r1_Alike_out : Shape := ⟨[.bool], [(0, .v 0)], []⟩
noncomputable def r1_Alike_ce : CE := ⟨7, r1_Alike_sig, r1_Alike_out, fun X => r1_Alike X.1 X.2⟩
theorem r1_Alike_ok : CE.ok Try.prog r1_Alike_ce := CE.of (Γ := [r1_Words_ce]) (by kernel_rfl) TT_ok (GOK.cons r1_Words_ok (GOK.nil)) ⟨[], [], [], []⟩ Try.func7 rfl Try.ntmps7 (rs := [.tmp 4]) rfl (sig := r1_Alike_sig) (out := r1_Alike_out) rfl Try.call7 (fun X => by kernel_rfl)

def r1_May_sig : Shape := ⟨[(.int .i64), (.list (.int .i64))], [(0, .v 0), (1, .v 1)], []⟩
def r1_May_out : Shape := ⟨[(.int .i64)], [(0, .v 0)], []⟩
noncomputable def r1_May_ce : CE := ⟨17, r1_May_sig, r1_May_out, fun X => r1_May X.1 X.2⟩
theorem r1_May_ok : CE.ok Try.prog r1_May_ce := CE.of (Γ := []) (by kernel_rfl) TT_ok (GOK.nil) ⟨[(6, ⟨⟨[(.int .i64)], [(5, .v 0)], []⟩, [4, 15, 16, 17, 18, 19, 20, 21, 22, 23, 24, 25, 26, 27, 28, 29, 30, 31, 32, 33], [], [], 0, []⟩)], [], [], []⟩ Try.func17 rfl Try.ntmps17 (rs := [.tmp 4]) rfl (sig := r1_May_sig) (out := r1_May_out) rfl Try.call17 (fun X => by kernel_rfl)

def r1_Lasso_sig : Shape := ⟨[(.int .i64), (.pair (.list (.int .i64)) (.pair (.list (.int .i64)) .unit))], [(0, .v 0), (1, .v 1)], []⟩
def r1_Lasso_out : Shape := ⟨[(.int .i64)], [(0, .v 0)], []⟩
noncomputable def r1_Lasso_ce : CE := ⟨8, r1_Lasso_sig, r1_Lasso_out, fun X => r1_Lasso X.1 X.2⟩
theorem r1_Lasso_ok : CE.ok Try.prog r1_Lasso_ce := CE.of (Γ := [r1_May_ce]) (by kernel_rfl) TT_ok (GOK.cons r1_May_ok (GOK.nil)) ⟨[], [], [], []⟩ Try.func8 rfl Try.ntmps8 (rs := [.tmp 4]) rfl (sig := r1_Lasso_sig) (out := r1_Lasso_out) rfl Try.call8 (fun X => by kernel_rfl)

def law_noLasso_sig : Shape := ⟨[(.pair (.list (.int .i64)) (.pair (.list (.int .i64)) .unit))], [(0, .v 0)], []⟩
def law_noLasso_out : Shape := ⟨[.bool], [(0, .v 0)], []⟩
noncomputable def law_noLasso_ce : CE := ⟨9, law_noLasso_sig, law_noLasso_out, fun X => law_noLasso X⟩
theorem law_noLasso_ok : CE.ok Try.prog law_noLasso_ce := CE.of (Γ := []) (by kernel_rfl) TT_ok (GOK.nil) ⟨[], [], [], []⟩ Try.func9 rfl Try.ntmps9 (rs := [.tmp 2]) rfl (sig := law_noLasso_sig) (out := law_noLasso_out) rfl Try.call9 (fun X => by kernel_rfl)

def r1_At_sig : Shape := ⟨[(.pair (.list (.int .i64)) (.pair (.list (.int .i64)) .unit)), (.int .i64)], [(0, .v 0), (1, .v 1)], []⟩
def r1_At_out : Shape := ⟨[(.int .i64)], [(0, .v 0)], []⟩
noncomputable def r1_At_ce : CE := ⟨23, r1_At_sig, r1_At_out, fun X => r1_At X.1 X.2⟩
theorem r1_At_ok : CE.ok Try.prog r1_At_ce := CE.of (Γ := []) (by kernel_rfl) TT_ok (GOK.nil) ⟨[], [], [(3, [(0, 0), (0, 1), (0, 2), (0, 3), (0, 4), (0, 5), (0, 6), (0, 7), (0, 8), (0, 9), (0, 10), (0, 11), (0, 12), (0, 13)])], []⟩ Try.func23 rfl Try.ntmps23 (rs := [.tmp 4]) rfl (sig := r1_At_sig) (out := r1_At_out) rfl Try.call23 (fun X => by kernel_rfl)

def r1_Part_sig : Shape := ⟨[(.pair (.list (.int .i64)) (.pair (.list (.int .i64)) .unit)), (.int .i64), (.int .i64), (.int .i64)], [(0, .v 0), (1, .v 1), (2, .v 2), (3, .v 3)], []⟩
def r1_Part_out : Shape := ⟨[(.pair (.list (.int .i64)) (.pair (.list (.int .i64)) .unit))], [(0, .v 0)], []⟩
noncomputable def r1_Part_ce : CE := ⟨18, r1_Part_sig, r1_Part_out, fun X => r1_Part X.1 X.2.1 X.2.2.1 X.2.2.2⟩
theorem r1_Part_ok : CE.ok Try.prog r1_Part_ce := CE.of (Γ := [r1_At_ce]) (by kernel_rfl) TT_ok (GOK.cons r1_At_ok (GOK.nil)) ⟨[(3, ⟨⟨[(.int .i64), (.list (.int .i64)), (.list (.int .i64))], [(9, .ptr 2 0), (10, .v 0)], [(2, .box 24 [.own 3, .own 4]), (3, .arr 3 1), (4, .arr 3 2)]⟩, [11, 12, 13, 14, 15, 16, 17, 18, 19, 20, 21, 22, 23, 24, 25, 26, 27, 28, 29, 30, 31, 32, 33, 34, 35, 36, 37, 38], [], [0, 1], 5, [(2, 0, some 3, (.int .i64)), (2, 1, some 3, (.int .i64))]⟩)], [], [], []⟩ Try.func18 rfl Try.ntmps18 (rs := [.cell 8 24]) rfl (sig := r1_Part_sig) (out := r1_Part_out) rfl Try.call18 (fun X => by kernel_rfl)

def r1_Same_sig : Shape := ⟨[(.pair (.list (.int .i64)) (.pair (.list (.int .i64)) .unit)), (.pair (.list (.int .i64)) (.pair (.list (.int .i64)) .unit))], [(0, .v 0), (1, .v 1)], []⟩
def r1_Same_out : Shape := ⟨[.bool], [(0, .v 0)], []⟩
noncomputable def r1_Same_ce : CE := ⟨19, r1_Same_sig, r1_Same_out, fun X => r1_Same X.1 X.2⟩
theorem r1_Same_ok : CE.ok Try.prog r1_Same_ce := CE.of (Γ := [r1_At_ce]) (by kernel_rfl) TT_ok (GOK.cons r1_At_ok (GOK.nil)) ⟨[(3, ⟨⟨[(.int .i64)], [(6, .v 0)], []⟩, [4, 7, 8, 24, 25, 26, 27, 28, 29, 30, 31, 32, 33, 34, 35, 36, 37], [], [0, 1], 2, []⟩)], [], [], []⟩ Try.func19 rfl Try.ntmps19 (rs := [.tmp 4]) rfl (sig := r1_Same_sig) (out := r1_Same_out) rfl Try.call19 (fun X => by kernel_rfl)

def r1_Least_sig : Shape := ⟨[(.pair (.list (.int .i64)) (.pair (.list (.int .i64)) .unit)), (.int .i64)], [(0, .v 0), (1, .v 1)], []⟩
def r1_Least_out : Shape := ⟨[(.pair (.list (.int .i64)) (.pair (.list (.int .i64)) .unit))], [(0, .v 0)], []⟩
noncomputable def r1_Least_ce : CE := ⟨10, r1_Least_sig, r1_Least_out, fun X => r1_Least X.1 X.2⟩
theorem r1_Least_ok : CE.ok Try.prog r1_Least_ce := CE.of (Γ := [r1_Part_ce, r1_Same_ce]) (by kernel_rfl) TT_ok (GOK.cons r1_Part_ok (GOK.cons r1_Same_ok (GOK.nil))) ⟨[(5, ⟨⟨[(.int .i64)], [(6, .v 0)], []⟩, [7, 8, 9, 37, 38, 39, 40, 41, 42, 43, 44, 45, 46, 47, 48, 49, 50, 51, 52, 53, 54, 55, 56, 57, 58, 59, 60], [], [0, 1, 2], 3, []⟩), (8, ⟨⟨[(.int .i64)], [(7, .v 0)], []⟩, [8, 9, 44, 45, 46, 47, 48, 49, 50, 51, 52, 53, 54, 55, 56, 57, 58, 59, 60], [], [0, 1, 2], 3, []⟩)], [(2, ⟨⟨[(.int .i64)], [(1, .v 0)], []⟩, [10, 11, 12, 13, 14, 15, 16, 17, 18, 19, 20, 21, 22, 23, 24, 25, 26, 27], [], [0, 1], 2, []⟩)], [(2, [(0, 0), (0, 1), (0, 2), (0, 3), (0, 4), (0, 5), (0, 6), (0, 7), (0, 8), (0, 9), (0, 10), (0, 11), (0, 12), (0, 13)])], []⟩ Try.func10 rfl Try.ntmps10 (rs := [.cell 4 24]) rfl (sig := r1_Least_sig) (out := r1_Least_out) rfl Try.call10 (fun X => by kernel_rfl)

def law_noLasso_1_sig : Shape := ⟨[(.list (.int .i64)), (.list (.int .i64))], [(0, .agg [.own 100000, .own 100001])], [(100000, .arr 3 0), (100001, .arr 3 1)]⟩
def law_noLasso_1_out : Shape := ⟨[.bool, (.list (.int .i64)), (.list (.int .i64))], [(0, .v 0)], [(100000, .arr 3 1), (100001, .arr 3 2)]⟩
noncomputable def law_noLasso_1_ce : CE := ⟨9, law_noLasso_1_sig, law_noLasso_1_out, fun X => law_noLasso_1 X.1 X.2⟩
theorem law_noLasso_1_ok : CE.ok Try.prog law_noLasso_1_ce := CE.of (Γ := []) (by kernel_rfl) TT_ok (GOK.nil) ⟨[], [], [], []⟩ Try.func9 rfl Try.ntmps9 (rs := [.tmp 2]) rfl (sig := law_noLasso_1_sig) (out := law_noLasso_1_out) rfl Try.call9 (fun X => by kernel_rfl)

def r1_Alike_1_sig : Shape := ⟨[(.pair (.list (.int .i64)) (.pair (.list (.int .i64)) .unit)), (.list (.int .i64)), (.list (.int .i64))], [(0, .agg [.own 100000, .own 100001]), (1, .v 0)], [(100000, .arr 3 1), (100001, .arr 3 2)]⟩
def r1_Alike_1_out : Shape := ⟨[.bool, (.list (.int .i64)), (.list (.int .i64))], [(0, .v 0)], [(100000, .arr 3 1), (100001, .arr 3 2)]⟩
noncomputable def r1_Alike_1_ce : CE := ⟨7, r1_Alike_1_sig, r1_Alike_1_out, fun X => r1_Alike_1 X.1 X.2.1 X.2.2⟩
theorem r1_Alike_1_ok : CE.ok Try.prog r1_Alike_1_ce := CE.of (Γ := [r1_Words_ce]) (by kernel_rfl) TT_ok (GOK.cons r1_Words_ok (GOK.nil)) ⟨[], [], [], []⟩ Try.func7 rfl Try.ntmps7 (rs := [.tmp 4]) rfl (sig := r1_Alike_1_sig) (out := r1_Alike_1_out) rfl Try.call7 (fun X => by kernel_rfl)

theorem law_spoil_2_nil (w : World) : Calls Try.prog 11 #[.slice none 0 0] w fun e w' => e = .returned (.tuple #[]) ∧ w' = w := by
  go_enter Try.func11, Try.ntmps11
  go_wp2
  go_loopw [2] (fun i wr => i = .int .i64 0 ∧ wr = w) (fun _ _ => 0)
  case atStart => exact ⟨rfl, rfl⟩
  case round =>
    obtain ⟨rfl, rfl⟩ := hrel
    go_wp2
    go_end0
    exact ⟨rfl, rfl⟩
theorem law_spoil_2_some (g off n cap : Nat) (cur : Array Value) (w : World) (hg : w.heap[g]? = some (.cells cur 3 (0, 0))) (h1 : n ≤ cap) (h2 : cap ≤ maxLen) (h3 : off + cap ≤ cur.size) :
    Calls Try.prog 11 #[.slice (some ⟨g, off, none⟩) n cap] w fun e w' => e = .returned (.tuple #[]) ∧ (w'.os = w.os ∧ w'.tape = w.tape ∧ w'.output = w.output ∧ w.heap.size ≤ w'.heap.size) ∧ ∀ b, b ≠ g → w'.heap[b]? = w.heap[b]? := by
  have hm : cap ≤ 9223372036854775807 := by unfold maxLen at h2; omega
  go_enter Try.func11, Try.ntmps11
  go_wp2
  go_loopw [2] (fun i wr => ∃ k : Nat, k ≤ cap ∧ i = .int .i64 k ∧ (∃ cur' : Array Value, wr.heap[g]? = some (.cells cur' 3 (0, 0)) ∧ cur'.size = cur.size) ∧ (wr.os = w.os ∧ wr.tape = w.tape ∧ wr.output = w.output ∧ wr.heap.size = w.heap.size) ∧ ∀ b, b ≠ g → wr.heap[b]? = w.heap[b]?) (fun i _ => match i with | .int .i64 m => cap - m.toNat | _ => 0)
  case atStart => exact ⟨0, by omega, rfl, ⟨cur, hg, rfl⟩, ⟨rfl, rfl, rfl, rfl⟩, fun _ _ => rfl⟩
  case round =>
    obtain ⟨k, hk, rfl, ⟨cur', hc, hs⟩, ho, hb⟩ := hrel
    by_cases hlt : k < cap
    · have hcell : wr.cell? ⟨g, off + k, none⟩ = some (cur'.getD (off + k) undef) := by
        rw [cell_of_row wr g (off + k) cur' 3 (0, 0) hc]
        have : off + k < cur'.size := by omega
        simp [this]
      have hfr : wr.frozen? ⟨g, off + k, none⟩ = false := by
        simp [World.frozen?, hc]
      have hkc : (k : Int) < (cap : Int) := by omega
      go_wp2
      refine ⟨⟨k + 1, by omega, by simp, ⟨cur'.set! (off + k) (.int .i64 77), ?_, by simp [hs]⟩, ⟨ho.1, ho.2.1, ho.2.2.1, ?_⟩, fun b hbg => (Go.RowKit.Below.heap_setCell wr ⟨g, off + k, none⟩ _ b hbg).trans (hb b hbg)⟩, ?_⟩
      · simp only [World.setCell, Array.getElem?_modify, hc]; simp
      · simp [World.setCell, ho.2.2.2]
      · show cap - ((k : Int) + 1).toNat < cap - (k : Int).toNat
        omega
    · have hkc : ¬ (k : Int) < (cap : Int) := by omega
      go_wp2
      go_end0
      exact ⟨rfl, ⟨ho.1, ho.2.1, ho.2.2.1, by omega⟩, hb⟩
def law_spoil_2_sig : Shape := ⟨[.list (.int .i64)], [(0, .own LIM)], [(LIM, .arr 3 0)]⟩
def law_spoil_2_out : Shape := ⟨[], [], []⟩
noncomputable def law_spoil_2_ce : CE := ⟨11, law_spoil_2_sig, law_spoil_2_out, fun X => law_spoil_2 X⟩
theorem law_spoil_2_ok : CE.ok Try.prog law_spoil_2_ce := ce_spoil Try.call11 law_spoil_2_nil law_spoil_2_some

def law_WordNormal_sig : Shape := ⟨[(.pair (.list (.int .i64)) (.pair (.list (.int .i64)) .unit)), (.int .i64)], [(0, .v 0), (1, .v 1)], []⟩
def law_WordNormal_out : Shape := ⟨[.bool], [(0, .v 0)], []⟩
noncomputable def law_WordNormal_ce : CE := ⟨3, law_WordNormal_sig, law_WordNormal_out, fun X => law_WordNormal X.1 X.2⟩
theorem law_WordNormal_ok : CE.ok Try.prog law_WordNormal_ce := CE.of (Γ := [law_spoil_2_ce, law_lasso_ce, word_Normal_ce, word_Rest_ce, r1_Alike_ce, r1_Lasso_ce, law_noLasso_1_ce, r1_Least_ce, r1_Alike_1_ce]) (by kernel_rfl) TT_ok (GOK.cons law_spoil_2_ok (GOK.cons law_lasso_ok (GOK.cons word_Normal_ok (GOK.cons word_Rest_ok (GOK.cons r1_Alike_ok (GOK.cons r1_Lasso_ok (GOK.cons law_noLasso_1_ok (GOK.cons r1_Least_ok (GOK.cons r1_Alike_1_ok (GOK.nil)))))))))) ⟨[], [], [(6, [(1, 0), (2, 1), (0, 2)]), (7, [(1, 0), (2, 1), (0, 2)]), (13, [(1, 0), (0, 1), (2, 2), (0, 3)]), (19, [(1, 0), (0, 1), (2, 2), (0, 3)])], []⟩ Try.func3 rfl Try.ntmps3 (rs := [.tmp 4]) rfl (sig := law_WordNormal_sig) (out := law_WordNormal_out) rfl Try.call3 (fun X => by kernel_rfl)

end Go.Proofs.Ytnifconnkohabaa.wordNormalW
