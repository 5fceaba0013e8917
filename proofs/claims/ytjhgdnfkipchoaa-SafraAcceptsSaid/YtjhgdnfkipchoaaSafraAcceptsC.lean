/- That the functions of 'SafraAccepts' compute so. -/
import Derived.Test.YtjhgdnfkipchoaaSafraAcceptsD
import Derived.Test.YtjhgdnfkipchoaaProg
import Derived.KernelRfl
set_option maxHeartbeats 1000000
set_option maxRecDepth 20000
set_option linter.unusedSimpArgs false
set_option linter.unusedVariables false
namespace Go.Proofs.Ytjhgdnfkipchoaa.safraAcceptsW
open Go Go.Ab
def te3 : TE := ⟨3, .int .i64, false, 1, 8, .int .i64 0, some (.int .i64)⟩
theorem te3_ok : TEok Try.prog te3 := ⟨TI.of Try.underlying3 rfl (by kernel_rfl), Try.underlying3, fun t h => by cases h; exact ⟨rfl, rfl, by decide, rfl⟩⟩
def te4 : TE := ⟨4, .bool, false, 1, 1, .bool false, some .bool⟩
theorem te4_ok : TEok Try.prog te4 := ⟨TI.of Try.underlying4 rfl (by kernel_rfl), Try.underlying4, fun t h => by cases h; exact ⟨rfl, rfl, by decide, rfl⟩⟩
def te22 : TE := ⟨22, .slice 23, false, 1, 24, .slice none 0 0, some (.list (.list (.int .i64)))⟩
theorem te22_ok : TEok Try.prog te22 := ⟨TI.of Try.underlying22 rfl (by kernel_rfl), Try.underlying22, fun t h => by cases h; exact ⟨rfl, rfl, by decide, rfl⟩⟩
def te23 : TE := ⟨23, .slice 3, false, 1, 24, .slice none 0 0, some (.list (.int .i64))⟩
theorem te23_ok : TEok Try.prog te23 := ⟨TI.of Try.underlying23 rfl (by kernel_rfl), Try.underlying23, fun t h => by cases h; exact ⟨rfl, rfl, by decide, rfl⟩⟩
def te25 : TE := ⟨25, .struct [(0, 3), (1, 3), (2, 22), (3, 23)], true, 4, 64, .agg ⟨[.int .i64 0, .int .i64 0, .slice none 0 0, .slice none 0 0]⟩, some (.pair (.int .i64) (.pair (.int .i64) (.pair (.list (.list (.int .i64))) (.pair (.list (.int .i64)) .unit))))⟩
theorem te25_ok : TEok Try.prog te25 := ⟨TI.of Try.underlying25 rfl (by kernel_rfl), ⟨_, Try.underlying25, rfl⟩, fun t h => by cases h; exact ⟨rfl, rfl, by decide, rfl⟩⟩
def te26 : TE := ⟨26, .int .i64, false, 1, 8, .int .i64 0, some (.int .i64)⟩
theorem te26_ok : TEok Try.prog te26 := ⟨TI.of Try.underlying26 rfl (by kernel_rfl), Try.underlying26, fun t h => by cases h; exact ⟨rfl, rfl, by decide, rfl⟩⟩
def te43 : TE := ⟨43, .struct [(0, 23), (1, 23)], true, 2, 48, .agg ⟨[.slice none 0 0, .slice none 0 0]⟩, some (.pair (.list (.int .i64)) (.pair (.list (.int .i64)) .unit))⟩
theorem te43_ok : TEok Try.prog te43 := ⟨TI.of Try.underlying43 rfl (by kernel_rfl), ⟨_, Try.underlying43, rfl⟩, fun t h => by cases h; exact ⟨rfl, rfl, by decide, rfl⟩⟩
def te112 : TE := ⟨112, .other, false, 1, 8, .nilFunc, none⟩
theorem te112_ok : TEok Try.prog te112 := ⟨TI.of Try.underlying112 rfl (by kernel_rfl), trivial, fun t h => by cases h⟩
def te116 : TE := ⟨116, .array 2 23, true, 2, 48, .agg ⟨[.slice none 0 0, .slice none 0 0]⟩, some (.pair (.list (.int .i64)) (.pair (.list (.int .i64)) .unit))⟩
theorem te116_ok : TEok Try.prog te116 := ⟨TI.of Try.underlying116 rfl (by kernel_rfl), Try.underlying116, fun t h => by cases h; exact ⟨rfl, rfl, by decide, rfl⟩⟩
def TT : List TE := [te3, te4, te22, te23, te25, te26, te43, te112, te116]
theorem TT_ok : TOK Try.prog TT := TOK.cons te3_ok (TOK.cons te4_ok (TOK.cons te22_ok (TOK.cons te23_ok (TOK.cons te25_ok (TOK.cons te26_ok (TOK.cons te43_ok (TOK.cons te112_ok (TOK.cons te116_ok (TOK.nil)))))))))

def safra_Check_1_sig : Shape := ⟨[(.list (.int .i64)), (.pair (.int .i64) (.pair (.int .i64) (.pair (.list (.list (.int .i64))) (.pair (.list (.int .i64)) .unit))))], [(0, .v 0), (1, .addr 1)], []⟩
def safra_Check_1_out : Shape := ⟨[.bool], [(0, .v 0)], []⟩
noncomputable def safra_Check_1_ce : CE := ⟨75, safra_Check_1_sig, safra_Check_1_out, fun X => safra_Check_1 X.1 X.2⟩
theorem safra_Check_1_ok : CE.ok Try.prog safra_Check_1_ce := CE.of (Γ := []) (by kernel_rfl) TT_ok (GOK.nil) ⟨[], [], [], []⟩ Try.func75 rfl Try.ntmps75 (rs := [.tmp 3]) rfl (sig := safra_Check_1_sig) (out := safra_Check_1_out) rfl Try.call75 (fun X => by kernel_rfl)

def slices_IndexFunc_sig : Shape := ⟨[(.list (.list (.int .i64))), (.pair (.int .i64) (.pair (.int .i64) (.pair (.list (.list (.int .i64))) (.pair (.list (.int .i64)) .unit))))], [(0, .v 0), (1, .fn 75 [.addr 1])], []⟩
def slices_IndexFunc_out : Shape := ⟨[(.int .i64)], [(0, .v 0)], []⟩
noncomputable def slices_IndexFunc_ce : CE := ⟨131, slices_IndexFunc_sig, slices_IndexFunc_out, fun X => slices_IndexFunc X.1 X.2⟩
theorem slices_IndexFunc_ok : CE.ok Try.prog slices_IndexFunc_ce := CE.of (Γ := [safra_Check_1_ce]) (by kernel_rfl) TT_ok (GOK.cons safra_Check_1_ok (GOK.nil)) ⟨[(2, ⟨⟨[(.int .i64)], [(8, .v 0)], []⟩, [4, 5, 9, 10, 11, 12, 13, 14, 15, 16, 17, 18], [], [], 0, []⟩)], [], [], []⟩ Try.func131 rfl Try.ntmps131 (rs := [.tmp 4]) rfl (sig := slices_IndexFunc_sig) (out := slices_IndexFunc_out) rfl Try.call131 (fun X => by kernel_rfl)

def slices_ContainsFunc_sig : Shape := ⟨[(.list (.list (.int .i64))), (.pair (.int .i64) (.pair (.int .i64) (.pair (.list (.list (.int .i64))) (.pair (.list (.int .i64)) .unit))))], [(0, .v 0), (1, .fn 75 [.addr 1])], []⟩
def slices_ContainsFunc_out : Shape := ⟨[.bool], [(0, .v 0)], []⟩
noncomputable def slices_ContainsFunc_ce : CE := ⟨69, slices_ContainsFunc_sig, slices_ContainsFunc_out, fun X => slices_ContainsFunc X.1 X.2⟩
theorem slices_ContainsFunc_ok : CE.ok Try.prog slices_ContainsFunc_ce := CE.of (Γ := [slices_IndexFunc_ce]) (by kernel_rfl) TT_ok (GOK.cons slices_IndexFunc_ok (GOK.nil)) ⟨[], [], [], []⟩ Try.func69 rfl Try.ntmps69 (rs := [.tmp 4]) rfl (sig := slices_ContainsFunc_sig) (out := slices_ContainsFunc_out) rfl Try.call69 (fun X => by kernel_rfl)

def safra_Check_2_sig : Shape := ⟨[(.int .i64), (.int .i64)], [(0, .v 0), (1, .addr 1)], []⟩
def safra_Check_2_out : Shape := ⟨[.bool], [(0, .v 0)], []⟩
noncomputable def safra_Check_2_ce : CE := ⟨76, safra_Check_2_sig, safra_Check_2_out, fun X => safra_Check_2 X.1 X.2⟩
theorem safra_Check_2_ok : CE.ok Try.prog safra_Check_2_ce := CE.of (Γ := []) (by kernel_rfl) TT_ok (GOK.nil) ⟨[], [], [], []⟩ Try.func76 rfl Try.ntmps76 (rs := [.tmp 3]) rfl (sig := safra_Check_2_sig) (out := safra_Check_2_out) rfl Try.call76 (fun X => by kernel_rfl)

def slices_IndexFunc_2_sig : Shape := ⟨[(.list (.int .i64)), (.int .i64)], [(0, .v 0), (1, .fn 76 [.addr 1])], []⟩
def slices_IndexFunc_2_out : Shape := ⟨[(.int .i64)], [(0, .v 0)], []⟩
noncomputable def slices_IndexFunc_2_ce : CE := ⟨132, slices_IndexFunc_2_sig, slices_IndexFunc_2_out, fun X => slices_IndexFunc_2 X.1 X.2⟩
theorem slices_IndexFunc_2_ok : CE.ok Try.prog slices_IndexFunc_2_ce := CE.of (Γ := [safra_Check_2_ce]) (by kernel_rfl) TT_ok (GOK.cons safra_Check_2_ok (GOK.nil)) ⟨[(2, ⟨⟨[(.int .i64)], [(8, .v 0)], []⟩, [4, 5, 9, 10, 11, 12, 13, 14, 15, 16, 17, 18], [], [], 0, []⟩)], [], [], []⟩ Try.func132 rfl Try.ntmps132 (rs := [.tmp 4]) rfl (sig := slices_IndexFunc_2_sig) (out := slices_IndexFunc_2_out) rfl Try.call132 (fun X => by kernel_rfl)

def slices_ContainsFunc_2_sig : Shape := ⟨[(.list (.int .i64)), (.int .i64)], [(0, .v 0), (1, .fn 76 [.addr 1])], []⟩
def slices_ContainsFunc_2_out : Shape := ⟨[.bool], [(0, .v 0)], []⟩
noncomputable def slices_ContainsFunc_2_ce : CE := ⟨71, slices_ContainsFunc_2_sig, slices_ContainsFunc_2_out, fun X => slices_ContainsFunc_2 X.1 X.2⟩
theorem slices_ContainsFunc_2_ok : CE.ok Try.prog slices_ContainsFunc_2_ce := CE.of (Γ := [slices_IndexFunc_2_ce]) (by kernel_rfl) TT_ok (GOK.cons slices_IndexFunc_2_ok (GOK.nil)) ⟨[], [], [], []⟩ Try.func71 rfl Try.ntmps71 (rs := [.tmp 4]) rfl (sig := slices_ContainsFunc_2_sig) (out := slices_ContainsFunc_2_out) rfl Try.call71 (fun X => by kernel_rfl)

def safra_Check_3_sig : Shape := ⟨[(.list (.int .i64)), (.int .i64)], [(0, .v 0), (1, .ptr 100000 0)], [(100000, .box 112 [.fn 76 [.addr 1]])]⟩
def safra_Check_3_out : Shape := ⟨[.bool, (.int .i64)], [(0, .v 0)], [(100000, .box 112 [.fn 76 [.addr 1]])]⟩
noncomputable def safra_Check_3_ce : CE := ⟨77, safra_Check_3_sig, safra_Check_3_out, fun X => safra_Check_3 X.1 X.2⟩
theorem safra_Check_3_ok : CE.ok Try.prog safra_Check_3_ce := CE.of (Γ := [slices_ContainsFunc_2_ce]) (by kernel_rfl) TT_ok (GOK.cons slices_ContainsFunc_2_ok (GOK.nil)) ⟨[], [], [], []⟩ Try.func77 rfl Try.ntmps77 (rs := [.tmp 3]) rfl (sig := safra_Check_3_sig) (out := safra_Check_3_out) rfl Try.call77 (fun X => by kernel_rfl)

def slices_IndexFunc_1_sig : Shape := ⟨[(.list (.list (.int .i64))), (.int .i64)], [(0, .v 0), (1, .fn 77 [.ptr 100000 0])], [(100000, .box 112 [.fn 76 [.addr 1]])]⟩
def slices_IndexFunc_1_out : Shape := ⟨[(.int .i64), (.int .i64)], [(0, .v 0)], [(100000, .box 112 [.fn 76 [.addr 1]])]⟩
noncomputable def slices_IndexFunc_1_ce : CE := ⟨131, slices_IndexFunc_1_sig, slices_IndexFunc_1_out, fun X => slices_IndexFunc_1 X.1 X.2⟩
theorem slices_IndexFunc_1_ok : CE.ok Try.prog slices_IndexFunc_1_ce := CE.of (Γ := [safra_Check_3_ce]) (by kernel_rfl) TT_ok (GOK.cons safra_Check_3_ok (GOK.nil)) ⟨[(2, ⟨⟨[(.int .i64), (.int .i64)], [(1, .fn 77 [.ptr 100000 0]), (8, .v 0)], [(100000, .box 112 [.fn 76 [.addr 1]])]⟩, [4, 5, 9, 10, 11, 12, 13, 14, 15, 16, 17, 18], [], [], 0, []⟩)], [], [], []⟩ Try.func131 rfl Try.ntmps131 (rs := [.tmp 4]) rfl (sig := slices_IndexFunc_1_sig) (out := slices_IndexFunc_1_out) rfl Try.call131 (fun X => by kernel_rfl)

def slices_ContainsFunc_1_sig : Shape := ⟨[(.list (.list (.int .i64))), (.int .i64)], [(0, .v 0), (1, .fn 77 [.ptr 100000 0])], [(100000, .box 112 [.fn 76 [.addr 1]])]⟩
def slices_ContainsFunc_1_out : Shape := ⟨[.bool, (.int .i64)], [(0, .v 0)], [(100000, .box 112 [.fn 76 [.addr 1]])]⟩
noncomputable def slices_ContainsFunc_1_ce : CE := ⟨69, slices_ContainsFunc_1_sig, slices_ContainsFunc_1_out, fun X => slices_ContainsFunc_1 X.1 X.2⟩
theorem slices_ContainsFunc_1_ok : CE.ok Try.prog slices_ContainsFunc_1_ce := CE.of (Γ := [slices_IndexFunc_1_ce]) (by kernel_rfl) TT_ok (GOK.cons slices_IndexFunc_1_ok (GOK.nil)) ⟨[], [], [], []⟩ Try.func69 rfl Try.ntmps69 (rs := [.tmp 4]) rfl (sig := slices_ContainsFunc_1_sig) (out := slices_ContainsFunc_1_out) rfl Try.call69 (fun X => by kernel_rfl)

def safra_Check_4_sig : Shape := ⟨[(.int .i64)], [(0, .v 0)], []⟩
def safra_Check_4_out : Shape := ⟨[.bool], [(0, .v 0)], []⟩
noncomputable def safra_Check_4_ce : CE := ⟨78, safra_Check_4_sig, safra_Check_4_out, fun X => safra_Check_4 X⟩
theorem safra_Check_4_ok : CE.ok Try.prog safra_Check_4_ce := CE.of (Γ := []) (by kernel_rfl) TT_ok (GOK.nil) ⟨[], [], [], []⟩ Try.func78 rfl Try.ntmps78 (rs := [.tmp 2]) rfl (sig := safra_Check_4_sig) (out := safra_Check_4_out) rfl Try.call78 (fun X => by kernel_rfl)

def slices_IndexFunc_3_sig : Shape := ⟨[(.list (.int .i64))], [(0, .v 0), (1, .fn 78 [])], []⟩
def slices_IndexFunc_3_out : Shape := ⟨[(.int .i64)], [(0, .v 0)], []⟩
noncomputable def slices_IndexFunc_3_ce : CE := ⟨132, slices_IndexFunc_3_sig, slices_IndexFunc_3_out, fun X => slices_IndexFunc_3 X⟩
theorem slices_IndexFunc_3_ok : CE.ok Try.prog slices_IndexFunc_3_ce := CE.of (Γ := [safra_Check_4_ce]) (by kernel_rfl) TT_ok (GOK.cons safra_Check_4_ok (GOK.nil)) ⟨[(2, ⟨⟨[(.int .i64)], [(8, .v 0)], []⟩, [4, 5, 9, 10, 11, 12, 13, 14, 15, 16, 17, 18], [], [], 0, []⟩)], [], [], []⟩ Try.func132 rfl Try.ntmps132 (rs := [.tmp 4]) rfl (sig := slices_IndexFunc_3_sig) (out := slices_IndexFunc_3_out) rfl Try.call132 (fun X => by kernel_rfl)

def slices_ContainsFunc_3_sig : Shape := ⟨[(.list (.int .i64))], [(0, .v 0), (1, .fn 78 [])], []⟩
def slices_ContainsFunc_3_out : Shape := ⟨[.bool], [(0, .v 0)], []⟩
noncomputable def slices_ContainsFunc_3_ce : CE := ⟨71, slices_ContainsFunc_3_sig, slices_ContainsFunc_3_out, fun X => slices_ContainsFunc_3 X⟩
theorem slices_ContainsFunc_3_ok : CE.ok Try.prog slices_ContainsFunc_3_ce := CE.of (Γ := [slices_IndexFunc_3_ce]) (by kernel_rfl) TT_ok (GOK.cons slices_IndexFunc_3_ok (GOK.nil)) ⟨[], [], [], []⟩ Try.func71 rfl Try.ntmps71 (rs := [.tmp 4]) rfl (sig := slices_ContainsFunc_3_sig) (out := slices_ContainsFunc_3_out) rfl Try.call71 (fun X => by kernel_rfl)

def safra_Check_sig : Shape := ⟨[(.pair (.int .i64) (.pair (.int .i64) (.pair (.list (.list (.int .i64))) (.pair (.list (.int .i64)) .unit))))], [(0, .v 0)], []⟩
def safra_Check_out : Shape := ⟨[(.int .i64)], [(0, .v 0)], []⟩
noncomputable def safra_Check_ce : CE := ⟨23, safra_Check_sig, safra_Check_out, fun X => safra_Check X⟩
theorem safra_Check_ok : CE.ok Try.prog safra_Check_ce := CE.of (Γ := [slices_ContainsFunc_ce, safra_Check_2_ce, slices_ContainsFunc_1_ce, slices_ContainsFunc_3_ce]) (by kernel_rfl) TT_ok (GOK.cons slices_ContainsFunc_ok (GOK.cons safra_Check_2_ok (GOK.cons slices_ContainsFunc_1_ok (GOK.cons slices_ContainsFunc_3_ok (GOK.nil))))) ⟨[], [], [], []⟩ Try.func23 rfl Try.ntmps23 (rs := [.tmp 2]) rfl (sig := safra_Check_sig) (out := safra_Check_out) rfl Try.call23 (fun X => by kernel_rfl)

def r9_Check_sig : Shape := ⟨[(.pair (.int .i64) (.pair (.int .i64) (.pair (.list (.list (.int .i64))) (.pair (.list (.int .i64)) .unit))))], [(0, .v 0)], []⟩
def r9_Check_out : Shape := ⟨[(.int .i64)], [(0, .v 0)], []⟩
noncomputable def r9_Check_ce : CE := ⟨24, r9_Check_sig, r9_Check_out, fun X => r9_Check X⟩
theorem r9_Check_ok : CE.ok Try.prog r9_Check_ce := CE.of (Γ := []) (by kernel_rfl) TT_ok (GOK.nil) ⟨[(9, ⟨⟨[(.int .i64)], [(4, .v 0)], []⟩, [2, 30, 31, 32, 33, 34, 35, 36, 37, 38, 39, 40, 41, 42, 43], [], [0], 1, []⟩), (16, ⟨⟨[(.int .i64)], [(5, .v 0)], []⟩, [2, 6, 53, 54, 55, 56, 57, 58, 59, 60, 61, 62, 63, 64, 65, 66, 67, 68, 69, 70, 71, 72, 73, 74, 75, 76, 77, 78, 79, 80, 81, 82, 83, 84], [], [0], 1, []⟩), (19, ⟨⟨[(.int .i64)], [(6, .v 0)], []⟩, [2, 58, 59, 60, 61, 62, 63, 64, 65, 66, 67, 68, 69, 70, 71, 72, 73, 74, 75, 76, 77, 78, 79, 80, 81, 82, 83, 84], [], [0], 1, []⟩), (24, ⟨⟨[(.int .i64)], [(7, .v 0)], []⟩, [2, 85, 86, 87, 88, 89, 90, 91, 92, 93, 94, 95, 96, 97, 98, 99, 100, 101, 102, 103], [], [0], 1, []⟩)], [], [(11, [(0, 0), (0, 1), (0, 2), (0, 3), (0, 4), (0, 5), (0, 6), (0, 7), (0, 8)])], []⟩ Try.func24 rfl Try.ntmps24 (rs := [.tmp 2]) rfl (sig := r9_Check_sig) (out := r9_Check_out) rfl Try.call24 (fun X => by kernel_rfl)

def word_May_sig : Shape := ⟨[(.int .i64), (.list (.int .i64))], [(0, .v 0), (1, .v 1)], []⟩
def word_May_out : Shape := ⟨[(.int .i64)], [(0, .v 0)], []⟩
noncomputable def word_May_ce : CE := ⟨28, word_May_sig, word_May_out, fun X => word_May X.1 X.2⟩
theorem word_May_ok : CE.ok Try.prog word_May_ce := CE.of (Γ := []) (by kernel_rfl) TT_ok (GOK.nil) ⟨[(6, ⟨⟨[(.int .i64)], [(18, .v 0)], []⟩, [4, 6, 19, 20, 21, 22, 23, 24, 25, 26, 27, 28, 29], [], [], 0, []⟩)], [], [], []⟩ Try.func28 rfl Try.ntmps28 (rs := [.tmp 4]) rfl (sig := word_May_sig) (out := word_May_out) rfl Try.call28 (fun X => by kernel_rfl)

def word_Lasso_sig : Shape := ⟨[(.int .i64), (.pair (.list (.int .i64)) (.pair (.list (.int .i64)) .unit))], [(0, .v 0), (1, .v 1)], []⟩
def word_Lasso_out : Shape := ⟨[(.int .i64)], [(0, .v 0)], []⟩
noncomputable def word_Lasso_ce : CE := ⟨29, word_Lasso_sig, word_Lasso_out, fun X => word_Lasso X.1 X.2⟩
theorem word_Lasso_ok : CE.ok Try.prog word_Lasso_ce := CE.of (Γ := [word_May_ce]) (by kernel_rfl) TT_ok (GOK.cons word_May_ok (GOK.nil)) ⟨[(2, ⟨⟨[(.int .i64)], [(13, .v 0)], []⟩, [4, 6, 7, 14, 15, 16, 17, 18, 19, 20, 21, 22], [], [0], 1, []⟩)], [], [], []⟩ Try.func29 rfl Try.ntmps29 (rs := [.tmp 4]) rfl (sig := word_Lasso_sig) (out := word_Lasso_out) rfl Try.call29 (fun X => by kernel_rfl)

def det_After_sig : Shape := ⟨[(.pair (.int .i64) (.pair (.int .i64) (.pair (.list (.list (.int .i64))) (.pair (.list (.int .i64)) .unit)))), (.int .i64), (.list (.int .i64))], [(0, .v 0), (1, .v 1), (2, .v 2)], []⟩
def det_After_out : Shape := ⟨[(.int .i64)], [(0, .v 0)], []⟩
noncomputable def det_After_ce : CE := ⟨79, det_After_sig, det_After_out, fun X => det_After X.1 X.2.1 X.2.2⟩
theorem det_After_ok : CE.ok Try.prog det_After_ce := CE.of (Γ := []) (by kernel_rfl) TT_ok (GOK.nil) ⟨[(2, ⟨⟨[(.int .i64), (.int .i64)], [(1, .v 0), (11, .v 1)], []⟩, [8, 12, 13, 14, 15, 16, 17, 18, 19, 20, 21, 22, 23], [], [0], 1, []⟩)], [], [], []⟩ Try.func79 rfl Try.ntmps79 (rs := [.tmp 6]) rfl (sig := det_After_sig) (out := det_After_out) rfl Try.call79 (fun X => by kernel_rfl)

def safra_Accepts_sig : Shape := ⟨[(.pair (.int .i64) (.pair (.int .i64) (.pair (.list (.list (.int .i64))) (.pair (.list (.int .i64)) .unit)))), (.pair (.list (.int .i64)) (.pair (.list (.int .i64)) .unit))], [(0, .v 0), (1, .v 1)], []⟩
def safra_Accepts_out : Shape := ⟨[.bool, (.int .i64)], [(0, .v 0), (1, .v 1)], []⟩
noncomputable def safra_Accepts_ce : CE := ⟨25, safra_Accepts_sig, safra_Accepts_out, fun X => safra_Accepts X.1 X.2⟩
theorem safra_Accepts_ok : CE.ok Try.prog safra_Accepts_ce := CE.of (Γ := [safra_Check_ce, word_Lasso_ce, det_After_ce]) (by kernel_rfl) TT_ok (GOK.cons safra_Check_ok (GOK.cons word_Lasso_ok (GOK.cons det_After_ok (GOK.nil)))) ⟨[(9, ⟨⟨[(.int .i64), (.int .i64)], [(8, .v 0), (34, .v 1)], []⟩, [35, 36, 37, 38, 39, 40, 41], [], [0, 1], 2, []⟩), (13, ⟨⟨[(.int .i64), (.int .i64)], [(8, .v 0), (9, .v 1)], []⟩, [4, 5, 12, 43, 44, 45, 46, 47, 48, 49, 50, 51, 52, 53, 54, 55, 56, 57, 58, 59, 60, 61, 62, 63, 64, 65, 66, 67, 68, 69, 70, 71], [], [0, 1], 2, []⟩), (14, ⟨⟨[(.int .i64), (.int .i64), (.int .i64)], [(8, .v 0), (9, .v 1), (46, .v 2)], []⟩, [12, 47, 48, 49, 50, 51, 52, 53, 54, 55, 56, 57, 58, 59, 60, 61, 62, 63, 64, 65], [], [0, 1], 2, []⟩)], [], [], []⟩ Try.func25 rfl Try.ntmps25 (rs := [.tmp 4, .tmp 5]) rfl (sig := safra_Accepts_sig) (out := safra_Accepts_out) rfl Try.call25 (fun X => by kernel_rfl)

def r1_May_sig : Shape := ⟨[(.int .i64), (.list (.int .i64))], [(0, .v 0), (1, .v 1)], []⟩
def r1_May_out : Shape := ⟨[(.int .i64)], [(0, .v 0)], []⟩
noncomputable def r1_May_ce : CE := ⟨21, r1_May_sig, r1_May_out, fun X => r1_May X.1 X.2⟩
theorem r1_May_ok : CE.ok Try.prog r1_May_ce := CE.of (Γ := []) (by kernel_rfl) TT_ok (GOK.nil) ⟨[(6, ⟨⟨[(.int .i64)], [(5, .v 0)], []⟩, [4, 15, 16, 17, 18, 19, 20, 21, 22, 23, 24, 25, 26, 27, 28, 29, 30, 31, 32, 33], [], [], 0, []⟩)], [], [], []⟩ Try.func21 rfl Try.ntmps21 (rs := [.tmp 4]) rfl (sig := r1_May_sig) (out := r1_May_out) rfl Try.call21 (fun X => by kernel_rfl)

def r1_Lasso_sig : Shape := ⟨[(.int .i64), (.pair (.list (.int .i64)) (.pair (.list (.int .i64)) .unit))], [(0, .v 0), (1, .v 1)], []⟩
def r1_Lasso_out : Shape := ⟨[(.int .i64)], [(0, .v 0)], []⟩
noncomputable def r1_Lasso_ce : CE := ⟨26, r1_Lasso_sig, r1_Lasso_out, fun X => r1_Lasso X.1 X.2⟩
theorem r1_Lasso_ok : CE.ok Try.prog r1_Lasso_ce := CE.of (Γ := [r1_May_ce]) (by kernel_rfl) TT_ok (GOK.cons r1_May_ok (GOK.nil)) ⟨[], [], [], []⟩ Try.func26 rfl Try.ntmps26 (rs := [.tmp 4]) rfl (sig := r1_Lasso_sig) (out := r1_Lasso_out) rfl Try.call26 (fun X => by kernel_rfl)

def r3_After_sig : Shape := ⟨[(.pair (.int .i64) (.pair (.int .i64) (.pair (.list (.list (.int .i64))) (.pair (.list (.int .i64)) .unit)))), (.int .i64), (.list (.int .i64))], [(0, .v 0), (1, .v 1), (2, .v 2)], []⟩
def r3_After_out : Shape := ⟨[(.int .i64)], [(0, .v 0)], []⟩
noncomputable def r3_After_ce : CE := ⟨80, r3_After_sig, r3_After_out, fun X => r3_After X.1 X.2.1 X.2.2⟩
theorem r3_After_ok : CE.ok Try.prog r3_After_ce := CE.of (Γ := []) (by kernel_rfl) TT_ok (GOK.nil) ⟨[(2, ⟨⟨[(.int .i64), (.int .i64)], [(1, .v 0), (7, .v 1)], []⟩, [8, 9, 10, 11, 12, 13, 14, 15, 16, 17, 18, 19, 20, 21, 22, 23, 24], [], [0], 1, []⟩)], [], [(4, [(0, 0), (0, 1), (0, 2), (0, 3), (0, 4), (0, 5), (0, 6), (0, 7), (0, 8), (0, 9), (0, 10), (0, 11)])], []⟩ Try.func80 rfl Try.ntmps80 (rs := [.tmp 6]) rfl (sig := r3_After_sig) (out := r3_After_out) rfl Try.call80 (fun X => by kernel_rfl)

def r9_Accepts_sig : Shape := ⟨[(.pair (.int .i64) (.pair (.int .i64) (.pair (.list (.list (.int .i64))) (.pair (.list (.int .i64)) .unit)))), (.pair (.list (.int .i64)) (.pair (.list (.int .i64)) .unit))], [(0, .v 0), (1, .v 1)], []⟩
def r9_Accepts_out : Shape := ⟨[.bool], [(0, .v 0)], []⟩
noncomputable def r9_Accepts_ce : CE := ⟨27, r9_Accepts_sig, r9_Accepts_out, fun X => r9_Accepts X.1 X.2⟩
theorem r9_Accepts_ok : CE.ok Try.prog r9_Accepts_ce := CE.of (Γ := [r3_After_ce]) (by kernel_rfl) TT_ok (GOK.cons r3_After_ok (GOK.nil)) ⟨[(3, ⟨⟨[(.int .i64), (.int .i64)], [(5, .v 0), (6, .v 1)], []⟩, [16, 17, 18, 19, 20, 21, 22, 23, 24, 25, 26, 27], [], [0, 1], 2, []⟩), (8, ⟨⟨[(.int .i64), (.int .i64), (.int .i64)], [(5, .v 0), (7, .v 1), (8, .v 2)], []⟩, [9, 28, 29, 30, 31, 32, 33, 34, 35, 36, 37, 38, 39, 40, 41, 42, 43, 44, 45, 46, 47, 48, 49, 50, 51, 52, 53, 54, 55, 56, 57, 58, 59, 60, 61, 62, 63, 64, 65], [], [0, 1], 2, []⟩), (11, ⟨⟨[(.int .i64), (.int .i64), (.int .i64)], [(5, .v 0), (7, .v 1), (9, .v 2)], []⟩, [35, 36, 37, 38, 39, 40, 41, 42, 43, 44, 45, 46, 47, 48, 49, 50, 51, 52, 53, 54, 55, 56, 57, 58, 59, 60, 61, 62, 63, 64, 65], [], [0, 1], 2, []⟩)], [], [(13, [(0, 0), (0, 1), (0, 2), (0, 3), (0, 4), (0, 5), (0, 6), (0, 7), (0, 8), (0, 9), (0, 10), (0, 11), (0, 12)])], []⟩ Try.func27 rfl Try.ntmps27 (rs := [.tmp 4]) rfl (sig := r9_Accepts_sig) (out := r9_Accepts_out) rfl Try.call27 (fun X => by kernel_rfl)

def law_SafraAccepts_sig : Shape := ⟨[(.pair (.int .i64) (.pair (.int .i64) (.pair (.list (.list (.int .i64))) (.pair (.list (.int .i64)) .unit)))), (.pair (.list (.int .i64)) (.pair (.list (.int .i64)) .unit))], [(0, .v 0), (1, .v 1)], []⟩
def law_SafraAccepts_out : Shape := ⟨[.bool], [(0, .v 0)], []⟩
noncomputable def law_SafraAccepts_ce : CE := ⟨5, law_SafraAccepts_sig, law_SafraAccepts_out, fun X => law_SafraAccepts X.1 X.2⟩
theorem law_SafraAccepts_ok : CE.ok Try.prog law_SafraAccepts_ce := CE.of (Γ := [safra_Check_ce, r9_Check_ce, safra_Accepts_ce, r1_Lasso_ce, r9_Accepts_ce]) (by kernel_rfl) TT_ok (GOK.cons safra_Check_ok (GOK.cons r9_Check_ok (GOK.cons safra_Accepts_ok (GOK.cons r1_Lasso_ok (GOK.cons r9_Accepts_ok (GOK.nil)))))) ⟨[], [], [], []⟩ Try.func5 rfl Try.ntmps5 (rs := [.tmp 4]) rfl (sig := law_SafraAccepts_sig) (out := law_SafraAccepts_out) rfl Try.call5 (fun X => by kernel_rfl)

end Go.Proofs.Ytjhgdnfkipchoaa.safraAcceptsW
