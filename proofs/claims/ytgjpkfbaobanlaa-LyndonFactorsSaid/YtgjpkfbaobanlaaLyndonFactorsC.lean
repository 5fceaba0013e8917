/- That the functions of 'LyndonFactors' compute so. -/
import Derived.Test.YtgjpkfbaobanlaaLyndonFactorsD
import Derived.Test.YtgjpkfbaobanlaaProg
import Derived.KernelRfl
set_option maxHeartbeats 1000000
set_option maxRecDepth 20000
set_option linter.unusedSimpArgs false
set_option linter.unusedVariables false
namespace Go.Proofs.Ytgjpkfbaobanlaa.lyndonFactorsW
open Go Go.Ab
def te3 : TE := ⟨3, .int .i64, false, 1, 8, .int .i64 0, some (.int .i64)⟩
theorem te3_ok : TEok Try.prog te3 := ⟨TI.of Try.underlying3 rfl (by kernel_rfl), Try.underlying3, fun t h => by cases h; exact ⟨rfl, rfl, by decide, rfl⟩⟩
def te4 : TE := ⟨4, .bool, false, 1, 1, .bool false, some .bool⟩
theorem te4_ok : TEok Try.prog te4 := ⟨TI.of Try.underlying4 rfl (by kernel_rfl), Try.underlying4, fun t h => by cases h; exact ⟨rfl, rfl, by decide, rfl⟩⟩
def te22 : TE := ⟨22, .int .i64, false, 1, 8, .int .i64 0, some (.int .i64)⟩
theorem te22_ok : TEok Try.prog te22 := ⟨TI.of Try.underlying22 rfl (by kernel_rfl), Try.underlying22, fun t h => by cases h; exact ⟨rfl, rfl, by decide, rfl⟩⟩
def te26 : TE := ⟨26, .slice 3, false, 1, 24, .slice none 0 0, some (.list (.int .i64))⟩
theorem te26_ok : TEok Try.prog te26 := ⟨TI.of Try.underlying26 rfl (by kernel_rfl), Try.underlying26, fun t h => by cases h; exact ⟨rfl, rfl, by decide, rfl⟩⟩
def te45 : TE := ⟨45, .slice 26, false, 1, 24, .slice none 0 0, some (.list (.list (.int .i64)))⟩
theorem te45_ok : TEok Try.prog te45 := ⟨TI.of Try.underlying45 rfl (by kernel_rfl), Try.underlying45, fun t h => by cases h; exact ⟨rfl, rfl, by decide, rfl⟩⟩
def TT : List TE := [te3, te4, te22, te26, te45]
theorem TT_ok : TOK Try.prog TT := TOK.cons te3_ok (TOK.cons te4_ok (TOK.cons te22_ok (TOK.cons te26_ok (TOK.cons te45_ok (TOK.nil)))))

def law_list_sig : Shape := ⟨[(.list (.int .i64))], [(0, .v 0)], []⟩
def law_list_out : Shape := ⟨[(.list (.int .i64))], [(0, .own 0)], [(0, .arr 3 0)]⟩
noncomputable def law_list_ce : CE := ⟨30, law_list_sig, law_list_out, fun X => law_list X⟩
theorem law_list_ok : CE.ok Try.prog law_list_ce := CE.of (Γ := []) (by kernel_rfl) TT_ok (GOK.nil) ⟨[], [], []⟩ Try.func30 rfl Try.ntmps30 (rs := [.tmp 2]) rfl (sig := law_list_sig) (out := law_list_out) rfl Try.call30 (fun X => by kernel_rfl)

def word_May_sig : Shape := ⟨[(.int .i64), (.list (.int .i64))], [(0, .v 0), (1, .v 1)], []⟩
def word_May_out : Shape := ⟨[(.int .i64)], [(0, .v 0)], []⟩
noncomputable def word_May_ce : CE := ⟨52, word_May_sig, word_May_out, fun X => word_May X.1 X.2⟩
theorem word_May_ok : CE.ok Try.prog word_May_ce := CE.of (Γ := []) (by kernel_rfl) TT_ok (GOK.nil) ⟨[(6, ⟨⟨[(.int .i64)], [(18, .v 0)], []⟩, [4, 6, 19, 20, 21, 22, 23, 24, 25, 26, 27, 28, 29], [], [], 0⟩)], [], []⟩ Try.func52 rfl Try.ntmps52 (rs := [.tmp 4]) rfl (sig := word_May_sig) (out := word_May_out) rfl Try.call52 (fun X => by kernel_rfl)

def lyndon_may_sig : Shape := ⟨[(.list (.list (.int .i64)))], [(0, .v 0)], []⟩
def lyndon_may_out : Shape := ⟨[(.int .i64)], [(0, .v 0)], []⟩
noncomputable def lyndon_may_ce : CE := ⟨64, lyndon_may_sig, lyndon_may_out, fun X => lyndon_may X⟩
theorem lyndon_may_ok : CE.ok Try.prog lyndon_may_ce := CE.of (Γ := [word_May_ce]) (by kernel_rfl) TT_ok (GOK.cons word_May_ok (GOK.nil)) ⟨[(2, ⟨⟨[(.int .i64)], [(8, .v 0)], []⟩, [2, 4, 5, 9, 10, 11, 12, 13, 14, 15, 16, 17], [], [], 0⟩)], [], []⟩ Try.func64 rfl Try.ntmps64 (rs := [.tmp 2]) rfl (sig := lyndon_may_sig) (out := lyndon_may_out) rfl Try.call64 (fun X => by kernel_rfl)

def slices_Clone_sig : Shape := ⟨[(.list (.int .i64))], [(0, .v 0)], []⟩
def slices_Clone_out : Shape := ⟨[(.list (.int .i64))], [(0, .own 0)], [(0, .arr 3 0)]⟩
noncomputable def slices_Clone_ce : CE := ⟨65, slices_Clone_sig, slices_Clone_out, fun X => slices_Clone X⟩
theorem slices_Clone_ok : CE.ok Try.prog slices_Clone_ce := CE.of (Γ := []) (by kernel_rfl) TT_ok (GOK.nil) ⟨[], [], []⟩ Try.func65 rfl Try.ntmps65 (rs := [.tmp 2]) rfl (sig := slices_Clone_sig) (out := slices_Clone_out) rfl Try.call65 (fun X => by kernel_rfl)

def lyndon_Factors_sig : Shape := ⟨[(.list (.int .i64))], [(0, .v 0)], []⟩
def lyndon_Factors_out : Shape := ⟨[(.int .i64), (.list (.list (.int .i64)))], [(0, .own 0), (1, .v 0)], [(0, .arr 26 1)]⟩
noncomputable def lyndon_Factors_ce : CE := ⟨31, lyndon_Factors_sig, lyndon_Factors_out, fun X => lyndon_Factors X⟩
theorem lyndon_Factors_ok : CE.ok Try.prog lyndon_Factors_ce := CE.of (Γ := [lyndon_may_ce, slices_Clone_ce]) (by kernel_rfl) TT_ok (GOK.cons lyndon_may_ok (GOK.cons slices_Clone_ok (GOK.nil))) ⟨[(6, ⟨⟨[(.int .i64), (.list (.list (.int .i64)))], [(5, .own 1), (6, .v 0)], [(1, .arr 26 1)]⟩, [7, 8, 15, 16, 17, 18, 19, 20, 21, 22, 23, 24, 25, 26, 27, 28, 29, 30, 31, 32, 33, 34, 35, 36, 37, 38, 39, 40, 41, 42, 43, 44, 45, 46, 47, 48, 49, 50, 51, 52, 53, 54, 55, 56, 57, 58, 59, 60, 61, 62, 63, 64, 65, 66, 67, 68, 69, 70], [], [0], 2⟩), (8, ⟨⟨[(.int .i64), (.int .i64)], [(7, .v 0), (8, .v 1)], []⟩, [22, 23, 24, 25, 26, 27, 28, 29, 30, 31, 32, 33, 34, 35, 36, 37, 38, 39, 40, 41, 42, 43, 44, 45, 46, 47, 48, 49, 50], [], [0, 1], 2⟩), (13, ⟨⟨[(.int .i64), (.list (.list (.int .i64)))], [(5, .own 1), (6, .v 0)], [(1, .arr 26 1)]⟩, [51, 52, 53, 54, 55, 56, 57, 58, 59, 60, 61, 62, 63, 64, 65, 66, 67, 68, 69, 70], [], [0], 2⟩)], [(8, ⟨⟨[.bool], [(36, .v 0)], []⟩, [22, 23, 24, 25, 26, 27, 28, 29, 30, 31, 32, 33, 34, 35], [], [0, 1], 2⟩)], [(8, [(0, 0), (0, 1), (0, 2), (0, 3), (0, 4), (0, 5), (0, 6), (0, 7), (0, 8), (0, 9), (0, 10), (0, 11), (0, 12), (0, 13), (0, 14)]), (9, [(0, 0), (0, 1), (0, 2), (0, 3), (0, 4), (0, 5), (0, 6), (0, 7), (0, 8)])]⟩ Try.func31 rfl Try.ntmps31 (rs := [.tmp 2, .tmp 3]) rfl (sig := lyndon_Factors_sig) (out := lyndon_Factors_out) rfl Try.call31 (fun X => by kernel_rfl)

def r1_Words_sig : Shape := ⟨[(.list (.int .i64)), (.list (.int .i64))], [(0, .v 0), (1, .v 1)], []⟩
def r1_Words_out : Shape := ⟨[.bool], [(0, .v 0)], []⟩
noncomputable def r1_Words_ce : CE := ⟨16, r1_Words_sig, r1_Words_out, fun X => r1_Words X.1 X.2⟩
theorem r1_Words_ok : CE.ok Try.prog r1_Words_ce := CE.of (Γ := []) (by kernel_rfl) TT_ok (GOK.nil) ⟨[(4, ⟨⟨[(.int .i64)], [(5, .v 0)], []⟩, [4, 11, 12, 13, 14, 15, 16, 17, 18, 19, 20, 21, 22, 23, 24, 25], [], [], 0⟩)], [], [(6, [(0, 0), (0, 1), (0, 2), (0, 3), (0, 4), (0, 5), (0, 6), (0, 7), (0, 8)])]⟩ Try.func16 rfl Try.ntmps16 (rs := [.tmp 4]) rfl (sig := r1_Words_sig) (out := r1_Words_out) rfl Try.call16 (fun X => by kernel_rfl)

def r1_May_sig : Shape := ⟨[(.int .i64), (.list (.int .i64))], [(0, .v 0), (1, .v 1)], []⟩
def r1_May_out : Shape := ⟨[(.int .i64)], [(0, .v 0)], []⟩
noncomputable def r1_May_ce : CE := ⟨18, r1_May_sig, r1_May_out, fun X => r1_May X.1 X.2⟩
theorem r1_May_ok : CE.ok Try.prog r1_May_ce := CE.of (Γ := []) (by kernel_rfl) TT_ok (GOK.nil) ⟨[(6, ⟨⟨[(.int .i64)], [(5, .v 0)], []⟩, [4, 15, 16, 17, 18, 19, 20, 21, 22, 23, 24, 25, 26, 27, 28, 29, 30, 31, 32, 33], [], [], 0⟩)], [], []⟩ Try.func18 rfl Try.ntmps18 (rs := [.tmp 4]) rfl (sig := r1_May_sig) (out := r1_May_out) rfl Try.call18 (fun X => by kernel_rfl)

def r31_Ahead_sig : Shape := ⟨[(.list (.int .i64)), (.list (.int .i64))], [(0, .v 0), (1, .v 1)], []⟩
def r31_Ahead_out : Shape := ⟨[.bool], [(0, .v 0)], []⟩
noncomputable def r31_Ahead_ce : CE := ⟨33, r31_Ahead_sig, r31_Ahead_out, fun X => r31_Ahead X.1 X.2⟩
theorem r31_Ahead_ok : CE.ok Try.prog r31_Ahead_ce := CE.of (Γ := []) (by kernel_rfl) TT_ok (GOK.nil) ⟨[(2, ⟨⟨[(.int .i64)], [(5, .v 0)], []⟩, [4, 6, 7, 8, 9, 10, 11, 12, 13, 14, 15, 16, 17, 18, 19, 20, 21, 22, 23, 24, 25, 26, 27, 28, 29, 30, 31, 32, 33, 34, 35], [], [], 0⟩)], [(2, ⟨⟨[.bool], [(15, .v 0)], []⟩, [6, 7, 8, 9, 10, 11, 12, 13, 14], [], [], 0⟩)], [(4, [(0, 0), (0, 1), (0, 2), (0, 3), (0, 4), (0, 5), (0, 6), (0, 7), (0, 8)]), (5, [(0, 0), (0, 1), (0, 2), (0, 3), (0, 4), (0, 5), (0, 6), (0, 7), (0, 8), (0, 9)])]⟩ Try.func33 rfl Try.ntmps33 (rs := [.tmp 4]) rfl (sig := r31_Ahead_sig) (out := r31_Ahead_out) rfl Try.call33 (fun X => by kernel_rfl)

def r31_Lyndon_sig : Shape := ⟨[(.list (.int .i64))], [(0, .v 0)], []⟩
def r31_Lyndon_out : Shape := ⟨[.bool], [(0, .v 0)], []⟩
noncomputable def r31_Lyndon_ce : CE := ⟨32, r31_Lyndon_sig, r31_Lyndon_out, fun X => r31_Lyndon X⟩
theorem r31_Lyndon_ok : CE.ok Try.prog r31_Lyndon_ce := CE.of (Γ := [r31_Ahead_ce]) (by kernel_rfl) TT_ok (GOK.cons r31_Ahead_ok (GOK.nil)) ⟨[(2, ⟨⟨[(.int .i64)], [(3, .v 0)], []⟩, [2, 4, 5, 6, 7, 8, 9, 10, 11, 12, 13, 14, 15, 16, 17], [], [], 0⟩)], [], []⟩ Try.func32 rfl Try.ntmps32 (rs := [.tmp 2]) rfl (sig := r31_Lyndon_sig) (out := r31_Lyndon_out) rfl Try.call32 (fun X => by kernel_rfl)

def law_LyndonFactors_sig : Shape := ⟨[(.list (.int .i64))], [(0, .v 0)], []⟩
def law_LyndonFactors_out : Shape := ⟨[.bool], [(0, .v 0)], []⟩
noncomputable def law_LyndonFactors_ce : CE := ⟨8, law_LyndonFactors_sig, law_LyndonFactors_out, fun X => law_LyndonFactors X⟩
theorem law_LyndonFactors_ok : CE.ok Try.prog law_LyndonFactors_ce := CE.of (Γ := [law_list_ce, lyndon_Factors_ce, r1_Words_ce, r1_May_ce, r31_Lyndon_ce, r31_Ahead_ce]) (by kernel_rfl) TT_ok (GOK.cons law_list_ok (GOK.cons lyndon_Factors_ok (GOK.cons r1_Words_ok (GOK.cons r1_May_ok (GOK.cons r31_Lyndon_ok (GOK.cons r31_Ahead_ok (GOK.nil))))))) ⟨[(11, ⟨⟨[(.int .i64), (.list (.int .i64))], [(8, .own 2), (9, .v 0)], [(2, .arr 3 1)]⟩, [2, 10, 11, 37, 38, 39, 40, 41, 42, 43, 44, 45, 46, 47, 48, 49, 50, 51, 52, 53, 54, 55, 56, 57, 58, 59, 60, 61, 62, 63, 64, 65, 66, 67, 68, 69, 70, 71, 72], [], [1], 3⟩)], [(14, ⟨⟨[.bool], [(11, .v 0)], []⟩, [48, 49, 50, 51, 52, 53, 54, 55, 56, 57, 58, 59, 60, 61], [], [1, 2], 3⟩)], [(14, [(0, 0), (0, 1), (0, 2), (0, 3), (0, 4), (0, 5), (0, 6), (0, 7), (0, 8), (0, 9), (0, 10), (0, 11), (1, 12), (0, 13), (0, 14)])]⟩ Try.func8 rfl Try.ntmps8 (rs := [.tmp 2]) rfl (sig := law_LyndonFactors_sig) (out := law_LyndonFactors_out) rfl Try.call8 (fun X => by kernel_rfl)

end Go.Proofs.Ytgjpkfbaobanlaa.lyndonFactorsW
