/- That the functions of 'LyndonBorders' compute so. -/
import Derived.Test.YtgjpkfbaobanlaaLyndonBordersD
import Derived.Test.YtgjpkfbaobanlaaProg
import Derived.KernelRfl
set_option maxHeartbeats 1000000
set_option maxRecDepth 20000
set_option linter.unusedSimpArgs false
set_option linter.unusedVariables false
namespace Go.Proofs.Ytgjpkfbaobanlaa.lyndonBordersW
open Go Go.Ab
def te3 : TE := ⟨3, .int .i64, false, 1, 8, .int .i64 0, some (.int .i64)⟩
theorem te3_ok : TEok Try.prog te3 := ⟨TI.of Try.underlying3 rfl (by kernel_rfl), Try.underlying3, fun t h => by cases h; exact ⟨rfl, rfl, by decide, rfl⟩⟩
def te4 : TE := ⟨4, .bool, false, 1, 1, .bool false, some .bool⟩
theorem te4_ok : TEok Try.prog te4 := ⟨TI.of Try.underlying4 rfl (by kernel_rfl), Try.underlying4, fun t h => by cases h; exact ⟨rfl, rfl, by decide, rfl⟩⟩
def te22 : TE := ⟨22, .int .i64, false, 1, 8, .int .i64 0, some (.int .i64)⟩
theorem te22_ok : TEok Try.prog te22 := ⟨TI.of Try.underlying22 rfl (by kernel_rfl), Try.underlying22, fun t h => by cases h; exact ⟨rfl, rfl, by decide, rfl⟩⟩
def te26 : TE := ⟨26, .slice 3, false, 1, 24, .slice none 0 0, some (.list (.int .i64))⟩
theorem te26_ok : TEok Try.prog te26 := ⟨TI.of Try.underlying26 rfl (by kernel_rfl), Try.underlying26, fun t h => by cases h; exact ⟨rfl, rfl, by decide, rfl⟩⟩
def te45 : TE := ⟨45, .slice 26, false, 1, 24, .slice none 0 0, some (.list (.list (.int .i64)))⟩
theorem te45_ok : TEok Try.prog te45 := ⟨TI.of Try.underlying45 rfl (by kernel_rfl), Try.underlying45, fun t h => by cases h; exact ⟨rfl, rfl, by decide, rfl⟩⟩
def TT : List TE := [te3, te4, te22, te26, te45]
theorem TT_ok : TOK Try.prog TT := TOK.cons te3_ok (TOK.cons te4_ok (TOK.cons te22_ok (TOK.cons te26_ok (TOK.cons te45_ok (TOK.nil)))))

def word_May_sig : Shape := ⟨[(.int .i64), (.list (.int .i64))], [(0, .v 0), (1, .v 1)], []⟩
def word_May_out : Shape := ⟨[(.int .i64)], [(0, .v 0)], []⟩
noncomputable def word_May_ce : CE := ⟨52, word_May_sig, word_May_out, fun X => word_May X.1 X.2⟩
theorem word_May_ok : CE.ok Try.prog word_May_ce := CE.of (Γ := []) (by kernel_rfl) TT_ok (GOK.nil) ⟨[(6, ⟨⟨[(.int .i64)], [(18, .v 0)], []⟩, [4, 6, 19, 20, 21, 22, 23, 24, 25, 26, 27, 28, 29], [], [], 0⟩)], [], []⟩ Try.func52 rfl Try.ntmps52 (rs := [.tmp 4]) rfl (sig := word_May_sig) (out := word_May_out) rfl Try.call52 (fun X => by kernel_rfl)

def lyndon_may_sig : Shape := ⟨[(.list (.list (.int .i64)))], [(0, .v 0)], []⟩
def lyndon_may_out : Shape := ⟨[(.int .i64)], [(0, .v 0)], []⟩
noncomputable def lyndon_may_ce : CE := ⟨64, lyndon_may_sig, lyndon_may_out, fun X => lyndon_may X⟩
theorem lyndon_may_ok : CE.ok Try.prog lyndon_may_ce := CE.of (Γ := [word_May_ce]) (by kernel_rfl) TT_ok (GOK.cons word_May_ok (GOK.nil)) ⟨[(2, ⟨⟨[(.int .i64)], [(8, .v 0)], []⟩, [2, 4, 5, 9, 10, 11, 12, 13, 14, 15, 16, 17], [], [], 0⟩)], [], []⟩ Try.func64 rfl Try.ntmps64 (rs := [.tmp 2]) rfl (sig := lyndon_may_sig) (out := lyndon_may_out) rfl Try.call64 (fun X => by kernel_rfl)

def lyndon_borders_sig : Shape := ⟨[(.list (.int .i64))], [(0, .v 0)], []⟩
def lyndon_borders_out : Shape := ⟨[(.list (.int .i64))], [(0, .own 0)], [(0, .arr 3 0)]⟩
noncomputable def lyndon_borders_ce : CE := ⟨66, lyndon_borders_sig, lyndon_borders_out, fun X => lyndon_borders X⟩
theorem lyndon_borders_ok : CE.ok Try.prog lyndon_borders_ce := CE.of (Γ := []) (by kernel_rfl) TT_ok (GOK.nil) ⟨[(4, ⟨⟨[(.int .i64), (.int .i64), (.list (.int .i64))], [(3, .own 0), (4, .v 0), (8, .v 1)], [(0, .arr 3 2)]⟩, [5, 9, 10, 11, 12, 13, 14, 15, 16, 17, 18, 19, 20, 21, 22, 23, 24, 25, 26, 27, 28, 29, 30, 31, 32, 33, 34, 35, 36, 37, 38, 39, 40, 41, 42, 43, 44, 45, 46, 47, 48, 49, 50, 51, 52], [], [], 1⟩), (6, ⟨⟨[(.int .i64)], [(4, .v 0)], []⟩, [11, 12, 13, 14, 15, 16, 17, 18, 19, 20, 21, 22, 23, 24, 25, 26, 27, 28, 29, 30, 31, 32], [], [0], 1⟩)], [(6, ⟨⟨[.bool], [(27, .v 0)], []⟩, [11, 12, 13, 14, 15, 16, 17, 18, 19, 20, 21, 22, 23, 24, 25, 26], [], [0], 1⟩), (8, ⟨⟨[.bool], [(45, .v 0)], []⟩, [33, 34, 35, 36, 37, 38, 39, 40, 41, 42, 43, 44], [], [0], 1⟩)], [(6, [(0, 0), (0, 1), (0, 2), (0, 3), (0, 4), (0, 5), (0, 6), (0, 7), (0, 8), (0, 9), (0, 10), (0, 11), (0, 12), (0, 13), (0, 14), (0, 15), (0, 16)]), (8, [(0, 0), (0, 1), (0, 2), (0, 3), (0, 4), (0, 5), (0, 6), (0, 7), (0, 8), (0, 9), (0, 10), (0, 11), (0, 12)])]⟩ Try.func66 rfl Try.ntmps66 (rs := [.tmp 2]) rfl (sig := lyndon_borders_sig) (out := lyndon_borders_out) rfl Try.call66 (fun X => by kernel_rfl)

def lyndon_Borders_sig : Shape := ⟨[(.list (.int .i64))], [(0, .v 0)], []⟩
def lyndon_Borders_out : Shape := ⟨[(.int .i64), (.list (.int .i64))], [(0, .own 0), (1, .v 0)], [(0, .arr 3 1)]⟩
noncomputable def lyndon_Borders_ce : CE := ⟨44, lyndon_Borders_sig, lyndon_Borders_out, fun X => lyndon_Borders X⟩
theorem lyndon_Borders_ok : CE.ok Try.prog lyndon_Borders_ce := CE.of (Γ := [lyndon_may_ce, lyndon_borders_ce]) (by kernel_rfl) TT_ok (GOK.cons lyndon_may_ok (GOK.cons lyndon_borders_ok (GOK.nil))) ⟨[], [], []⟩ Try.func44 rfl Try.ntmps44 (rs := [.tmp 2, .tmp 3]) rfl (sig := lyndon_Borders_sig) (out := lyndon_Borders_out) rfl Try.call44 (fun X => by kernel_rfl)

def slices_Clone_sig : Shape := ⟨[(.list (.int .i64))], [(0, .v 0)], []⟩
def slices_Clone_out : Shape := ⟨[(.list (.int .i64))], [(0, .own 0)], [(0, .arr 3 0)]⟩
noncomputable def slices_Clone_ce : CE := ⟨65, slices_Clone_sig, slices_Clone_out, fun X => slices_Clone X⟩
theorem slices_Clone_ok : CE.ok Try.prog slices_Clone_ce := CE.of (Γ := []) (by kernel_rfl) TT_ok (GOK.nil) ⟨[], [], []⟩ Try.func65 rfl Try.ntmps65 (rs := [.tmp 2]) rfl (sig := slices_Clone_sig) (out := slices_Clone_out) rfl Try.call65 (fun X => by kernel_rfl)

def lyndon_Root_sig : Shape := ⟨[(.list (.int .i64))], [(0, .v 0)], []⟩
def lyndon_Root_out : Shape := ⟨[(.int .i64), (.int .i64), (.list (.int .i64))], [(0, .own 0), (1, .v 0), (2, .v 1)], [(0, .arr 3 2)]⟩
noncomputable def lyndon_Root_ce : CE := ⟨45, lyndon_Root_sig, lyndon_Root_out, fun X => lyndon_Root X⟩
theorem lyndon_Root_ok : CE.ok Try.prog lyndon_Root_ce := CE.of (Γ := [lyndon_may_ce, lyndon_borders_ce, slices_Clone_ce]) (by kernel_rfl) TT_ok (GOK.cons lyndon_may_ok (GOK.cons lyndon_borders_ok (GOK.cons slices_Clone_ok (GOK.nil)))) ⟨[], [(10, ⟨⟨[(.int .i64)], [(8, .v 0)], []⟩, [28, 29, 30, 31, 32], [], [0, 1], 2⟩)], [(11, [(0, 0), (0, 1), (0, 2), (0, 4), (0, 5), (0, 6), (1, 3), (0, 7), (0, 8), (0, 9)])]⟩ Try.func45 rfl Try.ntmps45 (rs := [.tmp 2, .tmp 3, .tmp 4]) rfl (sig := lyndon_Root_sig) (out := lyndon_Root_out) rfl Try.call45 (fun X => by kernel_rfl)

def r1_May_sig : Shape := ⟨[(.int .i64), (.list (.int .i64))], [(0, .v 0), (1, .v 1)], []⟩
def r1_May_out : Shape := ⟨[(.int .i64)], [(0, .v 0)], []⟩
noncomputable def r1_May_ce : CE := ⟨18, r1_May_sig, r1_May_out, fun X => r1_May X.1 X.2⟩
theorem r1_May_ok : CE.ok Try.prog r1_May_ce := CE.of (Γ := []) (by kernel_rfl) TT_ok (GOK.nil) ⟨[(6, ⟨⟨[(.int .i64)], [(5, .v 0)], []⟩, [4, 15, 16, 17, 18, 19, 20, 21, 22, 23, 24, 25, 26, 27, 28, 29, 30, 31, 32, 33], [], [], 0⟩)], [], []⟩ Try.func18 rfl Try.ntmps18 (rs := [.tmp 4]) rfl (sig := r1_May_sig) (out := r1_May_out) rfl Try.call18 (fun X => by kernel_rfl)

def r1_Words_sig : Shape := ⟨[(.list (.int .i64)), (.list (.int .i64))], [(0, .v 0), (1, .v 1)], []⟩
def r1_Words_out : Shape := ⟨[.bool], [(0, .v 0)], []⟩
noncomputable def r1_Words_ce : CE := ⟨16, r1_Words_sig, r1_Words_out, fun X => r1_Words X.1 X.2⟩
theorem r1_Words_ok : CE.ok Try.prog r1_Words_ce := CE.of (Γ := []) (by kernel_rfl) TT_ok (GOK.nil) ⟨[(4, ⟨⟨[(.int .i64)], [(5, .v 0)], []⟩, [4, 11, 12, 13, 14, 15, 16, 17, 18, 19, 20, 21, 22, 23, 24, 25], [], [], 0⟩)], [], [(6, [(0, 0), (0, 1), (0, 2), (0, 3), (0, 4), (0, 5), (0, 6), (0, 7), (0, 8)])]⟩ Try.func16 rfl Try.ntmps16 (rs := [.tmp 4]) rfl (sig := r1_Words_sig) (out := r1_Words_out) rfl Try.call16 (fun X => by kernel_rfl)

def r31_Border_sig : Shape := ⟨[(.list (.int .i64))], [(0, .v 0)], []⟩
def r31_Border_out : Shape := ⟨[(.int .i64)], [(0, .v 0)], []⟩
noncomputable def r31_Border_ce : CE := ⟨46, r31_Border_sig, r31_Border_out, fun X => r31_Border X⟩
theorem r31_Border_ok : CE.ok Try.prog r31_Border_ce := CE.of (Γ := [r1_Words_ce]) (by kernel_rfl) TT_ok (GOK.cons r1_Words_ok (GOK.nil)) ⟨[(2, ⟨⟨[(.int .i64)], [(3, .v 0)], []⟩, [2, 4, 8, 9, 10, 11, 12, 13, 14, 15, 16, 17, 18, 19, 20, 21, 22, 23], [], [], 0⟩)], [], [(4, [(0, 0), (0, 1), (0, 2), (0, 3), (0, 4), (0, 5), (0, 6), (0, 7), (0, 8), (1, 9), (0, 10)])]⟩ Try.func46 rfl Try.ntmps46 (rs := [.tmp 2]) rfl (sig := r31_Border_sig) (out := r31_Border_out) rfl Try.call46 (fun X => by kernel_rfl)

def r31_Whole_sig : Shape := ⟨[(.list (.int .i64)), (.list (.int .i64)), (.int .i64)], [(0, .v 0), (1, .v 1), (2, .v 2)], []⟩
def r31_Whole_out : Shape := ⟨[.bool], [(0, .v 0)], []⟩
noncomputable def r31_Whole_ce : CE := ⟨72, r31_Whole_sig, r31_Whole_out, fun X => r31_Whole X.1 X.2.1 X.2.2⟩
theorem r31_Whole_ok : CE.ok Try.prog r31_Whole_ce := CE.of (Γ := []) (by kernel_rfl) TT_ok (GOK.nil) ⟨[(4, ⟨⟨[(.int .i64)], [(7, .v 0)], []⟩, [6, 15, 16, 17, 18, 19, 20, 21, 22, 23, 24, 25, 26, 27, 28, 29, 30, 31, 32], [], [], 0⟩)], [], [(6, [(0, 0), (0, 1), (0, 2), (0, 3), (0, 4), (0, 5), (0, 6), (0, 7), (0, 8), (0, 9), (0, 10), (0, 11)])]⟩ Try.func72 rfl Try.ntmps72 (rs := [.tmp 6]) rfl (sig := r31_Whole_sig) (out := r31_Whole_out) rfl Try.call72 (fun X => by kernel_rfl)

def r31_Root_sig : Shape := ⟨[(.list (.int .i64))], [(0, .v 0)], []⟩
def r31_Root_out : Shape := ⟨[(.int .i64)], [(0, .v 0)], []⟩
noncomputable def r31_Root_ce : CE := ⟨47, r31_Root_sig, r31_Root_out, fun X => r31_Root X⟩
theorem r31_Root_ok : CE.ok Try.prog r31_Root_ce := CE.of (Γ := [r31_Whole_ce]) (by kernel_rfl) TT_ok (GOK.cons r31_Whole_ok (GOK.nil)) ⟨[(2, ⟨⟨[(.int .i64)], [(3, .v 0)], []⟩, [2, 4, 5, 6, 7, 8, 9, 10, 11, 12, 13, 14, 15, 16, 17, 18, 19, 20, 21, 22, 23, 24, 25, 26], [], [], 0⟩)], [], [(5, [(0, 0), (0, 1), (0, 2), (0, 3), (0, 4), (0, 5), (0, 6), (0, 7), (1, 8), (0, 9)])]⟩ Try.func47 rfl Try.ntmps47 (rs := [.tmp 2]) rfl (sig := r31_Root_sig) (out := r31_Root_out) rfl Try.call47 (fun X => by kernel_rfl)

def law_LyndonBorders_sig : Shape := ⟨[(.list (.int .i64))], [(0, .v 0)], []⟩
def law_LyndonBorders_out : Shape := ⟨[.bool], [(0, .v 0)], []⟩
noncomputable def law_LyndonBorders_ce : CE := ⟨12, law_LyndonBorders_sig, law_LyndonBorders_out, fun X => law_LyndonBorders X⟩
theorem law_LyndonBorders_ok : CE.ok Try.prog law_LyndonBorders_ce := CE.of (Γ := [lyndon_Borders_ce, lyndon_Root_ce, r1_May_ce, r31_Border_ce, r31_Root_ce, r1_Words_ce]) (by kernel_rfl) TT_ok (GOK.cons lyndon_Borders_ok (GOK.cons lyndon_Root_ok (GOK.cons r1_May_ok (GOK.cons r31_Border_ok (GOK.cons r31_Root_ok (GOK.cons r1_Words_ok (GOK.nil))))))) ⟨[(9, ⟨⟨[(.int .i64)], [(9, .v 0)], []⟩, [2, 10, 61, 62, 63, 64, 65, 66, 67, 68, 69, 70, 71, 72, 73, 74, 75, 76, 77], [], [0, 1], 2⟩)], [], []⟩ Try.func12 rfl Try.ntmps12 (rs := [.tmp 2]) rfl (sig := law_LyndonBorders_sig) (out := law_LyndonBorders_out) rfl Try.call12 (fun X => by kernel_rfl)

end Go.Proofs.Ytgjpkfbaobanlaa.lyndonBordersW
