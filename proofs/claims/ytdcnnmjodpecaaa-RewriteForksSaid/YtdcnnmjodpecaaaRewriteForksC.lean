/- That the functions of 'RewriteForks' compute so. -/
import Derived.Test.YtdcnnmjodpecaaaRewriteForksD
import Derived.Test.YtdcnnmjodpecaaaProg
import Derived.KernelRfl
set_option maxHeartbeats 1000000
set_option maxRecDepth 20000
set_option linter.unusedSimpArgs false
set_option linter.unusedVariables false
set_option linter.unusedSectionVars false
namespace Go.Proofs.Ytdcnnmjodpecaaa.rewriteForksW
open Go Go.Ab
def te3 : TE := ⟨3, .int .i64, false, 1, 8, .int .i64 0, some (.int .i64)⟩
theorem te3_ok : TEok Try.prog te3 := ⟨TI.of Try.underlying3 rfl (by kernel_rfl), Try.underlying3, fun t h => by cases h; exact ⟨rfl, rfl, by decide, rfl⟩⟩
def te4 : TE := ⟨4, .bool, false, 1, 1, .bool false, some .bool⟩
theorem te4_ok : TEok Try.prog te4 := ⟨TI.of Try.underlying4 rfl (by kernel_rfl), Try.underlying4, fun t h => by cases h; exact ⟨rfl, rfl, by decide, rfl⟩⟩
def te5 : TE := ⟨5, .int .u8, false, 1, 1, .int .u8 0, some (.int .u8)⟩
theorem te5_ok : TEok Try.prog te5 := ⟨TI.of Try.underlying5 rfl (by kernel_rfl), Try.underlying5, fun t h => by cases h; exact ⟨rfl, rfl, by decide, rfl⟩⟩
def te9 : TE := ⟨9, .str, false, 1, 16, .string ⟨⟨[]⟩⟩, some .str⟩
theorem te9_ok : TEok Try.prog te9 := ⟨TI.of Try.underlying9 rfl (by kernel_rfl), Try.underlying9, fun t h => by cases h; exact ⟨rfl, rfl, by decide, rfl⟩⟩
def te22 : TE := ⟨22, .slice 36, false, 1, 24, .slice none 0 0, some (.list (.pair (.list (.int .i64)) (.pair (.list (.int .i64)) .unit)))⟩
theorem te22_ok : TEok Try.prog te22 := ⟨TI.of Try.underlying22 rfl (by kernel_rfl), Try.underlying22, fun t h => by cases h; exact ⟨rfl, rfl, by decide, rfl⟩⟩
def te23 : TE := ⟨23, .slice 3, false, 1, 24, .slice none 0 0, some (.list (.int .i64))⟩
theorem te23_ok : TEok Try.prog te23 := ⟨TI.of Try.underlying23 rfl (by kernel_rfl), Try.underlying23, fun t h => by cases h; exact ⟨rfl, rfl, by decide, rfl⟩⟩
def te24 : TE := ⟨24, .int .i64, false, 1, 8, .int .i64 0, some (.int .i64)⟩
theorem te24_ok : TEok Try.prog te24 := ⟨TI.of Try.underlying24 rfl (by kernel_rfl), Try.underlying24, fun t h => by cases h; exact ⟨rfl, rfl, by decide, rfl⟩⟩
def te36 : TE := ⟨36, .struct [(0, 23), (1, 23)] none, true, 2, 48, .agg ⟨[.slice none 0 0, .slice none 0 0]⟩, some (.pair (.list (.int .i64)) (.pair (.list (.int .i64)) .unit))⟩
theorem te36_ok : TEok Try.prog te36 := ⟨TI.of Try.underlying36 rfl (by kernel_rfl), ⟨⟨_, Try.underlying36, rfl⟩, fun t h => by cases h⟩, fun t h => by cases h; exact ⟨rfl, rfl, by decide, rfl⟩⟩
def te44 : TE := ⟨44, .slice 23, false, 1, 24, .slice none 0 0, some (.list (.list (.int .i64)))⟩
theorem te44_ok : TEok Try.prog te44 := ⟨TI.of Try.underlying44 rfl (by kernel_rfl), Try.underlying44, fun t h => by cases h; exact ⟨rfl, rfl, by decide, rfl⟩⟩
def te47 : TE := ⟨47, .slice 5, false, 1, 24, .slice none 0 0, some (.list (.int .u8))⟩
theorem te47_ok : TEok Try.prog te47 := ⟨TI.of Try.underlying47 rfl (by kernel_rfl), Try.underlying47, fun t h => by cases h; exact ⟨rfl, rfl, by decide, rfl⟩⟩
def TT : List TE := [te3, te4, te5, te9, te22, te23, te24, te36, te44, te47]
theorem TT_ok : TOK Try.prog TT := TOK.cons te3_ok (TOK.cons te4_ok (TOK.cons te5_ok (TOK.cons te9_ok (TOK.cons te22_ok (TOK.cons te23_ok (TOK.cons te24_ok (TOK.cons te36_ok (TOK.cons te44_ok (TOK.cons te47_ok (TOK.nil))))))))))

def rewrite_Check_1_sig : Shape := ⟨[(.int .i64), (.int .i64)], [(0, .v 0), (1, .addr 1)], []⟩
def rewrite_Check_1_out : Shape := ⟨[.bool], [(0, .v 0)], []⟩
noncomputable def rewrite_Check_1_ce : CE := ⟨24, rewrite_Check_1_sig, rewrite_Check_1_out, fun X => rewrite_Check_1 X.1 X.2⟩
theorem rewrite_Check_1_ok : CE.ok Try.prog rewrite_Check_1_ce := CE.of (Γ := []) (by kernel_rfl) TT_ok (GOK.nil) ⟨[], [], [], []⟩ Try.func24 rfl Try.ntmps24 (rs := [.tmp 3]) rfl (sig := rewrite_Check_1_sig) (out := rewrite_Check_1_out) rfl Try.call24 (fun X => by kernel_rfl)

def slices_IndexFunc_sig : Shape := ⟨[(.list (.int .i64)), (.int .i64)], [(0, .v 0), (1, .fn 24 [.addr 1])], []⟩
def slices_IndexFunc_out : Shape := ⟨[(.int .i64)], [(0, .v 0)], []⟩
noncomputable def slices_IndexFunc_ce : CE := ⟨29, slices_IndexFunc_sig, slices_IndexFunc_out, fun X => slices_IndexFunc X.1 X.2⟩
theorem slices_IndexFunc_ok : CE.ok Try.prog slices_IndexFunc_ce := CE.of (Γ := [rewrite_Check_1_ce]) (by kernel_rfl) TT_ok (GOK.cons rewrite_Check_1_ok (GOK.nil)) ⟨[(2, ⟨⟨[(.int .i64)], [(8, .v 0)], []⟩, [4, 5, 9, 10, 11, 12, 13, 14, 15, 16, 17, 18], [], [], 0, []⟩)], [], [], []⟩ Try.func29 rfl Try.ntmps29 (rs := [.tmp 4]) rfl (sig := slices_IndexFunc_sig) (out := slices_IndexFunc_out) rfl Try.call29 (fun X => by kernel_rfl)

def slices_ContainsFunc_sig : Shape := ⟨[(.list (.int .i64)), (.int .i64)], [(0, .v 0), (1, .fn 24 [.addr 1])], []⟩
def slices_ContainsFunc_out : Shape := ⟨[.bool], [(0, .v 0)], []⟩
noncomputable def slices_ContainsFunc_ce : CE := ⟨25, slices_ContainsFunc_sig, slices_ContainsFunc_out, fun X => slices_ContainsFunc X.1 X.2⟩
theorem slices_ContainsFunc_ok : CE.ok Try.prog slices_ContainsFunc_ce := CE.of (Γ := [slices_IndexFunc_ce]) (by kernel_rfl) TT_ok (GOK.cons slices_IndexFunc_ok (GOK.nil)) ⟨[], [], [], []⟩ Try.func25 rfl Try.ntmps25 (rs := [.tmp 4]) rfl (sig := slices_ContainsFunc_sig) (out := slices_ContainsFunc_out) rfl Try.call25 (fun X => by kernel_rfl)

def cmp_isNaN_sig : Shape := ⟨[(.int .i64)], [(0, .v 0)], []⟩
def cmp_isNaN_out : Shape := ⟨[.bool], [(0, .v 0)], []⟩
noncomputable def cmp_isNaN_ce : CE := ⟨32, cmp_isNaN_sig, cmp_isNaN_out, fun X => cmp_isNaN X⟩
theorem cmp_isNaN_ok : CE.ok Try.prog cmp_isNaN_ce := CE.of (Γ := []) (by kernel_rfl) TT_ok (GOK.nil) ⟨[], [], [], []⟩ Try.func32 rfl Try.ntmps32 (rs := [.tmp 2]) rfl (sig := cmp_isNaN_sig) (out := cmp_isNaN_out) rfl Try.call32 (fun X => by kernel_rfl)

def cmp_Compare_sig : Shape := ⟨[(.int .i64), (.int .i64)], [(0, .v 0), (1, .v 1)], []⟩
def cmp_Compare_out : Shape := ⟨[(.int .i64)], [(0, .v 0)], []⟩
noncomputable def cmp_Compare_ce : CE := ⟨31, cmp_Compare_sig, cmp_Compare_out, fun X => cmp_Compare X.1 X.2⟩
theorem cmp_Compare_ok : CE.ok Try.prog cmp_Compare_ce := CE.of (Γ := [cmp_isNaN_ce]) (by kernel_rfl) TT_ok (GOK.cons cmp_isNaN_ok (GOK.nil)) ⟨[], [], [], []⟩ Try.func31 rfl Try.ntmps31 (rs := [.tmp 4]) rfl (sig := cmp_Compare_sig) (out := cmp_Compare_out) rfl Try.call31 (fun X => by kernel_rfl)

def slices_Compare_sig : Shape := ⟨[(.list (.int .i64)), (.list (.int .i64))], [(0, .v 0), (1, .v 1)], []⟩
def slices_Compare_out : Shape := ⟨[(.int .i64)], [(0, .v 0)], []⟩
noncomputable def slices_Compare_ce : CE := ⟨30, slices_Compare_sig, slices_Compare_out, fun X => slices_Compare X.1 X.2⟩
theorem slices_Compare_ok : CE.ok Try.prog slices_Compare_ce := CE.of (Γ := [cmp_Compare_ce]) (by kernel_rfl) TT_ok (GOK.cons cmp_Compare_ok (GOK.nil)) ⟨[(2, ⟨⟨[(.int .i64)], [(11, .v 0)], []⟩, [4, 5, 6, 7, 8, 12, 13, 14, 15, 16, 17, 18, 19, 20, 21, 22, 23, 24, 25, 26, 27, 28, 29, 30], [], [], 0, []⟩)], [], [], []⟩ Try.func30 rfl Try.ntmps30 (rs := [.tmp 4]) rfl (sig := slices_Compare_sig) (out := slices_Compare_out) rfl Try.call30 (fun X => by kernel_rfl)

def rewrite_before_sig : Shape := ⟨[(.list (.int .i64)), (.list (.int .i64))], [(0, .v 0), (1, .v 1)], []⟩
def rewrite_before_out : Shape := ⟨[.bool], [(0, .v 0)], []⟩
noncomputable def rewrite_before_ce : CE := ⟨26, rewrite_before_sig, rewrite_before_out, fun X => rewrite_before X.1 X.2⟩
theorem rewrite_before_ok : CE.ok Try.prog rewrite_before_ce := CE.of (Γ := [slices_Compare_ce]) (by kernel_rfl) TT_ok (GOK.cons slices_Compare_ok (GOK.nil)) ⟨[], [], [], []⟩ Try.func26 rfl Try.ntmps26 (rs := [.tmp 4]) rfl (sig := rewrite_before_sig) (out := rewrite_before_out) rfl Try.call26 (fun X => by kernel_rfl)

def rewrite_Check_sig : Shape := ⟨[(.int .i64), (.list (.pair (.list (.int .i64)) (.pair (.list (.int .i64)) .unit)))], [(0, .v 0), (1, .v 1)], []⟩
def rewrite_Check_out : Shape := ⟨[(.int .i64)], [(0, .v 0)], []⟩
noncomputable def rewrite_Check_ce : CE := ⟨11, rewrite_Check_sig, rewrite_Check_out, fun X => rewrite_Check X.1 X.2⟩
theorem rewrite_Check_ok : CE.ok Try.prog rewrite_Check_ce := CE.of (Γ := [slices_ContainsFunc_ce, rewrite_before_ce]) (by kernel_rfl) TT_ok (GOK.cons slices_ContainsFunc_ok (GOK.cons rewrite_before_ok (GOK.nil))) ⟨[(7, ⟨⟨[(.int .i64)], [(20, .v 0)], []⟩, [4, 7, 21, 22, 23, 24, 25, 26, 27, 28, 29, 30, 31, 32, 33, 34, 35, 36, 37, 38, 39, 40, 41, 42, 43, 44, 45, 46, 47, 48, 49, 50, 51, 52, 53, 54, 55, 56, 57, 58, 59], [], [0], 1, []⟩)], [], [], []⟩ Try.func11 rfl Try.ntmps11 (rs := [.tmp 4]) rfl (sig := rewrite_Check_sig) (out := rewrite_Check_out) rfl Try.call11 (fun X => by kernel_rfl)

def slices_Equal_sig : Shape := ⟨[(.list (.int .i64)), (.list (.int .i64))], [(0, .v 0), (1, .v 1)], []⟩
def slices_Equal_out : Shape := ⟨[.bool], [(0, .v 0)], []⟩
noncomputable def slices_Equal_ce : CE := ⟨17, slices_Equal_sig, slices_Equal_out, fun X => slices_Equal X.1 X.2⟩
theorem slices_Equal_ok : CE.ok Try.prog slices_Equal_ce := CE.of (Γ := []) (by kernel_rfl) TT_ok (GOK.nil) ⟨[(4, ⟨⟨[(.int .i64)], [(13, .v 0)], []⟩, [4, 5, 14, 15, 16, 17, 18, 19, 20, 21, 22, 23, 24, 25], [], [], 0, []⟩)], [], [(6, [(0, 0), (0, 1), (0, 2), (0, 3), (0, 4), (0, 5), (0, 6), (0, 7), (0, 8)])], []⟩ Try.func17 rfl Try.ntmps17 (rs := [.tmp 4]) rfl (sig := slices_Equal_sig) (out := slices_Equal_out) rfl Try.call17 (fun X => by kernel_rfl)

def slices_Grow_sig : Shape := ⟨[(.int .i64)], [(0, .nil), (1, .v 0)], []⟩
def slices_Grow_out : Shape := ⟨[(.list (.int .i64))], [(0, .own 0)], [(0, .arr 3 0)]⟩
noncomputable def slices_Grow_ce : CE := ⟨28, slices_Grow_sig, slices_Grow_out, fun X => slices_Grow X⟩
theorem slices_Grow_ok : CE.ok Try.prog slices_Grow_ce := CE.of (Γ := []) (by kernel_rfl) TT_ok (GOK.nil) ⟨[], [], [(5, [(0, 0), (0, 1), (0, 2), (0, 3), (0, 4), (2, 5), (0, 6), (0, 7), (1, 8), (0, 9)])], []⟩ Try.func28 rfl Try.ntmps28 (rs := [.tmp 4]) rfl (sig := slices_Grow_sig) (out := slices_Grow_out) rfl Try.call28 (fun X => by kernel_rfl)

def slices_Concat_sig : Shape := ⟨[(.list (.list (.int .i64)))], [(0, .v 0)], []⟩
def slices_Concat_out : Shape := ⟨[(.list (.int .i64))], [(0, .own 0)], [(0, .arr 3 0)]⟩
noncomputable def slices_Concat_ce : CE := ⟨18, slices_Concat_sig, slices_Concat_out, fun X => slices_Concat X⟩
theorem slices_Concat_ok : CE.ok Try.prog slices_Concat_ce := CE.of (Γ := [slices_Grow_ce]) (by kernel_rfl) TT_ok (GOK.cons slices_Grow_ok (GOK.nil)) ⟨[(3, ⟨⟨[(.int .i64), (.int .i64)], [(3, .v 0), (11, .v 1)], []⟩, [5, 12, 13, 14, 15, 16, 17, 18, 19, 20, 21, 22], [], [], 0, []⟩), (11, ⟨⟨[(.int .i64), (.list (.int .i64))], [(6, .own 0), (27, .v 0)], [(0, .arr 3 1)]⟩, [8, 24, 28, 29, 30, 31, 32, 33, 34], [], [], 1, []⟩)], [], [], []⟩ Try.func18 rfl Try.ntmps18 (rs := [.tmp 2]) rfl (sig := slices_Concat_sig) (out := slices_Concat_out) rfl Try.call18 (fun X => by kernel_rfl)

def rewrite_swapped_sig : Shape := ⟨[(.list (.int .i64)), (.pair (.list (.int .i64)) (.pair (.list (.int .i64)) .unit)), (.int .i64)], [(0, .v 0), (1, .v 1), (2, .v 2)], []⟩
def rewrite_swapped_out : Shape := ⟨[(.list (.int .i64))], [(0, .own 0)], [(0, .arr 3 0)]⟩
noncomputable def rewrite_swapped_ce : CE := ⟨14, rewrite_swapped_sig, rewrite_swapped_out, fun X => rewrite_swapped X.1 X.2.1 X.2.2⟩
theorem rewrite_swapped_ok : CE.ok Try.prog rewrite_swapped_ce := CE.of (Γ := [slices_Concat_ce]) (by kernel_rfl) TT_ok (GOK.cons slices_Concat_ok (GOK.nil)) ⟨[], [], [(1, [(0, 0), (0, 1), (0, 2), (0, 3), (0, 4), (0, 5), (0, 6), (0, 7), (0, 8), (0, 9), (0, 10), (0, 11), (1, 12), (1, 13), (0, 14)])], []⟩ Try.func14 rfl Try.ntmps14 (rs := [.tmp 6]) rfl (sig := rewrite_swapped_sig) (out := rewrite_swapped_out) rfl Try.call14 (fun X => by kernel_rfl)

def rewrite_stands_sig : Shape := ⟨[(.list (.int .i64)), (.list (.int .i64)), (.int .i64)], [(0, .v 0), (1, .v 1), (2, .v 2)], []⟩
def rewrite_stands_out : Shape := ⟨[.bool], [(0, .v 0)], []⟩
noncomputable def rewrite_stands_ce : CE := ⟨27, rewrite_stands_sig, rewrite_stands_out, fun X => rewrite_stands X.1 X.2.1 X.2.2⟩
theorem rewrite_stands_ok : CE.ok Try.prog rewrite_stands_ce := CE.of (Γ := [slices_Equal_ce]) (by kernel_rfl) TT_ok (GOK.cons slices_Equal_ok (GOK.nil)) ⟨[], [], [], []⟩ Try.func27 rfl Try.ntmps27 (rs := [.tmp 6]) rfl (sig := rewrite_stands_sig) (out := rewrite_stands_out) rfl Try.call27 (fun X => by kernel_rfl)

def rewrite_normal_sig : Shape := ⟨[(.list (.pair (.list (.int .i64)) (.pair (.list (.int .i64)) .unit))), (.list (.int .i64))], [(0, .v 0), (1, .v 1)], []⟩
def rewrite_normal_out : Shape := ⟨[(.list (.int .i64))], [(0, .v 0)], []⟩
noncomputable def rewrite_normal_ce : CE := ⟨13, rewrite_normal_sig, rewrite_normal_out, fun X => rewrite_normal X.1 X.2⟩
theorem rewrite_normal_ok : CE.ok Try.prog rewrite_normal_ce := CE.of (Γ := [rewrite_stands_ce, rewrite_swapped_ce]) (by kernel_rfl) TT_ok (GOK.cons rewrite_stands_ok (GOK.cons rewrite_swapped_ok (GOK.nil))) ⟨[(2, ⟨⟨[(.list (.int .i64)), (.int .i64)], [(1, .v 0), (5, .v 1)], []⟩, [7, 8, 9, 10, 11, 12, 13, 14, 15, 16, 17, 18, 19, 20, 21, 22, 23, 24, 25, 26, 27, 28, 29], [], [], 0, []⟩), (5, ⟨⟨[(.list (.int .i64)), (.int .i64), (.int .i64)], [(1, .v 0), (5, .v 1), (16, .v 2)], []⟩, [7, 17, 18, 19, 20, 21, 22, 23, 24, 25, 26, 27, 28, 29], [], [], 0, []⟩)], [], [], []⟩ Try.func13 rfl Try.ntmps13 (rs := [.tmp 4]) rfl (sig := rewrite_normal_sig) (out := rewrite_normal_out) rfl Try.call13 (fun X => by kernel_rfl)

def det_Key_sig : Shape := ⟨[(.list (.int .i64))], [(0, .v 0)], []⟩
def det_Key_out : Shape := ⟨[.str], [(0, .v 0)], []⟩
noncomputable def det_Key_ce : CE := ⟨15, det_Key_sig, det_Key_out, fun X => det_Key X⟩
theorem det_Key_ok : CE.ok Try.prog det_Key_ce := CE.of (Γ := []) (by kernel_rfl) TT_ok (GOK.nil) ⟨[(3, ⟨⟨[(.int .i64), (.list (.int .u8))], [(3, .own 0), (8, .v 0)], [(0, .arr 5 1)]⟩, [5, 9, 10, 11, 12, 13, 14, 15, 16, 17, 18, 19, 20], [], [], 1, []⟩)], [], [], []⟩ Try.func15 rfl Try.ntmps15 (rs := [.tmp 2]) rfl (sig := det_Key_sig) (out := det_Key_out) rfl Try.call15 (fun X => by kernel_rfl)

def slices_Clone_sig : Shape := ⟨[(.list (.int .i64))], [(0, .v 0)], []⟩
def slices_Clone_out : Shape := ⟨[(.list (.int .i64))], [(0, .own 0)], [(0, .arr 3 0)]⟩
noncomputable def slices_Clone_ce : CE := ⟨16, slices_Clone_sig, slices_Clone_out, fun X => slices_Clone X⟩
theorem slices_Clone_ok : CE.ok Try.prog slices_Clone_ce := CE.of (Γ := []) (by kernel_rfl) TT_ok (GOK.nil) ⟨[], [], [], []⟩ Try.func16 rfl Try.ntmps16 (rs := [.tmp 2]) rfl (sig := slices_Clone_sig) (out := slices_Clone_out) rfl Try.call16 (fun X => by kernel_rfl)

def rewrite_Fork_1_sig : Shape := ⟨[(.list (.int .i64)), (.pair (.list (.int .i64)) (.pair (.list (.int .i64)) .unit)), (.int .i64), (.pair (.list (.int .i64)) (.pair (.list (.int .i64)) .unit)), (.int .i64), (.list (.pair (.list (.int .i64)) (.pair (.list (.int .i64)) .unit)))], [(0, .v 0), (1, .v 1), (2, .v 2), (3, .v 3), (4, .v 4), (5, .addr 5), (6, .ptr 100000 0), (7, .ptr 100001 0), (8, .ptr 100002 0)], [(100000, .box 23 [.nil]), (100001, .box 23 [.nil]), (100002, .box 23 [.nil])]⟩
def rewrite_Fork_1_out : Shape := ⟨[.bool, (.list (.int .i64)), (.list (.int .i64)), (.list (.int .i64))], [(0, .v 0)], [(100000, .box 23 [.v 1]), (100001, .box 23 [.v 2]), (100002, .box 23 [.v 3])]⟩
noncomputable def rewrite_Fork_1_ce : CE := ⟨12, rewrite_Fork_1_sig, rewrite_Fork_1_out, fun X => rewrite_Fork_1 X.1 X.2.1 X.2.2.1 X.2.2.2.1 X.2.2.2.2.1 X.2.2.2.2.2⟩
theorem rewrite_Fork_1_ok : CE.ok Try.prog rewrite_Fork_1_ce := CE.of (Γ := [rewrite_swapped_ce, rewrite_normal_ce, det_Key_ce, slices_Clone_ce]) (by kernel_rfl) TT_ok (GOK.cons rewrite_swapped_ok (GOK.cons rewrite_normal_ok (GOK.cons det_Key_ok (GOK.cons slices_Clone_ok (GOK.nil))))) ⟨[], [], [(1, [(0, 0), (0, 1), (0, 2), (0, 3), (0, 6), (0, 7), (0, 8), (0, 9), (1, 4), (1, 5), (1, 10), (1, 11), (0, 12), (0, 13)])], []⟩ Try.func12 rfl Try.ntmps12 (rs := [.tmp 14]) rfl (sig := rewrite_Fork_1_sig) (out := rewrite_Fork_1_out) rfl Try.call12 (fun X => by kernel_rfl)

def rewrite_Fork_1_1_sig : Shape := ⟨[(.list (.int .i64)), (.pair (.list (.int .i64)) (.pair (.list (.int .i64)) .unit)), (.int .i64), (.pair (.list (.int .i64)) (.pair (.list (.int .i64)) .unit)), (.int .i64), (.list (.pair (.list (.int .i64)) (.pair (.list (.int .i64)) .unit))), (.list (.int .i64))], [(0, .v 0), (1, .v 1), (2, .v 2), (3, .v 3), (4, .v 4), (5, .addr 5), (6, .ptr 100000 0), (7, .ptr 100001 0), (8, .ptr 100002 0)], [(100000, .box 23 [.own 100003]), (100001, .box 23 [.nil]), (100002, .box 23 [.nil]), (100003, .arr 3 6)]⟩
def rewrite_Fork_1_1_out : Shape := ⟨[.bool, (.list (.int .i64)), (.list (.int .i64)), (.list (.int .i64))], [(0, .v 0)], [(100000, .box 23 [.v 1]), (100001, .box 23 [.v 2]), (100002, .box 23 [.v 3])]⟩
noncomputable def rewrite_Fork_1_1_ce : CE := ⟨12, rewrite_Fork_1_1_sig, rewrite_Fork_1_1_out, fun X => rewrite_Fork_1_1 X.1 X.2.1 X.2.2.1 X.2.2.2.1 X.2.2.2.2.1 X.2.2.2.2.2.1 X.2.2.2.2.2.2⟩
theorem rewrite_Fork_1_1_ok : CE.ok Try.prog rewrite_Fork_1_1_ce := CE.of (Γ := [rewrite_swapped_ce, rewrite_normal_ce, det_Key_ce, slices_Clone_ce]) (by kernel_rfl) TT_ok (GOK.cons rewrite_swapped_ok (GOK.cons rewrite_normal_ok (GOK.cons det_Key_ok (GOK.cons slices_Clone_ok (GOK.nil))))) ⟨[], [], [(1, [(0, 0), (0, 1), (0, 2), (0, 3), (0, 6), (0, 7), (0, 8), (0, 9), (1, 4), (1, 5), (1, 10), (1, 11), (0, 12), (0, 13)])], []⟩ Try.func12 rfl Try.ntmps12 (rs := [.tmp 14]) rfl (sig := rewrite_Fork_1_1_sig) (out := rewrite_Fork_1_1_out) rfl Try.call12 (fun X => by kernel_rfl)

def rewrite_Fork_1_2_sig : Shape := ⟨[(.list (.int .i64)), (.pair (.list (.int .i64)) (.pair (.list (.int .i64)) .unit)), (.int .i64), (.pair (.list (.int .i64)) (.pair (.list (.int .i64)) .unit)), (.int .i64), (.list (.pair (.list (.int .i64)) (.pair (.list (.int .i64)) .unit))), (.list (.int .i64))], [(0, .v 0), (1, .v 1), (2, .v 2), (3, .v 3), (4, .v 4), (5, .addr 5), (6, .ptr 100000 0), (7, .ptr 100001 0), (8, .ptr 100002 0)], [(100000, .box 23 [.v 6]), (100001, .box 23 [.nil]), (100002, .box 23 [.nil])]⟩
def rewrite_Fork_1_2_out : Shape := ⟨[.bool, (.list (.int .i64)), (.list (.int .i64)), (.list (.int .i64))], [(0, .v 0)], [(100000, .box 23 [.v 1]), (100001, .box 23 [.v 2]), (100002, .box 23 [.v 3])]⟩
noncomputable def rewrite_Fork_1_2_ce : CE := ⟨12, rewrite_Fork_1_2_sig, rewrite_Fork_1_2_out, fun X => rewrite_Fork_1_2 X.1 X.2.1 X.2.2.1 X.2.2.2.1 X.2.2.2.2.1 X.2.2.2.2.2.1 X.2.2.2.2.2.2⟩
theorem rewrite_Fork_1_2_ok : CE.ok Try.prog rewrite_Fork_1_2_ce := CE.of (Γ := [rewrite_swapped_ce, rewrite_normal_ce, det_Key_ce, slices_Clone_ce]) (by kernel_rfl) TT_ok (GOK.cons rewrite_swapped_ok (GOK.cons rewrite_normal_ok (GOK.cons det_Key_ok (GOK.cons slices_Clone_ok (GOK.nil))))) ⟨[], [], [(1, [(0, 0), (0, 1), (0, 2), (0, 3), (0, 6), (0, 7), (0, 8), (0, 9), (1, 4), (1, 5), (1, 10), (1, 11), (0, 12), (0, 13)])], []⟩ Try.func12 rfl Try.ntmps12 (rs := [.tmp 14]) rfl (sig := rewrite_Fork_1_2_sig) (out := rewrite_Fork_1_2_out) rfl Try.call12 (fun X => by kernel_rfl)

def rewrite_Fork_1_3_sig : Shape := ⟨[(.list (.int .i64)), (.pair (.list (.int .i64)) (.pair (.list (.int .i64)) .unit)), (.int .i64), (.pair (.list (.int .i64)) (.pair (.list (.int .i64)) .unit)), (.int .i64), (.list (.pair (.list (.int .i64)) (.pair (.list (.int .i64)) .unit))), (.list (.int .i64)), (.list (.int .i64))], [(0, .v 0), (1, .v 1), (2, .v 2), (3, .v 3), (4, .v 4), (5, .addr 5), (6, .ptr 100000 0), (7, .ptr 100001 0), (8, .ptr 100002 0)], [(100000, .box 23 [.v 6]), (100001, .box 23 [.own 100003]), (100002, .box 23 [.nil]), (100003, .arr 3 7)]⟩
def rewrite_Fork_1_3_out : Shape := ⟨[.bool, (.list (.int .i64)), (.list (.int .i64)), (.list (.int .i64))], [(0, .v 0)], [(100000, .box 23 [.v 1]), (100001, .box 23 [.v 2]), (100002, .box 23 [.v 3])]⟩
noncomputable def rewrite_Fork_1_3_ce : CE := ⟨12, rewrite_Fork_1_3_sig, rewrite_Fork_1_3_out, fun X => rewrite_Fork_1_3 X.1 X.2.1 X.2.2.1 X.2.2.2.1 X.2.2.2.2.1 X.2.2.2.2.2.1 X.2.2.2.2.2.2.1 X.2.2.2.2.2.2.2⟩
theorem rewrite_Fork_1_3_ok : CE.ok Try.prog rewrite_Fork_1_3_ce := CE.of (Γ := [rewrite_swapped_ce, rewrite_normal_ce, det_Key_ce, slices_Clone_ce]) (by kernel_rfl) TT_ok (GOK.cons rewrite_swapped_ok (GOK.cons rewrite_normal_ok (GOK.cons det_Key_ok (GOK.cons slices_Clone_ok (GOK.nil))))) ⟨[], [], [(1, [(0, 0), (0, 1), (0, 2), (0, 3), (0, 6), (0, 7), (0, 8), (0, 9), (1, 4), (1, 5), (1, 10), (1, 11), (0, 12), (0, 13)])], []⟩ Try.func12 rfl Try.ntmps12 (rs := [.tmp 14]) rfl (sig := rewrite_Fork_1_3_sig) (out := rewrite_Fork_1_3_out) rfl Try.call12 (fun X => by kernel_rfl)

def rewrite_Fork_1_4_sig : Shape := ⟨[(.list (.int .i64)), (.pair (.list (.int .i64)) (.pair (.list (.int .i64)) .unit)), (.int .i64), (.pair (.list (.int .i64)) (.pair (.list (.int .i64)) .unit)), (.int .i64), (.list (.pair (.list (.int .i64)) (.pair (.list (.int .i64)) .unit))), (.list (.int .i64)), (.list (.int .i64))], [(0, .v 0), (1, .v 1), (2, .v 2), (3, .v 3), (4, .v 4), (5, .addr 5), (6, .ptr 100000 0), (7, .ptr 100001 0), (8, .ptr 100002 0)], [(100000, .box 23 [.v 6]), (100001, .box 23 [.v 7]), (100002, .box 23 [.nil])]⟩
def rewrite_Fork_1_4_out : Shape := ⟨[.bool, (.list (.int .i64)), (.list (.int .i64)), (.list (.int .i64))], [(0, .v 0)], [(100000, .box 23 [.v 1]), (100001, .box 23 [.v 2]), (100002, .box 23 [.v 3])]⟩
noncomputable def rewrite_Fork_1_4_ce : CE := ⟨12, rewrite_Fork_1_4_sig, rewrite_Fork_1_4_out, fun X => rewrite_Fork_1_4 X.1 X.2.1 X.2.2.1 X.2.2.2.1 X.2.2.2.2.1 X.2.2.2.2.2.1 X.2.2.2.2.2.2.1 X.2.2.2.2.2.2.2⟩
theorem rewrite_Fork_1_4_ok : CE.ok Try.prog rewrite_Fork_1_4_ce := CE.of (Γ := [rewrite_swapped_ce, rewrite_normal_ce, det_Key_ce, slices_Clone_ce]) (by kernel_rfl) TT_ok (GOK.cons rewrite_swapped_ok (GOK.cons rewrite_normal_ok (GOK.cons det_Key_ok (GOK.cons slices_Clone_ok (GOK.nil))))) ⟨[], [], [(1, [(0, 0), (0, 1), (0, 2), (0, 3), (0, 6), (0, 7), (0, 8), (0, 9), (1, 4), (1, 5), (1, 10), (1, 11), (0, 12), (0, 13)])], []⟩ Try.func12 rfl Try.ntmps12 (rs := [.tmp 14]) rfl (sig := rewrite_Fork_1_4_sig) (out := rewrite_Fork_1_4_out) rfl Try.call12 (fun X => by kernel_rfl)

def rewrite_Fork_1_5_sig : Shape := ⟨[(.list (.int .i64)), (.pair (.list (.int .i64)) (.pair (.list (.int .i64)) .unit)), (.int .i64), (.pair (.list (.int .i64)) (.pair (.list (.int .i64)) .unit)), (.int .i64), (.list (.pair (.list (.int .i64)) (.pair (.list (.int .i64)) .unit))), (.list (.int .i64)), (.list (.int .i64)), (.list (.int .i64))], [(0, .v 0), (1, .v 1), (2, .v 2), (3, .v 3), (4, .v 4), (5, .addr 5), (6, .ptr 100000 0), (7, .ptr 100001 0), (8, .ptr 100002 0)], [(100000, .box 23 [.v 6]), (100001, .box 23 [.v 7]), (100002, .box 23 [.own 100003]), (100003, .arr 3 8)]⟩
def rewrite_Fork_1_5_out : Shape := ⟨[.bool, (.list (.int .i64)), (.list (.int .i64)), (.list (.int .i64))], [(0, .v 0)], [(100000, .box 23 [.v 1]), (100001, .box 23 [.v 2]), (100002, .box 23 [.v 3])]⟩
noncomputable def rewrite_Fork_1_5_ce : CE := ⟨12, rewrite_Fork_1_5_sig, rewrite_Fork_1_5_out, fun X => rewrite_Fork_1_5 X.1 X.2.1 X.2.2.1 X.2.2.2.1 X.2.2.2.2.1 X.2.2.2.2.2.1 X.2.2.2.2.2.2.1 X.2.2.2.2.2.2.2.1 X.2.2.2.2.2.2.2.2⟩
theorem rewrite_Fork_1_5_ok : CE.ok Try.prog rewrite_Fork_1_5_ce := CE.of (Γ := [rewrite_swapped_ce, rewrite_normal_ce, det_Key_ce, slices_Clone_ce]) (by kernel_rfl) TT_ok (GOK.cons rewrite_swapped_ok (GOK.cons rewrite_normal_ok (GOK.cons det_Key_ok (GOK.cons slices_Clone_ok (GOK.nil))))) ⟨[], [], [(1, [(0, 0), (0, 1), (0, 2), (0, 3), (0, 6), (0, 7), (0, 8), (0, 9), (1, 4), (1, 5), (1, 10), (1, 11), (0, 12), (0, 13)])], []⟩ Try.func12 rfl Try.ntmps12 (rs := [.tmp 14]) rfl (sig := rewrite_Fork_1_5_sig) (out := rewrite_Fork_1_5_out) rfl Try.call12 (fun X => by kernel_rfl)

def rewrite_Fork_1_6_sig : Shape := ⟨[(.list (.int .i64)), (.pair (.list (.int .i64)) (.pair (.list (.int .i64)) .unit)), (.int .i64), (.pair (.list (.int .i64)) (.pair (.list (.int .i64)) .unit)), (.int .i64), (.list (.pair (.list (.int .i64)) (.pair (.list (.int .i64)) .unit))), (.list (.int .i64)), (.list (.int .i64)), (.list (.int .i64))], [(0, .v 0), (1, .v 1), (2, .v 2), (3, .v 3), (4, .v 4), (5, .addr 5), (6, .ptr 100000 0), (7, .ptr 100001 0), (8, .ptr 100002 0)], [(100000, .box 23 [.v 6]), (100001, .box 23 [.v 7]), (100002, .box 23 [.v 8])]⟩
def rewrite_Fork_1_6_out : Shape := ⟨[.bool, (.list (.int .i64)), (.list (.int .i64)), (.list (.int .i64))], [(0, .v 0)], [(100000, .box 23 [.v 1]), (100001, .box 23 [.v 2]), (100002, .box 23 [.v 3])]⟩
noncomputable def rewrite_Fork_1_6_ce : CE := ⟨12, rewrite_Fork_1_6_sig, rewrite_Fork_1_6_out, fun X => rewrite_Fork_1_6 X.1 X.2.1 X.2.2.1 X.2.2.2.1 X.2.2.2.2.1 X.2.2.2.2.2.1 X.2.2.2.2.2.2.1 X.2.2.2.2.2.2.2.1 X.2.2.2.2.2.2.2.2⟩
theorem rewrite_Fork_1_6_ok : CE.ok Try.prog rewrite_Fork_1_6_ce := CE.of (Γ := [rewrite_swapped_ce, rewrite_normal_ce, det_Key_ce, slices_Clone_ce]) (by kernel_rfl) TT_ok (GOK.cons rewrite_swapped_ok (GOK.cons rewrite_normal_ok (GOK.cons det_Key_ok (GOK.cons slices_Clone_ok (GOK.nil))))) ⟨[], [], [(1, [(0, 0), (0, 1), (0, 2), (0, 3), (0, 6), (0, 7), (0, 8), (0, 9), (1, 4), (1, 5), (1, 10), (1, 11), (0, 12), (0, 13)])], []⟩ Try.func12 rfl Try.ntmps12 (rs := [.tmp 14]) rfl (sig := rewrite_Fork_1_6_sig) (out := rewrite_Fork_1_6_out) rfl Try.call12 (fun X => by kernel_rfl)

def rewrite_Fork_sig : Shape := ⟨[(.int .i64), (.list (.pair (.list (.int .i64)) (.pair (.list (.int .i64)) .unit)))], [(0, .v 0), (1, .v 1)], []⟩
def rewrite_Fork_out : Shape := ⟨[(.list (.int .i64)), (.list (.int .i64)), (.list (.int .i64)), .bool, (.int .i64)], [(0, .v 0), (1, .v 1), (2, .v 2), (3, .v 3), (4, .v 4)], []⟩
noncomputable def rewrite_Fork_ce : CE := ⟨4, rewrite_Fork_sig, rewrite_Fork_out, fun X => rewrite_Fork X.1 X.2⟩
theorem rewrite_Fork_ok : CE.ok Try.prog rewrite_Fork_ce := CE.of (Γ := [rewrite_Fork_1_6_ce, rewrite_Check_ce, slices_Equal_ce, slices_Concat_ce]) (by kernel_rfl) TT_ok (GOK.cons rewrite_Fork_1_6_ok (GOK.cons rewrite_Check_ok (GOK.cons slices_Equal_ok (GOK.cons slices_Concat_ok (GOK.nil))))) ⟨[(6, ⟨⟨[(.list (.pair (.list (.int .i64)) (.pair (.list (.int .i64)) .unit))), (.list (.pair (.list (.int .i64)) (.pair (.list (.int .i64)) .unit))), (.int .i64), (.list (.int .i64)), (.list (.int .i64)), (.list (.int .i64))], [(3, .addr 0), (4, .ptr 1 0), (5, .ptr 2 0), (6, .ptr 3 0), (10, .fn 12 [.addr 1, .ptr 1 0, .ptr 2 0, .ptr 3 0]), (26, .v 2)], [(1, .box 23 [.v 3]), (2, .box 23 [.v 4]), (3, .box 23 [.v 5])]⟩, [7, 8, 12, 14, 15, 16, 23, 27, 28, 29, 30, 31, 32, 33, 34, 35, 36, 37, 38, 39, 40, 41, 42, 43, 44, 45, 46, 47, 48, 49, 50, 51, 52, 53, 54, 55, 56, 57, 58, 59, 60, 61, 62, 63, 64, 65, 66, 67, 68, 69, 70, 71, 72, 73, 74, 75, 76, 77, 78, 79, 80, 81, 82, 83, 84], [0], [], 4, [(3, 999999, none, (.list (.pair (.list (.int .i64)) (.pair (.list (.int .i64)) .unit)))), (1, 0, none, (.int .i64)), (2, 0, none, (.int .i64)), (3, 0, none, (.int .i64))]⟩), (9, ⟨⟨[(.list (.pair (.list (.int .i64)) (.pair (.list (.int .i64)) .unit))), (.list (.pair (.list (.int .i64)) (.pair (.list (.int .i64)) .unit))), (.int .i64), (.list (.int .i64)), (.list (.int .i64)), (.list (.int .i64)), (.list (.int .i64)), (.list (.int .i64))], [(3, .addr 0), (4, .ptr 1 0), (5, .ptr 2 0), (6, .ptr 3 0), (10, .fn 12 [.addr 1, .ptr 1 0, .ptr 2 0, .ptr 3 0]), (12, .ptr 4 0), (32, .v 2)], [(1, .box 23 [.v 3]), (2, .box 23 [.v 4]), (3, .box 23 [.v 5]), (4, .box 36 [.v 6, .v 7])]⟩, [7, 8, 14, 15, 16, 23, 33, 34, 35, 36, 37, 38, 39, 40, 41, 42, 43, 44, 45, 46, 47, 48, 49, 50, 51, 52, 53, 54, 55, 56, 57, 58, 59, 60, 61, 62, 63, 64, 65, 66, 67, 68, 69, 70, 71, 72, 73, 74, 75, 76, 77, 78, 79, 80, 81, 82, 83], [0], [], 5, []⟩), (12, ⟨⟨[(.list (.pair (.list (.int .i64)) (.pair (.list (.int .i64)) .unit))), (.list (.pair (.list (.int .i64)) (.pair (.list (.int .i64)) .unit))), (.int .i64), (.list (.int .i64)), (.list (.int .i64)), (.list (.int .i64)), (.list (.int .i64)), (.list (.int .i64)), (.list (.int .i64)), (.list (.int .i64))], [(3, .addr 0), (4, .ptr 1 0), (5, .ptr 2 0), (6, .ptr 3 0), (10, .fn 12 [.addr 1, .ptr 1 0, .ptr 2 0, .ptr 3 0]), (12, .ptr 4 0), (14, .ptr 5 0), (39, .v 2)], [(1, .box 23 [.v 3]), (2, .box 23 [.v 4]), (3, .box 23 [.v 5]), (4, .box 36 [.v 6, .v 7]), (5, .box 36 [.v 8, .v 9])]⟩, [7, 8, 15, 16, 23, 36, 40, 41, 42, 43, 44, 45, 46, 47, 48, 49, 50, 51, 52, 53, 54, 55, 56, 57, 58, 59, 60, 61, 62, 63, 64, 65, 66, 67, 68, 69, 70, 71, 72, 73, 74, 75, 76, 77, 78, 79, 80, 81, 82], [0], [], 6, []⟩)], [(17, ⟨⟨[(.list (.pair (.list (.int .i64)) (.pair (.list (.int .i64)) .unit))), (.list (.pair (.list (.int .i64)) (.pair (.list (.int .i64)) .unit))), (.list (.int .i64)), (.list (.int .i64)), (.list (.int .i64)), (.list (.int .i64)), (.list (.int .i64))], [(3, .addr 0), (4, .ptr 1 0), (5, .ptr 2 0), (6, .ptr 3 0), (10, .fn 12 [.addr 1, .ptr 1 0, .ptr 2 0, .ptr 3 0]), (14, .ptr 5 0)], [(1, .box 23 [.v 2]), (2, .box 23 [.v 3]), (3, .box 23 [.v 4]), (5, .box 36 [.v 5, .v 6])]⟩, [7, 8, 15, 16, 23, 41, 42, 43, 44, 45, 46, 47, 48, 49, 50, 51, 52, 53, 54, 55, 56, 57, 58, 59, 60, 61, 62, 63, 64, 65, 66, 67, 68, 69, 70, 71, 72, 73, 74, 75, 76, 77, 78, 79, 80, 81], [0, 6], [4], 6, []⟩)], [(15, [(0, 0), (0, 1), (0, 2), (0, 3), (0, 4), (0, 5), (0, 6), (0, 7), (0, 8), (0, 9), (0, 10), (1, 11), (0, 12), (0, 13)]), (16, [(0, 0), (0, 1), (0, 2), (0, 3), (0, 4), (0, 5), (0, 6), (0, 9), (0, 10), (0, 11), (1, 7), (1, 8), (2, 12), (0, 13)])], [(17, (.live [3, 4, 5] (.rd 0 [3, 4, 5, 6, 7] (.alt 0 1 (.alt 0 2 (.alt 2 3 (.leaf [(2, 4), (2, 5), (0, 6), (0, 7)]) .stop) (.alt 2 3 (.alt 0 2 (.leaf [(2, 4), (2, 5), (0, 6), (0, 7)]) (.alt 2 4 (.leaf [(0, 2), (2, 5), (0, 6), (0, 7)]) .stop)) .stop)) (.alt 0 2 (.alt 0 1 (.alt 2 3 (.leaf [(2, 4), (2, 5), (0, 6), (0, 7)]) .stop) (.alt 2 3 (.leaf [(0, 1), (2, 4), (2, 5), (0, 6), (0, 7)]) .stop)) (.alt 2 3 (.live [4, 5] (.rd 1 [4, 5, 6, 7] (.alt 0 2 (.alt 2 4 (.leaf [(2, 5), (0, 6), (0, 7)]) .stop) (.alt 2 4 (.leaf [(0, 2), (2, 5), (0, 6), (0, 7)]) .stop)))) .stop))))))]⟩ Try.func4 rfl Try.ntmps4 (rs := [.cell 4 23, .cell 5 23, .cell 6 23, .tmp 7, .tmp 8]) rfl (sig := rewrite_Fork_sig) (out := rewrite_Fork_out) rfl Try.call4 (fun X => by kernel_rfl)

def r29_letters_sig : Shape := ⟨[(.list (.int .i64)), (.int .i64)], [(0, .v 0), (1, .v 1)], []⟩
def r29_letters_out : Shape := ⟨[.bool], [(0, .v 0)], []⟩
noncomputable def r29_letters_ce : CE := ⟨19, r29_letters_sig, r29_letters_out, fun X => r29_letters X.1 X.2⟩
theorem r29_letters_ok : CE.ok Try.prog r29_letters_ce := CE.of (Γ := []) (by kernel_rfl) TT_ok (GOK.nil) ⟨[(2, ⟨⟨[(.int .i64)], [(5, .v 0)], []⟩, [4, 6, 7, 8, 9, 10, 11, 12, 13, 14, 15, 16, 17, 18, 19, 20, 21, 22, 23, 24], [], [], 0, []⟩)], [], [], []⟩ Try.func19 rfl Try.ntmps19 (rs := [.tmp 4]) rfl (sig := r29_letters_sig) (out := r29_letters_out) rfl Try.call19 (fun X => by kernel_rfl)

def r1_Before_sig : Shape := ⟨[(.list (.int .i64)), (.list (.int .i64))], [(0, .v 0), (1, .v 1)], []⟩
def r1_Before_out : Shape := ⟨[.bool], [(0, .v 0)], []⟩
noncomputable def r1_Before_ce : CE := ⟨20, r1_Before_sig, r1_Before_out, fun X => r1_Before X.1 X.2⟩
theorem r1_Before_ok : CE.ok Try.prog r1_Before_ce := CE.of (Γ := []) (by kernel_rfl) TT_ok (GOK.nil) ⟨[(4, ⟨⟨[(.int .i64)], [(5, .v 0)], []⟩, [4, 16, 17, 18, 19, 20, 21, 22, 23, 24, 25, 26, 27, 28, 29, 30, 31, 32, 33, 34, 35, 36, 37, 38, 39], [], [], 0, []⟩)], [], [(6, [(0, 0), (0, 1), (0, 2), (0, 3), (0, 4), (0, 5), (0, 6), (0, 7), (0, 8)]), (7, [(0, 0), (0, 1), (0, 2), (0, 3), (0, 4), (0, 5), (0, 6), (0, 7), (0, 8), (0, 9)])], []⟩ Try.func20 rfl Try.ntmps20 (rs := [.tmp 4]) rfl (sig := r1_Before_sig) (out := r1_Before_out) rfl Try.call20 (fun X => by kernel_rfl)

def r29_Check_sig : Shape := ⟨[(.int .i64), (.list (.pair (.list (.int .i64)) (.pair (.list (.int .i64)) .unit)))], [(0, .v 0), (1, .v 1)], []⟩
def r29_Check_out : Shape := ⟨[(.int .i64)], [(0, .v 0)], []⟩
noncomputable def r29_Check_ce : CE := ⟨5, r29_Check_sig, r29_Check_out, fun X => r29_Check X.1 X.2⟩
theorem r29_Check_ok : CE.ok Try.prog r29_Check_ce := CE.of (Γ := [r29_letters_ce, r1_Before_ce]) (by kernel_rfl) TT_ok (GOK.cons r29_letters_ok (GOK.cons r1_Before_ok (GOK.nil))) ⟨[(6, ⟨⟨[(.int .i64)], [(5, .v 0)], []⟩, [4, 6, 7, 8, 9, 19, 20, 21, 22, 23, 24, 25, 26, 27, 28, 29, 30, 31, 32, 33, 34, 35, 36, 37, 38, 39, 40, 41, 42, 43, 44, 45, 46, 47, 48, 49, 50, 51, 52, 53, 54, 55, 56, 57, 58, 59, 60, 61, 62, 63, 64, 65], [], [], 0, []⟩)], [], [], []⟩ Try.func5 rfl Try.ntmps5 (rs := [.tmp 4]) rfl (sig := r29_Check_sig) (out := r29_Check_out) rfl Try.call5 (fun X => by kernel_rfl)

def r1_Words_sig : Shape := ⟨[(.list (.int .i64)), (.list (.int .i64))], [(0, .v 0), (1, .v 1)], []⟩
def r1_Words_out : Shape := ⟨[.bool], [(0, .v 0)], []⟩
noncomputable def r1_Words_ce : CE := ⟨8, r1_Words_sig, r1_Words_out, fun X => r1_Words X.1 X.2⟩
theorem r1_Words_ok : CE.ok Try.prog r1_Words_ce := CE.of (Γ := []) (by kernel_rfl) TT_ok (GOK.nil) ⟨[(4, ⟨⟨[(.int .i64)], [(5, .v 0)], []⟩, [4, 11, 12, 13, 14, 15, 16, 17, 18, 19, 20, 21, 22, 23, 24, 25], [], [], 0, []⟩)], [], [(6, [(0, 0), (0, 1), (0, 2), (0, 3), (0, 4), (0, 5), (0, 6), (0, 7), (0, 8)])], []⟩ Try.func8 rfl Try.ntmps8 (rs := [.tmp 4]) rfl (sig := r1_Words_sig) (out := r1_Words_out) rfl Try.call8 (fun X => by kernel_rfl)

def r29_Swapped_sig : Shape := ⟨[(.list (.int .i64)), (.pair (.list (.int .i64)) (.pair (.list (.int .i64)) .unit)), (.int .i64)], [(0, .v 0), (1, .v 1), (2, .v 2)], []⟩
def r29_Swapped_out : Shape := ⟨[(.list (.int .i64))], [(0, .own 0)], [(0, .arr 3 0)]⟩
noncomputable def r29_Swapped_ce : CE := ⟨21, r29_Swapped_sig, r29_Swapped_out, fun X => r29_Swapped X.1 X.2.1 X.2.2⟩
theorem r29_Swapped_ok : CE.ok Try.prog r29_Swapped_ce := CE.of (Γ := []) (by kernel_rfl) TT_ok (GOK.nil) ⟨[], [], [], []⟩ Try.func21 rfl Try.ntmps21 (rs := [.tmp 6]) rfl (sig := r29_Swapped_sig) (out := r29_Swapped_out) rfl Try.call21 (fun X => by kernel_rfl)

def r29_Stands_sig : Shape := ⟨[(.list (.int .i64)), (.list (.int .i64)), (.int .i64)], [(0, .v 0), (1, .v 1), (2, .v 2)], []⟩
def r29_Stands_out : Shape := ⟨[.bool], [(0, .v 0)], []⟩
noncomputable def r29_Stands_ce : CE := ⟨23, r29_Stands_sig, r29_Stands_out, fun X => r29_Stands X.1 X.2.1 X.2.2⟩
theorem r29_Stands_ok : CE.ok Try.prog r29_Stands_ce := CE.of (Γ := [r1_Words_ce]) (by kernel_rfl) TT_ok (GOK.cons r1_Words_ok (GOK.nil)) ⟨[], [], [], []⟩ Try.func23 rfl Try.ntmps23 (rs := [.tmp 6]) rfl (sig := r29_Stands_sig) (out := r29_Stands_out) rfl Try.call23 (fun X => by kernel_rfl)

def r29_Step_sig : Shape := ⟨[(.list (.pair (.list (.int .i64)) (.pair (.list (.int .i64)) .unit))), (.list (.int .i64))], [(0, .v 0), (1, .v 1)], []⟩
def r29_Step_out : Shape := ⟨[(.list (.int .i64)), .bool], [(0, .v 0), (1, .v 1)], []⟩
noncomputable def r29_Step_ce : CE := ⟨9, r29_Step_sig, r29_Step_out, fun X => r29_Step X.1 X.2⟩
theorem r29_Step_ok : CE.ok Try.prog r29_Step_ce := CE.of (Γ := [r29_Stands_ce, r29_Swapped_ce]) (by kernel_rfl) TT_ok (GOK.cons r29_Stands_ok (GOK.cons r29_Swapped_ok (GOK.nil))) ⟨[(2, ⟨⟨[(.int .i64)], [(6, .v 0)], []⟩, [4, 5, 7, 8, 9, 10, 11, 12, 13, 14, 15, 16, 17, 18, 19, 20, 21, 22, 23, 24, 25, 26, 27, 28, 29, 30, 31, 32, 33, 34, 35, 36, 37, 38], [], [], 0, []⟩), (5, ⟨⟨[(.int .i64)], [(7, .v 0)], []⟩, [4, 5, 8, 9, 16, 17, 18, 19, 20, 21, 22, 23, 24, 25, 26, 27, 28, 29, 30, 31, 32, 33, 34, 35, 36, 37, 38], [], [], 0, []⟩)], [], [], []⟩ Try.func9 rfl Try.ntmps9 (rs := [.tmp 4, .tmp 5]) rfl (sig := r29_Step_sig) (out := r29_Step_out) rfl Try.call9 (fun X => by kernel_rfl)

def r29_Normal_sig : Shape := ⟨[(.list (.pair (.list (.int .i64)) (.pair (.list (.int .i64)) .unit))), (.list (.int .i64))], [(0, .v 0), (1, .v 1)], []⟩
def r29_Normal_out : Shape := ⟨[(.list (.int .i64))], [(0, .v 0)], []⟩
noncomputable def r29_Normal_ce : CE := ⟨22, r29_Normal_sig, r29_Normal_out, fun X => r29_Normal X.1 X.2⟩
theorem r29_Normal_ok : CE.ok Try.prog r29_Normal_ce := CE.of (Γ := [r29_Step_ce]) (by kernel_rfl) TT_ok (GOK.cons r29_Step_ok (GOK.nil)) ⟨[(2, ⟨⟨[(.list (.int .i64)), .bool], [(1, .v 0), (5, .v 1)], []⟩, [6, 7, 8, 9, 10, 11, 12], [], [], 0, []⟩)], [], [], []⟩ Try.func22 rfl Try.ntmps22 (rs := [.tmp 4]) rfl (sig := r29_Normal_sig) (out := r29_Normal_out) rfl Try.call22 (fun X => by kernel_rfl)

def r29_Meet_sig : Shape := ⟨[(.list (.pair (.list (.int .i64)) (.pair (.list (.int .i64)) .unit)))], [(0, .v 0)], []⟩
def r29_Meet_out : Shape := ⟨[.bool], [(0, .v 0)], []⟩
noncomputable def r29_Meet_ce : CE := ⟨6, r29_Meet_sig, r29_Meet_out, fun X => r29_Meet X⟩
theorem r29_Meet_ok : CE.ok Try.prog r29_Meet_ce := CE.of (Γ := [r1_Words_ce, r29_Swapped_ce, r29_Normal_ce]) (by kernel_rfl) TT_ok (GOK.cons r1_Words_ok (GOK.cons r29_Swapped_ok (GOK.cons r29_Normal_ok (GOK.nil)))) ⟨[(2, ⟨⟨[(.int .i64)], [(3, .v 0)], []⟩, [2, 4, 5, 6, 7, 8, 9, 10, 11, 12, 13, 14, 15, 16, 17, 18, 19, 20, 21, 22, 23, 24, 25, 26, 27, 28, 29, 30, 31, 32, 33, 34, 35, 36, 37, 38, 39, 40, 41, 42, 43, 44, 45, 46, 47, 48, 49, 50, 51, 52, 53, 54, 55, 56, 57, 58, 59, 60, 61, 62, 63, 64, 65, 66, 67, 68, 69, 70, 71, 72, 73, 74, 75, 76, 77, 78, 79, 80, 81, 82, 83, 84, 85, 86, 87, 88, 89, 90, 91, 92, 93, 94, 95, 96, 97, 98, 99, 100, 101, 102, 103, 104, 105, 106, 107, 108, 109, 110, 111, 112, 113, 114], [], [], 0, []⟩), (5, ⟨⟨[(.int .i64)], [(4, .v 0)], []⟩, [2, 5, 6, 7, 8, 9, 10, 17, 18, 19, 20, 21, 22, 23, 24, 25, 26, 27, 28, 29, 30, 31, 32, 33, 34, 35, 36, 37, 38, 39, 40, 41, 42, 43, 44, 45, 46, 47, 48, 49, 50, 51, 52, 53, 54, 55, 56, 57, 58, 59, 60, 61, 62, 63, 64, 65, 66, 67, 68, 69, 70, 71, 72, 73, 74, 75, 76, 77, 78, 79, 80, 81, 82, 83, 84, 85, 86, 87, 88, 89, 90, 91, 92, 93, 94, 95, 96, 97, 98, 99, 100, 101, 102, 103, 104, 105, 106, 107, 108, 109, 110, 111, 112, 113, 114], [], [], 0, []⟩), (8, ⟨⟨[(.int .i64)], [(5, .v 0)], []⟩, [2, 6, 7, 8, 9, 10, 23, 24, 25, 26, 27, 28, 29, 30, 31, 32, 33, 34, 35, 36, 37, 38, 39, 40, 41, 42, 43, 44, 45, 46, 47, 48, 49, 50, 51, 52, 53, 54, 55, 56, 57, 58, 59, 60, 61, 62, 63, 64, 65, 66, 67, 68, 69, 70, 71, 72, 73, 74, 75, 76, 77, 78, 79, 80, 81, 82, 83, 84, 85, 86, 87, 88, 89, 90, 91, 92, 93, 94, 95, 96, 97, 98, 99, 100, 101, 102, 103, 104, 105, 106, 107, 108, 109, 110, 111, 112, 113, 114], [], [], 0, []⟩)], [(12, ⟨⟨[(.int .i64)], [(6, .v 0)], []⟩, [41, 42, 43, 44, 45, 46, 47, 48, 49, 50, 51, 52, 53, 54], [], [], 0, []⟩)], [(13, [(0, 0), (0, 1), (0, 2), (0, 3), (0, 4), (0, 5), (0, 6), (0, 7), (0, 8), (0, 9), (0, 10), (0, 11), (0, 12), (0, 13), (0, 14), (0, 15), (0, 16), (1, 17), (0, 18)])], []⟩ Try.func6 rfl Try.ntmps6 (rs := [.tmp 2]) rfl (sig := r29_Meet_sig) (out := r29_Meet_out) rfl Try.call6 (fun X => by kernel_rfl)

def r29_Letters_sig : Shape := ⟨[(.list (.int .i64)), (.int .i64)], [(0, .v 0), (1, .v 1)], []⟩
def r29_Letters_out : Shape := ⟨[.bool], [(0, .v 0)], []⟩
noncomputable def r29_Letters_ce : CE := ⟨7, r29_Letters_sig, r29_Letters_out, fun X => r29_Letters X.1 X.2⟩
theorem r29_Letters_ok : CE.ok Try.prog r29_Letters_ce := CE.of (Γ := [r29_letters_ce]) (by kernel_rfl) TT_ok (GOK.cons r29_letters_ok (GOK.nil)) ⟨[], [], [], []⟩ Try.func7 rfl Try.ntmps7 (rs := [.tmp 4]) rfl (sig := r29_Letters_sig) (out := r29_Letters_out) rfl Try.call7 (fun X => by kernel_rfl)

def r29_Comes_sig : Shape := ⟨[(.list (.pair (.list (.int .i64)) (.pair (.list (.int .i64)) .unit))), (.list (.int .i64)), (.list (.int .i64))], [(0, .v 0), (1, .v 1), (2, .v 2)], []⟩
def r29_Comes_out : Shape := ⟨[(.int .i64)], [(0, .v 0)], []⟩
noncomputable def r29_Comes_ce : CE := ⟨10, r29_Comes_sig, r29_Comes_out, fun X => r29_Comes X.1 X.2.1 X.2.2⟩
theorem r29_Comes_ok : CE.ok Try.prog r29_Comes_ce := CE.of (Γ := [r1_Words_ce, r29_Stands_ce, r29_Swapped_ce]) (by kernel_rfl) TT_ok (GOK.cons r1_Words_ok (GOK.cons r29_Stands_ok (GOK.cons r29_Swapped_ok (GOK.nil)))) ⟨[(3, ⟨⟨[(.int .i64), (.list (.list (.int .i64)))], [(7, .own 0), (8, .v 0)], [(0, .arr 23 1)]⟩, [6, 9, 10, 11, 12, 13, 14, 15, 17, 18, 19, 20, 21, 22, 23, 24, 25, 26, 27, 28, 29, 30, 31, 32, 33, 34, 35, 36, 37, 38, 39, 40, 41, 42, 43, 44, 45, 46, 47, 48, 49, 50, 51, 52, 53, 54, 55, 56, 57, 58, 59, 60, 61, 62, 63, 64, 65, 66, 67, 68, 69, 70, 71, 72, 73, 74, 75, 76, 77, 78, 79, 80, 81, 82, 83, 84, 85, 86, 87, 88, 89, 90, 91, 92, 93], [], [], 1, []⟩), (9, ⟨⟨[(.int .i64), (.list (.list (.int .i64)))], [(7, .own 0), (10, .v 0)], [(0, .arr 23 1)]⟩, [6, 11, 12, 13, 14, 15, 19, 24, 26, 31, 32, 33, 34, 35, 36, 37, 38, 39, 40, 41, 42, 43, 44, 45, 46, 47, 48, 49, 50, 51, 52, 53, 54, 55, 56, 57, 58, 59, 60, 61, 62, 63, 64, 65, 66, 67, 68, 69, 70, 71, 72, 73, 74, 75, 76, 77, 78, 79, 80, 81, 82, 83, 84, 85, 86, 87, 88, 89, 90, 91, 92, 93], [], [], 1, []⟩), (12, ⟨⟨[(.int .i64), (.list (.list (.int .i64)))], [(7, .own 0), (11, .v 0)], [(0, .arr 23 1)]⟩, [6, 12, 13, 14, 15, 32, 34, 40, 41, 42, 43, 44, 45, 46, 47, 48, 49, 50, 51, 52, 53, 54, 55, 56, 57, 58, 59, 60, 61, 62, 63, 64, 65, 66, 67, 68, 69, 70, 71, 72, 73, 74, 75, 76, 77, 78, 79, 80, 81, 82, 83, 84, 85, 86, 87, 88, 89, 90, 91, 92, 93], [], [], 1, []⟩), (19, ⟨⟨[.bool, (.int .i64)], [(14, .v 0), (15, .v 1)], []⟩, [69, 70, 71, 72, 73, 74, 75, 76, 77, 78, 79, 80, 81, 82, 83, 84], [], [0, 1], 2, []⟩)], [(20, ⟨⟨[.bool], [(14, .v 0)], []⟩, [15, 69, 70, 71, 72, 73, 74, 75, 76, 77, 78, 79, 80, 81, 82, 83, 84], [], [0, 1], 2, []⟩)], [(14, [(0, 0), (0, 1), (0, 2), (0, 3), (0, 4), (0, 5), (0, 6), (0, 7), (0, 8), (0, 9), (1, 10), (0, 11)]), (16, [(0, 0), (0, 1), (0, 2), (0, 3), (0, 4), (0, 5), (0, 6), (0, 7), (0, 8), (1, 9), (0, 10)])], []⟩ Try.func10 rfl Try.ntmps10 (rs := [.tmp 6]) rfl (sig := r29_Comes_sig) (out := r29_Comes_out) rfl Try.call10 (fun X => by kernel_rfl)

def law_RewriteForks_sig : Shape := ⟨[(.int .i64), (.list (.pair (.list (.int .i64)) (.pair (.list (.int .i64)) .unit)))], [(0, .v 0), (1, .v 1)], []⟩
def law_RewriteForks_out : Shape := ⟨[.bool], [(0, .v 0)], []⟩
noncomputable def law_RewriteForks_ce : CE := ⟨3, law_RewriteForks_sig, law_RewriteForks_out, fun X => law_RewriteForks X.1 X.2⟩
theorem law_RewriteForks_ok : CE.ok Try.prog law_RewriteForks_ce := CE.of (Γ := [rewrite_Fork_ce, r29_Check_ce, r29_Meet_ce, r29_Letters_ce, r1_Words_ce, r29_Step_ce, r29_Comes_ce]) (by kernel_rfl) TT_ok (GOK.cons rewrite_Fork_ok (GOK.cons r29_Check_ok (GOK.cons r29_Meet_ok (GOK.cons r29_Letters_ok (GOK.cons r1_Words_ok (GOK.cons r29_Step_ok (GOK.cons r29_Comes_ok (GOK.nil)))))))) ⟨[], [], [], []⟩ Try.func3 rfl Try.ntmps3 (rs := [.tmp 4]) rfl (sig := law_RewriteForks_sig) (out := law_RewriteForks_out) rfl Try.call3 (fun X => by kernel_rfl)

end Go.Proofs.Ytdcnnmjodpecaaa.rewriteForksW
