/- That the functions of 'TwoRuns' compute so. -/
import Derived.Test.YtjhgdnfkipchoaaTwoRunsD
import Derived.Test.YtjhgdnfkipchoaaProg
import Derived.KernelRfl
set_option maxHeartbeats 1000000
set_option maxRecDepth 20000
set_option linter.unusedSimpArgs false
set_option linter.unusedVariables false
namespace Go.Proofs.Ytjhgdnfkipchoaa.twoRunsW
open Go Go.Ab
def te3 : TE := ⟨3, .int .i64, false, 1, 8, .int .i64 0, some (.int .i64)⟩
theorem te3_ok : TEok Try.prog te3 := ⟨TI.of Try.underlying3 rfl (by kernel_rfl), Try.underlying3, fun t h => by cases h; exact ⟨rfl, rfl, by decide, rfl⟩⟩
def te4 : TE := ⟨4, .bool, false, 1, 1, .bool false, some .bool⟩
theorem te4_ok : TEok Try.prog te4 := ⟨TI.of Try.underlying4 rfl (by kernel_rfl), Try.underlying4, fun t h => by cases h; exact ⟨rfl, rfl, by decide, rfl⟩⟩
def te22 : TE := ⟨22, .slice 23, false, 1, 24, .slice none 0 0, some (.list (.list (.int .i64)))⟩
theorem te22_ok : TEok Try.prog te22 := ⟨TI.of Try.underlying22 rfl (by kernel_rfl), Try.underlying22, fun t h => by cases h; exact ⟨rfl, rfl, by decide, rfl⟩⟩
def te23 : TE := ⟨23, .slice 3, false, 1, 24, .slice none 0 0, some (.list (.int .i64))⟩
theorem te23_ok : TEok Try.prog te23 := ⟨TI.of Try.underlying23 rfl (by kernel_rfl), Try.underlying23, fun t h => by cases h; exact ⟨rfl, rfl, by decide, rfl⟩⟩
def te26 : TE := ⟨26, .int .i64, false, 1, 8, .int .i64 0, some (.int .i64)⟩
theorem te26_ok : TEok Try.prog te26 := ⟨TI.of Try.underlying26 rfl (by kernel_rfl), Try.underlying26, fun t h => by cases h; exact ⟨rfl, rfl, by decide, rfl⟩⟩
def te78 : TE := ⟨78, .slice 141, false, 1, 24, .slice none 0 0, some (.list (.list (.pair (.int .i64) (.pair (.int .i64) .unit))))⟩
theorem te78_ok : TEok Try.prog te78 := ⟨TI.of Try.underlying78 rfl (by kernel_rfl), Try.underlying78, fun t h => by cases h; exact ⟨rfl, rfl, by decide, rfl⟩⟩
def te80 : TE := ⟨80, .struct [(0, 3), (1, 3), (2, 78), (3, 23)], true, 4, 64, .agg ⟨[.int .i64 0, .int .i64 0, .slice none 0 0, .slice none 0 0]⟩, some (.pair (.int .i64) (.pair (.int .i64) (.pair (.list (.list (.pair (.int .i64) (.pair (.int .i64) .unit)))) (.pair (.list (.int .i64)) .unit))))⟩
theorem te80_ok : TEok Try.prog te80 := ⟨TI.of Try.underlying80 rfl (by kernel_rfl), ⟨_, Try.underlying80, rfl⟩, fun t h => by cases h; exact ⟨rfl, rfl, by decide, rfl⟩⟩
def te112 : TE := ⟨112, .other, false, 1, 8, .nilFunc, none⟩
theorem te112_ok : TEok Try.prog te112 := ⟨TI.of Try.underlying112 rfl (by kernel_rfl), trivial, fun t h => by cases h⟩
def te141 : TE := ⟨141, .slice 144, false, 1, 24, .slice none 0 0, some (.list (.pair (.int .i64) (.pair (.int .i64) .unit)))⟩
theorem te141_ok : TEok Try.prog te141 := ⟨TI.of Try.underlying141 rfl (by kernel_rfl), Try.underlying141, fun t h => by cases h; exact ⟨rfl, rfl, by decide, rfl⟩⟩
def te144 : TE := ⟨144, .array 2 3, true, 2, 16, .agg ⟨[.int .i64 0, .int .i64 0]⟩, some (.pair (.int .i64) (.pair (.int .i64) .unit))⟩
theorem te144_ok : TEok Try.prog te144 := ⟨TI.of Try.underlying144 rfl (by kernel_rfl), Try.underlying144, fun t h => by cases h; exact ⟨rfl, rfl, by decide, rfl⟩⟩
def TT : List TE := [te3, te4, te22, te23, te26, te78, te80, te112, te141, te144]
theorem TT_ok : TOK Try.prog TT := TOK.cons te3_ok (TOK.cons te4_ok (TOK.cons te22_ok (TOK.cons te23_ok (TOK.cons te26_ok (TOK.cons te78_ok (TOK.cons te80_ok (TOK.cons te112_ok (TOK.cons te141_ok (TOK.cons te144_ok (TOK.nil))))))))))

def two_Check_1_sig : Shape := ⟨[(.list (.pair (.int .i64) (.pair (.int .i64) .unit))), (.pair (.int .i64) (.pair (.int .i64) (.pair (.list (.list (.pair (.int .i64) (.pair (.int .i64) .unit)))) (.pair (.list (.int .i64)) .unit))))], [(0, .v 0), (1, .addr 1)], []⟩
def two_Check_1_out : Shape := ⟨[.bool], [(0, .v 0)], []⟩
noncomputable def two_Check_1_ce : CE := ⟨97, two_Check_1_sig, two_Check_1_out, fun X => two_Check_1 X.1 X.2⟩
theorem two_Check_1_ok : CE.ok Try.prog two_Check_1_ce := CE.of (Γ := []) (by kernel_rfl) TT_ok (GOK.nil) ⟨[], [], [], []⟩ Try.func97 rfl Try.ntmps97 (rs := [.tmp 3]) rfl (sig := two_Check_1_sig) (out := two_Check_1_out) rfl Try.call97 (fun X => by kernel_rfl)

def slices_IndexFunc_sig : Shape := ⟨[(.list (.list (.pair (.int .i64) (.pair (.int .i64) .unit)))), (.pair (.int .i64) (.pair (.int .i64) (.pair (.list (.list (.pair (.int .i64) (.pair (.int .i64) .unit)))) (.pair (.list (.int .i64)) .unit))))], [(0, .v 0), (1, .fn 97 [.addr 1])], []⟩
def slices_IndexFunc_out : Shape := ⟨[(.int .i64)], [(0, .v 0)], []⟩
noncomputable def slices_IndexFunc_ce : CE := ⟨143, slices_IndexFunc_sig, slices_IndexFunc_out, fun X => slices_IndexFunc X.1 X.2⟩
theorem slices_IndexFunc_ok : CE.ok Try.prog slices_IndexFunc_ce := CE.of (Γ := [two_Check_1_ce]) (by kernel_rfl) TT_ok (GOK.cons two_Check_1_ok (GOK.nil)) ⟨[(2, ⟨⟨[(.int .i64)], [(8, .v 0)], []⟩, [4, 5, 9, 10, 11, 12, 13, 14, 15, 16, 17, 18], [], [], 0, []⟩)], [], [], []⟩ Try.func143 rfl Try.ntmps143 (rs := [.tmp 4]) rfl (sig := slices_IndexFunc_sig) (out := slices_IndexFunc_out) rfl Try.call143 (fun X => by kernel_rfl)

def slices_ContainsFunc_sig : Shape := ⟨[(.list (.list (.pair (.int .i64) (.pair (.int .i64) .unit)))), (.pair (.int .i64) (.pair (.int .i64) (.pair (.list (.list (.pair (.int .i64) (.pair (.int .i64) .unit)))) (.pair (.list (.int .i64)) .unit))))], [(0, .v 0), (1, .fn 97 [.addr 1])], []⟩
def slices_ContainsFunc_out : Shape := ⟨[.bool], [(0, .v 0)], []⟩
noncomputable def slices_ContainsFunc_ce : CE := ⟨96, slices_ContainsFunc_sig, slices_ContainsFunc_out, fun X => slices_ContainsFunc X.1 X.2⟩
theorem slices_ContainsFunc_ok : CE.ok Try.prog slices_ContainsFunc_ce := CE.of (Γ := [slices_IndexFunc_ce]) (by kernel_rfl) TT_ok (GOK.cons slices_IndexFunc_ok (GOK.nil)) ⟨[], [], [], []⟩ Try.func96 rfl Try.ntmps96 (rs := [.tmp 4]) rfl (sig := slices_ContainsFunc_sig) (out := slices_ContainsFunc_out) rfl Try.call96 (fun X => by kernel_rfl)

def two_Check_2_sig : Shape := ⟨[(.int .i64), (.int .i64)], [(0, .v 0), (1, .addr 1)], []⟩
def two_Check_2_out : Shape := ⟨[.bool], [(0, .v 0)], []⟩
noncomputable def two_Check_2_ce : CE := ⟨98, two_Check_2_sig, two_Check_2_out, fun X => two_Check_2 X.1 X.2⟩
theorem two_Check_2_ok : CE.ok Try.prog two_Check_2_ce := CE.of (Γ := []) (by kernel_rfl) TT_ok (GOK.nil) ⟨[], [], [], []⟩ Try.func98 rfl Try.ntmps98 (rs := [.tmp 3]) rfl (sig := two_Check_2_sig) (out := two_Check_2_out) rfl Try.call98 (fun X => by kernel_rfl)

def two_Check_3_1_sig : Shape := ⟨[(.pair (.int .i64) (.pair (.int .i64) .unit)), (.int .i64)], [(0, .v 0), (1, .ptr 100000 0)], [(100000, .box 112 [.fn 98 [.addr 1]])]⟩
def two_Check_3_1_out : Shape := ⟨[.bool, (.int .i64)], [(0, .v 0)], [(100000, .box 112 [.fn 98 [.addr 1]])]⟩
noncomputable def two_Check_3_1_ce : CE := ⟨101, two_Check_3_1_sig, two_Check_3_1_out, fun X => two_Check_3_1 X.1 X.2⟩
theorem two_Check_3_1_ok : CE.ok Try.prog two_Check_3_1_ce := CE.of (Γ := [two_Check_2_ce]) (by kernel_rfl) TT_ok (GOK.cons two_Check_2_ok (GOK.nil)) ⟨[], [], [], []⟩ Try.func101 rfl Try.ntmps101 (rs := [.tmp 3]) rfl (sig := two_Check_3_1_sig) (out := two_Check_3_1_out) rfl Try.call101 (fun X => by kernel_rfl)

def slices_IndexFunc_2_sig : Shape := ⟨[(.list (.pair (.int .i64) (.pair (.int .i64) .unit))), (.int .i64)], [(0, .v 0), (1, .fn 101 [.ptr 100000 0])], [(100000, .box 112 [.fn 98 [.addr 1]])]⟩
def slices_IndexFunc_2_out : Shape := ⟨[(.int .i64), (.int .i64)], [(0, .v 0)], [(100000, .box 112 [.fn 98 [.addr 1]])]⟩
noncomputable def slices_IndexFunc_2_ce : CE := ⟨144, slices_IndexFunc_2_sig, slices_IndexFunc_2_out, fun X => slices_IndexFunc_2 X.1 X.2⟩
theorem slices_IndexFunc_2_ok : CE.ok Try.prog slices_IndexFunc_2_ce := CE.of (Γ := [two_Check_3_1_ce]) (by kernel_rfl) TT_ok (GOK.cons two_Check_3_1_ok (GOK.nil)) ⟨[(2, ⟨⟨[(.int .i64), (.int .i64)], [(1, .fn 101 [.ptr 100000 0]), (8, .v 0)], [(100000, .box 112 [.fn 98 [.addr 1]])]⟩, [4, 5, 9, 10, 11, 12, 13, 14, 15, 16, 17, 18], [], [], 0, []⟩)], [], [], []⟩ Try.func144 rfl Try.ntmps144 (rs := [.tmp 4]) rfl (sig := slices_IndexFunc_2_sig) (out := slices_IndexFunc_2_out) rfl Try.call144 (fun X => by kernel_rfl)

def slices_ContainsFunc_2_sig : Shape := ⟨[(.list (.pair (.int .i64) (.pair (.int .i64) .unit))), (.int .i64)], [(0, .v 0), (1, .fn 101 [.ptr 100000 0])], [(100000, .box 112 [.fn 98 [.addr 1]])]⟩
def slices_ContainsFunc_2_out : Shape := ⟨[.bool, (.int .i64)], [(0, .v 0)], [(100000, .box 112 [.fn 98 [.addr 1]])]⟩
noncomputable def slices_ContainsFunc_2_ce : CE := ⟨100, slices_ContainsFunc_2_sig, slices_ContainsFunc_2_out, fun X => slices_ContainsFunc_2 X.1 X.2⟩
theorem slices_ContainsFunc_2_ok : CE.ok Try.prog slices_ContainsFunc_2_ce := CE.of (Γ := [slices_IndexFunc_2_ce]) (by kernel_rfl) TT_ok (GOK.cons slices_IndexFunc_2_ok (GOK.nil)) ⟨[], [], [], []⟩ Try.func100 rfl Try.ntmps100 (rs := [.tmp 4]) rfl (sig := slices_ContainsFunc_2_sig) (out := slices_ContainsFunc_2_out) rfl Try.call100 (fun X => by kernel_rfl)

def two_Check_3_sig : Shape := ⟨[(.list (.pair (.int .i64) (.pair (.int .i64) .unit))), (.int .i64)], [(0, .v 0), (1, .ptr 100000 0)], [(100000, .box 112 [.fn 98 [.addr 1]])]⟩
def two_Check_3_out : Shape := ⟨[.bool, (.int .i64)], [(0, .v 0)], [(100000, .box 112 [.fn 98 [.addr 1]])]⟩
noncomputable def two_Check_3_ce : CE := ⟨99, two_Check_3_sig, two_Check_3_out, fun X => two_Check_3 X.1 X.2⟩
theorem two_Check_3_ok : CE.ok Try.prog two_Check_3_ce := CE.of (Γ := [slices_ContainsFunc_2_ce]) (by kernel_rfl) TT_ok (GOK.cons slices_ContainsFunc_2_ok (GOK.nil)) ⟨[], [], [], []⟩ Try.func99 rfl Try.ntmps99 (rs := [.tmp 3]) rfl (sig := two_Check_3_sig) (out := two_Check_3_out) rfl Try.call99 (fun X => by kernel_rfl)

def slices_IndexFunc_1_sig : Shape := ⟨[(.list (.list (.pair (.int .i64) (.pair (.int .i64) .unit)))), (.int .i64)], [(0, .v 0), (1, .fn 99 [.ptr 100000 0])], [(100000, .box 112 [.fn 98 [.addr 1]])]⟩
def slices_IndexFunc_1_out : Shape := ⟨[(.int .i64), (.int .i64)], [(0, .v 0)], [(100000, .box 112 [.fn 98 [.addr 1]])]⟩
noncomputable def slices_IndexFunc_1_ce : CE := ⟨143, slices_IndexFunc_1_sig, slices_IndexFunc_1_out, fun X => slices_IndexFunc_1 X.1 X.2⟩
theorem slices_IndexFunc_1_ok : CE.ok Try.prog slices_IndexFunc_1_ce := CE.of (Γ := [two_Check_3_ce]) (by kernel_rfl) TT_ok (GOK.cons two_Check_3_ok (GOK.nil)) ⟨[(2, ⟨⟨[(.int .i64), (.int .i64)], [(1, .fn 99 [.ptr 100000 0]), (8, .v 0)], [(100000, .box 112 [.fn 98 [.addr 1]])]⟩, [4, 5, 9, 10, 11, 12, 13, 14, 15, 16, 17, 18], [], [], 0, []⟩)], [], [], []⟩ Try.func143 rfl Try.ntmps143 (rs := [.tmp 4]) rfl (sig := slices_IndexFunc_1_sig) (out := slices_IndexFunc_1_out) rfl Try.call143 (fun X => by kernel_rfl)

def slices_ContainsFunc_1_sig : Shape := ⟨[(.list (.list (.pair (.int .i64) (.pair (.int .i64) .unit)))), (.int .i64)], [(0, .v 0), (1, .fn 99 [.ptr 100000 0])], [(100000, .box 112 [.fn 98 [.addr 1]])]⟩
def slices_ContainsFunc_1_out : Shape := ⟨[.bool, (.int .i64)], [(0, .v 0)], [(100000, .box 112 [.fn 98 [.addr 1]])]⟩
noncomputable def slices_ContainsFunc_1_ce : CE := ⟨96, slices_ContainsFunc_1_sig, slices_ContainsFunc_1_out, fun X => slices_ContainsFunc_1 X.1 X.2⟩
theorem slices_ContainsFunc_1_ok : CE.ok Try.prog slices_ContainsFunc_1_ce := CE.of (Γ := [slices_IndexFunc_1_ce]) (by kernel_rfl) TT_ok (GOK.cons slices_IndexFunc_1_ok (GOK.nil)) ⟨[], [], [], []⟩ Try.func96 rfl Try.ntmps96 (rs := [.tmp 4]) rfl (sig := slices_ContainsFunc_1_sig) (out := slices_ContainsFunc_1_out) rfl Try.call96 (fun X => by kernel_rfl)

def two_Check_4_sig : Shape := ⟨[(.int .i64)], [(0, .v 0)], []⟩
def two_Check_4_out : Shape := ⟨[.bool], [(0, .v 0)], []⟩
noncomputable def two_Check_4_ce : CE := ⟨102, two_Check_4_sig, two_Check_4_out, fun X => two_Check_4 X⟩
theorem two_Check_4_ok : CE.ok Try.prog two_Check_4_ce := CE.of (Γ := []) (by kernel_rfl) TT_ok (GOK.nil) ⟨[], [], [], []⟩ Try.func102 rfl Try.ntmps102 (rs := [.tmp 2]) rfl (sig := two_Check_4_sig) (out := two_Check_4_out) rfl Try.call102 (fun X => by kernel_rfl)

def slices_IndexFunc_3_sig : Shape := ⟨[(.list (.int .i64))], [(0, .v 0), (1, .fn 102 [])], []⟩
def slices_IndexFunc_3_out : Shape := ⟨[(.int .i64)], [(0, .v 0)], []⟩
noncomputable def slices_IndexFunc_3_ce : CE := ⟨132, slices_IndexFunc_3_sig, slices_IndexFunc_3_out, fun X => slices_IndexFunc_3 X⟩
theorem slices_IndexFunc_3_ok : CE.ok Try.prog slices_IndexFunc_3_ce := CE.of (Γ := [two_Check_4_ce]) (by kernel_rfl) TT_ok (GOK.cons two_Check_4_ok (GOK.nil)) ⟨[(2, ⟨⟨[(.int .i64)], [(8, .v 0)], []⟩, [4, 5, 9, 10, 11, 12, 13, 14, 15, 16, 17, 18], [], [], 0, []⟩)], [], [], []⟩ Try.func132 rfl Try.ntmps132 (rs := [.tmp 4]) rfl (sig := slices_IndexFunc_3_sig) (out := slices_IndexFunc_3_out) rfl Try.call132 (fun X => by kernel_rfl)

def slices_ContainsFunc_3_sig : Shape := ⟨[(.list (.int .i64))], [(0, .v 0), (1, .fn 102 [])], []⟩
def slices_ContainsFunc_3_out : Shape := ⟨[.bool], [(0, .v 0)], []⟩
noncomputable def slices_ContainsFunc_3_ce : CE := ⟨71, slices_ContainsFunc_3_sig, slices_ContainsFunc_3_out, fun X => slices_ContainsFunc_3 X⟩
theorem slices_ContainsFunc_3_ok : CE.ok Try.prog slices_ContainsFunc_3_ce := CE.of (Γ := [slices_IndexFunc_3_ce]) (by kernel_rfl) TT_ok (GOK.cons slices_IndexFunc_3_ok (GOK.nil)) ⟨[], [], [], []⟩ Try.func71 rfl Try.ntmps71 (rs := [.tmp 4]) rfl (sig := slices_ContainsFunc_3_sig) (out := slices_ContainsFunc_3_out) rfl Try.call71 (fun X => by kernel_rfl)

def two_Check_sig : Shape := ⟨[(.pair (.int .i64) (.pair (.int .i64) (.pair (.list (.list (.pair (.int .i64) (.pair (.int .i64) .unit)))) (.pair (.list (.int .i64)) .unit))))], [(0, .v 0)], []⟩
def two_Check_out : Shape := ⟨[(.int .i64)], [(0, .v 0)], []⟩
noncomputable def two_Check_ce : CE := ⟨48, two_Check_sig, two_Check_out, fun X => two_Check X⟩
theorem two_Check_ok : CE.ok Try.prog two_Check_ce := CE.of (Γ := [slices_ContainsFunc_ce, two_Check_2_ce, slices_ContainsFunc_1_ce, slices_ContainsFunc_3_ce]) (by kernel_rfl) TT_ok (GOK.cons slices_ContainsFunc_ok (GOK.cons two_Check_2_ok (GOK.cons slices_ContainsFunc_1_ok (GOK.cons slices_ContainsFunc_3_ok (GOK.nil))))) ⟨[], [], [], []⟩ Try.func48 rfl Try.ntmps48 (rs := [.tmp 2]) rfl (sig := two_Check_sig) (out := two_Check_out) rfl Try.call48 (fun X => by kernel_rfl)

def r25_Check_sig : Shape := ⟨[(.pair (.int .i64) (.pair (.int .i64) (.pair (.list (.list (.pair (.int .i64) (.pair (.int .i64) .unit)))) (.pair (.list (.int .i64)) .unit))))], [(0, .v 0)], []⟩
def r25_Check_out : Shape := ⟨[(.int .i64)], [(0, .v 0)], []⟩
noncomputable def r25_Check_ce : CE := ⟨49, r25_Check_sig, r25_Check_out, fun X => r25_Check X⟩
theorem r25_Check_ok : CE.ok Try.prog r25_Check_ce := CE.of (Γ := []) (by kernel_rfl) TT_ok (GOK.nil) ⟨[(9, ⟨⟨[(.int .i64)], [(4, .v 0)], []⟩, [2, 30, 31, 32, 33, 34, 35, 36, 37, 38, 39, 40, 41, 42, 43, 44], [], [0], 1, []⟩), (16, ⟨⟨[(.int .i64)], [(5, .v 0)], []⟩, [2, 6, 7, 54, 55, 56, 57, 58, 59, 60, 61, 62, 63, 64, 65, 66, 67, 68, 69, 70, 71, 72, 73, 74, 75, 76, 77, 78, 79, 80, 81, 82, 83, 84, 85, 86, 87, 88, 89, 90, 91, 92, 93, 94, 95, 96, 97, 98, 99, 100, 101, 102, 103, 104, 105, 106], [], [0], 1, []⟩), (19, ⟨⟨[(.int .i64)], [(6, .v 0)], []⟩, [2, 7, 59, 60, 61, 62, 63, 64, 65, 66, 67, 68, 69, 70, 71, 72, 73, 74, 75, 76, 77, 78, 79, 80, 81, 82, 83, 84, 85, 86, 87, 88, 89, 90, 91, 92], [], [0], 1, []⟩)], [], [(11, [(0, 0), (0, 1), (0, 2), (0, 3), (0, 4), (0, 5), (0, 6), (0, 7), (0, 8), (0, 9)])], []⟩ Try.func49 rfl Try.ntmps49 (rs := [.tmp 2]) rfl (sig := r25_Check_sig) (out := r25_Check_out) rfl Try.call49 (fun X => by kernel_rfl)

def word_May_sig : Shape := ⟨[(.int .i64), (.list (.int .i64))], [(0, .v 0), (1, .v 1)], []⟩
def word_May_out : Shape := ⟨[(.int .i64)], [(0, .v 0)], []⟩
noncomputable def word_May_ce : CE := ⟨28, word_May_sig, word_May_out, fun X => word_May X.1 X.2⟩
theorem word_May_ok : CE.ok Try.prog word_May_ce := CE.of (Γ := []) (by kernel_rfl) TT_ok (GOK.nil) ⟨[(6, ⟨⟨[(.int .i64)], [(18, .v 0)], []⟩, [4, 6, 19, 20, 21, 22, 23, 24, 25, 26, 27, 28, 29], [], [], 0, []⟩)], [], [], []⟩ Try.func28 rfl Try.ntmps28 (rs := [.tmp 4]) rfl (sig := word_May_sig) (out := word_May_out) rfl Try.call28 (fun X => by kernel_rfl)

def slices_Grow_sig : Shape := ⟨[(.int .i64)], [(0, .nil), (1, .v 0)], []⟩
def slices_Grow_out : Shape := ⟨[(.list (.int .i64))], [(0, .own 0)], [(0, .arr 3 0)]⟩
noncomputable def slices_Grow_ce : CE := ⟨145, slices_Grow_sig, slices_Grow_out, fun X => slices_Grow X⟩
theorem slices_Grow_ok : CE.ok Try.prog slices_Grow_ce := CE.of (Γ := []) (by kernel_rfl) TT_ok (GOK.nil) ⟨[], [], [(5, [(0, 0), (0, 1), (0, 2), (0, 3), (0, 4), (2, 5), (0, 6), (0, 7), (1, 8), (0, 9)])], []⟩ Try.func145 rfl Try.ntmps145 (rs := [.tmp 4]) rfl (sig := slices_Grow_sig) (out := slices_Grow_out) rfl Try.call145 (fun X => by kernel_rfl)

def slices_Concat_sig : Shape := ⟨[(.list (.list (.int .i64)))], [(0, .v 0)], []⟩
def slices_Concat_out : Shape := ⟨[(.list (.int .i64))], [(0, .own 0)], [(0, .arr 3 0)]⟩
noncomputable def slices_Concat_ce : CE := ⟨103, slices_Concat_sig, slices_Concat_out, fun X => slices_Concat X⟩
theorem slices_Concat_ok : CE.ok Try.prog slices_Concat_ce := CE.of (Γ := [slices_Grow_ce]) (by kernel_rfl) TT_ok (GOK.cons slices_Grow_ok (GOK.nil)) ⟨[(3, ⟨⟨[(.int .i64), (.int .i64)], [(3, .v 0), (11, .v 1)], []⟩, [5, 12, 13, 14, 15, 16, 17, 18, 19, 20, 21, 22], [], [], 0, []⟩), (11, ⟨⟨[(.int .i64), (.list (.int .i64))], [(6, .own 0), (27, .v 0)], [(0, .arr 3 1)]⟩, [8, 24, 28, 29, 30, 31, 32, 33, 34], [], [], 1, []⟩)], [], [], []⟩ Try.func103 rfl Try.ntmps103 (rs := [.tmp 2]) rfl (sig := slices_Concat_sig) (out := slices_Concat_out) rfl Try.call103 (fun X => by kernel_rfl)

def two_Run_sig : Shape := ⟨[(.pair (.int .i64) (.pair (.int .i64) (.pair (.list (.list (.pair (.int .i64) (.pair (.int .i64) .unit)))) (.pair (.list (.int .i64)) .unit)))), (.list (.int .i64))], [(0, .v 0), (1, .v 1)], []⟩
def two_Run_out : Shape := ⟨[.bool, (.int .i64), (.int .i64)], [(0, .v 0), (1, .v 1), (2, .v 2)], []⟩
noncomputable def two_Run_ce : CE := ⟨50, two_Run_sig, two_Run_out, fun X => two_Run X.1 X.2⟩
theorem two_Run_ok : CE.ok Try.prog two_Run_ce := CE.of (Γ := [two_Check_ce, word_May_ce, slices_Concat_ce]) (by kernel_rfl) TT_ok (GOK.cons two_Check_ok (GOK.cons word_May_ok (GOK.cons slices_Concat_ok (GOK.nil)))) ⟨[(9, ⟨⟨[(.int .i64), (.int .i64), (.int .i64)], [(5, .v 0), (10, .v 1), (11, .v 2)], []⟩, [4, 6, 12, 37, 38, 39, 40, 41, 42, 43, 44, 45, 46, 47, 48, 49, 50, 51, 52, 53, 54, 55, 56, 57, 58, 59, 60, 61, 62, 63, 64, 65, 66, 67, 68, 69, 70, 71], [], [0, 3, 4], 5, []⟩)], [(9, ⟨⟨[.bool], [(44, .v 0)], []⟩, [37, 38, 39, 40, 41, 42, 43], [], [0, 3, 4], 5, []⟩)], [(8, [(0, 0), (0, 1), (0, 2), (0, 3)]), (12, [(0, 0), (0, 1), (0, 2), (0, 3), (0, 4), (0, 5), (0, 6), (0, 7), (0, 8), (0, 9), (0, 10), (1, 11), (2, 12)]), (13, [(0, 0), (0, 1), (0, 2), (0, 3), (0, 4), (0, 5), (0, 6), (0, 7)])], []⟩ Try.func50 rfl Try.ntmps50 (rs := [.tmp 4, .tmp 5, .tmp 6]) rfl (sig := two_Run_sig) (out := two_Run_out) rfl Try.call50 (fun X => by kernel_rfl)

def r1_May_sig : Shape := ⟨[(.int .i64), (.list (.int .i64))], [(0, .v 0), (1, .v 1)], []⟩
def r1_May_out : Shape := ⟨[(.int .i64)], [(0, .v 0)], []⟩
noncomputable def r1_May_ce : CE := ⟨21, r1_May_sig, r1_May_out, fun X => r1_May X.1 X.2⟩
theorem r1_May_ok : CE.ok Try.prog r1_May_ce := CE.of (Γ := []) (by kernel_rfl) TT_ok (GOK.nil) ⟨[(6, ⟨⟨[(.int .i64)], [(5, .v 0)], []⟩, [4, 15, 16, 17, 18, 19, 20, 21, 22, 23, 24, 25, 26, 27, 28, 29, 30, 31, 32, 33], [], [], 0, []⟩)], [], [], []⟩ Try.func21 rfl Try.ntmps21 (rs := [.tmp 4]) rfl (sig := r1_May_sig) (out := r1_May_out) rfl Try.call21 (fun X => by kernel_rfl)

def r25_Run_sig : Shape := ⟨[(.pair (.int .i64) (.pair (.int .i64) (.pair (.list (.list (.pair (.int .i64) (.pair (.int .i64) .unit)))) (.pair (.list (.int .i64)) .unit)))), (.list (.int .i64))], [(0, .v 0), (1, .v 1)], []⟩
def r25_Run_out : Shape := ⟨[.bool, (.int .i64)], [(0, .v 0), (1, .v 1)], []⟩
noncomputable def r25_Run_ce : CE := ⟨51, r25_Run_sig, r25_Run_out, fun X => r25_Run X.1 X.2⟩
theorem r25_Run_ok : CE.ok Try.prog r25_Run_ce := CE.of (Γ := []) (by kernel_rfl) TT_ok (GOK.nil) ⟨[(7, ⟨⟨[(.int .i64), (.int .i64), (.int .i64)], [(7, .v 0), (8, .v 1), (9, .v 2)], []⟩, [4, 5, 10, 13, 14, 16, 17, 25, 26, 27, 28, 29, 30, 31, 32, 33, 34, 35, 36, 37, 38, 39, 40, 41, 42, 43, 44, 45, 46, 47, 48, 49, 50, 51, 52, 53, 54, 55, 56, 57, 58, 59, 60, 61, 62, 63, 64, 65], [], [0, 3, 4], 5, []⟩)], [], [(13, [(0, 0), (0, 1), (0, 2), (0, 3), (0, 4), (0, 5), (0, 6), (0, 7), (0, 8), (0, 9), (0, 10), (1, 11), (2, 12)])], []⟩ Try.func51 rfl Try.ntmps51 (rs := [.tmp 4, .tmp 5]) rfl (sig := r25_Run_sig) (out := r25_Run_out) rfl Try.call51 (fun X => by kernel_rfl)

def law_TwoRuns_sig : Shape := ⟨[(.pair (.int .i64) (.pair (.int .i64) (.pair (.list (.list (.pair (.int .i64) (.pair (.int .i64) .unit)))) (.pair (.list (.int .i64)) .unit)))), (.list (.int .i64))], [(0, .v 0), (1, .v 1)], []⟩
def law_TwoRuns_out : Shape := ⟨[.bool], [(0, .v 0)], []⟩
noncomputable def law_TwoRuns_ce : CE := ⟨10, law_TwoRuns_sig, law_TwoRuns_out, fun X => law_TwoRuns X.1 X.2⟩
theorem law_TwoRuns_ok : CE.ok Try.prog law_TwoRuns_ce := CE.of (Γ := [two_Check_ce, r25_Check_ce, two_Run_ce, r1_May_ce, r25_Run_ce]) (by kernel_rfl) TT_ok (GOK.cons two_Check_ok (GOK.cons r25_Check_ok (GOK.cons two_Run_ok (GOK.cons r1_May_ok (GOK.cons r25_Run_ok (GOK.nil)))))) ⟨[], [(7, ⟨⟨[(.int .i64)], [(6, .v 0)], []⟩, [26, 27, 28, 29, 30, 31], [], [0], 1, []⟩)], [], []⟩ Try.func10 rfl Try.ntmps10 (rs := [.tmp 4]) rfl (sig := law_TwoRuns_sig) (out := law_TwoRuns_out) rfl Try.call10 (fun X => by kernel_rfl)

end Go.Proofs.Ytjhgdnfkipchoaa.twoRunsW
