/- That the functions of 'WeighJoins' compute so. -/
import Derived.Test.YtgojjheadndbiaaWeighJoinsD
import Derived.Test.YtgojjheadndbiaaProg
import Derived.KernelRfl
set_option maxHeartbeats 1000000
set_option maxRecDepth 20000
set_option linter.unusedSimpArgs false
set_option linter.unusedVariables false
set_option linter.unusedSectionVars false
namespace Go.Proofs.Ytgojjheadndbiaa.weighJoinsW
open Go Go.Ab
def te3 : TE := ⟨3, .int .i64, false, 1, 8, .int .i64 0, some (.int .i64)⟩
theorem te3_ok : TEok Try.prog te3 := ⟨TI.of Try.underlying3 rfl (by kernel_rfl), Try.underlying3, fun t h => by cases h; exact ⟨rfl, rfl, by decide, rfl⟩⟩
def te4 : TE := ⟨4, .bool, false, 1, 1, .bool false, some .bool⟩
theorem te4_ok : TEok Try.prog te4 := ⟨TI.of Try.underlying4 rfl (by kernel_rfl), Try.underlying4, fun t h => by cases h; exact ⟨rfl, rfl, by decide, rfl⟩⟩
def te22 : TE := ⟨22, .slice 3, false, 1, 24, .slice none 0 0, some (.list (.int .i64))⟩
theorem te22_ok : TEok Try.prog te22 := ⟨TI.of Try.underlying22 rfl (by kernel_rfl), Try.underlying22, fun t h => by cases h; exact ⟨rfl, rfl, by decide, rfl⟩⟩
def te23 : TE := ⟨23, .slice 38, false, 1, 24, .slice none 0 0, some (.list (.list (.list (.int .i64))))⟩
theorem te23_ok : TEok Try.prog te23 := ⟨TI.of Try.underlying23 rfl (by kernel_rfl), Try.underlying23, fun t h => by cases h; exact ⟨rfl, rfl, by decide, rfl⟩⟩
def te25 : TE := ⟨25, .struct [(0, 3), (1, 22), (2, 23), (3, 22)] none, true, 4, 80, .agg ⟨[.int .i64 0, .slice none 0 0, .slice none 0 0, .slice none 0 0]⟩, some (.pair (.int .i64) (.pair (.list (.int .i64)) (.pair (.list (.list (.list (.int .i64)))) (.pair (.list (.int .i64)) .unit))))⟩
theorem te25_ok : TEok Try.prog te25 := ⟨TI.of Try.underlying25 rfl (by kernel_rfl), ⟨⟨_, Try.underlying25, rfl⟩, fun t h => by cases h⟩, fun t h => by cases h; exact ⟨rfl, rfl, by decide, rfl⟩⟩
def te26 : TE := ⟨26, .int .i64, false, 1, 8, .int .i64 0, some (.int .i64)⟩
theorem te26_ok : TEok Try.prog te26 := ⟨TI.of Try.underlying26 rfl (by kernel_rfl), Try.underlying26, fun t h => by cases h; exact ⟨rfl, rfl, by decide, rfl⟩⟩
def te38 : TE := ⟨38, .slice 22, false, 1, 24, .slice none 0 0, some (.list (.list (.int .i64)))⟩
theorem te38_ok : TEok Try.prog te38 := ⟨TI.of Try.underlying38 rfl (by kernel_rfl), Try.underlying38, fun t h => by cases h; exact ⟨rfl, rfl, by decide, rfl⟩⟩
def te43 : TE := ⟨43, .struct [(0, 4), (1, 22)] none, true, 2, 32, .agg ⟨[.bool false, .slice none 0 0]⟩, some (.pair .bool (.pair (.list (.int .i64)) .unit))⟩
theorem te43_ok : TEok Try.prog te43 := ⟨TI.of Try.underlying43 rfl (by kernel_rfl), ⟨⟨_, Try.underlying43, rfl⟩, fun t h => by cases h⟩, fun t h => by cases h; exact ⟨rfl, rfl, by decide, rfl⟩⟩
def te47 : TE := ⟨47, .slice 25, false, 1, 24, .slice none 0 0, some (.list (.pair (.int .i64) (.pair (.list (.int .i64)) (.pair (.list (.list (.list (.int .i64)))) (.pair (.list (.int .i64)) .unit)))))⟩
theorem te47_ok : TEok Try.prog te47 := ⟨TI.of Try.underlying47 rfl (by kernel_rfl), Try.underlying47, fun t h => by cases h; exact ⟨rfl, rfl, by decide, rfl⟩⟩
def te54 : TE := ⟨54, .slice 43, false, 1, 24, .slice none 0 0, some (.list (.pair .bool (.pair (.list (.int .i64)) .unit)))⟩
theorem te54_ok : TEok Try.prog te54 := ⟨TI.of Try.underlying54 rfl (by kernel_rfl), Try.underlying54, fun t h => by cases h; exact ⟨rfl, rfl, by decide, rfl⟩⟩
def TT : List TE := [te3, te4, te22, te23, te25, te26, te38, te43, te47, te54]
theorem TT_ok : TOK Try.prog TT := TOK.cons te3_ok (TOK.cons te4_ok (TOK.cons te22_ok (TOK.cons te23_ok (TOK.cons te25_ok (TOK.cons te26_ok (TOK.cons te38_ok (TOK.cons te43_ok (TOK.cons te47_ok (TOK.cons te54_ok (TOK.nil))))))))))

def weigh_Check_1_sig : Shape := ⟨[(.list (.int .i64)), (.int .i64)], [(0, .v 0), (1, .addr 1)], []⟩
def weigh_Check_1_out : Shape := ⟨[.bool], [(0, .v 0)], []⟩
noncomputable def weigh_Check_1_ce : CE := ⟨37, weigh_Check_1_sig, weigh_Check_1_out, fun X => weigh_Check_1 X.1 X.2⟩
theorem weigh_Check_1_ok : CE.ok Try.prog weigh_Check_1_ce := CE.of (Γ := []) (by kernel_rfl) TT_ok (GOK.nil) ⟨[], [], [], []⟩ Try.func37 rfl Try.ntmps37 (rs := [.tmp 3]) rfl (sig := weigh_Check_1_sig) (out := weigh_Check_1_out) rfl Try.call37 (fun X => by kernel_rfl)

def slices_IndexFunc_sig : Shape := ⟨[(.list (.list (.int .i64))), (.int .i64)], [(0, .v 0), (1, .fn 37 [.addr 1])], []⟩
def slices_IndexFunc_out : Shape := ⟨[(.int .i64)], [(0, .v 0)], []⟩
noncomputable def slices_IndexFunc_ce : CE := ⟨39, slices_IndexFunc_sig, slices_IndexFunc_out, fun X => slices_IndexFunc X.1 X.2⟩
theorem slices_IndexFunc_ok : CE.ok Try.prog slices_IndexFunc_ce := CE.of (Γ := [weigh_Check_1_ce]) (by kernel_rfl) TT_ok (GOK.cons weigh_Check_1_ok (GOK.nil)) ⟨[(2, ⟨⟨[(.int .i64)], [(8, .v 0)], []⟩, [4, 5, 9, 10, 11, 12, 13, 14, 15, 16, 17, 18], [], [], 0, []⟩)], [], [], []⟩ Try.func39 rfl Try.ntmps39 (rs := [.tmp 4]) rfl (sig := slices_IndexFunc_sig) (out := slices_IndexFunc_out) rfl Try.call39 (fun X => by kernel_rfl)

def slices_ContainsFunc_sig : Shape := ⟨[(.list (.list (.int .i64))), (.int .i64)], [(0, .v 0), (1, .fn 37 [.addr 1])], []⟩
def slices_ContainsFunc_out : Shape := ⟨[.bool], [(0, .v 0)], []⟩
noncomputable def slices_ContainsFunc_ce : CE := ⟨24, slices_ContainsFunc_sig, slices_ContainsFunc_out, fun X => slices_ContainsFunc X.1 X.2⟩
theorem slices_ContainsFunc_ok : CE.ok Try.prog slices_ContainsFunc_ce := CE.of (Γ := [slices_IndexFunc_ce]) (by kernel_rfl) TT_ok (GOK.cons slices_IndexFunc_ok (GOK.nil)) ⟨[], [], [], []⟩ Try.func24 rfl Try.ntmps24 (rs := [.tmp 4]) rfl (sig := slices_ContainsFunc_sig) (out := slices_ContainsFunc_out) rfl Try.call24 (fun X => by kernel_rfl)

def weigh_above_1_1_sig : Shape := ⟨[(.int .i64), (.int .i64)], [(0, .v 0), (1, .addr 1)], []⟩
def weigh_above_1_1_out : Shape := ⟨[.bool], [(0, .v 0)], []⟩
noncomputable def weigh_above_1_1_ce : CE := ⟨27, weigh_above_1_1_sig, weigh_above_1_1_out, fun X => weigh_above_1_1 X.1 X.2⟩
theorem weigh_above_1_1_ok : CE.ok Try.prog weigh_above_1_1_ce := CE.of (Γ := []) (by kernel_rfl) TT_ok (GOK.nil) ⟨[], [], [], []⟩ Try.func27 rfl Try.ntmps27 (rs := [.tmp 3]) rfl (sig := weigh_above_1_1_sig) (out := weigh_above_1_1_out) rfl Try.call27 (fun X => by kernel_rfl)

def slices_IndexFunc_2_sig : Shape := ⟨[(.list (.int .i64)), (.int .i64)], [(0, .v 0), (1, .fn 27 [.addr 1])], []⟩
def slices_IndexFunc_2_out : Shape := ⟨[(.int .i64)], [(0, .v 0)], []⟩
noncomputable def slices_IndexFunc_2_ce : CE := ⟨40, slices_IndexFunc_2_sig, slices_IndexFunc_2_out, fun X => slices_IndexFunc_2 X.1 X.2⟩
theorem slices_IndexFunc_2_ok : CE.ok Try.prog slices_IndexFunc_2_ce := CE.of (Γ := [weigh_above_1_1_ce]) (by kernel_rfl) TT_ok (GOK.cons weigh_above_1_1_ok (GOK.nil)) ⟨[(2, ⟨⟨[(.int .i64)], [(8, .v 0)], []⟩, [4, 5, 9, 10, 11, 12, 13, 14, 15, 16, 17, 18], [], [], 0, []⟩)], [], [], []⟩ Try.func40 rfl Try.ntmps40 (rs := [.tmp 4]) rfl (sig := slices_IndexFunc_2_sig) (out := slices_IndexFunc_2_out) rfl Try.call40 (fun X => by kernel_rfl)

def slices_ContainsFunc_2_sig : Shape := ⟨[(.list (.int .i64)), (.int .i64)], [(0, .v 0), (1, .fn 27 [.addr 1])], []⟩
def slices_ContainsFunc_2_out : Shape := ⟨[.bool], [(0, .v 0)], []⟩
noncomputable def slices_ContainsFunc_2_ce : CE := ⟨26, slices_ContainsFunc_2_sig, slices_ContainsFunc_2_out, fun X => slices_ContainsFunc_2 X.1 X.2⟩
theorem slices_ContainsFunc_2_ok : CE.ok Try.prog slices_ContainsFunc_2_ce := CE.of (Γ := [slices_IndexFunc_2_ce]) (by kernel_rfl) TT_ok (GOK.cons slices_IndexFunc_2_ok (GOK.nil)) ⟨[], [], [], []⟩ Try.func26 rfl Try.ntmps26 (rs := [.tmp 4]) rfl (sig := slices_ContainsFunc_2_sig) (out := slices_ContainsFunc_2_out) rfl Try.call26 (fun X => by kernel_rfl)

def weigh_above_1_sig : Shape := ⟨[(.list (.int .i64)), (.int .i64)], [(0, .v 0), (1, .addr 1)], []⟩
def weigh_above_1_out : Shape := ⟨[.bool], [(0, .v 0)], []⟩
noncomputable def weigh_above_1_ce : CE := ⟨25, weigh_above_1_sig, weigh_above_1_out, fun X => weigh_above_1 X.1 X.2⟩
theorem weigh_above_1_ok : CE.ok Try.prog weigh_above_1_ce := CE.of (Γ := [slices_ContainsFunc_2_ce]) (by kernel_rfl) TT_ok (GOK.cons slices_ContainsFunc_2_ok (GOK.nil)) ⟨[], [], [], []⟩ Try.func25 rfl Try.ntmps25 (rs := [.tmp 3]) rfl (sig := weigh_above_1_sig) (out := weigh_above_1_out) rfl Try.call25 (fun X => by kernel_rfl)

def slices_IndexFunc_1_sig : Shape := ⟨[(.list (.list (.int .i64))), (.int .i64)], [(0, .v 0), (1, .fn 25 [.addr 1])], []⟩
def slices_IndexFunc_1_out : Shape := ⟨[(.int .i64)], [(0, .v 0)], []⟩
noncomputable def slices_IndexFunc_1_ce : CE := ⟨39, slices_IndexFunc_1_sig, slices_IndexFunc_1_out, fun X => slices_IndexFunc_1 X.1 X.2⟩
theorem slices_IndexFunc_1_ok : CE.ok Try.prog slices_IndexFunc_1_ce := CE.of (Γ := [weigh_above_1_ce]) (by kernel_rfl) TT_ok (GOK.cons weigh_above_1_ok (GOK.nil)) ⟨[(2, ⟨⟨[(.int .i64)], [(8, .v 0)], []⟩, [4, 5, 9, 10, 11, 12, 13, 14, 15, 16, 17, 18], [], [], 0, []⟩)], [], [], []⟩ Try.func39 rfl Try.ntmps39 (rs := [.tmp 4]) rfl (sig := slices_IndexFunc_1_sig) (out := slices_IndexFunc_1_out) rfl Try.call39 (fun X => by kernel_rfl)

def slices_ContainsFunc_1_sig : Shape := ⟨[(.list (.list (.int .i64))), (.int .i64)], [(0, .v 0), (1, .fn 25 [.addr 1])], []⟩
def slices_ContainsFunc_1_out : Shape := ⟨[.bool], [(0, .v 0)], []⟩
noncomputable def slices_ContainsFunc_1_ce : CE := ⟨24, slices_ContainsFunc_1_sig, slices_ContainsFunc_1_out, fun X => slices_ContainsFunc_1 X.1 X.2⟩
theorem slices_ContainsFunc_1_ok : CE.ok Try.prog slices_ContainsFunc_1_ce := CE.of (Γ := [slices_IndexFunc_1_ce]) (by kernel_rfl) TT_ok (GOK.cons slices_IndexFunc_1_ok (GOK.nil)) ⟨[], [], [], []⟩ Try.func24 rfl Try.ntmps24 (rs := [.tmp 4]) rfl (sig := slices_ContainsFunc_1_sig) (out := slices_ContainsFunc_1_out) rfl Try.call24 (fun X => by kernel_rfl)

def weigh_above_sig : Shape := ⟨[(.list (.list (.int .i64))), (.int .i64)], [(0, .v 0), (1, .v 1)], []⟩
def weigh_above_out : Shape := ⟨[.bool], [(0, .v 0)], []⟩
noncomputable def weigh_above_ce : CE := ⟨13, weigh_above_sig, weigh_above_out, fun X => weigh_above X.1 X.2⟩
theorem weigh_above_ok : CE.ok Try.prog weigh_above_ce := CE.of (Γ := [slices_ContainsFunc_1_ce]) (by kernel_rfl) TT_ok (GOK.cons slices_ContainsFunc_1_ok (GOK.nil)) ⟨[], [], [], []⟩ Try.func13 rfl Try.ntmps13 (rs := [.tmp 4]) rfl (sig := weigh_above_sig) (out := weigh_above_out) rfl Try.call13 (fun X => by kernel_rfl)

def weigh_Check_sig : Shape := ⟨[(.pair (.int .i64) (.pair (.list (.int .i64)) (.pair (.list (.list (.list (.int .i64)))) (.pair (.list (.int .i64)) .unit))))], [(0, .v 0)], []⟩
def weigh_Check_out : Shape := ⟨[(.int .i64)], [(0, .v 0)], []⟩
noncomputable def weigh_Check_ce : CE := ⟨21, weigh_Check_sig, weigh_Check_out, fun X => weigh_Check X⟩
theorem weigh_Check_ok : CE.ok Try.prog weigh_Check_ce := CE.of (Γ := [slices_ContainsFunc_ce, weigh_above_ce]) (by kernel_rfl) TT_ok (GOK.cons slices_ContainsFunc_ok (GOK.cons weigh_above_ok (GOK.nil))) ⟨[(10, ⟨⟨[(.int .i64), (.list (.list (.int .i64)))], [(4, .own 2), (45, .v 0)], [(2, .arr 22 1)]⟩, [2, 6, 41, 46, 47, 48, 49, 50, 51, 52, 53, 54, 55, 56, 57, 58, 59, 60, 61], [], [0, 1], 3, []⟩)], [], [], []⟩ Try.func21 rfl Try.ntmps21 (rs := [.tmp 2]) rfl (sig := weigh_Check_sig) (out := weigh_Check_out) rfl Try.call21 (fun X => by kernel_rfl)

def weigh_two_sig : Shape := ⟨[(.pair (.int .i64) (.pair (.list (.int .i64)) (.pair (.list (.list (.list (.int .i64)))) (.pair (.list (.int .i64)) .unit)))), (.pair (.int .i64) (.pair (.list (.int .i64)) (.pair (.list (.list (.list (.int .i64)))) (.pair (.list (.int .i64)) .unit))))], [(0, .v 0), (1, .v 1)], []⟩
def weigh_two_out : Shape := ⟨[(.int .i64)], [(0, .v 0)], []⟩
noncomputable def weigh_two_ce : CE := ⟨11, weigh_two_sig, weigh_two_out, fun X => weigh_two X.1 X.2⟩
theorem weigh_two_ok : CE.ok Try.prog weigh_two_ce := CE.of (Γ := [weigh_Check_ce]) (by kernel_rfl) TT_ok (GOK.cons weigh_Check_ok (GOK.nil)) ⟨[(2, ⟨⟨[(.int .i64)], [(12, .v 0)], []⟩, [4, 6, 7, 13, 14, 15, 16, 17, 18, 19, 20, 21], [], [0, 1, 2], 3, []⟩)], [], [], []⟩ Try.func11 rfl Try.ntmps11 (rs := [.tmp 4]) rfl (sig := weigh_two_sig) (out := weigh_two_out) rfl Try.call11 (fun X => by kernel_rfl)

def slices_Clone_sig : Shape := ⟨[(.list (.int .i64))], [(0, .v 0)], []⟩
def slices_Clone_out : Shape := ⟨[(.list (.int .i64))], [(0, .own 0)], [(0, .arr 3 0)]⟩
noncomputable def slices_Clone_ce : CE := ⟨22, slices_Clone_sig, slices_Clone_out, fun X => slices_Clone X⟩
theorem slices_Clone_ok : CE.ok Try.prog slices_Clone_ce := CE.of (Γ := []) (by kernel_rfl) TT_ok (GOK.nil) ⟨[], [], [], []⟩ Try.func22 rfl Try.ntmps22 (rs := [.tmp 2]) rfl (sig := slices_Clone_sig) (out := slices_Clone_out) rfl Try.call22 (fun X => by kernel_rfl)

def slices_Grow_sig : Shape := ⟨[(.int .i64)], [(0, .nil), (1, .v 0)], []⟩
def slices_Grow_out : Shape := ⟨[(.list (.int .i64))], [(0, .own 0)], [(0, .arr 3 0)]⟩
noncomputable def slices_Grow_ce : CE := ⟨38, slices_Grow_sig, slices_Grow_out, fun X => slices_Grow X⟩
theorem slices_Grow_ok : CE.ok Try.prog slices_Grow_ce := CE.of (Γ := []) (by kernel_rfl) TT_ok (GOK.nil) ⟨[], [], [(5, [(0, 0), (0, 1), (0, 2), (0, 3), (0, 4), (2, 5), (0, 6), (0, 7), (1, 8), (0, 9)])], []⟩ Try.func38 rfl Try.ntmps38 (rs := [.tmp 4]) rfl (sig := slices_Grow_sig) (out := slices_Grow_out) rfl Try.call38 (fun X => by kernel_rfl)

def slices_Concat_sig : Shape := ⟨[(.list (.list (.int .i64)))], [(0, .v 0)], []⟩
def slices_Concat_out : Shape := ⟨[(.list (.int .i64))], [(0, .own 0)], [(0, .arr 3 0)]⟩
noncomputable def slices_Concat_ce : CE := ⟨23, slices_Concat_sig, slices_Concat_out, fun X => slices_Concat X⟩
theorem slices_Concat_ok : CE.ok Try.prog slices_Concat_ce := CE.of (Γ := [slices_Grow_ce]) (by kernel_rfl) TT_ok (GOK.cons slices_Grow_ok (GOK.nil)) ⟨[(3, ⟨⟨[(.int .i64), (.int .i64)], [(3, .v 0), (11, .v 1)], []⟩, [5, 12, 13, 14, 15, 16, 17, 18, 19, 20, 21, 22], [], [], 0, []⟩), (11, ⟨⟨[(.int .i64), (.list (.int .i64))], [(6, .own 0), (27, .v 0)], [(0, .arr 3 1)]⟩, [8, 24, 28, 29, 30, 31, 32, 33, 34], [], [], 1, []⟩)], [], [], []⟩ Try.func23 rfl Try.ntmps23 (rs := [.tmp 2]) rfl (sig := slices_Concat_sig) (out := slices_Concat_out) rfl Try.call23 (fun X => by kernel_rfl)

def weigh_sum_sig : Shape := ⟨[(.pair (.int .i64) (.pair (.list (.int .i64)) (.pair (.list (.list (.list (.int .i64)))) (.pair (.list (.int .i64)) .unit)))), (.pair (.int .i64) (.pair (.list (.int .i64)) (.pair (.list (.list (.list (.int .i64)))) (.pair (.list (.int .i64)) .unit)))), (.int .i64)], [(0, .v 0), (1, .v 1), (2, .v 2)], []⟩
def weigh_sum_out : Shape := ⟨[(.pair (.int .i64) (.pair (.list (.int .i64)) (.pair (.list (.list (.list (.int .i64)))) (.pair (.list (.int .i64)) .unit))))], [(0, .v 0)], []⟩
noncomputable def weigh_sum_ce : CE := ⟨12, weigh_sum_sig, weigh_sum_out, fun X => weigh_sum X.1 X.2.1 X.2.2⟩
theorem weigh_sum_ok : CE.ok Try.prog weigh_sum_ce := CE.of (Γ := [slices_Clone_ce, slices_Concat_ce]) (by kernel_rfl) TT_ok (GOK.cons slices_Clone_ok (GOK.cons slices_Concat_ok (GOK.nil))) ⟨[(4, ⟨⟨[(.int .i64), (.int .i64), (.list (.int .i64)), (.list (.int .i64))], [(9, .ptr 3 0), (39, .v 0)], [(3, .box 25 [.v 1, .own 4, .nil, .own 5]), (4, .arr 3 2), (5, .arr 3 3)]⟩, [11, 40, 41, 42, 43, 44, 45, 46, 47, 48, 49, 50, 51], [], [0, 1, 2], 6, []⟩), (9, ⟨⟨[(.int .i64), (.int .i64), (.list (.int .i64)), (.list (.int .i64)), (.list (.list (.list (.int .i64))))], [(9, .ptr 3 0), (54, .v 0)], [(3, .box 25 [.v 1, .own 4, .own 6, .own 5]), (4, .arr 3 2), (5, .arr 3 3), (6, .arr 38 4)]⟩, [12, 13, 15, 17, 55, 56, 57, 58, 59, 60, 61, 62, 63, 64, 65, 66, 67, 68, 69, 70, 71, 72, 73, 74, 75, 76, 77, 78, 79, 80, 81, 82, 83, 84, 85, 86, 87, 88, 89, 90, 91, 92, 93, 94, 95, 96, 97, 98, 99, 100, 101], [], [0, 1, 2], 7, [(3, 2, some 38, (.list (.list (.int .i64))))]⟩), (13, ⟨⟨[(.int .i64), (.list (.list (.int .i64)))], [(13, .own 7), (63, .v 0)], [(7, .arr 22 1)]⟩, [15, 64, 65, 66, 67, 68, 69, 70, 71, 72, 73, 74, 75], [], [0, 1, 2, 3, 4, 5, 6], 8, []⟩), (18, ⟨⟨[(.int .i64), (.list (.list (.int .i64)))], [(13, .own 7), (82, .v 0)], [(7, .arr 22 1)]⟩, [17, 83, 84, 85, 86, 87, 88, 89, 90, 91, 92, 93, 94], [], [0, 1, 2, 3, 4, 5, 6], 8, []⟩)], [(2, ⟨⟨[(.int .i64), (.list (.int .i64)), (.list (.int .i64))], [(9, .ptr 3 0)], [(3, .box 25 [.v 0, .own 4, .nil, .own 5]), (4, .arr 3 1), (5, .arr 3 2)]⟩, [24, 25, 26, 27, 28, 29, 30, 31, 32, 33, 34, 35], [], [0, 1, 2], 6, []⟩)], [(1, [(0, 0), (0, 1), (0, 2), (0, 3), (0, 4), (0, 5), (0, 6), (0, 7)])], [(2, (.one 0 (.one 2 (.one 5 (.one 7 (.live [13] (.rd 1 [11, 13] (.rd 3 [4, 10, 11, 13] (.rd 6 [9, 10, 11, 13] (.rd 8 [9, 10, 11, 13] (.alt 1 4 (.alt 1 9 (.alt 1 10 (.alt 1 11 (.alt 1 12 (.alt 2 13 (.leaf []) .stop) .stop) (.alt 1 12 (.alt 1 11 (.alt 2 13 (.leaf []) .stop) .stop) .stop)) (.alt 1 12 (.alt 1 10 (.alt 1 11 (.alt 2 13 (.leaf []) .stop) .stop) .stop) .stop)) (.alt 1 12 (.alt 1 9 (.alt 1 10 (.alt 1 11 (.alt 2 13 (.leaf []) .stop) .stop) .stop) .stop) .stop)) (.alt 1 9 (.alt 1 4 (.alt 1 10 (.alt 1 11 (.alt 1 12 (.alt 2 13 (.leaf []) .stop) .stop) (.alt 1 12 (.alt 1 11 (.alt 2 13 (.leaf []) .stop) .stop) .stop)) (.alt 1 12 (.alt 1 10 (.alt 1 11 (.alt 2 13 (.leaf []) .stop) .stop) .stop) .stop)) (.alt 1 12 (.alt 1 4 (.alt 1 10 (.alt 1 11 (.alt 2 13 (.leaf []) .stop) .stop) .stop) .stop) .stop)) (.alt 1 12 (.alt 1 4 (.alt 1 9 (.alt 1 10 (.alt 1 11 (.alt 2 13 (.leaf []) .stop) .stop) .stop) .stop) (.alt 1 9 (.alt 1 4 (.alt 1 10 (.alt 1 11 (.alt 2 13 (.leaf []) .stop) .stop) .stop) .stop) .stop)) .stop)))))))))))))]⟩ Try.func12 rfl Try.ntmps12 (rs := [.cell 6 25]) rfl (sig := weigh_sum_sig) (out := weigh_sum_out) rfl Try.call12 (fun X => by kernel_rfl)

def weigh_Sum_sig : Shape := ⟨[(.pair (.int .i64) (.pair (.list (.int .i64)) (.pair (.list (.list (.list (.int .i64)))) (.pair (.list (.int .i64)) .unit)))), (.pair (.int .i64) (.pair (.list (.int .i64)) (.pair (.list (.list (.list (.int .i64)))) (.pair (.list (.int .i64)) .unit))))], [(0, .v 0), (1, .v 1)], []⟩
def weigh_Sum_out : Shape := ⟨[(.pair (.int .i64) (.pair (.list (.int .i64)) (.pair (.list (.list (.list (.int .i64)))) (.pair (.list (.int .i64)) .unit)))), (.int .i64)], [(0, .v 0), (1, .v 1)], []⟩
noncomputable def weigh_Sum_ce : CE := ⟨4, weigh_Sum_sig, weigh_Sum_out, fun X => weigh_Sum X.1 X.2⟩
theorem weigh_Sum_ok : CE.ok Try.prog weigh_Sum_ce := CE.of (Γ := [weigh_two_ce, weigh_sum_ce]) (by kernel_rfl) TT_ok (GOK.cons weigh_two_ok (GOK.cons weigh_sum_ok (GOK.nil))) ⟨[], [], [], []⟩ Try.func4 rfl Try.ntmps4 (rs := [.cell 4 25, .tmp 5]) rfl (sig := weigh_Sum_sig) (out := weigh_Sum_out) rfl Try.call4 (fun X => by kernel_rfl)

def weigh_all_sig : Shape := ⟨[(.pair (.int .i64) (.pair (.list (.int .i64)) (.pair (.list (.list (.list (.int .i64)))) (.pair (.list (.int .i64)) .unit))))], [(0, .v 0)], []⟩
def weigh_all_out : Shape := ⟨[(.list (.list (.int .i64)))], [(0, .own 0)], [(0, .arr 22 0)]⟩
noncomputable def weigh_all_ce : CE := ⟨14, weigh_all_sig, weigh_all_out, fun X => weigh_all X⟩
theorem weigh_all_ok : CE.ok Try.prog weigh_all_ce := CE.of (Γ := []) (by kernel_rfl) TT_ok (GOK.nil) ⟨[(3, ⟨⟨[(.int .i64), (.list (.list (.int .i64)))], [(3, .own 1), (14, .v 0)], [(1, .arr 22 1)]⟩, [5, 10, 15, 16, 17, 18, 19, 20, 21], [], [0], 2, []⟩)], [], [], []⟩ Try.func14 rfl Try.ntmps14 (rs := [.tmp 2]) rfl (sig := weigh_all_sig) (out := weigh_all_out) rfl Try.call14 (fun X => by kernel_rfl)

def weigh_times_sig : Shape := ⟨[(.list (.int .i64)), (.list (.int .i64))], [(0, .v 0), (1, .v 1)], []⟩
def weigh_times_out : Shape := ⟨[(.list (.int .i64))], [(0, .own 0)], [(0, .arr 3 0)]⟩
noncomputable def weigh_times_ce : CE := ⟨15, weigh_times_sig, weigh_times_out, fun X => weigh_times X.1 X.2⟩
theorem weigh_times_ok : CE.ok Try.prog weigh_times_ce := CE.of (Γ := []) (by kernel_rfl) TT_ok (GOK.nil) ⟨[(3, ⟨⟨[(.int .i64), (.list (.int .i64))], [(5, .own 0), (12, .v 0)], [(0, .arr 3 1)]⟩, [7, 9, 13, 14, 15, 16, 17, 18, 19, 20, 21, 22, 23, 24, 25, 26, 27, 28, 29], [], [], 1, []⟩), (6, ⟨⟨[(.int .i64), (.list (.int .i64))], [(5, .own 0), (18, .v 0)], [(0, .arr 3 1)]⟩, [9, 19, 20, 21, 22, 23, 24, 25, 26, 27, 28], [], [], 1, []⟩)], [], [], []⟩ Try.func15 rfl Try.ntmps15 (rs := [.tmp 4]) rfl (sig := weigh_times_sig) (out := weigh_times_out) rfl Try.call15 (fun X => by kernel_rfl)

def weigh_Product_sig : Shape := ⟨[(.pair (.int .i64) (.pair (.list (.int .i64)) (.pair (.list (.list (.list (.int .i64)))) (.pair (.list (.int .i64)) .unit)))), (.pair (.int .i64) (.pair (.list (.int .i64)) (.pair (.list (.list (.list (.int .i64)))) (.pair (.list (.int .i64)) .unit))))], [(0, .v 0), (1, .v 1)], []⟩
def weigh_Product_out : Shape := ⟨[(.pair (.int .i64) (.pair (.list (.int .i64)) (.pair (.list (.list (.list (.int .i64)))) (.pair (.list (.int .i64)) .unit)))), (.int .i64)], [(0, .v 0), (1, .v 1)], []⟩
noncomputable def weigh_Product_ce : CE := ⟨5, weigh_Product_sig, weigh_Product_out, fun X => weigh_Product X.1 X.2⟩
theorem weigh_Product_ok : CE.ok Try.prog weigh_Product_ce := CE.of (Γ := [weigh_two_ce, weigh_all_ce, weigh_above_ce, weigh_times_ce]) (by kernel_rfl) TT_ok (GOK.cons weigh_two_ok (GOK.cons weigh_all_ok (GOK.cons weigh_above_ok (GOK.cons weigh_times_ok (GOK.nil))))) ⟨[(10, ⟨⟨[(.int .i64), (.int .i64), (.list (.int .i64)), (.list (.int .i64)), (.list (.list (.list (.int .i64))))], [(7, .ptr 5 0), (54, .v 0)], [(5, .box 25 [.v 1, .v 2, .own 6, .v 3]), (6, .arr 38 4)]⟩, [8, 9, 11, 13, 55, 56, 57, 58, 59, 60, 61, 62, 63, 64, 65, 66, 67, 68, 69, 70, 71, 72, 73, 74, 75, 76, 77, 78, 79, 80, 81, 82, 83, 84, 85, 86, 87, 88, 89, 90, 91], [], [0, 1, 2, 3, 4], 7, [(5, 2, some 38, (.list (.list (.int .i64))))]⟩), (14, ⟨⟨[(.int .i64), (.list (.list (.int .i64)))], [(9, .own 7), (63, .v 0)], [(7, .arr 22 1)]⟩, [11, 13, 64, 65, 66, 67, 68, 69, 70, 71, 72, 73, 74, 75, 76, 77, 78, 79, 80, 81, 82, 83, 84], [], [0, 1, 2, 3, 4, 5, 6], 8, []⟩), (17, ⟨⟨[(.int .i64), (.list (.list (.int .i64)))], [(9, .own 7), (73, .v 0)], [(7, .arr 22 1)]⟩, [13, 74, 75, 76, 77, 78, 79, 80, 81, 82, 83], [], [0, 1, 2, 3, 4, 5, 6], 8, []⟩)], [(8, ⟨⟨[(.int .i64), (.list (.int .i64)), (.list (.int .i64))], [(7, .ptr 5 0)], [(5, .box 25 [.v 0, .v 1, .nil, .v 2])]⟩, [39, 40, 41, 42, 43, 44, 45, 46, 47, 48, 49, 50, 51], [], [0, 1, 2, 3, 4], 6, []⟩)], [], [(8, (.one 0 (.one 2 (.one 4 (.one 7 (.one 9 (.live [14] (.rd 1 [12, 14] (.rd 3 [6, 11, 12, 14] (.rd 5 [6, 11, 12, 14] (.rd 8 [11, 12, 14] (.rd 10 [11, 12, 14] (.alt 1 6 (.alt 1 11 (.rd 12 [14] (.alt 1 13 (.alt 2 14 (.leaf []) .stop) .stop)) (.alt 1 13 (.alt 1 11 (.rd 12 [14] (.alt 2 14 (.leaf []) .stop)) .stop) .stop)) (.alt 1 13 (.alt 1 6 (.alt 1 11 (.rd 12 [14] (.alt 2 14 (.leaf []) .stop)) .stop) .stop) .stop))))))))))))))]⟩ Try.func5 rfl Try.ntmps5 (rs := [.cell 4 25, .tmp 5]) rfl (sig := weigh_Product_sig) (out := weigh_Product_out) rfl Try.call5 (fun X => by kernel_rfl)

def r18_above_sig : Shape := ⟨[(.list (.int .i64)), (.int .i64)], [(0, .v 0), (1, .v 1)], []⟩
def r18_above_out : Shape := ⟨[.bool], [(0, .v 0)], []⟩
noncomputable def r18_above_ce : CE := ⟨16, r18_above_sig, r18_above_out, fun X => r18_above X.1 X.2⟩
theorem r18_above_ok : CE.ok Try.prog r18_above_ce := CE.of (Γ := []) (by kernel_rfl) TT_ok (GOK.nil) ⟨[(2, ⟨⟨[(.int .i64)], [(5, .v 0)], []⟩, [4, 6, 7, 8, 9, 10, 11, 12, 13, 14, 15, 16, 17, 18, 19, 20, 21, 22, 23, 24, 25, 26], [], [], 0, []⟩)], [], [], []⟩ Try.func16 rfl Try.ntmps16 (rs := [.tmp 4]) rfl (sig := r18_above_sig) (out := r18_above_out) rfl Try.call16 (fun X => by kernel_rfl)

def r18_Above_sig : Shape := ⟨[(.pair (.int .i64) (.pair (.list (.int .i64)) (.pair (.list (.list (.list (.int .i64)))) (.pair (.list (.int .i64)) .unit)))), (.int .i64)], [(0, .v 0), (1, .v 1)], []⟩
def r18_Above_out : Shape := ⟨[.bool], [(0, .v 0)], []⟩
noncomputable def r18_Above_ce : CE := ⟨7, r18_Above_sig, r18_Above_out, fun X => r18_Above X.1 X.2⟩
theorem r18_Above_ok : CE.ok Try.prog r18_Above_ce := CE.of (Γ := [r18_above_ce]) (by kernel_rfl) TT_ok (GOK.cons r18_above_ok (GOK.nil)) ⟨[(4, ⟨⟨[.bool, (.int .i64)], [(5, .v 0), (7, .v 1)], []⟩, [8, 9, 18, 19, 20, 21, 22, 23, 24, 25, 26, 27, 28, 29, 30, 31, 32, 33, 34, 35, 36, 37, 38, 39, 40, 41, 42, 43, 44, 45, 46, 47, 48], [], [0], 1, []⟩), (7, ⟨⟨[.bool, (.int .i64)], [(5, .v 0), (8, .v 1)], []⟩, [9, 25, 26, 27, 28, 29, 30, 31, 32, 33, 34, 35, 36, 37, 38, 39, 40, 41, 42, 43, 44, 45, 46, 47, 48], [], [0], 1, []⟩)], [], [], []⟩ Try.func7 rfl Try.ntmps7 (rs := [.tmp 4]) rfl (sig := r18_Above_sig) (out := r18_Above_out) rfl Try.call7 (fun X => by kernel_rfl)

def r18_Check_sig : Shape := ⟨[(.pair (.int .i64) (.pair (.list (.int .i64)) (.pair (.list (.list (.list (.int .i64)))) (.pair (.list (.int .i64)) .unit))))], [(0, .v 0)], []⟩
def r18_Check_out : Shape := ⟨[(.int .i64)], [(0, .v 0)], []⟩
noncomputable def r18_Check_ce : CE := ⟨6, r18_Check_sig, r18_Check_out, fun X => r18_Check X⟩
theorem r18_Check_ok : CE.ok Try.prog r18_Check_ce := CE.of (Γ := [r18_Above_ce]) (by kernel_rfl) TT_ok (GOK.cons r18_Above_ok (GOK.nil)) ⟨[(9, ⟨⟨[(.int .i64)], [(4, .v 0)], []⟩, [2, 5, 37, 38, 39, 40, 41, 42, 43, 44, 45, 46, 47, 48, 49, 50, 51, 52, 53, 54, 55, 56, 57, 58, 59, 60, 61, 62, 63, 64, 65, 66, 67], [], [0], 1, []⟩), (14, ⟨⟨[(.int .i64)], [(5, .v 0)], []⟩, [2, 52, 53, 54, 55, 56, 57, 58, 59, 60, 61, 62, 63, 64, 65, 66, 67], [], [0], 1, []⟩)], [], [], []⟩ Try.func6 rfl Try.ntmps6 (rs := [.tmp 2]) rfl (sig := r18_Check_sig) (out := r18_Check_out) rfl Try.call6 (fun X => by kernel_rfl)

def law_noWeigh_sig : Shape := ⟨[(.pair (.int .i64) (.pair (.list (.int .i64)) (.pair (.list (.list (.list (.int .i64)))) (.pair (.list (.int .i64)) .unit))))], [(0, .v 0)], []⟩
def law_noWeigh_out : Shape := ⟨[.bool], [(0, .v 0)], []⟩
noncomputable def law_noWeigh_ce : CE := ⟨8, law_noWeigh_sig, law_noWeigh_out, fun X => law_noWeigh X⟩
theorem law_noWeigh_ok : CE.ok Try.prog law_noWeigh_ce := CE.of (Γ := []) (by kernel_rfl) TT_ok (GOK.nil) ⟨[], [], [], []⟩ Try.func8 rfl Try.ntmps8 (rs := [.tmp 2]) rfl (sig := law_noWeigh_sig) (out := law_noWeigh_out) rfl Try.call8 (fun X => by kernel_rfl)

def r1_May_sig : Shape := ⟨[(.int .i64), (.list (.int .i64))], [(0, .v 0), (1, .v 1)], []⟩
def r1_May_out : Shape := ⟨[(.int .i64)], [(0, .v 0)], []⟩
noncomputable def r1_May_ce : CE := ⟨9, r1_May_sig, r1_May_out, fun X => r1_May X.1 X.2⟩
theorem r1_May_ok : CE.ok Try.prog r1_May_ce := CE.of (Γ := []) (by kernel_rfl) TT_ok (GOK.nil) ⟨[(6, ⟨⟨[(.int .i64)], [(5, .v 0)], []⟩, [4, 15, 16, 17, 18, 19, 20, 21, 22, 23, 24, 25, 26, 27, 28, 29, 30, 31, 32, 33], [], [], 0, []⟩)], [], [], []⟩ Try.func9 rfl Try.ntmps9 (rs := [.tmp 4]) rfl (sig := r1_May_sig) (out := r1_May_out) rfl Try.call9 (fun X => by kernel_rfl)

def evermorenum_trim_sig : Shape := ⟨[.bool, (.list (.int .i64))], [(0, .v 0), (1, .v 1)], []⟩
def evermorenum_trim_out : Shape := ⟨[(.pair .bool (.pair (.list (.int .i64)) .unit))], [(0, .v 0)], []⟩
noncomputable def evermorenum_trim_ce : CE := ⟨32, evermorenum_trim_sig, evermorenum_trim_out, fun X => evermorenum_trim X.1 X.2⟩
theorem evermorenum_trim_ok : CE.ok Try.prog evermorenum_trim_ce := CE.of (Γ := []) (by kernel_rfl) TT_ok (GOK.nil) ⟨[(2, ⟨⟨[(.int .i64)], [(5, .v 0)], []⟩, [8, 9, 10, 11, 12, 13, 14, 15, 16, 17, 18, 19], [], [0], 1, []⟩)], [(3, ⟨⟨[(.int .i64)], [(5, .v 0)], []⟩, [8, 9, 10, 11, 12, 13, 14, 15, 16, 17, 18, 19], [], [0], 1, []⟩)], [], []⟩ Try.func32 rfl Try.ntmps32 (rs := [.cell 4 43]) rfl (sig := evermorenum_trim_sig) (out := evermorenum_trim_out) rfl Try.call32 (fun X => by kernel_rfl)

def evermorenum_Of_sig : Shape := ⟨[(.int .i64)], [(0, .v 0)], []⟩
def evermorenum_Of_out : Shape := ⟨[(.pair .bool (.pair (.list (.int .i64)) .unit))], [(0, .v 0)], []⟩
noncomputable def evermorenum_Of_ce : CE := ⟨42, evermorenum_Of_sig, evermorenum_Of_out, fun X => evermorenum_Of X⟩
theorem evermorenum_Of_ok : CE.ok Try.prog evermorenum_Of_ce := CE.of (Γ := [evermorenum_trim_ce]) (by kernel_rfl) TT_ok (GOK.cons evermorenum_trim_ok (GOK.nil)) ⟨[(5, ⟨⟨[(.int .i64), (.list (.int .i64))], [(0, .v 0), (4, .own 1)], [(1, .arr 3 1)]⟩, [10, 11, 12, 13, 14, 15, 16, 17, 18], [], [0], 2, []⟩)], [(3, ⟨⟨[(.int .i64)], [(0, .v 0)], []⟩, [7, 8, 9], [], [0], 1, []⟩)], [], []⟩ Try.func42 rfl Try.ntmps42 (rs := [.cell 2 43]) rfl (sig := evermorenum_Of_sig) (out := evermorenum_Of_out) rfl Try.call42 (fun X => by kernel_rfl)

def r18_Wide_sig : Shape := ⟨[(.list (.int .i64))], [(0, .v 0)], []⟩
def r18_Wide_out : Shape := ⟨[(.list (.pair .bool (.pair (.list (.int .i64)) .unit)))], [(0, .own 0)], [(0, .arr 43 0)]⟩
noncomputable def r18_Wide_ce : CE := ⟨29, r18_Wide_sig, r18_Wide_out, fun X => r18_Wide X⟩
theorem r18_Wide_ok : CE.ok Try.prog r18_Wide_ce := CE.of (Γ := [evermorenum_Of_ce]) (by kernel_rfl) TT_ok (GOK.cons evermorenum_Of_ok (GOK.nil)) ⟨[(3, ⟨⟨[(.int .i64), (.list (.pair .bool (.pair (.list (.int .i64)) .unit)))], [(3, .own 0), (4, .v 0)], [(0, .arr 43 1)]⟩, [5, 6, 7, 8, 9, 10, 11, 12, 13, 14, 15, 16, 17, 18, 19, 20], [], [], 1, []⟩)], [], [], []⟩ Try.func29 rfl Try.ntmps29 (rs := [.tmp 2]) rfl (sig := r18_Wide_sig) (out := r18_Wide_out) rfl Try.call29 (fun X => by kernel_rfl)

def evermorenum_Mul_sig : Shape := ⟨[(.pair .bool (.pair (.list (.int .i64)) .unit)), (.pair .bool (.pair (.list (.int .i64)) .unit))], [(0, .v 0), (1, .v 1)], []⟩
def evermorenum_Mul_out : Shape := ⟨[(.pair .bool (.pair (.list (.int .i64)) .unit))], [(0, .v 0)], []⟩
noncomputable def evermorenum_Mul_ce : CE := ⟨19, evermorenum_Mul_sig, evermorenum_Mul_out, fun X => evermorenum_Mul X.1 X.2⟩
theorem evermorenum_Mul_ok : CE.ok Try.prog evermorenum_Mul_ce := CE.of (Γ := [evermorenum_trim_ce]) (by kernel_rfl) TT_ok (GOK.cons evermorenum_trim_ok (GOK.nil)) ⟨[(3, ⟨⟨[(.int .i64), (.list (.int .i64))], [(5, .own 3), (6, .v 0)], [(3, .arr 3 1)]⟩, [7, 8, 9, 18, 19, 20, 21, 22, 23, 24, 25, 26, 27, 28, 29, 30, 31, 32, 33, 34, 35, 36, 37, 38, 39, 40, 41, 42, 43, 44, 45, 46, 47, 48, 49, 50, 51, 52, 53, 54, 55, 56, 57, 58, 59, 60, 61, 62, 63, 64, 65, 66, 67, 68, 69, 70, 71], [], [0, 1, 2], 4, []⟩), (7, ⟨⟨[(.int .i64), (.int .i64), (.list (.int .i64))], [(5, .own 3), (7, .v 0), (8, .v 1)], [(3, .arr 3 2)]⟩, [9, 26, 27, 28, 29, 30, 31, 32, 33, 34, 35, 36, 37, 38, 39, 40, 41, 42, 43, 44, 45, 46, 47, 48, 49, 50, 51, 52, 53, 54, 55, 56, 57, 58, 59, 60, 61, 62, 63, 64, 65, 66, 67, 68, 69, 70, 71], [], [0, 1, 2], 4, []⟩)], [(7, ⟨⟨[(.list (.int .i64))], [(5, .own 3)], [(3, .arr 3 0)]⟩, [26, 27, 28, 29, 30, 31, 32, 33, 34], [], [0, 1, 2], 4, []⟩), (11, ⟨⟨[(.int .i64)], [(9, .v 0)], []⟩, [45, 46, 47, 48, 49, 50, 51, 52, 53, 54, 55, 56, 57, 58, 59, 60, 61, 62], [], [0, 1, 2, 3], 4, []⟩)], [(11, [(0, 0), (0, 1), (0, 2), (0, 3), (0, 4), (0, 5), (0, 6), (0, 7), (0, 8), (0, 9), (0, 10), (0, 11), (0, 12), (0, 13)])], []⟩ Try.func19 rfl Try.ntmps19 (rs := [.cell 4 43]) rfl (sig := evermorenum_Mul_sig) (out := evermorenum_Mul_out) rfl Try.call19 (fun X => by kernel_rfl)

def evermorenum_plus_sig : Shape := ⟨[(.list (.int .i64)), (.list (.int .i64))], [(0, .v 0), (1, .v 1)], []⟩
def evermorenum_plus_out : Shape := ⟨[(.list (.int .i64))], [(0, .own 0)], [(0, .arr 3 0)]⟩
noncomputable def evermorenum_plus_ce : CE := ⟨31, evermorenum_plus_sig, evermorenum_plus_out, fun X => evermorenum_plus X.1 X.2⟩
theorem evermorenum_plus_ok : CE.ok Try.prog evermorenum_plus_ce := CE.of (Γ := []) (by kernel_rfl) TT_ok (GOK.nil) ⟨[(4, ⟨⟨[(.int .i64), (.int .i64), (.list (.int .i64))], [(5, .own 0), (6, .v 0), (7, .v 1)], [(0, .arr 3 2)]⟩, [8, 9, 10, 11, 12, 13, 14, 15, 16, 17, 18, 19, 20, 21, 22, 23, 24, 25, 26, 27, 28, 29, 30, 31, 32, 33, 34, 35, 36, 37, 38, 39, 40, 41, 42, 43, 44, 45, 46, 47, 48, 49, 50, 51, 52], [], [], 1, []⟩)], [(4, ⟨⟨[], [], []⟩, [9, 10, 11, 12, 13, 14, 15, 16, 17, 18, 19, 20, 21, 22], [], [0], 1, []⟩), (8, ⟨⟨[(.int .i64)], [(8, .v 0)], []⟩, [26, 27, 28, 29, 30, 31, 32, 33, 34, 35], [], [0], 1, []⟩), (10, ⟨⟨[(.int .i64)], [(8, .v 0)], []⟩, [36, 37, 38, 39, 40, 41, 42, 43, 44, 45], [], [0], 1, []⟩)], [], []⟩ Try.func31 rfl Try.ntmps31 (rs := [.tmp 4]) rfl (sig := evermorenum_plus_sig) (out := evermorenum_plus_out) rfl Try.call31 (fun X => by kernel_rfl)

def evermorenum_size_sig : Shape := ⟨[(.list (.int .i64)), (.list (.int .i64))], [(0, .v 0), (1, .v 1)], []⟩
def evermorenum_size_out : Shape := ⟨[(.int .i64)], [(0, .v 0)], []⟩
noncomputable def evermorenum_size_ce : CE := ⟨33, evermorenum_size_sig, evermorenum_size_out, fun X => evermorenum_size X.1 X.2⟩
theorem evermorenum_size_ok : CE.ok Try.prog evermorenum_size_ce := CE.of (Γ := []) (by kernel_rfl) TT_ok (GOK.nil) ⟨[(6, ⟨⟨[(.int .i64)], [(5, .v 0)], []⟩, [4, 19, 20, 21, 22, 23, 24, 25, 26, 27, 28, 29, 30, 31, 32, 33, 34, 35, 36, 37, 38, 39, 40], [], [], 0, []⟩)], [], [(8, [(0, 0), (0, 1), (0, 2), (0, 3), (0, 4), (0, 5), (0, 6), (0, 7), (0, 8)]), (9, [(0, 0), (0, 1), (0, 2), (0, 3), (0, 4), (0, 5), (0, 6), (0, 7), (0, 8)])], []⟩ Try.func33 rfl Try.ntmps33 (rs := [.tmp 4]) rfl (sig := evermorenum_size_sig) (out := evermorenum_size_out) rfl Try.call33 (fun X => by kernel_rfl)

def evermorenum_minus_sig : Shape := ⟨[(.list (.int .i64)), (.list (.int .i64))], [(0, .v 0), (1, .v 1)], []⟩
def evermorenum_minus_out : Shape := ⟨[(.list (.int .i64))], [(0, .own 0)], [(0, .arr 3 0)]⟩
noncomputable def evermorenum_minus_ce : CE := ⟨34, evermorenum_minus_sig, evermorenum_minus_out, fun X => evermorenum_minus X.1 X.2⟩
theorem evermorenum_minus_ok : CE.ok Try.prog evermorenum_minus_ce := CE.of (Γ := []) (by kernel_rfl) TT_ok (GOK.nil) ⟨[(4, ⟨⟨[(.int .i64), (.int .i64), (.list (.int .i64))], [(5, .own 0), (6, .v 0), (7, .v 1)], [(0, .arr 3 2)]⟩, [8, 9, 10, 11, 12, 13, 14, 15, 16, 17, 18, 19, 20, 21, 22, 23, 24, 25, 26, 27, 28, 29, 30, 31, 32, 33, 34, 35, 36, 37, 38], [], [], 1, []⟩)], [(8, ⟨⟨[(.int .i64)], [(8, .v 0)], []⟩, [21, 22, 23, 24, 25, 26, 27, 28, 29, 30], [], [0], 1, []⟩), (12, ⟨⟨[(.int .i64), (.int .i64)], [(6, .v 0), (8, .v 1)], []⟩, [31, 32, 33, 34], [], [0], 1, []⟩)], [], []⟩ Try.func34 rfl Try.ntmps34 (rs := [.tmp 4]) rfl (sig := evermorenum_minus_sig) (out := evermorenum_minus_out) rfl Try.call34 (fun X => by kernel_rfl)

def evermorenum_Add_sig : Shape := ⟨[(.pair .bool (.pair (.list (.int .i64)) .unit)), (.pair .bool (.pair (.list (.int .i64)) .unit))], [(0, .v 0), (1, .v 1)], []⟩
def evermorenum_Add_out : Shape := ⟨[(.pair .bool (.pair (.list (.int .i64)) .unit))], [(0, .v 0)], []⟩
noncomputable def evermorenum_Add_ce : CE := ⟨18, evermorenum_Add_sig, evermorenum_Add_out, fun X => evermorenum_Add X.1 X.2⟩
theorem evermorenum_Add_ok : CE.ok Try.prog evermorenum_Add_ce := CE.of (Γ := [evermorenum_plus_ce, evermorenum_trim_ce, evermorenum_size_ce, evermorenum_minus_ce]) (by kernel_rfl) TT_ok (GOK.cons evermorenum_plus_ok (GOK.cons evermorenum_trim_ok (GOK.cons evermorenum_size_ok (GOK.cons evermorenum_minus_ok (GOK.nil))))) ⟨[], [], [], []⟩ Try.func18 rfl Try.ntmps18 (rs := [.cell 4 43]) rfl (sig := evermorenum_Add_sig) (out := evermorenum_Add_out) rfl Try.call18 (fun X => by kernel_rfl)

def r18_Dot_sig : Shape := ⟨[(.list (.pair .bool (.pair (.list (.int .i64)) .unit))), (.list (.pair .bool (.pair (.list (.int .i64)) .unit)))], [(0, .v 0), (1, .v 1)], []⟩
def r18_Dot_out : Shape := ⟨[(.pair .bool (.pair (.list (.int .i64)) .unit))], [(0, .v 0)], []⟩
noncomputable def r18_Dot_ce : CE := ⟨30, r18_Dot_sig, r18_Dot_out, fun X => r18_Dot X.1 X.2⟩
theorem r18_Dot_ok : CE.ok Try.prog r18_Dot_ce := CE.of (Γ := [evermorenum_Mul_ce, evermorenum_Add_ce]) (by kernel_rfl) TT_ok (GOK.cons evermorenum_Mul_ok (GOK.cons evermorenum_Add_ok (GOK.nil))) ⟨[(3, ⟨⟨[(.int .i64), .bool, (.list (.int .i64))], [(5, .ptr 1 0), (6, .v 0)], [(1, .box 43 [.v 1, .v 2])]⟩, [7, 8, 9, 10, 11, 12, 13, 14, 15, 16, 17, 18, 19, 20, 21, 22, 23, 24, 25], [], [0], 2, [(1, 1, none, (.int .i64))]⟩)], [(5, ⟨⟨[.bool, (.list (.int .i64))], [(7, .ptr 2 0)], [(2, .box 43 [.v 0, .v 1])]⟩, [14, 15, 16, 17, 18, 19, 20, 21, 22], [], [0, 1], 3, []⟩)], [], [(5, (.one 0 (.one 1 (.one 2 (.one 4 (.one 5 (.one 6 (.live [8, 10] (.rd 3 [8, 10] (.rd 7 [8, 10] (.alt 2 8 (.leaf [(1, 9), (2, 10)]) (.alt 1 9 (.alt 2 8 (.leaf [(2, 10)]) .stop) .stop))))))))))))]⟩ Try.func30 rfl Try.ntmps30 (rs := [.cell 4 43]) rfl (sig := r18_Dot_sig) (out := r18_Dot_out) rfl Try.call30 (fun X => by kernel_rfl)

def r18_By_sig : Shape := ⟨[(.list (.pair .bool (.pair (.list (.int .i64)) .unit))), (.list (.list (.int .i64)))], [(0, .v 0), (1, .v 1)], []⟩
def r18_By_out : Shape := ⟨[(.list (.pair .bool (.pair (.list (.int .i64)) .unit)))], [(0, .own 0)], [(0, .arr 43 0)]⟩
noncomputable def r18_By_ce : CE := ⟨41, r18_By_sig, r18_By_out, fun X => r18_By X.1 X.2⟩
theorem r18_By_ok : CE.ok Try.prog r18_By_ce := CE.of (Γ := [r18_Wide_ce, r18_Dot_ce]) (by kernel_rfl) TT_ok (GOK.cons r18_Wide_ok (GOK.cons r18_Dot_ok (GOK.nil))) ⟨[(3, ⟨⟨[(.int .i64), (.list (.pair .bool (.pair (.list (.int .i64)) .unit)))], [(5, .own 0), (6, .v 0)], [(0, .arr 43 1)]⟩, [7, 8, 9, 10, 11, 12, 13, 14, 15, 16, 17, 18, 19, 20, 21, 22, 23, 24, 25, 26, 27, 28, 29, 30, 31, 32, 33, 34, 35, 36, 37, 38, 39, 40, 41], [], [], 1, []⟩), (7, ⟨⟨[(.int .i64), (.list (.int .i64))], [(7, .own 1), (8, .v 0)], [(1, .arr 3 1)]⟩, [17, 18, 19, 20, 21, 22, 23, 24, 25, 26, 27, 28, 29, 30, 31, 32], [], [0], 2, []⟩)], [], [], []⟩ Try.func41 rfl Try.ntmps41 (rs := [.tmp 4]) rfl (sig := r18_By_sig) (out := r18_By_out) rfl Try.call41 (fun X => by kernel_rfl)

def r18_Row_sig : Shape := ⟨[(.pair (.int .i64) (.pair (.list (.int .i64)) (.pair (.list (.list (.list (.int .i64)))) (.pair (.list (.int .i64)) .unit)))), (.list (.int .i64))], [(0, .v 0), (1, .v 1)], []⟩
def r18_Row_out : Shape := ⟨[(.list (.pair .bool (.pair (.list (.int .i64)) .unit)))], [(0, .own 0)], [(0, .arr 43 0)]⟩
noncomputable def r18_Row_ce : CE := ⟨28, r18_Row_sig, r18_Row_out, fun X => r18_Row X.1 X.2⟩
theorem r18_Row_ok : CE.ok Try.prog r18_Row_ce := CE.of (Γ := [r18_Wide_ce, r18_By_ce]) (by kernel_rfl) TT_ok (GOK.cons r18_Wide_ok (GOK.cons r18_By_ok (GOK.nil))) ⟨[(3, ⟨⟨[(.int .i64), (.list (.pair .bool (.pair (.list (.int .i64)) .unit)))], [(5, .own 1), (6, .v 0)], [(1, .arr 43 1)]⟩, [9, 10, 11, 12, 13, 14, 15, 16, 17, 18, 19, 20, 21, 22, 23, 24, 25], [], [0], 2, []⟩)], [], [(5, [(0, 0), (0, 1), (0, 2), (0, 3), (0, 4), (0, 5), (0, 6), (0, 7), (0, 8), (1, 9), (0, 10)])], []⟩ Try.func28 rfl Try.ntmps28 (rs := [.tmp 4]) rfl (sig := r18_Row_sig) (out := r18_Row_out) rfl Try.call28 (fun X => by kernel_rfl)

def r18_Value_sig : Shape := ⟨[(.pair (.int .i64) (.pair (.list (.int .i64)) (.pair (.list (.list (.list (.int .i64)))) (.pair (.list (.int .i64)) .unit)))), (.list (.int .i64))], [(0, .v 0), (1, .v 1)], []⟩
def r18_Value_out : Shape := ⟨[(.pair .bool (.pair (.list (.int .i64)) .unit))], [(0, .v 0)], []⟩
noncomputable def r18_Value_ce : CE := ⟨17, r18_Value_sig, r18_Value_out, fun X => r18_Value X.1 X.2⟩
theorem r18_Value_ok : CE.ok Try.prog r18_Value_ce := CE.of (Γ := [r18_Row_ce, r18_Wide_ce, r18_Dot_ce]) (by kernel_rfl) TT_ok (GOK.cons r18_Row_ok (GOK.cons r18_Wide_ok (GOK.cons r18_Dot_ok (GOK.nil)))) ⟨[], [], [], []⟩ Try.func17 rfl Try.ntmps17 (rs := [.cell 4 43]) rfl (sig := r18_Value_sig) (out := r18_Value_out) rfl Try.call17 (fun X => by kernel_rfl)

def evermorenum_Neg_sig : Shape := ⟨[(.pair .bool (.pair (.list (.int .i64)) .unit))], [(0, .v 0)], []⟩
def evermorenum_Neg_out : Shape := ⟨[(.pair .bool (.pair (.list (.int .i64)) .unit))], [(0, .v 0)], []⟩
noncomputable def evermorenum_Neg_ce : CE := ⟨43, evermorenum_Neg_sig, evermorenum_Neg_out, fun X => evermorenum_Neg X⟩
theorem evermorenum_Neg_ok : CE.ok Try.prog evermorenum_Neg_ce := CE.of (Γ := [evermorenum_trim_ce]) (by kernel_rfl) TT_ok (GOK.cons evermorenum_trim_ok (GOK.nil)) ⟨[], [], [], []⟩ Try.func43 rfl Try.ntmps43 (rs := [.cell 2 43]) rfl (sig := evermorenum_Neg_sig) (out := evermorenum_Neg_out) rfl Try.call43 (fun X => by kernel_rfl)

def evermorenum_Sub_sig : Shape := ⟨[(.pair .bool (.pair (.list (.int .i64)) .unit)), (.pair .bool (.pair (.list (.int .i64)) .unit))], [(0, .v 0), (1, .v 1)], []⟩
def evermorenum_Sub_out : Shape := ⟨[(.pair .bool (.pair (.list (.int .i64)) .unit))], [(0, .v 0)], []⟩
noncomputable def evermorenum_Sub_ce : CE := ⟨35, evermorenum_Sub_sig, evermorenum_Sub_out, fun X => evermorenum_Sub X.1 X.2⟩
theorem evermorenum_Sub_ok : CE.ok Try.prog evermorenum_Sub_ce := CE.of (Γ := [evermorenum_Neg_ce, evermorenum_Add_ce]) (by kernel_rfl) TT_ok (GOK.cons evermorenum_Neg_ok (GOK.cons evermorenum_Add_ok (GOK.nil))) ⟨[], [], [], []⟩ Try.func35 rfl Try.ntmps35 (rs := [.cell 4 43]) rfl (sig := evermorenum_Sub_sig) (out := evermorenum_Sub_out) rfl Try.call35 (fun X => by kernel_rfl)

def evermorenum_Sign_sig : Shape := ⟨[(.pair .bool (.pair (.list (.int .i64)) .unit))], [(0, .v 0)], []⟩
def evermorenum_Sign_out : Shape := ⟨[(.int .i64)], [(0, .v 0)], []⟩
noncomputable def evermorenum_Sign_ce : CE := ⟨36, evermorenum_Sign_sig, evermorenum_Sign_out, fun X => evermorenum_Sign X⟩
theorem evermorenum_Sign_ok : CE.ok Try.prog evermorenum_Sign_ce := CE.of (Γ := []) (by kernel_rfl) TT_ok (GOK.nil) ⟨[], [], [], []⟩ Try.func36 rfl Try.ntmps36 (rs := [.tmp 2]) rfl (sig := evermorenum_Sign_sig) (out := evermorenum_Sign_out) rfl Try.call36 (fun X => by kernel_rfl)

def evermorenum_Cmp_sig : Shape := ⟨[(.pair .bool (.pair (.list (.int .i64)) .unit)), (.pair .bool (.pair (.list (.int .i64)) .unit))], [(0, .v 0), (1, .v 1)], []⟩
def evermorenum_Cmp_out : Shape := ⟨[(.int .i64)], [(0, .v 0)], []⟩
noncomputable def evermorenum_Cmp_ce : CE := ⟨20, evermorenum_Cmp_sig, evermorenum_Cmp_out, fun X => evermorenum_Cmp X.1 X.2⟩
theorem evermorenum_Cmp_ok : CE.ok Try.prog evermorenum_Cmp_ce := CE.of (Γ := [evermorenum_Sub_ce, evermorenum_Sign_ce]) (by kernel_rfl) TT_ok (GOK.cons evermorenum_Sub_ok (GOK.cons evermorenum_Sign_ok (GOK.nil))) ⟨[], [], [], []⟩ Try.func20 rfl Try.ntmps20 (rs := [.tmp 4]) rfl (sig := evermorenum_Cmp_sig) (out := evermorenum_Cmp_out) rfl Try.call20 (fun X => by kernel_rfl)

def law_weighs_sig : Shape := ⟨[(.pair (.int .i64) (.pair (.list (.int .i64)) (.pair (.list (.list (.list (.int .i64)))) (.pair (.list (.int .i64)) .unit)))), (.pair (.int .i64) (.pair (.list (.int .i64)) (.pair (.list (.list (.list (.int .i64)))) (.pair (.list (.int .i64)) .unit)))), (.pair (.int .i64) (.pair (.list (.int .i64)) (.pair (.list (.list (.list (.int .i64)))) (.pair (.list (.int .i64)) .unit)))), (.list (.int .i64)), .bool], [(0, .v 0), (1, .v 1), (2, .v 2), (3, .v 3), (4, .v 4)], []⟩
def law_weighs_out : Shape := ⟨[.bool], [(0, .v 0)], []⟩
noncomputable def law_weighs_ce : CE := ⟨10, law_weighs_sig, law_weighs_out, fun X => law_weighs X.1 X.2.1 X.2.2.1 X.2.2.2.1 X.2.2.2.2⟩
theorem law_weighs_ok : CE.ok Try.prog law_weighs_ce := CE.of (Γ := [r18_Value_ce, evermorenum_Add_ce, evermorenum_Mul_ce, evermorenum_Cmp_ce]) (by kernel_rfl) TT_ok (GOK.cons r18_Value_ok (GOK.cons evermorenum_Add_ok (GOK.cons evermorenum_Mul_ok (GOK.cons evermorenum_Cmp_ok (GOK.nil))))) ⟨[], [], [], []⟩ Try.func10 rfl Try.ntmps10 (rs := [.tmp 10]) rfl (sig := law_weighs_sig) (out := law_weighs_out) rfl Try.call10 (fun X => by kernel_rfl)

def law_WeighJoins_sig : Shape := ⟨[(.pair (.int .i64) (.pair (.list (.int .i64)) (.pair (.list (.list (.list (.int .i64)))) (.pair (.list (.int .i64)) .unit)))), (.pair (.int .i64) (.pair (.list (.int .i64)) (.pair (.list (.list (.list (.int .i64)))) (.pair (.list (.int .i64)) .unit)))), (.list (.int .i64))], [(0, .v 0), (1, .v 1), (2, .v 2)], []⟩
def law_WeighJoins_out : Shape := ⟨[.bool], [(0, .v 0)], []⟩
noncomputable def law_WeighJoins_ce : CE := ⟨3, law_WeighJoins_sig, law_WeighJoins_out, fun X => law_WeighJoins X.1 X.2.1 X.2.2⟩
theorem law_WeighJoins_ok : CE.ok Try.prog law_WeighJoins_ce := CE.of (Γ := [weigh_Sum_ce, weigh_Product_ce, r18_Check_ce, r18_Above_ce, law_noWeigh_ce, r1_May_ce, law_weighs_ce]) (by kernel_rfl) TT_ok (GOK.cons weigh_Sum_ok (GOK.cons weigh_Product_ok (GOK.cons r18_Check_ok (GOK.cons r18_Above_ok (GOK.cons law_noWeigh_ok (GOK.cons r1_May_ok (GOK.cons law_weighs_ok (GOK.nil)))))))) ⟨[], [(5, ⟨⟨[(.int .i64)], [(11, .v 0)], []⟩, [36, 37, 38, 39], [], [0, 1, 2, 3], 4, []⟩), (6, ⟨⟨[.bool], [(48, .v 0)], []⟩, [40, 41, 42, 43, 44, 45, 46, 47], [], [0, 1, 2, 3], 4, []⟩), (7, ⟨⟨[(.int .i64)], [(11, .v 0)], []⟩, [40, 41, 42, 43, 44, 45, 46, 47, 48], [], [0, 1, 2, 3], 4, []⟩), (12, ⟨⟨[(.int .i64)], [(12, .v 0)], []⟩, [53, 54, 55, 56, 57, 58, 59, 60], [], [0, 1, 2, 3], 4, []⟩), (15, ⟨⟨[.bool], [(68, .v 0)], []⟩, [65, 66, 67], [], [0, 1, 2, 3], 4, []⟩), (16, ⟨⟨[(.int .i64)], [(13, .v 0)], []⟩, [65, 66, 67, 68], [], [0, 1, 2, 3], 4, []⟩), (18, ⟨⟨[(.int .i64), (.int .i64)], [(12, .v 0), (13, .v 1)], []⟩, [14, 15, 51, 52, 53, 54, 55, 56, 57, 58, 59, 60, 61, 62, 63, 64, 65, 66, 67, 68, 69, 70, 71, 72, 73, 74, 75, 76], [], [0, 1, 2, 3], 4, []⟩), (24, ⟨⟨[], [], []⟩, [6, 89, 90, 91, 92, 93, 94, 95, 96, 97, 98, 99, 100, 101, 102], [], [0, 1, 2, 3], 4, []⟩), (27, ⟨⟨[(.int .i64)], [(18, .v 0)], []⟩, [103, 104, 105, 106, 107, 108], [], [0, 1, 2, 3], 4, []⟩), (35, ⟨⟨[], [], []⟩, [6, 19, 20, 109, 110, 111, 112, 113, 114, 115, 116, 117, 118, 119, 120, 121, 122, 123, 124, 125, 126, 127, 128, 129, 130], [], [0, 1, 2, 3], 4, []⟩)], [], []⟩ Try.func3 rfl Try.ntmps3 (rs := [.tmp 6]) rfl (sig := law_WeighJoins_sig) (out := law_WeighJoins_out) rfl Try.call3 (fun X => by kernel_rfl)

end Go.Proofs.Ytgojjheadndbiaa.weighJoinsW
