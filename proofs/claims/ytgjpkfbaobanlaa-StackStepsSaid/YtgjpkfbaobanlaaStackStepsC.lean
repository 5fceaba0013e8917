/- That the functions of 'StackSteps' compute so. -/
import Derived.Test.YtgjpkfbaobanlaaStackStepsD
import Derived.Test.YtgjpkfbaobanlaaProg
import Derived.KernelRfl
set_option maxHeartbeats 1000000
set_option maxRecDepth 20000
set_option linter.unusedSimpArgs false
set_option linter.unusedVariables false
namespace Go.Proofs.Ytgjpkfbaobanlaa.stackStepsW
open Go Go.Ab
def te3 : TE := ⟨3, .int .i64, false, 1, 8, .int .i64 0, some (.int .i64)⟩
theorem te3_ok : TEok Try.prog te3 := ⟨TI.of Try.underlying3 rfl (by kernel_rfl), Try.underlying3, fun t h => by cases h; exact ⟨rfl, rfl, by decide, rfl⟩⟩
def te4 : TE := ⟨4, .bool, false, 1, 1, .bool false, some .bool⟩
theorem te4_ok : TEok Try.prog te4 := ⟨TI.of Try.underlying4 rfl (by kernel_rfl), Try.underlying4, fun t h => by cases h; exact ⟨rfl, rfl, by decide, rfl⟩⟩
def te22 : TE := ⟨22, .int .i64, false, 1, 8, .int .i64 0, some (.int .i64)⟩
theorem te22_ok : TEok Try.prog te22 := ⟨TI.of Try.underlying22 rfl (by kernel_rfl), Try.underlying22, fun t h => by cases h; exact ⟨rfl, rfl, by decide, rfl⟩⟩
def te26 : TE := ⟨26, .slice 3, false, 1, 24, .slice none 0 0, some (.list (.int .i64))⟩
theorem te26_ok : TEok Try.prog te26 := ⟨TI.of Try.underlying26 rfl (by kernel_rfl), Try.underlying26, fun t h => by cases h; exact ⟨rfl, rfl, by decide, rfl⟩⟩
def te63 : TE := ⟨63, .slice 72, false, 1, 24, .slice none 0 0, some (.list (.pair (.int .i64) (.pair (.int .i64) (.pair (.int .i64) (.pair (.list (.int .i64)) .unit)))))⟩
theorem te63_ok : TEok Try.prog te63 := ⟨TI.of Try.underlying63 rfl (by kernel_rfl), Try.underlying63, fun t h => by cases h; exact ⟨rfl, rfl, by decide, rfl⟩⟩
def te65 : TE := ⟨65, .struct [(0, 3), (1, 26)], true, 2, 32, .agg ⟨[.int .i64 0, .slice none 0 0]⟩, some (.pair (.int .i64) (.pair (.list (.int .i64)) .unit))⟩
theorem te65_ok : TEok Try.prog te65 := ⟨TI.of Try.underlying65 rfl (by kernel_rfl), ⟨_, Try.underlying65, rfl⟩, fun t h => by cases h; exact ⟨rfl, rfl, by decide, rfl⟩⟩
def te72 : TE := ⟨72, .struct [(0, 3), (1, 3), (2, 3), (3, 26)], true, 4, 48, .agg ⟨[.int .i64 0, .int .i64 0, .int .i64 0, .slice none 0 0]⟩, some (.pair (.int .i64) (.pair (.int .i64) (.pair (.int .i64) (.pair (.list (.int .i64)) .unit))))⟩
theorem te72_ok : TEok Try.prog te72 := ⟨TI.of Try.underlying72 rfl (by kernel_rfl), ⟨_, Try.underlying72, rfl⟩, fun t h => by cases h; exact ⟨rfl, rfl, by decide, rfl⟩⟩
def te107 : TE := ⟨107, .slice 65, false, 1, 24, .slice none 0 0, some (.list (.pair (.int .i64) (.pair (.list (.int .i64)) .unit)))⟩
theorem te107_ok : TEok Try.prog te107 := ⟨TI.of Try.underlying107 rfl (by kernel_rfl), Try.underlying107, fun t h => by cases h; exact ⟨rfl, rfl, by decide, rfl⟩⟩
def TT : List TE := [te3, te4, te22, te26, te63, te65, te72, te107]
theorem TT_ok : TOK Try.prog TT := TOK.cons te3_ok (TOK.cons te4_ok (TOK.cons te22_ok (TOK.cons te26_ok (TOK.cons te63_ok (TOK.cons te65_ok (TOK.cons te72_ok (TOK.cons te107_ok (TOK.nil))))))))

def stack_Check_1_sig : Shape := ⟨[(.pair (.int .i64) (.pair (.int .i64) (.pair (.int .i64) (.pair (.list (.int .i64)) .unit))))], [(0, .v 0)], []⟩
def stack_Check_1_out : Shape := ⟨[.bool], [(0, .v 0)], []⟩
noncomputable def stack_Check_1_ce : CE := ⟨68, stack_Check_1_sig, stack_Check_1_out, fun X => stack_Check_1 X⟩
theorem stack_Check_1_ok : CE.ok Try.prog stack_Check_1_ce := CE.of (Γ := []) (by kernel_rfl) TT_ok (GOK.nil) ⟨[], [], [], []⟩ Try.func68 rfl Try.ntmps68 (rs := [.tmp 2]) rfl (sig := stack_Check_1_sig) (out := stack_Check_1_out) rfl Try.call68 (fun X => by kernel_rfl)

def slices_IndexFunc_sig : Shape := ⟨[(.list (.pair (.int .i64) (.pair (.int .i64) (.pair (.int .i64) (.pair (.list (.int .i64)) .unit)))))], [(0, .v 0), (1, .fn 68 [])], []⟩
def slices_IndexFunc_out : Shape := ⟨[(.int .i64)], [(0, .v 0)], []⟩
noncomputable def slices_IndexFunc_ce : CE := ⟨78, slices_IndexFunc_sig, slices_IndexFunc_out, fun X => slices_IndexFunc X⟩
theorem slices_IndexFunc_ok : CE.ok Try.prog slices_IndexFunc_ce := CE.of (Γ := [stack_Check_1_ce]) (by kernel_rfl) TT_ok (GOK.cons stack_Check_1_ok (GOK.nil)) ⟨[(2, ⟨⟨[(.int .i64)], [(8, .v 0)], []⟩, [4, 5, 9, 10, 11, 12, 13, 14, 15, 16, 17, 18], [], [], 0, []⟩)], [], [], []⟩ Try.func78 rfl Try.ntmps78 (rs := [.tmp 4]) rfl (sig := slices_IndexFunc_sig) (out := slices_IndexFunc_out) rfl Try.call78 (fun X => by kernel_rfl)

def slices_ContainsFunc_sig : Shape := ⟨[(.list (.pair (.int .i64) (.pair (.int .i64) (.pair (.int .i64) (.pair (.list (.int .i64)) .unit)))))], [(0, .v 0), (1, .fn 68 [])], []⟩
def slices_ContainsFunc_out : Shape := ⟨[.bool], [(0, .v 0)], []⟩
noncomputable def slices_ContainsFunc_ce : CE := ⟨67, slices_ContainsFunc_sig, slices_ContainsFunc_out, fun X => slices_ContainsFunc X⟩
theorem slices_ContainsFunc_ok : CE.ok Try.prog slices_ContainsFunc_ce := CE.of (Γ := [slices_IndexFunc_ce]) (by kernel_rfl) TT_ok (GOK.cons slices_IndexFunc_ok (GOK.nil)) ⟨[], [], [], []⟩ Try.func67 rfl Try.ntmps67 (rs := [.tmp 4]) rfl (sig := slices_ContainsFunc_sig) (out := slices_ContainsFunc_out) rfl Try.call67 (fun X => by kernel_rfl)

def stack_no_sig : Shape := ⟨[(.int .i64)], [(0, .v 0)], []⟩
def stack_no_out : Shape := ⟨[.bool], [(0, .v 0)], []⟩
noncomputable def stack_no_ce : CE := ⟨70, stack_no_sig, stack_no_out, fun X => stack_no X⟩
theorem stack_no_ok : CE.ok Try.prog stack_no_ce := CE.of (Γ := []) (by kernel_rfl) TT_ok (GOK.nil) ⟨[], [], [], []⟩ Try.func70 rfl Try.ntmps70 (rs := [.tmp 2]) rfl (sig := stack_no_sig) (out := stack_no_out) rfl Try.call70 (fun X => by kernel_rfl)

def slices_IndexFunc_2_sig : Shape := ⟨[(.list (.int .i64))], [(0, .v 0), (1, .fn 70 [])], []⟩
def slices_IndexFunc_2_out : Shape := ⟨[(.int .i64)], [(0, .v 0)], []⟩
noncomputable def slices_IndexFunc_2_ce : CE := ⟨76, slices_IndexFunc_2_sig, slices_IndexFunc_2_out, fun X => slices_IndexFunc_2 X⟩
theorem slices_IndexFunc_2_ok : CE.ok Try.prog slices_IndexFunc_2_ce := CE.of (Γ := [stack_no_ce]) (by kernel_rfl) TT_ok (GOK.cons stack_no_ok (GOK.nil)) ⟨[(2, ⟨⟨[(.int .i64)], [(8, .v 0)], []⟩, [4, 5, 9, 10, 11, 12, 13, 14, 15, 16, 17, 18], [], [], 0, []⟩)], [], [], []⟩ Try.func76 rfl Try.ntmps76 (rs := [.tmp 4]) rfl (sig := slices_IndexFunc_2_sig) (out := slices_IndexFunc_2_out) rfl Try.call76 (fun X => by kernel_rfl)

def slices_ContainsFunc_2_sig : Shape := ⟨[(.list (.int .i64))], [(0, .v 0), (1, .fn 70 [])], []⟩
def slices_ContainsFunc_2_out : Shape := ⟨[.bool], [(0, .v 0)], []⟩
noncomputable def slices_ContainsFunc_2_ce : CE := ⟨58, slices_ContainsFunc_2_sig, slices_ContainsFunc_2_out, fun X => slices_ContainsFunc_2 X⟩
theorem slices_ContainsFunc_2_ok : CE.ok Try.prog slices_ContainsFunc_2_ce := CE.of (Γ := [slices_IndexFunc_2_ce]) (by kernel_rfl) TT_ok (GOK.cons slices_IndexFunc_2_ok (GOK.nil)) ⟨[], [], [], []⟩ Try.func58 rfl Try.ntmps58 (rs := [.tmp 4]) rfl (sig := slices_ContainsFunc_2_sig) (out := slices_ContainsFunc_2_out) rfl Try.call58 (fun X => by kernel_rfl)

def stack_Check_2_sig : Shape := ⟨[(.pair (.int .i64) (.pair (.int .i64) (.pair (.int .i64) (.pair (.list (.int .i64)) .unit))))], [(0, .v 0)], []⟩
def stack_Check_2_out : Shape := ⟨[.bool], [(0, .v 0)], []⟩
noncomputable def stack_Check_2_ce : CE := ⟨69, stack_Check_2_sig, stack_Check_2_out, fun X => stack_Check_2 X⟩
theorem stack_Check_2_ok : CE.ok Try.prog stack_Check_2_ce := CE.of (Γ := [stack_no_ce, slices_ContainsFunc_2_ce]) (by kernel_rfl) TT_ok (GOK.cons stack_no_ok (GOK.cons slices_ContainsFunc_2_ok (GOK.nil))) ⟨[], [], [], []⟩ Try.func69 rfl Try.ntmps69 (rs := [.tmp 2]) rfl (sig := stack_Check_2_sig) (out := stack_Check_2_out) rfl Try.call69 (fun X => by kernel_rfl)

def slices_IndexFunc_1_sig : Shape := ⟨[(.list (.pair (.int .i64) (.pair (.int .i64) (.pair (.int .i64) (.pair (.list (.int .i64)) .unit)))))], [(0, .v 0), (1, .fn 69 [])], []⟩
def slices_IndexFunc_1_out : Shape := ⟨[(.int .i64)], [(0, .v 0)], []⟩
noncomputable def slices_IndexFunc_1_ce : CE := ⟨78, slices_IndexFunc_1_sig, slices_IndexFunc_1_out, fun X => slices_IndexFunc_1 X⟩
theorem slices_IndexFunc_1_ok : CE.ok Try.prog slices_IndexFunc_1_ce := CE.of (Γ := [stack_Check_2_ce]) (by kernel_rfl) TT_ok (GOK.cons stack_Check_2_ok (GOK.nil)) ⟨[(2, ⟨⟨[(.int .i64)], [(8, .v 0)], []⟩, [4, 5, 9, 10, 11, 12, 13, 14, 15, 16, 17, 18], [], [], 0, []⟩)], [], [], []⟩ Try.func78 rfl Try.ntmps78 (rs := [.tmp 4]) rfl (sig := slices_IndexFunc_1_sig) (out := slices_IndexFunc_1_out) rfl Try.call78 (fun X => by kernel_rfl)

def slices_ContainsFunc_1_sig : Shape := ⟨[(.list (.pair (.int .i64) (.pair (.int .i64) (.pair (.int .i64) (.pair (.list (.int .i64)) .unit)))))], [(0, .v 0), (1, .fn 69 [])], []⟩
def slices_ContainsFunc_1_out : Shape := ⟨[.bool], [(0, .v 0)], []⟩
noncomputable def slices_ContainsFunc_1_ce : CE := ⟨67, slices_ContainsFunc_1_sig, slices_ContainsFunc_1_out, fun X => slices_ContainsFunc_1 X⟩
theorem slices_ContainsFunc_1_ok : CE.ok Try.prog slices_ContainsFunc_1_ce := CE.of (Γ := [slices_IndexFunc_1_ce]) (by kernel_rfl) TT_ok (GOK.cons slices_IndexFunc_1_ok (GOK.nil)) ⟨[], [], [], []⟩ Try.func67 rfl Try.ntmps67 (rs := [.tmp 4]) rfl (sig := slices_ContainsFunc_1_sig) (out := slices_ContainsFunc_1_out) rfl Try.call67 (fun X => by kernel_rfl)

def stack_Check_sig : Shape := ⟨[(.list (.pair (.int .i64) (.pair (.int .i64) (.pair (.int .i64) (.pair (.list (.int .i64)) .unit)))))], [(0, .v 0)], []⟩
def stack_Check_out : Shape := ⟨[(.int .i64)], [(0, .v 0)], []⟩
noncomputable def stack_Check_ce : CE := ⟨37, stack_Check_sig, stack_Check_out, fun X => stack_Check X⟩
theorem stack_Check_ok : CE.ok Try.prog stack_Check_ce := CE.of (Γ := [slices_ContainsFunc_ce, slices_ContainsFunc_1_ce]) (by kernel_rfl) TT_ok (GOK.cons slices_ContainsFunc_ok (GOK.cons slices_ContainsFunc_1_ok (GOK.nil))) ⟨[], [], [], []⟩ Try.func37 rfl Try.ntmps37 (rs := [.tmp 2]) rfl (sig := stack_Check_sig) (out := stack_Check_out) rfl Try.call37 (fun X => by kernel_rfl)

def r14_Check_sig : Shape := ⟨[(.list (.pair (.int .i64) (.pair (.int .i64) (.pair (.int .i64) (.pair (.list (.int .i64)) .unit)))))], [(0, .v 0)], []⟩
def r14_Check_out : Shape := ⟨[(.int .i64)], [(0, .v 0)], []⟩
noncomputable def r14_Check_ce : CE := ⟨38, r14_Check_sig, r14_Check_out, fun X => r14_Check X⟩
theorem r14_Check_ok : CE.ok Try.prog r14_Check_ce := CE.of (Γ := []) (by kernel_rfl) TT_ok (GOK.nil) ⟨[(4, ⟨⟨[(.int .i64)], [(3, .v 0)], []⟩, [2, 10, 11, 12, 13, 14, 15, 16, 17, 18, 19, 20, 21, 22], [], [], 0, []⟩), (9, ⟨⟨[(.int .i64)], [(4, .v 0)], []⟩, [2, 5, 6, 23, 24, 25, 26, 27, 28, 29, 30, 31, 32, 33, 34, 35, 36, 37, 38, 39, 40, 41, 42, 43, 44, 45, 46, 47, 48, 49, 50, 51, 52, 53, 54, 55, 56, 57, 58, 59, 60, 61, 62, 63, 64, 65, 66, 67, 68, 69, 70, 71, 72, 73, 74, 75, 76, 77, 78, 79, 80, 81], [], [], 0, []⟩), (15, ⟨⟨[(.int .i64)], [(6, .v 0)], []⟩, [2, 61, 62, 63, 64, 65, 66, 67, 68, 69, 70, 71, 72, 73, 74, 75, 76, 77, 78, 79, 80, 81], [], [0], 1, []⟩)], [], [], []⟩ Try.func38 rfl Try.ntmps38 (rs := [.tmp 2]) rfl (sig := r14_Check_sig) (out := r14_Check_out) rfl Try.call38 (fun X => by kernel_rfl)

def stack_config_sig : Shape := ⟨[(.pair (.int .i64) (.pair (.list (.int .i64)) .unit))], [(0, .v 0)], []⟩
def stack_config_out : Shape := ⟨[(.int .i64)], [(0, .v 0)], []⟩
noncomputable def stack_config_ce : CE := ⟨79, stack_config_sig, stack_config_out, fun X => stack_config X⟩
theorem stack_config_ok : CE.ok Try.prog stack_config_ce := CE.of (Γ := [stack_no_ce, slices_ContainsFunc_2_ce]) (by kernel_rfl) TT_ok (GOK.cons stack_no_ok (GOK.cons slices_ContainsFunc_2_ok (GOK.nil))) ⟨[], [], [], []⟩ Try.func79 rfl Try.ntmps79 (rs := [.tmp 2]) rfl (sig := stack_config_sig) (out := stack_config_out) rfl Try.call79 (fun X => by kernel_rfl)

def stack_checked_sig : Shape := ⟨[(.list (.pair (.int .i64) (.pair (.int .i64) (.pair (.int .i64) (.pair (.list (.int .i64)) .unit))))), (.list (.pair (.int .i64) (.pair (.list (.int .i64)) .unit)))], [(0, .v 0), (1, .v 1)], []⟩
def stack_checked_out : Shape := ⟨[(.int .i64)], [(0, .v 0)], []⟩
noncomputable def stack_checked_ce : CE := ⟨71, stack_checked_sig, stack_checked_out, fun X => stack_checked X.1 X.2⟩
theorem stack_checked_ok : CE.ok Try.prog stack_checked_ce := CE.of (Γ := [stack_Check_ce, stack_config_ce]) (by kernel_rfl) TT_ok (GOK.cons stack_Check_ok (GOK.cons stack_config_ok (GOK.nil))) ⟨[(5, ⟨⟨[(.int .i64)], [(16, .v 0)], []⟩, [4, 7, 8, 17, 18, 19, 20, 21, 22, 23, 24, 25], [], [], 0, []⟩)], [], [], []⟩ Try.func71 rfl Try.ntmps71 (rs := [.tmp 4]) rfl (sig := stack_checked_sig) (out := stack_checked_out) rfl Try.call71 (fun X => by kernel_rfl)

def slices_Clone_sig : Shape := ⟨[(.list (.int .i64))], [(0, .v 0)], []⟩
def slices_Clone_out : Shape := ⟨[(.list (.int .i64))], [(0, .own 0)], [(0, .arr 3 0)]⟩
noncomputable def slices_Clone_ce : CE := ⟨65, slices_Clone_sig, slices_Clone_out, fun X => slices_Clone X⟩
theorem slices_Clone_ok : CE.ok Try.prog slices_Clone_ce := CE.of (Γ := []) (by kernel_rfl) TT_ok (GOK.nil) ⟨[], [], [], []⟩ Try.func65 rfl Try.ntmps65 (rs := [.tmp 2]) rfl (sig := slices_Clone_sig) (out := slices_Clone_out) rfl Try.call65 (fun X => by kernel_rfl)

def stack_Step_sig : Shape := ⟨[(.list (.pair (.int .i64) (.pair (.int .i64) (.pair (.int .i64) (.pair (.list (.int .i64)) .unit))))), (.pair (.int .i64) (.pair (.list (.int .i64)) .unit)), (.int .i64)], [(0, .v 0), (1, .v 1), (2, .v 2)], []⟩
def stack_Step_out : Shape := ⟨[(.pair (.int .i64) (.pair (.list (.int .i64)) .unit)), (.int .i64)], [(0, .v 0), (1, .v 1)], []⟩
noncomputable def stack_Step_ce : CE := ⟨39, stack_Step_sig, stack_Step_out, fun X => stack_Step X.1 X.2.1 X.2.2⟩
theorem stack_Step_ok : CE.ok Try.prog stack_Step_ce := CE.of (Γ := [stack_checked_ce, slices_Clone_ce]) (by kernel_rfl) TT_ok (GOK.cons stack_checked_ok (GOK.cons slices_Clone_ok (GOK.nil))) ⟨[], [(9, ⟨⟨[(.int .i64), (.int .i64), (.list (.int .i64))], [(6, .ptr 1 0), (7, .v 0)], [(1, .box 65 [.v 1, .v 2])]⟩, [52, 53, 54, 55, 56, 57, 58, 59, 60, 61], [], [0, 2, 3], 4, []⟩)], [(7, [(0, 0), (0, 1), (0, 2), (0, 3), (0, 4), (0, 5), (0, 6), (0, 7), (0, 8), (0, 9), (0, 10), (0, 11), (0, 12), (0, 13), (0, 14), (0, 15), (0, 16), (0, 17), (0, 18), (0, 19)])], [(9, (.one 0 (.one 2 (.one 5 (.alt 0 1 (.leaf [(0, 3), (0, 6), (0, 7), (1, 4), (2, 8), (0, 9), (2, 10), (0, 11)]) (.alt 0 3 (.alt 0 1 (.leaf [(0, 6), (0, 7), (1, 4), (2, 8), (0, 9), (2, 10), (0, 11)]) (.alt 1 4 (.alt 0 1 (.leaf [(0, 6), (0, 7), (2, 8), (0, 9), (2, 10), (0, 11)]) (.alt 0 6 (.one 7 (.alt 0 1 (.leaf [(2, 8), (0, 9), (2, 10), (0, 11)]) (.alt 2 8 (.leaf [(0, 1), (0, 9), (2, 10), (0, 11)]) .stop))) .stop)) (.alt 0 6 (.one 7 (.alt 0 1 (.leaf [(1, 4), (2, 8), (0, 9), (2, 10), (0, 11)]) (.alt 1 4 (.alt 0 1 (.leaf [(2, 8), (0, 9), (2, 10), (0, 11)]) (.alt 2 8 (.leaf [(0, 1), (0, 9), (2, 10), (0, 11)]) .stop)) .stop))) .stop))) (.alt 0 6 (.one 7 (.alt 0 1 (.leaf [(0, 3), (1, 4), (2, 8), (0, 9), (2, 10), (0, 11)]) (.alt 0 3 (.alt 0 1 (.leaf [(1, 4), (2, 8), (0, 9), (2, 10), (0, 11)]) (.alt 1 4 (.alt 0 1 (.leaf [(2, 8), (0, 9), (2, 10), (0, 11)]) (.alt 2 8 (.leaf [(0, 1), (0, 9), (2, 10), (0, 11)]) .stop)) .stop)) .stop))) .stop)))))))]⟩ Try.func39 rfl Try.ntmps39 (rs := [.cell 6 65, .tmp 7]) rfl (sig := stack_Step_sig) (out := stack_Step_out) rfl Try.call39 (fun X => by kernel_rfl)

def r14_Config_sig : Shape := ⟨[(.pair (.int .i64) (.pair (.list (.int .i64)) .unit))], [(0, .v 0)], []⟩
def r14_Config_out : Shape := ⟨[(.int .i64)], [(0, .v 0)], []⟩
noncomputable def r14_Config_ce : CE := ⟨40, r14_Config_sig, r14_Config_out, fun X => r14_Config X⟩
theorem r14_Config_ok : CE.ok Try.prog r14_Config_ce := CE.of (Γ := []) (by kernel_rfl) TT_ok (GOK.nil) ⟨[(6, ⟨⟨[(.int .i64)], [(3, .v 0)], []⟩, [2, 16, 17, 18, 19, 20, 21, 22, 23, 24, 25, 26, 27, 28, 29, 30, 31, 32, 33, 34, 35, 36], [], [0], 1, []⟩)], [], [], []⟩ Try.func40 rfl Try.ntmps40 (rs := [.tmp 2]) rfl (sig := r14_Config_sig) (out := r14_Config_out) rfl Try.call40 (fun X => by kernel_rfl)

def r14_Can_sig : Shape := ⟨[(.pair (.int .i64) (.pair (.int .i64) (.pair (.int .i64) (.pair (.list (.int .i64)) .unit)))), (.pair (.int .i64) (.pair (.list (.int .i64)) .unit))], [(0, .v 0), (1, .v 1)], []⟩
def r14_Can_out : Shape := ⟨[.bool], [(0, .v 0)], []⟩
noncomputable def r14_Can_ce : CE := ⟨41, r14_Can_sig, r14_Can_out, fun X => r14_Can X.1 X.2⟩
theorem r14_Can_ok : CE.ok Try.prog r14_Can_ce := CE.of (Γ := []) (by kernel_rfl) TT_ok (GOK.nil) ⟨[], [], [(1, [(0, 0), (0, 1), (0, 2), (0, 3), (0, 4), (0, 5), (0, 6), (0, 7), (0, 8), (0, 9), (0, 10), (0, 11), (0, 12), (0, 13), (0, 14), (0, 15), (0, 16), (0, 17), (0, 18), (0, 19), (0, 20)])], []⟩ Try.func41 rfl Try.ntmps41 (rs := [.tmp 4]) rfl (sig := r14_Can_sig) (out := r14_Can_out) rfl Try.call41 (fun X => by kernel_rfl)

def r14_Behind_sig : Shape := ⟨[(.pair (.int .i64) (.pair (.int .i64) (.pair (.int .i64) (.pair (.list (.int .i64)) .unit)))), (.pair (.int .i64) (.pair (.list (.int .i64)) .unit))], [(0, .v 0), (1, .v 1)], []⟩
def r14_Behind_out : Shape := ⟨[(.pair (.int .i64) (.pair (.list (.int .i64)) .unit))], [(0, .v 0)], []⟩
noncomputable def r14_Behind_ce : CE := ⟨42, r14_Behind_sig, r14_Behind_out, fun X => r14_Behind X.1 X.2⟩
theorem r14_Behind_ok : CE.ok Try.prog r14_Behind_ce := CE.of (Γ := []) (by kernel_rfl) TT_ok (GOK.nil) ⟨[], [], [(3, [(0, 0), (0, 1), (0, 2), (0, 3), (0, 4), (2, 5), (0, 6), (2, 7)])], []⟩ Try.func42 rfl Try.ntmps42 (rs := [.cell 4 65]) rfl (sig := r14_Behind_sig) (out := r14_Behind_out) rfl Try.call42 (fun X => by kernel_rfl)

def r14_Same_sig : Shape := ⟨[(.pair (.int .i64) (.pair (.list (.int .i64)) .unit)), (.pair (.int .i64) (.pair (.list (.int .i64)) .unit))], [(0, .v 0), (1, .v 1)], []⟩
def r14_Same_out : Shape := ⟨[.bool], [(0, .v 0)], []⟩
noncomputable def r14_Same_ce : CE := ⟨43, r14_Same_sig, r14_Same_out, fun X => r14_Same X.1 X.2⟩
theorem r14_Same_ok : CE.ok Try.prog r14_Same_ce := CE.of (Γ := []) (by kernel_rfl) TT_ok (GOK.nil) ⟨[(4, ⟨⟨[(.int .i64)], [(5, .v 0)], []⟩, [4, 20, 21, 22, 23, 24, 25, 26, 27, 28, 29, 30, 31, 32, 33, 34, 35, 36, 37], [], [0, 1], 2, []⟩)], [], [(6, [(0, 0), (0, 1), (0, 2), (0, 3), (0, 4), (0, 5), (0, 6), (0, 7), (0, 8), (0, 9), (0, 10)])], []⟩ Try.func43 rfl Try.ntmps43 (rs := [.tmp 4]) rfl (sig := r14_Same_sig) (out := r14_Same_out) rfl Try.call43 (fun X => by kernel_rfl)

def law_StackSteps_sig : Shape := ⟨[(.list (.pair (.int .i64) (.pair (.int .i64) (.pair (.int .i64) (.pair (.list (.int .i64)) .unit))))), (.pair (.int .i64) (.pair (.list (.int .i64)) .unit)), (.int .i64)], [(0, .v 0), (1, .v 1), (2, .v 2)], []⟩
def law_StackSteps_out : Shape := ⟨[.bool], [(0, .v 0)], []⟩
noncomputable def law_StackSteps_ce : CE := ⟨11, law_StackSteps_sig, law_StackSteps_out, fun X => law_StackSteps X.1 X.2.1 X.2.2⟩
theorem law_StackSteps_ok : CE.ok Try.prog law_StackSteps_ce := CE.of (Γ := [stack_Check_ce, r14_Check_ce, stack_Step_ce, r14_Config_ce, r14_Can_ce, r14_Behind_ce, r14_Same_ce]) (by kernel_rfl) TT_ok (GOK.cons stack_Check_ok (GOK.cons r14_Check_ok (GOK.cons stack_Step_ok (GOK.cons r14_Config_ok (GOK.cons r14_Can_ok (GOK.cons r14_Behind_ok (GOK.cons r14_Same_ok (GOK.nil)))))))) ⟨[], [(8, ⟨⟨[(.int .i64)], [(11, .v 0)], []⟩, [30, 31, 32, 33], [], [0, 1], 2, []⟩), (9, ⟨⟨[.bool], [(45, .v 0)], []⟩, [34, 35, 36, 37, 38, 39, 40, 41, 42, 43, 44], [], [0, 1], 2, []⟩), (10, ⟨⟨[(.int .i64)], [(11, .v 0)], []⟩, [34, 35, 36, 37, 38, 39, 40, 41, 42, 43, 44, 45], [], [0, 1], 2, []⟩), (14, ⟨⟨[(.int .i64)], [(11, .v 0)], []⟩, [12, 46, 47, 48, 49, 50, 51, 52, 53, 54, 55], [], [0, 1], 2, []⟩), (17, ⟨⟨[(.int .i64), (.list (.int .i64))], [(13, .ptr 2 0)], [(2, .box 65 [.v 0, .v 1])]⟩, [72, 73, 74, 75, 76, 77], [], [0, 1], 3, []⟩)], [(12, [(0, 0), (0, 1), (0, 2), (0, 3), (0, 4), (1, 5), (0, 6)])], [(17, (.one 0 (.one 1 (.one 2 (.alt 0 3 (.alt 0 4 (.alt 1 5 (.leaf [(1, 6), (2, 7)]) (.alt 1 6 (.leaf [(1, 5), (2, 7)]) .stop)) (.alt 1 6 (.leaf [(0, 4), (1, 5), (2, 7)]) .stop)) (.alt 0 4 (.alt 0 3 (.alt 1 5 (.leaf [(1, 6), (2, 7)]) (.alt 1 6 (.leaf [(1, 5), (2, 7)]) .stop)) (.alt 1 6 (.leaf [(0, 3), (1, 5), (2, 7)]) .stop)) (.alt 1 6 (.leaf [(0, 3), (0, 4), (1, 5), (2, 7)]) .stop)))))))]⟩ Try.func11 rfl Try.ntmps11 (rs := [.tmp 6]) rfl (sig := law_StackSteps_sig) (out := law_StackSteps_out) rfl Try.call11 (fun X => by kernel_rfl)

end Go.Proofs.Ytgjpkfbaobanlaa.stackStepsW
