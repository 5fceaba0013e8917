/- That the functions of 'SameHolds' compute so. -/
import Derived.Test.YtiamohlhhcafdaaSameHoldsD
import Derived.Test.YtiamohlhhcafdaaProg
import Derived.KernelRfl
set_option maxHeartbeats 1000000
set_option maxRecDepth 20000
set_option linter.unusedSimpArgs false
set_option linter.unusedVariables false
namespace Go.Proofs.Ytiamohlhhcafdaa.sameHoldsW
open Go Go.Ab
def te3 : TE := ⟨3, .int .i64, false, 1, 8, .int .i64 0, some (.int .i64)⟩
theorem te3_ok : TEok Try.prog te3 := ⟨TI.of Try.underlying3 rfl (by kernel_rfl), Try.underlying3, fun t h => by cases h; exact ⟨rfl, rfl, by decide, rfl⟩⟩
def te4 : TE := ⟨4, .bool, false, 1, 1, .bool false, some .bool⟩
theorem te4_ok : TEok Try.prog te4 := ⟨TI.of Try.underlying4 rfl (by kernel_rfl), Try.underlying4, fun t h => by cases h; exact ⟨rfl, rfl, by decide, rfl⟩⟩
def te25 : TE := ⟨25, .int .i64, false, 1, 8, .int .i64 0, some (.int .i64)⟩
theorem te25_ok : TEok Try.prog te25 := ⟨TI.of Try.underlying25 rfl (by kernel_rfl), Try.underlying25, fun t h => by cases h; exact ⟨rfl, rfl, by decide, rfl⟩⟩
def te32 : TE := ⟨32, .slice 3, false, 1, 24, .slice none 0 0, some (.list (.int .i64))⟩
theorem te32_ok : TEok Try.prog te32 := ⟨TI.of Try.underlying32 rfl (by kernel_rfl), Try.underlying32, fun t h => by cases h; exact ⟨rfl, rfl, by decide, rfl⟩⟩
def te39 : TE := ⟨39, .slice 133, false, 1, 24, .slice none 0 0, some (.list (.pair (.int .i64) (.pair (.int .i64) (.pair (.int .i64) .unit))))⟩
theorem te39_ok : TEok Try.prog te39 := ⟨TI.of Try.underlying39 rfl (by kernel_rfl), Try.underlying39, fun t h => by cases h; exact ⟨rfl, rfl, by decide, rfl⟩⟩
def te41 : TE := ⟨41, .struct [(0, 3), (1, 3), (2, 39)], true, 3, 40, .agg ⟨[.int .i64 0, .int .i64 0, .slice none 0 0]⟩, some (.pair (.int .i64) (.pair (.int .i64) (.pair (.list (.pair (.int .i64) (.pair (.int .i64) (.pair (.int .i64) .unit)))) .unit)))⟩
theorem te41_ok : TEok Try.prog te41 := ⟨TI.of Try.underlying41 rfl (by kernel_rfl), ⟨_, Try.underlying41, rfl⟩, fun t h => by cases h; exact ⟨rfl, rfl, by decide, rfl⟩⟩
def te42 : TE := ⟨42, .slice 138, false, 1, 24, .slice none 0 0, some (.list (.pair (.int .i64) (.pair (.int .i64) (.pair (.int .i64) (.pair (.int .i64) .unit)))))⟩
theorem te42_ok : TEok Try.prog te42 := ⟨TI.of Try.underlying42 rfl (by kernel_rfl), Try.underlying42, fun t h => by cases h; exact ⟨rfl, rfl, by decide, rfl⟩⟩
def te45 : TE := ⟨45, .slice 4, false, 1, 24, .slice none 0 0, some (.list .bool)⟩
theorem te45_ok : TEok Try.prog te45 := ⟨TI.of Try.underlying45 rfl (by kernel_rfl), Try.underlying45, fun t h => by cases h; exact ⟨rfl, rfl, by decide, rfl⟩⟩
def te130 : TE := ⟨130, .other, false, 1, 8, .nilFunc, none⟩
theorem te130_ok : TEok Try.prog te130 := ⟨TI.of Try.underlying130 rfl (by kernel_rfl), trivial, fun t h => by cases h⟩
def te133 : TE := ⟨133, .struct [(0, 3), (1, 3), (2, 3)], true, 3, 24, .agg ⟨[.int .i64 0, .int .i64 0, .int .i64 0]⟩, some (.pair (.int .i64) (.pair (.int .i64) (.pair (.int .i64) .unit)))⟩
theorem te133_ok : TEok Try.prog te133 := ⟨TI.of Try.underlying133 rfl (by kernel_rfl), ⟨_, Try.underlying133, rfl⟩, fun t h => by cases h; exact ⟨rfl, rfl, by decide, rfl⟩⟩
def te138 : TE := ⟨138, .struct [(0, 3), (1, 3), (2, 3), (3, 3)], true, 4, 32, .agg ⟨[.int .i64 0, .int .i64 0, .int .i64 0, .int .i64 0]⟩, some (.pair (.int .i64) (.pair (.int .i64) (.pair (.int .i64) (.pair (.int .i64) .unit))))⟩
theorem te138_ok : TEok Try.prog te138 := ⟨TI.of Try.underlying138 rfl (by kernel_rfl), ⟨_, Try.underlying138, rfl⟩, fun t h => by cases h; exact ⟨rfl, rfl, by decide, rfl⟩⟩
def te140 : TE := ⟨140, .slice 45, false, 1, 24, .slice none 0 0, some (.list (.list .bool))⟩
theorem te140_ok : TEok Try.prog te140 := ⟨TI.of Try.underlying140 rfl (by kernel_rfl), Try.underlying140, fun t h => by cases h; exact ⟨rfl, rfl, by decide, rfl⟩⟩
def TT : List TE := [te3, te4, te25, te32, te39, te41, te42, te45, te130, te133, te138, te140]
theorem TT_ok : TOK Try.prog TT := TOK.cons te3_ok (TOK.cons te4_ok (TOK.cons te25_ok (TOK.cons te32_ok (TOK.cons te39_ok (TOK.cons te41_ok (TOK.cons te42_ok (TOK.cons te45_ok (TOK.cons te130_ok (TOK.cons te133_ok (TOK.cons te138_ok (TOK.cons te140_ok (TOK.nil))))))))))))

def same_Check_1_sig : Shape := ⟨[(.int .i64), (.pair (.int .i64) (.pair (.int .i64) (.pair (.list (.pair (.int .i64) (.pair (.int .i64) (.pair (.int .i64) .unit)))) .unit)))], [(0, .v 0), (1, .addr 1)], []⟩
def same_Check_1_out : Shape := ⟨[.bool], [(0, .v 0)], []⟩
noncomputable def same_Check_1_ce : CE := ⟨78, same_Check_1_sig, same_Check_1_out, fun X => same_Check_1 X.1 X.2⟩
theorem same_Check_1_ok : CE.ok Try.prog same_Check_1_ce := CE.of (Γ := []) (by kernel_rfl) TT_ok (GOK.nil) ⟨[], [], [], []⟩ Try.func78 rfl Try.ntmps78 (rs := [.tmp 3]) rfl (sig := same_Check_1_sig) (out := same_Check_1_out) rfl Try.call78 (fun X => by kernel_rfl)

def same_Check_2_sig : Shape := ⟨[(.pair (.int .i64) (.pair (.int .i64) (.pair (.int .i64) .unit))), (.pair (.int .i64) (.pair (.int .i64) (.pair (.list (.pair (.int .i64) (.pair (.int .i64) (.pair (.int .i64) .unit)))) .unit))), (.pair (.int .i64) (.pair (.int .i64) (.pair (.list (.pair (.int .i64) (.pair (.int .i64) (.pair (.int .i64) .unit)))) .unit)))], [(0, .v 0), (1, .ptr 100000 0), (2, .addr 1)], [(100000, .box 130 [.fn 78 [.addr 2]])]⟩
def same_Check_2_out : Shape := ⟨[.bool, (.pair (.int .i64) (.pair (.int .i64) (.pair (.list (.pair (.int .i64) (.pair (.int .i64) (.pair (.int .i64) .unit)))) .unit)))], [(0, .v 0)], [(100000, .box 130 [.fn 78 [.addr 1]])]⟩
noncomputable def same_Check_2_ce : CE := ⟨80, same_Check_2_sig, same_Check_2_out, fun X => same_Check_2 X.1 X.2.1 X.2.2⟩
theorem same_Check_2_ok : CE.ok Try.prog same_Check_2_ce := CE.of (Γ := [same_Check_1_ce]) (by kernel_rfl) TT_ok (GOK.cons same_Check_1_ok (GOK.nil)) ⟨[], [], [], []⟩ Try.func80 rfl Try.ntmps80 (rs := [.tmp 4]) rfl (sig := same_Check_2_sig) (out := same_Check_2_out) rfl Try.call80 (fun X => by kernel_rfl)

def slices_IndexFunc_sig : Shape := ⟨[(.list (.pair (.int .i64) (.pair (.int .i64) (.pair (.int .i64) .unit)))), (.pair (.int .i64) (.pair (.int .i64) (.pair (.list (.pair (.int .i64) (.pair (.int .i64) (.pair (.int .i64) .unit)))) .unit))), (.pair (.int .i64) (.pair (.int .i64) (.pair (.list (.pair (.int .i64) (.pair (.int .i64) (.pair (.int .i64) .unit)))) .unit)))], [(0, .v 0), (1, .fn 80 [.ptr 100000 0, .addr 1])], [(100000, .box 130 [.fn 78 [.addr 2]])]⟩
def slices_IndexFunc_out : Shape := ⟨[(.int .i64), (.pair (.int .i64) (.pair (.int .i64) (.pair (.list (.pair (.int .i64) (.pair (.int .i64) (.pair (.int .i64) .unit)))) .unit)))], [(0, .v 0)], [(100000, .box 130 [.fn 78 [.addr 1]])]⟩
noncomputable def slices_IndexFunc_ce : CE := ⟨135, slices_IndexFunc_sig, slices_IndexFunc_out, fun X => slices_IndexFunc X.1 X.2.1 X.2.2⟩
theorem slices_IndexFunc_ok : CE.ok Try.prog slices_IndexFunc_ce := CE.of (Γ := [same_Check_2_ce]) (by kernel_rfl) TT_ok (GOK.cons same_Check_2_ok (GOK.nil)) ⟨[(2, ⟨⟨[(.pair (.int .i64) (.pair (.int .i64) (.pair (.list (.pair (.int .i64) (.pair (.int .i64) (.pair (.int .i64) .unit)))) .unit))), (.int .i64), (.pair (.int .i64) (.pair (.int .i64) (.pair (.list (.pair (.int .i64) (.pair (.int .i64) (.pair (.int .i64) .unit)))) .unit)))], [(1, .fn 80 [.ptr 100000 0, .addr 0]), (8, .v 1)], [(100000, .box 130 [.fn 78 [.addr 2]])]⟩, [4, 5, 9, 10, 11, 12, 13, 14, 15, 16, 17, 18], [], [], 0, []⟩)], [], [], []⟩ Try.func135 rfl Try.ntmps135 (rs := [.tmp 4]) rfl (sig := slices_IndexFunc_sig) (out := slices_IndexFunc_out) rfl Try.call135 (fun X => by kernel_rfl)

def slices_ContainsFunc_sig : Shape := ⟨[(.list (.pair (.int .i64) (.pair (.int .i64) (.pair (.int .i64) .unit)))), (.pair (.int .i64) (.pair (.int .i64) (.pair (.list (.pair (.int .i64) (.pair (.int .i64) (.pair (.int .i64) .unit)))) .unit))), (.pair (.int .i64) (.pair (.int .i64) (.pair (.list (.pair (.int .i64) (.pair (.int .i64) (.pair (.int .i64) .unit)))) .unit)))], [(0, .v 0), (1, .fn 80 [.ptr 100000 0, .addr 1])], [(100000, .box 130 [.fn 78 [.addr 2]])]⟩
def slices_ContainsFunc_out : Shape := ⟨[.bool, (.pair (.int .i64) (.pair (.int .i64) (.pair (.list (.pair (.int .i64) (.pair (.int .i64) (.pair (.int .i64) .unit)))) .unit)))], [(0, .v 0)], [(100000, .box 130 [.fn 78 [.addr 1]])]⟩
noncomputable def slices_ContainsFunc_ce : CE := ⟨79, slices_ContainsFunc_sig, slices_ContainsFunc_out, fun X => slices_ContainsFunc X.1 X.2.1 X.2.2⟩
theorem slices_ContainsFunc_ok : CE.ok Try.prog slices_ContainsFunc_ce := CE.of (Γ := [slices_IndexFunc_ce]) (by kernel_rfl) TT_ok (GOK.cons slices_IndexFunc_ok (GOK.nil)) ⟨[], [], [], []⟩ Try.func79 rfl Try.ntmps79 (rs := [.tmp 4]) rfl (sig := slices_ContainsFunc_sig) (out := slices_ContainsFunc_out) rfl Try.call79 (fun X => by kernel_rfl)

def cmp_isNaN_sig : Shape := ⟨[(.int .i64)], [(0, .v 0)], []⟩
def cmp_isNaN_out : Shape := ⟨[.bool], [(0, .v 0)], []⟩
noncomputable def cmp_isNaN_ce : CE := ⟨177, cmp_isNaN_sig, cmp_isNaN_out, fun X => cmp_isNaN X⟩
theorem cmp_isNaN_ok : CE.ok Try.prog cmp_isNaN_ce := CE.of (Γ := []) (by kernel_rfl) TT_ok (GOK.nil) ⟨[], [], [], []⟩ Try.func177 rfl Try.ntmps177 (rs := [.tmp 2]) rfl (sig := cmp_isNaN_sig) (out := cmp_isNaN_out) rfl Try.call177 (fun X => by kernel_rfl)

def cmp_Compare_sig : Shape := ⟨[(.int .i64), (.int .i64)], [(0, .v 0), (1, .v 1)], []⟩
def cmp_Compare_out : Shape := ⟨[(.int .i64)], [(0, .v 0)], []⟩
noncomputable def cmp_Compare_ce : CE := ⟨137, cmp_Compare_sig, cmp_Compare_out, fun X => cmp_Compare X.1 X.2⟩
theorem cmp_Compare_ok : CE.ok Try.prog cmp_Compare_ce := CE.of (Γ := [cmp_isNaN_ce]) (by kernel_rfl) TT_ok (GOK.cons cmp_isNaN_ok (GOK.nil)) ⟨[], [], [], []⟩ Try.func137 rfl Try.ntmps137 (rs := [.tmp 4]) rfl (sig := cmp_Compare_sig) (out := cmp_Compare_out) rfl Try.call137 (fun X => by kernel_rfl)

def cmp_Or_sig : Shape := ⟨[(.list (.int .i64))], [(0, .v 0)], []⟩
def cmp_Or_out : Shape := ⟨[(.int .i64)], [(0, .v 0)], []⟩
noncomputable def cmp_Or_ce : CE := ⟨136, cmp_Or_sig, cmp_Or_out, fun X => cmp_Or X⟩
theorem cmp_Or_ok : CE.ok Try.prog cmp_Or_ce := CE.of (Γ := []) (by kernel_rfl) TT_ok (GOK.nil) ⟨[(3, ⟨⟨[(.int .i64)], [(8, .v 0)], []⟩, [2, 5, 9, 10, 11, 12, 13, 14, 15, 16], [], [], 0, []⟩)], [], [], []⟩ Try.func136 rfl Try.ntmps136 (rs := [.tmp 2]) rfl (sig := cmp_Or_sig) (out := cmp_Or_out) rfl Try.call136 (fun X => by kernel_rfl)

def same_order_sig : Shape := ⟨[(.pair (.int .i64) (.pair (.int .i64) (.pair (.int .i64) .unit))), (.pair (.int .i64) (.pair (.int .i64) (.pair (.int .i64) .unit)))], [(0, .v 0), (1, .v 1)], []⟩
def same_order_out : Shape := ⟨[(.int .i64)], [(0, .v 0)], []⟩
noncomputable def same_order_ce : CE := ⟨81, same_order_sig, same_order_out, fun X => same_order X.1 X.2⟩
theorem same_order_ok : CE.ok Try.prog same_order_ce := CE.of (Γ := [cmp_Compare_ce, cmp_Or_ce]) (by kernel_rfl) TT_ok (GOK.cons cmp_Compare_ok (GOK.cons cmp_Or_ok (GOK.nil))) ⟨[], [], [(1, [(0, 0), (0, 1), (0, 2), (0, 3), (0, 5), (0, 6), (0, 7), (0, 8), (0, 10), (0, 11), (0, 12), (0, 13), (1, 4), (1, 9), (1, 14), (1, 15), (1, 16), (0, 17)])], []⟩ Try.func81 rfl Try.ntmps81 (rs := [.tmp 4]) rfl (sig := same_order_sig) (out := same_order_out) rfl Try.call81 (fun X => by kernel_rfl)

def same_Check_sig : Shape := ⟨[(.pair (.int .i64) (.pair (.int .i64) (.pair (.list (.pair (.int .i64) (.pair (.int .i64) (.pair (.int .i64) .unit)))) .unit)))], [(0, .v 0)], []⟩
def same_Check_out : Shape := ⟨[(.int .i64)], [(0, .v 0)], []⟩
noncomputable def same_Check_ce : CE := ⟨21, same_Check_sig, same_Check_out, fun X => same_Check X⟩
theorem same_Check_ok : CE.ok Try.prog same_Check_ce := CE.of (Γ := [slices_ContainsFunc_ce, same_order_ce]) (by kernel_rfl) TT_ok (GOK.cons slices_ContainsFunc_ok (GOK.cons same_order_ok (GOK.nil))) ⟨[(9, ⟨⟨[(.int .i64)], [(35, .v 0)], []⟩, [2, 4, 13, 17, 22, 36, 37, 38, 39, 40, 41, 42, 43, 44, 45, 46, 47, 48, 49, 50, 51, 52, 53, 54, 55], [], [1], 2, []⟩)], [], [(11, [(0, 0), (0, 1), (0, 2), (0, 3), (0, 4), (0, 5), (0, 6), (0, 7), (0, 8), (0, 9), (0, 10), (0, 11), (0, 12), (0, 13), (1, 14), (0, 15), (0, 16)])], []⟩ Try.func21 rfl Try.ntmps21 (rs := [.tmp 2]) rfl (sig := same_Check_sig) (out := same_Check_out) rfl Try.call21 (fun X => by kernel_rfl)

def r20_Ahead_sig : Shape := ⟨[(.pair (.int .i64) (.pair (.int .i64) (.pair (.int .i64) .unit))), (.pair (.int .i64) (.pair (.int .i64) (.pair (.int .i64) .unit)))], [(0, .v 0), (1, .v 1)], []⟩
def r20_Ahead_out : Shape := ⟨[.bool], [(0, .v 0)], []⟩
noncomputable def r20_Ahead_ce : CE := ⟨82, r20_Ahead_sig, r20_Ahead_out, fun X => r20_Ahead X.1 X.2⟩
theorem r20_Ahead_ok : CE.ok Try.prog r20_Ahead_ce := CE.of (Γ := []) (by kernel_rfl) TT_ok (GOK.nil) ⟨[], [], [], []⟩ Try.func82 rfl Try.ntmps82 (rs := [.tmp 4]) rfl (sig := r20_Ahead_sig) (out := r20_Ahead_out) rfl Try.call82 (fun X => by kernel_rfl)

def r20_Check_sig : Shape := ⟨[(.pair (.int .i64) (.pair (.int .i64) (.pair (.list (.pair (.int .i64) (.pair (.int .i64) (.pair (.int .i64) .unit)))) .unit)))], [(0, .v 0)], []⟩
def r20_Check_out : Shape := ⟨[(.int .i64)], [(0, .v 0)], []⟩
noncomputable def r20_Check_ce : CE := ⟨22, r20_Check_sig, r20_Check_out, fun X => r20_Check X⟩
theorem r20_Check_ok : CE.ok Try.prog r20_Check_ce := CE.of (Γ := [r20_Ahead_ce]) (by kernel_rfl) TT_ok (GOK.cons r20_Ahead_ok (GOK.nil)) ⟨[(6, ⟨⟨[(.int .i64)], [(3, .v 0)], []⟩, [2, 4, 29, 30, 31, 32, 33, 34, 35, 36, 37, 38, 39, 40, 41, 42, 43, 44, 45, 46, 47, 48, 49, 50, 51, 52, 53, 54, 55, 56, 57, 58, 59, 60, 61, 62, 63, 64, 65, 66, 67, 68, 69, 70, 71, 72, 73, 74], [], [0], 1, []⟩), (12, ⟨⟨[(.int .i64)], [(5, .v 0)], []⟩, [2, 6, 75, 76, 77, 78, 79, 80, 81, 82, 83, 84, 85, 86, 87, 88, 89, 90, 91, 92, 93, 94, 95], [], [0], 1, []⟩)], [], [(14, [(0, 0), (0, 1), (0, 2), (0, 3), (0, 4), (0, 5), (0, 6), (0, 7), (0, 8), (0, 9), (0, 10), (1, 11), (0, 12)])], []⟩ Try.func22 rfl Try.ntmps22 (rs := [.tmp 2]) rfl (sig := r20_Check_sig) (out := r20_Check_out) rfl Try.call22 (fun X => by kernel_rfl)

def same_Saying_1_sig : Shape := ⟨[(.int .i64), .bool, (.int .i64)], [(0, .v 0), (1, .v 1), (2, .addr 2)], []⟩
def same_Saying_1_out : Shape := ⟨[.bool], [(0, .v 0)], []⟩
noncomputable def same_Saying_1_ce : CE := ⟨83, same_Saying_1_sig, same_Saying_1_out, fun X => same_Saying_1 X.1 X.2.1 X.2.2⟩
theorem same_Saying_1_ok : CE.ok Try.prog same_Saying_1_ce := CE.of (Γ := []) (by kernel_rfl) TT_ok (GOK.nil) ⟨[], [], [], []⟩ Try.func83 rfl Try.ntmps83 (rs := [.tmp 5]) rfl (sig := same_Saying_1_sig) (out := same_Saying_1_out) rfl Try.call83 (fun X => by kernel_rfl)

def same_Saying_sig : Shape := ⟨[(.list (.pair (.int .i64) (.pair (.int .i64) (.pair (.int .i64) (.pair (.int .i64) .unit)))))], [(0, .v 0)], []⟩
def same_Saying_out : Shape := ⟨[(.int .i64)], [(0, .v 0)], []⟩
noncomputable def same_Saying_ce : CE := ⟨23, same_Saying_sig, same_Saying_out, fun X => same_Saying X⟩
theorem same_Saying_ok : CE.ok Try.prog same_Saying_ce := CE.of (Γ := [same_Saying_1_ce]) (by kernel_rfl) TT_ok (GOK.cons same_Saying_1_ok (GOK.nil)) ⟨[(4, ⟨⟨[(.int .i64)], [(16, .v 0)], []⟩, [2, 3, 4, 5, 17, 18, 19, 20, 21, 22, 23, 24, 25, 26, 27, 28, 29, 30, 31, 32, 33, 34, 35, 36, 37, 38, 39, 40, 41, 42, 43, 44, 45, 46, 47, 48, 49, 50, 51, 52, 53, 54, 55, 56, 57, 58, 59, 60, 61, 62, 63, 64, 65, 66, 67, 68], [], [], 0, []⟩)], [], [], []⟩ Try.func23 rfl Try.ntmps23 (rs := [.tmp 2]) rfl (sig := same_Saying_sig) (out := same_Saying_out) rfl Try.call23 (fun X => by kernel_rfl)

def r20_Saying_sig : Shape := ⟨[(.list (.pair (.int .i64) (.pair (.int .i64) (.pair (.int .i64) (.pair (.int .i64) .unit)))))], [(0, .v 0)], []⟩
def r20_Saying_out : Shape := ⟨[(.int .i64)], [(0, .v 0)], []⟩
noncomputable def r20_Saying_ce : CE := ⟨24, r20_Saying_sig, r20_Saying_out, fun X => r20_Saying X⟩
theorem r20_Saying_ok : CE.ok Try.prog r20_Saying_ce := CE.of (Γ := []) (by kernel_rfl) TT_ok (GOK.nil) ⟨[(4, ⟨⟨[(.int .i64)], [(3, .v 0)], []⟩, [2, 4, 5, 6, 7, 16, 17, 18, 19, 20, 21, 22, 23, 24, 25, 26, 27, 28, 29, 30, 31, 32, 33, 34, 35, 36, 37, 38, 39, 40, 41, 42, 43, 44, 45, 46, 47, 48, 49, 50, 51, 52, 53, 54, 55, 56, 57, 58, 59, 60, 61, 62, 63, 64, 65, 66, 67, 68, 69, 70, 71, 72, 73, 74, 75], [], [], 0, []⟩)], [(11, ⟨⟨[(.int .i64)], [(5, .v 0)], []⟩, [34, 35, 36, 37], [], [0], 1, []⟩), (14, ⟨⟨[(.int .i64)], [(6, .v 0)], []⟩, [38, 39, 40, 41], [], [0], 1, []⟩), (17, ⟨⟨[(.int .i64)], [(7, .v 0)], []⟩, [42, 43, 44], [], [0], 1, []⟩)], [], []⟩ Try.func24 rfl Try.ntmps24 (rs := [.tmp 2]) rfl (sig := r20_Saying_sig) (out := r20_Saying_out) rfl Try.call24 (fun X => by kernel_rfl)

def same_Holds_1_sig : Shape := ⟨[(.pair (.int .i64) (.pair (.int .i64) (.pair (.int .i64) .unit))), (.int .i64), (.pair (.int .i64) (.pair (.int .i64) (.pair (.int .i64) (.pair (.int .i64) .unit)))), (.list (.list .bool))], [(0, .v 0), (1, .addr 1), (2, .addr 2), (3, .addr 3)], []⟩
def same_Holds_1_out : Shape := ⟨[.bool], [(0, .v 0)], []⟩
noncomputable def same_Holds_1_ce : CE := ⟨84, same_Holds_1_sig, same_Holds_1_out, fun X => same_Holds_1 X.1 X.2.1 X.2.2.1 X.2.2.2⟩
theorem same_Holds_1_ok : CE.ok Try.prog same_Holds_1_ce := CE.of (Γ := []) (by kernel_rfl) TT_ok (GOK.nil) ⟨[], [], [(1, [(0, 0), (0, 1), (0, 2), (0, 3), (0, 4), (0, 5), (0, 6), (0, 7), (0, 8), (0, 9), (0, 10), (0, 11), (0, 12), (0, 13), (0, 14), (0, 15), (0, 16), (0, 17), (0, 18), (0, 19), (0, 20), (0, 21), (0, 22)])], []⟩ Try.func84 rfl Try.ntmps84 (rs := [.tmp 5]) rfl (sig := same_Holds_1_sig) (out := same_Holds_1_out) rfl Try.call84 (fun X => by kernel_rfl)

def slices_IndexFunc_1_sig : Shape := ⟨[(.list (.pair (.int .i64) (.pair (.int .i64) (.pair (.int .i64) .unit)))), (.int .i64), (.pair (.int .i64) (.pair (.int .i64) (.pair (.int .i64) (.pair (.int .i64) .unit)))), (.list (.list .bool))], [(0, .v 0), (1, .fn 84 [.addr 1, .addr 2, .addr 3])], []⟩
def slices_IndexFunc_1_out : Shape := ⟨[(.int .i64)], [(0, .v 0)], []⟩
noncomputable def slices_IndexFunc_1_ce : CE := ⟨135, slices_IndexFunc_1_sig, slices_IndexFunc_1_out, fun X => slices_IndexFunc_1 X.1 X.2.1 X.2.2.1 X.2.2.2⟩
theorem slices_IndexFunc_1_ok : CE.ok Try.prog slices_IndexFunc_1_ce := CE.of (Γ := [same_Holds_1_ce]) (by kernel_rfl) TT_ok (GOK.cons same_Holds_1_ok (GOK.nil)) ⟨[(2, ⟨⟨[(.int .i64)], [(8, .v 0)], []⟩, [4, 5, 9, 10, 11, 12, 13, 14, 15, 16, 17, 18], [], [], 0, []⟩)], [], [], []⟩ Try.func135 rfl Try.ntmps135 (rs := [.tmp 4]) rfl (sig := slices_IndexFunc_1_sig) (out := slices_IndexFunc_1_out) rfl Try.call135 (fun X => by kernel_rfl)

def slices_ContainsFunc_1_sig : Shape := ⟨[(.list (.pair (.int .i64) (.pair (.int .i64) (.pair (.int .i64) .unit)))), (.int .i64), (.pair (.int .i64) (.pair (.int .i64) (.pair (.int .i64) (.pair (.int .i64) .unit)))), (.list (.list .bool))], [(0, .v 0), (1, .fn 84 [.addr 1, .addr 2, .addr 3])], []⟩
def slices_ContainsFunc_1_out : Shape := ⟨[.bool], [(0, .v 0)], []⟩
noncomputable def slices_ContainsFunc_1_ce : CE := ⟨79, slices_ContainsFunc_1_sig, slices_ContainsFunc_1_out, fun X => slices_ContainsFunc_1 X.1 X.2.1 X.2.2.1 X.2.2.2⟩
theorem slices_ContainsFunc_1_ok : CE.ok Try.prog slices_ContainsFunc_1_ce := CE.of (Γ := [slices_IndexFunc_1_ce]) (by kernel_rfl) TT_ok (GOK.cons slices_IndexFunc_1_ok (GOK.nil)) ⟨[], [], [], []⟩ Try.func79 rfl Try.ntmps79 (rs := [.tmp 4]) rfl (sig := slices_ContainsFunc_1_sig) (out := slices_ContainsFunc_1_out) rfl Try.call79 (fun X => by kernel_rfl)

def same_Holds_sig : Shape := ⟨[(.pair (.int .i64) (.pair (.int .i64) (.pair (.list (.pair (.int .i64) (.pair (.int .i64) (.pair (.int .i64) .unit)))) .unit))), (.list (.pair (.int .i64) (.pair (.int .i64) (.pair (.int .i64) (.pair (.int .i64) .unit)))))], [(0, .v 0), (1, .v 1)], []⟩
def same_Holds_out : Shape := ⟨[(.list .bool), (.int .i64)], [(0, .v 0), (1, .v 1)], []⟩
noncomputable def same_Holds_ce : CE := ⟨25, same_Holds_sig, same_Holds_out, fun X => same_Holds X.1 X.2⟩
theorem same_Holds_ok : CE.ok Try.prog same_Holds_ce := CE.of (Γ := [same_Check_ce, same_Saying_ce, slices_ContainsFunc_1_ce]) (by kernel_rfl) TT_ok (GOK.cons same_Check_ok (GOK.cons same_Saying_ok (GOK.cons slices_ContainsFunc_1_ok (GOK.nil)))) ⟨[(9, ⟨⟨[(.int .i64), (.list (.list .bool))], [(8, .ptr 1 0), (25, .v 0)], [(1, .box 140 [.own 2]), (2, .arr 45 1)]⟩, [10, 11, 12, 26, 27, 28, 29, 30, 31, 32, 33, 34, 35, 36, 37, 38, 39, 40, 41, 42, 43, 44, 45, 46, 47, 48, 49, 50, 51, 52, 53, 54, 55, 56, 57, 58, 59, 60, 61, 62, 63, 64, 65, 66, 67, 68, 69, 70, 71, 72, 73, 74, 75, 76, 77, 78, 79, 80, 81, 82, 83, 84, 85, 86, 87, 88, 89, 90, 91, 92, 93], [], [0], 3, [(1, 0, some 45, (.list .bool))]⟩), (13, ⟨⟨[(.int .i64), (.list .bool)], [(11, .own 4), (34, .v 0)], [(4, .arr 4 1)]⟩, [12, 31, 32, 35, 36, 37, 38, 39, 40, 41, 42, 43, 44, 45, 46, 47, 48, 49, 50, 51, 52, 53, 54, 55, 56, 57, 58, 59, 60, 61, 62, 63, 64, 65, 66, 67, 68, 69, 70, 71, 72, 73, 74, 75, 76, 77, 78, 79, 80, 81, 82, 83, 84, 85, 86, 87, 88], [], [0, 1, 2, 3], 5, []⟩)], [], [(20, [(0, 0), (0, 1), (0, 2), (0, 3), (0, 4), (0, 5), (0, 6), (0, 7), (0, 8), (0, 9), (0, 10), (0, 11), (2, 12)]), (22, [(0, 0), (0, 1), (0, 2), (0, 3), (0, 4), (1, 5), (0, 6), (2, 7)]), (16, [(0, 0), (0, 1), (0, 2), (0, 3), (0, 4), (0, 5), (0, 6), (0, 7), (0, 8), (0, 9), (0, 10), (0, 11), (0, 12), (0, 13), (0, 14), (0, 15), (0, 16), (0, 17), (0, 18), (0, 19), (0, 20), (2, 21)])], []⟩ Try.func25 rfl Try.ntmps25 (rs := [.tmp 4, .tmp 5]) rfl (sig := same_Holds_sig) (out := same_Holds_out) rfl Try.call25 (fun X => by kernel_rfl)

def r20_Holds_sig : Shape := ⟨[(.pair (.int .i64) (.pair (.int .i64) (.pair (.list (.pair (.int .i64) (.pair (.int .i64) (.pair (.int .i64) .unit)))) .unit))), (.list (.pair (.int .i64) (.pair (.int .i64) (.pair (.int .i64) (.pair (.int .i64) .unit)))))], [(0, .v 0), (1, .v 1)], []⟩
def r20_Holds_out : Shape := ⟨[(.list .bool)], [(0, .v 0)], []⟩
noncomputable def r20_Holds_ce : CE := ⟨26, r20_Holds_sig, r20_Holds_out, fun X => r20_Holds X.1 X.2⟩
theorem r20_Holds_ok : CE.ok Try.prog r20_Holds_ce := CE.of (Γ := []) (by kernel_rfl) TT_ok (GOK.nil) ⟨[(3, ⟨⟨[(.int .i64), (.list (.list .bool))], [(5, .own 1), (6, .v 0)], [(1, .arr 45 1)]⟩, [7, 8, 9, 10, 11, 12, 13, 14, 15, 16, 17, 18, 19, 20, 21, 22, 23, 24, 25, 26, 27, 28, 29, 30, 31, 32, 33, 34, 35, 36, 37, 38, 39, 40, 41, 42, 43, 44, 45, 46, 47, 48, 49, 50, 51, 52, 53, 54, 55, 56, 57, 58, 59, 60, 61, 62, 63, 64, 65, 66, 67, 68, 69, 70, 71, 72, 73, 74, 75, 76, 77, 78, 79, 80, 81, 82, 83, 84, 85, 86, 87, 88, 89, 90, 91, 92, 93, 94, 95, 96, 97, 98, 99, 100, 101, 102, 103, 104, 105, 106, 107, 108, 109, 110, 111, 112, 113, 114, 115], [], [0], 2, []⟩), (8, ⟨⟨[(.int .i64), (.list .bool)], [(8, .own 3), (9, .v 0)], [(3, .arr 4 1)]⟩, [24, 25, 26, 27, 28, 29, 30, 31, 32, 33, 34, 35, 36, 37, 38, 39, 40, 41, 42, 43, 44, 45, 46, 47, 48, 49, 50, 51, 52, 53, 54, 55, 56, 57, 58, 59, 60, 61, 62, 63, 64, 65, 66, 67, 68, 69, 70, 71, 72, 73, 74], [], [0, 1, 2], 4, []⟩), (18, ⟨⟨[(.int .i64), (.list .bool)], [(8, .own 3), (10, .v 0)], [(3, .arr 4 1)]⟩, [11, 75, 76, 77, 78, 79, 80, 81, 82, 83, 84, 85, 86, 87, 88, 89, 90, 91, 92, 93, 94, 95, 96, 97, 98, 99, 100, 101, 102, 103, 104, 105, 106, 107, 108, 109, 110, 111], [], [0, 1, 2], 4, []⟩)], [(21, ⟨⟨[.bool], [(107, .v 0)], []⟩, [87, 88, 89, 90, 91, 92, 93, 94, 95, 96, 97, 98, 99, 100, 101, 102, 103, 104, 105, 106], [], [0, 1, 2, 3, 4], 5, []⟩)], [(21, [(0, 0), (0, 1), (0, 2), (0, 3), (0, 4), (0, 5), (0, 6), (0, 7), (0, 8), (0, 9), (0, 10), (0, 11), (0, 12), (0, 13), (0, 14), (0, 15), (0, 16), (0, 17), (0, 18), (0, 19), (0, 20)])], []⟩ Try.func26 rfl Try.ntmps26 (rs := [.tmp 4]) rfl (sig := r20_Holds_sig) (out := r20_Holds_out) rfl Try.call26 (fun X => by kernel_rfl)

def r20_Bools_sig : Shape := ⟨[(.list .bool), (.list .bool)], [(0, .v 0), (1, .v 1)], []⟩
def r20_Bools_out : Shape := ⟨[.bool], [(0, .v 0)], []⟩
noncomputable def r20_Bools_ce : CE := ⟨27, r20_Bools_sig, r20_Bools_out, fun X => r20_Bools X.1 X.2⟩
theorem r20_Bools_ok : CE.ok Try.prog r20_Bools_ce := CE.of (Γ := []) (by kernel_rfl) TT_ok (GOK.nil) ⟨[(4, ⟨⟨[(.int .i64)], [(5, .v 0)], []⟩, [4, 11, 12, 13, 14, 15, 16, 17, 18, 19, 20, 21, 22, 23, 24, 25], [], [], 0, []⟩)], [], [(6, [(0, 0), (0, 1), (0, 2), (0, 3), (0, 4), (0, 5), (0, 6), (0, 7), (0, 8)])], []⟩ Try.func27 rfl Try.ntmps27 (rs := [.tmp 4]) rfl (sig := r20_Bools_sig) (out := r20_Bools_out) rfl Try.call27 (fun X => by kernel_rfl)

def law_SameHolds_sig : Shape := ⟨[(.pair (.int .i64) (.pair (.int .i64) (.pair (.list (.pair (.int .i64) (.pair (.int .i64) (.pair (.int .i64) .unit)))) .unit))), (.list (.pair (.int .i64) (.pair (.int .i64) (.pair (.int .i64) (.pair (.int .i64) .unit)))))], [(0, .v 0), (1, .v 1)], []⟩
def law_SameHolds_out : Shape := ⟨[.bool], [(0, .v 0)], []⟩
noncomputable def law_SameHolds_ce : CE := ⟨5, law_SameHolds_sig, law_SameHolds_out, fun X => law_SameHolds X.1 X.2⟩
theorem law_SameHolds_ok : CE.ok Try.prog law_SameHolds_ce := CE.of (Γ := [same_Check_ce, r20_Check_ce, same_Saying_ce, r20_Saying_ce, same_Holds_ce, r20_Holds_ce, r20_Bools_ce]) (by kernel_rfl) TT_ok (GOK.cons same_Check_ok (GOK.cons r20_Check_ok (GOK.cons same_Saying_ok (GOK.cons r20_Saying_ok (GOK.cons same_Holds_ok (GOK.cons r20_Holds_ok (GOK.cons r20_Bools_ok (GOK.nil)))))))) ⟨[], [(10, ⟨⟨[(.int .i64)], [(11, .v 0)], []⟩, [37, 38, 39], [], [0], 1, []⟩)], [], []⟩ Try.func5 rfl Try.ntmps5 (rs := [.tmp 4]) rfl (sig := law_SameHolds_sig) (out := law_SameHolds_out) rfl Try.call5 (fun X => by kernel_rfl)

end Go.Proofs.Ytiamohlhhcafdaa.sameHoldsW
