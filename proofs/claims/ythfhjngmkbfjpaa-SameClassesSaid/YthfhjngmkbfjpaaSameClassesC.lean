/- That the functions of 'SameClasses' compute so. -/
import Derived.Test.YthfhjngmkbfjpaaSameClassesD
import Derived.Test.YthfhjngmkbfjpaaProg
import Derived.KernelRfl
set_option maxHeartbeats 1000000
set_option maxRecDepth 20000
set_option linter.unusedSimpArgs false
set_option linter.unusedVariables false
set_option linter.unusedSectionVars false
namespace Go.Proofs.Ythfhjngmkbfjpaa.sameClassesW
open Go Go.Ab
def te3 : TE := ⟨3, .int .i64, false, 1, 8, .int .i64 0, some (.int .i64)⟩
theorem te3_ok : TEok Try.prog te3 := ⟨TI.of Try.underlying3 rfl (by kernel_rfl), Try.underlying3, fun t h => by cases h; exact ⟨rfl, rfl, by decide, rfl⟩⟩
def te4 : TE := ⟨4, .bool, false, 1, 1, .bool false, some .bool⟩
theorem te4_ok : TEok Try.prog te4 := ⟨TI.of Try.underlying4 rfl (by kernel_rfl), Try.underlying4, fun t h => by cases h; exact ⟨rfl, rfl, by decide, rfl⟩⟩
def te22 : TE := ⟨22, .slice 46, false, 1, 24, .slice none 0 0, some (.list (.pair (.int .i64) (.pair (.int .i64) (.pair (.int .i64) .unit))))⟩
theorem te22_ok : TEok Try.prog te22 := ⟨TI.of Try.underlying22 rfl (by kernel_rfl), Try.underlying22, fun t h => by cases h; exact ⟨rfl, rfl, by decide, rfl⟩⟩
def te24 : TE := ⟨24, .struct [(0, 3), (1, 3), (2, 22)] none, true, 3, 40, .agg ⟨[.int .i64 0, .int .i64 0, .slice none 0 0]⟩, some (.pair (.int .i64) (.pair (.int .i64) (.pair (.list (.pair (.int .i64) (.pair (.int .i64) (.pair (.int .i64) .unit)))) .unit)))⟩
theorem te24_ok : TEok Try.prog te24 := ⟨TI.of Try.underlying24 rfl (by kernel_rfl), ⟨⟨_, Try.underlying24, rfl⟩, fun t h => by cases h⟩, fun t h => by cases h; exact ⟨rfl, rfl, by decide, rfl⟩⟩
def te25 : TE := ⟨25, .slice 3, false, 1, 24, .slice none 0 0, some (.list (.int .i64))⟩
theorem te25_ok : TEok Try.prog te25 := ⟨TI.of Try.underlying25 rfl (by kernel_rfl), Try.underlying25, fun t h => by cases h; exact ⟨rfl, rfl, by decide, rfl⟩⟩
def te26 : TE := ⟨26, .int .i64, false, 1, 8, .int .i64 0, some (.int .i64)⟩
theorem te26_ok : TEok Try.prog te26 := ⟨TI.of Try.underlying26 rfl (by kernel_rfl), Try.underlying26, fun t h => by cases h; exact ⟨rfl, rfl, by decide, rfl⟩⟩
def te29 : TE := ⟨29, .slice 41, false, 1, 24, .slice none 0 0, some (.list (.list .bool))⟩
theorem te29_ok : TEok Try.prog te29 := ⟨TI.of Try.underlying29 rfl (by kernel_rfl), Try.underlying29, fun t h => by cases h; exact ⟨rfl, rfl, by decide, rfl⟩⟩
def te38 : TE := ⟨38, .slice 25, false, 1, 24, .slice none 0 0, some (.list (.list (.int .i64)))⟩
theorem te38_ok : TEok Try.prog te38 := ⟨TI.of Try.underlying38 rfl (by kernel_rfl), Try.underlying38, fun t h => by cases h; exact ⟨rfl, rfl, by decide, rfl⟩⟩
def te41 : TE := ⟨41, .slice 4, false, 1, 24, .slice none 0 0, some (.list .bool)⟩
theorem te41_ok : TEok Try.prog te41 := ⟨TI.of Try.underlying41 rfl (by kernel_rfl), Try.underlying41, fun t h => by cases h; exact ⟨rfl, rfl, by decide, rfl⟩⟩
def te44 : TE := ⟨44, .other, false, 1, 8, .nilFunc, none⟩
theorem te44_ok : TEok Try.prog te44 := ⟨TI.of Try.underlying44 rfl (by kernel_rfl), trivial, fun t h => by cases h⟩
def te46 : TE := ⟨46, .struct [(0, 3), (1, 3), (2, 3)] none, true, 3, 24, .agg ⟨[.int .i64 0, .int .i64 0, .int .i64 0]⟩, some (.pair (.int .i64) (.pair (.int .i64) (.pair (.int .i64) .unit)))⟩
theorem te46_ok : TEok Try.prog te46 := ⟨TI.of Try.underlying46 rfl (by kernel_rfl), ⟨⟨_, Try.underlying46, rfl⟩, fun t h => by cases h⟩, fun t h => by cases h; exact ⟨rfl, rfl, by decide, rfl⟩⟩
def te50 : TE := ⟨50, .other, false, 1, 8, .nilFunc, none⟩
theorem te50_ok : TEok Try.prog te50 := ⟨TI.of Try.underlying50 rfl (by kernel_rfl), trivial, fun t h => by cases h⟩
def te56 : TE := ⟨56, .int .u64, false, 1, 8, .int .u64 0, some (.int .u64)⟩
theorem te56_ok : TEok Try.prog te56 := ⟨TI.of Try.underlying56 rfl (by kernel_rfl), Try.underlying56, fun t h => by cases h; exact ⟨rfl, rfl, by decide, rfl⟩⟩
def te65 : TE := ⟨65, .int .u64, false, 1, 8, .int .u64 0, some (.int .u64)⟩
theorem te65_ok : TEok Try.prog te65 := ⟨TI.of Try.underlying65 rfl (by kernel_rfl), Try.underlying65, fun t h => by cases h; exact ⟨rfl, rfl, by decide, rfl⟩⟩
def TT : List TE := [te3, te4, te22, te24, te25, te26, te29, te38, te41, te44, te46, te50, te56, te65]
theorem TT_ok : TOK Try.prog TT := TOK.cons te3_ok (TOK.cons te4_ok (TOK.cons te22_ok (TOK.cons te24_ok (TOK.cons te25_ok (TOK.cons te26_ok (TOK.cons te29_ok (TOK.cons te38_ok (TOK.cons te41_ok (TOK.cons te44_ok (TOK.cons te46_ok (TOK.cons te50_ok (TOK.cons te56_ok (TOK.cons te65_ok (TOK.nil))))))))))))))

def same_Check_1_sig : Shape := ⟨[(.int .i64), (.pair (.int .i64) (.pair (.int .i64) (.pair (.list (.pair (.int .i64) (.pair (.int .i64) (.pair (.int .i64) .unit)))) .unit)))], [(0, .v 0), (1, .addr 1)], []⟩
def same_Check_1_out : Shape := ⟨[.bool], [(0, .v 0)], []⟩
noncomputable def same_Check_1_ce : CE := ⟨20, same_Check_1_sig, same_Check_1_out, fun X => same_Check_1 X.1 X.2⟩
theorem same_Check_1_ok : CE.ok Try.prog same_Check_1_ce := CE.of (Γ := []) (by kernel_rfl) TT_ok (GOK.nil) ⟨[], [], [], []⟩ Try.func20 rfl Try.ntmps20 (rs := [.tmp 3]) rfl (sig := same_Check_1_sig) (out := same_Check_1_out) rfl Try.call20 (fun X => by kernel_rfl)

def same_Check_2_sig : Shape := ⟨[(.pair (.int .i64) (.pair (.int .i64) (.pair (.int .i64) .unit))), (.pair (.int .i64) (.pair (.int .i64) (.pair (.list (.pair (.int .i64) (.pair (.int .i64) (.pair (.int .i64) .unit)))) .unit))), (.pair (.int .i64) (.pair (.int .i64) (.pair (.list (.pair (.int .i64) (.pair (.int .i64) (.pair (.int .i64) .unit)))) .unit)))], [(0, .v 0), (1, .ptr 100000 0), (2, .addr 1)], [(100000, .box 50 [.fn 20 [.addr 2]])]⟩
def same_Check_2_out : Shape := ⟨[.bool, (.pair (.int .i64) (.pair (.int .i64) (.pair (.list (.pair (.int .i64) (.pair (.int .i64) (.pair (.int .i64) .unit)))) .unit)))], [(0, .v 0)], [(100000, .box 50 [.fn 20 [.addr 1]])]⟩
noncomputable def same_Check_2_ce : CE := ⟨22, same_Check_2_sig, same_Check_2_out, fun X => same_Check_2 X.1 X.2.1 X.2.2⟩
theorem same_Check_2_ok : CE.ok Try.prog same_Check_2_ce := CE.of (Γ := [same_Check_1_ce]) (by kernel_rfl) TT_ok (GOK.cons same_Check_1_ok (GOK.nil)) ⟨[], [], [], []⟩ Try.func22 rfl Try.ntmps22 (rs := [.tmp 4]) rfl (sig := same_Check_2_sig) (out := same_Check_2_out) rfl Try.call22 (fun X => by kernel_rfl)

def slices_IndexFunc_sig : Shape := ⟨[(.list (.pair (.int .i64) (.pair (.int .i64) (.pair (.int .i64) .unit)))), (.pair (.int .i64) (.pair (.int .i64) (.pair (.list (.pair (.int .i64) (.pair (.int .i64) (.pair (.int .i64) .unit)))) .unit))), (.pair (.int .i64) (.pair (.int .i64) (.pair (.list (.pair (.int .i64) (.pair (.int .i64) (.pair (.int .i64) .unit)))) .unit)))], [(0, .v 0), (1, .fn 22 [.ptr 100000 0, .addr 1])], [(100000, .box 50 [.fn 20 [.addr 2]])]⟩
def slices_IndexFunc_out : Shape := ⟨[(.int .i64), (.pair (.int .i64) (.pair (.int .i64) (.pair (.list (.pair (.int .i64) (.pair (.int .i64) (.pair (.int .i64) .unit)))) .unit)))], [(0, .v 0)], [(100000, .box 50 [.fn 20 [.addr 1]])]⟩
noncomputable def slices_IndexFunc_ce : CE := ⟨30, slices_IndexFunc_sig, slices_IndexFunc_out, fun X => slices_IndexFunc X.1 X.2.1 X.2.2⟩
theorem slices_IndexFunc_ok : CE.ok Try.prog slices_IndexFunc_ce := CE.of (Γ := [same_Check_2_ce]) (by kernel_rfl) TT_ok (GOK.cons same_Check_2_ok (GOK.nil)) ⟨[(2, ⟨⟨[(.pair (.int .i64) (.pair (.int .i64) (.pair (.list (.pair (.int .i64) (.pair (.int .i64) (.pair (.int .i64) .unit)))) .unit))), (.int .i64), (.pair (.int .i64) (.pair (.int .i64) (.pair (.list (.pair (.int .i64) (.pair (.int .i64) (.pair (.int .i64) .unit)))) .unit)))], [(1, .fn 22 [.ptr 100000 0, .addr 0]), (8, .v 1)], [(100000, .box 50 [.fn 20 [.addr 2]])]⟩, [4, 5, 9, 10, 11, 12, 13, 14, 15, 16, 17, 18], [], [], 0, []⟩)], [], [], []⟩ Try.func30 rfl Try.ntmps30 (rs := [.tmp 4]) rfl (sig := slices_IndexFunc_sig) (out := slices_IndexFunc_out) rfl Try.call30 (fun X => by kernel_rfl)

def slices_ContainsFunc_sig : Shape := ⟨[(.list (.pair (.int .i64) (.pair (.int .i64) (.pair (.int .i64) .unit)))), (.pair (.int .i64) (.pair (.int .i64) (.pair (.list (.pair (.int .i64) (.pair (.int .i64) (.pair (.int .i64) .unit)))) .unit))), (.pair (.int .i64) (.pair (.int .i64) (.pair (.list (.pair (.int .i64) (.pair (.int .i64) (.pair (.int .i64) .unit)))) .unit)))], [(0, .v 0), (1, .fn 22 [.ptr 100000 0, .addr 1])], [(100000, .box 50 [.fn 20 [.addr 2]])]⟩
def slices_ContainsFunc_out : Shape := ⟨[.bool, (.pair (.int .i64) (.pair (.int .i64) (.pair (.list (.pair (.int .i64) (.pair (.int .i64) (.pair (.int .i64) .unit)))) .unit)))], [(0, .v 0)], [(100000, .box 50 [.fn 20 [.addr 1]])]⟩
noncomputable def slices_ContainsFunc_ce : CE := ⟨21, slices_ContainsFunc_sig, slices_ContainsFunc_out, fun X => slices_ContainsFunc X.1 X.2.1 X.2.2⟩
theorem slices_ContainsFunc_ok : CE.ok Try.prog slices_ContainsFunc_ce := CE.of (Γ := [slices_IndexFunc_ce]) (by kernel_rfl) TT_ok (GOK.cons slices_IndexFunc_ok (GOK.nil)) ⟨[], [], [], []⟩ Try.func21 rfl Try.ntmps21 (rs := [.tmp 4]) rfl (sig := slices_ContainsFunc_sig) (out := slices_ContainsFunc_out) rfl Try.call21 (fun X => by kernel_rfl)

def cmp_isNaN_sig : Shape := ⟨[(.int .i64)], [(0, .v 0)], []⟩
def cmp_isNaN_out : Shape := ⟨[.bool], [(0, .v 0)], []⟩
noncomputable def cmp_isNaN_ce : CE := ⟨35, cmp_isNaN_sig, cmp_isNaN_out, fun X => cmp_isNaN X⟩
theorem cmp_isNaN_ok : CE.ok Try.prog cmp_isNaN_ce := CE.of (Γ := []) (by kernel_rfl) TT_ok (GOK.nil) ⟨[], [], [], []⟩ Try.func35 rfl Try.ntmps35 (rs := [.tmp 2]) rfl (sig := cmp_isNaN_sig) (out := cmp_isNaN_out) rfl Try.call35 (fun X => by kernel_rfl)

def cmp_Compare_sig : Shape := ⟨[(.int .i64), (.int .i64)], [(0, .v 0), (1, .v 1)], []⟩
def cmp_Compare_out : Shape := ⟨[(.int .i64)], [(0, .v 0)], []⟩
noncomputable def cmp_Compare_ce : CE := ⟨32, cmp_Compare_sig, cmp_Compare_out, fun X => cmp_Compare X.1 X.2⟩
theorem cmp_Compare_ok : CE.ok Try.prog cmp_Compare_ce := CE.of (Γ := [cmp_isNaN_ce]) (by kernel_rfl) TT_ok (GOK.cons cmp_isNaN_ok (GOK.nil)) ⟨[], [], [], []⟩ Try.func32 rfl Try.ntmps32 (rs := [.tmp 4]) rfl (sig := cmp_Compare_sig) (out := cmp_Compare_out) rfl Try.call32 (fun X => by kernel_rfl)

def cmp_Or_sig : Shape := ⟨[(.list (.int .i64))], [(0, .v 0)], []⟩
def cmp_Or_out : Shape := ⟨[(.int .i64)], [(0, .v 0)], []⟩
noncomputable def cmp_Or_ce : CE := ⟨31, cmp_Or_sig, cmp_Or_out, fun X => cmp_Or X⟩
theorem cmp_Or_ok : CE.ok Try.prog cmp_Or_ce := CE.of (Γ := []) (by kernel_rfl) TT_ok (GOK.nil) ⟨[(3, ⟨⟨[(.int .i64)], [(8, .v 0)], []⟩, [2, 5, 9, 10, 11, 12, 13, 14, 15, 16], [], [], 0, []⟩)], [], [], []⟩ Try.func31 rfl Try.ntmps31 (rs := [.tmp 2]) rfl (sig := cmp_Or_sig) (out := cmp_Or_out) rfl Try.call31 (fun X => by kernel_rfl)

def same_order_sig : Shape := ⟨[(.pair (.int .i64) (.pair (.int .i64) (.pair (.int .i64) .unit))), (.pair (.int .i64) (.pair (.int .i64) (.pair (.int .i64) .unit)))], [(0, .v 0), (1, .v 1)], []⟩
def same_order_out : Shape := ⟨[(.int .i64)], [(0, .v 0)], []⟩
noncomputable def same_order_ce : CE := ⟨23, same_order_sig, same_order_out, fun X => same_order X.1 X.2⟩
theorem same_order_ok : CE.ok Try.prog same_order_ce := CE.of (Γ := [cmp_Compare_ce, cmp_Or_ce]) (by kernel_rfl) TT_ok (GOK.cons cmp_Compare_ok (GOK.cons cmp_Or_ok (GOK.nil))) ⟨[], [], [(1, [(0, 0), (0, 1), (0, 2), (0, 3), (0, 5), (0, 6), (0, 7), (0, 8), (0, 10), (0, 11), (0, 12), (0, 13), (1, 4), (1, 9), (1, 14), (1, 15), (1, 16), (0, 17)])], []⟩ Try.func23 rfl Try.ntmps23 (rs := [.tmp 4]) rfl (sig := same_order_sig) (out := same_order_out) rfl Try.call23 (fun X => by kernel_rfl)

def same_Check_sig : Shape := ⟨[(.pair (.int .i64) (.pair (.int .i64) (.pair (.list (.pair (.int .i64) (.pair (.int .i64) (.pair (.int .i64) .unit)))) .unit)))], [(0, .v 0)], []⟩
def same_Check_out : Shape := ⟨[(.int .i64)], [(0, .v 0)], []⟩
noncomputable def same_Check_ce : CE := ⟨11, same_Check_sig, same_Check_out, fun X => same_Check X⟩
theorem same_Check_ok : CE.ok Try.prog same_Check_ce := CE.of (Γ := [slices_ContainsFunc_ce, same_order_ce]) (by kernel_rfl) TT_ok (GOK.cons slices_ContainsFunc_ok (GOK.cons same_order_ok (GOK.nil))) ⟨[(9, ⟨⟨[(.int .i64)], [(35, .v 0)], []⟩, [2, 4, 13, 17, 22, 36, 37, 38, 39, 40, 41, 42, 43, 44, 45, 46, 47, 48, 49, 50, 51, 52, 53, 54, 55], [], [1], 2, []⟩)], [], [(11, [(0, 0), (0, 1), (0, 2), (0, 3), (0, 4), (0, 5), (0, 6), (0, 7), (0, 8), (0, 9), (0, 10), (0, 11), (0, 12), (0, 13), (1, 14), (0, 15), (0, 16)])], []⟩ Try.func11 rfl Try.ntmps11 (rs := [.tmp 2]) rfl (sig := same_Check_sig) (out := same_Check_out) rfl Try.call11 (fun X => by kernel_rfl)

def same_rounds_1_sig : Shape := ⟨[(.int .i64), (.int .i64), (.list (.int .i64))], [(0, .v 0), (1, .v 1), (2, .addr 2)], []⟩
def same_rounds_1_out : Shape := ⟨[.bool], [(0, .v 0)], []⟩
noncomputable def same_rounds_1_ce : CE := ⟨24, same_rounds_1_sig, same_rounds_1_out, fun X => same_rounds_1 X.1 X.2.1 X.2.2⟩
theorem same_rounds_1_ok : CE.ok Try.prog same_rounds_1_ce := CE.of (Γ := []) (by kernel_rfl) TT_ok (GOK.nil) ⟨[], [], [(1, [(0, 0), (0, 1), (0, 2), (0, 3), (0, 4), (0, 5), (0, 6), (0, 7), (0, 8), (0, 9)])], []⟩ Try.func24 rfl Try.ntmps24 (rs := [.tmp 5]) rfl (sig := same_rounds_1_sig) (out := same_rounds_1_out) rfl Try.call24 (fun X => by kernel_rfl)

def same_answered_1_sig : Shape := ⟨[(.pair (.int .i64) (.pair (.int .i64) (.pair (.int .i64) .unit))), (.int .i64), (.pair (.int .i64) (.pair (.int .i64) (.pair (.int .i64) .unit))), (.list (.int .i64))], [(0, .v 0), (1, .addr 1), (2, .addr 2), (3, .ptr 100000 0)], [(100000, .box 44 [.fn 24 [.addr 3]])]⟩
def same_answered_1_out : Shape := ⟨[.bool, (.list (.int .i64))], [(0, .v 0)], [(100000, .box 44 [.fn 24 [.addr 1]])]⟩
noncomputable def same_answered_1_ce : CE := ⟨29, same_answered_1_sig, same_answered_1_out, fun X => same_answered_1 X.1 X.2.1 X.2.2.1 X.2.2.2⟩
theorem same_answered_1_ok : CE.ok Try.prog same_answered_1_ce := CE.of (Γ := [same_rounds_1_ce]) (by kernel_rfl) TT_ok (GOK.cons same_rounds_1_ok (GOK.nil)) ⟨[], [], [], []⟩ Try.func29 rfl Try.ntmps29 (rs := [.tmp 5]) rfl (sig := same_answered_1_sig) (out := same_answered_1_out) rfl Try.call29 (fun X => by kernel_rfl)

def slices_IndexFunc_2_sig : Shape := ⟨[(.list (.pair (.int .i64) (.pair (.int .i64) (.pair (.int .i64) .unit)))), (.int .i64), (.pair (.int .i64) (.pair (.int .i64) (.pair (.int .i64) .unit))), (.list (.int .i64))], [(0, .v 0), (1, .fn 29 [.addr 1, .addr 2, .ptr 100000 0])], [(100000, .box 44 [.fn 24 [.addr 3]])]⟩
def slices_IndexFunc_2_out : Shape := ⟨[(.int .i64), (.list (.int .i64))], [(0, .v 0)], [(100000, .box 44 [.fn 24 [.addr 1]])]⟩
noncomputable def slices_IndexFunc_2_ce : CE := ⟨30, slices_IndexFunc_2_sig, slices_IndexFunc_2_out, fun X => slices_IndexFunc_2 X.1 X.2.1 X.2.2.1 X.2.2.2⟩
theorem slices_IndexFunc_2_ok : CE.ok Try.prog slices_IndexFunc_2_ce := CE.of (Γ := [same_answered_1_ce]) (by kernel_rfl) TT_ok (GOK.cons same_answered_1_ok (GOK.nil)) ⟨[(2, ⟨⟨[(.int .i64), (.pair (.int .i64) (.pair (.int .i64) (.pair (.int .i64) .unit))), (.int .i64), (.list (.int .i64))], [(1, .fn 29 [.addr 0, .addr 1, .ptr 100000 0]), (8, .v 2)], [(100000, .box 44 [.fn 24 [.addr 3]])]⟩, [4, 5, 9, 10, 11, 12, 13, 14, 15, 16, 17, 18], [], [], 0, []⟩)], [], [], []⟩ Try.func30 rfl Try.ntmps30 (rs := [.tmp 4]) rfl (sig := slices_IndexFunc_2_sig) (out := slices_IndexFunc_2_out) rfl Try.call30 (fun X => by kernel_rfl)

def slices_ContainsFunc_1_sig : Shape := ⟨[(.list (.pair (.int .i64) (.pair (.int .i64) (.pair (.int .i64) .unit)))), (.int .i64), (.pair (.int .i64) (.pair (.int .i64) (.pair (.int .i64) .unit))), (.list (.int .i64))], [(0, .v 0), (1, .fn 29 [.addr 1, .addr 2, .ptr 100000 0])], [(100000, .box 44 [.fn 24 [.addr 3]])]⟩
def slices_ContainsFunc_1_out : Shape := ⟨[.bool, (.list (.int .i64))], [(0, .v 0)], [(100000, .box 44 [.fn 24 [.addr 1]])]⟩
noncomputable def slices_ContainsFunc_1_ce : CE := ⟨21, slices_ContainsFunc_1_sig, slices_ContainsFunc_1_out, fun X => slices_ContainsFunc_1 X.1 X.2.1 X.2.2.1 X.2.2.2⟩
theorem slices_ContainsFunc_1_ok : CE.ok Try.prog slices_ContainsFunc_1_ce := CE.of (Γ := [slices_IndexFunc_2_ce]) (by kernel_rfl) TT_ok (GOK.cons slices_IndexFunc_2_ok (GOK.nil)) ⟨[], [], [], []⟩ Try.func21 rfl Try.ntmps21 (rs := [.tmp 4]) rfl (sig := slices_ContainsFunc_1_sig) (out := slices_ContainsFunc_1_out) rfl Try.call21 (fun X => by kernel_rfl)

def same_answered_sig : Shape := ⟨[(.pair (.int .i64) (.pair (.int .i64) (.pair (.list (.pair (.int .i64) (.pair (.int .i64) (.pair (.int .i64) .unit)))) .unit))), (.int .i64), (.int .i64), (.list (.int .i64))], [(0, .v 0), (1, .v 1), (2, .v 2), (3, .fn 24 [.addr 3])], []⟩
def same_answered_out : Shape := ⟨[.bool], [(0, .v 0)], []⟩
noncomputable def same_answered_ce : CE := ⟨15, same_answered_sig, same_answered_out, fun X => same_answered X.1 X.2.1 X.2.2.1 X.2.2.2⟩
theorem same_answered_ok : CE.ok Try.prog same_answered_ce := CE.of (Γ := [slices_ContainsFunc_1_ce]) (by kernel_rfl) TT_ok (GOK.cons slices_ContainsFunc_1_ok (GOK.nil)) ⟨[(2, ⟨⟨[(.int .i64), (.int .i64), (.list (.int .i64))], [(6, .addr 0), (7, .ptr 2 0), (14, .v 1)], [(2, .box 44 [.fn 24 [.addr 2]])]⟩, [8, 10, 15, 16, 17, 18, 19, 20, 21, 22, 23, 24, 25, 26, 27, 28, 29], [1], [0], 3, [(6, 999999, none, (.int .i64))]⟩)], [], [], []⟩ Try.func15 rfl Try.ntmps15 (rs := [.tmp 8]) rfl (sig := same_answered_sig) (out := same_answered_out) rfl Try.call15 (fun X => by kernel_rfl)

def same_rounds_2_sig : Shape := ⟨[(.int .i64), (.list (.int .i64)), (.int .i64), (.pair (.int .i64) (.pair (.int .i64) (.pair (.list (.pair (.int .i64) (.pair (.int .i64) (.pair (.int .i64) .unit)))) .unit))), (.list (.int .i64))], [(0, .v 0), (1, .addr 1), (2, .addr 2), (3, .addr 3), (4, .ptr 100000 0)], [(100000, .box 44 [.fn 24 [.addr 4]])]⟩
def same_rounds_2_out : Shape := ⟨[.bool, (.list (.int .i64))], [(0, .v 0)], [(100000, .box 44 [.fn 24 [.addr 1]])]⟩
noncomputable def same_rounds_2_ce : CE := ⟨26, same_rounds_2_sig, same_rounds_2_out, fun X => same_rounds_2 X.1 X.2.1 X.2.2.1 X.2.2.2.1 X.2.2.2.2⟩
theorem same_rounds_2_ok : CE.ok Try.prog same_rounds_2_ce := CE.of (Γ := [same_answered_ce]) (by kernel_rfl) TT_ok (GOK.cons same_answered_ok (GOK.nil)) ⟨[], [], [(1, [(0, 0), (0, 1), (0, 2), (0, 3), (0, 4), (0, 5), (0, 6), (0, 7), (0, 8), (0, 9), (0, 10), (0, 11), (0, 12), (0, 13), (1, 14), (0, 15), (0, 16), (0, 17), (0, 18), (0, 19), (0, 20), (1, 21), (0, 22), (0, 23)])], []⟩ Try.func26 rfl Try.ntmps26 (rs := [.tmp 6]) rfl (sig := same_rounds_2_sig) (out := same_rounds_2_out) rfl Try.call26 (fun X => by kernel_rfl)

def slices_IndexFunc_1_sig : Shape := ⟨[(.list (.int .i64)), (.list (.int .i64)), (.int .i64), (.pair (.int .i64) (.pair (.int .i64) (.pair (.list (.pair (.int .i64) (.pair (.int .i64) (.pair (.int .i64) .unit)))) .unit))), (.list (.int .i64))], [(0, .v 0), (1, .fn 26 [.addr 1, .addr 2, .addr 3, .ptr 100000 0])], [(100000, .box 44 [.fn 24 [.addr 4]])]⟩
def slices_IndexFunc_1_out : Shape := ⟨[(.int .i64), (.list (.int .i64))], [(0, .v 0)], [(100000, .box 44 [.fn 24 [.addr 1]])]⟩
noncomputable def slices_IndexFunc_1_ce : CE := ⟨25, slices_IndexFunc_1_sig, slices_IndexFunc_1_out, fun X => slices_IndexFunc_1 X.1 X.2.1 X.2.2.1 X.2.2.2.1 X.2.2.2.2⟩
theorem slices_IndexFunc_1_ok : CE.ok Try.prog slices_IndexFunc_1_ce := CE.of (Γ := [same_rounds_2_ce]) (by kernel_rfl) TT_ok (GOK.cons same_rounds_2_ok (GOK.nil)) ⟨[(2, ⟨⟨[(.list (.int .i64)), (.int .i64), (.pair (.int .i64) (.pair (.int .i64) (.pair (.list (.pair (.int .i64) (.pair (.int .i64) (.pair (.int .i64) .unit)))) .unit))), (.int .i64), (.list (.int .i64))], [(1, .fn 26 [.addr 0, .addr 1, .addr 2, .ptr 100000 0]), (8, .v 3)], [(100000, .box 44 [.fn 24 [.addr 4]])]⟩, [4, 5, 9, 10, 11, 12, 13, 14, 15, 16, 17, 18], [], [], 0, []⟩)], [], [], []⟩ Try.func25 rfl Try.ntmps25 (rs := [.tmp 4]) rfl (sig := slices_IndexFunc_1_sig) (out := slices_IndexFunc_1_out) rfl Try.call25 (fun X => by kernel_rfl)

def slices_IndexFunc_3_sig : Shape := ⟨[(.list (.int .i64)), (.int .i64), (.pair (.int .i64) (.pair (.int .i64) (.pair (.list (.pair (.int .i64) (.pair (.int .i64) (.pair (.int .i64) .unit)))) .unit))), (.list (.int .i64)), (.list (.int .i64))], [(0, .own 100000), (1, .fn 26 [.addr 0, .addr 1, .addr 2, .ptr 100001 0])], [(100000, .arr 3 3), (100001, .box 44 [.fn 24 [.addr 4]])]⟩
def slices_IndexFunc_3_out : Shape := ⟨[(.int .i64), (.list (.int .i64)), (.list (.int .i64))], [(0, .v 0)], [(100000, .arr 3 1), (100001, .box 44 [.fn 24 [.addr 2]])]⟩
noncomputable def slices_IndexFunc_3_ce : CE := ⟨25, slices_IndexFunc_3_sig, slices_IndexFunc_3_out, fun X => slices_IndexFunc_3 X.1 X.2.1 X.2.2.1 X.2.2.2.1 X.2.2.2.2⟩
theorem slices_IndexFunc_3_ok : CE.ok Try.prog slices_IndexFunc_3_ce := CE.of (Γ := [same_rounds_2_ce]) (by kernel_rfl) TT_ok (GOK.cons same_rounds_2_ok (GOK.nil)) ⟨[(2, ⟨⟨[(.list (.int .i64)), (.int .i64), (.pair (.int .i64) (.pair (.int .i64) (.pair (.list (.pair (.int .i64) (.pair (.int .i64) (.pair (.int .i64) .unit)))) .unit))), (.int .i64), (.list (.int .i64))], [(1, .fn 26 [.addr 0, .addr 1, .addr 2, .ptr 100001 0]), (8, .v 3)], [(100001, .box 44 [.fn 24 [.addr 4]])]⟩, [4, 5, 9, 10, 11, 12, 13, 14, 15, 16, 17, 18], [], [], 0, []⟩)], [], [], []⟩ Try.func25 rfl Try.ntmps25 (rs := [.tmp 4]) rfl (sig := slices_IndexFunc_3_sig) (out := slices_IndexFunc_3_out) rfl Try.call25 (fun X => by kernel_rfl)

def slices_Max_sig : Shape := ⟨[(.list (.int .i64))], [(0, .v 0)], []⟩
def slices_Max_out : Shape := ⟨[(.int .i64)], [(0, .v 0)], []⟩
noncomputable def slices_Max_ce : CE := ⟨27, slices_Max_sig, slices_Max_out, fun X => slices_Max X⟩
theorem slices_Max_ok : CE.ok Try.prog slices_Max_ce := CE.of (Γ := []) (by kernel_rfl) TT_ok (GOK.nil) ⟨[(5, ⟨⟨[(.int .i64), (.int .i64)], [(3, .v 0), (4, .v 1)], []⟩, [12, 13, 14, 15, 16, 17, 18, 19, 20, 21, 22, 23], [], [], 0, []⟩)], [], [], []⟩ Try.func27 rfl Try.ntmps27 (rs := [.tmp 2]) rfl (sig := slices_Max_sig) (out := slices_Max_out) rfl Try.call27 (fun X => by kernel_rfl)

def same_rounds_sig : Shape := ⟨[(.pair (.int .i64) (.pair (.int .i64) (.pair (.list (.pair (.int .i64) (.pair (.int .i64) (.pair (.int .i64) .unit)))) .unit)))], [(0, .v 0)], []⟩
def same_rounds_out : Shape := ⟨[(.list (.list (.int .i64)))], [(0, .own 0)], [(0, .arr 25 0)]⟩
noncomputable def same_rounds_ce : CE := ⟨12, same_rounds_sig, same_rounds_out, fun X => same_rounds X⟩
theorem same_rounds_ok : CE.ok Try.prog same_rounds_ce := CE.of (Γ := [slices_IndexFunc_3_ce, slices_Max_ce]) (by kernel_rfl) TT_ok (GOK.cons slices_IndexFunc_3_ok (GOK.cons slices_Max_ok (GOK.nil))) ⟨[(2, ⟨⟨[(.pair (.int .i64) (.pair (.int .i64) (.pair (.list (.pair (.int .i64) (.pair (.int .i64) (.pair (.int .i64) .unit)))) .unit))), (.list (.list (.int .i64)))], [(1, .addr 0), (3, .own 2)], [(2, .arr 25 1)]⟩, [2, 4, 5, 6, 7, 8, 9, 10, 13, 14, 15, 16, 17, 18, 19, 20, 21, 22, 23, 24, 25, 26, 27, 28, 29, 30, 31, 32, 33, 34, 35, 36, 37, 38, 39, 40, 41, 42, 43, 44, 45, 46, 47, 48, 49, 50, 51, 52, 53, 54], [0], [], 3, [(1, 999999, none, (.pair (.int .i64) (.pair (.int .i64) (.pair (.list (.pair (.int .i64) (.pair (.int .i64) (.pair (.int .i64) .unit)))) .unit))))]⟩), (7, ⟨⟨[(.pair (.int .i64) (.pair (.int .i64) (.pair (.list (.pair (.int .i64) (.pair (.int .i64) (.pair (.int .i64) .unit)))) .unit))), (.int .i64), (.list (.int .i64)), (.list (.int .i64)), (.list (.int .i64))], [(1, .addr 0), (5, .ptr 4 0), (6, .own 5), (7, .own 6), (26, .v 1)], [(4, .box 44 [.fn 24 [.addr 2]]), (5, .arr 3 3), (6, .arr 3 4)]⟩, [8, 9, 23, 24, 27, 28, 29, 30, 31, 32, 33, 34, 35, 36, 37, 38, 39, 40, 41, 42, 43, 44], [0], [2], 7, []⟩)], [(12, ⟨⟨[(.int .i64), (.list (.int .i64))], [(7, .own 8), (9, .v 0)], [(8, .arr 3 1)]⟩, [29, 32, 33, 34, 35, 36, 37, 38, 39], [6], [2, 4, 5], 9, []⟩)], [(15, [(0, 0), (0, 2), (1, 1), (1, 3), (0, 4)])], []⟩ Try.func12 rfl Try.ntmps12 (rs := [.tmp 2]) rfl (sig := same_rounds_sig) (out := same_rounds_out) rfl Try.call12 (fun X => by kernel_rfl)

def slices_Clone_sig : Shape := ⟨[(.list (.int .i64))], [(0, .v 0)], []⟩
def slices_Clone_out : Shape := ⟨[(.list (.int .i64))], [(0, .own 0)], [(0, .arr 3 0)]⟩
noncomputable def slices_Clone_ce : CE := ⟨13, slices_Clone_sig, slices_Clone_out, fun X => slices_Clone X⟩
theorem slices_Clone_ok : CE.ok Try.prog slices_Clone_ce := CE.of (Γ := []) (by kernel_rfl) TT_ok (GOK.nil) ⟨[], [], [], []⟩ Try.func13 rfl Try.ntmps13 (rs := [.tmp 2]) rfl (sig := slices_Clone_sig) (out := slices_Clone_out) rfl Try.call13 (fun X => by kernel_rfl)

def same_Classes_sig : Shape := ⟨[(.pair (.int .i64) (.pair (.int .i64) (.pair (.list (.pair (.int .i64) (.pair (.int .i64) (.pair (.int .i64) .unit)))) .unit)))], [(0, .v 0)], []⟩
def same_Classes_out : Shape := ⟨[(.int .i64), (.list (.int .i64))], [(0, .own 0), (1, .v 0)], [(0, .arr 3 1)]⟩
noncomputable def same_Classes_ce : CE := ⟨4, same_Classes_sig, same_Classes_out, fun X => same_Classes X⟩
theorem same_Classes_ok : CE.ok Try.prog same_Classes_ce := CE.of (Γ := [same_Check_ce, same_rounds_ce, slices_Clone_ce]) (by kernel_rfl) TT_ok (GOK.cons same_Check_ok (GOK.cons same_rounds_ok (GOK.cons slices_Clone_ok (GOK.nil)))) ⟨[], [], [], []⟩ Try.func4 rfl Try.ntmps4 (rs := [.tmp 2, .tmp 3]) rfl (sig := same_Classes_sig) (out := same_Classes_out) rfl Try.call4 (fun X => by kernel_rfl)

def bits_Mul64_sig : Shape := ⟨[(.int .u64), (.int .u64)], [(0, .v 0), (1, .v 1)], []⟩
def bits_Mul64_out : Shape := ⟨[(.int .u64), (.int .u64)], [(0, .v 0), (1, .v 1)], []⟩
noncomputable def bits_Mul64_ce : CE := ⟨34, bits_Mul64_sig, bits_Mul64_out, fun X => bits_Mul64 X.1 X.2⟩
theorem bits_Mul64_ok : CE.ok Try.prog bits_Mul64_ce := CE.of (Γ := []) (by kernel_rfl) TT_ok (GOK.nil) ⟨[], [], [], []⟩ Try.func34 rfl Try.ntmps34 (rs := [.tmp 4, .tmp 5]) rfl (sig := bits_Mul64_sig) (out := bits_Mul64_out) rfl Try.call34 (fun X => by kernel_rfl)

def bits_Mul_sig : Shape := ⟨[(.int .u64), (.int .u64)], [(0, .v 0), (1, .v 1)], []⟩
def bits_Mul_out : Shape := ⟨[(.int .u64), (.int .u64)], [(0, .v 0), (1, .v 1)], []⟩
noncomputable def bits_Mul_ce : CE := ⟨28, bits_Mul_sig, bits_Mul_out, fun X => bits_Mul X.1 X.2⟩
theorem bits_Mul_ok : CE.ok Try.prog bits_Mul_ce := CE.of (Γ := [bits_Mul64_ce]) (by kernel_rfl) TT_ok (GOK.cons bits_Mul64_ok (GOK.nil)) ⟨[], [], [], []⟩ Try.func28 rfl Try.ntmps28 (rs := [.tmp 4, .tmp 5]) rfl (sig := bits_Mul_sig) (out := bits_Mul_out) rfl Try.call28 (fun X => by kernel_rfl)

def slices_Repeat_sig : Shape := ⟨[(.list .bool), (.int .i64)], [(0, .v 0), (1, .v 1)], []⟩
def slices_Repeat_out : Shape := ⟨[(.list .bool)], [(0, .own 0)], [(0, .arr 4 0)]⟩
noncomputable def slices_Repeat_ce : CE := ⟨14, slices_Repeat_sig, slices_Repeat_out, fun X => slices_Repeat X.1 X.2⟩
theorem slices_Repeat_ok : CE.ok Try.prog slices_Repeat_ce := CE.of (Γ := [bits_Mul_ce]) (by kernel_rfl) TT_ok (GOK.cons bits_Mul_ok (GOK.nil)) ⟨[(8, ⟨⟨[(.int .i64), (.list .bool)], [(7, .own 0), (8, .v 0)], [(0, .arr 4 1)]⟩, [30, 31, 34, 35, 36, 37, 38, 39, 40, 41, 42, 43, 44, 45, 46], [], [], 1, []⟩)], [], [(9, [(0, 0), (0, 1), (0, 2), (0, 3), (0, 4), (0, 5), (0, 6), (2, 7), (0, 8), (0, 9)])], []⟩ Try.func14 rfl Try.ntmps14 (rs := [.tmp 4]) rfl (sig := slices_Repeat_sig) (out := slices_Repeat_out) rfl Try.call14 (fun X => by kernel_rfl)

def same_Serves_1_sig : Shape := ⟨[(.int .i64), (.int .i64), (.list (.list .bool))], [(0, .v 0), (1, .v 1), (2, .addr 2)], []⟩
def same_Serves_1_out : Shape := ⟨[.bool], [(0, .v 0)], []⟩
noncomputable def same_Serves_1_ce : CE := ⟨16, same_Serves_1_sig, same_Serves_1_out, fun X => same_Serves_1 X.1 X.2.1 X.2.2⟩
theorem same_Serves_1_ok : CE.ok Try.prog same_Serves_1_ce := CE.of (Γ := []) (by kernel_rfl) TT_ok (GOK.nil) ⟨[], [], [], []⟩ Try.func16 rfl Try.ntmps16 (rs := [.tmp 5]) rfl (sig := same_Serves_1_sig) (out := same_Serves_1_out) rfl Try.call16 (fun X => by kernel_rfl)

def same_answered_1_1_sig : Shape := ⟨[(.pair (.int .i64) (.pair (.int .i64) (.pair (.int .i64) .unit))), (.int .i64), (.pair (.int .i64) (.pair (.int .i64) (.pair (.int .i64) .unit))), (.list (.list .bool))], [(0, .v 0), (1, .addr 1), (2, .addr 2), (3, .ptr 100000 0)], [(100000, .box 44 [.fn 16 [.addr 3]])]⟩
def same_answered_1_1_out : Shape := ⟨[.bool, (.list (.list .bool))], [(0, .v 0)], [(100000, .box 44 [.fn 16 [.addr 1]])]⟩
noncomputable def same_answered_1_1_ce : CE := ⟨29, same_answered_1_1_sig, same_answered_1_1_out, fun X => same_answered_1_1 X.1 X.2.1 X.2.2.1 X.2.2.2⟩
theorem same_answered_1_1_ok : CE.ok Try.prog same_answered_1_1_ce := CE.of (Γ := [same_Serves_1_ce]) (by kernel_rfl) TT_ok (GOK.cons same_Serves_1_ok (GOK.nil)) ⟨[], [], [], []⟩ Try.func29 rfl Try.ntmps29 (rs := [.tmp 5]) rfl (sig := same_answered_1_1_sig) (out := same_answered_1_1_out) rfl Try.call29 (fun X => by kernel_rfl)

def slices_IndexFunc_4_sig : Shape := ⟨[(.list (.pair (.int .i64) (.pair (.int .i64) (.pair (.int .i64) .unit)))), (.int .i64), (.pair (.int .i64) (.pair (.int .i64) (.pair (.int .i64) .unit))), (.list (.list .bool))], [(0, .v 0), (1, .fn 29 [.addr 1, .addr 2, .ptr 100000 0])], [(100000, .box 44 [.fn 16 [.addr 3]])]⟩
def slices_IndexFunc_4_out : Shape := ⟨[(.int .i64), (.list (.list .bool))], [(0, .v 0)], [(100000, .box 44 [.fn 16 [.addr 1]])]⟩
noncomputable def slices_IndexFunc_4_ce : CE := ⟨30, slices_IndexFunc_4_sig, slices_IndexFunc_4_out, fun X => slices_IndexFunc_4 X.1 X.2.1 X.2.2.1 X.2.2.2⟩
theorem slices_IndexFunc_4_ok : CE.ok Try.prog slices_IndexFunc_4_ce := CE.of (Γ := [same_answered_1_1_ce]) (by kernel_rfl) TT_ok (GOK.cons same_answered_1_1_ok (GOK.nil)) ⟨[(2, ⟨⟨[(.int .i64), (.pair (.int .i64) (.pair (.int .i64) (.pair (.int .i64) .unit))), (.int .i64), (.list (.list .bool))], [(1, .fn 29 [.addr 0, .addr 1, .ptr 100000 0]), (8, .v 2)], [(100000, .box 44 [.fn 16 [.addr 3]])]⟩, [4, 5, 9, 10, 11, 12, 13, 14, 15, 16, 17, 18], [], [], 0, []⟩)], [], [], []⟩ Try.func30 rfl Try.ntmps30 (rs := [.tmp 4]) rfl (sig := slices_IndexFunc_4_sig) (out := slices_IndexFunc_4_out) rfl Try.call30 (fun X => by kernel_rfl)

def slices_ContainsFunc_2_sig : Shape := ⟨[(.list (.pair (.int .i64) (.pair (.int .i64) (.pair (.int .i64) .unit)))), (.int .i64), (.pair (.int .i64) (.pair (.int .i64) (.pair (.int .i64) .unit))), (.list (.list .bool))], [(0, .v 0), (1, .fn 29 [.addr 1, .addr 2, .ptr 100000 0])], [(100000, .box 44 [.fn 16 [.addr 3]])]⟩
def slices_ContainsFunc_2_out : Shape := ⟨[.bool, (.list (.list .bool))], [(0, .v 0)], [(100000, .box 44 [.fn 16 [.addr 1]])]⟩
noncomputable def slices_ContainsFunc_2_ce : CE := ⟨21, slices_ContainsFunc_2_sig, slices_ContainsFunc_2_out, fun X => slices_ContainsFunc_2 X.1 X.2.1 X.2.2.1 X.2.2.2⟩
theorem slices_ContainsFunc_2_ok : CE.ok Try.prog slices_ContainsFunc_2_ce := CE.of (Γ := [slices_IndexFunc_4_ce]) (by kernel_rfl) TT_ok (GOK.cons slices_IndexFunc_4_ok (GOK.nil)) ⟨[], [], [], []⟩ Try.func21 rfl Try.ntmps21 (rs := [.tmp 4]) rfl (sig := slices_ContainsFunc_2_sig) (out := slices_ContainsFunc_2_out) rfl Try.call21 (fun X => by kernel_rfl)

def same_answered_2_sig : Shape := ⟨[(.pair (.int .i64) (.pair (.int .i64) (.pair (.list (.pair (.int .i64) (.pair (.int .i64) (.pair (.int .i64) .unit)))) .unit))), (.int .i64), (.int .i64), (.list (.list .bool))], [(0, .v 0), (1, .v 1), (2, .v 2), (3, .fn 16 [.addr 3])], []⟩
def same_answered_2_out : Shape := ⟨[.bool], [(0, .v 0)], []⟩
noncomputable def same_answered_2_ce : CE := ⟨15, same_answered_2_sig, same_answered_2_out, fun X => same_answered_2 X.1 X.2.1 X.2.2.1 X.2.2.2⟩
theorem same_answered_2_ok : CE.ok Try.prog same_answered_2_ce := CE.of (Γ := [slices_ContainsFunc_2_ce]) (by kernel_rfl) TT_ok (GOK.cons slices_ContainsFunc_2_ok (GOK.nil)) ⟨[(2, ⟨⟨[(.int .i64), (.int .i64), (.list (.list .bool))], [(6, .addr 0), (7, .ptr 2 0), (14, .v 1)], [(2, .box 44 [.fn 16 [.addr 2]])]⟩, [8, 10, 15, 16, 17, 18, 19, 20, 21, 22, 23, 24, 25, 26, 27, 28, 29], [1], [0], 3, [(6, 999999, none, (.int .i64))]⟩)], [], [], []⟩ Try.func15 rfl Try.ntmps15 (rs := [.tmp 8]) rfl (sig := same_answered_2_sig) (out := same_answered_2_out) rfl Try.call15 (fun X => by kernel_rfl)

def same_Serves_sig : Shape := ⟨[(.pair (.int .i64) (.pair (.int .i64) (.pair (.list (.pair (.int .i64) (.pair (.int .i64) (.pair (.int .i64) .unit)))) .unit)))], [(0, .v 0)], []⟩
def same_Serves_out : Shape := ⟨[(.list (.list .bool)), (.int .i64)], [(0, .v 0), (1, .v 1)], []⟩
noncomputable def same_Serves_ce : CE := ⟨5, same_Serves_sig, same_Serves_out, fun X => same_Serves X⟩
theorem same_Serves_ok : CE.ok Try.prog same_Serves_ce := CE.of (Γ := [same_Check_ce, slices_Repeat_ce, same_answered_2_ce]) (by kernel_rfl) TT_ok (GOK.cons same_Check_ok (GOK.cons slices_Repeat_ok (GOK.cons same_answered_2_ok (GOK.nil)))) ⟨[(6, ⟨⟨[(.int .i64), (.list (.list .bool))], [(5, .ptr 3 0), (20, .v 0)], [(3, .box 29 [.own 1]), (1, .out 2 41 4 1)]⟩, [6, 17, 18, 21, 22, 23, 24, 25, 26, 27, 28, 29, 30], [], [0], 4, []⟩), (11, ⟨⟨[.bool, (.list (.list .bool))], [(5, .ptr 3 0), (7, .v 0)], [(3, .box 29 [.own 1]), (1, .out 2 41 4 1)]⟩, [8, 9, 31, 32, 33, 34, 35, 36, 37, 38, 39, 40, 41, 42, 43, 44, 45, 46, 47, 48, 49, 50, 51, 52, 53, 54, 55, 56, 57, 58, 59, 60, 61, 62, 63, 64], [], [0], 4, []⟩), (14, ⟨⟨[.bool, (.int .i64), (.list (.list .bool))], [(5, .ptr 3 0), (7, .v 0), (34, .v 1)], [(3, .box 29 [.own 1]), (1, .out 2 41 4 2)]⟩, [8, 9, 32, 35, 36, 37, 38, 39, 40, 41, 42, 43, 44, 45, 46, 47, 48, 49, 50, 51, 52, 53, 54, 55, 56, 57, 58, 59, 60, 61, 62, 63, 64], [], [0], 4, []⟩), (17, ⟨⟨[.bool, (.int .i64), (.list (.list .bool))], [(5, .ptr 3 0), (7, .v 0), (39, .v 1)], [(3, .box 29 [.own 1]), (1, .out 2 41 4 2)]⟩, [9, 37, 40, 41, 42, 43, 44, 45, 46, 47, 48, 49, 50, 51, 52, 53, 54, 55, 56, 57, 58, 59, 60, 61, 62, 63], [], [0], 4, []⟩)], [(19, ⟨⟨[.bool], [(56, .v 0)], []⟩, [42, 43, 44, 45, 46, 47, 48, 49, 50, 51, 52, 53, 54, 55], [], [0, 1, 3, 2], 4, []⟩)], [(4, [(0, 0), (0, 1), (4, 2), (2, 3), (2, 4)]), (8, [(0, 0), (0, 1), (0, 3), (0, 4), (1, 2), (1, 5), (0, 6), (4, 7)]), (20, [(0, 0), (0, 1), (0, 2), (0, 3), (0, 4), (0, 5), (4, 6), (0, 7)])], []⟩ Try.func5 rfl Try.ntmps5 (rs := [.tmp 2, .tmp 3]) rfl (sig := same_Serves_sig) (out := same_Serves_out) rfl Try.call5 (fun X => by kernel_rfl)

def r20_Ahead_sig : Shape := ⟨[(.pair (.int .i64) (.pair (.int .i64) (.pair (.int .i64) .unit))), (.pair (.int .i64) (.pair (.int .i64) (.pair (.int .i64) .unit)))], [(0, .v 0), (1, .v 1)], []⟩
def r20_Ahead_out : Shape := ⟨[.bool], [(0, .v 0)], []⟩
noncomputable def r20_Ahead_ce : CE := ⟨17, r20_Ahead_sig, r20_Ahead_out, fun X => r20_Ahead X.1 X.2⟩
theorem r20_Ahead_ok : CE.ok Try.prog r20_Ahead_ce := CE.of (Γ := []) (by kernel_rfl) TT_ok (GOK.nil) ⟨[], [], [], []⟩ Try.func17 rfl Try.ntmps17 (rs := [.tmp 4]) rfl (sig := r20_Ahead_sig) (out := r20_Ahead_out) rfl Try.call17 (fun X => by kernel_rfl)

def r20_Check_sig : Shape := ⟨[(.pair (.int .i64) (.pair (.int .i64) (.pair (.list (.pair (.int .i64) (.pair (.int .i64) (.pair (.int .i64) .unit)))) .unit)))], [(0, .v 0)], []⟩
def r20_Check_out : Shape := ⟨[(.int .i64)], [(0, .v 0)], []⟩
noncomputable def r20_Check_ce : CE := ⟨6, r20_Check_sig, r20_Check_out, fun X => r20_Check X⟩
theorem r20_Check_ok : CE.ok Try.prog r20_Check_ce := CE.of (Γ := [r20_Ahead_ce]) (by kernel_rfl) TT_ok (GOK.cons r20_Ahead_ok (GOK.nil)) ⟨[(6, ⟨⟨[(.int .i64)], [(3, .v 0)], []⟩, [2, 4, 29, 30, 31, 32, 33, 34, 35, 36, 37, 38, 39, 40, 41, 42, 43, 44, 45, 46, 47, 48, 49, 50, 51, 52, 53, 54, 55, 56, 57, 58, 59, 60, 61, 62, 63, 64, 65, 66, 67, 68, 69, 70, 71, 72, 73, 74], [], [0], 1, []⟩), (12, ⟨⟨[(.int .i64)], [(5, .v 0)], []⟩, [2, 6, 75, 76, 77, 78, 79, 80, 81, 82, 83, 84, 85, 86, 87, 88, 89, 90, 91, 92, 93, 94, 95], [], [0], 1, []⟩)], [], [(14, [(0, 0), (0, 1), (0, 2), (0, 3), (0, 4), (0, 5), (0, 6), (0, 7), (0, 8), (0, 9), (0, 10), (1, 11), (0, 12)])], []⟩ Try.func6 rfl Try.ntmps6 (rs := [.tmp 2]) rfl (sig := r20_Check_sig) (out := r20_Check_out) rfl Try.call6 (fun X => by kernel_rfl)

def r20_Answers_sig : Shape := ⟨[(.pair (.int .i64) (.pair (.int .i64) (.pair (.list (.pair (.int .i64) (.pair (.int .i64) (.pair (.int .i64) .unit)))) .unit))), (.list (.list .bool)), (.int .i64), (.int .i64)], [(0, .v 0), (1, .v 1), (2, .v 2), (3, .v 3)], []⟩
def r20_Answers_out : Shape := ⟨[.bool], [(0, .v 0)], []⟩
noncomputable def r20_Answers_ce : CE := ⟨18, r20_Answers_sig, r20_Answers_out, fun X => r20_Answers X.1 X.2.1 X.2.2.1 X.2.2.2⟩
theorem r20_Answers_ok : CE.ok Try.prog r20_Answers_ce := CE.of (Γ := []) (by kernel_rfl) TT_ok (GOK.nil) ⟨[(2, ⟨⟨[(.int .i64)], [(9, .v 0)], []⟩, [8, 10, 11, 12, 13, 14, 15, 16, 17, 18, 19, 20, 21, 22, 23, 24, 25, 26, 27, 28, 29, 30, 31, 32, 33, 34, 35, 36, 37, 38, 39, 40, 41, 42, 43, 44, 45, 46, 47, 48, 49, 50, 51, 52, 53, 54, 55, 56, 57, 58, 59, 60, 61, 62, 63, 64, 65, 66, 67, 68], [], [0], 1, []⟩), (8, ⟨⟨[.bool, (.int .i64)], [(11, .v 0), (12, .v 1)], []⟩, [13, 30, 31, 32, 33, 34, 35, 36, 37, 38, 39, 40, 41, 42, 43, 44, 45, 46, 47, 48, 49, 50, 51, 52, 53, 54, 55, 56, 57, 58, 59, 60, 61, 62, 63, 64, 65, 66], [], [0, 1], 2, []⟩)], [], [(11, [(0, 0), (0, 1), (0, 2), (0, 3), (0, 4), (0, 5), (0, 6), (0, 7), (0, 8), (0, 9), (0, 10), (0, 11), (0, 12), (0, 13), (0, 14), (0, 15), (0, 16), (0, 17), (0, 18), (0, 19), (0, 20), (0, 21), (0, 22), (0, 23), (0, 24), (0, 25)])], []⟩ Try.func18 rfl Try.ntmps18 (rs := [.tmp 8]) rfl (sig := r20_Answers_sig) (out := r20_Answers_out) rfl Try.call18 (fun X => by kernel_rfl)

def r20_Table_sig : Shape := ⟨[(.pair (.int .i64) (.pair (.int .i64) (.pair (.list (.pair (.int .i64) (.pair (.int .i64) (.pair (.int .i64) .unit)))) .unit))), .bool], [(0, .v 0), (1, .v 1)], []⟩
def r20_Table_out : Shape := ⟨[(.list (.list .bool))], [(0, .v 0)], []⟩
noncomputable def r20_Table_ce : CE := ⟨8, r20_Table_sig, r20_Table_out, fun X => r20_Table X.1 X.2⟩
theorem r20_Table_ok : CE.ok Try.prog r20_Table_ce := CE.of (Γ := [r20_Answers_ce]) (by kernel_rfl) TT_ok (GOK.cons r20_Answers_ok (GOK.nil)) ⟨[(3, ⟨⟨[(.int .i64), (.list (.list .bool))], [(5, .own 1), (6, .v 0)], [(1, .out 2 41 4 1)]⟩, [7, 8, 13, 14, 15, 16, 17, 18, 19, 20, 21, 22, 23, 24, 25, 26, 27, 28, 29, 30, 31, 32, 33, 34], [], [0], 3, []⟩), (7, ⟨⟨[(.int .i64), (.list .bool)], [(7, .own 3), (8, .v 0)], [(3, .arr 4 1)]⟩, [21, 22, 23, 24, 25, 26, 27, 28, 29, 30], [], [0, 1, 2], 4, []⟩), (12, ⟨⟨[.bool, (.list (.list .bool))], [(5, .own 1), (9, .v 0)], [(1, .out 2 41 4 1)]⟩, [10, 11, 12, 35, 36, 37, 38, 39, 40, 41, 42, 43, 44, 45, 46, 47, 48, 49, 50, 51, 52, 53, 54, 55, 56, 57, 58, 59, 60, 61, 62, 63, 64, 65, 66, 67, 68, 69, 70, 71, 72, 73, 74, 75, 76, 77, 78, 79], [], [0], 3, []⟩), (15, ⟨⟨[.bool, (.int .i64), (.list (.list .bool))], [(5, .own 1), (9, .v 0), (10, .v 1)], [(1, .out 2 41 4 2)]⟩, [11, 12, 36, 37, 38, 39, 40, 41, 42, 43, 44, 45, 46, 47, 48, 49, 50, 51, 52, 53, 54, 55, 56, 57, 58, 59, 60, 61, 62, 63, 64, 65, 66, 67, 68, 69, 70, 71, 72, 73, 74, 75, 76, 77, 78, 79], [], [0], 3, []⟩), (18, ⟨⟨[.bool, (.int .i64), (.list (.list .bool))], [(5, .own 1), (9, .v 0), (11, .v 1)], [(1, .out 2 41 4 2)]⟩, [12, 42, 43, 44, 45, 46, 47, 48, 49, 50, 51, 52, 53, 54, 55, 56, 57, 58, 59, 60, 61, 62, 63, 64, 65, 66, 67, 68, 69, 70, 71, 72, 73, 74, 75, 76, 77, 78, 79], [], [0], 3, []⟩)], [(22, ⟨⟨[.bool], [(64, .v 0)], []⟩, [51, 53, 61, 62, 63], [], [0, 1, 2], 3, []⟩), (23, ⟨⟨[.bool], [(12, .v 0)], []⟩, [51, 53, 61, 62, 63, 64, 65, 66, 67, 68, 69, 70, 71], [], [0, 1, 2], 3, []⟩)], [(10, [(0, 0), (0, 1), (4, 2), (4, 3), (0, 4)]), (25, [(0, 0), (0, 1), (0, 2), (0, 3), (0, 4), (0, 5), (4, 6)])], []⟩ Try.func8 rfl Try.ntmps8 (rs := [.tmp 4]) rfl (sig := r20_Table_sig) (out := r20_Table_out) rfl Try.call8 (fun X => by kernel_rfl)

def r20_Classes_sig : Shape := ⟨[(.pair (.int .i64) (.pair (.int .i64) (.pair (.list (.pair (.int .i64) (.pair (.int .i64) (.pair (.int .i64) .unit)))) .unit)))], [(0, .v 0)], []⟩
def r20_Classes_out : Shape := ⟨[(.list (.int .i64))], [(0, .own 0)], [(0, .arr 3 0)]⟩
noncomputable def r20_Classes_ce : CE := ⟨7, r20_Classes_sig, r20_Classes_out, fun X => r20_Classes X⟩
theorem r20_Classes_ok : CE.ok Try.prog r20_Classes_ce := CE.of (Γ := [r20_Table_ce]) (by kernel_rfl) TT_ok (GOK.cons r20_Table_ok (GOK.nil)) ⟨[(5, ⟨⟨[(.int .i64), (.int .i64), (.list (.int .i64))], [(4, .own 1), (5, .v 0), (6, .v 1)], [(1, .arr 3 2)]⟩, [7, 8, 11, 12, 13, 14, 15, 16, 17, 18, 19, 20, 21, 22, 23, 24, 25, 26, 27, 28, 29, 30, 31, 32, 33, 34, 35, 36, 37, 38, 39, 40, 41, 42], [], [0], 2, []⟩), (9, ⟨⟨[(.int .i64), (.int .i64)], [(7, .v 0), (8, .v 1)], []⟩, [18, 19, 20, 21, 22, 23, 24, 25, 26, 27, 28, 29, 30, 31, 32, 33], [], [0, 1], 2, []⟩)], [(10, ⟨⟨[(.int .i64)], [(7, .v 0)], []⟩, [8, 18, 19, 20, 21, 22, 23, 24, 25, 26, 27, 28, 29, 30, 31, 32, 33], [], [0, 1], 2, []⟩)], [], []⟩ Try.func7 rfl Try.ntmps7 (rs := [.tmp 2]) rfl (sig := r20_Classes_sig) (out := r20_Classes_out) rfl Try.call7 (fun X => by kernel_rfl)

def r1_Words_sig : Shape := ⟨[(.list (.int .i64)), (.list (.int .i64))], [(0, .v 0), (1, .v 1)], []⟩
def r1_Words_out : Shape := ⟨[.bool], [(0, .v 0)], []⟩
noncomputable def r1_Words_ce : CE := ⟨9, r1_Words_sig, r1_Words_out, fun X => r1_Words X.1 X.2⟩
theorem r1_Words_ok : CE.ok Try.prog r1_Words_ce := CE.of (Γ := []) (by kernel_rfl) TT_ok (GOK.nil) ⟨[(4, ⟨⟨[(.int .i64)], [(5, .v 0)], []⟩, [4, 11, 12, 13, 14, 15, 16, 17, 18, 19, 20, 21, 22, 23, 24, 25], [], [], 0, []⟩)], [], [(6, [(0, 0), (0, 1), (0, 2), (0, 3), (0, 4), (0, 5), (0, 6), (0, 7), (0, 8)])], []⟩ Try.func9 rfl Try.ntmps9 (rs := [.tmp 4]) rfl (sig := r1_Words_sig) (out := r1_Words_out) rfl Try.call9 (fun X => by kernel_rfl)

def r20_Bools_sig : Shape := ⟨[(.list .bool), (.list .bool)], [(0, .v 0), (1, .v 1)], []⟩
def r20_Bools_out : Shape := ⟨[.bool], [(0, .v 0)], []⟩
noncomputable def r20_Bools_ce : CE := ⟨19, r20_Bools_sig, r20_Bools_out, fun X => r20_Bools X.1 X.2⟩
theorem r20_Bools_ok : CE.ok Try.prog r20_Bools_ce := CE.of (Γ := []) (by kernel_rfl) TT_ok (GOK.nil) ⟨[(4, ⟨⟨[(.int .i64)], [(5, .v 0)], []⟩, [4, 11, 12, 13, 14, 15, 16, 17, 18, 19, 20, 21, 22, 23, 24, 25], [], [], 0, []⟩)], [], [(6, [(0, 0), (0, 1), (0, 2), (0, 3), (0, 4), (0, 5), (0, 6), (0, 7), (0, 8)])], []⟩ Try.func19 rfl Try.ntmps19 (rs := [.tmp 4]) rfl (sig := r20_Bools_sig) (out := r20_Bools_out) rfl Try.call19 (fun X => by kernel_rfl)

def r20_Rows_sig : Shape := ⟨[(.list (.list .bool)), (.list (.list .bool))], [(0, .v 0), (1, .v 1)], []⟩
def r20_Rows_out : Shape := ⟨[.bool], [(0, .v 0)], []⟩
noncomputable def r20_Rows_ce : CE := ⟨10, r20_Rows_sig, r20_Rows_out, fun X => r20_Rows X.1 X.2⟩
theorem r20_Rows_ok : CE.ok Try.prog r20_Rows_ce := CE.of (Γ := [r20_Bools_ce]) (by kernel_rfl) TT_ok (GOK.cons r20_Bools_ok (GOK.nil)) ⟨[(4, ⟨⟨[(.int .i64)], [(5, .v 0)], []⟩, [4, 6, 12, 13, 14, 15, 16, 17, 18, 19, 20, 21, 22, 23, 24, 25, 26, 27, 28], [], [], 0, []⟩)], [], [(6, [(0, 0), (0, 1), (0, 2), (0, 3), (0, 4), (0, 5), (0, 6), (0, 7), (1, 8), (0, 9)])], []⟩ Try.func10 rfl Try.ntmps10 (rs := [.tmp 4]) rfl (sig := r20_Rows_sig) (out := r20_Rows_out) rfl Try.call10 (fun X => by kernel_rfl)

def law_SameClasses_sig : Shape := ⟨[(.pair (.int .i64) (.pair (.int .i64) (.pair (.list (.pair (.int .i64) (.pair (.int .i64) (.pair (.int .i64) .unit)))) .unit)))], [(0, .v 0)], []⟩
def law_SameClasses_out : Shape := ⟨[.bool], [(0, .v 0)], []⟩
noncomputable def law_SameClasses_ce : CE := ⟨3, law_SameClasses_sig, law_SameClasses_out, fun X => law_SameClasses X⟩
theorem law_SameClasses_ok : CE.ok Try.prog law_SameClasses_ce := CE.of (Γ := [same_Classes_ce, same_Serves_ce, r20_Check_ce, r20_Classes_ce, r20_Table_ce, r1_Words_ce, r20_Rows_ce]) (by kernel_rfl) TT_ok (GOK.cons same_Classes_ok (GOK.cons same_Serves_ok (GOK.cons r20_Check_ok (GOK.cons r20_Classes_ok (GOK.cons r20_Table_ok (GOK.cons r1_Words_ok (GOK.cons r20_Rows_ok (GOK.nil)))))))) ⟨[], [], [], []⟩ Try.func3 rfl Try.ntmps3 (rs := [.tmp 2]) rfl (sig := law_SameClasses_sig) (out := law_SameClasses_out) rfl Try.call3 (fun X => by kernel_rfl)

end Go.Proofs.Ythfhjngmkbfjpaa.sameClassesW
