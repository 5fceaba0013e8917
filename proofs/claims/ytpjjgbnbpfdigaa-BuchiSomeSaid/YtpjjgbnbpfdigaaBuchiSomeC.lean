/- That the functions of 'BuchiSome' compute so. -/
import Derived.Test.YtpjjgbnbpfdigaaBuchiSomeD
import Derived.Test.YtpjjgbnbpfdigaaProg
import Derived.KernelRfl
set_option maxHeartbeats 1000000
set_option maxRecDepth 20000
set_option linter.unusedSimpArgs false
set_option linter.unusedVariables false
set_option linter.unusedSectionVars false
namespace Go.Proofs.Ytpjjgbnbpfdigaa.buchiSomeW
open Go Go.Ab
theorem te3_sz : SzT Try.prog 3 ((.int .i64)) := SzT.ofTI (dsc := false) (size := 1) (bytes := 8) (z := .int .i64 0) (TI.of Try.underlying3 rfl (by kernel_rfl)) rfl rfl
theorem te43_sz : SzT Try.prog 43 ((.pair (.int .i64) (.pair (.int .i64) (.pair (.int .i64) .unit)))) := SzT.ofTI (dsc := true) (size := 3) (bytes := 24) (z := .agg ⟨[.int .i64 0, .int .i64 0, .int .i64 0]⟩) (TI.of Try.underlying43 rfl (by kernel_rfl)) rfl rfl
def te3 : TE := ⟨3, .int .i64, false, 1, 8, .int .i64 0, some (.int .i64)⟩
theorem te3_ok : TEok Try.prog te3 := ⟨TI.of Try.underlying3 rfl (by kernel_rfl), Try.underlying3, fun t h => by cases h; exact ⟨rfl, rfl, by decide, rfl⟩⟩
def te4 : TE := ⟨4, .bool, false, 1, 1, .bool false, some .bool⟩
theorem te4_ok : TEok Try.prog te4 := ⟨TI.of Try.underlying4 rfl (by kernel_rfl), Try.underlying4, fun t h => by cases h; exact ⟨rfl, rfl, by decide, rfl⟩⟩
def te22 : TE := ⟨22, .slice 3, false, 1, 24, .slice none 0 0, some (.list (.int .i64))⟩
theorem te22_ok : TEok Try.prog te22 := ⟨TI.of Try.underlying22 rfl (by kernel_rfl), Try.underlying22, fun t h => by cases h; exact ⟨rfl, rfl, by decide, rfl⟩⟩
def te23 : TE := ⟨23, .slice 43, false, 1, 24, .slice none 0 0, some (.list (.pair (.int .i64) (.pair (.int .i64) (.pair (.int .i64) .unit))))⟩
theorem te23_ok : TEok Try.prog te23 := ⟨TI.of Try.underlying23 rfl (by kernel_rfl), Try.underlying23, fun t h => by cases h; exact ⟨rfl, rfl, by decide, rfl⟩⟩
def te25 : TE := ⟨25, .struct [(0, 3), (1, 3), (2, 22), (3, 23), (4, 22)] none, true, 5, 88, .agg ⟨[.int .i64 0, .int .i64 0, .slice none 0 0, .slice none 0 0, .slice none 0 0]⟩, some (.pair (.int .i64) (.pair (.int .i64) (.pair (.list (.int .i64)) (.pair (.list (.pair (.int .i64) (.pair (.int .i64) (.pair (.int .i64) .unit)))) (.pair (.list (.int .i64)) .unit)))))⟩
theorem te25_ok : TEok Try.prog te25 := ⟨TI.of Try.underlying25 rfl (by kernel_rfl), ⟨⟨_, Try.underlying25, rfl⟩, fun t h => by cases h⟩, fun t h => by cases h; exact ⟨rfl, rfl, by decide, rfl⟩⟩
def te27 : TE := ⟨27, .struct [(0, 22), (1, 22)] none, true, 2, 48, .agg ⟨[.slice none 0 0, .slice none 0 0]⟩, some (.pair (.list (.int .i64)) (.pair (.list (.int .i64)) .unit))⟩
theorem te27_ok : TEok Try.prog te27 := ⟨TI.of Try.underlying27 rfl (by kernel_rfl), ⟨⟨_, Try.underlying27, rfl⟩, fun t h => by cases h⟩, fun t h => by cases h; exact ⟨rfl, rfl, by decide, rfl⟩⟩
def te29 : TE := ⟨29, .int .i64, false, 1, 8, .int .i64 0, some (.int .i64)⟩
theorem te29_ok : TEok Try.prog te29 := ⟨TI.of Try.underlying29 rfl (by kernel_rfl), Try.underlying29, fun t h => by cases h; exact ⟨rfl, rfl, by decide, rfl⟩⟩
def te43 : TE := ⟨43, .struct [(0, 3), (1, 3), (2, 3)] (some (.pair (.int .i64) (.pair (.int .i64) (.pair (.int .i64) .unit)))), true, 3, 24, .agg ⟨[.int .i64 0, .int .i64 0, .int .i64 0]⟩, some (.pair (.int .i64) (.pair (.int .i64) (.pair (.int .i64) .unit)))⟩
theorem te43_ok : TEok Try.prog te43 := ⟨TI.of Try.underlying43 rfl (by kernel_rfl), ⟨⟨_, Try.underlying43, rfl⟩, fun t h => by cases h; exact ⟨rfl, rfl, (KeyT.struct te43_sz Try.underlying43 (by kernel_rfl) (KFs.cons (by decide) rfl (KeyT.int te3_sz Try.underlying3) (KFs.cons (by decide) rfl (KeyT.int te3_sz Try.underlying3) (KFs.cons (by decide) rfl (KeyT.int te3_sz Try.underlying3) KFs.nil)))), by kernel_rfl⟩⟩, fun t h => by cases h; exact ⟨rfl, rfl, by decide, rfl⟩⟩
def te46 : TE := ⟨46, .slice 4, false, 1, 24, .slice none 0 0, some (.list .bool)⟩
theorem te46_ok : TEok Try.prog te46 := ⟨TI.of Try.underlying46 rfl (by kernel_rfl), Try.underlying46, fun t h => by cases h; exact ⟨rfl, rfl, by decide, rfl⟩⟩
def te50 : TE := ⟨50, .other, false, 1, 8, .nilFunc, none⟩
theorem te50_ok : TEok Try.prog te50 := ⟨TI.of Try.underlying50 rfl (by kernel_rfl), trivial, fun t h => by cases h⟩
def te57 : TE := ⟨57, .slice 60, false, 1, 24, .slice none 0 0, some (.list (.pair (.int .i64) (.pair (.int .i64) (.pair (.int .i64) .unit))))⟩
theorem te57_ok : TEok Try.prog te57 := ⟨TI.of Try.underlying57 rfl (by kernel_rfl), Try.underlying57, fun t h => by cases h; exact ⟨rfl, rfl, by decide, rfl⟩⟩
def te58 : TE := ⟨58, .slice 23, false, 1, 24, .slice none 0 0, some (.list (.list (.pair (.int .i64) (.pair (.int .i64) (.pair (.int .i64) .unit)))))⟩
theorem te58_ok : TEok Try.prog te58 := ⟨TI.of Try.underlying58 rfl (by kernel_rfl), Try.underlying58, fun t h => by cases h; exact ⟨rfl, rfl, by decide, rfl⟩⟩
def te60 : TE := ⟨60, .struct [(0, 3), (1, 3), (2, 3)] none, true, 3, 24, .agg ⟨[.int .i64 0, .int .i64 0, .int .i64 0]⟩, some (.pair (.int .i64) (.pair (.int .i64) (.pair (.int .i64) .unit)))⟩
theorem te60_ok : TEok Try.prog te60 := ⟨TI.of Try.underlying60 rfl (by kernel_rfl), ⟨⟨_, Try.underlying60, rfl⟩, fun t h => by cases h⟩, fun t h => by cases h; exact ⟨rfl, rfl, by decide, rfl⟩⟩
def TT : List TE := [te3, te4, te22, te23, te25, te27, te29, te43, te46, te50, te57, te58, te60]
theorem TT_ok : TOK Try.prog TT := TOK.cons te3_ok (TOK.cons te4_ok (TOK.cons te22_ok (TOK.cons te23_ok (TOK.cons te25_ok (TOK.cons te27_ok (TOK.cons te29_ok (TOK.cons te43_ok (TOK.cons te46_ok (TOK.cons te50_ok (TOK.cons te57_ok (TOK.cons te58_ok (TOK.cons te60_ok (TOK.nil)))))))))))))

def law_list_sig : Shape := ⟨[(.list (.int .i64))], [(0, .v 0)], []⟩
def law_list_out : Shape := ⟨[(.list (.int .i64))], [(0, .own 0)], [(0, .arr 3 0)]⟩
noncomputable def law_list_ce : CE := ⟨12, law_list_sig, law_list_out, fun X => law_list X⟩
theorem law_list_ok : CE.ok Try.prog law_list_ce := CE.of (Γ := []) (by kernel_rfl) TT_ok (GOK.nil) ⟨[], [], [], []⟩ Try.func12 rfl Try.ntmps12 (rs := [.tmp 2]) rfl (sig := law_list_sig) (out := law_list_out) rfl Try.call12 (fun X => by kernel_rfl)

def law_auto_sig : Shape := ⟨[(.pair (.int .i64) (.pair (.int .i64) (.pair (.list (.int .i64)) (.pair (.list (.pair (.int .i64) (.pair (.int .i64) (.pair (.int .i64) .unit)))) (.pair (.list (.int .i64)) .unit)))))], [(0, .v 0)], []⟩
def law_auto_out : Shape := ⟨[(.pair (.int .i64) (.pair (.int .i64) (.pair (.list (.int .i64)) (.pair (.list (.pair (.int .i64) (.pair (.int .i64) (.pair (.int .i64) .unit)))) (.pair (.list (.int .i64)) .unit)))))], [(0, .v 0)], []⟩
noncomputable def law_auto_ce : CE := ⟨4, law_auto_sig, law_auto_out, fun X => law_auto X⟩
theorem law_auto_ok : CE.ok Try.prog law_auto_ce := CE.of (Γ := [law_list_ce]) (by kernel_rfl) TT_ok (GOK.cons law_list_ok (GOK.nil)) ⟨[], [], [], []⟩ Try.func4 rfl Try.ntmps4 (rs := [.cell 2 25]) rfl (sig := law_auto_sig) (out := law_auto_out) rfl Try.call4 (fun X => by kernel_rfl)

def buchi_Check_1_sig : Shape := ⟨[(.int .i64), (.pair (.int .i64) (.pair (.int .i64) (.pair (.list (.int .i64)) (.pair (.list (.pair (.int .i64) (.pair (.int .i64) (.pair (.int .i64) .unit)))) (.pair (.list (.int .i64)) .unit)))))], [(0, .v 0), (1, .addr 1)], []⟩
def buchi_Check_1_out : Shape := ⟨[.bool], [(0, .v 0)], []⟩
noncomputable def buchi_Check_1_ce : CE := ⟨21, buchi_Check_1_sig, buchi_Check_1_out, fun X => buchi_Check_1 X.1 X.2⟩
theorem buchi_Check_1_ok : CE.ok Try.prog buchi_Check_1_ce := CE.of (Γ := []) (by kernel_rfl) TT_ok (GOK.nil) ⟨[], [], [], []⟩ Try.func21 rfl Try.ntmps21 (rs := [.tmp 3]) rfl (sig := buchi_Check_1_sig) (out := buchi_Check_1_out) rfl Try.call21 (fun X => by kernel_rfl)

def slices_IndexFunc_sig : Shape := ⟨[(.list (.int .i64)), (.pair (.int .i64) (.pair (.int .i64) (.pair (.list (.int .i64)) (.pair (.list (.pair (.int .i64) (.pair (.int .i64) (.pair (.int .i64) .unit)))) (.pair (.list (.int .i64)) .unit)))))], [(0, .v 0), (1, .fn 21 [.addr 1])], []⟩
def slices_IndexFunc_out : Shape := ⟨[(.int .i64)], [(0, .v 0)], []⟩
noncomputable def slices_IndexFunc_ce : CE := ⟨30, slices_IndexFunc_sig, slices_IndexFunc_out, fun X => slices_IndexFunc X.1 X.2⟩
theorem slices_IndexFunc_ok : CE.ok Try.prog slices_IndexFunc_ce := CE.of (Γ := [buchi_Check_1_ce]) (by kernel_rfl) TT_ok (GOK.cons buchi_Check_1_ok (GOK.nil)) ⟨[(2, ⟨⟨[(.int .i64)], [(8, .v 0)], []⟩, [4, 5, 9, 10, 11, 12, 13, 14, 15, 16, 17, 18], [], [], 0, []⟩)], [], [], []⟩ Try.func30 rfl Try.ntmps30 (rs := [.tmp 4]) rfl (sig := slices_IndexFunc_sig) (out := slices_IndexFunc_out) rfl Try.call30 (fun X => by kernel_rfl)

def slices_ContainsFunc_sig : Shape := ⟨[(.list (.int .i64)), (.pair (.int .i64) (.pair (.int .i64) (.pair (.list (.int .i64)) (.pair (.list (.pair (.int .i64) (.pair (.int .i64) (.pair (.int .i64) .unit)))) (.pair (.list (.int .i64)) .unit)))))], [(0, .v 0), (1, .fn 21 [.addr 1])], []⟩
def slices_ContainsFunc_out : Shape := ⟨[.bool], [(0, .v 0)], []⟩
noncomputable def slices_ContainsFunc_ce : CE := ⟨22, slices_ContainsFunc_sig, slices_ContainsFunc_out, fun X => slices_ContainsFunc X.1 X.2⟩
theorem slices_ContainsFunc_ok : CE.ok Try.prog slices_ContainsFunc_ce := CE.of (Γ := [slices_IndexFunc_ce]) (by kernel_rfl) TT_ok (GOK.cons slices_IndexFunc_ok (GOK.nil)) ⟨[], [], [], []⟩ Try.func22 rfl Try.ntmps22 (rs := [.tmp 4]) rfl (sig := slices_ContainsFunc_sig) (out := slices_ContainsFunc_out) rfl Try.call22 (fun X => by kernel_rfl)

def buchi_Check_2_sig : Shape := ⟨[(.pair (.int .i64) (.pair (.int .i64) (.pair (.int .i64) .unit))), (.pair (.int .i64) (.pair (.int .i64) (.pair (.list (.int .i64)) (.pair (.list (.pair (.int .i64) (.pair (.int .i64) (.pair (.int .i64) .unit)))) (.pair (.list (.int .i64)) .unit))))), (.pair (.int .i64) (.pair (.int .i64) (.pair (.list (.int .i64)) (.pair (.list (.pair (.int .i64) (.pair (.int .i64) (.pair (.int .i64) .unit)))) (.pair (.list (.int .i64)) .unit)))))], [(0, .v 0), (1, .ptr 100000 0), (2, .addr 1)], [(100000, .box 50 [.fn 21 [.addr 2]])]⟩
def buchi_Check_2_out : Shape := ⟨[.bool, (.pair (.int .i64) (.pair (.int .i64) (.pair (.list (.int .i64)) (.pair (.list (.pair (.int .i64) (.pair (.int .i64) (.pair (.int .i64) .unit)))) (.pair (.list (.int .i64)) .unit)))))], [(0, .v 0)], [(100000, .box 50 [.fn 21 [.addr 1]])]⟩
noncomputable def buchi_Check_2_ce : CE := ⟨24, buchi_Check_2_sig, buchi_Check_2_out, fun X => buchi_Check_2 X.1 X.2.1 X.2.2⟩
theorem buchi_Check_2_ok : CE.ok Try.prog buchi_Check_2_ce := CE.of (Γ := [buchi_Check_1_ce]) (by kernel_rfl) TT_ok (GOK.cons buchi_Check_1_ok (GOK.nil)) ⟨[], [], [], []⟩ Try.func24 rfl Try.ntmps24 (rs := [.tmp 4]) rfl (sig := buchi_Check_2_sig) (out := buchi_Check_2_out) rfl Try.call24 (fun X => by kernel_rfl)

def slices_IndexFunc_1_sig : Shape := ⟨[(.list (.pair (.int .i64) (.pair (.int .i64) (.pair (.int .i64) .unit)))), (.pair (.int .i64) (.pair (.int .i64) (.pair (.list (.int .i64)) (.pair (.list (.pair (.int .i64) (.pair (.int .i64) (.pair (.int .i64) .unit)))) (.pair (.list (.int .i64)) .unit))))), (.pair (.int .i64) (.pair (.int .i64) (.pair (.list (.int .i64)) (.pair (.list (.pair (.int .i64) (.pair (.int .i64) (.pair (.int .i64) .unit)))) (.pair (.list (.int .i64)) .unit)))))], [(0, .v 0), (1, .fn 24 [.ptr 100000 0, .addr 1])], [(100000, .box 50 [.fn 21 [.addr 2]])]⟩
def slices_IndexFunc_1_out : Shape := ⟨[(.int .i64), (.pair (.int .i64) (.pair (.int .i64) (.pair (.list (.int .i64)) (.pair (.list (.pair (.int .i64) (.pair (.int .i64) (.pair (.int .i64) .unit)))) (.pair (.list (.int .i64)) .unit)))))], [(0, .v 0)], [(100000, .box 50 [.fn 21 [.addr 1]])]⟩
noncomputable def slices_IndexFunc_1_ce : CE := ⟨31, slices_IndexFunc_1_sig, slices_IndexFunc_1_out, fun X => slices_IndexFunc_1 X.1 X.2.1 X.2.2⟩
theorem slices_IndexFunc_1_ok : CE.ok Try.prog slices_IndexFunc_1_ce := CE.of (Γ := [buchi_Check_2_ce]) (by kernel_rfl) TT_ok (GOK.cons buchi_Check_2_ok (GOK.nil)) ⟨[(2, ⟨⟨[(.pair (.int .i64) (.pair (.int .i64) (.pair (.list (.int .i64)) (.pair (.list (.pair (.int .i64) (.pair (.int .i64) (.pair (.int .i64) .unit)))) (.pair (.list (.int .i64)) .unit))))), (.int .i64), (.pair (.int .i64) (.pair (.int .i64) (.pair (.list (.int .i64)) (.pair (.list (.pair (.int .i64) (.pair (.int .i64) (.pair (.int .i64) .unit)))) (.pair (.list (.int .i64)) .unit)))))], [(1, .fn 24 [.ptr 100000 0, .addr 0]), (8, .v 1)], [(100000, .box 50 [.fn 21 [.addr 2]])]⟩, [4, 5, 9, 10, 11, 12, 13, 14, 15, 16, 17, 18], [], [], 0, []⟩)], [], [], []⟩ Try.func31 rfl Try.ntmps31 (rs := [.tmp 4]) rfl (sig := slices_IndexFunc_1_sig) (out := slices_IndexFunc_1_out) rfl Try.call31 (fun X => by kernel_rfl)

def slices_ContainsFunc_1_sig : Shape := ⟨[(.list (.pair (.int .i64) (.pair (.int .i64) (.pair (.int .i64) .unit)))), (.pair (.int .i64) (.pair (.int .i64) (.pair (.list (.int .i64)) (.pair (.list (.pair (.int .i64) (.pair (.int .i64) (.pair (.int .i64) .unit)))) (.pair (.list (.int .i64)) .unit))))), (.pair (.int .i64) (.pair (.int .i64) (.pair (.list (.int .i64)) (.pair (.list (.pair (.int .i64) (.pair (.int .i64) (.pair (.int .i64) .unit)))) (.pair (.list (.int .i64)) .unit)))))], [(0, .v 0), (1, .fn 24 [.ptr 100000 0, .addr 1])], [(100000, .box 50 [.fn 21 [.addr 2]])]⟩
def slices_ContainsFunc_1_out : Shape := ⟨[.bool, (.pair (.int .i64) (.pair (.int .i64) (.pair (.list (.int .i64)) (.pair (.list (.pair (.int .i64) (.pair (.int .i64) (.pair (.int .i64) .unit)))) (.pair (.list (.int .i64)) .unit)))))], [(0, .v 0)], [(100000, .box 50 [.fn 21 [.addr 1]])]⟩
noncomputable def slices_ContainsFunc_1_ce : CE := ⟨23, slices_ContainsFunc_1_sig, slices_ContainsFunc_1_out, fun X => slices_ContainsFunc_1 X.1 X.2.1 X.2.2⟩
theorem slices_ContainsFunc_1_ok : CE.ok Try.prog slices_ContainsFunc_1_ce := CE.of (Γ := [slices_IndexFunc_1_ce]) (by kernel_rfl) TT_ok (GOK.cons slices_IndexFunc_1_ok (GOK.nil)) ⟨[], [], [], []⟩ Try.func23 rfl Try.ntmps23 (rs := [.tmp 4]) rfl (sig := slices_ContainsFunc_1_sig) (out := slices_ContainsFunc_1_out) rfl Try.call23 (fun X => by kernel_rfl)

def buchi_rising_sig : Shape := ⟨[(.list (.int .i64))], [(0, .v 0)], []⟩
def buchi_rising_out : Shape := ⟨[.bool], [(0, .v 0)], []⟩
noncomputable def buchi_rising_ce : CE := ⟨25, buchi_rising_sig, buchi_rising_out, fun X => buchi_rising X⟩
theorem buchi_rising_ok : CE.ok Try.prog buchi_rising_ce := CE.of (Γ := []) (by kernel_rfl) TT_ok (GOK.nil) ⟨[(2, ⟨⟨[(.int .i64)], [(6, .v 0)], []⟩, [2, 3, 7, 8, 9, 10, 11, 12, 13, 14, 15, 16, 17, 18, 19, 20, 21, 22, 23], [], [], 0, []⟩)], [], [(4, [(0, 0), (0, 1), (0, 2), (0, 3), (0, 4), (0, 5), (0, 6), (0, 7), (0, 8), (0, 9), (0, 10), (0, 11), (0, 12), (0, 13)])], []⟩ Try.func25 rfl Try.ntmps25 (rs := [.tmp 2]) rfl (sig := buchi_rising_sig) (out := buchi_rising_out) rfl Try.call25 (fun X => by kernel_rfl)

def cmp_isNaN_sig : Shape := ⟨[(.int .i64)], [(0, .v 0)], []⟩
def cmp_isNaN_out : Shape := ⟨[.bool], [(0, .v 0)], []⟩
noncomputable def cmp_isNaN_ce : CE := ⟨35, cmp_isNaN_sig, cmp_isNaN_out, fun X => cmp_isNaN X⟩
theorem cmp_isNaN_ok : CE.ok Try.prog cmp_isNaN_ce := CE.of (Γ := []) (by kernel_rfl) TT_ok (GOK.nil) ⟨[], [], [], []⟩ Try.func35 rfl Try.ntmps35 (rs := [.tmp 2]) rfl (sig := cmp_isNaN_sig) (out := cmp_isNaN_out) rfl Try.call35 (fun X => by kernel_rfl)

def cmp_Compare_sig : Shape := ⟨[(.int .i64), (.int .i64)], [(0, .v 0), (1, .v 1)], []⟩
def cmp_Compare_out : Shape := ⟨[(.int .i64)], [(0, .v 0)], []⟩
noncomputable def cmp_Compare_ce : CE := ⟨33, cmp_Compare_sig, cmp_Compare_out, fun X => cmp_Compare X.1 X.2⟩
theorem cmp_Compare_ok : CE.ok Try.prog cmp_Compare_ce := CE.of (Γ := [cmp_isNaN_ce]) (by kernel_rfl) TT_ok (GOK.cons cmp_isNaN_ok (GOK.nil)) ⟨[], [], [], []⟩ Try.func33 rfl Try.ntmps33 (rs := [.tmp 4]) rfl (sig := cmp_Compare_sig) (out := cmp_Compare_out) rfl Try.call33 (fun X => by kernel_rfl)

def cmp_Or_sig : Shape := ⟨[(.list (.int .i64))], [(0, .v 0)], []⟩
def cmp_Or_out : Shape := ⟨[(.int .i64)], [(0, .v 0)], []⟩
noncomputable def cmp_Or_ce : CE := ⟨32, cmp_Or_sig, cmp_Or_out, fun X => cmp_Or X⟩
theorem cmp_Or_ok : CE.ok Try.prog cmp_Or_ce := CE.of (Γ := []) (by kernel_rfl) TT_ok (GOK.nil) ⟨[(3, ⟨⟨[(.int .i64)], [(8, .v 0)], []⟩, [2, 5, 9, 10, 11, 12, 13, 14, 15, 16], [], [], 0, []⟩)], [], [], []⟩ Try.func32 rfl Try.ntmps32 (rs := [.tmp 2]) rfl (sig := cmp_Or_sig) (out := cmp_Or_out) rfl Try.call32 (fun X => by kernel_rfl)

def buchi_order_sig : Shape := ⟨[(.pair (.int .i64) (.pair (.int .i64) (.pair (.int .i64) .unit))), (.pair (.int .i64) (.pair (.int .i64) (.pair (.int .i64) .unit)))], [(0, .v 0), (1, .v 1)], []⟩
def buchi_order_out : Shape := ⟨[(.int .i64)], [(0, .v 0)], []⟩
noncomputable def buchi_order_ce : CE := ⟨26, buchi_order_sig, buchi_order_out, fun X => buchi_order X.1 X.2⟩
theorem buchi_order_ok : CE.ok Try.prog buchi_order_ce := CE.of (Γ := [cmp_Compare_ce, cmp_Or_ce]) (by kernel_rfl) TT_ok (GOK.cons cmp_Compare_ok (GOK.cons cmp_Or_ok (GOK.nil))) ⟨[], [], [(1, [(0, 0), (0, 1), (0, 2), (0, 3), (0, 5), (0, 6), (0, 7), (0, 8), (0, 10), (0, 11), (0, 12), (0, 13), (1, 4), (1, 9), (1, 14), (1, 15), (1, 16), (0, 17)])], []⟩ Try.func26 rfl Try.ntmps26 (rs := [.tmp 4]) rfl (sig := buchi_order_sig) (out := buchi_order_out) rfl Try.call26 (fun X => by kernel_rfl)

def buchi_Check_sig : Shape := ⟨[(.pair (.int .i64) (.pair (.int .i64) (.pair (.list (.int .i64)) (.pair (.list (.pair (.int .i64) (.pair (.int .i64) (.pair (.int .i64) .unit)))) (.pair (.list (.int .i64)) .unit)))))], [(0, .v 0)], []⟩
def buchi_Check_out : Shape := ⟨[(.int .i64)], [(0, .v 0)], []⟩
noncomputable def buchi_Check_ce : CE := ⟨13, buchi_Check_sig, buchi_Check_out, fun X => buchi_Check X⟩
theorem buchi_Check_ok : CE.ok Try.prog buchi_Check_ce := CE.of (Γ := [slices_ContainsFunc_ce, slices_ContainsFunc_1_ce, buchi_rising_ce, buchi_order_ce]) (by kernel_rfl) TT_ok (GOK.cons slices_ContainsFunc_ok (GOK.cons slices_ContainsFunc_1_ok (GOK.cons buchi_rising_ok (GOK.cons buchi_order_ok (GOK.nil))))) ⟨[(11, ⟨⟨[(.int .i64)], [(57, .v 0)], []⟩, [2, 4, 13, 17, 22, 58, 59, 60, 61, 62, 63, 64, 65, 66, 67, 68, 69, 70, 71, 72, 73, 74, 75, 76, 77], [], [1], 2, []⟩)], [], [(13, [(0, 0), (0, 1), (0, 2), (0, 3), (0, 4), (0, 5), (0, 6), (0, 7), (0, 8), (0, 9), (0, 10), (0, 11), (0, 12), (0, 13), (1, 14), (0, 15), (0, 16)])], []⟩ Try.func13 rfl Try.ntmps13 (rs := [.tmp 2]) rfl (sig := buchi_Check_sig) (out := buchi_Check_out) rfl Try.call13 (fun X => by kernel_rfl)

def slices_Index_sig : Shape := ⟨[(.list (.int .i64)), (.int .i64)], [(0, .v 0), (1, .v 1)], []⟩
def slices_Index_out : Shape := ⟨[(.int .i64)], [(0, .v 0)], []⟩
noncomputable def slices_Index_ce : CE := ⟨34, slices_Index_sig, slices_Index_out, fun X => slices_Index X.1 X.2⟩
theorem slices_Index_ok : CE.ok Try.prog slices_Index_ce := CE.of (Γ := []) (by kernel_rfl) TT_ok (GOK.nil) ⟨[(2, ⟨⟨[(.int .i64)], [(8, .v 0)], []⟩, [4, 5, 9, 10, 11, 12, 13, 14, 15, 16, 17, 18], [], [], 0, []⟩)], [], [], []⟩ Try.func34 rfl Try.ntmps34 (rs := [.tmp 4]) rfl (sig := slices_Index_sig) (out := slices_Index_out) rfl Try.call34 (fun X => by kernel_rfl)

def slices_Contains_sig : Shape := ⟨[(.list (.int .i64)), (.int .i64)], [(0, .v 0), (1, .v 1)], []⟩
def slices_Contains_out : Shape := ⟨[.bool], [(0, .v 0)], []⟩
noncomputable def slices_Contains_ce : CE := ⟨27, slices_Contains_sig, slices_Contains_out, fun X => slices_Contains X.1 X.2⟩
theorem slices_Contains_ok : CE.ok Try.prog slices_Contains_ce := CE.of (Γ := [slices_Index_ce]) (by kernel_rfl) TT_ok (GOK.cons slices_Index_ok (GOK.nil)) ⟨[], [], [], []⟩ Try.func27 rfl Try.ntmps27 (rs := [.tmp 4]) rfl (sig := slices_Contains_sig) (out := slices_Contains_out) rfl Try.call27 (fun X => by kernel_rfl)

def slices_Reverse_sig : Shape := ⟨[(.list (.int .i64))], [(0, .own 100000)], [(100000, .arr 3 0)]⟩
def slices_Reverse_out : Shape := ⟨[(.list (.int .i64))], [], [(100000, .arr 3 0)]⟩
noncomputable def slices_Reverse_ce : CE := ⟨28, slices_Reverse_sig, slices_Reverse_out, fun X => slices_Reverse X⟩
theorem slices_Reverse_ok : CE.ok Try.prog slices_Reverse_ce := CE.of (Γ := []) (by kernel_rfl) TT_ok (GOK.nil) ⟨[(1, ⟨⟨[(.int .i64), (.int .i64), (.list (.int .i64))], [(0, .own 100000), (2, .v 0), (3, .v 1)], [(100000, .arr 3 2)]⟩, [7, 8, 9, 10, 11, 12, 13, 14, 15, 16, 17, 18, 19, 20, 21, 22, 23, 24, 25, 26, 27], [], [], 0, []⟩)], [], [(3, [(0, 0), (0, 1), (0, 2), (0, 3), (0, 4), (0, 5), (0, 6), (0, 7), (0, 8), (0, 9), (0, 10), (0, 11), (0, 12), (2, 13), (0, 14), (2, 15)])], []⟩ Try.func28 rfl Try.ntmps28 (rs := []) rfl (sig := slices_Reverse_sig) (out := slices_Reverse_out) rfl Try.call28 (fun X => by kernel_rfl)

def buchi_path_sig : Shape := ⟨[(.pair (.int .i64) (.pair (.int .i64) (.pair (.list (.int .i64)) (.pair (.list (.pair (.int .i64) (.pair (.int .i64) (.pair (.int .i64) .unit)))) (.pair (.list (.int .i64)) .unit))))), (.list (.int .i64)), (.int .i64), .bool], [(0, .v 0), (1, .v 1), (2, .v 2), (3, .v 3)], []⟩
def buchi_path_out : Shape := ⟨[.bool, (.list (.int .i64))], [(0, .own 0), (1, .v 0)], [(0, .arr 3 1)]⟩
noncomputable def buchi_path_ce : CE := ⟨14, buchi_path_sig, buchi_path_out, fun X => buchi_path X.1 X.2.1 X.2.2.1 X.2.2.2⟩
theorem buchi_path_ok : CE.ok Try.prog buchi_path_ce := CE.of (Γ := [slices_Reverse_ce, slices_Contains_ce]) (by kernel_rfl) TT_ok (GOK.cons slices_Reverse_ok (GOK.cons slices_Contains_ok (GOK.nil))) ⟨[(7, ⟨⟨[(.int .i64), (.list (.list (.pair (.int .i64) (.pair (.int .i64) (.pair (.int .i64) .unit)))))], [(12, .own 2), (38, .v 0)], [(2, .out 3 23 43 1)]⟩, [14, 34, 39, 40, 41, 42, 43, 44, 45, 46, 47, 48, 49, 50, 51, 52, 53, 54], [], [0, 1], 4, []⟩), (12, ⟨⟨[(.list (.list (.pair (.int .i64) (.pair (.int .i64) (.pair (.int .i64) .unit))))), (.int .i64), (.list (.pair (.int .i64) (.pair (.int .i64) (.pair (.int .i64) .unit))))], [(10, .own 4), (12, .v 0), (57, .v 1)], [(4, .arr 60 2)]⟩, [16, 58, 59, 60, 61, 62, 63, 64, 65, 66], [2, 3], [0, 1], 5, []⟩), (17, ⟨⟨[(.int .i64), (.list (.pair (.int .i64) (.pair (.int .i64) (.pair (.int .i64) .unit)))), (.list .bool)], [(10, .own 4), (11, .own 1), (17, .v 0)], [(4, .arr 60 1), (1, .arr 4 2)]⟩, [8, 9, 19, 20, 21, 31, 67, 68, 69, 70, 71, 72, 73, 74, 75, 76, 77, 78, 79, 80, 81, 82, 83, 84, 85, 86, 87, 88, 89, 90, 91, 92, 93, 94, 95, 96, 97, 98, 99, 100, 101, 102, 103, 104, 105, 106, 107, 108, 109, 110, 111, 112, 113, 114, 115, 116, 117, 118, 119, 120, 121, 122, 123, 124, 125, 126, 127, 128, 129, 130, 131, 132, 133], [], [0], 5, []⟩), (20, ⟨⟨[(.int .i64), (.list (.pair (.int .i64) (.pair (.int .i64) (.pair (.int .i64) .unit)))), (.list .bool)], [(10, .own 4), (11, .own 1), (82, .v 0)], [(4, .arr 60 1), (1, .arr 4 2)]⟩, [8, 9, 19, 20, 21, 68, 74, 76, 77, 83, 84, 85, 86, 87, 88, 89, 90, 91, 92, 93, 94, 95, 96, 97, 98, 99, 100, 101, 102, 103, 104, 105, 106, 107, 108, 109, 110, 111, 112, 113, 114, 115, 116, 117, 118, 119, 120, 121, 122, 123, 124, 125, 126, 127, 128, 129, 130, 131, 132, 133], [], [0], 5, []⟩), (28, ⟨⟨[(.int .i64), (.list (.int .i64))], [(20, .own 8), (21, .v 0)], [(8, .arr 3 1)]⟩, [95, 111, 112, 113, 114, 115, 116, 117, 118, 119, 120, 121, 122, 123, 124, 125, 126, 127, 128, 129], [], [0, 1, 5, 6, 7], 9, []⟩)], [(1, ⟨⟨[.bool], [(28, .v 0)], []⟩, [22, 23, 24, 25, 26, 27], [], [0], 1, []⟩), (9, ⟨⟨[(.list (.list (.pair (.int .i64) (.pair (.int .i64) (.pair (.int .i64) .unit)))))], [(12, .own 2)], [(2, .out 4 23 43 0)]⟩, [14, 40, 41, 42, 43, 44, 45, 46, 47, 48, 49, 50, 51, 52, 53], [3], [0, 1], 5, []⟩)], [(5, [(0, 0), (0, 1), (4, 2), (0, 3)])], [(9, (.one 0 (.one 1 (.one 3 (.one 4 (.live [10, 12] (.rd 5 [6, 7, 10, 11, 12] (.rd 6 [7, 10, 11, 12] (.rd 7 [10, 11, 12] (.rd 8 [9, 10, 11, 12] (.alt 0 2 (.alt 1 9 (.alt 4 10 (.leaf [(0, 11), (4, 12)]) .stop) .stop) (.alt 1 9 (.alt 0 2 (.alt 4 10 (.leaf [(0, 11), (4, 12)]) .stop) (.alt 4 10 (.leaf [(0, 2), (0, 11), (4, 12)]) .stop)) .stop))))))))))))]⟩ Try.func14 rfl Try.ntmps14 (rs := [.tmp 8, .tmp 9]) rfl (sig := buchi_path_sig) (out := buchi_path_out) rfl Try.call14 (fun X => by kernel_rfl)

def buchi_Some_sig : Shape := ⟨[(.pair (.int .i64) (.pair (.int .i64) (.pair (.list (.int .i64)) (.pair (.list (.pair (.int .i64) (.pair (.int .i64) (.pair (.int .i64) .unit)))) (.pair (.list (.int .i64)) .unit)))))], [(0, .v 0)], []⟩
def buchi_Some_out : Shape := ⟨[(.pair (.list (.int .i64)) (.pair (.list (.int .i64)) .unit)), .bool, (.int .i64)], [(0, .v 0), (1, .v 1), (2, .v 2)], []⟩
noncomputable def buchi_Some_ce : CE := ⟨5, buchi_Some_sig, buchi_Some_out, fun X => buchi_Some X⟩
theorem buchi_Some_ok : CE.ok Try.prog buchi_Some_ce := CE.of (Γ := [buchi_Check_ce, buchi_path_ce]) (by kernel_rfl) TT_ok (GOK.cons buchi_Check_ok (GOK.cons buchi_path_ok (GOK.nil))) ⟨[(5, ⟨⟨[(.int .i64)], [(21, .v 0)], []⟩, [3, 4, 7, 8, 9, 10, 11, 22, 23, 24, 25, 26, 27, 28, 29, 30, 31, 32, 33, 34, 35, 36, 37, 38, 39, 40, 41, 42, 43, 44, 45, 46, 47], [], [0, 1], 2, []⟩)], [], [], []⟩ Try.func5 rfl Try.ntmps5 (rs := [.cell 2 27, .tmp 3, .tmp 4]) rfl (sig := buchi_Some_sig) (out := buchi_Some_out) rfl Try.call5 (fun X => by kernel_rfl)

def r1_Words_sig : Shape := ⟨[(.list (.int .i64)), (.list (.int .i64))], [(0, .v 0), (1, .v 1)], []⟩
def r1_Words_out : Shape := ⟨[.bool], [(0, .v 0)], []⟩
noncomputable def r1_Words_ce : CE := ⟨15, r1_Words_sig, r1_Words_out, fun X => r1_Words X.1 X.2⟩
theorem r1_Words_ok : CE.ok Try.prog r1_Words_ce := CE.of (Γ := []) (by kernel_rfl) TT_ok (GOK.nil) ⟨[(4, ⟨⟨[(.int .i64)], [(5, .v 0)], []⟩, [4, 11, 12, 13, 14, 15, 16, 17, 18, 19, 20, 21, 22, 23, 24, 25], [], [], 0, []⟩)], [], [(6, [(0, 0), (0, 1), (0, 2), (0, 3), (0, 4), (0, 5), (0, 6), (0, 7), (0, 8)])], []⟩ Try.func15 rfl Try.ntmps15 (rs := [.tmp 4]) rfl (sig := r1_Words_sig) (out := r1_Words_out) rfl Try.call15 (fun X => by kernel_rfl)

def law_sameAuto_sig : Shape := ⟨[(.pair (.int .i64) (.pair (.int .i64) (.pair (.list (.int .i64)) (.pair (.list (.pair (.int .i64) (.pair (.int .i64) (.pair (.int .i64) .unit)))) (.pair (.list (.int .i64)) .unit))))), (.pair (.int .i64) (.pair (.int .i64) (.pair (.list (.int .i64)) (.pair (.list (.pair (.int .i64) (.pair (.int .i64) (.pair (.int .i64) .unit)))) (.pair (.list (.int .i64)) .unit)))))], [(0, .v 0), (1, .v 1)], []⟩
def law_sameAuto_out : Shape := ⟨[.bool], [(0, .v 0)], []⟩
noncomputable def law_sameAuto_ce : CE := ⟨6, law_sameAuto_sig, law_sameAuto_out, fun X => law_sameAuto X.1 X.2⟩
theorem law_sameAuto_ok : CE.ok Try.prog law_sameAuto_ce := CE.of (Γ := [r1_Words_ce]) (by kernel_rfl) TT_ok (GOK.cons r1_Words_ok (GOK.nil)) ⟨[(6, ⟨⟨[(.int .i64)], [(7, .v 0)], []⟩, [4, 47, 48, 49, 50, 51, 52, 53, 54, 55, 56, 57, 58, 59, 60, 61, 62, 63, 64], [], [0, 1], 2, []⟩)], [], [(8, [(0, 0), (0, 1), (0, 2), (0, 3), (0, 4), (0, 5), (0, 6), (0, 7), (0, 8), (0, 9), (0, 10)])], []⟩ Try.func6 rfl Try.ntmps6 (rs := [.tmp 4]) rfl (sig := law_sameAuto_sig) (out := law_sameAuto_out) rfl Try.call6 (fun X => by kernel_rfl)

def law_noLasso_sig : Shape := ⟨[(.pair (.list (.int .i64)) (.pair (.list (.int .i64)) .unit))], [(0, .v 0)], []⟩
def law_noLasso_out : Shape := ⟨[.bool], [(0, .v 0)], []⟩
noncomputable def law_noLasso_ce : CE := ⟨7, law_noLasso_sig, law_noLasso_out, fun X => law_noLasso X⟩
theorem law_noLasso_ok : CE.ok Try.prog law_noLasso_ce := CE.of (Γ := []) (by kernel_rfl) TT_ok (GOK.nil) ⟨[], [], [], []⟩ Try.func7 rfl Try.ntmps7 (rs := [.tmp 2]) rfl (sig := law_noLasso_sig) (out := law_noLasso_out) rfl Try.call7 (fun X => by kernel_rfl)

def r7_Ahead_sig : Shape := ⟨[(.pair (.int .i64) (.pair (.int .i64) (.pair (.int .i64) .unit))), (.pair (.int .i64) (.pair (.int .i64) (.pair (.int .i64) .unit)))], [(0, .v 0), (1, .v 1)], []⟩
def r7_Ahead_out : Shape := ⟨[.bool], [(0, .v 0)], []⟩
noncomputable def r7_Ahead_ce : CE := ⟨16, r7_Ahead_sig, r7_Ahead_out, fun X => r7_Ahead X.1 X.2⟩
theorem r7_Ahead_ok : CE.ok Try.prog r7_Ahead_ce := CE.of (Γ := []) (by kernel_rfl) TT_ok (GOK.nil) ⟨[], [], [], []⟩ Try.func16 rfl Try.ntmps16 (rs := [.tmp 4]) rfl (sig := r7_Ahead_sig) (out := r7_Ahead_out) rfl Try.call16 (fun X => by kernel_rfl)

def r7_Check_sig : Shape := ⟨[(.pair (.int .i64) (.pair (.int .i64) (.pair (.list (.int .i64)) (.pair (.list (.pair (.int .i64) (.pair (.int .i64) (.pair (.int .i64) .unit)))) (.pair (.list (.int .i64)) .unit)))))], [(0, .v 0)], []⟩
def r7_Check_out : Shape := ⟨[(.int .i64)], [(0, .v 0)], []⟩
noncomputable def r7_Check_ce : CE := ⟨8, r7_Check_sig, r7_Check_out, fun X => r7_Check X⟩
theorem r7_Check_ok : CE.ok Try.prog r7_Check_ce := CE.of (Γ := [r7_Ahead_ce]) (by kernel_rfl) TT_ok (GOK.cons r7_Ahead_ok (GOK.nil)) ⟨[(6, ⟨⟨[(.int .i64)], [(3, .v 0)], []⟩, [2, 33, 34, 35, 36, 37, 38, 39, 40, 41, 42, 43, 44, 45, 46, 47, 48, 49, 50, 51, 52, 53, 54, 55], [], [0], 1, []⟩), (11, ⟨⟨[(.int .i64)], [(4, .v 0)], []⟩, [2, 56, 57, 58, 59, 60, 61, 62, 63, 64, 65, 66, 67, 68, 69, 70, 71, 72, 73, 74, 75, 76, 77, 78], [], [0], 1, []⟩), (16, ⟨⟨[(.int .i64)], [(5, .v 0)], []⟩, [2, 6, 79, 80, 81, 82, 83, 84, 85, 86, 87, 88, 89, 90, 91, 92, 93, 94, 95, 96, 97, 98, 99, 100, 101, 102, 103, 104, 105, 106, 107, 108, 109, 110, 111, 112, 113, 114, 115, 116, 117, 118, 119, 120, 121, 122, 123, 124], [], [0], 1, []⟩), (22, ⟨⟨[(.int .i64)], [(7, .v 0)], []⟩, [2, 125, 126, 127, 128, 129, 130, 131, 132, 133, 134, 135, 136, 137, 138, 139, 140, 141, 142, 143], [], [0], 1, []⟩), (27, ⟨⟨[(.int .i64)], [(8, .v 0)], []⟩, [2, 144, 145, 146, 147, 148, 149, 150, 151, 152, 153, 154, 155, 156, 157, 158, 159, 160, 161, 162], [], [0], 1, []⟩), (32, ⟨⟨[(.int .i64)], [(9, .v 0)], []⟩, [2, 10, 163, 164, 165, 166, 167, 168, 169, 170, 171, 172, 173, 174, 175, 176, 177, 178, 179, 180, 181, 182, 183], [], [0], 1, []⟩)], [], [(8, [(0, 0), (0, 1), (0, 2), (0, 3), (0, 4), (0, 5), (0, 6), (0, 7), (0, 8), (0, 9), (0, 10), (0, 11), (0, 12), (0, 13), (0, 14), (0, 15)]), (13, [(0, 0), (0, 1), (0, 2), (0, 3), (0, 4), (0, 5), (0, 6), (0, 7), (0, 8), (0, 9), (0, 10), (0, 11), (0, 12), (0, 13), (0, 14), (0, 15)]), (24, [(0, 0), (0, 1), (0, 2), (0, 3), (0, 4), (0, 5), (0, 6), (0, 7), (0, 8), (0, 9), (0, 10), (0, 11)]), (29, [(0, 0), (0, 1), (0, 2), (0, 3), (0, 4), (0, 5), (0, 6), (0, 7), (0, 8), (0, 9), (0, 10), (0, 11)]), (34, [(0, 0), (0, 1), (0, 2), (0, 3), (0, 4), (0, 5), (0, 6), (0, 7), (0, 8), (0, 9), (0, 10), (1, 11), (0, 12)])], []⟩ Try.func8 rfl Try.ntmps8 (rs := [.tmp 2]) rfl (sig := r7_Check_sig) (out := r7_Check_out) rfl Try.call8 (fun X => by kernel_rfl)

def r1_At_sig : Shape := ⟨[(.pair (.list (.int .i64)) (.pair (.list (.int .i64)) .unit)), (.int .i64)], [(0, .v 0), (1, .v 1)], []⟩
def r1_At_out : Shape := ⟨[(.int .i64)], [(0, .v 0)], []⟩
noncomputable def r1_At_ce : CE := ⟨17, r1_At_sig, r1_At_out, fun X => r1_At X.1 X.2⟩
theorem r1_At_ok : CE.ok Try.prog r1_At_ce := CE.of (Γ := []) (by kernel_rfl) TT_ok (GOK.nil) ⟨[], [], [(3, [(0, 0), (0, 1), (0, 2), (0, 3), (0, 4), (0, 5), (0, 6), (0, 7), (0, 8), (0, 9), (0, 10), (0, 11), (0, 12), (0, 13)])], []⟩ Try.func17 rfl Try.ntmps17 (rs := [.tmp 4]) rfl (sig := r1_At_sig) (out := r1_At_out) rfl Try.call17 (fun X => by kernel_rfl)

def law_fits_sig : Shape := ⟨[(.pair (.list (.int .i64)) (.pair (.list (.int .i64)) .unit)), (.int .i64), (.int .i64)], [(0, .v 0), (1, .v 1), (2, .v 2)], []⟩
def law_fits_out : Shape := ⟨[.bool], [(0, .v 0)], []⟩
noncomputable def law_fits_ce : CE := ⟨9, law_fits_sig, law_fits_out, fun X => law_fits X.1 X.2.1 X.2.2⟩
theorem law_fits_ok : CE.ok Try.prog law_fits_ce := CE.of (Γ := [r1_At_ce]) (by kernel_rfl) TT_ok (GOK.cons r1_At_ok (GOK.nil)) ⟨[(4, ⟨⟨[(.int .i64)], [(7, .v 0)], []⟩, [6, 8, 27, 28, 29, 30, 31, 32, 33, 34, 35, 36, 37, 38, 39, 40, 41, 42, 43, 44, 45, 46, 47], [], [0], 1, []⟩)], [], [], []⟩ Try.func9 rfl Try.ntmps9 (rs := [.tmp 6]) rfl (sig := law_fits_sig) (out := law_fits_out) rfl Try.call9 (fun X => by kernel_rfl)

def r7_by_sig : Shape := ⟨[(.pair (.int .i64) (.pair (.int .i64) (.pair (.list (.int .i64)) (.pair (.list (.pair (.int .i64) (.pair (.int .i64) (.pair (.int .i64) .unit)))) (.pair (.list (.int .i64)) .unit))))), (.list .bool), (.int .i64)], [(0, .v 0), (1, .v 1), (2, .v 2)], []⟩
def r7_by_out : Shape := ⟨[(.list .bool)], [(0, .own 0)], [(0, .arr 4 0)]⟩
noncomputable def r7_by_ce : CE := ⟨18, r7_by_sig, r7_by_out, fun X => r7_by X.1 X.2.1 X.2.2⟩
theorem r7_by_ok : CE.ok Try.prog r7_by_ce := CE.of (Γ := []) (by kernel_rfl) TT_ok (GOK.nil) ⟨[(3, ⟨⟨[(.int .i64), (.list .bool)], [(7, .own 1), (8, .v 0)], [(1, .arr 4 1)]⟩, [9, 12, 13, 14, 15, 16, 17, 18, 19, 20, 21, 22, 23, 24, 25, 26, 27, 28, 29, 30, 31, 32, 33, 34, 35, 36, 37, 38, 39], [], [0], 2, []⟩)], [(6, ⟨⟨[.bool], [(35, .v 0)], []⟩, [25, 26, 27, 28, 29, 30, 31, 32, 33, 34], [], [0, 1, 2], 3, []⟩)], [], []⟩ Try.func18 rfl Try.ntmps18 (rs := [.tmp 6]) rfl (sig := r7_by_sig) (out := r7_by_out) rfl Try.call18 (fun X => by kernel_rfl)

def r7_Round_sig : Shape := ⟨[(.pair (.int .i64) (.pair (.int .i64) (.pair (.list (.int .i64)) (.pair (.list (.pair (.int .i64) (.pair (.int .i64) (.pair (.int .i64) .unit)))) (.pair (.list (.int .i64)) .unit))))), (.list (.int .i64)), (.list .bool), (.int .i64)], [(0, .v 0), (1, .v 1), (2, .v 2), (3, .v 3)], []⟩
def r7_Round_out : Shape := ⟨[.bool], [(0, .v 0)], []⟩
noncomputable def r7_Round_ce : CE := ⟨19, r7_Round_sig, r7_Round_out, fun X => r7_Round X.1 X.2.1 X.2.2.1 X.2.2.2⟩
theorem r7_Round_ok : CE.ok Try.prog r7_Round_ce := CE.of (Γ := [r7_by_ce]) (by kernel_rfl) TT_ok (GOK.cons r7_by_ok (GOK.nil)) ⟨[(5, ⟨⟨[.bool, (.list .bool), (.list .bool)], [(9, .own 1), (10, .own 2), (11, .v 0)], [(1, .arr 4 1), (2, .arr 4 2)]⟩, [8, 12, 13, 14, 15, 16, 19, 22, 23, 25, 26, 27, 28, 29, 30, 31, 32, 33, 34, 35, 36, 37, 38, 39, 40, 41, 42, 43, 44, 45, 46, 47, 48, 49, 50, 51, 52, 53, 54, 55, 56, 57, 58, 59, 60, 61, 62, 63, 64, 65, 66, 67, 68, 69, 70, 71, 72, 73, 74, 75, 76, 77, 78, 79, 80, 81, 82, 83, 84, 85, 86, 87, 88, 89, 90, 91, 92, 93, 94, 95, 96, 97, 98, 99, 100, 101, 102, 103, 104, 105, 106, 107, 108, 109, 110, 111, 112, 113, 114, 115, 116, 117, 118, 119, 120, 121, 122, 123, 124, 125, 126, 127, 128, 129, 130, 131, 132, 133, 134, 135, 136, 137, 138, 139, 140], [], [0], 3, []⟩), (10, ⟨⟨[(.int .i64), (.list .bool), (.list .bool)], [(12, .own 4), (13, .own 6), (14, .v 0)], [(4, .arr 4 1), (6, .arr 4 2)]⟩, [15, 27, 29, 30, 32, 33, 34, 35, 36, 37, 38, 39, 40, 41, 42, 43, 44, 45, 46, 47, 48, 49, 50, 51, 52, 53, 54, 55, 56, 57, 58, 59, 60, 61, 62, 63, 64, 65, 66, 67, 68, 69, 70, 71, 72, 73, 74, 75, 76, 77], [], [0, 1, 2], 7, []⟩), (13, ⟨⟨[(.int .i64), (.list .bool)], [(13, .own 6), (15, .v 0)], [(6, .arr 4 1)]⟩, [39, 40, 41, 42, 43, 44, 45, 46, 47, 48, 49, 50, 51, 52, 53, 54, 55, 56, 57, 58, 59, 60, 61, 62, 63], [], [0, 1, 2, 4], 7, []⟩), (21, ⟨⟨[.bool, (.int .i64), (.list .bool), (.list .bool)], [(9, .own 1), (10, .own 2), (11, .v 0), (16, .v 1)], [(1, .arr 4 2), (2, .arr 4 3)]⟩, [28, 31, 82, 83, 84, 85, 86, 87, 88, 89, 90, 91, 92, 93, 94, 95, 96, 97, 98, 99, 100, 101, 102, 103, 104, 105, 106, 107, 108, 109, 110, 111, 112, 113, 114, 115, 116, 117, 118, 119, 120, 121, 122, 123, 124, 125, 126, 127, 128, 129, 130, 131, 132, 133, 134, 135, 136, 137, 138, 139, 140], [], [0, 4, 6], 7, []⟩)], [(23, ⟨⟨[.bool], [(11, .v 0)], []⟩, [88, 89, 90, 91, 92, 93, 94, 95, 96, 97, 98, 99, 100, 101, 102, 103, 104, 105, 106, 107, 108, 109, 110, 111, 112, 113, 114], [], [0, 1, 2, 4, 6], 7, []⟩), (24, ⟨⟨[(.list .bool)], [(9, .own 1)], [(1, .arr 4 0)]⟩, [115, 116, 117, 118, 119, 120, 121, 122, 123, 124, 125, 126, 127], [], [0, 2, 4, 6], 7, []⟩)], [(16, [(0, 0), (0, 1), (0, 2), (0, 3), (0, 4), (0, 5), (1, 6), (0, 7)]), (17, [(0, 0), (0, 1), (0, 2), (0, 3), (0, 4), (0, 5), (1, 6), (0, 7)])], []⟩ Try.func19 rfl Try.ntmps19 (rs := [.tmp 8]) rfl (sig := r7_Round_sig) (out := r7_Round_out) rfl Try.call19 (fun X => by kernel_rfl)

def r7_Accepts_sig : Shape := ⟨[(.pair (.int .i64) (.pair (.int .i64) (.pair (.list (.int .i64)) (.pair (.list (.pair (.int .i64) (.pair (.int .i64) (.pair (.int .i64) .unit)))) (.pair (.list (.int .i64)) .unit))))), (.pair (.list (.int .i64)) (.pair (.list (.int .i64)) .unit))], [(0, .v 0), (1, .v 1)], []⟩
def r7_Accepts_out : Shape := ⟨[.bool], [(0, .v 0)], []⟩
noncomputable def r7_Accepts_ce : CE := ⟨10, r7_Accepts_sig, r7_Accepts_out, fun X => r7_Accepts X.1 X.2⟩
theorem r7_Accepts_ok : CE.ok Try.prog r7_Accepts_ce := CE.of (Γ := [r7_by_ce, r7_Round_ce]) (by kernel_rfl) TT_ok (GOK.cons r7_by_ok (GOK.cons r7_Round_ok (GOK.nil))) ⟨[(3, ⟨⟨[(.int .i64), (.list .bool)], [(5, .own 2), (6, .v 0)], [(2, .arr 4 1)]⟩, [18, 19, 20, 21, 22, 23, 24, 25, 26, 27, 28, 29, 30, 31, 32], [], [0, 1], 3, []⟩), (7, ⟨⟨[(.int .i64), (.list .bool)], [(5, .own 2), (7, .v 0)], [(2, .arr 4 1)]⟩, [33, 34, 35, 36, 37, 38, 39, 40, 41, 42, 43, 44, 45, 46, 47], [], [0, 1], 3, []⟩), (11, ⟨⟨[.bool, (.list .bool)], [(5, .own 2), (8, .v 0)], [(2, .arr 4 1)]⟩, [9, 10, 11, 48, 49, 50, 51, 52, 53, 54, 55, 56, 57, 58, 59, 60, 61, 62, 63, 64, 65, 66, 67, 68, 69, 70, 71, 72, 73, 74, 75, 76, 77, 78, 79, 80, 81, 82, 83, 84, 85, 86, 87, 88, 89, 90, 91, 92, 93, 94, 95, 96, 97], [], [0, 1], 3, []⟩), (15, ⟨⟨[(.int .i64), (.list .bool), (.list .bool)], [(5, .own 2), (9, .own 3), (10, .v 0)], [(2, .arr 4 1), (3, .arr 4 2)]⟩, [49, 50, 51, 52, 53, 54, 55, 56, 57, 58, 59, 60, 61, 62, 63, 64], [], [0, 1], 4, []⟩), (19, ⟨⟨[.bool, (.int .i64), (.list .bool)], [(5, .own 2), (8, .v 0), (11, .v 1)], [(2, .arr 4 2)]⟩, [65, 66, 67, 68, 69, 70, 71, 72, 73, 74, 75, 76, 77, 78, 79, 80, 81, 82, 83, 84, 85, 86, 87, 88, 89, 90, 91, 92, 93, 94, 95, 96, 97], [], [0, 1, 3], 4, []⟩), (25, ⟨⟨[(.int .i64), (.list .bool)], [(12, .own 3), (13, .v 0)], [(3, .arr 4 1)]⟩, [100, 101, 102, 103, 104, 105, 106, 107, 108, 109, 110, 111, 112, 113, 114], [], [0, 1, 2], 4, []⟩), (29, ⟨⟨[(.int .i64)], [(14, .v 0)], []⟩, [4, 15, 115, 116, 117, 118, 119, 120, 121, 122, 123, 124, 125, 126, 127, 128, 129, 130, 131, 132], [], [0, 1, 2, 3], 4, []⟩)], [(21, ⟨⟨[.bool], [(8, .v 0)], []⟩, [71, 72, 73, 74, 75, 76, 77, 78, 79, 80, 81, 82, 83, 84], [], [0, 1, 2, 3], 4, []⟩)], [(9, [(0, 0), (0, 1), (0, 2), (0, 3), (0, 4), (0, 5), (0, 6), (1, 7), (0, 8)]), (1000015, []), (17, [(0, 0), (0, 1), (0, 2), (0, 3), (0, 4), (0, 5), (0, 6), (1, 7), (0, 8)])], []⟩ Try.func10 rfl Try.ntmps10 (rs := [.tmp 4]) rfl (sig := r7_Accepts_sig) (out := r7_Accepts_out) rfl Try.call10 (fun X => by kernel_rfl)

def r1_May_sig : Shape := ⟨[(.int .i64), (.list (.int .i64))], [(0, .v 0), (1, .v 1)], []⟩
def r1_May_out : Shape := ⟨[(.int .i64)], [(0, .v 0)], []⟩
noncomputable def r1_May_ce : CE := ⟨29, r1_May_sig, r1_May_out, fun X => r1_May X.1 X.2⟩
theorem r1_May_ok : CE.ok Try.prog r1_May_ce := CE.of (Γ := []) (by kernel_rfl) TT_ok (GOK.nil) ⟨[(6, ⟨⟨[(.int .i64)], [(5, .v 0)], []⟩, [4, 15, 16, 17, 18, 19, 20, 21, 22, 23, 24, 25, 26, 27, 28, 29, 30, 31, 32, 33], [], [], 0, []⟩)], [], [], []⟩ Try.func29 rfl Try.ntmps29 (rs := [.tmp 4]) rfl (sig := r1_May_sig) (out := r1_May_out) rfl Try.call29 (fun X => by kernel_rfl)

def r1_Lasso_sig : Shape := ⟨[(.int .i64), (.pair (.list (.int .i64)) (.pair (.list (.int .i64)) .unit))], [(0, .v 0), (1, .v 1)], []⟩
def r1_Lasso_out : Shape := ⟨[(.int .i64)], [(0, .v 0)], []⟩
noncomputable def r1_Lasso_ce : CE := ⟨20, r1_Lasso_sig, r1_Lasso_out, fun X => r1_Lasso X.1 X.2⟩
theorem r1_Lasso_ok : CE.ok Try.prog r1_Lasso_ce := CE.of (Γ := [r1_May_ce]) (by kernel_rfl) TT_ok (GOK.cons r1_May_ok (GOK.nil)) ⟨[], [], [], []⟩ Try.func20 rfl Try.ntmps20 (rs := [.tmp 4]) rfl (sig := r1_Lasso_sig) (out := r1_Lasso_out) rfl Try.call20 (fun X => by kernel_rfl)

def r7_Lasso_sig : Shape := ⟨[(.pair (.int .i64) (.pair (.int .i64) (.pair (.list (.int .i64)) (.pair (.list (.pair (.int .i64) (.pair (.int .i64) (.pair (.int .i64) .unit)))) (.pair (.list (.int .i64)) .unit))))), (.pair (.list (.int .i64)) (.pair (.list (.int .i64)) .unit))], [(0, .v 0), (1, .v 1)], []⟩
def r7_Lasso_out : Shape := ⟨[(.int .i64)], [(0, .v 0)], []⟩
noncomputable def r7_Lasso_ce : CE := ⟨11, r7_Lasso_sig, r7_Lasso_out, fun X => r7_Lasso X.1 X.2⟩
theorem r7_Lasso_ok : CE.ok Try.prog r7_Lasso_ce := CE.of (Γ := [r1_Lasso_ce]) (by kernel_rfl) TT_ok (GOK.cons r1_Lasso_ok (GOK.nil)) ⟨[], [], [], []⟩ Try.func11 rfl Try.ntmps11 (rs := [.tmp 4]) rfl (sig := r7_Lasso_sig) (out := r7_Lasso_out) rfl Try.call11 (fun X => by kernel_rfl)

def law_BuchiSome_sig : Shape := ⟨[(.pair (.int .i64) (.pair (.int .i64) (.pair (.list (.int .i64)) (.pair (.list (.pair (.int .i64) (.pair (.int .i64) (.pair (.int .i64) .unit)))) (.pair (.list (.int .i64)) .unit))))), (.pair (.list (.int .i64)) (.pair (.list (.int .i64)) .unit))], [(0, .v 0), (1, .v 1)], []⟩
def law_BuchiSome_out : Shape := ⟨[.bool], [(0, .v 0)], []⟩
noncomputable def law_BuchiSome_ce : CE := ⟨3, law_BuchiSome_sig, law_BuchiSome_out, fun X => law_BuchiSome X.1 X.2⟩
theorem law_BuchiSome_ok : CE.ok Try.prog law_BuchiSome_ce := CE.of (Γ := [law_auto_ce, buchi_Some_ce, law_sameAuto_ce, law_noLasso_ce, r7_Check_ce, law_fits_ce, r7_Accepts_ce, r7_Lasso_ce]) (by kernel_rfl) TT_ok (GOK.cons law_auto_ok (GOK.cons buchi_Some_ok (GOK.cons law_sameAuto_ok (GOK.cons law_noLasso_ok (GOK.cons r7_Check_ok (GOK.cons law_fits_ok (GOK.cons r7_Accepts_ok (GOK.cons r7_Lasso_ok (GOK.nil))))))))) ⟨[], [], [], []⟩ Try.func3 rfl Try.ntmps3 (rs := [.tmp 4]) rfl (sig := law_BuchiSome_sig) (out := law_BuchiSome_out) rfl Try.call3 (fun X => by kernel_rfl)

end Go.Proofs.Ytpjjgbnbpfdigaa.buchiSomeW
