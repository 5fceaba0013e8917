/- That the functions of 'AlterOther' compute so. -/
import Derived.Test.YtokmolpkbahocaaAlterOtherD
import Derived.Test.YtokmolpkbahocaaProg
import Derived.KernelRfl
set_option maxHeartbeats 1000000
set_option maxRecDepth 20000
set_option linter.unusedSimpArgs false
set_option linter.unusedVariables false
set_option linter.unusedSectionVars false
namespace Go.Proofs.Ytokmolpkbahocaa.alterOtherW
open Go Go.Ab
def te3 : TE := ⟨3, .int .i64, false, 1, 8, .int .i64 0, some (.int .i64)⟩
theorem te3_ok : TEok Try.prog te3 := ⟨TI.of Try.underlying3 rfl (by kernel_rfl), Try.underlying3, fun t h => by cases h; exact ⟨rfl, rfl, by decide, rfl⟩⟩
def te4 : TE := ⟨4, .bool, false, 1, 1, .bool false, some .bool⟩
theorem te4_ok : TEok Try.prog te4 := ⟨TI.of Try.underlying4 rfl (by kernel_rfl), Try.underlying4, fun t h => by cases h; exact ⟨rfl, rfl, by decide, rfl⟩⟩
def te22 : TE := ⟨22, .slice 32, false, 1, 24, .slice none 0 0, some (.list (.list (.list (.list (.int .i64)))))⟩
theorem te22_ok : TEok Try.prog te22 := ⟨TI.of Try.underlying22 rfl (by kernel_rfl), Try.underlying22, fun t h => by cases h; exact ⟨rfl, rfl, by decide, rfl⟩⟩
def te23 : TE := ⟨23, .slice 3, false, 1, 24, .slice none 0 0, some (.list (.int .i64))⟩
theorem te23_ok : TEok Try.prog te23 := ⟨TI.of Try.underlying23 rfl (by kernel_rfl), Try.underlying23, fun t h => by cases h; exact ⟨rfl, rfl, by decide, rfl⟩⟩
def te25 : TE := ⟨25, .struct [(0, 3), (1, 3), (2, 22), (3, 23)] none, true, 4, 64, .agg ⟨[.int .i64 0, .int .i64 0, .slice none 0 0, .slice none 0 0]⟩, some (.pair (.int .i64) (.pair (.int .i64) (.pair (.list (.list (.list (.list (.int .i64))))) (.pair (.list (.int .i64)) .unit))))⟩
theorem te25_ok : TEok Try.prog te25 := ⟨TI.of Try.underlying25 rfl (by kernel_rfl), ⟨⟨_, Try.underlying25, rfl⟩, fun t h => by cases h⟩, fun t h => by cases h; exact ⟨rfl, rfl, by decide, rfl⟩⟩
def te26 : TE := ⟨26, .int .i64, false, 1, 8, .int .i64 0, some (.int .i64)⟩
theorem te26_ok : TEok Try.prog te26 := ⟨TI.of Try.underlying26 rfl (by kernel_rfl), Try.underlying26, fun t h => by cases h; exact ⟨rfl, rfl, by decide, rfl⟩⟩
def te32 : TE := ⟨32, .slice 33, false, 1, 24, .slice none 0 0, some (.list (.list (.list (.int .i64))))⟩
theorem te32_ok : TEok Try.prog te32 := ⟨TI.of Try.underlying32 rfl (by kernel_rfl), Try.underlying32, fun t h => by cases h; exact ⟨rfl, rfl, by decide, rfl⟩⟩
def te33 : TE := ⟨33, .slice 23, false, 1, 24, .slice none 0 0, some (.list (.list (.int .i64)))⟩
theorem te33_ok : TEok Try.prog te33 := ⟨TI.of Try.underlying33 rfl (by kernel_rfl), Try.underlying33, fun t h => by cases h; exact ⟨rfl, rfl, by decide, rfl⟩⟩
def te36 : TE := ⟨36, .other, false, 1, 8, .nilFunc, none⟩
theorem te36_ok : TEok Try.prog te36 := ⟨TI.of Try.underlying36 rfl (by kernel_rfl), trivial, fun t h => by cases h⟩
def TT : List TE := [te3, te4, te22, te23, te25, te26, te32, te33, te36]
theorem TT_ok : TOK Try.prog TT := TOK.cons te3_ok (TOK.cons te4_ok (TOK.cons te22_ok (TOK.cons te23_ok (TOK.cons te25_ok (TOK.cons te26_ok (TOK.cons te32_ok (TOK.cons te33_ok (TOK.cons te36_ok (TOK.nil)))))))))

def alter_Check_1_sig : Shape := ⟨[(.list (.list (.list (.int .i64)))), (.pair (.int .i64) (.pair (.int .i64) (.pair (.list (.list (.list (.list (.int .i64))))) (.pair (.list (.int .i64)) .unit))))], [(0, .v 0), (1, .addr 1)], []⟩
def alter_Check_1_out : Shape := ⟨[.bool], [(0, .v 0)], []⟩
noncomputable def alter_Check_1_ce : CE := ⟨16, alter_Check_1_sig, alter_Check_1_out, fun X => alter_Check_1 X.1 X.2⟩
theorem alter_Check_1_ok : CE.ok Try.prog alter_Check_1_ce := CE.of (Γ := []) (by kernel_rfl) TT_ok (GOK.nil) ⟨[], [], [], []⟩ Try.func16 rfl Try.ntmps16 (rs := [.tmp 3]) rfl (sig := alter_Check_1_sig) (out := alter_Check_1_out) rfl Try.call16 (fun X => by kernel_rfl)

def slices_IndexFunc_sig : Shape := ⟨[(.list (.list (.list (.list (.int .i64))))), (.pair (.int .i64) (.pair (.int .i64) (.pair (.list (.list (.list (.list (.int .i64))))) (.pair (.list (.int .i64)) .unit))))], [(0, .v 0), (1, .fn 16 [.addr 1])], []⟩
def slices_IndexFunc_out : Shape := ⟨[(.int .i64)], [(0, .v 0)], []⟩
noncomputable def slices_IndexFunc_ce : CE := ⟨23, slices_IndexFunc_sig, slices_IndexFunc_out, fun X => slices_IndexFunc X.1 X.2⟩
theorem slices_IndexFunc_ok : CE.ok Try.prog slices_IndexFunc_ce := CE.of (Γ := [alter_Check_1_ce]) (by kernel_rfl) TT_ok (GOK.cons alter_Check_1_ok (GOK.nil)) ⟨[(2, ⟨⟨[(.int .i64)], [(8, .v 0)], []⟩, [4, 5, 9, 10, 11, 12, 13, 14, 15, 16, 17, 18], [], [], 0, []⟩)], [], [], []⟩ Try.func23 rfl Try.ntmps23 (rs := [.tmp 4]) rfl (sig := slices_IndexFunc_sig) (out := slices_IndexFunc_out) rfl Try.call23 (fun X => by kernel_rfl)

def slices_ContainsFunc_sig : Shape := ⟨[(.list (.list (.list (.list (.int .i64))))), (.pair (.int .i64) (.pair (.int .i64) (.pair (.list (.list (.list (.list (.int .i64))))) (.pair (.list (.int .i64)) .unit))))], [(0, .v 0), (1, .fn 16 [.addr 1])], []⟩
def slices_ContainsFunc_out : Shape := ⟨[.bool], [(0, .v 0)], []⟩
noncomputable def slices_ContainsFunc_ce : CE := ⟨15, slices_ContainsFunc_sig, slices_ContainsFunc_out, fun X => slices_ContainsFunc X.1 X.2⟩
theorem slices_ContainsFunc_ok : CE.ok Try.prog slices_ContainsFunc_ce := CE.of (Γ := [slices_IndexFunc_ce]) (by kernel_rfl) TT_ok (GOK.cons slices_IndexFunc_ok (GOK.nil)) ⟨[], [], [], []⟩ Try.func15 rfl Try.ntmps15 (rs := [.tmp 4]) rfl (sig := slices_ContainsFunc_sig) (out := slices_ContainsFunc_out) rfl Try.call15 (fun X => by kernel_rfl)

def alter_Check_3_sig : Shape := ⟨[(.list (.int .i64))], [(0, .v 0)], []⟩
def alter_Check_3_out : Shape := ⟨[.bool], [(0, .v 0)], []⟩
noncomputable def alter_Check_3_ce : CE := ⟨18, alter_Check_3_sig, alter_Check_3_out, fun X => alter_Check_3 X⟩
theorem alter_Check_3_ok : CE.ok Try.prog alter_Check_3_ce := CE.of (Γ := []) (by kernel_rfl) TT_ok (GOK.nil) ⟨[], [], [], []⟩ Try.func18 rfl Try.ntmps18 (rs := [.tmp 2]) rfl (sig := alter_Check_3_sig) (out := alter_Check_3_out) rfl Try.call18 (fun X => by kernel_rfl)

def slices_IndexFunc_1_sig : Shape := ⟨[(.list (.list (.int .i64)))], [(0, .v 0), (1, .fn 18 [])], []⟩
def slices_IndexFunc_1_out : Shape := ⟨[(.int .i64)], [(0, .v 0)], []⟩
noncomputable def slices_IndexFunc_1_ce : CE := ⟨21, slices_IndexFunc_1_sig, slices_IndexFunc_1_out, fun X => slices_IndexFunc_1 X⟩
theorem slices_IndexFunc_1_ok : CE.ok Try.prog slices_IndexFunc_1_ce := CE.of (Γ := [alter_Check_3_ce]) (by kernel_rfl) TT_ok (GOK.cons alter_Check_3_ok (GOK.nil)) ⟨[(2, ⟨⟨[(.int .i64)], [(8, .v 0)], []⟩, [4, 5, 9, 10, 11, 12, 13, 14, 15, 16, 17, 18], [], [], 0, []⟩)], [], [], []⟩ Try.func21 rfl Try.ntmps21 (rs := [.tmp 4]) rfl (sig := slices_IndexFunc_1_sig) (out := slices_IndexFunc_1_out) rfl Try.call21 (fun X => by kernel_rfl)

def slices_ContainsFunc_1_sig : Shape := ⟨[(.list (.list (.int .i64)))], [(0, .v 0), (1, .fn 18 [])], []⟩
def slices_ContainsFunc_1_out : Shape := ⟨[.bool], [(0, .v 0)], []⟩
noncomputable def slices_ContainsFunc_1_ce : CE := ⟨9, slices_ContainsFunc_1_sig, slices_ContainsFunc_1_out, fun X => slices_ContainsFunc_1 X⟩
theorem slices_ContainsFunc_1_ok : CE.ok Try.prog slices_ContainsFunc_1_ce := CE.of (Γ := [slices_IndexFunc_1_ce]) (by kernel_rfl) TT_ok (GOK.cons slices_IndexFunc_1_ok (GOK.nil)) ⟨[], [], [], []⟩ Try.func9 rfl Try.ntmps9 (rs := [.tmp 4]) rfl (sig := slices_ContainsFunc_1_sig) (out := slices_ContainsFunc_1_out) rfl Try.call9 (fun X => by kernel_rfl)

def alter_Check_2_sig : Shape := ⟨[(.int .i64), (.int .i64)], [(0, .v 0), (1, .addr 1)], []⟩
def alter_Check_2_out : Shape := ⟨[.bool], [(0, .v 0)], []⟩
noncomputable def alter_Check_2_ce : CE := ⟨17, alter_Check_2_sig, alter_Check_2_out, fun X => alter_Check_2 X.1 X.2⟩
theorem alter_Check_2_ok : CE.ok Try.prog alter_Check_2_ce := CE.of (Γ := []) (by kernel_rfl) TT_ok (GOK.nil) ⟨[], [], [], []⟩ Try.func17 rfl Try.ntmps17 (rs := [.tmp 3]) rfl (sig := alter_Check_2_sig) (out := alter_Check_2_out) rfl Try.call17 (fun X => by kernel_rfl)

def slices_IndexFunc_3_sig : Shape := ⟨[(.list (.int .i64)), (.int .i64)], [(0, .v 0), (1, .fn 17 [.addr 1])], []⟩
def slices_IndexFunc_3_out : Shape := ⟨[(.int .i64)], [(0, .v 0)], []⟩
noncomputable def slices_IndexFunc_3_ce : CE := ⟨22, slices_IndexFunc_3_sig, slices_IndexFunc_3_out, fun X => slices_IndexFunc_3 X.1 X.2⟩
theorem slices_IndexFunc_3_ok : CE.ok Try.prog slices_IndexFunc_3_ce := CE.of (Γ := [alter_Check_2_ce]) (by kernel_rfl) TT_ok (GOK.cons alter_Check_2_ok (GOK.nil)) ⟨[(2, ⟨⟨[(.int .i64)], [(8, .v 0)], []⟩, [4, 5, 9, 10, 11, 12, 13, 14, 15, 16, 17, 18], [], [], 0, []⟩)], [], [], []⟩ Try.func22 rfl Try.ntmps22 (rs := [.tmp 4]) rfl (sig := slices_IndexFunc_3_sig) (out := slices_IndexFunc_3_out) rfl Try.call22 (fun X => by kernel_rfl)

def slices_ContainsFunc_3_sig : Shape := ⟨[(.list (.int .i64)), (.int .i64)], [(0, .v 0), (1, .fn 17 [.addr 1])], []⟩
def slices_ContainsFunc_3_out : Shape := ⟨[.bool], [(0, .v 0)], []⟩
noncomputable def slices_ContainsFunc_3_ce : CE := ⟨11, slices_ContainsFunc_3_sig, slices_ContainsFunc_3_out, fun X => slices_ContainsFunc_3 X.1 X.2⟩
theorem slices_ContainsFunc_3_ok : CE.ok Try.prog slices_ContainsFunc_3_ce := CE.of (Γ := [slices_IndexFunc_3_ce]) (by kernel_rfl) TT_ok (GOK.cons slices_IndexFunc_3_ok (GOK.nil)) ⟨[], [], [], []⟩ Try.func11 rfl Try.ntmps11 (rs := [.tmp 4]) rfl (sig := slices_ContainsFunc_3_sig) (out := slices_ContainsFunc_3_out) rfl Try.call11 (fun X => by kernel_rfl)

def alter_Check_4_sig : Shape := ⟨[(.list (.int .i64)), (.int .i64)], [(0, .v 0), (1, .ptr 100000 0)], [(100000, .box 36 [.fn 17 [.addr 1]])]⟩
def alter_Check_4_out : Shape := ⟨[.bool, (.int .i64)], [(0, .v 0)], [(100000, .box 36 [.fn 17 [.addr 1]])]⟩
noncomputable def alter_Check_4_ce : CE := ⟨19, alter_Check_4_sig, alter_Check_4_out, fun X => alter_Check_4 X.1 X.2⟩
theorem alter_Check_4_ok : CE.ok Try.prog alter_Check_4_ce := CE.of (Γ := [slices_ContainsFunc_3_ce]) (by kernel_rfl) TT_ok (GOK.cons slices_ContainsFunc_3_ok (GOK.nil)) ⟨[], [], [], []⟩ Try.func19 rfl Try.ntmps19 (rs := [.tmp 3]) rfl (sig := alter_Check_4_sig) (out := alter_Check_4_out) rfl Try.call19 (fun X => by kernel_rfl)

def slices_IndexFunc_2_sig : Shape := ⟨[(.list (.list (.int .i64))), (.int .i64)], [(0, .v 0), (1, .fn 19 [.ptr 100000 0])], [(100000, .box 36 [.fn 17 [.addr 1]])]⟩
def slices_IndexFunc_2_out : Shape := ⟨[(.int .i64), (.int .i64)], [(0, .v 0)], [(100000, .box 36 [.fn 17 [.addr 1]])]⟩
noncomputable def slices_IndexFunc_2_ce : CE := ⟨21, slices_IndexFunc_2_sig, slices_IndexFunc_2_out, fun X => slices_IndexFunc_2 X.1 X.2⟩
theorem slices_IndexFunc_2_ok : CE.ok Try.prog slices_IndexFunc_2_ce := CE.of (Γ := [alter_Check_4_ce]) (by kernel_rfl) TT_ok (GOK.cons alter_Check_4_ok (GOK.nil)) ⟨[(2, ⟨⟨[(.int .i64), (.int .i64)], [(1, .fn 19 [.ptr 100000 0]), (8, .v 0)], [(100000, .box 36 [.fn 17 [.addr 1]])]⟩, [4, 5, 9, 10, 11, 12, 13, 14, 15, 16, 17, 18], [], [], 0, []⟩)], [], [], []⟩ Try.func21 rfl Try.ntmps21 (rs := [.tmp 4]) rfl (sig := slices_IndexFunc_2_sig) (out := slices_IndexFunc_2_out) rfl Try.call21 (fun X => by kernel_rfl)

def slices_ContainsFunc_2_sig : Shape := ⟨[(.list (.list (.int .i64))), (.int .i64)], [(0, .v 0), (1, .fn 19 [.ptr 100000 0])], [(100000, .box 36 [.fn 17 [.addr 1]])]⟩
def slices_ContainsFunc_2_out : Shape := ⟨[.bool, (.int .i64)], [(0, .v 0)], [(100000, .box 36 [.fn 17 [.addr 1]])]⟩
noncomputable def slices_ContainsFunc_2_ce : CE := ⟨9, slices_ContainsFunc_2_sig, slices_ContainsFunc_2_out, fun X => slices_ContainsFunc_2 X.1 X.2⟩
theorem slices_ContainsFunc_2_ok : CE.ok Try.prog slices_ContainsFunc_2_ce := CE.of (Γ := [slices_IndexFunc_2_ce]) (by kernel_rfl) TT_ok (GOK.cons slices_IndexFunc_2_ok (GOK.nil)) ⟨[], [], [], []⟩ Try.func9 rfl Try.ntmps9 (rs := [.tmp 4]) rfl (sig := slices_ContainsFunc_2_sig) (out := slices_ContainsFunc_2_out) rfl Try.call9 (fun X => by kernel_rfl)

def alter_Check_5_sig : Shape := ⟨[(.int .i64)], [(0, .v 0)], []⟩
def alter_Check_5_out : Shape := ⟨[.bool], [(0, .v 0)], []⟩
noncomputable def alter_Check_5_ce : CE := ⟨20, alter_Check_5_sig, alter_Check_5_out, fun X => alter_Check_5 X⟩
theorem alter_Check_5_ok : CE.ok Try.prog alter_Check_5_ce := CE.of (Γ := []) (by kernel_rfl) TT_ok (GOK.nil) ⟨[], [], [], []⟩ Try.func20 rfl Try.ntmps20 (rs := [.tmp 2]) rfl (sig := alter_Check_5_sig) (out := alter_Check_5_out) rfl Try.call20 (fun X => by kernel_rfl)

def slices_IndexFunc_4_sig : Shape := ⟨[(.list (.int .i64))], [(0, .v 0), (1, .fn 20 [])], []⟩
def slices_IndexFunc_4_out : Shape := ⟨[(.int .i64)], [(0, .v 0)], []⟩
noncomputable def slices_IndexFunc_4_ce : CE := ⟨22, slices_IndexFunc_4_sig, slices_IndexFunc_4_out, fun X => slices_IndexFunc_4 X⟩
theorem slices_IndexFunc_4_ok : CE.ok Try.prog slices_IndexFunc_4_ce := CE.of (Γ := [alter_Check_5_ce]) (by kernel_rfl) TT_ok (GOK.cons alter_Check_5_ok (GOK.nil)) ⟨[(2, ⟨⟨[(.int .i64)], [(8, .v 0)], []⟩, [4, 5, 9, 10, 11, 12, 13, 14, 15, 16, 17, 18], [], [], 0, []⟩)], [], [], []⟩ Try.func22 rfl Try.ntmps22 (rs := [.tmp 4]) rfl (sig := slices_IndexFunc_4_sig) (out := slices_IndexFunc_4_out) rfl Try.call22 (fun X => by kernel_rfl)

def slices_ContainsFunc_4_sig : Shape := ⟨[(.list (.int .i64))], [(0, .v 0), (1, .fn 20 [])], []⟩
def slices_ContainsFunc_4_out : Shape := ⟨[.bool], [(0, .v 0)], []⟩
noncomputable def slices_ContainsFunc_4_ce : CE := ⟨11, slices_ContainsFunc_4_sig, slices_ContainsFunc_4_out, fun X => slices_ContainsFunc_4 X⟩
theorem slices_ContainsFunc_4_ok : CE.ok Try.prog slices_ContainsFunc_4_ce := CE.of (Γ := [slices_IndexFunc_4_ce]) (by kernel_rfl) TT_ok (GOK.cons slices_IndexFunc_4_ok (GOK.nil)) ⟨[], [], [], []⟩ Try.func11 rfl Try.ntmps11 (rs := [.tmp 4]) rfl (sig := slices_ContainsFunc_4_sig) (out := slices_ContainsFunc_4_out) rfl Try.call11 (fun X => by kernel_rfl)

def alter_Check_sig : Shape := ⟨[(.pair (.int .i64) (.pair (.int .i64) (.pair (.list (.list (.list (.list (.int .i64))))) (.pair (.list (.int .i64)) .unit))))], [(0, .v 0)], []⟩
def alter_Check_out : Shape := ⟨[(.int .i64)], [(0, .v 0)], []⟩
noncomputable def alter_Check_ce : CE := ⟨8, alter_Check_sig, alter_Check_out, fun X => alter_Check X⟩
theorem alter_Check_ok : CE.ok Try.prog alter_Check_ce := CE.of (Γ := [slices_ContainsFunc_ce, slices_ContainsFunc_1_ce, slices_ContainsFunc_2_ce, alter_Check_2_ce, slices_ContainsFunc_4_ce]) (by kernel_rfl) TT_ok (GOK.cons slices_ContainsFunc_ok (GOK.cons slices_ContainsFunc_1_ok (GOK.cons slices_ContainsFunc_2_ok (GOK.cons alter_Check_2_ok (GOK.cons slices_ContainsFunc_4_ok (GOK.nil)))))) ⟨[(11, ⟨⟨[.bool, (.int .i64), (.int .i64)], [(4, .v 0), (5, .ptr 2 0), (42, .v 1)], [(2, .box 36 [.fn 17 [.addr 2]])]⟩, [2, 7, 9, 43, 44, 45, 46, 47, 48, 49, 50, 51, 52, 53, 54, 55, 56, 57, 58, 59, 60, 61, 62, 63, 64, 65, 66], [], [0], 3, []⟩), (14, ⟨⟨[.bool, (.int .i64), (.int .i64)], [(4, .v 0), (5, .ptr 2 0), (48, .v 1)], [(2, .box 36 [.fn 17 [.addr 2]])]⟩, [2, 9, 49, 50, 51, 52, 53, 54, 55, 56, 57, 58, 59, 60, 61, 62, 63, 64, 65], [], [0], 3, []⟩)], [], [], []⟩ Try.func8 rfl Try.ntmps8 (rs := [.tmp 2]) rfl (sig := alter_Check_sig) (out := alter_Check_out) rfl Try.call8 (fun X => by kernel_rfl)

def alter_Other_1_1_sig : Shape := ⟨[(.int .i64), (.int .i64)], [(0, .v 0), (1, .addr 1)], []⟩
def alter_Other_1_1_out : Shape := ⟨[.bool], [(0, .v 0)], []⟩
noncomputable def alter_Other_1_1_ce : CE := ⟨12, alter_Other_1_1_sig, alter_Other_1_1_out, fun X => alter_Other_1_1 X.1 X.2⟩
theorem alter_Other_1_1_ok : CE.ok Try.prog alter_Other_1_1_ce := CE.of (Γ := []) (by kernel_rfl) TT_ok (GOK.nil) ⟨[], [], [], []⟩ Try.func12 rfl Try.ntmps12 (rs := [.tmp 3]) rfl (sig := alter_Other_1_1_sig) (out := alter_Other_1_1_out) rfl Try.call12 (fun X => by kernel_rfl)

def slices_IndexFunc_6_sig : Shape := ⟨[(.list (.int .i64)), (.int .i64)], [(0, .v 0), (1, .fn 12 [.addr 1])], []⟩
def slices_IndexFunc_6_out : Shape := ⟨[(.int .i64)], [(0, .v 0)], []⟩
noncomputable def slices_IndexFunc_6_ce : CE := ⟨22, slices_IndexFunc_6_sig, slices_IndexFunc_6_out, fun X => slices_IndexFunc_6 X.1 X.2⟩
theorem slices_IndexFunc_6_ok : CE.ok Try.prog slices_IndexFunc_6_ce := CE.of (Γ := [alter_Other_1_1_ce]) (by kernel_rfl) TT_ok (GOK.cons alter_Other_1_1_ok (GOK.nil)) ⟨[(2, ⟨⟨[(.int .i64)], [(8, .v 0)], []⟩, [4, 5, 9, 10, 11, 12, 13, 14, 15, 16, 17, 18], [], [], 0, []⟩)], [], [], []⟩ Try.func22 rfl Try.ntmps22 (rs := [.tmp 4]) rfl (sig := slices_IndexFunc_6_sig) (out := slices_IndexFunc_6_out) rfl Try.call22 (fun X => by kernel_rfl)

def slices_ContainsFunc_6_sig : Shape := ⟨[(.list (.int .i64)), (.int .i64)], [(0, .v 0), (1, .fn 12 [.addr 1])], []⟩
def slices_ContainsFunc_6_out : Shape := ⟨[.bool], [(0, .v 0)], []⟩
noncomputable def slices_ContainsFunc_6_ce : CE := ⟨11, slices_ContainsFunc_6_sig, slices_ContainsFunc_6_out, fun X => slices_ContainsFunc_6 X.1 X.2⟩
theorem slices_ContainsFunc_6_ok : CE.ok Try.prog slices_ContainsFunc_6_ce := CE.of (Γ := [slices_IndexFunc_6_ce]) (by kernel_rfl) TT_ok (GOK.cons slices_IndexFunc_6_ok (GOK.nil)) ⟨[], [], [], []⟩ Try.func11 rfl Try.ntmps11 (rs := [.tmp 4]) rfl (sig := slices_ContainsFunc_6_sig) (out := slices_ContainsFunc_6_out) rfl Try.call11 (fun X => by kernel_rfl)

def alter_Other_1_sig : Shape := ⟨[(.list (.int .i64)), (.int .i64)], [(0, .v 0), (1, .addr 1)], []⟩
def alter_Other_1_out : Shape := ⟨[.bool], [(0, .v 0)], []⟩
noncomputable def alter_Other_1_ce : CE := ⟨10, alter_Other_1_sig, alter_Other_1_out, fun X => alter_Other_1 X.1 X.2⟩
theorem alter_Other_1_ok : CE.ok Try.prog alter_Other_1_ce := CE.of (Γ := [slices_ContainsFunc_6_ce]) (by kernel_rfl) TT_ok (GOK.cons slices_ContainsFunc_6_ok (GOK.nil)) ⟨[], [], [], []⟩ Try.func10 rfl Try.ntmps10 (rs := [.tmp 3]) rfl (sig := alter_Other_1_sig) (out := alter_Other_1_out) rfl Try.call10 (fun X => by kernel_rfl)

def slices_IndexFunc_5_sig : Shape := ⟨[(.list (.list (.int .i64))), (.int .i64)], [(0, .v 0), (1, .fn 10 [.addr 1])], []⟩
def slices_IndexFunc_5_out : Shape := ⟨[(.int .i64)], [(0, .v 0)], []⟩
noncomputable def slices_IndexFunc_5_ce : CE := ⟨21, slices_IndexFunc_5_sig, slices_IndexFunc_5_out, fun X => slices_IndexFunc_5 X.1 X.2⟩
theorem slices_IndexFunc_5_ok : CE.ok Try.prog slices_IndexFunc_5_ce := CE.of (Γ := [alter_Other_1_ce]) (by kernel_rfl) TT_ok (GOK.cons alter_Other_1_ok (GOK.nil)) ⟨[(2, ⟨⟨[(.int .i64)], [(8, .v 0)], []⟩, [4, 5, 9, 10, 11, 12, 13, 14, 15, 16, 17, 18], [], [], 0, []⟩)], [], [], []⟩ Try.func21 rfl Try.ntmps21 (rs := [.tmp 4]) rfl (sig := slices_IndexFunc_5_sig) (out := slices_IndexFunc_5_out) rfl Try.call21 (fun X => by kernel_rfl)

def slices_ContainsFunc_5_sig : Shape := ⟨[(.list (.list (.int .i64))), (.int .i64)], [(0, .v 0), (1, .fn 10 [.addr 1])], []⟩
def slices_ContainsFunc_5_out : Shape := ⟨[.bool], [(0, .v 0)], []⟩
noncomputable def slices_ContainsFunc_5_ce : CE := ⟨9, slices_ContainsFunc_5_sig, slices_ContainsFunc_5_out, fun X => slices_ContainsFunc_5 X.1 X.2⟩
theorem slices_ContainsFunc_5_ok : CE.ok Try.prog slices_ContainsFunc_5_ce := CE.of (Γ := [slices_IndexFunc_5_ce]) (by kernel_rfl) TT_ok (GOK.cons slices_IndexFunc_5_ok (GOK.nil)) ⟨[], [], [], []⟩ Try.func9 rfl Try.ntmps9 (rs := [.tmp 4]) rfl (sig := slices_ContainsFunc_5_sig) (out := slices_ContainsFunc_5_out) rfl Try.call9 (fun X => by kernel_rfl)

def alter_Other_2_sig : Shape := ⟨[(.int .i64), (.int .i64)], [(0, .v 0), (1, .addr 1)], []⟩
def alter_Other_2_out : Shape := ⟨[.bool], [(0, .v 0)], []⟩
noncomputable def alter_Other_2_ce : CE := ⟨13, alter_Other_2_sig, alter_Other_2_out, fun X => alter_Other_2 X.1 X.2⟩
theorem alter_Other_2_ok : CE.ok Try.prog alter_Other_2_ce := CE.of (Γ := []) (by kernel_rfl) TT_ok (GOK.nil) ⟨[], [], [], []⟩ Try.func13 rfl Try.ntmps13 (rs := [.tmp 3]) rfl (sig := alter_Other_2_sig) (out := alter_Other_2_out) rfl Try.call13 (fun X => by kernel_rfl)

def slices_IndexFunc_7_sig : Shape := ⟨[(.list (.int .i64)), (.int .i64)], [(0, .v 0), (1, .fn 13 [.addr 1])], []⟩
def slices_IndexFunc_7_out : Shape := ⟨[(.int .i64)], [(0, .v 0)], []⟩
noncomputable def slices_IndexFunc_7_ce : CE := ⟨22, slices_IndexFunc_7_sig, slices_IndexFunc_7_out, fun X => slices_IndexFunc_7 X.1 X.2⟩
theorem slices_IndexFunc_7_ok : CE.ok Try.prog slices_IndexFunc_7_ce := CE.of (Γ := [alter_Other_2_ce]) (by kernel_rfl) TT_ok (GOK.cons alter_Other_2_ok (GOK.nil)) ⟨[(2, ⟨⟨[(.int .i64)], [(8, .v 0)], []⟩, [4, 5, 9, 10, 11, 12, 13, 14, 15, 16, 17, 18], [], [], 0, []⟩)], [], [], []⟩ Try.func22 rfl Try.ntmps22 (rs := [.tmp 4]) rfl (sig := slices_IndexFunc_7_sig) (out := slices_IndexFunc_7_out) rfl Try.call22 (fun X => by kernel_rfl)

def slices_ContainsFunc_7_sig : Shape := ⟨[(.list (.int .i64)), (.int .i64)], [(0, .v 0), (1, .fn 13 [.addr 1])], []⟩
def slices_ContainsFunc_7_out : Shape := ⟨[.bool], [(0, .v 0)], []⟩
noncomputable def slices_ContainsFunc_7_ce : CE := ⟨11, slices_ContainsFunc_7_sig, slices_ContainsFunc_7_out, fun X => slices_ContainsFunc_7 X.1 X.2⟩
theorem slices_ContainsFunc_7_ok : CE.ok Try.prog slices_ContainsFunc_7_ce := CE.of (Γ := [slices_IndexFunc_7_ce]) (by kernel_rfl) TT_ok (GOK.cons slices_IndexFunc_7_ok (GOK.nil)) ⟨[], [], [], []⟩ Try.func11 rfl Try.ntmps11 (rs := [.tmp 4]) rfl (sig := slices_ContainsFunc_7_sig) (out := slices_ContainsFunc_7_out) rfl Try.call11 (fun X => by kernel_rfl)

def alter_Other_sig : Shape := ⟨[(.pair (.int .i64) (.pair (.int .i64) (.pair (.list (.list (.list (.list (.int .i64))))) (.pair (.list (.int .i64)) .unit))))], [(0, .v 0)], []⟩
def alter_Other_out : Shape := ⟨[(.pair (.int .i64) (.pair (.int .i64) (.pair (.list (.list (.list (.list (.int .i64))))) (.pair (.list (.int .i64)) .unit)))), (.int .i64)], [(0, .v 0), (1, .v 1)], []⟩
noncomputable def alter_Other_ce : CE := ⟨4, alter_Other_sig, alter_Other_out, fun X => alter_Other X⟩
theorem alter_Other_ok : CE.ok Try.prog alter_Other_ce := CE.of (Γ := [alter_Check_ce, slices_ContainsFunc_5_ce, slices_ContainsFunc_7_ce]) (by kernel_rfl) TT_ok (GOK.cons alter_Check_ok (GOK.cons slices_ContainsFunc_5_ok (GOK.cons slices_ContainsFunc_7_ok (GOK.nil)))) ⟨[(6, ⟨⟨[(.int .i64), (.int .i64), (.int .i64), (.list (.list (.list (.list (.int .i64))))), (.list (.int .i64))], [(5, .ptr 2 0), (33, .v 0)], [(2, .box 25 [.v 1, .v 2, .own 3, .own 4]), (3, .arr 32 3), (4, .arr 3 4)]⟩, [6, 7, 8, 10, 11, 12, 13, 14, 16, 17, 18, 34, 35, 36, 37, 38, 39, 40, 41, 42, 43, 44, 45, 46, 47, 48, 49, 50, 51, 52, 53, 54, 55, 56, 57, 58, 59, 60, 61, 62, 63, 64, 65, 66, 67, 68, 69, 70, 71, 72, 73, 74, 75, 76, 77, 78, 79, 80, 81, 82, 83, 84, 85, 86, 87, 88, 89, 90, 91, 92, 93, 94, 95, 96, 97, 98, 99, 100, 101, 102, 103, 104, 105, 106, 107, 108, 109, 110, 111, 112, 113, 114, 115, 116], [], [0, 1], 5, [(2, 2, some 32, (.list (.list (.list (.int .i64))))), (2, 3, some 3, (.int .i64))]⟩), (11, ⟨⟨[(.int .i64), (.list (.list (.list (.int .i64))))], [(8, .own 7), (51, .v 0)], [(7, .arr 33 1)]⟩, [10, 11, 12, 13, 14, 16, 17, 18, 39, 52, 53, 54, 55, 56, 57, 58, 59, 60, 61, 62, 63, 64, 65, 66, 67, 68, 69, 70, 71, 72, 73, 74, 75, 76, 77, 78, 79, 80, 81, 82, 83, 84, 85, 86, 87, 88, 89, 90, 91, 92, 93, 94, 95, 96, 97, 98, 99, 100, 101, 102, 103, 104, 105, 106, 107, 108, 109], [], [0, 1, 2, 3, 5, 6], 8, []⟩), (15, ⟨⟨[(.int .i64), (.list (.int .i64))], [(11, .own 8), (59, .v 0)], [(8, .arr 3 1)]⟩, [12, 13, 60, 61, 62, 63, 64, 65, 66, 67, 68, 69, 70, 71, 72, 73, 74, 75, 76, 77], [], [0, 1, 2, 3, 5, 6, 7], 9, []⟩), (23, ⟨⟨[(.int .i64), (.list (.list (.int .i64)))], [(14, .own 9), (80, .v 0)], [(9, .arr 23 1)]⟩, [16, 17, 18, 81, 82, 83, 84, 85, 86, 87, 88, 89, 90, 91, 92, 93, 94, 95, 96, 97, 98, 99, 100, 101, 102, 103, 104], [], [0, 1, 2, 3, 5, 6, 7, 8], 10, []⟩), (27, ⟨⟨[(.int .i64), (.list (.int .i64))], [(17, .own 10), (87, .v 0)], [(10, .arr 3 1)]⟩, [18, 88, 89, 90, 91, 92, 93, 94, 95, 96, 97, 98, 99], [], [0, 1, 2, 3, 5, 6, 7, 8, 9], 11, []⟩)], [(18, ⟨⟨[.bool], [(72, .v 0)], []⟩, [66, 67, 68, 69, 70, 71], [], [0, 1, 2, 3, 5, 6, 7, 8, 9], 10, []⟩)], [(8, [(0, 0), (0, 1), (0, 2), (0, 3), (0, 4), (0, 5), (0, 6), (0, 7), (1, 8), (2, 9), (0, 10), (2, 11)])], []⟩ Try.func4 rfl Try.ntmps4 (rs := [.cell 2 25, .tmp 3]) rfl (sig := alter_Other_sig) (out := alter_Other_out) rfl Try.call4 (fun X => by kernel_rfl)

def r26_Check_sig : Shape := ⟨[(.pair (.int .i64) (.pair (.int .i64) (.pair (.list (.list (.list (.list (.int .i64))))) (.pair (.list (.int .i64)) .unit))))], [(0, .v 0)], []⟩
def r26_Check_out : Shape := ⟨[(.int .i64)], [(0, .v 0)], []⟩
noncomputable def r26_Check_ce : CE := ⟨5, r26_Check_sig, r26_Check_out, fun X => r26_Check X⟩
theorem r26_Check_ok : CE.ok Try.prog r26_Check_ce := CE.of (Γ := []) (by kernel_rfl) TT_ok (GOK.nil) ⟨[(9, ⟨⟨[(.int .i64)], [(4, .v 0)], []⟩, [2, 33, 34, 35, 36, 37, 38, 39, 40, 41, 42, 43, 44, 45, 46], [], [0], 1, []⟩), (15, ⟨⟨[.bool, (.int .i64)], [(5, .v 0), (6, .v 1)], []⟩, [2, 7, 8, 9, 10, 56, 57, 58, 59, 60, 61, 62, 63, 64, 65, 66, 67, 68, 69, 70, 71, 72, 73, 74, 75, 76, 77, 78, 79, 80, 81, 82, 83, 84, 85, 86, 87, 88, 89, 90, 91, 92, 93, 94, 95, 96, 97, 98, 99, 100, 101, 102, 103, 104, 105, 106, 107, 108, 109, 110, 111, 112, 113, 114, 115, 116, 117, 118, 119, 120, 121, 122, 123, 124, 125, 126, 127, 128, 129, 130, 131, 132, 133, 134, 135, 136, 137], [], [0], 1, []⟩), (18, ⟨⟨[.bool, (.int .i64)], [(5, .v 0), (7, .v 1)], []⟩, [2, 8, 9, 10, 61, 62, 63, 64, 65, 66, 67, 68, 69, 70, 71, 72, 73, 74, 75, 76, 77, 78, 79, 80, 81, 82, 83, 84, 85, 86, 87, 88, 89, 90, 91, 92, 93, 94, 95, 96, 97, 98, 99, 100, 101, 102, 103, 104, 105, 106, 107, 108, 109, 110, 111, 112, 113, 114, 115, 116, 117, 118, 119, 120], [], [0], 1, []⟩), (24, ⟨⟨[.bool, (.int .i64)], [(5, .v 0), (9, .v 1)], []⟩, [2, 10, 78, 79, 80, 81, 82, 83, 84, 85, 86, 87, 88, 89, 90, 91, 92, 93, 94, 95, 96, 97, 98, 99, 100, 101, 102, 103, 104, 105, 106, 107, 108, 109, 110, 111, 112, 113, 114, 115, 116, 117, 118, 119, 120], [], [0], 1, []⟩), (29, ⟨⟨[.bool, (.int .i64)], [(5, .v 0), (10, .v 1)], []⟩, [90, 91, 92, 93, 94, 95, 96, 97, 98, 99, 100, 101, 102, 103, 104, 105, 106, 107, 108, 109, 110, 111, 112, 113, 114, 115, 116, 117, 118, 119, 120], [], [0], 1, []⟩)], [(13, ⟨⟨[.bool], [(5, .v 0)], []⟩, [47, 48, 49, 50, 51, 52, 53, 54, 55], [], [0], 1, []⟩)], [(11, [(0, 0), (0, 1), (0, 2), (0, 3), (0, 4), (0, 5), (0, 6), (0, 7), (0, 8)])], []⟩ Try.func5 rfl Try.ntmps5 (rs := [.tmp 2]) rfl (sig := r26_Check_sig) (out := r26_Check_out) rfl Try.call5 (fun X => by kernel_rfl)

def r1_May_sig : Shape := ⟨[(.int .i64), (.list (.int .i64))], [(0, .v 0), (1, .v 1)], []⟩
def r1_May_out : Shape := ⟨[(.int .i64)], [(0, .v 0)], []⟩
noncomputable def r1_May_ce : CE := ⟨6, r1_May_sig, r1_May_out, fun X => r1_May X.1 X.2⟩
theorem r1_May_ok : CE.ok Try.prog r1_May_ce := CE.of (Γ := []) (by kernel_rfl) TT_ok (GOK.nil) ⟨[(6, ⟨⟨[(.int .i64)], [(5, .v 0)], []⟩, [4, 15, 16, 17, 18, 19, 20, 21, 22, 23, 24, 25, 26, 27, 28, 29, 30, 31, 32, 33], [], [], 0, []⟩)], [], [], []⟩ Try.func6 rfl Try.ntmps6 (rs := [.tmp 4]) rfl (sig := r1_May_sig) (out := r1_May_out) rfl Try.call6 (fun X => by kernel_rfl)

def r26_From_sig : Shape := ⟨[(.pair (.int .i64) (.pair (.int .i64) (.pair (.list (.list (.list (.list (.int .i64))))) (.pair (.list (.int .i64)) .unit)))), (.int .i64), (.list (.int .i64)), (.int .i64), (.list (.list (.int .i64)))], [(0, .v 0), (1, .v 1), (2, .v 2), (3, .v 3), (4, .own 100000)], [(100000, .out 100001 23 3 4)]⟩
def r26_From_out : Shape := ⟨[.bool, (.list (.list (.int .i64)))], [(0, .v 0)], [(100000, .out 100001 23 3 1)]⟩
noncomputable def r26_From_ce : CE := ⟨14, r26_From_sig, r26_From_out, LFix r26_From_F⟩
theorem r26_From_ok : CE.ok Try.prog r26_From_ce := CE.ofRec (Γ := []) (by kernel_rfl) TT_ok (GOK.nil) ⟨[(8, ⟨⟨[.bool, (.int .i64), (.list (.list (.int .i64)))], [(4, .own 100000), (11, .v 0), (13, .v 1)], [(100000, .out 100001 23 3 2)]⟩, [14, 15, 19, 21, 53, 54, 55, 56, 57, 58, 59, 60, 61, 62, 63, 64, 65, 66, 67, 68, 69, 70, 71, 72, 73, 74, 75, 76, 77, 78, 79, 80, 81, 82, 83, 84, 85, 86, 87, 88], [], [0], 1, []⟩), (12, ⟨⟨[.bool, (.int .i64), (.list (.list (.int .i64)))], [(4, .own 100000), (14, .v 0), (15, .v 1)], [(100000, .out 100001 23 3 2)]⟩, [63, 64, 65, 66, 67, 68, 69, 70, 71, 72, 73, 74, 75, 76, 77, 78, 79, 80, 81, 82, 83, 84, 85, 86, 87], [], [0], 1, []⟩)], [(9, ⟨⟨[.bool, (.list (.list (.int .i64)))], [(4, .own 100000), (11, .v 0)], [(100000, .out 100001 23 3 1)]⟩, [12, 13, 14, 15, 19, 21, 38, 39, 40, 41, 42, 43, 44, 45, 46, 47, 48, 49, 50, 51, 52, 53, 54, 55, 56, 57, 58, 59, 60, 61, 62, 63, 64, 65, 66, 67, 68, 69, 70, 71, 72, 73, 74, 75, 76, 77, 78, 79, 80, 81, 82, 83, 84, 85, 86, 87, 88], [], [0], 1, []⟩), (18, ⟨⟨[(.list (.list (.int .i64)))], [(4, .own 100000)], [(100000, .out 100001 23 3 0)]⟩, [92, 94, 95, 96, 97, 98, 99, 100, 101], [], [0], 1, []⟩)], [(6, [(0, 0), (0, 1), (0, 2), (0, 3), (0, 4), (0, 5), (0, 6), (0, 7), (0, 8), (0, 9), (0, 10), (0, 11)]), (14, [(0, 0), (0, 1), (0, 2), (0, 3), (0, 4), (0, 5), (0, 6), (0, 7), (0, 8), (0, 9), (0, 10), (0, 11), (2, 12), (0, 13)]), (16, [(0, 0), (0, 1), (0, 2), (0, 3), (0, 4), (0, 5), (4, 6)]), (18, [(0, 0), (0, 1), (0, 2), (0, 3), (0, 4), (0, 5), (4, 6)])], []⟩ Try.func14 rfl Try.ntmps14 (rs := [.tmp 10]) rfl (sig := r26_From_sig) (out := r26_From_out) rfl Try.call14 (d := r26_From_F) (fun rc X => by kernel_rfl)

def r26_Accepts_sig : Shape := ⟨[(.pair (.int .i64) (.pair (.int .i64) (.pair (.list (.list (.list (.list (.int .i64))))) (.pair (.list (.int .i64)) .unit)))), (.list (.int .i64))], [(0, .v 0), (1, .v 1)], []⟩
def r26_Accepts_out : Shape := ⟨[.bool], [(0, .v 0)], []⟩
noncomputable def r26_Accepts_ce : CE := ⟨7, r26_Accepts_sig, r26_Accepts_out, fun X => r26_Accepts X.1 X.2⟩
theorem r26_Accepts_ok : CE.ok Try.prog r26_Accepts_ce := CE.of (Γ := [r26_From_ce]) (by kernel_rfl) TT_ok (GOK.cons r26_From_ok (GOK.nil)) ⟨[(3, ⟨⟨[(.int .i64), (.list (.list (.int .i64)))], [(5, .own 1), (6, .v 0)], [(1, .out 2 23 3 1)]⟩, [7, 8, 9, 10, 11, 12, 13, 14, 15, 16, 17, 18, 19, 20], [], [0], 3, []⟩)], [], [(5, [(0, 0), (0, 1), (0, 2), (0, 3), (2, 4), (4, 5), (4, 6), (0, 7)])], []⟩ Try.func7 rfl Try.ntmps7 (rs := [.tmp 4]) rfl (sig := r26_Accepts_sig) (out := r26_Accepts_out) rfl Try.call7 (fun X => by kernel_rfl)

def law_AlterOther_sig : Shape := ⟨[(.pair (.int .i64) (.pair (.int .i64) (.pair (.list (.list (.list (.list (.int .i64))))) (.pair (.list (.int .i64)) .unit)))), (.list (.int .i64))], [(0, .v 0), (1, .v 1)], []⟩
def law_AlterOther_out : Shape := ⟨[.bool], [(0, .v 0)], []⟩
noncomputable def law_AlterOther_ce : CE := ⟨3, law_AlterOther_sig, law_AlterOther_out, fun X => law_AlterOther X.1 X.2⟩
theorem law_AlterOther_ok : CE.ok Try.prog law_AlterOther_ce := CE.of (Γ := [alter_Other_ce, r26_Check_ce, r1_May_ce, r26_Accepts_ce]) (by kernel_rfl) TT_ok (GOK.cons alter_Other_ok (GOK.cons r26_Check_ok (GOK.cons r1_May_ok (GOK.cons r26_Accepts_ok (GOK.nil))))) ⟨[], [], [], []⟩ Try.func3 rfl Try.ntmps3 (rs := [.tmp 4]) rfl (sig := law_AlterOther_sig) (out := law_AlterOther_out) rfl Try.call3 (fun X => by kernel_rfl)

end Go.Proofs.Ytokmolpkbahocaa.alterOtherW
