/- That the functions of 'AlterAccepts' compute so. -/
import Derived.Test.YtbkokgohnmjdeaaAlterAcceptsD
import Derived.Test.YtbkokgohnmjdeaaProg
import Derived.KernelRfl
import Derived.Shelf.Abstract
import Derived.WalkKit
set_option maxHeartbeats 1000000
set_option maxRecDepth 20000
set_option linter.unusedSimpArgs false
set_option linter.unusedVariables false
set_option linter.unusedSectionVars false
namespace Go.Proofs.Ytbkokgohnmjdeaa.alterAcceptsW
open Go Go.Ab
def te3 : TE := ⟨3, .int .i64, false, 1, 8, .int .i64 0, some (.int .i64)⟩
theorem te3_ok : TEok Try.prog te3 := ⟨TI.of Try.underlying3 rfl (by kernel_rfl), Try.underlying3, fun t h => by cases h; exact ⟨rfl, rfl, by decide, rfl⟩⟩
def te4 : TE := ⟨4, .bool, false, 1, 1, .bool false, some .bool⟩
theorem te4_ok : TEok Try.prog te4 := ⟨TI.of Try.underlying4 rfl (by kernel_rfl), Try.underlying4, fun t h => by cases h; exact ⟨rfl, rfl, by decide, rfl⟩⟩
def te22 : TE := ⟨22, .slice 33, false, 1, 24, .slice none 0 0, some (.list (.list (.list (.list (.int .i64)))))⟩
theorem te22_ok : TEok Try.prog te22 := ⟨TI.of Try.underlying22 rfl (by kernel_rfl), Try.underlying22, fun t h => by cases h; exact ⟨rfl, rfl, by decide, rfl⟩⟩
def te23 : TE := ⟨23, .slice 3, false, 1, 24, .slice none 0 0, some (.list (.int .i64))⟩
theorem te23_ok : TEok Try.prog te23 := ⟨TI.of Try.underlying23 rfl (by kernel_rfl), Try.underlying23, fun t h => by cases h; exact ⟨rfl, rfl, by decide, rfl⟩⟩
def te25 : TE := ⟨25, .struct [(0, 3), (1, 3), (2, 22), (3, 23)] none, true, 4, 64, .agg ⟨[.int .i64 0, .int .i64 0, .slice none 0 0, .slice none 0 0]⟩, some (.pair (.int .i64) (.pair (.int .i64) (.pair (.list (.list (.list (.list (.int .i64))))) (.pair (.list (.int .i64)) .unit))))⟩
theorem te25_ok : TEok Try.prog te25 := ⟨TI.of Try.underlying25 rfl (by kernel_rfl), ⟨⟨_, Try.underlying25, rfl⟩, fun t h => by cases h⟩, fun t h => by cases h; exact ⟨rfl, rfl, by decide, rfl⟩⟩
def te26 : TE := ⟨26, .int .i64, false, 1, 8, .int .i64 0, some (.int .i64)⟩
theorem te26_ok : TEok Try.prog te26 := ⟨TI.of Try.underlying26 rfl (by kernel_rfl), Try.underlying26, fun t h => by cases h; exact ⟨rfl, rfl, by decide, rfl⟩⟩
def te33 : TE := ⟨33, .slice 36, false, 1, 24, .slice none 0 0, some (.list (.list (.list (.int .i64))))⟩
theorem te33_ok : TEok Try.prog te33 := ⟨TI.of Try.underlying33 rfl (by kernel_rfl), Try.underlying33, fun t h => by cases h; exact ⟨rfl, rfl, by decide, rfl⟩⟩
def te35 : TE := ⟨35, .other, false, 1, 8, .nilFunc, none⟩
theorem te35_ok : TEok Try.prog te35 := ⟨TI.of Try.underlying35 rfl (by kernel_rfl), trivial, fun t h => by cases h⟩
def te36 : TE := ⟨36, .slice 23, false, 1, 24, .slice none 0 0, some (.list (.list (.int .i64)))⟩
theorem te36_ok : TEok Try.prog te36 := ⟨TI.of Try.underlying36 rfl (by kernel_rfl), Try.underlying36, fun t h => by cases h; exact ⟨rfl, rfl, by decide, rfl⟩⟩
def TT : List TE := [te3, te4, te22, te23, te25, te26, te33, te35, te36]
theorem TT_ok : TOK Try.prog TT := TOK.cons te3_ok (TOK.cons te4_ok (TOK.cons te22_ok (TOK.cons te23_ok (TOK.cons te25_ok (TOK.cons te26_ok (TOK.cons te33_ok (TOK.cons te35_ok (TOK.cons te36_ok (TOK.nil)))))))))

def alter_Check_1_sig : Shape := ⟨[(.list (.list (.list (.int .i64)))), (.pair (.int .i64) (.pair (.int .i64) (.pair (.list (.list (.list (.list (.int .i64))))) (.pair (.list (.int .i64)) .unit))))], [(0, .v 0), (1, .addr 1)], []⟩
def alter_Check_1_out : Shape := ⟨[.bool], [(0, .v 0)], []⟩
noncomputable def alter_Check_1_ce : CE := ⟨10, alter_Check_1_sig, alter_Check_1_out, fun X => alter_Check_1 X.1 X.2⟩
theorem alter_Check_1_ok : CE.ok Try.prog alter_Check_1_ce := CE.of (Γ := []) (by kernel_rfl) TT_ok (GOK.nil) ⟨[], [], [], []⟩ Try.func10 rfl Try.ntmps10 (rs := [.tmp 3]) rfl (sig := alter_Check_1_sig) (out := alter_Check_1_out) rfl Try.call10 (fun X => by kernel_rfl)

def slices_IndexFunc_sig : Shape := ⟨[(.list (.list (.list (.list (.int .i64))))), (.pair (.int .i64) (.pair (.int .i64) (.pair (.list (.list (.list (.list (.int .i64))))) (.pair (.list (.int .i64)) .unit))))], [(0, .v 0), (1, .fn 10 [.addr 1])], []⟩
def slices_IndexFunc_out : Shape := ⟨[(.int .i64)], [(0, .v 0)], []⟩
noncomputable def slices_IndexFunc_ce : CE := ⟨22, slices_IndexFunc_sig, slices_IndexFunc_out, fun X => slices_IndexFunc X.1 X.2⟩
theorem slices_IndexFunc_ok : CE.ok Try.prog slices_IndexFunc_ce := CE.of (Γ := [alter_Check_1_ce]) (by kernel_rfl) TT_ok (GOK.cons alter_Check_1_ok (GOK.nil)) ⟨[(2, ⟨⟨[(.int .i64)], [(8, .v 0)], []⟩, [4, 5, 9, 10, 11, 12, 13, 14, 15, 16, 17, 18], [], [], 0, []⟩)], [], [], []⟩ Try.func22 rfl Try.ntmps22 (rs := [.tmp 4]) rfl (sig := slices_IndexFunc_sig) (out := slices_IndexFunc_out) rfl Try.call22 (fun X => by kernel_rfl)

def slices_ContainsFunc_sig : Shape := ⟨[(.list (.list (.list (.list (.int .i64))))), (.pair (.int .i64) (.pair (.int .i64) (.pair (.list (.list (.list (.list (.int .i64))))) (.pair (.list (.int .i64)) .unit))))], [(0, .v 0), (1, .fn 10 [.addr 1])], []⟩
def slices_ContainsFunc_out : Shape := ⟨[.bool], [(0, .v 0)], []⟩
noncomputable def slices_ContainsFunc_ce : CE := ⟨9, slices_ContainsFunc_sig, slices_ContainsFunc_out, fun X => slices_ContainsFunc X.1 X.2⟩
theorem slices_ContainsFunc_ok : CE.ok Try.prog slices_ContainsFunc_ce := CE.of (Γ := [slices_IndexFunc_ce]) (by kernel_rfl) TT_ok (GOK.cons slices_IndexFunc_ok (GOK.nil)) ⟨[], [], [], []⟩ Try.func9 rfl Try.ntmps9 (rs := [.tmp 4]) rfl (sig := slices_ContainsFunc_sig) (out := slices_ContainsFunc_out) rfl Try.call9 (fun X => by kernel_rfl)

def alter_Check_3_sig : Shape := ⟨[(.list (.int .i64))], [(0, .v 0)], []⟩
def alter_Check_3_out : Shape := ⟨[.bool], [(0, .v 0)], []⟩
noncomputable def alter_Check_3_ce : CE := ⟨13, alter_Check_3_sig, alter_Check_3_out, fun X => alter_Check_3 X⟩
theorem alter_Check_3_ok : CE.ok Try.prog alter_Check_3_ce := CE.of (Γ := []) (by kernel_rfl) TT_ok (GOK.nil) ⟨[], [], [], []⟩ Try.func13 rfl Try.ntmps13 (rs := [.tmp 2]) rfl (sig := alter_Check_3_sig) (out := alter_Check_3_out) rfl Try.call13 (fun X => by kernel_rfl)

def slices_IndexFunc_1_sig : Shape := ⟨[(.list (.list (.int .i64)))], [(0, .v 0), (1, .fn 13 [])], []⟩
def slices_IndexFunc_1_out : Shape := ⟨[(.int .i64)], [(0, .v 0)], []⟩
noncomputable def slices_IndexFunc_1_ce : CE := ⟨23, slices_IndexFunc_1_sig, slices_IndexFunc_1_out, fun X => slices_IndexFunc_1 X⟩
theorem slices_IndexFunc_1_ok : CE.ok Try.prog slices_IndexFunc_1_ce := CE.of (Γ := [alter_Check_3_ce]) (by kernel_rfl) TT_ok (GOK.cons alter_Check_3_ok (GOK.nil)) ⟨[(2, ⟨⟨[(.int .i64)], [(8, .v 0)], []⟩, [4, 5, 9, 10, 11, 12, 13, 14, 15, 16, 17, 18], [], [], 0, []⟩)], [], [], []⟩ Try.func23 rfl Try.ntmps23 (rs := [.tmp 4]) rfl (sig := slices_IndexFunc_1_sig) (out := slices_IndexFunc_1_out) rfl Try.call23 (fun X => by kernel_rfl)

def slices_ContainsFunc_1_sig : Shape := ⟨[(.list (.list (.int .i64)))], [(0, .v 0), (1, .fn 13 [])], []⟩
def slices_ContainsFunc_1_out : Shape := ⟨[.bool], [(0, .v 0)], []⟩
noncomputable def slices_ContainsFunc_1_ce : CE := ⟨12, slices_ContainsFunc_1_sig, slices_ContainsFunc_1_out, fun X => slices_ContainsFunc_1 X⟩
theorem slices_ContainsFunc_1_ok : CE.ok Try.prog slices_ContainsFunc_1_ce := CE.of (Γ := [slices_IndexFunc_1_ce]) (by kernel_rfl) TT_ok (GOK.cons slices_IndexFunc_1_ok (GOK.nil)) ⟨[], [], [], []⟩ Try.func12 rfl Try.ntmps12 (rs := [.tmp 4]) rfl (sig := slices_ContainsFunc_1_sig) (out := slices_ContainsFunc_1_out) rfl Try.call12 (fun X => by kernel_rfl)

def alter_Check_2_sig : Shape := ⟨[(.int .i64), (.int .i64)], [(0, .v 0), (1, .addr 1)], []⟩
def alter_Check_2_out : Shape := ⟨[.bool], [(0, .v 0)], []⟩
noncomputable def alter_Check_2_ce : CE := ⟨11, alter_Check_2_sig, alter_Check_2_out, fun X => alter_Check_2 X.1 X.2⟩
theorem alter_Check_2_ok : CE.ok Try.prog alter_Check_2_ce := CE.of (Γ := []) (by kernel_rfl) TT_ok (GOK.nil) ⟨[], [], [], []⟩ Try.func11 rfl Try.ntmps11 (rs := [.tmp 3]) rfl (sig := alter_Check_2_sig) (out := alter_Check_2_out) rfl Try.call11 (fun X => by kernel_rfl)

def slices_IndexFunc_3_sig : Shape := ⟨[(.list (.int .i64)), (.int .i64)], [(0, .v 0), (1, .fn 11 [.addr 1])], []⟩
def slices_IndexFunc_3_out : Shape := ⟨[(.int .i64)], [(0, .v 0)], []⟩
noncomputable def slices_IndexFunc_3_ce : CE := ⟨24, slices_IndexFunc_3_sig, slices_IndexFunc_3_out, fun X => slices_IndexFunc_3 X.1 X.2⟩
theorem slices_IndexFunc_3_ok : CE.ok Try.prog slices_IndexFunc_3_ce := CE.of (Γ := [alter_Check_2_ce]) (by kernel_rfl) TT_ok (GOK.cons alter_Check_2_ok (GOK.nil)) ⟨[(2, ⟨⟨[(.int .i64)], [(8, .v 0)], []⟩, [4, 5, 9, 10, 11, 12, 13, 14, 15, 16, 17, 18], [], [], 0, []⟩)], [], [], []⟩ Try.func24 rfl Try.ntmps24 (rs := [.tmp 4]) rfl (sig := slices_IndexFunc_3_sig) (out := slices_IndexFunc_3_out) rfl Try.call24 (fun X => by kernel_rfl)

def slices_ContainsFunc_3_sig : Shape := ⟨[(.list (.int .i64)), (.int .i64)], [(0, .v 0), (1, .fn 11 [.addr 1])], []⟩
def slices_ContainsFunc_3_out : Shape := ⟨[.bool], [(0, .v 0)], []⟩
noncomputable def slices_ContainsFunc_3_ce : CE := ⟨15, slices_ContainsFunc_3_sig, slices_ContainsFunc_3_out, fun X => slices_ContainsFunc_3 X.1 X.2⟩
theorem slices_ContainsFunc_3_ok : CE.ok Try.prog slices_ContainsFunc_3_ce := CE.of (Γ := [slices_IndexFunc_3_ce]) (by kernel_rfl) TT_ok (GOK.cons slices_IndexFunc_3_ok (GOK.nil)) ⟨[], [], [], []⟩ Try.func15 rfl Try.ntmps15 (rs := [.tmp 4]) rfl (sig := slices_ContainsFunc_3_sig) (out := slices_ContainsFunc_3_out) rfl Try.call15 (fun X => by kernel_rfl)

def alter_Check_4_sig : Shape := ⟨[(.list (.int .i64)), (.int .i64)], [(0, .v 0), (1, .ptr 100000 0)], [(100000, .box 35 [.fn 11 [.addr 1]])]⟩
def alter_Check_4_out : Shape := ⟨[.bool, (.int .i64)], [(0, .v 0)], [(100000, .box 35 [.fn 11 [.addr 1]])]⟩
noncomputable def alter_Check_4_ce : CE := ⟨14, alter_Check_4_sig, alter_Check_4_out, fun X => alter_Check_4 X.1 X.2⟩
theorem alter_Check_4_ok : CE.ok Try.prog alter_Check_4_ce := CE.of (Γ := [slices_ContainsFunc_3_ce]) (by kernel_rfl) TT_ok (GOK.cons slices_ContainsFunc_3_ok (GOK.nil)) ⟨[], [], [], []⟩ Try.func14 rfl Try.ntmps14 (rs := [.tmp 3]) rfl (sig := alter_Check_4_sig) (out := alter_Check_4_out) rfl Try.call14 (fun X => by kernel_rfl)

def slices_IndexFunc_2_sig : Shape := ⟨[(.list (.list (.int .i64))), (.int .i64)], [(0, .v 0), (1, .fn 14 [.ptr 100000 0])], [(100000, .box 35 [.fn 11 [.addr 1]])]⟩
def slices_IndexFunc_2_out : Shape := ⟨[(.int .i64), (.int .i64)], [(0, .v 0)], [(100000, .box 35 [.fn 11 [.addr 1]])]⟩
noncomputable def slices_IndexFunc_2_ce : CE := ⟨23, slices_IndexFunc_2_sig, slices_IndexFunc_2_out, fun X => slices_IndexFunc_2 X.1 X.2⟩
theorem slices_IndexFunc_2_ok : CE.ok Try.prog slices_IndexFunc_2_ce := CE.of (Γ := [alter_Check_4_ce]) (by kernel_rfl) TT_ok (GOK.cons alter_Check_4_ok (GOK.nil)) ⟨[(2, ⟨⟨[(.int .i64), (.int .i64)], [(1, .fn 14 [.ptr 100000 0]), (8, .v 0)], [(100000, .box 35 [.fn 11 [.addr 1]])]⟩, [4, 5, 9, 10, 11, 12, 13, 14, 15, 16, 17, 18], [], [], 0, []⟩)], [], [], []⟩ Try.func23 rfl Try.ntmps23 (rs := [.tmp 4]) rfl (sig := slices_IndexFunc_2_sig) (out := slices_IndexFunc_2_out) rfl Try.call23 (fun X => by kernel_rfl)

def slices_ContainsFunc_2_sig : Shape := ⟨[(.list (.list (.int .i64))), (.int .i64)], [(0, .v 0), (1, .fn 14 [.ptr 100000 0])], [(100000, .box 35 [.fn 11 [.addr 1]])]⟩
def slices_ContainsFunc_2_out : Shape := ⟨[.bool, (.int .i64)], [(0, .v 0)], [(100000, .box 35 [.fn 11 [.addr 1]])]⟩
noncomputable def slices_ContainsFunc_2_ce : CE := ⟨12, slices_ContainsFunc_2_sig, slices_ContainsFunc_2_out, fun X => slices_ContainsFunc_2 X.1 X.2⟩
theorem slices_ContainsFunc_2_ok : CE.ok Try.prog slices_ContainsFunc_2_ce := CE.of (Γ := [slices_IndexFunc_2_ce]) (by kernel_rfl) TT_ok (GOK.cons slices_IndexFunc_2_ok (GOK.nil)) ⟨[], [], [], []⟩ Try.func12 rfl Try.ntmps12 (rs := [.tmp 4]) rfl (sig := slices_ContainsFunc_2_sig) (out := slices_ContainsFunc_2_out) rfl Try.call12 (fun X => by kernel_rfl)

def alter_Check_5_sig : Shape := ⟨[(.int .i64)], [(0, .v 0)], []⟩
def alter_Check_5_out : Shape := ⟨[.bool], [(0, .v 0)], []⟩
noncomputable def alter_Check_5_ce : CE := ⟨16, alter_Check_5_sig, alter_Check_5_out, fun X => alter_Check_5 X⟩
theorem alter_Check_5_ok : CE.ok Try.prog alter_Check_5_ce := CE.of (Γ := []) (by kernel_rfl) TT_ok (GOK.nil) ⟨[], [], [], []⟩ Try.func16 rfl Try.ntmps16 (rs := [.tmp 2]) rfl (sig := alter_Check_5_sig) (out := alter_Check_5_out) rfl Try.call16 (fun X => by kernel_rfl)

def slices_IndexFunc_4_sig : Shape := ⟨[(.list (.int .i64))], [(0, .v 0), (1, .fn 16 [])], []⟩
def slices_IndexFunc_4_out : Shape := ⟨[(.int .i64)], [(0, .v 0)], []⟩
noncomputable def slices_IndexFunc_4_ce : CE := ⟨24, slices_IndexFunc_4_sig, slices_IndexFunc_4_out, fun X => slices_IndexFunc_4 X⟩
theorem slices_IndexFunc_4_ok : CE.ok Try.prog slices_IndexFunc_4_ce := CE.of (Γ := [alter_Check_5_ce]) (by kernel_rfl) TT_ok (GOK.cons alter_Check_5_ok (GOK.nil)) ⟨[(2, ⟨⟨[(.int .i64)], [(8, .v 0)], []⟩, [4, 5, 9, 10, 11, 12, 13, 14, 15, 16, 17, 18], [], [], 0, []⟩)], [], [], []⟩ Try.func24 rfl Try.ntmps24 (rs := [.tmp 4]) rfl (sig := slices_IndexFunc_4_sig) (out := slices_IndexFunc_4_out) rfl Try.call24 (fun X => by kernel_rfl)

def slices_ContainsFunc_4_sig : Shape := ⟨[(.list (.int .i64))], [(0, .v 0), (1, .fn 16 [])], []⟩
def slices_ContainsFunc_4_out : Shape := ⟨[.bool], [(0, .v 0)], []⟩
noncomputable def slices_ContainsFunc_4_ce : CE := ⟨15, slices_ContainsFunc_4_sig, slices_ContainsFunc_4_out, fun X => slices_ContainsFunc_4 X⟩
theorem slices_ContainsFunc_4_ok : CE.ok Try.prog slices_ContainsFunc_4_ce := CE.of (Γ := [slices_IndexFunc_4_ce]) (by kernel_rfl) TT_ok (GOK.cons slices_IndexFunc_4_ok (GOK.nil)) ⟨[], [], [], []⟩ Try.func15 rfl Try.ntmps15 (rs := [.tmp 4]) rfl (sig := slices_ContainsFunc_4_sig) (out := slices_ContainsFunc_4_out) rfl Try.call15 (fun X => by kernel_rfl)

def alter_Check_sig : Shape := ⟨[(.pair (.int .i64) (.pair (.int .i64) (.pair (.list (.list (.list (.list (.int .i64))))) (.pair (.list (.int .i64)) .unit))))], [(0, .v 0)], []⟩
def alter_Check_out : Shape := ⟨[(.int .i64)], [(0, .v 0)], []⟩
noncomputable def alter_Check_ce : CE := ⟨4, alter_Check_sig, alter_Check_out, fun X => alter_Check X⟩
theorem alter_Check_ok : CE.ok Try.prog alter_Check_ce := CE.of (Γ := [slices_ContainsFunc_ce, slices_ContainsFunc_1_ce, slices_ContainsFunc_2_ce, alter_Check_2_ce, slices_ContainsFunc_4_ce]) (by kernel_rfl) TT_ok (GOK.cons slices_ContainsFunc_ok (GOK.cons slices_ContainsFunc_1_ok (GOK.cons slices_ContainsFunc_2_ok (GOK.cons alter_Check_2_ok (GOK.cons slices_ContainsFunc_4_ok (GOK.nil)))))) ⟨[(11, ⟨⟨[.bool, (.int .i64), (.int .i64)], [(4, .v 0), (5, .ptr 2 0), (42, .v 1)], [(2, .box 35 [.fn 11 [.addr 2]])]⟩, [2, 7, 9, 43, 44, 45, 46, 47, 48, 49, 50, 51, 52, 53, 54, 55, 56, 57, 58, 59, 60, 61, 62, 63, 64, 65, 66], [], [0], 3, []⟩), (14, ⟨⟨[.bool, (.int .i64), (.int .i64)], [(4, .v 0), (5, .ptr 2 0), (48, .v 1)], [(2, .box 35 [.fn 11 [.addr 2]])]⟩, [2, 9, 49, 50, 51, 52, 53, 54, 55, 56, 57, 58, 59, 60, 61, 62, 63, 64, 65], [], [0], 3, []⟩)], [], [], []⟩ Try.func4 rfl Try.ntmps4 (rs := [.tmp 2]) rfl (sig := alter_Check_sig) (out := alter_Check_out) rfl Try.call4 (fun X => by kernel_rfl)

def r26_Check_sig : Shape := ⟨[(.pair (.int .i64) (.pair (.int .i64) (.pair (.list (.list (.list (.list (.int .i64))))) (.pair (.list (.int .i64)) .unit))))], [(0, .v 0)], []⟩
def r26_Check_out : Shape := ⟨[(.int .i64)], [(0, .v 0)], []⟩
noncomputable def r26_Check_ce : CE := ⟨5, r26_Check_sig, r26_Check_out, fun X => r26_Check X⟩
theorem r26_Check_ok : CE.ok Try.prog r26_Check_ce := CE.of (Γ := []) (by kernel_rfl) TT_ok (GOK.nil) ⟨[(9, ⟨⟨[(.int .i64)], [(4, .v 0)], []⟩, [2, 33, 34, 35, 36, 37, 38, 39, 40, 41, 42, 43, 44, 45, 46], [], [0], 1, []⟩), (15, ⟨⟨[.bool, (.int .i64)], [(5, .v 0), (6, .v 1)], []⟩, [2, 7, 8, 9, 10, 56, 57, 58, 59, 60, 61, 62, 63, 64, 65, 66, 67, 68, 69, 70, 71, 72, 73, 74, 75, 76, 77, 78, 79, 80, 81, 82, 83, 84, 85, 86, 87, 88, 89, 90, 91, 92, 93, 94, 95, 96, 97, 98, 99, 100, 101, 102, 103, 104, 105, 106, 107, 108, 109, 110, 111, 112, 113, 114, 115, 116, 117, 118, 119, 120, 121, 122, 123, 124, 125, 126, 127, 128, 129, 130, 131, 132, 133, 134, 135, 136, 137], [], [0], 1, []⟩), (18, ⟨⟨[.bool, (.int .i64)], [(5, .v 0), (7, .v 1)], []⟩, [2, 8, 9, 10, 61, 62, 63, 64, 65, 66, 67, 68, 69, 70, 71, 72, 73, 74, 75, 76, 77, 78, 79, 80, 81, 82, 83, 84, 85, 86, 87, 88, 89, 90, 91, 92, 93, 94, 95, 96, 97, 98, 99, 100, 101, 102, 103, 104, 105, 106, 107, 108, 109, 110, 111, 112, 113, 114, 115, 116, 117, 118, 119, 120], [], [0], 1, []⟩), (24, ⟨⟨[.bool, (.int .i64)], [(5, .v 0), (9, .v 1)], []⟩, [2, 10, 78, 79, 80, 81, 82, 83, 84, 85, 86, 87, 88, 89, 90, 91, 92, 93, 94, 95, 96, 97, 98, 99, 100, 101, 102, 103, 104, 105, 106, 107, 108, 109, 110, 111, 112, 113, 114, 115, 116, 117, 118, 119, 120], [], [0], 1, []⟩), (29, ⟨⟨[.bool, (.int .i64)], [(5, .v 0), (10, .v 1)], []⟩, [90, 91, 92, 93, 94, 95, 96, 97, 98, 99, 100, 101, 102, 103, 104, 105, 106, 107, 108, 109, 110, 111, 112, 113, 114, 115, 116, 117, 118, 119, 120], [], [0], 1, []⟩)], [(13, ⟨⟨[.bool], [(5, .v 0)], []⟩, [47, 48, 49, 50, 51, 52, 53, 54, 55], [], [0], 1, []⟩)], [(11, [(0, 0), (0, 1), (0, 2), (0, 3), (0, 4), (0, 5), (0, 6), (0, 7), (0, 8)])], []⟩ Try.func5 rfl Try.ntmps5 (rs := [.tmp 2]) rfl (sig := r26_Check_sig) (out := r26_Check_out) rfl Try.call5 (fun X => by kernel_rfl)

def word_May_sig : Shape := ⟨[(.int .i64), (.list (.int .i64))], [(0, .v 0), (1, .v 1)], []⟩
def word_May_out : Shape := ⟨[(.int .i64)], [(0, .v 0)], []⟩
noncomputable def word_May_ce : CE := ⟨17, word_May_sig, word_May_out, fun X => word_May X.1 X.2⟩
theorem word_May_ok : CE.ok Try.prog word_May_ce := CE.of (Γ := []) (by kernel_rfl) TT_ok (GOK.nil) ⟨[(6, ⟨⟨[(.int .i64)], [(18, .v 0)], []⟩, [4, 6, 19, 20, 21, 22, 23, 24, 25, 26, 27, 28, 29], [], [], 0, []⟩)], [], [], []⟩ Try.func17 rfl Try.ntmps17 (rs := [.tmp 4]) rfl (sig := word_May_sig) (out := word_May_out) rfl Try.call17 (fun X => by kernel_rfl)

def alter_ends_sig : Shape := ⟨[(.pair (.int .i64) (.pair (.int .i64) (.pair (.list (.list (.list (.list (.int .i64))))) (.pair (.list (.int .i64)) .unit))))], [(0, .v 0)], []⟩
def alter_ends_out : Shape := ⟨[(.int .i64)], [(0, .v 0)], []⟩
noncomputable def alter_ends_ce : CE := ⟨18, alter_ends_sig, alter_ends_out, fun X => alter_ends X⟩
theorem alter_ends_ok : CE.ok Try.prog alter_ends_ce := CE.of (Γ := []) (by kernel_rfl) TT_ok (GOK.nil) ⟨[(3, ⟨⟨[(.int .i64), (.int .i64)], [(3, .v 0), (9, .v 1)], []⟩, [4, 5, 10, 11, 12, 13, 14, 15, 16, 17, 18, 19], [], [0], 1, []⟩)], [], [], []⟩ Try.func18 rfl Try.ntmps18 (rs := [.tmp 2]) rfl (sig := alter_ends_sig) (out := alter_ends_out) rfl Try.call18 (fun X => by kernel_rfl)

def alter_ahead_1_1_sig : Shape := ⟨[(.int .i64), (.int .i64)], [(0, .v 0), (1, .addr 1)], []⟩
def alter_ahead_1_1_out : Shape := ⟨[.bool], [(0, .v 0)], []⟩
noncomputable def alter_ahead_1_1_ce : CE := ⟨27, alter_ahead_1_1_sig, alter_ahead_1_1_out, fun X => alter_ahead_1_1 X.1 X.2⟩
theorem alter_ahead_1_1_ok : CE.ok Try.prog alter_ahead_1_1_ce := CE.of (Γ := []) (by kernel_rfl) TT_ok (GOK.nil) ⟨[], [], [], []⟩ Try.func27 rfl Try.ntmps27 (rs := [.tmp 3]) rfl (sig := alter_ahead_1_1_sig) (out := alter_ahead_1_1_out) rfl Try.call27 (fun X => by kernel_rfl)

def slices_IndexFunc_6_sig : Shape := ⟨[(.list (.int .i64)), (.int .i64)], [(0, .v 0), (1, .fn 27 [.addr 1])], []⟩
def slices_IndexFunc_6_out : Shape := ⟨[(.int .i64)], [(0, .v 0)], []⟩
noncomputable def slices_IndexFunc_6_ce : CE := ⟨24, slices_IndexFunc_6_sig, slices_IndexFunc_6_out, fun X => slices_IndexFunc_6 X.1 X.2⟩
theorem slices_IndexFunc_6_ok : CE.ok Try.prog slices_IndexFunc_6_ce := CE.of (Γ := [alter_ahead_1_1_ce]) (by kernel_rfl) TT_ok (GOK.cons alter_ahead_1_1_ok (GOK.nil)) ⟨[(2, ⟨⟨[(.int .i64)], [(8, .v 0)], []⟩, [4, 5, 9, 10, 11, 12, 13, 14, 15, 16, 17, 18], [], [], 0, []⟩)], [], [], []⟩ Try.func24 rfl Try.ntmps24 (rs := [.tmp 4]) rfl (sig := slices_IndexFunc_6_sig) (out := slices_IndexFunc_6_out) rfl Try.call24 (fun X => by kernel_rfl)

def slices_ContainsFunc_6_sig : Shape := ⟨[(.list (.int .i64)), (.int .i64)], [(0, .v 0), (1, .fn 27 [.addr 1])], []⟩
def slices_ContainsFunc_6_out : Shape := ⟨[.bool], [(0, .v 0)], []⟩
noncomputable def slices_ContainsFunc_6_ce : CE := ⟨15, slices_ContainsFunc_6_sig, slices_ContainsFunc_6_out, fun X => slices_ContainsFunc_6 X.1 X.2⟩
theorem slices_ContainsFunc_6_ok : CE.ok Try.prog slices_ContainsFunc_6_ce := CE.of (Γ := [slices_IndexFunc_6_ce]) (by kernel_rfl) TT_ok (GOK.cons slices_IndexFunc_6_ok (GOK.nil)) ⟨[], [], [], []⟩ Try.func15 rfl Try.ntmps15 (rs := [.tmp 4]) rfl (sig := slices_ContainsFunc_6_sig) (out := slices_ContainsFunc_6_out) rfl Try.call15 (fun X => by kernel_rfl)

def alter_ahead_1_sig : Shape := ⟨[(.list (.int .i64)), (.int .i64)], [(0, .v 0), (1, .addr 1)], []⟩
def alter_ahead_1_out : Shape := ⟨[.bool], [(0, .v 0)], []⟩
noncomputable def alter_ahead_1_ce : CE := ⟨26, alter_ahead_1_sig, alter_ahead_1_out, fun X => alter_ahead_1 X.1 X.2⟩
theorem alter_ahead_1_ok : CE.ok Try.prog alter_ahead_1_ce := CE.of (Γ := [slices_ContainsFunc_6_ce]) (by kernel_rfl) TT_ok (GOK.cons slices_ContainsFunc_6_ok (GOK.nil)) ⟨[], [], [], []⟩ Try.func26 rfl Try.ntmps26 (rs := [.tmp 3]) rfl (sig := alter_ahead_1_sig) (out := alter_ahead_1_out) rfl Try.call26 (fun X => by kernel_rfl)

def slices_IndexFunc_5_sig : Shape := ⟨[(.list (.list (.int .i64))), (.int .i64)], [(0, .v 0), (1, .fn 26 [.addr 1])], []⟩
def slices_IndexFunc_5_out : Shape := ⟨[(.int .i64)], [(0, .v 0)], []⟩
noncomputable def slices_IndexFunc_5_ce : CE := ⟨23, slices_IndexFunc_5_sig, slices_IndexFunc_5_out, fun X => slices_IndexFunc_5 X.1 X.2⟩
theorem slices_IndexFunc_5_ok : CE.ok Try.prog slices_IndexFunc_5_ce := CE.of (Γ := [alter_ahead_1_ce]) (by kernel_rfl) TT_ok (GOK.cons alter_ahead_1_ok (GOK.nil)) ⟨[(2, ⟨⟨[(.int .i64)], [(8, .v 0)], []⟩, [4, 5, 9, 10, 11, 12, 13, 14, 15, 16, 17, 18], [], [], 0, []⟩)], [], [], []⟩ Try.func23 rfl Try.ntmps23 (rs := [.tmp 4]) rfl (sig := slices_IndexFunc_5_sig) (out := slices_IndexFunc_5_out) rfl Try.call23 (fun X => by kernel_rfl)

def slices_ContainsFunc_5_sig : Shape := ⟨[(.list (.list (.int .i64))), (.int .i64)], [(0, .v 0), (1, .fn 26 [.addr 1])], []⟩
def slices_ContainsFunc_5_out : Shape := ⟨[.bool], [(0, .v 0)], []⟩
noncomputable def slices_ContainsFunc_5_ce : CE := ⟨12, slices_ContainsFunc_5_sig, slices_ContainsFunc_5_out, fun X => slices_ContainsFunc_5 X.1 X.2⟩
theorem slices_ContainsFunc_5_ok : CE.ok Try.prog slices_ContainsFunc_5_ce := CE.of (Γ := [slices_IndexFunc_5_ce]) (by kernel_rfl) TT_ok (GOK.cons slices_IndexFunc_5_ok (GOK.nil)) ⟨[], [], [], []⟩ Try.func12 rfl Try.ntmps12 (rs := [.tmp 4]) rfl (sig := slices_ContainsFunc_5_sig) (out := slices_ContainsFunc_5_out) rfl Try.call12 (fun X => by kernel_rfl)

def alter_ahead_sig : Shape := ⟨[(.pair (.int .i64) (.pair (.int .i64) (.pair (.list (.list (.list (.list (.int .i64))))) (.pair (.list (.int .i64)) .unit)))), (.int .i64), (.int .i64)], [(0, .v 0), (1, .v 1), (2, .v 2)], []⟩
def alter_ahead_out : Shape := ⟨[(.int .i64)], [(0, .v 0)], []⟩
noncomputable def alter_ahead_ce : CE := ⟨20, alter_ahead_sig, alter_ahead_out, fun X => alter_ahead X.1 X.2.1 X.2.2⟩
theorem alter_ahead_ok : CE.ok Try.prog alter_ahead_ce := CE.of (Γ := [slices_ContainsFunc_5_ce]) (by kernel_rfl) TT_ok (GOK.cons slices_ContainsFunc_5_ok (GOK.nil)) ⟨[(3, ⟨⟨[(.int .i64), (.int .i64)], [(7, .v 0), (13, .v 1)], []⟩, [8, 9, 14, 15, 16, 17, 18, 19, 20, 21, 22, 23, 24, 25, 26, 27, 28], [], [0, 1], 2, []⟩)], [], [], []⟩ Try.func20 rfl Try.ntmps20 (rs := [.tmp 6]) rfl (sig := alter_ahead_sig) (out := alter_ahead_out) rfl Try.call20 (fun X => by kernel_rfl)

section
attribute [local go_sem] Oper.semAt_some
open Go.RowKit (Below)
theorem aa_clo_in (F : Fence) (n : Nat) (h25 : F.fn 25) (hro : F.round = none) (hn : 1 ≤ n) (l Bs T N : Nat) (S : Nat → Prop) (hS : ∀ b, S b → b < N ∧ b ≠ T) (sv : Value) (zs : List Int) (J Jx : List {p : Nat × Int // p.2 ∈ zs} → World → Prop) (W : World) (hBs : W.cell? ⟨Bs, 0, none⟩ = some sv) (hBl : Bs < N ∧ Bs ≠ T) (hI : Ints S W sv zs)
    (hY : ∀ pre x W, J pre W → pre.length < zs.length → YieldAt F (n - 1) Try.prog l #[.int .i64 (x.1.1 : Int), .int .i64 x.1.2] W fun e W' =>
      (e = .returned (.bool true) ∧ J (pre ++ [x]) W' ∧ Bk T N W W') ∨ (e = .returned (.bool false) ∧ Jx (pre ++ [x]) W'))
    (h0 : J [] W) :
    CallsIn F n Try.prog 25 #[.func (.yield l) #[] #[], .pointer (some ⟨Bs, 0, none⟩)] W fun e W' => (∃ v, e = .returned v) ∧
      ((∃ ys, ys.map (·.1.2) = zs.reverse ∧ J ys W') ∨ (∃ pre, True ∧ Jx pre W')) := by
  obtain ⟨hlen, ⟨a, c, rfl, rfl⟩ | ⟨b, off, cap, rfl, hb, hcs⟩⟩ := hI
  · refine callsIn_of_wp Try.func25 rfl h25 ?_ hro
    simp only [Try.ntmps25, List.size_toArray, List.length_cons, List.length_nil, Nat.reduceAdd, Nat.reduceSub, Array.replicate_succ, Array.replicate_zero, List.push_toArray, List.append_toArray, List.nil_append, List.cons_append]
    gi_wp2
    gi_loopw [3] (fun i wr => i = .int .i64 (-1) ∧ J [] wr) (fun _ _ => 0)
    case atStart => exact ⟨rfl, h0⟩
    case round =>
      obtain ⟨rfl, hJs⟩ := hrel
      gi_wp2
      go_end0
      exact ⟨⟨_, rfl⟩, .inl ⟨[], rfl, hJs⟩⟩
  · refine callsIn_of_wp Try.func25 rfl h25 ?_ hro
    simp only [Try.ntmps25, List.size_toArray, List.length_cons, List.length_nil, Nat.reduceAdd, Nat.reduceSub, Array.replicate_succ, Array.replicate_zero, List.push_toArray, List.append_toArray, List.nil_append, List.cons_append]
    gi_wp2
    gi_loopw [3] (fun i wr => ∃ (k : Nat) (ys : List {p : Nat × Int // p.2 ∈ zs}), k ≤ zs.length ∧ i = .int .i64 ((k : Int) - 1) ∧ ys.map (·.1.2) ++ (zs.take k).reverse = zs.reverse ∧ J ys wr ∧ Bk T N W wr)
      (fun i _ => match i with | .int .i64 m => (m + 1).toNat | _ => 0)
    case atStart => exact ⟨zs.length, [], Nat.le_refl _, rfl, by simp, h0, Bk.refl _ _ _⟩
    case round =>
      obtain ⟨k, ys, hk, rfl, hys, hJs, hnx⟩ := hrel
      have hBs' : wr.cell? ⟨Bs, 0, none⟩ = some (.slice (some ⟨b, off, none⟩) zs.length cap) := (hnx.cell hBl.1 hBl.2).trans hBs
      have hyl : ys.length + k = zs.length := by
        have := congrArg List.length hys
        simp only [List.length_append, List.length_map, List.length_reverse, List.length_take] at this
        omega
      cases k with
      | zero =>
        have hneg : ¬ ((0 : Nat) : Int) - 1 ≥ 0 := by omega
        gi_wp2
        go_end0
        exact ⟨⟨_, rfl⟩, .inl ⟨ys, by simpa using hys, hJs⟩⟩
      | succ k =>
        have e1 : ((k + 1 : Nat) : Int) - 1 = (k : Int) := by omega
        have hpos : ((k : Nat) : Int) ≥ 0 := by omega
        have hkl : k < zs.length := by omega
        have hmem : zs.getD k 0 ∈ zs := by
          rw [List.getD_eq_getElem?_getD, List.getElem?_eq_getElem hkl]; exact List.getElem_mem hkl
        have hcx : wr.cell? ⟨b, off + k, none⟩ = some (.int .i64 (zs.getD k 0)) := (hnx.cell (hS b hb).1 (hS b hb).2).trans (hcs k hkl)
        obtain ⟨v, hv⟩ : ∃ v, zs.getD k 0 = v := ⟨_, rfl⟩
        rw [hv] at hmem hcx
        obtain ⟨fn, tmps, assign, body, hy, hR⟩ := hY ys ⟨(k, v), hmem⟩ wr hJs (by omega)
        dsimp only at hy
        rw [e1]
        gi_wp2
        refine hR.mono ?_
        rintro e W3 (⟨rfl, hJ3, hk3⟩ | ⟨rfl, hJx3⟩)
        · gi_wp2
          go_roundw
          case rel =>
            refine ⟨k, _, by omega, rfl, ?_, hJ3, hnx.trans hk3⟩
            rw [List.map_append, List.append_assoc, ← hys]
            congr 1
            have hv2 : zs[k] = v := by rw [← hv, List.getD_eq_getElem?_getD, List.getElem?_eq_getElem hkl]; rfl
            rw [List.take_add_one, List.getElem?_eq_getElem hkl, hv2]
            simp
          case measure => simp
        · gi_wp2
          refine bodyPost_ret (results_none rfl _ _ _) rfl ?_
          exact ⟨⟨_, rfl⟩, .inr ⟨_, trivial, hJx3⟩⟩

/-- slices.Backward(s): the slice is boxed. -/
theorem aa_back_in (F : Fence) (m : Nat) (h19 : F.fn 19) (hro : F.round = none) (a : Option Addr) (n c : Nat) (w : World) : CallsIn F m Try.prog 19 #[.slice a n c] w fun e w' => e = .returned (.func (.func 25) #[] #[.pointer (some ⟨w.heap.size, 0, none⟩)]) ∧ w' = w.alloc (.cells #[.slice a n c] 23) := by
  refine callsIn_of_wp Try.func19 rfl h19 ?_ hro
  simp only [Try.ntmps19, List.size_toArray, List.length_cons, List.length_nil, Nat.reduceAdd, Nat.reduceSub, Array.replicate_succ, Array.replicate_zero, List.push_toArray, List.append_toArray, List.nil_append, List.cons_append]
  gi_wp2
  go_ret
  exact ⟨rfl, rfl⟩
theorem aa_stops (F : Fence) (n : Nat) (h25 : F.fn 25) (hro : F.round = none) (hn : 1 ≤ n) (Bs T N : Nat) (S : Nat → Prop) (hS : ∀ b, S b → b < N ∧ b ≠ T) (sv : Value) (zs : List Int) (w : World) (hB0 : Bs < N ∧ Bs ≠ T) (hN : N ≤ w.heap.size) (hc : w.cell? ⟨Bs, 0, none⟩ = some sv) (hI : Ints S w sv zs) :
    SeqStopsK F n Try.prog 25 #[.pointer (some ⟨Bs, 0, none⟩)] (fun x : {p : Nat × Int // p.2 ∈ zs} => #[Value.int .i64 (x.1.1 : Int), .int .i64 x.1.2]) (Bk T N) (fun ys => ys.map (·.1.2) = zs.reverse) (fun _ => True) zs.length w := fun l J Jx W hW _ _ hY h0 => by
  have hk : ∀ b, b < N → W.heap[b]? = w.heap[b]? := fun b hb => hW.block b (by omega)
  exact aa_clo_in F n h25 hro hn l Bs T N S hS sv zs J Jx W ((World.cell?_of_block (w := w) (w' := W) (hk Bs hB0.1)).trans hc) hB0 (hI.mono fun b hb => ⟨hb, hk b (hS b hb).1⟩) hY h0
end
section
attribute [local go_sem] Oper.semAt_some
open Go.RowKit (Below)
theorem aa_acc (F : Fence) (hF : ∀ (n : Nat) (f : FuncId) (xs : Array Value) (w : World) (R : Ending → World → Prop), Calls Try.prog f xs w R → CallsIn F n Try.prog f xs w R) (h6 : F.fn 6) (h4 : F.fn 4) (h17 : F.fn 17) (h18 : F.fn 18) (h19 : F.fn 19) (h20 : F.fn 20) (h25 : F.fn 25) (hro : F.round = none) (v0 : Int) (st : Int) (v2 v3 : Value) (a : Option Addr) (n c : Nat) (zs : List Int) (w : World) (hI : Ints (fun b => b < w.heap.size) w (.slice a n c) zs) (e0 e1 s0 : Int) (Iv : Int → Prop) (f : Int → Int → Option Int)
    (hC : ∀ W, Below w.heap.size w W → Calls Try.prog 4 #[.agg #[.int .i64 v0, .int .i64 st, v2, v3]] W fun e W' => e = .returned (.int .i64 e0) ∧ Below W.heap.size W W')
    (hM : e0 = 0 → ∀ W, Below w.heap.size w W → Calls Try.prog 17 #[.int .i64 v0, .slice a n c] W fun e W' => e = .returned (.int .i64 e1) ∧ Below W.heap.size W W')
    (hE : e0 = 0 → e1 = 0 → ∀ W, Below w.heap.size w W → Calls Try.prog 18 #[.agg #[.int .i64 v0, .int .i64 st, v2, v3]] W fun e W' => e = .returned (.int .i64 s0) ∧ Below W.heap.size W W')
    (hA : e0 = 0 → e1 = 0 → ∀ s x, Iv s → x ∈ zs → ∃ y, f s x = some y ∧ Iv y ∧ ∀ W, Below w.heap.size w W → Calls Try.prog 20 #[.agg #[.int .i64 v0, .int .i64 st, v2, v3], .int .i64 s, .int .i64 x] W fun e W' => e = .returned (.int .i64 y) ∧ Below W.heap.size W W')
    (h0 : e0 = 0 → e1 = 0 → Iv s0) (hst : e0 = 0 → e1 = 0 → 0 ≤ st) (R : Bool → Int → Prop) (hR0 : ¬ e0 = 0 → R false e0) (hR1 : e0 = 0 → ¬ e1 = 0 → R false e1) (hR2 : e0 = 0 → e1 = 0 → ∀ s, runB f zs.reverse s0 = some s → R (bits BinOp.and .i64 (s / 2 ^ min st.toNat 64) 1 == 1) 0) :
    CallsIn F 4 Try.prog 6 #[.agg #[.int .i64 v0, .int .i64 st, v2, v3], .slice a n c] w fun e w' => (∃ b i, e = .returned (.tuple #[.bool b, .int .i64 i]) ∧ R b i) ∧ Below w.heap.size w w' := by
  refine callsIn_of_wp_marks Try.func6 rfl h6 ?_ hro
  simp only [Try.ntmps6, List.size_toArray, List.length_cons, List.length_nil, Nat.reduceAdd, Nat.reduceSub, Array.replicate_succ, Array.replicate_zero, List.push_toArray, List.append_toArray, List.nil_append, List.cons_append]
  have hB0 : Below w.heap.size w (w.alloc (.cells #[.int .i64 v0, .int .i64 st, v2, v3] 25)) := (Below.refl _ w).alloc (Nat.le_refl _) _
  by_cases c0 : e0 = 0
  case neg =>
    gi_wp2_with (gi_at_call 4; refine (hF _ _ _ _ _ (hC _ hB0)).mono ?_; rintro e w1 ⟨rfl, hB1⟩)
    exact ⟨_, results_tmp2 rfl _ _ _, ⟨_, _, rfl, hR0 c0⟩, hB0.trans (hB1.mono hB0.size)⟩
  subst c0
  replace hM := hM rfl
  replace hR1 := hR1 rfl
  replace hR2 := hR2 rfl
  replace hE := hE rfl
  replace hA := hA rfl
  replace h0 := h0 rfl
  replace hst := hst rfl
  have hs0 : (w.alloc (.cells #[.int .i64 v0, .int .i64 st, v2, v3] 25)).heap.size = w.heap.size + 1 := by simp
  have hload : ∀ W : World, Below (w.alloc (.cells #[.int .i64 v0, .int .i64 st, v2, v3] 25)).heap.size (w.alloc (.cells #[.int .i64 v0, .int .i64 st, v2, v3] 25)) W → W.heap[w.heap.size]? = some (.cells #[.int .i64 v0, .int .i64 st, v2, v3] 25) := fun W h => (h.block _ (by omega)).trans (World.alloc_heap_new w _)
  have hfld : ∀ W : World, W.heap[w.heap.size]? = some (.cells #[.int .i64 v0, .int .i64 st, v2, v3] 25) → W.cell? ⟨w.heap.size, 0, none⟩ = some (.int .i64 v0) ∧ W.cell? ⟨w.heap.size, 1, none⟩ = some (.int .i64 st) ∧ W.cell? ⟨w.heap.size, 2, none⟩ = some v2 ∧ W.cell? ⟨w.heap.size, 3, none⟩ = some v3 := fun W h =>
    ⟨by rw [cell_of_row W _ 0 _ 25 (0, 0) h]; rfl, by rw [cell_of_row W _ 1 _ 25 (0, 0) h]; rfl, by rw [cell_of_row W _ 2 _ 25 (0, 0) h]; rfl, by rw [cell_of_row W _ 3 _ 25 (0, 0) h]; rfl⟩
  by_cases c1 : e1 = 0
  case neg =>
    gi_wp2_with (first
      | (gi_at_call 4; refine (hF _ _ _ _ _ (hC _ hB0)).mono ?_; rintro e w1 ⟨rfl, hB1⟩; have hl1 := hload w1 hB1; have hf1 := (hfld w1 hl1).1; have hB01 := hB0.trans (hB1.mono hB0.size))
      | (gi_at_call 17; refine (hF _ _ _ _ _ (hM _ hB01)).mono ?_; rintro e w2 ⟨rfl, hB2⟩))
    exact ⟨_, results_tmp2 rfl _ _ _, ⟨_, _, rfl, hR1 c1⟩, hB01.trans (hB2.mono hB01.size)⟩
  subst c1
  replace hR2 := hR2 rfl
  replace hE := hE rfl
  replace hA := hA rfl
  replace h0 := h0 rfl
  replace hst := hst rfl
  gi_wp2_with (first
      | (gi_at_call 4; refine (hF _ _ _ _ _ (hC _ hB0)).mono ?_; rintro e w1 ⟨rfl, hB1⟩; have hl1 := hload w1 hB1; have hf1 := (hfld w1 hl1).1; have hB01 := hB0.trans (hB1.mono hB0.size))
      | (gi_at_call 17; refine (hF _ _ _ _ _ (hM _ hB01)).mono ?_; rintro e w2 ⟨rfl, hB2⟩; have hl2 := hload w2 (hB1.trans (hB2.mono hB1.size)); obtain ⟨hf20, hf21, hf22, hf23⟩ := hfld w2 hl2; have hB02 := hB01.trans (hB2.mono hB01.size))
      | (gi_at_call 18; refine (hF _ _ _ _ _ (hE _ hB02)).mono ?_; rintro e w3 ⟨rfl, hB3⟩; have hl3 := (hB3.block _ (Array.getElem?_eq_some_iff.1 hl2).1).trans hl2; obtain ⟨hf30, hf31, hf32, hf33⟩ := hfld w3 hl3; have hB03 := hB02.trans (hB3.mono hB02.size))
      | (gi_at_call 19; refine (aa_back_in F _ h19 hro _ _ _ _).mono ?_; rintro e w4 ⟨rfl, rfl⟩))
  have bS := (Boxed.new w3 3 (.int .i64 s0)).alloc (.cells #[.slice a n c] 23)
  have bN := Boxed.new (w3.alloc (.cells #[.int .i64 s0] 3)) 23 (.slice a n c)
  rw [World.size_alloc] at bN
  have hsz : ((w3.alloc (.cells #[.int .i64 s0] 3)).alloc (.cells #[.slice a n c] 23)).heap.size = w3.heap.size + 2 := by simp
  have hB34 : Below w3.heap.size w3 ((w3.alloc (.cells #[.int .i64 s0] 3)).alloc (.cells #[.slice a n c] 23)) := ((Below.refl _ w3).alloc (Nat.le_refl _) _).alloc (by simp) _
  generalize (w3.alloc (.cells #[.int .i64 s0] 3)).alloc (.cells #[.slice a n c] 23) = W4 at bS bN hsz hB34
  have hlw : w.heap.size < w3.heap.size := (Array.getElem?_eq_some_iff.1 hl3).1
  have hB04 := hB03.trans (hB34.mono hB03.size)
  have hl4 : W4.heap[w.heap.size]? = some (.cells #[.int .i64 v0, .int .i64 st, v2, v3] 25) := (hB34.block _ hlw).trans hl3
  have hI4 : Ints (fun b => b < w.heap.size) W4 (.slice a n c) zs := hI.mono fun b hb => ⟨hb, hB04.block b hb⟩
  refine wpIn_rangeFunc_ownG hro (by omega) (gf := 25) (lb := #[.pointer (some ⟨w3.heap.size + 1, 0, none⟩)]) rfl h25 (enters_of Try.func25 (by kernel_rfl) rfl)
    (aa_stops F 3 h25 hro (by omega) (w3.heap.size + 1) w3.heap.size (w3.heap.size + 2) (fun b => b < w.heap.size) (fun b hb => ⟨by omega, by omega⟩) (.slice a n c) zs W4 ⟨by omega, by omega⟩ (by omega) bN.cell hI4)
    Bk.trans (Bk.b (by omega)) (Below.refl _ _) (fun _ => rfl)
    (fun pre W => (∃ s, Iv s ∧ runB f (pre.map (·.1.2)) s0 = some s ∧ W.cell? ⟨w3.heap.size, 0, none⟩ = some (.int .i64 s) ∧ W.frozen? ⟨w3.heap.size, 0, none⟩ = false) ∧ (Bk w3.heap.size (w3.heap.size + 2) W4 W ∧ Below w.heap.size w W))
    (fun _ _ _ => False)
    (OwnFrom.and (Own.from (fun s A B row hs hg hr => let ⟨s', h1, h2, h3, h4⟩ := hs; ⟨s', h1, h2, cell_kept h3 hg hr, (frozen_kept h3 hg hr).trans h4⟩) _) (OwnFrom.and (Bk.own (by omega) (by omega)) (ownFrom_below (Nat.le_refl _) (by omega))))
    (fun _ _ _ _ _ hs _ _ => hs)
    ⟨⟨s0, h0, rfl, bS.cell, bS.frozen⟩, Bk.refl _ _ _, hB04⟩
    (fun x => { tmps := #[Value.agg #[Value.int IntKind.i64 v0, Value.int IntKind.i64 st, v2, v3], Value.slice a n c,
          Value.pointer (some { block := w.heap.size, off := 0 }), undef, Value.bool false, Value.int IntKind.i64 0,
          Value.int IntKind.i64 0, Value.int IntKind.i64 0, Value.pointer (some { block := w3.heap.size, off := 0 }),
          undef, .int .i64 x.1.2, Value.agg #[Value.int IntKind.i64 v0, Value.int IntKind.i64 st, v2, v3],
          Value.int IntKind.i64 0, Value.int IntKind.i64 0, Value.bool false, undef,
          Value.pointer (some { block := w.heap.size, off := 0 }), Value.int IntKind.i64 v0, Value.slice a n c,
          Value.int IntKind.i64 0, Value.int IntKind.i64 0, Value.bool false, undef,
          Value.agg #[Value.int IntKind.i64 v0, Value.int IntKind.i64 st, v2, v3], Value.int IntKind.i64 s0,
          Value.slice a n c,
          Value.func (Fn.func 25) #[] #[Value.pointer (some { block := w3.heap.size + 1, off := 0 })], .int .i64 (x.1.1 : Int), .int .i64 x.1.2,
          undef, undef, undef, undef, undef, undef, undef, undef, undef, undef], defers := [] }) ?assign ?body ?done ?stop
  case assign =>
    intro l x W K hK
    gi_wp2
    exact hK
  case body =>
    rintro l pre ⟨⟨xi, x⟩, hx⟩ W ⟨⟨s, hs, hrun, hc, hf⟩, hbk, hbw⟩ _
    obtain ⟨y, y1, y2, y3⟩ := hA s x hs hx
    have hlW : W.heap[w.heap.size]? = some (.cells #[.int .i64 v0, .int .i64 st, v2, v3] 25) := (hbk.block _ (by omega) (by omega)).trans hl4
    obtain ⟨g0, g1, g2, g3⟩ := hfld W hlW
    gi_wp2_with (gi_at_call 20; refine (hF _ _ _ _ _ (y3 W hbw)).mono ?_; rintro e W5 ⟨rfl, hB5⟩; have hk5 := hB5.block w3.heap.size (Array.getElem?_eq_some_iff.1 (cells_of_cell hc).choose_spec.1).1; have hc5 := (World.cell?_of_block (w := W) (w' := W5) (a := ⟨w3.heap.size, 0, none⟩) hk5).trans hc; have hf5 := (World.frozen?_of_block (w := W) (w' := W5) (a := ⟨w3.heap.size, 0, none⟩) hk5).trans hf)
    have hWs := hbk.size
    have hb1 : Bk w3.heap.size (w3.heap.size + 2) W W5 := Bk.of (hB5.mono (by omega))
    refine ⟨((keeps_of_below hB5).trans (KeepsOthers.setCell _ _ _)).from _, hb1.trans (Bk.setCell _ _ _), ⟨y, y2, ?_, World.cell?_setCell_same' _ _ _ (by rw [hc5]; rfl), by rw [World.frozen?_setCell]; exact hf5⟩, (hbk.trans hb1).trans (Bk.setCell _ _ _), (hbw.trans (hB5.mono hbw.size)).setCell (p := ⟨w3.heap.size, 0, none⟩) (by show w.heap.size ≤ w3.heap.size; omega) _⟩
    rw [List.map_append, List.map_singleton, runB_snoc, hrun]
    exact y1
  case done =>
    rintro D ys W hD hys ⟨⟨s, hs, hrun, hc, hf⟩, hbk, hbw⟩ hK
    rw [hys] at hrun
    have hlW : W.heap[w.heap.size]? = some (.cells #[.int .i64 v0, .int .i64 st, v2, v3] 25) := (hbk.block _ (by omega) (by omega)).trans hl4
    obtain ⟨g0, g1, g2, g3⟩ := hfld W hlW
    gi_wp2
    refine ⟨by simp, .inl ⟨_, _, rfl, run_takeDeferred hK, ?_⟩⟩
    refine ⟨_, results_tmp2 rfl _ _ _, ⟨_, _, rfl, hR2 s hrun⟩, hbw.trans (belowK_b (w := w) (Nat.le_refl _) W D _ _ (by omega) hK rfl rfl)⟩
  case stop =>
    rintro D c pre W _ _ h _
    exact h.elim
end
section
open Go.RowKit (Below)
def alter_Accepts_sig : Shape := ⟨[(.pair (.int .i64) (.pair (.int .i64) (.pair (.list (.list (.list (.list (.int .i64))))) (.pair (.list (.int .i64)) .unit)))), (.list (.int .i64))], [(0, .v 0), (1, .v 1)], []⟩
def alter_Accepts_out : Shape := ⟨[.bool, (.int .i64)], [(0, .v 0), (1, .v 1)], []⟩
noncomputable def alter_Accepts_ce : CE := ⟨6, alter_Accepts_sig, alter_Accepts_out, fun X => alter_Accepts X.1 X.2⟩
open Classical in
theorem aa_fc (a : (Int × (Int × ((List Tp3) × (Tp5 × Unit))))) (zs : List Int) (Y : Bool × Int) (hY : alter_Accepts a zs = some Y) (w : World) (Xs : Nat → Prop) (hX : ∀ b, Xs b → b < w.heap.size) (va sv : Value)
    (ha : DRel w (fun b => b < w.heap.size ∧ ¬ Xs b) (encD (.pair (.int .i64) (.pair (.int .i64) (.pair (.list (.list (.list (.list (.int .i64))))) (.pair (.list (.int .i64)) .unit)))) a) va) (hz : DRel w (fun b => b < w.heap.size ∧ ¬ Xs b) (encD (.list (.int .i64)) zs) sv) :
    Calls Try.prog 6 #[va, sv] w fun e w' => e = .returned (.tuple #[.bool Y.1, .int .i64 Y.2]) ∧ Below w.heap.size w w' := by
  have hI := Ints.of hz
  have hzW : ∀ W, Below w.heap.size w W → DRel W (fun b => b < W.heap.size ∧ ¬ Xs b) (encD (.list (.int .i64)) zs) sv := fun W hB => hz.mono fun b hb => ⟨⟨Nat.lt_of_lt_of_le hb.1 hB.size, hb.2⟩, hB.block b hb.1⟩
  have haW : ∀ W, Below w.heap.size w W → DRel W (fun b => b < W.heap.size ∧ ¬ Xs b) (encD (.pair (.int .i64) (.pair (.int .i64) (.pair (.list (.list (.list (.list (.int .i64))))) (.pair (.list (.int .i64)) .unit)))) a) va := fun W hB => ha.mono fun b hb => ⟨⟨Nat.lt_of_lt_of_le hb.1 hB.size, hb.2⟩, hB.block b hb.1⟩
  have hXW : ∀ W, Below w.heap.size w W → ∀ b, Xs b → b < W.heap.size := fun W hB b hb => Nat.lt_of_lt_of_le (hX b hb) hB.size
  obtain ⟨v0, st, q2, q3, _⟩ := a
  obtain ⟨v2, v3, rfl⟩ : ∃ v2 v3, va = .agg #[.int .i64 v0, .int .i64 st, v2, v3] := by
    have ha : DRel w _ (.agg [.lit (.int .i64 v0), .lit (.int .i64 st), encD (.list (.list (.list (.list (.int .i64))))) q2, encD (.list (.int .i64)) q3]) va := ha
    cases ha with
    | agg _ cs hcs hrel =>
      have hcs : cs.size = 4 := hcs
      have r0 : DRel w _ (.lit (.int .i64 v0)) (cs.getD 0 undef) := hrel 0 (by show 0 < 4; omega)
      have r1 : DRel w _ (.lit (.int .i64 st)) (cs.getD 1 undef) := hrel 1 (by show 1 < 4; omega)
      refine ⟨cs.getD 2 undef, cs.getD 3 undef, ?_⟩
      have ec : cs = #[cs.getD 0 undef, cs.getD 1 undef, cs.getD 2 undef, cs.getD 3 undef] := by
        apply Array.ext
        · rw [hcs]; rfl
        · intro i h2 h3
          have h3 : i < 4 := h3
          match i, h3 with
          | 0, _ => simp [Array.getD, h2]
          | 1, _ => simp [Array.getD, h2]
          | 2, _ => simp [Array.getD, h2]
          | 3, _ => simp [Array.getD, h2]
      generalize cs.getD 0 undef = u0 at r0 ec
      generalize cs.getD 1 undef = u1 at r1 ec
      cases r0 with
      | lit => cases r1 with
        | lit => rw [← ec]
  obtain ⟨ad, n, c, rfl⟩ : ∃ ad n c, sv = .slice ad n c := by
    have hz : DRel w _ (.sl 8 (zs.map fun n => D.lit (.int .i64 n))) sv := hz
    generalize (zs.map fun n => D.lit (.int .i64 n)) = l at hz
    cases hz with
    | nil => exact ⟨_, _, _, rfl⟩
    | sl => exact ⟨_, _, _, rfl⟩
  unfold alter_Accepts at hY
  obtain ⟨e0, hc, hY⟩ := Option.bind_eq_some_iff.1 hY
  have one : ∀ (d : D) (v : Value) (W : World), DRel W (fun b => b < W.heap.size ∧ ¬ Xs b) d v → ∀ i, i < 1 → DRel W (fun b => b < W.heap.size ∧ ¬ Xs b) ([d].getD i default) (#[v].getD i undef) := fun d v W h i hi => by
    obtain rfl : i = 0 := by omega
    exact h
  have hC : ∀ W, Below w.heap.size w W → Calls Try.prog 4 #[.agg #[.int .i64 v0, .int .i64 st, v2, v3]] W fun e W' => e = .returned (.int .i64 e0) ∧ Below W.heap.size W W' := fun W hB =>
    CE.dcall alter_Check_ok (v0, st, q2, q3, ()) e0 hc rfl rfl [_] rfl (.int .i64 e0) rfl (hXW W hB) #[_] rfl (one _ _ W (haW W hB))
  have go : ∀ (e1 s0 : Int) (Iv : Int → Prop) (f : Int → Int → Option Int), _ → _ → _ → _ → _ → _ → _ → _ → _ := fun e1 s0 Iv f hM hE hA h0 hst hR0 hR1 hR2 => callsIn_wide.1 ((aa_acc Fence.wide (fun _ _ _ _ _ h => callsIn_wide.2 h) trivial trivial trivial trivial trivial trivial trivial rfl v0 st v2 v3 ad n c zs w hI e0 e1 s0 Iv f hC hM hE hA h0 hst (fun b i => (b, i) = Y) hR0 hR1 hR2).mono (R' := fun e w' => e = .returned (.tuple #[.bool Y.1, .int .i64 Y.2]) ∧ Below w.heap.size w w') (by
    rintro e w' ⟨⟨b, i, rfl, rfl⟩, hb⟩; exact ⟨rfl, hb⟩))
  by_cases c0 : e0 = 0
  case neg =>
    rw [if_pos c0] at hY
    exact go 0 0 (fun _ => True) (fun _ _ => none) (fun h => absurd h c0) (fun h => absurd h c0) (fun h => absurd h c0) (fun h => absurd h c0) (fun h => absurd h c0) (fun _ => Option.some.inj hY) (fun h => absurd h c0) (fun h => absurd h c0)
  rw [if_neg (fun h => h c0)] at hY
  obtain ⟨e1, hm, hY⟩ := Option.bind_eq_some_iff.1 hY
  have two : ∀ (d1 d2 : D) (u1 u2 : Value) (W : World), DRel W (fun b => b < W.heap.size ∧ ¬ Xs b) d1 u1 → DRel W (fun b => b < W.heap.size ∧ ¬ Xs b) d2 u2 → ∀ i, i < 2 → DRel W (fun b => b < W.heap.size ∧ ¬ Xs b) ([d1, d2].getD i default) (#[u1, u2].getD i undef) := fun d1 d2 u1 u2 W h1 h2 i hi => by
    match i, hi with
    | 0, _ => exact h1
    | 1, _ => exact h2
  have hM : ∀ W, Below w.heap.size w W → Calls Try.prog 17 #[.int .i64 v0, .slice ad n c] W fun e W' => e = .returned (.int .i64 e1) ∧ Below W.heap.size W W' := fun W hB =>
    CE.dcall word_May_ok (v0, zs) e1 hm rfl rfl [_, _] rfl (.int .i64 e1) rfl (hXW W hB) #[_, _] rfl (two _ _ _ _ W (.lit _ rfl) (hzW W hB))
  by_cases c1 : e1 = 0
  case neg =>
    rw [if_pos c1] at hY
    exact go e1 0 (fun _ => True) (fun _ _ => none) (fun _ => hM) (fun _ h => absurd h c1) (fun _ h => absurd h c1) (fun _ h => absurd h c1) (fun _ h => absurd h c1) (fun h => absurd c0 h) (fun _ _ => Option.some.inj hY) (fun _ h => absurd h c1)
  rw [if_neg (fun h => h c1)] at hY
  obtain ⟨s0, he, hY⟩ := Option.bind_eq_some_iff.1 hY
  have hE : ∀ W, Below w.heap.size w W → Calls Try.prog 18 #[.agg #[.int .i64 v0, .int .i64 st, v2, v3]] W fun e W' => e = .returned (.int .i64 s0) ∧ Below W.heap.size W W' := fun W hB =>
    CE.dcall alter_ends_ok (v0, st, q2, q3, ()) s0 he rfl rfl [_] rfl (.int .i64 s0) rfl (hXW W hB) #[_] rfl (one _ _ W (haW W hB))
  unfold backAll at hY
  by_cases hg : ∃ I : Int → Prop, I s0 ∧ ∀ s x, I s → x ∈ zs → ∃ y, alter_ahead (v0, st, q2, q3, ()) s x = some y ∧ I y
  case neg => unfold G at hY; rw [if_neg hg] at hY; cases hY
  rw [G_pos hg] at hY
  obtain ⟨sE, hr, hY⟩ := Option.bind_eq_some_iff.1 hY
  obtain ⟨Iv, i0, i1⟩ := hg
  by_cases hst : 0 ≤ st
  case neg => unfold G at hY; rw [if_neg hst] at hY; cases hY
  rw [G_pos hst] at hY
  refine go e1 s0 Iv (fun s x => alter_ahead (v0, st, q2, q3, ()) s x) (fun _ => hM) (fun _ _ => hE) (fun _ _ s x hs hx => ?_) (fun _ _ => i0) (fun _ _ => hst) (fun h => absurd c0 h) (fun _ h => absurd c1 h) (fun _ _ s hs => ?_)
  · obtain ⟨y, y1, y2⟩ := i1 s x hs hx
    refine ⟨y, y1, y2, fun W hB => ?_⟩
    refine CE.dcall alter_ahead_ok ((v0, st, q2, q3, ()), s, x) y y1 rfl rfl [_, _, _] rfl (.int .i64 y) rfl (hXW W hB) #[_, _, _] rfl (fun i hi => ?_)
    match i, hi with
    | 0, _ => exact haW W hB
    | 1, _ => exact .lit _ rfl
    | 2, _ => exact .lit _ rfl
  · have hs : runB (fun s x => alter_ahead (v0, st, q2, q3, ()) s x) zs.reverse s0 = some s := hs
    rw [hr] at hs
    cases hs
    rw [← Option.some.inj hY]
    have e1 : bits BinOp.and .i64 (sE / 2 ^ min st.toNat 64) 1 = iand .i64 (ishr .i64 sE st) 1 := by
      show _ = iand .i64 (sE.fdiv (2 ^ min st.toNat 64)) 1
      rw [Int.fdiv_eq_ediv_of_nonneg _ (Int.pow_nonneg (by omega))]
      simp [bits, iand]
    rw [e1]
    rfl
theorem alter_Accepts_ok : CE.ok Try.prog alter_Accepts_ce where
  call := Try.call6
  fc X Y hY := by
    obtain ⟨a, zs⟩ : (Int × (Int × ((List Tp3) × (Tp5 × Unit)))) × List Int := X
    have hY : alter_Accepts a zs = some Y := hY
    intro w Xs H vs hX hlow hH hvs hargs
    have hvs : vs.size = 2 := hvs
    have h0 := hargs 0 (by show 0 < 2; omega)
    have h1 := hargs 1 (by show 1 < 2; omega)
    have ev : vs = #[vs.getD 0 undef, vs.getD 1 undef] := by
      apply Array.ext
      · rw [hvs]; rfl
      · intro i h2 h3
        have h3 : i < 2 := h3
        match i, h3 with
        | 0, _ => simp [Array.getD, h2]
        | 1, _ => simp [Array.getD, h2]
    generalize vs.getD 0 undef = va at h0 ev
    generalize vs.getD 1 undef = sv at h1 ev
    subst ev
    have hne : ∀ id, entOf (hpSt [] []) id = none := hp_none
    have hS : ∀ b, Sh Xs (entOf (hpSt [] [])) H w b → (b < w.heap.size ∧ ¬ Xs b) ∧ w.heap[b]? = w.heap[b]? := fun b hb => ⟨⟨hb.1, hb.2.1⟩, rfl⟩
    have h0 : VRel w (Sh Xs (entOf (hpSt [] [])) H w) H (.d (encD (.pair (.int .i64) (.pair (.int .i64) (.pair (.list (.list (.list (.list (.int .i64))))) (.pair (.list (.int .i64)) .unit)))) a)) va := h0
    have h1 : VRel w (Sh Xs (entOf (hpSt [] [])) H w) H (.d (encD (.list (.int .i64)) zs)) sv := h1
    cases h0 with
    | d _ _ h0 => cases h1 with
      | d _ _ h1 =>
        refine (aa_fc a zs Y hY w Xs hX va sv (h0.mono hS) (h1.mono hS)).mono ?_
        rintro e w' ⟨rfl, hb⟩
        refine ⟨_, _, _, H, rfl, ⟨rfl, rfl⟩, ⟨hb.os, hb.tape, hb.output, hb.size⟩, fun b hb' _ => hb.block b hb', ?_, ?_, fun _ _ => rfl, ?_⟩
        · exact ⟨fun id e he => absurd ((hne id).symm.trans he) (by simp), fun id e v b he => absurd ((hne id).symm.trans he) (by simp), fun i j e e' v v' b he => absurd ((hne i).symm.trans he) (by simp)⟩
        · rintro b ⟨id, e, v, he, _⟩
          exact absurd ((hne id).symm.trans he) (by simp)
        · refine .tup _ #[_, _] rfl fun i hi => ?_
          have hi : i < 2 := hi
          match i, hi with
          | 0, _ => exact .d _ _ (.lit _ rfl)
          | 1, _ => exact .d _ _ (.lit _ rfl)
end


def r1_May_sig : Shape := ⟨[(.int .i64), (.list (.int .i64))], [(0, .v 0), (1, .v 1)], []⟩
def r1_May_out : Shape := ⟨[(.int .i64)], [(0, .v 0)], []⟩
noncomputable def r1_May_ce : CE := ⟨7, r1_May_sig, r1_May_out, fun X => r1_May X.1 X.2⟩
theorem r1_May_ok : CE.ok Try.prog r1_May_ce := CE.of (Γ := []) (by kernel_rfl) TT_ok (GOK.nil) ⟨[(6, ⟨⟨[(.int .i64)], [(5, .v 0)], []⟩, [4, 15, 16, 17, 18, 19, 20, 21, 22, 23, 24, 25, 26, 27, 28, 29, 30, 31, 32, 33], [], [], 0, []⟩)], [], [], []⟩ Try.func7 rfl Try.ntmps7 (rs := [.tmp 4]) rfl (sig := r1_May_sig) (out := r1_May_out) rfl Try.call7 (fun X => by kernel_rfl)

def r26_From_sig : Shape := ⟨[(.pair (.int .i64) (.pair (.int .i64) (.pair (.list (.list (.list (.list (.int .i64))))) (.pair (.list (.int .i64)) .unit)))), (.int .i64), (.list (.int .i64)), (.int .i64), (.list (.list (.int .i64)))], [(0, .v 0), (1, .v 1), (2, .v 2), (3, .v 3), (4, .own 100000)], [(100000, .out 100001 23 3 4)]⟩
def r26_From_out : Shape := ⟨[.bool, (.list (.list (.int .i64)))], [(0, .v 0)], [(100000, .out 100001 23 3 1)]⟩
noncomputable def r26_From_ce : CE := ⟨21, r26_From_sig, r26_From_out, LFix r26_From_F⟩
theorem r26_From_ok : CE.ok Try.prog r26_From_ce := CE.ofRec (Γ := []) (by kernel_rfl) TT_ok (GOK.nil) ⟨[(8, ⟨⟨[.bool, (.int .i64), (.list (.list (.int .i64)))], [(4, .own 100000), (11, .v 0), (13, .v 1)], [(100000, .out 100001 23 3 2)]⟩, [14, 15, 19, 21, 53, 54, 55, 56, 57, 58, 59, 60, 61, 62, 63, 64, 65, 66, 67, 68, 69, 70, 71, 72, 73, 74, 75, 76, 77, 78, 79, 80, 81, 82, 83, 84, 85, 86, 87, 88], [], [0], 1, []⟩), (12, ⟨⟨[.bool, (.int .i64), (.list (.list (.int .i64)))], [(4, .own 100000), (14, .v 0), (15, .v 1)], [(100000, .out 100001 23 3 2)]⟩, [63, 64, 65, 66, 67, 68, 69, 70, 71, 72, 73, 74, 75, 76, 77, 78, 79, 80, 81, 82, 83, 84, 85, 86, 87], [], [0], 1, []⟩)], [(9, ⟨⟨[.bool, (.list (.list (.int .i64)))], [(4, .own 100000), (11, .v 0)], [(100000, .out 100001 23 3 1)]⟩, [12, 13, 14, 15, 19, 21, 38, 39, 40, 41, 42, 43, 44, 45, 46, 47, 48, 49, 50, 51, 52, 53, 54, 55, 56, 57, 58, 59, 60, 61, 62, 63, 64, 65, 66, 67, 68, 69, 70, 71, 72, 73, 74, 75, 76, 77, 78, 79, 80, 81, 82, 83, 84, 85, 86, 87, 88], [], [0], 1, []⟩), (18, ⟨⟨[(.list (.list (.int .i64)))], [(4, .own 100000)], [(100000, .out 100001 23 3 0)]⟩, [92, 94, 95, 96, 97, 98, 99, 100, 101], [], [0], 1, []⟩)], [(6, [(0, 0), (0, 1), (0, 2), (0, 3), (0, 4), (0, 5), (0, 6), (0, 7), (0, 8), (0, 9), (0, 10), (0, 11)]), (14, [(0, 0), (0, 1), (0, 2), (0, 3), (0, 4), (0, 5), (0, 6), (0, 7), (0, 8), (0, 9), (0, 10), (0, 11), (2, 12), (0, 13)]), (16, [(0, 0), (0, 1), (0, 2), (0, 3), (0, 4), (0, 5), (4, 6)]), (18, [(0, 0), (0, 1), (0, 2), (0, 3), (0, 4), (0, 5), (4, 6)])], []⟩ Try.func21 rfl Try.ntmps21 (rs := [.tmp 10]) rfl (sig := r26_From_sig) (out := r26_From_out) rfl Try.call21 (d := r26_From_F) (fun rc X => by kernel_rfl)

def r26_Accepts_sig : Shape := ⟨[(.pair (.int .i64) (.pair (.int .i64) (.pair (.list (.list (.list (.list (.int .i64))))) (.pair (.list (.int .i64)) .unit)))), (.list (.int .i64))], [(0, .v 0), (1, .v 1)], []⟩
def r26_Accepts_out : Shape := ⟨[.bool], [(0, .v 0)], []⟩
noncomputable def r26_Accepts_ce : CE := ⟨8, r26_Accepts_sig, r26_Accepts_out, fun X => r26_Accepts X.1 X.2⟩
theorem r26_Accepts_ok : CE.ok Try.prog r26_Accepts_ce := CE.of (Γ := [r26_From_ce]) (by kernel_rfl) TT_ok (GOK.cons r26_From_ok (GOK.nil)) ⟨[(3, ⟨⟨[(.int .i64), (.list (.list (.int .i64)))], [(5, .own 1), (6, .v 0)], [(1, .out 2 23 3 1)]⟩, [7, 8, 9, 10, 11, 12, 13, 14, 15, 16, 17, 18, 19, 20], [], [0], 3, []⟩)], [], [(5, [(0, 0), (0, 1), (0, 2), (0, 3), (2, 4), (4, 5), (4, 6), (0, 7)])], []⟩ Try.func8 rfl Try.ntmps8 (rs := [.tmp 4]) rfl (sig := r26_Accepts_sig) (out := r26_Accepts_out) rfl Try.call8 (fun X => by kernel_rfl)

def law_AlterAccepts_sig : Shape := ⟨[(.pair (.int .i64) (.pair (.int .i64) (.pair (.list (.list (.list (.list (.int .i64))))) (.pair (.list (.int .i64)) .unit)))), (.list (.int .i64))], [(0, .v 0), (1, .v 1)], []⟩
def law_AlterAccepts_out : Shape := ⟨[.bool], [(0, .v 0)], []⟩
noncomputable def law_AlterAccepts_ce : CE := ⟨3, law_AlterAccepts_sig, law_AlterAccepts_out, fun X => law_AlterAccepts X.1 X.2⟩
theorem law_AlterAccepts_ok : CE.ok Try.prog law_AlterAccepts_ce := CE.of (Γ := [alter_Check_ce, r26_Check_ce, alter_Accepts_ce, r1_May_ce, r26_Accepts_ce]) (by kernel_rfl) TT_ok (GOK.cons alter_Check_ok (GOK.cons r26_Check_ok (GOK.cons alter_Accepts_ok (GOK.cons r1_May_ok (GOK.cons r26_Accepts_ok (GOK.nil)))))) ⟨[], [(7, ⟨⟨[(.int .i64)], [(6, .v 0)], []⟩, [23, 24, 25, 26, 27, 28], [], [0], 1, []⟩)], [], []⟩ Try.func3 rfl Try.ntmps3 (rs := [.tmp 4]) rfl (sig := law_AlterAccepts_sig) (out := law_AlterAccepts_out) rfl Try.call3 (fun X => by kernel_rfl)

end Go.Proofs.Ytbkokgohnmjdeaa.alterAcceptsW
