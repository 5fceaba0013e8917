/- That the functions of 'TransRuns' compute so. -/
import Derived.Test.YtiamohlhhcafdaaTransRunsD
import Derived.Test.YtiamohlhhcafdaaProg
import Derived.KernelRfl
set_option maxHeartbeats 1000000
set_option maxRecDepth 20000
set_option linter.unusedSimpArgs false
set_option linter.unusedVariables false
namespace Go.Proofs.Ytiamohlhhcafdaa.transRunsW
open Go Go.Ab
def te3 : TE := ⟨3, .int .i64, false, 1, 8, .int .i64 0, some (.int .i64)⟩
theorem te3_ok : TEok Try.prog te3 := ⟨TI.of Try.underlying3 rfl (by kernel_rfl), Try.underlying3, fun t h => by cases h; exact ⟨rfl, rfl, by decide, rfl⟩⟩
def te4 : TE := ⟨4, .bool, false, 1, 1, .bool false, some .bool⟩
theorem te4_ok : TEok Try.prog te4 := ⟨TI.of Try.underlying4 rfl (by kernel_rfl), Try.underlying4, fun t h => by cases h; exact ⟨rfl, rfl, by decide, rfl⟩⟩
def te25 : TE := ⟨25, .int .i64, false, 1, 8, .int .i64 0, some (.int .i64)⟩
theorem te25_ok : TEok Try.prog te25 := ⟨TI.of Try.underlying25 rfl (by kernel_rfl), Try.underlying25, fun t h => by cases h; exact ⟨rfl, rfl, by decide, rfl⟩⟩
def te31 : TE := ⟨31, .slice 32, false, 1, 24, .slice none 0 0, some (.list (.list (.int .i64)))⟩
theorem te31_ok : TEok Try.prog te31 := ⟨TI.of Try.underlying31 rfl (by kernel_rfl), Try.underlying31, fun t h => by cases h; exact ⟨rfl, rfl, by decide, rfl⟩⟩
def te32 : TE := ⟨32, .slice 3, false, 1, 24, .slice none 0 0, some (.list (.int .i64))⟩
theorem te32_ok : TEok Try.prog te32 := ⟨TI.of Try.underlying32 rfl (by kernel_rfl), Try.underlying32, fun t h => by cases h; exact ⟨rfl, rfl, by decide, rfl⟩⟩
def te92 : TE := ⟨92, .slice 31, false, 1, 24, .slice none 0 0, some (.list (.list (.list (.int .i64))))⟩
theorem te92_ok : TEok Try.prog te92 := ⟨TI.of Try.underlying92 rfl (by kernel_rfl), Try.underlying92, fun t h => by cases h; exact ⟨rfl, rfl, by decide, rfl⟩⟩
def te94 : TE := ⟨94, .struct [(0, 3), (1, 3), (2, 3), (3, 32), (4, 31), (5, 92), (6, 31)], true, 7, 120, .agg ⟨[.int .i64 0, .int .i64 0, .int .i64 0, .slice none 0 0, .slice none 0 0, .slice none 0 0, .slice none 0 0]⟩, some (.pair (.int .i64) (.pair (.int .i64) (.pair (.int .i64) (.pair (.list (.int .i64)) (.pair (.list (.list (.int .i64))) (.pair (.list (.list (.list (.int .i64)))) (.pair (.list (.list (.int .i64))) .unit)))))))⟩
theorem te94_ok : TEok Try.prog te94 := ⟨TI.of Try.underlying94 rfl (by kernel_rfl), ⟨_, Try.underlying94, rfl⟩, fun t h => by cases h; exact ⟨rfl, rfl, by decide, rfl⟩⟩
def te130 : TE := ⟨130, .other, false, 1, 8, .nilFunc, none⟩
theorem te130_ok : TEok Try.prog te130 := ⟨TI.of Try.underlying130 rfl (by kernel_rfl), trivial, fun t h => by cases h⟩
def TT : List TE := [te3, te4, te25, te31, te32, te92, te94, te130]
theorem TT_ok : TOK Try.prog TT := TOK.cons te3_ok (TOK.cons te4_ok (TOK.cons te25_ok (TOK.cons te31_ok (TOK.cons te32_ok (TOK.cons te92_ok (TOK.cons te94_ok (TOK.cons te130_ok (TOK.nil))))))))

def trans_Check_1_sig : Shape := ⟨[(.int .i64), (.int .i64)], [(0, .v 0), (1, .addr 1)], []⟩
def trans_Check_1_out : Shape := ⟨[.bool], [(0, .v 0)], []⟩
noncomputable def trans_Check_1_ce : CE := ⟨113, trans_Check_1_sig, trans_Check_1_out, fun X => trans_Check_1 X.1 X.2⟩
theorem trans_Check_1_ok : CE.ok Try.prog trans_Check_1_ce := CE.of (Γ := []) (by kernel_rfl) TT_ok (GOK.nil) ⟨[], [], [], []⟩ Try.func113 rfl Try.ntmps113 (rs := [.tmp 3]) rfl (sig := trans_Check_1_sig) (out := trans_Check_1_out) rfl Try.call113 (fun X => by kernel_rfl)

def slices_IndexFunc_1_sig : Shape := ⟨[(.list (.int .i64)), (.int .i64)], [(0, .v 0), (1, .fn 113 [.addr 1])], []⟩
def slices_IndexFunc_1_out : Shape := ⟨[(.int .i64)], [(0, .v 0)], []⟩
noncomputable def slices_IndexFunc_1_ce : CE := ⟨159, slices_IndexFunc_1_sig, slices_IndexFunc_1_out, fun X => slices_IndexFunc_1 X.1 X.2⟩
theorem slices_IndexFunc_1_ok : CE.ok Try.prog slices_IndexFunc_1_ce := CE.of (Γ := [trans_Check_1_ce]) (by kernel_rfl) TT_ok (GOK.cons trans_Check_1_ok (GOK.nil)) ⟨[(2, ⟨⟨[(.int .i64)], [(8, .v 0)], []⟩, [4, 5, 9, 10, 11, 12, 13, 14, 15, 16, 17, 18], [], [], 0, []⟩)], [], [], []⟩ Try.func159 rfl Try.ntmps159 (rs := [.tmp 4]) rfl (sig := slices_IndexFunc_1_sig) (out := slices_IndexFunc_1_out) rfl Try.call159 (fun X => by kernel_rfl)

def slices_ContainsFunc_1_sig : Shape := ⟨[(.list (.int .i64)), (.int .i64)], [(0, .v 0), (1, .fn 113 [.addr 1])], []⟩
def slices_ContainsFunc_1_out : Shape := ⟨[.bool], [(0, .v 0)], []⟩
noncomputable def slices_ContainsFunc_1_ce : CE := ⟨115, slices_ContainsFunc_1_sig, slices_ContainsFunc_1_out, fun X => slices_ContainsFunc_1 X.1 X.2⟩
theorem slices_ContainsFunc_1_ok : CE.ok Try.prog slices_ContainsFunc_1_ce := CE.of (Γ := [slices_IndexFunc_1_ce]) (by kernel_rfl) TT_ok (GOK.cons slices_IndexFunc_1_ok (GOK.nil)) ⟨[], [], [], []⟩ Try.func115 rfl Try.ntmps115 (rs := [.tmp 4]) rfl (sig := slices_ContainsFunc_1_sig) (out := slices_ContainsFunc_1_out) rfl Try.call115 (fun X => by kernel_rfl)

def trans_Check_2_sig : Shape := ⟨[(.list (.int .i64)), (.int .i64)], [(0, .v 0), (1, .ptr 100000 0)], [(100000, .box 130 [.fn 113 [.addr 1]])]⟩
def trans_Check_2_out : Shape := ⟨[.bool, (.int .i64)], [(0, .v 0)], [(100000, .box 130 [.fn 113 [.addr 1]])]⟩
noncomputable def trans_Check_2_ce : CE := ⟨114, trans_Check_2_sig, trans_Check_2_out, fun X => trans_Check_2 X.1 X.2⟩
theorem trans_Check_2_ok : CE.ok Try.prog trans_Check_2_ce := CE.of (Γ := [slices_ContainsFunc_1_ce]) (by kernel_rfl) TT_ok (GOK.cons slices_ContainsFunc_1_ok (GOK.nil)) ⟨[], [], [], []⟩ Try.func114 rfl Try.ntmps114 (rs := [.tmp 3]) rfl (sig := trans_Check_2_sig) (out := trans_Check_2_out) rfl Try.call114 (fun X => by kernel_rfl)

def slices_IndexFunc_sig : Shape := ⟨[(.list (.list (.int .i64))), (.int .i64)], [(0, .v 0), (1, .fn 114 [.ptr 100000 0])], [(100000, .box 130 [.fn 113 [.addr 1]])]⟩
def slices_IndexFunc_out : Shape := ⟨[(.int .i64), (.int .i64)], [(0, .v 0)], [(100000, .box 130 [.fn 113 [.addr 1]])]⟩
noncomputable def slices_IndexFunc_ce : CE := ⟨144, slices_IndexFunc_sig, slices_IndexFunc_out, fun X => slices_IndexFunc X.1 X.2⟩
theorem slices_IndexFunc_ok : CE.ok Try.prog slices_IndexFunc_ce := CE.of (Γ := [trans_Check_2_ce]) (by kernel_rfl) TT_ok (GOK.cons trans_Check_2_ok (GOK.nil)) ⟨[(2, ⟨⟨[(.int .i64), (.int .i64)], [(1, .fn 114 [.ptr 100000 0]), (8, .v 0)], [(100000, .box 130 [.fn 113 [.addr 1]])]⟩, [4, 5, 9, 10, 11, 12, 13, 14, 15, 16, 17, 18], [], [], 0, []⟩)], [], [], []⟩ Try.func144 rfl Try.ntmps144 (rs := [.tmp 4]) rfl (sig := slices_IndexFunc_sig) (out := slices_IndexFunc_out) rfl Try.call144 (fun X => by kernel_rfl)

def slices_ContainsFunc_sig : Shape := ⟨[(.list (.list (.int .i64))), (.int .i64)], [(0, .v 0), (1, .fn 114 [.ptr 100000 0])], [(100000, .box 130 [.fn 113 [.addr 1]])]⟩
def slices_ContainsFunc_out : Shape := ⟨[.bool, (.int .i64)], [(0, .v 0)], [(100000, .box 130 [.fn 113 [.addr 1]])]⟩
noncomputable def slices_ContainsFunc_ce : CE := ⟨92, slices_ContainsFunc_sig, slices_ContainsFunc_out, fun X => slices_ContainsFunc X.1 X.2⟩
theorem slices_ContainsFunc_ok : CE.ok Try.prog slices_ContainsFunc_ce := CE.of (Γ := [slices_IndexFunc_ce]) (by kernel_rfl) TT_ok (GOK.cons slices_IndexFunc_ok (GOK.nil)) ⟨[], [], [], []⟩ Try.func92 rfl Try.ntmps92 (rs := [.tmp 4]) rfl (sig := slices_ContainsFunc_sig) (out := slices_ContainsFunc_out) rfl Try.call92 (fun X => by kernel_rfl)

def trans_said_sig : Shape := ⟨[(.pair (.int .i64) (.pair (.int .i64) (.pair (.int .i64) (.pair (.list (.int .i64)) (.pair (.list (.list (.int .i64))) (.pair (.list (.list (.list (.int .i64)))) (.pair (.list (.list (.int .i64))) .unit)))))))], [(0, .v 0)], []⟩
def trans_said_out : Shape := ⟨[(.list (.list (.int .i64)))], [(0, .own 0)], [(0, .arr 32 0)]⟩
noncomputable def trans_said_ce : CE := ⟨117, trans_said_sig, trans_said_out, fun X => trans_said X⟩
theorem trans_said_ok : CE.ok Try.prog trans_said_ce := CE.of (Γ := []) (by kernel_rfl) TT_ok (GOK.nil) ⟨[(3, ⟨⟨[(.int .i64), (.list (.list (.int .i64)))], [(3, .own 2), (15, .v 0)], [(2, .arr 32 1)]⟩, [5, 8, 11, 16, 17, 18, 19, 20, 21, 22], [], [0], 3, []⟩)], [], [], []⟩ Try.func117 rfl Try.ntmps117 (rs := [.tmp 2]) rfl (sig := trans_said_sig) (out := trans_said_out) rfl Try.call117 (fun X => by kernel_rfl)

def trans_long_1_sig : Shape := ⟨[(.list (.int .i64))], [(0, .v 0)], []⟩
def trans_long_1_out : Shape := ⟨[.bool], [(0, .v 0)], []⟩
noncomputable def trans_long_1_ce : CE := ⟨160, trans_long_1_sig, trans_long_1_out, fun X => trans_long_1 X⟩
theorem trans_long_1_ok : CE.ok Try.prog trans_long_1_ce := CE.of (Γ := []) (by kernel_rfl) TT_ok (GOK.nil) ⟨[], [], [], []⟩ Try.func160 rfl Try.ntmps160 (rs := [.tmp 2]) rfl (sig := trans_long_1_sig) (out := trans_long_1_out) rfl Try.call160 (fun X => by kernel_rfl)

def slices_IndexFunc_2_sig : Shape := ⟨[(.list (.list (.int .i64)))], [(0, .v 0), (1, .fn 160 [])], []⟩
def slices_IndexFunc_2_out : Shape := ⟨[(.int .i64)], [(0, .v 0)], []⟩
noncomputable def slices_IndexFunc_2_ce : CE := ⟨144, slices_IndexFunc_2_sig, slices_IndexFunc_2_out, fun X => slices_IndexFunc_2 X⟩
theorem slices_IndexFunc_2_ok : CE.ok Try.prog slices_IndexFunc_2_ce := CE.of (Γ := [trans_long_1_ce]) (by kernel_rfl) TT_ok (GOK.cons trans_long_1_ok (GOK.nil)) ⟨[(2, ⟨⟨[(.int .i64)], [(8, .v 0)], []⟩, [4, 5, 9, 10, 11, 12, 13, 14, 15, 16, 17, 18], [], [], 0, []⟩)], [], [], []⟩ Try.func144 rfl Try.ntmps144 (rs := [.tmp 4]) rfl (sig := slices_IndexFunc_2_sig) (out := slices_IndexFunc_2_out) rfl Try.call144 (fun X => by kernel_rfl)

def slices_ContainsFunc_2_sig : Shape := ⟨[(.list (.list (.int .i64)))], [(0, .v 0), (1, .fn 160 [])], []⟩
def slices_ContainsFunc_2_out : Shape := ⟨[.bool], [(0, .v 0)], []⟩
noncomputable def slices_ContainsFunc_2_ce : CE := ⟨92, slices_ContainsFunc_2_sig, slices_ContainsFunc_2_out, fun X => slices_ContainsFunc_2 X⟩
theorem slices_ContainsFunc_2_ok : CE.ok Try.prog slices_ContainsFunc_2_ce := CE.of (Γ := [slices_IndexFunc_2_ce]) (by kernel_rfl) TT_ok (GOK.cons slices_IndexFunc_2_ok (GOK.nil)) ⟨[], [], [], []⟩ Try.func92 rfl Try.ntmps92 (rs := [.tmp 4]) rfl (sig := slices_ContainsFunc_2_sig) (out := slices_ContainsFunc_2_out) rfl Try.call92 (fun X => by kernel_rfl)

def trans_long_sig : Shape := ⟨[(.pair (.int .i64) (.pair (.int .i64) (.pair (.int .i64) (.pair (.list (.int .i64)) (.pair (.list (.list (.int .i64))) (.pair (.list (.list (.list (.int .i64)))) (.pair (.list (.list (.int .i64))) .unit)))))))], [(0, .v 0)], []⟩
def trans_long_out : Shape := ⟨[.bool], [(0, .v 0)], []⟩
noncomputable def trans_long_ce : CE := ⟨116, trans_long_sig, trans_long_out, fun X => trans_long X⟩
theorem trans_long_ok : CE.ok Try.prog trans_long_ce := CE.of (Γ := [trans_said_ce, slices_ContainsFunc_2_ce]) (by kernel_rfl) TT_ok (GOK.cons trans_said_ok (GOK.cons slices_ContainsFunc_2_ok (GOK.nil))) ⟨[], [], [], []⟩ Try.func116 rfl Try.ntmps116 (rs := [.tmp 2]) rfl (sig := trans_long_sig) (out := trans_long_out) rfl Try.call116 (fun X => by kernel_rfl)

def trans_Check_3_sig : Shape := ⟨[(.int .i64), (.pair (.int .i64) (.pair (.int .i64) (.pair (.int .i64) (.pair (.list (.int .i64)) (.pair (.list (.list (.int .i64))) (.pair (.list (.list (.list (.int .i64)))) (.pair (.list (.list (.int .i64))) .unit)))))))], [(0, .v 0), (1, .addr 1)], []⟩
def trans_Check_3_out : Shape := ⟨[.bool], [(0, .v 0)], []⟩
noncomputable def trans_Check_3_ce : CE := ⟨118, trans_Check_3_sig, trans_Check_3_out, fun X => trans_Check_3 X.1 X.2⟩
theorem trans_Check_3_ok : CE.ok Try.prog trans_Check_3_ce := CE.of (Γ := []) (by kernel_rfl) TT_ok (GOK.nil) ⟨[], [], [], []⟩ Try.func118 rfl Try.ntmps118 (rs := [.tmp 3]) rfl (sig := trans_Check_3_sig) (out := trans_Check_3_out) rfl Try.call118 (fun X => by kernel_rfl)

def slices_IndexFunc_3_sig : Shape := ⟨[(.list (.int .i64)), (.pair (.int .i64) (.pair (.int .i64) (.pair (.int .i64) (.pair (.list (.int .i64)) (.pair (.list (.list (.int .i64))) (.pair (.list (.list (.list (.int .i64)))) (.pair (.list (.list (.int .i64))) .unit)))))))], [(0, .v 0), (1, .fn 118 [.addr 1])], []⟩
def slices_IndexFunc_3_out : Shape := ⟨[(.int .i64)], [(0, .v 0)], []⟩
noncomputable def slices_IndexFunc_3_ce : CE := ⟨159, slices_IndexFunc_3_sig, slices_IndexFunc_3_out, fun X => slices_IndexFunc_3 X.1 X.2⟩
theorem slices_IndexFunc_3_ok : CE.ok Try.prog slices_IndexFunc_3_ce := CE.of (Γ := [trans_Check_3_ce]) (by kernel_rfl) TT_ok (GOK.cons trans_Check_3_ok (GOK.nil)) ⟨[(2, ⟨⟨[(.int .i64)], [(8, .v 0)], []⟩, [4, 5, 9, 10, 11, 12, 13, 14, 15, 16, 17, 18], [], [], 0, []⟩)], [], [], []⟩ Try.func159 rfl Try.ntmps159 (rs := [.tmp 4]) rfl (sig := slices_IndexFunc_3_sig) (out := slices_IndexFunc_3_out) rfl Try.call159 (fun X => by kernel_rfl)

def slices_ContainsFunc_3_sig : Shape := ⟨[(.list (.int .i64)), (.pair (.int .i64) (.pair (.int .i64) (.pair (.int .i64) (.pair (.list (.int .i64)) (.pair (.list (.list (.int .i64))) (.pair (.list (.list (.list (.int .i64)))) (.pair (.list (.list (.int .i64))) .unit)))))))], [(0, .v 0), (1, .fn 118 [.addr 1])], []⟩
def slices_ContainsFunc_3_out : Shape := ⟨[.bool], [(0, .v 0)], []⟩
noncomputable def slices_ContainsFunc_3_ce : CE := ⟨115, slices_ContainsFunc_3_sig, slices_ContainsFunc_3_out, fun X => slices_ContainsFunc_3 X.1 X.2⟩
theorem slices_ContainsFunc_3_ok : CE.ok Try.prog slices_ContainsFunc_3_ce := CE.of (Γ := [slices_IndexFunc_3_ce]) (by kernel_rfl) TT_ok (GOK.cons slices_IndexFunc_3_ok (GOK.nil)) ⟨[], [], [], []⟩ Try.func115 rfl Try.ntmps115 (rs := [.tmp 4]) rfl (sig := slices_ContainsFunc_3_sig) (out := slices_ContainsFunc_3_out) rfl Try.call115 (fun X => by kernel_rfl)

def trans_Check_sig : Shape := ⟨[(.pair (.int .i64) (.pair (.int .i64) (.pair (.int .i64) (.pair (.list (.int .i64)) (.pair (.list (.list (.int .i64))) (.pair (.list (.list (.list (.int .i64)))) (.pair (.list (.list (.int .i64))) .unit)))))))], [(0, .v 0)], []⟩
def trans_Check_out : Shape := ⟨[(.int .i64)], [(0, .v 0)], []⟩
noncomputable def trans_Check_ce : CE := ⟨52, trans_Check_sig, trans_Check_out, fun X => trans_Check X⟩
theorem trans_Check_ok : CE.ok Try.prog trans_Check_ce := CE.of (Γ := [trans_Check_1_ce, slices_ContainsFunc_ce, trans_long_ce, trans_said_ce, slices_ContainsFunc_3_ce]) (by kernel_rfl) TT_ok (GOK.cons trans_Check_1_ok (GOK.cons slices_ContainsFunc_ok (GOK.cons trans_long_ok (GOK.cons trans_said_ok (GOK.cons slices_ContainsFunc_3_ok (GOK.nil)))))) ⟨[(2, ⟨⟨[(.int .i64)], [(16, .v 0)], []⟩, [2, 4, 17, 18, 19, 20, 21, 22, 23, 24, 25, 26], [], [0, 1], 2, []⟩), (13, ⟨⟨[(.int .i64)], [(49, .v 0)], []⟩, [2, 6, 50, 51, 52, 53, 54, 55, 56, 57, 58, 59, 60, 61, 62, 63, 64, 65, 66, 67, 68, 69, 70, 71, 72], [], [0, 1, 2], 3, []⟩), (24, ⟨⟨[(.int .i64)], [(89, .v 0)], []⟩, [2, 9, 90, 91, 92, 93, 94, 95, 96], [], [0, 1, 3, 4], 5, []⟩)], [], [(15, [(0, 0), (0, 1), (0, 2), (0, 3), (0, 4), (0, 5), (0, 6), (0, 7), (0, 8), (0, 9), (0, 10), (0, 11), (0, 12), (0, 13), (0, 14), (0, 15), (0, 16), (0, 17), (0, 18), (0, 19)])], []⟩ Try.func52 rfl Try.ntmps52 (rs := [.tmp 2]) rfl (sig := trans_Check_sig) (out := trans_Check_out) rfl Try.call52 (fun X => by kernel_rfl)

def r16_Words_sig : Shape := ⟨[(.pair (.int .i64) (.pair (.int .i64) (.pair (.int .i64) (.pair (.list (.int .i64)) (.pair (.list (.list (.int .i64))) (.pair (.list (.list (.list (.int .i64)))) (.pair (.list (.list (.int .i64))) .unit)))))))], [(0, .v 0)], []⟩
def r16_Words_out : Shape := ⟨[(.list (.list (.int .i64)))], [(0, .own 0)], [(0, .arr 32 0)]⟩
noncomputable def r16_Words_ce : CE := ⟨120, r16_Words_sig, r16_Words_out, fun X => r16_Words X⟩
theorem r16_Words_ok : CE.ok Try.prog r16_Words_ce := CE.of (Γ := []) (by kernel_rfl) TT_ok (GOK.nil) ⟨[(5, ⟨⟨[(.int .i64), (.list (.list (.int .i64)))], [(3, .own 3), (4, .v 0)], [(3, .arr 32 1)]⟩, [9, 10, 13, 14, 15, 16, 17, 18, 19, 20, 21, 22, 23, 24, 25, 26, 27], [], [0, 1], 4, []⟩)], [], [], []⟩ Try.func120 rfl Try.ntmps120 (rs := [.tmp 2]) rfl (sig := r16_Words_sig) (out := r16_Words_out) rfl Try.call120 (fun X => by kernel_rfl)

def r16_Long_sig : Shape := ⟨[(.pair (.int .i64) (.pair (.int .i64) (.pair (.int .i64) (.pair (.list (.int .i64)) (.pair (.list (.list (.int .i64))) (.pair (.list (.list (.list (.int .i64)))) (.pair (.list (.list (.int .i64))) .unit)))))))], [(0, .v 0)], []⟩
def r16_Long_out : Shape := ⟨[.bool], [(0, .v 0)], []⟩
noncomputable def r16_Long_ce : CE := ⟨119, r16_Long_sig, r16_Long_out, fun X => r16_Long X⟩
theorem r16_Long_ok : CE.ok Try.prog r16_Long_ce := CE.of (Γ := [r16_Words_ce]) (by kernel_rfl) TT_ok (GOK.cons r16_Words_ok (GOK.nil)) ⟨[(3, ⟨⟨[(.int .i64)], [(4, .v 0)], []⟩, [2, 7, 8, 9, 10, 11, 12, 13, 14, 15, 16, 17, 18], [], [0, 1], 2, []⟩)], [], [], []⟩ Try.func119 rfl Try.ntmps119 (rs := [.tmp 2]) rfl (sig := r16_Long_sig) (out := r16_Long_out) rfl Try.call119 (fun X => by kernel_rfl)

def r16_letters_sig : Shape := ⟨[(.list (.int .i64)), (.int .i64)], [(0, .v 0), (1, .v 1)], []⟩
def r16_letters_out : Shape := ⟨[(.int .i64)], [(0, .v 0)], []⟩
noncomputable def r16_letters_ce : CE := ⟨121, r16_letters_sig, r16_letters_out, fun X => r16_letters X.1 X.2⟩
theorem r16_letters_ok : CE.ok Try.prog r16_letters_ce := CE.of (Γ := []) (by kernel_rfl) TT_ok (GOK.nil) ⟨[(2, ⟨⟨[(.int .i64)], [(5, .v 0)], []⟩, [4, 6, 7, 8, 9, 10, 11, 12, 13, 14, 15, 16, 17, 18, 19, 20, 21, 22, 23, 24], [], [], 0, []⟩)], [], [], []⟩ Try.func121 rfl Try.ntmps121 (rs := [.tmp 4]) rfl (sig := r16_letters_sig) (out := r16_letters_out) rfl Try.call121 (fun X => by kernel_rfl)

def r16_Check_sig : Shape := ⟨[(.pair (.int .i64) (.pair (.int .i64) (.pair (.int .i64) (.pair (.list (.int .i64)) (.pair (.list (.list (.int .i64))) (.pair (.list (.list (.list (.int .i64)))) (.pair (.list (.list (.int .i64))) .unit)))))))], [(0, .v 0)], []⟩
def r16_Check_out : Shape := ⟨[(.int .i64)], [(0, .v 0)], []⟩
noncomputable def r16_Check_ce : CE := ⟨53, r16_Check_sig, r16_Check_out, fun X => r16_Check X⟩
theorem r16_Check_ok : CE.ok Try.prog r16_Check_ce := CE.of (Γ := [r16_Long_ce, r16_Words_ce, r16_letters_ce]) (by kernel_rfl) TT_ok (GOK.cons r16_Long_ok (GOK.cons r16_Words_ok (GOK.cons r16_letters_ok (GOK.nil)))) ⟨[(9, ⟨⟨[(.int .i64)], [(4, .v 0)], []⟩, [2, 50, 51, 52, 53, 54, 55, 56, 57, 58, 59, 60, 61, 62, 63, 64, 65, 66, 67, 68, 69, 70, 71, 72, 73, 74], [], [0], 1, []⟩), (16, ⟨⟨[(.int .i64)], [(5, .v 0)], []⟩, [2, 6, 84, 85, 86, 87, 88, 89, 90, 91, 92, 93, 94, 95, 96, 97, 98, 99, 100, 101, 102, 103, 104, 105, 106, 107, 108, 109, 110, 111, 112, 113, 114, 115], [], [0], 1, []⟩), (19, ⟨⟨[(.int .i64)], [(6, .v 0)], []⟩, [2, 89, 90, 91, 92, 93, 94, 95, 96, 97, 98, 99, 100, 101, 102, 103, 104, 105, 106, 107, 108, 109, 110, 111, 112, 113, 114, 115], [], [0], 1, []⟩), (28, ⟨⟨[(.int .i64)], [(9, .v 0)], []⟩, [2, 10, 121, 122, 123, 124, 125, 126, 127, 128, 129, 130, 131, 132, 133, 134, 135, 136], [], [0, 1], 2, []⟩)], [], [(11, [(0, 0), (0, 1), (0, 2), (0, 3), (0, 4), (0, 5), (0, 6), (0, 7), (0, 8), (0, 9), (0, 10), (0, 11), (0, 12), (0, 13), (0, 14), (0, 15), (0, 16), (0, 17), (0, 18), (0, 19)]), (30, [(0, 0), (0, 1), (0, 2), (0, 3), (0, 4), (0, 5), (1, 6), (0, 7)])], []⟩ Try.func53 rfl Try.ntmps53 (rs := [.tmp 2]) rfl (sig := r16_Check_sig) (out := r16_Check_out) rfl Try.call53 (fun X => by kernel_rfl)

def word_May_sig : Shape := ⟨[(.int .i64), (.list (.int .i64))], [(0, .v 0), (1, .v 1)], []⟩
def word_May_out : Shape := ⟨[(.int .i64)], [(0, .v 0)], []⟩
noncomputable def word_May_ce : CE := ⟨86, word_May_sig, word_May_out, fun X => word_May X.1 X.2⟩
theorem word_May_ok : CE.ok Try.prog word_May_ce := CE.of (Γ := []) (by kernel_rfl) TT_ok (GOK.nil) ⟨[(6, ⟨⟨[(.int .i64)], [(18, .v 0)], []⟩, [4, 6, 19, 20, 21, 22, 23, 24, 25, 26, 27, 28, 29], [], [], 0, []⟩)], [], [], []⟩ Try.func86 rfl Try.ntmps86 (rs := [.tmp 4]) rfl (sig := word_May_sig) (out := word_May_out) rfl Try.call86 (fun X => by kernel_rfl)

def trans_run_sig : Shape := ⟨[(.pair (.int .i64) (.pair (.int .i64) (.pair (.int .i64) (.pair (.list (.int .i64)) (.pair (.list (.list (.int .i64))) (.pair (.list (.list (.list (.int .i64)))) (.pair (.list (.list (.int .i64))) .unit))))))), (.int .i64), (.list (.int .i64))], [(0, .v 0), (1, .v 1), (2, .v 2)], []⟩
def trans_run_out : Shape := ⟨[(.int .i64), (.list (.int .i64))], [(0, .own 0), (1, .v 0)], [(0, .arr 3 1)]⟩
noncomputable def trans_run_ce : CE := ⟨161, trans_run_sig, trans_run_out, fun X => trans_run X.1 X.2.1 X.2.2⟩
theorem trans_run_ok : CE.ok Try.prog trans_run_ce := CE.of (Γ := []) (by kernel_rfl) TT_ok (GOK.nil) ⟨[(3, ⟨⟨[(.int .i64), (.int .i64), (.list (.int .i64))], [(1, .v 0), (8, .own 1), (13, .v 1)], [(1, .arr 3 2)]⟩, [10, 14, 15, 16, 17, 18, 19, 20, 21, 22, 23, 24, 25, 26, 27, 28, 29, 30, 31, 32, 33, 34, 35], [], [0], 2, []⟩)], [], [], []⟩ Try.func161 rfl Try.ntmps161 (rs := [.tmp 6, .tmp 7]) rfl (sig := trans_run_sig) (out := trans_run_out) rfl Try.call161 (fun X => by kernel_rfl)

def slices_Grow_sig : Shape := ⟨[(.int .i64)], [(0, .nil), (1, .v 0)], []⟩
def slices_Grow_out : Shape := ⟨[(.list (.int .i64))], [(0, .own 0)], [(0, .arr 3 0)]⟩
noncomputable def slices_Grow_ce : CE := ⟨182, slices_Grow_sig, slices_Grow_out, fun X => slices_Grow X⟩
theorem slices_Grow_ok : CE.ok Try.prog slices_Grow_ce := CE.of (Γ := []) (by kernel_rfl) TT_ok (GOK.nil) ⟨[], [], [(5, [(0, 0), (0, 1), (0, 2), (0, 3), (0, 4), (2, 5), (0, 6), (0, 7), (1, 8), (0, 9)])], []⟩ Try.func182 rfl Try.ntmps182 (rs := [.tmp 4]) rfl (sig := slices_Grow_sig) (out := slices_Grow_out) rfl Try.call182 (fun X => by kernel_rfl)

def slices_Concat_sig : Shape := ⟨[(.list (.list (.int .i64)))], [(0, .v 0)], []⟩
def slices_Concat_out : Shape := ⟨[(.list (.int .i64))], [(0, .own 0)], [(0, .arr 3 0)]⟩
noncomputable def slices_Concat_ce : CE := ⟨162, slices_Concat_sig, slices_Concat_out, fun X => slices_Concat X⟩
theorem slices_Concat_ok : CE.ok Try.prog slices_Concat_ce := CE.of (Γ := [slices_Grow_ce]) (by kernel_rfl) TT_ok (GOK.cons slices_Grow_ok (GOK.nil)) ⟨[(3, ⟨⟨[(.int .i64), (.int .i64)], [(3, .v 0), (11, .v 1)], []⟩, [5, 12, 13, 14, 15, 16, 17, 18, 19, 20, 21, 22], [], [], 0, []⟩), (11, ⟨⟨[(.int .i64), (.list (.int .i64))], [(6, .own 0), (27, .v 0)], [(0, .arr 3 1)]⟩, [8, 24, 28, 29, 30, 31, 32, 33, 34], [], [], 1, []⟩)], [], [], []⟩ Try.func162 rfl Try.ntmps162 (rs := [.tmp 2]) rfl (sig := slices_Concat_sig) (out := slices_Concat_out) rfl Try.call162 (fun X => by kernel_rfl)

def trans_whole_sig : Shape := ⟨[(.pair (.int .i64) (.pair (.int .i64) (.pair (.int .i64) (.pair (.list (.int .i64)) (.pair (.list (.list (.int .i64))) (.pair (.list (.list (.list (.int .i64)))) (.pair (.list (.list (.int .i64))) .unit))))))), (.list (.int .i64))], [(0, .v 0), (1, .v 1)], []⟩
def trans_whole_out : Shape := ⟨[(.list (.int .i64))], [(0, .own 0)], [(0, .arr 3 0)]⟩
noncomputable def trans_whole_ce : CE := ⟨122, trans_whole_sig, trans_whole_out, fun X => trans_whole X.1 X.2⟩
theorem trans_whole_ok : CE.ok Try.prog trans_whole_ce := CE.of (Γ := [trans_run_ce, slices_Concat_ce]) (by kernel_rfl) TT_ok (GOK.cons trans_run_ok (GOK.cons slices_Concat_ok (GOK.nil))) ⟨[], [], [(2, [(0, 0), (0, 1), (0, 2), (0, 3), (0, 4), (0, 5), (0, 6), (0, 7), (1, 8), (1, 9), (0, 10)])], []⟩ Try.func122 rfl Try.ntmps122 (rs := [.tmp 4]) rfl (sig := trans_whole_sig) (out := trans_whole_out) rfl Try.call122 (fun X => by kernel_rfl)

def trans_Run_sig : Shape := ⟨[(.pair (.int .i64) (.pair (.int .i64) (.pair (.int .i64) (.pair (.list (.int .i64)) (.pair (.list (.list (.int .i64))) (.pair (.list (.list (.list (.int .i64)))) (.pair (.list (.list (.int .i64))) .unit))))))), (.list (.int .i64))], [(0, .v 0), (1, .v 1)], []⟩
def trans_Run_out : Shape := ⟨[(.int .i64), (.list (.int .i64))], [(0, .own 0), (1, .v 0)], [(0, .arr 3 1)]⟩
noncomputable def trans_Run_ce : CE := ⟨54, trans_Run_sig, trans_Run_out, fun X => trans_Run X.1 X.2⟩
theorem trans_Run_ok : CE.ok Try.prog trans_Run_ce := CE.of (Γ := [trans_Check_ce, word_May_ce, trans_whole_ce]) (by kernel_rfl) TT_ok (GOK.cons trans_Check_ok (GOK.cons word_May_ok (GOK.cons trans_whole_ok (GOK.nil)))) ⟨[], [], [], []⟩ Try.func54 rfl Try.ntmps54 (rs := [.tmp 4, .tmp 5]) rfl (sig := trans_Run_sig) (out := trans_Run_out) rfl Try.call54 (fun X => by kernel_rfl)

def r1_May_sig : Shape := ⟨[(.int .i64), (.list (.int .i64))], [(0, .v 0), (1, .v 1)], []⟩
def r1_May_out : Shape := ⟨[(.int .i64)], [(0, .v 0)], []⟩
noncomputable def r1_May_ce : CE := ⟨44, r1_May_sig, r1_May_out, fun X => r1_May X.1 X.2⟩
theorem r1_May_ok : CE.ok Try.prog r1_May_ce := CE.of (Γ := []) (by kernel_rfl) TT_ok (GOK.nil) ⟨[(6, ⟨⟨[(.int .i64)], [(5, .v 0)], []⟩, [4, 15, 16, 17, 18, 19, 20, 21, 22, 23, 24, 25, 26, 27, 28, 29, 30, 31, 32, 33], [], [], 0, []⟩)], [], [], []⟩ Try.func44 rfl Try.ntmps44 (rs := [.tmp 4]) rfl (sig := r1_May_sig) (out := r1_May_out) rfl Try.call44 (fun X => by kernel_rfl)

def r16_Run_sig : Shape := ⟨[(.pair (.int .i64) (.pair (.int .i64) (.pair (.int .i64) (.pair (.list (.int .i64)) (.pair (.list (.list (.int .i64))) (.pair (.list (.list (.list (.int .i64)))) (.pair (.list (.list (.int .i64))) .unit))))))), (.list (.int .i64))], [(0, .v 0), (1, .v 1)], []⟩
def r16_Run_out : Shape := ⟨[(.list (.int .i64))], [(0, .own 0)], [(0, .arr 3 0)]⟩
noncomputable def r16_Run_ce : CE := ⟨55, r16_Run_sig, r16_Run_out, fun X => r16_Run X.1 X.2⟩
theorem r16_Run_ok : CE.ok Try.prog r16_Run_ce := CE.of (Γ := []) (by kernel_rfl) TT_ok (GOK.nil) ⟨[(4, ⟨⟨[(.int .i64), (.int .i64), (.list (.int .i64))], [(5, .own 2), (6, .v 0), (7, .v 1)], [(2, .arr 3 2)]⟩, [8, 11, 14, 15, 16, 17, 18, 19, 20, 21, 22, 23, 24, 25, 26, 27, 28, 29, 30, 31, 32, 33, 34, 35, 36, 37, 38, 39, 40, 41, 42, 43], [], [0], 3, []⟩)], [], [(6, [(0, 0), (0, 1), (0, 2), (0, 3), (0, 4), (0, 5), (0, 6), (0, 7), (0, 8), (0, 9), (0, 10), (0, 11), (2, 12), (0, 13)]), (7, [(0, 0), (0, 1), (0, 2), (0, 3), (0, 4), (0, 5), (0, 6), (0, 7), (0, 8), (0, 9), (0, 10), (0, 11)])], []⟩ Try.func55 rfl Try.ntmps55 (rs := [.tmp 4]) rfl (sig := r16_Run_sig) (out := r16_Run_out) rfl Try.call55 (fun X => by kernel_rfl)

def r1_Words_sig : Shape := ⟨[(.list (.int .i64)), (.list (.int .i64))], [(0, .v 0), (1, .v 1)], []⟩
def r1_Words_out : Shape := ⟨[.bool], [(0, .v 0)], []⟩
noncomputable def r1_Words_ce : CE := ⟨37, r1_Words_sig, r1_Words_out, fun X => r1_Words X.1 X.2⟩
theorem r1_Words_ok : CE.ok Try.prog r1_Words_ce := CE.of (Γ := []) (by kernel_rfl) TT_ok (GOK.nil) ⟨[(4, ⟨⟨[(.int .i64)], [(5, .v 0)], []⟩, [4, 11, 12, 13, 14, 15, 16, 17, 18, 19, 20, 21, 22, 23, 24, 25], [], [], 0, []⟩)], [], [(6, [(0, 0), (0, 1), (0, 2), (0, 3), (0, 4), (0, 5), (0, 6), (0, 7), (0, 8)])], []⟩ Try.func37 rfl Try.ntmps37 (rs := [.tmp 4]) rfl (sig := r1_Words_sig) (out := r1_Words_out) rfl Try.call37 (fun X => by kernel_rfl)

def law_TransRuns_sig : Shape := ⟨[(.pair (.int .i64) (.pair (.int .i64) (.pair (.int .i64) (.pair (.list (.int .i64)) (.pair (.list (.list (.int .i64))) (.pair (.list (.list (.list (.int .i64)))) (.pair (.list (.list (.int .i64))) .unit))))))), (.list (.int .i64))], [(0, .v 0), (1, .v 1)], []⟩
def law_TransRuns_out : Shape := ⟨[.bool], [(0, .v 0)], []⟩
noncomputable def law_TransRuns_ce : CE := ⟨11, law_TransRuns_sig, law_TransRuns_out, fun X => law_TransRuns X.1 X.2⟩
theorem law_TransRuns_ok : CE.ok Try.prog law_TransRuns_ce := CE.of (Γ := [trans_Check_ce, r16_Check_ce, trans_Run_ce, r1_May_ce, r16_Run_ce, r1_Words_ce]) (by kernel_rfl) TT_ok (GOK.cons trans_Check_ok (GOK.cons r16_Check_ok (GOK.cons trans_Run_ok (GOK.cons r1_May_ok (GOK.cons r16_Run_ok (GOK.cons r1_Words_ok (GOK.nil))))))) ⟨[], [(8, ⟨⟨[(.int .i64)], [(9, .v 0)], []⟩, [26, 27, 28, 29, 30, 31], [], [0, 1], 2, []⟩)], [], []⟩ Try.func11 rfl Try.ntmps11 (rs := [.tmp 4]) rfl (sig := law_TransRuns_sig) (out := law_TransRuns_out) rfl Try.call11 (fun X => by kernel_rfl)

end Go.Proofs.Ytiamohlhhcafdaa.transRunsW
