/- That the functions of 'SeqsKernel' compute so. -/
import Derived.Test.YtokjfldjjehmkaaSeqsKernelD
import Derived.Test.YtokjfldjjehmkaaProg
import Derived.KernelRfl
set_option maxHeartbeats 1000000
set_option maxRecDepth 20000
set_option linter.unusedSimpArgs false
set_option linter.unusedVariables false
namespace Go.Proofs.Ytokjfldjjehmkaa.seqsKernelW
open Go Go.Ab
def te3 : TE := ⟨3, .int .i64, false, 1, 8, .int .i64 0, some (.int .i64)⟩
theorem te3_ok : TEok Try.prog te3 := ⟨TI.of Try.underlying3 rfl (by kernel_rfl), Try.underlying3, fun t h => by cases h; exact ⟨rfl, rfl, by decide, rfl⟩⟩
def te4 : TE := ⟨4, .bool, false, 1, 1, .bool false, some .bool⟩
theorem te4_ok : TEok Try.prog te4 := ⟨TI.of Try.underlying4 rfl (by kernel_rfl), Try.underlying4, fun t h => by cases h; exact ⟨rfl, rfl, by decide, rfl⟩⟩
def te5 : TE := ⟨5, .int .u8, false, 1, 1, .int .u8 0, some (.int .u8)⟩
theorem te5_ok : TEok Try.prog te5 := ⟨TI.of Try.underlying5 rfl (by kernel_rfl), Try.underlying5, fun t h => by cases h; exact ⟨rfl, rfl, by decide, rfl⟩⟩
def te9 : TE := ⟨9, .str, false, 1, 16, .string ⟨⟨[]⟩⟩, some .str⟩
theorem te9_ok : TEok Try.prog te9 := ⟨TI.of Try.underlying9 rfl (by kernel_rfl), Try.underlying9, fun t h => by cases h; exact ⟨rfl, rfl, by decide, rfl⟩⟩
def te22 : TE := ⟨22, .slice 23, false, 1, 24, .slice none 0 0, some (.list (.list (.int .i64)))⟩
theorem te22_ok : TEok Try.prog te22 := ⟨TI.of Try.underlying22 rfl (by kernel_rfl), Try.underlying22, fun t h => by cases h; exact ⟨rfl, rfl, by decide, rfl⟩⟩
def te23 : TE := ⟨23, .slice 3, false, 1, 24, .slice none 0 0, some (.list (.int .i64))⟩
theorem te23_ok : TEok Try.prog te23 := ⟨TI.of Try.underlying23 rfl (by kernel_rfl), Try.underlying23, fun t h => by cases h; exact ⟨rfl, rfl, by decide, rfl⟩⟩
def te25 : TE := ⟨25, .struct [(0, 3), (1, 22), (2, 23)], true, 3, 56, .agg ⟨[.int .i64 0, .slice none 0 0, .slice none 0 0]⟩, some (.pair (.int .i64) (.pair (.list (.list (.int .i64))) (.pair (.list (.int .i64)) .unit)))⟩
theorem te25_ok : TEok Try.prog te25 := ⟨TI.of Try.underlying25 rfl (by kernel_rfl), ⟨_, Try.underlying25, rfl⟩, fun t h => by cases h; exact ⟨rfl, rfl, by decide, rfl⟩⟩
def te26 : TE := ⟨26, .int .i64, false, 1, 8, .int .i64 0, some (.int .i64)⟩
theorem te26_ok : TEok Try.prog te26 := ⟨TI.of Try.underlying26 rfl (by kernel_rfl), Try.underlying26, fun t h => by cases h; exact ⟨rfl, rfl, by decide, rfl⟩⟩
def te34 : TE := ⟨34, .map 9 3, false, 1, 8, .map none, none⟩
theorem te34_ok : TEok Try.prog te34 := ⟨TI.of Try.underlying34 rfl (by kernel_rfl), Try.underlying34, fun t h => by cases h⟩
def te36 : TE := ⟨36, .slice 4, false, 1, 24, .slice none 0 0, some (.list .bool)⟩
theorem te36_ok : TEok Try.prog te36 := ⟨TI.of Try.underlying36 rfl (by kernel_rfl), Try.underlying36, fun t h => by cases h; exact ⟨rfl, rfl, by decide, rfl⟩⟩
def te44 : TE := ⟨44, .slice 5, false, 1, 24, .slice none 0 0, some (.list (.int .u8))⟩
theorem te44_ok : TEok Try.prog te44 := ⟨TI.of Try.underlying44 rfl (by kernel_rfl), Try.underlying44, fun t h => by cases h; exact ⟨rfl, rfl, by decide, rfl⟩⟩
def TT : List TE := [te3, te4, te5, te9, te22, te23, te25, te26, te34, te36, te44]
theorem TT_ok : TOK Try.prog TT := TOK.cons te3_ok (TOK.cons te4_ok (TOK.cons te5_ok (TOK.cons te9_ok (TOK.cons te22_ok (TOK.cons te23_ok (TOK.cons te25_ok (TOK.cons te26_ok (TOK.cons te34_ok (TOK.cons te36_ok (TOK.cons te44_ok (TOK.nil)))))))))))

def seqs_Check_1_sig : Shape := ⟨[(.list (.int .i64)), (.pair (.int .i64) (.pair (.list (.list (.int .i64))) (.pair (.list (.int .i64)) .unit)))], [(0, .v 0), (1, .addr 1)], []⟩
def seqs_Check_1_out : Shape := ⟨[.bool], [(0, .v 0)], []⟩
noncomputable def seqs_Check_1_ce : CE := ⟨15, seqs_Check_1_sig, seqs_Check_1_out, fun X => seqs_Check_1 X.1 X.2⟩
theorem seqs_Check_1_ok : CE.ok Try.prog seqs_Check_1_ce := CE.of (Γ := []) (by kernel_rfl) TT_ok (GOK.nil) ⟨[], [], [], []⟩ Try.func15 rfl Try.ntmps15 (rs := [.tmp 3]) rfl (sig := seqs_Check_1_sig) (out := seqs_Check_1_out) rfl Try.call15 (fun X => by kernel_rfl)

def slices_IndexFunc_sig : Shape := ⟨[(.list (.list (.int .i64))), (.pair (.int .i64) (.pair (.list (.list (.int .i64))) (.pair (.list (.int .i64)) .unit)))], [(0, .v 0), (1, .fn 15 [.addr 1])], []⟩
def slices_IndexFunc_out : Shape := ⟨[(.int .i64)], [(0, .v 0)], []⟩
noncomputable def slices_IndexFunc_ce : CE := ⟨19, slices_IndexFunc_sig, slices_IndexFunc_out, fun X => slices_IndexFunc X.1 X.2⟩
theorem slices_IndexFunc_ok : CE.ok Try.prog slices_IndexFunc_ce := CE.of (Γ := [seqs_Check_1_ce]) (by kernel_rfl) TT_ok (GOK.cons seqs_Check_1_ok (GOK.nil)) ⟨[(2, ⟨⟨[(.int .i64)], [(8, .v 0)], []⟩, [4, 5, 9, 10, 11, 12, 13, 14, 15, 16, 17, 18], [], [], 0, []⟩)], [], [], []⟩ Try.func19 rfl Try.ntmps19 (rs := [.tmp 4]) rfl (sig := slices_IndexFunc_sig) (out := slices_IndexFunc_out) rfl Try.call19 (fun X => by kernel_rfl)

def slices_ContainsFunc_sig : Shape := ⟨[(.list (.list (.int .i64))), (.pair (.int .i64) (.pair (.list (.list (.int .i64))) (.pair (.list (.int .i64)) .unit)))], [(0, .v 0), (1, .fn 15 [.addr 1])], []⟩
def slices_ContainsFunc_out : Shape := ⟨[.bool], [(0, .v 0)], []⟩
noncomputable def slices_ContainsFunc_ce : CE := ⟨14, slices_ContainsFunc_sig, slices_ContainsFunc_out, fun X => slices_ContainsFunc X.1 X.2⟩
theorem slices_ContainsFunc_ok : CE.ok Try.prog slices_ContainsFunc_ce := CE.of (Γ := [slices_IndexFunc_ce]) (by kernel_rfl) TT_ok (GOK.cons slices_IndexFunc_ok (GOK.nil)) ⟨[], [], [], []⟩ Try.func14 rfl Try.ntmps14 (rs := [.tmp 4]) rfl (sig := slices_ContainsFunc_sig) (out := slices_ContainsFunc_out) rfl Try.call14 (fun X => by kernel_rfl)

def seqs_Check_2_sig : Shape := ⟨[(.int .i64), (.int .i64)], [(0, .v 0), (1, .addr 1)], []⟩
def seqs_Check_2_out : Shape := ⟨[.bool], [(0, .v 0)], []⟩
noncomputable def seqs_Check_2_ce : CE := ⟨17, seqs_Check_2_sig, seqs_Check_2_out, fun X => seqs_Check_2 X.1 X.2⟩
theorem seqs_Check_2_ok : CE.ok Try.prog seqs_Check_2_ce := CE.of (Γ := []) (by kernel_rfl) TT_ok (GOK.nil) ⟨[], [], [], []⟩ Try.func17 rfl Try.ntmps17 (rs := [.tmp 3]) rfl (sig := seqs_Check_2_sig) (out := seqs_Check_2_out) rfl Try.call17 (fun X => by kernel_rfl)

def slices_IndexFunc_1_sig : Shape := ⟨[(.list (.int .i64)), (.int .i64)], [(0, .v 0), (1, .fn 17 [.addr 1])], []⟩
def slices_IndexFunc_1_out : Shape := ⟨[(.int .i64)], [(0, .v 0)], []⟩
noncomputable def slices_IndexFunc_1_ce : CE := ⟨20, slices_IndexFunc_1_sig, slices_IndexFunc_1_out, fun X => slices_IndexFunc_1 X.1 X.2⟩
theorem slices_IndexFunc_1_ok : CE.ok Try.prog slices_IndexFunc_1_ce := CE.of (Γ := [seqs_Check_2_ce]) (by kernel_rfl) TT_ok (GOK.cons seqs_Check_2_ok (GOK.nil)) ⟨[(2, ⟨⟨[(.int .i64)], [(8, .v 0)], []⟩, [4, 5, 9, 10, 11, 12, 13, 14, 15, 16, 17, 18], [], [], 0, []⟩)], [], [], []⟩ Try.func20 rfl Try.ntmps20 (rs := [.tmp 4]) rfl (sig := slices_IndexFunc_1_sig) (out := slices_IndexFunc_1_out) rfl Try.call20 (fun X => by kernel_rfl)

def slices_ContainsFunc_1_sig : Shape := ⟨[(.list (.int .i64)), (.int .i64)], [(0, .v 0), (1, .fn 17 [.addr 1])], []⟩
def slices_ContainsFunc_1_out : Shape := ⟨[.bool], [(0, .v 0)], []⟩
noncomputable def slices_ContainsFunc_1_ce : CE := ⟨16, slices_ContainsFunc_1_sig, slices_ContainsFunc_1_out, fun X => slices_ContainsFunc_1 X.1 X.2⟩
theorem slices_ContainsFunc_1_ok : CE.ok Try.prog slices_ContainsFunc_1_ce := CE.of (Γ := [slices_IndexFunc_1_ce]) (by kernel_rfl) TT_ok (GOK.cons slices_IndexFunc_1_ok (GOK.nil)) ⟨[], [], [], []⟩ Try.func16 rfl Try.ntmps16 (rs := [.tmp 4]) rfl (sig := slices_ContainsFunc_1_sig) (out := slices_ContainsFunc_1_out) rfl Try.call16 (fun X => by kernel_rfl)

def seqs_Check_sig : Shape := ⟨[(.pair (.int .i64) (.pair (.list (.list (.int .i64))) (.pair (.list (.int .i64)) .unit)))], [(0, .v 0)], []⟩
def seqs_Check_out : Shape := ⟨[(.int .i64)], [(0, .v 0)], []⟩
noncomputable def seqs_Check_ce : CE := ⟨7, seqs_Check_sig, seqs_Check_out, fun X => seqs_Check X⟩
theorem seqs_Check_ok : CE.ok Try.prog seqs_Check_ce := CE.of (Γ := [slices_ContainsFunc_ce, slices_ContainsFunc_1_ce]) (by kernel_rfl) TT_ok (GOK.cons slices_ContainsFunc_ok (GOK.cons slices_ContainsFunc_1_ok (GOK.nil))) ⟨[(9, ⟨⟨[(.int .i64)], [(37, .v 0)], []⟩, [2, 4, 5, 38, 39, 40, 41, 42, 43, 44, 45, 46, 47, 48, 49, 50, 51, 52, 53, 54, 55, 56, 57, 58, 59, 60, 61], [], [0, 1], 2, []⟩)], [], [], []⟩ Try.func7 rfl Try.ntmps7 (rs := [.tmp 2]) rfl (sig := seqs_Check_sig) (out := seqs_Check_out) rfl Try.call7 (fun X => by kernel_rfl)

def slices_Index_sig : Shape := ⟨[(.list (.int .i64)), (.int .i64)], [(0, .v 0), (1, .v 1)], []⟩
def slices_Index_out : Shape := ⟨[(.int .i64)], [(0, .v 0)], []⟩
noncomputable def slices_Index_ce : CE := ⟨21, slices_Index_sig, slices_Index_out, fun X => slices_Index X.1 X.2⟩
theorem slices_Index_ok : CE.ok Try.prog slices_Index_ce := CE.of (Γ := []) (by kernel_rfl) TT_ok (GOK.nil) ⟨[(2, ⟨⟨[(.int .i64)], [(8, .v 0)], []⟩, [4, 5, 9, 10, 11, 12, 13, 14, 15, 16, 17, 18], [], [], 0, []⟩)], [], [], []⟩ Try.func21 rfl Try.ntmps21 (rs := [.tmp 4]) rfl (sig := slices_Index_sig) (out := slices_Index_out) rfl Try.call21 (fun X => by kernel_rfl)

def slices_Contains_sig : Shape := ⟨[(.list (.int .i64)), (.int .i64)], [(0, .v 0), (1, .v 1)], []⟩
def slices_Contains_out : Shape := ⟨[.bool], [(0, .v 0)], []⟩
noncomputable def slices_Contains_ce : CE := ⟨18, slices_Contains_sig, slices_Contains_out, fun X => slices_Contains X.1 X.2⟩
theorem slices_Contains_ok : CE.ok Try.prog slices_Contains_ce := CE.of (Γ := [slices_Index_ce]) (by kernel_rfl) TT_ok (GOK.cons slices_Index_ok (GOK.nil)) ⟨[], [], [], []⟩ Try.func18 rfl Try.ntmps18 (rs := [.tmp 4]) rfl (sig := slices_Contains_sig) (out := slices_Contains_out) rfl Try.call18 (fun X => by kernel_rfl)

def seqs_met_sig : Shape := ⟨[(.pair (.int .i64) (.pair (.list (.list (.int .i64))) (.pair (.list (.int .i64)) .unit)))], [(0, .v 0)], []⟩
def seqs_met_out : Shape := ⟨[(.list (.int .i64))], [(0, .own 0)], [(0, .arr 3 0)]⟩
noncomputable def seqs_met_ce : CE := ⟨8, seqs_met_sig, seqs_met_out, fun X => seqs_met X⟩
theorem seqs_met_ok : CE.ok Try.prog seqs_met_ce := CE.of (Γ := [slices_Contains_ce]) (by kernel_rfl) TT_ok (GOK.cons slices_Contains_ok (GOK.nil)) ⟨[(3, ⟨⟨[(.int .i64), (.list (.int .i64))], [(3, .own 1), (4, .v 0)], [(1, .arr 3 1)]⟩, [6, 7, 8, 9, 10, 11, 12, 13, 14, 15, 16, 17, 18, 19, 20, 21, 22, 23, 24, 25, 26, 27, 28, 29, 30, 31, 32, 33, 34, 35], [], [0], 2, []⟩), (6, ⟨⟨[(.int .i64), (.list (.int .i64))], [(3, .own 1), (23, .v 0)], [(1, .arr 3 1)]⟩, [6, 9, 16, 18, 24, 25, 26, 27, 28, 29, 30, 31, 32, 33, 34, 35], [], [0], 2, []⟩)], [], [(5, [(0, 0), (0, 1), (0, 2), (0, 3), (0, 4), (0, 5), (0, 6), (0, 7), (0, 8), (0, 9)])], []⟩ Try.func8 rfl Try.ntmps8 (rs := [.tmp 2]) rfl (sig := seqs_met_sig) (out := seqs_met_out) rfl Try.call8 (fun X => by kernel_rfl)

def slices_Clone_sig : Shape := ⟨[(.list (.int .i64))], [(0, .v 0)], []⟩
def slices_Clone_out : Shape := ⟨[(.list (.int .i64))], [(0, .own 0)], [(0, .arr 3 0)]⟩
noncomputable def slices_Clone_ce : CE := ⟨9, slices_Clone_sig, slices_Clone_out, fun X => slices_Clone X⟩
theorem slices_Clone_ok : CE.ok Try.prog slices_Clone_ce := CE.of (Γ := []) (by kernel_rfl) TT_ok (GOK.nil) ⟨[], [], [], []⟩ Try.func9 rfl Try.ntmps9 (rs := [.tmp 2]) rfl (sig := slices_Clone_sig) (out := slices_Clone_out) rfl Try.call9 (fun X => by kernel_rfl)

def det_Key_sig : Shape := ⟨[(.list (.int .i64))], [(0, .v 0)], []⟩
def det_Key_out : Shape := ⟨[.str], [(0, .v 0)], []⟩
noncomputable def det_Key_ce : CE := ⟨11, det_Key_sig, det_Key_out, fun X => det_Key X⟩
theorem det_Key_ok : CE.ok Try.prog det_Key_ce := CE.of (Γ := []) (by kernel_rfl) TT_ok (GOK.nil) ⟨[(3, ⟨⟨[(.int .i64), (.list (.int .u8))], [(3, .own 0), (8, .v 0)], [(0, .arr 5 1)]⟩, [5, 9, 10, 11, 12, 13, 14, 15, 16, 17, 18, 19, 20], [], [], 1, []⟩)], [], [], []⟩ Try.func11 rfl Try.ntmps11 (rs := [.tmp 2]) rfl (sig := det_Key_sig) (out := det_Key_out) rfl Try.call11 (fun X => by kernel_rfl)

def seqs_Kernel_1_sig : Shape := ⟨[(.list (.int .i64)), (.list (.int .i64))], [(0, .v 0), (1, .addr 1)], []⟩
def seqs_Kernel_1_out : Shape := ⟨[.str], [(0, .v 0)], []⟩
noncomputable def seqs_Kernel_1_ce : CE := ⟨10, seqs_Kernel_1_sig, seqs_Kernel_1_out, fun X => seqs_Kernel_1 X.1 X.2⟩
theorem seqs_Kernel_1_ok : CE.ok Try.prog seqs_Kernel_1_ce := CE.of (Γ := [det_Key_ce]) (by kernel_rfl) TT_ok (GOK.cons det_Key_ok (GOK.nil)) ⟨[(3, ⟨⟨[(.int .i64), (.list (.int .i64))], [(4, .own 0), (9, .v 0)], [(0, .arr 3 1)]⟩, [6, 10, 11, 12, 13, 14, 15, 16, 17, 18, 19, 20], [], [], 1, []⟩)], [], [], []⟩ Try.func10 rfl Try.ntmps10 (rs := [.tmp 3]) rfl (sig := seqs_Kernel_1_sig) (out := seqs_Kernel_1_out) rfl Try.call10 (fun X => by kernel_rfl)

def seqs_Kernel_sig : Shape := ⟨[(.pair (.int .i64) (.pair (.list (.list (.int .i64))) (.pair (.list (.int .i64)) .unit)))], [(0, .v 0)], []⟩
def seqs_Kernel_out : Shape := ⟨[(.int .i64), (.int .i64)], [(0, .v 0), (1, .v 1)], []⟩
noncomputable def seqs_Kernel_ce : CE := ⟨4, seqs_Kernel_sig, seqs_Kernel_out, fun X => seqs_Kernel X⟩
theorem seqs_Kernel_ok : CE.ok Try.prog seqs_Kernel_ce := CE.of (Γ := [seqs_Check_ce, seqs_met_ce, slices_Clone_ce, seqs_Kernel_1_ce]) (by kernel_rfl) TT_ok (GOK.cons seqs_Check_ok (GOK.cons seqs_met_ok (GOK.cons slices_Clone_ok (GOK.cons seqs_Kernel_1_ok (GOK.nil))))) ⟨[(10, ⟨⟨[(.list .str), (.list (.int .i64)), (.list (.list (.int .i64)))], [(7, .own 4), (9, .own 5)], [(4, .box 34 [.v 0, .v 1]), (5, .arr 23 2)]⟩, [10, 11, 12, 13, 14, 25, 27, 32, 33, 34, 35, 36, 37, 38, 39, 40, 41, 42, 43, 44, 45, 46, 47, 48, 49, 50, 51, 52, 53, 54, 55, 56, 57, 58, 59, 60, 61, 62, 63, 64, 65, 66, 67, 68, 69, 70, 71, 72, 73, 74, 75, 76, 77, 78, 79, 80], [], [0, 1, 2], 6, []⟩), (13, ⟨⟨[(.int .i64), (.list .str), (.list (.int .i64)), (.list (.list (.int .i64)))], [(7, .own 4), (9, .own 5), (40, .v 0)], [(4, .box 34 [.v 1, .v 2]), (5, .arr 23 3)]⟩, [10, 11, 12, 13, 14, 33, 41, 42, 43, 44, 45, 46, 47, 48, 49, 50, 51, 52, 53, 54, 55, 56, 57, 58, 59, 60, 61, 62, 63, 64, 65, 66, 67, 68, 69, 70, 71, 72, 73, 74, 75, 76, 77, 78, 79, 80], [], [0, 1, 2], 6, []⟩), (17, ⟨⟨[(.int .i64), (.list (.int .i64))], [(11, .own 6), (49, .v 0)], [(6, .arr 3 1)]⟩, [12, 13, 45, 50, 51, 52, 53, 54, 55, 56, 57, 58, 59, 60, 61, 62, 63, 64, 65, 66], [], [0, 1, 2, 4, 5], 7, []⟩)], [], [(19, [(0, 0), (0, 1), (0, 2), (0, 3), (0, 4), (0, 5), (0, 6), (0, 7), (0, 8), (0, 9), (0, 10), (0, 11), (2, 12)]), (11, [(0, 0), (1, 1), (0, 2)])], []⟩ Try.func4 rfl Try.ntmps4 (rs := [.tmp 2, .tmp 3]) rfl (sig := seqs_Kernel_sig) (out := seqs_Kernel_out) rfl Try.call4 (fun X => by kernel_rfl)

def r23_Check_sig : Shape := ⟨[(.pair (.int .i64) (.pair (.list (.list (.int .i64))) (.pair (.list (.int .i64)) .unit)))], [(0, .v 0)], []⟩
def r23_Check_out : Shape := ⟨[(.int .i64)], [(0, .v 0)], []⟩
noncomputable def r23_Check_ce : CE := ⟨5, r23_Check_sig, r23_Check_out, fun X => r23_Check X⟩
theorem r23_Check_ok : CE.ok Try.prog r23_Check_ce := CE.of (Γ := []) (by kernel_rfl) TT_ok (GOK.nil) ⟨[(9, ⟨⟨[(.int .i64)], [(4, .v 0)], []⟩, [2, 29, 30, 31, 32, 33, 34, 35, 36, 37, 38, 39, 40, 41, 42], [], [0], 1, []⟩), (14, ⟨⟨[(.int .i64)], [(5, .v 0)], []⟩, [2, 6, 43, 44, 45, 46, 47, 48, 49, 50, 51, 52, 53, 54, 55, 56, 57, 58, 59, 60, 61, 62, 63, 64, 65, 66, 67, 68, 69, 70, 71, 72, 73, 74, 75, 76, 77, 78, 79, 80, 81, 82, 83, 84, 85, 86, 87, 88], [], [0], 1, []⟩), (17, ⟨⟨[(.int .i64)], [(6, .v 0)], []⟩, [2, 48, 49, 50, 51, 52, 53, 54, 55, 56, 57, 58, 59, 60, 61, 62, 63, 64, 65, 66, 67, 68, 69, 70, 71, 72, 73, 74], [], [0], 1, []⟩)], [], [(11, [(0, 0), (0, 1), (0, 2), (0, 3), (0, 4), (0, 5), (0, 6), (0, 7), (0, 8)])], []⟩ Try.func5 rfl Try.ntmps5 (rs := [.tmp 2]) rfl (sig := r23_Check_sig) (out := r23_Check_out) rfl Try.call5 (fun X => by kernel_rfl)

def r23_kept_sig : Shape := ⟨[(.list (.int .i64)), (.list .bool)], [(0, .v 0), (1, .v 1)], []⟩
def r23_kept_out : Shape := ⟨[(.list (.int .i64))], [(0, .own 0)], [(0, .arr 3 0)]⟩
noncomputable def r23_kept_ce : CE := ⟨12, r23_kept_sig, r23_kept_out, fun X => r23_kept X.1 X.2⟩
theorem r23_kept_ok : CE.ok Try.prog r23_kept_ce := CE.of (Γ := []) (by kernel_rfl) TT_ok (GOK.nil) ⟨[(3, ⟨⟨[(.int .i64), (.list (.int .i64))], [(5, .own 0), (6, .v 0)], [(0, .arr 3 1)]⟩, [7, 8, 9, 10, 11, 12, 13, 14, 15, 16, 17, 18, 19, 20, 21, 22, 23, 24, 25, 26], [], [], 1, []⟩)], [], [], []⟩ Try.func12 rfl Try.ntmps12 (rs := [.tmp 4]) rfl (sig := r23_kept_sig) (out := r23_kept_out) rfl Try.call12 (fun X => by kernel_rfl)

def r1_Words_sig : Shape := ⟨[(.list (.int .i64)), (.list (.int .i64))], [(0, .v 0), (1, .v 1)], []⟩
def r1_Words_out : Shape := ⟨[.bool], [(0, .v 0)], []⟩
noncomputable def r1_Words_ce : CE := ⟨13, r1_Words_sig, r1_Words_out, fun X => r1_Words X.1 X.2⟩
theorem r1_Words_ok : CE.ok Try.prog r1_Words_ce := CE.of (Γ := []) (by kernel_rfl) TT_ok (GOK.nil) ⟨[(4, ⟨⟨[(.int .i64)], [(5, .v 0)], []⟩, [4, 11, 12, 13, 14, 15, 16, 17, 18, 19, 20, 21, 22, 23, 24, 25], [], [], 0, []⟩)], [], [(6, [(0, 0), (0, 1), (0, 2), (0, 3), (0, 4), (0, 5), (0, 6), (0, 7), (0, 8)])], []⟩ Try.func13 rfl Try.ntmps13 (rs := [.tmp 4]) rfl (sig := r1_Words_sig) (out := r1_Words_out) rfl Try.call13 (fun X => by kernel_rfl)

def r23_Kernel_sig : Shape := ⟨[(.pair (.int .i64) (.pair (.list (.list (.int .i64))) (.pair (.list (.int .i64)) .unit)))], [(0, .v 0)], []⟩
def r23_Kernel_out : Shape := ⟨[(.int .i64)], [(0, .v 0)], []⟩
noncomputable def r23_Kernel_ce : CE := ⟨6, r23_Kernel_sig, r23_Kernel_out, fun X => r23_Kernel X⟩
theorem r23_Kernel_ok : CE.ok Try.prog r23_Kernel_ce := CE.of (Γ := [r23_kept_ce, r1_Words_ce]) (by kernel_rfl) TT_ok (GOK.cons r23_kept_ok (GOK.cons r1_Words_ok (GOK.nil))) ⟨[(4, ⟨⟨[.bool, (.list .bool)], [(3, .own 1), (4, .v 0)], [(1, .arr 4 1)]⟩, [5, 6, 7, 19, 20, 21, 22, 23, 24, 25, 26, 27, 28, 29, 30, 31, 32, 33, 34, 35, 36, 37, 38, 39, 40, 41, 42, 43, 44, 45, 46, 47, 48, 49, 50, 51, 52, 53, 54, 55, 56, 57, 58, 59, 60], [], [0], 2, []⟩), (7, ⟨⟨[.bool, (.int .i64), (.list .bool)], [(3, .own 1), (4, .v 0), (5, .v 1)], [(1, .arr 4 2)]⟩, [6, 7, 19, 20, 21, 23, 24, 25, 26, 27, 28, 29, 30, 31, 32, 33, 34, 35, 36, 37, 38, 39, 40, 41, 42, 43, 44, 45, 46, 47, 48, 49, 50, 51, 52, 53, 54, 55, 56, 57, 58, 59, 60], [], [0], 2, []⟩), (10, ⟨⟨[.bool, (.int .i64), (.list .bool)], [(3, .own 1), (4, .v 0), (6, .v 1)], [(1, .arr 4 2)]⟩, [7, 30, 31, 32, 33, 34, 35, 36, 37, 38, 39, 40, 41, 42, 43, 44, 45, 46, 47, 48, 49, 50, 51, 52, 53, 54, 55, 56, 57, 58, 59, 60], [], [0], 2, []⟩), (18, ⟨⟨[(.int .i64), (.list (.list (.int .i64)))], [(9, .own 3), (10, .v 0)], [(3, .arr 23 1)]⟩, [11, 12, 13, 14, 15, 66, 67, 68, 69, 70, 71, 72, 73, 74, 75, 76, 77, 78, 79, 80, 81, 82, 83, 84, 85, 86, 87, 88, 89, 90, 91, 92, 93, 94, 95, 96, 97, 98, 99, 100, 101, 102, 103, 104, 105, 106, 107, 108, 109, 110, 111, 112, 113, 114, 115, 116, 117, 118, 119, 120, 121, 122, 123, 124, 125, 126, 127], [], [0, 1], 4, []⟩), (21, ⟨⟨[(.int .i64), (.list (.list (.int .i64)))], [(9, .own 3), (11, .v 0)], [(3, .arr 23 1)]⟩, [12, 13, 14, 15, 68, 73, 74, 75, 76, 77, 78, 79, 80, 81, 82, 83, 84, 85, 86, 87, 88, 89, 90, 91, 92, 93, 94, 95, 96, 97, 98, 99, 100, 101, 102, 103, 104, 105, 106, 107, 108, 109, 110, 111, 112, 113, 114, 115, 116, 117, 118, 119, 120, 121, 122, 123, 124, 125, 126, 127], [], [0, 1], 4, []⟩), (25, ⟨⟨[(.int .i64), (.list (.int .i64))], [(12, .own 4), (13, .v 0)], [(4, .arr 3 1)]⟩, [79, 80, 81, 82, 83, 84, 85, 86, 87, 88, 89, 90, 91, 92, 93, 94, 95, 96, 97, 98, 99, 100, 101, 102], [], [0, 1, 3], 5, []⟩), (31, ⟨⟨[.bool, (.int .i64)], [(14, .v 0), (15, .v 1)], []⟩, [106, 107, 108, 109, 110, 111, 112, 113, 114, 115, 116, 117, 118, 119, 120, 121], [], [0, 1, 3, 4, 5], 6, []⟩)], [(10, ⟨⟨[.bool, (.list .bool)], [(3, .own 1), (39, .v 0)], [(1, .arr 4 1)]⟩, [30, 31, 32, 33, 34, 35, 36, 37, 38], [], [0], 2, []⟩), (13, ⟨⟨[.bool], [(4, .v 0)], []⟩, [50, 51, 52, 53, 54, 55, 56, 57], [], [0, 1], 2, []⟩), (31, ⟨⟨[.bool], [(113, .v 0)], []⟩, [106, 107, 108, 109, 110, 111, 112], [], [0, 1, 3, 4, 5], 6, []⟩)], [(27, [(0, 0), (0, 1), (0, 2), (0, 3), (0, 4), (0, 5), (0, 6), (0, 7), (0, 8), (0, 9), (0, 10), (0, 11), (0, 12), (0, 13), (0, 14), (1, 15), (2, 16), (0, 17)])], []⟩ Try.func6 rfl Try.ntmps6 (rs := [.tmp 2]) rfl (sig := r23_Kernel_sig) (out := r23_Kernel_out) rfl Try.call6 (fun X => by kernel_rfl)

def law_SeqsKernel_sig : Shape := ⟨[(.pair (.int .i64) (.pair (.list (.list (.int .i64))) (.pair (.list (.int .i64)) .unit)))], [(0, .v 0)], []⟩
def law_SeqsKernel_out : Shape := ⟨[.bool], [(0, .v 0)], []⟩
noncomputable def law_SeqsKernel_ce : CE := ⟨3, law_SeqsKernel_sig, law_SeqsKernel_out, fun X => law_SeqsKernel X⟩
theorem law_SeqsKernel_ok : CE.ok Try.prog law_SeqsKernel_ce := CE.of (Γ := [seqs_Kernel_ce, r23_Check_ce, r23_Kernel_ce]) (by kernel_rfl) TT_ok (GOK.cons seqs_Kernel_ok (GOK.cons r23_Check_ok (GOK.cons r23_Kernel_ok (GOK.nil)))) ⟨[], [], [], []⟩ Try.func3 rfl Try.ntmps3 (rs := [.tmp 2]) rfl (sig := law_SeqsKernel_sig) (out := law_SeqsKernel_out) rfl Try.call3 (fun X => by kernel_rfl)

end Go.Proofs.Ytokjfldjjehmkaa.seqsKernelW
