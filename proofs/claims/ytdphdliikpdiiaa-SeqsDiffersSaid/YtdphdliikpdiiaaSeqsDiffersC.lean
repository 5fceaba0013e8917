/- That the functions of 'SeqsDiffers' compute so. -/
import Derived.Test.YtdphdliikpdiiaaSeqsDiffersD
import Derived.Test.YtdphdliikpdiiaaProg
import Derived.KernelRfl
set_option maxHeartbeats 1000000
set_option maxRecDepth 20000
set_option linter.unusedSimpArgs false
set_option linter.unusedVariables false
namespace Go.Proofs.Ytdphdliikpdiiaa.seqsDiffersW
open Go Go.Ab
theorem te3_sz : SzT Try.prog 3 ((.int .i64)) := SzT.ofTI (dsc := false) (size := 1) (bytes := 8) (z := .int .i64 0) (TI.of Try.underlying3 rfl (by kernel_rfl)) rfl rfl
theorem te35_sz : SzT Try.prog 35 ((.pair (.int .i64) (.pair (.int .i64) .unit))) := SzT.ofTI (dsc := true) (size := 2) (bytes := 16) (z := .agg ⟨[.int .i64 0, .int .i64 0]⟩) (TI.of Try.underlying35 rfl (by kernel_rfl)) rfl rfl
def te3 : TE := ⟨3, .int .i64, false, 1, 8, .int .i64 0, some (.int .i64)⟩
theorem te3_ok : TEok Try.prog te3 := ⟨TI.of Try.underlying3 rfl (by kernel_rfl), Try.underlying3, fun t h => by cases h; exact ⟨rfl, rfl, by decide, rfl⟩⟩
def te4 : TE := ⟨4, .bool, false, 1, 1, .bool false, some .bool⟩
theorem te4_ok : TEok Try.prog te4 := ⟨TI.of Try.underlying4 rfl (by kernel_rfl), Try.underlying4, fun t h => by cases h; exact ⟨rfl, rfl, by decide, rfl⟩⟩
def te22 : TE := ⟨22, .slice 23, false, 1, 24, .slice none 0 0, some (.list (.list (.int .i64)))⟩
theorem te22_ok : TEok Try.prog te22 := ⟨TI.of Try.underlying22 rfl (by kernel_rfl), Try.underlying22, fun t h => by cases h; exact ⟨rfl, rfl, by decide, rfl⟩⟩
def te23 : TE := ⟨23, .slice 3, false, 1, 24, .slice none 0 0, some (.list (.int .i64))⟩
theorem te23_ok : TEok Try.prog te23 := ⟨TI.of Try.underlying23 rfl (by kernel_rfl), Try.underlying23, fun t h => by cases h; exact ⟨rfl, rfl, by decide, rfl⟩⟩
def te25 : TE := ⟨25, .struct [(0, 3), (1, 22), (2, 23)] none, true, 3, 56, .agg ⟨[.int .i64 0, .slice none 0 0, .slice none 0 0]⟩, some (.pair (.int .i64) (.pair (.list (.list (.int .i64))) (.pair (.list (.int .i64)) .unit)))⟩
theorem te25_ok : TEok Try.prog te25 := ⟨TI.of Try.underlying25 rfl (by kernel_rfl), ⟨⟨_, Try.underlying25, rfl⟩, fun t h => by cases h⟩, fun t h => by cases h; exact ⟨rfl, rfl, by decide, rfl⟩⟩
def te26 : TE := ⟨26, .int .i64, false, 1, 8, .int .i64 0, some (.int .i64)⟩
theorem te26_ok : TEok Try.prog te26 := ⟨TI.of Try.underlying26 rfl (by kernel_rfl), Try.underlying26, fun t h => by cases h; exact ⟨rfl, rfl, by decide, rfl⟩⟩
def te34 : TE := ⟨34, .slice 25, false, 1, 24, .slice none 0 0, some (.list (.pair (.int .i64) (.pair (.list (.list (.int .i64))) (.pair (.list (.int .i64)) .unit))))⟩
theorem te34_ok : TEok Try.prog te34 := ⟨TI.of Try.underlying34 rfl (by kernel_rfl), Try.underlying34, fun t h => by cases h; exact ⟨rfl, rfl, by decide, rfl⟩⟩
def te35 : TE := ⟨35, .array 2 3, true, 2, 16, .agg ⟨[.int .i64 0, .int .i64 0]⟩, some (.pair (.int .i64) (.pair (.int .i64) .unit))⟩
theorem te35_ok : TEok Try.prog te35 := ⟨TI.of Try.underlying35 rfl (by kernel_rfl), Try.underlying35, fun t h => by cases h; exact ⟨rfl, rfl, by decide, rfl⟩⟩
def te38 : TE := ⟨38, .struct [(0, 3), (1, 3), (2, 3)] none, true, 3, 24, .agg ⟨[.int .i64 0, .int .i64 0, .int .i64 0]⟩, some (.pair (.int .i64) (.pair (.int .i64) (.pair (.int .i64) .unit)))⟩
theorem te38_ok : TEok Try.prog te38 := ⟨TI.of Try.underlying38 rfl (by kernel_rfl), ⟨⟨_, Try.underlying38, rfl⟩, fun t h => by cases h⟩, fun t h => by cases h; exact ⟨rfl, rfl, by decide, rfl⟩⟩
def te39 : TE := ⟨39, .slice 38, false, 1, 24, .slice none 0 0, some (.list (.pair (.int .i64) (.pair (.int .i64) (.pair (.int .i64) .unit))))⟩
theorem te39_ok : TEok Try.prog te39 := ⟨TI.of Try.underlying39 rfl (by kernel_rfl), Try.underlying39, fun t h => by cases h; exact ⟨rfl, rfl, by decide, rfl⟩⟩
def te40 : TE := ⟨40, .slice 4, false, 1, 24, .slice none 0 0, some (.list .bool)⟩
theorem te40_ok : TEok Try.prog te40 := ⟨TI.of Try.underlying40 rfl (by kernel_rfl), Try.underlying40, fun t h => by cases h; exact ⟨rfl, rfl, by decide, rfl⟩⟩
def te36 : TE := ⟨36, .map 35 3 ((.pair (.int .i64) (.pair (.int .i64) .unit))), false, 1, 8, .map none, none⟩
theorem te36_ok : TEok Try.prog te36 := ⟨TI.of Try.underlying36 rfl (by kernel_rfl), ⟨Try.underlying36, SK.ofKey (d := 16) (KeyT.array te35_sz Try.underlying35 (KeyT.int te3_sz Try.underlying3) rfl) (by decide) rfl rfl⟩, fun t h => by cases h⟩
def TT : List TE := [te3, te4, te22, te23, te25, te26, te34, te35, te38, te39, te40, te36]
theorem TT_ok : TOK Try.prog TT := TOK.cons te3_ok (TOK.cons te4_ok (TOK.cons te22_ok (TOK.cons te23_ok (TOK.cons te25_ok (TOK.cons te26_ok (TOK.cons te34_ok (TOK.cons te35_ok (TOK.cons te38_ok (TOK.cons te39_ok (TOK.cons te40_ok (TOK.cons te36_ok (TOK.nil))))))))))))

def seqs_Check_1_sig : Shape := ⟨[(.list (.int .i64)), (.pair (.int .i64) (.pair (.list (.list (.int .i64))) (.pair (.list (.int .i64)) .unit)))], [(0, .v 0), (1, .addr 1)], []⟩
def seqs_Check_1_out : Shape := ⟨[.bool], [(0, .v 0)], []⟩
noncomputable def seqs_Check_1_ce : CE := ⟨10, seqs_Check_1_sig, seqs_Check_1_out, fun X => seqs_Check_1 X.1 X.2⟩
theorem seqs_Check_1_ok : CE.ok Try.prog seqs_Check_1_ce := CE.of (Γ := []) (by kernel_rfl) TT_ok (GOK.nil) ⟨[], [], [], []⟩ Try.func10 rfl Try.ntmps10 (rs := [.tmp 3]) rfl (sig := seqs_Check_1_sig) (out := seqs_Check_1_out) rfl Try.call10 (fun X => by kernel_rfl)

def slices_IndexFunc_sig : Shape := ⟨[(.list (.list (.int .i64))), (.pair (.int .i64) (.pair (.list (.list (.int .i64))) (.pair (.list (.int .i64)) .unit)))], [(0, .v 0), (1, .fn 10 [.addr 1])], []⟩
def slices_IndexFunc_out : Shape := ⟨[(.int .i64)], [(0, .v 0)], []⟩
noncomputable def slices_IndexFunc_ce : CE := ⟨13, slices_IndexFunc_sig, slices_IndexFunc_out, fun X => slices_IndexFunc X.1 X.2⟩
theorem slices_IndexFunc_ok : CE.ok Try.prog slices_IndexFunc_ce := CE.of (Γ := [seqs_Check_1_ce]) (by kernel_rfl) TT_ok (GOK.cons seqs_Check_1_ok (GOK.nil)) ⟨[(2, ⟨⟨[(.int .i64)], [(8, .v 0)], []⟩, [4, 5, 9, 10, 11, 12, 13, 14, 15, 16, 17, 18], [], [], 0, []⟩)], [], [], []⟩ Try.func13 rfl Try.ntmps13 (rs := [.tmp 4]) rfl (sig := slices_IndexFunc_sig) (out := slices_IndexFunc_out) rfl Try.call13 (fun X => by kernel_rfl)

def slices_ContainsFunc_sig : Shape := ⟨[(.list (.list (.int .i64))), (.pair (.int .i64) (.pair (.list (.list (.int .i64))) (.pair (.list (.int .i64)) .unit)))], [(0, .v 0), (1, .fn 10 [.addr 1])], []⟩
def slices_ContainsFunc_out : Shape := ⟨[.bool], [(0, .v 0)], []⟩
noncomputable def slices_ContainsFunc_ce : CE := ⟨9, slices_ContainsFunc_sig, slices_ContainsFunc_out, fun X => slices_ContainsFunc X.1 X.2⟩
theorem slices_ContainsFunc_ok : CE.ok Try.prog slices_ContainsFunc_ce := CE.of (Γ := [slices_IndexFunc_ce]) (by kernel_rfl) TT_ok (GOK.cons slices_IndexFunc_ok (GOK.nil)) ⟨[], [], [], []⟩ Try.func9 rfl Try.ntmps9 (rs := [.tmp 4]) rfl (sig := slices_ContainsFunc_sig) (out := slices_ContainsFunc_out) rfl Try.call9 (fun X => by kernel_rfl)

def seqs_Check_2_sig : Shape := ⟨[(.int .i64), (.int .i64)], [(0, .v 0), (1, .addr 1)], []⟩
def seqs_Check_2_out : Shape := ⟨[.bool], [(0, .v 0)], []⟩
noncomputable def seqs_Check_2_ce : CE := ⟨12, seqs_Check_2_sig, seqs_Check_2_out, fun X => seqs_Check_2 X.1 X.2⟩
theorem seqs_Check_2_ok : CE.ok Try.prog seqs_Check_2_ce := CE.of (Γ := []) (by kernel_rfl) TT_ok (GOK.nil) ⟨[], [], [], []⟩ Try.func12 rfl Try.ntmps12 (rs := [.tmp 3]) rfl (sig := seqs_Check_2_sig) (out := seqs_Check_2_out) rfl Try.call12 (fun X => by kernel_rfl)

def slices_IndexFunc_1_sig : Shape := ⟨[(.list (.int .i64)), (.int .i64)], [(0, .v 0), (1, .fn 12 [.addr 1])], []⟩
def slices_IndexFunc_1_out : Shape := ⟨[(.int .i64)], [(0, .v 0)], []⟩
noncomputable def slices_IndexFunc_1_ce : CE := ⟨14, slices_IndexFunc_1_sig, slices_IndexFunc_1_out, fun X => slices_IndexFunc_1 X.1 X.2⟩
theorem slices_IndexFunc_1_ok : CE.ok Try.prog slices_IndexFunc_1_ce := CE.of (Γ := [seqs_Check_2_ce]) (by kernel_rfl) TT_ok (GOK.cons seqs_Check_2_ok (GOK.nil)) ⟨[(2, ⟨⟨[(.int .i64)], [(8, .v 0)], []⟩, [4, 5, 9, 10, 11, 12, 13, 14, 15, 16, 17, 18], [], [], 0, []⟩)], [], [], []⟩ Try.func14 rfl Try.ntmps14 (rs := [.tmp 4]) rfl (sig := slices_IndexFunc_1_sig) (out := slices_IndexFunc_1_out) rfl Try.call14 (fun X => by kernel_rfl)

def slices_ContainsFunc_1_sig : Shape := ⟨[(.list (.int .i64)), (.int .i64)], [(0, .v 0), (1, .fn 12 [.addr 1])], []⟩
def slices_ContainsFunc_1_out : Shape := ⟨[.bool], [(0, .v 0)], []⟩
noncomputable def slices_ContainsFunc_1_ce : CE := ⟨11, slices_ContainsFunc_1_sig, slices_ContainsFunc_1_out, fun X => slices_ContainsFunc_1 X.1 X.2⟩
theorem slices_ContainsFunc_1_ok : CE.ok Try.prog slices_ContainsFunc_1_ce := CE.of (Γ := [slices_IndexFunc_1_ce]) (by kernel_rfl) TT_ok (GOK.cons slices_IndexFunc_1_ok (GOK.nil)) ⟨[], [], [], []⟩ Try.func11 rfl Try.ntmps11 (rs := [.tmp 4]) rfl (sig := slices_ContainsFunc_1_sig) (out := slices_ContainsFunc_1_out) rfl Try.call11 (fun X => by kernel_rfl)

def seqs_Check_sig : Shape := ⟨[(.pair (.int .i64) (.pair (.list (.list (.int .i64))) (.pair (.list (.int .i64)) .unit)))], [(0, .v 0)], []⟩
def seqs_Check_out : Shape := ⟨[(.int .i64)], [(0, .v 0)], []⟩
noncomputable def seqs_Check_ce : CE := ⟨8, seqs_Check_sig, seqs_Check_out, fun X => seqs_Check X⟩
theorem seqs_Check_ok : CE.ok Try.prog seqs_Check_ce := CE.of (Γ := [slices_ContainsFunc_ce, slices_ContainsFunc_1_ce]) (by kernel_rfl) TT_ok (GOK.cons slices_ContainsFunc_ok (GOK.cons slices_ContainsFunc_1_ok (GOK.nil))) ⟨[(9, ⟨⟨[(.int .i64)], [(37, .v 0)], []⟩, [2, 4, 5, 38, 39, 40, 41, 42, 43, 44, 45, 46, 47, 48, 49, 50, 51, 52, 53, 54, 55, 56, 57, 58, 59, 60, 61], [], [0, 1], 2, []⟩)], [], [], []⟩ Try.func8 rfl Try.ntmps8 (rs := [.tmp 2]) rfl (sig := seqs_Check_sig) (out := seqs_Check_out) rfl Try.call8 (fun X => by kernel_rfl)

def seqs_Differ_sig : Shape := ⟨[(.pair (.int .i64) (.pair (.list (.list (.int .i64))) (.pair (.list (.int .i64)) .unit))), (.pair (.int .i64) (.pair (.list (.list (.int .i64))) (.pair (.list (.int .i64)) .unit)))], [(0, .v 0), (1, .v 1)], []⟩
def seqs_Differ_out : Shape := ⟨[(.int .i64), .bool, (.int .i64)], [(0, .v 0), (1, .v 1), (2, .v 2)], []⟩
noncomputable def seqs_Differ_ce : CE := ⟨4, seqs_Differ_sig, seqs_Differ_out, fun X => seqs_Differ X.1 X.2⟩
theorem seqs_Differ_ok : CE.ok Try.prog seqs_Differ_ce := CE.of (Γ := [seqs_Check_ce]) (by kernel_rfl) TT_ok (GOK.cons seqs_Check_ok (GOK.nil)) ⟨[(2, ⟨⟨[(.int .i64)], [(20, .v 0)], []⟩, [4, 5, 6, 8, 9, 21, 22, 23, 24, 25, 26, 27, 28, 29], [], [0, 1, 2], 3, []⟩), (12, ⟨⟨[(.list (.pair (.int .i64) (.pair (.int .i64) .unit))), (.list (.int .i64)), (.list (.pair (.int .i64) (.pair (.int .i64) (.pair (.int .i64) .unit))))], [(10, .own 3), (11, .own 4)], [(3, .box 36 [.v 0, .v 1]), (4, .arr 38 2)]⟩, [4, 5, 6, 12, 13, 14, 15, 35, 37, 39, 40, 41, 42, 43, 44, 45, 46, 47, 48, 49, 50, 51, 52, 53, 54, 55, 56, 57, 58, 59, 60, 61, 62, 63, 64, 65, 66, 67, 68, 69, 70, 71, 72, 73, 74, 75, 76, 77, 78, 79, 80, 81, 82, 83, 84, 85, 86, 87, 88, 89, 90, 91, 92, 93, 94, 95, 96, 97, 98, 99, 100, 101, 102, 103, 104, 105, 106, 107, 108, 109], [], [0, 1, 2], 5, []⟩), (18, ⟨⟨[(.int .i64), (.list (.pair (.int .i64) (.pair (.int .i64) .unit))), (.list (.int .i64)), (.list (.pair (.int .i64) (.pair (.int .i64) (.pair (.int .i64) .unit))))], [(10, .own 3), (11, .own 4), (65, .v 0)], [(3, .box 36 [.v 1, .v 2]), (4, .arr 38 3)]⟩, [13, 14, 15, 40, 45, 46, 66, 67, 68, 69, 70, 71, 72, 73, 74, 75, 76, 77, 78, 79, 80, 81, 82, 83, 84, 85, 86, 87, 88, 89, 90, 91, 92, 93, 94, 95, 96, 97, 98, 99, 100, 101, 102, 103, 104, 105, 106, 107, 108, 109], [], [0, 1, 2, 5], 6, []⟩)], [(23, ⟨⟨[(.list (.pair (.int .i64) (.pair (.int .i64) .unit))), (.list (.int .i64)), (.list (.pair (.int .i64) (.pair (.int .i64) (.pair (.int .i64) .unit))))], [(10, .own 3), (11, .own 6)], [(3, .box 36 [.v 0, .v 1]), (6, .arr 38 2)]⟩, [13, 14, 15, 67, 68, 69, 70, 71, 72, 73, 74, 75, 76, 77, 78, 79, 80, 81, 82, 83, 84, 85, 86, 87, 88, 89, 90, 91, 92, 93, 94, 95, 96, 97, 98, 99, 100, 101, 102, 103, 104, 105, 106, 107, 108], [4], [0, 1, 2, 5], 7, []⟩)], [(15, [(0, 0), (0, 1), (0, 2), (0, 3), (0, 4), (0, 5), (0, 6), (0, 7), (0, 8), (0, 9), (0, 10), (0, 11), (0, 12)]), (20, [(0, 0), (0, 1), (0, 2), (0, 3), (0, 4), (0, 5), (0, 6), (0, 7), (0, 8), (0, 9), (0, 10), (0, 11), (0, 12), (0, 13), (0, 14), (0, 15), (0, 16), (0, 17), (0, 18), (0, 19)]), (13, [(0, 0), (1, 1), (0, 2)])], []⟩ Try.func4 rfl Try.ntmps4 (rs := [.tmp 4, .tmp 5, .tmp 6]) rfl (sig := seqs_Differ_sig) (out := seqs_Differ_out) rfl Try.call4 (fun X => by kernel_rfl)

def r23_Check_sig : Shape := ⟨[(.pair (.int .i64) (.pair (.list (.list (.int .i64))) (.pair (.list (.int .i64)) .unit)))], [(0, .v 0)], []⟩
def r23_Check_out : Shape := ⟨[(.int .i64)], [(0, .v 0)], []⟩
noncomputable def r23_Check_ce : CE := ⟨5, r23_Check_sig, r23_Check_out, fun X => r23_Check X⟩
theorem r23_Check_ok : CE.ok Try.prog r23_Check_ce := CE.of (Γ := []) (by kernel_rfl) TT_ok (GOK.nil) ⟨[(9, ⟨⟨[(.int .i64)], [(4, .v 0)], []⟩, [2, 29, 30, 31, 32, 33, 34, 35, 36, 37, 38, 39, 40, 41, 42], [], [0], 1, []⟩), (14, ⟨⟨[(.int .i64)], [(5, .v 0)], []⟩, [2, 6, 43, 44, 45, 46, 47, 48, 49, 50, 51, 52, 53, 54, 55, 56, 57, 58, 59, 60, 61, 62, 63, 64, 65, 66, 67, 68, 69, 70, 71, 72, 73, 74, 75, 76, 77, 78, 79, 80, 81, 82, 83, 84, 85, 86, 87, 88], [], [0], 1, []⟩), (17, ⟨⟨[(.int .i64)], [(6, .v 0)], []⟩, [2, 48, 49, 50, 51, 52, 53, 54, 55, 56, 57, 58, 59, 60, 61, 62, 63, 64, 65, 66, 67, 68, 69, 70, 71, 72, 73, 74], [], [0], 1, []⟩)], [], [(11, [(0, 0), (0, 1), (0, 2), (0, 3), (0, 4), (0, 5), (0, 6), (0, 7), (0, 8)])], []⟩ Try.func5 rfl Try.ntmps5 (rs := [.tmp 2]) rfl (sig := r23_Check_sig) (out := r23_Check_out) rfl Try.call5 (fun X => by kernel_rfl)

def r23_Letter_sig : Shape := ⟨[(.pair (.int .i64) (.pair (.list (.list (.int .i64))) (.pair (.list (.int .i64)) .unit))), (.int .i64)], [(0, .v 0), (1, .v 1)], []⟩
def r23_Letter_out : Shape := ⟨[(.int .i64)], [(0, .v 0)], []⟩
noncomputable def r23_Letter_ce : CE := ⟨7, r23_Letter_sig, r23_Letter_out, fun X => r23_Letter X.1 X.2⟩
theorem r23_Letter_ok : CE.ok Try.prog r23_Letter_ce := CE.of (Γ := []) (by kernel_rfl) TT_ok (GOK.nil) ⟨[(2, ⟨⟨[(.int .i64), (.list (.int .i64))], [(1, .v 0), (5, .own 1)], [(1, .arr 3 1)]⟩, [8, 9, 10, 11, 12, 13, 14, 15, 16, 17, 18, 19, 20], [], [0], 2, []⟩), (7, ⟨⟨[(.int .i64), (.int .i64)], [(6, .v 0), (7, .v 1)], []⟩, [24, 25, 26, 27, 28, 29, 30, 31, 32, 33, 34, 35, 36, 37, 38], [], [0, 1], 2, []⟩)], [], [(9, [(0, 0), (0, 1), (0, 2), (0, 3), (0, 4), (0, 5), (0, 6), (0, 7), (0, 8), (0, 9), (0, 10), (0, 11)])], []⟩ Try.func7 rfl Try.ntmps7 (rs := [.tmp 4]) rfl (sig := r23_Letter_sig) (out := r23_Letter_out) rfl Try.call7 (fun X => by kernel_rfl)

def r23_Differ_sig : Shape := ⟨[(.pair (.int .i64) (.pair (.list (.list (.int .i64))) (.pair (.list (.int .i64)) .unit))), (.pair (.int .i64) (.pair (.list (.list (.int .i64))) (.pair (.list (.int .i64)) .unit)))], [(0, .v 0), (1, .v 1)], []⟩
def r23_Differ_out : Shape := ⟨[(.int .i64), .bool], [(0, .v 0), (1, .v 1)], []⟩
noncomputable def r23_Differ_ce : CE := ⟨6, r23_Differ_sig, r23_Differ_out, fun X => r23_Differ X.1 X.2⟩
theorem r23_Differ_ok : CE.ok Try.prog r23_Differ_ce := CE.of (Γ := [r23_Letter_ce]) (by kernel_rfl) TT_ok (GOK.cons r23_Letter_ok (GOK.nil)) ⟨[(6, ⟨⟨[(.int .i64), (.list .bool), (.list (.int .i64))], [(7, .own 2), (8, .own 3), (9, .v 0)], [(2, .arr 4 1), (3, .arr 3 2)]⟩, [4, 5, 10, 11, 12, 13, 14, 23, 24, 25, 26, 27, 28, 29, 30, 31, 32, 33, 34, 35, 36, 37, 38, 39, 40, 41, 42, 43, 44, 45, 46, 47, 48, 49, 50, 51, 52, 53, 54, 55, 56, 57, 58, 59, 60, 61, 62, 63, 64, 65, 66, 67, 68, 69, 70, 71, 72, 73, 74, 75, 76, 77, 78, 79, 80, 81, 82, 83, 84, 85, 86, 87, 88, 89, 90, 91, 92, 93, 94, 95, 96, 97, 98], [], [0, 1], 4, []⟩), (14, ⟨⟨[(.int .i64), (.list .bool), (.list (.int .i64))], [(7, .own 2), (8, .own 3), (13, .v 0)], [(2, .arr 4 1), (3, .arr 3 2)]⟩, [14, 28, 33, 35, 55, 56, 57, 58, 59, 60, 61, 62, 63, 64, 65, 66, 67, 68, 69, 70, 71, 72, 73, 74, 75, 76, 77, 78, 79, 80, 81, 82, 83, 84, 85, 86, 87, 88, 89, 90, 91, 92, 93, 94, 95, 96, 97, 98], [], [0, 1], 4, []⟩)], [(19, ⟨⟨[(.list .bool), (.list (.int .i64))], [(7, .own 2), (8, .own 4)], [(2, .arr 4 0), (4, .arr 3 1)]⟩, [14, 61, 62, 63, 64, 65, 66, 67, 68, 69, 70, 71, 72, 73, 74, 75, 76, 77, 78, 79, 80, 81, 82, 83, 84, 85, 86, 87, 88, 89, 90, 91, 92, 93, 94, 95, 96, 97, 98], [3], [0, 1], 5, []⟩)], [(11, [(0, 0), (0, 1), (0, 2), (0, 3), (0, 4), (0, 5), (0, 6), (0, 7), (0, 8), (0, 9), (0, 10)]), (16, [(0, 0), (0, 1), (0, 2), (0, 3), (0, 4), (0, 5), (0, 6), (0, 7), (0, 8), (0, 9), (0, 10), (0, 11), (0, 12), (0, 13), (0, 14), (0, 15), (0, 16), (0, 17), (0, 18), (0, 19), (0, 20), (0, 21)])], []⟩ Try.func6 rfl Try.ntmps6 (rs := [.tmp 4, .tmp 5]) rfl (sig := r23_Differ_sig) (out := r23_Differ_out) rfl Try.call6 (fun X => by kernel_rfl)

def law_SeqsDiffers_sig : Shape := ⟨[(.pair (.int .i64) (.pair (.list (.list (.int .i64))) (.pair (.list (.int .i64)) .unit))), (.pair (.int .i64) (.pair (.list (.list (.int .i64))) (.pair (.list (.int .i64)) .unit))), (.int .i64)], [(0, .v 0), (1, .v 1), (2, .v 2)], []⟩
def law_SeqsDiffers_out : Shape := ⟨[.bool], [(0, .v 0)], []⟩
noncomputable def law_SeqsDiffers_ce : CE := ⟨3, law_SeqsDiffers_sig, law_SeqsDiffers_out, fun X => law_SeqsDiffers X.1 X.2.1 X.2.2⟩
theorem law_SeqsDiffers_ok : CE.ok Try.prog law_SeqsDiffers_ce := CE.of (Γ := [seqs_Differ_ce, r23_Check_ce, r23_Differ_ce, r23_Letter_ce]) (by kernel_rfl) TT_ok (GOK.cons seqs_Differ_ok (GOK.cons r23_Check_ok (GOK.cons r23_Differ_ok (GOK.cons r23_Letter_ok (GOK.nil))))) ⟨[], [(4, ⟨⟨[(.int .i64)], [(10, .v 0)], []⟩, [25, 26, 27, 28], [], [0, 1], 2, []⟩), (5, ⟨⟨[.bool], [(37, .v 0)], []⟩, [29, 30, 31, 32, 33, 34, 35, 36], [], [0, 1], 2, []⟩), (6, ⟨⟨[(.int .i64)], [(10, .v 0)], []⟩, [29, 30, 31, 32, 33, 34, 35, 36, 37], [], [0, 1], 2, []⟩)], [(16, [(0, 0), (0, 1), (0, 2), (0, 3), (0, 4), (0, 5), (0, 6), (0, 7), (0, 8), (0, 9), (0, 10), (0, 11)])], []⟩ Try.func3 rfl Try.ntmps3 (rs := [.tmp 6]) rfl (sig := law_SeqsDiffers_sig) (out := law_SeqsDiffers_out) rfl Try.call3 (fun X => by kernel_rfl)

end Go.Proofs.Ytdphdliikpdiiaa.seqsDiffersW
