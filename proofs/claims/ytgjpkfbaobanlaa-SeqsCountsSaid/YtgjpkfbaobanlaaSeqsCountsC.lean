/- That the functions of 'SeqsCounts' compute so. -/
import Derived.Test.YtgjpkfbaobanlaaSeqsCountsD
import Derived.Test.YtgjpkfbaobanlaaProg
import Derived.KernelRfl
set_option maxHeartbeats 1000000
set_option maxRecDepth 20000
set_option linter.unusedSimpArgs false
set_option linter.unusedVariables false
namespace Go.Proofs.Ytgjpkfbaobanlaa.seqsCountsW
open Go Go.Ab
def te3 : TE := ⟨3, .int .i64, false, 1, 8, .int .i64 0, some (.int .i64)⟩
theorem te3_ok : TEok Try.prog te3 := ⟨TI.of Try.underlying3 rfl (by kernel_rfl), Try.underlying3, fun t h => by cases h; exact ⟨rfl, rfl, by decide, rfl⟩⟩
def te4 : TE := ⟨4, .bool, false, 1, 1, .bool false, some .bool⟩
theorem te4_ok : TEok Try.prog te4 := ⟨TI.of Try.underlying4 rfl (by kernel_rfl), Try.underlying4, fun t h => by cases h; exact ⟨rfl, rfl, by decide, rfl⟩⟩
def te22 : TE := ⟨22, .int .i64, false, 1, 8, .int .i64 0, some (.int .i64)⟩
theorem te22_ok : TEok Try.prog te22 := ⟨TI.of Try.underlying22 rfl (by kernel_rfl), Try.underlying22, fun t h => by cases h; exact ⟨rfl, rfl, by decide, rfl⟩⟩
def te26 : TE := ⟨26, .slice 3, false, 1, 24, .slice none 0 0, some (.list (.int .i64))⟩
theorem te26_ok : TEok Try.prog te26 := ⟨TI.of Try.underlying26 rfl (by kernel_rfl), Try.underlying26, fun t h => by cases h; exact ⟨rfl, rfl, by decide, rfl⟩⟩
def te45 : TE := ⟨45, .slice 26, false, 1, 24, .slice none 0 0, some (.list (.list (.int .i64)))⟩
theorem te45_ok : TEok Try.prog te45 := ⟨TI.of Try.underlying45 rfl (by kernel_rfl), Try.underlying45, fun t h => by cases h; exact ⟨rfl, rfl, by decide, rfl⟩⟩
def te47 : TE := ⟨47, .struct [(0, 3), (1, 45), (2, 26)], true, 3, 56, .agg ⟨[.int .i64 0, .slice none 0 0, .slice none 0 0]⟩, some (.pair (.int .i64) (.pair (.list (.list (.int .i64))) (.pair (.list (.int .i64)) .unit)))⟩
theorem te47_ok : TEok Try.prog te47 := ⟨TI.of Try.underlying47 rfl (by kernel_rfl), ⟨_, Try.underlying47, rfl⟩, fun t h => by cases h; exact ⟨rfl, rfl, by decide, rfl⟩⟩
def TT : List TE := [te3, te4, te22, te26, te45, te47]
theorem TT_ok : TOK Try.prog TT := TOK.cons te3_ok (TOK.cons te4_ok (TOK.cons te22_ok (TOK.cons te26_ok (TOK.cons te45_ok (TOK.cons te47_ok (TOK.nil))))))

def seqs_Check_1_sig : Shape := ⟨[(.list (.int .i64)), (.pair (.int .i64) (.pair (.list (.list (.int .i64))) (.pair (.list (.int .i64)) .unit)))], [(0, .v 0), (1, .addr 1)], []⟩
def seqs_Check_1_out : Shape := ⟨[.bool], [(0, .v 0)], []⟩
noncomputable def seqs_Check_1_ce : CE := ⟨61, seqs_Check_1_sig, seqs_Check_1_out, fun X => seqs_Check_1 X.1 X.2⟩
theorem seqs_Check_1_ok : CE.ok Try.prog seqs_Check_1_ce := CE.of (Γ := []) (by kernel_rfl) TT_ok (GOK.nil) ⟨[], [], []⟩ Try.func61 rfl Try.ntmps61 (rs := [.tmp 3]) rfl (sig := seqs_Check_1_sig) (out := seqs_Check_1_out) rfl Try.call61 (fun X => by kernel_rfl)

def slices_IndexFunc_sig : Shape := ⟨[(.list (.list (.int .i64))), (.pair (.int .i64) (.pair (.list (.list (.int .i64))) (.pair (.list (.int .i64)) .unit)))], [(0, .v 0), (1, .fn 61 [.addr 1])], []⟩
def slices_IndexFunc_out : Shape := ⟨[(.int .i64)], [(0, .v 0)], []⟩
noncomputable def slices_IndexFunc_ce : CE := ⟨77, slices_IndexFunc_sig, slices_IndexFunc_out, fun X => slices_IndexFunc X.1 X.2⟩
theorem slices_IndexFunc_ok : CE.ok Try.prog slices_IndexFunc_ce := CE.of (Γ := [seqs_Check_1_ce]) (by kernel_rfl) TT_ok (GOK.cons seqs_Check_1_ok (GOK.nil)) ⟨[(2, ⟨⟨[(.int .i64)], [(8, .v 0)], []⟩, [4, 5, 9, 10, 11, 12, 13, 14, 15, 16, 17, 18], [], [], 0⟩)], [], []⟩ Try.func77 rfl Try.ntmps77 (rs := [.tmp 4]) rfl (sig := slices_IndexFunc_sig) (out := slices_IndexFunc_out) rfl Try.call77 (fun X => by kernel_rfl)

def slices_ContainsFunc_sig : Shape := ⟨[(.list (.list (.int .i64))), (.pair (.int .i64) (.pair (.list (.list (.int .i64))) (.pair (.list (.int .i64)) .unit)))], [(0, .v 0), (1, .fn 61 [.addr 1])], []⟩
def slices_ContainsFunc_out : Shape := ⟨[.bool], [(0, .v 0)], []⟩
noncomputable def slices_ContainsFunc_ce : CE := ⟨60, slices_ContainsFunc_sig, slices_ContainsFunc_out, fun X => slices_ContainsFunc X.1 X.2⟩
theorem slices_ContainsFunc_ok : CE.ok Try.prog slices_ContainsFunc_ce := CE.of (Γ := [slices_IndexFunc_ce]) (by kernel_rfl) TT_ok (GOK.cons slices_IndexFunc_ok (GOK.nil)) ⟨[], [], []⟩ Try.func60 rfl Try.ntmps60 (rs := [.tmp 4]) rfl (sig := slices_ContainsFunc_sig) (out := slices_ContainsFunc_out) rfl Try.call60 (fun X => by kernel_rfl)

def seqs_Check_2_sig : Shape := ⟨[(.int .i64), (.int .i64)], [(0, .v 0), (1, .addr 1)], []⟩
def seqs_Check_2_out : Shape := ⟨[.bool], [(0, .v 0)], []⟩
noncomputable def seqs_Check_2_ce : CE := ⟨62, seqs_Check_2_sig, seqs_Check_2_out, fun X => seqs_Check_2 X.1 X.2⟩
theorem seqs_Check_2_ok : CE.ok Try.prog seqs_Check_2_ce := CE.of (Γ := []) (by kernel_rfl) TT_ok (GOK.nil) ⟨[], [], []⟩ Try.func62 rfl Try.ntmps62 (rs := [.tmp 3]) rfl (sig := seqs_Check_2_sig) (out := seqs_Check_2_out) rfl Try.call62 (fun X => by kernel_rfl)

def slices_IndexFunc_1_sig : Shape := ⟨[(.list (.int .i64)), (.int .i64)], [(0, .v 0), (1, .fn 62 [.addr 1])], []⟩
def slices_IndexFunc_1_out : Shape := ⟨[(.int .i64)], [(0, .v 0)], []⟩
noncomputable def slices_IndexFunc_1_ce : CE := ⟨76, slices_IndexFunc_1_sig, slices_IndexFunc_1_out, fun X => slices_IndexFunc_1 X.1 X.2⟩
theorem slices_IndexFunc_1_ok : CE.ok Try.prog slices_IndexFunc_1_ce := CE.of (Γ := [seqs_Check_2_ce]) (by kernel_rfl) TT_ok (GOK.cons seqs_Check_2_ok (GOK.nil)) ⟨[(2, ⟨⟨[(.int .i64)], [(8, .v 0)], []⟩, [4, 5, 9, 10, 11, 12, 13, 14, 15, 16, 17, 18], [], [], 0⟩)], [], []⟩ Try.func76 rfl Try.ntmps76 (rs := [.tmp 4]) rfl (sig := slices_IndexFunc_1_sig) (out := slices_IndexFunc_1_out) rfl Try.call76 (fun X => by kernel_rfl)

def slices_ContainsFunc_1_sig : Shape := ⟨[(.list (.int .i64)), (.int .i64)], [(0, .v 0), (1, .fn 62 [.addr 1])], []⟩
def slices_ContainsFunc_1_out : Shape := ⟨[.bool], [(0, .v 0)], []⟩
noncomputable def slices_ContainsFunc_1_ce : CE := ⟨58, slices_ContainsFunc_1_sig, slices_ContainsFunc_1_out, fun X => slices_ContainsFunc_1 X.1 X.2⟩
theorem slices_ContainsFunc_1_ok : CE.ok Try.prog slices_ContainsFunc_1_ce := CE.of (Γ := [slices_IndexFunc_1_ce]) (by kernel_rfl) TT_ok (GOK.cons slices_IndexFunc_1_ok (GOK.nil)) ⟨[], [], []⟩ Try.func58 rfl Try.ntmps58 (rs := [.tmp 4]) rfl (sig := slices_ContainsFunc_1_sig) (out := slices_ContainsFunc_1_out) rfl Try.call58 (fun X => by kernel_rfl)

def seqs_Check_sig : Shape := ⟨[(.pair (.int .i64) (.pair (.list (.list (.int .i64))) (.pair (.list (.int .i64)) .unit)))], [(0, .v 0)], []⟩
def seqs_Check_out : Shape := ⟨[(.int .i64)], [(0, .v 0)], []⟩
noncomputable def seqs_Check_ce : CE := ⟨26, seqs_Check_sig, seqs_Check_out, fun X => seqs_Check X⟩
theorem seqs_Check_ok : CE.ok Try.prog seqs_Check_ce := CE.of (Γ := [slices_ContainsFunc_ce, slices_ContainsFunc_1_ce]) (by kernel_rfl) TT_ok (GOK.cons slices_ContainsFunc_ok (GOK.cons slices_ContainsFunc_1_ok (GOK.nil))) ⟨[(9, ⟨⟨[(.int .i64)], [(37, .v 0)], []⟩, [2, 4, 5, 38, 39, 40, 41, 42, 43, 44, 45, 46, 47, 48, 49, 50, 51, 52, 53, 54, 55, 56, 57, 58, 59, 60, 61], [], [0, 1], 2⟩)], [], []⟩ Try.func26 rfl Try.ntmps26 (rs := [.tmp 2]) rfl (sig := seqs_Check_sig) (out := seqs_Check_out) rfl Try.call26 (fun X => by kernel_rfl)

def seqs_letter_sig : Shape := ⟨[(.pair (.int .i64) (.pair (.list (.list (.int .i64))) (.pair (.list (.int .i64)) .unit))), (.int .i64)], [(0, .v 0), (1, .v 1)], []⟩
def seqs_letter_out : Shape := ⟨[(.int .i64)], [(0, .v 0)], []⟩
noncomputable def seqs_letter_ce : CE := ⟨63, seqs_letter_sig, seqs_letter_out, LFix seqs_letter_F⟩
theorem seqs_letter_ok : CE.ok Try.prog seqs_letter_ce := CE.ofRec (Γ := []) (by kernel_rfl) TT_ok (GOK.nil) ⟨[], [], [(3, [(0, 0), (0, 1), (0, 2), (0, 3), (0, 4), (0, 5), (0, 6), (0, 10), (0, 11), (0, 12), (0, 13), (1, 7), (0, 8), (0, 9), (0, 14), (0, 15), (0, 16)])]⟩ Try.func63 rfl Try.ntmps63 (rs := [.tmp 4]) rfl (sig := seqs_letter_sig) (out := seqs_letter_out) rfl Try.call63 (d := seqs_letter_F) (fun rc X => by kernel_rfl)

def seqs_counts_sig : Shape := ⟨[(.pair (.int .i64) (.pair (.list (.list (.int .i64))) (.pair (.list (.int .i64)) .unit))), (.int .i64)], [(0, .v 0), (1, .v 1)], []⟩
def seqs_counts_out : Shape := ⟨[(.list (.int .i64))], [(0, .own 0)], [(0, .arr 3 0)]⟩
noncomputable def seqs_counts_ce : CE := ⟨74, seqs_counts_sig, seqs_counts_out, LFix seqs_counts_F⟩
theorem seqs_counts_ok : CE.ok Try.prog seqs_counts_ce := CE.ofRec (Γ := [seqs_letter_ce]) (by kernel_rfl) TT_ok (GOK.cons seqs_letter_ok (GOK.nil)) ⟨[(8, ⟨⟨[(.int .i64), (.list (.int .i64))], [(5, .own 1), (30, .v 0)], [(1, .arr 3 1)]⟩, [6, 7, 9, 14, 31, 32, 33, 34, 35, 36, 37, 38, 39, 40, 41, 42, 43, 44, 45, 46, 47, 48, 49, 50, 51, 52, 53], [], [0, 2], 3⟩), (11, ⟨⟨[(.int .i64), (.list (.int .i64))], [(5, .own 1), (41, .v 0)], [(1, .arr 3 1)]⟩, [9, 42, 43, 44, 45, 46, 47, 48, 49, 50, 51, 52], [], [0, 2], 3⟩), (17, ⟨⟨[(.int .i64), (.list (.int .i64))], [(5, .own 1), (10, .v 0)], [(1, .arr 3 1)]⟩, [61, 62, 63, 64, 65, 66, 67, 68, 69, 70, 71, 72, 73], [], [0, 2], 3⟩)], [], [(7, [(0, 0), (0, 1), (0, 2), (0, 3), (0, 4), (0, 7), (1, 5), (0, 6)]), (16, [(0, 0), (0, 1), (0, 2), (0, 3), (0, 4), (0, 5), (0, 6), (0, 7)])]⟩ Try.func74 rfl Try.ntmps74 (rs := [.tmp 4]) rfl (sig := seqs_counts_sig) (out := seqs_counts_out) rfl Try.call74 (d := seqs_counts_F) (fun rc X => by kernel_rfl)

def seqs_Counts_sig : Shape := ⟨[(.pair (.int .i64) (.pair (.list (.list (.int .i64))) (.pair (.list (.int .i64)) .unit))), (.int .i64)], [(0, .v 0), (1, .v 1)], []⟩
def seqs_Counts_out : Shape := ⟨[(.int .i64), (.list (.int .i64))], [(0, .own 0), (1, .v 0)], [(0, .arr 3 1)]⟩
noncomputable def seqs_Counts_ce : CE := ⟨50, seqs_Counts_sig, seqs_Counts_out, fun X => seqs_Counts X.1 X.2⟩
theorem seqs_Counts_ok : CE.ok Try.prog seqs_Counts_ce := CE.of (Γ := [seqs_Check_ce, seqs_counts_ce]) (by kernel_rfl) TT_ok (GOK.cons seqs_Check_ok (GOK.cons seqs_counts_ok (GOK.nil))) ⟨[(8, ⟨⟨[(.int .i64), (.list (.int .i64))], [(7, .own 1), (26, .v 0)], [(1, .arr 3 1)]⟩, [8, 9, 21, 27, 28, 29, 30, 31, 32, 33, 34, 35, 36, 37, 38, 39, 40, 41, 42], [], [0, 2], 3⟩)], [], []⟩ Try.func50 rfl Try.ntmps50 (rs := [.tmp 4, .tmp 5]) rfl (sig := seqs_Counts_sig) (out := seqs_Counts_out) rfl Try.call50 (fun X => by kernel_rfl)

def r23_Check_sig : Shape := ⟨[(.pair (.int .i64) (.pair (.list (.list (.int .i64))) (.pair (.list (.int .i64)) .unit)))], [(0, .v 0)], []⟩
def r23_Check_out : Shape := ⟨[(.int .i64)], [(0, .v 0)], []⟩
noncomputable def r23_Check_ce : CE := ⟨27, r23_Check_sig, r23_Check_out, fun X => r23_Check X⟩
theorem r23_Check_ok : CE.ok Try.prog r23_Check_ce := CE.of (Γ := []) (by kernel_rfl) TT_ok (GOK.nil) ⟨[(9, ⟨⟨[(.int .i64)], [(4, .v 0)], []⟩, [2, 29, 30, 31, 32, 33, 34, 35, 36, 37, 38, 39, 40, 41, 42], [], [0], 1⟩), (14, ⟨⟨[(.int .i64)], [(5, .v 0)], []⟩, [2, 6, 43, 44, 45, 46, 47, 48, 49, 50, 51, 52, 53, 54, 55, 56, 57, 58, 59, 60, 61, 62, 63, 64, 65, 66, 67, 68, 69, 70, 71, 72, 73, 74, 75, 76, 77, 78, 79, 80, 81, 82, 83, 84, 85, 86, 87, 88], [], [0], 1⟩), (17, ⟨⟨[(.int .i64)], [(6, .v 0)], []⟩, [2, 48, 49, 50, 51, 52, 53, 54, 55, 56, 57, 58, 59, 60, 61, 62, 63, 64, 65, 66, 67, 68, 69, 70, 71, 72, 73, 74], [], [0], 1⟩)], [], [(11, [(0, 0), (0, 1), (0, 2), (0, 3), (0, 4), (0, 5), (0, 6), (0, 7), (0, 8)])]⟩ Try.func27 rfl Try.ntmps27 (rs := [.tmp 2]) rfl (sig := r23_Check_sig) (out := r23_Check_out) rfl Try.call27 (fun X => by kernel_rfl)

def r23_Letter_sig : Shape := ⟨[(.pair (.int .i64) (.pair (.list (.list (.int .i64))) (.pair (.list (.int .i64)) .unit))), (.int .i64)], [(0, .v 0), (1, .v 1)], []⟩
def r23_Letter_out : Shape := ⟨[(.int .i64)], [(0, .v 0)], []⟩
noncomputable def r23_Letter_ce : CE := ⟨29, r23_Letter_sig, r23_Letter_out, fun X => r23_Letter X.1 X.2⟩
theorem r23_Letter_ok : CE.ok Try.prog r23_Letter_ce := CE.of (Γ := []) (by kernel_rfl) TT_ok (GOK.nil) ⟨[(2, ⟨⟨[(.int .i64), (.list (.int .i64))], [(1, .v 0), (5, .own 1)], [(1, .arr 3 1)]⟩, [8, 9, 10, 11, 12, 13, 14, 15, 16, 17, 18, 19, 20], [], [0], 2⟩), (7, ⟨⟨[(.int .i64), (.int .i64)], [(6, .v 0), (7, .v 1)], []⟩, [24, 25, 26, 27, 28, 29, 30, 31, 32, 33, 34, 35, 36, 37, 38], [], [0, 1], 2⟩)], [], [(9, [(0, 0), (0, 1), (0, 2), (0, 3), (0, 4), (0, 5), (0, 6), (0, 7), (0, 8), (0, 9), (0, 10), (0, 11)])]⟩ Try.func29 rfl Try.ntmps29 (rs := [.tmp 4]) rfl (sig := r23_Letter_sig) (out := r23_Letter_out) rfl Try.call29 (fun X => by kernel_rfl)

def r23_Below_sig : Shape := ⟨[(.pair (.int .i64) (.pair (.list (.list (.int .i64))) (.pair (.list (.int .i64)) .unit))), (.int .i64)], [(0, .v 0), (1, .v 1)], []⟩
def r23_Below_out : Shape := ⟨[(.list (.int .i64))], [(0, .own 0)], [(0, .arr 3 0)]⟩
noncomputable def r23_Below_ce : CE := ⟨51, r23_Below_sig, r23_Below_out, LFix r23_Below_F⟩
theorem r23_Below_ok : CE.ok Try.prog r23_Below_ce := CE.ofRec (Γ := [r23_Letter_ce]) (by kernel_rfl) TT_ok (GOK.cons r23_Letter_ok (GOK.nil)) ⟨[(4, ⟨⟨[(.int .i64), (.list (.int .i64))], [(5, .own 1), (6, .v 0)], [(1, .arr 3 1)]⟩, [7, 16, 19, 20, 21, 22, 23, 24, 25, 26, 27, 28, 29, 30, 31, 32], [], [0], 2⟩), (11, ⟨⟨[(.int .i64), (.list (.int .i64))], [(5, .own 1), (9, .v 0)], [(1, .arr 3 1)]⟩, [10, 16, 40, 41, 42, 43, 44, 45, 46, 47, 48, 49, 50, 51, 52, 53, 54, 55, 56, 57, 58, 59, 60, 61, 62, 63, 64, 65, 66, 67, 68, 69, 70, 71, 72, 73, 74, 75, 76, 77], [], [0, 2], 3⟩), (14, ⟨⟨[(.int .i64), (.list (.int .i64))], [(5, .own 1), (10, .v 0)], [(1, .arr 3 1)]⟩, [46, 47, 48, 49, 50, 51, 52, 53, 54, 55, 56, 57, 58, 59, 60, 61, 62, 63, 64, 65, 66, 67, 68, 69, 70, 71, 72, 73, 74, 75, 76, 77], [], [0, 2], 3⟩), (18, ⟨⟨[(.int .i64), (.list (.int .i64))], [(5, .own 1), (11, .v 0)], [(1, .arr 3 1)]⟩, [12, 84, 85, 86, 87, 88, 89, 90, 91, 92, 93, 94, 95, 96, 97], [], [0, 2], 3⟩)], [], [(9, [(0, 0), (0, 1), (0, 2), (0, 3), (0, 4), (1, 5), (0, 6)]), (16, [(0, 0), (0, 1), (0, 2), (0, 3), (0, 4), (0, 5), (0, 6), (0, 7), (0, 8), (0, 9), (0, 10), (0, 11), (0, 12), (0, 13), (0, 14), (0, 15), (0, 16), (0, 17), (0, 18), (0, 19), (0, 20), (0, 21), (0, 22), (0, 23), (0, 24), (0, 25), (2, 26)])]⟩ Try.func51 rfl Try.ntmps51 (rs := [.tmp 4]) rfl (sig := r23_Below_sig) (out := r23_Below_out) rfl Try.call51 (d := r23_Below_F) (fun rc X => by kernel_rfl)

def r1_Words_sig : Shape := ⟨[(.list (.int .i64)), (.list (.int .i64))], [(0, .v 0), (1, .v 1)], []⟩
def r1_Words_out : Shape := ⟨[.bool], [(0, .v 0)], []⟩
noncomputable def r1_Words_ce : CE := ⟨16, r1_Words_sig, r1_Words_out, fun X => r1_Words X.1 X.2⟩
theorem r1_Words_ok : CE.ok Try.prog r1_Words_ce := CE.of (Γ := []) (by kernel_rfl) TT_ok (GOK.nil) ⟨[(4, ⟨⟨[(.int .i64)], [(5, .v 0)], []⟩, [4, 11, 12, 13, 14, 15, 16, 17, 18, 19, 20, 21, 22, 23, 24, 25], [], [], 0⟩)], [], [(6, [(0, 0), (0, 1), (0, 2), (0, 3), (0, 4), (0, 5), (0, 6), (0, 7), (0, 8)])]⟩ Try.func16 rfl Try.ntmps16 (rs := [.tmp 4]) rfl (sig := r1_Words_sig) (out := r1_Words_out) rfl Try.call16 (fun X => by kernel_rfl)

def law_SeqsCounts_sig : Shape := ⟨[(.pair (.int .i64) (.pair (.list (.list (.int .i64))) (.pair (.list (.int .i64)) .unit))), (.int .i64)], [(0, .v 0), (1, .v 1)], []⟩
def law_SeqsCounts_out : Shape := ⟨[.bool], [(0, .v 0)], []⟩
noncomputable def law_SeqsCounts_ce : CE := ⟨14, law_SeqsCounts_sig, law_SeqsCounts_out, fun X => law_SeqsCounts X.1 X.2⟩
theorem law_SeqsCounts_ok : CE.ok Try.prog law_SeqsCounts_ce := CE.of (Γ := [seqs_Counts_ce, r23_Check_ce, r23_Below_ce, r1_Words_ce]) (by kernel_rfl) TT_ok (GOK.cons seqs_Counts_ok (GOK.cons r23_Check_ok (GOK.cons r23_Below_ok (GOK.cons r1_Words_ok (GOK.nil))))) ⟨[(10, ⟨⟨[(.int .i64), (.list (.int .i64))], [(8, .own 2), (10, .v 0)], [(2, .arr 3 1)]⟩, [40, 44, 45, 46, 47, 48, 49, 50, 51, 52, 53, 54, 55, 56, 57, 58, 59, 60, 61, 62, 63, 64, 65, 66, 67, 68, 69], [], [0, 1, 3], 4⟩)], [(3, ⟨⟨[.bool], [(29, .v 0)], []⟩, [20, 21, 22, 23, 24, 25, 26, 27, 28], [], [0, 1], 2⟩), (4, ⟨⟨[(.int .i64)], [(7, .v 0)], []⟩, [20, 21, 22, 23, 24, 25, 26, 27, 28, 29], [], [0, 1], 2⟩)], [(12, [(0, 0), (0, 1), (0, 2), (0, 3), (0, 4), (0, 5), (0, 6), (0, 7), (0, 8), (0, 9), (0, 10), (0, 11), (0, 12), (0, 13), (0, 14), (0, 15), (0, 16), (0, 17), (0, 18), (0, 19), (2, 20)])]⟩ Try.func14 rfl Try.ntmps14 (rs := [.tmp 4]) rfl (sig := law_SeqsCounts_sig) (out := law_SeqsCounts_out) rfl Try.call14 (fun X => by kernel_rfl)

end Go.Proofs.Ytgjpkfbaobanlaa.seqsCountsW
