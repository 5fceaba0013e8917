/- That the functions of 'BranchReads' compute so. -/
import Derived.Test.YtbiecnnpmnlchaaBranchReadsD
import Derived.Test.YtbiecnnpmnlchaaProg
import Derived.KernelRfl
set_option maxHeartbeats 1000000
set_option maxRecDepth 20000
set_option linter.unusedSimpArgs false
set_option linter.unusedVariables false
set_option linter.unusedSectionVars false
namespace Go.Proofs.Ytbiecnnpmnlchaa.branchReadsW
open Go Go.Ab
theorem te3_sz : SzT Try.prog 3 ((.int .i64)) := SzT.ofTI (dsc := false) (size := 1) (bytes := 8) (z := .int .i64 0) (TI.of Try.underlying3 rfl (by kernel_rfl)) rfl rfl
theorem te22_sz : SzT Try.prog 22 ((.int .i64)) := SzT.ofTI (dsc := false) (size := 1) (bytes := 8) (z := .int .i64 0) (TI.of Try.underlying22 rfl (by kernel_rfl)) rfl rfl
theorem te24_sz : SzT Try.prog 24 ((.pair (.int .i64) (.pair (.int .i64) .unit))) := SzT.ofTI (dsc := true) (size := 2) (bytes := 16) (z := .agg ⟨[.int .i64 0, .int .i64 0]⟩) (TI.of Try.underlying24 rfl (by kernel_rfl)) rfl rfl
def te3 : TE := ⟨3, .int .i64, false, 1, 8, .int .i64 0, some (.int .i64)⟩
theorem te3_ok : TEok Try.prog te3 := ⟨TI.of Try.underlying3 rfl (by kernel_rfl), Try.underlying3, fun t h => by cases h; exact ⟨rfl, rfl, by decide, rfl⟩⟩
def te4 : TE := ⟨4, .bool, false, 1, 1, .bool false, some .bool⟩
theorem te4_ok : TEok Try.prog te4 := ⟨TI.of Try.underlying4 rfl (by kernel_rfl), Try.underlying4, fun t h => by cases h; exact ⟨rfl, rfl, by decide, rfl⟩⟩
def te5 : TE := ⟨5, .int .u8, false, 1, 1, .int .u8 0, some (.int .u8)⟩
theorem te5_ok : TEok Try.prog te5 := ⟨TI.of Try.underlying5 rfl (by kernel_rfl), Try.underlying5, fun t h => by cases h; exact ⟨rfl, rfl, by decide, rfl⟩⟩
def te9 : TE := ⟨9, .str, false, 1, 16, .string ⟨⟨[]⟩⟩, some .str⟩
theorem te9_ok : TEok Try.prog te9 := ⟨TI.of Try.underlying9 rfl (by kernel_rfl), Try.underlying9, fun t h => by cases h; exact ⟨rfl, rfl, by decide, rfl⟩⟩
def te22 : TE := ⟨22, .int .i64, false, 1, 8, .int .i64 0, some (.int .i64)⟩
theorem te22_ok : TEok Try.prog te22 := ⟨TI.of Try.underlying22 rfl (by kernel_rfl), Try.underlying22, fun t h => by cases h; exact ⟨rfl, rfl, by decide, rfl⟩⟩
def te24 : TE := ⟨24, .struct [(0, 22), (1, 3)] (some (.pair (.int .i64) (.pair (.int .i64) .unit))), true, 2, 16, .agg ⟨[.int .i64 0, .int .i64 0]⟩, some (.pair (.int .i64) (.pair (.int .i64) .unit))⟩
theorem te24_ok : TEok Try.prog te24 := ⟨TI.of Try.underlying24 rfl (by kernel_rfl), ⟨⟨_, Try.underlying24, rfl⟩, fun t h => by cases h; exact ⟨rfl, rfl, (KeyT.struct te24_sz Try.underlying24 (by kernel_rfl) (KFs.cons (by decide) rfl (KeyT.int te22_sz Try.underlying22) (KFs.cons (by decide) rfl (KeyT.int te3_sz Try.underlying3) KFs.nil))), by kernel_rfl⟩⟩, fun t h => by cases h; exact ⟨rfl, rfl, by decide, rfl⟩⟩
def te26 : TE := ⟨26, .slice 48, false, 1, 24, .slice none 0 0, some (.list (.pair (.int .u8) (.pair .bool (.pair (.int .i64) (.pair (.int .i64) (.pair (.int .i64) .unit))))))⟩
theorem te26_ok : TEok Try.prog te26 := ⟨TI.of Try.underlying26 rfl (by kernel_rfl), Try.underlying26, fun t h => by cases h; exact ⟨rfl, rfl, by decide, rfl⟩⟩
def te30 : TE := ⟨30, .other, false, 1, 8, .pointer none, some (.tree (.pair (.int .u8) (.pair .bool (.pair (.int .i64) .unit))))⟩
theorem te30_ok : TEok Try.prog te30 := ⟨TI.of Try.underlying30 rfl (by kernel_rfl), trivial, fun t h => by cases h; exact ⟨rfl, rfl, by decide, rfl⟩⟩
def te35 : TE := ⟨35, .struct [(0, 9), (1, 3), (2, 3), (3, 3), (4, 26), (5, 24)] none, true, 7, 80, .agg ⟨[.string ⟨⟨[]⟩⟩, .int .i64 0, .int .i64 0, .int .i64 0, .slice none 0 0, .int .i64 0, .int .i64 0]⟩, some (.pair .str (.pair (.int .i64) (.pair (.int .i64) (.pair (.int .i64) (.pair (.list (.pair (.int .u8) (.pair .bool (.pair (.int .i64) (.pair (.int .i64) (.pair (.int .i64) .unit)))))) (.pair (.pair (.int .i64) (.pair (.int .i64) .unit)) .unit))))))⟩
theorem te35_ok : TEok Try.prog te35 := ⟨TI.of Try.underlying35 rfl (by kernel_rfl), ⟨⟨_, Try.underlying35, rfl⟩, fun t h => by cases h⟩, fun t h => by cases h; exact ⟨rfl, rfl, by decide, rfl⟩⟩
def te39 : TE := ⟨39, .struct [(0, 24)] none, true, 2, 16, .agg ⟨[.int .i64 0, .int .i64 0]⟩, some (.pair (.pair (.int .i64) (.pair (.int .i64) .unit)) .unit)⟩
theorem te39_ok : TEok Try.prog te39 := ⟨TI.of Try.underlying39 rfl (by kernel_rfl), ⟨⟨_, Try.underlying39, rfl⟩, fun t h => by cases h⟩, fun t h => by cases h; exact ⟨rfl, rfl, by decide, rfl⟩⟩
def te42 : TE := ⟨42, .struct [(0, 9), (1, 3), (2, 3), (3, 3)] none, true, 4, 40, .agg ⟨[.string ⟨⟨[]⟩⟩, .int .i64 0, .int .i64 0, .int .i64 0]⟩, some (.pair .str (.pair (.int .i64) (.pair (.int .i64) (.pair (.int .i64) .unit))))⟩
theorem te42_ok : TEok Try.prog te42 := ⟨TI.of Try.underlying42 rfl (by kernel_rfl), ⟨⟨_, Try.underlying42, rfl⟩, fun t h => by cases h⟩, fun t h => by cases h; exact ⟨rfl, rfl, by decide, rfl⟩⟩
def te48 : TE := ⟨48, .struct [(0, 5), (1, 4), (2, 3), (3, 3), (4, 3)] none, true, 5, 32, .agg ⟨[.int .u8 0, .bool false, .int .i64 0, .int .i64 0, .int .i64 0]⟩, some (.pair (.int .u8) (.pair .bool (.pair (.int .i64) (.pair (.int .i64) (.pair (.int .i64) .unit)))))⟩
theorem te48_ok : TEok Try.prog te48 := ⟨TI.of Try.underlying48 rfl (by kernel_rfl), ⟨⟨_, Try.underlying48, rfl⟩, fun t h => by cases h⟩, fun t h => by cases h; exact ⟨rfl, rfl, by decide, rfl⟩⟩
def te49 : TE := ⟨49, .slice 30, false, 1, 24, .slice none 0 0, some (.list (.tree (.pair (.int .u8) (.pair .bool (.pair (.int .i64) .unit)))))⟩
theorem te49_ok : TEok Try.prog te49 := ⟨TI.of Try.underlying49 rfl (by kernel_rfl), Try.underlying49, fun t h => by cases h; exact ⟨rfl, rfl, by decide, rfl⟩⟩
def te51 : TE := ⟨51, .struct [(0, 5), (1, 4), (2, 3), (3, 49)] none, true, 4, 40, .agg ⟨[.int .u8 0, .bool false, .int .i64 0, .slice none 0 0]⟩, some (.pair (.int .u8) (.pair .bool (.pair (.int .i64) (.pair (.list (.tree (.pair (.int .u8) (.pair .bool (.pair (.int .i64) .unit))))) .unit))))⟩
theorem te51_ok : TEok Try.prog te51 := ⟨TI.of Try.underlying51 rfl (by kernel_rfl), ⟨⟨_, Try.underlying51, rfl⟩, fun t h => by cases h⟩, fun t h => by cases h; exact ⟨rfl, rfl, by decide, rfl⟩⟩
def TT : List TE := [te3, te4, te5, te9, te22, te24, te26, te30, te35, te39, te42, te48, te49, te51]
theorem TT_ok : TOK Try.prog TT := TOK.cons te3_ok (TOK.cons te4_ok (TOK.cons te5_ok (TOK.cons te9_ok (TOK.cons te22_ok (TOK.cons te24_ok (TOK.cons te26_ok (TOK.cons te30_ok (TOK.cons te35_ok (TOK.cons te39_ok (TOK.cons te42_ok (TOK.cons te48_ok (TOK.cons te49_ok (TOK.cons te51_ok (TOK.nil))))))))))))))

def branch_reader_now_sig : Shape := ⟨[(.pair .str (.pair (.int .i64) (.pair (.int .i64) (.pair (.int .i64) .unit))))], [(0, .addr 0)], []⟩
def branch_reader_now_out : Shape := ⟨[(.int .u8)], [(0, .v 0)], []⟩
noncomputable def branch_reader_now_ce : CE := ⟨18, branch_reader_now_sig, branch_reader_now_out, fun X => branch_reader_now X⟩
theorem branch_reader_now_ok : CE.ok Try.prog branch_reader_now_ce := CE.of (Γ := []) (by kernel_rfl) TT_ok (GOK.nil) ⟨[], [], [(1, [(0, 0), (0, 1), (0, 2), (0, 3), (0, 4), (0, 5), (0, 6), (0, 7), (0, 8), (0, 9)]), (2, [(0, 0), (0, 1), (0, 2), (0, 3), (0, 4), (0, 5), (0, 6), (0, 7), (0, 8), (0, 9)])], []⟩ Try.func18 rfl Try.ntmps18 (rs := [.tmp 2]) rfl (sig := branch_reader_now_sig) (out := branch_reader_now_out) rfl Try.call18 (fun X => by kernel_rfl)

def branch_reader_fail_sig : Shape := ⟨[(.pair .str (.pair (.int .i64) (.pair (.int .i64) (.pair (.int .i64) .unit)))), (.int .i64)], [(0, .addr 0), (1, .v 1)], []⟩
def branch_reader_fail_out : Shape := ⟨[], [], []⟩
noncomputable def branch_reader_fail_ce : CEp := ⟨11, branch_reader_fail_sig, branch_reader_fail_out, fun X => branch_reader_fail X.1 X.2⟩
theorem branch_reader_fail_ok : CEp.ok Try.prog 39 branch_reader_fail_ce := CEp.of (Γ := []) (Γp := []) (by kernel_rfl) TT_ok (GOK.nil) (GPOK.nil) ⟨[], [], [(2000000, [(0, 0), (0, 1), (0, 2), (0, 3), (0, 4), (0, 5), (0, 6), (6, 7), (2, 8)])], []⟩ Try.func11 rfl Try.ntmps11 (rs := []) rfl (sig := branch_reader_fail_sig) (out := branch_reader_fail_out) rfl Try.call11 (fun X => by kernel_rfl)

def branch_reader_counted_sig : Shape := ⟨[.str, (.int .i64), (.int .i64), (.int .i64)], [(0, .ptr 100000 0)], [(100000, .box 42 [.v 0, .v 1, .v 2, .v 3])]⟩
def branch_reader_counted_out : Shape := ⟨[.str, (.int .i64), (.int .i64), (.int .i64)], [], [(100000, .box 42 [.v 0, .v 1, .v 2, .v 3])]⟩
noncomputable def branch_reader_counted_ce : CEp := ⟨19, branch_reader_counted_sig, branch_reader_counted_out, fun X => branch_reader_counted X.1 X.2.1 X.2.2.1 X.2.2.2⟩
theorem branch_reader_counted_ok : CEp.ok Try.prog 39 branch_reader_counted_ce := CEp.of (Γ := []) (Γp := [branch_reader_fail_ce]) (by kernel_rfl) TT_ok (GOK.nil) (GPOK.cons branch_reader_fail_ok (GPOK.nil)) ⟨[], [], [(2000002, [(0, 0), (5, 1)])], []⟩ Try.func19 rfl Try.ntmps19 (rs := []) rfl (sig := branch_reader_counted_sig) (out := branch_reader_counted_out) rfl Try.call19 (fun X => by kernel_rfl)

def branch_reader_open_sig : Shape := ⟨[.str, (.int .i64), (.int .i64), (.int .i64)], [(0, .ptr 100000 0)], [(100000, .box 42 [.v 0, .v 1, .v 2, .v 3])]⟩
def branch_reader_open_out : Shape := ⟨[.str, (.int .i64), (.int .i64), (.int .i64)], [], [(100000, .box 42 [.v 0, .v 1, .v 2, .v 3])]⟩
noncomputable def branch_reader_open_ce : CEp := ⟨26, branch_reader_open_sig, branch_reader_open_out, fun X => branch_reader_open X.1 X.2.1 X.2.2.1 X.2.2.2⟩
theorem branch_reader_open_ok : CEp.ok Try.prog 39 branch_reader_open_ce := CEp.of (Γ := []) (Γp := [branch_reader_fail_ce]) (by kernel_rfl) TT_ok (GOK.nil) (GPOK.cons branch_reader_fail_ok (GPOK.nil)) ⟨[], [], [(2000001, [(0, 0), (5, 1)])], []⟩ Try.func26 rfl Try.ntmps26 (rs := []) rfl (sig := branch_reader_open_sig) (out := branch_reader_open_out) rfl Try.call26 (fun X => by kernel_rfl)

def branch_reader_want_sig : Shape := ⟨[(.int .u8), .str, (.int .i64), (.int .i64), (.int .i64)], [(0, .ptr 100000 0), (1, .v 0)], [(100000, .box 42 [.v 1, .v 2, .v 3, .v 4])]⟩
def branch_reader_want_out : Shape := ⟨[.str, (.int .i64), (.int .i64), (.int .i64)], [], [(100000, .box 42 [.v 0, .v 1, .v 2, .v 3])]⟩
noncomputable def branch_reader_want_ce : CEp := ⟨28, branch_reader_want_sig, branch_reader_want_out, fun X => branch_reader_want X.1 X.2.1 X.2.2.1 X.2.2.2.1 X.2.2.2.2⟩
theorem branch_reader_want_ok : CEp.ok Try.prog 39 branch_reader_want_ce := CEp.of (Γ := [branch_reader_now_ce]) (Γp := [branch_reader_fail_ce]) (by kernel_rfl) TT_ok (GOK.cons branch_reader_now_ok (GOK.nil)) (GPOK.cons branch_reader_fail_ok (GPOK.nil)) ⟨[], [], [(2000001, [(0, 0), (5, 1)])], []⟩ Try.func28 rfl Try.ntmps28 (rs := []) rfl (sig := branch_reader_want_sig) (out := branch_reader_want_out) rfl Try.call28 (fun X => by kernel_rfl)

def branch_reader_shut_sig : Shape := ⟨[.str, (.int .i64), (.int .i64), (.int .i64)], [(0, .ptr 100000 0)], [(100000, .box 42 [.v 0, .v 1, .v 2, .v 3])]⟩
def branch_reader_shut_out : Shape := ⟨[.str, (.int .i64), (.int .i64), (.int .i64)], [], [(100000, .box 42 [.v 0, .v 1, .v 2, .v 3])]⟩
noncomputable def branch_reader_shut_ce : CEp := ⟨27, branch_reader_shut_sig, branch_reader_shut_out, fun X => branch_reader_shut X.1 X.2.1 X.2.2.1 X.2.2.2⟩
theorem branch_reader_shut_ok : CEp.ok Try.prog 39 branch_reader_shut_ce := CEp.of (Γ := []) (Γp := [branch_reader_want_ce]) (by kernel_rfl) TT_ok (GOK.nil) (GPOK.cons branch_reader_want_ok (GPOK.nil)) ⟨[], [], [(2000000, [(0, 0), (5, 1)])], []⟩ Try.func27 rfl Try.ntmps27 (rs := []) rfl (sig := branch_reader_shut_sig) (out := branch_reader_shut_out) rfl Try.call27 (fun X => by kernel_rfl)

def branch_reader_part_sig : Shape := ⟨[.str, (.int .i64), (.int .i64), (.int .i64)], [(0, .ptr 100000 0)], [(100000, .box 42 [.v 0, .v 1, .v 2, .v 3])]⟩
def branch_reader_part_out : Shape := ⟨[(.tree (.pair (.int .u8) (.pair .bool (.pair (.int .i64) .unit)))), .str, (.int .i64), (.int .i64), (.int .i64)], [(0, .v 0)], [(100000, .box 42 [.v 1, .v 2, .v 3, .v 4])]⟩
noncomputable def branch_reader_part_ce : CEp := ⟨21, branch_reader_part_sig, branch_reader_part_out, LFix branch_reader_part_F⟩
def branch_reader_term_sig : Shape := ⟨[.str, (.int .i64), (.int .i64), (.int .i64)], [(0, .ptr 100000 0)], [(100000, .box 42 [.v 0, .v 1, .v 2, .v 3])]⟩
def branch_reader_term_out : Shape := ⟨[(.tree (.pair (.int .u8) (.pair .bool (.pair (.int .i64) .unit)))), .str, (.int .i64), (.int .i64), (.int .i64)], [(0, .v 0)], [(100000, .box 42 [.v 1, .v 2, .v 3, .v 4])]⟩
noncomputable def branch_reader_term_ce (rec : Tup branch_reader_part_sig.tys → Option (Tup branch_reader_part_out.tys ⊕ (Int × Int))) : CEp := ⟨17, branch_reader_term_sig, branch_reader_term_out, fun X => branch_reader_term (fun c c_1 c_2 c_3 => rec (c, c_1, c_2, c_3)) X.1 X.2.1 X.2.2.1 X.2.2.2⟩
theorem branch_reader_term_ok (rec : Tup branch_reader_part_sig.tys → Option (Tup branch_reader_part_out.tys ⊕ (Int × Int))) (hrec : CEp.ok Try.prog 39 ⟨21, branch_reader_part_sig, branch_reader_part_out, rec⟩) : CEp.ok Try.prog 39 (branch_reader_term_ce rec) := CEp.of (Γ := [branch_reader_now_ce]) (Γp := [⟨21, branch_reader_part_sig, branch_reader_part_out, rec⟩, branch_reader_counted_ce]) (by kernel_rfl) TT_ok (GOK.cons branch_reader_now_ok (GOK.nil)) (GPOK.cons hrec (GPOK.cons branch_reader_counted_ok (GPOK.nil))) ⟨[(2, ⟨⟨[(.tree (.pair (.int .u8) (.pair .bool (.pair (.int .i64) .unit)))), .str, (.int .i64), (.int .i64), (.int .i64)], [(0, .ptr 100000 0), (3, .v 0)], [(100000, .box 42 [.v 1, .v 2, .v 3, .v 4])]⟩, [6, 7, 8, 9, 10, 11, 12, 13, 14, 15, 16], [], [], 0, []⟩)], [], [(2000001, [(0, 0), (5, 1), (0, 2)]), (2000003, [(0, 0), (5, 1)]), (2000004, [(0, 0), (0, 1), (5, 2), (2, 3), (0, 4), (2, 5), (0, 6)])], []⟩ Try.func17 rfl Try.ntmps17 (rs := [.tmp 2]) rfl (sig := branch_reader_term_sig) (out := branch_reader_term_out) rfl Try.call17 (fun X => by kernel_rfl)
def branch_reader_whole_sig : Shape := ⟨[.str, (.int .i64), (.int .i64), (.int .i64)], [(0, .ptr 100000 0)], [(100000, .box 42 [.v 0, .v 1, .v 2, .v 3])]⟩
def branch_reader_whole_out : Shape := ⟨[(.tree (.pair (.int .u8) (.pair .bool (.pair (.int .i64) .unit)))), .str, (.int .i64), (.int .i64), (.int .i64)], [(0, .v 0)], [(100000, .box 42 [.v 1, .v 2, .v 3, .v 4])]⟩
noncomputable def branch_reader_whole_ce (rec : Tup branch_reader_part_sig.tys → Option (Tup branch_reader_part_out.tys ⊕ (Int × Int))) : CEp := ⟨10, branch_reader_whole_sig, branch_reader_whole_out, fun X => branch_reader_whole (fun c c_1 c_2 c_3 => rec (c, c_1, c_2, c_3)) X.1 X.2.1 X.2.2.1 X.2.2.2⟩
theorem branch_reader_whole_ok (rec : Tup branch_reader_part_sig.tys → Option (Tup branch_reader_part_out.tys ⊕ (Int × Int))) (hrec : CEp.ok Try.prog 39 ⟨21, branch_reader_part_sig, branch_reader_part_out, rec⟩) : CEp.ok Try.prog 39 (branch_reader_whole_ce rec) := CEp.of (Γ := [branch_reader_now_ce]) (Γp := [branch_reader_term_ce rec, branch_reader_counted_ce]) (by kernel_rfl) TT_ok (GOK.cons branch_reader_now_ok (GOK.nil)) (GPOK.cons (branch_reader_term_ok rec hrec) (GPOK.cons branch_reader_counted_ok (GPOK.nil))) ⟨[(2, ⟨⟨[(.tree (.pair (.int .u8) (.pair .bool (.pair (.int .i64) .unit)))), .str, (.int .i64), (.int .i64), (.int .i64)], [(0, .ptr 100000 0), (3, .v 0)], [(100000, .box 42 [.v 1, .v 2, .v 3, .v 4])]⟩, [6, 7, 8, 9, 10, 11, 12, 13, 14, 15, 16], [], [], 0, []⟩)], [], [(2000001, [(0, 0), (5, 1), (0, 2)]), (2000003, [(0, 0), (5, 1)]), (2000004, [(0, 0), (0, 1), (5, 2), (2, 3), (0, 4), (2, 5), (0, 6)])], []⟩ Try.func10 rfl Try.ntmps10 (rs := [.tmp 2]) rfl (sig := branch_reader_whole_sig) (out := branch_reader_whole_out) rfl Try.call10 (fun X => by kernel_rfl)
def branch_reader_ways_sig : Shape := ⟨[.bool, .str, (.int .i64), (.int .i64), (.int .i64)], [(0, .ptr 100000 0), (1, .v 0)], [(100000, .box 42 [.v 1, .v 2, .v 3, .v 4])]⟩
def branch_reader_ways_out : Shape := ⟨[(.tree (.pair (.int .u8) (.pair .bool (.pair (.int .i64) .unit)))), .str, (.int .i64), (.int .i64), (.int .i64)], [(0, .v 0)], [(100000, .box 42 [.v 1, .v 2, .v 3, .v 4])]⟩
noncomputable def branch_reader_ways_ce (rec : Tup branch_reader_part_sig.tys → Option (Tup branch_reader_part_out.tys ⊕ (Int × Int))) : CEp := ⟨25, branch_reader_ways_sig, branch_reader_ways_out, fun X => branch_reader_ways (fun c c_1 c_2 c_3 => rec (c, c_1, c_2, c_3)) X.1 X.2.1 X.2.2.1 X.2.2.2.1 X.2.2.2.2⟩
theorem branch_reader_ways_ok (rec : Tup branch_reader_part_sig.tys → Option (Tup branch_reader_part_out.tys ⊕ (Int × Int))) (hrec : CEp.ok Try.prog 39 ⟨21, branch_reader_part_sig, branch_reader_part_out, rec⟩) : CEp.ok Try.prog 39 (branch_reader_ways_ce rec) := CEp.of (Γ := [branch_reader_now_ce]) (Γp := [branch_reader_counted_ce, ⟨21, branch_reader_part_sig, branch_reader_part_out, rec⟩, branch_reader_open_ce, branch_reader_whole_ce rec, branch_reader_want_ce, branch_reader_shut_ce, branch_reader_fail_ce]) (by kernel_rfl) TT_ok (GOK.cons branch_reader_now_ok (GOK.nil)) (GPOK.cons branch_reader_counted_ok (GPOK.cons hrec (GPOK.cons branch_reader_open_ok (GPOK.cons (branch_reader_whole_ok rec hrec) (GPOK.cons branch_reader_want_ok (GPOK.cons branch_reader_shut_ok (GPOK.cons branch_reader_fail_ok (GPOK.nil)))))))) ⟨[], [(6, ⟨⟨[.bool], [(13, .v 0)], []⟩, [14, 15, 16], [], [], 0, []⟩)], [(2000001, [(0, 0), (5, 1)]), (2000008, [(0, 0), (0, 1), (0, 2), (5, 3), (2, 4), (0, 5), (2, 6), (0, 7)]), (2000010, [(0, 0), (5, 1)]), (2000011, [(0, 0), (5, 1), (0, 2)]), (2000012, [(0, 0), (5, 1)]), (2000013, [(0, 0), (5, 1), (0, 2)]), (2000014, [(0, 0), (5, 1)]), (2000016, [(0, 0), (5, 1)])], []⟩ Try.func25 rfl Try.ntmps25 (rs := [.tmp 4]) rfl (sig := branch_reader_ways_sig) (out := branch_reader_ways_out) rfl Try.call25 (fun X => by kernel_rfl)
theorem branch_reader_part_ok : CEp.ok Try.prog 39 branch_reader_part_ce := CEp.ofRec (Γ := [branch_reader_now_ce]) (Γp := fun rec => [branch_reader_counted_ce, branch_reader_ways_ce rec, branch_reader_open_ce, branch_reader_whole_ce rec, branch_reader_shut_ce, branch_reader_fail_ce]) (by kernel_rfl) TT_ok (GOK.cons branch_reader_now_ok (GOK.nil)) ⟨[], [(2, ⟨⟨[.bool], [(7, .v 0)], []⟩, [8, 9, 10, 11, 12, 13], [], [], 0, []⟩), (5, ⟨⟨[.bool], [(19, .v 0)], []⟩, [20, 21, 22, 23, 24, 25], [], [], 0, []⟩), (11, ⟨⟨[.bool], [(43, .v 0)], []⟩, [44, 45, 46, 47, 48, 49], [], [], 0, []⟩), (14, ⟨⟨[], [], []⟩, [2, 3, 5, 6, 7, 8, 9, 10, 11, 12, 13, 14, 15, 16, 17, 18, 19, 20, 21, 22, 23, 24, 25, 26, 27, 28, 29, 30, 31, 32, 33, 34, 35, 36, 37, 38, 39, 40, 41, 42, 43, 44, 45, 46, 47, 48, 49, 50, 51, 52, 53, 54, 55, 56, 57, 58], [], [], 0, []⟩)], [(2000003, [(0, 0), (5, 1)]), (2000006, [(0, 0), (5, 1)]), (2000009, [(0, 0), (5, 1)]), (2000010, [(0, 0), (5, 1), (2, 2), (0, 3), (2, 4), (0, 5)]), (2000012, [(0, 0), (0, 1), (0, 2), (5, 3), (0, 4)]), (2000014, [(0, 0), (5, 1)]), (2000015, [(0, 0), (5, 1)]), (2000016, [(0, 0), (5, 1), (0, 2)]), (2000017, [(0, 0), (5, 1)])], []⟩ Try.func21 rfl Try.ntmps21 (rs := [.tmp 2]) rfl (sig := branch_reader_part_sig) (out := branch_reader_part_out) rfl (fun rec hrec => (GPOK.cons branch_reader_counted_ok (GPOK.cons (branch_reader_ways_ok rec hrec) (GPOK.cons branch_reader_open_ok (GPOK.cons (branch_reader_whole_ok rec hrec) (GPOK.cons branch_reader_shut_ok (GPOK.cons branch_reader_fail_ok (GPOK.nil)))))))) Try.call21 (d := branch_reader_part_F) (fun rc X => by kernel_rfl)
noncomputable def branch_reader_term_c_ce : CEp := branch_reader_term_ce (LFix branch_reader_part_F)
theorem branch_reader_term_c_ok : CEp.ok Try.prog 39 branch_reader_term_c_ce := branch_reader_term_ok _ branch_reader_part_ok
noncomputable def branch_reader_whole_c_ce : CEp := branch_reader_whole_ce (LFix branch_reader_part_F)
theorem branch_reader_whole_c_ok : CEp.ok Try.prog 39 branch_reader_whole_c_ce := branch_reader_whole_ok _ branch_reader_part_ok
noncomputable def branch_reader_ways_c_ce : CEp := branch_reader_ways_ce (LFix branch_reader_part_F)
theorem branch_reader_ways_c_ok : CEp.ok Try.prog 39 branch_reader_ways_c_ce := branch_reader_ways_ok _ branch_reader_part_ok

def branch_parse_sig : Shape := ⟨[.str], [(0, .v 0)], []⟩
def branch_parse_out : Shape := ⟨[(.tree (.pair (.int .u8) (.pair .bool (.pair (.int .i64) .unit)))), (.pair (.int .i64) (.pair (.int .i64) .unit))], [(0, .v 0), (1, .v 1)], []⟩
noncomputable def branch_parse_ce : CE := ⟨6, branch_parse_sig, branch_parse_out, fun X => branch_parse X⟩
theorem branch_parse_tail (p : Int × Int) : evC TT [] [] 0 bothS ⟨[], [], [], [(7, .one 0 (.alt 0 1 (.leaf [(2, 2), (2, 3)]) (.alt 2 2 (.leaf [(0, 1), (2, 3)]) .stop)))]⟩ (closeTail (Try.f9.body.getD .skip)) (tailS 13 10 30 24 p) (tailK true 30 24) = bothS (some (p.1, p.2)) (some (p.1, p.2)) := by kernel_rfl
theorem branch_parse_idle (va vb : Value) (w : World) : CallsD Try.prog 9 #[va, vb] .returning w (fun e u w' => (∃ v, e = .returned v) ∧ u = .returning ∧ w' = w) := by
  refine callsD_of_wpS Try.func9 rfl fun c₀ cs hu => ?_
  apply wpS_seq
  apply wpS_region
  simp [wpOpsS, go_sem, recoverD, hu, Try.ntmps9, Exit.thenS]
  refine wpS_of_wp (wp_block (wp_seq (wp_region ?_)))
  simp [wpOps, go_sem]
  left
  refine wp_cond (t := true) (by simp [Act.eval, Array.replicate]) ?_
  simp only [if_true]
  refine wp_region ?_
  simp [wpOps, go_sem]
  left
  cases c₀
  simp_all [bodyPostS, results, Try.results9]
theorem branch_parse_caught (p : Int × Int) (w : World) (ba bb : Nat) (ca cb : Array Value) (hne : ba ≠ bb) (h1 : w.heap[ba]? = some (.cells ca 30 (0, 0))) (h2 : ca.size = 1) (h3 : w.heap[bb]? = some (.cells cb 24 (0, 0))) (h4 : cb.size = 2) :
    CallsD Try.prog 9 #[.pointer (some ⟨ba, 0, none⟩), .pointer (some ⟨bb, 0, none⟩)] (.panicking (pch 39 p)) w (fun e u w' => (∃ v, e = .returned v) ∧ settle u = .returning ∧
      (w'.os = w.os ∧ w'.tape = w.tape ∧ w'.output = w.output ∧ w.heap.size ≤ w'.heap.size) ∧ (∀ b, b < w.heap.size → b ≠ ba → b ≠ bb → w'.heap[b]? = w.heap[b]?) ∧
      w'.heap[ba]? = some (.cells #[zV true] 30 (0, 0)) ∧ w'.heap[bb]? = some (.cells #[.int .i64 p.1, .int .i64 p.2] 24 (0, 0))) := by
  refine callsD_of_wpS Try.func9 rfl fun c₀ cs hu => ?_
  apply wpS_seq
  apply wpS_region
  simp [wpOpsS, go_sem, recoverD, hu, Try.ntmps9, Exit.thenS, pch]
  refine wpS_of_wp (wp_block (wp_seq (wp_region ?_)))
  simp [wpOps, go_sem]
  left
  refine wp_cond (t := false) (by simp [Act.eval, Array.replicate]) ?_
  simp only [Bool.false_eq_true, if_false]
  refine wp_seq (wp_region ?_)
  simp [wpOps, go_sem, run_assert Try.underlying39]
  left
  left
  left
  refine wp_cond (t := true) (by simp [Act.eval, Array.replicate]) ?_
  simp only [if_true]
  refine wp_mono (tail_wp (by kernel_rfl) TT_ok (branch_parse_tail p) hne h1 h2 h3 h4 ?_ ?_ ?_ ?_ ?_) fun e a' w' hh => ?_
  · simp
  · rfl
  · simp [Array.replicate]
  · simp [Array.replicate]
  · simp [Array.replicate]
  · obtain ⟨rfl, hd, ho, hk, y1, y2⟩ := hh
    exact ⟨hd, _, rfl, .tuple #[], by simp [results, Try.results9], ⟨_, rfl⟩, rfl, ho, hk, y1, y2⟩
theorem branch_parse_catch : CatchOK Try.prog 39 9 30 24 (zV true) := ⟨Try.call9, branch_parse_idle, branch_parse_caught⟩
theorem branch_parse_ok : CE.ok Try.prog branch_parse_ce := CE.ofCatch (Γ := []) (Γp := [branch_reader_whole_c_ce, branch_reader_fail_ce]) (T := 39) (by kernel_rfl) TT_ok (GOK.nil) (GPOK.cons branch_reader_whole_c_ok (GPOK.cons branch_reader_fail_ok (GPOK.nil))) ⟨[], [], [(3000003, []), (2000005, [(0, 0), (5, 1), (2, 2)]), (2000007, [(0, 0), (5, 1)])], []⟩ Try.func6 rfl Try.ntmps6 (rs := [.cell 2 30, .cell 3 24]) rfl (sig := branch_parse_sig) (out := branch_parse_out) rfl Try.call6 (g := 9) (sa := 2) (sb := 3) (Ta := 30) (Tb := 24) (z := zE true) branch_parse_catch (zE_rel true) (fun X => by kernel_rfl)

def branch_Check_sig : Shape := ⟨[.str], [(0, .v 0)], []⟩
def branch_Check_out : Shape := ⟨[(.pair (.int .i64) (.pair (.int .i64) .unit))], [(0, .v 0)], []⟩
noncomputable def branch_Check_ce : CE := ⟨4, branch_Check_sig, branch_Check_out, fun X => branch_Check X⟩
theorem branch_Check_ok : CE.ok Try.prog branch_Check_ce := CE.of (Γ := [branch_parse_ce]) (by kernel_rfl) TT_ok (GOK.cons branch_parse_ok (GOK.nil)) ⟨[], [], [], []⟩ Try.func4 rfl Try.ntmps4 (rs := [.cell 2 24]) rfl (sig := branch_Check_sig) (out := branch_Check_out) rfl Try.call4 (fun X => by kernel_rfl)

def r35_Reader_ok_sig : Shape := ⟨[(.pair .str (.pair (.int .i64) (.pair (.int .i64) (.pair (.int .i64) (.pair (.list (.pair (.int .u8) (.pair .bool (.pair (.int .i64) (.pair (.int .i64) (.pair (.int .i64) .unit)))))) (.pair (.pair (.int .i64) (.pair (.int .i64) .unit)) .unit))))))], [(0, .addr 0)], []⟩
def r35_Reader_ok_out : Shape := ⟨[.bool], [(0, .v 0)], []⟩
noncomputable def r35_Reader_ok_ce : CE := ⟨14, r35_Reader_ok_sig, r35_Reader_ok_out, fun X => r35_Reader_ok X⟩
theorem r35_Reader_ok_ok : CE.ok Try.prog r35_Reader_ok_ce := CE.of (Γ := []) (by kernel_rfl) TT_ok (GOK.nil) ⟨[], [], [], []⟩ Try.func14 rfl Try.ntmps14 (rs := [.tmp 2]) rfl (sig := r35_Reader_ok_sig) (out := r35_Reader_ok_out) rfl Try.call14 (fun X => by kernel_rfl)

def r35_Reader_now_sig : Shape := ⟨[(.pair .str (.pair (.int .i64) (.pair (.int .i64) (.pair (.int .i64) (.pair (.list (.pair (.int .u8) (.pair .bool (.pair (.int .i64) (.pair (.int .i64) (.pair (.int .i64) .unit)))))) (.pair (.pair (.int .i64) (.pair (.int .i64) .unit)) .unit))))))], [(0, .addr 0)], []⟩
def r35_Reader_now_out : Shape := ⟨[(.int .u8)], [(0, .v 0)], []⟩
noncomputable def r35_Reader_now_ce : CE := ⟨13, r35_Reader_now_sig, r35_Reader_now_out, fun X => r35_Reader_now X⟩
theorem r35_Reader_now_ok : CE.ok Try.prog r35_Reader_now_ce := CE.of (Γ := []) (by kernel_rfl) TT_ok (GOK.nil) ⟨[], [], [(1, [(0, 0), (0, 1), (0, 2), (0, 3), (0, 4), (0, 5), (0, 6), (0, 7), (0, 8), (0, 9)]), (3, [(0, 0), (0, 1), (0, 2), (0, 3), (0, 4), (0, 5), (0, 6), (0, 7), (0, 8), (0, 9)])], []⟩ Try.func13 rfl Try.ntmps13 (rs := [.tmp 2]) rfl (sig := r35_Reader_now_sig) (out := r35_Reader_now_out) rfl Try.call13 (fun X => by kernel_rfl)

def r35_Reader_fail_sig : Shape := ⟨[(.int .i64), .str, (.int .i64), (.int .i64), (.int .i64), (.int .i64), (.int .i64), (.list (.pair (.int .u8) (.pair .bool (.pair (.int .i64) (.pair (.int .i64) (.pair (.int .i64) .unit))))))], [(0, .ptr 100000 0), (1, .v 0)], [(100000, .box 35 [.v 1, .v 2, .v 3, .v 4, .own 100001, .v 5, .v 6]), (100001, .arr 48 7)]⟩
def r35_Reader_fail_out : Shape := ⟨[.str, (.int .i64), (.int .i64), (.int .i64), (.list (.pair (.int .u8) (.pair .bool (.pair (.int .i64) (.pair (.int .i64) (.pair (.int .i64) .unit)))))), (.int .i64), (.int .i64)], [], [(100000, .box 35 [.v 0, .v 1, .v 2, .v 3, .own 90, .v 5, .v 6]), (90, .arr 48 4)]⟩
noncomputable def r35_Reader_fail_ce : CE := ⟨8, r35_Reader_fail_sig, r35_Reader_fail_out, fun X => r35_Reader_fail X.1 X.2.1 X.2.2.1 X.2.2.2.1 X.2.2.2.2.1 X.2.2.2.2.2.1 X.2.2.2.2.2.2.1 X.2.2.2.2.2.2.2⟩
theorem r35_Reader_fail_ok : CE.ok Try.prog r35_Reader_fail_ce := CE.of (Γ := []) (by kernel_rfl) TT_ok (GOK.nil) ⟨[], [], [], []⟩ Try.func8 rfl Try.ntmps8 (rs := []) rfl (sig := r35_Reader_fail_sig) (out := r35_Reader_fail_out) rfl Try.call8 (fun X => by kernel_rfl)

def r35_Reader_counted_sig : Shape := ⟨[.str, (.int .i64), (.int .i64), (.int .i64), (.int .i64), (.int .i64), (.list (.pair (.int .u8) (.pair .bool (.pair (.int .i64) (.pair (.int .i64) (.pair (.int .i64) .unit))))))], [(0, .ptr 100000 0)], [(100000, .box 35 [.v 0, .v 1, .v 2, .v 3, .own 100001, .v 4, .v 5]), (100001, .arr 48 6)]⟩
def r35_Reader_counted_out : Shape := ⟨[.str, (.int .i64), (.int .i64), (.int .i64), (.list (.pair (.int .u8) (.pair .bool (.pair (.int .i64) (.pair (.int .i64) (.pair (.int .i64) .unit)))))), (.int .i64), (.int .i64)], [], [(100000, .box 35 [.v 0, .v 1, .v 2, .v 3, .own 90, .v 5, .v 6]), (90, .arr 48 4)]⟩
noncomputable def r35_Reader_counted_ce : CE := ⟨15, r35_Reader_counted_sig, r35_Reader_counted_out, fun X => r35_Reader_counted X.1 X.2.1 X.2.2.1 X.2.2.2.1 X.2.2.2.2.1 X.2.2.2.2.2.1 X.2.2.2.2.2.2⟩
theorem r35_Reader_counted_ok : CE.ok Try.prog r35_Reader_counted_ce := CE.of (Γ := [r35_Reader_fail_ce]) (by kernel_rfl) TT_ok (GOK.cons r35_Reader_fail_ok (GOK.nil)) ⟨[], [], [], []⟩ Try.func15 rfl Try.ntmps15 (rs := []) rfl (sig := r35_Reader_counted_sig) (out := r35_Reader_counted_out) rfl Try.call15 (fun X => by kernel_rfl)

def r35_Reader_put_sig : Shape := ⟨[(.pair (.int .u8) (.pair .bool (.pair (.int .i64) (.pair (.int .i64) (.pair (.int .i64) .unit))))), .str, (.int .i64), (.int .i64), (.int .i64), (.int .i64), (.int .i64), (.list (.pair (.int .u8) (.pair .bool (.pair (.int .i64) (.pair (.int .i64) (.pair (.int .i64) .unit))))))], [(0, .ptr 100000 0), (1, .v 0)], [(100000, .box 35 [.v 1, .v 2, .v 3, .v 4, .own 100001, .v 5, .v 6]), (100001, .arr 48 7)]⟩
def r35_Reader_put_out : Shape := ⟨[(.int .i64), .str, (.int .i64), (.int .i64), (.int .i64), (.list (.pair (.int .u8) (.pair .bool (.pair (.int .i64) (.pair (.int .i64) (.pair (.int .i64) .unit)))))), (.int .i64), (.int .i64)], [(0, .v 0)], [(100000, .box 35 [.v 1, .v 2, .v 3, .v 4, .own 90, .v 6, .v 7]), (90, .arr 48 5)]⟩
noncomputable def r35_Reader_put_ce : CE := ⟨16, r35_Reader_put_sig, r35_Reader_put_out, fun X => r35_Reader_put X.1 X.2.1 X.2.2.1 X.2.2.2.1 X.2.2.2.2.1 X.2.2.2.2.2.1 X.2.2.2.2.2.2.1 X.2.2.2.2.2.2.2⟩
theorem r35_Reader_put_ok : CE.ok Try.prog r35_Reader_put_ce := CE.of (Γ := []) (by kernel_rfl) TT_ok (GOK.nil) ⟨[], [], [(1, [(0, 0), (0, 1), (0, 2), (0, 3), (0, 4), (0, 5), (1, 6), (2, 7), (0, 8), (0, 9), (2, 10)])], []⟩ Try.func16 rfl Try.ntmps16 (rs := [.tmp 4]) rfl (sig := r35_Reader_put_sig) (out := r35_Reader_put_out) rfl Try.call16 (fun X => by kernel_rfl)

def r35_Reader_open_sig : Shape := ⟨[.str, (.int .i64), (.int .i64), (.int .i64), (.int .i64), (.int .i64), (.list (.pair (.int .u8) (.pair .bool (.pair (.int .i64) (.pair (.int .i64) (.pair (.int .i64) .unit))))))], [(0, .ptr 100000 0)], [(100000, .box 35 [.v 0, .v 1, .v 2, .v 3, .own 100001, .v 4, .v 5]), (100001, .arr 48 6)]⟩
def r35_Reader_open_out : Shape := ⟨[.str, (.int .i64), (.int .i64), (.int .i64), (.list (.pair (.int .u8) (.pair .bool (.pair (.int .i64) (.pair (.int .i64) (.pair (.int .i64) .unit)))))), (.int .i64), (.int .i64)], [], [(100000, .box 35 [.v 0, .v 1, .v 2, .v 3, .own 90, .v 5, .v 6]), (90, .arr 48 4)]⟩
noncomputable def r35_Reader_open_ce : CE := ⟨23, r35_Reader_open_sig, r35_Reader_open_out, fun X => r35_Reader_open X.1 X.2.1 X.2.2.1 X.2.2.2.1 X.2.2.2.2.1 X.2.2.2.2.2.1 X.2.2.2.2.2.2⟩
theorem r35_Reader_open_ok : CE.ok Try.prog r35_Reader_open_ce := CE.of (Γ := [r35_Reader_fail_ce]) (by kernel_rfl) TT_ok (GOK.cons r35_Reader_fail_ok (GOK.nil)) ⟨[], [], [], []⟩ Try.func23 rfl Try.ntmps23 (rs := []) rfl (sig := r35_Reader_open_sig) (out := r35_Reader_open_out) rfl Try.call23 (fun X => by kernel_rfl)

def r35_Reader_want_sig : Shape := ⟨[(.int .u8), .str, (.int .i64), (.int .i64), (.int .i64), (.int .i64), (.int .i64), (.list (.pair (.int .u8) (.pair .bool (.pair (.int .i64) (.pair (.int .i64) (.pair (.int .i64) .unit))))))], [(0, .ptr 100000 0), (1, .v 0)], [(100000, .box 35 [.v 1, .v 2, .v 3, .v 4, .own 100001, .v 5, .v 6]), (100001, .arr 48 7)]⟩
def r35_Reader_want_out : Shape := ⟨[.str, (.int .i64), (.int .i64), (.int .i64), (.list (.pair (.int .u8) (.pair .bool (.pair (.int .i64) (.pair (.int .i64) (.pair (.int .i64) .unit)))))), (.int .i64), (.int .i64)], [], [(100000, .box 35 [.v 0, .v 1, .v 2, .v 3, .own 90, .v 5, .v 6]), (90, .arr 48 4)]⟩
noncomputable def r35_Reader_want_ce : CE := ⟨24, r35_Reader_want_sig, r35_Reader_want_out, fun X => r35_Reader_want X.1 X.2.1 X.2.2.1 X.2.2.2.1 X.2.2.2.2.1 X.2.2.2.2.2.1 X.2.2.2.2.2.2.1 X.2.2.2.2.2.2.2⟩
theorem r35_Reader_want_ok : CE.ok Try.prog r35_Reader_want_ce := CE.of (Γ := [r35_Reader_fail_ce, r35_Reader_now_ce]) (by kernel_rfl) TT_ok (GOK.cons r35_Reader_fail_ok (GOK.cons r35_Reader_now_ok (GOK.nil))) ⟨[], [], [], []⟩ Try.func24 rfl Try.ntmps24 (rs := []) rfl (sig := r35_Reader_want_sig) (out := r35_Reader_want_out) rfl Try.call24 (fun X => by kernel_rfl)

def r35_Reader_part_sig : Shape := ⟨[.str, (.int .i64), (.int .i64), (.int .i64), (.int .i64), (.int .i64), (.list (.pair (.int .u8) (.pair .bool (.pair (.int .i64) (.pair (.int .i64) (.pair (.int .i64) .unit))))))], [(0, .ptr 100000 0)], [(100000, .box 35 [.v 0, .v 1, .v 2, .v 3, .own 100001, .v 4, .v 5]), (100001, .arr 48 6)]⟩
def r35_Reader_part_out : Shape := ⟨[(.int .i64), .str, (.int .i64), (.int .i64), (.int .i64), (.list (.pair (.int .u8) (.pair .bool (.pair (.int .i64) (.pair (.int .i64) (.pair (.int .i64) .unit)))))), (.int .i64), (.int .i64)], [(0, .v 0)], [(100000, .box 35 [.v 1, .v 2, .v 3, .v 4, .own 90, .v 6, .v 7]), (90, .arr 48 5)]⟩
noncomputable def r35_Reader_part_ce : CE := ⟨20, r35_Reader_part_sig, r35_Reader_part_out, LFix r35_Reader_part_F⟩
def r35_Reader_term_sig : Shape := ⟨[.str, (.int .i64), (.int .i64), (.int .i64), (.int .i64), (.int .i64), (.list (.pair (.int .u8) (.pair .bool (.pair (.int .i64) (.pair (.int .i64) (.pair (.int .i64) .unit))))))], [(0, .ptr 100000 0)], [(100000, .box 35 [.v 0, .v 1, .v 2, .v 3, .own 100001, .v 4, .v 5]), (100001, .arr 48 6)]⟩
def r35_Reader_term_out : Shape := ⟨[(.int .i64), .str, (.int .i64), (.int .i64), (.int .i64), (.list (.pair (.int .u8) (.pair .bool (.pair (.int .i64) (.pair (.int .i64) (.pair (.int .i64) .unit)))))), (.int .i64), (.int .i64)], [(0, .v 0)], [(100000, .box 35 [.v 1, .v 2, .v 3, .v 4, .own 90, .v 6, .v 7]), (90, .arr 48 5)]⟩
noncomputable def r35_Reader_term_ce (rec : Tup r35_Reader_part_sig.tys → Option (Tup r35_Reader_part_out.tys)) : CE := ⟨12, r35_Reader_term_sig, r35_Reader_term_out, fun X => r35_Reader_term (fun c c_1 c_2 c_3 c_4 c_5 l => rec (c, c_1, c_2, c_3, c_4, c_5, l)) X.1 X.2.1 X.2.2.1 X.2.2.2.1 X.2.2.2.2.1 X.2.2.2.2.2.1 X.2.2.2.2.2.2⟩
theorem r35_Reader_term_ok (rec : Tup r35_Reader_part_sig.tys → Option (Tup r35_Reader_part_out.tys)) (hrec : CE.ok Try.prog ⟨20, r35_Reader_part_sig, r35_Reader_part_out, rec⟩) : CE.ok Try.prog (r35_Reader_term_ce rec) := CE.of (Γ := [⟨20, r35_Reader_part_sig, r35_Reader_part_out, rec⟩, r35_Reader_counted_ce, r35_Reader_put_ce, r35_Reader_now_ce, r35_Reader_ok_ce]) (by kernel_rfl) TT_ok (GOK.cons hrec (GOK.cons r35_Reader_counted_ok (GOK.cons r35_Reader_put_ok (GOK.cons r35_Reader_now_ok (GOK.cons r35_Reader_ok_ok (GOK.nil)))))) ⟨[(2, ⟨⟨[(.int .i64), .str, (.int .i64), (.int .i64), (.int .i64), (.int .i64), (.int .i64), (.list (.pair (.int .u8) (.pair .bool (.pair (.int .i64) (.pair (.int .i64) (.pair (.int .i64) .unit))))))], [(0, .ptr 100000 0), (3, .v 0)], [(100000, .box 35 [.v 1, .v 2, .v 3, .v 4, .own 90, .v 5, .v 6]), (90, .arr 48 7)]⟩, [2, 4, 5, 6, 9, 10, 11, 12, 13, 14, 15, 16, 17, 18, 19, 20, 21, 22, 23, 24, 25, 26, 27, 28], [], [], 91, []⟩)], [], [], []⟩ Try.func12 rfl Try.ntmps12 (rs := [.tmp 2]) rfl (sig := r35_Reader_term_sig) (out := r35_Reader_term_out) rfl Try.call12 (fun X => by kernel_rfl)
def r35_Reader_whole_sig : Shape := ⟨[.str, (.int .i64), (.int .i64), (.int .i64), (.int .i64), (.int .i64), (.list (.pair (.int .u8) (.pair .bool (.pair (.int .i64) (.pair (.int .i64) (.pair (.int .i64) .unit))))))], [(0, .ptr 100000 0)], [(100000, .box 35 [.v 0, .v 1, .v 2, .v 3, .own 100001, .v 4, .v 5]), (100001, .arr 48 6)]⟩
def r35_Reader_whole_out : Shape := ⟨[(.int .i64), .str, (.int .i64), (.int .i64), (.int .i64), (.list (.pair (.int .u8) (.pair .bool (.pair (.int .i64) (.pair (.int .i64) (.pair (.int .i64) .unit)))))), (.int .i64), (.int .i64)], [(0, .v 0)], [(100000, .box 35 [.v 1, .v 2, .v 3, .v 4, .own 90, .v 6, .v 7]), (90, .arr 48 5)]⟩
noncomputable def r35_Reader_whole_ce (rec : Tup r35_Reader_part_sig.tys → Option (Tup r35_Reader_part_out.tys)) : CE := ⟨7, r35_Reader_whole_sig, r35_Reader_whole_out, fun X => r35_Reader_whole (fun c c_1 c_2 c_3 c_4 c_5 l => rec (c, c_1, c_2, c_3, c_4, c_5, l)) X.1 X.2.1 X.2.2.1 X.2.2.2.1 X.2.2.2.2.1 X.2.2.2.2.2.1 X.2.2.2.2.2.2⟩
theorem r35_Reader_whole_ok (rec : Tup r35_Reader_part_sig.tys → Option (Tup r35_Reader_part_out.tys)) (hrec : CE.ok Try.prog ⟨20, r35_Reader_part_sig, r35_Reader_part_out, rec⟩) : CE.ok Try.prog (r35_Reader_whole_ce rec) := CE.of (Γ := [r35_Reader_term_ce rec, r35_Reader_counted_ce, r35_Reader_put_ce, r35_Reader_now_ce, r35_Reader_ok_ce]) (by kernel_rfl) TT_ok (GOK.cons (r35_Reader_term_ok rec hrec) (GOK.cons r35_Reader_counted_ok (GOK.cons r35_Reader_put_ok (GOK.cons r35_Reader_now_ok (GOK.cons r35_Reader_ok_ok (GOK.nil)))))) ⟨[(2, ⟨⟨[(.int .i64), .str, (.int .i64), (.int .i64), (.int .i64), (.int .i64), (.int .i64), (.list (.pair (.int .u8) (.pair .bool (.pair (.int .i64) (.pair (.int .i64) (.pair (.int .i64) .unit))))))], [(0, .ptr 100000 0), (3, .v 0)], [(100000, .box 35 [.v 1, .v 2, .v 3, .v 4, .own 90, .v 5, .v 6]), (90, .arr 48 7)]⟩, [2, 4, 5, 6, 9, 10, 11, 12, 13, 14, 15, 16, 17, 18, 19, 20, 21, 22, 23, 24, 25, 26, 27, 28], [], [], 91, []⟩)], [], [], []⟩ Try.func7 rfl Try.ntmps7 (rs := [.tmp 2]) rfl (sig := r35_Reader_whole_sig) (out := r35_Reader_whole_out) rfl Try.call7 (fun X => by kernel_rfl)
def r35_Reader_ways_sig : Shape := ⟨[.bool, .str, (.int .i64), (.int .i64), (.int .i64), (.int .i64), (.int .i64), (.list (.pair (.int .u8) (.pair .bool (.pair (.int .i64) (.pair (.int .i64) (.pair (.int .i64) .unit))))))], [(0, .ptr 100000 0), (1, .v 0)], [(100000, .box 35 [.v 1, .v 2, .v 3, .v 4, .own 100001, .v 5, .v 6]), (100001, .arr 48 7)]⟩
def r35_Reader_ways_out : Shape := ⟨[(.int .i64), .str, (.int .i64), (.int .i64), (.int .i64), (.list (.pair (.int .u8) (.pair .bool (.pair (.int .i64) (.pair (.int .i64) (.pair (.int .i64) .unit)))))), (.int .i64), (.int .i64)], [(0, .v 0)], [(100000, .box 35 [.v 1, .v 2, .v 3, .v 4, .own 90, .v 6, .v 7]), (90, .arr 48 5)]⟩
noncomputable def r35_Reader_ways_ce (rec : Tup r35_Reader_part_sig.tys → Option (Tup r35_Reader_part_out.tys)) : CE := ⟨22, r35_Reader_ways_sig, r35_Reader_ways_out, fun X => r35_Reader_ways (fun c c_1 c_2 c_3 c_4 c_5 l => rec (c, c_1, c_2, c_3, c_4, c_5, l)) X.1 X.2.1 X.2.2.1 X.2.2.2.1 X.2.2.2.2.1 X.2.2.2.2.2.1 X.2.2.2.2.2.2.1 X.2.2.2.2.2.2.2⟩
theorem r35_Reader_ways_ok (rec : Tup r35_Reader_part_sig.tys → Option (Tup r35_Reader_part_out.tys)) (hrec : CE.ok Try.prog ⟨20, r35_Reader_part_sig, r35_Reader_part_out, rec⟩) : CE.ok Try.prog (r35_Reader_ways_ce rec) := CE.of (Γ := [r35_Reader_counted_ce, ⟨20, r35_Reader_part_sig, r35_Reader_part_out, rec⟩, r35_Reader_put_ce, r35_Reader_fail_ce, r35_Reader_open_ce, r35_Reader_whole_ce rec, r35_Reader_want_ce, r35_Reader_now_ce]) (by kernel_rfl) TT_ok (GOK.cons r35_Reader_counted_ok (GOK.cons hrec (GOK.cons r35_Reader_put_ok (GOK.cons r35_Reader_fail_ok (GOK.cons r35_Reader_open_ok (GOK.cons (r35_Reader_whole_ok rec hrec) (GOK.cons r35_Reader_want_ok (GOK.cons r35_Reader_now_ok (GOK.nil))))))))) ⟨[], [(3, ⟨⟨[.bool], [(22, .v 0)], []⟩, [13, 14, 15, 16, 17, 18, 19, 20, 21], [], [90], 91, []⟩)], [], []⟩ Try.func22 rfl Try.ntmps22 (rs := [.tmp 4]) rfl (sig := r35_Reader_ways_sig) (out := r35_Reader_ways_out) rfl Try.call22 (fun X => by kernel_rfl)
theorem r35_Reader_part_ok : CE.ok Try.prog r35_Reader_part_ce := CE.ofRecM (Γ := fun rec => [r35_Reader_counted_ce, r35_Reader_put_ce, r35_Reader_ways_ce rec, r35_Reader_fail_ce, r35_Reader_open_ce, r35_Reader_whole_ce rec, r35_Reader_want_ce, r35_Reader_ok_ce, r35_Reader_now_ce]) (by kernel_rfl) TT_ok ⟨[], [(5, ⟨⟨[.bool], [(18, .v 0)], []⟩, [13, 14, 15, 16, 17], [], [], 0, []⟩), (8, ⟨⟨[.bool], [(30, .v 0)], []⟩, [25, 26, 27, 28, 29], [], [], 0, []⟩), (15, ⟨⟨[.bool], [(54, .v 0)], []⟩, [49, 50, 51, 52, 53], [], [], 0, []⟩)], [], []⟩ Try.func20 rfl Try.ntmps20 (rs := [.tmp 2]) rfl (sig := r35_Reader_part_sig) (out := r35_Reader_part_out) rfl (fun rec hrec => (GOK.cons r35_Reader_counted_ok (GOK.cons r35_Reader_put_ok (GOK.cons (r35_Reader_ways_ok rec hrec) (GOK.cons r35_Reader_fail_ok (GOK.cons r35_Reader_open_ok (GOK.cons (r35_Reader_whole_ok rec hrec) (GOK.cons r35_Reader_want_ok (GOK.cons r35_Reader_ok_ok (GOK.cons r35_Reader_now_ok (GOK.nil))))))))))) Try.call20 (d := r35_Reader_part_F) (fun rc X => by kernel_rfl)
noncomputable def r35_Reader_term_c_ce : CE := r35_Reader_term_ce (LFix r35_Reader_part_F)
theorem r35_Reader_term_c_ok : CE.ok Try.prog r35_Reader_term_c_ce := r35_Reader_term_ok _ r35_Reader_part_ok
noncomputable def r35_Reader_whole_c_ce : CE := r35_Reader_whole_ce (LFix r35_Reader_part_F)
theorem r35_Reader_whole_c_ok : CE.ok Try.prog r35_Reader_whole_c_ce := r35_Reader_whole_ok _ r35_Reader_part_ok
noncomputable def r35_Reader_ways_c_ce : CE := r35_Reader_ways_ce (LFix r35_Reader_part_F)
theorem r35_Reader_ways_c_ok : CE.ok Try.prog r35_Reader_ways_c_ce := r35_Reader_ways_ok _ r35_Reader_part_ok

def r35_Parse_sig : Shape := ⟨[.str], [(0, .v 0)], []⟩
def r35_Parse_out : Shape := ⟨[(.int .i64), (.pair (.int .i64) (.pair (.int .i64) .unit)), (.list (.pair (.int .u8) (.pair .bool (.pair (.int .i64) (.pair (.int .i64) (.pair (.int .i64) .unit))))))], [(0, .own 0), (1, .v 0), (2, .v 1)], [(0, .arr 48 2)]⟩
noncomputable def r35_Parse_ce : CE := ⟨5, r35_Parse_sig, r35_Parse_out, fun X => r35_Parse X⟩
theorem r35_Parse_ok : CE.ok Try.prog r35_Parse_ce := CE.of (Γ := [r35_Reader_whole_c_ce, r35_Reader_fail_ce]) (by kernel_rfl) TT_ok (GOK.cons r35_Reader_whole_c_ok (GOK.cons r35_Reader_fail_ok (GOK.nil))) ⟨[], [], [(8, [(0, 0), (0, 1), (0, 2), (0, 3), (0, 4), (0, 5), (2, 6)])], []⟩ Try.func5 rfl Try.ntmps5 (rs := [.tmp 2, .tmp 3, .cell 4 24]) rfl (sig := r35_Parse_sig) (out := r35_Parse_out) rfl Try.call5 (fun X => by kernel_rfl)

def law_BranchReads_sig : Shape := ⟨[.str], [(0, .v 0)], []⟩
def law_BranchReads_out : Shape := ⟨[.bool], [(0, .v 0)], []⟩
noncomputable def law_BranchReads_ce : CE := ⟨3, law_BranchReads_sig, law_BranchReads_out, fun X => law_BranchReads X⟩
theorem law_BranchReads_ok : CE.ok Try.prog law_BranchReads_ce := CE.of (Γ := [branch_Check_ce, r35_Parse_ce]) (by kernel_rfl) TT_ok (GOK.cons branch_Check_ok (GOK.cons r35_Parse_ok (GOK.nil))) ⟨[], [], [], []⟩ Try.func3 rfl Try.ntmps3 (rs := [.tmp 2]) rfl (sig := law_BranchReads_sig) (out := law_BranchReads_out) rfl Try.call3 (fun X => by kernel_rfl)

end Go.Proofs.Ytbiecnnpmnlchaa.branchReadsW
