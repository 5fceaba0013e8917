/- That the functions of 'TimeReads' compute so. -/
import Derived.Test.YtdobpnnpfehjnaaTimeReadsD
import Derived.Test.YtdobpnnpfehjnaaProg
import Derived.KernelRfl
set_option maxHeartbeats 1000000
set_option maxRecDepth 20000
set_option linter.unusedSimpArgs false
set_option linter.unusedVariables false
set_option linter.unusedSectionVars false
namespace Go.Proofs.Ytdobpnnpfehjnaa.timeReadsW
open Go Go.Ab
theorem te3_sz : SzT Try.prog 3 ((.int .i64)) := SzT.ofTI (dsc := false) (size := 1) (bytes := 8) (z := .int .i64 0) (TI.of Try.underlying3 rfl (by kernel_rfl)) rfl rfl
theorem te22_sz : SzT Try.prog 22 ((.int .i64)) := SzT.ofTI (dsc := false) (size := 1) (bytes := 8) (z := .int .i64 0) (TI.of Try.underlying22 rfl (by kernel_rfl)) rfl rfl
theorem te24_sz : SzT Try.prog 24 ((.pair (.int .i64) (.pair (.int .i64) .unit))) := SzT.ofTI (dsc := true) (size := 2) (bytes := 16) (z := .agg ⟨[.int .i64 0, .int .i64 0]⟩) (TI.of Try.underlying24 rfl (by kernel_rfl)) rfl rfl
def te3 : TE := ⟨3, .int .i64, false, 1, 8, .int .i64 0, some (.int .i64)⟩
theorem te3_ok : TEok Try.prog te3 := ⟨TI.of Try.underlying3 rfl (by kernel_rfl), Try.underlying3, fun t h => by cases h; exact ⟨rfl, rfl, by decide, rfl⟩⟩
def te4 : TE := ⟨4, .bool, false, 1, 1, .bool false, some .bool⟩
theorem te4_ok : TEok Try.prog te4 := ⟨TI.of Try.underlying4 rfl (by kernel_rfl), Try.underlying4, fun t h => by cases h; exact ⟨rfl, rfl, by decide, rfl⟩⟩
def te5 : TE := ⟨5, .int .u8, false, 1, 1, .int .u8 0, some (.int .u8)⟩
theorem te5_ok : TEok Try.prog te5 := ⟨TI.of Try.underlying5 rfl (by kernel_rfl), Try.underlying5, fun t h => by cases h; exact ⟨rfl, rfl, by decide, rfl⟩⟩
def te9 : TE := ⟨9, .str, false, 1, 16, .string ⟨⟨[]⟩⟩, some .str⟩
theorem te9_ok : TEok Try.prog te9 := ⟨TI.of Try.underlying9 rfl (by kernel_rfl), Try.underlying9, fun t h => by cases h; exact ⟨rfl, rfl, by decide, rfl⟩⟩
def te22 : TE := ⟨22, .int .i64, false, 1, 8, .int .i64 0, some (.int .i64)⟩
theorem te22_ok : TEok Try.prog te22 := ⟨TI.of Try.underlying22 rfl (by kernel_rfl), Try.underlying22, fun t h => by cases h; exact ⟨rfl, rfl, by decide, rfl⟩⟩
def te24 : TE := ⟨24, .struct [(0, 22), (1, 3)] (some (.pair (.int .i64) (.pair (.int .i64) .unit))), true, 2, 16, .agg ⟨[.int .i64 0, .int .i64 0]⟩, some (.pair (.int .i64) (.pair (.int .i64) .unit))⟩
theorem te24_ok : TEok Try.prog te24 := ⟨TI.of Try.underlying24 rfl (by kernel_rfl), ⟨⟨_, Try.underlying24, rfl⟩, fun t h => by cases h; exact ⟨rfl, rfl, (KeyT.struct te24_sz Try.underlying24 (by kernel_rfl) (KFs.cons (by decide) rfl (KeyT.int te22_sz Try.underlying22) (KFs.cons (by decide) rfl (KeyT.int te3_sz Try.underlying3) KFs.nil))), by kernel_rfl⟩⟩, fun t h => by cases h; exact ⟨rfl, rfl, by decide, rfl⟩⟩
def te26 : TE := ⟨26, .slice 51, false, 1, 24, .slice none 0 0, some (.list (.pair (.int .u8) (.pair (.int .i64) (.pair (.int .i64) .unit))))⟩
theorem te26_ok : TEok Try.prog te26 := ⟨TI.of Try.underlying26 rfl (by kernel_rfl), Try.underlying26, fun t h => by cases h; exact ⟨rfl, rfl, by decide, rfl⟩⟩
def te30 : TE := ⟨30, .slice 49, false, 1, 24, .slice none 0 0, some (.list (.pair (.int .i64) (.pair (.int .i64) (.pair (.int .i64) .unit))))⟩
theorem te30_ok : TEok Try.prog te30 := ⟨TI.of Try.underlying30 rfl (by kernel_rfl), Try.underlying30, fun t h => by cases h; exact ⟨rfl, rfl, by decide, rfl⟩⟩
def te35 : TE := ⟨35, .struct [(0, 9), (1, 3), (2, 3), (3, 3), (4, 3), (5, 26), (6, 24)] none, true, 8, 88, .agg ⟨[.string ⟨⟨[]⟩⟩, .int .i64 0, .int .i64 0, .int .i64 0, .int .i64 0, .slice none 0 0, .int .i64 0, .int .i64 0]⟩, some (.pair .str (.pair (.int .i64) (.pair (.int .i64) (.pair (.int .i64) (.pair (.int .i64) (.pair (.list (.pair (.int .u8) (.pair (.int .i64) (.pair (.int .i64) .unit)))) (.pair (.pair (.int .i64) (.pair (.int .i64) .unit)) .unit)))))))⟩
theorem te35_ok : TEok Try.prog te35 := ⟨TI.of Try.underlying35 rfl (by kernel_rfl), ⟨⟨_, Try.underlying35, rfl⟩, fun t h => by cases h⟩, fun t h => by cases h; exact ⟨rfl, rfl, by decide, rfl⟩⟩
def te39 : TE := ⟨39, .struct [(0, 24)] none, true, 2, 16, .agg ⟨[.int .i64 0, .int .i64 0]⟩, some (.pair (.pair (.int .i64) (.pair (.int .i64) .unit)) .unit)⟩
theorem te39_ok : TEok Try.prog te39 := ⟨TI.of Try.underlying39 rfl (by kernel_rfl), ⟨⟨_, Try.underlying39, rfl⟩, fun t h => by cases h⟩, fun t h => by cases h; exact ⟨rfl, rfl, by decide, rfl⟩⟩
def te42 : TE := ⟨42, .struct [(0, 9), (1, 3), (2, 3), (3, 3), (4, 3), (5, 30)] none, true, 6, 72, .agg ⟨[.string ⟨⟨[]⟩⟩, .int .i64 0, .int .i64 0, .int .i64 0, .int .i64 0, .slice none 0 0]⟩, some (.pair .str (.pair (.int .i64) (.pair (.int .i64) (.pair (.int .i64) (.pair (.int .i64) (.pair (.list (.pair (.int .i64) (.pair (.int .i64) (.pair (.int .i64) .unit)))) .unit))))))⟩
theorem te42_ok : TEok Try.prog te42 := ⟨TI.of Try.underlying42 rfl (by kernel_rfl), ⟨⟨_, Try.underlying42, rfl⟩, fun t h => by cases h⟩, fun t h => by cases h; exact ⟨rfl, rfl, by decide, rfl⟩⟩
def te49 : TE := ⟨49, .struct [(0, 3), (1, 3), (2, 3)] none, true, 3, 24, .agg ⟨[.int .i64 0, .int .i64 0, .int .i64 0]⟩, some (.pair (.int .i64) (.pair (.int .i64) (.pair (.int .i64) .unit)))⟩
theorem te49_ok : TEok Try.prog te49 := ⟨TI.of Try.underlying49 rfl (by kernel_rfl), ⟨⟨_, Try.underlying49, rfl⟩, fun t h => by cases h⟩, fun t h => by cases h; exact ⟨rfl, rfl, by decide, rfl⟩⟩
def te51 : TE := ⟨51, .struct [(0, 5), (1, 3), (2, 3)] none, true, 3, 24, .agg ⟨[.int .u8 0, .int .i64 0, .int .i64 0]⟩, some (.pair (.int .u8) (.pair (.int .i64) (.pair (.int .i64) .unit)))⟩
theorem te51_ok : TEok Try.prog te51 := ⟨TI.of Try.underlying51 rfl (by kernel_rfl), ⟨⟨_, Try.underlying51, rfl⟩, fun t h => by cases h⟩, fun t h => by cases h; exact ⟨rfl, rfl, by decide, rfl⟩⟩
def TT : List TE := [te3, te4, te5, te9, te22, te24, te26, te30, te35, te39, te42, te49, te51]
theorem TT_ok : TOK Try.prog TT := TOK.cons te3_ok (TOK.cons te4_ok (TOK.cons te5_ok (TOK.cons te9_ok (TOK.cons te22_ok (TOK.cons te24_ok (TOK.cons te26_ok (TOK.cons te30_ok (TOK.cons te35_ok (TOK.cons te39_ok (TOK.cons te42_ok (TOK.cons te49_ok (TOK.cons te51_ok (TOK.nil)))))))))))))

def time_reader_now_sig : Shape := ⟨[(.pair .str (.pair (.int .i64) (.pair (.int .i64) (.pair (.int .i64) (.pair (.int .i64) (.pair (.list (.pair (.int .i64) (.pair (.int .i64) (.pair (.int .i64) .unit)))) .unit))))))], [(0, .addr 0)], []⟩
def time_reader_now_out : Shape := ⟨[(.int .u8)], [(0, .v 0)], []⟩
noncomputable def time_reader_now_ce : CE := ⟨18, time_reader_now_sig, time_reader_now_out, fun X => time_reader_now X⟩
theorem time_reader_now_ok : CE.ok Try.prog time_reader_now_ce := CE.of (Γ := []) (by kernel_rfl) TT_ok (GOK.nil) ⟨[], [], [(1, [(0, 0), (0, 1), (0, 2), (0, 3), (0, 4), (0, 5), (0, 6), (0, 7), (0, 8), (0, 9)]), (3, [(0, 0), (0, 1), (0, 2), (0, 3), (0, 4), (0, 5), (0, 6), (0, 7), (0, 8), (0, 9)])], []⟩ Try.func18 rfl Try.ntmps18 (rs := [.tmp 2]) rfl (sig := time_reader_now_sig) (out := time_reader_now_out) rfl Try.call18 (fun X => by kernel_rfl)

def time_ofTime_sig : Shape := ⟨[(.int .u8)], [(0, .v 0)], []⟩
def time_ofTime_out : Shape := ⟨[.bool], [(0, .v 0)], []⟩
noncomputable def time_ofTime_ce : CE := ⟨23, time_ofTime_sig, time_ofTime_out, fun X => time_ofTime X⟩
theorem time_ofTime_ok : CE.ok Try.prog time_ofTime_ce := CE.of (Γ := []) (by kernel_rfl) TT_ok (GOK.nil) ⟨[], [], [], []⟩ Try.func23 rfl Try.ntmps23 (rs := [.tmp 2]) rfl (sig := time_ofTime_sig) (out := time_ofTime_out) rfl Try.call23 (fun X => by kernel_rfl)

def time_reader_fail_sig : Shape := ⟨[(.pair .str (.pair (.int .i64) (.pair (.int .i64) (.pair (.int .i64) (.pair (.int .i64) (.pair (.list (.pair (.int .i64) (.pair (.int .i64) (.pair (.int .i64) .unit)))) .unit)))))), (.int .i64)], [(0, .addr 0), (1, .v 1)], []⟩
def time_reader_fail_out : Shape := ⟨[], [], []⟩
noncomputable def time_reader_fail_ce : CEp := ⟨11, time_reader_fail_sig, time_reader_fail_out, fun X => time_reader_fail X.1 X.2⟩
theorem time_reader_fail_ok : CEp.ok Try.prog 39 time_reader_fail_ce := CEp.of (Γ := []) (Γp := []) (by kernel_rfl) TT_ok (GOK.nil) (GPOK.nil) ⟨[], [], [(2000000, [(0, 0), (0, 1), (0, 2), (0, 3), (0, 4), (0, 5), (0, 6), (6, 7), (2, 8)])], []⟩ Try.func11 rfl Try.ntmps11 (rs := []) rfl (sig := time_reader_fail_sig) (out := time_reader_fail_out) rfl Try.call11 (fun X => by kernel_rfl)

def time_reader_counted_sig : Shape := ⟨[.str, (.int .i64), (.int .i64), (.int .i64), (.int .i64), (.list (.pair (.int .i64) (.pair (.int .i64) (.pair (.int .i64) .unit))))], [(0, .ptr 100000 0)], [(100000, .box 42 [.v 0, .v 1, .v 2, .v 3, .v 4, .own 100001]), (100001, .arr 49 5)]⟩
def time_reader_counted_out : Shape := ⟨[.str, (.int .i64), (.int .i64), (.int .i64), (.int .i64), (.list (.pair (.int .i64) (.pair (.int .i64) (.pair (.int .i64) .unit))))], [], [(100000, .box 42 [.v 0, .v 1, .v 2, .v 3, .v 4, .own 100]), (100, .arr 49 5)]⟩
noncomputable def time_reader_counted_ce : CEp := ⟨19, time_reader_counted_sig, time_reader_counted_out, fun X => time_reader_counted X.1 X.2.1 X.2.2.1 X.2.2.2.1 X.2.2.2.2.1 X.2.2.2.2.2⟩
theorem time_reader_counted_ok : CEp.ok Try.prog 39 time_reader_counted_ce := CEp.of (Γ := [time_reader_now_ce, time_ofTime_ce]) (Γp := [time_reader_fail_ce]) (by kernel_rfl) TT_ok (GOK.cons time_reader_now_ok (GOK.cons time_ofTime_ok (GOK.nil))) (GPOK.cons time_reader_fail_ok (GPOK.nil)) ⟨[], [(3, ⟨⟨[.str, (.int .i64), (.int .i64), (.int .i64), (.int .i64), (.list (.pair (.int .i64) (.pair (.int .i64) (.pair (.int .i64) .unit))))], [(0, .ptr 100000 0)], [(100000, .box 42 [.v 0, .v 1, .v 2, .v 3, .v 4, .own 100001]), (100001, .arr 49 5)]⟩, [13, 14, 15, 16, 17, 18, 19, 20], [], [], 0, []⟩), (4, ⟨⟨[.bool], [(35, .v 0)], []⟩, [21, 22, 23, 24, 25, 26, 27, 28, 29, 30, 31, 32, 33, 34], [], [], 0, []⟩)], [(2000005, [(0, 0), (5, 1)])], []⟩ Try.func19 rfl Try.ntmps19 (rs := []) rfl (sig := time_reader_counted_sig) (out := time_reader_counted_out) rfl Try.call19 (fun X => by kernel_rfl)

def time_reader_put_sig : Shape := ⟨[(.pair (.int .i64) (.pair (.int .i64) (.pair (.int .i64) .unit))), .str, (.int .i64), (.int .i64), (.int .i64), (.int .i64), (.list (.pair (.int .i64) (.pair (.int .i64) (.pair (.int .i64) .unit))))], [(0, .ptr 100000 0), (1, .v 0)], [(100000, .box 42 [.v 1, .v 2, .v 3, .v 4, .v 5, .own 100001]), (100001, .arr 49 6)]⟩
def time_reader_put_out : Shape := ⟨[(.int .i64), .str, (.int .i64), (.int .i64), (.int .i64), (.int .i64), (.list (.pair (.int .i64) (.pair (.int .i64) (.pair (.int .i64) .unit))))], [(0, .v 0)], [(100000, .box 42 [.v 1, .v 2, .v 3, .v 4, .v 5, .own 100]), (100, .arr 49 6)]⟩
noncomputable def time_reader_put_ce : CE := ⟨20, time_reader_put_sig, time_reader_put_out, fun X => time_reader_put X.1 X.2.1 X.2.2.1 X.2.2.2.1 X.2.2.2.2.1 X.2.2.2.2.2.1 X.2.2.2.2.2.2⟩
theorem time_reader_put_ok : CE.ok Try.prog time_reader_put_ce := CE.of (Γ := []) (by kernel_rfl) TT_ok (GOK.nil) ⟨[], [], [(1, [(0, 0), (0, 1), (0, 2), (0, 3), (0, 4), (0, 5), (1, 6), (2, 7), (0, 8), (0, 9), (2, 10)])], []⟩ Try.func20 rfl Try.ntmps20 (rs := [.tmp 4]) rfl (sig := time_reader_put_sig) (out := time_reader_put_out) rfl Try.call20 (fun X => by kernel_rfl)

def time_reader_no_sig : Shape := ⟨[(.int .i64), .str, (.int .i64), (.int .i64), (.int .i64), (.int .i64), (.list (.pair (.int .i64) (.pair (.int .i64) (.pair (.int .i64) .unit))))], [(0, .ptr 100000 0), (1, .v 0)], [(100000, .box 42 [.v 1, .v 2, .v 3, .v 4, .v 5, .own 100001]), (100001, .arr 49 6)]⟩
def time_reader_no_out : Shape := ⟨[(.int .i64), .str, (.int .i64), (.int .i64), (.int .i64), (.int .i64), (.list (.pair (.int .i64) (.pair (.int .i64) (.pair (.int .i64) .unit))))], [(0, .v 0)], [(100000, .box 42 [.v 1, .v 2, .v 3, .v 4, .v 5, .own 100]), (100, .arr 49 6)]⟩
noncomputable def time_reader_no_ce : CE := ⟨26, time_reader_no_sig, time_reader_no_out, fun X => time_reader_no X.1 X.2.1 X.2.2.1 X.2.2.2.1 X.2.2.2.2.1 X.2.2.2.2.2.1 X.2.2.2.2.2.2⟩
theorem time_reader_no_ok : CE.ok Try.prog time_reader_no_ce := CE.of (Γ := [time_reader_put_ce]) (by kernel_rfl) TT_ok (GOK.cons time_reader_put_ok (GOK.nil)) ⟨[], [], [], []⟩ Try.func26 rfl Try.ntmps26 (rs := [.tmp 4]) rfl (sig := time_reader_no_sig) (out := time_reader_no_out) rfl Try.call26 (fun X => by kernel_rfl)

def time_reader_always_sig : Shape := ⟨[.str, (.int .i64), (.int .i64), (.int .i64), (.int .i64), (.list (.pair (.int .i64) (.pair (.int .i64) (.pair (.int .i64) .unit))))], [(0, .ptr 100000 0)], [(100000, .box 42 [.v 0, .v 1, .v 2, .v 3, .v 4, .own 100001]), (100001, .arr 49 5)]⟩
def time_reader_always_out : Shape := ⟨[(.int .i64), .str, (.int .i64), (.int .i64), (.int .i64), (.int .i64), (.list (.pair (.int .i64) (.pair (.int .i64) (.pair (.int .i64) .unit))))], [(0, .v 0)], [(100000, .box 42 [.v 1, .v 2, .v 3, .v 4, .v 5, .own 100]), (100, .arr 49 6)]⟩
noncomputable def time_reader_always_ce : CE := ⟨27, time_reader_always_sig, time_reader_always_out, fun X => time_reader_always X.1 X.2.1 X.2.2.1 X.2.2.2.1 X.2.2.2.2.1 X.2.2.2.2.2⟩
theorem time_reader_always_ok : CE.ok Try.prog time_reader_always_ce := CE.of (Γ := [time_reader_put_ce, time_reader_no_ce]) (by kernel_rfl) TT_ok (GOK.cons time_reader_put_ok (GOK.cons time_reader_no_ok (GOK.nil))) ⟨[], [], [], []⟩ Try.func27 rfl Try.ntmps27 (rs := [.tmp 2]) rfl (sig := time_reader_always_sig) (out := time_reader_always_out) rfl Try.call27 (fun X => by kernel_rfl)

def time_reader_formula_sig : Shape := ⟨[.str, (.int .i64), (.int .i64), (.int .i64), (.int .i64), (.list (.pair (.int .i64) (.pair (.int .i64) (.pair (.int .i64) .unit))))], [(0, .ptr 100000 0)], [(100000, .box 42 [.v 0, .v 1, .v 2, .v 3, .v 4, .own 100001]), (100001, .arr 49 5)]⟩
def time_reader_formula_out : Shape := ⟨[(.int .i64), .str, (.int .i64), (.int .i64), (.int .i64), (.int .i64), (.list (.pair (.int .i64) (.pair (.int .i64) (.pair (.int .i64) .unit))))], [(0, .v 0)], [(100000, .box 42 [.v 1, .v 2, .v 3, .v 4, .v 5, .own 100]), (100, .arr 49 6)]⟩
noncomputable def time_reader_formula_ce : CEp := ⟨10, time_reader_formula_sig, time_reader_formula_out, LFix time_reader_formula_F⟩
def time_reader_one_sig : Shape := ⟨[.str, (.int .i64), (.int .i64), (.int .i64), (.int .i64), (.list (.pair (.int .i64) (.pair (.int .i64) (.pair (.int .i64) .unit))))], [(0, .ptr 100000 0)], [(100000, .box 42 [.v 0, .v 1, .v 2, .v 3, .v 4, .own 100001]), (100001, .arr 49 5)]⟩
def time_reader_one_out : Shape := ⟨[(.int .i64), .str, (.int .i64), (.int .i64), (.int .i64), (.int .i64), (.list (.pair (.int .i64) (.pair (.int .i64) (.pair (.int .i64) .unit))))], [(0, .v 0)], [(100000, .box 42 [.v 1, .v 2, .v 3, .v 4, .v 5, .own 100]), (100, .arr 49 6)]⟩
noncomputable def time_reader_one_ce (rec : Tup time_reader_formula_sig.tys → Option (Tup time_reader_formula_out.tys ⊕ (Int × Int))) : CEp := ⟨25, time_reader_one_sig, time_reader_one_out, LFix (time_reader_one_F (fun c c_1 c_2 c_3 c_4 l => rec (c, c_1, c_2, c_3, c_4, l)))⟩
theorem time_reader_one_ok (rec : Tup time_reader_formula_sig.tys → Option (Tup time_reader_formula_out.tys ⊕ (Int × Int))) (hrec : CEp.ok Try.prog 39 ⟨10, time_reader_formula_sig, time_reader_formula_out, rec⟩) : CEp.ok Try.prog 39 (time_reader_one_ce rec) := CEp.ofRec (Γ := [time_reader_no_ce, time_reader_put_ce, time_reader_always_ce, time_reader_now_ce]) (Γp := fun _ => [time_reader_counted_ce, ⟨10, time_reader_formula_sig, time_reader_formula_out, rec⟩, time_reader_fail_ce]) (by kernel_rfl) TT_ok (GOK.cons time_reader_no_ok (GOK.cons time_reader_put_ok (GOK.cons time_reader_always_ok (GOK.cons time_reader_now_ok (GOK.nil))))) ⟨[], [(19, ⟨⟨[], [], []⟩, [57, 58, 59, 60, 61, 62, 63], [], [], 0, []⟩), (24, ⟨⟨[], [], []⟩, [80, 81, 82, 83, 84], [], [100], 101, []⟩)], [(2000003, [(0, 0), (5, 1)]), (2000004, [(0, 0), (0, 1), (5, 2), (2, 3), (0, 4)]), (2000006, [(0, 0), (5, 1)]), (2000007, [(0, 0), (0, 1), (5, 2), (0, 3), (2, 4), (0, 5)]), (2000009, [(0, 0), (5, 1)]), (2000011, [(0, 0), (0, 1), (0, 2), (5, 3), (0, 4), (2, 5), (0, 6)]), (2000013, [(0, 0), (5, 1)]), (2000015, [(0, 0), (0, 1), (5, 2), (2, 3), (0, 4)]), (2000019, [(0, 0), (5, 1)]), (2000022, [(0, 0), (5, 1), (0, 2)]), (2000024, [(0, 0), (5, 1)]), (2000029, [(0, 0), (5, 1)]), (2000032, [(0, 0), (5, 1)]), (2000035, [(0, 0), (5, 1)]), (2000038, [(0, 0), (5, 1)]), (2000040, [(0, 0), (5, 1)])], []⟩ Try.func25 rfl Try.ntmps25 (rs := [.tmp 2]) rfl (sig := time_reader_one_sig) (out := time_reader_one_out) rfl (fun _ _ => (GPOK.cons time_reader_counted_ok (GPOK.cons hrec (GPOK.cons time_reader_fail_ok (GPOK.nil))))) Try.call25 (d := time_reader_one_F (fun c c_1 c_2 c_3 c_4 l => rec (c, c_1, c_2, c_3, c_4, l))) (fun rc X => by kernel_rfl)
def time_reader_part_sig : Shape := ⟨[.str, (.int .i64), (.int .i64), (.int .i64), (.int .i64), (.list (.pair (.int .i64) (.pair (.int .i64) (.pair (.int .i64) .unit))))], [(0, .ptr 100000 0)], [(100000, .box 42 [.v 0, .v 1, .v 2, .v 3, .v 4, .own 100001]), (100001, .arr 49 5)]⟩
def time_reader_part_out : Shape := ⟨[(.int .i64), .str, (.int .i64), (.int .i64), (.int .i64), (.int .i64), (.list (.pair (.int .i64) (.pair (.int .i64) (.pair (.int .i64) .unit))))], [(0, .v 0)], [(100000, .box 42 [.v 1, .v 2, .v 3, .v 4, .v 5, .own 100]), (100, .arr 49 6)]⟩
noncomputable def time_reader_part_ce (rec : Tup time_reader_formula_sig.tys → Option (Tup time_reader_formula_out.tys ⊕ (Int × Int))) : CEp := ⟨22, time_reader_part_sig, time_reader_part_out, LFix (time_reader_part_F (fun c c_1 c_2 c_3 c_4 l => rec (c, c_1, c_2, c_3, c_4, l)))⟩
theorem time_reader_part_ok (rec : Tup time_reader_formula_sig.tys → Option (Tup time_reader_formula_out.tys ⊕ (Int × Int))) (hrec : CEp.ok Try.prog 39 ⟨10, time_reader_formula_sig, time_reader_formula_out, rec⟩) : CEp.ok Try.prog 39 (time_reader_part_ce rec) := CEp.ofRec (Γ := [time_reader_put_ce, time_reader_no_ce, time_reader_now_ce]) (Γp := fun _ => [time_reader_one_ce rec, time_reader_counted_ce]) (by kernel_rfl) TT_ok (GOK.cons time_reader_put_ok (GOK.cons time_reader_no_ok (GOK.cons time_reader_now_ok (GOK.nil)))) ⟨[], [], [(2000001, [(0, 0), (5, 1), (0, 2)]), (2000004, [(0, 0), (5, 1)]), (2000005, [(0, 0), (0, 1), (0, 2), (5, 3), (0, 4), (2, 5), (0, 6)]), (2000007, [(0, 0), (5, 1)]), (2000009, [(0, 0), (0, 1), (5, 2), (2, 3), (0, 4)])], []⟩ Try.func22 rfl Try.ntmps22 (rs := [.tmp 2]) rfl (sig := time_reader_part_sig) (out := time_reader_part_out) rfl (fun _ _ => (GPOK.cons (time_reader_one_ok rec hrec) (GPOK.cons time_reader_counted_ok (GPOK.nil)))) Try.call22 (d := time_reader_part_F (fun c c_1 c_2 c_3 c_4 l => rec (c, c_1, c_2, c_3, c_4, l))) (fun rc X => by kernel_rfl)
def time_reader_term_sig : Shape := ⟨[.str, (.int .i64), (.int .i64), (.int .i64), (.int .i64), (.list (.pair (.int .i64) (.pair (.int .i64) (.pair (.int .i64) .unit))))], [(0, .ptr 100000 0)], [(100000, .box 42 [.v 0, .v 1, .v 2, .v 3, .v 4, .own 100001]), (100001, .arr 49 5)]⟩
def time_reader_term_out : Shape := ⟨[(.int .i64), .str, (.int .i64), (.int .i64), (.int .i64), (.int .i64), (.list (.pair (.int .i64) (.pair (.int .i64) (.pair (.int .i64) .unit))))], [(0, .v 0)], [(100000, .box 42 [.v 1, .v 2, .v 3, .v 4, .v 5, .own 100]), (100, .arr 49 6)]⟩
noncomputable def time_reader_term_ce (rec : Tup time_reader_formula_sig.tys → Option (Tup time_reader_formula_out.tys ⊕ (Int × Int))) : CEp := ⟨17, time_reader_term_sig, time_reader_term_out, fun X => time_reader_term (fun c c_1 c_2 c_3 c_4 l => rec (c, c_1, c_2, c_3, c_4, l)) X.1 X.2.1 X.2.2.1 X.2.2.2.1 X.2.2.2.2.1 X.2.2.2.2.2⟩
theorem time_reader_term_ok (rec : Tup time_reader_formula_sig.tys → Option (Tup time_reader_formula_out.tys ⊕ (Int × Int))) (hrec : CEp.ok Try.prog 39 ⟨10, time_reader_formula_sig, time_reader_formula_out, rec⟩) : CEp.ok Try.prog 39 (time_reader_term_ce rec) := CEp.of (Γ := [time_reader_put_ce, time_reader_now_ce]) (Γp := [time_reader_part_ce rec, time_reader_counted_ce]) (by kernel_rfl) TT_ok (GOK.cons time_reader_put_ok (GOK.cons time_reader_now_ok (GOK.nil))) (GPOK.cons (time_reader_part_ok rec hrec) (GPOK.cons time_reader_counted_ok (GPOK.nil))) ⟨[(2, ⟨⟨[(.int .i64), .str, (.int .i64), (.int .i64), (.int .i64), (.int .i64), (.list (.pair (.int .i64) (.pair (.int .i64) (.pair (.int .i64) .unit))))], [(0, .ptr 100000 0), (3, .v 0)], [(100000, .box 42 [.v 1, .v 2, .v 3, .v 4, .v 5, .own 100]), (100, .arr 49 6)]⟩, [6, 7, 8, 9, 10, 11, 12, 13, 14, 15, 16], [], [], 101, []⟩)], [], [(2000001, [(0, 0), (5, 1), (0, 2)]), (2000003, [(0, 0), (5, 1)]), (2000004, [(0, 0), (0, 1), (0, 2), (5, 3), (0, 4), (2, 5), (0, 6)])], []⟩ Try.func17 rfl Try.ntmps17 (rs := [.tmp 2]) rfl (sig := time_reader_term_sig) (out := time_reader_term_out) rfl Try.call17 (fun X => by kernel_rfl)
theorem time_reader_formula_ok : CEp.ok Try.prog 39 time_reader_formula_ce := CEp.ofRec (Γ := [time_reader_put_ce, time_reader_now_ce]) (Γp := fun rec => [time_reader_term_ce rec, time_reader_counted_ce]) (by kernel_rfl) TT_ok (GOK.cons time_reader_put_ok (GOK.cons time_reader_now_ok (GOK.nil))) ⟨[(2, ⟨⟨[(.int .i64), .str, (.int .i64), (.int .i64), (.int .i64), (.int .i64), (.list (.pair (.int .i64) (.pair (.int .i64) (.pair (.int .i64) .unit))))], [(0, .ptr 100000 0), (3, .v 0)], [(100000, .box 42 [.v 1, .v 2, .v 3, .v 4, .v 5, .own 100]), (100, .arr 49 6)]⟩, [6, 7, 8, 9, 10, 11, 12, 13, 14, 15, 16], [], [], 101, []⟩)], [], [(2000001, [(0, 0), (5, 1), (0, 2)]), (2000003, [(0, 0), (5, 1)]), (2000004, [(0, 0), (0, 1), (0, 2), (5, 3), (0, 4), (2, 5), (0, 6)])], []⟩ Try.func10 rfl Try.ntmps10 (rs := [.tmp 2]) rfl (sig := time_reader_formula_sig) (out := time_reader_formula_out) rfl (fun rec hrec => (GPOK.cons (time_reader_term_ok rec hrec) (GPOK.cons time_reader_counted_ok (GPOK.nil)))) Try.call10 (d := time_reader_formula_F) (fun rc X => by kernel_rfl)
noncomputable def time_reader_one_c_ce : CEp := time_reader_one_ce (LFix time_reader_formula_F)
theorem time_reader_one_c_ok : CEp.ok Try.prog 39 time_reader_one_c_ce := time_reader_one_ok _ time_reader_formula_ok
noncomputable def time_reader_part_c_ce : CEp := time_reader_part_ce (LFix time_reader_formula_F)
theorem time_reader_part_c_ok : CEp.ok Try.prog 39 time_reader_part_c_ce := time_reader_part_ok _ time_reader_formula_ok
noncomputable def time_reader_term_c_ce : CEp := time_reader_term_ce (LFix time_reader_formula_F)
theorem time_reader_term_c_ok : CEp.ok Try.prog 39 time_reader_term_c_ce := time_reader_term_ok _ time_reader_formula_ok

def time_parsed_sig : Shape := ⟨[.str], [(0, .v 0)], []⟩
def time_parsed_out : Shape := ⟨[(.list (.pair (.int .i64) (.pair (.int .i64) (.pair (.int .i64) .unit)))), (.pair (.int .i64) (.pair (.int .i64) .unit))], [(0, .v 0), (1, .v 1)], []⟩
noncomputable def time_parsed_ce : CE := ⟨6, time_parsed_sig, time_parsed_out, fun X => time_parsed X⟩
theorem time_parsed_tail (p : Int × Int) : evC TT [] [] 0 bothS ⟨[], [], [], [(7, .one 0 (.alt 0 1 (.leaf [(2, 2), (2, 3)]) (.alt 2 2 (.leaf [(0, 1), (2, 3)]) .stop)))]⟩ (closeTail (Try.f9.body.getD .skip)) (tailS 13 10 30 24 p) (tailK 30 24) = bothS (some (p.1, p.2)) (some (p.1, p.2)) := by kernel_rfl
theorem time_parsed_idle (va vb : Value) (w : World) : CallsD Try.prog 9 #[va, vb] .returning w (fun e u w' => (∃ v, e = .returned v) ∧ u = .returning ∧ w' = w) := by
  refine callsD_of_wpS Try.func9 rfl fun c₀ cs hu => ?_
  apply wpS_seq
  apply wpS_region
  simp [wpOpsS, go_sem, recoverD, hu, Try.ntmps9, Exit.thenS]
  refine wpS_of_wp (wp_block (wp_seq (wp_region ?_)))
  simp [wpOps, go_sem]
  left
  refine wp_cond (t := true) (by simp [Act.eval, Array.replicate]) ?_
  simp only [if_true]
  refine wp_region ?_
  simp [wpOps, go_sem]
  left
  cases c₀
  simp_all [bodyPostS, results, Try.results9]
theorem time_parsed_caught (p : Int × Int) (w : World) (ba bb : Nat) (ca cb : Array Value) (hne : ba ≠ bb) (h1 : w.heap[ba]? = some (.cells ca 30 (0, 0))) (h2 : ca.size = 1) (h3 : w.heap[bb]? = some (.cells cb 24 (0, 0))) (h4 : cb.size = 2) :
    CallsD Try.prog 9 #[.pointer (some ⟨ba, 0, none⟩), .pointer (some ⟨bb, 0, none⟩)] (.panicking (pch 39 p)) w (fun e u w' => (∃ v, e = .returned v) ∧ settle u = .returning ∧
      (w'.os = w.os ∧ w'.tape = w.tape ∧ w'.output = w.output ∧ w.heap.size ≤ w'.heap.size) ∧ (∀ b, b < w.heap.size → b ≠ ba → b ≠ bb → w'.heap[b]? = w.heap[b]?) ∧
      w'.heap[ba]? = some (.cells #[.slice none 0 0] 30 (0, 0)) ∧ w'.heap[bb]? = some (.cells #[.int .i64 p.1, .int .i64 p.2] 24 (0, 0))) := by
  refine callsD_of_wpS Try.func9 rfl fun c₀ cs hu => ?_
  apply wpS_seq
  apply wpS_region
  simp [wpOpsS, go_sem, recoverD, hu, Try.ntmps9, Exit.thenS, pch]
  refine wpS_of_wp (wp_block (wp_seq (wp_region ?_)))
  simp [wpOps, go_sem]
  left
  refine wp_cond (t := false) (by simp [Act.eval, Array.replicate]) ?_
  simp only [Bool.false_eq_true, if_false]
  refine wp_seq (wp_region ?_)
  simp [wpOps, go_sem, run_assert Try.underlying39]
  left
  left
  left
  refine wp_cond (t := true) (by simp [Act.eval, Array.replicate]) ?_
  simp only [if_true]
  refine wp_mono (tail_wp (by kernel_rfl) TT_ok (time_parsed_tail p) hne h1 h2 h3 h4 ?_ ?_ ?_ ?_ ?_) fun e a' w' hh => ?_
  · simp
  · rfl
  · simp [Array.replicate]
  · simp [Array.replicate]
  · simp [Array.replicate]
  · obtain ⟨rfl, hd, ho, hk, y1, y2⟩ := hh
    exact ⟨hd, _, rfl, .tuple #[], by simp [results, Try.results9], ⟨_, rfl⟩, rfl, ho, hk, y1, y2⟩
theorem time_parsed_catch : CatchOK Try.prog 39 9 30 24 (.slice none 0 0) := ⟨Try.call9, time_parsed_idle, time_parsed_caught⟩
theorem time_parsed_ok : CE.ok Try.prog time_parsed_ce := CE.ofCatch (Γ := []) (Γp := [time_reader_formula_ce, time_reader_fail_ce]) (T := 39) (by kernel_rfl) TT_ok (GOK.nil) (GPOK.cons time_reader_formula_ok (GPOK.cons time_reader_fail_ok (GPOK.nil))) ⟨[], [], [(3000003, []), (2000005, [(0, 0), (8, 1), (0, 2)]), (2000007, [(0, 0), (5, 1)])], []⟩ Try.func6 rfl Try.ntmps6 (rs := [.cell 2 30, .cell 3 24]) rfl (sig := time_parsed_sig) (out := time_parsed_out) rfl Try.call6 (g := 9) (sa := 2) (sb := 3) (Ta := 30) (Tb := 24) (z := .nil) time_parsed_catch (fun _ _ _ => .nil) (fun X => by kernel_rfl)

def time_Check_sig : Shape := ⟨[.str], [(0, .v 0)], []⟩
def time_Check_out : Shape := ⟨[(.pair (.int .i64) (.pair (.int .i64) .unit))], [(0, .v 0)], []⟩
noncomputable def time_Check_ce : CE := ⟨4, time_Check_sig, time_Check_out, fun X => time_Check X⟩
theorem time_Check_ok : CE.ok Try.prog time_Check_ce := CE.of (Γ := [time_parsed_ce]) (by kernel_rfl) TT_ok (GOK.cons time_parsed_ok (GOK.nil)) ⟨[], [], [], []⟩ Try.func4 rfl Try.ntmps4 (rs := [.cell 2 24]) rfl (sig := time_Check_sig) (out := time_Check_out) rfl Try.call4 (fun X => by kernel_rfl)

def r8_Reader_ok_sig : Shape := ⟨[(.pair .str (.pair (.int .i64) (.pair (.int .i64) (.pair (.int .i64) (.pair (.int .i64) (.pair (.list (.pair (.int .u8) (.pair (.int .i64) (.pair (.int .i64) .unit)))) (.pair (.pair (.int .i64) (.pair (.int .i64) .unit)) .unit)))))))], [(0, .addr 0)], []⟩
def r8_Reader_ok_out : Shape := ⟨[.bool], [(0, .v 0)], []⟩
noncomputable def r8_Reader_ok_ce : CE := ⟨14, r8_Reader_ok_sig, r8_Reader_ok_out, fun X => r8_Reader_ok X⟩
theorem r8_Reader_ok_ok : CE.ok Try.prog r8_Reader_ok_ce := CE.of (Γ := []) (by kernel_rfl) TT_ok (GOK.nil) ⟨[], [], [], []⟩ Try.func14 rfl Try.ntmps14 (rs := [.tmp 2]) rfl (sig := r8_Reader_ok_sig) (out := r8_Reader_ok_out) rfl Try.call14 (fun X => by kernel_rfl)

def r8_Reader_now_sig : Shape := ⟨[(.pair .str (.pair (.int .i64) (.pair (.int .i64) (.pair (.int .i64) (.pair (.int .i64) (.pair (.list (.pair (.int .u8) (.pair (.int .i64) (.pair (.int .i64) .unit)))) (.pair (.pair (.int .i64) (.pair (.int .i64) .unit)) .unit)))))))], [(0, .addr 0)], []⟩
def r8_Reader_now_out : Shape := ⟨[(.int .u8)], [(0, .v 0)], []⟩
noncomputable def r8_Reader_now_ce : CE := ⟨13, r8_Reader_now_sig, r8_Reader_now_out, fun X => r8_Reader_now X⟩
theorem r8_Reader_now_ok : CE.ok Try.prog r8_Reader_now_ce := CE.of (Γ := []) (by kernel_rfl) TT_ok (GOK.nil) ⟨[], [], [(1, [(0, 0), (0, 1), (0, 2), (0, 3), (0, 4), (0, 5), (0, 6), (0, 7), (0, 8), (0, 9)]), (3, [(0, 0), (0, 1), (0, 2), (0, 3), (0, 4), (0, 5), (0, 6), (0, 7), (0, 8), (0, 9)])], []⟩ Try.func13 rfl Try.ntmps13 (rs := [.tmp 2]) rfl (sig := r8_Reader_now_sig) (out := r8_Reader_now_out) rfl Try.call13 (fun X => by kernel_rfl)

def r8_Reader_fail_sig : Shape := ⟨[(.int .i64), .str, (.int .i64), (.int .i64), (.int .i64), (.int .i64), (.int .i64), (.int .i64), (.list (.pair (.int .u8) (.pair (.int .i64) (.pair (.int .i64) .unit))))], [(0, .ptr 100000 0), (1, .v 0)], [(100000, .box 35 [.v 1, .v 2, .v 3, .v 4, .v 5, .own 100001, .v 6, .v 7]), (100001, .arr 51 8)]⟩
def r8_Reader_fail_out : Shape := ⟨[.str, (.int .i64), (.int .i64), (.int .i64), (.int .i64), (.list (.pair (.int .u8) (.pair (.int .i64) (.pair (.int .i64) .unit)))), (.int .i64), (.int .i64)], [], [(100000, .box 35 [.v 0, .v 1, .v 2, .v 3, .v 4, .own 100, .v 6, .v 7]), (100, .arr 51 5)]⟩
noncomputable def r8_Reader_fail_ce : CE := ⟨8, r8_Reader_fail_sig, r8_Reader_fail_out, fun X => r8_Reader_fail X.1 X.2.1 X.2.2.1 X.2.2.2.1 X.2.2.2.2.1 X.2.2.2.2.2.1 X.2.2.2.2.2.2.1 X.2.2.2.2.2.2.2.1 X.2.2.2.2.2.2.2.2⟩
theorem r8_Reader_fail_ok : CE.ok Try.prog r8_Reader_fail_ce := CE.of (Γ := []) (by kernel_rfl) TT_ok (GOK.nil) ⟨[], [], [], []⟩ Try.func8 rfl Try.ntmps8 (rs := []) rfl (sig := r8_Reader_fail_sig) (out := r8_Reader_fail_out) rfl Try.call8 (fun X => by kernel_rfl)

def r8_Reader_counted_sig : Shape := ⟨[(.int .u8), .str, (.int .i64), (.int .i64), (.int .i64), (.int .i64), (.int .i64), (.int .i64), (.list (.pair (.int .u8) (.pair (.int .i64) (.pair (.int .i64) .unit))))], [(0, .ptr 100000 0), (1, .v 0)], [(100000, .box 35 [.v 1, .v 2, .v 3, .v 4, .v 5, .own 100001, .v 6, .v 7]), (100001, .arr 51 8)]⟩
def r8_Reader_counted_out : Shape := ⟨[.str, (.int .i64), (.int .i64), (.int .i64), (.int .i64), (.list (.pair (.int .u8) (.pair (.int .i64) (.pair (.int .i64) .unit)))), (.int .i64), (.int .i64)], [], [(100000, .box 35 [.v 0, .v 1, .v 2, .v 3, .v 4, .own 100, .v 6, .v 7]), (100, .arr 51 5)]⟩
noncomputable def r8_Reader_counted_ce : CE := ⟨15, r8_Reader_counted_sig, r8_Reader_counted_out, fun X => r8_Reader_counted X.1 X.2.1 X.2.2.1 X.2.2.2.1 X.2.2.2.2.1 X.2.2.2.2.2.1 X.2.2.2.2.2.2.1 X.2.2.2.2.2.2.2.1 X.2.2.2.2.2.2.2.2⟩
theorem r8_Reader_counted_ok : CE.ok Try.prog r8_Reader_counted_ce := CE.of (Γ := [r8_Reader_fail_ce]) (by kernel_rfl) TT_ok (GOK.cons r8_Reader_fail_ok (GOK.nil)) ⟨[], [(0, ⟨⟨[.bool], [(4, .v 0)], []⟩, [5, 6, 7, 8, 9, 10, 11, 12, 13, 14, 15, 16, 17, 18, 19, 20, 21, 22], [], [], 0, []⟩), (3, ⟨⟨[.str, (.int .i64), (.int .i64), (.int .i64), (.int .i64), (.int .i64), (.int .i64), (.list (.pair (.int .u8) (.pair (.int .i64) (.pair (.int .i64) .unit))))], [(0, .ptr 100000 0)], [(100000, .box 35 [.v 0, .v 1, .v 2, .v 3, .v 4, .own 100001, .v 5, .v 6]), (100001, .arr 51 7)]⟩, [30, 31, 32, 33, 34, 35, 36, 37], [], [], 0, []⟩), (4, ⟨⟨[.bool], [(52, .v 0)], []⟩, [38, 39, 40, 41, 42, 43, 44, 45, 46, 47, 48, 49, 50, 51], [], [], 0, []⟩)], [], []⟩ Try.func15 rfl Try.ntmps15 (rs := []) rfl (sig := r8_Reader_counted_sig) (out := r8_Reader_counted_out) rfl Try.call15 (fun X => by kernel_rfl)

def r8_Reader_put_sig : Shape := ⟨[(.int .u8), (.int .i64), (.int .i64), .str, (.int .i64), (.int .i64), (.int .i64), (.int .i64), (.int .i64), (.int .i64), (.list (.pair (.int .u8) (.pair (.int .i64) (.pair (.int .i64) .unit))))], [(0, .ptr 100000 0), (1, .v 0), (2, .v 1), (3, .v 2)], [(100000, .box 35 [.v 3, .v 4, .v 5, .v 6, .v 7, .own 100001, .v 8, .v 9]), (100001, .arr 51 10)]⟩
def r8_Reader_put_out : Shape := ⟨[(.int .i64), .str, (.int .i64), (.int .i64), (.int .i64), (.int .i64), (.list (.pair (.int .u8) (.pair (.int .i64) (.pair (.int .i64) .unit)))), (.int .i64), (.int .i64)], [(0, .v 0)], [(100000, .box 35 [.v 1, .v 2, .v 3, .v 4, .v 5, .own 100, .v 7, .v 8]), (100, .arr 51 6)]⟩
noncomputable def r8_Reader_put_ce : CE := ⟨16, r8_Reader_put_sig, r8_Reader_put_out, fun X => r8_Reader_put X.1 X.2.1 X.2.2.1 X.2.2.2.1 X.2.2.2.2.1 X.2.2.2.2.2.1 X.2.2.2.2.2.2.1 X.2.2.2.2.2.2.2.1 X.2.2.2.2.2.2.2.2.1 X.2.2.2.2.2.2.2.2.2.1 X.2.2.2.2.2.2.2.2.2.2⟩
theorem r8_Reader_put_ok : CE.ok Try.prog r8_Reader_put_ce := CE.of (Γ := []) (by kernel_rfl) TT_ok (GOK.nil) ⟨[], [], [], []⟩ Try.func16 rfl Try.ntmps16 (rs := [.tmp 8]) rfl (sig := r8_Reader_put_sig) (out := r8_Reader_put_out) rfl Try.call16 (fun X => by kernel_rfl)

def r8_Reader_formula_sig : Shape := ⟨[.str, (.int .i64), (.int .i64), (.int .i64), (.int .i64), (.int .i64), (.int .i64), (.list (.pair (.int .u8) (.pair (.int .i64) (.pair (.int .i64) .unit))))], [(0, .ptr 100000 0)], [(100000, .box 35 [.v 0, .v 1, .v 2, .v 3, .v 4, .own 100001, .v 5, .v 6]), (100001, .arr 51 7)]⟩
def r8_Reader_formula_out : Shape := ⟨[(.int .i64), .str, (.int .i64), (.int .i64), (.int .i64), (.int .i64), (.list (.pair (.int .u8) (.pair (.int .i64) (.pair (.int .i64) .unit)))), (.int .i64), (.int .i64)], [(0, .v 0)], [(100000, .box 35 [.v 1, .v 2, .v 3, .v 4, .v 5, .own 100, .v 7, .v 8]), (100, .arr 51 6)]⟩
noncomputable def r8_Reader_formula_ce : CE := ⟨7, r8_Reader_formula_sig, r8_Reader_formula_out, LFix r8_Reader_formula_F⟩
def r8_Reader_one_sig : Shape := ⟨[.str, (.int .i64), (.int .i64), (.int .i64), (.int .i64), (.int .i64), (.int .i64), (.list (.pair (.int .u8) (.pair (.int .i64) (.pair (.int .i64) .unit))))], [(0, .ptr 100000 0)], [(100000, .box 35 [.v 0, .v 1, .v 2, .v 3, .v 4, .own 100001, .v 5, .v 6]), (100001, .arr 51 7)]⟩
def r8_Reader_one_out : Shape := ⟨[(.int .i64), .str, (.int .i64), (.int .i64), (.int .i64), (.int .i64), (.list (.pair (.int .u8) (.pair (.int .i64) (.pair (.int .i64) .unit)))), (.int .i64), (.int .i64)], [(0, .v 0)], [(100000, .box 35 [.v 1, .v 2, .v 3, .v 4, .v 5, .own 100, .v 7, .v 8]), (100, .arr 51 6)]⟩
noncomputable def r8_Reader_one_ce (rec : Tup r8_Reader_formula_sig.tys → Option (Tup r8_Reader_formula_out.tys)) : CE := ⟨24, r8_Reader_one_sig, r8_Reader_one_out, LFix (r8_Reader_one_F (fun c c_1 c_2 c_3 c_4 c_5 c_6 l => rec (c, c_1, c_2, c_3, c_4, c_5, c_6, l)))⟩
theorem r8_Reader_one_ok (rec : Tup r8_Reader_formula_sig.tys → Option (Tup r8_Reader_formula_out.tys)) (hrec : CE.ok Try.prog ⟨7, r8_Reader_formula_sig, r8_Reader_formula_out, rec⟩) : CE.ok Try.prog (r8_Reader_one_ce rec) := CE.ofRecM (Γ := fun _ => [r8_Reader_counted_ce, r8_Reader_put_ce, r8_Reader_fail_ce, ⟨7, r8_Reader_formula_sig, r8_Reader_formula_out, rec⟩, r8_Reader_ok_ce, r8_Reader_now_ce]) (by kernel_rfl) TT_ok ⟨[], [(9, ⟨⟨[.bool], [(14, .v 0)], []⟩, [15, 16, 17, 18], [], [], 0, []⟩), (16, ⟨⟨[.bool], [(28, .v 0)], []⟩, [29, 30, 31, 32], [], [], 0, []⟩)], [], []⟩ Try.func24 rfl Try.ntmps24 (rs := [.tmp 2]) rfl (sig := r8_Reader_one_sig) (out := r8_Reader_one_out) rfl (fun _ _ => (GOK.cons r8_Reader_counted_ok (GOK.cons r8_Reader_put_ok (GOK.cons r8_Reader_fail_ok (GOK.cons hrec (GOK.cons r8_Reader_ok_ok (GOK.cons r8_Reader_now_ok (GOK.nil)))))))) Try.call24 (d := r8_Reader_one_F (fun c c_1 c_2 c_3 c_4 c_5 c_6 l => rec (c, c_1, c_2, c_3, c_4, c_5, c_6, l))) (fun rc X => by kernel_rfl)
def r8_Reader_part_sig : Shape := ⟨[.str, (.int .i64), (.int .i64), (.int .i64), (.int .i64), (.int .i64), (.int .i64), (.list (.pair (.int .u8) (.pair (.int .i64) (.pair (.int .i64) .unit))))], [(0, .ptr 100000 0)], [(100000, .box 35 [.v 0, .v 1, .v 2, .v 3, .v 4, .own 100001, .v 5, .v 6]), (100001, .arr 51 7)]⟩
def r8_Reader_part_out : Shape := ⟨[(.int .i64), .str, (.int .i64), (.int .i64), (.int .i64), (.int .i64), (.list (.pair (.int .u8) (.pair (.int .i64) (.pair (.int .i64) .unit)))), (.int .i64), (.int .i64)], [(0, .v 0)], [(100000, .box 35 [.v 1, .v 2, .v 3, .v 4, .v 5, .own 100, .v 7, .v 8]), (100, .arr 51 6)]⟩
noncomputable def r8_Reader_part_ce (rec : Tup r8_Reader_formula_sig.tys → Option (Tup r8_Reader_formula_out.tys)) : CE := ⟨21, r8_Reader_part_sig, r8_Reader_part_out, LFix (r8_Reader_part_F (fun c c_1 c_2 c_3 c_4 c_5 c_6 l => rec (c, c_1, c_2, c_3, c_4, c_5, c_6, l)))⟩
theorem r8_Reader_part_ok (rec : Tup r8_Reader_formula_sig.tys → Option (Tup r8_Reader_formula_out.tys)) (hrec : CE.ok Try.prog ⟨7, r8_Reader_formula_sig, r8_Reader_formula_out, rec⟩) : CE.ok Try.prog (r8_Reader_part_ce rec) := CE.ofRecM (Γ := fun _ => [r8_Reader_one_ce rec, r8_Reader_counted_ce, r8_Reader_put_ce, r8_Reader_now_ce, r8_Reader_ok_ce]) (by kernel_rfl) TT_ok ⟨[], [(5, ⟨⟨[], [], []⟩, [2, 13, 14, 15, 16, 17, 18, 19, 20, 21, 22, 23], [], [100], 101, []⟩)], [], []⟩ Try.func21 rfl Try.ntmps21 (rs := [.tmp 2]) rfl (sig := r8_Reader_part_sig) (out := r8_Reader_part_out) rfl (fun _ _ => (GOK.cons (r8_Reader_one_ok rec hrec) (GOK.cons r8_Reader_counted_ok (GOK.cons r8_Reader_put_ok (GOK.cons r8_Reader_now_ok (GOK.cons r8_Reader_ok_ok (GOK.nil))))))) Try.call21 (d := r8_Reader_part_F (fun c c_1 c_2 c_3 c_4 c_5 c_6 l => rec (c, c_1, c_2, c_3, c_4, c_5, c_6, l))) (fun rc X => by kernel_rfl)
def r8_Reader_term_sig : Shape := ⟨[.str, (.int .i64), (.int .i64), (.int .i64), (.int .i64), (.int .i64), (.int .i64), (.list (.pair (.int .u8) (.pair (.int .i64) (.pair (.int .i64) .unit))))], [(0, .ptr 100000 0)], [(100000, .box 35 [.v 0, .v 1, .v 2, .v 3, .v 4, .own 100001, .v 5, .v 6]), (100001, .arr 51 7)]⟩
def r8_Reader_term_out : Shape := ⟨[(.int .i64), .str, (.int .i64), (.int .i64), (.int .i64), (.int .i64), (.list (.pair (.int .u8) (.pair (.int .i64) (.pair (.int .i64) .unit)))), (.int .i64), (.int .i64)], [(0, .v 0)], [(100000, .box 35 [.v 1, .v 2, .v 3, .v 4, .v 5, .own 100, .v 7, .v 8]), (100, .arr 51 6)]⟩
noncomputable def r8_Reader_term_ce (rec : Tup r8_Reader_formula_sig.tys → Option (Tup r8_Reader_formula_out.tys)) : CE := ⟨12, r8_Reader_term_sig, r8_Reader_term_out, fun X => r8_Reader_term (fun c c_1 c_2 c_3 c_4 c_5 c_6 l => rec (c, c_1, c_2, c_3, c_4, c_5, c_6, l)) X.1 X.2.1 X.2.2.1 X.2.2.2.1 X.2.2.2.2.1 X.2.2.2.2.2.1 X.2.2.2.2.2.2.1 X.2.2.2.2.2.2.2⟩
theorem r8_Reader_term_ok (rec : Tup r8_Reader_formula_sig.tys → Option (Tup r8_Reader_formula_out.tys)) (hrec : CE.ok Try.prog ⟨7, r8_Reader_formula_sig, r8_Reader_formula_out, rec⟩) : CE.ok Try.prog (r8_Reader_term_ce rec) := CE.of (Γ := [r8_Reader_part_ce rec, r8_Reader_counted_ce, r8_Reader_put_ce, r8_Reader_now_ce, r8_Reader_ok_ce]) (by kernel_rfl) TT_ok (GOK.cons (r8_Reader_part_ok rec hrec) (GOK.cons r8_Reader_counted_ok (GOK.cons r8_Reader_put_ok (GOK.cons r8_Reader_now_ok (GOK.cons r8_Reader_ok_ok (GOK.nil)))))) ⟨[(2, ⟨⟨[(.int .i64), .str, (.int .i64), (.int .i64), (.int .i64), (.int .i64), (.int .i64), (.int .i64), (.list (.pair (.int .u8) (.pair (.int .i64) (.pair (.int .i64) .unit))))], [(0, .ptr 100000 0), (3, .v 0)], [(100000, .box 35 [.v 1, .v 2, .v 3, .v 4, .v 5, .own 100, .v 6, .v 7]), (100, .arr 51 8)]⟩, [2, 4, 5, 6, 9, 10, 11, 12, 13, 14, 15, 16, 17, 18, 19, 20, 21, 22, 23, 24, 25, 26, 27, 28], [], [], 101, []⟩)], [], [], []⟩ Try.func12 rfl Try.ntmps12 (rs := [.tmp 2]) rfl (sig := r8_Reader_term_sig) (out := r8_Reader_term_out) rfl Try.call12 (fun X => by kernel_rfl)
theorem r8_Reader_formula_ok : CE.ok Try.prog r8_Reader_formula_ce := CE.ofRecM (Γ := fun rec => [r8_Reader_term_ce rec, r8_Reader_counted_ce, r8_Reader_put_ce, r8_Reader_now_ce, r8_Reader_ok_ce]) (by kernel_rfl) TT_ok ⟨[(2, ⟨⟨[(.int .i64), .str, (.int .i64), (.int .i64), (.int .i64), (.int .i64), (.int .i64), (.int .i64), (.list (.pair (.int .u8) (.pair (.int .i64) (.pair (.int .i64) .unit))))], [(0, .ptr 100000 0), (3, .v 0)], [(100000, .box 35 [.v 1, .v 2, .v 3, .v 4, .v 5, .own 100, .v 6, .v 7]), (100, .arr 51 8)]⟩, [2, 4, 5, 6, 9, 10, 11, 12, 13, 14, 15, 16, 17, 18, 19, 20, 21, 22, 23, 24, 25, 26, 27, 28], [], [], 101, []⟩)], [], [], []⟩ Try.func7 rfl Try.ntmps7 (rs := [.tmp 2]) rfl (sig := r8_Reader_formula_sig) (out := r8_Reader_formula_out) rfl (fun rec hrec => (GOK.cons (r8_Reader_term_ok rec hrec) (GOK.cons r8_Reader_counted_ok (GOK.cons r8_Reader_put_ok (GOK.cons r8_Reader_now_ok (GOK.cons r8_Reader_ok_ok (GOK.nil))))))) Try.call7 (d := r8_Reader_formula_F) (fun rc X => by kernel_rfl)
noncomputable def r8_Reader_one_c_ce : CE := r8_Reader_one_ce (LFix r8_Reader_formula_F)
theorem r8_Reader_one_c_ok : CE.ok Try.prog r8_Reader_one_c_ce := r8_Reader_one_ok _ r8_Reader_formula_ok
noncomputable def r8_Reader_part_c_ce : CE := r8_Reader_part_ce (LFix r8_Reader_formula_F)
theorem r8_Reader_part_c_ok : CE.ok Try.prog r8_Reader_part_c_ce := r8_Reader_part_ok _ r8_Reader_formula_ok
noncomputable def r8_Reader_term_c_ce : CE := r8_Reader_term_ce (LFix r8_Reader_formula_F)
theorem r8_Reader_term_c_ok : CE.ok Try.prog r8_Reader_term_c_ce := r8_Reader_term_ok _ r8_Reader_formula_ok

def r8_Parse_sig : Shape := ⟨[.str], [(0, .v 0)], []⟩
def r8_Parse_out : Shape := ⟨[(.int .i64), (.pair (.int .i64) (.pair (.int .i64) .unit)), (.list (.pair (.int .u8) (.pair (.int .i64) (.pair (.int .i64) .unit))))], [(0, .own 0), (1, .v 0), (2, .v 1)], [(0, .arr 51 2)]⟩
noncomputable def r8_Parse_ce : CE := ⟨5, r8_Parse_sig, r8_Parse_out, fun X => r8_Parse X⟩
theorem r8_Parse_ok : CE.ok Try.prog r8_Parse_ce := CE.of (Γ := [r8_Reader_formula_ce, r8_Reader_fail_ce]) (by kernel_rfl) TT_ok (GOK.cons r8_Reader_formula_ok (GOK.cons r8_Reader_fail_ok (GOK.nil))) ⟨[], [], [(8, [(0, 0), (0, 1), (0, 2), (0, 3), (0, 4), (0, 5), (2, 6)])], []⟩ Try.func5 rfl Try.ntmps5 (rs := [.tmp 2, .tmp 3, .cell 4 24]) rfl (sig := r8_Parse_sig) (out := r8_Parse_out) rfl Try.call5 (fun X => by kernel_rfl)

def law_TimeReads_sig : Shape := ⟨[.str], [(0, .v 0)], []⟩
def law_TimeReads_out : Shape := ⟨[.bool], [(0, .v 0)], []⟩
noncomputable def law_TimeReads_ce : CE := ⟨3, law_TimeReads_sig, law_TimeReads_out, fun X => law_TimeReads X⟩
theorem law_TimeReads_ok : CE.ok Try.prog law_TimeReads_ce := CE.of (Γ := [time_Check_ce, r8_Parse_ce]) (by kernel_rfl) TT_ok (GOK.cons time_Check_ok (GOK.cons r8_Parse_ok (GOK.nil))) ⟨[], [], [], []⟩ Try.func3 rfl Try.ntmps3 (rs := [.tmp 2]) rfl (sig := law_TimeReads_sig) (out := law_TimeReads_out) rfl Try.call3 (fun X => by kernel_rfl)

end Go.Proofs.Ytdobpnnpfehjnaa.timeReadsW
