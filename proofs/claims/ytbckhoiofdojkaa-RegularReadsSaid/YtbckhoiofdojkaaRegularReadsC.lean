/- That the functions of 'RegularReads' compute so. -/
import Derived.Test.YtbckhoiofdojkaaRegularReadsD
import Derived.Test.YtbckhoiofdojkaaProg
import Derived.KernelRfl
set_option maxHeartbeats 1000000
set_option maxRecDepth 20000
set_option linter.unusedSimpArgs false
set_option linter.unusedVariables false
set_option linter.unusedSectionVars false
namespace Go.Proofs.Ytbckhoiofdojkaa.regularReadsW
open Go Go.Ab
theorem te3_sz : SzT Try.prog 3 ((.int .i64)) := SzT.ofTI (dsc := false) (size := 1) (bytes := 8) (z := .int .i64 0) (TI.of Try.underlying3 rfl (by kernel_rfl)) rfl rfl
theorem te22_sz : SzT Try.prog 22 ((.int .i64)) := SzT.ofTI (dsc := false) (size := 1) (bytes := 8) (z := .int .i64 0) (TI.of Try.underlying22 rfl (by kernel_rfl)) rfl rfl
theorem te24_sz : SzT Try.prog 24 ((.pair (.int .i64) (.pair (.int .i64) .unit))) := SzT.ofTI (dsc := true) (size := 2) (bytes := 16) (z := .agg ⟨[.int .i64 0, .int .i64 0]⟩) (TI.of Try.underlying24 rfl (by kernel_rfl)) rfl rfl
def te3 : TE := ⟨3, .int .i64, false, 1, 8, .int .i64 0, some (.int .i64)⟩
theorem te3_ok : TEok Try.prog te3 := ⟨TI.of Try.underlying3 rfl (by kernel_rfl), Try.underlying3, fun t h => by cases h; exact ⟨rfl, rfl, by decide, rfl⟩⟩
def te4 : TE := ⟨4, .bool, false, 1, 1, .bool false, some .bool⟩
theorem te4_ok : TEok Try.prog te4 := ⟨TI.of Try.underlying4 rfl (by kernel_rfl), Try.underlying4, fun t h => by cases h; exact ⟨rfl, rfl, by decide, rfl⟩⟩
def te5 : TE := ⟨5, .int .u8, false, 1, 1, .int .u8 0, some (.int .u8)⟩
theorem te5_ok : TEok Try.prog te5 := ⟨TI.of Try.underlying5 rfl (by kernel_rfl), Try.underlying5, fun t h => by cases h; exact ⟨rfl, rfl, by decide, rfl⟩⟩
def te9 : TE := ⟨9, .str, false, 1, 16, .string ⟨⟨[]⟩⟩, some .str⟩
theorem te9_ok : TEok Try.prog te9 := ⟨TI.of Try.underlying9 rfl (by kernel_rfl), Try.underlying9, fun t h => by cases h; exact ⟨rfl, rfl, by decide, rfl⟩⟩
def te22 : TE := ⟨22, .int .i64, false, 1, 8, .int .i64 0, some (.int .i64)⟩
theorem te22_ok : TEok Try.prog te22 := ⟨TI.of Try.underlying22 rfl (by kernel_rfl), Try.underlying22, fun t h => by cases h; exact ⟨rfl, rfl, by decide, rfl⟩⟩
def te24 : TE := ⟨24, .struct [(0, 22), (1, 3)] (some (.pair (.int .i64) (.pair (.int .i64) .unit))), true, 2, 16, .agg ⟨[.int .i64 0, .int .i64 0]⟩, some (.pair (.int .i64) (.pair (.int .i64) .unit))⟩
theorem te24_ok : TEok Try.prog te24 := ⟨TI.of Try.underlying24 rfl (by kernel_rfl), ⟨⟨_, Try.underlying24, rfl⟩, fun t h => by cases h; exact ⟨rfl, rfl, (KeyT.struct te24_sz Try.underlying24 (by kernel_rfl) (KFs.cons (by decide) rfl (KeyT.int te22_sz Try.underlying22) (KFs.cons (by decide) rfl (KeyT.int te3_sz Try.underlying3) KFs.nil))), by kernel_rfl⟩⟩, fun t h => by cases h; exact ⟨rfl, rfl, by decide, rfl⟩⟩
def te26 : TE := ⟨26, .slice 49, false, 1, 24, .slice none 0 0, some (.list (.pair (.int .i64) (.pair (.int .i64) (.pair (.list (.int .i64)) .unit))))⟩
theorem te26_ok : TEok Try.prog te26 := ⟨TI.of Try.underlying26 rfl (by kernel_rfl), Try.underlying26, fun t h => by cases h; exact ⟨rfl, rfl, by decide, rfl⟩⟩
def te30 : TE := ⟨30, .other, false, 1, 8, .pointer none, some (.tree (.pair (.int .i64) (.pair (.int .i64) .unit)))⟩
theorem te30_ok : TEok Try.prog te30 := ⟨TI.of Try.underlying30 rfl (by kernel_rfl), trivial, fun t h => by cases h; exact ⟨rfl, rfl, by decide, rfl⟩⟩
def te35 : TE := ⟨35, .struct [(0, 9), (1, 3), (2, 3), (3, 26), (4, 24)] none, true, 6, 72, .agg ⟨[.string ⟨⟨[]⟩⟩, .int .i64 0, .int .i64 0, .slice none 0 0, .int .i64 0, .int .i64 0]⟩, some (.pair .str (.pair (.int .i64) (.pair (.int .i64) (.pair (.list (.pair (.int .i64) (.pair (.int .i64) (.pair (.list (.int .i64)) .unit)))) (.pair (.pair (.int .i64) (.pair (.int .i64) .unit)) .unit)))))⟩
theorem te35_ok : TEok Try.prog te35 := ⟨TI.of Try.underlying35 rfl (by kernel_rfl), ⟨⟨_, Try.underlying35, rfl⟩, fun t h => by cases h⟩, fun t h => by cases h; exact ⟨rfl, rfl, by decide, rfl⟩⟩
def te39 : TE := ⟨39, .struct [(0, 24)] none, true, 2, 16, .agg ⟨[.int .i64 0, .int .i64 0]⟩, some (.pair (.pair (.int .i64) (.pair (.int .i64) .unit)) .unit)⟩
theorem te39_ok : TEok Try.prog te39 := ⟨TI.of Try.underlying39 rfl (by kernel_rfl), ⟨⟨_, Try.underlying39, rfl⟩, fun t h => by cases h⟩, fun t h => by cases h; exact ⟨rfl, rfl, by decide, rfl⟩⟩
def te42 : TE := ⟨42, .struct [(0, 9), (1, 3), (2, 3)] none, true, 3, 32, .agg ⟨[.string ⟨⟨[]⟩⟩, .int .i64 0, .int .i64 0]⟩, some (.pair .str (.pair (.int .i64) (.pair (.int .i64) .unit)))⟩
theorem te42_ok : TEok Try.prog te42 := ⟨TI.of Try.underlying42 rfl (by kernel_rfl), ⟨⟨_, Try.underlying42, rfl⟩, fun t h => by cases h⟩, fun t h => by cases h; exact ⟨rfl, rfl, by decide, rfl⟩⟩
def te44 : TE := ⟨44, .slice 3, false, 1, 24, .slice none 0 0, some (.list (.int .i64))⟩
theorem te44_ok : TEok Try.prog te44 := ⟨TI.of Try.underlying44 rfl (by kernel_rfl), Try.underlying44, fun t h => by cases h; exact ⟨rfl, rfl, by decide, rfl⟩⟩
def te49 : TE := ⟨49, .struct [(0, 3), (1, 3), (2, 44)] none, true, 3, 40, .agg ⟨[.int .i64 0, .int .i64 0, .slice none 0 0]⟩, some (.pair (.int .i64) (.pair (.int .i64) (.pair (.list (.int .i64)) .unit)))⟩
theorem te49_ok : TEok Try.prog te49 := ⟨TI.of Try.underlying49 rfl (by kernel_rfl), ⟨⟨_, Try.underlying49, rfl⟩, fun t h => by cases h⟩, fun t h => by cases h; exact ⟨rfl, rfl, by decide, rfl⟩⟩
def te50 : TE := ⟨50, .slice 30, false, 1, 24, .slice none 0 0, some (.list (.tree (.pair (.int .i64) (.pair (.int .i64) .unit))))⟩
theorem te50_ok : TEok Try.prog te50 := ⟨TI.of Try.underlying50 rfl (by kernel_rfl), Try.underlying50, fun t h => by cases h; exact ⟨rfl, rfl, by decide, rfl⟩⟩
def te52 : TE := ⟨52, .struct [(0, 3), (1, 3), (2, 50)] none, true, 3, 40, .agg ⟨[.int .i64 0, .int .i64 0, .slice none 0 0]⟩, some (.pair (.int .i64) (.pair (.int .i64) (.pair (.list (.tree (.pair (.int .i64) (.pair (.int .i64) .unit)))) .unit)))⟩
theorem te52_ok : TEok Try.prog te52 := ⟨TI.of Try.underlying52 rfl (by kernel_rfl), ⟨⟨_, Try.underlying52, rfl⟩, fun t h => by cases h⟩, fun t h => by cases h; exact ⟨rfl, rfl, by decide, rfl⟩⟩
def TT : List TE := [te3, te4, te5, te9, te22, te24, te26, te30, te35, te39, te42, te44, te49, te50, te52]
theorem TT_ok : TOK Try.prog TT := TOK.cons te3_ok (TOK.cons te4_ok (TOK.cons te5_ok (TOK.cons te9_ok (TOK.cons te22_ok (TOK.cons te24_ok (TOK.cons te26_ok (TOK.cons te30_ok (TOK.cons te35_ok (TOK.cons te39_ok (TOK.cons te42_ok (TOK.cons te44_ok (TOK.cons te49_ok (TOK.cons te50_ok (TOK.cons te52_ok (TOK.nil)))))))))))))))

def regular_reader_now_sig : Shape := ⟨[(.pair .str (.pair (.int .i64) (.pair (.int .i64) .unit)))], [(0, .addr 0)], []⟩
def regular_reader_now_out : Shape := ⟨[(.int .u8)], [(0, .v 0)], []⟩
noncomputable def regular_reader_now_ce : CE := ⟨17, regular_reader_now_sig, regular_reader_now_out, fun X => regular_reader_now X⟩
theorem regular_reader_now_ok : CE.ok Try.prog regular_reader_now_ce := CE.of (Γ := []) (by kernel_rfl) TT_ok (GOK.nil) ⟨[], [], [(1, [(0, 0), (0, 1), (0, 2), (0, 3), (0, 4), (0, 5), (0, 6), (0, 7), (0, 8), (0, 9)]), (3, [(0, 0), (0, 1), (0, 2), (0, 3), (0, 4), (0, 5), (0, 6), (0, 7), (0, 8), (0, 9)])], []⟩ Try.func17 rfl Try.ntmps17 (rs := [.tmp 2]) rfl (sig := regular_reader_now_sig) (out := regular_reader_now_out) rfl Try.call17 (fun X => by kernel_rfl)

def regular_reader_fail_sig : Shape := ⟨[(.pair .str (.pair (.int .i64) (.pair (.int .i64) .unit))), (.int .i64)], [(0, .addr 0), (1, .v 1)], []⟩
def regular_reader_fail_out : Shape := ⟨[], [], []⟩
noncomputable def regular_reader_fail_ce : CEp := ⟨11, regular_reader_fail_sig, regular_reader_fail_out, fun X => regular_reader_fail X.1 X.2⟩
theorem regular_reader_fail_ok : CEp.ok Try.prog 39 regular_reader_fail_ce := CEp.of (Γ := []) (Γp := []) (by kernel_rfl) TT_ok (GOK.nil) (GPOK.nil) ⟨[], [], [(2000000, [(0, 0), (0, 1), (0, 2), (0, 3), (0, 4), (0, 5), (0, 6), (6, 7), (2, 8)])], []⟩ Try.func11 rfl Try.ntmps11 (rs := []) rfl (sig := regular_reader_fail_sig) (out := regular_reader_fail_out) rfl Try.call11 (fun X => by kernel_rfl)

theorem stringslite_IndexByte_calls (s : ByteArray) (c : Int) (w : World) : Calls Try.prog 24 #[.string s, .int .u8 c] w fun e w' => e = .returned (.int .i64 (Lib.indexByte s.data.toList c.toNat.toUInt8)) ∧ w' = w := by
  go_enter Try.func24, Try.ntmps24
  go_wp2
  rw [run_callFunc_extern Try.func25 (by kernel_rfl) (by kernel_rfl) (by kernel_rfl) (e := Extern.BytealgIndexByte.indexByte) (by kernel_rfl), Lib.run_indexByteString]
  simp only [Result.andThen]
  rw [Oper.upon_value]
  go_wp2
  go_ret
  exact ⟨rfl, rfl⟩
noncomputable def stringslite_IndexByte_ce : CE := ⟨24, ⟨[.str, (.int .u8)], [(0, .v 0), (1, .v 1)], []⟩, ⟨[(.int .i64)], [(0, .v 0)], []⟩, fun X => stringslite_IndexByte X.1 X.2⟩
theorem stringslite_IndexByte_ok : CE.ok Try.prog stringslite_IndexByte_ce := ce_ixByte Try.call24 stringslite_IndexByte_calls

def strings_IndexByte_sig : Shape := ⟨[.str, (.int .u8)], [(0, .v 0), (1, .v 1)], []⟩
def strings_IndexByte_out : Shape := ⟨[(.int .i64)], [(0, .v 0)], []⟩
noncomputable def strings_IndexByte_ce : CE := ⟨23, strings_IndexByte_sig, strings_IndexByte_out, fun X => strings_IndexByte X.1 X.2⟩
theorem strings_IndexByte_ok : CE.ok Try.prog strings_IndexByte_ce := CE.of (Γ := [stringslite_IndexByte_ce]) (by kernel_rfl) TT_ok (GOK.cons stringslite_IndexByte_ok (GOK.nil)) ⟨[], [], [], []⟩ Try.func23 rfl Try.ntmps23 (rs := [.tmp 4]) rfl (sig := strings_IndexByte_sig) (out := strings_IndexByte_out) rfl Try.call23 (fun X => by kernel_rfl)

def regular_reader_begins_sig : Shape := ⟨[(.pair .str (.pair (.int .i64) (.pair (.int .i64) .unit)))], [(0, .addr 0)], []⟩
def regular_reader_begins_out : Shape := ⟨[.bool], [(0, .v 0)], []⟩
noncomputable def regular_reader_begins_ce : CE := ⟨20, regular_reader_begins_sig, regular_reader_begins_out, fun X => regular_reader_begins X⟩
theorem regular_reader_begins_ok : CE.ok Try.prog regular_reader_begins_ce := CE.of (Γ := [regular_reader_now_ce, strings_IndexByte_ce]) (by kernel_rfl) TT_ok (GOK.cons regular_reader_now_ok (GOK.cons strings_IndexByte_ok (GOK.nil))) ⟨[], [], [(1, [(0, 0), (0, 1), (0, 2), (0, 3), (0, 4), (0, 5), (0, 6), (0, 7), (0, 8), (0, 9), (0, 10), (0, 11), (1, 12), (1, 13), (0, 14), (0, 15), (0, 16)])], []⟩ Try.func20 rfl Try.ntmps20 (rs := [.tmp 2]) rfl (sig := regular_reader_begins_sig) (out := regular_reader_begins_out) rfl Try.call20 (fun X => by kernel_rfl)

def regular_reader_whole_sig : Shape := ⟨[.str, (.int .i64), (.int .i64)], [(0, .ptr 100000 0)], [(100000, .box 42 [.v 0, .v 1, .v 2])]⟩
def regular_reader_whole_out : Shape := ⟨[(.tree (.pair (.int .i64) (.pair (.int .i64) .unit))), .str, (.int .i64), (.int .i64)], [(0, .v 0)], [(100000, .box 42 [.v 1, .v 2, .v 3])]⟩
noncomputable def regular_reader_whole_ce : CEp := ⟨10, regular_reader_whole_sig, regular_reader_whole_out, LFix regular_reader_whole_F⟩
def regular_reader_part_sig : Shape := ⟨[.str, (.int .i64), (.int .i64)], [(0, .ptr 100000 0)], [(100000, .box 42 [.v 0, .v 1, .v 2])]⟩
def regular_reader_part_out : Shape := ⟨[(.tree (.pair (.int .i64) (.pair (.int .i64) .unit))), .str, (.int .i64), (.int .i64)], [(0, .v 0)], [(100000, .box 42 [.v 1, .v 2, .v 3])]⟩
noncomputable def regular_reader_part_ce (rec : Tup regular_reader_whole_sig.tys → Option (Tup regular_reader_whole_out.tys ⊕ (Int × Int))) : CEp := ⟨22, regular_reader_part_sig, regular_reader_part_out, fun X => regular_reader_part (fun c c_1 c_2 => rec (c, c_1, c_2)) X.1 X.2.1 X.2.2⟩
theorem regular_reader_part_ok (rec : Tup regular_reader_whole_sig.tys → Option (Tup regular_reader_whole_out.tys ⊕ (Int × Int))) (hrec : CEp.ok Try.prog 39 ⟨10, regular_reader_whole_sig, regular_reader_whole_out, rec⟩) : CEp.ok Try.prog 39 (regular_reader_part_ce rec) := CEp.of (Γ := [regular_reader_now_ce]) (Γp := [⟨10, regular_reader_whole_sig, regular_reader_whole_out, rec⟩, regular_reader_fail_ce]) (by kernel_rfl) TT_ok (GOK.cons regular_reader_now_ok (GOK.nil)) (GPOK.cons hrec (GPOK.cons regular_reader_fail_ok (GPOK.nil))) ⟨[], [(5, ⟨⟨[.bool], [(26, .v 0)], []⟩, [27, 28, 29, 30, 31, 32], [], [], 0, []⟩), (10, ⟨⟨[], [], []⟩, [48, 49, 50, 51, 52, 53, 54], [], [], 0, []⟩)], [(2000010, [(0, 0), (5, 1)]), (2000013, [(0, 0), (5, 1), (0, 2)]), (2000015, [(0, 0), (5, 1)]), (2000019, [(0, 0), (5, 1)])], []⟩ Try.func22 rfl Try.ntmps22 (rs := [.tmp 2]) rfl (sig := regular_reader_part_sig) (out := regular_reader_part_out) rfl Try.call22 (fun X => by kernel_rfl)
def regular_reader_one_sig : Shape := ⟨[.str, (.int .i64), (.int .i64)], [(0, .ptr 100000 0)], [(100000, .box 42 [.v 0, .v 1, .v 2])]⟩
def regular_reader_one_out : Shape := ⟨[(.tree (.pair (.int .i64) (.pair (.int .i64) .unit))), .str, (.int .i64), (.int .i64)], [(0, .v 0)], [(100000, .box 42 [.v 1, .v 2, .v 3])]⟩
noncomputable def regular_reader_one_ce (rec : Tup regular_reader_whole_sig.tys → Option (Tup regular_reader_whole_out.tys ⊕ (Int × Int))) : CEp := ⟨19, regular_reader_one_sig, regular_reader_one_out, fun X => regular_reader_one (fun c c_1 c_2 => rec (c, c_1, c_2)) X.1 X.2.1 X.2.2⟩
theorem regular_reader_one_ok (rec : Tup regular_reader_whole_sig.tys → Option (Tup regular_reader_whole_out.tys ⊕ (Int × Int))) (hrec : CEp.ok Try.prog 39 ⟨10, regular_reader_whole_sig, regular_reader_whole_out, rec⟩) : CEp.ok Try.prog 39 (regular_reader_one_ce rec) := CEp.of (Γ := [regular_reader_now_ce]) (Γp := [regular_reader_part_ce rec]) (by kernel_rfl) TT_ok (GOK.cons regular_reader_now_ok (GOK.nil)) (GPOK.cons (regular_reader_part_ok rec hrec) (GPOK.nil)) ⟨[(2, ⟨⟨[(.tree (.pair (.int .i64) (.pair (.int .i64) .unit))), .str, (.int .i64), (.int .i64)], [(0, .ptr 100000 0), (3, .v 0)], [(100000, .box 42 [.v 1, .v 2, .v 3])]⟩, [6, 7, 8, 9, 10, 11, 12, 13, 14, 15, 16, 17, 18, 19], [], [], 0, []⟩)], [], [(2000001, [(0, 0), (5, 1), (0, 2)])], []⟩ Try.func19 rfl Try.ntmps19 (rs := [.tmp 2]) rfl (sig := regular_reader_one_sig) (out := regular_reader_one_out) rfl Try.call19 (fun X => by kernel_rfl)
def regular_reader_row_sig : Shape := ⟨[.str, (.int .i64), (.int .i64)], [(0, .ptr 100000 0)], [(100000, .box 42 [.v 0, .v 1, .v 2])]⟩
def regular_reader_row_out : Shape := ⟨[(.tree (.pair (.int .i64) (.pair (.int .i64) .unit))), .str, (.int .i64), (.int .i64)], [(0, .v 0)], [(100000, .box 42 [.v 1, .v 2, .v 3])]⟩
noncomputable def regular_reader_row_ce (rec : Tup regular_reader_whole_sig.tys → Option (Tup regular_reader_whole_out.tys ⊕ (Int × Int))) : CEp := ⟨16, regular_reader_row_sig, regular_reader_row_out, fun X => regular_reader_row (fun c c_1 c_2 => rec (c, c_1, c_2)) X.1 X.2.1 X.2.2⟩
theorem regular_reader_row_ok (rec : Tup regular_reader_whole_sig.tys → Option (Tup regular_reader_whole_out.tys ⊕ (Int × Int))) (hrec : CEp.ok Try.prog 39 ⟨10, regular_reader_whole_sig, regular_reader_whole_out, rec⟩) : CEp.ok Try.prog 39 (regular_reader_row_ce rec) := CEp.of (Γ := [regular_reader_begins_ce]) (Γp := [regular_reader_one_ce rec]) (by kernel_rfl) TT_ok (GOK.cons regular_reader_begins_ok (GOK.nil)) (GPOK.cons (regular_reader_one_ok rec hrec) (GPOK.nil)) ⟨[(2, ⟨⟨[.str, (.int .i64), (.int .i64), (.int .i64), (.int .i64), (.list (.tree (.pair (.int .i64) (.pair (.int .i64) .unit))))], [(0, .ptr 100000 0), (3, .ptr 1 0)], [(100000, .box 42 [.v 0, .v 1, .v 2]), (1, .box 52 [.v 3, .v 4, .own 0]), (0, .arr 30 5)]⟩, [6, 7, 8, 9, 10, 11, 12, 13, 14, 15, 16, 17, 18, 19, 20, 21], [], [], 2, []⟩)], [(3, ⟨⟨[.str, (.int .i64), (.int .i64), (.int .i64), (.int .i64), (.list (.tree (.pair (.int .i64) (.pair (.int .i64) .unit))))], [(0, .ptr 100000 0), (3, .ptr 1 0)], [(100000, .box 42 [.v 0, .v 1, .v 2]), (1, .box 52 [.v 3, .v 4, .own 0]), (0, .arr 30 5)]⟩, [6, 7, 8, 9, 10, 11, 12, 13, 14, 15, 16, 17, 18, 19, 20, 21], [], [], 2, []⟩)], [(2000001, [(0, 0), (5, 1), (2, 2), (1, 3), (2, 4), (0, 5)]), (4000003, [])], [(3, (.pnd (.one 0 (.one 1 (.one 2 (.one 3 (.one 5 (.rd 1 4 [8, 9, 10, 11] (.alt 5 6 (.alt 1 7 (.alt 2 8 (.one 9 (.one 10 (.alt 2 11 .leaf .stop))) .stop) .stop) .stop)))))))))]⟩ Try.func16 rfl Try.ntmps16 (rs := [.tmp 2]) rfl (sig := regular_reader_row_sig) (out := regular_reader_row_out) rfl Try.call16 (fun X => by kernel_rfl)
theorem regular_reader_whole_ok : CEp.ok Try.prog 39 regular_reader_whole_ce := CEp.ofRec (Γ := [regular_reader_now_ce]) (Γp := fun rec => [regular_reader_row_ce rec]) (by kernel_rfl) TT_ok (GOK.cons regular_reader_now_ok (GOK.nil)) ⟨[(2, ⟨⟨[.str, (.int .i64), (.int .i64), (.int .i64), (.int .i64), (.list (.tree (.pair (.int .i64) (.pair (.int .i64) .unit))))], [(0, .ptr 100000 0), (3, .ptr 1 0)], [(100000, .box 42 [.v 0, .v 1, .v 2]), (1, .box 52 [.v 3, .v 4, .own 0]), (0, .arr 30 5)]⟩, [6, 7, 8, 9, 10, 11, 12, 13, 14, 15, 16, 17, 18, 19, 20, 21, 22, 23, 24, 25, 26, 27, 28, 29], [], [], 2, []⟩)], [(4, ⟨⟨[.str, (.int .i64), (.int .i64), (.int .i64), (.int .i64), (.list (.tree (.pair (.int .i64) (.pair (.int .i64) .unit))))], [(0, .ptr 100000 0), (3, .ptr 1 0)], [(100000, .box 42 [.v 0, .v 1, .v 2]), (1, .box 52 [.v 3, .v 4, .own 0]), (0, .arr 30 5)]⟩, [6, 7, 8, 9, 10, 11, 12, 13, 14, 15, 16, 17, 18, 19, 20, 21, 22, 23, 24, 25, 26, 27, 28, 29], [], [], 2, []⟩)], [(2000001, [(0, 0), (5, 1), (2, 2), (1, 3), (2, 4), (0, 5)]), (4000004, [])], [(4, (.pnd (.one 0 (.one 1 (.one 2 (.one 3 (.one 5 (.rd 1 4 [8, 9, 10, 11] (.alt 5 6 (.alt 1 7 (.alt 2 8 (.one 9 (.one 10 (.alt 2 11 .leaf .stop))) .stop) .stop) .stop)))))))))]⟩ Try.func10 rfl Try.ntmps10 (rs := [.tmp 2]) rfl (sig := regular_reader_whole_sig) (out := regular_reader_whole_out) rfl (fun rec hrec => (GPOK.cons (regular_reader_row_ok rec hrec) (GPOK.nil))) Try.call10 (d := regular_reader_whole_F) (fun rc X => by kernel_rfl)
noncomputable def regular_reader_part_c_ce : CEp := regular_reader_part_ce (LFix regular_reader_whole_F)
theorem regular_reader_part_c_ok : CEp.ok Try.prog 39 regular_reader_part_c_ce := regular_reader_part_ok _ regular_reader_whole_ok
noncomputable def regular_reader_one_c_ce : CEp := regular_reader_one_ce (LFix regular_reader_whole_F)
theorem regular_reader_one_c_ok : CEp.ok Try.prog 39 regular_reader_one_c_ce := regular_reader_one_ok _ regular_reader_whole_ok
noncomputable def regular_reader_row_c_ce : CEp := regular_reader_row_ce (LFix regular_reader_whole_F)
theorem regular_reader_row_c_ok : CEp.ok Try.prog 39 regular_reader_row_c_ce := regular_reader_row_ok _ regular_reader_whole_ok

def regular_parsed_sig : Shape := ⟨[.str], [(0, .v 0)], []⟩
def regular_parsed_out : Shape := ⟨[(.tree (.pair (.int .i64) (.pair (.int .i64) .unit))), (.pair (.int .i64) (.pair (.int .i64) .unit))], [(0, .v 0), (1, .v 1)], []⟩
noncomputable def regular_parsed_ce : CE := ⟨6, regular_parsed_sig, regular_parsed_out, fun X => regular_parsed X⟩
theorem regular_parsed_tail (p : Int × Int) : evC TT [] [] 0 bothS ⟨[], [], [], [(7, .one 0 (.alt 0 1 (.leaf [(2, 2), (2, 3)]) (.alt 2 2 (.leaf [(0, 1), (2, 3)]) .stop)))]⟩ (closeTail (Try.f9.body.getD .skip)) (tailS 13 10 30 24 p) (tailK true 30 24) = bothS (some (p.1, p.2)) (some (p.1, p.2)) := by kernel_rfl
theorem regular_parsed_idle (va vb : Value) (w : World) : CallsD Try.prog 9 #[va, vb] .returning w (fun e u w' => (∃ v, e = .returned v) ∧ u = .returning ∧ w' = w) := by
  refine callsD_of_wpS Try.func9 rfl fun c₀ cs hu => ?_
  apply wpS_seq
  apply wpS_region
  simp [wpOpsS, go_sem, recoverD, hu, Try.ntmps9, Exit.thenS]
  refine wpS_of_wp (wp_block (wp_seq (wp_region ?_)))
  simp [wpOps, go_sem]
  left
  refine wp_cond (t := true) (by simp [Act.eval, Array.replicate]) ?_
  simp only [if_true]
  refine wp_region ?_
  simp [wpOps, go_sem]
  left
  cases c₀
  simp_all [bodyPostS, results, Try.results9]
theorem regular_parsed_caught (p : Int × Int) (w : World) (ba bb : Nat) (ca cb : Array Value) (hne : ba ≠ bb) (h1 : w.heap[ba]? = some (.cells ca 30 (0, 0))) (h2 : ca.size = 1) (h3 : w.heap[bb]? = some (.cells cb 24 (0, 0))) (h4 : cb.size = 2) :
    CallsD Try.prog 9 #[.pointer (some ⟨ba, 0, none⟩), .pointer (some ⟨bb, 0, none⟩)] (.panicking (pch 39 p)) w (fun e u w' => (∃ v, e = .returned v) ∧ settle u = .returning ∧
      (w'.os = w.os ∧ w'.tape = w.tape ∧ w'.output = w.output ∧ w.heap.size ≤ w'.heap.size) ∧ (∀ b, b < w.heap.size → b ≠ ba → b ≠ bb → w'.heap[b]? = w.heap[b]?) ∧
      w'.heap[ba]? = some (.cells #[zV true] 30 (0, 0)) ∧ w'.heap[bb]? = some (.cells #[.int .i64 p.1, .int .i64 p.2] 24 (0, 0))) := by
  refine callsD_of_wpS Try.func9 rfl fun c₀ cs hu => ?_
  apply wpS_seq
  apply wpS_region
  simp [wpOpsS, go_sem, recoverD, hu, Try.ntmps9, Exit.thenS, pch]
  refine wpS_of_wp (wp_block (wp_seq (wp_region ?_)))
  simp [wpOps, go_sem]
  left
  refine wp_cond (t := false) (by simp [Act.eval, Array.replicate]) ?_
  simp only [Bool.false_eq_true, if_false]
  refine wp_seq (wp_region ?_)
  simp [wpOps, go_sem, run_assert Try.underlying39]
  left
  left
  left
  refine wp_cond (t := true) (by simp [Act.eval, Array.replicate]) ?_
  simp only [if_true]
  refine wp_mono (tail_wp (by kernel_rfl) TT_ok (regular_parsed_tail p) hne h1 h2 h3 h4 ?_ ?_ ?_ ?_ ?_) fun e a' w' hh => ?_
  · simp
  · rfl
  · simp [Array.replicate]
  · simp [Array.replicate]
  · simp [Array.replicate]
  · obtain ⟨rfl, hd, ho, hk, y1, y2⟩ := hh
    exact ⟨hd, _, rfl, .tuple #[], by simp [results, Try.results9], ⟨_, rfl⟩, rfl, ho, hk, y1, y2⟩
theorem regular_parsed_catch : CatchOK Try.prog 39 9 30 24 (zV true) := ⟨Try.call9, regular_parsed_idle, regular_parsed_caught⟩
theorem regular_parsed_ok : CE.ok Try.prog regular_parsed_ce := CE.ofCatch (Γ := []) (Γp := [regular_reader_whole_ce, regular_reader_fail_ce]) (T := 39) (by kernel_rfl) TT_ok (GOK.nil) (GPOK.cons regular_reader_whole_ok (GPOK.cons regular_reader_fail_ok (GPOK.nil))) ⟨[], [], [(3000003, []), (2000005, [(0, 0), (5, 1), (2, 2)]), (2000007, [(0, 0), (5, 1)])], []⟩ Try.func6 rfl Try.ntmps6 (rs := [.cell 2 30, .cell 3 24]) rfl (sig := regular_parsed_sig) (out := regular_parsed_out) rfl Try.call6 (g := 9) (sa := 2) (sb := 3) (Ta := 30) (Tb := 24) (z := zE true) regular_parsed_catch (zE_rel true) (fun X => by kernel_rfl)

def regular_Check_sig : Shape := ⟨[.str], [(0, .v 0)], []⟩
def regular_Check_out : Shape := ⟨[(.pair (.int .i64) (.pair (.int .i64) .unit))], [(0, .v 0)], []⟩
noncomputable def regular_Check_ce : CE := ⟨4, regular_Check_sig, regular_Check_out, fun X => regular_Check X⟩
theorem regular_Check_ok : CE.ok Try.prog regular_Check_ce := CE.of (Γ := [regular_parsed_ce]) (by kernel_rfl) TT_ok (GOK.cons regular_parsed_ok (GOK.nil)) ⟨[], [], [], []⟩ Try.func4 rfl Try.ntmps4 (rs := [.cell 2 24]) rfl (sig := regular_Check_sig) (out := regular_Check_out) rfl Try.call4 (fun X => by kernel_rfl)

def r2_Reader_ok_sig : Shape := ⟨[(.pair .str (.pair (.int .i64) (.pair (.int .i64) (.pair (.list (.pair (.int .i64) (.pair (.int .i64) (.pair (.list (.int .i64)) .unit)))) (.pair (.pair (.int .i64) (.pair (.int .i64) .unit)) .unit)))))], [(0, .addr 0)], []⟩
def r2_Reader_ok_out : Shape := ⟨[.bool], [(0, .v 0)], []⟩
noncomputable def r2_Reader_ok_ce : CE := ⟨14, r2_Reader_ok_sig, r2_Reader_ok_out, fun X => r2_Reader_ok X⟩
theorem r2_Reader_ok_ok : CE.ok Try.prog r2_Reader_ok_ce := CE.of (Γ := []) (by kernel_rfl) TT_ok (GOK.nil) ⟨[], [], [], []⟩ Try.func14 rfl Try.ntmps14 (rs := [.tmp 2]) rfl (sig := r2_Reader_ok_sig) (out := r2_Reader_ok_out) rfl Try.call14 (fun X => by kernel_rfl)

def r2_Reader_now_sig : Shape := ⟨[(.pair .str (.pair (.int .i64) (.pair (.int .i64) (.pair (.list (.pair (.int .i64) (.pair (.int .i64) (.pair (.list (.int .i64)) .unit)))) (.pair (.pair (.int .i64) (.pair (.int .i64) .unit)) .unit)))))], [(0, .addr 0)], []⟩
def r2_Reader_now_out : Shape := ⟨[(.int .u8)], [(0, .v 0)], []⟩
noncomputable def r2_Reader_now_ce : CE := ⟨13, r2_Reader_now_sig, r2_Reader_now_out, fun X => r2_Reader_now X⟩
theorem r2_Reader_now_ok : CE.ok Try.prog r2_Reader_now_ce := CE.of (Γ := []) (by kernel_rfl) TT_ok (GOK.nil) ⟨[], [], [(1, [(0, 0), (0, 1), (0, 2), (0, 3), (0, 4), (0, 5), (0, 6), (0, 7), (0, 8), (0, 9)]), (3, [(0, 0), (0, 1), (0, 2), (0, 3), (0, 4), (0, 5), (0, 6), (0, 7), (0, 8), (0, 9)])], []⟩ Try.func13 rfl Try.ntmps13 (rs := [.tmp 2]) rfl (sig := r2_Reader_now_sig) (out := r2_Reader_now_out) rfl Try.call13 (fun X => by kernel_rfl)

def r2_Reader_put_sig : Shape := ⟨[(.pair (.int .i64) (.pair (.int .i64) (.pair (.list (.int .i64)) .unit))), .str, (.int .i64), (.int .i64), (.int .i64), (.int .i64), (.list (.pair (.int .i64) (.pair (.int .i64) (.pair (.list (.int .i64)) .unit))))], [(0, .ptr 100000 0), (1, .v 0)], [(100000, .box 35 [.v 1, .v 2, .v 3, .own 100001, .v 4, .v 5]), (100001, .arr 49 6)]⟩
def r2_Reader_put_out : Shape := ⟨[(.int .i64), .str, (.int .i64), (.int .i64), (.list (.pair (.int .i64) (.pair (.int .i64) (.pair (.list (.int .i64)) .unit)))), (.int .i64), (.int .i64)], [(0, .v 0)], [(100000, .box 35 [.v 1, .v 2, .v 3, .own 80, .v 5, .v 6]), (80, .arr 49 4)]⟩
noncomputable def r2_Reader_put_ce : CE := ⟨15, r2_Reader_put_sig, r2_Reader_put_out, fun X => r2_Reader_put X.1 X.2.1 X.2.2.1 X.2.2.2.1 X.2.2.2.2.1 X.2.2.2.2.2.1 X.2.2.2.2.2.2⟩
theorem r2_Reader_put_ok : CE.ok Try.prog r2_Reader_put_ce := CE.of (Γ := []) (by kernel_rfl) TT_ok (GOK.nil) ⟨[], [], [(1, [(0, 0), (0, 1), (0, 2), (0, 3), (0, 4), (0, 5), (1, 6), (2, 7), (0, 8), (0, 9), (2, 10)])], []⟩ Try.func15 rfl Try.ntmps15 (rs := [.tmp 4]) rfl (sig := r2_Reader_put_sig) (out := r2_Reader_put_out) rfl Try.call15 (fun X => by kernel_rfl)

def r2_Reader_fail_sig : Shape := ⟨[(.int .i64), .str, (.int .i64), (.int .i64), (.int .i64), (.int .i64), (.list (.pair (.int .i64) (.pair (.int .i64) (.pair (.list (.int .i64)) .unit))))], [(0, .ptr 100000 0), (1, .v 0)], [(100000, .box 35 [.v 1, .v 2, .v 3, .own 100001, .v 4, .v 5]), (100001, .arr 49 6)]⟩
def r2_Reader_fail_out : Shape := ⟨[.str, (.int .i64), (.int .i64), (.list (.pair (.int .i64) (.pair (.int .i64) (.pair (.list (.int .i64)) .unit)))), (.int .i64), (.int .i64)], [], [(100000, .box 35 [.v 0, .v 1, .v 2, .own 80, .v 4, .v 5]), (80, .arr 49 3)]⟩
noncomputable def r2_Reader_fail_ce : CE := ⟨8, r2_Reader_fail_sig, r2_Reader_fail_out, fun X => r2_Reader_fail X.1 X.2.1 X.2.2.1 X.2.2.2.1 X.2.2.2.2.1 X.2.2.2.2.2.1 X.2.2.2.2.2.2⟩
theorem r2_Reader_fail_ok : CE.ok Try.prog r2_Reader_fail_ce := CE.of (Γ := []) (by kernel_rfl) TT_ok (GOK.nil) ⟨[], [], [], []⟩ Try.func8 rfl Try.ntmps8 (rs := []) rfl (sig := r2_Reader_fail_sig) (out := r2_Reader_fail_out) rfl Try.call8 (fun X => by kernel_rfl)

def r2_Reader_whole_sig : Shape := ⟨[.str, (.int .i64), (.int .i64), (.int .i64), (.int .i64), (.list (.pair (.int .i64) (.pair (.int .i64) (.pair (.list (.int .i64)) .unit))))], [(0, .ptr 100000 0)], [(100000, .box 35 [.v 0, .v 1, .v 2, .own 100001, .v 3, .v 4]), (100001, .arr 49 5)]⟩
def r2_Reader_whole_out : Shape := ⟨[(.int .i64), .str, (.int .i64), (.int .i64), (.list (.pair (.int .i64) (.pair (.int .i64) (.pair (.list (.int .i64)) .unit)))), (.int .i64), (.int .i64)], [(0, .v 0)], [(100000, .box 35 [.v 1, .v 2, .v 3, .own 80, .v 5, .v 6]), (80, .arr 49 4)]⟩
noncomputable def r2_Reader_whole_ce : CE := ⟨7, r2_Reader_whole_sig, r2_Reader_whole_out, LFix r2_Reader_whole_F⟩
def r2_Reader_part_sig : Shape := ⟨[.str, (.int .i64), (.int .i64), (.int .i64), (.int .i64), (.list (.pair (.int .i64) (.pair (.int .i64) (.pair (.list (.int .i64)) .unit))))], [(0, .ptr 100000 0)], [(100000, .box 35 [.v 0, .v 1, .v 2, .own 100001, .v 3, .v 4]), (100001, .arr 49 5)]⟩
def r2_Reader_part_out : Shape := ⟨[(.int .i64), .str, (.int .i64), (.int .i64), (.list (.pair (.int .i64) (.pair (.int .i64) (.pair (.list (.int .i64)) .unit)))), (.int .i64), (.int .i64)], [(0, .v 0)], [(100000, .box 35 [.v 1, .v 2, .v 3, .own 80, .v 5, .v 6]), (80, .arr 49 4)]⟩
noncomputable def r2_Reader_part_ce (rec : Tup r2_Reader_whole_sig.tys → Option (Tup r2_Reader_whole_out.tys)) : CE := ⟨21, r2_Reader_part_sig, r2_Reader_part_out, fun X => r2_Reader_part (fun c c_1 c_2 c_3 c_4 l => rec (c, c_1, c_2, c_3, c_4, l)) X.1 X.2.1 X.2.2.1 X.2.2.2.1 X.2.2.2.2.1 X.2.2.2.2.2⟩
theorem r2_Reader_part_ok (rec : Tup r2_Reader_whole_sig.tys → Option (Tup r2_Reader_whole_out.tys)) (hrec : CE.ok Try.prog ⟨7, r2_Reader_whole_sig, r2_Reader_whole_out, rec⟩) : CE.ok Try.prog (r2_Reader_part_ce rec) := CE.of (Γ := [r2_Reader_put_ce, r2_Reader_fail_ce, ⟨7, r2_Reader_whole_sig, r2_Reader_whole_out, rec⟩, r2_Reader_ok_ce, r2_Reader_now_ce]) (by kernel_rfl) TT_ok (GOK.cons r2_Reader_put_ok (GOK.cons r2_Reader_fail_ok (GOK.cons hrec (GOK.cons r2_Reader_ok_ok (GOK.cons r2_Reader_now_ok (GOK.nil)))))) ⟨[], [(11, ⟨⟨[.bool], [(41, .v 0)], []⟩, [36, 37, 38, 39, 40], [], [], 0, []⟩), (25, ⟨⟨[.str, (.int .i64), (.int .i64), (.int .i64), (.int .i64), (.list (.pair (.int .i64) (.pair (.int .i64) (.pair (.list (.int .i64)) .unit))))], [(0, .ptr 100000 0)], [(100000, .box 35 [.v 0, .v 1, .v 2, .own 81, .v 3, .v 4]), (81, .arr 49 5)]⟩, [84, 85, 86, 87], [80], [], 82, []⟩)], [], []⟩ Try.func21 rfl Try.ntmps21 (rs := [.tmp 2]) rfl (sig := r2_Reader_part_sig) (out := r2_Reader_part_out) rfl Try.call21 (fun X => by kernel_rfl)
def r2_Reader_one_sig : Shape := ⟨[.str, (.int .i64), (.int .i64), (.int .i64), (.int .i64), (.list (.pair (.int .i64) (.pair (.int .i64) (.pair (.list (.int .i64)) .unit))))], [(0, .ptr 100000 0)], [(100000, .box 35 [.v 0, .v 1, .v 2, .own 100001, .v 3, .v 4]), (100001, .arr 49 5)]⟩
def r2_Reader_one_out : Shape := ⟨[(.int .i64), .str, (.int .i64), (.int .i64), (.list (.pair (.int .i64) (.pair (.int .i64) (.pair (.list (.int .i64)) .unit)))), (.int .i64), (.int .i64)], [(0, .v 0)], [(100000, .box 35 [.v 1, .v 2, .v 3, .own 80, .v 5, .v 6]), (80, .arr 49 4)]⟩
noncomputable def r2_Reader_one_ce (rec : Tup r2_Reader_whole_sig.tys → Option (Tup r2_Reader_whole_out.tys)) : CE := ⟨18, r2_Reader_one_sig, r2_Reader_one_out, fun X => r2_Reader_one (fun c c_1 c_2 c_3 c_4 l => rec (c, c_1, c_2, c_3, c_4, l)) X.1 X.2.1 X.2.2.1 X.2.2.2.1 X.2.2.2.2.1 X.2.2.2.2.2⟩
theorem r2_Reader_one_ok (rec : Tup r2_Reader_whole_sig.tys → Option (Tup r2_Reader_whole_out.tys)) (hrec : CE.ok Try.prog ⟨7, r2_Reader_whole_sig, r2_Reader_whole_out, rec⟩) : CE.ok Try.prog (r2_Reader_one_ce rec) := CE.of (Γ := [r2_Reader_part_ce rec, r2_Reader_put_ce, r2_Reader_now_ce, r2_Reader_ok_ce]) (by kernel_rfl) TT_ok (GOK.cons (r2_Reader_part_ok rec hrec) (GOK.cons r2_Reader_put_ok (GOK.cons r2_Reader_now_ok (GOK.cons r2_Reader_ok_ok (GOK.nil))))) ⟨[(2, ⟨⟨[(.int .i64), .str, (.int .i64), (.int .i64), (.int .i64), (.int .i64), (.list (.pair (.int .i64) (.pair (.int .i64) (.pair (.list (.int .i64)) .unit))))], [(0, .ptr 100000 0), (3, .v 0)], [(100000, .box 35 [.v 1, .v 2, .v 3, .own 80, .v 4, .v 5]), (80, .arr 49 6)]⟩, [4, 5, 8, 9, 10, 11, 12, 13, 14, 15, 16, 17, 18, 19, 20, 21, 22, 23, 24, 25, 26, 27, 28, 29], [], [], 81, []⟩)], [], [], []⟩ Try.func18 rfl Try.ntmps18 (rs := [.tmp 2]) rfl (sig := r2_Reader_one_sig) (out := r2_Reader_one_out) rfl Try.call18 (fun X => by kernel_rfl)
def r2_Reader_row_sig : Shape := ⟨[.str, (.int .i64), (.int .i64), (.int .i64), (.int .i64), (.list (.pair (.int .i64) (.pair (.int .i64) (.pair (.list (.int .i64)) .unit))))], [(0, .ptr 100000 0)], [(100000, .box 35 [.v 0, .v 1, .v 2, .own 100001, .v 3, .v 4]), (100001, .arr 49 5)]⟩
def r2_Reader_row_out : Shape := ⟨[(.int .i64), .str, (.int .i64), (.int .i64), (.list (.pair (.int .i64) (.pair (.int .i64) (.pair (.list (.int .i64)) .unit)))), (.int .i64), (.int .i64)], [(0, .v 0)], [(100000, .box 35 [.v 1, .v 2, .v 3, .own 80, .v 5, .v 6]), (80, .arr 49 4)]⟩
noncomputable def r2_Reader_row_ce (rec : Tup r2_Reader_whole_sig.tys → Option (Tup r2_Reader_whole_out.tys)) : CE := ⟨12, r2_Reader_row_sig, r2_Reader_row_out, fun X => r2_Reader_row (fun c c_1 c_2 c_3 c_4 l => rec (c, c_1, c_2, c_3, c_4, l)) X.1 X.2.1 X.2.2.1 X.2.2.2.1 X.2.2.2.2.1 X.2.2.2.2.2⟩
theorem r2_Reader_row_ok (rec : Tup r2_Reader_whole_sig.tys → Option (Tup r2_Reader_whole_out.tys)) (hrec : CE.ok Try.prog ⟨7, r2_Reader_whole_sig, r2_Reader_whole_out, rec⟩) : CE.ok Try.prog (r2_Reader_row_ce rec) := CE.of (Γ := [r2_Reader_one_ce rec, r2_Reader_put_ce, r2_Reader_now_ce, r2_Reader_ok_ce]) (by kernel_rfl) TT_ok (GOK.cons (r2_Reader_one_ok rec hrec) (GOK.cons r2_Reader_put_ok (GOK.cons r2_Reader_now_ok (GOK.cons r2_Reader_ok_ok (GOK.nil))))) ⟨[(3, ⟨⟨[.str, (.int .i64), (.int .i64), (.int .i64), (.int .i64), (.list (.int .i64)), (.list (.pair (.int .i64) (.pair (.int .i64) (.pair (.list (.int .i64)) .unit))))], [(0, .ptr 100000 0), (4, .own 81)], [(100000, .box 35 [.v 0, .v 1, .v 2, .own 80, .v 3, .v 4]), (81, .arr 3 5), (80, .arr 49 6)]⟩, [3, 5, 6, 7, 11, 12, 13, 14, 15, 16, 17, 18, 19, 20, 21, 22, 23, 24, 25, 26, 27, 28, 29, 30, 31, 32, 33, 34, 35, 36, 37, 38, 39, 40, 41, 42, 43, 44, 45], [], [], 82, []⟩)], [(5, ⟨⟨[.bool], [(7, .v 0)], []⟩, [16, 17, 18, 19, 20, 21, 22, 23, 24, 25, 26, 27, 28, 29, 30, 31, 32, 33], [], [80, 81], 82, []⟩), (8, ⟨⟨[.str, (.int .i64), (.int .i64), (.int .i64), (.int .i64), (.list (.int .i64)), (.list (.pair (.int .i64) (.pair (.int .i64) (.pair (.list (.int .i64)) .unit))))], [(0, .ptr 100000 0), (4, .own 81)], [(100000, .box 35 [.v 0, .v 1, .v 2, .own 80, .v 3, .v 4]), (81, .arr 3 5), (80, .arr 49 6)]⟩, [3, 5, 6, 7, 11, 12, 13, 14, 15, 16, 17, 18, 19, 20, 21, 22, 23, 24, 25, 26, 27, 28, 29, 30, 31, 32, 33, 34, 35, 36, 37, 38, 39, 40, 41, 42, 43, 44, 45], [], [], 82, []⟩)], [], []⟩ Try.func12 rfl Try.ntmps12 (rs := [.tmp 2]) rfl (sig := r2_Reader_row_sig) (out := r2_Reader_row_out) rfl Try.call12 (fun X => by kernel_rfl)
theorem r2_Reader_whole_ok : CE.ok Try.prog r2_Reader_whole_ce := CE.ofRecM (Γ := fun rec => [r2_Reader_row_ce rec, r2_Reader_put_ce, r2_Reader_now_ce, r2_Reader_ok_ce]) (by kernel_rfl) TT_ok ⟨[(3, ⟨⟨[.str, (.int .i64), (.int .i64), (.int .i64), (.int .i64), (.list (.int .i64)), (.list (.pair (.int .i64) (.pair (.int .i64) (.pair (.list (.int .i64)) .unit))))], [(0, .ptr 100000 0), (4, .own 81)], [(100000, .box 35 [.v 0, .v 1, .v 2, .own 80, .v 3, .v 4]), (81, .arr 3 5), (80, .arr 49 6)]⟩, [3, 5, 6, 10, 11, 12, 13, 14, 15, 16, 17, 18, 19, 20, 21, 22, 23, 24, 25, 26, 27, 28, 29, 30, 31, 32, 33], [], [], 82, []⟩)], [(8, ⟨⟨[.str, (.int .i64), (.int .i64), (.int .i64), (.int .i64), (.list (.int .i64)), (.list (.pair (.int .i64) (.pair (.int .i64) (.pair (.list (.int .i64)) .unit))))], [(0, .ptr 100000 0), (4, .own 81)], [(100000, .box 35 [.v 0, .v 1, .v 2, .own 80, .v 3, .v 4]), (81, .arr 3 5), (80, .arr 49 6)]⟩, [3, 5, 6, 10, 11, 12, 13, 14, 15, 16, 17, 18, 19, 20, 21, 22, 23, 24, 25, 26, 27, 28, 29, 30, 31, 32, 33], [], [], 82, []⟩)], [], []⟩ Try.func7 rfl Try.ntmps7 (rs := [.tmp 2]) rfl (sig := r2_Reader_whole_sig) (out := r2_Reader_whole_out) rfl (fun rec hrec => (GOK.cons (r2_Reader_row_ok rec hrec) (GOK.cons r2_Reader_put_ok (GOK.cons r2_Reader_now_ok (GOK.cons r2_Reader_ok_ok (GOK.nil)))))) Try.call7 (d := r2_Reader_whole_F) (fun rc X => by kernel_rfl)
noncomputable def r2_Reader_part_c_ce : CE := r2_Reader_part_ce (LFix r2_Reader_whole_F)
theorem r2_Reader_part_c_ok : CE.ok Try.prog r2_Reader_part_c_ce := r2_Reader_part_ok _ r2_Reader_whole_ok
noncomputable def r2_Reader_one_c_ce : CE := r2_Reader_one_ce (LFix r2_Reader_whole_F)
theorem r2_Reader_one_c_ok : CE.ok Try.prog r2_Reader_one_c_ce := r2_Reader_one_ok _ r2_Reader_whole_ok
noncomputable def r2_Reader_row_c_ce : CE := r2_Reader_row_ce (LFix r2_Reader_whole_F)
theorem r2_Reader_row_c_ok : CE.ok Try.prog r2_Reader_row_c_ce := r2_Reader_row_ok _ r2_Reader_whole_ok

def r2_Parse_sig : Shape := ⟨[.str], [(0, .v 0)], []⟩
def r2_Parse_out : Shape := ⟨[(.pair (.int .i64) (.pair (.int .i64) .unit)), (.list (.pair (.int .i64) (.pair (.int .i64) (.pair (.list (.int .i64)) .unit))))], [(0, .own 0), (1, .v 0)], [(0, .arr 49 1)]⟩
noncomputable def r2_Parse_ce : CE := ⟨5, r2_Parse_sig, r2_Parse_out, fun X => r2_Parse X⟩
theorem r2_Parse_ok : CE.ok Try.prog r2_Parse_ce := CE.of (Γ := [r2_Reader_whole_ce, r2_Reader_fail_ce]) (by kernel_rfl) TT_ok (GOK.cons r2_Reader_whole_ok (GOK.cons r2_Reader_fail_ok (GOK.nil))) ⟨[], [], [(8, [(0, 0), (0, 1), (0, 2), (0, 3), (0, 4), (2, 5)])], []⟩ Try.func5 rfl Try.ntmps5 (rs := [.tmp 2, .cell 3 24]) rfl (sig := r2_Parse_sig) (out := r2_Parse_out) rfl Try.call5 (fun X => by kernel_rfl)

def law_RegularReads_sig : Shape := ⟨[.str], [(0, .v 0)], []⟩
def law_RegularReads_out : Shape := ⟨[.bool], [(0, .v 0)], []⟩
noncomputable def law_RegularReads_ce : CE := ⟨3, law_RegularReads_sig, law_RegularReads_out, fun X => law_RegularReads X⟩
theorem law_RegularReads_ok : CE.ok Try.prog law_RegularReads_ce := CE.of (Γ := [regular_Check_ce, r2_Parse_ce]) (by kernel_rfl) TT_ok (GOK.cons regular_Check_ok (GOK.cons r2_Parse_ok (GOK.nil))) ⟨[], [], [], []⟩ Try.func3 rfl Try.ntmps3 (rs := [.tmp 2]) rfl (sig := law_RegularReads_sig) (out := law_RegularReads_out) rfl Try.call3 (fun X => by kernel_rfl)

end Go.Proofs.Ytbckhoiofdojkaa.regularReadsW
