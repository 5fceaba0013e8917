/- That the functions of 'LogicHolds' compute so. -/
import Derived.Test.YtnpkoeleenhgbaaLogicHoldsD
import Derived.Test.YtnpkoeleenhgbaaProg
import Derived.KernelRfl
set_option maxHeartbeats 1000000
set_option maxRecDepth 20000
set_option linter.unusedSimpArgs false
set_option linter.unusedVariables false
set_option linter.unusedSectionVars false
namespace Go.Proofs.Ytnpkoeleenhgbaa.logicHoldsW
open Go Go.Ab
def te3 : TE := ⟨3, .int .i64, false, 1, 8, .int .i64 0, some (.int .i64)⟩
theorem te3_ok : TEok Try.prog te3 := ⟨TI.of Try.underlying3 rfl (by kernel_rfl), Try.underlying3, fun t h => by cases h; exact ⟨rfl, rfl, by decide, rfl⟩⟩
def te4 : TE := ⟨4, .bool, false, 1, 1, .bool false, some .bool⟩
theorem te4_ok : TEok Try.prog te4 := ⟨TI.of Try.underlying4 rfl (by kernel_rfl), Try.underlying4, fun t h => by cases h; exact ⟨rfl, rfl, by decide, rfl⟩⟩
def te5 : TE := ⟨5, .int .u8, false, 1, 1, .int .u8 0, some (.int .u8)⟩
theorem te5_ok : TEok Try.prog te5 := ⟨TI.of Try.underlying5 rfl (by kernel_rfl), Try.underlying5, fun t h => by cases h; exact ⟨rfl, rfl, by decide, rfl⟩⟩
def te9 : TE := ⟨9, .str, false, 1, 16, .string ⟨⟨[]⟩⟩, some .str⟩
theorem te9_ok : TEok Try.prog te9 := ⟨TI.of Try.underlying9 rfl (by kernel_rfl), Try.underlying9, fun t h => by cases h; exact ⟨rfl, rfl, by decide, rfl⟩⟩
def te22 : TE := ⟨22, .slice 3, false, 1, 24, .slice none 0 0, some (.list (.int .i64))⟩
theorem te22_ok : TEok Try.prog te22 := ⟨TI.of Try.underlying22 rfl (by kernel_rfl), Try.underlying22, fun t h => by cases h; exact ⟨rfl, rfl, by decide, rfl⟩⟩
def te23 : TE := ⟨23, .int .i64, false, 1, 8, .int .i64 0, some (.int .i64)⟩
theorem te23_ok : TEok Try.prog te23 := ⟨TI.of Try.underlying23 rfl (by kernel_rfl), Try.underlying23, fun t h => by cases h; exact ⟨rfl, rfl, by decide, rfl⟩⟩
def te26 : TE := ⟨26, .slice 44, false, 1, 24, .slice none 0 0, some (.list (.pair (.int .i64) (.pair (.int .i64) (.pair (.int .i64) (.pair (.int .i64) (.pair .bool .unit))))))⟩
theorem te26_ok : TEok Try.prog te26 := ⟨TI.of Try.underlying26 rfl (by kernel_rfl), Try.underlying26, fun t h => by cases h; exact ⟨rfl, rfl, by decide, rfl⟩⟩
def te28 : TE := ⟨28, .struct [(0, 23), (1, 3)] none, true, 2, 16, .agg ⟨[.int .i64 0, .int .i64 0]⟩, some (.pair (.int .i64) (.pair (.int .i64) .unit))⟩
theorem te28_ok : TEok Try.prog te28 := ⟨TI.of Try.underlying28 rfl (by kernel_rfl), ⟨⟨_, Try.underlying28, rfl⟩, fun t h => by cases h⟩, fun t h => by cases h; exact ⟨rfl, rfl, by decide, rfl⟩⟩
def te34 : TE := ⟨34, .other, false, 1, 8, .pointer none, some (.tree (.pair (.int .i64) (.pair (.int .i64) (.pair (.int .i64) (.pair (.int .i64) (.pair .bool .unit))))))⟩
theorem te34_ok : TEok Try.prog te34 := ⟨TI.of Try.underlying34 rfl (by kernel_rfl), trivial, fun t h => by cases h; exact ⟨rfl, rfl, by decide, rfl⟩⟩
def te40 : TE := ⟨40, .struct [(0, 9), (1, 3), (2, 3), (3, 3), (4, 9), (5, 26), (6, 28)] none, true, 8, 96, .agg ⟨[.string ⟨⟨[]⟩⟩, .int .i64 0, .int .i64 0, .int .i64 0, .string ⟨⟨[]⟩⟩, .slice none 0 0, .int .i64 0, .int .i64 0]⟩, some (.pair .str (.pair (.int .i64) (.pair (.int .i64) (.pair (.int .i64) (.pair .str (.pair (.list (.pair (.int .i64) (.pair (.int .i64) (.pair (.int .i64) (.pair (.int .i64) (.pair .bool .unit)))))) (.pair (.pair (.int .i64) (.pair (.int .i64) .unit)) .unit)))))))⟩
theorem te40_ok : TEok Try.prog te40 := ⟨TI.of Try.underlying40 rfl (by kernel_rfl), ⟨⟨_, Try.underlying40, rfl⟩, fun t h => by cases h⟩, fun t h => by cases h; exact ⟨rfl, rfl, by decide, rfl⟩⟩
def te44 : TE := ⟨44, .struct [(0, 3), (1, 3), (2, 3), (3, 3), (4, 4)] none, true, 5, 40, .agg ⟨[.int .i64 0, .int .i64 0, .int .i64 0, .int .i64 0, .bool false]⟩, some (.pair (.int .i64) (.pair (.int .i64) (.pair (.int .i64) (.pair (.int .i64) (.pair .bool .unit)))))⟩
theorem te44_ok : TEok Try.prog te44 := ⟨TI.of Try.underlying44 rfl (by kernel_rfl), ⟨⟨_, Try.underlying44, rfl⟩, fun t h => by cases h⟩, fun t h => by cases h; exact ⟨rfl, rfl, by decide, rfl⟩⟩
def te46 : TE := ⟨46, .struct [(0, 28)] none, true, 2, 16, .agg ⟨[.int .i64 0, .int .i64 0]⟩, some (.pair (.pair (.int .i64) (.pair (.int .i64) .unit)) .unit)⟩
theorem te46_ok : TEok Try.prog te46 := ⟨TI.of Try.underlying46 rfl (by kernel_rfl), ⟨⟨_, Try.underlying46, rfl⟩, fun t h => by cases h⟩, fun t h => by cases h; exact ⟨rfl, rfl, by decide, rfl⟩⟩
def te48 : TE := ⟨48, .slice 5, false, 1, 24, .slice none 0 0, some (.list (.int .u8))⟩
theorem te48_ok : TEok Try.prog te48 := ⟨TI.of Try.underlying48 rfl (by kernel_rfl), Try.underlying48, fun t h => by cases h; exact ⟨rfl, rfl, by decide, rfl⟩⟩
def te50 : TE := ⟨50, .struct [(0, 9), (1, 3), (2, 3), (3, 3), (4, 48)] none, true, 5, 64, .agg ⟨[.string ⟨⟨[]⟩⟩, .int .i64 0, .int .i64 0, .int .i64 0, .slice none 0 0]⟩, some (.pair .str (.pair (.int .i64) (.pair (.int .i64) (.pair (.int .i64) (.pair (.list (.int .u8)) .unit)))))⟩
theorem te50_ok : TEok Try.prog te50 := ⟨TI.of Try.underlying50 rfl (by kernel_rfl), ⟨⟨_, Try.underlying50, rfl⟩, fun t h => by cases h⟩, fun t h => by cases h; exact ⟨rfl, rfl, by decide, rfl⟩⟩
def te52 : TE := ⟨52, .slice 34, false, 1, 24, .slice none 0 0, some (.list (.tree (.pair (.int .i64) (.pair (.int .i64) (.pair (.int .i64) (.pair (.int .i64) (.pair .bool .unit)))))))⟩
theorem te52_ok : TEok Try.prog te52 := ⟨TI.of Try.underlying52 rfl (by kernel_rfl), Try.underlying52, fun t h => by cases h; exact ⟨rfl, rfl, by decide, rfl⟩⟩
def te54 : TE := ⟨54, .struct [(0, 3), (1, 3), (2, 3), (3, 3), (4, 4), (5, 52)] none, true, 6, 64, .agg ⟨[.int .i64 0, .int .i64 0, .int .i64 0, .int .i64 0, .bool false, .slice none 0 0]⟩, some (.pair (.int .i64) (.pair (.int .i64) (.pair (.int .i64) (.pair (.int .i64) (.pair .bool (.pair (.list (.tree (.pair (.int .i64) (.pair (.int .i64) (.pair (.int .i64) (.pair (.int .i64) (.pair .bool .unit))))))) .unit))))))⟩
theorem te54_ok : TEok Try.prog te54 := ⟨TI.of Try.underlying54 rfl (by kernel_rfl), ⟨⟨_, Try.underlying54, rfl⟩, fun t h => by cases h⟩, fun t h => by cases h; exact ⟨rfl, rfl, by decide, rfl⟩⟩
def TT : List TE := [te3, te4, te5, te9, te22, te23, te26, te28, te34, te40, te44, te46, te48, te50, te52, te54]
theorem TT_ok : TOK Try.prog TT := TOK.cons te3_ok (TOK.cons te4_ok (TOK.cons te5_ok (TOK.cons te9_ok (TOK.cons te22_ok (TOK.cons te23_ok (TOK.cons te26_ok (TOK.cons te28_ok (TOK.cons te34_ok (TOK.cons te40_ok (TOK.cons te44_ok (TOK.cons te46_ok (TOK.cons te48_ok (TOK.cons te50_ok (TOK.cons te52_ok (TOK.cons te54_ok (TOK.nil))))))))))))))))

def logic_reader_now_sig : Shape := ⟨[(.pair .str (.pair (.int .i64) (.pair (.int .i64) (.pair (.int .i64) (.pair (.list (.int .u8)) .unit)))))], [(0, .addr 0)], []⟩
def logic_reader_now_out : Shape := ⟨[(.int .u8)], [(0, .v 0)], []⟩
noncomputable def logic_reader_now_ce : CE := ⟨22, logic_reader_now_sig, logic_reader_now_out, fun X => logic_reader_now X⟩
theorem logic_reader_now_ok : CE.ok Try.prog logic_reader_now_ce := CE.of (Γ := []) (by kernel_rfl) TT_ok (GOK.nil) ⟨[], [], [(1, [(0, 0), (0, 1), (0, 2), (0, 3), (0, 4), (0, 5), (0, 6), (0, 7), (0, 8), (0, 9)]), (3, [(0, 0), (0, 1), (0, 2), (0, 3), (0, 4), (0, 5), (0, 6), (0, 7), (0, 8), (0, 9)])], []⟩ Try.func22 rfl Try.ntmps22 (rs := [.tmp 2]) rfl (sig := logic_reader_now_sig) (out := logic_reader_now_out) rfl Try.call22 (fun X => by kernel_rfl)

def logic_reader_fail_sig : Shape := ⟨[(.pair .str (.pair (.int .i64) (.pair (.int .i64) (.pair (.int .i64) (.pair (.list (.int .u8)) .unit))))), (.int .i64), (.int .i64)], [(0, .addr 0), (1, .v 1), (2, .v 2)], []⟩
def logic_reader_fail_out : Shape := ⟨[], [], []⟩
noncomputable def logic_reader_fail_ce : CEp := ⟨15, logic_reader_fail_sig, logic_reader_fail_out, fun X => logic_reader_fail X.1 X.2.1 X.2.2⟩
theorem logic_reader_fail_ok : CEp.ok Try.prog 46 logic_reader_fail_ce := CEp.of (Γ := []) (Γp := []) (by kernel_rfl) TT_ok (GOK.nil) (GPOK.nil) ⟨[], [], [(2000000, [(0, 0), (0, 1), (0, 2), (0, 3), (6, 4), (2, 5)])], []⟩ Try.func15 rfl Try.ntmps15 (rs := []) rfl (sig := logic_reader_fail_sig) (out := logic_reader_fail_out) rfl Try.call15 (fun X => by kernel_rfl)

def logic_reader_counted_sig : Shape := ⟨[.str, (.int .i64), (.int .i64), (.int .i64), (.list (.int .u8))], [(0, .ptr 100000 0)], [(100000, .box 50 [.v 0, .v 1, .v 2, .v 3, .own 100001]), (100001, .arr 5 4)]⟩
def logic_reader_counted_out : Shape := ⟨[.str, (.int .i64), (.int .i64), (.int .i64), (.list (.int .u8))], [], [(100000, .box 50 [.v 0, .v 1, .v 2, .v 3, .own 90]), (90, .arr 5 4)]⟩
noncomputable def logic_reader_counted_ce : CEp := ⟨23, logic_reader_counted_sig, logic_reader_counted_out, fun X => logic_reader_counted X.1 X.2.1 X.2.2.1 X.2.2.2.1 X.2.2.2.2⟩
theorem logic_reader_counted_ok : CEp.ok Try.prog 46 logic_reader_counted_ce := CEp.of (Γ := []) (Γp := [logic_reader_fail_ce]) (by kernel_rfl) TT_ok (GOK.nil) (GPOK.cons logic_reader_fail_ok (GPOK.nil)) ⟨[], [], [(2000002, [(0, 0), (0, 1), (0, 2), (0, 3), (0, 4), (5, 5)])], []⟩ Try.func23 rfl Try.ntmps23 (rs := []) rfl (sig := logic_reader_counted_sig) (out := logic_reader_counted_out) rfl Try.call23 (fun X => by kernel_rfl)

def logic_place_sig : Shape := ⟨[(.int .u8)], [(0, .v 0)], []⟩
def logic_place_out : Shape := ⟨[.bool], [(0, .v 0)], []⟩
noncomputable def logic_place_ce : CE := ⟨28, logic_place_sig, logic_place_out, fun X => logic_place X⟩
theorem logic_place_ok : CE.ok Try.prog logic_place_ce := CE.of (Γ := []) (by kernel_rfl) TT_ok (GOK.nil) ⟨[], [], [], []⟩ Try.func28 rfl Try.ntmps28 (rs := [.tmp 2]) rfl (sig := logic_place_sig) (out := logic_place_out) rfl Try.call28 (fun X => by kernel_rfl)

def logic_set_sig : Shape := ⟨[(.int .u8)], [(0, .v 0)], []⟩
def logic_set_out : Shape := ⟨[.bool], [(0, .v 0)], []⟩
noncomputable def logic_set_ce : CE := ⟨29, logic_set_sig, logic_set_out, fun X => logic_set X⟩
theorem logic_set_ok : CE.ok Try.prog logic_set_ce := CE.of (Γ := []) (by kernel_rfl) TT_ok (GOK.nil) ⟨[], [], [], []⟩ Try.func29 rfl Try.ntmps29 (rs := [.tmp 2]) rfl (sig := logic_set_sig) (out := logic_set_out) rfl Try.call29 (fun X => by kernel_rfl)

def logic_reader_known_sig : Shape := ⟨[.str, (.int .i64), (.int .i64), (.int .i64), (.list (.int .u8))], [(0, .ptr 100000 0)], [(100000, .box 50 [.v 0, .v 1, .v 2, .v 3, .own 100001]), (100001, .arr 5 4)]⟩
def logic_reader_known_out : Shape := ⟨[(.int .i64), .str, (.int .i64), (.int .i64), (.int .i64), (.list (.int .u8))], [(0, .v 0)], [(100000, .box 50 [.v 1, .v 2, .v 3, .v 4, .own 90]), (90, .arr 5 5)]⟩
noncomputable def logic_reader_known_ce : CEp := ⟨34, logic_reader_known_sig, logic_reader_known_out, fun X => logic_reader_known X.1 X.2.1 X.2.2.1 X.2.2.2.1 X.2.2.2.2⟩
theorem logic_reader_known_ok : CEp.ok Try.prog 46 logic_reader_known_ce := CEp.of (Γ := [logic_reader_now_ce]) (Γp := [logic_reader_fail_ce]) (by kernel_rfl) TT_ok (GOK.cons logic_reader_now_ok (GOK.nil)) (GPOK.cons logic_reader_fail_ok (GPOK.nil)) ⟨[(2, ⟨⟨[(.int .i64)], [(3, .v 0)], []⟩, [2, 10, 11, 12, 13, 14, 15, 16, 17, 18, 19, 20, 21, 22, 23, 24, 25, 26, 27, 28, 29, 30, 31], [], [], 0, []⟩)], [], [(4, [(0, 0), (0, 1), (0, 2), (0, 3), (0, 4), (0, 5), (0, 6), (0, 7), (1, 8), (0, 9)]), (2000007, [(0, 0), (0, 1), (0, 2), (0, 3), (0, 4), (5, 5)])], []⟩ Try.func34 rfl Try.ntmps34 (rs := [.tmp 2]) rfl (sig := logic_reader_known_sig) (out := logic_reader_known_out) rfl Try.call34 (fun X => by kernel_rfl)

def logic_reader_place_sig : Shape := ⟨[.str, (.int .i64), (.int .i64), (.int .i64), (.list (.int .u8))], [(0, .ptr 100000 0)], [(100000, .box 50 [.v 0, .v 1, .v 2, .v 3, .own 100001]), (100001, .arr 5 4)]⟩
def logic_reader_place_out : Shape := ⟨[(.int .i64), .str, (.int .i64), (.int .i64), (.int .i64), (.list (.int .u8))], [(0, .v 0)], [(100000, .box 50 [.v 1, .v 2, .v 3, .v 4, .own 90]), (90, .arr 5 5)]⟩
noncomputable def logic_reader_place_ce : CEp := ⟨33, logic_reader_place_sig, logic_reader_place_out, fun X => logic_reader_place X.1 X.2.1 X.2.2.1 X.2.2.2.1 X.2.2.2.2⟩
theorem logic_reader_place_ok : CEp.ok Try.prog 46 logic_reader_place_ce := CEp.of (Γ := [logic_reader_now_ce, logic_place_ce]) (Γp := [logic_reader_known_ce, logic_reader_fail_ce]) (by kernel_rfl) TT_ok (GOK.cons logic_reader_now_ok (GOK.cons logic_place_ok (GOK.nil))) (GPOK.cons logic_reader_known_ok (GPOK.cons logic_reader_fail_ok (GPOK.nil))) ⟨[], [(2, ⟨⟨[], [], []⟩, [3, 4, 5, 6, 7, 8, 9, 10, 11, 12], [], [], 0, []⟩)], [(2000002, [(0, 0), (0, 1), (0, 2), (0, 3), (0, 4), (5, 5)]), (2000003, [(0, 0), (5, 1), (0, 2)])], []⟩ Try.func33 rfl Try.ntmps33 (rs := [.tmp 2]) rfl (sig := logic_reader_place_sig) (out := logic_reader_place_out) rfl Try.call33 (fun X => by kernel_rfl)

theorem stringslite_IndexByte_calls (s : ByteArray) (c : Int) (w : World) : Calls Try.prog 36 #[.string s, .int .u8 c] w fun e w' => e = .returned (.int .i64 (Lib.indexByte s.data.toList c.toNat.toUInt8)) ∧ w' = w := by
  go_enter Try.func36, Try.ntmps36
  go_wp2
  rw [run_callFunc_extern Try.func37 (by kernel_rfl) (by kernel_rfl) (by kernel_rfl) (e := Extern.BytealgIndexByte.indexByte) (by kernel_rfl), Lib.run_indexByteString]
  simp only [Result.andThen]
  rw [Oper.upon_value]
  go_wp2
  go_ret
  exact ⟨rfl, rfl⟩
noncomputable def stringslite_IndexByte_ce : CE := ⟨36, ⟨[.str, (.int .u8)], [(0, .v 0), (1, .v 1)], []⟩, ⟨[(.int .i64)], [(0, .v 0)], []⟩, fun X => stringslite_IndexByte X.1 X.2⟩
theorem stringslite_IndexByte_ok : CE.ok Try.prog stringslite_IndexByte_ce := ce_ixByte Try.call36 stringslite_IndexByte_calls

def strings_IndexByte_sig : Shape := ⟨[.str, (.int .u8)], [(0, .v 0), (1, .v 1)], []⟩
def strings_IndexByte_out : Shape := ⟨[(.int .i64)], [(0, .v 0)], []⟩
noncomputable def strings_IndexByte_ce : CE := ⟨35, strings_IndexByte_sig, strings_IndexByte_out, fun X => strings_IndexByte X.1 X.2⟩
theorem strings_IndexByte_ok : CE.ok Try.prog strings_IndexByte_ce := CE.of (Γ := [stringslite_IndexByte_ce]) (by kernel_rfl) TT_ok (GOK.cons stringslite_IndexByte_ok (GOK.nil)) ⟨[], [], [], []⟩ Try.func35 rfl Try.ntmps35 (rs := [.tmp 4]) rfl (sig := strings_IndexByte_sig) (out := strings_IndexByte_out) rfl Try.call35 (fun X => by kernel_rfl)

def logic_reader_atom_sig : Shape := ⟨[.str, (.int .i64), (.int .i64), (.int .i64), (.list (.int .u8))], [(0, .ptr 100000 0)], [(100000, .box 50 [.v 0, .v 1, .v 2, .v 3, .own 100001]), (100001, .arr 5 4)]⟩
def logic_reader_atom_out : Shape := ⟨[(.tree (.pair (.int .i64) (.pair (.int .i64) (.pair (.int .i64) (.pair (.int .i64) (.pair .bool .unit)))))), .str, (.int .i64), (.int .i64), (.int .i64), (.list (.int .u8))], [(0, .v 0)], [(100000, .box 50 [.v 1, .v 2, .v 3, .v 4, .own 90]), (90, .arr 5 5)]⟩
noncomputable def logic_reader_atom_ce : CEp := ⟨30, logic_reader_atom_sig, logic_reader_atom_out, fun X => logic_reader_atom X.1 X.2.1 X.2.2.1 X.2.2.2.1 X.2.2.2.2⟩
theorem logic_reader_atom_ok : CEp.ok Try.prog 46 logic_reader_atom_ce := CEp.of (Γ := [logic_reader_now_ce, logic_set_ce, logic_place_ce, strings_IndexByte_ce]) (Γp := [logic_reader_counted_ce, logic_reader_place_ce, logic_reader_known_ce, logic_reader_fail_ce]) (by kernel_rfl) TT_ok (GOK.cons logic_reader_now_ok (GOK.cons logic_set_ok (GOK.cons logic_place_ok (GOK.cons strings_IndexByte_ok (GOK.nil))))) (GPOK.cons logic_reader_counted_ok (GPOK.cons logic_reader_place_ok (GPOK.cons logic_reader_known_ok (GPOK.cons logic_reader_fail_ok (GPOK.nil))))) ⟨[], [(2, ⟨⟨[.bool], [(11, .v 0)], []⟩, [12, 13, 14, 15, 16, 17], [], [], 0, []⟩), (23, ⟨⟨[.bool], [(103, .v 0)], []⟩, [97, 98, 99, 100, 101, 102], [], [0, 182], 183, []⟩), (24, ⟨⟨[], [], []⟩, [97, 98, 99, 100, 101, 102, 103, 104, 105, 106, 107, 108, 109], [], [0, 182], 183, []⟩)], [(2000003, [(0, 0), (5, 1)]), (2000005, [(0, 0), (0, 1), (0, 2), (0, 3), (5, 4), (0, 5), (2, 6), (0, 7)]), (2000009, [(0, 0), (0, 1), (5, 2), (0, 3), (0, 4), (2, 5)]), (2000011, [(0, 0), (5, 1)]), (2000013, [(0, 0), (0, 1), (5, 2), (0, 3), (0, 4), (2, 5)]), (2000018, [(0, 0), (0, 1), (5, 2), (0, 3), (0, 4), (2, 5)]), (2000020, [(0, 0), (5, 1)]), (2000024, [(0, 0), (0, 1), (0, 2), (0, 3), (0, 4), (5, 5)]), (2000027, [(0, 0), (0, 1), (5, 2), (0, 3), (0, 4), (2, 5)]), (2000029, [(0, 0), (0, 1), (0, 2), (0, 3), (0, 4), (5, 5)])], []⟩ Try.func30 rfl Try.ntmps30 (rs := [.tmp 2]) rfl (sig := logic_reader_atom_sig) (out := logic_reader_atom_out) rfl Try.call30 (fun X => by kernel_rfl)

def logic_reader_formula_sig : Shape := ⟨[.str, (.int .i64), (.int .i64), (.int .i64), (.list (.int .u8))], [(0, .ptr 100000 0)], [(100000, .box 50 [.v 0, .v 1, .v 2, .v 3, .own 100001]), (100001, .arr 5 4)]⟩
def logic_reader_formula_out : Shape := ⟨[(.tree (.pair (.int .i64) (.pair (.int .i64) (.pair (.int .i64) (.pair (.int .i64) (.pair .bool .unit)))))), .str, (.int .i64), (.int .i64), (.int .i64), (.list (.int .u8))], [(0, .v 0)], [(100000, .box 50 [.v 1, .v 2, .v 3, .v 4, .own 90]), (90, .arr 5 5)]⟩
noncomputable def logic_reader_formula_ce : CEp := ⟨14, logic_reader_formula_sig, logic_reader_formula_out, LFix logic_reader_formula_F⟩
def logic_reader_part_sig : Shape := ⟨[.str, (.int .i64), (.int .i64), (.int .i64), (.list (.int .u8))], [(0, .ptr 100000 0)], [(100000, .box 50 [.v 0, .v 1, .v 2, .v 3, .own 100001]), (100001, .arr 5 4)]⟩
def logic_reader_part_out : Shape := ⟨[(.tree (.pair (.int .i64) (.pair (.int .i64) (.pair (.int .i64) (.pair (.int .i64) (.pair .bool .unit)))))), .str, (.int .i64), (.int .i64), (.int .i64), (.list (.int .u8))], [(0, .v 0)], [(100000, .box 50 [.v 1, .v 2, .v 3, .v 4, .own 90]), (90, .arr 5 5)]⟩
noncomputable def logic_reader_part_ce (rec : Tup logic_reader_formula_sig.tys → Option (Tup logic_reader_formula_out.tys ⊕ (Int × Int))) : CEp := ⟨25, logic_reader_part_sig, logic_reader_part_out, LFix (logic_reader_part_F (fun c c_1 c_2 c_3 l => rec (c, c_1, c_2, c_3, l)))⟩
theorem logic_reader_part_ok (rec : Tup logic_reader_formula_sig.tys → Option (Tup logic_reader_formula_out.tys ⊕ (Int × Int))) (hrec : CEp.ok Try.prog 46 ⟨14, logic_reader_formula_sig, logic_reader_formula_out, rec⟩) : CEp.ok Try.prog 46 (logic_reader_part_ce rec) := CEp.ofRec (Γ := [logic_reader_now_ce, logic_place_ce, logic_set_ce]) (Γp := fun _ => [logic_reader_counted_ce, ⟨14, logic_reader_formula_sig, logic_reader_formula_out, rec⟩, logic_reader_atom_ce, logic_reader_fail_ce]) (by kernel_rfl) TT_ok (GOK.cons logic_reader_now_ok (GOK.cons logic_place_ok (GOK.cons logic_set_ok (GOK.nil)))) ⟨[], [(8, ⟨⟨[], [], []⟩, [29, 30, 31, 32, 33, 34, 35, 36, 37, 38, 39], [], [], 0, []⟩), (17, ⟨⟨[.bool], [(80, .v 0)], []⟩, [81, 82, 83, 84, 85, 86], [], [], 0, []⟩), (19, ⟨⟨[], [], []⟩, [87, 88, 89, 90, 91, 92, 93, 94, 95, 96, 97, 98], [], [], 0, []⟩), (23, ⟨⟨[.bool], [(117, .v 0)], []⟩, [110, 111, 112, 113, 114, 115, 116], [], [90], 91, []⟩), (24, ⟨⟨[], [], []⟩, [110, 111, 112, 113, 114, 115, 116, 117, 118, 119, 120, 121, 122, 123], [], [90], 91, []⟩), (28, ⟨⟨[(.int .i64), (.int .i64), (.int .i64), (.int .i64), .bool], [(6, .ptr 91 0)], [(91, .box 54 [.v 0, .v 1, .v 2, .v 3, .v 4, .nil])]⟩, [134, 135, 136, 137, 138, 139], [], [90], 92, []⟩)], [(2000003, [(0, 0), (5, 1)]), (2000005, [(0, 0), (5, 1), (2, 2), (0, 3), (2, 4), (0, 5)]), (2000008, [(0, 0), (0, 1), (0, 2), (0, 3), (0, 4), (5, 5)]), (2000011, [(0, 0), (5, 1), (0, 2)]), (2000013, [(0, 0), (0, 1), (0, 2), (0, 3), (0, 4), (5, 5)]), (2000019, [(0, 0), (0, 1), (0, 2), (0, 3), (0, 4), (5, 5)]), (2000020, [(0, 0), (5, 1)]), (2000024, [(0, 0), (0, 1), (0, 2), (0, 3), (0, 4), (5, 5)]), (2000030, [(0, 0), (0, 1), (5, 2), (2, 3), (0, 4), (0, 5), (2, 6)]), (31, [(0, 0), (0, 1), (0, 2), (0, 3), (0, 4), (0, 5), (0, 6), (0, 7), (0, 8), (0, 9), (0, 10), (1, 11), (0, 12), (0, 13), (2, 14)]), (2000033, [(0, 0), (5, 1), (0, 2)])], []⟩ Try.func25 rfl Try.ntmps25 (rs := [.tmp 2]) rfl (sig := logic_reader_part_sig) (out := logic_reader_part_out) rfl (fun _ _ => (GPOK.cons logic_reader_counted_ok (GPOK.cons hrec (GPOK.cons logic_reader_atom_ok (GPOK.cons logic_reader_fail_ok (GPOK.nil)))))) Try.call25 (d := logic_reader_part_F (fun c c_1 c_2 c_3 l => rec (c, c_1, c_2, c_3, l))) (fun rc X => by kernel_rfl)
def logic_reader_term_sig : Shape := ⟨[.str, (.int .i64), (.int .i64), (.int .i64), (.list (.int .u8))], [(0, .ptr 100000 0)], [(100000, .box 50 [.v 0, .v 1, .v 2, .v 3, .own 100001]), (100001, .arr 5 4)]⟩
def logic_reader_term_out : Shape := ⟨[(.tree (.pair (.int .i64) (.pair (.int .i64) (.pair (.int .i64) (.pair (.int .i64) (.pair .bool .unit)))))), .str, (.int .i64), (.int .i64), (.int .i64), (.list (.int .u8))], [(0, .v 0)], [(100000, .box 50 [.v 1, .v 2, .v 3, .v 4, .own 90]), (90, .arr 5 5)]⟩
noncomputable def logic_reader_term_ce (rec : Tup logic_reader_formula_sig.tys → Option (Tup logic_reader_formula_out.tys ⊕ (Int × Int))) : CEp := ⟨21, logic_reader_term_sig, logic_reader_term_out, fun X => logic_reader_term (fun c c_1 c_2 c_3 l => rec (c, c_1, c_2, c_3, l)) X.1 X.2.1 X.2.2.1 X.2.2.2.1 X.2.2.2.2⟩
theorem logic_reader_term_ok (rec : Tup logic_reader_formula_sig.tys → Option (Tup logic_reader_formula_out.tys ⊕ (Int × Int))) (hrec : CEp.ok Try.prog 46 ⟨14, logic_reader_formula_sig, logic_reader_formula_out, rec⟩) : CEp.ok Try.prog 46 (logic_reader_term_ce rec) := CEp.of (Γ := [logic_reader_now_ce]) (Γp := [logic_reader_part_ce rec, logic_reader_counted_ce]) (by kernel_rfl) TT_ok (GOK.cons logic_reader_now_ok (GOK.nil)) (GPOK.cons (logic_reader_part_ok rec hrec) (GPOK.cons logic_reader_counted_ok (GPOK.nil))) ⟨[(2, ⟨⟨[(.tree (.pair (.int .i64) (.pair (.int .i64) (.pair (.int .i64) (.pair (.int .i64) (.pair .bool .unit)))))), .str, (.int .i64), (.int .i64), (.int .i64), (.list (.int .u8))], [(0, .ptr 100000 0), (3, .v 0)], [(100000, .box 50 [.v 1, .v 2, .v 3, .v 4, .own 90]), (90, .arr 5 5)]⟩, [6, 7, 8, 9, 10, 11, 12, 13, 14, 15, 16, 17, 18, 19, 20, 21, 22, 23], [], [], 91, []⟩)], [], [(2000001, [(0, 0), (5, 1), (0, 2)]), (2000003, [(0, 0), (5, 1)]), (2000005, [(0, 0), (0, 1), (5, 2), (2, 3), (0, 4), (2, 5), (0, 6)])], []⟩ Try.func21 rfl Try.ntmps21 (rs := [.tmp 2]) rfl (sig := logic_reader_term_sig) (out := logic_reader_term_out) rfl Try.call21 (fun X => by kernel_rfl)
theorem logic_reader_formula_ok : CEp.ok Try.prog 46 logic_reader_formula_ce := CEp.ofRec (Γ := [logic_reader_now_ce]) (Γp := fun rec => [logic_reader_term_ce rec, logic_reader_counted_ce]) (by kernel_rfl) TT_ok (GOK.cons logic_reader_now_ok (GOK.nil)) ⟨[(2, ⟨⟨[(.tree (.pair (.int .i64) (.pair (.int .i64) (.pair (.int .i64) (.pair (.int .i64) (.pair .bool .unit)))))), .str, (.int .i64), (.int .i64), (.int .i64), (.list (.int .u8))], [(0, .ptr 100000 0), (3, .v 0)], [(100000, .box 50 [.v 1, .v 2, .v 3, .v 4, .own 90]), (90, .arr 5 5)]⟩, [6, 7, 8, 9, 10, 11, 12, 13, 14, 15, 16, 17, 18, 19, 20, 21, 22, 23], [], [], 91, []⟩)], [], [(2000001, [(0, 0), (5, 1), (0, 2)]), (2000003, [(0, 0), (5, 1)]), (2000005, [(0, 0), (0, 1), (5, 2), (2, 3), (0, 4), (2, 5), (0, 6)])], []⟩ Try.func14 rfl Try.ntmps14 (rs := [.tmp 2]) rfl (sig := logic_reader_formula_sig) (out := logic_reader_formula_out) rfl (fun rec hrec => (GPOK.cons (logic_reader_term_ok rec hrec) (GPOK.cons logic_reader_counted_ok (GPOK.nil)))) Try.call14 (d := logic_reader_formula_F) (fun rc X => by kernel_rfl)
noncomputable def logic_reader_part_c_ce : CEp := logic_reader_part_ce (LFix logic_reader_formula_F)
theorem logic_reader_part_c_ok : CEp.ok Try.prog 46 logic_reader_part_c_ce := logic_reader_part_ok _ logic_reader_formula_ok
noncomputable def logic_reader_term_c_ce : CEp := logic_reader_term_ce (LFix logic_reader_formula_F)
theorem logic_reader_term_c_ok : CEp.ok Try.prog 46 logic_reader_term_c_ce := logic_reader_term_ok _ logic_reader_formula_ok

def logic_parsed_sig : Shape := ⟨[.str], [(0, .v 0)], []⟩
def logic_parsed_out : Shape := ⟨[(.tree (.pair (.int .i64) (.pair (.int .i64) (.pair (.int .i64) (.pair (.int .i64) (.pair .bool .unit)))))), (.pair (.int .i64) (.pair (.int .i64) .unit))], [(0, .v 0), (1, .v 1)], []⟩
noncomputable def logic_parsed_ce : CE := ⟨8, logic_parsed_sig, logic_parsed_out, fun X => logic_parsed X⟩
theorem logic_parsed_tail (p : Int × Int) : evC TT [] [] 0 bothS ⟨[], [], [], [(7, .one 0 (.alt 0 1 (.leaf [(2, 2), (2, 3)]) (.alt 2 2 (.leaf [(0, 1), (2, 3)]) .stop)))]⟩ (closeTail (Try.f13.body.getD .skip)) (tailS 13 10 34 28 p) (tailK true 34 28) = bothS (some (p.1, p.2)) (some (p.1, p.2)) := by kernel_rfl
theorem logic_parsed_idle (va vb : Value) (w : World) : CallsD Try.prog 13 #[va, vb] .returning w (fun e u w' => (∃ v, e = .returned v) ∧ u = .returning ∧ w' = w) := by
  refine callsD_of_wpS Try.func13 rfl fun c₀ cs hu => ?_
  apply wpS_seq
  apply wpS_region
  simp [wpOpsS, go_sem, recoverD, hu, Try.ntmps13, Exit.thenS]
  refine wpS_of_wp (wp_block (wp_seq (wp_region ?_)))
  simp [wpOps, go_sem]
  left
  refine wp_cond (t := true) (by simp [Act.eval, Array.replicate]) ?_
  simp only [if_true]
  refine wp_region ?_
  simp [wpOps, go_sem]
  left
  cases c₀
  simp_all [bodyPostS, results, Try.results13]
theorem logic_parsed_caught (p : Int × Int) (w : World) (ba bb : Nat) (ca cb : Array Value) (hne : ba ≠ bb) (h1 : w.heap[ba]? = some (.cells ca 34 (0, 0))) (h2 : ca.size = 1) (h3 : w.heap[bb]? = some (.cells cb 28 (0, 0))) (h4 : cb.size = 2) :
    CallsD Try.prog 13 #[.pointer (some ⟨ba, 0, none⟩), .pointer (some ⟨bb, 0, none⟩)] (.panicking (pch 46 p)) w (fun e u w' => (∃ v, e = .returned v) ∧ settle u = .returning ∧
      (w'.os = w.os ∧ w'.tape = w.tape ∧ w'.output = w.output ∧ w.heap.size ≤ w'.heap.size) ∧ (∀ b, b < w.heap.size → b ≠ ba → b ≠ bb → w'.heap[b]? = w.heap[b]?) ∧
      w'.heap[ba]? = some (.cells #[zV true] 34 (0, 0)) ∧ w'.heap[bb]? = some (.cells #[.int .i64 p.1, .int .i64 p.2] 28 (0, 0))) := by
  refine callsD_of_wpS Try.func13 rfl fun c₀ cs hu => ?_
  apply wpS_seq
  apply wpS_region
  simp [wpOpsS, go_sem, recoverD, hu, Try.ntmps13, Exit.thenS, pch]
  refine wpS_of_wp (wp_block (wp_seq (wp_region ?_)))
  simp [wpOps, go_sem]
  left
  refine wp_cond (t := false) (by simp [Act.eval, Array.replicate]) ?_
  simp only [Bool.false_eq_true, if_false]
  refine wp_seq (wp_region ?_)
  simp [wpOps, go_sem, run_assert Try.underlying46]
  left
  left
  left
  refine wp_cond (t := true) (by simp [Act.eval, Array.replicate]) ?_
  simp only [if_true]
  refine wp_mono (tail_wp (by kernel_rfl) TT_ok (logic_parsed_tail p) hne h1 h2 h3 h4 ?_ ?_ ?_ ?_ ?_) fun e a' w' hh => ?_
  · simp
  · rfl
  · simp [Array.replicate]
  · simp [Array.replicate]
  · simp [Array.replicate]
  · obtain ⟨rfl, hd, ho, hk, y1, y2⟩ := hh
    exact ⟨hd, _, rfl, .tuple #[], by simp [results, Try.results13], ⟨_, rfl⟩, rfl, ho, hk, y1, y2⟩
theorem logic_parsed_catch : CatchOK Try.prog 46 13 34 28 (zV true) := ⟨Try.call13, logic_parsed_idle, logic_parsed_caught⟩
theorem logic_parsed_ok : CE.ok Try.prog logic_parsed_ce := CE.ofCatch (Γ := []) (Γp := [logic_reader_formula_ce, logic_reader_fail_ce]) (T := 46) (by kernel_rfl) TT_ok (GOK.nil) (GPOK.cons logic_reader_formula_ok (GPOK.cons logic_reader_fail_ok (GPOK.nil))) ⟨[], [], [(3000003, []), (2000005, [(0, 0), (8, 1), (2, 2)]), (2000007, [(0, 0), (0, 1), (0, 2), (0, 3), (0, 4), (5, 5)])], []⟩ Try.func8 rfl Try.ntmps8 (rs := [.cell 2 34, .cell 3 28]) rfl (sig := logic_parsed_sig) (out := logic_parsed_out) rfl Try.call8 (g := 13) (sa := 2) (sb := 3) (Ta := 34) (Tb := 28) (z := zE true) logic_parsed_catch (zE_rel true) (fun X => by kernel_rfl)

def word_May_sig : Shape := ⟨[(.int .i64), (.list (.int .i64))], [(0, .v 0), (1, .v 1)], []⟩
def word_May_out : Shape := ⟨[(.int .i64)], [(0, .v 0)], []⟩
noncomputable def word_May_ce : CE := ⟨9, word_May_sig, word_May_out, fun X => word_May X.1 X.2⟩
theorem word_May_ok : CE.ok Try.prog word_May_ce := CE.of (Γ := []) (by kernel_rfl) TT_ok (GOK.nil) ⟨[(6, ⟨⟨[(.int .i64)], [(18, .v 0)], []⟩, [4, 6, 19, 20, 21, 22, 23, 24, 25, 26, 27, 28, 29], [], [], 0, []⟩)], [], [], []⟩ Try.func9 rfl Try.ntmps9 (rs := [.tmp 4]) rfl (sig := word_May_sig) (out := word_May_out) rfl Try.call9 (fun X => by kernel_rfl)

def logic_node_holds_sig : Shape := ⟨[(.tree (.pair (.int .i64) (.pair (.int .i64) (.pair (.int .i64) (.pair (.int .i64) (.pair .bool .unit)))))), (.list (.int .i64)), (.list (.int .i64))], [(0, .v 0), (1, .v 1), (2, .v 2)], []⟩
def logic_node_holds_out : Shape := ⟨[.bool], [(0, .v 0)], []⟩
noncomputable def logic_node_holds_ce : CE := ⟨10, logic_node_holds_sig, logic_node_holds_out, LFix logic_node_holds_F⟩
theorem logic_node_holds_ok : CE.ok Try.prog logic_node_holds_ce := CE.ofRec (Γ := []) (by kernel_rfl) TT_ok (GOK.nil) ⟨[(22, ⟨⟨[(.int .i64)], [(167, .v 0)], []⟩, [6, 8, 168, 169, 170, 171, 172, 173, 174, 175, 176, 177, 178, 179, 180, 181, 182, 183, 184, 185, 186, 187, 188, 189, 190, 191, 192, 193, 194, 195, 196, 197, 198], [], [], 0, []⟩)], [(20, ⟨⟨[(.int .i64)], [(7, .v 0)], []⟩, [159, 160, 161, 162, 163, 164, 165], [], [], 0, []⟩)], [(3, [(0, 0), (0, 1), (0, 2), (0, 3), (0, 4), (0, 5), (0, 6), (0, 7), (0, 8), (0, 9), (0, 10), (0, 11), (0, 12), (0, 13), (0, 14), (0, 15)]), (5, [(0, 0), (0, 1), (0, 2), (0, 3), (0, 4), (0, 5), (0, 6), (0, 7), (0, 8), (0, 9), (0, 10), (0, 11), (0, 12), (0, 13), (0, 14), (0, 15)]), (7, [(0, 0), (0, 1), (0, 2), (0, 3), (0, 4), (0, 5), (0, 6), (0, 7), (0, 8), (0, 9), (0, 10), (0, 11), (0, 12), (0, 13), (0, 14), (0, 15)]), (9, [(0, 0), (0, 1), (0, 2), (0, 3), (0, 4), (0, 5), (0, 6), (0, 7), (0, 8), (0, 9), (0, 10), (0, 11), (0, 12), (0, 13), (0, 14), (0, 15), (0, 16)]), (11, [(0, 0), (0, 1), (0, 2), (0, 3), (0, 4), (0, 5), (0, 6), (0, 7), (0, 8), (0, 9), (0, 10), (0, 11), (0, 12), (0, 13), (0, 14), (0, 15), (0, 16), (0, 17)])], [(24, (.pnd (.one 0 (.one 1 (.one 2 (.one 6 (.one 7 (.one 8 (.one 10 (.one 13 (.one 17 (.one 18 (.one 19 (.rd 2 3 [4, 5, 16, 22] (.one 4 (.rd 2 5 [16, 22] (.rd 0 9 [12, 15, 16, 22] (.rd 0 11 [12, 15, 16, 22] (.one 12 (.rd 2 20 [21, 22] (.one 21 (.alt 1 14 (.alt 2 15 (.alt 1 16 (.one 22 .leaf) .stop) .stop) .stop))))))))))))))))))))))]⟩ Try.func10 rfl Try.ntmps10 (rs := [.tmp 6]) rfl (sig := logic_node_holds_sig) (out := logic_node_holds_out) rfl Try.call10 (d := logic_node_holds_F) (fun rc X => by kernel_rfl)

def logic_Holds_sig : Shape := ⟨[.str, (.list (.int .i64))], [(0, .v 0), (1, .v 1)], []⟩
def logic_Holds_out : Shape := ⟨[.bool, (.int .i64)], [(0, .v 0), (1, .v 1)], []⟩
noncomputable def logic_Holds_ce : CE := ⟨4, logic_Holds_sig, logic_Holds_out, fun X => logic_Holds X.1 X.2⟩
theorem logic_Holds_ok : CE.ok Try.prog logic_Holds_ce := CE.of (Γ := [logic_parsed_ce, word_May_ce, logic_node_holds_ce]) (by kernel_rfl) TT_ok (GOK.cons logic_parsed_ok (GOK.cons word_May_ok (GOK.cons logic_node_holds_ok (GOK.nil)))) ⟨[], [], [], []⟩ Try.func4 rfl Try.ntmps4 (rs := [.tmp 4, .tmp 5]) rfl (sig := logic_Holds_sig) (out := logic_Holds_out) rfl Try.call4 (fun X => by kernel_rfl)

def r5_Reader_ok_sig : Shape := ⟨[(.pair .str (.pair (.int .i64) (.pair (.int .i64) (.pair (.int .i64) (.pair .str (.pair (.list (.pair (.int .i64) (.pair (.int .i64) (.pair (.int .i64) (.pair (.int .i64) (.pair .bool .unit)))))) (.pair (.pair (.int .i64) (.pair (.int .i64) .unit)) .unit)))))))], [(0, .addr 0)], []⟩
def r5_Reader_ok_out : Shape := ⟨[.bool], [(0, .v 0)], []⟩
noncomputable def r5_Reader_ok_ce : CE := ⟨18, r5_Reader_ok_sig, r5_Reader_ok_out, fun X => r5_Reader_ok X⟩
theorem r5_Reader_ok_ok : CE.ok Try.prog r5_Reader_ok_ce := CE.of (Γ := []) (by kernel_rfl) TT_ok (GOK.nil) ⟨[], [], [], []⟩ Try.func18 rfl Try.ntmps18 (rs := [.tmp 2]) rfl (sig := r5_Reader_ok_sig) (out := r5_Reader_ok_out) rfl Try.call18 (fun X => by kernel_rfl)

def r5_Reader_now_sig : Shape := ⟨[(.pair .str (.pair (.int .i64) (.pair (.int .i64) (.pair (.int .i64) (.pair .str (.pair (.list (.pair (.int .i64) (.pair (.int .i64) (.pair (.int .i64) (.pair (.int .i64) (.pair .bool .unit)))))) (.pair (.pair (.int .i64) (.pair (.int .i64) .unit)) .unit)))))))], [(0, .addr 0)], []⟩
def r5_Reader_now_out : Shape := ⟨[(.int .u8)], [(0, .v 0)], []⟩
noncomputable def r5_Reader_now_ce : CE := ⟨17, r5_Reader_now_sig, r5_Reader_now_out, fun X => r5_Reader_now X⟩
theorem r5_Reader_now_ok : CE.ok Try.prog r5_Reader_now_ce := CE.of (Γ := []) (by kernel_rfl) TT_ok (GOK.nil) ⟨[], [], [(1, [(0, 0), (0, 1), (0, 2), (0, 3), (0, 4), (0, 5), (0, 6), (0, 7), (0, 8), (0, 9)]), (3, [(0, 0), (0, 1), (0, 2), (0, 3), (0, 4), (0, 5), (0, 6), (0, 7), (0, 8), (0, 9)])], []⟩ Try.func17 rfl Try.ntmps17 (rs := [.tmp 2]) rfl (sig := r5_Reader_now_sig) (out := r5_Reader_now_out) rfl Try.call17 (fun X => by kernel_rfl)

def r5_Reader_fail_sig : Shape := ⟨[(.int .i64), (.int .i64), .str, (.int .i64), (.int .i64), (.int .i64), .str, (.int .i64), (.int .i64), (.list (.pair (.int .i64) (.pair (.int .i64) (.pair (.int .i64) (.pair (.int .i64) (.pair .bool .unit))))))], [(0, .ptr 100000 0), (1, .v 0), (2, .v 1)], [(100000, .box 40 [.v 2, .v 3, .v 4, .v 5, .v 6, .own 100001, .v 7, .v 8]), (100001, .arr 44 9)]⟩
def r5_Reader_fail_out : Shape := ⟨[.str, (.int .i64), (.int .i64), (.int .i64), .str, (.list (.pair (.int .i64) (.pair (.int .i64) (.pair (.int .i64) (.pair (.int .i64) (.pair .bool .unit)))))), (.int .i64), (.int .i64)], [], [(100000, .box 40 [.v 0, .v 1, .v 2, .v 3, .v 4, .own 100, .v 6, .v 7]), (100, .arr 44 5)]⟩
noncomputable def r5_Reader_fail_ce : CE := ⟨12, r5_Reader_fail_sig, r5_Reader_fail_out, fun X => r5_Reader_fail X.1 X.2.1 X.2.2.1 X.2.2.2.1 X.2.2.2.2.1 X.2.2.2.2.2.1 X.2.2.2.2.2.2.1 X.2.2.2.2.2.2.2.1 X.2.2.2.2.2.2.2.2.1 X.2.2.2.2.2.2.2.2.2⟩
theorem r5_Reader_fail_ok : CE.ok Try.prog r5_Reader_fail_ce := CE.of (Γ := []) (by kernel_rfl) TT_ok (GOK.nil) ⟨[], [], [], []⟩ Try.func12 rfl Try.ntmps12 (rs := []) rfl (sig := r5_Reader_fail_sig) (out := r5_Reader_fail_out) rfl Try.call12 (fun X => by kernel_rfl)

def r5_Reader_counted_sig : Shape := ⟨[(.int .i64), .str, (.int .i64), (.int .i64), (.int .i64), .str, (.int .i64), (.int .i64), (.list (.pair (.int .i64) (.pair (.int .i64) (.pair (.int .i64) (.pair (.int .i64) (.pair .bool .unit))))))], [(0, .ptr 100000 0), (1, .v 0)], [(100000, .box 40 [.v 1, .v 2, .v 3, .v 4, .v 5, .own 100001, .v 6, .v 7]), (100001, .arr 44 8)]⟩
def r5_Reader_counted_out : Shape := ⟨[.str, (.int .i64), (.int .i64), (.int .i64), .str, (.list (.pair (.int .i64) (.pair (.int .i64) (.pair (.int .i64) (.pair (.int .i64) (.pair .bool .unit)))))), (.int .i64), (.int .i64)], [], [(100000, .box 40 [.v 0, .v 1, .v 2, .v 3, .v 4, .own 100, .v 6, .v 7]), (100, .arr 44 5)]⟩
noncomputable def r5_Reader_counted_ce : CE := ⟨19, r5_Reader_counted_sig, r5_Reader_counted_out, fun X => r5_Reader_counted X.1 X.2.1 X.2.2.1 X.2.2.2.1 X.2.2.2.2.1 X.2.2.2.2.2.1 X.2.2.2.2.2.2.1 X.2.2.2.2.2.2.2.1 X.2.2.2.2.2.2.2.2⟩
theorem r5_Reader_counted_ok : CE.ok Try.prog r5_Reader_counted_ce := CE.of (Γ := [r5_Reader_fail_ce]) (by kernel_rfl) TT_ok (GOK.cons r5_Reader_fail_ok (GOK.nil)) ⟨[], [], [], []⟩ Try.func19 rfl Try.ntmps19 (rs := []) rfl (sig := r5_Reader_counted_sig) (out := r5_Reader_counted_out) rfl Try.call19 (fun X => by kernel_rfl)

def r5_Reader_put_sig : Shape := ⟨[(.pair (.int .i64) (.pair (.int .i64) (.pair (.int .i64) (.pair (.int .i64) (.pair .bool .unit))))), .str, (.int .i64), (.int .i64), (.int .i64), .str, (.int .i64), (.int .i64), (.list (.pair (.int .i64) (.pair (.int .i64) (.pair (.int .i64) (.pair (.int .i64) (.pair .bool .unit))))))], [(0, .ptr 100000 0), (1, .v 0)], [(100000, .box 40 [.v 1, .v 2, .v 3, .v 4, .v 5, .own 100001, .v 6, .v 7]), (100001, .arr 44 8)]⟩
def r5_Reader_put_out : Shape := ⟨[(.int .i64), .str, (.int .i64), (.int .i64), (.int .i64), .str, (.list (.pair (.int .i64) (.pair (.int .i64) (.pair (.int .i64) (.pair (.int .i64) (.pair .bool .unit)))))), (.int .i64), (.int .i64)], [(0, .v 0)], [(100000, .box 40 [.v 1, .v 2, .v 3, .v 4, .v 5, .own 100, .v 7, .v 8]), (100, .arr 44 6)]⟩
noncomputable def r5_Reader_put_ce : CE := ⟨20, r5_Reader_put_sig, r5_Reader_put_out, fun X => r5_Reader_put X.1 X.2.1 X.2.2.1 X.2.2.2.1 X.2.2.2.2.1 X.2.2.2.2.2.1 X.2.2.2.2.2.2.1 X.2.2.2.2.2.2.2.1 X.2.2.2.2.2.2.2.2⟩
theorem r5_Reader_put_ok : CE.ok Try.prog r5_Reader_put_ce := CE.of (Γ := []) (by kernel_rfl) TT_ok (GOK.nil) ⟨[], [], [(1, [(0, 0), (0, 1), (0, 2), (0, 3), (0, 4), (0, 5), (1, 6), (2, 7), (0, 8), (0, 9), (2, 10)])], []⟩ Try.func20 rfl Try.ntmps20 (rs := [.tmp 4]) rfl (sig := r5_Reader_put_sig) (out := r5_Reader_put_out) rfl Try.call20 (fun X => by kernel_rfl)

def r5_Reader_known_sig : Shape := ⟨[.str, (.int .i64), (.int .i64), (.int .i64), .str, (.int .i64), (.int .i64), (.list (.pair (.int .i64) (.pair (.int .i64) (.pair (.int .i64) (.pair (.int .i64) (.pair .bool .unit))))))], [(0, .ptr 100000 0)], [(100000, .box 40 [.v 0, .v 1, .v 2, .v 3, .v 4, .own 100001, .v 5, .v 6]), (100001, .arr 44 7)]⟩
def r5_Reader_known_out : Shape := ⟨[(.int .i64), .str, (.int .i64), (.int .i64), (.int .i64), .str, (.list (.pair (.int .i64) (.pair (.int .i64) (.pair (.int .i64) (.pair (.int .i64) (.pair .bool .unit)))))), (.int .i64), (.int .i64)], [(0, .v 0)], [(100000, .box 40 [.v 1, .v 2, .v 3, .v 4, .v 5, .own 100, .v 7, .v 8]), (100, .arr 44 6)]⟩
noncomputable def r5_Reader_known_ce : CE := ⟨32, r5_Reader_known_sig, r5_Reader_known_out, fun X => r5_Reader_known X.1 X.2.1 X.2.2.1 X.2.2.2.1 X.2.2.2.2.1 X.2.2.2.2.2.1 X.2.2.2.2.2.2.1 X.2.2.2.2.2.2.2⟩
theorem r5_Reader_known_ok : CE.ok Try.prog r5_Reader_known_ce := CE.of (Γ := [r5_Reader_fail_ce, r5_Reader_now_ce]) (by kernel_rfl) TT_ok (GOK.cons r5_Reader_fail_ok (GOK.cons r5_Reader_now_ok (GOK.nil))) ⟨[(3, ⟨⟨[(.int .i64)], [(4, .v 0)], []⟩, [2, 13, 14, 15, 16, 17, 18, 19, 20, 21, 22, 23, 24, 25, 26, 27, 28, 29, 30, 31, 32], [], [], 0, []⟩)], [], [], []⟩ Try.func32 rfl Try.ntmps32 (rs := [.tmp 2]) rfl (sig := r5_Reader_known_sig) (out := r5_Reader_known_out) rfl Try.call32 (fun X => by kernel_rfl)

def r5_Reader_place_sig : Shape := ⟨[.str, (.int .i64), (.int .i64), (.int .i64), .str, (.int .i64), (.int .i64), (.list (.pair (.int .i64) (.pair (.int .i64) (.pair (.int .i64) (.pair (.int .i64) (.pair .bool .unit))))))], [(0, .ptr 100000 0)], [(100000, .box 40 [.v 0, .v 1, .v 2, .v 3, .v 4, .own 100001, .v 5, .v 6]), (100001, .arr 44 7)]⟩
def r5_Reader_place_out : Shape := ⟨[(.int .i64), .str, (.int .i64), (.int .i64), (.int .i64), .str, (.list (.pair (.int .i64) (.pair (.int .i64) (.pair (.int .i64) (.pair (.int .i64) (.pair .bool .unit)))))), (.int .i64), (.int .i64)], [(0, .v 0)], [(100000, .box 40 [.v 1, .v 2, .v 3, .v 4, .v 5, .own 100, .v 7, .v 8]), (100, .arr 44 6)]⟩
noncomputable def r5_Reader_place_ce : CE := ⟨31, r5_Reader_place_sig, r5_Reader_place_out, fun X => r5_Reader_place X.1 X.2.1 X.2.2.1 X.2.2.2.1 X.2.2.2.2.1 X.2.2.2.2.2.1 X.2.2.2.2.2.2.1 X.2.2.2.2.2.2.2⟩
theorem r5_Reader_place_ok : CE.ok Try.prog r5_Reader_place_ce := CE.of (Γ := [r5_Reader_fail_ce, r5_Reader_known_ce, r5_Reader_ok_ce, r5_Reader_now_ce]) (by kernel_rfl) TT_ok (GOK.cons r5_Reader_fail_ok (GOK.cons r5_Reader_known_ok (GOK.cons r5_Reader_ok_ok (GOK.cons r5_Reader_now_ok (GOK.nil))))) ⟨[], [(5, ⟨⟨[.bool], [(16, .v 0)], []⟩, [11, 12, 13, 14, 15], [], [], 0, []⟩)], [], []⟩ Try.func31 rfl Try.ntmps31 (rs := [.tmp 2]) rfl (sig := r5_Reader_place_sig) (out := r5_Reader_place_out) rfl Try.call31 (fun X => by kernel_rfl)

def r5_Reader_atom_sig : Shape := ⟨[(.int .u8), .str, (.int .i64), (.int .i64), (.int .i64), .str, (.int .i64), (.int .i64), (.list (.pair (.int .i64) (.pair (.int .i64) (.pair (.int .i64) (.pair (.int .i64) (.pair .bool .unit))))))], [(0, .ptr 100000 0), (1, .v 0)], [(100000, .box 40 [.v 1, .v 2, .v 3, .v 4, .v 5, .own 100001, .v 6, .v 7]), (100001, .arr 44 8)]⟩
def r5_Reader_atom_out : Shape := ⟨[(.int .i64), .str, (.int .i64), (.int .i64), (.int .i64), .str, (.list (.pair (.int .i64) (.pair (.int .i64) (.pair (.int .i64) (.pair (.int .i64) (.pair .bool .unit)))))), (.int .i64), (.int .i64)], [(0, .v 0)], [(100000, .box 40 [.v 1, .v 2, .v 3, .v 4, .v 5, .own 100, .v 7, .v 8]), (100, .arr 44 6)]⟩
noncomputable def r5_Reader_atom_ce : CE := ⟨27, r5_Reader_atom_sig, r5_Reader_atom_out, fun X => r5_Reader_atom X.1 X.2.1 X.2.2.1 X.2.2.2.1 X.2.2.2.2.1 X.2.2.2.2.2.1 X.2.2.2.2.2.2.1 X.2.2.2.2.2.2.2.1 X.2.2.2.2.2.2.2.2⟩
theorem r5_Reader_atom_ok : CE.ok Try.prog r5_Reader_atom_ce := CE.of (Γ := [r5_Reader_counted_ce, r5_Reader_place_ce, r5_Reader_put_ce, r5_Reader_known_ce, r5_Reader_fail_ce, r5_Reader_now_ce]) (by kernel_rfl) TT_ok (GOK.cons r5_Reader_counted_ok (GOK.cons r5_Reader_place_ok (GOK.cons r5_Reader_put_ok (GOK.cons r5_Reader_known_ok (GOK.cons r5_Reader_fail_ok (GOK.cons r5_Reader_now_ok (GOK.nil))))))) ⟨[], [(2, ⟨⟨[.bool], [(21, .v 0)], []⟩, [16, 17, 18, 19, 20], [], [], 0, []⟩), (7, ⟨⟨[.bool], [(46, .v 0)], []⟩, [41, 42, 43, 44, 45], [], [], 0, []⟩), (12, ⟨⟨[.bool], [(64, .v 0)], []⟩, [59, 60, 61, 62, 63], [], [], 0, []⟩), (20, ⟨⟨[(.int .i64), .str, (.int .i64), (.int .i64), (.int .i64), .str, (.int .i64), (.int .i64), (.list (.pair (.int .i64) (.pair (.int .i64) (.pair (.int .i64) (.pair (.int .i64) (.pair .bool .unit))))))], [(0, .ptr 100000 0), (10, .v 0)], [(100000, .box 40 [.v 1, .v 2, .v 3, .v 4, .v 5, .own 201, .v 6, .v 7]), (201, .arr 44 8)]⟩, [75, 76, 77, 78, 79, 80, 81, 82, 83, 84, 85, 86, 87], [], [], 202, []⟩)], [], []⟩ Try.func27 rfl Try.ntmps27 (rs := [.tmp 4]) rfl (sig := r5_Reader_atom_sig) (out := r5_Reader_atom_out) rfl Try.call27 (fun X => by kernel_rfl)

def r5_Reader_part_sig : Shape := ⟨[.str, (.int .i64), (.int .i64), (.int .i64), .str, (.int .i64), (.int .i64), (.list (.pair (.int .i64) (.pair (.int .i64) (.pair (.int .i64) (.pair (.int .i64) (.pair .bool .unit))))))], [(0, .ptr 100000 0)], [(100000, .box 40 [.v 0, .v 1, .v 2, .v 3, .v 4, .own 100001, .v 5, .v 6]), (100001, .arr 44 7)]⟩
def r5_Reader_part_out : Shape := ⟨[(.int .i64), .str, (.int .i64), (.int .i64), (.int .i64), .str, (.list (.pair (.int .i64) (.pair (.int .i64) (.pair (.int .i64) (.pair (.int .i64) (.pair .bool .unit)))))), (.int .i64), (.int .i64)], [(0, .v 0)], [(100000, .box 40 [.v 1, .v 2, .v 3, .v 4, .v 5, .own 100, .v 7, .v 8]), (100, .arr 44 6)]⟩
noncomputable def r5_Reader_part_ce : CE := ⟨24, r5_Reader_part_sig, r5_Reader_part_out, LFix r5_Reader_part_F⟩
def r5_Reader_term_sig : Shape := ⟨[.str, (.int .i64), (.int .i64), (.int .i64), .str, (.int .i64), (.int .i64), (.list (.pair (.int .i64) (.pair (.int .i64) (.pair (.int .i64) (.pair (.int .i64) (.pair .bool .unit))))))], [(0, .ptr 100000 0)], [(100000, .box 40 [.v 0, .v 1, .v 2, .v 3, .v 4, .own 100001, .v 5, .v 6]), (100001, .arr 44 7)]⟩
def r5_Reader_term_out : Shape := ⟨[(.int .i64), .str, (.int .i64), (.int .i64), (.int .i64), .str, (.list (.pair (.int .i64) (.pair (.int .i64) (.pair (.int .i64) (.pair (.int .i64) (.pair .bool .unit)))))), (.int .i64), (.int .i64)], [(0, .v 0)], [(100000, .box 40 [.v 1, .v 2, .v 3, .v 4, .v 5, .own 100, .v 7, .v 8]), (100, .arr 44 6)]⟩
noncomputable def r5_Reader_term_ce (rec : Tup r5_Reader_part_sig.tys → Option (Tup r5_Reader_part_out.tys)) : CE := ⟨16, r5_Reader_term_sig, r5_Reader_term_out, fun X => r5_Reader_term (fun c c_1 c_2 c_3 c_4 c_5 c_6 l => rec (c, c_1, c_2, c_3, c_4, c_5, c_6, l)) X.1 X.2.1 X.2.2.1 X.2.2.2.1 X.2.2.2.2.1 X.2.2.2.2.2.1 X.2.2.2.2.2.2.1 X.2.2.2.2.2.2.2⟩
theorem r5_Reader_term_ok (rec : Tup r5_Reader_part_sig.tys → Option (Tup r5_Reader_part_out.tys)) (hrec : CE.ok Try.prog ⟨24, r5_Reader_part_sig, r5_Reader_part_out, rec⟩) : CE.ok Try.prog (r5_Reader_term_ce rec) := CE.of (Γ := [⟨24, r5_Reader_part_sig, r5_Reader_part_out, rec⟩, r5_Reader_counted_ce, r5_Reader_put_ce, r5_Reader_now_ce, r5_Reader_ok_ce]) (by kernel_rfl) TT_ok (GOK.cons hrec (GOK.cons r5_Reader_counted_ok (GOK.cons r5_Reader_put_ok (GOK.cons r5_Reader_now_ok (GOK.cons r5_Reader_ok_ok (GOK.nil)))))) ⟨[(2, ⟨⟨[(.int .i64), .str, (.int .i64), (.int .i64), (.int .i64), .str, (.int .i64), (.int .i64), (.list (.pair (.int .i64) (.pair (.int .i64) (.pair (.int .i64) (.pair (.int .i64) (.pair .bool .unit))))))], [(0, .ptr 100000 0), (3, .v 0)], [(100000, .box 40 [.v 1, .v 2, .v 3, .v 4, .v 5, .own 100, .v 6, .v 7]), (100, .arr 44 8)]⟩, [2, 4, 5, 6, 9, 10, 11, 12, 13, 14, 15, 16, 17, 18, 19, 20, 21, 22, 23, 24, 25, 26, 27, 28, 29, 30, 31, 32, 33, 34, 35, 36, 37, 38, 39], [], [], 101, []⟩)], [], [], []⟩ Try.func16 rfl Try.ntmps16 (rs := [.tmp 2]) rfl (sig := r5_Reader_term_sig) (out := r5_Reader_term_out) rfl Try.call16 (fun X => by kernel_rfl)
def r5_Reader_formula_sig : Shape := ⟨[.str, (.int .i64), (.int .i64), (.int .i64), .str, (.int .i64), (.int .i64), (.list (.pair (.int .i64) (.pair (.int .i64) (.pair (.int .i64) (.pair (.int .i64) (.pair .bool .unit))))))], [(0, .ptr 100000 0)], [(100000, .box 40 [.v 0, .v 1, .v 2, .v 3, .v 4, .own 100001, .v 5, .v 6]), (100001, .arr 44 7)]⟩
def r5_Reader_formula_out : Shape := ⟨[(.int .i64), .str, (.int .i64), (.int .i64), (.int .i64), .str, (.list (.pair (.int .i64) (.pair (.int .i64) (.pair (.int .i64) (.pair (.int .i64) (.pair .bool .unit)))))), (.int .i64), (.int .i64)], [(0, .v 0)], [(100000, .box 40 [.v 1, .v 2, .v 3, .v 4, .v 5, .own 100, .v 7, .v 8]), (100, .arr 44 6)]⟩
noncomputable def r5_Reader_formula_ce (rec : Tup r5_Reader_part_sig.tys → Option (Tup r5_Reader_part_out.tys)) : CE := ⟨11, r5_Reader_formula_sig, r5_Reader_formula_out, fun X => r5_Reader_formula (fun c c_1 c_2 c_3 c_4 c_5 c_6 l => rec (c, c_1, c_2, c_3, c_4, c_5, c_6, l)) X.1 X.2.1 X.2.2.1 X.2.2.2.1 X.2.2.2.2.1 X.2.2.2.2.2.1 X.2.2.2.2.2.2.1 X.2.2.2.2.2.2.2⟩
theorem r5_Reader_formula_ok (rec : Tup r5_Reader_part_sig.tys → Option (Tup r5_Reader_part_out.tys)) (hrec : CE.ok Try.prog ⟨24, r5_Reader_part_sig, r5_Reader_part_out, rec⟩) : CE.ok Try.prog (r5_Reader_formula_ce rec) := CE.of (Γ := [r5_Reader_term_ce rec, r5_Reader_counted_ce, r5_Reader_put_ce, r5_Reader_now_ce, r5_Reader_ok_ce]) (by kernel_rfl) TT_ok (GOK.cons (r5_Reader_term_ok rec hrec) (GOK.cons r5_Reader_counted_ok (GOK.cons r5_Reader_put_ok (GOK.cons r5_Reader_now_ok (GOK.cons r5_Reader_ok_ok (GOK.nil)))))) ⟨[(2, ⟨⟨[(.int .i64), .str, (.int .i64), (.int .i64), (.int .i64), .str, (.int .i64), (.int .i64), (.list (.pair (.int .i64) (.pair (.int .i64) (.pair (.int .i64) (.pair (.int .i64) (.pair .bool .unit))))))], [(0, .ptr 100000 0), (3, .v 0)], [(100000, .box 40 [.v 1, .v 2, .v 3, .v 4, .v 5, .own 100, .v 6, .v 7]), (100, .arr 44 8)]⟩, [2, 4, 5, 6, 9, 10, 11, 12, 13, 14, 15, 16, 17, 18, 19, 20, 21, 22, 23, 24, 25, 26, 27, 28, 29, 30, 31, 32, 33, 34, 35, 36, 37, 38, 39], [], [], 101, []⟩)], [], [], []⟩ Try.func11 rfl Try.ntmps11 (rs := [.tmp 2]) rfl (sig := r5_Reader_formula_sig) (out := r5_Reader_formula_out) rfl Try.call11 (fun X => by kernel_rfl)
def r5_Reader_quantified_sig : Shape := ⟨[(.int .u8), .str, (.int .i64), (.int .i64), (.int .i64), .str, (.int .i64), (.int .i64), (.list (.pair (.int .i64) (.pair (.int .i64) (.pair (.int .i64) (.pair (.int .i64) (.pair .bool .unit))))))], [(0, .ptr 100000 0), (1, .v 0)], [(100000, .box 40 [.v 1, .v 2, .v 3, .v 4, .v 5, .own 100001, .v 6, .v 7]), (100001, .arr 44 8)]⟩
def r5_Reader_quantified_out : Shape := ⟨[(.int .i64), .str, (.int .i64), (.int .i64), (.int .i64), .str, (.list (.pair (.int .i64) (.pair (.int .i64) (.pair (.int .i64) (.pair (.int .i64) (.pair .bool .unit)))))), (.int .i64), (.int .i64)], [(0, .v 0)], [(100000, .box 40 [.v 1, .v 2, .v 3, .v 4, .v 5, .own 100, .v 7, .v 8]), (100, .arr 44 6)]⟩
noncomputable def r5_Reader_quantified_ce (rec : Tup r5_Reader_part_sig.tys → Option (Tup r5_Reader_part_out.tys)) : CE := ⟨26, r5_Reader_quantified_sig, r5_Reader_quantified_out, fun X => r5_Reader_quantified (fun c c_1 c_2 c_3 c_4 c_5 c_6 l => rec (c, c_1, c_2, c_3, c_4, c_5, c_6, l)) X.1 X.2.1 X.2.2.1 X.2.2.2.1 X.2.2.2.2.1 X.2.2.2.2.2.1 X.2.2.2.2.2.2.1 X.2.2.2.2.2.2.2.1 X.2.2.2.2.2.2.2.2⟩
theorem r5_Reader_quantified_ok (rec : Tup r5_Reader_part_sig.tys → Option (Tup r5_Reader_part_out.tys)) (hrec : CE.ok Try.prog ⟨24, r5_Reader_part_sig, r5_Reader_part_out, rec⟩) : CE.ok Try.prog (r5_Reader_quantified_ce rec) := CE.of (Γ := [r5_Reader_fail_ce, r5_Reader_counted_ce, ⟨24, r5_Reader_part_sig, r5_Reader_part_out, rec⟩, r5_Reader_put_ce, r5_Reader_ok_ce, r5_Reader_now_ce]) (by kernel_rfl) TT_ok (GOK.cons r5_Reader_fail_ok (GOK.cons r5_Reader_counted_ok (GOK.cons hrec (GOK.cons r5_Reader_put_ok (GOK.cons r5_Reader_ok_ok (GOK.cons r5_Reader_now_ok (GOK.nil))))))) ⟨[], [(10, ⟨⟨[.bool], [(7, .v 0)], []⟩, [42, 43, 44, 45, 46, 47], [], [100], 101, []⟩), (11, ⟨⟨[.bool], [(57, .v 0)], []⟩, [48, 49, 50, 51, 52, 53, 54, 55, 56], [], [100], 101, []⟩), (21, ⟨⟨[(.int .i64)], [(10, .v 0)], []⟩, [92, 93], [], [101, 202], 203, []⟩)], [(16, [(0, 0), (0, 1), (0, 2), (0, 3), (0, 4), (0, 5), (1, 6), (0, 7), (0, 8), (0, 9), (0, 10), (2, 11)])], []⟩ Try.func26 rfl Try.ntmps26 (rs := [.tmp 4]) rfl (sig := r5_Reader_quantified_sig) (out := r5_Reader_quantified_out) rfl Try.call26 (fun X => by kernel_rfl)
theorem r5_Reader_part_ok : CE.ok Try.prog r5_Reader_part_ce := CE.ofRecM (Γ := fun rec => [r5_Reader_counted_ce, r5_Reader_put_ce, r5_Reader_fail_ce, r5_Reader_formula_ce rec, r5_Reader_quantified_ce rec, r5_Reader_atom_ce, r5_Reader_ok_ce, r5_Reader_now_ce]) (by kernel_rfl) TT_ok ⟨[], [(23, ⟨⟨[.bool], [(93, .v 0)], []⟩, [88, 89, 90, 91, 92], [], [], 0, []⟩)], [], []⟩ Try.func24 rfl Try.ntmps24 (rs := [.tmp 2]) rfl (sig := r5_Reader_part_sig) (out := r5_Reader_part_out) rfl (fun rec hrec => (GOK.cons r5_Reader_counted_ok (GOK.cons r5_Reader_put_ok (GOK.cons r5_Reader_fail_ok (GOK.cons (r5_Reader_formula_ok rec hrec) (GOK.cons (r5_Reader_quantified_ok rec hrec) (GOK.cons r5_Reader_atom_ok (GOK.cons r5_Reader_ok_ok (GOK.cons r5_Reader_now_ok (GOK.nil)))))))))) Try.call24 (d := r5_Reader_part_F) (fun rc X => by kernel_rfl)
noncomputable def r5_Reader_term_c_ce : CE := r5_Reader_term_ce (LFix r5_Reader_part_F)
theorem r5_Reader_term_c_ok : CE.ok Try.prog r5_Reader_term_c_ce := r5_Reader_term_ok _ r5_Reader_part_ok
noncomputable def r5_Reader_formula_c_ce : CE := r5_Reader_formula_ce (LFix r5_Reader_part_F)
theorem r5_Reader_formula_c_ok : CE.ok Try.prog r5_Reader_formula_c_ce := r5_Reader_formula_ok _ r5_Reader_part_ok
noncomputable def r5_Reader_quantified_c_ce : CE := r5_Reader_quantified_ce (LFix r5_Reader_part_F)
theorem r5_Reader_quantified_c_ok : CE.ok Try.prog r5_Reader_quantified_c_ce := r5_Reader_quantified_ok _ r5_Reader_part_ok

def r5_Parse_sig : Shape := ⟨[.str], [(0, .v 0)], []⟩
def r5_Parse_out : Shape := ⟨[(.pair (.int .i64) (.pair (.int .i64) .unit)), (.list (.pair (.int .i64) (.pair (.int .i64) (.pair (.int .i64) (.pair (.int .i64) (.pair .bool .unit))))))], [(0, .own 0), (1, .v 0)], [(0, .arr 44 1)]⟩
noncomputable def r5_Parse_ce : CE := ⟨5, r5_Parse_sig, r5_Parse_out, fun X => r5_Parse X⟩
theorem r5_Parse_ok : CE.ok Try.prog r5_Parse_ce := CE.of (Γ := [r5_Reader_formula_c_ce, r5_Reader_fail_ce]) (by kernel_rfl) TT_ok (GOK.cons r5_Reader_formula_c_ok (GOK.cons r5_Reader_fail_ok (GOK.nil))) ⟨[], [], [(8, [(0, 0), (0, 1), (0, 2), (0, 3), (0, 4), (2, 5)])], []⟩ Try.func5 rfl Try.ntmps5 (rs := [.tmp 2, .cell 3 28]) rfl (sig := r5_Parse_sig) (out := r5_Parse_out) rfl Try.call5 (fun X => by kernel_rfl)

def r1_May_sig : Shape := ⟨[(.int .i64), (.list (.int .i64))], [(0, .v 0), (1, .v 1)], []⟩
def r1_May_out : Shape := ⟨[(.int .i64)], [(0, .v 0)], []⟩
noncomputable def r1_May_ce : CE := ⟨6, r1_May_sig, r1_May_out, fun X => r1_May X.1 X.2⟩
theorem r1_May_ok : CE.ok Try.prog r1_May_ce := CE.of (Γ := []) (by kernel_rfl) TT_ok (GOK.nil) ⟨[(6, ⟨⟨[(.int .i64)], [(5, .v 0)], []⟩, [4, 15, 16, 17, 18, 19, 20, 21, 22, 23, 24, 25, 26, 27, 28, 29, 30, 31, 32, 33], [], [], 0, []⟩)], [], [], []⟩ Try.func6 rfl Try.ntmps6 (rs := [.tmp 4]) rfl (sig := r1_May_sig) (out := r1_May_out) rfl Try.call6 (fun X => by kernel_rfl)

def r5_Holds_sig : Shape := ⟨[(.list (.pair (.int .i64) (.pair (.int .i64) (.pair (.int .i64) (.pair (.int .i64) (.pair .bool .unit)))))), (.int .i64), (.list (.int .i64)), (.list (.int .i64))], [(0, .v 0), (1, .v 1), (2, .v 2), (3, .v 3)], []⟩
def r5_Holds_out : Shape := ⟨[.bool], [(0, .v 0)], []⟩
noncomputable def r5_Holds_ce : CE := ⟨7, r5_Holds_sig, r5_Holds_out, LFix r5_Holds_F⟩
theorem r5_Holds_ok : CE.ok Try.prog r5_Holds_ce := CE.ofRec (Γ := []) (by kernel_rfl) TT_ok (GOK.nil) ⟨[(28, ⟨⟨[(.int .i64)], [(16, .v 0)], []⟩, [8, 17, 18, 146, 147, 148, 149, 150, 151, 152, 153, 154, 155, 156, 157, 158, 159, 160, 161, 162, 163, 164, 165, 166, 167, 168, 169], [], [0], 1, []⟩)], [(26, ⟨⟨[(.int .i64)], [(15, .v 0)], []⟩, [141, 142, 143, 144, 145], [], [0], 1, []⟩)], [(4, [(0, 0), (0, 1), (0, 2), (0, 3), (0, 4), (0, 5), (0, 6), (0, 7), (0, 8), (0, 9), (0, 10), (0, 11)]), (6, [(0, 0), (0, 1), (0, 2), (0, 3), (0, 4), (0, 5), (0, 6), (0, 7), (0, 8), (0, 9), (0, 10), (0, 11)]), (8, [(0, 0), (0, 1), (0, 2), (0, 3), (0, 4), (0, 5), (0, 6), (0, 7), (0, 8), (0, 9), (0, 10), (0, 11)]), (10, [(0, 0), (0, 1), (0, 2), (0, 3), (0, 4), (0, 5), (0, 6), (0, 7), (0, 8), (0, 9), (0, 10), (0, 11), (0, 12)]), (12, [(0, 0), (0, 1), (0, 2), (0, 3), (0, 4), (0, 5), (0, 6), (0, 7), (0, 8), (0, 9), (0, 10), (0, 11), (0, 12), (0, 13)])], []⟩ Try.func7 rfl Try.ntmps7 (rs := [.tmp 8]) rfl (sig := r5_Holds_sig) (out := r5_Holds_out) rfl Try.call7 (d := r5_Holds_F) (fun rc X => by kernel_rfl)

def law_LogicHolds_sig : Shape := ⟨[.str, (.list (.int .i64))], [(0, .v 0), (1, .v 1)], []⟩
def law_LogicHolds_out : Shape := ⟨[.bool], [(0, .v 0)], []⟩
noncomputable def law_LogicHolds_ce : CE := ⟨3, law_LogicHolds_sig, law_LogicHolds_out, fun X => law_LogicHolds X.1 X.2⟩
theorem law_LogicHolds_ok : CE.ok Try.prog law_LogicHolds_ce := CE.of (Γ := [logic_Holds_ce, r5_Parse_ce, r1_May_ce, r5_Holds_ce]) (by kernel_rfl) TT_ok (GOK.cons logic_Holds_ok (GOK.cons r5_Parse_ok (GOK.cons r1_May_ok (GOK.cons r5_Holds_ok (GOK.nil))))) ⟨[], [], [], []⟩ Try.func3 rfl Try.ntmps3 (rs := [.tmp 4]) rfl (sig := law_LogicHolds_sig) (out := law_LogicHolds_out) rfl Try.call3 (fun X => by kernel_rfl)

end Go.Proofs.Ytnpkoeleenhgbaa.logicHoldsW
