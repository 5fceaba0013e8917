/- That the functions of 'MonoidAlike' compute so. -/
import Derived.Test.YtlgimlpijfbbcaaMonoidAlikeD
import Derived.Test.YtlgimlpijfbbcaaProg
import Derived.KernelRfl
set_option maxHeartbeats 1000000
set_option maxRecDepth 20000
set_option linter.unusedSimpArgs false
set_option linter.unusedVariables false
set_option linter.unusedSectionVars false
namespace Go.Proofs.Ytlgimlpijfbbcaa.monoidAlikeW
open Go Go.Ab
theorem te3_sz : SzT Try.prog 3 ((.int .i64)) := SzT.ofTI (dsc := false) (size := 1) (bytes := 8) (z := .int .i64 0) (TI.of Try.underlying3 rfl (by kernel_rfl)) rfl rfl
theorem te9_sz : SzT Try.prog 9 (.str) := SzT.ofTI (dsc := false) (size := 1) (bytes := 16) (z := .string ⟨⟨[]⟩⟩) (TI.of Try.underlying9 rfl (by kernel_rfl)) rfl rfl
theorem te50_sz : SzT Try.prog 50 ((.pair (.int .i64) (.pair (.int .i64) .unit))) := SzT.ofTI (dsc := true) (size := 2) (bytes := 16) (z := .agg ⟨[.int .i64 0, .int .i64 0]⟩) (TI.of Try.underlying50 rfl (by kernel_rfl)) rfl rfl
theorem te70_sz : SzT Try.prog 70 ((.pair (.int .i64) (.pair .str .unit))) := SzT.ofTI (dsc := true) (size := 2) (bytes := 24) (z := .agg ⟨[.int .i64 0, .string ⟨⟨[]⟩⟩]⟩) (TI.of Try.underlying70 rfl (by kernel_rfl)) rfl rfl
def te3 : TE := ⟨3, .int .i64, false, 1, 8, .int .i64 0, some (.int .i64)⟩
theorem te3_ok : TEok Try.prog te3 := ⟨TI.of Try.underlying3 rfl (by kernel_rfl), Try.underlying3, fun t h => by cases h; exact ⟨rfl, rfl, by decide, rfl⟩⟩
def te4 : TE := ⟨4, .bool, false, 1, 1, .bool false, some .bool⟩
theorem te4_ok : TEok Try.prog te4 := ⟨TI.of Try.underlying4 rfl (by kernel_rfl), Try.underlying4, fun t h => by cases h; exact ⟨rfl, rfl, by decide, rfl⟩⟩
def te5 : TE := ⟨5, .int .u8, false, 1, 1, .int .u8 0, some (.int .u8)⟩
theorem te5_ok : TEok Try.prog te5 := ⟨TI.of Try.underlying5 rfl (by kernel_rfl), Try.underlying5, fun t h => by cases h; exact ⟨rfl, rfl, by decide, rfl⟩⟩
def te9 : TE := ⟨9, .str, false, 1, 16, .string ⟨⟨[]⟩⟩, some .str⟩
theorem te9_ok : TEok Try.prog te9 := ⟨TI.of Try.underlying9 rfl (by kernel_rfl), Try.underlying9, fun t h => by cases h; exact ⟨rfl, rfl, by decide, rfl⟩⟩
def te22 : TE := ⟨22, .slice 23, false, 1, 24, .slice none 0 0, some (.list (.list (.int .i64)))⟩
theorem te22_ok : TEok Try.prog te22 := ⟨TI.of Try.underlying22 rfl (by kernel_rfl), Try.underlying22, fun t h => by cases h; exact ⟨rfl, rfl, by decide, rfl⟩⟩
def te23 : TE := ⟨23, .slice 3, false, 1, 24, .slice none 0 0, some (.list (.int .i64))⟩
theorem te23_ok : TEok Try.prog te23 := ⟨TI.of Try.underlying23 rfl (by kernel_rfl), Try.underlying23, fun t h => by cases h; exact ⟨rfl, rfl, by decide, rfl⟩⟩
def te25 : TE := ⟨25, .struct [(0, 3), (1, 3), (2, 22), (3, 23)] none, true, 4, 64, .agg ⟨[.int .i64 0, .int .i64 0, .slice none 0 0, .slice none 0 0]⟩, some (.pair (.int .i64) (.pair (.int .i64) (.pair (.list (.list (.int .i64))) (.pair (.list (.int .i64)) .unit))))⟩
theorem te25_ok : TEok Try.prog te25 := ⟨TI.of Try.underlying25 rfl (by kernel_rfl), ⟨⟨_, Try.underlying25, rfl⟩, fun t h => by cases h⟩, fun t h => by cases h; exact ⟨rfl, rfl, by decide, rfl⟩⟩
def te26 : TE := ⟨26, .int .i64, false, 1, 8, .int .i64 0, some (.int .i64)⟩
theorem te26_ok : TEok Try.prog te26 := ⟨TI.of Try.underlying26 rfl (by kernel_rfl), Try.underlying26, fun t h => by cases h; exact ⟨rfl, rfl, by decide, rfl⟩⟩
def te36 : TE := ⟨36, .slice 39, false, 1, 24, .slice none 0 0, some (.list (.pair (.list (.int .i64)) (.pair (.list (.int .i64)) .unit)))⟩
theorem te36_ok : TEok Try.prog te36 := ⟨TI.of Try.underlying36 rfl (by kernel_rfl), Try.underlying36, fun t h => by cases h; exact ⟨rfl, rfl, by decide, rfl⟩⟩
def te39 : TE := ⟨39, .struct [(0, 23), (1, 23)] none, true, 2, 48, .agg ⟨[.slice none 0 0, .slice none 0 0]⟩, some (.pair (.list (.int .i64)) (.pair (.list (.int .i64)) .unit))⟩
theorem te39_ok : TEok Try.prog te39 := ⟨TI.of Try.underlying39 rfl (by kernel_rfl), ⟨⟨_, Try.underlying39, rfl⟩, fun t h => by cases h⟩, fun t h => by cases h; exact ⟨rfl, rfl, by decide, rfl⟩⟩
def te50 : TE := ⟨50, .array 2 3, true, 2, 16, .agg ⟨[.int .i64 0, .int .i64 0]⟩, some (.pair (.int .i64) (.pair (.int .i64) .unit))⟩
theorem te50_ok : TEok Try.prog te50 := ⟨TI.of Try.underlying50 rfl (by kernel_rfl), Try.underlying50, fun t h => by cases h; exact ⟨rfl, rfl, by decide, rfl⟩⟩
def te54 : TE := ⟨54, .slice 5, false, 1, 24, .slice none 0 0, some (.list (.int .u8))⟩
theorem te54_ok : TEok Try.prog te54 := ⟨TI.of Try.underlying54 rfl (by kernel_rfl), Try.underlying54, fun t h => by cases h; exact ⟨rfl, rfl, by decide, rfl⟩⟩
def te58 : TE := ⟨58, .other, false, 1, 8, .nilFunc, none⟩
theorem te58_ok : TEok Try.prog te58 := ⟨TI.of Try.underlying58 rfl (by kernel_rfl), trivial, fun t h => by cases h⟩
def te61 : TE := ⟨61, .slice 50, false, 1, 24, .slice none 0 0, some (.list (.pair (.int .i64) (.pair (.int .i64) .unit)))⟩
theorem te61_ok : TEok Try.prog te61 := ⟨TI.of Try.underlying61 rfl (by kernel_rfl), Try.underlying61, fun t h => by cases h; exact ⟨rfl, rfl, by decide, rfl⟩⟩
def te70 : TE := ⟨70, .struct [(0, 3), (1, 9)] none, true, 2, 24, .agg ⟨[.int .i64 0, .string ⟨⟨[]⟩⟩]⟩, some (.pair (.int .i64) (.pair .str .unit))⟩
theorem te70_ok : TEok Try.prog te70 := ⟨TI.of Try.underlying70 rfl (by kernel_rfl), ⟨⟨_, Try.underlying70, rfl⟩, fun t h => by cases h⟩, fun t h => by cases h; exact ⟨rfl, rfl, by decide, rfl⟩⟩
def te45 : TE := ⟨45, .map 9 3 (.str), false, 1, 8, .map none, none⟩
theorem te45_ok : TEok Try.prog te45 := ⟨TI.of Try.underlying45 rfl (by kernel_rfl), ⟨Try.underlying45, SK.str' Try.underlying9⟩, fun t h => by cases h⟩
def te60 : TE := ⟨60, .map 50 23 ((.pair (.int .i64) (.pair (.int .i64) .unit))), false, 1, 8, .map none, none⟩
theorem te60_ok : TEok Try.prog te60 := ⟨TI.of Try.underlying60 rfl (by kernel_rfl), ⟨Try.underlying60, SK.ofKey (d := 16) (KeyT.array te50_sz Try.underlying50 (KeyT.int te3_sz Try.underlying3) rfl) (by decide) rfl rfl⟩, fun t h => by cases h⟩
def te68 : TE := ⟨68, .map 70 3 ((.pair (.int .i64) (.pair .str .unit))), false, 1, 8, .map none, none⟩
theorem te68_ok : TEok Try.prog te68 := ⟨TI.of Try.underlying68 rfl (by kernel_rfl), ⟨Try.underlying68, SK.ofKey (d := 16) (KeyT.struct te70_sz Try.underlying70 (by kernel_rfl) (KFs.cons (by decide) rfl (KeyT.int te3_sz Try.underlying3) (KFs.cons (by decide) rfl (KeyT.str te9_sz Try.underlying9) KFs.nil))) (by decide) rfl rfl⟩, fun t h => by cases h⟩
def te72 : TE := ⟨72, .map 3 3 ((.int .i64)), false, 1, 8, .map none, none⟩
theorem te72_ok : TEok Try.prog te72 := ⟨TI.of Try.underlying72 rfl (by kernel_rfl), ⟨Try.underlying72, SK.int' Try.underlying3⟩, fun t h => by cases h⟩
def TT : List TE := [te3, te4, te5, te9, te22, te23, te25, te26, te36, te39, te50, te54, te58, te61, te70, te45, te60, te68, te72]
theorem TT_ok : TOK Try.prog TT := TOK.cons te3_ok (TOK.cons te4_ok (TOK.cons te5_ok (TOK.cons te9_ok (TOK.cons te22_ok (TOK.cons te23_ok (TOK.cons te25_ok (TOK.cons te26_ok (TOK.cons te36_ok (TOK.cons te39_ok (TOK.cons te50_ok (TOK.cons te54_ok (TOK.cons te58_ok (TOK.cons te61_ok (TOK.cons te70_ok (TOK.cons te45_ok (TOK.cons te60_ok (TOK.cons te68_ok (TOK.cons te72_ok (TOK.nil)))))))))))))))))))

def det_Check_1_sig : Shape := ⟨[(.list (.int .i64)), (.pair (.int .i64) (.pair (.int .i64) (.pair (.list (.list (.int .i64))) (.pair (.list (.int .i64)) .unit))))], [(0, .v 0), (1, .addr 1)], []⟩
def det_Check_1_out : Shape := ⟨[.bool], [(0, .v 0)], []⟩
noncomputable def det_Check_1_ce : CE := ⟨27, det_Check_1_sig, det_Check_1_out, fun X => det_Check_1 X.1 X.2⟩
theorem det_Check_1_ok : CE.ok Try.prog det_Check_1_ce := CE.of (Γ := []) (by kernel_rfl) TT_ok (GOK.nil) ⟨[], [], [], []⟩ Try.func27 rfl Try.ntmps27 (rs := [.tmp 3]) rfl (sig := det_Check_1_sig) (out := det_Check_1_out) rfl Try.call27 (fun X => by kernel_rfl)

def slices_IndexFunc_sig : Shape := ⟨[(.list (.list (.int .i64))), (.pair (.int .i64) (.pair (.int .i64) (.pair (.list (.list (.int .i64))) (.pair (.list (.int .i64)) .unit))))], [(0, .v 0), (1, .fn 27 [.addr 1])], []⟩
def slices_IndexFunc_out : Shape := ⟨[(.int .i64)], [(0, .v 0)], []⟩
noncomputable def slices_IndexFunc_ce : CE := ⟨36, slices_IndexFunc_sig, slices_IndexFunc_out, fun X => slices_IndexFunc X.1 X.2⟩
theorem slices_IndexFunc_ok : CE.ok Try.prog slices_IndexFunc_ce := CE.of (Γ := [det_Check_1_ce]) (by kernel_rfl) TT_ok (GOK.cons det_Check_1_ok (GOK.nil)) ⟨[(2, ⟨⟨[(.int .i64)], [(8, .v 0)], []⟩, [4, 5, 9, 10, 11, 12, 13, 14, 15, 16, 17, 18], [], [], 0, []⟩)], [], [], []⟩ Try.func36 rfl Try.ntmps36 (rs := [.tmp 4]) rfl (sig := slices_IndexFunc_sig) (out := slices_IndexFunc_out) rfl Try.call36 (fun X => by kernel_rfl)

def slices_ContainsFunc_sig : Shape := ⟨[(.list (.list (.int .i64))), (.pair (.int .i64) (.pair (.int .i64) (.pair (.list (.list (.int .i64))) (.pair (.list (.int .i64)) .unit))))], [(0, .v 0), (1, .fn 27 [.addr 1])], []⟩
def slices_ContainsFunc_out : Shape := ⟨[.bool], [(0, .v 0)], []⟩
noncomputable def slices_ContainsFunc_ce : CE := ⟨26, slices_ContainsFunc_sig, slices_ContainsFunc_out, fun X => slices_ContainsFunc X.1 X.2⟩
theorem slices_ContainsFunc_ok : CE.ok Try.prog slices_ContainsFunc_ce := CE.of (Γ := [slices_IndexFunc_ce]) (by kernel_rfl) TT_ok (GOK.cons slices_IndexFunc_ok (GOK.nil)) ⟨[], [], [], []⟩ Try.func26 rfl Try.ntmps26 (rs := [.tmp 4]) rfl (sig := slices_ContainsFunc_sig) (out := slices_ContainsFunc_out) rfl Try.call26 (fun X => by kernel_rfl)

def det_Check_2_sig : Shape := ⟨[(.int .i64), (.int .i64)], [(0, .v 0), (1, .addr 1)], []⟩
def det_Check_2_out : Shape := ⟨[.bool], [(0, .v 0)], []⟩
noncomputable def det_Check_2_ce : CE := ⟨28, det_Check_2_sig, det_Check_2_out, fun X => det_Check_2 X.1 X.2⟩
theorem det_Check_2_ok : CE.ok Try.prog det_Check_2_ce := CE.of (Γ := []) (by kernel_rfl) TT_ok (GOK.nil) ⟨[], [], [], []⟩ Try.func28 rfl Try.ntmps28 (rs := [.tmp 3]) rfl (sig := det_Check_2_sig) (out := det_Check_2_out) rfl Try.call28 (fun X => by kernel_rfl)

def slices_IndexFunc_2_sig : Shape := ⟨[(.list (.int .i64)), (.int .i64)], [(0, .v 0), (1, .fn 28 [.addr 1])], []⟩
def slices_IndexFunc_2_out : Shape := ⟨[(.int .i64)], [(0, .v 0)], []⟩
noncomputable def slices_IndexFunc_2_ce : CE := ⟨37, slices_IndexFunc_2_sig, slices_IndexFunc_2_out, fun X => slices_IndexFunc_2 X.1 X.2⟩
theorem slices_IndexFunc_2_ok : CE.ok Try.prog slices_IndexFunc_2_ce := CE.of (Γ := [det_Check_2_ce]) (by kernel_rfl) TT_ok (GOK.cons det_Check_2_ok (GOK.nil)) ⟨[(2, ⟨⟨[(.int .i64)], [(8, .v 0)], []⟩, [4, 5, 9, 10, 11, 12, 13, 14, 15, 16, 17, 18], [], [], 0, []⟩)], [], [], []⟩ Try.func37 rfl Try.ntmps37 (rs := [.tmp 4]) rfl (sig := slices_IndexFunc_2_sig) (out := slices_IndexFunc_2_out) rfl Try.call37 (fun X => by kernel_rfl)

def slices_ContainsFunc_2_sig : Shape := ⟨[(.list (.int .i64)), (.int .i64)], [(0, .v 0), (1, .fn 28 [.addr 1])], []⟩
def slices_ContainsFunc_2_out : Shape := ⟨[.bool], [(0, .v 0)], []⟩
noncomputable def slices_ContainsFunc_2_ce : CE := ⟨30, slices_ContainsFunc_2_sig, slices_ContainsFunc_2_out, fun X => slices_ContainsFunc_2 X.1 X.2⟩
theorem slices_ContainsFunc_2_ok : CE.ok Try.prog slices_ContainsFunc_2_ce := CE.of (Γ := [slices_IndexFunc_2_ce]) (by kernel_rfl) TT_ok (GOK.cons slices_IndexFunc_2_ok (GOK.nil)) ⟨[], [], [], []⟩ Try.func30 rfl Try.ntmps30 (rs := [.tmp 4]) rfl (sig := slices_ContainsFunc_2_sig) (out := slices_ContainsFunc_2_out) rfl Try.call30 (fun X => by kernel_rfl)

def det_Check_3_sig : Shape := ⟨[(.list (.int .i64)), (.int .i64)], [(0, .v 0), (1, .ptr 100000 0)], [(100000, .box 58 [.fn 28 [.addr 1]])]⟩
def det_Check_3_out : Shape := ⟨[.bool, (.int .i64)], [(0, .v 0)], [(100000, .box 58 [.fn 28 [.addr 1]])]⟩
noncomputable def det_Check_3_ce : CE := ⟨29, det_Check_3_sig, det_Check_3_out, fun X => det_Check_3 X.1 X.2⟩
theorem det_Check_3_ok : CE.ok Try.prog det_Check_3_ce := CE.of (Γ := [slices_ContainsFunc_2_ce]) (by kernel_rfl) TT_ok (GOK.cons slices_ContainsFunc_2_ok (GOK.nil)) ⟨[], [], [], []⟩ Try.func29 rfl Try.ntmps29 (rs := [.tmp 3]) rfl (sig := det_Check_3_sig) (out := det_Check_3_out) rfl Try.call29 (fun X => by kernel_rfl)

def slices_IndexFunc_1_sig : Shape := ⟨[(.list (.list (.int .i64))), (.int .i64)], [(0, .v 0), (1, .fn 29 [.ptr 100000 0])], [(100000, .box 58 [.fn 28 [.addr 1]])]⟩
def slices_IndexFunc_1_out : Shape := ⟨[(.int .i64), (.int .i64)], [(0, .v 0)], [(100000, .box 58 [.fn 28 [.addr 1]])]⟩
noncomputable def slices_IndexFunc_1_ce : CE := ⟨36, slices_IndexFunc_1_sig, slices_IndexFunc_1_out, fun X => slices_IndexFunc_1 X.1 X.2⟩
theorem slices_IndexFunc_1_ok : CE.ok Try.prog slices_IndexFunc_1_ce := CE.of (Γ := [det_Check_3_ce]) (by kernel_rfl) TT_ok (GOK.cons det_Check_3_ok (GOK.nil)) ⟨[(2, ⟨⟨[(.int .i64), (.int .i64)], [(1, .fn 29 [.ptr 100000 0]), (8, .v 0)], [(100000, .box 58 [.fn 28 [.addr 1]])]⟩, [4, 5, 9, 10, 11, 12, 13, 14, 15, 16, 17, 18], [], [], 0, []⟩)], [], [], []⟩ Try.func36 rfl Try.ntmps36 (rs := [.tmp 4]) rfl (sig := slices_IndexFunc_1_sig) (out := slices_IndexFunc_1_out) rfl Try.call36 (fun X => by kernel_rfl)

def slices_ContainsFunc_1_sig : Shape := ⟨[(.list (.list (.int .i64))), (.int .i64)], [(0, .v 0), (1, .fn 29 [.ptr 100000 0])], [(100000, .box 58 [.fn 28 [.addr 1]])]⟩
def slices_ContainsFunc_1_out : Shape := ⟨[.bool, (.int .i64)], [(0, .v 0)], [(100000, .box 58 [.fn 28 [.addr 1]])]⟩
noncomputable def slices_ContainsFunc_1_ce : CE := ⟨26, slices_ContainsFunc_1_sig, slices_ContainsFunc_1_out, fun X => slices_ContainsFunc_1 X.1 X.2⟩
theorem slices_ContainsFunc_1_ok : CE.ok Try.prog slices_ContainsFunc_1_ce := CE.of (Γ := [slices_IndexFunc_1_ce]) (by kernel_rfl) TT_ok (GOK.cons slices_IndexFunc_1_ok (GOK.nil)) ⟨[], [], [], []⟩ Try.func26 rfl Try.ntmps26 (rs := [.tmp 4]) rfl (sig := slices_ContainsFunc_1_sig) (out := slices_ContainsFunc_1_out) rfl Try.call26 (fun X => by kernel_rfl)

def det_Check_4_sig : Shape := ⟨[(.int .i64)], [(0, .v 0)], []⟩
def det_Check_4_out : Shape := ⟨[.bool], [(0, .v 0)], []⟩
noncomputable def det_Check_4_ce : CE := ⟨31, det_Check_4_sig, det_Check_4_out, fun X => det_Check_4 X⟩
theorem det_Check_4_ok : CE.ok Try.prog det_Check_4_ce := CE.of (Γ := []) (by kernel_rfl) TT_ok (GOK.nil) ⟨[], [], [], []⟩ Try.func31 rfl Try.ntmps31 (rs := [.tmp 2]) rfl (sig := det_Check_4_sig) (out := det_Check_4_out) rfl Try.call31 (fun X => by kernel_rfl)

def slices_IndexFunc_3_sig : Shape := ⟨[(.list (.int .i64))], [(0, .v 0), (1, .fn 31 [])], []⟩
def slices_IndexFunc_3_out : Shape := ⟨[(.int .i64)], [(0, .v 0)], []⟩
noncomputable def slices_IndexFunc_3_ce : CE := ⟨37, slices_IndexFunc_3_sig, slices_IndexFunc_3_out, fun X => slices_IndexFunc_3 X⟩
theorem slices_IndexFunc_3_ok : CE.ok Try.prog slices_IndexFunc_3_ce := CE.of (Γ := [det_Check_4_ce]) (by kernel_rfl) TT_ok (GOK.cons det_Check_4_ok (GOK.nil)) ⟨[(2, ⟨⟨[(.int .i64)], [(8, .v 0)], []⟩, [4, 5, 9, 10, 11, 12, 13, 14, 15, 16, 17, 18], [], [], 0, []⟩)], [], [], []⟩ Try.func37 rfl Try.ntmps37 (rs := [.tmp 4]) rfl (sig := slices_IndexFunc_3_sig) (out := slices_IndexFunc_3_out) rfl Try.call37 (fun X => by kernel_rfl)

def slices_ContainsFunc_3_sig : Shape := ⟨[(.list (.int .i64))], [(0, .v 0), (1, .fn 31 [])], []⟩
def slices_ContainsFunc_3_out : Shape := ⟨[.bool], [(0, .v 0)], []⟩
noncomputable def slices_ContainsFunc_3_ce : CE := ⟨30, slices_ContainsFunc_3_sig, slices_ContainsFunc_3_out, fun X => slices_ContainsFunc_3 X⟩
theorem slices_ContainsFunc_3_ok : CE.ok Try.prog slices_ContainsFunc_3_ce := CE.of (Γ := [slices_IndexFunc_3_ce]) (by kernel_rfl) TT_ok (GOK.cons slices_IndexFunc_3_ok (GOK.nil)) ⟨[], [], [], []⟩ Try.func30 rfl Try.ntmps30 (rs := [.tmp 4]) rfl (sig := slices_ContainsFunc_3_sig) (out := slices_ContainsFunc_3_out) rfl Try.call30 (fun X => by kernel_rfl)

def det_Check_sig : Shape := ⟨[(.pair (.int .i64) (.pair (.int .i64) (.pair (.list (.list (.int .i64))) (.pair (.list (.int .i64)) .unit))))], [(0, .v 0)], []⟩
def det_Check_out : Shape := ⟨[(.int .i64)], [(0, .v 0)], []⟩
noncomputable def det_Check_ce : CE := ⟨20, det_Check_sig, det_Check_out, fun X => det_Check X⟩
theorem det_Check_ok : CE.ok Try.prog det_Check_ce := CE.of (Γ := [slices_ContainsFunc_ce, det_Check_2_ce, slices_ContainsFunc_1_ce, slices_ContainsFunc_3_ce]) (by kernel_rfl) TT_ok (GOK.cons slices_ContainsFunc_ok (GOK.cons det_Check_2_ok (GOK.cons slices_ContainsFunc_1_ok (GOK.cons slices_ContainsFunc_3_ok (GOK.nil))))) ⟨[], [], [], []⟩ Try.func20 rfl Try.ntmps20 (rs := [.tmp 2]) rfl (sig := det_Check_sig) (out := det_Check_out) rfl Try.call20 (fun X => by kernel_rfl)

def slices_Clone_sig : Shape := ⟨[(.list (.int .i64))], [(0, .v 0)], []⟩
def slices_Clone_out : Shape := ⟨[(.list (.int .i64))], [(0, .own 0)], [(0, .arr 3 0)]⟩
noncomputable def slices_Clone_ce : CE := ⟨19, slices_Clone_sig, slices_Clone_out, fun X => slices_Clone X⟩
theorem slices_Clone_ok : CE.ok Try.prog slices_Clone_ce := CE.of (Γ := []) (by kernel_rfl) TT_ok (GOK.nil) ⟨[], [], [], []⟩ Try.func19 rfl Try.ntmps19 (rs := [.tmp 2]) rfl (sig := slices_Clone_sig) (out := slices_Clone_out) rfl Try.call19 (fun X => by kernel_rfl)

def det_Classes_sig : Shape := ⟨[(.pair (.int .i64) (.pair (.int .i64) (.pair (.list (.list (.int .i64))) (.pair (.list (.int .i64)) .unit))))], [(0, .v 0)], []⟩
def det_Classes_out : Shape := ⟨[(.list (.int .i64))], [(0, .own 0)], [(0, .arr 3 0)]⟩
noncomputable def det_Classes_ce : CE := ⟨32, det_Classes_sig, det_Classes_out, fun X => det_Classes X⟩
theorem det_Classes_ok : CE.ok Try.prog det_Classes_ce := CE.of (Γ := [slices_Clone_ce]) (by kernel_rfl) TT_ok (GOK.cons slices_Clone_ok (GOK.nil)) ⟨[(3, ⟨⟨[(.int .i64), (.list (.int .i64))], [(3, .own 1), (4, .v 0)], [(1, .arr 3 1)]⟩, [2, 5, 6, 7, 8, 9, 11, 12, 13, 14, 17, 18, 19, 20, 21, 22, 23, 24, 25, 26, 27, 28, 29, 30, 31, 32, 33, 34, 35, 36, 37, 38, 39, 40, 41, 42, 43, 44, 45, 46, 47, 48, 49, 50, 51, 52, 53, 54, 55, 56, 57, 58, 59, 60, 61, 62, 63, 64, 65, 66, 67, 68, 69, 70, 71, 72, 73, 74, 75, 76, 77, 78, 79, 80, 81, 82, 83, 84], [], [0], 2, []⟩), (6, ⟨⟨[(.int .i64), (.list (.pair (.int .i64) (.pair .str .unit))), (.list (.int .i64)), (.list (.int .i64))], [(5, .own 2), (6, .own 3), (25, .v 0)], [(2, .box 68 [.v 1, .v 2]), (3, .arr 3 3)]⟩, [7, 8, 9, 11, 12, 13, 14, 18, 21, 26, 27, 28, 29, 30, 31, 32, 33, 34, 35, 36, 37, 38, 39, 40, 41, 42, 43, 44, 45, 46, 47, 48, 49, 50, 51, 52, 53, 54, 55, 56, 57, 58, 59, 60, 61, 62, 63, 64, 65, 66, 67, 68, 69, 70, 71, 72, 73, 74, 75, 76], [], [0, 1], 4, []⟩), (10, ⟨⟨[(.int .i64), (.list (.int .u8))], [(9, .own 4), (32, .v 0)], [(4, .arr 5 1)]⟩, [11, 33, 34, 35, 36, 37, 38, 39, 40, 41, 42, 43, 44, 45, 46, 47, 48, 49, 50], [], [0, 1, 2, 3], 5, []⟩)], [(17, ⟨⟨[(.list (.pair (.int .i64) (.pair .str .unit))), (.list (.int .i64))], [(5, .own 2)], [(2, .box 68 [.v 0, .v 1])]⟩, [13, 14, 58, 59, 60, 61, 62, 63, 64, 65, 66, 67, 68, 69], [], [0, 1, 3, 4, 5], 6, []⟩)], [(12, [(0, 0), (0, 1), (0, 2), (0, 3), (0, 4), (0, 5), (0, 6), (0, 7), (0, 8), (0, 9), (0, 10), (0, 11), (1, 12), (2, 13), (0, 14)]), (14, [(0, 0), (0, 1), (0, 2), (0, 3), (0, 4), (0, 5), (0, 6), (1, 7), (2, 8)])], []⟩ Try.func32 rfl Try.ntmps32 (rs := [.tmp 2]) rfl (sig := det_Classes_sig) (out := det_Classes_out) rfl Try.call32 (fun X => by kernel_rfl)

def det_Smallest_1_sig : Shape := ⟨[(.int .i64), (.int .i64), (.list (.int .i64)), (.pair (.int .i64) (.pair (.int .i64) (.pair (.list (.list (.int .i64))) (.pair (.list (.int .i64)) .unit)))), (.list (.int .i64))], [(0, .v 0), (1, .v 1), (2, .addr 2), (3, .addr 3), (4, .addr 4)], []⟩
def det_Smallest_1_out : Shape := ⟨[(.int .i64)], [(0, .v 0)], []⟩
noncomputable def det_Smallest_1_ce : CE := ⟨34, det_Smallest_1_sig, det_Smallest_1_out, fun X => det_Smallest_1 X.1 X.2.1 X.2.2.1 X.2.2.2.1 X.2.2.2.2⟩
theorem det_Smallest_1_ok : CE.ok Try.prog det_Smallest_1_ce := CE.of (Γ := []) (by kernel_rfl) TT_ok (GOK.nil) ⟨[], [], [(1, [(0, 0), (0, 1), (0, 2), (0, 3), (0, 4), (0, 5), (0, 6), (0, 7), (0, 8), (0, 9), (0, 10), (0, 11), (0, 12), (0, 13), (0, 14)])], []⟩ Try.func34 rfl Try.ntmps34 (rs := [.tmp 7]) rfl (sig := det_Smallest_1_sig) (out := det_Smallest_1_out) rfl Try.call34 (fun X => by kernel_rfl)

def det_Smallest_2_sig : Shape := ⟨[(.int .i64), (.pair (.int .i64) (.pair (.int .i64) (.pair (.list (.list (.int .i64))) (.pair (.list (.int .i64)) .unit)))), (.list (.int .i64))], [(0, .v 0), (1, .addr 1), (2, .addr 2)], []⟩
def det_Smallest_2_out : Shape := ⟨[(.int .i64)], [(0, .v 0)], []⟩
noncomputable def det_Smallest_2_ce : CE := ⟨35, det_Smallest_2_sig, det_Smallest_2_out, fun X => det_Smallest_2 X.1 X.2.1 X.2.2⟩
theorem det_Smallest_2_ok : CE.ok Try.prog det_Smallest_2_ce := CE.of (Γ := []) (by kernel_rfl) TT_ok (GOK.nil) ⟨[], [], [(1, [(0, 0), (0, 1), (0, 2), (0, 3), (0, 4), (0, 5), (0, 6), (0, 7), (0, 8)])], []⟩ Try.func35 rfl Try.ntmps35 (rs := [.tmp 4]) rfl (sig := det_Smallest_2_sig) (out := det_Smallest_2_out) rfl Try.call35 (fun X => by kernel_rfl)

def det_Explore_sig : Shape := ⟨[(.int .i64), (.int .i64), (.list (.int .i64)), (.pair (.int .i64) (.pair (.int .i64) (.pair (.list (.list (.int .i64))) (.pair (.list (.int .i64)) .unit)))), (.list (.int .i64)), (.pair (.int .i64) (.pair (.int .i64) (.pair (.list (.list (.int .i64))) (.pair (.list (.int .i64)) .unit)))), (.list (.int .i64)), (.int .i64)], [(0, .v 0), (1, .v 1), (2, .fn 34 [.addr 2, .addr 3, .addr 4]), (3, .fn 35 [.addr 5, .addr 6]), (4, .v 7)], []⟩
def det_Explore_out : Shape := ⟨[(.pair (.int .i64) (.pair (.int .i64) (.pair (.list (.list (.int .i64))) (.pair (.list (.int .i64)) .unit)))), .bool], [(0, .v 0), (1, .v 1)], []⟩
noncomputable def det_Explore_ce : CE := ⟨33, det_Explore_sig, det_Explore_out, fun X => det_Explore X.1 X.2.1 X.2.2.1 X.2.2.2.1 X.2.2.2.2.1 X.2.2.2.2.2.1 X.2.2.2.2.2.2.1 X.2.2.2.2.2.2.2⟩
theorem det_Explore_ok : CE.ok Try.prog det_Explore_ce := CE.of (Γ := [det_Smallest_1_ce, det_Smallest_2_ce]) (by kernel_rfl) TT_ok (GOK.cons det_Smallest_1_ok (GOK.cons det_Smallest_2_ok (GOK.nil))) ⟨[(4, ⟨⟨[(.int .i64), (.int .i64), (.list (.int .i64)), (.list (.int .i64)), (.list (.int .i64)), (.list (.list (.int .i64))), (.list (.int .i64))], [(12, .ptr 1 0), (13, .own 2), (14, .own 3)], [(1, .box 25 [.v 0, .v 1, .own 4, .own 5]), (2, .box 72 [.v 2, .v 3]), (3, .arr 3 4), (4, .arr 23 5), (5, .arr 3 6)]⟩, [11, 15, 16, 17, 18, 19, 20, 23, 25, 27, 28, 29, 30, 31, 32, 33, 34, 35, 36, 37, 38, 39, 40, 41, 42, 43, 44, 45, 46, 47, 48, 49, 50, 51, 52, 53, 54, 55, 56, 57, 58, 59, 60, 61, 62, 63, 64, 65, 66, 67, 68, 69, 70, 71, 72, 73, 74, 75, 76, 77, 78, 79, 80, 81, 82, 83, 84, 85, 86, 87, 88, 89], [], [0], 6, [(1, 2, some 23, (.list (.int .i64))), (1, 3, some 3, (.int .i64))]⟩), (8, ⟨⟨[(.int .i64), (.list (.int .i64)), (.list (.int .i64)), (.list (.int .i64)), (.list (.int .i64))], [(13, .own 2), (14, .own 3), (16, .own 6), (43, .v 0)], [(2, .box 72 [.v 1, .v 2]), (3, .arr 3 3), (6, .arr 3 4)]⟩, [11, 17, 18, 19, 20, 31, 34, 38, 41, 44, 45, 46, 47, 48, 49, 50, 51, 52, 53, 54, 55, 56, 57, 58, 59, 60, 61, 62, 63, 64, 65, 66, 67, 68, 69, 70, 71, 72, 73, 74, 75], [], [0, 1, 4, 5], 7, []⟩)], [(17, ⟨⟨[(.int .i64), (.list (.int .i64)), (.list (.int .i64)), (.list (.int .i64))], [(13, .own 2), (14, .own 7), (19, .v 0)], [(2, .box 72 [.v 1, .v 2]), (7, .arr 3 3)]⟩, [11, 51, 56, 57, 58, 59, 60, 61, 62, 63, 64, 65, 66, 67, 68, 69, 70], [3], [0, 1, 4, 5, 6], 8, []⟩)], [(21, [(0, 0), (0, 1), (0, 2), (0, 3), (1, 4), (1, 5), (2, 6), (0, 7), (2, 8)])], []⟩ Try.func33 rfl Try.ntmps33 (rs := [.cell 10 25, .tmp 11]) rfl (sig := det_Explore_sig) (out := det_Explore_out) rfl Try.call33 (fun X => by kernel_rfl)

def det_Smallest_sig : Shape := ⟨[(.pair (.int .i64) (.pair (.int .i64) (.pair (.list (.list (.int .i64))) (.pair (.list (.int .i64)) .unit))))], [(0, .v 0)], []⟩
def det_Smallest_out : Shape := ⟨[(.pair (.int .i64) (.pair (.int .i64) (.pair (.list (.list (.int .i64))) (.pair (.list (.int .i64)) .unit))))], [(0, .v 0)], []⟩
noncomputable def det_Smallest_ce : CE := ⟨25, det_Smallest_sig, det_Smallest_out, fun X => det_Smallest X⟩
theorem det_Smallest_ok : CE.ok Try.prog det_Smallest_ce := CE.of (Γ := [det_Classes_ce, det_Explore_ce]) (by kernel_rfl) TT_ok (GOK.cons det_Classes_ok (GOK.cons det_Explore_ok (GOK.nil))) ⟨[(4, ⟨⟨[(.int .i64), (.list (.int .i64))], [(4, .ptr 5 0), (16, .v 0)], [(5, .box 23 [.own 4]), (4, .arr 3 1)]⟩, [5, 6, 13, 17, 18, 19, 20, 21, 22, 23, 24, 25], [], [0, 1, 2, 3], 6, []⟩)], [(8, ⟨⟨[(.int .i64), (.int .i64), (.list (.list (.int .i64))), (.list (.int .i64))], [(7, .ptr 6 0)], [(6, .box 25 [.v 0, .v 1, .v 2, .v 3])]⟩, [1, 3, 4, 8, 10, 11, 14, 26, 27, 28, 29, 30, 31, 32, 33, 34, 35, 36, 37, 38, 39, 40, 41], [0, 2, 3, 4, 5], [1], 7, []⟩)], [], [(8, (.one 0 (.one 3 (.one 7 (.one 8 (.live [12, 17] (.rd 1 [12, 13, 14, 15, 17, 18] (.rd 2 [5, 6, 12, 13, 14, 15, 17, 18] (.rd 4 [5, 6, 12, 13, 14, 15, 17, 18] (.rd 5 [6, 12, 13, 14, 15, 17, 18] (.rd 6 [12, 13, 14, 15, 17, 18] (.rd 9 [10, 11, 12, 13, 14, 15, 17, 18] (.rd 10 [11, 12, 13, 14, 15, 17, 18] (.rd 11 [12, 13, 14, 15, 17, 18] (.alt 2 12 (.leaf [(0, 13), (0, 14), (0, 15), (1, 16), (2, 17), (0, 18)]) (.alt 1 16 (.alt 2 12 (.leaf [(0, 13), (0, 14), (0, 15), (2, 17), (0, 18)]) .stop) .stop))))))))))))))))]⟩ Try.func25 rfl Try.ntmps25 (rs := [.cell 2 25]) rfl (sig := det_Smallest_sig) (out := det_Smallest_out) rfl Try.call25 (fun X => by kernel_rfl)

def det_Least_sig : Shape := ⟨[(.pair (.int .i64) (.pair (.int .i64) (.pair (.list (.list (.int .i64))) (.pair (.list (.int .i64)) .unit))))], [(0, .v 0)], []⟩
def det_Least_out : Shape := ⟨[(.pair (.int .i64) (.pair (.int .i64) (.pair (.list (.list (.int .i64))) (.pair (.list (.int .i64)) .unit)))), (.int .i64)], [(0, .v 0), (1, .v 1)], []⟩
noncomputable def det_Least_ce : CE := ⟨17, det_Least_sig, det_Least_out, fun X => det_Least X⟩
theorem det_Least_ok : CE.ok Try.prog det_Least_ce := CE.of (Γ := [det_Check_ce, det_Smallest_ce]) (by kernel_rfl) TT_ok (GOK.cons det_Check_ok (GOK.cons det_Smallest_ok (GOK.nil))) ⟨[], [], [], []⟩ Try.func17 rfl Try.ntmps17 (rs := [.cell 2 25, .tmp 3]) rfl (sig := det_Least_sig) (out := det_Least_out) rfl Try.call17 (fun X => by kernel_rfl)

def monoid_small_sig : Shape := ⟨[(.pair (.int .i64) (.pair (.int .i64) (.pair (.list (.list (.int .i64))) (.pair (.list (.int .i64)) .unit))))], [(0, .v 0)], []⟩
def monoid_small_out : Shape := ⟨[(.pair (.int .i64) (.pair (.int .i64) (.pair (.list (.list (.int .i64))) (.pair (.list (.int .i64)) .unit)))), (.int .i64)], [(0, .v 0), (1, .v 1)], []⟩
noncomputable def monoid_small_ce : CE := ⟨10, monoid_small_sig, monoid_small_out, fun X => monoid_small X⟩
theorem monoid_small_ok : CE.ok Try.prog monoid_small_ce := CE.of (Γ := [det_Least_ce]) (by kernel_rfl) TT_ok (GOK.cons det_Least_ok (GOK.nil)) ⟨[], [], [], []⟩ Try.func10 rfl Try.ntmps10 (rs := [.cell 2 25, .tmp 3]) rfl (sig := monoid_small_sig) (out := monoid_small_out) rfl Try.call10 (fun X => by kernel_rfl)

def word_May_sig : Shape := ⟨[(.int .i64), (.list (.int .i64))], [(0, .v 0), (1, .v 1)], []⟩
def word_May_out : Shape := ⟨[(.int .i64)], [(0, .v 0)], []⟩
noncomputable def word_May_ce : CE := ⟨11, word_May_sig, word_May_out, fun X => word_May X.1 X.2⟩
theorem word_May_ok : CE.ok Try.prog word_May_ce := CE.of (Γ := []) (by kernel_rfl) TT_ok (GOK.nil) ⟨[(6, ⟨⟨[(.int .i64)], [(18, .v 0)], []⟩, [4, 6, 19, 20, 21, 22, 23, 24, 25, 26, 27, 28, 29], [], [], 0, []⟩)], [], [], []⟩ Try.func11 rfl Try.ntmps11 (rs := [.tmp 4]) rfl (sig := word_May_sig) (out := word_May_out) rfl Try.call11 (fun X => by kernel_rfl)

def det_Key_sig : Shape := ⟨[(.list (.int .i64))], [(0, .v 0)], []⟩
def det_Key_out : Shape := ⟨[.str], [(0, .v 0)], []⟩
noncomputable def det_Key_ce : CE := ⟨18, det_Key_sig, det_Key_out, fun X => det_Key X⟩
theorem det_Key_ok : CE.ok Try.prog det_Key_ce := CE.of (Γ := []) (by kernel_rfl) TT_ok (GOK.nil) ⟨[(3, ⟨⟨[(.int .i64), (.list (.int .u8))], [(3, .own 0), (8, .v 0)], [(0, .arr 5 1)]⟩, [5, 9, 10, 11, 12, 13, 14, 15, 16, 17, 18, 19, 20], [], [], 1, []⟩)], [], [], []⟩ Try.func18 rfl Try.ntmps18 (rs := [.tmp 2]) rfl (sig := det_Key_sig) (out := det_Key_out) rfl Try.call18 (fun X => by kernel_rfl)

def monoid_elements_sig : Shape := ⟨[(.pair (.int .i64) (.pair (.int .i64) (.pair (.list (.list (.int .i64))) (.pair (.list (.int .i64)) .unit))))], [(0, .v 0)], []⟩
def monoid_elements_out : Shape := ⟨[(.list (.pair (.list (.int .i64)) (.pair (.list (.int .i64)) .unit)))], [(0, .own 0)], [(0, .arr 39 0)]⟩
noncomputable def monoid_elements_ce : CE := ⟨12, monoid_elements_sig, monoid_elements_out, fun X => monoid_elements X⟩
theorem monoid_elements_ok : CE.ok Try.prog monoid_elements_ce := CE.of (Γ := [det_Key_ce, slices_Clone_ce]) (by kernel_rfl) TT_ok (GOK.cons det_Key_ok (GOK.cons slices_Clone_ok (GOK.nil))) ⟨[(3, ⟨⟨[(.int .i64), (.list (.int .i64))], [(3, .ptr 1 0), (17, .v 0)], [(1, .box 39 [.own 2, .nil]), (2, .arr 3 1)]⟩, [4, 18, 19, 20, 21, 22, 23, 24, 25, 26], [], [0], 3, [(1, 0, some 3, (.int .i64))]⟩), (10, ⟨⟨[(.int .i64), (.list .str), (.list (.int .i64)), (.list (.pair (.list (.int .i64)) (.pair (.list (.int .i64)) .unit)))], [(5, .own 3), (6, .own 4), (7, .v 0)], [(3, .box 45 [.v 1, .v 2]), (4, .arr 39 3)]⟩, [8, 9, 11, 12, 27, 29, 31, 33, 34, 35, 36, 37, 38, 39, 40, 41, 42, 43, 44, 45, 46, 47, 48, 49, 50, 51, 52, 53, 54, 55, 56, 57, 58, 59, 60, 61, 62, 63, 64, 65, 66, 67, 68, 69, 70, 71, 72, 73, 74, 75, 76, 77, 78, 79, 80, 81, 82, 83, 84, 85, 86, 87, 88, 89, 90, 91, 92, 93, 94], [], [0, 1], 5, []⟩), (13, ⟨⟨[(.int .i64), (.list .str), (.list (.int .i64)), (.list (.pair (.list (.int .i64)) (.pair (.list (.int .i64)) .unit)))], [(5, .own 3), (6, .own 4), (42, .v 0)], [(3, .box 45 [.v 1, .v 2]), (4, .arr 39 3)]⟩, [8, 9, 11, 12, 35, 43, 44, 45, 46, 47, 48, 49, 50, 51, 52, 53, 54, 55, 56, 57, 58, 59, 60, 61, 62, 63, 64, 65, 66, 67, 68, 69, 70, 71, 72, 73, 74, 75, 76, 77, 78, 79, 80, 81, 82, 83, 84, 85, 86, 87, 88, 89, 90, 91, 92, 93, 94], [], [0, 1], 5, []⟩), (17, ⟨⟨[(.int .i64), (.list (.int .i64)), (.list (.int .i64))], [(9, .ptr 8 0), (61, .v 0)], [(8, .box 39 [.own 9, .v 1]), (9, .arr 3 2)]⟩, [11, 50, 62, 63, 64, 65, 66, 67, 68, 69, 70, 71, 72, 73, 74, 75, 76, 77, 78], [], [0, 1, 3, 4, 6], 10, [(8, 0, some 3, (.int .i64))]⟩)], [(24, ⟨⟨[(.list .str), (.list (.int .i64)), (.list (.pair (.list (.int .i64)) (.pair (.list (.int .i64)) .unit)))], [(5, .own 3), (6, .own 5)], [(3, .box 45 [.v 0, .v 1]), (5, .arr 39 2)]⟩, [8, 9, 11, 12, 44, 45, 46, 47, 48, 49, 50, 51, 52, 53, 54, 55, 56, 57, 58, 59, 60, 61, 62, 63, 64, 65, 66, 67, 68, 69, 70, 71, 72, 73, 74, 75, 76, 77, 78, 79, 80, 81, 82, 83, 84, 85, 86, 87, 88, 89, 90, 91, 92, 93], [4], [0, 1], 6, []⟩)], [(19, [(0, 0), (0, 1), (0, 2), (0, 3), (0, 4), (0, 5), (0, 6), (0, 7), (0, 8), (0, 9), (1, 10), (2, 11), (0, 12), (2, 13)])], []⟩ Try.func12 rfl Try.ntmps12 (rs := [.tmp 2]) rfl (sig := monoid_elements_sig) (out := monoid_elements_out) rfl Try.call12 (fun X => by kernel_rfl)

def det_After_sig : Shape := ⟨[(.pair (.int .i64) (.pair (.int .i64) (.pair (.list (.list (.int .i64))) (.pair (.list (.int .i64)) .unit)))), (.int .i64), (.list (.int .i64))], [(0, .v 0), (1, .v 1), (2, .v 2)], []⟩
def det_After_out : Shape := ⟨[(.int .i64)], [(0, .v 0)], []⟩
noncomputable def det_After_ce : CE := ⟨13, det_After_sig, det_After_out, fun X => det_After X.1 X.2.1 X.2.2⟩
theorem det_After_ok : CE.ok Try.prog det_After_ce := CE.of (Γ := []) (by kernel_rfl) TT_ok (GOK.nil) ⟨[(2, ⟨⟨[(.int .i64), (.int .i64)], [(1, .v 0), (11, .v 1)], []⟩, [8, 12, 13, 14, 15, 16, 17, 18, 19, 20, 21, 22, 23], [], [0], 1, []⟩)], [], [], []⟩ Try.func13 rfl Try.ntmps13 (rs := [.tmp 6]) rfl (sig := det_After_sig) (out := det_After_out) rfl Try.call13 (fun X => by kernel_rfl)

def det_Apart_2_sig : Shape := ⟨[(.pair (.int .i64) (.pair (.int .i64) .unit)), (.pair (.int .i64) (.pair (.int .i64) (.pair (.list (.list (.int .i64))) (.pair (.list (.int .i64)) .unit))))], [(0, .v 0), (1, .addr 1)], []⟩
def det_Apart_2_out : Shape := ⟨[.bool], [(0, .v 0)], []⟩
noncomputable def det_Apart_2_ce : CE := ⟨23, det_Apart_2_sig, det_Apart_2_out, fun X => det_Apart_2 X.1 X.2⟩
theorem det_Apart_2_ok : CE.ok Try.prog det_Apart_2_ce := CE.of (Γ := []) (by kernel_rfl) TT_ok (GOK.nil) ⟨[], [], [(1, [(0, 0), (0, 1), (0, 2), (0, 3), (0, 4), (0, 5), (0, 6), (0, 7), (0, 8), (0, 9), (0, 10), (0, 11), (0, 12), (0, 13)])], []⟩ Try.func23 rfl Try.ntmps23 (rs := [.tmp 3]) rfl (sig := det_Apart_2_sig) (out := det_Apart_2_out) rfl Try.call23 (fun X => by kernel_rfl)

def det_Apart_1_sig : Shape := ⟨[(.pair (.int .i64) (.pair (.int .i64) .unit)), (.int .i64), (.pair (.int .i64) (.pair (.int .i64) (.pair (.list (.list (.int .i64))) (.pair (.list (.int .i64)) .unit))))], [(0, .v 0), (1, .v 1), (2, .addr 2)], []⟩
def det_Apart_1_out : Shape := ⟨[(.pair (.int .i64) (.pair (.int .i64) .unit))], [(0, .v 0)], []⟩
noncomputable def det_Apart_1_ce : CE := ⟨22, det_Apart_1_sig, det_Apart_1_out, fun X => det_Apart_1 X.1 X.2.1 X.2.2⟩
theorem det_Apart_1_ok : CE.ok Try.prog det_Apart_1_ce := CE.of (Γ := []) (by kernel_rfl) TT_ok (GOK.nil) ⟨[], [], [(1, [(0, 0), (0, 1), (0, 2), (0, 3), (0, 4), (0, 5), (0, 6), (0, 7), (0, 8), (0, 9), (0, 10), (0, 11), (0, 12), (0, 13), (0, 14), (0, 15), (0, 16), (0, 17), (0, 18), (2, 19)])], []⟩ Try.func22 rfl Try.ntmps22 (rs := [.cell 5 50]) rfl (sig := det_Apart_1_sig) (out := det_Apart_1_out) rfl Try.call22 (fun X => by kernel_rfl)

def det_seeks_sig : Shape := ⟨[(.pair (.int .i64) (.pair (.int .i64) .unit)), (.int .i64), (.pair (.int .i64) (.pair (.int .i64) (.pair (.list (.list (.int .i64))) (.pair (.list (.int .i64)) .unit)))), (.pair (.int .i64) (.pair (.int .i64) (.pair (.list (.list (.int .i64))) (.pair (.list (.int .i64)) .unit))))], [(0, .v 0), (1, .v 1), (2, .fn 22 [.addr 2]), (3, .fn 23 [.addr 3])], []⟩
def det_seeks_out : Shape := ⟨[(.list (.int .i64)), .bool], [(0, .v 0), (1, .v 1)], []⟩
noncomputable def det_seeks_ce : CE := ⟨21, det_seeks_sig, det_seeks_out, fun X => det_seeks X.1 X.2.1 X.2.2.1 X.2.2.2⟩
theorem det_seeks_ok : CE.ok Try.prog det_seeks_ce := CE.of (Γ := [det_Apart_2_ce, det_Apart_1_ce, slices_Clone_ce]) (by kernel_rfl) TT_ok (GOK.cons det_Apart_2_ok (GOK.cons det_Apart_1_ok (GOK.cons slices_Clone_ok (GOK.nil)))) ⟨[(3, ⟨⟨[(.list (.pair (.int .i64) (.pair (.int .i64) .unit))), (.list (.list (.int .i64))), (.list (.pair (.int .i64) (.pair (.int .i64) .unit)))], [(10, .own 1), (11, .own 3)], [(1, .box 60 [.v 0, .v 1]), (3, .arr 50 2)]⟩, [8, 9, 12, 13, 14, 15, 16, 19, 21, 22, 23, 24, 25, 26, 27, 28, 29, 30, 31, 32, 33, 34, 35, 36, 37, 38, 39, 40, 41, 42, 43, 44, 45, 46, 47, 48, 49, 50, 51, 52, 53, 54, 55, 56, 57, 58, 59, 60, 61, 62, 63, 64, 65, 66, 67, 68, 69, 70], [], [0], 4, []⟩), (8, ⟨⟨[(.int .i64), (.list (.pair (.int .i64) (.pair (.int .i64) .unit))), (.list (.list (.int .i64))), (.list (.pair (.int .i64) (.pair (.int .i64) .unit)))], [(10, .own 1), (11, .own 3), (38, .v 0)], [(1, .box 60 [.v 1, .v 2]), (3, .arr 50 3)]⟩, [12, 13, 14, 15, 16, 19, 22, 28, 29, 39, 40, 41, 42, 43, 44, 45, 46, 47, 48, 49, 50, 51, 52, 53, 54, 55, 56, 57, 58, 59, 60, 61, 62, 63, 64, 65, 66, 67, 68, 69, 70], [], [0], 4, []⟩)], [(13, ⟨⟨[(.list (.pair (.int .i64) (.pair (.int .i64) .unit))), (.list (.list (.int .i64)))], [(10, .own 1)], [(1, .box 60 [.v 0, .v 1])]⟩, [48, 55, 56, 57, 58, 59, 60, 61, 62, 63, 64, 65], [], [0, 3, 4], 5, []⟩)], [(4, [(0, 0), (1, 1), (0, 2)])], [(13, (.one 0 (.one 2 (.one 3 (.one 4 (.one 8 (.live [10, 11] (.rd 5 [6, 7, 10, 11] (.rd 6 [7, 10, 11] (.alt 0 1 (.alt 1 7 (.alt 1 9 (.alt 2 10 (.leaf [(2, 11)]) .stop) .stop) (.alt 1 9 (.alt 1 7 (.alt 2 10 (.leaf [(2, 11)]) .stop) .stop) .stop)) (.alt 1 7 (.alt 0 1 (.alt 1 9 (.alt 2 10 (.leaf [(2, 11)]) .stop) .stop) (.alt 1 9 (.alt 0 1 (.alt 2 10 (.leaf [(2, 11)]) .stop) (.alt 2 10 (.leaf [(0, 1), (2, 11)]) .stop)) .stop)) (.alt 1 9 (.alt 0 1 (.alt 1 7 (.alt 2 10 (.leaf [(2, 11)]) .stop) .stop) (.alt 1 7 (.alt 0 1 (.alt 2 10 (.leaf [(2, 11)]) .stop) (.alt 2 10 (.leaf [(0, 1), (2, 11)]) .stop)) .stop)) .stop))))))))))))]⟩ Try.func21 rfl Try.ntmps21 (rs := [.tmp 8, .tmp 9]) rfl (sig := det_seeks_sig) (out := det_seeks_out) rfl Try.call21 (fun X => by kernel_rfl)

def det_Apart_sig : Shape := ⟨[(.pair (.int .i64) (.pair (.int .i64) (.pair (.list (.list (.int .i64))) (.pair (.list (.int .i64)) .unit)))), (.int .i64), (.int .i64)], [(0, .v 0), (1, .v 1), (2, .v 2)], []⟩
def det_Apart_out : Shape := ⟨[(.list (.int .i64)), .bool, (.int .i64)], [(0, .v 0), (1, .v 1), (2, .v 2)], []⟩
noncomputable def det_Apart_ce : CE := ⟨14, det_Apart_sig, det_Apart_out, fun X => det_Apart X.1 X.2.1 X.2.2⟩
theorem det_Apart_ok : CE.ok Try.prog det_Apart_ce := CE.of (Γ := [det_Check_ce, det_seeks_ce]) (by kernel_rfl) TT_ok (GOK.cons det_Check_ok (GOK.cons det_seeks_ok (GOK.nil))) ⟨[], [], [], []⟩ Try.func14 rfl Try.ntmps14 (rs := [.tmp 6, .tmp 7, .tmp 8]) rfl (sig := det_Apart_sig) (out := det_Apart_out) rfl Try.call14 (fun X => by kernel_rfl)

def monoid_Alike_sig : Shape := ⟨[(.pair (.int .i64) (.pair (.int .i64) (.pair (.list (.list (.int .i64))) (.pair (.list (.int .i64)) .unit)))), (.list (.int .i64)), (.list (.int .i64))], [(0, .v 0), (1, .v 1), (2, .v 2)], []⟩
def monoid_Alike_out : Shape := ⟨[(.list (.int .i64)), (.list (.int .i64)), .bool, (.int .i64)], [(0, .v 0), (1, .v 1), (2, .v 2), (3, .v 3)], []⟩
noncomputable def monoid_Alike_ce : CE := ⟨4, monoid_Alike_sig, monoid_Alike_out, fun X => monoid_Alike X.1 X.2.1 X.2.2⟩
theorem monoid_Alike_ok : CE.ok Try.prog monoid_Alike_ce := CE.of (Γ := [monoid_small_ce, word_May_ce, monoid_elements_ce, det_After_ce, det_Apart_ce]) (by kernel_rfl) TT_ok (GOK.cons monoid_small_ok (GOK.cons word_May_ok (GOK.cons monoid_elements_ok (GOK.cons det_After_ok (GOK.cons det_Apart_ok (GOK.nil)))))) ⟨[(5, ⟨⟨[(.int .i64)], [(32, .v 0)], []⟩, [6, 7, 8, 9, 12, 13, 33, 34, 35, 36, 37, 38, 39, 40, 41, 42, 43], [], [0, 1, 2], 3, []⟩), (12, ⟨⟨[(.int .i64)], [(47, .v 0)], []⟩, [6, 7, 8, 9, 15, 16, 17, 18, 19, 48, 49, 50, 51, 52, 53, 54, 55, 56, 57, 58, 59, 60, 61, 62, 63, 64, 65, 66, 67, 68, 69, 70, 71, 72, 73, 74, 75], [], [0, 1, 2, 3], 4, []⟩)], [], [(15, [(0, 0), (0, 1), (0, 2), (0, 3), (0, 5), (0, 6), (0, 7), (1, 4), (1, 8), (1, 9), (0, 10), (0, 11), (0, 12), (0, 13), (0, 14), (0, 15), (0, 16)])], []⟩ Try.func4 rfl Try.ntmps4 (rs := [.tmp 6, .tmp 7, .tmp 8, .tmp 9]) rfl (sig := monoid_Alike_sig) (out := monoid_Alike_out) rfl Try.call4 (fun X => by kernel_rfl)

def r3_Check_sig : Shape := ⟨[(.pair (.int .i64) (.pair (.int .i64) (.pair (.list (.list (.int .i64))) (.pair (.list (.int .i64)) .unit))))], [(0, .v 0)], []⟩
def r3_Check_out : Shape := ⟨[(.int .i64)], [(0, .v 0)], []⟩
noncomputable def r3_Check_ce : CE := ⟨15, r3_Check_sig, r3_Check_out, fun X => r3_Check X⟩
theorem r3_Check_ok : CE.ok Try.prog r3_Check_ce := CE.of (Γ := []) (by kernel_rfl) TT_ok (GOK.nil) ⟨[(9, ⟨⟨[(.int .i64)], [(4, .v 0)], []⟩, [2, 30, 31, 32, 33, 34, 35, 36, 37, 38, 39, 40, 41, 42, 43], [], [0], 1, []⟩), (16, ⟨⟨[(.int .i64)], [(5, .v 0)], []⟩, [2, 6, 53, 54, 55, 56, 57, 58, 59, 60, 61, 62, 63, 64, 65, 66, 67, 68, 69, 70, 71, 72, 73, 74, 75, 76, 77, 78, 79, 80, 81, 82, 83, 84], [], [0], 1, []⟩), (19, ⟨⟨[(.int .i64)], [(6, .v 0)], []⟩, [2, 58, 59, 60, 61, 62, 63, 64, 65, 66, 67, 68, 69, 70, 71, 72, 73, 74, 75, 76, 77, 78, 79, 80, 81, 82, 83, 84], [], [0], 1, []⟩), (24, ⟨⟨[(.int .i64)], [(7, .v 0)], []⟩, [2, 85, 86, 87, 88, 89, 90, 91, 92, 93, 94, 95, 96, 97, 98, 99, 100, 101, 102, 103], [], [0], 1, []⟩)], [], [(11, [(0, 0), (0, 1), (0, 2), (0, 3), (0, 4), (0, 5), (0, 6), (0, 7), (0, 8)])], []⟩ Try.func15 rfl Try.ntmps15 (rs := [.tmp 2]) rfl (sig := r3_Check_sig) (out := r3_Check_out) rfl Try.call15 (fun X => by kernel_rfl)

def r3_Classes_sig : Shape := ⟨[(.pair (.int .i64) (.pair (.int .i64) (.pair (.list (.list (.int .i64))) (.pair (.list (.int .i64)) .unit))))], [(0, .v 0)], []⟩
def r3_Classes_out : Shape := ⟨[(.list (.int .i64))], [(0, .own 0)], [(0, .arr 3 0)]⟩
noncomputable def r3_Classes_ce : CE := ⟨24, r3_Classes_sig, r3_Classes_out, fun X => r3_Classes X⟩
theorem r3_Classes_ok : CE.ok Try.prog r3_Classes_ce := CE.of (Γ := []) (by kernel_rfl) TT_ok (GOK.nil) ⟨[(3, ⟨⟨[(.int .i64), (.list (.int .i64))], [(3, .own 2), (4, .v 0)], [(2, .arr 3 1)]⟩, [2, 5, 6, 7, 8, 9, 10, 11, 12, 13, 16, 17, 18, 19, 20, 21, 22, 23, 24, 25, 26, 27, 28, 29, 30, 31, 32, 33, 34, 35, 36, 37, 38, 39, 40, 41, 42, 43, 44, 45, 46, 47, 48, 49, 50, 51, 52, 53, 54, 55, 56, 57, 58, 59, 60, 61, 62, 63, 64, 65, 66, 67, 68, 69, 70, 71, 72, 73, 74, 75, 76, 77, 78, 79, 80, 81, 82, 83, 84, 85, 86, 87, 88, 89, 90, 91, 92, 93, 94, 95], [], [0], 3, []⟩), (7, ⟨⟨[(.int .i64), (.int .i64), (.list (.int .i64)), (.list (.int .i64))], [(5, .own 3), (6, .v 0), (7, .own 4), (8, .v 1)], [(3, .arr 3 2), (4, .arr 3 3)]⟩, [9, 10, 11, 12, 19, 20, 21, 22, 23, 24, 25, 26, 27, 28, 29, 30, 31, 32, 33, 34, 35, 36, 37, 38, 39, 40, 41, 42, 43, 44, 45, 46, 47, 48, 49, 50, 51, 52, 53, 54, 55, 56, 57, 58, 59, 60, 61, 62, 63, 64, 65, 66, 67, 68, 69, 70, 71, 72, 73, 74, 75, 76, 77, 78, 79, 80, 81, 82, 83, 84, 85, 86, 87, 88, 89], [], [0, 2], 5, []⟩), (10, ⟨⟨[(.int .i64)], [(9, .v 0)], []⟩, [10, 11, 12, 26, 27, 28, 29, 30, 31, 32, 33, 34, 35, 36, 37, 38, 39, 40, 41, 42, 43, 44, 45, 46, 47, 48, 49, 50, 51, 52, 53, 54, 55, 56, 57, 58, 59, 60, 61, 62, 63, 64, 65, 66, 67, 68, 69, 70, 71, 72, 73, 74, 75, 76], [], [0, 2, 3, 4], 5, []⟩), (14, ⟨⟨[.bool, (.int .i64)], [(11, .v 0), (12, .v 1)], []⟩, [42, 43, 44, 45, 46, 47, 48, 49, 50, 51, 52, 53, 54, 55, 56, 57, 58, 59, 60, 61, 62, 63, 64, 65, 66, 67, 68, 69, 70, 71, 72, 73], [], [0, 2, 3, 4], 5, []⟩)], [(15, ⟨⟨[.bool], [(11, .v 0)], []⟩, [12, 42, 43, 44, 45, 46, 47, 48, 49, 50, 51, 52, 53, 54, 55, 56, 57, 58, 59, 60, 61, 62, 63, 64, 65, 66, 67, 68, 69, 70, 71, 72, 73], [], [0, 2, 3, 4], 5, []⟩), (18, ⟨⟨[(.int .i64)], [(9, .v 0)], []⟩, [10, 11, 12, 26, 27, 28, 29, 30, 31, 32, 33, 34, 35, 36, 37, 38, 39, 40, 41, 42, 43, 44, 45, 46, 47, 48, 49, 50, 51, 52, 53, 54, 55, 56, 57, 58, 59, 60, 61, 62, 63, 64, 65, 66, 67, 68, 69, 70, 71, 72, 73, 74, 75, 76], [], [0, 2, 3, 4], 5, []⟩), (21, ⟨⟨[(.int .i64), (.list (.int .i64))], [(6, .v 0), (7, .own 5)], [(5, .arr 3 1)]⟩, [77, 78, 79, 80, 81, 82, 83, 84, 85], [4], [0, 2, 3], 6, []⟩)], [(12, [(0, 0), (0, 1), (0, 2), (0, 3), (0, 4), (0, 5), (0, 6), (0, 7), (0, 8), (0, 9)]), (16, [(0, 0), (0, 1), (0, 2), (0, 3), (0, 4), (0, 5), (0, 6), (0, 7), (0, 8), (0, 9), (0, 10), (0, 11), (0, 12), (0, 13), (0, 14), (0, 15), (0, 16), (0, 17), (0, 18), (0, 19), (0, 20), (0, 21), (0, 22), (0, 23)])], []⟩ Try.func24 rfl Try.ntmps24 (rs := [.tmp 2]) rfl (sig := r3_Classes_sig) (out := r3_Classes_out) rfl Try.call24 (fun X => by kernel_rfl)

def r3_Least_sig : Shape := ⟨[(.pair (.int .i64) (.pair (.int .i64) (.pair (.list (.list (.int .i64))) (.pair (.list (.int .i64)) .unit))))], [(0, .v 0)], []⟩
def r3_Least_out : Shape := ⟨[(.pair (.int .i64) (.pair (.int .i64) (.pair (.list (.list (.int .i64))) (.pair (.list (.int .i64)) .unit))))], [(0, .v 0)], []⟩
noncomputable def r3_Least_ce : CE := ⟨16, r3_Least_sig, r3_Least_out, fun X => r3_Least X⟩
theorem r3_Least_ok : CE.ok Try.prog r3_Least_ce := CE.of (Γ := [r3_Classes_ce]) (by kernel_rfl) TT_ok (GOK.cons r3_Classes_ok (GOK.nil)) ⟨[(4, ⟨⟨[(.int .i64), (.list (.int .i64))], [(4, .own 3), (5, .v 0)], [(3, .arr 3 1)]⟩, [16, 17, 18, 19, 20, 21, 22, 23, 24, 25], [], [0, 1, 2], 4, []⟩), (11, ⟨⟨[(.int .i64), (.list (.int .i64)), (.list (.int .i64)), (.int .i64), (.int .i64), (.list (.list (.int .i64))), (.list (.int .i64))], [(4, .own 3), (6, .own 4), (7, .ptr 5 0), (8, .v 0)], [(3, .arr 3 1), (4, .arr 3 2), (5, .box 25 [.v 3, .v 4, .own 6, .own 7]), (6, .arr 23 5), (7, .arr 3 6)]⟩, [9, 10, 11, 18, 26, 32, 35, 39, 40, 41, 42, 43, 44, 45, 46, 47, 48, 49, 50, 51, 52, 53, 54, 55, 56, 57, 58, 59, 60, 61, 62, 63, 64, 65, 66, 67, 68, 69, 70, 71, 72, 73, 74, 75, 76, 77, 78, 79, 80, 81, 82, 83, 84, 85, 86, 87, 88, 89, 90, 91, 92, 93, 94, 95, 96, 97, 98, 99, 100, 101, 102, 103, 104, 105, 106, 107, 108, 109, 110, 111, 112, 113], [], [0, 1, 2], 8, [(5, 2, some 23, (.list (.int .i64))), (5, 3, some 3, (.int .i64))]⟩), (15, ⟨⟨[(.int .i64), (.list (.int .i64)), (.list (.int .i64)), (.list (.int .i64))], [(4, .own 3), (6, .own 4), (9, .own 8), (10, .v 0)], [(3, .arr 3 1), (4, .arr 3 2), (8, .arr 3 3)]⟩, [11, 40, 47, 48, 49, 50, 51, 52, 53, 54, 55, 56, 57, 58, 59, 60, 61, 62, 63, 64, 65, 66, 67, 68, 69, 70, 71, 72, 73, 74, 75, 76, 77, 78, 79, 80, 81, 82, 83, 84, 85, 86, 87, 88, 89, 90, 91, 92, 93, 94], [], [0, 1, 2, 5, 6, 7], 9, []⟩)], [(20, ⟨⟨[(.list (.int .i64)), (.list (.int .i64))], [(4, .own 3), (6, .own 9)], [(3, .arr 3 0), (9, .arr 3 1)]⟩, [56, 58, 65, 66, 67, 68, 69, 70, 71, 72, 73, 74, 75, 76, 77, 78, 79, 80, 81, 82, 83, 84], [4], [0, 1, 2, 5, 6, 7, 8], 10, []⟩)], [(17, [(0, 0), (0, 1), (0, 2), (0, 3), (0, 4), (0, 5), (0, 6), (0, 7), (0, 8), (0, 9), (0, 10), (0, 11)]), (23, [(0, 0), (0, 1), (0, 2), (0, 3), (0, 4), (0, 5), (0, 6), (0, 7), (0, 8), (0, 9), (1, 10), (2, 11), (0, 12), (2, 13)])], []⟩ Try.func16 rfl Try.ntmps16 (rs := [.cell 2 25]) rfl (sig := r3_Least_sig) (out := r3_Least_out) rfl Try.call16 (fun X => by kernel_rfl)

def law_small_sig : Shape := ⟨[(.pair (.int .i64) (.pair (.int .i64) (.pair (.list (.list (.int .i64))) (.pair (.list (.int .i64)) .unit))))], [(0, .v 0)], []⟩
def law_small_out : Shape := ⟨[(.pair (.int .i64) (.pair (.int .i64) (.pair (.list (.list (.int .i64))) (.pair (.list (.int .i64)) .unit)))), (.int .i64)], [(0, .v 0), (1, .v 1)], []⟩
noncomputable def law_small_ce : CE := ⟨5, law_small_sig, law_small_out, fun X => law_small X⟩
theorem law_small_ok : CE.ok Try.prog law_small_ce := CE.of (Γ := [r3_Check_ce, r3_Least_ce]) (by kernel_rfl) TT_ok (GOK.cons r3_Check_ok (GOK.cons r3_Least_ok (GOK.nil))) ⟨[], [], [], []⟩ Try.func5 rfl Try.ntmps5 (rs := [.cell 2 25, .tmp 3]) rfl (sig := law_small_sig) (out := law_small_out) rfl Try.call5 (fun X => by kernel_rfl)

def r1_May_sig : Shape := ⟨[(.int .i64), (.list (.int .i64))], [(0, .v 0), (1, .v 1)], []⟩
def r1_May_out : Shape := ⟨[(.int .i64)], [(0, .v 0)], []⟩
noncomputable def r1_May_ce : CE := ⟨6, r1_May_sig, r1_May_out, fun X => r1_May X.1 X.2⟩
theorem r1_May_ok : CE.ok Try.prog r1_May_ce := CE.of (Γ := []) (by kernel_rfl) TT_ok (GOK.nil) ⟨[(6, ⟨⟨[(.int .i64)], [(5, .v 0)], []⟩, [4, 15, 16, 17, 18, 19, 20, 21, 22, 23, 24, 25, 26, 27, 28, 29, 30, 31, 32, 33], [], [], 0, []⟩)], [], [], []⟩ Try.func6 rfl Try.ntmps6 (rs := [.tmp 4]) rfl (sig := r1_May_sig) (out := r1_May_out) rfl Try.call6 (fun X => by kernel_rfl)

def r3_After_sig : Shape := ⟨[(.pair (.int .i64) (.pair (.int .i64) (.pair (.list (.list (.int .i64))) (.pair (.list (.int .i64)) .unit)))), (.int .i64), (.list (.int .i64))], [(0, .v 0), (1, .v 1), (2, .v 2)], []⟩
def r3_After_out : Shape := ⟨[(.int .i64)], [(0, .v 0)], []⟩
noncomputable def r3_After_ce : CE := ⟨9, r3_After_sig, r3_After_out, fun X => r3_After X.1 X.2.1 X.2.2⟩
theorem r3_After_ok : CE.ok Try.prog r3_After_ce := CE.of (Γ := []) (by kernel_rfl) TT_ok (GOK.nil) ⟨[(2, ⟨⟨[(.int .i64), (.int .i64)], [(1, .v 0), (7, .v 1)], []⟩, [8, 9, 10, 11, 12, 13, 14, 15, 16, 17, 18, 19, 20, 21, 22, 23, 24], [], [0], 1, []⟩)], [], [(4, [(0, 0), (0, 1), (0, 2), (0, 3), (0, 4), (0, 5), (0, 6), (0, 7), (0, 8), (0, 9), (0, 10), (0, 11)])], []⟩ Try.func9 rfl Try.ntmps9 (rs := [.tmp 6]) rfl (sig := r3_After_sig) (out := r3_After_out) rfl Try.call9 (fun X => by kernel_rfl)

def r4_Does_sig : Shape := ⟨[(.pair (.int .i64) (.pair (.int .i64) (.pair (.list (.list (.int .i64))) (.pair (.list (.int .i64)) .unit)))), (.list (.int .i64))], [(0, .v 0), (1, .v 1)], []⟩
def r4_Does_out : Shape := ⟨[(.list (.int .i64))], [(0, .own 0)], [(0, .arr 3 0)]⟩
noncomputable def r4_Does_ce : CE := ⟨7, r4_Does_sig, r4_Does_out, fun X => r4_Does X.1 X.2⟩
theorem r4_Does_ok : CE.ok Try.prog r4_Does_ce := CE.of (Γ := [r3_After_ce]) (by kernel_rfl) TT_ok (GOK.cons r3_After_ok (GOK.nil)) ⟨[(3, ⟨⟨[(.int .i64), (.list (.int .i64))], [(5, .own 1), (6, .v 0)], [(1, .arr 3 1)]⟩, [7, 8, 9, 10, 11, 12, 13, 14, 15, 16, 17, 18, 19, 20, 21, 22], [], [0], 2, []⟩)], [], [], []⟩ Try.func7 rfl Try.ntmps7 (rs := [.tmp 4]) rfl (sig := r4_Does_sig) (out := r4_Does_out) rfl Try.call7 (fun X => by kernel_rfl)

def r1_Words_sig : Shape := ⟨[(.list (.int .i64)), (.list (.int .i64))], [(0, .v 0), (1, .v 1)], []⟩
def r1_Words_out : Shape := ⟨[.bool], [(0, .v 0)], []⟩
noncomputable def r1_Words_ce : CE := ⟨8, r1_Words_sig, r1_Words_out, fun X => r1_Words X.1 X.2⟩
theorem r1_Words_ok : CE.ok Try.prog r1_Words_ce := CE.of (Γ := []) (by kernel_rfl) TT_ok (GOK.nil) ⟨[(4, ⟨⟨[(.int .i64)], [(5, .v 0)], []⟩, [4, 11, 12, 13, 14, 15, 16, 17, 18, 19, 20, 21, 22, 23, 24, 25], [], [], 0, []⟩)], [], [(6, [(0, 0), (0, 1), (0, 2), (0, 3), (0, 4), (0, 5), (0, 6), (0, 7), (0, 8)])], []⟩ Try.func8 rfl Try.ntmps8 (rs := [.tmp 4]) rfl (sig := r1_Words_sig) (out := r1_Words_out) rfl Try.call8 (fun X => by kernel_rfl)

def law_MonoidAlike_sig : Shape := ⟨[(.pair (.int .i64) (.pair (.int .i64) (.pair (.list (.list (.int .i64))) (.pair (.list (.int .i64)) .unit)))), (.list (.int .i64)), (.list (.int .i64))], [(0, .v 0), (1, .v 1), (2, .v 2)], []⟩
def law_MonoidAlike_out : Shape := ⟨[.bool], [(0, .v 0)], []⟩
noncomputable def law_MonoidAlike_ce : CE := ⟨3, law_MonoidAlike_sig, law_MonoidAlike_out, fun X => law_MonoidAlike X.1 X.2.1 X.2.2⟩
theorem law_MonoidAlike_ok : CE.ok Try.prog law_MonoidAlike_ce := CE.of (Γ := [monoid_Alike_ce, law_small_ce, r1_May_ce, r4_Does_ce, r1_Words_ce, r3_After_ce]) (by kernel_rfl) TT_ok (GOK.cons monoid_Alike_ok (GOK.cons law_small_ok (GOK.cons r1_May_ok (GOK.cons r4_Does_ok (GOK.cons r1_Words_ok (GOK.cons r3_After_ok (GOK.nil))))))) ⟨[(19, ⟨⟨[(.int .i64)], [(16, .v 0)], []⟩, [6, 17, 86, 87, 88, 89, 90, 91, 92, 93, 94, 95, 96, 97, 98, 99, 100, 101, 102, 103, 104, 105, 106, 107, 108, 109, 110, 111, 112, 113, 114, 115, 116, 117], [], [0, 1, 2, 3], 4, []⟩)], [(4, ⟨⟨[(.int .i64)], [(12, .v 0)], []⟩, [35, 36, 37, 38, 39, 40], [], [0, 1], 2, []⟩), (6, ⟨⟨[(.int .i64)], [(12, .v 0)], []⟩, [41, 42, 43, 44, 45, 46], [], [0, 1], 2, []⟩), (24, ⟨⟨[(.int .i64)], [(17, .v 0)], []⟩, [95, 96, 97, 98, 99, 100, 101, 102, 103, 104, 105, 106, 107, 108, 109], [], [0, 1, 2, 3], 4, []⟩)], [(32, [(0, 0), (0, 1), (0, 2), (0, 3), (0, 4), (0, 5), (0, 6), (0, 7), (0, 8), (0, 9), (0, 10), (0, 11)])], []⟩ Try.func3 rfl Try.ntmps3 (rs := [.tmp 6]) rfl (sig := law_MonoidAlike_sig) (out := law_MonoidAlike_out) rfl Try.call3 (fun X => by kernel_rfl)

end Go.Proofs.Ytlgimlpijfbbcaa.monoidAlikeW
