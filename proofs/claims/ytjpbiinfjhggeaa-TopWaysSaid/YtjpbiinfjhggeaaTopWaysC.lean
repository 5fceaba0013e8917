/- That the functions of 'TopWays' compute so. -/
import Derived.Test.YtjpbiinfjhggeaaTopWaysD
import Derived.Test.YtjpbiinfjhggeaaProg
import Derived.KernelRfl
set_option maxHeartbeats 1000000
set_option maxRecDepth 20000
set_option linter.unusedSimpArgs false
set_option linter.unusedVariables false
set_option linter.unusedSectionVars false
namespace Go.Proofs.Ytjpbiinfjhggeaa.topWaysW
open Go Go.Ab
theorem te3_sz : SzT Try.prog 3 ((.int .i64)) := SzT.ofTI (dsc := false) (size := 1) (bytes := 8) (z := .int .i64 0) (TI.of Try.underlying3 rfl (by kernel_rfl)) rfl rfl
theorem te9_sz : SzT Try.prog 9 (.str) := SzT.ofTI (dsc := false) (size := 1) (bytes := 16) (z := .string ⟨⟨[]⟩⟩) (TI.of Try.underlying9 rfl (by kernel_rfl)) rfl rfl
theorem te46_sz : SzT Try.prog 46 ((.pair (.int .i64) (.pair (.int .i64) (.pair (.int .i64) (.pair (.int .i64) (.pair (.int .i64) .unit)))))) := SzT.ofTI (dsc := true) (size := 5) (bytes := 40) (z := .agg ⟨[.int .i64 0, .int .i64 0, .int .i64 0, .int .i64 0, .int .i64 0]⟩) (TI.of Try.underlying46 rfl (by kernel_rfl)) rfl rfl
theorem te81_sz : SzT Try.prog 81 ((.pair (.int .i64) (.pair .str .unit))) := SzT.ofTI (dsc := true) (size := 2) (bytes := 24) (z := .agg ⟨[.int .i64 0, .string ⟨⟨[]⟩⟩]⟩) (TI.of Try.underlying81 rfl (by kernel_rfl)) rfl rfl
def te3 : TE := ⟨3, .int .i64, false, 1, 8, .int .i64 0, some (.int .i64)⟩
theorem te3_ok : TEok Try.prog te3 := ⟨TI.of Try.underlying3 rfl (by kernel_rfl), Try.underlying3, fun t h => by cases h; exact ⟨rfl, rfl, by decide, rfl⟩⟩
def te4 : TE := ⟨4, .bool, false, 1, 1, .bool false, some .bool⟩
theorem te4_ok : TEok Try.prog te4 := ⟨TI.of Try.underlying4 rfl (by kernel_rfl), Try.underlying4, fun t h => by cases h; exact ⟨rfl, rfl, by decide, rfl⟩⟩
def te5 : TE := ⟨5, .int .u8, false, 1, 1, .int .u8 0, some (.int .u8)⟩
theorem te5_ok : TEok Try.prog te5 := ⟨TI.of Try.underlying5 rfl (by kernel_rfl), Try.underlying5, fun t h => by cases h; exact ⟨rfl, rfl, by decide, rfl⟩⟩
def te9 : TE := ⟨9, .str, false, 1, 16, .string ⟨⟨[]⟩⟩, some .str⟩
theorem te9_ok : TEok Try.prog te9 := ⟨TI.of Try.underlying9 rfl (by kernel_rfl), Try.underlying9, fun t h => by cases h; exact ⟨rfl, rfl, by decide, rfl⟩⟩
def te22 : TE := ⟨22, .slice 23, false, 1, 24, .slice none 0 0, some (.list (.list (.int .i64)))⟩
theorem te22_ok : TEok Try.prog te22 := ⟨TI.of Try.underlying22 rfl (by kernel_rfl), Try.underlying22, fun t h => by cases h; exact ⟨rfl, rfl, by decide, rfl⟩⟩
def te23 : TE := ⟨23, .slice 3, false, 1, 24, .slice none 0 0, some (.list (.int .i64))⟩
theorem te23_ok : TEok Try.prog te23 := ⟨TI.of Try.underlying23 rfl (by kernel_rfl), Try.underlying23, fun t h => by cases h; exact ⟨rfl, rfl, by decide, rfl⟩⟩
def te25 : TE := ⟨25, .struct [(0, 3), (1, 3), (2, 22), (3, 23)] none, true, 4, 64, .agg ⟨[.int .i64 0, .int .i64 0, .slice none 0 0, .slice none 0 0]⟩, some (.pair (.int .i64) (.pair (.int .i64) (.pair (.list (.list (.int .i64))) (.pair (.list (.int .i64)) .unit))))⟩
theorem te25_ok : TEok Try.prog te25 := ⟨TI.of Try.underlying25 rfl (by kernel_rfl), ⟨⟨_, Try.underlying25, rfl⟩, fun t h => by cases h⟩, fun t h => by cases h; exact ⟨rfl, rfl, by decide, rfl⟩⟩
def te26 : TE := ⟨26, .int .i64, false, 1, 8, .int .i64 0, some (.int .i64)⟩
theorem te26_ok : TEok Try.prog te26 := ⟨TI.of Try.underlying26 rfl (by kernel_rfl), Try.underlying26, fun t h => by cases h; exact ⟨rfl, rfl, by decide, rfl⟩⟩
def te29 : TE := ⟨29, .slice 35, false, 1, 24, .slice none 0 0, some (.list (.list (.pair (.int .i64) (.pair (.int .i64) .unit))))⟩
theorem te29_ok : TEok Try.prog te29 := ⟨TI.of Try.underlying29 rfl (by kernel_rfl), Try.underlying29, fun t h => by cases h; exact ⟨rfl, rfl, by decide, rfl⟩⟩
def te31 : TE := ⟨31, .struct [(0, 3), (1, 3), (2, 29), (3, 23)] none, true, 4, 64, .agg ⟨[.int .i64 0, .int .i64 0, .slice none 0 0, .slice none 0 0]⟩, some (.pair (.int .i64) (.pair (.int .i64) (.pair (.list (.list (.pair (.int .i64) (.pair (.int .i64) .unit)))) (.pair (.list (.int .i64)) .unit))))⟩
theorem te31_ok : TEok Try.prog te31 := ⟨TI.of Try.underlying31 rfl (by kernel_rfl), ⟨⟨_, Try.underlying31, rfl⟩, fun t h => by cases h⟩, fun t h => by cases h; exact ⟨rfl, rfl, by decide, rfl⟩⟩
def te32 : TE := ⟨32, .slice 36, false, 1, 24, .slice none 0 0, some (.list (.list (.list (.list (.int .i64)))))⟩
theorem te32_ok : TEok Try.prog te32 := ⟨TI.of Try.underlying32 rfl (by kernel_rfl), Try.underlying32, fun t h => by cases h; exact ⟨rfl, rfl, by decide, rfl⟩⟩
def te34 : TE := ⟨34, .struct [(0, 3), (1, 3), (2, 32), (3, 23)] none, true, 4, 64, .agg ⟨[.int .i64 0, .int .i64 0, .slice none 0 0, .slice none 0 0]⟩, some (.pair (.int .i64) (.pair (.int .i64) (.pair (.list (.list (.list (.list (.int .i64))))) (.pair (.list (.int .i64)) .unit))))⟩
theorem te34_ok : TEok Try.prog te34 := ⟨TI.of Try.underlying34 rfl (by kernel_rfl), ⟨⟨_, Try.underlying34, rfl⟩, fun t h => by cases h⟩, fun t h => by cases h; exact ⟨rfl, rfl, by decide, rfl⟩⟩
def te35 : TE := ⟨35, .slice 37, false, 1, 24, .slice none 0 0, some (.list (.pair (.int .i64) (.pair (.int .i64) .unit)))⟩
theorem te35_ok : TEok Try.prog te35 := ⟨TI.of Try.underlying35 rfl (by kernel_rfl), Try.underlying35, fun t h => by cases h; exact ⟨rfl, rfl, by decide, rfl⟩⟩
def te36 : TE := ⟨36, .slice 22, false, 1, 24, .slice none 0 0, some (.list (.list (.list (.int .i64))))⟩
theorem te36_ok : TEok Try.prog te36 := ⟨TI.of Try.underlying36 rfl (by kernel_rfl), Try.underlying36, fun t h => by cases h; exact ⟨rfl, rfl, by decide, rfl⟩⟩
def te37 : TE := ⟨37, .array 2 3, true, 2, 16, .agg ⟨[.int .i64 0, .int .i64 0]⟩, some (.pair (.int .i64) (.pair (.int .i64) .unit))⟩
theorem te37_ok : TEok Try.prog te37 := ⟨TI.of Try.underlying37 rfl (by kernel_rfl), Try.underlying37, fun t h => by cases h; exact ⟨rfl, rfl, by decide, rfl⟩⟩
def te46 : TE := ⟨46, .array 5 3, true, 5, 40, .agg ⟨[.int .i64 0, .int .i64 0, .int .i64 0, .int .i64 0, .int .i64 0]⟩, some (.pair (.int .i64) (.pair (.int .i64) (.pair (.int .i64) (.pair (.int .i64) (.pair (.int .i64) .unit)))))⟩
theorem te46_ok : TEok Try.prog te46 := ⟨TI.of Try.underlying46 rfl (by kernel_rfl), Try.underlying46, fun t h => by cases h; exact ⟨rfl, rfl, by decide, rfl⟩⟩
def te47 : TE := ⟨47, .other, false, 1, 8, .nilFunc, none⟩
theorem te47_ok : TEok Try.prog te47 := ⟨TI.of Try.underlying47 rfl (by kernel_rfl), trivial, fun t h => by cases h⟩
def te61 : TE := ⟨61, .other, false, 1, 8, .nilFunc, none⟩
theorem te61_ok : TEok Try.prog te61 := ⟨TI.of Try.underlying61 rfl (by kernel_rfl), trivial, fun t h => by cases h⟩
def te69 : TE := ⟨69, .slice 46, false, 1, 24, .slice none 0 0, some (.list (.pair (.int .i64) (.pair (.int .i64) (.pair (.int .i64) (.pair (.int .i64) (.pair (.int .i64) .unit))))))⟩
theorem te69_ok : TEok Try.prog te69 := ⟨TI.of Try.underlying69 rfl (by kernel_rfl), Try.underlying69, fun t h => by cases h; exact ⟨rfl, rfl, by decide, rfl⟩⟩
def te78 : TE := ⟨78, .slice 5, false, 1, 24, .slice none 0 0, some (.list (.int .u8))⟩
theorem te78_ok : TEok Try.prog te78 := ⟨TI.of Try.underlying78 rfl (by kernel_rfl), Try.underlying78, fun t h => by cases h; exact ⟨rfl, rfl, by decide, rfl⟩⟩
def te81 : TE := ⟨81, .struct [(0, 3), (1, 9)] none, true, 2, 24, .agg ⟨[.int .i64 0, .string ⟨⟨[]⟩⟩]⟩, some (.pair (.int .i64) (.pair .str .unit))⟩
theorem te81_ok : TEok Try.prog te81 := ⟨TI.of Try.underlying81 rfl (by kernel_rfl), ⟨⟨_, Try.underlying81, rfl⟩, fun t h => by cases h⟩, fun t h => by cases h; exact ⟨rfl, rfl, by decide, rfl⟩⟩
def te68 : TE := ⟨68, .map 46 3 ((.pair (.int .i64) (.pair (.int .i64) (.pair (.int .i64) (.pair (.int .i64) (.pair (.int .i64) .unit)))))), false, 1, 8, .map none, none⟩
theorem te68_ok : TEok Try.prog te68 := ⟨TI.of Try.underlying68 rfl (by kernel_rfl), ⟨Try.underlying68, SK.ofKey (d := 16) (KeyT.array te46_sz Try.underlying46 (KeyT.int te3_sz Try.underlying3) rfl) (by decide) rfl rfl⟩, fun t h => by cases h⟩
def te73 : TE := ⟨73, .map 3 3 ((.int .i64)), false, 1, 8, .map none, none⟩
theorem te73_ok : TEok Try.prog te73 := ⟨TI.of Try.underlying73 rfl (by kernel_rfl), ⟨Try.underlying73, SK.int' Try.underlying3⟩, fun t h => by cases h⟩
def te77 : TE := ⟨77, .map 81 3 ((.pair (.int .i64) (.pair .str .unit))), false, 1, 8, .map none, none⟩
theorem te77_ok : TEok Try.prog te77 := ⟨TI.of Try.underlying77 rfl (by kernel_rfl), ⟨Try.underlying77, SK.ofKey (d := 16) (KeyT.struct te81_sz Try.underlying81 (by kernel_rfl) (KFs.cons (by decide) rfl (KeyT.int te3_sz Try.underlying3) (KFs.cons (by decide) rfl (KeyT.str te9_sz Try.underlying9) KFs.nil))) (by decide) rfl rfl⟩, fun t h => by cases h⟩
def TT : List TE := [te3, te4, te5, te9, te22, te23, te25, te26, te29, te31, te32, te34, te35, te36, te37, te46, te47, te61, te69, te78, te81, te68, te73, te77]
theorem TT_ok : TOK Try.prog TT := TOK.cons te3_ok (TOK.cons te4_ok (TOK.cons te5_ok (TOK.cons te9_ok (TOK.cons te22_ok (TOK.cons te23_ok (TOK.cons te25_ok (TOK.cons te26_ok (TOK.cons te29_ok (TOK.cons te31_ok (TOK.cons te32_ok (TOK.cons te34_ok (TOK.cons te35_ok (TOK.cons te36_ok (TOK.cons te37_ok (TOK.cons te46_ok (TOK.cons te47_ok (TOK.cons te61_ok (TOK.cons te69_ok (TOK.cons te78_ok (TOK.cons te81_ok (TOK.cons te68_ok (TOK.cons te73_ok (TOK.cons te77_ok (TOK.nil))))))))))))))))))))))))

def det_Check_1_sig : Shape := ⟨[(.list (.int .i64)), (.pair (.int .i64) (.pair (.int .i64) (.pair (.list (.list (.int .i64))) (.pair (.list (.int .i64)) .unit))))], [(0, .v 0), (1, .addr 1)], []⟩
def det_Check_1_out : Shape := ⟨[.bool], [(0, .v 0)], []⟩
noncomputable def det_Check_1_ce : CE := ⟨23, det_Check_1_sig, det_Check_1_out, fun X => det_Check_1 X.1 X.2⟩
theorem det_Check_1_ok : CE.ok Try.prog det_Check_1_ce := CE.of (Γ := []) (by kernel_rfl) TT_ok (GOK.nil) ⟨[], [], [], []⟩ Try.func23 rfl Try.ntmps23 (rs := [.tmp 3]) rfl (sig := det_Check_1_sig) (out := det_Check_1_out) rfl Try.call23 (fun X => by kernel_rfl)

def slices_IndexFunc_sig : Shape := ⟨[(.list (.list (.int .i64))), (.pair (.int .i64) (.pair (.int .i64) (.pair (.list (.list (.int .i64))) (.pair (.list (.int .i64)) .unit))))], [(0, .v 0), (1, .fn 23 [.addr 1])], []⟩
def slices_IndexFunc_out : Shape := ⟨[(.int .i64)], [(0, .v 0)], []⟩
noncomputable def slices_IndexFunc_ce : CE := ⟨46, slices_IndexFunc_sig, slices_IndexFunc_out, fun X => slices_IndexFunc X.1 X.2⟩
theorem slices_IndexFunc_ok : CE.ok Try.prog slices_IndexFunc_ce := CE.of (Γ := [det_Check_1_ce]) (by kernel_rfl) TT_ok (GOK.cons det_Check_1_ok (GOK.nil)) ⟨[(2, ⟨⟨[(.int .i64)], [(8, .v 0)], []⟩, [4, 5, 9, 10, 11, 12, 13, 14, 15, 16, 17, 18], [], [], 0, []⟩)], [], [], []⟩ Try.func46 rfl Try.ntmps46 (rs := [.tmp 4]) rfl (sig := slices_IndexFunc_sig) (out := slices_IndexFunc_out) rfl Try.call46 (fun X => by kernel_rfl)

def slices_ContainsFunc_sig : Shape := ⟨[(.list (.list (.int .i64))), (.pair (.int .i64) (.pair (.int .i64) (.pair (.list (.list (.int .i64))) (.pair (.list (.int .i64)) .unit))))], [(0, .v 0), (1, .fn 23 [.addr 1])], []⟩
def slices_ContainsFunc_out : Shape := ⟨[.bool], [(0, .v 0)], []⟩
noncomputable def slices_ContainsFunc_ce : CE := ⟨22, slices_ContainsFunc_sig, slices_ContainsFunc_out, fun X => slices_ContainsFunc X.1 X.2⟩
theorem slices_ContainsFunc_ok : CE.ok Try.prog slices_ContainsFunc_ce := CE.of (Γ := [slices_IndexFunc_ce]) (by kernel_rfl) TT_ok (GOK.cons slices_IndexFunc_ok (GOK.nil)) ⟨[], [], [], []⟩ Try.func22 rfl Try.ntmps22 (rs := [.tmp 4]) rfl (sig := slices_ContainsFunc_sig) (out := slices_ContainsFunc_out) rfl Try.call22 (fun X => by kernel_rfl)

def det_Check_2_sig : Shape := ⟨[(.int .i64), (.int .i64)], [(0, .v 0), (1, .addr 1)], []⟩
def det_Check_2_out : Shape := ⟨[.bool], [(0, .v 0)], []⟩
noncomputable def det_Check_2_ce : CE := ⟨24, det_Check_2_sig, det_Check_2_out, fun X => det_Check_2 X.1 X.2⟩
theorem det_Check_2_ok : CE.ok Try.prog det_Check_2_ce := CE.of (Γ := []) (by kernel_rfl) TT_ok (GOK.nil) ⟨[], [], [], []⟩ Try.func24 rfl Try.ntmps24 (rs := [.tmp 3]) rfl (sig := det_Check_2_sig) (out := det_Check_2_out) rfl Try.call24 (fun X => by kernel_rfl)

def slices_IndexFunc_2_sig : Shape := ⟨[(.list (.int .i64)), (.int .i64)], [(0, .v 0), (1, .fn 24 [.addr 1])], []⟩
def slices_IndexFunc_2_out : Shape := ⟨[(.int .i64)], [(0, .v 0)], []⟩
noncomputable def slices_IndexFunc_2_ce : CE := ⟨47, slices_IndexFunc_2_sig, slices_IndexFunc_2_out, fun X => slices_IndexFunc_2 X.1 X.2⟩
theorem slices_IndexFunc_2_ok : CE.ok Try.prog slices_IndexFunc_2_ce := CE.of (Γ := [det_Check_2_ce]) (by kernel_rfl) TT_ok (GOK.cons det_Check_2_ok (GOK.nil)) ⟨[(2, ⟨⟨[(.int .i64)], [(8, .v 0)], []⟩, [4, 5, 9, 10, 11, 12, 13, 14, 15, 16, 17, 18], [], [], 0, []⟩)], [], [], []⟩ Try.func47 rfl Try.ntmps47 (rs := [.tmp 4]) rfl (sig := slices_IndexFunc_2_sig) (out := slices_IndexFunc_2_out) rfl Try.call47 (fun X => by kernel_rfl)

def slices_ContainsFunc_2_sig : Shape := ⟨[(.list (.int .i64)), (.int .i64)], [(0, .v 0), (1, .fn 24 [.addr 1])], []⟩
def slices_ContainsFunc_2_out : Shape := ⟨[.bool], [(0, .v 0)], []⟩
noncomputable def slices_ContainsFunc_2_ce : CE := ⟨26, slices_ContainsFunc_2_sig, slices_ContainsFunc_2_out, fun X => slices_ContainsFunc_2 X.1 X.2⟩
theorem slices_ContainsFunc_2_ok : CE.ok Try.prog slices_ContainsFunc_2_ce := CE.of (Γ := [slices_IndexFunc_2_ce]) (by kernel_rfl) TT_ok (GOK.cons slices_IndexFunc_2_ok (GOK.nil)) ⟨[], [], [], []⟩ Try.func26 rfl Try.ntmps26 (rs := [.tmp 4]) rfl (sig := slices_ContainsFunc_2_sig) (out := slices_ContainsFunc_2_out) rfl Try.call26 (fun X => by kernel_rfl)

def det_Check_3_sig : Shape := ⟨[(.list (.int .i64)), (.int .i64)], [(0, .v 0), (1, .ptr 100000 0)], [(100000, .box 61 [.fn 24 [.addr 1]])]⟩
def det_Check_3_out : Shape := ⟨[.bool, (.int .i64)], [(0, .v 0)], [(100000, .box 61 [.fn 24 [.addr 1]])]⟩
noncomputable def det_Check_3_ce : CE := ⟨25, det_Check_3_sig, det_Check_3_out, fun X => det_Check_3 X.1 X.2⟩
theorem det_Check_3_ok : CE.ok Try.prog det_Check_3_ce := CE.of (Γ := [slices_ContainsFunc_2_ce]) (by kernel_rfl) TT_ok (GOK.cons slices_ContainsFunc_2_ok (GOK.nil)) ⟨[], [], [], []⟩ Try.func25 rfl Try.ntmps25 (rs := [.tmp 3]) rfl (sig := det_Check_3_sig) (out := det_Check_3_out) rfl Try.call25 (fun X => by kernel_rfl)

def slices_IndexFunc_1_sig : Shape := ⟨[(.list (.list (.int .i64))), (.int .i64)], [(0, .v 0), (1, .fn 25 [.ptr 100000 0])], [(100000, .box 61 [.fn 24 [.addr 1]])]⟩
def slices_IndexFunc_1_out : Shape := ⟨[(.int .i64), (.int .i64)], [(0, .v 0)], [(100000, .box 61 [.fn 24 [.addr 1]])]⟩
noncomputable def slices_IndexFunc_1_ce : CE := ⟨46, slices_IndexFunc_1_sig, slices_IndexFunc_1_out, fun X => slices_IndexFunc_1 X.1 X.2⟩
theorem slices_IndexFunc_1_ok : CE.ok Try.prog slices_IndexFunc_1_ce := CE.of (Γ := [det_Check_3_ce]) (by kernel_rfl) TT_ok (GOK.cons det_Check_3_ok (GOK.nil)) ⟨[(2, ⟨⟨[(.int .i64), (.int .i64)], [(1, .fn 25 [.ptr 100000 0]), (8, .v 0)], [(100000, .box 61 [.fn 24 [.addr 1]])]⟩, [4, 5, 9, 10, 11, 12, 13, 14, 15, 16, 17, 18], [], [], 0, []⟩)], [], [], []⟩ Try.func46 rfl Try.ntmps46 (rs := [.tmp 4]) rfl (sig := slices_IndexFunc_1_sig) (out := slices_IndexFunc_1_out) rfl Try.call46 (fun X => by kernel_rfl)

def slices_ContainsFunc_1_sig : Shape := ⟨[(.list (.list (.int .i64))), (.int .i64)], [(0, .v 0), (1, .fn 25 [.ptr 100000 0])], [(100000, .box 61 [.fn 24 [.addr 1]])]⟩
def slices_ContainsFunc_1_out : Shape := ⟨[.bool, (.int .i64)], [(0, .v 0)], [(100000, .box 61 [.fn 24 [.addr 1]])]⟩
noncomputable def slices_ContainsFunc_1_ce : CE := ⟨22, slices_ContainsFunc_1_sig, slices_ContainsFunc_1_out, fun X => slices_ContainsFunc_1 X.1 X.2⟩
theorem slices_ContainsFunc_1_ok : CE.ok Try.prog slices_ContainsFunc_1_ce := CE.of (Γ := [slices_IndexFunc_1_ce]) (by kernel_rfl) TT_ok (GOK.cons slices_IndexFunc_1_ok (GOK.nil)) ⟨[], [], [], []⟩ Try.func22 rfl Try.ntmps22 (rs := [.tmp 4]) rfl (sig := slices_ContainsFunc_1_sig) (out := slices_ContainsFunc_1_out) rfl Try.call22 (fun X => by kernel_rfl)

def det_Check_4_sig : Shape := ⟨[(.int .i64)], [(0, .v 0)], []⟩
def det_Check_4_out : Shape := ⟨[.bool], [(0, .v 0)], []⟩
noncomputable def det_Check_4_ce : CE := ⟨27, det_Check_4_sig, det_Check_4_out, fun X => det_Check_4 X⟩
theorem det_Check_4_ok : CE.ok Try.prog det_Check_4_ce := CE.of (Γ := []) (by kernel_rfl) TT_ok (GOK.nil) ⟨[], [], [], []⟩ Try.func27 rfl Try.ntmps27 (rs := [.tmp 2]) rfl (sig := det_Check_4_sig) (out := det_Check_4_out) rfl Try.call27 (fun X => by kernel_rfl)

def slices_IndexFunc_3_sig : Shape := ⟨[(.list (.int .i64))], [(0, .v 0), (1, .fn 27 [])], []⟩
def slices_IndexFunc_3_out : Shape := ⟨[(.int .i64)], [(0, .v 0)], []⟩
noncomputable def slices_IndexFunc_3_ce : CE := ⟨47, slices_IndexFunc_3_sig, slices_IndexFunc_3_out, fun X => slices_IndexFunc_3 X⟩
theorem slices_IndexFunc_3_ok : CE.ok Try.prog slices_IndexFunc_3_ce := CE.of (Γ := [det_Check_4_ce]) (by kernel_rfl) TT_ok (GOK.cons det_Check_4_ok (GOK.nil)) ⟨[(2, ⟨⟨[(.int .i64)], [(8, .v 0)], []⟩, [4, 5, 9, 10, 11, 12, 13, 14, 15, 16, 17, 18], [], [], 0, []⟩)], [], [], []⟩ Try.func47 rfl Try.ntmps47 (rs := [.tmp 4]) rfl (sig := slices_IndexFunc_3_sig) (out := slices_IndexFunc_3_out) rfl Try.call47 (fun X => by kernel_rfl)

def slices_ContainsFunc_3_sig : Shape := ⟨[(.list (.int .i64))], [(0, .v 0), (1, .fn 27 [])], []⟩
def slices_ContainsFunc_3_out : Shape := ⟨[.bool], [(0, .v 0)], []⟩
noncomputable def slices_ContainsFunc_3_ce : CE := ⟨26, slices_ContainsFunc_3_sig, slices_ContainsFunc_3_out, fun X => slices_ContainsFunc_3 X⟩
theorem slices_ContainsFunc_3_ok : CE.ok Try.prog slices_ContainsFunc_3_ce := CE.of (Γ := [slices_IndexFunc_3_ce]) (by kernel_rfl) TT_ok (GOK.cons slices_IndexFunc_3_ok (GOK.nil)) ⟨[], [], [], []⟩ Try.func26 rfl Try.ntmps26 (rs := [.tmp 4]) rfl (sig := slices_ContainsFunc_3_sig) (out := slices_ContainsFunc_3_out) rfl Try.call26 (fun X => by kernel_rfl)

def det_Check_sig : Shape := ⟨[(.pair (.int .i64) (.pair (.int .i64) (.pair (.list (.list (.int .i64))) (.pair (.list (.int .i64)) .unit))))], [(0, .v 0)], []⟩
def det_Check_out : Shape := ⟨[(.int .i64)], [(0, .v 0)], []⟩
noncomputable def det_Check_ce : CE := ⟨8, det_Check_sig, det_Check_out, fun X => det_Check X⟩
theorem det_Check_ok : CE.ok Try.prog det_Check_ce := CE.of (Γ := [slices_ContainsFunc_ce, det_Check_2_ce, slices_ContainsFunc_1_ce, slices_ContainsFunc_3_ce]) (by kernel_rfl) TT_ok (GOK.cons slices_ContainsFunc_ok (GOK.cons det_Check_2_ok (GOK.cons slices_ContainsFunc_1_ok (GOK.cons slices_ContainsFunc_3_ok (GOK.nil))))) ⟨[], [], [], []⟩ Try.func8 rfl Try.ntmps8 (rs := [.tmp 2]) rfl (sig := det_Check_sig) (out := det_Check_out) rfl Try.call8 (fun X => by kernel_rfl)

def slices_Clone_sig : Shape := ⟨[(.list (.int .i64))], [(0, .v 0)], []⟩
def slices_Clone_out : Shape := ⟨[(.list (.int .i64))], [(0, .own 0)], [(0, .arr 3 0)]⟩
noncomputable def slices_Clone_ce : CE := ⟨48, slices_Clone_sig, slices_Clone_out, fun X => slices_Clone X⟩
theorem slices_Clone_ok : CE.ok Try.prog slices_Clone_ce := CE.of (Γ := []) (by kernel_rfl) TT_ok (GOK.nil) ⟨[], [], [], []⟩ Try.func48 rfl Try.ntmps48 (rs := [.tmp 2]) rfl (sig := slices_Clone_sig) (out := slices_Clone_out) rfl Try.call48 (fun X => by kernel_rfl)

def det_Classes_sig : Shape := ⟨[(.pair (.int .i64) (.pair (.int .i64) (.pair (.list (.list (.int .i64))) (.pair (.list (.int .i64)) .unit))))], [(0, .v 0)], []⟩
def det_Classes_out : Shape := ⟨[(.list (.int .i64))], [(0, .own 0)], [(0, .arr 3 0)]⟩
noncomputable def det_Classes_ce : CE := ⟨28, det_Classes_sig, det_Classes_out, fun X => det_Classes X⟩
theorem det_Classes_ok : CE.ok Try.prog det_Classes_ce := CE.of (Γ := [slices_Clone_ce]) (by kernel_rfl) TT_ok (GOK.cons slices_Clone_ok (GOK.nil)) ⟨[(3, ⟨⟨[(.int .i64), (.list (.int .i64))], [(3, .own 1), (4, .v 0)], [(1, .arr 3 1)]⟩, [2, 5, 6, 7, 8, 9, 11, 12, 13, 14, 17, 18, 19, 20, 21, 22, 23, 24, 25, 26, 27, 28, 29, 30, 31, 32, 33, 34, 35, 36, 37, 38, 39, 40, 41, 42, 43, 44, 45, 46, 47, 48, 49, 50, 51, 52, 53, 54, 55, 56, 57, 58, 59, 60, 61, 62, 63, 64, 65, 66, 67, 68, 69, 70, 71, 72, 73, 74, 75, 76, 77, 78, 79, 80, 81, 82, 83, 84], [], [0], 2, []⟩), (6, ⟨⟨[(.int .i64), (.list (.pair (.int .i64) (.pair .str .unit))), (.list (.int .i64)), (.list (.int .i64))], [(5, .own 2), (6, .own 3), (25, .v 0)], [(2, .box 77 [.v 1, .v 2]), (3, .arr 3 3)]⟩, [7, 8, 9, 11, 12, 13, 14, 18, 21, 26, 27, 28, 29, 30, 31, 32, 33, 34, 35, 36, 37, 38, 39, 40, 41, 42, 43, 44, 45, 46, 47, 48, 49, 50, 51, 52, 53, 54, 55, 56, 57, 58, 59, 60, 61, 62, 63, 64, 65, 66, 67, 68, 69, 70, 71, 72, 73, 74, 75, 76], [], [0, 1], 4, []⟩), (10, ⟨⟨[(.int .i64), (.list (.int .u8))], [(9, .own 4), (32, .v 0)], [(4, .arr 5 1)]⟩, [11, 33, 34, 35, 36, 37, 38, 39, 40, 41, 42, 43, 44, 45, 46, 47, 48, 49, 50], [], [0, 1, 2, 3], 5, []⟩)], [(17, ⟨⟨[(.list (.pair (.int .i64) (.pair .str .unit))), (.list (.int .i64))], [(5, .own 2)], [(2, .box 77 [.v 0, .v 1])]⟩, [13, 14, 58, 59, 60, 61, 62, 63, 64, 65, 66, 67, 68, 69], [], [0, 1, 3, 4, 5], 6, []⟩)], [(12, [(0, 0), (0, 1), (0, 2), (0, 3), (0, 4), (0, 5), (0, 6), (0, 7), (0, 8), (0, 9), (0, 10), (0, 11), (1, 12), (2, 13), (0, 14)]), (14, [(0, 0), (0, 1), (0, 2), (0, 3), (0, 4), (0, 5), (0, 6), (1, 7), (2, 8)])], []⟩ Try.func28 rfl Try.ntmps28 (rs := [.tmp 2]) rfl (sig := det_Classes_sig) (out := det_Classes_out) rfl Try.call28 (fun X => by kernel_rfl)

def det_Smallest_1_sig : Shape := ⟨[(.int .i64), (.int .i64), (.list (.int .i64)), (.pair (.int .i64) (.pair (.int .i64) (.pair (.list (.list (.int .i64))) (.pair (.list (.int .i64)) .unit)))), (.list (.int .i64))], [(0, .v 0), (1, .v 1), (2, .addr 2), (3, .addr 3), (4, .addr 4)], []⟩
def det_Smallest_1_out : Shape := ⟨[(.int .i64)], [(0, .v 0)], []⟩
noncomputable def det_Smallest_1_ce : CE := ⟨29, det_Smallest_1_sig, det_Smallest_1_out, fun X => det_Smallest_1 X.1 X.2.1 X.2.2.1 X.2.2.2.1 X.2.2.2.2⟩
theorem det_Smallest_1_ok : CE.ok Try.prog det_Smallest_1_ce := CE.of (Γ := []) (by kernel_rfl) TT_ok (GOK.nil) ⟨[], [], [(1, [(0, 0), (0, 1), (0, 2), (0, 3), (0, 4), (0, 5), (0, 6), (0, 7), (0, 8), (0, 9), (0, 10), (0, 11), (0, 12), (0, 13), (0, 14)])], []⟩ Try.func29 rfl Try.ntmps29 (rs := [.tmp 7]) rfl (sig := det_Smallest_1_sig) (out := det_Smallest_1_out) rfl Try.call29 (fun X => by kernel_rfl)

def det_Smallest_2_sig : Shape := ⟨[(.int .i64), (.pair (.int .i64) (.pair (.int .i64) (.pair (.list (.list (.int .i64))) (.pair (.list (.int .i64)) .unit)))), (.list (.int .i64))], [(0, .v 0), (1, .addr 1), (2, .addr 2)], []⟩
def det_Smallest_2_out : Shape := ⟨[(.int .i64)], [(0, .v 0)], []⟩
noncomputable def det_Smallest_2_ce : CE := ⟨30, det_Smallest_2_sig, det_Smallest_2_out, fun X => det_Smallest_2 X.1 X.2.1 X.2.2⟩
theorem det_Smallest_2_ok : CE.ok Try.prog det_Smallest_2_ce := CE.of (Γ := []) (by kernel_rfl) TT_ok (GOK.nil) ⟨[], [], [(1, [(0, 0), (0, 1), (0, 2), (0, 3), (0, 4), (0, 5), (0, 6), (0, 7), (0, 8)])], []⟩ Try.func30 rfl Try.ntmps30 (rs := [.tmp 4]) rfl (sig := det_Smallest_2_sig) (out := det_Smallest_2_out) rfl Try.call30 (fun X => by kernel_rfl)

def det_Explore_sig : Shape := ⟨[(.int .i64), (.int .i64), (.list (.int .i64)), (.pair (.int .i64) (.pair (.int .i64) (.pair (.list (.list (.int .i64))) (.pair (.list (.int .i64)) .unit)))), (.list (.int .i64)), (.pair (.int .i64) (.pair (.int .i64) (.pair (.list (.list (.int .i64))) (.pair (.list (.int .i64)) .unit)))), (.list (.int .i64)), (.int .i64)], [(0, .v 0), (1, .v 1), (2, .fn 29 [.addr 2, .addr 3, .addr 4]), (3, .fn 30 [.addr 5, .addr 6]), (4, .v 7)], []⟩
def det_Explore_out : Shape := ⟨[(.pair (.int .i64) (.pair (.int .i64) (.pair (.list (.list (.int .i64))) (.pair (.list (.int .i64)) .unit)))), .bool], [(0, .v 0), (1, .v 1)], []⟩
noncomputable def det_Explore_ce : CE := ⟨17, det_Explore_sig, det_Explore_out, fun X => det_Explore X.1 X.2.1 X.2.2.1 X.2.2.2.1 X.2.2.2.2.1 X.2.2.2.2.2.1 X.2.2.2.2.2.2.1 X.2.2.2.2.2.2.2⟩
theorem det_Explore_ok : CE.ok Try.prog det_Explore_ce := CE.of (Γ := [det_Smallest_1_ce, det_Smallest_2_ce]) (by kernel_rfl) TT_ok (GOK.cons det_Smallest_1_ok (GOK.cons det_Smallest_2_ok (GOK.nil))) ⟨[(4, ⟨⟨[(.int .i64), (.int .i64), (.list (.int .i64)), (.list (.int .i64)), (.list (.int .i64)), (.list (.list (.int .i64))), (.list (.int .i64))], [(12, .ptr 1 0), (13, .own 2), (14, .own 3)], [(1, .box 25 [.v 0, .v 1, .own 4, .own 5]), (2, .box 73 [.v 2, .v 3]), (3, .arr 3 4), (4, .arr 23 5), (5, .arr 3 6)]⟩, [11, 15, 16, 17, 18, 19, 20, 23, 25, 27, 28, 29, 30, 31, 32, 33, 34, 35, 36, 37, 38, 39, 40, 41, 42, 43, 44, 45, 46, 47, 48, 49, 50, 51, 52, 53, 54, 55, 56, 57, 58, 59, 60, 61, 62, 63, 64, 65, 66, 67, 68, 69, 70, 71, 72, 73, 74, 75, 76, 77, 78, 79, 80, 81, 82, 83, 84, 85, 86, 87, 88, 89], [], [0], 6, [(1, 2, some 23, (.list (.int .i64))), (1, 3, some 3, (.int .i64))]⟩), (8, ⟨⟨[(.int .i64), (.list (.int .i64)), (.list (.int .i64)), (.list (.int .i64)), (.list (.int .i64))], [(13, .own 2), (14, .own 3), (16, .own 6), (43, .v 0)], [(2, .box 73 [.v 1, .v 2]), (3, .arr 3 3), (6, .arr 3 4)]⟩, [11, 17, 18, 19, 20, 31, 34, 38, 41, 44, 45, 46, 47, 48, 49, 50, 51, 52, 53, 54, 55, 56, 57, 58, 59, 60, 61, 62, 63, 64, 65, 66, 67, 68, 69, 70, 71, 72, 73, 74, 75], [], [0, 1, 4, 5], 7, []⟩)], [(17, ⟨⟨[(.int .i64), (.list (.int .i64)), (.list (.int .i64)), (.list (.int .i64))], [(13, .own 2), (14, .own 7), (19, .v 0)], [(2, .box 73 [.v 1, .v 2]), (7, .arr 3 3)]⟩, [11, 51, 56, 57, 58, 59, 60, 61, 62, 63, 64, 65, 66, 67, 68, 69, 70], [3], [0, 1, 4, 5, 6], 8, []⟩)], [(21, [(0, 0), (0, 1), (0, 2), (0, 3), (1, 4), (1, 5), (2, 6), (0, 7), (2, 8)])], []⟩ Try.func17 rfl Try.ntmps17 (rs := [.cell 10 25, .tmp 11]) rfl (sig := det_Explore_sig) (out := det_Explore_out) rfl Try.call17 (fun X => by kernel_rfl)

def det_Smallest_sig : Shape := ⟨[(.pair (.int .i64) (.pair (.int .i64) (.pair (.list (.list (.int .i64))) (.pair (.list (.int .i64)) .unit))))], [(0, .v 0)], []⟩
def det_Smallest_out : Shape := ⟨[(.pair (.int .i64) (.pair (.int .i64) (.pair (.list (.list (.int .i64))) (.pair (.list (.int .i64)) .unit))))], [(0, .v 0)], []⟩
noncomputable def det_Smallest_ce : CE := ⟨9, det_Smallest_sig, det_Smallest_out, fun X => det_Smallest X⟩
theorem det_Smallest_ok : CE.ok Try.prog det_Smallest_ce := CE.of (Γ := [det_Classes_ce, det_Explore_ce]) (by kernel_rfl) TT_ok (GOK.cons det_Classes_ok (GOK.cons det_Explore_ok (GOK.nil))) ⟨[(4, ⟨⟨[(.int .i64), (.list (.int .i64))], [(4, .ptr 5 0), (16, .v 0)], [(5, .box 23 [.own 4]), (4, .arr 3 1)]⟩, [5, 6, 13, 17, 18, 19, 20, 21, 22, 23, 24, 25], [], [0, 1, 2, 3], 6, []⟩)], [(8, ⟨⟨[(.int .i64), (.int .i64), (.list (.list (.int .i64))), (.list (.int .i64))], [(7, .ptr 6 0)], [(6, .box 25 [.v 0, .v 1, .v 2, .v 3])]⟩, [1, 3, 4, 8, 10, 11, 14, 26, 27, 28, 29, 30, 31, 32, 33, 34, 35, 36, 37, 38, 39, 40, 41], [0, 2, 3, 4, 5], [1], 7, []⟩)], [], [(8, (.one 0 (.one 3 (.one 7 (.one 8 (.live [12, 17] (.rd 1 [12, 13, 14, 15, 17, 18] (.rd 2 [5, 6, 12, 13, 14, 15, 17, 18] (.rd 4 [5, 6, 12, 13, 14, 15, 17, 18] (.rd 5 [6, 12, 13, 14, 15, 17, 18] (.rd 6 [12, 13, 14, 15, 17, 18] (.rd 9 [10, 11, 12, 13, 14, 15, 17, 18] (.rd 10 [11, 12, 13, 14, 15, 17, 18] (.rd 11 [12, 13, 14, 15, 17, 18] (.alt 2 12 (.leaf [(0, 13), (0, 14), (0, 15), (1, 16), (2, 17), (0, 18)]) (.alt 1 16 (.alt 2 12 (.leaf [(0, 13), (0, 14), (0, 15), (2, 17), (0, 18)]) .stop) .stop))))))))))))))))]⟩ Try.func9 rfl Try.ntmps9 (rs := [.cell 2 25]) rfl (sig := det_Smallest_sig) (out := det_Smallest_out) rfl Try.call9 (fun X => by kernel_rfl)

def det_Least_sig : Shape := ⟨[(.pair (.int .i64) (.pair (.int .i64) (.pair (.list (.list (.int .i64))) (.pair (.list (.int .i64)) .unit))))], [(0, .v 0)], []⟩
def det_Least_out : Shape := ⟨[(.pair (.int .i64) (.pair (.int .i64) (.pair (.list (.list (.int .i64))) (.pair (.list (.int .i64)) .unit)))), (.int .i64)], [(0, .v 0), (1, .v 1)], []⟩
noncomputable def det_Least_ce : CE := ⟨4, det_Least_sig, det_Least_out, fun X => det_Least X⟩
theorem det_Least_ok : CE.ok Try.prog det_Least_ce := CE.of (Γ := [det_Check_ce, det_Smallest_ce]) (by kernel_rfl) TT_ok (GOK.cons det_Check_ok (GOK.cons det_Smallest_ok (GOK.nil))) ⟨[], [], [], []⟩ Try.func4 rfl Try.ntmps4 (rs := [.cell 2 25, .tmp 3]) rfl (sig := det_Least_sig) (out := det_Least_out) rfl Try.call4 (fun X => by kernel_rfl)

def two_Check_1_sig : Shape := ⟨[(.list (.pair (.int .i64) (.pair (.int .i64) .unit))), (.pair (.int .i64) (.pair (.int .i64) (.pair (.list (.list (.pair (.int .i64) (.pair (.int .i64) .unit)))) (.pair (.list (.int .i64)) .unit))))], [(0, .v 0), (1, .addr 1)], []⟩
def two_Check_1_out : Shape := ⟨[.bool], [(0, .v 0)], []⟩
noncomputable def two_Check_1_ce : CE := ⟨32, two_Check_1_sig, two_Check_1_out, fun X => two_Check_1 X.1 X.2⟩
theorem two_Check_1_ok : CE.ok Try.prog two_Check_1_ce := CE.of (Γ := []) (by kernel_rfl) TT_ok (GOK.nil) ⟨[], [], [], []⟩ Try.func32 rfl Try.ntmps32 (rs := [.tmp 3]) rfl (sig := two_Check_1_sig) (out := two_Check_1_out) rfl Try.call32 (fun X => by kernel_rfl)

def slices_IndexFunc_4_sig : Shape := ⟨[(.list (.list (.pair (.int .i64) (.pair (.int .i64) .unit)))), (.pair (.int .i64) (.pair (.int .i64) (.pair (.list (.list (.pair (.int .i64) (.pair (.int .i64) .unit)))) (.pair (.list (.int .i64)) .unit))))], [(0, .v 0), (1, .fn 32 [.addr 1])], []⟩
def slices_IndexFunc_4_out : Shape := ⟨[(.int .i64)], [(0, .v 0)], []⟩
noncomputable def slices_IndexFunc_4_ce : CE := ⟨49, slices_IndexFunc_4_sig, slices_IndexFunc_4_out, fun X => slices_IndexFunc_4 X.1 X.2⟩
theorem slices_IndexFunc_4_ok : CE.ok Try.prog slices_IndexFunc_4_ce := CE.of (Γ := [two_Check_1_ce]) (by kernel_rfl) TT_ok (GOK.cons two_Check_1_ok (GOK.nil)) ⟨[(2, ⟨⟨[(.int .i64)], [(8, .v 0)], []⟩, [4, 5, 9, 10, 11, 12, 13, 14, 15, 16, 17, 18], [], [], 0, []⟩)], [], [], []⟩ Try.func49 rfl Try.ntmps49 (rs := [.tmp 4]) rfl (sig := slices_IndexFunc_4_sig) (out := slices_IndexFunc_4_out) rfl Try.call49 (fun X => by kernel_rfl)

def slices_ContainsFunc_4_sig : Shape := ⟨[(.list (.list (.pair (.int .i64) (.pair (.int .i64) .unit)))), (.pair (.int .i64) (.pair (.int .i64) (.pair (.list (.list (.pair (.int .i64) (.pair (.int .i64) .unit)))) (.pair (.list (.int .i64)) .unit))))], [(0, .v 0), (1, .fn 32 [.addr 1])], []⟩
def slices_ContainsFunc_4_out : Shape := ⟨[.bool], [(0, .v 0)], []⟩
noncomputable def slices_ContainsFunc_4_ce : CE := ⟨31, slices_ContainsFunc_4_sig, slices_ContainsFunc_4_out, fun X => slices_ContainsFunc_4 X.1 X.2⟩
theorem slices_ContainsFunc_4_ok : CE.ok Try.prog slices_ContainsFunc_4_ce := CE.of (Γ := [slices_IndexFunc_4_ce]) (by kernel_rfl) TT_ok (GOK.cons slices_IndexFunc_4_ok (GOK.nil)) ⟨[], [], [], []⟩ Try.func31 rfl Try.ntmps31 (rs := [.tmp 4]) rfl (sig := slices_ContainsFunc_4_sig) (out := slices_ContainsFunc_4_out) rfl Try.call31 (fun X => by kernel_rfl)

def two_Check_2_sig : Shape := ⟨[(.int .i64), (.int .i64)], [(0, .v 0), (1, .addr 1)], []⟩
def two_Check_2_out : Shape := ⟨[.bool], [(0, .v 0)], []⟩
noncomputable def two_Check_2_ce : CE := ⟨33, two_Check_2_sig, two_Check_2_out, fun X => two_Check_2 X.1 X.2⟩
theorem two_Check_2_ok : CE.ok Try.prog two_Check_2_ce := CE.of (Γ := []) (by kernel_rfl) TT_ok (GOK.nil) ⟨[], [], [], []⟩ Try.func33 rfl Try.ntmps33 (rs := [.tmp 3]) rfl (sig := two_Check_2_sig) (out := two_Check_2_out) rfl Try.call33 (fun X => by kernel_rfl)

def two_Check_3_1_sig : Shape := ⟨[(.pair (.int .i64) (.pair (.int .i64) .unit)), (.int .i64)], [(0, .v 0), (1, .ptr 100000 0)], [(100000, .box 61 [.fn 33 [.addr 1]])]⟩
def two_Check_3_1_out : Shape := ⟨[.bool, (.int .i64)], [(0, .v 0)], [(100000, .box 61 [.fn 33 [.addr 1]])]⟩
noncomputable def two_Check_3_1_ce : CE := ⟨36, two_Check_3_1_sig, two_Check_3_1_out, fun X => two_Check_3_1 X.1 X.2⟩
theorem two_Check_3_1_ok : CE.ok Try.prog two_Check_3_1_ce := CE.of (Γ := [two_Check_2_ce]) (by kernel_rfl) TT_ok (GOK.cons two_Check_2_ok (GOK.nil)) ⟨[], [], [], []⟩ Try.func36 rfl Try.ntmps36 (rs := [.tmp 3]) rfl (sig := two_Check_3_1_sig) (out := two_Check_3_1_out) rfl Try.call36 (fun X => by kernel_rfl)

def slices_IndexFunc_6_sig : Shape := ⟨[(.list (.pair (.int .i64) (.pair (.int .i64) .unit))), (.int .i64)], [(0, .v 0), (1, .fn 36 [.ptr 100000 0])], [(100000, .box 61 [.fn 33 [.addr 1]])]⟩
def slices_IndexFunc_6_out : Shape := ⟨[(.int .i64), (.int .i64)], [(0, .v 0)], [(100000, .box 61 [.fn 33 [.addr 1]])]⟩
noncomputable def slices_IndexFunc_6_ce : CE := ⟨50, slices_IndexFunc_6_sig, slices_IndexFunc_6_out, fun X => slices_IndexFunc_6 X.1 X.2⟩
theorem slices_IndexFunc_6_ok : CE.ok Try.prog slices_IndexFunc_6_ce := CE.of (Γ := [two_Check_3_1_ce]) (by kernel_rfl) TT_ok (GOK.cons two_Check_3_1_ok (GOK.nil)) ⟨[(2, ⟨⟨[(.int .i64), (.int .i64)], [(1, .fn 36 [.ptr 100000 0]), (8, .v 0)], [(100000, .box 61 [.fn 33 [.addr 1]])]⟩, [4, 5, 9, 10, 11, 12, 13, 14, 15, 16, 17, 18], [], [], 0, []⟩)], [], [], []⟩ Try.func50 rfl Try.ntmps50 (rs := [.tmp 4]) rfl (sig := slices_IndexFunc_6_sig) (out := slices_IndexFunc_6_out) rfl Try.call50 (fun X => by kernel_rfl)

def slices_ContainsFunc_6_sig : Shape := ⟨[(.list (.pair (.int .i64) (.pair (.int .i64) .unit))), (.int .i64)], [(0, .v 0), (1, .fn 36 [.ptr 100000 0])], [(100000, .box 61 [.fn 33 [.addr 1]])]⟩
def slices_ContainsFunc_6_out : Shape := ⟨[.bool, (.int .i64)], [(0, .v 0)], [(100000, .box 61 [.fn 33 [.addr 1]])]⟩
noncomputable def slices_ContainsFunc_6_ce : CE := ⟨35, slices_ContainsFunc_6_sig, slices_ContainsFunc_6_out, fun X => slices_ContainsFunc_6 X.1 X.2⟩
theorem slices_ContainsFunc_6_ok : CE.ok Try.prog slices_ContainsFunc_6_ce := CE.of (Γ := [slices_IndexFunc_6_ce]) (by kernel_rfl) TT_ok (GOK.cons slices_IndexFunc_6_ok (GOK.nil)) ⟨[], [], [], []⟩ Try.func35 rfl Try.ntmps35 (rs := [.tmp 4]) rfl (sig := slices_ContainsFunc_6_sig) (out := slices_ContainsFunc_6_out) rfl Try.call35 (fun X => by kernel_rfl)

def two_Check_3_sig : Shape := ⟨[(.list (.pair (.int .i64) (.pair (.int .i64) .unit))), (.int .i64)], [(0, .v 0), (1, .ptr 100000 0)], [(100000, .box 61 [.fn 33 [.addr 1]])]⟩
def two_Check_3_out : Shape := ⟨[.bool, (.int .i64)], [(0, .v 0)], [(100000, .box 61 [.fn 33 [.addr 1]])]⟩
noncomputable def two_Check_3_ce : CE := ⟨34, two_Check_3_sig, two_Check_3_out, fun X => two_Check_3 X.1 X.2⟩
theorem two_Check_3_ok : CE.ok Try.prog two_Check_3_ce := CE.of (Γ := [slices_ContainsFunc_6_ce]) (by kernel_rfl) TT_ok (GOK.cons slices_ContainsFunc_6_ok (GOK.nil)) ⟨[], [], [], []⟩ Try.func34 rfl Try.ntmps34 (rs := [.tmp 3]) rfl (sig := two_Check_3_sig) (out := two_Check_3_out) rfl Try.call34 (fun X => by kernel_rfl)

def slices_IndexFunc_5_sig : Shape := ⟨[(.list (.list (.pair (.int .i64) (.pair (.int .i64) .unit)))), (.int .i64)], [(0, .v 0), (1, .fn 34 [.ptr 100000 0])], [(100000, .box 61 [.fn 33 [.addr 1]])]⟩
def slices_IndexFunc_5_out : Shape := ⟨[(.int .i64), (.int .i64)], [(0, .v 0)], [(100000, .box 61 [.fn 33 [.addr 1]])]⟩
noncomputable def slices_IndexFunc_5_ce : CE := ⟨49, slices_IndexFunc_5_sig, slices_IndexFunc_5_out, fun X => slices_IndexFunc_5 X.1 X.2⟩
theorem slices_IndexFunc_5_ok : CE.ok Try.prog slices_IndexFunc_5_ce := CE.of (Γ := [two_Check_3_ce]) (by kernel_rfl) TT_ok (GOK.cons two_Check_3_ok (GOK.nil)) ⟨[(2, ⟨⟨[(.int .i64), (.int .i64)], [(1, .fn 34 [.ptr 100000 0]), (8, .v 0)], [(100000, .box 61 [.fn 33 [.addr 1]])]⟩, [4, 5, 9, 10, 11, 12, 13, 14, 15, 16, 17, 18], [], [], 0, []⟩)], [], [], []⟩ Try.func49 rfl Try.ntmps49 (rs := [.tmp 4]) rfl (sig := slices_IndexFunc_5_sig) (out := slices_IndexFunc_5_out) rfl Try.call49 (fun X => by kernel_rfl)

def slices_ContainsFunc_5_sig : Shape := ⟨[(.list (.list (.pair (.int .i64) (.pair (.int .i64) .unit)))), (.int .i64)], [(0, .v 0), (1, .fn 34 [.ptr 100000 0])], [(100000, .box 61 [.fn 33 [.addr 1]])]⟩
def slices_ContainsFunc_5_out : Shape := ⟨[.bool, (.int .i64)], [(0, .v 0)], [(100000, .box 61 [.fn 33 [.addr 1]])]⟩
noncomputable def slices_ContainsFunc_5_ce : CE := ⟨31, slices_ContainsFunc_5_sig, slices_ContainsFunc_5_out, fun X => slices_ContainsFunc_5 X.1 X.2⟩
theorem slices_ContainsFunc_5_ok : CE.ok Try.prog slices_ContainsFunc_5_ce := CE.of (Γ := [slices_IndexFunc_5_ce]) (by kernel_rfl) TT_ok (GOK.cons slices_IndexFunc_5_ok (GOK.nil)) ⟨[], [], [], []⟩ Try.func31 rfl Try.ntmps31 (rs := [.tmp 4]) rfl (sig := slices_ContainsFunc_5_sig) (out := slices_ContainsFunc_5_out) rfl Try.call31 (fun X => by kernel_rfl)

def two_Check_4_sig : Shape := ⟨[(.int .i64)], [(0, .v 0)], []⟩
def two_Check_4_out : Shape := ⟨[.bool], [(0, .v 0)], []⟩
noncomputable def two_Check_4_ce : CE := ⟨37, two_Check_4_sig, two_Check_4_out, fun X => two_Check_4 X⟩
theorem two_Check_4_ok : CE.ok Try.prog two_Check_4_ce := CE.of (Γ := []) (by kernel_rfl) TT_ok (GOK.nil) ⟨[], [], [], []⟩ Try.func37 rfl Try.ntmps37 (rs := [.tmp 2]) rfl (sig := two_Check_4_sig) (out := two_Check_4_out) rfl Try.call37 (fun X => by kernel_rfl)

def slices_IndexFunc_7_sig : Shape := ⟨[(.list (.int .i64))], [(0, .v 0), (1, .fn 37 [])], []⟩
def slices_IndexFunc_7_out : Shape := ⟨[(.int .i64)], [(0, .v 0)], []⟩
noncomputable def slices_IndexFunc_7_ce : CE := ⟨47, slices_IndexFunc_7_sig, slices_IndexFunc_7_out, fun X => slices_IndexFunc_7 X⟩
theorem slices_IndexFunc_7_ok : CE.ok Try.prog slices_IndexFunc_7_ce := CE.of (Γ := [two_Check_4_ce]) (by kernel_rfl) TT_ok (GOK.cons two_Check_4_ok (GOK.nil)) ⟨[(2, ⟨⟨[(.int .i64)], [(8, .v 0)], []⟩, [4, 5, 9, 10, 11, 12, 13, 14, 15, 16, 17, 18], [], [], 0, []⟩)], [], [], []⟩ Try.func47 rfl Try.ntmps47 (rs := [.tmp 4]) rfl (sig := slices_IndexFunc_7_sig) (out := slices_IndexFunc_7_out) rfl Try.call47 (fun X => by kernel_rfl)

def slices_ContainsFunc_7_sig : Shape := ⟨[(.list (.int .i64))], [(0, .v 0), (1, .fn 37 [])], []⟩
def slices_ContainsFunc_7_out : Shape := ⟨[.bool], [(0, .v 0)], []⟩
noncomputable def slices_ContainsFunc_7_ce : CE := ⟨26, slices_ContainsFunc_7_sig, slices_ContainsFunc_7_out, fun X => slices_ContainsFunc_7 X⟩
theorem slices_ContainsFunc_7_ok : CE.ok Try.prog slices_ContainsFunc_7_ce := CE.of (Γ := [slices_IndexFunc_7_ce]) (by kernel_rfl) TT_ok (GOK.cons slices_IndexFunc_7_ok (GOK.nil)) ⟨[], [], [], []⟩ Try.func26 rfl Try.ntmps26 (rs := [.tmp 4]) rfl (sig := slices_ContainsFunc_7_sig) (out := slices_ContainsFunc_7_out) rfl Try.call26 (fun X => by kernel_rfl)

def two_Check_sig : Shape := ⟨[(.pair (.int .i64) (.pair (.int .i64) (.pair (.list (.list (.pair (.int .i64) (.pair (.int .i64) .unit)))) (.pair (.list (.int .i64)) .unit))))], [(0, .v 0)], []⟩
def two_Check_out : Shape := ⟨[(.int .i64)], [(0, .v 0)], []⟩
noncomputable def two_Check_ce : CE := ⟨10, two_Check_sig, two_Check_out, fun X => two_Check X⟩
theorem two_Check_ok : CE.ok Try.prog two_Check_ce := CE.of (Γ := [slices_ContainsFunc_4_ce, two_Check_2_ce, slices_ContainsFunc_5_ce, slices_ContainsFunc_7_ce]) (by kernel_rfl) TT_ok (GOK.cons slices_ContainsFunc_4_ok (GOK.cons two_Check_2_ok (GOK.cons slices_ContainsFunc_5_ok (GOK.cons slices_ContainsFunc_7_ok (GOK.nil))))) ⟨[], [], [], []⟩ Try.func10 rfl Try.ntmps10 (rs := [.tmp 2]) rfl (sig := two_Check_sig) (out := two_Check_out) rfl Try.call10 (fun X => by kernel_rfl)

def two_Det_1_sig : Shape := ⟨[(.pair (.int .i64) (.pair (.int .i64) (.pair (.int .i64) (.pair (.int .i64) (.pair (.int .i64) .unit))))), .bool, (.int .i64), (.int .i64), (.int .i64), (.pair (.int .i64) (.pair (.int .i64) (.pair (.list (.list (.pair (.int .i64) (.pair (.int .i64) .unit)))) (.pair (.list (.int .i64)) .unit))))], [(0, .v 0), (1, .v 1), (2, .v 2), (3, .v 3), (4, .addr 4), (5, .addr 5)], []⟩
def two_Det_1_out : Shape := ⟨[(.int .i64)], [(0, .v 0)], []⟩
noncomputable def two_Det_1_ce : CE := ⟨11, two_Det_1_sig, two_Det_1_out, fun X => two_Det_1 X.1 X.2.1 X.2.2.1 X.2.2.2.1 X.2.2.2.2.1 X.2.2.2.2.2⟩
theorem two_Det_1_ok : CE.ok Try.prog two_Det_1_ce := CE.of (Γ := []) (by kernel_rfl) TT_ok (GOK.nil) ⟨[(2, ⟨⟨[(.int .i64), (.int .i64)], [(2, .v 0), (14, .v 1)], []⟩, [10, 11, 15, 16, 17, 18, 19, 20, 21, 22, 23, 24, 25, 26, 27, 28, 29, 30, 31, 32, 33, 34, 35, 36], [], [0], 1, []⟩)], [], [], []⟩ Try.func11 rfl Try.ntmps11 (rs := [.tmp 10]) rfl (sig := two_Det_1_sig) (out := two_Det_1_out) rfl Try.call11 (fun X => by kernel_rfl)

def two_Det_2_sig : Shape := ⟨[(.pair (.int .i64) (.pair (.int .i64) (.pair (.int .i64) (.pair (.int .i64) (.pair (.int .i64) .unit))))), (.int .i64), (.int .i64), (.int .i64), (.pair (.int .i64) (.pair (.int .i64) (.pair (.list (.list (.pair (.int .i64) (.pair (.int .i64) .unit)))) (.pair (.list (.int .i64)) .unit))))], [(0, .v 0), (1, .v 1), (2, .addr 2), (3, .ptr 100000 0)], [(100000, .box 47 [.fn 11 [.addr 3, .addr 4]])]⟩
def two_Det_2_out : Shape := ⟨[(.pair (.int .i64) (.pair (.int .i64) (.pair (.int .i64) (.pair (.int .i64) (.pair (.int .i64) .unit))))), (.int .i64), (.pair (.int .i64) (.pair (.int .i64) (.pair (.list (.list (.pair (.int .i64) (.pair (.int .i64) .unit)))) (.pair (.list (.int .i64)) .unit))))], [(0, .v 0)], [(100000, .box 47 [.fn 11 [.addr 1, .addr 2]])]⟩
noncomputable def two_Det_2_ce : CE := ⟨13, two_Det_2_sig, two_Det_2_out, fun X => two_Det_2 X.1 X.2.1 X.2.2.1 X.2.2.2.1 X.2.2.2.2⟩
theorem two_Det_2_ok : CE.ok Try.prog two_Det_2_ce := CE.of (Γ := [two_Det_1_ce]) (by kernel_rfl) TT_ok (GOK.cons two_Det_1_ok (GOK.nil)) ⟨[(3, ⟨⟨[(.int .i64), (.int .i64), (.int .i64), (.int .i64), (.int .i64), (.int .i64)], [(7, .ptr 2 0), (11, .v 0)], [(2, .box 46 [.v 1, .v 2, .v 3, .v 4, .v 5])]⟩, [8, 12, 13, 14, 15, 16, 17, 18, 19, 20, 21], [], [0, 1], 3, []⟩)], [], [], []⟩ Try.func13 rfl Try.ntmps13 (rs := [.cell 6 46]) rfl (sig := two_Det_2_sig) (out := two_Det_2_out) rfl Try.call13 (fun X => by kernel_rfl)

def two_Det_3_sig : Shape := ⟨[(.pair (.int .i64) (.pair (.int .i64) (.pair (.int .i64) (.pair (.int .i64) (.pair (.int .i64) .unit))))), (.pair (.int .i64) (.pair (.int .i64) (.pair (.list (.list (.pair (.int .i64) (.pair (.int .i64) .unit)))) (.pair (.list (.int .i64)) .unit)))), (.int .i64), (.pair (.int .i64) (.pair (.int .i64) (.pair (.list (.list (.pair (.int .i64) (.pair (.int .i64) .unit)))) (.pair (.list (.int .i64)) .unit))))], [(0, .v 0), (1, .ptr 100000 0), (2, .addr 1)], [(100000, .box 47 [.fn 11 [.addr 2, .addr 3]])]⟩
def two_Det_3_out : Shape := ⟨[(.int .i64), (.int .i64), (.pair (.int .i64) (.pair (.int .i64) (.pair (.list (.list (.pair (.int .i64) (.pair (.int .i64) .unit)))) (.pair (.list (.int .i64)) .unit))))], [(0, .v 0)], [(100000, .box 47 [.fn 11 [.addr 1, .addr 2]])]⟩
noncomputable def two_Det_3_ce : CE := ⟨14, two_Det_3_sig, two_Det_3_out, fun X => two_Det_3 X.1 X.2.1 X.2.2.1 X.2.2.2⟩
theorem two_Det_3_ok : CE.ok Try.prog two_Det_3_ce := CE.of (Γ := [two_Det_1_ce]) (by kernel_rfl) TT_ok (GOK.cons two_Det_1_ok (GOK.nil)) ⟨[], [], [], []⟩ Try.func14 rfl Try.ntmps14 (rs := [.tmp 4]) rfl (sig := two_Det_3_sig) (out := two_Det_3_out) rfl Try.call14 (fun X => by kernel_rfl)

def det_Explore_1_sig : Shape := ⟨[(.int .i64), (.pair (.int .i64) (.pair (.int .i64) (.pair (.int .i64) (.pair (.int .i64) (.pair (.int .i64) .unit))))), (.int .i64), (.pair (.int .i64) (.pair (.int .i64) (.pair (.list (.list (.pair (.int .i64) (.pair (.int .i64) .unit)))) (.pair (.list (.int .i64)) .unit)))), (.int .i64), (.int .i64), (.pair (.int .i64) (.pair (.int .i64) (.pair (.list (.list (.pair (.int .i64) (.pair (.int .i64) .unit)))) (.pair (.list (.int .i64)) .unit))))], [(0, .v 0), (1, .v 1), (2, .fn 13 [.addr 2, .ptr 100000 0]), (3, .fn 14 [.ptr 100000 0, .addr 3]), (4, .v 4)], [(100000, .box 47 [.fn 11 [.addr 5, .addr 6]])]⟩
def det_Explore_1_out : Shape := ⟨[(.pair (.int .i64) (.pair (.int .i64) (.pair (.list (.list (.int .i64))) (.pair (.list (.int .i64)) .unit)))), .bool], [(0, .v 0), (1, .v 1)], []⟩
noncomputable def det_Explore_1_ce : CE := ⟨12, det_Explore_1_sig, det_Explore_1_out, fun X => det_Explore_1 X.1 X.2.1 X.2.2.1 X.2.2.2.1 X.2.2.2.2.1 X.2.2.2.2.2.1 X.2.2.2.2.2.2⟩
theorem det_Explore_1_ok : CE.ok Try.prog det_Explore_1_ce := CE.of (Γ := [two_Det_2_ce, two_Det_3_ce]) (by kernel_rfl) TT_ok (GOK.cons two_Det_2_ok (GOK.cons two_Det_3_ok (GOK.nil))) ⟨[(4, ⟨⟨[(.int .i64), (.pair (.int .i64) (.pair (.int .i64) (.pair (.list (.list (.pair (.int .i64) (.pair (.int .i64) .unit)))) (.pair (.list (.int .i64)) .unit)))), (.int .i64), (.pair (.int .i64) (.pair (.int .i64) (.pair (.list (.list (.pair (.int .i64) (.pair (.int .i64) .unit)))) (.pair (.list (.int .i64)) .unit)))), (.int .i64), (.int .i64), (.list (.pair (.int .i64) (.pair (.int .i64) (.pair (.int .i64) (.pair (.int .i64) (.pair (.int .i64) .unit)))))), (.list (.int .i64)), (.list (.pair (.int .i64) (.pair (.int .i64) (.pair (.int .i64) (.pair (.int .i64) (.pair (.int .i64) .unit)))))), (.list (.list (.int .i64))), (.list (.int .i64))], [(2, .fn 13 [.addr 0, .ptr 100000 0]), (3, .fn 14 [.ptr 100000 0, .addr 1]), (12, .ptr 2 0), (13, .own 3), (14, .own 4)], [(100000, .box 47 [.fn 11 [.addr 2, .addr 3]]), (2, .box 25 [.v 4, .v 5, .own 5, .own 6]), (3, .box 68 [.v 6, .v 7]), (4, .arr 46 8), (5, .arr 23 9), (6, .arr 3 10)]⟩, [11, 15, 16, 17, 18, 19, 20, 23, 25, 27, 28, 29, 30, 31, 32, 33, 34, 35, 36, 37, 38, 39, 40, 41, 42, 43, 44, 45, 46, 47, 48, 49, 50, 51, 52, 53, 54, 55, 56, 57, 58, 59, 60, 61, 62, 63, 64, 65, 66, 67, 68, 69, 70, 71, 72, 73, 74, 75, 76, 77, 78, 79, 80, 81, 82, 83, 84, 85, 86, 87, 88, 89], [], [0, 1], 7, [(2, 2, some 23, (.list (.int .i64))), (2, 3, some 3, (.int .i64))]⟩), (8, ⟨⟨[(.int .i64), (.pair (.int .i64) (.pair (.int .i64) (.pair (.list (.list (.pair (.int .i64) (.pair (.int .i64) .unit)))) (.pair (.list (.int .i64)) .unit)))), (.int .i64), (.int .i64), (.pair (.int .i64) (.pair (.int .i64) (.pair (.list (.list (.pair (.int .i64) (.pair (.int .i64) .unit)))) (.pair (.list (.int .i64)) .unit)))), (.list (.pair (.int .i64) (.pair (.int .i64) (.pair (.int .i64) (.pair (.int .i64) (.pair (.int .i64) .unit)))))), (.list (.int .i64)), (.list (.pair (.int .i64) (.pair (.int .i64) (.pair (.int .i64) (.pair (.int .i64) (.pair (.int .i64) .unit)))))), (.list (.int .i64))], [(2, .fn 13 [.addr 0, .ptr 100000 0]), (3, .fn 14 [.ptr 100000 0, .addr 1]), (13, .own 3), (14, .own 4), (16, .own 8), (43, .v 2)], [(100000, .box 47 [.fn 11 [.addr 3, .addr 4]]), (3, .box 68 [.v 5, .v 6]), (4, .arr 46 7), (8, .arr 3 8)]⟩, [11, 17, 18, 19, 20, 31, 34, 38, 41, 44, 45, 46, 47, 48, 49, 50, 51, 52, 53, 54, 55, 56, 57, 58, 59, 60, 61, 62, 63, 64, 65, 66, 67, 68, 69, 70, 71, 72, 73, 74, 75], [], [0, 1, 2, 5, 6, 7], 9, []⟩)], [(17, ⟨⟨[(.int .i64), (.list (.pair (.int .i64) (.pair (.int .i64) (.pair (.int .i64) (.pair (.int .i64) (.pair (.int .i64) .unit)))))), (.list (.int .i64)), (.list (.pair (.int .i64) (.pair (.int .i64) (.pair (.int .i64) (.pair (.int .i64) (.pair (.int .i64) .unit))))))], [(13, .own 3), (14, .own 10), (19, .v 0)], [(3, .box 68 [.v 1, .v 2]), (10, .arr 46 3)]⟩, [11, 51, 56, 57, 58, 59, 60, 61, 62, 63, 64, 65, 66, 67, 68, 69, 70], [4], [0, 1, 2, 5, 6, 7, 8, 9], 11, []⟩), (21, ⟨⟨[(.int .i64), (.int .i64), (.list (.list (.int .i64))), (.list (.int .i64))], [(12, .ptr 2 0)], [(2, .box 25 [.v 0, .v 1, .own 4, .own 5]), (4, .arr 23 2), (5, .arr 3 3)]⟩, [2, 3, 11, 13, 14, 15, 16, 17, 18, 19, 20, 23, 25, 26, 27, 28, 29, 30, 31, 32, 33, 34, 35, 36, 37, 38, 39, 40, 41, 42, 43, 44, 45, 46, 47, 48, 49, 50, 51, 52, 53, 54, 55, 56, 57, 58, 59, 60, 61, 62, 63, 64, 65, 66, 67, 68, 69, 70, 71, 72, 73, 74, 75, 76, 77, 78, 79, 80, 81, 82, 83, 84, 85, 86, 87, 88, 89], [3, 100000], [0, 1], 6, []⟩)], [], [(21, (.one 0 (.one 2 (.live [4, 6, 8] (.rd 3 [4, 5, 6, 7, 8] (.alt 0 1 (.alt 2 4 (.leaf [(1, 5), (2, 6), (0, 7), (2, 8)]) .stop) (.alt 2 4 (.leaf [(0, 1), (1, 5), (2, 6), (0, 7), (2, 8)]) .stop)))))))]⟩ Try.func12 rfl Try.ntmps12 (rs := [.cell 10 25, .tmp 11]) rfl (sig := det_Explore_1_sig) (out := det_Explore_1_out) rfl Try.call12 (fun X => by kernel_rfl)

def two_Det_sig : Shape := ⟨[(.pair (.int .i64) (.pair (.int .i64) (.pair (.list (.list (.pair (.int .i64) (.pair (.int .i64) .unit)))) (.pair (.list (.int .i64)) .unit))))], [(0, .v 0)], []⟩
def two_Det_out : Shape := ⟨[(.pair (.int .i64) (.pair (.int .i64) (.pair (.list (.list (.int .i64))) (.pair (.list (.int .i64)) .unit)))), (.int .i64)], [(0, .v 0), (1, .v 1)], []⟩
noncomputable def two_Det_ce : CE := ⟨5, two_Det_sig, two_Det_out, fun X => two_Det X⟩
theorem two_Det_ok : CE.ok Try.prog two_Det_ce := CE.of (Γ := [two_Check_ce, two_Det_1_ce, det_Explore_1_ce, det_Smallest_ce]) (by kernel_rfl) TT_ok (GOK.cons two_Check_ok (GOK.cons two_Det_1_ok (GOK.cons det_Explore_1_ok (GOK.cons det_Smallest_ok (GOK.nil))))) ⟨[(8, ⟨⟨[(.int .i64), (.int .i64), (.int .i64), (.int .i64), (.int .i64), (.int .i64)], [(7, .ptr 4 0), (22, .v 0)], [(4, .box 46 [.v 1, .v 2, .v 3, .v 4, .v 5])]⟩, [8, 17, 23, 24, 25, 26, 27, 28, 29, 30, 31, 32, 33, 34, 35, 36, 37, 38], [], [1, 3], 5, []⟩)], [(12, ⟨⟨[(.int .i64), (.int .i64), (.int .i64), (.int .i64), (.int .i64)], [(7, .ptr 4 0)], [(4, .box 46 [.v 0, .v 1, .v 2, .v 3, .v 4])]⟩, [8, 24, 25, 26, 27, 28, 29, 30, 31, 32, 33, 34, 35, 36, 37], [], [1, 3], 5, []⟩)], [], []⟩ Try.func5 rfl Try.ntmps5 (rs := [.cell 2 25, .tmp 3]) rfl (sig := two_Det_sig) (out := two_Det_out) rfl Try.call5 (fun X => by kernel_rfl)

def alter_Check_1_sig : Shape := ⟨[(.list (.list (.list (.int .i64)))), (.pair (.int .i64) (.pair (.int .i64) (.pair (.list (.list (.list (.list (.int .i64))))) (.pair (.list (.int .i64)) .unit))))], [(0, .v 0), (1, .addr 1)], []⟩
def alter_Check_1_out : Shape := ⟨[.bool], [(0, .v 0)], []⟩
noncomputable def alter_Check_1_ce : CE := ⟨39, alter_Check_1_sig, alter_Check_1_out, fun X => alter_Check_1 X.1 X.2⟩
theorem alter_Check_1_ok : CE.ok Try.prog alter_Check_1_ce := CE.of (Γ := []) (by kernel_rfl) TT_ok (GOK.nil) ⟨[], [], [], []⟩ Try.func39 rfl Try.ntmps39 (rs := [.tmp 3]) rfl (sig := alter_Check_1_sig) (out := alter_Check_1_out) rfl Try.call39 (fun X => by kernel_rfl)

def slices_IndexFunc_8_sig : Shape := ⟨[(.list (.list (.list (.list (.int .i64))))), (.pair (.int .i64) (.pair (.int .i64) (.pair (.list (.list (.list (.list (.int .i64))))) (.pair (.list (.int .i64)) .unit))))], [(0, .v 0), (1, .fn 39 [.addr 1])], []⟩
def slices_IndexFunc_8_out : Shape := ⟨[(.int .i64)], [(0, .v 0)], []⟩
noncomputable def slices_IndexFunc_8_ce : CE := ⟨51, slices_IndexFunc_8_sig, slices_IndexFunc_8_out, fun X => slices_IndexFunc_8 X.1 X.2⟩
theorem slices_IndexFunc_8_ok : CE.ok Try.prog slices_IndexFunc_8_ce := CE.of (Γ := [alter_Check_1_ce]) (by kernel_rfl) TT_ok (GOK.cons alter_Check_1_ok (GOK.nil)) ⟨[(2, ⟨⟨[(.int .i64)], [(8, .v 0)], []⟩, [4, 5, 9, 10, 11, 12, 13, 14, 15, 16, 17, 18], [], [], 0, []⟩)], [], [], []⟩ Try.func51 rfl Try.ntmps51 (rs := [.tmp 4]) rfl (sig := slices_IndexFunc_8_sig) (out := slices_IndexFunc_8_out) rfl Try.call51 (fun X => by kernel_rfl)

def slices_ContainsFunc_8_sig : Shape := ⟨[(.list (.list (.list (.list (.int .i64))))), (.pair (.int .i64) (.pair (.int .i64) (.pair (.list (.list (.list (.list (.int .i64))))) (.pair (.list (.int .i64)) .unit))))], [(0, .v 0), (1, .fn 39 [.addr 1])], []⟩
def slices_ContainsFunc_8_out : Shape := ⟨[.bool], [(0, .v 0)], []⟩
noncomputable def slices_ContainsFunc_8_ce : CE := ⟨38, slices_ContainsFunc_8_sig, slices_ContainsFunc_8_out, fun X => slices_ContainsFunc_8 X.1 X.2⟩
theorem slices_ContainsFunc_8_ok : CE.ok Try.prog slices_ContainsFunc_8_ce := CE.of (Γ := [slices_IndexFunc_8_ce]) (by kernel_rfl) TT_ok (GOK.cons slices_IndexFunc_8_ok (GOK.nil)) ⟨[], [], [], []⟩ Try.func38 rfl Try.ntmps38 (rs := [.tmp 4]) rfl (sig := slices_ContainsFunc_8_sig) (out := slices_ContainsFunc_8_out) rfl Try.call38 (fun X => by kernel_rfl)

def alter_Check_3_sig : Shape := ⟨[(.list (.int .i64))], [(0, .v 0)], []⟩
def alter_Check_3_out : Shape := ⟨[.bool], [(0, .v 0)], []⟩
noncomputable def alter_Check_3_ce : CE := ⟨41, alter_Check_3_sig, alter_Check_3_out, fun X => alter_Check_3 X⟩
theorem alter_Check_3_ok : CE.ok Try.prog alter_Check_3_ce := CE.of (Γ := []) (by kernel_rfl) TT_ok (GOK.nil) ⟨[], [], [], []⟩ Try.func41 rfl Try.ntmps41 (rs := [.tmp 2]) rfl (sig := alter_Check_3_sig) (out := alter_Check_3_out) rfl Try.call41 (fun X => by kernel_rfl)

def slices_IndexFunc_9_sig : Shape := ⟨[(.list (.list (.int .i64)))], [(0, .v 0), (1, .fn 41 [])], []⟩
def slices_IndexFunc_9_out : Shape := ⟨[(.int .i64)], [(0, .v 0)], []⟩
noncomputable def slices_IndexFunc_9_ce : CE := ⟨46, slices_IndexFunc_9_sig, slices_IndexFunc_9_out, fun X => slices_IndexFunc_9 X⟩
theorem slices_IndexFunc_9_ok : CE.ok Try.prog slices_IndexFunc_9_ce := CE.of (Γ := [alter_Check_3_ce]) (by kernel_rfl) TT_ok (GOK.cons alter_Check_3_ok (GOK.nil)) ⟨[(2, ⟨⟨[(.int .i64)], [(8, .v 0)], []⟩, [4, 5, 9, 10, 11, 12, 13, 14, 15, 16, 17, 18], [], [], 0, []⟩)], [], [], []⟩ Try.func46 rfl Try.ntmps46 (rs := [.tmp 4]) rfl (sig := slices_IndexFunc_9_sig) (out := slices_IndexFunc_9_out) rfl Try.call46 (fun X => by kernel_rfl)

def slices_ContainsFunc_9_sig : Shape := ⟨[(.list (.list (.int .i64)))], [(0, .v 0), (1, .fn 41 [])], []⟩
def slices_ContainsFunc_9_out : Shape := ⟨[.bool], [(0, .v 0)], []⟩
noncomputable def slices_ContainsFunc_9_ce : CE := ⟨22, slices_ContainsFunc_9_sig, slices_ContainsFunc_9_out, fun X => slices_ContainsFunc_9 X⟩
theorem slices_ContainsFunc_9_ok : CE.ok Try.prog slices_ContainsFunc_9_ce := CE.of (Γ := [slices_IndexFunc_9_ce]) (by kernel_rfl) TT_ok (GOK.cons slices_IndexFunc_9_ok (GOK.nil)) ⟨[], [], [], []⟩ Try.func22 rfl Try.ntmps22 (rs := [.tmp 4]) rfl (sig := slices_ContainsFunc_9_sig) (out := slices_ContainsFunc_9_out) rfl Try.call22 (fun X => by kernel_rfl)

def alter_Check_2_sig : Shape := ⟨[(.int .i64), (.int .i64)], [(0, .v 0), (1, .addr 1)], []⟩
def alter_Check_2_out : Shape := ⟨[.bool], [(0, .v 0)], []⟩
noncomputable def alter_Check_2_ce : CE := ⟨40, alter_Check_2_sig, alter_Check_2_out, fun X => alter_Check_2 X.1 X.2⟩
theorem alter_Check_2_ok : CE.ok Try.prog alter_Check_2_ce := CE.of (Γ := []) (by kernel_rfl) TT_ok (GOK.nil) ⟨[], [], [], []⟩ Try.func40 rfl Try.ntmps40 (rs := [.tmp 3]) rfl (sig := alter_Check_2_sig) (out := alter_Check_2_out) rfl Try.call40 (fun X => by kernel_rfl)

def slices_IndexFunc_11_sig : Shape := ⟨[(.list (.int .i64)), (.int .i64)], [(0, .v 0), (1, .fn 40 [.addr 1])], []⟩
def slices_IndexFunc_11_out : Shape := ⟨[(.int .i64)], [(0, .v 0)], []⟩
noncomputable def slices_IndexFunc_11_ce : CE := ⟨47, slices_IndexFunc_11_sig, slices_IndexFunc_11_out, fun X => slices_IndexFunc_11 X.1 X.2⟩
theorem slices_IndexFunc_11_ok : CE.ok Try.prog slices_IndexFunc_11_ce := CE.of (Γ := [alter_Check_2_ce]) (by kernel_rfl) TT_ok (GOK.cons alter_Check_2_ok (GOK.nil)) ⟨[(2, ⟨⟨[(.int .i64)], [(8, .v 0)], []⟩, [4, 5, 9, 10, 11, 12, 13, 14, 15, 16, 17, 18], [], [], 0, []⟩)], [], [], []⟩ Try.func47 rfl Try.ntmps47 (rs := [.tmp 4]) rfl (sig := slices_IndexFunc_11_sig) (out := slices_IndexFunc_11_out) rfl Try.call47 (fun X => by kernel_rfl)

def slices_ContainsFunc_11_sig : Shape := ⟨[(.list (.int .i64)), (.int .i64)], [(0, .v 0), (1, .fn 40 [.addr 1])], []⟩
def slices_ContainsFunc_11_out : Shape := ⟨[.bool], [(0, .v 0)], []⟩
noncomputable def slices_ContainsFunc_11_ce : CE := ⟨26, slices_ContainsFunc_11_sig, slices_ContainsFunc_11_out, fun X => slices_ContainsFunc_11 X.1 X.2⟩
theorem slices_ContainsFunc_11_ok : CE.ok Try.prog slices_ContainsFunc_11_ce := CE.of (Γ := [slices_IndexFunc_11_ce]) (by kernel_rfl) TT_ok (GOK.cons slices_IndexFunc_11_ok (GOK.nil)) ⟨[], [], [], []⟩ Try.func26 rfl Try.ntmps26 (rs := [.tmp 4]) rfl (sig := slices_ContainsFunc_11_sig) (out := slices_ContainsFunc_11_out) rfl Try.call26 (fun X => by kernel_rfl)

def alter_Check_4_sig : Shape := ⟨[(.list (.int .i64)), (.int .i64)], [(0, .v 0), (1, .ptr 100000 0)], [(100000, .box 61 [.fn 40 [.addr 1]])]⟩
def alter_Check_4_out : Shape := ⟨[.bool, (.int .i64)], [(0, .v 0)], [(100000, .box 61 [.fn 40 [.addr 1]])]⟩
noncomputable def alter_Check_4_ce : CE := ⟨42, alter_Check_4_sig, alter_Check_4_out, fun X => alter_Check_4 X.1 X.2⟩
theorem alter_Check_4_ok : CE.ok Try.prog alter_Check_4_ce := CE.of (Γ := [slices_ContainsFunc_11_ce]) (by kernel_rfl) TT_ok (GOK.cons slices_ContainsFunc_11_ok (GOK.nil)) ⟨[], [], [], []⟩ Try.func42 rfl Try.ntmps42 (rs := [.tmp 3]) rfl (sig := alter_Check_4_sig) (out := alter_Check_4_out) rfl Try.call42 (fun X => by kernel_rfl)

def slices_IndexFunc_10_sig : Shape := ⟨[(.list (.list (.int .i64))), (.int .i64)], [(0, .v 0), (1, .fn 42 [.ptr 100000 0])], [(100000, .box 61 [.fn 40 [.addr 1]])]⟩
def slices_IndexFunc_10_out : Shape := ⟨[(.int .i64), (.int .i64)], [(0, .v 0)], [(100000, .box 61 [.fn 40 [.addr 1]])]⟩
noncomputable def slices_IndexFunc_10_ce : CE := ⟨46, slices_IndexFunc_10_sig, slices_IndexFunc_10_out, fun X => slices_IndexFunc_10 X.1 X.2⟩
theorem slices_IndexFunc_10_ok : CE.ok Try.prog slices_IndexFunc_10_ce := CE.of (Γ := [alter_Check_4_ce]) (by kernel_rfl) TT_ok (GOK.cons alter_Check_4_ok (GOK.nil)) ⟨[(2, ⟨⟨[(.int .i64), (.int .i64)], [(1, .fn 42 [.ptr 100000 0]), (8, .v 0)], [(100000, .box 61 [.fn 40 [.addr 1]])]⟩, [4, 5, 9, 10, 11, 12, 13, 14, 15, 16, 17, 18], [], [], 0, []⟩)], [], [], []⟩ Try.func46 rfl Try.ntmps46 (rs := [.tmp 4]) rfl (sig := slices_IndexFunc_10_sig) (out := slices_IndexFunc_10_out) rfl Try.call46 (fun X => by kernel_rfl)

def slices_ContainsFunc_10_sig : Shape := ⟨[(.list (.list (.int .i64))), (.int .i64)], [(0, .v 0), (1, .fn 42 [.ptr 100000 0])], [(100000, .box 61 [.fn 40 [.addr 1]])]⟩
def slices_ContainsFunc_10_out : Shape := ⟨[.bool, (.int .i64)], [(0, .v 0)], [(100000, .box 61 [.fn 40 [.addr 1]])]⟩
noncomputable def slices_ContainsFunc_10_ce : CE := ⟨22, slices_ContainsFunc_10_sig, slices_ContainsFunc_10_out, fun X => slices_ContainsFunc_10 X.1 X.2⟩
theorem slices_ContainsFunc_10_ok : CE.ok Try.prog slices_ContainsFunc_10_ce := CE.of (Γ := [slices_IndexFunc_10_ce]) (by kernel_rfl) TT_ok (GOK.cons slices_IndexFunc_10_ok (GOK.nil)) ⟨[], [], [], []⟩ Try.func22 rfl Try.ntmps22 (rs := [.tmp 4]) rfl (sig := slices_ContainsFunc_10_sig) (out := slices_ContainsFunc_10_out) rfl Try.call22 (fun X => by kernel_rfl)

def alter_Check_5_sig : Shape := ⟨[(.int .i64)], [(0, .v 0)], []⟩
def alter_Check_5_out : Shape := ⟨[.bool], [(0, .v 0)], []⟩
noncomputable def alter_Check_5_ce : CE := ⟨43, alter_Check_5_sig, alter_Check_5_out, fun X => alter_Check_5 X⟩
theorem alter_Check_5_ok : CE.ok Try.prog alter_Check_5_ce := CE.of (Γ := []) (by kernel_rfl) TT_ok (GOK.nil) ⟨[], [], [], []⟩ Try.func43 rfl Try.ntmps43 (rs := [.tmp 2]) rfl (sig := alter_Check_5_sig) (out := alter_Check_5_out) rfl Try.call43 (fun X => by kernel_rfl)

def slices_IndexFunc_12_sig : Shape := ⟨[(.list (.int .i64))], [(0, .v 0), (1, .fn 43 [])], []⟩
def slices_IndexFunc_12_out : Shape := ⟨[(.int .i64)], [(0, .v 0)], []⟩
noncomputable def slices_IndexFunc_12_ce : CE := ⟨47, slices_IndexFunc_12_sig, slices_IndexFunc_12_out, fun X => slices_IndexFunc_12 X⟩
theorem slices_IndexFunc_12_ok : CE.ok Try.prog slices_IndexFunc_12_ce := CE.of (Γ := [alter_Check_5_ce]) (by kernel_rfl) TT_ok (GOK.cons alter_Check_5_ok (GOK.nil)) ⟨[(2, ⟨⟨[(.int .i64)], [(8, .v 0)], []⟩, [4, 5, 9, 10, 11, 12, 13, 14, 15, 16, 17, 18], [], [], 0, []⟩)], [], [], []⟩ Try.func47 rfl Try.ntmps47 (rs := [.tmp 4]) rfl (sig := slices_IndexFunc_12_sig) (out := slices_IndexFunc_12_out) rfl Try.call47 (fun X => by kernel_rfl)

def slices_ContainsFunc_12_sig : Shape := ⟨[(.list (.int .i64))], [(0, .v 0), (1, .fn 43 [])], []⟩
def slices_ContainsFunc_12_out : Shape := ⟨[.bool], [(0, .v 0)], []⟩
noncomputable def slices_ContainsFunc_12_ce : CE := ⟨26, slices_ContainsFunc_12_sig, slices_ContainsFunc_12_out, fun X => slices_ContainsFunc_12 X⟩
theorem slices_ContainsFunc_12_ok : CE.ok Try.prog slices_ContainsFunc_12_ce := CE.of (Γ := [slices_IndexFunc_12_ce]) (by kernel_rfl) TT_ok (GOK.cons slices_IndexFunc_12_ok (GOK.nil)) ⟨[], [], [], []⟩ Try.func26 rfl Try.ntmps26 (rs := [.tmp 4]) rfl (sig := slices_ContainsFunc_12_sig) (out := slices_ContainsFunc_12_out) rfl Try.call26 (fun X => by kernel_rfl)

def alter_Check_sig : Shape := ⟨[(.pair (.int .i64) (.pair (.int .i64) (.pair (.list (.list (.list (.list (.int .i64))))) (.pair (.list (.int .i64)) .unit))))], [(0, .v 0)], []⟩
def alter_Check_out : Shape := ⟨[(.int .i64)], [(0, .v 0)], []⟩
noncomputable def alter_Check_ce : CE := ⟨15, alter_Check_sig, alter_Check_out, fun X => alter_Check X⟩
theorem alter_Check_ok : CE.ok Try.prog alter_Check_ce := CE.of (Γ := [slices_ContainsFunc_8_ce, slices_ContainsFunc_9_ce, slices_ContainsFunc_10_ce, alter_Check_2_ce, slices_ContainsFunc_12_ce]) (by kernel_rfl) TT_ok (GOK.cons slices_ContainsFunc_8_ok (GOK.cons slices_ContainsFunc_9_ok (GOK.cons slices_ContainsFunc_10_ok (GOK.cons alter_Check_2_ok (GOK.cons slices_ContainsFunc_12_ok (GOK.nil)))))) ⟨[(11, ⟨⟨[.bool, (.int .i64), (.int .i64)], [(4, .v 0), (5, .ptr 2 0), (42, .v 1)], [(2, .box 61 [.fn 40 [.addr 2]])]⟩, [2, 7, 9, 43, 44, 45, 46, 47, 48, 49, 50, 51, 52, 53, 54, 55, 56, 57, 58, 59, 60, 61, 62, 63, 64, 65, 66], [], [0], 3, []⟩), (14, ⟨⟨[.bool, (.int .i64), (.int .i64)], [(4, .v 0), (5, .ptr 2 0), (48, .v 1)], [(2, .box 61 [.fn 40 [.addr 2]])]⟩, [2, 9, 49, 50, 51, 52, 53, 54, 55, 56, 57, 58, 59, 60, 61, 62, 63, 64, 65], [], [0], 3, []⟩)], [], [], []⟩ Try.func15 rfl Try.ntmps15 (rs := [.tmp 2]) rfl (sig := alter_Check_sig) (out := alter_Check_out) rfl Try.call15 (fun X => by kernel_rfl)

def alter_ends_sig : Shape := ⟨[(.pair (.int .i64) (.pair (.int .i64) (.pair (.list (.list (.list (.list (.int .i64))))) (.pair (.list (.int .i64)) .unit))))], [(0, .v 0)], []⟩
def alter_ends_out : Shape := ⟨[(.int .i64)], [(0, .v 0)], []⟩
noncomputable def alter_ends_ce : CE := ⟨16, alter_ends_sig, alter_ends_out, fun X => alter_ends X⟩
theorem alter_ends_ok : CE.ok Try.prog alter_ends_ce := CE.of (Γ := []) (by kernel_rfl) TT_ok (GOK.nil) ⟨[(3, ⟨⟨[(.int .i64), (.int .i64)], [(3, .v 0), (9, .v 1)], []⟩, [4, 5, 10, 11, 12, 13, 14, 15, 16, 17, 18, 19], [], [0], 1, []⟩)], [], [], []⟩ Try.func16 rfl Try.ntmps16 (rs := [.tmp 2]) rfl (sig := alter_ends_sig) (out := alter_ends_out) rfl Try.call16 (fun X => by kernel_rfl)

def alter_ahead_1_1_sig : Shape := ⟨[(.int .i64), (.int .i64)], [(0, .v 0), (1, .addr 1)], []⟩
def alter_ahead_1_1_out : Shape := ⟨[.bool], [(0, .v 0)], []⟩
noncomputable def alter_ahead_1_1_ce : CE := ⟨45, alter_ahead_1_1_sig, alter_ahead_1_1_out, fun X => alter_ahead_1_1 X.1 X.2⟩
theorem alter_ahead_1_1_ok : CE.ok Try.prog alter_ahead_1_1_ce := CE.of (Γ := []) (by kernel_rfl) TT_ok (GOK.nil) ⟨[], [], [], []⟩ Try.func45 rfl Try.ntmps45 (rs := [.tmp 3]) rfl (sig := alter_ahead_1_1_sig) (out := alter_ahead_1_1_out) rfl Try.call45 (fun X => by kernel_rfl)

def slices_IndexFunc_14_sig : Shape := ⟨[(.list (.int .i64)), (.int .i64)], [(0, .v 0), (1, .fn 45 [.addr 1])], []⟩
def slices_IndexFunc_14_out : Shape := ⟨[(.int .i64)], [(0, .v 0)], []⟩
noncomputable def slices_IndexFunc_14_ce : CE := ⟨47, slices_IndexFunc_14_sig, slices_IndexFunc_14_out, fun X => slices_IndexFunc_14 X.1 X.2⟩
theorem slices_IndexFunc_14_ok : CE.ok Try.prog slices_IndexFunc_14_ce := CE.of (Γ := [alter_ahead_1_1_ce]) (by kernel_rfl) TT_ok (GOK.cons alter_ahead_1_1_ok (GOK.nil)) ⟨[(2, ⟨⟨[(.int .i64)], [(8, .v 0)], []⟩, [4, 5, 9, 10, 11, 12, 13, 14, 15, 16, 17, 18], [], [], 0, []⟩)], [], [], []⟩ Try.func47 rfl Try.ntmps47 (rs := [.tmp 4]) rfl (sig := slices_IndexFunc_14_sig) (out := slices_IndexFunc_14_out) rfl Try.call47 (fun X => by kernel_rfl)

def slices_ContainsFunc_14_sig : Shape := ⟨[(.list (.int .i64)), (.int .i64)], [(0, .v 0), (1, .fn 45 [.addr 1])], []⟩
def slices_ContainsFunc_14_out : Shape := ⟨[.bool], [(0, .v 0)], []⟩
noncomputable def slices_ContainsFunc_14_ce : CE := ⟨26, slices_ContainsFunc_14_sig, slices_ContainsFunc_14_out, fun X => slices_ContainsFunc_14 X.1 X.2⟩
theorem slices_ContainsFunc_14_ok : CE.ok Try.prog slices_ContainsFunc_14_ce := CE.of (Γ := [slices_IndexFunc_14_ce]) (by kernel_rfl) TT_ok (GOK.cons slices_IndexFunc_14_ok (GOK.nil)) ⟨[], [], [], []⟩ Try.func26 rfl Try.ntmps26 (rs := [.tmp 4]) rfl (sig := slices_ContainsFunc_14_sig) (out := slices_ContainsFunc_14_out) rfl Try.call26 (fun X => by kernel_rfl)

def alter_ahead_1_sig : Shape := ⟨[(.list (.int .i64)), (.int .i64)], [(0, .v 0), (1, .addr 1)], []⟩
def alter_ahead_1_out : Shape := ⟨[.bool], [(0, .v 0)], []⟩
noncomputable def alter_ahead_1_ce : CE := ⟨44, alter_ahead_1_sig, alter_ahead_1_out, fun X => alter_ahead_1 X.1 X.2⟩
theorem alter_ahead_1_ok : CE.ok Try.prog alter_ahead_1_ce := CE.of (Γ := [slices_ContainsFunc_14_ce]) (by kernel_rfl) TT_ok (GOK.cons slices_ContainsFunc_14_ok (GOK.nil)) ⟨[], [], [], []⟩ Try.func44 rfl Try.ntmps44 (rs := [.tmp 3]) rfl (sig := alter_ahead_1_sig) (out := alter_ahead_1_out) rfl Try.call44 (fun X => by kernel_rfl)

def slices_IndexFunc_13_sig : Shape := ⟨[(.list (.list (.int .i64))), (.int .i64)], [(0, .v 0), (1, .fn 44 [.addr 1])], []⟩
def slices_IndexFunc_13_out : Shape := ⟨[(.int .i64)], [(0, .v 0)], []⟩
noncomputable def slices_IndexFunc_13_ce : CE := ⟨46, slices_IndexFunc_13_sig, slices_IndexFunc_13_out, fun X => slices_IndexFunc_13 X.1 X.2⟩
theorem slices_IndexFunc_13_ok : CE.ok Try.prog slices_IndexFunc_13_ce := CE.of (Γ := [alter_ahead_1_ce]) (by kernel_rfl) TT_ok (GOK.cons alter_ahead_1_ok (GOK.nil)) ⟨[(2, ⟨⟨[(.int .i64)], [(8, .v 0)], []⟩, [4, 5, 9, 10, 11, 12, 13, 14, 15, 16, 17, 18], [], [], 0, []⟩)], [], [], []⟩ Try.func46 rfl Try.ntmps46 (rs := [.tmp 4]) rfl (sig := slices_IndexFunc_13_sig) (out := slices_IndexFunc_13_out) rfl Try.call46 (fun X => by kernel_rfl)

def slices_ContainsFunc_13_sig : Shape := ⟨[(.list (.list (.int .i64))), (.int .i64)], [(0, .v 0), (1, .fn 44 [.addr 1])], []⟩
def slices_ContainsFunc_13_out : Shape := ⟨[.bool], [(0, .v 0)], []⟩
noncomputable def slices_ContainsFunc_13_ce : CE := ⟨22, slices_ContainsFunc_13_sig, slices_ContainsFunc_13_out, fun X => slices_ContainsFunc_13 X.1 X.2⟩
theorem slices_ContainsFunc_13_ok : CE.ok Try.prog slices_ContainsFunc_13_ce := CE.of (Γ := [slices_IndexFunc_13_ce]) (by kernel_rfl) TT_ok (GOK.cons slices_IndexFunc_13_ok (GOK.nil)) ⟨[], [], [], []⟩ Try.func22 rfl Try.ntmps22 (rs := [.tmp 4]) rfl (sig := slices_ContainsFunc_13_sig) (out := slices_ContainsFunc_13_out) rfl Try.call22 (fun X => by kernel_rfl)

def alter_ahead_sig : Shape := ⟨[(.pair (.int .i64) (.pair (.int .i64) (.pair (.list (.list (.list (.list (.int .i64))))) (.pair (.list (.int .i64)) .unit)))), (.int .i64), (.int .i64)], [(0, .v 0), (1, .v 1), (2, .v 2)], []⟩
def alter_ahead_out : Shape := ⟨[(.int .i64)], [(0, .v 0)], []⟩
noncomputable def alter_ahead_ce : CE := ⟨19, alter_ahead_sig, alter_ahead_out, fun X => alter_ahead X.1 X.2.1 X.2.2⟩
theorem alter_ahead_ok : CE.ok Try.prog alter_ahead_ce := CE.of (Γ := [slices_ContainsFunc_13_ce]) (by kernel_rfl) TT_ok (GOK.cons slices_ContainsFunc_13_ok (GOK.nil)) ⟨[(3, ⟨⟨[(.int .i64), (.int .i64)], [(7, .v 0), (13, .v 1)], []⟩, [8, 9, 14, 15, 16, 17, 18, 19, 20, 21, 22, 23, 24, 25, 26, 27, 28], [], [0, 1], 2, []⟩)], [], [], []⟩ Try.func19 rfl Try.ntmps19 (rs := [.tmp 6]) rfl (sig := alter_ahead_sig) (out := alter_ahead_out) rfl Try.call19 (fun X => by kernel_rfl)

def alter_Det_1_sig : Shape := ⟨[(.int .i64), (.int .i64), (.pair (.int .i64) (.pair (.int .i64) (.pair (.list (.list (.list (.list (.int .i64))))) (.pair (.list (.int .i64)) .unit))))], [(0, .v 0), (1, .v 1), (2, .addr 2)], []⟩
def alter_Det_1_out : Shape := ⟨[(.int .i64)], [(0, .v 0)], []⟩
noncomputable def alter_Det_1_ce : CE := ⟨18, alter_Det_1_sig, alter_Det_1_out, fun X => alter_Det_1 X.1 X.2.1 X.2.2⟩
theorem alter_Det_1_ok : CE.ok Try.prog alter_Det_1_ce := CE.of (Γ := [alter_ahead_ce]) (by kernel_rfl) TT_ok (GOK.cons alter_ahead_ok (GOK.nil)) ⟨[(3, ⟨⟨[(.int .i64), (.int .i64)], [(6, .v 0), (8, .v 1)], []⟩, [7, 9, 10, 11, 12, 13, 14, 15, 16, 17, 18, 19, 20, 21, 22, 23], [], [], 0, []⟩)], [], [], []⟩ Try.func18 rfl Try.ntmps18 (rs := [.tmp 5]) rfl (sig := alter_Det_1_sig) (out := alter_Det_1_out) rfl Try.call18 (fun X => by kernel_rfl)

def alter_Det_2_sig : Shape := ⟨[(.int .i64), (.int .i64)], [(0, .v 0), (1, .addr 1)], []⟩
def alter_Det_2_out : Shape := ⟨[(.int .i64)], [(0, .v 0)], []⟩
noncomputable def alter_Det_2_ce : CE := ⟨20, alter_Det_2_sig, alter_Det_2_out, fun X => alter_Det_2 X.1 X.2⟩
theorem alter_Det_2_ok : CE.ok Try.prog alter_Det_2_ce := CE.of (Γ := []) (by kernel_rfl) TT_ok (GOK.nil) ⟨[], [], [], []⟩ Try.func20 rfl Try.ntmps20 (rs := [.tmp 3]) rfl (sig := alter_Det_2_sig) (out := alter_Det_2_out) rfl Try.call20 (fun X => by kernel_rfl)

def det_Explore_2_sig : Shape := ⟨[(.int .i64), (.int .i64), (.pair (.int .i64) (.pair (.int .i64) (.pair (.list (.list (.list (.list (.int .i64))))) (.pair (.list (.int .i64)) .unit)))), (.int .i64), (.int .i64)], [(0, .v 0), (1, .v 1), (2, .fn 18 [.addr 2]), (3, .fn 20 [.addr 3]), (4, .v 4)], []⟩
def det_Explore_2_out : Shape := ⟨[(.pair (.int .i64) (.pair (.int .i64) (.pair (.list (.list (.int .i64))) (.pair (.list (.int .i64)) .unit)))), .bool], [(0, .v 0), (1, .v 1)], []⟩
noncomputable def det_Explore_2_ce : CE := ⟨17, det_Explore_2_sig, det_Explore_2_out, fun X => det_Explore_2 X.1 X.2.1 X.2.2.1 X.2.2.2.1 X.2.2.2.2⟩
theorem det_Explore_2_ok : CE.ok Try.prog det_Explore_2_ce := CE.of (Γ := [alter_Det_1_ce, alter_Det_2_ce]) (by kernel_rfl) TT_ok (GOK.cons alter_Det_1_ok (GOK.cons alter_Det_2_ok (GOK.nil))) ⟨[(4, ⟨⟨[(.int .i64), (.int .i64), (.list (.int .i64)), (.list (.int .i64)), (.list (.int .i64)), (.list (.list (.int .i64))), (.list (.int .i64))], [(12, .ptr 1 0), (13, .own 2), (14, .own 3)], [(1, .box 25 [.v 0, .v 1, .own 4, .own 5]), (2, .box 73 [.v 2, .v 3]), (3, .arr 3 4), (4, .arr 23 5), (5, .arr 3 6)]⟩, [11, 15, 16, 17, 18, 19, 20, 23, 25, 27, 28, 29, 30, 31, 32, 33, 34, 35, 36, 37, 38, 39, 40, 41, 42, 43, 44, 45, 46, 47, 48, 49, 50, 51, 52, 53, 54, 55, 56, 57, 58, 59, 60, 61, 62, 63, 64, 65, 66, 67, 68, 69, 70, 71, 72, 73, 74, 75, 76, 77, 78, 79, 80, 81, 82, 83, 84, 85, 86, 87, 88, 89], [], [0], 6, [(1, 2, some 23, (.list (.int .i64))), (1, 3, some 3, (.int .i64))]⟩), (8, ⟨⟨[(.int .i64), (.list (.int .i64)), (.list (.int .i64)), (.list (.int .i64)), (.list (.int .i64))], [(13, .own 2), (14, .own 3), (16, .own 6), (43, .v 0)], [(2, .box 73 [.v 1, .v 2]), (3, .arr 3 3), (6, .arr 3 4)]⟩, [11, 17, 18, 19, 20, 31, 34, 38, 41, 44, 45, 46, 47, 48, 49, 50, 51, 52, 53, 54, 55, 56, 57, 58, 59, 60, 61, 62, 63, 64, 65, 66, 67, 68, 69, 70, 71, 72, 73, 74, 75], [], [0, 1, 4, 5], 7, []⟩)], [(17, ⟨⟨[(.int .i64), (.list (.int .i64)), (.list (.int .i64)), (.list (.int .i64))], [(13, .own 2), (14, .own 7), (19, .v 0)], [(2, .box 73 [.v 1, .v 2]), (7, .arr 3 3)]⟩, [11, 51, 56, 57, 58, 59, 60, 61, 62, 63, 64, 65, 66, 67, 68, 69, 70], [3], [0, 1, 4, 5, 6], 8, []⟩)], [(21, [(0, 0), (0, 1), (0, 2), (0, 3), (1, 4), (1, 5), (2, 6), (0, 7), (2, 8)])], []⟩ Try.func17 rfl Try.ntmps17 (rs := [.cell 10 25, .tmp 11]) rfl (sig := det_Explore_2_sig) (out := det_Explore_2_out) rfl Try.call17 (fun X => by kernel_rfl)

def alter_Det_sig : Shape := ⟨[(.pair (.int .i64) (.pair (.int .i64) (.pair (.list (.list (.list (.list (.int .i64))))) (.pair (.list (.int .i64)) .unit))))], [(0, .v 0)], []⟩
def alter_Det_out : Shape := ⟨[(.pair (.int .i64) (.pair (.int .i64) (.pair (.list (.list (.int .i64))) (.pair (.list (.int .i64)) .unit)))), (.int .i64)], [(0, .v 0), (1, .v 1)], []⟩
noncomputable def alter_Det_ce : CE := ⟨6, alter_Det_sig, alter_Det_out, fun X => alter_Det X⟩
theorem alter_Det_ok : CE.ok Try.prog alter_Det_ce := CE.of (Γ := [alter_Check_ce, alter_ends_ce, det_Explore_2_ce, det_Smallest_ce]) (by kernel_rfl) TT_ok (GOK.cons alter_Check_ok (GOK.cons alter_ends_ok (GOK.cons det_Explore_2_ok (GOK.cons det_Smallest_ok (GOK.nil))))) ⟨[(6, ⟨⟨[(.int .i64), (.int .i64)], [(5, .v 0), (16, .v 1)], []⟩, [6, 17, 18, 19, 20, 21, 22, 23, 24, 25, 26, 27, 28, 29], [], [0, 1], 2, []⟩)], [], [], []⟩ Try.func6 rfl Try.ntmps6 (rs := [.cell 2 25, .tmp 3]) rfl (sig := alter_Det_sig) (out := alter_Det_out) rfl Try.call6 (fun X => by kernel_rfl)

def top_sameWords_sig : Shape := ⟨[(.list (.int .i64)), (.list (.int .i64))], [(0, .v 0), (1, .v 1)], []⟩
def top_sameWords_out : Shape := ⟨[.bool], [(0, .v 0)], []⟩
noncomputable def top_sameWords_ce : CE := ⟨21, top_sameWords_sig, top_sameWords_out, fun X => top_sameWords X.1 X.2⟩
theorem top_sameWords_ok : CE.ok Try.prog top_sameWords_ce := CE.of (Γ := []) (by kernel_rfl) TT_ok (GOK.nil) ⟨[(4, ⟨⟨[(.int .i64)], [(5, .v 0)], []⟩, [4, 11, 12, 13, 14, 15, 16, 17, 18, 19, 20, 21, 22, 23, 24, 25], [], [], 0, []⟩)], [], [(6, [(0, 0), (0, 1), (0, 2), (0, 3), (0, 4), (0, 5), (0, 6), (0, 7), (0, 8)])], []⟩ Try.func21 rfl Try.ntmps21 (rs := [.tmp 4]) rfl (sig := top_sameWords_sig) (out := top_sameWords_out) rfl Try.call21 (fun X => by kernel_rfl)

def top_alike_sig : Shape := ⟨[(.pair (.int .i64) (.pair (.int .i64) (.pair (.list (.list (.int .i64))) (.pair (.list (.int .i64)) .unit)))), (.pair (.int .i64) (.pair (.int .i64) (.pair (.list (.list (.int .i64))) (.pair (.list (.int .i64)) .unit))))], [(0, .v 0), (1, .v 1)], []⟩
def top_alike_out : Shape := ⟨[.bool], [(0, .v 0)], []⟩
noncomputable def top_alike_ce : CE := ⟨7, top_alike_sig, top_alike_out, fun X => top_alike X.1 X.2⟩
theorem top_alike_ok : CE.ok Try.prog top_alike_ce := CE.of (Γ := [top_sameWords_ce]) (by kernel_rfl) TT_ok (GOK.cons top_sameWords_ok (GOK.nil)) ⟨[(5, ⟨⟨[.bool, (.int .i64)], [(5, .v 0), (6, .v 1)], []⟩, [33, 34, 35, 36, 37, 38, 39, 40, 41, 42, 43, 44, 45, 46, 47, 48, 49, 50, 51, 52, 53], [], [0, 1], 2, []⟩)], [], [(7, [(0, 0), (0, 1), (0, 2), (0, 3), (0, 4), (0, 5), (0, 6), (0, 7), (0, 8), (0, 9), (1, 10), (0, 11)])], []⟩ Try.func7 rfl Try.ntmps7 (rs := [.tmp 4]) rfl (sig := top_alike_sig) (out := top_alike_out) rfl Try.call7 (fun X => by kernel_rfl)

def top_TopWays_sig : Shape := ⟨[(.pair (.int .i64) (.pair (.int .i64) (.pair (.list (.list (.int .i64))) (.pair (.list (.int .i64)) .unit))))], [(0, .v 0)], []⟩
def top_TopWays_out : Shape := ⟨[.bool], [(0, .v 0)], []⟩
noncomputable def top_TopWays_ce : CE := ⟨3, top_TopWays_sig, top_TopWays_out, fun X => top_TopWays X⟩
theorem top_TopWays_ok : CE.ok Try.prog top_TopWays_ce := CE.of (Γ := [det_Least_ce, two_Det_ce, alter_Det_ce, top_alike_ce]) (by kernel_rfl) TT_ok (GOK.cons det_Least_ok (GOK.cons two_Det_ok (GOK.cons alter_Det_ok (GOK.cons top_alike_ok (GOK.nil))))) ⟨[(10, ⟨⟨[(.int .i64), (.int .i64), (.int .i64), (.list (.int .i64)), (.int .i64), (.int .i64), (.list (.int .i64)), (.list (.list (.pair (.int .i64) (.pair (.int .i64) .unit)))), (.list (.list (.list (.list (.int .i64)))))], [(5, .ptr 6 0), (6, .ptr 7 0), (7, .v 0)], [(6, .box 31 [.v 1, .v 2, .own 8, .v 3]), (7, .box 34 [.v 4, .v 5, .own 9, .v 6]), (8, .arr 35 7), (9, .arr 36 8)]⟩, [8, 9, 10, 60, 61, 62, 63, 64, 65, 66, 67, 68, 69, 70, 71, 72, 73, 74, 75, 76, 77, 78, 79, 80, 81, 82, 83, 84, 85, 86, 87, 88, 89, 90, 91, 92, 93, 94, 95, 96, 97, 98, 99, 100, 101, 102, 103, 104, 105, 106, 107, 108, 109, 110, 111, 112, 113, 114, 115, 116], [], [0, 5], 10, [(6, 2, some 35, (.list (.pair (.int .i64) (.pair (.int .i64) .unit)))), (7, 2, some 36, (.list (.list (.list (.int .i64)))))]⟩), (15, ⟨⟨[(.int .i64), (.list (.pair (.int .i64) (.pair (.int .i64) .unit))), (.list (.list (.list (.int .i64))))], [(8, .own 10), (9, .own 11), (10, .v 0)], [(10, .arr 37 1), (11, .arr 22 2)]⟩, [67, 68, 69, 70, 71, 72, 73, 74, 75, 76, 77, 78, 79, 80, 81, 82, 83, 84, 85, 86, 87, 88, 89, 90, 91, 92, 93, 94, 95, 96, 97], [], [0, 5, 6, 7, 8, 9], 12, []⟩)], [], [], []⟩ Try.func3 rfl Try.ntmps3 (rs := [.tmp 2]) rfl (sig := top_TopWays_sig) (out := top_TopWays_out) rfl Try.call3 (fun X => by kernel_rfl)

end Go.Proofs.Ytjpbiinfjhggeaa.topWaysW
