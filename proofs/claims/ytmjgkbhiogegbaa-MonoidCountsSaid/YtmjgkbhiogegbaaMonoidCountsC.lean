/- That the functions of 'MonoidCounts' compute so. -/
import Derived.Test.YtmjgkbhiogegbaaMonoidCountsD
import Derived.Test.YtmjgkbhiogegbaaProg
import Derived.KernelRfl
set_option maxHeartbeats 1000000
set_option maxRecDepth 20000
set_option linter.unusedSimpArgs false
set_option linter.unusedVariables false
namespace Go.Proofs.Ytmjgkbhiogegbaa.monoidCountsW
open Go Go.Ab
theorem te3_sz : SzT Try.prog 3 ((.int .i64)) := SzT.ofTI (dsc := false) (size := 1) (bytes := 8) (z := .int .i64 0) (TI.of Try.underlying3 rfl (by kernel_rfl)) rfl rfl
theorem te9_sz : SzT Try.prog 9 (.str) := SzT.ofTI (dsc := false) (size := 1) (bytes := 16) (z := .string ⟨⟨[]⟩⟩) (TI.of Try.underlying9 rfl (by kernel_rfl)) rfl rfl
theorem te66_sz : SzT Try.prog 66 ((.pair (.int .i64) (.pair .str .unit))) := SzT.ofTI (dsc := true) (size := 2) (bytes := 24) (z := .agg ⟨[.int .i64 0, .string ⟨⟨[]⟩⟩]⟩) (TI.of Try.underlying66 rfl (by kernel_rfl)) rfl rfl
def te3 : TE := ⟨3, .int .i64, false, 1, 8, .int .i64 0, some (.int .i64)⟩
theorem te3_ok : TEok Try.prog te3 := ⟨TI.of Try.underlying3 rfl (by kernel_rfl), Try.underlying3, fun t h => by cases h; exact ⟨rfl, rfl, by decide, rfl⟩⟩
def te4 : TE := ⟨4, .bool, false, 1, 1, .bool false, some .bool⟩
theorem te4_ok : TEok Try.prog te4 := ⟨TI.of Try.underlying4 rfl (by kernel_rfl), Try.underlying4, fun t h => by cases h; exact ⟨rfl, rfl, by decide, rfl⟩⟩
def te5 : TE := ⟨5, .int .u8, false, 1, 1, .int .u8 0, some (.int .u8)⟩
theorem te5_ok : TEok Try.prog te5 := ⟨TI.of Try.underlying5 rfl (by kernel_rfl), Try.underlying5, fun t h => by cases h; exact ⟨rfl, rfl, by decide, rfl⟩⟩
def te9 : TE := ⟨9, .str, false, 1, 16, .string ⟨⟨[]⟩⟩, some .str⟩
theorem te9_ok : TEok Try.prog te9 := ⟨TI.of Try.underlying9 rfl (by kernel_rfl), Try.underlying9, fun t h => by cases h; exact ⟨rfl, rfl, by decide, rfl⟩⟩
def te22 : TE := ⟨22, .slice 23, false, 1, 24, .slice none 0 0, some (.list (.list (.int .i64)))⟩
theorem te22_ok : TEok Try.prog te22 := ⟨TI.of Try.underlying22 rfl (by kernel_rfl), Try.underlying22, fun t h => by cases h; exact ⟨rfl, rfl, by decide, rfl⟩⟩
def te23 : TE := ⟨23, .slice 3, false, 1, 24, .slice none 0 0, some (.list (.int .i64))⟩
theorem te23_ok : TEok Try.prog te23 := ⟨TI.of Try.underlying23 rfl (by kernel_rfl), Try.underlying23, fun t h => by cases h; exact ⟨rfl, rfl, by decide, rfl⟩⟩
def te25 : TE := ⟨25, .struct [(0, 3), (1, 3), (2, 22), (3, 23)] none, true, 4, 64, .agg ⟨[.int .i64 0, .int .i64 0, .slice none 0 0, .slice none 0 0]⟩, some (.pair (.int .i64) (.pair (.int .i64) (.pair (.list (.list (.int .i64))) (.pair (.list (.int .i64)) .unit))))⟩
theorem te25_ok : TEok Try.prog te25 := ⟨TI.of Try.underlying25 rfl (by kernel_rfl), ⟨⟨_, Try.underlying25, rfl⟩, fun t h => by cases h⟩, fun t h => by cases h; exact ⟨rfl, rfl, by decide, rfl⟩⟩
def te26 : TE := ⟨26, .int .i64, false, 1, 8, .int .i64 0, some (.int .i64)⟩
theorem te26_ok : TEok Try.prog te26 := ⟨TI.of Try.underlying26 rfl (by kernel_rfl), Try.underlying26, fun t h => by cases h; exact ⟨rfl, rfl, by decide, rfl⟩⟩
def te35 : TE := ⟨35, .slice 38, false, 1, 24, .slice none 0 0, some (.list (.pair (.list (.int .i64)) (.pair (.list (.int .i64)) .unit)))⟩
theorem te35_ok : TEok Try.prog te35 := ⟨TI.of Try.underlying35 rfl (by kernel_rfl), Try.underlying35, fun t h => by cases h; exact ⟨rfl, rfl, by decide, rfl⟩⟩
def te38 : TE := ⟨38, .struct [(0, 23), (1, 23)] none, true, 2, 48, .agg ⟨[.slice none 0 0, .slice none 0 0]⟩, some (.pair (.list (.int .i64)) (.pair (.list (.int .i64)) .unit))⟩
theorem te38_ok : TEok Try.prog te38 := ⟨TI.of Try.underlying38 rfl (by kernel_rfl), ⟨⟨_, Try.underlying38, rfl⟩, fun t h => by cases h⟩, fun t h => by cases h; exact ⟨rfl, rfl, by decide, rfl⟩⟩
def te41 : TE := ⟨41, .slice 45, false, 1, 24, .slice none 0 0, some (.list (.pair (.list (.int .i64)) (.pair (.list (.int .i64)) .unit)))⟩
theorem te41_ok : TEok Try.prog te41 := ⟨TI.of Try.underlying41 rfl (by kernel_rfl), Try.underlying41, fun t h => by cases h; exact ⟨rfl, rfl, by decide, rfl⟩⟩
def te45 : TE := ⟨45, .struct [(0, 23), (1, 23)] none, true, 2, 48, .agg ⟨[.slice none 0 0, .slice none 0 0]⟩, some (.pair (.list (.int .i64)) (.pair (.list (.int .i64)) .unit))⟩
theorem te45_ok : TEok Try.prog te45 := ⟨TI.of Try.underlying45 rfl (by kernel_rfl), ⟨⟨_, Try.underlying45, rfl⟩, fun t h => by cases h⟩, fun t h => by cases h; exact ⟨rfl, rfl, by decide, rfl⟩⟩
def te51 : TE := ⟨51, .slice 5, false, 1, 24, .slice none 0 0, some (.list (.int .u8))⟩
theorem te51_ok : TEok Try.prog te51 := ⟨TI.of Try.underlying51 rfl (by kernel_rfl), Try.underlying51, fun t h => by cases h; exact ⟨rfl, rfl, by decide, rfl⟩⟩
def te56 : TE := ⟨56, .other, false, 1, 8, .nilFunc, none⟩
theorem te56_ok : TEok Try.prog te56 := ⟨TI.of Try.underlying56 rfl (by kernel_rfl), trivial, fun t h => by cases h⟩
def te66 : TE := ⟨66, .struct [(0, 3), (1, 9)] none, true, 2, 24, .agg ⟨[.int .i64 0, .string ⟨⟨[]⟩⟩]⟩, some (.pair (.int .i64) (.pair .str .unit))⟩
theorem te66_ok : TEok Try.prog te66 := ⟨TI.of Try.underlying66 rfl (by kernel_rfl), ⟨⟨_, Try.underlying66, rfl⟩, fun t h => by cases h⟩, fun t h => by cases h; exact ⟨rfl, rfl, by decide, rfl⟩⟩
def te47 : TE := ⟨47, .map 9 3 (.str), false, 1, 8, .map none, none⟩
theorem te47_ok : TEok Try.prog te47 := ⟨TI.of Try.underlying47 rfl (by kernel_rfl), ⟨Try.underlying47, SK.str' Try.underlying9⟩, fun t h => by cases h⟩
def te64 : TE := ⟨64, .map 66 3 ((.pair (.int .i64) (.pair .str .unit))), false, 1, 8, .map none, none⟩
theorem te64_ok : TEok Try.prog te64 := ⟨TI.of Try.underlying64 rfl (by kernel_rfl), ⟨Try.underlying64, SK.ofKey (d := 16) (KeyT.struct te66_sz Try.underlying66 (by kernel_rfl) (KFs.cons (by decide) rfl (KeyT.int te3_sz Try.underlying3) (KFs.cons (by decide) rfl (KeyT.str te9_sz Try.underlying9) KFs.nil))) (by decide) rfl rfl⟩, fun t h => by cases h⟩
def te68 : TE := ⟨68, .map 3 3 ((.int .i64)), false, 1, 8, .map none, none⟩
theorem te68_ok : TEok Try.prog te68 := ⟨TI.of Try.underlying68 rfl (by kernel_rfl), ⟨Try.underlying68, SK.int' Try.underlying3⟩, fun t h => by cases h⟩
def TT : List TE := [te3, te4, te5, te9, te22, te23, te25, te26, te35, te38, te41, te45, te51, te56, te66, te47, te64, te68]
theorem TT_ok : TOK Try.prog TT := TOK.cons te3_ok (TOK.cons te4_ok (TOK.cons te5_ok (TOK.cons te9_ok (TOK.cons te22_ok (TOK.cons te23_ok (TOK.cons te25_ok (TOK.cons te26_ok (TOK.cons te35_ok (TOK.cons te38_ok (TOK.cons te41_ok (TOK.cons te45_ok (TOK.cons te51_ok (TOK.cons te56_ok (TOK.cons te66_ok (TOK.cons te47_ok (TOK.cons te64_ok (TOK.cons te68_ok (TOK.nil))))))))))))))))))

def det_Check_1_sig : Shape := ⟨[(.list (.int .i64)), (.pair (.int .i64) (.pair (.int .i64) (.pair (.list (.list (.int .i64))) (.pair (.list (.int .i64)) .unit))))], [(0, .v 0), (1, .addr 1)], []⟩
def det_Check_1_out : Shape := ⟨[.bool], [(0, .v 0)], []⟩
noncomputable def det_Check_1_ce : CE := ⟨23, det_Check_1_sig, det_Check_1_out, fun X => det_Check_1 X.1 X.2⟩
theorem det_Check_1_ok : CE.ok Try.prog det_Check_1_ce := CE.of (Γ := []) (by kernel_rfl) TT_ok (GOK.nil) ⟨[], [], [], []⟩ Try.func23 rfl Try.ntmps23 (rs := [.tmp 3]) rfl (sig := det_Check_1_sig) (out := det_Check_1_out) rfl Try.call23 (fun X => by kernel_rfl)

def slices_IndexFunc_sig : Shape := ⟨[(.list (.list (.int .i64))), (.pair (.int .i64) (.pair (.int .i64) (.pair (.list (.list (.int .i64))) (.pair (.list (.int .i64)) .unit))))], [(0, .v 0), (1, .fn 23 [.addr 1])], []⟩
def slices_IndexFunc_out : Shape := ⟨[(.int .i64)], [(0, .v 0)], []⟩
noncomputable def slices_IndexFunc_ce : CE := ⟨32, slices_IndexFunc_sig, slices_IndexFunc_out, fun X => slices_IndexFunc X.1 X.2⟩
theorem slices_IndexFunc_ok : CE.ok Try.prog slices_IndexFunc_ce := CE.of (Γ := [det_Check_1_ce]) (by kernel_rfl) TT_ok (GOK.cons det_Check_1_ok (GOK.nil)) ⟨[(2, ⟨⟨[(.int .i64)], [(8, .v 0)], []⟩, [4, 5, 9, 10, 11, 12, 13, 14, 15, 16, 17, 18], [], [], 0, []⟩)], [], [], []⟩ Try.func32 rfl Try.ntmps32 (rs := [.tmp 4]) rfl (sig := slices_IndexFunc_sig) (out := slices_IndexFunc_out) rfl Try.call32 (fun X => by kernel_rfl)

def slices_ContainsFunc_sig : Shape := ⟨[(.list (.list (.int .i64))), (.pair (.int .i64) (.pair (.int .i64) (.pair (.list (.list (.int .i64))) (.pair (.list (.int .i64)) .unit))))], [(0, .v 0), (1, .fn 23 [.addr 1])], []⟩
def slices_ContainsFunc_out : Shape := ⟨[.bool], [(0, .v 0)], []⟩
noncomputable def slices_ContainsFunc_ce : CE := ⟨22, slices_ContainsFunc_sig, slices_ContainsFunc_out, fun X => slices_ContainsFunc X.1 X.2⟩
theorem slices_ContainsFunc_ok : CE.ok Try.prog slices_ContainsFunc_ce := CE.of (Γ := [slices_IndexFunc_ce]) (by kernel_rfl) TT_ok (GOK.cons slices_IndexFunc_ok (GOK.nil)) ⟨[], [], [], []⟩ Try.func22 rfl Try.ntmps22 (rs := [.tmp 4]) rfl (sig := slices_ContainsFunc_sig) (out := slices_ContainsFunc_out) rfl Try.call22 (fun X => by kernel_rfl)

def det_Check_2_sig : Shape := ⟨[(.int .i64), (.int .i64)], [(0, .v 0), (1, .addr 1)], []⟩
def det_Check_2_out : Shape := ⟨[.bool], [(0, .v 0)], []⟩
noncomputable def det_Check_2_ce : CE := ⟨24, det_Check_2_sig, det_Check_2_out, fun X => det_Check_2 X.1 X.2⟩
theorem det_Check_2_ok : CE.ok Try.prog det_Check_2_ce := CE.of (Γ := []) (by kernel_rfl) TT_ok (GOK.nil) ⟨[], [], [], []⟩ Try.func24 rfl Try.ntmps24 (rs := [.tmp 3]) rfl (sig := det_Check_2_sig) (out := det_Check_2_out) rfl Try.call24 (fun X => by kernel_rfl)

def slices_IndexFunc_2_sig : Shape := ⟨[(.list (.int .i64)), (.int .i64)], [(0, .v 0), (1, .fn 24 [.addr 1])], []⟩
def slices_IndexFunc_2_out : Shape := ⟨[(.int .i64)], [(0, .v 0)], []⟩
noncomputable def slices_IndexFunc_2_ce : CE := ⟨33, slices_IndexFunc_2_sig, slices_IndexFunc_2_out, fun X => slices_IndexFunc_2 X.1 X.2⟩
theorem slices_IndexFunc_2_ok : CE.ok Try.prog slices_IndexFunc_2_ce := CE.of (Γ := [det_Check_2_ce]) (by kernel_rfl) TT_ok (GOK.cons det_Check_2_ok (GOK.nil)) ⟨[(2, ⟨⟨[(.int .i64)], [(8, .v 0)], []⟩, [4, 5, 9, 10, 11, 12, 13, 14, 15, 16, 17, 18], [], [], 0, []⟩)], [], [], []⟩ Try.func33 rfl Try.ntmps33 (rs := [.tmp 4]) rfl (sig := slices_IndexFunc_2_sig) (out := slices_IndexFunc_2_out) rfl Try.call33 (fun X => by kernel_rfl)

def slices_ContainsFunc_2_sig : Shape := ⟨[(.list (.int .i64)), (.int .i64)], [(0, .v 0), (1, .fn 24 [.addr 1])], []⟩
def slices_ContainsFunc_2_out : Shape := ⟨[.bool], [(0, .v 0)], []⟩
noncomputable def slices_ContainsFunc_2_ce : CE := ⟨26, slices_ContainsFunc_2_sig, slices_ContainsFunc_2_out, fun X => slices_ContainsFunc_2 X.1 X.2⟩
theorem slices_ContainsFunc_2_ok : CE.ok Try.prog slices_ContainsFunc_2_ce := CE.of (Γ := [slices_IndexFunc_2_ce]) (by kernel_rfl) TT_ok (GOK.cons slices_IndexFunc_2_ok (GOK.nil)) ⟨[], [], [], []⟩ Try.func26 rfl Try.ntmps26 (rs := [.tmp 4]) rfl (sig := slices_ContainsFunc_2_sig) (out := slices_ContainsFunc_2_out) rfl Try.call26 (fun X => by kernel_rfl)

def det_Check_3_sig : Shape := ⟨[(.list (.int .i64)), (.int .i64)], [(0, .v 0), (1, .ptr 100000 0)], [(100000, .box 56 [.fn 24 [.addr 1]])]⟩
def det_Check_3_out : Shape := ⟨[.bool, (.int .i64)], [(0, .v 0)], [(100000, .box 56 [.fn 24 [.addr 1]])]⟩
noncomputable def det_Check_3_ce : CE := ⟨25, det_Check_3_sig, det_Check_3_out, fun X => det_Check_3 X.1 X.2⟩
theorem det_Check_3_ok : CE.ok Try.prog det_Check_3_ce := CE.of (Γ := [slices_ContainsFunc_2_ce]) (by kernel_rfl) TT_ok (GOK.cons slices_ContainsFunc_2_ok (GOK.nil)) ⟨[], [], [], []⟩ Try.func25 rfl Try.ntmps25 (rs := [.tmp 3]) rfl (sig := det_Check_3_sig) (out := det_Check_3_out) rfl Try.call25 (fun X => by kernel_rfl)

def slices_IndexFunc_1_sig : Shape := ⟨[(.list (.list (.int .i64))), (.int .i64)], [(0, .v 0), (1, .fn 25 [.ptr 100000 0])], [(100000, .box 56 [.fn 24 [.addr 1]])]⟩
def slices_IndexFunc_1_out : Shape := ⟨[(.int .i64), (.int .i64)], [(0, .v 0)], [(100000, .box 56 [.fn 24 [.addr 1]])]⟩
noncomputable def slices_IndexFunc_1_ce : CE := ⟨32, slices_IndexFunc_1_sig, slices_IndexFunc_1_out, fun X => slices_IndexFunc_1 X.1 X.2⟩
theorem slices_IndexFunc_1_ok : CE.ok Try.prog slices_IndexFunc_1_ce := CE.of (Γ := [det_Check_3_ce]) (by kernel_rfl) TT_ok (GOK.cons det_Check_3_ok (GOK.nil)) ⟨[(2, ⟨⟨[(.int .i64), (.int .i64)], [(1, .fn 25 [.ptr 100000 0]), (8, .v 0)], [(100000, .box 56 [.fn 24 [.addr 1]])]⟩, [4, 5, 9, 10, 11, 12, 13, 14, 15, 16, 17, 18], [], [], 0, []⟩)], [], [], []⟩ Try.func32 rfl Try.ntmps32 (rs := [.tmp 4]) rfl (sig := slices_IndexFunc_1_sig) (out := slices_IndexFunc_1_out) rfl Try.call32 (fun X => by kernel_rfl)

def slices_ContainsFunc_1_sig : Shape := ⟨[(.list (.list (.int .i64))), (.int .i64)], [(0, .v 0), (1, .fn 25 [.ptr 100000 0])], [(100000, .box 56 [.fn 24 [.addr 1]])]⟩
def slices_ContainsFunc_1_out : Shape := ⟨[.bool, (.int .i64)], [(0, .v 0)], [(100000, .box 56 [.fn 24 [.addr 1]])]⟩
noncomputable def slices_ContainsFunc_1_ce : CE := ⟨22, slices_ContainsFunc_1_sig, slices_ContainsFunc_1_out, fun X => slices_ContainsFunc_1 X.1 X.2⟩
theorem slices_ContainsFunc_1_ok : CE.ok Try.prog slices_ContainsFunc_1_ce := CE.of (Γ := [slices_IndexFunc_1_ce]) (by kernel_rfl) TT_ok (GOK.cons slices_IndexFunc_1_ok (GOK.nil)) ⟨[], [], [], []⟩ Try.func22 rfl Try.ntmps22 (rs := [.tmp 4]) rfl (sig := slices_ContainsFunc_1_sig) (out := slices_ContainsFunc_1_out) rfl Try.call22 (fun X => by kernel_rfl)

def det_Check_4_sig : Shape := ⟨[(.int .i64)], [(0, .v 0)], []⟩
def det_Check_4_out : Shape := ⟨[.bool], [(0, .v 0)], []⟩
noncomputable def det_Check_4_ce : CE := ⟨27, det_Check_4_sig, det_Check_4_out, fun X => det_Check_4 X⟩
theorem det_Check_4_ok : CE.ok Try.prog det_Check_4_ce := CE.of (Γ := []) (by kernel_rfl) TT_ok (GOK.nil) ⟨[], [], [], []⟩ Try.func27 rfl Try.ntmps27 (rs := [.tmp 2]) rfl (sig := det_Check_4_sig) (out := det_Check_4_out) rfl Try.call27 (fun X => by kernel_rfl)

def slices_IndexFunc_3_sig : Shape := ⟨[(.list (.int .i64))], [(0, .v 0), (1, .fn 27 [])], []⟩
def slices_IndexFunc_3_out : Shape := ⟨[(.int .i64)], [(0, .v 0)], []⟩
noncomputable def slices_IndexFunc_3_ce : CE := ⟨33, slices_IndexFunc_3_sig, slices_IndexFunc_3_out, fun X => slices_IndexFunc_3 X⟩
theorem slices_IndexFunc_3_ok : CE.ok Try.prog slices_IndexFunc_3_ce := CE.of (Γ := [det_Check_4_ce]) (by kernel_rfl) TT_ok (GOK.cons det_Check_4_ok (GOK.nil)) ⟨[(2, ⟨⟨[(.int .i64)], [(8, .v 0)], []⟩, [4, 5, 9, 10, 11, 12, 13, 14, 15, 16, 17, 18], [], [], 0, []⟩)], [], [], []⟩ Try.func33 rfl Try.ntmps33 (rs := [.tmp 4]) rfl (sig := slices_IndexFunc_3_sig) (out := slices_IndexFunc_3_out) rfl Try.call33 (fun X => by kernel_rfl)

def slices_ContainsFunc_3_sig : Shape := ⟨[(.list (.int .i64))], [(0, .v 0), (1, .fn 27 [])], []⟩
def slices_ContainsFunc_3_out : Shape := ⟨[.bool], [(0, .v 0)], []⟩
noncomputable def slices_ContainsFunc_3_ce : CE := ⟨26, slices_ContainsFunc_3_sig, slices_ContainsFunc_3_out, fun X => slices_ContainsFunc_3 X⟩
theorem slices_ContainsFunc_3_ok : CE.ok Try.prog slices_ContainsFunc_3_ce := CE.of (Γ := [slices_IndexFunc_3_ce]) (by kernel_rfl) TT_ok (GOK.cons slices_IndexFunc_3_ok (GOK.nil)) ⟨[], [], [], []⟩ Try.func26 rfl Try.ntmps26 (rs := [.tmp 4]) rfl (sig := slices_ContainsFunc_3_sig) (out := slices_ContainsFunc_3_out) rfl Try.call26 (fun X => by kernel_rfl)

def det_Check_sig : Shape := ⟨[(.pair (.int .i64) (.pair (.int .i64) (.pair (.list (.list (.int .i64))) (.pair (.list (.int .i64)) .unit))))], [(0, .v 0)], []⟩
def det_Check_out : Shape := ⟨[(.int .i64)], [(0, .v 0)], []⟩
noncomputable def det_Check_ce : CE := ⟨19, det_Check_sig, det_Check_out, fun X => det_Check X⟩
theorem det_Check_ok : CE.ok Try.prog det_Check_ce := CE.of (Γ := [slices_ContainsFunc_ce, det_Check_2_ce, slices_ContainsFunc_1_ce, slices_ContainsFunc_3_ce]) (by kernel_rfl) TT_ok (GOK.cons slices_ContainsFunc_ok (GOK.cons det_Check_2_ok (GOK.cons slices_ContainsFunc_1_ok (GOK.cons slices_ContainsFunc_3_ok (GOK.nil))))) ⟨[], [], [], []⟩ Try.func19 rfl Try.ntmps19 (rs := [.tmp 2]) rfl (sig := det_Check_sig) (out := det_Check_out) rfl Try.call19 (fun X => by kernel_rfl)

def slices_Clone_sig : Shape := ⟨[(.list (.int .i64))], [(0, .v 0)], []⟩
def slices_Clone_out : Shape := ⟨[(.list (.int .i64))], [(0, .own 0)], [(0, .arr 3 0)]⟩
noncomputable def slices_Clone_ce : CE := ⟨16, slices_Clone_sig, slices_Clone_out, fun X => slices_Clone X⟩
theorem slices_Clone_ok : CE.ok Try.prog slices_Clone_ce := CE.of (Γ := []) (by kernel_rfl) TT_ok (GOK.nil) ⟨[], [], [], []⟩ Try.func16 rfl Try.ntmps16 (rs := [.tmp 2]) rfl (sig := slices_Clone_sig) (out := slices_Clone_out) rfl Try.call16 (fun X => by kernel_rfl)

def det_Classes_sig : Shape := ⟨[(.pair (.int .i64) (.pair (.int .i64) (.pair (.list (.list (.int .i64))) (.pair (.list (.int .i64)) .unit))))], [(0, .v 0)], []⟩
def det_Classes_out : Shape := ⟨[(.list (.int .i64))], [(0, .own 0)], [(0, .arr 3 0)]⟩
noncomputable def det_Classes_ce : CE := ⟨28, det_Classes_sig, det_Classes_out, fun X => det_Classes X⟩
theorem det_Classes_ok : CE.ok Try.prog det_Classes_ce := CE.of (Γ := [slices_Clone_ce]) (by kernel_rfl) TT_ok (GOK.cons slices_Clone_ok (GOK.nil)) ⟨[(3, ⟨⟨[(.int .i64), (.list (.int .i64))], [(3, .own 1), (4, .v 0)], [(1, .arr 3 1)]⟩, [2, 5, 6, 7, 8, 9, 11, 12, 13, 14, 17, 18, 19, 20, 21, 22, 23, 24, 25, 26, 27, 28, 29, 30, 31, 32, 33, 34, 35, 36, 37, 38, 39, 40, 41, 42, 43, 44, 45, 46, 47, 48, 49, 50, 51, 52, 53, 54, 55, 56, 57, 58, 59, 60, 61, 62, 63, 64, 65, 66, 67, 68, 69, 70, 71, 72, 73, 74, 75, 76, 77, 78, 79, 80, 81, 82, 83, 84], [], [0], 2, []⟩), (6, ⟨⟨[(.int .i64), (.list (.pair (.int .i64) (.pair .str .unit))), (.list (.int .i64)), (.list (.int .i64))], [(5, .own 2), (6, .own 3), (25, .v 0)], [(2, .box 64 [.v 1, .v 2]), (3, .arr 3 3)]⟩, [7, 8, 9, 11, 12, 13, 14, 18, 21, 26, 27, 28, 29, 30, 31, 32, 33, 34, 35, 36, 37, 38, 39, 40, 41, 42, 43, 44, 45, 46, 47, 48, 49, 50, 51, 52, 53, 54, 55, 56, 57, 58, 59, 60, 61, 62, 63, 64, 65, 66, 67, 68, 69, 70, 71, 72, 73, 74, 75, 76], [], [0, 1], 4, []⟩), (10, ⟨⟨[(.int .i64), (.list (.int .u8))], [(9, .own 4), (32, .v 0)], [(4, .arr 5 1)]⟩, [11, 33, 34, 35, 36, 37, 38, 39, 40, 41, 42, 43, 44, 45, 46, 47, 48, 49, 50], [], [0, 1, 2, 3], 5, []⟩)], [(17, ⟨⟨[(.list (.pair (.int .i64) (.pair .str .unit))), (.list (.int .i64))], [(5, .own 2)], [(2, .box 64 [.v 0, .v 1])]⟩, [13, 14, 58, 59, 60, 61, 62, 63, 64, 65, 66, 67, 68, 69], [], [0, 1, 3, 4, 5], 6, []⟩)], [(12, [(0, 0), (0, 1), (0, 2), (0, 3), (0, 4), (0, 5), (0, 6), (0, 7), (0, 8), (0, 9), (0, 10), (0, 11), (1, 12), (2, 13), (0, 14)]), (14, [(0, 0), (0, 1), (0, 2), (0, 3), (0, 4), (0, 5), (0, 6), (1, 7), (2, 8)])], []⟩ Try.func28 rfl Try.ntmps28 (rs := [.tmp 2]) rfl (sig := det_Classes_sig) (out := det_Classes_out) rfl Try.call28 (fun X => by kernel_rfl)

def det_Smallest_1_sig : Shape := ⟨[(.int .i64), (.int .i64), (.list (.int .i64)), (.pair (.int .i64) (.pair (.int .i64) (.pair (.list (.list (.int .i64))) (.pair (.list (.int .i64)) .unit)))), (.list (.int .i64))], [(0, .v 0), (1, .v 1), (2, .addr 2), (3, .addr 3), (4, .addr 4)], []⟩
def det_Smallest_1_out : Shape := ⟨[(.int .i64)], [(0, .v 0)], []⟩
noncomputable def det_Smallest_1_ce : CE := ⟨30, det_Smallest_1_sig, det_Smallest_1_out, fun X => det_Smallest_1 X.1 X.2.1 X.2.2.1 X.2.2.2.1 X.2.2.2.2⟩
theorem det_Smallest_1_ok : CE.ok Try.prog det_Smallest_1_ce := CE.of (Γ := []) (by kernel_rfl) TT_ok (GOK.nil) ⟨[], [], [(1, [(0, 0), (0, 1), (0, 2), (0, 3), (0, 4), (0, 5), (0, 6), (0, 7), (0, 8), (0, 9), (0, 10), (0, 11), (0, 12), (0, 13), (0, 14)])], []⟩ Try.func30 rfl Try.ntmps30 (rs := [.tmp 7]) rfl (sig := det_Smallest_1_sig) (out := det_Smallest_1_out) rfl Try.call30 (fun X => by kernel_rfl)

def det_Smallest_2_sig : Shape := ⟨[(.int .i64), (.pair (.int .i64) (.pair (.int .i64) (.pair (.list (.list (.int .i64))) (.pair (.list (.int .i64)) .unit)))), (.list (.int .i64))], [(0, .v 0), (1, .addr 1), (2, .addr 2)], []⟩
def det_Smallest_2_out : Shape := ⟨[(.int .i64)], [(0, .v 0)], []⟩
noncomputable def det_Smallest_2_ce : CE := ⟨31, det_Smallest_2_sig, det_Smallest_2_out, fun X => det_Smallest_2 X.1 X.2.1 X.2.2⟩
theorem det_Smallest_2_ok : CE.ok Try.prog det_Smallest_2_ce := CE.of (Γ := []) (by kernel_rfl) TT_ok (GOK.nil) ⟨[], [], [(1, [(0, 0), (0, 1), (0, 2), (0, 3), (0, 4), (0, 5), (0, 6), (0, 7), (0, 8)])], []⟩ Try.func31 rfl Try.ntmps31 (rs := [.tmp 4]) rfl (sig := det_Smallest_2_sig) (out := det_Smallest_2_out) rfl Try.call31 (fun X => by kernel_rfl)

def det_Explore_sig : Shape := ⟨[(.int .i64), (.int .i64), (.list (.int .i64)), (.pair (.int .i64) (.pair (.int .i64) (.pair (.list (.list (.int .i64))) (.pair (.list (.int .i64)) .unit)))), (.list (.int .i64)), (.pair (.int .i64) (.pair (.int .i64) (.pair (.list (.list (.int .i64))) (.pair (.list (.int .i64)) .unit)))), (.list (.int .i64)), (.int .i64)], [(0, .v 0), (1, .v 1), (2, .fn 30 [.addr 2, .addr 3, .addr 4]), (3, .fn 31 [.addr 5, .addr 6]), (4, .v 7)], []⟩
def det_Explore_out : Shape := ⟨[(.pair (.int .i64) (.pair (.int .i64) (.pair (.list (.list (.int .i64))) (.pair (.list (.int .i64)) .unit)))), .bool], [(0, .v 0), (1, .v 1)], []⟩
noncomputable def det_Explore_ce : CE := ⟨29, det_Explore_sig, det_Explore_out, fun X => det_Explore X.1 X.2.1 X.2.2.1 X.2.2.2.1 X.2.2.2.2.1 X.2.2.2.2.2.1 X.2.2.2.2.2.2.1 X.2.2.2.2.2.2.2⟩
theorem det_Explore_ok : CE.ok Try.prog det_Explore_ce := CE.of (Γ := [det_Smallest_1_ce, det_Smallest_2_ce]) (by kernel_rfl) TT_ok (GOK.cons det_Smallest_1_ok (GOK.cons det_Smallest_2_ok (GOK.nil))) ⟨[(4, ⟨⟨[(.int .i64), (.int .i64), (.list (.int .i64)), (.list (.int .i64)), (.list (.int .i64)), (.list (.list (.int .i64))), (.list (.int .i64))], [(12, .ptr 1 0), (13, .own 2), (14, .own 3)], [(1, .box 25 [.v 0, .v 1, .own 4, .own 5]), (2, .box 68 [.v 2, .v 3]), (3, .arr 3 4), (4, .arr 23 5), (5, .arr 3 6)]⟩, [11, 15, 16, 17, 18, 19, 20, 23, 25, 27, 28, 29, 30, 31, 32, 33, 34, 35, 36, 37, 38, 39, 40, 41, 42, 43, 44, 45, 46, 47, 48, 49, 50, 51, 52, 53, 54, 55, 56, 57, 58, 59, 60, 61, 62, 63, 64, 65, 66, 67, 68, 69, 70, 71, 72, 73, 74, 75, 76, 77, 78, 79, 80, 81, 82, 83, 84, 85, 86, 87, 88, 89], [], [0], 6, [(1, 2, some 23, (.list (.int .i64))), (1, 3, some 3, (.int .i64))]⟩), (8, ⟨⟨[(.int .i64), (.list (.int .i64)), (.list (.int .i64)), (.list (.int .i64)), (.list (.int .i64))], [(13, .own 2), (14, .own 3), (16, .own 6), (43, .v 0)], [(2, .box 68 [.v 1, .v 2]), (3, .arr 3 3), (6, .arr 3 4)]⟩, [11, 17, 18, 19, 20, 31, 34, 38, 41, 44, 45, 46, 47, 48, 49, 50, 51, 52, 53, 54, 55, 56, 57, 58, 59, 60, 61, 62, 63, 64, 65, 66, 67, 68, 69, 70, 71, 72, 73, 74, 75], [], [0, 1, 4, 5], 7, []⟩)], [(17, ⟨⟨[(.int .i64), (.list (.int .i64)), (.list (.int .i64)), (.list (.int .i64))], [(13, .own 2), (14, .own 7), (19, .v 0)], [(2, .box 68 [.v 1, .v 2]), (7, .arr 3 3)]⟩, [11, 51, 56, 57, 58, 59, 60, 61, 62, 63, 64, 65, 66, 67, 68, 69, 70], [3], [0, 1, 4, 5, 6], 8, []⟩)], [(21, [(0, 0), (0, 1), (0, 2), (0, 3), (1, 4), (1, 5), (2, 6), (0, 7), (2, 8)])], []⟩ Try.func29 rfl Try.ntmps29 (rs := [.cell 10 25, .tmp 11]) rfl (sig := det_Explore_sig) (out := det_Explore_out) rfl Try.call29 (fun X => by kernel_rfl)

def det_Smallest_sig : Shape := ⟨[(.pair (.int .i64) (.pair (.int .i64) (.pair (.list (.list (.int .i64))) (.pair (.list (.int .i64)) .unit))))], [(0, .v 0)], []⟩
def det_Smallest_out : Shape := ⟨[(.pair (.int .i64) (.pair (.int .i64) (.pair (.list (.list (.int .i64))) (.pair (.list (.int .i64)) .unit))))], [(0, .v 0)], []⟩
noncomputable def det_Smallest_ce : CE := ⟨20, det_Smallest_sig, det_Smallest_out, fun X => det_Smallest X⟩
theorem det_Smallest_ok : CE.ok Try.prog det_Smallest_ce := CE.of (Γ := [det_Classes_ce, det_Explore_ce]) (by kernel_rfl) TT_ok (GOK.cons det_Classes_ok (GOK.cons det_Explore_ok (GOK.nil))) ⟨[(4, ⟨⟨[(.int .i64), (.list (.int .i64))], [(4, .ptr 5 0), (16, .v 0)], [(5, .box 23 [.own 4]), (4, .arr 3 1)]⟩, [5, 6, 13, 17, 18, 19, 20, 21, 22, 23, 24, 25], [], [0, 1, 2, 3], 6, []⟩)], [(8, ⟨⟨[(.int .i64), (.int .i64), (.list (.list (.int .i64))), (.list (.int .i64))], [(7, .ptr 6 0)], [(6, .box 25 [.v 0, .v 1, .v 2, .v 3])]⟩, [1, 3, 4, 8, 10, 11, 14, 26, 27, 28, 29, 30, 31, 32, 33, 34, 35, 36, 37, 38, 39, 40, 41], [0, 2, 3, 4, 5], [1], 7, []⟩)], [], [(8, (.one 0 (.one 3 (.one 7 (.one 8 (.live [12, 17] (.rd 1 [12, 13, 14, 15, 17, 18] (.rd 2 [5, 6, 12, 13, 14, 15, 17, 18] (.rd 4 [5, 6, 12, 13, 14, 15, 17, 18] (.rd 5 [6, 12, 13, 14, 15, 17, 18] (.rd 6 [12, 13, 14, 15, 17, 18] (.rd 9 [10, 11, 12, 13, 14, 15, 17, 18] (.rd 10 [11, 12, 13, 14, 15, 17, 18] (.rd 11 [12, 13, 14, 15, 17, 18] (.alt 2 12 (.leaf [(0, 13), (0, 14), (0, 15), (1, 16), (2, 17), (0, 18)]) (.alt 1 16 (.alt 2 12 (.leaf [(0, 13), (0, 14), (0, 15), (2, 17), (0, 18)]) .stop) .stop))))))))))))))))]⟩ Try.func20 rfl Try.ntmps20 (rs := [.cell 2 25]) rfl (sig := det_Smallest_sig) (out := det_Smallest_out) rfl Try.call20 (fun X => by kernel_rfl)

def det_Least_sig : Shape := ⟨[(.pair (.int .i64) (.pair (.int .i64) (.pair (.list (.list (.int .i64))) (.pair (.list (.int .i64)) .unit))))], [(0, .v 0)], []⟩
def det_Least_out : Shape := ⟨[(.pair (.int .i64) (.pair (.int .i64) (.pair (.list (.list (.int .i64))) (.pair (.list (.int .i64)) .unit)))), (.int .i64)], [(0, .v 0), (1, .v 1)], []⟩
noncomputable def det_Least_ce : CE := ⟨14, det_Least_sig, det_Least_out, fun X => det_Least X⟩
theorem det_Least_ok : CE.ok Try.prog det_Least_ce := CE.of (Γ := [det_Check_ce, det_Smallest_ce]) (by kernel_rfl) TT_ok (GOK.cons det_Check_ok (GOK.cons det_Smallest_ok (GOK.nil))) ⟨[], [], [], []⟩ Try.func14 rfl Try.ntmps14 (rs := [.cell 2 25, .tmp 3]) rfl (sig := det_Least_sig) (out := det_Least_out) rfl Try.call14 (fun X => by kernel_rfl)

def monoid_small_sig : Shape := ⟨[(.pair (.int .i64) (.pair (.int .i64) (.pair (.list (.list (.int .i64))) (.pair (.list (.int .i64)) .unit))))], [(0, .v 0)], []⟩
def monoid_small_out : Shape := ⟨[(.pair (.int .i64) (.pair (.int .i64) (.pair (.list (.list (.int .i64))) (.pair (.list (.int .i64)) .unit)))), (.int .i64)], [(0, .v 0), (1, .v 1)], []⟩
noncomputable def monoid_small_ce : CE := ⟨8, monoid_small_sig, monoid_small_out, fun X => monoid_small X⟩
theorem monoid_small_ok : CE.ok Try.prog monoid_small_ce := CE.of (Γ := [det_Least_ce]) (by kernel_rfl) TT_ok (GOK.cons det_Least_ok (GOK.nil)) ⟨[], [], [], []⟩ Try.func8 rfl Try.ntmps8 (rs := [.cell 2 25, .tmp 3]) rfl (sig := monoid_small_sig) (out := monoid_small_out) rfl Try.call8 (fun X => by kernel_rfl)

def det_Key_sig : Shape := ⟨[(.list (.int .i64))], [(0, .v 0)], []⟩
def det_Key_out : Shape := ⟨[.str], [(0, .v 0)], []⟩
noncomputable def det_Key_ce : CE := ⟨15, det_Key_sig, det_Key_out, fun X => det_Key X⟩
theorem det_Key_ok : CE.ok Try.prog det_Key_ce := CE.of (Γ := []) (by kernel_rfl) TT_ok (GOK.nil) ⟨[(3, ⟨⟨[(.int .i64), (.list (.int .u8))], [(3, .own 0), (8, .v 0)], [(0, .arr 5 1)]⟩, [5, 9, 10, 11, 12, 13, 14, 15, 16, 17, 18, 19, 20], [], [], 1, []⟩)], [], [], []⟩ Try.func15 rfl Try.ntmps15 (rs := [.tmp 2]) rfl (sig := det_Key_sig) (out := det_Key_out) rfl Try.call15 (fun X => by kernel_rfl)

def monoid_elements_sig : Shape := ⟨[(.pair (.int .i64) (.pair (.int .i64) (.pair (.list (.list (.int .i64))) (.pair (.list (.int .i64)) .unit))))], [(0, .v 0)], []⟩
def monoid_elements_out : Shape := ⟨[(.list (.pair (.list (.int .i64)) (.pair (.list (.int .i64)) .unit)))], [(0, .own 0)], [(0, .arr 38 0)]⟩
noncomputable def monoid_elements_ce : CE := ⟨9, monoid_elements_sig, monoid_elements_out, fun X => monoid_elements X⟩
theorem monoid_elements_ok : CE.ok Try.prog monoid_elements_ce := CE.of (Γ := [det_Key_ce, slices_Clone_ce]) (by kernel_rfl) TT_ok (GOK.cons det_Key_ok (GOK.cons slices_Clone_ok (GOK.nil))) ⟨[(3, ⟨⟨[(.int .i64), (.list (.int .i64))], [(3, .ptr 1 0), (17, .v 0)], [(1, .box 38 [.own 2, .nil]), (2, .arr 3 1)]⟩, [4, 18, 19, 20, 21, 22, 23, 24, 25, 26], [], [0], 3, [(1, 0, some 3, (.int .i64))]⟩), (10, ⟨⟨[(.int .i64), (.list .str), (.list (.int .i64)), (.list (.pair (.list (.int .i64)) (.pair (.list (.int .i64)) .unit)))], [(5, .own 3), (6, .own 4), (7, .v 0)], [(3, .box 47 [.v 1, .v 2]), (4, .arr 38 3)]⟩, [8, 9, 11, 12, 27, 29, 31, 33, 34, 35, 36, 37, 38, 39, 40, 41, 42, 43, 44, 45, 46, 47, 48, 49, 50, 51, 52, 53, 54, 55, 56, 57, 58, 59, 60, 61, 62, 63, 64, 65, 66, 67, 68, 69, 70, 71, 72, 73, 74, 75, 76, 77, 78, 79, 80, 81, 82, 83, 84, 85, 86, 87, 88, 89, 90, 91, 92, 93, 94], [], [0, 1], 5, []⟩), (13, ⟨⟨[(.int .i64), (.list .str), (.list (.int .i64)), (.list (.pair (.list (.int .i64)) (.pair (.list (.int .i64)) .unit)))], [(5, .own 3), (6, .own 4), (42, .v 0)], [(3, .box 47 [.v 1, .v 2]), (4, .arr 38 3)]⟩, [8, 9, 11, 12, 35, 43, 44, 45, 46, 47, 48, 49, 50, 51, 52, 53, 54, 55, 56, 57, 58, 59, 60, 61, 62, 63, 64, 65, 66, 67, 68, 69, 70, 71, 72, 73, 74, 75, 76, 77, 78, 79, 80, 81, 82, 83, 84, 85, 86, 87, 88, 89, 90, 91, 92, 93, 94], [], [0, 1], 5, []⟩), (17, ⟨⟨[(.int .i64), (.list (.int .i64)), (.list (.int .i64))], [(9, .ptr 8 0), (61, .v 0)], [(8, .box 38 [.own 9, .v 1]), (9, .arr 3 2)]⟩, [11, 50, 62, 63, 64, 65, 66, 67, 68, 69, 70, 71, 72, 73, 74, 75, 76, 77, 78], [], [0, 1, 3, 4, 6], 10, [(8, 0, some 3, (.int .i64))]⟩)], [(24, ⟨⟨[(.list .str), (.list (.int .i64)), (.list (.pair (.list (.int .i64)) (.pair (.list (.int .i64)) .unit)))], [(5, .own 3), (6, .own 5)], [(3, .box 47 [.v 0, .v 1]), (5, .arr 38 2)]⟩, [8, 9, 11, 12, 44, 45, 46, 47, 48, 49, 50, 51, 52, 53, 54, 55, 56, 57, 58, 59, 60, 61, 62, 63, 64, 65, 66, 67, 68, 69, 70, 71, 72, 73, 74, 75, 76, 77, 78, 79, 80, 81, 82, 83, 84, 85, 86, 87, 88, 89, 90, 91, 92, 93], [4], [0, 1], 6, []⟩)], [(19, [(0, 0), (0, 1), (0, 2), (0, 3), (0, 4), (0, 5), (0, 6), (0, 7), (0, 8), (0, 9), (1, 10), (2, 11), (0, 12), (2, 13)])], []⟩ Try.func9 rfl Try.ntmps9 (rs := [.tmp 2]) rfl (sig := monoid_elements_sig) (out := monoid_elements_out) rfl Try.call9 (fun X => by kernel_rfl)

def monoid_Counts_sig : Shape := ⟨[(.pair (.int .i64) (.pair (.int .i64) (.pair (.list (.list (.int .i64))) (.pair (.list (.int .i64)) .unit))))], [(0, .v 0)], []⟩
def monoid_Counts_out : Shape := ⟨[(.list (.int .i64)), (.int .i64), .bool, (.int .i64)], [(0, .v 0), (1, .v 1), (2, .v 2), (3, .v 3)], []⟩
noncomputable def monoid_Counts_ce : CE := ⟨4, monoid_Counts_sig, monoid_Counts_out, fun X => monoid_Counts X⟩
theorem monoid_Counts_ok : CE.ok Try.prog monoid_Counts_ce := CE.of (Γ := [monoid_small_ce, monoid_elements_ce]) (by kernel_rfl) TT_ok (GOK.cons monoid_small_ok (GOK.cons monoid_elements_ok (GOK.nil))) ⟨[(5, ⟨⟨[(.int .i64)], [(24, .v 0)], []⟩, [2, 3, 4, 5, 8, 9, 10, 11, 12, 25, 26, 27, 28, 29, 30, 31, 32, 33, 34, 35, 36, 37, 38, 39, 40, 41, 42, 43, 44, 45, 46, 47, 48, 49, 50, 51, 52, 53, 54, 55, 56, 57, 58, 59, 60, 61, 62, 63, 64, 65, 66, 67, 68, 69, 70, 71, 72, 73, 74, 75, 76, 77, 78, 79], [], [0, 1, 2], 3, []⟩), (9, ⟨⟨[(.int .i64), (.int .i64)], [(9, .v 0), (31, .v 1)], []⟩, [10, 11, 12, 32, 33, 34, 35, 36, 37, 38, 39, 40, 41, 42, 43, 44, 45, 46, 47, 48, 49, 50, 51, 52, 53, 54, 55, 56, 57, 58, 59, 60, 61, 62, 63, 64, 65, 66, 67, 68, 69, 70, 71, 72, 73], [], [0, 1, 2, 3], 4, []⟩), (12, ⟨⟨[(.int .i64), (.int .i64)], [(11, .v 0), (12, .v 1)], []⟩, [39, 40, 41, 42, 43, 44, 45, 46, 47, 48, 49, 50, 51, 52, 53, 54, 55], [], [0, 1, 2, 3], 4, []⟩)], [(12, ⟨⟨[.bool], [(48, .v 0)], []⟩, [39, 40, 41, 42, 43, 44, 45, 46, 47], [], [0, 1, 2, 3], 4, []⟩)], [(11, [(0, 0), (0, 1), (0, 2), (0, 3), (0, 4), (0, 5), (0, 6)])], []⟩ Try.func4 rfl Try.ntmps4 (rs := [.tmp 2, .tmp 3, .tmp 4, .tmp 5]) rfl (sig := monoid_Counts_sig) (out := monoid_Counts_out) rfl Try.call4 (fun X => by kernel_rfl)

def r3_Check_sig : Shape := ⟨[(.pair (.int .i64) (.pair (.int .i64) (.pair (.list (.list (.int .i64))) (.pair (.list (.int .i64)) .unit))))], [(0, .v 0)], []⟩
def r3_Check_out : Shape := ⟨[(.int .i64)], [(0, .v 0)], []⟩
noncomputable def r3_Check_ce : CE := ⟨10, r3_Check_sig, r3_Check_out, fun X => r3_Check X⟩
theorem r3_Check_ok : CE.ok Try.prog r3_Check_ce := CE.of (Γ := []) (by kernel_rfl) TT_ok (GOK.nil) ⟨[(9, ⟨⟨[(.int .i64)], [(4, .v 0)], []⟩, [2, 30, 31, 32, 33, 34, 35, 36, 37, 38, 39, 40, 41, 42, 43], [], [0], 1, []⟩), (16, ⟨⟨[(.int .i64)], [(5, .v 0)], []⟩, [2, 6, 53, 54, 55, 56, 57, 58, 59, 60, 61, 62, 63, 64, 65, 66, 67, 68, 69, 70, 71, 72, 73, 74, 75, 76, 77, 78, 79, 80, 81, 82, 83, 84], [], [0], 1, []⟩), (19, ⟨⟨[(.int .i64)], [(6, .v 0)], []⟩, [2, 58, 59, 60, 61, 62, 63, 64, 65, 66, 67, 68, 69, 70, 71, 72, 73, 74, 75, 76, 77, 78, 79, 80, 81, 82, 83, 84], [], [0], 1, []⟩), (24, ⟨⟨[(.int .i64)], [(7, .v 0)], []⟩, [2, 85, 86, 87, 88, 89, 90, 91, 92, 93, 94, 95, 96, 97, 98, 99, 100, 101, 102, 103], [], [0], 1, []⟩)], [], [(11, [(0, 0), (0, 1), (0, 2), (0, 3), (0, 4), (0, 5), (0, 6), (0, 7), (0, 8)])], []⟩ Try.func10 rfl Try.ntmps10 (rs := [.tmp 2]) rfl (sig := r3_Check_sig) (out := r3_Check_out) rfl Try.call10 (fun X => by kernel_rfl)

def r3_Classes_sig : Shape := ⟨[(.pair (.int .i64) (.pair (.int .i64) (.pair (.list (.list (.int .i64))) (.pair (.list (.int .i64)) .unit))))], [(0, .v 0)], []⟩
def r3_Classes_out : Shape := ⟨[(.list (.int .i64))], [(0, .own 0)], [(0, .arr 3 0)]⟩
noncomputable def r3_Classes_ce : CE := ⟨17, r3_Classes_sig, r3_Classes_out, fun X => r3_Classes X⟩
theorem r3_Classes_ok : CE.ok Try.prog r3_Classes_ce := CE.of (Γ := []) (by kernel_rfl) TT_ok (GOK.nil) ⟨[(3, ⟨⟨[(.int .i64), (.list (.int .i64))], [(3, .own 2), (4, .v 0)], [(2, .arr 3 1)]⟩, [2, 5, 6, 7, 8, 9, 10, 11, 12, 13, 16, 17, 18, 19, 20, 21, 22, 23, 24, 25, 26, 27, 28, 29, 30, 31, 32, 33, 34, 35, 36, 37, 38, 39, 40, 41, 42, 43, 44, 45, 46, 47, 48, 49, 50, 51, 52, 53, 54, 55, 56, 57, 58, 59, 60, 61, 62, 63, 64, 65, 66, 67, 68, 69, 70, 71, 72, 73, 74, 75, 76, 77, 78, 79, 80, 81, 82, 83, 84, 85, 86, 87, 88, 89, 90, 91, 92, 93, 94, 95], [], [0], 3, []⟩), (7, ⟨⟨[(.int .i64), (.int .i64), (.list (.int .i64)), (.list (.int .i64))], [(5, .own 3), (6, .v 0), (7, .own 4), (8, .v 1)], [(3, .arr 3 2), (4, .arr 3 3)]⟩, [9, 10, 11, 12, 19, 20, 21, 22, 23, 24, 25, 26, 27, 28, 29, 30, 31, 32, 33, 34, 35, 36, 37, 38, 39, 40, 41, 42, 43, 44, 45, 46, 47, 48, 49, 50, 51, 52, 53, 54, 55, 56, 57, 58, 59, 60, 61, 62, 63, 64, 65, 66, 67, 68, 69, 70, 71, 72, 73, 74, 75, 76, 77, 78, 79, 80, 81, 82, 83, 84, 85, 86, 87, 88, 89], [], [0, 2], 5, []⟩), (10, ⟨⟨[(.int .i64)], [(9, .v 0)], []⟩, [10, 11, 12, 26, 27, 28, 29, 30, 31, 32, 33, 34, 35, 36, 37, 38, 39, 40, 41, 42, 43, 44, 45, 46, 47, 48, 49, 50, 51, 52, 53, 54, 55, 56, 57, 58, 59, 60, 61, 62, 63, 64, 65, 66, 67, 68, 69, 70, 71, 72, 73, 74, 75, 76], [], [0, 2, 3, 4], 5, []⟩), (14, ⟨⟨[.bool, (.int .i64)], [(11, .v 0), (12, .v 1)], []⟩, [42, 43, 44, 45, 46, 47, 48, 49, 50, 51, 52, 53, 54, 55, 56, 57, 58, 59, 60, 61, 62, 63, 64, 65, 66, 67, 68, 69, 70, 71, 72, 73], [], [0, 2, 3, 4], 5, []⟩)], [(14, ⟨⟨[.bool], [(48, .v 0)], []⟩, [42, 43, 44, 45, 46, 47], [], [0, 2, 3, 4], 5, []⟩), (18, ⟨⟨[(.int .i64)], [(9, .v 0)], []⟩, [10, 11, 12, 26, 27, 28, 29, 30, 31, 32, 33, 34, 35, 36, 37, 38, 39, 40, 41, 42, 43, 44, 45, 46, 47, 48, 49, 50, 51, 52, 53, 54, 55, 56, 57, 58, 59, 60, 61, 62, 63, 64, 65, 66, 67, 68, 69, 70, 71, 72, 73, 74, 75, 76], [], [0, 2, 3, 4], 5, []⟩), (21, ⟨⟨[(.int .i64), (.list (.int .i64))], [(6, .v 0), (7, .own 5)], [(5, .arr 3 1)]⟩, [77, 78, 79, 80, 81, 82, 83, 84, 85], [4], [0, 2, 3], 6, []⟩)], [(12, [(0, 0), (0, 1), (0, 2), (0, 3), (0, 4), (0, 5), (0, 6), (0, 7), (0, 8), (0, 9)]), (16, [(0, 0), (0, 1), (0, 2), (0, 3), (0, 4), (0, 5), (0, 6), (0, 7), (0, 8), (0, 9), (0, 10), (0, 11), (0, 12), (0, 13), (0, 14), (0, 15), (0, 16), (0, 17), (0, 18), (0, 19), (0, 20), (0, 21), (0, 22), (0, 23)])], []⟩ Try.func17 rfl Try.ntmps17 (rs := [.tmp 2]) rfl (sig := r3_Classes_sig) (out := r3_Classes_out) rfl Try.call17 (fun X => by kernel_rfl)

def r3_Least_sig : Shape := ⟨[(.pair (.int .i64) (.pair (.int .i64) (.pair (.list (.list (.int .i64))) (.pair (.list (.int .i64)) .unit))))], [(0, .v 0)], []⟩
def r3_Least_out : Shape := ⟨[(.pair (.int .i64) (.pair (.int .i64) (.pair (.list (.list (.int .i64))) (.pair (.list (.int .i64)) .unit))))], [(0, .v 0)], []⟩
noncomputable def r3_Least_ce : CE := ⟨11, r3_Least_sig, r3_Least_out, fun X => r3_Least X⟩
theorem r3_Least_ok : CE.ok Try.prog r3_Least_ce := CE.of (Γ := [r3_Classes_ce]) (by kernel_rfl) TT_ok (GOK.cons r3_Classes_ok (GOK.nil)) ⟨[(4, ⟨⟨[(.int .i64), (.list (.int .i64))], [(4, .own 3), (5, .v 0)], [(3, .arr 3 1)]⟩, [16, 17, 18, 19, 20, 21, 22, 23, 24, 25], [], [0, 1, 2], 4, []⟩), (11, ⟨⟨[(.int .i64), (.list (.int .i64)), (.list (.int .i64)), (.int .i64), (.int .i64), (.list (.list (.int .i64))), (.list (.int .i64))], [(4, .own 3), (6, .own 4), (7, .ptr 5 0), (8, .v 0)], [(3, .arr 3 1), (4, .arr 3 2), (5, .box 25 [.v 3, .v 4, .own 6, .own 7]), (6, .arr 23 5), (7, .arr 3 6)]⟩, [9, 10, 11, 18, 26, 32, 35, 39, 40, 41, 42, 43, 44, 45, 46, 47, 48, 49, 50, 51, 52, 53, 54, 55, 56, 57, 58, 59, 60, 61, 62, 63, 64, 65, 66, 67, 68, 69, 70, 71, 72, 73, 74, 75, 76, 77, 78, 79, 80, 81, 82, 83, 84, 85, 86, 87, 88, 89, 90, 91, 92, 93, 94, 95, 96, 97, 98, 99, 100, 101, 102, 103, 104, 105, 106, 107, 108, 109, 110, 111, 112, 113], [], [0, 1, 2], 8, [(5, 2, some 23, (.list (.int .i64))), (5, 3, some 3, (.int .i64))]⟩), (15, ⟨⟨[(.int .i64), (.list (.int .i64)), (.list (.int .i64)), (.list (.int .i64))], [(4, .own 3), (6, .own 4), (9, .own 8), (10, .v 0)], [(3, .arr 3 1), (4, .arr 3 2), (8, .arr 3 3)]⟩, [11, 40, 47, 48, 49, 50, 51, 52, 53, 54, 55, 56, 57, 58, 59, 60, 61, 62, 63, 64, 65, 66, 67, 68, 69, 70, 71, 72, 73, 74, 75, 76, 77, 78, 79, 80, 81, 82, 83, 84, 85, 86, 87, 88, 89, 90, 91, 92, 93, 94], [], [0, 1, 2, 5, 6, 7], 9, []⟩)], [(20, ⟨⟨[(.list (.int .i64)), (.list (.int .i64))], [(4, .own 3), (6, .own 9)], [(3, .arr 3 0), (9, .arr 3 1)]⟩, [56, 58, 65, 66, 67, 68, 69, 70, 71, 72, 73, 74, 75, 76, 77, 78, 79, 80, 81, 82, 83, 84], [4], [0, 1, 2, 5, 6, 7, 8], 10, []⟩)], [(17, [(0, 0), (0, 1), (0, 2), (0, 3), (0, 4), (0, 5), (0, 6), (0, 7), (0, 8), (0, 9), (0, 10), (0, 11)]), (23, [(0, 0), (0, 1), (0, 2), (0, 3), (0, 4), (0, 5), (0, 6), (0, 7), (0, 8), (0, 9), (1, 10), (2, 11), (0, 12), (2, 13)])], []⟩ Try.func11 rfl Try.ntmps11 (rs := [.cell 2 25]) rfl (sig := r3_Least_sig) (out := r3_Least_out) rfl Try.call11 (fun X => by kernel_rfl)

def law_small_sig : Shape := ⟨[(.pair (.int .i64) (.pair (.int .i64) (.pair (.list (.list (.int .i64))) (.pair (.list (.int .i64)) .unit))))], [(0, .v 0)], []⟩
def law_small_out : Shape := ⟨[(.pair (.int .i64) (.pair (.int .i64) (.pair (.list (.list (.int .i64))) (.pair (.list (.int .i64)) .unit)))), (.int .i64)], [(0, .v 0), (1, .v 1)], []⟩
noncomputable def law_small_ce : CE := ⟨5, law_small_sig, law_small_out, fun X => law_small X⟩
theorem law_small_ok : CE.ok Try.prog law_small_ce := CE.of (Γ := [r3_Check_ce, r3_Least_ce]) (by kernel_rfl) TT_ok (GOK.cons r3_Check_ok (GOK.cons r3_Least_ok (GOK.nil))) ⟨[], [], [], []⟩ Try.func5 rfl Try.ntmps5 (rs := [.cell 2 25, .tmp 3]) rfl (sig := law_small_sig) (out := law_small_out) rfl Try.call5 (fun X => by kernel_rfl)

def r3_After_sig : Shape := ⟨[(.pair (.int .i64) (.pair (.int .i64) (.pair (.list (.list (.int .i64))) (.pair (.list (.int .i64)) .unit)))), (.int .i64), (.list (.int .i64))], [(0, .v 0), (1, .v 1), (2, .v 2)], []⟩
def r3_After_out : Shape := ⟨[(.int .i64)], [(0, .v 0)], []⟩
noncomputable def r3_After_ce : CE := ⟨21, r3_After_sig, r3_After_out, fun X => r3_After X.1 X.2.1 X.2.2⟩
theorem r3_After_ok : CE.ok Try.prog r3_After_ce := CE.of (Γ := []) (by kernel_rfl) TT_ok (GOK.nil) ⟨[(2, ⟨⟨[(.int .i64), (.int .i64)], [(1, .v 0), (7, .v 1)], []⟩, [8, 9, 10, 11, 12, 13, 14, 15, 16, 17, 18, 19, 20, 21, 22, 23, 24], [], [0], 1, []⟩)], [], [(4, [(0, 0), (0, 1), (0, 2), (0, 3), (0, 4), (0, 5), (0, 6), (0, 7), (0, 8), (0, 9), (0, 10), (0, 11)])], []⟩ Try.func21 rfl Try.ntmps21 (rs := [.tmp 6]) rfl (sig := r3_After_sig) (out := r3_After_out) rfl Try.call21 (fun X => by kernel_rfl)

def r4_Does_sig : Shape := ⟨[(.pair (.int .i64) (.pair (.int .i64) (.pair (.list (.list (.int .i64))) (.pair (.list (.int .i64)) .unit)))), (.list (.int .i64))], [(0, .v 0), (1, .v 1)], []⟩
def r4_Does_out : Shape := ⟨[(.list (.int .i64))], [(0, .own 0)], [(0, .arr 3 0)]⟩
noncomputable def r4_Does_ce : CE := ⟨18, r4_Does_sig, r4_Does_out, fun X => r4_Does X.1 X.2⟩
theorem r4_Does_ok : CE.ok Try.prog r4_Does_ce := CE.of (Γ := [r3_After_ce]) (by kernel_rfl) TT_ok (GOK.cons r3_After_ok (GOK.nil)) ⟨[(3, ⟨⟨[(.int .i64), (.list (.int .i64))], [(5, .own 1), (6, .v 0)], [(1, .arr 3 1)]⟩, [7, 8, 9, 10, 11, 12, 13, 14, 15, 16, 17, 18, 19, 20, 21, 22], [], [0], 2, []⟩)], [], [], []⟩ Try.func18 rfl Try.ntmps18 (rs := [.tmp 4]) rfl (sig := r4_Does_sig) (out := r4_Does_out) rfl Try.call18 (fun X => by kernel_rfl)

def r1_Words_sig : Shape := ⟨[(.list (.int .i64)), (.list (.int .i64))], [(0, .v 0), (1, .v 1)], []⟩
def r1_Words_out : Shape := ⟨[.bool], [(0, .v 0)], []⟩
noncomputable def r1_Words_ce : CE := ⟨7, r1_Words_sig, r1_Words_out, fun X => r1_Words X.1 X.2⟩
theorem r1_Words_ok : CE.ok Try.prog r1_Words_ce := CE.of (Γ := []) (by kernel_rfl) TT_ok (GOK.nil) ⟨[(4, ⟨⟨[(.int .i64)], [(5, .v 0)], []⟩, [4, 11, 12, 13, 14, 15, 16, 17, 18, 19, 20, 21, 22, 23, 24, 25], [], [], 0, []⟩)], [], [(6, [(0, 0), (0, 1), (0, 2), (0, 3), (0, 4), (0, 5), (0, 6), (0, 7), (0, 8)])], []⟩ Try.func7 rfl Try.ntmps7 (rs := [.tmp 4]) rfl (sig := r1_Words_sig) (out := r1_Words_out) rfl Try.call7 (fun X => by kernel_rfl)

def r4_Elements_sig : Shape := ⟨[(.pair (.int .i64) (.pair (.int .i64) (.pair (.list (.list (.int .i64))) (.pair (.list (.int .i64)) .unit))))], [(0, .v 0)], []⟩
def r4_Elements_out : Shape := ⟨[(.list (.pair (.list (.int .i64)) (.pair (.list (.int .i64)) .unit)))], [(0, .own 0)], [(0, .arr 45 0)]⟩
noncomputable def r4_Elements_ce : CE := ⟨12, r4_Elements_sig, r4_Elements_out, fun X => r4_Elements X⟩
theorem r4_Elements_ok : CE.ok Try.prog r4_Elements_ce := CE.of (Γ := [r4_Does_ce, r1_Words_ce]) (by kernel_rfl) TT_ok (GOK.cons r4_Does_ok (GOK.cons r1_Words_ok (GOK.nil))) ⟨[(4, ⟨⟨[(.int .i64), (.list (.pair (.list (.int .i64)) (.pair (.list (.int .i64)) .unit)))], [(4, .own 2), (5, .v 0)], [(2, .arr 45 1)]⟩, [6, 7, 8, 9, 10, 15, 16, 17, 18, 19, 20, 21, 22, 23, 24, 25, 26, 27, 28, 29, 30, 31, 32, 33, 34, 35, 36, 37, 38, 39, 40, 41, 42, 43, 44, 45, 46, 47, 48, 49, 50, 51, 52, 53, 54, 55, 56, 57, 58, 59, 60, 61, 62, 63, 64, 65, 66], [], [0], 3, []⟩), (7, ⟨⟨[(.int .i64), (.list (.pair (.list (.int .i64)) (.pair (.list (.int .i64)) .unit)))], [(4, .own 2), (6, .v 0)], [(2, .arr 45 1)]⟩, [7, 8, 9, 10, 17, 22, 23, 24, 25, 26, 27, 28, 29, 30, 31, 32, 33, 34, 35, 36, 37, 38, 39, 40, 41, 42, 43, 44, 45, 46, 47, 48, 49, 50, 51, 52, 53, 54, 55, 56, 57, 58, 59, 60, 61, 62, 63, 64, 65, 66], [], [0], 3, []⟩), (14, ⟨⟨[.bool, (.int .i64)], [(9, .v 0), (10, .v 1)], []⟩, [28, 34, 35, 42, 43, 44, 45, 46, 47, 48, 49, 50, 51, 52, 53, 54, 55, 56, 57, 58], [], [0, 2, 5, 6, 7], 8, []⟩)], [(14, ⟨⟨[.bool], [(49, .v 0)], []⟩, [42, 43, 44, 45, 46, 47, 48], [], [0, 2, 5, 6, 7], 8, []⟩)], [], []⟩ Try.func12 rfl Try.ntmps12 (rs := [.tmp 2]) rfl (sig := r4_Elements_sig) (out := r4_Elements_out) rfl Try.call12 (fun X => by kernel_rfl)

def r4_Turns_sig : Shape := ⟨[(.list (.int .i64)), (.int .i64)], [(0, .v 0), (1, .v 1)], []⟩
def r4_Turns_out : Shape := ⟨[(.int .i64)], [(0, .v 0)], []⟩
noncomputable def r4_Turns_ce : CE := ⟨13, r4_Turns_sig, r4_Turns_out, fun X => r4_Turns X.1 X.2⟩
theorem r4_Turns_ok : CE.ok Try.prog r4_Turns_ce := CE.of (Γ := []) (by kernel_rfl) TT_ok (GOK.nil) ⟨[(3, ⟨⟨[(.int .i64), (.int .i64)], [(5, .v 0), (6, .v 1)], []⟩, [11, 12, 13, 14, 15, 16, 17, 18, 19, 20, 21, 22, 23, 24, 25], [], [], 0, []⟩)], [(3, ⟨⟨[.bool], [(19, .v 0)], []⟩, [11, 12, 13, 14, 15, 16, 17, 18], [], [], 0, []⟩)], [], []⟩ Try.func13 rfl Try.ntmps13 (rs := [.tmp 4]) rfl (sig := r4_Turns_sig) (out := r4_Turns_out) rfl Try.call13 (fun X => by kernel_rfl)

def r4_Counts_sig : Shape := ⟨[(.pair (.int .i64) (.pair (.int .i64) (.pair (.list (.list (.int .i64))) (.pair (.list (.int .i64)) .unit))))], [(0, .v 0)], []⟩
def r4_Counts_out : Shape := ⟨[(.list (.int .i64)), (.int .i64)], [(0, .v 0), (1, .v 1)], []⟩
noncomputable def r4_Counts_ce : CE := ⟨6, r4_Counts_sig, r4_Counts_out, fun X => r4_Counts X⟩
theorem r4_Counts_ok : CE.ok Try.prog r4_Counts_ce := CE.of (Γ := [r4_Elements_ce, r4_Turns_ce]) (by kernel_rfl) TT_ok (GOK.cons r4_Elements_ok (GOK.cons r4_Turns_ok (GOK.nil))) ⟨[(3, ⟨⟨[(.int .i64)], [(5, .v 0)], []⟩, [2, 3, 6, 7, 8, 11, 12, 13, 14, 15, 16, 17, 18, 19, 20, 21, 22, 23, 24, 25, 26, 27, 28, 29, 30, 31, 32, 33, 34, 35, 36, 37, 38, 39, 40, 41, 42, 43, 44, 45, 46, 47, 48, 49, 50], [], [0, 1], 2, []⟩), (7, ⟨⟨[(.int .i64), (.int .i64)], [(6, .v 0), (7, .v 1)], []⟩, [8, 17, 18, 19, 20, 21, 22, 23, 24, 25, 26, 27, 28, 29, 30, 31, 32, 33, 34, 35, 36, 37, 38, 39, 40, 41, 42], [], [0, 1], 2, []⟩)], [], [], []⟩ Try.func6 rfl Try.ntmps6 (rs := [.tmp 2, .tmp 3]) rfl (sig := r4_Counts_sig) (out := r4_Counts_out) rfl Try.call6 (fun X => by kernel_rfl)

def law_MonoidCounts_sig : Shape := ⟨[(.pair (.int .i64) (.pair (.int .i64) (.pair (.list (.list (.int .i64))) (.pair (.list (.int .i64)) .unit))))], [(0, .v 0)], []⟩
def law_MonoidCounts_out : Shape := ⟨[.bool], [(0, .v 0)], []⟩
noncomputable def law_MonoidCounts_ce : CE := ⟨3, law_MonoidCounts_sig, law_MonoidCounts_out, fun X => law_MonoidCounts X⟩
theorem law_MonoidCounts_ok : CE.ok Try.prog law_MonoidCounts_ce := CE.of (Γ := [monoid_Counts_ce, law_small_ce, r4_Counts_ce, r1_Words_ce]) (by kernel_rfl) TT_ok (GOK.cons monoid_Counts_ok (GOK.cons law_small_ok (GOK.cons r4_Counts_ok (GOK.cons r1_Words_ok (GOK.nil))))) ⟨[], [], [], []⟩ Try.func3 rfl Try.ntmps3 (rs := [.tmp 2]) rfl (sig := law_MonoidCounts_sig) (out := law_MonoidCounts_out) rfl Try.call3 (fun X => by kernel_rfl)

end Go.Proofs.Ytmjgkbhiogegbaa.monoidCountsW
