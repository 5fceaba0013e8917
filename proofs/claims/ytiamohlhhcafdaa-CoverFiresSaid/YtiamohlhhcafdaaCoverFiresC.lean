/- That the functions of 'CoverFires' compute so. -/
import Derived.Test.YtiamohlhhcafdaaCoverFiresD
import Derived.Test.YtiamohlhhcafdaaProg
import Derived.KernelRfl
set_option maxHeartbeats 1000000
set_option maxRecDepth 20000
set_option linter.unusedSimpArgs false
set_option linter.unusedVariables false
namespace Go.Proofs.Ytiamohlhhcafdaa.coverFiresW
open Go Go.Ab
def te3 : TE := ⟨3, .int .i64, false, 1, 8, .int .i64 0, some (.int .i64)⟩
theorem te3_ok : TEok Try.prog te3 := ⟨TI.of Try.underlying3 rfl (by kernel_rfl), Try.underlying3, fun t h => by cases h; exact ⟨rfl, rfl, by decide, rfl⟩⟩
def te4 : TE := ⟨4, .bool, false, 1, 1, .bool false, some .bool⟩
theorem te4_ok : TEok Try.prog te4 := ⟨TI.of Try.underlying4 rfl (by kernel_rfl), Try.underlying4, fun t h => by cases h; exact ⟨rfl, rfl, by decide, rfl⟩⟩
def te25 : TE := ⟨25, .int .i64, false, 1, 8, .int .i64 0, some (.int .i64)⟩
theorem te25_ok : TEok Try.prog te25 := ⟨TI.of Try.underlying25 rfl (by kernel_rfl), Try.underlying25, fun t h => by cases h; exact ⟨rfl, rfl, by decide, rfl⟩⟩
def te31 : TE := ⟨31, .slice 32, false, 1, 24, .slice none 0 0, some (.list (.list (.int .i64)))⟩
theorem te31_ok : TEok Try.prog te31 := ⟨TI.of Try.underlying31 rfl (by kernel_rfl), Try.underlying31, fun t h => by cases h; exact ⟨rfl, rfl, by decide, rfl⟩⟩
def te32 : TE := ⟨32, .slice 3, false, 1, 24, .slice none 0 0, some (.list (.int .i64))⟩
theorem te32_ok : TEok Try.prog te32 := ⟨TI.of Try.underlying32 rfl (by kernel_rfl), Try.underlying32, fun t h => by cases h; exact ⟨rfl, rfl, by decide, rfl⟩⟩
def te62 : TE := ⟨62, .struct [(0, 3), (1, 31), (2, 31)], true, 3, 56, .agg ⟨[.int .i64 0, .slice none 0 0, .slice none 0 0]⟩, some (.pair (.int .i64) (.pair (.list (.list (.int .i64))) (.pair (.list (.list (.int .i64))) .unit)))⟩
theorem te62_ok : TEok Try.prog te62 := ⟨TI.of Try.underlying62 rfl (by kernel_rfl), ⟨_, Try.underlying62, rfl⟩, fun t h => by cases h; exact ⟨rfl, rfl, by decide, rfl⟩⟩
def te92 : TE := ⟨92, .slice 31, false, 1, 24, .slice none 0 0, some (.list (.list (.list (.int .i64))))⟩
theorem te92_ok : TEok Try.prog te92 := ⟨TI.of Try.underlying92 rfl (by kernel_rfl), Try.underlying92, fun t h => by cases h; exact ⟨rfl, rfl, by decide, rfl⟩⟩
def TT : List TE := [te3, te4, te25, te31, te32, te62, te92]
theorem TT_ok : TOK Try.prog TT := TOK.cons te3_ok (TOK.cons te4_ok (TOK.cons te25_ok (TOK.cons te31_ok (TOK.cons te32_ok (TOK.cons te62_ok (TOK.cons te92_ok (TOK.nil)))))))

def slices_Grow_sig : Shape := ⟨[(.int .i64)], [(0, .nil), (1, .v 0)], []⟩
def slices_Grow_out : Shape := ⟨[(.list (.list (.int .i64)))], [(0, .own 0)], [(0, .arr 32 0)]⟩
noncomputable def slices_Grow_ce : CE := ⟨143, slices_Grow_sig, slices_Grow_out, fun X => slices_Grow X⟩
theorem slices_Grow_ok : CE.ok Try.prog slices_Grow_ce := CE.of (Γ := []) (by kernel_rfl) TT_ok (GOK.nil) ⟨[], [], [(5, [(0, 0), (0, 1), (0, 2), (0, 3), (0, 4), (2, 5), (0, 6), (0, 7), (1, 8), (0, 9)])], []⟩ Try.func143 rfl Try.ntmps143 (rs := [.tmp 4]) rfl (sig := slices_Grow_sig) (out := slices_Grow_out) rfl Try.call143 (fun X => by kernel_rfl)

def slices_Concat_sig : Shape := ⟨[(.list (.list (.list (.int .i64))))], [(0, .v 0)], []⟩
def slices_Concat_out : Shape := ⟨[(.list (.list (.int .i64)))], [(0, .own 0)], [(0, .arr 32 0)]⟩
noncomputable def slices_Concat_ce : CE := ⟨91, slices_Concat_sig, slices_Concat_out, fun X => slices_Concat X⟩
theorem slices_Concat_ok : CE.ok Try.prog slices_Concat_ce := CE.of (Γ := [slices_Grow_ce]) (by kernel_rfl) TT_ok (GOK.cons slices_Grow_ok (GOK.nil)) ⟨[(3, ⟨⟨[(.int .i64), (.int .i64)], [(3, .v 0), (11, .v 1)], []⟩, [5, 12, 13, 14, 15, 16, 17, 18, 19, 20, 21, 22], [], [], 0, []⟩), (11, ⟨⟨[(.int .i64), (.list (.list (.int .i64)))], [(6, .own 0), (27, .v 0)], [(0, .arr 32 1)]⟩, [8, 24, 28, 29, 30, 31, 32, 33, 34], [], [], 1, []⟩)], [], [], []⟩ Try.func91 rfl Try.ntmps91 (rs := [.tmp 2]) rfl (sig := slices_Concat_sig) (out := slices_Concat_out) rfl Try.call91 (fun X => by kernel_rfl)

def cover_Check_1_sig : Shape := ⟨[(.list (.int .i64)), (.pair (.int .i64) (.pair (.list (.list (.int .i64))) (.pair (.list (.list (.int .i64))) .unit)))], [(0, .v 0), (1, .addr 1)], []⟩
def cover_Check_1_out : Shape := ⟨[.bool], [(0, .v 0)], []⟩
noncomputable def cover_Check_1_ce : CE := ⟨93, cover_Check_1_sig, cover_Check_1_out, fun X => cover_Check_1 X.1 X.2⟩
theorem cover_Check_1_ok : CE.ok Try.prog cover_Check_1_ce := CE.of (Γ := []) (by kernel_rfl) TT_ok (GOK.nil) ⟨[], [], [], []⟩ Try.func93 rfl Try.ntmps93 (rs := [.tmp 3]) rfl (sig := cover_Check_1_sig) (out := cover_Check_1_out) rfl Try.call93 (fun X => by kernel_rfl)

def slices_IndexFunc_sig : Shape := ⟨[(.list (.list (.int .i64))), (.pair (.int .i64) (.pair (.list (.list (.int .i64))) (.pair (.list (.list (.int .i64))) .unit)))], [(0, .v 0), (1, .fn 93 [.addr 1])], []⟩
def slices_IndexFunc_out : Shape := ⟨[(.int .i64)], [(0, .v 0)], []⟩
noncomputable def slices_IndexFunc_ce : CE := ⟨144, slices_IndexFunc_sig, slices_IndexFunc_out, fun X => slices_IndexFunc X.1 X.2⟩
theorem slices_IndexFunc_ok : CE.ok Try.prog slices_IndexFunc_ce := CE.of (Γ := [cover_Check_1_ce]) (by kernel_rfl) TT_ok (GOK.cons cover_Check_1_ok (GOK.nil)) ⟨[(2, ⟨⟨[(.int .i64)], [(8, .v 0)], []⟩, [4, 5, 9, 10, 11, 12, 13, 14, 15, 16, 17, 18], [], [], 0, []⟩)], [], [], []⟩ Try.func144 rfl Try.ntmps144 (rs := [.tmp 4]) rfl (sig := slices_IndexFunc_sig) (out := slices_IndexFunc_out) rfl Try.call144 (fun X => by kernel_rfl)

def slices_ContainsFunc_sig : Shape := ⟨[(.list (.list (.int .i64))), (.pair (.int .i64) (.pair (.list (.list (.int .i64))) (.pair (.list (.list (.int .i64))) .unit)))], [(0, .v 0), (1, .fn 93 [.addr 1])], []⟩
def slices_ContainsFunc_out : Shape := ⟨[.bool], [(0, .v 0)], []⟩
noncomputable def slices_ContainsFunc_ce : CE := ⟨92, slices_ContainsFunc_sig, slices_ContainsFunc_out, fun X => slices_ContainsFunc X.1 X.2⟩
theorem slices_ContainsFunc_ok : CE.ok Try.prog slices_ContainsFunc_ce := CE.of (Γ := [slices_IndexFunc_ce]) (by kernel_rfl) TT_ok (GOK.cons slices_IndexFunc_ok (GOK.nil)) ⟨[], [], [], []⟩ Try.func92 rfl Try.ntmps92 (rs := [.tmp 4]) rfl (sig := slices_ContainsFunc_sig) (out := slices_ContainsFunc_out) rfl Try.call92 (fun X => by kernel_rfl)

def cover_beyond_1_sig : Shape := ⟨[(.int .i64), (.int .i64)], [(0, .v 0), (1, .addr 1)], []⟩
def cover_beyond_1_out : Shape := ⟨[.bool], [(0, .v 0)], []⟩
noncomputable def cover_beyond_1_ce : CE := ⟨145, cover_beyond_1_sig, cover_beyond_1_out, fun X => cover_beyond_1 X.1 X.2⟩
theorem cover_beyond_1_ok : CE.ok Try.prog cover_beyond_1_ce := CE.of (Γ := []) (by kernel_rfl) TT_ok (GOK.nil) ⟨[], [], [], []⟩ Try.func145 rfl Try.ntmps145 (rs := [.tmp 3]) rfl (sig := cover_beyond_1_sig) (out := cover_beyond_1_out) rfl Try.call145 (fun X => by kernel_rfl)

def slices_IndexFunc_2_sig : Shape := ⟨[(.list (.int .i64)), (.int .i64)], [(0, .v 0), (1, .fn 145 [.addr 1])], []⟩
def slices_IndexFunc_2_out : Shape := ⟨[(.int .i64)], [(0, .v 0)], []⟩
noncomputable def slices_IndexFunc_2_ce : CE := ⟨159, slices_IndexFunc_2_sig, slices_IndexFunc_2_out, fun X => slices_IndexFunc_2 X.1 X.2⟩
theorem slices_IndexFunc_2_ok : CE.ok Try.prog slices_IndexFunc_2_ce := CE.of (Γ := [cover_beyond_1_ce]) (by kernel_rfl) TT_ok (GOK.cons cover_beyond_1_ok (GOK.nil)) ⟨[(2, ⟨⟨[(.int .i64)], [(8, .v 0)], []⟩, [4, 5, 9, 10, 11, 12, 13, 14, 15, 16, 17, 18], [], [], 0, []⟩)], [], [], []⟩ Try.func159 rfl Try.ntmps159 (rs := [.tmp 4]) rfl (sig := slices_IndexFunc_2_sig) (out := slices_IndexFunc_2_out) rfl Try.call159 (fun X => by kernel_rfl)

def slices_ContainsFunc_2_sig : Shape := ⟨[(.list (.int .i64)), (.int .i64)], [(0, .v 0), (1, .fn 145 [.addr 1])], []⟩
def slices_ContainsFunc_2_out : Shape := ⟨[.bool], [(0, .v 0)], []⟩
noncomputable def slices_ContainsFunc_2_ce : CE := ⟨115, slices_ContainsFunc_2_sig, slices_ContainsFunc_2_out, fun X => slices_ContainsFunc_2 X.1 X.2⟩
theorem slices_ContainsFunc_2_ok : CE.ok Try.prog slices_ContainsFunc_2_ce := CE.of (Γ := [slices_IndexFunc_2_ce]) (by kernel_rfl) TT_ok (GOK.cons slices_IndexFunc_2_ok (GOK.nil)) ⟨[], [], [], []⟩ Try.func115 rfl Try.ntmps115 (rs := [.tmp 4]) rfl (sig := slices_ContainsFunc_2_sig) (out := slices_ContainsFunc_2_out) rfl Try.call115 (fun X => by kernel_rfl)

def cover_beyond_sig : Shape := ⟨[(.list (.int .i64)), (.int .i64)], [(0, .v 0), (1, .v 1)], []⟩
def cover_beyond_out : Shape := ⟨[.bool], [(0, .v 0)], []⟩
noncomputable def cover_beyond_ce : CE := ⟨95, cover_beyond_sig, cover_beyond_out, fun X => cover_beyond X.1 X.2⟩
theorem cover_beyond_ok : CE.ok Try.prog cover_beyond_ce := CE.of (Γ := [slices_ContainsFunc_2_ce]) (by kernel_rfl) TT_ok (GOK.cons slices_ContainsFunc_2_ok (GOK.nil)) ⟨[], [], [], []⟩ Try.func95 rfl Try.ntmps95 (rs := [.tmp 4]) rfl (sig := cover_beyond_sig) (out := cover_beyond_out) rfl Try.call95 (fun X => by kernel_rfl)

def cover_Check_2_sig : Shape := ⟨[(.list (.int .i64))], [(0, .v 0)], []⟩
def cover_Check_2_out : Shape := ⟨[.bool], [(0, .v 0)], []⟩
noncomputable def cover_Check_2_ce : CE := ⟨94, cover_Check_2_sig, cover_Check_2_out, fun X => cover_Check_2 X⟩
theorem cover_Check_2_ok : CE.ok Try.prog cover_Check_2_ce := CE.of (Γ := [cover_beyond_ce]) (by kernel_rfl) TT_ok (GOK.cons cover_beyond_ok (GOK.nil)) ⟨[], [], [], []⟩ Try.func94 rfl Try.ntmps94 (rs := [.tmp 2]) rfl (sig := cover_Check_2_sig) (out := cover_Check_2_out) rfl Try.call94 (fun X => by kernel_rfl)

def slices_IndexFunc_1_sig : Shape := ⟨[(.list (.list (.int .i64)))], [(0, .v 0), (1, .fn 94 [])], []⟩
def slices_IndexFunc_1_out : Shape := ⟨[(.int .i64)], [(0, .v 0)], []⟩
noncomputable def slices_IndexFunc_1_ce : CE := ⟨144, slices_IndexFunc_1_sig, slices_IndexFunc_1_out, fun X => slices_IndexFunc_1 X⟩
theorem slices_IndexFunc_1_ok : CE.ok Try.prog slices_IndexFunc_1_ce := CE.of (Γ := [cover_Check_2_ce]) (by kernel_rfl) TT_ok (GOK.cons cover_Check_2_ok (GOK.nil)) ⟨[(2, ⟨⟨[(.int .i64)], [(8, .v 0)], []⟩, [4, 5, 9, 10, 11, 12, 13, 14, 15, 16, 17, 18], [], [], 0, []⟩)], [], [], []⟩ Try.func144 rfl Try.ntmps144 (rs := [.tmp 4]) rfl (sig := slices_IndexFunc_1_sig) (out := slices_IndexFunc_1_out) rfl Try.call144 (fun X => by kernel_rfl)

def slices_ContainsFunc_1_sig : Shape := ⟨[(.list (.list (.int .i64)))], [(0, .v 0), (1, .fn 94 [])], []⟩
def slices_ContainsFunc_1_out : Shape := ⟨[.bool], [(0, .v 0)], []⟩
noncomputable def slices_ContainsFunc_1_ce : CE := ⟨92, slices_ContainsFunc_1_sig, slices_ContainsFunc_1_out, fun X => slices_ContainsFunc_1 X⟩
theorem slices_ContainsFunc_1_ok : CE.ok Try.prog slices_ContainsFunc_1_ce := CE.of (Γ := [slices_IndexFunc_1_ce]) (by kernel_rfl) TT_ok (GOK.cons slices_IndexFunc_1_ok (GOK.nil)) ⟨[], [], [], []⟩ Try.func92 rfl Try.ntmps92 (rs := [.tmp 4]) rfl (sig := slices_ContainsFunc_1_sig) (out := slices_ContainsFunc_1_out) rfl Try.call92 (fun X => by kernel_rfl)

def cover_Check_sig : Shape := ⟨[(.pair (.int .i64) (.pair (.list (.list (.int .i64))) (.pair (.list (.list (.int .i64))) .unit)))], [(0, .v 0)], []⟩
def cover_Check_out : Shape := ⟨[(.int .i64)], [(0, .v 0)], []⟩
noncomputable def cover_Check_ce : CE := ⟨31, cover_Check_sig, cover_Check_out, fun X => cover_Check X⟩
theorem cover_Check_ok : CE.ok Try.prog cover_Check_ce := CE.of (Γ := [slices_Concat_ce, slices_ContainsFunc_ce, slices_ContainsFunc_1_ce]) (by kernel_rfl) TT_ok (GOK.cons slices_Concat_ok (GOK.cons slices_ContainsFunc_ok (GOK.cons slices_ContainsFunc_1_ok (GOK.nil)))) ⟨[], [], [], []⟩ Try.func31 rfl Try.ntmps31 (rs := [.tmp 2]) rfl (sig := cover_Check_sig) (out := cover_Check_out) rfl Try.call31 (fun X => by kernel_rfl)

def r19_row_sig : Shape := ⟨[(.list (.int .i64)), (.int .i64), (.int .i64)], [(0, .v 0), (1, .v 1), (2, .v 2)], []⟩
def r19_row_out : Shape := ⟨[(.int .i64)], [(0, .v 0)], []⟩
noncomputable def r19_row_ce : CE := ⟨96, r19_row_sig, r19_row_out, fun X => r19_row X.1 X.2.1 X.2.2⟩
theorem r19_row_ok : CE.ok Try.prog r19_row_ce := CE.of (Γ := []) (by kernel_rfl) TT_ok (GOK.nil) ⟨[(4, ⟨⟨[(.int .i64)], [(7, .v 0)], []⟩, [6, 12, 13, 14, 15, 16, 17, 18, 19, 20, 21, 22, 23, 24, 25, 26, 27, 28, 29, 30], [], [], 0, []⟩)], [], [], []⟩ Try.func96 rfl Try.ntmps96 (rs := [.tmp 6]) rfl (sig := r19_row_sig) (out := r19_row_out) rfl Try.call96 (fun X => by kernel_rfl)

def r19_Check_sig : Shape := ⟨[(.pair (.int .i64) (.pair (.list (.list (.int .i64))) (.pair (.list (.list (.int .i64))) .unit)))], [(0, .v 0)], []⟩
def r19_Check_out : Shape := ⟨[(.int .i64)], [(0, .v 0)], []⟩
noncomputable def r19_Check_ce : CE := ⟨32, r19_Check_sig, r19_Check_out, fun X => r19_Check X⟩
theorem r19_Check_ok : CE.ok Try.prog r19_Check_ce := CE.of (Γ := [r19_row_ce]) (by kernel_rfl) TT_ok (GOK.cons r19_row_ok (GOK.nil)) ⟨[(7, ⟨⟨[(.int .i64), (.int .i64)], [(3, .v 0), (4, .v 1)], []⟩, [2, 5, 6, 28, 29, 30, 31, 32, 33, 34, 35, 36, 37, 38, 39, 40, 41, 42, 43, 44, 45, 46, 47, 48, 49, 50, 51, 52, 53, 54, 55, 56, 57, 58, 59, 60, 61, 62], [], [0], 1, []⟩)], [], [(9, [(0, 0), (0, 1), (0, 2), (0, 3), (0, 4), (0, 5), (0, 6), (1, 7), (0, 8)]), (10, [(0, 0), (0, 1), (0, 2), (0, 3), (0, 4), (0, 5), (0, 6), (1, 7), (0, 8)])], []⟩ Try.func32 rfl Try.ntmps32 (rs := [.tmp 2]) rfl (sig := r19_Check_sig) (out := r19_Check_out) rfl Try.call32 (fun X => by kernel_rfl)

def cover_checked_sig : Shape := ⟨[(.pair (.int .i64) (.pair (.list (.list (.int .i64))) (.pair (.list (.list (.int .i64))) .unit))), (.list (.list (.int .i64)))], [(0, .v 0), (1, .v 1)], []⟩
def cover_checked_out : Shape := ⟨[(.int .i64)], [(0, .v 0)], []⟩
noncomputable def cover_checked_ce : CE := ⟨97, cover_checked_sig, cover_checked_out, fun X => cover_checked X.1 X.2⟩
theorem cover_checked_ok : CE.ok Try.prog cover_checked_ce := CE.of (Γ := [cover_Check_ce, cover_beyond_ce]) (by kernel_rfl) TT_ok (GOK.cons cover_Check_ok (GOK.cons cover_beyond_ok (GOK.nil))) ⟨[(5, ⟨⟨[(.int .i64)], [(15, .v 0)], []⟩, [4, 7, 16, 17, 18, 19, 20, 21, 22, 23, 24, 25, 26], [], [0], 1, []⟩)], [], [], []⟩ Try.func97 rfl Try.ntmps97 (rs := [.tmp 4]) rfl (sig := cover_checked_sig) (out := cover_checked_out) rfl Try.call97 (fun X => by kernel_rfl)

def cover_covers_sig : Shape := ⟨[(.list (.int .i64)), (.list (.int .i64))], [(0, .v 0), (1, .v 1)], []⟩
def cover_covers_out : Shape := ⟨[.bool], [(0, .v 0)], []⟩
noncomputable def cover_covers_ce : CE := ⟨98, cover_covers_sig, cover_covers_out, fun X => cover_covers X.1 X.2⟩
theorem cover_covers_ok : CE.ok Try.prog cover_covers_ce := CE.of (Γ := []) (by kernel_rfl) TT_ok (GOK.nil) ⟨[(2, ⟨⟨[(.int .i64)], [(8, .v 0)], []⟩, [4, 5, 9, 10, 11, 12, 13, 14, 15, 16, 17, 18, 19, 20], [], [], 0, []⟩)], [], [(4, [(0, 0), (0, 1), (0, 2), (0, 3), (0, 4), (0, 5), (0, 6), (0, 7), (0, 8)])], []⟩ Try.func98 rfl Try.ntmps98 (rs := [.tmp 4]) rfl (sig := cover_covers_sig) (out := cover_covers_out) rfl Try.call98 (fun X => by kernel_rfl)

def slices_Clone_sig : Shape := ⟨[(.list (.int .i64))], [(0, .v 0)], []⟩
def slices_Clone_out : Shape := ⟨[(.list (.int .i64))], [(0, .own 0)], [(0, .arr 3 0)]⟩
noncomputable def slices_Clone_ce : CE := ⟨68, slices_Clone_sig, slices_Clone_out, fun X => slices_Clone X⟩
theorem slices_Clone_ok : CE.ok Try.prog slices_Clone_ce := CE.of (Γ := []) (by kernel_rfl) TT_ok (GOK.nil) ⟨[], [], [], []⟩ Try.func68 rfl Try.ntmps68 (rs := [.tmp 2]) rfl (sig := slices_Clone_sig) (out := slices_Clone_out) rfl Try.call68 (fun X => by kernel_rfl)

def cover_done_sig : Shape := ⟨[(.pair (.int .i64) (.pair (.list (.list (.int .i64))) (.pair (.list (.list (.int .i64))) .unit))), (.list (.int .i64)), (.int .i64)], [(0, .v 0), (1, .v 1), (2, .v 2)], []⟩
def cover_done_out : Shape := ⟨[(.list (.int .i64))], [(0, .own 0)], [(0, .arr 3 0)]⟩
noncomputable def cover_done_ce : CE := ⟨99, cover_done_sig, cover_done_out, fun X => cover_done X.1 X.2.1 X.2.2⟩
theorem cover_done_ok : CE.ok Try.prog cover_done_ce := CE.of (Γ := [slices_Clone_ce]) (by kernel_rfl) TT_ok (GOK.cons slices_Clone_ok (GOK.nil)) ⟨[(3, ⟨⟨[(.int .i64), (.list (.int .i64))], [(7, .own 1), (13, .v 0)], [(1, .arr 3 1)]⟩, [8, 10, 11, 14, 15, 16, 17, 18, 19, 20, 21, 22, 23, 24, 25, 26, 27, 28, 29, 30, 31, 32, 33, 34, 35, 36, 37, 38, 39], [], [0], 2, []⟩)], [], [(5, [(0, 0), (0, 1), (0, 2), (0, 3), (0, 4), (0, 5), (0, 6), (0, 7), (0, 8), (0, 9), (0, 10), (0, 11), (0, 12), (0, 13), (0, 14), (0, 15), (0, 16), (0, 17), (0, 18), (0, 19), (0, 20), (0, 21), (0, 22), (2, 23)])], []⟩ Try.func99 rfl Try.ntmps99 (rs := [.tmp 6]) rfl (sig := cover_done_sig) (out := cover_done_out) rfl Try.call99 (fun X => by kernel_rfl)

def cover_Fire_sig : Shape := ⟨[(.pair (.int .i64) (.pair (.list (.list (.int .i64))) (.pair (.list (.list (.int .i64))) .unit))), (.list (.int .i64)), (.int .i64)], [(0, .v 0), (1, .v 1), (2, .v 2)], []⟩
def cover_Fire_out : Shape := ⟨[(.int .i64), (.list (.int .i64))], [(0, .own 0), (1, .v 0)], [(0, .arr 3 1)]⟩
noncomputable def cover_Fire_ce : CE := ⟨33, cover_Fire_sig, cover_Fire_out, fun X => cover_Fire X.1 X.2.1 X.2.2⟩
theorem cover_Fire_ok : CE.ok Try.prog cover_Fire_ce := CE.of (Γ := [cover_checked_ce, cover_covers_ce, cover_done_ce]) (by kernel_rfl) TT_ok (GOK.cons cover_checked_ok (GOK.cons cover_covers_ok (GOK.cons cover_done_ok (GOK.nil)))) ⟨[], [], [], []⟩ Try.func33 rfl Try.ntmps33 (rs := [.tmp 6, .tmp 7]) rfl (sig := cover_Fire_sig) (out := cover_Fire_out) rfl Try.call33 (fun X => by kernel_rfl)

def r19_State_sig : Shape := ⟨[(.pair (.int .i64) (.pair (.list (.list (.int .i64))) (.pair (.list (.list (.int .i64))) .unit))), (.list (.int .i64))], [(0, .v 0), (1, .v 1)], []⟩
def r19_State_out : Shape := ⟨[(.int .i64)], [(0, .v 0)], []⟩
noncomputable def r19_State_ce : CE := ⟨100, r19_State_sig, r19_State_out, fun X => r19_State X.1 X.2⟩
theorem r19_State_ok : CE.ok Try.prog r19_State_ce := CE.of (Γ := [r19_row_ce]) (by kernel_rfl) TT_ok (GOK.cons r19_row_ok (GOK.nil)) ⟨[], [], [], []⟩ Try.func100 rfl Try.ntmps100 (rs := [.tmp 4]) rfl (sig := r19_State_sig) (out := r19_State_out) rfl Try.call100 (fun X => by kernel_rfl)

def law_heaps_sig : Shape := ⟨[(.pair (.int .i64) (.pair (.list (.list (.int .i64))) (.pair (.list (.list (.int .i64))) .unit))), (.list (.list (.int .i64)))], [(0, .v 0), (1, .v 1)], []⟩
def law_heaps_out : Shape := ⟨[(.int .i64)], [(0, .v 0)], []⟩
noncomputable def law_heaps_ce : CE := ⟨34, law_heaps_sig, law_heaps_out, fun X => law_heaps X.1 X.2⟩
theorem law_heaps_ok : CE.ok Try.prog law_heaps_ce := CE.of (Γ := [r19_Check_ce, r19_State_ce]) (by kernel_rfl) TT_ok (GOK.cons r19_Check_ok (GOK.cons r19_State_ok (GOK.nil))) ⟨[(3, ⟨⟨[(.int .i64), (.int .i64)], [(5, .v 0), (6, .v 1)], []⟩, [9, 10, 11, 12, 13, 14, 15, 16, 17, 18, 19, 20, 21, 22, 23, 24], [], [0], 1, []⟩)], [(3, ⟨⟨[.bool], [(16, .v 0)], []⟩, [9, 10, 11, 12, 13, 14, 15], [], [0], 1, []⟩)], [(5, [(0, 0), (0, 1), (0, 2), (0, 3), (0, 4), (1, 5), (0, 6)])], []⟩ Try.func34 rfl Try.ntmps34 (rs := [.tmp 4]) rfl (sig := law_heaps_sig) (out := law_heaps_out) rfl Try.call34 (fun X => by kernel_rfl)

def r19_Covers_sig : Shape := ⟨[(.list (.int .i64)), (.list (.int .i64))], [(0, .v 0), (1, .v 1)], []⟩
def r19_Covers_out : Shape := ⟨[.bool], [(0, .v 0)], []⟩
noncomputable def r19_Covers_ce : CE := ⟨35, r19_Covers_sig, r19_Covers_out, fun X => r19_Covers X.1 X.2⟩
theorem r19_Covers_ok : CE.ok Try.prog r19_Covers_ce := CE.of (Γ := []) (by kernel_rfl) TT_ok (GOK.nil) ⟨[(2, ⟨⟨[(.int .i64)], [(5, .v 0)], []⟩, [4, 6, 7, 8, 9, 10, 11, 12, 13, 14, 15, 16, 17, 18, 19, 20], [], [], 0, []⟩)], [], [(4, [(0, 0), (0, 1), (0, 2), (0, 3), (0, 4), (0, 5), (0, 6), (0, 7), (0, 8)])], []⟩ Try.func35 rfl Try.ntmps35 (rs := [.tmp 4]) rfl (sig := r19_Covers_sig) (out := r19_Covers_out) rfl Try.call35 (fun X => by kernel_rfl)

def r19_Done_sig : Shape := ⟨[(.pair (.int .i64) (.pair (.list (.list (.int .i64))) (.pair (.list (.list (.int .i64))) .unit))), (.list (.int .i64)), (.int .i64)], [(0, .v 0), (1, .v 1), (2, .v 2)], []⟩
def r19_Done_out : Shape := ⟨[(.list (.int .i64))], [(0, .own 0)], [(0, .arr 3 0)]⟩
noncomputable def r19_Done_ce : CE := ⟨36, r19_Done_sig, r19_Done_out, fun X => r19_Done X.1 X.2.1 X.2.2⟩
theorem r19_Done_ok : CE.ok Try.prog r19_Done_ce := CE.of (Γ := []) (by kernel_rfl) TT_ok (GOK.nil) ⟨[(3, ⟨⟨[(.int .i64), (.list (.int .i64))], [(7, .own 1), (8, .v 0)], [(1, .arr 3 1)]⟩, [9, 10, 11, 12, 13, 14, 15, 16, 17, 18, 19, 20, 21, 22, 23, 24, 25, 26, 27, 28, 29, 30, 31, 32, 33, 34, 35, 36, 37, 38, 39], [], [0], 2, []⟩)], [], [(5, [(0, 0), (0, 1), (0, 2), (0, 3), (0, 4), (0, 5), (0, 6), (0, 7), (0, 8), (0, 9), (0, 10), (0, 11), (0, 12), (0, 13), (0, 14), (0, 15), (0, 16), (0, 17), (0, 18), (0, 19), (0, 20), (0, 21), (0, 22), (1, 23), (2, 24), (0, 25)])], []⟩ Try.func36 rfl Try.ntmps36 (rs := [.tmp 6]) rfl (sig := r19_Done_sig) (out := r19_Done_out) rfl Try.call36 (fun X => by kernel_rfl)

def r1_Words_sig : Shape := ⟨[(.list (.int .i64)), (.list (.int .i64))], [(0, .v 0), (1, .v 1)], []⟩
def r1_Words_out : Shape := ⟨[.bool], [(0, .v 0)], []⟩
noncomputable def r1_Words_ce : CE := ⟨37, r1_Words_sig, r1_Words_out, fun X => r1_Words X.1 X.2⟩
theorem r1_Words_ok : CE.ok Try.prog r1_Words_ce := CE.of (Γ := []) (by kernel_rfl) TT_ok (GOK.nil) ⟨[(4, ⟨⟨[(.int .i64)], [(5, .v 0)], []⟩, [4, 11, 12, 13, 14, 15, 16, 17, 18, 19, 20, 21, 22, 23, 24, 25], [], [], 0, []⟩)], [], [(6, [(0, 0), (0, 1), (0, 2), (0, 3), (0, 4), (0, 5), (0, 6), (0, 7), (0, 8)])], []⟩ Try.func37 rfl Try.ntmps37 (rs := [.tmp 4]) rfl (sig := r1_Words_sig) (out := r1_Words_out) rfl Try.call37 (fun X => by kernel_rfl)

def law_CoverFires_sig : Shape := ⟨[(.pair (.int .i64) (.pair (.list (.list (.int .i64))) (.pair (.list (.list (.int .i64))) .unit))), (.list (.int .i64)), (.int .i64)], [(0, .v 0), (1, .v 1), (2, .v 2)], []⟩
def law_CoverFires_out : Shape := ⟨[.bool], [(0, .v 0)], []⟩
noncomputable def law_CoverFires_ce : CE := ⟨7, law_CoverFires_sig, law_CoverFires_out, fun X => law_CoverFires X.1 X.2.1 X.2.2⟩
theorem law_CoverFires_ok : CE.ok Try.prog law_CoverFires_ce := CE.of (Γ := [cover_Check_ce, r19_Check_ce, cover_Fire_ce, law_heaps_ce, r19_Covers_ce, r19_Done_ce, r1_Words_ce]) (by kernel_rfl) TT_ok (GOK.cons cover_Check_ok (GOK.cons r19_Check_ok (GOK.cons cover_Fire_ok (GOK.cons law_heaps_ok (GOK.cons r19_Covers_ok (GOK.cons r19_Done_ok (GOK.cons r1_Words_ok (GOK.nil)))))))) ⟨[], [(7, ⟨⟨[.bool], [(45, .v 0)], []⟩, [33, 34, 35, 36, 37, 38, 39, 40, 41, 42, 43, 44], [], [0, 1, 2], 3, []⟩), (8, ⟨⟨[(.int .i64)], [(11, .v 0)], []⟩, [33, 34, 35, 36, 37, 38, 39, 40, 41, 42, 43, 44, 45], [], [0, 1, 2], 3, []⟩), (12, ⟨⟨[(.int .i64)], [(11, .v 0)], []⟩, [12, 46, 47, 48, 49, 50, 51, 52, 53, 54, 55, 56], [], [0, 1, 2], 3, []⟩)], [], []⟩ Try.func7 rfl Try.ntmps7 (rs := [.tmp 6]) rfl (sig := law_CoverFires_sig) (out := law_CoverFires_out) rfl Try.call7 (fun X => by kernel_rfl)

end Go.Proofs.Ytiamohlhhcafdaa.coverFiresW
