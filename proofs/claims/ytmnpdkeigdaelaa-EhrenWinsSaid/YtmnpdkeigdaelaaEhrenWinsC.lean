/- That the functions of 'EhrenWins' compute so. -/
import Derived.Test.YtmnpdkeigdaelaaEhrenWinsD
import Derived.Test.YtmnpdkeigdaelaaProg
import Derived.KernelRfl
set_option maxHeartbeats 1000000
set_option maxRecDepth 20000
set_option linter.unusedSimpArgs false
set_option linter.unusedVariables false
set_option linter.unusedSectionVars false
namespace Go.Proofs.Ytmnpdkeigdaelaa.ehrenWinsW
open Go Go.Ab
def te3 : TE := ⟨3, .int .i64, false, 1, 8, .int .i64 0, some (.int .i64)⟩
theorem te3_ok : TEok Try.prog te3 := ⟨TI.of Try.underlying3 rfl (by kernel_rfl), Try.underlying3, fun t h => by cases h; exact ⟨rfl, rfl, by decide, rfl⟩⟩
def te4 : TE := ⟨4, .bool, false, 1, 1, .bool false, some .bool⟩
theorem te4_ok : TEok Try.prog te4 := ⟨TI.of Try.underlying4 rfl (by kernel_rfl), Try.underlying4, fun t h => by cases h; exact ⟨rfl, rfl, by decide, rfl⟩⟩
def te22 : TE := ⟨22, .slice 3, false, 1, 24, .slice none 0 0, some (.list (.int .i64))⟩
theorem te22_ok : TEok Try.prog te22 := ⟨TI.of Try.underlying22 rfl (by kernel_rfl), Try.underlying22, fun t h => by cases h; exact ⟨rfl, rfl, by decide, rfl⟩⟩
def te23 : TE := ⟨23, .int .i64, false, 1, 8, .int .i64 0, some (.int .i64)⟩
theorem te23_ok : TEok Try.prog te23 := ⟨TI.of Try.underlying23 rfl (by kernel_rfl), Try.underlying23, fun t h => by cases h; exact ⟨rfl, rfl, by decide, rfl⟩⟩
def te33 : TE := ⟨33, .struct [(0, 22), (1, 22), (2, 22), (3, 22)] none, true, 4, 96, .agg ⟨[.slice none 0 0, .slice none 0 0, .slice none 0 0, .slice none 0 0]⟩, some (.pair (.list (.int .i64)) (.pair (.list (.int .i64)) (.pair (.list (.int .i64)) (.pair (.list (.int .i64)) .unit))))⟩
theorem te33_ok : TEok Try.prog te33 := ⟨TI.of Try.underlying33 rfl (by kernel_rfl), ⟨⟨_, Try.underlying33, rfl⟩, fun t h => by cases h⟩, fun t h => by cases h; exact ⟨rfl, rfl, by decide, rfl⟩⟩
def te39 : TE := ⟨39, .slice 22, false, 1, 24, .slice none 0 0, some (.list (.list (.int .i64)))⟩
theorem te39_ok : TEok Try.prog te39 := ⟨TI.of Try.underlying39 rfl (by kernel_rfl), Try.underlying39, fun t h => by cases h; exact ⟨rfl, rfl, by decide, rfl⟩⟩
def te42 : TE := ⟨42, .slice 33, false, 1, 24, .slice none 0 0, some (.list (.pair (.list (.int .i64)) (.pair (.list (.int .i64)) (.pair (.list (.int .i64)) (.pair (.list (.int .i64)) .unit)))))⟩
theorem te42_ok : TEok Try.prog te42 := ⟨TI.of Try.underlying42 rfl (by kernel_rfl), Try.underlying42, fun t h => by cases h; exact ⟨rfl, rfl, by decide, rfl⟩⟩
def TT : List TE := [te3, te4, te22, te23, te33, te39, te42]
theorem TT_ok : TOK Try.prog TT := TOK.cons te3_ok (TOK.cons te4_ok (TOK.cons te22_ok (TOK.cons te23_ok (TOK.cons te33_ok (TOK.cons te39_ok (TOK.cons te42_ok (TOK.nil)))))))

def word_May_sig : Shape := ⟨[(.int .i64), (.list (.int .i64))], [(0, .v 0), (1, .v 1)], []⟩
def word_May_out : Shape := ⟨[(.int .i64)], [(0, .v 0)], []⟩
noncomputable def word_May_ce : CE := ⟨14, word_May_sig, word_May_out, fun X => word_May X.1 X.2⟩
theorem word_May_ok : CE.ok Try.prog word_May_ce := CE.of (Γ := []) (by kernel_rfl) TT_ok (GOK.nil) ⟨[(6, ⟨⟨[(.int .i64)], [(18, .v 0)], []⟩, [4, 6, 19, 20, 21, 22, 23, 24, 25, 26, 27, 28, 29], [], [], 0, []⟩)], [], [], []⟩ Try.func14 rfl Try.ntmps14 (rs := [.tmp 4]) rfl (sig := word_May_sig) (out := word_May_out) rfl Try.call14 (fun X => by kernel_rfl)

def ehren_checked_sig : Shape := ⟨[(.list (.int .i64)), (.list (.int .i64)), (.int .i64)], [(0, .v 0), (1, .v 1), (2, .v 2)], []⟩
def ehren_checked_out : Shape := ⟨[(.int .i64)], [(0, .v 0)], []⟩
noncomputable def ehren_checked_ce : CE := ⟨9, ehren_checked_sig, ehren_checked_out, fun X => ehren_checked X.1 X.2.1 X.2.2⟩
theorem ehren_checked_ok : CE.ok Try.prog ehren_checked_ce := CE.of (Γ := [word_May_ce]) (by kernel_rfl) TT_ok (GOK.cons word_May_ok (GOK.nil)) ⟨[(2, ⟨⟨[(.int .i64)], [(14, .v 0)], []⟩, [6, 8, 9, 15, 16, 17, 18, 19, 20, 21, 22, 23], [], [0], 1, []⟩)], [], [], []⟩ Try.func9 rfl Try.ntmps9 (rs := [.tmp 6]) rfl (sig := ehren_checked_sig) (out := ehren_checked_out) rfl Try.call9 (fun X => by kernel_rfl)

def ehren_table_turned_sig : Shape := ⟨[(.pair (.list (.int .i64)) (.pair (.list (.int .i64)) (.pair (.list (.int .i64)) (.pair (.list (.int .i64)) .unit))))], [(0, .v 0)], []⟩
def ehren_table_turned_out : Shape := ⟨[(.pair (.list (.int .i64)) (.pair (.list (.int .i64)) (.pair (.list (.int .i64)) (.pair (.list (.int .i64)) .unit))))], [(0, .v 0)], []⟩
noncomputable def ehren_table_turned_ce : CE := ⟨15, ehren_table_turned_sig, ehren_table_turned_out, fun X => ehren_table_turned X⟩
theorem ehren_table_turned_ok : CE.ok Try.prog ehren_table_turned_ce := CE.of (Γ := []) (by kernel_rfl) TT_ok (GOK.nil) ⟨[], [], [], []⟩ Try.func15 rfl Try.ntmps15 (rs := [.cell 2 33]) rfl (sig := ehren_table_turned_sig) (out := ehren_table_turned_out) rfl Try.call15 (fun X => by kernel_rfl)

def cmp_isNaN_sig : Shape := ⟨[(.int .i64)], [(0, .v 0)], []⟩
def cmp_isNaN_out : Shape := ⟨[.bool], [(0, .v 0)], []⟩
noncomputable def cmp_isNaN_ce : CE := ⟨21, cmp_isNaN_sig, cmp_isNaN_out, fun X => cmp_isNaN X⟩
theorem cmp_isNaN_ok : CE.ok Try.prog cmp_isNaN_ce := CE.of (Γ := []) (by kernel_rfl) TT_ok (GOK.nil) ⟨[], [], [], []⟩ Try.func21 rfl Try.ntmps21 (rs := [.tmp 2]) rfl (sig := cmp_isNaN_sig) (out := cmp_isNaN_out) rfl Try.call21 (fun X => by kernel_rfl)

def cmp_Compare_sig : Shape := ⟨[(.int .i64), (.int .i64)], [(0, .v 0), (1, .v 1)], []⟩
def cmp_Compare_out : Shape := ⟨[(.int .i64)], [(0, .v 0)], []⟩
noncomputable def cmp_Compare_ce : CE := ⟨19, cmp_Compare_sig, cmp_Compare_out, fun X => cmp_Compare X.1 X.2⟩
theorem cmp_Compare_ok : CE.ok Try.prog cmp_Compare_ce := CE.of (Γ := [cmp_isNaN_ce]) (by kernel_rfl) TT_ok (GOK.cons cmp_isNaN_ok (GOK.nil)) ⟨[], [], [], []⟩ Try.func19 rfl Try.ntmps19 (rs := [.tmp 4]) rfl (sig := cmp_Compare_sig) (out := cmp_Compare_out) rfl Try.call19 (fun X => by kernel_rfl)

def ehren_table_fits_sig : Shape := ⟨[(.pair (.list (.int .i64)) (.pair (.list (.int .i64)) (.pair (.list (.int .i64)) (.pair (.list (.int .i64)) .unit)))), (.int .i64), (.int .i64)], [(0, .v 0), (1, .v 1), (2, .v 2)], []⟩
def ehren_table_fits_out : Shape := ⟨[.bool], [(0, .v 0)], []⟩
noncomputable def ehren_table_fits_ce : CE := ⟨16, ehren_table_fits_sig, ehren_table_fits_out, fun X => ehren_table_fits X.1 X.2.1 X.2.2⟩
theorem ehren_table_fits_ok : CE.ok Try.prog ehren_table_fits_ce := CE.of (Γ := [cmp_Compare_ce]) (by kernel_rfl) TT_ok (GOK.cons cmp_Compare_ok (GOK.nil)) ⟨[(4, ⟨⟨[(.int .i64)], [(22, .v 0)], []⟩, [6, 7, 23, 24, 25, 26, 27, 28, 29, 30, 31, 32, 33, 34, 35, 36, 37, 38, 39, 40], [], [0], 1, []⟩)], [], [(1, [(0, 0), (0, 1), (0, 2), (0, 3), (0, 4), (0, 5), (0, 6), (0, 7), (0, 8), (0, 9), (0, 10)]), (6, [(0, 0), (0, 1), (0, 2), (0, 3), (0, 4), (0, 5), (0, 7), (0, 8), (0, 9), (0, 10), (0, 11), (0, 12), (1, 6), (1, 13), (0, 14)])], []⟩ Try.func16 rfl Try.ntmps16 (rs := [.tmp 6]) rfl (sig := ehren_table_fits_sig) (out := ehren_table_fits_out) rfl Try.call16 (fun X => by kernel_rfl)

def slices_Clone_sig : Shape := ⟨[(.list (.int .i64))], [(0, .v 0)], []⟩
def slices_Clone_out : Shape := ⟨[(.list (.int .i64))], [(0, .own 0)], [(0, .arr 3 0)]⟩
noncomputable def slices_Clone_ce : CE := ⟨20, slices_Clone_sig, slices_Clone_out, fun X => slices_Clone X⟩
theorem slices_Clone_ok : CE.ok Try.prog slices_Clone_ce := CE.of (Γ := []) (by kernel_rfl) TT_ok (GOK.nil) ⟨[], [], [], []⟩ Try.func20 rfl Try.ntmps20 (rs := [.tmp 2]) rfl (sig := slices_Clone_sig) (out := slices_Clone_out) rfl Try.call20 (fun X => by kernel_rfl)

def ehren_table_with_sig : Shape := ⟨[(.pair (.list (.int .i64)) (.pair (.list (.int .i64)) (.pair (.list (.int .i64)) (.pair (.list (.int .i64)) .unit)))), (.int .i64), (.int .i64)], [(0, .v 0), (1, .v 1), (2, .v 2)], []⟩
def ehren_table_with_out : Shape := ⟨[(.pair (.list (.int .i64)) (.pair (.list (.int .i64)) (.pair (.list (.int .i64)) (.pair (.list (.int .i64)) .unit))))], [(0, .v 0)], []⟩
noncomputable def ehren_table_with_ce : CE := ⟨17, ehren_table_with_sig, ehren_table_with_out, fun X => ehren_table_with X.1 X.2.1 X.2.2⟩
theorem ehren_table_with_ok : CE.ok Try.prog ehren_table_with_ce := CE.of (Γ := [slices_Clone_ce]) (by kernel_rfl) TT_ok (GOK.cons slices_Clone_ok (GOK.nil)) ⟨[], [], [], [(1, (.pnd (.frz 3 (.pair (.list (.int .i64)) (.pair (.list (.int .i64)) (.pair (.list (.int .i64)) (.pair (.list (.int .i64)) .unit)))) (.one 0 (.one 2 (.one 4 (.one 7 (.one 10 (.one 13 (.rd 2 1 [16, 17] (.rd 2 3 [16, 17] (.rd 2 5 [6, 9, 12, 15, 16, 17] (.rd 2 11 [12, 15, 16, 17] (.alt 1 6 (.alt 1 8 (.alt 2 9 (.alt 1 12 (.alt 1 14 (.alt 2 15 (.one 16 (.alt 2 17 .leaf .stop)) .stop) .stop) (.alt 1 14 (.alt 1 12 (.alt 2 15 (.one 16 (.alt 2 17 .leaf .stop)) .stop) .stop) .stop)) (.alt 1 14 (.alt 2 9 (.alt 1 12 (.alt 2 15 (.one 16 (.alt 2 17 .leaf .stop)) .stop) .stop) .stop) .stop)) (.alt 1 14 (.alt 1 8 (.alt 2 9 (.alt 1 12 (.alt 2 15 (.one 16 (.alt 2 17 .leaf .stop)) .stop) .stop) .stop) .stop) .stop)) (.alt 1 8 (.alt 1 6 (.alt 2 9 (.alt 1 12 (.alt 1 14 (.alt 2 15 (.one 16 (.alt 2 17 .leaf .stop)) .stop) .stop) (.alt 1 14 (.alt 1 12 (.alt 2 15 (.one 16 (.alt 2 17 .leaf .stop)) .stop) .stop) .stop)) (.alt 1 14 (.alt 2 9 (.alt 1 12 (.alt 2 15 (.one 16 (.alt 2 17 .leaf .stop)) .stop) .stop) .stop) .stop)) (.alt 1 14 (.alt 1 6 (.alt 2 9 (.alt 1 12 (.alt 2 15 (.one 16 (.alt 2 17 .leaf .stop)) .stop) .stop) .stop) .stop) .stop)) (.alt 1 14 (.alt 1 6 (.alt 1 8 (.alt 2 9 (.alt 1 12 (.alt 2 15 (.one 16 (.alt 2 17 .leaf .stop)) .stop) .stop) .stop) .stop) (.alt 1 8 (.alt 1 6 (.alt 2 9 (.alt 1 12 (.alt 2 15 (.one 16 (.alt 2 17 .leaf .stop)) .stop) .stop) .stop) .stop) .stop)) .stop))))))))))))))))]⟩ Try.func17 rfl Try.ntmps17 (rs := [.cell 6 33]) rfl (sig := ehren_table_with_sig) (out := ehren_table_with_out) rfl Try.call17 (fun X => by kernel_rfl)

def ehren_table_wins_sig : Shape := ⟨[(.pair (.list (.int .i64)) (.pair (.list (.int .i64)) (.pair (.list (.int .i64)) (.pair (.list (.int .i64)) .unit)))), (.int .i64)], [(0, .v 0), (1, .v 1)], []⟩
def ehren_table_wins_out : Shape := ⟨[.bool], [(0, .v 0)], []⟩
noncomputable def ehren_table_wins_ce : CE := ⟨10, ehren_table_wins_sig, ehren_table_wins_out, LFix ehren_table_wins_F⟩
def ehren_table_reply_sig : Shape := ⟨[(.pair (.list (.int .i64)) (.pair (.list (.int .i64)) (.pair (.list (.int .i64)) (.pair (.list (.int .i64)) .unit)))), (.int .i64), (.int .i64)], [(0, .v 0), (1, .v 1), (2, .v 2)], []⟩
def ehren_table_reply_out : Shape := ⟨[(.int .i64), .bool], [(0, .v 0), (1, .v 1)], []⟩
noncomputable def ehren_table_reply_ce (rec : Tup ehren_table_wins_sig.tys → Option (Tup ehren_table_wins_out.tys)) : CE := ⟨11, ehren_table_reply_sig, ehren_table_reply_out, fun X => ehren_table_reply (fun t k => rec (t, k)) X.1 X.2.1 X.2.2⟩
theorem ehren_table_reply_ok (rec : Tup ehren_table_wins_sig.tys → Option (Tup ehren_table_wins_out.tys)) (hrec : CE.ok Try.prog ⟨10, ehren_table_wins_sig, ehren_table_wins_out, rec⟩) : CE.ok Try.prog (ehren_table_reply_ce rec) := CE.of (Γ := [ehren_table_fits_ce, ehren_table_with_ce, ⟨10, ehren_table_wins_sig, ehren_table_wins_out, rec⟩]) (by kernel_rfl) TT_ok (GOK.cons ehren_table_fits_ok (GOK.cons ehren_table_with_ok (GOK.cons hrec (GOK.nil)))) ⟨[(2, ⟨⟨[(.int .i64)], [(12, .v 0)], []⟩, [6, 7, 8, 13, 14, 15, 16, 17, 18, 19, 20, 21, 22, 23, 24, 25, 26, 27, 28], [], [0], 1, []⟩)], [], [], []⟩ Try.func11 rfl Try.ntmps11 (rs := [.tmp 6, .tmp 7]) rfl (sig := ehren_table_reply_sig) (out := ehren_table_reply_out) rfl Try.call11 (fun X => by kernel_rfl)
theorem ehren_table_wins_ok : CE.ok Try.prog ehren_table_wins_ce := CE.ofRecM (Γ := fun rec => [ehren_table_turned_ce, ehren_table_reply_ce rec]) (by kernel_rfl) TT_ok ⟨[(4, ⟨⟨[(.int .i64)], [(17, .v 0)], []⟩, [4, 6, 7, 8, 9, 18, 19, 20, 21, 22, 23, 24, 25, 26, 27, 28, 29, 30, 31, 32, 33, 34, 35, 36, 37, 38], [], [0, 1], 2, []⟩), (7, ⟨⟨[(.int .i64)], [(24, .v 0)], []⟩, [4, 7, 8, 9, 25, 26, 27, 28, 29, 30, 31, 32, 33, 34, 35, 36, 37], [], [0, 1, 2], 3, []⟩)], [], [(3, [(0, 0), (0, 1), (0, 5), (1, 2), (1, 3), (0, 4)])], []⟩ Try.func10 rfl Try.ntmps10 (rs := [.tmp 4]) rfl (sig := ehren_table_wins_sig) (out := ehren_table_wins_out) rfl (fun rec hrec => (GOK.cons ehren_table_turned_ok (GOK.cons (ehren_table_reply_ok rec hrec) (GOK.nil)))) Try.call10 (d := ehren_table_wins_F) (fun rc X => by kernel_rfl)
noncomputable def ehren_table_reply_c_ce : CE := ehren_table_reply_ce (LFix ehren_table_wins_F)
theorem ehren_table_reply_c_ok : CE.ok Try.prog ehren_table_reply_c_ce := ehren_table_reply_ok _ ehren_table_wins_ok

def ehren_Wins_sig : Shape := ⟨[(.list (.int .i64)), (.list (.int .i64)), (.int .i64)], [(0, .v 0), (1, .v 1), (2, .v 2)], []⟩
def ehren_Wins_out : Shape := ⟨[.bool, (.int .i64)], [(0, .v 0), (1, .v 1)], []⟩
noncomputable def ehren_Wins_ce : CE := ⟨4, ehren_Wins_sig, ehren_Wins_out, fun X => ehren_Wins X.1 X.2.1 X.2.2⟩
theorem ehren_Wins_ok : CE.ok Try.prog ehren_Wins_ce := CE.of (Γ := [ehren_checked_ce, ehren_table_wins_ce]) (by kernel_rfl) TT_ok (GOK.cons ehren_checked_ok (GOK.cons ehren_table_wins_ok (GOK.nil))) ⟨[], [], [], []⟩ Try.func4 rfl Try.ntmps4 (rs := [.tmp 6, .tmp 7]) rfl (sig := ehren_Wins_sig) (out := ehren_Wins_out) rfl Try.call4 (fun X => by kernel_rfl)

def ehren_Reply_sig : Shape := ⟨[(.list (.int .i64)), (.list (.int .i64)), (.int .i64), (.int .i64)], [(0, .v 0), (1, .v 1), (2, .v 2), (3, .v 3)], []⟩
def ehren_Reply_out : Shape := ⟨[(.int .i64), .bool, (.int .i64)], [(0, .v 0), (1, .v 1), (2, .v 2)], []⟩
noncomputable def ehren_Reply_ce : CE := ⟨5, ehren_Reply_sig, ehren_Reply_out, fun X => ehren_Reply X.1 X.2.1 X.2.2.1 X.2.2.2⟩
theorem ehren_Reply_ok : CE.ok Try.prog ehren_Reply_ce := CE.of (Γ := [ehren_checked_ce, ehren_table_reply_c_ce]) (by kernel_rfl) TT_ok (GOK.cons ehren_checked_ok (GOK.cons ehren_table_reply_c_ok (GOK.nil))) ⟨[], [], [], []⟩ Try.func5 rfl Try.ntmps5 (rs := [.tmp 8, .tmp 9, .tmp 10]) rfl (sig := ehren_Reply_sig) (out := ehren_Reply_out) rfl Try.call5 (fun X => by kernel_rfl)

def r33_word_sig : Shape := ⟨[(.list (.int .i64))], [(0, .v 0)], []⟩
def r33_word_out : Shape := ⟨[(.int .i64)], [(0, .v 0)], []⟩
noncomputable def r33_word_ce : CE := ⟨12, r33_word_sig, r33_word_out, fun X => r33_word X⟩
theorem r33_word_ok : CE.ok Try.prog r33_word_ce := CE.of (Γ := []) (by kernel_rfl) TT_ok (GOK.nil) ⟨[(4, ⟨⟨[(.int .i64)], [(3, .v 0)], []⟩, [2, 7, 8, 9, 10, 11, 12, 13, 14, 15, 16, 17, 18, 19, 20, 21, 22, 23, 24], [], [], 0, []⟩)], [], [], []⟩ Try.func12 rfl Try.ntmps12 (rs := [.tmp 2]) rfl (sig := r33_word_sig) (out := r33_word_out) rfl Try.call12 (fun X => by kernel_rfl)

def r33_Check_sig : Shape := ⟨[(.list (.int .i64)), (.list (.int .i64)), (.int .i64)], [(0, .v 0), (1, .v 1), (2, .v 2)], []⟩
def r33_Check_out : Shape := ⟨[(.int .i64)], [(0, .v 0)], []⟩
noncomputable def r33_Check_ce : CE := ⟨6, r33_Check_sig, r33_Check_out, fun X => r33_Check X.1 X.2.1 X.2.2⟩
theorem r33_Check_ok : CE.ok Try.prog r33_Check_ce := CE.of (Γ := [r33_word_ce]) (by kernel_rfl) TT_ok (GOK.cons r33_word_ok (GOK.nil)) ⟨[], [], [], []⟩ Try.func6 rfl Try.ntmps6 (rs := [.tmp 6]) rfl (sig := r33_Check_sig) (out := r33_Check_out) rfl Try.call6 (fun X => by kernel_rfl)

def r33_sign_sig : Shape := ⟨[(.int .i64), (.int .i64)], [(0, .v 0), (1, .v 1)], []⟩
def r33_sign_out : Shape := ⟨[(.int .i64)], [(0, .v 0)], []⟩
noncomputable def r33_sign_ce : CE := ⟨18, r33_sign_sig, r33_sign_out, fun X => r33_sign X.1 X.2⟩
theorem r33_sign_ok : CE.ok Try.prog r33_sign_ce := CE.of (Γ := []) (by kernel_rfl) TT_ok (GOK.nil) ⟨[], [], [], []⟩ Try.func18 rfl Try.ntmps18 (rs := [.tmp 4]) rfl (sig := r33_sign_sig) (out := r33_sign_out) rfl Try.call18 (fun X => by kernel_rfl)

def r33_Fits_sig : Shape := ⟨[(.list (.int .i64)), (.list (.int .i64)), (.list (.int .i64)), (.list (.int .i64)), (.int .i64), (.int .i64)], [(0, .v 0), (1, .v 1), (2, .v 2), (3, .v 3), (4, .v 4), (5, .v 5)], []⟩
def r33_Fits_out : Shape := ⟨[.bool], [(0, .v 0)], []⟩
noncomputable def r33_Fits_ce : CE := ⟨13, r33_Fits_sig, r33_Fits_out, fun X => r33_Fits X.1 X.2.1 X.2.2.1 X.2.2.2.1 X.2.2.2.2.1 X.2.2.2.2.2⟩
theorem r33_Fits_ok : CE.ok Try.prog r33_Fits_ce := CE.of (Γ := [r33_sign_ce]) (by kernel_rfl) TT_ok (GOK.cons r33_sign_ok (GOK.nil)) ⟨[(4, ⟨⟨[(.int .i64)], [(13, .v 0)], []⟩, [12, 14, 15, 25, 26, 27, 28, 29, 30, 31, 32, 33, 34, 35, 36, 37, 38, 39, 40, 41, 42, 43, 44, 45], [], [], 0, []⟩)], [], [(1, [(0, 0), (0, 1), (0, 2), (0, 3), (0, 4), (0, 5), (0, 6), (0, 7), (0, 8)])], []⟩ Try.func13 rfl Try.ntmps13 (rs := [.tmp 12]) rfl (sig := r33_Fits_sig) (out := r33_Fits_out) rfl Try.call13 (fun X => by kernel_rfl)

def r33_Wins_sig : Shape := ⟨[(.list (.int .i64)), (.list (.int .i64)), (.list (.int .i64)), (.list (.int .i64)), (.int .i64)], [(0, .v 0), (1, .v 1), (2, .v 2), (3, .v 3), (4, .v 4)], []⟩
def r33_Wins_out : Shape := ⟨[.bool], [(0, .v 0)], []⟩
noncomputable def r33_Wins_ce : CE := ⟨7, r33_Wins_sig, r33_Wins_out, LFix r33_Wins_F⟩
def r33_Answer_sig : Shape := ⟨[(.list (.int .i64)), (.list (.int .i64)), (.list (.int .i64)), (.list (.int .i64)), (.int .i64), (.int .i64)], [(0, .v 0), (1, .v 1), (2, .v 2), (3, .v 3), (4, .v 4), (5, .v 5)], []⟩
def r33_Answer_out : Shape := ⟨[(.int .i64)], [(0, .v 0)], []⟩
noncomputable def r33_Answer_ce (rec : Tup r33_Wins_sig.tys → Option (Tup r33_Wins_out.tys)) : CE := ⟨8, r33_Answer_sig, r33_Answer_out, fun X => r33_Answer (fun u v a b k => rec (u, v, a, b, k)) X.1 X.2.1 X.2.2.1 X.2.2.2.1 X.2.2.2.2.1 X.2.2.2.2.2⟩
theorem r33_Answer_ok (rec : Tup r33_Wins_sig.tys → Option (Tup r33_Wins_out.tys)) (hrec : CE.ok Try.prog ⟨7, r33_Wins_sig, r33_Wins_out, rec⟩) : CE.ok Try.prog (r33_Answer_ce rec) := CE.of (Γ := [r33_Fits_ce, ⟨7, r33_Wins_sig, r33_Wins_out, rec⟩]) (by kernel_rfl) TT_ok (GOK.cons r33_Fits_ok (GOK.cons hrec (GOK.nil))) ⟨[(2, ⟨⟨[(.int .i64)], [(13, .v 0)], []⟩, [12, 14, 15, 16, 17, 18, 19, 20, 21, 22, 23, 24, 25, 26, 27, 28, 29, 30, 31, 32, 33, 34, 35, 36, 37, 38, 39, 40, 41, 42, 43, 44, 45, 46, 47, 48, 49, 50, 51, 52], [], [], 0, []⟩)], [], [], []⟩ Try.func8 rfl Try.ntmps8 (rs := [.tmp 12]) rfl (sig := r33_Answer_sig) (out := r33_Answer_out) rfl Try.call8 (fun X => by kernel_rfl)
theorem r33_Wins_ok : CE.ok Try.prog r33_Wins_ce := CE.ofRecM (Γ := fun rec => [r33_Answer_ce rec]) (by kernel_rfl) TT_ok ⟨[(4, ⟨⟨[(.int .i64)], [(11, .v 0)], []⟩, [10, 12, 17, 18, 19, 20, 21, 22, 23, 24, 25, 26, 27, 28, 29, 30, 31, 32], [], [], 0, []⟩), (10, ⟨⟨[(.int .i64)], [(13, .v 0)], []⟩, [10, 14, 33, 34, 35, 36, 37, 38, 39, 40, 41, 42, 43, 44, 45, 46, 47, 48], [], [], 0, []⟩)], [], [], []⟩ Try.func7 rfl Try.ntmps7 (rs := [.tmp 10]) rfl (sig := r33_Wins_sig) (out := r33_Wins_out) rfl (fun rec hrec => (GOK.cons (r33_Answer_ok rec hrec) (GOK.nil))) Try.call7 (d := r33_Wins_F) (fun rc X => by kernel_rfl)
noncomputable def r33_Answer_c_ce : CE := r33_Answer_ce (LFix r33_Wins_F)
theorem r33_Answer_c_ok : CE.ok Try.prog r33_Answer_c_ce := r33_Answer_ok _ r33_Wins_ok

def law_EhrenWins_sig : Shape := ⟨[(.list (.int .i64)), (.list (.int .i64)), (.int .i64), (.int .i64)], [(0, .v 0), (1, .v 1), (2, .v 2), (3, .v 3)], []⟩
def law_EhrenWins_out : Shape := ⟨[.bool], [(0, .v 0)], []⟩
noncomputable def law_EhrenWins_ce : CE := ⟨3, law_EhrenWins_sig, law_EhrenWins_out, fun X => law_EhrenWins X.1 X.2.1 X.2.2.1 X.2.2.2⟩
theorem law_EhrenWins_ok : CE.ok Try.prog law_EhrenWins_ce := CE.of (Γ := [ehren_Wins_ce, ehren_Reply_ce, r33_Check_ce, r33_Wins_ce, r33_Answer_c_ce]) (by kernel_rfl) TT_ok (GOK.cons ehren_Wins_ok (GOK.cons ehren_Reply_ok (GOK.cons r33_Check_ok (GOK.cons r33_Wins_ok (GOK.cons r33_Answer_c_ok (GOK.nil)))))) ⟨[], [], [], []⟩ Try.func3 rfl Try.ntmps3 (rs := [.tmp 8]) rfl (sig := law_EhrenWins_sig) (out := law_EhrenWins_out) rfl Try.call3 (fun X => by kernel_rfl)

end Go.Proofs.Ytmnpdkeigdaelaa.ehrenWinsW
