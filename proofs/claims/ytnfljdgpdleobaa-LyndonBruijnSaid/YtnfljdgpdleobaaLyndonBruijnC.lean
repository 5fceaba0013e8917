/- That the functions of 'LyndonBruijn' compute so. -/
import Derived.Test.YtnfljdgpdleobaaLyndonBruijnD
import Derived.Test.YtnfljdgpdleobaaProg
import Derived.KernelRfl
set_option maxHeartbeats 1000000
set_option maxRecDepth 20000
set_option linter.unusedSimpArgs false
set_option linter.unusedVariables false
set_option linter.unusedSectionVars false
namespace Go.Proofs.Ytnfljdgpdleobaa.lyndonBruijnW
open Go Go.Ab
def te3 : TE := ⟨3, .int .i64, false, 1, 8, .int .i64 0, some (.int .i64)⟩
theorem te3_ok : TEok Try.prog te3 := ⟨TI.of Try.underlying3 rfl (by kernel_rfl), Try.underlying3, fun t h => by cases h; exact ⟨rfl, rfl, by decide, rfl⟩⟩
def te4 : TE := ⟨4, .bool, false, 1, 1, .bool false, some .bool⟩
theorem te4_ok : TEok Try.prog te4 := ⟨TI.of Try.underlying4 rfl (by kernel_rfl), Try.underlying4, fun t h => by cases h; exact ⟨rfl, rfl, by decide, rfl⟩⟩
def te22 : TE := ⟨22, .slice 3, false, 1, 24, .slice none 0 0, some (.list (.int .i64))⟩
theorem te22_ok : TEok Try.prog te22 := ⟨TI.of Try.underlying22 rfl (by kernel_rfl), Try.underlying22, fun t h => by cases h; exact ⟨rfl, rfl, by decide, rfl⟩⟩
def te23 : TE := ⟨23, .int .i64, false, 1, 8, .int .i64 0, some (.int .i64)⟩
theorem te23_ok : TEok Try.prog te23 := ⟨TI.of Try.underlying23 rfl (by kernel_rfl), Try.underlying23, fun t h => by cases h; exact ⟨rfl, rfl, by decide, rfl⟩⟩
def te31 : TE := ⟨31, .other, false, 1, 8, .nilFunc, none⟩
theorem te31_ok : TEok Try.prog te31 := ⟨TI.of Try.underlying31 rfl (by kernel_rfl), trivial, fun t h => by cases h⟩
def te32 : TE := ⟨32, .slice 4, false, 1, 24, .slice none 0 0, some (.list .bool)⟩
theorem te32_ok : TEok Try.prog te32 := ⟨TI.of Try.underlying32 rfl (by kernel_rfl), Try.underlying32, fun t h => by cases h; exact ⟨rfl, rfl, by decide, rfl⟩⟩
def TT : List TE := [te3, te4, te22, te23, te31, te32]
theorem TT_ok : TOK Try.prog TT := TOK.cons te3_ok (TOK.cons te4_ok (TOK.cons te22_ok (TOK.cons te23_ok (TOK.cons te31_ok (TOK.cons te32_ok (TOK.nil))))))

def lyndon_Bruijn_1_sig : Shape := ⟨[(.int .i64), (.int .i64), (.int .i64), (.int .i64), (.int .i64), (.int .i64), (.list (.int .i64)), (.list (.int .i64))], [(0, .v 0), (1, .v 1), (2, .addr 2), (3, .ptr 100000 0), (4, .ptr 100001 0), (5, .ptr 100002 0), (6, .addr 3)], [(100000, .box 22 [.own 100003]), (100001, .box 22 [.own 100004]), (100002, .box 31 [.fn 9 [.addr 4, .ptr 100000 0, .ptr 100001 0, .ptr 100002 0, .addr 5]]), (100003, .arr 3 6), (100004, .arr 3 7)]⟩
def lyndon_Bruijn_1_out : Shape := ⟨[(.list (.int .i64)), (.list (.int .i64)), (.int .i64), (.int .i64)], [], [(100000, .box 22 [.own 50]), (50, .arr 3 0), (100001, .box 22 [.own 51]), (51, .arr 3 1), (100002, .box 31 [.fn 9 [.addr 2, .ptr 100000 0, .ptr 100001 0, .ptr 100002 0, .addr 3]])]⟩
noncomputable def lyndon_Bruijn_1_ce : CE := ⟨9, lyndon_Bruijn_1_sig, lyndon_Bruijn_1_out, LFix lyndon_Bruijn_1_F⟩
theorem lyndon_Bruijn_1_ok : CE.ok Try.prog lyndon_Bruijn_1_ce := CE.ofRec (Γ := []) (by kernel_rfl) TT_ok (GOK.nil) ⟨[(6, ⟨⟨[(.int .i64), (.int .i64), (.int .i64), (.list (.int .i64)), (.list (.int .i64))], [(4, .ptr 100001 0), (5, .ptr 100002 0), (9, .v 0)], [(100001, .box 22 [.own 51]), (100002, .box 31 [.fn 9 [.addr 1, .ptr 100000 0, .ptr 100001 0, .ptr 100002 0, .addr 2]]), (51, .arr 3 3), (100000, .box 22 [.own 50]), (50, .arr 3 4)]⟩, [23, 25, 29, 31, 37, 41, 44, 45, 46, 47, 48, 49, 50, 51, 52, 53, 54, 55, 56, 57], [], [], 52, []⟩)], [], [(2, [(0, 0), (0, 1), (0, 2), (0, 3), (0, 4), (2, 5), (2, 6)]), (3, [(0, 0), (0, 1), (0, 2), (0, 3), (0, 4), (0, 5), (0, 6), (0, 7), (0, 8), (2, 9)])], []⟩ Try.func9 rfl Try.ntmps9 (rs := []) rfl (sig := lyndon_Bruijn_1_sig) (out := lyndon_Bruijn_1_out) rfl Try.call9 (d := lyndon_Bruijn_1_F) (fun rc X => by kernel_rfl)

def lyndon_Bruijn_sig : Shape := ⟨[(.int .i64), (.int .i64)], [(0, .v 0), (1, .v 1)], []⟩
def lyndon_Bruijn_out : Shape := ⟨[(.int .i64), (.list (.int .i64))], [(0, .own 0), (1, .v 0)], [(0, .arr 3 1)]⟩
noncomputable def lyndon_Bruijn_ce : CE := ⟨4, lyndon_Bruijn_sig, lyndon_Bruijn_out, fun X => lyndon_Bruijn X.1 X.2⟩
theorem lyndon_Bruijn_ok : CE.ok Try.prog lyndon_Bruijn_ce := CE.of (Γ := [lyndon_Bruijn_1_ce]) (by kernel_rfl) TT_ok (GOK.cons lyndon_Bruijn_1_ok (GOK.nil)) ⟨[(5, ⟨⟨[(.int .i64), (.int .i64)], [(6, .v 0), (25, .v 1)], []⟩, [26, 27, 28, 29, 30], [], [0, 1], 2, []⟩)], [], [(13, [(0, 0), (3, 1)])], []⟩ Try.func4 rfl Try.ntmps4 (rs := [.tmp 4, .tmp 5]) rfl (sig := lyndon_Bruijn_sig) (out := lyndon_Bruijn_out) rfl Try.call4 (fun X => by kernel_rfl)

def r31_All_sig : Shape := ⟨[(.int .i64), (.int .i64)], [(0, .v 0), (1, .v 1)], []⟩
def r31_All_out : Shape := ⟨[(.int .i64)], [(0, .v 0)], []⟩
noncomputable def r31_All_ce : CE := ⟨5, r31_All_sig, r31_All_out, fun X => r31_All X.1 X.2⟩
theorem r31_All_ok : CE.ok Try.prog r31_All_ce := CE.of (Γ := []) (by kernel_rfl) TT_ok (GOK.nil) ⟨[(3, ⟨⟨[(.int .i64), (.int .i64)], [(5, .v 0), (6, .v 1)], []⟩, [4, 7, 8, 9, 10, 11, 12, 13, 14, 15, 16], [], [], 0, []⟩)], [], [], []⟩ Try.func5 rfl Try.ntmps5 (rs := [.tmp 4]) rfl (sig := r31_All_sig) (out := r31_All_out) rfl Try.call5 (fun X => by kernel_rfl)

def r31_Bruijn_sig : Shape := ⟨[(.list (.int .i64)), (.int .i64), (.int .i64)], [(0, .v 0), (1, .v 1), (2, .v 2)], []⟩
def r31_Bruijn_out : Shape := ⟨[.bool], [(0, .v 0)], []⟩
noncomputable def r31_Bruijn_ce : CE := ⟨6, r31_Bruijn_sig, r31_Bruijn_out, fun X => r31_Bruijn X.1 X.2.1 X.2.2⟩
theorem r31_Bruijn_ok : CE.ok Try.prog r31_Bruijn_ce := CE.of (Γ := [r31_All_ce]) (by kernel_rfl) TT_ok (GOK.cons r31_All_ok (GOK.nil)) ⟨[(3, ⟨⟨[(.int .i64), (.list .bool)], [(7, .own 0), (8, .v 0)], [(0, .arr 4 1)]⟩, [6, 9, 10, 11, 13, 14, 15, 16, 17, 18, 19, 20, 21, 22, 23, 24, 25, 26, 27, 28, 29, 30, 31, 32, 33, 34, 35, 36, 37, 38, 39, 40, 41, 42, 43, 44, 45, 46, 47, 48, 49, 50, 51, 52], [], [], 1, []⟩), (7, ⟨⟨[(.int .i64), (.int .i64)], [(9, .v 0), (10, .v 1)], []⟩, [6, 11, 20, 21, 22, 23, 24, 25, 26, 27, 28, 29, 30, 31, 32, 33, 34, 35, 36, 37, 38, 39, 40, 41, 42, 43, 44, 45], [], [0], 1, []⟩)], [], [], []⟩ Try.func6 rfl Try.ntmps6 (rs := [.tmp 6]) rfl (sig := r31_Bruijn_sig) (out := r31_Bruijn_out) rfl Try.call6 (fun X => by kernel_rfl)

def r31_First_sig : Shape := ⟨[(.int .i64), (.int .i64)], [(0, .v 0), (1, .v 1)], []⟩
def r31_First_out : Shape := ⟨[(.list (.int .i64))], [(0, .own 0)], [(0, .arr 3 0)]⟩
noncomputable def r31_First_ce : CE := ⟨7, r31_First_sig, r31_First_out, fun X => r31_First X.1 X.2⟩
theorem r31_First_ok : CE.ok Try.prog r31_First_ce := CE.of (Γ := []) (by kernel_rfl) TT_ok (GOK.nil) ⟨[(3, ⟨⟨[(.list (.int .i64)), (.list (.int .i64))], [(5, .own 1), (6, .own 0)], [(0, .arr 3 0), (1, .arr 3 1)]⟩, [7, 8, 9, 10, 11, 12, 13, 14, 15, 16, 17, 18, 19, 20, 21, 22, 23, 24, 25, 26, 27, 28, 29, 30, 31, 32, 33, 34, 35, 36, 37, 38, 39, 40, 41, 42, 43, 44, 45, 46, 47, 48, 49, 50, 51, 52, 53, 54, 55, 56, 57, 58, 59, 60, 61, 62, 63, 64], [], [], 2, []⟩), (8, ⟨⟨[(.int .i64), (.list (.int .i64))], [(7, .own 3), (8, .v 0)], [(3, .arr 3 1)]⟩, [22, 23, 24, 25, 26, 27, 28, 29, 30, 31, 32, 33, 34, 35, 36], [], [0, 2], 4, []⟩), (12, ⟨⟨[(.int .i64)], [(9, .v 0)], []⟩, [38, 39, 40, 41, 42, 43, 44, 45, 46, 47, 48, 49, 50, 51], [], [0, 2, 3], 4, []⟩)], [(5, ⟨⟨[(.list (.int .i64))], [(5, .own 2)], [(2, .arr 3 0)]⟩, [14, 15, 16, 17, 18, 19, 20, 21], [1], [0], 3, []⟩), (13, ⟨⟨[(.int .i64)], [(9, .v 0)], []⟩, [38, 39, 40, 41, 42, 43, 44, 45, 46, 47, 48, 49, 50, 51], [], [0, 2, 3], 4, []⟩)], [(14, [(0, 0), (0, 1), (1, 2), (0, 3)])], []⟩ Try.func7 rfl Try.ntmps7 (rs := [.tmp 4]) rfl (sig := r31_First_sig) (out := r31_First_out) rfl Try.call7 (fun X => by kernel_rfl)

def r1_Words_sig : Shape := ⟨[(.list (.int .i64)), (.list (.int .i64))], [(0, .v 0), (1, .v 1)], []⟩
def r1_Words_out : Shape := ⟨[.bool], [(0, .v 0)], []⟩
noncomputable def r1_Words_ce : CE := ⟨8, r1_Words_sig, r1_Words_out, fun X => r1_Words X.1 X.2⟩
theorem r1_Words_ok : CE.ok Try.prog r1_Words_ce := CE.of (Γ := []) (by kernel_rfl) TT_ok (GOK.nil) ⟨[(4, ⟨⟨[(.int .i64)], [(5, .v 0)], []⟩, [4, 11, 12, 13, 14, 15, 16, 17, 18, 19, 20, 21, 22, 23, 24, 25], [], [], 0, []⟩)], [], [(6, [(0, 0), (0, 1), (0, 2), (0, 3), (0, 4), (0, 5), (0, 6), (0, 7), (0, 8)])], []⟩ Try.func8 rfl Try.ntmps8 (rs := [.tmp 4]) rfl (sig := r1_Words_sig) (out := r1_Words_out) rfl Try.call8 (fun X => by kernel_rfl)

def law_LyndonBruijn_sig : Shape := ⟨[(.int .i64), (.int .i64)], [(0, .v 0), (1, .v 1)], []⟩
def law_LyndonBruijn_out : Shape := ⟨[.bool], [(0, .v 0)], []⟩
noncomputable def law_LyndonBruijn_ce : CE := ⟨3, law_LyndonBruijn_sig, law_LyndonBruijn_out, fun X => law_LyndonBruijn X.1 X.2⟩
theorem law_LyndonBruijn_ok : CE.ok Try.prog law_LyndonBruijn_ce := CE.of (Γ := [lyndon_Bruijn_ce, r31_Bruijn_ce, r31_First_ce, r1_Words_ce, r31_All_ce]) (by kernel_rfl) TT_ok (GOK.cons lyndon_Bruijn_ok (GOK.cons r31_Bruijn_ok (GOK.cons r31_First_ok (GOK.cons r1_Words_ok (GOK.cons r31_All_ok (GOK.nil)))))) ⟨[], [(3, ⟨⟨[.bool], [(31, .v 0)], []⟩, [18, 19, 20, 21, 22, 23, 24, 25, 26, 27, 28, 29, 30], [], [0], 1, []⟩), (7, ⟨⟨[(.int .i64)], [(7, .v 0)], []⟩, [8, 18, 19, 20, 21, 22, 23, 24, 25, 26, 27, 28, 29, 30, 31, 32, 33, 34, 35, 36], [], [0], 1, []⟩)], [], []⟩ Try.func3 rfl Try.ntmps3 (rs := [.tmp 4]) rfl (sig := law_LyndonBruijn_sig) (out := law_LyndonBruijn_out) rfl Try.call3 (fun X => by kernel_rfl)

end Go.Proofs.Ytnfljdgpdleobaa.lyndonBruijnW
