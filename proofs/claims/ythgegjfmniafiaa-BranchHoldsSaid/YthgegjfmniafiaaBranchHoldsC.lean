/- That the functions of 'BranchHolds' compute so. -/
import Derived.Test.YthgegjfmniafiaaBranchHoldsD
import Derived.Test.YthgegjfmniafiaaProg
import Derived.KernelRfl
set_option maxHeartbeats 1000000
set_option maxRecDepth 20000
set_option linter.unusedSimpArgs false
set_option linter.unusedVariables false
set_option linter.unusedSectionVars false
namespace Go.Proofs.Ythgegjfmniafiaa.branchHoldsW
open Go Go.Ab
noncomputable section
def te3 : TE := ⟨3, .int .i64, false, 1, 8, .int .i64 0, some (.int .i64)⟩
theorem zBa : TEok Try.prog te3 := ⟨TI.of Try.underlying3 rfl (by kernel_rfl), Try.underlying3, fun t h => by cases h; exact ⟨rfl, rfl, by decide, rfl⟩⟩
def te4 : TE := ⟨4, .bool, false, 1, 1, .bool false, some .bool⟩
theorem zBb : TEok Try.prog te4 := ⟨TI.of Try.underlying4 rfl (by kernel_rfl), Try.underlying4, fun t h => by cases h; exact ⟨rfl, rfl, by decide, rfl⟩⟩
def te5 : TE := ⟨5, .int .u8, false, 1, 1, .int .u8 0, some (.int .u8)⟩
theorem zBc : TEok Try.prog te5 := ⟨TI.of Try.underlying5 rfl (by kernel_rfl), Try.underlying5, fun t h => by cases h; exact ⟨rfl, rfl, by decide, rfl⟩⟩
def te9 : TE := ⟨9, .str, false, 1, 16, .string ⟨⟨[]⟩⟩, some .str⟩
theorem zBd : TEok Try.prog te9 := ⟨TI.of Try.underlying9 rfl (by kernel_rfl), Try.underlying9, fun t h => by cases h; exact ⟨rfl, rfl, by decide, rfl⟩⟩
def te22 : TE := ⟨22, .slice 45, false, 1, 24, .slice none 0 0, some Tc5⟩
theorem zAh : TEok Try.prog te22 := ⟨TI.of Try.underlying22 rfl (by kernel_rfl), Try.underlying22, fun t h => by cases h; exact ⟨rfl, rfl, by decide, rfl⟩⟩
def te24 : TE := ⟨24, .struct [(0, 3), (1, 3), (2, 22)] none, true, 3, 40, .agg ⟨[.int .i64 0, .int .i64 0, .slice none 0 0]⟩, some Tc2⟩
theorem zAi : TEok Try.prog te24 := ⟨TI.of Try.underlying24 rfl (by kernel_rfl), ⟨⟨_, Try.underlying24, rfl⟩, fun t h => by cases h⟩, fun t h => by cases h; exact ⟨rfl, rfl, by decide, rfl⟩⟩
def te25 : TE := ⟨25, .slice 4, false, 1, 24, .slice none 0 0, some (.list .bool)⟩
theorem zAj : TEok Try.prog te25 := ⟨TI.of Try.underlying25 rfl (by kernel_rfl), Try.underlying25, fun t h => by cases h; exact ⟨rfl, rfl, by decide, rfl⟩⟩
def te26 : TE := ⟨26, .int .i64, false, 1, 8, .int .i64 0, some (.int .i64)⟩
theorem zAk : TEok Try.prog te26 := ⟨TI.of Try.underlying26 rfl (by kernel_rfl), Try.underlying26, fun t h => by cases h; exact ⟨rfl, rfl, by decide, rfl⟩⟩
def te30 : TE := ⟨30, .slice 53, false, 1, 24, .slice none 0 0, some (.list (.pair (.int .u8) (.pair .bool Tc6)))⟩
theorem zAl : TEok Try.prog te30 := ⟨TI.of Try.underlying30 rfl (by kernel_rfl), Try.underlying30, fun t h => by cases h; exact ⟨rfl, rfl, by decide, rfl⟩⟩
def te32 : TE := ⟨32, .struct [(0, 26), (1, 3)] none, true, 2, 16, .agg ⟨[.int .i64 0, .int .i64 0]⟩, some Tc7⟩
theorem zAm : TEok Try.prog te32 := ⟨TI.of Try.underlying32 rfl (by kernel_rfl), ⟨⟨_, Try.underlying32, rfl⟩, fun t h => by cases h⟩, fun t h => by cases h; exact ⟨rfl, rfl, by decide, rfl⟩⟩
def te38 : TE := ⟨38, .other, false, 1, 8, .pointer none, some (.tree (.pair (.int .u8) (.pair .bool (.pair (.int .i64) .unit))))⟩
theorem zAn : TEok Try.prog te38 := ⟨TI.of Try.underlying38 rfl (by kernel_rfl), trivial, fun t h => by cases h; exact ⟨rfl, rfl, by decide, rfl⟩⟩
def te41 : TE := ⟨41, .other, false, 1, 8, .pointer none, none⟩
theorem zAo : TEok Try.prog te41 := ⟨TI.of Try.underlying41 rfl (by kernel_rfl), trivial, fun t h => by cases h⟩
def te45 : TE := ⟨45, .struct [(0, 3), (1, 3), (2, 3)] none, true, 3, 24, .agg ⟨[.int .i64 0, .int .i64 0, .int .i64 0]⟩, some Tc6⟩
theorem zAp : TEok Try.prog te45 := ⟨TI.of Try.underlying45 rfl (by kernel_rfl), ⟨⟨_, Try.underlying45, rfl⟩, fun t h => by cases h⟩, fun t h => by cases h; exact ⟨rfl, rfl, by decide, rfl⟩⟩
def te49 : TE := ⟨49, .struct [(0, 9), (1, 3), (2, 3), (3, 3), (4, 30), (5, 32)] none, true, 7, 80, .agg ⟨[.string ⟨⟨[]⟩⟩, .int .i64 0, .int .i64 0, .int .i64 0, .slice none 0 0, .int .i64 0, .int .i64 0]⟩, some (.pair .str (.pair (.int .i64) (.pair (.int .i64) (.pair (.int .i64) (.pair (.list (.pair (.int .u8) (.pair .bool Tc6))) (.pair Tc7 .unit))))))⟩
theorem zAq : TEok Try.prog te49 := ⟨TI.of Try.underlying49 rfl (by kernel_rfl), ⟨⟨_, Try.underlying49, rfl⟩, fun t h => by cases h⟩, fun t h => by cases h; exact ⟨rfl, rfl, by decide, rfl⟩⟩
def te53 : TE := ⟨53, .struct [(0, 5), (1, 4), (2, 3), (3, 3), (4, 3)] none, true, 5, 32, .agg ⟨[.int .u8 0, .bool false, .int .i64 0, .int .i64 0, .int .i64 0]⟩, some (.pair (.int .u8) (.pair .bool Tc6))⟩
theorem zAr : TEok Try.prog te53 := ⟨TI.of Try.underlying53 rfl (by kernel_rfl), ⟨⟨_, Try.underlying53, rfl⟩, fun t h => by cases h⟩, fun t h => by cases h; exact ⟨rfl, rfl, by decide, rfl⟩⟩
def te56 : TE := ⟨56, .other, false, 1, 8, .nilFunc, none⟩
theorem zAs : TEok Try.prog te56 := ⟨TI.of Try.underlying56 rfl (by kernel_rfl), trivial, fun t h => by cases h⟩
def te61 : TE := ⟨61, .struct [(0, 32)] none, true, 2, 16, .agg ⟨[.int .i64 0, .int .i64 0]⟩, some (.pair Tc7 .unit)⟩
theorem zAt : TEok Try.prog te61 := ⟨TI.of Try.underlying61 rfl (by kernel_rfl), ⟨⟨_, Try.underlying61, rfl⟩, fun t h => by cases h⟩, fun t h => by cases h; exact ⟨rfl, rfl, by decide, rfl⟩⟩
def te64 : TE := ⟨64, .struct [(0, 9), (1, 3), (2, 3), (3, 3)] none, true, 4, 40, .agg ⟨[.string ⟨⟨[]⟩⟩, .int .i64 0, .int .i64 0, .int .i64 0]⟩, some (.pair .str Tc6)⟩
theorem zAu : TEok Try.prog te64 := ⟨TI.of Try.underlying64 rfl (by kernel_rfl), ⟨⟨_, Try.underlying64, rfl⟩, fun t h => by cases h⟩, fun t h => by cases h; exact ⟨rfl, rfl, by decide, rfl⟩⟩
def te66 : TE := ⟨66, .slice 70, false, 1, 24, .slice none 0 0, some (.list (.list (.int .i64)))⟩
theorem zAv : TEok Try.prog te66 := ⟨TI.of Try.underlying66 rfl (by kernel_rfl), Try.underlying66, fun t h => by cases h; exact ⟨rfl, rfl, by decide, rfl⟩⟩
def te68 : TE := ⟨68, .struct [(0, 24), (3, 66)] none, true, 4, 64, .agg ⟨[.int .i64 0, .int .i64 0, .slice none 0 0, .slice none 0 0]⟩, some Tc1⟩
theorem zAw : TEok Try.prog te68 := ⟨TI.of Try.underlying68 rfl (by kernel_rfl), ⟨⟨_, Try.underlying68, rfl⟩, fun t h => by cases h⟩, fun t h => by cases h; exact ⟨rfl, rfl, by decide, rfl⟩⟩
def te70 : TE := ⟨70, .slice 3, false, 1, 24, .slice none 0 0, some (.list (.int .i64))⟩
theorem zAx : TEok Try.prog te70 := ⟨TI.of Try.underlying70 rfl (by kernel_rfl), Try.underlying70, fun t h => by cases h; exact ⟨rfl, rfl, by decide, rfl⟩⟩
def te71 : TE := ⟨71, .slice 38, false, 1, 24, .slice none 0 0, some (.list (.tree (.pair (.int .u8) (.pair .bool (.pair (.int .i64) .unit)))))⟩
theorem zAy : TEok Try.prog te71 := ⟨TI.of Try.underlying71 rfl (by kernel_rfl), Try.underlying71, fun t h => by cases h; exact ⟨rfl, rfl, by decide, rfl⟩⟩
def te73 : TE := ⟨73, .struct [(0, 5), (1, 4), (2, 3), (3, 71)] none, true, 4, 40, .agg ⟨[.int .u8 0, .bool false, .int .i64 0, .slice none 0 0]⟩, some (.pair (.int .u8) (.pair .bool (.pair (.int .i64) (.pair (.list (.tree (.pair (.int .u8) (.pair .bool (.pair (.int .i64) .unit))))) .unit))))⟩
theorem zAz : TEok Try.prog te73 := ⟨TI.of Try.underlying73 rfl (by kernel_rfl), ⟨⟨_, Try.underlying73, rfl⟩, fun t h => by cases h⟩, fun t h => by cases h; exact ⟨rfl, rfl, by decide, rfl⟩⟩
def TT : List TE := [te3, te4, te5, te9, te22, te24, te25, te26, te30, te32, te38, te41, te45, te49, te53, te56, te61, te64, te66, te68, te70, te71, te73]
theorem za3 : TOK Try.prog TT := TOK.cons zBa (TOK.cons zBb (TOK.cons zBc (TOK.cons zBd (TOK.cons zAh (TOK.cons zAi (TOK.cons zAj (TOK.cons zAk (TOK.cons zAl (TOK.cons zAm (TOK.cons zAn (TOK.cons zAo (TOK.cons zAp (TOK.cons zAq (TOK.cons zAr (TOK.cons zAs (TOK.cons zAt (TOK.cons zAu (TOK.cons zAv (TOK.cons zAw (TOK.cons zAx (TOK.cons zAy (TOK.cons zAz (TOK.nil)))))))))))))))))))))))

def zlL : Shape := ⟨[(.int .i64), Tc2], [(0, .v 0), (1, .addr 1)], []⟩
def zlK : Shape := ⟨[.bool], [(0, .v 0)], []⟩
def zmR : CE := ⟨19, zlL, zlK, fun X => zhW X.1 X.2⟩
theorem zrY : CE.ok Try.prog zmR := CE.of (Γ := []) (by kernel_rfl) za3 (GOK.nil) ⟨[], [], [], []⟩ Try.func19 rfl Try.ntmps19 (rs := [.tmp 3]) rfl (sig := zlL) (out := zlK) rfl Try.call19 (fun X => by kernel_rfl)

def zlN : Shape := ⟨[Tc6, Tc2, Tc2], [(0, .v 0), (1, .ptr 100000 0), (2, .addr 1)], [(100000, .box 56 [.fn 19 [.addr 2]])]⟩
def zlM : Shape := ⟨[.bool, Tc2], [(0, .v 0)], [(100000, .box 56 [.fn 19 [.addr 1]])]⟩
def zmS : CE := ⟨21, zlN, zlM, fun X => zhX X.1 X.2.1 X.2.2⟩
theorem zrZ : CE.ok Try.prog zmS := CE.of (Γ := [zmR]) (by kernel_rfl) za3 (GOK.cons zrY (GOK.nil)) ⟨[], [], [], []⟩ Try.func21 rfl Try.ntmps21 (rs := [.tmp 4]) rfl (sig := zlN) (out := zlM) rfl Try.call21 (fun X => by kernel_rfl)

def zii : Shape := ⟨[Tc5, Tc2, Tc2], [(0, .v 0), (1, .fn 21 [.ptr 100000 0, .addr 1])], [(100000, .box 56 [.fn 19 [.addr 2]])]⟩
def zih : Shape := ⟨[(.int .i64), Tc2], [(0, .v 0)], [(100000, .box 56 [.fn 19 [.addr 1]])]⟩
def zjd : CE := ⟨47, zii, zih, fun X => zlS X.1 X.2.1 X.2.2⟩
theorem zoa : CE.ok Try.prog zjd := CE.of (Γ := [zmS]) (by kernel_rfl) za3 (GOK.cons zrZ (GOK.nil)) ⟨[(2, ⟨⟨[Tc2, (.int .i64), Tc2], [(1, .fn 21 [.ptr 100000 0, .addr 0]), (8, .v 1)], [(100000, .box 56 [.fn 19 [.addr 2]])]⟩, [4, 5, 9, 10, 11, 12, 13, 14, 15, 16, 17, 18], [], [], 0, []⟩)], [], [], []⟩ Try.func47 rfl Try.ntmps47 (rs := [.tmp 4]) rfl (sig := zii) (out := zih) rfl Try.call47 (fun X => by kernel_rfl)

def zgP : Shape := ⟨[Tc5, Tc2, Tc2], [(0, .v 0), (1, .fn 21 [.ptr 100000 0, .addr 1])], [(100000, .box 56 [.fn 19 [.addr 2]])]⟩
def zgO : Shape := ⟨[.bool, Tc2], [(0, .v 0)], [(100000, .box 56 [.fn 19 [.addr 1]])]⟩
def zhi : CE := ⟨20, zgP, zgO, fun X => zfD X.1 X.2.1 X.2.2⟩
theorem zl2 : CE.ok Try.prog zhi := CE.of (Γ := [zjd]) (by kernel_rfl) za3 (GOK.cons zoa (GOK.nil)) ⟨[], [], [], []⟩ Try.func20 rfl Try.ntmps20 (rs := [.tmp 4]) rfl (sig := zgP) (out := zgO) rfl Try.call20 (fun X => by kernel_rfl)

def zok : Shape := ⟨[(.int .i64)], [(0, .v 0)], []⟩
def zoj : Shape := ⟨[.bool], [(0, .v 0)], []⟩
def zp2 : CE := ⟨62, zok, zoj, fun X => zoi X⟩
theorem zub : CE.ok Try.prog zp2 := CE.of (Γ := []) (by kernel_rfl) za3 (GOK.nil) ⟨[], [], [], []⟩ Try.func62 rfl Try.ntmps62 (rs := [.tmp 2]) rfl (sig := zok) (out := zoj) rfl Try.call62 (fun X => by kernel_rfl)

def zmj : Shape := ⟨[(.int .i64), (.int .i64)], [(0, .v 0), (1, .v 1)], []⟩
def zmi : Shape := ⟨[(.int .i64)], [(0, .v 0)], []⟩
def zny : CE := ⟨49, zmj, zmi, fun X => zhq X.1 X.2⟩
theorem zsb : CE.ok Try.prog zny := CE.of (Γ := [zp2]) (by kernel_rfl) za3 (GOK.cons zub (GOK.nil)) ⟨[], [], [], []⟩ Try.func49 rfl Try.ntmps49 (rs := [.tmp 4]) rfl (sig := zmj) (out := zmi) rfl Try.call49 (fun X => by kernel_rfl)

def zss : Shape := ⟨[(.list (.int .i64))], [(0, .v 0)], []⟩
def zsr : Shape := ⟨[(.int .i64)], [(0, .v 0)], []⟩
def zua : CE := ⟨48, zss, zsr, fun X => zvS X⟩
theorem zxb : CE.ok Try.prog zua := CE.of (Γ := []) (by kernel_rfl) za3 (GOK.nil) ⟨[(3, ⟨⟨[(.int .i64)], [(8, .v 0)], []⟩, [2, 5, 9, 10, 11, 12, 13, 14, 15, 16], [], [], 0, []⟩)], [], [], []⟩ Try.func48 rfl Try.ntmps48 (rs := [.tmp 2]) rfl (sig := zss) (out := zsr) rfl Try.call48 (fun X => by kernel_rfl)

def znT : Shape := ⟨[Tc6, Tc6], [(0, .v 0), (1, .v 1)], []⟩
def znS : Shape := ⟨[(.int .i64)], [(0, .v 0)], []⟩
def zpn : CE := ⟨22, znT, znS, fun X => znl X.1 X.2⟩
theorem ztT : CE.ok Try.prog zpn := CE.of (Γ := [zny, zua]) (by kernel_rfl) za3 (GOK.cons zsb (GOK.cons zxb (GOK.nil))) ⟨[], [], [(1, [(0, 0), (0, 1), (0, 2), (0, 3), (0, 5), (0, 6), (0, 7), (0, 8), (0, 10), (0, 11), (0, 12), (0, 13), (1, 4), (1, 9), (1, 14), (1, 15), (1, 16), (0, 17)])], []⟩ Try.func22 rfl Try.ntmps22 (rs := [.tmp 4]) rfl (sig := znT) (out := znS) rfl Try.call22 (fun X => by kernel_rfl)

def znR : Shape := ⟨[Tc2], [(0, .v 0)], []⟩
def znQ : Shape := ⟨[(.int .i64)], [(0, .v 0)], []⟩
def zpm : CE := ⟨9, znR, znQ, fun X => znk X⟩
theorem ztS : CE.ok Try.prog zpm := CE.of (Γ := [zhi, zpn]) (by kernel_rfl) za3 (GOK.cons zl2 (GOK.cons ztT (GOK.nil))) ⟨[(9, ⟨⟨[(.int .i64)], [(35, .v 0)], []⟩, [2, 4, 13, 17, 22, 36, 37, 38, 39, 40, 41, 42, 43, 44, 45, 46, 47, 48, 49, 50, 51, 52, 53, 54, 55], [], [1], 2, []⟩)], [], [(11, [(0, 0), (0, 1), (0, 2), (0, 3), (0, 4), (0, 5), (0, 6), (0, 7), (0, 8), (0, 9), (0, 10), (0, 11), (0, 12), (0, 13), (1, 14), (0, 15), (0, 16)])], []⟩ Try.func9 rfl Try.ntmps9 (rs := [.tmp 2]) rfl (sig := znR) (out := znQ) rfl Try.call9 (fun X => by kernel_rfl)

def zhD : Shape := ⟨[(.pair .str Tc6)], [(0, .addr 0)], []⟩
def zhC : Shape := ⟨[(.int .u8)], [(0, .v 0)], []⟩
def zb8 : CE := ⟨51, zhD, zhC, fun X => zbL X⟩
theorem zcB : CE.ok Try.prog zb8 := CE.of (Γ := []) (by kernel_rfl) za3 (GOK.nil) ⟨[], [], [(1, [(0, 0), (0, 1), (0, 2), (0, 3), (0, 4), (0, 5), (0, 6), (0, 7), (0, 8), (0, 9)]), (2, [(0, 0), (0, 1), (0, 2), (0, 3), (0, 4), (0, 5), (0, 6), (0, 7), (0, 8), (0, 9)])], []⟩ Try.func51 rfl Try.ntmps51 (rs := [.tmp 2]) rfl (sig := zhD) (out := zhC) rfl Try.call51 (fun X => by kernel_rfl)

def zgW : Shape := ⟨[(.pair .str Tc6), (.int .i64)], [(0, .addr 0), (1, .v 1)], []⟩
def zgV : Shape := ⟨[], [], []⟩
def zbf : CEp := ⟨25, zgW, zgV, fun X => zbs X.1 X.2⟩
theorem zbK : CEp.ok Try.prog 61 zbf := CEp.of (Γ := []) (Γp := []) (by kernel_rfl) za3 (GOK.nil) (GPOK.nil) ⟨[], [], [(2000000, [(0, 0), (0, 1), (0, 2), (0, 3), (0, 4), (0, 5), (0, 6), (6, 7), (2, 8)])], []⟩ Try.func25 rfl Try.ntmps25 (rs := []) rfl (sig := zgW) (out := zgV) rfl Try.call25 (fun X => by kernel_rfl)

def zeQ : Shape := ⟨[.str, (.int .i64), (.int .i64), (.int .i64)], [(0, .ptr 100000 0)], [(100000, .box 64 [.v 0, .v 1, .v 2, .v 3])]⟩
def zeP : Shape := ⟨[.str, (.int .i64), (.int .i64), (.int .i64)], [], [(100000, .box 64 [.v 0, .v 1, .v 2, .v 3])]⟩
def zbJ : CEp := ⟨52, zeQ, zeP, fun X => zaE X.1 X.2.1 X.2.2.1 X.2.2.2⟩
theorem zct : CEp.ok Try.prog 61 zbJ := CEp.of (Γ := []) (Γp := [zbf]) (by kernel_rfl) za3 (GOK.nil) (GPOK.cons zbK (GPOK.nil)) ⟨[], [], [(2000002, [(0, 0), (5, 1)])], []⟩ Try.func52 rfl Try.ntmps52 (rs := []) rfl (sig := zeQ) (out := zeP) rfl Try.call52 (fun X => by kernel_rfl)

def zgY : Shape := ⟨[.str, (.int .i64), (.int .i64), (.int .i64)], [(0, .ptr 100000 0)], [(100000, .box 64 [.v 0, .v 1, .v 2, .v 3])]⟩
def zgX : Shape := ⟨[.str, (.int .i64), (.int .i64), (.int .i64)], [], [(100000, .box 64 [.v 0, .v 1, .v 2, .v 3])]⟩
def zee : CEp := ⟨69, zgY, zgX, fun X => zc7 X.1 X.2.1 X.2.2.1 X.2.2.2⟩
theorem zhE : CEp.ok Try.prog 61 zee := CEp.of (Γ := []) (Γp := [zbf]) (by kernel_rfl) za3 (GOK.nil) (GPOK.cons zbK (GPOK.nil)) ⟨[], [], [(2000001, [(0, 0), (5, 1)])], []⟩ Try.func69 rfl Try.ntmps69 (rs := []) rfl (sig := zgY) (out := zgX) rfl Try.call69 (fun X => by kernel_rfl)

def zg4 : Shape := ⟨[(.int .u8), .str, (.int .i64), (.int .i64), (.int .i64)], [(0, .ptr 100000 0), (1, .v 0)], [(100000, .box 64 [.v 1, .v 2, .v 3, .v 4])]⟩
def zg3 : Shape := ⟨[.str, (.int .i64), (.int .i64), (.int .i64)], [], [(100000, .box 64 [.v 0, .v 1, .v 2, .v 3])]⟩
def zeg : CEp := ⟨71, zg4, zg3, fun X => zc9 X.1 X.2.1 X.2.2.1 X.2.2.2.1 X.2.2.2.2⟩
theorem zhH : CEp.ok Try.prog 61 zeg := CEp.of (Γ := [zb8]) (Γp := [zbf]) (by kernel_rfl) za3 (GOK.cons zcB (GOK.nil)) (GPOK.cons zbK (GPOK.nil)) ⟨[], [], [(2000001, [(0, 0), (5, 1)])], []⟩ Try.func71 rfl Try.ntmps71 (rs := []) rfl (sig := zg4) (out := zg3) rfl Try.call71 (fun X => by kernel_rfl)

def zg0 : Shape := ⟨[.str, (.int .i64), (.int .i64), (.int .i64)], [(0, .ptr 100000 0)], [(100000, .box 64 [.v 0, .v 1, .v 2, .v 3])]⟩
def zgZ : Shape := ⟨[.str, (.int .i64), (.int .i64), (.int .i64)], [], [(100000, .box 64 [.v 0, .v 1, .v 2, .v 3])]⟩
def zef : CEp := ⟨70, zg0, zgZ, fun X => zc8 X.1 X.2.1 X.2.2.1 X.2.2.2⟩
theorem zhF : CEp.ok Try.prog 61 zef := CEp.of (Γ := []) (Γp := [zeg]) (by kernel_rfl) za3 (GOK.nil) (GPOK.cons zhH (GPOK.nil)) ⟨[], [], [(2000000, [(0, 0), (5, 1)])], []⟩ Try.func70 rfl Try.ntmps70 (rs := []) rfl (sig := zg0) (out := zgZ) rfl Try.call70 (fun X => by kernel_rfl)

def zar : Shape := ⟨[.str, (.int .i64), (.int .i64), (.int .i64)], [(0, .ptr 100000 0)], [(100000, .box 64 [.v 0, .v 1, .v 2, .v 3])]⟩
def zaq : Shape := ⟨[(.tree (.pair (.int .u8) (.pair .bool (.pair (.int .i64) .unit)))), .str, (.int .i64), (.int .i64), (.int .i64)], [(0, .v 0)], [(100000, .box 64 [.v 1, .v 2, .v 3, .v 4])]⟩
def zl9 : CEp := ⟨63, zar, zaq, LFix zcC⟩
def zg2 : Shape := ⟨[.str, (.int .i64), (.int .i64), (.int .i64)], [(0, .ptr 100000 0)], [(100000, .box 64 [.v 0, .v 1, .v 2, .v 3])]⟩
def zg1 : Shape := ⟨[(.tree (.pair (.int .u8) (.pair .bool (.pair (.int .i64) .unit)))), .str, (.int .i64), (.int .i64), (.int .i64)], [(0, .v 0)], [(100000, .box 64 [.v 1, .v 2, .v 3, .v 4])]⟩
def zhG (rec : Tup zar.tys -> Option (Tup zaq.tys ⊕ (Int × Int))) : CEp := ⟨50, zg2, zg1, fun X => zbt (fun c c_1 c_2 c_3 => rec (c, c_1, c_2, c_3)) X.1 X.2.1 X.2.2.1 X.2.2.2⟩
theorem zmd (rec : Tup zar.tys -> Option (Tup zaq.tys ⊕ (Int × Int))) (hrec : CEp.ok Try.prog 61 ⟨63, zar, zaq, rec⟩) : CEp.ok Try.prog 61 (zhG rec) := CEp.of (Γ := [zb8]) (Γp := [⟨63, zar, zaq, rec⟩, zbJ]) (by kernel_rfl) za3 (GOK.cons zcB (GOK.nil)) (GPOK.cons hrec (GPOK.cons zct (GPOK.nil))) ⟨[(2, ⟨⟨[(.tree (.pair (.int .u8) (.pair .bool (.pair (.int .i64) .unit)))), .str, (.int .i64), (.int .i64), (.int .i64)], [(0, .ptr 100000 0), (3, .v 0)], [(100000, .box 64 [.v 1, .v 2, .v 3, .v 4])]⟩, [6, 7, 8, 9, 10, 11, 12, 13, 14, 15, 16], [], [], 0, []⟩)], [], [(2000001, [(0, 0), (5, 1), (0, 2)]), (2000003, [(0, 0), (5, 1)]), (2000004, [(0, 0), (0, 1), (5, 2), (2, 3), (0, 4), (2, 5), (0, 6)])], []⟩ Try.func50 rfl Try.ntmps50 (rs := [.tmp 2]) rfl (sig := zg2) (out := zg1) rfl Try.call50 (fun X => by kernel_rfl)
def zgj : Shape := ⟨[.str, (.int .i64), (.int .i64), (.int .i64)], [(0, .ptr 100000 0)], [(100000, .box 64 [.v 0, .v 1, .v 2, .v 3])]⟩
def zgi : Shape := ⟨[(.tree (.pair (.int .u8) (.pair .bool (.pair (.int .i64) .unit)))), .str, (.int .i64), (.int .i64), (.int .i64)], [(0, .v 0)], [(100000, .box 64 [.v 1, .v 2, .v 3, .v 4])]⟩
def zcZ (rec : Tup zar.tys -> Option (Tup zaq.tys ⊕ (Int × Int))) : CEp := ⟨24, zgj, zgi, fun X => zaU (fun c c_1 c_2 c_3 => rec (c, c_1, c_2, c_3)) X.1 X.2.1 X.2.2.1 X.2.2.2⟩
theorem zd6 (rec : Tup zar.tys -> Option (Tup zaq.tys ⊕ (Int × Int))) (hrec : CEp.ok Try.prog 61 ⟨63, zar, zaq, rec⟩) : CEp.ok Try.prog 61 (zcZ rec) := CEp.of (Γ := [zb8]) (Γp := [zhG rec, zbJ]) (by kernel_rfl) za3 (GOK.cons zcB (GOK.nil)) (GPOK.cons (zmd rec hrec) (GPOK.cons zct (GPOK.nil))) ⟨[(2, ⟨⟨[(.tree (.pair (.int .u8) (.pair .bool (.pair (.int .i64) .unit)))), .str, (.int .i64), (.int .i64), (.int .i64)], [(0, .ptr 100000 0), (3, .v 0)], [(100000, .box 64 [.v 1, .v 2, .v 3, .v 4])]⟩, [6, 7, 8, 9, 10, 11, 12, 13, 14, 15, 16], [], [], 0, []⟩)], [], [(2000001, [(0, 0), (5, 1), (0, 2)]), (2000003, [(0, 0), (5, 1)]), (2000004, [(0, 0), (0, 1), (5, 2), (2, 3), (0, 4), (2, 5), (0, 6)])], []⟩ Try.func24 rfl Try.ntmps24 (rs := [.tmp 2]) rfl (sig := zgj) (out := zgi) rfl Try.call24 (fun X => by kernel_rfl)
def zg6 : Shape := ⟨[.bool, .str, (.int .i64), (.int .i64), (.int .i64)], [(0, .ptr 100000 0), (1, .v 0)], [(100000, .box 64 [.v 1, .v 2, .v 3, .v 4])]⟩
def zg5 : Shape := ⟨[(.tree (.pair (.int .u8) (.pair .bool (.pair (.int .i64) .unit)))), .str, (.int .i64), (.int .i64), (.int .i64)], [(0, .v 0)], [(100000, .box 64 [.v 1, .v 2, .v 3, .v 4])]⟩
def zhI (rec : Tup zar.tys -> Option (Tup zaq.tys ⊕ (Int × Int))) : CEp := ⟨68, zg6, zg5, fun X => zbP (fun c c_1 c_2 c_3 => rec (c, c_1, c_2, c_3)) X.1 X.2.1 X.2.2.1 X.2.2.2.1 X.2.2.2.2⟩
theorem zme (rec : Tup zar.tys -> Option (Tup zaq.tys ⊕ (Int × Int))) (hrec : CEp.ok Try.prog 61 ⟨63, zar, zaq, rec⟩) : CEp.ok Try.prog 61 (zhI rec) := CEp.of (Γ := [zb8]) (Γp := [zbJ, ⟨63, zar, zaq, rec⟩, zee, zcZ rec, zeg, zef, zbf]) (by kernel_rfl) za3 (GOK.cons zcB (GOK.nil)) (GPOK.cons zct (GPOK.cons hrec (GPOK.cons zhE (GPOK.cons (zd6 rec hrec) (GPOK.cons zhH (GPOK.cons zhF (GPOK.cons zbK (GPOK.nil)))))))) ⟨[], [(6, ⟨⟨[.bool], [(13, .v 0)], []⟩, [14, 15, 16], [], [], 0, []⟩)], [(2000001, [(0, 0), (5, 1)]), (2000008, [(0, 0), (0, 1), (0, 2), (5, 3), (2, 4), (0, 5), (2, 6), (0, 7)]), (2000010, [(0, 0), (5, 1)]), (2000011, [(0, 0), (5, 1), (0, 2)]), (2000012, [(0, 0), (5, 1)]), (2000013, [(0, 0), (5, 1), (0, 2)]), (2000014, [(0, 0), (5, 1)]), (2000016, [(0, 0), (5, 1)])], []⟩ Try.func68 rfl Try.ntmps68 (rs := [.tmp 4]) rfl (sig := zg6) (out := zg5) rfl Try.call68 (fun X => by kernel_rfl)
theorem zmc : CEp.ok Try.prog 61 zl9 := CEp.ofRec (Γ := [zb8]) (Γp := fun rec => [zbJ, zhI rec, zee, zcZ rec, zef, zbf]) (by kernel_rfl) za3 (GOK.cons zcB (GOK.nil)) ⟨[], [(2, ⟨⟨[.bool], [(7, .v 0)], []⟩, [8, 9, 10, 11, 12, 13], [], [], 0, []⟩), (5, ⟨⟨[.bool], [(19, .v 0)], []⟩, [20, 21, 22, 23, 24, 25], [], [], 0, []⟩), (11, ⟨⟨[.bool], [(43, .v 0)], []⟩, [44, 45, 46, 47, 48, 49], [], [], 0, []⟩), (14, ⟨⟨[], [], []⟩, [2, 3, 5, 6, 7, 8, 9, 10, 11, 12, 13, 14, 15, 16, 17, 18, 19, 20, 21, 22, 23, 24, 25, 26, 27, 28, 29, 30, 31, 32, 33, 34, 35, 36, 37, 38, 39, 40, 41, 42, 43, 44, 45, 46, 47, 48, 49, 50, 51, 52, 53, 54, 55, 56, 57, 58], [], [], 0, []⟩)], [(2000003, [(0, 0), (5, 1)]), (2000006, [(0, 0), (5, 1)]), (2000009, [(0, 0), (5, 1)]), (2000010, [(0, 0), (5, 1), (2, 2), (0, 3), (2, 4), (0, 5)]), (2000012, [(0, 0), (0, 1), (0, 2), (5, 3), (0, 4)]), (2000014, [(0, 0), (5, 1)]), (2000015, [(0, 0), (5, 1)]), (2000016, [(0, 0), (5, 1), (0, 2)]), (2000017, [(0, 0), (5, 1)])], []⟩ Try.func63 rfl Try.ntmps63 (rs := [.tmp 2]) rfl (sig := zar) (out := zaq) rfl (fun rec hrec => (GPOK.cons zct (GPOK.cons (zme rec hrec) (GPOK.cons zhE (GPOK.cons (zd6 rec hrec) (GPOK.cons zhF (GPOK.cons zbK (GPOK.nil)))))))) Try.call63 (d := zcC) (fun rc X => by kernel_rfl)
def zfI : CEp := zcZ (LFix zcC)
theorem zko : CEp.ok Try.prog 61 zfI := zd6 _ zmc
def zlB : Shape := ⟨[.str], [(0, .v 0)], []⟩
def zlA : Shape := ⟨[(.tree (.pair (.int .u8) (.pair .bool (.pair (.int .i64) .unit)))), Tc7], [(0, .v 0), (1, .v 1)], []⟩
def zl8 : CE := ⟨10, zlB, zlA, fun X => zhB X⟩
theorem zpA (p : Int × Int) : evC TT [] [] 0 bothS ⟨[], [], [], [(7, .one 0 (.alt 0 1 (.leaf [(2, 2), (2, 3)]) (.alt 2 2 (.leaf [(0, 1), (2, 3)]) .stop)))]⟩ (zxa (Try.f23.body.getD .skip)) (zyl 13 10 38 32 p) (zA7 true 38 32) = bothS (some (p.1, p.2)) (some (p.1, p.2)) := by kernel_rfl
theorem zpz (va vb : Value) (w : World) : CallsD Try.prog 23 #[va, vb] .returning w (fun e u w' => (∃ v, e = .returned v) /\ u = .returning /\ w' = w) := by
  refine callsD_of_wpS Try.func23 rfl fun c₀ cs hu => ?_
  apply wpS_seq
  apply wpS_region
  simp [wpOpsS, go_sem, recoverD, hu, Try.ntmps23, Exit.thenS]
  refine wpS_of_wp (wp_block (wp_seq (wp_region ?_)))
  simp [wpOps, go_sem]
  left
  refine wp_cond (t := true) (by simp [Act.eval, Array.replicate]) ?_
  simp only [if_true]
  refine wp_region ?_
  simp [wpOps, go_sem]
  left
  cases c₀
  simp_all [bodyPostS, results, Try.results23]
theorem znZ (p : Int × Int) (w : World) (ba bb : Nat) (ca cb : Array Value) (hne : ba ≠ bb) (h1 : w.heap[ba]? = some (.cells ca 38 (0, 0))) (h2 : ca.size = 1) (h3 : w.heap[bb]? = some (.cells cb 32 (0, 0))) (h4 : cb.size = 2) :
    CallsD Try.prog 23 #[.pointer (some ⟨ba, 0, none⟩), .pointer (some ⟨bb, 0, none⟩)] (.panicking (pch 61 p)) w (fun e u w' => (∃ v, e = .returned v) /\ settle u = .returning /\
      (w'.os = w.os /\ w'.tape = w.tape /\ w'.output = w.output /\ w.heap.size <= w'.heap.size) /\ (∀ b, b < w.heap.size -> b ≠ ba -> b ≠ bb -> w'.heap[b]? = w.heap[b]?) /\
      w'.heap[ba]? = some (.cells #[zV true] 38 (0, 0)) /\ w'.heap[bb]? = some (.cells #[.int .i64 p.1, .int .i64 p.2] 32 (0, 0))) := by
  refine callsD_of_wpS Try.func23 rfl fun c₀ cs hu => ?_
  apply wpS_seq
  apply wpS_region
  simp [wpOpsS, go_sem, recoverD, hu, Try.ntmps23, Exit.thenS, pch]
  refine wpS_of_wp (wp_block (wp_seq (wp_region ?_)))
  simp [wpOps, go_sem]
  left
  refine wp_cond (t := false) (by simp [Act.eval, Array.replicate]) ?_
  simp only [Bool.false_eq_true, if_false]
  refine wp_seq (wp_region ?_)
  simp [wpOps, go_sem, zwP Try.underlying61]
  left
  left
  left
  refine wp_cond (t := true) (by simp [Act.eval, Array.replicate]) ?_
  simp only [if_true]
  refine wp_mono (zAe (by kernel_rfl) za3 (zpA p) hne h1 h2 h3 h4 ?_ ?_ ?_ ?_ ?_) fun e a' w' hh => ?_
  · simp
  · rfl
  · simp [Array.replicate]
  · simp [Array.replicate]
  · simp [Array.replicate]
  · obtain ⟨rfl, hd, ho, hk, y1, y2⟩ := hh
    exact ⟨hd, _, rfl, .tuple #[], by simp [results, Try.results23], ⟨_, rfl⟩, rfl, ho, hk, y1, y2⟩
theorem zog : CatchOK Try.prog 61 23 38 32 (zV true) := ⟨Try.call23, zpz, znZ⟩
theorem zrd : CE.ok Try.prog zl8 := CE.ofCatch (Γ := []) (Γp := [zfI, zbf]) (T := 61) (by kernel_rfl) za3 (GOK.nil) (GPOK.cons zko (GPOK.cons zbK (GPOK.nil))) ⟨[], [], [(3000003, []), (2000005, [(0, 0), (5, 1), (2, 2)]), (2000007, [(0, 0), (5, 1)])], []⟩ Try.func10 rfl Try.ntmps10 (rs := [.cell 2 38, .cell 3 32]) rfl (sig := zlB) (out := zlA) rfl Try.call10 (g := 23) (sa := 2) (sb := 3) (Ta := 38) (Tb := 32) (z := zE true) zog (zBe true) (fun X => by kernel_rfl)

def zlU : Shape := ⟨[(.list (.int .i64)), (.int .i64)], [(0, .v 0), (1, .v 1)], []⟩
def zlT : Shape := ⟨[(.int .i64)], [(0, .v 0)], []⟩
def zmZ : CE := ⟨53, zlU, zlT, fun X => zqp X.1 X.2⟩
theorem zr1 : CE.ok Try.prog zmZ := CE.of (Γ := []) (by kernel_rfl) za3 (GOK.nil) ⟨[(2, ⟨⟨[(.int .i64)], [(8, .v 0)], []⟩, [4, 5, 9, 10, 11, 12, 13, 14, 15, 16, 17, 18], [], [], 0, []⟩)], [], [], []⟩ Try.func53 rfl Try.ntmps53 (rs := [.tmp 4]) rfl (sig := zlU) (out := zlT) rfl Try.call53 (fun X => by kernel_rfl)

def zja : Shape := ⟨[(.list (.int .i64)), (.int .i64)], [(0, .v 0), (1, .v 1)], []⟩
def zi9 : Shape := ⟨[.bool], [(0, .v 0)], []⟩
def zjZ : CE := ⟨26, zja, zi9, fun X => zi8 X.1 X.2⟩
theorem zpo : CE.ok Try.prog zjZ := CE.of (Γ := [zmZ]) (by kernel_rfl) za3 (GOK.cons zr1 (GOK.nil)) ⟨[], [], [], []⟩ Try.func26 rfl Try.ntmps26 (rs := [.tmp 4]) rfl (sig := zja) (out := zi9) rfl Try.call26 (fun X => by kernel_rfl)

def zjB : Shape := ⟨[Tc2], [(0, .v 0)], []⟩
def zjA : Shape := ⟨[Tc1], [(0, .addr 0)], []⟩
def zkE : CE := ⟨11, zjB, zjA, fun X => zhy X⟩
theorem zpB : CE.ok Try.prog zkE := CE.of (Γ := [zjZ]) (by kernel_rfl) za3 (GOK.cons zpo (GOK.nil)) ⟨[(3, ⟨⟨[(.int .i64), (.int .i64), (.int .i64), Tc5, (.list (.list (.int .i64)))], [(3, .ptr 1 0), (17, .v 0)], [(1, .box 68 [.v 1, .v 2, .v 3, .own 2]), (2, .out 3 70 3 4)]⟩, [5, 18, 19, 20, 21, 22, 23, 24, 25, 26, 27, 28, 29, 30, 31, 32, 33, 34, 35, 36, 37, 38, 39, 40, 41, 42, 43, 44, 45, 46, 47, 48, 49, 50, 51, 52], [], [0], 4, []⟩), (9, ⟨⟨[(.int .i64), (.int .i64), (.int .i64), Tc5, (.list (.list (.int .i64)))], [(3, .ptr 1 0), (56, .own 2), (58, .v 0)], [(1, .box 68 [.v 1, .v 2, .v 3, .own 2]), (2, .out 3 70 3 4)]⟩, [6, 7, 53, 54, 55, 59, 60, 61, 62, 63, 64, 65, 66, 67, 68, 69, 70, 71, 72, 73, 74], [], [0], 4, []⟩)], [(1, ⟨⟨[(.int .i64), (.int .i64), Tc5, (.list (.list (.int .i64)))], [(3, .ptr 1 0)], [(1, .box 68 [.v 0, .v 1, .v 2, .own 2]), (2, .out 3 70 3 3)]⟩, [8, 9, 10, 11, 12, 13], [], [0], 4, []⟩), (6, ⟨⟨[(.int .i64), (.int .i64), Tc5, (.list (.list (.int .i64)))], [(3, .ptr 1 0)], [(1, .box 68 [.v 0, .v 1, .v 2, .own 2]), (2, .out 4 70 3 3)]⟩, [5, 19, 20, 21, 22, 23, 24, 25, 26, 27, 28, 29, 30, 31, 32, 33, 34, 35, 36, 37, 38, 39, 40, 41, 42, 43, 44, 45, 46, 47, 48, 49, 50, 51], [3], [0], 5, []⟩)], [(5, [(0, 0), (0, 1), (0, 2), (0, 3), (0, 4), (0, 5), (0, 6), (0, 7), (0, 8), (0, 9), (1, 10), (0, 11)]), (12, [(0, 0), (0, 1), (0, 2), (0, 3), (0, 4), (0, 5), (2, 6), (0, 7), (4, 8)])], [(1, (.one 1 (.live [3] (.rd 2 [3, 4, 5, 6] (.ban 0 [4, 5, 6] (.alt 4 3 (.leaf [(1, 4), (1, 5), (0, 6)]) .stop) (.alt 4 3 (.leaf [(0, 0), (1, 4), (1, 5), (0, 6)]) .stop)))))), (6, (.one 0 (.one 1 (.one 2 (.one 4 (.one 6 (.one 7 (.one 8 (.one 10 (.one 14 (.live [17, 19] (.rd 9 [12, 13, 17, 18, 19] (.rd 11 [12, 13, 17, 18, 19] (.one 12 (.rd 13 [17, 18, 19] (.rd 15 [16, 17, 18, 19] (.ban 3 [18, 19] (.ban 5 [18, 19] (.alt 1 16 (.alt 4 17 (.leaf [(0, 18), (4, 19)]) .stop) .stop) (.alt 1 16 (.alt 4 17 (.leaf [(0, 5), (0, 18), (4, 19)]) .stop) .stop)) (.ban 5 [18, 19] (.alt 1 16 (.alt 4 17 (.leaf [(0, 3), (0, 18), (4, 19)]) .stop) .stop) (.alt 1 16 (.alt 4 17 (.leaf [(0, 3), (0, 5), (0, 18), (4, 19)]) .stop) .stop)))))))))))))))))))]⟩ Try.func11 rfl Try.ntmps11 (rs := [.tmp 2]) rfl (sig := zjB) (out := zjA) rfl Try.call11 (fun X => by kernel_rfl)

def ze6 : Shape := ⟨[(.int .i64), (.tree (.pair (.int .u8) (.pair .bool (.pair (.int .i64) .unit))))], [(0, .v 0), (1, .addr 1)], []⟩
def ze5 : Shape := ⟨[.bool], [(0, .v 0)], []⟩
def zf1 : CE := ⟨28, ze6, ze5, fun X => zdf X.1 X.2⟩
theorem zkw : CE.ok Try.prog zf1 := CE.of (Γ := []) (by kernel_rfl) za3 (GOK.nil) ⟨[], [], [], []⟩ Try.func28 rfl Try.ntmps28 (rs := [.tmp 3]) rfl (sig := ze6) (out := ze5) rfl Try.call28 (fun X => by kernel_rfl)

def zg8 : Shape := ⟨[Tc1, (.tree (.pair (.int .u8) (.pair .bool (.pair (.int .i64) .unit))))], [(0, .addr 0), (1, .fn 28 [.addr 1])], []⟩
def zg7 : Shape := ⟨[(.list .bool)], [(0, .own 0)], [(0, .arr 4 0)]⟩
def zhK : CE := ⟨27, zg8, zg7, fun X => zda X.1 X.2⟩
theorem zmf : CE.ok Try.prog zhK := CE.of (Γ := [zf1]) (by kernel_rfl) za3 (GOK.cons zkw (GOK.nil)) ⟨[(3, ⟨⟨[(.int .i64), (.list .bool)], [(5, .own 0), (15, .v 0)], [(0, .arr 4 1)]⟩, [6, 12, 13, 16, 17, 18, 19, 20, 21, 22, 23, 24], [], [], 1, []⟩)], [], [], []⟩ Try.func27 rfl Try.ntmps27 (rs := [.tmp 4]) rfl (sig := zg8) (out := zg7) rfl Try.call27 (fun X => by kernel_rfl)

def zem : Shape := ⟨[Tc6, (.int .i64), (.tree (.pair (.int .u8) (.pair .bool (.pair (.int .i64) .unit))))], [(0, .v 0), (1, .addr 1), (2, .addr 2)], []⟩
def zel : Shape := ⟨[.bool], [(0, .v 0)], []⟩
def zeN : CE := ⟨30, zem, zel, fun X => zbV X.1 X.2.1 X.2.2⟩
theorem zju : CE.ok Try.prog zeN := CE.of (Γ := []) (by kernel_rfl) za3 (GOK.nil) ⟨[], [], [(1, [(0, 0), (0, 1), (0, 2), (0, 3), (0, 4), (0, 5), (0, 6), (0, 7), (0, 8), (0, 9), (0, 10), (0, 11), (0, 12), (0, 13)])], []⟩ Try.func30 rfl Try.ntmps30 (rs := [.tmp 4]) rfl (sig := zem) (out := zel) rfl Try.call30 (fun X => by kernel_rfl)

def zhk : Shape := ⟨[Tc5, (.int .i64), (.tree (.pair (.int .u8) (.pair .bool (.pair (.int .i64) .unit))))], [(0, .v 0), (1, .fn 30 [.addr 1, .addr 2])], []⟩
def zhj : Shape := ⟨[(.int .i64)], [(0, .v 0)], []⟩
def zhZ : CE := ⟨47, zhk, zhj, fun X => zgR X.1 X.2.1 X.2.2⟩
theorem zmX : CE.ok Try.prog zhZ := CE.of (Γ := [zeN]) (by kernel_rfl) za3 (GOK.cons zju (GOK.nil)) ⟨[(2, ⟨⟨[(.int .i64)], [(8, .v 0)], []⟩, [4, 5, 9, 10, 11, 12, 13, 14, 15, 16, 17, 18], [], [], 0, []⟩)], [], [], []⟩ Try.func47 rfl Try.ntmps47 (rs := [.tmp 4]) rfl (sig := zhk) (out := zhj) rfl Try.call47 (fun X => by kernel_rfl)

def zfq : Shape := ⟨[Tc5, (.int .i64), (.tree (.pair (.int .u8) (.pair .bool (.pair (.int .i64) .unit))))], [(0, .v 0), (1, .fn 30 [.addr 1, .addr 2])], []⟩
def zfp : Shape := ⟨[.bool], [(0, .v 0)], []⟩
def zge : CE := ⟨20, zfq, zfp, fun X => zdq X.1 X.2.1 X.2.2⟩
theorem zkV : CE.ok Try.prog zge := CE.of (Γ := [zhZ]) (by kernel_rfl) za3 (GOK.cons zmX (GOK.nil)) ⟨[], [], [], []⟩ Try.func20 rfl Try.ntmps20 (rs := [.tmp 4]) rfl (sig := zfq) (out := zfp) rfl Try.call20 (fun X => by kernel_rfl)

def ze8 : Shape := ⟨[(.int .i64), (.tree (.pair (.int .u8) (.pair .bool (.pair (.int .i64) .unit)))), Tc1], [(0, .v 0), (1, .ptr 100000 0), (2, .addr 1)], [(100000, .box 41 [.addr 2])]⟩
def ze7 : Shape := ⟨[.bool, Tc1], [(0, .v 0)], [(100000, .box 41 [.addr 1])]⟩
def zf2 : CE := ⟨29, ze8, ze7, fun X => zdg X.1 X.2.1 X.2.2⟩
theorem zkx : CE.ok Try.prog zf2 := CE.of (Γ := [zge]) (by kernel_rfl) za3 (GOK.cons zkV (GOK.nil)) ⟨[], [], [], []⟩ Try.func29 rfl Try.ntmps29 (rs := [.tmp 4]) rfl (sig := ze8) (out := ze7) rfl Try.call29 (fun X => by kernel_rfl)

def zfM : Shape := ⟨[Tc1, (.tree (.pair (.int .u8) (.pair .bool (.pair (.int .i64) .unit)))), Tc1], [(0, .addr 0), (1, .fn 29 [.ptr 100000 0, .addr 1])], [(100000, .box 41 [.addr 2])]⟩
def zfL : Shape := ⟨[(.list .bool), Tc1], [(0, .own 0)], [(0, .arr 4 0), (100000, .box 41 [.addr 1])]⟩
def zgk : CE := ⟨27, zfM, zfL, fun X => zdC X.1 X.2.1 X.2.2⟩
theorem zk6 : CE.ok Try.prog zgk := CE.of (Γ := [zf2]) (by kernel_rfl) za3 (GOK.cons zkx (GOK.nil)) ⟨[(3, ⟨⟨[(.tree (.pair (.int .u8) (.pair .bool (.pair (.int .i64) .unit)))), (.int .i64), Tc1, (.list .bool)], [(1, .fn 29 [.ptr 100000 0, .addr 0]), (5, .own 0), (15, .v 1)], [(100000, .box 41 [.addr 2]), (0, .arr 4 3)]⟩, [6, 12, 13, 16, 17, 18, 19, 20, 21, 22, 23, 24], [], [], 1, []⟩)], [], [], []⟩ Try.func27 rfl Try.ntmps27 (rs := [.tmp 4]) rfl (sig := zfM) (out := zfL) rfl Try.call27 (fun X => by kernel_rfl)

def zlP : Shape := ⟨[(.list .bool)], [(0, .v 0)], []⟩
def zlO : Shape := ⟨[(.list .bool)], [(0, .own 0)], [(0, .arr 4 0)]⟩
def zgN : CE := ⟨54, zlP, zlO, fun X => zgd X⟩
theorem zi7 : CE.ok Try.prog zgN := CE.of (Γ := []) (by kernel_rfl) za3 (GOK.nil) ⟨[], [], [], []⟩ Try.func54 rfl Try.ntmps54 (rs := [.tmp 2]) rfl (sig := zlP) (out := zlO) rfl Try.call54 (fun X => by kernel_rfl)

def znx : Shape := ⟨[(.list .bool)], [(0, .v 0)], []⟩
def znw : Shape := ⟨[(.list .bool)], [(0, .own 0)], [(0, .arr 4 0)]⟩
def zof : CE := ⟨31, znx, znw, fun X => zcs X⟩
theorem zs0 : CE.ok Try.prog zof := CE.of (Γ := [zgN]) (by kernel_rfl) za3 (GOK.cons zi7 (GOK.nil)) ⟨[(3, ⟨⟨[(.int .i64), (.list .bool)], [(3, .own 0), (10, .v 0)], [(0, .arr 4 1)]⟩, [4, 5, 7, 11, 12, 13, 14, 15, 16, 17, 18, 19, 20], [], [], 1, []⟩)], [], [], []⟩ Try.func31 rfl Try.ntmps31 (rs := [.tmp 2]) rfl (sig := znx) (out := znw) rfl Try.call31 (fun X => by kernel_rfl)

def zfa : Shape := ⟨[(.int .i64), (.list .bool), (.list .bool)], [(0, .v 0), (1, .addr 1), (2, .addr 2)], []⟩
def ze9 : Shape := ⟨[.bool], [(0, .v 0)], []⟩
def zf3 : CE := ⟨32, zfa, ze9, fun X => zdh X.1 X.2.1 X.2.2⟩
theorem zky : CE.ok Try.prog zf3 := CE.of (Γ := []) (by kernel_rfl) za3 (GOK.nil) ⟨[], [], [], []⟩ Try.func32 rfl Try.ntmps32 (rs := [.tmp 4]) rfl (sig := zfa) (out := ze9) rfl Try.call32 (fun X => by kernel_rfl)

def zfO : Shape := ⟨[Tc1, (.list .bool), (.list .bool)], [(0, .addr 0), (1, .fn 32 [.addr 1, .addr 2])], []⟩
def zfN : Shape := ⟨[(.list .bool)], [(0, .own 0)], [(0, .arr 4 0)]⟩
def zgl : CE := ⟨27, zfO, zfN, fun X => zdD X.1 X.2.1 X.2.2⟩
theorem zk7 : CE.ok Try.prog zgl := CE.of (Γ := [zf3]) (by kernel_rfl) za3 (GOK.cons zky (GOK.nil)) ⟨[(3, ⟨⟨[(.int .i64), (.list .bool)], [(5, .own 0), (15, .v 0)], [(0, .arr 4 1)]⟩, [6, 12, 13, 16, 17, 18, 19, 20, 21, 22, 23, 24], [], [], 1, []⟩)], [], [], []⟩ Try.func27 rfl Try.ntmps27 (rs := [.tmp 4]) rfl (sig := zfO) (out := zfN) rfl Try.call27 (fun X => by kernel_rfl)

def zfc : Shape := ⟨[(.int .i64), (.list .bool), (.list .bool)], [(0, .v 0), (1, .addr 1), (2, .addr 2)], []⟩
def zfb : Shape := ⟨[.bool], [(0, .v 0)], []⟩
def zf4 : CE := ⟨33, zfc, zfb, fun X => zdi X.1 X.2.1 X.2.2⟩
theorem zkz : CE.ok Try.prog zf4 := CE.of (Γ := []) (by kernel_rfl) za3 (GOK.nil) ⟨[], [], [], []⟩ Try.func33 rfl Try.ntmps33 (rs := [.tmp 4]) rfl (sig := zfc) (out := zfb) rfl Try.call33 (fun X => by kernel_rfl)

def zfQ : Shape := ⟨[Tc1, (.list .bool), (.list .bool)], [(0, .addr 0), (1, .fn 33 [.addr 1, .addr 2])], []⟩
def zfP : Shape := ⟨[(.list .bool)], [(0, .own 0)], [(0, .arr 4 0)]⟩
def zgm : CE := ⟨27, zfQ, zfP, fun X => zdE X.1 X.2.1 X.2.2⟩
theorem zk8 : CE.ok Try.prog zgm := CE.of (Γ := [zf4]) (by kernel_rfl) za3 (GOK.cons zkz (GOK.nil)) ⟨[(3, ⟨⟨[(.int .i64), (.list .bool)], [(5, .own 0), (15, .v 0)], [(0, .arr 4 1)]⟩, [6, 12, 13, 16, 17, 18, 19, 20, 21, 22, 23, 24], [], [], 1, []⟩)], [], [], []⟩ Try.func27 rfl Try.ntmps27 (rs := [.tmp 4]) rfl (sig := zfQ) (out := zfP) rfl Try.call27 (fun X => by kernel_rfl)

def ze4 : Shape := ⟨[(.int .i64), (.list .bool)], [(0, .v 0), (1, .addr 1)], []⟩
def ze3 : Shape := ⟨[.bool], [(0, .v 0)], []⟩
def zfZ : CE := ⟨59, ze4, ze3, fun X => zcm X.1 X.2⟩
theorem zkv : CE.ok Try.prog zfZ := CE.of (Γ := []) (by kernel_rfl) za3 (GOK.nil) ⟨[], [], [], []⟩ Try.func59 rfl Try.ntmps59 (rs := [.tmp 3]) rfl (sig := ze4) (out := ze3) rfl Try.call59 (fun X => by kernel_rfl)

def zhm : Shape := ⟨[(.list (.int .i64)), (.list .bool)], [(0, .v 0), (1, .fn 59 [.addr 1])], []⟩
def zhl : Shape := ⟨[(.int .i64)], [(0, .v 0)], []⟩
def zh0 : CE := ⟨64, zhm, zhl, fun X => zgT X.1 X.2⟩
theorem zmY : CE.ok Try.prog zh0 := CE.of (Γ := [zfZ]) (by kernel_rfl) za3 (GOK.cons zkv (GOK.nil)) ⟨[(2, ⟨⟨[(.int .i64)], [(8, .v 0)], []⟩, [4, 5, 9, 10, 11, 12, 13, 14, 15, 16, 17, 18], [], [], 0, []⟩)], [], [], []⟩ Try.func64 rfl Try.ntmps64 (rs := [.tmp 4]) rfl (sig := zhm) (out := zhl) rfl Try.call64 (fun X => by kernel_rfl)

def zfs : Shape := ⟨[(.list (.int .i64)), (.list .bool)], [(0, .v 0), (1, .fn 59 [.addr 1])], []⟩
def zfr : Shape := ⟨[.bool], [(0, .v 0)], []⟩
def zgf : CE := ⟨58, zfs, zfr, fun X => zdr X.1 X.2⟩
theorem zkW : CE.ok Try.prog zgf := CE.of (Γ := [zh0]) (by kernel_rfl) za3 (GOK.cons zmY (GOK.nil)) ⟨[], [], [], []⟩ Try.func58 rfl Try.ntmps58 (rs := [.tmp 4]) rfl (sig := zfs) (out := zfr) rfl Try.call58 (fun X => by kernel_rfl)

def zgu : Shape := ⟨[Tc1, (.int .i64), (.list .bool)], [(0, .addr 0), (1, .v 1), (2, .v 2)], []⟩
def zgt : Shape := ⟨[.bool], [(0, .v 0)], []⟩
def zc1 : CE := ⟨39, zgu, zgt, fun X => zcd X.1 X.2.1 X.2.2⟩
theorem zd7 : CE.ok Try.prog zc1 := CE.of (Γ := [zgf]) (by kernel_rfl) za3 (GOK.cons zkW (GOK.nil)) ⟨[], [], [], []⟩ Try.func39 rfl Try.ntmps39 (rs := [.tmp 6]) rfl (sig := zgu) (out := zgt) rfl Try.call39 (fun X => by kernel_rfl)

def zlR : Shape := ⟨[(.list .bool), (.list .bool)], [(0, .v 0), (1, .v 1)], []⟩
def zlQ : Shape := ⟨[.bool], [(0, .v 0)], []⟩
def zjc : CE := ⟨56, zlR, zlQ, fun X => zhY X.1 X.2⟩
theorem zmW : CE.ok Try.prog zjc := CE.of (Γ := []) (by kernel_rfl) za3 (GOK.nil) ⟨[(4, ⟨⟨[(.int .i64)], [(13, .v 0)], []⟩, [4, 5, 14, 15, 16, 17, 18, 19, 20, 21, 22, 23, 24, 25], [], [], 0, []⟩)], [], [(6, [(0, 0), (0, 1), (0, 2), (0, 3), (0, 4), (0, 5), (0, 6), (0, 7), (0, 8)])], []⟩ Try.func56 rfl Try.ntmps56 (rs := [.tmp 4]) rfl (sig := zlR) (out := zlQ) rfl Try.call56 (fun X => by kernel_rfl)

def zek : Shape := ⟨[(.int .i64), (.list .bool), Tc1, (.list .bool)], [(0, .v 0), (1, .ptr 100000 0), (2, .ptr 100001 0), (3, .ptr 100002 0)], [(100000, .box 25 [.own 100003]), (100001, .box 25 [.v 1]), (100002, .box 41 [.addr 2]), (100003, .arr 4 3)]⟩
def zej : Shape := ⟨[.bool, (.list .bool), (.list .bool), Tc1], [(0, .v 0)], [(100000, .box 25 [.own 50]), (50, .arr 4 1), (100001, .box 25 [.v 2]), (100002, .box 41 [.addr 3])]⟩
def zeM : CE := ⟨55, zek, zej, fun X => zcJ X.1 X.2.1 X.2.2.1 X.2.2.2⟩
theorem zjt : CE.ok Try.prog zeM := CE.of (Γ := [zc1]) (by kernel_rfl) za3 (GOK.cons zd7 (GOK.nil)) ⟨[], [], [], []⟩ Try.func55 rfl Try.ntmps55 (rs := [.tmp 5]) rfl (sig := zek) (out := zej) rfl Try.call55 (fun X => by kernel_rfl)

def zfS : Shape := ⟨[Tc1, (.list .bool), Tc1, (.list .bool)], [(0, .addr 0), (1, .fn 55 [.ptr 100000 0, .ptr 100001 0, .ptr 100002 0])], [(100000, .box 25 [.own 100003]), (100001, .box 25 [.v 1]), (100002, .box 41 [.addr 2]), (100003, .arr 4 3)]⟩
def zfR : Shape := ⟨[(.list .bool), (.list .bool), (.list .bool), Tc1], [(0, .own 0)], [(0, .arr 4 0), (100000, .box 25 [.own 50]), (50, .arr 4 1), (100001, .box 25 [.v 2]), (100002, .box 41 [.addr 3])]⟩
def zgn : CE := ⟨27, zfS, zfR, fun X => zdF X.1 X.2.1 X.2.2.1 X.2.2.2⟩
theorem zk9 : CE.ok Try.prog zgn := CE.of (Γ := [zeM]) (by kernel_rfl) za3 (GOK.cons zjt (GOK.nil)) ⟨[(3, ⟨⟨[(.int .i64), (.list .bool), Tc1, (.list .bool), (.list .bool)], [(1, .fn 55 [.ptr 100000 0, .ptr 100001 0, .ptr 100002 0]), (5, .own 0), (15, .v 0)], [(100000, .box 25 [.own 1]), (100001, .box 25 [.v 1]), (100002, .box 41 [.addr 2]), (0, .arr 4 3), (1, .arr 4 4)]⟩, [6, 12, 13, 16, 17, 18, 19, 20, 21, 22, 23, 24], [100003], [], 2, []⟩)], [], [], []⟩ Try.func27 rfl Try.ntmps27 (rs := [.tmp 4]) rfl (sig := zfS) (out := zfR) rfl Try.call27 (fun X => by kernel_rfl)

def zgy : Shape := ⟨[Tc1, (.list .bool), (.list .bool)], [(0, .addr 0), (1, .v 1), (2, .v 2)], []⟩
def zgx : Shape := ⟨[(.list .bool)], [(0, .v 0)], []⟩
def zhc : CE := ⟨34, zgy, zgx, fun X => zaI X.1 X.2.1 X.2.2⟩
theorem zlX : CE.ok Try.prog zhc := CE.of (Γ := [zgN, zgn, zjc]) (by kernel_rfl) za3 (GOK.cons zi7 (GOK.cons zk9 (GOK.cons zmW (GOK.nil)))) ⟨[(2, ⟨⟨[Tc1, (.list .bool), (.list .bool)], [(3, .ptr 0 0), (4, .ptr 1 0), (7, .ptr 3 0)], [(0, .box 41 [.addr 0]), (1, .box 25 [.v 1]), (3, .box 25 [.own 2]), (2, .arr 4 2)]⟩, [6, 8, 10, 11, 12, 13, 14, 15, 16, 17, 18], [], [], 4, []⟩)], [], [], []⟩ Try.func34 rfl Try.ntmps34 (rs := [.tmp 6]) rfl (sig := zgy) (out := zgx) rfl Try.call34 (fun X => by kernel_rfl)

def zeL : Shape := ⟨[(.int .i64), Tc1, (.list .bool)], [(0, .v 0), (1, .ptr 100000 0), (2, .ptr 100001 0)], [(100000, .box 25 [.own 100002]), (100001, .box 41 [.addr 1]), (100002, .arr 4 2)]⟩
def zeK : Shape := ⟨[.bool, (.list .bool), Tc1], [(0, .v 0)], [(100000, .box 25 [.own 50]), (50, .arr 4 1), (100001, .box 41 [.addr 2])]⟩
def ze2 : CE := ⟨57, zeL, zeK, fun X => zc0 X.1 X.2.1 X.2.2⟩
theorem zj3 : CE.ok Try.prog ze2 := CE.of (Γ := [zc1]) (by kernel_rfl) za3 (GOK.cons zd7 (GOK.nil)) ⟨[], [], [], []⟩ Try.func57 rfl Try.ntmps57 (rs := [.tmp 4]) rfl (sig := zeL) (out := zeK) rfl Try.call57 (fun X => by kernel_rfl)

def zfU : Shape := ⟨[Tc1, Tc1, (.list .bool)], [(0, .addr 0), (1, .fn 57 [.ptr 100000 0, .ptr 100001 0])], [(100000, .box 25 [.own 100002]), (100001, .box 41 [.addr 1]), (100002, .arr 4 2)]⟩
def zfT : Shape := ⟨[(.list .bool), (.list .bool), Tc1], [(0, .own 0)], [(0, .arr 4 0), (100000, .box 25 [.own 50]), (50, .arr 4 1), (100001, .box 41 [.addr 2])]⟩
def zgo : CE := ⟨27, zfU, zfT, fun X => zdG X.1 X.2.1 X.2.2⟩
theorem zla : CE.ok Try.prog zgo := CE.of (Γ := [ze2]) (by kernel_rfl) za3 (GOK.cons zj3 (GOK.nil)) ⟨[(3, ⟨⟨[(.int .i64), Tc1, (.list .bool), (.list .bool)], [(1, .fn 57 [.ptr 100000 0, .ptr 100001 0]), (5, .own 0), (15, .v 0)], [(100000, .box 25 [.own 1]), (100001, .box 41 [.addr 1]), (0, .arr 4 2), (1, .arr 4 3)]⟩, [6, 12, 13, 16, 17, 18, 19, 20, 21, 22, 23, 24], [100002], [], 2, []⟩)], [], [], []⟩ Try.func27 rfl Try.ntmps27 (rs := [.tmp 4]) rfl (sig := zfU) (out := zfT) rfl Try.call27 (fun X => by kernel_rfl)

def zha : Shape := ⟨[Tc1, (.list .bool)], [(0, .addr 0), (1, .v 1)], []⟩
def zg9 : Shape := ⟨[(.list .bool)], [(0, .v 0)], []⟩
def zhL : CE := ⟨35, zha, zg9, fun X => zbU X.1 X.2⟩
theorem zmg : CE.ok Try.prog zhL := CE.of (Γ := [zgN, zgo, zjc]) (by kernel_rfl) za3 (GOK.cons zi7 (GOK.cons zla (GOK.cons zmW (GOK.nil)))) ⟨[(2, ⟨⟨[Tc1, (.list .bool)], [(2, .ptr 0 0), (5, .ptr 2 0)], [(0, .box 41 [.addr 0]), (2, .box 25 [.own 1]), (1, .arr 4 1)]⟩, [4, 6, 8, 9, 10, 11, 12, 13, 14, 15, 16], [], [], 3, []⟩)], [], [], []⟩ Try.func35 rfl Try.ntmps35 (rs := [.tmp 4]) rfl (sig := zha) (out := zg9) rfl Try.call35 (fun X => by kernel_rfl)

def zfe : Shape := ⟨[(.int .i64), (.list .bool), (.list .bool)], [(0, .v 0), (1, .addr 1), (2, .addr 2)], []⟩
def zfd : Shape := ⟨[.bool], [(0, .v 0)], []⟩
def zf5 : CE := ⟨36, zfe, zfd, fun X => zdj X.1 X.2.1 X.2.2⟩
theorem zkA : CE.ok Try.prog zf5 := CE.of (Γ := []) (by kernel_rfl) za3 (GOK.nil) ⟨[], [], [], []⟩ Try.func36 rfl Try.ntmps36 (rs := [.tmp 4]) rfl (sig := zfe) (out := zfd) rfl Try.call36 (fun X => by kernel_rfl)

def zfW : Shape := ⟨[Tc1, (.list .bool), (.list .bool)], [(0, .addr 0), (1, .fn 36 [.addr 1, .addr 2])], []⟩
def zfV : Shape := ⟨[(.list .bool)], [(0, .own 0)], [(0, .arr 4 0)]⟩
def zgp : CE := ⟨27, zfW, zfV, fun X => zca X.1 X.2.1 X.2.2⟩
theorem zlb : CE.ok Try.prog zgp := CE.of (Γ := [zf5]) (by kernel_rfl) za3 (GOK.cons zkA (GOK.nil)) ⟨[(3, ⟨⟨[(.int .i64), (.list .bool)], [(5, .own 0), (15, .v 0)], [(0, .arr 4 1)]⟩, [6, 12, 13, 16, 17, 18, 19, 20, 21, 22, 23, 24], [], [], 1, []⟩)], [], [], []⟩ Try.func27 rfl Try.ntmps27 (rs := [.tmp 4]) rfl (sig := zfW) (out := zfV) rfl Try.call27 (fun X => by kernel_rfl)

def zfg : Shape := ⟨[(.int .i64), (.list .bool), (.list .bool)], [(0, .v 0), (1, .addr 1), (2, .addr 2)], []⟩
def zff : Shape := ⟨[.bool], [(0, .v 0)], []⟩
def zf6 : CE := ⟨37, zfg, zff, fun X => zdk X.1 X.2.1 X.2.2⟩
theorem zkB : CE.ok Try.prog zf6 := CE.of (Γ := []) (by kernel_rfl) za3 (GOK.nil) ⟨[], [], [], []⟩ Try.func37 rfl Try.ntmps37 (rs := [.tmp 4]) rfl (sig := zfg) (out := zff) rfl Try.call37 (fun X => by kernel_rfl)

def zfY : Shape := ⟨[Tc1, (.list .bool), (.list .bool)], [(0, .addr 0), (1, .fn 37 [.addr 1, .addr 2])], []⟩
def zfX : Shape := ⟨[(.list .bool)], [(0, .own 0)], [(0, .arr 4 0)]⟩
def zgq : CE := ⟨27, zfY, zfX, fun X => zdH X.1 X.2.1 X.2.2⟩
theorem zlc : CE.ok Try.prog zgq := CE.of (Γ := [zf6]) (by kernel_rfl) za3 (GOK.cons zkB (GOK.nil)) ⟨[(3, ⟨⟨[(.int .i64), (.list .bool)], [(5, .own 0), (15, .v 0)], [(0, .arr 4 1)]⟩, [6, 12, 13, 16, 17, 18, 19, 20, 21, 22, 23, 24], [], [], 1, []⟩)], [], [], []⟩ Try.func27 rfl Try.ntmps27 (rs := [.tmp 4]) rfl (sig := zfY) (out := zfX) rfl Try.call27 (fun X => by kernel_rfl)

def zfi : Shape := ⟨[(.int .i64), (.list .bool), Tc1], [(0, .v 0), (1, .ptr 100000 0), (2, .addr 1)], [(100000, .box 41 [.addr 2])]⟩
def zfh : Shape := ⟨[.bool, Tc1], [(0, .v 0)], [(100000, .box 41 [.addr 1])]⟩
def zf7 : CE := ⟨38, zfi, zfh, fun X => zen X.1 X.2.1 X.2.2⟩
theorem zkC : CE.ok Try.prog zf7 := CE.of (Γ := [zc1]) (by kernel_rfl) za3 (GOK.cons zd7 (GOK.nil)) ⟨[], [], [], []⟩ Try.func38 rfl Try.ntmps38 (rs := [.tmp 4]) rfl (sig := zfi) (out := zfh) rfl Try.call38 (fun X => by kernel_rfl)

def zeS : Shape := ⟨[Tc1, (.list .bool), Tc1], [(0, .addr 0), (1, .fn 38 [.ptr 100000 0, .addr 1])], [(100000, .box 41 [.addr 2])]⟩
def zeR : Shape := ⟨[(.list .bool), Tc1], [(0, .own 0)], [(0, .arr 4 0), (100000, .box 41 [.addr 1])]⟩
def zfJ : CE := ⟨27, zeS, zeR, fun X => zdb X.1 X.2.1 X.2.2⟩
theorem zkp : CE.ok Try.prog zfJ := CE.of (Γ := [zf7]) (by kernel_rfl) za3 (GOK.cons zkC (GOK.nil)) ⟨[(3, ⟨⟨[(.list .bool), (.int .i64), Tc1, (.list .bool)], [(1, .fn 38 [.ptr 100000 0, .addr 0]), (5, .own 0), (15, .v 1)], [(100000, .box 41 [.addr 2]), (0, .arr 4 3)]⟩, [6, 12, 13, 16, 17, 18, 19, 20, 21, 22, 23, 24], [], [], 1, []⟩)], [], [], []⟩ Try.func27 rfl Try.ntmps27 (rs := [.tmp 4]) rfl (sig := zeS) (out := zeR) rfl Try.call27 (fun X => by kernel_rfl)

def zgw : Shape := ⟨[(.int .i64)], [(0, .v 0)], []⟩
def zgv : Shape := ⟨[.bool], [(0, .v 0)], []⟩
def zhb : CE := ⟨60, zgw, zgv, fun X => zfB X⟩
theorem zlW : CE.ok Try.prog zhb := CE.of (Γ := []) (by kernel_rfl) za3 (GOK.nil) ⟨[], [], [], []⟩ Try.func60 rfl Try.ntmps60 (rs := [.tmp 2]) rfl (sig := zgw) (out := zgv) rfl Try.call60 (fun X => by kernel_rfl)

def zeU : Shape := ⟨[Tc1], [(0, .addr 0), (1, .fn 60 [])], []⟩
def zeT : Shape := ⟨[(.list .bool)], [(0, .own 0)], [(0, .arr 4 0)]⟩
def zfK : CE := ⟨27, zeU, zeT, fun X => zdc X⟩
theorem zkq : CE.ok Try.prog zfK := CE.of (Γ := [zhb]) (by kernel_rfl) za3 (GOK.cons zlW (GOK.nil)) ⟨[(3, ⟨⟨[(.int .i64), (.list .bool)], [(5, .own 0), (15, .v 0)], [(0, .arr 4 1)]⟩, [6, 12, 13, 16, 17, 18, 19, 20, 21, 22, 23, 24], [], [], 1, []⟩)], [], [], []⟩ Try.func27 rfl Try.ntmps27 (rs := [.tmp 4]) rfl (sig := zeU) (out := zeT) rfl Try.call27 (fun X => by kernel_rfl)

def zhN : Shape := ⟨[Tc1], [(0, .addr 0)], []⟩
def zhM : Shape := ⟨[(.list .bool)], [(0, .own 0)], [(0, .arr 4 0)]⟩
def zia : CE := ⟨40, zhN, zhM, fun X => zex X⟩
theorem zno : CE.ok Try.prog zia := CE.of (Γ := [zfK]) (by kernel_rfl) za3 (GOK.cons zkq (GOK.nil)) ⟨[], [], [], []⟩ Try.func40 rfl Try.ntmps40 (rs := [.tmp 2]) rfl (sig := zhN) (out := zhM) rfl Try.call40 (fun X => by kernel_rfl)

def zgA : Shape := ⟨[Tc1, (.tree (.pair (.int .u8) (.pair .bool (.pair (.int .i64) .unit))))], [(0, .addr 0), (1, .v 1)], []⟩
def zgz : Shape := ⟨[(.list .bool)], [(0, .v 0)], []⟩
def zhd : CE := ⟨12, zgA, zgz, LFix zdl⟩
theorem zlZ : CE.ok Try.prog zhd := CE.ofRec (Γ := [zhK, zgk, zof, zgl, zgm, zhc, zhL, zgp, zgq, zfJ, zia]) (by kernel_rfl) za3 (GOK.cons zmf (GOK.cons zk6 (GOK.cons zs0 (GOK.cons zk7 (GOK.cons zk8 (GOK.cons zlX (GOK.cons zmg (GOK.cons zlb (GOK.cons zlc (GOK.cons zkp (GOK.cons zno (GOK.nil)))))))))))) ⟨[], [(3, ⟨⟨[.bool], [(14, .v 0)], []⟩, [15, 16], [], [0, 1], 2, []⟩), (7, ⟨⟨[(.list .bool)], [(5, .ptr 2 0)], [(2, .box 25 [.v 0])]⟩, [25, 26, 27, 28, 29, 30, 31, 32], [], [0, 1], 3, []⟩), (13, ⟨⟨[.bool], [(41, .v 0)], []⟩, [42, 43, 44], [], [0, 1, 2], 3, []⟩), (14, ⟨⟨[(.list .bool)], [(6, .ptr 3 0)], [(3, .box 25 [.v 0])]⟩, [45, 46, 47, 48, 49, 50, 51, 52], [], [0, 1, 2], 4, []⟩), (21, ⟨⟨[(.list .bool)], [(7, .ptr 4 0)], [(4, .box 25 [.v 0])]⟩, [81, 82, 83, 84], [], [0, 1, 2, 3], 5, []⟩), (22, ⟨⟨[(.list .bool)], [(8, .ptr 5 0)], [(5, .box 25 [.v 0])]⟩, [85, 86, 87, 88, 89, 90, 91], [], [0, 1, 2, 3, 4], 6, []⟩), (25, ⟨⟨[(.list .bool)], [(5, .ptr 2 0)], [(2, .box 25 [.v 0])]⟩, [95, 96, 97, 98, 99, 100], [3], [0, 1], 3, [(2, 0, none, .bool)]⟩)], [(30, [(0, 0), (0, 1), (0, 2), (0, 3), (0, 4), (0, 5), (0, 6), (0, 7), (0, 8), (0, 9), (0, 10)]), (31, [(0, 0), (0, 1), (0, 3), (1, 2), (1, 4), (0, 5)])], [(7, (.live [7, 9] (.rd 0 [7, 9] (.rd 1 [2, 3, 4, 5, 6, 7, 9] (.one 2 (.one 3 (.rd 4 [5, 6, 7, 9] (.one 5 (.rd 6 [7, 9] (.alt 2 7 (.leaf [(1, 8), (2, 9)]) (.alt 1 8 (.alt 2 7 (.leaf [(2, 9)]) .stop) .stop))))))))))), (14, (.live [7, 9] (.rd 0 [7, 9] (.rd 1 [2, 3, 4, 5, 6, 7, 9] (.one 2 (.one 3 (.rd 4 [5, 6, 7, 9] (.one 5 (.rd 6 [7, 9] (.alt 2 7 (.leaf [(1, 8), (2, 9)]) (.alt 1 8 (.alt 2 7 (.leaf [(2, 9)]) .stop) .stop))))))))))), (21, (.live [3, 5] (.rd 0 [3, 5] (.rd 1 [2, 3, 5] (.alt 1 2 (.alt 2 3 (.leaf [(1, 4), (2, 5)]) (.alt 1 4 (.alt 2 3 (.leaf [(2, 5)]) .stop) .stop)) (.alt 1 4 (.alt 1 2 (.alt 2 3 (.leaf [(2, 5)]) .stop) .stop) .stop)))))), (22, (.one 4 (.live [6, 8] (.rd 0 [6, 8] (.rd 1 [2, 5, 6, 8] (.rd 3 [5, 6, 8] (.alt 1 2 (.alt 1 5 (.alt 2 6 (.leaf [(1, 7), (2, 8)]) (.alt 1 7 (.alt 2 6 (.leaf [(2, 8)]) .stop) .stop)) (.alt 1 7 (.alt 1 5 (.alt 2 6 (.leaf [(2, 8)]) .stop) .stop) .stop)) (.alt 1 7 (.alt 1 2 (.alt 1 5 (.alt 2 6 (.leaf [(2, 8)]) .stop) .stop) .stop) .stop))))))))]⟩ Try.func12 rfl Try.ntmps12 (rs := [.tmp 4]) rfl (sig := zgA) (out := zgz) rfl Try.call12 (d := zdl) (fun rc X => by kernel_rfl)

def zly : Shape := ⟨[Tc2, .str], [(0, .v 0), (1, .v 1)], []⟩
def zlx : Shape := ⟨[(.list .bool), (.int .i64)], [(0, .v 0), (1, .v 1)], []⟩
def zl6 : CE := ⟨4, zly, zlx, fun X => zl5 X.1 X.2⟩
theorem zrc : CE.ok Try.prog zl6 := CE.of (Γ := [zpm, zl8, zkE, zhd]) (by kernel_rfl) za3 (GOK.cons ztS (GOK.cons zrd (GOK.cons zpB (GOK.cons zlZ (GOK.nil))))) ⟨[], [], [], []⟩ Try.func4 rfl Try.ntmps4 (rs := [.tmp 4, .tmp 5]) rfl (sig := zly) (out := zlx) rfl Try.call4 (fun X => by kernel_rfl)

def zoR : Shape := ⟨[Tc6, Tc6], [(0, .v 0), (1, .v 1)], []⟩
def zoQ : Shape := ⟨[.bool], [(0, .v 0)], []⟩
def zqe : CE := ⟨13, zoR, zoQ, fun X => zoP X.1 X.2⟩
theorem zuC : CE.ok Try.prog zqe := CE.of (Γ := []) (by kernel_rfl) za3 (GOK.nil) ⟨[], [], [], []⟩ Try.func13 rfl Try.ntmps13 (rs := [.tmp 4]) rfl (sig := zoR) (out := zoQ) rfl Try.call13 (fun X => by kernel_rfl)

def zoX : Shape := ⟨[Tc2], [(0, .v 0)], []⟩
def zoW : Shape := ⟨[(.int .i64)], [(0, .v 0)], []⟩
def zqf : CE := ⟨5, zoX, zoW, fun X => zoU X⟩
theorem zuD : CE.ok Try.prog zqf := CE.of (Γ := [zqe]) (by kernel_rfl) za3 (GOK.cons zuC (GOK.nil)) ⟨[(6, ⟨⟨[(.int .i64)], [(3, .v 0)], []⟩, [2, 4, 29, 30, 31, 32, 33, 34, 35, 36, 37, 38, 39, 40, 41, 42, 43, 44, 45, 46, 47, 48, 49, 50, 51, 52, 53, 54, 55, 56, 57, 58, 59, 60, 61, 62, 63, 64, 65, 66, 67, 68, 69, 70, 71, 72, 73, 74], [], [0], 1, []⟩), (12, ⟨⟨[(.int .i64)], [(5, .v 0)], []⟩, [2, 6, 75, 76, 77, 78, 79, 80, 81, 82, 83, 84, 85, 86, 87, 88, 89, 90, 91, 92, 93, 94, 95], [], [0], 1, []⟩)], [], [(14, [(0, 0), (0, 1), (0, 2), (0, 3), (0, 4), (0, 5), (0, 6), (0, 7), (0, 8), (0, 9), (0, 10), (1, 11), (0, 12)])], []⟩ Try.func5 rfl Try.ntmps5 (rs := [.tmp 2]) rfl (sig := zoX) (out := zoW) rfl Try.call5 (fun X => by kernel_rfl)

def zkQ : Shape := ⟨[(.pair .str (.pair (.int .i64) (.pair (.int .i64) (.pair (.int .i64) (.pair (.list (.pair (.int .u8) (.pair .bool Tc6))) (.pair Tc7 .unit))))))], [(0, .addr 0)], []⟩
def zkP : Shape := ⟨[.bool], [(0, .v 0)], []⟩
def zfx : CE := ⟨43, zkQ, zkP, fun X => zgG X⟩
theorem zh6 : CE.ok Try.prog zfx := CE.of (Γ := []) (by kernel_rfl) za3 (GOK.nil) ⟨[], [], [], []⟩ Try.func43 rfl Try.ntmps43 (rs := [.tmp 2]) rfl (sig := zkQ) (out := zkP) rfl Try.call43 (fun X => by kernel_rfl)

def zjM : Shape := ⟨[(.pair .str (.pair (.int .i64) (.pair (.int .i64) (.pair (.int .i64) (.pair (.list (.pair (.int .u8) (.pair .bool Tc6))) (.pair Tc7 .unit))))))], [(0, .addr 0)], []⟩
def zjL : Shape := ⟨[(.int .u8)], [(0, .v 0)], []⟩
def zcR : CE := ⟨42, zjM, zjL, fun X => zcQ X⟩
theorem zdM : CE.ok Try.prog zcR := CE.of (Γ := []) (by kernel_rfl) za3 (GOK.nil) ⟨[], [], [(1, [(0, 0), (0, 1), (0, 2), (0, 3), (0, 4), (0, 5), (0, 6), (0, 7), (0, 8), (0, 9)]), (3, [(0, 0), (0, 1), (0, 2), (0, 3), (0, 4), (0, 5), (0, 6), (0, 7), (0, 8), (0, 9)])], []⟩ Try.func42 rfl Try.ntmps42 (rs := [.tmp 2]) rfl (sig := zjM) (out := zjL) rfl Try.call42 (fun X => by kernel_rfl)

def ziS : Shape := ⟨[(.int .i64), .str, (.int .i64), (.int .i64), (.int .i64), (.int .i64), (.int .i64), (.list (.pair (.int .u8) (.pair .bool Tc6)))], [(0, .ptr 100000 0), (1, .v 0)], [(100000, .box 49 [.v 1, .v 2, .v 3, .v 4, .own 100001, .v 5, .v 6]), (100001, .arr 53 7)]⟩
def ziR : Shape := ⟨[.str, (.int .i64), (.int .i64), (.int .i64), (.list (.pair (.int .u8) (.pair .bool Tc6))), (.int .i64), (.int .i64)], [], [(100000, .box 49 [.v 0, .v 1, .v 2, .v 3, .own 90, .v 5, .v 6]), (90, .arr 53 4)]⟩
def zb1 : CE := ⟨15, ziS, ziR, fun X => zb0 X.1 X.2.1 X.2.2.1 X.2.2.2.1 X.2.2.2.2.1 X.2.2.2.2.2.1 X.2.2.2.2.2.2.1 X.2.2.2.2.2.2.2⟩
theorem zcx : CE.ok Try.prog zb1 := CE.of (Γ := []) (by kernel_rfl) za3 (GOK.nil) ⟨[], [], [], []⟩ Try.func15 rfl Try.ntmps15 (rs := []) rfl (sig := ziS) (out := ziR) rfl Try.call15 (fun X => by kernel_rfl)

def zhf : Shape := ⟨[.str, (.int .i64), (.int .i64), (.int .i64), (.int .i64), (.int .i64), (.list (.pair (.int .u8) (.pair .bool Tc6)))], [(0, .ptr 100000 0)], [(100000, .box 49 [.v 0, .v 1, .v 2, .v 3, .own 100001, .v 4, .v 5]), (100001, .arr 53 6)]⟩
def zhe : Shape := ⟨[.str, (.int .i64), (.int .i64), (.int .i64), (.list (.pair (.int .u8) (.pair .bool Tc6))), (.int .i64), (.int .i64)], [], [(100000, .box 49 [.v 0, .v 1, .v 2, .v 3, .own 90, .v 5, .v 6]), (90, .arr 53 4)]⟩
def zcn : CE := ⟨44, zhf, zhe, fun X => za2 X.1 X.2.1 X.2.2.1 X.2.2.2.1 X.2.2.2.2.1 X.2.2.2.2.2.1 X.2.2.2.2.2.2⟩
theorem zdn : CE.ok Try.prog zcn := CE.of (Γ := [zb1]) (by kernel_rfl) za3 (GOK.cons zcx (GOK.nil)) ⟨[], [], [], []⟩ Try.func44 rfl Try.ntmps44 (rs := []) rfl (sig := zhf) (out := zhe) rfl Try.call44 (fun X => by kernel_rfl)

def zjQ : Shape := ⟨[(.pair (.int .u8) (.pair .bool Tc6)), .str, (.int .i64), (.int .i64), (.int .i64), (.int .i64), (.int .i64), (.list (.pair (.int .u8) (.pair .bool Tc6)))], [(0, .ptr 100000 0), (1, .v 0)], [(100000, .box 49 [.v 1, .v 2, .v 3, .v 4, .own 100001, .v 5, .v 6]), (100001, .arr 53 7)]⟩
def zjP : Shape := ⟨[(.int .i64), .str, (.int .i64), (.int .i64), (.int .i64), (.list (.pair (.int .u8) (.pair .bool Tc6))), (.int .i64), (.int .i64)], [(0, .v 0)], [(100000, .box 49 [.v 1, .v 2, .v 3, .v 4, .own 90, .v 6, .v 7]), (90, .arr 53 5)]⟩
def zdO : CE := ⟨45, zjQ, zjP, fun X => zbC X.1 X.2.1 X.2.2.1 X.2.2.2.1 X.2.2.2.2.1 X.2.2.2.2.2.1 X.2.2.2.2.2.2.1 X.2.2.2.2.2.2.2⟩
theorem zeB : CE.ok Try.prog zdO := CE.of (Γ := []) (by kernel_rfl) za3 (GOK.nil) ⟨[], [], [(1, [(0, 0), (0, 1), (0, 2), (0, 3), (0, 4), (0, 5), (1, 6), (2, 7), (0, 8), (0, 9), (2, 10)])], []⟩ Try.func45 rfl Try.ntmps45 (rs := [.tmp 4]) rfl (sig := zjQ) (out := zjP) rfl Try.call45 (fun X => by kernel_rfl)

def ziU : Shape := ⟨[.str, (.int .i64), (.int .i64), (.int .i64), (.int .i64), (.int .i64), (.list (.pair (.int .u8) (.pair .bool Tc6)))], [(0, .ptr 100000 0)], [(100000, .box 49 [.v 0, .v 1, .v 2, .v 3, .own 100001, .v 4, .v 5]), (100001, .arr 53 6)]⟩
def ziT : Shape := ⟨[.str, (.int .i64), (.int .i64), (.int .i64), (.list (.pair (.int .u8) (.pair .bool Tc6))), (.int .i64), (.int .i64)], [], [(100000, .box 49 [.v 0, .v 1, .v 2, .v 3, .own 90, .v 5, .v 6]), (90, .arr 53 4)]⟩
def zgH : CE := ⟨66, ziU, ziT, fun X => zcT X.1 X.2.1 X.2.2.1 X.2.2.2.1 X.2.2.2.2.1 X.2.2.2.2.2.1 X.2.2.2.2.2.2⟩
theorem zjN : CE.ok Try.prog zgH := CE.of (Γ := [zb1]) (by kernel_rfl) za3 (GOK.cons zcx (GOK.nil)) ⟨[], [], [], []⟩ Try.func66 rfl Try.ntmps66 (rs := []) rfl (sig := ziU) (out := ziT) rfl Try.call66 (fun X => by kernel_rfl)

def ziY : Shape := ⟨[(.int .u8), .str, (.int .i64), (.int .i64), (.int .i64), (.int .i64), (.int .i64), (.list (.pair (.int .u8) (.pair .bool Tc6)))], [(0, .ptr 100000 0), (1, .v 0)], [(100000, .box 49 [.v 1, .v 2, .v 3, .v 4, .own 100001, .v 5, .v 6]), (100001, .arr 53 7)]⟩
def ziX : Shape := ⟨[.str, (.int .i64), (.int .i64), (.int .i64), (.list (.pair (.int .u8) (.pair .bool Tc6))), (.int .i64), (.int .i64)], [], [(100000, .box 49 [.v 0, .v 1, .v 2, .v 3, .own 90, .v 5, .v 6]), (90, .arr 53 4)]⟩
def zgJ : CE := ⟨67, ziY, ziX, fun X => zco X.1 X.2.1 X.2.2.1 X.2.2.2.1 X.2.2.2.2.1 X.2.2.2.2.2.1 X.2.2.2.2.2.2.1 X.2.2.2.2.2.2.2⟩
theorem zjS : CE.ok Try.prog zgJ := CE.of (Γ := [zb1, zcR]) (by kernel_rfl) za3 (GOK.cons zcx (GOK.cons zdM (GOK.nil))) ⟨[], [], [], []⟩ Try.func67 rfl Try.ntmps67 (rs := []) rfl (sig := ziY) (out := ziX) rfl Try.call67 (fun X => by kernel_rfl)

def zaA : Shape := ⟨[.str, (.int .i64), (.int .i64), (.int .i64), (.int .i64), (.int .i64), (.list (.pair (.int .u8) (.pair .bool Tc6)))], [(0, .ptr 100000 0)], [(100000, .box 49 [.v 0, .v 1, .v 2, .v 3, .own 100001, .v 4, .v 5]), (100001, .arr 53 6)]⟩
def zaz : Shape := ⟨[(.int .i64), .str, (.int .i64), (.int .i64), (.int .i64), (.list (.pair (.int .u8) (.pair .bool Tc6))), (.int .i64), (.int .i64)], [(0, .v 0)], [(100000, .box 49 [.v 1, .v 2, .v 3, .v 4, .own 90, .v 6, .v 7]), (90, .arr 53 5)]⟩
def zo3 : CE := ⟨61, zaA, zaz, LFix zdN⟩
def ziW : Shape := ⟨[.str, (.int .i64), (.int .i64), (.int .i64), (.int .i64), (.int .i64), (.list (.pair (.int .u8) (.pair .bool Tc6)))], [(0, .ptr 100000 0)], [(100000, .box 49 [.v 0, .v 1, .v 2, .v 3, .own 100001, .v 4, .v 5]), (100001, .arr 53 6)]⟩
def ziV : Shape := ⟨[(.int .i64), .str, (.int .i64), (.int .i64), (.int .i64), (.list (.pair (.int .u8) (.pair .bool Tc6))), (.int .i64), (.int .i64)], [(0, .v 0)], [(100000, .box 49 [.v 1, .v 2, .v 3, .v 4, .own 90, .v 6, .v 7]), (90, .arr 53 5)]⟩
def zjR (rec : Tup zaA.tys -> Option (Tup zaz.tys)) : CE := ⟨41, ziW, ziV, fun X => zbD (fun c c_1 c_2 c_3 c_4 c_5 l => rec (c, c_1, c_2, c_3, c_4, c_5, l)) X.1 X.2.1 X.2.2.1 X.2.2.2.1 X.2.2.2.2.1 X.2.2.2.2.2.1 X.2.2.2.2.2.2⟩
theorem zo6 (rec : Tup zaA.tys -> Option (Tup zaz.tys)) (hrec : CE.ok Try.prog ⟨61, zaA, zaz, rec⟩) : CE.ok Try.prog (zjR rec) := CE.of (Γ := [⟨61, zaA, zaz, rec⟩, zcn, zdO, zcR, zfx]) (by kernel_rfl) za3 (GOK.cons hrec (GOK.cons zdn (GOK.cons zeB (GOK.cons zdM (GOK.cons zh6 (GOK.nil)))))) ⟨[(2, ⟨⟨[(.int .i64), .str, (.int .i64), (.int .i64), (.int .i64), (.int .i64), (.int .i64), (.list (.pair (.int .u8) (.pair .bool Tc6)))], [(0, .ptr 100000 0), (3, .v 0)], [(100000, .box 49 [.v 1, .v 2, .v 3, .v 4, .own 90, .v 5, .v 6]), (90, .arr 53 7)]⟩, [2, 4, 5, 6, 9, 10, 11, 12, 13, 14, 15, 16, 17, 18, 19, 20, 21, 22, 23, 24, 25, 26, 27, 28], [], [], 91, []⟩)], [], [], []⟩ Try.func41 rfl Try.ntmps41 (rs := [.tmp 2]) rfl (sig := ziW) (out := ziV) rfl Try.call41 (fun X => by kernel_rfl)
def zig : Shape := ⟨[.str, (.int .i64), (.int .i64), (.int .i64), (.int .i64), (.int .i64), (.list (.pair (.int .u8) (.pair .bool Tc6)))], [(0, .ptr 100000 0)], [(100000, .box 49 [.v 0, .v 1, .v 2, .v 3, .own 100001, .v 4, .v 5]), (100001, .arr 53 6)]⟩
def zif : Shape := ⟨[(.int .i64), .str, (.int .i64), (.int .i64), (.int .i64), (.list (.pair (.int .u8) (.pair .bool Tc6))), (.int .i64), (.int .i64)], [(0, .v 0)], [(100000, .box 49 [.v 1, .v 2, .v 3, .v 4, .own 90, .v 6, .v 7]), (90, .arr 53 5)]⟩
def zdW (rec : Tup zaA.tys -> Option (Tup zaz.tys)) : CE := ⟨14, zig, zif, fun X => za1 (fun c c_1 c_2 c_3 c_4 c_5 l => rec (c, c_1, c_2, c_3, c_4, c_5, l)) X.1 X.2.1 X.2.2.1 X.2.2.2.1 X.2.2.2.2.1 X.2.2.2.2.2.1 X.2.2.2.2.2.2⟩
theorem zfC (rec : Tup zaA.tys -> Option (Tup zaz.tys)) (hrec : CE.ok Try.prog ⟨61, zaA, zaz, rec⟩) : CE.ok Try.prog (zdW rec) := CE.of (Γ := [zjR rec, zcn, zdO, zcR, zfx]) (by kernel_rfl) za3 (GOK.cons (zo6 rec hrec) (GOK.cons zdn (GOK.cons zeB (GOK.cons zdM (GOK.cons zh6 (GOK.nil)))))) ⟨[(2, ⟨⟨[(.int .i64), .str, (.int .i64), (.int .i64), (.int .i64), (.int .i64), (.int .i64), (.list (.pair (.int .u8) (.pair .bool Tc6)))], [(0, .ptr 100000 0), (3, .v 0)], [(100000, .box 49 [.v 1, .v 2, .v 3, .v 4, .own 90, .v 5, .v 6]), (90, .arr 53 7)]⟩, [2, 4, 5, 6, 9, 10, 11, 12, 13, 14, 15, 16, 17, 18, 19, 20, 21, 22, 23, 24, 25, 26, 27, 28], [], [], 91, []⟩)], [], [], []⟩ Try.func14 rfl Try.ntmps14 (rs := [.tmp 2]) rfl (sig := zig) (out := zif) rfl Try.call14 (fun X => by kernel_rfl)
def zi0 : Shape := ⟨[.bool, .str, (.int .i64), (.int .i64), (.int .i64), (.int .i64), (.int .i64), (.list (.pair (.int .u8) (.pair .bool Tc6)))], [(0, .ptr 100000 0), (1, .v 0)], [(100000, .box 49 [.v 1, .v 2, .v 3, .v 4, .own 100001, .v 5, .v 6]), (100001, .arr 53 7)]⟩
def ziZ : Shape := ⟨[(.int .i64), .str, (.int .i64), (.int .i64), (.int .i64), (.list (.pair (.int .u8) (.pair .bool Tc6))), (.int .i64), (.int .i64)], [(0, .v 0)], [(100000, .box 49 [.v 1, .v 2, .v 3, .v 4, .own 90, .v 6, .v 7]), (90, .arr 53 5)]⟩
def zjT (rec : Tup zaA.tys -> Option (Tup zaz.tys)) : CE := ⟨65, zi0, ziZ, fun X => zcU (fun c c_1 c_2 c_3 c_4 c_5 l => rec (c, c_1, c_2, c_3, c_4, c_5, l)) X.1 X.2.1 X.2.2.1 X.2.2.2.1 X.2.2.2.2.1 X.2.2.2.2.2.1 X.2.2.2.2.2.2.1 X.2.2.2.2.2.2.2⟩
theorem zo7 (rec : Tup zaA.tys -> Option (Tup zaz.tys)) (hrec : CE.ok Try.prog ⟨61, zaA, zaz, rec⟩) : CE.ok Try.prog (zjT rec) := CE.of (Γ := [zcn, ⟨61, zaA, zaz, rec⟩, zdO, zb1, zgH, zdW rec, zgJ, zcR]) (by kernel_rfl) za3 (GOK.cons zdn (GOK.cons hrec (GOK.cons zeB (GOK.cons zcx (GOK.cons zjN (GOK.cons (zfC rec hrec) (GOK.cons zjS (GOK.cons zdM (GOK.nil))))))))) ⟨[], [(3, ⟨⟨[.bool], [(22, .v 0)], []⟩, [13, 14, 15, 16, 17, 18, 19, 20, 21], [], [90], 91, []⟩)], [], []⟩ Try.func65 rfl Try.ntmps65 (rs := [.tmp 4]) rfl (sig := zi0) (out := ziZ) rfl Try.call65 (fun X => by kernel_rfl)
theorem zo5 : CE.ok Try.prog zo3 := CE.ofRecM (Γ := fun rec => [zcn, zdO, zjT rec, zb1, zgH, zdW rec, zgJ, zfx, zcR]) (by kernel_rfl) za3 ⟨[], [(5, ⟨⟨[.bool], [(18, .v 0)], []⟩, [13, 14, 15, 16, 17], [], [], 0, []⟩), (8, ⟨⟨[.bool], [(30, .v 0)], []⟩, [25, 26, 27, 28, 29], [], [], 0, []⟩), (15, ⟨⟨[.bool], [(54, .v 0)], []⟩, [49, 50, 51, 52, 53], [], [], 0, []⟩)], [], []⟩ Try.func61 rfl Try.ntmps61 (rs := [.tmp 2]) rfl (sig := zaA) (out := zaz) rfl (fun rec hrec => (GOK.cons zdn (GOK.cons zeB (GOK.cons (zo7 rec hrec) (GOK.cons zcx (GOK.cons zjN (GOK.cons (zfC rec hrec) (GOK.cons zjS (GOK.cons zh6 (GOK.cons zdM (GOK.nil))))))))))) Try.call61 (d := zdN) (fun rc X => by kernel_rfl)
def zhT : CE := zdW (LFix zdN)
theorem zmH : CE.ok Try.prog zhT := zfC _ zo5
def zo2 : Shape := ⟨[.str], [(0, .v 0)], []⟩
def zo1 : Shape := ⟨[(.int .i64), Tc7, (.list (.pair (.int .u8) (.pair .bool Tc6)))], [(0, .own 0), (1, .v 0), (2, .v 1)], [(0, .arr 53 2)]⟩
def zqi : CE := ⟨6, zo2, zo1, fun X => zmF X⟩
theorem zuE : CE.ok Try.prog zqi := CE.of (Γ := [zhT, zb1]) (by kernel_rfl) za3 (GOK.cons zmH (GOK.cons zcx (GOK.nil))) ⟨[], [], [(8, [(0, 0), (0, 1), (0, 2), (0, 3), (0, 4), (0, 5), (2, 6)])], []⟩ Try.func6 rfl Try.ntmps6 (rs := [.tmp 2, .tmp 3, .cell 4 32]) rfl (sig := zo2) (out := zo1) rfl Try.call6 (fun X => by kernel_rfl)

def zqh : Shape := ⟨[Tc2, (.int .i64), (.int .i64)], [(0, .v 0), (1, .v 1), (2, .v 2)], []⟩
def zqg : Shape := ⟨[.bool], [(0, .v 0)], []⟩
def zn7 : CE := ⟨46, zqh, zqg, fun X => zq0 X.1 X.2.1 X.2.2⟩
theorem zrR : CE.ok Try.prog zn7 := CE.of (Γ := []) (by kernel_rfl) za3 (GOK.nil) ⟨[(3, ⟨⟨[.bool, (.int .i64)], [(7, .v 0), (8, .v 1)], []⟩, [6, 9, 10, 11, 12, 13, 14, 15, 16, 17, 18, 19, 20, 21, 22, 23, 24, 25, 26, 27, 28, 29, 30, 31], [], [0], 1, []⟩)], [], [], []⟩ Try.func46 rfl Try.ntmps46 (rs := [.tmp 6]) rfl (sig := zqh) (out := zqg) rfl Try.call46 (fun X => by kernel_rfl)

def zqk : Shape := ⟨[Tc2, (.int .i64), (.list .bool)], [(0, .v 0), (1, .v 1), (2, .v 2)], []⟩
def zqj : Shape := ⟨[.bool], [(0, .v 0)], []⟩
def zlq : CE := ⟨17, zqk, zqj, fun X => zlp X.1 X.2.1 X.2.2⟩
theorem zn9 : CE.ok Try.prog zlq := CE.of (Γ := [zn7]) (by kernel_rfl) za3 (GOK.cons zrR (GOK.nil)) ⟨[(2, ⟨⟨[(.int .i64)], [(7, .v 0)], []⟩, [6, 8, 9, 10, 11, 12, 13, 14, 15, 16, 17, 18, 19, 20, 21, 22, 23, 24, 25], [], [0], 1, []⟩)], [], [], []⟩ Try.func17 rfl Try.ntmps17 (rs := [.tmp 6]) rfl (sig := zqk) (out := zqj) rfl Try.call17 (fun X => by kernel_rfl)

def zoZ : Shape := ⟨[Tc2, (.int .i64), (.list .bool)], [(0, .v 0), (1, .v 1), (2, .v 2)], []⟩
def zoY : Shape := ⟨[.bool], [(0, .v 0)], []⟩
def zjK : CE := ⟨18, zoZ, zoY, fun X => ziQ X.1 X.2.1 X.2.2⟩
theorem zmE : CE.ok Try.prog zjK := CE.of (Γ := [zn7]) (by kernel_rfl) za3 (GOK.cons zrR (GOK.nil)) ⟨[(2, ⟨⟨[(.int .i64)], [(7, .v 0)], []⟩, [6, 8, 9, 10, 11, 12, 13, 14, 15, 16, 17, 18, 19, 20, 21, 22, 23, 24, 25, 26], [], [0], 1, []⟩)], [], [], []⟩ Try.func18 rfl Try.ntmps18 (rs := [.tmp 6]) rfl (sig := zoZ) (out := zoY) rfl Try.call18 (fun X => by kernel_rfl)

def zoT : Shape := ⟨[(.list .bool), (.list .bool)], [(0, .v 0), (1, .v 1)], []⟩
def zoS : Shape := ⟨[.bool], [(0, .v 0)], []⟩
def zjJ : CE := ⟨8, zoT, zoS, fun X => zd4 X.1 X.2⟩
theorem zmA : CE.ok Try.prog zjJ := CE.of (Γ := []) (by kernel_rfl) za3 (GOK.nil) ⟨[(4, ⟨⟨[(.int .i64)], [(5, .v 0)], []⟩, [4, 11, 12, 13, 14, 15, 16, 17, 18, 19, 20, 21, 22, 23, 24, 25], [], [], 0, []⟩)], [], [(6, [(0, 0), (0, 1), (0, 2), (0, 3), (0, 4), (0, 5), (0, 6), (0, 7), (0, 8)])], []⟩ Try.func8 rfl Try.ntmps8 (rs := [.tmp 4]) rfl (sig := zoT) (out := zoS) rfl Try.call8 (fun X => by kernel_rfl)

def zqm : Shape := ⟨[Tc2, .bool, (.list .bool), (.list .bool)], [(0, .v 0), (1, .v 1), (2, .v 2), (3, .v 3)], []⟩
def zql : Shape := ⟨[(.list .bool)], [(0, .own 0)], [(0, .arr 4 0)]⟩
def zrS : CE := ⟨16, zqm, zql, fun X => zjV X.1 X.2.1 X.2.2.1 X.2.2.2⟩
theorem zvx : CE.ok Try.prog zrS := CE.of (Γ := [zlq, zjK, zjJ]) (by kernel_rfl) za3 (GOK.cons zn9 (GOK.cons zmE (GOK.cons zmA (GOK.nil)))) ⟨[(3, ⟨⟨[(.int .i64), (.list .bool)], [(9, .own 1), (10, .v 0)], [(1, .arr 4 1)]⟩, [17, 18, 19, 20, 21, 22, 23, 24, 25, 26, 27, 28], [], [0], 2, []⟩), (6, ⟨⟨[(.list .bool)], [(9, .own 1)], [(1, .arr 4 0)]⟩, [8, 11, 12, 13, 14, 29, 30, 31, 32, 33, 34, 35, 36, 37, 38, 39, 40, 41, 42, 43, 44, 45, 46, 47, 48, 49, 50, 51, 52, 53, 54, 55, 56, 57, 58, 59, 60, 61, 62, 63, 64, 65, 66, 67, 68, 69, 70, 71, 72, 73, 74, 75, 76, 77], [], [0], 2, []⟩), (8, ⟨⟨[(.int .i64), (.list .bool)], [(11, .own 2), (12, .v 0)], [(2, .arr 4 1)]⟩, [13, 31, 32, 33, 34, 35, 36, 37, 38, 39, 40, 41, 42, 43, 44, 45, 46, 47, 48, 49, 50, 51, 52, 53, 54, 55, 56, 57, 58, 59, 60, 61, 62, 63, 64, 65, 66, 67, 68, 69, 70, 71], [], [0, 1], 3, []⟩)], [(12, ⟨⟨[.bool], [(13, .v 0)], []⟩, [42, 43, 44, 45, 46], [], [0, 1, 2], 3, []⟩), (13, ⟨⟨[(.list .bool)], [(11, .own 2)], [(2, .arr 4 0)]⟩, [47, 48, 49, 50, 51, 52, 53, 54, 55, 56], [], [0, 1], 3, []⟩), (14, ⟨⟨[.bool], [(58, .v 0)], []⟩, [57], [], [0, 1, 2], 3, []⟩)], [], []⟩ Try.func16 rfl Try.ntmps16 (rs := [.tmp 8]) rfl (sig := zqm) (out := zql) rfl Try.call16 (fun X => by kernel_rfl)

def znJ : Shape := ⟨[Tc2, .bool, (.list .bool)], [(0, .v 0), (1, .v 1), (2, .v 2), (3, .nil)], []⟩
def znI : Shape := ⟨[(.list .bool)], [(0, .own 0)], [(0, .arr 4 0)]⟩
def zpb : CE := ⟨16, znJ, znI, fun X => zkR X.1 X.2.1 X.2.2⟩
theorem ztP : CE.ok Try.prog zpb := CE.of (Γ := [zlq, zjK, zjJ]) (by kernel_rfl) za3 (GOK.cons zn9 (GOK.cons zmE (GOK.cons zmA (GOK.nil)))) ⟨[(3, ⟨⟨[(.int .i64), (.list .bool)], [(9, .own 1), (10, .v 0)], [(1, .arr 4 1)]⟩, [17, 18, 19, 20, 21, 22, 23, 24, 25, 26, 27, 28], [], [0], 2, []⟩), (6, ⟨⟨[(.list .bool)], [(9, .own 1)], [(1, .arr 4 0)]⟩, [8, 11, 12, 13, 14, 29, 30, 31, 32, 33, 34, 35, 36, 37, 38, 39, 40, 41, 42, 43, 44, 45, 46, 47, 48, 49, 50, 51, 52, 53, 54, 55, 56, 57, 58, 59, 60, 61, 62, 63, 64, 65, 66, 67, 68, 69, 70, 71, 72, 73, 74, 75, 76, 77], [], [0], 2, []⟩), (8, ⟨⟨[(.int .i64), (.list .bool)], [(11, .own 2), (12, .v 0)], [(2, .arr 4 1)]⟩, [13, 31, 32, 33, 34, 35, 36, 37, 38, 39, 40, 41, 42, 43, 44, 45, 46, 47, 48, 49, 50, 51, 52, 53, 54, 55, 56, 57, 58, 59, 60, 61, 62, 63, 64, 65, 66, 67, 68, 69, 70, 71], [], [0, 1], 3, []⟩)], [(12, ⟨⟨[.bool], [(13, .v 0)], []⟩, [42, 43, 44, 45, 46], [], [0, 1, 2], 3, []⟩)], [], []⟩ Try.func16 rfl Try.ntmps16 (rs := [.tmp 8]) rfl (sig := znJ) (out := znI) rfl Try.call16 (fun X => by kernel_rfl)

def zpj : Shape := ⟨[Tc2, (.list (.pair (.int .u8) (.pair .bool Tc6))), (.int .i64)], [(0, .v 0), (1, .v 1), (2, .v 2)], []⟩
def zpi : Shape := ⟨[(.list .bool)], [(0, .own 0)], [(0, .arr 4 0)]⟩
def zqn : CE := ⟨7, zpj, zpi, LFix zlr⟩
theorem zuG : CE.ok Try.prog zqn := CE.ofRec (Γ := [zpb, zrS, zlq, zjK]) (by kernel_rfl) za3 (GOK.cons ztP (GOK.cons zvx (GOK.cons zn9 (GOK.cons zmE (GOK.nil))))) ⟨[(7, ⟨⟨[(.int .i64), (.list .bool)], [(8, .own 2), (9, .v 0)], [(2, .arr 4 1)]⟩, [21, 34, 35, 36, 37, 38, 39, 40, 41, 42, 43, 44, 45], [], [0, 1], 3, []⟩), (11, ⟨⟨[(.int .i64), (.list .bool)], [(8, .own 2), (10, .v 0)], [(2, .arr 4 1)]⟩, [46, 47, 48, 49, 50, 51, 52, 53, 54, 55, 56, 57, 58, 59, 60, 61, 62, 63, 64, 65, 66, 67, 68, 69, 70, 71, 72, 73, 74], [], [0, 1], 3, []⟩), (27, ⟨⟨[(.int .i64), (.list .bool)], [(12, .own 5), (13, .v 0)], [(5, .arr 4 1)]⟩, [121, 122, 123, 124, 125, 126, 127, 128, 129], [], [0, 1, 2, 3], 6, []⟩), (32, ⟨⟨[(.int .i64), (.list .bool)], [(8, .own 2), (14, .v 0)], [(2, .arr 4 1)]⟩, [21, 136, 137, 138, 139, 140, 141, 142, 143, 144, 145, 146, 147, 148, 149, 150, 151, 152, 153, 154, 155, 156, 157, 158, 159, 160, 161, 162, 163, 164, 165, 166, 167, 168, 169, 170, 171, 172, 173, 174, 175, 176, 177, 178, 179, 180, 181, 182, 183, 184, 185, 186, 187, 188, 189, 190, 191, 192, 193, 194, 195, 196, 197, 198, 199, 200, 201], [], [0, 1, 3, 5], 6, []⟩)], [(5, ⟨⟨[.bool], [(33, .v 0)], []⟩, [26, 27, 28, 29, 30, 31, 32], [], [0, 1, 2], 3, []⟩), (13, ⟨⟨[.bool], [(66, .v 0)], []⟩, [53, 54, 55, 56, 57, 58, 59, 60, 61, 62, 63, 64, 65], [], [0, 1, 2], 3, []⟩), (18, ⟨⟨[.bool], [(96, .v 0)], []⟩, [84, 85, 86, 87, 88, 89, 90, 91, 92, 93, 94, 95], [], [0, 1, 2, 3, 4], 5, []⟩), (19, ⟨⟨[(.list .bool)], [(12, .own 5)], [(5, .arr 4 0)]⟩, [83, 84, 85, 86, 87, 88, 89, 90, 91, 92, 93, 94, 95, 96, 97, 98, 99, 100, 101], [4], [0, 1, 2, 3], 6, []⟩)], [(13, [(0, 0), (0, 1), (0, 2), (0, 3), (0, 4), (0, 5), (0, 6), (0, 7), (0, 8), (0, 9), (0, 10), (0, 11), (0, 12), (0, 13)])], []⟩ Try.func7 rfl Try.ntmps7 (rs := [.tmp 6]) rfl (sig := zpj) (out := zpi) rfl Try.call7 (d := zlr) (fun rc X => by kernel_rfl)

def ziK : Shape := ⟨[Tc2, .str], [(0, .v 0), (1, .v 1)], []⟩
def ziJ : Shape := ⟨[.bool], [(0, .v 0)], []⟩
def zgD : CE := ⟨3, ziK, ziJ, fun X => ziI X.1 X.2⟩
theorem zoC : CE.ok Try.prog zgD := CE.of (Γ := [zl6, zqf, zqi, zqn, zjJ]) (by kernel_rfl) za3 (GOK.cons zrc (GOK.cons zuD (GOK.cons zuE (GOK.cons zuG (GOK.cons zmA (GOK.nil)))))) ⟨[], [(4, ⟨⟨[.bool], [(33, .v 0)], []⟩, [27, 28, 29, 30, 31, 32], [], [0, 1, 2], 3, []⟩), (5, ⟨⟨[(.int .i64)], [(7, .v 0)], []⟩, [27, 28, 29, 30, 31, 32, 33], [], [0, 1, 2], 3, []⟩)], [], []⟩ Try.func3 rfl Try.ntmps3 (rs := [.tmp 4]) rfl (sig := ziK) (out := ziJ) rfl Try.call3 (fun X => by kernel_rfl)

end
end Go.Proofs.Ythgegjfmniafiaa.branchHoldsW
