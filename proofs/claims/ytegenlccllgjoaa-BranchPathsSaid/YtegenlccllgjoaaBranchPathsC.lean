/- That the functions of 'BranchPaths' compute so. -/
import Derived.Test.YtegenlccllgjoaaBranchPathsD
import Derived.Test.YtegenlccllgjoaaProg
import Derived.KernelRfl
set_option maxHeartbeats 1000000
set_option maxRecDepth 20000
set_option linter.unusedSimpArgs false
set_option linter.unusedVariables false
set_option linter.unusedSectionVars false
namespace Go.Proofs.Ytegenlccllgjoaa.branchPathsW
open Go Go.Ab
noncomputable section
def te3:TE:=⟨3,.int .i64,false,1,8,.int .i64 0,some (.int .i64)⟩
theorem zEw:TEok Try.prog te3:=⟨TI.of Try.underlying3 rfl (by kernel_rfl),Try.underlying3,fun t h=>by cases h;exact ⟨rfl,rfl,by decide,rfl⟩⟩
def te4:TE:=⟨4,.bool,false,1,1,.bool false,some .bool⟩
theorem zEx:TEok Try.prog te4:=⟨TI.of Try.underlying4 rfl (by kernel_rfl),Try.underlying4,fun t h=>by cases h;exact ⟨rfl,rfl,by decide,rfl⟩⟩
def te5:TE:=⟨5,.int .u8,false,1,1,.int .u8 0,some (.int .u8)⟩
theorem zEy:TEok Try.prog te5:=⟨TI.of Try.underlying5 rfl (by kernel_rfl),Try.underlying5,fun t h=>by cases h;exact ⟨rfl,rfl,by decide,rfl⟩⟩
def te9:TE:=⟨9,.str,false,1,16,.string ⟨⟨[]⟩⟩,some .str⟩
theorem zEz:TEok Try.prog te9:=⟨TI.of Try.underlying9 rfl (by kernel_rfl),Try.underlying9,fun t h=>by cases h;exact ⟨rfl,rfl,by decide,rfl⟩⟩
def te22:TE:=⟨22,.slice 65,false,1,24,.slice none 0 0,some Tc5⟩
theorem zDy:TEok Try.prog te22:=⟨TI.of Try.underlying22 rfl (by kernel_rfl),Try.underlying22,fun t h=>by cases h;exact ⟨rfl,rfl,by decide,rfl⟩⟩
def te24:TE:=⟨24,.struct [(0,3),(1,3),(2,22)] none,true,3,40,.agg ⟨[.int .i64 0,.int .i64 0,.slice none 0 0]⟩,some Tc2⟩
theorem zDz:TEok Try.prog te24:=⟨TI.of Try.underlying24 rfl (by kernel_rfl),⟨⟨_,Try.underlying24,rfl⟩,fun t h=>by cases h⟩,fun t h=>by cases h;exact ⟨rfl,rfl,by decide,rfl⟩⟩
def te25:TE:=⟨25,.slice 3,false,1,24,.slice none 0 0,some (.list (.int .i64))⟩
theorem zDA:TEok Try.prog te25:=⟨TI.of Try.underlying25 rfl (by kernel_rfl),Try.underlying25,fun t h=>by cases h;exact ⟨rfl,rfl,by decide,rfl⟩⟩
def te27:TE:=⟨27,.struct [(0,25),(1,25)] none,true,2,48,.agg ⟨[.slice none 0 0,.slice none 0 0]⟩,some (.pair (.list (.int .i64)) (.pair (.list (.int .i64)) .unit))⟩
theorem zDB:TEok Try.prog te27:=⟨TI.of Try.underlying27 rfl (by kernel_rfl),⟨⟨_,Try.underlying27,rfl⟩,fun t h=>by cases h⟩,fun t h=>by cases h;exact ⟨rfl,rfl,by decide,rfl⟩⟩
def te28:TE:=⟨28,.int .i64,false,1,8,.int .i64 0,some (.int .i64)⟩
theorem zDC:TEok Try.prog te28:=⟨TI.of Try.underlying28 rfl (by kernel_rfl),Try.underlying28,fun t h=>by cases h;exact ⟨rfl,rfl,by decide,rfl⟩⟩
def te33:TE:=⟨33,.slice 39,false,1,24,.slice none 0 0,some (.list (.pair (.int .u8) (.pair .bool Tc6)))⟩
theorem zDD:TEok Try.prog te33:=⟨TI.of Try.underlying33 rfl (by kernel_rfl),Try.underlying33,fun t h=>by cases h;exact ⟨rfl,rfl,by decide,rfl⟩⟩
def te35:TE:=⟨35,.struct [(0,28),(1,3)] none,true,2,16,.agg ⟨[.int .i64 0,.int .i64 0]⟩,some Tc7⟩
theorem zDE:TEok Try.prog te35:=⟨TI.of Try.underlying35 rfl (by kernel_rfl),⟨⟨_,Try.underlying35,rfl⟩,fun t h=>by cases h⟩,fun t h=>by cases h;exact ⟨rfl,rfl,by decide,rfl⟩⟩
def te39:TE:=⟨39,.struct [(0,5),(1,4),(2,3),(3,3),(4,3)] none,true,5,32,.agg ⟨[.int .u8 0,.bool false,.int .i64 0,.int .i64 0,.int .i64 0]⟩,some (.pair (.int .u8) (.pair .bool Tc6))⟩
theorem zDF:TEok Try.prog te39:=⟨TI.of Try.underlying39 rfl (by kernel_rfl),⟨⟨_,Try.underlying39,rfl⟩,fun t h=>by cases h⟩,fun t h=>by cases h;exact ⟨rfl,rfl,by decide,rfl⟩⟩
def te40:TE:=⟨40,.slice 4,false,1,24,.slice none 0 0,some (.list .bool)⟩
theorem zDG:TEok Try.prog te40:=⟨TI.of Try.underlying40 rfl (by kernel_rfl),Try.underlying40,fun t h=>by cases h;exact ⟨rfl,rfl,by decide,rfl⟩⟩
def te44:TE:=⟨44,.other,false,1,8,.pointer none,some (.tree (.pair (.int .u8) (.pair .bool (.pair (.int .i64) .unit))))⟩
theorem zDH:TEok Try.prog te44:=⟨TI.of Try.underlying44 rfl (by kernel_rfl),trivial,fun t h=>by cases h;exact ⟨rfl,rfl,by decide,rfl⟩⟩
def te48:TE:=⟨48,.slice 5,false,1,24,.slice none 0 0,some (.list (.int .u8))⟩
theorem zDI:TEok Try.prog te48:=⟨TI.of Try.underlying48 rfl (by kernel_rfl),Try.underlying48,fun t h=>by cases h;exact ⟨rfl,rfl,by decide,rfl⟩⟩
def te49:TE:=⟨49,.slice 44,false,1,24,.slice none 0 0,some (.list (.tree (.pair (.int .u8) (.pair .bool (.pair (.int .i64) .unit)))))⟩
theorem zDJ:TEok Try.prog te49:=⟨TI.of Try.underlying49 rfl (by kernel_rfl),Try.underlying49,fun t h=>by cases h;exact ⟨rfl,rfl,by decide,rfl⟩⟩
def te51:TE:=⟨51,.struct [(0,5),(1,4),(2,3),(3,49)] none,true,4,40,.agg ⟨[.int .u8 0,.bool false,.int .i64 0,.slice none 0 0]⟩,some (.pair (.int .u8) (.pair .bool (.pair (.int .i64) (.pair (.list (.tree (.pair (.int .u8) (.pair .bool (.pair (.int .i64) .unit))))) .unit))))⟩
theorem zDK:TEok Try.prog te51:=⟨TI.of Try.underlying51 rfl (by kernel_rfl),⟨⟨_,Try.underlying51,rfl⟩,fun t h=>by cases h⟩,fun t h=>by cases h;exact ⟨rfl,rfl,by decide,rfl⟩⟩
def te52:TE:=⟨52,.other,false,1,8,.pointer none,none⟩
theorem zDL:TEok Try.prog te52:=⟨TI.of Try.underlying52 rfl (by kernel_rfl),trivial,fun t h=>by cases h⟩
def te56:TE:=⟨56,.slice 25,false,1,24,.slice none 0 0,some (.list (.list (.int .i64)))⟩
theorem zDM:TEok Try.prog te56:=⟨TI.of Try.underlying56 rfl (by kernel_rfl),Try.underlying56,fun t h=>by cases h;exact ⟨rfl,rfl,by decide,rfl⟩⟩
def te58:TE:=⟨58,.struct [(0,24),(3,56)] none,true,4,64,.agg ⟨[.int .i64 0,.int .i64 0,.slice none 0 0,.slice none 0 0]⟩,some Tc1⟩
theorem zDN:TEok Try.prog te58:=⟨TI.of Try.underlying58 rfl (by kernel_rfl),⟨⟨_,Try.underlying58,rfl⟩,fun t h=>by cases h⟩,fun t h=>by cases h;exact ⟨rfl,rfl,by decide,rfl⟩⟩
def te59:TE:=⟨59,.other,false,1,8,.nilFunc,none⟩
theorem zDO:TEok Try.prog te59:=⟨TI.of Try.underlying59 rfl (by kernel_rfl),trivial,fun t h=>by cases h⟩
def te65:TE:=⟨65,.struct [(0,3),(1,3),(2,3)] none,true,3,24,.agg ⟨[.int .i64 0,.int .i64 0,.int .i64 0]⟩,some Tc6⟩
theorem zDP:TEok Try.prog te65:=⟨TI.of Try.underlying65 rfl (by kernel_rfl),⟨⟨_,Try.underlying65,rfl⟩,fun t h=>by cases h⟩,fun t h=>by cases h;exact ⟨rfl,rfl,by decide,rfl⟩⟩
def te69:TE:=⟨69,.struct [(0,9),(1,3),(2,3),(3,3),(4,33),(5,35)] none,true,7,80,.agg ⟨[.string ⟨⟨[]⟩⟩,.int .i64 0,.int .i64 0,.int .i64 0,.slice none 0 0,.int .i64 0,.int .i64 0]⟩,some (.pair .str (.pair (.int .i64) (.pair (.int .i64) (.pair (.int .i64) (.pair (.list (.pair (.int .u8) (.pair .bool Tc6))) (.pair Tc7 .unit))))))⟩
theorem zDQ:TEok Try.prog te69:=⟨TI.of Try.underlying69 rfl (by kernel_rfl),⟨⟨_,Try.underlying69,rfl⟩,fun t h=>by cases h⟩,fun t h=>by cases h;exact ⟨rfl,rfl,by decide,rfl⟩⟩
def te79:TE:=⟨79,.struct [(0,35)] none,true,2,16,.agg ⟨[.int .i64 0,.int .i64 0]⟩,some (.pair Tc7 .unit)⟩
theorem zDR:TEok Try.prog te79:=⟨TI.of Try.underlying79 rfl (by kernel_rfl),⟨⟨_,Try.underlying79,rfl⟩,fun t h=>by cases h⟩,fun t h=>by cases h;exact ⟨rfl,rfl,by decide,rfl⟩⟩
def te82:TE:=⟨82,.struct [(0,9),(1,3),(2,3),(3,3)] none,true,4,40,.agg ⟨[.string ⟨⟨[]⟩⟩,.int .i64 0,.int .i64 0,.int .i64 0]⟩,some (.pair .str Tc6)⟩
theorem zDS:TEok Try.prog te82:=⟨TI.of Try.underlying82 rfl (by kernel_rfl),⟨⟨_,Try.underlying82,rfl⟩,fun t h=>by cases h⟩,fun t h=>by cases h;exact ⟨rfl,rfl,by decide,rfl⟩⟩
def te92:TE:=⟨92,.map 3 3 ((.int .i64)),false,1,8,.map none,none⟩
theorem zDT:TEok Try.prog te92:=⟨TI.of Try.underlying92 rfl (by kernel_rfl),⟨Try.underlying92,SK.int' Try.underlying3⟩,fun t h=>by cases h⟩
def TT:List TE:=[te3,te4,te5,te9,te22,te24,te25,te27,te28,te33,te35,te39,te40,te44,te48,te49,te51,te52,te56,te58,te59,te65,te69,te79,te82,te92]
theorem zaV:TOK Try.prog TT:=TOK.cons zEw (TOK.cons zEx (TOK.cons zEy (TOK.cons zEz (TOK.cons zDy (TOK.cons zDz (TOK.cons zDA (TOK.cons zDB (TOK.cons zDC (TOK.cons zDD (TOK.cons zDE (TOK.cons zDF (TOK.cons zDG (TOK.cons zDH (TOK.cons zDI (TOK.cons zDJ (TOK.cons zDK (TOK.cons zDL (TOK.cons zDM (TOK.cons zDN (TOK.cons zDO (TOK.cons zDP (TOK.cons zDQ (TOK.cons zDR (TOK.cons zDS (TOK.cons zDT (TOK.nil))))))))))))))))))))))))))

def znX:Shape:=⟨[(.int .i64),Tc2],[(0,.v 0),(1,.addr 1)],[]⟩
def znW:Shape:=⟨[.bool],[(0,.v 0)],[]⟩
def zpb:CE:=⟨28,znX,znW,fun X=>zjw X.1 X.2⟩
theorem zuI:CE.ok Try.prog zpb:=CE.of (Γ:=[]) (by kernel_rfl) zaV (GOK.nil) ⟨[],[],[],[]⟩ Try.func28 rfl Try.ntmps28 (rs:=[.tmp 3]) rfl (sig:=znX) (out:=znW) rfl Try.call28 (fun X=>by kernel_rfl)

def znZ:Shape:=⟨[Tc6,Tc2,Tc2],[(0,.v 0),(1,.ptr 100000 0),(2,.addr 1)],[(100000,.box 59 [.fn 28 [.addr 2]])]⟩
def znY:Shape:=⟨[.bool,Tc2],[(0,.v 0)],[(100000,.box 59 [.fn 28 [.addr 1]])]⟩
def zpc:CE:=⟨30,znZ,znY,fun X=>zjx X.1 X.2.1 X.2.2⟩
theorem zuJ:CE.ok Try.prog zpc:=CE.of (Γ:=[zpb]) (by kernel_rfl) zaV (GOK.cons zuI (GOK.nil)) ⟨[],[],[],[]⟩ Try.func30 rfl Try.ntmps30 (rs:=[.tmp 4]) rfl (sig:=znZ) (out:=znY) rfl Try.call30 (fun X=>by kernel_rfl)

def zjY:Shape:=⟨[Tc5,Tc2,Tc2],[(0,.v 0),(1,.fn 30 [.ptr 100000 0,.addr 1])],[(100000,.box 59 [.fn 28 [.addr 2]])]⟩
def zjX:Shape:=⟨[(.int .i64),Tc2],[(0,.v 0)],[(100000,.box 59 [.fn 28 [.addr 1]])]⟩
def zkX:CE:=⟨63,zjY,zjX,fun X=>zn4 X.1 X.2.1 X.2.2⟩
theorem zqD:CE.ok Try.prog zkX:=CE.of (Γ:=[zpc]) (by kernel_rfl) zaV (GOK.cons zuJ (GOK.nil)) ⟨[(2,⟨⟨[Tc2,(.int .i64),Tc2],[(1,.fn 30 [.ptr 100000 0,.addr 0]),(8,.v 1)],[(100000,.box 59 [.fn 28 [.addr 2]])]⟩,[4,5,9,10,11,12,13,14,15,16,17,18],[],[],0,[]⟩)],[],[],[]⟩ Try.func63 rfl Try.ntmps63 (rs:=[.tmp 4]) rfl (sig:=zjY) (out:=zjX) rfl Try.call63 (fun X=>by kernel_rfl)

def zid:Shape:=⟨[Tc5,Tc2,Tc2],[(0,.v 0),(1,.fn 30 [.ptr 100000 0,.addr 1])],[(100000,.box 59 [.fn 28 [.addr 2]])]⟩
def zic:Shape:=⟨[.bool,Tc2],[(0,.v 0)],[(100000,.box 59 [.fn 28 [.addr 1]])]⟩
def ziM:CE:=⟨29,zid,zic,fun X=>zgN X.1 X.2.1 X.2.2⟩
theorem zoe:CE.ok Try.prog ziM:=CE.of (Γ:=[zkX]) (by kernel_rfl) zaV (GOK.cons zqD (GOK.nil)) ⟨[],[],[],[]⟩ Try.func29 rfl Try.ntmps29 (rs:=[.tmp 4]) rfl (sig:=zid) (out:=zic) rfl Try.call29 (fun X=>by kernel_rfl)

def zqQ:Shape:=⟨[(.int .i64)],[(0,.v 0)],[]⟩
def zqP:Shape:=⟨[.bool],[(0,.v 0)],[]⟩
def zsG:CE:=⟨73,zqQ,zqP,fun X=>zqO X⟩
theorem zwW:CE.ok Try.prog zsG:=CE.of (Γ:=[]) (by kernel_rfl) zaV (GOK.nil) ⟨[],[],[],[]⟩ Try.func73 rfl Try.ntmps73 (rs:=[.tmp 2]) rfl (sig:=zqQ) (out:=zqP) rfl Try.call73 (fun X=>by kernel_rfl)

def zow:Shape:=⟨[(.int .i64),(.int .i64)],[(0,.v 0),(1,.v 1)],[]⟩
def zov:Shape:=⟨[(.int .i64)],[(0,.v 0)],[]⟩
def zpZ:CE:=⟨65,zow,zov,fun X=>ziY X.1 X.2⟩
theorem zuV:CE.ok Try.prog zpZ:=CE.of (Γ:=[zsG]) (by kernel_rfl) zaV (GOK.cons zwW (GOK.nil)) ⟨[],[],[],[]⟩ Try.func65 rfl Try.ntmps65 (rs:=[.tmp 4]) rfl (sig:=zow) (out:=zov) rfl Try.call65 (fun X=>by kernel_rfl)

def zve:Shape:=⟨[(.list (.int .i64))],[(0,.v 0)],[]⟩
def zvd:Shape:=⟨[(.int .i64)],[(0,.v 0)],[]⟩
def zwV:CE:=⟨64,zve,zvd,fun X=>zyG X⟩
theorem zz3:CE.ok Try.prog zwV:=CE.of (Γ:=[]) (by kernel_rfl) zaV (GOK.nil) ⟨[(3,⟨⟨[(.int .i64)],[(8,.v 0)],[]⟩,[2,5,9,10,11,12,13,14,15,16],[],[],0,[]⟩)],[],[],[]⟩ Try.func64 rfl Try.ntmps64 (rs:=[.tmp 2]) rfl (sig:=zve) (out:=zvd) rfl Try.call64 (fun X=>by kernel_rfl)

def zql:Shape:=⟨[Tc6,Tc6],[(0,.v 0),(1,.v 1)],[]⟩
def zqk:Shape:=⟨[(.int .i64)],[(0,.v 0)],[]⟩
def zr1:CE:=⟨31,zql,zqk,fun X=>zpF X.1 X.2⟩
theorem zwE:CE.ok Try.prog zr1:=CE.of (Γ:=[zpZ,zwV]) (by kernel_rfl) zaV (GOK.cons zuV (GOK.cons zz3 (GOK.nil))) ⟨[],[],[(1,[(0,0),(0,1),(0,2),(0,3),(0,5),(0,6),(0,7),(0,8),(0,10),(0,11),(0,12),(0,13),(1,4),(1,9),(1,14),(1,15),(1,16),(0,17)])],[]⟩ Try.func31 rfl Try.ntmps31 (rs:=[.tmp 4]) rfl (sig:=zql) (out:=zqk) rfl Try.call31 (fun X=>by kernel_rfl)

def zqj:Shape:=⟨[Tc2],[(0,.v 0)],[]⟩
def zqi:Shape:=⟨[(.int .i64)],[(0,.v 0)],[]⟩
def zr0:CE:=⟨10,zqj,zqi,fun X=>zdF X⟩
theorem zwD:CE.ok Try.prog zr0:=CE.of (Γ:=[ziM,zr1]) (by kernel_rfl) zaV (GOK.cons zoe (GOK.cons zwE (GOK.nil))) ⟨[(9,⟨⟨[(.int .i64)],[(35,.v 0)],[]⟩,[2,4,13,17,22,36,37,38,39,40,41,42,43,44,45,46,47,48,49,50,51,52,53,54,55],[],[1],2,[]⟩)],[],[(11,[(0,0),(0,1),(0,2),(0,3),(0,4),(0,5),(0,6),(0,7),(0,8),(0,9),(0,10),(0,11),(0,12),(0,13),(1,14),(0,15),(0,16)])],[]⟩ Try.func10 rfl Try.ntmps10 (rs:=[.tmp 2]) rfl (sig:=zqj) (out:=zqi) rfl Try.call10 (fun X=>by kernel_rfl)

def zjc:Shape:=⟨[(.pair .str Tc6)],[(0,.addr 0)],[]⟩
def zjb:Shape:=⟨[(.int .u8)],[(0,.v 0)],[]⟩
def zcv:CE:=⟨67,zjc,zjb,fun X=>zb5 X⟩
theorem zc0:CE.ok Try.prog zcv:=CE.of (Γ:=[]) (by kernel_rfl) zaV (GOK.nil) ⟨[],[],[(1,[(0,0),(0,1),(0,2),(0,3),(0,4),(0,5),(0,6),(0,7),(0,8),(0,9)]),(2,[(0,0),(0,1),(0,2),(0,3),(0,4),(0,5),(0,6),(0,7),(0,8),(0,9)])],[]⟩ Try.func67 rfl Try.ntmps67 (rs:=[.tmp 2]) rfl (sig:=zjc) (out:=zjb) rfl Try.call67 (fun X=>by kernel_rfl)

def zim:Shape:=⟨[(.pair .str Tc6),(.int .i64)],[(0,.addr 0),(1,.v 1)],[]⟩
def zil:Shape:=⟨[],[],[]⟩
def zbx:CEp:=⟨34,zim,zil,fun X=>zcb X.1 X.2⟩
theorem zb4:CEp.ok Try.prog 79 zbx:=CEp.of (Γ:=[]) (Γp:=[]) (by kernel_rfl) zaV (GOK.nil) (GPOK.nil) ⟨[],[],[(2000000,[(0,0),(0,1),(0,2),(0,3),(0,4),(0,5),(0,6),(6,7),(2,8)])],[]⟩ Try.func34 rfl Try.ntmps34 (rs:=[]) rfl (sig:=zim) (out:=zil) rfl Try.call34 (fun X=>by kernel_rfl)

def zfS:Shape:=⟨[.str,(.int .i64),(.int .i64),(.int .i64)],[(0,.ptr 100000 0)],[(100000,.box 82 [.v 0,.v 1,.v 2,.v 3])]⟩
def zfR:Shape:=⟨[.str,(.int .i64),(.int .i64),(.int .i64)],[],[(100000,.box 82 [.v 0,.v 1,.v 2,.v 3])]⟩
def zb3:CEp:=⟨68,zfS,zfR,fun X=>zaO X.1 X.2.1 X.2.2.1 X.2.2.2⟩
theorem zcS:CEp.ok Try.prog 79 zb3:=CEp.of (Γ:=[]) (Γp:=[zbx]) (by kernel_rfl) zaV (GOK.nil) (GPOK.cons zb4 (GPOK.nil)) ⟨[],[],[(2000002,[(0,0),(5,1)])],[]⟩ Try.func68 rfl Try.ntmps68 (rs:=[]) rfl (sig:=zfS) (out:=zfR) rfl Try.call68 (fun X=>by kernel_rfl)

def zio:Shape:=⟨[.str,(.int .i64),(.int .i64),(.int .i64)],[(0,.ptr 100000 0)],[(100000,.box 82 [.v 0,.v 1,.v 2,.v 3])]⟩
def zin:Shape:=⟨[.str,(.int .i64),(.int .i64),(.int .i64)],[],[(100000,.box 82 [.v 0,.v 1,.v 2,.v 3])]⟩
def ze4:CEp:=⟨79,zio,zin,fun X=>zdG X.1 X.2.1 X.2.2.1 X.2.2.2⟩
theorem zjd:CEp.ok Try.prog 79 ze4:=CEp.of (Γ:=[]) (Γp:=[zbx]) (by kernel_rfl) zaV (GOK.nil) (GPOK.cons zb4 (GPOK.nil)) ⟨[],[],[(2000001,[(0,0),(5,1)])],[]⟩ Try.func79 rfl Try.ntmps79 (rs:=[]) rfl (sig:=zio) (out:=zin) rfl Try.call79 (fun X=>by kernel_rfl)

def ziv:Shape:=⟨[(.int .u8),.str,(.int .i64),(.int .i64),(.int .i64)],[(0,.ptr 100000 0),(1,.v 0)],[(100000,.box 82 [.v 1,.v 2,.v 3,.v 4])]⟩
def ziu:Shape:=⟨[.str,(.int .i64),(.int .i64),(.int .i64)],[],[(100000,.box 82 [.v 0,.v 1,.v 2,.v 3])]⟩
def ze6:CEp:=⟨81,ziv,ziu,fun X=>zdI X.1 X.2.1 X.2.2.1 X.2.2.2.1 X.2.2.2.2⟩
theorem zjh:CEp.ok Try.prog 79 ze6:=CEp.of (Γ:=[zcv]) (Γp:=[zbx]) (by kernel_rfl) zaV (GOK.cons zc0 (GOK.nil)) (GPOK.cons zb4 (GPOK.nil)) ⟨[],[],[(2000001,[(0,0),(5,1)])],[]⟩ Try.func81 rfl Try.ntmps81 (rs:=[]) rfl (sig:=ziv) (out:=ziu) rfl Try.call81 (fun X=>by kernel_rfl)

def zir:Shape:=⟨[.str,(.int .i64),(.int .i64),(.int .i64)],[(0,.ptr 100000 0)],[(100000,.box 82 [.v 0,.v 1,.v 2,.v 3])]⟩
def ziq:Shape:=⟨[.str,(.int .i64),(.int .i64),(.int .i64)],[],[(100000,.box 82 [.v 0,.v 1,.v 2,.v 3])]⟩
def ze5:CEp:=⟨80,zir,ziq,fun X=>zdH X.1 X.2.1 X.2.2.1 X.2.2.2⟩
theorem zjf:CEp.ok Try.prog 79 ze5:=CEp.of (Γ:=[]) (Γp:=[ze6]) (by kernel_rfl) zaV (GOK.nil) (GPOK.cons zjh (GPOK.nil)) ⟨[],[],[(2000000,[(0,0),(5,1)])],[]⟩ Try.func80 rfl Try.ntmps80 (rs:=[]) rfl (sig:=zir) (out:=ziq) rfl Try.call80 (fun X=>by kernel_rfl)

def zas:Shape:=⟨[.str,(.int .i64),(.int .i64),(.int .i64)],[(0,.ptr 100000 0)],[(100000,.box 82 [.v 0,.v 1,.v 2,.v 3])]⟩
def zar:Shape:=⟨[(.tree (.pair (.int .u8) (.pair .bool (.pair (.int .i64) .unit)))),.str,(.int .i64),(.int .i64),(.int .i64)],[(0,.v 0)],[(100000,.box 82 [.v 1,.v 2,.v 3,.v 4])]⟩
def zon:CEp:=⟨74,zas,zar,LFix zc1⟩
def zit:Shape:=⟨[.str,(.int .i64),(.int .i64),(.int .i64)],[(0,.ptr 100000 0)],[(100000,.box 82 [.v 0,.v 1,.v 2,.v 3])]⟩
def zis:Shape:=⟨[(.tree (.pair (.int .u8) (.pair .bool (.pair (.int .i64) .unit)))),.str,(.int .i64),(.int .i64),(.int .i64)],[(0,.v 0)],[(100000,.box 82 [.v 1,.v 2,.v 3,.v 4])]⟩
def zjg (rec:Tup zas.tys->Option (Tup zar.tys⊕(Int×Int))):CEp:=⟨66,zit,zis,fun X=>zbp (fun c c_1 c_2 c_3=>rec (c,c_1,c_2,c_3)) X.1 X.2.1 X.2.2.1 X.2.2.2⟩
theorem zoq (rec:Tup zas.tys->Option (Tup zar.tys⊕(Int×Int))) (hrec:CEp.ok Try.prog 79 ⟨74,zas,zar,rec⟩):CEp.ok Try.prog 79 (zjg rec):=CEp.of (Γ:=[zcv]) (Γp:=[⟨74,zas,zar,rec⟩,zb3]) (by kernel_rfl) zaV (GOK.cons zc0 (GOK.nil)) (GPOK.cons hrec (GPOK.cons zcS (GPOK.nil))) ⟨[(2,⟨⟨[(.tree (.pair (.int .u8) (.pair .bool (.pair (.int .i64) .unit)))),.str,(.int .i64),(.int .i64),(.int .i64)],[(0,.ptr 100000 0),(3,.v 0)],[(100000,.box 82 [.v 1,.v 2,.v 3,.v 4])]⟩,[6,7,8,9,10,11,12,13,14,15,16],[],[],0,[]⟩)],[],[(2000001,[(0,0),(5,1),(0,2)]),(2000003,[(0,0),(5,1)]),(2000004,[(0,0),(0,1),(5,2),(2,3),(0,4),(2,5),(0,6)])],[]⟩ Try.func66 rfl Try.ntmps66 (rs:=[.tmp 2]) rfl (sig:=zit) (out:=zis) rfl Try.call66 (fun X=>by kernel_rfl)
def zhB:Shape:=⟨[.str,(.int .i64),(.int .i64),(.int .i64)],[(0,.ptr 100000 0)],[(100000,.box 82 [.v 0,.v 1,.v 2,.v 3])]⟩
def zhA:Shape:=⟨[(.tree (.pair (.int .u8) (.pair .bool (.pair (.int .i64) .unit)))),.str,(.int .i64),(.int .i64),(.int .i64)],[(0,.v 0)],[(100000,.box 82 [.v 1,.v 2,.v 3,.v 4])]⟩
def zdv (rec:Tup zas.tys->Option (Tup zar.tys⊕(Int×Int))):CEp:=⟨33,zhB,zhA,fun X=>zaS (fun c c_1 c_2 c_3=>rec (c,c_1,c_2,c_3)) X.1 X.2.1 X.2.2.1 X.2.2.2⟩
theorem zeU (rec:Tup zas.tys->Option (Tup zar.tys⊕(Int×Int))) (hrec:CEp.ok Try.prog 79 ⟨74,zas,zar,rec⟩):CEp.ok Try.prog 79 (zdv rec):=CEp.of (Γ:=[zcv]) (Γp:=[zjg rec,zb3]) (by kernel_rfl) zaV (GOK.cons zc0 (GOK.nil)) (GPOK.cons (zoq rec hrec) (GPOK.cons zcS (GPOK.nil))) ⟨[(2,⟨⟨[(.tree (.pair (.int .u8) (.pair .bool (.pair (.int .i64) .unit)))),.str,(.int .i64),(.int .i64),(.int .i64)],[(0,.ptr 100000 0),(3,.v 0)],[(100000,.box 82 [.v 1,.v 2,.v 3,.v 4])]⟩,[6,7,8,9,10,11,12,13,14,15,16],[],[],0,[]⟩)],[],[(2000001,[(0,0),(5,1),(0,2)]),(2000003,[(0,0),(5,1)]),(2000004,[(0,0),(0,1),(5,2),(2,3),(0,4),(2,5),(0,6)])],[]⟩ Try.func33 rfl Try.ntmps33 (rs:=[.tmp 2]) rfl (sig:=zhB) (out:=zhA) rfl Try.call33 (fun X=>by kernel_rfl)
def zix:Shape:=⟨[.bool,.str,(.int .i64),(.int .i64),(.int .i64)],[(0,.ptr 100000 0),(1,.v 0)],[(100000,.box 82 [.v 1,.v 2,.v 3,.v 4])]⟩
def ziw:Shape:=⟨[(.tree (.pair (.int .u8) (.pair .bool (.pair (.int .i64) .unit)))),.str,(.int .i64),(.int .i64),(.int .i64)],[(0,.v 0)],[(100000,.box 82 [.v 1,.v 2,.v 3,.v 4])]⟩
def zji (rec:Tup zas.tys->Option (Tup zar.tys⊕(Int×Int))):CEp:=⟨78,zix,ziw,fun X=>zcc (fun c c_1 c_2 c_3=>rec (c,c_1,c_2,c_3)) X.1 X.2.1 X.2.2.1 X.2.2.2.1 X.2.2.2.2⟩
theorem zor (rec:Tup zas.tys->Option (Tup zar.tys⊕(Int×Int))) (hrec:CEp.ok Try.prog 79 ⟨74,zas,zar,rec⟩):CEp.ok Try.prog 79 (zji rec):=CEp.of (Γ:=[zcv]) (Γp:=[zb3,⟨74,zas,zar,rec⟩,ze4,zdv rec,ze6,ze5,zbx]) (by kernel_rfl) zaV (GOK.cons zc0 (GOK.nil)) (GPOK.cons zcS (GPOK.cons hrec (GPOK.cons zjd (GPOK.cons (zeU rec hrec) (GPOK.cons zjh (GPOK.cons zjf (GPOK.cons zb4 (GPOK.nil)))))))) ⟨[],[(6,⟨⟨[.bool],[(13,.v 0)],[]⟩,[14,15,16],[],[],0,[]⟩)],[(2000001,[(0,0),(5,1)]),(2000008,[(0,0),(0,1),(0,2),(5,3),(2,4),(0,5),(2,6),(0,7)]),(2000010,[(0,0),(5,1)]),(2000011,[(0,0),(5,1),(0,2)]),(2000012,[(0,0),(5,1)]),(2000013,[(0,0),(5,1),(0,2)]),(2000014,[(0,0),(5,1)]),(2000016,[(0,0),(5,1)])],[]⟩ Try.func78 rfl Try.ntmps78 (rs:=[.tmp 4]) rfl (sig:=zix) (out:=ziw) rfl Try.call78 (fun X=>by kernel_rfl)
theorem zop:CEp.ok Try.prog 79 zon:=CEp.ofRec (Γ:=[zcv]) (Γp:=fun rec=>[zb3,zji rec,ze4,zdv rec,ze5,zbx]) (by kernel_rfl) zaV (GOK.cons zc0 (GOK.nil)) ⟨[],[(2,⟨⟨[.bool],[(7,.v 0)],[]⟩,[8,9,10,11,12,13],[],[],0,[]⟩),(5,⟨⟨[.bool],[(19,.v 0)],[]⟩,[20,21,22,23,24,25],[],[],0,[]⟩),(11,⟨⟨[.bool],[(43,.v 0)],[]⟩,[44,45,46,47,48,49],[],[],0,[]⟩),(14,⟨⟨[],[],[]⟩,[2,3,5,6,7,8,9,10,11,12,13,14,15,16,17,18,19,20,21,22,23,24,25,26,27,28,29,30,31,32,33,34,35,36,37,38,39,40,41,42,43,44,45,46,47,48,49,50,51,52,53,54,55,56,57,58],[],[],0,[]⟩)],[(2000003,[(0,0),(5,1)]),(2000006,[(0,0),(5,1)]),(2000009,[(0,0),(5,1)]),(2000010,[(0,0),(5,1),(2,2),(0,3),(2,4),(0,5)]),(2000012,[(0,0),(0,1),(0,2),(5,3),(0,4)]),(2000014,[(0,0),(5,1)]),(2000015,[(0,0),(5,1)]),(2000016,[(0,0),(5,1),(0,2)]),(2000017,[(0,0),(5,1)])],[]⟩ Try.func74 rfl Try.ntmps74 (rs:=[.tmp 2]) rfl (sig:=zas) (out:=zar) rfl (fun rec hrec=>(GPOK.cons zcS (GPOK.cons (zor rec hrec) (GPOK.cons zjd (GPOK.cons (zeU rec hrec) (GPOK.cons zjf (GPOK.cons zb4 (GPOK.nil)))))))) Try.call74 (d:=zc1) (fun rc X=>by kernel_rfl)
def zgS:CEp:=zdv (LFix zc1)
theorem zmj:CEp.ok Try.prog 79 zgS:=zeU _ zop
def znK:Shape:=⟨[.str],[(0,.v 0)],[]⟩
def znJ:Shape:=⟨[(.tree (.pair (.int .u8) (.pair .bool (.pair (.int .i64) .unit)))),Tc7],[(0,.v 0),(1,.v 1)],[]⟩
def zom:CE:=⟨11,znK,znJ,fun X=>zbL X⟩
theorem zsc (p:Int×Int):evC TT [] [] 0 bothS ⟨[],[],[],[(7,.one 0 (.alt 0 1 (.leaf [(2,2),(2,3)]) (.alt 2 2 (.leaf [(0,1),(2,3)]) .stop)))]⟩ (zz2 (Try.f32.body.getD .skip)) (zBk 13 10 44 35 p) (zEt true 44 35)=bothS (some (p.1,p.2)) (some (p.1,p.2)):=by kernel_rfl
theorem zsb (va vb:Value) (w:World):CallsD Try.prog 32 #[va,vb] .returning w (fun e u w'=>(∃ v,e = .returned v)/\u = .returning/\w'=w):=by
  refine callsD_of_wpS Try.func32 rfl fun c₀ cs hu => ?_
  apply wpS_seq
  apply wpS_region
  simp [wpOpsS,go_sem,recoverD,hu,Try.ntmps32,Exit.thenS]
  refine wpS_of_wp (wp_block (wp_seq (wp_region ?_)))
  simp [wpOps,go_sem]
  left
  refine wp_cond (t:=true) (by simp [Act.eval,Array.replicate]) ?_
  simp only [if_true]
  refine wp_region ?_
  simp [wpOps,go_sem]
  left
  cases c₀
  simp_all [bodyPostS,results,Try.results32]
theorem zqs (p:Int×Int) (w:World) (ba bb:Nat) (ca cb:Array Value) (hne:ba≠bb) (h1:w.heap[ba]? =some (.cells ca 44 (0,0))) (h2:ca.size=1) (h3:w.heap[bb]? =some (.cells cb 35 (0,0))) (h4:cb.size=2):
    CallsD Try.prog 32 #[.pointer (some ⟨ba,0,none⟩),.pointer (some ⟨bb,0,none⟩)] (.panicking (pch 79 p)) w (fun e u w'=>(∃ v,e = .returned v)/\settle u = .returning/\
      (w'.os=w.os/\w'.tape=w.tape/\w'.output=w.output/\w.heap.size<=w'.heap.size)/\(∀ b,b < w.heap.size->b≠ba->b≠bb->w'.heap[b]? =w.heap[b]?)/\
      w'.heap[ba]? =some (.cells #[zV true] 44 (0,0))/\w'.heap[bb]? =some (.cells #[.int .i64 p.1,.int .i64 p.2] 35 (0,0))):=by
  refine callsD_of_wpS Try.func32 rfl fun c₀ cs hu => ?_
  apply wpS_seq
  apply wpS_region
  simp [wpOpsS,go_sem,recoverD,hu,Try.ntmps32,Exit.thenS,pch]
  refine wpS_of_wp (wp_block (wp_seq (wp_region ?_)))
  simp [wpOps,go_sem]
  left
  refine wp_cond (t:=false) (by simp [Act.eval,Array.replicate]) ?_
  simp only [Bool.false_eq_true,if_false]
  refine wp_seq (wp_region ?_)
  simp [wpOps,go_sem,zzI Try.underlying79]
  left
  left
  left
  refine wp_cond (t:=true) (by simp [Act.eval,Array.replicate]) ?_
  simp only [if_true]
  refine wp_mono (zDv (by kernel_rfl) zaV (zsc p) hne h1 h2 h3 h4 ?_ ?_ ?_ ?_ ?_) fun e a' w' hh => ?_
  · simp
  · rfl
  · simp [Array.replicate]
  · simp [Array.replicate]
  · simp [Array.replicate]
  · obtain ⟨rfl,hd,ho,hk,y1,y2⟩:=hh
    exact ⟨hd,_,rfl,.tuple #[],by simp [results,Try.results32],⟨_,rfl⟩,rfl,ho,hk,y1,y2⟩
theorem zqL:CatchOK Try.prog 79 32 44 35 (zV true):=⟨Try.call32,zsb,zqs⟩
theorem ztU:CE.ok Try.prog zom:=CE.ofCatch (Γ:=[]) (Γp:=[zgS,zbx]) (T:=79) (by kernel_rfl) zaV (GOK.nil) (GPOK.cons zmj (GPOK.cons zb4 (GPOK.nil))) ⟨[],[],[(3000003,[]),(2000005,[(0,0),(5,1),(2,2)]),(2000007,[(0,0),(5,1)])],[]⟩ Try.func11 rfl Try.ntmps11 (rs:=[.cell 2 44,.cell 3 35]) rfl (sig:=znK) (out:=znJ) rfl Try.call11 (g:=32) (sa:=2) (sb:=3) (Ta:=44) (Tb:=35) (z:=zE true) zqL (zEA true) (fun X=>by kernel_rfl)

def zn6:Shape:=⟨[(.list (.int .u8)),(.int .u8)],[(0,.v 0),(1,.v 1)],[]⟩
def zn5:Shape:=⟨[(.int .i64)],[(0,.v 0)],[]⟩
def zpk:CE:=⟨35,zn6,zn5,fun X=>zs6 X.1 X.2⟩
theorem zuK:CE.ok Try.prog zpk:=CE.of (Γ:=[]) (by kernel_rfl) zaV (GOK.nil) ⟨[(2,⟨⟨[(.int .i64)],[(8,.v 0)],[]⟩,[4,5,9,10,11,12,13,14,15,16,17,18],[],[],0,[]⟩)],[],[],[]⟩ Try.func35 rfl Try.ntmps35 (rs:=[.tmp 4]) rfl (sig:=zn6) (out:=zn5) rfl Try.call35 (fun X=>by kernel_rfl)

def zkU:Shape:=⟨[(.list (.int .u8)),(.int .u8)],[(0,.v 0),(1,.v 1)],[]⟩
def zkT:Shape:=⟨[.bool],[(0,.v 0)],[]⟩
def zlP:CE:=⟨12,zkU,zkT,fun X=>zfs X.1 X.2⟩
theorem zr2:CE.ok Try.prog zlP:=CE.of (Γ:=[zpk]) (by kernel_rfl) zaV (GOK.cons zuK (GOK.nil)) ⟨[],[],[],[]⟩ Try.func12 rfl Try.ntmps12 (rs:=[.tmp 4]) rfl (sig:=zkU) (out:=zkT) rfl Try.call12 (fun X=>by kernel_rfl)

def zlS:Shape:=⟨[(.list (.int .i64)),(.int .i64)],[(0,.v 0),(1,.v 1)],[]⟩
def zlR:Shape:=⟨[(.int .i64)],[(0,.v 0)],[]⟩
def zfB:CE:=⟨50,zlS,zlR,fun X=>zeS X.1 X.2⟩
theorem zi5:CE.ok Try.prog zfB:=CE.of (Γ:=[]) (by kernel_rfl) zaV (GOK.nil) ⟨[(2,⟨⟨[(.int .i64)],[(8,.v 0)],[]⟩,[4,5,9,10,11,12,13,14,15,16,17,18],[],[],0,[]⟩)],[],[],[]⟩ Try.func50 rfl Try.ntmps50 (rs:=[.tmp 4]) rfl (sig:=zlS) (out:=zlR) rfl Try.call50 (fun X=>by kernel_rfl)

def zjz:Shape:=⟨[(.list (.int .i64)),(.int .i64)],[(0,.v 0),(1,.v 1)],[]⟩
def zjy:Shape:=⟨[.bool],[(0,.v 0)],[]⟩
def zjW:CE:=⟨36,zjz,zjy,fun X=>zi4 X.1 X.2⟩
theorem zpQ:CE.ok Try.prog zjW:=CE.of (Γ:=[zfB]) (by kernel_rfl) zaV (GOK.cons zi5 (GOK.nil)) ⟨[],[],[],[]⟩ Try.func36 rfl Try.ntmps36 (rs:=[.tmp 4]) rfl (sig:=zjz) (out:=zjy) rfl Try.call36 (fun X=>by kernel_rfl)

def zlq:Shape:=⟨[Tc2],[(0,.v 0)],[]⟩
def zlp:Shape:=⟨[Tc1],[(0,.addr 0)],[]⟩
def zmD:CE:=⟨13,zlq,zlp,fun X=>zca X⟩
theorem zsd:CE.ok Try.prog zmD:=CE.of (Γ:=[zjW]) (by kernel_rfl) zaV (GOK.cons zpQ (GOK.nil)) ⟨[(3,⟨⟨[(.int .i64),(.int .i64),(.int .i64),Tc5,(.list (.list (.int .i64)))],[(3,.ptr 1 0),(17,.v 0)],[(1,.box 58 [.v 1,.v 2,.v 3,.own 2]),(2,.out 3 25 3 4)]⟩,[5,18,19,20,21,22,23,24,25,26,27,28,29,30,31,32,33,34,35,36,37,38,39,40,41,42,43,44,45,46,47,48,49,50,51,52],[],[0],4,[]⟩),(9,⟨⟨[(.int .i64),(.int .i64),(.int .i64),Tc5,(.list (.list (.int .i64)))],[(3,.ptr 1 0),(56,.own 2),(58,.v 0)],[(1,.box 58 [.v 1,.v 2,.v 3,.own 2]),(2,.out 3 25 3 4)]⟩,[6,7,53,54,55,59,60,61,62,63,64,65,66,67,68,69,70,71,72,73,74],[],[0],4,[]⟩)],[(1,⟨⟨[(.int .i64),(.int .i64),Tc5,(.list (.list (.int .i64)))],[(3,.ptr 1 0)],[(1,.box 58 [.v 0,.v 1,.v 2,.own 2]),(2,.out 3 25 3 3)]⟩,[8,9,10,11,12,13],[],[0],4,[]⟩),(6,⟨⟨[(.int .i64),(.int .i64),Tc5,(.list (.list (.int .i64)))],[(3,.ptr 1 0)],[(1,.box 58 [.v 0,.v 1,.v 2,.own 2]),(2,.out 4 25 3 3)]⟩,[5,19,20,21,22,23,24,25,26,27,28,29,30,31,32,33,34,35,36,37,38,39,40,41,42,43,44,45,46,47,48,49,50,51],[3],[0],5,[]⟩)],[(5,[(0,0),(0,1),(0,2),(0,3),(0,4),(0,5),(0,6),(0,7),(0,8),(0,9),(1,10),(0,11)]),(12,[(0,0),(0,1),(0,2),(0,3),(0,4),(0,5),(2,6),(0,7),(4,8)])],[(1,(.one 1 (.live [3] (.rd 2 [3,4,5,6] (.ban 0 [4,5,6] (.alt 4 3 (.leaf [(1,4),(1,5),(0,6)]) .stop) (.alt 4 3 (.leaf [(0,0),(1,4),(1,5),(0,6)]) .stop)))))),(6,(.one 0 (.one 1 (.one 2 (.one 4 (.one 6 (.one 7 (.one 8 (.one 10 (.one 14 (.live [17,19] (.rd 9 [12,13,17,18,19] (.rd 11 [12,13,17,18,19] (.one 12 (.rd 13 [17,18,19] (.rd 15 [16,17,18,19] (.ban 3 [18,19] (.ban 5 [18,19] (.alt 1 16 (.alt 4 17 (.leaf [(0,18),(4,19)]) .stop) .stop) (.alt 1 16 (.alt 4 17 (.leaf [(0,5),(0,18),(4,19)]) .stop) .stop)) (.ban 5 [18,19] (.alt 1 16 (.alt 4 17 (.leaf [(0,3),(0,18),(4,19)]) .stop) .stop) (.alt 1 16 (.alt 4 17 (.leaf [(0,3),(0,5),(0,18),(4,19)]) .stop) .stop)))))))))))))))))))]⟩ Try.func13 rfl Try.ntmps13 (rs:=[.tmp 2]) rfl (sig:=zlq) (out:=zlp) rfl Try.call13 (fun X=>by kernel_rfl)

def zge:Shape:=⟨[(.int .i64),(.tree (.pair (.int .u8) (.pair .bool (.pair (.int .i64) .unit))))],[(0,.v 0),(1,.addr 1)],[]⟩
def zgd:Shape:=⟨[.bool],[(0,.v 0)],[]⟩
def zhf:CE:=⟨38,zge,zgd,fun X=>zdQ X.1 X.2⟩
theorem zmv:CE.ok Try.prog zhf:=CE.of (Γ:=[]) (by kernel_rfl) zaV (GOK.nil) ⟨[],[],[],[]⟩ Try.func38 rfl Try.ntmps38 (rs:=[.tmp 3]) rfl (sig:=zge) (out:=zgd) rfl Try.call38 (fun X=>by kernel_rfl)

def ziz:Shape:=⟨[Tc1,(.tree (.pair (.int .u8) (.pair .bool (.pair (.int .i64) .unit))))],[(0,.addr 0),(1,.fn 38 [.addr 1])],[]⟩
def ziy:Shape:=⟨[(.list .bool)],[(0,.own 0)],[(0,.arr 4 0)]⟩
def zjj:CE:=⟨37,ziz,ziy,fun X=>zdJ X.1 X.2⟩
theorem zos:CE.ok Try.prog zjj:=CE.of (Γ:=[zhf]) (by kernel_rfl) zaV (GOK.cons zmv (GOK.nil)) ⟨[(3,⟨⟨[(.int .i64),(.list .bool)],[(5,.own 0),(15,.v 0)],[(0,.arr 4 1)]⟩,[6,12,13,16,17,18,19,20,21,22,23,24],[],[],1,[]⟩)],[],[],[]⟩ Try.func37 rfl Try.ntmps37 (rs:=[.tmp 4]) rfl (sig:=ziz) (out:=ziy) rfl Try.call37 (fun X=>by kernel_rfl)

def zff:Shape:=⟨[Tc6,(.int .i64),(.tree (.pair (.int .u8) (.pair .bool (.pair (.int .i64) .unit))))],[(0,.v 0),(1,.addr 1),(2,.addr 2)],[]⟩
def zfe:Shape:=⟨[.bool],[(0,.v 0)],[]⟩
def zfN:CE:=⟨40,zff,zfe,fun X=>zch X.1 X.2.1 X.2.2⟩
theorem zli:CE.ok Try.prog zfN:=CE.of (Γ:=[]) (by kernel_rfl) zaV (GOK.nil) ⟨[],[],[(1,[(0,0),(0,1),(0,2),(0,3),(0,4),(0,5),(0,6),(0,7),(0,8),(0,9),(0,10),(0,11),(0,12),(0,13)])],[]⟩ Try.func40 rfl Try.ntmps40 (rs:=[.tmp 4]) rfl (sig:=zff) (out:=zfe) rfl Try.call40 (fun X=>by kernel_rfl)

def ziO:Shape:=⟨[Tc5,(.int .i64),(.tree (.pair (.int .u8) (.pair .bool (.pair (.int .i64) .unit))))],[(0,.v 0),(1,.fn 40 [.addr 1,.addr 2])],[]⟩
def ziN:Shape:=⟨[(.int .i64)],[(0,.v 0)],[]⟩
def zjC:CE:=⟨63,ziO,ziN,fun X=>zif X.1 X.2.1 X.2.2⟩
theorem zph:CE.ok Try.prog zjC:=CE.of (Γ:=[zfN]) (by kernel_rfl) zaV (GOK.cons zli (GOK.nil)) ⟨[(2,⟨⟨[(.int .i64)],[(8,.v 0)],[]⟩,[4,5,9,10,11,12,13,14,15,16,17,18],[],[],0,[]⟩)],[],[],[]⟩ Try.func63 rfl Try.ntmps63 (rs:=[.tmp 4]) rfl (sig:=ziO) (out:=ziN) rfl Try.call63 (fun X=>by kernel_rfl)

def zgy:Shape:=⟨[Tc5,(.int .i64),(.tree (.pair (.int .u8) (.pair .bool (.pair (.int .i64) .unit))))],[(0,.v 0),(1,.fn 40 [.addr 1,.addr 2])],[]⟩
def zgx:Shape:=⟨[.bool],[(0,.v 0)],[]⟩
def zht:CE:=⟨29,zgy,zgx,fun X=>zd3 X.1 X.2.1 X.2.2⟩
theorem zmX:CE.ok Try.prog zht:=CE.of (Γ:=[zjC]) (by kernel_rfl) zaV (GOK.cons zph (GOK.nil)) ⟨[],[],[],[]⟩ Try.func29 rfl Try.ntmps29 (rs:=[.tmp 4]) rfl (sig:=zgy) (out:=zgx) rfl Try.call29 (fun X=>by kernel_rfl)

def zgg:Shape:=⟨[(.int .i64),(.tree (.pair (.int .u8) (.pair .bool (.pair (.int .i64) .unit)))),Tc1],[(0,.v 0),(1,.ptr 100000 0),(2,.addr 1)],[(100000,.box 52 [.addr 2])]⟩
def zgf:Shape:=⟨[.bool,Tc1],[(0,.v 0)],[(100000,.box 52 [.addr 1])]⟩
def zhg:CE:=⟨39,zgg,zgf,fun X=>zdR X.1 X.2.1 X.2.2⟩
theorem zmw:CE.ok Try.prog zhg:=CE.of (Γ:=[zht]) (by kernel_rfl) zaV (GOK.cons zmX (GOK.nil)) ⟨[],[],[],[]⟩ Try.func39 rfl Try.ntmps39 (rs:=[.tmp 4]) rfl (sig:=zgg) (out:=zgf) rfl Try.call39 (fun X=>by kernel_rfl)

def zgW:Shape:=⟨[Tc1,(.tree (.pair (.int .u8) (.pair .bool (.pair (.int .i64) .unit)))),Tc1],[(0,.addr 0),(1,.fn 39 [.ptr 100000 0,.addr 1])],[(100000,.box 52 [.addr 2])]⟩
def zgV:Shape:=⟨[(.list .bool),Tc1],[(0,.own 0)],[(0,.arr 4 0),(100000,.box 52 [.addr 1])]⟩
def zhC:CE:=⟨37,zgW,zgV,fun X=>zej X.1 X.2.1 X.2.2⟩
theorem znc:CE.ok Try.prog zhC:=CE.of (Γ:=[zhg]) (by kernel_rfl) zaV (GOK.cons zmw (GOK.nil)) ⟨[(3,⟨⟨[(.tree (.pair (.int .u8) (.pair .bool (.pair (.int .i64) .unit)))),(.int .i64),Tc1,(.list .bool)],[(1,.fn 39 [.ptr 100000 0,.addr 0]),(5,.own 0),(15,.v 1)],[(100000,.box 52 [.addr 2]),(0,.arr 4 3)]⟩,[6,12,13,16,17,18,19,20,21,22,23,24],[],[],1,[]⟩)],[],[],[]⟩ Try.func37 rfl Try.ntmps37 (rs:=[.tmp 4]) rfl (sig:=zgW) (out:=zgV) rfl Try.call37 (fun X=>by kernel_rfl)

def zn1:Shape:=⟨[(.list .bool)],[(0,.v 0)],[]⟩
def zn0:Shape:=⟨[(.list .bool)],[(0,.own 0)],[(0,.arr 4 0)]⟩
def zib:CE:=⟨53,zn1,zn0,fun X=>zhs X⟩
theorem zkS:CE.ok Try.prog zib:=CE.of (Γ:=[]) (by kernel_rfl) zaV (GOK.nil) ⟨[],[],[],[]⟩ Try.func53 rfl Try.ntmps53 (rs:=[.tmp 2]) rfl (sig:=zn1) (out:=zn0) rfl Try.call53 (fun X=>by kernel_rfl)

def zpY:Shape:=⟨[(.list .bool)],[(0,.v 0)],[]⟩
def zpX:Shape:=⟨[(.list .bool)],[(0,.own 0)],[(0,.arr 4 0)]⟩
def zqK:CE:=⟨41,zpY,zpX,fun X=>zcR X⟩
theorem zvM:CE.ok Try.prog zqK:=CE.of (Γ:=[zib]) (by kernel_rfl) zaV (GOK.cons zkS (GOK.nil)) ⟨[(3,⟨⟨[(.int .i64),(.list .bool)],[(3,.own 0),(10,.v 0)],[(0,.arr 4 1)]⟩,[4,5,7,11,12,13,14,15,16,17,18,19,20],[],[],1,[]⟩)],[],[],[]⟩ Try.func41 rfl Try.ntmps41 (rs:=[.tmp 2]) rfl (sig:=zpY) (out:=zpX) rfl Try.call41 (fun X=>by kernel_rfl)

def zgi:Shape:=⟨[(.int .i64),(.list .bool),(.list .bool)],[(0,.v 0),(1,.addr 1),(2,.addr 2)],[]⟩
def zgh:Shape:=⟨[.bool],[(0,.v 0)],[]⟩
def zhh:CE:=⟨42,zgi,zgh,fun X=>zdS X.1 X.2.1 X.2.2⟩
theorem zmx:CE.ok Try.prog zhh:=CE.of (Γ:=[]) (by kernel_rfl) zaV (GOK.nil) ⟨[],[],[],[]⟩ Try.func42 rfl Try.ntmps42 (rs:=[.tmp 4]) rfl (sig:=zgi) (out:=zgh) rfl Try.call42 (fun X=>by kernel_rfl)

def zgY:Shape:=⟨[Tc1,(.list .bool),(.list .bool)],[(0,.addr 0),(1,.fn 42 [.addr 1,.addr 2])],[]⟩
def zgX:Shape:=⟨[(.list .bool)],[(0,.own 0)],[(0,.arr 4 0)]⟩
def zhD:CE:=⟨37,zgY,zgX,fun X=>zek X.1 X.2.1 X.2.2⟩
theorem znd:CE.ok Try.prog zhD:=CE.of (Γ:=[zhh]) (by kernel_rfl) zaV (GOK.cons zmx (GOK.nil)) ⟨[(3,⟨⟨[(.int .i64),(.list .bool)],[(5,.own 0),(15,.v 0)],[(0,.arr 4 1)]⟩,[6,12,13,16,17,18,19,20,21,22,23,24],[],[],1,[]⟩)],[],[],[]⟩ Try.func37 rfl Try.ntmps37 (rs:=[.tmp 4]) rfl (sig:=zgY) (out:=zgX) rfl Try.call37 (fun X=>by kernel_rfl)

def zgk:Shape:=⟨[(.int .i64),(.list .bool),(.list .bool)],[(0,.v 0),(1,.addr 1),(2,.addr 2)],[]⟩
def zgj:Shape:=⟨[.bool],[(0,.v 0)],[]⟩
def zhi:CE:=⟨43,zgk,zgj,fun X=>zdT X.1 X.2.1 X.2.2⟩
theorem zmy:CE.ok Try.prog zhi:=CE.of (Γ:=[]) (by kernel_rfl) zaV (GOK.nil) ⟨[],[],[],[]⟩ Try.func43 rfl Try.ntmps43 (rs:=[.tmp 4]) rfl (sig:=zgk) (out:=zgj) rfl Try.call43 (fun X=>by kernel_rfl)

def zg0:Shape:=⟨[Tc1,(.list .bool),(.list .bool)],[(0,.addr 0),(1,.fn 43 [.addr 1,.addr 2])],[]⟩
def zgZ:Shape:=⟨[(.list .bool)],[(0,.own 0)],[(0,.arr 4 0)]⟩
def zhE:CE:=⟨37,zg0,zgZ,fun X=>zel X.1 X.2.1 X.2.2⟩
theorem zne:CE.ok Try.prog zhE:=CE.of (Γ:=[zhi]) (by kernel_rfl) zaV (GOK.cons zmy (GOK.nil)) ⟨[(3,⟨⟨[(.int .i64),(.list .bool)],[(5,.own 0),(15,.v 0)],[(0,.arr 4 1)]⟩,[6,12,13,16,17,18,19,20,21,22,23,24],[],[],1,[]⟩)],[],[],[]⟩ Try.func37 rfl Try.ntmps37 (rs:=[.tmp 4]) rfl (sig:=zg0) (out:=zgZ) rfl Try.call37 (fun X=>by kernel_rfl)

def zf6:Shape:=⟨[(.int .i64),(.list .bool)],[(0,.v 0),(1,.addr 1)],[]⟩
def zf5:Shape:=⟨[.bool],[(0,.v 0)],[]⟩
def zg9:CE:=⟨71,zf6,zf5,fun X=>zcL X.1 X.2⟩
theorem zmq:CE.ok Try.prog zg9:=CE.of (Γ:=[]) (by kernel_rfl) zaV (GOK.nil) ⟨[],[],[],[]⟩ Try.func71 rfl Try.ntmps71 (rs:=[.tmp 3]) rfl (sig:=zf6) (out:=zf5) rfl Try.call71 (fun X=>by kernel_rfl)

def ziQ:Shape:=⟨[(.list (.int .i64)),(.list .bool)],[(0,.v 0),(1,.fn 71 [.addr 1])],[]⟩
def ziP:Shape:=⟨[(.int .i64)],[(0,.v 0)],[]⟩
def zjD:CE:=⟨15,ziQ,ziP,fun X=>zih X.1 X.2⟩
theorem zpi:CE.ok Try.prog zjD:=CE.of (Γ:=[zg9]) (by kernel_rfl) zaV (GOK.cons zmq (GOK.nil)) ⟨[(2,⟨⟨[(.int .i64)],[(8,.v 0)],[]⟩,[4,5,9,10,11,12,13,14,15,16,17,18],[],[],0,[]⟩)],[],[],[]⟩ Try.func15 rfl Try.ntmps15 (rs:=[.tmp 4]) rfl (sig:=ziQ) (out:=ziP) rfl Try.call15 (fun X=>by kernel_rfl)

def zgA:Shape:=⟨[(.list (.int .i64)),(.list .bool)],[(0,.v 0),(1,.fn 71 [.addr 1])],[]⟩
def zgz:Shape:=⟨[.bool],[(0,.v 0)],[]⟩
def zhu:CE:=⟨70,zgA,zgz,fun X=>zd4 X.1 X.2⟩
theorem zmY:CE.ok Try.prog zhu:=CE.of (Γ:=[zjD]) (by kernel_rfl) zaV (GOK.cons zpi (GOK.nil)) ⟨[],[],[],[]⟩ Try.func70 rfl Try.ntmps70 (rs:=[.tmp 4]) rfl (sig:=zgA) (out:=zgz) rfl Try.call70 (fun X=>by kernel_rfl)

def zhM:Shape:=⟨[Tc1,(.int .i64),(.list .bool)],[(0,.addr 0),(1,.v 1),(2,.v 2)],[]⟩
def zhL:Shape:=⟨[.bool],[(0,.v 0)],[]⟩
def zdx:CE:=⟨48,zhM,zhL,fun X=>zcz X.1 X.2.1 X.2.2⟩
theorem zeV:CE.ok Try.prog zdx:=CE.of (Γ:=[zhu]) (by kernel_rfl) zaV (GOK.cons zmY (GOK.nil)) ⟨[],[],[],[]⟩ Try.func48 rfl Try.ntmps48 (rs:=[.tmp 6]) rfl (sig:=zhM) (out:=zhL) rfl Try.call48 (fun X=>by kernel_rfl)

def zn3:Shape:=⟨[(.list .bool),(.list .bool)],[(0,.v 0),(1,.v 1)],[]⟩
def zn2:Shape:=⟨[.bool],[(0,.v 0)],[]⟩
def zkW:CE:=⟨55,zn3,zn2,fun X=>zjB X.1 X.2⟩
theorem zpg:CE.ok Try.prog zkW:=CE.of (Γ:=[]) (by kernel_rfl) zaV (GOK.nil) ⟨[(4,⟨⟨[(.int .i64)],[(13,.v 0)],[]⟩,[4,5,14,15,16,17,18,19,20,21,22,23,24,25],[],[],0,[]⟩)],[],[(6,[(0,0),(0,1),(0,2),(0,3),(0,4),(0,5),(0,6),(0,7),(0,8)])],[]⟩ Try.func55 rfl Try.ntmps55 (rs:=[.tmp 4]) rfl (sig:=zn3) (out:=zn2) rfl Try.call55 (fun X=>by kernel_rfl)

def zfd:Shape:=⟨[(.int .i64),(.list .bool),Tc1,(.list .bool)],[(0,.v 0),(1,.ptr 100000 0),(2,.ptr 100001 0),(3,.ptr 100002 0)],[(100000,.box 40 [.own 100003]),(100001,.box 40 [.v 1]),(100002,.box 52 [.addr 2]),(100003,.arr 4 3)]⟩
def zfc:Shape:=⟨[.bool,(.list .bool),(.list .bool),Tc1],[(0,.v 0)],[(100000,.box 40 [.own 50]),(50,.arr 4 1),(100001,.box 40 [.v 2]),(100002,.box 52 [.addr 3])]⟩
def zfM:CE:=⟨69,zfd,zfc,fun X=>zc8 X.1 X.2.1 X.2.2.1 X.2.2.2⟩
theorem zlh:CE.ok Try.prog zfM:=CE.of (Γ:=[zdx]) (by kernel_rfl) zaV (GOK.cons zeV (GOK.nil)) ⟨[],[],[],[]⟩ Try.func69 rfl Try.ntmps69 (rs:=[.tmp 5]) rfl (sig:=zfd) (out:=zfc) rfl Try.call69 (fun X=>by kernel_rfl)

def zg2:Shape:=⟨[Tc1,(.list .bool),Tc1,(.list .bool)],[(0,.addr 0),(1,.fn 69 [.ptr 100000 0,.ptr 100001 0,.ptr 100002 0])],[(100000,.box 40 [.own 100003]),(100001,.box 40 [.v 1]),(100002,.box 52 [.addr 2]),(100003,.arr 4 3)]⟩
def zg1:Shape:=⟨[(.list .bool),(.list .bool),(.list .bool),Tc1],[(0,.own 0)],[(0,.arr 4 0),(100000,.box 40 [.own 50]),(50,.arr 4 1),(100001,.box 40 [.v 2]),(100002,.box 52 [.addr 3])]⟩
def zhF:CE:=⟨37,zg2,zg1,fun X=>zem X.1 X.2.1 X.2.2.1 X.2.2.2⟩
theorem znf:CE.ok Try.prog zhF:=CE.of (Γ:=[zfM]) (by kernel_rfl) zaV (GOK.cons zlh (GOK.nil)) ⟨[(3,⟨⟨[(.int .i64),(.list .bool),Tc1,(.list .bool),(.list .bool)],[(1,.fn 69 [.ptr 100000 0,.ptr 100001 0,.ptr 100002 0]),(5,.own 0),(15,.v 0)],[(100000,.box 40 [.own 1]),(100001,.box 40 [.v 1]),(100002,.box 52 [.addr 2]),(0,.arr 4 3),(1,.arr 4 4)]⟩,[6,12,13,16,17,18,19,20,21,22,23,24],[100003],[],2,[]⟩)],[],[],[]⟩ Try.func37 rfl Try.ntmps37 (rs:=[.tmp 4]) rfl (sig:=zg2) (out:=zg1) rfl Try.call37 (fun X=>by kernel_rfl)

def zhU:Shape:=⟨[Tc1,(.list .bool),(.list .bool)],[(0,.addr 0),(1,.v 1),(2,.v 2)],[]⟩
def zhT:Shape:=⟨[(.list .bool)],[(0,.v 0)],[]⟩
def ziG:CE:=⟨44,zhU,zhT,fun X=>zaT X.1 X.2.1 X.2.2⟩
theorem zn9:CE.ok Try.prog ziG:=CE.of (Γ:=[zib,zhF,zkW]) (by kernel_rfl) zaV (GOK.cons zkS (GOK.cons znf (GOK.cons zpg (GOK.nil)))) ⟨[(2,⟨⟨[Tc1,(.list .bool),(.list .bool)],[(3,.ptr 0 0),(4,.ptr 1 0),(7,.ptr 3 0)],[(0,.box 52 [.addr 0]),(1,.box 40 [.v 1]),(3,.box 40 [.own 2]),(2,.arr 4 2)]⟩,[6,8,10,11,12,13,14,15,16,17,18],[],[],4,[]⟩)],[],[],[]⟩ Try.func44 rfl Try.ntmps44 (rs:=[.tmp 6]) rfl (sig:=zhU) (out:=zhT) rfl Try.call44 (fun X=>by kernel_rfl)

def zfK:Shape:=⟨[(.int .i64),Tc1,(.list .bool)],[(0,.v 0),(1,.ptr 100000 0),(2,.ptr 100001 0)],[(100000,.box 40 [.own 100002]),(100001,.box 52 [.addr 1]),(100002,.arr 4 2)]⟩
def zfJ:Shape:=⟨[.bool,(.list .bool),Tc1],[(0,.v 0)],[(100000,.box 40 [.own 50]),(50,.arr 4 1),(100001,.box 52 [.addr 2])]⟩
def zf4:CE:=⟨54,zfK,zfJ,fun X=>zdw X.1 X.2.1 X.2.2⟩
theorem zlX:CE.ok Try.prog zf4:=CE.of (Γ:=[zdx]) (by kernel_rfl) zaV (GOK.cons zeV (GOK.nil)) ⟨[],[],[],[]⟩ Try.func54 rfl Try.ntmps54 (rs:=[.tmp 4]) rfl (sig:=zfK) (out:=zfJ) rfl Try.call54 (fun X=>by kernel_rfl)

def zg4:Shape:=⟨[Tc1,Tc1,(.list .bool)],[(0,.addr 0),(1,.fn 54 [.ptr 100000 0,.ptr 100001 0])],[(100000,.box 40 [.own 100002]),(100001,.box 52 [.addr 1]),(100002,.arr 4 2)]⟩
def zg3:Shape:=⟨[(.list .bool),(.list .bool),Tc1],[(0,.own 0)],[(0,.arr 4 0),(100000,.box 40 [.own 50]),(50,.arr 4 1),(100001,.box 52 [.addr 2])]⟩
def zhG:CE:=⟨37,zg4,zg3,fun X=>zen X.1 X.2.1 X.2.2⟩
theorem zng:CE.ok Try.prog zhG:=CE.of (Γ:=[zf4]) (by kernel_rfl) zaV (GOK.cons zlX (GOK.nil)) ⟨[(3,⟨⟨[(.int .i64),Tc1,(.list .bool),(.list .bool)],[(1,.fn 54 [.ptr 100000 0,.ptr 100001 0]),(5,.own 0),(15,.v 0)],[(100000,.box 40 [.own 1]),(100001,.box 52 [.addr 1]),(0,.arr 4 2),(1,.arr 4 3)]⟩,[6,12,13,16,17,18,19,20,21,22,23,24],[100002],[],2,[]⟩)],[],[],[]⟩ Try.func37 rfl Try.ntmps37 (rs:=[.tmp 4]) rfl (sig:=zg4) (out:=zg3) rfl Try.call37 (fun X=>by kernel_rfl)

def ziB:Shape:=⟨[Tc1,(.list .bool)],[(0,.addr 0),(1,.v 1)],[]⟩
def ziA:Shape:=⟨[(.list .bool)],[(0,.v 0)],[]⟩
def zfa:CE:=⟨19,ziB,ziA,fun X=>zbM X.1 X.2⟩
theorem zjk:CE.ok Try.prog zfa:=CE.of (Γ:=[zib,zhG,zkW]) (by kernel_rfl) zaV (GOK.cons zkS (GOK.cons zng (GOK.cons zpg (GOK.nil)))) ⟨[(2,⟨⟨[Tc1,(.list .bool)],[(2,.ptr 0 0),(5,.ptr 2 0)],[(0,.box 52 [.addr 0]),(2,.box 40 [.own 1]),(1,.arr 4 1)]⟩,[4,6,8,9,10,11,12,13,14,15,16],[],[],3,[]⟩)],[],[],[]⟩ Try.func19 rfl Try.ntmps19 (rs:=[.tmp 4]) rfl (sig:=ziB) (out:=ziA) rfl Try.call19 (fun X=>by kernel_rfl)

def zgm:Shape:=⟨[(.int .i64),(.list .bool),(.list .bool)],[(0,.v 0),(1,.addr 1),(2,.addr 2)],[]⟩
def zgl:Shape:=⟨[.bool],[(0,.v 0)],[]⟩
def zhj:CE:=⟨45,zgm,zgl,fun X=>zdU X.1 X.2.1 X.2.2⟩
theorem zmz:CE.ok Try.prog zhj:=CE.of (Γ:=[]) (by kernel_rfl) zaV (GOK.nil) ⟨[],[],[],[]⟩ Try.func45 rfl Try.ntmps45 (rs:=[.tmp 4]) rfl (sig:=zgm) (out:=zgl) rfl Try.call45 (fun X=>by kernel_rfl)

def zg6:Shape:=⟨[Tc1,(.list .bool),(.list .bool)],[(0,.addr 0),(1,.fn 45 [.addr 1,.addr 2])],[]⟩
def zg5:Shape:=⟨[(.list .bool)],[(0,.own 0)],[(0,.arr 4 0)]⟩
def zhH:CE:=⟨37,zg6,zg5,fun X=>zcw X.1 X.2.1 X.2.2⟩
theorem znh:CE.ok Try.prog zhH:=CE.of (Γ:=[zhj]) (by kernel_rfl) zaV (GOK.cons zmz (GOK.nil)) ⟨[(3,⟨⟨[(.int .i64),(.list .bool)],[(5,.own 0),(15,.v 0)],[(0,.arr 4 1)]⟩,[6,12,13,16,17,18,19,20,21,22,23,24],[],[],1,[]⟩)],[],[],[]⟩ Try.func37 rfl Try.ntmps37 (rs:=[.tmp 4]) rfl (sig:=zg6) (out:=zg5) rfl Try.call37 (fun X=>by kernel_rfl)

def zgo:Shape:=⟨[(.int .i64),(.list .bool),(.list .bool)],[(0,.v 0),(1,.addr 1),(2,.addr 2)],[]⟩
def zgn:Shape:=⟨[.bool],[(0,.v 0)],[]⟩
def zhk:CE:=⟨46,zgo,zgn,fun X=>zdV X.1 X.2.1 X.2.2⟩
theorem zmA:CE.ok Try.prog zhk:=CE.of (Γ:=[]) (by kernel_rfl) zaV (GOK.nil) ⟨[],[],[],[]⟩ Try.func46 rfl Try.ntmps46 (rs:=[.tmp 4]) rfl (sig:=zgo) (out:=zgn) rfl Try.call46 (fun X=>by kernel_rfl)

def zg8:Shape:=⟨[Tc1,(.list .bool),(.list .bool)],[(0,.addr 0),(1,.fn 46 [.addr 1,.addr 2])],[]⟩
def zg7:Shape:=⟨[(.list .bool)],[(0,.own 0)],[(0,.arr 4 0)]⟩
def zhI:CE:=⟨37,zg8,zg7,fun X=>zeo X.1 X.2.1 X.2.2⟩
theorem zni:CE.ok Try.prog zhI:=CE.of (Γ:=[zhk]) (by kernel_rfl) zaV (GOK.cons zmA (GOK.nil)) ⟨[(3,⟨⟨[(.int .i64),(.list .bool)],[(5,.own 0),(15,.v 0)],[(0,.arr 4 1)]⟩,[6,12,13,16,17,18,19,20,21,22,23,24],[],[],1,[]⟩)],[],[],[]⟩ Try.func37 rfl Try.ntmps37 (rs:=[.tmp 4]) rfl (sig:=zg8) (out:=zg7) rfl Try.call37 (fun X=>by kernel_rfl)

def zgq:Shape:=⟨[(.int .i64),(.list .bool),Tc1],[(0,.v 0),(1,.ptr 100000 0),(2,.addr 1)],[(100000,.box 52 [.addr 2])]⟩
def zgp:Shape:=⟨[.bool,Tc1],[(0,.v 0)],[(100000,.box 52 [.addr 1])]⟩
def zhl:CE:=⟨47,zgq,zgp,fun X=>zfg X.1 X.2.1 X.2.2⟩
theorem zmB:CE.ok Try.prog zhl:=CE.of (Γ:=[zdx]) (by kernel_rfl) zaV (GOK.cons zeV (GOK.nil)) ⟨[],[],[],[]⟩ Try.func47 rfl Try.ntmps47 (rs:=[.tmp 4]) rfl (sig:=zgq) (out:=zgp) rfl Try.call47 (fun X=>by kernel_rfl)

def zfU:Shape:=⟨[Tc1,(.list .bool),Tc1],[(0,.addr 0),(1,.fn 47 [.ptr 100000 0,.addr 1])],[(100000,.box 52 [.addr 2])]⟩
def zfT:Shape:=⟨[(.list .bool),Tc1],[(0,.own 0)],[(0,.arr 4 0),(100000,.box 52 [.addr 1])]⟩
def zgT:CE:=⟨37,zfU,zfT,fun X=>zdK X.1 X.2.1 X.2.2⟩
theorem zmk:CE.ok Try.prog zgT:=CE.of (Γ:=[zhl]) (by kernel_rfl) zaV (GOK.cons zmB (GOK.nil)) ⟨[(3,⟨⟨[(.list .bool),(.int .i64),Tc1,(.list .bool)],[(1,.fn 47 [.ptr 100000 0,.addr 0]),(5,.own 0),(15,.v 1)],[(100000,.box 52 [.addr 2]),(0,.arr 4 3)]⟩,[6,12,13,16,17,18,19,20,21,22,23,24],[],[],1,[]⟩)],[],[],[]⟩ Try.func37 rfl Try.ntmps37 (rs:=[.tmp 4]) rfl (sig:=zfU) (out:=zfT) rfl Try.call37 (fun X=>by kernel_rfl)

def zhO:Shape:=⟨[(.int .i64)],[(0,.v 0)],[]⟩
def zhN:Shape:=⟨[.bool],[(0,.v 0)],[]⟩
def ziC:CE:=⟨52,zhO,zhN,fun X=>zgK X⟩
theorem zn8:CE.ok Try.prog ziC:=CE.of (Γ:=[]) (by kernel_rfl) zaV (GOK.nil) ⟨[],[],[],[]⟩ Try.func52 rfl Try.ntmps52 (rs:=[.tmp 2]) rfl (sig:=zhO) (out:=zhN) rfl Try.call52 (fun X=>by kernel_rfl)

def zfW:Shape:=⟨[Tc1],[(0,.addr 0),(1,.fn 52 [])],[]⟩
def zfV:Shape:=⟨[(.list .bool)],[(0,.own 0)],[(0,.arr 4 0)]⟩
def zgU:CE:=⟨37,zfW,zfV,fun X=>zdL X⟩
theorem zml:CE.ok Try.prog zgU:=CE.of (Γ:=[ziC]) (by kernel_rfl) zaV (GOK.cons zn8 (GOK.nil)) ⟨[(3,⟨⟨[(.int .i64),(.list .bool)],[(5,.own 0),(15,.v 0)],[(0,.arr 4 1)]⟩,[6,12,13,16,17,18,19,20,21,22,23,24],[],[],1,[]⟩)],[],[],[]⟩ Try.func37 rfl Try.ntmps37 (rs:=[.tmp 4]) rfl (sig:=zfW) (out:=zfV) rfl Try.call37 (fun X=>by kernel_rfl)

def zjm:Shape:=⟨[Tc1],[(0,.addr 0)],[]⟩
def zjl:Shape:=⟨[(.list .bool)],[(0,.own 0)],[(0,.arr 4 0)]⟩
def zfO:CE:=⟨18,zjm,zjl,fun X=>zb7 X⟩
theorem zjP:CE.ok Try.prog zfO:=CE.of (Γ:=[zgU]) (by kernel_rfl) zaV (GOK.cons zml (GOK.nil)) ⟨[],[],[],[]⟩ Try.func18 rfl Try.ntmps18 (rs:=[.tmp 2]) rfl (sig:=zjm) (out:=zjl) rfl Try.call18 (fun X=>by kernel_rfl)

def zhW:Shape:=⟨[Tc1,(.tree (.pair (.int .u8) (.pair .bool (.pair (.int .i64) .unit))))],[(0,.addr 0),(1,.v 1)],[]⟩
def zhV:Shape:=⟨[(.list .bool)],[(0,.v 0)],[]⟩
def ziH:CE:=⟨14,zhW,zhV,LFix zdW⟩
theorem zob:CE.ok Try.prog ziH:=CE.ofRec (Γ:=[zjj,zhC,zqK,zhD,zhE,ziG,zfa,zhH,zhI,zgT,zfO]) (by kernel_rfl) zaV (GOK.cons zos (GOK.cons znc (GOK.cons zvM (GOK.cons znd (GOK.cons zne (GOK.cons zn9 (GOK.cons zjk (GOK.cons znh (GOK.cons zni (GOK.cons zmk (GOK.cons zjP (GOK.nil)))))))))))) ⟨[],[(3,⟨⟨[.bool],[(14,.v 0)],[]⟩,[15,16],[],[0,1],2,[]⟩),(7,⟨⟨[(.list .bool)],[(5,.ptr 2 0)],[(2,.box 40 [.v 0])]⟩,[25,26,27,28,29,30,31,32],[],[0,1],3,[]⟩),(13,⟨⟨[.bool],[(41,.v 0)],[]⟩,[42,43,44],[],[0,1,2],3,[]⟩),(14,⟨⟨[(.list .bool)],[(6,.ptr 3 0)],[(3,.box 40 [.v 0])]⟩,[45,46,47,48,49,50,51,52],[],[0,1,2],4,[]⟩),(21,⟨⟨[(.list .bool)],[(7,.ptr 4 0)],[(4,.box 40 [.v 0])]⟩,[81,82,83,84],[],[0,1,2,3],5,[]⟩),(22,⟨⟨[(.list .bool)],[(8,.ptr 5 0)],[(5,.box 40 [.v 0])]⟩,[85,86,87,88,89,90,91],[],[0,1,2,3,4],6,[]⟩),(25,⟨⟨[(.list .bool)],[(5,.ptr 2 0)],[(2,.box 40 [.v 0])]⟩,[95,96,97,98,99,100],[3],[0,1],3,[(2,0,none,.bool)]⟩)],[(30,[(0,0),(0,1),(0,2),(0,3),(0,4),(0,5),(0,6),(0,7),(0,8),(0,9),(0,10)]),(31,[(0,0),(0,1),(0,3),(1,2),(1,4),(0,5)])],[(7,(.live [7,9] (.rd 0 [7,9] (.rd 1 [2,3,4,5,6,7,9] (.one 2 (.one 3 (.rd 4 [5,6,7,9] (.one 5 (.rd 6 [7,9] (.alt 2 7 (.leaf [(1,8),(2,9)]) (.alt 1 8 (.alt 2 7 (.leaf [(2,9)]) .stop) .stop))))))))))),(14,(.live [7,9] (.rd 0 [7,9] (.rd 1 [2,3,4,5,6,7,9] (.one 2 (.one 3 (.rd 4 [5,6,7,9] (.one 5 (.rd 6 [7,9] (.alt 2 7 (.leaf [(1,8),(2,9)]) (.alt 1 8 (.alt 2 7 (.leaf [(2,9)]) .stop) .stop))))))))))),(21,(.live [3,5] (.rd 0 [3,5] (.rd 1 [2,3,5] (.alt 1 2 (.alt 2 3 (.leaf [(1,4),(2,5)]) (.alt 1 4 (.alt 2 3 (.leaf [(2,5)]) .stop) .stop)) (.alt 1 4 (.alt 1 2 (.alt 2 3 (.leaf [(2,5)]) .stop) .stop) .stop)))))),(22,(.one 4 (.live [6,8] (.rd 0 [6,8] (.rd 1 [2,5,6,8] (.rd 3 [5,6,8] (.alt 1 2 (.alt 1 5 (.alt 2 6 (.leaf [(1,7),(2,8)]) (.alt 1 7 (.alt 2 6 (.leaf [(2,8)]) .stop) .stop)) (.alt 1 7 (.alt 1 5 (.alt 2 6 (.leaf [(2,8)]) .stop) .stop) .stop)) (.alt 1 7 (.alt 1 2 (.alt 1 5 (.alt 2 6 (.leaf [(2,8)]) .stop) .stop) .stop) .stop))))))))]⟩ Try.func14 rfl Try.ntmps14 (rs:=[.tmp 4]) rfl (sig:=zhW) (out:=zhV) rfl Try.call14 (d:=zdW) (fun rc X=>by kernel_rfl)

def zmg:Shape:=⟨[(.int .i64),(.list .bool)],[(0,.v 0),(1,.addr 1)],[]⟩
def zmf:Shape:=⟨[.bool],[(0,.v 0)],[]⟩
def znH:CE:=⟨16,zmg,zmf,fun X=>zhy X.1 X.2⟩
theorem ztf:CE.ok Try.prog znH:=CE.of (Γ:=[]) (by kernel_rfl) zaV (GOK.nil) ⟨[],[],[],[]⟩ Try.func16 rfl Try.ntmps16 (rs:=[.tmp 3]) rfl (sig:=zmg) (out:=zmf) rfl Try.call16 (fun X=>by kernel_rfl)

def ziS:Shape:=⟨[(.list (.int .i64)),(.list .bool)],[(0,.v 0),(1,.fn 16 [.addr 1])],[]⟩
def ziR:Shape:=⟨[(.int .i64)],[(0,.v 0)],[]⟩
def zjE:CE:=⟨15,ziS,ziR,fun X=>zlQ X.1 X.2⟩
theorem zpj:CE.ok Try.prog zjE:=CE.of (Γ:=[znH]) (by kernel_rfl) zaV (GOK.cons ztf (GOK.nil)) ⟨[(2,⟨⟨[(.int .i64)],[(8,.v 0)],[]⟩,[4,5,9,10,11,12,13,14,15,16,17,18],[],[],0,[]⟩)],[],[],[]⟩ Try.func15 rfl Try.ntmps15 (rs:=[.tmp 4]) rfl (sig:=ziS) (out:=ziR) rfl Try.call15 (fun X=>by kernel_rfl)

def zga:Shape:=⟨[(.int .i64),(.list .bool)],[(0,.v 0),(1,.addr 1)],[]⟩
def zf9:Shape:=⟨[.bool],[(0,.v 0)],[]⟩
def zhb:CE:=⟨49,zga,zf9,fun X=>zbi X.1 X.2⟩
theorem zmu:CE.ok Try.prog zhb:=CE.of (Γ:=[]) (by kernel_rfl) zaV (GOK.nil) ⟨[],[],[],[]⟩ Try.func49 rfl Try.ntmps49 (rs:=[.tmp 3]) rfl (sig:=zga) (out:=zf9) rfl Try.call49 (fun X=>by kernel_rfl)

def ziU:Shape:=⟨[(.list (.int .i64)),(.list .bool)],[(0,.v 0),(1,.fn 49 [.addr 1])],[]⟩
def ziT:Shape:=⟨[(.int .i64)],[(0,.v 0)],[]⟩
def zft:CE:=⟨15,ziU,ziT,fun X=>zd8 X.1 X.2⟩
theorem zjF:CE.ok Try.prog zft:=CE.of (Γ:=[zhb]) (by kernel_rfl) zaV (GOK.cons zmu (GOK.nil)) ⟨[(2,⟨⟨[(.int .i64)],[(8,.v 0)],[]⟩,[4,5,9,10,11,12,13,14,15,16,17,18],[],[],0,[]⟩)],[],[],[]⟩ Try.func15 rfl Try.ntmps15 (rs:=[.tmp 4]) rfl (sig:=ziU) (out:=ziT) rfl Try.call15 (fun X=>by kernel_rfl)

def zlO:Shape:=⟨[(.list (.int .i64))],[(0,.v 0)],[]⟩
def zlN:Shape:=⟨[(.list (.int .i64))],[(0,.own 0)],[(0,.arr 3 0)]⟩
def zi3:CE:=⟨51,zlO,zlN,fun X=>zei X⟩
theorem zmW:CE.ok Try.prog zi3:=CE.of (Γ:=[]) (by kernel_rfl) zaV (GOK.nil) ⟨[],[],[],[]⟩ Try.func51 rfl Try.ntmps51 (rs:=[.tmp 2]) rfl (sig:=zlO) (out:=zlN) rfl Try.call51 (fun X=>by kernel_rfl)

def zhS:Shape:=⟨[Tc1,(.list (.int .i64)),(.list .bool)],[(0,.addr 0),(1,.own 100000),(2,.own 100001)],[(100000,.arr 3 1),(100001,.arr 4 2)]⟩
def zhR:Shape:=⟨[(.pair (.list (.int .i64)) (.pair (.list (.int .i64)) .unit)),(.list .bool)],[(0,.v 0)],[(100001,.arr 4 1)]⟩
def ziF:CE:=⟨17,zhS,zhR,fun X=>zcA X.1 X.2.1 X.2.2⟩
theorem zeW:CE.ok Try.prog ziF:=CE.of (Γ:=[zft,zfB,zi3]) (by kernel_rfl) zaV (GOK.cons zjF (GOK.cons zi5 (GOK.cons zmW (GOK.nil)))) ⟨[(1,⟨⟨[(.list (.int .i64))],[(1,.own 2)],[(2,.arr 3 0)]⟩,[7,8,9,10,11,12,13,14,15,16,17,18,19,20,21,22,23,24,25,26,27,28,29,30,31,32,33,34,35,36,37,38,39,40,41,42,43,44,45,46,47,48,49,50,51,52,53],[100000],[0,1],3,[]⟩)],[],[(6,[(0,0),(0,1),(0,2),(0,4),(0,5),(0,6),(1,3),(1,7),(0,8),(2,9)])],[]⟩ Try.func17 rfl Try.ntmps17 (rs:=[.cell 6 27]) rfl (sig:=zhS) (out:=zhR) rfl Try.call17 (fun X=>by kernel_rfl)

def zgc:Shape:=⟨[Tc1,(.list .bool),(.list (.int .i64))],[(0,.addr 0),(1,.own 100000),(2,.v 1)],[(100000,.arr 3 2)]⟩
def zgb:Shape:=⟨[(.pair (.list (.int .i64)) (.pair (.list (.int .i64)) .unit))],[(0,.v 0)],[]⟩
def zhc:CE:=⟨17,zgc,zgb,fun X=>zdP X.1 X.2.1 X.2.2⟩
theorem zet:CE.ok Try.prog zhc:=CE.of (Γ:=[zft,zfB,zi3]) (by kernel_rfl) zaV (GOK.cons zjF (GOK.cons zi5 (GOK.cons zmW (GOK.nil)))) ⟨[(1,⟨⟨[(.list (.int .i64))],[(1,.own 2)],[(2,.arr 3 0)]⟩,[7,8,9,10,11,12,13,14,15,16,17,18,19,20,21,22,23,24,25,26,27,28,29,30,31,32,33,34,35,36,37,38,39,40,41,42,43,44,45,46,47,48,49,50,51,52,53],[100000],[0,1],3,[]⟩)],[],[(6,[(0,0),(0,1),(0,2),(0,4),(0,5),(0,6),(1,3),(1,7),(0,8),(2,9)])],[]⟩ Try.func17 rfl Try.ntmps17 (rs:=[.cell 6 27]) rfl (sig:=zgc) (out:=zgb) rfl Try.call17 (fun X=>by kernel_rfl)

def zlU:Shape:=⟨[(.list (.int .i64))],[(0,.own 100000)],[(100000,.arr 3 0)]⟩
def zlT:Shape:=⟨[(.list (.int .i64))],[],[(100000,.arr 3 0)]⟩
def zm9:CE:=⟨56,zlU,zlT,fun X=>zja X⟩
theorem zsw:CE.ok Try.prog zm9:=CE.of (Γ:=[]) (by kernel_rfl) zaV (GOK.nil) ⟨[(1,⟨⟨[(.int .i64),(.int .i64),(.list (.int .i64))],[(0,.own 100000),(2,.v 0),(3,.v 1)],[(100000,.arr 3 2)]⟩,[7,8,9,10,11,12,13,14,15,16,17,18,19,20,21,22,23,24,25,26,27],[],[],0,[]⟩)],[],[(3,[(0,0),(0,1),(0,2),(0,3),(0,4),(0,5),(0,6),(0,7),(0,8),(0,9),(0,10),(0,11),(0,12),(2,13),(0,14),(2,15)])],[]⟩ Try.func56 rfl Try.ntmps56 (rs:=[]) rfl (sig:=zlU) (out:=zlT) rfl Try.call56 (fun X=>by kernel_rfl)

def ziE:Shape:=⟨[Tc1,(.int .i64),(.list .bool),(.list .bool)],[(0,.addr 0),(1,.v 1),(2,.v 2),(3,.v 3)],[]⟩
def ziD:Shape:=⟨[(.list (.int .i64))],[(0,.own 0)],[(0,.arr 3 0)]⟩
def zjn:CE:=⟨20,ziE,ziD,fun X=>zdO X.1 X.2.1 X.2.2.1 X.2.2.2⟩
theorem zot:CE.ok Try.prog zjn:=CE.of (Γ:=[zm9]) (by kernel_rfl) zaV (GOK.cons zsw (GOK.nil)) ⟨[(4,⟨⟨[(.list (.int .i64)),(.list (.int .i64)),(.list (.int .i64))],[(9,.own 0),(10,.own 1)],[(0,.box 92 [.v 0,.v 1]),(1,.arr 3 2)]⟩,[8,11,12,13,15,16,17,18,20,22,23,24,25,26,27,28,29,30,31,32,33,34,35,36,37,38,39,40,41,42,43,44,45,46,47,48,49,50,51,52,53,54,55,56,57,58,59,60,61,62,63,64,65,66,67,68,69,70,71,72,73,74,75,76,77,78,79,80,81,82,83,84],[],[],2,[]⟩),(8,⟨⟨[(.int .i64),(.list (.int .i64))],[(12,.own 2),(13,.v 0)],[(2,.arr 3 1)]⟩,[33,34,35,36,37,38,39,40,41],[],[0,1],3,[]⟩),(14,⟨⟨[(.int .i64),(.list (.int .i64)),(.list (.int .i64)),(.list (.int .i64))],[(9,.own 0),(10,.own 1),(53,.v 0)],[(0,.box 92 [.v 1,.v 2]),(1,.arr 3 3)]⟩,[15,16,17,25,26,54,55,56,57,58,59,60,61,62,63,64,65,66,67,68,69,70,71,72,73,74,75,76,77,78,79,80,81,82,83,84],[],[],2,[]⟩)],[(17,⟨⟨[.bool],[(76,.v 0)],[]⟩,[63,64,65,66,67,68,69,70,71,72,73,74,75],[],[0,1],2,[]⟩),(19,⟨⟨[(.list (.int .i64)),(.list (.int .i64)),(.list (.int .i64))],[(9,.own 0),(10,.own 2)],[(0,.box 92 [.v 0,.v 1]),(2,.arr 3 2)]⟩,[15,16,17,55,56,57,58,59,60,61,62,63,64,65,66,67,68,69,70,71,72,73,74,75,76,77,78,79,80,81,82,83],[1],[],3,[]⟩)],[(3,[(0,0),(1,1),(0,2)])],[]⟩ Try.func20 rfl Try.ntmps20 (rs:=[.tmp 8]) rfl (sig:=ziE) (out:=ziD) rfl Try.call20 (fun X=>by kernel_rfl)

def zok:Shape:=⟨[Tc2,.str,(.int .i64)],[(0,.v 0),(1,.v 1),(2,.v 2)],[]⟩
def zoj:Shape:=⟨[(.pair (.list (.int .i64)) (.pair (.list (.int .i64)) .unit)),.bool,(.int .i64)],[(0,.v 0),(1,.v 1),(2,.v 2)],[]⟩
def zpW:CE:=⟨4,zok,zoj,fun X=>zaM X.1 X.2.1 X.2.2⟩
theorem zuT:CE.ok Try.prog zpW:=CE.of (Γ:=[ziF,zhc,zr0,zom,zlP,zmD,ziH,zjE,zfO,zfa,zjn]) (by kernel_rfl) zaV (GOK.cons zeW (GOK.cons zet (GOK.cons zwD (GOK.cons ztU (GOK.cons zr2 (GOK.cons zsd (GOK.cons zob (GOK.cons zpj (GOK.cons zjP (GOK.cons zjk (GOK.cons zot (GOK.nil)))))))))))) ⟨[],[],[(25,[(0,0),(0,1),(0,2),(0,3),(0,5),(0,7),(1,4),(1,6),(1,8),(2,9),(2,10),(0,11),(0,12)]),(26,[(0,0),(0,1),(0,2),(0,3),(0,4),(0,5),(0,6),(0,7),(0,8),(0,9),(0,10),(0,13),(1,11),(1,12),(1,14),(2,15),(2,16),(0,17),(0,18)])],[]⟩ Try.func4 rfl Try.ntmps4 (rs:=[.cell 6 27,.tmp 7,.tmp 8]) rfl (sig:=zok) (out:=zoj) rfl Try.call4 (fun X=>by kernel_rfl)

def zoF:Shape:=⟨[(.pair (.list (.int .i64)) (.pair (.list (.int .i64)) .unit))],[(0,.v 0)],[]⟩
def zoE:Shape:=⟨[.bool],[(0,.v 0)],[]⟩
def zp3:CE:=⟨5,zoF,zoE,fun X=>zfi X⟩
theorem zu1:CE.ok Try.prog zp3:=CE.of (Γ:=[]) (by kernel_rfl) zaV (GOK.nil) ⟨[],[],[],[]⟩ Try.func5 rfl Try.ntmps5 (rs:=[.tmp 2]) rfl (sig:=zoF) (out:=zoE) rfl Try.call5 (fun X=>by kernel_rfl)

def zro:Shape:=⟨[Tc6,Tc6],[(0,.v 0),(1,.v 1)],[]⟩
def zrn:Shape:=⟨[.bool],[(0,.v 0)],[]⟩
def zsT:CE:=⟨21,zro,zrn,fun X=>zrm X.1 X.2⟩
theorem zxq:CE.ok Try.prog zsT:=CE.of (Γ:=[]) (by kernel_rfl) zaV (GOK.nil) ⟨[],[],[],[]⟩ Try.func21 rfl Try.ntmps21 (rs:=[.tmp 4]) rfl (sig:=zro) (out:=zrn) rfl Try.call21 (fun X=>by kernel_rfl)

def zrv:Shape:=⟨[Tc2],[(0,.v 0)],[]⟩
def zru:Shape:=⟨[(.int .i64)],[(0,.v 0)],[]⟩
def zsV:CE:=⟨6,zrv,zru,fun X=>zrr X⟩
theorem zxr:CE.ok Try.prog zsV:=CE.of (Γ:=[zsT]) (by kernel_rfl) zaV (GOK.cons zxq (GOK.nil)) ⟨[(6,⟨⟨[(.int .i64)],[(3,.v 0)],[]⟩,[2,4,29,30,31,32,33,34,35,36,37,38,39,40,41,42,43,44,45,46,47,48,49,50,51,52,53,54,55,56,57,58,59,60,61,62,63,64,65,66,67,68,69,70,71,72,73,74],[],[0],1,[]⟩),(12,⟨⟨[(.int .i64)],[(5,.v 0)],[]⟩,[2,6,75,76,77,78,79,80,81,82,83,84,85,86,87,88,89,90,91,92,93,94,95],[],[0],1,[]⟩)],[],[(14,[(0,0),(0,1),(0,2),(0,3),(0,4),(0,5),(0,6),(0,7),(0,8),(0,9),(0,10),(1,11),(0,12)])],[]⟩ Try.func6 rfl Try.ntmps6 (rs:=[.tmp 2]) rfl (sig:=zrv) (out:=zru) rfl Try.call6 (fun X=>by kernel_rfl)

def zmR:Shape:=⟨[(.pair .str (.pair (.int .i64) (.pair (.int .i64) (.pair (.int .i64) (.pair (.list (.pair (.int .u8) (.pair .bool Tc6))) (.pair Tc7 .unit))))))],[(0,.addr 0)],[]⟩
def zmQ:Shape:=⟨[.bool],[(0,.v 0)],[]⟩
def zgF:CE:=⟨59,zmR,zmQ,fun X=>zh2 X⟩
theorem zjM:CE.ok Try.prog zgF:=CE.of (Γ:=[]) (by kernel_rfl) zaV (GOK.nil) ⟨[],[],[],[]⟩ Try.func59 rfl Try.ntmps59 (rs:=[.tmp 2]) rfl (sig:=zmR) (out:=zmQ) rfl Try.call59 (fun X=>by kernel_rfl)

def zlA:Shape:=⟨[(.pair .str (.pair (.int .i64) (.pair (.int .i64) (.pair (.int .i64) (.pair (.list (.pair (.int .u8) (.pair .bool Tc6))) (.pair Tc7 .unit))))))],[(0,.addr 0)],[]⟩
def zlz:Shape:=⟨[(.int .u8)],[(0,.v 0)],[]⟩
def zdj:CE:=⟨58,zlA,zlz,fun X=>zdg X⟩
theorem zew:CE.ok Try.prog zdj:=CE.of (Γ:=[]) (by kernel_rfl) zaV (GOK.nil) ⟨[],[],[(1,[(0,0),(0,1),(0,2),(0,3),(0,4),(0,5),(0,6),(0,7),(0,8),(0,9)]),(3,[(0,0),(0,1),(0,2),(0,3),(0,4),(0,5),(0,6),(0,7),(0,8),(0,9)])],[]⟩ Try.func58 rfl Try.ntmps58 (rs:=[.tmp 2]) rfl (sig:=zlA) (out:=zlz) rfl Try.call58 (fun X=>by kernel_rfl)

def zkB:Shape:=⟨[(.int .i64),.str,(.int .i64),(.int .i64),(.int .i64),(.int .i64),(.int .i64),(.list (.pair (.int .u8) (.pair .bool Tc6)))],[(0,.ptr 100000 0),(1,.v 0)],[(100000,.box 69 [.v 1,.v 2,.v 3,.v 4,.own 100001,.v 5,.v 6]),(100001,.arr 39 7)]⟩
def zkA:Shape:=⟨[.str,(.int .i64),(.int .i64),(.int .i64),(.list (.pair (.int .u8) (.pair .bool Tc6))),(.int .i64),(.int .i64)],[],[(100000,.box 69 [.v 0,.v 1,.v 2,.v 3,.own 90,.v 5,.v 6]),(90,.arr 39 4)]⟩
def zcn:CE:=⟨23,zkB,zkA,fun X=>zcm X.1 X.2.1 X.2.2.1 X.2.2.2.1 X.2.2.2.2.1 X.2.2.2.2.2.1 X.2.2.2.2.2.2.1 X.2.2.2.2.2.2.2⟩
theorem zcW:CE.ok Try.prog zcn:=CE.of (Γ:=[]) (by kernel_rfl) zaV (GOK.nil) ⟨[],[],[],[]⟩ Try.func23 rfl Try.ntmps23 (rs:=[]) rfl (sig:=zkB) (out:=zkA) rfl Try.call23 (fun X=>by kernel_rfl)

def ziJ:Shape:=⟨[.str,(.int .i64),(.int .i64),(.int .i64),(.int .i64),(.int .i64),(.list (.pair (.int .u8) (.pair .bool Tc6)))],[(0,.ptr 100000 0)],[(100000,.box 69 [.v 0,.v 1,.v 2,.v 3,.own 100001,.v 4,.v 5]),(100001,.arr 39 6)]⟩
def ziI:Shape:=⟨[.str,(.int .i64),(.int .i64),(.int .i64),(.list (.pair (.int .u8) (.pair .bool Tc6))),(.int .i64),(.int .i64)],[],[(100000,.box 69 [.v 0,.v 1,.v 2,.v 3,.own 90,.v 5,.v 6]),(90,.arr 39 4)]⟩
def zcM:CE:=⟨60,ziJ,ziI,fun X=>zbf X.1 X.2.1 X.2.2.1 X.2.2.2.1 X.2.2.2.2.1 X.2.2.2.2.2.1 X.2.2.2.2.2.2⟩
theorem zdY:CE.ok Try.prog zcM:=CE.of (Γ:=[zcn]) (by kernel_rfl) zaV (GOK.cons zcW (GOK.nil)) ⟨[],[],[],[]⟩ Try.func60 rfl Try.ntmps60 (rs:=[]) rfl (sig:=ziJ) (out:=ziI) rfl Try.call60 (fun X=>by kernel_rfl)

def zlE:Shape:=⟨[(.pair (.int .u8) (.pair .bool Tc6)),.str,(.int .i64),(.int .i64),(.int .i64),(.int .i64),(.int .i64),(.list (.pair (.int .u8) (.pair .bool Tc6)))],[(0,.ptr 100000 0),(1,.v 0)],[(100000,.box 69 [.v 1,.v 2,.v 3,.v 4,.own 100001,.v 5,.v 6]),(100001,.arr 39 7)]⟩
def zlD:Shape:=⟨[(.int .i64),.str,(.int .i64),(.int .i64),(.int .i64),(.list (.pair (.int .u8) (.pair .bool Tc6))),(.int .i64),(.int .i64)],[(0,.v 0)],[(100000,.box 69 [.v 1,.v 2,.v 3,.v 4,.own 90,.v 6,.v 7]),(90,.arr 39 5)]⟩
def zey:CE:=⟨61,zlE,zlD,fun X=>zbV X.1 X.2.1 X.2.2.1 X.2.2.2.1 X.2.2.2.2.1 X.2.2.2.2.2.1 X.2.2.2.2.2.2.1 X.2.2.2.2.2.2.2⟩
theorem zfy:CE.ok Try.prog zey:=CE.of (Γ:=[]) (by kernel_rfl) zaV (GOK.nil) ⟨[],[],[(1,[(0,0),(0,1),(0,2),(0,3),(0,4),(0,5),(1,6),(2,7),(0,8),(0,9),(2,10)])],[]⟩ Try.func61 rfl Try.ntmps61 (rs:=[.tmp 4]) rfl (sig:=zlE) (out:=zlD) rfl Try.call61 (fun X=>by kernel_rfl)

def zkD:Shape:=⟨[.str,(.int .i64),(.int .i64),(.int .i64),(.int .i64),(.int .i64),(.list (.pair (.int .u8) (.pair .bool Tc6)))],[(0,.ptr 100000 0)],[(100000,.box 69 [.v 0,.v 1,.v 2,.v 3,.own 100001,.v 4,.v 5]),(100001,.arr 39 6)]⟩
def zkC:Shape:=⟨[.str,(.int .i64),(.int .i64),(.int .i64),(.list (.pair (.int .u8) (.pair .bool Tc6))),(.int .i64),(.int .i64)],[],[(100000,.box 69 [.v 0,.v 1,.v 2,.v 3,.own 90,.v 5,.v 6]),(90,.arr 39 4)]⟩
def zh3:CE:=⟨76,zkD,zkC,fun X=>zdl X.1 X.2.1 X.2.2.1 X.2.2.2.1 X.2.2.2.2.1 X.2.2.2.2.2.1 X.2.2.2.2.2.2⟩
theorem zlB:CE.ok Try.prog zh3:=CE.of (Γ:=[zcn]) (by kernel_rfl) zaV (GOK.cons zcW (GOK.nil)) ⟨[],[],[],[]⟩ Try.func76 rfl Try.ntmps76 (rs:=[]) rfl (sig:=zkD) (out:=zkC) rfl Try.call76 (fun X=>by kernel_rfl)

def zkH:Shape:=⟨[(.int .u8),.str,(.int .i64),(.int .i64),(.int .i64),(.int .i64),(.int .i64),(.list (.pair (.int .u8) (.pair .bool Tc6)))],[(0,.ptr 100000 0),(1,.v 0)],[(100000,.box 69 [.v 1,.v 2,.v 3,.v 4,.own 100001,.v 5,.v 6]),(100001,.arr 39 7)]⟩
def zkG:Shape:=⟨[.str,(.int .i64),(.int .i64),(.int .i64),(.list (.pair (.int .u8) (.pair .bool Tc6))),(.int .i64),(.int .i64)],[],[(100000,.box 69 [.v 0,.v 1,.v 2,.v 3,.own 90,.v 5,.v 6]),(90,.arr 39 4)]⟩
def zh5:CE:=⟨77,zkH,zkG,fun X=>zcN X.1 X.2.1 X.2.2.1 X.2.2.2.1 X.2.2.2.2.1 X.2.2.2.2.2.1 X.2.2.2.2.2.2.1 X.2.2.2.2.2.2.2⟩
theorem zlG:CE.ok Try.prog zh5:=CE.of (Γ:=[zcn,zdj]) (by kernel_rfl) zaV (GOK.cons zcW (GOK.cons zew (GOK.nil))) ⟨[],[],[],[]⟩ Try.func77 rfl Try.ntmps77 (rs:=[]) rfl (sig:=zkH) (out:=zkG) rfl Try.call77 (fun X=>by kernel_rfl)

def zaG:Shape:=⟨[.str,(.int .i64),(.int .i64),(.int .i64),(.int .i64),(.int .i64),(.list (.pair (.int .u8) (.pair .bool Tc6)))],[(0,.ptr 100000 0)],[(100000,.box 69 [.v 0,.v 1,.v 2,.v 3,.own 100001,.v 4,.v 5]),(100001,.arr 39 6)]⟩
def zaF:Shape:=⟨[(.int .i64),.str,(.int .i64),(.int .i64),(.int .i64),(.list (.pair (.int .u8) (.pair .bool Tc6))),(.int .i64),(.int .i64)],[(0,.v 0)],[(100000,.box 69 [.v 1,.v 2,.v 3,.v 4,.own 90,.v 6,.v 7]),(90,.arr 39 5)]⟩
def zrB:CE:=⟨72,zaG,zaF,LFix zex⟩
def zkF:Shape:=⟨[.str,(.int .i64),(.int .i64),(.int .i64),(.int .i64),(.int .i64),(.list (.pair (.int .u8) (.pair .bool Tc6)))],[(0,.ptr 100000 0)],[(100000,.box 69 [.v 0,.v 1,.v 2,.v 3,.own 100001,.v 4,.v 5]),(100001,.arr 39 6)]⟩
def zkE:Shape:=⟨[(.int .i64),.str,(.int .i64),(.int .i64),(.int .i64),(.list (.pair (.int .u8) (.pair .bool Tc6))),(.int .i64),(.int .i64)],[(0,.v 0)],[(100000,.box 69 [.v 1,.v 2,.v 3,.v 4,.own 90,.v 6,.v 7]),(90,.arr 39 5)]⟩
def zlF (rec:Tup zaG.tys->Option (Tup zaF.tys)):CE:=⟨57,zkF,zkE,fun X=>zbW (fun c c_1 c_2 c_3 c_4 c_5 l=>rec (c,c_1,c_2,c_3,c_4,c_5,l)) X.1 X.2.1 X.2.2.1 X.2.2.2.1 X.2.2.2.2.1 X.2.2.2.2.2.1 X.2.2.2.2.2.2⟩
theorem zrE (rec:Tup zaG.tys->Option (Tup zaF.tys)) (hrec:CE.ok Try.prog ⟨72,zaG,zaF,rec⟩):CE.ok Try.prog (zlF rec):=CE.of (Γ:=[⟨72,zaG,zaF,rec⟩,zcM,zey,zdj,zgF]) (by kernel_rfl) zaV (GOK.cons hrec (GOK.cons zdY (GOK.cons zfy (GOK.cons zew (GOK.cons zjM (GOK.nil)))))) ⟨[(2,⟨⟨[(.int .i64),.str,(.int .i64),(.int .i64),(.int .i64),(.int .i64),(.int .i64),(.list (.pair (.int .u8) (.pair .bool Tc6)))],[(0,.ptr 100000 0),(3,.v 0)],[(100000,.box 69 [.v 1,.v 2,.v 3,.v 4,.own 90,.v 5,.v 6]),(90,.arr 39 7)]⟩,[2,4,5,6,9,10,11,12,13,14,15,16,17,18,19,20,21,22,23,24,25,26,27,28],[],[],91,[]⟩)],[],[],[]⟩ Try.func57 rfl Try.ntmps57 (rs:=[.tmp 2]) rfl (sig:=zkF) (out:=zkE) rfl Try.call57 (fun X=>by kernel_rfl)
def zjV:Shape:=⟨[.str,(.int .i64),(.int .i64),(.int .i64),(.int .i64),(.int .i64),(.list (.pair (.int .u8) (.pair .bool Tc6)))],[(0,.ptr 100000 0)],[(100000,.box 69 [.v 0,.v 1,.v 2,.v 3,.own 100001,.v 4,.v 5]),(100001,.arr 39 6)]⟩
def zjU:Shape:=⟨[(.int .i64),.str,(.int .i64),(.int .i64),(.int .i64),(.list (.pair (.int .u8) (.pair .bool Tc6))),(.int .i64),(.int .i64)],[(0,.v 0)],[(100000,.box 69 [.v 1,.v 2,.v 3,.v 4,.own 90,.v 6,.v 7]),(90,.arr 39 5)]⟩
def zeG (rec:Tup zaG.tys->Option (Tup zaF.tys)):CE:=⟨22,zjV,zjU,fun X=>zbb (fun c c_1 c_2 c_3 c_4 c_5 l=>rec (c,c_1,c_2,c_3,c_4,c_5,l)) X.1 X.2.1 X.2.2.1 X.2.2.2.1 X.2.2.2.2.1 X.2.2.2.2.2.1 X.2.2.2.2.2.2⟩
theorem zgM (rec:Tup zaG.tys->Option (Tup zaF.tys)) (hrec:CE.ok Try.prog ⟨72,zaG,zaF,rec⟩):CE.ok Try.prog (zeG rec):=CE.of (Γ:=[zlF rec,zcM,zey,zdj,zgF]) (by kernel_rfl) zaV (GOK.cons (zrE rec hrec) (GOK.cons zdY (GOK.cons zfy (GOK.cons zew (GOK.cons zjM (GOK.nil)))))) ⟨[(2,⟨⟨[(.int .i64),.str,(.int .i64),(.int .i64),(.int .i64),(.int .i64),(.int .i64),(.list (.pair (.int .u8) (.pair .bool Tc6)))],[(0,.ptr 100000 0),(3,.v 0)],[(100000,.box 69 [.v 1,.v 2,.v 3,.v 4,.own 90,.v 5,.v 6]),(90,.arr 39 7)]⟩,[2,4,5,6,9,10,11,12,13,14,15,16,17,18,19,20,21,22,23,24,25,26,27,28],[],[],91,[]⟩)],[],[],[]⟩ Try.func22 rfl Try.ntmps22 (rs:=[.tmp 2]) rfl (sig:=zjV) (out:=zjU) rfl Try.call22 (fun X=>by kernel_rfl)
def zkJ:Shape:=⟨[.bool,.str,(.int .i64),(.int .i64),(.int .i64),(.int .i64),(.int .i64),(.list (.pair (.int .u8) (.pair .bool Tc6)))],[(0,.ptr 100000 0),(1,.v 0)],[(100000,.box 69 [.v 1,.v 2,.v 3,.v 4,.own 100001,.v 5,.v 6]),(100001,.arr 39 7)]⟩
def zkI:Shape:=⟨[(.int .i64),.str,(.int .i64),(.int .i64),(.int .i64),(.list (.pair (.int .u8) (.pair .bool Tc6))),(.int .i64),(.int .i64)],[(0,.v 0)],[(100000,.box 69 [.v 1,.v 2,.v 3,.v 4,.own 90,.v 6,.v 7]),(90,.arr 39 5)]⟩
def zlH (rec:Tup zaG.tys->Option (Tup zaF.tys)):CE:=⟨75,zkJ,zkI,fun X=>zdm (fun c c_1 c_2 c_3 c_4 c_5 l=>rec (c,c_1,c_2,c_3,c_4,c_5,l)) X.1 X.2.1 X.2.2.1 X.2.2.2.1 X.2.2.2.2.1 X.2.2.2.2.2.1 X.2.2.2.2.2.2.1 X.2.2.2.2.2.2.2⟩
theorem zrF (rec:Tup zaG.tys->Option (Tup zaF.tys)) (hrec:CE.ok Try.prog ⟨72,zaG,zaF,rec⟩):CE.ok Try.prog (zlH rec):=CE.of (Γ:=[zcM,⟨72,zaG,zaF,rec⟩,zey,zcn,zh3,zeG rec,zh5,zdj]) (by kernel_rfl) zaV (GOK.cons zdY (GOK.cons hrec (GOK.cons zfy (GOK.cons zcW (GOK.cons zlB (GOK.cons (zgM rec hrec) (GOK.cons zlG (GOK.cons zew (GOK.nil))))))))) ⟨[],[(3,⟨⟨[.bool],[(22,.v 0)],[]⟩,[13,14,15,16,17,18,19,20,21],[],[90],91,[]⟩)],[],[]⟩ Try.func75 rfl Try.ntmps75 (rs:=[.tmp 4]) rfl (sig:=zkJ) (out:=zkI) rfl Try.call75 (fun X=>by kernel_rfl)
theorem zrD:CE.ok Try.prog zrB:=CE.ofRecM (Γ:=fun rec=>[zcM,zey,zlH rec,zcn,zh3,zeG rec,zh5,zgF,zdj]) (by kernel_rfl) zaV ⟨[],[(5,⟨⟨[.bool],[(18,.v 0)],[]⟩,[13,14,15,16,17],[],[],0,[]⟩),(8,⟨⟨[.bool],[(30,.v 0)],[]⟩,[25,26,27,28,29],[],[],0,[]⟩),(15,⟨⟨[.bool],[(54,.v 0)],[]⟩,[49,50,51,52,53],[],[],0,[]⟩)],[],[]⟩ Try.func72 rfl Try.ntmps72 (rs:=[.tmp 2]) rfl (sig:=zaG) (out:=zaF) rfl (fun rec hrec=>(GOK.cons zdY (GOK.cons zfy (GOK.cons (zrF rec hrec) (GOK.cons zcW (GOK.cons zlB (GOK.cons (zgM rec hrec) (GOK.cons zlG (GOK.cons zjM (GOK.cons zew (GOK.nil))))))))))) Try.call72 (d:=zex) (fun rc X=>by kernel_rfl)
def zjt:CE:=zeG (LFix zex)
theorem zoV:CE.ok Try.prog zjt:=zgM _ zrD
def zrA:Shape:=⟨[.str],[(0,.v 0)],[]⟩
def zrz:Shape:=⟨[(.int .i64),Tc7,(.list (.pair (.int .u8) (.pair .bool Tc6)))],[(0,.own 0),(1,.v 0),(2,.v 1)],[(0,.arr 39 2)]⟩
def zsY:CE:=⟨7,zrA,zrz,fun X=>zkz X⟩
theorem zxs:CE.ok Try.prog zsY:=CE.of (Γ:=[zjt,zcn]) (by kernel_rfl) zaV (GOK.cons zoV (GOK.cons zcW (GOK.nil))) ⟨[],[],[(8,[(0,0),(0,1),(0,2),(0,3),(0,4),(0,5),(2,6)])],[]⟩ Try.func7 rfl Try.ntmps7 (rs:=[.tmp 2,.tmp 3,.cell 4 35]) rfl (sig:=zrA) (out:=zrz) rfl Try.call7 (fun X=>by kernel_rfl)

def zsX:Shape:=⟨[Tc2,(.int .i64),(.int .i64)],[(0,.v 0),(1,.v 1),(2,.v 2)],[]⟩
def zsW:Shape:=⟨[.bool],[(0,.v 0)],[]⟩
def znx:CE:=⟨27,zsX,zsW,fun X=>znv X.1 X.2.1 X.2.2⟩
theorem zqA:CE.ok Try.prog znx:=CE.of (Γ:=[]) (by kernel_rfl) zaV (GOK.nil) ⟨[(3,⟨⟨[.bool,(.int .i64)],[(7,.v 0),(8,.v 1)],[]⟩,[6,9,10,11,12,13,14,15,16,17,18,19,20,21,22,23,24,25,26,27,28,29,30,31],[],[0],1,[]⟩)],[],[],[]⟩ Try.func27 rfl Try.ntmps27 (rs:=[.tmp 6]) rfl (sig:=zsX) (out:=zsW) rfl Try.call27 (fun X=>by kernel_rfl)

def zs1:Shape:=⟨[Tc2,(.int .i64),(.list .bool)],[(0,.v 0),(1,.v 1),(2,.v 2)],[]⟩
def zs0:Shape:=⟨[.bool],[(0,.v 0)],[]⟩
def znA:CE:=⟨25,zs1,zs0,fun X=>znz X.1 X.2.1 X.2.2⟩
theorem zqC:CE.ok Try.prog znA:=CE.of (Γ:=[znx]) (by kernel_rfl) zaV (GOK.cons zqA (GOK.nil)) ⟨[(2,⟨⟨[(.int .i64)],[(7,.v 0)],[]⟩,[6,8,9,10,11,12,13,14,15,16,17,18,19,20,21,22,23,24,25],[],[0],1,[]⟩)],[],[],[]⟩ Try.func25 rfl Try.ntmps25 (rs:=[.tmp 6]) rfl (sig:=zs1) (out:=zs0) rfl Try.call25 (fun X=>by kernel_rfl)

def zrx:Shape:=⟨[Tc2,(.int .i64),(.list .bool)],[(0,.v 0),(1,.v 1),(2,.v 2)],[]⟩
def zrw:Shape:=⟨[.bool],[(0,.v 0)],[]⟩
def zly:CE:=⟨26,zrx,zrw,fun X=>zky X.1 X.2.1 X.2.2⟩
theorem zoT:CE.ok Try.prog zly:=CE.of (Γ:=[znx]) (by kernel_rfl) zaV (GOK.cons zqA (GOK.nil)) ⟨[(2,⟨⟨[(.int .i64)],[(7,.v 0)],[]⟩,[6,8,9,10,11,12,13,14,15,16,17,18,19,20,21,22,23,24,25,26],[],[0],1,[]⟩)],[],[],[]⟩ Try.func26 rfl Try.ntmps26 (rs:=[.tmp 6]) rfl (sig:=zrx) (out:=zrw) rfl Try.call26 (fun X=>by kernel_rfl)

def zrq:Shape:=⟨[(.list .bool),(.list .bool)],[(0,.v 0),(1,.v 1)],[]⟩
def zrp:Shape:=⟨[.bool],[(0,.v 0)],[]⟩
def zoP:CE:=⟨62,zrq,zrp,fun X=>zfk X.1 X.2⟩
theorem zsU:CE.ok Try.prog zoP:=CE.of (Γ:=[]) (by kernel_rfl) zaV (GOK.nil) ⟨[(4,⟨⟨[(.int .i64)],[(5,.v 0)],[]⟩,[4,11,12,13,14,15,16,17,18,19,20,21,22,23,24,25],[],[],0,[]⟩)],[],[(6,[(0,0),(0,1),(0,2),(0,3),(0,4),(0,5),(0,6),(0,7),(0,8)])],[]⟩ Try.func62 rfl Try.ntmps62 (rs:=[.tmp 4]) rfl (sig:=zrq) (out:=zrp) rfl Try.call62 (fun X=>by kernel_rfl)

def zs3:Shape:=⟨[Tc2,.bool,(.list .bool),(.list .bool)],[(0,.v 0),(1,.v 1),(2,.v 2),(3,.v 3)],[]⟩
def zs2:Shape:=⟨[(.list .bool)],[(0,.own 0)],[(0,.arr 4 0)]⟩
def zuA:CE:=⟨24,zs3,zs2,fun X=>zlJ X.1 X.2.1 X.2.2.1 X.2.2.2⟩
theorem zyl:CE.ok Try.prog zuA:=CE.of (Γ:=[znA,zly,zoP]) (by kernel_rfl) zaV (GOK.cons zqC (GOK.cons zoT (GOK.cons zsU (GOK.nil)))) ⟨[(3,⟨⟨[(.int .i64),(.list .bool)],[(9,.own 1),(10,.v 0)],[(1,.arr 4 1)]⟩,[17,18,19,20,21,22,23,24,25,26,27,28],[],[0],2,[]⟩),(6,⟨⟨[(.list .bool)],[(9,.own 1)],[(1,.arr 4 0)]⟩,[8,11,12,13,14,29,30,31,32,33,34,35,36,37,38,39,40,41,42,43,44,45,46,47,48,49,50,51,52,53,54,55,56,57,58,59,60,61,62,63,64,65,66,67,68,69,70,71,72,73,74,75,76,77],[],[0],2,[]⟩),(8,⟨⟨[(.int .i64),(.list .bool)],[(11,.own 2),(12,.v 0)],[(2,.arr 4 1)]⟩,[13,31,32,33,34,35,36,37,38,39,40,41,42,43,44,45,46,47,48,49,50,51,52,53,54,55,56,57,58,59,60,61,62,63,64,65,66,67,68,69,70,71],[],[0,1],3,[]⟩)],[(12,⟨⟨[.bool],[(13,.v 0)],[]⟩,[42,43,44,45,46],[],[0,1,2],3,[]⟩),(13,⟨⟨[(.list .bool)],[(11,.own 2)],[(2,.arr 4 0)]⟩,[47,48,49,50,51,52,53,54,55,56],[],[0,1],3,[]⟩),(14,⟨⟨[.bool],[(58,.v 0)],[]⟩,[57],[],[0,1,2],3,[]⟩)],[],[]⟩ Try.func24 rfl Try.ntmps24 (rs:=[.tmp 8]) rfl (sig:=zs3) (out:=zs2) rfl Try.call24 (fun X=>by kernel_rfl)

def zqb:Shape:=⟨[Tc2,.bool,(.list .bool)],[(0,.v 0),(1,.v 1),(2,.v 2),(3,.nil)],[]⟩
def zqa:Shape:=⟨[(.list .bool)],[(0,.own 0)],[(0,.arr 4 0)]⟩
def zrP:CE:=⟨24,zqb,zqa,fun X=>zmS X.1 X.2.1 X.2.2⟩
theorem zwz:CE.ok Try.prog zrP:=CE.of (Γ:=[znA,zly,zoP]) (by kernel_rfl) zaV (GOK.cons zqC (GOK.cons zoT (GOK.cons zsU (GOK.nil)))) ⟨[(3,⟨⟨[(.int .i64),(.list .bool)],[(9,.own 1),(10,.v 0)],[(1,.arr 4 1)]⟩,[17,18,19,20,21,22,23,24,25,26,27,28],[],[0],2,[]⟩),(6,⟨⟨[(.list .bool)],[(9,.own 1)],[(1,.arr 4 0)]⟩,[8,11,12,13,14,29,30,31,32,33,34,35,36,37,38,39,40,41,42,43,44,45,46,47,48,49,50,51,52,53,54,55,56,57,58,59,60,61,62,63,64,65,66,67,68,69,70,71,72,73,74,75,76,77],[],[0],2,[]⟩),(8,⟨⟨[(.int .i64),(.list .bool)],[(11,.own 2),(12,.v 0)],[(2,.arr 4 1)]⟩,[13,31,32,33,34,35,36,37,38,39,40,41,42,43,44,45,46,47,48,49,50,51,52,53,54,55,56,57,58,59,60,61,62,63,64,65,66,67,68,69,70,71],[],[0,1],3,[]⟩)],[(12,⟨⟨[.bool],[(13,.v 0)],[]⟩,[42,43,44,45,46],[],[0,1,2],3,[]⟩)],[],[]⟩ Try.func24 rfl Try.ntmps24 (rs:=[.tmp 8]) rfl (sig:=zqb) (out:=zqa) rfl Try.call24 (fun X=>by kernel_rfl)

def zrX:Shape:=⟨[Tc2,(.list (.pair (.int .u8) (.pair .bool Tc6))),(.int .i64)],[(0,.v 0),(1,.v 1),(2,.v 2)],[]⟩
def zrW:Shape:=⟨[(.list .bool)],[(0,.own 0)],[(0,.arr 4 0)]⟩
def zo8:CE:=⟨8,zrX,zrW,LFix znB⟩
theorem zs4:CE.ok Try.prog zo8:=CE.ofRec (Γ:=[zrP,zuA,znA,zly]) (by kernel_rfl) zaV (GOK.cons zwz (GOK.cons zyl (GOK.cons zqC (GOK.cons zoT (GOK.nil))))) ⟨[(7,⟨⟨[(.int .i64),(.list .bool)],[(8,.own 2),(9,.v 0)],[(2,.arr 4 1)]⟩,[21,34,35,36,37,38,39,40,41,42,43,44,45],[],[0,1],3,[]⟩),(11,⟨⟨[(.int .i64),(.list .bool)],[(8,.own 2),(10,.v 0)],[(2,.arr 4 1)]⟩,[46,47,48,49,50,51,52,53,54,55,56,57,58,59,60,61,62,63,64,65,66,67,68,69,70,71,72,73,74],[],[0,1],3,[]⟩),(27,⟨⟨[(.int .i64),(.list .bool)],[(12,.own 5),(13,.v 0)],[(5,.arr 4 1)]⟩,[121,122,123,124,125,126,127,128,129],[],[0,1,2,3],6,[]⟩),(32,⟨⟨[(.int .i64),(.list .bool)],[(8,.own 2),(14,.v 0)],[(2,.arr 4 1)]⟩,[21,136,137,138,139,140,141,142,143,144,145,146,147,148,149,150,151,152,153,154,155,156,157,158,159,160,161,162,163,164,165,166,167,168,169,170,171,172,173,174,175,176,177,178,179,180,181,182,183,184,185,186,187,188,189,190,191,192,193,194,195,196,197,198,199,200,201],[],[0,1,3,5],6,[]⟩)],[(5,⟨⟨[.bool],[(33,.v 0)],[]⟩,[26,27,28,29,30,31,32],[],[0,1,2],3,[]⟩),(13,⟨⟨[.bool],[(66,.v 0)],[]⟩,[53,54,55,56,57,58,59,60,61,62,63,64,65],[],[0,1,2],3,[]⟩),(18,⟨⟨[.bool],[(96,.v 0)],[]⟩,[84,85,86,87,88,89,90,91,92,93,94,95],[],[0,1,2,3,4],5,[]⟩),(19,⟨⟨[(.list .bool)],[(12,.own 5)],[(5,.arr 4 0)]⟩,[83,84,85,86,87,88,89,90,91,92,93,94,95,96,97,98,99,100,101],[4],[0,1,2,3],6,[]⟩)],[(13,[(0,0),(0,1),(0,2),(0,3),(0,4),(0,5),(0,6),(0,7),(0,8),(0,9),(0,10),(0,11),(0,12),(0,13)])],[]⟩ Try.func8 rfl Try.ntmps8 (rs:=[.tmp 6]) rfl (sig:=zrX) (out:=zrW) rfl Try.call8 (d:=znB) (fun rc X=>by kernel_rfl)

def zrL:Shape:=⟨[Tc2,(.list (.pair (.int .u8) (.pair .bool Tc6))),(.int .i64),(.pair (.list (.int .i64)) (.pair (.list (.int .i64)) .unit)),(.int .i64)],[(0,.v 0),(1,.v 1),(2,.v 2),(3,.v 3),(4,.v 4)],[]⟩
def zrK:Shape:=⟨[.bool],[(0,.v 0)],[]⟩
def zsZ:CE:=⟨9,zrL,zrK,fun X=>zfm X.1 X.2.1 X.2.2.1 X.2.2.2.1 X.2.2.2.2⟩
theorem zxt:CE.ok Try.prog zsZ:=CE.of (Γ:=[znx,zo8]) (by kernel_rfl) zaV (GOK.cons zqA (GOK.cons zs4 (GOK.nil))) ⟨[(6,⟨⟨[(.int .i64)],[(12,.v 0)],[]⟩,[10,23,26,27,42,43,44,45,46,47,48,49,50,51,52,53,54,55,56,57,58,59,60,61],[],[0,1,4],5,[]⟩),(11,⟨⟨[(.int .i64)],[(13,.v 0)],[]⟩,[10,14,15,62,63,64,65,66,67,68,69,70,71,72,73,74,75,76,77,78,79,80,81,82,83,84,85,86,87,88,89,90,91,92],[],[0,1,4],5,[]⟩),(29,⟨⟨[(.int .i64)],[(19,.v 0)],[]⟩,[10,124,125,126,127,128,129,130,131,132,133,134,135,136,137],[],[0,1,4,5,6],7,[]⟩),(36,⟨⟨[(.int .i64)],[(20,.v 0)],[]⟩,[10,140,141,142,143,144,145,146,147,148,149,150,151,152],[],[0,1,4,5,6],7,[]⟩),(43,⟨⟨[(.int .i64)],[(22,.v 0)],[]⟩,[10,158,159,160,161,162,163,164,165,166,167,168,169,170,171,172,173,174,175,176,177,178],[],[0,1,4,5,6,7],8,[]⟩)],[(15,⟨⟨[(.int .i64)],[(14,.v 0)],[]⟩,[74,75,76,77,78,79,80,81,82,83],[],[0,1,4],5,[]⟩),(25,⟨⟨[(.int .i64)],[(18,.v 0)],[]⟩,[112,113,114,115,116,117],[],[0,1,4,5,6],7,[]⟩)],[(8,[(0,0),(0,1),(0,2),(0,3),(0,4),(0,5),(0,6),(0,7),(0,8),(0,9),(0,10),(0,11),(0,12),(0,13)]),(16,[(0,0),(0,1),(0,2),(0,3),(0,4),(0,5),(1,6),(0,7)])],[]⟩ Try.func9 rfl Try.ntmps9 (rs:=[.tmp 10]) rfl (sig:=zrL) (out:=zrK) rfl Try.call9 (fun X=>by kernel_rfl)

def zks:Shape:=⟨[Tc2,.str,(.int .i64)],[(0,.v 0),(1,.v 1),(2,.v 2)],[]⟩
def zkr:Shape:=⟨[.bool],[(0,.v 0)],[]⟩
def zhZ:CE:=⟨3,zks,zkr,fun X=>zev X.1 X.2.1 X.2.2⟩
theorem zq7:CE.ok Try.prog zhZ:=CE.of (Γ:=[zpW,zp3,zsV,zsY,zo8,zsZ]) (by kernel_rfl) zaV (GOK.cons zuT (GOK.cons zu1 (GOK.cons zxr (GOK.cons zxs (GOK.cons zs4 (GOK.cons zxt (GOK.nil))))))) ⟨[],[(5,⟨⟨[.bool],[(41,.v 0)],[]⟩,[35,36,37,38,39,40],[],[0,1,2,3],4,[]⟩),(6,⟨⟨[(.int .i64)],[(11,.v 0)],[]⟩,[35,36,37,38,39,40,41],[],[0,1,2,3],4,[]⟩),(9,⟨⟨[.bool],[(70,.v 0)],[]⟩,[48,49,50,51,52,53,54,55,56,57,58,59,60,61,62,63,64,65,66,67,68,69],[],[0,1,2,3,4],5,[]⟩),(12,⟨⟨[(.int .i64)],[(11,.v 0)],[]⟩,[15,42,43,44,45,46,47,48,49,50,51,52,53,54,55,56,57,58,59,60,61,62,63,64,65,66,67,68,69,70,71,72,73,74,75,76,77,78],[],[0,1,2,3],4,[]⟩)],[],[]⟩ Try.func3 rfl Try.ntmps3 (rs:=[.tmp 6]) rfl (sig:=zks) (out:=zkr) rfl Try.call3 (fun X=>by kernel_rfl)

end
end Go.Proofs.Ytegenlccllgjoaa.branchPathsW
