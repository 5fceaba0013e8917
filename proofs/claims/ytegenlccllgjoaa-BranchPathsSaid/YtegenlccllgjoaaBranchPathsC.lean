/- That the functions of 'BranchPaths' compute so. -/
import Derived.Test.YtegenlccllgjoaaBranchPathsD
import Derived.Test.YtegenlccllgjoaaProg
import Derived.KernelRfl
set_option maxHeartbeats 1000000
set_option maxRecDepth 20000
set_option linter.unusedSimpArgs false
set_option linter.unusedVariables false
set_option linter.unusedSectionVars false
namespace Go.Proofs.Ytegenlccllgjoaa.branchPathsW
open Go Go.Ab
noncomputable section
def te3:TE:=⟨3,.int .i64,false,1,8,.int .i64 0,some (.int .i64)⟩
theorem zEM:TEok Try.prog te3:=⟨TI.of Try.underlying3 rfl (by kernel_rfl),Try.underlying3,fun t h=>by cases h;exact ⟨rfl,rfl,by decide,rfl⟩⟩
def te4:TE:=⟨4,.bool,false,1,1,.bool false,some .bool⟩
theorem zEN:TEok Try.prog te4:=⟨TI.of Try.underlying4 rfl (by kernel_rfl),Try.underlying4,fun t h=>by cases h;exact ⟨rfl,rfl,by decide,rfl⟩⟩
def te5:TE:=⟨5,.int .u8,false,1,1,.int .u8 0,some (.int .u8)⟩
theorem zEO:TEok Try.prog te5:=⟨TI.of Try.underlying5 rfl (by kernel_rfl),Try.underlying5,fun t h=>by cases h;exact ⟨rfl,rfl,by decide,rfl⟩⟩
def te9:TE:=⟨9,.str,false,1,16,.string ⟨⟨[]⟩⟩,some .str⟩
theorem zEP:TEok Try.prog te9:=⟨TI.of Try.underlying9 rfl (by kernel_rfl),Try.underlying9,fun t h=>by cases h;exact ⟨rfl,rfl,by decide,rfl⟩⟩
def te22:TE:=⟨22,.slice 65,false,1,24,.slice none 0 0,some Tc5⟩
theorem zDI:TEok Try.prog te22:=⟨TI.of Try.underlying22 rfl (by kernel_rfl),Try.underlying22,fun t h=>by cases h;exact ⟨rfl,rfl,by decide,rfl⟩⟩
def te24:TE:=⟨24,.struct [(0,3),(1,3),(2,22)] none,true,3,40,.agg ⟨[.int .i64 0,.int .i64 0,.slice none 0 0]⟩,some Tc2⟩
theorem zDJ:TEok Try.prog te24:=⟨TI.of Try.underlying24 rfl (by kernel_rfl),⟨⟨_,Try.underlying24,rfl⟩,fun t h=>by cases h⟩,fun t h=>by cases h;exact ⟨rfl,rfl,by decide,rfl⟩⟩
def te25:TE:=⟨25,.slice 3,false,1,24,.slice none 0 0,some (.list (.int .i64))⟩
theorem zDK:TEok Try.prog te25:=⟨TI.of Try.underlying25 rfl (by kernel_rfl),Try.underlying25,fun t h=>by cases h;exact ⟨rfl,rfl,by decide,rfl⟩⟩
def te27:TE:=⟨27,.struct [(0,25),(1,25)] none,true,2,48,.agg ⟨[.slice none 0 0,.slice none 0 0]⟩,some (.pair (.list (.int .i64)) (.pair (.list (.int .i64)) .unit))⟩
theorem zDL:TEok Try.prog te27:=⟨TI.of Try.underlying27 rfl (by kernel_rfl),⟨⟨_,Try.underlying27,rfl⟩,fun t h=>by cases h⟩,fun t h=>by cases h;exact ⟨rfl,rfl,by decide,rfl⟩⟩
def te28:TE:=⟨28,.int .i64,false,1,8,.int .i64 0,some (.int .i64)⟩
theorem zDM:TEok Try.prog te28:=⟨TI.of Try.underlying28 rfl (by kernel_rfl),Try.underlying28,fun t h=>by cases h;exact ⟨rfl,rfl,by decide,rfl⟩⟩
def te33:TE:=⟨33,.slice 39,false,1,24,.slice none 0 0,some (.list (.pair (.int .u8) (.pair .bool Tc6)))⟩
theorem zDN:TEok Try.prog te33:=⟨TI.of Try.underlying33 rfl (by kernel_rfl),Try.underlying33,fun t h=>by cases h;exact ⟨rfl,rfl,by decide,rfl⟩⟩
def te35:TE:=⟨35,.struct [(0,28),(1,3)] none,true,2,16,.agg ⟨[.int .i64 0,.int .i64 0]⟩,some Tc7⟩
theorem zDO:TEok Try.prog te35:=⟨TI.of Try.underlying35 rfl (by kernel_rfl),⟨⟨_,Try.underlying35,rfl⟩,fun t h=>by cases h⟩,fun t h=>by cases h;exact ⟨rfl,rfl,by decide,rfl⟩⟩
def te39:TE:=⟨39,.struct [(0,5),(1,4),(2,3),(3,3),(4,3)] none,true,5,32,.agg ⟨[.int .u8 0,.bool false,.int .i64 0,.int .i64 0,.int .i64 0]⟩,some (.pair (.int .u8) (.pair .bool Tc6))⟩
theorem zDP:TEok Try.prog te39:=⟨TI.of Try.underlying39 rfl (by kernel_rfl),⟨⟨_,Try.underlying39,rfl⟩,fun t h=>by cases h⟩,fun t h=>by cases h;exact ⟨rfl,rfl,by decide,rfl⟩⟩
def te40:TE:=⟨40,.slice 4,false,1,24,.slice none 0 0,some (.list .bool)⟩
theorem zDQ:TEok Try.prog te40:=⟨TI.of Try.underlying40 rfl (by kernel_rfl),Try.underlying40,fun t h=>by cases h;exact ⟨rfl,rfl,by decide,rfl⟩⟩
def te44:TE:=⟨44,.other,false,1,8,.pointer none,some (.tree (.pair (.int .u8) (.pair .bool (.pair (.int .i64) .unit))))⟩
theorem zDR:TEok Try.prog te44:=⟨TI.of Try.underlying44 rfl (by kernel_rfl),trivial,fun t h=>by cases h;exact ⟨rfl,rfl,by decide,rfl⟩⟩
def te48:TE:=⟨48,.slice 5,false,1,24,.slice none 0 0,some (.list (.int .u8))⟩
theorem zDS:TEok Try.prog te48:=⟨TI.of Try.underlying48 rfl (by kernel_rfl),Try.underlying48,fun t h=>by cases h;exact ⟨rfl,rfl,by decide,rfl⟩⟩
def te49:TE:=⟨49,.slice 44,false,1,24,.slice none 0 0,some (.list (.tree (.pair (.int .u8) (.pair .bool (.pair (.int .i64) .unit)))))⟩
theorem zDT:TEok Try.prog te49:=⟨TI.of Try.underlying49 rfl (by kernel_rfl),Try.underlying49,fun t h=>by cases h;exact ⟨rfl,rfl,by decide,rfl⟩⟩
def te51:TE:=⟨51,.struct [(0,5),(1,4),(2,3),(3,49)] none,true,4,40,.agg ⟨[.int .u8 0,.bool false,.int .i64 0,.slice none 0 0]⟩,some (.pair (.int .u8) (.pair .bool (.pair (.int .i64) (.pair (.list (.tree (.pair (.int .u8) (.pair .bool (.pair (.int .i64) .unit))))) .unit))))⟩
theorem zDU:TEok Try.prog te51:=⟨TI.of Try.underlying51 rfl (by kernel_rfl),⟨⟨_,Try.underlying51,rfl⟩,fun t h=>by cases h⟩,fun t h=>by cases h;exact ⟨rfl,rfl,by decide,rfl⟩⟩
def te52:TE:=⟨52,.other,false,1,8,.pointer none,none⟩
theorem zDV:TEok Try.prog te52:=⟨TI.of Try.underlying52 rfl (by kernel_rfl),trivial,fun t h=>by cases h⟩
def te56:TE:=⟨56,.slice 25,false,1,24,.slice none 0 0,some (.list (.list (.int .i64)))⟩
theorem zDW:TEok Try.prog te56:=⟨TI.of Try.underlying56 rfl (by kernel_rfl),Try.underlying56,fun t h=>by cases h;exact ⟨rfl,rfl,by decide,rfl⟩⟩
def te58:TE:=⟨58,.struct [(0,24),(3,56)] none,true,4,64,.agg ⟨[.int .i64 0,.int .i64 0,.slice none 0 0,.slice none 0 0]⟩,some Tc1⟩
theorem zDX:TEok Try.prog te58:=⟨TI.of Try.underlying58 rfl (by kernel_rfl),⟨⟨_,Try.underlying58,rfl⟩,fun t h=>by cases h⟩,fun t h=>by cases h;exact ⟨rfl,rfl,by decide,rfl⟩⟩
def te59:TE:=⟨59,.other,false,1,8,.nilFunc,none⟩
theorem zDY:TEok Try.prog te59:=⟨TI.of Try.underlying59 rfl (by kernel_rfl),trivial,fun t h=>by cases h⟩
def te65:TE:=⟨65,.struct [(0,3),(1,3),(2,3)] none,true,3,24,.agg ⟨[.int .i64 0,.int .i64 0,.int .i64 0]⟩,some Tc6⟩
theorem zDZ:TEok Try.prog te65:=⟨TI.of Try.underlying65 rfl (by kernel_rfl),⟨⟨_,Try.underlying65,rfl⟩,fun t h=>by cases h⟩,fun t h=>by cases h;exact ⟨rfl,rfl,by decide,rfl⟩⟩
def te69:TE:=⟨69,.struct [(0,9),(1,3),(2,3),(3,3),(4,33),(5,35)] none,true,7,80,.agg ⟨[.string ⟨⟨[]⟩⟩,.int .i64 0,.int .i64 0,.int .i64 0,.slice none 0 0,.int .i64 0,.int .i64 0]⟩,some (.pair .str (.pair (.int .i64) (.pair (.int .i64) (.pair (.int .i64) (.pair (.list (.pair (.int .u8) (.pair .bool Tc6))) (.pair Tc7 .unit))))))⟩
theorem zD0:TEok Try.prog te69:=⟨TI.of Try.underlying69 rfl (by kernel_rfl),⟨⟨_,Try.underlying69,rfl⟩,fun t h=>by cases h⟩,fun t h=>by cases h;exact ⟨rfl,rfl,by decide,rfl⟩⟩
def te79:TE:=⟨79,.struct [(0,35)] none,true,2,16,.agg ⟨[.int .i64 0,.int .i64 0]⟩,some (.pair Tc7 .unit)⟩
theorem zD1:TEok Try.prog te79:=⟨TI.of Try.underlying79 rfl (by kernel_rfl),⟨⟨_,Try.underlying79,rfl⟩,fun t h=>by cases h⟩,fun t h=>by cases h;exact ⟨rfl,rfl,by decide,rfl⟩⟩
def te82:TE:=⟨82,.struct [(0,9),(1,3),(2,3),(3,3)] none,true,4,40,.agg ⟨[.string ⟨⟨[]⟩⟩,.int .i64 0,.int .i64 0,.int .i64 0]⟩,some (.pair .str Tc6)⟩
theorem zD2:TEok Try.prog te82:=⟨TI.of Try.underlying82 rfl (by kernel_rfl),⟨⟨_,Try.underlying82,rfl⟩,fun t h=>by cases h⟩,fun t h=>by cases h;exact ⟨rfl,rfl,by decide,rfl⟩⟩
def te92:TE:=⟨92,.map 3 3 ((.int .i64)),false,1,8,.map none,none⟩
theorem zD3:TEok Try.prog te92:=⟨TI.of Try.underlying92 rfl (by kernel_rfl),⟨Try.underlying92,SK.int' Try.underlying3⟩,fun t h=>by cases h⟩
def TT:List TE:=[te3,te4,te5,te9,te22,te24,te25,te27,te28,te33,te35,te39,te40,te44,te48,te49,te51,te52,te56,te58,te59,te65,te69,te79,te82,te92]
theorem zaV:TOK Try.prog TT:=TOK.cons zEM (TOK.cons zEN (TOK.cons zEO (TOK.cons zEP (TOK.cons zDI (TOK.cons zDJ (TOK.cons zDK (TOK.cons zDL (TOK.cons zDM (TOK.cons zDN (TOK.cons zDO (TOK.cons zDP (TOK.cons zDQ (TOK.cons zDR (TOK.cons zDS (TOK.cons zDT (TOK.cons zDU (TOK.cons zDV (TOK.cons zDW (TOK.cons zDX (TOK.cons zDY (TOK.cons zDZ (TOK.cons zD0 (TOK.cons zD1 (TOK.cons zD2 (TOK.cons zD3 (TOK.nil))))))))))))))))))))))))))

def zn3:Shape:=⟨[(.int .i64),Tc2],[(0,.v 0),(1,.addr 1)],[]⟩
def zn2:Shape:=⟨[.bool],[(0,.v 0)],[]⟩
def zpi:CE:=⟨28,zn3,zn2,fun X=>zjB X.1 X.2⟩
theorem zuQ:CE.ok Try.prog zpi:=CE.of (Γ:=[]) (by kernel_rfl) zaV (GOK.nil) ⟨[],[],[],[]⟩ Try.func28 rfl Try.ntmps28 (rs:=[.tmp 3]) rfl (sig:=zn3) (out:=zn2) rfl Try.call28 (fun X=>by kernel_rfl)

def zn5:Shape:=⟨[Tc6,Tc2,Tc2],[(0,.v 0),(1,.ptr 100000 0),(2,.addr 1)],[(100000,.box 59 [.fn 28 [.addr 2]])]⟩
def zn4:Shape:=⟨[.bool,Tc2],[(0,.v 0)],[(100000,.box 59 [.fn 28 [.addr 1]])]⟩
def zpj:CE:=⟨30,zn5,zn4,fun X=>zjC X.1 X.2.1 X.2.2⟩
theorem zuR:CE.ok Try.prog zpj:=CE.of (Γ:=[zpi]) (by kernel_rfl) zaV (GOK.cons zuQ (GOK.nil)) ⟨[],[],[],[]⟩ Try.func30 rfl Try.ntmps30 (rs:=[.tmp 4]) rfl (sig:=zn5) (out:=zn4) rfl Try.call30 (fun X=>by kernel_rfl)

def zj3:Shape:=⟨[Tc5,Tc2,Tc2],[(0,.v 0),(1,.fn 30 [.ptr 100000 0,.addr 1])],[(100000,.box 59 [.fn 28 [.addr 2]])]⟩
def zj2:Shape:=⟨[(.int .i64),Tc2],[(0,.v 0)],[(100000,.box 59 [.fn 28 [.addr 1]])]⟩
def zk2:CE:=⟨63,zj3,zj2,fun X=>zoa X.1 X.2.1 X.2.2⟩
theorem zqJ:CE.ok Try.prog zk2:=CE.of (Γ:=[zpj]) (by kernel_rfl) zaV (GOK.cons zuR (GOK.nil)) ⟨[(2,⟨⟨[Tc2,(.int .i64),Tc2],[(1,.fn 30 [.ptr 100000 0,.addr 0]),(8,.v 1)],[(100000,.box 59 [.fn 28 [.addr 2]])]⟩,[4,5,9,10,11,12,13,14,15,16,17,18],[],[],0,[]⟩)],[],[],[]⟩ Try.func63 rfl Try.ntmps63 (rs:=[.tmp 4]) rfl (sig:=zj3) (out:=zj2) rfl Try.call63 (fun X=>by kernel_rfl)

def zig:Shape:=⟨[Tc5,Tc2,Tc2],[(0,.v 0),(1,.fn 30 [.ptr 100000 0,.addr 1])],[(100000,.box 59 [.fn 28 [.addr 2]])]⟩
def zif:Shape:=⟨[.bool,Tc2],[(0,.v 0)],[(100000,.box 59 [.fn 28 [.addr 1]])]⟩
def ziP:CE:=⟨29,zig,zif,fun X=>zgQ X.1 X.2.1 X.2.2⟩
theorem zol:CE.ok Try.prog ziP:=CE.of (Γ:=[zk2]) (by kernel_rfl) zaV (GOK.cons zqJ (GOK.nil)) ⟨[],[],[],[]⟩ Try.func29 rfl Try.ntmps29 (rs:=[.tmp 4]) rfl (sig:=zig) (out:=zif) rfl Try.call29 (fun X=>by kernel_rfl)

def zqW:Shape:=⟨[(.int .i64)],[(0,.v 0)],[]⟩
def zqV:Shape:=⟨[.bool],[(0,.v 0)],[]⟩
def zsN:CE:=⟨73,zqW,zqV,fun X=>zqU X⟩
theorem zw3:CE.ok Try.prog zsN:=CE.of (Γ:=[]) (by kernel_rfl) zaV (GOK.nil) ⟨[],[],[],[]⟩ Try.func73 rfl Try.ntmps73 (rs:=[.tmp 2]) rfl (sig:=zqW) (out:=zqV) rfl Try.call73 (fun X=>by kernel_rfl)

def zoD:Shape:=⟨[(.int .i64),(.int .i64)],[(0,.v 0),(1,.v 1)],[]⟩
def zoC:Shape:=⟨[(.int .i64)],[(0,.v 0)],[]⟩
def zp5:CE:=⟨65,zoD,zoC,fun X=>zi1 X.1 X.2⟩
theorem zu3:CE.ok Try.prog zp5:=CE.of (Γ:=[zsN]) (by kernel_rfl) zaV (GOK.cons zw3 (GOK.nil)) ⟨[],[],[],[]⟩ Try.func65 rfl Try.ntmps65 (rs:=[.tmp 4]) rfl (sig:=zoD) (out:=zoC) rfl Try.call65 (fun X=>by kernel_rfl)

def zvl:Shape:=⟨[(.list (.int .i64))],[(0,.v 0)],[]⟩
def zvk:Shape:=⟨[(.int .i64)],[(0,.v 0)],[]⟩
def zw2:CE:=⟨64,zvl,zvk,fun X=>zyO X⟩
theorem zAa:CE.ok Try.prog zw2:=CE.of (Γ:=[]) (by kernel_rfl) zaV (GOK.nil) ⟨[(3,⟨⟨[(.int .i64)],[(8,.v 0)],[]⟩,[2,5,9,10,11,12,13,14,15,16],[],[],0,[]⟩)],[],[],[]⟩ Try.func64 rfl Try.ntmps64 (rs:=[.tmp 2]) rfl (sig:=zvl) (out:=zvk) rfl Try.call64 (fun X=>by kernel_rfl)

def zqr:Shape:=⟨[Tc6,Tc6],[(0,.v 0),(1,.v 1)],[]⟩
def zqq:Shape:=⟨[(.int .i64)],[(0,.v 0)],[]⟩
def zr8:CE:=⟨31,zqr,zqq,fun X=>zpM X.1 X.2⟩
theorem zwL:CE.ok Try.prog zr8:=CE.of (Γ:=[zp5,zw2]) (by kernel_rfl) zaV (GOK.cons zu3 (GOK.cons zAa (GOK.nil))) ⟨[],[],[(1,[(0,0),(0,1),(0,2),(0,3),(0,5),(0,6),(0,7),(0,8),(0,10),(0,11),(0,12),(0,13),(1,4),(1,9),(1,14),(1,15),(1,16),(0,17)])],[]⟩ Try.func31 rfl Try.ntmps31 (rs:=[.tmp 4]) rfl (sig:=zqr) (out:=zqq) rfl Try.call31 (fun X=>by kernel_rfl)

def zqp:Shape:=⟨[Tc2],[(0,.v 0)],[]⟩
def zqo:Shape:=⟨[(.int .i64)],[(0,.v 0)],[]⟩
def zr7:CE:=⟨10,zqp,zqo,fun X=>zdH X⟩
theorem zwK:CE.ok Try.prog zr7:=CE.of (Γ:=[ziP,zr8]) (by kernel_rfl) zaV (GOK.cons zol (GOK.cons zwL (GOK.nil))) ⟨[(9,⟨⟨[(.int .i64)],[(35,.v 0)],[]⟩,[2,4,13,17,22,36,37,38,39,40,41,42,43,44,45,46,47,48,49,50,51,52,53,54,55],[],[1],2,[]⟩)],[],[(11,[(0,0),(0,1),(0,2),(0,3),(0,4),(0,5),(0,6),(0,7),(0,8),(0,9),(0,10),(0,11),(0,12),(0,13),(1,14),(0,15),(0,16)])],[]⟩ Try.func10 rfl Try.ntmps10 (rs:=[.tmp 2]) rfl (sig:=zqp) (out:=zqo) rfl Try.call10 (fun X=>by kernel_rfl)

def zjh:Shape:=⟨[(.pair .str Tc6)],[(0,.addr 0)],[]⟩
def zjg:Shape:=⟨[(.int .u8)],[(0,.v 0)],[]⟩
def zcx:CE:=⟨67,zjh,zjg,fun X=>zb8 X⟩
theorem zc3:CE.ok Try.prog zcx:=CE.of (Γ:=[]) (by kernel_rfl) zaV (GOK.nil) ⟨[],[],[(1,[(0,0),(0,1),(0,2),(0,3),(0,4),(0,5),(0,6),(0,7),(0,8),(0,9)]),(2,[(0,0),(0,1),(0,2),(0,3),(0,4),(0,5),(0,6),(0,7),(0,8),(0,9)])],[]⟩ Try.func67 rfl Try.ntmps67 (rs:=[.tmp 2]) rfl (sig:=zjh) (out:=zjg) rfl Try.call67 (fun X=>by kernel_rfl)

def ziq:Shape:=⟨[(.pair .str Tc6),(.int .i64)],[(0,.addr 0),(1,.v 1)],[]⟩
def zio:Shape:=⟨[],[],[]⟩
def zby:CEp:=⟨34,ziq,zio,fun X=>zbO X.1 X.2⟩
theorem zb7:CEp.ok Try.prog 79 zby:=CEp.of (Γ:=[]) (Γp:=[]) (by kernel_rfl) zaV (GOK.nil) (GPOK.nil) ⟨[],[],[(2000000,[(0,0),(0,1),(0,2),(0,3),(0,4),(0,5),(0,6),(6,7),(2,8)])],[]⟩ Try.func34 rfl Try.ntmps34 (rs:=[]) rfl (sig:=ziq) (out:=zio) rfl Try.call34 (fun X=>by kernel_rfl)

def zfV:Shape:=⟨[.str,(.int .i64),(.int .i64),(.int .i64)],[(0,.ptr 100000 0)],[(100000,.box 82 [.v 0,.v 1,.v 2,.v 3])]⟩
def zfU:Shape:=⟨[.str,(.int .i64),(.int .i64),(.int .i64)],[],[(100000,.box 82 [.v 0,.v 1,.v 2,.v 3])]⟩
def zb6:CEp:=⟨68,zfV,zfU,fun X=>zaO X.1 X.2.1 X.2.2.1 X.2.2.2⟩
theorem zcU:CEp.ok Try.prog 79 zb6:=CEp.of (Γ:=[]) (Γp:=[zby]) (by kernel_rfl) zaV (GOK.nil) (GPOK.cons zb7 (GPOK.nil)) ⟨[],[],[(2000002,[(0,0),(5,1)])],[]⟩ Try.func68 rfl Try.ntmps68 (rs:=[]) rfl (sig:=zfV) (out:=zfU) rfl Try.call68 (fun X=>by kernel_rfl)

def zis:Shape:=⟨[.str,(.int .i64),(.int .i64),(.int .i64)],[(0,.ptr 100000 0)],[(100000,.box 82 [.v 0,.v 1,.v 2,.v 3])]⟩
def zir:Shape:=⟨[.str,(.int .i64),(.int .i64),(.int .i64)],[],[(100000,.box 82 [.v 0,.v 1,.v 2,.v 3])]⟩
def ze7:CEp:=⟨79,zis,zir,fun X=>zdI X.1 X.2.1 X.2.2.1 X.2.2.2⟩
theorem zji:CEp.ok Try.prog 79 ze7:=CEp.of (Γ:=[]) (Γp:=[zby]) (by kernel_rfl) zaV (GOK.nil) (GPOK.cons zb7 (GPOK.nil)) ⟨[],[],[(2000001,[(0,0),(5,1)])],[]⟩ Try.func79 rfl Try.ntmps79 (rs:=[]) rfl (sig:=zis) (out:=zir) rfl Try.call79 (fun X=>by kernel_rfl)

def ziy:Shape:=⟨[(.int .u8),.str,(.int .i64),(.int .i64),(.int .i64)],[(0,.ptr 100000 0),(1,.v 0)],[(100000,.box 82 [.v 1,.v 2,.v 3,.v 4])]⟩
def zix:Shape:=⟨[.str,(.int .i64),(.int .i64),(.int .i64)],[],[(100000,.box 82 [.v 0,.v 1,.v 2,.v 3])]⟩
def ze9:CEp:=⟨81,ziy,zix,fun X=>zdK X.1 X.2.1 X.2.2.1 X.2.2.2.1 X.2.2.2.2⟩
theorem zjm:CEp.ok Try.prog 79 ze9:=CEp.of (Γ:=[zcx]) (Γp:=[zby]) (by kernel_rfl) zaV (GOK.cons zc3 (GOK.nil)) (GPOK.cons zb7 (GPOK.nil)) ⟨[],[],[(2000001,[(0,0),(5,1)])],[]⟩ Try.func81 rfl Try.ntmps81 (rs:=[]) rfl (sig:=ziy) (out:=zix) rfl Try.call81 (fun X=>by kernel_rfl)

def ziu:Shape:=⟨[.str,(.int .i64),(.int .i64),(.int .i64)],[(0,.ptr 100000 0)],[(100000,.box 82 [.v 0,.v 1,.v 2,.v 3])]⟩
def zit:Shape:=⟨[.str,(.int .i64),(.int .i64),(.int .i64)],[],[(100000,.box 82 [.v 0,.v 1,.v 2,.v 3])]⟩
def ze8:CEp:=⟨80,ziu,zit,fun X=>zdJ X.1 X.2.1 X.2.2.1 X.2.2.2⟩
theorem zjk:CEp.ok Try.prog 79 ze8:=CEp.of (Γ:=[]) (Γp:=[ze9]) (by kernel_rfl) zaV (GOK.nil) (GPOK.cons zjm (GPOK.nil)) ⟨[],[],[(2000000,[(0,0),(5,1)])],[]⟩ Try.func80 rfl Try.ntmps80 (rs:=[]) rfl (sig:=ziu) (out:=zit) rfl Try.call80 (fun X=>by kernel_rfl)

def zas:Shape:=⟨[.str,(.int .i64),(.int .i64),(.int .i64)],[(0,.ptr 100000 0)],[(100000,.box 82 [.v 0,.v 1,.v 2,.v 3])]⟩
def zar:Shape:=⟨[(.tree (.pair (.int .u8) (.pair .bool (.pair (.int .i64) .unit)))),.str,(.int .i64),(.int .i64),(.int .i64)],[(0,.v 0)],[(100000,.box 82 [.v 1,.v 2,.v 3,.v 4])]⟩
def zou:CEp:=⟨74,zas,zar,LFix zc4⟩
def ziw:Shape:=⟨[.str,(.int .i64),(.int .i64),(.int .i64)],[(0,.ptr 100000 0)],[(100000,.box 82 [.v 0,.v 1,.v 2,.v 3])]⟩
def ziv:Shape:=⟨[(.tree (.pair (.int .u8) (.pair .bool (.pair (.int .i64) .unit)))),.str,(.int .i64),(.int .i64),(.int .i64)],[(0,.v 0)],[(100000,.box 82 [.v 1,.v 2,.v 3,.v 4])]⟩
def zjl (rec:Tup zas.tys->Option (Tup zar.tys⊕(Int×Int))):CEp:=⟨66,ziw,ziv,fun X=>zbq (fun c c_1 c_2 c_3=>rec (c,c_1,c_2,c_3)) X.1 X.2.1 X.2.2.1 X.2.2.2⟩
theorem zox (rec:Tup zas.tys->Option (Tup zar.tys⊕(Int×Int))) (hrec:CEp.ok Try.prog 79 ⟨74,zas,zar,rec⟩):CEp.ok Try.prog 79 (zjl rec):=CEp.of (Γ:=[zcx]) (Γp:=[⟨74,zas,zar,rec⟩,zb6]) (by kernel_rfl) zaV (GOK.cons zc3 (GOK.nil)) (GPOK.cons hrec (GPOK.cons zcU (GPOK.nil))) ⟨[(2,⟨⟨[(.tree (.pair (.int .u8) (.pair .bool (.pair (.int .i64) .unit)))),.str,(.int .i64),(.int .i64),(.int .i64)],[(0,.ptr 100000 0),(3,.v 0)],[(100000,.box 82 [.v 1,.v 2,.v 3,.v 4])]⟩,[6,7,8,9,10,11,12,13,14,15,16],[],[],0,[]⟩)],[],[(2000001,[(0,0),(5,1),(0,2)]),(2000003,[(0,0),(5,1)]),(2000004,[(0,0),(0,1),(5,2),(2,3),(0,4),(2,5),(0,6)])],[]⟩ Try.func66 rfl Try.ntmps66 (rs:=[.tmp 2]) rfl (sig:=ziw) (out:=ziv) rfl Try.call66 (fun X=>by kernel_rfl)
def zhE:Shape:=⟨[.str,(.int .i64),(.int .i64),(.int .i64)],[(0,.ptr 100000 0)],[(100000,.box 82 [.v 0,.v 1,.v 2,.v 3])]⟩
def zhD:Shape:=⟨[(.tree (.pair (.int .u8) (.pair .bool (.pair (.int .i64) .unit)))),.str,(.int .i64),(.int .i64),(.int .i64)],[(0,.v 0)],[(100000,.box 82 [.v 1,.v 2,.v 3,.v 4])]⟩
def zdx (rec:Tup zas.tys->Option (Tup zar.tys⊕(Int×Int))):CEp:=⟨33,zhE,zhD,fun X=>zaS (fun c c_1 c_2 c_3=>rec (c,c_1,c_2,c_3)) X.1 X.2.1 X.2.2.1 X.2.2.2⟩
theorem zeY (rec:Tup zas.tys->Option (Tup zar.tys⊕(Int×Int))) (hrec:CEp.ok Try.prog 79 ⟨74,zas,zar,rec⟩):CEp.ok Try.prog 79 (zdx rec):=CEp.of (Γ:=[zcx]) (Γp:=[zjl rec,zb6]) (by kernel_rfl) zaV (GOK.cons zc3 (GOK.nil)) (GPOK.cons (zox rec hrec) (GPOK.cons zcU (GPOK.nil))) ⟨[(2,⟨⟨[(.tree (.pair (.int .u8) (.pair .bool (.pair (.int .i64) .unit)))),.str,(.int .i64),(.int .i64),(.int .i64)],[(0,.ptr 100000 0),(3,.v 0)],[(100000,.box 82 [.v 1,.v 2,.v 3,.v 4])]⟩,[6,7,8,9,10,11,12,13,14,15,16],[],[],0,[]⟩)],[],[(2000001,[(0,0),(5,1),(0,2)]),(2000003,[(0,0),(5,1)]),(2000004,[(0,0),(0,1),(5,2),(2,3),(0,4),(2,5),(0,6)])],[]⟩ Try.func33 rfl Try.ntmps33 (rs:=[.tmp 2]) rfl (sig:=zhE) (out:=zhD) rfl Try.call33 (fun X=>by kernel_rfl)
def ziA:Shape:=⟨[.bool,.str,(.int .i64),(.int .i64),(.int .i64)],[(0,.ptr 100000 0),(1,.v 0)],[(100000,.box 82 [.v 1,.v 2,.v 3,.v 4])]⟩
def ziz:Shape:=⟨[(.tree (.pair (.int .u8) (.pair .bool (.pair (.int .i64) .unit)))),.str,(.int .i64),(.int .i64),(.int .i64)],[(0,.v 0)],[(100000,.box 82 [.v 1,.v 2,.v 3,.v 4])]⟩
def zjn (rec:Tup zas.tys->Option (Tup zar.tys⊕(Int×Int))):CEp:=⟨78,ziA,ziz,fun X=>zce (fun c c_1 c_2 c_3=>rec (c,c_1,c_2,c_3)) X.1 X.2.1 X.2.2.1 X.2.2.2.1 X.2.2.2.2⟩
theorem zoy (rec:Tup zas.tys->Option (Tup zar.tys⊕(Int×Int))) (hrec:CEp.ok Try.prog 79 ⟨74,zas,zar,rec⟩):CEp.ok Try.prog 79 (zjn rec):=CEp.of (Γ:=[zcx]) (Γp:=[zb6,⟨74,zas,zar,rec⟩,ze7,zdx rec,ze9,ze8,zby]) (by kernel_rfl) zaV (GOK.cons zc3 (GOK.nil)) (GPOK.cons zcU (GPOK.cons hrec (GPOK.cons zji (GPOK.cons (zeY rec hrec) (GPOK.cons zjm (GPOK.cons zjk (GPOK.cons zb7 (GPOK.nil)))))))) ⟨[],[(6,⟨⟨[.bool],[(13,.v 0)],[]⟩,[14,15,16],[],[],0,[]⟩)],[(2000001,[(0,0),(5,1)]),(2000008,[(0,0),(0,1),(0,2),(5,3),(2,4),(0,5),(2,6),(0,7)]),(2000010,[(0,0),(5,1)]),(2000011,[(0,0),(5,1),(0,2)]),(2000012,[(0,0),(5,1)]),(2000013,[(0,0),(5,1),(0,2)]),(2000014,[(0,0),(5,1)]),(2000016,[(0,0),(5,1)])],[]⟩ Try.func78 rfl Try.ntmps78 (rs:=[.tmp 4]) rfl (sig:=ziA) (out:=ziz) rfl Try.call78 (fun X=>by kernel_rfl)
theorem zow:CEp.ok Try.prog 79 zou:=CEp.ofRec (Γ:=[zcx]) (Γp:=fun rec=>[zb6,zjn rec,ze7,zdx rec,ze8,zby]) (by kernel_rfl) zaV (GOK.cons zc3 (GOK.nil)) ⟨[],[(2,⟨⟨[.bool],[(7,.v 0)],[]⟩,[8,9,10,11,12,13],[],[],0,[]⟩),(5,⟨⟨[.bool],[(19,.v 0)],[]⟩,[20,21,22,23,24,25],[],[],0,[]⟩),(11,⟨⟨[.bool],[(43,.v 0)],[]⟩,[44,45,46,47,48,49],[],[],0,[]⟩),(14,⟨⟨[],[],[]⟩,[2,3,5,6,7,8,9,10,11,12,13,14,15,16,17,18,19,20,21,22,23,24,25,26,27,28,29,30,31,32,33,34,35,36,37,38,39,40,41,42,43,44,45,46,47,48,49,50,51,52,53,54,55,56,57,58],[],[],0,[]⟩)],[(2000003,[(0,0),(5,1)]),(2000006,[(0,0),(5,1)]),(2000009,[(0,0),(5,1)]),(2000010,[(0,0),(5,1),(2,2),(0,3),(2,4),(0,5)]),(2000012,[(0,0),(0,1),(0,2),(5,3),(0,4)]),(2000014,[(0,0),(5,1)]),(2000015,[(0,0),(5,1)]),(2000016,[(0,0),(5,1),(0,2)]),(2000017,[(0,0),(5,1)])],[]⟩ Try.func74 rfl Try.ntmps74 (rs:=[.tmp 2]) rfl (sig:=zas) (out:=zar) rfl (fun rec hrec=>(GPOK.cons zcU (GPOK.cons (zoy rec hrec) (GPOK.cons zji (GPOK.cons (zeY rec hrec) (GPOK.cons zjk (GPOK.cons zb7 (GPOK.nil)))))))) Try.call74 (d:=zc4) (fun rc X=>by kernel_rfl)
def zgV:CEp:=zdx (LFix zc4)
theorem zmo:CEp.ok Try.prog 79 zgV:=zeY _ zow
def znQ:Shape:=⟨[.str],[(0,.v 0)],[]⟩
def znP:Shape:=⟨[(.tree (.pair (.int .u8) (.pair .bool (.pair (.int .i64) .unit)))),Tc7],[(0,.v 0),(1,.v 1)],[]⟩
def zot:CE:=⟨11,znQ,znP,fun X=>zbN X⟩
theorem zsj (p:Int×Int):evC TT [] [] 0 bothS ⟨[],[],[],[(7,.one 0 (.alt 0 1 (.leaf [(2,2),(2,3)]) (.alt 2 2 (.leaf [(0,1),(2,3)]) .stop)))]⟩ (zz9 (Try.f32.body.getD .skip)) (zBu 13 10 44 35 p) (zEJ true 44 35)=bothS (some (p.1,p.2)) (some (p.1,p.2)):=by kernel_rfl
theorem zsi (va vb:Value) (w:World):CallsD Try.prog 32 #[va,vb] .returning w (fun e u w'=>(∃ v,e = .returned v)/\u = .returning/\w'=w):=by
  refine callsD_of_wpS Try.func32 rfl fun c₀ cs hu => ?_
  apply wpS_seq
  apply wpS_region
  simp [wpOpsS,go_sem,recoverD,hu,Try.ntmps32,Exit.thenS]
  refine wpS_of_wp (wp_block (wp_seq (wp_region ?_)))
  simp [wpOps,go_sem]
  left
  refine wp_cond (t:=true) (by simp [Act.eval,Array.replicate]) ?_
  simp only [if_true]
  refine wp_region ?_
  simp [wpOps,go_sem]
  left
  cases c₀
  simp_all [bodyPostS,results,Try.results32]
theorem zqy (p:Int×Int) (w:World) (ba bb:Nat) (ca cb:Array Value) (hne:ba≠bb) (h1:w.heap[ba]? =some (.cells ca 44 (0,0))) (h2:ca.size=1) (h3:w.heap[bb]? =some (.cells cb 35 (0,0))) (h4:cb.size=2):
    CallsD Try.prog 32 #[.pointer (some ⟨ba,0,none⟩),.pointer (some ⟨bb,0,none⟩)] (.panicking (pch 79 p)) w (fun e u w'=>(∃ v,e = .returned v)/\settle u = .returning/\
      (w'.os=w.os/\w'.tape=w.tape/\w'.output=w.output/\w.heap.size<=w'.heap.size)/\(∀ b,b < w.heap.size->b≠ba->b≠bb->w'.heap[b]? =w.heap[b]?)/\
      w'.heap[ba]? =some (.cells #[zV true] 44 (0,0))/\w'.heap[bb]? =some (.cells #[.int .i64 p.1,.int .i64 p.2] 35 (0,0))):=by
  refine callsD_of_wpS Try.func32 rfl fun c₀ cs hu => ?_
  apply wpS_seq
  apply wpS_region
  simp [wpOpsS,go_sem,recoverD,hu,Try.ntmps32,Exit.thenS,pch]
  refine wpS_of_wp (wp_block (wp_seq (wp_region ?_)))
  simp [wpOps,go_sem]
  left
  refine wp_cond (t:=false) (by simp [Act.eval,Array.replicate]) ?_
  simp only [Bool.false_eq_true,if_false]
  refine wp_seq (wp_region ?_)
  simp [wpOps,go_sem,zzP Try.underlying79]
  left
  left
  left
  refine wp_cond (t:=true) (by simp [Act.eval,Array.replicate]) ?_
  simp only [if_true]
  refine wp_mono (zDF (by kernel_rfl) zaV (zsj p) hne h1 h2 h3 h4 ?_ ?_ ?_ ?_ ?_) fun e a' w' hh => ?_
  · simp
  · rfl
  · simp [Array.replicate]
  · simp [Array.replicate]
  · simp [Array.replicate]
  · obtain ⟨rfl,hd,ho,hk,y1,y2⟩:=hh
    exact ⟨hd,_,rfl,.tuple #[],by simp [results,Try.results32],⟨_,rfl⟩,rfl,ho,hk,y1,y2⟩
theorem zqR:CatchOK Try.prog 79 32 44 35 (zV true):=⟨Try.call32,zsi,zqy⟩
theorem zt1:CE.ok Try.prog zot:=CE.ofCatch (Γ:=[]) (Γp:=[zgV,zby]) (T:=79) (by kernel_rfl) zaV (GOK.nil) (GPOK.cons zmo (GPOK.cons zb7 (GPOK.nil))) ⟨[],[],[(3000003,[]),(2000005,[(0,0),(5,1),(2,2)]),(2000007,[(0,0),(5,1)])],[]⟩ Try.func11 rfl Try.ntmps11 (rs:=[.cell 2 44,.cell 3 35]) rfl (sig:=znQ) (out:=znP) rfl Try.call11 (g:=32) (sa:=2) (sb:=3) (Ta:=44) (Tb:=35) (z:=zE true) zqR (zEQ true) (fun X=>by kernel_rfl)

def zoc:Shape:=⟨[(.list (.int .u8)),(.int .u8)],[(0,.v 0),(1,.v 1)],[]⟩
def zob:Shape:=⟨[(.int .i64)],[(0,.v 0)],[]⟩
def zpr:CE:=⟨35,zoc,zob,fun X=>ztd X.1 X.2⟩
theorem zuS:CE.ok Try.prog zpr:=CE.of (Γ:=[]) (by kernel_rfl) zaV (GOK.nil) ⟨[(2,⟨⟨[(.int .i64)],[(8,.v 0)],[]⟩,[4,5,9,10,11,12,13,14,15,16,17,18],[],[],0,[]⟩)],[],[],[]⟩ Try.func35 rfl Try.ntmps35 (rs:=[.tmp 4]) rfl (sig:=zoc) (out:=zob) rfl Try.call35 (fun X=>by kernel_rfl)

def zkZ:Shape:=⟨[(.list (.int .u8)),(.int .u8)],[(0,.v 0),(1,.v 1)],[]⟩
def zkY:Shape:=⟨[.bool],[(0,.v 0)],[]⟩
def zlU:CE:=⟨12,zkZ,zkY,fun X=>zfv X.1 X.2⟩
theorem zr9:CE.ok Try.prog zlU:=CE.of (Γ:=[zpr]) (by kernel_rfl) zaV (GOK.cons zuS (GOK.nil)) ⟨[],[],[],[]⟩ Try.func12 rfl Try.ntmps12 (rs:=[.tmp 4]) rfl (sig:=zkZ) (out:=zkY) rfl Try.call12 (fun X=>by kernel_rfl)

def zlX:Shape:=⟨[(.list (.int .i64)),(.int .i64)],[(0,.v 0),(1,.v 1)],[]⟩
def zlW:Shape:=⟨[(.int .i64)],[(0,.v 0)],[]⟩
def zfE:CE:=⟨50,zlX,zlW,fun X=>zeW X.1 X.2⟩
theorem zja:CE.ok Try.prog zfE:=CE.of (Γ:=[]) (by kernel_rfl) zaV (GOK.nil) ⟨[(2,⟨⟨[(.int .i64)],[(8,.v 0)],[]⟩,[4,5,9,10,11,12,13,14,15,16,17,18],[],[],0,[]⟩)],[],[],[]⟩ Try.func50 rfl Try.ntmps50 (rs:=[.tmp 4]) rfl (sig:=zlX) (out:=zlW) rfl Try.call50 (fun X=>by kernel_rfl)

def zjE:Shape:=⟨[(.list (.int .i64)),(.int .i64)],[(0,.v 0),(1,.v 1)],[]⟩
def zjD:Shape:=⟨[.bool],[(0,.v 0)],[]⟩
def zj1:CE:=⟨36,zjE,zjD,fun X=>zi9 X.1 X.2⟩
theorem zpW:CE.ok Try.prog zj1:=CE.of (Γ:=[zfE]) (by kernel_rfl) zaV (GOK.cons zja (GOK.nil)) ⟨[],[],[],[]⟩ Try.func36 rfl Try.ntmps36 (rs:=[.tmp 4]) rfl (sig:=zjE) (out:=zjD) rfl Try.call36 (fun X=>by kernel_rfl)

def zlv:Shape:=⟨[Tc2],[(0,.v 0)],[]⟩
def zlu:Shape:=⟨[Tc1],[(0,.addr 0)],[]⟩
def zmI:CE:=⟨13,zlv,zlu,fun X=>zcd X⟩
theorem zsk:CE.ok Try.prog zmI:=CE.of (Γ:=[zj1]) (by kernel_rfl) zaV (GOK.cons zpW (GOK.nil)) ⟨[(3,⟨⟨[(.int .i64),(.int .i64),(.int .i64),Tc5,(.list (.list (.int .i64)))],[(3,.ptr 1 0),(17,.v 0)],[(1,.box 58 [.v 1,.v 2,.v 3,.own 2]),(2,.out 3 25 3 4)]⟩,[5,18,19,20,21,22,23,24,25,26,27,28,29,30,31,32,33,34,35,36,37,38,39,40,41,42,43,44,45,46,47,48,49,50,51,52],[],[0],4,[]⟩),(9,⟨⟨[(.int .i64),(.int .i64),(.int .i64),Tc5,(.list (.list (.int .i64)))],[(3,.ptr 1 0),(56,.own 2),(58,.v 0)],[(1,.box 58 [.v 1,.v 2,.v 3,.own 2]),(2,.out 3 25 3 4)]⟩,[6,7,53,54,55,59,60,61,62,63,64,65,66,67,68,69,70,71,72,73,74],[],[0],4,[]⟩)],[(1,⟨⟨[(.int .i64),(.int .i64),Tc5,(.list (.list (.int .i64)))],[(3,.ptr 1 0)],[(1,.box 58 [.v 0,.v 1,.v 2,.own 2]),(2,.out 3 25 3 3)]⟩,[8,9,10,11,12,13],[],[0],4,[]⟩),(6,⟨⟨[(.int .i64),(.int .i64),Tc5,(.list (.list (.int .i64)))],[(3,.ptr 1 0)],[(1,.box 58 [.v 0,.v 1,.v 2,.own 2]),(2,.out 4 25 3 3)]⟩,[5,19,20,21,22,23,24,25,26,27,28,29,30,31,32,33,34,35,36,37,38,39,40,41,42,43,44,45,46,47,48,49,50,51],[3],[0],5,[]⟩)],[(5,[(0,0),(0,1),(0,2),(0,3),(0,4),(0,5),(0,6),(0,7),(0,8),(0,9),(1,10),(0,11)]),(12,[(0,0),(0,1),(0,2),(0,3),(0,4),(0,5),(2,6),(0,7),(4,8)])],[(1,(.one 1 (.live [3] (.rd 2 [3,4,5,6] (.ban 0 [4,5,6] (.alt 4 3 (.leaf [(1,4),(1,5),(0,6)]) .stop) (.alt 4 3 (.leaf [(0,0),(1,4),(1,5),(0,6)]) .stop)))))),(6,(.one 0 (.one 1 (.one 2 (.one 4 (.one 6 (.one 7 (.one 8 (.one 10 (.one 14 (.live [17,19] (.rd 9 [12,13,17,18,19] (.rd 11 [12,13,17,18,19] (.one 12 (.rd 13 [17,18,19] (.rd 15 [16,17,18,19] (.ban 3 [18,19] (.ban 5 [18,19] (.alt 1 16 (.alt 4 17 (.leaf [(0,18),(4,19)]) .stop) .stop) (.alt 1 16 (.alt 4 17 (.leaf [(0,5),(0,18),(4,19)]) .stop) .stop)) (.ban 5 [18,19] (.alt 1 16 (.alt 4 17 (.leaf [(0,3),(0,18),(4,19)]) .stop) .stop) (.alt 1 16 (.alt 4 17 (.leaf [(0,3),(0,5),(0,18),(4,19)]) .stop) .stop)))))))))))))))))))]⟩ Try.func13 rfl Try.ntmps13 (rs:=[.tmp 2]) rfl (sig:=zlv) (out:=zlu) rfl Try.call13 (fun X=>by kernel_rfl)

def zgh:Shape:=⟨[(.int .i64),(.tree (.pair (.int .u8) (.pair .bool (.pair (.int .i64) .unit))))],[(0,.v 0),(1,.addr 1)],[]⟩
def zgg:Shape:=⟨[.bool],[(0,.v 0)],[]⟩
def zhi:CE:=⟨38,zgh,zgg,fun X=>zdS X.1 X.2⟩
theorem zmA:CE.ok Try.prog zhi:=CE.of (Γ:=[]) (by kernel_rfl) zaV (GOK.nil) ⟨[],[],[],[]⟩ Try.func38 rfl Try.ntmps38 (rs:=[.tmp 3]) rfl (sig:=zgh) (out:=zgg) rfl Try.call38 (fun X=>by kernel_rfl)

def ziC:Shape:=⟨[Tc1,(.tree (.pair (.int .u8) (.pair .bool (.pair (.int .i64) .unit))))],[(0,.addr 0),(1,.fn 38 [.addr 1])],[]⟩
def ziB:Shape:=⟨[(.list .bool)],[(0,.own 0)],[(0,.arr 4 0)]⟩
def zjo:CE:=⟨37,ziC,ziB,fun X=>zdL X.1 X.2⟩
theorem zoz:CE.ok Try.prog zjo:=CE.of (Γ:=[zhi]) (by kernel_rfl) zaV (GOK.cons zmA (GOK.nil)) ⟨[(3,⟨⟨[(.int .i64),(.list .bool)],[(5,.own 0),(15,.v 0)],[(0,.arr 4 1)]⟩,[6,12,13,16,17,18,19,20,21,22,23,24],[],[],1,[]⟩)],[],[],[]⟩ Try.func37 rfl Try.ntmps37 (rs:=[.tmp 4]) rfl (sig:=ziC) (out:=ziB) rfl Try.call37 (fun X=>by kernel_rfl)

def zfi:Shape:=⟨[Tc6,(.int .i64),(.tree (.pair (.int .u8) (.pair .bool (.pair (.int .i64) .unit))))],[(0,.v 0),(1,.addr 1),(2,.addr 2)],[]⟩
def zfh:Shape:=⟨[.bool],[(0,.v 0)],[]⟩
def zfQ:CE:=⟨40,zfi,zfh,fun X=>zcj X.1 X.2.1 X.2.2⟩
theorem zln:CE.ok Try.prog zfQ:=CE.of (Γ:=[]) (by kernel_rfl) zaV (GOK.nil) ⟨[],[],[(1,[(0,0),(0,1),(0,2),(0,3),(0,4),(0,5),(0,6),(0,7),(0,8),(0,9),(0,10),(0,11),(0,12),(0,13)])],[]⟩ Try.func40 rfl Try.ntmps40 (rs:=[.tmp 4]) rfl (sig:=zfi) (out:=zfh) rfl Try.call40 (fun X=>by kernel_rfl)

def ziR:Shape:=⟨[Tc5,(.int .i64),(.tree (.pair (.int .u8) (.pair .bool (.pair (.int .i64) .unit))))],[(0,.v 0),(1,.fn 40 [.addr 1,.addr 2])],[]⟩
def ziQ:Shape:=⟨[(.int .i64)],[(0,.v 0)],[]⟩
def zjH:CE:=⟨63,ziR,ziQ,fun X=>zii X.1 X.2.1 X.2.2⟩
theorem zpo:CE.ok Try.prog zjH:=CE.of (Γ:=[zfQ]) (by kernel_rfl) zaV (GOK.cons zln (GOK.nil)) ⟨[(2,⟨⟨[(.int .i64)],[(8,.v 0)],[]⟩,[4,5,9,10,11,12,13,14,15,16,17,18],[],[],0,[]⟩)],[],[],[]⟩ Try.func63 rfl Try.ntmps63 (rs:=[.tmp 4]) rfl (sig:=ziR) (out:=ziQ) rfl Try.call63 (fun X=>by kernel_rfl)

def zgB:Shape:=⟨[Tc5,(.int .i64),(.tree (.pair (.int .u8) (.pair .bool (.pair (.int .i64) .unit))))],[(0,.v 0),(1,.fn 40 [.addr 1,.addr 2])],[]⟩
def zgA:Shape:=⟨[.bool],[(0,.v 0)],[]⟩
def zhw:CE:=⟨29,zgB,zgA,fun X=>zd6 X.1 X.2.1 X.2.2⟩
theorem zm2:CE.ok Try.prog zhw:=CE.of (Γ:=[zjH]) (by kernel_rfl) zaV (GOK.cons zpo (GOK.nil)) ⟨[],[],[],[]⟩ Try.func29 rfl Try.ntmps29 (rs:=[.tmp 4]) rfl (sig:=zgB) (out:=zgA) rfl Try.call29 (fun X=>by kernel_rfl)

def zgj:Shape:=⟨[(.int .i64),(.tree (.pair (.int .u8) (.pair .bool (.pair (.int .i64) .unit)))),Tc1],[(0,.v 0),(1,.ptr 100000 0),(2,.addr 1)],[(100000,.box 52 [.addr 2])]⟩
def zgi:Shape:=⟨[.bool,Tc1],[(0,.v 0)],[(100000,.box 52 [.addr 1])]⟩
def zhj:CE:=⟨39,zgj,zgi,fun X=>zdT X.1 X.2.1 X.2.2⟩
theorem zmB:CE.ok Try.prog zhj:=CE.of (Γ:=[zhw]) (by kernel_rfl) zaV (GOK.cons zm2 (GOK.nil)) ⟨[],[],[],[]⟩ Try.func39 rfl Try.ntmps39 (rs:=[.tmp 4]) rfl (sig:=zgj) (out:=zgi) rfl Try.call39 (fun X=>by kernel_rfl)

def zgZ:Shape:=⟨[Tc1,(.tree (.pair (.int .u8) (.pair .bool (.pair (.int .i64) .unit)))),Tc1],[(0,.addr 0),(1,.fn 39 [.ptr 100000 0,.addr 1])],[(100000,.box 52 [.addr 2])]⟩
def zgY:Shape:=⟨[(.list .bool),Tc1],[(0,.own 0)],[(0,.arr 4 0),(100000,.box 52 [.addr 1])]⟩
def zhF:CE:=⟨37,zgZ,zgY,fun X=>zem X.1 X.2.1 X.2.2⟩
theorem znh:CE.ok Try.prog zhF:=CE.of (Γ:=[zhj]) (by kernel_rfl) zaV (GOK.cons zmB (GOK.nil)) ⟨[(3,⟨⟨[(.tree (.pair (.int .u8) (.pair .bool (.pair (.int .i64) .unit)))),(.int .i64),Tc1,(.list .bool)],[(1,.fn 39 [.ptr 100000 0,.addr 0]),(5,.own 0),(15,.v 1)],[(100000,.box 52 [.addr 2]),(0,.arr 4 3)]⟩,[6,12,13,16,17,18,19,20,21,22,23,24],[],[],1,[]⟩)],[],[],[]⟩ Try.func37 rfl Try.ntmps37 (rs:=[.tmp 4]) rfl (sig:=zgZ) (out:=zgY) rfl Try.call37 (fun X=>by kernel_rfl)

def zn7:Shape:=⟨[(.list .bool)],[(0,.v 0)],[]⟩
def zn6:Shape:=⟨[(.list .bool)],[(0,.own 0)],[(0,.arr 4 0)]⟩
def zie:CE:=⟨53,zn7,zn6,fun X=>zhv X⟩
theorem zkX:CE.ok Try.prog zie:=CE.of (Γ:=[]) (by kernel_rfl) zaV (GOK.nil) ⟨[],[],[],[]⟩ Try.func53 rfl Try.ntmps53 (rs:=[.tmp 2]) rfl (sig:=zn7) (out:=zn6) rfl Try.call53 (fun X=>by kernel_rfl)

def zp4:Shape:=⟨[(.list .bool)],[(0,.v 0)],[]⟩
def zp3:Shape:=⟨[(.list .bool)],[(0,.own 0)],[(0,.arr 4 0)]⟩
def zqQ:CE:=⟨41,zp4,zp3,fun X=>zcT X⟩
theorem zvT:CE.ok Try.prog zqQ:=CE.of (Γ:=[zie]) (by kernel_rfl) zaV (GOK.cons zkX (GOK.nil)) ⟨[(3,⟨⟨[(.int .i64),(.list .bool)],[(3,.own 0),(10,.v 0)],[(0,.arr 4 1)]⟩,[4,5,7,11,12,13,14,15,16,17,18,19,20],[],[],1,[]⟩)],[],[],[]⟩ Try.func41 rfl Try.ntmps41 (rs:=[.tmp 2]) rfl (sig:=zp4) (out:=zp3) rfl Try.call41 (fun X=>by kernel_rfl)

def zgl:Shape:=⟨[(.int .i64),(.list .bool),(.list .bool)],[(0,.v 0),(1,.addr 1),(2,.addr 2)],[]⟩
def zgk:Shape:=⟨[.bool],[(0,.v 0)],[]⟩
def zhk:CE:=⟨42,zgl,zgk,fun X=>zdU X.1 X.2.1 X.2.2⟩
theorem zmC:CE.ok Try.prog zhk:=CE.of (Γ:=[]) (by kernel_rfl) zaV (GOK.nil) ⟨[],[],[],[]⟩ Try.func42 rfl Try.ntmps42 (rs:=[.tmp 4]) rfl (sig:=zgl) (out:=zgk) rfl Try.call42 (fun X=>by kernel_rfl)

def zg1:Shape:=⟨[Tc1,(.list .bool),(.list .bool)],[(0,.addr 0),(1,.fn 42 [.addr 1,.addr 2])],[]⟩
def zg0:Shape:=⟨[(.list .bool)],[(0,.own 0)],[(0,.arr 4 0)]⟩
def zhG:CE:=⟨37,zg1,zg0,fun X=>zen X.1 X.2.1 X.2.2⟩
theorem zni:CE.ok Try.prog zhG:=CE.of (Γ:=[zhk]) (by kernel_rfl) zaV (GOK.cons zmC (GOK.nil)) ⟨[(3,⟨⟨[(.int .i64),(.list .bool)],[(5,.own 0),(15,.v 0)],[(0,.arr 4 1)]⟩,[6,12,13,16,17,18,19,20,21,22,23,24],[],[],1,[]⟩)],[],[],[]⟩ Try.func37 rfl Try.ntmps37 (rs:=[.tmp 4]) rfl (sig:=zg1) (out:=zg0) rfl Try.call37 (fun X=>by kernel_rfl)

def zgn:Shape:=⟨[(.int .i64),(.list .bool),(.list .bool)],[(0,.v 0),(1,.addr 1),(2,.addr 2)],[]⟩
def zgm:Shape:=⟨[.bool],[(0,.v 0)],[]⟩
def zhl:CE:=⟨43,zgn,zgm,fun X=>zdV X.1 X.2.1 X.2.2⟩
theorem zmD:CE.ok Try.prog zhl:=CE.of (Γ:=[]) (by kernel_rfl) zaV (GOK.nil) ⟨[],[],[],[]⟩ Try.func43 rfl Try.ntmps43 (rs:=[.tmp 4]) rfl (sig:=zgn) (out:=zgm) rfl Try.call43 (fun X=>by kernel_rfl)

def zg3:Shape:=⟨[Tc1,(.list .bool),(.list .bool)],[(0,.addr 0),(1,.fn 43 [.addr 1,.addr 2])],[]⟩
def zg2:Shape:=⟨[(.list .bool)],[(0,.own 0)],[(0,.arr 4 0)]⟩
def zhH:CE:=⟨37,zg3,zg2,fun X=>zeo X.1 X.2.1 X.2.2⟩
theorem znj:CE.ok Try.prog zhH:=CE.of (Γ:=[zhl]) (by kernel_rfl) zaV (GOK.cons zmD (GOK.nil)) ⟨[(3,⟨⟨[(.int .i64),(.list .bool)],[(5,.own 0),(15,.v 0)],[(0,.arr 4 1)]⟩,[6,12,13,16,17,18,19,20,21,22,23,24],[],[],1,[]⟩)],[],[],[]⟩ Try.func37 rfl Try.ntmps37 (rs:=[.tmp 4]) rfl (sig:=zg3) (out:=zg2) rfl Try.call37 (fun X=>by kernel_rfl)

def zf9:Shape:=⟨[(.int .i64),(.list .bool)],[(0,.v 0),(1,.addr 1)],[]⟩
def zf8:Shape:=⟨[.bool],[(0,.v 0)],[]⟩
def zhc:CE:=⟨71,zf9,zf8,fun X=>zcN X.1 X.2⟩
theorem zmv:CE.ok Try.prog zhc:=CE.of (Γ:=[]) (by kernel_rfl) zaV (GOK.nil) ⟨[],[],[],[]⟩ Try.func71 rfl Try.ntmps71 (rs:=[.tmp 3]) rfl (sig:=zf9) (out:=zf8) rfl Try.call71 (fun X=>by kernel_rfl)

def ziT:Shape:=⟨[(.list (.int .i64)),(.list .bool)],[(0,.v 0),(1,.fn 71 [.addr 1])],[]⟩
def ziS:Shape:=⟨[(.int .i64)],[(0,.v 0)],[]⟩
def zjI:CE:=⟨15,ziT,ziS,fun X=>zik X.1 X.2⟩
theorem zpp:CE.ok Try.prog zjI:=CE.of (Γ:=[zhc]) (by kernel_rfl) zaV (GOK.cons zmv (GOK.nil)) ⟨[(2,⟨⟨[(.int .i64)],[(8,.v 0)],[]⟩,[4,5,9,10,11,12,13,14,15,16,17,18],[],[],0,[]⟩)],[],[],[]⟩ Try.func15 rfl Try.ntmps15 (rs:=[.tmp 4]) rfl (sig:=ziT) (out:=ziS) rfl Try.call15 (fun X=>by kernel_rfl)

def zgD:Shape:=⟨[(.list (.int .i64)),(.list .bool)],[(0,.v 0),(1,.fn 71 [.addr 1])],[]⟩
def zgC:Shape:=⟨[.bool],[(0,.v 0)],[]⟩
def zhx:CE:=⟨70,zgD,zgC,fun X=>zd7 X.1 X.2⟩
theorem zm3:CE.ok Try.prog zhx:=CE.of (Γ:=[zjI]) (by kernel_rfl) zaV (GOK.cons zpp (GOK.nil)) ⟨[],[],[],[]⟩ Try.func70 rfl Try.ntmps70 (rs:=[.tmp 4]) rfl (sig:=zgD) (out:=zgC) rfl Try.call70 (fun X=>by kernel_rfl)

def zhP:Shape:=⟨[Tc1,(.int .i64),(.list .bool)],[(0,.addr 0),(1,.v 1),(2,.v 2)],[]⟩
def zhO:Shape:=⟨[.bool],[(0,.v 0)],[]⟩
def zdz:CE:=⟨48,zhP,zhO,fun X=>zcB X.1 X.2.1 X.2.2⟩
theorem zeZ:CE.ok Try.prog zdz:=CE.of (Γ:=[zhx]) (by kernel_rfl) zaV (GOK.cons zm3 (GOK.nil)) ⟨[],[],[],[]⟩ Try.func48 rfl Try.ntmps48 (rs:=[.tmp 6]) rfl (sig:=zhP) (out:=zhO) rfl Try.call48 (fun X=>by kernel_rfl)

def zn9:Shape:=⟨[(.list .bool),(.list .bool)],[(0,.v 0),(1,.v 1)],[]⟩
def zn8:Shape:=⟨[.bool],[(0,.v 0)],[]⟩
def zk1:CE:=⟨55,zn9,zn8,fun X=>zjG X.1 X.2⟩
theorem zpn:CE.ok Try.prog zk1:=CE.of (Γ:=[]) (by kernel_rfl) zaV (GOK.nil) ⟨[(4,⟨⟨[(.int .i64)],[(13,.v 0)],[]⟩,[4,5,14,15,16,17,18,19,20,21,22,23,24,25],[],[],0,[]⟩)],[],[(6,[(0,0),(0,1),(0,2),(0,3),(0,4),(0,5),(0,6),(0,7),(0,8)])],[]⟩ Try.func55 rfl Try.ntmps55 (rs:=[.tmp 4]) rfl (sig:=zn9) (out:=zn8) rfl Try.call55 (fun X=>by kernel_rfl)

def zfg:Shape:=⟨[(.int .i64),(.list .bool),Tc1,(.list .bool)],[(0,.v 0),(1,.ptr 100000 0),(2,.ptr 100001 0),(3,.ptr 100002 0)],[(100000,.box 40 [.own 100003]),(100001,.box 40 [.v 1]),(100002,.box 52 [.addr 2]),(100003,.arr 4 3)]⟩
def zff:Shape:=⟨[.bool,(.list .bool),(.list .bool),Tc1],[(0,.v 0)],[(100000,.box 40 [.own 50]),(50,.arr 4 1),(100001,.box 40 [.v 2]),(100002,.box 52 [.addr 3])]⟩
def zfP:CE:=⟨69,zfg,zff,fun X=>zdb X.1 X.2.1 X.2.2.1 X.2.2.2⟩
theorem zlm:CE.ok Try.prog zfP:=CE.of (Γ:=[zdz]) (by kernel_rfl) zaV (GOK.cons zeZ (GOK.nil)) ⟨[],[],[],[]⟩ Try.func69 rfl Try.ntmps69 (rs:=[.tmp 5]) rfl (sig:=zfg) (out:=zff) rfl Try.call69 (fun X=>by kernel_rfl)

def zg5:Shape:=⟨[Tc1,(.list .bool),Tc1,(.list .bool)],[(0,.addr 0),(1,.fn 69 [.ptr 100000 0,.ptr 100001 0,.ptr 100002 0])],[(100000,.box 40 [.own 100003]),(100001,.box 40 [.v 1]),(100002,.box 52 [.addr 2]),(100003,.arr 4 3)]⟩
def zg4:Shape:=⟨[(.list .bool),(.list .bool),(.list .bool),Tc1],[(0,.own 0)],[(0,.arr 4 0),(100000,.box 40 [.own 50]),(50,.arr 4 1),(100001,.box 40 [.v 2]),(100002,.box 52 [.addr 3])]⟩
def zhI:CE:=⟨37,zg5,zg4,fun X=>zep X.1 X.2.1 X.2.2.1 X.2.2.2⟩
theorem znk:CE.ok Try.prog zhI:=CE.of (Γ:=[zfP]) (by kernel_rfl) zaV (GOK.cons zlm (GOK.nil)) ⟨[(3,⟨⟨[(.int .i64),(.list .bool),Tc1,(.list .bool),(.list .bool)],[(1,.fn 69 [.ptr 100000 0,.ptr 100001 0,.ptr 100002 0]),(5,.own 0),(15,.v 0)],[(100000,.box 40 [.own 1]),(100001,.box 40 [.v 1]),(100002,.box 52 [.addr 2]),(0,.arr 4 3),(1,.arr 4 4)]⟩,[6,12,13,16,17,18,19,20,21,22,23,24],[100003],[],2,[]⟩)],[],[],[]⟩ Try.func37 rfl Try.ntmps37 (rs:=[.tmp 4]) rfl (sig:=zg5) (out:=zg4) rfl Try.call37 (fun X=>by kernel_rfl)

def zhX:Shape:=⟨[Tc1,(.list .bool),(.list .bool)],[(0,.addr 0),(1,.v 1),(2,.v 2)],[]⟩
def zhW:Shape:=⟨[(.list .bool)],[(0,.v 0)],[]⟩
def ziJ:CE:=⟨44,zhX,zhW,fun X=>zaT X.1 X.2.1 X.2.2⟩
theorem zof:CE.ok Try.prog ziJ:=CE.of (Γ:=[zie,zhI,zk1]) (by kernel_rfl) zaV (GOK.cons zkX (GOK.cons znk (GOK.cons zpn (GOK.nil)))) ⟨[(2,⟨⟨[Tc1,(.list .bool),(.list .bool)],[(3,.ptr 0 0),(4,.ptr 1 0),(7,.ptr 3 0)],[(0,.box 52 [.addr 0]),(1,.box 40 [.v 1]),(3,.box 40 [.own 2]),(2,.arr 4 2)]⟩,[6,8,10,11,12,13,14,15,16,17,18],[],[],4,[]⟩)],[],[],[]⟩ Try.func44 rfl Try.ntmps44 (rs:=[.tmp 6]) rfl (sig:=zhX) (out:=zhW) rfl Try.call44 (fun X=>by kernel_rfl)

def zfN:Shape:=⟨[(.int .i64),Tc1,(.list .bool)],[(0,.v 0),(1,.ptr 100000 0),(2,.ptr 100001 0)],[(100000,.box 40 [.own 100002]),(100001,.box 52 [.addr 1]),(100002,.arr 4 2)]⟩
def zfM:Shape:=⟨[.bool,(.list .bool),Tc1],[(0,.v 0)],[(100000,.box 40 [.own 50]),(50,.arr 4 1),(100001,.box 52 [.addr 2])]⟩
def zf7:CE:=⟨54,zfN,zfM,fun X=>zdy X.1 X.2.1 X.2.2⟩
theorem zl2:CE.ok Try.prog zf7:=CE.of (Γ:=[zdz]) (by kernel_rfl) zaV (GOK.cons zeZ (GOK.nil)) ⟨[],[],[],[]⟩ Try.func54 rfl Try.ntmps54 (rs:=[.tmp 4]) rfl (sig:=zfN) (out:=zfM) rfl Try.call54 (fun X=>by kernel_rfl)

def zg7:Shape:=⟨[Tc1,Tc1,(.list .bool)],[(0,.addr 0),(1,.fn 54 [.ptr 100000 0,.ptr 100001 0])],[(100000,.box 40 [.own 100002]),(100001,.box 52 [.addr 1]),(100002,.arr 4 2)]⟩
def zg6:Shape:=⟨[(.list .bool),(.list .bool),Tc1],[(0,.own 0)],[(0,.arr 4 0),(100000,.box 40 [.own 50]),(50,.arr 4 1),(100001,.box 52 [.addr 2])]⟩
def zhJ:CE:=⟨37,zg7,zg6,fun X=>zeq X.1 X.2.1 X.2.2⟩
theorem znl:CE.ok Try.prog zhJ:=CE.of (Γ:=[zf7]) (by kernel_rfl) zaV (GOK.cons zl2 (GOK.nil)) ⟨[(3,⟨⟨[(.int .i64),Tc1,(.list .bool),(.list .bool)],[(1,.fn 54 [.ptr 100000 0,.ptr 100001 0]),(5,.own 0),(15,.v 0)],[(100000,.box 40 [.own 1]),(100001,.box 52 [.addr 1]),(0,.arr 4 2),(1,.arr 4 3)]⟩,[6,12,13,16,17,18,19,20,21,22,23,24],[100002],[],2,[]⟩)],[],[],[]⟩ Try.func37 rfl Try.ntmps37 (rs:=[.tmp 4]) rfl (sig:=zg7) (out:=zg6) rfl Try.call37 (fun X=>by kernel_rfl)

def ziE:Shape:=⟨[Tc1,(.list .bool)],[(0,.addr 0),(1,.v 1)],[]⟩
def ziD:Shape:=⟨[(.list .bool)],[(0,.v 0)],[]⟩
def zfd:CE:=⟨19,ziE,ziD,fun X=>zbP X.1 X.2⟩
theorem zjp:CE.ok Try.prog zfd:=CE.of (Γ:=[zie,zhJ,zk1]) (by kernel_rfl) zaV (GOK.cons zkX (GOK.cons znl (GOK.cons zpn (GOK.nil)))) ⟨[(2,⟨⟨[Tc1,(.list .bool)],[(2,.ptr 0 0),(5,.ptr 2 0)],[(0,.box 52 [.addr 0]),(2,.box 40 [.own 1]),(1,.arr 4 1)]⟩,[4,6,8,9,10,11,12,13,14,15,16],[],[],3,[]⟩)],[],[],[]⟩ Try.func19 rfl Try.ntmps19 (rs:=[.tmp 4]) rfl (sig:=ziE) (out:=ziD) rfl Try.call19 (fun X=>by kernel_rfl)

def zgp:Shape:=⟨[(.int .i64),(.list .bool),(.list .bool)],[(0,.v 0),(1,.addr 1),(2,.addr 2)],[]⟩
def zgo:Shape:=⟨[.bool],[(0,.v 0)],[]⟩
def zhm:CE:=⟨45,zgp,zgo,fun X=>zdW X.1 X.2.1 X.2.2⟩
theorem zmE:CE.ok Try.prog zhm:=CE.of (Γ:=[]) (by kernel_rfl) zaV (GOK.nil) ⟨[],[],[],[]⟩ Try.func45 rfl Try.ntmps45 (rs:=[.tmp 4]) rfl (sig:=zgp) (out:=zgo) rfl Try.call45 (fun X=>by kernel_rfl)

def zg9:Shape:=⟨[Tc1,(.list .bool),(.list .bool)],[(0,.addr 0),(1,.fn 45 [.addr 1,.addr 2])],[]⟩
def zg8:Shape:=⟨[(.list .bool)],[(0,.own 0)],[(0,.arr 4 0)]⟩
def zhK:CE:=⟨37,zg9,zg8,fun X=>zcy X.1 X.2.1 X.2.2⟩
theorem znm:CE.ok Try.prog zhK:=CE.of (Γ:=[zhm]) (by kernel_rfl) zaV (GOK.cons zmE (GOK.nil)) ⟨[(3,⟨⟨[(.int .i64),(.list .bool)],[(5,.own 0),(15,.v 0)],[(0,.arr 4 1)]⟩,[6,12,13,16,17,18,19,20,21,22,23,24],[],[],1,[]⟩)],[],[],[]⟩ Try.func37 rfl Try.ntmps37 (rs:=[.tmp 4]) rfl (sig:=zg9) (out:=zg8) rfl Try.call37 (fun X=>by kernel_rfl)

def zgr:Shape:=⟨[(.int .i64),(.list .bool),(.list .bool)],[(0,.v 0),(1,.addr 1),(2,.addr 2)],[]⟩
def zgq:Shape:=⟨[.bool],[(0,.v 0)],[]⟩
def zhn:CE:=⟨46,zgr,zgq,fun X=>zdX X.1 X.2.1 X.2.2⟩
theorem zmF:CE.ok Try.prog zhn:=CE.of (Γ:=[]) (by kernel_rfl) zaV (GOK.nil) ⟨[],[],[],[]⟩ Try.func46 rfl Try.ntmps46 (rs:=[.tmp 4]) rfl (sig:=zgr) (out:=zgq) rfl Try.call46 (fun X=>by kernel_rfl)

def zhb:Shape:=⟨[Tc1,(.list .bool),(.list .bool)],[(0,.addr 0),(1,.fn 46 [.addr 1,.addr 2])],[]⟩
def zha:Shape:=⟨[(.list .bool)],[(0,.own 0)],[(0,.arr 4 0)]⟩
def zhL:CE:=⟨37,zhb,zha,fun X=>zer X.1 X.2.1 X.2.2⟩
theorem znn:CE.ok Try.prog zhL:=CE.of (Γ:=[zhn]) (by kernel_rfl) zaV (GOK.cons zmF (GOK.nil)) ⟨[(3,⟨⟨[(.int .i64),(.list .bool)],[(5,.own 0),(15,.v 0)],[(0,.arr 4 1)]⟩,[6,12,13,16,17,18,19,20,21,22,23,24],[],[],1,[]⟩)],[],[],[]⟩ Try.func37 rfl Try.ntmps37 (rs:=[.tmp 4]) rfl (sig:=zhb) (out:=zha) rfl Try.call37 (fun X=>by kernel_rfl)

def zgt:Shape:=⟨[(.int .i64),(.list .bool),Tc1],[(0,.v 0),(1,.ptr 100000 0),(2,.addr 1)],[(100000,.box 52 [.addr 2])]⟩
def zgs:Shape:=⟨[.bool,Tc1],[(0,.v 0)],[(100000,.box 52 [.addr 1])]⟩
def zho:CE:=⟨47,zgt,zgs,fun X=>zfj X.1 X.2.1 X.2.2⟩
theorem zmG:CE.ok Try.prog zho:=CE.of (Γ:=[zdz]) (by kernel_rfl) zaV (GOK.cons zeZ (GOK.nil)) ⟨[],[],[],[]⟩ Try.func47 rfl Try.ntmps47 (rs:=[.tmp 4]) rfl (sig:=zgt) (out:=zgs) rfl Try.call47 (fun X=>by kernel_rfl)

def zfX:Shape:=⟨[Tc1,(.list .bool),Tc1],[(0,.addr 0),(1,.fn 47 [.ptr 100000 0,.addr 1])],[(100000,.box 52 [.addr 2])]⟩
def zfW:Shape:=⟨[(.list .bool),Tc1],[(0,.own 0)],[(0,.arr 4 0),(100000,.box 52 [.addr 1])]⟩
def zgW:CE:=⟨37,zfX,zfW,fun X=>zdM X.1 X.2.1 X.2.2⟩
theorem zmp:CE.ok Try.prog zgW:=CE.of (Γ:=[zho]) (by kernel_rfl) zaV (GOK.cons zmG (GOK.nil)) ⟨[(3,⟨⟨[(.list .bool),(.int .i64),Tc1,(.list .bool)],[(1,.fn 47 [.ptr 100000 0,.addr 0]),(5,.own 0),(15,.v 1)],[(100000,.box 52 [.addr 2]),(0,.arr 4 3)]⟩,[6,12,13,16,17,18,19,20,21,22,23,24],[],[],1,[]⟩)],[],[],[]⟩ Try.func37 rfl Try.ntmps37 (rs:=[.tmp 4]) rfl (sig:=zfX) (out:=zfW) rfl Try.call37 (fun X=>by kernel_rfl)

def zhR:Shape:=⟨[(.int .i64)],[(0,.v 0)],[]⟩
def zhQ:Shape:=⟨[.bool],[(0,.v 0)],[]⟩
def ziF:CE:=⟨52,zhR,zhQ,fun X=>zgN X⟩
theorem zoe:CE.ok Try.prog ziF:=CE.of (Γ:=[]) (by kernel_rfl) zaV (GOK.nil) ⟨[],[],[],[]⟩ Try.func52 rfl Try.ntmps52 (rs:=[.tmp 2]) rfl (sig:=zhR) (out:=zhQ) rfl Try.call52 (fun X=>by kernel_rfl)

def zfZ:Shape:=⟨[Tc1],[(0,.addr 0),(1,.fn 52 [])],[]⟩
def zfY:Shape:=⟨[(.list .bool)],[(0,.own 0)],[(0,.arr 4 0)]⟩
def zgX:CE:=⟨37,zfZ,zfY,fun X=>zdN X⟩
theorem zmq:CE.ok Try.prog zgX:=CE.of (Γ:=[ziF]) (by kernel_rfl) zaV (GOK.cons zoe (GOK.nil)) ⟨[(3,⟨⟨[(.int .i64),(.list .bool)],[(5,.own 0),(15,.v 0)],[(0,.arr 4 1)]⟩,[6,12,13,16,17,18,19,20,21,22,23,24],[],[],1,[]⟩)],[],[],[]⟩ Try.func37 rfl Try.ntmps37 (rs:=[.tmp 4]) rfl (sig:=zfZ) (out:=zfY) rfl Try.call37 (fun X=>by kernel_rfl)

def zjr:Shape:=⟨[Tc1],[(0,.addr 0)],[]⟩
def zjq:Shape:=⟨[(.list .bool)],[(0,.own 0)],[(0,.arr 4 0)]⟩
def zfR:CE:=⟨18,zjr,zjq,fun X=>zca X⟩
theorem zjU:CE.ok Try.prog zfR:=CE.of (Γ:=[zgX]) (by kernel_rfl) zaV (GOK.cons zmq (GOK.nil)) ⟨[],[],[],[]⟩ Try.func18 rfl Try.ntmps18 (rs:=[.tmp 2]) rfl (sig:=zjr) (out:=zjq) rfl Try.call18 (fun X=>by kernel_rfl)

def zhZ:Shape:=⟨[Tc1,(.tree (.pair (.int .u8) (.pair .bool (.pair (.int .i64) .unit))))],[(0,.addr 0),(1,.v 1)],[]⟩
def zhY:Shape:=⟨[(.list .bool)],[(0,.v 0)],[]⟩
def ziK:CE:=⟨14,zhZ,zhY,LFix zdY⟩
theorem zoh:CE.ok Try.prog ziK:=CE.ofRec (Γ:=[zjo,zhF,zqQ,zhG,zhH,ziJ,zfd,zhK,zhL,zgW,zfR]) (by kernel_rfl) zaV (GOK.cons zoz (GOK.cons znh (GOK.cons zvT (GOK.cons zni (GOK.cons znj (GOK.cons zof (GOK.cons zjp (GOK.cons znm (GOK.cons znn (GOK.cons zmp (GOK.cons zjU (GOK.nil)))))))))))) ⟨[],[(3,⟨⟨[.bool],[(14,.v 0)],[]⟩,[15,16],[],[0,1],2,[]⟩),(7,⟨⟨[(.list .bool)],[(5,.ptr 2 0)],[(2,.box 40 [.v 0])]⟩,[25,26,27,28,29,30,31,32],[],[0,1],3,[]⟩),(13,⟨⟨[.bool],[(41,.v 0)],[]⟩,[42,43,44],[],[0,1,2],3,[]⟩),(14,⟨⟨[(.list .bool)],[(6,.ptr 3 0)],[(3,.box 40 [.v 0])]⟩,[45,46,47,48,49,50,51,52],[],[0,1,2],4,[]⟩),(21,⟨⟨[(.list .bool)],[(7,.ptr 4 0)],[(4,.box 40 [.v 0])]⟩,[81,82,83,84],[],[0,1,2,3],5,[]⟩),(22,⟨⟨[(.list .bool)],[(8,.ptr 5 0)],[(5,.box 40 [.v 0])]⟩,[85,86,87,88,89,90,91],[],[0,1,2,3,4],6,[]⟩),(25,⟨⟨[(.list .bool)],[(5,.ptr 2 0)],[(2,.box 40 [.v 0])]⟩,[95,96,97,98,99,100],[3],[0,1],3,[(2,0,none,.bool)]⟩)],[(30,[(0,0),(0,1),(0,2),(0,3),(0,4),(0,5),(0,6),(0,7),(0,8),(0,9),(0,10)]),(31,[(0,0),(0,1),(0,3),(1,2),(1,4),(0,5)])],[(7,(.live [7,9] (.rd 0 [7,9] (.rd 1 [2,3,4,5,6,7,9] (.one 2 (.one 3 (.rd 4 [5,6,7,9] (.one 5 (.rd 6 [7,9] (.alt 2 7 (.leaf [(1,8),(2,9)]) (.alt 1 8 (.alt 2 7 (.leaf [(2,9)]) .stop) .stop))))))))))),(14,(.live [7,9] (.rd 0 [7,9] (.rd 1 [2,3,4,5,6,7,9] (.one 2 (.one 3 (.rd 4 [5,6,7,9] (.one 5 (.rd 6 [7,9] (.alt 2 7 (.leaf [(1,8),(2,9)]) (.alt 1 8 (.alt 2 7 (.leaf [(2,9)]) .stop) .stop))))))))))),(21,(.live [3,5] (.rd 0 [3,5] (.rd 1 [2,3,5] (.alt 1 2 (.alt 2 3 (.leaf [(1,4),(2,5)]) (.alt 1 4 (.alt 2 3 (.leaf [(2,5)]) .stop) .stop)) (.alt 1 4 (.alt 1 2 (.alt 2 3 (.leaf [(2,5)]) .stop) .stop) .stop)))))),(22,(.one 4 (.live [6,8] (.rd 0 [6,8] (.rd 1 [2,5,6,8] (.rd 3 [5,6,8] (.alt 1 2 (.alt 1 5 (.alt 2 6 (.leaf [(1,7),(2,8)]) (.alt 1 7 (.alt 2 6 (.leaf [(2,8)]) .stop) .stop)) (.alt 1 7 (.alt 1 5 (.alt 2 6 (.leaf [(2,8)]) .stop) .stop) .stop)) (.alt 1 7 (.alt 1 2 (.alt 1 5 (.alt 2 6 (.leaf [(2,8)]) .stop) .stop) .stop) .stop))))))))]⟩ Try.func14 rfl Try.ntmps14 (rs:=[.tmp 4]) rfl (sig:=zhZ) (out:=zhY) rfl Try.call14 (d:=zdY) (fun rc X=>by kernel_rfl)

def zml:Shape:=⟨[(.int .i64),(.list .bool)],[(0,.v 0),(1,.addr 1)],[]⟩
def zmk:Shape:=⟨[.bool],[(0,.v 0)],[]⟩
def znN:CE:=⟨16,zml,zmk,fun X=>zhB X.1 X.2⟩
theorem ztm:CE.ok Try.prog znN:=CE.of (Γ:=[]) (by kernel_rfl) zaV (GOK.nil) ⟨[],[],[],[]⟩ Try.func16 rfl Try.ntmps16 (rs:=[.tmp 3]) rfl (sig:=zml) (out:=zmk) rfl Try.call16 (fun X=>by kernel_rfl)

def ziV:Shape:=⟨[(.list (.int .i64)),(.list .bool)],[(0,.v 0),(1,.fn 16 [.addr 1])],[]⟩
def ziU:Shape:=⟨[(.int .i64)],[(0,.v 0)],[]⟩
def zjJ:CE:=⟨15,ziV,ziU,fun X=>zlV X.1 X.2⟩
theorem zpq:CE.ok Try.prog zjJ:=CE.of (Γ:=[znN]) (by kernel_rfl) zaV (GOK.cons ztm (GOK.nil)) ⟨[(2,⟨⟨[(.int .i64)],[(8,.v 0)],[]⟩,[4,5,9,10,11,12,13,14,15,16,17,18],[],[],0,[]⟩)],[],[],[]⟩ Try.func15 rfl Try.ntmps15 (rs:=[.tmp 4]) rfl (sig:=ziV) (out:=ziU) rfl Try.call15 (fun X=>by kernel_rfl)

def zgd:Shape:=⟨[(.int .i64),(.list .bool)],[(0,.v 0),(1,.addr 1)],[]⟩
def zgc:Shape:=⟨[.bool],[(0,.v 0)],[]⟩
def zhe:CE:=⟨49,zgd,zgc,fun X=>zbj X.1 X.2⟩
theorem zmz:CE.ok Try.prog zhe:=CE.of (Γ:=[]) (by kernel_rfl) zaV (GOK.nil) ⟨[],[],[],[]⟩ Try.func49 rfl Try.ntmps49 (rs:=[.tmp 3]) rfl (sig:=zgd) (out:=zgc) rfl Try.call49 (fun X=>by kernel_rfl)

def ziX:Shape:=⟨[(.list (.int .i64)),(.list .bool)],[(0,.v 0),(1,.fn 49 [.addr 1])],[]⟩
def ziW:Shape:=⟨[(.int .i64)],[(0,.v 0)],[]⟩
def zfw:CE:=⟨15,ziX,ziW,fun X=>zeb X.1 X.2⟩
theorem zjK:CE.ok Try.prog zfw:=CE.of (Γ:=[zhe]) (by kernel_rfl) zaV (GOK.cons zmz (GOK.nil)) ⟨[(2,⟨⟨[(.int .i64)],[(8,.v 0)],[]⟩,[4,5,9,10,11,12,13,14,15,16,17,18],[],[],0,[]⟩)],[],[],[]⟩ Try.func15 rfl Try.ntmps15 (rs:=[.tmp 4]) rfl (sig:=ziX) (out:=ziW) rfl Try.call15 (fun X=>by kernel_rfl)

def zlT:Shape:=⟨[(.list (.int .i64))],[(0,.v 0)],[]⟩
def zlS:Shape:=⟨[(.list (.int .i64))],[(0,.own 0)],[(0,.arr 3 0)]⟩
def zi8:CE:=⟨51,zlT,zlS,fun X=>zel X⟩
theorem zm1:CE.ok Try.prog zi8:=CE.of (Γ:=[]) (by kernel_rfl) zaV (GOK.nil) ⟨[],[],[],[]⟩ Try.func51 rfl Try.ntmps51 (rs:=[.tmp 2]) rfl (sig:=zlT) (out:=zlS) rfl Try.call51 (fun X=>by kernel_rfl)

def zhV:Shape:=⟨[Tc1,(.list (.int .i64)),(.list .bool)],[(0,.addr 0),(1,.own 100000),(2,.own 100001)],[(100000,.arr 3 1),(100001,.arr 4 2)]⟩
def zhU:Shape:=⟨[(.pair (.list (.int .i64)) (.pair (.list (.int .i64)) .unit)),(.list .bool)],[(0,.v 0)],[(100001,.arr 4 1)]⟩
def ziI:CE:=⟨17,zhV,zhU,fun X=>zcC X.1 X.2.1 X.2.2⟩
theorem ze0:CE.ok Try.prog ziI:=CE.of (Γ:=[zfw,zfE,zi8]) (by kernel_rfl) zaV (GOK.cons zjK (GOK.cons zja (GOK.cons zm1 (GOK.nil)))) ⟨[(1,⟨⟨[(.list (.int .i64))],[(1,.own 2)],[(2,.arr 3 0)]⟩,[7,8,9,10,11,12,13,14,15,16,17,18,19,20,21,22,23,24,25,26,27,28,29,30,31,32,33,34,35,36,37,38,39,40,41,42,43,44,45,46,47,48,49,50,51,52,53],[100000],[0,1],3,[]⟩)],[],[(6,[(0,0),(0,1),(0,2),(0,4),(0,5),(0,6),(1,3),(1,7),(0,8),(2,9)])],[]⟩ Try.func17 rfl Try.ntmps17 (rs:=[.cell 6 27]) rfl (sig:=zhV) (out:=zhU) rfl Try.call17 (fun X=>by kernel_rfl)

def zgf:Shape:=⟨[Tc1,(.list .bool),(.list (.int .i64))],[(0,.addr 0),(1,.own 100000),(2,.v 1)],[(100000,.arr 3 2)]⟩
def zge:Shape:=⟨[(.pair (.list (.int .i64)) (.pair (.list (.int .i64)) .unit))],[(0,.v 0)],[]⟩
def zhf:CE:=⟨17,zgf,zge,fun X=>zdR X.1 X.2.1 X.2.2⟩
theorem zew:CE.ok Try.prog zhf:=CE.of (Γ:=[zfw,zfE,zi8]) (by kernel_rfl) zaV (GOK.cons zjK (GOK.cons zja (GOK.cons zm1 (GOK.nil)))) ⟨[(1,⟨⟨[(.list (.int .i64))],[(1,.own 2)],[(2,.arr 3 0)]⟩,[7,8,9,10,11,12,13,14,15,16,17,18,19,20,21,22,23,24,25,26,27,28,29,30,31,32,33,34,35,36,37,38,39,40,41,42,43,44,45,46,47,48,49,50,51,52,53],[100000],[0,1],3,[]⟩)],[],[(6,[(0,0),(0,1),(0,2),(0,4),(0,5),(0,6),(1,3),(1,7),(0,8),(2,9)])],[]⟩ Try.func17 rfl Try.ntmps17 (rs:=[.cell 6 27]) rfl (sig:=zgf) (out:=zge) rfl Try.call17 (fun X=>by kernel_rfl)

def zlZ:Shape:=⟨[(.list (.int .i64))],[(0,.own 100000)],[(100000,.arr 3 0)]⟩
def zlY:Shape:=⟨[(.list (.int .i64))],[],[(100000,.arr 3 0)]⟩
def zne:CE:=⟨56,zlZ,zlY,fun X=>zjf X⟩
theorem zsD:CE.ok Try.prog zne:=CE.of (Γ:=[]) (by kernel_rfl) zaV (GOK.nil) ⟨[(1,⟨⟨[(.int .i64),(.int .i64),(.list (.int .i64))],[(0,.own 100000),(2,.v 0),(3,.v 1)],[(100000,.arr 3 2)]⟩,[7,8,9,10,11,12,13,14,15,16,17,18,19,20,21,22,23,24,25,26,27],[],[],0,[]⟩)],[],[(3,[(0,0),(0,1),(0,2),(0,3),(0,4),(0,5),(0,6),(0,7),(0,8),(0,9),(0,10),(0,11),(0,12),(2,13),(0,14),(2,15)])],[]⟩ Try.func56 rfl Try.ntmps56 (rs:=[]) rfl (sig:=zlZ) (out:=zlY) rfl Try.call56 (fun X=>by kernel_rfl)

def ziH:Shape:=⟨[Tc1,(.int .i64),(.list .bool),(.list .bool)],[(0,.addr 0),(1,.v 1),(2,.v 2),(3,.v 3)],[]⟩
def ziG:Shape:=⟨[(.list (.int .i64))],[(0,.own 0)],[(0,.arr 3 0)]⟩
def zjs:CE:=⟨20,ziH,ziG,fun X=>zdQ X.1 X.2.1 X.2.2.1 X.2.2.2⟩
theorem zoA:CE.ok Try.prog zjs:=CE.of (Γ:=[zne]) (by kernel_rfl) zaV (GOK.cons zsD (GOK.nil)) ⟨[(4,⟨⟨[(.list (.int .i64)),(.list (.int .i64)),(.list (.int .i64))],[(9,.own 0),(10,.own 1)],[(0,.box 92 [.v 0,.v 1]),(1,.arr 3 2)]⟩,[8,11,12,13,15,16,17,18,20,22,23,24,25,26,27,28,29,30,31,32,33,34,35,36,37,38,39,40,41,42,43,44,45,46,47,48,49,50,51,52,53,54,55,56,57,58,59,60,61,62,63,64,65,66,67,68,69,70,71,72,73,74,75,76,77,78,79,80,81,82,83,84],[],[],2,[]⟩),(8,⟨⟨[(.int .i64),(.list (.int .i64))],[(12,.own 2),(13,.v 0)],[(2,.arr 3 1)]⟩,[33,34,35,36,37,38,39,40,41],[],[0,1],3,[]⟩),(14,⟨⟨[(.int .i64),(.list (.int .i64)),(.list (.int .i64)),(.list (.int .i64))],[(9,.own 0),(10,.own 1),(53,.v 0)],[(0,.box 92 [.v 1,.v 2]),(1,.arr 3 3)]⟩,[15,16,17,25,26,54,55,56,57,58,59,60,61,62,63,64,65,66,67,68,69,70,71,72,73,74,75,76,77,78,79,80,81,82,83,84],[],[],2,[]⟩)],[(17,⟨⟨[.bool],[(76,.v 0)],[]⟩,[63,64,65,66,67,68,69,70,71,72,73,74,75],[],[0,1],2,[]⟩),(19,⟨⟨[(.list (.int .i64)),(.list (.int .i64)),(.list (.int .i64))],[(9,.own 0),(10,.own 2)],[(0,.box 92 [.v 0,.v 1]),(2,.arr 3 2)]⟩,[15,16,17,55,56,57,58,59,60,61,62,63,64,65,66,67,68,69,70,71,72,73,74,75,76,77,78,79,80,81,82,83],[1],[],3,[]⟩)],[(3,[(0,0),(1,1),(0,2)])],[]⟩ Try.func20 rfl Try.ntmps20 (rs:=[.tmp 8]) rfl (sig:=ziH) (out:=ziG) rfl Try.call20 (fun X=>by kernel_rfl)

def zor:Shape:=⟨[Tc2,.str,(.int .i64)],[(0,.v 0),(1,.v 1),(2,.v 2)],[]⟩
def zoq:Shape:=⟨[(.pair (.list (.int .i64)) (.pair (.list (.int .i64)) .unit)),.bool,(.int .i64)],[(0,.v 0),(1,.v 1),(2,.v 2)],[]⟩
def zp2:CE:=⟨4,zor,zoq,fun X=>zaM X.1 X.2.1 X.2.2⟩
theorem zu1:CE.ok Try.prog zp2:=CE.of (Γ:=[ziI,zhf,zr7,zot,zlU,zmI,ziK,zjJ,zfR,zfd,zjs]) (by kernel_rfl) zaV (GOK.cons ze0 (GOK.cons zew (GOK.cons zwK (GOK.cons zt1 (GOK.cons zr9 (GOK.cons zsk (GOK.cons zoh (GOK.cons zpq (GOK.cons zjU (GOK.cons zjp (GOK.cons zoA (GOK.nil)))))))))))) ⟨[],[],[(25,[(0,0),(0,1),(0,2),(0,3),(0,5),(0,7),(1,4),(1,6),(1,8),(2,9),(2,10),(0,11),(0,12)]),(26,[(0,0),(0,1),(0,2),(0,3),(0,4),(0,5),(0,6),(0,7),(0,8),(0,9),(0,10),(0,13),(1,11),(1,12),(1,14),(2,15),(2,16),(0,17),(0,18)])],[]⟩ Try.func4 rfl Try.ntmps4 (rs:=[.cell 6 27,.tmp 7,.tmp 8]) rfl (sig:=zor) (out:=zoq) rfl Try.call4 (fun X=>by kernel_rfl)

def zoM:Shape:=⟨[(.pair (.list (.int .i64)) (.pair (.list (.int .i64)) .unit))],[(0,.v 0)],[]⟩
def zoL:Shape:=⟨[.bool],[(0,.v 0)],[]⟩
def zp9:CE:=⟨5,zoM,zoL,fun X=>zfl X⟩
theorem zu9:CE.ok Try.prog zp9:=CE.of (Γ:=[]) (by kernel_rfl) zaV (GOK.nil) ⟨[],[],[],[]⟩ Try.func5 rfl Try.ntmps5 (rs:=[.tmp 2]) rfl (sig:=zoM) (out:=zoL) rfl Try.call5 (fun X=>by kernel_rfl)

def zrw:Shape:=⟨[Tc6,Tc6],[(0,.v 0),(1,.v 1)],[]⟩
def zrv:Shape:=⟨[.bool],[(0,.v 0)],[]⟩
def zs0:CE:=⟨21,zrw,zrv,fun X=>zru X.1 X.2⟩
theorem zxx:CE.ok Try.prog zs0:=CE.of (Γ:=[]) (by kernel_rfl) zaV (GOK.nil) ⟨[],[],[],[]⟩ Try.func21 rfl Try.ntmps21 (rs:=[.tmp 4]) rfl (sig:=zrw) (out:=zrv) rfl Try.call21 (fun X=>by kernel_rfl)

def zrC:Shape:=⟨[Tc2],[(0,.v 0)],[]⟩
def zrB:Shape:=⟨[(.int .i64)],[(0,.v 0)],[]⟩
def zs2:CE:=⟨6,zrC,zrB,fun X=>zrz X⟩
theorem zxy:CE.ok Try.prog zs2:=CE.of (Γ:=[zs0]) (by kernel_rfl) zaV (GOK.cons zxx (GOK.nil)) ⟨[(6,⟨⟨[(.int .i64)],[(3,.v 0)],[]⟩,[2,4,29,30,31,32,33,34,35,36,37,38,39,40,41,42,43,44,45,46,47,48,49,50,51,52,53,54,55,56,57,58,59,60,61,62,63,64,65,66,67,68,69,70,71,72,73,74],[],[0],1,[]⟩),(12,⟨⟨[(.int .i64)],[(5,.v 0)],[]⟩,[2,6,75,76,77,78,79,80,81,82,83,84,85,86,87,88,89,90,91,92,93,94,95],[],[0],1,[]⟩)],[],[(14,[(0,0),(0,1),(0,2),(0,3),(0,4),(0,5),(0,6),(0,7),(0,8),(0,9),(0,10),(1,11),(0,12)])],[]⟩ Try.func6 rfl Try.ntmps6 (rs:=[.tmp 2]) rfl (sig:=zrC) (out:=zrB) rfl Try.call6 (fun X=>by kernel_rfl)

def zmW:Shape:=⟨[(.pair .str (.pair (.int .i64) (.pair (.int .i64) (.pair (.int .i64) (.pair (.list (.pair (.int .u8) (.pair .bool Tc6))) (.pair Tc7 .unit))))))],[(0,.addr 0)],[]⟩
def zmV:Shape:=⟨[.bool],[(0,.v 0)],[]⟩
def zgI:CE:=⟨59,zmW,zmV,fun X=>zh5 X⟩
theorem zjR:CE.ok Try.prog zgI:=CE.of (Γ:=[]) (by kernel_rfl) zaV (GOK.nil) ⟨[],[],[],[]⟩ Try.func59 rfl Try.ntmps59 (rs:=[.tmp 2]) rfl (sig:=zmW) (out:=zmV) rfl Try.call59 (fun X=>by kernel_rfl)

def zlF:Shape:=⟨[(.pair .str (.pair (.int .i64) (.pair (.int .i64) (.pair (.int .i64) (.pair (.list (.pair (.int .u8) (.pair .bool Tc6))) (.pair Tc7 .unit))))))],[(0,.addr 0)],[]⟩
def zlE:Shape:=⟨[(.int .u8)],[(0,.v 0)],[]⟩
def zdl:CE:=⟨58,zlF,zlE,fun X=>zdj X⟩
theorem zez:CE.ok Try.prog zdl:=CE.of (Γ:=[]) (by kernel_rfl) zaV (GOK.nil) ⟨[],[],[(1,[(0,0),(0,1),(0,2),(0,3),(0,4),(0,5),(0,6),(0,7),(0,8),(0,9)]),(3,[(0,0),(0,1),(0,2),(0,3),(0,4),(0,5),(0,6),(0,7),(0,8),(0,9)])],[]⟩ Try.func58 rfl Try.ntmps58 (rs:=[.tmp 2]) rfl (sig:=zlF) (out:=zlE) rfl Try.call58 (fun X=>by kernel_rfl)

def zkG:Shape:=⟨[(.int .i64),.str,(.int .i64),(.int .i64),(.int .i64),(.int .i64),(.int .i64),(.list (.pair (.int .u8) (.pair .bool Tc6)))],[(0,.ptr 100000 0),(1,.v 0)],[(100000,.box 69 [.v 1,.v 2,.v 3,.v 4,.own 100001,.v 5,.v 6]),(100001,.arr 39 7)]⟩
def zkF:Shape:=⟨[.str,(.int .i64),(.int .i64),(.int .i64),(.list (.pair (.int .u8) (.pair .bool Tc6))),(.int .i64),(.int .i64)],[],[(100000,.box 69 [.v 0,.v 1,.v 2,.v 3,.own 90,.v 5,.v 6]),(90,.arr 39 4)]⟩
def zcp:CE:=⟨23,zkG,zkF,fun X=>zco X.1 X.2.1 X.2.2.1 X.2.2.2.1 X.2.2.2.2.1 X.2.2.2.2.2.1 X.2.2.2.2.2.2.1 X.2.2.2.2.2.2.2⟩
theorem zcY:CE.ok Try.prog zcp:=CE.of (Γ:=[]) (by kernel_rfl) zaV (GOK.nil) ⟨[],[],[],[]⟩ Try.func23 rfl Try.ntmps23 (rs:=[]) rfl (sig:=zkG) (out:=zkF) rfl Try.call23 (fun X=>by kernel_rfl)

def ziM:Shape:=⟨[.str,(.int .i64),(.int .i64),(.int .i64),(.int .i64),(.int .i64),(.list (.pair (.int .u8) (.pair .bool Tc6)))],[(0,.ptr 100000 0)],[(100000,.box 69 [.v 0,.v 1,.v 2,.v 3,.own 100001,.v 4,.v 5]),(100001,.arr 39 6)]⟩
def ziL:Shape:=⟨[.str,(.int .i64),(.int .i64),(.int .i64),(.list (.pair (.int .u8) (.pair .bool Tc6))),(.int .i64),(.int .i64)],[],[(100000,.box 69 [.v 0,.v 1,.v 2,.v 3,.own 90,.v 5,.v 6]),(90,.arr 39 4)]⟩
def zcO:CE:=⟨60,ziM,ziL,fun X=>zbg X.1 X.2.1 X.2.2.1 X.2.2.2.1 X.2.2.2.2.1 X.2.2.2.2.2.1 X.2.2.2.2.2.2⟩
theorem zd1:CE.ok Try.prog zcO:=CE.of (Γ:=[zcp]) (by kernel_rfl) zaV (GOK.cons zcY (GOK.nil)) ⟨[],[],[],[]⟩ Try.func60 rfl Try.ntmps60 (rs:=[]) rfl (sig:=ziM) (out:=ziL) rfl Try.call60 (fun X=>by kernel_rfl)

def zlJ:Shape:=⟨[(.pair (.int .u8) (.pair .bool Tc6)),.str,(.int .i64),(.int .i64),(.int .i64),(.int .i64),(.int .i64),(.list (.pair (.int .u8) (.pair .bool Tc6)))],[(0,.ptr 100000 0),(1,.v 0)],[(100000,.box 69 [.v 1,.v 2,.v 3,.v 4,.own 100001,.v 5,.v 6]),(100001,.arr 39 7)]⟩
def zlI:Shape:=⟨[(.int .i64),.str,(.int .i64),(.int .i64),(.int .i64),(.list (.pair (.int .u8) (.pair .bool Tc6))),(.int .i64),(.int .i64)],[(0,.v 0)],[(100000,.box 69 [.v 1,.v 2,.v 3,.v 4,.own 90,.v 6,.v 7]),(90,.arr 39 5)]⟩
def zeB:CE:=⟨61,zlJ,zlI,fun X=>zbY X.1 X.2.1 X.2.2.1 X.2.2.2.1 X.2.2.2.2.1 X.2.2.2.2.2.1 X.2.2.2.2.2.2.1 X.2.2.2.2.2.2.2⟩
theorem zfB:CE.ok Try.prog zeB:=CE.of (Γ:=[]) (by kernel_rfl) zaV (GOK.nil) ⟨[],[],[(1,[(0,0),(0,1),(0,2),(0,3),(0,4),(0,5),(1,6),(2,7),(0,8),(0,9),(2,10)])],[]⟩ Try.func61 rfl Try.ntmps61 (rs:=[.tmp 4]) rfl (sig:=zlJ) (out:=zlI) rfl Try.call61 (fun X=>by kernel_rfl)

def zkI:Shape:=⟨[.str,(.int .i64),(.int .i64),(.int .i64),(.int .i64),(.int .i64),(.list (.pair (.int .u8) (.pair .bool Tc6)))],[(0,.ptr 100000 0)],[(100000,.box 69 [.v 0,.v 1,.v 2,.v 3,.own 100001,.v 4,.v 5]),(100001,.arr 39 6)]⟩
def zkH:Shape:=⟨[.str,(.int .i64),(.int .i64),(.int .i64),(.list (.pair (.int .u8) (.pair .bool Tc6))),(.int .i64),(.int .i64)],[],[(100000,.box 69 [.v 0,.v 1,.v 2,.v 3,.own 90,.v 5,.v 6]),(90,.arr 39 4)]⟩
def zh6:CE:=⟨76,zkI,zkH,fun X=>zdn X.1 X.2.1 X.2.2.1 X.2.2.2.1 X.2.2.2.2.1 X.2.2.2.2.2.1 X.2.2.2.2.2.2⟩
theorem zlG:CE.ok Try.prog zh6:=CE.of (Γ:=[zcp]) (by kernel_rfl) zaV (GOK.cons zcY (GOK.nil)) ⟨[],[],[],[]⟩ Try.func76 rfl Try.ntmps76 (rs:=[]) rfl (sig:=zkI) (out:=zkH) rfl Try.call76 (fun X=>by kernel_rfl)

def zkM:Shape:=⟨[(.int .u8),.str,(.int .i64),(.int .i64),(.int .i64),(.int .i64),(.int .i64),(.list (.pair (.int .u8) (.pair .bool Tc6)))],[(0,.ptr 100000 0),(1,.v 0)],[(100000,.box 69 [.v 1,.v 2,.v 3,.v 4,.own 100001,.v 5,.v 6]),(100001,.arr 39 7)]⟩
def zkL:Shape:=⟨[.str,(.int .i64),(.int .i64),(.int .i64),(.list (.pair (.int .u8) (.pair .bool Tc6))),(.int .i64),(.int .i64)],[],[(100000,.box 69 [.v 0,.v 1,.v 2,.v 3,.own 90,.v 5,.v 6]),(90,.arr 39 4)]⟩
def zh8:CE:=⟨77,zkM,zkL,fun X=>zcP X.1 X.2.1 X.2.2.1 X.2.2.2.1 X.2.2.2.2.1 X.2.2.2.2.2.1 X.2.2.2.2.2.2.1 X.2.2.2.2.2.2.2⟩
theorem zlL:CE.ok Try.prog zh8:=CE.of (Γ:=[zcp,zdl]) (by kernel_rfl) zaV (GOK.cons zcY (GOK.cons zez (GOK.nil))) ⟨[],[],[],[]⟩ Try.func77 rfl Try.ntmps77 (rs:=[]) rfl (sig:=zkM) (out:=zkL) rfl Try.call77 (fun X=>by kernel_rfl)

def zaG:Shape:=⟨[.str,(.int .i64),(.int .i64),(.int .i64),(.int .i64),(.int .i64),(.list (.pair (.int .u8) (.pair .bool Tc6)))],[(0,.ptr 100000 0)],[(100000,.box 69 [.v 0,.v 1,.v 2,.v 3,.own 100001,.v 4,.v 5]),(100001,.arr 39 6)]⟩
def zaF:Shape:=⟨[(.int .i64),.str,(.int .i64),(.int .i64),(.int .i64),(.list (.pair (.int .u8) (.pair .bool Tc6))),(.int .i64),(.int .i64)],[(0,.v 0)],[(100000,.box 69 [.v 1,.v 2,.v 3,.v 4,.own 90,.v 6,.v 7]),(90,.arr 39 5)]⟩
def zrI:CE:=⟨72,zaG,zaF,LFix zeA⟩
def zkK:Shape:=⟨[.str,(.int .i64),(.int .i64),(.int .i64),(.int .i64),(.int .i64),(.list (.pair (.int .u8) (.pair .bool Tc6)))],[(0,.ptr 100000 0)],[(100000,.box 69 [.v 0,.v 1,.v 2,.v 3,.own 100001,.v 4,.v 5]),(100001,.arr 39 6)]⟩
def zkJ:Shape:=⟨[(.int .i64),.str,(.int .i64),(.int .i64),(.int .i64),(.list (.pair (.int .u8) (.pair .bool Tc6))),(.int .i64),(.int .i64)],[(0,.v 0)],[(100000,.box 69 [.v 1,.v 2,.v 3,.v 4,.own 90,.v 6,.v 7]),(90,.arr 39 5)]⟩
def zlK (rec:Tup zaG.tys->Option (Tup zaF.tys)):CE:=⟨57,zkK,zkJ,fun X=>zbZ (fun c c_1 c_2 c_3 c_4 c_5 l=>rec (c,c_1,c_2,c_3,c_4,c_5,l)) X.1 X.2.1 X.2.2.1 X.2.2.2.1 X.2.2.2.2.1 X.2.2.2.2.2.1 X.2.2.2.2.2.2⟩
theorem zrL (rec:Tup zaG.tys->Option (Tup zaF.tys)) (hrec:CE.ok Try.prog ⟨72,zaG,zaF,rec⟩):CE.ok Try.prog (zlK rec):=CE.of (Γ:=[⟨72,zaG,zaF,rec⟩,zcO,zeB,zdl,zgI]) (by kernel_rfl) zaV (GOK.cons hrec (GOK.cons zd1 (GOK.cons zfB (GOK.cons zez (GOK.cons zjR (GOK.nil)))))) ⟨[(2,⟨⟨[(.int .i64),.str,(.int .i64),(.int .i64),(.int .i64),(.int .i64),(.int .i64),(.list (.pair (.int .u8) (.pair .bool Tc6)))],[(0,.ptr 100000 0),(3,.v 0)],[(100000,.box 69 [.v 1,.v 2,.v 3,.v 4,.own 90,.v 5,.v 6]),(90,.arr 39 7)]⟩,[2,4,5,6,9,10,11,12,13,14,15,16,17,18,19,20,21,22,23,24,25,26,27,28],[],[],91,[]⟩)],[],[],[]⟩ Try.func57 rfl Try.ntmps57 (rs:=[.tmp 2]) rfl (sig:=zkK) (out:=zkJ) rfl Try.call57 (fun X=>by kernel_rfl)
def zj0:Shape:=⟨[.str,(.int .i64),(.int .i64),(.int .i64),(.int .i64),(.int .i64),(.list (.pair (.int .u8) (.pair .bool Tc6)))],[(0,.ptr 100000 0)],[(100000,.box 69 [.v 0,.v 1,.v 2,.v 3,.own 100001,.v 4,.v 5]),(100001,.arr 39 6)]⟩
def zjZ:Shape:=⟨[(.int .i64),.str,(.int .i64),(.int .i64),(.int .i64),(.list (.pair (.int .u8) (.pair .bool Tc6))),(.int .i64),(.int .i64)],[(0,.v 0)],[(100000,.box 69 [.v 1,.v 2,.v 3,.v 4,.own 90,.v 6,.v 7]),(90,.arr 39 5)]⟩
def zeJ (rec:Tup zaG.tys->Option (Tup zaF.tys)):CE:=⟨22,zj0,zjZ,fun X=>zbc (fun c c_1 c_2 c_3 c_4 c_5 l=>rec (c,c_1,c_2,c_3,c_4,c_5,l)) X.1 X.2.1 X.2.2.1 X.2.2.2.1 X.2.2.2.2.1 X.2.2.2.2.2.1 X.2.2.2.2.2.2⟩
theorem zgP (rec:Tup zaG.tys->Option (Tup zaF.tys)) (hrec:CE.ok Try.prog ⟨72,zaG,zaF,rec⟩):CE.ok Try.prog (zeJ rec):=CE.of (Γ:=[zlK rec,zcO,zeB,zdl,zgI]) (by kernel_rfl) zaV (GOK.cons (zrL rec hrec) (GOK.cons zd1 (GOK.cons zfB (GOK.cons zez (GOK.cons zjR (GOK.nil)))))) ⟨[(2,⟨⟨[(.int .i64),.str,(.int .i64),(.int .i64),(.int .i64),(.int .i64),(.int .i64),(.list (.pair (.int .u8) (.pair .bool Tc6)))],[(0,.ptr 100000 0),(3,.v 0)],[(100000,.box 69 [.v 1,.v 2,.v 3,.v 4,.own 90,.v 5,.v 6]),(90,.arr 39 7)]⟩,[2,4,5,6,9,10,11,12,13,14,15,16,17,18,19,20,21,22,23,24,25,26,27,28],[],[],91,[]⟩)],[],[],[]⟩ Try.func22 rfl Try.ntmps22 (rs:=[.tmp 2]) rfl (sig:=zj0) (out:=zjZ) rfl Try.call22 (fun X=>by kernel_rfl)
def zkO:Shape:=⟨[.bool,.str,(.int .i64),(.int .i64),(.int .i64),(.int .i64),(.int .i64),(.list (.pair (.int .u8) (.pair .bool Tc6)))],[(0,.ptr 100000 0),(1,.v 0)],[(100000,.box 69 [.v 1,.v 2,.v 3,.v 4,.own 100001,.v 5,.v 6]),(100001,.arr 39 7)]⟩
def zkN:Shape:=⟨[(.int .i64),.str,(.int .i64),(.int .i64),(.int .i64),(.list (.pair (.int .u8) (.pair .bool Tc6))),(.int .i64),(.int .i64)],[(0,.v 0)],[(100000,.box 69 [.v 1,.v 2,.v 3,.v 4,.own 90,.v 6,.v 7]),(90,.arr 39 5)]⟩
def zlM (rec:Tup zaG.tys->Option (Tup zaF.tys)):CE:=⟨75,zkO,zkN,fun X=>zdo (fun c c_1 c_2 c_3 c_4 c_5 l=>rec (c,c_1,c_2,c_3,c_4,c_5,l)) X.1 X.2.1 X.2.2.1 X.2.2.2.1 X.2.2.2.2.1 X.2.2.2.2.2.1 X.2.2.2.2.2.2.1 X.2.2.2.2.2.2.2⟩
theorem zrM (rec:Tup zaG.tys->Option (Tup zaF.tys)) (hrec:CE.ok Try.prog ⟨72,zaG,zaF,rec⟩):CE.ok Try.prog (zlM rec):=CE.of (Γ:=[zcO,⟨72,zaG,zaF,rec⟩,zeB,zcp,zh6,zeJ rec,zh8,zdl]) (by kernel_rfl) zaV (GOK.cons zd1 (GOK.cons hrec (GOK.cons zfB (GOK.cons zcY (GOK.cons zlG (GOK.cons (zgP rec hrec) (GOK.cons zlL (GOK.cons zez (GOK.nil))))))))) ⟨[],[(3,⟨⟨[.bool],[(22,.v 0)],[]⟩,[13,14,15,16,17,18,19,20,21],[],[90],91,[]⟩)],[],[]⟩ Try.func75 rfl Try.ntmps75 (rs:=[.tmp 4]) rfl (sig:=zkO) (out:=zkN) rfl Try.call75 (fun X=>by kernel_rfl)
theorem zrK:CE.ok Try.prog zrI:=CE.ofRecM (Γ:=fun rec=>[zcO,zeB,zlM rec,zcp,zh6,zeJ rec,zh8,zgI,zdl]) (by kernel_rfl) zaV ⟨[],[(5,⟨⟨[.bool],[(18,.v 0)],[]⟩,[13,14,15,16,17],[],[],0,[]⟩),(8,⟨⟨[.bool],[(30,.v 0)],[]⟩,[25,26,27,28,29],[],[],0,[]⟩),(15,⟨⟨[.bool],[(54,.v 0)],[]⟩,[49,50,51,52,53],[],[],0,[]⟩)],[],[]⟩ Try.func72 rfl Try.ntmps72 (rs:=[.tmp 2]) rfl (sig:=zaG) (out:=zaF) rfl (fun rec hrec=>(GOK.cons zd1 (GOK.cons zfB (GOK.cons (zrM rec hrec) (GOK.cons zcY (GOK.cons zlG (GOK.cons (zgP rec hrec) (GOK.cons zlL (GOK.cons zjR (GOK.cons zez (GOK.nil))))))))))) Try.call72 (d:=zeA) (fun rc X=>by kernel_rfl)
def zjy:CE:=zeJ (LFix zeA)
theorem zo2:CE.ok Try.prog zjy:=zgP _ zrK
def zrH:Shape:=⟨[.str],[(0,.v 0)],[]⟩
def zrG:Shape:=⟨[(.int .i64),Tc7,(.list (.pair (.int .u8) (.pair .bool Tc6)))],[(0,.own 0),(1,.v 0),(2,.v 1)],[(0,.arr 39 2)]⟩
def zs5:CE:=⟨7,zrH,zrG,fun X=>zkE X⟩
theorem zxz:CE.ok Try.prog zs5:=CE.of (Γ:=[zjy,zcp]) (by kernel_rfl) zaV (GOK.cons zo2 (GOK.cons zcY (GOK.nil))) ⟨[],[],[(8,[(0,0),(0,1),(0,2),(0,3),(0,4),(0,5),(2,6)])],[]⟩ Try.func7 rfl Try.ntmps7 (rs:=[.tmp 2,.tmp 3,.cell 4 35]) rfl (sig:=zrH) (out:=zrG) rfl Try.call7 (fun X=>by kernel_rfl)

def zs4:Shape:=⟨[Tc2,(.int .i64),(.int .i64)],[(0,.v 0),(1,.v 1),(2,.v 2)],[]⟩
def zs3:Shape:=⟨[.bool],[(0,.v 0)],[]⟩
def znD:CE:=⟨27,zs4,zs3,fun X=>znB X.1 X.2.1 X.2.2⟩
theorem zqG:CE.ok Try.prog znD:=CE.of (Γ:=[]) (by kernel_rfl) zaV (GOK.nil) ⟨[(3,⟨⟨[.bool,(.int .i64)],[(7,.v 0),(8,.v 1)],[]⟩,[6,9,10,11,12,13,14,15,16,17,18,19,20,21,22,23,24,25,26,27,28,29,30,31],[],[0],1,[]⟩)],[],[],[]⟩ Try.func27 rfl Try.ntmps27 (rs:=[.tmp 6]) rfl (sig:=zs4) (out:=zs3) rfl Try.call27 (fun X=>by kernel_rfl)

def zs8:Shape:=⟨[Tc2,(.int .i64),(.list .bool)],[(0,.v 0),(1,.v 1),(2,.v 2)],[]⟩
def zs7:Shape:=⟨[.bool],[(0,.v 0)],[]⟩
def znG:CE:=⟨25,zs8,zs7,fun X=>znF X.1 X.2.1 X.2.2⟩
theorem zqI:CE.ok Try.prog znG:=CE.of (Γ:=[znD]) (by kernel_rfl) zaV (GOK.cons zqG (GOK.nil)) ⟨[(2,⟨⟨[(.int .i64)],[(7,.v 0)],[]⟩,[6,8,9,10,11,12,13,14,15,16,17,18,19,20,21,22,23,24,25],[],[0],1,[]⟩)],[],[],[]⟩ Try.func25 rfl Try.ntmps25 (rs:=[.tmp 6]) rfl (sig:=zs8) (out:=zs7) rfl Try.call25 (fun X=>by kernel_rfl)

def zrE:Shape:=⟨[Tc2,(.int .i64),(.list .bool)],[(0,.v 0),(1,.v 1),(2,.v 2)],[]⟩
def zrD:Shape:=⟨[.bool],[(0,.v 0)],[]⟩
def zlD:CE:=⟨26,zrE,zrD,fun X=>zkD X.1 X.2.1 X.2.2⟩
theorem zo0:CE.ok Try.prog zlD:=CE.of (Γ:=[znD]) (by kernel_rfl) zaV (GOK.cons zqG (GOK.nil)) ⟨[(2,⟨⟨[(.int .i64)],[(7,.v 0)],[]⟩,[6,8,9,10,11,12,13,14,15,16,17,18,19,20,21,22,23,24,25,26],[],[0],1,[]⟩)],[],[],[]⟩ Try.func26 rfl Try.ntmps26 (rs:=[.tmp 6]) rfl (sig:=zrE) (out:=zrD) rfl Try.call26 (fun X=>by kernel_rfl)

def zry:Shape:=⟨[(.list .bool),(.list .bool)],[(0,.v 0),(1,.v 1)],[]⟩
def zrx:Shape:=⟨[.bool],[(0,.v 0)],[]⟩
def zoW:CE:=⟨62,zry,zrx,fun X=>zfn X.1 X.2⟩
theorem zs1:CE.ok Try.prog zoW:=CE.of (Γ:=[]) (by kernel_rfl) zaV (GOK.nil) ⟨[(4,⟨⟨[(.int .i64)],[(5,.v 0)],[]⟩,[4,11,12,13,14,15,16,17,18,19,20,21,22,23,24,25],[],[],0,[]⟩)],[],[(6,[(0,0),(0,1),(0,2),(0,3),(0,4),(0,5),(0,6),(0,7),(0,8)])],[]⟩ Try.func62 rfl Try.ntmps62 (rs:=[.tmp 4]) rfl (sig:=zry) (out:=zrx) rfl Try.call62 (fun X=>by kernel_rfl)

def zta:Shape:=⟨[Tc2,.bool,(.list .bool),(.list .bool)],[(0,.v 0),(1,.v 1),(2,.v 2),(3,.v 3)],[]⟩
def zs9:Shape:=⟨[(.list .bool)],[(0,.own 0)],[(0,.arr 4 0)]⟩
def zuI:CE:=⟨24,zta,zs9,fun X=>zlO X.1 X.2.1 X.2.2.1 X.2.2.2⟩
theorem zyt:CE.ok Try.prog zuI:=CE.of (Γ:=[znG,zlD,zoW]) (by kernel_rfl) zaV (GOK.cons zqI (GOK.cons zo0 (GOK.cons zs1 (GOK.nil)))) ⟨[(3,⟨⟨[(.int .i64),(.list .bool)],[(9,.own 1),(10,.v 0)],[(1,.arr 4 1)]⟩,[17,18,19,20,21,22,23,24,25,26,27,28],[],[0],2,[]⟩),(6,⟨⟨[(.list .bool)],[(9,.own 1)],[(1,.arr 4 0)]⟩,[8,11,12,13,14,29,30,31,32,33,34,35,36,37,38,39,40,41,42,43,44,45,46,47,48,49,50,51,52,53,54,55,56,57,58,59,60,61,62,63,64,65,66,67,68,69,70,71,72,73,74,75,76,77],[],[0],2,[]⟩),(8,⟨⟨[(.int .i64),(.list .bool)],[(11,.own 2),(12,.v 0)],[(2,.arr 4 1)]⟩,[13,31,32,33,34,35,36,37,38,39,40,41,42,43,44,45,46,47,48,49,50,51,52,53,54,55,56,57,58,59,60,61,62,63,64,65,66,67,68,69,70,71],[],[0,1],3,[]⟩)],[(12,⟨⟨[.bool],[(13,.v 0)],[]⟩,[42,43,44,45,46],[],[0,1,2],3,[]⟩),(13,⟨⟨[(.list .bool)],[(11,.own 2)],[(2,.arr 4 0)]⟩,[47,48,49,50,51,52,53,54,55,56],[],[0,1],3,[]⟩),(14,⟨⟨[.bool],[(58,.v 0)],[]⟩,[57],[],[0,1,2],3,[]⟩)],[],[]⟩ Try.func24 rfl Try.ntmps24 (rs:=[.tmp 8]) rfl (sig:=zta) (out:=zs9) rfl Try.call24 (fun X=>by kernel_rfl)

def zqh:Shape:=⟨[Tc2,.bool,(.list .bool)],[(0,.v 0),(1,.v 1),(2,.v 2),(3,.nil)],[]⟩
def zqg:Shape:=⟨[(.list .bool)],[(0,.own 0)],[(0,.arr 4 0)]⟩
def zrW:CE:=⟨24,zqh,zqg,fun X=>zmX X.1 X.2.1 X.2.2⟩
theorem zwG:CE.ok Try.prog zrW:=CE.of (Γ:=[znG,zlD,zoW]) (by kernel_rfl) zaV (GOK.cons zqI (GOK.cons zo0 (GOK.cons zs1 (GOK.nil)))) ⟨[(3,⟨⟨[(.int .i64),(.list .bool)],[(9,.own 1),(10,.v 0)],[(1,.arr 4 1)]⟩,[17,18,19,20,21,22,23,24,25,26,27,28],[],[0],2,[]⟩),(6,⟨⟨[(.list .bool)],[(9,.own 1)],[(1,.arr 4 0)]⟩,[8,11,12,13,14,29,30,31,32,33,34,35,36,37,38,39,40,41,42,43,44,45,46,47,48,49,50,51,52,53,54,55,56,57,58,59,60,61,62,63,64,65,66,67,68,69,70,71,72,73,74,75,76,77],[],[0],2,[]⟩),(8,⟨⟨[(.int .i64),(.list .bool)],[(11,.own 2),(12,.v 0)],[(2,.arr 4 1)]⟩,[13,31,32,33,34,35,36,37,38,39,40,41,42,43,44,45,46,47,48,49,50,51,52,53,54,55,56,57,58,59,60,61,62,63,64,65,66,67,68,69,70,71],[],[0,1],3,[]⟩)],[(12,⟨⟨[.bool],[(13,.v 0)],[]⟩,[42,43,44,45,46],[],[0,1,2],3,[]⟩)],[],[]⟩ Try.func24 rfl Try.ntmps24 (rs:=[.tmp 8]) rfl (sig:=zqh) (out:=zqg) rfl Try.call24 (fun X=>by kernel_rfl)

def zr4:Shape:=⟨[Tc2,(.list (.pair (.int .u8) (.pair .bool Tc6))),(.int .i64)],[(0,.v 0),(1,.v 1),(2,.v 2)],[]⟩
def zr3:Shape:=⟨[(.list .bool)],[(0,.own 0)],[(0,.arr 4 0)]⟩
def zpf:CE:=⟨8,zr4,zr3,LFix znH⟩
theorem ztb:CE.ok Try.prog zpf:=CE.ofRec (Γ:=[zrW,zuI,znG,zlD]) (by kernel_rfl) zaV (GOK.cons zwG (GOK.cons zyt (GOK.cons zqI (GOK.cons zo0 (GOK.nil))))) ⟨[(7,⟨⟨[(.int .i64),(.list .bool)],[(8,.own 2),(9,.v 0)],[(2,.arr 4 1)]⟩,[21,34,35,36,37,38,39,40,41,42,43,44,45],[],[0,1],3,[]⟩),(11,⟨⟨[(.int .i64),(.list .bool)],[(8,.own 2),(10,.v 0)],[(2,.arr 4 1)]⟩,[46,47,48,49,50,51,52,53,54,55,56,57,58,59,60,61,62,63,64,65,66,67,68,69,70,71,72,73,74],[],[0,1],3,[]⟩),(27,⟨⟨[(.int .i64),(.list .bool)],[(12,.own 5),(13,.v 0)],[(5,.arr 4 1)]⟩,[121,122,123,124,125,126,127,128,129],[],[0,1,2,3],6,[]⟩),(32,⟨⟨[(.int .i64),(.list .bool)],[(8,.own 2),(14,.v 0)],[(2,.arr 4 1)]⟩,[21,136,137,138,139,140,141,142,143,144,145,146,147,148,149,150,151,152,153,154,155,156,157,158,159,160,161,162,163,164,165,166,167,168,169,170,171,172,173,174,175,176,177,178,179,180,181,182,183,184,185,186,187,188,189,190,191,192,193,194,195,196,197,198,199,200,201],[],[0,1,3,5],6,[]⟩)],[(5,⟨⟨[.bool],[(33,.v 0)],[]⟩,[26,27,28,29,30,31,32],[],[0,1,2],3,[]⟩),(13,⟨⟨[.bool],[(66,.v 0)],[]⟩,[53,54,55,56,57,58,59,60,61,62,63,64,65],[],[0,1,2],3,[]⟩),(18,⟨⟨[.bool],[(96,.v 0)],[]⟩,[84,85,86,87,88,89,90,91,92,93,94,95],[],[0,1,2,3,4],5,[]⟩),(19,⟨⟨[(.list .bool)],[(12,.own 5)],[(5,.arr 4 0)]⟩,[83,84,85,86,87,88,89,90,91,92,93,94,95,96,97,98,99,100,101],[4],[0,1,2,3],6,[]⟩)],[(13,[(0,0),(0,1),(0,2),(0,3),(0,4),(0,5),(0,6),(0,7),(0,8),(0,9),(0,10),(0,11),(0,12),(0,13)])],[]⟩ Try.func8 rfl Try.ntmps8 (rs:=[.tmp 6]) rfl (sig:=zr4) (out:=zr3) rfl Try.call8 (d:=znH) (fun rc X=>by kernel_rfl)

def zrS:Shape:=⟨[Tc2,(.list (.pair (.int .u8) (.pair .bool Tc6))),(.int .i64),(.pair (.list (.int .i64)) (.pair (.list (.int .i64)) .unit)),(.int .i64)],[(0,.v 0),(1,.v 1),(2,.v 2),(3,.v 3),(4,.v 4)],[]⟩
def zrR:Shape:=⟨[.bool],[(0,.v 0)],[]⟩
def zs6:CE:=⟨9,zrS,zrR,fun X=>zfp X.1 X.2.1 X.2.2.1 X.2.2.2.1 X.2.2.2.2⟩
theorem zxA:CE.ok Try.prog zs6:=CE.of (Γ:=[znD,zpf]) (by kernel_rfl) zaV (GOK.cons zqG (GOK.cons ztb (GOK.nil))) ⟨[(6,⟨⟨[(.int .i64)],[(12,.v 0)],[]⟩,[10,23,26,27,42,43,44,45,46,47,48,49,50,51,52,53,54,55,56,57,58,59,60,61],[],[0,1,4],5,[]⟩),(11,⟨⟨[(.int .i64)],[(13,.v 0)],[]⟩,[10,14,15,62,63,64,65,66,67,68,69,70,71,72,73,74,75,76,77,78,79,80,81,82,83,84,85,86,87,88,89,90,91,92],[],[0,1,4],5,[]⟩),(29,⟨⟨[(.int .i64)],[(19,.v 0)],[]⟩,[10,124,125,126,127,128,129,130,131,132,133,134,135,136,137],[],[0,1,4,5,6],7,[]⟩),(36,⟨⟨[(.int .i64)],[(20,.v 0)],[]⟩,[10,140,141,142,143,144,145,146,147,148,149,150,151,152],[],[0,1,4,5,6],7,[]⟩),(43,⟨⟨[(.int .i64)],[(22,.v 0)],[]⟩,[10,158,159,160,161,162,163,164,165,166,167,168,169,170,171,172,173,174,175,176,177,178],[],[0,1,4,5,6,7],8,[]⟩)],[(15,⟨⟨[(.int .i64)],[(14,.v 0)],[]⟩,[74,75,76,77,78,79,80,81,82,83],[],[0,1,4],5,[]⟩),(25,⟨⟨[(.int .i64)],[(18,.v 0)],[]⟩,[112,113,114,115,116,117],[],[0,1,4,5,6],7,[]⟩)],[(8,[(0,0),(0,1),(0,2),(0,3),(0,4),(0,5),(0,6),(0,7),(0,8),(0,9),(0,10),(0,11),(0,12),(0,13)]),(16,[(0,0),(0,1),(0,2),(0,3),(0,4),(0,5),(1,6),(0,7)])],[]⟩ Try.func9 rfl Try.ntmps9 (rs:=[.tmp 10]) rfl (sig:=zrS) (out:=zrR) rfl Try.call9 (fun X=>by kernel_rfl)

def zkx:Shape:=⟨[Tc2,.str,(.int .i64)],[(0,.v 0),(1,.v 1),(2,.v 2)],[]⟩
def zkw:Shape:=⟨[.bool],[(0,.v 0)],[]⟩
def zh2:CE:=⟨3,zkx,zkw,fun X=>zey X.1 X.2.1 X.2.2⟩
theorem zrd:CE.ok Try.prog zh2:=CE.of (Γ:=[zp2,zp9,zs2,zs5,zpf,zs6]) (by kernel_rfl) zaV (GOK.cons zu1 (GOK.cons zu9 (GOK.cons zxy (GOK.cons zxz (GOK.cons ztb (GOK.cons zxA (GOK.nil))))))) ⟨[],[(5,⟨⟨[.bool],[(41,.v 0)],[]⟩,[35,36,37,38,39,40],[],[0,1,2,3],4,[]⟩),(6,⟨⟨[(.int .i64)],[(11,.v 0)],[]⟩,[35,36,37,38,39,40,41],[],[0,1,2,3],4,[]⟩),(9,⟨⟨[.bool],[(70,.v 0)],[]⟩,[48,49,50,51,52,53,54,55,56,57,58,59,60,61,62,63,64,65,66,67,68,69],[],[0,1,2,3,4],5,[]⟩),(12,⟨⟨[(.int .i64)],[(11,.v 0)],[]⟩,[15,42,43,44,45,46,47,48,49,50,51,52,53,54,55,56,57,58,59,60,61,62,63,64,65,66,67,68,69,70,71,72,73,74,75,76,77,78],[],[0,1,2,3],4,[]⟩)],[],[]⟩ Try.func3 rfl Try.ntmps3 (rs:=[.tmp 6]) rfl (sig:=zkx) (out:=zkw) rfl Try.call3 (fun X=>by kernel_rfl)

end
end Go.Proofs.Ytegenlccllgjoaa.branchPathsW
