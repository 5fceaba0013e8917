import Derived.Test.YtiiljakjbifdjaaFixHoldsD
import Derived.Test.YtiiljakjbifdjaaProg
import Derived.KernelRfl
import Derived.Shelf.Abstract
import Derived.WalkKit
set_option maxHeartbeats 1000000
set_option maxRecDepth 20000
set_option linter.unusedSimpArgs false
set_option linter.unusedVariables false
namespace Go.Proofs.Ytiiljakjbifdjaa.fixHoldsW
open Go Go.Ab
noncomputable section
def te3:TE:=⟨3,.int .i64,false,1,8,.int .i64 0,some (.int .i64)⟩
theorem zxT:TEok Try.prog te3:=⟨TI.of Try.underlying3 rfl (by kernel_rfl),Try.underlying3,fun t h=>by cases h;exact ⟨rfl,rfl,by decide,rfl⟩⟩
def te4:TE:=⟨4,.bool,false,1,1,.bool false,some .bool⟩
theorem zxU:TEok Try.prog te4:=⟨TI.of Try.underlying4 rfl (by kernel_rfl),Try.underlying4,fun t h=>by cases h;exact ⟨rfl,rfl,by decide,rfl⟩⟩
def te5:TE:=⟨5,.int .u8,false,1,1,.int .u8 0,some (.int .u8)⟩
theorem zxV:TEok Try.prog te5:=⟨TI.of Try.underlying5 rfl (by kernel_rfl),Try.underlying5,fun t h=>by cases h;exact ⟨rfl,rfl,by decide,rfl⟩⟩
def te9:TE:=⟨9,.str,false,1,16,.string ⟨⟨[]⟩⟩,some .str⟩
theorem zxW:TEok Try.prog te9:=⟨TI.of Try.underlying9 rfl (by kernel_rfl),Try.underlying9,fun t h=>by cases h;exact ⟨rfl,rfl,by decide,rfl⟩⟩
def te22:TE:=⟨22,.slice 44,false,1,24,.slice none 0 0,some (.list (.pair (.int .i64) (.pair (.int .i64) (.pair (.int .i64) .unit))))⟩
theorem zwU:TEok Try.prog te22:=⟨TI.of Try.underlying22 rfl (by kernel_rfl),Try.underlying22,fun t h=>by cases h;exact ⟨rfl,rfl,by decide,rfl⟩⟩
def te24:TE:=⟨24,.struct [(0,3),(1,3),(2,22)] none,true,3,40,.agg ⟨[.int .i64 0,.int .i64 0,.slice none 0 0]⟩,some (.pair (.int .i64) (.pair (.int .i64) (.pair (.list (.pair (.int .i64) (.pair (.int .i64) (.pair (.int .i64) .unit)))) .unit)))⟩
theorem zwV:TEok Try.prog te24:=⟨TI.of Try.underlying24 rfl (by kernel_rfl),⟨⟨_,Try.underlying24,rfl⟩,fun t h=>by cases h⟩,fun t h=>by cases h;exact ⟨rfl,rfl,by decide,rfl⟩⟩
def te25:TE:=⟨25,.slice 4,false,1,24,.slice none 0 0,some (.list .bool)⟩
theorem zwW:TEok Try.prog te25:=⟨TI.of Try.underlying25 rfl (by kernel_rfl),Try.underlying25,fun t h=>by cases h;exact ⟨rfl,rfl,by decide,rfl⟩⟩
def te26:TE:=⟨26,.int .i64,false,1,8,.int .i64 0,some (.int .i64)⟩
theorem zwX:TEok Try.prog te26:=⟨TI.of Try.underlying26 rfl (by kernel_rfl),Try.underlying26,fun t h=>by cases h;exact ⟨rfl,rfl,by decide,rfl⟩⟩
def te30:TE:=⟨30,.slice 53,false,1,24,.slice none 0 0,some (.list (.pair (.int .u8) (.pair (.int .i64) (.pair (.int .i64) (.pair (.int .i64) .unit)))))⟩
theorem zwY:TEok Try.prog te30:=⟨TI.of Try.underlying30 rfl (by kernel_rfl),Try.underlying30,fun t h=>by cases h;exact ⟨rfl,rfl,by decide,rfl⟩⟩
def te32:TE:=⟨32,.struct [(0,26),(1,3)] none,true,2,16,.agg ⟨[.int .i64 0,.int .i64 0]⟩,some (.pair (.int .i64) (.pair (.int .i64) .unit))⟩
theorem zwZ:TEok Try.prog te32:=⟨TI.of Try.underlying32 rfl (by kernel_rfl),⟨⟨_,Try.underlying32,rfl⟩,fun t h=>by cases h⟩,fun t h=>by cases h;exact ⟨rfl,rfl,by decide,rfl⟩⟩
def te38:TE:=⟨38,.other,false,1,8,.pointer none,some (.tree (.pair (.int .u8) (.pair (.int .i64) .unit)))⟩
theorem zw0:TEok Try.prog te38:=⟨TI.of Try.underlying38 rfl (by kernel_rfl),trivial,fun t h=>by cases h;exact ⟨rfl,rfl,by decide,rfl⟩⟩
def te44:TE:=⟨44,.struct [(0,3),(1,3),(2,3)] none,true,3,24,.agg ⟨[.int .i64 0,.int .i64 0,.int .i64 0]⟩,some (.pair (.int .i64) (.pair (.int .i64) (.pair (.int .i64) .unit)))⟩
theorem zw1:TEok Try.prog te44:=⟨TI.of Try.underlying44 rfl (by kernel_rfl),⟨⟨_,Try.underlying44,rfl⟩,fun t h=>by cases h⟩,fun t h=>by cases h;exact ⟨rfl,rfl,by decide,rfl⟩⟩
def te48:TE:=⟨48,.struct [(0,9),(1,3),(2,3),(3,3),(4,9),(5,25),(6,30),(7,32)] none,true,9,120,.agg ⟨[.string ⟨⟨[]⟩⟩,.int .i64 0,.int .i64 0,.int .i64 0,.string ⟨⟨[]⟩⟩,.slice none 0 0,.slice none 0 0,.int .i64 0,.int .i64 0]⟩,some (.pair .str (.pair (.int .i64) (.pair (.int .i64) (.pair (.int .i64) (.pair .str (.pair (.list .bool) (.pair (.list (.pair (.int .u8) (.pair (.int .i64) (.pair (.int .i64) (.pair (.int .i64) .unit))))) (.pair (.pair (.int .i64) (.pair (.int .i64) .unit)) .unit))))))))⟩
theorem zw2:TEok Try.prog te48:=⟨TI.of Try.underlying48 rfl (by kernel_rfl),⟨⟨_,Try.underlying48,rfl⟩,fun t h=>by cases h⟩,fun t h=>by cases h;exact ⟨rfl,rfl,by decide,rfl⟩⟩
def te51:TE:=⟨51,.slice 25,false,1,24,.slice none 0 0,some (.list (.list .bool))⟩
theorem zw3:TEok Try.prog te51:=⟨TI.of Try.underlying51 rfl (by kernel_rfl),Try.underlying51,fun t h=>by cases h;exact ⟨rfl,rfl,by decide,rfl⟩⟩
def te53:TE:=⟨53,.struct [(0,5),(1,3),(2,3),(3,3)] none,true,4,32,.agg ⟨[.int .u8 0,.int .i64 0,.int .i64 0,.int .i64 0]⟩,some (.pair (.int .u8) (.pair (.int .i64) (.pair (.int .i64) (.pair (.int .i64) .unit))))⟩
theorem zw4:TEok Try.prog te53:=⟨TI.of Try.underlying53 rfl (by kernel_rfl),⟨⟨_,Try.underlying53,rfl⟩,fun t h=>by cases h⟩,fun t h=>by cases h;exact ⟨rfl,rfl,by decide,rfl⟩⟩
def te54:TE:=⟨54,.other,false,1,8,.nilFunc,none⟩
theorem zw5:TEok Try.prog te54:=⟨TI.of Try.underlying54 rfl (by kernel_rfl),trivial,fun t h=>by cases h⟩
def te59:TE:=⟨59,.struct [(0,32)] none,true,2,16,.agg ⟨[.int .i64 0,.int .i64 0]⟩,some (.pair (.pair (.int .i64) (.pair (.int .i64) .unit)) .unit)⟩
theorem zw6:TEok Try.prog te59:=⟨TI.of Try.underlying59 rfl (by kernel_rfl),⟨⟨_,Try.underlying59,rfl⟩,fun t h=>by cases h⟩,fun t h=>by cases h;exact ⟨rfl,rfl,by decide,rfl⟩⟩
def te61:TE:=⟨61,.slice 91,false,1,24,.slice none 0 0,some (.list (.pair (.int .u8) (.pair .bool .unit)))⟩
theorem zw7:TEok Try.prog te61:=⟨TI.of Try.underlying61 rfl (by kernel_rfl),Try.underlying61,fun t h=>by cases h;exact ⟨rfl,rfl,by decide,rfl⟩⟩
def te63:TE:=⟨63,.struct [(0,9),(1,3),(2,3),(3,3),(4,61)] none,true,5,64,.agg ⟨[.string ⟨⟨[]⟩⟩,.int .i64 0,.int .i64 0,.int .i64 0,.slice none 0 0]⟩,some (.pair .str (.pair (.int .i64) (.pair (.int .i64) (.pair (.int .i64) (.pair (.list (.pair (.int .u8) (.pair .bool .unit))) .unit)))))⟩
theorem zw8:TEok Try.prog te63:=⟨TI.of Try.underlying63 rfl (by kernel_rfl),⟨⟨_,Try.underlying63,rfl⟩,fun t h=>by cases h⟩,fun t h=>by cases h;exact ⟨rfl,rfl,by decide,rfl⟩⟩
def te65:TE:=⟨65,.slice 38,false,1,24,.slice none 0 0,some (.list (.tree (.pair (.int .u8) (.pair (.int .i64) .unit))))⟩
theorem zw9:TEok Try.prog te65:=⟨TI.of Try.underlying65 rfl (by kernel_rfl),Try.underlying65,fun t h=>by cases h;exact ⟨rfl,rfl,by decide,rfl⟩⟩
def te67:TE:=⟨67,.struct [(0,5),(1,3),(2,65)] none,true,3,40,.agg ⟨[.int .u8 0,.int .i64 0,.slice none 0 0]⟩,some (.pair (.int .u8) (.pair (.int .i64) (.pair (.list (.tree (.pair (.int .u8) (.pair (.int .i64) .unit)))) .unit)))⟩
theorem zxa:TEok Try.prog te67:=⟨TI.of Try.underlying67 rfl (by kernel_rfl),⟨⟨_,Try.underlying67,rfl⟩,fun t h=>by cases h⟩,fun t h=>by cases h;exact ⟨rfl,rfl,by decide,rfl⟩⟩
def te76:TE:=⟨76,.int .u64,false,1,8,.int .u64 0,some (.int .u64)⟩
theorem zxb:TEok Try.prog te76:=⟨TI.of Try.underlying76 rfl (by kernel_rfl),Try.underlying76,fun t h=>by cases h;exact ⟨rfl,rfl,by decide,rfl⟩⟩
def te79:TE:=⟨79,.slice 3,false,1,24,.slice none 0 0,some (.list (.int .i64))⟩
theorem zxc:TEok Try.prog te79:=⟨TI.of Try.underlying79 rfl (by kernel_rfl),Try.underlying79,fun t h=>by cases h;exact ⟨rfl,rfl,by decide,rfl⟩⟩
def te83:TE:=⟨83,.int .u64,false,1,8,.int .u64 0,some (.int .u64)⟩
theorem zxd:TEok Try.prog te83:=⟨TI.of Try.underlying83 rfl (by kernel_rfl),Try.underlying83,fun t h=>by cases h;exact ⟨rfl,rfl,by decide,rfl⟩⟩
def te89:TE:=⟨89,.slice 5,false,1,24,.slice none 0 0,some (.list (.int .u8))⟩
theorem zxe:TEok Try.prog te89:=⟨TI.of Try.underlying89 rfl (by kernel_rfl),Try.underlying89,fun t h=>by cases h;exact ⟨rfl,rfl,by decide,rfl⟩⟩
def te91:TE:=⟨91,.struct [(0,5),(1,4)] none,true,2,2,.agg ⟨[.int .u8 0,.bool false]⟩,some (.pair (.int .u8) (.pair .bool .unit))⟩
theorem zxf:TEok Try.prog te91:=⟨TI.of Try.underlying91 rfl (by kernel_rfl),⟨⟨_,Try.underlying91,rfl⟩,fun t h=>by cases h⟩,fun t h=>by cases h;exact ⟨rfl,rfl,by decide,rfl⟩⟩
def TT:List TE:=[te3,te4,te5,te9,te22,te24,te25,te26,te30,te32,te38,te44,te48,te51,te53,te54,te59,te61,te63,te65,te67,te76,te79,te83,te89,te91]
theorem zcp:TOK Try.prog TT:=TOK.cons zxT (TOK.cons zxU (TOK.cons zxV (TOK.cons zxW (TOK.cons zwU (TOK.cons zwV (TOK.cons zwW (TOK.cons zwX (TOK.cons zwY (TOK.cons zwZ (TOK.cons zw0 (TOK.cons zw1 (TOK.cons zw2 (TOK.cons zw3 (TOK.cons zw4 (TOK.cons zw5 (TOK.cons zw6 (TOK.cons zw7 (TOK.cons zw8 (TOK.cons zw9 (TOK.cons zxa (TOK.cons zxb (TOK.cons zxc (TOK.cons zxd (TOK.cons zxe (TOK.cons zxf (TOK.nil))))))))))))))))))))))))))

def zhX:Shape:=⟨[(.int .i64),(.pair (.int .i64) (.pair (.int .i64) (.pair (.list (.pair (.int .i64) (.pair (.int .i64) (.pair (.int .i64) .unit)))) .unit)))],[(0,.v 0),(1,.addr 1)],[]⟩
def zhW:Shape:=⟨[.bool],[(0,.v 0)],[]⟩
def zjw:CE:=⟨16,zhX,zhW,fun X=>zeL X.1 X.2⟩
theorem zon:CE.ok Try.prog zjw:=CE.of (Γ:=[]) (by kernel_rfl) zcp (GOK.nil) ⟨[],[],[],[]⟩ Try.func16 rfl Try.ntmps16 (rs:=[.tmp 3]) rfl (sig:=zhX) (out:=zhW) rfl Try.call16 (fun X=>by kernel_rfl)

def zhZ:Shape:=⟨[(.pair (.int .i64) (.pair (.int .i64) (.pair (.int .i64) .unit))),(.pair (.int .i64) (.pair (.int .i64) (.pair (.list (.pair (.int .i64) (.pair (.int .i64) (.pair (.int .i64) .unit)))) .unit))),(.pair (.int .i64) (.pair (.int .i64) (.pair (.list (.pair (.int .i64) (.pair (.int .i64) (.pair (.int .i64) .unit)))) .unit)))],[(0,.v 0),(1,.ptr 100000 0),(2,.addr 1)],[(100000,.box 54 [.fn 16 [.addr 2]])]⟩
def zhY:Shape:=⟨[.bool,(.pair (.int .i64) (.pair (.int .i64) (.pair (.list (.pair (.int .i64) (.pair (.int .i64) (.pair (.int .i64) .unit)))) .unit)))],[(0,.v 0)],[(100000,.box 54 [.fn 16 [.addr 1]])]⟩
def zjx:CE:=⟨18,zhZ,zhY,fun X=>zeM X.1 X.2.1 X.2.2⟩
theorem zoo:CE.ok Try.prog zjx:=CE.of (Γ:=[zjw]) (by kernel_rfl) zcp (GOK.cons zon (GOK.nil)) ⟨[],[],[],[]⟩ Try.func18 rfl Try.ntmps18 (rs:=[.tmp 4]) rfl (sig:=zhZ) (out:=zhY) rfl Try.call18 (fun X=>by kernel_rfl)

def zfj:Shape:=⟨[(.list (.pair (.int .i64) (.pair (.int .i64) (.pair (.int .i64) .unit)))),(.pair (.int .i64) (.pair (.int .i64) (.pair (.list (.pair (.int .i64) (.pair (.int .i64) (.pair (.int .i64) .unit)))) .unit))),(.pair (.int .i64) (.pair (.int .i64) (.pair (.list (.pair (.int .i64) (.pair (.int .i64) (.pair (.int .i64) .unit)))) .unit)))],[(0,.v 0),(1,.fn 18 [.ptr 100000 0,.addr 1])],[(100000,.box 54 [.fn 16 [.addr 2]])]⟩
def zfi:Shape:=⟨[(.int .i64),(.pair (.int .i64) (.pair (.int .i64) (.pair (.list (.pair (.int .i64) (.pair (.int .i64) (.pair (.int .i64) .unit)))) .unit)))],[(0,.v 0)],[(100000,.box 54 [.fn 16 [.addr 1]])]⟩
def zgb:CE:=⟨31,zfj,zfi,fun X=>zh4 X.1 X.2.1 X.2.2⟩
theorem zkE:CE.ok Try.prog zgb:=CE.of (Γ:=[zjx]) (by kernel_rfl) zcp (GOK.cons zoo (GOK.nil)) ⟨[(2,⟨⟨[(.pair (.int .i64) (.pair (.int .i64) (.pair (.list (.pair (.int .i64) (.pair (.int .i64) (.pair (.int .i64) .unit)))) .unit))),(.int .i64),(.pair (.int .i64) (.pair (.int .i64) (.pair (.list (.pair (.int .i64) (.pair (.int .i64) (.pair (.int .i64) .unit)))) .unit)))],[(1,.fn 18 [.ptr 100000 0,.addr 0]),(8,.v 1)],[(100000,.box 54 [.fn 16 [.addr 2]])]⟩,[4,5,9,10,11,12,13,14,15,16,17,18],[],[],0,[]⟩)],[],[],[]⟩ Try.func31 rfl Try.ntmps31 (rs:=[.tmp 4]) rfl (sig:=zfj) (out:=zfi) rfl Try.call31 (fun X=>by kernel_rfl)

def zd6:Shape:=⟨[(.list (.pair (.int .i64) (.pair (.int .i64) (.pair (.int .i64) .unit)))),(.pair (.int .i64) (.pair (.int .i64) (.pair (.list (.pair (.int .i64) (.pair (.int .i64) (.pair (.int .i64) .unit)))) .unit))),(.pair (.int .i64) (.pair (.int .i64) (.pair (.list (.pair (.int .i64) (.pair (.int .i64) (.pair (.int .i64) .unit)))) .unit)))],[(0,.v 0),(1,.fn 18 [.ptr 100000 0,.addr 1])],[(100000,.box 54 [.fn 16 [.addr 2]])]⟩
def zd5:Shape:=⟨[.bool,(.pair (.int .i64) (.pair (.int .i64) (.pair (.list (.pair (.int .i64) (.pair (.int .i64) (.pair (.int .i64) .unit)))) .unit)))],[(0,.v 0)],[(100000,.box 54 [.fn 16 [.addr 1]])]⟩
def zeh:CE:=⟨17,zd6,zd5,fun X=>zdI X.1 X.2.1 X.2.2⟩
theorem zir:CE.ok Try.prog zeh:=CE.of (Γ:=[zgb]) (by kernel_rfl) zcp (GOK.cons zkE (GOK.nil)) ⟨[],[],[],[]⟩ Try.func17 rfl Try.ntmps17 (rs:=[.tmp 4]) rfl (sig:=zd6) (out:=zd5) rfl Try.call17 (fun X=>by kernel_rfl)

def zkP:Shape:=⟨[(.int .i64)],[(0,.v 0)],[]⟩
def zkO:Shape:=⟨[.bool],[(0,.v 0)],[]⟩
def zmr:CE:=⟨39,zkP,zkO,fun X=>zkN X⟩
theorem zqt:CE.ok Try.prog zmr:=CE.of (Γ:=[]) (by kernel_rfl) zcp (GOK.nil) ⟨[],[],[],[]⟩ Try.func39 rfl Try.ntmps39 (rs:=[.tmp 2]) rfl (sig:=zkP) (out:=zkO) rfl Try.call39 (fun X=>by kernel_rfl)

def zix:Shape:=⟨[(.int .i64),(.int .i64)],[(0,.v 0),(1,.v 1)],[]⟩
def ziw:Shape:=⟨[(.int .i64)],[(0,.v 0)],[]⟩
def zkb:CE:=⟨33,zix,ziw,fun X=>zek X.1 X.2⟩
theorem zoD:CE.ok Try.prog zkb:=CE.of (Γ:=[zmr]) (by kernel_rfl) zcp (GOK.cons zqt (GOK.nil)) ⟨[],[],[],[]⟩ Try.func33 rfl Try.ntmps33 (rs:=[.tmp 4]) rfl (sig:=zix) (out:=ziw) rfl Try.call33 (fun X=>by kernel_rfl)

def zoS:Shape:=⟨[(.list (.int .i64))],[(0,.v 0)],[]⟩
def zoR:Shape:=⟨[(.int .i64)],[(0,.v 0)],[]⟩
def zqs:CE:=⟨32,zoS,zoR,fun X=>zsh X⟩
theorem ztC:CE.ok Try.prog zqs:=CE.of (Γ:=[]) (by kernel_rfl) zcp (GOK.nil) ⟨[(3,⟨⟨[(.int .i64)],[(8,.v 0)],[]⟩,[2,5,9,10,11,12,13,14,15,16],[],[],0,[]⟩)],[],[],[]⟩ Try.func32 rfl Try.ntmps32 (rs:=[.tmp 2]) rfl (sig:=zoS) (out:=zoR) rfl Try.call32 (fun X=>by kernel_rfl)

def zkk:Shape:=⟨[(.pair (.int .i64) (.pair (.int .i64) (.pair (.int .i64) .unit))),(.pair (.int .i64) (.pair (.int .i64) (.pair (.int .i64) .unit)))],[(0,.v 0),(1,.v 1)],[]⟩
def zkj:Shape:=⟨[(.int .i64)],[(0,.v 0)],[]⟩
def zlR:CE:=⟨19,zkk,zkj,fun X=>zj0 X.1 X.2⟩
theorem zqc:CE.ok Try.prog zlR:=CE.of (Γ:=[zkb,zqs]) (by kernel_rfl) zcp (GOK.cons zoD (GOK.cons ztC (GOK.nil))) ⟨[],[],[(1,[(0,0),(0,1),(0,2),(0,3),(0,5),(0,6),(0,7),(0,8),(0,10),(0,11),(0,12),(0,13),(1,4),(1,9),(1,14),(1,15),(1,16),(0,17)])],[]⟩ Try.func19 rfl Try.ntmps19 (rs:=[.tmp 4]) rfl (sig:=zkk) (out:=zkj) rfl Try.call19 (fun X=>by kernel_rfl)

def zki:Shape:=⟨[(.pair (.int .i64) (.pair (.int .i64) (.pair (.list (.pair (.int .i64) (.pair (.int .i64) (.pair (.int .i64) .unit)))) .unit)))],[(0,.v 0)],[]⟩
def zkh:Shape:=⟨[(.int .i64)],[(0,.v 0)],[]⟩
def zlQ:CE:=⟨9,zki,zkh,fun X=>zjZ X⟩
theorem zqb:CE.ok Try.prog zlQ:=CE.of (Γ:=[zeh,zlR]) (by kernel_rfl) zcp (GOK.cons zir (GOK.cons zqc (GOK.nil))) ⟨[(9,⟨⟨[(.int .i64)],[(35,.v 0)],[]⟩,[2,4,13,17,22,36,37,38,39,40,41,42,43,44,45,46,47,48,49,50,51,52,53,54,55],[],[1],2,[]⟩)],[],[(11,[(0,0),(0,1),(0,2),(0,3),(0,4),(0,5),(0,6),(0,7),(0,8),(0,9),(0,10),(0,11),(0,12),(0,13),(1,14),(0,15),(0,16)])],[]⟩ Try.func9 rfl Try.ntmps9 (rs:=[.tmp 2]) rfl (sig:=zki) (out:=zkh) rfl Try.call9 (fun X=>by kernel_rfl)

def zgk:Shape:=⟨[(.pair .str (.pair (.int .i64) (.pair (.int .i64) (.pair (.int .i64) (.pair (.list (.pair (.int .u8) (.pair .bool .unit))) .unit)))))],[(0,.addr 0)],[]⟩
def zgj:Shape:=⟨[(.int .u8)],[(0,.v 0)],[]⟩
def zbT:CE:=⟨35,zgk,zgj,fun X=>zbY X⟩
theorem zcr:CE.ok Try.prog zbT:=CE.of (Γ:=[]) (by kernel_rfl) zcp (GOK.nil) ⟨[],[],[(1,[(0,0),(0,1),(0,2),(0,3),(0,4),(0,5),(0,6),(0,7),(0,8),(0,9)]),(2,[(0,0),(0,1),(0,2),(0,3),(0,4),(0,5),(0,6),(0,7),(0,8),(0,9)])],[]⟩ Try.func35 rfl Try.ntmps35 (rs:=[.tmp 2]) rfl (sig:=zgk) (out:=zgj) rfl Try.call35 (fun X=>by kernel_rfl)

def zfD:Shape:=⟨[(.pair .str (.pair (.int .i64) (.pair (.int .i64) (.pair (.int .i64) (.pair (.list (.pair (.int .u8) (.pair .bool .unit))) .unit))))),(.int .i64)],[(0,.addr 0),(1,.v 1)],[]⟩
def zfC:Shape:=⟨[],[],[]⟩
def zbF:CEp:=⟨22,zfD,zfC,fun X=>zbn X.1 X.2⟩
theorem zcc:CEp.ok Try.prog 59 zbF:=CEp.of (Γ:=[]) (Γp:=[]) (by kernel_rfl) zcp (GOK.nil) (GPOK.nil) ⟨[],[],[(2000000,[(0,0),(0,1),(0,2),(0,3),(0,4),(0,5),(0,6),(6,7),(2,8)])],[]⟩ Try.func22 rfl Try.ntmps22 (rs:=[]) rfl (sig:=zfD) (out:=zfC) rfl Try.call22 (fun X=>by kernel_rfl)

def zea:Shape:=⟨[.str,(.int .i64),(.int .i64),(.int .i64),(.list (.pair (.int .u8) (.pair .bool .unit)))],[(0,.ptr 100000 0)],[(100000,.box 63 [.v 0,.v 1,.v 2,.v 3,.own 100001]),(100001,.arr 91 4)]⟩
def zd9:Shape:=⟨[.str,(.int .i64),(.int .i64),(.int .i64),(.list (.pair (.int .u8) (.pair .bool .unit)))],[],[(100000,.box 63 [.v 0,.v 1,.v 2,.v 3,.own 90]),(90,.arr 91 4)]⟩
def zbz:CEp:=⟨36,zea,zd9,fun X=>zaX X.1 X.2.1 X.2.2.1 X.2.2.2.1 X.2.2.2.2⟩
theorem zb1:CEp.ok Try.prog 59 zbz:=CEp.of (Γ:=[]) (Γp:=[zbF]) (by kernel_rfl) zcp (GOK.nil) (GPOK.cons zcc (GPOK.nil)) ⟨[],[],[(2000002,[(0,0),(5,1)])],[]⟩ Try.func36 rfl Try.ntmps36 (rs:=[]) rfl (sig:=zea) (out:=zd9) rfl Try.call36 (fun X=>by kernel_rfl)

def zfJ:Shape:=⟨[.str,(.int .i64),(.int .i64),(.int .i64),(.list (.pair (.int .u8) (.pair .bool .unit)))],[(0,.ptr 100000 0)],[(100000,.box 63 [.v 0,.v 1,.v 2,.v 3,.own 100001]),(100001,.arr 91 4)]⟩
def zfI:Shape:=⟨[.str,(.int .i64),(.int .i64),(.int .i64),(.list (.pair (.int .u8) (.pair .bool .unit)))],[],[(100000,.box 63 [.v 0,.v 1,.v 2,.v 3,.own 90]),(90,.arr 91 4)]⟩
def zgn:CE:=⟨48,zfJ,zfI,fun X=>zde X.1 X.2.1 X.2.2.1 X.2.2.2.1 X.2.2.2.2⟩
theorem zld:CE.ok Try.prog zgn:=CE.of (Γ:=[]) (by kernel_rfl) zcp (GOK.nil) ⟨[(1,⟨⟨[(.int .i64),.str,(.int .i64),(.int .i64),(.int .i64),(.list (.pair (.int .u8) (.pair .bool .unit)))],[(0,.ptr 100000 0),(8,.v 0)],[(100000,.box 63 [.v 1,.v 2,.v 3,.v 4,.own 100001]),(100001,.arr 91 5)]⟩,[2,9,10,11,12,13,14,15,16,17,18,19,20,21,22,23,24,25,26,27],[],[],0,[]⟩)],[],[(3,[(0,0),(0,1),(0,2),(0,3),(0,4),(0,5),(0,6),(0,7),(0,8),(0,9),(0,10),(0,11),(0,12),(0,13),(0,14),(0,15),(2,16)])],[]⟩ Try.func48 rfl Try.ntmps48 (rs:=[]) rfl (sig:=zfJ) (out:=zfI) rfl Try.call48 (fun X=>by kernel_rfl)

def zfL:Shape:=⟨[(.int .u8),.str,(.int .i64),(.int .i64),(.int .i64),(.list (.pair (.int .u8) (.pair .bool .unit)))],[(0,.ptr 100000 0),(1,.v 0)],[(100000,.box 63 [.v 1,.v 2,.v 3,.v 4,.own 100001]),(100001,.arr 91 5)]⟩
def zfK:Shape:=⟨[.str,(.int .i64),(.int .i64),(.int .i64),(.list (.pair (.int .u8) (.pair .bool .unit)))],[],[(100000,.box 63 [.v 0,.v 1,.v 2,.v 3,.own 90]),(90,.arr 91 4)]⟩
def zc6:CEp:=⟨52,zfL,zfK,fun X=>zb3 X.1 X.2.1 X.2.2.1 X.2.2.2.1 X.2.2.2.2.1 X.2.2.2.2.2⟩
theorem zdY:CEp.ok Try.prog 59 zc6:=CEp.of (Γ:=[zbT]) (Γp:=[zbF]) (by kernel_rfl) zcp (GOK.cons zcr (GOK.nil)) (GPOK.cons zcc (GPOK.nil)) ⟨[],[],[(2000001,[(0,0),(5,1)])],[]⟩ Try.func52 rfl Try.ntmps52 (rs:=[]) rfl (sig:=zfL) (out:=zfK) rfl Try.call52 (fun X=>by kernel_rfl)

section
open Go.RowKit (Below)
attribute [local go_sem] Oper.semAt_some
/-- The names' row, as it lies. -/
def zph (W:World) (sv:Value) (ns:List (Int×Bool)):Prop:=
  (∃ a c,sv = .slice a 0 c/\ns=[])\/∃ b off cap,sv = .slice (some ⟨b,off,none⟩) ns.length cap/\b < W.heap.size/\∀ j:Nat,j < ns.length->W.cell? ⟨b,off+j * 2,none⟩=some (.int .u8 (ns.getD j (0,false)).1)/\W.cell? ⟨b,off+j * 2+1,none⟩=some (.bool (ns.getD j (0,false)).2)
def zvr (ns:List (Int×Bool)) (k:Nat):Array Value:=#[.int .i64 ((ns.length:Int) - 1 - k),.agg #[.int .u8 (ns.getD (ns.length - 1 - k) (0,false)).1,.bool (ns.getD (ns.length - 1 - k) (0,false)).2]]
theorem zwm (F:Fence) (n:Nat) (h33:F.fn 54) (hro:F.round=none) (hn:1<=n) (Bs:Nat) (sv:Value) (ns:List (Int×Bool)) (hlen:ns.length<=1000) (w:World) (hBl:Bs < w.heap.size) (hBs:w.cell? ⟨Bs,0,none⟩=some sv) (hI:zph w sv ns):
    zxn F n Try.prog 54 #[.pointer (some ⟨Bs,0,none⟩)] ns.length (zvr ns) w:=by
  intro l J Jx Jp W hB hY h0
  show CallsIn F n Try.prog 54 #[.func (.yield l) #[] #[],.pointer (some ⟨Bs,0,none⟩)] W _
  have hsv:∀ W,Below w.heap.size w W->W.cell? ⟨Bs,0,none⟩=some sv:=fun W h=>(World.cell?_of_block (w:=w) (w':=W) (h.block Bs hBl)).trans hBs
  have hBW:=hsv W (hB 0 W h0)
  obtain ⟨a,c,rfl,rfl⟩ | ⟨b,off,cap,rfl,hb,hcs⟩:=hI
  · refine callsIn_of_wp Try.func54 rfl h33 ?_ hro
    simp only [Try.ntmps54,List.size_toArray,List.length_cons,List.length_nil,Nat.reduceAdd,Nat.reduceSub,Array.replicate_succ,Array.replicate_zero,List.push_toArray,List.append_toArray,List.nil_append,List.cons_append]
    gi_wp2
    gi_loopw [3] (fun i wr=>i = .int .i64 (-1)/\J 0 wr) (fun _ _=>0)
    case atStart=>exact ⟨rfl,h0⟩
    case round=>
      obtain ⟨rfl,hJs⟩:=hrel
      gi_wp2
      go_end0
      first | exact .inl ⟨_,rfl,.inl hJs⟩ | exact .inl ⟨⟨_,rfl⟩,.inl hJs⟩ | exact .inl (.inl hJs) | exact .inl hJs
  · refine callsIn_of_wp Try.func54 rfl h33 ?_ hro
    simp only [Try.ntmps54,List.size_toArray,List.length_cons,List.length_nil,Nat.reduceAdd,Nat.reduceSub,Array.replicate_succ,Array.replicate_zero,List.push_toArray,List.append_toArray,List.nil_append,List.cons_append]
    gi_wp2
    gi_loopw [3] (fun i wr=>∃ (k:Nat),k<=ns.length/\i = .int .i64 ((ns.length:Int) - 1 - k)/\J k wr)
      (fun i _=>match i with | .int .i64 m=>(m+1).toNat | _=>0)
    case atStart=>exact ⟨0,Nat.zero_le _,by simp,h0⟩
    case round=>
      obtain ⟨k,hk,rfl,hJs⟩:=hrel
      have hnx:=hB k wr hJs
      have hBs':=hsv wr hnx
      by_cases hke:k=ns.length
      · subst hke
        have hneg : ¬ (ns.length:Int) - 1 - (ns.length:Nat) ≥ 0:=by omega
        gi_wp2
        go_end0
        first | exact .inl ⟨_,rfl,.inl hJs⟩ | exact .inl ⟨⟨_,rfl⟩,.inl hJs⟩ | exact .inl (.inl hJs) | exact .inl hJs
      · obtain ⟨fn,tmps,assign,body,hy,hR⟩:=hY k (by omega) wr hJs
        have hj:ns.length - 1 - k < ns.length:=by omega
        obtain ⟨c0,c1⟩:=hcs _ hj
        have c0:=(World.cell?_of_block (w:=w) (w':=wr) (a:=⟨b,off+(ns.length - 1 - k) * 2,none⟩) (hnx.block b hb)).trans c0
        have c1:=(World.cell?_of_block (w:=w) (w':=wr) (a:=⟨b,off+(ns.length - 1 - k) * 2+1,none⟩) (hnx.block b hb)).trans c1
        obtain ⟨j,hje⟩:∃ j:Nat,ns.length - 1 - k=j:=⟨_,rfl⟩
        have e1:(ns.length:Int) - 1 - k=(j:Int):=by omega
        have hpos:(j:Int) ≥ 0:=by omega
        unfold zvr at hy
        rw [hje] at c0 c1 hj hy
        rw [e1] at hy ⊢
        generalize (ns.getD j (0,false)).1=sg at c0 hy
        generalize (ns.getD j (0,false)).2=tn at c1 hy
        gi_wp2
        refine hR.mono ?_
        rintro e W3 (⟨rfl,hJ3⟩ | ⟨rfl,hJx⟩ | ⟨ch,rfl,hJp⟩)
        · gi_wp2
          go_roundw
          case rel=>exact ⟨k+1,by omega,by congr 1;omega,hJ3⟩
          case measure=>simp
        · gi_wp2
          refine bodyPost_ret (results_none rfl _ _ _) rfl ?_
          first | exact .inl ⟨_,rfl,.inr hJx⟩ | exact .inl ⟨⟨_,rfl⟩,.inr hJx⟩
        · exact ⟨rfl,.inr ⟨ch,rfl,hJp⟩⟩
end
section
open Go.RowKit (Below)
attribute [local go_sem] Oper.semAt_some
theorem zrR (F:Fence) (n:Nat) (h11:F.fn 22) (hro:F.round=none) (B:Nat) (e i:Int) (W:World) (h1:W.cell? ⟨B,1,none⟩=some (.int .i64 i)):
    CallsIn F n Try.prog 22 #[.pointer (some ⟨B,0,none⟩),.int .i64 e] W fun en W'=>en = .panicked (pch 59 (e,i))/\W'=W:=by
  refine callsIn_of_wp Try.func22 rfl h11 ?_ hro
  simp only [Try.ntmps22,List.size_toArray,List.length_cons,List.length_nil,Nat.reduceAdd,Nat.reduceSub,Array.replicate_succ,Array.replicate_zero,List.push_toArray,List.append_toArray,List.nil_append,List.cons_append]
  gi_wp2
  exact ⟨rfl,rfl,rfl⟩
theorem zs7 (F:Fence) (n:Nat) (hn:1<=n) (h19:F.fn 36) (h11:F.fn 22) (hro:F.round=none) (B:Nat) (s sv:Value) (i dp cnt:Int) (hcnt:0<=cnt/\cnt<=1000000) (W:World) (hB:W.heap[B]? =some (.cells #[s,.int .i64 i,.int .i64 dp,.int .i64 cnt,sv] 63)):
    CallsIn F n Try.prog 36 #[.pointer (some ⟨B,0,none⟩)] W fun en W'=>(W'.os=W.os/\W'.tape=W.tape/\W'.output=W.output/\W'.heap.size=W.heap.size/\(∀ b,b≠B->W'.heap[b]? =W.heap[b]?)/\W'.heap[B]? =some (.cells #[s,.int .i64 i,.int .i64 dp,.int .i64 (cnt+1),sv] 63))/\
      if 30 < cnt+1 then en = .panicked (pch 59 (7,i)) else en = .returned (.tuple #[]):=by
  have c1:W.cell? ⟨B,1,none⟩=some (.int .i64 i):=by rw [cell_of_row W _ 1 _ 63 (0,0) hB];rfl
  have c3:W.cell? ⟨B,3,none⟩=some (.int .i64 cnt):=by rw [cell_of_row W _ 3 _ 63 (0,0) hB];rfl
  have f3:W.frozen? ⟨B,3,none⟩=false:=by simp [World.frozen?, hB]
  have hset:(W.setCell ⟨B,3,none⟩ (.int .i64 (cnt+1))).heap[B]? =some (.cells #[s,.int .i64 i,.int .i64 dp,.int .i64 (cnt+1),sv] 63):=by
    simp only [World.setCell,Array.getElem?_modify,hB];simp
  have hfr:∀ b,b≠B->(W.setCell ⟨B,3,none⟩ (.int .i64 (cnt+1))).heap[b]? =W.heap[b]? :=fun b hb=>Below.heap_setCell W ⟨B,3,none⟩ _ b hb
  have hsz:(W.setCell ⟨B,3,none⟩ (.int .i64 (cnt+1))).heap.size=W.heap.size:=by simp [World.setCell]
  have d1:(W.setCell ⟨B,3,none⟩ (.int .i64 (cnt+1))).cell? ⟨B,1,none⟩=some (.int .i64 i):=by rw [cell_of_row _ _ 1 _ 63 (0,0) hset];rfl
  refine callsIn_of_wp Try.func36 rfl h19 ?_ hro
  simp only [Try.ntmps36,List.size_toArray,List.length_cons,List.length_nil,Nat.reduceAdd,Nat.reduceSub,Array.replicate_succ,Array.replicate_zero,List.push_toArray,List.append_toArray,List.nil_append,List.cons_append]
  by_cases h30:30 < cnt+1
  · simp only [if_pos h30]
    gi_wp2_with (gi_at_call 22;refine (zrR F _ h11 hro B 7 i _ d1).mono ?_;rintro e w2 ⟨rfl,rfl⟩)
    exact ⟨rfl,⟨rfl,rfl,rfl,hsz,hfr,hset⟩,rfl⟩
  · simp only [if_neg h30]
    gi_wp2
    go_end0
    exact ⟨⟨rfl,rfl,rfl,hsz,hfr,hset⟩,rfl⟩
end
section
open Go.RowKit (Below)
attribute [local go_sem] Oper.semAt_some
theorem zs6 (F:Fence) (m:Nat) (h32:F.fn 53) (hro:F.round=none) (a:Option Addr) (n c:Nat) (w:World):CallsIn F m Try.prog 53 #[.slice a n c] w fun e w'=>e = .returned (.func (.func 54) #[] #[.pointer (some ⟨w.heap.size,0,none⟩)])/\w'=w.alloc (.cells #[.slice a n c] 61):=by
  refine callsIn_of_wp Try.func53 rfl h32 ?_ hro
  simp only [Try.ntmps53,List.size_toArray,List.length_cons,List.length_nil,Nat.reduceAdd,Nat.reduceSub,Array.replicate_succ,Array.replicate_zero,List.push_toArray,List.append_toArray,List.nil_append,List.cons_append]
  gi_wp2
  go_ret
  exact ⟨rfl,rfl⟩
def Fnd (ns:List (Int×Bool)) (c:Int) (r:Option (Nat×Bool)):Prop:=zdM ns c ns.length=r
def Cnd (ns:List (Int×Bool)) (c:Int) (k:Nat):Prop:=zdM ns c ns.length=zdM ns c (ns.length - k)
def FxP (Pn:World->Prop) (Px:Code->World->Prop) (Pz:List PanicEntry->World->Prop):Exit->Act->World->Prop:=fun e a3 W3=>
  (e = .normal/\Pn W3)\/(∃ c,(match e with | .ret=>c=Code.ret | .exit id=>c=Code.exit id | _=>False)/\Px c W3)\/∃ ch,e = .panic ch/\a3.defers=[]/\Pz ch W3
theorem FxP.n {Pn:World->Prop} {Px:Code->World->Prop} {Pz:List PanicEntry->World->Prop} {a:Act} {W:World} (h:Pn W):FxP Pn Px Pz .normal a W := .inl ⟨rfl,h⟩
theorem FxP.x0 {Pn:World->Prop} {Px:Code->World->Prop} {Pz:List PanicEntry->World->Prop} {a:Act} {W:World} {i:Nat} (h:Px (.exit i) W):FxP Pn Px Pz (.exit i) a W := .inr (.inl ⟨_,rfl,h⟩)
theorem FxP.xr {Pn:World->Prop} {Px:Code->World->Prop} {Pz:List PanicEntry->World->Prop} {a:Act} {W:World} (h:Px .ret W):FxP Pn Px Pz .ret a W := .inr (.inl ⟨_,rfl,h⟩)
theorem FxP.z {Pn:World->Prop} {Px:Code->World->Prop} {Pz:List PanicEntry->World->Prop} {a:Act} {W:World} {ch:List PanicEntry} (hd:a.defers=[]) (h:Pz ch W):FxP Pn Px Pz (.panic ch) a W := .inr (.inr ⟨_,rfl,hd,h⟩)
def FxR (B:Nat) (s:ByteArray) (i dp cnt:Int) (sv:Value) (c:Int) (ns:List (Int×Bool)) (w:World) (e:Ending) (w':World):Prop:=
  (w'.os=w.os/\w'.tape=w.tape/\w'.output=w.output/\w.heap.size<=w'.heap.size/\∀ b,b < w.heap.size->b≠B->w'.heap[b]? =w.heap[b]?)/\
      (match zdM ns c ns.length with
      | some (j,false)=>if 30 < cnt+1 then e = .panicked (pch 59 (7,i)) else
          ∃ q,e = .returned (.pointer (some ⟨q,0,none⟩))/\w.heap.size<=q/\w'.heap[q]? =some (.cells #[.int .u8 88,.int .i64 j,.slice none 0 0] 67)/\w'.heap[B]? =some (.cells #[.string s,.int .i64 (i+1),.int .i64 dp,.int .i64 (cnt+1),sv] 63)
      | _=>e = .panicked (pch 59 (5,i)))
theorem FxR.err {B:Nat} {s:ByteArray} {i dp cnt:Int} {sv:Value} {c:Int} {ns:List (Int×Bool)} {w w':World} (hk:w'.os=w.os/\w'.tape=w.tape/\w'.output=w.output/\w.heap.size<=w'.heap.size/\∀ b,b < w.heap.size->b≠B->w'.heap[b]? =w.heap[b]?)
    (h:zdM ns c ns.length=none\/∃ j,zdM ns c ns.length=some (j,true)):FxR B s i dp cnt sv c ns w (.panicked (pch 59 (5,i))) w':=by
  refine ⟨hk,?_⟩
  rcases h with h | ⟨j,h⟩<;>rw [h]
theorem FxR.full {B:Nat} {s:ByteArray} {i dp cnt:Int} {sv:Value} {c:Int} {ns:List (Int×Bool)} {w w':World} (hk:w'.os=w.os/\w'.tape=w.tape/\w'.output=w.output/\w.heap.size<=w'.heap.size/\∀ b,b < w.heap.size->b≠B->w'.heap[b]? =w.heap[b]?)
    {j:Nat} (h:zdM ns c ns.length=some (j,false)) (hc:30 < cnt+1):FxR B s i dp cnt sv c ns w (.panicked (pch 59 (7,i))) w':=by
  refine ⟨hk,?_⟩
  rw [h]
  show if _ then _ else _
  rw [if_pos hc]
theorem FxR.ok {B:Nat} {s:ByteArray} {i dp cnt:Int} {sv:Value} {c:Int} {ns:List (Int×Bool)} {w w':World} (hk:w'.os=w.os/\w'.tape=w.tape/\w'.output=w.output/\w.heap.size<=w'.heap.size/\∀ b,b < w.heap.size->b≠B->w'.heap[b]? =w.heap[b]?)
    {j:Nat} (h:zdM ns c ns.length=some (j,false)) (hc : ¬ 30 < cnt+1) {q:Nat} (hq:w.heap.size<=q) (h1:w'.heap[q]? =some (.cells #[.int .u8 88,.int .i64 j,.slice none 0 0] 67)) (h2:w'.heap[B]? =some (.cells #[.string s,.int .i64 (i+1),.int .i64 dp,.int .i64 (cnt+1),sv] 63)):FxR B s i dp cnt sv c ns w (.returned (.pointer (some ⟨q,0,none⟩))) w':=by
  refine ⟨hk,?_⟩
  rw [h]
  show if _ then _ else _
  rw [if_neg hc]
  exact ⟨q,rfl,hq,h1,h2⟩
theorem zvd (F:Fence) (hFn:∀ f,F.fn f->∃ fn,Try.prog.funcs[f]? =some fn) (h30:F.fn 51) (h32:F.fn 53) (h33:F.fn 54) (h19:F.fn 36) (h11:F.fn 22) (hro:F.round=none) (B:Nat) (s:ByteArray) (i dp cnt:Int) (hi:0<=i/\i<=1000000) (hcnt:0<=cnt/\cnt<=1000000) (sv:Value) (a:Option Addr) (m cap:Nat) (hsv:sv = .slice a m cap) (c:Int) (ns:List (Int×Bool)) (hlen:ns.length<=1000) (w:World)
    (hB:w.heap[B]? =some (.cells #[.string s,.int .i64 i,.int .i64 dp,.int .i64 cnt,sv] 63)) (hI:zph w sv ns) (hne:∀ b off m cap,sv = .slice (some ⟨b,off,none⟩) m cap->b≠B):
    CallsIn F 6 Try.prog 51 #[.pointer (some ⟨B,0,none⟩),.int .u8 c] w (FxR B s i dp cnt sv c ns w):=by
  subst hsv
  refine callsIn_of_wp_marks Try.func51 rfl h30 ?_ hro
  simp only [Try.ntmps51,List.size_toArray,List.length_cons,List.length_nil,Nat.reduceAdd,Nat.reduceSub,Array.replicate_succ,Array.replicate_zero,List.push_toArray,List.append_toArray,List.nil_append,List.cons_append]
  have hBl:B < w.heap.size:=(Array.getElem?_eq_some_iff.1 hB).1
  have hcellB:∀ W:World,W.heap[B]? =some (.cells #[.string s,.int .i64 i,.int .i64 dp,.int .i64 cnt,.slice a m cap] 63)->W.cell? ⟨B,1,none⟩=some (.int .i64 i)/\W.cell? ⟨B,3,none⟩=some (.int .i64 cnt)/\W.cell? ⟨B,4,none⟩=some (.slice a m cap):=fun W h=>
    ⟨by rw [cell_of_row W _ 1 _ 63 (0,0) h];rfl,by rw [cell_of_row W _ 3 _ 63 (0,0) h];rfl,by rw [cell_of_row W _ 4 _ 63 (0,0) h];rfl⟩
  obtain ⟨b1,b3,b4⟩:=hcellB w hB
  have hB3:Below w.heap.size w (((w.alloc (.cells #[.pointer (some ⟨B,0,none⟩)] 60)).alloc (.cells #[.int .u8 c] 5)).alloc (.cells #[.pointer none] 38)):=(((Below.refl _ w).alloc (Nat.le_refl _) _).alloc (by simp) _).alloc (by simp;omega) _
  obtain ⟨b1',b3',b4'⟩:=hcellB _ ((hB3.block B hBl).trans hB)
  gi_wp2_with (gi_at_call 53;refine (zs6 F _ h32 hro _ _ _ _).mono ?_;rintro e w4 ⟨rfl,rfl⟩)
  have sz3:(((w.alloc (.cells #[.pointer (some ⟨B,0,none⟩)] 60)).alloc (.cells #[.int .u8 c] 5)).alloc (.cells #[.pointer none] 38)).heap.size=w.heap.size+3:=by simp
  have hP0:(((w.alloc (.cells #[.pointer (some ⟨B,0,none⟩)] 60)).alloc (.cells #[.int .u8 c] 5)).alloc (.cells #[.pointer none] 38)).heap[w.heap.size]? =some (.cells #[.pointer (some ⟨B,0,none⟩)] 60):=(Below.heap_alloc _ _ _ (by simp;omega)).trans ((Below.heap_alloc _ _ _ (by simp)).trans (World.alloc_heap_new w _))
  have hP1:(((w.alloc (.cells #[.pointer (some ⟨B,0,none⟩)] 60)).alloc (.cells #[.int .u8 c] 5)).alloc (.cells #[.pointer none] 38)).heap[w.heap.size+1]? =some (.cells #[.int .u8 c] 5):=(Below.heap_alloc _ _ _ (by simp)).trans (by have:=World.alloc_heap_new (w.alloc (.cells #[.pointer (some ⟨B,0,none⟩)] 60)) (.cells #[.int .u8 c] 5);rwa [World.size_alloc] at this)
  have hP2:(((w.alloc (.cells #[.pointer (some ⟨B,0,none⟩)] 60)).alloc (.cells #[.int .u8 c] 5)).alloc (.cells #[.pointer none] 38)).heap[w.heap.size+1+1]? =some (.cells #[.pointer none] 38):=by
    have:=World.alloc_heap_new ((w.alloc (.cells #[.pointer (some ⟨B,0,none⟩)] 60)).alloc (.cells #[.int .u8 c] 5)) (.cells #[.pointer none] 38)
    rwa [World.size_alloc,World.size_alloc] at this
  generalize hw3:((w.alloc (.cells #[.pointer (some ⟨B,0,none⟩)] 60)).alloc (.cells #[.int .u8 c] 5)).alloc (.cells #[.pointer none] 38)=w3 at *
  have hP3:=World.alloc_heap_new w3 (.cells #[.slice a m cap] 61)
  have hB34:Below w3.heap.size w3 (w3.alloc (.cells #[.slice a m cap] 61)):=(Below.refl _ w3).alloc (Nat.le_refl _) _
  have sz4:(w3.alloc (.cells #[.slice a m cap] 61)).heap.size=w.heap.size+4:=by simp [sz3]
  generalize hw4:w3.alloc (.cells #[.slice a m cap] 61)=w4 at *
  have hB4:Below w.heap.size w w4:=hB3.trans (hB34.mono (by omega))
  have q0:=(hB34.block w.heap.size (by omega)).trans hP0
  have q1:=(hB34.block (w.heap.size+1) (by omega)).trans hP1
  have q2:=(hB34.block (w.heap.size+1+1) (by omega)).trans hP2
  have qB:=(hB4.block B hBl).trans hB
  have hI4:zph w4 (.slice a m cap) ns:=by
    rcases hI with h | ⟨b,off,cp,e,hb,hc⟩
    · exact .inl h
    · exact .inr ⟨b,off,cp,e,Nat.lt_of_lt_of_le hb hB4.size,fun j hj=>⟨(World.cell?_of_block (w:=w) (w':=w4) (a:=⟨b,off+j * 2,none⟩) (hB4.block b hb)).trans (hc j hj).1,(World.cell?_of_block (w:=w) (w':=w4) (a:=⟨b,off+j * 2+1,none⟩) (hB4.block b hb)).trans (hc j hj).2⟩⟩
  rw [sz3] at *
  have c4:w4.cell? ⟨w.heap.size+3,0,none⟩=some (.slice a m cap):=by rw [cell_of_row w4 _ 0 _ 61 (0,0) hP3];rfl
  refine zxH hro (by omega) hFn (gf:=54) (lb:=#[.pointer (some ⟨w.heap.size+3,0,none⟩)]) rfl h33 (enters_of Try.func54 (by kernel_rfl) rfl) (N:=ns.length) (encs:=zvr ns) (fun k=>rfl)
    (zwm F 5 h33 hro (by omega) (w.heap.size+3) _ ns hlen w4 (by omega) c4 hI4)
    (Cnd ns c)
    (fun c' W=>(c' = .exit 0/\(∃ j,Fnd ns c (some (j,true)))/\Below w4.heap.size w4 W)\/
      (c' = .ret/\∃ j q,Fnd ns c (some (j,false)) /\ ¬ 30 < cnt+1/\(W.os=w.os/\W.tape=w.tape/\W.output=w.output/\w4.heap.size<=W.heap.size/\∀ b,b < w.heap.size->b≠B->W.heap[b]? =w.heap[b]?)/\w4.heap.size<=q/\W.heap[q]? =some (.cells #[.int .u8 88,.int .i64 (j:Nat),.slice none 0 0] 67)/\
        W.heap[w.heap.size+1+1]? =some (.cells #[.pointer (some ⟨q,0,none⟩)] 38)/\W.heap[B]? =some (.cells #[.string s,.int .i64 (i+1),.int .i64 dp,.int .i64 (cnt+1),.slice a m cap] 63)))
    (fun ch W=>(∃ j,Fnd ns c (some (j,false)))/\30 < cnt+1/\ch=pch 59 (7,i)/\(W.os=w.os/\W.tape=w.tape/\W.output=w.output/\w4.heap.size<=W.heap.size/\∀ b,b < w.heap.size->b≠B->W.heap[b]? =w.heap[b]?))
    rfl ?hX ?round ?done ?stop ?pan
  case hX=>
    rintro c' W l r o hl hle (⟨rfl,hf,hb⟩ | ⟨rfl,j,q,hf,hc,⟨k1,k2,k3,k4,k5⟩,hq,hq1,hq2,hq3⟩)
    · exact .inl ⟨rfl,hf,hb.trans ⟨rfl,rfl,rfl,by simp,fun b hb=>World.putObj_heap_other (by omega)⟩⟩
    · have hql:q≠l:=fun e=>by subst e;rw [hl] at hq1;cases hq1
      exact .inr ⟨rfl,j,q,hf,hc,⟨k1,k2,k3,by simpa using k4,fun b hb hb2=>(World.putObj_heap_other (by omega)).trans (k5 b hb hb2)⟩,hq,(World.putObj_heap_other hql).trans hq1,(World.putObj_heap_other (by omega)).trans hq2,(World.putObj_heap_other (by omega)).trans hq3⟩
  case round=>
    intro k hk hCk l W hle hlt hbW
    obtain ⟨j,hj⟩:∃ j:Nat,ns.length - 1 - k=j:=⟨_,rfl⟩
    have ej:(ns.length:Int) - 1 - k=(j:Int):=by omega
    have hnext:ns.length - (k+1)=j:=by omega
    unfold zvr
    rw [hj,ej]
    have hfact:(¬ (ns.getD j (0,false)).1=c->Cnd ns c (k+1))/\((ns.getD j (0,false)).1=c->Fnd ns c (some (j,(ns.getD j (0,false)).2))):=by
      unfold Cnd Fnd at *
      rw [hCk,show ns.length - k=j+1 by omega,hnext]
      show (¬ _->(if _ then _ else _)=_)/\(_->(if _ then _ else _)=_)
      exact ⟨fun h=>if_neg h,fun h=>if_pos h⟩
    generalize (ns.getD j (0,false)).1=sg at hfact
    generalize (ns.getD j (0,false)).2=tn at hfact
    obtain ⟨hf1,hf2⟩:=hfact
    have hw4l:w.heap.size+4<=w4.heap.size:=by omega
    clear hCk sz4
    gi_wp2
    refine ⟨(Below.refl _ W).alloc (Nat.le_refl _) _,fun W₂ o1 o2 o3 o4 hsame => ?_⟩
    have hN1:(W.alloc (.cells #[.int .u8 sg,.bool tn] 91)).heap[W.heap.size]? =some (.cells #[.int .u8 sg,.bool tn] 91):=World.alloc_heap_new W _
    have hold:∀ b,b < w4.heap.size->W₂.heap[b]? =w4.heap[b]? :=fun b hb=>(hsame b (by omega)).trans ((Below.heap_alloc W _ b (Nat.lt_of_lt_of_le hb hbW.size)).trans (hbW.block b hb))
    have hN:=(hsame W.heap.size (by omega)).trans hN1
    have hsW:W₂.heap.size=W.heap.size+1:=o4
    have hb2:Below w4.heap.size w4 W₂:=⟨o1.trans hbW.os,o2.trans hbW.tape,o3.trans hbW.output,by have:=hbW.size;omega,hold⟩
    have n0:W₂.cell? ⟨W.heap.size,0,none⟩=some (.int .u8 sg):=by rw [cell_of_row W₂ _ 0 _ 91 (0,0) hN];rfl
    have n1:W₂.cell? ⟨W.heap.size,1,none⟩=some (.bool tn):=by rw [cell_of_row W₂ _ 1 _ 91 (0,0) hN];rfl
    have r0:=(hold w.heap.size (by omega)).trans q0
    have r1:=(hold (w.heap.size+1) (by omega)).trans q1
    have r2:=(hold (w.heap.size+1+1) (by omega)).trans q2
    have rB:=(hold B (by omega)).trans qB
    have s0:W₂.cell? ⟨w.heap.size,0,none⟩=some (.pointer (some ⟨B,0,none⟩)):=by rw [cell_of_row W₂ _ 0 _ 60 (0,0) r0];rfl
    have s1:W₂.cell? ⟨w.heap.size+1,0,none⟩=some (.int .u8 c):=by rw [cell_of_row W₂ _ 0 _ 5 (0,0) r1];rfl
    clear hN1 q0 q1 q2 qB hP0 hP1 hP2 hP3 c4 hI4 hI b1 b3 b4 b1' b3' b4' hcellB
    obtain ⟨Pst,hPn,hP0,hPr,hPz,hPe⟩:∃ Pst:Exit->Act->World->Prop,(∀ av W3,Cnd ns c (k+1)->Below W₂.heap.size W₂ W3->Pst .normal av W3)/\
        (∀ av W3 j,Fnd ns c (some (j,true))->Below w4.heap.size w4 W3->zmm w4.heap.size W₂ W3->Pst (.exit 0) av W3)/\
        (∀ av W3 j q,Fnd ns c (some (j,false)) -> ¬ 30 < cnt+1->(W3.os=w.os/\W3.tape=w.tape/\W3.output=w.output/\w4.heap.size<=W3.heap.size/\∀ b,b < w.heap.size->b≠B->W3.heap[b]? =w.heap[b]?)->w4.heap.size<=q->W3.heap[q]? =some (.cells #[.int .u8 88,.int .i64 (j:Nat),.slice none 0 0] 67)->
          W3.heap[w.heap.size+1+1]? =some (.cells #[.pointer (some ⟨q,0,none⟩)] 38)->W3.heap[B]? =some (.cells #[.string s,.int .i64 (i+1),.int .i64 dp,.int .i64 (cnt+1),.slice a m cap] 63)->zmm w4.heap.size W₂ W3->Pst .ret av W3)/\
        (∀ av W3 j ch,av.defers=[]->Fnd ns c (some (j,false))->30 < cnt+1->ch=pch 59 (7,i)->(W3.os=w.os/\W3.tape=w.tape/\W3.output=w.output/\w4.heap.size<=W3.heap.size/\∀ b,b < w.heap.size->b≠B->W3.heap[b]? =w.heap[b]?)->zmm w4.heap.size W₂ W3->Pst (.panic ch) av W3)/\
        ∀ e a3 W3,Pst e a3 W3->FxP (fun W3=>Cnd ns c (k+1)/\Below W₂.heap.size W₂ W3) (fun c' W3=>zmm w4.heap.size W₂ W3/\((c' = .exit 0/\(∃ j,Fnd ns c (some (j,true)))/\Below w4.heap.size w4 W3)\/
      (c' = .ret/\∃ j q,Fnd ns c (some (j,false)) /\ ¬ 30 < cnt+1/\(W3.os=w.os/\W3.tape=w.tape/\W3.output=w.output/\w4.heap.size<=W3.heap.size/\∀ b,b < w.heap.size->b≠B->W3.heap[b]? =w.heap[b]?)/\w4.heap.size<=q/\W3.heap[q]? =some (.cells #[.int .u8 88,.int .i64 (j:Nat),.slice none 0 0] 67)/\
        W3.heap[w.heap.size+1+1]? =some (.cells #[.pointer (some ⟨q,0,none⟩)] 38)/\W3.heap[B]? =some (.cells #[.string s,.int .i64 (i+1),.int .i64 dp,.int .i64 (cnt+1),.slice a m cap] 63))))
      (fun ch W3=>zmm w4.heap.size W₂ W3/\((∃ j,Fnd ns c (some (j,false)))/\30 < cnt+1/\ch=pch 59 (7,i)/\(W3.os=w.os/\W3.tape=w.tape/\W3.output=w.output/\w4.heap.size<=W3.heap.size/\∀ b,b < w.heap.size->b≠B->W3.heap[b]? =w.heap[b]?))) e a3 W3:=by
      refine ⟨_,fun a W3 h1 h2=>FxP.n ⟨h1,h2⟩,fun a W3 j h1 h2 h3=>FxP.x0 ⟨h3,.inl ⟨rfl,⟨j,h1⟩,h2⟩⟩,fun a W3 j q h1 h2 h3 h4 h5 h6 h7 h8=>FxP.xr ⟨h8,.inr ⟨rfl,j,q,h1,h2,h3,h4,h5,h6,h7⟩⟩,fun a W3 j ch hd h1 h2 h3 h4 h5=>FxP.z hd ⟨h5,⟨j,h1⟩,h2,h3,h4⟩,fun e a3 W3 h=>h⟩
    refine wpIn_mono (Q:=Pst) ?_ (fun e a3 W3 hp => ?_)
    rotate_left
    · rcases hPe e a3 W3 hp with ⟨rfl,h1,h2⟩ | ⟨c',hc',h1,h2⟩ | ⟨ch,rfl,hd,h1,h2⟩
      · exact .inl ⟨rfl,h1,h2⟩
      · exact .inr (.inl ⟨c',hc',h1,by rcases h2 with ⟨g1,g2⟩ | ⟨g1,j',q',g2,g3,g4,g5,g6,g7,g8⟩;exact .inl ⟨g1,g2⟩;exact .inr ⟨g1,j',g2,by omega,g4,q',g5,g6,g7,g8⟩⟩)
      · exact .inr (.inr ⟨ch,rfl,hd,h1,h2⟩)
    clear hPe
    by_cases hs:sg=c
    case neg=>
      have hcn:=fun a=>hPn a W₂ (hf1 hs) (Below.refl _ _)
      clear hf1 hf2 hPn hP0 hPr hPz
      gi_wp2
      exact hcn _
    have hCj:=hf2 hs
    clear hf1 hf2 hPn
    subst hs
    cases tn with
    | true=>
      have hx0:=fun a=>hP0 a W₂ j hCj hb2 ⟨Nat.le_refl _,fun _ _ _=>rfl⟩
      clear hP0 hPr hPz hCj
      gi_wp2
      exact hx0 _
    | false=>
      have hPr:=fun a W3 q=>hPr a W3 j q hCj
      have hPz:=fun a W3 ch hd=>hPz a W3 j ch hd hCj
      clear hP0 hCj
      gi_wp2
      show CallsIn F 3 Try.prog 36 #[.pointer (some ⟨B,0,none⟩)] W₂ _
      refine (zs7 F 3 (by omega) h19 h11 hro B (.string s) (.slice a m cap) i dp cnt hcnt W₂ rB).mono ?_
      rintro e W3 ⟨⟨p1,p2,p3,p4,p5,p6⟩,he⟩
      have hkeep:∀ b,b < w.heap.size->b≠B->W3.heap[b]? =w.heap[b]? :=fun b hb hb2=>(p5 b hb2).trans ((hold b (by omega)).trans (hB4.block b hb))
      have hup:zmm w4.heap.size W₂ W3:=⟨by omega,fun b hb hb2=>p5 b (by omega)⟩
      have hos:W3.os=w.os/\W3.tape=w.tape/\W3.output=w.output:=⟨p1.trans (hb2.os.trans hB4.os),p2.trans (hb2.tape.trans hB4.tape),p3.trans (hb2.output.trans hB4.output)⟩
      have hsz4:w4.heap.size<=W3.heap.size:=by have:=hb2.size;omega
      by_cases hc30:30 < cnt+1
      · rw [if_pos hc30] at he
        subst he
        have:=hPz
        exact hPz _ W3 _ rfl hc30 rfl ⟨hos.1,hos.2.1,hos.2.2,hsz4,hkeep⟩ hup
      rw [if_neg hc30] at he
      subst he
      clear hPz
      have t1:W3.cell? ⟨B,1,none⟩=some (.int .i64 i):=by rw [cell_of_row W3 _ 1 _ 63 (0,0) p6];rfl
      have t2:W3.frozen? ⟨B,1,none⟩=false:=by simp [World.frozen?, p6]
      have u0:=(p5 w.heap.size (by omega)).trans r0
      have u2:=(p5 (w.heap.size+1+1) (by omega)).trans r2
      have t3:W3.cell? ⟨w.heap.size,0,none⟩=some (.pointer (some ⟨B,0,none⟩)):=by rw [cell_of_row W3 _ 0 _ 60 (0,0) u0];rfl
      have hi1:i+1<=9223372036854775807:=by omega
      have v1:(W3.setCell ⟨B,1,none⟩ (.int .i64 (i+1))).heap[B]? =some (.cells #[.string s,.int .i64 (i+1),.int .i64 dp,.int .i64 (cnt+1),.slice a m cap] 63):=by simp only [World.setCell,Array.getElem?_modify,p6];simp
      have v2:∀ b,b≠B->(W3.setCell ⟨B,1,none⟩ (.int .i64 (i+1))).heap[b]? =W3.heap[b]? :=fun b hb=>Below.heap_setCell W3 ⟨B,1,none⟩ _ b hb
      have v3:(W3.setCell ⟨B,1,none⟩ (.int .i64 (i+1))).heap.size=W3.heap.size:=by simp [World.setCell]
      have x0:((W3.setCell ⟨B,1,none⟩ (.int .i64 (i+1))).alloc (.cells #[.int .u8 88,.int .i64 (j:Nat),.slice none 0 0] 67)).heap[W3.heap.size]? =some (.cells #[.int .u8 88,.int .i64 (j:Nat),.slice none 0 0] 67):=by
        have:=World.alloc_heap_new (W3.setCell ⟨B,1,none⟩ (.int .i64 (i+1))) (.cells #[.int .u8 88,.int .i64 (j:Nat),.slice none 0 0] 67)
        rwa [v3] at this
      have x1:∀ b,b < W3.heap.size->((W3.setCell ⟨B,1,none⟩ (.int .i64 (i+1))).alloc (.cells #[.int .u8 88,.int .i64 (j:Nat),.slice none 0 0] 67)).heap[b]? =(W3.setCell ⟨B,1,none⟩ (.int .i64 (i+1))).heap[b]? :=fun b hb=>Below.heap_alloc _ _ b (by rw [v3];exact hb)
      have x2:=(x1 (w.heap.size+1+1) (by omega)).trans ((v2 _ (by omega)).trans u2)
      have x3:((W3.setCell ⟨B,1,none⟩ (.int .i64 (i+1))).alloc (.cells #[.int .u8 88,.int .i64 (j:Nat),.slice none 0 0] 67)).heap.size=W3.heap.size+1:=by simp [v3]
      have t4:((W3.setCell ⟨B,1,none⟩ (.int .i64 (i+1))).alloc (.cells #[.int .u8 88,.int .i64 (j:Nat),.slice none 0 0] 67)).cell? ⟨w.heap.size+1+1,0,none⟩=some (.pointer none):=by rw [cell_of_row _ _ 0 _ 38 (0,0) x2];rfl
      have t5:((W3.setCell ⟨B,1,none⟩ (.int .i64 (i+1))).alloc (.cells #[.int .u8 88,.int .i64 (j:Nat),.slice none 0 0] 67)).frozen? ⟨w.heap.size+1+1,0,none⟩=false:=by simp [World.frozen?, x2]
      have y0:∀ b,b≠w.heap.size+1+1->(((W3.setCell ⟨B,1,none⟩ (.int .i64 (i+1))).alloc (.cells #[.int .u8 88,.int .i64 (j:Nat),.slice none 0 0] 67)).setCell ⟨w.heap.size+1+1,0,none⟩ (.pointer (some ⟨W3.heap.size,0,none⟩))).heap[b]? =((W3.setCell ⟨B,1,none⟩ (.int .i64 (i+1))).alloc (.cells #[.int .u8 88,.int .i64 (j:Nat),.slice none 0 0] 67)).heap[b]? :=fun b hb=>Below.heap_setCell _ ⟨w.heap.size+1+1,0,none⟩ _ b hb
      have y1:(((W3.setCell ⟨B,1,none⟩ (.int .i64 (i+1))).alloc (.cells #[.int .u8 88,.int .i64 (j:Nat),.slice none 0 0] 67)).setCell ⟨w.heap.size+1+1,0,none⟩ (.pointer (some ⟨W3.heap.size,0,none⟩))).heap[w.heap.size+1+1]? =some (.cells #[.pointer (some ⟨W3.heap.size,0,none⟩)] 38):=by
        simp only [World.setCell,Array.getElem?_modify] at x2 ⊢;simp only [x2];simp
      have y2:(((W3.setCell ⟨B,1,none⟩ (.int .i64 (i+1))).alloc (.cells #[.int .u8 88,.int .i64 (j:Nat),.slice none 0 0] 67)).setCell ⟨w.heap.size+1+1,0,none⟩ (.pointer (some ⟨W3.heap.size,0,none⟩))).heap.size=W3.heap.size+1:=by rw [<- x3];simp [World.setCell]
      have hfin:=fun av=>hPr av (((W3.setCell ⟨B,1,none⟩ (.int .i64 (i+1))).alloc (.cells #[.int .u8 88,.int .i64 (j:Nat),.slice none 0 0] 67)).setCell ⟨w.heap.size+1+1,0,none⟩ (.pointer (some ⟨W3.heap.size,0,none⟩))) W3.heap.size (by omega)
        ⟨hos.1,hos.2.1,hos.2.2,by omega,fun b hb hbB=>(y0 b (by omega)).trans ((x1 b (by omega)).trans ((v2 b hbB).trans (hkeep b hb hbB)))⟩ hsz4 ((y0 _ (by omega)).trans x0) y1 ((y0 B (by omega)).trans ((x1 B (by omega)).trans v1))
        ⟨by omega,fun b hb hb2=>(y0 b (by omega)).trans ((x1 b (by omega)).trans ((v2 b (by omega)).trans (p5 b (by omega))))⟩
      clear hPr v1 v2 v3 x0 x1 x2 x3 y0 y1 y2 hup hkeep p5 p6 r0 r1 r2 rB u0 u2 hold hN hsame
      gi_wp2
      rw [show W.heap.size+1=W3.heap.size by omega]
      exact hfin _
  case done=>
    intro hC D W hD hbW hK
    have hnone:zdM ns c ns.length=none:=by
      unfold Cnd at hC;rw [hC,Nat.sub_self];rfl
    have rB:=(hbW.block B (by omega)).trans qB
    have r0:=(hbW.block w.heap.size (by omega)).trans q0
    have s0:W.cell? ⟨w.heap.size,0,none⟩=some (.pointer (some ⟨B,0,none⟩)):=by rw [cell_of_row W _ 0 _ 60 (0,0) r0];rfl
    have s1:W.cell? ⟨B,1,none⟩=some (.int .i64 i):=by rw [cell_of_row W _ 1 _ 63 (0,0) rB];rfl
    have hb2:Below w.heap.size w W:=hB4.trans (hbW.mono hB4.size)
    have hkd:=hb2.trans (belowK_b (n₀:=w.heap.size) (w:=w) (Nat.le_refl _) W D _ (.deferred none) (by omega) hK rfl rfl)
    have hR:FxR B s i dp cnt (.slice a m cap) c ns w (.panicked (pch 59 (5,i))) (W.putObj D (.deferred none)):=FxR.err ⟨hkd.os,hkd.tape,hkd.output,hkd.size,fun b hb _=>hkd.block b hb⟩ (.inl hnone)
    clear hnone hC hkd
    gi_wp2_with (gi_at_call 22;refine (zrR F _ h11 hro B 5 i _ s1).mono ?_;rintro e w2 ⟨rfl,rfl⟩)
    exact ⟨by simp,.inl ⟨_,_,rfl,run_takeDeferred hK,hR⟩⟩
  case stop=>
    rintro D c' W hD (⟨rfl,⟨j,hf⟩,hbW⟩ | ⟨rfl,j,q,hf,hc30,⟨k1,k2,k3,k4,k5⟩,hq,g1,g2,g3⟩) hK
    · unfold Fnd at hf
      have rB:=(hbW.block B (by omega)).trans qB
      have r0:=(hbW.block w.heap.size (by omega)).trans q0
      have s0:W.cell? ⟨w.heap.size,0,none⟩=some (.pointer (some ⟨B,0,none⟩)):=by rw [cell_of_row W _ 0 _ 60 (0,0) r0];rfl
      have s1:W.cell? ⟨B,1,none⟩=some (.int .i64 i):=by rw [cell_of_row W _ 1 _ 63 (0,0) rB];rfl
      have hb2:Below w.heap.size w W:=hB4.trans (hbW.mono hB4.size)
      have hkd:=hb2.trans (belowK_b (n₀:=w.heap.size) (w:=w) (Nat.le_refl _) W D _ (.deferred none) (by omega) hK rfl rfl)
      have hR:FxR B s i dp cnt (.slice a m cap) c ns w (.panicked (pch 59 (5,i))) (W.putObj D (.deferred none)):=FxR.err ⟨hkd.os,hkd.tape,hkd.output,hkd.size,fun b hb _=>hkd.block b hb⟩ (.inr ⟨j,hf⟩)
      clear hf hkd
      gi_wp2_with (gi_at_call 22;refine (zrR F _ h11 hro B 5 i _ s1).mono ?_;rintro e w2 ⟨rfl,rfl⟩)
      exact ⟨by simp,.inl ⟨_,_,rfl,run_takeDeferred hK,hR⟩⟩
    · unfold Fnd at hf
      have s2:W.cell? ⟨w.heap.size+1+1,0,none⟩=some (.pointer (some ⟨q,0,none⟩)):=by rw [cell_of_row W _ 0 _ 38 (0,0) g2];rfl
      have hqD:q≠D:=fun e=>by subst e;rw [hK] at g1;cases g1
      have h2D:w.heap.size+1+1≠D:=by omega
      have g2':(W.putObj D (.deferred none)).heap[w.heap.size+1+1]? =some (.cells #[.pointer (some ⟨q,0,none⟩)] 38):=(World.putObj_heap_other h2D).trans g2
      have s3:(W.putObj D (.deferred none)).cell? ⟨w.heap.size+1+1,0,none⟩=some (.pointer (some ⟨q,0,none⟩)):=by rw [cell_of_row _ _ 0 _ 38 (0,0) g2'];rfl
      have hR:FxR B s i dp cnt (.slice a m cap) c ns w (.returned (.pointer (some ⟨q,0,none⟩))) (W.putObj D (.deferred none)):=FxR.ok (w':=W.putObj D (.deferred none)) ⟨k1,k2,k3,by simp;omega,fun b hb hbB=>(World.putObj_heap_other (by omega)).trans (k5 b hb hbB)⟩ hf hc30 (by omega) ((World.putObj_heap_other hqD).trans g1) ((World.putObj_heap_other (by omega)).trans g3)
      clear hf k5 g1 g3 g2 g2'
      gi_wp2
      refine ⟨by simp,.inl ⟨_,_,rfl,run_takeDeferred hK,?_⟩⟩
      exact ⟨_,by simp [results,Try.f51,go_sem,s3],hR⟩
  case pan=>
    rintro D ch W hD ⟨⟨j,hf⟩,hc30,rfl,k1,k2,k3,k4,k5⟩ hK
    unfold Fnd at hf
    have hR:FxR B s i dp cnt (.slice a m cap) c ns w (.panicked (pch 59 (7,i))) (W.putObj D (.deferred none)):=FxR.full (w':=W.putObj D (.deferred none)) ⟨k1,k2,k3,by simp;omega,fun b hb hbB=>(World.putObj_heap_other (by omega)).trans (k5 b hb hbB)⟩ hf hc30
    exact ⟨by simp,.inl ⟨_,_,rfl,run_takeDeferred hK,hR⟩⟩
end
section
open Go.RowKit (Below)
def fxF:Fence:={ fn:=fun f=>∃ fn,Try.prog.funcs[f]? =some fn,depth:=none,alive:=false }
def zib:Shape:=⟨[(.int .u8),.str,(.int .i64),(.int .i64),(.int .i64),(.list (.pair (.int .u8) (.pair .bool .unit)))],[(0,.ptr 100000 0),(1,.v 0)],[(100000,.box 63 [.v 1,.v 2,.v 3,.v 4,.own 100001]),(100001,.arr 91 5)]⟩
def zia:Shape:=⟨[(.tree (.pair (.int .u8) (.pair (.int .i64) .unit))),.str,(.int .i64),(.int .i64),(.int .i64),(.list (.pair (.int .u8) (.pair .bool .unit)))],[(0,.v 0)],[(100000,.box 63 [.v 1,.v 2,.v 3,.v 4,.own 100001]),(100001,.arr 91 5)]⟩
def zaz:CEp:=⟨51,zib,zia,fun X=>zbg X.1 X.2.1 X.2.2.1 X.2.2.2.1 X.2.2.2.2.1 X.2.2.2.2.2⟩
abbrev zqN (ns:FxNm):Ent := .arr 91 2 2 (ns.map (encD (.pair (.int .u8) (.pair .bool .unit))))
abbrev zub (s:List UInt8) (i dp cnt:Int):Ent := .box 63 [.d (.lit (.string ⟨⟨s⟩⟩)),.d (.lit (.int .i64 i)),.d (.lit (.int .i64 dp)),.d (.lit (.int .i64 cnt)),.own (LIM+1)]
theorem zve {w:World} {S:Nat->Prop} {H:Hd} {ns:FxNm} {v:Value} (h:EntRel w S H (zqN ns) v):zph w v (nmP ns)/\∃ a m c,v = .slice a m c:=by
  cases h with
  | arr _ _ _ _ _ xs hsz hown hbt hcs hrel=>
    rw [List.length_map] at hown hrel
    have hlen:(nmP ns).length=ns.length:=List.length_map _
    have hown0:=hown
    obtain ⟨hxl,h2⟩:=hown
    rcases h2 with ⟨rfl,h0⟩ | ⟨g,off,cap,cur,rfl,hh,k1,k2,k3,k4⟩
    · refine ⟨.inl ⟨none,0,rfl,?_⟩,_,_,_,rfl⟩
      exact List.eq_nil_of_length_eq_zero (by omega)
    refine ⟨.inr ⟨g,off,cap,by rw [hlen],(Array.getElem?_eq_some_iff.1 hh).1,fun j hj => ?_⟩,_,_,_,rfl⟩
    rw [hlen] at hj
    have e:(ns.map (encD (.pair (.int .u8) (.pair .bool .unit)))).getD j default = .agg [.lit (.int .u8 ((nmP ns).getD j (0,false)).1),.lit (.bool ((nmP ns).getD j (0,false)).2)]:=by
      unfold nmP
      rw [List.getD_eq_getElem?_getD,List.getD_eq_getElem?_getD,List.getElem?_map,List.getElem?_map,List.getElem?_eq_getElem hj];rfl
    have r0:=hrel j hj 0 (by omega)
    have r1:=hrel j hj 1 (by omega)
    rw [e] at r0 r1
    have r0:DRel w S (.lit (.int .u8 ((nmP ns).getD j (0,false)).1)) (xs.getD (j * 2+0) undef):=r0
    have r1:DRel w S (.lit (.bool ((nmP ns).getD j (0,false)).2)) (xs.getD (j * 2+1) undef):=r1
    have q:∀ k,k < 2->xs[j * 2+k]? =some (xs.getD (j * 2+k) undef):=fun k hk=>by
      rw [List.getD_eq_getElem?_getD,List.getElem?_eq_getElem (by omega)];rfl
    have q0:=hown0.cell (j * 2+0) _ (q 0 (by omega))
    have q1:=hown0.cell (j * 2+1) _ (q 1 (by omega))
    generalize xs.getD (j * 2+0) undef=u0 at r0 q0
    generalize xs.getD (j * 2+1) undef=u1 at r1 q1
    cases r0;cases r1
    exact ⟨q0,by rw [Nat.add_assoc];exact q1⟩
theorem zuc {c:Int} {s:List UInt8} {i dp cnt:Int} {ns:FxNm} {hp:Hp} (hi:0<=i/\i<=1000000) (hcnt:0<=cnt/\cnt<=1000000) (hns:ns.length<=1000) (eB:hp LIM=some (zub s i dp cnt)) (eR:hp (LIM+1)=some (zqN ns)) {w:World} {Xs:Nat->Prop} {H:Hd} {vs:Array Value} (hH:HOK Xs hp H w) (hvs:vs.size=2)
    (hargs:∀ i,i < 2->VRel w (Sh Xs (zcq hp) H w) H (([.ptr LIM 0,.d (.lit (.int .u8 c))]:List AV).getD i default) (vs.getD i undef)):
    ∃ B sv,H LIM=some (.pointer (some ⟨B,0,none⟩))/\H (LIM+1)=some sv/\(∃ a m c,sv = .slice a m c)/\w.heap[B]? =some (.cells #[.string ⟨⟨s⟩⟩,.int .i64 i,.int .i64 dp,.int .i64 cnt,sv] 63)/\EntRel w (Sh Xs (zcq hp) H w) H (zqN ns) sv/\blk sv≠some B/\
      Calls Try.prog 51 vs w (FxR B ⟨⟨s⟩⟩ i dp cnt sv c (nmP ns) w):=by
  have v0:=hargs 0 (by omega)
  have v1:=hargs 1 (by omega)
  have ev:vs=#[vs.getD 0 undef,vs.getD 1 undef]:=by
    apply Array.ext
    · rw [hvs];rfl
    · intro i h2 h3
      have h3:i < 2:=h3
      match i,h3 with
      | 0,_=>simp [Array.getD,h2]
      | 1,_=>simp [Array.getD,h2]
  generalize vs.getD 0 undef=u0 at v0 ev
  generalize vs.getD 1 undef=u1 at v1 ev
  subst ev
  have v0:VRel w (Sh Xs (zcq hp) H w) H (.ptr LIM 0) u0:=v0
  have v1:VRel w (Sh Xs (zcq hp) H w) H (.d (.lit (.int .u8 c))) u1:=v1
  obtain ⟨B,e0,hB⟩:∃ B,u0 = .pointer (some ⟨B,0,none⟩)/\H LIM=some (.pointer (some ⟨B,0,none⟩)):=by
    cases v0;exact ⟨_,rfl,by assumption⟩
  have e1:u1 = .int .u8 c:=by cases v1 with | d _ _ h=>cases h;rfl
  subst e0 e1
  obtain ⟨_,g1,g2⟩:=hH.ent LIM _ eB
  rw [hB] at g1;cases g1
  obtain ⟨cur,hcur,hsz,hrel⟩:=g2.box_inv
  have hsz:cur.size=5:=hsz
  have r0:=hrel 0 (by show 0 < 5;omega)
  have r1:=hrel 1 (by show 1 < 5;omega)
  have r2:=hrel 2 (by show 2 < 5;omega)
  have r3:=hrel 3 (by show 3 < 5;omega)
  have r4:=hrel 4 (by show 4 < 5;omega)
  have ec:cur=#[cur.getD 0 undef,cur.getD 1 undef,cur.getD 2 undef,cur.getD 3 undef,cur.getD 4 undef]:=by
    apply Array.ext
    · rw [hsz];rfl
    · intro i h2 h3
      have h3:i < 5:=h3
      match i,h3 with
      | 0,_=>simp [Array.getD,h2]
      | 1,_=>simp [Array.getD,h2]
      | 2,_=>simp [Array.getD,h2]
      | 3,_=>simp [Array.getD,h2]
      | 4,_=>simp [Array.getD,h2]
  generalize cur.getD 0 undef=u0 at r0 ec
  generalize cur.getD 1 undef=u1 at r1 ec
  generalize cur.getD 2 undef=u2 at r2 ec
  generalize cur.getD 3 undef=u3 at r3 ec
  generalize cur.getD 4 undef=sv at r4 ec
  have r0:VRel w (Sh Xs (zcq hp) H w) H (.d (.lit (.string ⟨⟨s⟩⟩))) u0:=r0
  have r1:VRel w (Sh Xs (zcq hp) H w) H (.d (.lit (.int .i64 i))) u1:=r1
  have r2:VRel w (Sh Xs (zcq hp) H w) H (.d (.lit (.int .i64 dp))) u2:=r2
  have r3:VRel w (Sh Xs (zcq hp) H w) H (.d (.lit (.int .i64 cnt))) u3:=r3
  have r4:VRel w (Sh Xs (zcq hp) H w) H (.own (LIM+1)) sv:=r4
  have e0:u0 = .string ⟨⟨s⟩⟩:=by cases r0 with | d _ _ h=>cases h;rfl
  have e1:u1 = .int .i64 i:=by cases r1 with | d _ _ h=>cases h;rfl
  have e2:u2 = .int .i64 dp:=by cases r2 with | d _ _ h=>cases h;rfl
  have e3:u3 = .int .i64 cnt:=by cases r3 with | d _ _ h=>cases h;rfl
  have hsv:H (LIM+1)=some sv:=by cases r4;assumption
  subst e0 e1 e2 e3
  subst ec
  obtain ⟨_,g3,g4⟩:=hH.ent (LIM+1) _ eR
  rw [hsv] at g3;cases g3
  obtain ⟨hN,a,m,cap,rfl⟩:=zve g4
  have hne:blk (.slice a m cap)≠some B:=fun hb=>by
    have:=hH.inj LIM (LIM+1) _ _ _ _ B eB eR hB hsv rfl hb
    unfold LIM at this;omega
  refine ⟨B,_,hB,hsv,⟨_,_,_,rfl⟩,hcur,g4,hne,?_⟩
  refine zpo (F:=fxF) rfl (zvd fxF (fun f h=>h) ⟨_,Try.func51⟩ ⟨_,Try.func53⟩ ⟨_,Try.func54⟩ ⟨_,Try.func36⟩ ⟨_,Try.func22⟩ rfl B ⟨⟨s⟩⟩ i dp cnt hi hcnt _ a m cap rfl c (nmP ns) ?_ w hcur hN ?_)
  · unfold nmP;rw [List.length_map];exact hns
  · intro b off m' c' e hb
    refine hne ?_
    rw [e,<- hb];rfl
theorem zeb {c:Int} {s:List UInt8} {i dp cnt:Int} {ns:FxNm} {r:(FxTr×(List UInt8×(Int×(Int×(Int×FxNm)))))⊕(Int×Int)} (h:zbg c s i dp cnt ns=some r):
    (0<=i/\i<=1000000)/\(0<=cnt/\cnt<=1000000)/\ns.length<=1000/\(match zdM (nmP ns) c (nmP ns).length with
      | some (j,false)=>if 30 < cnt+1 then r = .inr (7,i) else r = .inl (.mk (88,(j:Int),()) [],s,i+1,dp,cnt+1,ns)
      | _=>r = .inr (5,i)):=by
  unfold zbg at h
  by_cases c1:0<=i/\i<=1000000
  case neg=>unfold G at h;rw [if_neg c1] at h;cases h
  rw [zao c1] at h
  by_cases c2:0<=cnt/\cnt<=1000000
  case neg=>unfold G at h;rw [if_neg c2] at h;cases h
  rw [zao c2] at h
  by_cases c3:ns.length<=1000
  case neg=>unfold G at h;rw [if_neg c3] at h;cases h
  rw [zao c3] at h
  refine ⟨c1,c2,c3,?_⟩
  rw [show (nmP ns).length=ns.length from List.length_map _]
  generalize zdM (nmP ns) c ns.length=q at h
  match q,h with
  | none,h=>exact (Option.some.inj h).symm
  | some (j,true),h=>exact (Option.some.inj h).symm
  | some (j,false),h=>
    show if _ then _ else _
    have h:(if 30 < cnt+1 then _ else _)=_:=h
    by_cases h3:30 < cnt+1
    · rw [if_pos h3] at h ⊢;exact (Option.some.inj h).symm
    · rw [if_neg h3] at h ⊢;exact (Option.some.inj h).symm
theorem ziS:CEp.ok Try.prog 59 zaz where
  call:=Try.call51
  fc X Y hY:=by
    obtain ⟨c,s,i,dp,cnt,ns⟩:Int×(List UInt8×(Int×(Int×(Int×FxNm)))):=X
    obtain ⟨c1,c2,c3,hm⟩:=zeb (show zbg c s i dp cnt ns=some (.inl Y) from hY)
    intro w Xs H vs hX hlow hH hvs hargs
    generalize hh:hpSt ((zaz).sig.heap (c,s,i,dp,cnt,ns)) ((zaz).sig.rws (c,s,i,dp,cnt,ns))=hp at hH hargs ⊢
    have eB:hp LIM=some (zub s i dp cnt):=by subst hh;rfl
    have eR:hp (LIM+1)=some (zqN ns):=by subst hh;rfl
    have eO:∀ id e,hp id=some e->id=LIM\/id=LIM+1:=fun id e he=>by
      subst hh
      by_cases a1:id=LIM
      · exact .inl a1
      by_cases a2:id=LIM+1
      · exact .inr a2
      exfalso
      have:hpSt ((zaz).sig.heap (c,s,i,dp,cnt,ns)) ((zaz).sig.rws (c,s,i,dp,cnt,ns)) id=none:=by
        exact zvN (a:=LIM) (b:=LIM+1) a1 a2
      rw [this] at he;cases he
    obtain ⟨B,sv,hB,hsv,hform,hcur,hE,hne,hcall⟩:=zuc c1 c2 c3 eB eR hH hvs hargs
    have hBl:B < w.heap.size:=(Array.getElem?_eq_some_iff.1 hcur).1
    refine hcall.mono ?_
    rintro e w' ⟨⟨o1,o2,o3,o4,o5⟩,hres⟩
    generalize zdM (nmP ns) c (nmP ns).length=q at hm hres
    match q,hm,hres with
    | none,hm,_=>cases hm
    | some (_,true),hm,_=>cases hm
    | some (j,false),hm,hres=>
      have hm:if 30 < cnt+1 then _ else _:=hm
      have hres:if 30 < cnt+1 then _ else _:=hres
      by_cases h3:30 < cnt+1
      · rw [if_pos h3] at hm;cases hm
      rw [if_neg h3] at hm hres
      have hm:=Sum.inl.inj hm
      subst hm
      obtain ⟨q,rfl,hq,hq1,hB1⟩:=hres
      obtain ⟨hp',hh'⟩:∃ hp',hp'=hpSt ((zaz).out.heap (.mk (88,(j:Int),()) [],s,i+1,dp,cnt+1,ns)) ((zaz).out.rws (.mk (88,(j:Int),()) [],s,i+1,dp,cnt+1,ns)):=⟨_,rfl⟩
      have eB':hp' LIM=some (zub s (i+1) dp (cnt+1)):=by subst hh';rfl
      have eR':hp' (LIM+1)=some (zqN ns):=by subst hh';rfl
      have eO':∀ id e,hp' id=some e->id=LIM\/id=LIM+1:=fun id e he=>by
        subst hh'
        by_cases a1:id=LIM
        · exact .inl a1
        by_cases a2:id=LIM+1
        · exact .inr a2
        exfalso
        have:hpSt ((zaz).out.heap (.mk (88,(j:Int),()) [],s,i+1,dp,cnt+1,ns)) ((zaz).out.rws (.mk (88,(j:Int),()) [],s,i+1,dp,cnt+1,ns)) id=none:=by
          exact zvN (a:=LIM) (b:=LIM+1) a1 a2
        rw [this] at he;cases he
      have hOw:∀ b,zfk hp' H b->zfk hp H b:=by
        rintro b ⟨id,e,v,he,hv,hb⟩
        rcases eO' id e he with rfl | rfl
        · exact ⟨_,_,_,eB,hv,hb⟩
        · exact ⟨_,_,_,eR,hv,hb⟩
      have hOwB:zfk hp H B:=⟨_,_,_,eB,hB,rfl⟩
      have hS:∀ b,Sh Xs (zcq hp) H w b->Sh Xs (zcq hp') H w' b/\w'.heap[b]? =w.heap[b]? :=by
        rintro b ⟨k1,k2,k3⟩
        refine ⟨⟨by omega,k2,fun id e v he hv hb => ?_⟩,o5 b k1 fun hb=>k3 LIM _ _ eB hB (by rw [hb];rfl)⟩
        rcases eO' id e he with rfl | rfl
        · exact k3 _ _ _ eB hv hb
        · exact k3 _ _ _ eR hv hb
      have hE':EntRel w' (Sh Xs (zcq hp') H w') H (zqN ns) sv:=hE.mono hS (fun _ _ h=>h) fun b hb=>o5 b (hE.lt hb) fun e=>hne (by rw [hb,e])
      have hXq : ¬ Xs q:=fun h=>by have:=hX q h;omega
      have hql:q < w'.heap.size:=(Array.getElem?_eq_some_iff.1 hq1).1
      have hown:∀ id e v b,hp' id=some e->H id=some v->blk v=some b->b < w.heap.size /\ ¬ Xs b:=by
        intro id e v b he hv hb
        rcases eO' id e he with rfl | rfl
        · refine ⟨?_,hH.own _ _ _ _ eB hv hb⟩
          rw [hB] at hv;cases hv;cases hb;exact hBl
        · refine ⟨?_,hH.own _ _ _ _ eR hv hb⟩
          rw [hsv] at hv;cases hv;exact hE.lt hb
      refine ⟨_,_,hp',H,rfl,⟨rfl,hh'⟩,⟨o1,o2,o3,o4⟩,fun b hb hno=>o5 b hb fun e=>hno (by rw [e];exact hOwB),⟨?_,fun id e v b he hv hb=>(hown id e v b he hv hb).2,?_⟩,fun b hb => .inr (hOw b hb),fun _ _=>rfl,?_⟩
      · intro id e he
        rcases eO' id e he with rfl | rfl
        · obtain rfl:zub s (i+1) dp (cnt+1)=e:=Option.some.inj (eB'.symm.trans he)
          refine ⟨_,hB,.box _ _ _ _ hB1 rfl fun j hj => ?_⟩
          have hj:j < 5:=hj
          match j,hj with
          | 0,_=>exact .d _ _ (.lit _ rfl)
          | 1,_=>exact .d _ _ (.lit _ rfl)
          | 2,_=>exact .d _ _ (.lit _ rfl)
          | 3,_=>exact .d _ _ (.lit _ rfl)
          | 4,_=>exact .own _ _ hsv (.inl hform)
        · obtain rfl:zqN ns=e:=Option.some.inj (eR'.symm.trans he)
          exact ⟨_,hsv,hE'⟩
      · intro id id' e e' v v' b he he' hv hv' hb hb'
        have f1:∃ e,hp id=some e:=by rcases eO' id e he with rfl | rfl;exact ⟨_,eB⟩;exact ⟨_,eR⟩
        have f2:∃ e,hp id'=some e:=by rcases eO' id' e' he' with rfl | rfl;exact ⟨_,eB⟩;exact ⟨_,eR⟩
        obtain ⟨_,f1⟩:=f1
        obtain ⟨_,f2⟩:=f2
        exact hH.inj id id' _ _ v v' b f1 f2 hv hv' hb hb'
      · show VRel w' (Sh Xs (zcq hp') H w') H (.d (.ptr (.agg [.lit (.int .u8 88),.lit (.int .i64 (j:Int)),.sl 8 []]))) (.pointer (some ⟨q,0,none⟩))
        have hcq:∀ k,w'.cell? ⟨q,0+k,none⟩=(#[Value.int .u8 88,.int .i64 (j:Int),.slice none 0 0]:Array Value)[k]? :=fun k=>by rw [cell_of_row w' _ _ _ 67 (0,0) hq1,Nat.zero_add]
        refine .d _ _ (.ptr _ q 0 (fun k=>(#[Value.int .u8 88,.int .i64 (j:Int),.slice none 0 0]:Array Value).getD k undef) ⟨hql,hXq,fun id e v he hv hb => ?_⟩ (fun k hk => ?_) fun k hk => ?_)
        · have:=(hown id e v q he hv hb).1;omega
        · have hk:k < 3:=hk
          rw [hcq k]
          match k,hk with
          | 0,_=>rfl
          | 1,_=>rfl
          | 2,_=>rfl
        · have hk:k < 3:=hk
          match k,hk with
          | 0,_=>exact .lit _ rfl
          | 1,_=>exact .lit _ rfl
          | 2,_=>exact .nil _ _ _ (by unfold maxLen;omega) (fun _=>rfl)
  fp X p hp0:=by
    obtain ⟨c,s,i,dp,cnt,ns⟩:Int×(List UInt8×(Int×(Int×(Int×FxNm)))):=X
    obtain ⟨c1,c2,c3,hm⟩:=zeb (show zbg c s i dp cnt ns=some (.inr p) from hp0)
    intro w Xs H vs hX hlow hH hvs hargs
    generalize hh:hpSt ((zaz).sig.heap (c,s,i,dp,cnt,ns)) ((zaz).sig.rws (c,s,i,dp,cnt,ns))=hp at hH hargs ⊢
    have eB:hp LIM=some (zub s i dp cnt):=by subst hh;rfl
    have eR:hp (LIM+1)=some (zqN ns):=by subst hh;rfl
    obtain ⟨B,sv,hB,hsv,hform,hcur,hE,hne,hcall⟩:=zuc c1 c2 c3 eB eR hH hvs hargs
    have hOwB:zfk hp H B:=⟨_,_,_,eB,hB,rfl⟩
    refine hcall.mono ?_
    rintro e w' ⟨⟨o1,o2,o3,o4,o5⟩,hres⟩
    refine ⟨?_,⟨o1,o2,o3,o4⟩,fun b hb hno=>o5 b hb fun e=>hno (by rw [e];exact hOwB)⟩
    generalize zdM (nmP ns) c (nmP ns).length=q at hm hres
    match q,hm,hres with
    | none,hm,hres=>rw [hres,Sum.inr.inj hm]
    | some (_,true),hm,hres=>rw [hres,Sum.inr.inj hm]
    | some (j,false),hm,hres=>
      have hm:if 30 < cnt+1 then _ else _:=hm
      have hres:if 30 < cnt+1 then _ else _:=hres
      by_cases h3:30 < cnt+1
      · rw [if_pos h3] at hm hres;rw [hres,Sum.inr.inj hm]
      · rw [if_neg h3] at hm;cases hm
end


def zat:Shape:=⟨[.str,(.int .i64),(.int .i64),(.int .i64),(.list (.pair (.int .u8) (.pair .bool .unit)))],[(0,.ptr 100000 0)],[(100000,.box 63 [.v 0,.v 1,.v 2,.v 3,.own 100001]),(100001,.arr 91 4)]⟩
def zas:Shape:=⟨[(.tree (.pair (.int .u8) (.pair (.int .i64) .unit))),.str,(.int .i64),(.int .i64),(.int .i64),(.list (.pair (.int .u8) (.pair .bool .unit)))],[(0,.v 0)],[(100000,.box 63 [.v 1,.v 2,.v 3,.v 4,.own 90]),(90,.arr 91 5)]⟩
def zk8:CEp:=⟨40,zat,zas,LFix zcK⟩
def ze5:Shape:=⟨[(.int .u8),.str,(.int .i64),(.int .i64),(.int .i64),(.list (.pair (.int .u8) (.pair .bool .unit)))],[(0,.ptr 100000 0),(1,.v 0)],[(100000,.box 63 [.v 1,.v 2,.v 3,.v 4,.own 100001]),(100001,.arr 91 5)]⟩
def ze4:Shape:=⟨[(.tree (.pair (.int .u8) (.pair (.int .i64) .unit))),.str,(.int .i64),(.int .i64),(.int .i64),(.list (.pair (.int .u8) (.pair .bool .unit)))],[(0,.v 0)],[(100000,.box 63 [.v 1,.v 2,.v 3,.v 4,.own 90]),(90,.arr 91 5)]⟩
def zfB (rec:Tup zat.tys->Option (Tup zas.tys⊕(Int×Int))):CEp:=⟨49,ze5,ze4,fun X=>zcg (fun c c_1 c_2 c_3 l=>rec (c,c_1,c_2,c_3,l)) X.1 X.2.1 X.2.2.1 X.2.2.2.1 X.2.2.2.2.1 X.2.2.2.2.2⟩
theorem zkv (rec:Tup zat.tys->Option (Tup zas.tys⊕(Int×Int))) (hrec:CEp.ok Try.prog 59 ⟨40,zat,zas,rec⟩):CEp.ok Try.prog 59 (zfB rec):=CEp.of (Γ:=[zbT]) (Γp:=[zbz,zc6,⟨40,zat,zas,rec⟩,zbF]) (by kernel_rfl) zcp (GOK.cons zcr (GOK.nil)) (GPOK.cons zb1 (GPOK.cons zdY (GPOK.cons hrec (GPOK.cons zcc (GPOK.nil))))) ⟨[],[(4,⟨⟨[.bool],[(22,.v 0)],[]⟩,[17,18,19,20,21],[],[90],91,[]⟩),(5,⟨⟨[],[],[]⟩,[17,18,19,20,21,22,23,24],[],[90],91,[]⟩),(9,⟨⟨[.str,(.int .i64),(.int .i64),(.int .i64),(.list (.pair (.int .u8) (.pair .bool .unit)))],[(0,.ptr 100000 0)],[(100000,.box 63 [.v 0,.v 1,.v 2,.v 3,.own 91]),(91,.arr 91 4)]⟩,[32,33,34,35,36,37],[90],[],92,[]⟩)],[(2000001,[(0,0),(5,1)]),(2000005,[(0,0),(5,1)]),(2000008,[(0,0),(5,1)]),(2000010,[(0,0),(0,1),(0,2),(0,3),(0,4),(5,5),(2,6),(0,7),(2,8),(0,9)]),(2000009,[(0,0),(5,1)])],[]⟩ Try.func49 rfl Try.ntmps49 (rs:=[.tmp 4]) rfl (sig:=ze5) (out:=ze4) rfl Try.call49 (fun X=>by kernel_rfl)
def zfF:Shape:=⟨[(.int .u8),.str,(.int .i64),(.int .i64),(.int .i64),(.list (.pair (.int .u8) (.pair .bool .unit)))],[(0,.ptr 100000 0),(1,.v 0)],[(100000,.box 63 [.v 1,.v 2,.v 3,.v 4,.own 100001]),(100001,.arr 91 5)]⟩
def zfE:Shape:=⟨[(.tree (.pair (.int .u8) (.pair (.int .i64) .unit))),.str,(.int .i64),(.int .i64),(.int .i64),(.list (.pair (.int .u8) (.pair .bool .unit)))],[(0,.v 0)],[(100000,.box 63 [.v 1,.v 2,.v 3,.v 4,.own 90]),(90,.arr 91 5)]⟩
def zgi (rec:Tup zat.tys->Option (Tup zas.tys⊕(Int×Int))):CEp:=⟨50,zfF,zfE,fun X=>zcv (fun c c_1 c_2 c_3 l=>rec (c,c_1,c_2,c_3,l)) X.1 X.2.1 X.2.2.1 X.2.2.2.1 X.2.2.2.2.1 X.2.2.2.2.2⟩
theorem zk7 (rec:Tup zat.tys->Option (Tup zas.tys⊕(Int×Int))) (hrec:CEp.ok Try.prog 59 ⟨40,zat,zas,rec⟩):CEp.ok Try.prog 59 (zgi rec):=CEp.of (Γ:=[zbT]) (Γp:=[zbz,zc6,⟨40,zat,zas,rec⟩,zbF]) (by kernel_rfl) zcp (GOK.cons zcr (GOK.nil)) (GPOK.cons zb1 (GPOK.cons zdY (GPOK.cons hrec (GPOK.cons zcc (GPOK.nil))))) ⟨[],[(2,⟨⟨[],[],[]⟩,[7,8,9,10,11,12,13,14],[],[],0,[]⟩),(6,⟨⟨[.bool],[(31,.v 0)],[]⟩,[26,27,28,29,30],[],[90],91,[]⟩),(7,⟨⟨[],[],[]⟩,[26,27,28,29,30,31,32,33],[],[90],91,[]⟩)],[(2000002,[(0,0),(5,1)]),(2000003,[(0,0),(5,1)]),(2000007,[(0,0),(5,1)]),(2000009,[(0,0),(5,1)]),(2000011,[(0,0),(5,1),(0,2)]),(12,[(0,0),(0,1),(0,2),(0,3),(0,4),(0,5),(0,6),(0,7),(0,8),(0,9),(0,10),(1,11),(0,12),(0,13),(2,14)]),(13,[(0,0),(0,1),(0,2),(0,3),(0,4),(0,5),(0,6),(2,7),(1,8),(2,9),(0,10)])],[]⟩ Try.func50 rfl Try.ntmps50 (rs:=[.tmp 4]) rfl (sig:=zfF) (out:=zfE) rfl Try.call50 (fun X=>by kernel_rfl)
def zfH:Shape:=⟨[.str,(.int .i64),(.int .i64),(.int .i64),(.list (.pair (.int .u8) (.pair .bool .unit)))],[(0,.ptr 100000 0)],[(100000,.box 63 [.v 0,.v 1,.v 2,.v 3,.own 100001]),(100001,.arr 91 4)]⟩
def zfG:Shape:=⟨[(.tree (.pair (.int .u8) (.pair (.int .i64) .unit))),.str,(.int .i64),(.int .i64),(.int .i64),(.list (.pair (.int .u8) (.pair .bool .unit)))],[(0,.v 0)],[(100000,.box 63 [.v 1,.v 2,.v 3,.v 4,.own 90]),(90,.arr 91 5)]⟩
def zgl (rec:Tup zat.tys->Option (Tup zas.tys⊕(Int×Int))):CEp:=⟨34,zfH,zfG,fun X=>zb2 (fun c c_1 c_2 c_3 l=>rec (c,c_1,c_2,c_3,l)) X.1 X.2.1 X.2.2.1 X.2.2.2.1 X.2.2.2.2⟩
theorem zlc (rec:Tup zat.tys->Option (Tup zas.tys⊕(Int×Int))) (hrec:CEp.ok Try.prog 59 ⟨40,zat,zas,rec⟩):CEp.ok Try.prog 59 (zgl rec):=CEp.of (Γ:=[zbT]) (Γp:=[⟨40,zat,zas,rec⟩,zbz]) (by kernel_rfl) zcp (GOK.cons zcr (GOK.nil)) (GPOK.cons hrec (GPOK.cons zb1 (GPOK.nil))) ⟨[(2,⟨⟨[(.tree (.pair (.int .u8) (.pair (.int .i64) .unit))),.str,(.int .i64),(.int .i64),(.int .i64),(.list (.pair (.int .u8) (.pair .bool .unit)))],[(0,.ptr 100000 0),(3,.v 0)],[(100000,.box 63 [.v 1,.v 2,.v 3,.v 4,.own 90]),(90,.arr 91 5)]⟩,[6,7,8,9,10,11,12,13,14,15,16,17,18,19,20,21,22,23],[],[],91,[]⟩)],[],[(2000001,[(0,0),(5,1),(0,2)]),(2000003,[(0,0),(5,1)]),(2000005,[(0,0),(0,1),(5,2),(2,3),(0,4),(2,5),(0,6)])],[]⟩ Try.func34 rfl Try.ntmps34 (rs:=[.tmp 2]) rfl (sig:=zfH) (out:=zfG) rfl Try.call34 (fun X=>by kernel_rfl)
def ze9:Shape:=⟨[.str,(.int .i64),(.int .i64),(.int .i64),(.list (.pair (.int .u8) (.pair .bool .unit)))],[(0,.ptr 100000 0)],[(100000,.box 63 [.v 0,.v 1,.v 2,.v 3,.own 100001]),(100001,.arr 91 4)]⟩
def ze8:Shape:=⟨[(.tree (.pair (.int .u8) (.pair (.int .i64) .unit))),.str,(.int .i64),(.int .i64),(.int .i64),(.list (.pair (.int .u8) (.pair .bool .unit)))],[(0,.v 0)],[(100000,.box 63 [.v 1,.v 2,.v 3,.v 4,.own 90]),(90,.arr 91 5)]⟩
def zdF (rec:Tup zat.tys->Option (Tup zas.tys⊕(Int×Int))):CEp:=⟨21,ze9,ze8,fun X=>za4 (fun c c_1 c_2 c_3 l=>rec (c,c_1,c_2,c_3,l)) X.1 X.2.1 X.2.2.1 X.2.2.2.1 X.2.2.2.2⟩
theorem zfM (rec:Tup zat.tys->Option (Tup zas.tys⊕(Int×Int))) (hrec:CEp.ok Try.prog 59 ⟨40,zat,zas,rec⟩):CEp.ok Try.prog 59 (zdF rec):=CEp.of (Γ:=[zbT]) (Γp:=[zgl rec,zbz]) (by kernel_rfl) zcp (GOK.cons zcr (GOK.nil)) (GPOK.cons (zlc rec hrec) (GPOK.cons zb1 (GPOK.nil))) ⟨[(2,⟨⟨[(.tree (.pair (.int .u8) (.pair (.int .i64) .unit))),.str,(.int .i64),(.int .i64),(.int .i64),(.list (.pair (.int .u8) (.pair .bool .unit)))],[(0,.ptr 100000 0),(3,.v 0)],[(100000,.box 63 [.v 1,.v 2,.v 3,.v 4,.own 90]),(90,.arr 91 5)]⟩,[6,7,8,9,10,11,12,13,14,15,16,17,18,19,20,21,22,23],[],[],91,[]⟩)],[],[(2000001,[(0,0),(5,1),(0,2)]),(2000003,[(0,0),(5,1)]),(2000005,[(0,0),(0,1),(5,2),(2,3),(0,4),(2,5),(0,6)])],[]⟩ Try.func21 rfl Try.ntmps21 (rs:=[.tmp 2]) rfl (sig:=ze9) (out:=ze8) rfl Try.call21 (fun X=>by kernel_rfl)
theorem zlb:CEp.ok Try.prog 59 zk8:=CEp.ofRec (Γ:=[zgn,zbT]) (Γp:=fun rec=>[zbz,zfB rec,zgi rec,zaz,zdF rec,zc6,zbF]) (by kernel_rfl) zcp (GOK.cons zld (GOK.cons zcr (GOK.nil))) ⟨[],[(2,⟨⟨[.bool],[(8,.v 0)],[]⟩,[9,10,11,12,13,14],[],[],0,[]⟩),(13,⟨⟨[.bool],[(49,.v 0)],[]⟩,[50,51,52,53,54,55],[],[],0,[]⟩),(15,⟨⟨[.bool],[(59,.v 0)],[]⟩,[60,61,62,63,64,65],[],[],0,[]⟩),(17,⟨⟨[.bool],[(69,.v 0)],[]⟩,[70,71,72,73,74,75],[],[],0,[]⟩),(22,⟨⟨[],[],[]⟩,[2,4,8,9,10,11,12,13,14,15,16,17,18,19,20,21,22,23,24,25,26,27,28,29,30,31,32,33,34,35,36,37,38,39,40,41,42,43,44,45,46,47,48,49,50,51,52,53,54,55,56,57,58,59,60,61,62,63,64,65,66,67,68,69,70,71,72,73,74,75,76,77,78,79,80,81,82,83,84,85,86,87,88,89,90,91],[],[],0,[]⟩)],[(2000003,[(0,0),(5,1)]),(2000007,[(0,0),(5,1)]),(2000010,[(0,0),(5,1),(0,2)]),(2000014,[(0,0),(0,1),(5,2),(0,3)]),(2000016,[(0,0),(0,1),(5,2),(0,3)]),(2000018,[(0,0),(0,1),(5,2),(0,3)]),(2000020,[(0,0),(5,1)]),(2000025,[(0,0),(5,1),(0,2)]),(2000026,[(0,0),(5,1)]),(2000022,[(0,0),(5,1)])],[]⟩ Try.func40 rfl Try.ntmps40 (rs:=[.tmp 2]) rfl (sig:=zat) (out:=zas) rfl (fun rec hrec=>(GPOK.cons zb1 (GPOK.cons (zkv rec hrec) (GPOK.cons (zk7 rec hrec) (GPOK.cons ziS (GPOK.cons (zfM rec hrec) (GPOK.cons zdY (GPOK.cons zcc (GPOK.nil))))))))) Try.call40 (d:=zcK) (fun rc X=>by kernel_rfl)
def zeD:CEp:=zdF (LFix zcK)
theorem ziX:CEp.ok Try.prog 59 zeD:=zfM _ zlb

def zk5:Shape:=⟨[.str],[(0,.v 0)],[]⟩
def zk4:Shape:=⟨[(.tree (.pair (.int .u8) (.pair (.int .i64) .unit))),(.pair (.int .i64) (.pair (.int .i64) .unit))],[(0,.v 0),(1,.v 1)],[]⟩
def zmx:CE:=⟨10,zk5,zk4,fun X=>ziO X⟩
theorem zoK (p:Int×Int):evC TT [] [] 0 zoB ⟨[],[],[],[(7,.one 0 (.alt 0 1 (.leaf [(2,2),(2,3)]) (.alt 2 2 (.leaf [(0,1),(2,3)]) .stop)))]⟩ (ztB (Try.f20.body.getD .skip)) (zuM 13 10 38 32 p) (zxP true 38 32)=zoB (some (p.1,p.2)) (some (p.1,p.2)):=by kernel_rfl
theorem zoJ (va vb:Value) (w:World):CallsD Try.prog 20 #[va,vb] .returning w (fun e u w'=>(∃ v,e = .returned v)/\u = .returning/\w'=w):=by
  refine callsD_of_wpS Try.func20 rfl fun c₀ cs hu => ?_
  apply wpS_seq
  apply wpS_region
  simp [wpOpsS,go_sem,recoverD,hu,Try.ntmps20,Exit.thenS]
  refine wpS_of_wp (wp_block (wp_seq (wp_region ?_)))
  simp [wpOps,go_sem]
  left
  refine wp_cond (t:=true) (by simp [Act.eval,Array.replicate]) ?_
  simp only [if_true]
  refine wp_region ?_
  simp [wpOps,go_sem]
  left
  cases c₀
  simp_all [bodyPostS,results,Try.results20]
theorem zmT (p:Int×Int) (w:World) (ba bb:Nat) (ca cb:Array Value) (hne:ba≠bb) (h1:w.heap[ba]? =some (.cells ca 38 (0,0))) (h2:ca.size=1) (h3:w.heap[bb]? =some (.cells cb 32 (0,0))) (h4:cb.size=2):
    CallsD Try.prog 20 #[.pointer (some ⟨ba,0,none⟩),.pointer (some ⟨bb,0,none⟩)] (.panicking (pch 59 p)) w (fun e u w'=>(∃ v,e = .returned v)/\settle u = .returning/\
      (w'.os=w.os/\w'.tape=w.tape/\w'.output=w.output/\w.heap.size<=w'.heap.size)/\(∀ b,b < w.heap.size->b≠ba->b≠bb->w'.heap[b]? =w.heap[b]?)/\
      w'.heap[ba]? =some (.cells #[zV true] 38 (0,0))/\w'.heap[bb]? =some (.cells #[.int .i64 p.1,.int .i64 p.2] 32 (0,0))):=by
  refine callsD_of_wpS Try.func20 rfl fun c₀ cs hu => ?_
  apply wpS_seq
  apply wpS_region
  simp [wpOpsS,go_sem,recoverD,hu,Try.ntmps20,Exit.thenS,pch]
  refine wpS_of_wp (wp_block (wp_seq (wp_region ?_)))
  simp [wpOps,go_sem]
  left
  refine wp_cond (t:=false) (by simp [Act.eval,Array.replicate]) ?_
  simp only [Bool.false_eq_true,if_false]
  refine wp_seq (wp_region ?_)
  simp [wpOps,go_sem,ztj Try.underlying59]
  left
  left
  left
  refine wp_cond (t:=true) (by simp [Act.eval,Array.replicate]) ?_
  simp only [if_true]
  refine wp_mono (zwR (by kernel_rfl) zcp (zoK p) hne h1 h2 h3 h4 ?_ ?_ ?_ ?_ ?_) fun e a' w' hh => ?_
  · simp
  · rfl
  · simp [Array.replicate]
  · simp [Array.replicate]
  · simp [Array.replicate]
  · obtain ⟨rfl,hd,ho,hk,y1,y2⟩:=hh
    exact ⟨hd,_,rfl,.tuple #[],by simp [results,Try.results20],⟨_,rfl⟩,rfl,ho,hk,y1,y2⟩
theorem znW:CatchOK Try.prog 59 20 38 32 (zV true):=⟨Try.call20,zoJ,zmT⟩
theorem zqL:CE.ok Try.prog zmx:=CE.ofCatch (Γ:=[]) (Γp:=[zeD,zbF]) (T:=59) (by kernel_rfl) zcp (GOK.nil) (GPOK.cons ziX (GPOK.cons zcc (GPOK.nil))) ⟨[],[],[(3000003,[]),(2000005,[(0,0),(8,1),(2,2)]),(2000007,[(0,0),(5,1)])],[]⟩ Try.func10 rfl Try.ntmps10 (rs:=[.cell 2 38,.cell 3 32]) rfl (sig:=zk5) (out:=zk4) rfl Try.call10 (g:=20) (sa:=2) (sb:=3) (Ta:=38) (Tb:=32) (z:=zE true) znW (zxX true) (fun X=>by kernel_rfl)

def zka:Shape:=⟨[(.int .u64),(.int .u64)],[(0,.v 0),(1,.v 1)],[]⟩
def zj9:Shape:=⟨[(.int .u64),(.int .u64)],[(0,.v 0),(1,.v 1)],[]⟩
def zkL:CE:=⟨42,zka,zj9,fun X=>zlW X.1 X.2⟩
theorem zpm:CE.ok Try.prog zkL:=CE.of (Γ:=[]) (by kernel_rfl) zcp (GOK.nil) ⟨[],[],[],[]⟩ Try.func42 rfl Try.ntmps42 (rs:=[.tmp 4,.tmp 5]) rfl (sig:=zka) (out:=zj9) rfl Try.call42 (fun X=>by kernel_rfl)

def zmo:Shape:=⟨[(.int .u64),(.int .u64)],[(0,.v 0),(1,.v 1)],[]⟩
def zmn:Shape:=⟨[(.int .u64),(.int .u64)],[(0,.v 0),(1,.v 1)],[]⟩
def zny:CE:=⟨37,zmo,zmn,fun X=>znd X.1 X.2⟩
theorem zrp:CE.ok Try.prog zny:=CE.of (Γ:=[zkL]) (by kernel_rfl) zcp (GOK.cons zpm (GOK.nil)) ⟨[],[],[],[]⟩ Try.func37 rfl Try.ntmps37 (rs:=[.tmp 4,.tmp 5]) rfl (sig:=zmo) (out:=zmn) rfl Try.call37 (fun X=>by kernel_rfl)

def zhj:Shape:=⟨[(.list .bool),(.int .i64)],[(0,.v 0),(1,.v 1)],[]⟩
def zhi:Shape:=⟨[(.list .bool)],[(0,.own 0)],[(0,.arr 4 0)]⟩
def zh5:CE:=⟨24,zhj,zhi,fun X=>zfp X.1 X.2⟩
theorem znb:CE.ok Try.prog zh5:=CE.of (Γ:=[zny]) (by kernel_rfl) zcp (GOK.cons zrp (GOK.nil)) ⟨[(8,⟨⟨[(.int .i64),(.list .bool)],[(7,.own 0),(8,.v 0)],[(0,.arr 4 1)]⟩,[30,31,34,35,36,37,38,39,40,41,42,43,44,45,46],[],[],1,[]⟩)],[],[(9,[(0,0),(0,1),(0,2),(0,3),(0,4),(0,5),(0,6),(2,7),(0,8),(0,9)])],[]⟩ Try.func24 rfl Try.ntmps24 (rs:=[.tmp 4]) rfl (sig:=zhj) (out:=zhi) rfl Try.call24 (fun X=>by kernel_rfl)

def zh3:Shape:=⟨[(.list .bool),(.list .bool)],[(0,.v 0),(1,.v 1)],[]⟩
def zh2:Shape:=⟨[.bool],[(0,.v 0)],[]⟩
def zjB:CE:=⟨25,zh3,zh2,fun X=>zgK X.1 X.2⟩
theorem zos:CE.ok Try.prog zjB:=CE.of (Γ:=[]) (by kernel_rfl) zcp (GOK.nil) ⟨[(4,⟨⟨[(.int .i64)],[(13,.v 0)],[]⟩,[4,5,14,15,16,17,18,19,20,21,22,23,24,25],[],[],0,[]⟩)],[],[(6,[(0,0),(0,1),(0,2),(0,3),(0,4),(0,5),(0,6),(0,7),(0,8)])],[]⟩ Try.func25 rfl Try.ntmps25 (rs:=[.tmp 4]) rfl (sig:=zh3) (out:=zh2) rfl Try.call25 (fun X=>by kernel_rfl)

def zcb:Shape:=⟨[(.tree (.pair (.int .u8) (.pair (.int .i64) .unit))),(.pair (.int .i64) (.pair (.int .i64) (.pair (.list (.pair (.int .i64) (.pair (.int .i64) (.pair (.int .i64) .unit)))) .unit))),(.list (.list .bool))],[(0,.v 0),(1,.v 1),(2,.v 2)],[]⟩
def zca:Shape:=⟨[(.list .bool)],[(0,.v 0)],[]⟩
def zg1:CE:=⟨12,zcb,zca,LFix zdy⟩
def zeX:Shape:=⟨[(.int .i64),(.tree (.pair (.int .u8) (.pair (.int .i64) .unit))),(.pair (.int .i64) (.pair (.int .i64) (.pair (.list (.pair (.int .i64) (.pair (.int .i64) (.pair (.int .i64) .unit)))) .unit))),(.list (.list .bool))],[(0,.v 0),(1,.addr 1),(2,.addr 2),(3,.addr 3)],[]⟩
def zeW:Shape:=⟨[(.list .bool)],[(0,.v 0)],[]⟩
def zfA (rec:Tup zcb.tys->Option (Tup zca.tys)):CE:=⟨23,zeX,zeW,fun X=>zaH (fun n g' sets=>rec (n,g',sets)) X.1 X.2.1 X.2.2.1 X.2.2.2⟩
theorem zks (rec:Tup zcb.tys->Option (Tup zca.tys)) (hrec:CE.ok Try.prog ⟨12,zcb,zca,rec⟩):CE.ok Try.prog (zfA rec):=CE.of (Γ:=[⟨12,zcb,zca,rec⟩]) (by kernel_rfl) zcp (GOK.cons hrec (GOK.nil)) ⟨[],[],[(1,[(0,0),(0,1),(0,2),(0,3),(0,4),(0,5),(0,6),(0,7),(0,8),(1,9),(0,10)])],[]⟩ Try.func23 rfl Try.ntmps23 (rs:=[.tmp 5]) rfl (sig:=zeX) (out:=zeW) rfl Try.call23 (fun X=>by kernel_rfl)
theorem zl7:CE.ok Try.prog zg1:=CE.ofRecM (Γ:=fun rec=>[zh5,zfA rec,zjB]) (by kernel_rfl) zcp ⟨[(10,⟨⟨[(.int .i64),(.list .bool)],[(7,.own 3),(48,.v 0)],[(3,.arr 4 1)]⟩,[9,10,20,22,49,50,51,52,53,54,55,56,57,58],[],[],4,[]⟩),(18,⟨⟨[(.int .i64),(.list .bool)],[(7,.own 3),(68,.v 0)],[(3,.arr 4 1)]⟩,[13,20,22,66,69,70,71,72,73,74,75,76,77,78,79,80,81,82,83,84,85,86,87,88,89,90,91,92,93,94,95,96,97,98,99,100,101,102,103],[],[],4,[]⟩),(26,⟨⟨[(.int .i64),(.list .bool)],[(7,.own 3),(111,.v 0)],[(3,.arr 4 1)]⟩,[15,20,22,109,112,113,114,115,116,117,118,119,120,121,122],[],[],4,[]⟩),(31,⟨⟨[(.int .i64),(.list .bool)],[(7,.own 3),(126,.v 0)],[(3,.arr 4 1)]⟩,[17,127,128,129,130,131,132,133,134,135,136,137,138,139,140,141,142,143,144,145,146,147,148,149,150,151,152,153,154,155,156,157,158,159],[],[],4,[]⟩),(39,⟨⟨[(.int .i64),(.list .bool)],[(7,.own 3),(165,.v 0)],[(3,.arr 4 1)]⟩,[18,22,163,166,167,168,169,170,171,172,173,174,175,176],[],[0,1,2],4,[]⟩),(43,⟨⟨[(.tree (.pair (.int .u8) (.pair (.int .i64) .unit))),(.pair (.int .i64) (.pair (.int .i64) (.pair (.list (.pair (.int .i64) (.pair (.int .i64) (.pair (.int .i64) .unit)))) .unit))),(.list (.list .bool)),(.list .bool)],[(3,.addr 0),(4,.addr 1),(5,.addr 2),(7,.v 3)],[]⟩,[6,8,19,20,23,177,178,179,180,181,182,183,184,185,186,187,188,189,190,191,192,193,194,195,196,197,198],[0,1,2,3],[],4,[(3,999999,none,(.tree (.pair (.int .u8) (.pair (.int .i64) .unit)))),(4,999999,none,(.pair (.int .i64) (.pair (.int .i64) (.pair (.list (.pair (.int .i64) (.pair (.int .i64) (.pair (.int .i64) .unit)))) .unit)))),(5,999999,none,(.list (.list .bool)))]⟩)],[(15,⟨⟨[.bool],[(59,.v 0)],[]⟩,[60,61],[],[0,1,2,3],4,[]⟩),(23,⟨⟨[.bool],[(104,.v 0)],[]⟩,[105,106],[],[0,1,2,3],4,[]⟩),(33,⟨⟨[.bool],[(149,.v 0)],[]⟩,[130,131,132,133,134,135,136,137,138,139,140,141,142,143,144,145,146,147,148],[],[3,4],5,[]⟩),(37,⟨⟨[.bool],[(160,.v 0)],[]⟩,[161,162],[],[0,1,2,3],4,[]⟩)],[(7,[(0,0),(0,1),(0,2),(0,3),(0,4),(0,5),(0,6),(0,7)]),(33,[(0,0),(0,1),(0,2),(0,3),(0,4),(0,5),(0,6),(0,7),(0,8),(0,9),(0,10),(0,11),(0,12),(0,13),(0,14),(0,15),(0,16),(0,17),(0,18),(0,19)]),(34,[(0,0),(0,1),(0,2),(0,3),(0,4),(0,5),(0,6),(0,7),(0,8),(2,9)])],[(43,(.pnd (.frz 5 (.list (.list .bool)) (.frz 4 (.pair (.int .i64) (.pair (.int .i64) (.pair (.list (.pair (.int .i64) (.pair (.int .i64) (.pair (.int .i64) .unit)))) .unit))) (.frz 3 (.tree (.pair (.int .u8) (.pair (.int .i64) .unit))) (.one 13 (.rd 2 0 [1,2,3,4,5,16,17] (.one 1 (.one 2 (.rd 2 3 [4,5,16,17] (.one 4 (.rd 2 5 [16,17] (.rd 2 6 [16,17] (.rd 2 7 [12,15,16,17] (.rd 2 8 [9,12,15,16,17] (.rd 0 9 [12,15,16,17] (.rd 2 10 [11,12,15,16,17] (.rd 0 11 [12,15,16,17] (.one 12 (.alt 1 14 (.alt 2 15 (.alt 1 16 (.one 17 .leaf) .stop) .stop) .stop))))))))))))))))))))]⟩ Try.func12 rfl Try.ntmps12 (rs:=[.tmp 6]) rfl (sig:=zcb) (out:=zca) rfl (fun rec hrec=>(GOK.cons znb (GOK.cons (zks rec hrec) (GOK.cons zos (GOK.nil))))) Try.call12 (d:=zdy) (fun rc X=>by kernel_rfl)
def zh1:Shape:=⟨[(.list .bool)],[(0,.v 0)],[]⟩
def zh0:Shape:=⟨[(.list .bool)],[(0,.own 0)],[(0,.arr 4 0)]⟩
def zjA:CE:=⟨11,zh1,zh0,fun X=>zgJ X⟩
theorem zor:CE.ok Try.prog zjA:=CE.of (Γ:=[]) (by kernel_rfl) zcp (GOK.nil) ⟨[],[],[],[]⟩ Try.func11 rfl Try.ntmps11 (rs:=[.tmp 2]) rfl (sig:=zh1) (out:=zh0) rfl Try.call11 (fun X=>by kernel_rfl)

def zk3:Shape:=⟨[(.pair (.int .i64) (.pair (.int .i64) (.pair (.list (.pair (.int .i64) (.pair (.int .i64) (.pair (.int .i64) .unit)))) .unit))),.str],[(0,.v 0),(1,.v 1)],[]⟩
def zk2:Shape:=⟨[(.int .i64),(.list .bool)],[(0,.own 0),(1,.v 0)],[(0,.arr 4 1)]⟩
def zmw:CE:=⟨4,zk3,zk2,fun X=>znV X.1 X.2⟩
theorem zqK:CE.ok Try.prog zmw:=CE.of (Γ:=[zlQ,zmx,zg1,zjA]) (by kernel_rfl) zcp (GOK.cons zqb (GOK.cons zqL (GOK.cons zl7 (GOK.cons zor (GOK.nil))))) ⟨[],[],[],[]⟩ Try.func4 rfl Try.ntmps4 (rs:=[.tmp 4,.tmp 5]) rfl (sig:=zk3) (out:=zk2) rfl Try.call4 (fun X=>by kernel_rfl)

def zls:Shape:=⟨[(.pair (.int .i64) (.pair (.int .i64) (.pair (.int .i64) .unit))),(.pair (.int .i64) (.pair (.int .i64) (.pair (.int .i64) .unit)))],[(0,.v 0),(1,.v 1)],[]⟩
def zlr:Shape:=⟨[.bool],[(0,.v 0)],[]⟩
def zmD:CE:=⟨13,zls,zlr,fun X=>zlq X.1 X.2⟩
theorem zqZ:CE.ok Try.prog zmD:=CE.of (Γ:=[]) (by kernel_rfl) zcp (GOK.nil) ⟨[],[],[],[]⟩ Try.func13 rfl Try.ntmps13 (rs:=[.tmp 4]) rfl (sig:=zls) (out:=zlr) rfl Try.call13 (fun X=>by kernel_rfl)

def zly:Shape:=⟨[(.pair (.int .i64) (.pair (.int .i64) (.pair (.list (.pair (.int .i64) (.pair (.int .i64) (.pair (.int .i64) .unit)))) .unit)))],[(0,.v 0)],[]⟩
def zlx:Shape:=⟨[(.int .i64)],[(0,.v 0)],[]⟩
def zmF:CE:=⟨5,zly,zlx,fun X=>zlv X⟩
theorem zq0:CE.ok Try.prog zmF:=CE.of (Γ:=[zmD]) (by kernel_rfl) zcp (GOK.cons zqZ (GOK.nil)) ⟨[(6,⟨⟨[(.int .i64)],[(3,.v 0)],[]⟩,[2,4,29,30,31,32,33,34,35,36,37,38,39,40,41,42,43,44,45,46,47,48,49,50,51,52,53,54,55,56,57,58,59,60,61,62,63,64,65,66,67,68,69,70,71,72,73,74],[],[0],1,[]⟩),(12,⟨⟨[(.int .i64)],[(5,.v 0)],[]⟩,[2,6,75,76,77,78,79,80,81,82,83,84,85,86,87,88,89,90,91,92,93,94,95],[],[0],1,[]⟩)],[],[(14,[(0,0),(0,1),(0,2),(0,3),(0,4),(0,5),(0,6),(0,7),(0,8),(0,9),(0,10),(1,11),(0,12)])],[]⟩ Try.func5 rfl Try.ntmps5 (rs:=[.tmp 2]) rfl (sig:=zly) (out:=zlx) rfl Try.call5 (fun X=>by kernel_rfl)

def zha:Shape:=⟨[(.pair .str (.pair (.int .i64) (.pair (.int .i64) (.pair (.int .i64) (.pair .str (.pair (.list .bool) (.pair (.list (.pair (.int .u8) (.pair (.int .i64) (.pair (.int .i64) (.pair (.int .i64) .unit))))) (.pair (.pair (.int .i64) (.pair (.int .i64) .unit)) .unit))))))))],[(0,.addr 0)],[]⟩
def zg9:Shape:=⟨[.bool],[(0,.v 0)],[]⟩
def zdB:CE:=⟨28,zha,zg9,fun X=>zd1 X⟩
theorem zeR:CE.ok Try.prog zdB:=CE.of (Γ:=[]) (by kernel_rfl) zcp (GOK.nil) ⟨[],[],[],[]⟩ Try.func28 rfl Try.ntmps28 (rs:=[.tmp 2]) rfl (sig:=zha) (out:=zg9) rfl Try.call28 (fun X=>by kernel_rfl)

def zgu:Shape:=⟨[(.pair .str (.pair (.int .i64) (.pair (.int .i64) (.pair (.int .i64) (.pair .str (.pair (.list .bool) (.pair (.list (.pair (.int .u8) (.pair (.int .i64) (.pair (.int .i64) (.pair (.int .i64) .unit))))) (.pair (.pair (.int .i64) (.pair (.int .i64) .unit)) .unit))))))))],[(0,.addr 0)],[]⟩
def zgt:Shape:=⟨[(.int .u8)],[(0,.v 0)],[]⟩
def zbU:CE:=⟨27,zgu,zgt,fun X=>zbZ X⟩
theorem zct:CE.ok Try.prog zbU:=CE.of (Γ:=[]) (by kernel_rfl) zcp (GOK.nil) ⟨[],[],[(1,[(0,0),(0,1),(0,2),(0,3),(0,4),(0,5),(0,6),(0,7),(0,8),(0,9)]),(3,[(0,0),(0,1),(0,2),(0,3),(0,4),(0,5),(0,6),(0,7),(0,8),(0,9)])],[]⟩ Try.func27 rfl Try.ntmps27 (rs:=[.tmp 2]) rfl (sig:=zgu) (out:=zgt) rfl Try.call27 (fun X=>by kernel_rfl)

def zfV:Shape:=⟨[(.int .i64),.str,(.int .i64),(.int .i64),(.int .i64),.str,(.int .i64),(.int .i64),(.list .bool),(.list (.pair (.int .u8) (.pair (.int .i64) (.pair (.int .i64) (.pair (.int .i64) .unit)))))],[(0,.ptr 100000 0),(1,.v 0)],[(100000,.box 48 [.v 1,.v 2,.v 3,.v 4,.v 5,.own 100001,.own 100002,.v 6,.v 7]),(100001,.arr 4 8),(100002,.arr 53 9)]⟩
def zfU:Shape:=⟨[.str,(.int .i64),(.int .i64),(.int .i64),.str,(.list .bool),(.list (.pair (.int .u8) (.pair (.int .i64) (.pair (.int .i64) (.pair (.int .i64) .unit))))),(.int .i64),(.int .i64)],[],[(100000,.box 48 [.v 0,.v 1,.v 2,.v 3,.v 4,.own 100,.own 110,.v 7,.v 8]),(100,.arr 4 5),(110,.arr 53 6)]⟩
def zbh:CE:=⟨15,zfV,zfU,fun X=>zaU X.1 X.2.1 X.2.2.1 X.2.2.2.1 X.2.2.2.2.1 X.2.2.2.2.2.1 X.2.2.2.2.2.2.1 X.2.2.2.2.2.2.2.1 X.2.2.2.2.2.2.2.2.1 X.2.2.2.2.2.2.2.2.2⟩
theorem zbL:CE.ok Try.prog zbh:=CE.of (Γ:=[]) (by kernel_rfl) zcp (GOK.nil) ⟨[],[],[],[]⟩ Try.func15 rfl Try.ntmps15 (rs:=[]) rfl (sig:=zfV) (out:=zfU) rfl Try.call15 (fun X=>by kernel_rfl)

def zed:Shape:=⟨[.str,(.int .i64),(.int .i64),(.int .i64),.str,(.int .i64),(.int .i64),(.list .bool),(.list (.pair (.int .u8) (.pair (.int .i64) (.pair (.int .i64) (.pair (.int .i64) .unit)))))],[(0,.ptr 100000 0)],[(100000,.box 48 [.v 0,.v 1,.v 2,.v 3,.v 4,.own 100001,.own 100002,.v 5,.v 6]),(100001,.arr 4 7),(100002,.arr 53 8)]⟩
def zec:Shape:=⟨[.str,(.int .i64),(.int .i64),(.int .i64),.str,(.list .bool),(.list (.pair (.int .u8) (.pair (.int .i64) (.pair (.int .i64) (.pair (.int .i64) .unit))))),(.int .i64),(.int .i64)],[],[(100000,.box 48 [.v 0,.v 1,.v 2,.v 3,.v 4,.own 100,.own 110,.v 7,.v 8]),(100,.arr 4 5),(110,.arr 53 6)]⟩
def za0:CE:=⟨29,zed,zec,fun X=>zaP X.1 X.2.1 X.2.2.1 X.2.2.2.1 X.2.2.2.2.1 X.2.2.2.2.2.1 X.2.2.2.2.2.2.1 X.2.2.2.2.2.2.2.1 X.2.2.2.2.2.2.2.2⟩
theorem zbB:CE.ok Try.prog za0:=CE.of (Γ:=[zbh]) (by kernel_rfl) zcp (GOK.cons zbL (GOK.nil)) ⟨[],[],[],[]⟩ Try.func29 rfl Try.ntmps29 (rs:=[]) rfl (sig:=zed) (out:=zec) rfl Try.call29 (fun X=>by kernel_rfl)

def zgx:Shape:=⟨[(.pair (.int .u8) (.pair (.int .i64) (.pair (.int .i64) (.pair (.int .i64) .unit)))),.str,(.int .i64),(.int .i64),(.int .i64),.str,(.int .i64),(.int .i64),(.list .bool),(.list (.pair (.int .u8) (.pair (.int .i64) (.pair (.int .i64) (.pair (.int .i64) .unit)))))],[(0,.ptr 100000 0),(1,.v 0)],[(100000,.box 48 [.v 1,.v 2,.v 3,.v 4,.v 5,.own 100001,.own 100002,.v 6,.v 7]),(100001,.arr 4 8),(100002,.arr 53 9)]⟩
def zgw:Shape:=⟨[(.int .i64),.str,(.int .i64),(.int .i64),(.int .i64),.str,(.list .bool),(.list (.pair (.int .u8) (.pair (.int .i64) (.pair (.int .i64) (.pair (.int .i64) .unit))))),(.int .i64),(.int .i64)],[(0,.v 0)],[(100000,.box 48 [.v 1,.v 2,.v 3,.v 4,.v 5,.own 100,.own 110,.v 8,.v 9]),(100,.arr 4 6),(110,.arr 53 7)]⟩
def zbW:CE:=⟨30,zgx,zgw,fun X=>zbD X.1 X.2.1 X.2.2.1 X.2.2.2.1 X.2.2.2.2.1 X.2.2.2.2.2.1 X.2.2.2.2.2.2.1 X.2.2.2.2.2.2.2.1 X.2.2.2.2.2.2.2.2.1 X.2.2.2.2.2.2.2.2.2⟩
theorem zcu:CE.ok Try.prog zbW:=CE.of (Γ:=[]) (by kernel_rfl) zcp (GOK.nil) ⟨[],[],[(1,[(0,0),(0,1),(0,2),(0,3),(0,4),(0,5),(1,6),(2,7),(0,8),(0,9),(2,10)])],[]⟩ Try.func30 rfl Try.ntmps30 (rs:=[.tmp 4]) rfl (sig:=zgx) (out:=zgw) rfl Try.call30 (fun X=>by kernel_rfl)

def zf2:Shape:=⟨[.str,(.int .i64),(.int .i64),(.int .i64),.str,(.int .i64),(.int .i64),(.list .bool),(.list (.pair (.int .u8) (.pair (.int .i64) (.pair (.int .i64) (.pair (.int .i64) .unit)))))],[(0,.ptr 100000 0)],[(100000,.box 48 [.v 0,.v 1,.v 2,.v 3,.v 4,.own 100001,.own 100002,.v 5,.v 6]),(100001,.arr 4 7),(100002,.arr 53 8)]⟩
def zf1:Shape:=⟨[.str,(.int .i64),(.int .i64),(.int .i64),.str,(.list .bool),(.list (.pair (.int .u8) (.pair (.int .i64) (.pair (.int .i64) (.pair (.int .i64) .unit))))),(.int .i64),(.int .i64)],[],[(100000,.box 48 [.v 0,.v 1,.v 2,.v 3,.v 4,.own 100,.own 110,.v 7,.v 8]),(100,.arr 4 5),(110,.arr 53 6)]⟩
def zgA:CE:=⟨43,zf2,zf1,fun X=>zdh X.1 X.2.1 X.2.2.1 X.2.2.2.1 X.2.2.2.2.1 X.2.2.2.2.2.1 X.2.2.2.2.2.2.1 X.2.2.2.2.2.2.2.1 X.2.2.2.2.2.2.2.2⟩
theorem zlH:CE.ok Try.prog zgA:=CE.of (Γ:=[]) (by kernel_rfl) zcp (GOK.nil) ⟨[(1,⟨⟨[(.int .i64),.str,(.int .i64),(.int .i64),(.int .i64),.str,(.int .i64),(.int .i64),(.list .bool),(.list (.pair (.int .u8) (.pair (.int .i64) (.pair (.int .i64) (.pair (.int .i64) .unit)))))],[(0,.ptr 100000 0),(2,.v 0)],[(100000,.box 48 [.v 1,.v 2,.v 3,.v 4,.v 5,.own 100001,.own 100002,.v 6,.v 7]),(100001,.arr 4 8),(100002,.arr 53 9)]⟩,[3,4,5,6,7,8,9,10,11,12,13,14,15,16,17,18,19,20,21,22,23,24,25],[],[],0,[]⟩)],[],[(3,[(0,0),(0,1),(0,2),(0,3),(0,4),(0,5),(0,6),(0,7),(0,8),(0,9),(0,10),(0,11),(0,12),(0,13),(2,14)])],[]⟩ Try.func43 rfl Try.ntmps43 (rs:=[]) rfl (sig:=zf2) (out:=zf1) rfl Try.call43 (fun X=>by kernel_rfl)

def zf4:Shape:=⟨[(.int .u8),.str,(.int .i64),(.int .i64),(.int .i64),.str,(.int .i64),(.int .i64),(.list .bool),(.list (.pair (.int .u8) (.pair (.int .i64) (.pair (.int .i64) (.pair (.int .i64) .unit)))))],[(0,.ptr 100000 0),(1,.v 0)],[(100000,.box 48 [.v 1,.v 2,.v 3,.v 4,.v 5,.own 100001,.own 100002,.v 6,.v 7]),(100001,.arr 4 8),(100002,.arr 53 9)]⟩
def zf3:Shape:=⟨[.str,(.int .i64),(.int .i64),(.int .i64),.str,(.list .bool),(.list (.pair (.int .u8) (.pair (.int .i64) (.pair (.int .i64) (.pair (.int .i64) .unit))))),(.int .i64),(.int .i64)],[],[(100000,.box 48 [.v 0,.v 1,.v 2,.v 3,.v 4,.own 100,.own 110,.v 7,.v 8]),(100,.arr 4 5),(110,.arr 53 6)]⟩
def zc8:CE:=⟨47,zf4,zf3,fun X=>zbp X.1 X.2.1 X.2.2.1 X.2.2.2.1 X.2.2.2.2.1 X.2.2.2.2.2.1 X.2.2.2.2.2.2.1 X.2.2.2.2.2.2.2.1 X.2.2.2.2.2.2.2.2.1 X.2.2.2.2.2.2.2.2.2⟩
theorem zd3:CE.ok Try.prog zc8:=CE.of (Γ:=[zbh,zbU]) (by kernel_rfl) zcp (GOK.cons zbL (GOK.cons zct (GOK.nil))) ⟨[],[],[],[]⟩ Try.func47 rfl Try.ntmps47 (rs:=[]) rfl (sig:=zf4) (out:=zf3) rfl Try.call47 (fun X=>by kernel_rfl)

def zfd:Shape:=⟨[(.int .u8),.str,(.int .i64),(.int .i64),(.int .i64),.str,(.int .i64),(.int .i64),(.list .bool),(.list (.pair (.int .u8) (.pair (.int .i64) (.pair (.int .i64) (.pair (.int .i64) .unit)))))],[(0,.ptr 100000 0),(1,.v 0)],[(100000,.box 48 [.v 1,.v 2,.v 3,.v 4,.v 5,.own 100001,.own 100002,.v 6,.v 7]),(100001,.arr 4 8),(100002,.arr 53 9)]⟩
def zfc:Shape:=⟨[(.int .i64),.str,(.int .i64),(.int .i64),(.int .i64),.str,(.list .bool),(.list (.pair (.int .u8) (.pair (.int .i64) (.pair (.int .i64) (.pair (.int .i64) .unit))))),(.int .i64),(.int .i64)],[(0,.v 0)],[(100000,.box 48 [.v 1,.v 2,.v 3,.v 4,.v 5,.own 100,.own 110,.v 8,.v 9]),(100,.arr 4 6),(110,.arr 53 7)]⟩
def zfY:CE:=⟨46,zfd,zfc,fun X=>zdA X.1 X.2.1 X.2.2.1 X.2.2.2.1 X.2.2.2.2.1 X.2.2.2.2.2.1 X.2.2.2.2.2.2.1 X.2.2.2.2.2.2.2.1 X.2.2.2.2.2.2.2.2.1 X.2.2.2.2.2.2.2.2.2⟩
theorem zkC:CE.ok Try.prog zfY:=CE.of (Γ:=[zbh,za0,zbW]) (by kernel_rfl) zcp (GOK.cons zbL (GOK.cons zbB (GOK.cons zcu (GOK.nil)))) ⟨[(2,⟨⟨[(.int .i64)],[(5,.v 0)],[]⟩,[4,12,13,14,15,16,17,18,19,20,21,22,23,24,25,26,27,28,29,30,31,32,33,34,35,36],[],[],0,[]⟩)],[(3,⟨⟨[],[],[]⟩,[4,5,6,7,8,9,10,11,12,13,14,15,16,17,18,19,20,21,22,23,24,25,26,27,28,29,30,31,32,33,34,35,36],[],[],0,[]⟩)],[],[]⟩ Try.func46 rfl Try.ntmps46 (rs:=[.tmp 4]) rfl (sig:=zfd) (out:=zfc) rfl Try.call46 (fun X=>by kernel_rfl)

def zav:Shape:=⟨[.str,(.int .i64),(.int .i64),(.int .i64),.str,(.int .i64),(.int .i64),(.list .bool),(.list (.pair (.int .u8) (.pair (.int .i64) (.pair (.int .i64) (.pair (.int .i64) .unit)))))],[(0,.ptr 100000 0)],[(100000,.box 48 [.v 0,.v 1,.v 2,.v 3,.v 4,.own 100001,.own 100002,.v 5,.v 6]),(100001,.arr 4 7),(100002,.arr 53 8)]⟩
def zau:Shape:=⟨[(.int .i64),.str,(.int .i64),(.int .i64),(.int .i64),.str,(.list .bool),(.list (.pair (.int .u8) (.pair (.int .i64) (.pair (.int .i64) (.pair (.int .i64) .unit))))),(.int .i64),(.int .i64)],[(0,.v 0)],[(100000,.box 48 [.v 1,.v 2,.v 3,.v 4,.v 5,.own 100,.own 110,.v 8,.v 9]),(100,.arr 4 6),(110,.arr 53 7)]⟩
def zlD:CE:=⟨38,zav,zau,LFix zcN⟩
def zfb:Shape:=⟨[(.int .u8),.str,(.int .i64),(.int .i64),(.int .i64),.str,(.int .i64),(.int .i64),(.list .bool),(.list (.pair (.int .u8) (.pair (.int .i64) (.pair (.int .i64) (.pair (.int .i64) .unit)))))],[(0,.ptr 100000 0),(1,.v 0)],[(100000,.box 48 [.v 1,.v 2,.v 3,.v 4,.v 5,.own 100001,.own 100002,.v 6,.v 7]),(100001,.arr 4 8),(100002,.arr 53 9)]⟩
def zfa:Shape:=⟨[(.int .i64),.str,(.int .i64),(.int .i64),(.int .i64),.str,(.list .bool),(.list (.pair (.int .u8) (.pair (.int .i64) (.pair (.int .i64) (.pair (.int .i64) .unit))))),(.int .i64),(.int .i64)],[(0,.v 0)],[(100000,.box 48 [.v 1,.v 2,.v 3,.v 4,.v 5,.own 100,.own 110,.v 8,.v 9]),(100,.arr 4 6),(110,.arr 53 7)]⟩
def zfT (rec:Tup zav.tys->Option (Tup zau.tys)):CE:=⟨44,zfb,zfa,fun X=>zch (fun c c_1 c_2 c_3 c_4 c_5 c_6 l l_1=>rec (c,c_1,c_2,c_3,c_4,c_5,c_6,l,l_1)) X.1 X.2.1 X.2.2.1 X.2.2.2.1 X.2.2.2.2.1 X.2.2.2.2.2.1 X.2.2.2.2.2.2.1 X.2.2.2.2.2.2.2.1 X.2.2.2.2.2.2.2.2.1 X.2.2.2.2.2.2.2.2.2⟩
theorem zkB (rec:Tup zav.tys->Option (Tup zau.tys)) (hrec:CE.ok Try.prog ⟨38,zav,zau,rec⟩):CE.ok Try.prog (zfT rec):=CE.of (Γ:=[za0,zbh,zc8,⟨38,zav,zau,rec⟩,zbW,zbU]) (by kernel_rfl) zcp (GOK.cons zbB (GOK.cons zbL (GOK.cons zd3 (GOK.cons hrec (GOK.cons zcu (GOK.cons zct (GOK.nil))))))) ⟨[],[(3,⟨⟨[.bool],[(16,.v 0)],[]⟩,[11,12,13,14,15],[],[100,110],111,[]⟩),(4,⟨⟨[.str,(.int .i64),(.int .i64),(.int .i64),.str,(.int .i64),(.int .i64),(.list .bool),(.list (.pair (.int .u8) (.pair (.int .i64) (.pair (.int .i64) (.pair (.int .i64) .unit)))))],[(0,.ptr 100000 0)],[(100000,.box 48 [.v 0,.v 1,.v 2,.v 3,.v 4,.own 111,.own 112,.v 5,.v 6]),(111,.arr 4 7),(112,.arr 53 8)]⟩,[11,12,13,14,15,16,17,18],[100,110],[],113,[]⟩),(8,⟨⟨[.str,(.int .i64),(.int .i64),(.int .i64),.str,(.int .i64),(.int .i64),(.list .bool),(.list (.pair (.int .u8) (.pair (.int .i64) (.pair (.int .i64) (.pair (.int .i64) .unit)))))],[(0,.ptr 100000 0)],[(100000,.box 48 [.v 0,.v 1,.v 2,.v 3,.v 4,.own 113,.own 114,.v 5,.v 6]),(113,.arr 4 7),(114,.arr 53 8)]⟩,[26,27,28,29,30,31],[111,112,211,221],[],115,[]⟩)],[],[]⟩ Try.func44 rfl Try.ntmps44 (rs:=[.tmp 4]) rfl (sig:=zfb) (out:=zfa) rfl Try.call44 (fun X=>by kernel_rfl)
def zfX:Shape:=⟨[(.int .u8),.str,(.int .i64),(.int .i64),(.int .i64),.str,(.int .i64),(.int .i64),(.list .bool),(.list (.pair (.int .u8) (.pair (.int .i64) (.pair (.int .i64) (.pair (.int .i64) .unit)))))],[(0,.ptr 100000 0),(1,.v 0)],[(100000,.box 48 [.v 1,.v 2,.v 3,.v 4,.v 5,.own 100001,.own 100002,.v 6,.v 7]),(100001,.arr 4 8),(100002,.arr 53 9)]⟩
def zfW:Shape:=⟨[(.int .i64),.str,(.int .i64),(.int .i64),(.int .i64),.str,(.list .bool),(.list (.pair (.int .u8) (.pair (.int .i64) (.pair (.int .i64) (.pair (.int .i64) .unit))))),(.int .i64),(.int .i64)],[(0,.v 0)],[(100000,.box 48 [.v 1,.v 2,.v 3,.v 4,.v 5,.own 100,.own 110,.v 8,.v 9]),(100,.arr 4 6),(110,.arr 53 7)]⟩
def zgs (rec:Tup zav.tys->Option (Tup zau.tys)):CE:=⟨45,zfX,zfW,fun X=>zcw (fun c c_1 c_2 c_3 c_4 c_5 c_6 l l_1=>rec (c,c_1,c_2,c_3,c_4,c_5,c_6,l,l_1)) X.1 X.2.1 X.2.2.1 X.2.2.2.1 X.2.2.2.2.1 X.2.2.2.2.2.1 X.2.2.2.2.2.2.1 X.2.2.2.2.2.2.2.1 X.2.2.2.2.2.2.2.2.1 X.2.2.2.2.2.2.2.2.2⟩
theorem zlC (rec:Tup zav.tys->Option (Tup zau.tys)) (hrec:CE.ok Try.prog ⟨38,zav,zau,rec⟩):CE.ok Try.prog (zgs rec):=CE.of (Γ:=[zbh,za0,zc8,⟨38,zav,zau,rec⟩,zbW,zbU]) (by kernel_rfl) zcp (GOK.cons zbL (GOK.cons zbB (GOK.cons zd3 (GOK.cons hrec (GOK.cons zcu (GOK.cons zct (GOK.nil))))))) ⟨[],[(6,⟨⟨[.bool],[(25,.v 0)],[]⟩,[20,21,22,23,24],[],[100,110],111,[]⟩),(7,⟨⟨[.str,(.int .i64),(.int .i64),(.int .i64),.str,(.int .i64),(.int .i64),(.list .bool),(.list (.pair (.int .u8) (.pair (.int .i64) (.pair (.int .i64) (.pair (.int .i64) .unit)))))],[(0,.ptr 100000 0)],[(100000,.box 48 [.v 0,.v 1,.v 2,.v 3,.v 4,.own 111,.own 112,.v 5,.v 6]),(111,.arr 4 7),(112,.arr 53 8)]⟩,[20,21,22,23,24,25,26,27],[100,110],[],113,[]⟩)],[(11,[(0,0),(0,1),(0,2),(0,3),(0,4),(0,5),(1,6),(0,7),(0,8),(0,9),(0,10),(2,11)]),(15,[(0,0),(0,1),(0,2),(0,3),(0,4),(0,5),(1,6),(0,7),(0,8),(2,9)])],[]⟩ Try.func45 rfl Try.ntmps45 (rs:=[.tmp 4]) rfl (sig:=zfX) (out:=zfW) rfl Try.call45 (fun X=>by kernel_rfl)
def zf0:Shape:=⟨[.str,(.int .i64),(.int .i64),(.int .i64),.str,(.int .i64),(.int .i64),(.list .bool),(.list (.pair (.int .u8) (.pair (.int .i64) (.pair (.int .i64) (.pair (.int .i64) .unit)))))],[(0,.ptr 100000 0)],[(100000,.box 48 [.v 0,.v 1,.v 2,.v 3,.v 4,.own 100001,.own 100002,.v 5,.v 6]),(100001,.arr 4 7),(100002,.arr 53 8)]⟩
def zfZ:Shape:=⟨[(.int .i64),.str,(.int .i64),(.int .i64),(.int .i64),.str,(.list .bool),(.list (.pair (.int .u8) (.pair (.int .i64) (.pair (.int .i64) (.pair (.int .i64) .unit))))),(.int .i64),(.int .i64)],[(0,.v 0)],[(100000,.box 48 [.v 1,.v 2,.v 3,.v 4,.v 5,.own 100,.own 110,.v 8,.v 9]),(100,.arr 4 6),(110,.arr 53 7)]⟩
def zgy (rec:Tup zav.tys->Option (Tup zau.tys)):CE:=⟨26,zf0,zfZ,fun X=>zbo (fun c c_1 c_2 c_3 c_4 c_5 c_6 l l_1=>rec (c,c_1,c_2,c_3,c_4,c_5,c_6,l,l_1)) X.1 X.2.1 X.2.2.1 X.2.2.2.1 X.2.2.2.2.1 X.2.2.2.2.2.1 X.2.2.2.2.2.2.1 X.2.2.2.2.2.2.2.1 X.2.2.2.2.2.2.2.2⟩
theorem zlG (rec:Tup zav.tys->Option (Tup zau.tys)) (hrec:CE.ok Try.prog ⟨38,zav,zau,rec⟩):CE.ok Try.prog (zgy rec):=CE.of (Γ:=[⟨38,zav,zau,rec⟩,za0,zbW,zbU,zdB]) (by kernel_rfl) zcp (GOK.cons hrec (GOK.cons zbB (GOK.cons zcu (GOK.cons zct (GOK.cons zeR (GOK.nil)))))) ⟨[(2,⟨⟨[(.int .i64),.str,(.int .i64),(.int .i64),(.int .i64),.str,(.int .i64),(.int .i64),(.list .bool),(.list (.pair (.int .u8) (.pair (.int .i64) (.pair (.int .i64) (.pair (.int .i64) .unit)))))],[(0,.ptr 100000 0),(3,.v 0)],[(100000,.box 48 [.v 1,.v 2,.v 3,.v 4,.v 5,.own 100,.own 110,.v 6,.v 7]),(100,.arr 4 8),(110,.arr 53 9)]⟩,[2,4,5,6,9,10,11,12,13,14,15,16,17,18,19,20,21,22,23,24,25,26,27,28],[],[],111,[]⟩)],[],[],[]⟩ Try.func26 rfl Try.ntmps26 (rs:=[.tmp 2]) rfl (sig:=zf0) (out:=zfZ) rfl Try.call26 (fun X=>by kernel_rfl)
def zfh:Shape:=⟨[.str,(.int .i64),(.int .i64),(.int .i64),.str,(.int .i64),(.int .i64),(.list .bool),(.list (.pair (.int .u8) (.pair (.int .i64) (.pair (.int .i64) (.pair (.int .i64) .unit)))))],[(0,.ptr 100000 0)],[(100000,.box 48 [.v 0,.v 1,.v 2,.v 3,.v 4,.own 100001,.own 100002,.v 5,.v 6]),(100001,.arr 4 7),(100002,.arr 53 8)]⟩
def zfg:Shape:=⟨[(.int .i64),.str,(.int .i64),(.int .i64),(.int .i64),.str,(.list .bool),(.list (.pair (.int .u8) (.pair (.int .i64) (.pair (.int .i64) (.pair (.int .i64) .unit))))),(.int .i64),(.int .i64)],[(0,.v 0)],[(100000,.box 48 [.v 1,.v 2,.v 3,.v 4,.v 5,.own 100,.own 110,.v 8,.v 9]),(100,.arr 4 6),(110,.arr 53 7)]⟩
def zdH (rec:Tup zav.tys->Option (Tup zau.tys)):CE:=⟨14,zfh,zfg,fun X=>za5 (fun c c_1 c_2 c_3 c_4 c_5 c_6 l l_1=>rec (c,c_1,c_2,c_3,c_4,c_5,c_6,l,l_1)) X.1 X.2.1 X.2.2.1 X.2.2.2.1 X.2.2.2.2.1 X.2.2.2.2.2.1 X.2.2.2.2.2.2.1 X.2.2.2.2.2.2.2.1 X.2.2.2.2.2.2.2.2⟩
theorem zf5 (rec:Tup zav.tys->Option (Tup zau.tys)) (hrec:CE.ok Try.prog ⟨38,zav,zau,rec⟩):CE.ok Try.prog (zdH rec):=CE.of (Γ:=[zgy rec,za0,zbW,zbU,zdB]) (by kernel_rfl) zcp (GOK.cons (zlG rec hrec) (GOK.cons zbB (GOK.cons zcu (GOK.cons zct (GOK.cons zeR (GOK.nil)))))) ⟨[(2,⟨⟨[(.int .i64),.str,(.int .i64),(.int .i64),(.int .i64),.str,(.int .i64),(.int .i64),(.list .bool),(.list (.pair (.int .u8) (.pair (.int .i64) (.pair (.int .i64) (.pair (.int .i64) .unit)))))],[(0,.ptr 100000 0),(3,.v 0)],[(100000,.box 48 [.v 1,.v 2,.v 3,.v 4,.v 5,.own 100,.own 110,.v 6,.v 7]),(100,.arr 4 8),(110,.arr 53 9)]⟩,[2,4,5,6,9,10,11,12,13,14,15,16,17,18,19,20,21,22,23,24,25,26,27,28],[],[],111,[]⟩)],[],[],[]⟩ Try.func14 rfl Try.ntmps14 (rs:=[.tmp 2]) rfl (sig:=zfh) (out:=zfg) rfl Try.call14 (fun X=>by kernel_rfl)
theorem zlF:CE.ok Try.prog zlD:=CE.ofRecM (Γ:=fun rec=>[za0,zbW,zgA,zfT rec,zgs rec,zfY,zbh,zdH rec,zc8,zdB,zbU]) (by kernel_rfl) zcp ⟨[],[(7,⟨⟨[.bool],[(14,.v 0)],[]⟩,[15,16],[],[],0,[]⟩),(17,⟨⟨[.bool],[(37,.v 0)],[]⟩,[38,39],[],[],0,[]⟩),(20,⟨⟨[.bool],[(43,.v 0)],[]⟩,[44,45],[],[],0,[]⟩),(24,⟨⟨[.bool],[(49,.v 0)],[]⟩,[50,51,52],[],[],0,[]⟩)],[],[]⟩ Try.func38 rfl Try.ntmps38 (rs:=[.tmp 2]) rfl (sig:=zav) (out:=zau) rfl (fun rec hrec=>(GOK.cons zbB (GOK.cons zcu (GOK.cons zlH (GOK.cons (zkB rec hrec) (GOK.cons (zlC rec hrec) (GOK.cons zkC (GOK.cons zbL (GOK.cons (zf5 rec hrec) (GOK.cons zd3 (GOK.cons zeR (GOK.cons zct (GOK.nil))))))))))))) Try.call38 (d:=zcN) (fun rc X=>by kernel_rfl)
def zeJ:CE:=zdH (LFix zcN)
theorem zjn:CE.ok Try.prog zeJ:=zf5 _ zlF

def zlA:Shape:=⟨[.str],[(0,.v 0)],[]⟩
def zlz:Shape:=⟨[(.int .i64),(.pair (.int .i64) (.pair (.int .i64) .unit)),(.list (.pair (.int .u8) (.pair (.int .i64) (.pair (.int .i64) (.pair (.int .i64) .unit)))))],[(0,.own 0),(1,.v 0),(2,.v 1)],[(0,.arr 53 2)]⟩
def zmG:CE:=⟨6,zlA,zlz,fun X=>zjh X⟩
theorem zq1:CE.ok Try.prog zmG:=CE.of (Γ:=[zeJ,zbh]) (by kernel_rfl) zcp (GOK.cons zjn (GOK.cons zbL (GOK.nil))) ⟨[],[],[(8,[(0,0),(0,1),(0,2),(0,3),(0,4),(0,5),(2,6)])],[]⟩ Try.func6 rfl Try.ntmps6 (rs:=[.tmp 2,.tmp 3,.cell 4 32]) rfl (sig:=zlA) (out:=zlz) rfl Try.call6 (fun X=>by kernel_rfl)

def zlu:Shape:=⟨[(.list .bool),(.list .bool)],[(0,.v 0),(1,.v 1)],[]⟩
def zlt:Shape:=⟨[.bool],[(0,.v 0)],[]⟩
def zje:CE:=⟨8,zlu,zlt,fun X=>zjc X.1 X.2⟩
theorem zmE:CE.ok Try.prog zje:=CE.of (Γ:=[]) (by kernel_rfl) zcp (GOK.nil) ⟨[(4,⟨⟨[(.int .i64)],[(5,.v 0)],[]⟩,[4,11,12,13,14,15,16,17,18,19,20,21,22,23,24,25],[],[],0,[]⟩)],[],[(6,[(0,0),(0,1),(0,2),(0,3),(0,4),(0,5),(0,6),(0,7),(0,8)])],[]⟩ Try.func8 rfl Try.ntmps8 (rs:=[.tmp 4]) rfl (sig:=zlu) (out:=zlt) rfl Try.call8 (fun X=>by kernel_rfl)

def zlN:Shape:=⟨[(.pair (.int .i64) (.pair (.int .i64) (.pair (.list (.pair (.int .i64) (.pair (.int .i64) (.pair (.int .i64) .unit)))) .unit))),(.list (.pair (.int .u8) (.pair (.int .i64) (.pair (.int .i64) (.pair (.int .i64) .unit))))),(.int .i64),(.list (.list .bool))],[(0,.v 0),(1,.v 1),(2,.v 2),(3,.v 3)],[]⟩
def zlM:Shape:=⟨[(.list .bool)],[(0,.v 0)],[]⟩
def zmH:CE:=⟨7,zlN,zlM,LFix zhD⟩
theorem zq3:CE.ok Try.prog zmH:=CE.ofRec (Γ:=[zje]) (by kernel_rfl) zcp (GOK.cons zmE (GOK.nil)) ⟨[(8,⟨⟨[(.int .i64),(.list .bool)],[(10,.own 2),(11,.v 0)],[(2,.arr 4 1)]⟩,[29,37,38,39,40,41,42,43,44,45],[],[0,1],3,[]⟩),(18,⟨⟨[(.int .i64),(.list .bool)],[(10,.own 2),(12,.v 0)],[(2,.arr 4 1)]⟩,[29,60,61,62,63,64,65,66,67,68,69,70,71],[],[0,1],3,[]⟩),(21,⟨⟨[(.list .bool)],[(10,.v 0)],[]⟩,[8,13,14,15,72,73,74,75,76,77,78,79,80,81,82,83,84,85,86,87,88,89,90],[2],[0,1],3,[]⟩),(31,⟨⟨[(.int .i64),(.list .bool)],[(10,.own 2),(17,.v 0)],[(2,.arr 4 1)]⟩,[29,100,101,102,103,104,105,106,107,108,109,110,111,112,113],[],[0,1],3,[]⟩),(38,⟨⟨[(.int .i64),(.list .bool)],[(10,.own 2),(19,.v 0)],[(2,.arr 4 1)]⟩,[29,129,130,131,132,133,134,135,136,137,138,139,140,141,142,143,144,145,146,147,148,149,150,151,152,153,154,155,156,157,158,159,160,161,162,163],[],[0,1],3,[]⟩),(45,⟨⟨[(.int .i64),(.list .bool)],[(10,.own 2),(20,.v 0)],[(2,.arr 4 1)]⟩,[29,165,166,167,168,169,170,171,172,173,174,175,176],[],[0,1],3,[]⟩),(49,⟨⟨[(.int .i64),(.list .bool)],[(10,.own 2),(21,.v 0)],[(2,.arr 4 1)]⟩,[22,177,178,179,180,181,182,183,184,185,186,187,188,189,190,191,192,193,194,195,196,197,198,199,200,201,202,203,204,205,206,207,208,209,210,211,212,213,214,215,216,217,218,219,220,221,222],[],[0,1],3,[]⟩)],[(16,⟨⟨[.bool],[(57,.v 0)],[]⟩,[58,59],[],[0,1,2],3,[]⟩),(35,⟨⟨[.bool],[(122,.v 0)],[]⟩,[115,116,117,118,119,120,121],[],[0,1,2],3,[]⟩),(40,⟨⟨[(.list .bool)],[(10,.own 2)],[(2,.arr 4 0)]⟩,[135,136,137,138,139,140,141,142,143,144,145,146,147],[],[0,1],3,[]⟩),(53,⟨⟨[.bool],[(203,.v 0)],[]⟩,[194,195,196,197,198,199,200,201,202],[],[0,1,2,3],4,[]⟩),(54,⟨⟨[(.list .bool)],[(10,.own 2)],[(2,.arr 4 0)]⟩,[194,195,196,197,198,199,200,201,202,203,204,205,206,207],[],[0,1,3],4,[]⟩),(55,⟨⟨[.bool],[(218,.v 0)],[]⟩,[208,209,210,211,212,213,214,215,216,217],[],[0,1,2,3],4,[]⟩)],[],[]⟩ Try.func7 rfl Try.ntmps7 (rs:=[.tmp 8]) rfl (sig:=zlN) (out:=zlM) rfl Try.call7 (d:=zhD) (fun rc X=>by kernel_rfl)

def zhO:Shape:=⟨[(.pair (.int .i64) (.pair (.int .i64) (.pair (.list (.pair (.int .i64) (.pair (.int .i64) (.pair (.int .i64) .unit)))) .unit))),.str],[(0,.v 0),(1,.v 1)],[]⟩
def zhN:Shape:=⟨[.bool],[(0,.v 0)],[]⟩
def zfO:CE:=⟨3,zhO,zhN,fun X=>zi3 X.1 X.2⟩
theorem zn5:CE.ok Try.prog zfO:=CE.of (Γ:=[zmw,zmF,zmG,zmH,zje]) (by kernel_rfl) zcp (GOK.cons zqK (GOK.cons zq0 (GOK.cons zq1 (GOK.cons zq3 (GOK.cons zmE (GOK.nil)))))) ⟨[],[(4,⟨⟨[.bool],[(33,.v 0)],[]⟩,[27,28,29,30,31,32],[],[0,1,2,3],4,[]⟩),(5,⟨⟨[(.int .i64)],[(7,.v 0)],[]⟩,[27,28,29,30,31,32,33],[],[0,1,2,3],4,[]⟩)],[],[]⟩ Try.func3 rfl Try.ntmps3 (rs:=[.tmp 4]) rfl (sig:=zhO) (out:=zhN) rfl Try.call3 (fun X=>by kernel_rfl)

end
end Go.Proofs.Ytiiljakjbifdjaa.fixHoldsW
