import Derived.Test.YtdkmmmmdmkoepaaRegularTextD
import Derived.Test.YtdkmmmmdmkoepaaProg
import Derived.KernelRfl
set_option maxHeartbeats 1000000
set_option maxRecDepth 20000
set_option linter.unusedSimpArgs false
set_option linter.unusedVariables false
set_option linter.unusedSectionVars false
namespace Go.Proofs.Ytdkmmmmdmkoepaa.regularTextW
open Go Go.Ab
noncomputable section
def te3:TE:=⟨3,.int .i64,false,1,8,.int .i64 0,some (.int .i64)⟩
theorem zu3:TEok Try.prog te3:=⟨TI.of Try.underlying3 rfl (by kernel_rfl),Try.underlying3,fun t h=>by cases h;exact ⟨rfl,rfl,by decide,rfl⟩⟩
def te4:TE:=⟨4,.bool,false,1,1,.bool false,some .bool⟩
theorem zu4:TEok Try.prog te4:=⟨TI.of Try.underlying4 rfl (by kernel_rfl),Try.underlying4,fun t h=>by cases h;exact ⟨rfl,rfl,by decide,rfl⟩⟩
def te5:TE:=⟨5,.int .u8,false,1,1,.int .u8 0,some (.int .u8)⟩
theorem zu5:TEok Try.prog te5:=⟨TI.of Try.underlying5 rfl (by kernel_rfl),Try.underlying5,fun t h=>by cases h;exact ⟨rfl,rfl,by decide,rfl⟩⟩
def te9:TE:=⟨9,.str,false,1,16,.string ⟨⟨[]⟩⟩,some .str⟩
theorem zu6:TEok Try.prog te9:=⟨TI.of Try.underlying9 rfl (by kernel_rfl),Try.underlying9,fun t h=>by cases h;exact ⟨rfl,rfl,by decide,rfl⟩⟩
def te21:TE:=⟨21,.int .i32,false,1,4,.int .i32 0,some (.int .i32)⟩
theorem zuj:TEok Try.prog te21:=⟨TI.of Try.underlying21 rfl (by kernel_rfl),Try.underlying21,fun t h=>by cases h;exact ⟨rfl,rfl,by decide,rfl⟩⟩
def te22:TE:=⟨22,.slice 23,false,1,24,.slice none 0 0,some (.list (.list (.int .i64)))⟩
theorem zuk:TEok Try.prog te22:=⟨TI.of Try.underlying22 rfl (by kernel_rfl),Try.underlying22,fun t h=>by cases h;exact ⟨rfl,rfl,by decide,rfl⟩⟩
def te23:TE:=⟨23,.slice 3,false,1,24,.slice none 0 0,some (.list (.int .i64))⟩
theorem zul:TEok Try.prog te23:=⟨TI.of Try.underlying23 rfl (by kernel_rfl),Try.underlying23,fun t h=>by cases h;exact ⟨rfl,rfl,by decide,rfl⟩⟩
def te25:TE:=⟨25,.struct [(0,3),(1,3),(2,22),(3,23)] none,true,4,64,.agg ⟨[.int .i64 0,.int .i64 0,.slice none 0 0,.slice none 0 0]⟩,some (.pair (.int .i64) (.pair (.int .i64) (.pair (.list (.list (.int .i64))) (.pair (.list (.int .i64)) .unit))))⟩
theorem zum:TEok Try.prog te25:=⟨TI.of Try.underlying25 rfl (by kernel_rfl),⟨⟨_,Try.underlying25,rfl⟩,fun t h=>by cases h⟩,fun t h=>by cases h;exact ⟨rfl,rfl,by decide,rfl⟩⟩
def te27:TE:=⟨27,.int .i64,false,1,8,.int .i64 0,some (.int .i64)⟩
theorem zun:TEok Try.prog te27:=⟨TI.of Try.underlying27 rfl (by kernel_rfl),Try.underlying27,fun t h=>by cases h;exact ⟨rfl,rfl,by decide,rfl⟩⟩
def te32:TE:=⟨32,.slice 67,false,1,24,.slice none 0 0,some (.list (.pair (.int .i64) (.pair (.int .i64) (.pair (.list (.int .i64)) .unit))))⟩
theorem zuo:TEok Try.prog te32:=⟨TI.of Try.underlying32 rfl (by kernel_rfl),Try.underlying32,fun t h=>by cases h;exact ⟨rfl,rfl,by decide,rfl⟩⟩
def te34:TE:=⟨34,.struct [(0,27),(1,3)] none,true,2,16,.agg ⟨[.int .i64 0,.int .i64 0]⟩,some (.pair (.int .i64) (.pair (.int .i64) .unit))⟩
theorem zup:TEok Try.prog te34:=⟨TI.of Try.underlying34 rfl (by kernel_rfl),⟨⟨_,Try.underlying34,rfl⟩,fun t h=>by cases h⟩,fun t h=>by cases h;exact ⟨rfl,rfl,by decide,rfl⟩⟩
def te43:TE:=⟨43,.slice 44,false,1,24,.slice none 0 0,some (.list (.list .str))⟩
theorem zuq:TEok Try.prog te43:=⟨TI.of Try.underlying43 rfl (by kernel_rfl),Try.underlying43,fun t h=>by cases h;exact ⟨rfl,rfl,by decide,rfl⟩⟩
def te44:TE:=⟨44,.slice 9,false,1,24,.slice none 0 0,some (.list .str)⟩
theorem zur:TEok Try.prog te44:=⟨TI.of Try.underlying44 rfl (by kernel_rfl),Try.underlying44,fun t h=>by cases h;exact ⟨rfl,rfl,by decide,rfl⟩⟩
def te50:TE:=⟨50,.struct [(0,9),(1,3),(2,3),(3,32),(4,34)] none,true,6,72,.agg ⟨[.string ⟨⟨[]⟩⟩,.int .i64 0,.int .i64 0,.slice none 0 0,.int .i64 0,.int .i64 0]⟩,some (.pair .str (.pair (.int .i64) (.pair (.int .i64) (.pair (.list (.pair (.int .i64) (.pair (.int .i64) (.pair (.list (.int .i64)) .unit)))) (.pair (.pair (.int .i64) (.pair (.int .i64) .unit)) .unit)))))⟩
theorem zus:TEok Try.prog te50:=⟨TI.of Try.underlying50 rfl (by kernel_rfl),⟨⟨_,Try.underlying50,rfl⟩,fun t h=>by cases h⟩,fun t h=>by cases h;exact ⟨rfl,rfl,by decide,rfl⟩⟩
def te54:TE:=⟨54,.slice 4,false,1,24,.slice none 0 0,some (.list .bool)⟩
theorem zut:TEok Try.prog te54:=⟨TI.of Try.underlying54 rfl (by kernel_rfl),Try.underlying54,fun t h=>by cases h;exact ⟨rfl,rfl,by decide,rfl⟩⟩
def te58:TE:=⟨58,.other,false,1,8,.nilFunc,none⟩
theorem zuu:TEok Try.prog te58:=⟨TI.of Try.underlying58 rfl (by kernel_rfl),trivial,fun t h=>by cases h⟩
def te60:TE:=⟨60,.int .u64,false,1,8,.int .u64 0,some (.int .u64)⟩
theorem zuv:TEok Try.prog te60:=⟨TI.of Try.underlying60 rfl (by kernel_rfl),Try.underlying60,fun t h=>by cases h;exact ⟨rfl,rfl,by decide,rfl⟩⟩
def te67:TE:=⟨67,.struct [(0,3),(1,3),(2,23)] none,true,3,40,.agg ⟨[.int .i64 0,.int .i64 0,.slice none 0 0]⟩,some (.pair (.int .i64) (.pair (.int .i64) (.pair (.list (.int .i64)) .unit)))⟩
theorem zuw:TEok Try.prog te67:=⟨TI.of Try.underlying67 rfl (by kernel_rfl),⟨⟨_,Try.underlying67,rfl⟩,fun t h=>by cases h⟩,fun t h=>by cases h;exact ⟨rfl,rfl,by decide,rfl⟩⟩
def te73:TE:=⟨73,.int .u64,false,1,8,.int .u64 0,some (.int .u64)⟩
theorem zux:TEok Try.prog te73:=⟨TI.of Try.underlying73 rfl (by kernel_rfl),Try.underlying73,fun t h=>by cases h;exact ⟨rfl,rfl,by decide,rfl⟩⟩
def TT:List TE:=[te3,te4,te5,te9,te21,te22,te23,te25,te27,te32,te34,te43,te44,te50,te54,te58,te60,te67,te73]
theorem zbt:TOK Try.prog TT:=TOK.cons zu3 (TOK.cons zu4 (TOK.cons zu5 (TOK.cons zu6 (TOK.cons zuj (TOK.cons zuk (TOK.cons zul (TOK.cons zum (TOK.cons zun (TOK.cons zuo (TOK.cons zup (TOK.cons zuq (TOK.cons zur (TOK.cons zus (TOK.cons zut (TOK.cons zuu (TOK.cons zuv (TOK.cons zuw (TOK.cons zux (TOK.nil)))))))))))))))))))

def zkb:Shape:=⟨[(.list (.int .i64))],[(0,.v 0)],[]⟩
def zka:Shape:=⟨[(.list (.int .i64))],[(0,.own 0)],[(0,.arr 3 0)]⟩
def zie:CE:=⟨14,zkb,zka,fun X=>ziV X⟩
theorem zlt:CE.ok Try.prog zie:=CE.of (Γ:=[]) (by kernel_rfl) zbt (GOK.nil) ⟨[],[],[],[]⟩ Try.func14 rfl Try.ntmps14 (rs:=[.tmp 2]) rfl (sig:=zkb) (out:=zka) rfl Try.call14 (fun X=>by kernel_rfl)

def ziY:Shape:=⟨[(.list (.list (.int .i64)))],[(0,.v 0)],[]⟩
def ziX:Shape:=⟨[(.list (.list (.int .i64)))],[(0,.own 0)],[(0,.arr 23 0)]⟩
def zkc:CE:=⟨13,ziY,ziX,fun X=>ziW X⟩
theorem zow:CE.ok Try.prog zkc:=CE.of (Γ:=[zie]) (by kernel_rfl) zbt (GOK.cons zlt (GOK.nil)) ⟨[(3,⟨⟨[(.int .i64),(.list (.list (.int .i64)))],[(3,.own 0),(4,.v 0)],[(0,.arr 23 1)]⟩,[5,6,7,8,9,10,11,12,13,14,15,16,17,18,19,20],[],[],1,[]⟩)],[],[],[]⟩ Try.func13 rfl Try.ntmps13 (rs:=[.tmp 2]) rfl (sig:=ziY) (out:=ziX) rfl Try.call13 (fun X=>by kernel_rfl)

def ziU:Shape:=⟨[(.pair (.int .i64) (.pair (.int .i64) (.pair (.list (.list (.int .i64))) (.pair (.list (.int .i64)) .unit))))],[(0,.v 0)],[]⟩
def ziT:Shape:=⟨[(.pair (.int .i64) (.pair (.int .i64) (.pair (.list (.list (.int .i64))) (.pair (.list (.int .i64)) .unit))))],[(0,.v 0)],[]⟩
def zj9:CE:=⟨4,ziU,ziT,fun X=>ziS X⟩
theorem zov:CE.ok Try.prog zj9:=CE.of (Γ:=[zkc,zie]) (by kernel_rfl) zbt (GOK.cons zow (GOK.cons zlt (GOK.nil))) ⟨[],[],[],[]⟩ Try.func4 rfl Try.ntmps4 (rs:=[.cell 2 25]) rfl (sig:=ziU) (out:=ziT) rfl Try.call4 (fun X=>by kernel_rfl)

def zgJ:Shape:=⟨[(.list (.int .i64)),(.pair (.int .i64) (.pair (.int .i64) (.pair (.list (.list (.int .i64))) (.pair (.list (.int .i64)) .unit))))],[(0,.v 0),(1,.addr 1)],[]⟩
def zgI:Shape:=⟨[.bool],[(0,.v 0)],[]⟩
def zhM:CE:=⟨25,zgJ,zgI,fun X=>zib X.1 X.2⟩
theorem zmd:CE.ok Try.prog zhM:=CE.of (Γ:=[]) (by kernel_rfl) zbt (GOK.nil) ⟨[],[],[],[]⟩ Try.func25 rfl Try.ntmps25 (rs:=[.tmp 3]) rfl (sig:=zgJ) (out:=zgI) rfl Try.call25 (fun X=>by kernel_rfl)

def zd1:Shape:=⟨[(.list (.list (.int .i64))),(.pair (.int .i64) (.pair (.int .i64) (.pair (.list (.list (.int .i64))) (.pair (.list (.int .i64)) .unit))))],[(0,.v 0),(1,.fn 25 [.addr 1])],[]⟩
def zd0:Shape:=⟨[(.int .i64)],[(0,.v 0)],[]⟩
def zeB:CE:=⟨36,zd1,zd0,fun X=>zgz X.1 X.2⟩
theorem zit:CE.ok Try.prog zeB:=CE.of (Γ:=[zhM]) (by kernel_rfl) zbt (GOK.cons zmd (GOK.nil)) ⟨[(2,⟨⟨[(.int .i64)],[(8,.v 0)],[]⟩,[4,5,9,10,11,12,13,14,15,16,17,18],[],[],0,[]⟩)],[],[],[]⟩ Try.func36 rfl Try.ntmps36 (rs:=[.tmp 4]) rfl (sig:=zd1) (out:=zd0) rfl Try.call36 (fun X=>by kernel_rfl)

def zda:Shape:=⟨[(.list (.list (.int .i64))),(.pair (.int .i64) (.pair (.int .i64) (.pair (.list (.list (.int .i64))) (.pair (.list (.int .i64)) .unit))))],[(0,.v 0),(1,.fn 25 [.addr 1])],[]⟩
def zc9:Shape:=⟨[.bool],[(0,.v 0)],[]⟩
def zdh:CE:=⟨24,zda,zc9,fun X=>zcI X.1 X.2⟩
theorem zgD:CE.ok Try.prog zdh:=CE.of (Γ:=[zeB]) (by kernel_rfl) zbt (GOK.cons zit (GOK.nil)) ⟨[],[],[],[]⟩ Try.func24 rfl Try.ntmps24 (rs:=[.tmp 4]) rfl (sig:=zda) (out:=zc9) rfl Try.call24 (fun X=>by kernel_rfl)

def zgL:Shape:=⟨[(.int .i64),(.int .i64)],[(0,.v 0),(1,.addr 1)],[]⟩
def zgK:Shape:=⟨[.bool],[(0,.v 0)],[]⟩
def zfd:CE:=⟨26,zgL,zgK,fun X=>zdr X.1 X.2⟩
theorem zhN:CE.ok Try.prog zfd:=CE.of (Γ:=[]) (by kernel_rfl) zbt (GOK.nil) ⟨[],[],[],[]⟩ Try.func26 rfl Try.ntmps26 (rs:=[.tmp 3]) rfl (sig:=zgL) (out:=zgK) rfl Try.call26 (fun X=>by kernel_rfl)

def zdl:Shape:=⟨[(.list (.int .i64)),(.int .i64)],[(0,.v 0),(1,.fn 26 [.addr 1])],[]⟩
def zdk:Shape:=⟨[(.int .i64)],[(0,.v 0)],[]⟩
def zdR:CE:=⟨37,zdl,zdk,fun X=>ze8 X.1 X.2⟩
theorem zhl:CE.ok Try.prog zdR:=CE.of (Γ:=[zfd]) (by kernel_rfl) zbt (GOK.cons zhN (GOK.nil)) ⟨[(2,⟨⟨[(.int .i64)],[(8,.v 0)],[]⟩,[4,5,9,10,11,12,13,14,15,16,17,18],[],[],0,[]⟩)],[],[],[]⟩ Try.func37 rfl Try.ntmps37 (rs:=[.tmp 4]) rfl (sig:=zdl) (out:=zdk) rfl Try.call37 (fun X=>by kernel_rfl)

def zcn:Shape:=⟨[(.list (.int .i64)),(.int .i64)],[(0,.v 0),(1,.fn 26 [.addr 1])],[]⟩
def zcm:Shape:=⟨[.bool],[(0,.v 0)],[]⟩
def zcP:CE:=⟨28,zcn,zcm,fun X=>zb7 X.1 X.2⟩
theorem zfR:CE.ok Try.prog zcP:=CE.of (Γ:=[zdR]) (by kernel_rfl) zbt (GOK.cons zhl (GOK.nil)) ⟨[],[],[],[]⟩ Try.func28 rfl Try.ntmps28 (rs:=[.tmp 4]) rfl (sig:=zcn) (out:=zcm) rfl Try.call28 (fun X=>by kernel_rfl)

def zgN:Shape:=⟨[(.list (.int .i64)),(.int .i64)],[(0,.v 0),(1,.ptr 100000 0)],[(100000,.box 58 [.fn 26 [.addr 1]])]⟩
def zgM:Shape:=⟨[.bool,(.int .i64)],[(0,.v 0)],[(100000,.box 58 [.fn 26 [.addr 1]])]⟩
def zhO:CE:=⟨27,zgN,zgM,fun X=>zf4 X.1 X.2⟩
theorem zme:CE.ok Try.prog zhO:=CE.of (Γ:=[zcP]) (by kernel_rfl) zbt (GOK.cons zfR (GOK.nil)) ⟨[],[],[],[]⟩ Try.func27 rfl Try.ntmps27 (rs:=[.tmp 3]) rfl (sig:=zgN) (out:=zgM) rfl Try.call27 (fun X=>by kernel_rfl)

def zdj:Shape:=⟨[(.list (.list (.int .i64))),(.int .i64)],[(0,.v 0),(1,.fn 27 [.ptr 100000 0])],[(100000,.box 58 [.fn 26 [.addr 1]])]⟩
def zdi:Shape:=⟨[(.int .i64),(.int .i64)],[(0,.v 0)],[(100000,.box 58 [.fn 26 [.addr 1]])]⟩
def zdQ:CE:=⟨36,zdj,zdi,fun X=>ze7 X.1 X.2⟩
theorem zhk:CE.ok Try.prog zdQ:=CE.of (Γ:=[zhO]) (by kernel_rfl) zbt (GOK.cons zme (GOK.nil)) ⟨[(2,⟨⟨[(.int .i64),(.int .i64)],[(1,.fn 27 [.ptr 100000 0]),(8,.v 0)],[(100000,.box 58 [.fn 26 [.addr 1]])]⟩,[4,5,9,10,11,12,13,14,15,16,17,18],[],[],0,[]⟩)],[],[],[]⟩ Try.func36 rfl Try.ntmps36 (rs:=[.tmp 4]) rfl (sig:=zdj) (out:=zdi) rfl Try.call36 (fun X=>by kernel_rfl)

def zcl:Shape:=⟨[(.list (.list (.int .i64))),(.int .i64)],[(0,.v 0),(1,.fn 27 [.ptr 100000 0])],[(100000,.box 58 [.fn 26 [.addr 1]])]⟩
def zck:Shape:=⟨[.bool,(.int .i64)],[(0,.v 0)],[(100000,.box 58 [.fn 26 [.addr 1]])]⟩
def zcO:CE:=⟨24,zcl,zck,fun X=>zb6 X.1 X.2⟩
theorem zfQ:CE.ok Try.prog zcO:=CE.of (Γ:=[zdQ]) (by kernel_rfl) zbt (GOK.cons zhk (GOK.nil)) ⟨[],[],[],[]⟩ Try.func24 rfl Try.ntmps24 (rs:=[.tmp 4]) rfl (sig:=zcl) (out:=zck) rfl Try.call24 (fun X=>by kernel_rfl)

def zgP:Shape:=⟨[(.int .i64)],[(0,.v 0)],[]⟩
def zgO:Shape:=⟨[.bool],[(0,.v 0)],[]⟩
def zhP:CE:=⟨29,zgP,zgO,fun X=>zef X⟩
theorem zmf:CE.ok Try.prog zhP:=CE.of (Γ:=[]) (by kernel_rfl) zbt (GOK.nil) ⟨[],[],[],[]⟩ Try.func29 rfl Try.ntmps29 (rs:=[.tmp 2]) rfl (sig:=zgP) (out:=zgO) rfl Try.call29 (fun X=>by kernel_rfl)

def zdn:Shape:=⟨[(.list (.int .i64))],[(0,.v 0),(1,.fn 29 [])],[]⟩
def zdm:Shape:=⟨[(.int .i64)],[(0,.v 0)],[]⟩
def zdS:CE:=⟨37,zdn,zdm,fun X=>ze9 X⟩
theorem zhm:CE.ok Try.prog zdS:=CE.of (Γ:=[zhP]) (by kernel_rfl) zbt (GOK.cons zmf (GOK.nil)) ⟨[(2,⟨⟨[(.int .i64)],[(8,.v 0)],[]⟩,[4,5,9,10,11,12,13,14,15,16,17,18],[],[],0,[]⟩)],[],[],[]⟩ Try.func37 rfl Try.ntmps37 (rs:=[.tmp 4]) rfl (sig:=zdn) (out:=zdm) rfl Try.call37 (fun X=>by kernel_rfl)

def zcp:Shape:=⟨[(.list (.int .i64))],[(0,.v 0),(1,.fn 29 [])],[]⟩
def zco:Shape:=⟨[.bool],[(0,.v 0)],[]⟩
def zcQ:CE:=⟨28,zcp,zco,fun X=>zb8 X⟩
theorem zfS:CE.ok Try.prog zcQ:=CE.of (Γ:=[zdS]) (by kernel_rfl) zbt (GOK.cons zhm (GOK.nil)) ⟨[],[],[],[]⟩ Try.func28 rfl Try.ntmps28 (rs:=[.tmp 4]) rfl (sig:=zcp) (out:=zco) rfl Try.call28 (fun X=>by kernel_rfl)

def ziE:Shape:=⟨[(.pair (.int .i64) (.pair (.int .i64) (.pair (.list (.list (.int .i64))) (.pair (.list (.int .i64)) .unit))))],[(0,.v 0)],[]⟩
def ziD:Shape:=⟨[(.int .i64)],[(0,.v 0)],[]⟩
def zj2:CE:=⟨15,ziE,ziD,fun X=>zgH X⟩
theorem zoa:CE.ok Try.prog zj2:=CE.of (Γ:=[zdh,zfd,zcO,zcQ]) (by kernel_rfl) zbt (GOK.cons zgD (GOK.cons zhN (GOK.cons zfQ (GOK.cons zfS (GOK.nil))))) ⟨[],[],[],[]⟩ Try.func15 rfl Try.ntmps15 (rs:=[.tmp 2]) rfl (sig:=ziE) (out:=ziD) rfl Try.call15 (fun X=>by kernel_rfl)

def zhL:Shape:=⟨[(.int .u64),(.int .u64)],[(0,.v 0),(1,.v 1)],[]⟩
def zhK:Shape:=⟨[(.int .u64),(.int .u64)],[(0,.v 0),(1,.v 1)],[]⟩
def ziA:CE:=⟨39,zhL,zhK,fun X=>zjx X.1 X.2⟩
theorem znb:CE.ok Try.prog ziA:=CE.of (Γ:=[]) (by kernel_rfl) zbt (GOK.nil) ⟨[],[],[],[]⟩ Try.func39 rfl Try.ntmps39 (rs:=[.tmp 4,.tmp 5]) rfl (sig:=zhL) (out:=zhK) rfl Try.call39 (fun X=>by kernel_rfl)

def zjZ:Shape:=⟨[(.int .u64),(.int .u64)],[(0,.v 0),(1,.v 1)],[]⟩
def zjY:Shape:=⟨[(.int .u64),(.int .u64)],[(0,.v 0),(1,.v 1)],[]⟩
def zk1:CE:=⟨30,zjZ,zjY,fun X=>zkH X.1 X.2⟩
theorem zo7:CE.ok Try.prog zk1:=CE.of (Γ:=[ziA]) (by kernel_rfl) zbt (GOK.cons znb (GOK.nil)) ⟨[],[],[],[]⟩ Try.func30 rfl Try.ntmps30 (rs:=[.tmp 4,.tmp 5]) rfl (sig:=zjZ) (out:=zjY) rfl Try.call30 (fun X=>by kernel_rfl)

def zf1:Shape:=⟨[(.list .str),(.int .i64)],[(0,.v 0),(1,.v 1)],[]⟩
def zf0:Shape:=⟨[(.list .str)],[(0,.own 0)],[(0,.arr 9 0)]⟩
def zgA:CE:=⟨16,zf1,zf0,fun X=>zd5 X.1 X.2⟩
theorem zkF:CE.ok Try.prog zgA:=CE.of (Γ:=[zk1]) (by kernel_rfl) zbt (GOK.cons zo7 (GOK.nil)) ⟨[(8,⟨⟨[(.int .i64),(.list .str)],[(7,.own 0),(8,.v 0)],[(0,.arr 9 1)]⟩,[30,31,34,35,36,37,38,39,40,41,42,43,44,45,46],[],[],1,[]⟩)],[],[(9,[(0,0),(0,1),(0,2),(0,3),(0,4),(0,5),(0,6),(2,7),(0,8),(0,9)])],[]⟩ Try.func16 rfl Try.ntmps16 (rs:=[.tmp 4]) rfl (sig:=zf1) (out:=zf0) rfl Try.call16 (fun X=>by kernel_rfl)

def zgv:Shape:=⟨[.str,.str],[(0,.v 0),(1,.v 1)],[]⟩
def zgu:Shape:=⟨[.str],[(0,.v 0)],[]⟩
def zhg:CE:=⟨17,zgv,zgu,fun X=>zdO X.1 X.2⟩
theorem zl0:CE.ok Try.prog zhg:=CE.of (Γ:=[]) (by kernel_rfl) zbt (GOK.nil) ⟨[],[],[],[]⟩ Try.func17 rfl Try.ntmps17 (rs:=[.tmp 4]) rfl (sig:=zgv) (out:=zgu) rfl Try.call17 (fun X=>by kernel_rfl)

def zex:Shape:=⟨[.str],[(0,.v 0)],[]⟩
def zew:Shape:=⟨[.str],[(0,.v 0)],[]⟩
def zc5:CE:=⟨31,zex,zew,fun X=>zbB X⟩
theorem ze2:CE.ok Try.prog zc5:=CE.of (Γ:=[]) (by kernel_rfl) zbt (GOK.nil) ⟨[],[],[],[]⟩ Try.func31 rfl Try.ntmps31 (rs:=[.tmp 2]) rfl (sig:=zex) (out:=zew) rfl Try.call31 (fun X=>by kernel_rfl)

def zgt:Shape:=⟨[.str],[(0,.v 0)],[]⟩
def zgs:Shape:=⟨[.str],[(0,.v 0)],[]⟩
def zhf:CE:=⟨18,zgt,zgs,fun X=>ze3 X⟩
theorem zlZ:CE.ok Try.prog zhf:=CE.of (Γ:=[zc5]) (by kernel_rfl) zbt (GOK.cons ze2 (GOK.nil)) ⟨[],[],[],[]⟩ Try.func18 rfl Try.ntmps18 (rs:=[.tmp 2]) rfl (sig:=zgt) (out:=zgs) rfl Try.call18 (fun X=>by kernel_rfl)

def zfN:Shape:=⟨[.str,.str],[(0,.v 0),(1,.v 1)],[]⟩
def zfM:Shape:=⟨[.str],[(0,.v 0)],[]⟩
def zgw:CE:=⟨19,zfN,zfM,fun X=>zc6 X.1 X.2⟩
theorem zkE:CE.ok Try.prog zgw:=CE.of (Γ:=[zc5]) (by kernel_rfl) zbt (GOK.cons ze2 (GOK.nil)) ⟨[],[],[],[]⟩ Try.func19 rfl Try.ntmps19 (rs:=[.tmp 4]) rfl (sig:=zfN) (out:=zfM) rfl Try.call19 (fun X=>by kernel_rfl)

def zgr:Shape:=⟨[(.pair (.int .i64) (.pair (.int .i64) (.pair (.list (.list (.int .i64))) (.pair (.list (.int .i64)) .unit))))],[(0,.v 0)],[]⟩
def zgq:Shape:=⟨[.str,(.int .i64)],[(0,.v 0),(1,.v 1)],[]⟩
def zhe:CE:=⟨5,zgr,zgq,fun X=>zbD X⟩
theorem zlY:CE.ok Try.prog zhe:=CE.of (Γ:=[zj2,zgA,zhg,zhf,zgw]) (by kernel_rfl) zbt (GOK.cons zoa (GOK.cons zkF (GOK.cons zl0 (GOK.cons zlZ (GOK.cons zkE (GOK.nil)))))) ⟨[(9,⟨⟨[(.int .i64),(.list (.list .str))],[(6,.own 1),(32,.v 0)],[(1,.out 2 44 9 1)]⟩,[7,29,30,33,34,35,36,37,38,39,40,41,42],[],[0],3,[]⟩),(15,⟨⟨[(.int .i64),(.list (.list .str))],[(6,.own 1),(53,.v 0)],[(1,.out 2 44 9 1)]⟩,[8,9,10,11,43,45,46,49,54,55,56,57,58,59,60,61,62,63,64,65,66,67,68,69,70,71,72,73,74,75,76,77,78,79,80,81,82,83,84,85,86,87,88,89,90,91,92,93,94,95,96,97],[],[0],3,[]⟩),(18,⟨⟨[(.int .i64),(.list (.list .str))],[(6,.own 1),(60,.v 0)],[(1,.out 2 44 9 1)]⟩,[10,11,61,62,63,64,65,66,67,68,69,70,71,72,73,74,75,76,77,78,79,80,81,82,83],[],[0],3,[]⟩),(26,⟨⟨[(.int .i64),(.list (.list .str))],[(6,.own 1),(99,.v 0)],[(1,.out 2 44 9 1)]⟩,[12,13,14,15,16,100,101,102,103,104,105,106,107,108,109,110,111,112,113,114,115,116,117,118,119,120,121,122,123,124,125,126,127,128,129,130,131,132,133,134,135,136,137,138,139,140,141,142,143,144,145,146,147,148,149,150,151,152,153,154,155,156,157,158,159,160,161,162,163,164,165,166,167,168,169,170,171,172,173,174,175,176,177,178,179],[],[0],3,[]⟩),(30,⟨⟨[(.int .i64),(.list (.list .str))],[(6,.own 1),(112,.v 0)],[(1,.out 2 44 9 1)]⟩,[14,15,102,104,105,107,110,113,114,115,116,117,118,119,120,121,122,123,124,125,126,127,128,129,130,131,132,133,134,135,136,137,138,139,140,141,142,143,144,145,146,147,148,149,150,151,152,153,154,155,156,157,158,159,160],[],[0],3,[]⟩),(33,⟨⟨[(.int .i64),(.list (.list .str))],[(6,.own 1),(117,.v 0)],[(1,.out 2 44 9 1)]⟩,[15,115,118,119,120,121,122,123,124,125,126,127,128,129,130,131,132,133,134,135,136,137,138,139,140,141,142,143,144,145,146,147,148,149,150,151,152,153,154,155,156,157,158,159],[],[0],3,[]⟩),(40,⟨⟨[(.int .i64),(.list (.list .str))],[(6,.own 1),(163,.v 0)],[(1,.out 2 44 9 1)]⟩,[16,161,164,165,166,167,168,169,170,171,172,173,174,175,176,177,178],[],[0],3,[]⟩)],[(35,⟨⟨[.bool],[(127,.v 0)],[]⟩,[120,121,122,123,124,125,126],[],[0,1,2],3,[]⟩)],[(7,[(0,0),(0,1),(4,2),(0,3)]),(11,[(0,0),(0,1),(2,2),(0,3),(0,4),(2,5),(0,6),(4,7)]),(13,[(0,0),(0,1),(0,2),(0,3),(0,4),(0,5),(0,6),(4,7)]),(20,[(0,0),(0,1),(0,2),(0,3),(0,4),(0,5),(0,6),(0,7),(0,8),(0,9),(0,10),(0,11),(0,12),(0,13),(0,14),(0,15),(1,16),(0,17),(4,18)]),(23,[(0,0),(0,1),(0,2),(0,3),(0,4),(0,5),(0,6),(4,7)]),(36,[(0,0),(0,1),(0,2),(0,3),(0,4),(0,5),(0,6),(0,7),(0,8),(0,9),(0,10),(0,11),(0,12),(0,13),(0,14),(0,15),(0,16),(0,17),(0,18),(0,19),(0,21),(0,22),(0,23),(0,24),(0,25),(0,26),(0,27),(1,20),(1,28),(1,29),(0,30),(4,31)]),(42,[(0,0),(0,1),(0,2),(0,3),(0,4),(0,5),(0,6),(0,7),(0,8),(0,9),(0,10),(4,11),(0,12),(4,13)])],[]⟩ Try.func5 rfl Try.ntmps5 (rs:=[.tmp 2,.tmp 3]) rfl (sig:=zgr) (out:=zgq) rfl Try.call5 (fun X=>by kernel_rfl)

def zlW:Shape:=⟨[(.pair (.int .i64) (.pair (.int .i64) (.pair (.list (.list (.int .i64))) (.pair (.list (.int .i64)) .unit)))),(.pair (.int .i64) (.pair (.int .i64) (.pair (.list (.list (.int .i64))) (.pair (.list (.int .i64)) .unit))))],[(0,.v 0),(1,.v 1)],[]⟩
def zlV:Shape:=⟨[.bool],[(0,.v 0)],[]⟩
def zmW:CE:=⟨6,zlW,zlV,fun X=>zlS X.1 X.2⟩
theorem zqW:CE.ok Try.prog zmW:=CE.of (Γ:=[]) (by kernel_rfl) zbt (GOK.nil) ⟨[(4,⟨⟨[(.int .i64)],[(5,.v 0)],[]⟩,[4,38,39,40,41,42,43,44,45,46,47,48,49,50,51,52,53,54,55],[],[0,1],2,[]⟩),(9,⟨⟨[(.int .i64)],[(6,.v 0)],[]⟩,[4,7,56,57,58,59,60,61,62,63,64,65,66,67,68,69,70,71,72,73,74,75,76,77,78,79,80,81,82,83,84,85,86,87,88,89,90,91,92,93,94,95,96,97,98,99,100,101,102],[],[0,1],2,[]⟩),(14,⟨⟨[(.int .i64)],[(7,.v 0)],[]⟩,[4,76,77,78,79,80,81,82,83,84,85,86,87,88,89,90,91,92,93,94,95,96,97,98,99,100,101,102],[],[0,1],2,[]⟩)],[],[(6,[(0,0),(0,1),(0,2),(0,3),(0,4),(0,5),(0,6),(0,7),(0,8),(0,9),(0,10)]),(11,[(0,0),(0,1),(0,2),(0,3),(0,4),(0,5),(0,6),(0,7),(0,8),(0,9),(0,10),(0,11),(0,12)]),(16,[(0,0),(0,1),(0,2),(0,3),(0,4),(0,5),(0,6),(0,7),(0,8),(0,9),(0,10),(0,11),(0,12),(0,13),(0,14),(0,15),(0,16)])],[]⟩ Try.func6 rfl Try.ntmps6 (rs:=[.tmp 4]) rfl (sig:=zlW) (out:=zlV) rfl Try.call6 (fun X=>by kernel_rfl)

def zko:Shape:=⟨[(.pair (.int .i64) (.pair (.int .i64) (.pair (.list (.list (.int .i64))) (.pair (.list (.int .i64)) .unit))))],[(0,.v 0)],[]⟩
def zkn:Shape:=⟨[(.int .i64)],[(0,.v 0)],[]⟩
def zlR:CE:=⟨7,zko,zkn,fun X=>zjn X⟩
theorem zpC:CE.ok Try.prog zlR:=CE.of (Γ:=[]) (by kernel_rfl) zbt (GOK.nil) ⟨[(9,⟨⟨[(.int .i64)],[(4,.v 0)],[]⟩,[2,30,31,32,33,34,35,36,37,38,39,40,41,42,43],[],[0],1,[]⟩),(16,⟨⟨[(.int .i64)],[(5,.v 0)],[]⟩,[2,6,53,54,55,56,57,58,59,60,61,62,63,64,65,66,67,68,69,70,71,72,73,74,75,76,77,78,79,80,81,82,83,84],[],[0],1,[]⟩),(19,⟨⟨[(.int .i64)],[(6,.v 0)],[]⟩,[2,58,59,60,61,62,63,64,65,66,67,68,69,70,71,72,73,74,75,76,77,78,79,80,81,82,83,84],[],[0],1,[]⟩),(24,⟨⟨[(.int .i64)],[(7,.v 0)],[]⟩,[2,85,86,87,88,89,90,91,92,93,94,95,96,97,98,99,100,101,102,103],[],[0],1,[]⟩)],[],[(11,[(0,0),(0,1),(0,2),(0,3),(0,4),(0,5),(0,6),(0,7),(0,8)])],[]⟩ Try.func7 rfl Try.ntmps7 (rs:=[.tmp 2]) rfl (sig:=zko) (out:=zkn) rfl Try.call7 (fun X=>by kernel_rfl)

def zgf:Shape:=⟨[(.pair .str (.pair (.int .i64) (.pair (.int .i64) (.pair (.list (.pair (.int .i64) (.pair (.int .i64) (.pair (.list (.int .i64)) .unit)))) (.pair (.pair (.int .i64) (.pair (.int .i64) .unit)) .unit)))))],[(0,.addr 0)],[]⟩
def zge:Shape:=⟨[.bool],[(0,.v 0)],[]⟩
def zbY:CE:=⟨34,zgf,zge,fun X=>zbX X⟩
theorem zc0:CE.ok Try.prog zbY:=CE.of (Γ:=[]) (by kernel_rfl) zbt (GOK.nil) ⟨[],[],[],[]⟩ Try.func34 rfl Try.ntmps34 (rs:=[.tmp 2]) rfl (sig:=zgf) (out:=zge) rfl Try.call34 (fun X=>by kernel_rfl)

def zfB:Shape:=⟨[(.pair .str (.pair (.int .i64) (.pair (.int .i64) (.pair (.list (.pair (.int .i64) (.pair (.int .i64) (.pair (.list (.int .i64)) .unit)))) (.pair (.pair (.int .i64) (.pair (.int .i64) .unit)) .unit)))))],[(0,.addr 0)],[]⟩
def zfA:Shape:=⟨[(.int .u8)],[(0,.v 0)],[]⟩
def zbR:CE:=⟨33,zfB,zfA,fun X=>zbn X⟩
theorem zcs:CE.ok Try.prog zbR:=CE.of (Γ:=[]) (by kernel_rfl) zbt (GOK.nil) ⟨[],[],[(1,[(0,0),(0,1),(0,2),(0,3),(0,4),(0,5),(0,6),(0,7),(0,8),(0,9)]),(3,[(0,0),(0,1),(0,2),(0,3),(0,4),(0,5),(0,6),(0,7),(0,8),(0,9)])],[]⟩ Try.func33 rfl Try.ntmps33 (rs:=[.tmp 2]) rfl (sig:=zfB) (out:=zfA) rfl Try.call33 (fun X=>by kernel_rfl)

def zfG:Shape:=⟨[(.pair (.int .i64) (.pair (.int .i64) (.pair (.list (.int .i64)) .unit))),.str,(.int .i64),(.int .i64),(.int .i64),(.int .i64),(.list (.pair (.int .i64) (.pair (.int .i64) (.pair (.list (.int .i64)) .unit))))],[(0,.ptr 100000 0),(1,.v 0)],[(100000,.box 50 [.v 1,.v 2,.v 3,.own 100001,.v 4,.v 5]),(100001,.arr 67 6)]⟩
def zfF:Shape:=⟨[(.int .i64),.str,(.int .i64),(.int .i64),(.list (.pair (.int .i64) (.pair (.int .i64) (.pair (.list (.int .i64)) .unit)))),(.int .i64),(.int .i64)],[(0,.v 0)],[(100000,.box 50 [.v 1,.v 2,.v 3,.own 80,.v 5,.v 6]),(80,.arr 67 4)]⟩
def zbS:CE:=⟨35,zfG,zfF,fun X=>zbe X.1 X.2.1 X.2.2.1 X.2.2.2.1 X.2.2.2.2.1 X.2.2.2.2.2.1 X.2.2.2.2.2.2⟩
theorem zct:CE.ok Try.prog zbS:=CE.of (Γ:=[]) (by kernel_rfl) zbt (GOK.nil) ⟨[],[],[(1,[(0,0),(0,1),(0,2),(0,3),(0,4),(0,5),(1,6),(2,7),(0,8),(0,9),(2,10)])],[]⟩ Try.func35 rfl Try.ntmps35 (rs:=[.tmp 4]) rfl (sig:=zfG) (out:=zfF) rfl Try.call35 (fun X=>by kernel_rfl)

def zeP:Shape:=⟨[(.int .i64),.str,(.int .i64),(.int .i64),(.int .i64),(.int .i64),(.list (.pair (.int .i64) (.pair (.int .i64) (.pair (.list (.int .i64)) .unit))))],[(0,.ptr 100000 0),(1,.v 0)],[(100000,.box 50 [.v 1,.v 2,.v 3,.own 100001,.v 4,.v 5]),(100001,.arr 67 6)]⟩
def zeO:Shape:=⟨[.str,(.int .i64),(.int .i64),(.list (.pair (.int .i64) (.pair (.int .i64) (.pair (.list (.int .i64)) .unit)))),(.int .i64),(.int .i64)],[],[(100000,.box 50 [.v 0,.v 1,.v 2,.own 80,.v 4,.v 5]),(80,.arr 67 3)]⟩
def zdv:CE:=⟨21,zeP,zeO,fun X=>zci X.1 X.2.1 X.2.2.1 X.2.2.2.1 X.2.2.2.2.1 X.2.2.2.2.2.1 X.2.2.2.2.2.2⟩
theorem zfz:CE.ok Try.prog zdv:=CE.of (Γ:=[]) (by kernel_rfl) zbt (GOK.nil) ⟨[],[],[],[]⟩ Try.func21 rfl Try.ntmps21 (rs:=[]) rfl (sig:=zeP) (out:=zeO) rfl Try.call21 (fun X=>by kernel_rfl)

def zao:Shape:=⟨[.str,(.int .i64),(.int .i64),(.int .i64),(.int .i64),(.list (.pair (.int .i64) (.pair (.int .i64) (.pair (.list (.int .i64)) .unit))))],[(0,.ptr 100000 0)],[(100000,.box 50 [.v 0,.v 1,.v 2,.own 100001,.v 3,.v 4]),(100001,.arr 67 5)]⟩
def zan:Shape:=⟨[(.int .i64),.str,(.int .i64),(.int .i64),(.list (.pair (.int .i64) (.pair (.int .i64) (.pair (.list (.int .i64)) .unit)))),(.int .i64),(.int .i64)],[(0,.v 0)],[(100000,.box 50 [.v 1,.v 2,.v 3,.own 80,.v 5,.v 6]),(80,.arr 67 4)]⟩
def zeU:CE:=⟨20,zao,zan,LFix zcd⟩
def zeS:Shape:=⟨[.str,(.int .i64),(.int .i64),(.int .i64),(.int .i64),(.list (.pair (.int .i64) (.pair (.int .i64) (.pair (.list (.int .i64)) .unit))))],[(0,.ptr 100000 0)],[(100000,.box 50 [.v 0,.v 1,.v 2,.own 100001,.v 3,.v 4]),(100001,.arr 67 5)]⟩
def zeR:Shape:=⟨[(.int .i64),.str,(.int .i64),(.int .i64),(.list (.pair (.int .i64) (.pair (.int .i64) (.pair (.list (.int .i64)) .unit)))),(.int .i64),(.int .i64)],[(0,.v 0)],[(100000,.box 50 [.v 1,.v 2,.v 3,.own 80,.v 5,.v 6]),(80,.arr 67 4)]⟩
def zfE (rec:Tup zao.tys->Option (Tup zan.tys)):CE:=⟨41,zeS,zeR,fun X=>zaK (fun c c_1 c_2 c_3 c_4 l=>rec (c,c_1,c_2,c_3,c_4,l)) X.1 X.2.1 X.2.2.1 X.2.2.2.1 X.2.2.2.2.1 X.2.2.2.2.2⟩
theorem zjO (rec:Tup zao.tys->Option (Tup zan.tys)) (hrec:CE.ok Try.prog ⟨20,zao,zan,rec⟩):CE.ok Try.prog (zfE rec):=CE.of (Γ:=[zbS,zdv,⟨20,zao,zan,rec⟩,zbY,zbR]) (by kernel_rfl) zbt (GOK.cons zct (GOK.cons zfz (GOK.cons hrec (GOK.cons zc0 (GOK.cons zcs (GOK.nil)))))) ⟨[],[(11,⟨⟨[.bool],[(41,.v 0)],[]⟩,[36,37,38,39,40],[],[],0,[]⟩),(25,⟨⟨[.str,(.int .i64),(.int .i64),(.int .i64),(.int .i64),(.list (.pair (.int .i64) (.pair (.int .i64) (.pair (.list (.int .i64)) .unit))))],[(0,.ptr 100000 0)],[(100000,.box 50 [.v 0,.v 1,.v 2,.own 81,.v 3,.v 4]),(81,.arr 67 5)]⟩,[84,85,86,87],[80],[],82,[]⟩)],[],[]⟩ Try.func41 rfl Try.ntmps41 (rs:=[.tmp 2]) rfl (sig:=zeS) (out:=zeR) rfl Try.call41 (fun X=>by kernel_rfl)
def zfD:Shape:=⟨[.str,(.int .i64),(.int .i64),(.int .i64),(.int .i64),(.list (.pair (.int .i64) (.pair (.int .i64) (.pair (.list (.int .i64)) .unit))))],[(0,.ptr 100000 0)],[(100000,.box 50 [.v 0,.v 1,.v 2,.own 100001,.v 3,.v 4]),(100001,.arr 67 5)]⟩
def zfC:Shape:=⟨[(.int .i64),.str,(.int .i64),(.int .i64),(.list (.pair (.int .i64) (.pair (.int .i64) (.pair (.list (.int .i64)) .unit)))),(.int .i64),(.int .i64)],[(0,.v 0)],[(100000,.box 50 [.v 1,.v 2,.v 3,.own 80,.v 5,.v 6]),(80,.arr 67 4)]⟩
def zgg (rec:Tup zao.tys->Option (Tup zan.tys)):CE:=⟨40,zfD,zfC,fun X=>zbd (fun c c_1 c_2 c_3 c_4 l=>rec (c,c_1,c_2,c_3,c_4,l)) X.1 X.2.1 X.2.2.1 X.2.2.2.1 X.2.2.2.2.1 X.2.2.2.2.2⟩
theorem zkA (rec:Tup zao.tys->Option (Tup zan.tys)) (hrec:CE.ok Try.prog ⟨20,zao,zan,rec⟩):CE.ok Try.prog (zgg rec):=CE.of (Γ:=[zfE rec,zbS,zbR,zbY]) (by kernel_rfl) zbt (GOK.cons (zjO rec hrec) (GOK.cons zct (GOK.cons zcs (GOK.cons zc0 (GOK.nil))))) ⟨[(2,⟨⟨[(.int .i64),.str,(.int .i64),(.int .i64),(.int .i64),(.int .i64),(.list (.pair (.int .i64) (.pair (.int .i64) (.pair (.list (.int .i64)) .unit))))],[(0,.ptr 100000 0),(3,.v 0)],[(100000,.box 50 [.v 1,.v 2,.v 3,.own 80,.v 4,.v 5]),(80,.arr 67 6)]⟩,[4,5,8,9,10,11,12,13,14,15,16,17,18,19,20,21,22,23,24,25,26,27,28,29],[],[],81,[]⟩)],[],[],[]⟩ Try.func40 rfl Try.ntmps40 (rs:=[.tmp 2]) rfl (sig:=zfD) (out:=zfC) rfl Try.call40 (fun X=>by kernel_rfl)
def zfI:Shape:=⟨[.str,(.int .i64),(.int .i64),(.int .i64),(.int .i64),(.list (.pair (.int .i64) (.pair (.int .i64) (.pair (.list (.int .i64)) .unit))))],[(0,.ptr 100000 0)],[(100000,.box 50 [.v 0,.v 1,.v 2,.own 100001,.v 3,.v 4]),(100001,.arr 67 5)]⟩
def zfH:Shape:=⟨[(.int .i64),.str,(.int .i64),(.int .i64),(.list (.pair (.int .i64) (.pair (.int .i64) (.pair (.list (.int .i64)) .unit)))),(.int .i64),(.int .i64)],[(0,.v 0)],[(100000,.box 50 [.v 1,.v 2,.v 3,.own 80,.v 5,.v 6]),(80,.arr 67 4)]⟩
def zgi (rec:Tup zao.tys->Option (Tup zan.tys)):CE:=⟨32,zfI,zfH,fun X=>zbo (fun c c_1 c_2 c_3 c_4 l=>rec (c,c_1,c_2,c_3,c_4,l)) X.1 X.2.1 X.2.2.1 X.2.2.2.1 X.2.2.2.2.1 X.2.2.2.2.2⟩
theorem zkB (rec:Tup zao.tys->Option (Tup zan.tys)) (hrec:CE.ok Try.prog ⟨20,zao,zan,rec⟩):CE.ok Try.prog (zgi rec):=CE.of (Γ:=[zgg rec,zbS,zbR,zbY]) (by kernel_rfl) zbt (GOK.cons (zkA rec hrec) (GOK.cons zct (GOK.cons zcs (GOK.cons zc0 (GOK.nil))))) ⟨[(3,⟨⟨[.str,(.int .i64),(.int .i64),(.int .i64),(.int .i64),(.list (.int .i64)),(.list (.pair (.int .i64) (.pair (.int .i64) (.pair (.list (.int .i64)) .unit))))],[(0,.ptr 100000 0),(4,.own 81)],[(100000,.box 50 [.v 0,.v 1,.v 2,.own 80,.v 3,.v 4]),(81,.arr 3 5),(80,.arr 67 6)]⟩,[3,5,6,7,11,12,13,14,15,16,17,18,19,20,21,22,23,24,25,26,27,28,29,30,31,32,33,34,35,36,37,38,39,40,41,42,43,44,45],[],[],82,[]⟩)],[(5,⟨⟨[.bool],[(7,.v 0)],[]⟩,[16,17,18,19,20,21,22,23,24,25,26,27,28,29,30,31,32,33],[],[80,81],82,[]⟩),(8,⟨⟨[.str,(.int .i64),(.int .i64),(.int .i64),(.int .i64),(.list (.int .i64)),(.list (.pair (.int .i64) (.pair (.int .i64) (.pair (.list (.int .i64)) .unit))))],[(0,.ptr 100000 0),(4,.own 81)],[(100000,.box 50 [.v 0,.v 1,.v 2,.own 80,.v 3,.v 4]),(81,.arr 3 5),(80,.arr 67 6)]⟩,[3,5,6,7,11,12,13,14,15,16,17,18,19,20,21,22,23,24,25,26,27,28,29,30,31,32,33,34,35,36,37,38,39,40,41,42,43,44,45],[],[],82,[]⟩)],[],[]⟩ Try.func32 rfl Try.ntmps32 (rs:=[.tmp 2]) rfl (sig:=zfI) (out:=zfH) rfl Try.call32 (fun X=>by kernel_rfl)
theorem zjd:CE.ok Try.prog zeU:=CE.ofRecM (Γ:=fun rec=>[zgi rec,zbS,zbR,zbY]) (by kernel_rfl) zbt ⟨[(3,⟨⟨[.str,(.int .i64),(.int .i64),(.int .i64),(.int .i64),(.list (.int .i64)),(.list (.pair (.int .i64) (.pair (.int .i64) (.pair (.list (.int .i64)) .unit))))],[(0,.ptr 100000 0),(4,.own 81)],[(100000,.box 50 [.v 0,.v 1,.v 2,.own 80,.v 3,.v 4]),(81,.arr 3 5),(80,.arr 67 6)]⟩,[3,5,6,10,11,12,13,14,15,16,17,18,19,20,21,22,23,24,25,26,27,28,29,30,31,32,33],[],[],82,[]⟩)],[(8,⟨⟨[.str,(.int .i64),(.int .i64),(.int .i64),(.int .i64),(.list (.int .i64)),(.list (.pair (.int .i64) (.pair (.int .i64) (.pair (.list (.int .i64)) .unit))))],[(0,.ptr 100000 0),(4,.own 81)],[(100000,.box 50 [.v 0,.v 1,.v 2,.own 80,.v 3,.v 4]),(81,.arr 3 5),(80,.arr 67 6)]⟩,[3,5,6,10,11,12,13,14,15,16,17,18,19,20,21,22,23,24,25,26,27,28,29,30,31,32,33],[],[],82,[]⟩)],[],[]⟩ Try.func20 rfl Try.ntmps20 (rs:=[.tmp 2]) rfl (sig:=zao) (out:=zan) rfl (fun rec hrec=>(GOK.cons (zkB rec hrec) (GOK.cons zct (GOK.cons zcs (GOK.cons zc0 (GOK.nil)))))) Try.call20 (d:=zcd) (fun rc X=>by kernel_rfl)
def zkj:Shape:=⟨[.str],[(0,.v 0)],[]⟩
def zki:Shape:=⟨[(.pair (.int .i64) (.pair (.int .i64) .unit)),(.list (.pair (.int .i64) (.pair (.int .i64) (.pair (.list (.int .i64)) .unit))))],[(0,.own 0),(1,.v 0)],[(0,.arr 67 1)]⟩
def zlJ:CE:=⟨8,zkj,zki,fun X=>zkT X⟩
theorem zpA:CE.ok Try.prog zlJ:=CE.of (Γ:=[zeU,zdv]) (by kernel_rfl) zbt (GOK.cons zjd (GOK.cons zfz (GOK.nil))) ⟨[],[],[(8,[(0,0),(0,1),(0,2),(0,3),(0,4),(2,5)])],[]⟩ Try.func8 rfl Try.ntmps8 (rs:=[.tmp 2,.cell 3 34]) rfl (sig:=zkj) (out:=zki) rfl Try.call8 (fun X=>by kernel_rfl)

def zkm:Shape:=⟨[(.pair (.int .i64) (.pair (.int .i64) (.pair (.list (.list (.int .i64))) (.pair (.list (.int .i64)) .unit)))),(.int .i64),(.list (.int .i64))],[(0,.v 0),(1,.v 1),(2,.v 2)],[]⟩
def zkl:Shape:=⟨[(.int .i64)],[(0,.v 0)],[]⟩
def zlN:CE:=⟨22,zkm,zkl,fun X=>znS X.1 X.2.1 X.2.2⟩
theorem zpB:CE.ok Try.prog zlN:=CE.of (Γ:=[]) (by kernel_rfl) zbt (GOK.nil) ⟨[(2,⟨⟨[(.int .i64),(.int .i64)],[(1,.v 0),(7,.v 1)],[]⟩,[8,9,10,11,12,13,14,15,16,17,18,19,20,21,22,23,24],[],[0],1,[]⟩)],[],[(4,[(0,0),(0,1),(0,2),(0,3),(0,4),(0,5),(0,6),(0,7),(0,8),(0,9),(0,10),(0,11)])],[]⟩ Try.func22 rfl Try.ntmps22 (rs:=[.tmp 6]) rfl (sig:=zkm) (out:=zkl) rfl Try.call22 (fun X=>by kernel_rfl)

def zhY:Shape:=⟨[(.pair (.int .i64) (.pair (.int .i64) (.pair (.list (.list (.int .i64))) (.pair (.list (.int .i64)) .unit)))),(.list (.int .i64))],[(0,.v 0),(1,.v 1)],[]⟩
def zhX:Shape:=⟨[.bool],[(0,.v 0)],[]⟩
def zjl:CE:=⟨9,zhY,zhX,fun X=>zeb X.1 X.2⟩
theorem znR:CE.ok Try.prog zjl:=CE.of (Γ:=[zlN]) (by kernel_rfl) zbt (GOK.cons zpB (GOK.nil)) ⟨[],[],[],[]⟩ Try.func9 rfl Try.ntmps9 (rs:=[.tmp 4]) rfl (sig:=zhY) (out:=zhX) rfl Try.call9 (fun X=>by kernel_rfl)

def zlM:Shape:=⟨[(.list (.pair (.int .i64) (.pair (.int .i64) (.pair (.list (.int .i64)) .unit)))),(.int .i64),(.list (.int .i64)),(.list .bool)],[(0,.v 0),(1,.v 1),(2,.v 2),(3,.v 3)],[]⟩
def zlL:Shape:=⟨[(.list .bool)],[(0,.own 0)],[(0,.arr 4 0)]⟩
def zmV:CE:=⟨23,zlM,zlL,LFix zje⟩
theorem zqV:CE.ok Try.prog zmV:=CE.ofRec (Γ:=[]) (by kernel_rfl) zbt (GOK.nil) ⟨[(8,⟨⟨[(.int .i64),(.list .bool)],[(10,.own 1),(11,.v 0)],[(1,.arr 4 1)]⟩,[25,35,36,37,38,39,40,41,42,43,44,45,46,47,48,49,50,51,52,53,54,55,56,57],[],[0],2,[]⟩),(13,⟨⟨[(.int .i64),(.list .bool)],[(10,.own 1),(12,.v 0)],[(1,.arr 4 1)]⟩,[13,14,25,60,61,62,63,64,65,66,67,68,69,70,71,72,73,74,75,76,77,78,79,80,81,82,83,84,85,86,87,88,89,90,91,92,93,94],[],[0],2,[]⟩),(17,⟨⟨[(.int .i64),(.list .bool)],[(10,.own 1),(14,.v 0)],[(1,.arr 4 1)]⟩,[76,77,78,79,80,81,82,83,84,85,86,87,88,89,90,91,92,93,94],[],[0,2],3,[]⟩),(23,⟨⟨[(.int .i64),(.list .bool)],[(10,.own 1),(15,.v 0)],[(1,.arr 4 1)]⟩,[25,97,100,101,102,103,104,105,106,107,108,109,110,111,112,113,114,115],[],[0],2,[]⟩),(29,⟨⟨[.bool,(.list .bool)],[(10,.own 1),(16,.v 0)],[(1,.arr 4 1)]⟩,[17,18,25,118,121,122,123,124,125,126,127,128,129,130,131,132,133,134,135,136,137,138,139,140,141,142,143,144,145,146,147,148,149,150,151,152,153,154,155,156,157,158,159,160,161,162],[],[0],2,[]⟩),(33,⟨⟨[.bool,(.int .i64),(.list .bool)],[(10,.own 1),(16,.v 0),(18,.v 1)],[(1,.arr 4 2)]⟩,[128,130,131,132,133,134,135,136,137,138,139,140,141,142,143,144,145,146,147,148,149,150,151,152,153,154,155,156,157,158,159,160,161,162],[],[0,2],3,[]⟩)],[(34,⟨⟨[(.list .bool)],[(10,.own 1)],[(1,.arr 4 0)]⟩,[11,12,13,14,15,16,17,18,25,26,27,28,29,30,31,32,33,34,35,36,37,38,39,40,41,42,43,44,45,46,47,48,49,50,51,52,53,54,55,56,57,58,59,60,61,62,63,64,65,66,67,68,69,70,71,72,73,74,75,76,77,78,79,80,81,82,83,84,85,86,87,88,89,90,91,92,93,94,95,96,97,98,99,100,101,102,103,104,105,106,107,108,109,110,111,112,113,114,115,116,117,118,119,120,121,122,123,124,125,126,127,128,129,130,131,132,133,134,135,136,137,138,139,140,141,142,143,144,145,146,147,148,149,150,151,152,153,154,155,156,157,158,159,160,161,162],[],[0],2,[]⟩),(35,⟨⟨[.bool],[(16,.v 0)],[]⟩,[136,137,138,139,140,141,142,143,144,145,146,147,148,149],[],[0,1,2],3,[]⟩)],[(10,[(0,0),(0,1),(0,2),(0,3),(0,4),(0,5),(0,6),(0,7),(0,8),(0,9),(0,10),(0,11),(0,12),(0,13),(0,14),(0,15),(0,16),(2,17)])],[]⟩ Try.func23 rfl Try.ntmps23 (rs:=[.tmp 8]) rfl (sig:=zlM) (out:=zlL) rfl Try.call23 (d:=zje) (fun rc X=>by kernel_rfl)

def zmU:Shape:=⟨[(.list (.pair (.int .i64) (.pair (.int .i64) (.pair (.list (.int .i64)) .unit)))),(.list (.int .i64))],[(0,.v 0),(1,.v 1)],[]⟩
def zmT:Shape:=⟨[.bool],[(0,.v 0)],[]⟩
def zoH:CE:=⟨10,zmU,zmT,fun X=>zmS X.1 X.2⟩
theorem zsm:CE.ok Try.prog zoH:=CE.of (Γ:=[zmV]) (by kernel_rfl) zbt (GOK.cons zqV (GOK.nil)) ⟨[],[],[],[]⟩ Try.func10 rfl Try.ntmps10 (rs:=[.tmp 4]) rfl (sig:=zmU) (out:=zmT) rfl Try.call10 (fun X=>by kernel_rfl)

def zlI:Shape:=⟨[(.int .i64),(.list (.int .i64))],[(0,.v 0),(1,.v 1)],[]⟩
def zlH:Shape:=⟨[(.list (.int .i64))],[(0,.own 0)],[(0,.arr 3 0)]⟩
def zmR:CE:=⟨11,zlI,zlH,fun X=>znO X.1 X.2⟩
theorem zqR:CE.ok Try.prog zmR:=CE.of (Γ:=[]) (by kernel_rfl) zbt (GOK.nil) ⟨[(3,⟨⟨[(.int .i64),(.list (.int .i64))],[(5,.own 1),(6,.v 0)],[(1,.arr 3 1)]⟩,[4,7,9,10,13,14,15,16,17,18,19,20,21,22,23,24,25,26,27,28,29,30,31,32,33],[],[],2,[]⟩)],[],[],[]⟩ Try.func11 rfl Try.ntmps11 (rs:=[.tmp 4]) rfl (sig:=zlI) (out:=zlH) rfl Try.call11 (fun X=>by kernel_rfl)

def zmQ:Shape:=⟨[(.int .i64),(.list (.int .i64))],[(0,.v 0),(1,.v 1)],[]⟩
def zmP:Shape:=⟨[(.int .i64)],[(0,.v 0)],[]⟩
def zoG:CE:=⟨12,zmQ,zmP,fun X=>zqh X.1 X.2⟩
theorem zsl:CE.ok Try.prog zoG:=CE.of (Γ:=[]) (by kernel_rfl) zbt (GOK.nil) ⟨[(6,⟨⟨[(.int .i64)],[(5,.v 0)],[]⟩,[4,15,16,17,18,19,20,21,22,23,24,25,26,27,28,29,30,31,32,33],[],[],0,[]⟩)],[],[],[]⟩ Try.func12 rfl Try.ntmps12 (rs:=[.tmp 4]) rfl (sig:=zmQ) (out:=zmP) rfl Try.call12 (fun X=>by kernel_rfl)

def zej:Shape:=⟨[(.pair (.int .i64) (.pair (.int .i64) (.pair (.list (.list (.int .i64))) (.pair (.list (.int .i64)) .unit)))),(.list (.int .i64))],[(0,.v 0),(1,.v 1)],[]⟩
def zei:Shape:=⟨[.bool],[(0,.v 0)],[]⟩
def zcX:CE:=⟨3,zej,zei,fun X=>zeh X.1 X.2⟩
theorem ziR:CE.ok Try.prog zcX:=CE.of (Γ:=[zj9,zhe,zmW,zlR,zlJ,zjl,zoH,zmR,zoG]) (by kernel_rfl) zbt (GOK.cons zov (GOK.cons zlY (GOK.cons zqW (GOK.cons zpC (GOK.cons zpA (GOK.cons znR (GOK.cons zsm (GOK.cons zqR (GOK.cons zsl (GOK.nil)))))))))) ⟨[(16,⟨⟨[(.int .i64),(.list (.int .i64))],[(12,.own 4),(13,.v 0)],[(4,.arr 3 1)]⟩,[4,14,15,62,63,64,65,66,67,68,69,70,71,72,73,74,75,76,77,78],[],[0,1,2,3],5,[]⟩)],[(5,⟨⟨[.bool],[(38,.v 0)],[]⟩,[31,32,33,34,35,36,37],[],[0,1],2,[]⟩),(6,⟨⟨[(.int .i64)],[(9,.v 0)],[]⟩,[31,32,33,34,35,36,37,38],[],[0,1],2,[]⟩)],[],[]⟩ Try.func3 rfl Try.ntmps3 (rs:=[.tmp 4]) rfl (sig:=zej) (out:=zei) rfl Try.call3 (fun X=>by kernel_rfl)

end
end Go.Proofs.Ytdkmmmmdmkoepaa.regularTextW
