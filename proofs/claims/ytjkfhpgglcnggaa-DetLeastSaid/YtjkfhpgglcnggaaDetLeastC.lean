/- That the functions of 'DetLeast' compute so. -/
import Derived.Test.YtjkfhpgglcnggaaDetLeastD
import Derived.Test.YtjkfhpgglcnggaaProg
import Derived.KernelRfl
set_option maxHeartbeats 1000000
set_option maxRecDepth 20000
set_option linter.unusedSimpArgs false
set_option linter.unusedVariables false
set_option linter.unusedSectionVars false
namespace Go.Proofs.Ytjkfhpgglcnggaa.detLeastW
open Go Go.Ab
noncomputable section
theorem zt4:SzT Try.prog 3 ((.int .i64)):=SzT.ofTI (dsc:=false) (size:=1) (bytes:=8) (z := .int .i64 0) (TI.of Try.underlying3 rfl (by kernel_rfl)) rfl rfl
theorem zvz:SzT Try.prog 9 (.str):=SzT.ofTI (dsc:=false) (size:=1) (bytes:=16) (z := .string ⟨⟨[]⟩⟩) (TI.of Try.underlying9 rfl (by kernel_rfl)) rfl rfl
theorem zuS:SzT Try.prog 44 ((.pair (.int .i64) (.pair (.int .i64) .unit))):=SzT.ofTI (dsc:=true) (size:=2) (bytes:=16) (z := .agg ⟨[.int .i64 0,.int .i64 0]⟩) (TI.of Try.underlying44 rfl (by kernel_rfl)) rfl rfl
theorem zu1:SzT Try.prog 69 ((.pair (.int .i64) (.pair .str .unit))):=SzT.ofTI (dsc:=true) (size:=2) (bytes:=24) (z := .agg ⟨[.int .i64 0,.string ⟨⟨[]⟩⟩]⟩) (TI.of Try.underlying69 rfl (by kernel_rfl)) rfl rfl
def te3:TE:=⟨3,.int .i64,false,1,8,.int .i64 0,some (.int .i64)⟩
theorem zvv:TEok Try.prog te3:=⟨TI.of Try.underlying3 rfl (by kernel_rfl),Try.underlying3,fun t h=>by cases h;exact ⟨rfl,rfl,by decide,rfl⟩⟩
def te4:TE:=⟨4,.bool,false,1,1,.bool false,some .bool⟩
theorem zvw:TEok Try.prog te4:=⟨TI.of Try.underlying4 rfl (by kernel_rfl),Try.underlying4,fun t h=>by cases h;exact ⟨rfl,rfl,by decide,rfl⟩⟩
def te5:TE:=⟨5,.int .u8,false,1,1,.int .u8 0,some (.int .u8)⟩
theorem zvx:TEok Try.prog te5:=⟨TI.of Try.underlying5 rfl (by kernel_rfl),Try.underlying5,fun t h=>by cases h;exact ⟨rfl,rfl,by decide,rfl⟩⟩
def te9:TE:=⟨9,.str,false,1,16,.string ⟨⟨[]⟩⟩,some .str⟩
theorem zvy:TEok Try.prog te9:=⟨TI.of Try.underlying9 rfl (by kernel_rfl),Try.underlying9,fun t h=>by cases h;exact ⟨rfl,rfl,by decide,rfl⟩⟩
def te22:TE:=⟨22,.slice 23,false,1,24,.slice none 0 0,some (.list (.list (.int .i64)))⟩
theorem zuN:TEok Try.prog te22:=⟨TI.of Try.underlying22 rfl (by kernel_rfl),Try.underlying22,fun t h=>by cases h;exact ⟨rfl,rfl,by decide,rfl⟩⟩
def te23:TE:=⟨23,.slice 3,false,1,24,.slice none 0 0,some (.list (.int .i64))⟩
theorem zuO:TEok Try.prog te23:=⟨TI.of Try.underlying23 rfl (by kernel_rfl),Try.underlying23,fun t h=>by cases h;exact ⟨rfl,rfl,by decide,rfl⟩⟩
def te25:TE:=⟨25,.struct [(0,3),(1,3),(2,22),(3,23)] none,true,4,64,.agg ⟨[.int .i64 0,.int .i64 0,.slice none 0 0,.slice none 0 0]⟩,some (.pair (.int .i64) (.pair (.int .i64) (.pair (.list (.list (.int .i64))) (.pair (.list (.int .i64)) .unit))))⟩
theorem zuP:TEok Try.prog te25:=⟨TI.of Try.underlying25 rfl (by kernel_rfl),⟨⟨_,Try.underlying25,rfl⟩,fun t h=>by cases h⟩,fun t h=>by cases h;exact ⟨rfl,rfl,by decide,rfl⟩⟩
def te27:TE:=⟨27,.int .i64,false,1,8,.int .i64 0,some (.int .i64)⟩
theorem zuQ:TEok Try.prog te27:=⟨TI.of Try.underlying27 rfl (by kernel_rfl),Try.underlying27,fun t h=>by cases h;exact ⟨rfl,rfl,by decide,rfl⟩⟩
def te44:TE:=⟨44,.array 2 3,true,2,16,.agg ⟨[.int .i64 0,.int .i64 0]⟩,some (.pair (.int .i64) (.pair (.int .i64) .unit))⟩
theorem zuR:TEok Try.prog te44:=⟨TI.of Try.underlying44 rfl (by kernel_rfl),Try.underlying44,fun t h=>by cases h;exact ⟨rfl,rfl,by decide,rfl⟩⟩
def te50:TE:=⟨50,.struct [(0,23),(1,23),(2,22)] none,true,3,72,.agg ⟨[.slice none 0 0,.slice none 0 0,.slice none 0 0]⟩,some (.pair (.list (.int .i64)) (.pair (.list (.int .i64)) (.pair (.list (.list (.int .i64))) .unit)))⟩
theorem zuT:TEok Try.prog te50:=⟨TI.of Try.underlying50 rfl (by kernel_rfl),⟨⟨_,Try.underlying50,rfl⟩,fun t h=>by cases h⟩,fun t h=>by cases h;exact ⟨rfl,rfl,by decide,rfl⟩⟩
def te54:TE:=⟨54,.other,false,1,8,.nilFunc,none⟩
theorem zuU:TEok Try.prog te54:=⟨TI.of Try.underlying54 rfl (by kernel_rfl),trivial,fun t h=>by cases h⟩
def te61:TE:=⟨61,.slice 44,false,1,24,.slice none 0 0,some (.list (.pair (.int .i64) (.pair (.int .i64) .unit)))⟩
theorem zuW:TEok Try.prog te61:=⟨TI.of Try.underlying61 rfl (by kernel_rfl),Try.underlying61,fun t h=>by cases h;exact ⟨rfl,rfl,by decide,rfl⟩⟩
def te62:TE:=⟨62,.slice 4,false,1,24,.slice none 0 0,some (.list .bool)⟩
theorem zuX:TEok Try.prog te62:=⟨TI.of Try.underlying62 rfl (by kernel_rfl),Try.underlying62,fun t h=>by cases h;exact ⟨rfl,rfl,by decide,rfl⟩⟩
def te66:TE:=⟨66,.slice 5,false,1,24,.slice none 0 0,some (.list (.int .u8))⟩
theorem zuZ:TEok Try.prog te66:=⟨TI.of Try.underlying66 rfl (by kernel_rfl),Try.underlying66,fun t h=>by cases h;exact ⟨rfl,rfl,by decide,rfl⟩⟩
def te69:TE:=⟨69,.struct [(0,3),(1,9)] none,true,2,24,.agg ⟨[.int .i64 0,.string ⟨⟨[]⟩⟩]⟩,some (.pair (.int .i64) (.pair .str .unit))⟩
theorem zu0:TEok Try.prog te69:=⟨TI.of Try.underlying69 rfl (by kernel_rfl),⟨⟨_,Try.underlying69,rfl⟩,fun t h=>by cases h⟩,fun t h=>by cases h;exact ⟨rfl,rfl,by decide,rfl⟩⟩
def te60:TE:=⟨60,.map 44 23 ((.pair (.int .i64) (.pair (.int .i64) .unit))),false,1,8,.map none,none⟩
theorem zuV:TEok Try.prog te60:=⟨TI.of Try.underlying60 rfl (by kernel_rfl),⟨Try.underlying60,SK.ofKey (d:=16) (KeyT.array zuS Try.underlying44 (KeyT.int zt4 Try.underlying3) rfl) (by decide) rfl rfl⟩,fun t h=>by cases h⟩
def te65:TE:=⟨65,.map 69 3 ((.pair (.int .i64) (.pair .str .unit))),false,1,8,.map none,none⟩
theorem zuY:TEok Try.prog te65:=⟨TI.of Try.underlying65 rfl (by kernel_rfl),⟨Try.underlying65,SK.ofKey (d:=16) (KeyT.struct zu1 Try.underlying69 (by kernel_rfl) (KFs.cons (by decide) rfl (KeyT.int zt4 Try.underlying3) (KFs.cons (by decide) rfl (KeyT.str zvz Try.underlying9) KFs.nil))) (by decide) rfl rfl⟩,fun t h=>by cases h⟩
def te71:TE:=⟨71,.map 3 3 ((.int .i64)),false,1,8,.map none,none⟩
theorem zu2:TEok Try.prog te71:=⟨TI.of Try.underlying71 rfl (by kernel_rfl),⟨Try.underlying71,SK.int' Try.underlying3⟩,fun t h=>by cases h⟩
def TT:List TE:=[te3,te4,te5,te9,te22,te23,te25,te27,te44,te50,te54,te61,te62,te66,te69,te60,te65,te71]
theorem zbM:TOK Try.prog TT:=TOK.cons zvv (TOK.cons zvw (TOK.cons zvx (TOK.cons zvy (TOK.cons zuN (TOK.cons zuO (TOK.cons zuP (TOK.cons zuQ (TOK.cons zuR (TOK.cons zuT (TOK.cons zuU (TOK.cons zuW (TOK.cons zuX (TOK.cons zuZ (TOK.cons zu0 (TOK.cons zuV (TOK.cons zuY (TOK.cons zu2 (TOK.nil))))))))))))))))))

def zky:Shape:=⟨[(.list (.int .i64))],[(0,.v 0)],[]⟩
def zkx:Shape:=⟨[(.list (.int .i64))],[(0,.own 0)],[(0,.arr 3 0)]⟩
def zih:CE:=⟨15,zky,zkx,fun X=>ziX X⟩
theorem zlY:CE.ok Try.prog zih:=CE.of (Γ:=[]) (by kernel_rfl) zbM (GOK.nil) ⟨[],[],[],[]⟩ Try.func15 rfl Try.ntmps15 (rs:=[.tmp 2]) rfl (sig:=zky) (out:=zkx) rfl Try.call15 (fun X=>by kernel_rfl)

def zi0:Shape:=⟨[(.list (.list (.int .i64)))],[(0,.v 0)],[]⟩
def ziZ:Shape:=⟨[(.list (.list (.int .i64)))],[(0,.own 0)],[(0,.arr 23 0)]⟩
def zkz:CE:=⟨14,zi0,ziZ,fun X=>ziY X⟩
theorem zo3:CE.ok Try.prog zkz:=CE.of (Γ:=[zih]) (by kernel_rfl) zbM (GOK.cons zlY (GOK.nil)) ⟨[(3,⟨⟨[(.int .i64),(.list (.list (.int .i64)))],[(3,.own 0),(4,.v 0)],[(0,.arr 23 1)]⟩,[5,6,7,8,9,10,11,12,13,14,15,16,17,18,19,20],[],[],1,[]⟩)],[],[],[]⟩ Try.func14 rfl Try.ntmps14 (rs:=[.tmp 2]) rfl (sig:=zi0) (out:=ziZ) rfl Try.call14 (fun X=>by kernel_rfl)

def ziW:Shape:=⟨[(.pair (.int .i64) (.pair (.int .i64) (.pair (.list (.list (.int .i64))) (.pair (.list (.int .i64)) .unit))))],[(0,.v 0)],[]⟩
def ziV:Shape:=⟨[(.pair (.int .i64) (.pair (.int .i64) (.pair (.list (.list (.int .i64))) (.pair (.list (.int .i64)) .unit))))],[(0,.v 0)],[]⟩
def zkw:CE:=⟨4,ziW,ziV,fun X=>ziU X⟩
theorem zo2:CE.ok Try.prog zkw:=CE.of (Γ:=[zkz,zih]) (by kernel_rfl) zbM (GOK.cons zo3 (GOK.cons zlY (GOK.nil))) ⟨[],[],[],[]⟩ Try.func4 rfl Try.ntmps4 (rs:=[.cell 2 25]) rfl (sig:=ziW) (out:=ziV) rfl Try.call4 (fun X=>by kernel_rfl)

def zgl:Shape:=⟨[(.list (.int .i64)),(.pair (.int .i64) (.pair (.int .i64) (.pair (.list (.list (.int .i64))) (.pair (.list (.int .i64)) .unit))))],[(0,.v 0),(1,.addr 1)],[]⟩
def zgk:Shape:=⟨[.bool],[(0,.v 0)],[]⟩
def zhC:CE:=⟨25,zgl,zgk,fun X=>zic X.1 X.2⟩
theorem zmK:CE.ok Try.prog zhC:=CE.of (Γ:=[]) (by kernel_rfl) zbM (GOK.nil) ⟨[],[],[],[]⟩ Try.func25 rfl Try.ntmps25 (rs:=[.tmp 3]) rfl (sig:=zgl) (out:=zgk) rfl Try.call25 (fun X=>by kernel_rfl)

def zdJ:Shape:=⟨[(.list (.list (.int .i64))),(.pair (.int .i64) (.pair (.int .i64) (.pair (.list (.list (.int .i64))) (.pair (.list (.int .i64)) .unit))))],[(0,.v 0),(1,.fn 25 [.addr 1])],[]⟩
def zdI:Shape:=⟨[(.int .i64)],[(0,.v 0)],[]⟩
def zej:CE:=⟨35,zdJ,zdI,fun X=>zf9 X.1 X.2⟩
theorem ziq:CE.ok Try.prog zej:=CE.of (Γ:=[zhC]) (by kernel_rfl) zbM (GOK.cons zmK (GOK.nil)) ⟨[(2,⟨⟨[(.int .i64)],[(8,.v 0)],[]⟩,[4,5,9,10,11,12,13,14,15,16,17,18],[],[],0,[]⟩)],[],[],[]⟩ Try.func35 rfl Try.ntmps35 (rs:=[.tmp 4]) rfl (sig:=zdJ) (out:=zdI) rfl Try.call35 (fun X=>by kernel_rfl)

def zcN:Shape:=⟨[(.list (.list (.int .i64))),(.pair (.int .i64) (.pair (.int .i64) (.pair (.list (.list (.int .i64))) (.pair (.list (.int .i64)) .unit))))],[(0,.v 0),(1,.fn 25 [.addr 1])],[]⟩
def zcM:Shape:=⟨[.bool],[(0,.v 0)],[]⟩
def zcS:CE:=⟨24,zcN,zcM,fun X=>zcp X.1 X.2⟩
theorem zgb:CE.ok Try.prog zcS:=CE.of (Γ:=[zej]) (by kernel_rfl) zbM (GOK.cons ziq (GOK.nil)) ⟨[],[],[],[]⟩ Try.func24 rfl Try.ntmps24 (rs:=[.tmp 4]) rfl (sig:=zcN) (out:=zcM) rfl Try.call24 (fun X=>by kernel_rfl)

def zgn:Shape:=⟨[(.int .i64),(.int .i64)],[(0,.v 0),(1,.addr 1)],[]⟩
def zgm:Shape:=⟨[.bool],[(0,.v 0)],[]⟩
def zeP:CE:=⟨26,zgn,zgm,fun X=>zc2 X.1 X.2⟩
theorem zhD:CE.ok Try.prog zeP:=CE.of (Γ:=[]) (by kernel_rfl) zbM (GOK.nil) ⟨[],[],[],[]⟩ Try.func26 rfl Try.ntmps26 (rs:=[.tmp 3]) rfl (sig:=zgn) (out:=zgm) rfl Try.call26 (fun X=>by kernel_rfl)

def zcW:Shape:=⟨[(.list (.int .i64)),(.int .i64)],[(0,.v 0),(1,.fn 26 [.addr 1])],[]⟩
def zcV:Shape:=⟨[(.int .i64)],[(0,.v 0)],[]⟩
def zdw:CE:=⟨36,zcW,zcV,fun X=>zeL X.1 X.2⟩
theorem zg9:CE.ok Try.prog zdw:=CE.of (Γ:=[zeP]) (by kernel_rfl) zbM (GOK.cons zhD (GOK.nil)) ⟨[(2,⟨⟨[(.int .i64)],[(8,.v 0)],[]⟩,[4,5,9,10,11,12,13,14,15,16,17,18],[],[],0,[]⟩)],[],[],[]⟩ Try.func36 rfl Try.ntmps36 (rs:=[.tmp 4]) rfl (sig:=zcW) (out:=zcV) rfl Try.call36 (fun X=>by kernel_rfl)

def zce:Shape:=⟨[(.list (.int .i64)),(.int .i64)],[(0,.v 0),(1,.fn 26 [.addr 1])],[]⟩
def zcd:Shape:=⟨[.bool],[(0,.v 0)],[]⟩
def zcw:CE:=⟨28,zce,zcd,fun X=>zbU X.1 X.2⟩
theorem zfu:CE.ok Try.prog zcw:=CE.of (Γ:=[zdw]) (by kernel_rfl) zbM (GOK.cons zg9 (GOK.nil)) ⟨[],[],[],[]⟩ Try.func28 rfl Try.ntmps28 (rs:=[.tmp 4]) rfl (sig:=zce) (out:=zcd) rfl Try.call28 (fun X=>by kernel_rfl)

def zgp:Shape:=⟨[(.list (.int .i64)),(.int .i64)],[(0,.v 0),(1,.ptr 100000 0)],[(100000,.box 54 [.fn 26 [.addr 1]])]⟩
def zgo:Shape:=⟨[.bool,(.int .i64)],[(0,.v 0)],[(100000,.box 54 [.fn 26 [.addr 1]])]⟩
def zhE:CE:=⟨27,zgp,zgo,fun X=>zfG X.1 X.2⟩
theorem zmL:CE.ok Try.prog zhE:=CE.of (Γ:=[zcw]) (by kernel_rfl) zbM (GOK.cons zfu (GOK.nil)) ⟨[],[],[],[]⟩ Try.func27 rfl Try.ntmps27 (rs:=[.tmp 3]) rfl (sig:=zgp) (out:=zgo) rfl Try.call27 (fun X=>by kernel_rfl)

def zcU:Shape:=⟨[(.list (.list (.int .i64))),(.int .i64)],[(0,.v 0),(1,.fn 27 [.ptr 100000 0])],[(100000,.box 54 [.fn 26 [.addr 1]])]⟩
def zcT:Shape:=⟨[(.int .i64),(.int .i64)],[(0,.v 0)],[(100000,.box 54 [.fn 26 [.addr 1]])]⟩
def zdv:CE:=⟨35,zcU,zcT,fun X=>zeK X.1 X.2⟩
theorem zg8:CE.ok Try.prog zdv:=CE.of (Γ:=[zhE]) (by kernel_rfl) zbM (GOK.cons zmL (GOK.nil)) ⟨[(2,⟨⟨[(.int .i64),(.int .i64)],[(1,.fn 27 [.ptr 100000 0]),(8,.v 0)],[(100000,.box 54 [.fn 26 [.addr 1]])]⟩,[4,5,9,10,11,12,13,14,15,16,17,18],[],[],0,[]⟩)],[],[],[]⟩ Try.func35 rfl Try.ntmps35 (rs:=[.tmp 4]) rfl (sig:=zcU) (out:=zcT) rfl Try.call35 (fun X=>by kernel_rfl)

def zcc:Shape:=⟨[(.list (.list (.int .i64))),(.int .i64)],[(0,.v 0),(1,.fn 27 [.ptr 100000 0])],[(100000,.box 54 [.fn 26 [.addr 1]])]⟩
def zcb:Shape:=⟨[.bool,(.int .i64)],[(0,.v 0)],[(100000,.box 54 [.fn 26 [.addr 1]])]⟩
def zcv:CE:=⟨24,zcc,zcb,fun X=>zbT X.1 X.2⟩
theorem zft:CE.ok Try.prog zcv:=CE.of (Γ:=[zdv]) (by kernel_rfl) zbM (GOK.cons zg8 (GOK.nil)) ⟨[],[],[],[]⟩ Try.func24 rfl Try.ntmps24 (rs:=[.tmp 4]) rfl (sig:=zcc) (out:=zcb) rfl Try.call24 (fun X=>by kernel_rfl)

def zgr:Shape:=⟨[(.int .i64)],[(0,.v 0)],[]⟩
def zgq:Shape:=⟨[.bool],[(0,.v 0)],[]⟩
def zhF:CE:=⟨29,zgr,zgq,fun X=>zdV X⟩
theorem zmM:CE.ok Try.prog zhF:=CE.of (Γ:=[]) (by kernel_rfl) zbM (GOK.nil) ⟨[],[],[],[]⟩ Try.func29 rfl Try.ntmps29 (rs:=[.tmp 2]) rfl (sig:=zgr) (out:=zgq) rfl Try.call29 (fun X=>by kernel_rfl)

def zcY:Shape:=⟨[(.list (.int .i64))],[(0,.v 0),(1,.fn 29 [])],[]⟩
def zcX:Shape:=⟨[(.int .i64)],[(0,.v 0)],[]⟩
def zdx:CE:=⟨36,zcY,zcX,fun X=>zeM X⟩
theorem zha:CE.ok Try.prog zdx:=CE.of (Γ:=[zhF]) (by kernel_rfl) zbM (GOK.cons zmM (GOK.nil)) ⟨[(2,⟨⟨[(.int .i64)],[(8,.v 0)],[]⟩,[4,5,9,10,11,12,13,14,15,16,17,18],[],[],0,[]⟩)],[],[],[]⟩ Try.func36 rfl Try.ntmps36 (rs:=[.tmp 4]) rfl (sig:=zcY) (out:=zcX) rfl Try.call36 (fun X=>by kernel_rfl)

def zcg:Shape:=⟨[(.list (.int .i64))],[(0,.v 0),(1,.fn 29 [])],[]⟩
def zcf:Shape:=⟨[.bool],[(0,.v 0)],[]⟩
def zcx:CE:=⟨28,zcg,zcf,fun X=>zbV X⟩
theorem zfv:CE.ok Try.prog zcx:=CE.of (Γ:=[zdx]) (by kernel_rfl) zbM (GOK.cons zha (GOK.nil)) ⟨[],[],[],[]⟩ Try.func28 rfl Try.ntmps28 (rs:=[.tmp 4]) rfl (sig:=zcg) (out:=zcf) rfl Try.call28 (fun X=>by kernel_rfl)

def ziA:Shape:=⟨[(.pair (.int .i64) (.pair (.int .i64) (.pair (.list (.list (.int .i64))) (.pair (.list (.int .i64)) .unit))))],[(0,.v 0)],[]⟩
def ziz:Shape:=⟨[(.int .i64)],[(0,.v 0)],[]⟩
def zgs:CE:=⟨16,ziA,ziz,fun X=>ze4 X⟩
theorem zkl:CE.ok Try.prog zgs:=CE.of (Γ:=[zcS,zeP,zcv,zcx]) (by kernel_rfl) zbM (GOK.cons zgb (GOK.cons zhD (GOK.cons zft (GOK.cons zfv (GOK.nil))))) ⟨[],[],[],[]⟩ Try.func16 rfl Try.ntmps16 (rs:=[.tmp 2]) rfl (sig:=ziA) (out:=ziz) rfl Try.call16 (fun X=>by kernel_rfl)

def zf8:Shape:=⟨[(.list (.int .i64))],[(0,.v 0)],[]⟩
def zf7:Shape:=⟨[(.list (.int .i64))],[(0,.own 0)],[(0,.arr 3 0)]⟩
def zei:CE:=⟨34,zf8,zf7,fun X=>za7 X⟩
theorem zg7:CE.ok Try.prog zei:=CE.of (Γ:=[]) (by kernel_rfl) zbM (GOK.nil) ⟨[],[],[],[]⟩ Try.func34 rfl Try.ntmps34 (rs:=[.tmp 2]) rfl (sig:=zf8) (out:=zf7) rfl Try.call34 (fun X=>by kernel_rfl)

def zgu:Shape:=⟨[(.pair (.int .i64) (.pair (.int .i64) (.pair (.list (.list (.int .i64))) (.pair (.list (.int .i64)) .unit))))],[(0,.v 0)],[]⟩
def zgt:Shape:=⟨[(.list (.int .i64))],[(0,.own 0)],[(0,.arr 3 0)]⟩
def zhG:CE:=⟨30,zgu,zgt,fun X=>zfH X⟩
theorem zmN:CE.ok Try.prog zhG:=CE.of (Γ:=[zei]) (by kernel_rfl) zbM (GOK.cons zg7 (GOK.nil)) ⟨[(3,⟨⟨[(.int .i64),(.list (.int .i64))],[(3,.own 1),(4,.v 0)],[(1,.arr 3 1)]⟩,[2,5,6,7,8,9,11,12,13,14,17,18,19,20,21,22,23,24,25,26,27,28,29,30,31,32,33,34,35,36,37,38,39,40,41,42,43,44,45,46,47,48,49,50,51,52,53,54,55,56,57,58,59,60,61,62,63,64,65,66,67,68,69,70,71,72,73,74,75,76,77,78,79,80,81,82,83,84],[],[0],2,[]⟩),(6,⟨⟨[(.int .i64),(.list (.pair (.int .i64) (.pair .str .unit))),(.list (.int .i64)),(.list (.int .i64))],[(5,.own 2),(6,.own 3),(25,.v 0)],[(2,.box 65 [.v 1,.v 2]),(3,.arr 3 3)]⟩,[7,8,9,11,12,13,14,18,21,26,27,28,29,30,31,32,33,34,35,36,37,38,39,40,41,42,43,44,45,46,47,48,49,50,51,52,53,54,55,56,57,58,59,60,61,62,63,64,65,66,67,68,69,70,71,72,73,74,75,76],[],[0,1],4,[]⟩),(10,⟨⟨[(.int .i64),(.list (.int .u8))],[(9,.own 4),(32,.v 0)],[(4,.arr 5 1)]⟩,[11,33,34,35,36,37,38,39,40,41,42,43,44,45,46,47,48,49,50],[],[0,1,2,3],5,[]⟩)],[(17,⟨⟨[(.list (.pair (.int .i64) (.pair .str .unit))),(.list (.int .i64))],[(5,.own 2)],[(2,.box 65 [.v 0,.v 1])]⟩,[13,14,58,59,60,61,62,63,64,65,66,67,68,69],[],[0,1,3,4,5],6,[]⟩)],[(12,[(0,0),(0,1),(0,2),(0,3),(0,4),(0,5),(0,6),(0,7),(0,8),(0,9),(0,10),(0,11),(1,12),(2,13),(0,14)]),(14,[(0,0),(0,1),(0,2),(0,3),(0,4),(0,5),(0,6),(1,7),(2,8)])],[]⟩ Try.func30 rfl Try.ntmps30 (rs:=[.tmp 2]) rfl (sig:=zgu) (out:=zgt) rfl Try.call30 (fun X=>by kernel_rfl)

def zew:Shape:=⟨[(.int .i64),(.int .i64),(.list (.int .i64)),(.pair (.int .i64) (.pair (.int .i64) (.pair (.list (.list (.int .i64))) (.pair (.list (.int .i64)) .unit)))),(.list (.int .i64))],[(0,.v 0),(1,.v 1),(2,.addr 2),(3,.addr 3),(4,.addr 4)],[]⟩
def zev:Shape:=⟨[(.int .i64)],[(0,.v 0)],[]⟩
def ze9:CE:=⟨32,zew,zev,fun X=>zdh X.1 X.2.1 X.2.2.1 X.2.2.2.1 X.2.2.2.2⟩
theorem zjO:CE.ok Try.prog ze9:=CE.of (Γ:=[]) (by kernel_rfl) zbM (GOK.nil) ⟨[],[],[(1,[(0,0),(0,1),(0,2),(0,3),(0,4),(0,5),(0,6),(0,7),(0,8),(0,9),(0,10),(0,11),(0,12),(0,13),(0,14)])],[]⟩ Try.func32 rfl Try.ntmps32 (rs:=[.tmp 7]) rfl (sig:=zew) (out:=zev) rfl Try.call32 (fun X=>by kernel_rfl)

def zey:Shape:=⟨[(.int .i64),(.pair (.int .i64) (.pair (.int .i64) (.pair (.list (.list (.int .i64))) (.pair (.list (.int .i64)) .unit)))),(.list (.int .i64))],[(0,.v 0),(1,.addr 1),(2,.addr 2)],[]⟩
def zex:Shape:=⟨[(.int .i64)],[(0,.v 0)],[]⟩
def zfa:CE:=⟨33,zey,zex,fun X=>zeQ X.1 X.2.1 X.2.2⟩
theorem zjP:CE.ok Try.prog zfa:=CE.of (Γ:=[]) (by kernel_rfl) zbM (GOK.nil) ⟨[],[],[(1,[(0,0),(0,1),(0,2),(0,3),(0,4),(0,5),(0,6),(0,7),(0,8)])],[]⟩ Try.func33 rfl Try.ntmps33 (rs:=[.tmp 4]) rfl (sig:=zey) (out:=zex) rfl Try.call33 (fun X=>by kernel_rfl)

def zgw:Shape:=⟨[(.int .i64),(.int .i64),(.list (.int .i64)),(.pair (.int .i64) (.pair (.int .i64) (.pair (.list (.list (.int .i64))) (.pair (.list (.int .i64)) .unit)))),(.list (.int .i64)),(.pair (.int .i64) (.pair (.int .i64) (.pair (.list (.list (.int .i64))) (.pair (.list (.int .i64)) .unit)))),(.list (.int .i64)),(.int .i64)],[(0,.v 0),(1,.v 1),(2,.fn 32 [.addr 2,.addr 3,.addr 4]),(3,.fn 33 [.addr 5,.addr 6]),(4,.v 7)],[]⟩
def zgv:Shape:=⟨[(.int .i64),(.int .i64),(.list (.list (.int .i64))),(.list (.int .i64)),.bool],[(0,.agg [.v 0,.v 1,.own 22,.own 23]),(1,.v 4)],[(22,.out 522 23 3 2),(23,.arr 3 3)]⟩
def zhH:CE:=⟨31,zgw,zgv,fun X=>zfI X.1 X.2.1 X.2.2.1 X.2.2.2.1 X.2.2.2.2.1 X.2.2.2.2.2.1 X.2.2.2.2.2.2.1 X.2.2.2.2.2.2.2⟩
theorem zmO:CE.ok Try.prog zhH:=CE.of (Γ:=[ze9,zfa]) (by kernel_rfl) zbM (GOK.cons zjO (GOK.cons zjP (GOK.nil))) ⟨[(4,⟨⟨[(.int .i64),(.int .i64),(.list (.int .i64)),(.list (.int .i64)),(.list (.int .i64)),(.list (.list (.int .i64))),(.list (.int .i64))],[(12,.ptr 1 0),(13,.own 2),(14,.own 3)],[(1,.box 25 [.v 0,.v 1,.own 4,.own 6]),(2,.box 71 [.v 2,.v 3]),(3,.arr 3 4),(4,.out 5 23 3 5),(6,.arr 3 6)]⟩,[11,15,16,17,18,19,20,23,25,27,28,29,30,31,32,33,34,35,36,37,38,39,40,41,42,43,44,45,46,47,48,49,50,51,52,53,54,55,56,57,58,59,60,61,62,63,64,65,66,67,68,69,70,71,72,73,74,75,76,77,78,79,80,81,82,83,84,85,86,87,88,89],[],[0],7,[(1,1000002,some 1507331,(.int .i64)),(1,3,some 3,(.int .i64))]⟩),(8,⟨⟨[(.int .i64),(.list (.int .i64)),(.list (.int .i64)),(.list (.int .i64)),(.list (.int .i64))],[(13,.own 2),(14,.own 3),(16,.own 7),(43,.v 0)],[(2,.box 71 [.v 1,.v 2]),(3,.arr 3 3),(7,.arr 3 4)]⟩,[11,17,18,19,20,31,34,38,41,44,45,46,47,48,49,50,51,52,53,54,55,56,57,58,59,60,61,62,63,64,65,66,67,68,69,70,71,72,73,74,75],[],[0,1,4,6,5],8,[]⟩)],[(17,⟨⟨[(.int .i64),(.list (.int .i64)),(.list (.int .i64)),(.list (.int .i64))],[(13,.own 2),(14,.own 8),(19,.v 0)],[(2,.box 71 [.v 1,.v 2]),(8,.arr 3 3)]⟩,[11,51,56,57,58,59,60,61,62,63,64,65,66,67,68,69,70],[3],[0,1,4,6,7,5],9,[]⟩)],[(20,[(0,0),(0,1),(0,2),(4,3),(4,4),(0,5),(2,6)]),(21,[(0,0),(0,1),(0,2),(0,3),(1,4),(1,5),(2,6),(0,7),(2,8)]),(22,[(1,0),(2,1),(0,2)])],[]⟩ Try.func31 rfl Try.ntmps31 (rs:=[.cell 10 25,.tmp 11]) rfl (sig:=zgw) (out:=zgv) rfl Try.call31 (fun X=>by kernel_rfl)

def zfW:Shape:=⟨[(.pair (.int .i64) (.pair (.int .i64) (.pair (.list (.list (.int .i64))) (.pair (.list (.int .i64)) .unit))))],[(0,.v 0)],[]⟩
def zfV:Shape:=⟨[(.int .i64),(.int .i64),(.list (.list (.int .i64))),(.list (.int .i64))],[(0,.agg [.v 0,.v 1,.own 22,.own 23])],[(22,.out 522 23 3 2),(23,.arr 3 3)]⟩
def zgy:CE:=⟨17,zfW,zfV,fun X=>zeu X⟩
theorem zlC:CE.ok Try.prog zgy:=CE.of (Γ:=[zhG,zhH]) (by kernel_rfl) zbM (GOK.cons zmN (GOK.cons zmO (GOK.nil))) ⟨[(4,⟨⟨[(.int .i64),(.list (.int .i64))],[(4,.ptr 5 0),(16,.v 0)],[(5,.box 23 [.own 4]),(4,.arr 3 1)]⟩,[5,6,13,17,18,19,20,21,22,23,24,25],[],[0,1,2,3],6,[]⟩)],[(8,⟨⟨[(.int .i64),(.int .i64),(.list (.list (.int .i64))),(.list (.int .i64))],[(7,.ptr 6 0)],[(6,.box 25 [.v 0,.v 1,.own 7,.own 8]),(7,.out 9 23 3 2),(8,.arr 3 3)]⟩,[1,3,4,8,10,11,14,26,27,28,29,30,31,32,33,34,35,36,37,38,39,40,41],[0,2,3,4,5],[1],10,[]⟩)],[(9,[(1,0),(2,1)])],[(8,(.one 0 (.one 3 (.one 7 (.one 8 (.live [12,17] (.rd 1 [12,13,14,15,17,18] (.rd 2 [5,6,12,13,14,15,17,18] (.rd 4 [5,6,12,13,14,15,17,18] (.one 5 (.rd 6 [12,13,14,15,17,18] (.rd 9 [10,11,12,13,14,15,17,18] (.rd 10 [11,12,13,14,15,17,18] (.one 11 (.alt 2 12 (.leaf [(0,13),(0,14),(0,15),(1,16),(2,17),(0,18)]) (.alt 1 16 (.alt 2 12 (.leaf [(0,13),(0,14),(0,15),(2,17),(0,18)]) .stop) .stop))))))))))))))))]⟩ Try.func17 rfl Try.ntmps17 (rs:=[.cell 2 25]) rfl (sig:=zfW) (out:=zfV) rfl Try.call17 (fun X=>by kernel_rfl)

def ziC:Shape:=⟨[(.pair (.int .i64) (.pair (.int .i64) (.pair (.list (.list (.int .i64))) (.pair (.list (.int .i64)) .unit))))],[(0,.v 0)],[]⟩
def ziB:Shape:=⟨[(.int .i64),(.int .i64),(.list (.list (.int .i64))),(.list (.int .i64)),(.int .i64)],[(0,.agg [.v 0,.v 1,.own 22,.own 23]),(1,.v 4)],[(22,.out 522 23 3 2),(23,.arr 3 3)]⟩
def zkm:CE:=⟨5,ziC,ziB,fun X=>ze8 X⟩
theorem zoG:CE.ok Try.prog zkm:=CE.of (Γ:=[zgs,zgy]) (by kernel_rfl) zbM (GOK.cons zkl (GOK.cons zlC (GOK.nil))) ⟨[],[],[],[]⟩ Try.func5 rfl Try.ntmps5 (rs:=[.cell 2 25,.tmp 3]) rfl (sig:=ziC) (out:=ziB) rfl Try.call5 (fun X=>by kernel_rfl)

def zgj:Shape:=⟨[(.pair (.int .i64) (.pair (.int .i64) .unit)),(.pair (.int .i64) (.pair (.int .i64) (.pair (.list (.list (.int .i64))) (.pair (.list (.int .i64)) .unit))))],[(0,.v 0),(1,.addr 1)],[]⟩
def zgi:Shape:=⟨[.bool],[(0,.v 0)],[]⟩
def zhB:CE:=⟨20,zgj,zgi,fun X=>zdU X.1 X.2⟩
theorem zmJ:CE.ok Try.prog zhB:=CE.of (Γ:=[]) (by kernel_rfl) zbM (GOK.nil) ⟨[],[],[(1,[(0,0),(0,1),(0,2),(0,3),(0,4),(0,5),(0,6),(0,7),(0,8),(0,9),(0,10),(0,11),(0,12),(0,13)])],[]⟩ Try.func20 rfl Try.ntmps20 (rs:=[.tmp 3]) rfl (sig:=zgj) (out:=zgi) rfl Try.call20 (fun X=>by kernel_rfl)

def zgh:Shape:=⟨[(.pair (.int .i64) (.pair (.int .i64) .unit)),(.int .i64),(.pair (.int .i64) (.pair (.int .i64) (.pair (.list (.list (.int .i64))) (.pair (.list (.int .i64)) .unit))))],[(0,.v 0),(1,.v 1),(2,.addr 2)],[]⟩
def zgg:Shape:=⟨[(.pair (.int .i64) (.pair (.int .i64) .unit))],[(0,.v 0)],[]⟩
def zhA:CE:=⟨19,zgh,zgg,fun X=>zc1 X.1 X.2.1 X.2.2⟩
theorem zmI:CE.ok Try.prog zhA:=CE.of (Γ:=[]) (by kernel_rfl) zbM (GOK.nil) ⟨[],[],[(1,[(0,0),(0,1),(0,2),(0,3),(0,4),(0,5),(0,6),(0,7),(0,8),(0,9),(0,10),(0,11),(0,12),(0,13),(0,14),(0,15),(0,16),(0,17),(0,18),(2,19)])],[]⟩ Try.func19 rfl Try.ntmps19 (rs:=[.cell 5 44]) rfl (sig:=zgh) (out:=zgg) rfl Try.call19 (fun X=>by kernel_rfl)

def ziF:Shape:=⟨[(.pair (.int .i64) (.pair (.int .i64) .unit)),(.int .i64),(.pair (.int .i64) (.pair (.int .i64) (.pair (.list (.list (.int .i64))) (.pair (.list (.int .i64)) .unit)))),(.pair (.int .i64) (.pair (.int .i64) (.pair (.list (.list (.int .i64))) (.pair (.list (.int .i64)) .unit))))],[(0,.v 0),(1,.v 1),(2,.fn 19 [.addr 2]),(3,.fn 20 [.addr 3])],[]⟩
def ziE:Shape:=⟨[(.list (.int .i64)),.bool],[(0,.v 0),(1,.v 1)],[]⟩
def zkn:CE:=⟨18,ziF,ziE,fun X=>zlD X.1 X.2.1 X.2.2.1 X.2.2.2⟩
theorem zoH:CE.ok Try.prog zkn:=CE.of (Γ:=[zhB,zhA,zei]) (by kernel_rfl) zbM (GOK.cons zmJ (GOK.cons zmI (GOK.cons zg7 (GOK.nil)))) ⟨[(3,⟨⟨[(.list (.pair (.int .i64) (.pair (.int .i64) .unit))),(.list (.list (.int .i64))),(.list (.pair (.int .i64) (.pair (.int .i64) .unit)))],[(10,.own 1),(11,.own 3)],[(1,.box 60 [.v 0,.v 1]),(3,.arr 44 2)]⟩,[8,9,12,13,14,15,16,19,21,22,23,24,25,26,27,28,29,30,31,32,33,34,35,36,37,38,39,40,41,42,43,44,45,46,47,48,49,50,51,52,53,54,55,56,57,58,59,60,61,62,63,64,65,66,67,68,69,70],[],[0],4,[]⟩),(8,⟨⟨[(.int .i64),(.list (.pair (.int .i64) (.pair (.int .i64) .unit))),(.list (.list (.int .i64))),(.list (.pair (.int .i64) (.pair (.int .i64) .unit)))],[(10,.own 1),(11,.own 3),(38,.v 0)],[(1,.box 60 [.v 1,.v 2]),(3,.arr 44 3)]⟩,[12,13,14,15,16,19,22,28,29,39,40,41,42,43,44,45,46,47,48,49,50,51,52,53,54,55,56,57,58,59,60,61,62,63,64,65,66,67,68,69,70],[],[0],4,[]⟩)],[(13,⟨⟨[(.list (.pair (.int .i64) (.pair (.int .i64) .unit))),(.list (.list (.int .i64))),(.int .i64),(.int .i64)],[(10,.own 1),(13,.ptr 4 0)],[(1,.box 60 [.v 0,.v 1]),(4,.box 44 [.v 2,.v 3])]⟩,[48,55,56,57,58,59,60,61,62,63,64,65],[],[0,3],5,[]⟩)],[(4,[(0,0),(1,1),(0,2)])],[(13,(.one 0 (.one 2 (.one 3 (.one 4 (.one 8 (.live [10,11] (.rd 5 [6,7,10,11] (.rd 6 [7,10,11] (.alt 0 1 (.alt 1 7 (.alt 1 9 (.alt 2 10 (.leaf [(2,11)]) .stop) .stop) (.alt 1 9 (.alt 1 7 (.alt 2 10 (.leaf [(2,11)]) .stop) .stop) .stop)) (.alt 1 7 (.ban 1 [11] (.alt 1 9 (.alt 2 10 (.leaf [(2,11)]) .stop) .stop) (.alt 1 9 (.alt 2 10 (.leaf [(0,1),(2,11)]) .stop) .stop)) (.alt 1 9 (.alt 0 1 (.alt 1 7 (.alt 2 10 (.leaf [(2,11)]) .stop) .stop) (.alt 1 7 (.ban 1 [11] (.alt 2 10 (.leaf [(2,11)]) .stop) (.alt 2 10 (.leaf [(0,1),(2,11)]) .stop)) .stop)) .stop))))))))))))]⟩ Try.func18 rfl Try.ntmps18 (rs:=[.tmp 8,.tmp 9]) rfl (sig:=ziF) (out:=ziE) rfl Try.call18 (fun X=>by kernel_rfl)

def ziy:Shape:=⟨[(.pair (.int .i64) (.pair (.int .i64) (.pair (.list (.list (.int .i64))) (.pair (.list (.int .i64)) .unit)))),(.int .i64),(.int .i64)],[(0,.v 0),(1,.v 1),(2,.v 2)],[]⟩
def zix:Shape:=⟨[(.list (.int .i64)),.bool,(.int .i64)],[(0,.v 0),(1,.v 1),(2,.v 2)],[]⟩
def zkk:CE:=⟨6,ziy,zix,fun X=>zdn X.1 X.2.1 X.2.2⟩
theorem zoF:CE.ok Try.prog zkk:=CE.of (Γ:=[zgs,zkn]) (by kernel_rfl) zbM (GOK.cons zkl (GOK.cons zoH (GOK.nil))) ⟨[],[],[],[]⟩ Try.func6 rfl Try.ntmps6 (rs:=[.tmp 6,.tmp 7,.tmp 8]) rfl (sig:=ziy) (out:=zix) rfl Try.call6 (fun X=>by kernel_rfl)

def zmr:Shape:=⟨[(.pair (.int .i64) (.pair (.int .i64) (.pair (.list (.list (.int .i64))) (.pair (.list (.int .i64)) .unit)))),(.pair (.int .i64) (.pair (.int .i64) (.pair (.list (.list (.int .i64))) (.pair (.list (.int .i64)) .unit))))],[(0,.v 0),(1,.v 1)],[]⟩
def zmq:Shape:=⟨[.bool],[(0,.v 0)],[]⟩
def znk:CE:=⟨7,zmr,zmq,fun X=>zj6 X.1 X.2⟩
theorem zrt:CE.ok Try.prog znk:=CE.of (Γ:=[]) (by kernel_rfl) zbM (GOK.nil) ⟨[(4,⟨⟨[(.int .i64)],[(5,.v 0)],[]⟩,[4,38,39,40,41,42,43,44,45,46,47,48,49,50,51,52,53,54,55],[],[0,1],2,[]⟩),(9,⟨⟨[(.int .i64)],[(6,.v 0)],[]⟩,[4,7,56,57,58,59,60,61,62,63,64,65,66,67,68,69,70,71,72,73,74,75,76,77,78,79,80,81,82,83,84,85,86,87,88,89,90,91,92,93,94,95,96,97,98,99,100,101,102],[],[0,1],2,[]⟩),(14,⟨⟨[(.int .i64)],[(7,.v 0)],[]⟩,[4,76,77,78,79,80,81,82,83,84,85,86,87,88,89,90,91,92,93,94,95,96,97,98,99,100,101,102],[],[0,1],2,[]⟩)],[],[(6,[(0,0),(0,1),(0,2),(0,3),(0,4),(0,5),(0,6),(0,7),(0,8),(0,9),(0,10)]),(11,[(0,0),(0,1),(0,2),(0,3),(0,4),(0,5),(0,6),(0,7),(0,8),(0,9),(0,10),(0,11),(0,12)]),(16,[(0,0),(0,1),(0,2),(0,3),(0,4),(0,5),(0,6),(0,7),(0,8),(0,9),(0,10),(0,11),(0,12),(0,13),(0,14),(0,15),(0,16)])],[]⟩ Try.func7 rfl Try.ntmps7 (rs:=[.tmp 4]) rfl (sig:=zmr) (out:=zmq) rfl Try.call7 (fun X=>by kernel_rfl)

def zkI:Shape:=⟨[(.pair (.int .i64) (.pair (.int .i64) (.pair (.list (.list (.int .i64))) (.pair (.list (.int .i64)) .unit))))],[(0,.v 0)],[]⟩
def zkH:Shape:=⟨[(.int .i64)],[(0,.v 0)],[]⟩
def zmh:CE:=⟨8,zkI,zkH,fun X=>zji X⟩
theorem zqa:CE.ok Try.prog zmh:=CE.of (Γ:=[]) (by kernel_rfl) zbM (GOK.nil) ⟨[(9,⟨⟨[(.int .i64)],[(4,.v 0)],[]⟩,[2,30,31,32,33,34,35,36,37,38,39,40,41,42,43],[],[0],1,[]⟩),(16,⟨⟨[(.int .i64)],[(5,.v 0)],[]⟩,[2,6,53,54,55,56,57,58,59,60,61,62,63,64,65,66,67,68,69,70,71,72,73,74,75,76,77,78,79,80,81,82,83,84],[],[0],1,[]⟩),(19,⟨⟨[(.int .i64)],[(6,.v 0)],[]⟩,[2,58,59,60,61,62,63,64,65,66,67,68,69,70,71,72,73,74,75,76,77,78,79,80,81,82,83,84],[],[0],1,[]⟩),(24,⟨⟨[(.int .i64)],[(7,.v 0)],[]⟩,[2,85,86,87,88,89,90,91,92,93,94,95,96,97,98,99,100,101,102,103],[],[0],1,[]⟩)],[],[(11,[(0,0),(0,1),(0,2),(0,3),(0,4),(0,5),(0,6),(0,7),(0,8)])],[]⟩ Try.func8 rfl Try.ntmps8 (rs:=[.tmp 2]) rfl (sig:=zkI) (out:=zkH) rfl Try.call8 (fun X=>by kernel_rfl)

def zhT:Shape:=⟨[(.pair (.int .i64) (.pair (.int .i64) (.pair (.list (.list (.int .i64))) (.pair (.list (.int .i64)) .unit))))],[(0,.v 0)],[]⟩
def zhS:Shape:=⟨[(.list (.int .i64))],[(0,.own 0)],[(0,.arr 3 0)]⟩
def zjm:CE:=⟨21,zhT,zhS,fun X=>zhr X⟩
theorem zok:CE.ok Try.prog zjm:=CE.of (Γ:=[]) (by kernel_rfl) zbM (GOK.nil) ⟨[(3,⟨⟨[(.int .i64),(.list (.int .i64))],[(3,.own 2),(4,.v 0)],[(2,.arr 3 1)]⟩,[2,5,6,7,8,9,10,11,12,13,16,17,18,19,20,21,22,23,24,25,26,27,28,29,30,31,32,33,34,35,36,37,38,39,40,41,42,43,44,45,46,47,48,49,50,51,52,53,54,55,56,57,58,59,60,61,62,63,64,65,66,67,68,69,70,71,72,73,74,75,76,77,78,79,80,81,82,83,84,85,86,87,88,89,90,91,92,93,94,95],[],[0],3,[]⟩),(7,⟨⟨[(.int .i64),(.int .i64),(.list (.int .i64)),(.list (.int .i64))],[(5,.own 3),(6,.v 0),(7,.own 4),(8,.v 1)],[(3,.arr 3 2),(4,.arr 3 3)]⟩,[9,10,11,12,19,20,21,22,23,24,25,26,27,28,29,30,31,32,33,34,35,36,37,38,39,40,41,42,43,44,45,46,47,48,49,50,51,52,53,54,55,56,57,58,59,60,61,62,63,64,65,66,67,68,69,70,71,72,73,74,75,76,77,78,79,80,81,82,83,84,85,86,87,88,89],[],[0,2],5,[]⟩),(10,⟨⟨[(.int .i64)],[(9,.v 0)],[]⟩,[10,11,12,26,27,28,29,30,31,32,33,34,35,36,37,38,39,40,41,42,43,44,45,46,47,48,49,50,51,52,53,54,55,56,57,58,59,60,61,62,63,64,65,66,67,68,69,70,71,72,73,74,75,76],[],[0,2,3,4],5,[]⟩),(14,⟨⟨[.bool,(.int .i64)],[(11,.v 0),(12,.v 1)],[]⟩,[42,43,44,45,46,47,48,49,50,51,52,53,54,55,56,57,58,59,60,61,62,63,64,65,66,67,68,69,70,71,72,73],[],[0,2,3,4],5,[]⟩)],[(15,⟨⟨[.bool],[(11,.v 0)],[]⟩,[12,42,43,44,45,46,47,48,49,50,51,52,53,54,55,56,57,58,59,60,61,62,63,64,65,66,67,68,69,70,71,72,73],[],[0,2,3,4],5,[]⟩),(18,⟨⟨[(.int .i64)],[(9,.v 0)],[]⟩,[10,11,12,26,27,28,29,30,31,32,33,34,35,36,37,38,39,40,41,42,43,44,45,46,47,48,49,50,51,52,53,54,55,56,57,58,59,60,61,62,63,64,65,66,67,68,69,70,71,72,73,74,75,76],[],[0,2,3,4],5,[]⟩),(21,⟨⟨[(.int .i64),(.list (.int .i64))],[(6,.v 0),(7,.own 5)],[(5,.arr 3 1)]⟩,[77,78,79,80,81,82,83,84,85],[4],[0,2,3],6,[]⟩)],[(12,[(0,0),(0,1),(0,2),(0,3),(0,4),(0,5),(0,6),(0,7),(0,8),(0,9)]),(16,[(0,0),(0,1),(0,2),(0,3),(0,4),(0,5),(0,6),(0,7),(0,8),(0,9),(0,10),(0,11),(0,12),(0,13),(0,14),(0,15),(0,16),(0,17),(0,18),(0,19),(0,20),(0,21),(0,22),(0,23)])],[]⟩ Try.func21 rfl Try.ntmps21 (rs:=[.tmp 2]) rfl (sig:=zhT) (out:=zhS) rfl Try.call21 (fun X=>by kernel_rfl)

def zkK:Shape:=⟨[(.pair (.int .i64) (.pair (.int .i64) (.pair (.list (.list (.int .i64))) (.pair (.list (.int .i64)) .unit))))],[(0,.v 0)],[]⟩
def zkJ:Shape:=⟨[(.pair (.int .i64) (.pair (.int .i64) (.pair (.list (.list (.int .i64))) (.pair (.list (.int .i64)) .unit))))],[(0,.v 0)],[]⟩
def zml:CE:=⟨10,zkK,zkJ,fun X=>zlj X⟩
theorem zqb:CE.ok Try.prog zml:=CE.of (Γ:=[zjm]) (by kernel_rfl) zbM (GOK.cons zok (GOK.nil)) ⟨[(4,⟨⟨[(.int .i64),(.list (.int .i64))],[(4,.own 3),(5,.v 0)],[(3,.arr 3 1)]⟩,[16,17,18,19,20,21,22,23,24,25],[],[0,1,2],4,[]⟩),(11,⟨⟨[(.int .i64),(.list (.int .i64)),(.list (.int .i64)),(.int .i64),(.int .i64),(.list (.list (.int .i64))),(.list (.int .i64))],[(4,.own 3),(6,.own 4),(7,.ptr 5 0),(8,.v 0)],[(3,.arr 3 1),(4,.arr 3 2),(5,.box 25 [.v 3,.v 4,.own 6,.own 7]),(6,.arr 23 5),(7,.arr 3 6)]⟩,[9,10,11,18,26,32,35,39,40,41,42,43,44,45,46,47,48,49,50,51,52,53,54,55,56,57,58,59,60,61,62,63,64,65,66,67,68,69,70,71,72,73,74,75,76,77,78,79,80,81,82,83,84,85,86,87,88,89,90,91,92,93,94,95,96,97,98,99,100,101,102,103,104,105,106,107,108,109,110,111,112,113],[],[0,1,2],8,[(5,2,some 23,(.list (.int .i64))),(5,3,some 3,(.int .i64))]⟩),(15,⟨⟨[(.int .i64),(.list (.int .i64)),(.list (.int .i64)),(.list (.int .i64))],[(4,.own 3),(6,.own 4),(9,.own 8),(10,.v 0)],[(3,.arr 3 1),(4,.arr 3 2),(8,.arr 3 3)]⟩,[11,40,47,48,49,50,51,52,53,54,55,56,57,58,59,60,61,62,63,64,65,66,67,68,69,70,71,72,73,74,75,76,77,78,79,80,81,82,83,84,85,86,87,88,89,90,91,92,93,94],[],[0,1,2,5,6,7],9,[]⟩)],[(20,⟨⟨[(.list (.int .i64)),(.list (.int .i64))],[(4,.own 3),(6,.own 9)],[(3,.arr 3 0),(9,.arr 3 1)]⟩,[56,58,65,66,67,68,69,70,71,72,73,74,75,76,77,78,79,80,81,82,83,84],[4],[0,1,2,5,6,7,8],10,[]⟩)],[(17,[(0,0),(0,1),(0,2),(0,3),(0,4),(0,5),(0,6),(0,7),(0,8),(0,9),(0,10),(0,11)]),(23,[(0,0),(0,1),(0,2),(0,3),(0,4),(0,5),(0,6),(0,7),(0,8),(0,9),(1,10),(2,11),(0,12),(2,13)])],[]⟩ Try.func10 rfl Try.ntmps10 (rs:=[.cell 2 25]) rfl (sig:=zkK) (out:=zkJ) rfl Try.call10 (fun X=>by kernel_rfl)

def zgN:Shape:=⟨[(.int .i64),(.int .i64),(.list (.list (.int .i64))),(.list (.int .i64))],[(0,.agg [.v 0,.v 1,.own 100000,.own 100001])],[(100000,.out 100002 23 3 2),(100001,.arr 3 3)]⟩
def zgM:Shape:=⟨[.bool,(.list (.list (.int .i64))),(.list (.int .i64))],[(0,.v 0)],[(100000,.out 100002 23 3 1),(100001,.arr 3 2)]⟩
def zhM:CE:=⟨9,zgN,zgM,fun X=>zc7 X.1 X.2.1 X.2.2.1 X.2.2.2⟩
theorem zmV:CE.ok Try.prog zhM:=CE.of (Γ:=[]) (by kernel_rfl) zbM (GOK.nil) ⟨[],[],[],[]⟩ Try.func9 rfl Try.ntmps9 (rs:=[.tmp 2]) rfl (sig:=zgN) (out:=zgM) rfl Try.call9 (fun X=>by kernel_rfl)

def zjp:Shape:=⟨[(.int .i64),(.int .i64),(.pair (.int .i64) (.pair (.int .i64) (.pair (.list (.list (.int .i64))) (.pair (.list (.int .i64)) .unit)))),(.list (.list (.int .i64))),(.list (.int .i64))],[(0,.agg [.v 0,.v 1,.own 100000,.own 100001]),(1,.v 2)],[(100000,.out 100002 23 3 3),(100001,.arr 3 4)]⟩
def zjo:Shape:=⟨[.bool,(.list (.list (.int .i64))),(.list (.int .i64))],[(0,.v 0)],[(100000,.out 100002 23 3 1),(100001,.arr 3 2)]⟩
def zkL:CE:=⟨7,zjp,zjo,fun X=>zg1 X.1 X.2.1 X.2.2.1 X.2.2.2.1 X.2.2.2.2⟩
theorem zpf:CE.ok Try.prog zkL:=CE.of (Γ:=[]) (by kernel_rfl) zbM (GOK.nil) ⟨[(4,⟨⟨[(.int .i64)],[(5,.v 0)],[]⟩,[4,38,39,40,41,42,43,44,45,46,47,48,49,50,51,52,53,54,55],[],[0,1],2,[]⟩),(9,⟨⟨[(.int .i64)],[(6,.v 0)],[]⟩,[4,7,56,57,58,59,60,61,62,63,64,65,66,67,68,69,70,71,72,73,74,75,76,77,78,79,80,81,82,83,84,85,86,87,88,89,90,91,92,93,94,95,96,97,98,99,100,101,102],[],[0,1],2,[]⟩),(14,⟨⟨[(.int .i64)],[(7,.v 0)],[]⟩,[4,67,76,77,78,79,80,81,82,83,84,85,86,87,88,89,90,91,92,93,94,95,96,97,98,99,100,101,102],[],[0,1],2,[]⟩)],[],[(6,[(0,0),(0,1),(0,2),(0,3),(0,4),(0,5),(0,6),(0,7),(0,8),(0,9),(0,10)]),(11,[(0,0),(0,1),(0,2),(0,3),(0,4),(0,5),(0,6),(0,7),(0,8),(0,9),(0,10),(0,11),(0,12)]),(16,[(0,0),(0,1),(0,2),(0,3),(0,4),(0,5),(0,6),(0,7),(0,8),(0,9),(0,10),(0,11),(0,12),(0,13),(0,14),(0,15),(0,16)])],[]⟩ Try.func7 rfl Try.ntmps7 (rs:=[.tmp 4]) rfl (sig:=zjp) (out:=zjo) rfl Try.call7 (fun X=>by kernel_rfl)

theorem zij (w:World):Calls Try.prog 22 #[.slice none 0 0] w fun e w'=>e = .returned (.tuple #[])/\w'=w:=by
  go_enter Try.func22,Try.ntmps22
  go_wp2
  go_loopw [2] (fun i wr=>i = .int .i64 0/\wr=w) (fun _ _=>0)
  case atStart=>exact ⟨rfl,rfl⟩
  case round=>
    obtain ⟨rfl,rfl⟩:=hrel
    go_wp2
    go_end0
    exact ⟨rfl,rfl⟩
theorem zhx (g off n cap:Nat) (cur:Array Value) (w:World) (hg:w.heap[g]? =some (.cells cur 3 (0,0))) (h1:n<=cap) (h2:cap<=maxLen) (h3:off+cap<=cur.size):
    Calls Try.prog 22 #[.slice (some ⟨g,off,none⟩) n cap] w fun e w'=>e = .returned (.tuple #[])/\Spl (fun b=>b=g) w w':=by
  have hm:cap<=9223372036854775807:=by unfold maxLen at h2;omega
  go_enter Try.func22,Try.ntmps22
  go_wp2
  go_loopw [2] (fun i wr=>∃ k:Nat,k<=cap/\i = .int .i64 k/\(∃ cur':Array Value,wr.heap[g]? =some (.cells cur' 3 (0,0))/\cur'.size=cur.size)/\(wr.os=w.os/\wr.tape=w.tape/\wr.output=w.output/\wr.heap.size=w.heap.size)/\∀ b,b≠g->wr.heap[b]? =w.heap[b]?) (fun i _=>match i with | .int .i64 m=>cap - m.toNat | _=>0)
  case atStart=>exact ⟨0,by omega,rfl,⟨cur,hg,rfl⟩,⟨rfl,rfl,rfl,rfl⟩,fun _ _=>rfl⟩
  case round=>
    obtain ⟨k,hk,rfl,⟨cur',hc,hs⟩,ho,hb⟩:=hrel
    by_cases hlt:k < cap
    · have hcell:wr.cell? ⟨g,off+k,none⟩=some (cur'.getD (off+k) undef):=by
        rw [cell_of_row wr g (off+k) cur' 3 (0,0) hc]
        have:off+k < cur'.size:=by omega
        simp [this]
      have hfr:wr.frozen? ⟨g,off+k,none⟩=false:=by
        simp [World.frozen?, hc]
      have hkc:(k:Int) < (cap:Int):=by omega
      go_wp2
      refine ⟨⟨k+1,by omega,by simp,⟨cur'.set! (off+k) (.int .i64 77),?_,by simp [hs]⟩,⟨ho.1,ho.2.1,ho.2.2.1,?_⟩,fun b hbg=>(Go.RowKit.Below.heap_setCell wr ⟨g,off+k,none⟩ _ b hbg).trans (hb b hbg)⟩,?_⟩
      · simp only [World.setCell,Array.getElem?_modify,hc];simp
      · simp [World.setCell,ho.2.2.2]
      · show cap - ((k:Int)+1).toNat < cap - (k:Int).toNat
        omega
    · have hkc : ¬ (k:Int) < (cap:Int):=by omega
      go_wp2
      go_end0
      refine ⟨rfl,ho,hb,fun b cu E hbe => ?_⟩
      by_cases e:b=g
      · subst e;rw [hg] at hbe;cases hbe;exact ⟨cur',hc,hs⟩
      · exact ⟨cu,by rw [hb b e];exact hbe,rfl⟩
theorem zb4 (g:Nat) (r:Value) (w:World) (h:HdOK w 3 g r):Calls Try.prog 22 #[r] w fun e w'=>e = .returned (.tuple #[])/\Spl (fun b=>blk r=some b) w w':=by
  rcases h with rfl | ⟨b,off,n,cap,cur,rfl,h1,h2,h3,h4,h5⟩
  · exact (zij w).mono fun e w' ⟨h1,h2⟩=>by subst h2;exact ⟨h1,Spl.refl _ _⟩
  · exact (zhx b off n cap cur w h1 h2 h3 h4).mono fun e w' ⟨k1,k2⟩=>⟨k1,k2.mono fun x hx=>by show some b=some x;rw [hx]⟩
theorem zi1 (v0 v1 mk:Value) (g off n cap:Nat) (cur:Array Value) (xs:Nat->Value) (w:World) (hg:w.heap[g]? =some (.cells cur 23 (0,0))) (h1:n<=cap) (h2:cap<=maxLen) (h3:off+cap<=cur.size) (hx:∀ j,j < n->cur.getD (off+j) undef=xs j)
    (hr:∀ j,j < n->HdOK w 3 g (xs j)) (hm:HdOK w 3 g mk):
    Calls Try.prog 11 #[.agg #[v0,v1,.slice (some ⟨g,off,none⟩) n cap,mk]] w fun e w'=>e = .returned (.tuple #[])/\(w'.os=w.os/\w'.tape=w.tape/\w'.output=w.output/\w.heap.size<=w'.heap.size)/\∀ b,b < w.heap.size -> ¬ ((∃ j,j < n/\blk (xs j)=some b)\/blk mk=some b)->w'.heap[b]? =w.heap[b]? :=by
  have hgl:g < w.heap.size:=(Array.getElem?_eq_some_iff.1 hg).1
  have hm':n<=9223372036854775807:=by unfold maxLen at h2;omega
  have hS:∀ v E,HdOK w E g v->∀ b,blk v=some b->b < w.heap.size/\b≠g:=by
    rintro v E (rfl | ⟨b,off,n,cap,cur,rfl,k1,_,_,_,k5⟩) b' hb'
    · cases hb'
    · cases hb';exact ⟨(Array.getElem?_eq_some_iff.1 k1).1,k5⟩
  go_enter Try.func11,Try.ntmps11
  go_wp2
  generalize hS2:(fun b=>(∃ j,j < n/\blk (xs j)=some b)\/blk mk=some b)=S
  have hSg : ¬ S g:=by
    subst hS2
    rintro (⟨j,hj,hb⟩ | hb)
    · exact (hS _ _ (hr j hj) g hb).2 rfl
    · exact (hS _ _ hm g hb).2 rfl
  have hSw : ¬ S w.heap.size:=by
    subst hS2
    rintro (⟨j,hj,hb⟩ | hb)
    · exact Nat.lt_irrefl _ (hS _ _ (hr j hj) _ hb).1
    · exact Nat.lt_irrefl _ (hS _ _ hm _ hb).1
  generalize hW:w.alloc (Obj.cells #[v0,v1,Value.slice (some { block:=g,off:=off }) n cap,mk] 25)=W
  have hWb:W.heap[w.heap.size]? =some (.cells #[v0,v1,Value.slice (some { block:=g,off:=off }) n cap,mk] 25):=by rw [<- hW];show (w.heap.push _)[w.heap.size]? =_;simp
  have hWo:∀ b,b < w.heap.size->W.heap[b]? =w.heap[b]? :=fun b hb=>by rw [<- hW];exact Go.RowKit.Below.heap_alloc w _ b hb
  have hrW:∀ j,j < n->HdOK W 3 g (xs j):=fun j hj=>by rw [<- hW];exact (hr j hj).alloc _
  have hmW:HdOK W 3 g mk:=by rw [<- hW];exact hm.alloc _
  have hWs:W.os=w.os/\W.tape=w.tape/\W.output=w.output/\W.heap.size=w.heap.size+1:=by rw [<- hW];exact ⟨rfl,rfl,rfl,by show (w.heap.push _).size=_;simp⟩
  go_loopw [2] (fun i wr=>∃ k:Nat,k<=n/\i = .int .i64 k/\Spl S W wr) (fun i _=>match i with | .int .i64 m=>n - m.toNat | _=>0)
  case atStart=>exact ⟨0,by omega,rfl,Spl.refl _ _⟩
  case round=>
    obtain ⟨k,hk,rfl,hsp⟩:=hrel
    have hbx:wr.heap[w.heap.size]? =some (.cells #[v0,v1,Value.slice (some { block:=g,off:=off }) n cap,mk] 25):=(hsp.k _ hSw).trans hWb
    have hb2:wr.cell? ⟨w.heap.size,2,none⟩=some (Value.slice (some { block:=g,off:=off }) n cap):=by rw [cell_of_row wr _ 2 _ 25 (0,0) hbx];rfl
    have hb3:wr.cell? ⟨w.heap.size,3,none⟩=some mk:=by rw [cell_of_row wr _ 3 _ 25 (0,0) hbx];rfl
    by_cases hlt:k < n
    · have hkc:(k:Int) < (n:Int):=by omega
      have hgx:wr.heap[g]? =some (.cells cur 23 (0,0)):=(hsp.k _ hSg).trans ((hWo g hgl).trans hg)
      have hcell:wr.cell? ⟨g,off+k,none⟩=some (xs k):=by
        rw [cell_of_row wr g (off+k) cur 23 (0,0) hgx,<- hx k hlt]
        have:off+k < cur.size:=by omega
        simp [this]
      go_wp2_with (go_at_call 22;refine (zb4 g (xs k) wr (hsp.hd (hrW k hlt))).mono ?_;rintro e w' ⟨rfl,hs2⟩)
      refine ⟨⟨k+1,by omega,by simp,hsp.trans (hs2.mono fun b hb => ?_)⟩,?_⟩
      · rw [<- hS2];exact .inl ⟨k,hlt,hb⟩
      · show n - ((k:Int)+1).toNat < n - (k:Int).toNat
        omega
    · have hkc : ¬ (k:Int) < (n:Int):=by omega
      go_wp2_with (go_at_call 22;refine (zb4 g mk wr (hsp.hd hmW)).mono ?_;rintro e w' ⟨rfl,hs2⟩)
      go_end0
      have hs3:=hsp.trans (hs2.mono (S':=S) fun b hb=>by rw [<- hS2];exact .inr hb)
      refine ⟨rfl,⟨hs3.o.1.trans hWs.1,hs3.o.2.1.trans hWs.2.1,hs3.o.2.2.1.trans hWs.2.2.1,by rw [hs3.o.2.2.2,hWs.2.2.2];omega⟩,fun b hb hn => ?_⟩
      exact (hs3.k b (by rw [<- hS2];exact hn)).trans (hWo b hb)
theorem zii (v0 v1 mk:Value) (g:Nat) (w:World) (hm:HdOK w 3 g mk):
    Calls Try.prog 11 #[.agg #[v0,v1,.slice none 0 0,mk]] w fun e w'=>e = .returned (.tuple #[])/\(w'.os=w.os/\w'.tape=w.tape/\w'.output=w.output/\w.heap.size<=w'.heap.size)/\∀ b,b < w.heap.size -> ¬ blk mk=some b->w'.heap[b]? =w.heap[b]? :=by
  go_enter Try.func11,Try.ntmps11
  go_wp2
  generalize hW:w.alloc (Obj.cells #[v0,v1,Value.slice none 0 0,mk] 25)=W
  have hWb:W.heap[w.heap.size]? =some (.cells #[v0,v1,Value.slice none 0 0,mk] 25):=by rw [<- hW];show (w.heap.push _)[w.heap.size]? =_;simp
  have hWo:∀ b,b < w.heap.size->W.heap[b]? =w.heap[b]? :=fun b hb=>by rw [<- hW];exact Go.RowKit.Below.heap_alloc w _ b hb
  have hmW:HdOK W 3 g mk:=by rw [<- hW];exact hm.alloc _
  have hWs:W.os=w.os/\W.tape=w.tape/\W.output=w.output/\W.heap.size=w.heap.size+1:=by rw [<- hW];exact ⟨rfl,rfl,rfl,by show (w.heap.push _).size=_;simp⟩
  go_loopw [2] (fun i wr=>i = .int .i64 0/\wr=W) (fun _ _=>0)
  case atStart=>exact ⟨rfl,rfl⟩
  case round=>
    obtain ⟨rfl,rfl⟩:=hrel
    have hb2:wr.cell? ⟨w.heap.size,2,none⟩=some (Value.slice none 0 0):=by rw [cell_of_row wr _ 2 _ 25 (0,0) hWb];rfl
    have hb3:wr.cell? ⟨w.heap.size,3,none⟩=some mk:=by rw [cell_of_row wr _ 3 _ 25 (0,0) hWb];rfl
    go_wp2_with (go_at_call 22;refine (zb4 g mk wr hmW).mono ?_;rintro e w' ⟨rfl,hs2⟩)
    go_end0
    exact ⟨rfl,⟨hs2.o.1.trans hWs.1,hs2.o.2.1.trans hWs.2.1,hs2.o.2.2.1.trans hWs.2.2.1,by rw [hs2.o.2.2.2,hWs.2.2.2];omega⟩,fun b hb hn=>(hs2.k b hn).trans (hWo b hb)⟩
def zi3:Shape:=znp 23 3
def zi2:Shape:=⟨[],[],[]⟩
def zfh:CE:=⟨11,zi3,zi2,fun X=>zdi X.1 X.2.1 X.2.2.1 X.2.2.2⟩
theorem zjW:CE.ok Try.prog zfh:=zpI Try.call11 (fun v0 v1 mk g w=>zii v0 v1 mk g w) (fun v0 v1 mk g off n cap cur xs w=>zi1 v0 v1 mk g off n cap cur xs w)

def zjv:Shape:=⟨[(.pair (.int .i64) (.pair (.int .i64) (.pair (.list (.list (.int .i64))) (.pair (.list (.int .i64)) .unit)))),(.pair (.int .i64) (.pair (.int .i64) (.pair (.list (.list (.int .i64))) (.pair (.list (.int .i64)) .unit)))),(.int .i64),(.int .i64)],[(0,.v 0),(1,.v 1),(2,.v 2),(3,.v 3)],[]⟩
def zju:Shape:=⟨[(.pair (.list (.int .i64)) (.pair (.list (.int .i64)) (.pair (.list (.list (.int .i64))) .unit)))],[(0,.v 0)],[]⟩
def zkO:CE:=⟨23,zjv,zju,fun X=>zjt X.1 X.2.1 X.2.2.1 X.2.2.2⟩
theorem zph:CE.ok Try.prog zkO:=CE.of (Γ:=[]) (by kernel_rfl) zbM (GOK.nil) ⟨[(5,⟨⟨[(.int .i64),(.list .bool),(.list (.int .i64)),(.list (.int .i64)),(.list (.list (.int .i64)))],[(9,.own 3),(10,.ptr 8 0),(11,.v 0)],[(3,.arr 4 1),(8,.box 50 [.own 4,.own 5,.own 7]),(4,.arr 3 2),(5,.arr 3 3),(7,.arr 23 4)]⟩,[12,13,14,15,23,25,27,29,30,31,39,40,41,42,43,44,45,46,47,48,49,50,51,52,53,54,55,56,57,58,59,60,61,62,63,64,65,66,67,68,69,70,71,72,73,74,75,76,77,78,79,80,81,82,83,84,85,86,87,88,89,90,91,92,93,94,95,96,97,98,99,100,101,102,103,104,105,106,107,108,109,110,111,112,113,114,115,116,117,118,119,120,121,122,123,124],[],[0,1,2],9,[]⟩),(8,⟨⟨[(.int .i64),(.list .bool),(.list (.int .i64)),(.list (.int .i64)),(.list (.list (.int .i64)))],[(9,.own 3),(10,.ptr 8 0),(12,.v 0)],[(3,.arr 4 1),(8,.box 50 [.own 4,.own 5,.own 7]),(4,.arr 3 2),(5,.arr 3 3),(7,.arr 23 4)]⟩,[13,14,15,41,42,47,48,49,50,51,52,53,54,55,56,57,58,59,60,61,62,63,64,65,66,67,68,69,70,71,72,73,74,75,76,77,78,79,80,81,82,83,84,85,86,87,88,89,90,91,92,93,94,95,96,97,98,99,100,101,102,103,104,105,106,107,108,109,110,111,112,113,114,115,116,117,118,119,120,121,122,123,124],[],[0,1,2],9,[]⟩)],[],[(2,[(0,0),(2,1),(0,2),(2,3),(2,4),(2,5),(1,6),(2,7),(2,8)]),(10,[(0,0),(0,1),(0,2),(0,3),(0,4),(0,5),(0,6),(0,7),(0,8),(0,9),(0,10),(0,11),(0,12)]),(11,[(0,0),(0,1),(0,2),(0,3),(0,4),(0,5),(0,6),(0,7),(0,8),(0,9),(0,10),(0,11),(0,12)])],[]⟩ Try.func23 rfl Try.ntmps23 (rs:=[.cell 8 50]) rfl (sig:=zjv) (out:=zju) rfl Try.call23 (fun X=>by kernel_rfl)

def zkG:Shape:=⟨[(.pair (.int .i64) (.pair (.int .i64) (.pair (.list (.list (.int .i64))) (.pair (.list (.int .i64)) .unit)))),(.pair (.int .i64) (.pair (.int .i64) (.pair (.list (.list (.int .i64))) (.pair (.list (.int .i64)) .unit)))),(.int .i64),(.int .i64)],[(0,.v 0),(1,.v 1),(2,.v 2),(3,.v 3)],[]⟩
def zkF:Shape:=⟨[(.list (.int .i64)),.bool],[(0,.v 0),(1,.v 1)],[]⟩
def zme:CE:=⟨12,zkG,zkF,fun X=>zli X.1 X.2.1 X.2.2.1 X.2.2.2⟩
theorem zp9:CE.ok Try.prog zme:=CE.of (Γ:=[zkO]) (by kernel_rfl) zbM (GOK.cons zph (GOK.nil)) ⟨[(3,⟨⟨[(.int .i64)],[(11,.v 0)],[]⟩,[8,9,17,18,19,20,21,22,23,24,25,26,27,28,29,30,31,32,33,34,35,36,37,38,39,40,41,42,43,44,45,46,47],[],[0,1,2],3,[]⟩)],[],[(5,[(0,0),(0,1),(0,2),(0,3),(0,4),(0,5),(0,6),(0,7),(0,8),(0,9),(0,10),(0,11),(0,12),(0,13),(0,14),(0,15),(0,16),(0,17),(0,18)])],[]⟩ Try.func12 rfl Try.ntmps12 (rs:=[.tmp 8,.tmp 9]) rfl (sig:=zkG) (out:=zkF) rfl Try.call12 (fun X=>by kernel_rfl)

def zkE:Shape:=⟨[(.list (.int .i64)),(.list (.int .i64))],[(0,.v 0),(1,.v 1)],[]⟩
def zkD:Shape:=⟨[.bool],[(0,.v 0)],[]⟩
def zmd:CE:=⟨13,zkE,zkD,fun X=>zlh X.1 X.2⟩
theorem zp8:CE.ok Try.prog zmd:=CE.of (Γ:=[]) (by kernel_rfl) zbM (GOK.nil) ⟨[(4,⟨⟨[(.int .i64)],[(5,.v 0)],[]⟩,[4,11,12,13,14,15,16,17,18,19,20,21,22,23,24,25],[],[],0,[]⟩)],[],[(6,[(0,0),(0,1),(0,2),(0,3),(0,4),(0,5),(0,6),(0,7),(0,8)])],[]⟩ Try.func13 rfl Try.ntmps13 (rs:=[.tmp 4]) rfl (sig:=zkE) (out:=zkD) rfl Try.call13 (fun X=>by kernel_rfl)

def zfZ:Shape:=⟨[(.pair (.int .i64) (.pair (.int .i64) (.pair (.list (.list (.int .i64))) (.pair (.list (.int .i64)) .unit)))),(.int .i64),(.int .i64)],[(0,.v 0),(1,.v 1),(2,.v 2)],[]⟩
def zfY:Shape:=⟨[.bool],[(0,.v 0)],[]⟩
def zd0:CE:=⟨3,zfZ,zfY,fun X=>zgK X.1 X.2.1 X.2.2⟩
theorem zlX:CE.ok Try.prog zd0:=CE.of (Γ:=[zkw,zkm,zkk,znk,zmh,zhM,zml,zkL,zfh,zme,zmd]) (by kernel_rfl) zbM (GOK.cons zo2 (GOK.cons zoG (GOK.cons zoF (GOK.cons zrt (GOK.cons zqa (GOK.cons zmV (GOK.cons zqb (GOK.cons zpf (GOK.cons zjW (GOK.cons zp9 (GOK.cons zp8 (GOK.nil)))))))))))) ⟨[],[],[(6,[(1,0),(2,1),(0,2)]),(12,[(1,0),(0,1),(2,2),(0,3)]),(15,[(1,0),(2,1)])],[]⟩ Try.func3 rfl Try.ntmps3 (rs:=[.tmp 6]) rfl (sig:=zfZ) (out:=zfY) rfl Try.call3 (fun X=>by kernel_rfl)

end
end Go.Proofs.Ytjkfhpgglcnggaa.detLeastW
