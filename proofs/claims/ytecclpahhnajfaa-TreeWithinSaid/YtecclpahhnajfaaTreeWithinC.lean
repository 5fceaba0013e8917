/- That the functions of 'TreeWithin' compute so. -/
import Derived.Test.YtecclpahhnajfaaTreeWithinD
import Derived.Test.YtecclpahhnajfaaProg
import Derived.KernelRfl
set_option maxHeartbeats 1000000
set_option maxRecDepth 20000
set_option linter.unusedSimpArgs false
set_option linter.unusedVariables false
set_option linter.unusedSectionVars false
namespace Go.Proofs.Ytecclpahhnajfaa.treeWithinW
open Go Go.Ab
noncomputable section
def te3:TE:=⟨3,.int .i64,false,1,8,.int .i64 0,some (.int .i64)⟩
theorem zz2:TEok Try.prog te3:=⟨TI.of Try.underlying3 rfl (by kernel_rfl),Try.underlying3,fun t h=>by cases h;exact ⟨rfl,rfl,by decide,rfl⟩⟩
def te4:TE:=⟨4,.bool,false,1,1,.bool false,some .bool⟩
theorem zz3:TEok Try.prog te4:=⟨TI.of Try.underlying4 rfl (by kernel_rfl),Try.underlying4,fun t h=>by cases h;exact ⟨rfl,rfl,by decide,rfl⟩⟩
def te5:TE:=⟨5,.int .u8,false,1,1,.int .u8 0,some (.int .u8)⟩
theorem zz4:TEok Try.prog te5:=⟨TI.of Try.underlying5 rfl (by kernel_rfl),Try.underlying5,fun t h=>by cases h;exact ⟨rfl,rfl,by decide,rfl⟩⟩
def te9:TE:=⟨9,.str,false,1,16,.string ⟨⟨[]⟩⟩,some .str⟩
theorem zz5:TEok Try.prog te9:=⟨TI.of Try.underlying9 rfl (by kernel_rfl),Try.underlying9,fun t h=>by cases h;exact ⟨rfl,rfl,by decide,rfl⟩⟩
def te22:TE:=⟨22,.slice 48,false,1,24,.slice none 0 0,some Tc4⟩
theorem zy4:TEok Try.prog te22:=⟨TI.of Try.underlying22 rfl (by kernel_rfl),Try.underlying22,fun t h=>by cases h;exact ⟨rfl,rfl,by decide,rfl⟩⟩
def te23:TE:=⟨23,.slice 3,false,1,24,.slice none 0 0,some (.list (.int .i64))⟩
theorem zy5:TEok Try.prog te23:=⟨TI.of Try.underlying23 rfl (by kernel_rfl),Try.underlying23,fun t h=>by cases h;exact ⟨rfl,rfl,by decide,rfl⟩⟩
def te25:TE:=⟨25,.struct [(0,3),(1,3),(2,22),(3,3),(4,23)] none,true,5,72,.agg ⟨[.int .i64 0,.int .i64 0,.slice none 0 0,.int .i64 0,.slice none 0 0]⟩,some Tc1⟩
theorem zy6:TEok Try.prog te25:=⟨TI.of Try.underlying25 rfl (by kernel_rfl),⟨⟨_,Try.underlying25,rfl⟩,fun t h=>by cases h⟩,fun t h=>by cases h;exact ⟨rfl,rfl,by decide,rfl⟩⟩
def te26:TE:=⟨26,.slice 52,false,1,24,.slice none 0 0,some (.list Tc6)⟩
theorem zy7:TEok Try.prog te26:=⟨TI.of Try.underlying26 rfl (by kernel_rfl),Try.underlying26,fun t h=>by cases h;exact ⟨rfl,rfl,by decide,rfl⟩⟩
def te28:TE:=⟨28,.struct [(0,26)] none,true,1,24,.agg ⟨[.slice none 0 0]⟩,some (.pair (.list Tc6) .unit)⟩
theorem zy8:TEok Try.prog te28:=⟨TI.of Try.underlying28 rfl (by kernel_rfl),⟨⟨_,Try.underlying28,rfl⟩,fun t h=>by cases h⟩,fun t h=>by cases h;exact ⟨rfl,rfl,by decide,rfl⟩⟩
def te29:TE:=⟨29,.int .i64,false,1,8,.int .i64 0,some (.int .i64)⟩
theorem zy9:TEok Try.prog te29:=⟨TI.of Try.underlying29 rfl (by kernel_rfl),Try.underlying29,fun t h=>by cases h;exact ⟨rfl,rfl,by decide,rfl⟩⟩
def te37:TE:=⟨37,.slice 25,false,1,24,.slice none 0 0,some (.list Tc1)⟩
theorem zza:TEok Try.prog te37:=⟨TI.of Try.underlying37 rfl (by kernel_rfl),Try.underlying37,fun t h=>by cases h;exact ⟨rfl,rfl,by decide,rfl⟩⟩
def te38:TE:=⟨38,.other,false,1,8,.nilFunc,none⟩
theorem zzb:TEok Try.prog te38:=⟨TI.of Try.underlying38 rfl (by kernel_rfl),trivial,fun t h=>by cases h⟩
def te41:TE:=⟨41,.int .u64,false,1,8,.int .u64 0,some (.int .u64)⟩
theorem zzc:TEok Try.prog te41:=⟨TI.of Try.underlying41 rfl (by kernel_rfl),Try.underlying41,fun t h=>by cases h;exact ⟨rfl,rfl,by decide,rfl⟩⟩
def te48:TE:=⟨48,.struct [(0,3),(1,3),(2,3),(3,3)] none,true,4,32,.agg ⟨[.int .i64 0,.int .i64 0,.int .i64 0,.int .i64 0]⟩,some Tc5⟩
theorem zzd:TEok Try.prog te48:=⟨TI.of Try.underlying48 rfl (by kernel_rfl),⟨⟨_,Try.underlying48,rfl⟩,fun t h=>by cases h⟩,fun t h=>by cases h;exact ⟨rfl,rfl,by decide,rfl⟩⟩
def te50:TE:=⟨50,.slice 4,false,1,24,.slice none 0 0,some (.list .bool)⟩
theorem zze:TEok Try.prog te50:=⟨TI.of Try.underlying50 rfl (by kernel_rfl),Try.underlying50,fun t h=>by cases h;exact ⟨rfl,rfl,by decide,rfl⟩⟩
def te52:TE:=⟨52,.struct [(0,3),(1,3),(2,3)] none,true,3,24,.agg ⟨[.int .i64 0,.int .i64 0,.int .i64 0]⟩,some Tc6⟩
theorem zzf:TEok Try.prog te52:=⟨TI.of Try.underlying52 rfl (by kernel_rfl),⟨⟨_,Try.underlying52,rfl⟩,fun t h=>by cases h⟩,fun t h=>by cases h;exact ⟨rfl,rfl,by decide,rfl⟩⟩
def te53:TE:=⟨53,.slice 50,false,1,24,.slice none 0 0,some (.list (.list .bool))⟩
theorem zzg:TEok Try.prog te53:=⟨TI.of Try.underlying53 rfl (by kernel_rfl),Try.underlying53,fun t h=>by cases h;exact ⟨rfl,rfl,by decide,rfl⟩⟩
def te70:TE:=⟨70,.int .i64,false,1,8,.int .i64 0,some (.int .i64)⟩
theorem zzi:TEok Try.prog te70:=⟨TI.of Try.underlying70 rfl (by kernel_rfl),Try.underlying70,fun t h=>by cases h;exact ⟨rfl,rfl,by decide,rfl⟩⟩
def te79:TE:=⟨79,.int .u64,false,1,8,.int .u64 0,some (.int .u64)⟩
theorem zzj:TEok Try.prog te79:=⟨TI.of Try.underlying79 rfl (by kernel_rfl),Try.underlying79,fun t h=>by cases h;exact ⟨rfl,rfl,by decide,rfl⟩⟩
def te80:TE:=⟨80,.int .u64,false,1,8,.int .u64 0,some (.int .u64)⟩
theorem zzk:TEok Try.prog te80:=⟨TI.of Try.underlying80 rfl (by kernel_rfl),Try.underlying80,fun t h=>by cases h;exact ⟨rfl,rfl,by decide,rfl⟩⟩
def te57:TE:=⟨57,.map 3 3 ((.int .i64)),false,1,8,.map none,none⟩
theorem zzh:TEok Try.prog te57:=⟨TI.of Try.underlying57 rfl (by kernel_rfl),⟨Try.underlying57,SK.int' Try.underlying3⟩,fun t h=>by cases h⟩
def TT:List TE:=[te3,te4,te5,te9,te22,te23,te25,te26,te28,te29,te37,te38,te41,te48,te50,te52,te53,te70,te79,te80,te57]
theorem zc6:TOK Try.prog TT:=TOK.cons zz2 (TOK.cons zz3 (TOK.cons zz4 (TOK.cons zz5 (TOK.cons zy4 (TOK.cons zy5 (TOK.cons zy6 (TOK.cons zy7 (TOK.cons zy8 (TOK.cons zy9 (TOK.cons zza (TOK.cons zzb (TOK.cons zzc (TOK.cons zzd (TOK.cons zze (TOK.cons zzf (TOK.cons zzg (TOK.cons zzi (TOK.cons zzj (TOK.cons zzk (TOK.cons zzh (TOK.nil)))))))))))))))))))))

def zjW:Shape:=⟨[(.int .i64),Tc1],[(0,.v 0),(1,.addr 1)],[]⟩
def zjV:Shape:=⟨[.bool],[(0,.v 0)],[]⟩
def zkI:CE:=⟨21,zjW,zjV,fun X=>zf3 X.1 X.2⟩
theorem zpZ:CE.ok Try.prog zkI:=CE.of (Γ:=[]) (by kernel_rfl) zc6 (GOK.nil) ⟨[],[],[],[]⟩ Try.func21 rfl Try.ntmps21 (rs:=[.tmp 3]) rfl (sig:=zjW) (out:=zjV) rfl Try.call21 (fun X=>by kernel_rfl)

def zjY:Shape:=⟨[(.int .i64)],[(0,.v 0)],[]⟩
def zjX:Shape:=⟨[.bool],[(0,.v 0)],[]⟩
def zkJ:CE:=⟨23,zjY,zjX,fun X=>zg9 X⟩
theorem zp0:CE.ok Try.prog zkJ:=CE.of (Γ:=[]) (by kernel_rfl) zc6 (GOK.nil) ⟨[],[],[],[]⟩ Try.func23 rfl Try.ntmps23 (rs:=[.tmp 2]) rfl (sig:=zjY) (out:=zjX) rfl Try.call23 (fun X=>by kernel_rfl)

def zhw:Shape:=⟨[(.list (.int .i64))],[(0,.v 0),(1,.fn 23 [])],[]⟩
def zhv:Shape:=⟨[(.int .i64)],[(0,.v 0)],[]⟩
def zh9:CE:=⟨30,zhw,zhv,fun X=>zjS X⟩
theorem zl1:CE.ok Try.prog zh9:=CE.of (Γ:=[zkJ]) (by kernel_rfl) zc6 (GOK.cons zp0 (GOK.nil)) ⟨[(2,⟨⟨[(.int .i64)],[(8,.v 0)],[]⟩,[4,5,9,10,11,12,13,14,15,16,17,18],[],[],0,[]⟩)],[],[],[]⟩ Try.func30 rfl Try.ntmps30 (rs:=[.tmp 4]) rfl (sig:=zhw) (out:=zhv) rfl Try.call30 (fun X=>by kernel_rfl)

def zgm:Shape:=⟨[(.list (.int .i64))],[(0,.v 0),(1,.fn 23 [])],[]⟩
def zgl:Shape:=⟨[.bool],[(0,.v 0)],[]⟩
def zgz:CE:=⟨22,zgm,zgl,fun X=>zfK X⟩
theorem zkb:CE.ok Try.prog zgz:=CE.of (Γ:=[zh9]) (by kernel_rfl) zc6 (GOK.cons zl1 (GOK.nil)) ⟨[],[],[],[]⟩ Try.func22 rfl Try.ntmps22 (rs:=[.tmp 4]) rfl (sig:=zgm) (out:=zgl) rfl Try.call22 (fun X=>by kernel_rfl)

def zmb:Shape:=⟨[(.int .i64)],[(0,.v 0)],[]⟩
def zma:Shape:=⟨[.bool],[(0,.v 0)],[]⟩
def zn3:CE:=⟨35,zmb,zma,fun X=>zl9 X⟩
theorem zsn:CE.ok Try.prog zn3:=CE.of (Γ:=[]) (by kernel_rfl) zc6 (GOK.nil) ⟨[],[],[],[]⟩ Try.func35 rfl Try.ntmps35 (rs:=[.tmp 2]) rfl (sig:=zmb) (out:=zma) rfl Try.call35 (fun X=>by kernel_rfl)

def zkh:Shape:=⟨[(.int .i64),(.int .i64)],[(0,.v 0),(1,.v 1)],[]⟩
def zkg:Shape:=⟨[(.int .i64)],[(0,.v 0)],[]⟩
def zlp:CE:=⟨32,zkh,zkg,fun X=>zfJ X.1 X.2⟩
theorem zqg:CE.ok Try.prog zlp:=CE.of (Γ:=[zn3]) (by kernel_rfl) zc6 (GOK.cons zsn (GOK.nil)) ⟨[],[],[],[]⟩ Try.func32 rfl Try.ntmps32 (rs:=[.tmp 4]) rfl (sig:=zkh) (out:=zkg) rfl Try.call32 (fun X=>by kernel_rfl)

def zqB:Shape:=⟨[(.list (.int .i64))],[(0,.v 0)],[]⟩
def zqA:Shape:=⟨[(.int .i64)],[(0,.v 0)],[]⟩
def zsm:CE:=⟨31,zqB,zqA,fun X=>zuo X⟩
theorem zvL:CE.ok Try.prog zsm:=CE.of (Γ:=[]) (by kernel_rfl) zc6 (GOK.nil) ⟨[(3,⟨⟨[(.int .i64)],[(8,.v 0)],[]⟩,[2,5,9,10,11,12,13,14,15,16],[],[],0,[]⟩)],[],[],[]⟩ Try.func31 rfl Try.ntmps31 (rs:=[.tmp 2]) rfl (sig:=zqB) (out:=zqA) rfl Try.call31 (fun X=>by kernel_rfl)

def zlG:Shape:=⟨[Tc5,Tc5],[(0,.v 0),(1,.v 1)],[]⟩
def zlF:Shape:=⟨[(.int .i64)],[(0,.v 0)],[]⟩
def zcX:CE:=⟨24,zlG,zlF,fun X=>zbB X.1 X.2⟩
theorem zdB:CE.ok Try.prog zcX:=CE.of (Γ:=[zlp,zsm]) (by kernel_rfl) zc6 (GOK.cons zqg (GOK.cons zvL (GOK.nil))) ⟨[],[],[(1,[(0,0),(0,1),(0,2),(0,3),(0,5),(0,6),(0,7),(0,8),(0,10),(0,11),(0,12),(0,13),(0,15),(0,16),(0,17),(0,18),(1,4),(1,9),(1,14),(1,19),(1,20),(1,21),(0,22)])],[]⟩ Try.func24 rfl Try.ntmps24 (rs:=[.tmp 4]) rfl (sig:=zlG) (out:=zlF) rfl Try.call24 (fun X=>by kernel_rfl)

def zlE:Shape:=⟨[Tc1],[(0,.v 0)],[]⟩
def zlD:Shape:=⟨[(.int .i64)],[(0,.v 0)],[]⟩
def zm6:CE:=⟨9,zlE,zlD,fun X=>zlf X⟩
theorem zr4:CE.ok Try.prog zm6:=CE.of (Γ:=[zkI,zgz,zcX]) (by kernel_rfl) zc6 (GOK.cons zpZ (GOK.cons zkb (GOK.cons zdB (GOK.nil)))) ⟨[(7,⟨⟨[(.int .i64)],[(42,.v 0)],[]⟩,[2,5,6,43,44,45,46,47,48,49,50,51,52,53,54,55,56,57,58,59,60,61,62,63,64,65,66,67,68,69,70,71,72,73,74,75,76,77,78,79,80,81,82,83,84,85,86],[],[0],1,[]⟩),(16,⟨⟨[(.int .i64)],[(93,.v 0)],[]⟩,[2,7,94,95,96,97,98,99,100,101,102,103,104,105,106,107,108,109,110,111,112,113],[],[0],1,[]⟩)],[(9,⟨⟨[.bool],[(6,.v 0)],[]⟩,[46,47,48,49,50,51,52,53],[],[0,1],2,[]⟩)],[(18,[(0,0),(0,1),(0,2),(0,3),(0,4),(0,5),(0,6),(0,7),(0,8),(0,9),(0,10),(0,11),(0,12),(0,13),(1,14),(0,15),(0,16)])],[]⟩ Try.func9 rfl Try.ntmps9 (rs:=[.tmp 2]) rfl (sig:=zlE) (out:=zlD) rfl Try.call9 (fun X=>by kernel_rfl)

def zjf:Shape:=⟨[(.int .i64),(.int .i64)],[(0,.v 0),(1,.v 1)],[]⟩
def zje:Shape:=⟨[(.int .i64)],[(0,.v 0)],[]⟩
def zhp:CE:=⟨10,zjf,zje,fun X=>zb5 X.1 X.2⟩
theorem zj1:CE.ok Try.prog zhp:=CE.of (Γ:=[]) (by kernel_rfl) zc6 (GOK.nil) ⟨[],[],[],[]⟩ Try.func10 rfl Try.ntmps10 (rs:=[.tmp 4]) rfl (sig:=zjf) (out:=zje) rfl Try.call10 (fun X=>by kernel_rfl)

def znj:Shape:=⟨[Tc1,(.int .i64),(.int .i64),(.int .i64)],[(0,.v 0),(1,.v 1),(2,.v 2),(3,.v 3)],[]⟩
def zni:Shape:=⟨[(.int .i64)],[(0,.v 0)],[]⟩
def zoy:CE:=⟨13,znj,zni,fun X=>zkZ X.1 X.2.1 X.2.2.1 X.2.2.2⟩
theorem ztd:CE.ok Try.prog zoy:=CE.of (Γ:=[]) (by kernel_rfl) zc6 (GOK.nil) ⟨[(3,⟨⟨[(.int .i64),(.int .i64)],[(9,.v 0),(15,.v 1)],[]⟩,[11,16,17,18,19,20,21,22,23,24,25,26,27,28,29,30,31,32,33,34,35,36,37,38,39,40,41,42,43,44,45,46,47,48,49,50,51,52,53,54],[],[0],1,[]⟩)],[],[],[]⟩ Try.func13 rfl Try.ntmps13 (rs:=[.tmp 8]) rfl (sig:=znj) (out:=zni) rfl Try.call13 (fun X=>by kernel_rfl)

def zjh:Shape:=⟨[(.int .i64),(.int .i64),(.int .i64),Tc1,Tc1],[(0,.v 0),(1,.v 1),(2,.v 2),(3,.addr 3),(4,.ptr 100000 0),(5,.addr 4)],[(100000,.box 38 [.fn 10 []])]⟩
def zjg:Shape:=⟨[(.int .i64)],[(0,.v 0)],[(100000,.box 38 [.fn 10 []])]⟩
def zj2:CE:=⟨12,zjh,zjg,fun X=>zcw X.1 X.2.1 X.2.2.1 X.2.2.2.1 X.2.2.2.2⟩
theorem zoO:CE.ok Try.prog zj2:=CE.of (Γ:=[zhp,zoy]) (by kernel_rfl) zc6 (GOK.cons zj1 (GOK.cons ztd (GOK.nil))) ⟨[],[],[(1,[(0,0),(0,1),(0,2),(0,3),(0,5),(0,6),(0,9),(0,10),(0,11),(0,12),(0,14),(0,15),(1,4),(1,7),(1,8),(1,13),(1,16),(1,17),(0,18),(0,19),(0,20)])],[]⟩ Try.func12 rfl Try.ntmps12 (rs:=[.tmp 9]) rfl (sig:=zjh) (out:=zjg) rfl Try.call12 (fun X=>by kernel_rfl)

def zkS:Shape:=⟨[(.int .i64),(.list (.int .i64)),(.list (.int .i64)),(.list (.int .i64))],[(0,.v 0),(1,.ptr 100000 0),(2,.ptr 100001 0)],[(100000,.box 57 [.own 100002]),(100001,.box 23 [.own 100003]),(100002,.box 57 [.v 1,.v 2]),(100003,.arr 3 3)]⟩
def zkR:Shape:=⟨[(.int .i64),(.list (.int .i64)),(.list (.int .i64)),(.list (.int .i64))],[(0,.v 0)],[(100000,.box 57 [.own 100002]),(100001,.box 23 [.own 51]),(51,.arr 3 1),(100002,.box 57 [.v 2,.v 3])]⟩
def zlL:CE:=⟨25,zkS,zkR,fun X=>zcn X.1 X.2.1 X.2.2.1 X.2.2.2⟩
theorem zqu:CE.ok Try.prog zlL:=CE.of (Γ:=[]) (by kernel_rfl) zc6 (GOK.nil) ⟨[],[],[],[]⟩ Try.func25 rfl Try.ntmps25 (rs:=[.tmp 4]) rfl (sig:=zkS) (out:=zkR) rfl Try.call25 (fun X=>by kernel_rfl)

def zm9:Shape:=⟨[Tc1,(.int .i64)],[(0,.v 0),(1,.v 1)],[]⟩
def zm8:Shape:=⟨[.bool],[(0,.v 0)],[]⟩
def zot:CE:=⟨15,zm9,zm8,fun X=>zm7 X.1 X.2⟩
theorem zta:CE.ok Try.prog zot:=CE.of (Γ:=[]) (by kernel_rfl) zc6 (GOK.nil) ⟨[(2,⟨⟨[(.int .i64)],[(10,.v 0)],[]⟩,[4,5,6,11,12,13,14,15,16,17,18,19,20,21,22,23,24],[],[0],1,[]⟩)],[],[],[]⟩ Try.func15 rfl Try.ntmps15 (rs:=[.tmp 4]) rfl (sig:=zm9) (out:=zm8) rfl Try.call15 (fun X=>by kernel_rfl)

def zjj:Shape:=⟨[(.int .i64),Tc1,Tc1],[(0,.v 0),(1,.addr 1),(2,.ptr 100000 0),(3,.addr 2)],[(100000,.box 38 [.fn 10 []])]⟩
def zji:Shape:=⟨[(.int .i64)],[(0,.v 0)],[(100000,.box 38 [.fn 10 []])]⟩
def zj3:CE:=⟨14,zjj,zji,fun X=>zgv X.1 X.2.1 X.2.2⟩
theorem zoP:CE.ok Try.prog zj3:=CE.of (Γ:=[zhp,zot]) (by kernel_rfl) zc6 (GOK.cons zj1 (GOK.cons zta (GOK.nil))) ⟨[],[],[(1,[(0,0),(0,1),(0,2),(1,3),(1,4),(0,5),(0,6),(0,7),(0,8),(1,9),(1,10),(0,11),(0,12)])],[]⟩ Try.func14 rfl Try.ntmps14 (rs:=[.tmp 5]) rfl (sig:=zjj) (out:=zji) rfl Try.call14 (fun X=>by kernel_rfl)

def zlo:Shape:=⟨[(.int .u64)],[(0,.v 0)],[]⟩
def zln:Shape:=⟨[(.int .i64)],[(0,.v 0)],[]⟩
def zl7:CE:=⟨45,zlo,zln,fun X=>znp X⟩
theorem zra:CE.ok Try.prog zl7:=CE.of (Γ:=[]) (by kernel_rfl) zc6 (GOK.nil) ⟨[],[(3,⟨⟨[(.int .u64),(.int .i64)],[(0,.v 0),(2,.v 1)],[]⟩,[3,4,5,6],[],[],0,[]⟩),(6,⟨⟨[(.int .u64),(.int .i64)],[(0,.v 0),(2,.v 1)],[]⟩,[7,8,9,10,11,12],[],[],0,[]⟩),(9,⟨⟨[(.int .u64),(.int .i64)],[(0,.v 0),(2,.v 1)],[]⟩,[13,14,15,16,17,18],[],[],0,[]⟩)],[],[]⟩ Try.func45 rfl Try.ntmps45 (rs:=[.tmp 2]) rfl (sig:=zlo) (out:=zln) rfl Try.call45 (fun X=>by kernel_rfl)

def zn0:Shape:=⟨[(.int .u64)],[(0,.v 0)],[]⟩
def znZ:Shape:=⟨[(.int .i64)],[(0,.v 0)],[]⟩
def zlR:CE:=⟨34,zn0,znZ,fun X=>zl6 X⟩
theorem zpc:CE.ok Try.prog zlR:=CE.of (Γ:=[zl7]) (by kernel_rfl) zc6 (GOK.cons zra (GOK.nil)) ⟨[],[],[],[]⟩ Try.func34 rfl Try.ntmps34 (rs:=[.tmp 2]) rfl (sig:=zn0) (out:=znZ) rfl Try.call34 (fun X=>by kernel_rfl)

def zea:Shape:=⟨[(.int .i64),(.int .i64),Tc4],[(0,.own 100000),(1,.v 0),(2,.v 1),(3,.fn 24 [])],[(100000,.arr 48 2)]⟩
def zd9:Shape:=⟨[Tc4],[],[(100000,.arr 48 0)]⟩
def zej:CE:=⟨36,zea,zd9,fun X=>zb1 X.1 X.2.1 X.2.2⟩
theorem zg7:CE.ok Try.prog zej:=CE.of (Γ:=[zcX]) (by kernel_rfl) zc6 (GOK.cons zdB (GOK.nil)) ⟨[(1,⟨⟨[(.int .i64),Tc4],[(0,.own 100000),(8,.v 0)],[(100000,.arr 48 1)]⟩,[9,12,13,14,15,16,17,18,19,20,21,22,23,24,25,26,27,28,29,30,31,32,33,34,35,36,37,38,39,40,41,42,43,44,45,46,47,48,49,50,51,52],[],[],0,[]⟩),(4,⟨⟨[(.int .i64),Tc4],[(0,.own 100000),(9,.v 0)],[(100000,.arr 48 1)]⟩,[18,19,20,21,22,23,24,25,26,27,28,29,30,31,32,33,34,35,36,37,38,39,40,41,42,43,44,45,46,47,48,49,50,51,52],[],[],0,[]⟩)],[],[(4,[(0,0),(0,1),(0,2),(0,3),(0,4),(0,5),(0,6),(0,7),(0,8),(0,9),(0,10),(0,11),(0,12),(0,13),(1,14),(0,15),(0,16)]),(6,[(0,0),(0,1),(0,2),(0,3),(0,4),(0,5),(0,6),(0,7),(0,8),(0,9),(0,10),(0,11),(0,12),(0,13),(0,14),(2,15),(0,16),(2,17)])],[]⟩ Try.func36 rfl Try.ntmps36 (rs:=[]) rfl (sig:=zea) (out:=zd9) rfl Try.call36 (fun X=>by kernel_rfl)

def zfj:Shape:=⟨[(.int .i64),(.int .i64),(.int .i64),Tc4],[(0,.own 100000),(1,.v 0),(2,.v 1),(3,.v 2),(4,.fn 24 [])],[(100000,.arr 48 3)]⟩
def zfi:Shape:=⟨[Tc4],[],[(100000,.arr 48 0)]⟩
def zfy:CE:=⟨46,zfj,zfi,fun X=>zcm X.1 X.2.1 X.2.2.1 X.2.2.2⟩
theorem ziN:CE.ok Try.prog zfy:=CE.of (Γ:=[zcX]) (by kernel_rfl) zc6 (GOK.cons zdB (GOK.nil)) ⟨[(1,⟨⟨[(.int .i64),Tc4],[(0,.own 100000),(10,.v 0)],[(100000,.arr 48 1)]⟩,[11,13,14,15,16,17,18,19,20,21,22,23,24,25,26,27,28,29,30,31,32,33,34,35,36,37,38,39,40,41,42,43,44,45,46,47,48,49,50,51,52,53,54,55,56,57,58,59,60,61,62,63,64,65,66,67,68,69,70,71,72,73,74,75,76,77,78,79,80,81],[],[],0,[]⟩)],[(3,⟨⟨[.bool],[(40,.v 0)],[]⟩,[19,20,21,22,23,24,25,26,27,28,29,30,31,32,33,34,35,36,37,38,39],[],[],0,[]⟩),(4,⟨⟨[(.int .i64)],[(11,.v 0)],[]⟩,[19,20,21,22,23,24,25,26,27,28,29,30,31,32,33,34,35,36,37,38,39,40,41,42],[],[],0,[]⟩)],[(3,[(0,0),(0,1),(0,2),(0,3),(0,4),(0,5),(0,6),(0,7),(0,8),(0,9),(0,10),(0,11),(0,12),(0,13),(0,14),(0,15),(0,16),(0,17),(0,18),(1,19),(0,20),(0,21)]),(5,[(0,0),(0,1),(0,2),(0,3),(0,4),(0,5),(0,6),(0,7),(0,8),(0,9),(0,10),(0,11),(0,12),(1,13),(0,14),(0,15)]),(6,[(0,0),(0,1),(0,2),(0,3),(0,4),(0,5),(0,6),(0,7),(0,8),(0,9),(0,10),(0,11),(0,12),(0,13),(0,14),(0,15),(0,16),(0,17),(0,18),(0,19),(0,20),(2,21),(0,22),(2,23)])],[]⟩ Try.func46 rfl Try.ntmps46 (rs:=[]) rfl (sig:=zfj) (out:=zfi) rfl Try.call46 (fun X=>by kernel_rfl)

def zff:Shape:=⟨[(.int .i64),(.int .i64),Tc4],[(0,.own 100000),(1,.v 0),(2,.v 1),(3,.fn 24 [])],[(100000,.arr 48 2)]⟩
def zfe:Shape:=⟨[Tc4],[],[(100000,.arr 48 0)]⟩
def zft:CE:=⟨37,zff,zfe,fun X=>zdl X.1 X.2.1 X.2.2⟩
theorem ziM:CE.ok Try.prog zft:=CE.of (Γ:=[zfy]) (by kernel_rfl) zc6 (GOK.cons ziN (GOK.nil)) ⟨[(4,⟨⟨[(.int .i64),Tc4],[(0,.own 100000),(11,.v 0)],[(100000,.arr 48 1)]⟩,[20,21,22,23,24,25,26,27,28,29],[],[],0,[]⟩),(8,⟨⟨[(.int .i64),Tc4],[(0,.own 100000),(12,.v 0)],[(100000,.arr 48 1)]⟩,[32,33,34,35,36,37,38,39,40,41,42,43,44,45,46,47,48,49,50,51,52,53,54,55,56,57,58,59],[],[],0,[]⟩)],[],[(10,[(0,0),(0,1),(0,2),(0,3),(0,4),(0,5),(0,6),(0,7),(0,8),(0,9),(0,10),(0,11),(0,12),(0,13),(0,14),(0,15),(0,16),(2,17),(0,18),(2,19)])],[]⟩ Try.func37 rfl Try.ntmps37 (rs:=[]) rfl (sig:=zff) (out:=zfe) rfl Try.call37 (fun X=>by kernel_rfl)

def zfv:Shape:=⟨[(.int .i64)],[(0,.v 0)],[]⟩
def zfu:Shape:=⟨[(.int .u64)],[(0,.v 0)],[]⟩
def zfX:CE:=⟨47,zfv,zfu,fun X=>zdy X⟩
theorem zja:CE.ok Try.prog zfX:=CE.of (Γ:=[zlR]) (by kernel_rfl) zc6 (GOK.cons zpc (GOK.nil)) ⟨[],[],[],[]⟩ Try.func47 rfl Try.ntmps47 (rs:=[.tmp 2]) rfl (sig:=zfv) (out:=zfu) rfl Try.call47 (fun X=>by kernel_rfl)

def zf2:Shape:=⟨[(.int .u64)],[(0,.ptr 100000 0)],[(100000,.box 80 [.v 0])]⟩
def zf1:Shape:=⟨[(.int .u64),(.int .u64)],[(0,.v 0)],[(100000,.box 80 [.v 1])]⟩
def zgu:CE:=⟨48,zf2,zf1,fun X=>zfn X⟩
theorem zjJ:CE.ok Try.prog zgu:=CE.of (Γ:=[]) (by kernel_rfl) zc6 (GOK.nil) ⟨[],[],[(1,[(0,0),(0,1),(0,2),(0,3),(0,4),(0,5),(0,6),(0,7),(0,8),(2,9)]),(2,[(0,0),(0,1),(0,2),(0,3),(0,4),(0,5),(0,6),(0,7),(0,8),(2,9)]),(3,[(0,0),(0,1),(0,2),(0,3),(0,4),(0,5),(0,6),(0,7),(0,8),(2,9)])],[]⟩ Try.func48 rfl Try.ntmps48 (rs:=[.tmp 2]) rfl (sig:=zf2) (out:=zf1) rfl Try.call48 (fun X=>by kernel_rfl)

def zd8:Shape:=⟨[(.int .i64),(.int .i64),Tc4],[(0,.own 100000),(1,.v 0),(2,.v 1),(3,.fn 24 [])],[(100000,.arr 48 2)]⟩
def zd7:Shape:=⟨[Tc4],[],[(100000,.arr 48 0)]⟩
def zei:CE:=⟨38,zd8,zd7,fun X=>zb0 X.1 X.2.1 X.2.2⟩
theorem zg4:CE.ok Try.prog zei:=CE.of (Γ:=[zgu,zfX]) (by kernel_rfl) zc6 (GOK.cons zjJ (GOK.cons zja (GOK.nil))) ⟨[(5,⟨⟨[(.int .i64),Tc4,(.int .u64)],[(0,.own 100000),(9,.ptr 0 0),(11,.v 0)],[(100000,.arr 48 1),(0,.box 80 [.v 2])]⟩,[12,28,29,30,31,32,33,34,35,36,37,38,39,40,41,42,43,44,45,46,47,48,49,50,51,52,53,54,55,56,57,58,59,60,61,62,63,64,65,66],[],[],1,[]⟩)],[(9,⟨⟨[(.int .i64)],[(12,.v 0)],[]⟩,[43,44,45,46,47,48],[],[0],1,[]⟩)],[(10,[(0,0),(0,1),(0,2),(0,3),(0,4),(0,5),(0,6),(0,7),(0,8),(0,9),(0,10),(0,11),(0,12),(0,13),(0,14),(0,15),(0,16),(2,17),(0,18),(2,19)])],[]⟩ Try.func38 rfl Try.ntmps38 (rs:=[]) rfl (sig:=zd8) (out:=zd7) rfl Try.call38 (fun X=>by kernel_rfl)

def zfZ:Shape:=⟨[Tc4,(.int .i64),(.int .i64),(.int .i64)],[(0,.v 0),(1,.v 1),(2,.v 2),(3,.ptr 100000 0),(4,.fn 24 [])],[(100000,.box 3 [.v 3])]⟩
def zfY:Shape:=⟨[(.int .i64),(.int .i64),(.int .i64)],[(0,.v 0),(1,.v 1)],[(100000,.box 3 [.v 2])]⟩
def zgs:CE:=⟨51,zfZ,zfY,fun X=>zb7 X.1 X.2.1 X.2.2.1 X.2.2.2⟩
theorem zjI:CE.ok Try.prog zgs:=CE.of (Γ:=[zcX]) (by kernel_rfl) zc6 (GOK.cons zdB (GOK.nil)) ⟨[],[],[(1,[(0,0),(0,1),(0,2),(0,3),(0,4),(0,5),(0,6),(0,7),(0,8),(1,9),(0,10)])],[]⟩ Try.func51 rfl Try.ntmps51 (rs:=[.tmp 10,.tmp 11]) rfl (sig:=zfZ) (out:=zfY) rfl Try.call51 (fun X=>by kernel_rfl)

def zfW:Shape:=⟨[Tc4,(.int .i64),(.int .i64),(.int .i64),(.int .i64)],[(0,.v 0),(1,.v 1),(2,.v 2),(3,.v 3),(4,.ptr 100000 0),(5,.fn 24 [])],[(100000,.box 3 [.v 4])]⟩
def zfV:Shape:=⟨[(.int .i64),(.int .i64)],[(0,.v 0)],[(100000,.box 3 [.v 1])]⟩
def zeu:CE:=⟨50,zfW,zfV,fun X=>zcN X.1 X.2.1 X.2.2.1 X.2.2.2.1 X.2.2.2.2⟩
theorem zgr:CE.ok Try.prog zeu:=CE.of (Γ:=[zgs]) (by kernel_rfl) zc6 (GOK.cons zjI (GOK.nil)) ⟨[],[],[],[]⟩ Try.func50 rfl Try.ntmps50 (rs:=[.tmp 12]) rfl (sig:=zfW) (out:=zfV) rfl Try.call50 (fun X=>by kernel_rfl)

def zdV:Shape:=⟨[Tc4,(.int .i64),(.int .i64)],[(0,.v 0),(1,.v 1),(2,.ptr 100000 0),(3,.fn 24 [])],[(100000,.box 3 [.v 2])]⟩
def zdU:Shape:=⟨[(.int .i64),(.int .i64)],[(0,.v 0)],[(100000,.box 3 [.v 1])]⟩
def zeb:CE:=⟨49,zdV,zdU,fun X=>za9 X.1 X.2.1 X.2.2⟩
theorem zgK:CE.ok Try.prog zeb:=CE.of (Γ:=[zeu]) (by kernel_rfl) zc6 (GOK.cons zgr (GOK.nil)) ⟨[],[],[],[]⟩ Try.func49 rfl Try.ntmps49 (rs:=[.tmp 8]) rfl (sig:=zdV) (out:=zdU) rfl Try.call49 (fun X=>by kernel_rfl)

def zeB:Shape:=⟨[Tc4,(.int .i64),(.int .i64)],[(0,.v 0),(1,.v 1),(2,.v 2),(3,.fn 24 [])],[]⟩
def zeA:Shape:=⟨[(.int .i64),(.int .i64)],[(0,.v 0),(1,.v 1)],[]⟩
def zeN:CE:=⟨39,zeB,zeA,fun X=>zct X.1 X.2.1 X.2.2⟩
theorem zhD:CE.ok Try.prog zeN:=CE.of (Γ:=[zeb,zeu]) (by kernel_rfl) zc6 (GOK.cons zgK (GOK.cons zgr (GOK.nil))) ⟨[],[(10,⟨⟨[(.int .i64),(.int .i64),(.int .i64),(.int .i64)],[(11,.ptr 0 0),(12,.v 0),(13,.v 1),(14,.v 2)],[(0,.box 3 [.v 3])]⟩,[35,36,37,38,39,40,41,42,43,44,45,46,47,48],[],[],1,[]⟩),(11,⟨⟨[(.int .i64),(.int .i64)],[(11,.ptr 0 0),(13,.v 0)],[(0,.box 3 [.v 1])]⟩,[12,14,33,34,35,36,37,38,39,40,41,42,43,44,45,46,47,48,49,50,51,52,53,54],[],[],1,[]⟩)],[],[]⟩ Try.func39 rfl Try.ntmps39 (rs:=[.tmp 8,.tmp 9]) rfl (sig:=zeB) (out:=zeA) rfl Try.call39 (fun X=>by kernel_rfl)

def zeo:Shape:=⟨[(.int .i64),(.int .i64),Tc4],[(0,.own 100000),(1,.v 0),(2,.v 1),(3,.fn 24 [])],[(100000,.arr 48 2)]⟩
def zen:Shape:=⟨[Tc4],[],[(100000,.arr 48 0)]⟩
def zeI:CE:=⟨40,zeo,zen,fun X=>zcj X.1 X.2.1 X.2.2⟩
theorem zhn:CE.ok Try.prog zeI:=CE.of (Γ:=[]) (by kernel_rfl) zc6 (GOK.nil) ⟨[(2,⟨⟨[(.int .i64),(.int .i64),Tc4],[(0,.own 100000),(8,.v 0),(9,.v 1)],[(100000,.arr 48 2)]⟩,[13,14,15,16,17,18,19,20,21,22,23,24,25,26,27,28,29,30,31,32,33],[],[],0,[]⟩)],[],[(3,[(0,0),(0,1),(0,2),(0,3),(0,4),(0,5),(0,6),(0,7),(0,8),(0,9),(0,10),(0,11),(0,12),(2,13),(0,14),(2,15)])],[]⟩ Try.func40 rfl Try.ntmps40 (rs:=[]) rfl (sig:=zeo) (out:=zen) rfl Try.call40 (fun X=>by kernel_rfl)

def zcJ:Shape:=⟨[(.int .i64),(.int .i64),Tc4],[(0,.own 100000),(1,.v 0),(2,.v 1),(3,.fn 24 [])],[(100000,.arr 48 2)]⟩
def zcI:Shape:=⟨[.bool,Tc4],[(0,.v 0)],[(100000,.arr 48 1)]⟩
def zcO:CE:=⟨41,zcJ,zcI,fun X=>zbj X.1 X.2.1 X.2.2⟩
theorem zfl:CE.ok Try.prog zcO:=CE.of (Γ:=[zcX]) (by kernel_rfl) zc6 (GOK.cons zdB (GOK.nil)) ⟨[(3,⟨⟨[(.int .i64),(.int .i64),Tc4],[(0,.own 100000),(9,.v 0),(10,.v 1)],[(100000,.arr 48 2)]⟩,[8,11,12,15,16,17,18,19,20,21,22,23,24,25,26,27,28,29,30,31,32,33,34,35,36,37,38,39,40,41,42,43,44,45,46,47,48,49,50,51,52,53,54,55,56,57,58,59,60,61,62,63,64,65,66,67,68,69,70,71,72,73,74,75,76,77,78,79,80,81,82,83,84,85,86,87,88,89,90,91,92,93,94,95,96,97,98,99,100,101,102,103,104,105,106,107,108,109,110,111,112,113,114,115,116,117,118,119,120,121,122,123,124,125,126,127,128,129,130,131,132,133,134,135,136,137,138,139,140],[],[],0,[]⟩),(5,⟨⟨[(.int .i64)],[(9,.v 0)],[]⟩,[19,20,21,22,23,24,25,26,27,28,29,30,31,32,33,34,35,36,37,38],[],[],0,[]⟩),(14,⟨⟨[(.int .i64),Tc4],[(0,.own 100000),(11,.v 0)],[(100000,.arr 48 1)]⟩,[68,69,70,71,72,73,74,75,76,77,78,79,80,81,82,83,84,85,86,87,88,89,90,91,92,93,94,95,96,97,98,99,100],[],[],0,[]⟩),(20,⟨⟨[(.int .i64),Tc4],[(0,.own 100000),(12,.v 0)],[(100000,.arr 48 1)]⟩,[107,108,109,110,111,112,113,114,115,116,117,118,119,120,121,122,123,124,125,126,127,128,129,130,131,132,133,134,135,136,137,138,139,140],[],[],0,[]⟩)],[(6,⟨⟨[(.int .i64)],[(9,.v 0)],[]⟩,[19,20,21,22,23,24,25,26,27,28,29,30,31,32,33,34,35,36,37,38],[],[],0,[]⟩),(15,⟨⟨[Tc4],[(0,.own 100000)],[(100000,.arr 48 0)]⟩,[11,62,63,64,65,66,67,68,69,70,71,72,73,74,75,76,77,78,79,80,81,82,83,84,85,86,87,88,89,90,91,92,93,94,95,96,97,98,99,100],[],[],0,[]⟩)],[(5,[(0,0),(0,1),(0,2),(0,3),(0,4),(0,5),(0,6),(0,7),(0,8),(0,9),(0,10),(0,11),(0,12),(0,13),(1,14),(0,15),(0,16),(0,17)]),(11,[(0,0),(0,1),(0,2),(0,3),(0,4),(0,5),(0,6),(0,7),(0,8),(0,9),(0,10),(0,11),(0,12),(0,13),(0,14),(2,15),(0,16),(2,17)]),(16,[(0,0),(0,1),(0,2),(0,3),(0,4),(0,5),(0,6),(0,7),(0,8),(0,9),(1,10),(0,11),(0,12)]),(22,[(0,0),(0,1),(0,2),(0,3),(0,4),(0,5),(0,6),(0,7),(0,8),(0,9),(1,10),(0,11),(0,12)]),(23,[(0,0),(0,1),(0,2),(0,3),(0,4),(0,5),(0,6),(0,7),(0,8),(0,9),(0,10),(0,11),(0,12),(0,13),(0,14),(2,15),(0,16),(2,17)]),(17,[(0,0),(0,1),(0,2),(0,3),(0,4),(0,5),(0,6),(0,7),(0,8),(0,9),(0,10),(0,11),(0,12),(0,13),(0,14),(2,15),(0,16),(2,17)])],[]⟩ Try.func41 rfl Try.ntmps41 (rs:=[.tmp 8]) rfl (sig:=zcJ) (out:=zcI) rfl Try.call41 (fun X=>by kernel_rfl)

def zdZ:Shape:=⟨[(.int .i64),(.int .i64),(.int .i64),Tc4],[(0,.own 100000),(1,.v 0),(2,.v 1),(3,.v 2),(4,.fn 24 [])],[(100000,.arr 48 3)]⟩
def zdY:Shape:=⟨[(.int .i64),Tc4],[(0,.v 0)],[(100000,.arr 48 1)]⟩
def zec:CE:=⟨42,zdZ,zdY,fun X=>zbQ X.1 X.2.1 X.2.2.1 X.2.2.2⟩
theorem zgP:CE.ok Try.prog zec:=CE.of (Γ:=[zcX]) (by kernel_rfl) zc6 (GOK.cons zdB (GOK.nil)) ⟨[(10000003,⟨⟨[(.int .i64),(.int .i64),Tc4],[(0,.own 100000),(11,.v 0),(12,.v 1)],[(100000,.arr 48 2)]⟩,[31,32,33,34,35,36,37,38,39,40,41,42,43,44,45,46,47,48,49,50,51,52,53,54,55,56,57,58,59,60,61,62,63,64,65,66,67,68,69,70,71,72,73,74,75,76,77,78,79,80,81,82,83,84,85,86,87,88],[],[],0,[]⟩),(3,⟨⟨[(.int .i64)],[(11,.v 0)],[]⟩,[31,32,33,34,35,36,37,38,39,40,41,42,43,44,45,46,47,48,49],[],[],0,[]⟩),(5,⟨⟨[(.int .i64)],[(12,.v 0)],[]⟩,[50,51,52,53,54,55,56,57,58,59,60,61,62,63,64,65,66,67],[],[],0,[]⟩)],[(4,⟨⟨[(.int .i64)],[(11,.v 0)],[]⟩,[31,32,33,34,35,36,37,38,39,40,41,42,43,44,45,46,47,48,49],[],[],0,[]⟩),(6,⟨⟨[(.int .i64)],[(12,.v 0)],[]⟩,[50,51,52,53,54,55,56,57,58,59,60,61,62,63,64,65,66,67],[],[],0,[]⟩)],[(1,[(0,0),(0,1),(0,2),(0,3),(0,4),(0,5),(0,6),(0,7),(0,8),(0,9),(0,10),(0,11),(0,12),(2,13),(0,14),(2,15)]),(3,[(0,0),(0,1),(0,2),(0,3),(0,4),(0,5),(0,6),(0,7),(0,8),(0,9),(0,10),(0,11),(0,12),(1,13),(0,14),(0,15),(0,16)]),(5,[(0,0),(0,1),(0,2),(0,3),(0,4),(0,5),(0,6),(0,7),(0,8),(0,9),(0,10),(0,11),(0,12),(1,13),(0,14),(0,15)]),(8,[(0,0),(0,1),(0,2),(0,3),(0,4),(0,5),(0,6),(0,7),(0,8),(0,9),(0,10),(0,11),(0,12),(2,13),(0,14),(2,15)])],[]⟩ Try.func42 rfl Try.ntmps42 (rs:=[.tmp 10]) rfl (sig:=zdZ) (out:=zdY) rfl Try.call42 (fun X=>by kernel_rfl)

def ze4:Shape:=⟨[(.int .i64),(.int .i64),(.int .i64),Tc4],[(0,.own 100000),(1,.v 0),(2,.v 1),(3,.v 2),(4,.fn 24 [])],[(100000,.arr 48 3)]⟩
def ze3:Shape:=⟨[(.int .i64),.bool,Tc4],[(0,.v 0),(1,.v 1)],[(100000,.arr 48 2)]⟩
def zfg:CE:=⟨43,ze4,ze3,fun X=>zcT X.1 X.2.1 X.2.2.1 X.2.2.2⟩
theorem zih:CE.ok Try.prog zfg:=CE.of (Γ:=[zcX]) (by kernel_rfl) zc6 (GOK.cons zdB (GOK.nil)) ⟨[(3,⟨⟨[(.int .i64)],[(12,.v 0)],[]⟩,[32,33,34,35,36,37,38,39,40,41,42,43,44,45,46,47,48,49],[],[],0,[]⟩),(5,⟨⟨[(.int .i64)],[(13,.v 0)],[]⟩,[50,51,52,53,54,55,56,57,58,59,60,61,62,63,64,65,66,67,68],[],[],0,[]⟩),(10000013,⟨⟨[(.int .i64),(.int .i64),Tc4],[(0,.own 100000),(12,.v 0),(13,.v 1)],[(100000,.arr 48 2)]⟩,[105,106,107,108,109,110,111,112,113,114,115,116,117,118,119,120,121,122,123,124,125,126,127,128,129,130,131,132,133,134,135,136,137,138,139,140,141,142,143,144,145,146,147,148,149,150,151,152,153,154,155,156,157,158,159,160,161,162],[],[],0,[]⟩),(13,⟨⟨[(.int .i64)],[(12,.v 0)],[]⟩,[105,106,107,108,109,110,111,112,113,114,115,116,117,118,119,120,121,122],[],[],0,[]⟩),(15,⟨⟨[(.int .i64)],[(13,.v 0)],[]⟩,[123,124,125,126,127,128,129,130,131,132,133,134,135,136,137,138,139,140,141],[],[],0,[]⟩)],[(4,⟨⟨[(.int .i64)],[(12,.v 0)],[]⟩,[32,33,34,35,36,37,38,39,40,41,42,43,44,45,46,47,48,49],[],[],0,[]⟩),(6,⟨⟨[(.int .i64)],[(13,.v 0)],[]⟩,[50,51,52,53,54,55,56,57,58,59,60,61,62,63,64,65,66,67,68],[],[],0,[]⟩),(14,⟨⟨[(.int .i64)],[(12,.v 0)],[]⟩,[105,106,107,108,109,110,111,112,113,114,115,116,117,118,119,120,121,122],[],[],0,[]⟩),(16,⟨⟨[(.int .i64)],[(13,.v 0)],[]⟩,[123,124,125,126,127,128,129,130,131,132,133,134,135,136,137,138,139,140,141],[],[],0,[]⟩)],[(1,[(0,0),(0,1),(0,2),(0,3),(0,4),(0,5),(0,6),(0,7),(0,8),(0,9),(0,10),(0,11),(0,12),(2,13),(0,14),(2,15)]),(3,[(0,0),(0,1),(0,2),(0,3),(0,4),(0,5),(0,6),(0,7),(0,8),(0,9),(0,10),(0,11),(0,12),(1,13),(0,14),(0,15)]),(5,[(0,0),(0,1),(0,2),(0,3),(0,4),(0,5),(0,6),(0,7),(0,8),(0,9),(0,10),(0,11),(0,12),(1,13),(0,14),(0,15),(0,16)]),(8,[(0,0),(0,1),(0,2),(0,3),(0,4),(0,5),(0,6),(0,7),(0,8),(0,9),(0,10),(0,11),(0,12),(2,13),(0,14),(2,15)]),(10,[(0,0),(0,1),(0,2),(0,3),(0,4),(0,5),(0,6),(0,7),(0,8),(0,9),(0,10),(0,11),(0,12),(2,13),(0,14),(2,15)]),(13,[(0,0),(0,1),(0,2),(0,3),(0,4),(0,5),(0,6),(0,7),(0,8),(0,9),(0,10),(0,11),(0,12),(1,13),(0,14),(0,15)]),(15,[(0,0),(0,1),(0,2),(0,3),(0,4),(0,5),(0,6),(0,7),(0,8),(0,9),(0,10),(0,11),(0,12),(1,13),(0,14),(0,15),(0,16)]),(21,[(0,0),(0,1),(0,2),(0,3),(0,4),(0,5),(0,6),(0,7),(0,8),(0,9),(0,10),(0,11),(0,12),(2,13),(0,14),(2,15)]),(18,[(0,0),(0,1),(0,2),(0,3),(0,4),(0,5),(0,6),(0,7),(0,8),(0,9),(0,10),(0,11),(0,12),(2,13),(0,14),(2,15)])],[]⟩ Try.func43 rfl Try.ntmps43 (rs:=[.tmp 10,.tmp 11]) rfl (sig:=ze4) (out:=ze3) rfl Try.call43 (fun X=>by kernel_rfl)

def zfx:Shape:=⟨[(.int .i64),(.int .i64),(.int .i64),Tc4],[(0,.own 100000),(1,.v 0),(2,.v 1),(3,.v 2),(4,.fn 24 [])],[(100000,.arr 48 3)]⟩
def zfw:Shape:=⟨[Tc4],[],[(100000,.arr 48 0)]⟩
def zf0:CE:=⟨33,zfx,zfw,LFix zcU⟩
theorem zjd:CE.ok Try.prog zf0:=CE.ofRec (Γ:=[zej,zft,zei,zeI,zcO,zec,zfg,zeN,zcX]) (by kernel_rfl) zc6 (GOK.cons zg7 (GOK.cons ziM (GOK.cons zg4 (GOK.cons zhn (GOK.cons zfl (GOK.cons zgP (GOK.cons zih (GOK.cons zhD (GOK.cons zdB (GOK.nil)))))))))) ⟨[(2,⟨⟨[(.int .i64),(.int .i64),(.int .i64),.bool,.bool,Tc4],[(0,.own 100000),(1,.v 0),(2,.v 1),(3,.v 2),(10,.v 3),(11,.v 4)],[(100000,.arr 48 5)]⟩,[12,13,14,15,16,17,18,19,20,21,22,23,24,25,26,27,28,29,30,31,32,33,34,35,36,37,38,39,40,41,42,43,44,45,46,47,48,49,50,51,52,53,54,55,56,57,58,59,60,61,62,63,64,65,66,67,68,69,70,71,72,73,74,75,76,77,78,79,80,81,82,83,84,85,86,87,88,89,90,91,92,93,94,95,96,97,98,99,100,101,102,103,104,105,106,107,108,109,110,111,112,113,114,115,116,117,118,119,120,121,122,123,124,125,126,127,128,129,130,131,132,133,134,135,136,137,138,139,140,141,142,143,144,145,146,147],[],[],0,[]⟩)],[(9,⟨⟨[(.int .i64),Tc4],[(0,.own 100000),(3,.v 0)],[(100000,.arr 48 1)]⟩,[38,39,40,41,42,43,44,45,46],[],[],0,[]⟩),(14,⟨⟨[(.int .i64),(.int .i64),Tc4],[(0,.own 100000),(13,.v 0),(14,.v 1)],[(100000,.arr 48 2)]⟩,[55,56,57,58,59,60,61,62,63,64,65,66,67],[],[],0,[]⟩),(15,⟨⟨[.bool],[(75,.v 0)],[]⟩,[68,69,70,71,72,73,74],[],[],0,[]⟩),(16,⟨⟨[Tc4],[(0,.own 100000)],[(100000,.arr 48 0)]⟩,[68,69,70,71,72,73,74,75,76,77,78,79,80],[],[],0,[]⟩),(17,⟨⟨[.bool],[(97,.v 0)],[]⟩,[81,82,83,84,85,86,87,88,89,90,91,92,93,94,95,96],[],[],0,[]⟩)],[(17,[(0,0),(0,1),(0,2),(0,3),(0,4),(0,5),(0,6),(0,7),(0,8),(0,9),(0,10),(0,11),(0,12),(1,13),(0,14),(0,15),(0,16)])],[]⟩ Try.func33 rfl Try.ntmps33 (rs:=[]) rfl (sig:=zfx) (out:=zfw) rfl Try.call33 (d:=zcU) (fun rc X=>by kernel_rfl)

def zid:Shape:=⟨[Tc4],[(0,.own 100000),(1,.fn 24 [])],[(100000,.arr 48 0)]⟩
def zic:Shape:=⟨[Tc4],[],[(100000,.arr 48 0)]⟩
def ziz:CE:=⟨26,zid,zic,fun X=>zib X⟩
theorem zm2:CE.ok Try.prog ziz:=CE.of (Γ:=[zf0,zlR]) (by kernel_rfl) zc6 (GOK.cons zjd (GOK.cons zpc (GOK.nil))) ⟨[],[],[],[]⟩ Try.func26 rfl Try.ntmps26 (rs:=[]) rfl (sig:=zid) (out:=zic) rfl Try.call26 (fun X=>by kernel_rfl)

def znf:Shape:=⟨[(.int .i64),Tc1,Tc1,Tc1,Tc1],[(0,.v 0),(1,.fn 12 [.addr 1,.ptr 100000 0,.addr 2]),(2,.fn 14 [.addr 3,.ptr 100000 0,.addr 4])],[(100000,.box 38 [.fn 10 []])]⟩
def zne:Shape:=⟨[Tc1],[(0,.v 0)],[(100000,.box 38 [.fn 10 []])]⟩
def zow:CE:=⟨11,znf,zne,fun X=>zkQ X.1 X.2.1 X.2.2.1 X.2.2.2.1 X.2.2.2.2⟩
theorem ztb:CE.ok Try.prog zow:=CE.of (Γ:=[zlL,zj2,zj3,ziz]) (by kernel_rfl) zc6 (GOK.cons zqu (GOK.cons zoO (GOK.cons zoP (GOK.cons zm2 (GOK.nil))))) ⟨[(6,⟨⟨[Tc1,Tc1,Tc1,Tc1,(.int .i64),(.int .i64),(.int .i64),(.int .i64),(.list (.int .i64)),(.list (.int .i64)),(.list (.int .i64)),Tc4],[(1,.fn 12 [.addr 0,.ptr 100000 0,.addr 1]),(2,.fn 14 [.addr 2,.ptr 100000 0,.addr 3]),(8,.ptr 3 0),(9,.fn 25 [.ptr 2 0,.ptr 3 0]),(10,.ptr 4 0),(22,.v 4)],[(100000,.box 38 [.fn 10 []]),(3,.box 23 [.own 5]),(2,.box 57 [.own 1]),(4,.box 25 [.v 5,.v 6,.own 6,.v 7,.nil]),(1,.box 57 [.v 8,.v 9]),(5,.arr 3 10),(6,.arr 48 11)]⟩,[7,11,17,18,23,24,25,26,27,28,29,30,31,32,33,34,35,36,37],[],[0],7,[(3,0,some 3,(.int .i64)),(4,2,some 48,Tc5)]⟩),(11,⟨⟨[Tc1,Tc1,Tc1,Tc1,(.int .i64),(.int .i64),(.int .i64),(.int .i64),(.list (.int .i64)),(.list (.int .i64)),(.list (.int .i64)),Tc4],[(1,.fn 12 [.addr 0,.ptr 100000 0,.addr 1]),(2,.fn 14 [.addr 2,.ptr 100000 0,.addr 3]),(8,.ptr 3 0),(9,.fn 25 [.ptr 2 0,.ptr 3 0]),(10,.ptr 4 0),(12,.v 4)],[(100000,.box 38 [.fn 10 []]),(3,.box 23 [.own 5]),(2,.box 57 [.own 1]),(4,.box 25 [.v 5,.v 6,.own 6,.v 7,.nil]),(5,.arr 3 8),(1,.box 57 [.v 9,.v 10]),(6,.arr 48 11)]⟩,[13,14,38,39,40,41,42,43,44,45,46,47,48,49,50,51,52,53,54,55,56,57,58,59,60,61,62,63,64,65,66,67,68,69,70,71,72,73,74,75,76,77,78,79,80,81,82,83,84,85,86,87,88,89,90,91,92,93,94,95,96,97,98,99,100,101],[],[0],7,[]⟩),(14,⟨⟨[Tc1,Tc1,Tc1,Tc1,(.int .i64),(.int .i64),(.int .i64),(.int .i64),(.list (.int .i64)),(.list (.int .i64)),(.list (.int .i64)),Tc4],[(1,.fn 12 [.addr 0,.ptr 100000 0,.addr 1]),(2,.fn 14 [.addr 2,.ptr 100000 0,.addr 3]),(8,.ptr 3 0),(9,.fn 25 [.ptr 2 0,.ptr 3 0]),(10,.ptr 4 0),(45,.v 4)],[(100000,.box 38 [.fn 10 []]),(3,.box 23 [.own 5]),(2,.box 57 [.own 1]),(4,.box 25 [.v 5,.v 6,.own 6,.v 7,.nil]),(5,.arr 3 8),(1,.box 57 [.v 9,.v 10]),(6,.arr 48 11)]⟩,[13,14,39,46,47,48,49,50,51,52,53,54,55,56,57,58,59,60,61,62,63,64,65,66,67,68,69,70,71,72,73,74,75,76,77,78,79,80,81,82,83,84,85,86,87,88,89,90,91,92,93,94,95,96,97,98,99,100,101],[],[0],7,[]⟩),(17,⟨⟨[Tc1,Tc1,Tc1,Tc1,(.int .i64),(.int .i64),(.int .i64),(.int .i64),(.list (.int .i64)),(.list (.int .i64)),(.list (.int .i64)),Tc4],[(1,.fn 12 [.addr 0,.ptr 100000 0,.addr 1]),(2,.fn 14 [.addr 2,.ptr 100000 0,.addr 3]),(8,.ptr 3 0),(9,.fn 25 [.ptr 2 0,.ptr 3 0]),(10,.ptr 4 0),(50,.v 4)],[(100000,.box 38 [.fn 10 []]),(3,.box 23 [.own 5]),(2,.box 57 [.own 1]),(4,.box 25 [.v 5,.v 6,.own 6,.v 7,.nil]),(5,.arr 3 8),(1,.box 57 [.v 9,.v 10]),(6,.arr 48 11)]⟩,[14,39,51,52,53,54,55,56,57,58,59,60,61,62,63,64,65,66,67,68,69,70,71,72,73,74,75,76,77,78,79,80,81,82,83,84,85,86,87,88,89,90,91,92,93,94,95,96,97,98,99,100],[],[0],7,[]⟩),(25,⟨⟨[Tc1,Tc1,(.int .i64),(.int .i64),(.int .i64),(.int .i64),Tc4,(.list (.int .i64))],[(2,.fn 14 [.addr 0,.ptr 100000 0,.addr 1]),(10,.ptr 4 0),(104,.v 2)],[(100000,.box 38 [.fn 10 []]),(4,.box 25 [.v 3,.v 4,.own 6,.v 5,.own 7]),(6,.arr 48 6),(7,.arr 3 7)]⟩,[16,105,106,107,108,109,110,111,112,113,114,115,116],[],[0,1,2,3,5],8,[(4,4,some 3,(.int .i64))]⟩)],[(8,⟨⟨[Tc1,Tc1,Tc1,Tc1,(.int .i64),(.int .i64),(.int .i64),(.list (.int .i64)),(.list (.int .i64)),(.list (.int .i64)),Tc4],[(1,.fn 12 [.addr 0,.ptr 100000 0,.addr 1]),(2,.fn 14 [.addr 2,.ptr 100000 0,.addr 3]),(8,.ptr 3 0),(9,.fn 25 [.ptr 2 0,.ptr 3 0]),(10,.ptr 4 0)],[(100000,.box 38 [.fn 10 []]),(3,.box 23 [.own 7]),(2,.box 57 [.own 1]),(4,.box 25 [.v 4,.v 5,.own 8,.v 6,.nil]),(7,.arr 3 7),(1,.box 57 [.v 8,.v 9]),(8,.arr 48 10)]⟩,[11,24,25,26,27,28,29,30,31,32,33,34,35,36],[5,6],[0],9,[]⟩),(19,⟨⟨[Tc1,Tc1,Tc1,Tc1,(.int .i64),(.int .i64),(.int .i64),(.list (.int .i64)),(.list (.int .i64)),(.list (.int .i64)),Tc4],[(1,.fn 12 [.addr 0,.ptr 100000 0,.addr 1]),(2,.fn 14 [.addr 2,.ptr 100000 0,.addr 3]),(8,.ptr 3 0),(9,.fn 25 [.ptr 2 0,.ptr 3 0]),(10,.ptr 4 0)],[(100000,.box 38 [.fn 10 []]),(3,.box 23 [.own 7]),(2,.box 57 [.own 1]),(4,.box 25 [.v 4,.v 5,.own 8,.v 6,.nil]),(7,.arr 3 7),(1,.box 57 [.v 8,.v 9]),(8,.arr 48 10)]⟩,[53,54,55,56,57,58,59,60,61,62,63,64,65,66,67,68,69,70,71,72,73,74],[5,6],[0],9,[]⟩),(21,⟨⟨[Tc1,Tc1,Tc1,Tc1,(.int .i64),(.int .i64),(.int .i64),(.list (.int .i64)),(.list (.int .i64)),(.list (.int .i64)),Tc4],[(1,.fn 12 [.addr 0,.ptr 100000 0,.addr 1]),(2,.fn 14 [.addr 2,.ptr 100000 0,.addr 3]),(8,.ptr 3 0),(9,.fn 25 [.ptr 2 0,.ptr 3 0]),(10,.ptr 4 0)],[(100000,.box 38 [.fn 10 []]),(3,.box 23 [.own 7]),(2,.box 57 [.own 1]),(4,.box 25 [.v 4,.v 5,.own 8,.v 6,.nil]),(7,.arr 3 7),(1,.box 57 [.v 8,.v 9]),(8,.arr 48 10)]⟩,[14,39,52,53,54,55,56,57,58,59,60,61,62,63,64,65,66,67,68,69,70,71,72,73,74,75,76,77,78,79,80,81,82,83,84,85,86,87,88,89,90,91,92,93,94,95,96,97,98,99],[5,6],[0],9,[]⟩),(27,⟨⟨[Tc1,Tc1,(.int .i64),(.int .i64),(.int .i64),Tc4,(.list (.int .i64))],[(2,.fn 14 [.addr 0,.ptr 100000 0,.addr 1]),(10,.ptr 4 0)],[(100000,.box 38 [.fn 10 []]),(4,.box 25 [.v 2,.v 3,.own 6,.v 4,.own 8]),(6,.arr 48 5),(8,.arr 3 6)]⟩,[16,106,107,108,109,110,111,112,113,114,115],[7],[0,1,2,3,5],9,[]⟩)],[],[(8,(.one 0 (.one 2 (.one 3 (.one 4 (.one 5 (.live [6,7,10,12] (.ban 1 [10,11,12] (.alt 2 6 (.leaf [(2,7),(0,8),(1,9),(2,10),(0,11),(2,12)]) .stop) (.alt 2 6 (.live [7,10,12] (.ban 1 [10,11,12] (.alt 2 7 (.leaf [(0,8),(1,9),(2,10),(0,11),(2,12)]) .stop) (.alt 2 7 (.leaf [(0,8),(0,1),(1,9),(2,10),(0,11),(2,12)]) .stop))) .stop))))))))),(19,(.one 0 (.one 2 (.one 3 (.one 4 (.one 5 (.one 6 (.one 7 (.one 9 (.one 13 (.live [16,17,20,22] (.rd 8 [10,11,16,17,18,19,20,21,22] (.one 10 (.rd 11 [16,17,18,19,20,21,22] (.rd 12 [14,15,16,17,18,19,20,21,22] (.one 14 (.rd 15 [16,17,18,19,20,21,22] (.ban 1 [20,21,22] (.alt 2 16 (.leaf [(2,17),(0,18),(1,19),(2,20),(0,21),(2,22)]) .stop) (.alt 2 16 (.live [17,20,22] (.ban 1 [20,21,22] (.alt 2 17 (.leaf [(0,18),(1,19),(2,20),(0,21),(2,22)]) .stop) (.alt 2 17 (.leaf [(0,18),(0,1),(1,19),(2,20),(0,21),(2,22)]) .stop))) .stop))))))))))))))))))),(21,(.one 0 (.one 2 (.one 3 (.one 4 (.one 5 (.one 6 (.one 7 (.one 9 (.one 13 (.live [16,17,20,22] (.rd 8 [10,11,16,17,18,19,20,21,22] (.one 10 (.rd 11 [16,17,18,19,20,21,22] (.rd 12 [14,15,16,17,18,19,20,21,22] (.one 14 (.rd 15 [16,17,18,19,20,21,22] (.ban 1 [20,21,22] (.alt 2 16 (.leaf [(2,17),(0,18),(1,19),(2,20),(0,21),(2,22)]) .stop) (.alt 2 16 (.live [17,20,22] (.ban 1 [20,21,22] (.alt 2 17 (.leaf [(0,18),(1,19),(2,20),(0,21),(2,22)]) .stop) (.alt 2 17 (.leaf [(0,18),(0,1),(1,19),(2,20),(0,21),(2,22)]) .stop))) .stop))))))))))))))))))),(27,(.one 0 (.one 2 (.one 3 (.live [4,6,8] (.ban 1 [6,7,8] (.alt 2 4 (.leaf [(1,5),(2,6),(0,7),(2,8)]) .stop) (.alt 2 4 (.leaf [(0,1),(1,5),(2,6),(0,7),(2,8)]) .stop)))))))]⟩ Try.func11 rfl Try.ntmps11 (rs:=[.cell 6 25]) rfl (sig:=znf) (out:=zne) rfl Try.call11 (fun X=>by kernel_rfl)

def zlK:Shape:=⟨[Tc1],[(0,.v 0)],[]⟩
def zlJ:Shape:=⟨[(.list (.int .i64)),(.list (.int .i64))],[(0,.own 0),(1,.own 1)],[(0,.arr 3 0),(1,.arr 3 1)]⟩
def znb:CE:=⟨27,zlK,zlJ,fun X=>zjk X⟩
theorem zr5:CE.ok Try.prog znb:=CE.of (Γ:=[]) (by kernel_rfl) zc6 (GOK.nil) ⟨[(3,⟨⟨[.bool,(.list (.int .i64)),(.list (.int .i64))],[(4,.own 1),(5,.own 2),(6,.v 0)],[(1,.arr 3 1),(2,.arr 3 2)]⟩,[7,8,9,16,17,18,19,20,21,22,23,24,25,26,27,28,29,30,31,32,33,34,35,36,37,38,39,40,41,42,43,44,45,46,47,48,49,50,51,52,53,54,55,56,57,58,59,60,61,62,63,64,65,66,67,68,69,70,71,72,73,74,75,76,77,78,79,80,81,82,83,84],[],[0],3,[]⟩),(6,⟨⟨[.bool,(.int .i64),(.list (.int .i64)),(.list (.int .i64))],[(4,.own 1),(5,.own 2),(6,.v 0),(20,.v 1)],[(1,.arr 3 2),(2,.arr 3 3)]⟩,[7,8,9,21,22,23,24,25,26,27,28,29,30,31,32,33,34,35,36,37,38,39,40,41,42,43,44,45,46,47,48,49,50,51,52,53,54,55,56,57,58,59,60,61,62,63,64,65,66,67,68,69,70,71,72,73,74,75,76,77,78,79,80,81,82,83,84],[],[0],3,[]⟩)],[(1,⟨⟨[(.list (.int .i64)),(.list (.int .i64))],[(4,.own 1),(5,.own 2)],[(1,.arr 3 0),(2,.arr 3 1)]⟩,[10,11,12,13,14,15],[],[0],3,[]⟩),(11,⟨⟨[(.int .i64)],[(9,.v 0)],[]⟩,[25,26,27,28,29,30,31,32,33,34,35,36,37,38,39,40,41,42,43,44,45,46,47,48,49,50,51,52,53,54],[],[0,1,2,3],4,[]⟩),(12,⟨⟨[.bool],[(73,.v 0)],[]⟩,[55,56,57,58,59,60,61,62,63,64,65,66,67,68,69,70,71,72],[],[0,1,2,3],4,[]⟩),(13,⟨⟨[(.list (.int .i64)),(.list (.int .i64))],[(4,.own 1),(5,.own 2)],[(1,.arr 3 0),(2,.arr 3 1)]⟩,[74,75,76,77,78,79,80,81,82,83],[],[0,3],4,[]⟩)],[(11,[(0,0),(0,1),(0,2),(0,3),(0,4),(0,5),(0,6),(0,7),(0,8),(0,9),(0,10),(0,11),(0,12),(0,13)])],[(1,(.one 0 (.one 3 (.live [] (.rd 1 [2,6,7] (.rd 4 [5,7] (.alt 1 2 (.one 6 (.alt 1 5 (.one 7 (.leaf [])) .stop)) (.alt 1 5 (.alt 1 2 (.one 6 (.one 7 (.leaf []))) .stop) .stop)))))))),(13,(.one 0 (.one 1 (.one 3 (.one 4 (.one 6 (.one 7 (.live [9,11] (.rd 2 [8,9,10,11] (.one 8 (.ban 5 [10,11] (.alt 2 9 (.leaf [(0,10),(2,11)]) .stop) (.alt 2 9 (.leaf [(0,5),(0,10),(2,11)]) .stop))))))))))))]⟩ Try.func27 rfl Try.ntmps27 (rs:=[.tmp 2,.tmp 3]) rfl (sig:=zlK) (out:=zlJ) rfl Try.call27 (fun X=>by kernel_rfl)

def zov:Shape:=⟨[Tc1,(.list (.int .i64)),(.int .i64),(.list Tc6)],[(0,.v 0),(1,.v 1),(2,.v 2),(3,.ptr 100000 0)],[(100000,.box 28 [.own 100001]),(100001,.arr 52 3)]⟩
def zou:Shape:=⟨[(.int .i64),(.list Tc6)],[(0,.v 0)],[(100000,.box 28 [.own 50]),(50,.arr 52 1)]⟩
def zp3:CE:=⟨28,zov,zou,LFix zlg⟩
theorem zug:CE.ok Try.prog zp3:=CE.ofRec (Γ:=[]) (by kernel_rfl) zc6 (GOK.nil) ⟨[],[(5,⟨⟨[(.int .i64),(.int .i64),(.int .i64),(.list Tc6)],[(3,.ptr 100000 0),(10,.ptr 2 0)],[(100000,.box 28 [.own 3]),(2,.box 52 [.v 0,.v 1,.v 2]),(3,.arr 52 3)]⟩,[22,23,24,25,26,27,28,29,30,31,32,33,34,35,36,37,38],[100001],[0,1],4,[]⟩)],[(1,[(0,0),(0,1),(0,2),(0,3),(0,4),(0,5),(0,6),(0,7),(1,8),(2,9)]),(6,[(0,0),(0,1),(0,2),(0,3),(0,4),(0,5),(1,6),(2,7),(0,8),(0,9),(2,10)])],[]⟩ Try.func28 rfl Try.ntmps28 (rs:=[.tmp 8]) rfl (sig:=zov) (out:=zou) rfl Try.call28 (d:=zlg) (fun rc X=>by kernel_rfl)

def znh:Shape:=⟨[Tc1],[(0,.v 0)],[]⟩
def zng:Shape:=⟨[(.pair (.list Tc6) .unit),.bool,(.int .i64)],[(0,.v 0),(1,.v 1),(2,.v 2)],[]⟩
def zox:CE:=⟨16,znh,zng,fun X=>zjm X⟩
theorem ztc:CE.ok Try.prog zox:=CE.of (Γ:=[zp3,znb]) (by kernel_rfl) zc6 (GOK.cons zug (GOK.cons zr5 (GOK.nil))) ⟨[(4,⟨⟨[(.int .i64),(.int .i64)],[(7,.v 0),(18,.v 1)],[]⟩,[8,9,19,20,21,22,23,24,25,26,27,28,29,30,31,32,33,34,35,36,37,38,39,40,41,42,43,44,45,46],[],[0,1,2,3],4,[]⟩)],[],[],[]⟩ Try.func16 rfl Try.ntmps16 (rs:=[.cell 2 28,.tmp 3,.tmp 4]) rfl (sig:=znh) (out:=zng) rfl Try.call16 (fun X=>by kernel_rfl)

def zjU:Shape:=⟨[(.list (.int .i64)),(.int .i64)],[(0,.v 0),(1,.v 1)],[]⟩
def zjT:Shape:=⟨[(.int .i64)],[(0,.v 0)],[]⟩
def zkH:CE:=⟨29,zjU,zjT,fun X=>zor X.1 X.2⟩
theorem zpU:CE.ok Try.prog zkH:=CE.of (Γ:=[]) (by kernel_rfl) zc6 (GOK.nil) ⟨[(2,⟨⟨[(.int .i64)],[(8,.v 0)],[]⟩,[4,5,9,10,11,12,13,14,15,16,17,18],[],[],0,[]⟩)],[],[],[]⟩ Try.func29 rfl Try.ntmps29 (rs:=[.tmp 4]) rfl (sig:=zjU) (out:=zjT) rfl Try.call29 (fun X=>by kernel_rfl)

def zh8:Shape:=⟨[(.list (.int .i64)),(.int .i64)],[(0,.v 0),(1,.v 1)],[]⟩
def zh7:Shape:=⟨[.bool],[(0,.v 0)],[]⟩
def ziy:CE:=⟨17,zh8,zh7,fun X=>zgk X.1 X.2⟩
theorem zmZ:CE.ok Try.prog ziy:=CE.of (Γ:=[zkH]) (by kernel_rfl) zc6 (GOK.cons zpU (GOK.nil)) ⟨[],[],[],[]⟩ Try.func17 rfl Try.ntmps17 (rs:=[.tmp 4]) rfl (sig:=zh8) (out:=zh7) rfl Try.call17 (fun X=>by kernel_rfl)

def zkM:Shape:=⟨[Tc1,Tc1],[(0,.v 0),(1,.v 1)],[]⟩
def zkL:Shape:=⟨[(.pair (.list Tc6) .unit),.bool,(.int .i64)],[(0,.v 0),(1,.v 1),(2,.v 2)],[]⟩
def zlH:CE:=⟨4,zkM,zkL,fun X=>zfR X.1 X.2⟩
theorem zqt:CE.ok Try.prog zlH:=CE.of (Γ:=[zm6,zow,zox,ziy]) (by kernel_rfl) zc6 (GOK.cons zr4 (GOK.cons ztb (GOK.cons ztc (GOK.cons zmZ (GOK.nil))))) ⟨[(2,⟨⟨[(.int .i64)],[(19,.v 0)],[]⟩,[5,6,8,9,20,21,22,23,24,25,26,27,28,29],[],[0,1,2,3],4,[]⟩)],[],[],[]⟩ Try.func4 rfl Try.ntmps4 (rs:=[.cell 4 28,.tmp 5,.tmp 6]) rfl (sig:=zkM) (out:=zkL) rfl Try.call4 (fun X=>by kernel_rfl)

def zmK:Shape:=⟨[Tc5,Tc5],[(0,.v 0),(1,.v 1)],[]⟩
def zmJ:Shape:=⟨[.bool],[(0,.v 0)],[]⟩
def zog:CE:=⟨18,zmK,zmJ,fun X=>zmI X.1 X.2⟩
theorem zsT:CE.ok Try.prog zog:=CE.of (Γ:=[]) (by kernel_rfl) zc6 (GOK.nil) ⟨[],[],[],[]⟩ Try.func18 rfl Try.ntmps18 (rs:=[.tmp 4]) rfl (sig:=zmK) (out:=zmJ) rfl Try.call18 (fun X=>by kernel_rfl)

def zmS:Shape:=⟨[Tc1],[(0,.v 0)],[]⟩
def zmR:Shape:=⟨[(.int .i64)],[(0,.v 0)],[]⟩
def zoi:CE:=⟨5,zmS,zmR,fun X=>zkz X⟩
theorem zsV:CE.ok Try.prog zoi:=CE.of (Γ:=[zog]) (by kernel_rfl) zc6 (GOK.cons zsT (GOK.nil)) ⟨[(6,⟨⟨[(.int .i64)],[(3,.v 0)],[]⟩,[2,4,5,6,40,41,42,43,44,45,46,47,48,49,50,51,52,53,54,55,56,57,58,59,60,61,62,63,64,65,66,67,68,69,70,71,72,73,74,75,76,77,78,79,80,81,82,83,84,85,86,87,88,89,90,91,92,93,94,95,96,97,98,99,100,101,102,103,104,105,106,107,108,109,110,111],[],[0],1,[]⟩),(14,⟨⟨[(.int .i64)],[(7,.v 0)],[]⟩,[2,112,113,114,115,116,117,118,119,120,121,122,123,124,125,126,127,128,129,130,131,132],[],[0],1,[]⟩),(19,⟨⟨[(.int .i64)],[(8,.v 0)],[]⟩,[2,9,133,134,135,136,137,138,139,140,141,142,143,144,145,146,147,148,149,150,151,152,153],[],[0],1,[]⟩)],[(9,⟨⟨[.bool],[(5,.v 0)],[]⟩,[52,53,54,55,56,57,58,59],[],[0,1],2,[]⟩),(10,⟨⟨[.bool],[(6,.v 0)],[]⟩,[60,61,62,63,64,65,66,67,68,69,70,71,72,73,74,75,76,77,78,79,80,81],[],[0,1],2,[]⟩)],[(21,[(0,0),(0,1),(0,2),(0,3),(0,4),(0,5),(0,6),(0,7),(0,8),(0,9),(0,10),(1,11),(0,12)])],[]⟩ Try.func5 rfl Try.ntmps5 (rs:=[.tmp 2]) rfl (sig:=zmS) (out:=zmR) rfl Try.call5 (fun X=>by kernel_rfl)

def zmV:Shape:=⟨[Tc1,(.int .i64),(.int .i64),(.int .i64)],[(0,.v 0),(1,.v 1),(2,.v 2),(3,.v 3)],[]⟩
def zmU:Shape:=⟨[(.int .i64)],[(0,.v 0)],[]⟩
def zol:CE:=⟨19,zmV,zmU,fun X=>zgh X.1 X.2.1 X.2.2.1 X.2.2.2⟩
theorem zsW:CE.ok Try.prog zol:=CE.of (Γ:=[]) (by kernel_rfl) zc6 (GOK.nil) ⟨[(3,⟨⟨[(.int .i64),(.int .i64)],[(9,.v 0),(10,.v 1)],[]⟩,[11,12,13,14,15,16,17,18,19,20,21,22,23,24,25,26,27,28,29,30,31,32,33,34,35,36,37,38,39,40,41,42,43,44,45,46,47,48,49,50,51,52,53,54,55,56,57,58],[],[0],1,[]⟩)],[],[],[]⟩ Try.func19 rfl Try.ntmps19 (rs:=[.tmp 8]) rfl (sig:=zmV) (out:=zmU) rfl Try.call19 (fun X=>by kernel_rfl)

def zon:Shape:=⟨[Tc1,(.int .i64)],[(0,.v 0),(1,.v 1)],[]⟩
def zom:Shape:=⟨[.bool],[(0,.v 0)],[]⟩
def zpR:CE:=⟨20,zon,zom,fun X=>zo5 X.1 X.2⟩
theorem zt3:CE.ok Try.prog zpR:=CE.of (Γ:=[]) (by kernel_rfl) zc6 (GOK.nil) ⟨[(2,⟨⟨[(.int .i64)],[(5,.v 0)],[]⟩,[4,6,7,8,9,10,11,12,13,14,15,16,17,18,19,20,21,22,23,24],[],[0],1,[]⟩)],[],[],[]⟩ Try.func20 rfl Try.ntmps20 (rs:=[.tmp 4]) rfl (sig:=zon) (out:=zom) rfl Try.call20 (fun X=>by kernel_rfl)

def zmO:Shape:=⟨[Tc1,Tc1],[(0,.v 0),(1,.v 1)],[]⟩
def zmN:Shape:=⟨[(.int .i64)],[(0,.v 0)],[]⟩
def zoh:CE:=⟨6,zmO,zmN,fun X=>zmL X.1 X.2⟩
theorem zsU:CE.ok Try.prog zoh:=CE.of (Γ:=[zol,zpR]) (by kernel_rfl) zc6 (GOK.cons zsW (GOK.cons zt3 (GOK.nil))) ⟨[(3,⟨⟨[.bool,(.list (.int .i64))],[(5,.own 2),(6,.v 0)],[(2,.arr 3 1)]⟩,[7,8,9,10,11,12,17,18,19,20,21,22,23,24,25,26,27,28,29,30,31,32,33,34,35,36,37,38,39,40,41,42,43,44,45,46,47,48,49,50,51,52,53,54,55,56,57,58,59,60,61,62,63,64,65,66,67,68,69,70,71,72,73,74,75,76,77,78,79,80,81,82,83,84,85,86,87,88,89,90,91,92,93,94,95,96,97,98,99,100,101,102,103,104,105,106,107,108,109,110,111,112,113,114,115,116],[],[0,1],3,[]⟩),(6,⟨⟨[.bool,(.int .i64),(.list (.int .i64))],[(5,.own 2),(6,.v 0),(7,.v 1)],[(2,.arr 3 2)]⟩,[8,9,10,11,12,17,19,20,21,22,23,24,25,26,27,28,29,30,31,32,33,34,35,36,37,38,39,40,41,42,43,44,45,46,47,48,49,50,51,52,53,54,55,56,57,58,59,60,61,62,63,64,65,66,67,68,69,70,71,72,73,74,75,76,77,78,79,80,81,82,83,84,85,86,87,88,89,90,91,92,93,94,95,96,97,98,99,100,101,102,103,104,105,106,107,108,109,110,111,112,113,114,115,116],[],[0,1],3,[]⟩),(14,⟨⟨[.bool,(.int .i64),(.list (.int .i64))],[(5,.own 2),(6,.v 0),(10,.v 1)],[(2,.arr 3 2)]⟩,[8,9,11,12,17,31,36,39,44,45,46,47,48,49,50,51,52,53,54,55,56,57,58,59,60,61,62,63,64,65,66,67,68,69,70,71,72,73,74,75,76,77,78,79,80,81,82,83,84,85,86,87,88,89,90,91,92,93,94,95,96,97,98,99,100,101,102,103,104,105,106,107,108,109,110,111,112,113,114,115,116],[],[0,1],3,[]⟩),(17,⟨⟨[.bool,(.int .i64),(.list (.int .i64))],[(5,.own 2),(6,.v 0),(11,.v 1)],[(2,.arr 3 2)]⟩,[8,9,12,49,50,51,52,53,54,55,56,57,58,59,60,61,62,63,64,65,66,67,68,69,70,71,72,73,74,75,76,77,78,79,80,81,82,83,84,85,86,87,88,89,90,91,92,93,94,95,96,97,98,99,100,101,102,103,104,105,106,107,108,109,110,111,112,113,114,115,116],[],[0,1],3,[]⟩),(30,⟨⟨[(.int .i64),(.int .i64)],[(13,.v 0),(14,.v 1)],[]⟩,[15,16,117,118,119,120,121,122,123,124,125,126,127,128,129,130,131,132,133,134,135,136,137,138,139,140,141,142,143,144,145,146,147,148,149,150,151,152,153,154,155,156],[],[0,1,2],3,[]⟩)],[(12,⟨⟨[.bool,(.list (.int .i64))],[(5,.own 2),(6,.v 0)],[(2,.arr 3 1)]⟩,[31,32,33,34,35,36,37,38,39,40,41,42,43,44],[],[0,1],3,[]⟩),(24,⟨⟨[(.int .i64)],[(12,.v 0)],[]⟩,[89,90],[],[0,1,2],3,[]⟩),(25,⟨⟨[.bool],[(109,.v 0)],[]⟩,[91,92,93,94,95,96,97,98,99,100,101,102,103,104,105,106,107,108],[],[0,1,2],3,[]⟩)],[(22,[(0,0),(0,1),(0,2),(0,3),(0,4),(0,5),(0,6),(0,7),(0,8),(0,9),(0,10)])],[]⟩ Try.func6 rfl Try.ntmps6 (rs:=[.tmp 4]) rfl (sig:=zmO) (out:=zmN) rfl Try.call6 (fun X=>by kernel_rfl)

def zok:Shape:=⟨[(.int .i64),(.pair (.list Tc6) .unit)],[(0,.v 0),(1,.v 1)],[]⟩
def zoj:Shape:=⟨[(.int .i64)],[(0,.v 0)],[]⟩
def zpP:CE:=⟨7,zok,zoj,fun X=>zhC X.1 X.2⟩
theorem zt2:CE.ok Try.prog zpP:=CE.of (Γ:=[]) (by kernel_rfl) zc6 (GOK.nil) ⟨[(8,⟨⟨[(.int .i64),(.list .bool)],[(6,.own 1),(7,.v 0)],[(1,.arr 4 1)]⟩,[4,8,26,27,28,29,30,31,32,33,34,35,36,37,38,39,40,41,42,43,44,45,46,47,48,49,50,51,52,53,54,55,56,57,58,59,60,61,62,63,64,65,66,67,68,69,70,71,72,73,74,75,76,77,78,79,80,81,82,83,84,85,86,87,88,89,90,91,92,93],[],[0],2,[]⟩),(21,⟨⟨[(.int .i64)],[(9,.v 0)],[]⟩,[4,94,95,96,97,98,99,100,101,102,103,104],[],[0,1],2,[]⟩)],[(13,⟨⟨[],[],[]⟩,[46,47,48,49,50,51,52,53],[],[0,1,2],3,[]⟩)],[],[]⟩ Try.func7 rfl Try.ntmps7 (rs:=[.tmp 4]) rfl (sig:=zok) (out:=zoj) rfl Try.call7 (fun X=>by kernel_rfl)

def zks:Shape:=⟨[Tc1,(.pair (.list Tc6) .unit)],[(0,.v 0),(1,.v 1)],[]⟩
def zkr:Shape:=⟨[.bool],[(0,.v 0)],[]⟩
def zls:CE:=⟨8,zks,zkr,fun X=>zbN X.1 X.2⟩
theorem zqp:CE.ok Try.prog zls:=CE.of (Γ:=[]) (by kernel_rfl) zc6 (GOK.nil) ⟨[(3,⟨⟨[(.int .i64),(.list (.list .bool))],[(5,.own 2),(6,.v 0)],[(2,.arr 50 1)]⟩,[7,8,9,10,13,14,15,16,17,18,19,20,21,22,23,24,25,26,27,28,29,30,31,32,33,34,35,36,37,38,39,40,41,42,43,44,45,46,47,48,49,50,51,52,53,54,55,56,57,58,59,60,61,62,63,64,65,66,67,68,69,70,71,72,73,74,75,76,77,78,79,80,81,82,83,84,85,86],[],[0,1],3,[]⟩),(8,⟨⟨[(.int .i64),(.list .bool)],[(8,.own 4),(9,.v 0)],[(4,.arr 4 1)]⟩,[10,27,28,29,30,31,32,33,34,35,36,37,38,39,40,41,42,43,44,45,46,47,48,49,50,51,52,53,54,55,56,57,58,59,60,61,62,63,64,65,66,67,68,69,70,71,72,73,74,75,76,77,78,79,80,81,82],[],[0,1,2,3],5,[]⟩),(17,⟨⟨[(.int .i64)],[(12,.v 0)],[]⟩,[4,93,94,95,96,97,98,99,100,101,102,103,104,105,106,107,108,109,110],[],[0,1,2],3,[]⟩)],[(12,⟨⟨[.bool],[(78,.v 0)],[]⟩,[54,55,56,57,58,59,60,61,62,63,64,65,66,67,68,69,70,71,72,73,74,75,76,77],[],[0,1,2,3,4,5],6,[]⟩)],[(12,[(0,0),(0,1),(0,2),(0,3),(0,4),(0,5),(0,6),(0,7),(0,8),(0,9),(0,10),(0,11),(0,12),(0,13),(0,14),(0,15),(0,16),(0,17),(0,18),(0,19),(0,20),(0,21),(0,22),(0,23),(0,24)])],[]⟩ Try.func8 rfl Try.ntmps8 (rs:=[.tmp 4]) rfl (sig:=zks) (out:=zkr) rfl Try.call8 (fun X=>by kernel_rfl)

def zir:Shape:=⟨[Tc1,Tc1,(.pair (.list Tc6) .unit)],[(0,.v 0),(1,.v 1),(2,.v 2)],[]⟩
def ziq:Shape:=⟨[.bool],[(0,.v 0)],[]⟩
def zgF:CE:=⟨3,zir,ziq,fun X=>ziJ X.1 X.2.1 X.2.2⟩
theorem znz:CE.ok Try.prog zgF:=CE.of (Γ:=[zlH,zoi,zoh,zpP,zls]) (by kernel_rfl) zc6 (GOK.cons zqt (GOK.cons zsV (GOK.cons zsU (GOK.cons zt2 (GOK.cons zqp (GOK.nil)))))) ⟨[],[(4,⟨⟨[(.int .i64)],[(10,.v 0)],[]⟩,[27,28,29,30],[],[0,1,2,3],4,[]⟩),(5,⟨⟨[.bool],[(39,.v 0)],[]⟩,[31,32,33,34,35,36,37,38],[],[0,1,2,3],4,[]⟩),(6,⟨⟨[(.int .i64)],[(10,.v 0)],[]⟩,[31,32,33,34,35,36,37,38,39],[],[0,1,2,3],4,[]⟩),(7,⟨⟨[.bool],[(56,.v 0)],[]⟩,[40,41,42,43,44,45,46,47,48,49,50,51,52,53,54,55],[],[0,1,2,3],4,[]⟩),(8,⟨⟨[(.int .i64)],[(10,.v 0)],[]⟩,[40,41,42,43,44,45,46,47,48,49,50,51,52,53,54,55,56],[],[0,1,2,3],4,[]⟩),(13,⟨⟨[(.int .i64),(.int .i64)],[(10,.v 0),(11,.v 1)],[]⟩,[57,58,59,60,61,62,63],[],[0,1,2,3],4,[]⟩)],[],[]⟩ Try.func3 rfl Try.ntmps3 (rs:=[.tmp 6]) rfl (sig:=zir) (out:=ziq) rfl Try.call3 (fun X=>by kernel_rfl)

end
end Go.Proofs.Ytecclpahhnajfaa.treeWithinW
