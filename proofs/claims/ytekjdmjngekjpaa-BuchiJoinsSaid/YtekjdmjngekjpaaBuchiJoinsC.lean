/- That the functions of 'BuchiJoins' compute so. -/
import Derived.Test.YtekjdmjngekjpaaBuchiJoinsD
import Derived.Test.YtekjdmjngekjpaaProg
import Derived.KernelRfl
set_option maxHeartbeats 1000000
set_option maxRecDepth 20000
set_option linter.unusedSimpArgs false
set_option linter.unusedVariables false
set_option linter.unusedSectionVars false
namespace Go.Proofs.Ytekjdmjngekjpaa.buchiJoinsW
open Go Go.Ab
noncomputable section
theorem zB5:SzT Try.prog 3 ((.int .i64)):=SzT.ofTI (dsc:=false) (size:=1) (bytes:=8) (z := .int .i64 0) (TI.of Try.underlying3 rfl (by kernel_rfl)) rfl rfl
theorem zD2:SzT Try.prog 42 (Tc6):=SzT.ofTI (dsc:=true) (size:=3) (bytes:=24) (z := .agg ⟨[.int .i64 0,.int .i64 0,.int .i64 0]⟩) (TI.of Try.underlying42 rfl (by kernel_rfl)) rfl rfl
def te3:TE:=⟨3,.int .i64,false,1,8,.int .i64 0,some (.int .i64)⟩
theorem zEE:TEok Try.prog te3:=⟨TI.of Try.underlying3 rfl (by kernel_rfl),Try.underlying3,fun t h=>by cases h;exact ⟨rfl,rfl,by decide,rfl⟩⟩
def te4:TE:=⟨4,.bool,false,1,1,.bool false,some .bool⟩
theorem zEF:TEok Try.prog te4:=⟨TI.of Try.underlying4 rfl (by kernel_rfl),Try.underlying4,fun t h=>by cases h;exact ⟨rfl,rfl,by decide,rfl⟩⟩
def te5:TE:=⟨5,.int .u8,false,1,1,.int .u8 0,some (.int .u8)⟩
theorem zEG:TEok Try.prog te5:=⟨TI.of Try.underlying5 rfl (by kernel_rfl),Try.underlying5,fun t h=>by cases h;exact ⟨rfl,rfl,by decide,rfl⟩⟩
def te9:TE:=⟨9,.str,false,1,16,.string ⟨⟨[]⟩⟩,some .str⟩
theorem zEH:TEok Try.prog te9:=⟨TI.of Try.underlying9 rfl (by kernel_rfl),Try.underlying9,fun t h=>by cases h;exact ⟨rfl,rfl,by decide,rfl⟩⟩
def te22:TE:=⟨22,.slice 3,false,1,24,.slice none 0 0,some (.list (.int .i64))⟩
theorem zDW:TEok Try.prog te22:=⟨TI.of Try.underlying22 rfl (by kernel_rfl),Try.underlying22,fun t h=>by cases h;exact ⟨rfl,rfl,by decide,rfl⟩⟩
def te23:TE:=⟨23,.slice 42,false,1,24,.slice none 0 0,some Tc5⟩
theorem zDX:TEok Try.prog te23:=⟨TI.of Try.underlying23 rfl (by kernel_rfl),Try.underlying23,fun t h=>by cases h;exact ⟨rfl,rfl,by decide,rfl⟩⟩
def te25:TE:=⟨25,.struct [(0,3),(1,3),(2,22),(3,23),(4,22)] none,true,5,88,.agg ⟨[.int .i64 0,.int .i64 0,.slice none 0 0,.slice none 0 0,.slice none 0 0]⟩,some Tc1⟩
theorem zDY:TEok Try.prog te25:=⟨TI.of Try.underlying25 rfl (by kernel_rfl),⟨⟨_,Try.underlying25,rfl⟩,fun t h=>by cases h⟩,fun t h=>by cases h;exact ⟨rfl,rfl,by decide,rfl⟩⟩
def te27:TE:=⟨27,.struct [(0,22),(1,22)] none,true,2,48,.agg ⟨[.slice none 0 0,.slice none 0 0]⟩,some (.pair (.list (.int .i64)) (.pair (.list (.int .i64)) .unit))⟩
theorem zDZ:TEok Try.prog te27:=⟨TI.of Try.underlying27 rfl (by kernel_rfl),⟨⟨_,Try.underlying27,rfl⟩,fun t h=>by cases h⟩,fun t h=>by cases h;exact ⟨rfl,rfl,by decide,rfl⟩⟩
def te29:TE:=⟨29,.int .i64,false,1,8,.int .i64 0,some (.int .i64)⟩
theorem zD0:TEok Try.prog te29:=⟨TI.of Try.underlying29 rfl (by kernel_rfl),Try.underlying29,fun t h=>by cases h;exact ⟨rfl,rfl,by decide,rfl⟩⟩
def te42:TE:=⟨42,.struct [(0,3),(1,3),(2,3)] (some Tc6),true,3,24,.agg ⟨[.int .i64 0,.int .i64 0,.int .i64 0]⟩,some Tc6⟩
theorem zD1:TEok Try.prog te42:=⟨TI.of Try.underlying42 rfl (by kernel_rfl),⟨⟨_,Try.underlying42,rfl⟩,fun t h=>by cases h;exact ⟨rfl,rfl,(KeyT.struct zD2 Try.underlying42 (by kernel_rfl) (KFs.cons (by decide) rfl (KeyT.int zB5 Try.underlying3) (KFs.cons (by decide) rfl (KeyT.int zB5 Try.underlying3) (KFs.cons (by decide) rfl (KeyT.int zB5 Try.underlying3) KFs.nil)))),by kernel_rfl⟩⟩,fun t h=>by cases h;exact ⟨rfl,rfl,by decide,rfl⟩⟩
def te48:TE:=⟨48,.slice 4,false,1,24,.slice none 0 0,some (.list .bool)⟩
theorem zD3:TEok Try.prog te48:=⟨TI.of Try.underlying48 rfl (by kernel_rfl),Try.underlying48,fun t h=>by cases h;exact ⟨rfl,rfl,by decide,rfl⟩⟩
def te51:TE:=⟨51,.slice 25,false,1,24,.slice none 0 0,some (.list Tc1)⟩
theorem zD4:TEok Try.prog te51:=⟨TI.of Try.underlying51 rfl (by kernel_rfl),Try.underlying51,fun t h=>by cases h;exact ⟨rfl,rfl,by decide,rfl⟩⟩
def te57:TE:=⟨57,.other,false,1,8,.nilFunc,none⟩
theorem zD5:TEok Try.prog te57:=⟨TI.of Try.underlying57 rfl (by kernel_rfl),trivial,fun t h=>by cases h⟩
def te64:TE:=⟨64,.int .u64,false,1,8,.int .u64 0,some (.int .u64)⟩
theorem zD6:TEok Try.prog te64:=⟨TI.of Try.underlying64 rfl (by kernel_rfl),Try.underlying64,fun t h=>by cases h;exact ⟨rfl,rfl,by decide,rfl⟩⟩
def te71:TE:=⟨71,.int .i64,false,1,8,.int .i64 0,some (.int .i64)⟩
theorem zD7:TEok Try.prog te71:=⟨TI.of Try.underlying71 rfl (by kernel_rfl),Try.underlying71,fun t h=>by cases h;exact ⟨rfl,rfl,by decide,rfl⟩⟩
def te82:TE:=⟨82,.int .u64,false,1,8,.int .u64 0,some (.int .u64)⟩
theorem zD8:TEok Try.prog te82:=⟨TI.of Try.underlying82 rfl (by kernel_rfl),Try.underlying82,fun t h=>by cases h;exact ⟨rfl,rfl,by decide,rfl⟩⟩
def te88:TE:=⟨88,.int .u64,false,1,8,.int .u64 0,some (.int .u64)⟩
theorem zD9:TEok Try.prog te88:=⟨TI.of Try.underlying88 rfl (by kernel_rfl),Try.underlying88,fun t h=>by cases h;exact ⟨rfl,rfl,by decide,rfl⟩⟩
def TT:List TE:=[te3,te4,te5,te9,te22,te23,te25,te27,te29,te42,te48,te51,te57,te64,te71,te82,te88]
theorem zcz:TOK Try.prog TT:=TOK.cons zEE (TOK.cons zEF (TOK.cons zEG (TOK.cons zEH (TOK.cons zDW (TOK.cons zDX (TOK.cons zDY (TOK.cons zDZ (TOK.cons zD0 (TOK.cons zD1 (TOK.cons zD3 (TOK.cons zD4 (TOK.cons zD5 (TOK.cons zD6 (TOK.cons zD7 (TOK.cons zD8 (TOK.cons zD9 (TOK.nil)))))))))))))))))

def zsT:Shape:=⟨[(.list (.int .i64))],[(0,.v 0)],[]⟩
def zsS:Shape:=⟨[(.list (.int .i64))],[(0,.own 0)],[(0,.arr 3 0)]⟩
def zur:CE:=⟨12,zsT,zsS,fun X=>zrm X⟩
theorem zyF:CE.ok Try.prog zur:=CE.of (Γ:=[]) (by kernel_rfl) zcz (GOK.nil) ⟨[],[],[],[]⟩ Try.func12 rfl Try.ntmps12 (rs:=[.tmp 2]) rfl (sig:=zsT) (out:=zsS) rfl Try.call12 (fun X=>by kernel_rfl)

def zsR:Shape:=⟨[Tc1],[(0,.v 0)],[]⟩
def zsQ:Shape:=⟨[Tc1],[(0,.v 0)],[]⟩
def zuq:CE:=⟨4,zsR,zsQ,fun X=>zrk X⟩
theorem zyE:CE.ok Try.prog zuq:=CE.of (Γ:=[zur]) (by kernel_rfl) zcz (GOK.cons zyF (GOK.nil)) ⟨[],[],[],[]⟩ Try.func4 rfl Try.ntmps4 (rs:=[.cell 2 25]) rfl (sig:=zsR) (out:=zsQ) rfl Try.call4 (fun X=>by kernel_rfl)

def zng:Shape:=⟨[(.int .i64),Tc1],[(0,.v 0),(1,.addr 1)],[]⟩
def znf:Shape:=⟨[.bool],[(0,.v 0)],[]⟩
def zk5:CE:=⟨32,zng,znf,fun X=>zgH X.1 X.2⟩
theorem zow:CE.ok Try.prog zk5:=CE.of (Γ:=[]) (by kernel_rfl) zcz (GOK.nil) ⟨[],[],[],[]⟩ Try.func32 rfl Try.ntmps32 (rs:=[.tmp 3]) rfl (sig:=zng) (out:=znf) rfl Try.call32 (fun X=>by kernel_rfl)

def zlk:Shape:=⟨[(.list (.int .i64)),Tc1],[(0,.v 0),(1,.fn 32 [.addr 1])],[]⟩
def zlj:Shape:=⟨[(.int .i64)],[(0,.v 0)],[]⟩
def zmh:CE:=⟨42,zlk,zlj,fun X=>zoQ X.1 X.2⟩
theorem zqS:CE.ok Try.prog zmh:=CE.of (Γ:=[zk5]) (by kernel_rfl) zcz (GOK.cons zow (GOK.nil)) ⟨[(2,⟨⟨[(.int .i64)],[(8,.v 0)],[]⟩,[4,5,9,10,11,12,13,14,15,16,17,18],[],[],0,[]⟩)],[],[],[]⟩ Try.func42 rfl Try.ntmps42 (rs:=[.tmp 4]) rfl (sig:=zlk) (out:=zlj) rfl Try.call42 (fun X=>by kernel_rfl)

def zjD:Shape:=⟨[(.list (.int .i64)),Tc1],[(0,.v 0),(1,.fn 32 [.addr 1])],[]⟩
def zjC:Shape:=⟨[.bool],[(0,.v 0)],[]⟩
def zj1:CE:=⟨33,zjD,zjC,fun X=>zgQ X.1 X.2⟩
theorem zoY:CE.ok Try.prog zj1:=CE.of (Γ:=[zmh]) (by kernel_rfl) zcz (GOK.cons zqS (GOK.nil)) ⟨[],[],[],[]⟩ Try.func33 rfl Try.ntmps33 (rs:=[.tmp 4]) rfl (sig:=zjD) (out:=zjC) rfl Try.call33 (fun X=>by kernel_rfl)

def zni:Shape:=⟨[Tc6,Tc1,Tc1],[(0,.v 0),(1,.ptr 100000 0),(2,.addr 1)],[(100000,.box 57 [.fn 32 [.addr 2]])]⟩
def znh:Shape:=⟨[.bool,Tc1],[(0,.v 0)],[(100000,.box 57 [.fn 32 [.addr 1]])]⟩
def zox:CE:=⟨35,zni,znh,fun X=>zjj X.1 X.2.1 X.2.2⟩
theorem ztp:CE.ok Try.prog zox:=CE.of (Γ:=[zk5]) (by kernel_rfl) zcz (GOK.cons zow (GOK.nil)) ⟨[],[],[],[]⟩ Try.func35 rfl Try.ntmps35 (rs:=[.tmp 4]) rfl (sig:=zni) (out:=znh) rfl Try.call35 (fun X=>by kernel_rfl)

def zj3:Shape:=⟨[Tc5,Tc1,Tc1],[(0,.v 0),(1,.fn 35 [.ptr 100000 0,.addr 1])],[(100000,.box 57 [.fn 32 [.addr 2]])]⟩
def zj2:Shape:=⟨[(.int .i64),Tc1],[(0,.v 0)],[(100000,.box 57 [.fn 32 [.addr 1]])]⟩
def zkQ:CE:=⟨43,zj3,zj2,fun X=>zmS X.1 X.2.1 X.2.2⟩
theorem zpH:CE.ok Try.prog zkQ:=CE.of (Γ:=[zox]) (by kernel_rfl) zcz (GOK.cons ztp (GOK.nil)) ⟨[(2,⟨⟨[Tc1,(.int .i64),Tc1],[(1,.fn 35 [.ptr 100000 0,.addr 0]),(8,.v 1)],[(100000,.box 57 [.fn 32 [.addr 2]])]⟩,[4,5,9,10,11,12,13,14,15,16,17,18],[],[],0,[]⟩)],[],[],[]⟩ Try.func43 rfl Try.ntmps43 (rs:=[.tmp 4]) rfl (sig:=zj3) (out:=zj2) rfl Try.call43 (fun X=>by kernel_rfl)

def ziu:Shape:=⟨[Tc5,Tc1,Tc1],[(0,.v 0),(1,.fn 35 [.ptr 100000 0,.addr 1])],[(100000,.box 57 [.fn 32 [.addr 2]])]⟩
def zit:Shape:=⟨[.bool,Tc1],[(0,.v 0)],[(100000,.box 57 [.fn 32 [.addr 1]])]⟩
def ziZ:CE:=⟨34,ziu,zit,fun X=>zhN X.1 X.2.1 X.2.2⟩
theorem znO:CE.ok Try.prog ziZ:=CE.of (Γ:=[zkQ]) (by kernel_rfl) zcz (GOK.cons zpH (GOK.nil)) ⟨[],[],[],[]⟩ Try.func34 rfl Try.ntmps34 (rs:=[.tmp 4]) rfl (sig:=ziu) (out:=zit) rfl Try.call34 (fun X=>by kernel_rfl)

def zoE:Shape:=⟨[(.list (.int .i64))],[(0,.v 0)],[]⟩
def zoD:Shape:=⟨[.bool],[(0,.v 0)],[]⟩
def zpc:CE:=⟨36,zoE,zoD,fun X=>zkE X⟩
theorem ztX:CE.ok Try.prog zpc:=CE.of (Γ:=[]) (by kernel_rfl) zcz (GOK.nil) ⟨[(2,⟨⟨[(.int .i64)],[(6,.v 0)],[]⟩,[2,3,7,8,9,10,11,12,13,14,15,16,17,18,19,20,21,22,23],[],[],0,[]⟩)],[],[(4,[(0,0),(0,1),(0,2),(0,3),(0,4),(0,5),(0,6),(0,7),(0,8),(0,9),(0,10),(0,11),(0,12),(0,13)])],[]⟩ Try.func36 rfl Try.ntmps36 (rs:=[.tmp 2]) rfl (sig:=zoE) (out:=zoD) rfl Try.call36 (fun X=>by kernel_rfl)

def zq7:Shape:=⟨[(.int .i64)],[(0,.v 0)],[]⟩
def zq6:Shape:=⟨[.bool],[(0,.v 0)],[]⟩
def zpi:CE:=⟨63,zq7,zq6,fun X=>zlS X⟩
theorem zsH:CE.ok Try.prog zpi:=CE.of (Γ:=[]) (by kernel_rfl) zcz (GOK.nil) ⟨[],[],[],[]⟩ Try.func63 rfl Try.ntmps63 (rs:=[.tmp 2]) rfl (sig:=zq7) (out:=zq6) rfl Try.call63 (fun X=>by kernel_rfl)

def zph:Shape:=⟨[(.int .i64),(.int .i64)],[(0,.v 0),(1,.v 1)],[]⟩
def zpg:Shape:=⟨[(.int .i64)],[(0,.v 0)],[]⟩
def zqf:CE:=⟨41,zph,zpg,fun X=>zke X.1 X.2⟩
theorem zvc:CE.ok Try.prog zqf:=CE.of (Γ:=[zpi]) (by kernel_rfl) zcz (GOK.cons zsH (GOK.nil)) ⟨[],[],[],[]⟩ Try.func41 rfl Try.ntmps41 (rs:=[.tmp 4]) rfl (sig:=zph) (out:=zpg) rfl Try.call41 (fun X=>by kernel_rfl)

def zvz:Shape:=⟨[(.list (.int .i64))],[(0,.v 0)],[]⟩
def zvy:Shape:=⟨[(.int .i64)],[(0,.v 0)],[]⟩
def zxj:CE:=⟨40,zvz,zvy,fun X=>zzk X⟩
theorem zAQ:CE.ok Try.prog zxj:=CE.of (Γ:=[]) (by kernel_rfl) zcz (GOK.nil) ⟨[(3,⟨⟨[(.int .i64)],[(8,.v 0)],[]⟩,[2,5,9,10,11,12,13,14,15,16],[],[],0,[]⟩)],[],[],[]⟩ Try.func40 rfl Try.ntmps40 (rs:=[.tmp 2]) rfl (sig:=zvz) (out:=zvy) rfl Try.call40 (fun X=>by kernel_rfl)

def zpb:Shape:=⟨[Tc6,Tc6],[(0,.v 0),(1,.v 1)],[]⟩
def zpa:Shape:=⟨[(.int .i64)],[(0,.v 0)],[]⟩
def zdZ:CE:=⟨27,zpb,zpa,fun X=>zb8 X.1 X.2⟩
theorem zeL:CE.ok Try.prog zdZ:=CE.of (Γ:=[zqf,zxj]) (by kernel_rfl) zcz (GOK.cons zvc (GOK.cons zAQ (GOK.nil))) ⟨[],[],[(1,[(0,0),(0,1),(0,2),(0,3),(0,5),(0,6),(0,7),(0,8),(0,10),(0,11),(0,12),(0,13),(1,4),(1,9),(1,14),(1,15),(1,16),(0,17)])],[]⟩ Try.func27 rfl Try.ntmps27 (rs:=[.tmp 4]) rfl (sig:=zpb) (out:=zpa) rfl Try.call27 (fun X=>by kernel_rfl)

def zo4:Shape:=⟨[Tc1],[(0,.v 0)],[]⟩
def zo3:Shape:=⟨[(.int .i64)],[(0,.v 0)],[]⟩
def zqd:CE:=⟨24,zo4,zo3,fun X=>zkc X⟩
theorem zvb:CE.ok Try.prog zqd:=CE.of (Γ:=[zj1,ziZ,zpc,zdZ]) (by kernel_rfl) zcz (GOK.cons zoY (GOK.cons znO (GOK.cons ztX (GOK.cons zeL (GOK.nil))))) ⟨[(11,⟨⟨[(.int .i64)],[(57,.v 0)],[]⟩,[2,4,13,17,22,58,59,60,61,62,63,64,65,66,67,68,69,70,71,72,73,74,75,76,77],[],[1],2,[]⟩)],[],[(13,[(0,0),(0,1),(0,2),(0,3),(0,4),(0,5),(0,6),(0,7),(0,8),(0,9),(0,10),(0,11),(0,12),(0,13),(1,14),(0,15),(0,16)])],[]⟩ Try.func24 rfl Try.ntmps24 (rs:=[.tmp 2]) rfl (sig:=zo4) (out:=zo3) rfl Try.call24 (fun X=>by kernel_rfl)

def zq4:Shape:=⟨[Tc1,Tc1],[(0,.v 0),(1,.v 1)],[]⟩
def zq3:Shape:=⟨[(.int .i64)],[(0,.v 0)],[]⟩
def zpe:CE:=⟨13,zq4,zq3,fun X=>zjn X.1 X.2⟩
theorem zsC:CE.ok Try.prog zpe:=CE.of (Γ:=[zqd]) (by kernel_rfl) zcz (GOK.cons zvb (GOK.nil)) ⟨[(2,⟨⟨[(.int .i64)],[(12,.v 0)],[]⟩,[4,6,7,13,14,15,16,17,18,19,20,21],[],[0,1,2],3,[]⟩)],[],[],[]⟩ Try.func13 rfl Try.ntmps13 (rs:=[.tmp 4]) rfl (sig:=zq4) (out:=zq3) rfl Try.call13 (fun X=>by kernel_rfl)

def zoP:Shape:=⟨[(.list (.int .i64))],[(0,.v 0)],[]⟩
def zoO:Shape:=⟨[(.list (.int .i64))],[(0,.own 0)],[(0,.arr 3 0)]⟩
def zpG:CE:=⟨14,zoP,zoO,fun X=>zgs X⟩
theorem zuX:CE.ok Try.prog zpG:=CE.of (Γ:=[]) (by kernel_rfl) zcz (GOK.nil) ⟨[],[],[],[]⟩ Try.func14 rfl Try.ntmps14 (rs:=[.tmp 2]) rfl (sig:=zoP) (out:=zoO) rfl Try.call14 (fun X=>by kernel_rfl)

def zmO:Shape:=⟨[Tc5],[(0,.v 0)],[]⟩
def zmN:Shape:=⟨[Tc5],[(0,.own 0)],[(0,.arr 42 0)]⟩
def znJ:CE:=⟨15,zmO,zmN,fun X=>zfI X⟩
theorem zsr:CE.ok Try.prog znJ:=CE.of (Γ:=[]) (by kernel_rfl) zcz (GOK.nil) ⟨[],[],[],[]⟩ Try.func15 rfl Try.ntmps15 (rs:=[.tmp 2]) rfl (sig:=zmO) (out:=zmN) rfl Try.call15 (fun X=>by kernel_rfl)

def zqa:Shape:=⟨[(.int .u64)],[(0,.v 0)],[]⟩
def zp9:Shape:=⟨[(.int .i64)],[(0,.v 0)],[]⟩
def zqX:CE:=⟨54,zqa,zp9,fun X=>zr0 X⟩
theorem zwf:CE.ok Try.prog zqX:=CE.of (Γ:=[]) (by kernel_rfl) zcz (GOK.nil) ⟨[],[(3,⟨⟨[(.int .u64),(.int .i64)],[(0,.v 0),(2,.v 1)],[]⟩,[3,4,5,6],[],[],0,[]⟩),(6,⟨⟨[(.int .u64),(.int .i64)],[(0,.v 0),(2,.v 1)],[]⟩,[7,8,9,10,11,12],[],[],0,[]⟩),(9,⟨⟨[(.int .u64),(.int .i64)],[(0,.v 0),(2,.v 1)],[]⟩,[13,14,15,16,17,18],[],[],0,[]⟩)],[],[]⟩ Try.func54 rfl Try.ntmps54 (rs:=[.tmp 2]) rfl (sig:=zqa) (out:=zp9) rfl Try.call54 (fun X=>by kernel_rfl)

def zsB:Shape:=⟨[(.int .u64)],[(0,.v 0)],[]⟩
def zsA:Shape:=⟨[(.int .i64)],[(0,.v 0)],[]⟩
def zn0:CE:=⟨38,zsB,zsA,fun X=>zpN X⟩
theorem zqE:CE.ok Try.prog zn0:=CE.of (Γ:=[zqX]) (by kernel_rfl) zcz (GOK.cons zwf (GOK.nil)) ⟨[],[],[],[]⟩ Try.func38 rfl Try.ntmps38 (rs:=[.tmp 2]) rfl (sig:=zsB) (out:=zsA) rfl Try.call38 (fun X=>by kernel_rfl)

def zsG:Shape:=⟨[(.int .i64),(.int .i64)],[(0,.v 0),(1,.v 1)],[]⟩
def zsF:Shape:=⟨[.bool],[(0,.v 0)],[]⟩
def zhG:CE:=⟨50,zsG,zsF,fun X=>zfm X.1 X.2⟩
theorem ziJ:CE.ok Try.prog zhG:=CE.of (Γ:=[zpi]) (by kernel_rfl) zcz (GOK.cons zsH (GOK.nil)) ⟨[],[],[],[]⟩ Try.func50 rfl Try.ntmps50 (rs:=[.tmp 4]) rfl (sig:=zsG) (out:=zsF) rfl Try.call50 (fun X=>by kernel_rfl)

def zgi:Shape:=⟨[(.int .i64),(.int .i64),(.list (.int .i64))],[(0,.own 100000),(1,.v 0),(2,.v 1)],[(100000,.arr 3 2)]⟩
def zgh:Shape:=⟨[(.list (.int .i64))],[],[(100000,.arr 3 0)]⟩
def zgw:CE:=⟨44,zgi,zgh,fun X=>zde X.1 X.2.1 X.2.2⟩
theorem zkZ:CE.ok Try.prog zgw:=CE.of (Γ:=[zhG]) (by kernel_rfl) zcz (GOK.cons ziJ (GOK.nil)) ⟨[(1,⟨⟨[(.int .i64),(.list (.int .i64))],[(0,.own 100000),(6,.v 0)],[(100000,.arr 3 1)]⟩,[7,10,11,12,13,14,15,16,17,18,19,20,21,22,23,24,25,26,27,28,29,30,31,32,33,34,35,36,37,38,39,40,41,42,43,44,45,46,47,48],[],[],0,[]⟩),(4,⟨⟨[(.int .i64),(.list (.int .i64))],[(0,.own 100000),(7,.v 0)],[(100000,.arr 3 1)]⟩,[16,17,18,19,20,21,22,23,24,25,26,27,28,29,30,31,32,33,34,35,36,37,38,39,40,41,42,43,44,45,46,47,48],[],[],0,[]⟩)],[],[(4,[(0,0),(0,1),(0,2),(0,3),(0,4),(0,5),(0,6),(0,7),(0,8),(0,9),(0,10),(0,11),(0,12),(1,13),(0,14)]),(6,[(0,0),(0,1),(0,2),(0,3),(0,4),(0,5),(0,6),(0,7),(0,8),(0,9),(0,10),(0,11),(0,12),(0,13),(0,14),(2,15),(0,16),(2,17)])],[]⟩ Try.func44 rfl Try.ntmps44 (rs:=[]) rfl (sig:=zgi) (out:=zgh) rfl Try.call44 (fun X=>by kernel_rfl)

def zih:Shape:=⟨[(.int .i64),(.int .i64),(.int .i64),(.list (.int .i64))],[(0,.own 100000),(1,.v 0),(2,.v 1),(3,.v 2)],[(100000,.arr 3 3)]⟩
def zig:Shape:=⟨[(.list (.int .i64))],[],[(100000,.arr 3 0)]⟩
def ziE:CE:=⟨64,zih,zig,fun X=>zdH X.1 X.2.1 X.2.2.1 X.2.2.2⟩
theorem zm5:CE.ok Try.prog ziE:=CE.of (Γ:=[zhG]) (by kernel_rfl) zcz (GOK.cons ziJ (GOK.nil)) ⟨[(1,⟨⟨[(.int .i64),(.list (.int .i64))],[(0,.own 100000),(8,.v 0)],[(100000,.arr 3 1)]⟩,[9,11,12,13,14,15,16,17,18,19,20,21,22,23,24,25,26,27,28,29,30,31,32,33,34,35,36,37,38,39,40,41,42,43,44,45,46,47,48,49,50,51,52,53,54,55,56,57,58,59,60,61,62,63,64,65,66,67,68,69,70,71,72,73,74,75],[],[],0,[]⟩)],[(3,⟨⟨[.bool],[(36,.v 0)],[]⟩,[17,18,19,20,21,22,23,24,25,26,27,28,29,30,31,32,33,34,35],[],[],0,[]⟩),(4,⟨⟨[(.int .i64)],[(9,.v 0)],[]⟩,[17,18,19,20,21,22,23,24,25,26,27,28,29,30,31,32,33,34,35,36,37,38],[],[],0,[]⟩)],[(3,[(0,0),(0,1),(0,2),(0,3),(0,4),(0,5),(0,6),(0,7),(0,8),(0,9),(0,10),(0,11),(0,12),(0,13),(0,14),(0,15),(0,16),(0,17),(1,18),(0,19)]),(5,[(0,0),(0,1),(0,2),(0,3),(0,4),(0,5),(0,6),(0,7),(0,8),(0,9),(0,10),(0,11),(1,12),(0,13)]),(6,[(0,0),(0,1),(0,2),(0,3),(0,4),(0,5),(0,6),(0,7),(0,8),(0,9),(0,10),(0,11),(0,12),(0,13),(0,14),(0,15),(0,16),(0,17),(0,18),(0,19),(0,20),(2,21),(0,22),(2,23)])],[]⟩ Try.func64 rfl Try.ntmps64 (rs:=[]) rfl (sig:=zih) (out:=zig) rfl Try.call64 (fun X=>by kernel_rfl)

def zh9:Shape:=⟨[(.int .i64),(.int .i64),(.list (.int .i64))],[(0,.own 100000),(1,.v 0),(2,.v 1)],[(100000,.arr 3 2)]⟩
def zh8:Shape:=⟨[(.list (.int .i64))],[],[(100000,.arr 3 0)]⟩
def ziw:CE:=⟨45,zh9,zh8,fun X=>zfb X.1 X.2.1 X.2.2⟩
theorem zm3:CE.ok Try.prog ziw:=CE.of (Γ:=[ziE]) (by kernel_rfl) zcz (GOK.cons zm5 (GOK.nil)) ⟨[(4,⟨⟨[(.int .i64),(.list (.int .i64))],[(0,.own 100000),(9,.v 0)],[(100000,.arr 3 1)]⟩,[18,19,20,21,22,23,24,25,26],[],[],0,[]⟩),(8,⟨⟨[(.int .i64),(.list (.int .i64))],[(0,.own 100000),(10,.v 0)],[(100000,.arr 3 1)]⟩,[29,30,31,32,33,34,35,36,37,38,39,40,41,42,43,44,45,46,47,48,49,50,51,52,53,54,55],[],[],0,[]⟩)],[],[(10,[(0,0),(0,1),(0,2),(0,3),(0,4),(0,5),(0,6),(0,7),(0,8),(0,9),(0,10),(0,11),(0,12),(0,13),(0,14),(0,15),(0,16),(2,17),(0,18),(2,19)])],[]⟩ Try.func45 rfl Try.ntmps45 (rs:=[]) rfl (sig:=zh9) (out:=zh8) rfl Try.call45 (fun X=>by kernel_rfl)

def ziy:Shape:=⟨[(.int .i64)],[(0,.v 0)],[]⟩
def zix:Shape:=⟨[(.int .u64)],[(0,.v 0)],[]⟩
def zgl:CE:=⟨65,ziy,zix,fun X=>zea X⟩
theorem zi4:CE.ok Try.prog zgl:=CE.of (Γ:=[zn0]) (by kernel_rfl) zcz (GOK.cons zqE (GOK.nil)) ⟨[],[],[],[]⟩ Try.func65 rfl Try.ntmps65 (rs:=[.tmp 2]) rfl (sig:=ziy) (out:=zix) rfl Try.call65 (fun X=>by kernel_rfl)

def zjc:Shape:=⟨[(.int .u64)],[(0,.ptr 100000 0)],[(100000,.box 88 [.v 0])]⟩
def zjb:Shape:=⟨[(.int .u64),(.int .u64)],[(0,.v 0)],[(100000,.box 88 [.v 1])]⟩
def zgT:CE:=⟨66,zjc,zjb,fun X=>zeD X⟩
theorem zjU:CE.ok Try.prog zgT:=CE.of (Γ:=[]) (by kernel_rfl) zcz (GOK.nil) ⟨[],[],[(1,[(0,0),(0,1),(0,2),(0,3),(0,4),(0,5),(0,6),(0,7),(0,8),(2,9)]),(2,[(0,0),(0,1),(0,2),(0,3),(0,4),(0,5),(0,6),(0,7),(0,8),(2,9)]),(3,[(0,0),(0,1),(0,2),(0,3),(0,4),(0,5),(0,6),(0,7),(0,8),(2,9)])],[]⟩ Try.func66 rfl Try.ntmps66 (rs:=[.tmp 2]) rfl (sig:=zjc) (out:=zjb) rfl Try.call66 (fun X=>by kernel_rfl)

def zge:Shape:=⟨[(.int .i64),(.int .i64),(.list (.int .i64))],[(0,.own 100000),(1,.v 0),(2,.v 1)],[(100000,.arr 3 2)]⟩
def zgd:Shape:=⟨[(.list (.int .i64))],[],[(100000,.arr 3 0)]⟩
def zgu:CE:=⟨46,zge,zgd,fun X=>zdb X.1 X.2.1 X.2.2⟩
theorem zkT:CE.ok Try.prog zgu:=CE.of (Γ:=[zgT,zgl]) (by kernel_rfl) zcz (GOK.cons zjU (GOK.cons zi4 (GOK.nil))) ⟨[(5,⟨⟨[(.int .i64),(.list (.int .i64)),(.int .u64)],[(0,.own 100000),(7,.ptr 0 0),(9,.v 0)],[(100000,.arr 3 1),(0,.box 88 [.v 2])]⟩,[10,26,27,28,29,30,31,32,33,34,35,36,37,38,39,40,41,42,43,44,45,46,47,48,49,50,51,52,53,54,55,56,57,58,59,60,61,62,63,64],[],[],1,[]⟩)],[(9,⟨⟨[(.int .i64)],[(10,.v 0)],[]⟩,[41,42,43,44,45,46],[],[0],1,[]⟩)],[(10,[(0,0),(0,1),(0,2),(0,3),(0,4),(0,5),(0,6),(0,7),(0,8),(0,9),(0,10),(0,11),(0,12),(0,13),(0,14),(0,15),(0,16),(2,17),(0,18),(2,19)])],[]⟩ Try.func46 rfl Try.ntmps46 (rs:=[]) rfl (sig:=zge) (out:=zgd) rfl Try.call46 (fun X=>by kernel_rfl)

def zi8:Shape:=⟨[(.list (.int .i64)),(.int .i64),(.int .i64),(.int .i64)],[(0,.v 0),(1,.v 1),(2,.v 2),(3,.ptr 100000 0)],[(100000,.box 3 [.v 3])]⟩
def zi7:Shape:=⟨[(.int .i64),(.int .i64),(.int .i64)],[(0,.v 0),(1,.v 1)],[(100000,.box 3 [.v 2])]⟩
def zjR:CE:=⟨72,zi8,zi7,fun X=>zdl X.1 X.2.1 X.2.2.1 X.2.2.2⟩
theorem zom:CE.ok Try.prog zjR:=CE.of (Γ:=[zhG]) (by kernel_rfl) zcz (GOK.cons ziJ (GOK.nil)) ⟨[],[],[(1,[(0,0),(0,1),(0,2),(0,3),(0,4),(0,5),(0,6),(0,7),(1,8)])],[]⟩ Try.func72 rfl Try.ntmps72 (rs:=[.tmp 8,.tmp 9]) rfl (sig:=zi8) (out:=zi7) rfl Try.call72 (fun X=>by kernel_rfl)

def zi3:Shape:=⟨[(.list (.int .i64)),(.int .i64),(.int .i64),(.int .i64),(.int .i64)],[(0,.v 0),(1,.v 1),(2,.v 2),(3,.v 3),(4,.ptr 100000 0)],[(100000,.box 3 [.v 4])]⟩
def zi2:Shape:=⟨[(.int .i64),(.int .i64)],[(0,.v 0)],[(100000,.box 3 [.v 1])]⟩
def zgS:CE:=⟨68,zi3,zi2,fun X=>zeA X.1 X.2.1 X.2.2.1 X.2.2.2.1 X.2.2.2.2⟩
theorem zjP:CE.ok Try.prog zgS:=CE.of (Γ:=[zjR]) (by kernel_rfl) zcz (GOK.cons zom (GOK.nil)) ⟨[],[],[],[]⟩ Try.func68 rfl Try.ntmps68 (rs:=[.tmp 10]) rfl (sig:=zi3) (out:=zi2) rfl Try.call68 (fun X=>by kernel_rfl)

def zfT:Shape:=⟨[(.list (.int .i64)),(.int .i64),(.int .i64)],[(0,.v 0),(1,.v 1),(2,.ptr 100000 0)],[(100000,.box 3 [.v 2])]⟩
def zfS:Shape:=⟨[(.int .i64),(.int .i64)],[(0,.v 0)],[(100000,.box 3 [.v 1])]⟩
def zgk:CE:=⟨67,zfT,zfS,fun X=>zbW X.1 X.2.1 X.2.2⟩
theorem zkn:CE.ok Try.prog zgk:=CE.of (Γ:=[zgS]) (by kernel_rfl) zcz (GOK.cons zjP (GOK.nil)) ⟨[],[],[],[]⟩ Try.func67 rfl Try.ntmps67 (rs:=[.tmp 6]) rfl (sig:=zfT) (out:=zfS) rfl Try.call67 (fun X=>by kernel_rfl)

def zg2:Shape:=⟨[(.list (.int .i64)),(.int .i64),(.int .i64)],[(0,.v 0),(1,.v 1),(2,.v 2)],[]⟩
def zg1:Shape:=⟨[(.int .i64),(.int .i64)],[(0,.v 0),(1,.v 1)],[]⟩
def zhm:CE:=⟨47,zg2,zg1,fun X=>zd3 X.1 X.2.1 X.2.2⟩
theorem zlu:CE.ok Try.prog zhm:=CE.of (Γ:=[zgk,zgS]) (by kernel_rfl) zcz (GOK.cons zkn (GOK.cons zjP (GOK.nil))) ⟨[],[(10,⟨⟨[(.int .i64),(.int .i64),(.int .i64),(.int .i64)],[(9,.ptr 0 0),(10,.v 0),(11,.v 1),(12,.v 2)],[(0,.box 3 [.v 3])]⟩,[33,34,35,36,37,38,39,40,41,42,43],[],[],1,[]⟩),(11,⟨⟨[(.int .i64),(.int .i64)],[(9,.ptr 0 0),(11,.v 0)],[(0,.box 3 [.v 1])]⟩,[10,12,31,32,33,34,35,36,37,38,39,40,41,42,43,44,45,46,47,48],[],[],1,[]⟩)],[],[]⟩ Try.func47 rfl Try.ntmps47 (rs:=[.tmp 6,.tmp 7]) rfl (sig:=zg2) (out:=zg1) rfl Try.call47 (fun X=>by kernel_rfl)

def zgG:Shape:=⟨[(.int .i64),(.int .i64),(.list (.int .i64))],[(0,.own 100000),(1,.v 0),(2,.v 1)],[(100000,.arr 3 2)]⟩
def zgF:Shape:=⟨[(.list (.int .i64))],[],[(100000,.arr 3 0)]⟩
def zhg:CE:=⟨48,zgG,zgF,fun X=>zdz X.1 X.2.1 X.2.2⟩
theorem zle:CE.ok Try.prog zhg:=CE.of (Γ:=[]) (by kernel_rfl) zcz (GOK.nil) ⟨[(2,⟨⟨[(.int .i64),(.int .i64),(.list (.int .i64))],[(0,.own 100000),(6,.v 0),(7,.v 1)],[(100000,.arr 3 2)]⟩,[11,12,13,14,15,16,17,18,19,20,21,22,23,24,25,26,27,28,29,30,31],[],[],0,[]⟩)],[],[(3,[(0,0),(0,1),(0,2),(0,3),(0,4),(0,5),(0,6),(0,7),(0,8),(0,9),(0,10),(0,11),(0,12),(2,13),(0,14),(2,15)])],[]⟩ Try.func48 rfl Try.ntmps48 (rs:=[]) rfl (sig:=zgG) (out:=zgF) rfl Try.call48 (fun X=>by kernel_rfl)

def zeo:Shape:=⟨[(.int .i64),(.int .i64),(.list (.int .i64))],[(0,.own 100000),(1,.v 0),(2,.v 1)],[(100000,.arr 3 2)]⟩
def zen:Shape:=⟨[.bool,(.list (.int .i64))],[(0,.v 0)],[(100000,.arr 3 1)]⟩
def zeC:CE:=⟨49,zeo,zen,fun X=>zca X.1 X.2.1 X.2.2⟩
theorem zij:CE.ok Try.prog zeC:=CE.of (Γ:=[zhG]) (by kernel_rfl) zcz (GOK.cons ziJ (GOK.nil)) ⟨[(3,⟨⟨[(.int .i64),(.int .i64),(.list (.int .i64))],[(0,.own 100000),(7,.v 0),(8,.v 1)],[(100000,.arr 3 2)]⟩,[6,9,10,13,14,15,16,17,18,19,20,21,22,23,24,25,26,27,28,29,30,31,32,33,34,35,36,37,38,39,40,41,42,43,44,45,46,47,48,49,50,51,52,53,54,55,56,57,58,59,60,61,62,63,64,65,66,67,68,69,70,71,72,73,74,75,76,77,78,79,80,81,82,83,84,85,86,87,88,89,90,91,92,93,94,95,96,97,98,99,100,101,102,103,104,105,106,107,108,109,110,111,112,113,114,115,116,117,118,119,120,121,122,123,124,125,126,127,128,129,130,131,132],[],[],0,[]⟩),(5,⟨⟨[(.int .i64)],[(7,.v 0)],[]⟩,[17,18,19,20,21,22,23,24,25,26,27,28,29,30,31,32,33,34],[],[],0,[]⟩),(14,⟨⟨[(.int .i64),(.list (.int .i64))],[(0,.own 100000),(9,.v 0)],[(100000,.arr 3 1)]⟩,[64,65,66,67,68,69,70,71,72,73,74,75,76,77,78,79,80,81,82,83,84,85,86,87,88,89,90,91,92,93,94],[],[],0,[]⟩),(20,⟨⟨[(.int .i64),(.list (.int .i64))],[(0,.own 100000),(10,.v 0)],[(100000,.arr 3 1)]⟩,[101,102,103,104,105,106,107,108,109,110,111,112,113,114,115,116,117,118,119,120,121,122,123,124,125,126,127,128,129,130,131,132],[],[],0,[]⟩)],[(6,⟨⟨[(.int .i64)],[(7,.v 0)],[]⟩,[17,18,19,20,21,22,23,24,25,26,27,28,29,30,31,32,33,34],[],[],0,[]⟩),(15,⟨⟨[(.list (.int .i64))],[(0,.own 100000)],[(100000,.arr 3 0)]⟩,[9,58,59,60,61,62,63,64,65,66,67,68,69,70,71,72,73,74,75,76,77,78,79,80,81,82,83,84,85,86,87,88,89,90,91,92,93,94],[],[],0,[]⟩)],[(5,[(0,0),(0,1),(0,2),(0,3),(0,4),(0,5),(0,6),(0,7),(0,8),(0,9),(0,10),(0,11),(0,12),(1,13),(0,14),(0,15)]),(11,[(0,0),(0,1),(0,2),(0,3),(0,4),(0,5),(0,6),(0,7),(0,8),(0,9),(0,10),(0,11),(0,12),(0,13),(0,14),(2,15),(0,16),(2,17)]),(16,[(0,0),(0,1),(0,2),(0,3),(0,4),(0,5),(0,6),(0,7),(0,8),(1,9),(0,10)]),(22,[(0,0),(0,1),(0,2),(0,3),(0,4),(0,5),(0,6),(0,7),(0,8),(1,9),(0,10)]),(23,[(0,0),(0,1),(0,2),(0,3),(0,4),(0,5),(0,6),(0,7),(0,8),(0,9),(0,10),(0,11),(0,12),(0,13),(0,14),(2,15),(0,16),(2,17)]),(17,[(0,0),(0,1),(0,2),(0,3),(0,4),(0,5),(0,6),(0,7),(0,8),(0,9),(0,10),(0,11),(0,12),(0,13),(0,14),(2,15),(0,16),(2,17)])],[]⟩ Try.func49 rfl Try.ntmps49 (rs:=[.tmp 6]) rfl (sig:=zeo) (out:=zen) rfl Try.call49 (fun X=>by kernel_rfl)

def zfZ:Shape:=⟨[(.int .i64),(.int .i64),(.int .i64),(.list (.int .i64))],[(0,.own 100000),(1,.v 0),(2,.v 1),(3,.v 2)],[(100000,.arr 3 3)]⟩
def zfY:Shape:=⟨[(.int .i64),(.list (.int .i64))],[(0,.v 0)],[(100000,.arr 3 1)]⟩
def zgn:CE:=⟨51,zfZ,zfY,fun X=>zcV X.1 X.2.1 X.2.2.1 X.2.2.2⟩
theorem zkt:CE.ok Try.prog zgn:=CE.of (Γ:=[zhG]) (by kernel_rfl) zcz (GOK.cons ziJ (GOK.nil)) ⟨[(10000003,⟨⟨[(.int .i64),(.int .i64),(.list (.int .i64))],[(0,.own 100000),(9,.v 0),(10,.v 1)],[(100000,.arr 3 2)]⟩,[29,30,31,32,33,34,35,36,37,38,39,40,41,42,43,44,45,46,47,48,49,50,51,52,53,54,55,56,57,58,59,60,61,62,63,64,65,66,67,68,69,70,71,72,73,74,75,76,77,78,79,80,81,82],[],[],0,[]⟩),(3,⟨⟨[(.int .i64)],[(9,.v 0)],[]⟩,[29,30,31,32,33,34,35,36,37,38,39,40,41,42,43,44,45],[],[],0,[]⟩),(5,⟨⟨[(.int .i64)],[(10,.v 0)],[]⟩,[46,47,48,49,50,51,52,53,54,55,56,57,58,59,60,61],[],[],0,[]⟩)],[(4,⟨⟨[(.int .i64)],[(9,.v 0)],[]⟩,[29,30,31,32,33,34,35,36,37,38,39,40,41,42,43,44,45],[],[],0,[]⟩),(6,⟨⟨[(.int .i64)],[(10,.v 0)],[]⟩,[46,47,48,49,50,51,52,53,54,55,56,57,58,59,60,61],[],[],0,[]⟩)],[(1,[(0,0),(0,1),(0,2),(0,3),(0,4),(0,5),(0,6),(0,7),(0,8),(0,9),(0,10),(0,11),(0,12),(2,13),(0,14),(2,15)]),(3,[(0,0),(0,1),(0,2),(0,3),(0,4),(0,5),(0,6),(0,7),(0,8),(0,9),(0,10),(0,11),(1,12),(0,13),(0,14)]),(5,[(0,0),(0,1),(0,2),(0,3),(0,4),(0,5),(0,6),(0,7),(0,8),(0,9),(0,10),(0,11),(1,12),(0,13)]),(8,[(0,0),(0,1),(0,2),(0,3),(0,4),(0,5),(0,6),(0,7),(0,8),(0,9),(0,10),(0,11),(0,12),(2,13),(0,14),(2,15)])],[]⟩ Try.func51 rfl Try.ntmps51 (rs:=[.tmp 8]) rfl (sig:=zfZ) (out:=zfY) rfl Try.call51 (fun X=>by kernel_rfl)

def zhV:Shape:=⟨[(.int .i64),(.int .i64),(.int .i64),(.list (.int .i64))],[(0,.own 100000),(1,.v 0),(2,.v 1),(3,.v 2)],[(100000,.arr 3 3)]⟩
def zhU:Shape:=⟨[(.int .i64),.bool,(.list (.int .i64))],[(0,.v 0),(1,.v 1)],[(100000,.arr 3 2)]⟩
def zib:CE:=⟨52,zhV,zhU,fun X=>zeG X.1 X.2.1 X.2.2.1 X.2.2.2⟩
theorem zmu:CE.ok Try.prog zib:=CE.of (Γ:=[zhG]) (by kernel_rfl) zcz (GOK.cons ziJ (GOK.nil)) ⟨[(3,⟨⟨[(.int .i64)],[(10,.v 0)],[]⟩,[30,31,32,33,34,35,36,37,38,39,40,41,42,43,44,45],[],[],0,[]⟩),(5,⟨⟨[(.int .i64)],[(11,.v 0)],[]⟩,[46,47,48,49,50,51,52,53,54,55,56,57,58,59,60,61,62],[],[],0,[]⟩),(10000013,⟨⟨[(.int .i64),(.int .i64),(.list (.int .i64))],[(0,.own 100000),(10,.v 0),(11,.v 1)],[(100000,.arr 3 2)]⟩,[99,100,101,102,103,104,105,106,107,108,109,110,111,112,113,114,115,116,117,118,119,120,121,122,123,124,125,126,127,128,129,130,131,132,133,134,135,136,137,138,139,140,141,142,143,144,145,146,147,148,149,150,151,152],[],[],0,[]⟩),(13,⟨⟨[(.int .i64)],[(10,.v 0)],[]⟩,[99,100,101,102,103,104,105,106,107,108,109,110,111,112,113,114],[],[],0,[]⟩),(15,⟨⟨[(.int .i64)],[(11,.v 0)],[]⟩,[115,116,117,118,119,120,121,122,123,124,125,126,127,128,129,130,131],[],[],0,[]⟩)],[(4,⟨⟨[(.int .i64)],[(10,.v 0)],[]⟩,[30,31,32,33,34,35,36,37,38,39,40,41,42,43,44,45],[],[],0,[]⟩),(6,⟨⟨[(.int .i64)],[(11,.v 0)],[]⟩,[46,47,48,49,50,51,52,53,54,55,56,57,58,59,60,61,62],[],[],0,[]⟩),(14,⟨⟨[(.int .i64)],[(10,.v 0)],[]⟩,[99,100,101,102,103,104,105,106,107,108,109,110,111,112,113,114],[],[],0,[]⟩),(16,⟨⟨[(.int .i64)],[(11,.v 0)],[]⟩,[115,116,117,118,119,120,121,122,123,124,125,126,127,128,129,130,131],[],[],0,[]⟩)],[(1,[(0,0),(0,1),(0,2),(0,3),(0,4),(0,5),(0,6),(0,7),(0,8),(0,9),(0,10),(0,11),(0,12),(2,13),(0,14),(2,15)]),(3,[(0,0),(0,1),(0,2),(0,3),(0,4),(0,5),(0,6),(0,7),(0,8),(0,9),(0,10),(0,11),(1,12),(0,13)]),(5,[(0,0),(0,1),(0,2),(0,3),(0,4),(0,5),(0,6),(0,7),(0,8),(0,9),(0,10),(0,11),(1,12),(0,13),(0,14)]),(8,[(0,0),(0,1),(0,2),(0,3),(0,4),(0,5),(0,6),(0,7),(0,8),(0,9),(0,10),(0,11),(0,12),(2,13),(0,14),(2,15)]),(10,[(0,0),(0,1),(0,2),(0,3),(0,4),(0,5),(0,6),(0,7),(0,8),(0,9),(0,10),(0,11),(0,12),(2,13),(0,14),(2,15)]),(13,[(0,0),(0,1),(0,2),(0,3),(0,4),(0,5),(0,6),(0,7),(0,8),(0,9),(0,10),(0,11),(1,12),(0,13)]),(15,[(0,0),(0,1),(0,2),(0,3),(0,4),(0,5),(0,6),(0,7),(0,8),(0,9),(0,10),(0,11),(1,12),(0,13),(0,14)]),(21,[(0,0),(0,1),(0,2),(0,3),(0,4),(0,5),(0,6),(0,7),(0,8),(0,9),(0,10),(0,11),(0,12),(2,13),(0,14),(2,15)]),(18,[(0,0),(0,1),(0,2),(0,3),(0,4),(0,5),(0,6),(0,7),(0,8),(0,9),(0,10),(0,11),(0,12),(2,13),(0,14),(2,15)])],[]⟩ Try.func52 rfl Try.ntmps52 (rs:=[.tmp 8,.tmp 9]) rfl (sig:=zhV) (out:=zhU) rfl Try.call52 (fun X=>by kernel_rfl)

def ziC:Shape:=⟨[(.int .i64),(.int .i64),(.int .i64),(.list (.int .i64))],[(0,.own 100000),(1,.v 0),(2,.v 1),(3,.v 2)],[(100000,.arr 3 3)]⟩
def ziB:Shape:=⟨[(.list (.int .i64))],[],[(100000,.arr 3 0)]⟩
def zja:CE:=⟨37,ziC,ziB,LFix zeJ⟩
theorem znY:CE.ok Try.prog zja:=CE.ofRec (Γ:=[zgw,ziw,zgu,zhg,zeC,zgn,zib,zhm,zhG]) (by kernel_rfl) zcz (GOK.cons zkZ (GOK.cons zm3 (GOK.cons zkT (GOK.cons zle (GOK.cons zij (GOK.cons zkt (GOK.cons zmu (GOK.cons zlu (GOK.cons ziJ (GOK.nil)))))))))) ⟨[(2,⟨⟨[(.int .i64),(.int .i64),(.int .i64),.bool,.bool,(.list (.int .i64))],[(0,.own 100000),(1,.v 0),(2,.v 1),(3,.v 2),(8,.v 3),(9,.v 4)],[(100000,.arr 3 5)]⟩,[10,11,12,13,14,15,16,17,18,19,20,21,22,23,24,25,26,27,28,29,30,31,32,33,34,35,36,37,38,39,40,41,42,43,44,45,46,47,48,49,50,51,52,53,54,55,56,57,58,59,60,61,62,63,64,65,66,67,68,69,70,71,72,73,74,75,76,77,78,79,80,81,82,83,84,85,86,87,88,89,90,91,92,93,94,95,96,97,98,99,100,101,102,103,104,105,106,107,108,109,110,111,112,113,114,115,116,117,118,119,120,121,122,123,124,125,126,127,128,129,130,131,132,133],[],[],0,[]⟩)],[(9,⟨⟨[(.int .i64),(.list (.int .i64))],[(0,.own 100000),(3,.v 0)],[(100000,.arr 3 1)]⟩,[34,35,36,37,38,39,40,41],[],[],0,[]⟩),(14,⟨⟨[(.int .i64),(.int .i64),(.list (.int .i64))],[(0,.own 100000),(11,.v 0),(12,.v 1)],[(100000,.arr 3 2)]⟩,[49,50,51,52,53,54,55,56,57,58,59,60],[],[],0,[]⟩),(15,⟨⟨[.bool],[(68,.v 0)],[]⟩,[61,62,63,64,65,66,67],[],[],0,[]⟩),(16,⟨⟨[(.list (.int .i64))],[(0,.own 100000)],[(100000,.arr 3 0)]⟩,[61,62,63,64,65,66,67,68,69,70,71,72],[],[],0,[]⟩),(17,⟨⟨[.bool],[(87,.v 0)],[]⟩,[73,74,75,76,77,78,79,80,81,82,83,84,85,86],[],[],0,[]⟩)],[(17,[(0,0),(0,1),(0,2),(0,3),(0,4),(0,5),(0,6),(0,7),(0,8),(0,9),(0,10),(0,11),(1,12),(0,13),(0,14)])],[]⟩ Try.func37 rfl Try.ntmps37 (rs:=[]) rfl (sig:=ziC) (out:=ziB) rfl Try.call37 (d:=zeJ) (fun rc X=>by kernel_rfl)

def zpK:Shape:=⟨[(.list (.int .i64))],[(0,.own 100000)],[(100000,.arr 3 0)]⟩
def zpJ:Shape:=⟨[(.list (.int .i64))],[],[(100000,.arr 3 0)]⟩
def zqz:CE:=⟨25,zpK,zpJ,fun X=>zmj X⟩
theorem zvt:CE.ok Try.prog zqz:=CE.of (Γ:=[zja,zn0]) (by kernel_rfl) zcz (GOK.cons znY (GOK.cons zqE (GOK.nil))) ⟨[],[],[],[]⟩ Try.func25 rfl Try.ntmps25 (rs:=[]) rfl (sig:=zpK) (out:=zpJ) rfl Try.call25 (fun X=>by kernel_rfl)

def zgg:Shape:=⟨[(.int .i64),(.int .i64),Tc5],[(0,.own 100000),(1,.v 0),(2,.v 1),(3,.fn 27 [])],[(100000,.arr 42 2)]⟩
def zgf:Shape:=⟨[Tc5],[],[(100000,.arr 42 0)]⟩
def zgv:CE:=⟨55,zgg,zgf,fun X=>zdc X.1 X.2.1 X.2.2⟩
theorem zkY:CE.ok Try.prog zgv:=CE.of (Γ:=[zdZ]) (by kernel_rfl) zcz (GOK.cons zeL (GOK.nil)) ⟨[(1,⟨⟨[(.int .i64),Tc5],[(0,.own 100000),(8,.v 0)],[(100000,.arr 42 1)]⟩,[9,12,13,14,15,16,17,18,19,20,21,22,23,24,25,26,27,28,29,30,31,32,33,34,35,36,37,38,39,40,41,42,43,44,45,46,47,48,49,50,51,52],[],[],0,[]⟩),(4,⟨⟨[(.int .i64),Tc5],[(0,.own 100000),(9,.v 0)],[(100000,.arr 42 1)]⟩,[18,19,20,21,22,23,24,25,26,27,28,29,30,31,32,33,34,35,36,37,38,39,40,41,42,43,44,45,46,47,48,49,50,51,52],[],[],0,[]⟩)],[],[(4,[(0,0),(0,1),(0,2),(0,3),(0,4),(0,5),(0,6),(0,7),(0,8),(0,9),(0,10),(0,11),(0,12),(0,13),(1,14),(0,15),(0,16)]),(6,[(0,0),(0,1),(0,2),(0,3),(0,4),(0,5),(0,6),(0,7),(0,8),(0,9),(0,10),(0,11),(0,12),(0,13),(0,14),(2,15),(0,16),(2,17)])],[]⟩ Try.func55 rfl Try.ntmps55 (rs:=[]) rfl (sig:=zgg) (out:=zgf) rfl Try.call55 (fun X=>by kernel_rfl)

def zif:Shape:=⟨[(.int .i64),(.int .i64),(.int .i64),Tc5],[(0,.own 100000),(1,.v 0),(2,.v 1),(3,.v 2),(4,.fn 27 [])],[(100000,.arr 42 3)]⟩
def zie:Shape:=⟨[Tc5],[],[(100000,.arr 42 0)]⟩
def ziD:CE:=⟨69,zif,zie,fun X=>zdG X.1 X.2.1 X.2.2.1 X.2.2.2⟩
theorem zm4:CE.ok Try.prog ziD:=CE.of (Γ:=[zdZ]) (by kernel_rfl) zcz (GOK.cons zeL (GOK.nil)) ⟨[(1,⟨⟨[(.int .i64),Tc5],[(0,.own 100000),(10,.v 0)],[(100000,.arr 42 1)]⟩,[11,13,14,15,16,17,18,19,20,21,22,23,24,25,26,27,28,29,30,31,32,33,34,35,36,37,38,39,40,41,42,43,44,45,46,47,48,49,50,51,52,53,54,55,56,57,58,59,60,61,62,63,64,65,66,67,68,69,70,71,72,73,74,75,76,77,78,79,80,81],[],[],0,[]⟩)],[(3,⟨⟨[.bool],[(40,.v 0)],[]⟩,[19,20,21,22,23,24,25,26,27,28,29,30,31,32,33,34,35,36,37,38,39],[],[],0,[]⟩),(4,⟨⟨[(.int .i64)],[(11,.v 0)],[]⟩,[19,20,21,22,23,24,25,26,27,28,29,30,31,32,33,34,35,36,37,38,39,40,41,42],[],[],0,[]⟩)],[(3,[(0,0),(0,1),(0,2),(0,3),(0,4),(0,5),(0,6),(0,7),(0,8),(0,9),(0,10),(0,11),(0,12),(0,13),(0,14),(0,15),(0,16),(0,17),(0,18),(1,19),(0,20),(0,21)]),(5,[(0,0),(0,1),(0,2),(0,3),(0,4),(0,5),(0,6),(0,7),(0,8),(0,9),(0,10),(0,11),(0,12),(1,13),(0,14),(0,15)]),(6,[(0,0),(0,1),(0,2),(0,3),(0,4),(0,5),(0,6),(0,7),(0,8),(0,9),(0,10),(0,11),(0,12),(0,13),(0,14),(0,15),(0,16),(0,17),(0,18),(0,19),(0,20),(2,21),(0,22),(2,23)])],[]⟩ Try.func69 rfl Try.ntmps69 (rs:=[]) rfl (sig:=zif) (out:=zie) rfl Try.call69 (fun X=>by kernel_rfl)

def zh7:Shape:=⟨[(.int .i64),(.int .i64),Tc5],[(0,.own 100000),(1,.v 0),(2,.v 1),(3,.fn 27 [])],[(100000,.arr 42 2)]⟩
def zh6:Shape:=⟨[Tc5],[],[(100000,.arr 42 0)]⟩
def ziv:CE:=⟨56,zh7,zh6,fun X=>zfa X.1 X.2.1 X.2.2⟩
theorem zm2:CE.ok Try.prog ziv:=CE.of (Γ:=[ziD]) (by kernel_rfl) zcz (GOK.cons zm4 (GOK.nil)) ⟨[(4,⟨⟨[(.int .i64),Tc5],[(0,.own 100000),(11,.v 0)],[(100000,.arr 42 1)]⟩,[20,21,22,23,24,25,26,27,28,29],[],[],0,[]⟩),(8,⟨⟨[(.int .i64),Tc5],[(0,.own 100000),(12,.v 0)],[(100000,.arr 42 1)]⟩,[32,33,34,35,36,37,38,39,40,41,42,43,44,45,46,47,48,49,50,51,52,53,54,55,56,57,58,59],[],[],0,[]⟩)],[],[(10,[(0,0),(0,1),(0,2),(0,3),(0,4),(0,5),(0,6),(0,7),(0,8),(0,9),(0,10),(0,11),(0,12),(0,13),(0,14),(0,15),(0,16),(2,17),(0,18),(2,19)])],[]⟩ Try.func56 rfl Try.ntmps56 (rs:=[]) rfl (sig:=zh7) (out:=zh6) rfl Try.call56 (fun X=>by kernel_rfl)

def zgc:Shape:=⟨[(.int .i64),(.int .i64),Tc5],[(0,.own 100000),(1,.v 0),(2,.v 1),(3,.fn 27 [])],[(100000,.arr 42 2)]⟩
def zgb:Shape:=⟨[Tc5],[],[(100000,.arr 42 0)]⟩
def zgt:CE:=⟨57,zgc,zgb,fun X=>zda X.1 X.2.1 X.2.2⟩
theorem zkS:CE.ok Try.prog zgt:=CE.of (Γ:=[zgT,zgl]) (by kernel_rfl) zcz (GOK.cons zjU (GOK.cons zi4 (GOK.nil))) ⟨[(5,⟨⟨[(.int .i64),Tc5,(.int .u64)],[(0,.own 100000),(9,.ptr 0 0),(11,.v 0)],[(100000,.arr 42 1),(0,.box 88 [.v 2])]⟩,[12,28,29,30,31,32,33,34,35,36,37,38,39,40,41,42,43,44,45,46,47,48,49,50,51,52,53,54,55,56,57,58,59,60,61,62,63,64,65,66],[],[],1,[]⟩)],[(9,⟨⟨[(.int .i64)],[(12,.v 0)],[]⟩,[43,44,45,46,47,48],[],[0],1,[]⟩)],[(10,[(0,0),(0,1),(0,2),(0,3),(0,4),(0,5),(0,6),(0,7),(0,8),(0,9),(0,10),(0,11),(0,12),(0,13),(0,14),(0,15),(0,16),(2,17),(0,18),(2,19)])],[]⟩ Try.func57 rfl Try.ntmps57 (rs:=[]) rfl (sig:=zgc) (out:=zgb) rfl Try.call57 (fun X=>by kernel_rfl)

def zi6:Shape:=⟨[Tc5,(.int .i64),(.int .i64),(.int .i64)],[(0,.v 0),(1,.v 1),(2,.v 2),(3,.ptr 100000 0),(4,.fn 27 [])],[(100000,.box 3 [.v 3])]⟩
def zi5:Shape:=⟨[(.int .i64),(.int .i64),(.int .i64)],[(0,.v 0),(1,.v 1)],[(100000,.box 3 [.v 2])]⟩
def zjQ:CE:=⟨73,zi6,zi5,fun X=>zdk X.1 X.2.1 X.2.2.1 X.2.2.2⟩
theorem zol:CE.ok Try.prog zjQ:=CE.of (Γ:=[zdZ]) (by kernel_rfl) zcz (GOK.cons zeL (GOK.nil)) ⟨[],[],[(1,[(0,0),(0,1),(0,2),(0,3),(0,4),(0,5),(0,6),(0,7),(0,8),(1,9),(0,10)])],[]⟩ Try.func73 rfl Try.ntmps73 (rs:=[.tmp 10,.tmp 11]) rfl (sig:=zi6) (out:=zi5) rfl Try.call73 (fun X=>by kernel_rfl)

def zi1:Shape:=⟨[Tc5,(.int .i64),(.int .i64),(.int .i64),(.int .i64)],[(0,.v 0),(1,.v 1),(2,.v 2),(3,.v 3),(4,.ptr 100000 0),(5,.fn 27 [])],[(100000,.box 3 [.v 4])]⟩
def zi0:Shape:=⟨[(.int .i64),(.int .i64)],[(0,.v 0)],[(100000,.box 3 [.v 1])]⟩
def zgR:CE:=⟨71,zi1,zi0,fun X=>zez X.1 X.2.1 X.2.2.1 X.2.2.2.1 X.2.2.2.2⟩
theorem zjO:CE.ok Try.prog zgR:=CE.of (Γ:=[zjQ]) (by kernel_rfl) zcz (GOK.cons zol (GOK.nil)) ⟨[],[],[],[]⟩ Try.func71 rfl Try.ntmps71 (rs:=[.tmp 12]) rfl (sig:=zi1) (out:=zi0) rfl Try.call71 (fun X=>by kernel_rfl)

def zfR:Shape:=⟨[Tc5,(.int .i64),(.int .i64)],[(0,.v 0),(1,.v 1),(2,.ptr 100000 0),(3,.fn 27 [])],[(100000,.box 3 [.v 2])]⟩
def zfQ:Shape:=⟨[(.int .i64),(.int .i64)],[(0,.v 0)],[(100000,.box 3 [.v 1])]⟩
def zgj:CE:=⟨70,zfR,zfQ,fun X=>zbV X.1 X.2.1 X.2.2⟩
theorem zkm:CE.ok Try.prog zgj:=CE.of (Γ:=[zgR]) (by kernel_rfl) zcz (GOK.cons zjO (GOK.nil)) ⟨[],[],[],[]⟩ Try.func70 rfl Try.ntmps70 (rs:=[.tmp 8]) rfl (sig:=zfR) (out:=zfQ) rfl Try.call70 (fun X=>by kernel_rfl)

def zg0:Shape:=⟨[Tc5,(.int .i64),(.int .i64)],[(0,.v 0),(1,.v 1),(2,.v 2),(3,.fn 27 [])],[]⟩
def zgZ:Shape:=⟨[(.int .i64),(.int .i64)],[(0,.v 0),(1,.v 1)],[]⟩
def zhl:CE:=⟨58,zg0,zgZ,fun X=>zd2 X.1 X.2.1 X.2.2⟩
theorem zlt:CE.ok Try.prog zhl:=CE.of (Γ:=[zgj,zgR]) (by kernel_rfl) zcz (GOK.cons zkm (GOK.cons zjO (GOK.nil))) ⟨[],[(10,⟨⟨[(.int .i64),(.int .i64),(.int .i64),(.int .i64)],[(11,.ptr 0 0),(12,.v 0),(13,.v 1),(14,.v 2)],[(0,.box 3 [.v 3])]⟩,[35,36,37,38,39,40,41,42,43,44,45,46,47,48],[],[],1,[]⟩),(11,⟨⟨[(.int .i64),(.int .i64)],[(11,.ptr 0 0),(13,.v 0)],[(0,.box 3 [.v 1])]⟩,[12,14,33,34,35,36,37,38,39,40,41,42,43,44,45,46,47,48,49,50,51,52,53,54],[],[],1,[]⟩)],[],[]⟩ Try.func58 rfl Try.ntmps58 (rs:=[.tmp 8,.tmp 9]) rfl (sig:=zg0) (out:=zgZ) rfl Try.call58 (fun X=>by kernel_rfl)

def zgE:Shape:=⟨[(.int .i64),(.int .i64),Tc5],[(0,.own 100000),(1,.v 0),(2,.v 1),(3,.fn 27 [])],[(100000,.arr 42 2)]⟩
def zgD:Shape:=⟨[Tc5],[],[(100000,.arr 42 0)]⟩
def zhf:CE:=⟨59,zgE,zgD,fun X=>zdy X.1 X.2.1 X.2.2⟩
theorem zld:CE.ok Try.prog zhf:=CE.of (Γ:=[]) (by kernel_rfl) zcz (GOK.nil) ⟨[(2,⟨⟨[(.int .i64),(.int .i64),Tc5],[(0,.own 100000),(8,.v 0),(9,.v 1)],[(100000,.arr 42 2)]⟩,[13,14,15,16,17,18,19,20,21,22,23,24,25,26,27,28,29,30,31,32,33],[],[],0,[]⟩)],[],[(3,[(0,0),(0,1),(0,2),(0,3),(0,4),(0,5),(0,6),(0,7),(0,8),(0,9),(0,10),(0,11),(0,12),(2,13),(0,14),(2,15)])],[]⟩ Try.func59 rfl Try.ntmps59 (rs:=[]) rfl (sig:=zgE) (out:=zgD) rfl Try.call59 (fun X=>by kernel_rfl)

def zem:Shape:=⟨[(.int .i64),(.int .i64),Tc5],[(0,.own 100000),(1,.v 0),(2,.v 1),(3,.fn 27 [])],[(100000,.arr 42 2)]⟩
def zel:Shape:=⟨[.bool,Tc5],[(0,.v 0)],[(100000,.arr 42 1)]⟩
def zeB:CE:=⟨60,zem,zel,fun X=>zb9 X.1 X.2.1 X.2.2⟩
theorem zii:CE.ok Try.prog zeB:=CE.of (Γ:=[zdZ]) (by kernel_rfl) zcz (GOK.cons zeL (GOK.nil)) ⟨[(3,⟨⟨[(.int .i64),(.int .i64),Tc5],[(0,.own 100000),(9,.v 0),(10,.v 1)],[(100000,.arr 42 2)]⟩,[8,11,12,15,16,17,18,19,20,21,22,23,24,25,26,27,28,29,30,31,32,33,34,35,36,37,38,39,40,41,42,43,44,45,46,47,48,49,50,51,52,53,54,55,56,57,58,59,60,61,62,63,64,65,66,67,68,69,70,71,72,73,74,75,76,77,78,79,80,81,82,83,84,85,86,87,88,89,90,91,92,93,94,95,96,97,98,99,100,101,102,103,104,105,106,107,108,109,110,111,112,113,114,115,116,117,118,119,120,121,122,123,124,125,126,127,128,129,130,131,132,133,134,135,136,137,138,139,140],[],[],0,[]⟩),(5,⟨⟨[(.int .i64)],[(9,.v 0)],[]⟩,[19,20,21,22,23,24,25,26,27,28,29,30,31,32,33,34,35,36,37,38],[],[],0,[]⟩),(14,⟨⟨[(.int .i64),Tc5],[(0,.own 100000),(11,.v 0)],[(100000,.arr 42 1)]⟩,[68,69,70,71,72,73,74,75,76,77,78,79,80,81,82,83,84,85,86,87,88,89,90,91,92,93,94,95,96,97,98,99,100],[],[],0,[]⟩),(20,⟨⟨[(.int .i64),Tc5],[(0,.own 100000),(12,.v 0)],[(100000,.arr 42 1)]⟩,[107,108,109,110,111,112,113,114,115,116,117,118,119,120,121,122,123,124,125,126,127,128,129,130,131,132,133,134,135,136,137,138,139,140],[],[],0,[]⟩)],[(6,⟨⟨[(.int .i64)],[(9,.v 0)],[]⟩,[19,20,21,22,23,24,25,26,27,28,29,30,31,32,33,34,35,36,37,38],[],[],0,[]⟩),(15,⟨⟨[Tc5],[(0,.own 100000)],[(100000,.arr 42 0)]⟩,[11,62,63,64,65,66,67,68,69,70,71,72,73,74,75,76,77,78,79,80,81,82,83,84,85,86,87,88,89,90,91,92,93,94,95,96,97,98,99,100],[],[],0,[]⟩)],[(5,[(0,0),(0,1),(0,2),(0,3),(0,4),(0,5),(0,6),(0,7),(0,8),(0,9),(0,10),(0,11),(0,12),(0,13),(1,14),(0,15),(0,16),(0,17)]),(11,[(0,0),(0,1),(0,2),(0,3),(0,4),(0,5),(0,6),(0,7),(0,8),(0,9),(0,10),(0,11),(0,12),(0,13),(0,14),(2,15),(0,16),(2,17)]),(16,[(0,0),(0,1),(0,2),(0,3),(0,4),(0,5),(0,6),(0,7),(0,8),(0,9),(1,10),(0,11),(0,12)]),(22,[(0,0),(0,1),(0,2),(0,3),(0,4),(0,5),(0,6),(0,7),(0,8),(0,9),(1,10),(0,11),(0,12)]),(23,[(0,0),(0,1),(0,2),(0,3),(0,4),(0,5),(0,6),(0,7),(0,8),(0,9),(0,10),(0,11),(0,12),(0,13),(0,14),(2,15),(0,16),(2,17)]),(17,[(0,0),(0,1),(0,2),(0,3),(0,4),(0,5),(0,6),(0,7),(0,8),(0,9),(0,10),(0,11),(0,12),(0,13),(0,14),(2,15),(0,16),(2,17)])],[]⟩ Try.func60 rfl Try.ntmps60 (rs:=[.tmp 8]) rfl (sig:=zem) (out:=zel) rfl Try.call60 (fun X=>by kernel_rfl)

def zfX:Shape:=⟨[(.int .i64),(.int .i64),(.int .i64),Tc5],[(0,.own 100000),(1,.v 0),(2,.v 1),(3,.v 2),(4,.fn 27 [])],[(100000,.arr 42 3)]⟩
def zfW:Shape:=⟨[(.int .i64),Tc5],[(0,.v 0)],[(100000,.arr 42 1)]⟩
def zgm:CE:=⟨61,zfX,zfW,fun X=>zcU X.1 X.2.1 X.2.2.1 X.2.2.2⟩
theorem zks:CE.ok Try.prog zgm:=CE.of (Γ:=[zdZ]) (by kernel_rfl) zcz (GOK.cons zeL (GOK.nil)) ⟨[(10000003,⟨⟨[(.int .i64),(.int .i64),Tc5],[(0,.own 100000),(11,.v 0),(12,.v 1)],[(100000,.arr 42 2)]⟩,[31,32,33,34,35,36,37,38,39,40,41,42,43,44,45,46,47,48,49,50,51,52,53,54,55,56,57,58,59,60,61,62,63,64,65,66,67,68,69,70,71,72,73,74,75,76,77,78,79,80,81,82,83,84,85,86,87,88],[],[],0,[]⟩),(3,⟨⟨[(.int .i64)],[(11,.v 0)],[]⟩,[31,32,33,34,35,36,37,38,39,40,41,42,43,44,45,46,47,48,49],[],[],0,[]⟩),(5,⟨⟨[(.int .i64)],[(12,.v 0)],[]⟩,[50,51,52,53,54,55,56,57,58,59,60,61,62,63,64,65,66,67],[],[],0,[]⟩)],[(4,⟨⟨[(.int .i64)],[(11,.v 0)],[]⟩,[31,32,33,34,35,36,37,38,39,40,41,42,43,44,45,46,47,48,49],[],[],0,[]⟩),(6,⟨⟨[(.int .i64)],[(12,.v 0)],[]⟩,[50,51,52,53,54,55,56,57,58,59,60,61,62,63,64,65,66,67],[],[],0,[]⟩)],[(1,[(0,0),(0,1),(0,2),(0,3),(0,4),(0,5),(0,6),(0,7),(0,8),(0,9),(0,10),(0,11),(0,12),(2,13),(0,14),(2,15)]),(3,[(0,0),(0,1),(0,2),(0,3),(0,4),(0,5),(0,6),(0,7),(0,8),(0,9),(0,10),(0,11),(0,12),(1,13),(0,14),(0,15),(0,16)]),(5,[(0,0),(0,1),(0,2),(0,3),(0,4),(0,5),(0,6),(0,7),(0,8),(0,9),(0,10),(0,11),(0,12),(1,13),(0,14),(0,15)]),(8,[(0,0),(0,1),(0,2),(0,3),(0,4),(0,5),(0,6),(0,7),(0,8),(0,9),(0,10),(0,11),(0,12),(2,13),(0,14),(2,15)])],[]⟩ Try.func61 rfl Try.ntmps61 (rs:=[.tmp 10]) rfl (sig:=zfX) (out:=zfW) rfl Try.call61 (fun X=>by kernel_rfl)

def zhT:Shape:=⟨[(.int .i64),(.int .i64),(.int .i64),Tc5],[(0,.own 100000),(1,.v 0),(2,.v 1),(3,.v 2),(4,.fn 27 [])],[(100000,.arr 42 3)]⟩
def zhS:Shape:=⟨[(.int .i64),.bool,Tc5],[(0,.v 0),(1,.v 1)],[(100000,.arr 42 2)]⟩
def zia:CE:=⟨62,zhT,zhS,fun X=>zeF X.1 X.2.1 X.2.2.1 X.2.2.2⟩
theorem zmt:CE.ok Try.prog zia:=CE.of (Γ:=[zdZ]) (by kernel_rfl) zcz (GOK.cons zeL (GOK.nil)) ⟨[(3,⟨⟨[(.int .i64)],[(12,.v 0)],[]⟩,[32,33,34,35,36,37,38,39,40,41,42,43,44,45,46,47,48,49],[],[],0,[]⟩),(5,⟨⟨[(.int .i64)],[(13,.v 0)],[]⟩,[50,51,52,53,54,55,56,57,58,59,60,61,62,63,64,65,66,67,68],[],[],0,[]⟩),(10000013,⟨⟨[(.int .i64),(.int .i64),Tc5],[(0,.own 100000),(12,.v 0),(13,.v 1)],[(100000,.arr 42 2)]⟩,[105,106,107,108,109,110,111,112,113,114,115,116,117,118,119,120,121,122,123,124,125,126,127,128,129,130,131,132,133,134,135,136,137,138,139,140,141,142,143,144,145,146,147,148,149,150,151,152,153,154,155,156,157,158,159,160,161,162],[],[],0,[]⟩),(13,⟨⟨[(.int .i64)],[(12,.v 0)],[]⟩,[105,106,107,108,109,110,111,112,113,114,115,116,117,118,119,120,121,122],[],[],0,[]⟩),(15,⟨⟨[(.int .i64)],[(13,.v 0)],[]⟩,[123,124,125,126,127,128,129,130,131,132,133,134,135,136,137,138,139,140,141],[],[],0,[]⟩)],[(4,⟨⟨[(.int .i64)],[(12,.v 0)],[]⟩,[32,33,34,35,36,37,38,39,40,41,42,43,44,45,46,47,48,49],[],[],0,[]⟩),(6,⟨⟨[(.int .i64)],[(13,.v 0)],[]⟩,[50,51,52,53,54,55,56,57,58,59,60,61,62,63,64,65,66,67,68],[],[],0,[]⟩),(14,⟨⟨[(.int .i64)],[(12,.v 0)],[]⟩,[105,106,107,108,109,110,111,112,113,114,115,116,117,118,119,120,121,122],[],[],0,[]⟩),(16,⟨⟨[(.int .i64)],[(13,.v 0)],[]⟩,[123,124,125,126,127,128,129,130,131,132,133,134,135,136,137,138,139,140,141],[],[],0,[]⟩)],[(1,[(0,0),(0,1),(0,2),(0,3),(0,4),(0,5),(0,6),(0,7),(0,8),(0,9),(0,10),(0,11),(0,12),(2,13),(0,14),(2,15)]),(3,[(0,0),(0,1),(0,2),(0,3),(0,4),(0,5),(0,6),(0,7),(0,8),(0,9),(0,10),(0,11),(0,12),(1,13),(0,14),(0,15)]),(5,[(0,0),(0,1),(0,2),(0,3),(0,4),(0,5),(0,6),(0,7),(0,8),(0,9),(0,10),(0,11),(0,12),(1,13),(0,14),(0,15),(0,16)]),(8,[(0,0),(0,1),(0,2),(0,3),(0,4),(0,5),(0,6),(0,7),(0,8),(0,9),(0,10),(0,11),(0,12),(2,13),(0,14),(2,15)]),(10,[(0,0),(0,1),(0,2),(0,3),(0,4),(0,5),(0,6),(0,7),(0,8),(0,9),(0,10),(0,11),(0,12),(2,13),(0,14),(2,15)]),(13,[(0,0),(0,1),(0,2),(0,3),(0,4),(0,5),(0,6),(0,7),(0,8),(0,9),(0,10),(0,11),(0,12),(1,13),(0,14),(0,15)]),(15,[(0,0),(0,1),(0,2),(0,3),(0,4),(0,5),(0,6),(0,7),(0,8),(0,9),(0,10),(0,11),(0,12),(1,13),(0,14),(0,15),(0,16)]),(21,[(0,0),(0,1),(0,2),(0,3),(0,4),(0,5),(0,6),(0,7),(0,8),(0,9),(0,10),(0,11),(0,12),(2,13),(0,14),(2,15)]),(18,[(0,0),(0,1),(0,2),(0,3),(0,4),(0,5),(0,6),(0,7),(0,8),(0,9),(0,10),(0,11),(0,12),(2,13),(0,14),(2,15)])],[]⟩ Try.func62 rfl Try.ntmps62 (rs:=[.tmp 10,.tmp 11]) rfl (sig:=zhT) (out:=zhS) rfl Try.call62 (fun X=>by kernel_rfl)

def ziA:Shape:=⟨[(.int .i64),(.int .i64),(.int .i64),Tc5],[(0,.own 100000),(1,.v 0),(2,.v 1),(3,.v 2),(4,.fn 27 [])],[(100000,.arr 42 3)]⟩
def ziz:Shape:=⟨[Tc5],[],[(100000,.arr 42 0)]⟩
def zi9:CE:=⟨39,ziA,ziz,LFix zeH⟩
theorem znV:CE.ok Try.prog zi9:=CE.ofRec (Γ:=[zgv,ziv,zgt,zhf,zeB,zgm,zia,zhl,zdZ]) (by kernel_rfl) zcz (GOK.cons zkY (GOK.cons zm2 (GOK.cons zkS (GOK.cons zld (GOK.cons zii (GOK.cons zks (GOK.cons zmt (GOK.cons zlt (GOK.cons zeL (GOK.nil)))))))))) ⟨[(2,⟨⟨[(.int .i64),(.int .i64),(.int .i64),.bool,.bool,Tc5],[(0,.own 100000),(1,.v 0),(2,.v 1),(3,.v 2),(10,.v 3),(11,.v 4)],[(100000,.arr 42 5)]⟩,[12,13,14,15,16,17,18,19,20,21,22,23,24,25,26,27,28,29,30,31,32,33,34,35,36,37,38,39,40,41,42,43,44,45,46,47,48,49,50,51,52,53,54,55,56,57,58,59,60,61,62,63,64,65,66,67,68,69,70,71,72,73,74,75,76,77,78,79,80,81,82,83,84,85,86,87,88,89,90,91,92,93,94,95,96,97,98,99,100,101,102,103,104,105,106,107,108,109,110,111,112,113,114,115,116,117,118,119,120,121,122,123,124,125,126,127,128,129,130,131,132,133,134,135,136,137,138,139,140,141,142,143,144,145,146,147],[],[],0,[]⟩)],[(9,⟨⟨[(.int .i64),Tc5],[(0,.own 100000),(3,.v 0)],[(100000,.arr 42 1)]⟩,[38,39,40,41,42,43,44,45,46],[],[],0,[]⟩),(14,⟨⟨[(.int .i64),(.int .i64),Tc5],[(0,.own 100000),(13,.v 0),(14,.v 1)],[(100000,.arr 42 2)]⟩,[55,56,57,58,59,60,61,62,63,64,65,66,67],[],[],0,[]⟩),(15,⟨⟨[.bool],[(75,.v 0)],[]⟩,[68,69,70,71,72,73,74],[],[],0,[]⟩),(16,⟨⟨[Tc5],[(0,.own 100000)],[(100000,.arr 42 0)]⟩,[68,69,70,71,72,73,74,75,76,77,78,79,80],[],[],0,[]⟩),(17,⟨⟨[.bool],[(97,.v 0)],[]⟩,[81,82,83,84,85,86,87,88,89,90,91,92,93,94,95,96],[],[],0,[]⟩)],[(17,[(0,0),(0,1),(0,2),(0,3),(0,4),(0,5),(0,6),(0,7),(0,8),(0,9),(0,10),(0,11),(0,12),(1,13),(0,14),(0,15),(0,16)])],[]⟩ Try.func39 rfl Try.ntmps39 (rs:=[]) rfl (sig:=ziA) (out:=ziz) rfl Try.call39 (d:=zeH) (fun rc X=>by kernel_rfl)

def zml:Shape:=⟨[Tc5],[(0,.own 100000),(1,.fn 27 [])],[(100000,.arr 42 0)]⟩
def zmk:Shape:=⟨[Tc5],[],[(100000,.arr 42 0)]⟩
def zmT:CE:=⟨26,zml,zmk,fun X=>zjF X⟩
theorem zrT:CE.ok Try.prog zmT:=CE.of (Γ:=[zi9,zn0]) (by kernel_rfl) zcz (GOK.cons znV (GOK.cons zqE (GOK.nil))) ⟨[],[],[],[]⟩ Try.func26 rfl Try.ntmps26 (rs:=[]) rfl (sig:=zml) (out:=zmk) rfl Try.call26 (fun X=>by kernel_rfl)

def zmQ:Shape:=⟨[(.list (.int .i64))],[(0,.own 100000)],[(100000,.arr 3 0)]⟩
def zmP:Shape:=⟨[(.list (.int .i64))],[(0,.own 0)],[(0,.arr 3 0)]⟩
def znN:CE:=⟨28,zmQ,zmP,fun X=>zhj X⟩
theorem zss:CE.ok Try.prog znN:=CE.of (Γ:=[]) (by kernel_rfl) zcz (GOK.nil) ⟨[(4,⟨⟨[(.int .i64)],[(3,.v 0)],[]⟩,[2,4,5,10,11,12,13,14,15,16,17,18,19,20,21,22,23,24,25,26,27,28,29,30,31,32,33,34,35,36,37,38,39,40,41,42,43,44,45,46,47,48,49,50,51,52,53,54,55,56,57,58,59],[],[],0,[]⟩),(9,⟨⟨[(.int .i64),(.int .i64),(.list (.int .i64))],[(0,.own 100000),(3,.v 0),(5,.v 1)],[(100000,.arr 3 2)]⟩,[29,30,31,32,33,34,35,36,37,38,39,40,41,42,43,44,45,46,47,48,49,50,51,52,53],[],[],0,[]⟩)],[],[(6,[(0,0),(0,1),(0,2),(0,3),(0,4),(0,5),(0,6),(0,7),(0,8),(0,9)]),(11,[(0,0),(0,1),(0,2),(0,3),(0,4),(0,5),(0,6),(0,7),(0,8),(0,9)]),(15,[(0,0),(0,1),(1,2),(0,3)])],[]⟩ Try.func28 rfl Try.ntmps28 (rs:=[.tmp 2]) rfl (sig:=zmQ) (out:=zmP) rfl Try.call28 (fun X=>by kernel_rfl)

def zlg:Shape:=⟨[Tc5],[(0,.own 100000)],[(100000,.arr 42 0)]⟩
def zlf:Shape:=⟨[Tc5],[(0,.own 0)],[(0,.arr 42 0)]⟩
def zmc:CE:=⟨29,zlg,zlf,fun X=>zgY X⟩
theorem zqR:CE.ok Try.prog zmc:=CE.of (Γ:=[]) (by kernel_rfl) zcz (GOK.nil) ⟨[(4,⟨⟨[(.int .i64)],[(3,.v 0)],[]⟩,[2,4,5,10,11,12,13,14,15,16,17,18,19,20,21,22,23,24,25,26,27,28,29,30,31,32,33,34,35,36,37,38,39,40,41,42,43,44,45,46,47,48,49,50,51,52,53,54,55,56,57,58,59],[],[],0,[]⟩),(9,⟨⟨[(.int .i64),(.int .i64),Tc5],[(0,.own 100000),(3,.v 0),(5,.v 1)],[(100000,.arr 42 2)]⟩,[29,30,31,32,33,34,35,36,37,38,39,40,41,42,43,44,45,46,47,48,49,50,51,52,53],[],[],0,[]⟩)],[],[(6,[(0,0),(0,1),(0,2),(0,3),(0,4),(0,5),(0,6),(0,7),(0,8),(0,9)]),(11,[(0,0),(0,1),(0,2),(0,3),(0,4),(0,5),(0,6),(0,7),(0,8),(0,9)]),(15,[(0,0),(0,1),(1,2),(0,3)])],[]⟩ Try.func29 rfl Try.ntmps29 (rs:=[.tmp 2]) rfl (sig:=zlg) (out:=zlf) rfl Try.call29 (fun X=>by kernel_rfl)

def zoC:Shape:=⟨[(.int .i64),(.int .i64),(.list (.int .i64)),Tc5,(.list (.int .i64))],[(0,.agg [.v 0,.v 1,.own 100000,.own 100001,.own 100002])],[(100000,.arr 3 2),(100001,.arr 42 3),(100002,.arr 3 4)]⟩
def zoB:Shape:=⟨[Tc1],[(0,.v 0)],[]⟩
def zlP:CE:=⟨16,zoC,zoB,fun X=>zhF X.1 X.2.1 X.2.2.1 X.2.2.2.1 X.2.2.2.2⟩
theorem zo9:CE.ok Try.prog zlP:=CE.of (Γ:=[zqz,zmT,znN,zmc]) (by kernel_rfl) zcz (GOK.cons zvt (GOK.cons zrT (GOK.cons zss (GOK.cons zqR (GOK.nil))))) ⟨[],[(4,⟨⟨[(.int .i64),(.int .i64),(.list (.int .i64)),Tc5,(.list (.int .i64))],[(1,.ptr 0 0)],[(0,.box 25 [.v 0,.v 1,.own 2,.own 3,.own 4]),(2,.arr 3 2),(3,.arr 42 3),(4,.arr 3 4)]⟩,[3,6,9,12,13,14,15,16,17,18,19,20,21,22,23],[100000,100001,100002],[1],5,[]⟩)],[],[(4,(.pnd (.one 0 (.one 3 (.one 6 (.rd 1 1 [2,5,8,9,10,11,12,13,14] (.rd 1 4 [5,8,9,10,11,12,13,14] (.rd 1 7 [8,9,10,11,12,13,14] (.alt 2 2 (.one 9 (.alt 2 5 (.alt 2 8 (.alt 2 10 (.one 11 (.alt 2 12 (.one 13 (.alt 2 14 .leaf .stop)) .stop)) .stop) .stop) .stop)) .stop)))))))))]⟩ Try.func16 rfl Try.ntmps16 (rs:=[.cell 2 25]) rfl (sig:=zoC) (out:=zoB) rfl Try.call16 (fun X=>by kernel_rfl)

def zoA:Shape:=⟨[Tc1,Tc1],[(0,.v 0),(1,.v 1)],[]⟩
def zoz:Shape:=⟨[Tc1,(.int .i64)],[(0,.v 0),(1,.v 1)],[]⟩
def zo7:CE:=⟨5,zoA,zoz,fun X=>zhE X.1 X.2⟩
theorem ztW:CE.ok Try.prog zo7:=CE.of (Γ:=[zpe,zpG,znJ,zlP]) (by kernel_rfl) zcz (GOK.cons zsC (GOK.cons zuX (GOK.cons zsr (GOK.cons zo9 (GOK.nil))))) ⟨[(6,⟨⟨[(.int .i64),(.int .i64),(.int .i64),(.list (.int .i64)),Tc5,(.list (.int .i64))],[(7,.ptr 3 0),(41,.v 0)],[(3,.box 25 [.v 1,.v 2,.own 4,.own 5,.own 6]),(4,.arr 3 3),(5,.arr 42 4),(6,.arr 3 5)]⟩,[9,42,43,44,45,46,47,48,49,50,51,52,53,54],[],[0,1,2],7,[]⟩),(11,⟨⟨[(.int .i64),(.int .i64),(.int .i64),(.list (.int .i64)),Tc5,(.list (.int .i64))],[(7,.ptr 3 0),(58,.v 0)],[(3,.box 25 [.v 1,.v 2,.own 4,.own 5,.own 6]),(4,.arr 3 3),(5,.arr 42 4),(6,.arr 3 5)]⟩,[11,59,60,61,62,63,64,65,66,67,68,69,70,71],[],[0,1,2],7,[]⟩),(16,⟨⟨[(.int .i64),(.int .i64),(.int .i64),(.list (.int .i64)),Tc5,(.list (.int .i64))],[(7,.ptr 3 0),(75,.v 0)],[(3,.box 25 [.v 1,.v 2,.own 4,.own 5,.own 6]),(4,.arr 3 3),(5,.arr 42 4),(6,.arr 3 5)]⟩,[13,76,77,78,79,80,81,82,83,84,85,86,87,88,89,90,91,92,93,94,95,96,97],[],[0,1,2],7,[]⟩)],[(4,⟨⟨[(.int .i64),(.int .i64),(.list (.int .i64)),Tc5,(.list (.int .i64))],[(7,.ptr 3 0)],[(3,.box 25 [.v 0,.v 1,.own 4,.own 5,.own 6]),(4,.arr 3 2),(5,.arr 42 3),(6,.arr 3 4)]⟩,[21,22,23,24,25,26,27,28,29,30,31,32,33,34,35,36,37],[],[0,1,2],7,[]⟩)],[(20,[(1,0),(2,1),(2,2),(0,3)])],[(4,(.one 0 (.one 2 (.one 4 (.one 7 (.one 10 (.one 13 (.live [18] (.rd 1 [16,18] (.rd 3 [6,16,18] (.rd 5 [6,16,18] (.one 6 (.rd 8 [9,12,15,16,18] (.rd 11 [12,15,16,18] (.rd 14 [15,16,18] (.alt 1 9 (.alt 1 12 (.alt 1 15 (.alt 1 16 (.alt 1 17 (.alt 2 18 (.leaf []) .stop) .stop) (.alt 1 17 (.alt 1 16 (.alt 2 18 (.leaf []) .stop) .stop) .stop)) (.alt 1 17 (.alt 1 15 (.alt 1 16 (.alt 2 18 (.leaf []) .stop) .stop) .stop) .stop)) (.alt 1 17 (.alt 1 12 (.alt 1 15 (.alt 1 16 (.alt 2 18 (.leaf []) .stop) .stop) .stop) .stop) .stop)) (.alt 1 17 (.alt 1 9 (.alt 1 12 (.alt 1 15 (.alt 1 16 (.alt 2 18 (.leaf []) .stop) .stop) .stop) .stop) .stop) .stop)))))))))))))))))]⟩ Try.func5 rfl Try.ntmps5 (rs:=[.cell 4 25,.tmp 5]) rfl (sig:=zoA) (out:=zoz) rfl Try.call5 (fun X=>by kernel_rfl)

def zoo:Shape:=⟨[(.int .i64),(.int .i64),(.int .i64),Tc1],[(0,.v 0),(1,.v 1),(2,.v 2),(3,.addr 3)],[]⟩
def zon:Shape:=⟨[(.int .i64)],[(0,.v 0)],[]⟩
def zo1:CE:=⟨17,zoo,zon,fun X=>zhD X.1 X.2.1 X.2.2.1 X.2.2.2⟩
theorem ztV:CE.ok Try.prog zo1:=CE.of (Γ:=[]) (by kernel_rfl) zcz (GOK.nil) ⟨[],[],[],[]⟩ Try.func17 rfl Try.ntmps17 (rs:=[.tmp 7]) rfl (sig:=zoo) (out:=zon) rfl Try.call17 (fun X=>by kernel_rfl)

def zoS:Shape:=⟨[(.list (.int .i64)),(.int .i64)],[(0,.v 0),(1,.v 1)],[]⟩
def zoR:Shape:=⟨[(.int .i64)],[(0,.v 0)],[]⟩
def zpI:CE:=⟨30,zoS,zoR,fun X=>ztf X.1 X.2⟩
theorem zuY:CE.ok Try.prog zpI:=CE.of (Γ:=[]) (by kernel_rfl) zcz (GOK.nil) ⟨[(2,⟨⟨[(.int .i64)],[(8,.v 0)],[]⟩,[4,5,9,10,11,12,13,14,15,16,17,18],[],[],0,[]⟩)],[],[],[]⟩ Try.func30 rfl Try.ntmps30 (rs:=[.tmp 4]) rfl (sig:=zoS) (out:=zoR) rfl Try.call30 (fun X=>by kernel_rfl)

def zmg:Shape:=⟨[(.list (.int .i64)),(.int .i64)],[(0,.v 0),(1,.v 1)],[]⟩
def zmf:Shape:=⟨[.bool],[(0,.v 0)],[]⟩
def zmR:CE:=⟨18,zmg,zmf,fun X=>zhM X.1 X.2⟩
theorem zrQ:CE.ok Try.prog zmR:=CE.of (Γ:=[zpI]) (by kernel_rfl) zcz (GOK.cons zuY (GOK.nil)) ⟨[],[],[],[]⟩ Try.func18 rfl Try.ntmps18 (rs:=[.tmp 4]) rfl (sig:=zmg) (out:=zmf) rfl Try.call18 (fun X=>by kernel_rfl)

def zqc:Shape:=⟨[Tc1,Tc1],[(0,.v 0),(1,.v 1)],[]⟩
def zqb:Shape:=⟨[Tc1,(.int .i64)],[(0,.v 0),(1,.v 1)],[]⟩
def zqZ:CE:=⟨6,zqc,zqb,fun X=>zj6 X.1 X.2⟩
theorem zwg:CE.ok Try.prog zqZ:=CE.of (Γ:=[zpe,zo1,zmR,zlP]) (by kernel_rfl) zcz (GOK.cons zsC (GOK.cons ztV (GOK.cons zrQ (GOK.cons zo9 (GOK.nil))))) ⟨[(7,⟨⟨[(.int .i64),(.int .i64),(.int .i64),(.list (.int .i64))],[(8,.ptr 3 0),(42,.v 0)],[(3,.box 25 [.v 1,.v 2,.own 4,.nil,.nil]),(4,.arr 3 3)]⟩,[10,12,43,44,45,46,47,48,49,50,51,52,53,54,55,56,57,58,59,60,61,62,63],[],[0,1,2],5,[(3,2,some 3,(.int .i64))]⟩),(10,⟨⟨[(.int .i64),(.int .i64),(.int .i64),(.list (.int .i64))],[(8,.ptr 3 0),(49,.v 0)],[(3,.box 25 [.v 1,.v 2,.own 4,.nil,.nil]),(4,.arr 3 3)]⟩,[12,50,51,52,53,54,55,56,57,58,59,60,61,62],[],[0,1,2],5,[]⟩),(16,⟨⟨[(.int .i64),(.int .i64),(.int .i64),(.list (.int .i64)),Tc5],[(8,.ptr 3 0),(67,.v 0)],[(3,.box 25 [.v 1,.v 2,.own 4,.own 5,.nil]),(4,.arr 3 3),(5,.arr 42 4)]⟩,[14,16,17,18,68,69,70,71,72,73,74,75,76,77,78,79,80,81,82,83,84,85,86,87,88,89,90,91,92,93,94,95,96,97,98,99,100,101,102,103,104,105,106,107,108,109,110,111,112,113,114,115,116,117,118,119,120,121,122,123,124,125,126,127,128,129,130,131,132,133],[],[0,1,2],6,[(3,3,some 42,Tc6)]⟩),(19,⟨⟨[(.int .i64),(.int .i64),(.int .i64),(.list (.int .i64)),Tc5],[(8,.ptr 3 0),(74,.v 0)],[(3,.box 25 [.v 1,.v 2,.own 4,.own 5,.nil]),(4,.arr 3 3),(5,.arr 42 4)]⟩,[16,17,18,75,76,77,78,79,80,81,82,83,84,85,86,87,88,89,90,91,92,93,94,95,96,97,98,99,100,101,102,103,104,105,106,107,108,109,110,111,112,113,114,115,116,117,118,119,120,121,122,123,124,125,126,127,128,129,130,131,132],[],[0,1,2,6],7,[]⟩),(23,⟨⟨[(.int .i64),(.int .i64),(.int .i64),(.list (.int .i64)),Tc5],[(8,.ptr 3 0),(83,.v 0)],[(3,.box 25 [.v 1,.v 2,.own 4,.own 5,.nil]),(4,.arr 3 3),(5,.arr 42 4)]⟩,[17,18,84,85,86,87,88,89,90,91,92,93,94,95,96,97,98,99,100,101,102,103,104,105,106,107,108,109,110,111,112,113,114,115,116,117,118,119,120,121,122,123,124,125,126,127,128,129,130,131],[],[0,1,2,6,7],8,[]⟩),(33,⟨⟨[(.int .i64),(.int .i64),(.int .i64),(.list (.int .i64)),Tc5,(.list (.int .i64))],[(8,.ptr 3 0),(137,.v 0)],[(3,.box 25 [.v 1,.v 2,.own 4,.own 5,.own 6]),(4,.arr 3 3),(5,.arr 42 4),(6,.arr 3 5)]⟩,[20,21,138,139,140,141,142,143,144,145,146,147,148,149,150,151,152,153,154,155,156],[],[0,1,2],7,[(3,4,some 3,(.int .i64))]⟩),(36,⟨⟨[(.int .i64),(.int .i64),(.int .i64),(.list (.int .i64)),Tc5,(.list (.int .i64))],[(8,.ptr 3 0),(143,.v 0)],[(3,.box 25 [.v 1,.v 2,.own 4,.own 5,.own 6]),(4,.arr 3 3),(5,.arr 42 4),(6,.arr 3 5)]⟩,[21,144,145,146,147,148,149,150,151,152,153,154,155],[],[0,1,2],7,[]⟩)],[(26,⟨⟨[.bool],[(106,.v 0)],[]⟩,[87,88,89,90,91,92,93,94,95,96,97,98,99,100,101,102,103,104,105],[],[0,1,2,3,4,5,6,7],8,[]⟩),(27,⟨⟨[(.int .i64)],[(18,.v 0)],[]⟩,[87,88,89,90,91,92,93,94,95,96,97,98,99,100,101,102,103,104,105,106,107,108],[],[0,1,2,3,4,5,6,7],8,[]⟩)],[(12,[(0,0),(0,1),(0,2),(0,3),(0,4),(1,5),(1,6),(2,7),(0,8),(2,9)]),(28,[(0,0),(0,1),(0,2),(0,3),(0,4),(0,5),(0,6),(0,7),(0,9),(0,10),(0,11),(0,12),(0,13),(0,14),(0,15),(0,16),(1,8),(1,17),(0,18),(1,19),(2,20),(0,21),(2,22)]),(38,[(0,0),(0,1),(0,2),(0,3),(0,4),(1,5),(1,6),(2,7),(0,8),(2,9)]),(41,[(1,0),(2,1),(2,2),(0,3)])],[]⟩ Try.func6 rfl Try.ntmps6 (rs:=[.cell 4 25,.tmp 5]) rfl (sig:=zqc) (out:=zqb) rfl Try.call6 (fun X=>by kernel_rfl)

def zs1:Shape:=⟨[(.list (.int .i64)),(.list (.int .i64))],[(0,.v 0),(1,.v 1)],[]⟩
def zs0:Shape:=⟨[.bool],[(0,.v 0)],[]⟩
def zuG:CE:=⟨19,zs1,zs0,fun X=>zrE X.1 X.2⟩
theorem zyU:CE.ok Try.prog zuG:=CE.of (Γ:=[]) (by kernel_rfl) zcz (GOK.nil) ⟨[(4,⟨⟨[(.int .i64)],[(5,.v 0)],[]⟩,[4,11,12,13,14,15,16,17,18,19,20,21,22,23,24,25],[],[],0,[]⟩)],[],[(6,[(0,0),(0,1),(0,2),(0,3),(0,4),(0,5),(0,6),(0,7),(0,8)])],[]⟩ Try.func19 rfl Try.ntmps19 (rs:=[.tmp 4]) rfl (sig:=zs1) (out:=zs0) rfl Try.call19 (fun X=>by kernel_rfl)

def zoG:Shape:=⟨[Tc1,Tc1],[(0,.v 0),(1,.v 1)],[]⟩
def zoF:Shape:=⟨[.bool],[(0,.v 0)],[]⟩
def zpp:CE:=⟨7,zoG,zoF,fun X=>zkI X.1 X.2⟩
theorem zus:CE.ok Try.prog zpp:=CE.of (Γ:=[zuG]) (by kernel_rfl) zcz (GOK.cons zyU (GOK.nil)) ⟨[(6,⟨⟨[(.int .i64)],[(7,.v 0)],[]⟩,[4,47,48,49,50,51,52,53,54,55,56,57,58,59,60,61,62,63,64],[],[0,1],2,[]⟩)],[],[(8,[(0,0),(0,1),(0,2),(0,3),(0,4),(0,5),(0,6),(0,7),(0,8),(0,9),(0,10)])],[]⟩ Try.func7 rfl Try.ntmps7 (rs:=[.tmp 4]) rfl (sig:=zoG) (out:=zoF) rfl Try.call7 (fun X=>by kernel_rfl)

def zs3:Shape:=⟨[Tc6,Tc6],[(0,.v 0),(1,.v 1)],[]⟩
def zs2:Shape:=⟨[.bool],[(0,.v 0)],[]⟩
def zuH:CE:=⟨20,zs3,zs2,fun X=>ztJ X.1 X.2⟩
theorem zyV:CE.ok Try.prog zuH:=CE.of (Γ:=[]) (by kernel_rfl) zcz (GOK.nil) ⟨[],[],[],[]⟩ Try.func20 rfl Try.ntmps20 (rs:=[.tmp 4]) rfl (sig:=zs3) (out:=zs2) rfl Try.call20 (fun X=>by kernel_rfl)

def zs5:Shape:=⟨[Tc1],[(0,.v 0)],[]⟩
def zs4:Shape:=⟨[(.int .i64)],[(0,.v 0)],[]⟩
def zuN:CE:=⟨8,zs5,zs4,fun X=>zoh X⟩
theorem zyW:CE.ok Try.prog zuN:=CE.of (Γ:=[zuH]) (by kernel_rfl) zcz (GOK.cons zyV (GOK.nil)) ⟨[(6,⟨⟨[(.int .i64)],[(3,.v 0)],[]⟩,[2,33,34,35,36,37,38,39,40,41,42,43,44,45,46,47,48,49,50,51,52,53,54,55],[],[0],1,[]⟩),(11,⟨⟨[(.int .i64)],[(4,.v 0)],[]⟩,[2,56,57,58,59,60,61,62,63,64,65,66,67,68,69,70,71,72,73,74,75,76,77,78],[],[0],1,[]⟩),(16,⟨⟨[(.int .i64)],[(5,.v 0)],[]⟩,[2,6,79,80,81,82,83,84,85,86,87,88,89,90,91,92,93,94,95,96,97,98,99,100,101,102,103,104,105,106,107,108,109,110,111,112,113,114,115,116,117,118,119,120,121,122,123,124],[],[0],1,[]⟩),(22,⟨⟨[(.int .i64)],[(7,.v 0)],[]⟩,[2,125,126,127,128,129,130,131,132,133,134,135,136,137,138,139,140,141,142,143],[],[0],1,[]⟩),(27,⟨⟨[(.int .i64)],[(8,.v 0)],[]⟩,[2,144,145,146,147,148,149,150,151,152,153,154,155,156,157,158,159,160,161,162],[],[0],1,[]⟩),(32,⟨⟨[(.int .i64)],[(9,.v 0)],[]⟩,[2,10,163,164,165,166,167,168,169,170,171,172,173,174,175,176,177,178,179,180,181,182,183],[],[0],1,[]⟩)],[],[(8,[(0,0),(0,1),(0,2),(0,3),(0,4),(0,5),(0,6),(0,7),(0,8),(0,9),(0,10),(0,11),(0,12),(0,13),(0,14),(0,15)]),(13,[(0,0),(0,1),(0,2),(0,3),(0,4),(0,5),(0,6),(0,7),(0,8),(0,9),(0,10),(0,11),(0,12),(0,13),(0,14),(0,15)]),(24,[(0,0),(0,1),(0,2),(0,3),(0,4),(0,5),(0,6),(0,7),(0,8),(0,9),(0,10),(0,11)]),(29,[(0,0),(0,1),(0,2),(0,3),(0,4),(0,5),(0,6),(0,7),(0,8),(0,9),(0,10),(0,11)]),(34,[(0,0),(0,1),(0,2),(0,3),(0,4),(0,5),(0,6),(0,7),(0,8),(0,9),(0,10),(1,11),(0,12)])],[]⟩ Try.func8 rfl Try.ntmps8 (rs:=[.tmp 2]) rfl (sig:=zs5) (out:=zs4) rfl Try.call8 (fun X=>by kernel_rfl)

def zqk:Shape:=⟨[Tc1],[(0,.v 0)],[]⟩
def zqj:Shape:=⟨[.bool],[(0,.v 0)],[]⟩
def zro:CE:=⟨9,zqk,zqj,fun X=>znt X⟩
theorem zwE:CE.ok Try.prog zro:=CE.of (Γ:=[]) (by kernel_rfl) zcz (GOK.nil) ⟨[],[],[],[]⟩ Try.func9 rfl Try.ntmps9 (rs:=[.tmp 2]) rfl (sig:=zqk) (out:=zqj) rfl Try.call9 (fun X=>by kernel_rfl)

def zv1:Shape:=⟨[(.int .i64),(.list (.int .i64))],[(0,.v 0),(1,.v 1)],[]⟩
def zv0:Shape:=⟨[(.int .i64)],[(0,.v 0)],[]⟩
def zxM:CE:=⟨31,zv1,zv0,fun X=>zxK X.1 X.2⟩
theorem zBS:CE.ok Try.prog zxM:=CE.of (Γ:=[]) (by kernel_rfl) zcz (GOK.nil) ⟨[(6,⟨⟨[(.int .i64)],[(5,.v 0)],[]⟩,[4,15,16,17,18,19,20,21,22,23,24,25,26,27,28,29,30,31,32,33],[],[],0,[]⟩)],[],[],[]⟩ Try.func31 rfl Try.ntmps31 (rs:=[.tmp 4]) rfl (sig:=zv1) (out:=zv0) rfl Try.call31 (fun X=>by kernel_rfl)

def zsY:Shape:=⟨[(.int .i64),(.pair (.list (.int .i64)) (.pair (.list (.int .i64)) .unit))],[(0,.v 0),(1,.v 1)],[]⟩
def zsX:Shape:=⟨[(.int .i64)],[(0,.v 0)],[]⟩
def zuD:CE:=⟨21,zsY,zsX,fun X=>ztI X.1 X.2⟩
theorem zyT:CE.ok Try.prog zuD:=CE.of (Γ:=[zxM]) (by kernel_rfl) zcz (GOK.cons zBS (GOK.nil)) ⟨[],[],[],[]⟩ Try.func21 rfl Try.ntmps21 (rs:=[.tmp 4]) rfl (sig:=zsY) (out:=zsX) rfl Try.call21 (fun X=>by kernel_rfl)

def zs7:Shape:=⟨[Tc1,(.pair (.list (.int .i64)) (.pair (.list (.int .i64)) .unit))],[(0,.v 0),(1,.v 1)],[]⟩
def zs6:Shape:=⟨[(.int .i64)],[(0,.v 0)],[]⟩
def zuO:CE:=⟨10,zs7,zs6,fun X=>zw0 X.1 X.2⟩
theorem zyX:CE.ok Try.prog zuO:=CE.of (Γ:=[zuD]) (by kernel_rfl) zcz (GOK.cons zyT (GOK.nil)) ⟨[],[],[],[]⟩ Try.func10 rfl Try.ntmps10 (rs:=[.tmp 4]) rfl (sig:=zs7) (out:=zs6) rfl Try.call10 (fun X=>by kernel_rfl)

def zxP:Shape:=⟨[Tc1,(.list .bool),(.int .i64)],[(0,.v 0),(1,.v 1),(2,.v 2)],[]⟩
def zxO:Shape:=⟨[(.list .bool)],[(0,.own 0)],[(0,.arr 4 0)]⟩
def zw2:CE:=⟨22,zxP,zxO,fun X=>zxN X.1 X.2.1 X.2.2⟩
theorem zzE:CE.ok Try.prog zw2:=CE.of (Γ:=[]) (by kernel_rfl) zcz (GOK.nil) ⟨[(3,⟨⟨[(.int .i64),(.list .bool)],[(7,.own 1),(8,.v 0)],[(1,.arr 4 1)]⟩,[9,12,13,14,15,16,17,18,19,20,21,22,23,24,25,26,27,28,29,30,31,32,33,34,35,36,37,38,39],[],[0],2,[]⟩)],[(6,⟨⟨[.bool],[(35,.v 0)],[]⟩,[25,26,27,28,29,30,31,32,33,34],[],[0,1,2],3,[]⟩)],[],[]⟩ Try.func22 rfl Try.ntmps22 (rs:=[.tmp 6]) rfl (sig:=zxP) (out:=zxO) rfl Try.call22 (fun X=>by kernel_rfl)

def zs9:Shape:=⟨[Tc1,(.list (.int .i64)),(.list .bool),(.int .i64)],[(0,.v 0),(1,.v 1),(2,.v 2),(3,.v 3)],[]⟩
def zs8:Shape:=⟨[.bool],[(0,.v 0)],[]⟩
def zuQ:CE:=⟨23,zs9,zs8,fun X=>ztK X.1 X.2.1 X.2.2.1 X.2.2.2⟩
theorem zyY:CE.ok Try.prog zuQ:=CE.of (Γ:=[zw2]) (by kernel_rfl) zcz (GOK.cons zzE (GOK.nil)) ⟨[(5,⟨⟨[.bool,(.list .bool),(.list .bool)],[(9,.own 1),(10,.own 2),(11,.v 0)],[(1,.arr 4 1),(2,.arr 4 2)]⟩,[8,12,13,14,15,16,19,22,23,25,26,27,28,29,30,31,32,33,34,35,36,37,38,39,40,41,42,43,44,45,46,47,48,49,50,51,52,53,54,55,56,57,58,59,60,61,62,63,64,65,66,67,68,69,70,71,72,73,74,75,76,77,78,79,80,81,82,83,84,85,86,87,88,89,90,91,92,93,94,95,96,97,98,99,100,101,102,103,104,105,106,107,108,109,110,111,112,113,114,115,116,117,118,119,120,121,122,123,124,125,126,127,128,129,130,131,132,133,134,135,136,137,138,139,140],[],[0],3,[]⟩),(10,⟨⟨[(.int .i64),(.list .bool),(.list .bool)],[(12,.own 4),(13,.own 6),(14,.v 0)],[(4,.arr 4 1),(6,.arr 4 2)]⟩,[15,27,29,30,32,33,34,35,36,37,38,39,40,41,42,43,44,45,46,47,48,49,50,51,52,53,54,55,56,57,58,59,60,61,62,63,64,65,66,67,68,69,70,71,72,73,74,75,76,77],[],[0,1,2],7,[]⟩),(13,⟨⟨[(.int .i64),(.list .bool)],[(13,.own 6),(15,.v 0)],[(6,.arr 4 1)]⟩,[39,40,41,42,43,44,45,46,47,48,49,50,51,52,53,54,55,56,57,58,59,60,61,62,63],[],[0,1,2,4],7,[]⟩),(21,⟨⟨[.bool,(.int .i64),(.list .bool),(.list .bool)],[(9,.own 1),(10,.own 2),(11,.v 0),(16,.v 1)],[(1,.arr 4 2),(2,.arr 4 3)]⟩,[28,31,82,83,84,85,86,87,88,89,90,91,92,93,94,95,96,97,98,99,100,101,102,103,104,105,106,107,108,109,110,111,112,113,114,115,116,117,118,119,120,121,122,123,124,125,126,127,128,129,130,131,132,133,134,135,136,137,138,139,140],[],[0,4,6],7,[]⟩)],[(23,⟨⟨[.bool],[(11,.v 0)],[]⟩,[88,89,90,91,92,93,94,95,96,97,98,99,100,101,102,103,104,105,106,107,108,109,110,111,112,113,114],[],[0,1,2,4,6],7,[]⟩),(24,⟨⟨[(.list .bool)],[(9,.own 1)],[(1,.arr 4 0)]⟩,[115,116,117,118,119,120,121,122,123,124,125,126,127],[],[0,2,4,6],7,[]⟩)],[(16,[(0,0),(0,1),(0,2),(0,3),(0,4),(0,5),(1,6),(0,7)]),(17,[(0,0),(0,1),(0,2),(0,3),(0,4),(0,5),(1,6),(0,7)])],[]⟩ Try.func23 rfl Try.ntmps23 (rs:=[.tmp 8]) rfl (sig:=zs9) (out:=zs8) rfl Try.call23 (fun X=>by kernel_rfl)

def zqn:Shape:=⟨[Tc1,(.pair (.list (.int .i64)) (.pair (.list (.int .i64)) .unit))],[(0,.v 0),(1,.v 1)],[]⟩
def zqm:Shape:=⟨[.bool],[(0,.v 0)],[]⟩
def zrJ:CE:=⟨11,zqn,zqm,fun X=>ziY X.1 X.2⟩
theorem zwZ:CE.ok Try.prog zrJ:=CE.of (Γ:=[zw2,zuQ]) (by kernel_rfl) zcz (GOK.cons zzE (GOK.cons zyY (GOK.nil))) ⟨[(3,⟨⟨[(.int .i64),(.list .bool)],[(5,.own 2),(6,.v 0)],[(2,.arr 4 1)]⟩,[18,19,20,21,22,23,24,25,26,27,28,29,30,31,32],[],[0,1],3,[]⟩),(7,⟨⟨[(.int .i64),(.list .bool)],[(5,.own 2),(7,.v 0)],[(2,.arr 4 1)]⟩,[33,34,35,36,37,38,39,40,41,42,43,44,45,46,47],[],[0,1],3,[]⟩),(11,⟨⟨[.bool,(.list .bool)],[(5,.own 2),(8,.v 0)],[(2,.arr 4 1)]⟩,[9,10,11,48,49,50,51,52,53,54,55,56,57,58,59,60,61,62,63,64,65,66,67,68,69,70,71,72,73,74,75,76,77,78,79,80,81,82,83,84,85,86,87,88,89,90,91,92,93,94,95,96,97],[],[0,1],3,[]⟩),(15,⟨⟨[(.int .i64),(.list .bool),(.list .bool)],[(5,.own 2),(9,.own 3),(10,.v 0)],[(2,.arr 4 1),(3,.arr 4 2)]⟩,[49,50,51,52,53,54,55,56,57,58,59,60,61,62,63,64],[],[0,1],4,[]⟩),(19,⟨⟨[.bool,(.int .i64),(.list .bool)],[(5,.own 2),(8,.v 0),(11,.v 1)],[(2,.arr 4 2)]⟩,[65,66,67,68,69,70,71,72,73,74,75,76,77,78,79,80,81,82,83,84,85,86,87,88,89,90,91,92,93,94,95,96,97],[],[0,1,3],4,[]⟩),(25,⟨⟨[(.int .i64),(.list .bool)],[(12,.own 3),(13,.v 0)],[(3,.arr 4 1)]⟩,[100,101,102,103,104,105,106,107,108,109,110,111,112,113,114],[],[0,1,2],4,[]⟩),(29,⟨⟨[(.int .i64)],[(14,.v 0)],[]⟩,[4,15,115,116,117,118,119,120,121,122,123,124,125,126,127,128,129,130,131,132],[],[0,1,2,3],4,[]⟩)],[(21,⟨⟨[.bool],[(8,.v 0)],[]⟩,[71,72,73,74,75,76,77,78,79,80,81,82,83,84],[],[0,1,2,3],4,[]⟩)],[(9,[(0,0),(0,1),(0,2),(0,3),(0,4),(0,5),(0,6),(1,7),(0,8)]),(1000015,[]),(17,[(0,0),(0,1),(0,2),(0,3),(0,4),(0,5),(0,6),(1,7),(0,8)])],[]⟩ Try.func11 rfl Try.ntmps11 (rs:=[.tmp 4]) rfl (sig:=zqn) (out:=zqm) rfl Try.call11 (fun X=>by kernel_rfl)

def zmH:Shape:=⟨[Tc1,Tc1,(.pair (.list (.int .i64)) (.pair (.list (.int .i64)) .unit))],[(0,.v 0),(1,.v 1),(2,.v 2)],[]⟩
def zmG:Shape:=⟨[.bool],[(0,.v 0)],[]⟩
def zkh:CE:=⟨3,zmH,zmG,fun X=>zkA X.1 X.2.1 X.2.2⟩
theorem zsc:CE.ok Try.prog zkh:=CE.of (Γ:=[zuq,zo7,zqZ,zpp,zuN,zro,zuO,zrJ]) (by kernel_rfl) zcz (GOK.cons zyE (GOK.cons ztW (GOK.cons zwg (GOK.cons zus (GOK.cons zyW (GOK.cons zwE (GOK.cons zyX (GOK.cons zwZ (GOK.nil))))))))) ⟨[],[(11,⟨⟨[(.int .i64)],[(15,.v 0)],[]⟩,[54,55,56,57],[],[0,1,2,3,4,5,6],7,[]⟩),(12,⟨⟨[.bool],[(66,.v 0)],[]⟩,[58,59,60,61,62,63,64,65],[],[0,1,2,3,4,5,6],7,[]⟩),(13,⟨⟨[(.int .i64)],[(15,.v 0)],[]⟩,[58,59,60,61,62,63,64,65,66],[],[0,1,2,3,4,5,6],7,[]⟩),(14,⟨⟨[.bool],[(78,.v 0)],[]⟩,[67,68,69,70,71,72,73,74,75,76,77],[],[0,1,2,3,4,5,6],7,[]⟩),(15,⟨⟨[(.int .i64)],[(15,.v 0)],[]⟩,[67,68,69,70,71,72,73,74,75,76,77,78],[],[0,1,2,3,4,5,6],7,[]⟩)],[],[]⟩ Try.func3 rfl Try.ntmps3 (rs:=[.tmp 6]) rfl (sig:=zmH) (out:=zmG) rfl Try.call3 (fun X=>by kernel_rfl)

end
end Go.Proofs.Ytekjdmjngekjpaa.buchiJoinsW
