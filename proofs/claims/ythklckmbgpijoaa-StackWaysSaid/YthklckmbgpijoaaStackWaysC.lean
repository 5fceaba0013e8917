/- That the functions of 'StackWays' compute so. -/
import Derived.Test.YthklckmbgpijoaaStackWaysD
import Derived.Test.YthklckmbgpijoaaProg
import Derived.KernelRfl
set_option maxHeartbeats 1000000
set_option maxRecDepth 20000
set_option linter.unusedSimpArgs false
set_option linter.unusedVariables false
set_option linter.unusedSectionVars false
namespace Go.Proofs.Ythklckmbgpijoaa.stackWaysW
open Go Go.Ab
noncomputable section
theorem zuc:SzT Try.prog 3 ((.int .i64)):=SzT.ofTI (dsc:=false) (size:=1) (bytes:=8) (z := .int .i64 0) (TI.of Try.underlying3 rfl (by kernel_rfl)) rfl rfl
theorem zzg:SzT Try.prog 9 (.str):=SzT.ofTI (dsc:=false) (size:=1) (bytes:=16) (z := .string ⟨⟨[]⟩⟩) (TI.of Try.underlying9 rfl (by kernel_rfl)) rfl rfl
theorem zyw:SzT Try.prog 57 (Tc6):=SzT.ofTI (dsc:=true) (size:=3) (bytes:=24) (z := .agg ⟨[.int .i64 0,.int .i64 0,.int .i64 0]⟩) (TI.of Try.underlying57 rfl (by kernel_rfl)) rfl rfl
theorem zyG:SzT Try.prog 84 ((.pair (.int .i64) (.pair .str .unit))):=SzT.ofTI (dsc:=true) (size:=2) (bytes:=24) (z := .agg ⟨[.int .i64 0,.string ⟨⟨[]⟩⟩]⟩) (TI.of Try.underlying84 rfl (by kernel_rfl)) rfl rfl
def te3:TE:=⟨3,.int .i64,false,1,8,.int .i64 0,some (.int .i64)⟩
theorem zzc:TEok Try.prog te3:=⟨TI.of Try.underlying3 rfl (by kernel_rfl),Try.underlying3,fun t h=>by cases h;exact ⟨rfl,rfl,by decide,rfl⟩⟩
def te4:TE:=⟨4,.bool,false,1,1,.bool false,some .bool⟩
theorem zzd:TEok Try.prog te4:=⟨TI.of Try.underlying4 rfl (by kernel_rfl),Try.underlying4,fun t h=>by cases h;exact ⟨rfl,rfl,by decide,rfl⟩⟩
def te5:TE:=⟨5,.int .u8,false,1,1,.int .u8 0,some (.int .u8)⟩
theorem zze:TEok Try.prog te5:=⟨TI.of Try.underlying5 rfl (by kernel_rfl),Try.underlying5,fun t h=>by cases h;exact ⟨rfl,rfl,by decide,rfl⟩⟩
def te9:TE:=⟨9,.str,false,1,16,.string ⟨⟨[]⟩⟩,some .str⟩
theorem zzf:TEok Try.prog te9:=⟨TI.of Try.underlying9 rfl (by kernel_rfl),Try.underlying9,fun t h=>by cases h;exact ⟨rfl,rfl,by decide,rfl⟩⟩
def te22:TE:=⟨22,.slice 43,false,1,24,.slice none 0 0,some (.list (.pair (.int .i64) (.pair (.int .i64) (.pair (.int .i64) (.pair (.list (.int .i64)) .unit)))))⟩
theorem zyj:TEok Try.prog te22:=⟨TI.of Try.underlying22 rfl (by kernel_rfl),Try.underlying22,fun t h=>by cases h;exact ⟨rfl,rfl,by decide,rfl⟩⟩
def te23:TE:=⟨23,.slice 3,false,1,24,.slice none 0 0,some (.list (.int .i64))⟩
theorem zyk:TEok Try.prog te23:=⟨TI.of Try.underlying23 rfl (by kernel_rfl),Try.underlying23,fun t h=>by cases h;exact ⟨rfl,rfl,by decide,rfl⟩⟩
def te25:TE:=⟨25,.struct [(0,3),(1,23)] none,true,2,32,.agg ⟨[.int .i64 0,.slice none 0 0]⟩,some (.pair (.int .i64) (.pair (.list (.int .i64)) .unit))⟩
theorem zyl:TEok Try.prog te25:=⟨TI.of Try.underlying25 rfl (by kernel_rfl),⟨⟨_,Try.underlying25,rfl⟩,fun t h=>by cases h⟩,fun t h=>by cases h;exact ⟨rfl,rfl,by decide,rfl⟩⟩
def te26:TE:=⟨26,.int .i64,false,1,8,.int .i64 0,some (.int .i64)⟩
theorem zym:TEok Try.prog te26:=⟨TI.of Try.underlying26 rfl (by kernel_rfl),Try.underlying26,fun t h=>by cases h;exact ⟨rfl,rfl,by decide,rfl⟩⟩
def te29:TE:=⟨29,.slice 36,false,1,24,.slice none 0 0,some (.list (.pair (.int .i64) (.pair (.int .i64) (.pair (.list (.list (.int .i64))) (.pair (.list (.int .i64)) .unit)))))⟩
theorem zyn:TEok Try.prog te29:=⟨TI.of Try.underlying29 rfl (by kernel_rfl),Try.underlying29,fun t h=>by cases h;exact ⟨rfl,rfl,by decide,rfl⟩⟩
def te34:TE:=⟨34,.slice 23,false,1,24,.slice none 0 0,some (.list (.list (.int .i64)))⟩
theorem zyo:TEok Try.prog te34:=⟨TI.of Try.underlying34 rfl (by kernel_rfl),Try.underlying34,fun t h=>by cases h;exact ⟨rfl,rfl,by decide,rfl⟩⟩
def te36:TE:=⟨36,.struct [(0,3),(1,3),(2,34),(3,23)] none,true,4,64,.agg ⟨[.int .i64 0,.int .i64 0,.slice none 0 0,.slice none 0 0]⟩,some (.pair (.int .i64) (.pair (.int .i64) (.pair (.list (.list (.int .i64))) (.pair (.list (.int .i64)) .unit))))⟩
theorem zyp:TEok Try.prog te36:=⟨TI.of Try.underlying36 rfl (by kernel_rfl),⟨⟨_,Try.underlying36,rfl⟩,fun t h=>by cases h⟩,fun t h=>by cases h;exact ⟨rfl,rfl,by decide,rfl⟩⟩
def te43:TE:=⟨43,.struct [(0,3),(1,3),(2,3),(3,23)] none,true,4,48,.agg ⟨[.int .i64 0,.int .i64 0,.int .i64 0,.slice none 0 0]⟩,some (.pair (.int .i64) (.pair (.int .i64) (.pair (.int .i64) (.pair (.list (.int .i64)) .unit))))⟩
theorem zyq:TEok Try.prog te43:=⟨TI.of Try.underlying43 rfl (by kernel_rfl),⟨⟨_,Try.underlying43,rfl⟩,fun t h=>by cases h⟩,fun t h=>by cases h;exact ⟨rfl,rfl,by decide,rfl⟩⟩
def te48:TE:=⟨48,.other,false,1,8,.pointer none,none⟩
theorem zyr:TEok Try.prog te48:=⟨TI.of Try.underlying48 rfl (by kernel_rfl),trivial,fun t h=>by cases h⟩
def te50:TE:=⟨50,.slice 54,false,1,24,.slice none 0 0,some Tc1⟩
theorem zys:TEok Try.prog te50:=⟨TI.of Try.underlying50 rfl (by kernel_rfl),Try.underlying50,fun t h=>by cases h;exact ⟨rfl,rfl,by decide,rfl⟩⟩
def te52:TE:=⟨52,.slice 57,false,1,24,.slice none 0 0,some Tc5⟩
theorem zyt:TEok Try.prog te52:=⟨TI.of Try.underlying52 rfl (by kernel_rfl),Try.underlying52,fun t h=>by cases h;exact ⟨rfl,rfl,by decide,rfl⟩⟩
def te54:TE:=⟨54,.struct [(0,3),(1,3),(2,52)] none,true,3,40,.agg ⟨[.int .i64 0,.int .i64 0,.slice none 0 0]⟩,some Tc2⟩
theorem zyu:TEok Try.prog te54:=⟨TI.of Try.underlying54 rfl (by kernel_rfl),⟨⟨_,Try.underlying54,rfl⟩,fun t h=>by cases h⟩,fun t h=>by cases h;exact ⟨rfl,rfl,by decide,rfl⟩⟩
def te57:TE:=⟨57,.struct [(0,3),(1,3),(2,3)] none,true,3,24,.agg ⟨[.int .i64 0,.int .i64 0,.int .i64 0]⟩,some Tc6⟩
theorem zyv:TEok Try.prog te57:=⟨TI.of Try.underlying57 rfl (by kernel_rfl),⟨⟨_,Try.underlying57,rfl⟩,fun t h=>by cases h⟩,fun t h=>by cases h;exact ⟨rfl,rfl,by decide,rfl⟩⟩
def te67:TE:=⟨67,.slice 25,false,1,24,.slice none 0 0,some (.list (.pair (.int .i64) (.pair (.list (.int .i64)) .unit)))⟩
theorem zyx:TEok Try.prog te67:=⟨TI.of Try.underlying67 rfl (by kernel_rfl),Try.underlying67,fun t h=>by cases h;exact ⟨rfl,rfl,by decide,rfl⟩⟩
def te70:TE:=⟨70,.struct [(0,25),(2,68)] none,true,3,40,.agg ⟨[.int .i64 0,.slice none 0 0,.map none]⟩,none⟩
theorem zyz:TEok Try.prog te70:=⟨TI.of Try.underlying70 rfl (by kernel_rfl),⟨⟨_,Try.underlying70,rfl⟩,fun t h=>by cases h⟩,fun t h=>by cases h⟩
def te72:TE:=⟨72,.struct [(0,3),(1,3),(2,52)] none,true,3,40,.agg ⟨[.int .i64 0,.int .i64 0,.slice none 0 0]⟩,some Tc2⟩
theorem zyA:TEok Try.prog te72:=⟨TI.of Try.underlying72 rfl (by kernel_rfl),⟨⟨_,Try.underlying72,rfl⟩,fun t h=>by cases h⟩,fun t h=>by cases h;exact ⟨rfl,rfl,by decide,rfl⟩⟩
def te81:TE:=⟨81,.slice 5,false,1,24,.slice none 0 0,some (.list (.int .u8))⟩
theorem zyE:TEok Try.prog te81:=⟨TI.of Try.underlying81 rfl (by kernel_rfl),Try.underlying81,fun t h=>by cases h;exact ⟨rfl,rfl,by decide,rfl⟩⟩
def te84:TE:=⟨84,.struct [(0,3),(1,9)] none,true,2,24,.agg ⟨[.int .i64 0,.string ⟨⟨[]⟩⟩]⟩,some (.pair (.int .i64) (.pair .str .unit))⟩
theorem zyF:TEok Try.prog te84:=⟨TI.of Try.underlying84 rfl (by kernel_rfl),⟨⟨_,Try.underlying84,rfl⟩,fun t h=>by cases h⟩,fun t h=>by cases h;exact ⟨rfl,rfl,by decide,rfl⟩⟩
def te68:TE:=⟨68,.map 57 72 (Tc6),false,1,8,.map none,none⟩
theorem zyy:TEok Try.prog te68:=⟨TI.of Try.underlying68 rfl (by kernel_rfl),⟨Try.underlying68,SK.ofKey (d:=16) (KeyT.struct zyw Try.underlying57 (by kernel_rfl) (KFs.cons (by decide) rfl (KeyT.int zuc Try.underlying3) (KFs.cons (by decide) rfl (KeyT.int zuc Try.underlying3) (KFs.cons (by decide) rfl (KeyT.int zuc Try.underlying3) KFs.nil)))) (by decide) rfl rfl⟩,fun t h=>by cases h⟩
def te74:TE:=⟨74,.map 3 54 ((.int .i64)),false,1,8,.map none,none⟩
theorem zyB:TEok Try.prog te74:=⟨TI.of Try.underlying74 rfl (by kernel_rfl),⟨Try.underlying74,SK.int' Try.underlying3⟩,fun t h=>by cases h⟩
def te77:TE:=⟨77,.map 3 3 ((.int .i64)),false,1,8,.map none,none⟩
theorem zyC:TEok Try.prog te77:=⟨TI.of Try.underlying77 rfl (by kernel_rfl),⟨Try.underlying77,SK.int' Try.underlying3⟩,fun t h=>by cases h⟩
def te80:TE:=⟨80,.map 84 3 ((.pair (.int .i64) (.pair .str .unit))),false,1,8,.map none,none⟩
theorem zyD:TEok Try.prog te80:=⟨TI.of Try.underlying80 rfl (by kernel_rfl),⟨Try.underlying80,SK.ofKey (d:=16) (KeyT.struct zyG Try.underlying84 (by kernel_rfl) (KFs.cons (by decide) rfl (KeyT.int zuc Try.underlying3) (KFs.cons (by decide) rfl (KeyT.str zzg Try.underlying9) KFs.nil))) (by decide) rfl rfl⟩,fun t h=>by cases h⟩
def TT:List TE:=[te3,te4,te5,te9,te22,te23,te25,te26,te29,te34,te36,te43,te48,te50,te52,te54,te57,te67,te70,te72,te81,te84,te68,te74,te77,te80]
theorem zcn:TOK Try.prog TT:=TOK.cons zzc (TOK.cons zzd (TOK.cons zze (TOK.cons zzf (TOK.cons zyj (TOK.cons zyk (TOK.cons zyl (TOK.cons zym (TOK.cons zyn (TOK.cons zyo (TOK.cons zyp (TOK.cons zyq (TOK.cons zyr (TOK.cons zys (TOK.cons zyt (TOK.cons zyu (TOK.cons zyv (TOK.cons zyx (TOK.cons zyz (TOK.cons zyA (TOK.cons zyE (TOK.cons zyF (TOK.cons zyy (TOK.cons zyB (TOK.cons zyC (TOK.cons zyD (TOK.nil))))))))))))))))))))))))))

def zh5:Shape:=⟨[(.pair (.int .i64) (.pair (.int .i64) (.pair (.int .i64) (.pair (.list (.int .i64)) .unit))))],[(0,.v 0)],[]⟩
def zh4:Shape:=⟨[.bool],[(0,.v 0)],[]⟩
def ziT:CE:=⟨38,zh5,zh4,fun X=>ziu X⟩
theorem zn6:CE.ok Try.prog ziT:=CE.of (Γ:=[]) (by kernel_rfl) zcn (GOK.nil) ⟨[],[],[],[]⟩ Try.func38 rfl Try.ntmps38 (rs:=[.tmp 2]) rfl (sig:=zh5) (out:=zh4) rfl Try.call38 (fun X=>by kernel_rfl)

def zfx:Shape:=⟨[(.list (.pair (.int .i64) (.pair (.int .i64) (.pair (.int .i64) (.pair (.list (.int .i64)) .unit)))))],[(0,.v 0),(1,.fn 38 [])],[]⟩
def zfw:Shape:=⟨[(.int .i64)],[(0,.v 0)],[]⟩
def zgm:CE:=⟨42,zfx,zfw,fun X=>ziQ X⟩
theorem zlj:CE.ok Try.prog zgm:=CE.of (Γ:=[ziT]) (by kernel_rfl) zcn (GOK.cons zn6 (GOK.nil)) ⟨[(2,⟨⟨[(.int .i64)],[(8,.v 0)],[]⟩,[4,5,9,10,11,12,13,14,15,16,17,18],[],[],0,[]⟩)],[],[],[]⟩ Try.func42 rfl Try.ntmps42 (rs:=[.tmp 4]) rfl (sig:=zfx) (out:=zfw) rfl Try.call42 (fun X=>by kernel_rfl)

def zex:Shape:=⟨[(.list (.pair (.int .i64) (.pair (.int .i64) (.pair (.int .i64) (.pair (.list (.int .i64)) .unit)))))],[(0,.v 0),(1,.fn 38 [])],[]⟩
def zew:Shape:=⟨[.bool],[(0,.v 0)],[]⟩
def zeI:CE:=⟨37,zex,zew,fun X=>zdY X⟩
theorem zi4:CE.ok Try.prog zeI:=CE.of (Γ:=[zgm]) (by kernel_rfl) zcn (GOK.cons zlj (GOK.nil)) ⟨[],[],[],[]⟩ Try.func37 rfl Try.ntmps37 (rs:=[.tmp 4]) rfl (sig:=zex) (out:=zew) rfl Try.call37 (fun X=>by kernel_rfl)

def znL:Shape:=⟨[(.int .i64)],[(0,.v 0)],[]⟩
def znK:Shape:=⟨[.bool],[(0,.v 0)],[]⟩
def ziv:CE:=⟨40,znL,znK,fun X=>zfI X⟩
theorem zln:CE.ok Try.prog ziv:=CE.of (Γ:=[]) (by kernel_rfl) zcn (GOK.nil) ⟨[],[],[],[]⟩ Try.func40 rfl Try.ntmps40 (rs:=[.tmp 2]) rfl (sig:=znL) (out:=znK) rfl Try.call40 (fun X=>by kernel_rfl)

def zeM:Shape:=⟨[(.list (.int .i64))],[(0,.v 0),(1,.fn 40 [])],[]⟩
def zeL:Shape:=⟨[(.int .i64)],[(0,.v 0)],[]⟩
def zfh:CE:=⟨43,zeM,zeL,fun X=>zgZ X⟩
theorem zjN:CE.ok Try.prog zfh:=CE.of (Γ:=[ziv]) (by kernel_rfl) zcn (GOK.cons zln (GOK.nil)) ⟨[(2,⟨⟨[(.int .i64)],[(8,.v 0)],[]⟩,[4,5,9,10,11,12,13,14,15,16,17,18],[],[],0,[]⟩)],[],[],[]⟩ Try.func43 rfl Try.ntmps43 (rs:=[.tmp 4]) rfl (sig:=zeM) (out:=zeL) rfl Try.call43 (fun X=>by kernel_rfl)

def zdH:Shape:=⟨[(.list (.int .i64))],[(0,.v 0),(1,.fn 40 [])],[]⟩
def zdG:Shape:=⟨[.bool],[(0,.v 0)],[]⟩
def zcK:CE:=⟨41,zdH,zdG,fun X=>zcr X⟩
theorem zd7:CE.ok Try.prog zcK:=CE.of (Γ:=[zfh]) (by kernel_rfl) zcn (GOK.cons zjN (GOK.nil)) ⟨[],[],[],[]⟩ Try.func41 rfl Try.ntmps41 (rs:=[.tmp 4]) rfl (sig:=zdH) (out:=zdG) rfl Try.call41 (fun X=>by kernel_rfl)

def zh7:Shape:=⟨[(.pair (.int .i64) (.pair (.int .i64) (.pair (.int .i64) (.pair (.list (.int .i64)) .unit))))],[(0,.v 0)],[]⟩
def zh6:Shape:=⟨[.bool],[(0,.v 0)],[]⟩
def ziU:CE:=⟨39,zh7,zh6,fun X=>zfG X⟩
theorem zn7:CE.ok Try.prog ziU:=CE.of (Γ:=[ziv,zcK]) (by kernel_rfl) zcn (GOK.cons zln (GOK.cons zd7 (GOK.nil))) ⟨[],[],[],[]⟩ Try.func39 rfl Try.ntmps39 (rs:=[.tmp 2]) rfl (sig:=zh7) (out:=zh6) rfl Try.call39 (fun X=>by kernel_rfl)

def zeK:Shape:=⟨[(.list (.pair (.int .i64) (.pair (.int .i64) (.pair (.int .i64) (.pair (.list (.int .i64)) .unit)))))],[(0,.v 0),(1,.fn 39 [])],[]⟩
def zeJ:Shape:=⟨[(.int .i64)],[(0,.v 0)],[]⟩
def zfg:CE:=⟨42,zeK,zeJ,fun X=>zgY X⟩
theorem zjM:CE.ok Try.prog zfg:=CE.of (Γ:=[ziU]) (by kernel_rfl) zcn (GOK.cons zn7 (GOK.nil)) ⟨[(2,⟨⟨[(.int .i64)],[(8,.v 0)],[]⟩,[4,5,9,10,11,12,13,14,15,16,17,18],[],[],0,[]⟩)],[],[],[]⟩ Try.func42 rfl Try.ntmps42 (rs:=[.tmp 4]) rfl (sig:=zeK) (out:=zeJ) rfl Try.call42 (fun X=>by kernel_rfl)

def zdF:Shape:=⟨[(.list (.pair (.int .i64) (.pair (.int .i64) (.pair (.int .i64) (.pair (.list (.int .i64)) .unit)))))],[(0,.v 0),(1,.fn 39 [])],[]⟩
def zdE:Shape:=⟨[.bool],[(0,.v 0)],[]⟩
def zd6:CE:=⟨37,zdF,zdE,fun X=>zdb X⟩
theorem zhV:CE.ok Try.prog zd6:=CE.of (Γ:=[zfg]) (by kernel_rfl) zcn (GOK.cons zjM (GOK.nil)) ⟨[],[],[],[]⟩ Try.func37 rfl Try.ntmps37 (rs:=[.tmp 4]) rfl (sig:=zdF) (out:=zdE) rfl Try.call37 (fun X=>by kernel_rfl)

def zjQ:Shape:=⟨[(.list (.pair (.int .i64) (.pair (.int .i64) (.pair (.int .i64) (.pair (.list (.int .i64)) .unit)))))],[(0,.v 0)],[]⟩
def zjP:Shape:=⟨[(.int .i64)],[(0,.v 0)],[]⟩
def zkV:CE:=⟨34,zjQ,zjP,fun X=>zit X⟩
theorem zp2:CE.ok Try.prog zkV:=CE.of (Γ:=[zeI,zd6]) (by kernel_rfl) zcn (GOK.cons zi4 (GOK.cons zhV (GOK.nil))) ⟨[],[],[],[]⟩ Try.func34 rfl Try.ntmps34 (rs:=[.tmp 2]) rfl (sig:=zjQ) (out:=zjP) rfl Try.call34 (fun X=>by kernel_rfl)

def ziZ:Shape:=⟨[(.pair (.int .i64) (.pair (.list (.int .i64)) .unit))],[(0,.v 0)],[]⟩
def ziY:Shape:=⟨[(.int .i64)],[(0,.v 0)],[]⟩
def zjV:CE:=⟨35,ziZ,ziY,fun X=>zg8 X⟩
theorem zpD:CE.ok Try.prog zjV:=CE.of (Γ:=[ziv,zcK]) (by kernel_rfl) zcn (GOK.cons zln (GOK.cons zd7 (GOK.nil))) ⟨[],[],[],[]⟩ Try.func35 rfl Try.ntmps35 (rs:=[.tmp 2]) rfl (sig:=ziZ) (out:=ziY) rfl Try.call35 (fun X=>by kernel_rfl)

def zh9:Shape:=⟨[(.list (.pair (.int .i64) (.pair (.int .i64) (.pair (.int .i64) (.pair (.list (.int .i64)) .unit))))),(.list (.pair (.int .i64) (.pair (.list (.int .i64)) .unit)))],[(0,.v 0),(1,.v 1)],[]⟩
def zh8:Shape:=⟨[(.int .i64)],[(0,.v 0)],[]⟩
def ziX:CE:=⟨29,zh9,zh8,fun X=>zdo X.1 X.2⟩
theorem zn9:CE.ok Try.prog ziX:=CE.of (Γ:=[zkV,zjV]) (by kernel_rfl) zcn (GOK.cons zp2 (GOK.cons zpD (GOK.nil))) ⟨[(5,⟨⟨[(.int .i64)],[(16,.v 0)],[]⟩,[4,7,8,17,18,19,20,21,22,23,24,25],[],[],0,[]⟩)],[],[],[]⟩ Try.func29 rfl Try.ntmps29 (rs:=[.tmp 4]) rfl (sig:=zh9) (out:=zh8) rfl Try.call29 (fun X=>by kernel_rfl)

def zjT:Shape:=⟨[(.list (.pair (.int .i64) (.pair (.int .i64) (.pair (.int .i64) (.pair (.list (.int .i64)) .unit))))),(.list (.pair (.int .i64) (.pair (.list (.int .i64)) .unit)))],[(0,.v 0),(1,.v 1)],[]⟩
def zjS:Shape:=⟨[(.int .i64)],[(0,.v 0)],[]⟩
def zhl:CE:=⟨15,zjT,zjS,fun X=>zcS X.1 X.2⟩
theorem zkX:CE.ok Try.prog zhl:=CE.of (Γ:=[ziX]) (by kernel_rfl) zcn (GOK.cons zn9 (GOK.nil)) ⟨[],[],[],[]⟩ Try.func15 rfl Try.ntmps15 (rs:=[.tmp 4]) rfl (sig:=zjT) (out:=zjS) rfl Try.call15 (fun X=>by kernel_rfl)

def zdq:Shape:=⟨[(.int .i64),(.list (.int .i64)),Tc5,Tc1],[(0,.ptr 100000 0)],[(100000,.box 70 [.v 0,.v 1,.own 100001]),(100001,.box 68 [.v 2,.v 3])]⟩
def zdp:Shape:=⟨[(.int .i64),(.int .i64),(.list (.int .i64)),Tc5,Tc1],[(0,.v 0)],[(100000,.box 70 [.v 1,.v 2,.own 100001]),(100001,.box 68 [.v 3,.v 4])]⟩
def zbx:CE:=⟨22,zdq,zdp,fun X=>zaP X.1 X.2.1 X.2.2.1 X.2.2.2⟩
theorem zcA:CE.ok Try.prog zbx:=CE.of (Γ:=[]) (by kernel_rfl) zcn (GOK.nil) ⟨[],[],[],[]⟩ Try.func22 rfl Try.ntmps22 (rs:=[.tmp 2]) rfl (sig:=zdq) (out:=zdp) rfl Try.call22 (fun X=>by kernel_rfl)

def zea:Shape:=⟨[(.int .i64),(.list (.int .i64)),Tc5,Tc1],[(0,.ptr 100000 0)],[(100000,.box 70 [.v 0,.v 1,.own 100001]),(100001,.box 68 [.v 2,.v 3])]⟩
def zd9:Shape:=⟨[(.int .i64),(.int .i64),(.list (.int .i64)),Tc5,Tc1],[(0,.v 0)],[(100000,.box 70 [.v 1,.v 2,.own 100001]),(100001,.box 68 [.v 3,.v 4])]⟩
def zbP:CE:=⟨18,zea,zd9,fun X=>zal X.1 X.2.1 X.2.2.1 X.2.2.2⟩
theorem zcT:CE.ok Try.prog zbP:=CE.of (Γ:=[zbx]) (by kernel_rfl) zcn (GOK.cons zcA (GOK.nil)) ⟨[],[],[],[]⟩ Try.func18 rfl Try.ntmps18 (rs:=[.tmp 2]) rfl (sig:=zea) (out:=zd9) rfl Try.call18 (fun X=>by kernel_rfl)

def ziP:Shape:=⟨[Tc5],[(0,.v 0)],[]⟩
def ziO:Shape:=⟨[Tc5],[(0,.own 0)],[(0,.arr 57 0)]⟩
def zjL:CE:=⟨30,ziP,ziO,fun X=>zaw X⟩
theorem zpA:CE.ok Try.prog zjL:=CE.of (Γ:=[]) (by kernel_rfl) zcn (GOK.nil) ⟨[],[],[],[]⟩ Try.func30 rfl Try.ntmps30 (rs:=[.tmp 2]) rfl (sig:=ziP) (out:=ziO) rfl Try.call30 (fun X=>by kernel_rfl)

def zee:Shape:=⟨[(.int .i64),(.list (.int .i64)),(.int .i64),(.list (.int .i64)),Tc5,Tc1],[(0,.ptr 100000 0),(1,.v 0),(2,.v 1)],[(100000,.box 70 [.v 2,.v 3,.own 100001]),(100001,.box 68 [.v 4,.v 5])]⟩
def zed:Shape:=⟨[Tc1,(.int .i64),(.list (.int .i64)),Tc5,Tc1],[(0,.own 0)],[(0,.arr 54 0),(100000,.box 70 [.v 1,.v 2,.own 100001]),(100001,.box 68 [.v 3,.v 4])]⟩
def zbk:CE:=⟨17,zee,zed,fun X=>zaX X.1 X.2.1 X.2.2.1 X.2.2.2.1 X.2.2.2.2.1 X.2.2.2.2.2⟩
theorem zbR:CE.ok Try.prog zbk:=CE.of (Γ:=[zbP,zbx,zjL]) (by kernel_rfl) zcn (GOK.cons zcT (GOK.cons zcA (GOK.cons zpA (GOK.nil)))) ⟨[(5,⟨⟨[(.int .i64),(.int .i64),(.list (.int .i64)),Tc1,Tc5,Tc1],[(0,.ptr 100000 0),(7,.own 1),(50,.v 0)],[(100000,.box 70 [.v 1,.v 2,.own 100001]),(1,.arr 54 3),(100001,.box 68 [.v 4,.v 5])]⟩,[9,10,12,13,14,15,16,17,18,19,20,21,22,51,52,53,54,55,56,57,58,59,60,61,62,63,64,65,66,67,68,69,70,71,72,73,74,75,76,77,78,79,80,81,82,83,84,85,86,87,88,89,90,91,92,93,94,95,96,97,98,99,100,101,102,103,104,105,106,107,108,109,110,111,112,113,114,115,116,117,118,119,120,121,122,123,124,125,126,127,128,129,130,131,132,133,134,135,136,137,138,139,140,141,142,143,144,145,146,147,148,149,150,151,152,153,154,155,156,157,158,159],[],[],2,[]⟩),(9,⟨⟨[(.int .i64),(.int .i64),(.list (.int .i64)),(.list (.int .i64)),Tc1,Tc5,Tc1],[(0,.ptr 100000 0),(10,.own 2),(57,.v 0)],[(100000,.box 70 [.v 1,.v 2,.own 100001]),(2,.box 74 [.v 3,.v 4]),(100001,.box 68 [.v 5,.v 6])]⟩,[12,13,14,15,16,17,18,19,54,58,59,60,61,62,63,64,65,66,67,68,69,70,71,72,73,74,75,76,77,78,79,80,81,82,83,84,85,86,87,88,89,90,91,92,93,94,95,96,97,98,99,100,101,102,103,104,105,106,107,108,109,110,111,112,113,114,115],[],[1],3,[]⟩),(12,⟨⟨[Tc2,(.int .i64),(.list (.int .i64)),Tc1],[(10,.own 2),(12,.addr 0),(63,.v 1)],[(2,.box 74 [.v 2,.v 3])]⟩,[13,14,15,16,17,18,19,64,65,66,67,68,69,70,71,72,73,74,75,76,77,78,79,80,81,82,83,84,85,86,87,88,89,90,91,92,93,94,95,96,97,98,99,100,101,102,103,104,105,106,107,108,109,110,111,112,113,114],[3,4],[1],4,[(12,999999,none,Tc2)]⟩),(25,⟨⟨[(.int .i64),(.int .i64),(.list (.int .i64)),Tc5,Tc1,Tc1],[(0,.ptr 100000 0),(7,.own 3),(118,.v 0)],[(100000,.box 70 [.v 1,.v 2,.own 100001]),(100001,.box 68 [.v 3,.v 4]),(3,.arr 54 5)]⟩,[20,21,22,119,120,121,122,123,124,125,126,127,128,129,130,131,132,133,134,135,136,137,138,139,140,141,142,143,144,145,146,147,148,149,150,151,152,153,154,155,156,157,158],[],[1,2],4,[]⟩)],[(2,⟨⟨[.bool],[(41,.v 0)],[]⟩,[26,27,28,29,30,31,32,33,34,35,36,37,38,39,40],[],[0],1,[]⟩),(3,⟨⟨[(.int .i64),(.list (.int .i64)),Tc1,Tc5,Tc1],[(0,.ptr 100000 0),(7,.own 1)],[(100000,.box 70 [.v 0,.v 1,.own 100001]),(1,.arr 54 2),(100001,.box 68 [.v 3,.v 4])]⟩,[25,26,27,28,29,30,31,32,33,34,35,36,37,38,39,40,41,42,43,44,45,46,47],[0],[],2,[]⟩),(17,⟨⟨[Tc2,(.int .i64),(.int .i64),Tc5],[(12,.addr 0),(17,.ptr 6 0)],[(6,.box 54 [.v 1,.v 2,.v 3])]⟩,[14,15,66,82,83,84,85,86,87,88,89,90,91,92,93,94,95],[4,5],[1,2],7,[]⟩),(30,⟨⟨[.bool],[(147,.v 0)],[]⟩,[128,132,133,134,135,136,137,138,139,140,141,142,143,144,145,146],[],[1,2,4,5,6],7,[]⟩),(31,⟨⟨[(.int .i64),(.list (.int .i64)),Tc1,Tc5,Tc1],[(0,.ptr 100000 0),(7,.own 4)],[(100000,.box 70 [.v 0,.v 1,.own 100001]),(4,.arr 54 2),(100001,.box 68 [.v 3,.v 4])]⟩,[20,21,22,120,121,122,123,124,125,126,127,128,129,130,131,132,133,134,135,136,137,138,139,140,141,142,143,144,145,146,147,148,149,150,151,152,153,154,155,156,157],[3],[1,2],5,[]⟩)],[(15,[(0,0),(0,1),(0,2),(0,3),(0,4),(0,5),(0,6),(0,7),(0,8),(1,9),(2,10),(0,11)])],[(17,(.pnd (.frz 15 Tc2 (.frz 14 Tc6 (.frz 12 Tc2 (.one 0 (.one 1 (.one 3 (.one 7 (.rd 2 2 [5,6,13,15] (.rd 2 4 [5,6,13,15] (.one 5 (.rd 2 8 [9,12,13,15] (.rd 2 10 [11,12,13,15] (.alt 0 6 (.alt 1 9 (.alt 1 11 (.alt 2 12 (.one 13 (.alt 1 14 (.alt 2 15 .leaf .stop) .stop)) (.alt 1 14 (.alt 2 12 (.one 13 (.alt 2 15 .leaf .stop)) .stop) .stop)) (.alt 1 14 (.alt 1 11 (.alt 2 12 (.one 13 (.alt 2 15 .leaf .stop)) .stop) .stop) .stop)) (.alt 1 11 (.alt 1 9 (.alt 2 12 (.one 13 (.alt 1 14 (.alt 2 15 .leaf .stop) .stop)) (.alt 1 14 (.alt 2 12 (.one 13 (.alt 2 15 .leaf .stop)) .stop) .stop)) (.alt 1 14 (.alt 1 9 (.alt 2 12 (.one 13 (.alt 2 15 .leaf .stop)) .stop) .stop) .stop)) (.alt 1 14 (.alt 1 9 (.alt 1 11 (.alt 2 12 (.one 13 (.alt 2 15 .leaf .stop)) .stop) .stop) (.alt 1 11 (.alt 1 9 (.alt 2 12 (.one 13 (.alt 2 15 .leaf .stop)) .stop) .stop) .stop)) .stop))) (.alt 1 9 (.alt 0 6 (.alt 1 11 (.alt 2 12 (.one 13 (.alt 1 14 (.alt 2 15 .leaf .stop) .stop)) (.alt 1 14 (.alt 2 12 (.one 13 (.alt 2 15 .leaf .stop)) .stop) .stop)) (.alt 1 14 (.alt 1 11 (.alt 2 12 (.one 13 (.alt 2 15 .leaf .stop)) .stop) .stop) .stop)) (.alt 1 11 (.alt 0 6 (.alt 2 12 (.one 13 (.alt 1 14 (.alt 2 15 .leaf .stop) .stop)) (.alt 1 14 (.alt 2 12 (.one 13 (.alt 2 15 .leaf .stop)) .stop) .stop)) (.alt 2 12 (.rd 0 6 [13,15] (.one 13 (.alt 1 14 (.alt 2 15 .leaf .stop) .stop))) (.alt 1 14 (.alt 0 6 (.alt 2 12 (.one 13 (.alt 2 15 .leaf .stop)) .stop) (.alt 2 12 (.rd 0 6 [13,15] (.one 13 (.alt 2 15 .leaf .stop))) .stop)) .stop))) (.alt 1 14 (.alt 0 6 (.alt 1 11 (.alt 2 12 (.one 13 (.alt 2 15 .leaf .stop)) .stop) .stop) (.alt 1 11 (.alt 0 6 (.alt 2 12 (.one 13 (.alt 2 15 .leaf .stop)) .stop) (.alt 2 12 (.rd 0 6 [13,15] (.one 13 (.alt 2 15 .leaf .stop))) .stop)) .stop)) .stop))) (.alt 1 11 (.alt 0 6 (.alt 1 9 (.alt 2 12 (.one 13 (.alt 1 14 (.alt 2 15 .leaf .stop) .stop)) (.alt 1 14 (.alt 2 12 (.one 13 (.alt 2 15 .leaf .stop)) .stop) .stop)) (.alt 1 14 (.alt 1 9 (.alt 2 12 (.one 13 (.alt 2 15 .leaf .stop)) .stop) .stop) .stop)) (.alt 1 9 (.alt 0 6 (.alt 2 12 (.one 13 (.alt 1 14 (.alt 2 15 .leaf .stop) .stop)) (.alt 1 14 (.alt 2 12 (.one 13 (.alt 2 15 .leaf .stop)) .stop) .stop)) (.alt 2 12 (.rd 0 6 [13,15] (.one 13 (.alt 1 14 (.alt 2 15 .leaf .stop) .stop))) (.alt 1 14 (.alt 0 6 (.alt 2 12 (.one 13 (.alt 2 15 .leaf .stop)) .stop) (.alt 2 12 (.rd 0 6 [13,15] (.one 13 (.alt 2 15 .leaf .stop))) .stop)) .stop))) (.alt 1 14 (.alt 0 6 (.alt 1 9 (.alt 2 12 (.one 13 (.alt 2 15 .leaf .stop)) .stop) .stop) (.alt 1 9 (.alt 0 6 (.alt 2 12 (.one 13 (.alt 2 15 .leaf .stop)) .stop) (.alt 2 12 (.rd 0 6 [13,15] (.one 13 (.alt 2 15 .leaf .stop))) .stop)) .stop)) .stop))) (.alt 1 14 (.alt 0 6 (.alt 1 9 (.alt 1 11 (.alt 2 12 (.one 13 (.alt 2 15 .leaf .stop)) .stop) .stop) (.alt 1 11 (.alt 1 9 (.alt 2 12 (.one 13 (.alt 2 15 .leaf .stop)) .stop) .stop) .stop)) (.alt 1 9 (.alt 0 6 (.alt 1 11 (.alt 2 12 (.one 13 (.alt 2 15 .leaf .stop)) .stop) .stop) (.alt 1 11 (.alt 0 6 (.alt 2 12 (.one 13 (.alt 2 15 .leaf .stop)) .stop) (.alt 2 12 (.rd 0 6 [13,15] (.one 13 (.alt 2 15 .leaf .stop))) .stop)) .stop)) (.alt 1 11 (.alt 0 6 (.alt 1 9 (.alt 2 12 (.one 13 (.alt 2 15 .leaf .stop)) .stop) .stop) (.alt 1 9 (.alt 0 6 (.alt 2 12 (.one 13 (.alt 2 15 .leaf .stop)) .stop) (.alt 2 12 (.rd 0 6 [13,15] (.one 13 (.alt 2 15 .leaf .stop))) .stop)) .stop)) .stop))) .stop)))))))))))))))))),(31,(.one 0 (.one 1 (.one 3 (.one 5 (.live [2,9] (.ban 4 [7,8,9,10] (.ban 6 [7,8,9,10] (.alt 2 2 (.leaf [(0,7),(1,8),(2,9),(0,10)]) .stop) (.alt 2 2 (.leaf [(0,6),(0,7),(1,8),(2,9),(0,10)]) .stop)) (.ban 6 [7,8,9,10] (.alt 2 2 (.leaf [(0,4),(0,7),(1,8),(2,9),(0,10)]) .stop) (.alt 2 2 (.leaf [(0,4),(0,6),(0,7),(1,8),(2,9),(0,10)]) .stop)))))))))]⟩ Try.func17 rfl Try.ntmps17 (rs:=[.tmp 6]) rfl (sig:=zee) (out:=zed) rfl Try.call17 (fun X=>by kernel_rfl)

def zjX:Shape:=⟨[(.list (.pair (.int .i64) (.pair (.int .i64) (.pair (.int .i64) (.pair (.list (.int .i64)) .unit))))),(.pair (.int .i64) (.pair (.list (.int .i64)) .unit))],[(0,.v 0),(1,.v 1)],[]⟩
def zjW:Shape:=⟨[(.int .i64),(.list (.int .i64)),Tc5,Tc1],[(0,.ptr 0 0)],[(0,.box 70 [.v 0,.v 1,.own 22]),(22,.box 68 [.v 2,.v 3])]⟩
def zhm:CE:=⟨16,zjX,zjW,fun X=>zgt X.1 X.2⟩
theorem zkY:CE.ok Try.prog zhm:=CE.of (Γ:=[zbk]) (by kernel_rfl) zcn (GOK.cons zbR (GOK.nil)) ⟨[(3,⟨⟨[(.int .i64),(.int .i64),(.list (.int .i64)),Tc5,Tc1],[(5,.ptr 2 0),(25,.v 0)],[(2,.box 70 [.v 1,.v 2,.own 1]),(1,.box 68 [.v 3,.v 4])]⟩,[6,7,8,19,20,21,26,27,28,29,30,31,32,33,34,35,36,37,38,39,40,41,42,43,44,45,46,47,48,49,50,51,52,53,54,55],[],[0],3,[]⟩),(11,⟨⟨[.bool,(.int .i64),(.list (.int .i64)),Tc5,Tc1],[(5,.ptr 2 0),(9,.v 0)],[(2,.box 70 [.v 1,.v 2,.own 1]),(1,.box 68 [.v 3,.v 4])]⟩,[10,11,13,14,15,16,17,56,57,58,59,60,61,62,63,64,65,66,67,68,69,70,71,72,73,74,75,76,77,78,79,80,81,82,83,84,85,86,87,88,89,90,91,92,93,94,95,96,97,98,99,100,101,102,103,104,105,106,107,108,109,110,111,112,113,114],[],[0],3,[]⟩),(14,⟨⟨[.bool,(.int .i64),(.int .i64),(.list (.int .i64)),Tc5,Tc1],[(5,.ptr 2 0),(9,.v 0),(59,.v 1)],[(2,.box 70 [.v 2,.v 3,.own 1]),(1,.box 68 [.v 4,.v 5])]⟩,[10,11,13,14,15,16,17,60,61,62,63,64,65,66,67,68,69,70,71,72,73,74,75,76,77,78,79,80,81,82,83,84,85,86,87,88,89,90,91,92,93,94,95,96,97,98,99,100,101,102,103,104,105,106,107,108,109,110,111,112,113,114],[],[0],3,[]⟩),(17,⟨⟨[.bool,(.int .i64),(.int .i64),(.list (.int .i64)),Tc5,Tc1],[(5,.ptr 2 0),(9,.v 0),(71,.v 1)],[(2,.box 70 [.v 2,.v 3,.own 1]),(1,.box 68 [.v 4,.v 5])]⟩,[13,14,15,16,17,64,72,73,74,75,76,77,78,79,80,81,82,83,84,85,86,87,88,89,90,91,92,93,94,95,96,97,98,99,100,101,102,103,104,105,106,107,108,109,110,111,112,113],[],[0,3,4],5,[]⟩)],[(7,⟨⟨[(.int .i64),(.list (.int .i64)),Tc5,Tc1],[(5,.ptr 2 0)],[(2,.box 70 [.v 0,.v 1,.own 1]),(1,.box 68 [.v 2,.v 3])]⟩,[32,33,34,35,36,37,38,39,40,41,42,43,44],[],[0],3,[]⟩),(22,⟨⟨[.bool],[(101,.v 0)],[]⟩,[94,95,96,97,98,99,100],[],[0,1,2,3,4,5,6,7],8,[]⟩),(24,⟨⟨[.bool,(.int .i64),(.list (.int .i64)),Tc5,Tc1],[(5,.ptr 2 0),(9,.v 0)],[(2,.box 70 [.v 1,.v 2,.own 1]),(1,.box 68 [.v 3,.v 4])]⟩,[13,14,15,16,17,73,74,75,76,77,78,79,80,81,82,83,84,85,86,87,88,89,90,91,92,93,94,95,96,97,98,99,100,101,102,103,104,105,106,107,108,109,110,111,112],[],[0,3,4],5,[]⟩)],[(7,[(0,0),(0,1),(0,2),(0,3),(0,4),(0,5),(0,6),(0,7),(0,8),(0,9),(0,10),(2,11)]),(20,[(0,0),(0,1),(0,2),(0,3),(0,4),(0,5),(0,6),(0,7),(0,8),(1,9),(2,10),(0,11)]),(23,[(0,0),(0,1),(0,2),(0,3),(0,4),(0,5),(0,6),(0,7),(0,8),(0,9),(0,10),(2,11)])],[]⟩ Try.func16 rfl Try.ntmps16 (rs:=[.tmp 4]) rfl (sig:=zjX) (out:=zjW) rfl Try.call16 (fun X=>by kernel_rfl)

def zec:Shape:=⟨[Tc6,(.int .i64),(.list (.int .i64)),(.list (.int .i64)),Tc5,Tc1],[(0,.ptr 100000 0),(1,.v 0),(2,.own 100001)],[(100000,.box 70 [.v 1,.v 2,.own 100002]),(100001,.arr 3 3),(100002,.box 68 [.v 4,.v 5])]⟩
def zeb:Shape:=⟨[(.list (.int .i64)),(.int .i64),(.list (.int .i64)),Tc5,Tc1],[(0,.own 0)],[(0,.arr 3 0),(100000,.box 70 [.v 1,.v 2,.own 100002]),(100002,.box 68 [.v 3,.v 4])]⟩
def zeE:CE:=⟨19,zec,zeb,LFix zcj⟩
theorem ziy:CE.ok Try.prog zeE:=CE.ofRec (Γ:=[]) (by kernel_rfl) zcn (GOK.nil) ⟨[(6,⟨⟨[(.int .i64),(.int .i64),(.list (.int .i64)),(.list (.int .i64)),Tc5,Tc1],[(0,.ptr 100000 0),(2,.own 3),(28,.v 0)],[(100000,.box 70 [.v 1,.v 2,.own 100002]),(3,.arr 3 3),(100002,.box 68 [.v 4,.v 5])]⟩,[9,20,24,29,30,31,32,33,34,35,36],[],[0,1,2],4,[]⟩)],[],[(1,[(0,0),(0,1),(0,2),(0,3),(0,4),(0,5),(1,6),(2,7)])],[]⟩ Try.func19 rfl Try.ntmps19 (rs:=[.tmp 6]) rfl (sig:=zec) (out:=zeb) rfl Try.call19 (d:=zcj) (fun rc X=>by kernel_rfl)

def zmo:Shape:=⟨[(.list (.pair (.int .i64) (.pair (.int .i64) (.pair (.int .i64) (.pair (.list (.int .i64)) .unit))))),(.pair (.int .i64) (.pair (.list (.int .i64)) .unit)),(.pair (.int .i64) (.pair (.list (.int .i64)) .unit))],[(0,.v 0),(1,.v 1),(2,.v 2)],[]⟩
def zmn:Shape:=⟨[.bool,(.int .i64),(.list (.int .i64))],[(0,.own 0),(1,.v 0),(2,.v 1)],[(0,.arr 3 2)]⟩
def znJ:CE:=⟨4,zmo,zmn,fun X=>zgq X.1 X.2.1 X.2.2⟩
theorem zsz:CE.ok Try.prog znJ:=CE.of (Γ:=[zeE,zbk,zbP,zhl,zhm]) (by kernel_rfl) zcn (GOK.cons ziy (GOK.cons zbR (GOK.cons zcT (GOK.cons zkX (GOK.cons zkY (GOK.nil)))))) ⟨[(6,⟨⟨[(.int .i64),(.int .i64),(.list (.int .i64)),Tc5,Tc1,(.list (.int .i64))],[(6,.own 27),(10,.ptr 3 0),(33,.v 0)],[(3,.box 70 [.v 1,.v 2,.own 25]),(25,.box 68 [.v 3,.v 4]),(27,.arr 3 5)]⟩,[7,8,12,14,25,26,34,35,36,37,38,39,40,41,42,43,44,45,46,47,48,49,50,51,52,53,54,55,56,57,58],[],[0,1,2,26],28,[]⟩),(12,⟨⟨[(.int .i64),(.list (.int .i64)),(.int .i64),(.list (.int .i64)),Tc5,Tc1],[(6,.own 27),(10,.ptr 3 0),(48,.v 0)],[(27,.arr 3 1),(3,.box 70 [.v 2,.v 3,.own 25]),(25,.box 68 [.v 4,.v 5])]⟩,[14,49,50,51,52,53,54,55,56],[],[0,1,2,26,28],29,[]⟩)],[(8,⟨⟨[(.int .i64),(.list (.int .i64)),Tc5,Tc1],[(10,.ptr 3 0)],[(3,.box 70 [.v 0,.v 1,.own 25]),(25,.box 68 [.v 2,.v 3])]⟩,[37,38,39,40,41],[],[0,1,2,26,27,28],29,[]⟩)],[],[(8,(.one 0 (.one 2 (.live [3] (.ban 1 [4] (.alt 2 3 (.leaf [(0,4)]) .stop) (.alt 2 3 (.leaf [(0,1),(0,4)]) .stop))))))]⟩ Try.func4 rfl Try.ntmps4 (rs:=[.tmp 6,.tmp 7,.tmp 8]) rfl (sig:=zmo) (out:=zmn) rfl Try.call4 (fun X=>by kernel_rfl)

def zg1:Shape:=⟨[(.int .i64),(.int .i64),(.int .i64),(.list (.int .i64)),Tc5,Tc1],[(0,.v 0),(1,.v 1),(2,.ptr 100000 0)],[(100000,.box 48 [.ptr 100001 0]),(100001,.box 70 [.v 2,.v 3,.own 100002]),(100002,.box 68 [.v 4,.v 5])]⟩
def zg0:Shape:=⟨[(.int .i64),(.int .i64),(.list (.int .i64)),Tc5,Tc1],[(0,.v 0)],[(100000,.box 48 [.ptr 100001 0]),(100001,.box 70 [.v 1,.v 2,.own 100002]),(100002,.box 68 [.v 3,.v 4])]⟩
def zh1:CE:=⟨21,zg1,zg0,fun X=>zc1 X.1 X.2.1 X.2.2.1 X.2.2.2.1 X.2.2.2.2.1 X.2.2.2.2.2⟩
theorem zm6:CE.ok Try.prog zh1:=CE.of (Γ:=[zbx,zbk]) (by kernel_rfl) zcn (GOK.cons zcA (GOK.cons zbR (GOK.nil))) ⟨[(3,⟨⟨[(.int .i64),(.int .i64),(.int .i64),(.list (.int .i64)),Tc5,Tc1],[(2,.ptr 100000 0),(6,.v 0),(10,.ptr 100001 0),(12,.v 1)],[(100000,.box 48 [.ptr 100001 0]),(100001,.box 70 [.v 2,.v 3,.own 100002]),(100002,.box 68 [.v 4,.v 5])]⟩,[7,9,13,14,15,16,17,18,19,20,21,22,23,24,25,26,27,28,29,30,31,32,33,34,35,36],[],[],0,[]⟩),(7,⟨⟨[(.int .i64),(.int .i64)],[(6,.v 0),(26,.v 1)],[]⟩,[9,27,28,29,30,31,32,33,34,35],[],[1],2,[]⟩)],[],[],[]⟩ Try.func21 rfl Try.ntmps21 (rs:=[.tmp 5]) rfl (sig:=zg1) (out:=zg0) rfl Try.call21 (fun X=>by kernel_rfl)

def zg3:Shape:=⟨[(.int .i64),(.int .i64),(.list (.int .i64)),Tc5,Tc1],[(0,.v 0),(1,.ptr 100000 0)],[(100000,.box 48 [.ptr 100001 0]),(100001,.box 70 [.v 1,.v 2,.own 100002]),(100002,.box 68 [.v 3,.v 4])]⟩
def zg2:Shape:=⟨[(.int .i64),(.int .i64),(.list (.int .i64)),Tc5,Tc1],[(0,.v 0)],[(100000,.box 48 [.ptr 100001 0]),(100001,.box 70 [.v 1,.v 2,.own 100002]),(100002,.box 68 [.v 3,.v 4])]⟩
def zh2:CE:=⟨23,zg3,zg2,fun X=>zcy X.1 X.2.1 X.2.2.1 X.2.2.2.1 X.2.2.2.2⟩
theorem zm7:CE.ok Try.prog zh2:=CE.of (Γ:=[zbP]) (by kernel_rfl) zcn (GOK.cons zcT (GOK.nil)) ⟨[],[],[],[]⟩ Try.func23 rfl Try.ntmps23 (rs:=[.tmp 3]) rfl (sig:=zg3) (out:=zg2) rfl Try.call23 (fun X=>by kernel_rfl)

def zje:Shape:=⟨[(.int .i64),(.int .i64),(.int .i64),(.int .i64),(.list (.int .i64)),Tc5,Tc1],[(0,.v 0),(1,.v 1),(2,.fn 21 [.ptr 100000 0]),(3,.fn 23 [.ptr 100000 0]),(4,.v 2)],[(100000,.box 48 [.ptr 100001 0]),(100001,.box 70 [.v 3,.v 4,.own 100002]),(100002,.box 68 [.v 5,.v 6])]⟩
def zjd:Shape:=⟨[(.pair (.int .i64) (.pair (.int .i64) (.pair (.list (.list (.int .i64))) (.pair (.list (.int .i64)) .unit)))),.bool,(.int .i64),(.list (.int .i64)),Tc5,Tc1],[(0,.v 0),(1,.v 1)],[(100000,.box 48 [.ptr 100001 0]),(100001,.box 70 [.v 2,.v 3,.own 100002]),(100002,.box 68 [.v 4,.v 5])]⟩
def zkw:CE:=⟨20,zje,zjd,fun X=>zfU X.1 X.2.1 X.2.2.1 X.2.2.2.1 X.2.2.2.2.1 X.2.2.2.2.2.1 X.2.2.2.2.2.2⟩
theorem zpQ:CE.ok Try.prog zkw:=CE.of (Γ:=[zh1,zh2]) (by kernel_rfl) zcn (GOK.cons zm6 (GOK.cons zm7 (GOK.nil))) ⟨[(4,⟨⟨[(.int .i64),(.int .i64),(.list (.int .i64)),(.list (.int .i64)),(.list (.int .i64)),(.int .i64),(.list (.int .i64)),Tc5,Tc1,(.list (.list (.int .i64))),(.list (.int .i64))],[(2,.fn 21 [.ptr 100000 0]),(3,.fn 23 [.ptr 100000 0]),(12,.ptr 1 0),(13,.own 2),(14,.own 3)],[(100000,.box 48 [.ptr 100001 0]),(1,.box 36 [.v 0,.v 1,.own 4,.own 5]),(2,.box 77 [.v 2,.v 3]),(3,.arr 3 4),(100001,.box 70 [.v 5,.v 6,.own 100002]),(100002,.box 68 [.v 7,.v 8]),(4,.arr 23 9),(5,.arr 3 10)]⟩,[11,15,16,17,18,19,20,23,25,27,28,29,30,31,32,33,34,35,36,37,38,39,40,41,42,43,44,45,46,47,48,49,50,51,52,53,54,55,56,57,58,59,60,61,62,63,64,65,66,67,68,69,70,71,72,73,74,75,76,77,78,79,80,81,82,83,84,85,86,87,88,89],[],[0],6,[(1,2,some 23,(.list (.int .i64))),(1,3,some 3,(.int .i64))]⟩),(8,⟨⟨[(.int .i64),(.list (.int .i64)),(.list (.int .i64)),(.list (.int .i64)),(.list (.int .i64)),(.int .i64),(.list (.int .i64)),Tc5,Tc1],[(2,.fn 21 [.ptr 100000 0]),(3,.fn 23 [.ptr 100000 0]),(13,.own 2),(14,.own 3),(16,.own 6),(43,.v 0)],[(100000,.box 48 [.ptr 100001 0]),(2,.box 77 [.v 1,.v 2]),(3,.arr 3 3),(6,.arr 3 4),(100001,.box 70 [.v 5,.v 6,.own 100002]),(100002,.box 68 [.v 7,.v 8])]⟩,[11,17,18,19,20,31,34,38,41,44,45,46,47,48,49,50,51,52,53,54,55,56,57,58,59,60,61,62,63,64,65,66,67,68,69,70,71,72,73,74,75],[],[0,1,4,5],7,[]⟩)],[(17,⟨⟨[(.int .i64),(.list (.int .i64)),(.list (.int .i64)),(.list (.int .i64))],[(13,.own 2),(14,.own 7),(19,.v 0)],[(2,.box 77 [.v 1,.v 2]),(7,.arr 3 3)]⟩,[11,51,56,57,58,59,60,61,62,63,64,65,66,67,68,69,70],[3],[0,1,4,5,6],8,[]⟩),(21,⟨⟨[(.int .i64),(.int .i64),(.int .i64),(.list (.int .i64)),(.list (.list (.int .i64))),(.list (.int .i64)),Tc5,Tc1],[(2,.fn 21 [.ptr 100000 0]),(12,.ptr 1 0)],[(100000,.box 48 [.ptr 100001 0]),(1,.box 36 [.v 0,.v 1,.own 3,.own 4]),(100001,.box 70 [.v 2,.v 3,.own 100002]),(3,.arr 23 4),(4,.arr 3 5),(100002,.box 68 [.v 6,.v 7])]⟩,[3,11,13,14,15,16,17,18,19,20,23,25,26,27,28,29,30,31,32,33,34,35,36,37,38,39,40,41,42,43,44,45,46,47,48,49,50,51,52,53,54,55,56,57,58,59,60,61,62,63,64,65,66,67,68,69,70,71,72,73,74,75,76,77,78,79,80,81,82,83,84,85,86,87,88,89],[2],[0],5,[]⟩)],[],[(21,(.one 0 (.one 2 (.one 3 (.live [4,6,8] (.ban 1 [6,7,8] (.alt 2 4 (.leaf [(1,5),(2,6),(0,7),(2,8)]) .stop) (.alt 2 4 (.leaf [(0,1),(1,5),(2,6),(0,7),(2,8)]) .stop)))))))]⟩ Try.func20 rfl Try.ntmps20 (rs:=[.cell 10 36,.tmp 11]) rfl (sig:=zje) (out:=zjd) rfl Try.call20 (fun X=>by kernel_rfl)

def zgX:Shape:=⟨[(.list (.int .i64))],[(0,.v 0)],[]⟩
def zgW:Shape:=⟨[(.list (.int .i64))],[(0,.own 0)],[(0,.arr 3 0)]⟩
def zhU:CE:=⟨36,zgX,zgW,fun X=>ze8 X⟩
theorem zm4:CE.ok Try.prog zhU:=CE.of (Γ:=[]) (by kernel_rfl) zcn (GOK.nil) ⟨[],[],[],[]⟩ Try.func36 rfl Try.ntmps36 (rs:=[.tmp 2]) rfl (sig:=zgX) (out:=zgW) rfl Try.call36 (fun X=>by kernel_rfl)

def zja:Shape:=⟨[(.pair (.int .i64) (.pair (.int .i64) (.pair (.list (.list (.int .i64))) (.pair (.list (.int .i64)) .unit))))],[(0,.v 0)],[]⟩
def zi9:Shape:=⟨[(.list (.int .i64))],[(0,.own 0)],[(0,.arr 3 0)]⟩
def zkv:CE:=⟨31,zja,zi9,fun X=>zig X⟩
theorem zpP:CE.ok Try.prog zkv:=CE.of (Γ:=[zhU]) (by kernel_rfl) zcn (GOK.cons zm4 (GOK.nil)) ⟨[(3,⟨⟨[(.int .i64),(.list (.int .i64))],[(3,.own 1),(4,.v 0)],[(1,.arr 3 1)]⟩,[2,5,6,7,8,9,11,12,13,14,17,18,19,20,21,22,23,24,25,26,27,28,29,30,31,32,33,34,35,36,37,38,39,40,41,42,43,44,45,46,47,48,49,50,51,52,53,54,55,56,57,58,59,60,61,62,63,64,65,66,67,68,69,70,71,72,73,74,75,76,77,78,79,80,81,82,83,84],[],[0],2,[]⟩),(6,⟨⟨[(.int .i64),(.list (.pair (.int .i64) (.pair .str .unit))),(.list (.int .i64)),(.list (.int .i64))],[(5,.own 2),(6,.own 3),(25,.v 0)],[(2,.box 80 [.v 1,.v 2]),(3,.arr 3 3)]⟩,[7,8,9,11,12,13,14,18,21,26,27,28,29,30,31,32,33,34,35,36,37,38,39,40,41,42,43,44,45,46,47,48,49,50,51,52,53,54,55,56,57,58,59,60,61,62,63,64,65,66,67,68,69,70,71,72,73,74,75,76],[],[0,1],4,[]⟩),(10,⟨⟨[(.int .i64),(.list (.int .u8))],[(9,.own 4),(32,.v 0)],[(4,.arr 5 1)]⟩,[11,33,34,35,36,37,38,39,40,41,42,43,44,45,46,47,48,49,50],[],[0,1,2,3],5,[]⟩)],[(17,⟨⟨[(.list (.pair (.int .i64) (.pair .str .unit))),(.list (.int .i64))],[(5,.own 2)],[(2,.box 80 [.v 0,.v 1])]⟩,[13,14,58,59,60,61,62,63,64,65,66,67,68,69],[],[0,1,3,4,5],6,[]⟩)],[(12,[(0,0),(0,1),(0,2),(0,3),(0,4),(0,5),(0,6),(0,7),(0,8),(0,9),(0,10),(0,11),(1,12),(2,13),(0,14)]),(14,[(0,0),(0,1),(0,2),(0,3),(0,4),(0,5),(0,6),(1,7),(2,8)])],[]⟩ Try.func31 rfl Try.ntmps31 (rs:=[.tmp 2]) rfl (sig:=zja) (out:=zi9) rfl Try.call31 (fun X=>by kernel_rfl)

def zgJ:Shape:=⟨[(.int .i64),(.int .i64),(.list (.int .i64)),(.pair (.int .i64) (.pair (.int .i64) (.pair (.list (.list (.int .i64))) (.pair (.list (.int .i64)) .unit)))),(.list (.int .i64))],[(0,.v 0),(1,.v 1),(2,.addr 2),(3,.addr 3),(4,.addr 4)],[]⟩
def zgI:Shape:=⟨[(.int .i64)],[(0,.v 0)],[]⟩
def zhA:CE:=⟨32,zgJ,zgI,fun X=>ze4 X.1 X.2.1 X.2.2.1 X.2.2.2.1 X.2.2.2.2⟩
theorem zmJ:CE.ok Try.prog zhA:=CE.of (Γ:=[]) (by kernel_rfl) zcn (GOK.nil) ⟨[],[],[(1,[(0,0),(0,1),(0,2),(0,3),(0,4),(0,5),(0,6),(0,7),(0,8),(0,9),(0,10),(0,11),(0,12),(0,13),(0,14)])],[]⟩ Try.func32 rfl Try.ntmps32 (rs:=[.tmp 7]) rfl (sig:=zgJ) (out:=zgI) rfl Try.call32 (fun X=>by kernel_rfl)

def zgL:Shape:=⟨[(.int .i64),(.pair (.int .i64) (.pair (.int .i64) (.pair (.list (.list (.int .i64))) (.pair (.list (.int .i64)) .unit)))),(.list (.int .i64))],[(0,.v 0),(1,.addr 1),(2,.addr 2)],[]⟩
def zgK:Shape:=⟨[(.int .i64)],[(0,.v 0)],[]⟩
def zhB:CE:=⟨33,zgL,zgK,fun X=>zhe X.1 X.2.1 X.2.2⟩
theorem zmK:CE.ok Try.prog zhB:=CE.of (Γ:=[]) (by kernel_rfl) zcn (GOK.nil) ⟨[],[],[(1,[(0,0),(0,1),(0,2),(0,3),(0,4),(0,5),(0,6),(0,7),(0,8)])],[]⟩ Try.func33 rfl Try.ntmps33 (rs:=[.tmp 4]) rfl (sig:=zgL) (out:=zgK) rfl Try.call33 (fun X=>by kernel_rfl)

def zhx:Shape:=⟨[(.int .i64),(.int .i64),(.list (.int .i64)),(.pair (.int .i64) (.pair (.int .i64) (.pair (.list (.list (.int .i64))) (.pair (.list (.int .i64)) .unit)))),(.list (.int .i64)),(.pair (.int .i64) (.pair (.int .i64) (.pair (.list (.list (.int .i64))) (.pair (.list (.int .i64)) .unit)))),(.list (.int .i64)),(.int .i64)],[(0,.v 0),(1,.v 1),(2,.fn 32 [.addr 2,.addr 3,.addr 4]),(3,.fn 33 [.addr 5,.addr 6]),(4,.v 7)],[]⟩
def zhw:Shape:=⟨[(.pair (.int .i64) (.pair (.int .i64) (.pair (.list (.list (.int .i64))) (.pair (.list (.int .i64)) .unit)))),.bool],[(0,.v 0),(1,.v 1)],[]⟩
def ziC:CE:=⟨20,zhx,zhw,fun X=>zfC X.1 X.2.1 X.2.2.1 X.2.2.2.1 X.2.2.2.2.1 X.2.2.2.2.2.1 X.2.2.2.2.2.2.1 X.2.2.2.2.2.2.2⟩
theorem znT:CE.ok Try.prog ziC:=CE.of (Γ:=[zhA,zhB]) (by kernel_rfl) zcn (GOK.cons zmJ (GOK.cons zmK (GOK.nil))) ⟨[(4,⟨⟨[(.int .i64),(.int .i64),(.list (.int .i64)),(.list (.int .i64)),(.list (.int .i64)),(.list (.list (.int .i64))),(.list (.int .i64))],[(12,.ptr 1 0),(13,.own 2),(14,.own 3)],[(1,.box 36 [.v 0,.v 1,.own 4,.own 5]),(2,.box 77 [.v 2,.v 3]),(3,.arr 3 4),(4,.arr 23 5),(5,.arr 3 6)]⟩,[11,15,16,17,18,19,20,23,25,27,28,29,30,31,32,33,34,35,36,37,38,39,40,41,42,43,44,45,46,47,48,49,50,51,52,53,54,55,56,57,58,59,60,61,62,63,64,65,66,67,68,69,70,71,72,73,74,75,76,77,78,79,80,81,82,83,84,85,86,87,88,89],[],[0],6,[(1,2,some 23,(.list (.int .i64))),(1,3,some 3,(.int .i64))]⟩),(8,⟨⟨[(.int .i64),(.list (.int .i64)),(.list (.int .i64)),(.list (.int .i64)),(.list (.int .i64))],[(13,.own 2),(14,.own 3),(16,.own 6),(43,.v 0)],[(2,.box 77 [.v 1,.v 2]),(3,.arr 3 3),(6,.arr 3 4)]⟩,[11,17,18,19,20,31,34,38,41,44,45,46,47,48,49,50,51,52,53,54,55,56,57,58,59,60,61,62,63,64,65,66,67,68,69,70,71,72,73,74,75],[],[0,1,4,5],7,[]⟩)],[(17,⟨⟨[(.int .i64),(.list (.int .i64)),(.list (.int .i64)),(.list (.int .i64))],[(13,.own 2),(14,.own 7),(19,.v 0)],[(2,.box 77 [.v 1,.v 2]),(7,.arr 3 3)]⟩,[11,51,56,57,58,59,60,61,62,63,64,65,66,67,68,69,70],[3],[0,1,4,5,6],8,[]⟩)],[(21,[(0,0),(0,1),(0,2),(0,3),(1,4),(1,5),(2,6),(0,7),(2,8)])],[]⟩ Try.func20 rfl Try.ntmps20 (rs:=[.cell 10 36,.tmp 11]) rfl (sig:=zhx) (out:=zhw) rfl Try.call20 (fun X=>by kernel_rfl)

def ziG:Shape:=⟨[(.pair (.int .i64) (.pair (.int .i64) (.pair (.list (.list (.int .i64))) (.pair (.list (.int .i64)) .unit))))],[(0,.v 0)],[]⟩
def ziF:Shape:=⟨[(.pair (.int .i64) (.pair (.int .i64) (.pair (.list (.list (.int .i64))) (.pair (.list (.int .i64)) .unit))))],[(0,.v 0)],[]⟩
def zjg:CE:=⟨24,ziG,ziF,fun X=>zd2 X⟩
theorem zoG:CE.ok Try.prog zjg:=CE.of (Γ:=[zkv,ziC]) (by kernel_rfl) zcn (GOK.cons zpP (GOK.cons znT (GOK.nil))) ⟨[(4,⟨⟨[(.int .i64),(.list (.int .i64))],[(4,.ptr 5 0),(16,.v 0)],[(5,.box 23 [.own 4]),(4,.arr 3 1)]⟩,[5,6,13,17,18,19,20,21,22,23,24,25],[],[0,1,2,3],6,[]⟩)],[(8,⟨⟨[(.int .i64),(.int .i64),(.list (.list (.int .i64))),(.list (.int .i64))],[(7,.ptr 6 0)],[(6,.box 36 [.v 0,.v 1,.v 2,.v 3])]⟩,[1,3,4,8,10,11,14,26,27,28,29,30,31,32,33,34,35,36,37,38,39,40,41],[0,2,3,4,5],[1],7,[]⟩)],[],[(8,(.one 0 (.one 3 (.one 7 (.one 8 (.live [12,17] (.rd 1 [12,13,14,15,17,18] (.rd 2 [5,6,12,13,14,15,17,18] (.rd 4 [5,6,12,13,14,15,17,18] (.one 5 (.rd 6 [12,13,14,15,17,18] (.rd 9 [10,11,12,13,14,15,17,18] (.rd 10 [11,12,13,14,15,17,18] (.one 11 (.alt 2 12 (.leaf [(0,13),(0,14),(0,15),(1,16),(2,17),(0,18)]) (.alt 1 16 (.alt 2 12 (.leaf [(0,13),(0,14),(0,15),(2,17),(0,18)]) .stop) .stop))))))))))))))))]⟩ Try.func24 rfl Try.ntmps24 (rs:=[.cell 2 36]) rfl (sig:=ziG) (out:=ziF) rfl Try.call24 (fun X=>by kernel_rfl)

def ziS:Shape:=⟨[(.list (.pair (.int .i64) (.pair (.int .i64) (.pair (.int .i64) (.pair (.list (.int .i64)) .unit))))),(.pair (.int .i64) (.pair (.list (.int .i64)) .unit))],[(0,.v 0),(1,.v 1)],[]⟩
def ziR:Shape:=⟨[(.int .i64),(.list (.pair (.int .i64) (.pair (.int .i64) (.pair (.list (.list (.int .i64))) (.pair (.list (.int .i64)) .unit)))))],[(0,.own 0),(1,.v 0)],[(0,.arr 36 1)]⟩
def zjO:CE:=⟨5,ziS,ziR,fun X=>zd8 X.1 X.2⟩
theorem zpB:CE.ok Try.prog zjO:=CE.of (Γ:=[zbk,zhl,zhm,zkw,zjg]) (by kernel_rfl) zcn (GOK.cons zbR (GOK.cons zkX (GOK.cons zkY (GOK.cons zpQ (GOK.cons zoG (GOK.nil)))))) ⟨[(7,⟨⟨[(.int .i64),(.int .i64),(.list (.int .i64)),Tc5,Tc1,(.list (.pair (.int .i64) (.pair (.int .i64) (.pair (.list (.list (.int .i64))) (.pair (.list (.int .i64)) .unit)))))],[(7,.ptr 25 0),(8,.own 26),(25,.v 0)],[(25,.box 48 [.ptr 2 0]),(2,.box 70 [.v 1,.v 2,.own 24]),(24,.box 68 [.v 3,.v 4]),(26,.arr 36 5)]⟩,[9,10,12,13,14,24,26,27,28,29,30,31,32,33,34,35,36,37,38,39,40,41,42,43,44,45,46,47,48,49,50,51,52,53,54],[],[0,1],27,[]⟩),(11,⟨⟨[(.int .i64),(.int .i64)],[(10,.v 0),(32,.v 1)],[]⟩,[12,33,34,35,36,37,38,39,40,41],[],[0,1,2,24,25,26,27],28,[]⟩)],[],[],[]⟩ Try.func5 rfl Try.ntmps5 (rs:=[.tmp 4,.tmp 5]) rfl (sig:=ziS) (out:=ziR) rfl Try.call5 (fun X=>by kernel_rfl)

def zl3:Shape:=⟨[(.list (.pair (.int .i64) (.pair (.int .i64) (.pair (.int .i64) (.pair (.list (.int .i64)) .unit)))))],[(0,.v 0)],[]⟩
def zl2:Shape:=⟨[(.int .i64)],[(0,.v 0)],[]⟩
def znv:CE:=⟨25,zl3,zl2,fun X=>zl1 X⟩
theorem zsp:CE.ok Try.prog znv:=CE.of (Γ:=[]) (by kernel_rfl) zcn (GOK.nil) ⟨[(4,⟨⟨[(.int .i64)],[(3,.v 0)],[]⟩,[2,10,11,12,13,14,15,16,17,18,19,20,21,22],[],[],0,[]⟩),(9,⟨⟨[(.int .i64)],[(4,.v 0)],[]⟩,[2,5,6,23,24,25,26,27,28,29,30,31,32,33,34,35,36,37,38,39,40,41,42,43,44,45,46,47,48,49,50,51,52,53,54,55,56,57,58,59,60,61,62,63,64,65,66,67,68,69,70,71,72,73,74,75,76,77,78,79,80,81],[],[],0,[]⟩),(15,⟨⟨[(.int .i64)],[(6,.v 0)],[]⟩,[2,61,62,63,64,65,66,67,68,69,70,71,72,73,74,75,76,77,78,79,80,81],[],[0],1,[]⟩)],[],[],[]⟩ Try.func25 rfl Try.ntmps25 (rs:=[.tmp 2]) rfl (sig:=zl3) (out:=zl2) rfl Try.call25 (fun X=>by kernel_rfl)

def zkE:Shape:=⟨[(.pair (.int .i64) (.pair (.list (.int .i64)) .unit))],[(0,.v 0)],[]⟩
def zkD:Shape:=⟨[(.int .i64)],[(0,.v 0)],[]⟩
def zl5:CE:=⟨26,zkE,zkD,fun X=>zhK X⟩
theorem zro:CE.ok Try.prog zl5:=CE.of (Γ:=[]) (by kernel_rfl) zcn (GOK.nil) ⟨[(6,⟨⟨[(.int .i64)],[(3,.v 0)],[]⟩,[2,16,17,18,19,20,21,22,23,24,25,26,27,28,29,30,31,32,33,34,35,36],[],[0],1,[]⟩)],[],[],[]⟩ Try.func26 rfl Try.ntmps26 (rs:=[.tmp 2]) rfl (sig:=zkE) (out:=zkD) rfl Try.call26 (fun X=>by kernel_rfl)

def zlI:Shape:=⟨[(.list (.pair (.int .i64) (.pair (.int .i64) (.pair (.int .i64) (.pair (.list (.int .i64)) .unit))))),(.pair (.int .i64) (.pair (.list (.int .i64)) .unit)),(.pair (.int .i64) (.pair (.list (.int .i64)) .unit))],[(0,.v 0),(1,.v 1),(2,.v 2)],[]⟩
def zlH:Shape:=⟨[(.int .i64)],[(0,.v 0)],[]⟩
def znr:CE:=⟨6,zlI,zlH,fun X=>zf1 X.1 X.2.1 X.2.2⟩
theorem zsg:CE.ok Try.prog znr:=CE.of (Γ:=[znv,zl5]) (by kernel_rfl) zcn (GOK.cons zsp (GOK.cons zro (GOK.nil))) ⟨[],[(3,⟨⟨[(.int .i64)],[(7,.v 0)],[]⟩,[10,11,12,13],[],[0,1],2,[]⟩)],[],[]⟩ Try.func6 rfl Try.ntmps6 (rs:=[.tmp 6]) rfl (sig:=zlI) (out:=zlH) rfl Try.call6 (fun X=>by kernel_rfl)

def znD:Shape:=⟨[(.pair (.int .i64) (.pair (.int .i64) (.pair (.list (.list (.int .i64))) (.pair (.list (.int .i64)) .unit))))],[(0,.v 0)],[]⟩
def znC:Shape:=⟨[(.int .i64)],[(0,.v 0)],[]⟩
def zpn:CE:=⟨7,znD,znC,fun X=>zma X⟩
theorem ztn:CE.ok Try.prog zpn:=CE.of (Γ:=[]) (by kernel_rfl) zcn (GOK.nil) ⟨[(9,⟨⟨[(.int .i64)],[(4,.v 0)],[]⟩,[2,30,31,32,33,34,35,36,37,38,39,40,41,42,43],[],[0],1,[]⟩),(16,⟨⟨[(.int .i64)],[(5,.v 0)],[]⟩,[2,6,53,54,55,56,57,58,59,60,61,62,63,64,65,66,67,68,69,70,71,72,73,74,75,76,77,78,79,80,81,82,83,84],[],[0],1,[]⟩),(19,⟨⟨[(.int .i64)],[(6,.v 0)],[]⟩,[2,58,59,60,61,62,63,64,65,66,67,68,69,70,71,72,73,74,75,76,77,78,79,80,81,82,83,84],[],[0],1,[]⟩),(24,⟨⟨[(.int .i64)],[(7,.v 0)],[]⟩,[2,85,86,87,88,89,90,91,92,93,94,95,96,97,98,99,100,101,102,103],[],[0],1,[]⟩)],[],[(11,[(0,0),(0,1),(0,2),(0,3),(0,4),(0,5),(0,6),(0,7),(0,8)])],[]⟩ Try.func7 rfl Try.ntmps7 (rs:=[.tmp 2]) rfl (sig:=znD) (out:=znC) rfl Try.call7 (fun X=>by kernel_rfl)

def zkO:Shape:=⟨[(.pair (.int .i64) (.pair (.int .i64) (.pair (.list (.list (.int .i64))) (.pair (.list (.int .i64)) .unit))))],[(0,.v 0)],[]⟩
def zkN:Shape:=⟨[(.list (.int .i64))],[(0,.own 0)],[(0,.arr 3 0)]⟩
def zmd:CE:=⟨27,zkO,zkN,fun X=>zkh X⟩
theorem zrt:CE.ok Try.prog zmd:=CE.of (Γ:=[]) (by kernel_rfl) zcn (GOK.nil) ⟨[(3,⟨⟨[(.int .i64),(.list (.int .i64))],[(3,.own 2),(4,.v 0)],[(2,.arr 3 1)]⟩,[2,5,6,7,8,9,10,11,12,13,16,17,18,19,20,21,22,23,24,25,26,27,28,29,30,31,32,33,34,35,36,37,38,39,40,41,42,43,44,45,46,47,48,49,50,51,52,53,54,55,56,57,58,59,60,61,62,63,64,65,66,67,68,69,70,71,72,73,74,75,76,77,78,79,80,81,82,83,84,85,86,87,88,89,90,91,92,93,94,95],[],[0],3,[]⟩),(7,⟨⟨[(.int .i64),(.int .i64),(.list (.int .i64)),(.list (.int .i64))],[(5,.own 3),(6,.v 0),(7,.own 4),(8,.v 1)],[(3,.arr 3 2),(4,.arr 3 3)]⟩,[9,10,11,12,19,20,21,22,23,24,25,26,27,28,29,30,31,32,33,34,35,36,37,38,39,40,41,42,43,44,45,46,47,48,49,50,51,52,53,54,55,56,57,58,59,60,61,62,63,64,65,66,67,68,69,70,71,72,73,74,75,76,77,78,79,80,81,82,83,84,85,86,87,88,89],[],[0,2],5,[]⟩),(10,⟨⟨[(.int .i64)],[(9,.v 0)],[]⟩,[10,11,12,26,27,28,29,30,31,32,33,34,35,36,37,38,39,40,41,42,43,44,45,46,47,48,49,50,51,52,53,54,55,56,57,58,59,60,61,62,63,64,65,66,67,68,69,70,71,72,73,74,75,76],[],[0,2,3,4],5,[]⟩),(14,⟨⟨[.bool,(.int .i64)],[(11,.v 0),(12,.v 1)],[]⟩,[42,43,44,45,46,47,48,49,50,51,52,53,54,55,56,57,58,59,60,61,62,63,64,65,66,67,68,69,70,71,72,73],[],[0,2,3,4],5,[]⟩)],[(15,⟨⟨[.bool],[(11,.v 0)],[]⟩,[12,42,43,44,45,46,47,48,49,50,51,52,53,54,55,56,57,58,59,60,61,62,63,64,65,66,67,68,69,70,71,72,73],[],[0,2,3,4],5,[]⟩),(18,⟨⟨[(.int .i64)],[(9,.v 0)],[]⟩,[10,11,12,26,27,28,29,30,31,32,33,34,35,36,37,38,39,40,41,42,43,44,45,46,47,48,49,50,51,52,53,54,55,56,57,58,59,60,61,62,63,64,65,66,67,68,69,70,71,72,73,74,75,76],[],[0,2,3,4],5,[]⟩),(21,⟨⟨[(.int .i64),(.list (.int .i64))],[(6,.v 0),(7,.own 5)],[(5,.arr 3 1)]⟩,[77,78,79,80,81,82,83,84,85],[4],[0,2,3],6,[]⟩)],[(12,[(0,0),(0,1),(0,2),(0,3),(0,4),(0,5),(0,6),(0,7),(0,8),(0,9)]),(16,[(0,0),(0,1),(0,2),(0,3),(0,4),(0,5),(0,6),(0,7),(0,8),(0,9),(0,10),(0,11),(0,12),(0,13),(0,14),(0,15),(0,16),(0,17),(0,18),(0,19),(0,20),(0,21),(0,22),(0,23)])],[]⟩ Try.func27 rfl Try.ntmps27 (rs:=[.tmp 2]) rfl (sig:=zkO) (out:=zkN) rfl Try.call27 (fun X=>by kernel_rfl)

def znF:Shape:=⟨[(.pair (.int .i64) (.pair (.int .i64) (.pair (.list (.list (.int .i64))) (.pair (.list (.int .i64)) .unit))))],[(0,.v 0)],[]⟩
def znE:Shape:=⟨[(.pair (.int .i64) (.pair (.int .i64) (.pair (.list (.list (.int .i64))) (.pair (.list (.int .i64)) .unit))))],[(0,.v 0)],[]⟩
def zpr:CE:=⟨8,znF,znE,fun X=>zme X⟩
theorem zto:CE.ok Try.prog zpr:=CE.of (Γ:=[zmd]) (by kernel_rfl) zcn (GOK.cons zrt (GOK.nil)) ⟨[(4,⟨⟨[(.int .i64),(.list (.int .i64))],[(4,.own 3),(5,.v 0)],[(3,.arr 3 1)]⟩,[16,17,18,19,20,21,22,23,24,25],[],[0,1,2],4,[]⟩),(11,⟨⟨[(.int .i64),(.list (.int .i64)),(.list (.int .i64)),(.int .i64),(.int .i64),(.list (.list (.int .i64))),(.list (.int .i64))],[(4,.own 3),(6,.own 4),(7,.ptr 5 0),(8,.v 0)],[(3,.arr 3 1),(4,.arr 3 2),(5,.box 36 [.v 3,.v 4,.own 6,.own 7]),(6,.arr 23 5),(7,.arr 3 6)]⟩,[9,10,11,18,26,32,35,39,40,41,42,43,44,45,46,47,48,49,50,51,52,53,54,55,56,57,58,59,60,61,62,63,64,65,66,67,68,69,70,71,72,73,74,75,76,77,78,79,80,81,82,83,84,85,86,87,88,89,90,91,92,93,94,95,96,97,98,99,100,101,102,103,104,105,106,107,108,109,110,111,112,113],[],[0,1,2],8,[(5,2,some 23,(.list (.int .i64))),(5,3,some 3,(.int .i64))]⟩),(15,⟨⟨[(.int .i64),(.list (.int .i64)),(.list (.int .i64)),(.list (.int .i64))],[(4,.own 3),(6,.own 4),(9,.own 8),(10,.v 0)],[(3,.arr 3 1),(4,.arr 3 2),(8,.arr 3 3)]⟩,[11,40,47,48,49,50,51,52,53,54,55,56,57,58,59,60,61,62,63,64,65,66,67,68,69,70,71,72,73,74,75,76,77,78,79,80,81,82,83,84,85,86,87,88,89,90,91,92,93,94],[],[0,1,2,5,6,7],9,[]⟩)],[(20,⟨⟨[(.list (.int .i64)),(.list (.int .i64))],[(4,.own 3),(6,.own 9)],[(3,.arr 3 0),(9,.arr 3 1)]⟩,[56,58,65,66,67,68,69,70,71,72,73,74,75,76,77,78,79,80,81,82,83,84],[4],[0,1,2,5,6,7,8],10,[]⟩)],[(17,[(0,0),(0,1),(0,2),(0,3),(0,4),(0,5),(0,6),(0,7),(0,8),(0,9),(0,10),(0,11)]),(23,[(0,0),(0,1),(0,2),(0,3),(0,4),(0,5),(0,6),(0,7),(0,8),(0,9),(1,10),(2,11),(0,12),(2,13)])],[]⟩ Try.func8 rfl Try.ntmps8 (rs:=[.cell 2 36]) rfl (sig:=znF) (out:=znE) rfl Try.call8 (fun X=>by kernel_rfl)

def zpw:Shape:=⟨[(.pair (.int .i64) (.pair (.int .i64) (.pair (.list (.list (.int .i64))) (.pair (.list (.int .i64)) .unit)))),(.pair (.int .i64) (.pair (.int .i64) (.pair (.list (.list (.int .i64))) (.pair (.list (.int .i64)) .unit))))],[(0,.v 0),(1,.v 1)],[]⟩
def zpv:Shape:=⟨[.bool],[(0,.v 0)],[]⟩
def zqp:CE:=⟨9,zpw,zpv,fun X=>zps X.1 X.2⟩
theorem zuI:CE.ok Try.prog zqp:=CE.of (Γ:=[]) (by kernel_rfl) zcn (GOK.nil) ⟨[(4,⟨⟨[(.int .i64)],[(5,.v 0)],[]⟩,[4,38,39,40,41,42,43,44,45,46,47,48,49,50,51,52,53,54,55],[],[0,1],2,[]⟩),(9,⟨⟨[(.int .i64)],[(6,.v 0)],[]⟩,[4,7,56,57,58,59,60,61,62,63,64,65,66,67,68,69,70,71,72,73,74,75,76,77,78,79,80,81,82,83,84,85,86,87,88,89,90,91,92,93,94,95,96,97,98,99,100,101,102],[],[0,1],2,[]⟩),(14,⟨⟨[(.int .i64)],[(7,.v 0)],[]⟩,[4,76,77,78,79,80,81,82,83,84,85,86,87,88,89,90,91,92,93,94,95,96,97,98,99,100,101,102],[],[0,1],2,[]⟩)],[],[(6,[(0,0),(0,1),(0,2),(0,3),(0,4),(0,5),(0,6),(0,7),(0,8),(0,9),(0,10)]),(11,[(0,0),(0,1),(0,2),(0,3),(0,4),(0,5),(0,6),(0,7),(0,8),(0,9),(0,10),(0,11),(0,12)]),(16,[(0,0),(0,1),(0,2),(0,3),(0,4),(0,5),(0,6),(0,7),(0,8),(0,9),(0,10),(0,11),(0,12),(0,13),(0,14),(0,15),(0,16)])],[]⟩ Try.func9 rfl Try.ntmps9 (rs:=[.tmp 4]) rfl (sig:=zpw) (out:=zpv) rfl Try.call9 (fun X=>by kernel_rfl)

def znB:Shape:=⟨[(.pair (.int .i64) (.pair (.int .i64) (.pair (.list (.list (.int .i64))) (.pair (.list (.int .i64)) .unit)))),(.int .i64),(.list (.int .i64))],[(0,.v 0),(1,.v 1),(2,.v 2)],[]⟩
def znA:Shape:=⟨[(.int .i64)],[(0,.v 0)],[]⟩
def zpk:CE:=⟨28,znB,znA,fun X=>zom X.1 X.2.1 X.2.2⟩
theorem ztm:CE.ok Try.prog zpk:=CE.of (Γ:=[]) (by kernel_rfl) zcn (GOK.nil) ⟨[(2,⟨⟨[(.int .i64),(.int .i64)],[(1,.v 0),(7,.v 1)],[]⟩,[8,9,10,11,12,13,14,15,16,17,18,19,20,21,22,23,24],[],[0],1,[]⟩)],[],[(4,[(0,0),(0,1),(0,2),(0,3),(0,4),(0,5),(0,6),(0,7),(0,8),(0,9),(0,10),(0,11)])],[]⟩ Try.func28 rfl Try.ntmps28 (rs:=[.tmp 6]) rfl (sig:=znB) (out:=znA) rfl Try.call28 (fun X=>by kernel_rfl)

def zkI:Shape:=⟨[(.pair (.int .i64) (.pair (.int .i64) (.pair (.list (.list (.int .i64))) (.pair (.list (.int .i64)) .unit)))),(.list (.int .i64))],[(0,.v 0),(1,.v 1)],[]⟩
def zkH:Shape:=⟨[.bool],[(0,.v 0)],[]⟩
def zl8:CE:=⟨10,zkI,zkH,fun X=>zkg X.1 X.2⟩
theorem zrp:CE.ok Try.prog zl8:=CE.of (Γ:=[zpk]) (by kernel_rfl) zcn (GOK.cons ztm (GOK.nil)) ⟨[],[],[],[]⟩ Try.func10 rfl Try.ntmps10 (rs:=[.tmp 4]) rfl (sig:=zkI) (out:=zkH) rfl Try.call10 (fun X=>by kernel_rfl)

def znz:Shape:=⟨[(.pair (.int .i64) (.pair (.list (.int .i64)) .unit)),(.pair (.int .i64) (.pair (.list (.int .i64)) .unit))],[(0,.v 0),(1,.v 1)],[]⟩
def zny:Shape:=⟨[.bool],[(0,.v 0)],[]⟩
def zlf:CE:=⟨14,znz,zny,fun X=>zkf X.1 X.2⟩
theorem zpj:CE.ok Try.prog zlf:=CE.of (Γ:=[]) (by kernel_rfl) zcn (GOK.nil) ⟨[(4,⟨⟨[(.int .i64)],[(5,.v 0)],[]⟩,[4,20,21,22,23,24,25,26,27,28,29,30,31,32,33,34,35,36,37],[],[0,1],2,[]⟩)],[],[(6,[(0,0),(0,1),(0,2),(0,3),(0,4),(0,5),(0,6),(0,7),(0,8),(0,9),(0,10)])],[]⟩ Try.func14 rfl Try.ntmps14 (rs:=[.tmp 4]) rfl (sig:=znz) (out:=zny) rfl Try.call14 (fun X=>by kernel_rfl)

def zpe:Shape:=⟨[(.pair (.int .i64) (.pair (.int .i64) (.pair (.int .i64) (.pair (.list (.int .i64)) .unit)))),(.pair (.int .i64) (.pair (.list (.int .i64)) .unit))],[(0,.v 0),(1,.v 1)],[]⟩
def zpd:Shape:=⟨[.bool],[(0,.v 0)],[]⟩
def zmW:CE:=⟨12,zpe,zpd,fun X=>zpc X.1 X.2⟩
theorem zqo:CE.ok Try.prog zmW:=CE.of (Γ:=[]) (by kernel_rfl) zcn (GOK.nil) ⟨[],[],[(1,[(0,0),(0,1),(0,2),(0,3),(0,4),(0,5),(0,6),(0,7),(0,8),(0,9),(0,10),(0,11),(0,12),(0,13),(0,14),(0,15),(0,16),(0,17),(0,18),(0,19),(0,20)])],[]⟩ Try.func12 rfl Try.ntmps12 (rs:=[.tmp 4]) rfl (sig:=zpe) (out:=zpd) rfl Try.call12 (fun X=>by kernel_rfl)

def zkA:Shape:=⟨[(.pair (.int .i64) (.pair (.int .i64) (.pair (.int .i64) (.pair (.list (.int .i64)) .unit)))),(.pair (.int .i64) (.pair (.list (.int .i64)) .unit))],[(0,.v 0),(1,.v 1)],[]⟩
def zkz:Shape:=⟨[(.pair (.int .i64) (.pair (.list (.int .i64)) .unit))],[(0,.v 0)],[]⟩
def zin:CE:=⟨13,zkA,zkz,fun X=>zfO X.1 X.2⟩
theorem zl0:CE.ok Try.prog zin:=CE.of (Γ:=[]) (by kernel_rfl) zcn (GOK.nil) ⟨[],[],[(3,[(0,0),(0,1),(0,2),(0,3),(0,4),(2,5),(0,6),(2,7)])],[]⟩ Try.func13 rfl Try.ntmps13 (rs:=[.cell 4 25]) rfl (sig:=zkA) (out:=zkz) rfl Try.call13 (fun X=>by kernel_rfl)

def znx:Shape:=⟨[(.list (.pair (.int .i64) (.pair (.int .i64) (.pair (.int .i64) (.pair (.list (.int .i64)) .unit))))),(.pair (.int .i64) (.pair (.list (.int .i64)) .unit)),(.pair (.int .i64) (.pair (.list (.int .i64)) .unit)),(.int .i64)],[(0,.v 0),(1,.v 1),(2,.v 2),(3,.v 3)],[]⟩
def znw:Shape:=⟨[.bool],[(0,.v 0)],[]⟩
def zpi:CE:=⟨11,znx,znw,fun X=>zol X.1 X.2.1 X.2.2.1 X.2.2.2⟩
theorem ztl:CE.ok Try.prog zpi:=CE.of (Γ:=[zlf,zmW,zin]) (by kernel_rfl) zcn (GOK.cons zpj (GOK.cons zqo (GOK.cons zl0 (GOK.nil)))) ⟨[(4,⟨⟨[(.int .i64),(.list (.pair (.int .i64) (.pair (.list (.int .i64)) .unit))),(.list (.int .i64))],[(9,.own 2),(10,.own 3),(11,.v 0)],[(2,.arr 25 1),(3,.arr 3 2)]⟩,[8,12,13,14,15,17,18,19,20,21,22,23,24,25,26,27,28,29,30,31,32,33,34,35,36,37,38,39,40,41,42,43,44,45,46,47,48,49,50,51,52,53,54,55,56,57,58,59,60,61,62,63,64,65,66,67,68,69,70,71,72,73,74,75,76,77,78,79,80,81,82,83,84,85,86,87,88],[],[0,1],4,[]⟩),(11,⟨⟨[(.int .i64),(.list (.pair (.int .i64) (.pair (.list (.int .i64)) .unit))),(.list (.int .i64))],[(9,.own 2),(10,.own 3),(13,.v 0)],[(2,.arr 25 1),(3,.arr 3 2)]⟩,[14,15,20,24,30,32,37,39,43,44,45,46,47,48,49,50,51,52,53,54,55,56,57,58,59,60,61,62,63,64,65,66,67,68,69,70,71,72,73,74,75,76,77,78,79,80,81,82,83,84,85,86,87,88],[],[0,1],4,[]⟩)],[(14,⟨⟨[.bool],[(67,.v 0)],[]⟩,[58,59,60,61,62,63,64,65,66],[],[0,1,2,3],4,[]⟩),(15,⟨⟨[(.int .i64),(.list (.int .i64))],[(15,.ptr 4 0)],[(4,.box 25 [.v 0,.v 1])]⟩,[68,69,70,71,72,73,74,75,76],[],[0,1,2,3],5,[]⟩)],[(6,[(0,0),(0,1),(0,2),(0,3),(0,4),(1,5),(0,6)]),(13,[(0,0),(0,1),(0,2),(0,3),(0,4),(0,5),(0,6),(0,7),(1,8),(0,9)])],[(15,(.one 0 (.one 1 (.one 2 (.one 4 (.one 5 (.one 6 (.live [8,10] (.rd 3 [8,10] (.rd 7 [8,10] (.alt 2 8 (.leaf [(1,9),(2,10)]) (.alt 1 9 (.alt 2 8 (.leaf [(2,10)]) .stop) .stop))))))))))))]⟩ Try.func11 rfl Try.ntmps11 (rs:=[.tmp 8]) rfl (sig:=znx) (out:=znw) rfl Try.call11 (fun X=>by kernel_rfl)

def zhI:Shape:=⟨[(.list (.pair (.int .i64) (.pair (.int .i64) (.pair (.int .i64) (.pair (.list (.int .i64)) .unit))))),(.pair (.int .i64) (.pair (.list (.int .i64)) .unit)),(.pair (.int .i64) (.pair (.list (.int .i64)) .unit))],[(0,.v 0),(1,.v 1),(2,.v 2)],[]⟩
def zhH:Shape:=⟨[.bool],[(0,.v 0)],[]⟩
def zfn:CE:=⟨3,zhI,zhH,fun X=>zep X.1 X.2.1 X.2.2⟩
theorem znW:CE.ok Try.prog zfn:=CE.of (Γ:=[znJ,zjO,znr,zpn,zpr,zqp,zl8,zpi,zmW,zin,zlf]) (by kernel_rfl) zcn (GOK.cons zsz (GOK.cons zpB (GOK.cons zsg (GOK.cons ztn (GOK.cons zto (GOK.cons zuI (GOK.cons zrp (GOK.cons ztl (GOK.cons zqo (GOK.cons zl0 (GOK.cons zpj (GOK.nil)))))))))))) ⟨[(10,⟨⟨[(.int .i64)],[(14,.v 0)],[]⟩,[6,15,16,17,76,77,78,79,80,81,82,83,84,85,86,87,88,89,90,91,92,93,94,95,96,97,98,99,100,101,102,103,104,105,106,107,108,109],[],[0,1,2,3],4,[]⟩),(33,⟨⟨[(.int .i64),(.int .i64),(.list (.int .i64))],[(20,.ptr 4 0),(21,.v 0)],[(4,.box 25 [.v 1,.v 2])]⟩,[6,22,175,176,177,178,179,180,181,182,183,184,185,186,187,188,189,190,191,192,193,194,195,196,197,198,199,200,201,202,203,204,205,206,207,208,209,210,211,212,213,214],[],[0,1,2,3],5,[]⟩)],[(23,⟨⟨[.bool],[(140,.v 0)],[]⟩,[136,137,138,139],[],[0,1,2,3],4,[]⟩)],[(16,[(0,0),(0,1),(0,2),(0,3),(0,4),(1,5),(0,6)]),(21,[(0,0),(0,1),(0,2),(0,3),(0,4),(0,5),(0,6),(1,7),(0,8)]),(37,[(0,0),(0,1),(0,2),(0,3),(0,4),(0,5),(0,6),(0,7),(1,8),(0,9)]),(40,[(0,0),(0,1),(0,2),(0,3),(0,4),(0,5),(0,6),(0,7),(1,8),(2,9)])],[]⟩ Try.func3 rfl Try.ntmps3 (rs:=[.tmp 6]) rfl (sig:=zhI) (out:=zhH) rfl Try.call3 (fun X=>by kernel_rfl)

end
end Go.Proofs.Ythklckmbgpijoaa.stackWaysW
