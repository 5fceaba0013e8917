import Derived.Test.YtmogekkikaelhaaParikhToldD
import Derived.Test.YtmogekkikaelhaaProg
import Derived.KernelRfl
import Derived.Shelf.Abstract
import Derived.WalkKit
import Derived.Deep.QuietTactic
import Derived.BigQuiet
import Derived.IntWalk
import Derived.StillTailTactics
set_option maxHeartbeats 1000000
set_option maxRecDepth 20000
set_option linter.unusedSimpArgs false
set_option linter.unusedVariables false
set_option linter.unusedSectionVars false
namespace Go.Proofs.Ytmogekkikaelhaa.parikhToldW
open Go Go.Ab
noncomputable section
theorem zto:SzT Try.prog 3 ((.int .i64)):=SzT.ofTI (dsc:=false) (size:=1) (bytes:=8) (z := .int .i64 0) (TI.of Try.underlying3 rfl (by kernel_rfl)) rfl rfl
theorem zsd:SzT Try.prog 59 ((.pair (.int .i64) (.pair (.int .i64) (.pair (.int .i64) .unit)))):=SzT.ofTI (dsc:=true) (size:=3) (bytes:=24) (z := .agg ⟨[.int .i64 0,.int .i64 0,.int .i64 0]⟩) (TI.of Try.underlying59 rfl (by kernel_rfl)) rfl rfl
def te3:TE:=⟨3,.int .i64,false,1,8,.int .i64 0,some (.int .i64)⟩
theorem zvm:TEok Try.prog te3:=⟨TI.of Try.underlying3 rfl (by kernel_rfl),Try.underlying3,fun t h=>by cases h;exact ⟨rfl,rfl,by decide,rfl⟩⟩
def te4:TE:=⟨4,.bool,false,1,1,.bool false,some .bool⟩
theorem zvn:TEok Try.prog te4:=⟨TI.of Try.underlying4 rfl (by kernel_rfl),Try.underlying4,fun t h=>by cases h;exact ⟨rfl,rfl,by decide,rfl⟩⟩
def te22:TE:=⟨22,.slice 40,false,1,24,.slice none 0 0,some (.list (.pair (.int .i64) (.pair (.list (.int .i64)) .unit)))⟩
theorem zul:TEok Try.prog te22:=⟨TI.of Try.underlying22 rfl (by kernel_rfl),Try.underlying22,fun t h=>by cases h;exact ⟨rfl,rfl,by decide,rfl⟩⟩
def te24:TE:=⟨24,.struct [(0,3),(1,3),(2,22)] none,true,3,40,.agg ⟨[.int .i64 0,.int .i64 0,.slice none 0 0]⟩,some (.pair (.int .i64) (.pair (.int .i64) (.pair (.list (.pair (.int .i64) (.pair (.list (.int .i64)) .unit))) .unit)))⟩
theorem zum:TEok Try.prog te24:=⟨TI.of Try.underlying24 rfl (by kernel_rfl),⟨⟨_,Try.underlying24,rfl⟩,fun t h=>by cases h⟩,fun t h=>by cases h;exact ⟨rfl,rfl,by decide,rfl⟩⟩
def te25:TE:=⟨25,.slice 3,false,1,24,.slice none 0 0,some (.list (.int .i64))⟩
theorem zun:TEok Try.prog te25:=⟨TI.of Try.underlying25 rfl (by kernel_rfl),Try.underlying25,fun t h=>by cases h;exact ⟨rfl,rfl,by decide,rfl⟩⟩
def te26:TE:=⟨26,.int .i64,false,1,8,.int .i64 0,some (.int .i64)⟩
theorem zuo:TEok Try.prog te26:=⟨TI.of Try.underlying26 rfl (by kernel_rfl),Try.underlying26,fun t h=>by cases h;exact ⟨rfl,rfl,by decide,rfl⟩⟩
def te36:TE:=⟨36,.other,false,1,8,.nilFunc,none⟩
theorem zup:TEok Try.prog te36:=⟨TI.of Try.underlying36 rfl (by kernel_rfl),trivial,fun t h=>by cases h⟩
def te40:TE:=⟨40,.struct [(0,3),(1,25)] none,true,2,32,.agg ⟨[.int .i64 0,.slice none 0 0]⟩,some (.pair (.int .i64) (.pair (.list (.int .i64)) .unit))⟩
theorem zuq:TEok Try.prog te40:=⟨TI.of Try.underlying40 rfl (by kernel_rfl),⟨⟨_,Try.underlying40,rfl⟩,fun t h=>by cases h⟩,fun t h=>by cases h;exact ⟨rfl,rfl,by decide,rfl⟩⟩
def te42:TE:=⟨42,.slice 45,false,1,24,.slice none 0 0,some (.list (.list (.list (.int .i64))))⟩
theorem zur:TEok Try.prog te42:=⟨TI.of Try.underlying42 rfl (by kernel_rfl),Try.underlying42,fun t h=>by cases h;exact ⟨rfl,rfl,by decide,rfl⟩⟩
def te44:TE:=⟨44,.struct [(0,24),(3,25),(4,42)] none,true,5,88,.agg ⟨[.int .i64 0,.int .i64 0,.slice none 0 0,.slice none 0 0,.slice none 0 0]⟩,some (.pair (.pair (.int .i64) (.pair (.int .i64) (.pair (.list (.pair (.int .i64) (.pair (.list (.int .i64)) .unit))) .unit))) (.pair (.list (.int .i64)) (.pair (.list (.list (.list (.int .i64)))) .unit)))⟩
theorem zus:TEok Try.prog te44:=⟨TI.of Try.underlying44 rfl (by kernel_rfl),⟨⟨_,Try.underlying44,rfl⟩,fun t h=>by cases h⟩,fun t h=>by cases h;exact ⟨rfl,rfl,by decide,rfl⟩⟩
def te45:TE:=⟨45,.slice 25,false,1,24,.slice none 0 0,some (.list (.list (.int .i64)))⟩
theorem zut:TEok Try.prog te45:=⟨TI.of Try.underlying45 rfl (by kernel_rfl),Try.underlying45,fun t h=>by cases h;exact ⟨rfl,rfl,by decide,rfl⟩⟩
def te49:TE:=⟨49,.other,false,1,8,.pointer none,none⟩
theorem zuu:TEok Try.prog te49:=⟨TI.of Try.underlying49 rfl (by kernel_rfl),trivial,fun t h=>by cases h⟩
def te56:TE:=⟨56,.struct [(0,24),(3,25),(4,53),(5,54)] none,true,6,80,.agg ⟨[.int .i64 0,.int .i64 0,.slice none 0 0,.slice none 0 0,.map none,.map none]⟩,none⟩
theorem zux:TEok Try.prog te56:=⟨TI.of Try.underlying56 rfl (by kernel_rfl),⟨⟨_,Try.underlying56,rfl⟩,fun t h=>by cases h⟩,fun t h=>by cases h⟩
def te59:TE:=⟨59,.array 3 3,true,3,24,.agg ⟨[.int .i64 0,.int .i64 0,.int .i64 0]⟩,some (.pair (.int .i64) (.pair (.int .i64) (.pair (.int .i64) .unit)))⟩
theorem zuy:TEok Try.prog te59:=⟨TI.of Try.underlying59 rfl (by kernel_rfl),Try.underlying59,fun t h=>by cases h;exact ⟨rfl,rfl,by decide,rfl⟩⟩
def te61:TE:=⟨61,.struct [(0,3),(1,25)] none,true,2,32,.agg ⟨[.int .i64 0,.slice none 0 0]⟩,some (.pair (.int .i64) (.pair (.list (.int .i64)) .unit))⟩
theorem zuz:TEok Try.prog te61:=⟨TI.of Try.underlying61 rfl (by kernel_rfl),⟨⟨_,Try.underlying61,rfl⟩,fun t h=>by cases h⟩,fun t h=>by cases h;exact ⟨rfl,rfl,by decide,rfl⟩⟩
def te53:TE:=⟨53,.map 59 3 ((.pair (.int .i64) (.pair (.int .i64) (.pair (.int .i64) .unit)))),false,1,8,.map none,none⟩
theorem zuv:TEok Try.prog te53:=⟨TI.of Try.underlying53 rfl (by kernel_rfl),⟨Try.underlying53,SK.ofKey (d:=16) (KeyT.array zsd Try.underlying59 (KeyT.int zto Try.underlying3) rfl) (by decide) rfl rfl⟩,fun t h=>by cases h⟩
def te54:TE:=⟨54,.map 59 61 ((.pair (.int .i64) (.pair (.int .i64) (.pair (.int .i64) .unit)))),false,1,8,.map none,none⟩
theorem zuw:TEok Try.prog te54:=⟨TI.of Try.underlying54 rfl (by kernel_rfl),⟨Try.underlying54,SK.ofKey (d:=16) (KeyT.array zsd Try.underlying59 (KeyT.int zto Try.underlying3) rfl) (by decide) rfl rfl⟩,fun t h=>by cases h⟩
def TT:List TE:=[te3,te4,te22,te24,te25,te26,te36,te40,te42,te44,te45,te49,te56,te59,te61,te53,te54]
theorem zdA:TOK Try.prog TT:=TOK.cons zvm (TOK.cons zvn (TOK.cons zul (TOK.cons zum (TOK.cons zun (TOK.cons zuo (TOK.cons zup (TOK.cons zuq (TOK.cons zur (TOK.cons zus (TOK.cons zut (TOK.cons zuu (TOK.cons zux (TOK.cons zuy (TOK.cons zuz (TOK.cons zuv (TOK.cons zuw (TOK.nil)))))))))))))))))

def zf3:Shape:=⟨[(.int .i64),(.pair (.int .i64) (.pair (.int .i64) (.pair (.list (.pair (.int .i64) (.pair (.list (.int .i64)) .unit))) .unit)))],[(0,.v 0),(1,.addr 1)],[]⟩
def zf2:Shape:=⟨[.bool],[(0,.v 0)],[]⟩
def zgw:CE:=⟨19,zf3,zf2,fun X=>zew X.1 X.2⟩
theorem zk7:CE.ok Try.prog zgw:=CE.of (Γ:=[]) (by kernel_rfl) zdA (GOK.nil) ⟨[],[],[],[]⟩ Try.func19 rfl Try.ntmps19 (rs:=[.tmp 3]) rfl (sig:=zf3) (out:=zf2) rfl Try.call19 (fun X=>by kernel_rfl)

def zdT:Shape:=⟨[(.list (.int .i64)),(.pair (.int .i64) (.pair (.int .i64) (.pair (.list (.pair (.int .i64) (.pair (.list (.int .i64)) .unit))) .unit)))],[(0,.v 0),(1,.fn 19 [.addr 1])],[]⟩
def zdS:Shape:=⟨[(.int .i64)],[(0,.v 0)],[]⟩
def zeo:CE:=⟨20,zdT,zdS,fun X=>zgg X.1 X.2⟩
theorem zij:CE.ok Try.prog zeo:=CE.of (Γ:=[zgw]) (by kernel_rfl) zdA (GOK.cons zk7 (GOK.nil)) ⟨[(2,⟨⟨[(.int .i64)],[(8,.v 0)],[]⟩,[4,5,9,10,11,12,13,14,15,16,17,18],[],[],0,[]⟩)],[],[],[]⟩ Try.func20 rfl Try.ntmps20 (rs:=[.tmp 4]) rfl (sig:=zdT) (out:=zdS) rfl Try.call20 (fun X=>by kernel_rfl)

def zc0:Shape:=⟨[(.list (.int .i64)),(.pair (.int .i64) (.pair (.int .i64) (.pair (.list (.pair (.int .i64) (.pair (.list (.int .i64)) .unit))) .unit)))],[(0,.v 0),(1,.fn 19 [.addr 1])],[]⟩
def zcZ:Shape:=⟨[.bool],[(0,.v 0)],[]⟩
def zc6:CE:=⟨15,zc0,zcZ,fun X=>zcD X.1 X.2⟩
theorem zgk:CE.ok Try.prog zc6:=CE.of (Γ:=[zeo]) (by kernel_rfl) zdA (GOK.cons zij (GOK.nil)) ⟨[],[],[],[]⟩ Try.func15 rfl Try.ntmps15 (rs:=[.tmp 4]) rfl (sig:=zc0) (out:=zcZ) rfl Try.call15 (fun X=>by kernel_rfl)

def zhM:Shape:=⟨[(.pair (.int .i64) (.pair (.int .i64) (.pair (.list (.pair (.int .i64) (.pair (.list (.int .i64)) .unit))) .unit)))],[(0,.v 0)],[]⟩
def zhL:Shape:=⟨[(.int .i64)],[(0,.v 0)],[]⟩
def zfK:CE:=⟨11,zhM,zhL,fun X=>zbk X⟩
theorem ziG:CE.ok Try.prog zfK:=CE.of (Γ:=[zc6]) (by kernel_rfl) zdA (GOK.cons zgk (GOK.nil)) ⟨[(6,⟨⟨[(.int .i64)],[(30,.v 0)],[]⟩,[2,4,31,32,33,34,35,36,37,38,39,40,41,42,43,44,45,46,47,48,49,50,51,52],[],[0],1,[]⟩)],[],[],[]⟩ Try.func11 rfl Try.ntmps11 (rs:=[.tmp 2]) rfl (sig:=zhM) (out:=zhL) rfl Try.call11 (fun X=>by kernel_rfl)

def zeJ:Shape:=⟨[(.int .i64),(.list (.int .i64)),(.int .i64)],[(0,.v 0),(1,.v 1),(2,.v 2)],[]⟩
def zeI:Shape:=⟨[(.int .i64)],[(0,.v 0)],[]⟩
def zfr:CE:=⟨12,zeJ,zeI,fun X=>zdj X.1 X.2.1 X.2.2⟩
theorem zjt:CE.ok Try.prog zfr:=CE.of (Γ:=[]) (by kernel_rfl) zdA (GOK.nil) ⟨[(5,⟨⟨[(.int .i64),(.int .i64)],[(7,.v 0),(16,.v 1)],[]⟩,[6,9,17,18,19,20,21,22,23,24,25,26,27,28,29],[],[],0,[]⟩)],[],[],[]⟩ Try.func12 rfl Try.ntmps12 (rs:=[.tmp 6]) rfl (sig:=zeJ) (out:=zeI) rfl Try.call12 (fun X=>by kernel_rfl)

def zgf:Shape:=⟨[(.list (.int .i64))],[(0,.v 0)],[]⟩
def zge:Shape:=⟨[(.list (.int .i64))],[(0,.own 0)],[(0,.arr 3 0)]⟩
def zg4:CE:=⟨13,zgf,zge,fun X=>zeR X⟩
theorem zlx:CE.ok Try.prog zg4:=CE.of (Γ:=[]) (by kernel_rfl) zdA (GOK.nil) ⟨[],[],[],[]⟩ Try.func13 rfl Try.ntmps13 (rs:=[.tmp 2]) rfl (sig:=zgf) (out:=zge) rfl Try.call13 (fun X=>by kernel_rfl)

def zeg:Shape:=⟨[(.int .i64)],[(0,.v 0)],[]⟩
def zef:Shape:=⟨[.bool],[(0,.v 0)],[]⟩
def zeG:CE:=⟨16,zeg,zef,fun X=>zcT X⟩
theorem ziX:CE.ok Try.prog zeG:=CE.of (Γ:=[]) (by kernel_rfl) zdA (GOK.nil) ⟨[],[],[],[]⟩ Try.func16 rfl Try.ntmps16 (rs:=[.tmp 2]) rfl (sig:=zeg) (out:=zef) rfl Try.call16 (fun X=>by kernel_rfl)

def zc8:Shape:=⟨[(.list (.int .i64))],[(0,.v 0),(1,.fn 16 [])],[]⟩
def zc7:Shape:=⟨[(.int .i64)],[(0,.v 0)],[]⟩
def zdx:CE:=⟨20,zc8,zc7,fun X=>zeS X⟩
theorem zg5:CE.ok Try.prog zdx:=CE.of (Γ:=[zeG]) (by kernel_rfl) zdA (GOK.cons ziX (GOK.nil)) ⟨[(2,⟨⟨[(.int .i64)],[(8,.v 0)],[]⟩,[4,5,9,10,11,12,13,14,15,16,17,18],[],[],0,[]⟩)],[],[],[]⟩ Try.func20 rfl Try.ntmps20 (rs:=[.tmp 4]) rfl (sig:=zc8) (out:=zc7) rfl Try.call20 (fun X=>by kernel_rfl)

def zcs:Shape:=⟨[(.list (.int .i64))],[(0,.v 0),(1,.fn 16 [])],[]⟩
def zcr:Shape:=⟨[.bool],[(0,.v 0)],[]⟩
def zcJ:CE:=⟨15,zcs,zcr,fun X=>zb8 X⟩
theorem zfz:CE.ok Try.prog zcJ:=CE.of (Γ:=[zdx]) (by kernel_rfl) zdA (GOK.cons zg5 (GOK.nil)) ⟨[],[],[],[]⟩ Try.func15 rfl Try.ntmps15 (rs:=[.tmp 4]) rfl (sig:=zcs) (out:=zcr) rfl Try.call15 (fun X=>by kernel_rfl)

def zj2:Shape:=⟨[(.int .i64),(.list (.int .i64))],[(0,.v 0),(1,.v 1)],[]⟩
def zj1:Shape:=⟨[(.int .i64)],[(0,.v 0)],[]⟩
def zlD:CE:=⟨21,zj2,zj1,fun X=>zkE X.1 X.2⟩
theorem zpm:CE.ok Try.prog zlD:=CE.of (Γ:=[]) (by kernel_rfl) zdA (GOK.nil) ⟨[(6,⟨⟨[(.int .i64)],[(18,.v 0)],[]⟩,[4,6,19,20,21,22,23,24,25,26,27,28,29],[],[],0,[]⟩)],[],[],[]⟩ Try.func21 rfl Try.ntmps21 (rs:=[.tmp 4]) rfl (sig:=zj2) (out:=zj1) rfl Try.call21 (fun X=>by kernel_rfl)

def zfe:Shape:=⟨[(.int .i64),(.int .i64),(.int .i64),(.int .i64),(.int .i64),(.list (.pair (.int .i64) (.pair (.list (.int .i64)) .unit))),(.list (.int .i64)),(.list (.pair (.int .i64) (.pair (.int .i64) (.pair (.int .i64) .unit)))),(.list (.int .i64)),(.list (.pair (.int .i64) (.pair (.int .i64) (.pair (.int .i64) .unit)))),(.list (.pair (.int .i64) (.pair (.list (.int .i64)) .unit)))],[(0,.ptr 100000 0),(1,.v 0),(2,.v 1),(3,.v 2)],[(100000,.box 56 [.v 3,.v 4,.v 5,.v 6,.own 100001,.own 100002]),(100001,.box 53 [.v 7,.v 8]),(100002,.box 54 [.v 9,.v 10])]⟩
def zfd:Shape:=⟨[(.int .i64),(.int .i64),(.int .i64),(.list (.pair (.int .i64) (.pair (.list (.int .i64)) .unit))),(.list (.int .i64)),(.list (.pair (.int .i64) (.pair (.int .i64) (.pair (.int .i64) .unit)))),(.list (.int .i64)),(.list (.pair (.int .i64) (.pair (.int .i64) (.pair (.int .i64) .unit)))),(.list (.pair (.int .i64) (.pair (.list (.int .i64)) .unit)))],[(0,.v 0)],[(100000,.box 56 [.v 1,.v 2,.v 3,.v 4,.own 100001,.own 100002]),(100001,.box 53 [.v 5,.v 6]),(100002,.box 54 [.v 7,.v 8])]⟩
def zcv:CE:=⟨23,zfe,zfd,fun X=>zbP X.1 X.2.1 X.2.2.1 X.2.2.2.1 X.2.2.2.2.1 X.2.2.2.2.2.1 X.2.2.2.2.2.2.1 X.2.2.2.2.2.2.2.1 X.2.2.2.2.2.2.2.2.1 X.2.2.2.2.2.2.2.2.2.1 X.2.2.2.2.2.2.2.2.2.2⟩
theorem zdD:CE.ok Try.prog zcv:=CE.of (Γ:=[]) (by kernel_rfl) zdA (GOK.nil) ⟨[],[],[],[]⟩ Try.func23 rfl Try.ntmps23 (rs:=[.tmp 8]) rfl (sig:=zfe) (out:=zfd) rfl Try.call23 (fun X=>by kernel_rfl)

def zey:Shape:=⟨[(.list (.int .i64)),(.int .i64),(.int .i64),(.int .i64),(.int .i64),(.list (.pair (.int .i64) (.pair (.list (.int .i64)) .unit))),(.list (.int .i64)),(.list (.pair (.int .i64) (.pair (.int .i64) (.pair (.int .i64) .unit)))),(.list (.int .i64)),(.list (.pair (.int .i64) (.pair (.int .i64) (.pair (.int .i64) .unit)))),(.list (.pair (.int .i64) (.pair (.list (.int .i64)) .unit)))],[(0,.ptr 100000 0),(1,.v 0),(2,.v 1),(3,.v 2)],[(100000,.box 56 [.v 3,.v 4,.v 5,.v 6,.own 100001,.own 100002]),(100001,.box 53 [.v 7,.v 8]),(100002,.box 54 [.v 9,.v 10])]⟩
def zex:Shape:=⟨[(.int .i64),(.list (.int .i64)),(.int .i64),(.int .i64),(.list (.pair (.int .i64) (.pair (.list (.int .i64)) .unit))),(.list (.int .i64)),(.list (.pair (.int .i64) (.pair (.int .i64) (.pair (.int .i64) .unit)))),(.list (.int .i64)),(.list (.pair (.int .i64) (.pair (.int .i64) (.pair (.int .i64) .unit)))),(.list (.pair (.int .i64) (.pair (.list (.int .i64)) .unit)))],[(0,.v 0),(1,.own 1)],[(1,.arr 3 1),(100000,.box 56 [.v 2,.v 3,.v 4,.v 5,.own 100001,.own 100002]),(100001,.box 53 [.v 6,.v 7]),(100002,.box 54 [.v 8,.v 9])]⟩
def zff:CE:=⟨25,zey,zex,LFix zcw⟩
theorem zjp:CE.ok Try.prog zff:=CE.ofRec (Γ:=[zcv]) (by kernel_rfl) zdA (GOK.cons zdD (GOK.nil)) ⟨[(8,⟨⟨[(.int .i64),(.int .i64),(.int .i64),(.int .i64),(.list (.pair (.int .i64) (.pair (.list (.int .i64)) .unit))),(.list (.int .i64)),(.list (.pair (.int .i64) (.pair (.int .i64) (.pair (.int .i64) .unit)))),(.list (.int .i64)),(.list (.pair (.int .i64) (.pair (.int .i64) (.pair (.int .i64) .unit)))),(.list (.pair (.int .i64) (.pair (.list (.int .i64)) .unit))),(.list (.int .i64))],[(0,.ptr 100000 0),(10,.v 0),(11,.own 0),(13,.v 1)],[(100000,.box 56 [.v 2,.v 3,.v 4,.v 5,.own 100001,.own 100002]),(100001,.box 53 [.v 6,.v 7]),(100002,.box 54 [.v 8,.v 9]),(0,.arr 3 10)]⟩,[14,15,16,27,28,29,30,31,32,33,34,35,36,37,38,39,40,41,42,43,44,45,46,47,48,49,50,51,52,53,54,55,56,57,58,59,60,61,62,63,64,65,66,67,68,69,70,71,72,73,74,75,76,77,78,79,80,81,82,83,84,85,86,87],[],[],1,[]⟩)],[(14,⟨⟨[(.int .i64),(.int .i64),(.int .i64),(.list (.pair (.int .i64) (.pair (.list (.int .i64)) .unit))),(.list (.int .i64)),(.list (.pair (.int .i64) (.pair (.int .i64) (.pair (.int .i64) .unit)))),(.list (.int .i64)),(.list (.pair (.int .i64) (.pair (.int .i64) (.pair (.int .i64) .unit)))),(.list (.pair (.int .i64) (.pair (.list (.int .i64)) .unit)))],[(0,.ptr 100000 0),(14,.v 0)],[(100000,.box 56 [.v 1,.v 2,.v 3,.v 4,.own 100001,.own 100002]),(100001,.box 53 [.v 5,.v 6]),(100002,.box 54 [.v 7,.v 8])]⟩,[32,33,34,35,36,37,38,39,40,41,42,43,44,45,46,47,48,49,50,51,52,53,54,55,56,57,58,59,60,61,62,63,64],[],[0],1,[]⟩),(13,⟨⟨[.bool],[(64,.v 0)],[]⟩,[50,51,52,53,54,55,56,57,58,59,60,61,62,63],[],[0],1,[]⟩)],[],[]⟩ Try.func25 rfl Try.ntmps25 (rs:=[.tmp 8,.tmp 9]) rfl (sig:=zey) (out:=zex) rfl Try.call25 (d:=zcw) (fun rc X=>by kernel_rfl)

def zf6:Shape:=⟨[(.pair (.int .i64) (.pair (.int .i64) (.pair (.list (.pair (.int .i64) (.pair (.list (.int .i64)) .unit))) .unit))),(.list (.int .i64))],[(0,.v 0),(1,.v 1)],[]⟩
def zf5:Shape:=⟨[(.int .i64),(.int .i64),(.list (.pair (.int .i64) (.pair (.list (.int .i64)) .unit))),(.list (.int .i64)),(.list (.pair (.int .i64) (.pair (.int .i64) (.pair (.int .i64) .unit)))),(.list (.int .i64)),(.list (.pair (.int .i64) (.pair (.int .i64) (.pair (.int .i64) .unit)))),(.list (.pair (.int .i64) (.pair (.list (.int .i64)) .unit)))],[(0,.ptr 0 0)],[(0,.box 56 [.v 0,.v 1,.v 2,.v 3,.own 24,.own 25]),(24,.box 53 [.v 4,.v 5]),(25,.box 54 [.v 6,.v 7])]⟩
def zgE:CE:=⟨22,zf6,zf5,fun X=>zez X.1 X.2⟩
theorem zk8:CE.ok Try.prog zgE:=CE.of (Γ:=[zff,zcv]) (by kernel_rfl) zdA (GOK.cons zjp (GOK.cons zdD (GOK.nil))) ⟨[(3,⟨⟨[(.int .i64),(.int .i64),(.int .i64),(.list (.pair (.int .i64) (.pair (.list (.int .i64)) .unit))),(.list (.int .i64)),(.list (.pair (.int .i64) (.pair (.int .i64) (.pair (.int .i64) .unit)))),(.list (.int .i64)),(.list (.pair (.int .i64) (.pair (.int .i64) (.pair (.int .i64) .unit)))),(.list (.pair (.int .i64) (.pair (.list (.int .i64)) .unit)))],[(5,.ptr 3 0),(6,.v 0)],[(3,.box 56 [.v 1,.v 2,.v 3,.v 4,.own 1,.own 2]),(1,.box 53 [.v 5,.v 6]),(2,.box 54 [.v 7,.v 8])]⟩,[7,8,9,10,11,12,13,16,17,18,19,20,21,22,23,24,25,26,27,28,29,30,31,32,33,34,35,36,37,38,39,40,41,42,43,44,45,46,47,48,49,50,51,52,53,54,55,56,57,58,59,60,61,62,63,64,65,66,67,68,69,70,71,72,73,74,75,76,77,78,79,80,81,82,83,84,85,86,87,88,89,90,91,92,93,94,95,96],[],[0],4,[]⟩),(6,⟨⟨[.bool,(.int .i64),(.int .i64),(.list (.pair (.int .i64) (.pair (.list (.int .i64)) .unit))),(.list (.int .i64)),(.list (.pair (.int .i64) (.pair (.int .i64) (.pair (.int .i64) .unit)))),(.list (.int .i64)),(.list (.pair (.int .i64) (.pair (.int .i64) (.pair (.int .i64) .unit)))),(.list (.pair (.int .i64) (.pair (.list (.int .i64)) .unit)))],[(5,.ptr 3 0),(7,.v 0)],[(3,.box 56 [.v 1,.v 2,.v 3,.v 4,.own 1,.own 2]),(1,.box 53 [.v 5,.v 6]),(2,.box 54 [.v 7,.v 8])]⟩,[8,9,10,11,12,13,16,17,18,19,26,27,28,29,30,31,32,33,34,35,36,37,38,39,40,41,42,43,44,45,46,47,48,49,50,51,52,53,54,55,56,57,58,59,60,61,62,63,64,65,66,67,68,69,70,71,72,73,74,75,76,77,78,79,80,81,82,83,84,85,86,87,88,89,90,91,92,93,94,95,96],[],[0],4,[]⟩),(9,⟨⟨[.bool,(.int .i64),(.int .i64),(.int .i64),(.list (.pair (.int .i64) (.pair (.list (.int .i64)) .unit))),(.list (.int .i64)),(.list (.pair (.int .i64) (.pair (.int .i64) (.pair (.int .i64) .unit)))),(.list (.int .i64)),(.list (.pair (.int .i64) (.pair (.int .i64) (.pair (.int .i64) .unit)))),(.list (.pair (.int .i64) (.pair (.list (.int .i64)) .unit)))],[(5,.ptr 3 0),(7,.v 0),(8,.v 1)],[(3,.box 56 [.v 2,.v 3,.v 4,.v 5,.own 1,.own 2]),(1,.box 53 [.v 6,.v 7]),(2,.box 54 [.v 8,.v 9])]⟩,[9,10,11,12,13,16,17,18,19,27,28,29,30,31,32,33,34,35,36,37,38,39,40,41,42,43,44,45,46,47,48,49,50,51,52,53,54,55,56,57,58,59,60,61,62,63,64,65,66,67,68,69,70,71,72,73,74,75,76,77,78,79,80,81,82,83,84,85,86,87,88,89,90,91,92,93,94,95,96],[],[0],4,[]⟩),(12,⟨⟨[.bool,(.int .i64),(.int .i64),(.int .i64),(.list (.pair (.int .i64) (.pair (.list (.int .i64)) .unit))),(.list (.int .i64)),(.list (.pair (.int .i64) (.pair (.int .i64) (.pair (.int .i64) .unit)))),(.list (.int .i64)),(.list (.pair (.int .i64) (.pair (.int .i64) (.pair (.int .i64) .unit)))),(.list (.pair (.int .i64) (.pair (.list (.int .i64)) .unit)))],[(5,.ptr 3 0),(7,.v 0),(38,.v 1)],[(3,.box 56 [.v 2,.v 3,.v 4,.v 5,.own 1,.own 2]),(1,.box 53 [.v 6,.v 7]),(2,.box 54 [.v 8,.v 9])]⟩,[9,10,11,12,13,16,17,18,19,39,40,41,42,43,44,45,46,47,48,49,50,51,52,53,54,55,56,57,58,59,60,61,62,63,64,65,66,67,68,69,70,71,72,73,74,75,76,77,78,79,80,81,82,83,84,85,86,87,88,89,90,91,92,93,94,95,96],[],[0],4,[]⟩)],[(16,⟨⟨[.bool,(.int .i64),(.int .i64),(.list (.pair (.int .i64) (.pair (.list (.int .i64)) .unit))),(.list (.int .i64)),(.list (.pair (.int .i64) (.pair (.int .i64) (.pair (.int .i64) .unit)))),(.list (.int .i64)),(.list (.pair (.int .i64) (.pair (.int .i64) (.pair (.int .i64) .unit)))),(.list (.pair (.int .i64) (.pair (.list (.int .i64)) .unit)))],[(5,.ptr 3 0),(75,.v 0)],[(3,.box 56 [.v 1,.v 2,.v 3,.v 4,.own 1,.own 2]),(1,.box 53 [.v 5,.v 6]),(2,.box 54 [.v 7,.v 8])]⟩,[44,61,62,63,64,65,66,67,68,69,70,71,72,73,74],[],[0,4,6,7],8,[]⟩),(17,⟨⟨[(.int .i64),(.int .i64),(.list (.pair (.int .i64) (.pair (.list (.int .i64)) .unit))),(.list (.int .i64)),(.list (.pair (.int .i64) (.pair (.int .i64) (.pair (.int .i64) .unit)))),(.list (.int .i64)),(.list (.pair (.int .i64) (.pair (.int .i64) (.pair (.int .i64) .unit)))),(.list (.pair (.int .i64) (.pair (.list (.int .i64)) .unit)))],[(5,.ptr 3 0)],[(3,.box 56 [.v 0,.v 1,.v 2,.v 3,.own 1,.own 2]),(1,.box 53 [.v 4,.v 5]),(2,.box 54 [.v 6,.v 7])]⟩,[12,13,43,51,53,76,77,78,79,80,81,82,83,84,85,86,87,88,89,90,91,92,93,94,95],[6,7],[0,4],8,[]⟩)],[],[(17,(.pnd (.frz 13 (.pair (.int .i64) (.pair (.int .i64) (.pair (.int .i64) .unit))) (.one 0 (.one 1 (.one 2 (.one 5 (.one 6 (.one 7 (.one 10 (.one 11 (.one 13 (.one 14 (.one 15 (.rd 1 3 [16,17,18,19,20,21] (.rd 2 4 [16,17,18,19,20,21] (.rd 1 8 [16,17,18,19,20,21] (.rd 2 9 [19,20,21] (.alt 0 12 (.alt 2 16 (.one 17 (.alt 2 18 (.alt 2 19 (.one 20 (.alt 2 21 .leaf .stop)) .stop) .stop)) .stop) (.alt 2 16 (.one 17 (.rd 0 12 [18,19,20,21] (.alt 2 18 (.alt 2 19 (.one 20 (.alt 2 21 .leaf .stop)) .stop) .stop))) .stop))))))))))))))))))))]⟩ Try.func22 rfl Try.ntmps22 (rs:=[.tmp 4]) rfl (sig:=zf6) (out:=zf5) rfl Try.call22 (fun X=>by kernel_rfl)

def zc4:Shape:=⟨[(.int .i64),(.int .i64),(.int .i64),(.int .i64),(.int .i64),(.list (.pair (.int .i64) (.pair (.list (.int .i64)) .unit))),(.list (.int .i64)),(.list (.int .i64)),(.list (.pair (.int .i64) (.pair (.int .i64) (.pair (.int .i64) .unit)))),(.list (.int .i64)),(.list (.pair (.int .i64) (.pair (.int .i64) (.pair (.int .i64) .unit)))),(.list (.pair (.int .i64) (.pair (.list (.int .i64)) .unit)))],[(0,.ptr 100000 0),(1,.v 0),(2,.v 1),(3,.v 2),(4,.own 100001)],[(100000,.box 56 [.v 3,.v 4,.v 5,.v 6,.own 100002,.own 100003]),(100001,.arr 3 7),(100002,.box 53 [.v 8,.v 9]),(100003,.box 54 [.v 10,.v 11])]⟩
def zc3:Shape:=⟨[(.list (.int .i64)),(.int .i64),(.int .i64),(.list (.pair (.int .i64) (.pair (.list (.int .i64)) .unit))),(.list (.int .i64)),(.list (.pair (.int .i64) (.pair (.int .i64) (.pair (.int .i64) .unit)))),(.list (.int .i64)),(.list (.pair (.int .i64) (.pair (.int .i64) (.pair (.int .i64) .unit)))),(.list (.pair (.int .i64) (.pair (.list (.int .i64)) .unit)))],[(0,.own 0)],[(0,.arr 3 0),(100000,.box 56 [.v 1,.v 2,.v 3,.v 4,.own 100002,.own 100003]),(100002,.box 53 [.v 5,.v 6]),(100003,.box 54 [.v 7,.v 8])]⟩
def zdp:CE:=⟨24,zc4,zc3,LFix zbF⟩
theorem zgA:CE.ok Try.prog zdp:=CE.ofRec (Γ:=[]) (by kernel_rfl) zdA (GOK.nil) ⟨[(4,⟨⟨[(.int .i64),(.int .i64),(.int .i64),(.int .i64),(.list (.pair (.int .i64) (.pair (.list (.int .i64)) .unit))),(.list (.int .i64)),(.list (.int .i64)),(.list (.pair (.int .i64) (.pair (.int .i64) (.pair (.int .i64) .unit)))),(.list (.int .i64)),(.list (.pair (.int .i64) (.pair (.int .i64) (.pair (.int .i64) .unit)))),(.list (.pair (.int .i64) (.pair (.list (.int .i64)) .unit)))],[(0,.ptr 100000 0),(2,.v 0),(4,.own 2),(39,.v 1)],[(100000,.box 56 [.v 2,.v 3,.v 4,.v 5,.own 100002,.own 100003]),(2,.arr 3 6),(100002,.box 53 [.v 7,.v 8]),(100003,.box 54 [.v 9,.v 10])]⟩,[12,13,23,27,40,41,42,43,44,45,46,47,48,49,50,51,52,53,54,55,56,57,58,59,60,61,62,63,64,65,66,67,68,69,70,71,72],[],[0,1],3,[]⟩)],[(7,⟨⟨[(.int .i64),(.int .i64),(.list (.pair (.int .i64) (.pair (.list (.int .i64)) .unit))),(.list (.int .i64)),(.list (.int .i64)),(.list (.pair (.int .i64) (.pair (.int .i64) (.pair (.int .i64) .unit)))),(.list (.int .i64)),(.list (.pair (.int .i64) (.pair (.int .i64) (.pair (.int .i64) .unit)))),(.list (.pair (.int .i64) (.pair (.list (.int .i64)) .unit)))],[(0,.ptr 100000 0),(4,.own 3)],[(100000,.box 56 [.v 0,.v 1,.v 2,.v 3,.own 100002,.own 100003]),(3,.arr 3 4),(100002,.box 53 [.v 5,.v 6]),(100003,.box 54 [.v 7,.v 8])]⟩,[44,45,46,47,48,49,50,51,52,53,54,55,56,57,58,59,60,61,62,63,64,65,66],[2],[0,1],4,[]⟩)],[(3,[(0,0),(0,1),(0,2),(0,3),(0,4),(0,5),(0,6),(0,7),(0,8),(0,9),(0,10),(0,11)]),(7,[(0,0),(0,1),(0,2),(0,3),(0,4),(0,5),(0,6),(0,7),(0,8),(0,9),(0,10),(0,11),(0,12),(0,13),(0,14),(2,15),(0,16)])],[]⟩ Try.func24 rfl Try.ntmps24 (rs:=[.tmp 10]) rfl (sig:=zc4) (out:=zc3) rfl Try.call24 (d:=zbF) (fun rc X=>by kernel_rfl)

def zdK:Shape:=⟨[(.int .i64),(.int .i64),(.int .i64),(.int .i64),(.int .i64),(.list (.pair (.int .i64) (.pair (.list (.int .i64)) .unit))),(.list (.int .i64)),(.list (.pair (.int .i64) (.pair (.int .i64) (.pair (.int .i64) .unit)))),(.list (.int .i64)),(.list (.pair (.int .i64) (.pair (.int .i64) (.pair (.int .i64) .unit)))),(.list (.pair (.int .i64) (.pair (.list (.int .i64)) .unit)))],[(0,.ptr 100000 0),(1,.v 0),(2,.v 1),(3,.v 2),(4,.nil)],[(100000,.box 56 [.v 3,.v 4,.v 5,.v 6,.own 100001,.own 100002]),(100001,.box 53 [.v 7,.v 8]),(100002,.box 54 [.v 9,.v 10])]⟩
def zdJ:Shape:=⟨[(.list (.int .i64)),(.int .i64),(.int .i64),(.list (.pair (.int .i64) (.pair (.list (.int .i64)) .unit))),(.list (.int .i64)),(.list (.pair (.int .i64) (.pair (.int .i64) (.pair (.int .i64) .unit)))),(.list (.int .i64)),(.list (.pair (.int .i64) (.pair (.int .i64) (.pair (.int .i64) .unit)))),(.list (.pair (.int .i64) (.pair (.list (.int .i64)) .unit)))],[(0,.own 0)],[(0,.arr 3 0),(100000,.box 56 [.v 1,.v 2,.v 3,.v 4,.own 100001,.own 100002]),(100001,.box 53 [.v 5,.v 6]),(100002,.box 54 [.v 7,.v 8])]⟩
def zd8:CE:=⟨24,zdK,zdJ,fun X=>zbZ X.1 X.2.1 X.2.2.1 X.2.2.2.1 X.2.2.2.2.1 X.2.2.2.2.2.1 X.2.2.2.2.2.2.1 X.2.2.2.2.2.2.2.1 X.2.2.2.2.2.2.2.2.1 X.2.2.2.2.2.2.2.2.2.1 X.2.2.2.2.2.2.2.2.2.2⟩
theorem zh5:CE.ok Try.prog zd8:=CE.of (Γ:=[zdp]) (by kernel_rfl) zdA (GOK.cons zgA (GOK.nil)) ⟨[(4,⟨⟨[(.int .i64),(.int .i64),(.int .i64),(.int .i64),(.list (.pair (.int .i64) (.pair (.list (.int .i64)) .unit))),(.list (.int .i64)),(.list (.int .i64)),(.list (.pair (.int .i64) (.pair (.int .i64) (.pair (.int .i64) .unit)))),(.list (.int .i64)),(.list (.pair (.int .i64) (.pair (.int .i64) (.pair (.int .i64) .unit)))),(.list (.pair (.int .i64) (.pair (.list (.int .i64)) .unit)))],[(0,.ptr 100000 0),(2,.v 0),(4,.own 2),(39,.v 1)],[(100000,.box 56 [.v 2,.v 3,.v 4,.v 5,.own 100001,.own 100002]),(2,.arr 3 6),(100001,.box 53 [.v 7,.v 8]),(100002,.box 54 [.v 9,.v 10])]⟩,[12,13,27,40,41,42,43,44,45,46,47,48,49,50,51,52,53,54,55,56,57,58,59,60,61,62,63,64,65,66,67,68,69,70,71,72],[],[0,1],3,[]⟩)],[(7,⟨⟨[(.int .i64),(.int .i64),(.list (.pair (.int .i64) (.pair (.list (.int .i64)) .unit))),(.list (.int .i64)),(.list (.int .i64)),(.list (.pair (.int .i64) (.pair (.int .i64) (.pair (.int .i64) .unit)))),(.list (.int .i64)),(.list (.pair (.int .i64) (.pair (.int .i64) (.pair (.int .i64) .unit)))),(.list (.pair (.int .i64) (.pair (.list (.int .i64)) .unit)))],[(0,.ptr 100000 0),(4,.own 3)],[(100000,.box 56 [.v 0,.v 1,.v 2,.v 3,.own 100001,.own 100002]),(3,.arr 3 4),(100001,.box 53 [.v 5,.v 6]),(100002,.box 54 [.v 7,.v 8])]⟩,[44,45,46,47,48,49,50,51,52,53,54,55,56,57,58,59,60,61,62,63,64,65,66],[2],[0,1],4,[]⟩)],[(3,[(0,0),(0,1),(0,2),(0,3),(0,4),(0,5),(0,6),(0,7),(0,8),(0,9),(0,10),(0,11)]),(7,[(0,0),(0,1),(0,2),(0,3),(0,4),(0,5),(0,6),(0,7),(0,8),(0,9),(0,10),(0,11),(0,12),(0,13),(0,14),(2,15),(0,16)])],[]⟩ Try.func24 rfl Try.ntmps24 (rs:=[.tmp 10]) rfl (sig:=zdK) (out:=zdJ) rfl Try.call24 (fun X=>by kernel_rfl)

def zhO:Shape:=⟨[(.pair (.int .i64) (.pair (.int .i64) (.pair (.list (.pair (.int .i64) (.pair (.list (.int .i64)) .unit))) .unit))),(.list (.int .i64))],[(0,.v 0),(1,.v 1)],[]⟩
def zhN:Shape:=⟨[.bool,(.int .i64),(.list (.int .i64))],[(0,.own 0),(1,.v 0),(2,.v 1)],[(0,.arr 3 2)]⟩
def ziH:CE:=⟨17,zhO,zhN,fun X=>zbl X.1 X.2⟩
theorem zmZ:CE.ok Try.prog ziH:=CE.of (Γ:=[zd8,zcv,zfK,zlD,zgE]) (by kernel_rfl) zdA (GOK.cons zh5 (GOK.cons zdD (GOK.cons ziG (GOK.cons zpm (GOK.cons zk8 (GOK.nil)))))) ⟨[],[],[],[]⟩ Try.func17 rfl Try.ntmps17 (rs:=[.tmp 4,.tmp 5,.tmp 6]) rfl (sig:=zhO) (out:=zhN) rfl Try.call17 (fun X=>by kernel_rfl)

def zfq:Shape:=⟨[(.pair (.int .i64) (.pair (.int .i64) (.pair (.list (.pair (.int .i64) (.pair (.list (.int .i64)) .unit))) .unit))),(.pair (.int .i64) (.pair (.int .i64) (.pair (.list (.pair (.int .i64) (.pair (.list (.int .i64)) .unit))) .unit))),(.list (.int .i64)),(.list (.int .i64))],[(0,.ptr 100000 0),(1,.addr 0),(2,.ptr 100001 0),(3,.ptr 100002 0)],[(100000,.box 25 [.own 100003]),(100001,.box 25 [.own 100004]),(100002,.box 36 [.fn 14 [.ptr 100000 0,.addr 1,.ptr 100001 0,.ptr 100002 0]]),(100003,.arr 3 2),(100004,.arr 3 3)]⟩
def zfp:Shape:=⟨[.bool,(.list (.int .i64)),(.list (.int .i64)),(.pair (.int .i64) (.pair (.int .i64) (.pair (.list (.pair (.int .i64) (.pair (.list (.int .i64)) .unit))) .unit)))],[(0,.v 0)],[(100000,.box 25 [.own 50]),(50,.arr 3 1),(100001,.box 25 [.own 51]),(51,.arr 3 2),(100002,.box 36 [.fn 14 [.ptr 100000 0,.addr 3,.ptr 100001 0,.ptr 100002 0]])]⟩
def zf7:CE:=⟨14,zfq,zfp,LFix zcU⟩
theorem zkc:CE.ok Try.prog zf7:=CE.ofRec (Γ:=[zcJ,ziH]) (by kernel_rfl) zdA (GOK.cons zfz (GOK.cons zmZ (GOK.nil))) ⟨[(5,⟨⟨[(.int .i64),(.pair (.int .i64) (.pair (.int .i64) (.pair (.list (.pair (.int .i64) (.pair (.list (.int .i64)) .unit))) .unit))),(.list (.int .i64)),(.list (.int .i64))],[(0,.ptr 100000 0),(2,.ptr 100001 0),(3,.ptr 100002 0),(26,.v 0)],[(100000,.box 25 [.own 0]),(100001,.box 25 [.own 1]),(100002,.box 36 [.fn 14 [.ptr 100000 0,.addr 1,.ptr 100001 0,.ptr 100002 0]]),(0,.arr 3 2),(1,.arr 3 3)]⟩,[4,8,27,28,29,30,31,32,33,34,35,36,37,38,39,40,41,42,43,44,45,46,47,48,49,50,51,52,53,54,55,56,57],[100003,100004],[],2,[]⟩)],[],[(12,[(0,0),(0,1),(0,2),(0,3),(1,4),(2,5)])],[]⟩ Try.func14 rfl Try.ntmps14 (rs:=[.tmp 4]) rfl (sig:=zfq) (out:=zfp) rfl Try.call14 (d:=zcU) (fun rc X=>by kernel_rfl)

def zgU:Shape:=⟨[(.pair (.int .i64) (.pair (.int .i64) (.pair (.list (.pair (.int .i64) (.pair (.list (.int .i64)) .unit))) .unit))),(.list (.int .i64))],[(0,.v 0),(1,.v 1)],[]⟩
def zgT:Shape:=⟨[.bool,(.int .i64),(.list (.int .i64))],[(0,.own 0),(1,.v 0),(2,.v 1)],[(0,.arr 3 2)]⟩
def zhQ:CE:=⟨4,zgU,zgT,fun X=>zb6 X.1 X.2⟩
theorem zlO:CE.ok Try.prog zhQ:=CE.of (Γ:=[zf7,zfK,zfr,zg4]) (by kernel_rfl) zdA (GOK.cons zkc (GOK.cons ziG (GOK.cons zjt (GOK.cons zlx (GOK.nil))))) ⟨[],[],[(9,[(0,0),(3,1)])],[]⟩ Try.func4 rfl Try.ntmps4 (rs:=[.cell 4 25,.tmp 5,.tmp 6]) rfl (sig:=zgU) (out:=zgT) rfl Try.call4 (fun X=>by kernel_rfl)

def zi3:Shape:=⟨[(.pair (.int .i64) (.pair (.int .i64) (.pair (.list (.pair (.int .i64) (.pair (.list (.int .i64)) .unit))) .unit)))],[(0,.v 0)],[]⟩
def zi2:Shape:=⟨[(.int .i64)],[(0,.v 0)],[]⟩
def zjU:CE:=⟨5,zi3,zi2,fun X=>zi1 X⟩
theorem zn7:CE.ok Try.prog zjU:=CE.of (Γ:=[]) (by kernel_rfl) zdA (GOK.nil) ⟨[(6,⟨⟨[(.int .i64)],[(3,.v 0)],[]⟩,[2,4,5,28,29,30,31,32,33,34,35,36,37,38,39,40,41,42,43,44,45,46,47,48,49,50,51,52,53,54,55,56,57,58,59,60,61,62,63,64,65,66,67,68,69,70,71,72,73,74,75,76,77,78,79],[],[0],1,[]⟩),(14,⟨⟨[(.int .i64)],[(5,.v 0)],[]⟩,[2,54,55,56,57,58,59,60,61,62,63,64,65,66,67,68,69,70,71,72,73,74,75,76,77,78,79],[],[0,1],2,[]⟩)],[],[(16,[(0,0),(0,1),(0,2),(0,3),(0,4),(0,5),(0,6),(0,7),(0,8),(0,9),(0,10),(0,11),(0,12),(0,13),(0,14),(0,15),(0,16),(0,17),(0,18)])],[]⟩ Try.func5 rfl Try.ntmps5 (rs:=[.tmp 2]) rfl (sig:=zi3) (out:=zi2) rfl Try.call5 (fun X=>by kernel_rfl)

def zhU:Shape:=⟨[(.int .i64),(.list (.int .i64)),(.int .i64)],[(0,.v 0),(1,.v 1),(2,.v 2)],[]⟩
def zhT:Shape:=⟨[(.int .i64)],[(0,.v 0)],[]⟩
def zi7:CE:=⟨6,zhU,zhT,fun X=>zhu X.1 X.2.1 X.2.2⟩
theorem zni:CE.ok Try.prog zi7:=CE.of (Γ:=[]) (by kernel_rfl) zdA (GOK.nil) ⟨[(5,⟨⟨[(.int .i64),(.int .i64)],[(7,.v 0),(8,.v 1)],[]⟩,[6,13,14,15,16,17,18,19,20,21,22,23,24,25,26,27,28,29,30,31,32,33,34,35,36],[],[],0,[]⟩)],[],[],[]⟩ Try.func6 rfl Try.ntmps6 (rs:=[.tmp 6]) rfl (sig:=zhU) (out:=zhT) rfl Try.call6 (fun X=>by kernel_rfl)

def zg1:Shape:=⟨[(.list (.int .i64)),(.list (.int .i64))],[(0,.v 0),(1,.v 1)],[]⟩
def zg0:Shape:=⟨[.bool],[(0,.v 0)],[]⟩
def zhV:CE:=⟨7,zg1,zg0,fun X=>zfV X.1 X.2⟩
theorem zlQ:CE.ok Try.prog zhV:=CE.of (Γ:=[]) (by kernel_rfl) zdA (GOK.nil) ⟨[(3,⟨⟨[(.int .i64),(.list (.int .i64))],[(5,.own 0),(6,.v 0)],[(0,.arr 3 1)]⟩,[4,10,11,12,13,14,15,16,17,18,19,20,21,22,23,24,25,26,27,28,29,30,31,32,33,34,35,36,37,38,39],[],[],1,[]⟩),(9,⟨⟨[(.int .i64)],[(7,.v 0)],[]⟩,[4,40,41,42,43,44,45,46,47,48,49,50,51,52,53,54],[],[0],1,[]⟩)],[],[(11,[(0,0),(0,1),(0,2),(0,3),(0,4),(0,5),(0,6),(0,7),(0,8)])],[]⟩ Try.func7 rfl Try.ntmps7 (rs:=[.tmp 4]) rfl (sig:=zg1) (out:=zg0) rfl Try.call7 (fun X=>by kernel_rfl)

def zft:Shape:=⟨[(.pair (.pair (.int .i64) (.pair (.int .i64) (.pair (.list (.pair (.int .i64) (.pair (.list (.int .i64)) .unit))) .unit))) (.pair (.list (.int .i64)) (.pair (.list (.list (.list (.int .i64)))) .unit))),(.list (.int .i64)),(.int .i64),(.int .i64)],[(0,.addr 0),(1,.v 1),(2,.v 2),(3,.v 3)],[]⟩
def zfs:Shape:=⟨[(.int .i64)],[(0,.v 0)],[]⟩
def zkd:CE:=⟨18,zft,zfs,LFix zcV⟩
theorem zkf:CE.ok Try.prog zkd:=CE.ofRec (Γ:=[]) (by kernel_rfl) zdA (GOK.nil) ⟨[(7,⟨⟨[(.int .i64),(.int .i64)],[(9,.v 0),(10,.v 1)],[]⟩,[11,12,20,21,22,23,24,25,26,27,28,29,30,31,32,33,34,35,36,37,38,39,40,41,42,43,44,45,46,47,48,49,50,51,52,53,54,55,56,57,58,59,60,61,62,63,64,65,66,67,68,69,70,71,72,73,74,75,76,77,78,79,80,81,82,83,84,85,86,87,88,89,90,91],[],[],0,[]⟩)],[(11,⟨⟨[.bool],[(50,.v 0)],[]⟩,[34,35,36,37,38,39,40,41,42,43,44,45,46,47,48,49],[],[],0,[]⟩),(13,⟨⟨[(.int .i64)],[(11,.v 0)],[]⟩,[25,26,27,28,29,30,31,32,33,34,35,36,37,38,39,40,41,42,43,44,45,46,47,48,49,50,51,52,53,54,55,56,57,58,59,60,61,62,63,64,65,66,67,68,69,70,71],[],[],0,[]⟩),(16,⟨⟨[.bool],[(88,.v 0)],[]⟩,[80,81,82,83,84,85,86,87],[],[],0,[]⟩)],[(10,[(0,0),(0,1),(0,2),(0,3),(0,4),(0,5),(0,6),(0,7),(0,8)]),(11,[(0,0),(0,1),(0,2),(0,3),(0,4),(0,5),(0,6),(0,7),(0,8),(0,9),(0,10),(0,11),(0,12),(0,13),(0,14),(0,15),(0,16)]),(13,[(0,0),(0,1),(0,2),(0,3),(0,4),(0,5),(0,6),(0,7),(0,8),(0,9),(0,10),(0,11),(0,12),(0,13),(0,14),(0,15),(0,16),(0,17),(0,18),(0,19),(0,20),(0,21)])],[]⟩ Try.func18 rfl Try.ntmps18 (rs:=[.tmp 8]) rfl (sig:=zft) (out:=zfs) rfl Try.call18 (d:=zcV) (fun rc X=>by kernel_rfl)

section
open Go.RowKit (Below)
/-- A contract of plain data, some of which lies behind pointers, called. -/
theorem CE.vcall {P:Program} {c:CE} (hc:c.ok P) (X:Tup c.sig.tys) (Y:Tup c.out.tys) (hd:c.den X=some Y) (h1:c.sig.heap X=[]) (h2:c.sig.rws X=[]) (ds:List AV) (hds:EV.avL (c.sig.vals X)=ds) (r:Value) (hr:(retE (c.out.vals Y)).av = .d (.lit r))
    {w:World} {Xs:Nat->Prop} (hX:∀ b,Xs b->b < w.heap.size) (vs:Array Value) (hs:vs.size=ds.length) (hv:∀ i,i < ds.length->VRel w (fun b=>b < w.heap.size /\ ¬ Xs b) (fun _=>none) (ds.getD i default) (vs.getD i undef)):
    Calls P c.f vs w fun e w'=>e = .returned r/\Below w.heap.size w w':=by
  have hf:=hc.fc X Y hd
  rw [h1,h2,hds] at hf
  have hne:∀ id,zbm (hpSt [] []) id=none:=zoY
  refine (hf w Xs (fun _=>none) vs hX (fun _ _=>rfl) ⟨fun id e he=>(by rw [hne] at he;cases he),fun id e v b he=>(by rw [hne] at he;cases he),fun i j e e' v v' b he=>(by rw [hne] at he;cases he)⟩ hs (fun i hi => ?_)).mono ?_
  · exact (hv i hi).mono (fun b hb=>⟨⟨hb.1,hb.2,fun id e v he=>(by rw [hne] at he;cases he)⟩,rfl⟩) (fun _ _ h=>h)
  · rintro e w' ⟨v,q,h',H',he,⟨hq,hh⟩,ho,hk,_,_,_,hV⟩
    rw [hq,hr] at hV
    cases hV with
    | d _ _ h=>
      cases h with
      | lit _ _=>exact ⟨he,ho.1,ho.2.1,ho.2.2.1,ho.2.2.2,fun b hb=>hk b hb fun ⟨id,e,v,he,_⟩=>(by rw [hne] at he;cases he)⟩
def Hd17 (m:Nat) (p:Nat×Nat):Value := .slice (some ⟨p.1,0,none⟩) m p.2
abbrev Q17:=(Nat×Nat)×List (Nat×Nat)
/-- The chart: of each name the array of its rows, and the rows. -/
structure Ch17 (w:World) (S m:Nat) (cv:Value) (qs:List Q17):Prop where
  top:w.ownsRow S 45 1 cv qs.length (qs.map fun q=>Hd17 m q.1)
  mid:∀ q∈qs,q.2.length=m/\w.ownsRow S 25 1 (Hd17 m q.1) m (q.2.map (Hd17 m))
  low:∀ q∈qs,∀ p∈q.2,∃ l:List Int,w.ownsRow S 3 1 (Hd17 m p) m (l.map (Value.int .i64))
  inj:(qs.flatMap (·.2)).Pairwise fun p p'=>p.1 < p'.1
def zo5:Option Value->Int
  | some (.int _ x)=>x
  | _=>0
def rd17 (w:World) (m:Nat) (qs:List Q17):C17:=qs.map fun q=>q.2.map fun p=>(List.range m).map fun j=>zo5 (w.cell? ⟨p.1,j,none⟩)
theorem zhr {w w':World} {S sz n:Nat} {E:TypeId} {v:Value} {xs:List Value} (h:w.ownsRow S E sz v n xs) (hb:∀ b,v.ownBlock=some b->w'.heap[b]? =w.heap[b]?):w'.ownsRow S E sz v n xs:=by
  refine ⟨h.1,?_⟩
  rcases h.2 with hn | ⟨g,cap,cur,rfl,hb',hg,rest⟩
  · exact .inl hn
  · exact .inr ⟨g,cap,cur,rfl,hb',(hb g rfl).trans hg,rest⟩
theorem zd1 {w:World} {S b n c:Nat} {E:TypeId} {xs:List Value} (h:w.ownsRow S E 1 (.slice (some ⟨b,0,none⟩) n c) n xs) (j:Nat) (u:Value) (hj:xs[j]? =some u):w.cell? ⟨b,j,none⟩=some u:=by
  have:=h.cells rfl j u hj
  rwa [show (⟨b,0,none⟩:Addr).add j=⟨b,j,none⟩ by unfold Addr.add;simp;intro h;exact h.symm] at this
theorem zfR {w:World} {S b n c:Nat} {E:TypeId} {xs:List Value} (h:w.ownsRow S E 1 (.slice (some ⟨b,0,none⟩) n c) n xs):S<=b/\n<=c/\c<=maxLen/\∃ cur,w.heap[b]? =some (.cells cur E (0,0)):=by
  rcases h.2 with ⟨h',_⟩ | ⟨g',cap',cur,h',hb,hg,hnc,hcm,hcs,htake⟩
  · simp at h'
  · simp only [Value.slice.injEq,Option.some.injEq,Addr.mk.injEq,and_true,true_and] at h'
    obtain ⟨rfl,rfl⟩:=h'
    exact ⟨hb,hnc,hcm,cur,hg⟩
theorem zfo {w:World} {S n:Nat} {E:TypeId} {v:Value} {xs:List Value} (h:w.ownsRow S E 1 v n xs) (hn:0 < n):∃ b c,v = .slice (some ⟨b,0,none⟩) n c:=by
  rcases h.2 with ⟨_,h0⟩ | ⟨g,cap,cur,rfl,_⟩
  · omega
  · exact ⟨g,cap,rfl⟩
theorem zq6 {w:World} {S n bts:Nat} {E:TypeId} {v:Value} {xs:List Value} (h:w.ownsRow S E 1 v n xs) (hn:0 < n) {l:List D} (hl:l.length=n) (hb:n * bts<=most) (h1:∀ i,i < n->(l.getD i default).cells=[l.getD i default])
    {Sh:Nat->Prop} (hr:∀ i,i < n->DRel w Sh (l.getD i default) (xs.getD i undef)) (hS:∀ b,S<=b->b < w.heap.size->Sh b):DRel w Sh (.sl bts l) v:=by
  subst hl
  obtain ⟨b,c,rfl⟩:=zfo h hn
  obtain ⟨k1,k2,k3,cur,k4⟩:=zfR h
  have hx:=h.1
  refine .sl bts l b 0 c 1 (fun k=>xs.getD k undef) hn (by omega) (hS b k1 (Array.getElem?_eq_some_iff.1 k4).1) k2 k3 hb (fun i hi=>by rw [h1 i hi];rfl) (fun k hk => ?_) (fun i hi j hj => ?_)
  · rw [Nat.zero_add]
    have hk':k < xs.length:=by omega
    refine zd1 h k _ ?_
    rw [List.getD_eq_getElem?_getD,List.getElem?_eq_getElem hk'];rfl
  · obtain rfl:j=0:=by omega
    rw [h1 i hi,Nat.mul_one,Nat.add_zero]
    exact hr i hi
section
variable {w:World} {S m:Nat} {cv:Value} {qs:List Q17}
theorem Ch17.data (h:Ch17 w S m cv qs) (hm:0 < m) (hm2:m<=13) (hq:0 < qs.length) (hq2:qs.length<=6) {Sh:Nat->Prop} (hS:∀ b,S<=b->b < w.heap.size->Sh b):
    DRel w Sh (encD (.list (.list (.list (.int .i64)))) (rd17 w m qs)) cv:=by
  have hmost:10000<=most:=by unfold most;omega
  have hb2:(Ty.list (.list (.int .i64))).bts=24:=rfl
  refine zq6 h.top hq (by unfold rd17;simp) (by rw [hb2];omega) (fun i hi => ?_) (fun a ha => ?_) hS
  · unfold rd17;simp [List.getD_eq_getElem?_getD,hi];rfl
  have hqm:qs[a]∈qs:=List.getElem_mem ha
  obtain ⟨h1,h2⟩:=h.mid _ hqm
  have e1:((rd17 w m qs).map (encD (.list (.list (.int .i64))))).getD a default=encD (.list (.list (.int .i64))) (qs[a].2.map fun p=>(List.range m).map fun j=>zo5 (w.cell? ⟨p.1,j,none⟩)):=by
    unfold rd17;simp [List.getD_eq_getElem?_getD,ha]
  have e2:(qs.map fun q=>Hd17 m q.1).getD a undef=Hd17 m qs[a].1:=by simp [List.getD_eq_getElem?_getD,ha]
  rw [e1,e2]
  generalize qs[a]=q at *
  have hb1:(Ty.list (.int .i64)).bts=24:=rfl
  refine zq6 h2 hm (by simpa using h1) (by rw [hb1];omega) (fun i hi => ?_) (fun i hi => ?_) hS
  · simp [List.getD_eq_getElem?_getD,h1,hi];rfl
  have hi':i < q.2.length:=by omega
  have hp:q.2[i]∈q.2:=List.getElem_mem hi'
  obtain ⟨l,h3⟩:=h.low _ hqm _ hp
  have e3:((q.2.map fun p=>(List.range m).map fun j=>zo5 (w.cell? ⟨p.1,j,none⟩)).map (encD (.list (.int .i64)))).getD i default=encD (.list (.int .i64)) ((List.range m).map fun j=>zo5 (w.cell? ⟨q.2[i].1,j,none⟩)):=by
    simp [List.getD_eq_getElem?_getD,hi']
  have e4:(q.2.map (Hd17 m)).getD i undef=Hd17 m q.2[i]:=by simp [List.getD_eq_getElem?_getD,hi']
  rw [e3,e4]
  generalize q.2[i]=p at *
  have hb0:(Ty.int .i64).bts=8:=rfl
  have hl:l.length=m:=by have:=h3.1;simpa using this
  refine zq6 h3 hm (by simp) (by rw [hb0];omega) (fun j hj => ?_) (fun j hj => ?_) hS
  · simp [List.getD_eq_getElem?_getD,hj];rfl
  have hj':j < l.length:=by omega
  have e5:w.cell? ⟨p.1,j,none⟩=some (.int .i64 l[j]):=zd1 h3 j _ (by simp [hj'])
  have e6:(((List.range m).map fun j=>zo5 (w.cell? ⟨p.1,j,none⟩)).map (encD (.int .i64))).getD j default = .lit (.int .i64 l[j]):=by
    simp [List.getD_eq_getElem?_getD,hj,e5];rfl
  have e7:(l.map (Value.int .i64)).getD j undef = .int .i64 l[j]:=by simp [List.getD_eq_getElem?_getD,hj']
  rw [e6,e7]
  exact .lit _ rfl
theorem Ch17.mono (h:Ch17 w S m cv qs) {w':World} (hb:∀ b,S<=b->b < w.heap.size->w'.heap[b]? =w.heap[b]?):Ch17 w' S m cv qs/\rd17 w' m qs=rd17 w m qs:=by
  have key:∀ {E:TypeId} {n:Nat} {v:Value} {xs:List Value},w.ownsRow S E 1 v n xs->w'.ownsRow S E 1 v n xs:=fun k=>zhr k fun b hv=>hb b (k.lt b hv).1 (k.lt b hv).2
  refine ⟨⟨key h.top,fun q hq=>⟨(h.mid q hq).1,key (h.mid q hq).2⟩,fun q hq p hp=>(h.low q hq p hp).imp fun l=>key,h.inj⟩,?_⟩
  unfold rd17
  refine List.map_congr_left fun q hq=>List.map_congr_left fun p hp=>List.map_congr_left fun j hj => ?_
  obtain ⟨l,h3⟩:=h.low q hq p hp
  have:=zfR h3
  obtain ⟨k1,_,_,cur,k4⟩:=this
  rw [World.cell?_of_block (w:=w) (w':=w') (hb p.1 k1 (Array.getElem?_eq_some_iff.1 k4).1)]
/-- The cells on the way to a number. -/
theorem Ch17.gets0 (h:Ch17 w S m cv qs) (hm:0 < m) {a i j:Nat} (ha:a < qs.length) (hi:i < m) (hj:j < m):
    ∃ b0 c0 b1 c1 b2 c2,cv = .slice (some ⟨b0,0,none⟩) qs.length c0/\w.cell? ⟨b0,a,none⟩=some (.slice (some ⟨b1,0,none⟩) m c1)/\w.cell? ⟨b1,i,none⟩=some (.slice (some ⟨b2,0,none⟩) m c2)/\
      w.cell? ⟨b2,j,none⟩=some (.int .i64 (((rd17 w m qs).getD a []).getD i [] |>.getD j 0))/\w.frozen? ⟨b2,j,none⟩=false/\S<=b2/\
      ∀ v:Int,Ch17 (w.setCell ⟨b2,j,none⟩ (.int .i64 v)) S m cv qs/\rd17 (w.setCell ⟨b2,j,none⟩ (.int .i64 v)) m qs=zg2 (rd17 w m qs) a i j v:=by
  obtain ⟨b0,c0,hcv⟩:=zfo h.top (by omega)
  have hqm:qs[a]∈qs:=List.getElem_mem ha
  obtain ⟨h1,h2⟩:=h.mid _ hqm
  have hi':i < qs[a].2.length:=by omega
  have hp:qs[a].2[i]∈qs[a].2:=List.getElem_mem hi'
  obtain ⟨l,h3⟩:=h.low _ hqm _ hp
  have hl:l.length=m:=by have:=h3.1;simpa using this
  have hj':j < l.length:=by omega
  have e5:w.cell? ⟨qs[a].2[i].1,j,none⟩=some (.int .i64 l[j]):=zd1 h3 j _ (by simp [hj'])
  have e6:((((rd17 w m qs).getD a []).getD i []).getD j 0)=l[j]:=by
    unfold rd17;simp [List.getD_eq_getElem?_getD,ha,hi',hj,e5];rfl
  obtain ⟨hpa,hpb⟩:=List.pairwise_flatMap.1 h.inj
  have hne:∀ a' i' (ha':a' < qs.length) (hi'':i' < qs[a'].2.length),¬ (a'=a/\i'=i)->qs[a'].2[i'].1≠qs[a].2[i].1:=by
    intro a' i' ha' hi'' hn
    by_cases c:a'=a
    · subst c
      rcases Nat.lt_trichotomy i' i with c | c | c
      · have:=List.pairwise_iff_getElem.1 (hpa _ hqm) i' i (by omega) (by omega) c;omega
      · exact absurd ⟨rfl,c⟩ hn
      · have:=List.pairwise_iff_getElem.1 (hpa _ hqm) i i' (by omega) (by omega) c;omega
    · rcases Nat.lt_or_gt_of_ne c with c | c
      · have:=List.pairwise_iff_getElem.1 hpb a' a ha' ha c _ (List.getElem_mem hi'') _ hp;omega
      · have:=List.pairwise_iff_getElem.1 hpb a a' ha ha' c _ hp _ (List.getElem_mem hi'');omega
  obtain ⟨z1,z2,z3,cur,z4⟩:=zfR h3
  refine ⟨b0,c0,qs[a].1.1,qs[a].1.2,qs[a].2[i].1,qs[a].2[i].2,hcv,?_,?_,?_,h3.frozenAt j,z1,fun v => ?_⟩
  · exact zd1 (hcv ▸ h.top) a _ (by simp [ha];rfl)
  · exact zd1 h2 i _ (by simp [hi'];rfl)
  · rw [e6];exact e5
  have hoth:∀ b,b≠qs[a].2[i].1->(w.setCell ⟨qs[a].2[i].1,j,none⟩ (.int .i64 v)).heap[b]? =w.heap[b]? :=fun b hb=>Below.heap_setCell w _ _ b hb
  have keyT:∀ {E:TypeId} {n:Nat} {u:Value} {xs:List Value},E≠3->w.ownsRow S E 1 u n xs->(w.setCell ⟨qs[a].2[i].1,j,none⟩ (.int .i64 v)).ownsRow S E 1 u n xs:=by
    intro E n u xs hE k
    refine zhr k fun b hv=>hoth b ?_
    rintro rfl
    rcases k.2 with ⟨rfl,_⟩ | ⟨g,cap,cur',rfl,_,hg,_⟩
    · simp [Value.ownBlock] at hv
    · simp only [Value.ownBlock,Option.some.injEq] at hv
      rw [hv,z4] at hg
      simp only [Option.some.injEq,Obj.cells.injEq] at hg
      exact hE hg.2.1.symm
  have hself:=(h3.stored j (.int .i64 v)).1
  have hcell:∀ a' i' j' (ha':a' < qs.length) (hi'':i' < qs[a'].2.length) (hj':j' < m),zo5 ((w.setCell ⟨qs[a].2[i].1,j,none⟩ (.int .i64 v)).cell? ⟨qs[a'].2[i'].1,j',none⟩)=
      if a'=a/\i'=i/\j'=j then v else zo5 (w.cell? ⟨qs[a'].2[i'].1,j',none⟩):=by
    intro a' i' j' ha' hi'' hj'
    by_cases c:a'=a/\i'=i
    · obtain ⟨rfl,rfl⟩:=c
      by_cases c2:j'=j
      · subst c2
        rw [if_pos ⟨rfl,rfl,rfl⟩,World.cell?_setCell_same w _ _ e5];rfl
      · rw [if_neg (fun k=>c2 k.2.2),World.cell?_setCell_other]
        simp only [ne_eq,Addr.mk.injEq,true_and,and_true];omega
    · rw [if_neg (fun k=>c ⟨k.1,k.2.1⟩),World.cell?_setCell_other]
      simp only [ne_eq,Addr.mk.injEq,true_and,and_true]
      intro k;exact hne a' i' ha' hi'' c k.1.symm
  refine ⟨⟨keyT (by decide) h.top,fun q hq=>⟨(h.mid q hq).1,keyT (by decide) (h.mid q hq).2⟩,fun q hq p hp' => ?_,h.inj⟩,?_⟩
  · obtain ⟨a',ha',rfl⟩:=List.getElem_of_mem hq
    obtain ⟨i',hi'',rfl⟩:=List.getElem_of_mem hp'
    by_cases c:a'=a/\i'=i
    · obtain ⟨rfl,rfl⟩:=c
      exact ⟨l.set j v,by rw [List.map_set];exact hself⟩
    · obtain ⟨l',h4⟩:=h.low _ hq _ hp'
      refine ⟨l',zhr h4 fun b hb=>hoth b ?_⟩
      simp only [Hd17,Value.ownBlock,Option.some.injEq] at hb
      rw [<- hb]
      exact hne a' i' ha' hi'' c
  · unfold zg2
    apply List.ext_getElem
    · simp [rd17]
    intro a' h1' h2'
    have ha':a' < qs.length:=by simpa [rd17] using h1'
    rw [List.getElem_set]
    by_cases ca:a=a'
    · subst ca
      rw [if_pos rfl]
      apply List.ext_getElem
      · simp [rd17,List.getD_eq_getElem?_getD,ha]
      intro i' h3' h4'
      have hi'':i' < qs[a].2.length:=by simpa [rd17] using h3'
      rw [List.getElem_set]
      by_cases ci:i=i'
      · subst ci
        rw [if_pos rfl]
        apply List.ext_getElem
        · simp [rd17,List.getD_eq_getElem?_getD,ha,hi'']
        intro j' h5' h6'
        have hj'':j' < m:=by simpa [rd17] using h5'
        rw [List.getElem_set]
        have:=hcell a i j' ha hi'' hj''
        by_cases cj:j=j'
        · subst cj;rw [if_pos rfl];rw [if_pos ⟨rfl,rfl,rfl⟩] at this;simpa [rd17] using this
        · rw [if_neg cj];rw [if_neg (fun k=>cj k.2.2.symm)] at this;simpa [rd17,List.getD_eq_getElem?_getD,ha,hi''] using this
      · rw [if_neg ci]
        apply List.ext_getElem
        · simp [rd17,List.getD_eq_getElem?_getD,ha]
        intro j' h5' h6'
        have hj'':j' < m:=by simpa [rd17] using h5'
        have:=hcell a i' j' ha hi'' hj''
        rw [if_neg (fun k=>ci k.2.1.symm)] at this
        simpa [rd17,List.getD_eq_getElem?_getD,ha,hi''] using this
    · rw [if_neg ca]
      apply List.ext_getElem
      · simp [rd17]
      intro i' h3' h4'
      have hi'':i' < qs[a'].2.length:=by simpa [rd17] using h3'
      apply List.ext_getElem
      · simp [rd17]
      intro j' h5' h6'
      have hj'':j' < m:=by simpa [rd17] using h5'
      have:=hcell a' i' j' ha' hi'' hj''
      rw [if_neg (fun k=>ca k.1.symm)] at this
      simpa [rd17] using this
theorem Ch17.gets (h:Ch17 w S m cv qs) (hm:0 < m) {a i j:Nat} (ha:a < qs.length) (hi:i < m) (hj:j < m):
    ∃ b0 c0 b1 c1 b2 c2,cv = .slice (some ⟨b0,0,none⟩) qs.length c0/\w.cell? ⟨b0,a,none⟩=some (.slice (some ⟨b1,0,none⟩) m c1)/\w.cell? ⟨b1,i,none⟩=some (.slice (some ⟨b2,0,none⟩) m c2)/\
      w.cell? ⟨b2,j,none⟩=some (.int .i64 (((rd17 w m qs).getD a []).getD i [] |>.getD j 0))/\w.frozen? ⟨b2,j,none⟩=false/\S<=b2/\
      ∀ w':World,w'.heap=w.heap->∀ v:Int,Ch17 (w'.setCell ⟨b2,j,none⟩ (.int .i64 v)) S m cv qs/\rd17 (w'.setCell ⟨b2,j,none⟩ (.int .i64 v)) m qs=zg2 (rd17 w m qs) a i j v:=by
  obtain ⟨b0,c0,b1,c1,b2,c2,h1,h2,h3,h4,h5,h6,h7⟩:=h.gets0 hm ha hi hj
  refine ⟨b0,c0,b1,c1,b2,c2,h1,h2,h3,h4,h5,h6,fun w' hw v => ?_⟩
  obtain ⟨k1,k2⟩:=h7 v
  have e:(w'.setCell ⟨b2,j,none⟩ (.int .i64 v)).heap=(w.setCell ⟨b2,j,none⟩ (.int .i64 v)).heap:=by simp [World.setCell,hw]
  obtain ⟨l1,l2⟩:=k1.mono (w':=w'.setCell ⟨b2,j,none⟩ (.int .i64 v)) (fun b _ _=>by rw [e])
  exact ⟨l1,l2.trans k2⟩
end
end
section
open Go.RowKit
theorem zma {w:World} {S T sz n:Nat} {E:TypeId} {v:Value} {xs:List Value} (h:w.ownsRow T E sz v n xs) (hb:S<=T):w.ownsRow S E sz v n xs:=by
  refine ⟨h.1,?_⟩
  rcases h.2 with hn | ⟨g,cap,cur,rfl,hb',hg,rest⟩
  · exact .inl hn
  · exact .inr ⟨g,cap,cur,rfl,by omega,hg,rest⟩
theorem zln {w w':World} {S T sz n:Nat} {E:TypeId} {v:Value} {xs:List Value} (h:w.ownsRow S E sz v n xs) (hb:Below T w w') (ht:w.heap.size<=T):w'.ownsRow S E sz v n xs:=
  zhr h fun b hv=>hb.block b (by have:=(h.lt b hv).2;omega)
/-- Another block: another element type. -/
theorem znc {w:World} {S S' n n':Nat} {E E':TypeId} {v v':Value} {xs xs':List Value} (h:w.ownsRow S E 1 v n xs) (h':w.ownsRow S' E' 1 v' n' xs') (he:E≠E'):v.ownBlock=none\/v.ownBlock≠v'.ownBlock:=by
  rcases h.2 with ⟨rfl,_⟩ | ⟨g,cap,cur,rfl,_,hg,_⟩
  · exact .inl rfl
  rcases h'.2 with ⟨rfl,_⟩ | ⟨g',cap',cur',rfl,_,hg',_⟩
  · exact .inr (by simp [Value.ownBlock])
  refine .inr fun e => ?_
  simp only [Value.ownBlock,Option.some.injEq] at e
  subst e
  rw [hg] at hg'
  simp only [Option.some.injEq,Obj.cells.injEq] at hg'
  exact he hg'.2.1
theorem zfE {w w':World} {T:Nat} {r:Option Nat} (h:w.grownBy w' r) (ht:T<=w.heap.size) (hr:∀ b,r=some b->T<=b):Below T w w':=
  ⟨h.os,h.tape,h.output,h.size,fun b hb=>h.block b (by omega) fun e=>by have:=hr b e.symm;omega⟩
abbrev no17:Value := .int .i64 1099511627776
theorem ztP:(Try.prog.info? 3).map (fun i=>(i.zero,i.size,i.bytes))=some (some (.int .i64 0),1,8):=by kernel_rfl
theorem zsG:(Try.prog.info? 25).map (fun i=>(i.zero,i.size,i.bytes))=some (some (.slice none 0 0),1,24):=by kernel_rfl
theorem zsH:(Try.prog.info? 45).map (fun i=>(i.zero,i.size,i.bytes))=some (some (.slice none 0 0),1,24):=by kernel_rfl
theorem zqy {w w':World} {m:Nat} {qs:List Q17} (h:∀ q∈qs,∀ p∈q.2,w'.heap[p.1]? =w.heap[p.1]?):rd17 w' m qs=rd17 w m qs:=by
  unfold rd17
  refine List.map_congr_left fun q hq=>List.map_congr_left fun p hp=>List.map_congr_left fun j hj => ?_
  rw [World.cell?_of_block (w:=w) (w':=w') (h q hq p hp)]
theorem Ch17.push {w w4:World} {S T m g c:Nat} {cv cv':Value} {qs:List Q17} {ps:List (Nat×Nat)} (h:Ch17 w S m cv qs) (hrows:w.ownsRow T 25 1 (.slice (some ⟨g,0,none⟩) m c) m (ps.map (Hd17 m))) (hST:S<=T)
    (hps:∀ p∈ps,T<=p.1/\w.ownsRow S 3 1 (Hd17 m p) m ((List.replicate m (1099511627776:Int)).map (Value.int .i64))) (hpw:ps.Pairwise fun p p'=>p.1 < p'.1) (hT:∀ q∈qs,∀ p∈q.2,p.1 < T) (hpl:ps.length=m) (o:Obj)
    (hg:(w.alloc o).grownBy w4 cv.ownBlock) (hown4:w4.ownsRow S 45 1 cv' (qs.length+1) (qs.map (fun q=>Hd17 m q.1)++[.slice (some ⟨g,0,none⟩) m c])):
    Ch17 w4 S m cv' (qs++[((g,c),ps)])/\rd17 w4 m (qs++[((g,c),ps)])=rd17 w m qs++[List.replicate m (List.replicate m 1099511627776)]:=by
  have key:∀ {S' E' n' v'' xs'},E'≠45->w.ownsRow S' E' 1 v'' n' xs'->w4.ownsRow S' E' 1 v'' n' xs':=fun he h'=>(h'.alloc o).kept hg (znc h' h.top he)
  have hlow:∀ q∈qs++[((g,c),ps)],∀ p∈q.2,∃ l:List Int,w.ownsRow S 3 1 (Hd17 m p) m (l.map (Value.int .i64)):=by
    intro q hq p hp
    rcases List.mem_append.1 hq with hq | hq
    · exact h.low q hq p hp
    · obtain rfl:q=((g,c),ps):=by simpa using hq
      exact ⟨_,(hps p hp).2⟩
  refine ⟨⟨by simpa [Hd17] using hown4,fun q hq => ?_,fun q hq p hp=>(hlow q hq p hp).imp fun l=>key (by decide),?_⟩,?_⟩
  · rcases List.mem_append.1 hq with hq | hq
    · exact ⟨(h.mid q hq).1,key (by decide) (h.mid q hq).2⟩
    · obtain rfl:q=((g,c),ps):=by simpa using hq
      exact ⟨hpl,key (by decide) (zma hrows hST)⟩
  · rw [List.flatMap_append,List.pairwise_append]
    refine ⟨h.inj,by simpa using hpw,fun p hp p' hp' => ?_⟩
    obtain ⟨q,hq,hp⟩:=List.mem_flatMap.1 hp
    have h1:=hT q hq p hp
    have h2:=(hps p' (by simpa using hp')).1
    omega
  · have hc:∀ q∈qs++[((g,c),ps)],∀ p∈q.2,w4.heap[p.1]? =w.heap[p.1]? :=by
      intro q hq p hp
      obtain ⟨l,hl⟩:=hlow q hq p hp
      have hlt:=(hl.lt p.1 rfl).2
      have h1:=hg.block p.1 (by simp;omega) (by
        rcases znc hl h.top (by decide) with h0 | h0
        · simp [Hd17,Value.ownBlock] at h0
        · exact h0)
      rw [h1]
      exact Below.heap_alloc _ _ _ hlt
    rw [zqy hc]
    unfold rd17
    rw [List.map_append]
    congr 1
    simp only [List.map_cons,List.map_nil,List.cons.injEq,and_true]
    refine List.eq_replicate_iff.2 ⟨by simpa using hpl,fun r hr => ?_⟩
    obtain ⟨p,hp,rfl⟩:=List.mem_map.1 hr
    refine List.eq_replicate_iff.2 ⟨by simp,fun y hy => ?_⟩
    obtain ⟨j,hj,rfl⟩:=List.mem_map.1 hy
    have hj:j < m:=by simpa using hj
    have:=zd1 (hps p hp).2 j (.int .i64 1099511627776) (by simp [hj])
    rw [this];rfl
theorem zqo {w:World} {b j T:Nat} {cur:Array Value} {v:Value} (h:w.heap[b]? =some (.cells cur T (0,0))):(w.setCell ⟨b,j,none⟩ v).heap[b]? =some (.cells (cur.setIfInBounds j v) T (0,0)):=by
  simp [World.setCell,Array.getElem?_modify,h]
/-- The world as the rounds leave it. -/
structure W217 (w:World) (Lt:Int) (N n M mc wc:Nat) (ma wa:Option Addr) (cv:Value) (qs:List Q17) (wr:World):Prop where
  b:Below w.heap.size w wr
  s:w.heap.size+2<=wr.heap.size
  g:wr.heap[w.heap.size]? =some (Obj.cells #[Value.int IntKind.i64 Lt,Value.int IntKind.i64 N,Value.slice ma M mc] 24)
  c:wr.heap[w.heap.size+1]? =some (Obj.cells #[Value.int IntKind.i64 Lt,Value.int IntKind.i64 N,Value.slice ma M mc,Value.slice wa n wc,cv] 44)
  h:Ch17 wr (w.heap.size+2) (n+1) cv qs
theorem W217.mono {w wr wr':World} {Lt:Int} {N n M mc wc:Nat} {ma wa:Option Addr} {cv:Value} {qs:List Q17} (h:W217 w Lt N n M mc wc ma wa cv qs wr) (hb:Below wr.heap.size wr wr'):W217 w Lt N n M mc wc ma wa cv qs wr'/\rd17 wr' (n+1) qs=rd17 wr (n+1) qs:=by
  have hs:=h.s
  have hs':=hb.size
  obtain ⟨h1,h2⟩:=h.h.mono (w':=wr') (fun b _ hb'=>hb.block b hb')
  exact ⟨⟨h.b.trans (hb.mono (by omega)),by omega,(hb.block _ (by omega)).trans h.g,(hb.block _ (by omega)).trans h.c,h1⟩,h2⟩
abbrev tM17:Ty := .pair (.int .i64) (.pair (.list (.int .i64)) .unit)
/-- A rule as it lies in memory. -/
theorem mk17 {w:World} {Sh:Nat->Prop} {mk:List Mk17} {ma:Option Addr} {M mc:Nat} (h:DRel w Sh (encD (.list tM17) mk) (.slice ma M mc)):M=mk.length/\(∀ s,s < M->∃ b off tv,ma=some ⟨b,off,none⟩/\Sh b/\
    w.cell? ⟨b,off+s * 2,none⟩=some (.int .i64 (mk.getD s default).1)/\w.cell? ⟨b,off+s * 2+1,none⟩=some tv/\DRel w Sh (encD (.list (.int .i64)) (mk.getD s default).2.1) tv):=by
  cases mk with
  | nil=>
    have h:DRel w Sh (.sl tM17.bts []) (.slice ma M mc):=h
    cases h with
    | nil=>exact ⟨rfl,fun s hs=>by omega⟩
    | sl _ _ b off c sz f h0=>simp at h0
  | cons m0 r=>
    have h:DRel w Sh (.sl tM17.bts ((m0::r).map (encD tM17))) (.slice ma M mc):=h
    generalize hl:(m0::r).map (encD tM17)=l at h
    cases h with
    | nil=>simp at hl
    | sl _ _ b off c sz f h0 hsz hb hc hm hbt hcs hcell hrel=>
      have hlen:l.length=(m0::r).length:=by rw [<- hl];simp
      refine ⟨hlen,fun s hs => ?_⟩
      have hs':s < (m0::r).length:=by omega
      have e1:l.getD s default=encD tM17 ((m0::r).getD s default):=by
        rw [<- hl];simp only [List.getD_eq_getElem?_getD,List.getElem?_map,List.getElem?_eq_getElem hs'];rfl
      have e2:=hcs s hs
      rw [e1,zau] at e2
      have e2:2=sz:=e2
      subst e2
      have r0:=hrel s hs 0 (by omega)
      have r1:=hrel s hs 1 (by omega)
      have k0:=hcell (s * 2) (by omega)
      have k1:=hcell (s * 2+1) (by omega)
      rw [e1] at r0 r1
      have r0:DRel w Sh (.lit (.int .i64 ((m0::r).getD s default).1)) (f (s * 2)):=r0
      have r1:DRel w Sh (encD (.list (.int .i64)) ((m0::r).getD s default).2.1) (f (s * 2+1)):=r1
      refine ⟨b,off,_,rfl,hb,?_,k1,r1⟩
      rw [k0]
      generalize f (s * 2)=v at r0
      cases r0 with
      | lit _ _=>rfl
/-- The least, over a piece. -/
theorem row17 {w wr:World} {Lt:Int} {N n M mc wc:Nat} {ma wa:Option Addr} {cv:Value} {qs:List Q17} (h:W217 w Lt N n M mc wc ma wa cv qs wr) {Xs:Nat->Prop} (hX:∀ b,Xs b->b < w.heap.size) {mk:List Mk17} {wl to:List Int}
    (hq:0 < qs.length) (hq2:qs.length<=6) (hn:n<=12) (hm:DRel w (fun b=>b < w.heap.size /\ ¬ Xs b) (encD (.list tM17) mk) (.slice ma M mc)) (hw:DRel w (fun b=>b < w.heap.size /\ ¬ Xs b) (encD (.list (.int .i64)) wl) (.slice wa n wc))
    {tv:Value} (ht:DRel w (fun b=>b < w.heap.size /\ ¬ Xs b) (encD (.list (.int .i64)) to) tv) {i j x:Int} (hx:zbt ((Lt,(N:Int),mk,()),wl,rd17 wr (n+1) qs,()) to i j=some x) {W:World} (hW:Below wr.heap.size wr W):
    Calls Try.prog 18 #[.pointer (some ⟨w.heap.size+1,0,none⟩),tv,.int .i64 i,.int .i64 j] W fun e w'=>e = .returned (.int .i64 x)/\Below W.heap.size W w':=by
  obtain ⟨h',hrd⟩:=h.mono hW
  have hs:=h'.s
  rw [<- hrd] at hx
  have hS:∀ b,w.heap.size+2<=b->b < W.heap.size->b < W.heap.size /\ ¬ Xs b:=fun b h1 h2=>⟨h2,fun h3=>by have:=hX b h3;omega⟩
  have hS':∀ b,b < w.heap.size /\ ¬ Xs b->(b < W.heap.size /\ ¬ Xs b)/\W.heap[b]? =w.heap[b]? :=fun b h1=>⟨⟨by omega,h1.2⟩,h'.b.block b h1.1⟩
  have hcv:=h'.h.data (Nat.succ_pos n) (by omega) hq hq2 hS
  refine CE.vcall zkf (((Lt,(N:Int),mk,()),wl,rd17 W (n+1) qs,()),to,i,j) x hx rfl rfl [.addr (encD (.pair (.pair (.int .i64) (.pair (.int .i64) (.pair (.list tM17) .unit))) (.pair (.list (.int .i64)) (.pair (.list (.list (.list (.int .i64)))) .unit))) ((Lt,(N:Int),mk,()),wl,rd17 W (n+1) qs,())),.d (encD (.list (.int .i64)) to),.d (.lit (.int .i64 i)),.d (.lit (.int .i64 j))] rfl (.int .i64 x) rfl (Xs:=Xs) (fun b hb=>by have:=hX b hb;omega) #[_,_,_,_] rfl (fun k hk => ?_)
  match k,hk with
  | 0,_=>
    refine .addr _ (w.heap.size+1) 0 (fun k=>#[Value.int IntKind.i64 Lt,Value.int IntKind.i64 N,Value.slice ma M mc,Value.slice wa n wc,cv].getD k undef) ⟨by omega,fun h3=>by have:=hX _ h3;omega⟩ (fun k hk => ?_) (fun k hk => ?_)
    · have hk:k < 5:=hk
      rw [Nat.zero_add,cell_of_row W _ k _ 44 (0,0) h'.c]
      match k,hk with
      | 0,_=>rfl
      | 1,_=>rfl
      | 2,_=>rfl
      | 3,_=>rfl
      | 4,_=>rfl
    · have hk:k < 5:=hk
      match k,hk with
      | 0,_=>exact .lit _ rfl
      | 1,_=>exact .lit _ rfl
      | 2,_=>exact hm.mono hS'
      | 3,_=>exact hw.mono hS'
      | 4,_=>exact hcv
  | 1,_=>exact .d _ _ (ht.mono hS')
  | 2,_=>exact .d _ _ (.lit _ rfl)
  | 3,_=>exact .d _ _ (.lit _ rfl)
theorem ztU {P:Nat->Prop}:∀ n,P n->∃ m,P m/\∀ f,P f->m<=f:=by
  intro n
  induction n using Nat.strongRecOn with
  | _ n ih=>
    intro h
    by_cases c:∃ k,k < n/\P k
    · obtain ⟨k,h1,h2⟩:=c;exact ih k h1 h2
    · exact ⟨n,h,fun f hf=>Nat.le_of_not_lt fun hlt=>c ⟨f,hlt,hf⟩⟩
open Classical in
def zl5 (P:Nat->Prop):Nat:=if h:∃ m,P m/\∀ f,P f->m<=f then h.choose else 0
theorem zk6 {P:Nat->Prop} {f:Nat} (h:P f):P (zl5 P)/\zl5 P<=f:=by
  have hh:=ztU f h
  have e:zl5 P=hh.choose:=by unfold zl5;rw [dif_pos hh]
  rw [e]
  exact ⟨hh.choose_spec.1,hh.choose_spec.2 f h⟩
def zt0 (v:Value) (k:Nat):Nat:=match v with
  | .bool true=>k+1
  | _=>0
def Fl17 (v:Value) (P:Bool->Prop):Prop:=∃ b,v = .bool b/\P b
theorem sl17 {w:World} {Sh:Nat->Prop} {l:List Int} {v:Value} (h:DRel w Sh (encD (.list (.int .i64)) l) v):∃ a n c,v = .slice a n c:=by
  have h:DRel w Sh (.sl (Ty.int .i64).bts (l.map (encD (.int .i64)))) v:=h
  generalize l.map (encD (.int .i64))=L at h
  cases h with
  | nil=>exact ⟨_,_,_,rfl⟩
  | sl=>exact ⟨_,_,_,rfl⟩
theorem zuS (w:World) (Lt:Int) (N n M mc wc:Nat) (ma wa:Option Addr) (hN0:0 < N) (hN:N<=6) (hn:n<=12) {Xs:Nat->Prop} (hX:∀ b,Xs b->b < w.heap.size) (mk:List Mk17) (wl:List Int) (hwl:wl.length<=n/\n<=wl.length)
    (hmk:∀ m∈mk,0<=m.1/\m.1 < (N:Int)) (hm20:mk.length<=20) (hm:DRel w (fun b=>b < w.heap.size /\ ¬ Xs b) (encD (.list tM17) mk) (.slice ma M mc)) (hw:DRel w (fun b=>b < w.heap.size /\ ¬ Xs b) (encD (.list (.int .i64)) wl) (.slice wa n wc))
    (R:C17) (hden:zfY (Lt,(N:Int),mk,()) wl m17 (n+1) 0 (List.replicate N (List.replicate (n+1) (List.replicate (n+1) 1099511627776)))=some R):
    Calls Try.prog 8 #[.agg #[.int .i64 Lt,.int .i64 N,.slice ma M mc],.slice wa n wc] w fun e w'=>e = .returned (.int .i64 (((R.getD 0 []).getD 0 []).getD n 0))/\Below w.heap.size w w':=by
  obtain ⟨hMk0,hmks⟩:=mk17 hm
  have hMk:mk.length<=M/\M<=mk.length:=by omega
  clear hMk0
  obtain ⟨i3,hi3,hz30,hz31,hz32⟩:=info_parts ztP
  obtain ⟨i25,hi25,hz250,hz251,hz252⟩:=info_parts zsG
  obtain ⟨i46,hi46,hz460,hz461,hz462⟩:=info_parts zsH
  go_enter Try.func8,Try.ntmps8
  go_wp2
  have hG0:((w.alloc (Obj.cells #[Value.int IntKind.i64 Lt,Value.int IntKind.i64 ↑N,Value.slice ma M mc] 24)).alloc (Obj.cells #[Value.int IntKind.i64 Lt,Value.int IntKind.i64 ↑N,Value.slice ma M mc,Value.slice wa n wc,Value.slice none 0 0] 44)).heap[w.heap.size]? =some (Obj.cells #[Value.int IntKind.i64 Lt,Value.int IntKind.i64 ↑N,Value.slice ma M mc] 24):=(Below.heap_alloc _ _ _ (by simp)).trans (World.alloc_heap_new w _)
  have hC0:((w.alloc (Obj.cells #[Value.int IntKind.i64 Lt,Value.int IntKind.i64 ↑N,Value.slice ma M mc] 24)).alloc (Obj.cells #[Value.int IntKind.i64 Lt,Value.int IntKind.i64 ↑N,Value.slice ma M mc,Value.slice wa n wc,Value.slice none 0 0] 44)).heap[w.heap.size+1]? =some (Obj.cells #[Value.int IntKind.i64 Lt,Value.int IntKind.i64 ↑N,Value.slice ma M mc,Value.slice wa n wc,Value.slice none 0 0] 44):=by
    have:=World.alloc_heap_new (w.alloc (Obj.cells #[Value.int IntKind.i64 Lt,Value.int IntKind.i64 ↑N,Value.slice ma M mc] 24)) (Obj.cells #[Value.int IntKind.i64 Lt,Value.int IntKind.i64 ↑N,Value.slice ma M mc,Value.slice wa n wc,Value.slice none 0 0] 44)
    rwa [World.size_alloc] at this
  have hB0:Below w.heap.size w ((w.alloc (Obj.cells #[Value.int IntKind.i64 Lt,Value.int IntKind.i64 ↑N,Value.slice ma M mc] 24)).alloc (Obj.cells #[Value.int IntKind.i64 Lt,Value.int IntKind.i64 ↑N,Value.slice ma M mc,Value.slice wa n wc,Value.slice none 0 0] 44)):=((Below.refl _ w).alloc (Nat.le_refl _) _).alloc (by simp) _
  have hS0:((w.alloc (Obj.cells #[Value.int IntKind.i64 Lt,Value.int IntKind.i64 ↑N,Value.slice ma M mc] 24)).alloc (Obj.cells #[Value.int IntKind.i64 Lt,Value.int IntKind.i64 ↑N,Value.slice ma M mc,Value.slice wa n wc,Value.slice none 0 0] 44)).heap.size=w.heap.size+2:=by simp
  generalize ((w.alloc (Obj.cells #[Value.int IntKind.i64 Lt,Value.int IntKind.i64 ↑N,Value.slice ma M mc] 24)).alloc (Obj.cells #[Value.int IntKind.i64 Lt,Value.int IntKind.i64 ↑N,Value.slice ma M mc,Value.slice wa n wc,Value.slice none 0 0] 44))=w0 at hG0 hC0 hB0 hS0
  go_loopw [7] (fun a wr=>∃ (k:Nat) (cv:Value) (qs:List Q17),k<=N/\a = .int .i64 k/\qs.length=k/\Below w.heap.size w wr/\w.heap.size+2<=wr.heap.size/\wr.heap[w.heap.size]? =some (Obj.cells #[Value.int IntKind.i64 Lt,Value.int IntKind.i64 ↑N,Value.slice ma M mc] 24)/\
      wr.heap[w.heap.size+1]? =some (Obj.cells #[Value.int IntKind.i64 Lt,Value.int IntKind.i64 ↑N,Value.slice ma M mc,Value.slice wa n wc,cv] 44)/\Ch17 wr (w.heap.size+2) (n+1) cv qs/\
      rd17 wr (n+1) qs=List.replicate k (List.replicate (n+1) (List.replicate (n+1) 1099511627776)))
    (fun a _=>N - (intOf a).toNat)
  case atStart=>
    refine ⟨0,_,[],Nat.zero_le _,rfl,rfl,hB0,by omega,hG0,hC0,⟨World.ownsRow_nil _ _ _ _,fun q hq=>by simp at hq,fun q hq=>by simp at hq,by simp⟩,rfl⟩
  case round=>
    obtain ⟨k,cv,qs,hk,rfl,hqk,hB1,hsz1,hG1,hC1,hCh,hrd⟩:=hrel
    have hf1:wr.cell? ⟨w.heap.size,1,none⟩=some (.int .i64 N):=by rw [cell_of_row wr _ 1 _ 24 (0,0) hG1];rfl
    by_cases hkN:k < N
    case neg=>
      obtain rfl:k=N:=by omega
      have hW0:W217 w Lt k n M mc wc ma wa cv qs wr:=⟨hB1,hsz1,hG1,hC1,hCh⟩
      rw [<- hrd] at hden
      clear hrd hB1 hsz1 hG1 hC1 hCh hG0 hC0 hB0 hS0 hi3 hz30 hz31 hz32 hi25 hz250 hz251 hz252 hi46 hz460 hz461 hz462
      go_wp2
      obtain ⟨wA,rfl⟩:∃ wA,wA=wr:=⟨wr,rfl⟩
      go_loopw [12] (fun sz wB=>∃ t:Nat,t<=n+1/\sz = .int .i64 t/\W217 w Lt k n M mc wc ma wa cv qs wB/\zfY (Lt,(k:Int),mk,()) wl m17 (n+1 - t) t (rd17 wB (n+1) qs)=some R) (fun sz _=>n+1 - (intOf sz).toNat)
      case atStart=>exact ⟨0,by omega,rfl,hW0,hden⟩
      case round=>
        obtain ⟨wB,rfl⟩:∃ wB,wB=wr:=⟨wr,rfl⟩
        obtain ⟨t,ht,rfl,hWB,hsz⟩:=hrel
        by_cases htn:t<=n
        case neg=>
          obtain rfl:t=n+1:=by omega
          have hR:rd17 wB (n+1) qs=R:=by simpa [zfY] using hsz
          obtain ⟨b0,c0,b1,c1,b2,c2,rfl,g1,g2,g3,_⟩:=hWB.h.gets (Nat.succ_pos n) (a:=0) (i:=0) (j:=n) (by omega) (by omega) (by omega)
          have hc:wB.cell? ⟨w.heap.size+1,4,none⟩=some (.slice (some ⟨b0,0,none⟩) qs.length c0):=by rw [cell_of_row wB _ 4 _ 44 (0,0) hWB.c];rfl
          rw [hR] at g3
          rw [hqk] at hc
          go_wp2
          go_ret
          exact ⟨rfl,hWB.b⟩
        go_wp2
        obtain ⟨D,hD,hsz'⟩:∃ D,zcM (Lt,(k:Int),mk,()) wl t m17 (rd17 wB (n+1) qs)=some D/\zfY (Lt,(k:Int),mk,()) wl m17 (n+1 - (t+1)) (t+1) D=some R:=by
          rw [show n+1 - t=(n+1 - (t+1))+1 by omega,zfY] at hsz
          exact Option.bind_eq_some_iff.1 hsz
        clear hsz
        go_loopw [13] (fun ag wC=>Fl17 ag fun b=>W217 w Lt k n M mc wc ma wa cv qs wC/\(b=true->∃ f,zcM (Lt,(k:Int),mk,()) wl t f (rd17 wC (n+1) qs)=some D)/\(b=false->rd17 wC (n+1) qs=D))
          (fun ag wC=>zt0 ag (zl5 fun f=>zcM (Lt,(k:Int),mk,()) wl t f (rd17 wC (n+1) qs)=some D))
        case atStart=>exact ⟨true,rfl,hWB,fun _=>⟨_,hD⟩,fun h=>by cases h⟩
        case round=>
          obtain ⟨wC,rfl⟩:∃ wC,wC=wr:=⟨wr,rfl⟩
          obtain ⟨b,rfl,hWC,hb1,hb2⟩:=hrel
          cases b with
          | false=>
            have hC:=hb2 rfl
            go_wp2
            go_roundw
            case rel=>exact ⟨t+1,by omega,by go_num,hWC,by rw [hC];exact hsz'⟩
            case measure=>simp [intOf];omega
          | true=>
            obtain ⟨f0,hf0⟩:=hb1 rfl
            have hfl:=(zk6 (P:=fun f=>zcM (Lt,(k:Int),mk,()) wl t f (rd17 wC (n+1) qs)=some D) hf0).1
            generalize hfuel:(zl5 fun f=>zcM (Lt,(k:Int),mk,()) wl t f (rd17 wC (n+1) qs)=some D)=fl at hfl
            obtain ⟨fl',rfl⟩:∃ fl',fl=fl'+1:=by
              cases fl with
              | zero=>rw [zcM] at hfl;cases hfl
              | succ f=>exact ⟨f,rfl⟩
            rw [zcM,show wl.length=n from Nat.le_antisymm hwl.1 hwl.2] at hfl
            obtain ⟨r,hr,hfl⟩:=Option.bind_eq_some_iff.1 hfl
            go_wp2
            go_loopw [13,14] (fun ag i wD=>∃ (q:Nat),q<=n+1 - t/\i = .int .i64 q/\Fl17 ag fun b=>W217 w Lt k n M mc wc ma wa cv qs wD/\is17 (Lt,(k:Int),mk,()) wl t (n+1 - t - q) q b (rd17 wD (n+1) qs)=some r)
              (fun _ i _=>n+1 - (intOf i).toNat)
            case atStart=>exact ⟨0,by omega,rfl,false,rfl,hWC,hr⟩
            case round=>
              obtain ⟨wD,rfl⟩:∃ wD,wD=wr:=⟨wr,rfl⟩
              obtain ⟨q,hq,rfl,b,rfl,hWD,hqr⟩:=hrel
              by_cases hqn:q+t<=n
              case neg=>
                have hqe:n+1 - t - q=0:=by omega
                rw [hqe,is17] at hqr
                obtain rfl:=Option.some.inj hqr
                dsimp only at hfl
                go_wp2
                go_roundw
                case rel=>
                  refine ⟨b,rfl,hWD,fun hb => ?_,fun hb => ?_⟩
                  · rw [hb,if_pos rfl] at hfl;exact ⟨_,hfl⟩
                  · rw [hb,if_neg (by decide)] at hfl;exact Option.some.inj hfl
                case measure=>
                  cases b with
                  | false=>simp [zt0]
                  | true=>
                    rw [if_pos rfl] at hfl
                    have:=(zk6 (P:=fun f=>zcM (Lt,(k:Int),mk,()) wl t f (rd17 wD (n+1) qs)=some D) hfl).2
                    simp [zt0];omega
              obtain ⟨r2,hr2,hqr⟩:∃ r2,zgN (Lt,(k:Int),mk,()) wl q (q+t) mk b (rd17 wD (n+1) qs)=some r2/\is17 (Lt,(k:Int),mk,()) wl t (n+1 - t - (q+1)) (q+1) r2.1 r2.2=some r:=by
                rw [show n+1 - t - q=(n+1 - t - (q+1))+1 by omega,is17] at hqr
                exact Option.bind_eq_some_iff.1 hqr
              have hqnI:(q:Int)+(t:Int)<=(n:Int):=by omega
              go_wp2
              go_loopw [13,15] (fun ag kk wE=>∃ (s:Nat),s<=M/\kk = .int .i64 s/\Fl17 ag fun b=>W217 w Lt k n M mc wc ma wa cv qs wE/\zgN (Lt,(k:Int),mk,()) wl q (q+t) (mk.drop s) b (rd17 wE (n+1) qs)=some r2)
                (fun _ kk _=>M - (intOf kk).toNat)
              case atStart=>exact ⟨0,by omega,rfl,b,rfl,hWD,by rw [List.drop_zero];exact hr2⟩
              case round=>
                obtain ⟨wE,rfl⟩:∃ wE,wE=wr:=⟨wr,rfl⟩
                obtain ⟨s,hs,rfl,b,rfl,hWE,hsr⟩:=hrel
                have hgE:wE.cell? ⟨w.heap.size,2,none⟩=some (.slice ma M mc):=by rw [cell_of_row wE _ 2 _ 24 (0,0) hWE.g];rfl
                by_cases hsM:s < M
                case neg=>
                  rw [List.drop_eq_nil_of_le (by omega),zgN] at hsr
                  obtain rfl:=Option.some.inj hsr
                  go_wp2
                  go_roundw
                  case rel=>exact ⟨q+1,by omega,by go_num,b,rfl,hWE,hqr⟩
                  case measure=>simp [intOf];omega
                obtain ⟨bm,om,tv,hma,hbm,hm0,hm1,hm2⟩:=hmks s hsM
                subst hma
                obtain ⟨ta,tn,tc,rfl⟩:=sl17 hm2
                generalize hmv:mk.getD s default=m0 at hm0 hm1 hm2
                have hm0':=(hWE.b.cell (p:=⟨bm,om+s * 2,none⟩) hbm.1).trans hm0
                have hm1':=(hWE.b.cell (p:=⟨bm,om+s * 2+1,none⟩) hbm.1).trans hm1
                have hmem:m0∈mk:=by
                  rw [<- hmv,List.getD_eq_getElem?_getD,List.getElem?_eq_getElem (by omega)];exact List.getElem_mem _
                obtain ⟨hf1,hf2⟩:=hmk m0 hmem
                obtain ⟨fr,hfr⟩:∃ fr:Nat,m0.1=(fr:Int):=⟨m0.1.toNat,by omega⟩
                rw [hfr] at hm0' hf1 hf2
                rw [show mk.drop s=m0::mk.drop (s+1) by rw [<- hmv,List.getD_eq_getElem?_getD,List.getElem?_eq_getElem (by omega)];exact (List.drop_eq_getElem_cons (by omega)),zgN] at hsr
                obtain ⟨r3,hr3,hsr⟩:=Option.bind_eq_some_iff.1 hsr
                unfold zpq at hr3
                obtain ⟨x,hx,hr3⟩:=Option.bind_eq_some_iff.1 hr3
                have hfx:fits (x+1):=by
                  unfold G at hr3
                  split at hr3
                  · assumption
                  · cases hr3
                rw [zal hfx] at hr3
                obtain rfl:=Option.some.inj hr3
                clear hr3
                have hcall:∀ W,Below wE.heap.size wE W->Calls Try.prog 18 #[.pointer (some ⟨w.heap.size+1,0,none⟩),.slice ta tn tc,.int .i64 q,.int .i64 (q+t:Nat)] W fun e w'=>e = .returned (.int .i64 x)/\Below W.heap.size W w':=
                  fun W hW=>row17 hWE hX (by omega) (by omega) hn hm hw hm2 hx hW
                have hqt:((q+t:Nat):Int)=(q:Int)+t:=by omega
                rw [hqt] at hcall
                clear hqt
                have hBn:Below wE.heap.size wE (wE.alloc (Obj.cells #[Value.int IntKind.i64 fr,Value.slice ta tn tc] 40)):=(Below.refl _ wE).alloc (Nat.le_refl _) _
                have hcl:=hcall _ hBn
                have hNn:=World.alloc_heap_new wE (Obj.cells #[Value.int IntKind.i64 fr,Value.slice ta tn tc] 40)
                have hsn:(wE.alloc (Obj.cells #[Value.int IntKind.i64 fr,Value.slice ta tn tc] 40)).heap.size=wE.heap.size+1:=by simp
                clear hcall
                go_wp2_with (go_at_call 18;refine hcl.mono ?_;rintro e w5 ⟨rfl,hB5⟩)
                have hB5':Below wE.heap.size wE w5:=hBn.trans (hB5.mono (by omega))
                obtain ⟨hW5,hrd5⟩:=hWE.mono hB5'
                have hN5:=(hB5.block _ (by omega)).trans hNn
                have hn0:w5.cell? ⟨wE.heap.size,0,none⟩=some (.int .i64 fr):=by rw [cell_of_row w5 _ 0 _ 40 (0,0) hN5];rfl
                have hcc:w5.cell? ⟨w.heap.size+1,4,none⟩=some cv:=by rw [cell_of_row w5 _ 4 _ 44 (0,0) hW5.c];rfl
                clear hBn hcl hNn hsn hB5 hm0 hm1 hm0' hm1' hgE hN5
                obtain ⟨b0,c0,b1,c1,b2,c2,hcv,g1,g2,g3,g4,g5,g6⟩:=hW5.h.gets (Nat.succ_pos n) (a:=fr) (i:=q) (j:=q+t) (by omega) (by omega) (by omega)
                rw [hcv,hqk] at hcc
                clear hcv
                have hqt2:((q:Int)+(t:Int)).toNat=q+t:=by omega
                have hqt3:0<=(q:Int)+(t:Int):=by omega
                have hqt4:(q:Int)+(t:Int) < ((n+1:Nat):Int):=by omega
                have hq4:(q:Int) < ((n+1:Nat):Int):=by omega
                have hw1:IntKind.i64.wrap ((q:Int)+(t:Int))=(q:Int)+(t:Int):=IntWalk.i64_in _ (by omega)
                have hw2:IntKind.i64.wrap (x+1)=x+1:=IntWalk.i64_in _ (by unfold fits at hfx;omega)
                generalize hold:(((rd17 w5 (n+1) qs).getD fr []).getD q []).getD (q+t) 0=old at g3
                have hixo:ix (ix (ix (rd17 wE (n+1) qs) m0.1) (q:Int)) ((q+t:Nat):Int)=old:=by rw [<- hold,hrd5,hfr];rfl
                have hfrn:m0.1.toNat=fr:=by rw [hfr];rfl
                rw [hixo,hfrn,<- hrd5] at hsr
                by_cases hx1:x < 1099511627775
                case neg=>
                  rw [if_neg (fun h=>hx1 h.1)] at hsr
                  have hd:decide (x < 1099511627775)=false:=decide_eq_false hx1
                  go_quiet (fail)
                  go_wp2
                  obtain ⟨hW6,hrd6⟩:=hW5.mono (wr':=w5.drewN nq) ⟨rfl,rfl,rfl,Nat.le_refl _,fun _ _=>rfl⟩
                  go_roundw
                  case rel=>exact ⟨s+1,by omega,by go_num,b,rfl,hW6,by rw [hrd6];exact hsr⟩
                  case measure=>simp [intOf];omega
                by_cases hx2:x+1 < old
                case neg=>
                  rw [if_neg (fun h=>hx2 h.2)] at hsr
                  go_quiet (fail)
                  go_wp2
                  obtain ⟨hW6,hrd6⟩:=hW5.mono (wr':=w5.drewN nq) ⟨rfl,rfl,rfl,Nat.le_refl _,fun _ _=>rfl⟩
                  go_roundw
                  case rel=>exact ⟨s+1,by omega,by go_num,b,rfl,hW6,by rw [hrd6];exact hsr⟩
                  case measure=>simp [intOf];omega
                rw [if_pos ⟨hx1,hx2⟩] at hsr
                go_quiet (fail)
                go_wp2
                obtain ⟨w7,hw7⟩:∃ w7:World,w7={ w5.drewN nq with drawn:=(w5.drewN nq).drawn+1 }:=⟨_,rfl⟩
                have hh7:w7.heap=w5.heap:=by rw [hw7];rfl
                have hW7:=(hW5.mono (wr':=w7) ⟨by rw [hw7];rfl,by rw [hw7];rfl,by rw [hw7];rfl,by rw [hh7];exact Nat.le_refl _,fun _ _=>by rw [hh7]⟩).1
                have hcc7:w7.cell? ⟨w.heap.size+1,4,none⟩=some (.slice (some ⟨b0,0,none⟩) k c0):=by rw [hw7];exact hcc
                have hn07:w7.cell? ⟨wE.heap.size,0,none⟩=some (.int .i64 fr):=by rw [hw7];exact hn0
                have g17:w7.cell? ⟨b0,fr,none⟩=some (.slice (some ⟨b1,0,none⟩) (n+1) c1):=by rw [hw7];exact g1
                have g27:w7.cell? ⟨b1,q,none⟩=some (.slice (some ⟨b2,0,none⟩) (n+1) c2):=by rw [hw7];exact g2
                have g37:w7.cell? ⟨b2,q+t,none⟩=some (.int .i64 old):=by rw [hw7];exact g3
                have g47:w7.frozen? ⟨b2,q+t,none⟩=false:=by rw [hw7];exact g4
                obtain ⟨hCh8,hrd8⟩:=g6 w7 hh7 (x+1)
                have hW8:W217 w Lt k n M mc wc (some ⟨bm,om,none⟩) wa cv qs (w7.setCell ⟨b2,q+t,none⟩ (.int .i64 (x+1))):=
                  ⟨hW7.b.setCell (p:=⟨b2,q+t,none⟩) (by show w.heap.size<=b2;omega) _,by have:=hW7.s;simp [World.setCell];omega,(Below.heap_setCell _ _ _ _ (by show w.heap.size≠b2;omega)).trans hW7.g,(Below.heap_setCell _ _ _ _ (by show w.heap.size+1≠b2;omega)).trans hW7.c,hCh8⟩
                rw [<- hrd8] at hsr
                have hq5:(q:Int) < (n:Int)+1:=by omega
                have hqt5:(q:Int)+(t:Int) < (n:Int)+1:=by omega
                clear g1 g2 g3 g4 g6 hcc hn0 hCh8 hrd8 hW7 hrd5 hW5 hB5' hh7
                refine wp_region_still_tail 17 (by kernel_rfl) (by kernel_rfl) ?_
                simp only [List.take_succ_cons,List.take_zero,List.drop_succ_cons,List.drop_zero]
                rw [<- hw7]
                clear hw7
                repeat still_step
                refine wpStill_nil ?_
                go_wp2
                go_roundw
                case rel=>exact ⟨s+1,by omega,by go_num,true,rfl,hW8,hsr⟩
                case measure=>simp [intOf];omega
    go_wp2
    obtain ⟨w1,rfl⟩:∃ w1,w1=wr:=⟨wr,rfl⟩
    go_loopw [8,9] (fun rows i w2=>∃ (t:Nat) (ps:List (Nat×Nat)),t<=n+1/\i = .int .i64 t/\ps.length=t/\w2.ownsRow w1.heap.size 25 1 rows t (ps.map (Hd17 (n+1)))/\
        (∀ p∈ps,w1.heap.size<=p.1/\w2.ownsRow (w.heap.size+2) 3 1 (Hd17 (n+1) p) (n+1) ((List.replicate (n+1) (1099511627776:Int)).map (Value.int .i64)))/\ps.Pairwise (fun p p'=>p.1 < p'.1)/\Below w1.heap.size w1 w2)
      (fun _ i _=>n+1 - (intOf i).toNat)
    case atStart=>exact ⟨0,[],Nat.zero_le _,rfl,rfl,World.ownsRow_nil _ _ _ _,fun p hp=>by simp at hp,by simp,Below.refl _ _⟩
    case round=>
      obtain ⟨w2,rfl⟩:∃ w2,w2=wr:=⟨wr,rfl⟩
      obtain ⟨t,ps,ht,rfl,hpt,hrows,hps,hpw,hB2⟩:=hrel
      have hsz2:=hB2.size
      by_cases htn:t<=n
      case neg=>
        obtain rfl:t=n+1:=by omega
        have hC2:w2.heap[w.heap.size+1]? =some (Obj.cells #[Value.int IntKind.i64 Lt,Value.int IntKind.i64 ↑N,Value.slice ma M mc,Value.slice wa n wc,cv] 44):=(hB2.block _ (by omega)).trans hC1
        have hc0:w2.cell? ⟨w.heap.size+1,4,none⟩=some cv:=by rw [cell_of_row w2 _ 4 _ 44 (0,0) hC2];rfl
        have hfr:w2.frozen? ⟨w.heap.size+1,4,none⟩=false:=by simp [World.frozen?, hC2]
        obtain ⟨hCh2,hrd2⟩:=hCh.mono (w':=w2) (fun b _ hb=>hB2.block b hb)
        obtain ⟨g,c,rfl⟩:=zfo hrows (by omega)
        go_wp2_with (at_builtin;refine wpList_append_own _ rfl _ _ 42 rfl (w.heap.size+2) 45 i46 (.slice none 0 0) 1 24 Try.underlying42 hi46 hz460 hz461 hz462 rfl (by decide) _ _ _ rfl (hCh2.top.alloc _) ⟨w2.heap.size,0,none⟩ 1 1 [.slice (some ⟨g,0,none⟩) (n+1) c] rfl rfl ?c1 ?c2 ?c3 ?c4 ?c5 ?_)
        case c1=>
          intro j u hj
          match j,hj with
          | 0,hj=>simp at hj;subst hj;simp [Addr.add]
        case c2=>intro u hu;simp at hu;subst hu;rfl
        case c3=>unfold maxLen;omega
        case c4=>omega
        case c5=>simp;omega
        intro cv' w4 hown4 hg4 _
        have hC4:w4.heap[w.heap.size+1]? =some (Obj.cells #[Value.int IntKind.i64 Lt,Value.int IntKind.i64 ↑N,Value.slice ma M mc,Value.slice wa n wc,cv] 44):=by
          rw [hg4.block _ (by simp;omega) (fun e=>by have:=(hCh2.top.lt _ e.symm).1;omega)]
          exact (Below.heap_alloc _ _ _ (by omega)).trans hC2
        have hc4:w4.cell? ⟨w.heap.size+1,4,none⟩=some cv:=by rw [cell_of_row w4 _ 4 _ 44 (0,0) hC4];rfl
        have hfr4:w4.frozen? ⟨w.heap.size+1,4,none⟩=false:=by simp [World.frozen?, hC4]
        have hbl4:Below w.heap.size w2 w4:=((Below.refl _ w2).alloc (by omega) _).trans (zfE hg4 (by simp;omega) fun b hb=>by have:=(hCh2.top.lt b hb).1;omega)
        obtain ⟨hCh4,hrd4⟩:=hCh2.push hrows (by omega) hps hpw (fun q hq p hp=>by obtain ⟨l,hl⟩:=hCh.low q hq p hp;exact (hl.lt p.1 rfl).2) hpt _ hg4 (by rw [hqk];exact hown4)
        have hG4:w4.heap[w.heap.size]? =some (Obj.cells #[Value.int IntKind.i64 Lt,Value.int IntKind.i64 ↑N,Value.slice ma M mc] 24):=by
          rw [hg4.block _ (by simp;omega) (fun e=>by have:=(hCh2.top.lt _ e.symm).1;omega)]
          exact ((Below.heap_alloc _ _ _ (by omega)).trans (hB2.block _ (by omega))).trans hG1
        have hsz4:=hbl4.size
        obtain ⟨g0,c0,rfl⟩:=zfo hown4 (by omega)
        obtain ⟨hCh5,hrd5⟩:=hCh4.mono (w':=w4.setCell ⟨w.heap.size+1,4,none⟩ (.slice (some ⟨g0,0,none⟩) (k+1) c0)) (fun b hb _=>Below.heap_setCell _ _ _ _ (by show b≠w.heap.size+1;omega))
        go_wp2
        go_roundw
        case rel=>
          refine ⟨k+1,_,qs++[((g,c),ps)],by omega,by go_num,by simp [hqk],(hB1.trans ((hB2.mono (by omega)).trans hbl4)).setCell (p:=⟨w.heap.size+1,4,none⟩) (by show w.heap.size<=w.heap.size+1;omega) _,?_,?_,?_,hCh5,?_⟩
          · simp [World.setCell];omega
          · rw [Below.heap_setCell _ _ _ _ (by show w.heap.size≠w.heap.size+1;omega)];exact hG4
          · exact zqo hC4
          · rw [hrd5,hrd4,hrd2,hrd,<- hqk];exact List.replicate_succ'.symm
        case measure=>simp [intOf];omega
      go_wp2
      go_loopw [10,11] (fun row j w3=>∃ (s:Nat),s<=n+1/\j = .int .i64 s/\w3.ownsRow w2.heap.size 3 1 row s ((List.replicate s (1099511627776:Int)).map (Value.int .i64))/\Below w2.heap.size w2 w3)
        (fun _ j _=>n+1 - (intOf j).toNat)
      case atStart=>exact ⟨0,Nat.zero_le _,rfl,World.ownsRow_nil _ _ _ _,Below.refl _ _⟩
      case round=>
        obtain ⟨w3,rfl⟩:∃ w3,w3=wr:=⟨wr,rfl⟩
        obtain ⟨s,hs,rfl,hrow,hB3⟩:=hrel
        have hsz3:=hB3.size
        by_cases hsn:s<=n
        case neg=>
          obtain rfl:s=n+1:=by omega
          obtain ⟨g,c,rfl⟩:=zfo hrow (by omega)
          have hrows3:w3.ownsRow w1.heap.size 25 1 u8 t (ps.map (Hd17 (n+1))):=zln hrows hB3 (Nat.le_refl _)
          go_wp2_with (at_builtin;refine wpList_append_own _ rfl _ _ 45 rfl w1.heap.size 25 i25 (.slice none 0 0) 1 24 Try.underlying45 hi25 hz250 hz251 hz252 rfl (by decide) _ _ _ rfl (hrows3.alloc _) ⟨w3.heap.size,0,none⟩ 1 1 [.slice (some ⟨g,0,none⟩) (n+1) c] rfl rfl ?c1 ?c2 ?c3 ?c4 ?c5 ?_)
          case c1=>
            intro j u hj
            match j,hj with
            | 0,hj=>simp at hj;subst hj;simp [Addr.add]
          case c2=>intro u hu;simp at hu;subst hu;rfl
          case c3=>unfold maxLen;omega
          case c4=>omega
          case c5=>simp;omega
          intro v' w4 hown4 hg4 _
          have hgb:=zfR hrow
          have hbl4:Below w1.heap.size w3 w4:=((Below.refl _ w3).alloc (by omega) _).trans (zfE hg4 (by simp;omega) fun b hb=>(hrows3.lt b hb).1)
          have hne:∀ {S' E' n' v'' xs'},E'≠25->w3.ownsRow S' E' 1 v'' n' xs'->w4.ownsRow S' E' 1 v'' n' xs':=fun he h'=>(h'.alloc _).kept hg4 (znc h' hrows3 he)
          go_wp2
          go_roundw
          case rel=>
            refine ⟨t+1,ps++[(g,c)],by omega,by go_num,by simp [hpt],?_,?_,?_,hB2.trans ((hB3.mono hsz2).trans hbl4)⟩
            · rw [List.map_append];exact hown4
            · intro p hp
              rcases List.mem_append.1 hp with hp | hp
              · exact ⟨(hps p hp).1,hne (by decide) (zln (hps p hp).2 hB3 (Nat.le_refl _))⟩
              · obtain rfl:p=(g,c):=by simpa using hp
                exact ⟨by have:=hgb.1;show w1.heap.size<=g;omega,hne (by decide) (zma hrow (by omega))⟩
            · rw [List.pairwise_append]
              refine ⟨hpw,by simp,fun p hp q hq => ?_⟩
              obtain rfl:q=(g,c):=by simpa using hq
              have h5:=((hps p hp).2.lt p.1 rfl).2
              have:=hgb.1
              show p.1 < g
              omega
          case measure=>simp [intOf];omega
        go_wp2_with (at_builtin;refine wpList_append_own _ rfl _ _ 25 rfl w2.heap.size 3 i3 (.int .i64 0) 1 8 Try.underlying25 hi3 hz30 hz31 hz32 rfl (by decide) _ _ _ rfl (hrow.alloc _) ⟨w3.heap.size,0,none⟩ 1 1 [no17] rfl rfl ?c1 ?c2 ?c3 ?c4 ?c5 ?_)
        case c1=>
          intro j u hj
          match j,hj with
          | 0,hj=>simp at hj;subst hj;simp [Addr.add]
        case c2=>intro u hu;simp at hu;subst hu;rfl
        case c3=>unfold maxLen;omega
        case c4=>omega
        case c5=>simp;omega
        intro v' w4 hown4 hg4 _
        have hbl4:Below w2.heap.size w3 w4:=((Below.refl _ w3).alloc (by omega) _).trans (zfE hg4 (by simp;omega) fun b hb=>(hrow.lt b hb).1)
        go_wp2
        go_roundw
        case rel=>
          refine ⟨s+1,by omega,by go_num,?_,hB3.trans (hbl4.mono (Nat.le_refl _))⟩
          simpa [List.replicate_succ'] using hown4
        case measure=>simp [intOf];omega

end
section
open Go.RowKit (Below)
theorem zvj {w:World} {Sh:Nat->Prop} {t:Ty} {l:List t.den} {v:Value} (h:DRel w Sh (encD (.list t) l) v):∃ a c,v = .slice a l.length c:=by
  have h:DRel w Sh (.sl t.bts (l.map (encD t))) v:=h
  have hl:(l.map (encD t)).length=l.length:=List.length_map _
  generalize l.map (encD t)=L at h hl
  cases h with
  | nil _ a c=>exact ⟨a,c,by rw [<- hl];rfl⟩
  | sl _ _ b off c=>exact ⟨_,c,by rw [<- hl]⟩
def zlq:CE:=⟨8,⟨[.pair (.int .i64) (.pair (.int .i64) (.pair (.list tM17) .unit)),.list (.int .i64)],[(0,.v 0),(1,.v 1)],[]⟩,⟨[.int .i64],[(0,.v 0)],[]⟩,fun X=>zeN X.1 X.2⟩
theorem zo7:CE.ok Try.prog zlq where
  call:=Try.call8
  fc X Y hY:=by
    obtain ⟨⟨Lt,N,mk,_⟩,wl⟩:Gr17×List Int:=X
    have hY:zeN (Lt,N,mk,()) wl=some Y:=hY
    intro w Xs H vs hX hlow hH hvs hargs
    have hvs:vs.size=2:=hvs
    have v0:=hargs 0 (by show 0 < 2;omega)
    have v1:=hargs 1 (by show 1 < 2;omega)
    have ev:vs=#[vs.getD 0 undef,vs.getD 1 undef]:=by
      apply Array.ext
      · rw [hvs];rfl
      · intro i h2 h3
        have h3:i < 2:=h3
        match i,h3 with
        | 0,_=>simp [Array.getD,h2]
        | 1,_=>simp [Array.getD,h2]
    generalize vs.getD 0 undef=u0 at v0 ev
    generalize vs.getD 1 undef=u1 at v1 ev
    subst ev
    have hne:∀ id,zbm (hpSt [] []) id=none:=zoY
    have hmon:∀ {d:D} {v:Value},VRel w (Sh Xs (zbm (hpSt [] [])) H w) H (.d d) v->DRel w (fun b=>b < w.heap.size /\ ¬ Xs b) d v:=fun h=>by
      cases h with
      | d _ _ h=>exact h.mono fun b hb=>⟨⟨hb.1,hb.2.1⟩,rfl⟩
    have d0:DRel w (fun b=>b < w.heap.size /\ ¬ Xs b) (.agg [.lit (.int .i64 Lt),.lit (.int .i64 N),encD (.list tM17) mk]) u0:=hmon v0
    have d1:DRel w (fun b=>b < w.heap.size /\ ¬ Xs b) (encD (.list (.int .i64)) wl) u1:=hmon v1
    obtain ⟨wa,wc,rfl⟩:=zvj d1
    obtain ⟨ma,mc,rfl,hm⟩:∃ ma mc,u0 = .agg #[.int .i64 Lt,.int .i64 N,.slice ma mk.length mc]/\DRel w (fun b=>b < w.heap.size /\ ¬ Xs b) (encD (.list tM17) mk) (.slice ma mk.length mc):=by
      cases d0 with
      | agg _ cs hcs hrel=>
        have hcs:cs.size=3:=hcs
        have r0:DRel w (fun b=>b < w.heap.size /\ ¬ Xs b) (.lit (.int .i64 Lt)) (cs.getD 0 undef):=hrel 0 (by show 0 < 3;omega)
        have r1:DRel w (fun b=>b < w.heap.size /\ ¬ Xs b) (.lit (.int .i64 N)) (cs.getD 1 undef):=hrel 1 (by show 1 < 3;omega)
        have r2:DRel w (fun b=>b < w.heap.size /\ ¬ Xs b) (encD (.list tM17) mk) (cs.getD 2 undef):=hrel 2 (by show 2 < 3;omega)
        have e:cs=#[cs.getD 0 undef,cs.getD 1 undef,cs.getD 2 undef]:=by
          apply Array.ext
          · rw [hcs];rfl
          · intro i h2 h3
            have h3:i < 3:=h3
            match i,h3 with
            | 0,_=>simp [Array.getD,h2]
            | 1,_=>simp [Array.getD,h2]
            | 2,_=>simp [Array.getD,h2]
        generalize cs.getD 0 undef=z0 at r0 e
        generalize cs.getD 1 undef=z1 at r1 e
        generalize cs.getD 2 undef=z2 at r2 e
        obtain ⟨ma,mc,rfl⟩:=zvj r2
        subst e
        cases r0
        cases r1
        exact ⟨ma,mc,rfl,r2⟩
    have hY2:=hY
    clear hY
    unfold zeN at hY2
    by_cases c1:wl.length<=12/\0 < N/\N<=6/\mk.length<=20/\∀ m∈mk,0<=m.1/\m.1 < N
    case neg=>unfold G at hY2;rw [if_neg c1] at hY2;cases hY2
    rw [zal c1] at hY2
    obtain ⟨R,hR,hY3⟩:=Option.bind_eq_some_iff.1 hY2
    obtain ⟨c1,c2,c3,c4,c5⟩:=c1
    obtain ⟨k,rfl⟩:∃ k:Nat,N=(k:Int):=⟨N.toNat,by omega⟩
    have hkk:(k:Int).toNat=k:=rfl
    dsimp only at hR
    rw [hkk] at hR
    refine (zuS w Lt k wl.length mk.length mc wc ma wa (by omega) (by omega) c1 hX mk wl ⟨Nat.le_refl _,Nat.le_refl _⟩ c5 c4 hm d1 R hR).mono ?_
    rintro e w' ⟨rfl,hb⟩
    refine ⟨_,_,_,H,rfl,⟨rfl,rfl⟩,⟨hb.os,hb.tape,hb.output,hb.size⟩,fun b hb' _=>hb.block b hb',?_,?_,fun _ _=>rfl,?_⟩
    · exact ⟨fun id e he=>absurd ((hne id).symm.trans he) (by simp),fun id e v b he=>absurd ((hne id).symm.trans he) (by simp),fun i j e e' v v' b he=>absurd ((hne i).symm.trans he) (by simp)⟩
    · rintro b ⟨id,e,v,he,_⟩
      exact absurd ((hne id).symm.trans he) (by simp)
    · obtain rfl:=Option.some.inj hY3
      exact .d _ _ (.lit _ rfl)
end


def zjX:Shape:=⟨[(.list (.int .i64)),(.list (.int .i64))],[(0,.v 0),(1,.v 1)],[]⟩
def zjW:Shape:=⟨[.bool],[(0,.v 0)],[]⟩
def zlu:CE:=⟨9,zjX,zjW,fun X=>zkB X.1 X.2⟩
theorem zo8:CE.ok Try.prog zlu:=CE.of (Γ:=[]) (by kernel_rfl) zdA (GOK.nil) ⟨[(4,⟨⟨[(.int .i64)],[(5,.v 0)],[]⟩,[4,11,12,13,14,15,16,17,18,19,20,21,22,23,24,25],[],[],0,[]⟩)],[],[(6,[(0,0),(0,1),(0,2),(0,3),(0,4),(0,5),(0,6),(0,7),(0,8)])],[]⟩ Try.func9 rfl Try.ntmps9 (rs:=[.tmp 4]) rfl (sig:=zjX) (out:=zjW) rfl Try.call9 (fun X=>by kernel_rfl)

def zlt:Shape:=⟨[(.int .i64),(.list (.int .i64))],[(0,.v 0),(1,.v 1)],[]⟩
def zls:Shape:=⟨[(.list (.int .i64))],[(0,.own 0)],[(0,.arr 3 0)]⟩
def zmg:CE:=⟨10,zlt,zls,fun X=>zjv X.1 X.2⟩
theorem zqx:CE.ok Try.prog zmg:=CE.of (Γ:=[]) (by kernel_rfl) zdA (GOK.nil) ⟨[(3,⟨⟨[(.int .i64),(.list (.int .i64))],[(5,.own 1),(6,.v 0)],[(1,.arr 3 1)]⟩,[4,7,9,10,13,14,15,16,17,18,19,20,21,22,23,24,25,26,27,28,29,30,31,32,33],[],[],2,[]⟩)],[],[],[]⟩ Try.func10 rfl Try.ntmps10 (rs:=[.tmp 4]) rfl (sig:=zlt) (out:=zls) rfl Try.call10 (fun X=>by kernel_rfl)

def zeE:Shape:=⟨[(.pair (.int .i64) (.pair (.int .i64) (.pair (.list (.pair (.int .i64) (.pair (.list (.int .i64)) .unit))) .unit))),(.list (.int .i64))],[(0,.v 0),(1,.v 1)],[]⟩
def zeD:Shape:=⟨[.bool],[(0,.v 0)],[]⟩
def zdc:CE:=⟨3,zeE,zeD,fun X=>zeZ X.1 X.2⟩
theorem zjq:CE.ok Try.prog zdc:=CE.of (Γ:=[zhQ,zjU,zi7,zhV,zlq,zlu,zmg]) (by kernel_rfl) zdA (GOK.cons zlO (GOK.cons zn7 (GOK.cons zni (GOK.cons zlQ (GOK.cons zo7 (GOK.cons zo8 (GOK.cons zqx (GOK.nil)))))))) ⟨[(9,⟨⟨[(.int .i64),(.int .i64)],[(9,.v 0),(10,.v 1)],[]⟩,[44,45,46,47,48,49,50,51,52,53,54,55],[],[0,1],2,[]⟩),(13,⟨⟨[(.list (.int .i64))],[(11,.own 2)],[(2,.arr 3 0)]⟩,[4,12,13,14,57,58,59,60,61,62,63,64,65,66,67,68,69,70,71,72,73,74,75,76,77,78,79,80,81,82,83,84,85],[],[0,1],3,[]⟩)],[(4,⟨⟨[(.int .i64)],[(8,.v 0)],[]⟩,[24,25,26,27,28,29],[],[0,1],2,[]⟩)],[],[]⟩ Try.func3 rfl Try.ntmps3 (rs:=[.tmp 4]) rfl (sig:=zeE) (out:=zeD) rfl Try.call3 (fun X=>by kernel_rfl)

end
end Go.Proofs.Ytmogekkikaelhaa.parikhToldW
