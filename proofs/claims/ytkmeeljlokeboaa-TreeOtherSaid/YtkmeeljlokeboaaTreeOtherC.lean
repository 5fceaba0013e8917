/- That the functions of 'TreeOther' compute so. -/
import Derived.Test.YtkmeeljlokeboaaTreeOtherD
import Derived.Test.YtkmeeljlokeboaaProg
import Derived.KernelRfl
set_option maxHeartbeats 1000000
set_option maxRecDepth 20000
set_option linter.unusedSimpArgs false
set_option linter.unusedVariables false
set_option linter.unusedSectionVars false
namespace Go.Proofs.Ytkmeeljlokeboaa.treeOtherW
open Go Go.Ab
noncomputable section
def te3:TE:=⟨3,.int .i64,false,1,8,.int .i64 0,some (.int .i64)⟩
theorem zwY:TEok Try.prog te3:=⟨TI.of Try.underlying3 rfl (by kernel_rfl),Try.underlying3,fun t h=>by cases h;exact ⟨rfl,rfl,by decide,rfl⟩⟩
def te4:TE:=⟨4,.bool,false,1,1,.bool false,some .bool⟩
theorem zwZ:TEok Try.prog te4:=⟨TI.of Try.underlying4 rfl (by kernel_rfl),Try.underlying4,fun t h=>by cases h;exact ⟨rfl,rfl,by decide,rfl⟩⟩
def te5:TE:=⟨5,.int .u8,false,1,1,.int .u8 0,some (.int .u8)⟩
theorem zw0:TEok Try.prog te5:=⟨TI.of Try.underlying5 rfl (by kernel_rfl),Try.underlying5,fun t h=>by cases h;exact ⟨rfl,rfl,by decide,rfl⟩⟩
def te9:TE:=⟨9,.str,false,1,16,.string ⟨⟨[]⟩⟩,some .str⟩
theorem zw1:TEok Try.prog te9:=⟨TI.of Try.underlying9 rfl (by kernel_rfl),Try.underlying9,fun t h=>by cases h;exact ⟨rfl,rfl,by decide,rfl⟩⟩
def te22:TE:=⟨22,.slice 43,false,1,24,.slice none 0 0,some Tc4⟩
theorem zv7:TEok Try.prog te22:=⟨TI.of Try.underlying22 rfl (by kernel_rfl),Try.underlying22,fun t h=>by cases h;exact ⟨rfl,rfl,by decide,rfl⟩⟩
def te23:TE:=⟨23,.slice 3,false,1,24,.slice none 0 0,some (.list (.int .i64))⟩
theorem zv8:TEok Try.prog te23:=⟨TI.of Try.underlying23 rfl (by kernel_rfl),Try.underlying23,fun t h=>by cases h;exact ⟨rfl,rfl,by decide,rfl⟩⟩
def te25:TE:=⟨25,.struct [(0,3),(1,3),(2,22),(3,3),(4,23)] none,true,5,72,.agg ⟨[.int .i64 0,.int .i64 0,.slice none 0 0,.int .i64 0,.slice none 0 0]⟩,some Tc1⟩
theorem zv9:TEok Try.prog te25:=⟨TI.of Try.underlying25 rfl (by kernel_rfl),⟨⟨_,Try.underlying25,rfl⟩,fun t h=>by cases h⟩,fun t h=>by cases h;exact ⟨rfl,rfl,by decide,rfl⟩⟩
def te26:TE:=⟨26,.slice 47,false,1,24,.slice none 0 0,some (.list Tc6)⟩
theorem zwa:TEok Try.prog te26:=⟨TI.of Try.underlying26 rfl (by kernel_rfl),Try.underlying26,fun t h=>by cases h;exact ⟨rfl,rfl,by decide,rfl⟩⟩
def te28:TE:=⟨28,.struct [(0,26)] none,true,1,24,.agg ⟨[.slice none 0 0]⟩,some (.pair (.list Tc6) .unit)⟩
theorem zwb:TEok Try.prog te28:=⟨TI.of Try.underlying28 rfl (by kernel_rfl),⟨⟨_,Try.underlying28,rfl⟩,fun t h=>by cases h⟩,fun t h=>by cases h;exact ⟨rfl,rfl,by decide,rfl⟩⟩
def te30:TE:=⟨30,.int .i64,false,1,8,.int .i64 0,some (.int .i64)⟩
theorem zwc:TEok Try.prog te30:=⟨TI.of Try.underlying30 rfl (by kernel_rfl),Try.underlying30,fun t h=>by cases h;exact ⟨rfl,rfl,by decide,rfl⟩⟩
def te43:TE:=⟨43,.struct [(0,3),(1,3),(2,3),(3,3)] none,true,4,32,.agg ⟨[.int .i64 0,.int .i64 0,.int .i64 0,.int .i64 0]⟩,some Tc5⟩
theorem zwd:TEok Try.prog te43:=⟨TI.of Try.underlying43 rfl (by kernel_rfl),⟨⟨_,Try.underlying43,rfl⟩,fun t h=>by cases h⟩,fun t h=>by cases h;exact ⟨rfl,rfl,by decide,rfl⟩⟩
def te45:TE:=⟨45,.slice 4,false,1,24,.slice none 0 0,some (.list .bool)⟩
theorem zwe:TEok Try.prog te45:=⟨TI.of Try.underlying45 rfl (by kernel_rfl),Try.underlying45,fun t h=>by cases h;exact ⟨rfl,rfl,by decide,rfl⟩⟩
def te47:TE:=⟨47,.struct [(0,3),(1,3),(2,3)] none,true,3,24,.agg ⟨[.int .i64 0,.int .i64 0,.int .i64 0]⟩,some Tc6⟩
theorem zwf:TEok Try.prog te47:=⟨TI.of Try.underlying47 rfl (by kernel_rfl),⟨⟨_,Try.underlying47,rfl⟩,fun t h=>by cases h⟩,fun t h=>by cases h;exact ⟨rfl,rfl,by decide,rfl⟩⟩
def te48:TE:=⟨48,.slice 45,false,1,24,.slice none 0 0,some (.list (.list .bool))⟩
theorem zwg:TEok Try.prog te48:=⟨TI.of Try.underlying48 rfl (by kernel_rfl),Try.underlying48,fun t h=>by cases h;exact ⟨rfl,rfl,by decide,rfl⟩⟩
def te60:TE:=⟨60,.int .u64,false,1,8,.int .u64 0,some (.int .u64)⟩
theorem zwi:TEok Try.prog te60:=⟨TI.of Try.underlying60 rfl (by kernel_rfl),Try.underlying60,fun t h=>by cases h;exact ⟨rfl,rfl,by decide,rfl⟩⟩
def te62:TE:=⟨62,.int .i64,false,1,8,.int .i64 0,some (.int .i64)⟩
theorem zwj:TEok Try.prog te62:=⟨TI.of Try.underlying62 rfl (by kernel_rfl),Try.underlying62,fun t h=>by cases h;exact ⟨rfl,rfl,by decide,rfl⟩⟩
def te71:TE:=⟨71,.int .u64,false,1,8,.int .u64 0,some (.int .u64)⟩
theorem zwk:TEok Try.prog te71:=⟨TI.of Try.underlying71 rfl (by kernel_rfl),Try.underlying71,fun t h=>by cases h;exact ⟨rfl,rfl,by decide,rfl⟩⟩
def te72:TE:=⟨72,.int .u64,false,1,8,.int .u64 0,some (.int .u64)⟩
theorem zwl:TEok Try.prog te72:=⟨TI.of Try.underlying72 rfl (by kernel_rfl),Try.underlying72,fun t h=>by cases h;exact ⟨rfl,rfl,by decide,rfl⟩⟩
def te52:TE:=⟨52,.map 3 3 ((.int .i64)),false,1,8,.map none,none⟩
theorem zwh:TEok Try.prog te52:=⟨TI.of Try.underlying52 rfl (by kernel_rfl),⟨Try.underlying52,SK.int' Try.underlying3⟩,fun t h=>by cases h⟩
def TT:List TE:=[te3,te4,te5,te9,te22,te23,te25,te26,te28,te30,te43,te45,te47,te48,te60,te62,te71,te72,te52]
theorem zdx:TOK Try.prog TT:=TOK.cons zwY (TOK.cons zwZ (TOK.cons zw0 (TOK.cons zw1 (TOK.cons zv7 (TOK.cons zv8 (TOK.cons zv9 (TOK.cons zwa (TOK.cons zwb (TOK.cons zwc (TOK.cons zwd (TOK.cons zwe (TOK.cons zwf (TOK.cons zwg (TOK.cons zwi (TOK.cons zwj (TOK.cons zwk (TOK.cons zwl (TOK.cons zwh (TOK.nil)))))))))))))))))))

def zl6:Shape:=⟨[(.list (.int .i64))],[(0,.v 0)],[]⟩
def zl5:Shape:=⟨[(.list (.int .i64))],[(0,.own 0)],[(0,.arr 3 0)]⟩
def znm:CE:=⟨9,zl6,zl5,fun X=>zmL X⟩
theorem zri:CE.ok Try.prog znm:=CE.of (Γ:=[]) (by kernel_rfl) zdx (GOK.nil) ⟨[],[],[],[]⟩ Try.func9 rfl Try.ntmps9 (rs:=[.tmp 2]) rfl (sig:=zl6) (out:=zl5) rfl Try.call9 (fun X=>by kernel_rfl)

def zkz:Shape:=⟨[Tc1],[(0,.v 0)],[]⟩
def zky:Shape:=⟨[Tc1],[(0,.v 0)],[]⟩
def zl7:CE:=⟨4,zkz,zky,fun X=>znn X⟩
theorem zqg:CE.ok Try.prog zl7:=CE.of (Γ:=[znm]) (by kernel_rfl) zdx (GOK.cons zri (GOK.nil)) ⟨[],[],[],[]⟩ Try.func4 rfl Try.ntmps4 (rs:=[.cell 2 25]) rfl (sig:=zkz) (out:=zky) rfl Try.call4 (fun X=>by kernel_rfl)

def zit:Shape:=⟨[(.int .i64),Tc1],[(0,.v 0),(1,.addr 1)],[]⟩
def zis:Shape:=⟨[.bool],[(0,.v 0)],[]⟩
def zi6:CE:=⟨17,zit,zis,fun X=>zff X.1 X.2⟩
theorem znG:CE.ok Try.prog zi6:=CE.of (Γ:=[]) (by kernel_rfl) zdx (GOK.nil) ⟨[],[],[],[]⟩ Try.func17 rfl Try.ntmps17 (rs:=[.tmp 3]) rfl (sig:=zit) (out:=zis) rfl Try.call17 (fun X=>by kernel_rfl)

def ziv:Shape:=⟨[(.int .i64)],[(0,.v 0)],[]⟩
def ziu:Shape:=⟨[.bool],[(0,.v 0)],[]⟩
def zi7:CE:=⟨19,ziv,ziu,fun X=>zgg X⟩
theorem znH:CE.ok Try.prog zi7:=CE.of (Γ:=[]) (by kernel_rfl) zdx (GOK.nil) ⟨[],[],[],[]⟩ Try.func19 rfl Try.ntmps19 (rs:=[.tmp 2]) rfl (sig:=ziv) (out:=ziu) rfl Try.call19 (fun X=>by kernel_rfl)

def zgz:Shape:=⟨[(.list (.int .i64))],[(0,.v 0),(1,.fn 19 [])],[]⟩
def zgy:Shape:=⟨[(.int .i64)],[(0,.v 0)],[]⟩
def zg6:CE:=⟨23,zgz,zgy,fun X=>zir X⟩
theorem zka:CE.ok Try.prog zg6:=CE.of (Γ:=[zi7]) (by kernel_rfl) zdx (GOK.cons znH (GOK.nil)) ⟨[(2,⟨⟨[(.int .i64)],[(8,.v 0)],[]⟩,[4,5,9,10,11,12,13,14,15,16,17,18],[],[],0,[]⟩)],[],[],[]⟩ Try.func23 rfl Try.ntmps23 (rs:=[.tmp 4]) rfl (sig:=zgz) (out:=zgy) rfl Try.call23 (fun X=>by kernel_rfl)

def zfw:Shape:=⟨[(.list (.int .i64))],[(0,.v 0),(1,.fn 19 [])],[]⟩
def zfv:Shape:=⟨[.bool],[(0,.v 0)],[]⟩
def zfK:CE:=⟨18,zfw,zfv,fun X=>zeY X⟩
theorem ziH:CE.ok Try.prog zfK:=CE.of (Γ:=[zg6]) (by kernel_rfl) zdx (GOK.cons zka (GOK.nil)) ⟨[],[],[],[]⟩ Try.func18 rfl Try.ntmps18 (rs:=[.tmp 4]) rfl (sig:=zfw) (out:=zfv) rfl Try.call18 (fun X=>by kernel_rfl)

def zkj:Shape:=⟨[(.int .i64)],[(0,.v 0)],[]⟩
def zki:Shape:=⟨[.bool],[(0,.v 0)],[]⟩
def zlV:CE:=⟨28,zkj,zki,fun X=>zkh X⟩
theorem zpT:CE.ok Try.prog zlV:=CE.of (Γ:=[]) (by kernel_rfl) zdx (GOK.nil) ⟨[],[],[],[]⟩ Try.func28 rfl Try.ntmps28 (rs:=[.tmp 2]) rfl (sig:=zkj) (out:=zki) rfl Try.call28 (fun X=>by kernel_rfl)

def ziM:Shape:=⟨[(.int .i64),(.int .i64)],[(0,.v 0),(1,.v 1)],[]⟩
def ziL:Shape:=⟨[(.int .i64)],[(0,.v 0)],[]⟩
def zjG:CE:=⟨25,ziM,ziL,fun X=>zeW X.1 X.2⟩
theorem znX:CE.ok Try.prog zjG:=CE.of (Γ:=[zlV]) (by kernel_rfl) zdx (GOK.cons zpT (GOK.nil)) ⟨[],[],[],[]⟩ Try.func25 rfl Try.ntmps25 (rs:=[.tmp 4]) rfl (sig:=ziM) (out:=ziL) rfl Try.call25 (fun X=>by kernel_rfl)

def zog:Shape:=⟨[(.list (.int .i64))],[(0,.v 0)],[]⟩
def zof:Shape:=⟨[(.int .i64)],[(0,.v 0)],[]⟩
def zpS:CE:=⟨24,zog,zof,fun X=>zrJ X⟩
theorem zs6:CE.ok Try.prog zpS:=CE.of (Γ:=[]) (by kernel_rfl) zdx (GOK.nil) ⟨[(3,⟨⟨[(.int .i64)],[(8,.v 0)],[]⟩,[2,5,9,10,11,12,13,14,15,16],[],[],0,[]⟩)],[],[],[]⟩ Try.func24 rfl Try.ntmps24 (rs:=[.tmp 2]) rfl (sig:=zog) (out:=zof) rfl Try.call24 (fun X=>by kernel_rfl)

def zjS:Shape:=⟨[Tc5,Tc5],[(0,.v 0),(1,.v 1)],[]⟩
def zjR:Shape:=⟨[(.int .i64)],[(0,.v 0)],[]⟩
def zcF:CE:=⟨20,zjS,zjR,fun X=>zbu X.1 X.2⟩
theorem zc9:CE.ok Try.prog zcF:=CE.of (Γ:=[zjG,zpS]) (by kernel_rfl) zdx (GOK.cons znX (GOK.cons zs6 (GOK.nil))) ⟨[],[],[(1,[(0,0),(0,1),(0,2),(0,3),(0,5),(0,6),(0,7),(0,8),(0,10),(0,11),(0,12),(0,13),(0,15),(0,16),(0,17),(0,18),(1,4),(1,9),(1,14),(1,19),(1,20),(1,21),(0,22)])],[]⟩ Try.func20 rfl Try.ntmps20 (rs:=[.tmp 4]) rfl (sig:=zjS) (out:=zjR) rfl Try.call20 (fun X=>by kernel_rfl)

def zjQ:Shape:=⟨[Tc1],[(0,.v 0)],[]⟩
def zjP:Shape:=⟨[(.int .i64)],[(0,.v 0)],[]⟩
def zk3:CE:=⟨10,zjQ,zjP,fun X=>zjy X⟩
theorem zpC:CE.ok Try.prog zk3:=CE.of (Γ:=[zi6,zfK,zcF]) (by kernel_rfl) zdx (GOK.cons znG (GOK.cons ziH (GOK.cons zc9 (GOK.nil)))) ⟨[(7,⟨⟨[(.int .i64)],[(42,.v 0)],[]⟩,[2,5,6,43,44,45,46,47,48,49,50,51,52,53,54,55,56,57,58,59,60,61,62,63,64,65,66,67,68,69,70,71,72,73,74,75,76,77,78,79,80,81,82,83,84,85,86],[],[0],1,[]⟩),(16,⟨⟨[(.int .i64)],[(93,.v 0)],[]⟩,[2,7,94,95,96,97,98,99,100,101,102,103,104,105,106,107,108,109,110,111,112,113],[],[0],1,[]⟩)],[(9,⟨⟨[.bool],[(6,.v 0)],[]⟩,[46,47,48,49,50,51,52,53],[],[0,1],2,[]⟩)],[(18,[(0,0),(0,1),(0,2),(0,3),(0,4),(0,5),(0,6),(0,7),(0,8),(0,9),(0,10),(0,11),(0,12),(0,13),(1,14),(0,15),(0,16)])],[]⟩ Try.func10 rfl Try.ntmps10 (rs:=[.tmp 2]) rfl (sig:=zjQ) (out:=zjP) rfl Try.call10 (fun X=>by kernel_rfl)

def zle:Shape:=⟨[Tc1,(.int .i64),(.int .i64),(.int .i64)],[(0,.v 0),(1,.v 1),(2,.v 2),(3,.v 3)],[]⟩
def zld:Shape:=⟨[(.int .i64)],[(0,.v 0)],[]⟩
def zmk:CE:=⟨13,zle,zld,fun X=>zlc X.1 X.2.1 X.2.2.1 X.2.2.2⟩
theorem zqE:CE.ok Try.prog zmk:=CE.of (Γ:=[]) (by kernel_rfl) zdx (GOK.nil) ⟨[(3,⟨⟨[(.int .i64),(.int .i64)],[(9,.v 0),(15,.v 1)],[]⟩,[11,16,17,18,19,20,21,22,23,24,25,26,27,28,29,30,31,32,33,34,35,36,37,38,39,40,41,42,43,44,45,46,47,48,49,50,51,52,53,54],[],[0],1,[]⟩)],[],[],[]⟩ Try.func13 rfl Try.ntmps13 (rs:=[.tmp 8]) rfl (sig:=zle) (out:=zld) rfl Try.call13 (fun X=>by kernel_rfl)

def ziz:Shape:=⟨[(.int .i64),(.int .i64),(.int .i64),Tc1],[(0,.v 0),(1,.v 1),(2,.v 2),(3,.addr 3)],[]⟩
def ziy:Shape:=⟨[(.int .i64)],[(0,.v 0)],[]⟩
def zi9:CE:=⟨12,ziz,ziy,fun X=>zda X.1 X.2.1 X.2.2.1 X.2.2.2⟩
theorem znI:CE.ok Try.prog zi9:=CE.of (Γ:=[zmk]) (by kernel_rfl) zdx (GOK.cons zqE (GOK.nil)) ⟨[],[],[],[]⟩ Try.func12 rfl Try.ntmps12 (rs:=[.tmp 7]) rfl (sig:=ziz) (out:=ziy) rfl Try.call12 (fun X=>by kernel_rfl)

def zjd:Shape:=⟨[(.int .i64),(.list (.int .i64)),(.list (.int .i64)),(.list (.int .i64))],[(0,.v 0),(1,.ptr 100000 0),(2,.ptr 100001 0)],[(100000,.box 52 [.own 100002]),(100001,.box 23 [.own 100003]),(100002,.box 52 [.v 1,.v 2]),(100003,.arr 3 3)]⟩
def zjc:Shape:=⟨[(.int .i64),(.list (.int .i64)),(.list (.int .i64)),(.list (.int .i64))],[(0,.v 0)],[(100000,.box 52 [.own 100002]),(100001,.box 23 [.own 51]),(51,.arr 3 1),(100002,.box 52 [.v 2,.v 3])]⟩
def zjW:CE:=⟨21,zjd,zjc,fun X=>zb8 X.1 X.2.1 X.2.2.1 X.2.2.2⟩
theorem zob:CE.ok Try.prog zjW:=CE.of (Γ:=[]) (by kernel_rfl) zdx (GOK.nil) ⟨[],[],[],[]⟩ Try.func21 rfl Try.ntmps21 (rs:=[.tmp 4]) rfl (sig:=zjd) (out:=zjc) rfl Try.call21 (fun X=>by kernel_rfl)

def zk6:Shape:=⟨[Tc1,(.int .i64)],[(0,.v 0),(1,.v 1)],[]⟩
def zk5:Shape:=⟨[.bool],[(0,.v 0)],[]⟩
def zmi:CE:=⟨15,zk6,zk5,fun X=>znK X.1 X.2⟩
theorem zqC:CE.ok Try.prog zmi:=CE.of (Γ:=[]) (by kernel_rfl) zdx (GOK.nil) ⟨[(2,⟨⟨[(.int .i64)],[(10,.v 0)],[]⟩,[4,5,6,11,12,13,14,15,16,17,18,19,20,21,22,23,24],[],[0],1,[]⟩)],[],[],[]⟩ Try.func15 rfl Try.ntmps15 (rs:=[.tmp 4]) rfl (sig:=zk6) (out:=zk5) rfl Try.call15 (fun X=>by kernel_rfl)

def ziB:Shape:=⟨[(.int .i64),Tc1],[(0,.v 0),(1,.addr 1)],[]⟩
def ziA:Shape:=⟨[(.int .i64)],[(0,.v 0)],[]⟩
def zja:CE:=⟨14,ziB,ziA,fun X=>zhp X.1 X.2⟩
theorem znJ:CE.ok Try.prog zja:=CE.of (Γ:=[zmi]) (by kernel_rfl) zdx (GOK.cons zqC (GOK.nil)) ⟨[],[],[],[]⟩ Try.func14 rfl Try.ntmps14 (rs:=[.tmp 3]) rfl (sig:=ziB) (out:=ziA) rfl Try.call14 (fun X=>by kernel_rfl)

def zjF:Shape:=⟨[(.int .u64)],[(0,.v 0)],[]⟩
def zjE:Shape:=⟨[(.int .i64)],[(0,.v 0)],[]⟩
def zkf:CE:=⟨38,zjF,zjE,fun X=>zlk X⟩
theorem zoM:CE.ok Try.prog zkf:=CE.of (Γ:=[]) (by kernel_rfl) zdx (GOK.nil) ⟨[],[(3,⟨⟨[(.int .u64),(.int .i64)],[(0,.v 0),(2,.v 1)],[]⟩,[3,4,5,6],[],[],0,[]⟩),(6,⟨⟨[(.int .u64),(.int .i64)],[(0,.v 0),(2,.v 1)],[]⟩,[7,8,9,10,11,12],[],[],0,[]⟩),(9,⟨⟨[(.int .u64),(.int .i64)],[(0,.v 0),(2,.v 1)],[]⟩,[13,14,15,16,17,18],[],[],0,[]⟩)],[],[]⟩ Try.func38 rfl Try.ntmps38 (rs:=[.tmp 2]) rfl (sig:=zjF) (out:=zjE) rfl Try.call38 (fun X=>by kernel_rfl)

def zlS:Shape:=⟨[(.int .u64)],[(0,.v 0)],[]⟩
def zlR:Shape:=⟨[(.int .i64)],[(0,.v 0)],[]⟩
def zj1:CE:=⟨27,zlS,zlR,fun X=>zke X⟩
theorem zmV:CE.ok Try.prog zj1:=CE.of (Γ:=[zkf]) (by kernel_rfl) zdx (GOK.cons zoM (GOK.nil)) ⟨[],[],[],[]⟩ Try.func27 rfl Try.ntmps27 (rs:=[.tmp 2]) rfl (sig:=zlS) (out:=zlR) rfl Try.call27 (fun X=>by kernel_rfl)

def zdC:Shape:=⟨[(.int .i64),(.int .i64),Tc4],[(0,.own 100000),(1,.v 0),(2,.v 1),(3,.fn 20 [])],[(100000,.arr 43 2)]⟩
def zdB:Shape:=⟨[Tc4],[],[(100000,.arr 43 0)]⟩
def zdK:CE:=⟨29,zdC,zdB,fun X=>zbO X.1 X.2.1 X.2.2⟩
theorem zge:CE.ok Try.prog zdK:=CE.of (Γ:=[zcF]) (by kernel_rfl) zdx (GOK.cons zc9 (GOK.nil)) ⟨[(1,⟨⟨[(.int .i64),Tc4],[(0,.own 100000),(8,.v 0)],[(100000,.arr 43 1)]⟩,[9,12,13,14,15,16,17,18,19,20,21,22,23,24,25,26,27,28,29,30,31,32,33,34,35,36,37,38,39,40,41,42,43,44,45,46,47,48,49,50,51,52],[],[],0,[]⟩),(4,⟨⟨[(.int .i64),Tc4],[(0,.own 100000),(9,.v 0)],[(100000,.arr 43 1)]⟩,[18,19,20,21,22,23,24,25,26,27,28,29,30,31,32,33,34,35,36,37,38,39,40,41,42,43,44,45,46,47,48,49,50,51,52],[],[],0,[]⟩)],[],[(4,[(0,0),(0,1),(0,2),(0,3),(0,4),(0,5),(0,6),(0,7),(0,8),(0,9),(0,10),(0,11),(0,12),(0,13),(1,14),(0,15),(0,16)]),(6,[(0,0),(0,1),(0,2),(0,3),(0,4),(0,5),(0,6),(0,7),(0,8),(0,9),(0,10),(0,11),(0,12),(0,13),(0,14),(2,15),(0,16),(2,17)])],[]⟩ Try.func29 rfl Try.ntmps29 (rs:=[]) rfl (sig:=zdC) (out:=zdB) rfl Try.call29 (fun X=>by kernel_rfl)

def zey:Shape:=⟨[(.int .i64),(.int .i64),(.int .i64),Tc4],[(0,.own 100000),(1,.v 0),(2,.v 1),(3,.v 2),(4,.fn 20 [])],[(100000,.arr 43 3)]⟩
def zex:Shape:=⟨[Tc4],[],[(100000,.arr 43 0)]⟩
def zeN:CE:=⟨39,zey,zex,fun X=>zb6 X.1 X.2.1 X.2.2.1 X.2.2.2⟩
theorem zhA:CE.ok Try.prog zeN:=CE.of (Γ:=[zcF]) (by kernel_rfl) zdx (GOK.cons zc9 (GOK.nil)) ⟨[(1,⟨⟨[(.int .i64),Tc4],[(0,.own 100000),(10,.v 0)],[(100000,.arr 43 1)]⟩,[11,13,14,15,16,17,18,19,20,21,22,23,24,25,26,27,28,29,30,31,32,33,34,35,36,37,38,39,40,41,42,43,44,45,46,47,48,49,50,51,52,53,54,55,56,57,58,59,60,61,62,63,64,65,66,67,68,69,70,71,72,73,74,75,76,77,78,79,80,81],[],[],0,[]⟩)],[(3,⟨⟨[.bool],[(40,.v 0)],[]⟩,[19,20,21,22,23,24,25,26,27,28,29,30,31,32,33,34,35,36,37,38,39],[],[],0,[]⟩),(4,⟨⟨[(.int .i64)],[(11,.v 0)],[]⟩,[19,20,21,22,23,24,25,26,27,28,29,30,31,32,33,34,35,36,37,38,39,40,41,42],[],[],0,[]⟩)],[(3,[(0,0),(0,1),(0,2),(0,3),(0,4),(0,5),(0,6),(0,7),(0,8),(0,9),(0,10),(0,11),(0,12),(0,13),(0,14),(0,15),(0,16),(0,17),(0,18),(1,19),(0,20),(0,21)]),(5,[(0,0),(0,1),(0,2),(0,3),(0,4),(0,5),(0,6),(0,7),(0,8),(0,9),(0,10),(0,11),(0,12),(1,13),(0,14),(0,15)]),(6,[(0,0),(0,1),(0,2),(0,3),(0,4),(0,5),(0,6),(0,7),(0,8),(0,9),(0,10),(0,11),(0,12),(0,13),(0,14),(0,15),(0,16),(0,17),(0,18),(0,19),(0,20),(2,21),(0,22),(2,23)])],[]⟩ Try.func39 rfl Try.ntmps39 (rs:=[]) rfl (sig:=zey) (out:=zex) rfl Try.call39 (fun X=>by kernel_rfl)

def zeu:Shape:=⟨[(.int .i64),(.int .i64),Tc4],[(0,.own 100000),(1,.v 0),(2,.v 1),(3,.fn 20 [])],[(100000,.arr 43 2)]⟩
def zet:Shape:=⟨[Tc4],[],[(100000,.arr 43 0)]⟩
def zeI:CE:=⟨30,zeu,zet,fun X=>zcV X.1 X.2.1 X.2.2⟩
theorem zhz:CE.ok Try.prog zeI:=CE.of (Γ:=[zeN]) (by kernel_rfl) zdx (GOK.cons zhA (GOK.nil)) ⟨[(4,⟨⟨[(.int .i64),Tc4],[(0,.own 100000),(11,.v 0)],[(100000,.arr 43 1)]⟩,[20,21,22,23,24,25,26,27,28,29],[],[],0,[]⟩),(8,⟨⟨[(.int .i64),Tc4],[(0,.own 100000),(12,.v 0)],[(100000,.arr 43 1)]⟩,[32,33,34,35,36,37,38,39,40,41,42,43,44,45,46,47,48,49,50,51,52,53,54,55,56,57,58,59],[],[],0,[]⟩)],[],[(10,[(0,0),(0,1),(0,2),(0,3),(0,4),(0,5),(0,6),(0,7),(0,8),(0,9),(0,10),(0,11),(0,12),(0,13),(0,14),(0,15),(0,16),(2,17),(0,18),(2,19)])],[]⟩ Try.func30 rfl Try.ntmps30 (rs:=[]) rfl (sig:=zeu) (out:=zet) rfl Try.call30 (fun X=>by kernel_rfl)

def zeK:Shape:=⟨[(.int .i64)],[(0,.v 0)],[]⟩
def zeJ:Shape:=⟨[(.int .u64)],[(0,.v 0)],[]⟩
def ze9:CE:=⟨40,zeK,zeJ,fun X=>zc6 X⟩
theorem zhY:CE.ok Try.prog ze9:=CE.of (Γ:=[zj1]) (by kernel_rfl) zdx (GOK.cons zmV (GOK.nil)) ⟨[],[],[],[]⟩ Try.func40 rfl Try.ntmps40 (rs:=[.tmp 2]) rfl (sig:=zeK) (out:=zeJ) rfl Try.call40 (fun X=>by kernel_rfl)

def zfe:Shape:=⟨[(.int .u64)],[(0,.ptr 100000 0)],[(100000,.box 72 [.v 0])]⟩
def zfd:Shape:=⟨[(.int .u64),(.int .u64)],[(0,.v 0)],[(100000,.box 72 [.v 1])]⟩
def zfE:CE:=⟨41,zfe,zfd,fun X=>zeB X⟩
theorem zil:CE.ok Try.prog zfE:=CE.of (Γ:=[]) (by kernel_rfl) zdx (GOK.nil) ⟨[],[],[(1,[(0,0),(0,1),(0,2),(0,3),(0,4),(0,5),(0,6),(0,7),(0,8),(2,9)]),(2,[(0,0),(0,1),(0,2),(0,3),(0,4),(0,5),(0,6),(0,7),(0,8),(2,9)]),(3,[(0,0),(0,1),(0,2),(0,3),(0,4),(0,5),(0,6),(0,7),(0,8),(2,9)])],[]⟩ Try.func41 rfl Try.ntmps41 (rs:=[.tmp 2]) rfl (sig:=zfe) (out:=zfd) rfl Try.call41 (fun X=>by kernel_rfl)

def zdA:Shape:=⟨[(.int .i64),(.int .i64),Tc4],[(0,.own 100000),(1,.v 0),(2,.v 1),(3,.fn 20 [])],[(100000,.arr 43 2)]⟩
def zdz:Shape:=⟨[Tc4],[],[(100000,.arr 43 0)]⟩
def zdJ:CE:=⟨31,zdA,zdz,fun X=>zbN X.1 X.2.1 X.2.2⟩
theorem zgb:CE.ok Try.prog zdJ:=CE.of (Γ:=[zfE,ze9]) (by kernel_rfl) zdx (GOK.cons zil (GOK.cons zhY (GOK.nil))) ⟨[(5,⟨⟨[(.int .i64),Tc4,(.int .u64)],[(0,.own 100000),(9,.ptr 0 0),(11,.v 0)],[(100000,.arr 43 1),(0,.box 72 [.v 2])]⟩,[12,28,29,30,31,32,33,34,35,36,37,38,39,40,41,42,43,44,45,46,47,48,49,50,51,52,53,54,55,56,57,58,59,60,61,62,63,64,65,66],[],[],1,[]⟩)],[(9,⟨⟨[(.int .i64)],[(12,.v 0)],[]⟩,[43,44,45,46,47,48],[],[0],1,[]⟩)],[(10,[(0,0),(0,1),(0,2),(0,3),(0,4),(0,5),(0,6),(0,7),(0,8),(0,9),(0,10),(0,11),(0,12),(0,13),(0,14),(0,15),(0,16),(2,17),(0,18),(2,19)])],[]⟩ Try.func31 rfl Try.ntmps31 (rs:=[]) rfl (sig:=zdA) (out:=zdz) rfl Try.call31 (fun X=>by kernel_rfl)

def zfb:Shape:=⟨[Tc4,(.int .i64),(.int .i64),(.int .i64)],[(0,.v 0),(1,.v 1),(2,.v 2),(3,.ptr 100000 0),(4,.fn 20 [])],[(100000,.box 3 [.v 3])]⟩
def zfa:Shape:=⟨[(.int .i64),(.int .i64),(.int .i64)],[(0,.v 0),(1,.v 1)],[(100000,.box 3 [.v 2])]⟩
def zfC:CE:=⟨44,zfb,zfa,fun X=>zbS X.1 X.2.1 X.2.2.1 X.2.2.2⟩
theorem zik:CE.ok Try.prog zfC:=CE.of (Γ:=[zcF]) (by kernel_rfl) zdx (GOK.cons zc9 (GOK.nil)) ⟨[],[],[(1,[(0,0),(0,1),(0,2),(0,3),(0,4),(0,5),(0,6),(0,7),(0,8),(1,9),(0,10)])],[]⟩ Try.func44 rfl Try.ntmps44 (rs:=[.tmp 10,.tmp 11]) rfl (sig:=zfb) (out:=zfa) rfl Try.call44 (fun X=>by kernel_rfl)

def ze8:Shape:=⟨[Tc4,(.int .i64),(.int .i64),(.int .i64),(.int .i64)],[(0,.v 0),(1,.v 1),(2,.v 2),(3,.v 3),(4,.ptr 100000 0),(5,.fn 20 [])],[(100000,.box 3 [.v 4])]⟩
def ze7:Shape:=⟨[(.int .i64),(.int .i64)],[(0,.v 0)],[(100000,.box 3 [.v 1])]⟩
def zdT:CE:=⟨43,ze8,ze7,fun X=>zcx X.1 X.2.1 X.2.2.1 X.2.2.2.1 X.2.2.2.2⟩
theorem zfB:CE.ok Try.prog zdT:=CE.of (Γ:=[zfC]) (by kernel_rfl) zdx (GOK.cons zik (GOK.nil)) ⟨[],[],[],[]⟩ Try.func43 rfl Try.ntmps43 (rs:=[.tmp 12]) rfl (sig:=ze8) (out:=ze7) rfl Try.call43 (fun X=>by kernel_rfl)

def zdo:Shape:=⟨[Tc4,(.int .i64),(.int .i64)],[(0,.v 0),(1,.v 1),(2,.ptr 100000 0),(3,.fn 20 [])],[(100000,.box 3 [.v 2])]⟩
def zdn:Shape:=⟨[(.int .i64),(.int .i64)],[(0,.v 0)],[(100000,.box 3 [.v 1])]⟩
def zdD:CE:=⟨42,zdo,zdn,fun X=>za7 X.1 X.2.1 X.2.2⟩
theorem zfT:CE.ok Try.prog zdD:=CE.of (Γ:=[zdT]) (by kernel_rfl) zdx (GOK.cons zfB (GOK.nil)) ⟨[],[],[],[]⟩ Try.func42 rfl Try.ntmps42 (rs:=[.tmp 8]) rfl (sig:=zdo) (out:=zdn) rfl Try.call42 (fun X=>by kernel_rfl)

def zdZ:Shape:=⟨[Tc4,(.int .i64),(.int .i64)],[(0,.v 0),(1,.v 1),(2,.v 2),(3,.fn 20 [])],[]⟩
def zdY:Shape:=⟨[(.int .i64),(.int .i64)],[(0,.v 0),(1,.v 1)],[]⟩
def zd9:CE:=⟨32,zdZ,zdY,fun X=>zce X.1 X.2.1 X.2.2⟩
theorem zgF:CE.ok Try.prog zd9:=CE.of (Γ:=[zdD,zdT]) (by kernel_rfl) zdx (GOK.cons zfT (GOK.cons zfB (GOK.nil))) ⟨[],[(10,⟨⟨[(.int .i64),(.int .i64),(.int .i64),(.int .i64)],[(11,.ptr 0 0),(12,.v 0),(13,.v 1),(14,.v 2)],[(0,.box 3 [.v 3])]⟩,[35,36,37,38,39,40,41,42,43,44,45,46,47,48],[],[],1,[]⟩),(11,⟨⟨[(.int .i64),(.int .i64)],[(11,.ptr 0 0),(13,.v 0)],[(0,.box 3 [.v 1])]⟩,[12,14,33,34,35,36,37,38,39,40,41,42,43,44,45,46,47,48,49,50,51,52,53,54],[],[],1,[]⟩)],[],[]⟩ Try.func32 rfl Try.ntmps32 (rs:=[.tmp 8,.tmp 9]) rfl (sig:=zdZ) (out:=zdY) rfl Try.call32 (fun X=>by kernel_rfl)

def zdP:Shape:=⟨[(.int .i64),(.int .i64),Tc4],[(0,.own 100000),(1,.v 0),(2,.v 1),(3,.fn 20 [])],[(100000,.arr 43 2)]⟩
def zdO:Shape:=⟨[Tc4],[],[(100000,.arr 43 0)]⟩
def zd6:CE:=⟨33,zdP,zdO,fun X=>zb3 X.1 X.2.1 X.2.2⟩
theorem zgt:CE.ok Try.prog zd6:=CE.of (Γ:=[]) (by kernel_rfl) zdx (GOK.nil) ⟨[(2,⟨⟨[(.int .i64),(.int .i64),Tc4],[(0,.own 100000),(8,.v 0),(9,.v 1)],[(100000,.arr 43 2)]⟩,[13,14,15,16,17,18,19,20,21,22,23,24,25,26,27,28,29,30,31,32,33],[],[],0,[]⟩)],[],[(3,[(0,0),(0,1),(0,2),(0,3),(0,4),(0,5),(0,6),(0,7),(0,8),(0,9),(0,10),(0,11),(0,12),(2,13),(0,14),(2,15)])],[]⟩ Try.func33 rfl Try.ntmps33 (rs:=[]) rfl (sig:=zdP) (out:=zdO) rfl Try.call33 (fun X=>by kernel_rfl)

def zcs:Shape:=⟨[(.int .i64),(.int .i64),Tc4],[(0,.own 100000),(1,.v 0),(2,.v 1),(3,.fn 20 [])],[(100000,.arr 43 2)]⟩
def zcr:Shape:=⟨[.bool,Tc4],[(0,.v 0)],[(100000,.arr 43 1)]⟩
def zcy:CE:=⟨34,zcs,zcr,fun X=>zbh X.1 X.2.1 X.2.2⟩
theorem zez:CE.ok Try.prog zcy:=CE.of (Γ:=[zcF]) (by kernel_rfl) zdx (GOK.cons zc9 (GOK.nil)) ⟨[(3,⟨⟨[(.int .i64),(.int .i64),Tc4],[(0,.own 100000),(9,.v 0),(10,.v 1)],[(100000,.arr 43 2)]⟩,[8,11,12,15,16,17,18,19,20,21,22,23,24,25,26,27,28,29,30,31,32,33,34,35,36,37,38,39,40,41,42,43,44,45,46,47,48,49,50,51,52,53,54,55,56,57,58,59,60,61,62,63,64,65,66,67,68,69,70,71,72,73,74,75,76,77,78,79,80,81,82,83,84,85,86,87,88,89,90,91,92,93,94,95,96,97,98,99,100,101,102,103,104,105,106,107,108,109,110,111,112,113,114,115,116,117,118,119,120,121,122,123,124,125,126,127,128,129,130,131,132,133,134,135,136,137,138,139,140],[],[],0,[]⟩),(5,⟨⟨[(.int .i64)],[(9,.v 0)],[]⟩,[19,20,21,22,23,24,25,26,27,28,29,30,31,32,33,34,35,36,37,38],[],[],0,[]⟩),(14,⟨⟨[(.int .i64),Tc4],[(0,.own 100000),(11,.v 0)],[(100000,.arr 43 1)]⟩,[68,69,70,71,72,73,74,75,76,77,78,79,80,81,82,83,84,85,86,87,88,89,90,91,92,93,94,95,96,97,98,99,100],[],[],0,[]⟩),(20,⟨⟨[(.int .i64),Tc4],[(0,.own 100000),(12,.v 0)],[(100000,.arr 43 1)]⟩,[107,108,109,110,111,112,113,114,115,116,117,118,119,120,121,122,123,124,125,126,127,128,129,130,131,132,133,134,135,136,137,138,139,140],[],[],0,[]⟩)],[(6,⟨⟨[(.int .i64)],[(9,.v 0)],[]⟩,[19,20,21,22,23,24,25,26,27,28,29,30,31,32,33,34,35,36,37,38],[],[],0,[]⟩),(15,⟨⟨[Tc4],[(0,.own 100000)],[(100000,.arr 43 0)]⟩,[11,62,63,64,65,66,67,68,69,70,71,72,73,74,75,76,77,78,79,80,81,82,83,84,85,86,87,88,89,90,91,92,93,94,95,96,97,98,99,100],[],[],0,[]⟩)],[(5,[(0,0),(0,1),(0,2),(0,3),(0,4),(0,5),(0,6),(0,7),(0,8),(0,9),(0,10),(0,11),(0,12),(0,13),(1,14),(0,15),(0,16),(0,17)]),(11,[(0,0),(0,1),(0,2),(0,3),(0,4),(0,5),(0,6),(0,7),(0,8),(0,9),(0,10),(0,11),(0,12),(0,13),(0,14),(2,15),(0,16),(2,17)]),(16,[(0,0),(0,1),(0,2),(0,3),(0,4),(0,5),(0,6),(0,7),(0,8),(0,9),(1,10),(0,11),(0,12)]),(22,[(0,0),(0,1),(0,2),(0,3),(0,4),(0,5),(0,6),(0,7),(0,8),(0,9),(1,10),(0,11),(0,12)]),(23,[(0,0),(0,1),(0,2),(0,3),(0,4),(0,5),(0,6),(0,7),(0,8),(0,9),(0,10),(0,11),(0,12),(0,13),(0,14),(2,15),(0,16),(2,17)]),(17,[(0,0),(0,1),(0,2),(0,3),(0,4),(0,5),(0,6),(0,7),(0,8),(0,9),(0,10),(0,11),(0,12),(0,13),(0,14),(2,15),(0,16),(2,17)])],[]⟩ Try.func34 rfl Try.ntmps34 (rs:=[.tmp 8]) rfl (sig:=zcs) (out:=zcr) rfl Try.call34 (fun X=>by kernel_rfl)

def zds:Shape:=⟨[(.int .i64),(.int .i64),(.int .i64),Tc4],[(0,.own 100000),(1,.v 0),(2,.v 1),(3,.v 2),(4,.fn 20 [])],[(100000,.arr 43 3)]⟩
def zdr:Shape:=⟨[(.int .i64),Tc4],[(0,.v 0)],[(100000,.arr 43 1)]⟩
def zdE:CE:=⟨35,zds,zdr,fun X=>zbE X.1 X.2.1 X.2.2.1 X.2.2.2⟩
theorem zfY:CE.ok Try.prog zdE:=CE.of (Γ:=[zcF]) (by kernel_rfl) zdx (GOK.cons zc9 (GOK.nil)) ⟨[(10000003,⟨⟨[(.int .i64),(.int .i64),Tc4],[(0,.own 100000),(11,.v 0),(12,.v 1)],[(100000,.arr 43 2)]⟩,[31,32,33,34,35,36,37,38,39,40,41,42,43,44,45,46,47,48,49,50,51,52,53,54,55,56,57,58,59,60,61,62,63,64,65,66,67,68,69,70,71,72,73,74,75,76,77,78,79,80,81,82,83,84,85,86,87,88],[],[],0,[]⟩),(3,⟨⟨[(.int .i64)],[(11,.v 0)],[]⟩,[31,32,33,34,35,36,37,38,39,40,41,42,43,44,45,46,47,48,49],[],[],0,[]⟩),(5,⟨⟨[(.int .i64)],[(12,.v 0)],[]⟩,[50,51,52,53,54,55,56,57,58,59,60,61,62,63,64,65,66,67],[],[],0,[]⟩)],[(4,⟨⟨[(.int .i64)],[(11,.v 0)],[]⟩,[31,32,33,34,35,36,37,38,39,40,41,42,43,44,45,46,47,48,49],[],[],0,[]⟩),(6,⟨⟨[(.int .i64)],[(12,.v 0)],[]⟩,[50,51,52,53,54,55,56,57,58,59,60,61,62,63,64,65,66,67],[],[],0,[]⟩)],[(1,[(0,0),(0,1),(0,2),(0,3),(0,4),(0,5),(0,6),(0,7),(0,8),(0,9),(0,10),(0,11),(0,12),(2,13),(0,14),(2,15)]),(3,[(0,0),(0,1),(0,2),(0,3),(0,4),(0,5),(0,6),(0,7),(0,8),(0,9),(0,10),(0,11),(0,12),(1,13),(0,14),(0,15),(0,16)]),(5,[(0,0),(0,1),(0,2),(0,3),(0,4),(0,5),(0,6),(0,7),(0,8),(0,9),(0,10),(0,11),(0,12),(1,13),(0,14),(0,15)]),(8,[(0,0),(0,1),(0,2),(0,3),(0,4),(0,5),(0,6),(0,7),(0,8),(0,9),(0,10),(0,11),(0,12),(2,13),(0,14),(2,15)])],[]⟩ Try.func35 rfl Try.ntmps35 (rs:=[.tmp 10]) rfl (sig:=zds) (out:=zdr) rfl Try.call35 (fun X=>by kernel_rfl)

def zeo:Shape:=⟨[(.int .i64),(.int .i64),(.int .i64),Tc4],[(0,.own 100000),(1,.v 0),(2,.v 1),(3,.v 2),(4,.fn 20 [])],[(100000,.arr 43 3)]⟩
def zen:Shape:=⟨[(.int .i64),.bool,Tc4],[(0,.v 0),(1,.v 1)],[(100000,.arr 43 2)]⟩
def zev:CE:=⟨36,zeo,zen,fun X=>zcB X.1 X.2.1 X.2.2.1 X.2.2.2⟩
theorem zhd:CE.ok Try.prog zev:=CE.of (Γ:=[zcF]) (by kernel_rfl) zdx (GOK.cons zc9 (GOK.nil)) ⟨[(3,⟨⟨[(.int .i64)],[(12,.v 0)],[]⟩,[32,33,34,35,36,37,38,39,40,41,42,43,44,45,46,47,48,49],[],[],0,[]⟩),(5,⟨⟨[(.int .i64)],[(13,.v 0)],[]⟩,[50,51,52,53,54,55,56,57,58,59,60,61,62,63,64,65,66,67,68],[],[],0,[]⟩),(10000013,⟨⟨[(.int .i64),(.int .i64),Tc4],[(0,.own 100000),(12,.v 0),(13,.v 1)],[(100000,.arr 43 2)]⟩,[105,106,107,108,109,110,111,112,113,114,115,116,117,118,119,120,121,122,123,124,125,126,127,128,129,130,131,132,133,134,135,136,137,138,139,140,141,142,143,144,145,146,147,148,149,150,151,152,153,154,155,156,157,158,159,160,161,162],[],[],0,[]⟩),(13,⟨⟨[(.int .i64)],[(12,.v 0)],[]⟩,[105,106,107,108,109,110,111,112,113,114,115,116,117,118,119,120,121,122],[],[],0,[]⟩),(15,⟨⟨[(.int .i64)],[(13,.v 0)],[]⟩,[123,124,125,126,127,128,129,130,131,132,133,134,135,136,137,138,139,140,141],[],[],0,[]⟩)],[(4,⟨⟨[(.int .i64)],[(12,.v 0)],[]⟩,[32,33,34,35,36,37,38,39,40,41,42,43,44,45,46,47,48,49],[],[],0,[]⟩),(6,⟨⟨[(.int .i64)],[(13,.v 0)],[]⟩,[50,51,52,53,54,55,56,57,58,59,60,61,62,63,64,65,66,67,68],[],[],0,[]⟩),(14,⟨⟨[(.int .i64)],[(12,.v 0)],[]⟩,[105,106,107,108,109,110,111,112,113,114,115,116,117,118,119,120,121,122],[],[],0,[]⟩),(16,⟨⟨[(.int .i64)],[(13,.v 0)],[]⟩,[123,124,125,126,127,128,129,130,131,132,133,134,135,136,137,138,139,140,141],[],[],0,[]⟩)],[(1,[(0,0),(0,1),(0,2),(0,3),(0,4),(0,5),(0,6),(0,7),(0,8),(0,9),(0,10),(0,11),(0,12),(2,13),(0,14),(2,15)]),(3,[(0,0),(0,1),(0,2),(0,3),(0,4),(0,5),(0,6),(0,7),(0,8),(0,9),(0,10),(0,11),(0,12),(1,13),(0,14),(0,15)]),(5,[(0,0),(0,1),(0,2),(0,3),(0,4),(0,5),(0,6),(0,7),(0,8),(0,9),(0,10),(0,11),(0,12),(1,13),(0,14),(0,15),(0,16)]),(8,[(0,0),(0,1),(0,2),(0,3),(0,4),(0,5),(0,6),(0,7),(0,8),(0,9),(0,10),(0,11),(0,12),(2,13),(0,14),(2,15)]),(10,[(0,0),(0,1),(0,2),(0,3),(0,4),(0,5),(0,6),(0,7),(0,8),(0,9),(0,10),(0,11),(0,12),(2,13),(0,14),(2,15)]),(13,[(0,0),(0,1),(0,2),(0,3),(0,4),(0,5),(0,6),(0,7),(0,8),(0,9),(0,10),(0,11),(0,12),(1,13),(0,14),(0,15)]),(15,[(0,0),(0,1),(0,2),(0,3),(0,4),(0,5),(0,6),(0,7),(0,8),(0,9),(0,10),(0,11),(0,12),(1,13),(0,14),(0,15),(0,16)]),(21,[(0,0),(0,1),(0,2),(0,3),(0,4),(0,5),(0,6),(0,7),(0,8),(0,9),(0,10),(0,11),(0,12),(2,13),(0,14),(2,15)]),(18,[(0,0),(0,1),(0,2),(0,3),(0,4),(0,5),(0,6),(0,7),(0,8),(0,9),(0,10),(0,11),(0,12),(2,13),(0,14),(2,15)])],[]⟩ Try.func36 rfl Try.ntmps36 (rs:=[.tmp 10,.tmp 11]) rfl (sig:=zeo) (out:=zen) rfl Try.call36 (fun X=>by kernel_rfl)

def zeM:Shape:=⟨[(.int .i64),(.int .i64),(.int .i64),Tc4],[(0,.own 100000),(1,.v 0),(2,.v 1),(3,.v 2),(4,.fn 20 [])],[(100000,.arr 43 3)]⟩
def zeL:Shape:=⟨[Tc4],[],[(100000,.arr 43 0)]⟩
def zfc:CE:=⟨26,zeM,zeL,LFix zcC⟩
theorem zh1:CE.ok Try.prog zfc:=CE.ofRec (Γ:=[zdK,zeI,zdJ,zd6,zcy,zdE,zev,zd9,zcF]) (by kernel_rfl) zdx (GOK.cons zge (GOK.cons zhz (GOK.cons zgb (GOK.cons zgt (GOK.cons zez (GOK.cons zfY (GOK.cons zhd (GOK.cons zgF (GOK.cons zc9 (GOK.nil)))))))))) ⟨[(2,⟨⟨[(.int .i64),(.int .i64),(.int .i64),.bool,.bool,Tc4],[(0,.own 100000),(1,.v 0),(2,.v 1),(3,.v 2),(10,.v 3),(11,.v 4)],[(100000,.arr 43 5)]⟩,[12,13,14,15,16,17,18,19,20,21,22,23,24,25,26,27,28,29,30,31,32,33,34,35,36,37,38,39,40,41,42,43,44,45,46,47,48,49,50,51,52,53,54,55,56,57,58,59,60,61,62,63,64,65,66,67,68,69,70,71,72,73,74,75,76,77,78,79,80,81,82,83,84,85,86,87,88,89,90,91,92,93,94,95,96,97,98,99,100,101,102,103,104,105,106,107,108,109,110,111,112,113,114,115,116,117,118,119,120,121,122,123,124,125,126,127,128,129,130,131,132,133,134,135,136,137,138,139,140,141,142,143,144,145,146,147],[],[],0,[]⟩)],[(9,⟨⟨[(.int .i64),Tc4],[(0,.own 100000),(3,.v 0)],[(100000,.arr 43 1)]⟩,[38,39,40,41,42,43,44,45,46],[],[],0,[]⟩),(14,⟨⟨[(.int .i64),(.int .i64),Tc4],[(0,.own 100000),(13,.v 0),(14,.v 1)],[(100000,.arr 43 2)]⟩,[55,56,57,58,59,60,61,62,63,64,65,66,67],[],[],0,[]⟩),(15,⟨⟨[.bool],[(75,.v 0)],[]⟩,[68,69,70,71,72,73,74],[],[],0,[]⟩),(16,⟨⟨[Tc4],[(0,.own 100000)],[(100000,.arr 43 0)]⟩,[68,69,70,71,72,73,74,75,76,77,78,79,80],[],[],0,[]⟩),(17,⟨⟨[.bool],[(97,.v 0)],[]⟩,[81,82,83,84,85,86,87,88,89,90,91,92,93,94,95,96],[],[],0,[]⟩)],[(17,[(0,0),(0,1),(0,2),(0,3),(0,4),(0,5),(0,6),(0,7),(0,8),(0,9),(0,10),(0,11),(0,12),(1,13),(0,14),(0,15),(0,16)])],[]⟩ Try.func26 rfl Try.ntmps26 (rs:=[]) rfl (sig:=zeM) (out:=zeL) rfl Try.call26 (d:=zcC) (fun rc X=>by kernel_rfl)

def zg9:Shape:=⟨[Tc4],[(0,.own 100000),(1,.fn 20 [])],[(100000,.arr 43 0)]⟩
def zg8:Shape:=⟨[Tc4],[],[(100000,.arr 43 0)]⟩
def zho:CE:=⟨22,zg9,zg8,fun X=>zg7 X⟩
theorem zk0:CE.ok Try.prog zho:=CE.of (Γ:=[zfc,zj1]) (by kernel_rfl) zdx (GOK.cons zh1 (GOK.cons zmV (GOK.nil))) ⟨[],[],[],[]⟩ Try.func22 rfl Try.ntmps22 (rs:=[]) rfl (sig:=zg9) (out:=zg8) rfl Try.call22 (fun X=>by kernel_rfl)

def zlb:Shape:=⟨[(.int .i64),Tc1,Tc1],[(0,.v 0),(1,.fn 12 [.addr 1]),(2,.fn 14 [.addr 2])],[]⟩
def zla:Shape:=⟨[Tc1],[(0,.v 0)],[]⟩
def zmj:CE:=⟨11,zlb,zla,fun X=>zk7 X.1 X.2.1 X.2.2⟩
theorem zqD:CE.ok Try.prog zmj:=CE.of (Γ:=[zjW,zho,zi9,zja]) (by kernel_rfl) zdx (GOK.cons zob (GOK.cons zk0 (GOK.cons znI (GOK.cons znJ (GOK.nil))))) ⟨[(6,⟨⟨[(.int .i64),(.int .i64),(.int .i64),(.int .i64),(.list (.int .i64)),(.list (.int .i64)),(.list (.int .i64)),Tc4],[(8,.ptr 3 0),(9,.fn 21 [.ptr 2 0,.ptr 3 0]),(10,.ptr 4 0),(22,.v 0)],[(3,.box 23 [.own 5]),(2,.box 52 [.own 1]),(4,.box 25 [.v 1,.v 2,.own 6,.v 3,.nil]),(1,.box 52 [.v 4,.v 5]),(5,.arr 3 6),(6,.arr 43 7)]⟩,[7,11,17,18,23,24,25,26,27,28,29,30,31,32,33,34,35,36,37],[],[0],7,[(3,0,some 3,(.int .i64)),(4,2,some 43,Tc5)]⟩),(11,⟨⟨[(.int .i64),(.int .i64),(.int .i64),(.int .i64),(.list (.int .i64)),(.list (.int .i64)),(.list (.int .i64)),Tc4],[(8,.ptr 3 0),(9,.fn 21 [.ptr 2 0,.ptr 3 0]),(10,.ptr 4 0),(12,.v 0)],[(3,.box 23 [.own 5]),(2,.box 52 [.own 1]),(4,.box 25 [.v 1,.v 2,.own 6,.v 3,.nil]),(5,.arr 3 4),(1,.box 52 [.v 5,.v 6]),(6,.arr 43 7)]⟩,[13,14,38,39,40,41,42,43,44,45,46,47,48,49,50,51,52,53,54,55,56,57,58,59,60,61,62,63,64,65,66,67,68,69,70,71,72,73,74,75,76,77,78,79,80,81,82,83,84,85,86,87,88,89,90,91,92,93,94,95,96,97,98,99,100,101],[],[0],7,[]⟩),(14,⟨⟨[(.int .i64),(.int .i64),(.int .i64),(.int .i64),(.list (.int .i64)),(.list (.int .i64)),(.list (.int .i64)),Tc4],[(8,.ptr 3 0),(9,.fn 21 [.ptr 2 0,.ptr 3 0]),(10,.ptr 4 0),(45,.v 0)],[(3,.box 23 [.own 5]),(2,.box 52 [.own 1]),(4,.box 25 [.v 1,.v 2,.own 6,.v 3,.nil]),(5,.arr 3 4),(1,.box 52 [.v 5,.v 6]),(6,.arr 43 7)]⟩,[13,14,39,46,47,48,49,50,51,52,53,54,55,56,57,58,59,60,61,62,63,64,65,66,67,68,69,70,71,72,73,74,75,76,77,78,79,80,81,82,83,84,85,86,87,88,89,90,91,92,93,94,95,96,97,98,99,100,101],[],[0],7,[]⟩),(17,⟨⟨[(.int .i64),(.int .i64),(.int .i64),(.int .i64),(.list (.int .i64)),(.list (.int .i64)),(.list (.int .i64)),Tc4],[(8,.ptr 3 0),(9,.fn 21 [.ptr 2 0,.ptr 3 0]),(10,.ptr 4 0),(50,.v 0)],[(3,.box 23 [.own 5]),(2,.box 52 [.own 1]),(4,.box 25 [.v 1,.v 2,.own 6,.v 3,.nil]),(5,.arr 3 4),(1,.box 52 [.v 5,.v 6]),(6,.arr 43 7)]⟩,[14,39,51,52,53,54,55,56,57,58,59,60,61,62,63,64,65,66,67,68,69,70,71,72,73,74,75,76,77,78,79,80,81,82,83,84,85,86,87,88,89,90,91,92,93,94,95,96,97,98,99,100],[],[0],7,[]⟩),(25,⟨⟨[(.int .i64),(.int .i64),(.int .i64),(.int .i64),Tc4,(.list (.int .i64))],[(10,.ptr 4 0),(104,.v 0)],[(4,.box 25 [.v 1,.v 2,.own 6,.v 3,.own 7]),(6,.arr 43 4),(7,.arr 3 5)]⟩,[16,105,106,107,108,109,110,111,112,113,114,115,116],[],[0,1,2,3,5],8,[(4,4,some 3,(.int .i64))]⟩)],[(8,⟨⟨[(.int .i64),(.int .i64),(.int .i64),(.list (.int .i64)),(.list (.int .i64)),(.list (.int .i64)),Tc4],[(8,.ptr 3 0),(9,.fn 21 [.ptr 2 0,.ptr 3 0]),(10,.ptr 4 0)],[(3,.box 23 [.own 7]),(2,.box 52 [.own 1]),(4,.box 25 [.v 0,.v 1,.own 8,.v 2,.nil]),(7,.arr 3 3),(1,.box 52 [.v 4,.v 5]),(8,.arr 43 6)]⟩,[11,24,25,26,27,28,29,30,31,32,33,34,35,36],[5,6],[0],9,[]⟩),(19,⟨⟨[(.int .i64),(.int .i64),(.int .i64),(.list (.int .i64)),(.list (.int .i64)),(.list (.int .i64)),Tc4],[(8,.ptr 3 0),(9,.fn 21 [.ptr 2 0,.ptr 3 0]),(10,.ptr 4 0)],[(3,.box 23 [.own 7]),(2,.box 52 [.own 1]),(4,.box 25 [.v 0,.v 1,.own 8,.v 2,.nil]),(7,.arr 3 3),(1,.box 52 [.v 4,.v 5]),(8,.arr 43 6)]⟩,[53,54,55,56,57,58,59,60,61,62,63,64,65,66,67,68,69,70,71,72,73,74],[5,6],[0],9,[]⟩),(21,⟨⟨[(.int .i64),(.int .i64),(.int .i64),(.list (.int .i64)),(.list (.int .i64)),(.list (.int .i64)),Tc4],[(8,.ptr 3 0),(9,.fn 21 [.ptr 2 0,.ptr 3 0]),(10,.ptr 4 0)],[(3,.box 23 [.own 7]),(2,.box 52 [.own 1]),(4,.box 25 [.v 0,.v 1,.own 8,.v 2,.nil]),(7,.arr 3 3),(1,.box 52 [.v 4,.v 5]),(8,.arr 43 6)]⟩,[14,39,52,53,54,55,56,57,58,59,60,61,62,63,64,65,66,67,68,69,70,71,72,73,74,75,76,77,78,79,80,81,82,83,84,85,86,87,88,89,90,91,92,93,94,95,96,97,98,99],[5,6],[0],9,[]⟩)],[(27,[(0,0),(0,1),(0,2),(0,3),(1,4),(1,5),(2,6),(0,7),(2,8)])],[(8,(.one 0 (.one 2 (.one 3 (.one 4 (.one 5 (.live [6,7,10,12] (.ban 1 [10,11,12] (.alt 2 6 (.leaf [(2,7),(0,8),(1,9),(2,10),(0,11),(2,12)]) .stop) (.alt 2 6 (.live [7,10,12] (.ban 1 [10,11,12] (.alt 2 7 (.leaf [(0,8),(1,9),(2,10),(0,11),(2,12)]) .stop) (.alt 2 7 (.leaf [(0,8),(0,1),(1,9),(2,10),(0,11),(2,12)]) .stop))) .stop))))))))),(19,(.one 0 (.one 2 (.one 3 (.one 4 (.one 5 (.one 6 (.one 7 (.one 9 (.one 13 (.live [16,17,20,22] (.rd 8 [10,11,16,17,18,19,20,21,22] (.one 10 (.rd 11 [16,17,18,19,20,21,22] (.rd 12 [14,15,16,17,18,19,20,21,22] (.one 14 (.rd 15 [16,17,18,19,20,21,22] (.ban 1 [20,21,22] (.alt 2 16 (.leaf [(2,17),(0,18),(1,19),(2,20),(0,21),(2,22)]) .stop) (.alt 2 16 (.live [17,20,22] (.ban 1 [20,21,22] (.alt 2 17 (.leaf [(0,18),(1,19),(2,20),(0,21),(2,22)]) .stop) (.alt 2 17 (.leaf [(0,18),(0,1),(1,19),(2,20),(0,21),(2,22)]) .stop))) .stop))))))))))))))))))),(21,(.one 0 (.one 2 (.one 3 (.one 4 (.one 5 (.one 6 (.one 7 (.one 9 (.one 13 (.live [16,17,20,22] (.rd 8 [10,11,16,17,18,19,20,21,22] (.one 10 (.rd 11 [16,17,18,19,20,21,22] (.rd 12 [14,15,16,17,18,19,20,21,22] (.one 14 (.rd 15 [16,17,18,19,20,21,22] (.ban 1 [20,21,22] (.alt 2 16 (.leaf [(2,17),(0,18),(1,19),(2,20),(0,21),(2,22)]) .stop) (.alt 2 16 (.live [17,20,22] (.ban 1 [20,21,22] (.alt 2 17 (.leaf [(0,18),(1,19),(2,20),(0,21),(2,22)]) .stop) (.alt 2 17 (.leaf [(0,18),(0,1),(1,19),(2,20),(0,21),(2,22)]) .stop))) .stop)))))))))))))))))))]⟩ Try.func11 rfl Try.ntmps11 (rs:=[.cell 6 25]) rfl (sig:=zlb) (out:=zla) rfl Try.call11 (fun X=>by kernel_rfl)

def zjU:Shape:=⟨[Tc1],[(0,.v 0)],[]⟩
def zjT:Shape:=⟨[Tc1,(.int .i64)],[(0,.v 0),(1,.v 1)],[]⟩
def zk4:CE:=⟨5,zjU,zjT,fun X=>zgN X⟩
theorem zpD:CE.ok Try.prog zk4:=CE.of (Γ:=[zk3,zmj]) (by kernel_rfl) zdx (GOK.cons zpC (GOK.cons zqD (GOK.nil))) ⟨[],[],[],[]⟩ Try.func5 rfl Try.ntmps5 (rs:=[.cell 2 25,.tmp 3]) rfl (sig:=zjU) (out:=zjT) rfl Try.call5 (fun X=>by kernel_rfl)

def zkS:Shape:=⟨[Tc5,Tc5],[(0,.v 0),(1,.v 1)],[]⟩
def zkR:Shape:=⟨[.bool],[(0,.v 0)],[]⟩
def zmb:CE:=⟨16,zkS,zkR,fun X=>zkQ X.1 X.2⟩
theorem zqo:CE.ok Try.prog zmb:=CE.of (Γ:=[]) (by kernel_rfl) zdx (GOK.nil) ⟨[],[],[],[]⟩ Try.func16 rfl Try.ntmps16 (rs:=[.tmp 4]) rfl (sig:=zkS) (out:=zkR) rfl Try.call16 (fun X=>by kernel_rfl)

def zkW:Shape:=⟨[Tc1],[(0,.v 0)],[]⟩
def zkV:Shape:=⟨[(.int .i64)],[(0,.v 0)],[]⟩
def zmc:CE:=⟨6,zkW,zkV,fun X=>ziZ X⟩
theorem zqp:CE.ok Try.prog zmc:=CE.of (Γ:=[zmb]) (by kernel_rfl) zdx (GOK.cons zqo (GOK.nil)) ⟨[(6,⟨⟨[(.int .i64)],[(3,.v 0)],[]⟩,[2,4,5,6,40,41,42,43,44,45,46,47,48,49,50,51,52,53,54,55,56,57,58,59,60,61,62,63,64,65,66,67,68,69,70,71,72,73,74,75,76,77,78,79,80,81,82,83,84,85,86,87,88,89,90,91,92,93,94,95,96,97,98,99,100,101,102,103,104,105,106,107,108,109,110,111],[],[0],1,[]⟩),(14,⟨⟨[(.int .i64)],[(7,.v 0)],[]⟩,[2,112,113,114,115,116,117,118,119,120,121,122,123,124,125,126,127,128,129,130,131,132],[],[0],1,[]⟩),(19,⟨⟨[(.int .i64)],[(8,.v 0)],[]⟩,[2,9,133,134,135,136,137,138,139,140,141,142,143,144,145,146,147,148,149,150,151,152,153],[],[0],1,[]⟩)],[(9,⟨⟨[.bool],[(5,.v 0)],[]⟩,[52,53,54,55,56,57,58,59],[],[0,1],2,[]⟩),(10,⟨⟨[.bool],[(6,.v 0)],[]⟩,[60,61,62,63,64,65,66,67,68,69,70,71,72,73,74,75,76,77,78,79,80,81],[],[0,1],2,[]⟩)],[(21,[(0,0),(0,1),(0,2),(0,3),(0,4),(0,5),(0,6),(0,7),(0,8),(0,9),(0,10),(1,11),(0,12)])],[]⟩ Try.func6 rfl Try.ntmps6 (rs:=[.tmp 2]) rfl (sig:=zkW) (out:=zkV) rfl Try.call6 (fun X=>by kernel_rfl)

def zme:Shape:=⟨[(.int .i64),(.pair (.list Tc6) .unit)],[(0,.v 0),(1,.v 1)],[]⟩
def zmd:Shape:=⟨[(.int .i64)],[(0,.v 0)],[]⟩
def znA:CE:=⟨7,zme,zmd,fun X=>zmO X.1 X.2⟩
theorem zrq:CE.ok Try.prog znA:=CE.of (Γ:=[]) (by kernel_rfl) zdx (GOK.nil) ⟨[(8,⟨⟨[(.int .i64),(.list .bool)],[(6,.own 1),(7,.v 0)],[(1,.arr 4 1)]⟩,[4,8,26,27,28,29,30,31,32,33,34,35,36,37,38,39,40,41,42,43,44,45,46,47,48,49,50,51,52,53,54,55,56,57,58,59,60,61,62,63,64,65,66,67,68,69,70,71,72,73,74,75,76,77,78,79,80,81,82,83,84,85,86,87,88,89,90,91,92,93],[],[0],2,[]⟩),(21,⟨⟨[(.int .i64)],[(9,.v 0)],[]⟩,[4,94,95,96,97,98,99,100,101,102,103,104],[],[0,1],2,[]⟩)],[(13,⟨⟨[],[],[]⟩,[46,47,48,49,50,51,52,53],[],[0,1,2],3,[]⟩)],[],[]⟩ Try.func7 rfl Try.ntmps7 (rs:=[.tmp 4]) rfl (sig:=zme) (out:=zmd) rfl Try.call7 (fun X=>by kernel_rfl)

def ziY:Shape:=⟨[Tc1,(.pair (.list Tc6) .unit)],[(0,.v 0),(1,.v 1)],[]⟩
def ziX:Shape:=⟨[.bool],[(0,.v 0)],[]⟩
def zjI:CE:=⟨8,ziY,ziX,fun X=>zeX X.1 X.2⟩
theorem zn7:CE.ok Try.prog zjI:=CE.of (Γ:=[]) (by kernel_rfl) zdx (GOK.nil) ⟨[(3,⟨⟨[(.int .i64),(.list (.list .bool))],[(5,.own 2),(6,.v 0)],[(2,.arr 45 1)]⟩,[7,8,9,10,13,14,15,16,17,18,19,20,21,22,23,24,25,26,27,28,29,30,31,32,33,34,35,36,37,38,39,40,41,42,43,44,45,46,47,48,49,50,51,52,53,54,55,56,57,58,59,60,61,62,63,64,65,66,67,68,69,70,71,72,73,74,75,76,77,78,79,80,81,82,83,84,85,86],[],[0,1],3,[]⟩),(8,⟨⟨[(.int .i64),(.list .bool)],[(8,.own 4),(9,.v 0)],[(4,.arr 4 1)]⟩,[10,27,28,29,30,31,32,33,34,35,36,37,38,39,40,41,42,43,44,45,46,47,48,49,50,51,52,53,54,55,56,57,58,59,60,61,62,63,64,65,66,67,68,69,70,71,72,73,74,75,76,77,78,79,80,81,82],[],[0,1,2,3],5,[]⟩),(17,⟨⟨[(.int .i64)],[(12,.v 0)],[]⟩,[4,93,94,95,96,97,98,99,100,101,102,103,104,105,106,107,108,109,110],[],[0,1,2],3,[]⟩)],[(12,⟨⟨[.bool],[(78,.v 0)],[]⟩,[54,55,56,57,58,59,60,61,62,63,64,65,66,67,68,69,70,71,72,73,74,75,76,77],[],[0,1,2,3,4,5],6,[]⟩)],[(12,[(0,0),(0,1),(0,2),(0,3),(0,4),(0,5),(0,6),(0,7),(0,8),(0,9),(0,10),(0,11),(0,12),(0,13),(0,14),(0,15),(0,16),(0,17),(0,18),(0,19),(0,20),(0,21),(0,22),(0,23),(0,24)])],[]⟩ Try.func8 rfl Try.ntmps8 (rs:=[.tmp 4]) rfl (sig:=ziY) (out:=ziX) rfl Try.call8 (fun X=>by kernel_rfl)

def zhN:Shape:=⟨[Tc1,(.pair (.list Tc6) .unit)],[(0,.v 0),(1,.v 1)],[]⟩
def zhM:Shape:=⟨[.bool],[(0,.v 0)],[]⟩
def zgn:CE:=⟨3,zhN,zhM,fun X=>zh8 X.1 X.2⟩
theorem zmt:CE.ok Try.prog zgn:=CE.of (Γ:=[zl7,zk4,zmc,znA,zjI]) (by kernel_rfl) zdx (GOK.cons zqg (GOK.cons zpD (GOK.cons zqp (GOK.cons zrq (GOK.cons zn7 (GOK.nil)))))) ⟨[],[(4,⟨⟨[.bool],[(32,.v 0)],[]⟩,[21,22,23,24,25,26,27,28,29,30,31],[],[0,1,2,3],4,[]⟩),(5,⟨⟨[(.int .i64)],[(8,.v 0)],[]⟩,[21,22,23,24,25,26,27,28,29,30,31,32],[],[0,1,2,3],4,[]⟩)],[],[]⟩ Try.func3 rfl Try.ntmps3 (rs:=[.tmp 4]) rfl (sig:=zhN) (out:=zhM) rfl Try.call3 (fun X=>by kernel_rfl)

end
end Go.Proofs.Ytkmeeljlokeboaa.treeOtherW
