import Derived.Test.YticelcjhokgcbaaSafraWithinD
import Derived.Test.YticelcjhokgcbaaProg
import Derived.KernelRfl
set_option maxHeartbeats 1000000
set_option maxRecDepth 20000
set_option linter.unusedVariables false
namespace Go.Proofs.Yticelcjhokgcbaa.safraWithinW
open Go Go.Ab
noncomputable section
theorem zvb:SzT Try.prog 3 ((.int .i64)):=SzT.ofTI (dsc:=false) (size:=1) (bytes:=8) (z := .int .i64 0) (TI.of Try.underlying3 rfl (by kernel_rfl)) rfl rfl
theorem zDA:SzT Try.prog 9 (.str):=SzT.ofTI (dsc:=false) (size:=1) (bytes:=16) (z := .string ⟨⟨[]⟩⟩) (TI.of Try.underlying9 rfl (by kernel_rfl)) rfl rfl
theorem zzF:SzT Try.prog 62 ((.pair (.int .i64) Tc12)):=SzT.ofTI (dsc:=true) (size:=4) (bytes:=32) (z := .agg ⟨[.int .i64 0,.int .i64 0,.int .i64 0,.int .i64 0]⟩) (TI.of Try.underlying62 rfl (by kernel_rfl)) rfl rfl
theorem zCD:SzT Try.prog 67 ((.pair (.int .i64) (.pair (.pair (.int .i64) Tc12) (.pair (.pair (.int .i64) Tc12) .unit)))):=SzT.ofTI (dsc:=true) (size:=9) (bytes:=72) (z := .agg ⟨[.int .i64 0,.int .i64 0,.int .i64 0,.int .i64 0,.int .i64 0,.int .i64 0,.int .i64 0,.int .i64 0,.int .i64 0]⟩) (TI.of Try.underlying67 rfl (by kernel_rfl)) rfl rfl
theorem zCF:SzT Try.prog 69 ((.pair (.pair (.int .i64) (.pair (.pair (.int .i64) Tc12) (.pair (.pair (.int .i64) Tc12) .unit))) (.pair (.int .i64) .unit))):=SzT.ofTI (dsc:=true) (size:=10) (bytes:=80) (z := .agg ⟨[.int .i64 0,.int .i64 0,.int .i64 0,.int .i64 0,.int .i64 0,.int .i64 0,.int .i64 0,.int .i64 0,.int .i64 0,.int .i64 0]⟩) (TI.of Try.underlying69 rfl (by kernel_rfl)) rfl rfl
theorem zAO:SzT Try.prog 113 ((.pair (.int .i64) (.pair .str .unit))):=SzT.ofTI (dsc:=true) (size:=2) (bytes:=24) (z := .agg ⟨[.int .i64 0,.string ⟨⟨[]⟩⟩]⟩) (TI.of Try.underlying113 rfl (by kernel_rfl)) rfl rfl
def te3:TE:=⟨3,.int .i64,false,1,8,.int .i64 0,some (.int .i64)⟩
theorem zDw:TEok Try.prog te3:=⟨TI.of Try.underlying3 rfl (by kernel_rfl),Try.underlying3,fun t h=>by cases h;exact ⟨rfl,rfl,by decide,rfl⟩⟩
def te4:TE:=⟨4,.bool,false,1,1,.bool false,some .bool⟩
theorem zDx:TEok Try.prog te4:=⟨TI.of Try.underlying4 rfl (by kernel_rfl),Try.underlying4,fun t h=>by cases h;exact ⟨rfl,rfl,by decide,rfl⟩⟩
def te5:TE:=⟨5,.int .u8,false,1,1,.int .u8 0,some (.int .u8)⟩
theorem zDy:TEok Try.prog te5:=⟨TI.of Try.underlying5 rfl (by kernel_rfl),Try.underlying5,fun t h=>by cases h;exact ⟨rfl,rfl,by decide,rfl⟩⟩
def te9:TE:=⟨9,.str,false,1,16,.string ⟨⟨[]⟩⟩,some .str⟩
theorem zDz:TEok Try.prog te9:=⟨TI.of Try.underlying9 rfl (by kernel_rfl),Try.underlying9,fun t h=>by cases h;exact ⟨rfl,rfl,by decide,rfl⟩⟩
def te22:TE:=⟨22,.slice 3,false,1,24,.slice none 0 0,some (.list (.int .i64))⟩
theorem zCm:TEok Try.prog te22:=⟨TI.of Try.underlying22 rfl (by kernel_rfl),Try.underlying22,fun t h=>by cases h;exact ⟨rfl,rfl,by decide,rfl⟩⟩
def te23:TE:=⟨23,.slice 47,false,1,24,.slice none 0 0,some Tc10⟩
theorem zCn:TEok Try.prog te23:=⟨TI.of Try.underlying23 rfl (by kernel_rfl),Try.underlying23,fun t h=>by cases h;exact ⟨rfl,rfl,by decide,rfl⟩⟩
def te25:TE:=⟨25,.struct [(0,3),(1,3),(2,22),(3,23),(4,22)] none,true,5,88,.agg ⟨[.int .i64 0,.int .i64 0,.slice none 0 0,.slice none 0 0,.slice none 0 0]⟩,some Tc3⟩
theorem zCo:TEok Try.prog te25:=⟨TI.of Try.underlying25 rfl (by kernel_rfl),⟨⟨_,Try.underlying25,rfl⟩,fun t h=>by cases h⟩,fun t h=>by cases h;exact ⟨rfl,rfl,by decide,rfl⟩⟩
def te27:TE:=⟨27,.struct [(0,22),(1,22)] none,true,2,48,.agg ⟨[.slice none 0 0,.slice none 0 0]⟩,some (.pair (.list (.int .i64)) Tc16)⟩
theorem zCp:TEok Try.prog te27:=⟨TI.of Try.underlying27 rfl (by kernel_rfl),⟨⟨_,Try.underlying27,rfl⟩,fun t h=>by cases h⟩,fun t h=>by cases h;exact ⟨rfl,rfl,by decide,rfl⟩⟩
def te28:TE:=⟨28,.int .i64,false,1,8,.int .i64 0,some (.int .i64)⟩
theorem zCq:TEok Try.prog te28:=⟨TI.of Try.underlying28 rfl (by kernel_rfl),Try.underlying28,fun t h=>by cases h;exact ⟨rfl,rfl,by decide,rfl⟩⟩
def te37:TE:=⟨37,.slice 25,false,1,24,.slice none 0 0,some (.list Tc3)⟩
theorem zCr:TEok Try.prog te37:=⟨TI.of Try.underlying37 rfl (by kernel_rfl),Try.underlying37,fun t h=>by cases h;exact ⟨rfl,rfl,by decide,rfl⟩⟩
def te38:TE:=⟨38,.slice 22,false,1,24,.slice none 0 0,some (.list (.list (.int .i64)))⟩
theorem zCs:TEok Try.prog te38:=⟨TI.of Try.underlying38 rfl (by kernel_rfl),Try.underlying38,fun t h=>by cases h;exact ⟨rfl,rfl,by decide,rfl⟩⟩
def te40:TE:=⟨40,.struct [(0,3),(1,3),(2,38),(3,22)] none,true,4,64,.agg ⟨[.int .i64 0,.int .i64 0,.slice none 0 0,.slice none 0 0]⟩,some Tc7⟩
theorem zCt:TEok Try.prog te40:=⟨TI.of Try.underlying40 rfl (by kernel_rfl),⟨⟨_,Try.underlying40,rfl⟩,fun t h=>by cases h⟩,fun t h=>by cases h;exact ⟨rfl,rfl,by decide,rfl⟩⟩
def te42:TE:=⟨42,.other,false,1,8,.pointer none,none⟩
theorem zCu:TEok Try.prog te42:=⟨TI.of Try.underlying42 rfl (by kernel_rfl),trivial,fun t h=>by cases h⟩
def te47:TE:=⟨47,.struct [(0,3),(1,3),(2,3)] none,true,3,24,.agg ⟨[.int .i64 0,.int .i64 0,.int .i64 0]⟩,some Tc12⟩
theorem zCv:TEok Try.prog te47:=⟨TI.of Try.underlying47 rfl (by kernel_rfl),⟨⟨_,Try.underlying47,rfl⟩,fun t h=>by cases h⟩,fun t h=>by cases h;exact ⟨rfl,rfl,by decide,rfl⟩⟩
def te50:TE:=⟨50,.slice 4,false,1,24,.slice none 0 0,some (.list .bool)⟩
theorem zCw:TEok Try.prog te50:=⟨TI.of Try.underlying50 rfl (by kernel_rfl),Try.underlying50,fun t h=>by cases h;exact ⟨rfl,rfl,by decide,rfl⟩⟩
def te54:TE:=⟨54,.other,false,1,8,.nilFunc,none⟩
theorem zCx:TEok Try.prog te54:=⟨TI.of Try.underlying54 rfl (by kernel_rfl),trivial,fun t h=>by cases h⟩
def te60:TE:=⟨60,.other,false,1,8,.pointer none,none⟩
theorem zCy:TEok Try.prog te60:=⟨TI.of Try.underlying60 rfl (by kernel_rfl),trivial,fun t h=>by cases h⟩
def te62:TE:=⟨62,.array 4 3,true,4,32,.agg ⟨[.int .i64 0,.int .i64 0,.int .i64 0,.int .i64 0]⟩,some (.pair (.int .i64) Tc12)⟩
theorem zCz:TEok Try.prog te62:=⟨TI.of Try.underlying62 rfl (by kernel_rfl),Try.underlying62,fun t h=>by cases h;exact ⟨rfl,rfl,by decide,rfl⟩⟩
def te63:TE:=⟨63,.array 4 62,true,16,128,.agg ⟨[.int .i64 0,.int .i64 0,.int .i64 0,.int .i64 0,.int .i64 0,.int .i64 0,.int .i64 0,.int .i64 0,.int .i64 0,.int .i64 0,.int .i64 0,.int .i64 0,.int .i64 0,.int .i64 0,.int .i64 0,.int .i64 0]⟩,some (.pair (.pair (.int .i64) Tc12) (.pair (.pair (.int .i64) Tc12) (.pair (.pair (.int .i64) Tc12) (.pair (.pair (.int .i64) Tc12) .unit))))⟩
theorem zCA:TEok Try.prog te63:=⟨TI.of Try.underlying63 rfl (by kernel_rfl),Try.underlying63,fun t h=>by cases h;exact ⟨rfl,rfl,by decide,rfl⟩⟩
def te65:TE:=⟨65,.struct [(0,63),(16,3)] none,true,17,136,.agg ⟨[.int .i64 0,.int .i64 0,.int .i64 0,.int .i64 0,.int .i64 0,.int .i64 0,.int .i64 0,.int .i64 0,.int .i64 0,.int .i64 0,.int .i64 0,.int .i64 0,.int .i64 0,.int .i64 0,.int .i64 0,.int .i64 0,.int .i64 0]⟩,some (.pair (.pair (.pair (.int .i64) Tc12) (.pair (.pair (.int .i64) Tc12) (.pair (.pair (.int .i64) Tc12) (.pair (.pair (.int .i64) Tc12) .unit)))) (.pair (.int .i64) .unit))⟩
theorem zCB:TEok Try.prog te65:=⟨TI.of Try.underlying65 rfl (by kernel_rfl),⟨⟨_,Try.underlying65,rfl⟩,fun t h=>by cases h⟩,fun t h=>by cases h;exact ⟨rfl,rfl,by decide,rfl⟩⟩
def te67:TE:=⟨67,.struct [(0,3),(1,62),(5,62)] none,true,9,72,.agg ⟨[.int .i64 0,.int .i64 0,.int .i64 0,.int .i64 0,.int .i64 0,.int .i64 0,.int .i64 0,.int .i64 0,.int .i64 0]⟩,some (.pair (.int .i64) (.pair (.pair (.int .i64) Tc12) (.pair (.pair (.int .i64) Tc12) .unit)))⟩
theorem zCC:TEok Try.prog te67:=⟨TI.of Try.underlying67 rfl (by kernel_rfl),⟨⟨_,Try.underlying67,rfl⟩,fun t h=>by cases h⟩,fun t h=>by cases h;exact ⟨rfl,rfl,by decide,rfl⟩⟩
def te69:TE:=⟨69,.struct [(0,67),(9,3)] none,true,10,80,.agg ⟨[.int .i64 0,.int .i64 0,.int .i64 0,.int .i64 0,.int .i64 0,.int .i64 0,.int .i64 0,.int .i64 0,.int .i64 0,.int .i64 0]⟩,some (.pair (.pair (.int .i64) (.pair (.pair (.int .i64) Tc12) (.pair (.pair (.int .i64) Tc12) .unit))) (.pair (.int .i64) .unit))⟩
theorem zCE:TEok Try.prog te69:=⟨TI.of Try.underlying69 rfl (by kernel_rfl),⟨⟨_,Try.underlying69,rfl⟩,fun t h=>by cases h⟩,fun t h=>by cases h;exact ⟨rfl,rfl,by decide,rfl⟩⟩
def te76:TE:=⟨76,.slice 79,false,1,24,.slice none 0 0,some Tc13⟩
theorem zCG:TEok Try.prog te76:=⟨TI.of Try.underlying76 rfl (by kernel_rfl),Try.underlying76,fun t h=>by cases h;exact ⟨rfl,rfl,by decide,rfl⟩⟩
def te78:TE:=⟨78,.struct [(0,25),(5,40),(9,76)] none,true,10,176,.agg ⟨[.int .i64 0,.int .i64 0,.slice none 0 0,.slice none 0 0,.slice none 0 0,.int .i64 0,.int .i64 0,.slice none 0 0,.slice none 0 0,.slice none 0 0]⟩,some Tc1⟩
theorem zCH:TEok Try.prog te78:=⟨TI.of Try.underlying78 rfl (by kernel_rfl),⟨⟨_,Try.underlying78,rfl⟩,fun t h=>by cases h⟩,fun t h=>by cases h;exact ⟨rfl,rfl,by decide,rfl⟩⟩
def te79:TE:=⟨79,.slice 80,false,1,24,.slice none 0 0,some Tc14⟩
theorem zCI:TEok Try.prog te79:=⟨TI.of Try.underlying79 rfl (by kernel_rfl),Try.underlying79,fun t h=>by cases h;exact ⟨rfl,rfl,by decide,rfl⟩⟩
def te80:TE:=⟨80,.array 2 3,true,2,16,.agg ⟨[.int .i64 0,.int .i64 0]⟩,some Tc15⟩
theorem zCJ:TEok Try.prog te80:=⟨TI.of Try.underlying80 rfl (by kernel_rfl),Try.underlying80,fun t h=>by cases h;exact ⟨rfl,rfl,by decide,rfl⟩⟩
def te81:TE:=⟨81,.other,false,1,8,.nilFunc,none⟩
theorem zCK:TEok Try.prog te81:=⟨TI.of Try.underlying81 rfl (by kernel_rfl),trivial,fun t h=>by cases h⟩
def te92:TE:=⟨92,.slice 69,false,1,24,.slice none 0 0,some (.list (.pair (.pair (.int .i64) (.pair (.pair (.int .i64) Tc12) (.pair (.pair (.int .i64) Tc12) .unit))) (.pair (.int .i64) .unit)))⟩
theorem zCM:TEok Try.prog te92:=⟨TI.of Try.underlying92 rfl (by kernel_rfl),Try.underlying92,fun t h=>by cases h;exact ⟨rfl,rfl,by decide,rfl⟩⟩
def te94:TE:=⟨94,.slice 96,false,1,24,.slice none 0 0,some (.list (.pair (.int .i64) (.pair (.int .i64) (.pair .bool (.pair .bool (.pair .bool .unit))))))⟩
theorem zCN:TEok Try.prog te94:=⟨TI.of Try.underlying94 rfl (by kernel_rfl),Try.underlying94,fun t h=>by cases h;exact ⟨rfl,rfl,by decide,rfl⟩⟩
def te96:TE:=⟨96,.struct [(0,3),(1,3),(2,4),(3,4),(4,4)] none,true,5,24,.agg ⟨[.int .i64 0,.int .i64 0,.bool false,.bool false,.bool false]⟩,some (.pair (.int .i64) (.pair (.int .i64) (.pair .bool (.pair .bool (.pair .bool .unit)))))⟩
theorem zCO:TEok Try.prog te96:=⟨TI.of Try.underlying96 rfl (by kernel_rfl),⟨⟨_,Try.underlying96,rfl⟩,fun t h=>by cases h⟩,fun t h=>by cases h;exact ⟨rfl,rfl,by decide,rfl⟩⟩
def zDp:TE:=⟨103,.slice 105,false,1,24,.slice none 0 0,some Tc10⟩
theorem zAI:TEok Try.prog zDp:=⟨TI.of Try.underlying103 rfl (by kernel_rfl),Try.underlying103,fun t h=>by cases h;exact ⟨rfl,rfl,by decide,rfl⟩⟩
def zDq:TE:=⟨105,.struct [(0,3),(1,3),(2,3)] none,true,3,24,.agg ⟨[.int .i64 0,.int .i64 0,.int .i64 0]⟩,some Tc12⟩
theorem zAJ:TEok Try.prog zDq:=⟨TI.of Try.underlying105 rfl (by kernel_rfl),⟨⟨_,Try.underlying105,rfl⟩,fun t h=>by cases h⟩,fun t h=>by cases h;exact ⟨rfl,rfl,by decide,rfl⟩⟩
def zDr:TE:=⟨107,.array 12 3,true,12,96,.agg ⟨[.int .i64 0,.int .i64 0,.int .i64 0,.int .i64 0,.int .i64 0,.int .i64 0,.int .i64 0,.int .i64 0,.int .i64 0,.int .i64 0,.int .i64 0,.int .i64 0]⟩,some (.pair (.int .i64) (.pair (.int .i64) (.pair (.int .i64) (.pair (.int .i64) (.pair (.int .i64) (.pair (.int .i64) (.pair (.int .i64) (.pair (.int .i64) (.pair (.int .i64) Tc12)))))))))⟩
theorem zAK:TEok Try.prog zDr:=⟨TI.of Try.underlying107 rfl (by kernel_rfl),Try.underlying107,fun t h=>by cases h;exact ⟨rfl,rfl,by decide,rfl⟩⟩
def zDt:TE:=⟨110,.slice 5,false,1,24,.slice none 0 0,some (.list (.int .u8))⟩
theorem zAM:TEok Try.prog zDt:=⟨TI.of Try.underlying110 rfl (by kernel_rfl),Try.underlying110,fun t h=>by cases h;exact ⟨rfl,rfl,by decide,rfl⟩⟩
def zDu:TE:=⟨113,.struct [(0,3),(1,9)] none,true,2,24,.agg ⟨[.int .i64 0,.string ⟨⟨[]⟩⟩]⟩,some (.pair (.int .i64) (.pair .str .unit))⟩
theorem zAN:TEok Try.prog zDu:=⟨TI.of Try.underlying113 rfl (by kernel_rfl),⟨⟨_,Try.underlying113,rfl⟩,fun t h=>by cases h⟩,fun t h=>by cases h;exact ⟨rfl,rfl,by decide,rfl⟩⟩
def te91:TE:=⟨91,.map 69 3 ((.pair (.pair (.int .i64) (.pair (.pair (.int .i64) Tc12) (.pair (.pair (.int .i64) Tc12) .unit))) (.pair (.int .i64) .unit))),false,1,8,.map none,none⟩
theorem zCL:TEok Try.prog te91:=⟨TI.of Try.underlying91 rfl (by kernel_rfl),⟨Try.underlying91,SK.ofKey (d:=16) (KeyT.struct zCF Try.underlying69 (by kernel_rfl) (KFs.cons (by decide) rfl (KeyT.struct zCD Try.underlying67 (by kernel_rfl) (KFs.cons (by decide) rfl (KeyT.int zvb Try.underlying3) (KFs.cons (by decide) rfl (KeyT.array zzF Try.underlying62 (KeyT.int zvb Try.underlying3) rfl) (KFs.cons (by decide) rfl (KeyT.array zzF Try.underlying62 (KeyT.int zvb Try.underlying3) rfl) KFs.nil)))) (KFs.cons (by decide) rfl (KeyT.int zvb Try.underlying3) KFs.nil))) (by decide) rfl rfl⟩,fun t h=>by cases h⟩
def zDs:TE:=⟨109,.map 113 3 ((.pair (.int .i64) (.pair .str .unit))),false,1,8,.map none,none⟩
theorem zAL:TEok Try.prog zDs:=⟨TI.of Try.underlying109 rfl (by kernel_rfl),⟨Try.underlying109,SK.ofKey (d:=16) (KeyT.struct zAO Try.underlying113 (by kernel_rfl) (KFs.cons (by decide) rfl (KeyT.int zvb Try.underlying3) (KFs.cons (by decide) rfl (KeyT.str zDA Try.underlying9) KFs.nil))) (by decide) rfl rfl⟩,fun t h=>by cases h⟩
def zDv:TE:=⟨114,.map 3 3 ((.int .i64)),false,1,8,.map none,none⟩
theorem zAP:TEok Try.prog zDv:=⟨TI.of Try.underlying114 rfl (by kernel_rfl),⟨Try.underlying114,SK.int' Try.underlying3⟩,fun t h=>by cases h⟩
def TT:List TE:=[te3,te4,te5,te9,te22,te23,te25,te27,te28,te37,te38,te40,te42,te47,te50,te54,te60,te62,te63,te65,te67,te69,te76,te78,te79,te80,te81,te92,te94,te96,zDp,zDq,zDr,zDt,zDu,te91,zDs,zDv]
theorem zbF:TOK Try.prog TT:=TOK.cons zDw (TOK.cons zDx (TOK.cons zDy (TOK.cons zDz (TOK.cons zCm (TOK.cons zCn (TOK.cons zCo (TOK.cons zCp (TOK.cons zCq (TOK.cons zCr (TOK.cons zCs (TOK.cons zCt (TOK.cons zCu (TOK.cons zCv (TOK.cons zCw (TOK.cons zCx (TOK.cons zCy (TOK.cons zCz (TOK.cons zCA (TOK.cons zCB (TOK.cons zCC (TOK.cons zCE (TOK.cons zCG (TOK.cons zCH (TOK.cons zCI (TOK.cons zCJ (TOK.cons zCK (TOK.cons zCM (TOK.cons zCN (TOK.cons zCO (TOK.cons zAI (TOK.cons zAJ (TOK.cons zAK (TOK.cons zAM (TOK.cons zAN (TOK.cons zCL (TOK.cons zAL (TOK.cons zAP (TOK.nil))))))))))))))))))))))))))))))))))))))

def ziY:Shape:=⟨[(.int .i64),Tc3],[(0,.v 0),(1,.addr 1)],[]⟩
def ziX:Shape:=⟨[.bool],[(0,.v 0)],[]⟩
def zgJ:CE:=⟨19,ziY,ziX,fun X=>zc5 X.1 X.2⟩
theorem zkp:CE.ok Try.prog zgJ:=CE.of (Γ:=[]) (by kernel_rfl) zbF (GOK.nil) ⟨[],[],[],[]⟩ Try.func19 rfl Try.ntmps19 (rs:=[.tmp 3]) rfl (sig:=ziY) (out:=ziX) rfl Try.call19 (fun X=>by kernel_rfl)

def zg1:Shape:=⟨[(.list (.int .i64)),Tc3],[(0,.v 0),(1,.fn 19 [.addr 1])],[]⟩
def zg0:Shape:=⟨[(.int .i64)],[(0,.v 0)],[]⟩
def zhW:CE:=⟨42,zg1,zg0,fun X=>zkS X.1 X.2⟩
theorem znA:CE.ok Try.prog zhW:=CE.of (Γ:=[zgJ]) (by kernel_rfl) zbF (GOK.cons zkp (GOK.nil)) ⟨[(2,⟨⟨[(.int .i64)],[(8,.v 0)],[]⟩,[4,5,9,10,11,12,13,14,15,16,17,18],[],[],0,[]⟩)],[],[],[]⟩ Try.func42 rfl Try.ntmps42 (rs:=[.tmp 4]) rfl (sig:=zg1) (out:=zg0) rfl Try.call42 (fun X=>by kernel_rfl)

def zfb:Shape:=⟨[(.list (.int .i64)),Tc3],[(0,.v 0),(1,.fn 19 [.addr 1])],[]⟩
def zfa:Shape:=⟨[.bool],[(0,.v 0)],[]⟩
def zfM:CE:=⟨20,zfb,zfa,fun X=>zdh X.1 X.2⟩
theorem zk2:CE.ok Try.prog zfM:=CE.of (Γ:=[zhW]) (by kernel_rfl) zbF (GOK.cons znA (GOK.nil)) ⟨[],[],[],[]⟩ Try.func20 rfl Try.ntmps20 (rs:=[.tmp 4]) rfl (sig:=zfb) (out:=zfa) rfl Try.call20 (fun X=>by kernel_rfl)

def zi0:Shape:=⟨[Tc12,Tc3,Tc3],[(0,.v 0),(1,.ptr 100000 0),(2,.addr 1)],[(100000,.box 54 [.fn 19 [.addr 2]])]⟩
def ziZ:Shape:=⟨[.bool,Tc3],[(0,.v 0)],[(100000,.box 54 [.fn 19 [.addr 1]])]⟩
def zkq:CE:=⟨22,zi0,ziZ,fun X=>zeH X.1 X.2.1 X.2.2⟩
theorem zp4:CE.ok Try.prog zkq:=CE.of (Γ:=[zgJ]) (by kernel_rfl) zbF (GOK.cons zkp (GOK.nil)) ⟨[],[],[],[]⟩ Try.func22 rfl Try.ntmps22 (rs:=[.tmp 4]) rfl (sig:=zi0) (out:=ziZ) rfl Try.call22 (fun X=>by kernel_rfl)

def zfO:Shape:=⟨[Tc10,Tc3,Tc3],[(0,.v 0),(1,.fn 22 [.ptr 100000 0,.addr 1])],[(100000,.box 54 [.fn 19 [.addr 2]])]⟩
def zfN:Shape:=⟨[(.int .i64),Tc3],[(0,.v 0)],[(100000,.box 54 [.fn 19 [.addr 1]])]⟩
def zgG:CE:=⟨43,zfO,zfN,fun X=>ziu X.1 X.2.1 X.2.2⟩
theorem zl8:CE.ok Try.prog zgG:=CE.of (Γ:=[zkq]) (by kernel_rfl) zbF (GOK.cons zp4 (GOK.nil)) ⟨[(2,⟨⟨[Tc3,(.int .i64),Tc3],[(1,.fn 22 [.ptr 100000 0,.addr 0]),(8,.v 1)],[(100000,.box 54 [.fn 19 [.addr 2]])]⟩,[4,5,9,10,11,12,13,14,15,16,17,18],[],[],0,[]⟩)],[],[],[]⟩ Try.func43 rfl Try.ntmps43 (rs:=[.tmp 4]) rfl (sig:=zfO) (out:=zfN) rfl Try.call43 (fun X=>by kernel_rfl)

def zea:Shape:=⟨[Tc10,Tc3,Tc3],[(0,.v 0),(1,.fn 22 [.ptr 100000 0,.addr 1])],[(100000,.box 54 [.fn 19 [.addr 2]])]⟩
def zd9:Shape:=⟨[.bool,Tc3],[(0,.v 0)],[(100000,.box 54 [.fn 19 [.addr 1]])]⟩
def zeE:CE:=⟨21,zea,zd9,fun X=>zdM X.1 X.2.1 X.2.2⟩
theorem zjP:CE.ok Try.prog zeE:=CE.of (Γ:=[zgG]) (by kernel_rfl) zbF (GOK.cons zl8 (GOK.nil)) ⟨[],[],[],[]⟩ Try.func21 rfl Try.ntmps21 (rs:=[.tmp 4]) rfl (sig:=zea) (out:=zd9) rfl Try.call21 (fun X=>by kernel_rfl)

def zks:Shape:=⟨[(.list (.int .i64))],[(0,.v 0)],[]⟩
def zkr:Shape:=⟨[.bool],[(0,.v 0)],[]⟩
def zla:CE:=⟨23,zks,zkr,fun X=>zgb X⟩
theorem zqM:CE.ok Try.prog zla:=CE.of (Γ:=[]) (by kernel_rfl) zbF (GOK.nil) ⟨[(2,⟨⟨[(.int .i64)],[(6,.v 0)],[]⟩,[2,3,7,8,9,10,11,12,13,14,15,16,17,18,19,20,21,22,23],[],[],0,[]⟩)],[],[(4,[(0,0),(0,1),(0,2),(0,3),(0,4),(0,5),(0,6),(0,7),(0,8),(0,9),(0,10),(0,11),(0,12),(0,13)])],[]⟩ Try.func23 rfl Try.ntmps23 (rs:=[.tmp 2]) rfl (sig:=zks) (out:=zkr) rfl Try.call23 (fun X=>by kernel_rfl)

def znI:Shape:=⟨[(.int .i64)],[(0,.v 0)],[]⟩
def znH:Shape:=⟨[.bool],[(0,.v 0)],[]⟩
def zpx:CE:=⟨56,znI,znH,fun X=>znG X⟩
theorem zuj:CE.ok Try.prog zpx:=CE.of (Γ:=[]) (by kernel_rfl) zbF (GOK.nil) ⟨[],[],[],[]⟩ Try.func56 rfl Try.ntmps56 (rs:=[.tmp 2]) rfl (sig:=znI) (out:=znH) rfl Try.call56 (fun X=>by kernel_rfl)

def zld:Shape:=⟨[(.int .i64),(.int .i64)],[(0,.v 0),(1,.v 1)],[]⟩
def zlc:Shape:=⟨[(.int .i64)],[(0,.v 0)],[]⟩
def zmH:CE:=⟨45,zld,zlc,fun X=>zfR X.1 X.2⟩
theorem zsd:CE.ok Try.prog zmH:=CE.of (Γ:=[zpx]) (by kernel_rfl) zbF (GOK.cons zuj (GOK.nil)) ⟨[],[],[],[]⟩ Try.func45 rfl Try.ntmps45 (rs:=[.tmp 4]) rfl (sig:=zld) (out:=zlc) rfl Try.call45 (fun X=>by kernel_rfl)

def zsx:Shape:=⟨[(.list (.int .i64))],[(0,.v 0)],[]⟩
def zsw:Shape:=⟨[(.int .i64)],[(0,.v 0)],[]⟩
def zui:CE:=⟨44,zsx,zsw,fun X=>zwu X⟩
theorem zyg:CE.ok Try.prog zui:=CE.of (Γ:=[]) (by kernel_rfl) zbF (GOK.nil) ⟨[(3,⟨⟨[(.int .i64)],[(8,.v 0)],[]⟩,[2,5,9,10,11,12,13,14,15,16],[],[],0,[]⟩)],[],[],[]⟩ Try.func44 rfl Try.ntmps44 (rs:=[.tmp 2]) rfl (sig:=zsx) (out:=zsw) rfl Try.call44 (fun X=>by kernel_rfl)

def zk9:Shape:=⟨[Tc12,Tc12],[(0,.v 0),(1,.v 1)],[]⟩
def zk8:Shape:=⟨[(.int .i64)],[(0,.v 0)],[]⟩
def zmG:CE:=⟨24,zk9,zk8,fun X=>zjV X.1 X.2⟩
theorem zsc:CE.ok Try.prog zmG:=CE.of (Γ:=[zmH,zui]) (by kernel_rfl) zbF (GOK.cons zsd (GOK.cons zyg (GOK.nil))) ⟨[],[],[(1,[(0,0),(0,1),(0,2),(0,3),(0,5),(0,6),(0,7),(0,8),(0,10),(0,11),(0,12),(0,13),(1,4),(1,9),(1,14),(1,15),(1,16),(0,17)])],[]⟩ Try.func24 rfl Try.ntmps24 (rs:=[.tmp 4]) rfl (sig:=zk9) (out:=zk8) rfl Try.call24 (fun X=>by kernel_rfl)

def zk7:Shape:=⟨[Tc3],[(0,.v 0)],[]⟩
def zk6:Shape:=⟨[(.int .i64)],[(0,.v 0)],[]⟩
def zmF:CE:=⟨10,zk7,zk6,fun X=>zdB X⟩
theorem zsb:CE.ok Try.prog zmF:=CE.of (Γ:=[zfM,zeE,zla,zmG]) (by kernel_rfl) zbF (GOK.cons zk2 (GOK.cons zjP (GOK.cons zqM (GOK.cons zsc (GOK.nil))))) ⟨[(11,⟨⟨[(.int .i64)],[(57,.v 0)],[]⟩,[2,4,13,17,22,58,59,60,61,62,63,64,65,66,67,68,69,70,71,72,73,74,75,76,77],[],[1],2,[]⟩)],[],[(13,[(0,0),(0,1),(0,2),(0,3),(0,4),(0,5),(0,6),(0,7),(0,8),(0,9),(0,10),(0,11),(0,12),(0,13),(1,14),(0,15),(0,16)])],[]⟩ Try.func10 rfl Try.ntmps10 (rs:=[.tmp 2]) rfl (sig:=zk7) (out:=zk6) rfl Try.call10 (fun X=>by kernel_rfl)

def zm0:Shape:=⟨[(.list (.int .i64))],[(0,.v 0)],[]⟩
def zmZ:Shape:=⟨[(.int .i64)],[(0,.v 0)],[]⟩
def zot:CE:=⟨25,zm0,zmZ,fun X=>zhe X⟩
theorem ztV:CE.ok Try.prog zot:=CE.of (Γ:=[]) (by kernel_rfl) zbF (GOK.nil) ⟨[(3,⟨⟨[(.int .i64),(.int .i64)],[(3,.v 0),(8,.v 1)],[]⟩,[5,9,10,11,12,13,14,15,16],[],[],0,[]⟩)],[],[],[]⟩ Try.func25 rfl Try.ntmps25 (rs:=[.tmp 2]) rfl (sig:=zm0) (out:=zmZ) rfl Try.call25 (fun X=>by kernel_rfl)

def zlZ:Shape:=⟨[(.list (.pair (.int .i64) (.pair (.int .i64) (.pair .bool (.pair .bool (.pair .bool .unit))))))],[(0,.own 100000)],[(100000,.arr 96 0)]⟩
def zlY:Shape:=⟨[(.list (.pair (.int .i64) (.pair (.int .i64) (.pair .bool (.pair .bool (.pair .bool .unit))))))],[],[(100000,.arr 96 0)]⟩
def zm1:CE:=⟨46,zlZ,zlY,fun X=>zhN X⟩
theorem zss:CE.ok Try.prog zm1:=CE.of (Γ:=[]) (by kernel_rfl) zbF (GOK.nil) ⟨[(1,⟨⟨[(.int .i64),(.list (.pair (.int .i64) (.pair (.int .i64) (.pair .bool (.pair .bool (.pair .bool .unit))))))],[(0,.own 100000),(6,.v 0)],[(100000,.arr 96 1)]⟩,[2,3,7,8,9,10,11,12,13,14,15,16,17,18,19,20,21,22,23,24,25,26,27,28,29,30,31,32,33,34,35,36,37,38,39,40,41,42,43,44,45,46,47,48,49,50,51,52,53,54,55,56,57,58,59,60,61,62,63,64,65,66,67,68,69,70,71],[],[],0,[]⟩),(6,⟨⟨[(.int .i64),(.list (.pair (.int .i64) (.pair (.int .i64) (.pair .bool (.pair .bool (.pair .bool .unit))))))],[(0,.own 100000),(33,.v 0)],[(100000,.arr 96 1)]⟩,[3,34,35,36,37,38,39,40,41,42,43,44,45,46,47,48,49,50,51,52,53,54,55,56,57,58,59,60],[],[],0,[]⟩)],[(4,⟨⟨[(.list (.pair (.int .i64) (.pair (.int .i64) (.pair .bool (.pair .bool (.pair .bool .unit))))))],[(0,.own 100000)],[(100000,.arr 96 0)]⟩,[9,10,11,12,13,14,15,16,17,18,19,20,21,22,23,24,25,26,27,28,29,30,31],[],[],0,[]⟩)],[(4,[(0,0),(0,1),(0,2),(0,3),(0,4),(0,5),(0,6),(0,7),(0,8),(0,9),(0,10),(0,11),(0,12),(0,13),(0,14),(0,15),(0,16),(2,17)]),(8,[(0,0),(0,1),(0,2),(0,3),(0,4),(0,5),(0,6),(0,7),(0,8),(0,9),(0,10)]),(9,[(0,0),(0,1),(0,2),(0,3),(0,4),(0,5),(0,6),(0,7),(0,8),(0,9),(0,10),(0,11),(0,12),(2,13)])],[]⟩ Try.func46 rfl Try.ntmps46 (rs:=[]) rfl (sig:=zlZ) (out:=zlY) rfl Try.call46 (fun X=>by kernel_rfl)

def zm3:Shape:=⟨[(.int .i64),(.list (.pair (.int .i64) (.pair (.int .i64) (.pair .bool (.pair .bool (.pair .bool .unit))))))],[(0,.own 100000),(1,.v 0)],[(100000,.arr 96 1)]⟩
def zm2:Shape:=⟨[(.list (.pair (.int .i64) (.pair (.int .i64) (.pair .bool (.pair .bool (.pair .bool .unit))))))],[],[(100000,.arr 96 0)]⟩
def zow:CE:=⟨47,zm3,zm2,fun X=>zjJ X.1 X.2⟩
theorem ztW:CE.ok Try.prog zow:=CE.of (Γ:=[]) (by kernel_rfl) zbF (GOK.nil) ⟨[(1,⟨⟨[(.int .i64),(.list (.pair (.int .i64) (.pair (.int .i64) (.pair .bool (.pair .bool (.pair .bool .unit))))))],[(0,.own 100000),(4,.v 0)],[(100000,.arr 96 1)]⟩,[5,8,9,10,11,12,13,14,15,16,17,18,19,20,21,22,23,24,25,26,27,28,29,30,31,32,33,34,35,36,37,38,39,40,41],[],[],0,[]⟩)],[(4,⟨⟨[.bool],[(37,.v 0)],[]⟩,[19,20,21,22,23,24,25,26,27,28,29,30,31,32,33,34,35,36],[],[],0,[]⟩),(5,⟨⟨[(.list (.pair (.int .i64) (.pair (.int .i64) (.pair .bool (.pair .bool (.pair .bool .unit))))))],[(0,.own 100000)],[(100000,.arr 96 0)]⟩,[5,14,15,16,17,18,19,20,21,22,23,24,25,26,27,28,29,30,31,32,33,34,35,36,37,38,39,40,41],[],[],0,[]⟩)],[],[]⟩ Try.func47 rfl Try.ntmps47 (rs:=[]) rfl (sig:=zm3) (out:=zm2) rfl Try.call47 (fun X=>by kernel_rfl)

def zm5:Shape:=⟨[(.list (.pair (.int .i64) (.pair (.int .i64) (.pair .bool (.pair .bool (.pair .bool .unit))))))],[(0,.v 0)],[]⟩
def zm4:Shape:=⟨[(.pair (.pair (.int .i64) (.pair (.pair (.int .i64) Tc12) (.pair (.pair (.int .i64) Tc12) .unit))) (.pair (.int .i64) .unit))],[(0,.v 0)],[]⟩
def zoy:CE:=⟨48,zm5,zm4,fun X=>zjM X⟩
theorem ztX:CE.ok Try.prog zoy:=CE.of (Γ:=[]) (by kernel_rfl) zbF (GOK.nil) ⟨[(4,⟨⟨[(.int .i64),(.int .i64),(.int .i64),(.int .i64),(.int .i64),(.int .i64),(.int .i64),(.int .i64),(.int .i64),(.int .i64),(.int .i64),(.int .i64),(.int .i64),(.int .i64),(.int .i64),(.int .i64),(.int .i64),(.int .i64),(.int .i64),(.int .i64),(.int .i64),(.int .i64),(.int .i64)],[(3,.ptr 1 0),(4,.ptr 2 0),(10,.v 0)],[(1,.box 69 [.v 1,.v 2,.v 3,.v 4,.v 5,.v 6,.v 7,.v 8,.v 9,.v 10]),(2,.box 107 [.v 11,.v 12,.v 13,.v 14,.v 15,.v 16,.v 17,.v 18,.v 19,.v 20,.v 21,.v 22])]⟩,[5,6,11,12,13,14,15,16,17,18,19,20,21,22,23,24,25,26,27,28,29,30,31,32,33,34,35,36,37,38,39,40,41,42,43,44,45,46,47,48,49,50,51,52,53,54,55,56,57,58,59,60,61,62,63,64,65,66,67,68,69,70,71,72,73,74,75],[],[0],3,[]⟩)],[(10,⟨⟨[(.int .i64),(.int .i64),(.int .i64),(.int .i64),(.int .i64),(.int .i64),(.int .i64),(.int .i64),(.int .i64),(.int .i64)],[(3,.ptr 1 0)],[(1,.box 69 [.v 0,.v 1,.v 2,.v 3,.v 4,.v 5,.v 6,.v 7,.v 8,.v 9])]⟩,[15,16,17,18,19,20,21,22,23,24,25,26,27,28,29,30,31,32,33,34],[],[0,2,3],4,[]⟩),(17,⟨⟨[(.int .i64),(.int .i64),(.int .i64),(.int .i64),(.int .i64),(.int .i64),(.int .i64),(.int .i64),(.int .i64),(.int .i64),(.int .i64),(.int .i64),(.int .i64),(.int .i64),(.int .i64),(.int .i64),(.int .i64),(.int .i64),(.int .i64),(.int .i64),(.int .i64),(.int .i64)],[(3,.ptr 1 0),(4,.ptr 2 0)],[(1,.box 69 [.v 0,.v 1,.v 2,.v 3,.v 4,.v 5,.v 6,.v 7,.v 8,.v 9]),(2,.box 107 [.v 10,.v 11,.v 12,.v 13,.v 14,.v 15,.v 16,.v 17,.v 18,.v 19,.v 20,.v 21])]⟩,[5,6,12,13,14,15,16,17,18,19,20,21,22,23,24,25,26,27,28,29,30,31,32,33,34,35,36,37,38,39,40,41,42,43,44,45,46,47,48,49,50,51,52,53,54,55,56,57,58,59,60,61,62,63,64,65,66,67,68,69,70,71,72,73,74],[],[0],3,[]⟩),(16,⟨⟨[(.int .i64),(.int .i64),(.int .i64),(.int .i64),(.int .i64),(.int .i64),(.int .i64),(.int .i64),(.int .i64),(.int .i64)],[(3,.ptr 1 0)],[(1,.box 69 [.v 0,.v 1,.v 2,.v 3,.v 4,.v 5,.v 6,.v 7,.v 8,.v 9])]⟩,[38,39,42,43,47,48,49,50,51,53,54,55,56,57,58,59,60,61,62,63,64,65,66,67,68],[],[0,2,3],4,[]⟩)],[(16,[(0,0),(0,1),(0,2),(0,3),(0,4),(0,5),(0,6),(0,7),(0,8),(0,9),(2,10)])],[]⟩ Try.func48 rfl Try.ntmps48 (rs:=[.cell 2 69]) rfl (sig:=zm5) (out:=zm4) rfl Try.call48 (fun X=>by kernel_rfl)

def zfG:Shape:=⟨[(.pair (.pair (.pair (.int .i64) Tc12) (.pair (.pair (.int .i64) Tc12) (.pair (.pair (.int .i64) Tc12) (.pair (.pair (.int .i64) Tc12) .unit)))) (.pair (.int .i64) .unit)),(.pair (.int .i64) (.pair (.pair (.int .i64) Tc12) (.pair (.pair (.int .i64) Tc12) .unit))),(.int .i64)],[(0,.addr 0),(1,.v 1),(2,.v 2)],[]⟩
def zfF:Shape:=⟨[(.pair (.pair (.int .i64) (.pair (.pair (.int .i64) Tc12) (.pair (.pair (.int .i64) Tc12) .unit))) (.pair (.int .i64) .unit))],[(0,.v 0)],[]⟩
def zgB:CE:=⟨28,zfG,zfF,fun X=>zbZ X.1 X.2.1 X.2.2⟩
theorem zlX:CE.ok Try.prog zgB:=CE.of (Γ:=[zm1,zow,zoy]) (by kernel_rfl) zbF (GOK.cons zss (GOK.cons ztW (GOK.cons ztX (GOK.nil)))) ⟨[(3,⟨⟨[(.int .i64),(.list (.pair (.int .i64) (.pair (.int .i64) (.pair .bool (.pair .bool (.pair .bool .unit))))))],[(7,.own 2),(18,.v 0)],[(2,.arr 96 1)]⟩,[8,9,10,19,20,21,22,23,24,25,26,27,28,29,30,31,32,33,34,35,36,37,38,39,40,41,42,43,44,45,46,47,48,49,50,51,52,53,54],[],[0,1],3,[]⟩),(7,⟨⟨[(.int .i64),(.int .i64),(.int .i64),.bool,.bool,.bool],[(9,.ptr 3 0),(26,.v 0)],[(3,.box 96 [.v 1,.v 2,.v 3,.v 4,.v 5])]⟩,[10,27,28,29,30,31,32,33,34,35,36,37,38,39,40,41,42,43,44,45,46,47,48,49],[],[0,1,2],4,[]⟩),(15,⟨⟨[(.int .i64),(.list (.pair (.int .i64) (.pair (.int .i64) (.pair .bool (.pair .bool (.pair .bool .unit))))))],[(7,.own 2),(57,.v 0)],[(2,.arr 96 1)]⟩,[11,12,58,59,60,61,62,63,64,65,66,67,68,69,70,71,72,73,74,75,76,77,78],[],[0,1],3,[]⟩),(23,⟨⟨[(.int .i64),(.list (.pair (.int .i64) (.pair (.int .i64) (.pair .bool (.pair .bool (.pair .bool .unit))))))],[(7,.own 2),(83,.v 0)],[(2,.arr 96 1)]⟩,[13,14,15,79,81,84,85,86,87,88,89,90,91,92,93,94,95,96,97,98,99,100,101,102,103,104,105,106,107,108,109,110,111,112,113,114,115,116,117,118,119,120,121,122,123,124,125,126,127,128,129,130,131,132,133,134,135,136,137,138,139,140],[],[0,1],3,[]⟩),(27,⟨⟨[(.int .i64),(.int .i64)],[(14,.v 0),(88,.v 1)],[]⟩,[15,89,90,91,92,93,94,95,96,97,98,99,100,101,102,103,104,105,106,107,108,109,110,111,112,113],[],[0,1,2],3,[]⟩)],[(10,⟨⟨[(.int .i64),(.int .i64),.bool,.bool,.bool],[(9,.ptr 3 0)],[(3,.box 96 [.v 0,.v 1,.v 2,.v 3,.v 4])]⟩,[10,28,29,30,31,32,33,34,35,36,37,38,39,40,41,42,43,44,45,46,47,48],[],[0,1,2],4,[]⟩),(29,⟨⟨[.bool],[(105,.v 0)],[]⟩,[91,92,93,94,95,96,97,98,99,100,101,102,103,104],[],[0,1,2],3,[]⟩),(32,⟨⟨[.bool],[(132,.v 0)],[]⟩,[114,115,116,117,118,119,120,121,122,123,124,125,126,127,128,129,130,131],[],[0,1,2],3,[]⟩)],[(10,[(0,0),(0,1),(0,2),(0,3),(0,4),(0,5),(0,6),(0,7),(0,8),(0,9),(0,10),(0,11),(2,12)]),(17,[(0,0),(0,1),(0,2),(0,3),(0,4),(0,5),(0,6),(0,7),(0,8),(0,9),(0,10)])],[]⟩ Try.func28 rfl Try.ntmps28 (rs:=[.cell 6 69]) rfl (sig:=zfG) (out:=zfF) rfl Try.call28 (fun X=>by kernel_rfl)

def zfI:Shape:=⟨[(.pair (.pair (.int .i64) (.pair (.pair (.int .i64) Tc12) (.pair (.pair (.int .i64) Tc12) .unit))) (.pair (.int .i64) .unit)),(.int .i64),(.pair (.pair (.pair (.int .i64) Tc12) (.pair (.pair (.int .i64) Tc12) (.pair (.pair (.int .i64) Tc12) (.pair (.pair (.int .i64) Tc12) .unit)))) (.pair (.int .i64) .unit))],[(0,.v 0),(1,.v 1),(2,.ptr 100000 0)],[(100000,.box 60 [.addr 2])]⟩
def zfH:Shape:=⟨[(.pair (.pair (.int .i64) (.pair (.pair (.int .i64) Tc12) (.pair (.pair (.int .i64) Tc12) .unit))) (.pair (.int .i64) .unit)),(.pair (.pair (.pair (.int .i64) Tc12) (.pair (.pair (.int .i64) Tc12) (.pair (.pair (.int .i64) Tc12) (.pair (.pair (.int .i64) Tc12) .unit)))) (.pair (.int .i64) .unit))],[(0,.v 0)],[(100000,.box 60 [.addr 1])]⟩
def zgC:CE:=⟨27,zfI,zfH,fun X=>zbB X.1 X.2.1 X.2.2⟩
theorem zl0:CE.ok Try.prog zgC:=CE.of (Γ:=[zgB]) (by kernel_rfl) zbF (GOK.cons zlX (GOK.nil)) ⟨[],[],[],[]⟩ Try.func27 rfl Try.ntmps27 (rs:=[.cell 5 69]) rfl (sig:=zfI) (out:=zfH) rfl Try.call27 (fun X=>by kernel_rfl)

def zfK:Shape:=⟨[(.pair (.pair (.int .i64) (.pair (.pair (.int .i64) Tc12) (.pair (.pair (.int .i64) Tc12) .unit))) (.pair (.int .i64) .unit))],[(0,.v 0)],[]⟩
def zfJ:Shape:=⟨[(.int .i64)],[(0,.v 0)],[]⟩
def zgD:CE:=⟨29,zfK,zfJ,fun X=>zdz X⟩
theorem zl1:CE.ok Try.prog zgD:=CE.of (Γ:=[]) (by kernel_rfl) zbF (GOK.nil) ⟨[],[],[],[]⟩ Try.func29 rfl Try.ntmps29 (rs:=[.tmp 2]) rfl (sig:=zfK) (out:=zfJ) rfl Try.call29 (fun X=>by kernel_rfl)

def zli:Shape:=⟨[(.int .i64),(.pair (.pair (.int .i64) (.pair (.pair (.int .i64) Tc12) (.pair (.pair (.int .i64) Tc12) .unit))) (.pair (.int .i64) .unit)),(.int .i64),(.pair (.pair (.pair (.int .i64) Tc12) (.pair (.pair (.int .i64) Tc12) (.pair (.pair (.int .i64) Tc12) (.pair (.pair (.int .i64) Tc12) .unit)))) (.pair (.int .i64) .unit))],[(0,.v 0),(1,.v 1),(2,.fn 27 [.ptr 100000 0]),(3,.fn 29 []),(4,.v 2)],[(100000,.box 60 [.addr 3])]⟩
def zlh:Shape:=⟨[Tc7,.bool,(.pair (.pair (.pair (.int .i64) Tc12) (.pair (.pair (.int .i64) Tc12) (.pair (.pair (.int .i64) Tc12) (.pair (.pair (.int .i64) Tc12) .unit)))) (.pair (.int .i64) .unit))],[(0,.v 0),(1,.v 1)],[(100000,.box 60 [.addr 2])]⟩
def zmK:CE:=⟨26,zli,zlh,fun X=>zhk X.1 X.2.1 X.2.2.1 X.2.2.2⟩
theorem zsg:CE.ok Try.prog zmK:=CE.of (Γ:=[zgC,zgD]) (by kernel_rfl) zbF (GOK.cons zl0 (GOK.cons zl1 (GOK.nil))) ⟨[(4,⟨⟨[(.pair (.pair (.pair (.int .i64) Tc12) (.pair (.pair (.int .i64) Tc12) (.pair (.pair (.int .i64) Tc12) (.pair (.pair (.int .i64) Tc12) .unit)))) (.pair (.int .i64) .unit)),(.int .i64),(.int .i64),(.list (.pair (.pair (.int .i64) (.pair (.pair (.int .i64) Tc12) (.pair (.pair (.int .i64) Tc12) .unit))) (.pair (.int .i64) .unit))),(.list (.int .i64)),(.list (.pair (.pair (.int .i64) (.pair (.pair (.int .i64) Tc12) (.pair (.pair (.int .i64) Tc12) .unit))) (.pair (.int .i64) .unit))),(.list (.list (.int .i64))),(.list (.int .i64))],[(2,.fn 27 [.ptr 100000 0]),(12,.ptr 2 0),(13,.own 3),(14,.own 4)],[(100000,.box 60 [.addr 0]),(2,.box 40 [.v 1,.v 2,.own 5,.own 6]),(3,.box 91 [.v 3,.v 4]),(4,.arr 69 5),(5,.arr 22 6),(6,.arr 3 7)]⟩,[11,15,16,17,18,19,20,23,25,27,28,29,30,31,32,33,34,35,36,37,38,39,40,41,42,43,44,45,46,47,48,49,50,51,52,53,54,55,56,57,58,59,60,61,62,63,64,65,66,67,68,69,70,71,72,73,74,75,76,77,78,79,80,81,82,83,84,85,86,87,88,89],[],[0,1],7,[(2,2,some 22,(.list (.int .i64))),(2,3,some 3,(.int .i64))]⟩),(8,⟨⟨[(.int .i64),(.pair (.pair (.pair (.int .i64) Tc12) (.pair (.pair (.int .i64) Tc12) (.pair (.pair (.int .i64) Tc12) (.pair (.pair (.int .i64) Tc12) .unit)))) (.pair (.int .i64) .unit)),(.list (.pair (.pair (.int .i64) (.pair (.pair (.int .i64) Tc12) (.pair (.pair (.int .i64) Tc12) .unit))) (.pair (.int .i64) .unit))),(.list (.int .i64)),(.list (.pair (.pair (.int .i64) (.pair (.pair (.int .i64) Tc12) (.pair (.pair (.int .i64) Tc12) .unit))) (.pair (.int .i64) .unit))),(.list (.int .i64))],[(2,.fn 27 [.ptr 100000 0]),(13,.own 3),(14,.own 4),(16,.own 8),(43,.v 0)],[(100000,.box 60 [.addr 1]),(3,.box 91 [.v 2,.v 3]),(4,.arr 69 4),(8,.arr 3 5)]⟩,[11,17,18,19,20,31,34,38,41,44,45,46,47,48,49,50,51,52,53,54,55,56,57,58,59,60,61,62,63,64,65,66,67,68,69,70,71,72,73,74,75],[],[0,1,2,5,6,7],9,[]⟩)],[(17,⟨⟨[(.int .i64),(.list (.pair (.pair (.int .i64) (.pair (.pair (.int .i64) Tc12) (.pair (.pair (.int .i64) Tc12) .unit))) (.pair (.int .i64) .unit))),(.list (.int .i64)),(.list (.pair (.pair (.int .i64) (.pair (.pair (.int .i64) Tc12) (.pair (.pair (.int .i64) Tc12) .unit))) (.pair (.int .i64) .unit)))],[(13,.own 3),(14,.own 10),(19,.v 0)],[(3,.box 91 [.v 1,.v 2]),(10,.arr 69 3)]⟩,[11,51,56,57,58,59,60,61,62,63,64,65,66,67,68,69,70],[4],[0,1,2,5,6,7,8,9],11,[]⟩)],[(21,[(0,0),(0,1),(0,2),(0,3),(1,4),(1,5),(2,6),(0,7),(2,8)])],[]⟩ Try.func26 rfl Try.ntmps26 (rs:=[.cell 10 40,.tmp 11]) rfl (sig:=zli) (out:=zlh) rfl Try.call26 (fun X=>by kernel_rfl)

def zkR:Shape:=⟨[(.list (.int .i64))],[(0,.v 0)],[]⟩
def zkQ:Shape:=⟨[(.list (.int .i64))],[(0,.own 0)],[(0,.arr 3 0)]⟩
def zl6:CE:=⟨57,zkR,zkQ,fun X=>zis X⟩
theorem zrU:CE.ok Try.prog zl6:=CE.of (Γ:=[]) (by kernel_rfl) zbF (GOK.nil) ⟨[],[],[],[]⟩ Try.func57 rfl Try.ntmps57 (rs:=[.tmp 2]) rfl (sig:=zkR) (out:=zkQ) rfl Try.call57 (fun X=>by kernel_rfl)

def zlf:Shape:=⟨[Tc7],[(0,.v 0)],[]⟩
def zle:Shape:=⟨[(.list (.int .i64))],[(0,.own 0)],[(0,.arr 3 0)]⟩
def zmJ:CE:=⟨49,zlf,zle,fun X=>zjX X⟩
theorem zsf:CE.ok Try.prog zmJ:=CE.of (Γ:=[zl6]) (by kernel_rfl) zbF (GOK.cons zrU (GOK.nil)) ⟨[(3,⟨⟨[(.int .i64),(.list (.int .i64))],[(3,.own 1),(4,.v 0)],[(1,.arr 3 1)]⟩,[2,5,6,7,8,9,11,12,13,14,17,18,19,20,21,22,23,24,25,26,27,28,29,30,31,32,33,34,35,36,37,38,39,40,41,42,43,44,45,46,47,48,49,50,51,52,53,54,55,56,57,58,59,60,61,62,63,64,65,66,67,68,69,70,71,72,73,74,75,76,77,78,79,80,81,82,83,84],[],[0],2,[]⟩),(6,⟨⟨[(.int .i64),(.list (.pair (.int .i64) (.pair .str .unit))),(.list (.int .i64)),(.list (.int .i64))],[(5,.own 2),(6,.own 3),(25,.v 0)],[(2,.box 109 [.v 1,.v 2]),(3,.arr 3 3)]⟩,[7,8,9,11,12,13,14,18,21,26,27,28,29,30,31,32,33,34,35,36,37,38,39,40,41,42,43,44,45,46,47,48,49,50,51,52,53,54,55,56,57,58,59,60,61,62,63,64,65,66,67,68,69,70,71,72,73,74,75,76],[],[0,1],4,[]⟩),(10,⟨⟨[(.int .i64),(.list (.int .u8))],[(9,.own 4),(32,.v 0)],[(4,.arr 5 1)]⟩,[11,33,34,35,36,37,38,39,40,41,42,43,44,45,46,47,48,49,50],[],[0,1,2,3],5,[]⟩)],[(17,⟨⟨[(.list (.pair (.int .i64) (.pair .str .unit))),(.list (.int .i64))],[(5,.own 2)],[(2,.box 109 [.v 0,.v 1])]⟩,[13,14,58,59,60,61,62,63,64,65,66,67,68,69],[],[0,1,3,4,5],6,[]⟩)],[(12,[(0,0),(0,1),(0,2),(0,3),(0,4),(0,5),(0,6),(0,7),(0,8),(0,9),(0,10),(0,11),(1,12),(2,13),(0,14)]),(14,[(0,0),(0,1),(0,2),(0,3),(0,4),(0,5),(0,6),(1,7),(2,8)])],[]⟩ Try.func49 rfl Try.ntmps49 (rs:=[.tmp 2]) rfl (sig:=zlf) (out:=zle) rfl Try.call49 (fun X=>by kernel_rfl)

def zif:Shape:=⟨[(.int .i64),(.int .i64),(.list (.int .i64)),Tc7,(.list (.int .i64))],[(0,.v 0),(1,.v 1),(2,.addr 2),(3,.addr 3),(4,.addr 4)],[]⟩
def zie:Shape:=⟨[(.int .i64)],[(0,.v 0)],[]⟩
def zjc:CE:=⟨51,zif,zie,fun X=>zf6 X.1 X.2.1 X.2.2.1 X.2.2.2.1 X.2.2.2.2⟩
theorem zoQ:CE.ok Try.prog zjc:=CE.of (Γ:=[]) (by kernel_rfl) zbF (GOK.nil) ⟨[],[],[(1,[(0,0),(0,1),(0,2),(0,3),(0,4),(0,5),(0,6),(0,7),(0,8),(0,9),(0,10),(0,11),(0,12),(0,13),(0,14)])],[]⟩ Try.func51 rfl Try.ntmps51 (rs:=[.tmp 7]) rfl (sig:=zif) (out:=zie) rfl Try.call51 (fun X=>by kernel_rfl)

def zih:Shape:=⟨[(.int .i64),Tc7,(.list (.int .i64))],[(0,.v 0),(1,.addr 1),(2,.addr 2)],[]⟩
def zig:Shape:=⟨[(.int .i64)],[(0,.v 0)],[]⟩
def zjd:CE:=⟨52,zih,zig,fun X=>zix X.1 X.2.1 X.2.2⟩
theorem zoR:CE.ok Try.prog zjd:=CE.of (Γ:=[]) (by kernel_rfl) zbF (GOK.nil) ⟨[],[],[(1,[(0,0),(0,1),(0,2),(0,3),(0,4),(0,5),(0,6),(0,7),(0,8)])],[]⟩ Try.func52 rfl Try.ntmps52 (rs:=[.tmp 4]) rfl (sig:=zih) (out:=zig) rfl Try.call52 (fun X=>by kernel_rfl)

def zi9:Shape:=⟨[(.int .i64),(.int .i64),(.list (.int .i64)),Tc7,(.list (.int .i64)),Tc7,(.list (.int .i64)),(.int .i64)],[(0,.v 0),(1,.v 1),(2,.fn 51 [.addr 2,.addr 3,.addr 4]),(3,.fn 52 [.addr 5,.addr 6]),(4,.v 7)],[]⟩
def zi8:Shape:=⟨[Tc7,.bool],[(0,.v 0),(1,.v 1)],[]⟩
def zkv:CE:=⟨50,zi9,zi8,fun X=>zg2 X.1 X.2.1 X.2.2.1 X.2.2.2.1 X.2.2.2.2.1 X.2.2.2.2.2.1 X.2.2.2.2.2.2.1 X.2.2.2.2.2.2.2⟩
theorem zp6:CE.ok Try.prog zkv:=CE.of (Γ:=[zjc,zjd]) (by kernel_rfl) zbF (GOK.cons zoQ (GOK.cons zoR (GOK.nil))) ⟨[(4,⟨⟨[(.int .i64),(.int .i64),(.list (.int .i64)),(.list (.int .i64)),(.list (.int .i64)),(.list (.list (.int .i64))),(.list (.int .i64))],[(12,.ptr 1 0),(13,.own 2),(14,.own 3)],[(1,.box 40 [.v 0,.v 1,.own 4,.own 5]),(2,.box 114 [.v 2,.v 3]),(3,.arr 3 4),(4,.arr 22 5),(5,.arr 3 6)]⟩,[11,15,16,17,18,19,20,23,25,27,28,29,30,31,32,33,34,35,36,37,38,39,40,41,42,43,44,45,46,47,48,49,50,51,52,53,54,55,56,57,58,59,60,61,62,63,64,65,66,67,68,69,70,71,72,73,74,75,76,77,78,79,80,81,82,83,84,85,86,87,88,89],[],[0],6,[(1,2,some 22,(.list (.int .i64))),(1,3,some 3,(.int .i64))]⟩),(8,⟨⟨[(.int .i64),(.list (.int .i64)),(.list (.int .i64)),(.list (.int .i64)),(.list (.int .i64))],[(13,.own 2),(14,.own 3),(16,.own 6),(43,.v 0)],[(2,.box 114 [.v 1,.v 2]),(3,.arr 3 3),(6,.arr 3 4)]⟩,[11,17,18,19,20,31,34,38,41,44,45,46,47,48,49,50,51,52,53,54,55,56,57,58,59,60,61,62,63,64,65,66,67,68,69,70,71,72,73,74,75],[],[0,1,4,5],7,[]⟩)],[(17,⟨⟨[(.int .i64),(.list (.int .i64)),(.list (.int .i64)),(.list (.int .i64))],[(13,.own 2),(14,.own 7),(19,.v 0)],[(2,.box 114 [.v 1,.v 2]),(7,.arr 3 3)]⟩,[11,51,56,57,58,59,60,61,62,63,64,65,66,67,68,69,70],[3],[0,1,4,5,6],8,[]⟩)],[(21,[(0,0),(0,1),(0,2),(0,3),(1,4),(1,5),(2,6),(0,7),(2,8)])],[]⟩ Try.func50 rfl Try.ntmps50 (rs:=[.cell 10 40,.tmp 11]) rfl (sig:=zi9) (out:=zi8) rfl Try.call50 (fun X=>by kernel_rfl)

def zkz:Shape:=⟨[Tc7],[(0,.v 0)],[]⟩
def zky:Shape:=⟨[Tc7],[(0,.v 0)],[]⟩
def zlk:CE:=⟨30,zkz,zky,fun X=>zgf X⟩
theorem zqZ:CE.ok Try.prog zlk:=CE.of (Γ:=[zmJ,zkv]) (by kernel_rfl) zbF (GOK.cons zsf (GOK.cons zp6 (GOK.nil))) ⟨[(4,⟨⟨[(.int .i64),(.list (.int .i64))],[(4,.ptr 5 0),(16,.v 0)],[(5,.box 22 [.own 4]),(4,.arr 3 1)]⟩,[5,6,13,17,18,19,20,21,22,23,24,25],[],[0,1,2,3],6,[]⟩)],[(8,⟨⟨[(.int .i64),(.int .i64),(.list (.list (.int .i64))),(.list (.int .i64))],[(7,.ptr 6 0)],[(6,.box 40 [.v 0,.v 1,.v 2,.v 3])]⟩,[1,3,4,8,10,11,14,26,27,28,29,30,31,32,33,34,35,36,37,38,39,40,41],[0,2,3,4,5],[1],7,[]⟩)],[],[(8,(.one 0 (.one 3 (.one 7 (.one 8 (.live [12,17] (.rd 1 [12,13,14,15,17,18] (.rd 2 [5,6,12,13,14,15,17,18] (.rd 4 [5,6,12,13,14,15,17,18] (.one 5 (.rd 6 [12,13,14,15,17,18] (.rd 9 [10,11,12,13,14,15,17,18] (.rd 10 [11,12,13,14,15,17,18] (.one 11 (.alt 2 12 (.leaf [(0,13),(0,14),(0,15),(1,16),(2,17),(0,18)]) (.alt 1 16 (.alt 2 12 (.leaf [(0,13),(0,14),(0,15),(2,17),(0,18)]) .stop) .stop))))))))))))))))]⟩ Try.func30 rfl Try.ntmps30 (rs:=[.cell 2 40]) rfl (sig:=zkz) (out:=zky) rfl Try.call30 (fun X=>by kernel_rfl)

def zgZ:Shape:=⟨[Tc3],[(0,.v 0)],[]⟩
def zgY:Shape:=⟨[Tc7],[(0,.v 0)],[]⟩
def zhP:CE:=⟨11,zgZ,zgY,fun X=>zdl X⟩
theorem znw:CE.ok Try.prog zhP:=CE.of (Γ:=[zot,zmK,zlk]) (by kernel_rfl) zbF (GOK.cons ztV (GOK.cons zsg (GOK.cons zqZ (GOK.nil)))) ⟨[(3,⟨⟨[(.int .i64),(.int .i64),(.int .i64),(.int .i64),(.int .i64),(.int .i64),(.int .i64),(.int .i64),(.int .i64),(.int .i64),(.int .i64),(.int .i64),(.int .i64),(.int .i64),(.int .i64),(.int .i64),(.int .i64),(.int .i64)],[(3,.ptr 3 0),(18,.v 0)],[(3,.box 60 [.ptr 2 0]),(2,.box 65 [.v 1,.v 2,.v 3,.v 4,.v 5,.v 6,.v 7,.v 8,.v 9,.v 10,.v 11,.v 12,.v 13,.v 14,.v 15,.v 16,.v 17])]⟩,[5,14,19,20,21,22,23,24,25,26,27,28,29,30,31,32,33,34,35,36,37,38,39,40],[],[0,1],4,[]⟩)],[(10,⟨⟨[(.int .i64),(.int .i64),(.int .i64),(.int .i64),(.int .i64),(.int .i64),(.int .i64),(.int .i64),(.int .i64),(.int .i64)],[(6,.ptr 4 0)],[(4,.box 69 [.v 0,.v 1,.v 2,.v 3,.v 4,.v 5,.v 6,.v 7,.v 8,.v 9])]⟩,[7,42,43,44,45,46,47,48,49,50,51,52,53,54,55],[],[0,1,2,3],5,[]⟩)],[(5,[(0,0),(0,1),(0,2),(0,3),(0,4),(0,5),(0,6),(0,7),(0,8),(0,9),(0,10),(0,11),(0,12),(0,13),(0,14),(0,15),(0,16),(0,17),(2,18)])],[]⟩ Try.func11 rfl Try.ntmps11 (rs:=[.cell 2 40]) rfl (sig:=zgZ) (out:=zgY) rfl Try.call11 (fun X=>by kernel_rfl)

def zjL:Shape:=⟨[Tc3,Tc7],[(0,.v 0),(1,.v 1)],[]⟩
def zjK:Shape:=⟨[Tc1],[(0,.addr 0)],[]⟩
def zkP:CE:=⟨12,zjL,zjK,fun X=>zg9 X.1 X.2⟩
theorem zqj:CE.ok Try.prog zkP:=CE.of (Γ:=[]) (by kernel_rfl) zbF (GOK.nil) ⟨[(3,⟨⟨[(.int .i64),(.int .i64),(.int .i64),(.list (.int .i64)),Tc10,(.list (.int .i64)),(.int .i64),(.int .i64),(.list (.list (.int .i64))),(.list (.int .i64)),Tc13],[(5,.ptr 2 0),(24,.v 0)],[(2,.box 78 [.v 1,.v 2,.v 3,.v 4,.v 5,.v 6,.v 7,.v 8,.v 9,.own 3]),(3,.out 4 79 80 10)]⟩,[6,8,9,25,26,27,28,29,30,31,32,33,34,35,36,37,38,39,40,41,42,43,44,45,46,47,48,49,50,51,52,53,54,55,56,57,58,59,60,61,62,63,64,65,66,67,68,69,70,71,72,73,74,75],[],[0,1],5,[]⟩),(6,⟨⟨[(.int .i64),(.int .i64),(.int .i64),(.list (.int .i64)),Tc10,(.list (.int .i64)),(.int .i64),(.int .i64),(.list (.list (.int .i64))),(.list (.int .i64)),Tc13],[(5,.ptr 2 0),(30,.v 0)],[(2,.box 78 [.v 1,.v 2,.v 3,.v 4,.v 5,.v 6,.v 7,.v 8,.v 9,.own 3]),(3,.out 4 79 80 10)]⟩,[8,9,31,32,33,34,35,36,37,38,39,40,41,42,43,44,45,46,47,48,49,50,51,52,53,54,55,56,57,58,59,60,61,62,63,64,65,66,67,68,69,70,71,72,73,74],[],[0,1],5,[]⟩)],[(1,⟨⟨[(.int .i64),(.int .i64),(.list (.int .i64)),Tc10,(.list (.int .i64)),(.int .i64),(.int .i64),(.list (.list (.int .i64))),(.list (.int .i64)),Tc13],[(5,.ptr 2 0)],[(2,.box 78 [.v 0,.v 1,.v 2,.v 3,.v 4,.v 5,.v 6,.v 7,.v 8,.own 3]),(3,.out 4 79 80 9)]⟩,[10,11,12,13,14,15,16,17,18,19,20],[],[0,1],5,[]⟩),(9,⟨⟨[(.int .i64),(.int .i64),(.list (.int .i64)),Tc10,(.list (.int .i64)),(.int .i64),(.int .i64),(.list (.list (.int .i64))),(.list (.int .i64)),Tc13],[(5,.ptr 2 0)],[(2,.box 78 [.v 0,.v 1,.v 2,.v 3,.v 4,.v 5,.v 6,.v 7,.v 8,.own 3]),(3,.out 5 79 80 9)]⟩,[8,9,32,33,34,35,36,37,38,39,40,41,42,43,44,45,46,47,48,49,50,51,52,53,54,55,56,57,58,59,60,61,62,63,64,65,66,67,68,69,70,71,72,73],[4],[0,1],6,[]⟩)],[],[(1,(.one 2 (.one 4 (.live [8] (.rd 3 [7,8,9,10,11] (.rd 5 [6,7,8,9,10,11] (.rd 6 [7,8,9,10,11] (.one 7 (.ban 0 [9,10,11] (.ban 1 [9,10,11] (.alt 4 8 (.leaf [(1,9),(1,10),(0,11)]) .stop) (.alt 4 8 (.leaf [(0,1),(1,9),(1,10),(0,11)]) .stop)) (.ban 1 [9,10,11] (.alt 4 8 (.leaf [(0,0),(1,9),(1,10),(0,11)]) .stop) (.alt 4 8 (.leaf [(0,0),(0,1),(1,9),(1,10),(0,11)]) .stop))))))))))),(9,(.one 0 (.one 1 (.one 2 (.one 4 (.one 5 (.one 6 (.one 7 (.one 9 (.one 12 (.one 14 (.one 17 (.one 21 (.one 24 (.one 27 (.live [31,33] (.rd 8 [10,11,31,32,33] (.one 10 (.rd 11 [31,32,33] (.rd 13 [15,16,19,20,23,26,29,30,31,32,33] (.one 15 (.rd 16 [19,20,23,26,29,30,31,32,33] (.rd 18 [19,20,23,26,29,30,31,32,33] (.one 19 (.rd 20 [23,26,29,30,31,32,33] (.rd 22 [23,26,29,30,31,32,33] (.one 23 (.rd 25 [26,29,30,31,32,33] (.one 26 (.rd 28 [29,30,31,32,33] (.one 29 (.ban 3 [32,33] (.alt 1 30 (.alt 4 31 (.leaf [(0,32),(4,33)]) .stop) .stop) (.alt 1 30 (.alt 4 31 (.leaf [(0,3),(0,32),(4,33)]) .stop) .stop)))))))))))))))))))))))))))))))))]⟩ Try.func12 rfl Try.ntmps12 (rs:=[.tmp 4]) rfl (sig:=zjL) (out:=zjK) rfl Try.call12 (fun X=>by kernel_rfl)

def zfg:Shape:=⟨[(.int .i64),Tc1],[(0,.v 0),(1,.ptr 100000 0)],[(100000,.box 42 [.addr 1])]⟩
def zff:Shape:=⟨[(.int .i64),Tc1],[(0,.v 0)],[(100000,.box 42 [.addr 1])]⟩
def zdI:CE:=⟨31,zfg,zff,fun X=>zbA X.1 X.2⟩
theorem zgj:CE.ok Try.prog zdI:=CE.of (Γ:=[]) (by kernel_rfl) zbF (GOK.nil) ⟨[],[],[(1,[(0,0),(0,1),(0,2),(0,3),(0,4),(0,5),(0,6),(0,7),(0,8),(0,9),(0,10),(0,11),(0,12),(0,13),(0,14)])],[]⟩ Try.func31 rfl Try.ntmps31 (rs:=[.tmp 3]) rfl (sig:=zfg) (out:=zff) rfl Try.call31 (fun X=>by kernel_rfl)

def zkU:Shape:=⟨[(.list (.int .i64)),(.int .i64)],[(0,.v 0),(1,.v 1)],[]⟩
def zkT:Shape:=⟨[(.int .i64)],[(0,.v 0)],[]⟩
def zl9:CE:=⟨53,zkU,zkT,fun X=>zpW X.1 X.2⟩
theorem zrV:CE.ok Try.prog zl9:=CE.of (Γ:=[]) (by kernel_rfl) zbF (GOK.nil) ⟨[(2,⟨⟨[(.int .i64)],[(8,.v 0)],[]⟩,[4,5,9,10,11,12,13,14,15,16,17,18],[],[],0,[]⟩)],[],[],[]⟩ Try.func53 rfl Try.ntmps53 (rs:=[.tmp 4]) rfl (sig:=zkU) (out:=zkT) rfl Try.call53 (fun X=>by kernel_rfl)

def zhV:Shape:=⟨[(.list (.int .i64)),(.int .i64)],[(0,.v 0),(1,.v 1)],[]⟩
def zhU:Shape:=⟨[.bool],[(0,.v 0)],[]⟩
def zit:CE:=⟨34,zhV,zhU,fun X=>zcY X.1 X.2⟩
theorem zoA:CE.ok Try.prog zit:=CE.of (Γ:=[zl9]) (by kernel_rfl) zbF (GOK.cons zrV (GOK.nil)) ⟨[],[],[],[]⟩ Try.func34 rfl Try.ntmps34 (rs:=[.tmp 4]) rfl (sig:=zhV) (out:=zhU) rfl Try.call34 (fun X=>by kernel_rfl)

def zfk:Shape:=⟨[(.int .i64)],[(0,.v 0)],[]⟩
def zfj:Shape:=⟨[.bool],[(0,.v 0)],[]⟩
def zgk:CE:=⟨33,zfk,zfj,fun X=>zeV X⟩
theorem zlQ:CE.ok Try.prog zgk:=CE.of (Γ:=[]) (by kernel_rfl) zbF (GOK.nil) ⟨[],[],[],[]⟩ Try.func33 rfl Try.ntmps33 (rs:=[.tmp 2]) rfl (sig:=zfk) (out:=zfj) rfl Try.call33 (fun X=>by kernel_rfl)

def zfm:Shape:=⟨[(.int .i64),(.int .i64)],[(0,.v 0),(1,.addr 1)],[]⟩
def zfl:Shape:=⟨[.bool],[(0,.v 0)],[]⟩
def zgl:CE:=⟨36,zfm,zfl,fun X=>zdw X.1 X.2⟩
theorem zlR:CE.ok Try.prog zgl:=CE.of (Γ:=[]) (by kernel_rfl) zbF (GOK.nil) ⟨[],[],[],[]⟩ Try.func36 rfl Try.ntmps36 (rs:=[.tmp 3]) rfl (sig:=zfm) (out:=zfl) rfl Try.call36 (fun X=>by kernel_rfl)

def ziw:Shape:=⟨[(.list (.int .i64))],[(0,.own 100000)],[(100000,.arr 3 0)]⟩
def ziv:Shape:=⟨[(.list (.int .i64))],[],[(100000,.arr 3 0)]⟩
def zc0:CE:=⟨54,ziw,ziv,fun X=>zcP X⟩
theorem zdW:CE.ok Try.prog zc0:=CE.of (Γ:=[]) (by kernel_rfl) zbF (GOK.nil) ⟨[(1,⟨⟨[(.int .i64),(.int .i64),(.list (.int .i64))],[(0,.own 100000),(2,.v 0),(3,.v 1)],[(100000,.arr 3 2)]⟩,[7,8,9,10,11,12,13,14,15,16,17,18,19,20,21,22,23,24,25,26,27],[],[],0,[]⟩)],[],[(3,[(0,0),(0,1),(0,2),(0,3),(0,4),(0,5),(0,6),(0,7),(0,8),(0,9),(0,10),(0,11),(0,12),(2,13),(0,14),(2,15)])],[]⟩ Try.func54 rfl Try.ntmps54 (rs:=[]) rfl (sig:=ziw) (out:=ziv) rfl Try.call54 (fun X=>by kernel_rfl)

def zhK:Shape:=⟨[Tc1,(.list (.int .i64)),(.int .i64)],[(0,.addr 0),(1,.v 1),(2,.fn 33 []),(3,.fn 36 [.addr 2])],[]⟩
def zhJ:Shape:=⟨[(.int .i64),.bool,(.list (.int .i64))],[(0,.own 0),(1,.v 0),(2,.v 1)],[(0,.arr 3 2)]⟩
def zim:CE:=⟨35,zhK,zhJ,fun X=>zcw X.1 X.2.1 X.2.2⟩
theorem zou:CE.ok Try.prog zim:=CE.of (Γ:=[zc0,zgk,zgl]) (by kernel_rfl) zbF (GOK.cons zdW (GOK.cons zlQ (GOK.cons zlR (GOK.nil)))) ⟨[(3,⟨⟨[(.int .i64),Tc10],[(11,.own 0),(22,.v 0)],[(0,.arr 105 1)]⟩,[13,23,24,25,26,27,28,29,30,31],[],[],1,[]⟩),(9,⟨⟨[(.int .i64),Tc10,(.list .bool)],[(11,.own 0),(14,.own 1),(15,.v 0)],[(0,.arr 105 1),(1,.arr 4 2)]⟩,[8,9,10,17,18,19,37,38,39,40,41,42,43,44,45,46,47,48,49,50,51,52,53,54,55,56,57,58,59,60,61,62,63,64,65,66,67,68,69,70,71,72,73,74,75,76,77,78,79,80,81,82,83,84,85,86,87,88,89,90,91,92,93,94,95,96,97,98,99,100,101,102,103,104,105,106,107,108,109,110,111,112,113,114,115,116,117],[],[],2,[]⟩),(12,⟨⟨[(.int .i64),Tc10,(.list .bool)],[(11,.own 0),(14,.own 1),(56,.v 0)],[(0,.arr 105 1),(1,.arr 4 2)]⟩,[8,9,10,17,18,19,39,48,50,51,57,58,59,60,61,62,63,64,65,66,67,68,69,70,71,72,73,74,75,76,77,78,79,80,81,82,83,84,85,86,87,88,89,90,91,92,93,94,95,96,97,98,99,100,101,102,103,104,105,106,107,108,109,110,111,112,113,114,115,116,117],[],[],2,[]⟩),(20,⟨⟨[(.int .i64),(.list (.int .i64))],[(18,.own 5),(19,.v 0)],[(5,.arr 3 1)]⟩,[76,93,94,95,96,97,98,99,100,101,102,103,104,105,106,107,108,109,110,111],[],[1,2,3,4],6,[]⟩)],[],[(11,[(0,0),(0,1),(0,2),(0,3),(0,4),(0,5),(0,6),(0,7),(0,8),(0,9),(0,10),(0,11),(0,12)]),(24,[(0,0),(0,1),(0,2),(0,3),(0,4),(0,5)])],[]⟩ Try.func35 rfl Try.ntmps35 (rs:=[.tmp 8,.tmp 9,.tmp 10]) rfl (sig:=zhK) (out:=zhJ) rfl Try.call35 (fun X=>by kernel_rfl)

def zfo:Shape:=⟨[(.int .i64),(.int .i64),Tc1],[(0,.v 0),(1,.ptr 100000 0),(2,.addr 1)],[(100000,.box 42 [.addr 2])]⟩
def zfn:Shape:=⟨[.bool,Tc1],[(0,.v 0)],[(100000,.box 42 [.addr 1])]⟩
def zdK:CE:=⟨37,zfo,zfn,fun X=>zcE X.1 X.2.1 X.2.2⟩
theorem zgm:CE.ok Try.prog zdK:=CE.of (Γ:=[]) (by kernel_rfl) zbF (GOK.nil) ⟨[],[],[(1,[(0,0),(0,1),(0,2),(0,3),(0,4),(0,5),(0,6),(0,7),(0,8),(0,9)])],[]⟩ Try.func37 rfl Try.ntmps37 (rs:=[.tmp 4]) rfl (sig:=zfo) (out:=zfn) rfl Try.call37 (fun X=>by kernel_rfl)

def zfi:Shape:=⟨[(.int .i64),(.int .i64),Tc1],[(0,.v 0),(1,.ptr 100000 0),(2,.addr 1)],[(100000,.box 81 [.fn 31 [.ptr 100001 0]]),(100001,.box 42 [.addr 2])]⟩
def zfh:Shape:=⟨[.bool,Tc1],[(0,.v 0)],[(100000,.box 81 [.fn 31 [.ptr 100001 0]]),(100001,.box 42 [.addr 1])]⟩
def zcD:CE:=⟨32,zfi,zfh,fun X=>za4 X.1 X.2.1 X.2.2⟩
theorem zdJ:CE.ok Try.prog zcD:=CE.of (Γ:=[zdI]) (by kernel_rfl) zbF (GOK.cons zgj (GOK.nil)) ⟨[],[],[],[(1,(.one 1 (.live [2] (.rd 0 [2,4,5] (.ban 3 [4,5] (.alt 2 2 (.leaf [(0,4),(0,5)]) .stop) (.alt 2 2 (.leaf [(0,3),(0,4),(0,5)]) .stop))))))]⟩ Try.func32 rfl Try.ntmps32 (rs:=[.tmp 4]) rfl (sig:=zfi) (out:=zfh) rfl Try.call32 (fun X=>by kernel_rfl)

def zfx:Shape:=⟨[(.int .i64),(.int .i64)],[(0,.v 0),(1,.addr 1)],[]⟩
def zfw:Shape:=⟨[.bool],[(0,.v 0)],[]⟩
def zgq:CE:=⟨55,zfx,zfw,fun X=>zdy X.1 X.2⟩
theorem zlU:CE.ok Try.prog zgq:=CE.of (Γ:=[]) (by kernel_rfl) zbF (GOK.nil) ⟨[],[],[],[]⟩ Try.func55 rfl Try.ntmps55 (rs:=[.tmp 3]) rfl (sig:=zfx) (out:=zfw) rfl Try.call55 (fun X=>by kernel_rfl)

def zgu:Shape:=⟨[Tc1,(.list (.int .i64)),(.int .i64),(.int .i64),Tc1],[(0,.addr 0),(1,.v 1),(2,.fn 32 [.ptr 100000 0,.addr 2]),(3,.fn 55 [.addr 3])],[(100000,.box 81 [.fn 31 [.ptr 100001 0]]),(100001,.box 42 [.addr 4])]⟩
def zgt:Shape:=⟨[(.int .i64),.bool,(.list (.int .i64)),Tc1],[(0,.own 0),(1,.v 0),(2,.v 1)],[(0,.arr 3 2),(100000,.box 81 [.fn 31 [.ptr 100001 0]]),(100001,.box 42 [.addr 3])]⟩
def zgU:CE:=⟨35,zgu,zgt,fun X=>zdS X.1 X.2.1 X.2.2.1 X.2.2.2.1 X.2.2.2.2⟩
theorem zmy:CE.ok Try.prog zgU:=CE.of (Γ:=[zcD,zc0,zgq]) (by kernel_rfl) zbF (GOK.cons zdJ (GOK.cons zdW (GOK.cons zlU (GOK.nil)))) ⟨[(3,⟨⟨[(.int .i64),Tc10],[(11,.own 0),(22,.v 0)],[(0,.arr 105 1)]⟩,[13,23,24,25,26,27,28,29,30,31],[],[],1,[]⟩),(9,⟨⟨[(.int .i64),(.int .i64),Tc10,(.list .bool),Tc1],[(2,.fn 32 [.ptr 100000 0,.addr 0]),(11,.own 0),(14,.own 1),(15,.v 1)],[(100000,.box 81 [.fn 31 [.ptr 100001 0]]),(0,.arr 105 2),(1,.arr 4 3),(100001,.box 42 [.addr 4])]⟩,[8,9,10,17,18,19,37,38,39,40,41,42,43,44,45,46,47,48,49,50,51,52,53,54,55,56,57,58,59,60,61,62,63,64,65,66,67,68,69,70,71,72,73,74,75,76,77,78,79,80,81,82,83,84,85,86,87,88,89,90,91,92,93,94,95,96,97,98,99,100,101,102,103,104,105,106,107,108,109,110,111,112,113,114,115,116,117],[],[],2,[]⟩),(12,⟨⟨[(.int .i64),(.int .i64),Tc10,(.list .bool),Tc1],[(2,.fn 32 [.ptr 100000 0,.addr 0]),(11,.own 0),(14,.own 1),(56,.v 1)],[(100000,.box 81 [.fn 31 [.ptr 100001 0]]),(0,.arr 105 2),(1,.arr 4 3),(100001,.box 42 [.addr 4])]⟩,[8,9,10,17,18,19,39,48,50,51,57,58,59,60,61,62,63,64,65,66,67,68,69,70,71,72,73,74,75,76,77,78,79,80,81,82,83,84,85,86,87,88,89,90,91,92,93,94,95,96,97,98,99,100,101,102,103,104,105,106,107,108,109,110,111,112,113,114,115,116,117],[],[],2,[]⟩),(20,⟨⟨[(.int .i64),(.list (.int .i64))],[(18,.own 5),(19,.v 0)],[(5,.arr 3 1)]⟩,[76,93,94,95,96,97,98,99,100,101,102,103,104,105,106,107,108,109,110,111],[],[1,2,3,4],6,[]⟩)],[],[(11,[(0,0),(0,1),(0,2),(0,3),(0,4),(0,5),(0,6),(0,7),(0,8),(0,9),(0,10),(0,11),(0,12)]),(24,[(0,0),(0,1),(0,2),(0,3),(0,4),(0,5)])],[]⟩ Try.func35 rfl Try.ntmps35 (rs:=[.tmp 8,.tmp 9,.tmp 10]) rfl (sig:=zgu) (out:=zgt) rfl Try.call35 (fun X=>by kernel_rfl)

def zgS:Shape:=⟨[Tc1,(.int .i64),(.int .i64),(.int .i64),Tc1],[(0,.addr 0),(1,.v 1),(2,.v 2),(3,.fn 32 [.ptr 100000 0,.addr 3])],[(100000,.box 81 [.fn 31 [.ptr 100001 0]]),(100001,.box 42 [.addr 4])]⟩
def zgR:Shape:=⟨[.bool,Tc1],[(0,.v 0)],[(100000,.box 81 [.fn 31 [.ptr 100001 0]]),(100001,.box 42 [.addr 1])]⟩
def zhI:CE:=⟨39,zgS,zgR,fun X=>zeg X.1 X.2.1 X.2.2.1 X.2.2.2.1 X.2.2.2.2⟩
theorem znu:CE.ok Try.prog zhI:=CE.of (Γ:=[zgU]) (by kernel_rfl) zbF (GOK.cons zmy (GOK.nil)) ⟨[],[],[],[]⟩ Try.func39 rfl Try.ntmps39 (rs:=[.tmp 8]) rfl (sig:=zgS) (out:=zgR) rfl Try.call39 (fun X=>by kernel_rfl)

def zfq:Shape:=⟨[(.int .i64),(.int .i64),(.int .i64),Tc1,(.int .i64)],[(0,.v 0),(1,.ptr 100000 0),(2,.ptr 100001 0),(3,.addr 1),(4,.ptr 100002 0)],[(100000,.box 54 [.fn 37 [.ptr 100001 0,.addr 2]]),(100001,.box 42 [.addr 3]),(100002,.box 54 [.fn 32 [.ptr 100003 0,.addr 4]]),(100003,.box 81 [.fn 31 [.ptr 100001 0]])]⟩
def zfp:Shape:=⟨[.bool,(.int .i64),Tc1,(.int .i64)],[(0,.v 0)],[(100000,.box 54 [.fn 37 [.ptr 100001 0,.addr 1]]),(100001,.box 42 [.addr 2]),(100002,.box 54 [.fn 32 [.ptr 100003 0,.addr 3]]),(100003,.box 81 [.fn 31 [.ptr 100001 0]])]⟩
def zgn:CE:=⟨38,zfq,zfp,fun X=>zcF X.1 X.2.1 X.2.2.1 X.2.2.2.1 X.2.2.2.2⟩
theorem zlS:CE.ok Try.prog zgn:=CE.of (Γ:=[zdK,zhI]) (by kernel_rfl) zbF (GOK.cons zgm (GOK.cons znu (GOK.nil))) ⟨[],[],[],[]⟩ Try.func38 rfl Try.ntmps38 (rs:=[.tmp 6]) rfl (sig:=zfq) (out:=zfp) rfl Try.call38 (fun X=>by kernel_rfl)

def zgs:Shape:=⟨[Tc1,(.list (.int .i64)),(.int .i64),(.int .i64),(.int .i64),Tc1,(.int .i64)],[(0,.addr 0),(1,.v 1),(2,.fn 32 [.ptr 100000 0,.addr 2]),(3,.fn 38 [.ptr 100001 0,.ptr 100002 0,.addr 3,.ptr 100003 0])],[(100000,.box 81 [.fn 31 [.ptr 100002 0]]),(100001,.box 54 [.fn 37 [.ptr 100002 0,.addr 4]]),(100002,.box 42 [.addr 5]),(100003,.box 54 [.fn 32 [.ptr 100000 0,.addr 6]])]⟩
def zgr:Shape:=⟨[(.int .i64),.bool,(.list (.int .i64)),(.int .i64),Tc1,(.int .i64)],[(0,.own 0),(1,.v 0),(2,.v 1)],[(0,.arr 3 2),(100000,.box 81 [.fn 31 [.ptr 100002 0]]),(100001,.box 54 [.fn 37 [.ptr 100002 0,.addr 3]]),(100002,.box 42 [.addr 4]),(100003,.box 54 [.fn 32 [.ptr 100000 0,.addr 5]])]⟩
def zgT:CE:=⟨35,zgs,zgr,fun X=>zdR X.1 X.2.1 X.2.2.1 X.2.2.2.1 X.2.2.2.2.1 X.2.2.2.2.2.1 X.2.2.2.2.2.2⟩
theorem zmx:CE.ok Try.prog zgT:=CE.of (Γ:=[zgn,zcD,zc0]) (by kernel_rfl) zbF (GOK.cons zlS (GOK.cons zdJ (GOK.cons zdW (GOK.nil)))) ⟨[(3,⟨⟨[(.int .i64),Tc10],[(11,.own 0),(22,.v 0)],[(0,.arr 105 1)]⟩,[13,23,24,25,26,27,28,29,30,31],[],[],1,[]⟩),(9,⟨⟨[(.int .i64),(.int .i64),(.int .i64),(.int .i64),Tc1,(.int .i64),Tc10,(.list .bool)],[(2,.fn 32 [.ptr 100000 0,.addr 0]),(3,.fn 38 [.ptr 100001 0,.ptr 100002 0,.addr 1,.ptr 100003 0]),(11,.own 0),(14,.own 1),(15,.v 2)],[(100000,.box 81 [.fn 31 [.ptr 100002 0]]),(100001,.box 54 [.fn 37 [.ptr 100002 0,.addr 3]]),(100002,.box 42 [.addr 4]),(100003,.box 54 [.fn 32 [.ptr 100000 0,.addr 5]]),(0,.arr 105 6),(1,.arr 4 7)]⟩,[8,9,10,17,18,19,37,38,39,40,41,42,43,44,45,46,47,48,49,50,51,52,53,54,55,56,57,58,59,60,61,62,63,64,65,66,67,68,69,70,71,72,73,74,75,76,77,78,79,80,81,82,83,84,85,86,87,88,89,90,91,92,93,94,95,96,97,98,99,100,101,102,103,104,105,106,107,108,109,110,111,112,113,114,115,116,117],[],[],2,[]⟩),(12,⟨⟨[(.int .i64),(.int .i64),(.int .i64),(.int .i64),Tc1,(.int .i64),Tc10,(.list .bool)],[(2,.fn 32 [.ptr 100000 0,.addr 0]),(3,.fn 38 [.ptr 100001 0,.ptr 100002 0,.addr 1,.ptr 100003 0]),(11,.own 0),(14,.own 1),(56,.v 2)],[(100000,.box 81 [.fn 31 [.ptr 100002 0]]),(100001,.box 54 [.fn 37 [.ptr 100002 0,.addr 3]]),(100002,.box 42 [.addr 4]),(100003,.box 54 [.fn 32 [.ptr 100000 0,.addr 5]]),(0,.arr 105 6),(1,.arr 4 7)]⟩,[8,9,10,17,18,19,39,48,50,51,57,58,59,60,61,62,63,64,65,66,67,68,69,70,71,72,73,74,75,76,77,78,79,80,81,82,83,84,85,86,87,88,89,90,91,92,93,94,95,96,97,98,99,100,101,102,103,104,105,106,107,108,109,110,111,112,113,114,115,116,117],[],[],2,[]⟩),(20,⟨⟨[(.int .i64),(.list (.int .i64))],[(18,.own 5),(19,.v 0)],[(5,.arr 3 1)]⟩,[76,93,94,95,96,97,98,99,100,101,102,103,104,105,106,107,108,109,110,111],[],[1,2,3,4],6,[]⟩)],[],[(11,[(0,0),(0,1),(0,2),(0,3),(0,4),(0,5),(0,6),(0,7),(0,8),(0,9),(0,10),(0,11),(0,12)]),(24,[(0,0),(0,1),(0,2),(0,3),(0,4),(0,5)])],[]⟩ Try.func35 rfl Try.ntmps35 (rs:=[.tmp 8,.tmp 9,.tmp 10]) rfl (sig:=zgs) (out:=zgr) rfl Try.call35 (fun X=>by kernel_rfl)

def zfs:Shape:=⟨[(.int .i64),(.int .i64)],[(0,.v 0),(1,.addr 1)],[]⟩
def zfr:Shape:=⟨[.bool],[(0,.v 0)],[]⟩
def zgo:CE:=⟨40,zfs,zfr,fun X=>zdx X.1 X.2⟩
theorem zlT:CE.ok Try.prog zgo:=CE.of (Γ:=[]) (by kernel_rfl) zbF (GOK.nil) ⟨[],[],[],[]⟩ Try.func40 rfl Try.ntmps40 (rs:=[.tmp 3]) rfl (sig:=zfs) (out:=zfr) rfl Try.call40 (fun X=>by kernel_rfl)

def zgw:Shape:=⟨[Tc1,(.list (.int .i64)),(.int .i64),(.int .i64),Tc1],[(0,.addr 0),(1,.v 1),(2,.fn 32 [.ptr 100000 0,.addr 2]),(3,.fn 40 [.addr 3])],[(100000,.box 81 [.fn 31 [.ptr 100001 0]]),(100001,.box 42 [.addr 4])]⟩
def zgv:Shape:=⟨[(.int .i64),.bool,(.list (.int .i64)),Tc1],[(0,.own 0),(1,.v 0),(2,.v 1)],[(0,.arr 3 2),(100000,.box 81 [.fn 31 [.ptr 100001 0]]),(100001,.box 42 [.addr 3])]⟩
def zgV:CE:=⟨35,zgw,zgv,fun X=>zcV X.1 X.2.1 X.2.2.1 X.2.2.2.1 X.2.2.2.2⟩
theorem zmz:CE.ok Try.prog zgV:=CE.of (Γ:=[zcD,zc0,zgo]) (by kernel_rfl) zbF (GOK.cons zdJ (GOK.cons zdW (GOK.cons zlT (GOK.nil)))) ⟨[(3,⟨⟨[(.int .i64),Tc10],[(11,.own 0),(22,.v 0)],[(0,.arr 105 1)]⟩,[13,23,24,25,26,27,28,29,30,31],[],[],1,[]⟩),(9,⟨⟨[(.int .i64),(.int .i64),Tc10,(.list .bool),Tc1],[(2,.fn 32 [.ptr 100000 0,.addr 0]),(11,.own 0),(14,.own 1),(15,.v 1)],[(100000,.box 81 [.fn 31 [.ptr 100001 0]]),(0,.arr 105 2),(1,.arr 4 3),(100001,.box 42 [.addr 4])]⟩,[8,9,10,17,18,19,37,38,39,40,41,42,43,44,45,46,47,48,49,50,51,52,53,54,55,56,57,58,59,60,61,62,63,64,65,66,67,68,69,70,71,72,73,74,75,76,77,78,79,80,81,82,83,84,85,86,87,88,89,90,91,92,93,94,95,96,97,98,99,100,101,102,103,104,105,106,107,108,109,110,111,112,113,114,115,116,117],[],[],2,[]⟩),(12,⟨⟨[(.int .i64),(.int .i64),Tc10,(.list .bool),Tc1],[(2,.fn 32 [.ptr 100000 0,.addr 0]),(11,.own 0),(14,.own 1),(56,.v 1)],[(100000,.box 81 [.fn 31 [.ptr 100001 0]]),(0,.arr 105 2),(1,.arr 4 3),(100001,.box 42 [.addr 4])]⟩,[8,9,10,17,18,19,39,48,50,51,57,58,59,60,61,62,63,64,65,66,67,68,69,70,71,72,73,74,75,76,77,78,79,80,81,82,83,84,85,86,87,88,89,90,91,92,93,94,95,96,97,98,99,100,101,102,103,104,105,106,107,108,109,110,111,112,113,114,115,116,117],[],[],2,[]⟩),(20,⟨⟨[(.int .i64),(.list (.int .i64))],[(18,.own 5),(19,.v 0)],[(5,.arr 3 1)]⟩,[76,93,94,95,96,97,98,99,100,101,102,103,104,105,106,107,108,109,110,111],[],[1,2,3,4],6,[]⟩)],[],[(11,[(0,0),(0,1),(0,2),(0,3),(0,4),(0,5),(0,6),(0,7),(0,8),(0,9),(0,10),(0,11),(0,12)]),(24,[(0,0),(0,1),(0,2),(0,3),(0,4),(0,5)])],[]⟩ Try.func35 rfl Try.ntmps35 (rs:=[.tmp 8,.tmp 9,.tmp 10]) rfl (sig:=zgw) (out:=zgv) rfl Try.call35 (fun X=>by kernel_rfl)

def zgQ:Shape:=⟨[Tc1,(.int .i64)],[(0,.addr 0),(1,.v 1)],[]⟩
def zgP:Shape:=⟨[(.pair (.list (.int .i64)) Tc16),.bool],[(0,.v 0),(1,.v 1)],[]⟩
def zhH:CE:=⟨13,zgQ,zgP,fun X=>zef X.1 X.2⟩
theorem znt:CE.ok Try.prog zhH:=CE.of (Γ:=[zdI,zdK,zit,zim,zgT,zgV]) (by kernel_rfl) zbF (GOK.cons zgj (GOK.cons zgm (GOK.cons zoA (GOK.cons zou (GOK.cons zmx (GOK.cons zmz (GOK.nil))))))) ⟨[(5,⟨⟨[(.int .i64),(.list (.int .i64))],[(8,.own 5),(32,.v 0)],[(5,.arr 3 1)]⟩,[10,33,34,35,36,37,38,39,40,41,42,43,44,45,46,47,48,49,50,51,52],[],[0,2,3,4],6,[]⟩),(11,⟨⟨[(.int .i64),Tc1,(.int .i64)],[(2,.ptr 0 0),(6,.ptr 3 0),(7,.ptr 4 0),(58,.v 0)],[(0,.box 42 [.addr 1]),(3,.box 81 [.fn 31 [.ptr 0 0]]),(4,.box 54 [.fn 32 [.ptr 3 0,.addr 2]])]⟩,[5,12,13,14,16,17,18,19,20,21,22,23,24,25,59,60,61,62,63,64,65,66,67,68,69,70,71,72,73,74,75,76,77,78,79,80,81,82,83,84,85,86,87,88,89,90,91,92,93,94,95,96,97,98,99,100,101,102,103,104,105,106,107,108,109,110,111,112,113,114,115,116,117,118,119,120,121,122,123,124,125,126,127],[],[2,5],6,[]⟩),(19,⟨⟨[(.int .i64),(.int .i64),Tc1,(.int .i64)],[(2,.ptr 0 0),(6,.ptr 3 0),(7,.ptr 4 0),(12,.addr 0),(88,.v 1)],[(0,.box 42 [.addr 2]),(3,.box 81 [.fn 31 [.ptr 0 0]]),(4,.box 54 [.fn 32 [.ptr 3 0,.addr 3]])]⟩,[5,16,17,18,19,20,21,22,23,75,89,90,91,92,93,94,95,96,97,98,99,100,101,102,103,104,105,106,107,108,109,110,111,112,113,114,115,116,117,118,119,120,121,122,123,124,125,126],[6],[2,5,7],8,[(12,999999,none,(.int .i64))]⟩)],[(13,⟨⟨[Tc1],[(2,.ptr 0 0),(6,.ptr 3 0)],[(0,.box 42 [.addr 0]),(3,.box 81 [.fn 31 [.ptr 0 0]])]⟩,[61,62,63,64,65],[],[2,4,5,6],7,[]⟩),(16,⟨⟨[.bool,(.list (.int .i64))],[(13,.own 7),(14,.v 0)],[(7,.arr 3 1)]⟩,[69,70,71,72,73,74,75,76,77,78,79],[],[0,2,3,4,5,6],8,[]⟩),(26,⟨⟨[(.int .i64),Tc1,(.int .i64),(.list (.int .i64))],[(2,.ptr 0 0),(6,.ptr 3 0),(7,.ptr 4 0),(18,.own 10),(19,.v 0)],[(0,.box 42 [.addr 1]),(3,.box 81 [.fn 31 [.ptr 0 0]]),(4,.box 54 [.fn 32 [.ptr 3 0,.addr 2]]),(10,.arr 3 3)]⟩,[17,20,92,94,95,96,97,98,99,100,101,102,103,104,105,106,107,108,109],[9],[2,5,7],11,[]⟩)],[(7,[(0,0),(0,1),(0,2),(0,3),(0,4),(0,5),(0,6),(0,7),(0,8),(0,9),(0,10),(0,11),(0,12),(0,13),(1,14),(2,15),(0,16)]),(22,[(0,0),(0,1),(0,2)])],[(13,(.live [2] (.rd 0 [2,4] (.rd 1 [2,4] (.ban 3 [4] (.alt 2 2 (.leaf [(0,4)]) .stop) (.alt 2 2 (.leaf [(0,3),(0,4)]) .stop))))))]⟩ Try.func13 rfl Try.ntmps13 (rs:=[.cell 4 27,.tmp 5]) rfl (sig:=zgQ) (out:=zgP) rfl Try.call13 (fun X=>by kernel_rfl)

def zkK:Shape:=⟨[Tc3,Tc3],[(0,.v 0),(1,.v 1)],[]⟩
def zkJ:Shape:=⟨[(.pair (.list (.int .i64)) Tc16),.bool,(.int .i64)],[(0,.v 0),(1,.v 1),(2,.v 2)],[]⟩
def zlN:CE:=⟨4,zkK,zkJ,fun X=>zdH X.1 X.2⟩
theorem zrT:CE.ok Try.prog zlN:=CE.of (Γ:=[zmF,zhP,zkP,zhH]) (by kernel_rfl) zbF (GOK.cons zsb (GOK.cons znw (GOK.cons zqj (GOK.cons znt (GOK.nil))))) ⟨[(2,⟨⟨[(.int .i64)],[(19,.v 0)],[]⟩,[5,6,8,9,20,21,22,23,24,25,26,27,28,29],[],[0,1,2,3],4,[]⟩),(15,⟨⟨[(.int .i64)],[(12,.v 0)],[]⟩,[5,6,13,14,50,51,52,53,54,55,56,57,58,59,60,61],[],[0,1,2,3,4],5,[]⟩)],[],[],[]⟩ Try.func4 rfl Try.ntmps4 (rs:=[.cell 4 27,.tmp 5,.tmp 6]) rfl (sig:=zkK) (out:=zkJ) rfl Try.call4 (fun X=>by kernel_rfl)

def zlu:Shape:=⟨[(.pair (.list (.int .i64)) Tc16)],[(0,.v 0)],[]⟩
def zlt:Shape:=⟨[.bool],[(0,.v 0)],[]⟩
def zmN:CE:=⟨5,zlu,zlt,fun X=>zj3 X⟩
theorem zsn:CE.ok Try.prog zmN:=CE.of (Γ:=[]) (by kernel_rfl) zbF (GOK.nil) ⟨[],[],[],[]⟩ Try.func5 rfl Try.ntmps5 (rs:=[.tmp 2]) rfl (sig:=zlu) (out:=zlt) rfl Try.call5 (fun X=>by kernel_rfl)

def zpO:Shape:=⟨[Tc12,Tc12],[(0,.v 0),(1,.v 1)],[]⟩
def zpN:Shape:=⟨[.bool],[(0,.v 0)],[]⟩
def zrA:CE:=⟨14,zpO,zpN,fun X=>zqz X.1 X.2⟩
theorem zv4:CE.ok Try.prog zrA:=CE.of (Γ:=[]) (by kernel_rfl) zbF (GOK.nil) ⟨[],[],[],[]⟩ Try.func14 rfl Try.ntmps14 (rs:=[.tmp 4]) rfl (sig:=zpO) (out:=zpN) rfl Try.call14 (fun X=>by kernel_rfl)

def zpQ:Shape:=⟨[Tc3],[(0,.v 0)],[]⟩
def zpP:Shape:=⟨[(.int .i64)],[(0,.v 0)],[]⟩
def zrG:CE:=⟨6,zpQ,zpP,fun X=>zol X⟩
theorem zv5:CE.ok Try.prog zrG:=CE.of (Γ:=[zrA]) (by kernel_rfl) zbF (GOK.cons zv4 (GOK.nil)) ⟨[(6,⟨⟨[(.int .i64)],[(3,.v 0)],[]⟩,[2,33,34,35,36,37,38,39,40,41,42,43,44,45,46,47,48,49,50,51,52,53,54,55],[],[0],1,[]⟩),(11,⟨⟨[(.int .i64)],[(4,.v 0)],[]⟩,[2,56,57,58,59,60,61,62,63,64,65,66,67,68,69,70,71,72,73,74,75,76,77,78],[],[0],1,[]⟩),(16,⟨⟨[(.int .i64)],[(5,.v 0)],[]⟩,[2,6,79,80,81,82,83,84,85,86,87,88,89,90,91,92,93,94,95,96,97,98,99,100,101,102,103,104,105,106,107,108,109,110,111,112,113,114,115,116,117,118,119,120,121,122,123,124],[],[0],1,[]⟩),(22,⟨⟨[(.int .i64)],[(7,.v 0)],[]⟩,[2,125,126,127,128,129,130,131,132,133,134,135,136,137,138,139,140,141,142,143],[],[0],1,[]⟩),(27,⟨⟨[(.int .i64)],[(8,.v 0)],[]⟩,[2,144,145,146,147,148,149,150,151,152,153,154,155,156,157,158,159,160,161,162],[],[0],1,[]⟩),(32,⟨⟨[(.int .i64)],[(9,.v 0)],[]⟩,[2,10,163,164,165,166,167,168,169,170,171,172,173,174,175,176,177,178,179,180,181,182,183],[],[0],1,[]⟩)],[],[(8,[(0,0),(0,1),(0,2),(0,3),(0,4),(0,5),(0,6),(0,7),(0,8),(0,9),(0,10),(0,11),(0,12),(0,13),(0,14),(0,15)]),(13,[(0,0),(0,1),(0,2),(0,3),(0,4),(0,5),(0,6),(0,7),(0,8),(0,9),(0,10),(0,11),(0,12),(0,13),(0,14),(0,15)]),(24,[(0,0),(0,1),(0,2),(0,3),(0,4),(0,5),(0,6),(0,7),(0,8),(0,9),(0,10),(0,11)]),(29,[(0,0),(0,1),(0,2),(0,3),(0,4),(0,5),(0,6),(0,7),(0,8),(0,9),(0,10),(0,11)]),(34,[(0,0),(0,1),(0,2),(0,3),(0,4),(0,5),(0,6),(0,7),(0,8),(0,9),(0,10),(1,11),(0,12)])],[]⟩ Try.func6 rfl Try.ntmps6 (rs:=[.tmp 2]) rfl (sig:=zpQ) (out:=zpP) rfl Try.call6 (fun X=>by kernel_rfl)

def zuT:Shape:=⟨[(.pair (.list (.int .i64)) Tc16),(.int .i64)],[(0,.v 0),(1,.v 1)],[]⟩
def zuS:Shape:=⟨[(.int .i64)],[(0,.v 0)],[]⟩
def zwZ:CE:=⟨15,zuT,zuS,fun X=>zAz X.1 X.2⟩
theorem zAA:CE.ok Try.prog zwZ:=CE.of (Γ:=[]) (by kernel_rfl) zbF (GOK.nil) ⟨[],[],[(3,[(0,0),(0,1),(0,2),(0,3),(0,4),(0,5),(0,6),(0,7),(0,8),(0,9),(0,10),(0,11),(0,12),(0,13)])],[]⟩ Try.func15 rfl Try.ntmps15 (rs:=[.tmp 4]) rfl (sig:=zuT) (out:=zuS) rfl Try.call15 (fun X=>by kernel_rfl)

def zpF:Shape:=⟨[(.pair (.list (.int .i64)) Tc16),(.int .i64),(.int .i64)],[(0,.v 0),(1,.v 1),(2,.v 2)],[]⟩
def zpE:Shape:=⟨[.bool],[(0,.v 0)],[]⟩
def zrh:CE:=⟨7,zpF,zpE,fun X=>zqu X.1 X.2.1 X.2.2⟩
theorem zvW:CE.ok Try.prog zrh:=CE.of (Γ:=[zwZ]) (by kernel_rfl) zbF (GOK.cons zAA (GOK.nil)) ⟨[(4,⟨⟨[(.int .i64)],[(7,.v 0)],[]⟩,[6,8,27,28,29,30,31,32,33,34,35,36,37,38,39,40,41,42,43,44,45,46,47],[],[0],1,[]⟩)],[],[],[]⟩ Try.func7 rfl Try.ntmps7 (rs:=[.tmp 6]) rfl (sig:=zpF) (out:=zpE) rfl Try.call7 (fun X=>by kernel_rfl)

def zuZ:Shape:=⟨[Tc3,(.list .bool),(.int .i64)],[(0,.v 0),(1,.v 1),(2,.v 2)],[]⟩
def zuY:Shape:=⟨[(.list .bool)],[(0,.own 0)],[(0,.arr 4 0)]⟩
def ztR:CE:=⟨16,zuZ,zuY,fun X=>zuX X.1 X.2.1 X.2.2⟩
theorem zw0:CE.ok Try.prog ztR:=CE.of (Γ:=[]) (by kernel_rfl) zbF (GOK.nil) ⟨[(3,⟨⟨[(.int .i64),(.list .bool)],[(7,.own 1),(8,.v 0)],[(1,.arr 4 1)]⟩,[9,12,13,14,15,16,17,18,19,20,21,22,23,24,25,26,27,28,29,30,31,32,33,34,35,36,37,38,39],[],[0],2,[]⟩)],[(6,⟨⟨[.bool],[(35,.v 0)],[]⟩,[25,26,27,28,29,30,31,32,33,34],[],[0,1,2],3,[]⟩)],[],[]⟩ Try.func16 rfl Try.ntmps16 (rs:=[.tmp 6]) rfl (sig:=zuZ) (out:=zuY) rfl Try.call16 (fun X=>by kernel_rfl)

def zpU:Shape:=⟨[Tc3,(.list (.int .i64)),(.list .bool),(.int .i64)],[(0,.v 0),(1,.v 1),(2,.v 2),(3,.v 3)],[]⟩
def zpT:Shape:=⟨[.bool],[(0,.v 0)],[]⟩
def zrN:CE:=⟨17,zpU,zpT,fun X=>zqA X.1 X.2.1 X.2.2.1 X.2.2.2⟩
theorem zv7:CE.ok Try.prog zrN:=CE.of (Γ:=[ztR]) (by kernel_rfl) zbF (GOK.cons zw0 (GOK.nil)) ⟨[(5,⟨⟨[.bool,(.list .bool),(.list .bool)],[(9,.own 1),(10,.own 2),(11,.v 0)],[(1,.arr 4 1),(2,.arr 4 2)]⟩,[8,12,13,14,15,16,19,22,23,25,26,27,28,29,30,31,32,33,34,35,36,37,38,39,40,41,42,43,44,45,46,47,48,49,50,51,52,53,54,55,56,57,58,59,60,61,62,63,64,65,66,67,68,69,70,71,72,73,74,75,76,77,78,79,80,81,82,83,84,85,86,87,88,89,90,91,92,93,94,95,96,97,98,99,100,101,102,103,104,105,106,107,108,109,110,111,112,113,114,115,116,117,118,119,120,121,122,123,124,125,126,127,128,129,130,131,132,133,134,135,136,137,138,139,140],[],[0],3,[]⟩),(10,⟨⟨[(.int .i64),(.list .bool),(.list .bool)],[(12,.own 4),(13,.own 6),(14,.v 0)],[(4,.arr 4 1),(6,.arr 4 2)]⟩,[15,27,29,30,32,33,34,35,36,37,38,39,40,41,42,43,44,45,46,47,48,49,50,51,52,53,54,55,56,57,58,59,60,61,62,63,64,65,66,67,68,69,70,71,72,73,74,75,76,77],[],[0,1,2],7,[]⟩),(13,⟨⟨[(.int .i64),(.list .bool)],[(13,.own 6),(15,.v 0)],[(6,.arr 4 1)]⟩,[39,40,41,42,43,44,45,46,47,48,49,50,51,52,53,54,55,56,57,58,59,60,61,62,63],[],[0,1,2,4],7,[]⟩),(21,⟨⟨[.bool,(.int .i64),(.list .bool),(.list .bool)],[(9,.own 1),(10,.own 2),(11,.v 0),(16,.v 1)],[(1,.arr 4 2),(2,.arr 4 3)]⟩,[28,31,82,83,84,85,86,87,88,89,90,91,92,93,94,95,96,97,98,99,100,101,102,103,104,105,106,107,108,109,110,111,112,113,114,115,116,117,118,119,120,121,122,123,124,125,126,127,128,129,130,131,132,133,134,135,136,137,138,139,140],[],[0,4,6],7,[]⟩)],[(23,⟨⟨[.bool],[(11,.v 0)],[]⟩,[88,89,90,91,92,93,94,95,96,97,98,99,100,101,102,103,104,105,106,107,108,109,110,111,112,113,114],[],[0,1,2,4,6],7,[]⟩),(24,⟨⟨[(.list .bool)],[(9,.own 1)],[(1,.arr 4 0)]⟩,[115,116,117,118,119,120,121,122,123,124,125,126,127],[],[0,2,4,6],7,[]⟩)],[(16,[(0,0),(0,1),(0,2),(0,3),(0,4),(0,5),(1,6),(0,7)]),(17,[(0,0),(0,1),(0,2),(0,3),(0,4),(0,5),(1,6),(0,7)])],[]⟩ Try.func17 rfl Try.ntmps17 (rs:=[.tmp 8]) rfl (sig:=zpU) (out:=zpT) rfl Try.call17 (fun X=>by kernel_rfl)

def zmP:Shape:=⟨[Tc3,(.pair (.list (.int .i64)) Tc16)],[(0,.v 0),(1,.v 1)],[]⟩
def zmO:Shape:=⟨[.bool],[(0,.v 0)],[]⟩
def zoj:CE:=⟨8,zmP,zmO,fun X=>zfX X.1 X.2⟩
theorem ztO:CE.ok Try.prog zoj:=CE.of (Γ:=[ztR,zrN]) (by kernel_rfl) zbF (GOK.cons zw0 (GOK.cons zv7 (GOK.nil))) ⟨[(3,⟨⟨[(.int .i64),(.list .bool)],[(5,.own 2),(6,.v 0)],[(2,.arr 4 1)]⟩,[18,19,20,21,22,23,24,25,26,27,28,29,30,31,32],[],[0,1],3,[]⟩),(7,⟨⟨[(.int .i64),(.list .bool)],[(5,.own 2),(7,.v 0)],[(2,.arr 4 1)]⟩,[33,34,35,36,37,38,39,40,41,42,43,44,45,46,47],[],[0,1],3,[]⟩),(11,⟨⟨[.bool,(.list .bool)],[(5,.own 2),(8,.v 0)],[(2,.arr 4 1)]⟩,[9,10,11,48,49,50,51,52,53,54,55,56,57,58,59,60,61,62,63,64,65,66,67,68,69,70,71,72,73,74,75,76,77,78,79,80,81,82,83,84,85,86,87,88,89,90,91,92,93,94,95,96,97],[],[0,1],3,[]⟩),(15,⟨⟨[(.int .i64),(.list .bool),(.list .bool)],[(5,.own 2),(9,.own 3),(10,.v 0)],[(2,.arr 4 1),(3,.arr 4 2)]⟩,[49,50,51,52,53,54,55,56,57,58,59,60,61,62,63,64],[],[0,1],4,[]⟩),(19,⟨⟨[.bool,(.int .i64),(.list .bool)],[(5,.own 2),(8,.v 0),(11,.v 1)],[(2,.arr 4 2)]⟩,[65,66,67,68,69,70,71,72,73,74,75,76,77,78,79,80,81,82,83,84,85,86,87,88,89,90,91,92,93,94,95,96,97],[],[0,1,3],4,[]⟩),(25,⟨⟨[(.int .i64),(.list .bool)],[(12,.own 3),(13,.v 0)],[(3,.arr 4 1)]⟩,[100,101,102,103,104,105,106,107,108,109,110,111,112,113,114],[],[0,1,2],4,[]⟩),(29,⟨⟨[(.int .i64)],[(14,.v 0)],[]⟩,[4,15,115,116,117,118,119,120,121,122,123,124,125,126,127,128,129,130,131,132],[],[0,1,2,3],4,[]⟩)],[(21,⟨⟨[.bool],[(8,.v 0)],[]⟩,[71,72,73,74,75,76,77,78,79,80,81,82,83,84],[],[0,1,2,3],4,[]⟩)],[(9,[(0,0),(0,1),(0,2),(0,3),(0,4),(0,5),(0,6),(1,7),(0,8)]),(1000015,[]),(17,[(0,0),(0,1),(0,2),(0,3),(0,4),(0,5),(0,6),(1,7),(0,8)])],[]⟩ Try.func8 rfl Try.ntmps8 (rs:=[.tmp 4]) rfl (sig:=zmP) (out:=zmO) rfl Try.call8 (fun X=>by kernel_rfl)

def zsQ:Shape:=⟨[(.int .i64),(.list (.int .i64))],[(0,.v 0),(1,.v 1)],[]⟩
def zsP:Shape:=⟨[(.int .i64)],[(0,.v 0)],[]⟩
def zuW:CE:=⟨41,zsQ,zsP,fun X=>zuU X.1 X.2⟩
theorem zzs:CE.ok Try.prog zuW:=CE.of (Γ:=[]) (by kernel_rfl) zbF (GOK.nil) ⟨[(6,⟨⟨[(.int .i64)],[(5,.v 0)],[]⟩,[4,15,16,17,18,19,20,21,22,23,24,25,26,27,28,29,30,31,32,33],[],[],0,[]⟩)],[],[],[]⟩ Try.func41 rfl Try.ntmps41 (rs:=[.tmp 4]) rfl (sig:=zsQ) (out:=zsP) rfl Try.call41 (fun X=>by kernel_rfl)

def zpL:Shape:=⟨[(.int .i64),(.pair (.list (.int .i64)) Tc16)],[(0,.v 0),(1,.v 1)],[]⟩
def zpK:Shape:=⟨[(.int .i64)],[(0,.v 0)],[]⟩
def zrx:CE:=⟨18,zpL,zpK,fun X=>zqy X.1 X.2⟩
theorem zv3:CE.ok Try.prog zrx:=CE.of (Γ:=[zuW]) (by kernel_rfl) zbF (GOK.cons zzs (GOK.nil)) ⟨[],[],[],[]⟩ Try.func18 rfl Try.ntmps18 (rs:=[.tmp 4]) rfl (sig:=zpL) (out:=zpK) rfl Try.call18 (fun X=>by kernel_rfl)

def zpS:Shape:=⟨[Tc3,(.pair (.list (.int .i64)) Tc16)],[(0,.v 0),(1,.v 1)],[]⟩
def zpR:Shape:=⟨[(.int .i64)],[(0,.v 0)],[]⟩
def zrH:CE:=⟨9,zpS,zpR,fun X=>ztP X.1 X.2⟩
theorem zv6:CE.ok Try.prog zrH:=CE.of (Γ:=[zrx]) (by kernel_rfl) zbF (GOK.cons zv3 (GOK.nil)) ⟨[],[],[],[]⟩ Try.func9 rfl Try.ntmps9 (rs:=[.tmp 4]) rfl (sig:=zpS) (out:=zpR) rfl Try.call9 (fun X=>by kernel_rfl)

def zhr:Shape:=⟨[Tc3,Tc3,(.pair (.list (.int .i64)) Tc16)],[(0,.v 0),(1,.v 1),(2,.v 2)],[]⟩
def zhq:Shape:=⟨[.bool],[(0,.v 0)],[]⟩
def zeQ:CE:=⟨3,zhr,zhq,fun X=>zhp X.1 X.2.1 X.2.2⟩
theorem zn3:CE.ok Try.prog zeQ:=CE.of (Γ:=[zlN,zmN,zrG,zrh,zoj,zrH]) (by kernel_rfl) zbF (GOK.cons zrT (GOK.cons zsn (GOK.cons zv5 (GOK.cons zvW (GOK.cons ztO (GOK.cons zv6 (GOK.nil))))))) ⟨[],[(5,⟨⟨[(.int .i64)],[(11,.v 0)],[]⟩,[29,30,31,32],[],[0,1,2,3],4,[]⟩),(6,⟨⟨[.bool],[(41,.v 0)],[]⟩,[33,34,35,36,37,38,39,40],[],[0,1,2,3],4,[]⟩),(7,⟨⟨[(.int .i64)],[(11,.v 0)],[]⟩,[33,34,35,36,37,38,39,40,41],[],[0,1,2,3],4,[]⟩),(8,⟨⟨[.bool],[(53,.v 0)],[]⟩,[42,43,44,45,46,47,48,49,50,51,52],[],[0,1,2,3],4,[]⟩),(9,⟨⟨[(.int .i64)],[(11,.v 0)],[]⟩,[42,43,44,45,46,47,48,49,50,51,52,53],[],[0,1,2,3],4,[]⟩)],[],[]⟩ Try.func3 rfl Try.ntmps3 (rs:=[.tmp 6]) rfl (sig:=zhr) (out:=zhq) rfl Try.call3 (fun X=>by kernel_rfl)

end
end Go.Proofs.Yticelcjhokgcbaa.safraWithinW
