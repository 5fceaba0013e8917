import Derived.Test.YtheahfijmfffcaaRegularDetD
import Derived.Test.YtheahfijmfffcaaProg
import Derived.KernelRfl
set_option maxHeartbeats 1000000
set_option maxRecDepth 20000
set_option linter.unusedSimpArgs false
set_option linter.unusedVariables false
namespace Go.Proofs.Ytheahfijmfffcaa.regularDetW
open Go Go.Ab
noncomputable section
theorem zB5:SzT Try.prog 3 ((.int .i64)):=SzT.ofTI (dsc:=false) (size:=1) (bytes:=8) (z := .int .i64 0) (TI.of Try.underlying3 rfl (by kernel_rfl)) rfl rfl
theorem zB9:SzT Try.prog 9 (.str):=SzT.ofTI (dsc:=false) (size:=1) (bytes:=16) (z := .string ⟨⟨[]⟩⟩) (TI.of Try.underlying9 rfl (by kernel_rfl)) rfl rfl
theorem zzR:SzT Try.prog 105 ((.pair (.int .i64) (.pair .str .unit))):=SzT.ofTI (dsc:=true) (size:=2) (bytes:=24) (z := .agg ⟨[.int .i64 0,.string ⟨⟨[]⟩⟩]⟩) (TI.of Try.underlying105 rfl (by kernel_rfl)) rfl rfl
def te3:TE:=⟨3,.int .i64,false,1,8,.int .i64 0,some (.int .i64)⟩
theorem zB4:TEok Try.prog te3:=⟨TI.of Try.underlying3 rfl (by kernel_rfl),Try.underlying3,fun t h=>by cases h;exact ⟨rfl,rfl,by decide,rfl⟩⟩
def te4:TE:=⟨4,.bool,false,1,1,.bool false,some .bool⟩
theorem zB6:TEok Try.prog te4:=⟨TI.of Try.underlying4 rfl (by kernel_rfl),Try.underlying4,fun t h=>by cases h;exact ⟨rfl,rfl,by decide,rfl⟩⟩
def te5:TE:=⟨5,.int .u8,false,1,1,.int .u8 0,some (.int .u8)⟩
theorem zB7:TEok Try.prog te5:=⟨TI.of Try.underlying5 rfl (by kernel_rfl),Try.underlying5,fun t h=>by cases h;exact ⟨rfl,rfl,by decide,rfl⟩⟩
def te9:TE:=⟨9,.str,false,1,16,.string ⟨⟨[]⟩⟩,some .str⟩
theorem zB8:TEok Try.prog te9:=⟨TI.of Try.underlying9 rfl (by kernel_rfl),Try.underlying9,fun t h=>by cases h;exact ⟨rfl,rfl,by decide,rfl⟩⟩
def te22:TE:=⟨22,.slice 3,false,1,24,.slice none 0 0,some (.list (.int .i64))⟩
theorem zA4:TEok Try.prog te22:=⟨TI.of Try.underlying22 rfl (by kernel_rfl),Try.underlying22,fun t h=>by cases h;exact ⟨rfl,rfl,by decide,rfl⟩⟩
def te23:TE:=⟨23,.slice 22,false,1,24,.slice none 0 0,some (.list (.list (.int .i64)))⟩
theorem zA5:TEok Try.prog te23:=⟨TI.of Try.underlying23 rfl (by kernel_rfl),Try.underlying23,fun t h=>by cases h;exact ⟨rfl,rfl,by decide,rfl⟩⟩
def te25:TE:=⟨25,.struct [(0,3),(1,3),(2,23),(3,22)] none,true,4,64,.agg ⟨[.int .i64 0,.int .i64 0,.slice none 0 0,.slice none 0 0]⟩,some (.pair (.int .i64) (.pair (.int .i64) (.pair (.list (.list (.int .i64))) Tc3)))⟩
theorem zA6:TEok Try.prog te25:=⟨TI.of Try.underlying25 rfl (by kernel_rfl),⟨⟨_,Try.underlying25,rfl⟩,fun t h=>by cases h⟩,fun t h=>by cases h;exact ⟨rfl,rfl,by decide,rfl⟩⟩
def te26:TE:=⟨26,.int .i64,false,1,8,.int .i64 0,some (.int .i64)⟩
theorem zA7:TEok Try.prog te26:=⟨TI.of Try.underlying26 rfl (by kernel_rfl),Try.underlying26,fun t h=>by cases h;exact ⟨rfl,rfl,by decide,rfl⟩⟩
def te30:TE:=⟨30,.slice 88,false,1,24,.slice none 0 0,some (.list (.pair (.int .i64) (.pair (.int .i64) Tc3)))⟩
theorem zA8:TEok Try.prog te30:=⟨TI.of Try.underlying30 rfl (by kernel_rfl),Try.underlying30,fun t h=>by cases h;exact ⟨rfl,rfl,by decide,rfl⟩⟩
def te32:TE:=⟨32,.struct [(0,26),(1,3)] none,true,2,16,.agg ⟨[.int .i64 0,.int .i64 0]⟩,some (.pair (.int .i64) (.pair (.int .i64) .unit))⟩
theorem zA9:TEok Try.prog te32:=⟨TI.of Try.underlying32 rfl (by kernel_rfl),⟨⟨_,Try.underlying32,rfl⟩,fun t h=>by cases h⟩,fun t h=>by cases h;exact ⟨rfl,rfl,by decide,rfl⟩⟩
def te41:TE:=⟨41,.other,false,1,8,.pointer none,some (.tree (.pair (.int .i64) (.pair (.int .i64) .unit)))⟩
theorem zBa:TEok Try.prog te41:=⟨TI.of Try.underlying41 rfl (by kernel_rfl),trivial,fun t h=>by cases h;exact ⟨rfl,rfl,by decide,rfl⟩⟩
def te46:TE:=⟨46,.other,false,1,8,.pointer none,none⟩
theorem zBb:TEok Try.prog te46:=⟨TI.of Try.underlying46 rfl (by kernel_rfl),trivial,fun t h=>by cases h⟩
def te47:TE:=⟨47,.slice 4,false,1,24,.slice none 0 0,some (.list .bool)⟩
theorem zBc:TEok Try.prog te47:=⟨TI.of Try.underlying47 rfl (by kernel_rfl),Try.underlying47,fun t h=>by cases h;exact ⟨rfl,rfl,by decide,rfl⟩⟩
def te51:TE:=⟨51,.struct [(0,22),(1,23)] none,true,2,48,.agg ⟨[.slice none 0 0,.slice none 0 0]⟩,some (.pair (.list (.int .i64)) (.pair (.list (.list (.int .i64))) .unit))⟩
theorem zBd:TEok Try.prog te51:=⟨TI.of Try.underlying51 rfl (by kernel_rfl),⟨⟨_,Try.underlying51,rfl⟩,fun t h=>by cases h⟩,fun t h=>by cases h;exact ⟨rfl,rfl,by decide,rfl⟩⟩
def te59:TE:=⟨59,.struct [(0,9),(1,3),(2,3),(3,30),(4,32)] none,true,6,72,.agg ⟨[.string ⟨⟨[]⟩⟩,.int .i64 0,.int .i64 0,.slice none 0 0,.int .i64 0,.int .i64 0]⟩,some (.pair .str (.pair (.int .i64) (.pair (.int .i64) (.pair (.list (.pair (.int .i64) (.pair (.int .i64) Tc3))) (.pair (.pair (.int .i64) (.pair (.int .i64) .unit)) .unit)))))⟩
theorem zBe:TEok Try.prog te59:=⟨TI.of Try.underlying59 rfl (by kernel_rfl),⟨⟨_,Try.underlying59,rfl⟩,fun t h=>by cases h⟩,fun t h=>by cases h;exact ⟨rfl,rfl,by decide,rfl⟩⟩
def te64:TE:=⟨64,.slice 93,false,1,24,.slice none 0 0,some (.list (.pair (.int .i64) (.pair (.int .i64) (.pair (.int .i64) .unit))))⟩
theorem zBf:TEok Try.prog te64:=⟨TI.of Try.underlying64 rfl (by kernel_rfl),Try.underlying64,fun t h=>by cases h;exact ⟨rfl,rfl,by decide,rfl⟩⟩
def te66:TE:=⟨66,.struct [(0,3),(1,3),(2,22),(3,64),(4,22)] none,true,5,88,.agg ⟨[.int .i64 0,.int .i64 0,.slice none 0 0,.slice none 0 0,.slice none 0 0]⟩,some (.pair (.int .i64) (.pair (.int .i64) (.pair (.list (.int .i64)) (.pair (.list (.pair (.int .i64) (.pair (.int .i64) (.pair (.int .i64) .unit)))) Tc3))))⟩
theorem zBg:TEok Try.prog te66:=⟨TI.of Try.underlying66 rfl (by kernel_rfl),⟨⟨_,Try.underlying66,rfl⟩,fun t h=>by cases h⟩,fun t h=>by cases h;exact ⟨rfl,rfl,by decide,rfl⟩⟩
def te72:TE:=⟨72,.struct [(0,32)] none,true,2,16,.agg ⟨[.int .i64 0,.int .i64 0]⟩,some (.pair (.pair (.int .i64) (.pair (.int .i64) .unit)) .unit)⟩
theorem zBh:TEok Try.prog te72:=⟨TI.of Try.underlying72 rfl (by kernel_rfl),⟨⟨_,Try.underlying72,rfl⟩,fun t h=>by cases h⟩,fun t h=>by cases h;exact ⟨rfl,rfl,by decide,rfl⟩⟩
def te75:TE:=⟨75,.struct [(0,9),(1,3),(2,3)] none,true,3,32,.agg ⟨[.string ⟨⟨[]⟩⟩,.int .i64 0,.int .i64 0]⟩,some (.pair .str (.pair (.int .i64) (.pair (.int .i64) .unit)))⟩
theorem zBi:TEok Try.prog te75:=⟨TI.of Try.underlying75 rfl (by kernel_rfl),⟨⟨_,Try.underlying75,rfl⟩,fun t h=>by cases h⟩,fun t h=>by cases h;exact ⟨rfl,rfl,by decide,rfl⟩⟩
def te79:TE:=⟨79,.struct [(0,4),(1,22),(2,22)] none,true,3,56,.agg ⟨[.bool false,.slice none 0 0,.slice none 0 0]⟩,some Tc1⟩
theorem zBj:TEok Try.prog te79:=⟨TI.of Try.underlying79 rfl (by kernel_rfl),⟨⟨_,Try.underlying79,rfl⟩,fun t h=>by cases h⟩,fun t h=>by cases h;exact ⟨rfl,rfl,by decide,rfl⟩⟩
def te88:TE:=⟨88,.struct [(0,3),(1,3),(2,22)] none,true,3,40,.agg ⟨[.int .i64 0,.int .i64 0,.slice none 0 0]⟩,some (.pair (.int .i64) (.pair (.int .i64) Tc3))⟩
theorem zBl:TEok Try.prog te88:=⟨TI.of Try.underlying88 rfl (by kernel_rfl),⟨⟨_,Try.underlying88,rfl⟩,fun t h=>by cases h⟩,fun t h=>by cases h;exact ⟨rfl,rfl,by decide,rfl⟩⟩
def te89:TE:=⟨89,.slice 91,false,1,24,.slice none 0 0,some (.list (.pair .bool (.pair (.int .i64) (.pair (.int .i64) .unit))))⟩
theorem zBm:TEok Try.prog te89:=⟨TI.of Try.underlying89 rfl (by kernel_rfl),Try.underlying89,fun t h=>by cases h;exact ⟨rfl,rfl,by decide,rfl⟩⟩
def te91:TE:=⟨91,.struct [(0,4),(1,3),(2,3)] none,true,3,24,.agg ⟨[.bool false,.int .i64 0,.int .i64 0]⟩,some (.pair .bool (.pair (.int .i64) (.pair (.int .i64) .unit)))⟩
theorem zBn:TEok Try.prog te91:=⟨TI.of Try.underlying91 rfl (by kernel_rfl),⟨⟨_,Try.underlying91,rfl⟩,fun t h=>by cases h⟩,fun t h=>by cases h;exact ⟨rfl,rfl,by decide,rfl⟩⟩
def te93:TE:=⟨93,.struct [(0,3),(1,3),(2,3)] none,true,3,24,.agg ⟨[.int .i64 0,.int .i64 0,.int .i64 0]⟩,some (.pair (.int .i64) (.pair (.int .i64) (.pair (.int .i64) .unit)))⟩
theorem zBo:TEok Try.prog te93:=⟨TI.of Try.underlying93 rfl (by kernel_rfl),⟨⟨_,Try.underlying93,rfl⟩,fun t h=>by cases h⟩,fun t h=>by cases h;exact ⟨rfl,rfl,by decide,rfl⟩⟩
def te94:TE:=⟨94,.slice 41,false,1,24,.slice none 0 0,some (.list (.tree (.pair (.int .i64) (.pair (.int .i64) .unit))))⟩
theorem zBp:TEok Try.prog te94:=⟨TI.of Try.underlying94 rfl (by kernel_rfl),Try.underlying94,fun t h=>by cases h;exact ⟨rfl,rfl,by decide,rfl⟩⟩
def te96:TE:=⟨96,.struct [(0,3),(1,3),(2,94)] none,true,3,40,.agg ⟨[.int .i64 0,.int .i64 0,.slice none 0 0]⟩,some (.pair (.int .i64) (.pair (.int .i64) (.pair (.list (.tree (.pair (.int .i64) (.pair (.int .i64) .unit)))) .unit)))⟩
theorem zBq:TEok Try.prog te96:=⟨TI.of Try.underlying96 rfl (by kernel_rfl),⟨⟨_,Try.underlying96,rfl⟩,fun t h=>by cases h⟩,fun t h=>by cases h;exact ⟨rfl,rfl,by decide,rfl⟩⟩
def zB2:TE:=⟨102,.slice 5,false,1,24,.slice none 0 0,some (.list (.int .u8))⟩
theorem zzP:TEok Try.prog zB2:=⟨TI.of Try.underlying102 rfl (by kernel_rfl),Try.underlying102,fun t h=>by cases h;exact ⟨rfl,rfl,by decide,rfl⟩⟩
def zB3:TE:=⟨105,.struct [(0,3),(1,9)] none,true,2,24,.agg ⟨[.int .i64 0,.string ⟨⟨[]⟩⟩]⟩,some (.pair (.int .i64) (.pair .str .unit))⟩
theorem zzQ:TEok Try.prog zB3:=⟨TI.of Try.underlying105 rfl (by kernel_rfl),⟨⟨_,Try.underlying105,rfl⟩,fun t h=>by cases h⟩,fun t h=>by cases h;exact ⟨rfl,rfl,by decide,rfl⟩⟩
def te81:TE:=⟨81,.map 3 3 ((.int .i64)),false,1,8,.map none,none⟩
theorem zBk:TEok Try.prog te81:=⟨TI.of Try.underlying81 rfl (by kernel_rfl),⟨Try.underlying81,SK.int' Try.underlying3⟩,fun t h=>by cases h⟩
def zB1:TE:=⟨101,.map 105 3 ((.pair (.int .i64) (.pair .str .unit))),false,1,8,.map none,none⟩
theorem zzO:TEok Try.prog zB1:=⟨TI.of Try.underlying101 rfl (by kernel_rfl),⟨Try.underlying101,SK.ofKey (d:=16) (KeyT.struct zzR Try.underlying105 (by kernel_rfl) (KFs.cons (by decide) rfl (KeyT.int zB5 Try.underlying3) (KFs.cons (by decide) rfl (KeyT.str zB9 Try.underlying9) KFs.nil))) (by decide) rfl rfl⟩,fun t h=>by cases h⟩
def TT:List TE:=[te3,te4,te5,te9,te22,te23,te25,te26,te30,te32,te41,te46,te47,te51,te59,te64,te66,te72,te75,te79,te88,te89,te91,te93,te94,te96,zB2,zB3,te81,zB1]
theorem zcb:TOK Try.prog TT:=TOK.cons zB4 (TOK.cons zB6 (TOK.cons zB7 (TOK.cons zB8 (TOK.cons zA4 (TOK.cons zA5 (TOK.cons zA6 (TOK.cons zA7 (TOK.cons zA8 (TOK.cons zA9 (TOK.cons zBa (TOK.cons zBb (TOK.cons zBc (TOK.cons zBd (TOK.cons zBe (TOK.cons zBf (TOK.cons zBg (TOK.cons zBh (TOK.cons zBi (TOK.cons zBj (TOK.cons zBl (TOK.cons zBm (TOK.cons zBn (TOK.cons zBo (TOK.cons zBp (TOK.cons zBq (TOK.cons zzP (TOK.cons zzQ (TOK.cons zBk (TOK.cons zzO (TOK.nil))))))))))))))))))))))))))))))

def zfj:Shape:=⟨[(.pair .str (.pair (.int .i64) (.pair (.int .i64) .unit)))],[(0,.addr 0)],[]⟩
def zfi:Shape:=⟨[(.int .u8)],[(0,.v 0)],[]⟩
def zbV:CE:=⟨41,zfj,zfi,fun X=>zbj X⟩
theorem zcG:CE.ok Try.prog zbV:=CE.of (Γ:=[]) (by kernel_rfl) zcb (GOK.nil) ⟨[],[],[(1,[(0,0),(0,1),(0,2),(0,3),(0,4),(0,5),(0,6),(0,7),(0,8),(0,9)]),(3,[(0,0),(0,1),(0,2),(0,3),(0,4),(0,5),(0,6),(0,7),(0,8),(0,9)])],[]⟩ Try.func41 rfl Try.ntmps41 (rs:=[.tmp 2]) rfl (sig:=zfj) (out:=zfi) rfl Try.call41 (fun X=>by kernel_rfl)

def ze4:Shape:=⟨[(.pair .str (.pair (.int .i64) (.pair (.int .i64) .unit))),(.int .i64)],[(0,.addr 0),(1,.v 1)],[]⟩
def ze3:Shape:=⟨[],[],[]⟩
def zdw:CEp:=⟨29,ze4,ze3,fun X=>zbM X.1 X.2⟩
theorem zfh:CEp.ok Try.prog 72 zdw:=CEp.of (Γ:=[]) (Γp:=[]) (by kernel_rfl) zcb (GOK.nil) (GPOK.nil) ⟨[],[],[(2000000,[(0,0),(0,1),(0,2),(0,3),(0,4),(0,5),(0,6),(6,7),(2,8)])],[]⟩ Try.func29 rfl Try.ntmps29 (rs:=[]) rfl (sig:=ze4) (out:=ze3) rfl Try.call29 (fun X=>by kernel_rfl)

theorem zhd (s:ByteArray) (c:Int) (w:World):Calls Try.prog 53 #[.string s,.int .u8 c] w fun e w'=>e = .returned (.int .i64 (Lib.indexByte s.data.toList c.toNat.toUInt8))/\w'=w:=by
  go_enter Try.func53,Try.ntmps53
  go_wp2
  rw [run_callFunc_extern Try.func54 (by kernel_rfl) (by kernel_rfl) (by kernel_rfl) (e:=Extern.BytealgIndexByte.indexByte) (by kernel_rfl),Lib.run_indexByteString]
  simp only [Result.andThen]
  rw [Oper.upon_value]
  go_wp2
  go_ret
  exact ⟨rfl,rfl⟩
def zeL:CE:=⟨53,⟨[.str,(.int .u8)],[(0,.v 0),(1,.v 1)],[]⟩,⟨[(.int .i64)],[(0,.v 0)],[]⟩,fun X=>zdS X.1 X.2⟩
theorem zjc:CE.ok Try.prog zeL:=zxp Try.call53 zhd

def zgc:Shape:=⟨[.str,(.int .u8)],[(0,.v 0),(1,.v 1)],[]⟩
def zgb:Shape:=⟨[(.int .i64)],[(0,.v 0)],[]⟩
def zgs:CE:=⟨52,zgc,zgb,fun X=>zfK X.1 X.2⟩
theorem zlO:CE.ok Try.prog zgs:=CE.of (Γ:=[zeL]) (by kernel_rfl) zcb (GOK.cons zjc (GOK.nil)) ⟨[],[],[],[]⟩ Try.func52 rfl Try.ntmps52 (rs:=[.tmp 4]) rfl (sig:=zgc) (out:=zgb) rfl Try.call52 (fun X=>by kernel_rfl)

def zed:Shape:=⟨[(.pair .str (.pair (.int .i64) (.pair (.int .i64) .unit)))],[(0,.addr 0)],[]⟩
def zec:Shape:=⟨[.bool],[(0,.v 0)],[]⟩
def zeH:CE:=⟨49,zed,zec,fun X=>zcF X⟩
theorem zi4:CE.ok Try.prog zeH:=CE.of (Γ:=[zbV,zgs]) (by kernel_rfl) zcb (GOK.cons zcG (GOK.cons zlO (GOK.nil))) ⟨[],[],[(1,[(0,0),(0,1),(0,2),(0,3),(0,4),(0,5),(0,6),(0,7),(0,8),(0,9),(0,10),(0,11),(1,12),(1,13),(0,14),(0,15),(0,16)])],[]⟩ Try.func49 rfl Try.ntmps49 (rs:=[.tmp 2]) rfl (sig:=zed) (out:=zec) rfl Try.call49 (fun X=>by kernel_rfl)

def zas:Shape:=⟨[.str,(.int .i64),(.int .i64)],[(0,.ptr 100000 0)],[(100000,.box 75 [.v 0,.v 1,.v 2])]⟩
def zar:Shape:=⟨[(.tree (.pair (.int .i64) (.pair (.int .i64) .unit))),.str,(.int .i64),(.int .i64)],[(0,.v 0)],[(100000,.box 75 [.v 1,.v 2,.v 3])]⟩
def zfa:CEp:=⟨28,zas,zar,LFix zct⟩
def ze7:Shape:=⟨[.str,(.int .i64),(.int .i64)],[(0,.ptr 100000 0)],[(100000,.box 75 [.v 0,.v 1,.v 2])]⟩
def ze6:Shape:=⟨[(.tree (.pair (.int .i64) (.pair (.int .i64) .unit))),.str,(.int .i64),(.int .i64)],[(0,.v 0)],[(100000,.box 75 [.v 1,.v 2,.v 3])]⟩
def zfm (rec:Tup zas.tys->Option (Tup zar.tys⊕(Int×Int))):CEp:=⟨51,ze7,ze6,fun X=>zbq (fun c c_1 c_2=>rec (c,c_1,c_2)) X.1 X.2.1 X.2.2⟩
theorem zkh (rec:Tup zas.tys->Option (Tup zar.tys⊕(Int×Int))) (hrec:CEp.ok Try.prog 72 ⟨28,zas,zar,rec⟩):CEp.ok Try.prog 72 (zfm rec):=CEp.of (Γ:=[zbV]) (Γp:=[⟨28,zas,zar,rec⟩,zdw]) (by kernel_rfl) zcb (GOK.cons zcG (GOK.nil)) (GPOK.cons hrec (GPOK.cons zfh (GPOK.nil))) ⟨[],[(5,⟨⟨[.bool],[(26,.v 0)],[]⟩,[27,28,29,30,31,32],[],[],0,[]⟩),(10,⟨⟨[],[],[]⟩,[48,49,50,51,52,53,54],[],[],0,[]⟩)],[(2000010,[(0,0),(5,1)]),(2000013,[(0,0),(5,1),(0,2)]),(2000015,[(0,0),(5,1)]),(2000019,[(0,0),(5,1)])],[]⟩ Try.func51 rfl Try.ntmps51 (rs:=[.tmp 2]) rfl (sig:=ze7) (out:=ze6) rfl Try.call51 (fun X=>by kernel_rfl)
def zfl:Shape:=⟨[.str,(.int .i64),(.int .i64)],[(0,.ptr 100000 0)],[(100000,.box 75 [.v 0,.v 1,.v 2])]⟩
def zfk:Shape:=⟨[(.tree (.pair (.int .i64) (.pair (.int .i64) .unit))),.str,(.int .i64),(.int .i64)],[(0,.v 0)],[(100000,.box 75 [.v 1,.v 2,.v 3])]⟩
def zf5 (rec:Tup zas.tys->Option (Tup zar.tys⊕(Int×Int))):CEp:=⟨48,zfl,zfk,fun X=>zbk (fun c c_1 c_2=>rec (c,c_1,c_2)) X.1 X.2.1 X.2.2⟩
theorem zk2 (rec:Tup zas.tys->Option (Tup zar.tys⊕(Int×Int))) (hrec:CEp.ok Try.prog 72 ⟨28,zas,zar,rec⟩):CEp.ok Try.prog 72 (zf5 rec):=CEp.of (Γ:=[zbV]) (Γp:=[zfm rec]) (by kernel_rfl) zcb (GOK.cons zcG (GOK.nil)) (GPOK.cons (zkh rec hrec) (GPOK.nil)) ⟨[(2,⟨⟨[(.tree (.pair (.int .i64) (.pair (.int .i64) .unit))),.str,(.int .i64),(.int .i64)],[(0,.ptr 100000 0),(3,.v 0)],[(100000,.box 75 [.v 1,.v 2,.v 3])]⟩,[6,7,8,9,10,11,12,13,14,15,16,17,18,19],[],[],0,[]⟩)],[],[(2000001,[(0,0),(5,1),(0,2)])],[]⟩ Try.func48 rfl Try.ntmps48 (rs:=[.tmp 2]) rfl (sig:=zfl) (out:=zfk) rfl Try.call48 (fun X=>by kernel_rfl)
def zfo:Shape:=⟨[.str,(.int .i64),(.int .i64)],[(0,.ptr 100000 0)],[(100000,.box 75 [.v 0,.v 1,.v 2])]⟩
def zfn:Shape:=⟨[(.tree (.pair (.int .i64) (.pair (.int .i64) .unit))),.str,(.int .i64),(.int .i64)],[(0,.v 0)],[(100000,.box 75 [.v 1,.v 2,.v 3])]⟩
def zf8 (rec:Tup zas.tys->Option (Tup zar.tys⊕(Int×Int))):CEp:=⟨40,zfo,zfn,fun X=>zbl (fun c c_1 c_2=>rec (c,c_1,c_2)) X.1 X.2.1 X.2.2⟩
theorem zk3 (rec:Tup zas.tys->Option (Tup zar.tys⊕(Int×Int))) (hrec:CEp.ok Try.prog 72 ⟨28,zas,zar,rec⟩):CEp.ok Try.prog 72 (zf8 rec):=CEp.of (Γ:=[zeH]) (Γp:=[zf5 rec]) (by kernel_rfl) zcb (GOK.cons zi4 (GOK.nil)) (GPOK.cons (zk2 rec hrec) (GPOK.nil)) ⟨[(2,⟨⟨[.str,(.int .i64),(.int .i64),(.int .i64),(.int .i64),(.list (.tree (.pair (.int .i64) (.pair (.int .i64) .unit))))],[(0,.ptr 100000 0),(3,.ptr 1 0)],[(100000,.box 75 [.v 0,.v 1,.v 2]),(1,.box 96 [.v 3,.v 4,.own 0]),(0,.arr 41 5)]⟩,[6,7,8,9,10,11,12,13,14,15,16,17,18,19,20,21],[],[],2,[]⟩)],[(3,⟨⟨[.str,(.int .i64),(.int .i64),(.int .i64),(.int .i64),(.list (.tree (.pair (.int .i64) (.pair (.int .i64) .unit))))],[(0,.ptr 100000 0),(3,.ptr 1 0)],[(100000,.box 75 [.v 0,.v 1,.v 2]),(1,.box 96 [.v 3,.v 4,.own 0]),(0,.arr 41 5)]⟩,[6,7,8,9,10,11,12,13,14,15,16,17,18,19,20,21],[],[],2,[]⟩)],[(2000001,[(0,0),(5,1),(2,2),(1,3),(2,4),(0,5)]),(4000003,[])],[(3,(.pnd (.one 0 (.one 1 (.one 2 (.one 3 (.one 5 (.rd 1 4 [8,9,10,11] (.alt 5 6 (.alt 1 7 (.alt 2 8 (.one 9 (.one 10 (.alt 2 11 .leaf .stop))) .stop) .stop) .stop)))))))))]⟩ Try.func40 rfl Try.ntmps40 (rs:=[.tmp 2]) rfl (sig:=zfo) (out:=zfn) rfl Try.call40 (fun X=>by kernel_rfl)
theorem zjw:CEp.ok Try.prog 72 zfa:=CEp.ofRec (Γ:=[zbV]) (Γp:=fun rec=>[zf8 rec]) (by kernel_rfl) zcb (GOK.cons zcG (GOK.nil)) ⟨[(2,⟨⟨[.str,(.int .i64),(.int .i64),(.int .i64),(.int .i64),(.list (.tree (.pair (.int .i64) (.pair (.int .i64) .unit))))],[(0,.ptr 100000 0),(3,.ptr 1 0)],[(100000,.box 75 [.v 0,.v 1,.v 2]),(1,.box 96 [.v 3,.v 4,.own 0]),(0,.arr 41 5)]⟩,[6,7,8,9,10,11,12,13,14,15,16,17,18,19,20,21,22,23,24,25,26,27,28,29],[],[],2,[]⟩)],[(4,⟨⟨[.str,(.int .i64),(.int .i64),(.int .i64),(.int .i64),(.list (.tree (.pair (.int .i64) (.pair (.int .i64) .unit))))],[(0,.ptr 100000 0),(3,.ptr 1 0)],[(100000,.box 75 [.v 0,.v 1,.v 2]),(1,.box 96 [.v 3,.v 4,.own 0]),(0,.arr 41 5)]⟩,[6,7,8,9,10,11,12,13,14,15,16,17,18,19,20,21,22,23,24,25,26,27,28,29],[],[],2,[]⟩)],[(2000001,[(0,0),(5,1),(2,2),(1,3),(2,4),(0,5)]),(4000004,[])],[(4,(.pnd (.one 0 (.one 1 (.one 2 (.one 3 (.one 5 (.rd 1 4 [8,9,10,11] (.alt 5 6 (.alt 1 7 (.alt 2 8 (.one 9 (.one 10 (.alt 2 11 .leaf .stop))) .stop) .stop) .stop)))))))))]⟩ Try.func28 rfl Try.ntmps28 (rs:=[.tmp 2]) rfl (sig:=zas) (out:=zar) rfl (fun rec hrec=>(GPOK.cons (zk3 rec hrec) (GPOK.nil))) Try.call28 (d:=zct) (fun rc X=>by kernel_rfl)
def zhS:Shape:=⟨[.str],[(0,.v 0)],[]⟩
def zhR:Shape:=⟨[(.tree (.pair (.int .i64) (.pair (.int .i64) .unit))),(.pair (.int .i64) (.pair (.int .i64) .unit))],[(0,.v 0),(1,.v 1)],[]⟩
def ziZ:CE:=⟨12,zhS,zhR,fun X=>zd7 X⟩
theorem zmJ (p:Int×Int):evC TT [] [] 0 zrl ⟨[],[],[],[(7,.one 0 (.alt 0 1 (.leaf [(2,2),(2,3)]) (.alt 2 2 (.leaf [(0,1),(2,3)]) .stop)))]⟩ (zxt (Try.f27.body.getD .skip)) (zyV 13 10 41 32 p) (zBY true 41 32)=zrl (some (p.1,p.2)) (some (p.1,p.2)):=by kernel_rfl
theorem zmI (va vb:Value) (w:World):CallsD Try.prog 27 #[va,vb] .returning w (fun e u w'=>(∃ v,e = .returned v)/\u = .returning/\w'=w):=by
  refine callsD_of_wpS Try.func27 rfl fun c₀ cs hu => ?_
  apply wpS_seq
  apply wpS_region
  simp [wpOpsS,go_sem,recoverD,hu,Try.ntmps27,Exit.thenS]
  refine wpS_of_wp (wp_block (wp_seq (wp_region ?_)))
  simp [wpOps,go_sem]
  left
  refine wp_cond (t:=true) (by simp [Act.eval,Array.replicate]) ?_
  simp only [if_true]
  refine wp_region ?_
  simp [wpOps,go_sem]
  left
  cases c₀
  simp_all [bodyPostS,results,Try.results27]
theorem zk1 (p:Int×Int) (w:World) (ba bb:Nat) (ca cb:Array Value) (hne:ba≠bb) (h1:w.heap[ba]? =some (.cells ca 41 (0,0))) (h2:ca.size=1) (h3:w.heap[bb]? =some (.cells cb 32 (0,0))) (h4:cb.size=2):
    CallsD Try.prog 27 #[.pointer (some ⟨ba,0,none⟩),.pointer (some ⟨bb,0,none⟩)] (.panicking (pch 72 p)) w (fun e u w'=>(∃ v,e = .returned v)/\settle u = .returning/\
      (w'.os=w.os/\w'.tape=w.tape/\w'.output=w.output/\w.heap.size<=w'.heap.size)/\(∀ b,b < w.heap.size->b≠ba->b≠bb->w'.heap[b]? =w.heap[b]?)/\
      w'.heap[ba]? =some (.cells #[zV true] 41 (0,0))/\w'.heap[bb]? =some (.cells #[.int .i64 p.1,.int .i64 p.2] 32 (0,0))):=by
  refine callsD_of_wpS Try.func27 rfl fun c₀ cs hu => ?_
  apply wpS_seq
  apply wpS_region
  simp [wpOpsS,go_sem,recoverD,hu,Try.ntmps27,Exit.thenS,pch]
  refine wpS_of_wp (wp_block (wp_seq (wp_region ?_)))
  simp [wpOps,go_sem]
  left
  refine wp_cond (t:=false) (by simp [Act.eval,Array.replicate]) ?_
  simp only [Bool.false_eq_true,if_false]
  refine wp_seq (wp_region ?_)
  simp [wpOps,go_sem,zw4 Try.underlying72]
  left
  left
  left
  refine wp_cond (t:=true) (by simp [Act.eval,Array.replicate]) ?_
  simp only [if_true]
  refine wp_mono (zA1 (by kernel_rfl) zcb (zmJ p) hne h1 h2 h3 h4 ?_ ?_ ?_ ?_ ?_) fun e a' w' hh => ?_
  · simp
  · rfl
  · simp [Array.replicate]
  · simp [Array.replicate]
  · simp [Array.replicate]
  · obtain ⟨rfl,hd,ho,hk,y1,y2⟩:=hh
    exact ⟨hd,_,rfl,.tuple #[],by simp [results,Try.results27],⟨_,rfl⟩,rfl,ho,hk,y1,y2⟩
theorem zlN:CatchOK Try.prog 72 27 41 32 (zV true):=⟨Try.call27,zmI,zk1⟩
theorem zoI:CE.ok Try.prog ziZ:=CE.ofCatch (Γ:=[]) (Γp:=[zfa,zdw]) (T:=72) (by kernel_rfl) zcb (GOK.nil) (GPOK.cons zjw (GPOK.cons zfh (GPOK.nil))) ⟨[],[],[(3000003,[]),(2000005,[(0,0),(5,1),(2,2)]),(2000007,[(0,0),(5,1)])],[]⟩ Try.func12 rfl Try.ntmps12 (rs:=[.cell 2 41,.cell 3 32]) rfl (sig:=zhS) (out:=zhR) rfl Try.call12 (g:=27) (sa:=2) (sb:=3) (Ta:=41) (Tb:=32) (z:=zE true) zlN (zCb true) (fun X=>by kernel_rfl)

theorem zk8 (r n:Int) (b off:Nat) (w:World) (hcell:w.cell? ⟨b,off,none⟩=some (.int .i64 n)) (r0:0<=r) (r1:r < 128) (n0:0<=n) (n1:n<=1000):
    Calls Try.prog 14 #[.int .i32 r,.pointer (some ⟨b,off,none⟩)] w fun e w'=>e = .returned (.bool (decide (97+n<=r) && decide (r<=100)))/\w'=w:=by
  have w1:IntKind.wrap .i32 n=n:=by unfold IntKind.wrap;simp [IntKind.bits];omega
  have w2:IntKind.wrap .i32 (97+n)=97+n:=by unfold IntKind.wrap;simp [IntKind.bits];omega
  go_enter Try.func14,Try.ntmps14
  by_cases h1:97+n<=r
  · by_cases h2:r<=100
    · go_wp2
      go_ret
      simp [h1,h2]
    · go_wp2
      go_ret
      simp [h1,h2]
  · have h3 : ¬ r ≥ 97+n:=h1
    go_wp2
    go_ret
    simp;omega
theorem zjA (s:ByteArray) (n:Int) (c:Bool) (b off:Nat) (w:World) (hb:b < w.heap.size) (hcell:w.cell? ⟨b,off,none⟩=some (.int .i64 n)) (ha:∀ b∈s.data.toList,b.toNat < 128) (n0:0<=n) (n1:n<=1000):
    Calls Try.prog 42 #[.string s,.func (.func 14) #[] #[.pointer (some ⟨b,off,none⟩)],.bool c] w fun e w'=>e = .returned (.int .i64 (zlV n c s.data.toList 0))/\Go.RowKit.Below w.heap.size w w':=by
  have hLn:s.data.toList.length=s.size:=rfl
  have hcw:∀ W,Go.RowKit.Below w.heap.size w W->W.cell? ⟨b,off,none⟩=some (.int .i64 n):=fun W h=>by rw [World.cell?_of_block (w:=w) (w':=W) (h.block b hb)];exact hcell
  go_enter Try.func42,Try.ntmps42
  go_wp2
  go_loopw [6] (fun _ wx=>∃ pos:Nat,pos<=s.size/\wx.heap[w.heap.size]? =some (.stringIter s pos)/\Go.RowKit.Below w.heap.size w wx/\zlV n c (s.data.toList.drop pos) pos=zlV n c s.data.toList 0)
    (fun _ wr=>s.size - wr.iterPos w.heap.size)
  case atStart=>exact ⟨0,by omega,World.iter_heap w s 0,(Go.RowKit.Below.refl _ w).alloc (Nat.le_refl _) _,rfl⟩
  case round=>

    obtain ⟨pos,hp,hit,hbw,hleft⟩:=hrel
    by_cases hps:pos < s.size
    · have h128:(s[pos]'hps).toNat < 128:=ha _ (List.getElem_mem (l:=s.data.toList) (n:=pos) hps)
      have hnx:∀ ty,(Instr.next (.pointer (some ⟨w.heap.size,0,none⟩)) true ty).run Try.prog wr=_:=fun ty=>Lib.run_next_ascii_at wr w.heap.size s pos ty hit hps h128
      have hit2:=Lib.iterAt_heap wr w.heap.size s pos (pos+1) hit
      have hbw2:=Lib.below_iterAt hbw (k:=w.heap.size) (Nat.le_refl _) s (pos+1)
      have hmu:wr.iterPos w.heap.size=pos:=by simp [World.iterPos,hit]
      generalize wr.iterAt w.heap.size s (pos+1)=W at hnx hit2 hbw2
      have hmu2:W.iterPos w.heap.size=pos+1:=by simp [World.iterPos,hit2]
      have cS:=zk8 ((s[pos]'hps).toNat:Int) n b off W (hcw W hbw2) (by omega) (by omega) n0 n1
      have hd:s.data.toList.drop pos=(s[pos]'hps)::s.data.toList.drop (pos+1):=by
        rw [List.drop_eq_getElem_cons (by omega)];rfl
      rw [hd,zqr] at hleft
      generalize (decide (97+n<=((s[pos]'hps).toNat:Int)) && decide (((s[pos]'hps).toNat:Int)<=100))=q at cS hleft
      generalize ((s[pos]'hps).toNat:Int)=R at hnx cS
      cases q<;>cases c<;>simp only [if_true,Bool.false_eq_true,Bool.true_eq_false,if_false] at hleft
      · go_wp2_with (go_at_call 14;refine cS.mono ?_;rintro e W' ⟨rfl,rfl⟩)
        go_ret
        exact ⟨by rw [<- hleft]<;>rfl,hbw2⟩
      · go_wp2_with (go_at_call 14;refine cS.mono ?_;rintro e W' ⟨rfl,rfl⟩)
        go_roundw
        case rel=>exact ⟨pos+1,by omega,hit2,hbw2,hleft⟩
        case measure=>rw [hmu,hmu2];omega
      · go_wp2_with (go_at_call 14;refine cS.mono ?_;rintro e W' ⟨rfl,rfl⟩)
        go_roundw
        case rel=>exact ⟨pos+1,by omega,hit2,hbw2,hleft⟩
        case measure=>rw [hmu,hmu2];omega
      · go_wp2_with (go_at_call 14;refine cS.mono ?_;rintro e W' ⟨rfl,rfl⟩)
        go_ret
        exact ⟨by rw [<- hleft]<;>rfl,hbw2⟩
    · have hnx:∀ ty,(Instr.next (.pointer (some ⟨w.heap.size,0,none⟩)) true ty).run Try.prog wr=_:=fun ty=>Lib.run_next_end_at wr w.heap.size s pos ty hit hps
      rw [List.drop_of_length_le (by omega)] at hleft
      go_wp2
      go_ret
      exact ⟨by rw [<- hleft]<;>rfl,hbw⟩
def zgu:CE:=⟨42,⟨[.str,(.int .i64),.bool],[(0,.v 0),(1,.fn 14 [.addr 1]),(2,.v 2)],[]⟩,⟨[(.int .i64)],[(0,.v 0)],[]⟩,fun X=>zfM X.1 X.2.1 X.2.2⟩
theorem zlQ:CE.ok Try.prog zgu:=zxq Try.call42 zjA

def zge:Shape:=⟨[.str,(.int .i64)],[(0,.v 0),(1,.fn 14 [.addr 1])],[]⟩
def zgd:Shape:=⟨[(.int .i64)],[(0,.v 0)],[]⟩
def zgt:CE:=⟨30,zge,zgd,fun X=>zfL X.1 X.2⟩
theorem zlP:CE.ok Try.prog zgt:=CE.of (Γ:=[zgu]) (by kernel_rfl) zcb (GOK.cons zlQ (GOK.nil)) ⟨[],[],[],[]⟩ Try.func30 rfl Try.ntmps30 (rs:=[.tmp 4]) rfl (sig:=zge) (out:=zgd) rfl Try.call30 (fun X=>by kernel_rfl)

def zeK:Shape:=⟨[.str,(.int .i64)],[(0,.v 0),(1,.fn 14 [.addr 1])],[]⟩
def zeJ:Shape:=⟨[.bool],[(0,.v 0)],[]⟩
def zfc:CE:=⟨13,zeK,zeJ,fun X=>zcW X.1 X.2⟩
theorem zjz:CE.ok Try.prog zfc:=CE.of (Γ:=[zgt]) (by kernel_rfl) zcb (GOK.cons zlP (GOK.nil)) ⟨[],[],[],[]⟩ Try.func13 rfl Try.ntmps13 (rs:=[.tmp 4]) rfl (sig:=zeK) (out:=zeJ) rfl Try.call13 (fun X=>by kernel_rfl)

def zfg:Shape:=⟨[(.list (.int .i64)),(.list (.int .i64)),(.list (.int .i64)),(.list (.list (.int .i64)))],[(0,.ptr 100000 0),(1,.v 0),(2,.v 1)],[(100000,.box 51 [.own 100001,.own 100002]),(100001,.arr 3 2),(100002,.out 100003 22 3 3)]⟩
def zff:Shape:=⟨[(.list (.int .i64)),(.list (.list (.int .i64)))],[],[(100000,.box 51 [.own 50,.own 60]),(50,.arr 3 0),(60,.out 560 22 3 1)]⟩
def zdQ:CE:=⟨44,zfg,zff,fun X=>zdC X.1 X.2.1 X.2.2.1 X.2.2.2⟩
theorem zf4:CE.ok Try.prog zdQ:=CE.of (Γ:=[]) (by kernel_rfl) zcb (GOK.nil) ⟨[(1,⟨⟨[(.int .i64),(.list (.int .i64)),(.list (.list (.int .i64)))],[(0,.ptr 100000 0),(10,.v 0)],[(100000,.box 51 [.own 100001,.own 100002]),(100001,.arr 3 1),(100002,.out 0 22 3 2)]⟩,[7,11,12,13,14,15,16,17,18,19,20,21,22,23,24,25,26,27,28,29],[100003],[],1,[]⟩)],[(3,⟨⟨[(.list (.int .i64)),(.list (.list (.int .i64)))],[(0,.ptr 100000 0)],[(100000,.box 51 [.own 100001,.own 100002]),(100001,.arr 3 0),(100002,.out 1 22 3 1)]⟩,[7,12,13,14,15,16,17,18,19,20,21,22,23,24,25,26,27,28],[0,100003],[],2,[]⟩)],[],[(3,(.one 0 (.one 1 (.one 2 (.one 4 (.one 5 (.one 6 (.one 7 (.one 9 (.one 12 (.live [13,15] (.rd 8 [10,11,13,14,15] (.one 10 (.rd 11 [13,14,15] (.ban 3 [14,15] (.alt 4 13 (.leaf [(0,14),(4,15)]) .stop) (.alt 4 13 (.leaf [(0,3),(0,14),(4,15)]) .stop))))))))))))))))]⟩ Try.func44 rfl Try.ntmps44 (rs:=[]) rfl (sig:=zfg) (out:=zff) rfl Try.call44 (fun X=>by kernel_rfl)

def zka:Shape:=⟨[(.list (.int .i64))],[(0,.v 0)],[]⟩
def zj9:Shape:=⟨[(.list (.int .i64))],[(0,.own 0)],[(0,.arr 3 0)]⟩
def zhc:CE:=⟨45,zka,zj9,fun X=>za5 X⟩
theorem zk6:CE.ok Try.prog zhc:=CE.of (Γ:=[]) (by kernel_rfl) zcb (GOK.nil) ⟨[],[],[],[]⟩ Try.func45 rfl Try.ntmps45 (rs:=[.tmp 2]) rfl (sig:=zka) (out:=zj9) rfl Try.call45 (fun X=>by kernel_rfl)

def zd9:Shape:=⟨[Tc1,Tc1,(.list (.int .i64)),(.list (.list (.int .i64)))],[(0,.ptr 100000 0),(1,.v 0),(2,.v 1)],[(100000,.box 51 [.own 100001,.own 100002]),(100001,.arr 3 2),(100002,.out 100003 22 3 3)]⟩
def zd8:Shape:=⟨[Tc1,(.list (.int .i64)),(.list (.list (.int .i64)))],[(0,.v 0)],[(100000,.box 51 [.own 50,.own 60]),(50,.arr 3 1),(60,.out 560 22 3 2)]⟩
def zeF:CE:=⟨43,zd9,zd8,fun X=>zbU X.1 X.2.1 X.2.2.1 X.2.2.2⟩
theorem zi0:CE.ok Try.prog zeF:=CE.of (Γ:=[zdQ,zhc]) (by kernel_rfl) zcb (GOK.cons zf4 (GOK.cons zk6 (GOK.nil))) ⟨[],[(2,⟨⟨[.bool,(.list (.int .i64)),(.list (.int .i64))],[(7,.ptr 564 0)],[(564,.box 79 [.v 0,.own 565,.own 566]),(565,.arr 3 1),(566,.arr 3 2)]⟩,[14,15,16,17,18,19,20,21,22,23,24,25,26],[],[0,1,2,53,63,563],567,[]⟩),(4,⟨⟨[.bool,(.list (.int .i64)),(.list (.int .i64))],[(7,.ptr 564 0)],[(564,.box 79 [.v 0,.own 567,.own 566]),(567,.arr 3 1),(566,.arr 3 2)]⟩,[27,28,29,30,31,32,33,34],[565],[0,1,2,53,63,563],568,[]⟩)],[(1,[(0,0),(0,1),(0,2),(0,3),(0,4),(9,5)])],[(2,(.one 0 (.one 6 (.one 9 (.live [14] (.rd 1 [2,3,4,5,8,11,12,14] (.one 2 (.one 3 (.rd 4 [5,12,14] (.one 5 (.rd 7 [8,11,12,14] (.rd 10 [11,12,14] (.alt 1 8 (.alt 1 11 (.alt 1 12 (.alt 1 13 (.alt 2 14 (.leaf []) .stop) .stop) (.alt 1 13 (.alt 1 12 (.alt 2 14 (.leaf []) .stop) .stop) .stop)) (.alt 1 13 (.alt 1 11 (.alt 1 12 (.alt 2 14 (.leaf []) .stop) .stop) .stop) .stop)) (.alt 1 13 (.alt 1 8 (.alt 1 11 (.alt 1 12 (.alt 2 14 (.leaf []) .stop) .stop) .stop) .stop) .stop))))))))))))))]⟩ Try.func43 rfl Try.ntmps43 (rs:=[.cell 6 79]) rfl (sig:=zd9) (out:=zd8) rfl Try.call43 (fun X=>by kernel_rfl)

def ze1:Shape:=⟨[(.tree (.pair (.int .i64) (.pair (.int .i64) .unit))),(.list (.int .i64)),(.list (.list (.int .i64)))],[(0,.ptr 100000 0),(1,.v 0)],[(100000,.box 51 [.own 100001,.own 100002]),(100001,.arr 3 1),(100002,.out 100003 22 3 2)]⟩
def ze0:Shape:=⟨[Tc1,(.list (.int .i64)),(.list (.list (.int .i64)))],[(0,.v 0)],[(100000,.box 51 [.own 50,.own 60]),(50,.arr 3 1),(60,.out 560 22 3 2)]⟩
def zfe:CE:=⟨31,ze1,ze0,LFix zcE⟩
theorem zkf:CE.ok Try.prog zfe:=CE.ofRec (Γ:=[zeF,zdQ]) (by kernel_rfl) zcb (GOK.cons zi0 (GOK.cons zf4 (GOK.nil))) ⟨[(14,⟨⟨[(.int .i64),.bool,(.list (.int .i64)),(.list (.list (.int .i64))),(.list (.int .i64)),(.list (.int .i64))],[(0,.ptr 100000 0),(6,.ptr 1 0),(65,.v 0)],[(100000,.box 51 [.own 2,.own 3]),(1,.box 79 [.v 1,.own 4,.own 5]),(2,.arr 3 2),(3,.out 6 22 3 3),(4,.arr 3 4),(5,.arr 3 5)]⟩,[8,9,66,67,68,69,70,71,72,73,74,75,76,77,78,79,80,81,82,83,84,85,86,87,88,89,90,91],[100001,100002,100003],[0],7,[(1,1,some 3,(.int .i64)),(1,2,some 3,(.int .i64))]⟩),(24,⟨⟨[(.int .i64),.bool,(.list (.int .i64)),(.list (.int .i64)),(.list (.int .i64)),(.list (.list (.int .i64)))],[(0,.ptr 100000 0),(10,.ptr 562 0),(109,.v 0)],[(100000,.box 51 [.own 51,.own 61]),(562,.box 79 [.v 1,.v 2,.v 3]),(51,.arr 3 4),(61,.out 561 22 3 5)]⟩,[12,110,111,112,113,114,115,116,117,118,119],[],[0],563,[]⟩)],[(17,⟨⟨[.bool,(.list (.int .i64)),(.list (.int .i64))],[(6,.ptr 1 0)],[(1,.box 79 [.v 0,.own 4,.own 5]),(4,.arr 3 1),(5,.arr 3 2)]⟩,[72,73,74,75,76,77,78],[],[0,57,67,568,567],569,[]⟩),(18,⟨⟨[.bool,(.list (.int .i64)),(.list (.list (.int .i64))),(.list (.int .i64)),(.list (.int .i64))],[(0,.ptr 100000 0),(6,.ptr 1 0)],[(100000,.box 51 [.own 7,.own 8]),(1,.box 79 [.v 0,.own 9,.own 10]),(7,.arr 3 1),(8,.out 11 22 3 2),(9,.arr 3 3),(10,.arr 3 4)]⟩,[8,9,67,68,69,70,71,72,73,74,75,76,77,78,79,80,81,82,83,84,85,86,87,88,89,90],[2,3,4,5,6,100001,100002,100003],[0],12,[]⟩),(26,⟨⟨[.bool,(.list (.int .i64)),(.list (.int .i64)),(.list (.int .i64)),(.list (.list (.int .i64)))],[(0,.ptr 100000 0),(10,.ptr 562 0)],[(100000,.box 51 [.own 563,.own 564]),(562,.box 79 [.v 0,.v 1,.v 2]),(563,.arr 3 3),(564,.out 565 22 3 4)]⟩,[12,111,112,113,114,115,116,117,118],[51,61,561],[0],566,[]⟩)],[(7,[(0,0),(0,1),(0,2),(0,3),(0,4),(0,5),(0,6),(0,7),(0,8),(1,9),(2,10),(0,11),(0,12),(2,13)]),(8,[(0,0),(0,1),(0,2),(0,3),(0,4),(4,5),(4,6),(0,7),(0,8),(2,9)]),(16,[(0,0),(0,1),(9,2),(2,3),(2,4)]),(22,[(0,0),(0,1),(0,2),(0,3),(0,4),(0,5),(0,6),(9,7),(2,8),(2,9)]),(29,[(0,0),(0,1),(0,2),(0,3),(0,4),(0,5),(0,6),(9,7),(2,8),(2,9)]),(30,[(0,0),(0,1),(0,2),(0,3),(0,4),(9,5)])],[(18,(.one 0 (.one 2 (.one 5 (.one 7 (.live [4,9,11,13] (.rd 1 [4,9,10,11,12,13] (.rd 3 [4,9,10,11,12,13] (.ban 6 [9,10,11,12,13] (.ban 8 [9,11,12,13] (.alt 2 4 (.leaf [(0,10),(2,9),(2,11),(0,12),(2,13)]) .stop) (.alt 2 4 (.leaf [(0,10),(0,8),(2,9),(2,11),(0,12),(2,13)]) .stop)) (.ban 8 [9,11,12,13] (.alt 2 4 (.leaf [(0,6),(0,10),(2,9),(2,11),(0,12),(2,13)]) .stop) (.alt 2 4 (.leaf [(0,6),(0,10),(0,8),(2,9),(2,11),(0,12),(2,13)]) .stop))))))))))),(26,(.one 0 (.one 2 (.one 3 (.live [4,5,6] (.ban 1 [5,6] (.alt 9 4 (.leaf [(9,5),(2,6)]) .stop) (.alt 9 4 (.leaf [(0,1),(9,5),(2,6)]) .stop)))))))]⟩ Try.func31 rfl Try.ntmps31 (rs:=[.cell 4 79]) rfl (sig:=ze1) (out:=ze0) rfl Try.call31 (d:=zcE) (fun rc X=>by kernel_rfl)

def zg8:Shape:=⟨[(.tree (.pair (.int .i64) (.pair (.int .i64) .unit)))],[(0,.v 0)],[]⟩
def zg7:Shape:=⟨[(.pair (.list (.int .i64)) (.pair (.list (.list (.int .i64))) .unit)),(.list .bool)],[(0,.addr 0),(1,.own 1)],[(1,.arr 4 1)]⟩
def zhQ:CE:=⟨15,zg8,zg7,fun X=>zeZ X⟩
theorem znQ:CE.ok Try.prog zhQ:=CE.of (Γ:=[zfe]) (by kernel_rfl) zcb (GOK.cons zkf (GOK.nil)) ⟨[(6,⟨⟨[(.int .i64),(.list .bool)],[(7,.own 566),(26,.v 0)],[(566,.arr 4 1)]⟩,[9,22,27,28,29,30,31,32,33],[],[0,54,64,565,564],567,[]⟩)],[],[(2,[(0,0),(0,1),(10,2),(2,3),(2,4)]),(11,[(0,0),(0,1),(0,2),(0,3),(0,4),(0,5),(0,6),(1,7),(11,8),(0,9),(0,10),(2,11)])],[]⟩ Try.func15 rfl Try.ntmps15 (rs:=[.tmp 2,.tmp 3]) rfl (sig:=zg8) (out:=zg7) rfl Try.call15 (fun X=>by kernel_rfl)

def ziV:Shape:=⟨[(.int .i64),(.int .i64),(.list .bool),(.pair (.list (.int .i64)) (.pair (.list (.list (.int .i64))) .unit))],[(0,.v 0),(1,.v 1),(2,.addr 2),(3,.ptr 100000 0)],[(100000,.box 46 [.addr 3])]⟩
def ziU:Shape:=⟨[(.int .i64),(.pair (.list (.int .i64)) (.pair (.list (.list (.int .i64))) .unit))],[(0,.v 0)],[(100000,.box 46 [.addr 1])]⟩
def zj5:CE:=⟨17,ziV,ziU,fun X=>zgA X.1 X.2.1 X.2.2.1 X.2.2.2⟩
theorem zpB:CE.ok Try.prog zj5:=CE.of (Γ:=[]) (by kernel_rfl) zcb (GOK.nil) ⟨[(3,⟨⟨[(.int .i64),(.int .i64)],[(7,.v 0),(13,.v 1)],[]⟩,[8,10,14,15,16,17,18,19,20,21,22,23,24,25,26,27,28,29,30,31,32,33,34,35,36,37,38,39,40,41,42,43,44,45,46,47],[],[],0,[]⟩),(7,⟨⟨[(.int .i64),(.int .i64)],[(7,.v 0),(29,.v 1)],[]⟩,[10,30,31,32,33,34,35,36,37,38,39,40,41,42,43,44,45,46],[],[],0,[]⟩)],[],[],[]⟩ Try.func17 rfl Try.ntmps17 (rs:=[.tmp 6]) rfl (sig:=ziV) (out:=ziU) rfl Try.call17 (fun X=>by kernel_rfl)

def ziX:Shape:=⟨[(.int .i64),(.int .i64)],[(0,.v 0),(1,.addr 1)],[]⟩
def ziW:Shape:=⟨[(.int .i64)],[(0,.v 0)],[]⟩
def zj6:CE:=⟨18,ziX,ziW,fun X=>zgB X.1 X.2⟩
theorem zpC:CE.ok Try.prog zj6:=CE.of (Γ:=[]) (by kernel_rfl) zcb (GOK.nil) ⟨[],[],[],[]⟩ Try.func18 rfl Try.ntmps18 (rs:=[.tmp 3]) rfl (sig:=ziX) (out:=ziW) rfl Try.call18 (fun X=>by kernel_rfl)

def zko:Shape:=⟨[(.int .i64),(.int .i64),(.list .bool),(.int .i64),(.int .i64),(.pair (.list (.int .i64)) (.pair (.list (.list (.int .i64))) .unit))],[(0,.v 0),(1,.v 1),(2,.fn 17 [.addr 2,.ptr 100000 0]),(3,.fn 18 [.addr 3]),(4,.v 4)],[(100000,.box 46 [.addr 5])]⟩
def zkn:Shape:=⟨[(.pair (.int .i64) (.pair (.int .i64) (.pair (.list (.list (.int .i64))) Tc3))),.bool,(.pair (.list (.int .i64)) (.pair (.list (.list (.int .i64))) .unit))],[(0,.v 0),(1,.v 1)],[(100000,.box 46 [.addr 2])]⟩
def zlS:CE:=⟨16,zko,zkn,fun X=>zjg X.1 X.2.1 X.2.2.1 X.2.2.2.1 X.2.2.2.2.1 X.2.2.2.2.2⟩
theorem zro:CE.ok Try.prog zlS:=CE.of (Γ:=[zj5,zj6]) (by kernel_rfl) zcb (GOK.cons zpB (GOK.cons zpC (GOK.nil))) ⟨[(4,⟨⟨[(.list .bool),(.pair (.list (.int .i64)) (.pair (.list (.list (.int .i64))) .unit)),(.int .i64),(.int .i64),(.list (.int .i64)),(.list (.int .i64)),(.list (.int .i64)),(.list (.list (.int .i64))),(.list (.int .i64))],[(2,.fn 17 [.addr 0,.ptr 100000 0]),(12,.ptr 1 0),(13,.own 2),(14,.own 3)],[(100000,.box 46 [.addr 1]),(1,.box 25 [.v 2,.v 3,.own 4,.own 5]),(2,.box 81 [.v 4,.v 5]),(3,.arr 3 6),(4,.arr 22 7),(5,.arr 3 8)]⟩,[11,15,16,17,18,19,20,23,25,27,28,29,30,31,32,33,34,35,36,37,38,39,40,41,42,43,44,45,46,47,48,49,50,51,52,53,54,55,56,57,58,59,60,61,62,63,64,65,66,67,68,69,70,71,72,73,74,75,76,77,78,79,80,81,82,83,84,85,86,87,88,89],[],[0],6,[(1,2,some 22,(.list (.int .i64))),(1,3,some 3,(.int .i64))]⟩),(8,⟨⟨[(.list .bool),(.int .i64),(.pair (.list (.int .i64)) (.pair (.list (.list (.int .i64))) .unit)),(.list (.int .i64)),(.list (.int .i64)),(.list (.int .i64)),(.list (.int .i64))],[(2,.fn 17 [.addr 0,.ptr 100000 0]),(13,.own 2),(14,.own 3),(16,.own 6),(43,.v 1)],[(100000,.box 46 [.addr 2]),(2,.box 81 [.v 3,.v 4]),(3,.arr 3 5),(6,.arr 3 6)]⟩,[11,17,18,19,20,31,34,38,41,44,45,46,47,48,49,50,51,52,53,54,55,56,57,58,59,60,61,62,63,64,65,66,67,68,69,70,71,72,73,74,75],[],[0,1,4,5],7,[]⟩)],[(17,⟨⟨[(.int .i64),(.list (.int .i64)),(.list (.int .i64)),(.list (.int .i64))],[(13,.own 2),(14,.own 7),(19,.v 0)],[(2,.box 81 [.v 1,.v 2]),(7,.arr 3 3)]⟩,[11,51,56,57,58,59,60,61,62,63,64,65,66,67,68,69,70],[3],[0,1,4,5,6],8,[]⟩)],[(21,[(0,0),(0,1),(0,2),(0,3),(1,4),(1,5),(2,6),(0,7),(2,8)])],[]⟩ Try.func16 rfl Try.ntmps16 (rs:=[.cell 10 25,.tmp 11]) rfl (sig:=zko) (out:=zkn) rfl Try.call16 (fun X=>by kernel_rfl)

def zkl:Shape:=⟨[(.pair (.int .i64) (.pair (.int .i64) (.pair (.list (.list (.int .i64))) Tc3)))],[(0,.v 0)],[]⟩
def zkk:Shape:=⟨[(.list (.int .i64))],[(0,.own 0)],[(0,.arr 3 0)]⟩
def zlR:CE:=⟨32,zkl,zkk,fun X=>zjf X⟩
theorem zrn:CE.ok Try.prog zlR:=CE.of (Γ:=[zhc]) (by kernel_rfl) zcb (GOK.cons zk6 (GOK.nil)) ⟨[(3,⟨⟨[(.int .i64),(.list (.int .i64))],[(3,.own 1),(4,.v 0)],[(1,.arr 3 1)]⟩,[2,5,6,7,8,9,11,12,13,14,17,18,19,20,21,22,23,24,25,26,27,28,29,30,31,32,33,34,35,36,37,38,39,40,41,42,43,44,45,46,47,48,49,50,51,52,53,54,55,56,57,58,59,60,61,62,63,64,65,66,67,68,69,70,71,72,73,74,75,76,77,78,79,80,81,82,83,84],[],[0],2,[]⟩),(6,⟨⟨[(.int .i64),(.list (.pair (.int .i64) (.pair .str .unit))),(.list (.int .i64)),(.list (.int .i64))],[(5,.own 2),(6,.own 3),(25,.v 0)],[(2,.box 101 [.v 1,.v 2]),(3,.arr 3 3)]⟩,[7,8,9,11,12,13,14,18,21,26,27,28,29,30,31,32,33,34,35,36,37,38,39,40,41,42,43,44,45,46,47,48,49,50,51,52,53,54,55,56,57,58,59,60,61,62,63,64,65,66,67,68,69,70,71,72,73,74,75,76],[],[0,1],4,[]⟩),(10,⟨⟨[(.int .i64),(.list (.int .u8))],[(9,.own 4),(32,.v 0)],[(4,.arr 5 1)]⟩,[11,33,34,35,36,37,38,39,40,41,42,43,44,45,46,47,48,49,50],[],[0,1,2,3],5,[]⟩)],[(17,⟨⟨[(.list (.pair (.int .i64) (.pair .str .unit))),(.list (.int .i64))],[(5,.own 2)],[(2,.box 101 [.v 0,.v 1])]⟩,[13,14,58,59,60,61,62,63,64,65,66,67,68,69],[],[0,1,3,4,5],6,[]⟩)],[(12,[(0,0),(0,1),(0,2),(0,3),(0,4),(0,5),(0,6),(0,7),(0,8),(0,9),(0,10),(0,11),(1,12),(2,13),(0,14)]),(14,[(0,0),(0,1),(0,2),(0,3),(0,4),(0,5),(0,6),(1,7),(2,8)])],[]⟩ Try.func32 rfl Try.ntmps32 (rs:=[.tmp 2]) rfl (sig:=zkl) (out:=zkk) rfl Try.call32 (fun X=>by kernel_rfl)

def zhy:Shape:=⟨[(.int .i64),(.int .i64),(.list (.int .i64)),(.pair (.int .i64) (.pair (.int .i64) (.pair (.list (.list (.int .i64))) Tc3))),(.list (.int .i64))],[(0,.v 0),(1,.v 1),(2,.addr 2),(3,.addr 3),(4,.addr 4)],[]⟩
def zhx:Shape:=⟨[(.int .i64)],[(0,.v 0)],[]⟩
def zis:CE:=⟨33,zhy,zhx,fun X=>zfQ X.1 X.2.1 X.2.2.1 X.2.2.2.1 X.2.2.2.2⟩
theorem zn9:CE.ok Try.prog zis:=CE.of (Γ:=[]) (by kernel_rfl) zcb (GOK.nil) ⟨[],[],[(1,[(0,0),(0,1),(0,2),(0,3),(0,4),(0,5),(0,6),(0,7),(0,8),(0,9),(0,10),(0,11),(0,12),(0,13),(0,14)])],[]⟩ Try.func33 rfl Try.ntmps33 (rs:=[.tmp 7]) rfl (sig:=zhy) (out:=zhx) rfl Try.call33 (fun X=>by kernel_rfl)

def zhA:Shape:=⟨[(.int .i64),(.pair (.int .i64) (.pair (.int .i64) (.pair (.list (.list (.int .i64))) Tc3))),(.list (.int .i64))],[(0,.v 0),(1,.addr 1),(2,.addr 2)],[]⟩
def zhz:Shape:=⟨[(.int .i64)],[(0,.v 0)],[]⟩
def zit:CE:=⟨34,zhA,zhz,fun X=>zhY X.1 X.2.1 X.2.2⟩
theorem zoa:CE.ok Try.prog zit:=CE.of (Γ:=[]) (by kernel_rfl) zcb (GOK.nil) ⟨[],[],[(1,[(0,0),(0,1),(0,2),(0,3),(0,4),(0,5),(0,6),(0,7),(0,8)])],[]⟩ Try.func34 rfl Try.ntmps34 (rs:=[.tmp 4]) rfl (sig:=zhA) (out:=zhz) rfl Try.call34 (fun X=>by kernel_rfl)

def zio:Shape:=⟨[(.int .i64),(.int .i64),(.list (.int .i64)),(.pair (.int .i64) (.pair (.int .i64) (.pair (.list (.list (.int .i64))) Tc3))),(.list (.int .i64)),(.pair (.int .i64) (.pair (.int .i64) (.pair (.list (.list (.int .i64))) Tc3))),(.list (.int .i64)),(.int .i64)],[(0,.v 0),(1,.v 1),(2,.fn 33 [.addr 2,.addr 3,.addr 4]),(3,.fn 34 [.addr 5,.addr 6]),(4,.v 7)],[]⟩
def zin:Shape:=⟨[(.pair (.int .i64) (.pair (.int .i64) (.pair (.list (.list (.int .i64))) Tc3))),.bool],[(0,.v 0),(1,.v 1)],[]⟩
def zjD:CE:=⟨16,zio,zin,fun X=>zgv X.1 X.2.1 X.2.2.1 X.2.2.2.1 X.2.2.2.2.1 X.2.2.2.2.2.1 X.2.2.2.2.2.2.1 X.2.2.2.2.2.2.2⟩
theorem zpp:CE.ok Try.prog zjD:=CE.of (Γ:=[zis,zit]) (by kernel_rfl) zcb (GOK.cons zn9 (GOK.cons zoa (GOK.nil))) ⟨[(4,⟨⟨[(.int .i64),(.int .i64),(.list (.int .i64)),(.list (.int .i64)),(.list (.int .i64)),(.list (.list (.int .i64))),(.list (.int .i64))],[(12,.ptr 1 0),(13,.own 2),(14,.own 3)],[(1,.box 25 [.v 0,.v 1,.own 4,.own 5]),(2,.box 81 [.v 2,.v 3]),(3,.arr 3 4),(4,.arr 22 5),(5,.arr 3 6)]⟩,[11,15,16,17,18,19,20,23,25,27,28,29,30,31,32,33,34,35,36,37,38,39,40,41,42,43,44,45,46,47,48,49,50,51,52,53,54,55,56,57,58,59,60,61,62,63,64,65,66,67,68,69,70,71,72,73,74,75,76,77,78,79,80,81,82,83,84,85,86,87,88,89],[],[0],6,[(1,2,some 22,(.list (.int .i64))),(1,3,some 3,(.int .i64))]⟩),(8,⟨⟨[(.int .i64),(.list (.int .i64)),(.list (.int .i64)),(.list (.int .i64)),(.list (.int .i64))],[(13,.own 2),(14,.own 3),(16,.own 6),(43,.v 0)],[(2,.box 81 [.v 1,.v 2]),(3,.arr 3 3),(6,.arr 3 4)]⟩,[11,17,18,19,20,31,34,38,41,44,45,46,47,48,49,50,51,52,53,54,55,56,57,58,59,60,61,62,63,64,65,66,67,68,69,70,71,72,73,74,75],[],[0,1,4,5],7,[]⟩)],[(17,⟨⟨[(.int .i64),(.list (.int .i64)),(.list (.int .i64)),(.list (.int .i64))],[(13,.own 2),(14,.own 7),(19,.v 0)],[(2,.box 81 [.v 1,.v 2]),(7,.arr 3 3)]⟩,[11,51,56,57,58,59,60,61,62,63,64,65,66,67,68,69,70],[3],[0,1,4,5,6],8,[]⟩)],[(21,[(0,0),(0,1),(0,2),(0,3),(1,4),(1,5),(2,6),(0,7),(2,8)])],[]⟩ Try.func16 rfl Try.ntmps16 (rs:=[.cell 10 25,.tmp 11]) rfl (sig:=zio) (out:=zin) rfl Try.call16 (fun X=>by kernel_rfl)

def zjH:Shape:=⟨[(.pair (.int .i64) (.pair (.int .i64) (.pair (.list (.list (.int .i64))) Tc3)))],[(0,.v 0)],[]⟩
def zjG:Shape:=⟨[(.pair (.int .i64) (.pair (.int .i64) (.pair (.list (.list (.int .i64))) Tc3)))],[(0,.v 0)],[]⟩
def zkq:CE:=⟨19,zjH,zjG,fun X=>zfV X⟩
theorem zp8:CE.ok Try.prog zkq:=CE.of (Γ:=[zlR,zjD]) (by kernel_rfl) zcb (GOK.cons zrn (GOK.cons zpp (GOK.nil))) ⟨[(4,⟨⟨[(.int .i64),(.list (.int .i64))],[(4,.ptr 5 0),(16,.v 0)],[(5,.box 22 [.own 4]),(4,.arr 3 1)]⟩,[5,6,13,17,18,19,20,21,22,23,24,25],[],[0,1,2,3],6,[]⟩)],[(8,⟨⟨[(.int .i64),(.int .i64),(.list (.list (.int .i64))),(.list (.int .i64))],[(7,.ptr 6 0)],[(6,.box 25 [.v 0,.v 1,.v 2,.v 3])]⟩,[1,3,4,8,10,11,14,26,27,28,29,30,31,32,33,34,35,36,37,38,39,40,41],[0,2,3,4,5],[1],7,[]⟩)],[],[(8,(.one 0 (.one 3 (.one 7 (.one 8 (.live [12,17] (.rd 1 [12,13,14,15,17,18] (.rd 2 [5,6,12,13,14,15,17,18] (.rd 4 [5,6,12,13,14,15,17,18] (.one 5 (.rd 6 [12,13,14,15,17,18] (.rd 9 [10,11,12,13,14,15,17,18] (.rd 10 [11,12,13,14,15,17,18] (.one 11 (.alt 2 12 (.leaf [(0,13),(0,14),(0,15),(1,16),(2,17),(0,18)]) (.alt 1 16 (.alt 2 12 (.leaf [(0,13),(0,14),(0,15),(2,17),(0,18)]) .stop) .stop))))))))))))))))]⟩ Try.func19 rfl Try.ntmps19 (rs:=[.cell 2 25]) rfl (sig:=zjH) (out:=zjG) rfl Try.call19 (fun X=>by kernel_rfl)

def zkZ:Shape:=⟨[(.int .i64),.str],[(0,.v 0),(1,.v 1)],[]⟩
def zkY:Shape:=⟨[(.pair (.int .i64) (.pair (.int .i64) (.pair (.list (.list (.int .i64))) Tc3))),(.int .i64)],[(0,.v 0),(1,.v 1)],[]⟩
def zmj:CE:=⟨4,zkZ,zkY,fun X=>zb6 X.1 X.2⟩
theorem zrH:CE.ok Try.prog zmj:=CE.of (Γ:=[ziZ,zfc,zhQ,zlS,zkq]) (by kernel_rfl) zcb (GOK.cons zoI (GOK.cons zjz (GOK.cons znQ (GOK.cons zro (GOK.cons zp8 (GOK.nil)))))) ⟨[(11,⟨⟨[(.int .i64),(.int .i64)],[(10,.ptr 7 0),(50,.v 0)],[(7,.box 3 [.v 1])]⟩,[11,12,51,52,53,54,55,56,57,58,59,60],[],[0,1,2,4,5,6],8,[]⟩)],[(16,⟨⟨[(.int .i64),(.int .i64),(.list (.list (.int .i64))),(.list (.int .i64))],[(13,.ptr 8 0)],[(8,.box 25 [.v 0,.v 1,.v 2,.v 3])]⟩,[8,9,10,14,36,38,40,48,61,62,63,64,65,66,67,68,69,70,71,72,73],[4,5,6,7],[0,1,2],9,[]⟩)],[(14,[(0,0),(0,1),(0,2),(0,3),(2,4)])],[(16,(.one 7 (.one 8 (.live [9,14] (.rd 0 [9,10,11,12,14,15] (.rd 1 [2,3,4,5,6,9,10,11,12,14,15] (.one 2 (.one 3 (.rd 4 [5,6,9,10,11,12,14,15] (.rd 5 [6,9,10,11,12,14,15] (.one 6 (.alt 2 9 (.leaf [(0,10),(0,11),(0,12),(1,13),(2,14),(0,15)]) (.alt 1 13 (.alt 2 9 (.leaf [(0,10),(0,11),(0,12),(2,14),(0,15)]) .stop) .stop)))))))))))))]⟩ Try.func4 rfl Try.ntmps4 (rs:=[.cell 4 25,.tmp 5]) rfl (sig:=zkZ) (out:=zkY) rfl Try.call4 (fun X=>by kernel_rfl)

def zm8:Shape:=⟨[(.pair (.int .i64) (.pair (.int .i64) (.pair (.list (.list (.int .i64))) Tc3)))],[(0,.v 0)],[]⟩
def zm7:Shape:=⟨[.bool],[(0,.v 0)],[]⟩
def zoZ:CE:=⟨5,zm8,zm7,fun X=>zix X⟩
theorem zt9:CE.ok Try.prog zoZ:=CE.of (Γ:=[]) (by kernel_rfl) zcb (GOK.nil) ⟨[],[],[],[]⟩ Try.func5 rfl Try.ntmps5 (rs:=[.tmp 2]) rfl (sig:=zm8) (out:=zm7) rfl Try.call5 (fun X=>by kernel_rfl)

def zjR:Shape:=⟨[(.pair .str (.pair (.int .i64) (.pair (.int .i64) (.pair (.list (.pair (.int .i64) (.pair (.int .i64) Tc3))) (.pair (.pair (.int .i64) (.pair (.int .i64) .unit)) .unit)))))],[(0,.addr 0)],[]⟩
def zjQ:Shape:=⟨[.bool],[(0,.v 0)],[]⟩
def zdI:CE:=⟨37,zjR,zjQ,fun X=>zdH X⟩
theorem zeV:CE.ok Try.prog zdI:=CE.of (Γ:=[]) (by kernel_rfl) zcb (GOK.nil) ⟨[],[],[],[]⟩ Try.func37 rfl Try.ntmps37 (rs:=[.tmp 2]) rfl (sig:=zjR) (out:=zjQ) rfl Try.call37 (fun X=>by kernel_rfl)

def ziI:Shape:=⟨[(.pair .str (.pair (.int .i64) (.pair (.int .i64) (.pair (.list (.pair (.int .i64) (.pair (.int .i64) Tc3))) (.pair (.pair (.int .i64) (.pair (.int .i64) .unit)) .unit)))))],[(0,.addr 0)],[]⟩
def ziH:Shape:=⟨[(.int .u8)],[(0,.v 0)],[]⟩
def zdl:CE:=⟨36,ziI,ziH,fun X=>zcz X⟩
theorem zei:CE.ok Try.prog zdl:=CE.of (Γ:=[]) (by kernel_rfl) zcb (GOK.nil) ⟨[],[],[(1,[(0,0),(0,1),(0,2),(0,3),(0,4),(0,5),(0,6),(0,7),(0,8),(0,9)]),(3,[(0,0),(0,1),(0,2),(0,3),(0,4),(0,5),(0,6),(0,7),(0,8),(0,9)])],[]⟩ Try.func36 rfl Try.ntmps36 (rs:=[.tmp 2]) rfl (sig:=ziI) (out:=ziH) rfl Try.call36 (fun X=>by kernel_rfl)

def ziN:Shape:=⟨[(.pair (.int .i64) (.pair (.int .i64) Tc3)),.str,(.int .i64),(.int .i64),(.int .i64),(.int .i64),(.list (.pair (.int .i64) (.pair (.int .i64) Tc3)))],[(0,.ptr 100000 0),(1,.v 0)],[(100000,.box 59 [.v 1,.v 2,.v 3,.own 100001,.v 4,.v 5]),(100001,.arr 88 6)]⟩
def ziM:Shape:=⟨[(.int .i64),.str,(.int .i64),(.int .i64),(.list (.pair (.int .i64) (.pair (.int .i64) Tc3))),(.int .i64),(.int .i64)],[(0,.v 0)],[(100000,.box 59 [.v 1,.v 2,.v 3,.own 80,.v 5,.v 6]),(80,.arr 88 4)]⟩
def zdn:CE:=⟨38,ziN,ziM,fun X=>zcd X.1 X.2.1 X.2.2.1 X.2.2.2.1 X.2.2.2.2.1 X.2.2.2.2.2.1 X.2.2.2.2.2.2⟩
theorem zej:CE.ok Try.prog zdn:=CE.of (Γ:=[]) (by kernel_rfl) zcb (GOK.nil) ⟨[],[],[(1,[(0,0),(0,1),(0,2),(0,3),(0,4),(0,5),(1,6),(2,7),(0,8),(0,9),(2,10)])],[]⟩ Try.func38 rfl Try.ntmps38 (rs:=[.tmp 4]) rfl (sig:=ziN) (out:=ziM) rfl Try.call38 (fun X=>by kernel_rfl)

def zhH:Shape:=⟨[(.int .i64),.str,(.int .i64),(.int .i64),(.int .i64),(.int .i64),(.list (.pair (.int .i64) (.pair (.int .i64) Tc3)))],[(0,.ptr 100000 0),(1,.v 0)],[(100000,.box 59 [.v 1,.v 2,.v 3,.own 100001,.v 4,.v 5]),(100001,.arr 88 6)]⟩
def zhG:Shape:=⟨[.str,(.int .i64),(.int .i64),(.list (.pair (.int .i64) (.pair (.int .i64) Tc3))),(.int .i64),(.int .i64)],[],[(100000,.box 59 [.v 0,.v 1,.v 2,.own 80,.v 4,.v 5]),(80,.arr 88 3)]⟩
def zfD:CE:=⟨21,zhH,zhG,fun X=>zcO X.1 X.2.1 X.2.2.1 X.2.2.2.1 X.2.2.2.2.1 X.2.2.2.2.2.1 X.2.2.2.2.2.2⟩
theorem ziG:CE.ok Try.prog zfD:=CE.of (Γ:=[]) (by kernel_rfl) zcb (GOK.nil) ⟨[],[],[],[]⟩ Try.func21 rfl Try.ntmps21 (rs:=[]) rfl (sig:=zhH) (out:=zhG) rfl Try.call21 (fun X=>by kernel_rfl)

def zaE:Shape:=⟨[.str,(.int .i64),(.int .i64),(.int .i64),(.int .i64),(.list (.pair (.int .i64) (.pair (.int .i64) Tc3)))],[(0,.ptr 100000 0)],[(100000,.box 59 [.v 0,.v 1,.v 2,.own 100001,.v 3,.v 4]),(100001,.arr 88 5)]⟩
def zaD:Shape:=⟨[(.int .i64),.str,(.int .i64),(.int .i64),(.list (.pair (.int .i64) (.pair (.int .i64) Tc3))),(.int .i64),(.int .i64)],[(0,.v 0)],[(100000,.box 59 [.v 1,.v 2,.v 3,.own 80,.v 5,.v 6]),(80,.arr 88 4)]⟩
def zhM:CE:=⟨20,zaE,zaD,LFix zdW⟩
def zhK:Shape:=⟨[.str,(.int .i64),(.int .i64),(.int .i64),(.int .i64),(.list (.pair (.int .i64) (.pair (.int .i64) Tc3)))],[(0,.ptr 100000 0)],[(100000,.box 59 [.v 0,.v 1,.v 2,.own 100001,.v 3,.v 4]),(100001,.arr 88 5)]⟩
def zhJ:Shape:=⟨[(.int .i64),.str,(.int .i64),(.int .i64),(.list (.pair (.int .i64) (.pair (.int .i64) Tc3))),(.int .i64),(.int .i64)],[(0,.v 0)],[(100000,.box 59 [.v 1,.v 2,.v 3,.own 80,.v 5,.v 6]),(80,.arr 88 4)]⟩
def ziL (rec:Tup zaE.tys->Option (Tup zaD.tys)):CE:=⟨50,zhK,zhJ,fun X=>zcP (fun c c_1 c_2 c_3 c_4 l=>rec (c,c_1,c_2,c_3,c_4,l)) X.1 X.2.1 X.2.2.1 X.2.2.2.1 X.2.2.2.2.1 X.2.2.2.2.2⟩
theorem zoB (rec:Tup zaE.tys->Option (Tup zaD.tys)) (hrec:CE.ok Try.prog ⟨20,zaE,zaD,rec⟩):CE.ok Try.prog (ziL rec):=CE.of (Γ:=[zdn,zfD,⟨20,zaE,zaD,rec⟩,zdI,zdl]) (by kernel_rfl) zcb (GOK.cons zej (GOK.cons ziG (GOK.cons hrec (GOK.cons zeV (GOK.cons zei (GOK.nil)))))) ⟨[],[(11,⟨⟨[.bool],[(41,.v 0)],[]⟩,[36,37,38,39,40],[],[],0,[]⟩),(25,⟨⟨[.str,(.int .i64),(.int .i64),(.int .i64),(.int .i64),(.list (.pair (.int .i64) (.pair (.int .i64) Tc3)))],[(0,.ptr 100000 0)],[(100000,.box 59 [.v 0,.v 1,.v 2,.own 81,.v 3,.v 4]),(81,.arr 88 5)]⟩,[84,85,86,87],[80],[],82,[]⟩)],[],[]⟩ Try.func50 rfl Try.ntmps50 (rs:=[.tmp 2]) rfl (sig:=zhK) (out:=zhJ) rfl Try.call50 (fun X=>by kernel_rfl)
def ziK:Shape:=⟨[.str,(.int .i64),(.int .i64),(.int .i64),(.int .i64),(.list (.pair (.int .i64) (.pair (.int .i64) Tc3)))],[(0,.ptr 100000 0)],[(100000,.box 59 [.v 0,.v 1,.v 2,.own 100001,.v 3,.v 4]),(100001,.arr 88 5)]⟩
def ziJ:Shape:=⟨[(.int .i64),.str,(.int .i64),(.int .i64),(.list (.pair (.int .i64) (.pair (.int .i64) Tc3))),(.int .i64),(.int .i64)],[(0,.v 0)],[(100000,.box 59 [.v 1,.v 2,.v 3,.own 80,.v 5,.v 6]),(80,.arr 88 4)]⟩
def zjS (rec:Tup zaE.tys->Option (Tup zaD.tys)):CE:=⟨46,ziK,ziJ,fun X=>zcA (fun c c_1 c_2 c_3 c_4 l=>rec (c,c_1,c_2,c_3,c_4,l)) X.1 X.2.1 X.2.2.1 X.2.2.2.1 X.2.2.2.2.1 X.2.2.2.2.2⟩
theorem zpu (rec:Tup zaE.tys->Option (Tup zaD.tys)) (hrec:CE.ok Try.prog ⟨20,zaE,zaD,rec⟩):CE.ok Try.prog (zjS rec):=CE.of (Γ:=[ziL rec,zdn,zdl,zdI]) (by kernel_rfl) zcb (GOK.cons (zoB rec hrec) (GOK.cons zej (GOK.cons zei (GOK.cons zeV (GOK.nil))))) ⟨[(2,⟨⟨[(.int .i64),.str,(.int .i64),(.int .i64),(.int .i64),(.int .i64),(.list (.pair (.int .i64) (.pair (.int .i64) Tc3)))],[(0,.ptr 100000 0),(3,.v 0)],[(100000,.box 59 [.v 1,.v 2,.v 3,.own 80,.v 4,.v 5]),(80,.arr 88 6)]⟩,[4,5,8,9,10,11,12,13,14,15,16,17,18,19,20,21,22,23,24,25,26,27,28,29],[],[],81,[]⟩)],[],[],[]⟩ Try.func46 rfl Try.ntmps46 (rs:=[.tmp 2]) rfl (sig:=ziK) (out:=ziJ) rfl Try.call46 (fun X=>by kernel_rfl)
def ziP:Shape:=⟨[.str,(.int .i64),(.int .i64),(.int .i64),(.int .i64),(.list (.pair (.int .i64) (.pair (.int .i64) Tc3)))],[(0,.ptr 100000 0)],[(100000,.box 59 [.v 0,.v 1,.v 2,.own 100001,.v 3,.v 4]),(100001,.arr 88 5)]⟩
def ziO:Shape:=⟨[(.int .i64),.str,(.int .i64),(.int .i64),(.list (.pair (.int .i64) (.pair (.int .i64) Tc3))),(.int .i64),(.int .i64)],[(0,.v 0)],[(100000,.box 59 [.v 1,.v 2,.v 3,.own 80,.v 5,.v 6]),(80,.arr 88 4)]⟩
def zjU (rec:Tup zaE.tys->Option (Tup zaD.tys)):CE:=⟨35,ziP,ziO,fun X=>zcC (fun c c_1 c_2 c_3 c_4 l=>rec (c,c_1,c_2,c_3,c_4,l)) X.1 X.2.1 X.2.2.1 X.2.2.2.1 X.2.2.2.2.1 X.2.2.2.2.2⟩
theorem zpv (rec:Tup zaE.tys->Option (Tup zaD.tys)) (hrec:CE.ok Try.prog ⟨20,zaE,zaD,rec⟩):CE.ok Try.prog (zjU rec):=CE.of (Γ:=[zjS rec,zdn,zdl,zdI]) (by kernel_rfl) zcb (GOK.cons (zpu rec hrec) (GOK.cons zej (GOK.cons zei (GOK.cons zeV (GOK.nil))))) ⟨[(3,⟨⟨[.str,(.int .i64),(.int .i64),(.int .i64),(.int .i64),(.list (.int .i64)),(.list (.pair (.int .i64) (.pair (.int .i64) Tc3)))],[(0,.ptr 100000 0),(4,.own 81)],[(100000,.box 59 [.v 0,.v 1,.v 2,.own 80,.v 3,.v 4]),(81,.arr 3 5),(80,.arr 88 6)]⟩,[3,5,6,7,11,12,13,14,15,16,17,18,19,20,21,22,23,24,25,26,27,28,29,30,31,32,33,34,35,36,37,38,39,40,41,42,43,44,45],[],[],82,[]⟩)],[(5,⟨⟨[.bool],[(7,.v 0)],[]⟩,[16,17,18,19,20,21,22,23,24,25,26,27,28,29,30,31,32,33],[],[80,81],82,[]⟩),(8,⟨⟨[.str,(.int .i64),(.int .i64),(.int .i64),(.int .i64),(.list (.int .i64)),(.list (.pair (.int .i64) (.pair (.int .i64) Tc3)))],[(0,.ptr 100000 0),(4,.own 81)],[(100000,.box 59 [.v 0,.v 1,.v 2,.own 80,.v 3,.v 4]),(81,.arr 3 5),(80,.arr 88 6)]⟩,[3,5,6,7,11,12,13,14,15,16,17,18,19,20,21,22,23,24,25,26,27,28,29,30,31,32,33,34,35,36,37,38,39,40,41,42,43,44,45],[],[],82,[]⟩)],[],[]⟩ Try.func35 rfl Try.ntmps35 (rs:=[.tmp 2]) rfl (sig:=ziP) (out:=ziO) rfl Try.call35 (fun X=>by kernel_rfl)
theorem znz:CE.ok Try.prog zhM:=CE.ofRecM (Γ:=fun rec=>[zjU rec,zdn,zdl,zdI]) (by kernel_rfl) zcb ⟨[(3,⟨⟨[.str,(.int .i64),(.int .i64),(.int .i64),(.int .i64),(.list (.int .i64)),(.list (.pair (.int .i64) (.pair (.int .i64) Tc3)))],[(0,.ptr 100000 0),(4,.own 81)],[(100000,.box 59 [.v 0,.v 1,.v 2,.own 80,.v 3,.v 4]),(81,.arr 3 5),(80,.arr 88 6)]⟩,[3,5,6,10,11,12,13,14,15,16,17,18,19,20,21,22,23,24,25,26,27,28,29,30,31,32,33],[],[],82,[]⟩)],[(8,⟨⟨[.str,(.int .i64),(.int .i64),(.int .i64),(.int .i64),(.list (.int .i64)),(.list (.pair (.int .i64) (.pair (.int .i64) Tc3)))],[(0,.ptr 100000 0),(4,.own 81)],[(100000,.box 59 [.v 0,.v 1,.v 2,.own 80,.v 3,.v 4]),(81,.arr 3 5),(80,.arr 88 6)]⟩,[3,5,6,10,11,12,13,14,15,16,17,18,19,20,21,22,23,24,25,26,27,28,29,30,31,32,33],[],[],82,[]⟩)],[],[]⟩ Try.func20 rfl Try.ntmps20 (rs:=[.tmp 2]) rfl (sig:=zaE) (out:=zaD) rfl (fun rec hrec=>(GOK.cons (zpv rec hrec) (GOK.cons zej (GOK.cons zei (GOK.cons zeV (GOK.nil)))))) Try.call20 (d:=zdW) (fun rc X=>by kernel_rfl)
def zo8:Shape:=⟨[.str],[(0,.v 0)],[]⟩
def zo7:Shape:=⟨[(.pair (.int .i64) (.pair (.int .i64) .unit)),(.list (.pair (.int .i64) (.pair (.int .i64) Tc3)))],[(0,.own 0),(1,.v 0)],[(0,.arr 88 1)]⟩
def zqT:CE:=⟨6,zo8,zo7,fun X=>znw X⟩
theorem zvm:CE.ok Try.prog zqT:=CE.of (Γ:=[zhM,zfD]) (by kernel_rfl) zcb (GOK.cons znz (GOK.cons ziG (GOK.nil))) ⟨[],[],[(8,[(0,0),(0,1),(0,2),(0,3),(0,4),(2,5)])],[]⟩ Try.func6 rfl Try.ntmps6 (rs:=[.tmp 2,.cell 3 32]) rfl (sig:=zo8) (out:=zo7) rfl Try.call6 (fun X=>by kernel_rfl)

def zl4:Shape:=⟨[(.list (.pair (.int .i64) (.pair (.int .i64) Tc3)))],[(0,.v 0)],[]⟩
def zl3:Shape:=⟨[(.int .i64),(.int .i64)],[(0,.v 0),(1,.v 1)],[]⟩
def znv:CE:=⟨22,zl4,zl3,fun X=>zoz X⟩
theorem ztl:CE.ok Try.prog znv:=CE.of (Γ:=[]) (by kernel_rfl) zcb (GOK.nil) ⟨[(4,⟨⟨[(.int .i64),(.int .i64),(.int .i64)],[(4,.v 0),(5,.v 1),(6,.v 2)],[]⟩,[7,8,9,10,11,12,13,14,15,16,17,18,19,20,21,22,23,24,25,26,27,28,29,30,31,32],[],[],0,[]⟩)],[],[],[]⟩ Try.func22 rfl Try.ntmps22 (rs:=[.tmp 2,.tmp 3]) rfl (sig:=zl4) (out:=zl3) rfl Try.call22 (fun X=>by kernel_rfl)

def zlX:Shape:=⟨[(.int .i64),(.list (.pair (.int .i64) (.pair (.int .i64) Tc3))),(.int .i64)],[(0,.v 0),(1,.v 1),(2,.v 2)],[]⟩
def zlW:Shape:=⟨[(.pair (.int .i64) (.pair (.int .i64) (.pair (.list (.int .i64)) (.pair (.list (.pair (.int .i64) (.pair (.int .i64) (.pair (.int .i64) .unit)))) Tc3))))],[(0,.v 0)],[]⟩
def znr:CE:=⟨23,zlX,zlW,fun X=>zly X.1 X.2.1 X.2.2⟩
theorem ztk:CE.ok Try.prog znr:=CE.of (Γ:=[]) (by kernel_rfl) zcb (GOK.nil) ⟨[(6,⟨⟨[(.int .i64),(.int .i64),(.list (.int .i64)),(.list (.int .i64)),(.list (.pair .bool (.pair (.int .i64) (.pair (.int .i64) .unit))))],[(7,.own 1),(8,.own 2),(9,.own 3),(10,.v 0),(11,.v 1)],[(1,.arr 3 2),(2,.arr 3 3),(3,.arr 91 4)]⟩,[12,13,14,15,16,17,18,19,26,28,29,30,31,32,33,34,35,36,37,38,39,40,41,42,43,44,45,46,47,48,49,50,51,52,53,54,55,56,57,58,59,60,61,62,63,64,65,66,67,68,69,70,71,72,73,74,75,76,77,78,79,80,81,82,83,84,85,86,87,88,89,90,91,92,93,94,95,96,97,98,99,100,101,102,103,104,105,106,107,108,109,110,111,112,113,114,115,116,117,118,119,120,121,122,123,124,125,126,127,128,129,130,131,132,133,134,135,136,137,138,139,140,141,142,143,144,145,146,147,148,149,150,151,152,153,154,155,156,157,158,159,160,161,162,163,164,165,166,167,168,169,170,171,172,173,174,175,176,177,178,179,180,181,182,183,184,185,186,187,188,189,190,191,192,193,194],[],[0],4,[]⟩),(20,⟨⟨[(.int .i64),.bool,(.int .i64),(.int .i64)],[(13,.ptr 5 0),(14,.v 0)],[(5,.box 91 [.v 1,.v 2,.v 3])]⟩,[15,61,62,63,64,65,66,67,68,69,70,71,72,73,74,75,76,77,78,79,80,81,82,83,84,85,86,87,88,89,90,91,92,93,94],[],[0,1,2,3,4],6,[]⟩),(29,⟨⟨[(.int .i64),(.list (.int .i64)),.bool,(.int .i64),(.int .i64)],[(7,.own 1),(13,.ptr 5 0),(16,.v 0)],[(1,.arr 3 1),(5,.box 91 [.v 2,.v 3,.v 4])]⟩,[17,18,26,97,98,99,100,101,102,103,104,105,106,107,108,109,110,111,112,113,114,115,116,117,118,119,120,121,122,123,124,125,126,127,128,129,130,131,132,133,134,135,136,137,138,139,140,141,142,143,144,145,146,147,148,149,150,151,152,153,154,155,156,157,158,159],[],[0,2,3,4],6,[]⟩),(33,⟨⟨[(.int .i64),(.list (.int .i64))],[(7,.own 1),(18,.v 0)],[(1,.arr 3 1)]⟩,[113,114,115,116,117,118,119,120,121,122,123,124,125,126,127,128,129,130,131,132,133],[],[0,2,3,4,5,6],7,[]⟩),(46,⟨⟨[(.int .i64),(.list (.int .i64))],[(7,.own 1),(19,.v 0)],[(1,.arr 3 1)]⟩,[169,170,171,172,173,174,175,176,177,178,179,180,181,182,183,184,185,186,187,188,189],[],[0,2,3,4,5],6,[]⟩),(55,⟨⟨[(.int .i64),(.int .i64),(.int .i64),(.list (.int .i64)),(.list (.pair (.int .i64) (.pair (.int .i64) (.pair (.int .i64) .unit)))),(.list (.int .i64))],[(21,.ptr 6 0),(22,.v 0)],[(6,.box 66 [.v 1,.v 2,.v 3,.own 7,.own 8]),(7,.arr 93 4),(8,.arr 3 5)]⟩,[23,24,207,208,209,210,211,212,213,214,215,216,217,218,219,220,221,222,223,224,225,226,227,228,229,230,231,232,233,234,235,236,237,238,239,240,241,242,243,244,245,246,247,248,249,250,251,252,253,254,255,256,257,258,259,260,261,262,263,264,265,266,267,268],[],[0,1,2,3,4],9,[(6,3,some 93,(.pair (.int .i64) (.pair (.int .i64) (.pair (.int .i64) .unit)))),(6,4,some 3,(.int .i64))]⟩),(61,⟨⟨[(.int .i64),(.int .i64),(.int .i64),(.list (.int .i64)),(.list (.pair (.int .i64) (.pair (.int .i64) (.pair (.int .i64) .unit)))),(.list (.int .i64))],[(21,.ptr 6 0),(24,.v 0)],[(6,.box 66 [.v 1,.v 2,.v 3,.own 7,.own 8]),(7,.arr 93 4),(8,.arr 3 5)]⟩,[221,222,223,224,225,226,227,228,229,230,231,232,233,234,235,236,237,238,239,240,241,242],[],[0,1,2,3,4],9,[]⟩)],[(50,⟨⟨[(.int .i64),(.list (.int .i64)),(.list (.int .i64)),.bool,(.int .i64),(.int .i64)],[(7,.own 1),(8,.own 2),(10,.v 0),(13,.ptr 5 0)],[(1,.arr 3 1),(2,.arr 3 2),(5,.box 91 [.v 3,.v 4,.v 5])]⟩,[14,15,16,17,18,19,26,39,40,41,42,43,44,45,46,47,48,49,50,51,52,53,54,55,56,57,58,59,60,61,62,63,64,65,66,67,68,69,70,71,72,73,74,75,76,77,78,79,80,81,82,83,84,85,86,87,88,89,90,91,92,93,94,95,96,97,98,99,100,101,102,103,104,105,106,107,108,109,110,111,112,113,114,115,116,117,118,119,120,121,122,123,124,125,126,127,128,129,130,131,132,133,134,135,136,137,138,139,140,141,142,143,144,145,146,147,148,149,150,151,152,153,154,155,156,157,158,159,160,161,162,163,164,165,166,167,168,169,170,171,172,173,174,175,176,177,178,179,180,181,182,183,184,185,186,187,188,189,190],[],[0,3,4],6,[]⟩),(23,⟨⟨[.bool,(.int .i64),(.int .i64)],[(13,.ptr 5 0)],[(5,.box 91 [.v 0,.v 1,.v 2])]⟩,[76,77,78,79,80,81,82],[],[0,1,2,3,4,6],7,[]⟩),(38,⟨⟨[.bool,(.int .i64),(.int .i64)],[(13,.ptr 5 0)],[(5,.box 91 [.v 0,.v 1,.v 2])]⟩,[134,135,136,137,138,139,140,141],[],[0,1,2,3,4,6],7,[]⟩),(41,⟨⟨[.bool,(.int .i64),(.int .i64)],[(13,.ptr 5 0)],[(5,.box 91 [.v 0,.v 1,.v 2])]⟩,[142,143,144,145,146,147,148,149,150,151,152],[],[0,1,2,3,4,6],7,[]⟩),(42,⟨⟨[(.list (.int .i64)),.bool,(.int .i64),(.int .i64)],[(7,.own 1),(13,.ptr 5 0)],[(1,.arr 3 0),(5,.box 91 [.v 1,.v 2,.v 3])]⟩,[17,18,105,106,107,108,109,110,111,112,113,114,115,116,117,118,119,120,121,122,123,124,125,126,127,128,129,130,131,132,133,134,135,136,137,138,139,140,141,142,143,144,145,146,147,148,149,150,151,152,153,154,155,156,157,158,159],[],[0,2,3,4],6,[]⟩),(59,⟨⟨[(.int .i64)],[(23,.v 0)],[]⟩,[214,215,216,217,218,219,220],[],[0,1,2,3,4,6,7,8],9,[]⟩)],[(36,[(0,0),(0,1),(0,2),(0,3),(0,4),(0,5),(0,6),(0,7),(0,8),(0,9),(2,10)]),(49,[(0,0),(0,1),(0,2),(0,3),(0,4),(0,5),(0,6),(0,7),(0,8),(0,9),(2,10)]),(64,[(0,0),(0,1),(0,2),(0,3),(0,4),(0,5),(0,6),(0,7),(0,8),(1,9),(2,10),(0,11),(2,12)])],[]⟩ Try.func23 rfl Try.ntmps23 (rs:=[.cell 6 66]) rfl (sig:=zlX) (out:=zlW) rfl Try.call23 (fun X=>by kernel_rfl)

def zme:Shape:=⟨[(.pair (.int .i64) (.pair (.int .i64) (.pair (.list (.list (.int .i64))) Tc3)))],[(0,.v 0)],[]⟩
def zmd:Shape:=⟨[(.list (.int .i64))],[(0,.own 0)],[(0,.arr 3 0)]⟩
def znK:CE:=⟨47,zme,zmd,fun X=>zlA X⟩
theorem ztq:CE.ok Try.prog znK:=CE.of (Γ:=[]) (by kernel_rfl) zcb (GOK.nil) ⟨[(3,⟨⟨[(.int .i64),(.list (.int .i64))],[(3,.own 2),(4,.v 0)],[(2,.arr 3 1)]⟩,[2,5,6,7,8,9,10,11,12,13,16,17,18,19,20,21,22,23,24,25,26,27,28,29,30,31,32,33,34,35,36,37,38,39,40,41,42,43,44,45,46,47,48,49,50,51,52,53,54,55,56,57,58,59,60,61,62,63,64,65,66,67,68,69,70,71,72,73,74,75,76,77,78,79,80,81,82,83,84,85,86,87,88,89,90,91,92,93,94,95],[],[0],3,[]⟩),(7,⟨⟨[(.int .i64),(.int .i64),(.list (.int .i64)),(.list (.int .i64))],[(5,.own 3),(6,.v 0),(7,.own 4),(8,.v 1)],[(3,.arr 3 2),(4,.arr 3 3)]⟩,[9,10,11,12,19,20,21,22,23,24,25,26,27,28,29,30,31,32,33,34,35,36,37,38,39,40,41,42,43,44,45,46,47,48,49,50,51,52,53,54,55,56,57,58,59,60,61,62,63,64,65,66,67,68,69,70,71,72,73,74,75,76,77,78,79,80,81,82,83,84,85,86,87,88,89],[],[0,2],5,[]⟩),(10,⟨⟨[(.int .i64)],[(9,.v 0)],[]⟩,[10,11,12,26,27,28,29,30,31,32,33,34,35,36,37,38,39,40,41,42,43,44,45,46,47,48,49,50,51,52,53,54,55,56,57,58,59,60,61,62,63,64,65,66,67,68,69,70,71,72,73,74,75,76],[],[0,2,3,4],5,[]⟩),(14,⟨⟨[.bool,(.int .i64)],[(11,.v 0),(12,.v 1)],[]⟩,[42,43,44,45,46,47,48,49,50,51,52,53,54,55,56,57,58,59,60,61,62,63,64,65,66,67,68,69,70,71,72,73],[],[0,2,3,4],5,[]⟩)],[(15,⟨⟨[.bool],[(11,.v 0)],[]⟩,[12,42,43,44,45,46,47,48,49,50,51,52,53,54,55,56,57,58,59,60,61,62,63,64,65,66,67,68,69,70,71,72,73],[],[0,2,3,4],5,[]⟩),(18,⟨⟨[(.int .i64)],[(9,.v 0)],[]⟩,[10,11,12,26,27,28,29,30,31,32,33,34,35,36,37,38,39,40,41,42,43,44,45,46,47,48,49,50,51,52,53,54,55,56,57,58,59,60,61,62,63,64,65,66,67,68,69,70,71,72,73,74,75,76],[],[0,2,3,4],5,[]⟩),(21,⟨⟨[(.int .i64),(.list (.int .i64))],[(6,.v 0),(7,.own 5)],[(5,.arr 3 1)]⟩,[77,78,79,80,81,82,83,84,85],[4],[0,2,3],6,[]⟩)],[(12,[(0,0),(0,1),(0,2),(0,3),(0,4),(0,5),(0,6),(0,7),(0,8),(0,9)]),(16,[(0,0),(0,1),(0,2),(0,3),(0,4),(0,5),(0,6),(0,7),(0,8),(0,9),(0,10),(0,11),(0,12),(0,13),(0,14),(0,15),(0,16),(0,17),(0,18),(0,19),(0,20),(0,21),(0,22),(0,23)])],[]⟩ Try.func47 rfl Try.ntmps47 (rs:=[.tmp 2]) rfl (sig:=zme) (out:=zmd) rfl Try.call47 (fun X=>by kernel_rfl)

def zpd:Shape:=⟨[(.pair (.int .i64) (.pair (.int .i64) (.pair (.list (.list (.int .i64))) Tc3)))],[(0,.v 0)],[]⟩
def zpc:Shape:=⟨[(.pair (.int .i64) (.pair (.int .i64) (.pair (.list (.list (.int .i64))) Tc3)))],[(0,.v 0)],[]⟩
def zq3:CE:=⟨39,zpd,zpc,fun X=>zlB X⟩
theorem zvo:CE.ok Try.prog zq3:=CE.of (Γ:=[znK]) (by kernel_rfl) zcb (GOK.cons ztq (GOK.nil)) ⟨[(4,⟨⟨[(.int .i64),(.list (.int .i64))],[(4,.own 3),(5,.v 0)],[(3,.arr 3 1)]⟩,[16,17,18,19,20,21,22,23,24,25],[],[0,1,2],4,[]⟩),(11,⟨⟨[(.int .i64),(.list (.int .i64)),(.list (.int .i64)),(.int .i64),(.int .i64),(.list (.list (.int .i64))),(.list (.int .i64))],[(4,.own 3),(6,.own 4),(7,.ptr 5 0),(8,.v 0)],[(3,.arr 3 1),(4,.arr 3 2),(5,.box 25 [.v 3,.v 4,.own 6,.own 7]),(6,.arr 22 5),(7,.arr 3 6)]⟩,[9,10,11,18,26,32,35,39,40,41,42,43,44,45,46,47,48,49,50,51,52,53,54,55,56,57,58,59,60,61,62,63,64,65,66,67,68,69,70,71,72,73,74,75,76,77,78,79,80,81,82,83,84,85,86,87,88,89,90,91,92,93,94,95,96,97,98,99,100,101,102,103,104,105,106,107,108,109,110,111,112,113],[],[0,1,2],8,[(5,2,some 22,(.list (.int .i64))),(5,3,some 3,(.int .i64))]⟩),(15,⟨⟨[(.int .i64),(.list (.int .i64)),(.list (.int .i64)),(.list (.int .i64))],[(4,.own 3),(6,.own 4),(9,.own 8),(10,.v 0)],[(3,.arr 3 1),(4,.arr 3 2),(8,.arr 3 3)]⟩,[11,40,47,48,49,50,51,52,53,54,55,56,57,58,59,60,61,62,63,64,65,66,67,68,69,70,71,72,73,74,75,76,77,78,79,80,81,82,83,84,85,86,87,88,89,90,91,92,93,94],[],[0,1,2,5,6,7],9,[]⟩)],[(20,⟨⟨[(.list (.int .i64)),(.list (.int .i64))],[(4,.own 3),(6,.own 9)],[(3,.arr 3 0),(9,.arr 3 1)]⟩,[56,58,65,66,67,68,69,70,71,72,73,74,75,76,77,78,79,80,81,82,83,84],[4],[0,1,2,5,6,7,8],10,[]⟩)],[(17,[(0,0),(0,1),(0,2),(0,3),(0,4),(0,5),(0,6),(0,7),(0,8),(0,9),(0,10),(0,11)]),(23,[(0,0),(0,1),(0,2),(0,3),(0,4),(0,5),(0,6),(0,7),(0,8),(0,9),(1,10),(2,11),(0,12),(2,13)])],[]⟩ Try.func39 rfl Try.ntmps39 (rs:=[.cell 2 25]) rfl (sig:=zpd) (out:=zpc) rfl Try.call39 (fun X=>by kernel_rfl)

def zo5:Shape:=⟨[(.pair (.int .i64) (.pair (.int .i64) (.pair (.list (.int .i64)) (.pair (.list (.pair (.int .i64) (.pair (.int .i64) (.pair (.int .i64) .unit)))) Tc3))))],[(0,.v 0)],[]⟩
def zo4:Shape:=⟨[(.pair (.int .i64) (.pair (.int .i64) (.pair (.list (.list (.int .i64))) Tc3)))],[(0,.v 0)],[]⟩
def zqR:CE:=⟨24,zo5,zo4,fun X=>zpO X⟩
theorem zvk:CE.ok Try.prog zqR:=CE.of (Γ:=[zq3]) (by kernel_rfl) zcb (GOK.cons zvo (GOK.nil)) ⟨[(4,⟨⟨[(.int .i64),(.list (.int .i64))],[(4,.own 2),(5,.v 0)],[(2,.arr 3 1)]⟩,[19,20,21,22,23,24,25,26,27,28],[],[0,1],3,[]⟩),(11,⟨⟨[(.int .i64),(.int .i64)],[(6,.v 0),(7,.v 1)],[]⟩,[42,43,44,45,46,47,48,49,50,51,52,53,54,55,56],[],[0,1,2,3,4],5,[]⟩),(16,⟨⟨[(.int .i64),(.list (.int .i64)),(.list (.int .i64)),(.int .i64),(.int .i64),(.list (.list (.int .i64))),(.list (.int .i64))],[(3,.own 4),(4,.own 2),(8,.ptr 5 0),(9,.v 0)],[(4,.arr 3 1),(2,.arr 3 2),(5,.box 25 [.v 3,.v 4,.own 6,.own 7]),(6,.arr 22 5),(7,.arr 3 6)]⟩,[10,11,12,13,14,15,21,36,37,38,39,41,60,61,62,63,64,65,66,67,68,69,70,71,72,73,74,75,76,77,78,79,80,81,82,83,84,85,86,87,88,89,90,91,92,93,94,95,96,97,98,99,100,101,102,103,104,105,106,107,108,109,110,111,112,113,114,115,116,117,118,119,120,121,122,123,124,125,126,127,128,129,130,131,132,133,134,135,136,137,138,139,140,141,142,143],[],[0,1,3],8,[(5,2,some 22,(.list (.int .i64))),(5,3,some 3,(.int .i64))]⟩),(20,⟨⟨[(.int .i64),(.list (.int .i64)),(.list (.int .i64)),(.list (.int .i64))],[(3,.own 4),(4,.own 2),(10,.own 8),(11,.v 0)],[(4,.arr 3 1),(2,.arr 3 2),(8,.arr 3 3)]⟩,[12,13,14,61,66,67,68,69,70,71,72,73,74,75,76,77,78,79,80,81,82,83,84,85,86,87,88,89,90,91,92,93,94,95,96,97,98,99,100,101,102,103,104,105,106,107,108,109,110,111,112,113,114,115,116,117,118,119,120,121,122,123,124],[],[0,1,3,5,6,7],9,[]⟩),(24,⟨⟨[(.int .i64),(.int .i64)],[(12,.v 0),(13,.v 1)],[]⟩,[14,72,73,74,75,76,77,78,79,80,81,82,83,84,85,86,87,88,89,90,91,92,93,94,95,96,97,98,99,100,101,102,103],[],[0,1,2,3,4,5,6,7,8],9,[]⟩)],[(27,⟨⟨[.bool],[(98,.v 0)],[]⟩,[84,85,86,87,88,89,90,91,92,93,94,95,96,97],[],[0,1,2,3,4,5,6,7,8,9],10,[]⟩),(31,⟨⟨[(.list (.int .i64)),(.list (.int .i64))],[(3,.own 9),(4,.own 2)],[(9,.arr 3 0),(2,.arr 3 1)]⟩,[104,105,106,107,108,109,110,111,112,113,114,115,116,117],[4],[0,1,3,5,6,7,8],10,[]⟩),(35,⟨⟨[(.int .i64)],[(15,.v 0)],[]⟩,[125,126,127,128,129,130,131],[],[0,1,2,3,4,5,6,7,8],9,[]⟩)],[(27,[(0,0),(0,1),(0,2),(0,3),(0,4),(0,5),(0,6),(0,7),(0,8),(0,9),(0,10),(0,11),(0,12),(0,13),(0,14)])],[]⟩ Try.func24 rfl Try.ntmps24 (rs:=[.cell 2 25]) rfl (sig:=zo5) (out:=zo4) rfl Try.call24 (fun X=>by kernel_rfl)

def zqJ:Shape:=⟨[(.int .i64),(.list (.pair (.int .i64) (.pair (.int .i64) Tc3)))],[(0,.v 0),(1,.v 1)],[]⟩
def zqI:Shape:=⟨[(.pair (.int .i64) (.pair (.int .i64) (.pair (.list (.list (.int .i64))) Tc3))),(.int .i64)],[(0,.v 0),(1,.v 1)],[]⟩
def zr5:CE:=⟨7,zqJ,zqI,fun X=>zh4 X.1 X.2⟩
theorem zwW:CE.ok Try.prog zr5:=CE.of (Γ:=[znv,znr,zqR]) (by kernel_rfl) zcb (GOK.cons ztl (GOK.cons ztk (GOK.cons zvk (GOK.nil)))) ⟨[],[],[],[]⟩ Try.func7 rfl Try.ntmps7 (rs:=[.cell 4 25,.tmp 5]) rfl (sig:=zqJ) (out:=zqI) rfl Try.call7 (fun X=>by kernel_rfl)

def zq7:Shape:=⟨[(.pair (.int .i64) (.pair (.int .i64) (.pair (.list (.list (.int .i64))) Tc3))),(.pair (.int .i64) (.pair (.int .i64) (.pair (.list (.list (.int .i64))) Tc3)))],[(0,.v 0),(1,.v 1)],[]⟩
def zq6:Shape:=⟨[.bool],[(0,.v 0)],[]⟩
def zsb:CE:=⟨8,zq7,zq6,fun X=>ztr X.1 X.2⟩
theorem zw1:CE.ok Try.prog zsb:=CE.of (Γ:=[]) (by kernel_rfl) zcb (GOK.nil) ⟨[(4,⟨⟨[(.int .i64)],[(5,.v 0)],[]⟩,[4,38,39,40,41,42,43,44,45,46,47,48,49,50,51,52,53,54,55],[],[0,1],2,[]⟩),(9,⟨⟨[(.int .i64)],[(6,.v 0)],[]⟩,[4,7,56,57,58,59,60,61,62,63,64,65,66,67,68,69,70,71,72,73,74,75,76,77,78,79,80,81,82,83,84,85,86,87,88,89,90,91,92,93,94,95,96,97,98,99,100,101,102],[],[0,1],2,[]⟩),(14,⟨⟨[(.int .i64)],[(7,.v 0)],[]⟩,[4,76,77,78,79,80,81,82,83,84,85,86,87,88,89,90,91,92,93,94,95,96,97,98,99,100,101,102],[],[0,1],2,[]⟩)],[],[(6,[(0,0),(0,1),(0,2),(0,3),(0,4),(0,5),(0,6),(0,7),(0,8),(0,9),(0,10)]),(11,[(0,0),(0,1),(0,2),(0,3),(0,4),(0,5),(0,6),(0,7),(0,8),(0,9),(0,10),(0,11),(0,12)]),(16,[(0,0),(0,1),(0,2),(0,3),(0,4),(0,5),(0,6),(0,7),(0,8),(0,9),(0,10),(0,11),(0,12),(0,13),(0,14),(0,15),(0,16)])],[]⟩ Try.func8 rfl Try.ntmps8 (rs:=[.tmp 4]) rfl (sig:=zq7) (out:=zq6) rfl Try.call8 (fun X=>by kernel_rfl)

def zr7:Shape:=⟨[(.int .i64),(.list (.int .i64))],[(0,.v 0),(1,.v 1)],[]⟩
def zr6:Shape:=⟨[(.int .i64)],[(0,.v 0)],[]⟩
def zuk:CE:=⟨9,zr7,zr6,fun X=>zwb X.1 X.2⟩
theorem zyL:CE.ok Try.prog zuk:=CE.of (Γ:=[]) (by kernel_rfl) zcb (GOK.nil) ⟨[(6,⟨⟨[(.int .i64)],[(5,.v 0)],[]⟩,[4,15,16,17,18,19,20,21,22,23,24,25,26,27,28,29,30,31,32,33],[],[],0,[]⟩)],[],[],[]⟩ Try.func9 rfl Try.ntmps9 (rs:=[.tmp 4]) rfl (sig:=zr7) (out:=zr6) rfl Try.call9 (fun X=>by kernel_rfl)

def zpb:Shape:=⟨[(.pair (.int .i64) (.pair (.int .i64) (.pair (.list (.list (.int .i64))) Tc3))),(.int .i64),(.list (.int .i64))],[(0,.v 0),(1,.v 1),(2,.v 2)],[]⟩
def zpa:Shape:=⟨[(.int .i64)],[(0,.v 0)],[]⟩
def zqX:CE:=⟨25,zpb,zpa,fun X=>zto X.1 X.2.1 X.2.2⟩
theorem zvn:CE.ok Try.prog zqX:=CE.of (Γ:=[]) (by kernel_rfl) zcb (GOK.nil) ⟨[(2,⟨⟨[(.int .i64),(.int .i64)],[(1,.v 0),(7,.v 1)],[]⟩,[8,9,10,11,12,13,14,15,16,17,18,19,20,21,22,23,24],[],[0],1,[]⟩)],[],[(4,[(0,0),(0,1),(0,2),(0,3),(0,4),(0,5),(0,6),(0,7),(0,8),(0,9),(0,10),(0,11)])],[]⟩ Try.func25 rfl Try.ntmps25 (rs:=[.tmp 6]) rfl (sig:=zpb) (out:=zpa) rfl Try.call25 (fun X=>by kernel_rfl)

def zmb:Shape:=⟨[(.pair (.int .i64) (.pair (.int .i64) (.pair (.list (.list (.int .i64))) Tc3))),(.list (.int .i64))],[(0,.v 0),(1,.v 1)],[]⟩
def zma:Shape:=⟨[.bool],[(0,.v 0)],[]⟩
def znH:CE:=⟨10,zmb,zma,fun X=>zlz X.1 X.2⟩
theorem ztn:CE.ok Try.prog znH:=CE.of (Γ:=[zqX]) (by kernel_rfl) zcb (GOK.cons zvn (GOK.nil)) ⟨[],[],[],[]⟩ Try.func10 rfl Try.ntmps10 (rs:=[.tmp 4]) rfl (sig:=zmb) (out:=zma) rfl Try.call10 (fun X=>by kernel_rfl)

def zqW:Shape:=⟨[(.list (.pair (.int .i64) (.pair (.int .i64) Tc3))),(.int .i64),(.list (.int .i64)),(.list .bool)],[(0,.v 0),(1,.v 1),(2,.v 2),(3,.v 3)],[]⟩
def zqV:Shape:=⟨[(.list .bool)],[(0,.own 0)],[(0,.arr 4 0)]⟩
def zsa:CE:=⟨26,zqW,zqV,LFix znA⟩
theorem zw0:CE.ok Try.prog zsa:=CE.ofRec (Γ:=[]) (by kernel_rfl) zcb (GOK.nil) ⟨[(8,⟨⟨[(.int .i64),(.list .bool)],[(10,.own 1),(11,.v 0)],[(1,.arr 4 1)]⟩,[25,35,36,37,38,39,40,41,42,43,44,45,46,47,48,49,50,51,52,53,54,55,56,57],[],[0],2,[]⟩),(13,⟨⟨[(.int .i64),(.list .bool)],[(10,.own 1),(12,.v 0)],[(1,.arr 4 1)]⟩,[13,14,25,60,61,62,63,64,65,66,67,68,69,70,71,72,73,74,75,76,77,78,79,80,81,82,83,84,85,86,87,88,89,90,91,92,93,94],[],[0],2,[]⟩),(17,⟨⟨[(.int .i64),(.list .bool)],[(10,.own 1),(14,.v 0)],[(1,.arr 4 1)]⟩,[76,77,78,79,80,81,82,83,84,85,86,87,88,89,90,91,92,93,94],[],[0,2],3,[]⟩),(23,⟨⟨[(.int .i64),(.list .bool)],[(10,.own 1),(15,.v 0)],[(1,.arr 4 1)]⟩,[25,97,100,101,102,103,104,105,106,107,108,109,110,111,112,113,114,115],[],[0],2,[]⟩),(29,⟨⟨[.bool,(.list .bool)],[(10,.own 1),(16,.v 0)],[(1,.arr 4 1)]⟩,[17,18,25,118,121,122,123,124,125,126,127,128,129,130,131,132,133,134,135,136,137,138,139,140,141,142,143,144,145,146,147,148,149,150,151,152,153,154,155,156,157,158,159,160,161,162],[],[0],2,[]⟩),(33,⟨⟨[.bool,(.int .i64),(.list .bool)],[(10,.own 1),(16,.v 0),(18,.v 1)],[(1,.arr 4 2)]⟩,[128,130,131,132,133,134,135,136,137,138,139,140,141,142,143,144,145,146,147,148,149,150,151,152,153,154,155,156,157,158,159,160,161,162],[],[0,2],3,[]⟩)],[(34,⟨⟨[(.list .bool)],[(10,.own 1)],[(1,.arr 4 0)]⟩,[11,12,13,14,15,16,17,18,25,26,27,28,29,30,31,32,33,34,35,36,37,38,39,40,41,42,43,44,45,46,47,48,49,50,51,52,53,54,55,56,57,58,59,60,61,62,63,64,65,66,67,68,69,70,71,72,73,74,75,76,77,78,79,80,81,82,83,84,85,86,87,88,89,90,91,92,93,94,95,96,97,98,99,100,101,102,103,104,105,106,107,108,109,110,111,112,113,114,115,116,117,118,119,120,121,122,123,124,125,126,127,128,129,130,131,132,133,134,135,136,137,138,139,140,141,142,143,144,145,146,147,148,149,150,151,152,153,154,155,156,157,158,159,160,161,162],[],[0],2,[]⟩),(35,⟨⟨[.bool],[(16,.v 0)],[]⟩,[136,137,138,139,140,141,142,143,144,145,146,147,148,149],[],[0,1,2],3,[]⟩)],[(10,[(0,0),(0,1),(0,2),(0,3),(0,4),(0,5),(0,6),(0,7),(0,8),(0,9),(0,10),(0,11),(0,12),(0,13),(0,14),(0,15),(0,16),(2,17)])],[]⟩ Try.func26 rfl Try.ntmps26 (rs:=[.tmp 8]) rfl (sig:=zqW) (out:=zqV) rfl Try.call26 (d:=znA) (fun rc X=>by kernel_rfl)

def zr9:Shape:=⟨[(.list (.pair (.int .i64) (.pair (.int .i64) Tc3))),(.list (.int .i64))],[(0,.v 0),(1,.v 1)],[]⟩
def zr8:Shape:=⟨[.bool],[(0,.v 0)],[]⟩
def zul:CE:=⟨11,zr9,zr8,fun X=>zwc X.1 X.2⟩
theorem zyM:CE.ok Try.prog zul:=CE.of (Γ:=[zsa]) (by kernel_rfl) zcb (GOK.cons zw0 (GOK.nil)) ⟨[],[],[],[]⟩ Try.func11 rfl Try.ntmps11 (rs:=[.tmp 4]) rfl (sig:=zr9) (out:=zr8) rfl Try.call11 (fun X=>by kernel_rfl)

def zhE:Shape:=⟨[(.int .i64),.str,(.list (.int .i64))],[(0,.v 0),(1,.v 1),(2,.v 2)],[]⟩
def zhD:Shape:=⟨[.bool],[(0,.v 0)],[]⟩
def zfu:CE:=⟨3,zhE,zhD,fun X=>zcJ X.1 X.2.1 X.2.2⟩
theorem zoh:CE.ok Try.prog zfu:=CE.of (Γ:=[zmj,zoZ,zqT,zr5,zsb,zuk,znH,zul]) (by kernel_rfl) zcb (GOK.cons zrH (GOK.cons zt9 (GOK.cons zvm (GOK.cons zwW (GOK.cons zw1 (GOK.cons zyL (GOK.cons ztn (GOK.cons zyM (GOK.nil))))))))) ⟨[],[],[],[]⟩ Try.func3 rfl Try.ntmps3 (rs:=[.tmp 6]) rfl (sig:=zhE) (out:=zhD) rfl Try.call3 (fun X=>by kernel_rfl)

end
end Go.Proofs.Ytheahfijmfffcaa.regularDetW
