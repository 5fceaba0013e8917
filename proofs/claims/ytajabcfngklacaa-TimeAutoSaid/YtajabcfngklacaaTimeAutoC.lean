import Derived.Test.YtajabcfngklacaaTimeAutoD
import Derived.Test.YtajabcfngklacaaProg
import Derived.KernelRfl
set_option maxHeartbeats 1000000
set_option maxRecDepth 20000
set_option linter.unusedSimpArgs false
set_option linter.unusedVariables false
namespace Go.Proofs.Ytajabcfngklacaa.timeAutoW
open Go Go.Ab
noncomputable section
theorem zBU:SzT Try.prog 3 ((.int .i64)):=SzT.ofTI (dsc:=false) (size:=1) (bytes:=8) (z := .int .i64 0) (TI.of Try.underlying3 rfl (by kernel_rfl)) rfl rfl
theorem zEn:SzT Try.prog 53 ((.pair (.int .i64) (.pair (.int .i64) (.pair (.int .i64) .unit)))):=SzT.ofTI (dsc:=true) (size:=3) (bytes:=24) (z := .agg ⟨[.int .i64 0,.int .i64 0,.int .i64 0]⟩) (TI.of Try.underlying53 rfl (by kernel_rfl)) rfl rfl
def te3:TE:=⟨3,.int .i64,false,1,8,.int .i64 0,some (.int .i64)⟩
theorem zFn:TEok Try.prog te3:=⟨TI.of Try.underlying3 rfl (by kernel_rfl),Try.underlying3,fun t h=>by cases h;exact ⟨rfl,rfl,by decide,rfl⟩⟩
def te4:TE:=⟨4,.bool,false,1,1,.bool false,some .bool⟩
theorem zFo:TEok Try.prog te4:=⟨TI.of Try.underlying4 rfl (by kernel_rfl),Try.underlying4,fun t h=>by cases h;exact ⟨rfl,rfl,by decide,rfl⟩⟩
def te5:TE:=⟨5,.int .u8,false,1,1,.int .u8 0,some (.int .u8)⟩
theorem zFp:TEok Try.prog te5:=⟨TI.of Try.underlying5 rfl (by kernel_rfl),Try.underlying5,fun t h=>by cases h;exact ⟨rfl,rfl,by decide,rfl⟩⟩
def te9:TE:=⟨9,.str,false,1,16,.string ⟨⟨[]⟩⟩,some .str⟩
theorem zFq:TEok Try.prog te9:=⟨TI.of Try.underlying9 rfl (by kernel_rfl),Try.underlying9,fun t h=>by cases h;exact ⟨rfl,rfl,by decide,rfl⟩⟩
def te22:TE:=⟨22,.slice 3,false,1,24,.slice none 0 0,some (.list (.int .i64))⟩
theorem zEb:TEok Try.prog te22:=⟨TI.of Try.underlying22 rfl (by kernel_rfl),Try.underlying22,fun t h=>by cases h;exact ⟨rfl,rfl,by decide,rfl⟩⟩
def te24:TE:=⟨24,.struct [(0,22),(1,22)] none,true,2,48,.agg ⟨[.slice none 0 0,.slice none 0 0]⟩,some (.pair (.list (.int .i64)) (.pair (.list (.int .i64)) .unit))⟩
theorem zEc:TEok Try.prog te24:=⟨TI.of Try.underlying24 rfl (by kernel_rfl),⟨⟨_,Try.underlying24,rfl⟩,fun t h=>by cases h⟩,fun t h=>by cases h;exact ⟨rfl,rfl,by decide,rfl⟩⟩
def te25:TE:=⟨25,.slice 53,false,1,24,.slice none 0 0,some (.list (.pair (.int .i64) (.pair (.int .i64) (.pair (.int .i64) .unit))))⟩
theorem zEd:TEok Try.prog te25:=⟨TI.of Try.underlying25 rfl (by kernel_rfl),Try.underlying25,fun t h=>by cases h;exact ⟨rfl,rfl,by decide,rfl⟩⟩
def te27:TE:=⟨27,.struct [(0,3),(1,3),(2,22),(3,25),(4,22)] none,true,5,88,.agg ⟨[.int .i64 0,.int .i64 0,.slice none 0 0,.slice none 0 0,.slice none 0 0]⟩,some (.pair (.int .i64) (.pair (.int .i64) (.pair (.list (.int .i64)) (.pair (.list (.pair (.int .i64) (.pair (.int .i64) (.pair (.int .i64) .unit)))) (.pair (.list (.int .i64)) .unit)))))⟩
theorem zEe:TEok Try.prog te27:=⟨TI.of Try.underlying27 rfl (by kernel_rfl),⟨⟨_,Try.underlying27,rfl⟩,fun t h=>by cases h⟩,fun t h=>by cases h;exact ⟨rfl,rfl,by decide,rfl⟩⟩
def te28:TE:=⟨28,.int .i64,false,1,8,.int .i64 0,some (.int .i64)⟩
theorem zEf:TEok Try.prog te28:=⟨TI.of Try.underlying28 rfl (by kernel_rfl),Try.underlying28,fun t h=>by cases h;exact ⟨rfl,rfl,by decide,rfl⟩⟩
def te31:TE:=⟨31,.slice 83,false,1,24,.slice none 0 0,some (.list (.pair (.int .u8) (.pair (.int .i64) (.pair (.int .i64) .unit))))⟩
theorem zEg:TEok Try.prog te31:=⟨TI.of Try.underlying31 rfl (by kernel_rfl),Try.underlying31,fun t h=>by cases h;exact ⟨rfl,rfl,by decide,rfl⟩⟩
def te33:TE:=⟨33,.struct [(0,28),(1,3)] none,true,2,16,.agg ⟨[.int .i64 0,.int .i64 0]⟩,some (.pair (.int .i64) (.pair (.int .i64) .unit))⟩
theorem zEh:TEok Try.prog te33:=⟨TI.of Try.underlying33 rfl (by kernel_rfl),⟨⟨_,Try.underlying33,rfl⟩,fun t h=>by cases h⟩,fun t h=>by cases h;exact ⟨rfl,rfl,by decide,rfl⟩⟩
def te42:TE:=⟨42,.slice 49,false,1,24,.slice none 0 0,some (.list (.pair (.int .i64) (.pair (.int .i64) (.pair (.int .i64) .unit))))⟩
theorem zEi:TEok Try.prog te42:=⟨TI.of Try.underlying42 rfl (by kernel_rfl),Try.underlying42,fun t h=>by cases h;exact ⟨rfl,rfl,by decide,rfl⟩⟩
def te47:TE:=⟨47,.struct [(0,42),(1,22)] none,true,2,48,.agg ⟨[.slice none 0 0,.slice none 0 0]⟩,some (.pair (.list (.pair (.int .i64) (.pair (.int .i64) (.pair (.int .i64) .unit)))) (.pair (.list (.int .i64)) .unit))⟩
theorem zEj:TEok Try.prog te47:=⟨TI.of Try.underlying47 rfl (by kernel_rfl),⟨⟨_,Try.underlying47,rfl⟩,fun t h=>by cases h⟩,fun t h=>by cases h;exact ⟨rfl,rfl,by decide,rfl⟩⟩
def te49:TE:=⟨49,.struct [(0,3),(1,3),(2,3)] none,true,3,24,.agg ⟨[.int .i64 0,.int .i64 0,.int .i64 0]⟩,some (.pair (.int .i64) (.pair (.int .i64) (.pair (.int .i64) .unit)))⟩
theorem zEk:TEok Try.prog te49:=⟨TI.of Try.underlying49 rfl (by kernel_rfl),⟨⟨_,Try.underlying49,rfl⟩,fun t h=>by cases h⟩,fun t h=>by cases h;exact ⟨rfl,rfl,by decide,rfl⟩⟩
def te50:TE:=⟨50,.slice 4,false,1,24,.slice none 0 0,some (.list .bool)⟩
theorem zEl:TEok Try.prog te50:=⟨TI.of Try.underlying50 rfl (by kernel_rfl),Try.underlying50,fun t h=>by cases h;exact ⟨rfl,rfl,by decide,rfl⟩⟩
def te53:TE:=⟨53,.struct [(0,3),(1,3),(2,3)] (some (.pair (.int .i64) (.pair (.int .i64) (.pair (.int .i64) .unit)))),true,3,24,.agg ⟨[.int .i64 0,.int .i64 0,.int .i64 0]⟩,some (.pair (.int .i64) (.pair (.int .i64) (.pair (.int .i64) .unit)))⟩
theorem zEm:TEok Try.prog te53:=⟨TI.of Try.underlying53 rfl (by kernel_rfl),⟨⟨_,Try.underlying53,rfl⟩,fun t h=>by cases h;exact ⟨rfl,rfl,(KeyT.struct zEn Try.underlying53 (by kernel_rfl) (KFs.cons (by decide) rfl (KeyT.int zBU Try.underlying3) (KFs.cons (by decide) rfl (KeyT.int zBU Try.underlying3) (KFs.cons (by decide) rfl (KeyT.int zBU Try.underlying3) KFs.nil)))),by kernel_rfl⟩⟩,fun t h=>by cases h;exact ⟨rfl,rfl,by decide,rfl⟩⟩
def te58:TE:=⟨58,.struct [(0,9),(1,3),(2,3),(3,3),(4,3),(5,31),(6,33)] none,true,8,88,.agg ⟨[.string ⟨⟨[]⟩⟩,.int .i64 0,.int .i64 0,.int .i64 0,.int .i64 0,.slice none 0 0,.int .i64 0,.int .i64 0]⟩,some (.pair .str (.pair (.int .i64) (.pair (.int .i64) (.pair (.int .i64) (.pair (.int .i64) (.pair (.list (.pair (.int .u8) (.pair (.int .i64) (.pair (.int .i64) .unit)))) (.pair (.pair (.int .i64) (.pair (.int .i64) .unit)) .unit)))))))⟩
theorem zEo:TEok Try.prog te58:=⟨TI.of Try.underlying58 rfl (by kernel_rfl),⟨⟨_,Try.underlying58,rfl⟩,fun t h=>by cases h⟩,fun t h=>by cases h;exact ⟨rfl,rfl,by decide,rfl⟩⟩
def te63:TE:=⟨63,.slice 50,false,1,24,.slice none 0 0,some (.list (.list .bool))⟩
theorem zEp:TEok Try.prog te63:=⟨TI.of Try.underlying63 rfl (by kernel_rfl),Try.underlying63,fun t h=>by cases h;exact ⟨rfl,rfl,by decide,rfl⟩⟩
def te68:TE:=⟨68,.struct [(0,33)] none,true,2,16,.agg ⟨[.int .i64 0,.int .i64 0]⟩,some (.pair (.pair (.int .i64) (.pair (.int .i64) .unit)) .unit)⟩
theorem zEq:TEok Try.prog te68:=⟨TI.of Try.underlying68 rfl (by kernel_rfl),⟨⟨_,Try.underlying68,rfl⟩,fun t h=>by cases h⟩,fun t h=>by cases h;exact ⟨rfl,rfl,by decide,rfl⟩⟩
def te71:TE:=⟨71,.struct [(0,9),(1,3),(2,3),(3,3),(4,3),(5,42)] none,true,6,72,.agg ⟨[.string ⟨⟨[]⟩⟩,.int .i64 0,.int .i64 0,.int .i64 0,.int .i64 0,.slice none 0 0]⟩,some (.pair .str (.pair (.int .i64) (.pair (.int .i64) (.pair (.int .i64) (.pair (.int .i64) (.pair (.list (.pair (.int .i64) (.pair (.int .i64) (.pair (.int .i64) .unit)))) .unit))))))⟩
theorem zEr:TEok Try.prog te71:=⟨TI.of Try.underlying71 rfl (by kernel_rfl),⟨⟨_,Try.underlying71,rfl⟩,fun t h=>by cases h⟩,fun t h=>by cases h;exact ⟨rfl,rfl,by decide,rfl⟩⟩
def te83:TE:=⟨83,.struct [(0,5),(1,3),(2,3)] none,true,3,24,.agg ⟨[.int .u8 0,.int .i64 0,.int .i64 0]⟩,some (.pair (.int .u8) (.pair (.int .i64) (.pair (.int .i64) .unit)))⟩
theorem zEs:TEok Try.prog te83:=⟨TI.of Try.underlying83 rfl (by kernel_rfl),⟨⟨_,Try.underlying83,rfl⟩,fun t h=>by cases h⟩,fun t h=>by cases h;exact ⟨rfl,rfl,by decide,rfl⟩⟩
def te88:TE:=⟨88,.int .u64,false,1,8,.int .u64 0,some (.int .u64)⟩
theorem zEt:TEok Try.prog te88:=⟨TI.of Try.underlying88 rfl (by kernel_rfl),Try.underlying88,fun t h=>by cases h;exact ⟨rfl,rfl,by decide,rfl⟩⟩
def te94:TE:=⟨94,.int .i64,false,1,8,.int .i64 0,some (.int .i64)⟩
theorem zEu:TEok Try.prog te94:=⟨TI.of Try.underlying94 rfl (by kernel_rfl),Try.underlying94,fun t h=>by cases h;exact ⟨rfl,rfl,by decide,rfl⟩⟩
def zFl:TE:=⟨105,.int .u64,false,1,8,.int .u64 0,some (.int .u64)⟩
theorem zCN:TEok Try.prog zFl:=⟨TI.of Try.underlying105 rfl (by kernel_rfl),Try.underlying105,fun t h=>by cases h;exact ⟨rfl,rfl,by decide,rfl⟩⟩
def zFm:TE:=⟨113,.int .u64,false,1,8,.int .u64 0,some (.int .u64)⟩
theorem zCO:TEok Try.prog zFm:=⟨TI.of Try.underlying113 rfl (by kernel_rfl),Try.underlying113,fun t h=>by cases h;exact ⟨rfl,rfl,by decide,rfl⟩⟩
def TT:List TE:=[te3,te4,te5,te9,te22,te24,te25,te27,te28,te31,te33,te42,te47,te49,te50,te53,te58,te63,te68,te71,te83,te88,te94,zFl,zFm]
theorem zb2:TOK Try.prog TT:=TOK.cons zFn (TOK.cons zFo (TOK.cons zFp (TOK.cons zFq (TOK.cons zEb (TOK.cons zEc (TOK.cons zEd (TOK.cons zEe (TOK.cons zEf (TOK.cons zEg (TOK.cons zEh (TOK.cons zEi (TOK.cons zEj (TOK.cons zEk (TOK.cons zEl (TOK.cons zEm (TOK.cons zEo (TOK.cons zEp (TOK.cons zEq (TOK.cons zEr (TOK.cons zEs (TOK.cons zEt (TOK.cons zEu (TOK.cons zCN (TOK.cons zCO (TOK.nil)))))))))))))))))))))))))

def zlp:Shape:=⟨[(.pair .str (.pair (.int .i64) (.pair (.int .i64) (.pair (.int .i64) (.pair (.int .i64) (.pair (.list (.pair (.int .i64) (.pair (.int .i64) (.pair (.int .i64) .unit)))) .unit))))))],[(0,.addr 0)],[]⟩
def zlo:Shape:=⟨[(.int .u8)],[(0,.v 0)],[]⟩
def zdL:CE:=⟨39,zlp,zlo,fun X=>zcQ X⟩
theorem zeV:CE.ok Try.prog zdL:=CE.of (Γ:=[]) (by kernel_rfl) zb2 (GOK.nil) ⟨[],[],[(1,[(0,0),(0,1),(0,2),(0,3),(0,4),(0,5),(0,6),(0,7),(0,8),(0,9)]),(3,[(0,0),(0,1),(0,2),(0,3),(0,4),(0,5),(0,6),(0,7),(0,8),(0,9)])],[]⟩ Try.func39 rfl Try.ntmps39 (rs:=[.tmp 2]) rfl (sig:=zlp) (out:=zlo) rfl Try.call39 (fun X=>by kernel_rfl)

def zoV:Shape:=⟨[(.int .u8)],[(0,.v 0)],[]⟩
def zoU:Shape:=⟨[.bool],[(0,.v 0)],[]⟩
def zpY:CE:=⟨49,zoV,zoU,fun X=>znv X⟩
theorem zu6:CE.ok Try.prog zpY:=CE.of (Γ:=[]) (by kernel_rfl) zb2 (GOK.nil) ⟨[],[],[],[]⟩ Try.func49 rfl Try.ntmps49 (rs:=[.tmp 2]) rfl (sig:=zoV) (out:=zoU) rfl Try.call49 (fun X=>by kernel_rfl)

def zkb:Shape:=⟨[(.pair .str (.pair (.int .i64) (.pair (.int .i64) (.pair (.int .i64) (.pair (.int .i64) (.pair (.list (.pair (.int .i64) (.pair (.int .i64) (.pair (.int .i64) .unit)))) .unit)))))),(.int .i64)],[(0,.addr 0),(1,.v 1)],[]⟩
def zka:Shape:=⟨[],[],[]⟩
def zfX:CEp:=⟨24,zkb,zka,fun X=>zdT X.1 X.2⟩
theorem zhW:CEp.ok Try.prog 68 zfX:=CEp.of (Γ:=[]) (Γp:=[]) (by kernel_rfl) zb2 (GOK.nil) (GPOK.nil) ⟨[],[],[(2000000,[(0,0),(0,1),(0,2),(0,3),(0,4),(0,5),(0,6),(6,7),(2,8)])],[]⟩ Try.func24 rfl Try.ntmps24 (rs:=[]) rfl (sig:=zkb) (out:=zka) rfl Try.call24 (fun X=>by kernel_rfl)

def ziQ:Shape:=⟨[.str,(.int .i64),(.int .i64),(.int .i64),(.int .i64),(.list (.pair (.int .i64) (.pair (.int .i64) (.pair (.int .i64) .unit))))],[(0,.ptr 100000 0)],[(100000,.box 71 [.v 0,.v 1,.v 2,.v 3,.v 4,.own 100001]),(100001,.arr 49 5)]⟩
def ziP:Shape:=⟨[.str,(.int .i64),(.int .i64),(.int .i64),(.int .i64),(.list (.pair (.int .i64) (.pair (.int .i64) (.pair (.int .i64) .unit))))],[],[(100000,.box 71 [.v 0,.v 1,.v 2,.v 3,.v 4,.own 100]),(100,.arr 49 5)]⟩
def zdd:CEp:=⟨40,ziQ,ziP,fun X=>zaG X.1 X.2.1 X.2.2.1 X.2.2.2.1 X.2.2.2.2.1 X.2.2.2.2.2⟩
theorem zeC:CEp.ok Try.prog 68 zdd:=CEp.of (Γ:=[zdL,zpY]) (Γp:=[zfX]) (by kernel_rfl) zb2 (GOK.cons zeV (GOK.cons zu6 (GOK.nil))) (GPOK.cons zhW (GPOK.nil)) ⟨[],[(3,⟨⟨[.str,(.int .i64),(.int .i64),(.int .i64),(.int .i64),(.list (.pair (.int .i64) (.pair (.int .i64) (.pair (.int .i64) .unit))))],[(0,.ptr 100000 0)],[(100000,.box 71 [.v 0,.v 1,.v 2,.v 3,.v 4,.own 100001]),(100001,.arr 49 5)]⟩,[13,14,15,16,17,18,19,20],[],[],0,[]⟩),(4,⟨⟨[.bool],[(35,.v 0)],[]⟩,[21,22,23,24,25,26,27,28,29,30,31,32,33,34],[],[],0,[]⟩)],[(2000005,[(0,0),(5,1)])],[]⟩ Try.func40 rfl Try.ntmps40 (rs:=[]) rfl (sig:=ziQ) (out:=ziP) rfl Try.call40 (fun X=>by kernel_rfl)

def zlv:Shape:=⟨[(.pair (.int .i64) (.pair (.int .i64) (.pair (.int .i64) .unit))),.str,(.int .i64),(.int .i64),(.int .i64),(.int .i64),(.list (.pair (.int .i64) (.pair (.int .i64) (.pair (.int .i64) .unit))))],[(0,.ptr 100000 0),(1,.v 0)],[(100000,.box 71 [.v 1,.v 2,.v 3,.v 4,.v 5,.own 100001]),(100001,.arr 49 6)]⟩
def zlu:Shape:=⟨[(.int .i64),.str,(.int .i64),(.int .i64),(.int .i64),(.int .i64),(.list (.pair (.int .i64) (.pair (.int .i64) (.pair (.int .i64) .unit))))],[(0,.v 0)],[(100000,.box 71 [.v 1,.v 2,.v 3,.v 4,.v 5,.own 100]),(100,.arr 49 6)]⟩
def zcR:CE:=⟨41,zlv,zlu,fun X=>zbq X.1 X.2.1 X.2.2.1 X.2.2.2.1 X.2.2.2.2.1 X.2.2.2.2.2.1 X.2.2.2.2.2.2⟩
theorem zdN:CE.ok Try.prog zcR:=CE.of (Γ:=[]) (by kernel_rfl) zb2 (GOK.nil) ⟨[],[],[(1,[(0,0),(0,1),(0,2),(0,3),(0,4),(0,5),(1,6),(2,7),(0,8),(0,9),(2,10)])],[]⟩ Try.func41 rfl Try.ntmps41 (rs:=[.tmp 4]) rfl (sig:=zlv) (out:=zlu) rfl Try.call41 (fun X=>by kernel_rfl)

def zl5:Shape:=⟨[(.int .i64),.str,(.int .i64),(.int .i64),(.int .i64),(.int .i64),(.list (.pair (.int .i64) (.pair (.int .i64) (.pair (.int .i64) .unit))))],[(0,.ptr 100000 0),(1,.v 0)],[(100000,.box 71 [.v 1,.v 2,.v 3,.v 4,.v 5,.own 100001]),(100001,.arr 49 6)]⟩
def zl4:Shape:=⟨[(.int .i64),.str,(.int .i64),(.int .i64),(.int .i64),(.int .i64),(.list (.pair (.int .i64) (.pair (.int .i64) (.pair (.int .i64) .unit))))],[(0,.v 0)],[(100000,.box 71 [.v 1,.v 2,.v 3,.v 4,.v 5,.own 100]),(100,.arr 49 6)]⟩
def zg5:CE:=⟨72,zl5,zl4,fun X=>zcE X.1 X.2.1 X.2.2.1 X.2.2.2.1 X.2.2.2.2.1 X.2.2.2.2.2.1 X.2.2.2.2.2.2⟩
theorem zjk:CE.ok Try.prog zg5:=CE.of (Γ:=[zcR]) (by kernel_rfl) zb2 (GOK.cons zdN (GOK.nil)) ⟨[],[],[],[]⟩ Try.func72 rfl Try.ntmps72 (rs:=[.tmp 4]) rfl (sig:=zl5) (out:=zl4) rfl Try.call72 (fun X=>by kernel_rfl)

def ziZ:Shape:=⟨[.str,(.int .i64),(.int .i64),(.int .i64),(.int .i64),(.list (.pair (.int .i64) (.pair (.int .i64) (.pair (.int .i64) .unit))))],[(0,.ptr 100000 0)],[(100000,.box 71 [.v 0,.v 1,.v 2,.v 3,.v 4,.own 100001]),(100001,.arr 49 5)]⟩
def ziY:Shape:=⟨[(.int .i64),.str,(.int .i64),(.int .i64),(.int .i64),(.int .i64),(.list (.pair (.int .i64) (.pair (.int .i64) (.pair (.int .i64) .unit))))],[(0,.v 0)],[(100000,.box 71 [.v 1,.v 2,.v 3,.v 4,.v 5,.own 100]),(100,.arr 49 6)]⟩
def zjL:CE:=⟨81,ziZ,ziY,fun X=>zdK X.1 X.2.1 X.2.2.1 X.2.2.2.1 X.2.2.2.2.1 X.2.2.2.2.2⟩
theorem zoY:CE.ok Try.prog zjL:=CE.of (Γ:=[zcR,zg5]) (by kernel_rfl) zb2 (GOK.cons zdN (GOK.cons zjk (GOK.nil))) ⟨[],[],[],[]⟩ Try.func81 rfl Try.ntmps81 (rs:=[.tmp 2]) rfl (sig:=ziZ) (out:=ziY) rfl Try.call81 (fun X=>by kernel_rfl)

def zaF:Shape:=⟨[.str,(.int .i64),(.int .i64),(.int .i64),(.int .i64),(.list (.pair (.int .i64) (.pair (.int .i64) (.pair (.int .i64) .unit))))],[(0,.ptr 100000 0)],[(100000,.box 71 [.v 0,.v 1,.v 2,.v 3,.v 4,.own 100001]),(100001,.arr 49 5)]⟩
def zaE:Shape:=⟨[(.int .i64),.str,(.int .i64),(.int .i64),(.int .i64),(.int .i64),(.list (.pair (.int .i64) (.pair (.int .i64) (.pair (.int .i64) .unit))))],[(0,.v 0)],[(100000,.box 71 [.v 1,.v 2,.v 3,.v 4,.v 5,.own 100]),(100,.arr 49 6)]⟩
def zi0:CEp:=⟨23,zaF,zaE,LFix zeU⟩
def zlr:Shape:=⟨[.str,(.int .i64),(.int .i64),(.int .i64),(.int .i64),(.list (.pair (.int .i64) (.pair (.int .i64) (.pair (.int .i64) .unit))))],[(0,.ptr 100000 0)],[(100000,.box 71 [.v 0,.v 1,.v 2,.v 3,.v 4,.own 100001]),(100001,.arr 49 5)]⟩
def zlq:Shape:=⟨[(.int .i64),.str,(.int .i64),(.int .i64),(.int .i64),(.int .i64),(.list (.pair (.int .i64) (.pair (.int .i64) (.pair (.int .i64) .unit))))],[(0,.v 0)],[(100000,.box 71 [.v 1,.v 2,.v 3,.v 4,.v 5,.own 100]),(100,.arr 49 6)]⟩
def zl6 (rec:Tup zaF.tys->Option (Tup zaE.tys⊕(Int×Int))):CEp:=⟨71,zlr,zlq,LFix (zg6 (fun c c_1 c_2 c_3 c_4 l=>rec (c,c_1,c_2,c_3,c_4,l)))⟩
theorem zri (rec:Tup zaF.tys->Option (Tup zaE.tys⊕(Int×Int))) (hrec:CEp.ok Try.prog 68 ⟨23,zaF,zaE,rec⟩):CEp.ok Try.prog 68 (zl6 rec):=CEp.ofRec (Γ:=[zg5,zcR,zjL,zdL]) (Γp:=fun _=>[zdd,⟨23,zaF,zaE,rec⟩,zfX]) (by kernel_rfl) zb2 (GOK.cons zjk (GOK.cons zdN (GOK.cons zoY (GOK.cons zeV (GOK.nil))))) ⟨[],[(19,⟨⟨[],[],[]⟩,[57,58,59,60,61,62,63],[],[],0,[]⟩),(24,⟨⟨[],[],[]⟩,[80,81,82,83,84],[],[100],101,[]⟩)],[(2000003,[(0,0),(5,1)]),(2000004,[(0,0),(0,1),(5,2),(2,3),(0,4)]),(2000006,[(0,0),(5,1)]),(2000007,[(0,0),(0,1),(5,2),(0,3),(2,4),(0,5)]),(2000009,[(0,0),(5,1)]),(2000011,[(0,0),(0,1),(0,2),(5,3),(0,4),(2,5),(0,6)]),(2000013,[(0,0),(5,1)]),(2000015,[(0,0),(0,1),(5,2),(2,3),(0,4)]),(2000019,[(0,0),(5,1)]),(2000022,[(0,0),(5,1),(0,2)]),(2000024,[(0,0),(5,1)]),(2000029,[(0,0),(5,1)]),(2000032,[(0,0),(5,1)]),(2000035,[(0,0),(5,1)]),(2000038,[(0,0),(5,1)]),(2000040,[(0,0),(5,1)])],[]⟩ Try.func71 rfl Try.ntmps71 (rs:=[.tmp 2]) rfl (sig:=zlr) (out:=zlq) rfl (fun _ _=>(GPOK.cons zeC (GPOK.cons hrec (GPOK.cons zhW (GPOK.nil))))) Try.call71 (d:=zg6 (fun c c_1 c_2 c_3 c_4 l=>rec (c,c_1,c_2,c_3,c_4,l))) (fun rc X=>by kernel_rfl)
def zke:Shape:=⟨[.str,(.int .i64),(.int .i64),(.int .i64),(.int .i64),(.list (.pair (.int .i64) (.pair (.int .i64) (.pair (.int .i64) .unit))))],[(0,.ptr 100000 0)],[(100000,.box 71 [.v 0,.v 1,.v 2,.v 3,.v 4,.own 100001]),(100001,.arr 49 5)]⟩
def zkd:Shape:=⟨[(.int .i64),.str,(.int .i64),(.int .i64),(.int .i64),(.int .i64),(.list (.pair (.int .i64) (.pair (.int .i64) (.pair (.int .i64) .unit))))],[(0,.v 0)],[(100000,.box 71 [.v 1,.v 2,.v 3,.v 4,.v 5,.own 100]),(100,.arr 49 6)]⟩
def zls (rec:Tup zaF.tys->Option (Tup zaE.tys⊕(Int×Int))):CEp:=⟨48,zke,zkd,LFix (zgA (fun c c_1 c_2 c_3 c_4 l=>rec (c,c_1,c_2,c_3,c_4,l)))⟩
theorem zqh (rec:Tup zaF.tys->Option (Tup zaE.tys⊕(Int×Int))) (hrec:CEp.ok Try.prog 68 ⟨23,zaF,zaE,rec⟩):CEp.ok Try.prog 68 (zls rec):=CEp.ofRec (Γ:=[zcR,zg5,zdL]) (Γp:=fun _=>[zl6 rec,zdd]) (by kernel_rfl) zb2 (GOK.cons zdN (GOK.cons zjk (GOK.cons zeV (GOK.nil)))) ⟨[],[],[(2000001,[(0,0),(5,1),(0,2)]),(2000004,[(0,0),(5,1)]),(2000005,[(0,0),(0,1),(0,2),(5,3),(0,4),(2,5),(0,6)]),(2000007,[(0,0),(5,1)]),(2000009,[(0,0),(0,1),(5,2),(2,3),(0,4)])],[]⟩ Try.func48 rfl Try.ntmps48 (rs:=[.tmp 2]) rfl (sig:=zke) (out:=zkd) rfl (fun _ _=>(GPOK.cons (zri rec hrec) (GPOK.cons zeC (GPOK.nil)))) Try.call48 (d:=zgA (fun c c_1 c_2 c_3 c_4 l=>rec (c,c_1,c_2,c_3,c_4,l))) (fun rc X=>by kernel_rfl)
def zkg:Shape:=⟨[.str,(.int .i64),(.int .i64),(.int .i64),(.int .i64),(.list (.pair (.int .i64) (.pair (.int .i64) (.pair (.int .i64) .unit))))],[(0,.ptr 100000 0)],[(100000,.box 71 [.v 0,.v 1,.v 2,.v 3,.v 4,.own 100001]),(100001,.arr 49 5)]⟩
def zkf:Shape:=⟨[(.int .i64),.str,(.int .i64),(.int .i64),(.int .i64),(.int .i64),(.list (.pair (.int .i64) (.pair (.int .i64) (.pair (.int .i64) .unit))))],[(0,.v 0)],[(100000,.box 71 [.v 1,.v 2,.v 3,.v 4,.v 5,.own 100]),(100,.arr 49 6)]⟩
def zlw (rec:Tup zaF.tys->Option (Tup zaE.tys⊕(Int×Int))):CEp:=⟨38,zkg,zkf,fun X=>zc0 (fun c c_1 c_2 c_3 c_4 l=>rec (c,c_1,c_2,c_3,c_4,l)) X.1 X.2.1 X.2.2.1 X.2.2.2.1 X.2.2.2.2.1 X.2.2.2.2.2⟩
theorem zqi (rec:Tup zaF.tys->Option (Tup zaE.tys⊕(Int×Int))) (hrec:CEp.ok Try.prog 68 ⟨23,zaF,zaE,rec⟩):CEp.ok Try.prog 68 (zlw rec):=CEp.of (Γ:=[zcR,zdL]) (Γp:=[zls rec,zdd]) (by kernel_rfl) zb2 (GOK.cons zdN (GOK.cons zeV (GOK.nil))) (GPOK.cons (zqh rec hrec) (GPOK.cons zeC (GPOK.nil))) ⟨[(2,⟨⟨[(.int .i64),.str,(.int .i64),(.int .i64),(.int .i64),(.int .i64),(.list (.pair (.int .i64) (.pair (.int .i64) (.pair (.int .i64) .unit))))],[(0,.ptr 100000 0),(3,.v 0)],[(100000,.box 71 [.v 1,.v 2,.v 3,.v 4,.v 5,.own 100]),(100,.arr 49 6)]⟩,[6,7,8,9,10,11,12,13,14,15,16],[],[],101,[]⟩)],[],[(2000001,[(0,0),(5,1),(0,2)]),(2000003,[(0,0),(5,1)]),(2000004,[(0,0),(0,1),(0,2),(5,3),(0,4),(2,5),(0,6)])],[]⟩ Try.func38 rfl Try.ntmps38 (rs:=[.tmp 2]) rfl (sig:=zkg) (out:=zkf) rfl Try.call38 (fun X=>by kernel_rfl)
theorem zn1:CEp.ok Try.prog 68 zi0:=CEp.ofRec (Γ:=[zcR,zdL]) (Γp:=fun rec=>[zlw rec,zdd]) (by kernel_rfl) zb2 (GOK.cons zdN (GOK.cons zeV (GOK.nil))) ⟨[(2,⟨⟨[(.int .i64),.str,(.int .i64),(.int .i64),(.int .i64),(.int .i64),(.list (.pair (.int .i64) (.pair (.int .i64) (.pair (.int .i64) .unit))))],[(0,.ptr 100000 0),(3,.v 0)],[(100000,.box 71 [.v 1,.v 2,.v 3,.v 4,.v 5,.own 100]),(100,.arr 49 6)]⟩,[6,7,8,9,10,11,12,13,14,15,16],[],[],101,[]⟩)],[],[(2000001,[(0,0),(5,1),(0,2)]),(2000003,[(0,0),(5,1)]),(2000004,[(0,0),(0,1),(0,2),(5,3),(0,4),(2,5),(0,6)])],[]⟩ Try.func23 rfl Try.ntmps23 (rs:=[.tmp 2]) rfl (sig:=zaF) (out:=zaE) rfl (fun rec hrec=>(GPOK.cons (zqi rec hrec) (GPOK.cons zeC (GPOK.nil)))) Try.call23 (d:=zeU) (fun rc X=>by kernel_rfl)
def zoX:Shape:=⟨[.str],[(0,.v 0)],[]⟩
def zoW:Shape:=⟨[(.list (.pair (.int .i64) (.pair (.int .i64) (.pair (.int .i64) .unit)))),(.pair (.int .i64) (.pair (.int .i64) .unit))],[(0,.v 0),(1,.v 1)],[]⟩
def zpZ:CE:=⟨11,zoX,zoW,fun X=>zln X⟩
theorem zs7 (p:Int×Int):evC TT [] [] 0 zuO ⟨[],[],[],[(7,.one 0 (.alt 0 1 (.leaf [(2,2),(2,3)]) (.alt 2 2 (.leaf [(0,1),(2,3)]) .stop)))]⟩ (zAz (Try.f22.body.getD .skip)) (zBT 13 10 42 33 p) (zFi false 42 33)=zuO (some (p.1,p.2)) (some (p.1,p.2)):=by kernel_rfl
theorem zs6 (va vb:Value) (w:World):CallsD Try.prog 22 #[va,vb] .returning w (fun e u w'=>(∃ v,e = .returned v)/\u = .returning/\w'=w):=by
  refine callsD_of_wpS Try.func22 rfl fun c₀ cs hu => ?_
  apply wpS_seq
  apply wpS_region
  simp [wpOpsS,go_sem,recoverD,hu,Try.ntmps22,Exit.thenS]
  refine wpS_of_wp (wp_block (wp_seq (wp_region ?_)))
  simp [wpOps,go_sem]
  left
  refine wp_cond (t:=true) (by simp [Act.eval,Array.replicate]) ?_
  simp only [if_true]
  refine wp_region ?_
  simp [wpOps,go_sem]
  left
  cases c₀
  simp_all [bodyPostS,results,Try.results22]
theorem zrg (p:Int×Int) (w:World) (ba bb:Nat) (ca cb:Array Value) (hne:ba≠bb) (h1:w.heap[ba]? =some (.cells ca 42 (0,0))) (h2:ca.size=1) (h3:w.heap[bb]? =some (.cells cb 33 (0,0))) (h4:cb.size=2):
    CallsD Try.prog 22 #[.pointer (some ⟨ba,0,none⟩),.pointer (some ⟨bb,0,none⟩)] (.panicking (pch 68 p)) w (fun e u w'=>(∃ v,e = .returned v)/\settle u = .returning/\
      (w'.os=w.os/\w'.tape=w.tape/\w'.output=w.output/\w.heap.size<=w'.heap.size)/\(∀ b,b < w.heap.size->b≠ba->b≠bb->w'.heap[b]? =w.heap[b]?)/\
      w'.heap[ba]? =some (.cells #[zV false] 42 (0,0))/\w'.heap[bb]? =some (.cells #[.int .i64 p.1,.int .i64 p.2] 33 (0,0))):=by
  refine callsD_of_wpS Try.func22 rfl fun c₀ cs hu => ?_
  apply wpS_seq
  apply wpS_region
  simp [wpOpsS,go_sem,recoverD,hu,Try.ntmps22,Exit.thenS,pch]
  refine wpS_of_wp (wp_block (wp_seq (wp_region ?_)))
  simp [wpOps,go_sem]
  left
  refine wp_cond (t:=false) (by simp [Act.eval,Array.replicate]) ?_
  simp only [Bool.false_eq_true,if_false]
  refine wp_seq (wp_region ?_)
  simp [wpOps,go_sem,zAd Try.underlying68]
  left
  left
  left
  refine wp_cond (t:=true) (by simp [Act.eval,Array.replicate]) ?_
  simp only [if_true]
  refine wp_mono (zD8 (by kernel_rfl) zb2 (zs7 p) hne h1 h2 h3 h4 ?_ ?_ ?_ ?_ ?_) fun e a' w' hh => ?_
  · simp
  · rfl
  · simp [Array.replicate]
  · simp [Array.replicate]
  · simp [Array.replicate]
  · obtain ⟨rfl,hd,ho,hk,y1,y2⟩:=hh
    exact ⟨hd,_,rfl,.tuple #[],by simp [results,Try.results22],⟨_,rfl⟩,rfl,ho,hk,y1,y2⟩
theorem zrX:CatchOK Try.prog 68 22 42 33 (zV false):=⟨Try.call22,zs6,zrg⟩
theorem zu7:CE.ok Try.prog zpZ:=CE.ofCatch (Γ:=[]) (Γp:=[zi0,zfX]) (T:=68) (by kernel_rfl) zb2 (GOK.nil) (GPOK.cons zn1 (GPOK.cons zhW (GPOK.nil))) ⟨[],[],[(3000003,[]),(2000005,[(0,0),(8,1),(0,2)]),(2000007,[(0,0),(5,1)])],[]⟩ Try.func11 rfl Try.ntmps11 (rs:=[.cell 2 42,.cell 3 33]) rfl (sig:=zoX) (out:=zoW) rfl Try.call11 (g:=22) (sa:=2) (sb:=3) (Ta:=42) (Tb:=33) (z:=zE false) zrX (zFw false) (fun X=>by kernel_rfl)

def zlm:Shape:=⟨[(.pair (.int .i64) (.pair (.int .i64) (.pair (.int .i64) .unit))),(.int .i64),(.list .bool)],[(0,.v 0),(1,.v 1),(2,.v 2)],[]⟩
def zll:Shape:=⟨[.bool],[(0,.v 0)],[]⟩
def zl3:CE:=⟨25,zlm,zll,fun X=>zfA X.1 X.2.1 X.2.2⟩
theorem zrf:CE.ok Try.prog zl3:=CE.of (Γ:=[]) (by kernel_rfl) zb2 (GOK.nil) ⟨[],[],[],[]⟩ Try.func25 rfl Try.ntmps25 (rs:=[.tmp 6]) rfl (sig:=zlm) (out:=zll) rfl Try.call25 (fun X=>by kernel_rfl)

def zl8:Shape:=⟨[(.pair (.list (.pair (.int .i64) (.pair (.int .i64) (.pair (.int .i64) .unit)))) (.pair (.list (.int .i64)) .unit)),(.int .i64),(.int .i64)],[(0,.addr 0),(1,.v 1),(2,.v 2)],[]⟩
def zl7:Shape:=⟨[(.list .bool)],[(0,.own 0)],[(0,.arr 4 0)]⟩
def zm5:CE:=⟨12,zl8,zl7,fun X=>zgk X.1 X.2.1 X.2.2⟩
theorem zrY:CE.ok Try.prog zm5:=CE.of (Γ:=[zl3]) (by kernel_rfl) zb2 (GOK.cons zrf (GOK.nil)) ⟨[(4,⟨⟨[(.int .i64),(.int .i64),(.list .bool)],[(7,.own 0),(8,.v 0),(22,.v 1)],[(0,.arr 4 2)]⟩,[9,10,16,23,24,25,26,27,28,29,30,31,32,33,34,35,36,37,38,39,40,41,42,43,44,45,46,47,48,49,50,51,52,53,54,55,56,57,58,59,60,61,62,63,64,65,66,67,68,69,70,71,72,73,74],[],[],1,[]⟩)],[],[],[]⟩ Try.func12 rfl Try.ntmps12 (rs:=[.tmp 6]) rfl (sig:=zl8) (out:=zl7) rfl Try.call12 (fun X=>by kernel_rfl)

def zki:Shape:=⟨[(.pair (.list (.pair (.int .i64) (.pair (.int .i64) (.pair (.int .i64) .unit)))) (.pair (.list (.int .i64)) .unit)),(.list .bool),(.int .i64)],[(0,.addr 0),(1,.v 1),(2,.v 2)],[]⟩
def zkh:Shape:=⟨[.bool],[(0,.v 0)],[]⟩
def zly:CE:=⟨13,zki,zkh,fun X=>zhL X.1 X.2.1 X.2.2⟩
theorem zqj:CE.ok Try.prog zly:=CE.of (Γ:=[]) (by kernel_rfl) zb2 (GOK.nil) ⟨[(2,⟨⟨[(.int .i64)],[(15,.v 0)],[]⟩,[6,7,8,9,16,17,18,19,20,21,22,23,24,25,26,27,28,29,30,31,32,33,34,35,36,37,38,39,40,41,42,43,44,45,46,47,48],[],[],0,[]⟩)],[(6,⟨⟨[(.int .i64)],[(9,.v 0)],[]⟩,[21,22,23,24,25,26,27,28,29,30,31,32,33,34,35,36,37],[],[],0,[]⟩)],[(7,[(0,0),(0,1),(0,2),(0,3),(0,4),(0,5),(0,6),(0,7),(0,8),(0,9)])],[]⟩ Try.func13 rfl Try.ntmps13 (rs:=[.tmp 6]) rfl (sig:=zki) (out:=zkh) rfl Try.call13 (fun X=>by kernel_rfl)

def zpA:Shape:=⟨[(.int .u64)],[(0,.v 0)],[]⟩
def zpz:Shape:=⟨[(.int .i64)],[(0,.v 0)],[]⟩
def zqq:CE:=⟨60,zpA,zpz,fun X=>zrm X⟩
theorem zvN:CE.ok Try.prog zqq:=CE.of (Γ:=[]) (by kernel_rfl) zb2 (GOK.nil) ⟨[],[(3,⟨⟨[(.int .u64),(.int .i64)],[(0,.v 0),(2,.v 1)],[]⟩,[3,4,5,6],[],[],0,[]⟩),(6,⟨⟨[(.int .u64),(.int .i64)],[(0,.v 0),(2,.v 1)],[]⟩,[7,8,9,10,11,12],[],[],0,[]⟩),(9,⟨⟨[(.int .u64),(.int .i64)],[(0,.v 0),(2,.v 1)],[]⟩,[13,14,15,16,17,18],[],[],0,[]⟩)],[],[]⟩ Try.func60 rfl Try.ntmps60 (rs:=[.tmp 2]) rfl (sig:=zpA) (out:=zpz) rfl Try.call60 (fun X=>by kernel_rfl)

def zr4:Shape:=⟨[(.int .u64)],[(0,.v 0)],[]⟩
def zr3:Shape:=⟨[(.int .i64)],[(0,.v 0)],[]⟩
def zm7:CE:=⟨43,zr4,zr3,fun X=>zo1 X⟩
theorem zp3:CE.ok Try.prog zm7:=CE.of (Γ:=[zqq]) (by kernel_rfl) zb2 (GOK.cons zvN (GOK.nil)) ⟨[],[],[],[]⟩ Try.func43 rfl Try.ntmps43 (rs:=[.tmp 2]) rfl (sig:=zr4) (out:=zr3) rfl Try.call43 (fun X=>by kernel_rfl)

def zqt:Shape:=⟨[(.int .i64)],[(0,.v 0)],[]⟩
def zqs:Shape:=⟨[.bool],[(0,.v 0)],[]⟩
def zof:CE:=⟨69,zqt,zqs,fun X=>zkM X⟩
theorem zr9:CE.ok Try.prog zof:=CE.of (Γ:=[]) (by kernel_rfl) zb2 (GOK.nil) ⟨[],[],[],[]⟩ Try.func69 rfl Try.ntmps69 (rs:=[.tmp 2]) rfl (sig:=zqt) (out:=zqs) rfl Try.call69 (fun X=>by kernel_rfl)

def zr8:Shape:=⟨[(.int .i64),(.int .i64)],[(0,.v 0),(1,.v 1)],[]⟩
def zr7:Shape:=⟨[.bool],[(0,.v 0)],[]⟩
def zkL:CE:=⟨56,zr8,zr7,fun X=>zjm X.1 X.2⟩
theorem zm9:CE.ok Try.prog zkL:=CE.of (Γ:=[zof]) (by kernel_rfl) zb2 (GOK.cons zr9 (GOK.nil)) ⟨[],[],[],[]⟩ Try.func56 rfl Try.ntmps56 (rs:=[.tmp 4]) rfl (sig:=zr8) (out:=zr7) rfl Try.call56 (fun X=>by kernel_rfl)

def zfu:Shape:=⟨[(.int .i64),(.int .i64),(.list (.int .i64))],[(0,.own 100000),(1,.v 0),(2,.v 1)],[(100000,.arr 3 2)]⟩
def zft:Shape:=⟨[(.list (.int .i64))],[],[(100000,.arr 3 0)]⟩
def zfF:CE:=⟨50,zfu,zft,fun X=>zcK X.1 X.2.1 X.2.2⟩
theorem zjF:CE.ok Try.prog zfF:=CE.of (Γ:=[zkL]) (by kernel_rfl) zb2 (GOK.cons zm9 (GOK.nil)) ⟨[(1,⟨⟨[(.int .i64),(.list (.int .i64))],[(0,.own 100000),(6,.v 0)],[(100000,.arr 3 1)]⟩,[7,10,11,12,13,14,15,16,17,18,19,20,21,22,23,24,25,26,27,28,29,30,31,32,33,34,35,36,37,38,39,40,41,42,43,44,45,46,47,48],[],[],0,[]⟩),(4,⟨⟨[(.int .i64),(.list (.int .i64))],[(0,.own 100000),(7,.v 0)],[(100000,.arr 3 1)]⟩,[16,17,18,19,20,21,22,23,24,25,26,27,28,29,30,31,32,33,34,35,36,37,38,39,40,41,42,43,44,45,46,47,48],[],[],0,[]⟩)],[],[(4,[(0,0),(0,1),(0,2),(0,3),(0,4),(0,5),(0,6),(0,7),(0,8),(0,9),(0,10),(0,11),(0,12),(1,13),(0,14)]),(6,[(0,0),(0,1),(0,2),(0,3),(0,4),(0,5),(0,6),(0,7),(0,8),(0,9),(0,10),(0,11),(0,12),(0,13),(0,14),(2,15),(0,16),(2,17)])],[]⟩ Try.func50 rfl Try.ntmps50 (rs:=[]) rfl (sig:=zfu) (out:=zft) rfl Try.call50 (fun X=>by kernel_rfl)

def zib:Shape:=⟨[(.list (.int .i64)),(.int .i64),(.int .i64),(.int .i64)],[(0,.v 0),(1,.v 1),(2,.v 2),(3,.ptr 100000 0)],[(100000,.box 3 [.v 3])]⟩
def zia:Shape:=⟨[(.int .i64),(.int .i64),(.int .i64)],[(0,.v 0),(1,.v 1)],[(100000,.box 3 [.v 2])]⟩
def ziM:CE:=⟨82,zib,zia,fun X=>zcT X.1 X.2.1 X.2.2.1 X.2.2.2⟩
theorem znt:CE.ok Try.prog ziM:=CE.of (Γ:=[zkL]) (by kernel_rfl) zb2 (GOK.cons zm9 (GOK.nil)) ⟨[],[],[(1,[(0,0),(0,1),(0,2),(0,3),(0,4),(0,5),(0,6),(0,7),(1,8)])],[]⟩ Try.func82 rfl Try.ntmps82 (rs:=[.tmp 8,.tmp 9]) rfl (sig:=zib) (out:=zia) rfl Try.call82 (fun X=>by kernel_rfl)

def zh6:Shape:=⟨[(.list (.int .i64)),(.int .i64),(.int .i64),(.int .i64),(.int .i64)],[(0,.v 0),(1,.v 1),(2,.v 2),(3,.v 3),(4,.ptr 100000 0)],[(100000,.box 3 [.v 4])]⟩
def zh5:Shape:=⟨[(.int .i64),(.int .i64)],[(0,.v 0)],[(100000,.box 3 [.v 1])]⟩
def zfW:CE:=⟨77,zh6,zh5,fun X=>zd0 X.1 X.2.1 X.2.2.1 X.2.2.2.1 X.2.2.2.2⟩
theorem ziK:CE.ok Try.prog zfW:=CE.of (Γ:=[ziM]) (by kernel_rfl) zb2 (GOK.cons znt (GOK.nil)) ⟨[],[],[],[]⟩ Try.func77 rfl Try.ntmps77 (rs:=[.tmp 10]) rfl (sig:=zh6) (out:=zh5) rfl Try.call77 (fun X=>by kernel_rfl)

def zfc:Shape:=⟨[(.list (.int .i64)),(.int .i64),(.int .i64)],[(0,.v 0),(1,.v 1),(2,.ptr 100000 0)],[(100000,.box 3 [.v 2])]⟩
def zfb:Shape:=⟨[(.int .i64),(.int .i64)],[(0,.v 0)],[(100000,.box 3 [.v 1])]⟩
def zfw:CE:=⟨76,zfc,zfb,fun X=>zbE X.1 X.2.1 X.2.2⟩
theorem zje:CE.ok Try.prog zfw:=CE.of (Γ:=[zfW]) (by kernel_rfl) zb2 (GOK.cons ziK (GOK.nil)) ⟨[],[],[],[]⟩ Try.func76 rfl Try.ntmps76 (rs:=[.tmp 6]) rfl (sig:=zfc) (out:=zfb) rfl Try.call76 (fun X=>by kernel_rfl)

def zga:Shape:=⟨[(.list (.int .i64)),(.int .i64),(.int .i64)],[(0,.v 0),(1,.v 1),(2,.v 2)],[]⟩
def zf9:Shape:=⟨[(.int .i64),(.int .i64)],[(0,.v 0),(1,.v 1)],[]⟩
def zgu:CE:=⟨53,zga,zf9,fun X=>zdv X.1 X.2.1 X.2.2⟩
theorem zku:CE.ok Try.prog zgu:=CE.of (Γ:=[zfw,zfW]) (by kernel_rfl) zb2 (GOK.cons zje (GOK.cons ziK (GOK.nil))) ⟨[],[(10,⟨⟨[(.int .i64),(.int .i64),(.int .i64),(.int .i64)],[(9,.ptr 0 0),(10,.v 0),(11,.v 1),(12,.v 2)],[(0,.box 3 [.v 3])]⟩,[33,34,35,36,37,38,39,40,41,42,43],[],[],1,[]⟩),(11,⟨⟨[(.int .i64),(.int .i64)],[(9,.ptr 0 0),(11,.v 0)],[(0,.box 3 [.v 1])]⟩,[10,12,31,32,33,34,35,36,37,38,39,40,41,42,43,44,45,46,47,48],[],[],1,[]⟩)],[],[]⟩ Try.func53 rfl Try.ntmps53 (rs:=[.tmp 6,.tmp 7]) rfl (sig:=zga) (out:=zf9) rfl Try.call53 (fun X=>by kernel_rfl)

def zdJ:Shape:=⟨[(.int .i64),(.int .i64),(.list (.int .i64))],[(0,.own 100000),(1,.v 0),(2,.v 1)],[(100000,.arr 3 2)]⟩
def zdI:Shape:=⟨[.bool,(.list (.int .i64))],[(0,.v 0)],[(100000,.arr 3 1)]⟩
def zd2:CE:=⟨55,zdJ,zdI,fun X=>zbS X.1 X.2.1 X.2.2⟩
theorem zhl:CE.ok Try.prog zd2:=CE.of (Γ:=[zkL]) (by kernel_rfl) zb2 (GOK.cons zm9 (GOK.nil)) ⟨[(3,⟨⟨[(.int .i64),(.int .i64),(.list (.int .i64))],[(0,.own 100000),(7,.v 0),(8,.v 1)],[(100000,.arr 3 2)]⟩,[6,9,10,13,14,15,16,17,18,19,20,21,22,23,24,25,26,27,28,29,30,31,32,33,34,35,36,37,38,39,40,41,42,43,44,45,46,47,48,49,50,51,52,53,54,55,56,57,58,59,60,61,62,63,64,65,66,67,68,69,70,71,72,73,74,75,76,77,78,79,80,81,82,83,84,85,86,87,88,89,90,91,92,93,94,95,96,97,98,99,100,101,102,103,104,105,106,107,108,109,110,111,112,113,114,115,116,117,118,119,120,121,122,123,124,125,126,127,128,129,130,131,132],[],[],0,[]⟩),(5,⟨⟨[(.int .i64)],[(7,.v 0)],[]⟩,[17,18,19,20,21,22,23,24,25,26,27,28,29,30,31,32,33,34],[],[],0,[]⟩),(14,⟨⟨[(.int .i64),(.list (.int .i64))],[(0,.own 100000),(9,.v 0)],[(100000,.arr 3 1)]⟩,[64,65,66,67,68,69,70,71,72,73,74,75,76,77,78,79,80,81,82,83,84,85,86,87,88,89,90,91,92,93,94],[],[],0,[]⟩),(20,⟨⟨[(.int .i64),(.list (.int .i64))],[(0,.own 100000),(10,.v 0)],[(100000,.arr 3 1)]⟩,[101,102,103,104,105,106,107,108,109,110,111,112,113,114,115,116,117,118,119,120,121,122,123,124,125,126,127,128,129,130,131,132],[],[],0,[]⟩)],[(6,⟨⟨[(.int .i64)],[(7,.v 0)],[]⟩,[17,18,19,20,21,22,23,24,25,26,27,28,29,30,31,32,33,34],[],[],0,[]⟩),(15,⟨⟨[(.list (.int .i64))],[(0,.own 100000)],[(100000,.arr 3 0)]⟩,[9,58,59,60,61,62,63,64,65,66,67,68,69,70,71,72,73,74,75,76,77,78,79,80,81,82,83,84,85,86,87,88,89,90,91,92,93,94],[],[],0,[]⟩)],[(5,[(0,0),(0,1),(0,2),(0,3),(0,4),(0,5),(0,6),(0,7),(0,8),(0,9),(0,10),(0,11),(0,12),(1,13),(0,14),(0,15)]),(11,[(0,0),(0,1),(0,2),(0,3),(0,4),(0,5),(0,6),(0,7),(0,8),(0,9),(0,10),(0,11),(0,12),(0,13),(0,14),(2,15),(0,16),(2,17)]),(16,[(0,0),(0,1),(0,2),(0,3),(0,4),(0,5),(0,6),(0,7),(0,8),(1,9),(0,10)]),(22,[(0,0),(0,1),(0,2),(0,3),(0,4),(0,5),(0,6),(0,7),(0,8),(1,9),(0,10)]),(23,[(0,0),(0,1),(0,2),(0,3),(0,4),(0,5),(0,6),(0,7),(0,8),(0,9),(0,10),(0,11),(0,12),(0,13),(0,14),(2,15),(0,16),(2,17)]),(17,[(0,0),(0,1),(0,2),(0,3),(0,4),(0,5),(0,6),(0,7),(0,8),(0,9),(0,10),(0,11),(0,12),(0,13),(0,14),(2,15),(0,16),(2,17)])],[]⟩ Try.func55 rfl Try.ntmps55 (rs:=[.tmp 6]) rfl (sig:=zdJ) (out:=zdI) rfl Try.call55 (fun X=>by kernel_rfl)

def zhE:Shape:=⟨[(.int .i64),(.int .i64),(.int .i64),(.list (.int .i64))],[(0,.own 100000),(1,.v 0),(2,.v 1),(3,.v 2)],[(100000,.arr 3 3)]⟩
def zhD:Shape:=⟨[(.list (.int .i64))],[],[(100000,.arr 3 0)]⟩
def zid:CE:=⟨42,zhE,zhD,fun X=>zeR X.1 X.2.1 X.2.2.1 X.2.2.2⟩
theorem zm2:CE.ok Try.prog zid:=CE.of (Γ:=[zfF,zd2,zgu,zkL]) (by kernel_rfl) zb2 (GOK.cons zjF (GOK.cons zhl (GOK.cons zku (GOK.cons zm9 (GOK.nil))))) ⟨[(2,⟨⟨[(.int .i64),(.int .i64),(.int .i64),.bool,.bool],[(1,.v 0),(2,.v 1),(3,.v 2),(8,.v 3),(9,.v 4)],[]⟩,[10,11,12,13,14,15,16,17,18,19,20,21,22,23,24,25,26,27,28,29,30,31,32,33,34,35,36,37,38,39,40,41,42,43,44,45,46,47,48,49,50,51,52,53,54,55,56,57,58,59,60,61,62,63,64,65,66,67,68,69,70,71,72,73,74,75,76,77,78,79,80,81,82,83,84,85,86,87,88,89,90,91,92,93,94,95,96,97,98,99,100,101,102,103,104,105,106,107,108,109,110,111,112,113,114,115,116,117,118,119,120,121,122,123,124,125,126,127,128,129,130,131,132,133],[],[],0,[]⟩)],[(15,⟨⟨[.bool],[(68,.v 0)],[]⟩,[61,62,63,64,65,66,67],[],[],0,[]⟩),(16,⟨⟨[(.list (.int .i64))],[(0,.own 100000)],[(100000,.arr 3 0)]⟩,[61,62,63,64,65,66,67,68,69,70,71,72],[],[],0,[]⟩)],[(17,[(0,0),(0,1),(0,2),(0,3),(0,4),(0,5),(0,6),(0,7),(0,8),(0,9),(0,10),(0,11),(1,12),(0,13),(0,14)])],[]⟩ Try.func42 rfl Try.ntmps42 (rs:=[]) rfl (sig:=zhE) (out:=zhD) rfl Try.call42 (fun X=>by kernel_rfl)

def zoM:Shape:=⟨[(.list (.int .i64))],[(0,.own 100000)],[(100000,.arr 3 0)]⟩
def zoL:Shape:=⟨[(.list (.int .i64))],[],[(100000,.arr 3 0)]⟩
def zpV:CE:=⟨26,zoM,zoL,fun X=>zjc X⟩
theorem zu4:CE.ok Try.prog zpV:=CE.of (Γ:=[zid,zm7]) (by kernel_rfl) zb2 (GOK.cons zm2 (GOK.cons zp3 (GOK.nil))) ⟨[],[],[],[]⟩ Try.func26 rfl Try.ntmps26 (rs:=[]) rfl (sig:=zoM) (out:=zoL) rfl Try.call26 (fun X=>by kernel_rfl)

def zoe:Shape:=⟨[(.int .i64),(.int .i64)],[(0,.v 0),(1,.v 1)],[]⟩
def zod:Shape:=⟨[(.int .i64)],[(0,.v 0)],[]⟩
def zpB:CE:=⟨46,zoe,zod,fun X=>zi4 X.1 X.2⟩
theorem zuQ:CE.ok Try.prog zpB:=CE.of (Γ:=[zof]) (by kernel_rfl) zb2 (GOK.cons zr9 (GOK.nil)) ⟨[],[],[],[]⟩ Try.func46 rfl Try.ntmps46 (rs:=[.tmp 4]) rfl (sig:=zoe) (out:=zod) rfl Try.call46 (fun X=>by kernel_rfl)

def zvc:Shape:=⟨[(.list (.int .i64))],[(0,.v 0)],[]⟩
def zvb:Shape:=⟨[(.int .i64)],[(0,.v 0)],[]⟩
def zwV:CE:=⟨45,zvc,zvb,fun X=>zyV X⟩
theorem zAA:CE.ok Try.prog zwV:=CE.of (Γ:=[]) (by kernel_rfl) zb2 (GOK.nil) ⟨[(3,⟨⟨[(.int .i64)],[(8,.v 0)],[]⟩,[2,5,9,10,11,12,13,14,15,16],[],[],0,[]⟩)],[],[],[]⟩ Try.func45 rfl Try.ntmps45 (rs:=[.tmp 2]) rfl (sig:=zvc) (out:=zvb) rfl Try.call45 (fun X=>by kernel_rfl)

def zob:Shape:=⟨[(.pair (.int .i64) (.pair (.int .i64) (.pair (.int .i64) .unit))),(.pair (.int .i64) (.pair (.int .i64) (.pair (.int .i64) .unit)))],[(0,.v 0),(1,.v 1)],[]⟩
def zoa:Shape:=⟨[(.int .i64)],[(0,.v 0)],[]⟩
def zd8:CE:=⟨28,zob,zoa,fun X=>zbX X.1 X.2⟩
theorem zeX:CE.ok Try.prog zd8:=CE.of (Γ:=[zpB,zwV]) (by kernel_rfl) zb2 (GOK.cons zuQ (GOK.cons zAA (GOK.nil))) ⟨[],[],[(1,[(0,0),(0,1),(0,2),(0,3),(0,5),(0,6),(0,7),(0,8),(0,10),(0,11),(0,12),(0,13),(1,4),(1,9),(1,14),(1,15),(1,16),(0,17)])],[]⟩ Try.func28 rfl Try.ntmps28 (rs:=[.tmp 4]) rfl (sig:=zob) (out:=zoa) rfl Try.call28 (fun X=>by kernel_rfl)

def zfs:Shape:=⟨[(.int .i64),(.int .i64),(.list (.pair (.int .i64) (.pair (.int .i64) (.pair (.int .i64) .unit))))],[(0,.own 100000),(1,.v 0),(2,.v 1),(3,.fn 28 [])],[(100000,.arr 53 2)]⟩
def zfr:Shape:=⟨[(.list (.pair (.int .i64) (.pair (.int .i64) (.pair (.int .i64) .unit))))],[],[(100000,.arr 53 0)]⟩
def zfE:CE:=⟨61,zfs,zfr,fun X=>zcI X.1 X.2.1 X.2.2⟩
theorem zjE:CE.ok Try.prog zfE:=CE.of (Γ:=[zd8]) (by kernel_rfl) zb2 (GOK.cons zeX (GOK.nil)) ⟨[(1,⟨⟨[(.int .i64),(.list (.pair (.int .i64) (.pair (.int .i64) (.pair (.int .i64) .unit))))],[(0,.own 100000),(8,.v 0)],[(100000,.arr 53 1)]⟩,[9,12,13,14,15,16,17,18,19,20,21,22,23,24,25,26,27,28,29,30,31,32,33,34,35,36,37,38,39,40,41,42,43,44,45,46,47,48,49,50,51,52],[],[],0,[]⟩),(4,⟨⟨[(.int .i64),(.list (.pair (.int .i64) (.pair (.int .i64) (.pair (.int .i64) .unit))))],[(0,.own 100000),(9,.v 0)],[(100000,.arr 53 1)]⟩,[18,19,20,21,22,23,24,25,26,27,28,29,30,31,32,33,34,35,36,37,38,39,40,41,42,43,44,45,46,47,48,49,50,51,52],[],[],0,[]⟩)],[],[(4,[(0,0),(0,1),(0,2),(0,3),(0,4),(0,5),(0,6),(0,7),(0,8),(0,9),(0,10),(0,11),(0,12),(0,13),(1,14),(0,15),(0,16)]),(6,[(0,0),(0,1),(0,2),(0,3),(0,4),(0,5),(0,6),(0,7),(0,8),(0,9),(0,10),(0,11),(0,12),(0,13),(0,14),(2,15),(0,16),(2,17)])],[]⟩ Try.func61 rfl Try.ntmps61 (rs:=[]) rfl (sig:=zfs) (out:=zfr) rfl Try.call61 (fun X=>by kernel_rfl)

def zhd:Shape:=⟨[(.int .i64),(.int .i64),(.int .i64),(.list (.pair (.int .i64) (.pair (.int .i64) (.pair (.int .i64) .unit))))],[(0,.own 100000),(1,.v 0),(2,.v 1),(3,.v 2),(4,.fn 28 [])],[(100000,.arr 53 3)]⟩
def zhc:Shape:=⟨[(.list (.pair (.int .i64) (.pair (.int .i64) (.pair (.int .i64) .unit))))],[],[(100000,.arr 53 0)]⟩
def zhF:CE:=⟨78,zhd,zhc,fun X=>zdc X.1 X.2.1 X.2.2.1 X.2.2.2⟩
theorem zmh:CE.ok Try.prog zhF:=CE.of (Γ:=[zd8]) (by kernel_rfl) zb2 (GOK.cons zeX (GOK.nil)) ⟨[(1,⟨⟨[(.int .i64),(.list (.pair (.int .i64) (.pair (.int .i64) (.pair (.int .i64) .unit))))],[(0,.own 100000),(10,.v 0)],[(100000,.arr 53 1)]⟩,[11,13,14,15,16,17,18,19,20,21,22,23,24,25,26,27,28,29,30,31,32,33,34,35,36,37,38,39,40,41,42,43,44,45,46,47,48,49,50,51,52,53,54,55,56,57,58,59,60,61,62,63,64,65,66,67,68,69,70,71,72,73,74,75,76,77,78,79,80,81],[],[],0,[]⟩)],[(3,⟨⟨[.bool],[(40,.v 0)],[]⟩,[19,20,21,22,23,24,25,26,27,28,29,30,31,32,33,34,35,36,37,38,39],[],[],0,[]⟩),(4,⟨⟨[(.int .i64)],[(11,.v 0)],[]⟩,[19,20,21,22,23,24,25,26,27,28,29,30,31,32,33,34,35,36,37,38,39,40,41,42],[],[],0,[]⟩)],[(3,[(0,0),(0,1),(0,2),(0,3),(0,4),(0,5),(0,6),(0,7),(0,8),(0,9),(0,10),(0,11),(0,12),(0,13),(0,14),(0,15),(0,16),(0,17),(0,18),(1,19),(0,20),(0,21)]),(5,[(0,0),(0,1),(0,2),(0,3),(0,4),(0,5),(0,6),(0,7),(0,8),(0,9),(0,10),(0,11),(0,12),(1,13),(0,14),(0,15)]),(6,[(0,0),(0,1),(0,2),(0,3),(0,4),(0,5),(0,6),(0,7),(0,8),(0,9),(0,10),(0,11),(0,12),(0,13),(0,14),(0,15),(0,16),(0,17),(0,18),(0,19),(0,20),(2,21),(0,22),(2,23)])],[]⟩ Try.func78 rfl Try.ntmps78 (rs:=[]) rfl (sig:=zhd) (out:=zhc) rfl Try.call78 (fun X=>by kernel_rfl)

def zg8:Shape:=⟨[(.int .i64),(.int .i64),(.list (.pair (.int .i64) (.pair (.int .i64) (.pair (.int .i64) .unit))))],[(0,.own 100000),(1,.v 0),(2,.v 1),(3,.fn 28 [])],[(100000,.arr 53 2)]⟩
def zg7:Shape:=⟨[(.list (.pair (.int .i64) (.pair (.int .i64) (.pair (.int .i64) .unit))))],[],[(100000,.arr 53 0)]⟩
def zhx:CE:=⟨62,zg8,zg7,fun X=>zeA X.1 X.2.1 X.2.2⟩
theorem zmg:CE.ok Try.prog zhx:=CE.of (Γ:=[zhF]) (by kernel_rfl) zb2 (GOK.cons zmh (GOK.nil)) ⟨[(4,⟨⟨[(.int .i64),(.list (.pair (.int .i64) (.pair (.int .i64) (.pair (.int .i64) .unit))))],[(0,.own 100000),(11,.v 0)],[(100000,.arr 53 1)]⟩,[20,21,22,23,24,25,26,27,28,29],[],[],0,[]⟩),(8,⟨⟨[(.int .i64),(.list (.pair (.int .i64) (.pair (.int .i64) (.pair (.int .i64) .unit))))],[(0,.own 100000),(12,.v 0)],[(100000,.arr 53 1)]⟩,[32,33,34,35,36,37,38,39,40,41,42,43,44,45,46,47,48,49,50,51,52,53,54,55,56,57,58,59],[],[],0,[]⟩)],[],[(10,[(0,0),(0,1),(0,2),(0,3),(0,4),(0,5),(0,6),(0,7),(0,8),(0,9),(0,10),(0,11),(0,12),(0,13),(0,14),(0,15),(0,16),(2,17),(0,18),(2,19)])],[]⟩ Try.func62 rfl Try.ntmps62 (rs:=[]) rfl (sig:=zg8) (out:=zg7) rfl Try.call62 (fun X=>by kernel_rfl)

def zhz:Shape:=⟨[(.int .i64)],[(0,.v 0)],[]⟩
def zhy:Shape:=⟨[(.int .u64)],[(0,.v 0)],[]⟩
def zh7:CE:=⟨74,zhz,zhy,fun X=>zeO X⟩
theorem zmY:CE.ok Try.prog zh7:=CE.of (Γ:=[zm7]) (by kernel_rfl) zb2 (GOK.cons zp3 (GOK.nil)) ⟨[],[],[],[]⟩ Try.func74 rfl Try.ntmps74 (rs:=[.tmp 2]) rfl (sig:=zhz) (out:=zhy) rfl Try.call74 (fun X=>by kernel_rfl)

def zif:Shape:=⟨[(.int .u64)],[(0,.ptr 100000 0)],[(100000,.box 113 [.v 0])]⟩
def zie:Shape:=⟨[(.int .u64),(.int .u64)],[(0,.v 0)],[(100000,.box 113 [.v 1])]⟩
def ziO:CE:=⟨75,zif,zie,fun X=>zhn X⟩
theorem znu:CE.ok Try.prog ziO:=CE.of (Γ:=[]) (by kernel_rfl) zb2 (GOK.nil) ⟨[],[],[(1,[(0,0),(0,1),(0,2),(0,3),(0,4),(0,5),(0,6),(0,7),(0,8),(2,9)]),(2,[(0,0),(0,1),(0,2),(0,3),(0,4),(0,5),(0,6),(0,7),(0,8),(2,9)]),(3,[(0,0),(0,1),(0,2),(0,3),(0,4),(0,5),(0,6),(0,7),(0,8),(2,9)])],[]⟩ Try.func75 rfl Try.ntmps75 (rs:=[.tmp 2]) rfl (sig:=zif) (out:=zie) rfl Try.call75 (fun X=>by kernel_rfl)

def zfq:Shape:=⟨[(.int .i64),(.int .i64),(.list (.pair (.int .i64) (.pair (.int .i64) (.pair (.int .i64) .unit))))],[(0,.own 100000),(1,.v 0),(2,.v 1),(3,.fn 28 [])],[(100000,.arr 53 2)]⟩
def zfp:Shape:=⟨[(.list (.pair (.int .i64) (.pair (.int .i64) (.pair (.int .i64) .unit))))],[],[(100000,.arr 53 0)]⟩
def zfD:CE:=⟨63,zfq,zfp,fun X=>zcH X.1 X.2.1 X.2.2⟩
theorem zjB:CE.ok Try.prog zfD:=CE.of (Γ:=[ziO,zh7]) (by kernel_rfl) zb2 (GOK.cons znu (GOK.cons zmY (GOK.nil))) ⟨[(5,⟨⟨[(.int .i64),(.list (.pair (.int .i64) (.pair (.int .i64) (.pair (.int .i64) .unit)))),(.int .u64)],[(0,.own 100000),(9,.ptr 0 0),(11,.v 0)],[(100000,.arr 53 1),(0,.box 113 [.v 2])]⟩,[12,28,29,30,31,32,33,34,35,36,37,38,39,40,41,42,43,44,45,46,47,48,49,50,51,52,53,54,55,56,57,58,59,60,61,62,63,64,65,66],[],[],1,[]⟩)],[(9,⟨⟨[(.int .i64)],[(12,.v 0)],[]⟩,[43,44,45,46,47,48],[],[0],1,[]⟩)],[(10,[(0,0),(0,1),(0,2),(0,3),(0,4),(0,5),(0,6),(0,7),(0,8),(0,9),(0,10),(0,11),(0,12),(0,13),(0,14),(0,15),(0,16),(2,17),(0,18),(2,19)])],[]⟩ Try.func63 rfl Try.ntmps63 (rs:=[]) rfl (sig:=zfq) (out:=zfp) rfl Try.call63 (fun X=>by kernel_rfl)

def zh9:Shape:=⟨[(.list (.pair (.int .i64) (.pair (.int .i64) (.pair (.int .i64) .unit)))),(.int .i64),(.int .i64),(.int .i64)],[(0,.v 0),(1,.v 1),(2,.v 2),(3,.ptr 100000 0),(4,.fn 28 [])],[(100000,.box 3 [.v 3])]⟩
def zh8:Shape:=⟨[(.int .i64),(.int .i64),(.int .i64)],[(0,.v 0),(1,.v 1)],[(100000,.box 3 [.v 2])]⟩
def ziL:CE:=⟨83,zh9,zh8,fun X=>zcS X.1 X.2.1 X.2.2.1 X.2.2.2⟩
theorem zns:CE.ok Try.prog ziL:=CE.of (Γ:=[zd8]) (by kernel_rfl) zb2 (GOK.cons zeX (GOK.nil)) ⟨[],[],[(1,[(0,0),(0,1),(0,2),(0,3),(0,4),(0,5),(0,6),(0,7),(0,8),(1,9),(0,10)])],[]⟩ Try.func83 rfl Try.ntmps83 (rs:=[.tmp 10,.tmp 11]) rfl (sig:=zh9) (out:=zh8) rfl Try.call83 (fun X=>by kernel_rfl)

def zh4:Shape:=⟨[(.list (.pair (.int .i64) (.pair (.int .i64) (.pair (.int .i64) .unit)))),(.int .i64),(.int .i64),(.int .i64),(.int .i64)],[(0,.v 0),(1,.v 1),(2,.v 2),(3,.v 3),(4,.ptr 100000 0),(5,.fn 28 [])],[(100000,.box 3 [.v 4])]⟩
def zh3:Shape:=⟨[(.int .i64),(.int .i64)],[(0,.v 0)],[(100000,.box 3 [.v 1])]⟩
def zfV:CE:=⟨80,zh4,zh3,fun X=>zdZ X.1 X.2.1 X.2.2.1 X.2.2.2.1 X.2.2.2.2⟩
theorem ziJ:CE.ok Try.prog zfV:=CE.of (Γ:=[ziL]) (by kernel_rfl) zb2 (GOK.cons zns (GOK.nil)) ⟨[],[],[],[]⟩ Try.func80 rfl Try.ntmps80 (rs:=[.tmp 12]) rfl (sig:=zh4) (out:=zh3) rfl Try.call80 (fun X=>by kernel_rfl)

def zfa:Shape:=⟨[(.list (.pair (.int .i64) (.pair (.int .i64) (.pair (.int .i64) .unit)))),(.int .i64),(.int .i64)],[(0,.v 0),(1,.v 1),(2,.ptr 100000 0),(3,.fn 28 [])],[(100000,.box 3 [.v 2])]⟩
def ze9:Shape:=⟨[(.int .i64),(.int .i64)],[(0,.v 0)],[(100000,.box 3 [.v 1])]⟩
def zfv:CE:=⟨79,zfa,ze9,fun X=>zbD X.1 X.2.1 X.2.2⟩
theorem zjd:CE.ok Try.prog zfv:=CE.of (Γ:=[zfV]) (by kernel_rfl) zb2 (GOK.cons ziJ (GOK.nil)) ⟨[],[],[],[]⟩ Try.func79 rfl Try.ntmps79 (rs:=[.tmp 8]) rfl (sig:=zfa) (out:=ze9) rfl Try.call79 (fun X=>by kernel_rfl)

def zf7:Shape:=⟨[(.list (.pair (.int .i64) (.pair (.int .i64) (.pair (.int .i64) .unit)))),(.int .i64),(.int .i64)],[(0,.v 0),(1,.v 1),(2,.v 2),(3,.fn 28 [])],[]⟩
def zf6:Shape:=⟨[(.int .i64),(.int .i64)],[(0,.v 0),(1,.v 1)],[]⟩
def zgt:CE:=⟨64,zf7,zf6,fun X=>zdu X.1 X.2.1 X.2.2⟩
theorem zkt:CE.ok Try.prog zgt:=CE.of (Γ:=[zfv,zfV]) (by kernel_rfl) zb2 (GOK.cons zjd (GOK.cons ziJ (GOK.nil))) ⟨[],[(10,⟨⟨[(.int .i64),(.int .i64),(.int .i64),(.int .i64)],[(11,.ptr 0 0),(12,.v 0),(13,.v 1),(14,.v 2)],[(0,.box 3 [.v 3])]⟩,[35,36,37,38,39,40,41,42,43,44,45,46,47,48],[],[],1,[]⟩),(11,⟨⟨[(.int .i64),(.int .i64)],[(11,.ptr 0 0),(13,.v 0)],[(0,.box 3 [.v 1])]⟩,[12,14,33,34,35,36,37,38,39,40,41,42,43,44,45,46,47,48,49,50,51,52,53,54],[],[],1,[]⟩)],[],[]⟩ Try.func64 rfl Try.ntmps64 (rs:=[.tmp 8,.tmp 9]) rfl (sig:=zf7) (out:=zf6) rfl Try.call64 (fun X=>by kernel_rfl)

def zfK:Shape:=⟨[(.int .i64),(.int .i64),(.list (.pair (.int .i64) (.pair (.int .i64) (.pair (.int .i64) .unit))))],[(0,.own 100000),(1,.v 0),(2,.v 1),(3,.fn 28 [])],[(100000,.arr 53 2)]⟩
def zfJ:Shape:=⟨[(.list (.pair (.int .i64) (.pair (.int .i64) (.pair (.int .i64) .unit))))],[],[(100000,.arr 53 0)]⟩
def zgi:CE:=⟨65,zfK,zfJ,fun X=>zc5 X.1 X.2.1 X.2.2⟩
theorem zjY:CE.ok Try.prog zgi:=CE.of (Γ:=[]) (by kernel_rfl) zb2 (GOK.nil) ⟨[(2,⟨⟨[(.int .i64),(.int .i64),(.list (.pair (.int .i64) (.pair (.int .i64) (.pair (.int .i64) .unit))))],[(0,.own 100000),(8,.v 0),(9,.v 1)],[(100000,.arr 53 2)]⟩,[13,14,15,16,17,18,19,20,21,22,23,24,25,26,27,28,29,30,31,32,33],[],[],0,[]⟩)],[],[(3,[(0,0),(0,1),(0,2),(0,3),(0,4),(0,5),(0,6),(0,7),(0,8),(0,9),(0,10),(0,11),(0,12),(2,13),(0,14),(2,15)])],[]⟩ Try.func65 rfl Try.ntmps65 (rs:=[]) rfl (sig:=zfK) (out:=zfJ) rfl Try.call65 (fun X=>by kernel_rfl)

def zdH:Shape:=⟨[(.int .i64),(.int .i64),(.list (.pair (.int .i64) (.pair (.int .i64) (.pair (.int .i64) .unit))))],[(0,.own 100000),(1,.v 0),(2,.v 1),(3,.fn 28 [])],[(100000,.arr 53 2)]⟩
def zdG:Shape:=⟨[.bool,(.list (.pair (.int .i64) (.pair (.int .i64) (.pair (.int .i64) .unit))))],[(0,.v 0)],[(100000,.arr 53 1)]⟩
def zd1:CE:=⟨66,zdH,zdG,fun X=>zbR X.1 X.2.1 X.2.2⟩
theorem zhk:CE.ok Try.prog zd1:=CE.of (Γ:=[zd8]) (by kernel_rfl) zb2 (GOK.cons zeX (GOK.nil)) ⟨[(3,⟨⟨[(.int .i64),(.int .i64),(.list (.pair (.int .i64) (.pair (.int .i64) (.pair (.int .i64) .unit))))],[(0,.own 100000),(9,.v 0),(10,.v 1)],[(100000,.arr 53 2)]⟩,[8,11,12,15,16,17,18,19,20,21,22,23,24,25,26,27,28,29,30,31,32,33,34,35,36,37,38,39,40,41,42,43,44,45,46,47,48,49,50,51,52,53,54,55,56,57,58,59,60,61,62,63,64,65,66,67,68,69,70,71,72,73,74,75,76,77,78,79,80,81,82,83,84,85,86,87,88,89,90,91,92,93,94,95,96,97,98,99,100,101,102,103,104,105,106,107,108,109,110,111,112,113,114,115,116,117,118,119,120,121,122,123,124,125,126,127,128,129,130,131,132,133,134,135,136,137,138,139,140],[],[],0,[]⟩),(5,⟨⟨[(.int .i64)],[(9,.v 0)],[]⟩,[19,20,21,22,23,24,25,26,27,28,29,30,31,32,33,34,35,36,37,38],[],[],0,[]⟩),(14,⟨⟨[(.int .i64),(.list (.pair (.int .i64) (.pair (.int .i64) (.pair (.int .i64) .unit))))],[(0,.own 100000),(11,.v 0)],[(100000,.arr 53 1)]⟩,[68,69,70,71,72,73,74,75,76,77,78,79,80,81,82,83,84,85,86,87,88,89,90,91,92,93,94,95,96,97,98,99,100],[],[],0,[]⟩),(20,⟨⟨[(.int .i64),(.list (.pair (.int .i64) (.pair (.int .i64) (.pair (.int .i64) .unit))))],[(0,.own 100000),(12,.v 0)],[(100000,.arr 53 1)]⟩,[107,108,109,110,111,112,113,114,115,116,117,118,119,120,121,122,123,124,125,126,127,128,129,130,131,132,133,134,135,136,137,138,139,140],[],[],0,[]⟩)],[(6,⟨⟨[(.int .i64)],[(9,.v 0)],[]⟩,[19,20,21,22,23,24,25,26,27,28,29,30,31,32,33,34,35,36,37,38],[],[],0,[]⟩),(15,⟨⟨[(.list (.pair (.int .i64) (.pair (.int .i64) (.pair (.int .i64) .unit))))],[(0,.own 100000)],[(100000,.arr 53 0)]⟩,[11,62,63,64,65,66,67,68,69,70,71,72,73,74,75,76,77,78,79,80,81,82,83,84,85,86,87,88,89,90,91,92,93,94,95,96,97,98,99,100],[],[],0,[]⟩)],[(5,[(0,0),(0,1),(0,2),(0,3),(0,4),(0,5),(0,6),(0,7),(0,8),(0,9),(0,10),(0,11),(0,12),(0,13),(1,14),(0,15),(0,16),(0,17)]),(11,[(0,0),(0,1),(0,2),(0,3),(0,4),(0,5),(0,6),(0,7),(0,8),(0,9),(0,10),(0,11),(0,12),(0,13),(0,14),(2,15),(0,16),(2,17)]),(16,[(0,0),(0,1),(0,2),(0,3),(0,4),(0,5),(0,6),(0,7),(0,8),(0,9),(1,10),(0,11),(0,12)]),(22,[(0,0),(0,1),(0,2),(0,3),(0,4),(0,5),(0,6),(0,7),(0,8),(0,9),(1,10),(0,11),(0,12)]),(23,[(0,0),(0,1),(0,2),(0,3),(0,4),(0,5),(0,6),(0,7),(0,8),(0,9),(0,10),(0,11),(0,12),(0,13),(0,14),(2,15),(0,16),(2,17)]),(17,[(0,0),(0,1),(0,2),(0,3),(0,4),(0,5),(0,6),(0,7),(0,8),(0,9),(0,10),(0,11),(0,12),(0,13),(0,14),(2,15),(0,16),(2,17)])],[]⟩ Try.func66 rfl Try.ntmps66 (rs:=[.tmp 8]) rfl (sig:=zdH) (out:=zdG) rfl Try.call66 (fun X=>by kernel_rfl)

def zfg:Shape:=⟨[(.int .i64),(.int .i64),(.int .i64),(.list (.pair (.int .i64) (.pair (.int .i64) (.pair (.int .i64) .unit))))],[(0,.own 100000),(1,.v 0),(2,.v 1),(3,.v 2),(4,.fn 28 [])],[(100000,.arr 53 3)]⟩
def zff:Shape:=⟨[(.int .i64),(.list (.pair (.int .i64) (.pair (.int .i64) (.pair (.int .i64) .unit))))],[(0,.v 0)],[(100000,.arr 53 1)]⟩
def zfx:CE:=⟨67,zfg,zff,fun X=>zcz X.1 X.2.1 X.2.2.1 X.2.2.2⟩
theorem zjj:CE.ok Try.prog zfx:=CE.of (Γ:=[zd8]) (by kernel_rfl) zb2 (GOK.cons zeX (GOK.nil)) ⟨[(10000003,⟨⟨[(.int .i64),(.int .i64),(.list (.pair (.int .i64) (.pair (.int .i64) (.pair (.int .i64) .unit))))],[(0,.own 100000),(11,.v 0),(12,.v 1)],[(100000,.arr 53 2)]⟩,[31,32,33,34,35,36,37,38,39,40,41,42,43,44,45,46,47,48,49,50,51,52,53,54,55,56,57,58,59,60,61,62,63,64,65,66,67,68,69,70,71,72,73,74,75,76,77,78,79,80,81,82,83,84,85,86,87,88],[],[],0,[]⟩),(3,⟨⟨[(.int .i64)],[(11,.v 0)],[]⟩,[31,32,33,34,35,36,37,38,39,40,41,42,43,44,45,46,47,48,49],[],[],0,[]⟩),(5,⟨⟨[(.int .i64)],[(12,.v 0)],[]⟩,[50,51,52,53,54,55,56,57,58,59,60,61,62,63,64,65,66,67],[],[],0,[]⟩)],[(4,⟨⟨[(.int .i64)],[(11,.v 0)],[]⟩,[31,32,33,34,35,36,37,38,39,40,41,42,43,44,45,46,47,48,49],[],[],0,[]⟩),(6,⟨⟨[(.int .i64)],[(12,.v 0)],[]⟩,[50,51,52,53,54,55,56,57,58,59,60,61,62,63,64,65,66,67],[],[],0,[]⟩)],[(1,[(0,0),(0,1),(0,2),(0,3),(0,4),(0,5),(0,6),(0,7),(0,8),(0,9),(0,10),(0,11),(0,12),(2,13),(0,14),(2,15)]),(3,[(0,0),(0,1),(0,2),(0,3),(0,4),(0,5),(0,6),(0,7),(0,8),(0,9),(0,10),(0,11),(0,12),(1,13),(0,14),(0,15),(0,16)]),(5,[(0,0),(0,1),(0,2),(0,3),(0,4),(0,5),(0,6),(0,7),(0,8),(0,9),(0,10),(0,11),(0,12),(1,13),(0,14),(0,15)]),(8,[(0,0),(0,1),(0,2),(0,3),(0,4),(0,5),(0,6),(0,7),(0,8),(0,9),(0,10),(0,11),(0,12),(2,13),(0,14),(2,15)])],[]⟩ Try.func67 rfl Try.ntmps67 (rs:=[.tmp 10]) rfl (sig:=zfg) (out:=zff) rfl Try.call67 (fun X=>by kernel_rfl)

def zgU:Shape:=⟨[(.int .i64),(.int .i64),(.int .i64),(.list (.pair (.int .i64) (.pair (.int .i64) (.pair (.int .i64) .unit))))],[(0,.own 100000),(1,.v 0),(2,.v 1),(3,.v 2),(4,.fn 28 [])],[(100000,.arr 53 3)]⟩
def zgT:Shape:=⟨[(.int .i64),.bool,(.list (.pair (.int .i64) (.pair (.int .i64) (.pair (.int .i64) .unit))))],[(0,.v 0),(1,.v 1)],[(100000,.arr 53 2)]⟩
def zg9:CE:=⟨68,zgU,zgT,fun X=>zd3 X.1 X.2.1 X.2.2.1 X.2.2.2⟩
theorem zlB:CE.ok Try.prog zg9:=CE.of (Γ:=[zd8]) (by kernel_rfl) zb2 (GOK.cons zeX (GOK.nil)) ⟨[(3,⟨⟨[(.int .i64)],[(12,.v 0)],[]⟩,[32,33,34,35,36,37,38,39,40,41,42,43,44,45,46,47,48,49],[],[],0,[]⟩),(5,⟨⟨[(.int .i64)],[(13,.v 0)],[]⟩,[50,51,52,53,54,55,56,57,58,59,60,61,62,63,64,65,66,67,68],[],[],0,[]⟩),(10000013,⟨⟨[(.int .i64),(.int .i64),(.list (.pair (.int .i64) (.pair (.int .i64) (.pair (.int .i64) .unit))))],[(0,.own 100000),(12,.v 0),(13,.v 1)],[(100000,.arr 53 2)]⟩,[105,106,107,108,109,110,111,112,113,114,115,116,117,118,119,120,121,122,123,124,125,126,127,128,129,130,131,132,133,134,135,136,137,138,139,140,141,142,143,144,145,146,147,148,149,150,151,152,153,154,155,156,157,158,159,160,161,162],[],[],0,[]⟩),(13,⟨⟨[(.int .i64)],[(12,.v 0)],[]⟩,[105,106,107,108,109,110,111,112,113,114,115,116,117,118,119,120,121,122],[],[],0,[]⟩),(15,⟨⟨[(.int .i64)],[(13,.v 0)],[]⟩,[123,124,125,126,127,128,129,130,131,132,133,134,135,136,137,138,139,140,141],[],[],0,[]⟩)],[(4,⟨⟨[(.int .i64)],[(12,.v 0)],[]⟩,[32,33,34,35,36,37,38,39,40,41,42,43,44,45,46,47,48,49],[],[],0,[]⟩),(6,⟨⟨[(.int .i64)],[(13,.v 0)],[]⟩,[50,51,52,53,54,55,56,57,58,59,60,61,62,63,64,65,66,67,68],[],[],0,[]⟩),(14,⟨⟨[(.int .i64)],[(12,.v 0)],[]⟩,[105,106,107,108,109,110,111,112,113,114,115,116,117,118,119,120,121,122],[],[],0,[]⟩),(16,⟨⟨[(.int .i64)],[(13,.v 0)],[]⟩,[123,124,125,126,127,128,129,130,131,132,133,134,135,136,137,138,139,140,141],[],[],0,[]⟩)],[(1,[(0,0),(0,1),(0,2),(0,3),(0,4),(0,5),(0,6),(0,7),(0,8),(0,9),(0,10),(0,11),(0,12),(2,13),(0,14),(2,15)]),(3,[(0,0),(0,1),(0,2),(0,3),(0,4),(0,5),(0,6),(0,7),(0,8),(0,9),(0,10),(0,11),(0,12),(1,13),(0,14),(0,15)]),(5,[(0,0),(0,1),(0,2),(0,3),(0,4),(0,5),(0,6),(0,7),(0,8),(0,9),(0,10),(0,11),(0,12),(1,13),(0,14),(0,15),(0,16)]),(8,[(0,0),(0,1),(0,2),(0,3),(0,4),(0,5),(0,6),(0,7),(0,8),(0,9),(0,10),(0,11),(0,12),(2,13),(0,14),(2,15)]),(10,[(0,0),(0,1),(0,2),(0,3),(0,4),(0,5),(0,6),(0,7),(0,8),(0,9),(0,10),(0,11),(0,12),(2,13),(0,14),(2,15)]),(13,[(0,0),(0,1),(0,2),(0,3),(0,4),(0,5),(0,6),(0,7),(0,8),(0,9),(0,10),(0,11),(0,12),(1,13),(0,14),(0,15)]),(15,[(0,0),(0,1),(0,2),(0,3),(0,4),(0,5),(0,6),(0,7),(0,8),(0,9),(0,10),(0,11),(0,12),(1,13),(0,14),(0,15),(0,16)]),(21,[(0,0),(0,1),(0,2),(0,3),(0,4),(0,5),(0,6),(0,7),(0,8),(0,9),(0,10),(0,11),(0,12),(2,13),(0,14),(2,15)]),(18,[(0,0),(0,1),(0,2),(0,3),(0,4),(0,5),(0,6),(0,7),(0,8),(0,9),(0,10),(0,11),(0,12),(2,13),(0,14),(2,15)])],[]⟩ Try.func68 rfl Try.ntmps68 (rs:=[.tmp 10,.tmp 11]) rfl (sig:=zgU) (out:=zgT) rfl Try.call68 (fun X=>by kernel_rfl)

def zhB:Shape:=⟨[(.int .i64),(.int .i64),(.int .i64),(.list (.pair (.int .i64) (.pair (.int .i64) (.pair (.int .i64) .unit))))],[(0,.own 100000),(1,.v 0),(2,.v 1),(3,.v 2),(4,.fn 28 [])],[(100000,.arr 53 3)]⟩
def zhA:Shape:=⟨[(.list (.pair (.int .i64) (.pair (.int .i64) (.pair (.int .i64) .unit))))],[],[(100000,.arr 53 0)]⟩
def zic:CE:=⟨44,zhB,zhA,LFix zd4⟩
theorem zm1:CE.ok Try.prog zic:=CE.ofRec (Γ:=[zfE,zhx,zfD,zgi,zd1,zfx,zg9,zgt,zd8]) (by kernel_rfl) zb2 (GOK.cons zjE (GOK.cons zmg (GOK.cons zjB (GOK.cons zjY (GOK.cons zhk (GOK.cons zjj (GOK.cons zlB (GOK.cons zkt (GOK.cons zeX (GOK.nil)))))))))) ⟨[(2,⟨⟨[(.int .i64),(.int .i64),(.int .i64),.bool,.bool,(.list (.pair (.int .i64) (.pair (.int .i64) (.pair (.int .i64) .unit))))],[(0,.own 100000),(1,.v 0),(2,.v 1),(3,.v 2),(10,.v 3),(11,.v 4)],[(100000,.arr 53 5)]⟩,[12,13,14,15,16,17,18,19,20,21,22,23,24,25,26,27,28,29,30,31,32,33,34,35,36,37,38,39,40,41,42,43,44,45,46,47,48,49,50,51,52,53,54,55,56,57,58,59,60,61,62,63,64,65,66,67,68,69,70,71,72,73,74,75,76,77,78,79,80,81,82,83,84,85,86,87,88,89,90,91,92,93,94,95,96,97,98,99,100,101,102,103,104,105,106,107,108,109,110,111,112,113,114,115,116,117,118,119,120,121,122,123,124,125,126,127,128,129,130,131,132,133,134,135,136,137,138,139,140,141,142,143,144,145,146,147],[],[],0,[]⟩)],[(9,⟨⟨[(.int .i64),(.list (.pair (.int .i64) (.pair (.int .i64) (.pair (.int .i64) .unit))))],[(0,.own 100000),(3,.v 0)],[(100000,.arr 53 1)]⟩,[38,39,40,41,42,43,44,45,46],[],[],0,[]⟩),(14,⟨⟨[(.int .i64),(.int .i64),(.list (.pair (.int .i64) (.pair (.int .i64) (.pair (.int .i64) .unit))))],[(0,.own 100000),(13,.v 0),(14,.v 1)],[(100000,.arr 53 2)]⟩,[55,56,57,58,59,60,61,62,63,64,65,66,67],[],[],0,[]⟩),(15,⟨⟨[.bool],[(75,.v 0)],[]⟩,[68,69,70,71,72,73,74],[],[],0,[]⟩),(16,⟨⟨[(.list (.pair (.int .i64) (.pair (.int .i64) (.pair (.int .i64) .unit))))],[(0,.own 100000)],[(100000,.arr 53 0)]⟩,[68,69,70,71,72,73,74,75,76,77,78,79,80],[],[],0,[]⟩),(17,⟨⟨[.bool],[(97,.v 0)],[]⟩,[81,82,83,84,85,86,87,88,89,90,91,92,93,94,95,96],[],[],0,[]⟩)],[(17,[(0,0),(0,1),(0,2),(0,3),(0,4),(0,5),(0,6),(0,7),(0,8),(0,9),(0,10),(0,11),(0,12),(1,13),(0,14),(0,15),(0,16)])],[]⟩ Try.func44 rfl Try.ntmps44 (rs:=[]) rfl (sig:=zhB) (out:=zhA) rfl Try.call44 (d:=zd4) (fun rc X=>by kernel_rfl)

def zlf:Shape:=⟨[(.list (.pair (.int .i64) (.pair (.int .i64) (.pair (.int .i64) .unit))))],[(0,.own 100000),(1,.fn 28 [])],[(100000,.arr 53 0)]⟩
def zle:Shape:=⟨[(.list (.pair (.int .i64) (.pair (.int .i64) (.pair (.int .i64) .unit))))],[],[(100000,.arr 53 0)]⟩
def zlZ:CE:=⟨27,zlf,zle,fun X=>ziB X⟩
theorem zra:CE.ok Try.prog zlZ:=CE.of (Γ:=[zic,zm7]) (by kernel_rfl) zb2 (GOK.cons zm1 (GOK.cons zp3 (GOK.nil))) ⟨[],[],[],[]⟩ Try.func27 rfl Try.ntmps27 (rs:=[]) rfl (sig:=zlf) (out:=zle) rfl Try.call27 (fun X=>by kernel_rfl)

def zlY:Shape:=⟨[(.list (.int .i64))],[(0,.own 100000)],[(100000,.arr 3 0)]⟩
def zlX:Shape:=⟨[(.list (.int .i64))],[(0,.own 0)],[(0,.arr 3 0)]⟩
def zmX:CE:=⟨29,zlY,zlX,fun X=>zgj X⟩
theorem zrS:CE.ok Try.prog zmX:=CE.of (Γ:=[]) (by kernel_rfl) zb2 (GOK.nil) ⟨[(4,⟨⟨[(.int .i64)],[(3,.v 0)],[]⟩,[2,4,5,10,11,12,13,14,15,16,17,18,19,20,21,22,23,24,25,26,27,28,29,30,31,32,33,34,35,36,37,38,39,40,41,42,43,44,45,46,47,48,49,50,51,52,53,54,55,56,57,58,59],[],[],0,[]⟩),(9,⟨⟨[(.int .i64),(.int .i64),(.list (.int .i64))],[(0,.own 100000),(3,.v 0),(5,.v 1)],[(100000,.arr 3 2)]⟩,[29,30,31,32,33,34,35,36,37,38,39,40,41,42,43,44,45,46,47,48,49,50,51,52,53],[],[],0,[]⟩)],[],[(6,[(0,0),(0,1),(0,2),(0,3),(0,4),(0,5),(0,6),(0,7),(0,8),(0,9)]),(11,[(0,0),(0,1),(0,2),(0,3),(0,4),(0,5),(0,6),(0,7),(0,8),(0,9)]),(15,[(0,0),(0,1),(1,2),(0,3)])],[]⟩ Try.func29 rfl Try.ntmps29 (rs:=[.tmp 2]) rfl (sig:=zlY) (out:=zlX) rfl Try.call29 (fun X=>by kernel_rfl)

def zj7:Shape:=⟨[(.list (.pair (.int .i64) (.pair (.int .i64) (.pair (.int .i64) .unit))))],[(0,.own 100000)],[(100000,.arr 53 0)]⟩
def zj6:Shape:=⟨[(.list (.pair (.int .i64) (.pair (.int .i64) (.pair (.int .i64) .unit))))],[(0,.own 0)],[(0,.arr 53 0)]⟩
def zlb:CE:=⟨30,zj7,zj6,fun X=>zf5 X⟩
theorem zqf:CE.ok Try.prog zlb:=CE.of (Γ:=[]) (by kernel_rfl) zb2 (GOK.nil) ⟨[(4,⟨⟨[(.int .i64)],[(3,.v 0)],[]⟩,[2,4,5,10,11,12,13,14,15,16,17,18,19,20,21,22,23,24,25,26,27,28,29,30,31,32,33,34,35,36,37,38,39,40,41,42,43,44,45,46,47,48,49,50,51,52,53,54,55,56,57,58,59],[],[],0,[]⟩),(9,⟨⟨[(.int .i64),(.int .i64),(.list (.pair (.int .i64) (.pair (.int .i64) (.pair (.int .i64) .unit))))],[(0,.own 100000),(3,.v 0),(5,.v 1)],[(100000,.arr 53 2)]⟩,[29,30,31,32,33,34,35,36,37,38,39,40,41,42,43,44,45,46,47,48,49,50,51,52,53],[],[],0,[]⟩)],[],[(6,[(0,0),(0,1),(0,2),(0,3),(0,4),(0,5),(0,6),(0,7),(0,8),(0,9)]),(11,[(0,0),(0,1),(0,2),(0,3),(0,4),(0,5),(0,6),(0,7),(0,8),(0,9)]),(15,[(0,0),(0,1),(1,2),(0,3)])],[]⟩ Try.func30 rfl Try.ntmps30 (rs:=[.tmp 2]) rfl (sig:=zj7) (out:=zj6) rfl Try.call30 (fun X=>by kernel_rfl)

def zny:Shape:=⟨[(.int .i64),(.int .i64),(.list (.int .i64)),(.list (.pair (.int .i64) (.pair (.int .i64) (.pair (.int .i64) .unit)))),(.list (.int .i64))],[(0,.agg [.v 0,.v 1,.own 100000,.own 100001,.own 100002])],[(100000,.arr 3 2),(100001,.arr 53 3),(100002,.arr 3 4)]⟩
def znx:Shape:=⟨[(.pair (.int .i64) (.pair (.int .i64) (.pair (.list (.int .i64)) (.pair (.list (.pair (.int .i64) (.pair (.int .i64) (.pair (.int .i64) .unit)))) (.pair (.list (.int .i64)) .unit)))))],[(0,.v 0)],[]⟩
def zn9:CE:=⟨14,zny,znx,fun X=>zhZ X.1 X.2.1 X.2.2.1 X.2.2.2.1 X.2.2.2.2⟩
theorem ztx:CE.ok Try.prog zn9:=CE.of (Γ:=[zpV,zlZ,zmX,zlb]) (by kernel_rfl) zb2 (GOK.cons zu4 (GOK.cons zra (GOK.cons zrS (GOK.cons zqf (GOK.nil))))) ⟨[],[(4,⟨⟨[(.int .i64),(.int .i64),(.list (.int .i64)),(.list (.pair (.int .i64) (.pair (.int .i64) (.pair (.int .i64) .unit)))),(.list (.int .i64))],[(1,.ptr 0 0)],[(0,.box 27 [.v 0,.v 1,.own 2,.own 3,.own 4]),(2,.arr 3 2),(3,.arr 53 3),(4,.arr 3 4)]⟩,[3,6,9,12,13,14,15,16,17,18,19,20,21,22,23],[100000,100001,100002],[1],5,[]⟩)],[],[(4,(.pnd (.one 0 (.one 3 (.one 6 (.rd 1 1 [2,5,8,9,10,11,12,13,14] (.rd 1 4 [5,8,9,10,11,12,13,14] (.rd 1 7 [8,9,10,11,12,13,14] (.alt 2 2 (.one 9 (.alt 2 5 (.alt 2 8 (.alt 2 10 (.one 11 (.alt 2 12 (.one 13 (.alt 2 14 .leaf .stop)) .stop)) .stop) .stop) .stop)) .stop)))))))))]⟩ Try.func14 rfl Try.ntmps14 (rs:=[.cell 2 27]) rfl (sig:=zny) (out:=znx) rfl Try.call14 (fun X=>by kernel_rfl)

def zre:Shape:=⟨[.str],[(0,.v 0)],[]⟩
def zrd:Shape:=⟨[(.pair (.int .i64) (.pair (.int .i64) (.pair (.list (.int .i64)) (.pair (.list (.pair (.int .i64) (.pair (.int .i64) (.pair (.int .i64) .unit)))) (.pair (.list (.int .i64)) .unit))))),(.int .i64)],[(0,.v 0),(1,.v 1)],[]⟩
def zsH:CE:=⟨4,zre,zrd,fun X=>zuA X⟩
theorem zxA:CE.ok Try.prog zsH:=CE.of (Γ:=[zpZ,zm5,zly,zn9]) (by kernel_rfl) zb2 (GOK.cons zu7 (GOK.cons zrY (GOK.cons zqj (GOK.cons ztx (GOK.nil))))) ⟨[(7,⟨⟨[(.int .i64),(.list (.pair (.int .i64) (.pair (.int .i64) (.pair (.int .i64) .unit)))),(.list (.int .i64)),(.list (.int .i64))],[(6,.ptr 2 0),(7,.own 3),(35,.v 0)],[(2,.box 47 [.v 1,.own 4]),(3,.arr 3 2),(4,.arr 3 3)]⟩,[8,9,32,36,37,38,39,40,41,42,43,44,45,46,47,48,49,50,51,52,53,54,55,56,57,58,59,60,61,62,63,64,65],[],[0,1],5,[(2,1,some 3,(.int .i64))]⟩),(17,⟨⟨[(.int .i64),(.int .i64),(.int .i64),(.list (.int .i64)),(.list (.int .i64))],[(12,.ptr 6 0),(85,.v 0)],[(6,.box 27 [.v 1,.v 2,.own 5,.nil,.own 7]),(5,.arr 3 3),(7,.arr 3 4)]⟩,[13,82,83,86,87,88,89,90,91,92,93,94,95,96,97,98,99],[],[0,1,2,3,4],8,[(6,4,some 3,(.int .i64))]⟩),(22,⟨⟨[(.int .i64),(.int .i64),(.int .i64),(.list (.int .i64)),(.list (.int .i64)),(.list (.pair (.int .i64) (.pair (.int .i64) (.pair (.int .i64) .unit))))],[(12,.ptr 6 0),(100,.v 0)],[(6,.box 27 [.v 1,.v 2,.own 5,.own 8,.own 7]),(5,.arr 3 3),(7,.arr 3 4),(8,.arr 53 5)]⟩,[14,15,16,17,18,19,20,101,102,103,104,105,106,107,108,109,110,111,112,113,114,115,116,117,118,119,120,121,122,123,124,125,126,127,128,129,130,131,132,133,134,135,136,137,138,139,140,141,142,143,144,145,146,147,148,149,150,151,152,153,154,155,156,157,158,159,160,161,162,163,164,165,166,167,168,169,170,171,172,173,174,175,176,177,178,179,180,181,182,183,184,185,186,187,188,189],[],[0,1,2,3,4],9,[(6,3,some 53,(.pair (.int .i64) (.pair (.int .i64) (.pair (.int .i64) .unit))))]⟩),(25,⟨⟨[(.int .i64),(.int .i64),(.int .i64),(.list (.int .i64)),(.list (.pair (.int .i64) (.pair (.int .i64) (.pair (.int .i64) .unit)))),(.list (.int .i64))],[(12,.ptr 6 0),(104,.v 0)],[(6,.box 27 [.v 1,.v 2,.own 5,.own 8,.own 7]),(5,.arr 3 3),(8,.arr 53 4),(7,.arr 3 5)]⟩,[15,16,17,18,19,20,105,106,107,108,109,110,111,112,113,114,115,116,117,118,119,120,121,122,123,124,125,126,127,128,129,130,131,132,133,134,135,136,137,138,139,140,141,142,143,144,145,146,147,148,149,150,151,152,153,154,155,156,157,158,159,160,161,162,163,164,165,166,167,168,169,170,171,172,173,174,175,176,177,178,179,180,181,182,183,184,185,186,187,188],[],[0,1,2,3,4],9,[]⟩),(31,⟨⟨[(.int .i64),(.int .i64),(.int .i64),(.list (.int .i64)),(.list (.pair (.int .i64) (.pair (.int .i64) (.pair (.int .i64) .unit)))),(.list (.int .i64))],[(12,.ptr 6 0),(131,.v 0)],[(6,.box 27 [.v 1,.v 2,.own 5,.own 10,.own 7]),(5,.arr 3 3),(10,.arr 53 4),(7,.arr 3 5)]⟩,[17,18,19,20,117,127,128,129,132,133,134,135,136,137,138,139,140,141,142,143,144,145,146,147,148,149,150,151,152,153,154,155,156,157,158,159,160,161,162,163,164,165,166,167,168,169,170,171,172,173,174,175,176,177,178,179,180,181,182,183,184,185,186,187],[],[0,1,2,3,4,9],11,[]⟩),(35,⟨⟨[(.int .i64),(.int .i64),(.int .i64),(.list (.int .i64)),(.list (.pair (.int .i64) (.pair (.int .i64) (.pair (.int .i64) .unit)))),(.list (.int .i64))],[(12,.ptr 6 0),(140,.v 0)],[(6,.box 27 [.v 1,.v 2,.own 5,.own 10,.own 7]),(5,.arr 3 3),(10,.arr 53 4),(7,.arr 3 5)]⟩,[18,19,20,141,142,143,144,145,146,147,148,149,150,151,152,153,154,155,156,157,158,159,160,161,162,163,164,165,166,167,168,169,170,171,172,173,174,175,176,177,178,179,180,181,182,183,184,185,186],[],[0,1,2,3,4,9],11,[]⟩)],[(9,⟨⟨[.bool],[(47,.v 0)],[]⟩,[40,41,42,43,44,45,46],[],[0,1,2,3,4,5],6,[]⟩),(10,⟨⟨[(.list (.pair (.int .i64) (.pair (.int .i64) (.pair (.int .i64) .unit)))),(.list (.int .i64))],[(6,.ptr 2 0)],[(2,.box 47 [.v 0,.own 6]),(6,.arr 3 1)]⟩,[40,41,42,43,44,45,46,47,48,49,50,51,52,53,54,55,56,57],[4],[0,1,3,5],7,[]⟩),(29,⟨⟨[(.int .i64),(.int .i64),(.list (.int .i64)),(.list (.pair (.int .i64) (.pair (.int .i64) (.pair (.int .i64) .unit)))),(.list (.int .i64))],[(12,.ptr 6 0)],[(6,.box 27 [.v 0,.v 1,.own 5,.own 10,.own 7]),(5,.arr 3 2),(10,.arr 53 3),(7,.arr 3 4)]⟩,[111,112,113,114,115,116,117,118,119,120,121,122,123,124,125,126,127,128,129],[8],[0,1,2,3,4,9],11,[]⟩),(42,⟨⟨[(.int .i64)],[(19,.v 0)],[]⟩,[20,144,145,146,147,148,149,150,151,152,153,154,155,156,157,158,159,160,161,162,163,164,165,166,167,168],[],[0,1,2,3,4,5,6,7,9,10],11,[]⟩)],[(14,[(0,0),(0,1),(0,2),(0,3),(0,4),(0,5),(0,6),(0,7),(0,8),(0,9),(0,10)]),(15,[(0,0),(0,1),(0,2),(0,3),(0,4),(0,5),(0,6),(2,7),(1,8),(2,9),(2,10)]),(48,[(1,0),(2,1),(2,2),(0,3)])],[]⟩ Try.func4 rfl Try.ntmps4 (rs:=[.cell 2 27,.tmp 3]) rfl (sig:=zre) (out:=zrd) rfl Try.call4 (fun X=>by kernel_rfl)

def znL:Shape:=⟨[(.pair .str (.pair (.int .i64) (.pair (.int .i64) (.pair (.int .i64) (.pair (.int .i64) (.pair (.list (.pair (.int .u8) (.pair (.int .i64) (.pair (.int .i64) .unit)))) (.pair (.pair (.int .i64) (.pair (.int .i64) .unit)) .unit)))))))],[(0,.addr 0)],[]⟩
def znK:Shape:=⟨[.bool],[(0,.v 0)],[]⟩
def zgP:CE:=⟨33,znL,znK,fun X=>zh2 X⟩
theorem ziy:CE.ok Try.prog zgP:=CE.of (Γ:=[]) (by kernel_rfl) zb2 (GOK.nil) ⟨[],[],[],[]⟩ Try.func33 rfl Try.ntmps33 (rs:=[.tmp 2]) rfl (sig:=znL) (out:=znK) rfl Try.call33 (fun X=>by kernel_rfl)

def zmH:Shape:=⟨[(.pair .str (.pair (.int .i64) (.pair (.int .i64) (.pair (.int .i64) (.pair (.int .i64) (.pair (.list (.pair (.int .u8) (.pair (.int .i64) (.pair (.int .i64) .unit)))) (.pair (.pair (.int .i64) (.pair (.int .i64) .unit)) .unit)))))))],[(0,.addr 0)],[]⟩
def zmG:Shape:=⟨[(.int .u8)],[(0,.v 0)],[]⟩
def zf2:CE:=⟨32,zmH,zmG,fun X=>zeI X⟩
theorem zhI:CE.ok Try.prog zf2:=CE.of (Γ:=[]) (by kernel_rfl) zb2 (GOK.nil) ⟨[],[],[(1,[(0,0),(0,1),(0,2),(0,3),(0,4),(0,5),(0,6),(0,7),(0,8),(0,9)]),(3,[(0,0),(0,1),(0,2),(0,3),(0,4),(0,5),(0,6),(0,7),(0,8),(0,9)])],[]⟩ Try.func32 rfl Try.ntmps32 (rs:=[.tmp 2]) rfl (sig:=zmH) (out:=zmG) rfl Try.call32 (fun X=>by kernel_rfl)

def zlM:Shape:=⟨[(.int .i64),.str,(.int .i64),(.int .i64),(.int .i64),(.int .i64),(.int .i64),(.int .i64),(.list (.pair (.int .u8) (.pair (.int .i64) (.pair (.int .i64) .unit))))],[(0,.ptr 100000 0),(1,.v 0)],[(100000,.box 58 [.v 1,.v 2,.v 3,.v 4,.v 5,.own 100001,.v 6,.v 7]),(100001,.arr 83 8)]⟩
def zlL:Shape:=⟨[.str,(.int .i64),(.int .i64),(.int .i64),(.int .i64),(.list (.pair (.int .u8) (.pair (.int .i64) (.pair (.int .i64) .unit)))),(.int .i64),(.int .i64)],[],[(100000,.box 58 [.v 0,.v 1,.v 2,.v 3,.v 4,.own 100,.v 6,.v 7]),(100,.arr 83 5)]⟩
def zgZ:CE:=⟨16,zlM,zlL,fun X=>zeh X.1 X.2.1 X.2.2.1 X.2.2.2.1 X.2.2.2.2.1 X.2.2.2.2.2.1 X.2.2.2.2.2.2.1 X.2.2.2.2.2.2.2.1 X.2.2.2.2.2.2.2.2⟩
theorem zja:CE.ok Try.prog zgZ:=CE.of (Γ:=[]) (by kernel_rfl) zb2 (GOK.nil) ⟨[],[],[],[]⟩ Try.func16 rfl Try.ntmps16 (rs:=[]) rfl (sig:=zlM) (out:=zlL) rfl Try.call16 (fun X=>by kernel_rfl)

def zjx:Shape:=⟨[(.int .u8),.str,(.int .i64),(.int .i64),(.int .i64),(.int .i64),(.int .i64),(.int .i64),(.list (.pair (.int .u8) (.pair (.int .i64) (.pair (.int .i64) .unit))))],[(0,.ptr 100000 0),(1,.v 0)],[(100000,.box 58 [.v 1,.v 2,.v 3,.v 4,.v 5,.own 100001,.v 6,.v 7]),(100001,.arr 83 8)]⟩
def zjw:Shape:=⟨[.str,(.int .i64),(.int .i64),(.int .i64),(.int .i64),(.list (.pair (.int .u8) (.pair (.int .i64) (.pair (.int .i64) .unit)))),(.int .i64),(.int .i64)],[],[(100000,.box 58 [.v 0,.v 1,.v 2,.v 3,.v 4,.own 100,.v 6,.v 7]),(100,.arr 83 5)]⟩
def zdW:CE:=⟨34,zjx,zjw,fun X=>zaH X.1 X.2.1 X.2.2.1 X.2.2.2.1 X.2.2.2.2.1 X.2.2.2.2.2.1 X.2.2.2.2.2.2.1 X.2.2.2.2.2.2.2.1 X.2.2.2.2.2.2.2.2⟩
theorem zfk:CE.ok Try.prog zdW:=CE.of (Γ:=[zgZ]) (by kernel_rfl) zb2 (GOK.cons zja (GOK.nil)) ⟨[],[(0,⟨⟨[.bool],[(4,.v 0)],[]⟩,[5,6,7,8,9,10,11,12,13,14,15,16,17,18,19,20,21,22],[],[],0,[]⟩),(3,⟨⟨[.str,(.int .i64),(.int .i64),(.int .i64),(.int .i64),(.int .i64),(.int .i64),(.list (.pair (.int .u8) (.pair (.int .i64) (.pair (.int .i64) .unit))))],[(0,.ptr 100000 0)],[(100000,.box 58 [.v 0,.v 1,.v 2,.v 3,.v 4,.own 100001,.v 5,.v 6]),(100001,.arr 83 7)]⟩,[30,31,32,33,34,35,36,37],[],[],0,[]⟩),(4,⟨⟨[.bool],[(52,.v 0)],[]⟩,[38,39,40,41,42,43,44,45,46,47,48,49,50,51],[],[],0,[]⟩)],[],[]⟩ Try.func34 rfl Try.ntmps34 (rs:=[]) rfl (sig:=zjx) (out:=zjw) rfl Try.call34 (fun X=>by kernel_rfl)

def zmO:Shape:=⟨[(.int .u8),(.int .i64),(.int .i64),.str,(.int .i64),(.int .i64),(.int .i64),(.int .i64),(.int .i64),(.int .i64),(.list (.pair (.int .u8) (.pair (.int .i64) (.pair (.int .i64) .unit))))],[(0,.ptr 100000 0),(1,.v 0),(2,.v 1),(3,.v 2)],[(100000,.box 58 [.v 3,.v 4,.v 5,.v 6,.v 7,.own 100001,.v 8,.v 9]),(100001,.arr 83 10)]⟩
def zmN:Shape:=⟨[(.int .i64),.str,(.int .i64),(.int .i64),(.int .i64),(.int .i64),(.list (.pair (.int .u8) (.pair (.int .i64) (.pair (.int .i64) .unit)))),(.int .i64),(.int .i64)],[(0,.v 0)],[(100000,.box 58 [.v 1,.v 2,.v 3,.v 4,.v 5,.own 100,.v 7,.v 8]),(100,.arr 83 6)]⟩
def zf3:CE:=⟨35,zmO,zmN,fun X=>zbH X.1 X.2.1 X.2.2.1 X.2.2.2.1 X.2.2.2.2.1 X.2.2.2.2.2.1 X.2.2.2.2.2.2.1 X.2.2.2.2.2.2.2.1 X.2.2.2.2.2.2.2.2.1 X.2.2.2.2.2.2.2.2.2.1 X.2.2.2.2.2.2.2.2.2.2⟩
theorem zhK:CE.ok Try.prog zf3:=CE.of (Γ:=[]) (by kernel_rfl) zb2 (GOK.nil) ⟨[],[],[],[]⟩ Try.func35 rfl Try.ntmps35 (rs:=[.tmp 8]) rfl (sig:=zmO) (out:=zmN) rfl Try.call35 (fun X=>by kernel_rfl)

def zaP:Shape:=⟨[.str,(.int .i64),(.int .i64),(.int .i64),(.int .i64),(.int .i64),(.int .i64),(.list (.pair (.int .u8) (.pair (.int .i64) (.pair (.int .i64) .unit))))],[(0,.ptr 100000 0)],[(100000,.box 58 [.v 0,.v 1,.v 2,.v 3,.v 4,.own 100001,.v 5,.v 6]),(100001,.arr 83 7)]⟩
def zaO:Shape:=⟨[(.int .i64),.str,(.int .i64),(.int .i64),(.int .i64),(.int .i64),(.list (.pair (.int .u8) (.pair (.int .i64) (.pair (.int .i64) .unit)))),(.int .i64),(.int .i64)],[(0,.v 0)],[(100000,.box 58 [.v 1,.v 2,.v 3,.v 4,.v 5,.own 100,.v 7,.v 8]),(100,.arr 83 6)]⟩
def zj3:CE:=⟨15,zaP,zaO,LFix zfR⟩
def zmJ:Shape:=⟨[.str,(.int .i64),(.int .i64),(.int .i64),(.int .i64),(.int .i64),(.int .i64),(.list (.pair (.int .u8) (.pair (.int .i64) (.pair (.int .i64) .unit))))],[(0,.ptr 100000 0)],[(100000,.box 58 [.v 0,.v 1,.v 2,.v 3,.v 4,.own 100001,.v 5,.v 6]),(100001,.arr 83 7)]⟩
def zmI:Shape:=⟨[(.int .i64),.str,(.int .i64),(.int .i64),(.int .i64),(.int .i64),(.list (.pair (.int .u8) (.pair (.int .i64) (.pair (.int .i64) .unit)))),(.int .i64),(.int .i64)],[(0,.v 0)],[(100000,.box 58 [.v 1,.v 2,.v 3,.v 4,.v 5,.own 100,.v 7,.v 8]),(100,.arr 83 6)]⟩
def znM (rec:Tup zaP.tys->Option (Tup zaO.tys)):CE:=⟨70,zmJ,zmI,LFix (ziz (fun c c_1 c_2 c_3 c_4 c_5 c_6 l=>rec (c,c_1,c_2,c_3,c_4,c_5,c_6,l)))⟩
theorem zsW (rec:Tup zaP.tys->Option (Tup zaO.tys)) (hrec:CE.ok Try.prog ⟨15,zaP,zaO,rec⟩):CE.ok Try.prog (znM rec):=CE.ofRecM (Γ:=fun _=>[zdW,zf3,zgZ,⟨15,zaP,zaO,rec⟩,zgP,zf2]) (by kernel_rfl) zb2 ⟨[],[(9,⟨⟨[.bool],[(14,.v 0)],[]⟩,[15,16,17,18],[],[],0,[]⟩),(16,⟨⟨[.bool],[(28,.v 0)],[]⟩,[29,30,31,32],[],[],0,[]⟩)],[],[]⟩ Try.func70 rfl Try.ntmps70 (rs:=[.tmp 2]) rfl (sig:=zmJ) (out:=zmI) rfl (fun _ _=>(GOK.cons zfk (GOK.cons zhK (GOK.cons zja (GOK.cons hrec (GOK.cons ziy (GOK.cons zhI (GOK.nil)))))))) Try.call70 (d:=ziz (fun c c_1 c_2 c_3 c_4 c_5 c_6 l=>rec (c,c_1,c_2,c_3,c_4,c_5,c_6,l))) (fun rc X=>by kernel_rfl)
def zlP:Shape:=⟨[.str,(.int .i64),(.int .i64),(.int .i64),(.int .i64),(.int .i64),(.int .i64),(.list (.pair (.int .u8) (.pair (.int .i64) (.pair (.int .i64) .unit))))],[(0,.ptr 100000 0)],[(100000,.box 58 [.v 0,.v 1,.v 2,.v 3,.v 4,.own 100001,.v 5,.v 6]),(100001,.arr 83 7)]⟩
def zlO:Shape:=⟨[(.int .i64),.str,(.int .i64),(.int .i64),(.int .i64),(.int .i64),(.list (.pair (.int .u8) (.pair (.int .i64) (.pair (.int .i64) .unit)))),(.int .i64),(.int .i64)],[(0,.v 0)],[(100000,.box 58 [.v 1,.v 2,.v 3,.v 4,.v 5,.own 100,.v 7,.v 8]),(100,.arr 83 6)]⟩
def zmK (rec:Tup zaP.tys->Option (Tup zaO.tys)):CE:=⟨47,zlP,zlO,LFix (zhJ (fun c c_1 c_2 c_3 c_4 c_5 c_6 l=>rec (c,c_1,c_2,c_3,c_4,c_5,c_6,l)))⟩
theorem zrO (rec:Tup zaP.tys->Option (Tup zaO.tys)) (hrec:CE.ok Try.prog ⟨15,zaP,zaO,rec⟩):CE.ok Try.prog (zmK rec):=CE.ofRecM (Γ:=fun _=>[znM rec,zdW,zf3,zf2,zgP]) (by kernel_rfl) zb2 ⟨[],[(5,⟨⟨[],[],[]⟩,[2,13,14,15,16,17,18,19,20,21,22,23],[],[100],101,[]⟩)],[],[]⟩ Try.func47 rfl Try.ntmps47 (rs:=[.tmp 2]) rfl (sig:=zlP) (out:=zlO) rfl (fun _ _=>(GOK.cons (zsW rec hrec) (GOK.cons zfk (GOK.cons zhK (GOK.cons zhI (GOK.cons ziy (GOK.nil))))))) Try.call47 (d:=zhJ (fun c c_1 c_2 c_3 c_4 c_5 c_6 l=>rec (c,c_1,c_2,c_3,c_4,c_5,c_6,l))) (fun rc X=>by kernel_rfl)
def zlR:Shape:=⟨[.str,(.int .i64),(.int .i64),(.int .i64),(.int .i64),(.int .i64),(.int .i64),(.list (.pair (.int .u8) (.pair (.int .i64) (.pair (.int .i64) .unit))))],[(0,.ptr 100000 0)],[(100000,.box 58 [.v 0,.v 1,.v 2,.v 3,.v 4,.own 100001,.v 5,.v 6]),(100001,.arr 83 7)]⟩
def zlQ:Shape:=⟨[(.int .i64),.str,(.int .i64),(.int .i64),(.int .i64),(.int .i64),(.list (.pair (.int .u8) (.pair (.int .i64) (.pair (.int .i64) .unit)))),(.int .i64),(.int .i64)],[(0,.v 0)],[(100000,.box 58 [.v 1,.v 2,.v 3,.v 4,.v 5,.own 100,.v 7,.v 8]),(100,.arr 83 6)]⟩
def zmP (rec:Tup zaP.tys->Option (Tup zaO.tys)):CE:=⟨31,zlR,zlQ,fun X=>zcD (fun c c_1 c_2 c_3 c_4 c_5 c_6 l=>rec (c,c_1,c_2,c_3,c_4,c_5,c_6,l)) X.1 X.2.1 X.2.2.1 X.2.2.2.1 X.2.2.2.2.1 X.2.2.2.2.2.1 X.2.2.2.2.2.2.1 X.2.2.2.2.2.2.2⟩
theorem zrP (rec:Tup zaP.tys->Option (Tup zaO.tys)) (hrec:CE.ok Try.prog ⟨15,zaP,zaO,rec⟩):CE.ok Try.prog (zmP rec):=CE.of (Γ:=[zmK rec,zdW,zf3,zf2,zgP]) (by kernel_rfl) zb2 (GOK.cons (zrO rec hrec) (GOK.cons zfk (GOK.cons zhK (GOK.cons zhI (GOK.cons ziy (GOK.nil)))))) ⟨[(2,⟨⟨[(.int .i64),.str,(.int .i64),(.int .i64),(.int .i64),(.int .i64),(.int .i64),(.int .i64),(.list (.pair (.int .u8) (.pair (.int .i64) (.pair (.int .i64) .unit))))],[(0,.ptr 100000 0),(3,.v 0)],[(100000,.box 58 [.v 1,.v 2,.v 3,.v 4,.v 5,.own 100,.v 6,.v 7]),(100,.arr 83 8)]⟩,[2,4,5,6,9,10,11,12,13,14,15,16,17,18,19,20,21,22,23,24,25,26,27,28],[],[],101,[]⟩)],[],[],[]⟩ Try.func31 rfl Try.ntmps31 (rs:=[.tmp 2]) rfl (sig:=zlR) (out:=zlQ) rfl Try.call31 (fun X=>by kernel_rfl)
theorem zpr:CE.ok Try.prog zj3:=CE.ofRecM (Γ:=fun rec=>[zmP rec,zdW,zf3,zf2,zgP]) (by kernel_rfl) zb2 ⟨[(2,⟨⟨[(.int .i64),.str,(.int .i64),(.int .i64),(.int .i64),(.int .i64),(.int .i64),(.int .i64),(.list (.pair (.int .u8) (.pair (.int .i64) (.pair (.int .i64) .unit))))],[(0,.ptr 100000 0),(3,.v 0)],[(100000,.box 58 [.v 1,.v 2,.v 3,.v 4,.v 5,.own 100,.v 6,.v 7]),(100,.arr 83 8)]⟩,[2,4,5,6,9,10,11,12,13,14,15,16,17,18,19,20,21,22,23,24,25,26,27,28],[],[],101,[]⟩)],[],[],[]⟩ Try.func15 rfl Try.ntmps15 (rs:=[.tmp 2]) rfl (sig:=zaP) (out:=zaO) rfl (fun rec hrec=>(GOK.cons (zrP rec hrec) (GOK.cons zfk (GOK.cons zhK (GOK.cons zhI (GOK.cons ziy (GOK.nil))))))) Try.call15 (d:=zfR) (fun rc X=>by kernel_rfl)
def zsz:Shape:=⟨[.str],[(0,.v 0)],[]⟩
def zsy:Shape:=⟨[(.int .i64),(.pair (.int .i64) (.pair (.int .i64) .unit)),(.list (.pair (.int .u8) (.pair (.int .i64) (.pair (.int .i64) .unit))))],[(0,.own 0),(1,.v 0),(2,.v 1)],[(0,.arr 83 2)]⟩
def zus:CE:=⟨5,zsz,zsy,fun X=>zq7 X⟩
theorem zyz:CE.ok Try.prog zus:=CE.of (Γ:=[zj3,zgZ]) (by kernel_rfl) zb2 (GOK.cons zpr (GOK.cons zja (GOK.nil))) ⟨[],[],[(8,[(0,0),(0,1),(0,2),(0,3),(0,4),(0,5),(2,6)])],[]⟩ Try.func5 rfl Try.ntmps5 (rs:=[.tmp 2,.tmp 3,.cell 4 33]) rfl (sig:=zsz) (out:=zsy) rfl Try.call5 (fun X=>by kernel_rfl)

def zpF:Shape:=⟨[(.pair (.int .i64) (.pair (.int .i64) (.pair (.list (.int .i64)) (.pair (.list (.pair (.int .i64) (.pair (.int .i64) (.pair (.int .i64) .unit)))) (.pair (.list (.int .i64)) .unit)))))],[(0,.v 0)],[]⟩
def zpE:Shape:=⟨[.bool],[(0,.v 0)],[]⟩
def zqJ:CE:=⟨6,zpF,zpE,fun X=>zpc X⟩
theorem zwk:CE.ok Try.prog zqJ:=CE.of (Γ:=[]) (by kernel_rfl) zb2 (GOK.nil) ⟨[],[],[],[]⟩ Try.func6 rfl Try.ntmps6 (rs:=[.tmp 2]) rfl (sig:=zpF) (out:=zpE) rfl Try.call6 (fun X=>by kernel_rfl)

def zsp:Shape:=⟨[(.pair (.int .i64) (.pair (.int .i64) (.pair (.int .i64) .unit))),(.pair (.int .i64) (.pair (.int .i64) (.pair (.int .i64) .unit)))],[(0,.v 0),(1,.v 1)],[]⟩
def zso:Shape:=⟨[.bool],[(0,.v 0)],[]⟩
def zuc:CE:=⟨17,zsp,zso,fun X=>ztj X.1 X.2⟩
theorem zys:CE.ok Try.prog zuc:=CE.of (Γ:=[]) (by kernel_rfl) zb2 (GOK.nil) ⟨[],[],[],[]⟩ Try.func17 rfl Try.ntmps17 (rs:=[.tmp 4]) rfl (sig:=zsp) (out:=zso) rfl Try.call17 (fun X=>by kernel_rfl)

def zsr:Shape:=⟨[(.pair (.int .i64) (.pair (.int .i64) (.pair (.list (.int .i64)) (.pair (.list (.pair (.int .i64) (.pair (.int .i64) (.pair (.int .i64) .unit)))) (.pair (.list (.int .i64)) .unit)))))],[(0,.v 0)],[]⟩
def zsq:Shape:=⟨[(.int .i64)],[(0,.v 0)],[]⟩
def zui:CE:=⟨7,zsr,zsq,fun X=>ztk X⟩
theorem zyt:CE.ok Try.prog zui:=CE.of (Γ:=[zuc]) (by kernel_rfl) zb2 (GOK.cons zys (GOK.nil)) ⟨[(6,⟨⟨[(.int .i64)],[(3,.v 0)],[]⟩,[2,33,34,35,36,37,38,39,40,41,42,43,44,45,46,47,48,49,50,51,52,53,54,55],[],[0],1,[]⟩),(11,⟨⟨[(.int .i64)],[(4,.v 0)],[]⟩,[2,56,57,58,59,60,61,62,63,64,65,66,67,68,69,70,71,72,73,74,75,76,77,78],[],[0],1,[]⟩),(16,⟨⟨[(.int .i64)],[(5,.v 0)],[]⟩,[2,6,79,80,81,82,83,84,85,86,87,88,89,90,91,92,93,94,95,96,97,98,99,100,101,102,103,104,105,106,107,108,109,110,111,112,113,114,115,116,117,118,119,120,121,122,123,124],[],[0],1,[]⟩),(22,⟨⟨[(.int .i64)],[(7,.v 0)],[]⟩,[2,125,126,127,128,129,130,131,132,133,134,135,136,137,138,139,140,141,142,143],[],[0],1,[]⟩),(27,⟨⟨[(.int .i64)],[(8,.v 0)],[]⟩,[2,144,145,146,147,148,149,150,151,152,153,154,155,156,157,158,159,160,161,162],[],[0],1,[]⟩),(32,⟨⟨[(.int .i64)],[(9,.v 0)],[]⟩,[2,10,163,164,165,166,167,168,169,170,171,172,173,174,175,176,177,178,179,180,181,182,183],[],[0],1,[]⟩)],[],[(8,[(0,0),(0,1),(0,2),(0,3),(0,4),(0,5),(0,6),(0,7),(0,8),(0,9),(0,10),(0,11),(0,12),(0,13),(0,14),(0,15)]),(13,[(0,0),(0,1),(0,2),(0,3),(0,4),(0,5),(0,6),(0,7),(0,8),(0,9),(0,10),(0,11),(0,12),(0,13),(0,14),(0,15)]),(24,[(0,0),(0,1),(0,2),(0,3),(0,4),(0,5),(0,6),(0,7),(0,8),(0,9),(0,10),(0,11)]),(29,[(0,0),(0,1),(0,2),(0,3),(0,4),(0,5),(0,6),(0,7),(0,8),(0,9),(0,10),(0,11)]),(34,[(0,0),(0,1),(0,2),(0,3),(0,4),(0,5),(0,6),(0,7),(0,8),(0,9),(0,10),(1,11),(0,12)])],[]⟩ Try.func7 rfl Try.ntmps7 (rs:=[.tmp 2]) rfl (sig:=zsr) (out:=zsq) rfl Try.call7 (fun X=>by kernel_rfl)

def zvx:Shape:=⟨[(.int .i64),(.list (.int .i64))],[(0,.v 0),(1,.v 1)],[]⟩
def zvw:Shape:=⟨[(.int .i64)],[(0,.v 0)],[]⟩
def zxq:CE:=⟨18,zvx,zvw,fun X=>zxo X.1 X.2⟩
theorem zBF:CE.ok Try.prog zxq:=CE.of (Γ:=[]) (by kernel_rfl) zb2 (GOK.nil) ⟨[(6,⟨⟨[(.int .i64)],[(5,.v 0)],[]⟩,[4,15,16,17,18,19,20,21,22,23,24,25,26,27,28,29,30,31,32,33],[],[],0,[]⟩)],[],[],[]⟩ Try.func18 rfl Try.ntmps18 (rs:=[.tmp 4]) rfl (sig:=zvx) (out:=zvw) rfl Try.call18 (fun X=>by kernel_rfl)

def zsm:Shape:=⟨[(.int .i64),(.pair (.list (.int .i64)) (.pair (.list (.int .i64)) .unit))],[(0,.v 0),(1,.v 1)],[]⟩
def zsl:Shape:=⟨[(.int .i64)],[(0,.v 0)],[]⟩
def zt9:CE:=⟨8,zsm,zsl,fun X=>zqW X.1 X.2⟩
theorem zyr:CE.ok Try.prog zt9:=CE.of (Γ:=[zxq]) (by kernel_rfl) zb2 (GOK.cons zBF (GOK.nil)) ⟨[],[],[],[]⟩ Try.func8 rfl Try.ntmps8 (rs:=[.tmp 4]) rfl (sig:=zsm) (out:=zsl) rfl Try.call8 (fun X=>by kernel_rfl)

def zxn:Shape:=⟨[(.pair (.list (.int .i64)) (.pair (.list (.int .i64)) .unit)),(.int .i64)],[(0,.v 0),(1,.v 1)],[]⟩
def zxm:Shape:=⟨[(.int .i64)],[(0,.v 0)],[]⟩
def zzk:CE:=⟨36,zxn,zxm,fun X=>zBE X.1 X.2⟩
theorem zCD:CE.ok Try.prog zzk:=CE.of (Γ:=[]) (by kernel_rfl) zb2 (GOK.nil) ⟨[],[],[(3,[(0,0),(0,1),(0,2),(0,3),(0,4),(0,5),(0,6),(0,7),(0,8),(0,9),(0,10),(0,11),(0,12),(0,13)])],[]⟩ Try.func36 rfl Try.ntmps36 (rs:=[.tmp 4]) rfl (sig:=zxn) (out:=zxm) rfl Try.call36 (fun X=>by kernel_rfl)

def zsv:Shape:=⟨[(.pair (.list (.int .i64)) (.pair (.list (.int .i64)) .unit)),(.int .i64)],[(0,.v 0),(1,.v 1)],[]⟩
def zsu:Shape:=⟨[(.int .i64)],[(0,.v 0)],[]⟩
def zuq:CE:=⟨37,zsv,zsu,fun X=>zks X.1 X.2⟩
theorem zyx:CE.ok Try.prog zuq:=CE.of (Γ:=[]) (by kernel_rfl) zb2 (GOK.nil) ⟨[],[],[],[]⟩ Try.func37 rfl Try.ntmps37 (rs:=[.tmp 4]) rfl (sig:=zsv) (out:=zsu) rfl Try.call37 (fun X=>by kernel_rfl)

def zsB:Shape:=⟨[(.list (.pair (.int .u8) (.pair (.int .i64) (.pair (.int .i64) .unit)))),(.list (.list .bool)),(.int .i64),(.int .i64),(.pair (.list (.int .i64)) (.pair (.list (.int .i64)) .unit))],[(0,.v 0),(1,.v 1),(2,.v 2),(3,.v 3),(4,.v 4)],[]⟩
def zsA:Shape:=⟨[.bool],[(0,.v 0)],[]⟩
def zuu:CE:=⟨19,zsB,zsA,fun X=>zq8 X.1 X.2.1 X.2.2.1 X.2.2.2.1 X.2.2.2.2⟩
theorem zyA:CE.ok Try.prog zuu:=CE.of (Γ:=[zzk,zuq]) (by kernel_rfl) zb2 (GOK.cons zCD (GOK.cons zyx (GOK.nil))) ⟨[(22,⟨⟨[(.int .i64),(.int .i64)],[(3,.v 0),(14,.v 1)],[]⟩,[10,115,116,117,118,119,120,121,122,123,124,125,126,127,128,129,130,131,132,133,134,135,136,137,138,139,140,141,142,143,144,145,146,147,148,149,150,151,152,153,154,155,156,157,158,159,160,161,162,163,164,165,166,167,168,169,170,171,172,173,174,175,176,177,178,179,180,181,182,183],[],[0,1],2,[]⟩)],[],[(18,[(0,0),(0,1),(0,2),(0,3),(0,4),(0,5),(0,6),(1,7),(0,8),(0,9),(0,10)])],[]⟩ Try.func19 rfl Try.ntmps19 (rs:=[.tmp 10]) rfl (sig:=zsB) (out:=zsA) rfl Try.call19 (fun X=>by kernel_rfl)

def zsx:Shape:=⟨[(.list (.pair (.int .u8) (.pair (.int .i64) (.pair (.int .i64) .unit)))),(.int .i64),(.pair (.list (.int .i64)) (.pair (.list (.int .i64)) .unit))],[(0,.v 0),(1,.v 1),(2,.v 2)],[]⟩
def zsw:Shape:=⟨[.bool],[(0,.v 0)],[]⟩
def zur:CE:=⟨9,zsx,zsw,fun X=>ztm X.1 X.2.1 X.2.2⟩
theorem zyy:CE.ok Try.prog zur:=CE.of (Γ:=[zuu]) (by kernel_rfl) zb2 (GOK.cons zyA (GOK.nil)) ⟨[(4,⟨⟨[(.int .i64),(.list (.list .bool))],[(8,.own 1),(9,.v 0)],[(1,.arr 50 1)]⟩,[10,11,19,20,21,22,23,24,25,26,27,28,29,30,31,32,33,34,35,36,37,38,39,40,41,42,43,44],[],[0],2,[]⟩),(8,⟨⟨[(.int .i64),(.list .bool)],[(10,.own 2),(11,.v 0)],[(2,.arr 4 1)]⟩,[26,27,28,29,30,31,32,33,34,35,36,37,38,39,40],[],[0,1],3,[]⟩)],[],[],[]⟩ Try.func9 rfl Try.ntmps9 (rs:=[.tmp 6]) rfl (sig:=zsx) (out:=zsw) rfl Try.call9 (fun X=>by kernel_rfl)

def zxt:Shape:=⟨[(.pair (.int .i64) (.pair (.int .i64) (.pair (.list (.int .i64)) (.pair (.list (.pair (.int .i64) (.pair (.int .i64) (.pair (.int .i64) .unit)))) (.pair (.list (.int .i64)) .unit))))),(.list .bool),(.int .i64)],[(0,.v 0),(1,.v 1),(2,.v 2)],[]⟩
def zxs:Shape:=⟨[(.list .bool)],[(0,.own 0)],[(0,.arr 4 0)]⟩
def zwF:CE:=⟨20,zxt,zxs,fun X=>zxr X.1 X.2.1 X.2.2⟩
theorem zzl:CE.ok Try.prog zwF:=CE.of (Γ:=[]) (by kernel_rfl) zb2 (GOK.nil) ⟨[(3,⟨⟨[(.int .i64),(.list .bool)],[(7,.own 1),(8,.v 0)],[(1,.arr 4 1)]⟩,[9,12,13,14,15,16,17,18,19,20,21,22,23,24,25,26,27,28,29,30,31,32,33,34,35,36,37,38,39],[],[0],2,[]⟩)],[(6,⟨⟨[.bool],[(35,.v 0)],[]⟩,[25,26,27,28,29,30,31,32,33,34],[],[0,1,2],3,[]⟩)],[],[]⟩ Try.func20 rfl Try.ntmps20 (rs:=[.tmp 6]) rfl (sig:=zxt) (out:=zxs) rfl Try.call20 (fun X=>by kernel_rfl)

def zst:Shape:=⟨[(.pair (.int .i64) (.pair (.int .i64) (.pair (.list (.int .i64)) (.pair (.list (.pair (.int .i64) (.pair (.int .i64) (.pair (.int .i64) .unit)))) (.pair (.list (.int .i64)) .unit))))),(.list (.int .i64)),(.list .bool),(.int .i64)],[(0,.v 0),(1,.v 1),(2,.v 2),(3,.v 3)],[]⟩
def zss:Shape:=⟨[.bool],[(0,.v 0)],[]⟩
def zuo:CE:=⟨21,zst,zss,fun X=>ztl X.1 X.2.1 X.2.2.1 X.2.2.2⟩
theorem zyu:CE.ok Try.prog zuo:=CE.of (Γ:=[zwF]) (by kernel_rfl) zb2 (GOK.cons zzl (GOK.nil)) ⟨[(5,⟨⟨[.bool,(.list .bool),(.list .bool)],[(9,.own 1),(10,.own 2),(11,.v 0)],[(1,.arr 4 1),(2,.arr 4 2)]⟩,[8,12,13,14,15,16,19,22,23,25,26,27,28,29,30,31,32,33,34,35,36,37,38,39,40,41,42,43,44,45,46,47,48,49,50,51,52,53,54,55,56,57,58,59,60,61,62,63,64,65,66,67,68,69,70,71,72,73,74,75,76,77,78,79,80,81,82,83,84,85,86,87,88,89,90,91,92,93,94,95,96,97,98,99,100,101,102,103,104,105,106,107,108,109,110,111,112,113,114,115,116,117,118,119,120,121,122,123,124,125,126,127,128,129,130,131,132,133,134,135,136,137,138,139,140],[],[0],3,[]⟩),(10,⟨⟨[(.int .i64),(.list .bool),(.list .bool)],[(12,.own 4),(13,.own 6),(14,.v 0)],[(4,.arr 4 1),(6,.arr 4 2)]⟩,[15,27,29,30,32,33,34,35,36,37,38,39,40,41,42,43,44,45,46,47,48,49,50,51,52,53,54,55,56,57,58,59,60,61,62,63,64,65,66,67,68,69,70,71,72,73,74,75,76,77],[],[0,1,2],7,[]⟩),(13,⟨⟨[(.int .i64),(.list .bool)],[(13,.own 6),(15,.v 0)],[(6,.arr 4 1)]⟩,[39,40,41,42,43,44,45,46,47,48,49,50,51,52,53,54,55,56,57,58,59,60,61,62,63],[],[0,1,2,4],7,[]⟩),(21,⟨⟨[.bool,(.int .i64),(.list .bool),(.list .bool)],[(9,.own 1),(10,.own 2),(11,.v 0),(16,.v 1)],[(1,.arr 4 2),(2,.arr 4 3)]⟩,[28,31,82,83,84,85,86,87,88,89,90,91,92,93,94,95,96,97,98,99,100,101,102,103,104,105,106,107,108,109,110,111,112,113,114,115,116,117,118,119,120,121,122,123,124,125,126,127,128,129,130,131,132,133,134,135,136,137,138,139,140],[],[0,4,6],7,[]⟩)],[(23,⟨⟨[.bool],[(11,.v 0)],[]⟩,[88,89,90,91,92,93,94,95,96,97,98,99,100,101,102,103,104,105,106,107,108,109,110,111,112,113,114],[],[0,1,2,4,6],7,[]⟩),(24,⟨⟨[(.list .bool)],[(9,.own 1)],[(1,.arr 4 0)]⟩,[115,116,117,118,119,120,121,122,123,124,125,126,127],[],[0,2,4,6],7,[]⟩)],[(16,[(0,0),(0,1),(0,2),(0,3),(0,4),(0,5),(1,6),(0,7)]),(17,[(0,0),(0,1),(0,2),(0,3),(0,4),(0,5),(1,6),(0,7)])],[]⟩ Try.func21 rfl Try.ntmps21 (rs:=[.tmp 8]) rfl (sig:=zst) (out:=zss) rfl Try.call21 (fun X=>by kernel_rfl)

def zpH:Shape:=⟨[(.pair (.int .i64) (.pair (.int .i64) (.pair (.list (.int .i64)) (.pair (.list (.pair (.int .i64) (.pair (.int .i64) (.pair (.int .i64) .unit)))) (.pair (.list (.int .i64)) .unit))))),(.pair (.list (.int .i64)) (.pair (.list (.int .i64)) .unit))],[(0,.v 0),(1,.v 1)],[]⟩
def zpG:Shape:=⟨[.bool],[(0,.v 0)],[]⟩
def zq0:CE:=⟨10,zpH,zpG,fun X=>zmy X.1 X.2⟩
theorem zwC:CE.ok Try.prog zq0:=CE.of (Γ:=[zwF,zuo]) (by kernel_rfl) zb2 (GOK.cons zzl (GOK.cons zyu (GOK.nil))) ⟨[(3,⟨⟨[(.int .i64),(.list .bool)],[(5,.own 2),(6,.v 0)],[(2,.arr 4 1)]⟩,[18,19,20,21,22,23,24,25,26,27,28,29,30,31,32],[],[0,1],3,[]⟩),(7,⟨⟨[(.int .i64),(.list .bool)],[(5,.own 2),(7,.v 0)],[(2,.arr 4 1)]⟩,[33,34,35,36,37,38,39,40,41,42,43,44,45,46,47],[],[0,1],3,[]⟩),(11,⟨⟨[.bool,(.list .bool)],[(5,.own 2),(8,.v 0)],[(2,.arr 4 1)]⟩,[9,10,11,48,49,50,51,52,53,54,55,56,57,58,59,60,61,62,63,64,65,66,67,68,69,70,71,72,73,74,75,76,77,78,79,80,81,82,83,84,85,86,87,88,89,90,91,92,93,94,95,96,97],[],[0,1],3,[]⟩),(15,⟨⟨[(.int .i64),(.list .bool),(.list .bool)],[(5,.own 2),(9,.own 3),(10,.v 0)],[(2,.arr 4 1),(3,.arr 4 2)]⟩,[49,50,51,52,53,54,55,56,57,58,59,60,61,62,63,64],[],[0,1],4,[]⟩),(19,⟨⟨[.bool,(.int .i64),(.list .bool)],[(5,.own 2),(8,.v 0),(11,.v 1)],[(2,.arr 4 2)]⟩,[65,66,67,68,69,70,71,72,73,74,75,76,77,78,79,80,81,82,83,84,85,86,87,88,89,90,91,92,93,94,95,96,97],[],[0,1,3],4,[]⟩),(25,⟨⟨[(.int .i64),(.list .bool)],[(12,.own 3),(13,.v 0)],[(3,.arr 4 1)]⟩,[100,101,102,103,104,105,106,107,108,109,110,111,112,113,114],[],[0,1,2],4,[]⟩),(29,⟨⟨[(.int .i64)],[(14,.v 0)],[]⟩,[4,15,115,116,117,118,119,120,121,122,123,124,125,126,127,128,129,130,131,132],[],[0,1,2,3],4,[]⟩)],[(21,⟨⟨[.bool],[(8,.v 0)],[]⟩,[71,72,73,74,75,76,77,78,79,80,81,82,83,84],[],[0,1,2,3],4,[]⟩)],[(9,[(0,0),(0,1),(0,2),(0,3),(0,4),(0,5),(0,6),(1,7),(0,8)]),(1000015,[]),(17,[(0,0),(0,1),(0,2),(0,3),(0,4),(0,5),(0,6),(1,7),(0,8)])],[]⟩ Try.func10 rfl Try.ntmps10 (rs:=[.tmp 4]) rfl (sig:=zpH) (out:=zpG) rfl Try.call10 (fun X=>by kernel_rfl)

def znA:Shape:=⟨[.str,(.pair (.list (.int .i64)) (.pair (.list (.int .i64)) .unit))],[(0,.v 0),(1,.v 1)],[]⟩
def znz:Shape:=⟨[.bool],[(0,.v 0)],[]⟩
def zkS:CE:=⟨3,znA,znz,fun X=>zoq X.1 X.2⟩
theorem ztY:CE.ok Try.prog zkS:=CE.of (Γ:=[zsH,zus,zqJ,zui,zt9,zur,zq0]) (by kernel_rfl) zb2 (GOK.cons zxA (GOK.cons zyz (GOK.cons zwk (GOK.cons zyt (GOK.cons zyr (GOK.cons zyy (GOK.cons zwC (GOK.nil)))))))) ⟨[],[],[],[]⟩ Try.func3 rfl Try.ntmps3 (rs:=[.tmp 4]) rfl (sig:=znA) (out:=znz) rfl Try.call3 (fun X=>by kernel_rfl)

end
end Go.Proofs.Ytajabcfngklacaa.timeAutoW
