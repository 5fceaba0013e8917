/- That the functions of 'TimeHolds' compute so. -/
import Derived.Test.YteneganiigbikaaTimeHoldsD
import Derived.Test.YteneganiigbikaaProg
import Derived.KernelRfl
set_option maxHeartbeats 1000000
set_option maxRecDepth 20000
set_option linter.unusedSimpArgs false
set_option linter.unusedVariables false
set_option linter.unusedSectionVars false
namespace Go.Proofs.Yteneganiigbikaa.timeHoldsW
open Go Go.Ab
noncomputable section
def te3:TE:=⟨3,.int .i64,false,1,8,.int .i64 0,some (.int .i64)⟩
theorem ztA:TEok Try.prog te3:=⟨TI.of Try.underlying3 rfl (by kernel_rfl),Try.underlying3,fun t h=>by cases h;exact ⟨rfl,rfl,by decide,rfl⟩⟩
def te4:TE:=⟨4,.bool,false,1,1,.bool false,some .bool⟩
theorem ztB:TEok Try.prog te4:=⟨TI.of Try.underlying4 rfl (by kernel_rfl),Try.underlying4,fun t h=>by cases h;exact ⟨rfl,rfl,by decide,rfl⟩⟩
def te5:TE:=⟨5,.int .u8,false,1,1,.int .u8 0,some (.int .u8)⟩
theorem ztC:TEok Try.prog te5:=⟨TI.of Try.underlying5 rfl (by kernel_rfl),Try.underlying5,fun t h=>by cases h;exact ⟨rfl,rfl,by decide,rfl⟩⟩
def te9:TE:=⟨9,.str,false,1,16,.string ⟨⟨[]⟩⟩,some .str⟩
theorem ztD:TEok Try.prog te9:=⟨TI.of Try.underlying9 rfl (by kernel_rfl),Try.underlying9,fun t h=>by cases h;exact ⟨rfl,rfl,by decide,rfl⟩⟩
def te22:TE:=⟨22,.slice 3,false,1,24,.slice none 0 0,some (.list (.int .i64))⟩
theorem zsP:TEok Try.prog te22:=⟨TI.of Try.underlying22 rfl (by kernel_rfl),Try.underlying22,fun t h=>by cases h;exact ⟨rfl,rfl,by decide,rfl⟩⟩
def te24:TE:=⟨24,.struct [(0,22),(1,22)] none,true,2,48,.agg ⟨[.slice none 0 0,.slice none 0 0]⟩,some (.pair (.list (.int .i64)) (.pair (.list (.int .i64)) .unit))⟩
theorem zsQ:TEok Try.prog te24:=⟨TI.of Try.underlying24 rfl (by kernel_rfl),⟨⟨_,Try.underlying24,rfl⟩,fun t h=>by cases h⟩,fun t h=>by cases h;exact ⟨rfl,rfl,by decide,rfl⟩⟩
def te25:TE:=⟨25,.int .i64,false,1,8,.int .i64 0,some (.int .i64)⟩
theorem zsR:TEok Try.prog te25:=⟨TI.of Try.underlying25 rfl (by kernel_rfl),Try.underlying25,fun t h=>by cases h;exact ⟨rfl,rfl,by decide,rfl⟩⟩
def te28:TE:=⟨28,.slice 63,false,1,24,.slice none 0 0,some (.list (.pair (.int .u8) (.pair (.int .i64) (.pair (.int .i64) .unit))))⟩
theorem zsS:TEok Try.prog te28:=⟨TI.of Try.underlying28 rfl (by kernel_rfl),Try.underlying28,fun t h=>by cases h;exact ⟨rfl,rfl,by decide,rfl⟩⟩
def te30:TE:=⟨30,.struct [(0,25),(1,3)] none,true,2,16,.agg ⟨[.int .i64 0,.int .i64 0]⟩,some (.pair (.int .i64) (.pair (.int .i64) .unit))⟩
theorem zsT:TEok Try.prog te30:=⟨TI.of Try.underlying30 rfl (by kernel_rfl),⟨⟨_,Try.underlying30,rfl⟩,fun t h=>by cases h⟩,fun t h=>by cases h;exact ⟨rfl,rfl,by decide,rfl⟩⟩
def te36:TE:=⟨36,.slice 43,false,1,24,.slice none 0 0,some (.list (.pair (.int .i64) (.pair (.int .i64) (.pair (.int .i64) .unit))))⟩
theorem zsU:TEok Try.prog te36:=⟨TI.of Try.underlying36 rfl (by kernel_rfl),Try.underlying36,fun t h=>by cases h;exact ⟨rfl,rfl,by decide,rfl⟩⟩
def te40:TE:=⟨40,.slice 41,false,1,24,.slice none 0 0,some (.list (.list .bool))⟩
theorem zsV:TEok Try.prog te40:=⟨TI.of Try.underlying40 rfl (by kernel_rfl),Try.underlying40,fun t h=>by cases h;exact ⟨rfl,rfl,by decide,rfl⟩⟩
def te41:TE:=⟨41,.slice 4,false,1,24,.slice none 0 0,some (.list .bool)⟩
theorem zsW:TEok Try.prog te41:=⟨TI.of Try.underlying41 rfl (by kernel_rfl),Try.underlying41,fun t h=>by cases h;exact ⟨rfl,rfl,by decide,rfl⟩⟩
def te43:TE:=⟨43,.struct [(0,3),(1,3),(2,3)] none,true,3,24,.agg ⟨[.int .i64 0,.int .i64 0,.int .i64 0]⟩,some (.pair (.int .i64) (.pair (.int .i64) (.pair (.int .i64) .unit)))⟩
theorem zsX:TEok Try.prog te43:=⟨TI.of Try.underlying43 rfl (by kernel_rfl),⟨⟨_,Try.underlying43,rfl⟩,fun t h=>by cases h⟩,fun t h=>by cases h;exact ⟨rfl,rfl,by decide,rfl⟩⟩
def te47:TE:=⟨47,.struct [(0,9),(1,3),(2,3),(3,3),(4,3),(5,28),(6,30)] none,true,8,88,.agg ⟨[.string ⟨⟨[]⟩⟩,.int .i64 0,.int .i64 0,.int .i64 0,.int .i64 0,.slice none 0 0,.int .i64 0,.int .i64 0]⟩,some (.pair .str (.pair (.int .i64) (.pair (.int .i64) (.pair (.int .i64) (.pair (.int .i64) (.pair (.list (.pair (.int .u8) (.pair (.int .i64) (.pair (.int .i64) .unit)))) (.pair (.pair (.int .i64) (.pair (.int .i64) .unit)) .unit)))))))⟩
theorem zsY:TEok Try.prog te47:=⟨TI.of Try.underlying47 rfl (by kernel_rfl),⟨⟨_,Try.underlying47,rfl⟩,fun t h=>by cases h⟩,fun t h=>by cases h;exact ⟨rfl,rfl,by decide,rfl⟩⟩
def te53:TE:=⟨53,.struct [(0,30)] none,true,2,16,.agg ⟨[.int .i64 0,.int .i64 0]⟩,some (.pair (.pair (.int .i64) (.pair (.int .i64) .unit)) .unit)⟩
theorem zsZ:TEok Try.prog te53:=⟨TI.of Try.underlying53 rfl (by kernel_rfl),⟨⟨_,Try.underlying53,rfl⟩,fun t h=>by cases h⟩,fun t h=>by cases h;exact ⟨rfl,rfl,by decide,rfl⟩⟩
def te56:TE:=⟨56,.struct [(0,9),(1,3),(2,3),(3,3),(4,3),(5,36)] none,true,6,72,.agg ⟨[.string ⟨⟨[]⟩⟩,.int .i64 0,.int .i64 0,.int .i64 0,.int .i64 0,.slice none 0 0]⟩,some (.pair .str (.pair (.int .i64) (.pair (.int .i64) (.pair (.int .i64) (.pair (.int .i64) (.pair (.list (.pair (.int .i64) (.pair (.int .i64) (.pair (.int .i64) .unit)))) .unit))))))⟩
theorem zs0:TEok Try.prog te56:=⟨TI.of Try.underlying56 rfl (by kernel_rfl),⟨⟨_,Try.underlying56,rfl⟩,fun t h=>by cases h⟩,fun t h=>by cases h;exact ⟨rfl,rfl,by decide,rfl⟩⟩
def te57:TE:=⟨57,.array 2 22,true,2,48,.agg ⟨[.slice none 0 0,.slice none 0 0]⟩,some (.pair (.list (.int .i64)) (.pair (.list (.int .i64)) .unit))⟩
theorem zs1:TEok Try.prog te57:=⟨TI.of Try.underlying57 rfl (by kernel_rfl),Try.underlying57,fun t h=>by cases h;exact ⟨rfl,rfl,by decide,rfl⟩⟩
def te63:TE:=⟨63,.struct [(0,5),(1,3),(2,3)] none,true,3,24,.agg ⟨[.int .u8 0,.int .i64 0,.int .i64 0]⟩,some (.pair (.int .u8) (.pair (.int .i64) (.pair (.int .i64) .unit)))⟩
theorem zs2:TEok Try.prog te63:=⟨TI.of Try.underlying63 rfl (by kernel_rfl),⟨⟨_,Try.underlying63,rfl⟩,fun t h=>by cases h⟩,fun t h=>by cases h;exact ⟨rfl,rfl,by decide,rfl⟩⟩
def TT:List TE:=[te3,te4,te5,te9,te22,te24,te25,te28,te30,te36,te40,te41,te43,te47,te53,te56,te57,te63]
theorem zcy:TOK Try.prog TT:=TOK.cons ztA (TOK.cons ztB (TOK.cons ztC (TOK.cons ztD (TOK.cons zsP (TOK.cons zsQ (TOK.cons zsR (TOK.cons zsS (TOK.cons zsT (TOK.cons zsU (TOK.cons zsV (TOK.cons zsW (TOK.cons zsX (TOK.cons zsY (TOK.cons zsZ (TOK.cons zs0 (TOK.cons zs1 (TOK.cons zs2 (TOK.nil))))))))))))))))))

def zeF:Shape:=⟨[(.pair .str (.pair (.int .i64) (.pair (.int .i64) (.pair (.int .i64) (.pair (.int .i64) (.pair (.list (.pair (.int .i64) (.pair (.int .i64) (.pair (.int .i64) .unit)))) .unit))))))],[(0,.addr 0)],[]⟩
def zeE:Shape:=⟨[(.int .u8)],[(0,.v 0)],[]⟩
def zbw:CE:=⟨28,zeF,zeE,fun X=>zbg X⟩
theorem zbW:CE.ok Try.prog zbw:=CE.of (Γ:=[]) (by kernel_rfl) zcy (GOK.nil) ⟨[],[],[(1,[(0,0),(0,1),(0,2),(0,3),(0,4),(0,5),(0,6),(0,7),(0,8),(0,9)]),(3,[(0,0),(0,1),(0,2),(0,3),(0,4),(0,5),(0,6),(0,7),(0,8),(0,9)])],[]⟩ Try.func28 rfl Try.ntmps28 (rs:=[.tmp 2]) rfl (sig:=zeF) (out:=zeE) rfl Try.call28 (fun X=>by kernel_rfl)

def zgP:Shape:=⟨[(.int .u8)],[(0,.v 0)],[]⟩
def zgO:Shape:=⟨[.bool],[(0,.v 0)],[]⟩
def zhw:CE:=⟨33,zgP,zgO,fun X=>zga X⟩
theorem zln:CE.ok Try.prog zhw:=CE.of (Γ:=[]) (by kernel_rfl) zcy (GOK.nil) ⟨[],[],[],[]⟩ Try.func33 rfl Try.ntmps33 (rs:=[.tmp 2]) rfl (sig:=zgP) (out:=zgO) rfl Try.call33 (fun X=>by kernel_rfl)

def zd7:Shape:=⟨[(.pair .str (.pair (.int .i64) (.pair (.int .i64) (.pair (.int .i64) (.pair (.int .i64) (.pair (.list (.pair (.int .i64) (.pair (.int .i64) (.pair (.int .i64) .unit)))) .unit)))))),(.int .i64)],[(0,.addr 0),(1,.v 1)],[]⟩
def zd6:Shape:=⟨[],[],[]⟩
def zch:CEp:=⟨18,zd7,zd6,fun X=>zbE X.1 X.2⟩
theorem zc8:CEp.ok Try.prog 53 zch:=CEp.of (Γ:=[]) (Γp:=[]) (by kernel_rfl) zcy (GOK.nil) (GPOK.nil) ⟨[],[],[(2000000,[(0,0),(0,1),(0,2),(0,3),(0,4),(0,5),(0,6),(6,7),(2,8)])],[]⟩ Try.func18 rfl Try.ntmps18 (rs:=[]) rfl (sig:=zd7) (out:=zd6) rfl Try.call18 (fun X=>by kernel_rfl)

def zdr:Shape:=⟨[.str,(.int .i64),(.int .i64),(.int .i64),(.int .i64),(.list (.pair (.int .i64) (.pair (.int .i64) (.pair (.int .i64) .unit))))],[(0,.ptr 100000 0)],[(100000,.box 56 [.v 0,.v 1,.v 2,.v 3,.v 4,.own 100001]),(100001,.arr 43 5)]⟩
def zdq:Shape:=⟨[.str,(.int .i64),(.int .i64),(.int .i64),(.int .i64),(.list (.pair (.int .i64) (.pair (.int .i64) (.pair (.int .i64) .unit))))],[],[(100000,.box 56 [.v 0,.v 1,.v 2,.v 3,.v 4,.own 100]),(100,.arr 43 5)]⟩
def zbn:CEp:=⟨29,zdr,zdq,fun X=>zar X.1 X.2.1 X.2.2.1 X.2.2.2.1 X.2.2.2.2.1 X.2.2.2.2.2⟩
theorem zbP:CEp.ok Try.prog 53 zbn:=CEp.of (Γ:=[zbw,zhw]) (Γp:=[zch]) (by kernel_rfl) zcy (GOK.cons zbW (GOK.cons zln (GOK.nil))) (GPOK.cons zc8 (GPOK.nil)) ⟨[],[(3,⟨⟨[.str,(.int .i64),(.int .i64),(.int .i64),(.int .i64),(.list (.pair (.int .i64) (.pair (.int .i64) (.pair (.int .i64) .unit))))],[(0,.ptr 100000 0)],[(100000,.box 56 [.v 0,.v 1,.v 2,.v 3,.v 4,.own 100001]),(100001,.arr 43 5)]⟩,[13,14,15,16,17,18,19,20],[],[],0,[]⟩),(4,⟨⟨[.bool],[(35,.v 0)],[]⟩,[21,22,23,24,25,26,27,28,29,30,31,32,33,34],[],[],0,[]⟩)],[(2000005,[(0,0),(5,1)])],[]⟩ Try.func29 rfl Try.ntmps29 (rs:=[]) rfl (sig:=zdr) (out:=zdq) rfl Try.call29 (fun X=>by kernel_rfl)

def zeK:Shape:=⟨[(.pair (.int .i64) (.pair (.int .i64) (.pair (.int .i64) .unit))),.str,(.int .i64),(.int .i64),(.int .i64),(.int .i64),(.list (.pair (.int .i64) (.pair (.int .i64) (.pair (.int .i64) .unit))))],[(0,.ptr 100000 0),(1,.v 0)],[(100000,.box 56 [.v 1,.v 2,.v 3,.v 4,.v 5,.own 100001]),(100001,.arr 43 6)]⟩
def zeJ:Shape:=⟨[(.int .i64),.str,(.int .i64),(.int .i64),(.int .i64),(.int .i64),(.list (.pair (.int .i64) (.pair (.int .i64) (.pair (.int .i64) .unit))))],[(0,.v 0)],[(100000,.box 56 [.v 1,.v 2,.v 3,.v 4,.v 5,.own 100]),(100,.arr 43 6)]⟩
def zbh:CE:=⟨30,zeK,zeJ,fun X=>zaE X.1 X.2.1 X.2.2.1 X.2.2.2.1 X.2.2.2.2.1 X.2.2.2.2.2.1 X.2.2.2.2.2.2⟩
theorem zby:CE.ok Try.prog zbh:=CE.of (Γ:=[]) (by kernel_rfl) zcy (GOK.nil) ⟨[],[],[(1,[(0,0),(0,1),(0,2),(0,3),(0,4),(0,5),(1,6),(2,7),(0,8),(0,9),(2,10)])],[]⟩ Try.func30 rfl Try.ntmps30 (rs:=[.tmp 4]) rfl (sig:=zeK) (out:=zeJ) rfl Try.call30 (fun X=>by kernel_rfl)

def ze9:Shape:=⟨[(.int .i64),.str,(.int .i64),(.int .i64),(.int .i64),(.int .i64),(.list (.pair (.int .i64) (.pair (.int .i64) (.pair (.int .i64) .unit))))],[(0,.ptr 100000 0),(1,.v 0)],[(100000,.box 56 [.v 1,.v 2,.v 3,.v 4,.v 5,.own 100001]),(100001,.arr 43 6)]⟩
def ze8:Shape:=⟨[(.int .i64),.str,(.int .i64),(.int .i64),(.int .i64),(.int .i64),(.list (.pair (.int .i64) (.pair (.int .i64) (.pair (.int .i64) .unit))))],[(0,.v 0)],[(100000,.box 56 [.v 1,.v 2,.v 3,.v 4,.v 5,.own 100]),(100,.arr 43 6)]⟩
def zcJ:CE:=⟨36,ze9,ze8,fun X=>zbd X.1 X.2.1 X.2.2.1 X.2.2.2.1 X.2.2.2.2.1 X.2.2.2.2.2.1 X.2.2.2.2.2.2⟩
theorem zdM:CE.ok Try.prog zcJ:=CE.of (Γ:=[zbh]) (by kernel_rfl) zcy (GOK.cons zby (GOK.nil)) ⟨[],[],[],[]⟩ Try.func36 rfl Try.ntmps36 (rs:=[.tmp 4]) rfl (sig:=ze9) (out:=ze8) rfl Try.call36 (fun X=>by kernel_rfl)

def zdx:Shape:=⟨[.str,(.int .i64),(.int .i64),(.int .i64),(.int .i64),(.list (.pair (.int .i64) (.pair (.int .i64) (.pair (.int .i64) .unit))))],[(0,.ptr 100000 0)],[(100000,.box 56 [.v 0,.v 1,.v 2,.v 3,.v 4,.own 100001]),(100001,.arr 43 5)]⟩
def zdw:Shape:=⟨[(.int .i64),.str,(.int .i64),(.int .i64),(.int .i64),(.int .i64),(.list (.pair (.int .i64) (.pair (.int .i64) (.pair (.int .i64) .unit))))],[(0,.v 0)],[(100000,.box 56 [.v 1,.v 2,.v 3,.v 4,.v 5,.own 100]),(100,.arr 43 6)]⟩
def zdV:CE:=⟨37,zdx,zdw,fun X=>zbv X.1 X.2.1 X.2.2.1 X.2.2.2.1 X.2.2.2.2.1 X.2.2.2.2.2⟩
theorem zgS:CE.ok Try.prog zdV:=CE.of (Γ:=[zbh,zcJ]) (by kernel_rfl) zcy (GOK.cons zby (GOK.cons zdM (GOK.nil))) ⟨[],[],[],[]⟩ Try.func37 rfl Try.ntmps37 (rs:=[.tmp 2]) rfl (sig:=zdx) (out:=zdw) rfl Try.call37 (fun X=>by kernel_rfl)

def zaq:Shape:=⟨[.str,(.int .i64),(.int .i64),(.int .i64),(.int .i64),(.list (.pair (.int .i64) (.pair (.int .i64) (.pair (.int .i64) .unit))))],[(0,.ptr 100000 0)],[(100000,.box 56 [.v 0,.v 1,.v 2,.v 3,.v 4,.own 100001]),(100001,.arr 43 5)]⟩
def zap:Shape:=⟨[(.int .i64),.str,(.int .i64),(.int .i64),(.int .i64),(.int .i64),(.list (.pair (.int .i64) (.pair (.int .i64) (.pair (.int .i64) .unit))))],[(0,.v 0)],[(100000,.box 56 [.v 1,.v 2,.v 3,.v 4,.v 5,.own 100]),(100,.arr 43 6)]⟩
def zdy:CEp:=⟨17,zaq,zap,LFix zbV⟩
def zeH:Shape:=⟨[.str,(.int .i64),(.int .i64),(.int .i64),(.int .i64),(.list (.pair (.int .i64) (.pair (.int .i64) (.pair (.int .i64) .unit))))],[(0,.ptr 100000 0)],[(100000,.box 56 [.v 0,.v 1,.v 2,.v 3,.v 4,.own 100001]),(100001,.arr 43 5)]⟩
def zeG:Shape:=⟨[(.int .i64),.str,(.int .i64),(.int .i64),(.int .i64),(.int .i64),(.list (.pair (.int .i64) (.pair (.int .i64) (.pair (.int .i64) .unit))))],[(0,.v 0)],[(100000,.box 56 [.v 1,.v 2,.v 3,.v 4,.v 5,.own 100]),(100,.arr 43 6)]⟩
def zfa (rec:Tup zaq.tys->Option (Tup zap.tys⊕(Int×Int))):CEp:=⟨35,zeH,zeG,LFix (zcK (fun c c_1 c_2 c_3 c_4 l=>rec (c,c_1,c_2,c_3,c_4,l)))⟩
theorem ziz (rec:Tup zaq.tys->Option (Tup zap.tys⊕(Int×Int))) (hrec:CEp.ok Try.prog 53 ⟨17,zaq,zap,rec⟩):CEp.ok Try.prog 53 (zfa rec):=CEp.ofRec (Γ:=[zcJ,zbh,zdV,zbw]) (Γp:=fun _=>[zbn,⟨17,zaq,zap,rec⟩,zch]) (by kernel_rfl) zcy (GOK.cons zdM (GOK.cons zby (GOK.cons zgS (GOK.cons zbW (GOK.nil))))) ⟨[],[(19,⟨⟨[],[],[]⟩,[57,58,59,60,61,62,63],[],[],0,[]⟩),(24,⟨⟨[],[],[]⟩,[80,81,82,83,84],[],[100],101,[]⟩)],[(2000003,[(0,0),(5,1)]),(2000004,[(0,0),(0,1),(5,2),(2,3),(0,4)]),(2000006,[(0,0),(5,1)]),(2000007,[(0,0),(0,1),(5,2),(0,3),(2,4),(0,5)]),(2000009,[(0,0),(5,1)]),(2000011,[(0,0),(0,1),(0,2),(5,3),(0,4),(2,5),(0,6)]),(2000013,[(0,0),(5,1)]),(2000015,[(0,0),(0,1),(5,2),(2,3),(0,4)]),(2000019,[(0,0),(5,1)]),(2000022,[(0,0),(5,1),(0,2)]),(2000024,[(0,0),(5,1)]),(2000029,[(0,0),(5,1)]),(2000032,[(0,0),(5,1)]),(2000035,[(0,0),(5,1)]),(2000038,[(0,0),(5,1)]),(2000040,[(0,0),(5,1)])],[]⟩ Try.func35 rfl Try.ntmps35 (rs:=[.tmp 2]) rfl (sig:=zeH) (out:=zeG) rfl (fun _ _=>(GPOK.cons zbP (GPOK.cons hrec (GPOK.cons zc8 (GPOK.nil))))) Try.call35 (d:=zcK (fun c c_1 c_2 c_3 c_4 l=>rec (c,c_1,c_2,c_3,c_4,l))) (fun rc X=>by kernel_rfl)
def zea:Shape:=⟨[.str,(.int .i64),(.int .i64),(.int .i64),(.int .i64),(.list (.pair (.int .i64) (.pair (.int .i64) (.pair (.int .i64) .unit))))],[(0,.ptr 100000 0)],[(100000,.box 56 [.v 0,.v 1,.v 2,.v 3,.v 4,.own 100001]),(100001,.arr 43 5)]⟩
def zd9:Shape:=⟨[(.int .i64),.str,(.int .i64),(.int .i64),(.int .i64),(.int .i64),(.list (.pair (.int .i64) (.pair (.int .i64) (.pair (.int .i64) .unit))))],[(0,.v 0)],[(100000,.box 56 [.v 1,.v 2,.v 3,.v 4,.v 5,.own 100]),(100,.arr 43 6)]⟩
def zeI (rec:Tup zaq.tys->Option (Tup zap.tys⊕(Int×Int))):CEp:=⟨32,zea,zd9,LFix (zcw (fun c c_1 c_2 c_3 c_4 l=>rec (c,c_1,c_2,c_3,c_4,l)))⟩
theorem zhO (rec:Tup zaq.tys->Option (Tup zap.tys⊕(Int×Int))) (hrec:CEp.ok Try.prog 53 ⟨17,zaq,zap,rec⟩):CEp.ok Try.prog 53 (zeI rec):=CEp.ofRec (Γ:=[zbh,zcJ,zbw]) (Γp:=fun _=>[zfa rec,zbn]) (by kernel_rfl) zcy (GOK.cons zby (GOK.cons zdM (GOK.cons zbW (GOK.nil)))) ⟨[],[],[(2000001,[(0,0),(5,1),(0,2)]),(2000004,[(0,0),(5,1)]),(2000005,[(0,0),(0,1),(0,2),(5,3),(0,4),(2,5),(0,6)]),(2000007,[(0,0),(5,1)]),(2000009,[(0,0),(0,1),(5,2),(2,3),(0,4)])],[]⟩ Try.func32 rfl Try.ntmps32 (rs:=[.tmp 2]) rfl (sig:=zea) (out:=zd9) rfl (fun _ _=>(GPOK.cons (ziz rec hrec) (GPOK.cons zbP (GPOK.nil)))) Try.call32 (d:=zcw (fun c c_1 c_2 c_3 c_4 l=>rec (c,c_1,c_2,c_3,c_4,l))) (fun rc X=>by kernel_rfl)
def zec:Shape:=⟨[.str,(.int .i64),(.int .i64),(.int .i64),(.int .i64),(.list (.pair (.int .i64) (.pair (.int .i64) (.pair (.int .i64) .unit))))],[(0,.ptr 100000 0)],[(100000,.box 56 [.v 0,.v 1,.v 2,.v 3,.v 4,.own 100001]),(100001,.arr 43 5)]⟩
def zeb:Shape:=⟨[(.int .i64),.str,(.int .i64),(.int .i64),(.int .i64),(.int .i64),(.list (.pair (.int .i64) (.pair (.int .i64) (.pair (.int .i64) .unit))))],[(0,.v 0)],[(100000,.box 56 [.v 1,.v 2,.v 3,.v 4,.v 5,.own 100]),(100,.arr 43 6)]⟩
def zeL (rec:Tup zaq.tys->Option (Tup zap.tys⊕(Int×Int))):CEp:=⟨27,zec,zeb,fun X=>zbl (fun c c_1 c_2 c_3 c_4 l=>rec (c,c_1,c_2,c_3,c_4,l)) X.1 X.2.1 X.2.2.1 X.2.2.2.1 X.2.2.2.2.1 X.2.2.2.2.2⟩
theorem zhP (rec:Tup zaq.tys->Option (Tup zap.tys⊕(Int×Int))) (hrec:CEp.ok Try.prog 53 ⟨17,zaq,zap,rec⟩):CEp.ok Try.prog 53 (zeL rec):=CEp.of (Γ:=[zbh,zbw]) (Γp:=[zeI rec,zbn]) (by kernel_rfl) zcy (GOK.cons zby (GOK.cons zbW (GOK.nil))) (GPOK.cons (zhO rec hrec) (GPOK.cons zbP (GPOK.nil))) ⟨[(2,⟨⟨[(.int .i64),.str,(.int .i64),(.int .i64),(.int .i64),(.int .i64),(.list (.pair (.int .i64) (.pair (.int .i64) (.pair (.int .i64) .unit))))],[(0,.ptr 100000 0),(3,.v 0)],[(100000,.box 56 [.v 1,.v 2,.v 3,.v 4,.v 5,.own 100]),(100,.arr 43 6)]⟩,[6,7,8,9,10,11,12,13,14,15,16],[],[],101,[]⟩)],[],[(2000001,[(0,0),(5,1),(0,2)]),(2000003,[(0,0),(5,1)]),(2000004,[(0,0),(0,1),(0,2),(5,3),(0,4),(2,5),(0,6)])],[]⟩ Try.func27 rfl Try.ntmps27 (rs:=[.tmp 2]) rfl (sig:=zec) (out:=zeb) rfl Try.call27 (fun X=>by kernel_rfl)
theorem zgt:CEp.ok Try.prog 53 zdy:=CEp.ofRec (Γ:=[zbh,zbw]) (Γp:=fun rec=>[zeL rec,zbn]) (by kernel_rfl) zcy (GOK.cons zby (GOK.cons zbW (GOK.nil))) ⟨[(2,⟨⟨[(.int .i64),.str,(.int .i64),(.int .i64),(.int .i64),(.int .i64),(.list (.pair (.int .i64) (.pair (.int .i64) (.pair (.int .i64) .unit))))],[(0,.ptr 100000 0),(3,.v 0)],[(100000,.box 56 [.v 1,.v 2,.v 3,.v 4,.v 5,.own 100]),(100,.arr 43 6)]⟩,[6,7,8,9,10,11,12,13,14,15,16],[],[],101,[]⟩)],[],[(2000001,[(0,0),(5,1),(0,2)]),(2000003,[(0,0),(5,1)]),(2000004,[(0,0),(0,1),(0,2),(5,3),(0,4),(2,5),(0,6)])],[]⟩ Try.func17 rfl Try.ntmps17 (rs:=[.tmp 2]) rfl (sig:=zaq) (out:=zap) rfl (fun rec hrec=>(GPOK.cons (zhP rec hrec) (GPOK.cons zbP (GPOK.nil)))) Try.call17 (d:=zbV) (fun rc X=>by kernel_rfl)
def zgR:Shape:=⟨[.str],[(0,.v 0)],[]⟩
def zgQ:Shape:=⟨[(.list (.pair (.int .i64) (.pair (.int .i64) (.pair (.int .i64) .unit)))),(.pair (.int .i64) (.pair (.int .i64) .unit))],[(0,.v 0),(1,.v 1)],[]⟩
def zhx:CE:=⟨8,zgR,zgQ,fun X=>zeD X⟩
theorem zjU (p:Int×Int):evC TT [] [] 0 bothS ⟨[],[],[],[(7,.one 0 (.alt 0 1 (.leaf [(2,2),(2,3)]) (.alt 2 2 (.leaf [(0,1),(2,3)]) .stop)))]⟩ (zpY (Try.f16.body.getD .skip)) (zrd 13 10 36 30 p) (ztx false 36 30)=bothS (some (p.1,p.2)) (some (p.1,p.2)):=by kernel_rfl
theorem zjT (va vb:Value) (w:World):CallsD Try.prog 16 #[va,vb] .returning w (fun e u w'=>(∃ v,e = .returned v)/\u = .returning/\w'=w):=by
  refine callsD_of_wpS Try.func16 rfl fun c₀ cs hu => ?_
  apply wpS_seq
  apply wpS_region
  simp [wpOpsS,go_sem,recoverD,hu,Try.ntmps16,Exit.thenS]
  refine wpS_of_wp (wp_block (wp_seq (wp_region ?_)))
  simp [wpOps,go_sem]
  left
  refine wp_cond (t:=true) (by simp [Act.eval,Array.replicate]) ?_
  simp only [if_true]
  refine wp_region ?_
  simp [wpOps,go_sem]
  left
  cases c₀
  simp_all [bodyPostS,results,Try.results16]
theorem ziy (p:Int×Int) (w:World) (ba bb:Nat) (ca cb:Array Value) (hne:ba≠bb) (h1:w.heap[ba]? =some (.cells ca 36 (0,0))) (h2:ca.size=1) (h3:w.heap[bb]? =some (.cells cb 30 (0,0))) (h4:cb.size=2):
    CallsD Try.prog 16 #[.pointer (some ⟨ba,0,none⟩),.pointer (some ⟨bb,0,none⟩)] (.panicking (pch 53 p)) w (fun e u w'=>(∃ v,e = .returned v)/\settle u = .returning/\
      (w'.os=w.os/\w'.tape=w.tape/\w'.output=w.output/\w.heap.size<=w'.heap.size)/\(∀ b,b < w.heap.size->b≠ba->b≠bb->w'.heap[b]? =w.heap[b]?)/\
      w'.heap[ba]? =some (.cells #[zV false] 36 (0,0))/\w'.heap[bb]? =some (.cells #[.int .i64 p.1,.int .i64 p.2] 30 (0,0))):=by
  refine callsD_of_wpS Try.func16 rfl fun c₀ cs hu => ?_
  apply wpS_seq
  apply wpS_region
  simp [wpOpsS,go_sem,recoverD,hu,Try.ntmps16,Exit.thenS,pch]
  refine wpS_of_wp (wp_block (wp_seq (wp_region ?_)))
  simp [wpOps,go_sem]
  left
  refine wp_cond (t:=false) (by simp [Act.eval,Array.replicate]) ?_
  simp only [Bool.false_eq_true,if_false]
  refine wp_seq (wp_region ?_)
  simp [wpOps,go_sem,zpI Try.underlying53]
  left
  left
  left
  refine wp_cond (t:=true) (by simp [Act.eval,Array.replicate]) ?_
  simp only [if_true]
  refine wp_mono (zsM (by kernel_rfl) zcy (zjU p) hne h1 h2 h3 h4 ?_ ?_ ?_ ?_ ?_) fun e a' w' hh => ?_
  · simp
  · rfl
  · simp [Array.replicate]
  · simp [Array.replicate]
  · simp [Array.replicate]
  · obtain ⟨rfl,hd,ho,hk,y1,y2⟩:=hh
    exact ⟨hd,_,rfl,.tuple #[],by simp [results,Try.results16],⟨_,rfl⟩,rfl,ho,hk,y1,y2⟩
theorem zi8:CatchOK Try.prog 53 16 36 30 (zV false):=⟨Try.call16,zjT,ziy⟩
theorem zlo:CE.ok Try.prog zhx:=CE.ofCatch (Γ:=[]) (Γp:=[zdy,zch]) (T:=53) (by kernel_rfl) zcy (GOK.nil) (GPOK.cons zgt (GPOK.cons zc8 (GPOK.nil))) ⟨[],[],[(3000003,[]),(2000005,[(0,0),(8,1),(0,2)]),(2000007,[(0,0),(5,1)])],[]⟩ Try.func8 rfl Try.ntmps8 (rs:=[.cell 2 36,.cell 3 30]) rfl (sig:=zgR) (out:=zgQ) rfl Try.call8 (g:=16) (sa:=2) (sb:=3) (Ta:=36) (Tb:=30) (z:=zE false) zi8 (ztF false) (fun X=>by kernel_rfl)

def zjF:Shape:=⟨[(.int .i64),(.list (.int .i64))],[(0,.v 0),(1,.v 1)],[]⟩
def zjE:Shape:=⟨[(.int .i64)],[(0,.v 0)],[]⟩
def zk9:CE:=⟨19,zjF,zjE,fun X=>zkd X.1 X.2⟩
theorem zoH:CE.ok Try.prog zk9:=CE.of (Γ:=[]) (by kernel_rfl) zcy (GOK.nil) ⟨[(6,⟨⟨[(.int .i64)],[(18,.v 0)],[]⟩,[4,6,19,20,21,22,23,24,25,26,27,28,29],[],[],0,[]⟩)],[],[],[]⟩ Try.func19 rfl Try.ntmps19 (rs:=[.tmp 4]) rfl (sig:=zjF) (out:=zjE) rfl Try.call19 (fun X=>by kernel_rfl)

def zhB:Shape:=⟨[(.int .i64),(.pair (.list (.int .i64)) (.pair (.list (.int .i64)) .unit))],[(0,.v 0),(1,.v 1)],[]⟩
def zhA:Shape:=⟨[(.int .i64)],[(0,.v 0)],[]⟩
def ziB:CE:=⟨9,zhB,zhA,fun X=>zfS X.1 X.2⟩
theorem zmR:CE.ok Try.prog ziB:=CE.of (Γ:=[zk9]) (by kernel_rfl) zcy (GOK.cons zoH (GOK.nil)) ⟨[(2,⟨⟨[(.int .i64)],[(13,.v 0)],[]⟩,[4,6,7,14,15,16,17,18,19,20,21,22],[],[0],1,[]⟩)],[],[],[]⟩ Try.func9 rfl Try.ntmps9 (rs:=[.tmp 4]) rfl (sig:=zhB) (out:=zhA) rfl Try.call9 (fun X=>by kernel_rfl)

def zgk:Shape:=⟨[(.int .i64),(.list (.int .i64)),(.pair (.list (.int .i64)) (.pair (.list (.int .i64)) .unit))],[(0,.v 0),(1,.addr 1),(2,.addr 2)],[]⟩
def zgj:Shape:=⟨[(.int .i64)],[(0,.v 0)],[]⟩
def zgN:CE:=⟨10,zgk,zgj,fun X=>zdU X.1 X.2.1 X.2.2⟩
theorem zk5:CE.ok Try.prog zgN:=CE.of (Γ:=[]) (by kernel_rfl) zcy (GOK.nil) ⟨[],[],[],[]⟩ Try.func10 rfl Try.ntmps10 (rs:=[.tmp 4]) rfl (sig:=zgk) (out:=zgj) rfl Try.call10 (fun X=>by kernel_rfl)

def zeC:Shape:=⟨[(.pair (.int .i64) (.pair (.int .i64) (.pair (.int .i64) .unit))),(.int .i64),(.list .bool)],[(0,.v 0),(1,.v 1),(2,.v 2)],[]⟩
def zeB:Shape:=⟨[.bool],[(0,.v 0)],[]⟩
def ze7:CE:=⟨11,zeC,zeB,fun X=>zaW X.1 X.2.1 X.2.2⟩
theorem zix:CE.ok Try.prog ze7:=CE.of (Γ:=[]) (by kernel_rfl) zcy (GOK.nil) ⟨[],[],[],[]⟩ Try.func11 rfl Try.ntmps11 (rs:=[.tmp 6]) rfl (sig:=zeC) (out:=zeB) rfl Try.call11 (fun X=>by kernel_rfl)

def zhv:Shape:=⟨[.str,(.pair (.list (.int .i64)) (.pair (.list (.int .i64)) .unit))],[(0,.v 0),(1,.v 1)],[]⟩
def zhu:Shape:=⟨[.bool,(.int .i64)],[(0,.v 0),(1,.v 1)],[]⟩
def ziw:CE:=⟨4,zhv,zhu,fun X=>zi5 X.1 X.2⟩
theorem zmP:CE.ok Try.prog ziw:=CE.of (Γ:=[zhx,ziB,zgN,ze7]) (by kernel_rfl) zcy (GOK.cons zlo (GOK.cons zmR (GOK.cons zk5 (GOK.cons zix (GOK.nil))))) ⟨[(11,⟨⟨[(.int .i64),(.list (.list .bool))],[(11,.own 4),(42,.v 0)],[(4,.out 5 41 4 1)]⟩,[12,39,40,43,44,45,46,47,48,49,50,51],[],[1,2,3],6,[]⟩),(16,⟨⟨[(.int .i64),(.list (.list .bool))],[(11,.own 4),(54,.v 0)],[(4,.out 5 41 4 1)]⟩,[13,14,15,55,56,57,58,59,60,61,62,63,64,65,66,67,68,69,70,71,72,73,74,75,76,77,78,79,80,81,82,83,84,85,86,87,88,89,90,91,92,93,94,95,96,97,98,99,100,101,102,103,104,105,106,107,108,109,110,111,112,113,114,115,116,117,118,119,120,121,122,123,124,125,126,127,128,129,130,131,132,133,134,135,136,137,138,139,140,141,142],[],[1,2,3],6,[]⟩),(19,⟨⟨[(.int .i64),(.list (.list .bool))],[(11,.own 4),(59,.v 0)],[(4,.out 5 41 4 1)]⟩,[15,60,61,62,63,64,65,66,67,68,69,70,71,72,73,74,75,76,77,78,79,80,81,82,83,84,85,86,87,88,89,90,91,92,93,94,95,96,97,98,99,100,101,102,103,104,105,106,107,108,109,110,111,112,113,114,115,116,117,118,119,120,121,122,123,124,125,126,127,128,129,130,131,132,133,134,135,136,137,138,139,140,141],[],[1,2,3,6],7,[]⟩),(21,⟨⟨[(.int .i64),(.list (.list .bool))],[(11,.own 4),(15,.v 0)],[(4,.out 5 41 4 1)]⟩,[64,65,66,67,68,69,70,71,72,73,74,75,76,77,78,79,80,81,82,83,84,85,86,87,88,89,90,91,92,93,94,95,96,97,98,99,100,101,102,103,104,105,106,107,108,109,110,111,112,113,114,115,116,117,118,119,120,121,122,123,124,125,126,127,128,129,130,131,132,133,134,135,136,137,138,139,140],[],[1,2,3,6],7,[]⟩)],[(7,⟨⟨[(.pair (.list (.int .i64)) (.pair (.list (.int .i64)) .unit)),(.list (.int .i64))],[(3,.addr 0),(9,.ptr 2 0)],[(2,.box 22 [.own 3]),(3,.arr 3 1)]⟩,[29,30,31,32,33,34,35],[0],[1],4,[]⟩)],[(9,[(0,0),(0,1),(4,2),(0,3)]),(13,[(0,0),(0,1),(0,2),(0,3),(2,4),(0,5),(4,6)]),(26,[(0,0),(0,1),(0,2),(0,3),(0,4),(0,5),(0,6),(0,7),(0,11),(0,12),(1,8),(0,9),(0,10),(0,13),(0,14),(0,15),(4,16)]),(28,[(0,0),(0,1),(0,2),(0,3),(0,4),(0,5),(0,6),(0,7),(0,8),(0,9),(0,10),(0,11),(0,12),(0,13),(0,14),(0,15),(0,16),(0,17),(0,18),(0,19),(0,20),(0,21),(0,22),(0,23),(0,24),(0,25),(0,29),(1,26),(0,27),(0,28),(0,30),(0,31),(0,32),(0,33),(0,34),(4,35)]),(24,[(0,0),(0,1),(0,2),(0,3),(0,4),(0,5),(0,6),(0,7),(0,8),(0,9),(0,10),(0,11),(0,12),(0,13),(1,14),(0,15),(4,16)])],[(7,(.pnd (.frz 3 (.pair (.list (.int .i64)) (.pair (.list (.int .i64)) .unit)) (.one 1 (.one 4 (.rd 2 2 [3,6,8] (.rd 2 5 [6,8] (.alt 1 0 (.alt 2 3 (.alt 2 6 (.alt 1 7 (.alt 2 8 .leaf .stop) .stop) (.alt 1 7 (.alt 2 6 (.alt 2 8 .leaf .stop) .stop) .stop)) (.alt 1 7 (.alt 2 3 (.alt 2 6 (.alt 2 8 .leaf .stop) .stop) .stop) .stop)) (.alt 1 7 (.alt 1 0 (.alt 2 3 (.alt 2 6 (.alt 2 8 .leaf .stop) .stop) .stop) .stop) .stop)))))))))]⟩ Try.func4 rfl Try.ntmps4 (rs:=[.tmp 4,.tmp 5]) rfl (sig:=zhv) (out:=zhu) rfl Try.call4 (fun X=>by kernel_rfl)

def zgg:Shape:=⟨[(.pair .str (.pair (.int .i64) (.pair (.int .i64) (.pair (.int .i64) (.pair (.int .i64) (.pair (.list (.pair (.int .u8) (.pair (.int .i64) (.pair (.int .i64) .unit)))) (.pair (.pair (.int .i64) (.pair (.int .i64) .unit)) .unit)))))))],[(0,.addr 0)],[]⟩
def zgf:Shape:=⟨[.bool],[(0,.v 0)],[]⟩
def zcC:CE:=⟨22,zgg,zgf,fun X=>zde X⟩
theorem zdn:CE.ok Try.prog zcC:=CE.of (Γ:=[]) (by kernel_rfl) zcy (GOK.nil) ⟨[],[],[],[]⟩ Try.func22 rfl Try.ntmps22 (rs:=[.tmp 2]) rfl (sig:=zgg) (out:=zgf) rfl Try.call22 (fun X=>by kernel_rfl)

def zfB:Shape:=⟨[(.pair .str (.pair (.int .i64) (.pair (.int .i64) (.pair (.int .i64) (.pair (.int .i64) (.pair (.list (.pair (.int .u8) (.pair (.int .i64) (.pair (.int .i64) .unit)))) (.pair (.pair (.int .i64) (.pair (.int .i64) .unit)) .unit)))))))],[(0,.addr 0)],[]⟩
def zfA:Shape:=⟨[(.int .u8)],[(0,.v 0)],[]⟩
def zco:CE:=⟨21,zfB,zfA,fun X=>zbT X⟩
theorem zc0:CE.ok Try.prog zco:=CE.of (Γ:=[]) (by kernel_rfl) zcy (GOK.nil) ⟨[],[],[(1,[(0,0),(0,1),(0,2),(0,3),(0,4),(0,5),(0,6),(0,7),(0,8),(0,9)]),(3,[(0,0),(0,1),(0,2),(0,3),(0,4),(0,5),(0,6),(0,7),(0,8),(0,9)])],[]⟩ Try.func21 rfl Try.ntmps21 (rs:=[.tmp 2]) rfl (sig:=zfB) (out:=zfA) rfl Try.call21 (fun X=>by kernel_rfl)

def zeZ:Shape:=⟨[(.int .i64),.str,(.int .i64),(.int .i64),(.int .i64),(.int .i64),(.int .i64),(.int .i64),(.list (.pair (.int .u8) (.pair (.int .i64) (.pair (.int .i64) .unit))))],[(0,.ptr 100000 0),(1,.v 0)],[(100000,.box 47 [.v 1,.v 2,.v 3,.v 4,.v 5,.own 100001,.v 6,.v 7]),(100001,.arr 63 8)]⟩
def zeY:Shape:=⟨[.str,(.int .i64),(.int .i64),(.int .i64),(.int .i64),(.list (.pair (.int .u8) (.pair (.int .i64) (.pair (.int .i64) .unit)))),(.int .i64),(.int .i64)],[],[(100000,.box 47 [.v 0,.v 1,.v 2,.v 3,.v 4,.own 100,.v 6,.v 7]),(100,.arr 63 5)]⟩
def zcH:CE:=⟨13,zeZ,zeY,fun X=>zbK X.1 X.2.1 X.2.2.1 X.2.2.2.1 X.2.2.2.2.1 X.2.2.2.2.2.1 X.2.2.2.2.2.2.1 X.2.2.2.2.2.2.2.1 X.2.2.2.2.2.2.2.2⟩
theorem zdF:CE.ok Try.prog zcH:=CE.of (Γ:=[]) (by kernel_rfl) zcy (GOK.nil) ⟨[],[],[],[]⟩ Try.func13 rfl Try.ntmps13 (rs:=[]) rfl (sig:=zeZ) (out:=zeY) rfl Try.call13 (fun X=>by kernel_rfl)

def zdS:Shape:=⟨[(.int .u8),.str,(.int .i64),(.int .i64),(.int .i64),(.int .i64),(.int .i64),(.int .i64),(.list (.pair (.int .u8) (.pair (.int .i64) (.pair (.int .i64) .unit))))],[(0,.ptr 100000 0),(1,.v 0)],[(100000,.box 47 [.v 1,.v 2,.v 3,.v 4,.v 5,.own 100001,.v 6,.v 7]),(100001,.arr 63 8)]⟩
def zdR:Shape:=⟨[.str,(.int .i64),(.int .i64),(.int .i64),(.int .i64),(.list (.pair (.int .u8) (.pair (.int .i64) (.pair (.int .i64) .unit)))),(.int .i64),(.int .i64)],[],[(100000,.box 47 [.v 0,.v 1,.v 2,.v 3,.v 4,.own 100,.v 6,.v 7]),(100,.arr 63 5)]⟩
def zbG:CE:=⟨23,zdS,zdR,fun X=>zas X.1 X.2.1 X.2.2.1 X.2.2.2.1 X.2.2.2.2.1 X.2.2.2.2.2.1 X.2.2.2.2.2.2.1 X.2.2.2.2.2.2.2.1 X.2.2.2.2.2.2.2.2⟩
theorem zb3:CE.ok Try.prog zbG:=CE.of (Γ:=[zcH]) (by kernel_rfl) zcy (GOK.cons zdF (GOK.nil)) ⟨[],[(0,⟨⟨[.bool],[(4,.v 0)],[]⟩,[5,6,7,8,9,10,11,12,13,14,15,16,17,18,19,20,21,22],[],[],0,[]⟩),(3,⟨⟨[.str,(.int .i64),(.int .i64),(.int .i64),(.int .i64),(.int .i64),(.int .i64),(.list (.pair (.int .u8) (.pair (.int .i64) (.pair (.int .i64) .unit))))],[(0,.ptr 100000 0)],[(100000,.box 47 [.v 0,.v 1,.v 2,.v 3,.v 4,.own 100001,.v 5,.v 6]),(100001,.arr 63 7)]⟩,[30,31,32,33,34,35,36,37],[],[],0,[]⟩),(4,⟨⟨[.bool],[(52,.v 0)],[]⟩,[38,39,40,41,42,43,44,45,46,47,48,49,50,51],[],[],0,[]⟩)],[],[]⟩ Try.func23 rfl Try.ntmps23 (rs:=[]) rfl (sig:=zdS) (out:=zdR) rfl Try.call23 (fun X=>by kernel_rfl)

def zfH:Shape:=⟨[(.int .u8),(.int .i64),(.int .i64),.str,(.int .i64),(.int .i64),(.int .i64),(.int .i64),(.int .i64),(.int .i64),(.list (.pair (.int .u8) (.pair (.int .i64) (.pair (.int .i64) .unit))))],[(0,.ptr 100000 0),(1,.v 0),(2,.v 1),(3,.v 2)],[(100000,.box 47 [.v 3,.v 4,.v 5,.v 6,.v 7,.own 100001,.v 8,.v 9]),(100001,.arr 63 10)]⟩
def zfG:Shape:=⟨[(.int .i64),.str,(.int .i64),(.int .i64),(.int .i64),(.int .i64),(.list (.pair (.int .u8) (.pair (.int .i64) (.pair (.int .i64) .unit)))),(.int .i64),(.int .i64)],[(0,.v 0)],[(100000,.box 47 [.v 1,.v 2,.v 3,.v 4,.v 5,.own 100,.v 7,.v 8]),(100,.arr 63 6)]⟩
def zcp:CE:=⟨24,zfH,zfG,fun X=>zaI X.1 X.2.1 X.2.2.1 X.2.2.2.1 X.2.2.2.2.1 X.2.2.2.2.2.1 X.2.2.2.2.2.2.1 X.2.2.2.2.2.2.2.1 X.2.2.2.2.2.2.2.2.1 X.2.2.2.2.2.2.2.2.2.1 X.2.2.2.2.2.2.2.2.2.2⟩
theorem zc2:CE.ok Try.prog zcp:=CE.of (Γ:=[]) (by kernel_rfl) zcy (GOK.nil) ⟨[],[],[],[]⟩ Try.func24 rfl Try.ntmps24 (rs:=[.tmp 8]) rfl (sig:=zfH) (out:=zfG) rfl Try.call24 (fun X=>by kernel_rfl)

def zav:Shape:=⟨[.str,(.int .i64),(.int .i64),(.int .i64),(.int .i64),(.int .i64),(.int .i64),(.list (.pair (.int .u8) (.pair (.int .i64) (.pair (.int .i64) .unit))))],[(0,.ptr 100000 0)],[(100000,.box 47 [.v 0,.v 1,.v 2,.v 3,.v 4,.own 100001,.v 5,.v 6]),(100001,.arr 63 7)]⟩
def zau:Shape:=⟨[(.int .i64),.str,(.int .i64),(.int .i64),(.int .i64),(.int .i64),(.list (.pair (.int .u8) (.pair (.int .i64) (.pair (.int .i64) .unit)))),(.int .i64),(.int .i64)],[(0,.v 0)],[(100000,.box 47 [.v 1,.v 2,.v 3,.v 4,.v 5,.own 100,.v 7,.v 8]),(100,.arr 63 6)]⟩
def zd3:CE:=⟨12,zav,zau,LFix zce⟩
def zfD:Shape:=⟨[.str,(.int .i64),(.int .i64),(.int .i64),(.int .i64),(.int .i64),(.int .i64),(.list (.pair (.int .u8) (.pair (.int .i64) (.pair (.int .i64) .unit))))],[(0,.ptr 100000 0)],[(100000,.box 47 [.v 0,.v 1,.v 2,.v 3,.v 4,.own 100001,.v 5,.v 6]),(100001,.arr 63 7)]⟩
def zfC:Shape:=⟨[(.int .i64),.str,(.int .i64),(.int .i64),(.int .i64),(.int .i64),(.list (.pair (.int .u8) (.pair (.int .i64) (.pair (.int .i64) .unit)))),(.int .i64),(.int .i64)],[(0,.v 0)],[(100000,.box 47 [.v 1,.v 2,.v 3,.v 4,.v 5,.own 100,.v 7,.v 8]),(100,.arr 63 6)]⟩
def zgh (rec:Tup zav.tys->Option (Tup zau.tys)):CE:=⟨34,zfD,zfC,LFix (zdo (fun c c_1 c_2 c_3 c_4 c_5 c_6 l=>rec (c,c_1,c_2,c_3,c_4,c_5,c_6,l)))⟩
theorem zjS (rec:Tup zav.tys->Option (Tup zau.tys)) (hrec:CE.ok Try.prog ⟨12,zav,zau,rec⟩):CE.ok Try.prog (zgh rec):=CE.ofRecM (Γ:=fun _=>[zbG,zcp,zcH,⟨12,zav,zau,rec⟩,zcC,zco]) (by kernel_rfl) zcy ⟨[],[(9,⟨⟨[.bool],[(14,.v 0)],[]⟩,[15,16,17,18],[],[],0,[]⟩),(16,⟨⟨[.bool],[(28,.v 0)],[]⟩,[29,30,31,32],[],[],0,[]⟩)],[],[]⟩ Try.func34 rfl Try.ntmps34 (rs:=[.tmp 2]) rfl (sig:=zfD) (out:=zfC) rfl (fun _ _=>(GOK.cons zb3 (GOK.cons zc2 (GOK.cons zdF (GOK.cons hrec (GOK.cons zdn (GOK.cons zc0 (GOK.nil)))))))) Try.call34 (d:=zdo (fun c c_1 c_2 c_3 c_4 c_5 c_6 l=>rec (c,c_1,c_2,c_3,c_4,c_5,c_6,l))) (fun rc X=>by kernel_rfl)
def ze2:Shape:=⟨[.str,(.int .i64),(.int .i64),(.int .i64),(.int .i64),(.int .i64),(.int .i64),(.list (.pair (.int .u8) (.pair (.int .i64) (.pair (.int .i64) .unit))))],[(0,.ptr 100000 0)],[(100000,.box 47 [.v 0,.v 1,.v 2,.v 3,.v 4,.own 100001,.v 5,.v 6]),(100001,.arr 63 7)]⟩
def ze1:Shape:=⟨[(.int .i64),.str,(.int .i64),(.int .i64),(.int .i64),(.int .i64),(.list (.pair (.int .u8) (.pair (.int .i64) (.pair (.int .i64) .unit)))),(.int .i64),(.int .i64)],[(0,.v 0)],[(100000,.box 47 [.v 1,.v 2,.v 3,.v 4,.v 5,.own 100,.v 7,.v 8]),(100,.arr 63 6)]⟩
def zfE (rec:Tup zav.tys->Option (Tup zau.tys)):CE:=⟨31,ze2,ze1,LFix (zc1 (fun c c_1 c_2 c_3 c_4 c_5 c_6 l=>rec (c,c_1,c_2,c_3,c_4,c_5,c_6,l)))⟩
theorem ziX (rec:Tup zav.tys->Option (Tup zau.tys)) (hrec:CE.ok Try.prog ⟨12,zav,zau,rec⟩):CE.ok Try.prog (zfE rec):=CE.ofRecM (Γ:=fun _=>[zgh rec,zbG,zcp,zco,zcC]) (by kernel_rfl) zcy ⟨[],[(5,⟨⟨[],[],[]⟩,[2,13,14,15,16,17,18,19,20,21,22,23],[],[100],101,[]⟩)],[],[]⟩ Try.func31 rfl Try.ntmps31 (rs:=[.tmp 2]) rfl (sig:=ze2) (out:=ze1) rfl (fun _ _=>(GOK.cons (zjS rec hrec) (GOK.cons zb3 (GOK.cons zc2 (GOK.cons zc0 (GOK.cons zdn (GOK.nil))))))) Try.call31 (d:=zc1 (fun c c_1 c_2 c_3 c_4 c_5 c_6 l=>rec (c,c_1,c_2,c_3,c_4,c_5,c_6,l))) (fun rc X=>by kernel_rfl)
def ze4:Shape:=⟨[.str,(.int .i64),(.int .i64),(.int .i64),(.int .i64),(.int .i64),(.int .i64),(.list (.pair (.int .u8) (.pair (.int .i64) (.pair (.int .i64) .unit))))],[(0,.ptr 100000 0)],[(100000,.box 47 [.v 0,.v 1,.v 2,.v 3,.v 4,.own 100001,.v 5,.v 6]),(100001,.arr 63 7)]⟩
def ze3:Shape:=⟨[(.int .i64),.str,(.int .i64),(.int .i64),(.int .i64),(.int .i64),(.list (.pair (.int .u8) (.pair (.int .i64) (.pair (.int .i64) .unit)))),(.int .i64),(.int .i64)],[(0,.v 0)],[(100000,.box 47 [.v 1,.v 2,.v 3,.v 4,.v 5,.own 100,.v 7,.v 8]),(100,.arr 63 6)]⟩
def zfI (rec:Tup zav.tys->Option (Tup zau.tys)):CE:=⟨20,ze4,ze3,fun X=>zbc (fun c c_1 c_2 c_3 c_4 c_5 c_6 l=>rec (c,c_1,c_2,c_3,c_4,c_5,c_6,l)) X.1 X.2.1 X.2.2.1 X.2.2.2.1 X.2.2.2.2.1 X.2.2.2.2.2.1 X.2.2.2.2.2.2.1 X.2.2.2.2.2.2.2⟩
theorem ziY (rec:Tup zav.tys->Option (Tup zau.tys)) (hrec:CE.ok Try.prog ⟨12,zav,zau,rec⟩):CE.ok Try.prog (zfI rec):=CE.of (Γ:=[zfE rec,zbG,zcp,zco,zcC]) (by kernel_rfl) zcy (GOK.cons (ziX rec hrec) (GOK.cons zb3 (GOK.cons zc2 (GOK.cons zc0 (GOK.cons zdn (GOK.nil)))))) ⟨[(2,⟨⟨[(.int .i64),.str,(.int .i64),(.int .i64),(.int .i64),(.int .i64),(.int .i64),(.int .i64),(.list (.pair (.int .u8) (.pair (.int .i64) (.pair (.int .i64) .unit))))],[(0,.ptr 100000 0),(3,.v 0)],[(100000,.box 47 [.v 1,.v 2,.v 3,.v 4,.v 5,.own 100,.v 6,.v 7]),(100,.arr 63 8)]⟩,[2,4,5,6,9,10,11,12,13,14,15,16,17,18,19,20,21,22,23,24,25,26,27,28],[],[],101,[]⟩)],[],[],[]⟩ Try.func20 rfl Try.ntmps20 (rs:=[.tmp 2]) rfl (sig:=ze4) (out:=ze3) rfl Try.call20 (fun X=>by kernel_rfl)
theorem zhl:CE.ok Try.prog zd3:=CE.ofRecM (Γ:=fun rec=>[zfI rec,zbG,zcp,zco,zcC]) (by kernel_rfl) zcy ⟨[(2,⟨⟨[(.int .i64),.str,(.int .i64),(.int .i64),(.int .i64),(.int .i64),(.int .i64),(.int .i64),(.list (.pair (.int .u8) (.pair (.int .i64) (.pair (.int .i64) .unit))))],[(0,.ptr 100000 0),(3,.v 0)],[(100000,.box 47 [.v 1,.v 2,.v 3,.v 4,.v 5,.own 100,.v 6,.v 7]),(100,.arr 63 8)]⟩,[2,4,5,6,9,10,11,12,13,14,15,16,17,18,19,20,21,22,23,24,25,26,27,28],[],[],101,[]⟩)],[],[],[]⟩ Try.func12 rfl Try.ntmps12 (rs:=[.tmp 2]) rfl (sig:=zav) (out:=zau) rfl (fun rec hrec=>(GOK.cons (ziY rec hrec) (GOK.cons zb3 (GOK.cons zc2 (GOK.cons zc0 (GOK.cons zdn (GOK.nil))))))) Try.call12 (d:=zce) (fun rc X=>by kernel_rfl)
def zjx:Shape:=⟨[.str],[(0,.v 0)],[]⟩
def zjw:Shape:=⟨[(.int .i64),(.pair (.int .i64) (.pair (.int .i64) .unit)),(.list (.pair (.int .u8) (.pair (.int .i64) (.pair (.int .i64) .unit))))],[(0,.own 0),(1,.v 0),(2,.v 1)],[(0,.arr 63 2)]⟩
def zkX:CE:=⟨5,zjx,zjw,fun X=>zis X⟩
theorem zos:CE.ok Try.prog zkX:=CE.of (Γ:=[zd3,zcH]) (by kernel_rfl) zcy (GOK.cons zhl (GOK.cons zdF (GOK.nil))) ⟨[],[],[(8,[(0,0),(0,1),(0,2),(0,3),(0,4),(0,5),(2,6)])],[]⟩ Try.func5 rfl Try.ntmps5 (rs:=[.tmp 2,.tmp 3,.cell 4 30]) rfl (sig:=zjx) (out:=zjw) rfl Try.call5 (fun X=>by kernel_rfl)

def zlL:Shape:=⟨[(.int .i64),(.list (.int .i64))],[(0,.v 0),(1,.v 1)],[]⟩
def zlK:Shape:=⟨[(.int .i64)],[(0,.v 0)],[]⟩
def zny:CE:=⟨14,zlL,zlK,fun X=>znw X.1 X.2⟩
theorem zq3:CE.ok Try.prog zny:=CE.of (Γ:=[]) (by kernel_rfl) zcy (GOK.nil) ⟨[(6,⟨⟨[(.int .i64)],[(5,.v 0)],[]⟩,[4,15,16,17,18,19,20,21,22,23,24,25,26,27,28,29,30,31,32,33],[],[],0,[]⟩)],[],[],[]⟩ Try.func14 rfl Try.ntmps14 (rs:=[.tmp 4]) rfl (sig:=zlL) (out:=zlK) rfl Try.call14 (fun X=>by kernel_rfl)

def zjq:Shape:=⟨[(.int .i64),(.pair (.list (.int .i64)) (.pair (.list (.int .i64)) .unit))],[(0,.v 0),(1,.v 1)],[]⟩
def zjp:Shape:=⟨[(.int .i64)],[(0,.v 0)],[]⟩
def zkS:CE:=⟨6,zjq,zjp,fun X=>zin X.1 X.2⟩
theorem zop:CE.ok Try.prog zkS:=CE.of (Γ:=[zny]) (by kernel_rfl) zcy (GOK.cons zq3 (GOK.nil)) ⟨[],[],[],[]⟩ Try.func6 rfl Try.ntmps6 (rs:=[.tmp 4]) rfl (sig:=zjq) (out:=zjp) rfl Try.call6 (fun X=>by kernel_rfl)

def znv:Shape:=⟨[(.pair (.list (.int .i64)) (.pair (.list (.int .i64)) .unit)),(.int .i64)],[(0,.v 0),(1,.v 1)],[]⟩
def znu:Shape:=⟨[(.int .i64)],[(0,.v 0)],[]⟩
def zo5:CE:=⟨25,znv,znu,fun X=>zq2 X.1 X.2⟩
theorem zrJ:CE.ok Try.prog zo5:=CE.of (Γ:=[]) (by kernel_rfl) zcy (GOK.nil) ⟨[],[],[(3,[(0,0),(0,1),(0,2),(0,3),(0,4),(0,5),(0,6),(0,7),(0,8),(0,9),(0,10),(0,11),(0,12),(0,13)])],[]⟩ Try.func25 rfl Try.ntmps25 (rs:=[.tmp 4]) rfl (sig:=znv) (out:=znu) rfl Try.call25 (fun X=>by kernel_rfl)

def zjt:Shape:=⟨[(.pair (.list (.int .i64)) (.pair (.list (.int .i64)) .unit)),(.int .i64)],[(0,.v 0),(1,.v 1)],[]⟩
def zjs:Shape:=⟨[(.int .i64)],[(0,.v 0)],[]⟩
def zkV:CE:=⟨26,zjt,zjs,fun X=>zef X.1 X.2⟩
theorem zoq:CE.ok Try.prog zkV:=CE.of (Γ:=[]) (by kernel_rfl) zcy (GOK.nil) ⟨[],[],[],[]⟩ Try.func26 rfl Try.ntmps26 (rs:=[.tmp 4]) rfl (sig:=zjt) (out:=zjs) rfl Try.call26 (fun X=>by kernel_rfl)

def zjz:Shape:=⟨[(.list (.pair (.int .u8) (.pair (.int .i64) (.pair (.int .i64) .unit)))),(.list (.list .bool)),(.int .i64),(.int .i64),(.pair (.list (.int .i64)) (.pair (.list (.int .i64)) .unit))],[(0,.v 0),(1,.v 1),(2,.v 2),(3,.v 3),(4,.v 4)],[]⟩
def zjy:Shape:=⟨[.bool],[(0,.v 0)],[]⟩
def zkZ:CE:=⟨15,zjz,zjy,fun X=>zit X.1 X.2.1 X.2.2.1 X.2.2.2.1 X.2.2.2.2⟩
theorem zot:CE.ok Try.prog zkZ:=CE.of (Γ:=[zo5,zkV]) (by kernel_rfl) zcy (GOK.cons zrJ (GOK.cons zoq (GOK.nil))) ⟨[(22,⟨⟨[(.int .i64),(.int .i64)],[(3,.v 0),(14,.v 1)],[]⟩,[10,115,116,117,118,119,120,121,122,123,124,125,126,127,128,129,130,131,132,133,134,135,136,137,138,139,140,141,142,143,144,145,146,147,148,149,150,151,152,153,154,155,156,157,158,159,160,161,162,163,164,165,166,167,168,169,170,171,172,173,174,175,176,177,178,179,180,181,182,183],[],[0,1],2,[]⟩)],[],[(18,[(0,0),(0,1),(0,2),(0,3),(0,4),(0,5),(0,6),(1,7),(0,8),(0,9),(0,10)])],[]⟩ Try.func15 rfl Try.ntmps15 (rs:=[.tmp 10]) rfl (sig:=zjz) (out:=zjy) rfl Try.call15 (fun X=>by kernel_rfl)

def zjv:Shape:=⟨[(.list (.pair (.int .u8) (.pair (.int .i64) (.pair (.int .i64) .unit)))),(.int .i64),(.pair (.list (.int .i64)) (.pair (.list (.int .i64)) .unit))],[(0,.v 0),(1,.v 1),(2,.v 2)],[]⟩
def zju:Shape:=⟨[.bool],[(0,.v 0)],[]⟩
def zkW:CE:=⟨7,zjv,zju,fun X=>zkb X.1 X.2.1 X.2.2⟩
theorem zor:CE.ok Try.prog zkW:=CE.of (Γ:=[zkZ]) (by kernel_rfl) zcy (GOK.cons zot (GOK.nil)) ⟨[(4,⟨⟨[(.int .i64),(.list (.list .bool))],[(8,.own 1),(9,.v 0)],[(1,.arr 41 1)]⟩,[10,11,19,20,21,22,23,24,25,26,27,28,29,30,31,32,33,34,35,36,37,38,39,40,41,42,43,44],[],[0],2,[]⟩),(8,⟨⟨[(.int .i64),(.list .bool)],[(10,.own 2),(11,.v 0)],[(2,.arr 4 1)]⟩,[26,27,28,29,30,31,32,33,34,35,36,37,38,39,40],[],[0,1],3,[]⟩)],[],[],[]⟩ Try.func7 rfl Try.ntmps7 (rs:=[.tmp 6]) rfl (sig:=zjv) (out:=zju) rfl Try.call7 (fun X=>by kernel_rfl)

def zfy:Shape:=⟨[.str,(.pair (.list (.int .i64)) (.pair (.list (.int .i64)) .unit))],[(0,.v 0),(1,.v 1)],[]⟩
def zfx:Shape:=⟨[.bool],[(0,.v 0)],[]⟩
def zdZ:CE:=⟨3,zfy,zfx,fun X=>zf1 X.1 X.2⟩
theorem zjO:CE.ok Try.prog zdZ:=CE.of (Γ:=[ziw,zkX,zkS,zkW]) (by kernel_rfl) zcy (GOK.cons zmP (GOK.cons zos (GOK.cons zop (GOK.cons zor (GOK.nil))))) ⟨[],[],[],[]⟩ Try.func3 rfl Try.ntmps3 (rs:=[.tmp 4]) rfl (sig:=zfy) (out:=zfx) rfl Try.call3 (fun X=>by kernel_rfl)

end
end Go.Proofs.Yteneganiigbikaa.timeHoldsW
