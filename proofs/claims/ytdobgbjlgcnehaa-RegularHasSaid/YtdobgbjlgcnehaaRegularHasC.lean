/- That the functions of 'RegularHas' compute so. -/
import Derived.Test.YtdobgbjlgcnehaaRegularHasD
import Derived.Test.YtdobgbjlgcnehaaProg
import Derived.KernelRfl
set_option maxHeartbeats 1000000
set_option maxRecDepth 20000
set_option linter.unusedSimpArgs false
set_option linter.unusedVariables false
set_option linter.unusedSectionVars false
namespace Go.Proofs.Ytdobgbjlgcnehaa.regularHasW
open Go Go.Ab
noncomputable section
def te3:TE:=⟨3,.int .i64,false,1,8,.int .i64 0,some (.int .i64)⟩
theorem zui:TEok Try.prog te3:=⟨TI.of Try.underlying3 rfl (by kernel_rfl),Try.underlying3,fun t h=>by cases h;exact ⟨rfl,rfl,by decide,rfl⟩⟩
def te4:TE:=⟨4,.bool,false,1,1,.bool false,some .bool⟩
theorem zuj:TEok Try.prog te4:=⟨TI.of Try.underlying4 rfl (by kernel_rfl),Try.underlying4,fun t h=>by cases h;exact ⟨rfl,rfl,by decide,rfl⟩⟩
def te5:TE:=⟨5,.int .u8,false,1,1,.int .u8 0,some (.int .u8)⟩
theorem zuk:TEok Try.prog te5:=⟨TI.of Try.underlying5 rfl (by kernel_rfl),Try.underlying5,fun t h=>by cases h;exact ⟨rfl,rfl,by decide,rfl⟩⟩
def te9:TE:=⟨9,.str,false,1,16,.string ⟨⟨[]⟩⟩,some .str⟩
theorem zul:TEok Try.prog te9:=⟨TI.of Try.underlying9 rfl (by kernel_rfl),Try.underlying9,fun t h=>by cases h;exact ⟨rfl,rfl,by decide,rfl⟩⟩
def te22:TE:=⟨22,.slice 3,false,1,24,.slice none 0 0,some (.list (.int .i64))⟩
theorem zty:TEok Try.prog te22:=⟨TI.of Try.underlying22 rfl (by kernel_rfl),Try.underlying22,fun t h=>by cases h;exact ⟨rfl,rfl,by decide,rfl⟩⟩
def te23:TE:=⟨23,.int .i64,false,1,8,.int .i64 0,some (.int .i64)⟩
theorem ztz:TEok Try.prog te23:=⟨TI.of Try.underlying23 rfl (by kernel_rfl),Try.underlying23,fun t h=>by cases h;exact ⟨rfl,rfl,by decide,rfl⟩⟩
def te26:TE:=⟨26,.slice 63,false,1,24,.slice none 0 0,some (.list (.pair (.int .i64) (.pair (.int .i64) Tc3)))⟩
theorem ztA:TEok Try.prog te26:=⟨TI.of Try.underlying26 rfl (by kernel_rfl),Try.underlying26,fun t h=>by cases h;exact ⟨rfl,rfl,by decide,rfl⟩⟩
def te28:TE:=⟨28,.struct [(0,23),(1,3)] none,true,2,16,.agg ⟨[.int .i64 0,.int .i64 0]⟩,some (.pair (.int .i64) (.pair (.int .i64) .unit))⟩
theorem ztB:TEok Try.prog te28:=⟨TI.of Try.underlying28 rfl (by kernel_rfl),⟨⟨_,Try.underlying28,rfl⟩,fun t h=>by cases h⟩,fun t h=>by cases h;exact ⟨rfl,rfl,by decide,rfl⟩⟩
def te34:TE:=⟨34,.other,false,1,8,.pointer none,some (.tree (.pair (.int .i64) (.pair (.int .i64) .unit)))⟩
theorem ztC:TEok Try.prog te34:=⟨TI.of Try.underlying34 rfl (by kernel_rfl),trivial,fun t h=>by cases h;exact ⟨rfl,rfl,by decide,rfl⟩⟩
def te37:TE:=⟨37,.other,false,1,8,.pointer none,none⟩
theorem ztD:TEok Try.prog te37:=⟨TI.of Try.underlying37 rfl (by kernel_rfl),trivial,fun t h=>by cases h⟩
def te38:TE:=⟨38,.slice 4,false,1,24,.slice none 0 0,some (.list .bool)⟩
theorem ztE:TEok Try.prog te38:=⟨TI.of Try.underlying38 rfl (by kernel_rfl),Try.underlying38,fun t h=>by cases h;exact ⟨rfl,rfl,by decide,rfl⟩⟩
def te41:TE:=⟨41,.slice 22,false,1,24,.slice none 0 0,some (.list (.list (.int .i64)))⟩
theorem ztF:TEok Try.prog te41:=⟨TI.of Try.underlying41 rfl (by kernel_rfl),Try.underlying41,fun t h=>by cases h;exact ⟨rfl,rfl,by decide,rfl⟩⟩
def te43:TE:=⟨43,.struct [(0,22),(1,41)] none,true,2,48,.agg ⟨[.slice none 0 0,.slice none 0 0]⟩,some (.pair (.list (.int .i64)) (.pair (.list (.list (.int .i64))) .unit))⟩
theorem ztG:TEok Try.prog te43:=⟨TI.of Try.underlying43 rfl (by kernel_rfl),⟨⟨_,Try.underlying43,rfl⟩,fun t h=>by cases h⟩,fun t h=>by cases h;exact ⟨rfl,rfl,by decide,rfl⟩⟩
def te46:TE:=⟨46,.struct [(0,9),(1,3),(2,3),(3,26),(4,28)] none,true,6,72,.agg ⟨[.string ⟨⟨[]⟩⟩,.int .i64 0,.int .i64 0,.slice none 0 0,.int .i64 0,.int .i64 0]⟩,some (.pair .str (.pair (.int .i64) (.pair (.int .i64) (.pair (.list (.pair (.int .i64) (.pair (.int .i64) Tc3))) (.pair (.pair (.int .i64) (.pair (.int .i64) .unit)) .unit)))))⟩
theorem ztH:TEok Try.prog te46:=⟨TI.of Try.underlying46 rfl (by kernel_rfl),⟨⟨_,Try.underlying46,rfl⟩,fun t h=>by cases h⟩,fun t h=>by cases h;exact ⟨rfl,rfl,by decide,rfl⟩⟩
def te51:TE:=⟨51,.struct [(0,28)] none,true,2,16,.agg ⟨[.int .i64 0,.int .i64 0]⟩,some (.pair (.pair (.int .i64) (.pair (.int .i64) .unit)) .unit)⟩
theorem ztI:TEok Try.prog te51:=⟨TI.of Try.underlying51 rfl (by kernel_rfl),⟨⟨_,Try.underlying51,rfl⟩,fun t h=>by cases h⟩,fun t h=>by cases h;exact ⟨rfl,rfl,by decide,rfl⟩⟩
def te54:TE:=⟨54,.struct [(0,9),(1,3),(2,3)] none,true,3,32,.agg ⟨[.string ⟨⟨[]⟩⟩,.int .i64 0,.int .i64 0]⟩,some (.pair .str (.pair (.int .i64) (.pair (.int .i64) .unit)))⟩
theorem ztJ:TEok Try.prog te54:=⟨TI.of Try.underlying54 rfl (by kernel_rfl),⟨⟨_,Try.underlying54,rfl⟩,fun t h=>by cases h⟩,fun t h=>by cases h;exact ⟨rfl,rfl,by decide,rfl⟩⟩
def te57:TE:=⟨57,.struct [(0,4),(1,22),(2,22)] none,true,3,56,.agg ⟨[.bool false,.slice none 0 0,.slice none 0 0]⟩,some Tc1⟩
theorem ztK:TEok Try.prog te57:=⟨TI.of Try.underlying57 rfl (by kernel_rfl),⟨⟨_,Try.underlying57,rfl⟩,fun t h=>by cases h⟩,fun t h=>by cases h;exact ⟨rfl,rfl,by decide,rfl⟩⟩
def te63:TE:=⟨63,.struct [(0,3),(1,3),(2,22)] none,true,3,40,.agg ⟨[.int .i64 0,.int .i64 0,.slice none 0 0]⟩,some (.pair (.int .i64) (.pair (.int .i64) Tc3))⟩
theorem ztL:TEok Try.prog te63:=⟨TI.of Try.underlying63 rfl (by kernel_rfl),⟨⟨_,Try.underlying63,rfl⟩,fun t h=>by cases h⟩,fun t h=>by cases h;exact ⟨rfl,rfl,by decide,rfl⟩⟩
def te64:TE:=⟨64,.slice 34,false,1,24,.slice none 0 0,some (.list (.tree (.pair (.int .i64) (.pair (.int .i64) .unit))))⟩
theorem ztM:TEok Try.prog te64:=⟨TI.of Try.underlying64 rfl (by kernel_rfl),Try.underlying64,fun t h=>by cases h;exact ⟨rfl,rfl,by decide,rfl⟩⟩
def te66:TE:=⟨66,.struct [(0,3),(1,3),(2,64)] none,true,3,40,.agg ⟨[.int .i64 0,.int .i64 0,.slice none 0 0]⟩,some (.pair (.int .i64) (.pair (.int .i64) (.pair (.list (.tree (.pair (.int .i64) (.pair (.int .i64) .unit)))) .unit)))⟩
theorem ztN:TEok Try.prog te66:=⟨TI.of Try.underlying66 rfl (by kernel_rfl),⟨⟨_,Try.underlying66,rfl⟩,fun t h=>by cases h⟩,fun t h=>by cases h;exact ⟨rfl,rfl,by decide,rfl⟩⟩
def TT:List TE:=[te3,te4,te5,te9,te22,te23,te26,te28,te34,te37,te38,te41,te43,te46,te51,te54,te57,te63,te64,te66]
theorem zdH:TOK Try.prog TT:=TOK.cons zui (TOK.cons zuj (TOK.cons zuk (TOK.cons zul (TOK.cons zty (TOK.cons ztz (TOK.cons ztA (TOK.cons ztB (TOK.cons ztC (TOK.cons ztD (TOK.cons ztE (TOK.cons ztF (TOK.cons ztG (TOK.cons ztH (TOK.cons ztI (TOK.cons ztJ (TOK.cons ztK (TOK.cons ztL (TOK.cons ztM (TOK.cons ztN (TOK.nil))))))))))))))))))))

def zec:Shape:=⟨[(.pair .str (.pair (.int .i64) (.pair (.int .i64) .unit)))],[(0,.addr 0)],[]⟩
def zeb:Shape:=⟨[(.int .u8)],[(0,.v 0)],[]⟩
def zbD:CE:=⟨23,zec,zeb,fun X=>zbf X⟩
theorem zbY:CE.ok Try.prog zbD:=CE.of (Γ:=[]) (by kernel_rfl) zdH (GOK.nil) ⟨[],[],[(1,[(0,0),(0,1),(0,2),(0,3),(0,4),(0,5),(0,6),(0,7),(0,8),(0,9)]),(3,[(0,0),(0,1),(0,2),(0,3),(0,4),(0,5),(0,6),(0,7),(0,8),(0,9)])],[]⟩ Try.func23 rfl Try.ntmps23 (rs:=[.tmp 2]) rfl (sig:=zec) (out:=zeb) rfl Try.call23 (fun X=>by kernel_rfl)

def zdX:Shape:=⟨[(.pair .str (.pair (.int .i64) (.pair (.int .i64) .unit))),(.int .i64)],[(0,.addr 0),(1,.v 1)],[]⟩
def zdW:Shape:=⟨[],[],[]⟩
def zcy:CEp:=⟨16,zdX,zdW,fun X=>zby X.1 X.2⟩
theorem zea:CEp.ok Try.prog 51 zcy:=CEp.of (Γ:=[]) (Γp:=[]) (by kernel_rfl) zdH (GOK.nil) (GPOK.nil) ⟨[],[],[(2000000,[(0,0),(0,1),(0,2),(0,3),(0,4),(0,5),(0,6),(6,7),(2,8)])],[]⟩ Try.func16 rfl Try.ntmps16 (rs:=[]) rfl (sig:=zdX) (out:=zdW) rfl Try.call16 (fun X=>by kernel_rfl)

theorem zfk (s:ByteArray) (c:Int) (w:World):Calls Try.prog 33 #[.string s,.int .u8 c] w fun e w'=>e = .returned (.int .i64 (Lib.indexByte s.data.toList c.toNat.toUInt8))/\w'=w:=by
  go_enter Try.func33,Try.ntmps33
  go_wp2
  rw [run_callFunc_extern Try.func34 (by kernel_rfl) (by kernel_rfl) (by kernel_rfl) (e:=Extern.BytealgIndexByte.indexByte) (by kernel_rfl),Lib.run_indexByteString]
  simp only [Result.andThen]
  rw [Oper.upon_value]
  go_wp2
  go_ret
  exact ⟨rfl,rfl⟩
def zdF:CE:=⟨33,⟨[.str,(.int .u8)],[(0,.v 0),(1,.v 1)],[]⟩,⟨[(.int .i64)],[(0,.v 0)],[]⟩,fun X=>zcW X.1 X.2⟩
theorem zgJ:CE.ok Try.prog zdF:=zqs Try.call33 zfk

def zeL:Shape:=⟨[.str,(.int .u8)],[(0,.v 0),(1,.v 1)],[]⟩
def zeK:Shape:=⟨[(.int .i64)],[(0,.v 0)],[]⟩
def zeU:CE:=⟨32,zeL,zeK,fun X=>zer X.1 X.2⟩
theorem zim:CE.ok Try.prog zeU:=CE.of (Γ:=[zdF]) (by kernel_rfl) zdH (GOK.cons zgJ (GOK.nil)) ⟨[],[],[],[]⟩ Try.func32 rfl Try.ntmps32 (rs:=[.tmp 4]) rfl (sig:=zeL) (out:=zeK) rfl Try.call32 (fun X=>by kernel_rfl)

def zdh:Shape:=⟨[(.pair .str (.pair (.int .i64) (.pair (.int .i64) .unit)))],[(0,.addr 0)],[]⟩
def zdg:Shape:=⟨[.bool],[(0,.v 0)],[]⟩
def zdD:CE:=⟨28,zdh,zdg,fun X=>zbX X⟩
theorem zgB:CE.ok Try.prog zdD:=CE.of (Γ:=[zbD,zeU]) (by kernel_rfl) zdH (GOK.cons zbY (GOK.cons zim (GOK.nil))) ⟨[],[],[(1,[(0,0),(0,1),(0,2),(0,3),(0,4),(0,5),(0,6),(0,7),(0,8),(0,9),(0,10),(0,11),(1,12),(1,13),(0,14),(0,15),(0,16)])],[]⟩ Try.func28 rfl Try.ntmps28 (rs:=[.tmp 2]) rfl (sig:=zdh) (out:=zdg) rfl Try.call28 (fun X=>by kernel_rfl)

def zar:Shape:=⟨[.str,(.int .i64),(.int .i64)],[(0,.ptr 100000 0)],[(100000,.box 54 [.v 0,.v 1,.v 2])]⟩
def zaq:Shape:=⟨[(.tree (.pair (.int .i64) (.pair (.int .i64) .unit))),.str,(.int .i64),(.int .i64)],[(0,.v 0)],[(100000,.box 54 [.v 1,.v 2,.v 3])]⟩
def zd3:CEp:=⟨15,zar,zaq,LFix zbN⟩
def zd0:Shape:=⟨[.str,(.int .i64),(.int .i64)],[(0,.ptr 100000 0)],[(100000,.box 54 [.v 0,.v 1,.v 2])]⟩
def zdZ:Shape:=⟨[(.tree (.pair (.int .i64) (.pair (.int .i64) .unit))),.str,(.int .i64),(.int .i64)],[(0,.v 0)],[(100000,.box 54 [.v 1,.v 2,.v 3])]⟩
def zef (rec:Tup zar.tys->Option (Tup zaq.tys⊕(Int×Int))):CEp:=⟨31,zd0,zdZ,fun X=>zbl (fun c c_1 c_2=>rec (c,c_1,c_2)) X.1 X.2.1 X.2.2⟩
theorem zhl (rec:Tup zar.tys->Option (Tup zaq.tys⊕(Int×Int))) (hrec:CEp.ok Try.prog 51 ⟨15,zar,zaq,rec⟩):CEp.ok Try.prog 51 (zef rec):=CEp.of (Γ:=[zbD]) (Γp:=[⟨15,zar,zaq,rec⟩,zcy]) (by kernel_rfl) zdH (GOK.cons zbY (GOK.nil)) (GPOK.cons hrec (GPOK.cons zea (GPOK.nil))) ⟨[],[(5,⟨⟨[.bool],[(26,.v 0)],[]⟩,[27,28,29,30,31,32],[],[],0,[]⟩),(10,⟨⟨[],[],[]⟩,[48,49,50,51,52,53,54],[],[],0,[]⟩)],[(2000010,[(0,0),(5,1)]),(2000013,[(0,0),(5,1),(0,2)]),(2000015,[(0,0),(5,1)]),(2000019,[(0,0),(5,1)])],[]⟩ Try.func31 rfl Try.ntmps31 (rs:=[.tmp 2]) rfl (sig:=zd0) (out:=zdZ) rfl Try.call31 (fun X=>by kernel_rfl)
def zee:Shape:=⟨[.str,(.int .i64),(.int .i64)],[(0,.ptr 100000 0)],[(100000,.box 54 [.v 0,.v 1,.v 2])]⟩
def zed:Shape:=⟨[(.tree (.pair (.int .i64) (.pair (.int .i64) .unit))),.str,(.int .i64),(.int .i64)],[(0,.v 0)],[(100000,.box 54 [.v 1,.v 2,.v 3])]⟩
def zeF (rec:Tup zar.tys->Option (Tup zaq.tys⊕(Int×Int))):CEp:=⟨27,zee,zed,fun X=>zbg (fun c c_1 c_2=>rec (c,c_1,c_2)) X.1 X.2.1 X.2.2⟩
theorem zhK (rec:Tup zar.tys->Option (Tup zaq.tys⊕(Int×Int))) (hrec:CEp.ok Try.prog 51 ⟨15,zar,zaq,rec⟩):CEp.ok Try.prog 51 (zeF rec):=CEp.of (Γ:=[zbD]) (Γp:=[zef rec]) (by kernel_rfl) zdH (GOK.cons zbY (GOK.nil)) (GPOK.cons (zhl rec hrec) (GPOK.nil)) ⟨[(2,⟨⟨[(.tree (.pair (.int .i64) (.pair (.int .i64) .unit))),.str,(.int .i64),(.int .i64)],[(0,.ptr 100000 0),(3,.v 0)],[(100000,.box 54 [.v 1,.v 2,.v 3])]⟩,[6,7,8,9,10,11,12,13,14,15,16,17,18,19],[],[],0,[]⟩)],[],[(2000001,[(0,0),(5,1),(0,2)])],[]⟩ Try.func27 rfl Try.ntmps27 (rs:=[.tmp 2]) rfl (sig:=zee) (out:=zed) rfl Try.call27 (fun X=>by kernel_rfl)
def zeh:Shape:=⟨[.str,(.int .i64),(.int .i64)],[(0,.ptr 100000 0)],[(100000,.box 54 [.v 0,.v 1,.v 2])]⟩
def zeg:Shape:=⟨[(.tree (.pair (.int .i64) (.pair (.int .i64) .unit))),.str,(.int .i64),(.int .i64)],[(0,.v 0)],[(100000,.box 54 [.v 1,.v 2,.v 3])]⟩
def zeH (rec:Tup zar.tys->Option (Tup zaq.tys⊕(Int×Int))):CEp:=⟨22,zeh,zeg,fun X=>zbh (fun c c_1 c_2=>rec (c,c_1,c_2)) X.1 X.2.1 X.2.2⟩
theorem zhL (rec:Tup zar.tys->Option (Tup zaq.tys⊕(Int×Int))) (hrec:CEp.ok Try.prog 51 ⟨15,zar,zaq,rec⟩):CEp.ok Try.prog 51 (zeH rec):=CEp.of (Γ:=[zdD]) (Γp:=[zeF rec]) (by kernel_rfl) zdH (GOK.cons zgB (GOK.nil)) (GPOK.cons (zhK rec hrec) (GPOK.nil)) ⟨[(2,⟨⟨[.str,(.int .i64),(.int .i64),(.int .i64),(.int .i64),(.list (.tree (.pair (.int .i64) (.pair (.int .i64) .unit))))],[(0,.ptr 100000 0),(3,.ptr 1 0)],[(100000,.box 54 [.v 0,.v 1,.v 2]),(1,.box 66 [.v 3,.v 4,.own 0]),(0,.arr 34 5)]⟩,[6,7,8,9,10,11,12,13,14,15,16,17,18,19,20,21],[],[],2,[]⟩)],[(3,⟨⟨[.str,(.int .i64),(.int .i64),(.int .i64),(.int .i64),(.list (.tree (.pair (.int .i64) (.pair (.int .i64) .unit))))],[(0,.ptr 100000 0),(3,.ptr 1 0)],[(100000,.box 54 [.v 0,.v 1,.v 2]),(1,.box 66 [.v 3,.v 4,.own 0]),(0,.arr 34 5)]⟩,[6,7,8,9,10,11,12,13,14,15,16,17,18,19,20,21],[],[],2,[]⟩)],[(2000001,[(0,0),(5,1),(2,2),(1,3),(2,4),(0,5)]),(4000003,[])],[(3,(.pnd (.one 0 (.one 1 (.one 2 (.one 3 (.one 5 (.rd 1 4 [8,9,10,11] (.alt 5 6 (.alt 1 7 (.alt 2 8 (.one 9 (.one 10 (.alt 2 11 .leaf .stop))) .stop) .stop) .stop)))))))))]⟩ Try.func22 rfl Try.ntmps22 (rs:=[.tmp 2]) rfl (sig:=zeh) (out:=zeg) rfl Try.call22 (fun X=>by kernel_rfl)
theorem zgX:CEp.ok Try.prog 51 zd3:=CEp.ofRec (Γ:=[zbD]) (Γp:=fun rec=>[zeH rec]) (by kernel_rfl) zdH (GOK.cons zbY (GOK.nil)) ⟨[(2,⟨⟨[.str,(.int .i64),(.int .i64),(.int .i64),(.int .i64),(.list (.tree (.pair (.int .i64) (.pair (.int .i64) .unit))))],[(0,.ptr 100000 0),(3,.ptr 1 0)],[(100000,.box 54 [.v 0,.v 1,.v 2]),(1,.box 66 [.v 3,.v 4,.own 0]),(0,.arr 34 5)]⟩,[6,7,8,9,10,11,12,13,14,15,16,17,18,19,20,21,22,23,24,25,26,27,28,29],[],[],2,[]⟩)],[(4,⟨⟨[.str,(.int .i64),(.int .i64),(.int .i64),(.int .i64),(.list (.tree (.pair (.int .i64) (.pair (.int .i64) .unit))))],[(0,.ptr 100000 0),(3,.ptr 1 0)],[(100000,.box 54 [.v 0,.v 1,.v 2]),(1,.box 66 [.v 3,.v 4,.own 0]),(0,.arr 34 5)]⟩,[6,7,8,9,10,11,12,13,14,15,16,17,18,19,20,21,22,23,24,25,26,27,28,29],[],[],2,[]⟩)],[(2000001,[(0,0),(5,1),(2,2),(1,3),(2,4),(0,5)]),(4000004,[])],[(4,(.pnd (.one 0 (.one 1 (.one 2 (.one 3 (.one 5 (.rd 1 4 [8,9,10,11] (.alt 5 6 (.alt 1 7 (.alt 2 8 (.one 9 (.one 10 (.alt 2 11 .leaf .stop))) .stop) .stop) .stop)))))))))]⟩ Try.func15 rfl Try.ntmps15 (rs:=[.tmp 2]) rfl (sig:=zar) (out:=zaq) rfl (fun rec hrec=>(GPOK.cons (zhL rec hrec) (GPOK.nil))) Try.call15 (d:=zbN) (fun rc X=>by kernel_rfl)
def zfM:Shape:=⟨[.str],[(0,.v 0)],[]⟩
def zfL:Shape:=⟨[(.tree (.pair (.int .i64) (.pair (.int .i64) .unit))),(.pair (.int .i64) (.pair (.int .i64) .unit))],[(0,.v 0),(1,.v 1)],[]⟩
def zgw:CE:=⟨8,zfM,zfL,fun X=>zcx X⟩
theorem ziK (p:Int×Int):evC TT [] [] 0 bothS ⟨[],[],[],[(7,.one 0 (.alt 0 1 (.leaf [(2,2),(2,3)]) (.alt 2 2 (.leaf [(0,1),(2,3)]) .stop)))]⟩ (zqv (Try.f14.body.getD .skip)) (zrH 13 10 34 28 p) (zuf true 34 28)=bothS (some (p.1,p.2)) (some (p.1,p.2)):=by kernel_rfl
theorem ziJ (va vb:Value) (w:World):CallsD Try.prog 14 #[va,vb] .returning w (fun e u w'=>(∃ v,e = .returned v)/\u = .returning/\w'=w):=by
  refine callsD_of_wpS Try.func14 rfl fun c₀ cs hu => ?_
  apply wpS_seq
  apply wpS_region
  simp [wpOpsS,go_sem,recoverD,hu,Try.ntmps14,Exit.thenS]
  refine wpS_of_wp (wp_block (wp_seq (wp_region ?_)))
  simp [wpOps,go_sem]
  left
  refine wp_cond (t:=true) (by simp [Act.eval,Array.replicate]) ?_
  simp only [if_true]
  refine wp_region ?_
  simp [wpOps,go_sem]
  left
  cases c₀
  simp_all [bodyPostS,results,Try.results14]
theorem zhJ (p:Int×Int) (w:World) (ba bb:Nat) (ca cb:Array Value) (hne:ba≠bb) (h1:w.heap[ba]? =some (.cells ca 34 (0,0))) (h2:ca.size=1) (h3:w.heap[bb]? =some (.cells cb 28 (0,0))) (h4:cb.size=2):
    CallsD Try.prog 14 #[.pointer (some ⟨ba,0,none⟩),.pointer (some ⟨bb,0,none⟩)] (.panicking (pch 51 p)) w (fun e u w'=>(∃ v,e = .returned v)/\settle u = .returning/\
      (w'.os=w.os/\w'.tape=w.tape/\w'.output=w.output/\w.heap.size<=w'.heap.size)/\(∀ b,b < w.heap.size->b≠ba->b≠bb->w'.heap[b]? =w.heap[b]?)/\
      w'.heap[ba]? =some (.cells #[zV true] 34 (0,0))/\w'.heap[bb]? =some (.cells #[.int .i64 p.1,.int .i64 p.2] 28 (0,0))):=by
  refine callsD_of_wpS Try.func14 rfl fun c₀ cs hu => ?_
  apply wpS_seq
  apply wpS_region
  simp [wpOpsS,go_sem,recoverD,hu,Try.ntmps14,Exit.thenS,pch]
  refine wpS_of_wp (wp_block (wp_seq (wp_region ?_)))
  simp [wpOps,go_sem]
  left
  refine wp_cond (t:=false) (by simp [Act.eval,Array.replicate]) ?_
  simp only [Bool.false_eq_true,if_false]
  refine wp_seq (wp_region ?_)
  simp [wpOps,go_sem,zqd Try.underlying51]
  left
  left
  left
  refine wp_cond (t:=true) (by simp [Act.eval,Array.replicate]) ?_
  simp only [if_true]
  refine wp_mono (ztv (by kernel_rfl) zdH (ziK p) hne h1 h2 h3 h4 ?_ ?_ ?_ ?_ ?_) fun e a' w' hh => ?_
  · simp
  · rfl
  · simp [Array.replicate]
  · simp [Array.replicate]
  · simp [Array.replicate]
  · obtain ⟨rfl,hd,ho,hk,y1,y2⟩:=hh
    exact ⟨hd,_,rfl,.tuple #[],by simp [results,Try.results14],⟨_,rfl⟩,rfl,ho,hk,y1,y2⟩
theorem zik:CatchOK Try.prog 51 14 34 28 (zV true):=⟨Try.call14,ziJ,zhJ⟩
theorem zjQ:CE.ok Try.prog zgw:=CE.ofCatch (Γ:=[]) (Γp:=[zd3,zcy]) (T:=51) (by kernel_rfl) zdH (GOK.nil) (GPOK.cons zgX (GPOK.cons zea (GPOK.nil))) ⟨[],[],[(3000003,[]),(2000005,[(0,0),(5,1),(2,2)]),(2000007,[(0,0),(5,1)])],[]⟩ Try.func8 rfl Try.ntmps8 (rs:=[.cell 2 34,.cell 3 28]) rfl (sig:=zfM) (out:=zfL) rfl Try.call8 (g:=14) (sa:=2) (sb:=3) (Ta:=34) (Tb:=28) (z:=zE true) zik (zum true) (fun X=>by kernel_rfl)

def zki:Shape:=⟨[(.int .i64),(.list (.int .i64))],[(0,.v 0),(1,.v 1)],[]⟩
def zkh:Shape:=⟨[(.int .i64)],[(0,.v 0)],[]⟩
def zlG:CE:=⟨9,zki,zkh,fun X=>zkK X.1 X.2⟩
theorem zo4:CE.ok Try.prog zlG:=CE.of (Γ:=[]) (by kernel_rfl) zdH (GOK.nil) ⟨[(6,⟨⟨[(.int .i64)],[(18,.v 0)],[]⟩,[4,6,19,20,21,22,23,24,25,26,27,28,29],[],[],0,[]⟩)],[],[],[]⟩ Try.func9 rfl Try.ntmps9 (rs:=[.tmp 4]) rfl (sig:=zki) (out:=zkh) rfl Try.call9 (fun X=>by kernel_rfl)

def zd9:Shape:=⟨[(.list (.int .i64)),(.list (.int .i64)),(.list (.int .i64)),(.list (.list (.int .i64)))],[(0,.ptr 100000 0),(1,.v 0),(2,.v 1)],[(100000,.box 43 [.own 100001,.own 100002]),(100001,.arr 3 2),(100002,.out 100003 22 3 3)]⟩
def zd8:Shape:=⟨[(.list (.int .i64)),(.list (.list (.int .i64)))],[],[(100000,.box 43 [.own 50,.own 60]),(50,.arr 3 0),(60,.out 560 22 3 1)]⟩
def zcV:CE:=⟨25,zd9,zd8,fun X=>zcD X.1 X.2.1 X.2.2.1 X.2.2.2⟩
theorem zeE:CE.ok Try.prog zcV:=CE.of (Γ:=[]) (by kernel_rfl) zdH (GOK.nil) ⟨[(1,⟨⟨[(.int .i64),(.list (.int .i64)),(.list (.list (.int .i64)))],[(0,.ptr 100000 0),(10,.v 0)],[(100000,.box 43 [.own 100001,.own 100002]),(100001,.arr 3 1),(100002,.out 0 22 3 2)]⟩,[7,11,12,13,14,15,16,17,18,19,20,21,22,23,24,25,26,27,28,29],[100003],[],1,[]⟩)],[(3,⟨⟨[(.list (.int .i64)),(.list (.list (.int .i64)))],[(0,.ptr 100000 0)],[(100000,.box 43 [.own 100001,.own 100002]),(100001,.arr 3 0),(100002,.out 1 22 3 1)]⟩,[7,12,13,14,15,16,17,18,19,20,21,22,23,24,25,26,27,28],[0,100003],[],2,[]⟩)],[],[(3,(.one 0 (.one 1 (.one 2 (.one 4 (.one 5 (.one 6 (.one 7 (.one 9 (.one 12 (.live [13,15] (.rd 8 [10,11,13,14,15] (.one 10 (.rd 11 [13,14,15] (.ban 3 [14,15] (.alt 4 13 (.leaf [(0,14),(4,15)]) .stop) (.alt 4 13 (.leaf [(0,3),(0,14),(4,15)]) .stop))))))))))))))))]⟩ Try.func25 rfl Try.ntmps25 (rs:=[]) rfl (sig:=zd9) (out:=zd8) rfl Try.call25 (fun X=>by kernel_rfl)

def zhg:Shape:=⟨[(.list (.int .i64))],[(0,.v 0)],[]⟩
def zhf:Shape:=⟨[(.list (.int .i64))],[(0,.own 0)],[(0,.arr 3 0)]⟩
def zhO:CE:=⟨29,zhg,zhf,fun X=>za4 X⟩
theorem zlB:CE.ok Try.prog zhO:=CE.of (Γ:=[]) (by kernel_rfl) zdH (GOK.nil) ⟨[],[],[],[]⟩ Try.func29 rfl Try.ntmps29 (rs:=[.tmp 2]) rfl (sig:=zhg) (out:=zhf) rfl Try.call29 (fun X=>by kernel_rfl)

def zdd:Shape:=⟨[Tc1,Tc1,(.list (.int .i64)),(.list (.list (.int .i64)))],[(0,.ptr 100000 0),(1,.v 0),(2,.v 1)],[(100000,.box 43 [.own 100001,.own 100002]),(100001,.arr 3 2),(100002,.out 100003 22 3 3)]⟩
def zdc:Shape:=⟨[Tc1,(.list (.int .i64)),(.list (.list (.int .i64)))],[(0,.v 0)],[(100000,.box 43 [.own 50,.own 60]),(50,.arr 3 1),(60,.out 560 22 3 2)]⟩
def zdB:CE:=⟨24,zdd,zdc,fun X=>zbC X.1 X.2.1 X.2.2.1 X.2.2.2⟩
theorem zgx:CE.ok Try.prog zdB:=CE.of (Γ:=[zcV,zhO]) (by kernel_rfl) zdH (GOK.cons zeE (GOK.cons zlB (GOK.nil))) ⟨[],[(2,⟨⟨[.bool,(.list (.int .i64)),(.list (.int .i64))],[(7,.ptr 564 0)],[(564,.box 57 [.v 0,.own 565,.own 566]),(565,.arr 3 1),(566,.arr 3 2)]⟩,[14,15,16,17,18,19,20,21,22,23,24,25,26],[],[0,1,2,53,63,563],567,[]⟩),(4,⟨⟨[.bool,(.list (.int .i64)),(.list (.int .i64))],[(7,.ptr 564 0)],[(564,.box 57 [.v 0,.own 567,.own 566]),(567,.arr 3 1),(566,.arr 3 2)]⟩,[27,28,29,30,31,32,33,34],[565],[0,1,2,53,63,563],568,[]⟩)],[(1,[(0,0),(0,1),(0,2),(0,3),(0,4),(9,5)])],[(2,(.one 0 (.one 6 (.one 9 (.live [14] (.rd 1 [2,3,4,5,8,11,12,14] (.one 2 (.one 3 (.rd 4 [5,12,14] (.one 5 (.rd 7 [8,11,12,14] (.rd 10 [11,12,14] (.alt 1 8 (.alt 1 11 (.alt 1 12 (.alt 1 13 (.alt 2 14 (.leaf []) .stop) .stop) (.alt 1 13 (.alt 1 12 (.alt 2 14 (.leaf []) .stop) .stop) .stop)) (.alt 1 13 (.alt 1 11 (.alt 1 12 (.alt 2 14 (.leaf []) .stop) .stop) .stop) .stop)) (.alt 1 13 (.alt 1 8 (.alt 1 11 (.alt 1 12 (.alt 2 14 (.leaf []) .stop) .stop) .stop) .stop) .stop))))))))))))))]⟩ Try.func24 rfl Try.ntmps24 (rs:=[.cell 6 57]) rfl (sig:=zdd) (out:=zdc) rfl Try.call24 (fun X=>by kernel_rfl)

def zdU:Shape:=⟨[(.tree (.pair (.int .i64) (.pair (.int .i64) .unit))),(.list (.int .i64)),(.list (.list (.int .i64)))],[(0,.ptr 100000 0),(1,.v 0)],[(100000,.box 43 [.own 100001,.own 100002]),(100001,.arr 3 1),(100002,.out 100003 22 3 2)]⟩
def zdT:Shape:=⟨[Tc1,(.list (.int .i64)),(.list (.list (.int .i64)))],[(0,.v 0)],[(100000,.box 43 [.own 50,.own 60]),(50,.arr 3 1),(60,.out 560 22 3 2)]⟩
def zd7:CE:=⟨17,zdU,zdT,LFix zbW⟩
theorem zhk:CE.ok Try.prog zd7:=CE.ofRec (Γ:=[zdB,zcV]) (by kernel_rfl) zdH (GOK.cons zgx (GOK.cons zeE (GOK.nil))) ⟨[(14,⟨⟨[(.int .i64),.bool,(.list (.int .i64)),(.list (.list (.int .i64))),(.list (.int .i64)),(.list (.int .i64))],[(0,.ptr 100000 0),(6,.ptr 1 0),(65,.v 0)],[(100000,.box 43 [.own 2,.own 3]),(1,.box 57 [.v 1,.own 4,.own 5]),(2,.arr 3 2),(3,.out 6 22 3 3),(4,.arr 3 4),(5,.arr 3 5)]⟩,[8,9,66,67,68,69,70,71,72,73,74,75,76,77,78,79,80,81,82,83,84,85,86,87,88,89,90,91],[100001,100002,100003],[0],7,[(1,1,some 3,(.int .i64)),(1,2,some 3,(.int .i64))]⟩),(24,⟨⟨[(.int .i64),.bool,(.list (.int .i64)),(.list (.int .i64)),(.list (.int .i64)),(.list (.list (.int .i64)))],[(0,.ptr 100000 0),(10,.ptr 562 0),(109,.v 0)],[(100000,.box 43 [.own 51,.own 61]),(562,.box 57 [.v 1,.v 2,.v 3]),(51,.arr 3 4),(61,.out 561 22 3 5)]⟩,[12,110,111,112,113,114,115,116,117,118,119],[],[0],563,[]⟩)],[(17,⟨⟨[.bool,(.list (.int .i64)),(.list (.int .i64))],[(6,.ptr 1 0)],[(1,.box 57 [.v 0,.own 4,.own 5]),(4,.arr 3 1),(5,.arr 3 2)]⟩,[72,73,74,75,76,77,78],[],[0,57,67,568,567],569,[]⟩),(18,⟨⟨[.bool,(.list (.int .i64)),(.list (.list (.int .i64))),(.list (.int .i64)),(.list (.int .i64))],[(0,.ptr 100000 0),(6,.ptr 1 0)],[(100000,.box 43 [.own 7,.own 8]),(1,.box 57 [.v 0,.own 9,.own 10]),(7,.arr 3 1),(8,.out 11 22 3 2),(9,.arr 3 3),(10,.arr 3 4)]⟩,[8,9,67,68,69,70,71,72,73,74,75,76,77,78,79,80,81,82,83,84,85,86,87,88,89,90],[2,3,4,5,6,100001,100002,100003],[0],12,[]⟩),(26,⟨⟨[.bool,(.list (.int .i64)),(.list (.int .i64)),(.list (.int .i64)),(.list (.list (.int .i64)))],[(0,.ptr 100000 0),(10,.ptr 562 0)],[(100000,.box 43 [.own 563,.own 564]),(562,.box 57 [.v 0,.v 1,.v 2]),(563,.arr 3 3),(564,.out 565 22 3 4)]⟩,[12,111,112,113,114,115,116,117,118],[51,61,561],[0],566,[]⟩)],[(7,[(0,0),(0,1),(0,2),(0,3),(0,4),(0,5),(0,6),(0,7),(0,8),(1,9),(2,10),(0,11),(0,12),(2,13)]),(8,[(0,0),(0,1),(0,2),(0,3),(0,4),(4,5),(4,6),(0,7),(0,8),(2,9)]),(16,[(0,0),(0,1),(9,2),(2,3),(2,4)]),(22,[(0,0),(0,1),(0,2),(0,3),(0,4),(0,5),(0,6),(9,7),(2,8),(2,9)]),(29,[(0,0),(0,1),(0,2),(0,3),(0,4),(0,5),(0,6),(9,7),(2,8),(2,9)]),(30,[(0,0),(0,1),(0,2),(0,3),(0,4),(9,5)])],[(18,(.one 0 (.one 2 (.one 5 (.one 7 (.live [4,9,11,13] (.rd 1 [4,9,10,11,12,13] (.rd 3 [4,9,10,11,12,13] (.ban 6 [9,10,11,12,13] (.ban 8 [9,11,12,13] (.alt 2 4 (.leaf [(0,10),(2,9),(2,11),(0,12),(2,13)]) .stop) (.alt 2 4 (.leaf [(0,10),(0,8),(2,9),(2,11),(0,12),(2,13)]) .stop)) (.ban 8 [9,11,12,13] (.alt 2 4 (.leaf [(0,6),(0,10),(2,9),(2,11),(0,12),(2,13)]) .stop) (.alt 2 4 (.leaf [(0,6),(0,10),(0,8),(2,9),(2,11),(0,12),(2,13)]) .stop))))))))))),(26,(.one 0 (.one 2 (.one 3 (.live [4,5,6] (.ban 1 [5,6] (.alt 9 4 (.leaf [(9,5),(2,6)]) .stop) (.alt 9 4 (.leaf [(0,1),(9,5),(2,6)]) .stop)))))))]⟩ Try.func17 rfl Try.ntmps17 (rs:=[.cell 4 57]) rfl (sig:=zdU) (out:=zdT) rfl Try.call17 (d:=zbW) (fun rc X=>by kernel_rfl)

def zfg:Shape:=⟨[(.tree (.pair (.int .i64) (.pair (.int .i64) .unit)))],[(0,.v 0)],[]⟩
def zff:Shape:=⟨[(.pair (.list (.int .i64)) (.pair (.list (.list (.int .i64))) .unit)),(.list .bool)],[(0,.addr 0),(1,.own 1)],[(1,.arr 4 1)]⟩
def zfK:CE:=⟨10,zfg,zff,fun X=>zdS X⟩
theorem zjs:CE.ok Try.prog zfK:=CE.of (Γ:=[zd7]) (by kernel_rfl) zdH (GOK.cons zhk (GOK.nil)) ⟨[(6,⟨⟨[(.int .i64),(.list .bool)],[(7,.own 566),(26,.v 0)],[(566,.arr 4 1)]⟩,[9,22,27,28,29,30,31,32,33],[],[0,54,64,565,564],567,[]⟩)],[],[(2,[(0,0),(0,1),(10,2),(2,3),(2,4)]),(11,[(0,0),(0,1),(0,2),(0,3),(0,4),(0,5),(0,6),(1,7),(11,8),(0,9),(0,10),(2,11)])],[]⟩ Try.func10 rfl Try.ntmps10 (rs:=[.tmp 2,.tmp 3]) rfl (sig:=zfg) (out:=zff) rfl Try.call10 (fun X=>by kernel_rfl)

def zhH:Shape:=⟨[.str,(.list (.int .i64))],[(0,.v 0),(1,.v 1)],[]⟩
def zhG:Shape:=⟨[.bool,(.int .i64)],[(0,.v 0),(1,.v 1)],[]⟩
def ziw:CE:=⟨4,zhH,zhG,fun X=>zcT X.1 X.2⟩
theorem zlU:CE.ok Try.prog ziw:=CE.of (Γ:=[zgw,zlG,zfK]) (by kernel_rfl) zdH (GOK.cons zjQ (GOK.cons zo4 (GOK.cons zjs (GOK.nil)))) ⟨[(11,⟨⟨[(.int .i64),(.list .bool)],[(11,.own 3),(49,.v 0)],[(3,.arr 4 1)]⟩,[13,14,15,16,18,41,42,46,50,51,52,53,54,55,56,57,58,59,60,61,62,63,64,65,66,67,68,69,70,71,72,73,74,75,76,77,78,79,80,81,82,83,84,85,86,87,88,89,90,91,92],[],[0,2],4,[]⟩),(15,⟨⟨[(.int .i64),(.list .bool)],[(14,.own 4),(58,.v 0)],[(4,.arr 4 1)]⟩,[15,16,18,55,59,60,61,62,63,64,65,66,67,68,69,70,71,72,73,74,75,76,77,78,79,80,81,82,83,84,85,86,87,88,89,90],[],[0,2,3],5,[]⟩),(19,⟨⟨[(.int .i64),(.list .bool)],[(14,.own 4),(73,.v 0)],[(4,.arr 4 1)]⟩,[18,74,75,76,77,78,79,80,81,82,83,84,85,86,87,88,89],[],[0,2,3],5,[]⟩),(28,⟨⟨[(.int .i64)],[(95,.v 0)],[]⟩,[4,5,19,20,96,97,98,99,100,101,102,103,104,105,106,107],[],[0,2,3],4,[]⟩)],[],[],[]⟩ Try.func4 rfl Try.ntmps4 (rs:=[.tmp 4,.tmp 5]) rfl (sig:=zhH) (out:=zhG) rfl Try.call4 (fun X=>by kernel_rfl)

def zg4:Shape:=⟨[(.pair .str (.pair (.int .i64) (.pair (.int .i64) (.pair (.list (.pair (.int .i64) (.pair (.int .i64) Tc3))) (.pair (.pair (.int .i64) (.pair (.int .i64) .unit)) .unit)))))],[(0,.addr 0)],[]⟩
def zg3:Shape:=⟨[.bool],[(0,.v 0)],[]⟩
def zcN:CE:=⟨20,zg4,zg3,fun X=>zcM X⟩
theorem zdL:CE.ok Try.prog zcN:=CE.of (Γ:=[]) (by kernel_rfl) zdH (GOK.nil) ⟨[],[],[],[]⟩ Try.func20 rfl Try.ntmps20 (rs:=[.tmp 2]) rfl (sig:=zg4) (out:=zg3) rfl Try.call20 (fun X=>by kernel_rfl)

def zgj:Shape:=⟨[(.pair .str (.pair (.int .i64) (.pair (.int .i64) (.pair (.list (.pair (.int .i64) (.pair (.int .i64) Tc3))) (.pair (.pair (.int .i64) (.pair (.int .i64) .unit)) .unit)))))],[(0,.addr 0)],[]⟩
def zgi:Shape:=⟨[(.int .u8)],[(0,.v 0)],[]⟩
def zcs:CE:=⟨19,zgj,zgi,fun X=>zbS X⟩
theorem zdn:CE.ok Try.prog zcs:=CE.of (Γ:=[]) (by kernel_rfl) zdH (GOK.nil) ⟨[],[],[(1,[(0,0),(0,1),(0,2),(0,3),(0,4),(0,5),(0,6),(0,7),(0,8),(0,9)]),(3,[(0,0),(0,1),(0,2),(0,3),(0,4),(0,5),(0,6),(0,7),(0,8),(0,9)])],[]⟩ Try.func19 rfl Try.ntmps19 (rs:=[.tmp 2]) rfl (sig:=zgj) (out:=zgi) rfl Try.call19 (fun X=>by kernel_rfl)

def zgo:Shape:=⟨[(.pair (.int .i64) (.pair (.int .i64) Tc3)),.str,(.int .i64),(.int .i64),(.int .i64),(.int .i64),(.list (.pair (.int .i64) (.pair (.int .i64) Tc3)))],[(0,.ptr 100000 0),(1,.v 0)],[(100000,.box 46 [.v 1,.v 2,.v 3,.own 100001,.v 4,.v 5]),(100001,.arr 63 6)]⟩
def zgn:Shape:=⟨[(.int .i64),.str,(.int .i64),(.int .i64),(.list (.pair (.int .i64) (.pair (.int .i64) Tc3))),(.int .i64),(.int .i64)],[(0,.v 0)],[(100000,.box 46 [.v 1,.v 2,.v 3,.own 80,.v 5,.v 6]),(80,.arr 63 4)]⟩
def zcv:CE:=⟨21,zgo,zgn,fun X=>zbJ X.1 X.2.1 X.2.2.1 X.2.2.2.1 X.2.2.2.2.1 X.2.2.2.2.2.1 X.2.2.2.2.2.2⟩
theorem zdo:CE.ok Try.prog zcv:=CE.of (Γ:=[]) (by kernel_rfl) zdH (GOK.nil) ⟨[],[],[(1,[(0,0),(0,1),(0,2),(0,3),(0,4),(0,5),(1,6),(2,7),(0,8),(0,9),(2,10)])],[]⟩ Try.func21 rfl Try.ntmps21 (rs:=[.tmp 4]) rfl (sig:=zgo) (out:=zgn) rfl Try.call21 (fun X=>by kernel_rfl)

def zfB:Shape:=⟨[(.int .i64),.str,(.int .i64),(.int .i64),(.int .i64),(.int .i64),(.list (.pair (.int .i64) (.pair (.int .i64) Tc3)))],[(0,.ptr 100000 0),(1,.v 0)],[(100000,.box 46 [.v 1,.v 2,.v 3,.own 100001,.v 4,.v 5]),(100001,.arr 63 6)]⟩
def zfA:Shape:=⟨[.str,(.int .i64),(.int .i64),(.list (.pair (.int .i64) (.pair (.int .i64) Tc3))),(.int .i64),(.int .i64)],[],[(100000,.box 46 [.v 0,.v 1,.v 2,.own 80,.v 4,.v 5]),(80,.arr 63 3)]⟩
def zep:CE:=⟨12,zfB,zfA,fun X=>zb3 X.1 X.2.1 X.2.2.1 X.2.2.2.1 X.2.2.2.2.1 X.2.2.2.2.2.1 X.2.2.2.2.2.2⟩
theorem zgh:CE.ok Try.prog zep:=CE.of (Γ:=[]) (by kernel_rfl) zdH (GOK.nil) ⟨[],[],[],[]⟩ Try.func12 rfl Try.ntmps12 (rs:=[]) rfl (sig:=zfB) (out:=zfA) rfl Try.call12 (fun X=>by kernel_rfl)

def zaA:Shape:=⟨[.str,(.int .i64),(.int .i64),(.int .i64),(.int .i64),(.list (.pair (.int .i64) (.pair (.int .i64) Tc3)))],[(0,.ptr 100000 0)],[(100000,.box 46 [.v 0,.v 1,.v 2,.own 100001,.v 3,.v 4]),(100001,.arr 63 5)]⟩
def zaz:Shape:=⟨[(.int .i64),.str,(.int .i64),(.int .i64),(.list (.pair (.int .i64) (.pair (.int .i64) Tc3))),(.int .i64),(.int .i64)],[(0,.v 0)],[(100000,.box 46 [.v 1,.v 2,.v 3,.own 80,.v 5,.v 6]),(80,.arr 63 4)]⟩
def zfG:CE:=⟨11,zaA,zaz,LFix zcY⟩
def zfE:Shape:=⟨[.str,(.int .i64),(.int .i64),(.int .i64),(.int .i64),(.list (.pair (.int .i64) (.pair (.int .i64) Tc3)))],[(0,.ptr 100000 0)],[(100000,.box 46 [.v 0,.v 1,.v 2,.own 100001,.v 3,.v 4]),(100001,.arr 63 5)]⟩
def zfD:Shape:=⟨[(.int .i64),.str,(.int .i64),(.int .i64),(.list (.pair (.int .i64) (.pair (.int .i64) Tc3))),(.int .i64),(.int .i64)],[(0,.v 0)],[(100000,.box 46 [.v 1,.v 2,.v 3,.own 80,.v 5,.v 6]),(80,.arr 63 4)]⟩
def zgm (rec:Tup zaA.tys->Option (Tup zaz.tys)):CE:=⟨30,zfE,zfD,fun X=>zb4 (fun c c_1 c_2 c_3 c_4 l=>rec (c,c_1,c_2,c_3,c_4,l)) X.1 X.2.1 X.2.2.1 X.2.2.2.1 X.2.2.2.2.1 X.2.2.2.2.2⟩
theorem zjP (rec:Tup zaA.tys->Option (Tup zaz.tys)) (hrec:CE.ok Try.prog ⟨11,zaA,zaz,rec⟩):CE.ok Try.prog (zgm rec):=CE.of (Γ:=[zcv,zep,⟨11,zaA,zaz,rec⟩,zcN,zcs]) (by kernel_rfl) zdH (GOK.cons zdo (GOK.cons zgh (GOK.cons hrec (GOK.cons zdL (GOK.cons zdn (GOK.nil)))))) ⟨[],[(11,⟨⟨[.bool],[(41,.v 0)],[]⟩,[36,37,38,39,40],[],[],0,[]⟩),(25,⟨⟨[.str,(.int .i64),(.int .i64),(.int .i64),(.int .i64),(.list (.pair (.int .i64) (.pair (.int .i64) Tc3)))],[(0,.ptr 100000 0)],[(100000,.box 46 [.v 0,.v 1,.v 2,.own 81,.v 3,.v 4]),(81,.arr 63 5)]⟩,[84,85,86,87],[80],[],82,[]⟩)],[],[]⟩ Try.func30 rfl Try.ntmps30 (rs:=[.tmp 2]) rfl (sig:=zfE) (out:=zfD) rfl Try.call30 (fun X=>by kernel_rfl)
def zgl:Shape:=⟨[.str,(.int .i64),(.int .i64),(.int .i64),(.int .i64),(.list (.pair (.int .i64) (.pair (.int .i64) Tc3)))],[(0,.ptr 100000 0)],[(100000,.box 46 [.v 0,.v 1,.v 2,.own 100001,.v 3,.v 4]),(100001,.arr 63 5)]⟩
def zgk:Shape:=⟨[(.int .i64),.str,(.int .i64),(.int .i64),(.list (.pair (.int .i64) (.pair (.int .i64) Tc3))),(.int .i64),(.int .i64)],[(0,.v 0)],[(100000,.box 46 [.v 1,.v 2,.v 3,.own 80,.v 5,.v 6]),(80,.arr 63 4)]⟩
def zg5 (rec:Tup zaA.tys->Option (Tup zaz.tys)):CE:=⟨26,zgl,zgk,fun X=>zbT (fun c c_1 c_2 c_3 c_4 l=>rec (c,c_1,c_2,c_3,c_4,l)) X.1 X.2.1 X.2.2.1 X.2.2.2.1 X.2.2.2.2.1 X.2.2.2.2.2⟩
theorem zkr (rec:Tup zaA.tys->Option (Tup zaz.tys)) (hrec:CE.ok Try.prog ⟨11,zaA,zaz,rec⟩):CE.ok Try.prog (zg5 rec):=CE.of (Γ:=[zgm rec,zcv,zcs,zcN]) (by kernel_rfl) zdH (GOK.cons (zjP rec hrec) (GOK.cons zdo (GOK.cons zdn (GOK.cons zdL (GOK.nil))))) ⟨[(2,⟨⟨[(.int .i64),.str,(.int .i64),(.int .i64),(.int .i64),(.int .i64),(.list (.pair (.int .i64) (.pair (.int .i64) Tc3)))],[(0,.ptr 100000 0),(3,.v 0)],[(100000,.box 46 [.v 1,.v 2,.v 3,.own 80,.v 4,.v 5]),(80,.arr 63 6)]⟩,[4,5,8,9,10,11,12,13,14,15,16,17,18,19,20,21,22,23,24,25,26,27,28,29],[],[],81,[]⟩)],[],[],[]⟩ Try.func26 rfl Try.ntmps26 (rs:=[.tmp 2]) rfl (sig:=zgl) (out:=zgk) rfl Try.call26 (fun X=>by kernel_rfl)
def zgq:Shape:=⟨[.str,(.int .i64),(.int .i64),(.int .i64),(.int .i64),(.list (.pair (.int .i64) (.pair (.int .i64) Tc3)))],[(0,.ptr 100000 0)],[(100000,.box 46 [.v 0,.v 1,.v 2,.own 100001,.v 3,.v 4]),(100001,.arr 63 5)]⟩
def zgp:Shape:=⟨[(.int .i64),.str,(.int .i64),(.int .i64),(.list (.pair (.int .i64) (.pair (.int .i64) Tc3))),(.int .i64),(.int .i64)],[(0,.v 0)],[(100000,.box 46 [.v 1,.v 2,.v 3,.own 80,.v 5,.v 6]),(80,.arr 63 4)]⟩
def zg6 (rec:Tup zaA.tys->Option (Tup zaz.tys)):CE:=⟨18,zgq,zgp,fun X=>zbV (fun c c_1 c_2 c_3 c_4 l=>rec (c,c_1,c_2,c_3,c_4,l)) X.1 X.2.1 X.2.2.1 X.2.2.2.1 X.2.2.2.2.1 X.2.2.2.2.2⟩
theorem zks (rec:Tup zaA.tys->Option (Tup zaz.tys)) (hrec:CE.ok Try.prog ⟨11,zaA,zaz,rec⟩):CE.ok Try.prog (zg6 rec):=CE.of (Γ:=[zg5 rec,zcv,zcs,zcN]) (by kernel_rfl) zdH (GOK.cons (zkr rec hrec) (GOK.cons zdo (GOK.cons zdn (GOK.cons zdL (GOK.nil))))) ⟨[(3,⟨⟨[.str,(.int .i64),(.int .i64),(.int .i64),(.int .i64),(.list (.int .i64)),(.list (.pair (.int .i64) (.pair (.int .i64) Tc3)))],[(0,.ptr 100000 0),(4,.own 81)],[(100000,.box 46 [.v 0,.v 1,.v 2,.own 80,.v 3,.v 4]),(81,.arr 3 5),(80,.arr 63 6)]⟩,[3,5,6,7,11,12,13,14,15,16,17,18,19,20,21,22,23,24,25,26,27,28,29,30,31,32,33,34,35,36,37,38,39,40,41,42,43,44,45],[],[],82,[]⟩)],[(5,⟨⟨[.bool],[(7,.v 0)],[]⟩,[16,17,18,19,20,21,22,23,24,25,26,27,28,29,30,31,32,33],[],[80,81],82,[]⟩),(8,⟨⟨[.str,(.int .i64),(.int .i64),(.int .i64),(.int .i64),(.list (.int .i64)),(.list (.pair (.int .i64) (.pair (.int .i64) Tc3)))],[(0,.ptr 100000 0),(4,.own 81)],[(100000,.box 46 [.v 0,.v 1,.v 2,.own 80,.v 3,.v 4]),(81,.arr 3 5),(80,.arr 63 6)]⟩,[3,5,6,7,11,12,13,14,15,16,17,18,19,20,21,22,23,24,25,26,27,28,29,30,31,32,33,34,35,36,37,38,39,40,41,42,43,44,45],[],[],82,[]⟩)],[],[]⟩ Try.func18 rfl Try.ntmps18 (rs:=[.tmp 2]) rfl (sig:=zgq) (out:=zgp) rfl Try.call18 (fun X=>by kernel_rfl)
theorem zji:CE.ok Try.prog zfG:=CE.ofRecM (Γ:=fun rec=>[zg6 rec,zcv,zcs,zcN]) (by kernel_rfl) zdH ⟨[(3,⟨⟨[.str,(.int .i64),(.int .i64),(.int .i64),(.int .i64),(.list (.int .i64)),(.list (.pair (.int .i64) (.pair (.int .i64) Tc3)))],[(0,.ptr 100000 0),(4,.own 81)],[(100000,.box 46 [.v 0,.v 1,.v 2,.own 80,.v 3,.v 4]),(81,.arr 3 5),(80,.arr 63 6)]⟩,[3,5,6,10,11,12,13,14,15,16,17,18,19,20,21,22,23,24,25,26,27,28,29,30,31,32,33],[],[],82,[]⟩)],[(8,⟨⟨[.str,(.int .i64),(.int .i64),(.int .i64),(.int .i64),(.list (.int .i64)),(.list (.pair (.int .i64) (.pair (.int .i64) Tc3)))],[(0,.ptr 100000 0),(4,.own 81)],[(100000,.box 46 [.v 0,.v 1,.v 2,.own 80,.v 3,.v 4]),(81,.arr 3 5),(80,.arr 63 6)]⟩,[3,5,6,10,11,12,13,14,15,16,17,18,19,20,21,22,23,24,25,26,27,28,29,30,31,32,33],[],[],82,[]⟩)],[],[]⟩ Try.func11 rfl Try.ntmps11 (rs:=[.tmp 2]) rfl (sig:=zaA) (out:=zaz) rfl (fun rec hrec=>(GOK.cons (zks rec hrec) (GOK.cons zdo (GOK.cons zdn (GOK.cons zdL (GOK.nil)))))) Try.call11 (d:=zcY) (fun rc X=>by kernel_rfl)
def zkc:Shape:=⟨[.str],[(0,.v 0)],[]⟩
def zkb:Shape:=⟨[(.pair (.int .i64) (.pair (.int .i64) .unit)),(.list (.pair (.int .i64) (.pair (.int .i64) Tc3)))],[(0,.own 0),(1,.v 0)],[(0,.arr 63 1)]⟩
def zlv:CE:=⟨5,zkc,zkb,fun X=>zjf X⟩
theorem zoP:CE.ok Try.prog zlv:=CE.of (Γ:=[zfG,zep]) (by kernel_rfl) zdH (GOK.cons zji (GOK.cons zgh (GOK.nil))) ⟨[],[],[(8,[(0,0),(0,1),(0,2),(0,3),(0,4),(2,5)])],[]⟩ Try.func5 rfl Try.ntmps5 (rs:=[.tmp 2,.cell 3 28]) rfl (sig:=zkc) (out:=zkb) rfl Try.call5 (fun X=>by kernel_rfl)

def zmf:Shape:=⟨[(.int .i64),(.list (.int .i64))],[(0,.v 0),(1,.v 1)],[]⟩
def zme:Shape:=⟨[(.int .i64)],[(0,.v 0)],[]⟩
def znU:CE:=⟨6,zmf,zme,fun X=>zpw X.1 X.2⟩
theorem zrx:CE.ok Try.prog znU:=CE.of (Γ:=[]) (by kernel_rfl) zdH (GOK.nil) ⟨[(6,⟨⟨[(.int .i64)],[(5,.v 0)],[]⟩,[4,15,16,17,18,19,20,21,22,23,24,25,26,27,28,29,30,31,32,33],[],[],0,[]⟩)],[],[],[]⟩ Try.func6 rfl Try.ntmps6 (rs:=[.tmp 4]) rfl (sig:=zmf) (out:=zme) rfl Try.call6 (fun X=>by kernel_rfl)

def zly:Shape:=⟨[(.list (.pair (.int .i64) (.pair (.int .i64) Tc3))),(.int .i64),(.list (.int .i64)),(.list .bool)],[(0,.v 0),(1,.v 1),(2,.v 2),(3,.v 3)],[]⟩
def zlx:Shape:=⟨[(.list .bool)],[(0,.own 0)],[(0,.arr 4 0)]⟩
def zmi:CE:=⟨13,zly,zlx,LFix zjj⟩
theorem zqa:CE.ok Try.prog zmi:=CE.ofRec (Γ:=[]) (by kernel_rfl) zdH (GOK.nil) ⟨[(8,⟨⟨[(.int .i64),(.list .bool)],[(10,.own 1),(11,.v 0)],[(1,.arr 4 1)]⟩,[25,35,36,37,38,39,40,41,42,43,44,45,46,47,48,49,50,51,52,53,54,55,56,57],[],[0],2,[]⟩),(13,⟨⟨[(.int .i64),(.list .bool)],[(10,.own 1),(12,.v 0)],[(1,.arr 4 1)]⟩,[13,14,25,60,61,62,63,64,65,66,67,68,69,70,71,72,73,74,75,76,77,78,79,80,81,82,83,84,85,86,87,88,89,90,91,92,93,94],[],[0],2,[]⟩),(17,⟨⟨[(.int .i64),(.list .bool)],[(10,.own 1),(14,.v 0)],[(1,.arr 4 1)]⟩,[76,77,78,79,80,81,82,83,84,85,86,87,88,89,90,91,92,93,94],[],[0,2],3,[]⟩),(23,⟨⟨[(.int .i64),(.list .bool)],[(10,.own 1),(15,.v 0)],[(1,.arr 4 1)]⟩,[25,97,100,101,102,103,104,105,106,107,108,109,110,111,112,113,114,115],[],[0],2,[]⟩),(29,⟨⟨[.bool,(.list .bool)],[(10,.own 1),(16,.v 0)],[(1,.arr 4 1)]⟩,[17,18,25,118,121,122,123,124,125,126,127,128,129,130,131,132,133,134,135,136,137,138,139,140,141,142,143,144,145,146,147,148,149,150,151,152,153,154,155,156,157,158,159,160,161,162],[],[0],2,[]⟩),(33,⟨⟨[.bool,(.int .i64),(.list .bool)],[(10,.own 1),(16,.v 0),(18,.v 1)],[(1,.arr 4 2)]⟩,[128,130,131,132,133,134,135,136,137,138,139,140,141,142,143,144,145,146,147,148,149,150,151,152,153,154,155,156,157,158,159,160,161,162],[],[0,2],3,[]⟩)],[(34,⟨⟨[(.list .bool)],[(10,.own 1)],[(1,.arr 4 0)]⟩,[11,12,13,14,15,16,17,18,25,26,27,28,29,30,31,32,33,34,35,36,37,38,39,40,41,42,43,44,45,46,47,48,49,50,51,52,53,54,55,56,57,58,59,60,61,62,63,64,65,66,67,68,69,70,71,72,73,74,75,76,77,78,79,80,81,82,83,84,85,86,87,88,89,90,91,92,93,94,95,96,97,98,99,100,101,102,103,104,105,106,107,108,109,110,111,112,113,114,115,116,117,118,119,120,121,122,123,124,125,126,127,128,129,130,131,132,133,134,135,136,137,138,139,140,141,142,143,144,145,146,147,148,149,150,151,152,153,154,155,156,157,158,159,160,161,162],[],[0],2,[]⟩),(35,⟨⟨[.bool],[(16,.v 0)],[]⟩,[136,137,138,139,140,141,142,143,144,145,146,147,148,149],[],[0,1,2],3,[]⟩)],[(10,[(0,0),(0,1),(0,2),(0,3),(0,4),(0,5),(0,6),(0,7),(0,8),(0,9),(0,10),(0,11),(0,12),(0,13),(0,14),(0,15),(0,16),(2,17)])],[]⟩ Try.func13 rfl Try.ntmps13 (rs:=[.tmp 8]) rfl (sig:=zly) (out:=zlx) rfl Try.call13 (d:=zjj) (fun rc X=>by kernel_rfl)

def zmh:Shape:=⟨[(.list (.pair (.int .i64) (.pair (.int .i64) Tc3))),(.list (.int .i64))],[(0,.v 0),(1,.v 1)],[]⟩
def zmg:Shape:=⟨[.bool],[(0,.v 0)],[]⟩
def znV:CE:=⟨7,zmh,zmg,fun X=>zpx X.1 X.2⟩
theorem zry:CE.ok Try.prog znV:=CE.of (Γ:=[zmi]) (by kernel_rfl) zdH (GOK.cons zqa (GOK.nil)) ⟨[],[],[],[]⟩ Try.func7 rfl Try.ntmps7 (rs:=[.tmp 4]) rfl (sig:=zmh) (out:=zmg) rfl Try.call7 (fun X=>by kernel_rfl)

def zfy:Shape:=⟨[.str,(.list (.int .i64))],[(0,.v 0),(1,.v 1)],[]⟩
def zfx:Shape:=⟨[.bool],[(0,.v 0)],[]⟩
def zen:CE:=⟨3,zfy,zfx,fun X=>zc8 X.1 X.2⟩
theorem zjL:CE.ok Try.prog zen:=CE.of (Γ:=[ziw,zlv,znU,znV]) (by kernel_rfl) zdH (GOK.cons zlU (GOK.cons zoP (GOK.cons zrx (GOK.cons zry (GOK.nil))))) ⟨[],[],[],[]⟩ Try.func3 rfl Try.ntmps3 (rs:=[.tmp 4]) rfl (sig:=zfy) (out:=zfx) rfl Try.call3 (fun X=>by kernel_rfl)

end
end Go.Proofs.Ytdobgbjlgcnehaa.regularHasW
