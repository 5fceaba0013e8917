/- That the functions of 'GramSome' compute so. -/
import Derived.Test.YtfkonehmieejdaaGramSomeD
import Derived.Test.YtfkonehmieejdaaProg
import Derived.KernelRfl
set_option maxHeartbeats 1000000
set_option maxRecDepth 20000
set_option linter.unusedSimpArgs false
set_option linter.unusedVariables false
set_option linter.unusedSectionVars false
namespace Go.Proofs.Ytfkonehmieejdaa.gramSomeW
open Go Go.Ab
noncomputable section
theorem zqz:SzT Try.prog 3 ((.int .i64)):=SzT.ofTI (dsc:=false) (size:=1) (bytes:=8) (z := .int .i64 0) (TI.of Try.underlying3 rfl (by kernel_rfl)) rfl rfl
theorem zpF:SzT Try.prog 55 (Tc2):=SzT.ofTI (dsc:=true) (size:=3) (bytes:=24) (z := .agg ⟨[.int .i64 0,.int .i64 0,.int .i64 0]⟩) (TI.of Try.underlying55 rfl (by kernel_rfl)) rfl rfl
def te3:TE:=⟨3,.int .i64,false,1,8,.int .i64 0,some (.int .i64)⟩
theorem zsb:TEok Try.prog te3:=⟨TI.of Try.underlying3 rfl (by kernel_rfl),Try.underlying3,fun t h=>by cases h;exact ⟨rfl,rfl,by decide,rfl⟩⟩
def te4:TE:=⟨4,.bool,false,1,1,.bool false,some .bool⟩
theorem zsc:TEok Try.prog te4:=⟨TI.of Try.underlying4 rfl (by kernel_rfl),Try.underlying4,fun t h=>by cases h;exact ⟨rfl,rfl,by decide,rfl⟩⟩
def te22:TE:=⟨22,.slice 39,false,1,24,.slice none 0 0,some Tc3⟩
theorem zrl:TEok Try.prog te22:=⟨TI.of Try.underlying22 rfl (by kernel_rfl),Try.underlying22,fun t h=>by cases h;exact ⟨rfl,rfl,by decide,rfl⟩⟩
def te24:TE:=⟨24,.struct [(0,3),(1,3),(2,22)] none,true,3,40,.agg ⟨[.int .i64 0,.int .i64 0,.slice none 0 0]⟩,some (.pair (.int .i64) (.pair (.int .i64) (.pair Tc3 .unit)))⟩
theorem zrm:TEok Try.prog te24:=⟨TI.of Try.underlying24 rfl (by kernel_rfl),⟨⟨_,Try.underlying24,rfl⟩,fun t h=>by cases h⟩,fun t h=>by cases h;exact ⟨rfl,rfl,by decide,rfl⟩⟩
def te25:TE:=⟨25,.slice 3,false,1,24,.slice none 0 0,some (.list (.int .i64))⟩
theorem zrn:TEok Try.prog te25:=⟨TI.of Try.underlying25 rfl (by kernel_rfl),Try.underlying25,fun t h=>by cases h;exact ⟨rfl,rfl,by decide,rfl⟩⟩
def te26:TE:=⟨26,.int .i64,false,1,8,.int .i64 0,some (.int .i64)⟩
theorem zro:TEok Try.prog te26:=⟨TI.of Try.underlying26 rfl (by kernel_rfl),Try.underlying26,fun t h=>by cases h;exact ⟨rfl,rfl,by decide,rfl⟩⟩
def te30:TE:=⟨30,.slice 25,false,1,24,.slice none 0 0,some (.list (.list (.int .i64)))⟩
theorem zrp:TEok Try.prog te30:=⟨TI.of Try.underlying30 rfl (by kernel_rfl),Try.underlying30,fun t h=>by cases h;exact ⟨rfl,rfl,by decide,rfl⟩⟩
def te32:TE:=⟨32,.struct [(0,3),(1,3),(2,30),(3,25)] none,true,4,64,.agg ⟨[.int .i64 0,.int .i64 0,.slice none 0 0,.slice none 0 0]⟩,some (.pair (.int .i64) (.pair (.int .i64) (.pair (.list (.list (.int .i64))) Tc6)))⟩
theorem zrq:TEok Try.prog te32:=⟨TI.of Try.underlying32 rfl (by kernel_rfl),⟨⟨_,Try.underlying32,rfl⟩,fun t h=>by cases h⟩,fun t h=>by cases h;exact ⟨rfl,rfl,by decide,rfl⟩⟩
def te39:TE:=⟨39,.struct [(0,3),(1,25)] none,true,2,32,.agg ⟨[.int .i64 0,.slice none 0 0]⟩,some Tc4⟩
theorem zrr:TEok Try.prog te39:=⟨TI.of Try.underlying39 rfl (by kernel_rfl),⟨⟨_,Try.underlying39,rfl⟩,fun t h=>by cases h⟩,fun t h=>by cases h;exact ⟨rfl,rfl,by decide,rfl⟩⟩
def te41:TE:=⟨41,.slice 46,false,1,24,.slice none 0 0,some (.list (.pair .bool (.pair .bool Tc6)))⟩
theorem zrt:TEok Try.prog te41:=⟨TI.of Try.underlying41 rfl (by kernel_rfl),Try.underlying41,fun t h=>by cases h;exact ⟨rfl,rfl,by decide,rfl⟩⟩
def te43:TE:=⟨43,.struct [(0,24),(3,32),(7,41),(8,4)] none,true,9,136,.agg ⟨[.int .i64 0,.int .i64 0,.slice none 0 0,.int .i64 0,.int .i64 0,.slice none 0 0,.slice none 0 0,.slice none 0 0,.bool false]⟩,some (.pair (.pair (.int .i64) (.pair (.int .i64) (.pair Tc3 .unit))) (.pair (.pair (.int .i64) (.pair (.int .i64) (.pair (.list (.list (.int .i64))) Tc6))) (.pair (.list (.pair .bool (.pair .bool Tc6))) (.pair .bool .unit))))⟩
theorem zru:TEok Try.prog te43:=⟨TI.of Try.underlying43 rfl (by kernel_rfl),⟨⟨_,Try.underlying43,rfl⟩,fun t h=>by cases h⟩,fun t h=>by cases h;exact ⟨rfl,rfl,by decide,rfl⟩⟩
def te46:TE:=⟨46,.struct [(0,4),(1,4),(2,25)] none,true,3,32,.agg ⟨[.bool false,.bool false,.slice none 0 0]⟩,some (.pair .bool (.pair .bool Tc6))⟩
theorem zrv:TEok Try.prog te46:=⟨TI.of Try.underlying46 rfl (by kernel_rfl),⟨⟨_,Try.underlying46,rfl⟩,fun t h=>by cases h⟩,fun t h=>by cases h;exact ⟨rfl,rfl,by decide,rfl⟩⟩
def te50:TE:=⟨50,.other,false,1,8,.pointer none,none⟩
theorem zrw:TEok Try.prog te50:=⟨TI.of Try.underlying50 rfl (by kernel_rfl),trivial,fun t h=>by cases h⟩
def te54:TE:=⟨54,.struct [(0,24),(3,32),(7,51),(8,52)] none,true,9,120,.agg ⟨[.int .i64 0,.int .i64 0,.slice none 0 0,.int .i64 0,.int .i64 0,.slice none 0 0,.slice none 0 0,.map none,.map none]⟩,none⟩
theorem zrz:TEok Try.prog te54:=⟨TI.of Try.underlying54 rfl (by kernel_rfl),⟨⟨_,Try.underlying54,rfl⟩,fun t h=>by cases h⟩,fun t h=>by cases h⟩
def te55:TE:=⟨55,.array 3 3,true,3,24,.agg ⟨[.int .i64 0,.int .i64 0,.int .i64 0]⟩,some Tc2⟩
theorem zrA:TEok Try.prog te55:=⟨TI.of Try.underlying55 rfl (by kernel_rfl),Try.underlying55,fun t h=>by cases h;exact ⟨rfl,rfl,by decide,rfl⟩⟩
def te51:TE:=⟨51,.map 55 25 (Tc2),false,1,8,.map none,none⟩
theorem zrx:TEok Try.prog te51:=⟨TI.of Try.underlying51 rfl (by kernel_rfl),⟨Try.underlying51,SK.ofKey (d:=16) (KeyT.array zpF Try.underlying55 (KeyT.int zqz Try.underlying3) rfl) (by decide) rfl rfl⟩,fun t h=>by cases h⟩
def te52:TE:=⟨52,.map 55 3 (Tc2),false,1,8,.map none,none⟩
theorem zry:TEok Try.prog te52:=⟨TI.of Try.underlying52 rfl (by kernel_rfl),⟨Try.underlying52,SK.ofKey (d:=16) (KeyT.array zpF Try.underlying55 (KeyT.int zqz Try.underlying3) rfl) (by decide) rfl rfl⟩,fun t h=>by cases h⟩
def TT:List TE:=[te3,te4,te22,te24,te25,te26,te30,te32,te39,te41,te43,te46,te50,te54,te55,te51,te52]
theorem zc0:TOK Try.prog TT:=TOK.cons zsb (TOK.cons zsc (TOK.cons zrl (TOK.cons zrm (TOK.cons zrn (TOK.cons zro (TOK.cons zrp (TOK.cons zrq (TOK.cons zrr (TOK.cons zrt (TOK.cons zru (TOK.cons zrv (TOK.cons zrw (TOK.cons zrz (TOK.cons zrA (TOK.cons zrx (TOK.cons zry (TOK.nil)))))))))))))))))

def zfi:Shape:=⟨[(.int .i64),(.pair (.int .i64) (.pair (.int .i64) (.pair Tc3 .unit)))],[(0,.v 0),(1,.addr 1)],[]⟩
def zfh:Shape:=⟨[.bool],[(0,.v 0)],[]⟩
def zfM:CE:=⟨14,zfi,zfh,fun X=>zef X.1 X.2⟩
theorem zjI:CE.ok Try.prog zfM:=CE.of (Γ:=[]) (by kernel_rfl) zc0 (GOK.nil) ⟨[],[],[],[]⟩ Try.func14 rfl Try.ntmps14 (rs:=[.tmp 3]) rfl (sig:=zfi) (out:=zfh) rfl Try.call14 (fun X=>by kernel_rfl)

def zdx:Shape:=⟨[(.list (.int .i64)),(.pair (.int .i64) (.pair (.int .i64) (.pair Tc3 .unit)))],[(0,.v 0),(1,.fn 14 [.addr 1])],[]⟩
def zdw:Shape:=⟨[(.int .i64)],[(0,.v 0)],[]⟩
def zea:CE:=⟨18,zdx,zdw,fun X=>zfu X.1 X.2⟩
theorem zhb:CE.ok Try.prog zea:=CE.of (Γ:=[zfM]) (by kernel_rfl) zc0 (GOK.cons zjI (GOK.nil)) ⟨[(2,⟨⟨[(.int .i64)],[(8,.v 0)],[]⟩,[4,5,9,10,11,12,13,14,15,16,17,18],[],[],0,[]⟩)],[],[],[]⟩ Try.func18 rfl Try.ntmps18 (rs:=[.tmp 4]) rfl (sig:=zdx) (out:=zdw) rfl Try.call18 (fun X=>by kernel_rfl)

def zcE:Shape:=⟨[(.list (.int .i64)),(.pair (.int .i64) (.pair (.int .i64) (.pair Tc3 .unit)))],[(0,.v 0),(1,.fn 14 [.addr 1])],[]⟩
def zcD:Shape:=⟨[.bool],[(0,.v 0)],[]⟩
def zcQ:CE:=⟨13,zcE,zcD,fun X=>zci X.1 X.2⟩
theorem zfC:CE.ok Try.prog zcQ:=CE.of (Γ:=[zea]) (by kernel_rfl) zc0 (GOK.cons zhb (GOK.nil)) ⟨[],[],[],[]⟩ Try.func13 rfl Try.ntmps13 (rs:=[.tmp 4]) rfl (sig:=zcE) (out:=zcD) rfl Try.call13 (fun X=>by kernel_rfl)

def zgJ:Shape:=⟨[(.pair (.int .i64) (.pair (.int .i64) (.pair Tc3 .unit)))],[(0,.v 0)],[]⟩
def zgI:Shape:=⟨[(.int .i64)],[(0,.v 0)],[]⟩
def zhw:CE:=⟨8,zgJ,zgI,fun X=>zgo X⟩
theorem zll:CE.ok Try.prog zhw:=CE.of (Γ:=[zcQ]) (by kernel_rfl) zc0 (GOK.cons zfC (GOK.nil)) ⟨[(6,⟨⟨[(.int .i64)],[(30,.v 0)],[]⟩,[2,4,31,32,33,34,35,36,37,38,39,40,41,42,43,44,45,46,47,48,49,50,51,52],[],[0],1,[]⟩)],[],[],[]⟩ Try.func8 rfl Try.ntmps8 (rs:=[.tmp 2]) rfl (sig:=zgJ) (out:=zgI) rfl Try.call8 (fun X=>by kernel_rfl)

def zfs:Shape:=⟨[(.list (.int .i64))],[(0,.v 0)],[]⟩
def zfr:Shape:=⟨[(.list (.int .i64))],[(0,.own 0)],[(0,.arr 3 0)]⟩
def zd6:CE:=⟨21,zfs,zfr,fun X=>zbb X⟩
theorem zgc:CE.ok Try.prog zd6:=CE.of (Γ:=[]) (by kernel_rfl) zc0 (GOK.nil) ⟨[],[],[],[]⟩ Try.func21 rfl Try.ntmps21 (rs:=[.tmp 2]) rfl (sig:=zfs) (out:=zfr) rfl Try.call21 (fun X=>by kernel_rfl)

def zhi:Shape:=⟨[(.int .i64)],[(0,.v 0)],[]⟩
def zhh:Shape:=⟨[.bool],[(0,.v 0)],[]⟩
def ziC:CE:=⟨26,zhi,zhh,fun X=>zhg X⟩
theorem zlM:CE.ok Try.prog ziC:=CE.of (Γ:=[]) (by kernel_rfl) zc0 (GOK.nil) ⟨[],[],[],[]⟩ Try.func26 rfl Try.ntmps26 (rs:=[.tmp 2]) rfl (sig:=zhi) (out:=zhh) rfl Try.call26 (fun X=>by kernel_rfl)

def zfH:Shape:=⟨[(.int .i64),(.int .i64)],[(0,.v 0),(1,.v 1)],[]⟩
def zfG:Shape:=⟨[(.int .i64)],[(0,.v 0)],[]⟩
def zgG:CE:=⟨24,zfH,zfG,fun X=>ze3 X.1 X.2⟩
theorem zkh:CE.ok Try.prog zgG:=CE.of (Γ:=[ziC]) (by kernel_rfl) zc0 (GOK.cons zlM (GOK.nil)) ⟨[],[],[],[]⟩ Try.func24 rfl Try.ntmps24 (rs:=[.tmp 4]) rfl (sig:=zfH) (out:=zfG) rfl Try.call24 (fun X=>by kernel_rfl)

def zer:Shape:=⟨[(.list (.int .i64)),(.list (.int .i64))],[(0,.v 0),(1,.v 1)],[]⟩
def zeq:Shape:=⟨[(.int .i64)],[(0,.v 0)],[]⟩
def zeW:CE:=⟨22,zer,zeq,fun X=>zey X.1 X.2⟩
theorem zis:CE.ok Try.prog zeW:=CE.of (Γ:=[zgG]) (by kernel_rfl) zc0 (GOK.cons zkh (GOK.nil)) ⟨[(2,⟨⟨[(.int .i64)],[(11,.v 0)],[]⟩,[4,5,6,7,8,12,13,14,15,16,17,18,19,20,21,22,23,24,25,26,27,28,29,30],[],[],0,[]⟩)],[],[],[]⟩ Try.func22 rfl Try.ntmps22 (rs:=[.tmp 4]) rfl (sig:=zer) (out:=zeq) rfl Try.call22 (fun X=>by kernel_rfl)

def zfP:Shape:=⟨[(.list (.int .i64)),(.list (.int .i64))],[(0,.v 0),(1,.v 1)],[]⟩
def zfO:Shape:=⟨[.bool],[(0,.v 0)],[]⟩
def zev:CE:=⟨16,zfP,zfO,fun X=>zdN X.1 X.2⟩
theorem zgK:CE.ok Try.prog zev:=CE.of (Γ:=[zeW]) (by kernel_rfl) zc0 (GOK.cons zis (GOK.nil)) ⟨[],[],[],[]⟩ Try.func16 rfl Try.ntmps16 (rs:=[.tmp 4]) rfl (sig:=zfP) (out:=zfO) rfl Try.call16 (fun X=>by kernel_rfl)

def zcI:Shape:=⟨[(.int .i64),(.list (.int .i64)),.bool,Tc4,(.int .i64),.bool,(.int .i64),(.int .i64),Tc3,(.int .i64),(.int .i64),(.list (.list (.int .i64))),(.list (.int .i64)),Tc1,(.list (.list (.int .i64))),Tc1,(.list (.int .i64))],[(0,.v 0),(1,.v 1),(2,.v 2),(3,.addr 3),(4,.addr 4),(5,.ptr 100000 0),(6,.ptr 100001 0)],[(100000,.box 50 [.ptr 100002 0]),(100001,.box 4 [.v 5]),(100002,.box 54 [.v 6,.v 7,.v 8,.v 9,.v 10,.v 11,.v 12,.own 100003,.own 100004]),(100003,.box 51 [.v 13,.v 14]),(100004,.box 52 [.v 15,.v 16])]⟩
def zcH:Shape:=⟨[.bool,(.int .i64),(.int .i64),Tc3,(.int .i64),(.int .i64),(.list (.list (.int .i64))),(.list (.int .i64)),Tc1,(.list (.list (.int .i64))),Tc1,(.list (.int .i64))],[],[(100000,.box 50 [.ptr 100002 0]),(100001,.box 4 [.v 0]),(100002,.box 54 [.v 1,.v 2,.v 3,.v 4,.v 5,.v 6,.v 7,.own 100003,.own 100004]),(100003,.box 51 [.v 8,.v 9]),(100004,.box 52 [.v 10,.v 11])]⟩
def zc2:CE:=⟨20,zcI,zcH,fun X=>zbR X.1 X.2.1 X.2.2.1 X.2.2.2.1 X.2.2.2.2.1 X.2.2.2.2.2.1 X.2.2.2.2.2.2.1 X.2.2.2.2.2.2.2.1 X.2.2.2.2.2.2.2.2.1 X.2.2.2.2.2.2.2.2.2.1 X.2.2.2.2.2.2.2.2.2.2.1 X.2.2.2.2.2.2.2.2.2.2.2.1 X.2.2.2.2.2.2.2.2.2.2.2.2.1 X.2.2.2.2.2.2.2.2.2.2.2.2.2.1 X.2.2.2.2.2.2.2.2.2.2.2.2.2.2.1 X.2.2.2.2.2.2.2.2.2.2.2.2.2.2.2.1 X.2.2.2.2.2.2.2.2.2.2.2.2.2.2.2.2⟩
theorem zfQ:CE.ok Try.prog zc2:=CE.of (Γ:=[zd6,zev]) (by kernel_rfl) zc0 (GOK.cons zgc (GOK.cons zgK (GOK.nil))) ⟨[],[(2,⟨⟨[.bool,(.int .i64),(.int .i64),Tc3,(.int .i64),(.int .i64),(.list (.list (.int .i64))),(.list (.int .i64)),Tc1,(.list (.list (.int .i64))),Tc1,(.list (.int .i64))],[(6,.ptr 100001 0),(18,.ptr 100002 0)],[(100001,.box 4 [.v 0]),(100002,.box 54 [.v 1,.v 2,.v 3,.v 4,.v 5,.v 6,.v 7,.own 100003,.own 100004]),(100003,.box 51 [.v 8,.v 9]),(100004,.box 52 [.v 10,.v 11])]⟩,[19,20,21,22,23,24,25,26,27,28,29,30,31],[],[0],1,[]⟩),(4,⟨⟨[.bool],[(50,.v 0)],[]⟩,[41,42,43,44,45,46,47,48,49],[],[0],1,[]⟩)],[(1,[(0,0),(0,1),(0,2),(0,3),(0,4),(0,5),(0,6)]),(2,[(0,0),(0,1),(0,2),(0,3),(0,4),(2,5),(0,6),(2,7),(2,8)]),(3,[(0,0),(0,1),(0,2),(0,3),(0,4),(0,5),(0,6),(0,7),(0,8),(0,9),(0,10)]),(5,[(0,0),(0,1),(0,2),(0,3),(0,4),(0,5),(1,6),(2,7),(0,8),(2,9),(2,10)])],[]⟩ Try.func20 rfl Try.ntmps20 (rs:=[]) rfl (sig:=zcI) (out:=zcH) rfl Try.call20 (fun X=>by kernel_rfl)

def zgf:Shape:=⟨[(.int .i64)],[(0,.nil),(1,.v 0)],[]⟩
def zge:Shape:=⟨[(.list (.int .i64))],[(0,.own 0)],[(0,.arr 3 0)]⟩
def zgT:CE:=⟨25,zgf,zge,fun X=>zfg X⟩
theorem zkq:CE.ok Try.prog zgT:=CE.of (Γ:=[]) (by kernel_rfl) zc0 (GOK.nil) ⟨[],[],[(5,[(0,0),(0,1),(0,2),(0,3),(0,4),(2,5),(0,6),(0,7),(1,8),(0,9)])],[]⟩ Try.func25 rfl Try.ntmps25 (rs:=[.tmp 4]) rfl (sig:=zgf) (out:=zge) rfl Try.call25 (fun X=>by kernel_rfl)

def zeY:Shape:=⟨[(.list (.list (.int .i64)))],[(0,.v 0)],[]⟩
def zeX:Shape:=⟨[(.list (.int .i64))],[(0,.own 0)],[(0,.arr 3 0)]⟩
def zft:CE:=⟨23,zeY,zeX,fun X=>zdC X⟩
theorem zi6:CE.ok Try.prog zft:=CE.of (Γ:=[zgT]) (by kernel_rfl) zc0 (GOK.cons zkq (GOK.nil)) ⟨[(3,⟨⟨[(.int .i64),(.int .i64)],[(3,.v 0),(11,.v 1)],[]⟩,[5,12,13,14,15,16,17,18,19,20,21,22],[],[],0,[]⟩),(11,⟨⟨[(.int .i64),(.list (.int .i64))],[(6,.own 0),(27,.v 0)],[(0,.arr 3 1)]⟩,[8,24,28,29,30,31,32,33,34],[],[],1,[]⟩)],[],[],[]⟩ Try.func23 rfl Try.ntmps23 (rs:=[.tmp 2]) rfl (sig:=zeY) (out:=zeX) rfl Try.call23 (fun X=>by kernel_rfl)

def zdr:Shape:=⟨[(.list (.int .i64)),(.int .i64),(.list (.int .i64)),.bool,Tc4,(.int .i64),(.int .i64),(.int .i64),Tc3,(.int .i64),(.int .i64),(.list (.list (.int .i64))),(.list (.int .i64)),.bool,Tc1,(.list (.list (.int .i64))),Tc1,(.list (.int .i64))],[(0,.ptr 100000 0),(1,.v 0),(2,.v 1),(3,.v 2),(4,.v 3),(5,.fn 20 [.addr 4,.addr 5,.ptr 100001 0,.ptr 100002 0])],[(100000,.box 54 [.v 6,.v 7,.v 8,.v 9,.v 10,.v 11,.v 12,.own 100003,.own 100004]),(100001,.box 50 [.ptr 100000 0]),(100002,.box 4 [.v 13]),(100003,.box 51 [.v 14,.v 15]),(100004,.box 52 [.v 16,.v 17])]⟩
def zdq:Shape:=⟨[(.int .i64),(.int .i64),Tc3,(.int .i64),(.int .i64),(.list (.list (.int .i64))),(.list (.int .i64)),.bool,Tc1,(.list (.list (.int .i64))),Tc1,(.list (.int .i64))],[],[(100000,.box 54 [.v 0,.v 1,.v 2,.v 3,.v 4,.v 5,.v 6,.own 100003,.own 100004]),(100001,.box 50 [.ptr 100000 0]),(100002,.box 4 [.v 7]),(100003,.box 51 [.v 8,.v 9]),(100004,.box 52 [.v 10,.v 11])]⟩
def zdP:CE:=⟨19,zdr,zdq,LFix zbS⟩
theorem zg6:CE.ok Try.prog zdP:=CE.ofRec (Γ:=[zc2,zd6,zft]) (by kernel_rfl) zc0 (GOK.cons zfQ (GOK.cons zgc (GOK.cons zi6 (GOK.nil)))) ⟨[(6,⟨⟨[Tc4,(.int .i64),(.int .i64),(.int .i64),(.int .i64),Tc3,(.int .i64),(.int .i64),(.list (.list (.int .i64))),(.list (.int .i64)),.bool,Tc1,(.list (.list (.int .i64))),Tc1,(.list (.int .i64))],[(0,.ptr 100000 0),(5,.fn 20 [.addr 0,.addr 1,.ptr 100001 0,.ptr 100002 0]),(70,.v 2)],[(100000,.box 54 [.v 3,.v 4,.v 5,.v 6,.v 7,.v 8,.v 9,.own 100003,.own 100004]),(100001,.box 50 [.ptr 100000 0]),(100002,.box 4 [.v 10]),(100003,.box 51 [.v 11,.v 12]),(100004,.box 52 [.v 13,.v 14])]⟩,[13,14,15,16,17,18,71,72,73,74,75,76,77,78,79,80,81,82,83,84,85,86,87,88,89,90,91,92,93,94,95,96,97,98,99,100,101,102,103,104,105,106,107,108,109,110,111,112,113,114,115,116,117,118,119,120,121,122,123,124,125,126],[],[],0,[]⟩)],[(4,⟨⟨[],[],[]⟩,[12,27,28,29,30,31,32,33,34,35,36,37,38,39,40,41,42,43,44,45,46,47,48,49,50,51,52,53,54,55,56,57,58,59,60,61,62,63],[],[],0,[]⟩),(11,⟨⟨[.bool],[(17,.v 0)],[]⟩,[101,102,103,104,105,106,107,108,109,110,111,112],[],[0],1,[]⟩),(14,⟨⟨[(.list (.int .i64))],[(18,.own 1)],[(1,.arr 3 0)]⟩,[113,114,115,116,117],[],[0],2,[]⟩)],[(8,[(0,0),(0,1),(0,2),(0,3),(0,4),(0,5),(0,6),(0,7),(0,8),(0,9),(0,10),(0,11),(1,12),(2,13)]),(9,[(0,0),(0,1),(0,2),(0,3),(0,4),(0,5),(0,6)]),(10,[(0,0),(0,1),(0,2),(0,3),(0,4),(0,5),(0,6),(0,7),(0,8),(0,9),(0,10)])],[(4,(.pnd (.one 0 (.one 1 (.one 2 (.one 3 (.one 4 (.one 5 (.one 6 (.one 8 (.one 11 (.one 14 (.one 16 (.one 19 (.one 25 (.alt 0 7 (.one 9 (.rd 2 10 [12,13,26] (.one 12 (.rd 2 13 [26] (.alt 1 15 (.alt 1 17 (.alt 2 18 (.one 20 (.one 21 (.rd 0 22 [23,24,26] (.one 23 (.one 24 (.alt 2 26 .leaf .stop)))))) .stop) .stop) (.alt 1 17 (.alt 1 15 (.alt 2 18 (.one 20 (.one 21 (.rd 0 22 [23,24,26] (.one 23 (.one 24 (.alt 2 26 .leaf .stop)))))) .stop) .stop) .stop)))))) (.alt 1 15 (.alt 0 7 (.one 9 (.rd 2 10 [12,13,26] (.one 12 (.rd 2 13 [26] (.alt 1 17 (.alt 2 18 (.one 20 (.one 21 (.rd 0 22 [23,24,26] (.one 23 (.one 24 (.alt 2 26 .leaf .stop)))))) .stop) .stop))))) (.alt 1 17 (.alt 0 7 (.one 9 (.rd 2 10 [12,13,26] (.one 12 (.rd 2 13 [26] (.alt 2 18 (.one 20 (.one 21 (.rd 0 22 [23,24,26] (.one 23 (.one 24 (.alt 2 26 .leaf .stop)))))) .stop))))) (.alt 2 18 (.one 20 (.one 21 (.rd 0 7 [9,10,12,13,26] (.one 9 (.rd 2 10 [12,13,26] (.one 12 (.rd 2 13 [26] (.rd 0 22 [23,24,26] (.one 23 (.one 24 (.alt 2 26 .leaf .stop))))))))))) .stop)) .stop)) (.alt 1 17 (.alt 0 7 (.one 9 (.rd 2 10 [12,13,26] (.one 12 (.rd 2 13 [26] (.alt 1 15 (.alt 2 18 (.one 20 (.one 21 (.rd 0 22 [23,24,26] (.one 23 (.one 24 (.alt 2 26 .leaf .stop)))))) .stop) .stop))))) (.alt 1 15 (.alt 0 7 (.one 9 (.rd 2 10 [12,13,26] (.one 12 (.rd 2 13 [26] (.alt 2 18 (.one 20 (.one 21 (.rd 0 22 [23,24,26] (.one 23 (.one 24 (.alt 2 26 .leaf .stop)))))) .stop))))) (.alt 2 18 (.one 20 (.one 21 (.rd 0 7 [9,10,12,13,26] (.one 9 (.rd 2 10 [12,13,26] (.one 12 (.rd 2 13 [26] (.rd 0 22 [23,24,26] (.one 23 (.one 24 (.alt 2 26 .leaf .stop))))))))))) .stop)) .stop)) .stop))))))))))))))))))]⟩ Try.func19 rfl Try.ntmps19 (rs:=[]) rfl (sig:=zdr) (out:=zdq) rfl Try.call19 (d:=zbS) (fun rc X=>by kernel_rfl)

def zdp:Shape:=⟨[(.int .i64),(.int .i64),Tc3,(.int .i64),(.int .i64),(.list (.list (.int .i64))),(.list (.int .i64)),Tc1,(.list (.list (.int .i64))),Tc1,(.list (.int .i64))],[(0,.ptr 100000 0)],[(100000,.box 54 [.v 0,.v 1,.v 2,.v 3,.v 4,.v 5,.v 6,.own 100001,.own 100002]),(100001,.box 51 [.v 7,.v 8]),(100002,.box 52 [.v 9,.v 10])]⟩
def zdo:Shape:=⟨[(.int .i64),(.int .i64),Tc3,(.int .i64),(.int .i64),(.list (.list (.int .i64))),(.list (.int .i64)),Tc1,(.list (.list (.int .i64))),Tc1,(.list (.int .i64))],[],[(100000,.box 54 [.v 0,.v 1,.v 2,.v 3,.v 4,.v 5,.v 6,.own 100001,.own 100002]),(100001,.box 51 [.v 7,.v 8]),(100002,.box 52 [.v 9,.v 10])]⟩
def zdO:CE:=⟨15,zdp,zdo,fun X=>zdj X.1 X.2.1 X.2.2.1 X.2.2.2.1 X.2.2.2.2.1 X.2.2.2.2.2.1 X.2.2.2.2.2.2.1 X.2.2.2.2.2.2.2.1 X.2.2.2.2.2.2.2.2.1 X.2.2.2.2.2.2.2.2.2.1 X.2.2.2.2.2.2.2.2.2.2⟩
theorem zg4:CE.ok Try.prog zdO:=CE.of (Γ:=[zdP]) (by kernel_rfl) zc0 (GOK.cons zg6 (GOK.nil)) ⟨[(2,⟨⟨[.bool,(.int .i64),(.int .i64),Tc3,(.int .i64),(.int .i64),(.list (.list (.int .i64))),(.list (.int .i64)),Tc1,(.list (.list (.int .i64))),Tc1,(.list (.int .i64))],[(1,.ptr 0 0),(2,.ptr 1 0)],[(0,.box 50 [.ptr 100000 0]),(1,.box 4 [.v 0]),(100000,.box 54 [.v 1,.v 2,.v 3,.v 4,.v 5,.v 6,.v 7,.own 100001,.own 100002]),(100001,.box 51 [.v 8,.v 9]),(100002,.box 52 [.v 10,.v 11])]⟩,[0,4,5,6,7,8,9,10,11,12,13,14,15,16,17,18,19,20,21,22,23,24,25,26,27,28,29,30,31,32,33,34],[],[],2,[]⟩),(5,⟨⟨[(.int .i64),.bool,(.int .i64),(.int .i64),Tc3,(.int .i64),(.int .i64),(.list (.list (.int .i64))),(.list (.int .i64)),Tc1,(.list (.list (.int .i64))),Tc1,(.list (.int .i64))],[(1,.ptr 0 0),(2,.ptr 1 0),(13,.v 0)],[(0,.box 50 [.ptr 100000 0]),(1,.box 4 [.v 1]),(100000,.box 54 [.v 2,.v 3,.v 4,.v 5,.v 6,.v 7,.v 8,.own 100001,.own 100002]),(100001,.box 51 [.v 9,.v 10]),(100002,.box 52 [.v 11,.v 12])]⟩,[0,4,5,14,15,16,17,18,19,20,21,22,23,24,25,26,27,28,29,30,31,32,33],[],[],2,[]⟩),(8,⟨⟨[Tc4,(.int .i64),.bool,(.int .i64),(.int .i64),Tc3,(.int .i64),(.int .i64),(.list (.list (.int .i64))),(.list (.int .i64)),Tc1,(.list (.list (.int .i64))),Tc1,(.list (.int .i64))],[(1,.ptr 0 0),(2,.ptr 1 0),(4,.addr 0),(23,.v 1)],[(0,.box 50 [.ptr 100000 0]),(1,.box 4 [.v 2]),(100000,.box 54 [.v 3,.v 4,.v 5,.v 6,.v 7,.v 8,.v 9,.own 100001,.own 100002]),(100001,.box 51 [.v 10,.v 11]),(100002,.box 52 [.v 12,.v 13])]⟩,[5,24,25,26,27,28,29,30,31,32],[2],[],3,[(4,999999,none,Tc4)]⟩)],[],[],[]⟩ Try.func15 rfl Try.ntmps15 (rs:=[]) rfl (sig:=zdp) (out:=zdo) rfl Try.call15 (fun X=>by kernel_rfl)

def zfl:Shape:=⟨[(.pair (.int .i64) (.pair (.int .i64) (.pair Tc3 .unit))),(.int .i64),(.int .i64),(.list (.list (.int .i64))),(.list (.int .i64))],[(0,.v 0),(1,.agg [.v 1,.v 2,.own 100000,.own 100001])],[(100000,.arr 25 3),(100001,.arr 3 4)]⟩
def zfk:Shape:=⟨[(.list (.int .i64)),.bool,(.int .i64)],[(0,.v 0),(1,.v 1),(2,.v 2)],[]⟩
def zfS:CE:=⟨9,zfl,zfk,fun X=>zaY X.1 X.2.1 X.2.2.1 X.2.2.2.1 X.2.2.2.2⟩
theorem zjK:CE.ok Try.prog zfS:=CE.of (Γ:=[zdO,zev]) (by kernel_rfl) zc0 (GOK.cons zg4 (GOK.cons zgK (GOK.nil))) ⟨[(6,⟨⟨[(.list (.int .i64)),.bool,.bool,(.int .i64)],[(8,.v 0),(9,.v 1),(10,.v 2),(27,.v 3)],[]⟩,[1,11,12,13,14,15,28,29,30,31,32,33,34,35,36,37,38,39,40,41,42,43,44,45,46,47,48,49,50,51,52,53,54,55,56,57,58,59,60,61,62,63,64,65,66,67],[],[0,1,2,3,4],5,[]⟩)],[],[(9,[(0,0),(0,1),(0,2),(0,3),(0,4),(0,5),(0,6),(0,7),(0,8),(0,9),(0,10)]),(11,[(0,0),(0,1),(0,2),(0,3),(0,4),(0,5),(0,6),(0,7),(0,8),(0,9),(0,10)])],[]⟩ Try.func9 rfl Try.ntmps9 (rs:=[.tmp 4,.tmp 5,.tmp 6]) rfl (sig:=zfl) (out:=zfk) rfl Try.call9 (fun X=>by kernel_rfl)

def zhy:Shape:=⟨[(.pair (.int .i64) (.pair (.int .i64) (.pair Tc3 .unit)))],[(0,.v 0)],[]⟩
def zhx:Shape:=⟨[(.list (.int .i64)),.bool,(.int .i64)],[(0,.v 0),(1,.v 1),(2,.v 2)],[]⟩
def ziJ:CE:=⟨4,zhy,zhx,fun X=>zjJ X⟩
theorem zl6:CE.ok Try.prog ziJ:=CE.of (Γ:=[zhw,zfS]) (by kernel_rfl) zc0 (GOK.cons zll (GOK.cons zjK (GOK.nil))) ⟨[],[],[],[(4,(.one 1 (.one 3 (.live [9] (.rd 0 [9,10,11,12,13,14,15] (.rd 2 [8,9,10,11,12,13,14,15] (.rd 4 [5,6,8,9,10,11,12,13,14,15] (.alt 1 5 (.alt 1 6 (.alt 1 7 (.alt 1 8 (.alt 2 9 (.leaf [(0,10),(0,11),(0,12),(0,13),(0,14),(0,15)]) .stop) .stop) .stop) (.alt 1 7 (.alt 1 6 (.alt 1 8 (.alt 2 9 (.leaf [(0,10),(0,11),(0,12),(0,13),(0,14),(0,15)]) .stop) .stop) .stop) .stop)) (.alt 1 7 (.alt 1 5 (.alt 1 6 (.alt 1 8 (.alt 2 9 (.leaf [(0,10),(0,11),(0,12),(0,13),(0,14),(0,15)]) .stop) .stop) .stop) .stop) .stop)))))))))]⟩ Try.func4 rfl Try.ntmps4 (rs:=[.tmp 2,.tmp 3,.tmp 4]) rfl (sig:=zhy) (out:=zhx) rfl Try.call4 (fun X=>by kernel_rfl)

def zhS:Shape:=⟨[(.pair (.int .i64) (.pair (.int .i64) (.pair Tc3 .unit)))],[(0,.v 0)],[]⟩
def zhR:Shape:=⟨[(.int .i64)],[(0,.v 0)],[]⟩
def ziO:CE:=⟨5,zhS,zhR,fun X=>zhQ X⟩
theorem zmg:CE.ok Try.prog ziO:=CE.of (Γ:=[]) (by kernel_rfl) zc0 (GOK.nil) ⟨[(6,⟨⟨[(.int .i64)],[(3,.v 0)],[]⟩,[2,4,5,28,29,30,31,32,33,34,35,36,37,38,39,40,41,42,43,44,45,46,47,48,49,50,51,52,53,54,55,56,57,58,59,60,61,62,63,64,65,66,67,68,69,70,71,72,73,74,75,76,77,78,79],[],[0],1,[]⟩),(14,⟨⟨[(.int .i64)],[(5,.v 0)],[]⟩,[2,54,55,56,57,58,59,60,61,62,63,64,65,66,67,68,69,70,71,72,73,74,75,76,77,78,79],[],[0,1],2,[]⟩)],[],[(16,[(0,0),(0,1),(0,2),(0,3),(0,4),(0,5),(0,6),(0,7),(0,8),(0,9),(0,10),(0,11),(0,12),(0,13),(0,14),(0,15),(0,16),(0,17),(0,18)])],[]⟩ Try.func5 rfl Try.ntmps5 (rs:=[.tmp 2]) rfl (sig:=zhS) (out:=zhR) rfl Try.call5 (fun X=>by kernel_rfl)

def zeO:Shape:=⟨[(.pair (.pair (.int .i64) (.pair (.int .i64) (.pair Tc3 .unit))) (.pair (.pair (.int .i64) (.pair (.int .i64) (.pair (.list (.list (.int .i64))) Tc6))) (.pair (.list (.pair .bool (.pair .bool Tc6))) (.pair .bool .unit)))),(.int .i64),(.int .i64),(.int .i64)],[(0,.addr 0),(1,.v 1),(2,.v 2),(3,.v 3)],[]⟩
def zeN:Shape:=⟨[(.int .i64)],[(0,.v 0)],[]⟩
def zbi:CE:=⟨11,zeO,zeN,fun X=>za7 X.1 X.2.1 X.2.2.1 X.2.2.2⟩
theorem zbM:CE.ok Try.prog zbi:=CE.of (Γ:=[]) (by kernel_rfl) zc0 (GOK.nil) ⟨[],[],[],[]⟩ Try.func11 rfl Try.ntmps11 (rs:=[.tmp 8]) rfl (sig:=zeO) (out:=zeN) rfl Try.call11 (fun X=>by kernel_rfl)

def zh0:Shape:=⟨[(.list (.int .i64)),(.list (.int .i64))],[(0,.v 0),(1,.v 1)],[]⟩
def zhZ:Shape:=⟨[.bool],[(0,.v 0)],[]⟩
def zen:CE:=⟨12,zh0,zhZ,fun X=>zdc X.1 X.2⟩
theorem zf9:CE.ok Try.prog zen:=CE.of (Γ:=[]) (by kernel_rfl) zc0 (GOK.nil) ⟨[(4,⟨⟨[(.int .i64)],[(5,.v 0)],[]⟩,[4,16,17,18,19,20,21,22,23,24,25,26,27,28,29,30,31,32,33,34,35,36,37,38,39],[],[],0,[]⟩)],[],[(6,[(0,0),(0,1),(0,2),(0,3),(0,4),(0,5),(0,6),(0,7),(0,8)]),(7,[(0,0),(0,1),(0,2),(0,3),(0,4),(0,5),(0,6),(0,7),(0,8),(0,9)])],[]⟩ Try.func12 rfl Try.ntmps12 (rs:=[.tmp 4]) rfl (sig:=zh0) (out:=zhZ) rfl Try.call12 (fun X=>by kernel_rfl)

def zek:Shape:=⟨[(.int .i64),(.int .i64),(.int .i64),.bool,(.int .i64),(.int .i64),Tc3,(.int .i64),(.int .i64),(.list (.list (.int .i64))),(.list (.int .i64)),.bool,(.list (.pair .bool (.pair .bool Tc6)))],[(0,.ptr 100000 0),(1,.v 0),(2,.v 1),(3,.v 2),(4,.nil),(5,.v 3)],[(100000,.box 43 [.v 4,.v 5,.v 6,.v 7,.v 8,.v 9,.v 10,.own 100001,.v 11]),(100001,.arr 46 12)]⟩
def zej:Shape:=⟨[(.int .i64),(.int .i64),Tc3,(.int .i64),(.int .i64),(.list (.list (.int .i64))),(.list (.int .i64)),(.list (.pair .bool (.pair .bool Tc6))),.bool],[],[(100000,.box 43 [.v 0,.v 1,.v 2,.v 3,.v 4,.v 5,.v 6,.own 120,.v 8]),(120,.arr 46 7)]⟩
def zeR:CE:=⟨17,zek,zej,fun X=>zgP X.1 X.2.1 X.2.2.1 X.2.2.2.1 X.2.2.2.2.1 X.2.2.2.2.2.1 X.2.2.2.2.2.2.1 X.2.2.2.2.2.2.2.1 X.2.2.2.2.2.2.2.2.1 X.2.2.2.2.2.2.2.2.2.1 X.2.2.2.2.2.2.2.2.2.2.1 X.2.2.2.2.2.2.2.2.2.2.2.1 X.2.2.2.2.2.2.2.2.2.2.2.2⟩
theorem zio:CE.ok Try.prog zeR:=CE.of (Γ:=[zbi,zen]) (by kernel_rfl) zc0 (GOK.cons zbM (GOK.cons zf9 (GOK.nil))) ⟨[],[(3,⟨⟨[(.int .i64),(.int .i64),Tc3,(.int .i64),(.int .i64),(.list (.list (.int .i64))),(.list (.int .i64)),.bool,(.list (.pair .bool (.pair .bool Tc6)))],[(0,.ptr 100000 0)],[(100000,.box 43 [.v 0,.v 1,.v 2,.v 3,.v 4,.v 5,.v 6,.own 100001,.v 7]),(100001,.arr 46 8)]⟩,[19,20,21,22,23,24,25,26,27,28,29,30,31,32,33,34,35,36,37],[],[],0,[]⟩),(6,⟨⟨[.bool],[(61,.v 0)],[]⟩,[50,51,52,53,54,55,56,57,58,59,60],[],[],0,[]⟩)],[],[]⟩ Try.func17 rfl Try.ntmps17 (rs:=[]) rfl (sig:=zek) (out:=zej) rfl Try.call17 (fun X=>by kernel_rfl)

def zdt:Shape:=⟨[(.int .i64),(.int .i64),(.int .i64),(.list (.int .i64)),.bool,(.int .i64),(.int .i64),Tc3,(.int .i64),(.int .i64),(.list (.list (.int .i64))),(.list (.int .i64)),.bool,(.list (.pair .bool (.pair .bool Tc6)))],[(0,.ptr 100000 0),(1,.v 0),(2,.v 1),(3,.v 2),(4,.v 3),(5,.v 4)],[(100000,.box 43 [.v 5,.v 6,.v 7,.v 8,.v 9,.v 10,.v 11,.own 100001,.v 12]),(100001,.arr 46 13)]⟩
def zds:Shape:=⟨[(.int .i64),(.int .i64),Tc3,(.int .i64),(.int .i64),(.list (.list (.int .i64))),(.list (.int .i64)),(.list (.pair .bool (.pair .bool Tc6))),.bool],[],[(100000,.box 43 [.v 0,.v 1,.v 2,.v 3,.v 4,.v 5,.v 6,.own 120,.v 8]),(120,.arr 46 7)]⟩
def zdX:CE:=⟨17,zdt,zds,fun X=>zcc X.1 X.2.1 X.2.2.1 X.2.2.2.1 X.2.2.2.2.1 X.2.2.2.2.2.1 X.2.2.2.2.2.2.1 X.2.2.2.2.2.2.2.1 X.2.2.2.2.2.2.2.2.1 X.2.2.2.2.2.2.2.2.2.1 X.2.2.2.2.2.2.2.2.2.2.1 X.2.2.2.2.2.2.2.2.2.2.2.1 X.2.2.2.2.2.2.2.2.2.2.2.2.1 X.2.2.2.2.2.2.2.2.2.2.2.2.2⟩
theorem zg9:CE.ok Try.prog zdX:=CE.of (Γ:=[zbi,zen]) (by kernel_rfl) zc0 (GOK.cons zbM (GOK.cons zf9 (GOK.nil))) ⟨[],[(3,⟨⟨[(.int .i64),(.int .i64),Tc3,(.int .i64),(.int .i64),(.list (.list (.int .i64))),(.list (.int .i64)),.bool,(.list (.pair .bool (.pair .bool Tc6)))],[(0,.ptr 100000 0)],[(100000,.box 43 [.v 0,.v 1,.v 2,.v 3,.v 4,.v 5,.v 6,.own 100001,.v 7]),(100001,.arr 46 8)]⟩,[19,20,21,22,23,24,25,26,27,28,29,30,31,32,33,34,35,36,37],[],[],0,[]⟩),(6,⟨⟨[.bool],[(61,.v 0)],[]⟩,[50,51,52,53,54,55,56,57,58,59,60],[],[],0,[]⟩)],[],[]⟩ Try.func17 rfl Try.ntmps17 (rs:=[]) rfl (sig:=zdt) (out:=zds) rfl Try.call17 (fun X=>by kernel_rfl)

def zdb:Shape:=⟨[(.int .i64),(.int .i64),(.list (.int .i64)),(.int .i64),(.list (.int .i64)),.bool,(.int .i64),(.int .i64),Tc3,(.int .i64),(.int .i64),(.list (.list (.int .i64))),(.list (.int .i64)),.bool,(.list (.pair .bool (.pair .bool Tc6)))],[(0,.ptr 100000 0),(1,.v 0),(2,.v 1),(3,.v 2),(4,.v 3),(5,.v 4),(6,.v 5)],[(100000,.box 43 [.v 6,.v 7,.v 8,.v 9,.v 10,.v 11,.v 12,.own 100001,.v 13]),(100001,.arr 46 14)]⟩
def zda:Shape:=⟨[(.int .i64),(.int .i64),Tc3,(.int .i64),(.int .i64),(.list (.list (.int .i64))),(.list (.int .i64)),(.list (.pair .bool (.pair .bool Tc6))),.bool],[],[(100000,.box 43 [.v 0,.v 1,.v 2,.v 3,.v 4,.v 5,.v 6,.own 120,.v 8]),(120,.arr 46 7)]⟩
def zdu:CE:=⟨10,zdb,zda,LFix zbH⟩
theorem zgA:CE.ok Try.prog zdu:=CE.ofRec (Γ:=[zdX,zbi]) (by kernel_rfl) zc0 (GOK.cons zg9 (GOK.cons zbM (GOK.nil))) ⟨[(7,⟨⟨[(.int .i64),(.int .i64),(.int .i64),Tc3,(.int .i64),(.int .i64),(.list (.list (.int .i64))),(.list (.int .i64)),.bool,(.list (.pair .bool (.pair .bool Tc6)))],[(0,.ptr 100000 0),(15,.v 0)],[(100000,.box 43 [.v 1,.v 2,.v 3,.v 4,.v 5,.v 6,.v 7,.own 0,.v 8]),(0,.arr 46 9)]⟩,[16,17,18,73,74,75,76,77,78,79,80,81,82,83,84,85,86,87,88,89,90,91,92,93,94,95,96,97,98,99,100,101,102,103,104,105,106,107,108,109,110,111,112,113,114,115,116,117,118,119,120,121,122,123,124,125,126,127,128,129,130,131,132,133,134,135,136,137,138,139,140,141,142,143,144,145,146,147,148,149,150,151,152,153],[100001],[],1,[]⟩)],[(11,⟨⟨[.bool],[(17,.v 0)],[]⟩,[105,106,107,108,109,110,111,112,113,114,115,116,117,118,119,120,121,122,123,124,125,126,127,128,129,130],[],[0],1,[]⟩),(15,⟨⟨[(.list (.int .i64))],[(18,.own 1)],[(1,.arr 3 0)]⟩,[131,132,133,134,135,136,137,138,139,140,141,142,143,144],[],[0],2,[]⟩)],[(2,[(0,0),(0,1),(0,2),(0,3),(0,4),(0,5),(0,6),(0,7),(0,8)]),(5,[(0,0),(0,1),(0,2),(0,3),(0,4),(0,5),(0,6),(0,7),(0,8),(0,9),(0,10),(0,11),(0,12),(0,13),(0,14),(0,15),(0,16),(0,17),(0,18),(0,19),(0,20),(0,21),(0,22),(0,23),(0,24),(2,25)]),(9,[(0,0),(0,1),(0,2),(0,3),(0,4),(0,5),(0,6),(0,7),(0,8),(0,9),(0,10),(0,11),(1,12),(0,13)])],[]⟩ Try.func10 rfl Try.ntmps10 (rs:=[]) rfl (sig:=zdb) (out:=zda) rfl Try.call10 (d:=zbH) (fun rc X=>by kernel_rfl)

def zd1:Shape:=⟨[(.int .i64),(.int .i64),(.list (.int .i64)),(.int .i64),.bool,(.int .i64),(.int .i64),Tc3,(.int .i64),(.int .i64),(.list (.list (.int .i64))),(.list (.int .i64)),.bool,(.list (.pair .bool (.pair .bool Tc6)))],[(0,.ptr 100000 0),(1,.v 0),(2,.v 1),(3,.v 2),(4,.v 3),(5,.nil),(6,.v 4)],[(100000,.box 43 [.v 5,.v 6,.v 7,.v 8,.v 9,.v 10,.v 11,.own 100001,.v 12]),(100001,.arr 46 13)]⟩
def zd0:Shape:=⟨[(.int .i64),(.int .i64),Tc3,(.int .i64),(.int .i64),(.list (.list (.int .i64))),(.list (.int .i64)),(.list (.pair .bool (.pair .bool Tc6))),.bool],[],[(100000,.box 43 [.v 0,.v 1,.v 2,.v 3,.v 4,.v 5,.v 6,.own 120,.v 8]),(120,.arr 46 7)]⟩
def zel:CE:=⟨10,zd1,zd0,fun X=>zdY X.1 X.2.1 X.2.2.1 X.2.2.2.1 X.2.2.2.2.1 X.2.2.2.2.2.1 X.2.2.2.2.2.2.1 X.2.2.2.2.2.2.2.1 X.2.2.2.2.2.2.2.2.1 X.2.2.2.2.2.2.2.2.2.1 X.2.2.2.2.2.2.2.2.2.2.1 X.2.2.2.2.2.2.2.2.2.2.2.1 X.2.2.2.2.2.2.2.2.2.2.2.2.1 X.2.2.2.2.2.2.2.2.2.2.2.2.2⟩
theorem zhY:CE.ok Try.prog zel:=CE.of (Γ:=[zeR,zdu,zbi]) (by kernel_rfl) zc0 (GOK.cons zio (GOK.cons zgA (GOK.cons zbM (GOK.nil)))) ⟨[(7,⟨⟨[(.int .i64),(.int .i64),(.int .i64),Tc3,(.int .i64),(.int .i64),(.list (.list (.int .i64))),(.list (.int .i64)),.bool,(.list (.pair .bool (.pair .bool Tc6)))],[(0,.ptr 100000 0),(15,.v 0)],[(100000,.box 43 [.v 1,.v 2,.v 3,.v 4,.v 5,.v 6,.v 7,.own 0,.v 8]),(0,.arr 46 9)]⟩,[16,17,18,73,74,75,76,77,78,79,80,81,82,83,84,85,86,87,88,89,90,91,92,93,94,95,96,97,98,99,100,101,102,103,104,105,106,107,108,109,110,111,112,113,114,115,116,117,118,119,120,121,122,123,124,125,126,127,128,129,130,131,132,133,134,135,136,137,138,139,140,141,142,143,144,145,146,147,148,149,150,151,152,153],[100001],[],1,[]⟩)],[(11,⟨⟨[.bool],[(17,.v 0)],[]⟩,[105,106,107,108,109,110,111,112,113,114,115,116,117,118,119,120,121,122,123,124,125,126,127,128,129,130],[],[0],1,[]⟩),(15,⟨⟨[(.list (.int .i64))],[(18,.own 1)],[(1,.arr 3 0)]⟩,[131,132,133,134,135,136,137,138,139,140,141,142,143,144],[],[0],2,[]⟩)],[(2,[(0,0),(0,1),(0,2),(0,3),(0,4),(0,5),(0,6),(0,7),(0,8)]),(5,[(0,0),(0,1),(0,2),(0,3),(0,4),(0,5),(0,6),(0,7),(0,8),(0,9),(0,10),(0,11),(0,12),(0,13),(0,14),(0,15),(0,16),(0,17),(0,18),(0,19),(0,20),(0,21),(0,22),(0,23),(0,24),(2,25)]),(9,[(0,0),(0,1),(0,2),(0,3),(0,4),(0,5),(0,6),(0,7),(0,8),(0,9),(0,10),(0,11),(1,12),(0,13)])],[]⟩ Try.func10 rfl Try.ntmps10 (rs:=[]) rfl (sig:=zd1) (out:=zd0) rfl Try.call10 (fun X=>by kernel_rfl)

def zhW:Shape:=⟨[(.pair (.int .i64) (.pair (.int .i64) (.pair Tc3 .unit))),(.pair (.int .i64) (.pair (.int .i64) (.pair (.list (.list (.int .i64))) Tc6)))],[(0,.v 0),(1,.v 1)],[]⟩
def zhV:Shape:=⟨[(.list (.int .i64)),.bool,.bool],[(0,.v 0),(1,.v 1),(2,.v 2)],[]⟩
def ziP:CE:=⟨6,zhW,zhV,fun X=>zhT X.1 X.2⟩
theorem zmh:CE.ok Try.prog ziP:=CE.of (Γ:=[zel,zbi,zen]) (by kernel_rfl) zc0 (GOK.cons zhY (GOK.cons zbM (GOK.cons zf9 (GOK.nil)))) ⟨[(3,⟨⟨[(.int .i64),(.int .i64),Tc3,(.int .i64),(.int .i64),(.list (.list (.int .i64))),(.list (.int .i64)),.bool,(.list (.pair .bool (.pair .bool Tc6)))],[(8,.ptr 3 0)],[(3,.box 43 [.v 0,.v 1,.v 2,.v 3,.v 4,.v 5,.v 6,.own 2,.v 7]),(2,.arr 46 8)]⟩,[9,10,28,29,30,31,32,33,34,35,36,37,38,39,40,41,42,43,44,45,46,47,48,49,50,51,52,53,54,55,56,57,58,59,60,61,62,63,64,65],[],[0,1],4,[]⟩),(6,⟨⟨[(.int .i64),(.int .i64),(.int .i64),Tc3,(.int .i64),(.int .i64),(.list (.list (.int .i64))),(.list (.int .i64)),.bool,(.list (.pair .bool (.pair .bool Tc6)))],[(8,.ptr 3 0),(9,.v 0)],[(3,.box 43 [.v 1,.v 2,.v 3,.v 4,.v 5,.v 6,.v 7,.own 2,.v 8]),(2,.arr 46 9)]⟩,[10,28,29,30,31,32,33,35,36,37,38,39,40,41,42,43,44,45,46,47,48,49,50,51,52,53,54,55,56,57,58,59,60,61,62,63,64,65],[],[0,1],4,[]⟩),(9,⟨⟨[(.int .i64),(.int .i64),(.int .i64),Tc3,(.int .i64),(.int .i64),(.list (.list (.int .i64))),(.list (.int .i64)),.bool,(.list (.pair .bool (.pair .bool Tc6)))],[(8,.ptr 3 0),(10,.v 0)],[(3,.box 43 [.v 1,.v 2,.v 3,.v 4,.v 5,.v 6,.v 7,.own 2,.v 8]),(2,.arr 46 9)]⟩,[45,46,47,48,49,50,51,52,53,54,55,56,57,58,59,60,61,62,63,64,65],[],[0,1],4,[]⟩),(16,⟨⟨[(.list (.int .i64)),.bool,.bool,(.int .i64)],[(11,.v 0),(12,.v 1),(13,.v 2),(14,.v 3)],[]⟩,[15,16,66,67,68,69,70,71,72,73,74,75,76,77,78,79,80,81,82,83,84,85,86,87,88,89,90,91,92,93,94,95,96,97,98,99,100,101,102,103,104,105,106,107],[],[0,1,2,3],4,[]⟩)],[(18,⟨⟨[.bool,.bool,(.list (.int .i64))],[(15,.ptr 4 0)],[(4,.box 46 [.v 0,.v 1,.v 2])]⟩,[71,72,73,74,75,76,77,78,79,80,81],[],[0,1,2,3],5,[]⟩)],[(2,[(0,0),(0,1),(0,2),(0,3),(0,4),(0,5),(0,6),(0,7),(1,8),(1,9),(1,10),(0,11)]),(11,[(0,0),(0,1),(0,2),(0,3),(0,4),(0,5),(0,6),(0,7),(0,8),(0,9),(0,10),(0,11),(0,12),(0,13),(0,14),(2,15)])],[(18,(.one 0 (.one 1 (.one 2 (.one 4 (.one 5 (.one 7 (.live [12] (.rd 3 [9,10,12] (.rd 6 [8,9,10,12] (.alt 1 8 (.one 9 (.rd 10 [12] (.alt 1 11 (.alt 2 12 (.leaf []) .stop) .stop))) (.alt 1 11 (.alt 1 8 (.one 9 (.rd 10 [12] (.alt 2 12 (.leaf []) .stop))) .stop) .stop))))))))))))]⟩ Try.func6 rfl Try.ntmps6 (rs:=[.tmp 4,.tmp 5,.tmp 6]) rfl (sig:=zhW) (out:=zhV) rfl Try.call6 (fun X=>by kernel_rfl)

def ziR:Shape:=⟨[(.list (.int .i64)),(.list (.int .i64))],[(0,.v 0),(1,.v 1)],[]⟩
def ziQ:Shape:=⟨[.bool],[(0,.v 0)],[]⟩
def zj4:CE:=⟨7,ziR,ziQ,fun X=>zgu X.1 X.2⟩
theorem zm6:CE.ok Try.prog zj4:=CE.of (Γ:=[]) (by kernel_rfl) zc0 (GOK.nil) ⟨[(4,⟨⟨[(.int .i64)],[(5,.v 0)],[]⟩,[4,11,12,13,14,15,16,17,18,19,20,21,22,23,24,25],[],[],0,[]⟩)],[],[(6,[(0,0),(0,1),(0,2),(0,3),(0,4),(0,5),(0,6),(0,7),(0,8)])],[]⟩ Try.func7 rfl Try.ntmps7 (rs:=[.tmp 4]) rfl (sig:=ziR) (out:=ziQ) rfl Try.call7 (fun X=>by kernel_rfl)

def zfn:Shape:=⟨[(.pair (.int .i64) (.pair (.int .i64) (.pair Tc3 .unit)))],[(0,.v 0)],[]⟩
def zfm:Shape:=⟨[.bool],[(0,.v 0)],[]⟩
def zdQ:CE:=⟨3,zfn,zfm,fun X=>zfX X⟩
theorem zjQ:CE.ok Try.prog zdQ:=CE.of (Γ:=[ziJ,ziO,ziP,zj4]) (by kernel_rfl) zc0 (GOK.cons zl6 (GOK.cons zmg (GOK.cons zmh (GOK.cons zm6 (GOK.nil))))) ⟨[],[(4,⟨⟨[(.int .i64),(.int .i64),(.list (.list (.int .i64))),(.list (.int .i64))],[(7,.ptr 1 0)],[(1,.box 32 [.v 0,.v 1,.v 2,.v 3])]⟩,[22,23,24,25,26,27,28,29],[],[0],2,[]⟩),(6,⟨⟨[.bool],[(41,.v 0)],[]⟩,[37,38,39,40],[],[0,1],2,[]⟩)],[],[(4,(.one 0 (.one 2 (.live [9] (.rd 1 [7,9] (.rd 3 [4,5,7,9] (.alt 1 4 (.alt 1 5 (.alt 1 6 (.one 7 (.alt 1 8 (.alt 2 9 (.leaf []) .stop) .stop)) (.alt 1 8 (.alt 1 6 (.one 7 (.alt 2 9 (.leaf []) .stop)) .stop) .stop)) (.alt 1 6 (.alt 1 5 (.one 7 (.alt 1 8 (.alt 2 9 (.leaf []) .stop) .stop)) (.alt 1 8 (.alt 1 5 (.one 7 (.alt 2 9 (.leaf []) .stop)) .stop) .stop)) (.alt 1 8 (.alt 1 5 (.alt 1 6 (.one 7 (.alt 2 9 (.leaf []) .stop)) .stop) (.alt 1 6 (.alt 1 5 (.one 7 (.alt 2 9 (.leaf []) .stop)) .stop) .stop)) .stop))) (.alt 1 6 (.alt 1 4 (.alt 1 5 (.one 7 (.alt 1 8 (.alt 2 9 (.leaf []) .stop) .stop)) (.alt 1 8 (.alt 1 5 (.one 7 (.alt 2 9 (.leaf []) .stop)) .stop) .stop)) (.alt 1 8 (.alt 1 4 (.alt 1 5 (.one 7 (.alt 2 9 (.leaf []) .stop)) .stop) .stop) .stop)) (.alt 1 8 (.alt 1 4 (.alt 1 5 (.alt 1 6 (.one 7 (.alt 2 9 (.leaf []) .stop)) .stop) (.alt 1 6 (.alt 1 5 (.one 7 (.alt 2 9 (.leaf []) .stop)) .stop) .stop)) (.alt 1 6 (.alt 1 4 (.alt 1 5 (.one 7 (.alt 2 9 (.leaf []) .stop)) .stop) .stop) .stop)) .stop)))))))))]⟩ Try.func3 rfl Try.ntmps3 (rs:=[.tmp 2]) rfl (sig:=zfn) (out:=zfm) rfl Try.call3 (fun X=>by kernel_rfl)

end
end Go.Proofs.Ytfkonehmieejdaa.gramSomeW
