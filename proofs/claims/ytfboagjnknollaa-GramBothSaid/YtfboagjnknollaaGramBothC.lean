/- That the functions of 'GramBoth' compute so. -/
import Derived.Test.YtfboagjnknollaaGramBothD
import Derived.Test.YtfboagjnknollaaProg
import Derived.KernelRfl
set_option maxHeartbeats 1000000
set_option maxRecDepth 20000
set_option linter.unusedSimpArgs false
set_option linter.unusedVariables false
set_option linter.unusedSectionVars false
namespace Go.Proofs.Ytfboagjnknollaa.gramBothW
open Go Go.Ab
noncomputable section
theorem zsH:SzT Try.prog 3 ((.int .i64)):=SzT.ofTI (dsc:=false) (size:=1) (bytes:=8) (z := .int .i64 0) (TI.of Try.underlying3 rfl (by kernel_rfl)) rfl rfl
theorem zrM:SzT Try.prog 57 (Tc2):=SzT.ofTI (dsc:=true) (size:=3) (bytes:=24) (z := .agg ⟨[.int .i64 0,.int .i64 0,.int .i64 0]⟩) (TI.of Try.underlying57 rfl (by kernel_rfl)) rfl rfl
def te3:TE:=⟨3,.int .i64,false,1,8,.int .i64 0,some (.int .i64)⟩
theorem zuh:TEok Try.prog te3:=⟨TI.of Try.underlying3 rfl (by kernel_rfl),Try.underlying3,fun t h=>by cases h;exact ⟨rfl,rfl,by decide,rfl⟩⟩
def te4:TE:=⟨4,.bool,false,1,1,.bool false,some .bool⟩
theorem zui:TEok Try.prog te4:=⟨TI.of Try.underlying4 rfl (by kernel_rfl),Try.underlying4,fun t h=>by cases h;exact ⟨rfl,rfl,by decide,rfl⟩⟩
def te22:TE:=⟨22,.slice 39,false,1,24,.slice none 0 0,some Tc3⟩
theorem ztq:TEok Try.prog te22:=⟨TI.of Try.underlying22 rfl (by kernel_rfl),Try.underlying22,fun t h=>by cases h;exact ⟨rfl,rfl,by decide,rfl⟩⟩
def te24:TE:=⟨24,.struct [(0,3),(1,3),(2,22)] none,true,3,40,.agg ⟨[.int .i64 0,.int .i64 0,.slice none 0 0]⟩,some (.pair (.int .i64) (.pair (.int .i64) (.pair Tc3 .unit)))⟩
theorem ztr:TEok Try.prog te24:=⟨TI.of Try.underlying24 rfl (by kernel_rfl),⟨⟨_,Try.underlying24,rfl⟩,fun t h=>by cases h⟩,fun t h=>by cases h;exact ⟨rfl,rfl,by decide,rfl⟩⟩
def te25:TE:=⟨25,.slice 26,false,1,24,.slice none 0 0,some (.list (.list (.int .i64)))⟩
theorem zts:TEok Try.prog te25:=⟨TI.of Try.underlying25 rfl (by kernel_rfl),Try.underlying25,fun t h=>by cases h;exact ⟨rfl,rfl,by decide,rfl⟩⟩
def te26:TE:=⟨26,.slice 3,false,1,24,.slice none 0 0,some (.list (.int .i64))⟩
theorem ztt:TEok Try.prog te26:=⟨TI.of Try.underlying26 rfl (by kernel_rfl),Try.underlying26,fun t h=>by cases h;exact ⟨rfl,rfl,by decide,rfl⟩⟩
def te28:TE:=⟨28,.struct [(0,3),(1,3),(2,25),(3,26)] none,true,4,64,.agg ⟨[.int .i64 0,.int .i64 0,.slice none 0 0,.slice none 0 0]⟩,some (.pair (.int .i64) (.pair (.int .i64) (.pair (.list (.list (.int .i64))) Tc6)))⟩
theorem ztu:TEok Try.prog te28:=⟨TI.of Try.underlying28 rfl (by kernel_rfl),⟨⟨_,Try.underlying28,rfl⟩,fun t h=>by cases h⟩,fun t h=>by cases h;exact ⟨rfl,rfl,by decide,rfl⟩⟩
def te29:TE:=⟨29,.int .i64,false,1,8,.int .i64 0,some (.int .i64)⟩
theorem ztv:TEok Try.prog te29:=⟨TI.of Try.underlying29 rfl (by kernel_rfl),Try.underlying29,fun t h=>by cases h;exact ⟨rfl,rfl,by decide,rfl⟩⟩
def te39:TE:=⟨39,.struct [(0,3),(1,26)] none,true,2,32,.agg ⟨[.int .i64 0,.slice none 0 0]⟩,some Tc4⟩
theorem ztw:TEok Try.prog te39:=⟨TI.of Try.underlying39 rfl (by kernel_rfl),⟨⟨_,Try.underlying39,rfl⟩,fun t h=>by cases h⟩,fun t h=>by cases h;exact ⟨rfl,rfl,by decide,rfl⟩⟩
def te41:TE:=⟨41,.slice 46,false,1,24,.slice none 0 0,some (.list (.pair .bool (.pair .bool Tc6)))⟩
theorem ztx:TEok Try.prog te41:=⟨TI.of Try.underlying41 rfl (by kernel_rfl),Try.underlying41,fun t h=>by cases h;exact ⟨rfl,rfl,by decide,rfl⟩⟩
def te43:TE:=⟨43,.struct [(0,24),(3,28),(7,41),(8,4)] none,true,9,136,.agg ⟨[.int .i64 0,.int .i64 0,.slice none 0 0,.int .i64 0,.int .i64 0,.slice none 0 0,.slice none 0 0,.slice none 0 0,.bool false]⟩,some (.pair (.pair (.int .i64) (.pair (.int .i64) (.pair Tc3 .unit))) (.pair (.pair (.int .i64) (.pair (.int .i64) (.pair (.list (.list (.int .i64))) Tc6))) (.pair (.list (.pair .bool (.pair .bool Tc6))) (.pair .bool .unit))))⟩
theorem zty:TEok Try.prog te43:=⟨TI.of Try.underlying43 rfl (by kernel_rfl),⟨⟨_,Try.underlying43,rfl⟩,fun t h=>by cases h⟩,fun t h=>by cases h;exact ⟨rfl,rfl,by decide,rfl⟩⟩
def te46:TE:=⟨46,.struct [(0,4),(1,4),(2,26)] none,true,3,32,.agg ⟨[.bool false,.bool false,.slice none 0 0]⟩,some (.pair .bool (.pair .bool Tc6))⟩
theorem ztz:TEok Try.prog te46:=⟨TI.of Try.underlying46 rfl (by kernel_rfl),⟨⟨_,Try.underlying46,rfl⟩,fun t h=>by cases h⟩,fun t h=>by cases h;exact ⟨rfl,rfl,by decide,rfl⟩⟩
def te49:TE:=⟨49,.other,false,1,8,.nilFunc,none⟩
theorem ztA:TEok Try.prog te49:=⟨TI.of Try.underlying49 rfl (by kernel_rfl),trivial,fun t h=>by cases h⟩
def te52:TE:=⟨52,.other,false,1,8,.pointer none,none⟩
theorem ztB:TEok Try.prog te52:=⟨TI.of Try.underlying52 rfl (by kernel_rfl),trivial,fun t h=>by cases h⟩
def te56:TE:=⟨56,.struct [(0,24),(3,28),(7,53),(8,54)] none,true,9,120,.agg ⟨[.int .i64 0,.int .i64 0,.slice none 0 0,.int .i64 0,.int .i64 0,.slice none 0 0,.slice none 0 0,.map none,.map none]⟩,none⟩
theorem ztE:TEok Try.prog te56:=⟨TI.of Try.underlying56 rfl (by kernel_rfl),⟨⟨_,Try.underlying56,rfl⟩,fun t h=>by cases h⟩,fun t h=>by cases h⟩
def te57:TE:=⟨57,.array 3 3,true,3,24,.agg ⟨[.int .i64 0,.int .i64 0,.int .i64 0]⟩,some Tc2⟩
theorem ztF:TEok Try.prog te57:=⟨TI.of Try.underlying57 rfl (by kernel_rfl),Try.underlying57,fun t h=>by cases h;exact ⟨rfl,rfl,by decide,rfl⟩⟩
def te53:TE:=⟨53,.map 57 26 (Tc2),false,1,8,.map none,none⟩
theorem ztC:TEok Try.prog te53:=⟨TI.of Try.underlying53 rfl (by kernel_rfl),⟨Try.underlying53,SK.ofKey (d:=16) (KeyT.array zrM Try.underlying57 (KeyT.int zsH Try.underlying3) rfl) (by decide) rfl rfl⟩,fun t h=>by cases h⟩
def te54:TE:=⟨54,.map 57 3 (Tc2),false,1,8,.map none,none⟩
theorem ztD:TEok Try.prog te54:=⟨TI.of Try.underlying54 rfl (by kernel_rfl),⟨Try.underlying54,SK.ofKey (d:=16) (KeyT.array zrM Try.underlying57 (KeyT.int zsH Try.underlying3) rfl) (by decide) rfl rfl⟩,fun t h=>by cases h⟩
def TT:List TE:=[te3,te4,te22,te24,te25,te26,te28,te29,te39,te41,te43,te46,te49,te52,te56,te57,te53,te54]
theorem zbL:TOK Try.prog TT:=TOK.cons zuh (TOK.cons zui (TOK.cons ztq (TOK.cons ztr (TOK.cons zts (TOK.cons ztt (TOK.cons ztu (TOK.cons ztv (TOK.cons ztw (TOK.cons ztx (TOK.cons zty (TOK.cons ztz (TOK.cons ztA (TOK.cons ztB (TOK.cons ztE (TOK.cons ztF (TOK.cons ztC (TOK.cons ztD (TOK.nil))))))))))))))))))

def zgz:Shape:=⟨[(.int .i64),(.pair (.int .i64) (.pair (.int .i64) (.pair Tc3 .unit)))],[(0,.v 0),(1,.addr 1)],[]⟩
def zgy:Shape:=⟨[.bool],[(0,.v 0)],[]⟩
def zhc:CE:=⟨16,zgz,zgy,fun X=>zff X.1 X.2⟩
theorem zlD:CE.ok Try.prog zhc:=CE.of (Γ:=[]) (by kernel_rfl) zbL (GOK.nil) ⟨[],[],[],[]⟩ Try.func16 rfl Try.ntmps16 (rs:=[.tmp 3]) rfl (sig:=zgz) (out:=zgy) rfl Try.call16 (fun X=>by kernel_rfl)

def zen:Shape:=⟨[(.list (.int .i64)),(.pair (.int .i64) (.pair (.int .i64) (.pair Tc3 .unit)))],[(0,.v 0),(1,.fn 16 [.addr 1])],[]⟩
def zem:Shape:=⟨[(.int .i64)],[(0,.v 0)],[]⟩
def ze6:CE:=⟨25,zen,zem,fun X=>zgK X.1 X.2⟩
theorem ziS:CE.ok Try.prog ze6:=CE.of (Γ:=[zhc]) (by kernel_rfl) zbL (GOK.cons zlD (GOK.nil)) ⟨[(2,⟨⟨[(.int .i64)],[(8,.v 0)],[]⟩,[4,5,9,10,11,12,13,14,15,16,17,18],[],[],0,[]⟩)],[],[],[]⟩ Try.func25 rfl Try.ntmps25 (rs:=[.tmp 4]) rfl (sig:=zen) (out:=zem) rfl Try.call25 (fun X=>by kernel_rfl)

def zdd:Shape:=⟨[(.list (.int .i64)),(.pair (.int .i64) (.pair (.int .i64) (.pair Tc3 .unit)))],[(0,.v 0),(1,.fn 16 [.addr 1])],[]⟩
def zdc:Shape:=⟨[.bool],[(0,.v 0)],[]⟩
def zdt:CE:=⟨15,zdd,zdc,fun X=>zcM X.1 X.2⟩
theorem zgS:CE.ok Try.prog zdt:=CE.of (Γ:=[ze6]) (by kernel_rfl) zbL (GOK.cons ziS (GOK.nil)) ⟨[],[],[],[]⟩ Try.func15 rfl Try.ntmps15 (rs:=[.tmp 4]) rfl (sig:=zdd) (out:=zdc) rfl Try.call15 (fun X=>by kernel_rfl)

def zij:Shape:=⟨[(.pair (.int .i64) (.pair (.int .i64) (.pair Tc3 .unit)))],[(0,.v 0)],[]⟩
def zii:Shape:=⟨[(.int .i64)],[(0,.v 0)],[]⟩
def zjh:CE:=⟨9,zij,zii,fun X=>zhU X⟩
theorem znm:CE.ok Try.prog zjh:=CE.of (Γ:=[zdt]) (by kernel_rfl) zbL (GOK.cons zgS (GOK.nil)) ⟨[(6,⟨⟨[(.int .i64)],[(30,.v 0)],[]⟩,[2,4,31,32,33,34,35,36,37,38,39,40,41,42,43,44,45,46,47,48,49,50,51,52],[],[0],1,[]⟩)],[],[],[]⟩ Try.func9 rfl Try.ntmps9 (rs:=[.tmp 2]) rfl (sig:=zij) (out:=zii) rfl Try.call9 (fun X=>by kernel_rfl)

def zg1:Shape:=⟨[(.list (.int .i64)),(.pair (.int .i64) (.pair (.int .i64) (.pair (.list (.list (.int .i64))) Tc6)))],[(0,.v 0),(1,.addr 1)],[]⟩
def zg0:Shape:=⟨[.bool],[(0,.v 0)],[]⟩
def zid:CE:=⟨18,zg1,zg0,fun X=>ziH X.1 X.2⟩
theorem zmf:CE.ok Try.prog zid:=CE.of (Γ:=[]) (by kernel_rfl) zbL (GOK.nil) ⟨[],[],[],[]⟩ Try.func18 rfl Try.ntmps18 (rs:=[.tmp 3]) rfl (sig:=zg1) (out:=zg0) rfl Try.call18 (fun X=>by kernel_rfl)

def zdv:Shape:=⟨[(.list (.list (.int .i64))),(.pair (.int .i64) (.pair (.int .i64) (.pair (.list (.list (.int .i64))) Tc6)))],[(0,.v 0),(1,.fn 18 [.addr 1])],[]⟩
def zdu:Shape:=⟨[(.int .i64)],[(0,.v 0)],[]⟩
def zd0:CE:=⟨26,zdv,zdu,fun X=>zfs X.1 X.2⟩
theorem zhI:CE.ok Try.prog zd0:=CE.of (Γ:=[zid]) (by kernel_rfl) zbL (GOK.cons zmf (GOK.nil)) ⟨[(2,⟨⟨[(.int .i64)],[(8,.v 0)],[]⟩,[4,5,9,10,11,12,13,14,15,16,17,18],[],[],0,[]⟩)],[],[],[]⟩ Try.func26 rfl Try.ntmps26 (rs:=[.tmp 4]) rfl (sig:=zdv) (out:=zdu) rfl Try.call26 (fun X=>by kernel_rfl)

def zcv:Shape:=⟨[(.list (.list (.int .i64))),(.pair (.int .i64) (.pair (.int .i64) (.pair (.list (.list (.int .i64))) Tc6)))],[(0,.v 0),(1,.fn 18 [.addr 1])],[]⟩
def zcu:Shape:=⟨[.bool],[(0,.v 0)],[]⟩
def zcW:CE:=⟨17,zcv,zcu,fun X=>zcc X.1 X.2⟩
theorem zf4:CE.ok Try.prog zcW:=CE.of (Γ:=[zd0]) (by kernel_rfl) zbL (GOK.cons zhI (GOK.nil)) ⟨[],[],[],[]⟩ Try.func17 rfl Try.ntmps17 (rs:=[.tmp 4]) rfl (sig:=zcv) (out:=zcu) rfl Try.call17 (fun X=>by kernel_rfl)

def zg3:Shape:=⟨[(.int .i64),(.int .i64)],[(0,.v 0),(1,.addr 1)],[]⟩
def zg2:Shape:=⟨[.bool],[(0,.v 0)],[]⟩
def zfx:CE:=⟨19,zg3,zg2,fun X=>zdE X.1 X.2⟩
theorem zie:CE.ok Try.prog zfx:=CE.of (Γ:=[]) (by kernel_rfl) zbL (GOK.nil) ⟨[],[],[],[]⟩ Try.func19 rfl Try.ntmps19 (rs:=[.tmp 3]) rfl (sig:=zg3) (out:=zg2) rfl Try.call19 (fun X=>by kernel_rfl)

def zdz:Shape:=⟨[(.list (.int .i64)),(.int .i64)],[(0,.v 0),(1,.fn 19 [.addr 1])],[]⟩
def zdy:Shape:=⟨[(.int .i64)],[(0,.v 0)],[]⟩
def zd2:CE:=⟨25,zdz,zdy,fun X=>zfu X.1 X.2⟩
theorem zhK:CE.ok Try.prog zd2:=CE.of (Γ:=[zfx]) (by kernel_rfl) zbL (GOK.cons zie (GOK.nil)) ⟨[(2,⟨⟨[(.int .i64)],[(8,.v 0)],[]⟩,[4,5,9,10,11,12,13,14,15,16,17,18],[],[],0,[]⟩)],[],[],[]⟩ Try.func25 rfl Try.ntmps25 (rs:=[.tmp 4]) rfl (sig:=zdz) (out:=zdy) rfl Try.call25 (fun X=>by kernel_rfl)

def zcz:Shape:=⟨[(.list (.int .i64)),(.int .i64)],[(0,.v 0),(1,.fn 19 [.addr 1])],[]⟩
def zcy:Shape:=⟨[.bool],[(0,.v 0)],[]⟩
def zcY:CE:=⟨15,zcz,zcy,fun X=>zce X.1 X.2⟩
theorem zf6:CE.ok Try.prog zcY:=CE.of (Γ:=[zd2]) (by kernel_rfl) zbL (GOK.cons zhK (GOK.nil)) ⟨[],[],[],[]⟩ Try.func15 rfl Try.ntmps15 (rs:=[.tmp 4]) rfl (sig:=zcz) (out:=zcy) rfl Try.call15 (fun X=>by kernel_rfl)

def zg5:Shape:=⟨[(.list (.int .i64)),(.int .i64)],[(0,.v 0),(1,.ptr 100000 0)],[(100000,.box 49 [.fn 19 [.addr 1]])]⟩
def zg4:Shape:=⟨[.bool,(.int .i64)],[(0,.v 0)],[(100000,.box 49 [.fn 19 [.addr 1]])]⟩
def zif:CE:=⟨20,zg5,zg4,fun X=>zgl X.1 X.2⟩
theorem zmg:CE.ok Try.prog zif:=CE.of (Γ:=[zcY]) (by kernel_rfl) zbL (GOK.cons zf6 (GOK.nil)) ⟨[],[],[],[]⟩ Try.func20 rfl Try.ntmps20 (rs:=[.tmp 3]) rfl (sig:=zg5) (out:=zg4) rfl Try.call20 (fun X=>by kernel_rfl)

def zdx:Shape:=⟨[(.list (.list (.int .i64))),(.int .i64)],[(0,.v 0),(1,.fn 20 [.ptr 100000 0])],[(100000,.box 49 [.fn 19 [.addr 1]])]⟩
def zdw:Shape:=⟨[(.int .i64),(.int .i64)],[(0,.v 0)],[(100000,.box 49 [.fn 19 [.addr 1]])]⟩
def zd1:CE:=⟨26,zdx,zdw,fun X=>zft X.1 X.2⟩
theorem zhJ:CE.ok Try.prog zd1:=CE.of (Γ:=[zif]) (by kernel_rfl) zbL (GOK.cons zmg (GOK.nil)) ⟨[(2,⟨⟨[(.int .i64),(.int .i64)],[(1,.fn 20 [.ptr 100000 0]),(8,.v 0)],[(100000,.box 49 [.fn 19 [.addr 1]])]⟩,[4,5,9,10,11,12,13,14,15,16,17,18],[],[],0,[]⟩)],[],[],[]⟩ Try.func26 rfl Try.ntmps26 (rs:=[.tmp 4]) rfl (sig:=zdx) (out:=zdw) rfl Try.call26 (fun X=>by kernel_rfl)

def zcx:Shape:=⟨[(.list (.list (.int .i64))),(.int .i64)],[(0,.v 0),(1,.fn 20 [.ptr 100000 0])],[(100000,.box 49 [.fn 19 [.addr 1]])]⟩
def zcw:Shape:=⟨[.bool,(.int .i64)],[(0,.v 0)],[(100000,.box 49 [.fn 19 [.addr 1]])]⟩
def zcX:CE:=⟨17,zcx,zcw,fun X=>zcd X.1 X.2⟩
theorem zf5:CE.ok Try.prog zcX:=CE.of (Γ:=[zd1]) (by kernel_rfl) zbL (GOK.cons zhJ (GOK.nil)) ⟨[],[],[],[]⟩ Try.func17 rfl Try.ntmps17 (rs:=[.tmp 4]) rfl (sig:=zcx) (out:=zcw) rfl Try.call17 (fun X=>by kernel_rfl)

def zg7:Shape:=⟨[(.int .i64)],[(0,.v 0)],[]⟩
def zg6:Shape:=⟨[.bool],[(0,.v 0)],[]⟩
def zig:CE:=⟨21,zg7,zg6,fun X=>zeC X⟩
theorem zmh:CE.ok Try.prog zig:=CE.of (Γ:=[]) (by kernel_rfl) zbL (GOK.nil) ⟨[],[],[],[]⟩ Try.func21 rfl Try.ntmps21 (rs:=[.tmp 2]) rfl (sig:=zg7) (out:=zg6) rfl Try.call21 (fun X=>by kernel_rfl)

def zdB:Shape:=⟨[(.list (.int .i64))],[(0,.v 0),(1,.fn 21 [])],[]⟩
def zdA:Shape:=⟨[(.int .i64)],[(0,.v 0)],[]⟩
def zd3:CE:=⟨25,zdB,zdA,fun X=>zfv X⟩
theorem zhL:CE.ok Try.prog zd3:=CE.of (Γ:=[zig]) (by kernel_rfl) zbL (GOK.cons zmh (GOK.nil)) ⟨[(2,⟨⟨[(.int .i64)],[(8,.v 0)],[]⟩,[4,5,9,10,11,12,13,14,15,16,17,18],[],[],0,[]⟩)],[],[],[]⟩ Try.func25 rfl Try.ntmps25 (rs:=[.tmp 4]) rfl (sig:=zdB) (out:=zdA) rfl Try.call25 (fun X=>by kernel_rfl)

def zcB:Shape:=⟨[(.list (.int .i64))],[(0,.v 0),(1,.fn 21 [])],[]⟩
def zcA:Shape:=⟨[.bool],[(0,.v 0)],[]⟩
def zcZ:CE:=⟨15,zcB,zcA,fun X=>zcf X⟩
theorem zf7:CE.ok Try.prog zcZ:=CE.of (Γ:=[zd3]) (by kernel_rfl) zbL (GOK.cons zhL (GOK.nil)) ⟨[],[],[],[]⟩ Try.func15 rfl Try.ntmps15 (rs:=[.tmp 4]) rfl (sig:=zcB) (out:=zcA) rfl Try.call15 (fun X=>by kernel_rfl)

def zi2:Shape:=⟨[(.pair (.int .i64) (.pair (.int .i64) (.pair (.list (.list (.int .i64))) Tc6)))],[(0,.v 0)],[]⟩
def zi1:Shape:=⟨[(.int .i64)],[(0,.v 0)],[]⟩
def zkr:CE:=⟨10,zi2,zi1,fun X=>zgZ X⟩
theorem znR:CE.ok Try.prog zkr:=CE.of (Γ:=[zcW,zfx,zcX,zcZ]) (by kernel_rfl) zbL (GOK.cons zf4 (GOK.cons zie (GOK.cons zf5 (GOK.cons zf7 (GOK.nil))))) ⟨[],[],[],[]⟩ Try.func10 rfl Try.ntmps10 (rs:=[.tmp 2]) rfl (sig:=zi2) (out:=zi1) rfl Try.call10 (fun X=>by kernel_rfl)

def zgI:Shape:=⟨[(.list (.int .i64))],[(0,.v 0)],[]⟩
def zgH:Shape:=⟨[(.list (.int .i64))],[(0,.own 0)],[(0,.arr 3 0)]⟩
def ze2:CE:=⟨29,zgI,zgH,fun X=>zbh X⟩
theorem zhE:CE.ok Try.prog ze2:=CE.of (Γ:=[]) (by kernel_rfl) zbL (GOK.nil) ⟨[],[],[],[]⟩ Try.func29 rfl Try.ntmps29 (rs:=[.tmp 2]) rfl (sig:=zgI) (out:=zgH) rfl Try.call29 (fun X=>by kernel_rfl)

def ziZ:Shape:=⟨[(.int .i64)],[(0,.v 0)],[]⟩
def ziY:Shape:=⟨[.bool],[(0,.v 0)],[]⟩
def zkq:CE:=⟨34,ziZ,ziY,fun X=>ziX X⟩
theorem znQ:CE.ok Try.prog zkq:=CE.of (Γ:=[]) (by kernel_rfl) zbL (GOK.nil) ⟨[],[],[],[]⟩ Try.func34 rfl Try.ntmps34 (rs:=[.tmp 2]) rfl (sig:=ziZ) (out:=ziY) rfl Try.call34 (fun X=>by kernel_rfl)

def zgY:Shape:=⟨[(.int .i64),(.int .i64)],[(0,.v 0),(1,.v 1)],[]⟩
def zgX:Shape:=⟨[(.int .i64)],[(0,.v 0)],[]⟩
def zic:CE:=⟨32,zgY,zgX,fun X=>zgj X.1 X.2⟩
theorem zme:CE.ok Try.prog zic:=CE.of (Γ:=[zkq]) (by kernel_rfl) zbL (GOK.cons znQ (GOK.nil)) ⟨[],[],[],[]⟩ Try.func32 rfl Try.ntmps32 (rs:=[.tmp 4]) rfl (sig:=zgY) (out:=zgX) rfl Try.call32 (fun X=>by kernel_rfl)

def zfq:Shape:=⟨[(.list (.int .i64)),(.list (.int .i64))],[(0,.v 0),(1,.v 1)],[]⟩
def zfp:Shape:=⟨[(.int .i64)],[(0,.v 0)],[]⟩
def zf1:CE:=⟨30,zfq,zfp,fun X=>zfD X.1 X.2⟩
theorem zkg:CE.ok Try.prog zf1:=CE.of (Γ:=[zic]) (by kernel_rfl) zbL (GOK.cons zme (GOK.nil)) ⟨[(2,⟨⟨[(.int .i64)],[(11,.v 0)],[]⟩,[4,5,6,7,8,12,13,14,15,16,17,18,19,20,21,22,23,24,25,26,27,28,29,30],[],[],0,[]⟩)],[],[],[]⟩ Try.func30 rfl Try.ntmps30 (rs:=[.tmp 4]) rfl (sig:=zfq) (out:=zfp) rfl Try.call30 (fun X=>by kernel_rfl)

def zhf:Shape:=⟨[(.list (.int .i64)),(.list (.int .i64))],[(0,.v 0),(1,.v 1)],[]⟩
def zhe:Shape:=⟨[.bool],[(0,.v 0)],[]⟩
def zfz:CE:=⟨23,zhf,zhe,fun X=>zeF X.1 X.2⟩
theorem zik:CE.ok Try.prog zfz:=CE.of (Γ:=[zf1]) (by kernel_rfl) zbL (GOK.cons zkg (GOK.nil)) ⟨[],[],[],[]⟩ Try.func23 rfl Try.ntmps23 (rs:=[.tmp 4]) rfl (sig:=zhf) (out:=zhe) rfl Try.call23 (fun X=>by kernel_rfl)

def zdl:Shape:=⟨[(.int .i64),(.list (.int .i64)),.bool,Tc4,(.int .i64),.bool,(.int .i64),(.int .i64),Tc3,(.int .i64),(.int .i64),(.list (.list (.int .i64))),(.list (.int .i64)),Tc1,(.list (.list (.int .i64))),Tc1,(.list (.int .i64))],[(0,.v 0),(1,.v 1),(2,.v 2),(3,.addr 3),(4,.addr 4),(5,.ptr 100000 0),(6,.ptr 100001 0)],[(100000,.box 52 [.ptr 100002 0]),(100001,.box 4 [.v 5]),(100002,.box 56 [.v 6,.v 7,.v 8,.v 9,.v 10,.v 11,.v 12,.own 100003,.own 100004]),(100003,.box 53 [.v 13,.v 14]),(100004,.box 54 [.v 15,.v 16])]⟩
def zdk:Shape:=⟨[.bool,(.int .i64),(.int .i64),Tc3,(.int .i64),(.int .i64),(.list (.list (.int .i64))),(.list (.int .i64)),Tc1,(.list (.list (.int .i64))),Tc1,(.list (.int .i64))],[],[(100000,.box 52 [.ptr 100002 0]),(100001,.box 4 [.v 0]),(100002,.box 56 [.v 1,.v 2,.v 3,.v 4,.v 5,.v 6,.v 7,.own 100003,.own 100004]),(100003,.box 53 [.v 8,.v 9]),(100004,.box 54 [.v 10,.v 11])]⟩
def zdO:CE:=⟨28,zdl,zdk,fun X=>zb5 X.1 X.2.1 X.2.2.1 X.2.2.2.1 X.2.2.2.2.1 X.2.2.2.2.2.1 X.2.2.2.2.2.2.1 X.2.2.2.2.2.2.2.1 X.2.2.2.2.2.2.2.2.1 X.2.2.2.2.2.2.2.2.2.1 X.2.2.2.2.2.2.2.2.2.2.1 X.2.2.2.2.2.2.2.2.2.2.2.1 X.2.2.2.2.2.2.2.2.2.2.2.2.1 X.2.2.2.2.2.2.2.2.2.2.2.2.2.1 X.2.2.2.2.2.2.2.2.2.2.2.2.2.2.1 X.2.2.2.2.2.2.2.2.2.2.2.2.2.2.2.1 X.2.2.2.2.2.2.2.2.2.2.2.2.2.2.2.2⟩
theorem zhg:CE.ok Try.prog zdO:=CE.of (Γ:=[ze2,zfz]) (by kernel_rfl) zbL (GOK.cons zhE (GOK.cons zik (GOK.nil))) ⟨[],[(2,⟨⟨[.bool,(.int .i64),(.int .i64),Tc3,(.int .i64),(.int .i64),(.list (.list (.int .i64))),(.list (.int .i64)),Tc1,(.list (.list (.int .i64))),Tc1,(.list (.int .i64))],[(6,.ptr 100001 0),(18,.ptr 100002 0)],[(100001,.box 4 [.v 0]),(100002,.box 56 [.v 1,.v 2,.v 3,.v 4,.v 5,.v 6,.v 7,.own 100003,.own 100004]),(100003,.box 53 [.v 8,.v 9]),(100004,.box 54 [.v 10,.v 11])]⟩,[19,20,21,22,23,24,25,26,27,28,29,30,31],[],[0],1,[]⟩),(4,⟨⟨[.bool],[(50,.v 0)],[]⟩,[41,42,43,44,45,46,47,48,49],[],[0],1,[]⟩)],[(1,[(0,0),(0,1),(0,2),(0,3),(0,4),(0,5),(0,6)]),(2,[(0,0),(0,1),(0,2),(0,3),(0,4),(2,5),(0,6),(2,7),(2,8)]),(3,[(0,0),(0,1),(0,2),(0,3),(0,4),(0,5),(0,6),(0,7),(0,8),(0,9),(0,10)]),(5,[(0,0),(0,1),(0,2),(0,3),(0,4),(0,5),(1,6),(2,7),(0,8),(2,9),(2,10)])],[]⟩ Try.func28 rfl Try.ntmps28 (rs:=[]) rfl (sig:=zdl) (out:=zdk) rfl Try.call28 (fun X=>by kernel_rfl)

def zhH:Shape:=⟨[(.int .i64)],[(0,.nil),(1,.v 0)],[]⟩
def zhG:Shape:=⟨[(.list (.int .i64))],[(0,.own 0)],[(0,.arr 3 0)]⟩
def ziz:CE:=⟨33,zhH,zhG,fun X=>zgx X⟩
theorem zmr:CE.ok Try.prog ziz:=CE.of (Γ:=[]) (by kernel_rfl) zbL (GOK.nil) ⟨[],[],[(5,[(0,0),(0,1),(0,2),(0,3),(0,4),(2,5),(0,6),(0,7),(1,8),(0,9)])],[]⟩ Try.func33 rfl Try.ntmps33 (rs:=[.tmp 4]) rfl (sig:=zhH) (out:=zhG) rfl Try.call33 (fun X=>by kernel_rfl)

def zf3:Shape:=⟨[(.list (.list (.int .i64)))],[(0,.v 0)],[]⟩
def zf2:Shape:=⟨[(.list (.int .i64))],[(0,.own 0)],[(0,.arr 3 0)]⟩
def zgJ:CE:=⟨31,zf3,zf2,fun X=>zet X⟩
theorem zkZ:CE.ok Try.prog zgJ:=CE.of (Γ:=[ziz]) (by kernel_rfl) zbL (GOK.cons zmr (GOK.nil)) ⟨[(3,⟨⟨[(.int .i64),(.int .i64)],[(3,.v 0),(11,.v 1)],[]⟩,[5,12,13,14,15,16,17,18,19,20,21,22],[],[],0,[]⟩),(11,⟨⟨[(.int .i64),(.list (.int .i64))],[(6,.own 0),(27,.v 0)],[(0,.arr 3 1)]⟩,[8,24,28,29,30,31,32,33,34],[],[],1,[]⟩)],[],[],[]⟩ Try.func31 rfl Try.ntmps31 (rs:=[.tmp 2]) rfl (sig:=zf3) (out:=zf2) rfl Try.call31 (fun X=>by kernel_rfl)

def zeh:Shape:=⟨[(.list (.int .i64)),(.int .i64),(.list (.int .i64)),.bool,Tc4,(.int .i64),(.int .i64),(.int .i64),Tc3,(.int .i64),(.int .i64),(.list (.list (.int .i64))),(.list (.int .i64)),.bool,Tc1,(.list (.list (.int .i64))),Tc1,(.list (.int .i64))],[(0,.ptr 100000 0),(1,.v 0),(2,.v 1),(3,.v 2),(4,.v 3),(5,.fn 28 [.addr 4,.addr 5,.ptr 100001 0,.ptr 100002 0])],[(100000,.box 56 [.v 6,.v 7,.v 8,.v 9,.v 10,.v 11,.v 12,.own 100003,.own 100004]),(100001,.box 52 [.ptr 100000 0]),(100002,.box 4 [.v 13]),(100003,.box 53 [.v 14,.v 15]),(100004,.box 54 [.v 16,.v 17])]⟩
def zeg:Shape:=⟨[(.int .i64),(.int .i64),Tc3,(.int .i64),(.int .i64),(.list (.list (.int .i64))),(.list (.int .i64)),.bool,Tc1,(.list (.list (.int .i64))),Tc1,(.list (.int .i64))],[],[(100000,.box 56 [.v 0,.v 1,.v 2,.v 3,.v 4,.v 5,.v 6,.own 100003,.own 100004]),(100001,.box 52 [.ptr 100000 0]),(100002,.box 4 [.v 7]),(100003,.box 53 [.v 8,.v 9]),(100004,.box 54 [.v 10,.v 11])]⟩
def zeH:CE:=⟨27,zeh,zeg,LFix zb6⟩
theorem ziM:CE.ok Try.prog zeH:=CE.ofRec (Γ:=[zdO,ze2,zgJ]) (by kernel_rfl) zbL (GOK.cons zhg (GOK.cons zhE (GOK.cons zkZ (GOK.nil)))) ⟨[(6,⟨⟨[Tc4,(.int .i64),(.int .i64),(.int .i64),(.int .i64),Tc3,(.int .i64),(.int .i64),(.list (.list (.int .i64))),(.list (.int .i64)),.bool,Tc1,(.list (.list (.int .i64))),Tc1,(.list (.int .i64))],[(0,.ptr 100000 0),(5,.fn 28 [.addr 0,.addr 1,.ptr 100001 0,.ptr 100002 0]),(70,.v 2)],[(100000,.box 56 [.v 3,.v 4,.v 5,.v 6,.v 7,.v 8,.v 9,.own 100003,.own 100004]),(100001,.box 52 [.ptr 100000 0]),(100002,.box 4 [.v 10]),(100003,.box 53 [.v 11,.v 12]),(100004,.box 54 [.v 13,.v 14])]⟩,[13,14,15,16,17,18,71,72,73,74,75,76,77,78,79,80,81,82,83,84,85,86,87,88,89,90,91,92,93,94,95,96,97,98,99,100,101,102,103,104,105,106,107,108,109,110,111,112,113,114,115,116,117,118,119,120,121,122,123,124,125,126],[],[],0,[]⟩)],[(4,⟨⟨[],[],[]⟩,[12,27,28,29,30,31,32,33,34,35,36,37,38,39,40,41,42,43,44,45,46,47,48,49,50,51,52,53,54,55,56,57,58,59,60,61,62,63],[],[],0,[]⟩),(11,⟨⟨[.bool],[(17,.v 0)],[]⟩,[101,102,103,104,105,106,107,108,109,110,111,112],[],[0],1,[]⟩),(14,⟨⟨[(.list (.int .i64))],[(18,.own 1)],[(1,.arr 3 0)]⟩,[113,114,115,116,117],[],[0],2,[]⟩)],[(8,[(0,0),(0,1),(0,2),(0,3),(0,4),(0,5),(0,6),(0,7),(0,8),(0,9),(0,10),(0,11),(1,12),(2,13)]),(9,[(0,0),(0,1),(0,2),(0,3),(0,4),(0,5),(0,6)]),(10,[(0,0),(0,1),(0,2),(0,3),(0,4),(0,5),(0,6),(0,7),(0,8),(0,9),(0,10)])],[(4,(.pnd (.one 0 (.one 1 (.one 2 (.one 3 (.one 4 (.one 5 (.one 6 (.one 8 (.one 11 (.one 14 (.one 16 (.one 19 (.one 25 (.alt 0 7 (.one 9 (.rd 2 10 [12,13,26] (.one 12 (.rd 2 13 [26] (.alt 1 15 (.alt 1 17 (.alt 2 18 (.one 20 (.one 21 (.rd 0 22 [23,24,26] (.one 23 (.one 24 (.alt 2 26 .leaf .stop)))))) .stop) .stop) (.alt 1 17 (.alt 1 15 (.alt 2 18 (.one 20 (.one 21 (.rd 0 22 [23,24,26] (.one 23 (.one 24 (.alt 2 26 .leaf .stop)))))) .stop) .stop) .stop)))))) (.alt 1 15 (.alt 0 7 (.one 9 (.rd 2 10 [12,13,26] (.one 12 (.rd 2 13 [26] (.alt 1 17 (.alt 2 18 (.one 20 (.one 21 (.rd 0 22 [23,24,26] (.one 23 (.one 24 (.alt 2 26 .leaf .stop)))))) .stop) .stop))))) (.alt 1 17 (.alt 0 7 (.one 9 (.rd 2 10 [12,13,26] (.one 12 (.rd 2 13 [26] (.alt 2 18 (.one 20 (.one 21 (.rd 0 22 [23,24,26] (.one 23 (.one 24 (.alt 2 26 .leaf .stop)))))) .stop))))) (.alt 2 18 (.one 20 (.one 21 (.rd 0 7 [9,10,12,13,26] (.one 9 (.rd 2 10 [12,13,26] (.one 12 (.rd 2 13 [26] (.rd 0 22 [23,24,26] (.one 23 (.one 24 (.alt 2 26 .leaf .stop))))))))))) .stop)) .stop)) (.alt 1 17 (.alt 0 7 (.one 9 (.rd 2 10 [12,13,26] (.one 12 (.rd 2 13 [26] (.alt 1 15 (.alt 2 18 (.one 20 (.one 21 (.rd 0 22 [23,24,26] (.one 23 (.one 24 (.alt 2 26 .leaf .stop)))))) .stop) .stop))))) (.alt 1 15 (.alt 0 7 (.one 9 (.rd 2 10 [12,13,26] (.one 12 (.rd 2 13 [26] (.alt 2 18 (.one 20 (.one 21 (.rd 0 22 [23,24,26] (.one 23 (.one 24 (.alt 2 26 .leaf .stop)))))) .stop))))) (.alt 2 18 (.one 20 (.one 21 (.rd 0 7 [9,10,12,13,26] (.one 9 (.rd 2 10 [12,13,26] (.one 12 (.rd 2 13 [26] (.rd 0 22 [23,24,26] (.one 23 (.one 24 (.alt 2 26 .leaf .stop))))))))))) .stop)) .stop)) .stop))))))))))))))))))]⟩ Try.func27 rfl Try.ntmps27 (rs:=[]) rfl (sig:=zeh) (out:=zeg) rfl Try.call27 (d:=zb6) (fun rc X=>by kernel_rfl)

def zef:Shape:=⟨[(.int .i64),(.int .i64),Tc3,(.int .i64),(.int .i64),(.list (.list (.int .i64))),(.list (.int .i64)),Tc1,(.list (.list (.int .i64))),Tc1,(.list (.int .i64))],[(0,.ptr 100000 0)],[(100000,.box 56 [.v 0,.v 1,.v 2,.v 3,.v 4,.v 5,.v 6,.own 100001,.own 100002]),(100001,.box 53 [.v 7,.v 8]),(100002,.box 54 [.v 9,.v 10])]⟩
def zee:Shape:=⟨[(.int .i64),(.int .i64),Tc3,(.int .i64),(.int .i64),(.list (.list (.int .i64))),(.list (.int .i64)),Tc1,(.list (.list (.int .i64))),Tc1,(.list (.int .i64))],[],[(100000,.box 56 [.v 0,.v 1,.v 2,.v 3,.v 4,.v 5,.v 6,.own 100001,.own 100002]),(100001,.box 53 [.v 7,.v 8]),(100002,.box 54 [.v 9,.v 10])]⟩
def zeG:CE:=⟨22,zef,zee,fun X=>zd9 X.1 X.2.1 X.2.2.1 X.2.2.2.1 X.2.2.2.2.1 X.2.2.2.2.2.1 X.2.2.2.2.2.2.1 X.2.2.2.2.2.2.2.1 X.2.2.2.2.2.2.2.2.1 X.2.2.2.2.2.2.2.2.2.1 X.2.2.2.2.2.2.2.2.2.2⟩
theorem ziK:CE.ok Try.prog zeG:=CE.of (Γ:=[zeH]) (by kernel_rfl) zbL (GOK.cons ziM (GOK.nil)) ⟨[(2,⟨⟨[.bool,(.int .i64),(.int .i64),Tc3,(.int .i64),(.int .i64),(.list (.list (.int .i64))),(.list (.int .i64)),Tc1,(.list (.list (.int .i64))),Tc1,(.list (.int .i64))],[(1,.ptr 0 0),(2,.ptr 1 0)],[(0,.box 52 [.ptr 100000 0]),(1,.box 4 [.v 0]),(100000,.box 56 [.v 1,.v 2,.v 3,.v 4,.v 5,.v 6,.v 7,.own 100001,.own 100002]),(100001,.box 53 [.v 8,.v 9]),(100002,.box 54 [.v 10,.v 11])]⟩,[0,4,5,6,7,8,9,10,11,12,13,14,15,16,17,18,19,20,21,22,23,24,25,26,27,28,29,30,31,32,33,34],[],[],2,[]⟩),(5,⟨⟨[(.int .i64),.bool,(.int .i64),(.int .i64),Tc3,(.int .i64),(.int .i64),(.list (.list (.int .i64))),(.list (.int .i64)),Tc1,(.list (.list (.int .i64))),Tc1,(.list (.int .i64))],[(1,.ptr 0 0),(2,.ptr 1 0),(13,.v 0)],[(0,.box 52 [.ptr 100000 0]),(1,.box 4 [.v 1]),(100000,.box 56 [.v 2,.v 3,.v 4,.v 5,.v 6,.v 7,.v 8,.own 100001,.own 100002]),(100001,.box 53 [.v 9,.v 10]),(100002,.box 54 [.v 11,.v 12])]⟩,[0,4,5,14,15,16,17,18,19,20,21,22,23,24,25,26,27,28,29,30,31,32,33],[],[],2,[]⟩),(8,⟨⟨[Tc4,(.int .i64),.bool,(.int .i64),(.int .i64),Tc3,(.int .i64),(.int .i64),(.list (.list (.int .i64))),(.list (.int .i64)),Tc1,(.list (.list (.int .i64))),Tc1,(.list (.int .i64))],[(1,.ptr 0 0),(2,.ptr 1 0),(4,.addr 0),(23,.v 1)],[(0,.box 52 [.ptr 100000 0]),(1,.box 4 [.v 2]),(100000,.box 56 [.v 3,.v 4,.v 5,.v 6,.v 7,.v 8,.v 9,.own 100001,.own 100002]),(100001,.box 53 [.v 10,.v 11]),(100002,.box 54 [.v 12,.v 13])]⟩,[5,24,25,26,27,28,29,30,31,32],[2],[],3,[(4,999999,none,Tc4)]⟩)],[],[],[]⟩ Try.func22 rfl Try.ntmps22 (rs:=[]) rfl (sig:=zef) (out:=zee) rfl Try.call22 (fun X=>by kernel_rfl)

def zim:Shape:=⟨[(.pair (.int .i64) (.pair (.int .i64) (.pair Tc3 .unit))),(.pair (.int .i64) (.pair (.int .i64) (.pair (.list (.list (.int .i64))) Tc6)))],[(0,.v 0),(1,.v 1)],[]⟩
def zil:Shape:=⟨[(.list (.int .i64)),.bool,(.int .i64)],[(0,.v 0),(1,.v 1),(2,.v 2)],[]⟩
def zjj:CE:=⟨11,zim,zil,fun X=>zhV X.1 X.2⟩
theorem znn:CE.ok Try.prog zjj:=CE.of (Γ:=[zeG,zfz]) (by kernel_rfl) zbL (GOK.cons ziK (GOK.cons zik (GOK.nil))) ⟨[(6,⟨⟨[(.list (.int .i64)),.bool,.bool,(.int .i64)],[(8,.v 0),(9,.v 1),(10,.v 2),(27,.v 3)],[]⟩,[11,12,13,14,15,28,29,30,31,32,33,34,35,36,37,38,39,40,41,42,43,44,45,46,47,48,49,50,51,52,53,54,55,56,57,58,59,60,61,62,63,64,65,66,67],[],[0,1,2,3,4],5,[]⟩)],[],[(9,[(0,0),(0,1),(0,2),(0,3),(0,4),(0,5),(0,6),(0,7),(0,8),(0,9),(0,10)]),(11,[(0,0),(0,1),(0,2),(0,3),(0,4),(0,5),(0,6),(0,7),(0,8),(0,9),(0,10)])],[]⟩ Try.func11 rfl Try.ntmps11 (rs:=[.tmp 4,.tmp 5,.tmp 6]) rfl (sig:=zim) (out:=zil) rfl Try.call11 (fun X=>by kernel_rfl)

def zjf:Shape:=⟨[(.pair (.int .i64) (.pair (.int .i64) (.pair Tc3 .unit))),(.pair (.int .i64) (.pair (.int .i64) (.pair (.list (.list (.int .i64))) Tc6)))],[(0,.v 0),(1,.v 1)],[]⟩
def zje:Shape:=⟨[(.list (.int .i64)),.bool,(.int .i64)],[(0,.v 0),(1,.v 1),(2,.v 2)],[]⟩
def zky:CE:=⟨4,zjf,zje,fun X=>zlC X.1 X.2⟩
theorem zob:CE.ok Try.prog zky:=CE.of (Γ:=[zjh,zkr,zjj]) (by kernel_rfl) zbL (GOK.cons znm (GOK.cons znR (GOK.cons znn (GOK.nil)))) ⟨[],[],[],[]⟩ Try.func4 rfl Try.ntmps4 (rs:=[.tmp 4,.tmp 5,.tmp 6]) rfl (sig:=zjf) (out:=zje) rfl Try.call4 (fun X=>by kernel_rfl)

def zjC:Shape:=⟨[(.pair (.int .i64) (.pair (.int .i64) (.pair Tc3 .unit)))],[(0,.v 0)],[]⟩
def zjB:Shape:=⟨[(.int .i64)],[(0,.v 0)],[]⟩
def zkC:CE:=⟨5,zjC,zjB,fun X=>zjA X⟩
theorem zom:CE.ok Try.prog zkC:=CE.of (Γ:=[]) (by kernel_rfl) zbL (GOK.nil) ⟨[(6,⟨⟨[(.int .i64)],[(3,.v 0)],[]⟩,[2,4,5,28,29,30,31,32,33,34,35,36,37,38,39,40,41,42,43,44,45,46,47,48,49,50,51,52,53,54,55,56,57,58,59,60,61,62,63,64,65,66,67,68,69,70,71,72,73,74,75,76,77,78,79],[],[0],1,[]⟩),(14,⟨⟨[(.int .i64)],[(5,.v 0)],[]⟩,[2,54,55,56,57,58,59,60,61,62,63,64,65,66,67,68,69,70,71,72,73,74,75,76,77,78,79],[],[0,1],2,[]⟩)],[],[(16,[(0,0),(0,1),(0,2),(0,3),(0,4),(0,5),(0,6),(0,7),(0,8),(0,9),(0,10),(0,11),(0,12),(0,13),(0,14),(0,15),(0,16),(0,17),(0,18)])],[]⟩ Try.func5 rfl Try.ntmps5 (rs:=[.tmp 2]) rfl (sig:=zjC) (out:=zjB) rfl Try.call5 (fun X=>by kernel_rfl)

def zkH:Shape:=⟨[(.pair (.int .i64) (.pair (.int .i64) (.pair (.list (.list (.int .i64))) Tc6)))],[(0,.v 0)],[]⟩
def zkG:Shape:=⟨[(.int .i64)],[(0,.v 0)],[]⟩
def zl0:CE:=⟨6,zkH,zkG,fun X=>zjM X⟩
theorem zpc:CE.ok Try.prog zl0:=CE.of (Γ:=[]) (by kernel_rfl) zbL (GOK.nil) ⟨[(9,⟨⟨[(.int .i64)],[(4,.v 0)],[]⟩,[2,30,31,32,33,34,35,36,37,38,39,40,41,42,43],[],[0],1,[]⟩),(16,⟨⟨[(.int .i64)],[(5,.v 0)],[]⟩,[2,6,53,54,55,56,57,58,59,60,61,62,63,64,65,66,67,68,69,70,71,72,73,74,75,76,77,78,79,80,81,82,83,84],[],[0],1,[]⟩),(19,⟨⟨[(.int .i64)],[(6,.v 0)],[]⟩,[2,58,59,60,61,62,63,64,65,66,67,68,69,70,71,72,73,74,75,76,77,78,79,80,81,82,83,84],[],[0],1,[]⟩),(24,⟨⟨[(.int .i64)],[(7,.v 0)],[]⟩,[2,85,86,87,88,89,90,91,92,93,94,95,96,97,98,99,100,101,102,103],[],[0],1,[]⟩)],[],[(11,[(0,0),(0,1),(0,2),(0,3),(0,4),(0,5),(0,6),(0,7),(0,8)])],[]⟩ Try.func6 rfl Try.ntmps6 (rs:=[.tmp 2]) rfl (sig:=zkH) (out:=zkG) rfl Try.call6 (fun X=>by kernel_rfl)

def zfS:Shape:=⟨[(.pair (.pair (.int .i64) (.pair (.int .i64) (.pair Tc3 .unit))) (.pair (.pair (.int .i64) (.pair (.int .i64) (.pair (.list (.list (.int .i64))) Tc6))) (.pair (.list (.pair .bool (.pair .bool Tc6))) (.pair .bool .unit)))),(.int .i64),(.int .i64),(.int .i64)],[(0,.addr 0),(1,.v 1),(2,.v 2),(3,.v 3)],[]⟩
def zfR:Shape:=⟨[(.int .i64)],[(0,.v 0)],[]⟩
def zbs:CE:=⟨13,zfS,zfR,fun X=>zbb X.1 X.2.1 X.2.2.1 X.2.2.2⟩
theorem zb0:CE.ok Try.prog zbs:=CE.of (Γ:=[]) (by kernel_rfl) zbL (GOK.nil) ⟨[],[],[],[]⟩ Try.func13 rfl Try.ntmps13 (rs:=[.tmp 8]) rfl (sig:=zfS) (out:=zfR) rfl Try.call13 (fun X=>by kernel_rfl)

def zjK:Shape:=⟨[(.list (.int .i64)),(.list (.int .i64))],[(0,.v 0),(1,.v 1)],[]⟩
def zjJ:Shape:=⟨[.bool],[(0,.v 0)],[]⟩
def zfm:CE:=⟨14,zjK,zjJ,fun X=>zdY X.1 X.2⟩
theorem zhz:CE.ok Try.prog zfm:=CE.of (Γ:=[]) (by kernel_rfl) zbL (GOK.nil) ⟨[(4,⟨⟨[(.int .i64)],[(5,.v 0)],[]⟩,[4,16,17,18,19,20,21,22,23,24,25,26,27,28,29,30,31,32,33,34,35,36,37,38,39],[],[],0,[]⟩)],[],[(6,[(0,0),(0,1),(0,2),(0,3),(0,4),(0,5),(0,6),(0,7),(0,8)]),(7,[(0,0),(0,1),(0,2),(0,3),(0,4),(0,5),(0,6),(0,7),(0,8),(0,9)])],[]⟩ Try.func14 rfl Try.ntmps14 (rs:=[.tmp 4]) rfl (sig:=zjK) (out:=zjJ) rfl Try.call14 (fun X=>by kernel_rfl)

def zfj:Shape:=⟨[(.int .i64),(.int .i64),(.int .i64),.bool,(.int .i64),(.int .i64),Tc3,(.int .i64),(.int .i64),(.list (.list (.int .i64))),(.list (.int .i64)),.bool,(.list (.pair .bool (.pair .bool Tc6)))],[(0,.ptr 100000 0),(1,.v 0),(2,.v 1),(3,.v 2),(4,.nil),(5,.v 3)],[(100000,.box 43 [.v 4,.v 5,.v 6,.v 7,.v 8,.v 9,.v 10,.own 100001,.v 11]),(100001,.arr 46 12)]⟩
def zfi:Shape:=⟨[(.int .i64),(.int .i64),Tc3,(.int .i64),(.int .i64),(.list (.list (.int .i64))),(.list (.int .i64)),(.list (.pair .bool (.pair .bool Tc6))),.bool],[],[(100000,.box 43 [.v 0,.v 1,.v 2,.v 3,.v 4,.v 5,.v 6,.own 120,.v 8]),(120,.arr 46 7)]⟩
def zfV:CE:=⟨24,zfj,zfi,fun X=>zis X.1 X.2.1 X.2.2.1 X.2.2.2.1 X.2.2.2.2.1 X.2.2.2.2.2.1 X.2.2.2.2.2.2.1 X.2.2.2.2.2.2.2.1 X.2.2.2.2.2.2.2.2.1 X.2.2.2.2.2.2.2.2.2.1 X.2.2.2.2.2.2.2.2.2.2.1 X.2.2.2.2.2.2.2.2.2.2.2.1 X.2.2.2.2.2.2.2.2.2.2.2.2⟩
theorem zka:CE.ok Try.prog zfV:=CE.of (Γ:=[zbs,zfm]) (by kernel_rfl) zbL (GOK.cons zb0 (GOK.cons zhz (GOK.nil))) ⟨[],[(3,⟨⟨[(.int .i64),(.int .i64),Tc3,(.int .i64),(.int .i64),(.list (.list (.int .i64))),(.list (.int .i64)),.bool,(.list (.pair .bool (.pair .bool Tc6)))],[(0,.ptr 100000 0)],[(100000,.box 43 [.v 0,.v 1,.v 2,.v 3,.v 4,.v 5,.v 6,.own 100001,.v 7]),(100001,.arr 46 8)]⟩,[19,20,21,22,23,24,25,26,27,28,29,30,31,32,33,34,35,36,37],[],[],0,[]⟩),(6,⟨⟨[.bool],[(61,.v 0)],[]⟩,[50,51,52,53,54,55,56,57,58,59,60],[],[],0,[]⟩)],[],[]⟩ Try.func24 rfl Try.ntmps24 (rs:=[]) rfl (sig:=zfj) (out:=zfi) rfl Try.call24 (fun X=>by kernel_rfl)

def zej:Shape:=⟨[(.int .i64),(.int .i64),(.int .i64),(.list (.int .i64)),.bool,(.int .i64),(.int .i64),Tc3,(.int .i64),(.int .i64),(.list (.list (.int .i64))),(.list (.int .i64)),.bool,(.list (.pair .bool (.pair .bool Tc6)))],[(0,.ptr 100000 0),(1,.v 0),(2,.v 1),(3,.v 2),(4,.v 3),(5,.v 4)],[(100000,.box 43 [.v 5,.v 6,.v 7,.v 8,.v 9,.v 10,.v 11,.own 100001,.v 12]),(100001,.arr 46 13)]⟩
def zei:Shape:=⟨[(.int .i64),(.int .i64),Tc3,(.int .i64),(.int .i64),(.list (.list (.int .i64))),(.list (.int .i64)),(.list (.pair .bool (.pair .bool Tc6))),.bool],[],[(100000,.box 43 [.v 0,.v 1,.v 2,.v 3,.v 4,.v 5,.v 6,.own 120,.v 8]),(120,.arr 46 7)]⟩
def zeP:CE:=⟨24,zej,zei,fun X=>zcG X.1 X.2.1 X.2.2.1 X.2.2.2.1 X.2.2.2.2.1 X.2.2.2.2.2.1 X.2.2.2.2.2.2.1 X.2.2.2.2.2.2.2.1 X.2.2.2.2.2.2.2.2.1 X.2.2.2.2.2.2.2.2.2.1 X.2.2.2.2.2.2.2.2.2.2.1 X.2.2.2.2.2.2.2.2.2.2.2.1 X.2.2.2.2.2.2.2.2.2.2.2.2.1 X.2.2.2.2.2.2.2.2.2.2.2.2.2⟩
theorem ziP:CE.ok Try.prog zeP:=CE.of (Γ:=[zbs,zfm]) (by kernel_rfl) zbL (GOK.cons zb0 (GOK.cons zhz (GOK.nil))) ⟨[],[(3,⟨⟨[(.int .i64),(.int .i64),Tc3,(.int .i64),(.int .i64),(.list (.list (.int .i64))),(.list (.int .i64)),.bool,(.list (.pair .bool (.pair .bool Tc6)))],[(0,.ptr 100000 0)],[(100000,.box 43 [.v 0,.v 1,.v 2,.v 3,.v 4,.v 5,.v 6,.own 100001,.v 7]),(100001,.arr 46 8)]⟩,[19,20,21,22,23,24,25,26,27,28,29,30,31,32,33,34,35,36,37],[],[],0,[]⟩),(6,⟨⟨[.bool],[(61,.v 0)],[]⟩,[50,51,52,53,54,55,56,57,58,59,60],[],[],0,[]⟩)],[],[]⟩ Try.func24 rfl Try.ntmps24 (rs:=[]) rfl (sig:=zej) (out:=zei) rfl Try.call24 (fun X=>by kernel_rfl)

def zdX:Shape:=⟨[(.int .i64),(.int .i64),(.list (.int .i64)),(.int .i64),(.list (.int .i64)),.bool,(.int .i64),(.int .i64),Tc3,(.int .i64),(.int .i64),(.list (.list (.int .i64))),(.list (.int .i64)),.bool,(.list (.pair .bool (.pair .bool Tc6)))],[(0,.ptr 100000 0),(1,.v 0),(2,.v 1),(3,.v 2),(4,.v 3),(5,.v 4),(6,.v 5)],[(100000,.box 43 [.v 6,.v 7,.v 8,.v 9,.v 10,.v 11,.v 12,.own 100001,.v 13]),(100001,.arr 46 14)]⟩
def zdW:Shape:=⟨[(.int .i64),(.int .i64),Tc3,(.int .i64),(.int .i64),(.list (.list (.int .i64))),(.list (.int .i64)),(.list (.pair .bool (.pair .bool Tc6))),.bool],[],[(100000,.box 43 [.v 0,.v 1,.v 2,.v 3,.v 4,.v 5,.v 6,.own 120,.v 8]),(120,.arr 46 7)]⟩
def zek:CE:=⟨12,zdX,zdW,LFix zbU⟩
theorem zh6:CE.ok Try.prog zek:=CE.ofRec (Γ:=[zeP,zbs]) (by kernel_rfl) zbL (GOK.cons ziP (GOK.cons zb0 (GOK.nil))) ⟨[(7,⟨⟨[(.int .i64),(.int .i64),(.int .i64),Tc3,(.int .i64),(.int .i64),(.list (.list (.int .i64))),(.list (.int .i64)),.bool,(.list (.pair .bool (.pair .bool Tc6)))],[(0,.ptr 100000 0),(15,.v 0)],[(100000,.box 43 [.v 1,.v 2,.v 3,.v 4,.v 5,.v 6,.v 7,.own 0,.v 8]),(0,.arr 46 9)]⟩,[16,17,18,73,74,75,76,77,78,79,80,81,82,83,84,85,86,87,88,89,90,91,92,93,94,95,96,97,98,99,100,101,102,103,104,105,106,107,108,109,110,111,112,113,114,115,116,117,118,119,120,121,122,123,124,125,126,127,128,129,130,131,132,133,134,135,136,137,138,139,140,141,142,143,144,145,146,147,148,149,150,151,152,153],[100001],[],1,[]⟩)],[(11,⟨⟨[.bool],[(17,.v 0)],[]⟩,[105,106,107,108,109,110,111,112,113,114,115,116,117,118,119,120,121,122,123,124,125,126,127,128,129,130],[],[0],1,[]⟩),(15,⟨⟨[(.list (.int .i64))],[(18,.own 1)],[(1,.arr 3 0)]⟩,[131,132,133,134,135,136,137,138,139,140,141,142,143,144],[],[0],2,[]⟩)],[(2,[(0,0),(0,1),(0,2),(0,3),(0,4),(0,5),(0,6),(0,7),(0,8)]),(5,[(0,0),(0,1),(0,2),(0,3),(0,4),(0,5),(0,6),(0,7),(0,8),(0,9),(0,10),(0,11),(0,12),(0,13),(0,14),(0,15),(0,16),(0,17),(0,18),(0,19),(0,20),(0,21),(0,22),(0,23),(0,24),(2,25)]),(9,[(0,0),(0,1),(0,2),(0,3),(0,4),(0,5),(0,6),(0,7),(0,8),(0,9),(0,10),(0,11),(1,12),(0,13)])],[]⟩ Try.func12 rfl Try.ntmps12 (rs:=[]) rfl (sig:=zdX) (out:=zdW) rfl Try.call12 (d:=zbU) (fun rc X=>by kernel_rfl)

def zeT:Shape:=⟨[(.int .i64),(.int .i64),(.list (.int .i64)),(.int .i64),.bool,(.int .i64),(.int .i64),Tc3,(.int .i64),(.int .i64),(.list (.list (.int .i64))),(.list (.int .i64)),.bool,(.list (.pair .bool (.pair .bool Tc6)))],[(0,.ptr 100000 0),(1,.v 0),(2,.v 1),(3,.v 2),(4,.v 3),(5,.nil),(6,.v 4)],[(100000,.box 43 [.v 5,.v 6,.v 7,.v 8,.v 9,.v 10,.v 11,.own 100001,.v 12]),(100001,.arr 46 13)]⟩
def zeS:Shape:=⟨[(.int .i64),(.int .i64),Tc3,(.int .i64),(.int .i64),(.list (.list (.int .i64))),(.list (.int .i64)),(.list (.pair .bool (.pair .bool Tc6))),.bool],[],[(100000,.box 43 [.v 0,.v 1,.v 2,.v 3,.v 4,.v 5,.v 6,.own 120,.v 8]),(120,.arr 46 7)]⟩
def zfk:CE:=⟨12,zeT,zeS,fun X=>zeQ X.1 X.2.1 X.2.2.1 X.2.2.2.1 X.2.2.2.2.1 X.2.2.2.2.2.1 X.2.2.2.2.2.2.1 X.2.2.2.2.2.2.2.1 X.2.2.2.2.2.2.2.2.1 X.2.2.2.2.2.2.2.2.2.1 X.2.2.2.2.2.2.2.2.2.2.1 X.2.2.2.2.2.2.2.2.2.2.2.1 X.2.2.2.2.2.2.2.2.2.2.2.2.1 X.2.2.2.2.2.2.2.2.2.2.2.2.2⟩
theorem zjI:CE.ok Try.prog zfk:=CE.of (Γ:=[zfV,zek,zbs]) (by kernel_rfl) zbL (GOK.cons zka (GOK.cons zh6 (GOK.cons zb0 (GOK.nil)))) ⟨[(7,⟨⟨[(.int .i64),(.int .i64),(.int .i64),Tc3,(.int .i64),(.int .i64),(.list (.list (.int .i64))),(.list (.int .i64)),.bool,(.list (.pair .bool (.pair .bool Tc6)))],[(0,.ptr 100000 0),(15,.v 0)],[(100000,.box 43 [.v 1,.v 2,.v 3,.v 4,.v 5,.v 6,.v 7,.own 0,.v 8]),(0,.arr 46 9)]⟩,[16,17,18,73,74,75,76,77,78,79,80,81,82,83,84,85,86,87,88,89,90,91,92,93,94,95,96,97,98,99,100,101,102,103,104,105,106,107,108,109,110,111,112,113,114,115,116,117,118,119,120,121,122,123,124,125,126,127,128,129,130,131,132,133,134,135,136,137,138,139,140,141,142,143,144,145,146,147,148,149,150,151,152,153],[100001],[],1,[]⟩)],[(11,⟨⟨[.bool],[(17,.v 0)],[]⟩,[105,106,107,108,109,110,111,112,113,114,115,116,117,118,119,120,121,122,123,124,125,126,127,128,129,130],[],[0],1,[]⟩),(15,⟨⟨[(.list (.int .i64))],[(18,.own 1)],[(1,.arr 3 0)]⟩,[131,132,133,134,135,136,137,138,139,140,141,142,143,144],[],[0],2,[]⟩)],[(2,[(0,0),(0,1),(0,2),(0,3),(0,4),(0,5),(0,6),(0,7),(0,8)]),(5,[(0,0),(0,1),(0,2),(0,3),(0,4),(0,5),(0,6),(0,7),(0,8),(0,9),(0,10),(0,11),(0,12),(0,13),(0,14),(0,15),(0,16),(0,17),(0,18),(0,19),(0,20),(0,21),(0,22),(0,23),(0,24),(2,25)]),(9,[(0,0),(0,1),(0,2),(0,3),(0,4),(0,5),(0,6),(0,7),(0,8),(0,9),(0,10),(0,11),(1,12),(0,13)])],[]⟩ Try.func12 rfl Try.ntmps12 (rs:=[]) rfl (sig:=zeT) (out:=zeS) rfl Try.call12 (fun X=>by kernel_rfl)

def zjG:Shape:=⟨[(.pair (.int .i64) (.pair (.int .i64) (.pair Tc3 .unit))),(.pair (.int .i64) (.pair (.int .i64) (.pair (.list (.list (.int .i64))) Tc6)))],[(0,.v 0),(1,.v 1)],[]⟩
def zjF:Shape:=⟨[(.list (.int .i64)),.bool,.bool],[(0,.v 0),(1,.v 1),(2,.v 2)],[]⟩
def zkD:CE:=⟨7,zjG,zjF,fun X=>zjD X.1 X.2⟩
theorem zon:CE.ok Try.prog zkD:=CE.of (Γ:=[zfk,zbs,zfm]) (by kernel_rfl) zbL (GOK.cons zjI (GOK.cons zb0 (GOK.cons zhz (GOK.nil)))) ⟨[(3,⟨⟨[(.int .i64),(.int .i64),Tc3,(.int .i64),(.int .i64),(.list (.list (.int .i64))),(.list (.int .i64)),.bool,(.list (.pair .bool (.pair .bool Tc6)))],[(8,.ptr 3 0)],[(3,.box 43 [.v 0,.v 1,.v 2,.v 3,.v 4,.v 5,.v 6,.own 2,.v 7]),(2,.arr 46 8)]⟩,[9,10,28,29,30,31,32,33,34,35,36,37,38,39,40,41,42,43,44,45,46,47,48,49,50,51,52,53,54,55,56,57,58,59,60,61,62,63,64,65],[],[0,1],4,[]⟩),(6,⟨⟨[(.int .i64),(.int .i64),(.int .i64),Tc3,(.int .i64),(.int .i64),(.list (.list (.int .i64))),(.list (.int .i64)),.bool,(.list (.pair .bool (.pair .bool Tc6)))],[(8,.ptr 3 0),(9,.v 0)],[(3,.box 43 [.v 1,.v 2,.v 3,.v 4,.v 5,.v 6,.v 7,.own 2,.v 8]),(2,.arr 46 9)]⟩,[10,28,29,30,31,32,33,35,36,37,38,39,40,41,42,43,44,45,46,47,48,49,50,51,52,53,54,55,56,57,58,59,60,61,62,63,64,65],[],[0,1],4,[]⟩),(9,⟨⟨[(.int .i64),(.int .i64),(.int .i64),Tc3,(.int .i64),(.int .i64),(.list (.list (.int .i64))),(.list (.int .i64)),.bool,(.list (.pair .bool (.pair .bool Tc6)))],[(8,.ptr 3 0),(10,.v 0)],[(3,.box 43 [.v 1,.v 2,.v 3,.v 4,.v 5,.v 6,.v 7,.own 2,.v 8]),(2,.arr 46 9)]⟩,[45,46,47,48,49,50,51,52,53,54,55,56,57,58,59,60,61,62,63,64,65],[],[0,1],4,[]⟩),(16,⟨⟨[(.list (.int .i64)),.bool,.bool,(.int .i64)],[(11,.v 0),(12,.v 1),(13,.v 2),(14,.v 3)],[]⟩,[15,16,66,67,68,69,70,71,72,73,74,75,76,77,78,79,80,81,82,83,84,85,86,87,88,89,90,91,92,93,94,95,96,97,98,99,100,101,102,103,104,105,106,107],[],[0,1,2,3],4,[]⟩)],[(18,⟨⟨[.bool,.bool,(.list (.int .i64))],[(15,.ptr 4 0)],[(4,.box 46 [.v 0,.v 1,.v 2])]⟩,[71,72,73,74,75,76,77,78,79,80,81],[],[0,1,2,3],5,[]⟩)],[(2,[(0,0),(0,1),(0,2),(0,3),(0,4),(0,5),(0,6),(0,7),(1,8),(1,9),(1,10),(0,11)]),(11,[(0,0),(0,1),(0,2),(0,3),(0,4),(0,5),(0,6),(0,7),(0,8),(0,9),(0,10),(0,11),(0,12),(0,13),(0,14),(2,15)])],[(18,(.one 0 (.one 1 (.one 2 (.one 4 (.one 5 (.one 7 (.live [12] (.rd 3 [9,10,12] (.rd 6 [8,9,10,12] (.alt 1 8 (.one 9 (.rd 10 [12] (.alt 1 11 (.alt 2 12 (.leaf []) .stop) .stop))) (.alt 1 11 (.alt 1 8 (.one 9 (.rd 10 [12] (.alt 2 12 (.leaf []) .stop))) .stop) .stop))))))))))))]⟩ Try.func7 rfl Try.ntmps7 (rs:=[.tmp 4,.tmp 5,.tmp 6]) rfl (sig:=zjG) (out:=zjF) rfl Try.call7 (fun X=>by kernel_rfl)

def zkF:Shape:=⟨[(.list (.int .i64)),(.list (.int .i64))],[(0,.v 0),(1,.v 1)],[]⟩
def zkE:Shape:=⟨[.bool],[(0,.v 0)],[]⟩
def zlX:CE:=⟨8,zkF,zkE,fun X=>zh1 X.1 X.2⟩
theorem zpb:CE.ok Try.prog zlX:=CE.of (Γ:=[]) (by kernel_rfl) zbL (GOK.nil) ⟨[(4,⟨⟨[(.int .i64)],[(5,.v 0)],[]⟩,[4,11,12,13,14,15,16,17,18,19,20,21,22,23,24,25],[],[],0,[]⟩)],[],[(6,[(0,0),(0,1),(0,2),(0,3),(0,4),(0,5),(0,6),(0,7),(0,8)])],[]⟩ Try.func8 rfl Try.ntmps8 (rs:=[.tmp 4]) rfl (sig:=zkF) (out:=zkE) rfl Try.call8 (fun X=>by kernel_rfl)

def zgD:Shape:=⟨[(.pair (.int .i64) (.pair (.int .i64) (.pair Tc3 .unit))),(.pair (.int .i64) (.pair (.int .i64) (.pair (.list (.list (.int .i64))) Tc6)))],[(0,.v 0),(1,.v 1)],[]⟩
def zgC:Shape:=⟨[.bool],[(0,.v 0)],[]⟩
def zeI:CE:=⟨3,zgD,zgC,fun X=>zhn X.1 X.2⟩
theorem zlJ:CE.ok Try.prog zeI:=CE.of (Γ:=[zky,zkC,zl0,zkD,zlX]) (by kernel_rfl) zbL (GOK.cons zob (GOK.cons zom (GOK.cons zpc (GOK.cons zon (GOK.cons zpb (GOK.nil)))))) ⟨[],[(4,⟨⟨[(.int .i64)],[(8,.v 0)],[]⟩,[22,23,24,25],[],[0,1],2,[]⟩),(5,⟨⟨[.bool],[(34,.v 0)],[]⟩,[26,27,28,29,30,31,32,33],[],[0,1],2,[]⟩),(6,⟨⟨[(.int .i64)],[(8,.v 0)],[]⟩,[26,27,28,29,30,31,32,33,34],[],[0,1],2,[]⟩),(7,⟨⟨[.bool],[(42,.v 0)],[]⟩,[35,36,37,38,39,40,41],[],[0,1],2,[]⟩),(8,⟨⟨[(.int .i64)],[(8,.v 0)],[]⟩,[35,36,37,38,39,40,41,42],[],[0,1],2,[]⟩),(11,⟨⟨[.bool],[(56,.v 0)],[]⟩,[52,53,54,55],[],[0,1],2,[]⟩)],[],[]⟩ Try.func3 rfl Try.ntmps3 (rs:=[.tmp 4]) rfl (sig:=zgD) (out:=zgC) rfl Try.call3 (fun X=>by kernel_rfl)

end
end Go.Proofs.Ytfboagjnknollaa.gramBothW
