import Derived.Test.YtakgldbjamggiaaMullerDetD
import Derived.Test.YtakgldbjamggiaaProg
import Derived.KernelRfl
import Derived.Shelf.Abstract
import Derived.WalkKit
import Derived.Laws.CopyRow
set_option maxHeartbeats 1000000
set_option maxRecDepth 20000
set_option linter.unusedSimpArgs false
set_option linter.unusedVariables false
namespace Go.Proofs.Ytakgldbjamggiaa.mullerDetW
open Go Go.Ab
noncomputable section
theorem zrT:SzT Try.prog 3 ((.int .i64)):=SzT.ofTI (dsc:=false) (size:=1) (bytes:=8) (z := .int .i64 0) (TI.of Try.underlying3 rfl (by kernel_rfl)) rfl rfl
theorem zsT:SzT Try.prog 39 ((.pair (.int .i64) (.pair (.int .i64) (.pair (.int .i64) (.pair (.int .i64) .unit))))):=SzT.ofTI (dsc:=true) (size:=4) (bytes:=32) (z := .agg ⟨[.int .i64 0,.int .i64 0,.int .i64 0,.int .i64 0]⟩) (TI.of Try.underlying39 rfl (by kernel_rfl)) rfl rfl
theorem zsV:SzT Try.prog 41 ((.pair (.pair (.int .i64) (.pair (.int .i64) (.pair (.int .i64) (.pair (.int .i64) .unit)))) (.pair (.int .i64) .unit))):=SzT.ofTI (dsc:=true) (size:=5) (bytes:=40) (z := .agg ⟨[.int .i64 0,.int .i64 0,.int .i64 0,.int .i64 0,.int .i64 0]⟩) (TI.of Try.underlying41 rfl (by kernel_rfl)) rfl rfl
def te3:TE:=⟨3,.int .i64,false,1,8,.int .i64 0,some (.int .i64)⟩
theorem ztu:TEok Try.prog te3:=⟨TI.of Try.underlying3 rfl (by kernel_rfl),Try.underlying3,fun t h=>by cases h;exact ⟨rfl,rfl,by decide,rfl⟩⟩
def te4:TE:=⟨4,.bool,false,1,1,.bool false,some .bool⟩
theorem ztv:TEok Try.prog te4:=⟨TI.of Try.underlying4 rfl (by kernel_rfl),Try.underlying4,fun t h=>by cases h;exact ⟨rfl,rfl,by decide,rfl⟩⟩
def te22:TE:=⟨22,.slice 23,false,1,24,.slice none 0 0,some (.list (.list (.int .i64)))⟩
theorem zsM:TEok Try.prog te22:=⟨TI.of Try.underlying22 rfl (by kernel_rfl),Try.underlying22,fun t h=>by cases h;exact ⟨rfl,rfl,by decide,rfl⟩⟩
def te23:TE:=⟨23,.slice 3,false,1,24,.slice none 0 0,some (.list (.int .i64))⟩
theorem zsN:TEok Try.prog te23:=⟨TI.of Try.underlying23 rfl (by kernel_rfl),Try.underlying23,fun t h=>by cases h;exact ⟨rfl,rfl,by decide,rfl⟩⟩
def te25:TE:=⟨25,.struct [(0,3),(1,3),(2,22),(3,23)] none,true,4,64,.agg ⟨[.int .i64 0,.int .i64 0,.slice none 0 0,.slice none 0 0]⟩,some (.pair (.int .i64) (.pair (.int .i64) (.pair (.list (.list (.int .i64))) (.pair (.list (.int .i64)) .unit))))⟩
theorem zsO:TEok Try.prog te25:=⟨TI.of Try.underlying25 rfl (by kernel_rfl),⟨⟨_,Try.underlying25,rfl⟩,fun t h=>by cases h⟩,fun t h=>by cases h;exact ⟨rfl,rfl,by decide,rfl⟩⟩
def te27:TE:=⟨27,.struct [(0,23),(1,23)] none,true,2,48,.agg ⟨[.slice none 0 0,.slice none 0 0]⟩,some (.pair (.list (.int .i64)) (.pair (.list (.int .i64)) .unit))⟩
theorem zsP:TEok Try.prog te27:=⟨TI.of Try.underlying27 rfl (by kernel_rfl),⟨⟨_,Try.underlying27,rfl⟩,fun t h=>by cases h⟩,fun t h=>by cases h;exact ⟨rfl,rfl,by decide,rfl⟩⟩
def te29:TE:=⟨29,.struct [(0,3),(1,3),(2,22),(3,23)] none,true,4,64,.agg ⟨[.int .i64 0,.int .i64 0,.slice none 0 0,.slice none 0 0]⟩,some (.pair (.int .i64) (.pair (.int .i64) (.pair (.list (.list (.int .i64))) (.pair (.list (.int .i64)) .unit))))⟩
theorem zsQ:TEok Try.prog te29:=⟨TI.of Try.underlying29 rfl (by kernel_rfl),⟨⟨_,Try.underlying29,rfl⟩,fun t h=>by cases h⟩,fun t h=>by cases h;exact ⟨rfl,rfl,by decide,rfl⟩⟩
def te30:TE:=⟨30,.int .i64,false,1,8,.int .i64 0,some (.int .i64)⟩
theorem zsR:TEok Try.prog te30:=⟨TI.of Try.underlying30 rfl (by kernel_rfl),Try.underlying30,fun t h=>by cases h;exact ⟨rfl,rfl,by decide,rfl⟩⟩
def te39:TE:=⟨39,.array 4 3,true,4,32,.agg ⟨[.int .i64 0,.int .i64 0,.int .i64 0,.int .i64 0]⟩,some (.pair (.int .i64) (.pair (.int .i64) (.pair (.int .i64) (.pair (.int .i64) .unit))))⟩
theorem zsS:TEok Try.prog te39:=⟨TI.of Try.underlying39 rfl (by kernel_rfl),Try.underlying39,fun t h=>by cases h;exact ⟨rfl,rfl,by decide,rfl⟩⟩
def te41:TE:=⟨41,.struct [(0,39),(4,3)] none,true,5,40,.agg ⟨[.int .i64 0,.int .i64 0,.int .i64 0,.int .i64 0,.int .i64 0]⟩,some (.pair (.pair (.int .i64) (.pair (.int .i64) (.pair (.int .i64) (.pair (.int .i64) .unit)))) (.pair (.int .i64) .unit))⟩
theorem zsU:TEok Try.prog te41:=⟨TI.of Try.underlying41 rfl (by kernel_rfl),⟨⟨_,Try.underlying41,rfl⟩,fun t h=>by cases h⟩,fun t h=>by cases h;exact ⟨rfl,rfl,by decide,rfl⟩⟩
def te52:TE:=⟨52,.other,false,1,8,.nilFunc,none⟩
theorem zsW:TEok Try.prog te52:=⟨TI.of Try.underlying52 rfl (by kernel_rfl),trivial,fun t h=>by cases h⟩
def te55:TE:=⟨55,.slice 41,false,1,24,.slice none 0 0,some (.list (.pair (.pair (.int .i64) (.pair (.int .i64) (.pair (.int .i64) (.pair (.int .i64) .unit)))) (.pair (.int .i64) .unit)))⟩
theorem zsY:TEok Try.prog te55:=⟨TI.of Try.underlying55 rfl (by kernel_rfl),Try.underlying55,fun t h=>by cases h;exact ⟨rfl,rfl,by decide,rfl⟩⟩
def te54:TE:=⟨54,.map 41 3 ((.pair (.pair (.int .i64) (.pair (.int .i64) (.pair (.int .i64) (.pair (.int .i64) .unit)))) (.pair (.int .i64) .unit))),false,1,8,.map none,none⟩
theorem zsX:TEok Try.prog te54:=⟨TI.of Try.underlying54 rfl (by kernel_rfl),⟨Try.underlying54,SK.ofKey (d:=16) (KeyT.struct zsV Try.underlying41 (by kernel_rfl) (KFs.cons (by decide) rfl (KeyT.array zsT Try.underlying39 (KeyT.int zrT Try.underlying3) rfl) (KFs.cons (by decide) rfl (KeyT.int zrT Try.underlying3) KFs.nil))) (by decide) rfl rfl⟩,fun t h=>by cases h⟩
def TT:List TE:=[te3,te4,te22,te23,te25,te27,te29,te30,te39,te41,te52,te55,te54]
theorem zcV:TOK Try.prog TT:=TOK.cons ztu (TOK.cons ztv (TOK.cons zsM (TOK.cons zsN (TOK.cons zsO (TOK.cons zsP (TOK.cons zsQ (TOK.cons zsR (TOK.cons zsS (TOK.cons zsU (TOK.cons zsW (TOK.cons zsY (TOK.cons zsX (TOK.nil)))))))))))))

def zd1:Shape:=⟨[(.list (.int .i64)),(.pair (.int .i64) (.pair (.int .i64) (.pair (.list (.list (.int .i64))) (.pair (.list (.int .i64)) .unit))))],[(0,.v 0),(1,.addr 1)],[]⟩
def zd0:Shape:=⟨[.bool],[(0,.v 0)],[]⟩
def zeF:CE:=⟨20,zd1,zd0,fun X=>zen X.1 X.2⟩
theorem zit:CE.ok Try.prog zeF:=CE.of (Γ:=[]) (by kernel_rfl) zcV (GOK.nil) ⟨[],[],[],[]⟩ Try.func20 rfl Try.ntmps20 (rs:=[.tmp 3]) rfl (sig:=zd1) (out:=zd0) rfl Try.call20 (fun X=>by kernel_rfl)

def zdk:Shape:=⟨[(.list (.list (.int .i64))),(.pair (.int .i64) (.pair (.int .i64) (.pair (.list (.list (.int .i64))) (.pair (.list (.int .i64)) .unit))))],[(0,.v 0),(1,.fn 20 [.addr 1])],[]⟩
def zdj:Shape:=⟨[(.int .i64)],[(0,.v 0)],[]⟩
def zdP:CE:=⟨25,zdk,zdj,fun X=>zfu X.1 X.2⟩
theorem zhf:CE.ok Try.prog zdP:=CE.of (Γ:=[zeF]) (by kernel_rfl) zcV (GOK.cons zit (GOK.nil)) ⟨[(2,⟨⟨[(.int .i64)],[(8,.v 0)],[]⟩,[4,5,9,10,11,12,13,14,15,16,17,18],[],[],0,[]⟩)],[],[],[]⟩ Try.func25 rfl Try.ntmps25 (rs:=[.tmp 4]) rfl (sig:=zdk) (out:=zdj) rfl Try.call25 (fun X=>by kernel_rfl)

def zcq:Shape:=⟨[(.list (.list (.int .i64))),(.pair (.int .i64) (.pair (.int .i64) (.pair (.list (.list (.int .i64))) (.pair (.list (.int .i64)) .unit))))],[(0,.v 0),(1,.fn 20 [.addr 1])],[]⟩
def zcp:Shape:=⟨[.bool],[(0,.v 0)],[]⟩
def zcx:CE:=⟨19,zcq,zcp,fun X=>zbZ X.1 X.2⟩
theorem zfz:CE.ok Try.prog zcx:=CE.of (Γ:=[zdP]) (by kernel_rfl) zcV (GOK.cons zhf (GOK.nil)) ⟨[],[],[],[]⟩ Try.func19 rfl Try.ntmps19 (rs:=[.tmp 4]) rfl (sig:=zcq) (out:=zcp) rfl Try.call19 (fun X=>by kernel_rfl)

def zd3:Shape:=⟨[(.int .i64),(.int .i64)],[(0,.v 0),(1,.addr 1)],[]⟩
def zd2:Shape:=⟨[.bool],[(0,.v 0)],[]⟩
def zcH:CE:=⟨21,zd3,zd2,fun X=>zbt X.1 X.2⟩
theorem zeG:CE.ok Try.prog zcH:=CE.of (Γ:=[]) (by kernel_rfl) zcV (GOK.nil) ⟨[],[],[],[]⟩ Try.func21 rfl Try.ntmps21 (rs:=[.tmp 3]) rfl (sig:=zd3) (out:=zd2) rfl Try.call21 (fun X=>by kernel_rfl)

def zcB:Shape:=⟨[(.list (.int .i64)),(.int .i64)],[(0,.v 0),(1,.fn 21 [.addr 1])],[]⟩
def zcA:Shape:=⟨[(.int .i64)],[(0,.v 0)],[]⟩
def zc4:CE:=⟨26,zcB,zcA,fun X=>zeh X.1 X.2⟩
theorem zgi:CE.ok Try.prog zc4:=CE.of (Γ:=[zcH]) (by kernel_rfl) zcV (GOK.cons zeG (GOK.nil)) ⟨[(2,⟨⟨[(.int .i64)],[(8,.v 0)],[]⟩,[4,5,9,10,11,12,13,14,15,16,17,18],[],[],0,[]⟩)],[],[],[]⟩ Try.func26 rfl Try.ntmps26 (rs:=[.tmp 4]) rfl (sig:=zcB) (out:=zcA) rfl Try.call26 (fun X=>by kernel_rfl)

def zbO:Shape:=⟨[(.list (.int .i64)),(.int .i64)],[(0,.v 0),(1,.fn 21 [.addr 1])],[]⟩
def zbN:Shape:=⟨[.bool],[(0,.v 0)],[]⟩
def zb7:CE:=⟨23,zbO,zbN,fun X=>zbz X.1 X.2⟩
theorem zeT:CE.ok Try.prog zb7:=CE.of (Γ:=[zc4]) (by kernel_rfl) zcV (GOK.cons zgi (GOK.nil)) ⟨[],[],[],[]⟩ Try.func23 rfl Try.ntmps23 (rs:=[.tmp 4]) rfl (sig:=zbO) (out:=zbN) rfl Try.call23 (fun X=>by kernel_rfl)

def zd5:Shape:=⟨[(.list (.int .i64)),(.int .i64)],[(0,.v 0),(1,.ptr 100000 0)],[(100000,.box 52 [.fn 21 [.addr 1]])]⟩
def zd4:Shape:=⟨[.bool,(.int .i64)],[(0,.v 0)],[(100000,.box 52 [.fn 21 [.addr 1]])]⟩
def zeH:CE:=⟨22,zd5,zd4,fun X=>zcQ X.1 X.2⟩
theorem ziu:CE.ok Try.prog zeH:=CE.of (Γ:=[zb7]) (by kernel_rfl) zcV (GOK.cons zeT (GOK.nil)) ⟨[],[],[],[]⟩ Try.func22 rfl Try.ntmps22 (rs:=[.tmp 3]) rfl (sig:=zd5) (out:=zd4) rfl Try.call22 (fun X=>by kernel_rfl)

def zcz:Shape:=⟨[(.list (.list (.int .i64))),(.int .i64)],[(0,.v 0),(1,.fn 22 [.ptr 100000 0])],[(100000,.box 52 [.fn 21 [.addr 1]])]⟩
def zcy:Shape:=⟨[(.int .i64),(.int .i64)],[(0,.v 0)],[(100000,.box 52 [.fn 21 [.addr 1]])]⟩
def zc3:CE:=⟨25,zcz,zcy,fun X=>zeg X.1 X.2⟩
theorem zgh:CE.ok Try.prog zc3:=CE.of (Γ:=[zeH]) (by kernel_rfl) zcV (GOK.cons ziu (GOK.nil)) ⟨[(2,⟨⟨[(.int .i64),(.int .i64)],[(1,.fn 22 [.ptr 100000 0]),(8,.v 0)],[(100000,.box 52 [.fn 21 [.addr 1]])]⟩,[4,5,9,10,11,12,13,14,15,16,17,18],[],[],0,[]⟩)],[],[],[]⟩ Try.func25 rfl Try.ntmps25 (rs:=[.tmp 4]) rfl (sig:=zcz) (out:=zcy) rfl Try.call25 (fun X=>by kernel_rfl)

def zbM:Shape:=⟨[(.list (.list (.int .i64))),(.int .i64)],[(0,.v 0),(1,.fn 22 [.ptr 100000 0])],[(100000,.box 52 [.fn 21 [.addr 1]])]⟩
def zbL:Shape:=⟨[.bool,(.int .i64)],[(0,.v 0)],[(100000,.box 52 [.fn 21 [.addr 1]])]⟩
def zb6:CE:=⟨19,zbM,zbL,fun X=>zby X.1 X.2⟩
theorem zeS:CE.ok Try.prog zb6:=CE.of (Γ:=[zc3]) (by kernel_rfl) zcV (GOK.cons zgh (GOK.nil)) ⟨[],[],[],[]⟩ Try.func19 rfl Try.ntmps19 (rs:=[.tmp 4]) rfl (sig:=zbM) (out:=zbL) rfl Try.call19 (fun X=>by kernel_rfl)

def zd7:Shape:=⟨[(.int .i64),(.int .i64)],[(0,.v 0),(1,.addr 1)],[]⟩
def zd6:Shape:=⟨[.bool],[(0,.v 0)],[]⟩
def zeI:CE:=⟨24,zd7,zd6,fun X=>zcR X.1 X.2⟩
theorem ziv:CE.ok Try.prog zeI:=CE.of (Γ:=[]) (by kernel_rfl) zcV (GOK.nil) ⟨[],[],[],[]⟩ Try.func24 rfl Try.ntmps24 (rs:=[.tmp 3]) rfl (sig:=zd7) (out:=zd6) rfl Try.call24 (fun X=>by kernel_rfl)

def zcD:Shape:=⟨[(.list (.int .i64)),(.int .i64)],[(0,.v 0),(1,.fn 24 [.addr 1])],[]⟩
def zcC:Shape:=⟨[(.int .i64)],[(0,.v 0)],[]⟩
def zc5:CE:=⟨26,zcD,zcC,fun X=>zei X.1 X.2⟩
theorem zgj:CE.ok Try.prog zc5:=CE.of (Γ:=[zeI]) (by kernel_rfl) zcV (GOK.cons ziv (GOK.nil)) ⟨[(2,⟨⟨[(.int .i64)],[(8,.v 0)],[]⟩,[4,5,9,10,11,12,13,14,15,16,17,18],[],[],0,[]⟩)],[],[],[]⟩ Try.func26 rfl Try.ntmps26 (rs:=[.tmp 4]) rfl (sig:=zcD) (out:=zcC) rfl Try.call26 (fun X=>by kernel_rfl)

def zbQ:Shape:=⟨[(.list (.int .i64)),(.int .i64)],[(0,.v 0),(1,.fn 24 [.addr 1])],[]⟩
def zbP:Shape:=⟨[.bool],[(0,.v 0)],[]⟩
def zb8:CE:=⟨23,zbQ,zbP,fun X=>zbA X.1 X.2⟩
theorem zeU:CE.ok Try.prog zb8:=CE.of (Γ:=[zc5]) (by kernel_rfl) zcV (GOK.cons zgj (GOK.nil)) ⟨[],[],[],[]⟩ Try.func23 rfl Try.ntmps23 (rs:=[.tmp 4]) rfl (sig:=zbQ) (out:=zbP) rfl Try.call23 (fun X=>by kernel_rfl)

def zfm:Shape:=⟨[(.pair (.int .i64) (.pair (.int .i64) (.pair (.list (.list (.int .i64))) (.pair (.list (.int .i64)) .unit))))],[(0,.v 0)],[]⟩
def zfl:Shape:=⟨[(.int .i64)],[(0,.v 0)],[]⟩
def zfU:CE:=⟨11,zfm,zfl,fun X=>zdZ X⟩
theorem zko:CE.ok Try.prog zfU:=CE.of (Γ:=[zcx,zcH,zb6,zb8]) (by kernel_rfl) zcV (GOK.cons zfz (GOK.cons zeG (GOK.cons zeS (GOK.cons zeU (GOK.nil))))) ⟨[(12,⟨⟨[(.int .i64)],[(47,.v 0)],[]⟩,[2,5,48,49,50,51,52,53,54,55,56,57,58,59,60,61,62,63,64,65,66],[],[0,2],3,[]⟩)],[],[(14,[(0,0),(0,1),(0,2),(0,3),(0,4),(0,5),(0,6),(0,7),(0,8),(0,9),(0,10),(0,11),(0,12),(0,13),(0,14),(0,15)])],[]⟩ Try.func11 rfl Try.ntmps11 (rs:=[.tmp 2]) rfl (sig:=zfm) (out:=zfl) rfl Try.call11 (fun X=>by kernel_rfl)

def zfw:Shape:=⟨[(.list (.int .i64)),(.int .i64)],[(0,.v 0),(1,.v 1)],[]⟩
def zfv:Shape:=⟨[(.int .i64)],[(0,.v 0)],[]⟩
def zgk:CE:=⟨14,zfw,zfv,fun X=>zc2 X.1 X.2⟩
theorem zgl:CE.ok Try.prog zgk:=CE.of (Γ:=[]) (by kernel_rfl) zcV (GOK.nil) ⟨[(2,⟨⟨[(.int .i64)],[(8,.v 0)],[]⟩,[4,5,9,10,11,12,13,14,15,16,17,18],[],[],0,[]⟩)],[],[],[]⟩ Try.func14 rfl Try.ntmps14 (rs:=[.tmp 4]) rfl (sig:=zfw) (out:=zfv) rfl Try.call14 (fun X=>by kernel_rfl)

section
theorem zoy (b o n:Nat) (hn:n<=4) (w:World):(Instr.sliceAt 39 (.pointer (some ⟨b,o,none⟩)) none (some (.int .i64 n)) none).run Try.prog w = .ok (.slice (some ⟨b,o,none⟩) n 4) w:=by
  unfold Instr.sliceAt
  have hu:(underlying 39).run Try.prog w = .ok (.array 4 3) w:=by rfl
  have ha:(asIntOf (.int .i64 (n:Int))).run Try.prog w = .ok (.i64,(n:Int)) w:=by rfl
  have h1:(n:Int)<=4:=by omega
  simp [Sem.run_bind,hu,ha,Instr.sureAddr,Instr.sliceBounds,Instr.sliceBound,Addr.add,h1]
theorem zrN (b o k:Nat) (hk:k<=3) (w:World):(Instr.sliceAt 39 (.pointer (some ⟨b,o,none⟩)) (some (.int .i64 1)) (some (.int .i64 ((k:Int)+1))) none).run Try.prog w = .ok (.slice (some ⟨b,o+1,none⟩) k 3) w:=by
  unfold Instr.sliceAt
  have hu:(underlying 39).run Try.prog w = .ok (.array 4 3) w:=by rfl
  have hs:(sizeOf 3).run Try.prog w = .ok 1 w:=by rfl
  have ha:(asIntOf (.int .i64 ((k:Int)+1))).run Try.prog w = .ok (.i64,(k:Int)+1) w:=by rfl
  have hb:(asIntOf (.int .i64 1)).run Try.prog w = .ok (.i64,1) w:=by rfl
  have h0:0<=(k:Int)+1:=by omega
  have h1:(k:Int)+1<=4:=by omega
  have h2:((k:Int)+1).toNat=k+1:=by omega
  simp [Sem.run_bind,hu,hs,ha,hb,Instr.sureAddr,Instr.sliceBounds,Instr.sliceBound,Addr.add,h0,h1,h2]
  intro h;omega
end
section
open Go.RowKit (Below)
theorem zkP {P:Program} {ops:Array Oper} {Q:Exit->Act->World->Prop} {o:Oper} {r:List (Nat×Oper)} {a:Act} {w:World} (v:Value) (hg:o.guard=none) (h:∀ W,(execOp a.eval o).run P W = .ok (.value v) W) (k:wpW P ops Q r (a.put o.dst v) w):wpW P ops Q ((0,o)::r) a w:=by
  rw [zbv,if_pos (by unfold Region.wanted;rw [hg])];exact ⟨v,fun W _=>h W,k⟩
theorem zs2 {P:Program} {ops:Array Oper} {Q:Exit->Act->World->Prop} {o:Oper} {r:List (Nat×Oper)} {a:Act} {w:World} (v:Value) (w':World) (hg:o.guard=none) (h:(execOp a.eval o).run P w = .ok (.value v) w') (k:wpW P ops Q r (a.put o.dst v) w'):wpW P ops Q ((2,o)::r) a w:=by
  rw [zbv,if_pos (by unfold Region.wanted;rw [hg])]
  show Oper.wp P o a w _ _
  unfold Oper.wp
  rw [h]
  exact ⟨⟨v,rfl⟩,k⟩
theorem zoi {P:Program} {a:Act} {o:Oper} {t:TypeId} {x:Operand} {lo hi:Option Operand} (ho:o.op = .slice t x lo hi none) {W:World} {vx:Value} {vlo vhi:Option Value} {r:Value} (hx:a.eval x=vx) (hlo:lo.map a.eval=vlo) (hhi:hi.map a.eval=vhi) (h:(Instr.sliceAt t vx vlo vhi none).run P W = .ok r W):(execOp a.eval o).run P W = .ok (.value r) W:=by
  simp [execOp,ho,hx,hlo,hhi,h]
theorem zsi {P:Program} {a:Act} {o:Oper} {t u:TypeId} {x y:Operand} (ho:o.op = .call { callee := .builtin .copy,args:=#[x,y],argTypes:=#[t,u] }) {W W':World} {vx vy r:Value} (hx:a.eval x=vx) (hy:a.eval y=vy) (h:(Builtin.copy_ #[t,u] o.type #[vx,vy]).run P W = .ok r W'):(execOp a.eval o).run P W = .ok (.value r) W':=by
  simp [execOp,ho,hx,hy,resolve,invoke,builtin,h]
theorem zfb {a:Act} {t:Nat} {v:Value} (h:t < a.tmps.size):(a.put (some t) v).eval (.tmp t)=v:=by
  simp [Act.put,Act.eval,h]
theorem zdh {a:Act} {t u:Nat} {v:Value} (h:t≠u):(a.put (some t) v).eval (.tmp u)=a.eval (.tmp u):=by
  simp [Act.put,Act.eval,h]
theorem zgC {a:Act} {d:Option Tmp} {v:Value}:(a.put d v).tmps.size=a.tmps.size:=by cases d<;>simp [Act.put]
def zkY : Array Oper := #[{ dst := some 29, op := Op.fieldAddr 41 (Operand.tmp 9) 0, type := 0, pos := "muller.go:79", after := #[], guard := none }, { dst := some 30, op := Op.move (Operand.tmp 8), type := 3, pos := "muller.go:79", after := #[], guard := none }, { dst := some 31, op := Op.binOp BinOp.add 3 (Operand.tmp 30) (Operand.const (Value.int IntKind.i64 1)) 3, type := 3, pos := "muller.go:79", after := #[{ on := 1, ground := Ground.data }], guard := none }, { dst := some 32, op := Op.slice 39 (Operand.tmp 29) (some (Operand.const (Value.int IntKind.i64 1))) (some (Operand.tmp 31)) none, type := 23, pos := "muller.go:79", after := #[{ on := 0, ground := Ground.data }, { on := 2, ground := Ground.data }], guard := none }, { dst := some 33, op := Op.fieldAddr 41 (Operand.tmp 4) 0, type := 0, pos := "muller.go:79", after := #[], guard := none }, { dst := some 34, op := Op.move (Operand.tmp 8), type := 3, pos := "muller.go:79", after := #[], guard := none }, { dst := some 35, op := Op.slice 39 (Operand.tmp 33) none (some (Operand.tmp 34)) none, type := 23, pos := "muller.go:79", after := #[{ on := 4, ground := Ground.data }, { on := 5, ground := Ground.data }], guard := none }, { dst := some 36, op := Op.call { callee := Callee.builtin Builtin.copy, args := #[Operand.tmp 32, Operand.tmp 35], argTypes := #[23, 23] }, type := 3, pos := "muller.go:79", after := #[{ on := 3, ground := Ground.data }, { on := 6, ground := Ground.data }], guard := none }]
theorem md_r4 (a:Act) (hsz:a.tmps.size=41) (g d k:Nat) (hk:k<=3) (h9:a.eval (.tmp 9) = .pointer (some ⟨g,0,none⟩)) (h8:a.eval (.tmp 8) = .int .i64 k) (h4:a.eval (.tmp 4) = .pointer (some ⟨d,0,none⟩))
    (w:World) (x0 x1 x2 x3 x4:Value) (hg:w.heap[g]? =some (.cells #[x0,x1,x2,x3,.int .i64 k] 41)) (hd:w.heap[d]? =some (.cells #[x0,x1,x2,x3,x4] 41)) (h1:x0.oneCell'=true/\x1.oneCell'=true/\x2.oneCell'=true/\x3.oneCell'=true)
    (Q:Exit->Act->World->Prop)
    (hQ:∀ W,(∀ b,b≠g->W.heap[b]? =w.heap[b]?)->W.heap[g]? =some (.cells ([x0]++[x0,x1,x2,x3].take k++[x0,x1,x2,x3,.int .i64 k].drop (1+k)).toArray 41)->W.os=w.os->W.tape=w.tape->W.output=w.output->W.heap.size=w.heap.size->
      Q .normal ((((((((a.put (some 29) (.pointer (some ⟨g,0,none⟩))).put (some 30) (.int .i64 k)).put (some 31) (.int .i64 ((k:Int)+1))).put (some 32) (.slice (some ⟨g,1,none⟩) k 3)).put (some 33) (.pointer (some ⟨d,0,none⟩))).put (some 34) (.int .i64 k)).put (some 35) (.slice (some ⟨d,0,none⟩) k 4)).put (some 36) (.int .i64 k)) W):
    (Code.region 4 zkY true).wp Try.prog Q a w:=by
  refine zgo [(0,0),(0,1),(0,2),(0,3),(0,4),(0,5),(0,6),(2,7)] (by kernel_rfl) (by kernel_rfl) ?_
  obtain ⟨w3,hw3⟩:∃ w3,w3={ w with drawn:=w.drawn+1 }:=⟨_,rfl⟩
  rw [<- hw3]
  have hg3:w3.heap[g]? =some (.cells #[x0,x1,x2,x3,.int .i64 k] 41):=by rw [hw3];exact hg
  have hd3:w3.heap[d]? =some (.cells #[x0,x1,x2,x3,x4] 41):=by rw [hw3];exact hd
  have hcell:∀ (W:World) (b:Nat) (x0 x1 x2 x3 x4:Value),W.heap[b]? =some (.cells #[x0,x1,x2,x3,x4] 41)->W.cell? ⟨b,0,none⟩=some x0/\W.cell? ⟨b,1,none⟩=some x1/\W.cell? ⟨b,2,none⟩=some x2/\W.cell? ⟨b,3,none⟩=some x3/\W.cell? ⟨b,4,none⟩=some x4:=fun W b x0 x1 x2 x3 x4 h=>
    ⟨by rw [cell_of_row W _ 0 _ 41 (0,0) h];rfl,by rw [cell_of_row W _ 1 _ 41 (0,0) h];rfl,by rw [cell_of_row W _ 2 _ 41 (0,0) h];rfl,by rw [cell_of_row W _ 3 _ 41 (0,0) h];rfl,by rw [cell_of_row W _ 4 _ 41 (0,0) h];rfl⟩
  obtain ⟨q0,q1,q2,q3,q4⟩:=hcell w3 _ _ _ _ _ _ hd3
  have hu23:Try.prog.underlying 23=some (.slice 3):=by rfl
  have hi3:(Try.prog.info? 3).map (·.size)=some 1:=by rfl
  show wpW Try.prog zkY Q [(0,_),(0,_),(0,_),(0,_),(0,_),(0,_),(0,_),(2,_)] a w3
  have e0:∀ (b:Act) (W:World),b.eval (.tmp 9) = .pointer (some ⟨g,0,none⟩)->(execOp b.eval (zkY.getD 0 default)).run Try.prog W = .ok (.value (.pointer (some ⟨g,0,none⟩))) W:=fun b W h=>by
    show (execOp b.eval { dst := some 29, op := Op.fieldAddr 41 (Operand.tmp 9) 0, type := 0, pos := "muller.go:79", after := #[], guard := none }).run Try.prog W = _
    simp only [execOp,h];rfl
  have e1:∀ (b:Act) (W:World),b.eval (.tmp 8) = .int .i64 k->(execOp b.eval (zkY.getD 1 default)).run Try.prog W = .ok (.value (.int .i64 k)) W:=fun b W h=>by
    show (execOp b.eval { dst := some 30, op := Op.move (Operand.tmp 8), type := 3, pos := "muller.go:79", after := #[], guard := none }).run Try.prog W = _
    simp only [execOp,h];rfl
  have e2:∀ (b:Act) (W:World),b.eval (.tmp 30) = .int .i64 k->(execOp b.eval (zkY.getD 2 default)).run Try.prog W = .ok (.value (.int .i64 ((k:Int)+1))) W:=fun b W h=>by
    show (execOp b.eval { dst := some 31, op := Op.binOp BinOp.add 3 (Operand.tmp 30) (Operand.const (Value.int IntKind.i64 1)) 3, type := 3, pos := "muller.go:79", after := #[{ on := 1, ground := Ground.data }], guard := none }).run Try.prog W = _
    simp only [execOp,h]
    obtain rfl | rfl | rfl | rfl:k=0\/k=1\/k=2\/k=3:=by omega
    all_goals rfl
  have e4:∀ (b:Act) (W:World),b.eval (.tmp 4) = .pointer (some ⟨d,0,none⟩)->(execOp b.eval (zkY.getD 4 default)).run Try.prog W = .ok (.value (.pointer (some ⟨d,0,none⟩))) W:=fun b W h=>by
    show (execOp b.eval { dst := some 33, op := Op.fieldAddr 41 (Operand.tmp 4) 0, type := 0, pos := "muller.go:79", after := #[], guard := none }).run Try.prog W = _
    simp only [execOp,h];rfl
  have e5:∀ (b:Act) (W:World),b.eval (.tmp 8) = .int .i64 k->(execOp b.eval (zkY.getD 5 default)).run Try.prog W = .ok (.value (.int .i64 k)) W:=fun b W h=>by
    show (execOp b.eval { dst := some 34, op := Op.move (Operand.tmp 8), type := 3, pos := "muller.go:79", after := #[], guard := none }).run Try.prog W = _
    simp only [execOp,h];rfl
  refine zkP (.pointer (some ⟨g,0,none⟩)) rfl (fun W=>e0 _ W h9) ?_
  refine zkP (.int .i64 k) rfl (fun W=>e1 _ W ((zdh (by decide)).trans h8)) ?_
  refine zkP (.int .i64 ((k:Int)+1)) rfl (fun W=>e2 _ W (zfb (by simp only [zgC,hsz];decide))) ?_
  refine zkP (.slice (some ⟨g,1,none⟩) k 3) rfl (fun W=>zoi (o:=zkY.getD 3 default) (t:=39) (x := .tmp 29) (lo:=some (.const (.int .i64 1))) (hi:=some (.tmp 31)) rfl ((zdh (by decide)).trans ((zdh (by decide)).trans (zfb (by rw [hsz];decide)))) rfl (congrArg some (zfb (by simp only [zgC,hsz];decide))) (by have:=zrN g 0 k hk W;rwa [Nat.zero_add] at this)) ?_
  refine zkP (.pointer (some ⟨d,0,none⟩)) rfl (fun W=>e4 _ W ((zdh (by decide)).trans ((zdh (by decide)).trans ((zdh (by decide)).trans ((zdh (by decide)).trans h4))))) ?_
  refine zkP (.int .i64 k) rfl (fun W=>e5 _ W ((zdh (by decide)).trans ((zdh (by decide)).trans ((zdh (by decide)).trans ((zdh (by decide)).trans ((zdh (by decide)).trans h8)))))) ?_
  refine zkP (.slice (some ⟨d,0,none⟩) k 4) rfl (fun W=>zoi (o:=zkY.getD 6 default) (t:=39) (x := .tmp 33) (lo:=none) (hi:=some (.tmp 34)) rfl ((zdh (by decide)).trans (zfb (by simp only [zgC,hsz];decide))) rfl (congrArg some (zfb (by simp only [zgC,hsz];decide))) (zoy d 0 k (by omega) W)) ?_
  have hlen:([x0,x1,x2,x3].take k).length=k:=by rw [List.length_take];simp;omega
  have hc:=run_copy_row Try.prog w3 23 23 3 3 g 1 k 3 ⟨d,0,none⟩ k 4 _ 41 ([x0,x1,x2,x3].take k) hu23 hi3 hg3 (by rw [hlen];simp [Nat.min_def]) (fun j v hj => ?_) (by rw [hlen];simp;omega) (fun v hv => ?_)
  rotate_left
  · have hj':([x0,x1,x2,x3]:List Value)[j]? =some v:=by
      rw [List.getElem?_take] at hj;split at hj
      · exact hj
      · cases hj
    have ea:(⟨d,0,none⟩:Addr).add j=⟨d,j,none⟩:=by unfold Addr.add;split<;>simp_all
    rw [ea]
    match j,hj' with
    | 0,h=>cases h;exact q0
    | 1,h=>cases h;exact q1
    | 2,h=>cases h;exact q2
    | 3,h=>cases h;exact q3
  · have:=List.mem_of_mem_take hv
    simp only [List.mem_cons,List.not_mem_nil,or_false] at this
    rcases this with rfl | rfl | rfl | rfl
    · exact h1.1
    · exact h1.2.1
    · exact h1.2.2.1
    · exact h1.2.2.2
  rw [hlen] at hc
  refine zs2 (.int .i64 k) _ rfl (zsi (o:=zkY.getD 7 default) (t:=23) (u:=23) (x := .tmp 32) (y := .tmp 35) rfl ((zdh (by decide)).trans ((zdh (by decide)).trans ((zdh (by decide)).trans (zfb (by simp only [zgC,hsz];decide))))) (zfb (by simp only [zgC,hsz];decide)) hc) ?_
  refine hQ _ (fun b hb => ?_) ?_ ?_ ?_ ?_ ?_
  · rw [hw3];simp [World.setRow,Array.getElem?_modify,Ne.symm hb]
  · rw [setRow_heap w3 g _ _ 41 _ hg3];rfl
  · rw [hw3];rfl
  · rw [hw3];rfl
  · rw [hw3];rfl
  · rw [hw3];simp [World.setRow]
end
section
open Go.RowKit (Below)
theorem md1 (p a:Nat) (r1 r2 r3 st to:Int) (bm om bn on b2 o2 l2 c2 b3 o3 l3 c3 n k:Nat) (w:World) (hk:k<=3)
    (hm:w.cell? ⟨bm,om+2,none⟩=some (.slice (some ⟨b2,o2,none⟩) l2 c2)) (hbm:bm < w.heap.size) (h2:w.cell? ⟨b2,o2+p,none⟩=some (.slice (some ⟨b3,o3,none⟩) l3 c3)) (hb2:b2 < w.heap.size) (hp:p < l2) (hl2:l2<=4)
    (h3:w.cell? ⟨b3,o3+a,none⟩=some (.int .i64 to)) (hb3:b3 < w.heap.size) (ha:a < l3) (hn:w.cell? ⟨bn,on,none⟩=some (.int .i64 n)) (hbn:bn < w.heap.size) (hn4:n<=4)
    (hIx:∀ W:World,W.heap[w.heap.size]? =some (.cells #[.int .i64 p,.int .i64 r1,.int .i64 r2,.int .i64 r3,.int .i64 st] 41)->Below w.heap.size w W->Calls Try.prog 14 #[.slice (some ⟨w.heap.size,0,none⟩) n 4,.int .i64 to] W fun e W'=>e = .returned (.int .i64 k)/\Below W.heap.size W W'):
    Calls Try.prog 13 #[.agg #[.int .i64 p,.int .i64 r1,.int .i64 r2,.int .i64 r3,.int .i64 st],.int .i64 a,.pointer (some ⟨bm,om,none⟩),.pointer (some ⟨bn,on,none⟩)] w fun e w'=>
      e = .returned (.agg #[.int .i64 (ix (mtf5 p r1 r2 r3 to k) 0),.int .i64 (ix (mtf5 p r1 r2 r3 to k) 1),.int .i64 (ix (mtf5 p r1 r2 r3 to k) 2),.int .i64 (ix (mtf5 p r1 r2 r3 to k) 3),.int .i64 k])/\Below w.heap.size w w':=by
  have hs0:∀ (b o:Nat) (W:World),(Instr.sliceAt 39 (.pointer (some ⟨b,o,none⟩)) none (some (.int .i64 n)) none).run Try.prog W = .ok (.slice (some ⟨b,o,none⟩) n 4) W:=fun b o W=>zoy b o n hn4 W
  have hs1:∀ (b o:Nat) (W:World),(Instr.sliceAt 39 (.pointer (some ⟨b,o,none⟩)) none (some (.int .i64 k)) none).run Try.prog W = .ok (.slice (some ⟨b,o,none⟩) k 4) W:=fun b o W=>zoy b o k (by omega) W
  have hs2:∀ (b o:Nat) (W:World),(Instr.sliceAt 39 (.pointer (some ⟨b,o,none⟩)) (some (.int .i64 1)) (some (.int .i64 ((k:Int)+1))) none).run Try.prog W = .ok (.slice (some ⟨b,o+1,none⟩) k 3) W:=fun b o W=>zrN b o k hk W
  go_enter Try.func13,Try.ntmps13
  have hA:∀ (A B:Obj),((w.alloc A).alloc B).heap[w.heap.size]? =some A:=fun A B=>(Below.heap_alloc _ _ _ (by simp)).trans (World.alloc_heap_new w A)
  have hB:∀ (A B:Obj),((w.alloc A).alloc B).heap[w.heap.size+1]? =some B:=fun A B=>by have:=World.alloc_heap_new (w.alloc A) B;rwa [World.size_alloc] at this
  have hBl:∀ (A B:Obj),Below w.heap.size w ((w.alloc A).alloc B):=fun A B=>((Below.refl _ w).alloc (Nat.le_refl _) _).alloc (by simp) _
  have hSz:∀ (A B:Obj),((w.alloc A).alloc B).heap.size=w.heap.size+2:=fun A B=>by simp
  have hcell:∀ (W:World) (b:Nat) (x0 x1 x2 x3 x4:Value),W.heap[b]? =some (.cells #[x0,x1,x2,x3,x4] 41)->W.cell? ⟨b,0,none⟩=some x0/\W.cell? ⟨b,1,none⟩=some x1/\W.cell? ⟨b,2,none⟩=some x2/\W.cell? ⟨b,3,none⟩=some x3/\W.cell? ⟨b,4,none⟩=some x4:=fun W b x0 x1 x2 x3 x4 h=>
    ⟨by rw [cell_of_row W _ 0 _ 41 (0,0) h];rfl,by rw [cell_of_row W _ 1 _ 41 (0,0) h];rfl,by rw [cell_of_row W _ 2 _ 41 (0,0) h];rfl,by rw [cell_of_row W _ 3 _ 41 (0,0) h];rfl,by rw [cell_of_row W _ 4 _ 41 (0,0) h];rfl⟩
  go_wp2_with (go_at_call 14;refine (hIx _ (hA _ _) (hBl _ _)).mono ?_;rintro e w1 ⟨rfl,hB1⟩;have hA1:=(hB1.block w.heap.size (by rw [hSz];omega)).trans (hA _ _);have hZ1:=(hB1.block (w.heap.size+1) (by rw [hSz];omega)).trans (hB _ _);obtain ⟨g0,g1,g2,g3,g4⟩:=hcell w1 _ _ _ _ _ _ hA1)
  have hR3:(w1.alloc (.cells #[.int .i64 p,.int .i64 r1,.int .i64 r2,.int .i64 r3,.int .i64 k] 41)).heap[w1.heap.size]? =some (.cells #[.int .i64 p,.int .i64 r1,.int .i64 r2,.int .i64 r3,.int .i64 k] 41):=World.alloc_heap_new w1 _
  have hB3:Below w1.heap.size w1 (w1.alloc (.cells #[.int .i64 p,.int .i64 r1,.int .i64 r2,.int .i64 r3,.int .i64 k] 41)):=(Below.refl _ w1).alloc (Nat.le_refl _) _
  have hs1s:=hB1.size
  rw [hSz] at hs1s
  generalize w1.alloc (.cells #[.int .i64 p,.int .i64 r1,.int .i64 r2,.int .i64 r3,.int .i64 k] 41)=w2 at hR3 hB3
  have hA3:=(hB3.block w.heap.size (by omega)).trans hA1
  have hZ3:=(hB3.block (w.heap.size+1) (by omega)).trans hZ1
  have hBw2:Below w.heap.size w w2:=((hBl _ _).trans (hB1.mono (by rw [hSz];omega))).trans (hB3.mono (by omega))
  refine md_r4 _ rfl w1.heap.size w.heap.size k hk rfl rfl rfl w2 _ _ _ _ _ hR3 hA3 ⟨rfl,rfl,rfl,rfl⟩ _ (fun W hW1 hW2 ho1 ho2 ho3 hW3 => ?_)
  have hZ4:=(hW1 (w.heap.size+1) (by omega)).trans hZ3
  have hB4:Below w.heap.size w W:=hBw2.trans ⟨ho1,ho2,ho3,by omega,fun b hb=>hW1 b (by omega)⟩
  clear hs0 hs1 hs2 hA hB hBl hSz hIx hm h2 h3 hn hA1 hZ1 g0 g1 g2 g3 g4 hW1 hR3 hA3 hZ3
  obtain ⟨z0,z1,z2,z3,z4⟩:=hcell W _ _ _ _ _ _ hZ4
  obtain rfl | rfl | rfl | rfl:k=0\/k=1\/k=2\/k=3:=by omega
  · have hW2:W.heap[w1.heap.size]? =some (.cells #[.int .i64 p,.int .i64 r1,.int .i64 r2,.int .i64 r3,.int .i64 (0:Nat)] 41):=hW2
    obtain ⟨y0,y1,y2,y3,y4⟩:=hcell W _ _ _ _ _ _ hW2
    have fz:W.frozen? ⟨w1.heap.size,0,none⟩=false:=by simp [World.frozen?, hW2]
    have fz6:∀ i,W.frozen? ⟨w.heap.size+1,i,none⟩=false:=fun i=>by simp [World.frozen?, hZ4]
    have f0:=fz6 0
    have f1:=fz6 1
    have f2:=fz6 2
    have f3:=fz6 3
    have f4:=fz6 4
    clear fz6
    go_wp2
    refine bodyPost_ret (v := .agg #[.int .i64 to,.int .i64 r1,.int .i64 r2,.int .i64 r3,.int .i64 (0:Nat)]) (by simp [results,Try.f13,go_sem,z0,z1,z2,z3,z4]) rfl ?_
    exact ⟨rfl,(((((hB4.setCell (p:=⟨w1.heap.size,0,none⟩) (by show w.heap.size<=w1.heap.size;omega) _).setCell (p:=⟨w.heap.size+1,0,none⟩) (Nat.le_succ _) _).setCell (p:=⟨w.heap.size+1,1,none⟩) (Nat.le_succ _) _).setCell (p:=⟨w.heap.size+1,2,none⟩) (Nat.le_succ _) _).setCell (p:=⟨w.heap.size+1,3,none⟩) (Nat.le_succ _) _).setCell (p:=⟨w.heap.size+1,4,none⟩) (Nat.le_succ _) _⟩
  · have hW2:W.heap[w1.heap.size]? =some (.cells #[.int .i64 p,.int .i64 p,.int .i64 r2,.int .i64 r3,.int .i64 (1:Nat)] 41):=hW2
    obtain ⟨y0,y1,y2,y3,y4⟩:=hcell W _ _ _ _ _ _ hW2
    have fz:W.frozen? ⟨w1.heap.size,0,none⟩=false:=by simp [World.frozen?, hW2]
    have fz6:∀ i,W.frozen? ⟨w.heap.size+1,i,none⟩=false:=fun i=>by simp [World.frozen?, hZ4]
    have f0:=fz6 0
    have f1:=fz6 1
    have f2:=fz6 2
    have f3:=fz6 3
    have f4:=fz6 4
    clear fz6
    go_wp2
    refine bodyPost_ret (v := .agg #[.int .i64 to,.int .i64 p,.int .i64 r2,.int .i64 r3,.int .i64 (1:Nat)]) (by simp [results,Try.f13,go_sem,z0,z1,z2,z3,z4]) rfl ?_
    exact ⟨rfl,(((((hB4.setCell (p:=⟨w1.heap.size,0,none⟩) (by show w.heap.size<=w1.heap.size;omega) _).setCell (p:=⟨w.heap.size+1,0,none⟩) (Nat.le_succ _) _).setCell (p:=⟨w.heap.size+1,1,none⟩) (Nat.le_succ _) _).setCell (p:=⟨w.heap.size+1,2,none⟩) (Nat.le_succ _) _).setCell (p:=⟨w.heap.size+1,3,none⟩) (Nat.le_succ _) _).setCell (p:=⟨w.heap.size+1,4,none⟩) (Nat.le_succ _) _⟩
  · have hW2:W.heap[w1.heap.size]? =some (.cells #[.int .i64 p,.int .i64 p,.int .i64 r1,.int .i64 r3,.int .i64 (2:Nat)] 41):=hW2
    obtain ⟨y0,y1,y2,y3,y4⟩:=hcell W _ _ _ _ _ _ hW2
    have fz:W.frozen? ⟨w1.heap.size,0,none⟩=false:=by simp [World.frozen?, hW2]
    have fz6:∀ i,W.frozen? ⟨w.heap.size+1,i,none⟩=false:=fun i=>by simp [World.frozen?, hZ4]
    have f0:=fz6 0
    have f1:=fz6 1
    have f2:=fz6 2
    have f3:=fz6 3
    have f4:=fz6 4
    clear fz6
    go_wp2
    refine bodyPost_ret (v := .agg #[.int .i64 to,.int .i64 p,.int .i64 r1,.int .i64 r3,.int .i64 (2:Nat)]) (by simp [results,Try.f13,go_sem,z0,z1,z2,z3,z4]) rfl ?_
    exact ⟨rfl,(((((hB4.setCell (p:=⟨w1.heap.size,0,none⟩) (by show w.heap.size<=w1.heap.size;omega) _).setCell (p:=⟨w.heap.size+1,0,none⟩) (Nat.le_succ _) _).setCell (p:=⟨w.heap.size+1,1,none⟩) (Nat.le_succ _) _).setCell (p:=⟨w.heap.size+1,2,none⟩) (Nat.le_succ _) _).setCell (p:=⟨w.heap.size+1,3,none⟩) (Nat.le_succ _) _).setCell (p:=⟨w.heap.size+1,4,none⟩) (Nat.le_succ _) _⟩
  · have hW2:W.heap[w1.heap.size]? =some (.cells #[.int .i64 p,.int .i64 p,.int .i64 r1,.int .i64 r2,.int .i64 (3:Nat)] 41):=hW2
    obtain ⟨y0,y1,y2,y3,y4⟩:=hcell W _ _ _ _ _ _ hW2
    have fz:W.frozen? ⟨w1.heap.size,0,none⟩=false:=by simp [World.frozen?, hW2]
    have fz6:∀ i,W.frozen? ⟨w.heap.size+1,i,none⟩=false:=fun i=>by simp [World.frozen?, hZ4]
    have f0:=fz6 0
    have f1:=fz6 1
    have f2:=fz6 2
    have f3:=fz6 3
    have f4:=fz6 4
    clear fz6
    go_wp2
    refine bodyPost_ret (v := .agg #[.int .i64 to,.int .i64 p,.int .i64 r1,.int .i64 r2,.int .i64 (3:Nat)]) (by simp [results,Try.f13,go_sem,z0,z1,z2,z3,z4]) rfl ?_
    exact ⟨rfl,(((((hB4.setCell (p:=⟨w1.heap.size,0,none⟩) (by show w.heap.size<=w1.heap.size;omega) _).setCell (p:=⟨w.heap.size+1,0,none⟩) (Nat.le_succ _) _).setCell (p:=⟨w.heap.size+1,1,none⟩) (Nat.le_succ _) _).setCell (p:=⟨w.heap.size+1,2,none⟩) (Nat.le_succ _) _).setCell (p:=⟨w.heap.size+1,3,none⟩) (Nat.le_succ _) _).setCell (p:=⟨w.heap.size+1,4,none⟩) (Nat.le_succ _) _⟩
end
section
open Go.RowKit (Below)
theorem zs9 {w:World} {S:Nat->Prop} {bts:Nat} {l:List D} {v:Value} (h:DRel w S (.sl bts l) v) (i:Nat) (hi:i < l.length) {x:D} (h1:l.getD i default=x) (hx:x.cells=[x]):∃ b off c u,v = .slice (some ⟨b,off,none⟩) l.length c/\S b/\w.cell? ⟨b,off+i,none⟩=some u/\DRel w S x u:=by
  cases h with
  | nil=>simp at hi
  | sl _ _ b off c sz f h0 hsz hb hc hm hbt hcs hcell hrel=>
    have e:=hcs i hi
    rw [h1,hx] at e
    have e:1=sz:=e
    subst e
    have r:=hrel i hi 0 (by omega)
    rw [h1,hx] at r
    refine ⟨b,off,c,f i,rfl,hb,hcell i (by omega),?_⟩
    have r:DRel w S x (f (i * 1+0)):=r
    rwa [show i * 1+0=i by omega] at r
theorem agg5 {w:World} {S:Nat->Prop} {x0 x1 x2 x3 x4:Int} {v:Value} (h:DRel w S (.agg [.lit (.int .i64 x0),.lit (.int .i64 x1),.lit (.int .i64 x2),.lit (.int .i64 x3),.lit (.int .i64 x4)]) v):v = .agg #[.int .i64 x0,.int .i64 x1,.int .i64 x2,.int .i64 x3,.int .i64 x4]:=by
  cases h with
  | agg _ cs hcs hrel=>
    have hcs:cs.size=5:=hcs
    have r0:DRel w S (.lit (.int .i64 x0)) (cs.getD 0 undef):=hrel 0 (by show 0 < 5;omega)
    have r1:DRel w S (.lit (.int .i64 x1)) (cs.getD 1 undef):=hrel 1 (by show 1 < 5;omega)
    have r2:DRel w S (.lit (.int .i64 x2)) (cs.getD 2 undef):=hrel 2 (by show 2 < 5;omega)
    have r3:DRel w S (.lit (.int .i64 x3)) (cs.getD 3 undef):=hrel 3 (by show 3 < 5;omega)
    have r4:DRel w S (.lit (.int .i64 x4)) (cs.getD 4 undef):=hrel 4 (by show 4 < 5;omega)
    have ec:cs=#[cs.getD 0 undef,cs.getD 1 undef,cs.getD 2 undef,cs.getD 3 undef,cs.getD 4 undef]:=by
      apply Array.ext
      · rw [hcs];rfl
      · intro i h2 h3
        have h3:i < 5:=h3
        match i,h3 with
        | 0,_=>simp [Array.getD,h2]
        | 1,_=>simp [Array.getD,h2]
        | 2,_=>simp [Array.getD,h2]
        | 3,_=>simp [Array.getD,h2]
        | 4,_=>simp [Array.getD,h2]
    generalize cs.getD 0 undef=u0 at r0 ec
    generalize cs.getD 1 undef=u1 at r1 ec
    generalize cs.getD 2 undef=u2 at r2 ec
    generalize cs.getD 3 undef=u3 at r3 ec
    generalize cs.getD 4 undef=u4 at r4 ec
    cases r0;cases r1;cases r2;cases r3;cases r4
    rw [<- ec]
/-- A number behind a pointer. -/
theorem zs5 {w:World} {S:Nat->Prop} {H:Hd} {n:Int} {v:Value} (h:VRel w S H (.addr (.lit (.int .i64 n))) v):∃ b off,v = .pointer (some ⟨b,off,none⟩)/\S b/\w.cell? ⟨b,off,none⟩=some (.int .i64 n):=by
  cases h with
  | addr _ b off f hb hcell hrel=>
    have h1:=hcell 0 (by show 0 < 1;omega)
    have h2:DRel w S (.lit (.int .i64 n)) (f 0):=hrel 0 (by show 0 < 1;omega)
    refine ⟨b,off,rfl,hb,?_⟩
    generalize f 0=q at h1 h2
    cases h2
    exact h1
theorem zs6 {w:World} {S:Nat->Prop} {H:Hd} {m:Mlr} {v:Value} (h:VRel w S H (.addr (encD (.pair (.int .i64) (.pair (.int .i64) (.pair (.list (.list (.int .i64))) (.pair (.list (.int .i64)) .unit)))) m)) v):
    ∃ b off q2 q3,v = .pointer (some ⟨b,off,none⟩)/\S b/\w.cell? ⟨b,off+2,none⟩=some q2/\w.cell? ⟨b,off+3,none⟩=some q3/\DRel w S (encD (.list (.list (.int .i64))) m.2.2.1) q2/\DRel w S (encD (.list (.int .i64)) m.2.2.2.1) q3:=by
  have h:VRel w S H (.addr (.agg [.lit (.int .i64 m.1),.lit (.int .i64 m.2.1),encD (.list (.list (.int .i64))) m.2.2.1,encD (.list (.int .i64)) m.2.2.2.1])) v:=h
  cases h with
  | addr _ b off f hb hcell hrel=>
    exact ⟨b,off,f 2,f 3,rfl,hb,hcell 2 (by show 2 < 4;omega),hcell 3 (by show 3 < 4;omega),hrel 2 (by show 2 < 4;omega),hrel 3 (by show 3 < 4;omega)⟩
theorem rowD {w:World} {Xs:Nat->Prop} {b:Nat} {x0 x1 x2 x3 x4:Int} (hb:w.heap[b]? =some (.cells #[.int .i64 x0,.int .i64 x1,.int .i64 x2,.int .i64 x3,.int .i64 x4] 41)) (hX : ¬ Xs b) {n:Nat} (hn:1<=n/\n<=4):
    DRel w (fun b=>b < w.heap.size /\ ¬ Xs b) (encD (.list (.int .i64)) ([x0,x1,x2,x3].take n)) (.slice (some ⟨b,0,none⟩) n 4):=by
  have hl:([x0,x1,x2,x3].take n).length=n:=by rw [List.length_take];simp;omega
  have hl2:(([x0,x1,x2,x3].take n).map fun n=>D.lit (.int .i64 n)).length=n:=by rw [List.length_map,hl]
  have hcell:w.cell? ⟨b,0,none⟩=some (.int .i64 x0)/\w.cell? ⟨b,1,none⟩=some (.int .i64 x1)/\w.cell? ⟨b,2,none⟩=some (.int .i64 x2)/\w.cell? ⟨b,3,none⟩=some (.int .i64 x3):=
    ⟨by rw [cell_of_row w _ 0 _ 41 (0,0) hb];rfl,by rw [cell_of_row w _ 1 _ 41 (0,0) hb];rfl,by rw [cell_of_row w _ 2 _ 41 (0,0) hb];rfl,by rw [cell_of_row w _ 3 _ 41 (0,0) hb];rfl⟩
  have key:∀ j,j < n->w.cell? ⟨b,0+j,none⟩=some (.int .i64 (rowB x0 x1 x2 x3 j))/\(([x0,x1,x2,x3].take n).map fun n=>D.lit (.int .i64 n)).getD j default = .lit (.int .i64 (rowB x0 x1 x2 x3 j)):=fun j hj=>by
    rw [List.getD_eq_getElem?_getD,List.getElem?_map,List.getElem?_take,if_pos hj,Nat.zero_add]
    have:j=0\/j=1\/j=2\/j=3:=by omega
    rcases this with rfl | rfl | rfl | rfl
    · exact ⟨hcell.1,rfl⟩
    · exact ⟨hcell.2.1,rfl⟩
    · exact ⟨hcell.2.2.1,rfl⟩
    · exact ⟨hcell.2.2.2,rfl⟩
  show DRel w _ (.sl 8 (([x0,x1,x2,x3].take n).map fun n=>D.lit (.int .i64 n))) _
  have:=DRel.sl (w:=w) (S:=fun b=>b < w.heap.size /\ ¬ Xs b) 8 (([x0,x1,x2,x3].take n).map fun n=>D.lit (.int .i64 n)) b 0 4 1 (fun j => .int .i64 (rowB x0 x1 x2 x3 j)) (by rw [hl2];omega) (by omega) ⟨(Array.getElem?_eq_some_iff.1 hb).1,hX⟩ (by rw [hl2];omega) (by unfold maxLen;omega) (by rw [hl2];unfold most;omega)
    (fun i hi=>by rw [(key i (by omega)).2];rfl) (fun j hj=>(key j (by omega)).1) (fun i hi j hj=>by
      obtain rfl:j=0:=by omega
      rw [(key i (by omega)).2,show i * 1+0=i by omega]
      exact .lit _ rfl)
  rw [hl2] at this
  exact this
end
section
open Go.RowKit (Below)
def zjg:Shape:=⟨[(.pair (.pair (.int .i64) (.pair (.int .i64) (.pair (.int .i64) (.pair (.int .i64) .unit)))) (.pair (.int .i64) .unit)),(.int .i64),(.pair (.int .i64) (.pair (.int .i64) (.pair (.list (.list (.int .i64))) (.pair (.list (.int .i64)) .unit)))),(.int .i64)],[(0,.v 0),(1,.v 1),(2,.addr 2),(3,.addr 3)],[]⟩
def zjf:Shape:=⟨[(.pair (.pair (.int .i64) (.pair (.int .i64) (.pair (.int .i64) (.pair (.int .i64) .unit)))) (.pair (.int .i64) .unit))],[(0,.v 0)],[]⟩
def zfV:CE:=⟨13,zjg,zjf,fun X=>zbl X.1 X.2.1 X.2.2.1 X.2.2.2⟩
open Classical in
theorem zkp:CE.ok Try.prog zfV where
  call:=Try.call13
  fc X Y hY:=by
    obtain ⟨r,a,m,n⟩:Rcd×Int×Mlr×Int:=X
    obtain ⟨⟨r0,r1,r2,r3,_⟩,st,_⟩:=r
    have hY:zbl ((r0,r1,r2,r3,()),st,()) a m n=some Y:=hY
    intro w Xs H vs hX hlow hH hvs hargs
    have hvs:vs.size=4:=hvs
    have v0:=hargs 0 (by show 0 < 4;omega)
    have v1:=hargs 1 (by show 1 < 4;omega)
    have v2:=hargs 2 (by show 2 < 4;omega)
    have v3:=hargs 3 (by show 3 < 4;omega)
    have ev:vs=#[vs.getD 0 undef,vs.getD 1 undef,vs.getD 2 undef,vs.getD 3 undef]:=by
      apply Array.ext
      · rw [hvs];rfl
      · intro i h2 h3
        have h3:i < 4:=h3
        match i,h3 with
        | 0,_=>simp [Array.getD,h2]
        | 1,_=>simp [Array.getD,h2]
        | 2,_=>simp [Array.getD,h2]
        | 3,_=>simp [Array.getD,h2]
    generalize vs.getD 0 undef=u0 at v0 ev
    generalize vs.getD 1 undef=u1 at v1 ev
    generalize vs.getD 2 undef=u2 at v2 ev
    generalize vs.getD 3 undef=u3 at v3 ev
    subst ev
    have hne:∀ id,zbr (hpSt [] []) id=none:=znN
    have v0:VRel w (Sh Xs (zbr (hpSt [] [])) H w) H (.d (.agg [.lit (.int .i64 r0),.lit (.int .i64 r1),.lit (.int .i64 r2),.lit (.int .i64 r3),.lit (.int .i64 st)])) u0:=v0
    have v1:VRel w (Sh Xs (zbr (hpSt [] [])) H w) H (.d (.lit (.int .i64 a))) u1:=v1
    have e0:u0 = .agg #[.int .i64 r0,.int .i64 r1,.int .i64 r2,.int .i64 r3,.int .i64 st]:=by cases v0 with | d _ _ h=>exact agg5 h
    have e1:u1 = .int .i64 a:=by cases v1 with | d _ _ h=>cases h;rfl
    obtain ⟨bm,om,q2,q3,e2,hSm,hm2,_,hD2,_⟩:=zs6 (w:=w) (S:=Sh Xs (zbr (hpSt [] [])) H w) (H:=H) (m:=m) v2
    obtain ⟨bn,on,e3,hSn,hn⟩:=zs5 (w:=w) (S:=Sh Xs (zbr (hpSt [] [])) H w) (H:=H) (n:=n) v3
    subst e0 e1 e2 e3
    unfold zbl at hY
    dsimp only at hY
    by_cases c1:0<=r0/\r0 < m.2.2.1.length/\m.2.2.1.length<=4
    case neg=>unfold G at hY;rw [if_neg c1] at hY;cases hY
    rw [zdw c1] at hY
    by_cases c2:0<=a/\a < (ix m.2.2.1 r0).length
    case neg=>unfold G at hY;rw [if_neg c2] at hY;cases hY
    rw [zdw c2] at hY
    by_cases c3:1<=n/\n<=4
    case neg=>unfold G at hY;rw [if_neg c3] at hY;cases hY
    rw [zdw c3] at hY
    obtain ⟨kk,hk,hY⟩:=Option.bind_eq_some_iff.1 hY
    by_cases c4:0<=kk/\kk<=3
    case neg=>unfold G at hY;rw [if_neg c4] at hY;cases hY
    rw [zdw c4] at hY
    have hY:=Option.some.inj hY
    obtain ⟨p,rfl⟩:∃ p:Nat,r0=p:=⟨r0.toNat,by omega⟩
    obtain ⟨b,rfl⟩:∃ b:Nat,a=b:=⟨a.toNat,by omega⟩
    obtain ⟨nn,rfl⟩:∃ nn:Nat,n=nn:=⟨n.toNat,by omega⟩
    obtain ⟨k,rfl⟩:∃ k:Nat,kk=k:=⟨kk.toNat,by omega⟩
    have hp:p < m.2.2.1.length:=by omega
    have gx:ix m.2.2.1 (p:Int)=m.2.2.1[p]:=by rw [zio (by omega) (by omega)];rfl
    have hb:b < (ix m.2.2.1 (p:Int)).length:=by omega
    have hD2:DRel w _ (.sl 24 (m.2.2.1.map (encD (.list (.int .i64))))) q2:=hD2
    obtain ⟨b2,o2,c2',u,rfl,hS2,hc2,hr2⟩:=zs9 hD2 p (by rw [List.length_map];exact hp) (x:=encD (.list (.int .i64)) (ix m.2.2.1 (p:Int))) (by rw [List.getD_eq_getElem?_getD,List.getElem?_map,List.getElem?_eq_getElem hp,gx];rfl) rfl
    have hr2:DRel w _ (.sl 8 ((ix m.2.2.1 (p:Int)).map (encD (.int .i64)))) u:=hr2
    obtain ⟨b3,o3,c3',u',rfl,hS3,hc3,hr3⟩:=zs9 hr2 b (by rw [List.length_map];exact hb) (x := .lit (.int .i64 (ix (ix m.2.2.1 (p:Int)) (b:Int)))) (by rw [List.getD_eq_getElem?_getD,List.getElem?_map,List.getElem?_eq_getElem hb,zio (l:=ix m.2.2.1 (p:Int)) (by omega) (by omega)];rfl) rfl
    generalize ix (ix m.2.2.1 (p:Int)) (b:Int)=to at hk hY hr3
    cases hr3
    have hkk:(k:Int).toNat=k:=Int.toNat_natCast k
    refine (md1 p b r1 r2 r3 st to bm om bn on b2 o2 _ c2' b3 o3 _ c3' nn k w (by omega) hm2 hSm.1 hc2 hS2.1 (by rw [List.length_map];exact hp) (by rw [List.length_map];omega) hc3 hS3.1 (by rw [List.length_map];exact hb) hn hSn.1 (by omega) (fun W hW hB => ?_)).mono ?_
    · refine CE.dcall zgl ([(p:Int),r1,r2,r3].take nn,to) (k:Int) hk rfl rfl [_,_] rfl (.int .i64 k) rfl (fun c hc=>Nat.lt_of_lt_of_le (hX c hc) hB.size) #[_,_] rfl (fun i hi => ?_)
      match i,hi with
      | 0,_=>exact rowD hW (fun h=>Nat.lt_irrefl _ (hX _ h)) (by omega)
      | 1,_=>exact .lit _ rfl
    · rintro e w' ⟨rfl,hb⟩
      refine ⟨_,_,_,H,rfl,⟨rfl,rfl⟩,⟨hb.os,hb.tape,hb.output,hb.size⟩,fun b hb' _=>hb.block b hb',?_,?_,fun _ _=>rfl,?_⟩
      · exact ⟨fun id e he=>absurd ((hne id).symm.trans he) (by simp),fun id e v b he=>absurd ((hne id).symm.trans he) (by simp),fun i j e e' v v' b he=>absurd ((hne i).symm.trans he) (by simp)⟩
      · rintro b ⟨id,e,v,he,_⟩
        exact absurd ((hne id).symm.trans he) (by simp)
      · rw [<- hY]
        unfold mtfR
        rw [hkk]
        refine .d _ _ (.agg [.lit (.int .i64 _),.lit (.int .i64 _),.lit (.int .i64 _),.lit (.int .i64 _),.lit (.int .i64 _)] #[_,_,_,_,_] rfl fun i hi => ?_)
        have hi:i < 5:=hi
        match i,hi with
        | 0,_=>exact .lit _ rfl
        | 1,_=>exact .lit _ rfl
        | 2,_=>exact .lit _ rfl
        | 3,_=>exact .lit _ rfl
        | 4,_=>exact .lit _ rfl
end


def zdO:Shape:=⟨[(.list (.int .i64)),(.int .i64)],[(0,.v 0),(1,.v 1)],[]⟩
def zdN:Shape:=⟨[.bool],[(0,.v 0)],[]⟩
def zh6:CE:=⟨16,zdO,zdN,fun X=>zco X.1 X.2⟩
theorem zh7:CE.ok Try.prog zh6:=CE.of (Γ:=[zgk]) (by kernel_rfl) zcV (GOK.cons zgl (GOK.nil)) ⟨[],[],[],[]⟩ Try.func16 rfl Try.ntmps16 (rs:=[.tmp 4]) rfl (sig:=zdO) (out:=zdN) rfl Try.call16 (fun X=>by kernel_rfl)

section
open Go.RowKit (Below)
theorem md3 (r0 r1 r2 r3:Int) (h0:0<=r0) (h1:0<=r1) (h2:0<=r2) (h3:0<=r3) (st n:Nat) (hst:st<=3) (hn4:n<=4) (bn on bm om:Nat) (gv:Value) (b:Bool) (w:World)
    (hn:w.cell? ⟨bn,on,none⟩=some (.int .i64 n)) (hbn:bn < w.heap.size) (hm:w.cell? ⟨bm,om+3,none⟩=some gv) (hbm:bm < w.heap.size)
    (hCt:∀ W:World,Below w.heap.size w W->Calls Try.prog 16 #[gv,.int .i64 (addB r0 r1 r2 r3 (st+1))] W fun e W'=>e = .returned (.bool b)/\Below W.heap.size W W'):
    Calls Try.prog 15 #[.agg #[.int .i64 r0,.int .i64 r1,.int .i64 r2,.int .i64 r3,.int .i64 st],.pointer (some ⟨bn,on,none⟩),.pointer (some ⟨bm,om,none⟩)] w fun e w'=>
      e = .returned (.int .i64 (if b=true then 2 * ((n:Int) - st) else 2 * ((n:Int) - st) - 1))/\Below w.heap.size w w':=by
  have hs0:∀ (b o:Nat) (W:World),(Instr.sliceAt 39 (.pointer (some ⟨b,o,none⟩)) none (some (.int .i64 ((st:Int)+1))) none).run Try.prog W = .ok (.slice (some ⟨b,o,none⟩) (st+1) 4) W:=fun b o W=>zoy b o (st+1) (by omega) W
  have hcell:∀ (W:World) (b:Nat) (x0 x1 x2 x3 x4:Value),W.heap[b]? =some (.cells #[x0,x1,x2,x3,x4] 41)->W.cell? ⟨b,0,none⟩=some x0/\W.cell? ⟨b,1,none⟩=some x1/\W.cell? ⟨b,2,none⟩=some x2/\W.cell? ⟨b,3,none⟩=some x3/\W.cell? ⟨b,4,none⟩=some x4:=fun W b x0 x1 x2 x3 x4 h=>
    ⟨by rw [cell_of_row W _ 0 _ 41 (0,0) h];rfl,by rw [cell_of_row W _ 1 _ 41 (0,0) h];rfl,by rw [cell_of_row W _ 2 _ 41 (0,0) h];rfl,by rw [cell_of_row W _ 3 _ 41 (0,0) h];rfl,by rw [cell_of_row W _ 4 _ 41 (0,0) h];rfl⟩
  go_enter Try.func15,Try.ntmps15
  go_wp2
  have hA:=World.alloc_heap_new w (.cells #[.int .i64 r0,.int .i64 r1,.int .i64 r2,.int .i64 r3,.int .i64 st] 41)
  have hBl:Below w.heap.size w (w.alloc (.cells #[.int .i64 r0,.int .i64 r1,.int .i64 r2,.int .i64 r3,.int .i64 st] 41)):=(Below.refl _ w).alloc (Nat.le_refl _) _
  generalize w.alloc (.cells #[.int .i64 r0,.int .i64 r1,.int .i64 r2,.int .i64 r3,.int .i64 st] 41)=W at hA hBl
  obtain ⟨g0,g1,g2,g3,g4⟩:=hcell W _ _ _ _ _ _ hA
  have gn:W.cell? ⟨bn,on,none⟩=some (.int .i64 n):=by rw [World.cell?_of_block (w:=w) (w':=W) (hBl.block bn hbn)];exact hn
  have gm:W.cell? ⟨bm,om+3,none⟩=some gv:=by rw [World.cell?_of_block (w:=w) (w':=W) (hBl.block bm hbm)];exact hm
  go_loopw [5,15] (fun s i wr=>∃ k:Nat,k<=st+1/\i = .int .i64 k/\s = .int .i64 (addB r0 r1 r2 r3 k)/\wr=W) (fun _ i _=>match i with | .int .i64 m=>(st+1) - m.toNat | _=>0)
  case atStart=>exact ⟨0,by omega,rfl,rfl,rfl⟩
  case round=>
    obtain ⟨k,hk,rfl,rfl,rfl⟩:=hrel
    by_cases hlt:k < st+1
    · have hkc:(k:Int) < ((st+1:Nat):Int):=by omega
      have hcx:wr.cell? ⟨w.heap.size,k,none⟩=some (.int .i64 (rowB r0 r1 r2 r3 k)):=by
        obtain rfl | rfl | rfl | rfl:k=0\/k=1\/k=2\/k=3:=by omega
        · exact g0
        · exact g1
        · exact g2
        · exact g3
      have hq0:0<=rowB r0 r1 r2 r3 k:=by
        obtain rfl | rfl | rfl | rfl:k=0\/k=1\/k=2\/k=3:=by omega
        · exact h0
        · exact h1
        · exact h2
        · exact h3
      have hS:addB r0 r1 r2 r3 (k+1)=ior .i64 (addB r0 r1 r2 r3 k) (ishl .i64 1 (rowB r0 r1 r2 r3 k)):=rfl
      generalize rowB r0 r1 r2 r3 k=q at hcx hq0 hS
      generalize hs:addB r0 r1 r2 r3 k=s at hS
      go_wp2
      go_roundw
      case rel=>
        refine ⟨k+1,by omega,rfl,?_,trivial⟩
        rw [hS]
        show _=Value.int .i64 (ior .i64 s (IntKind.wrap .i64 (1 * 2 ^ min q.toNat 64)))
        have hw:∀ x:Int,RowKit.wrap64 x=IntKind.wrap .i64 x:=fun x=>by
          unfold RowKit.wrap64 IntKind.wrap;simp [IntKind.bits,IntKind.signed]<;>omega
        rw [hw,Int.one_mul]
        rfl
      case measure=>simp;omega
    · obtain rfl:k=st+1:=by omega
      generalize hs:addB r0 r1 r2 r3 (st+1)=s at hCt
      cases b with
      | true=>
        go_wp2_with (go_at_call 16;refine (hCt _ hBl).mono ?_;rintro e w2 ⟨rfl,hB2⟩)
        go_ret
        exact ⟨rfl,hBl.trans (hB2.mono hBl.size)⟩
      | false=>
        go_wp2_with (go_at_call 16;refine (hCt _ hBl).mono ?_;rintro e w2 ⟨rfl,hB2⟩)
        go_ret
        exact ⟨rfl,hBl.trans (hB2.mono hBl.size)⟩
end
section
open Go.RowKit (Below)
def zji:Shape:=⟨[(.pair (.pair (.int .i64) (.pair (.int .i64) (.pair (.int .i64) (.pair (.int .i64) .unit)))) (.pair (.int .i64) .unit)),(.int .i64),(.pair (.int .i64) (.pair (.int .i64) (.pair (.list (.list (.int .i64))) (.pair (.list (.int .i64)) .unit))))],[(0,.v 0),(1,.addr 1),(2,.addr 2)],[]⟩
def zjh:Shape:=⟨[(.int .i64)],[(0,.v 0)],[]⟩
def zfW:CE:=⟨15,zji,zjh,fun X=>zbm X.1 X.2.1 X.2.2⟩
open Classical in
theorem zkq:CE.ok Try.prog zfW where
  call:=Try.call15
  fc X Y hY:=by
    obtain ⟨r,n,m⟩:Rcd×Int×Mlr:=X
    obtain ⟨⟨r0,r1,r2,r3,_⟩,st,_⟩:=r
    have hY:zbm ((r0,r1,r2,r3,()),st,()) n m=some Y:=hY
    intro w Xs H vs hX hlow hH hvs hargs
    have hvs:vs.size=3:=hvs
    have v0:=hargs 0 (by show 0 < 3;omega)
    have v1:=hargs 1 (by show 1 < 3;omega)
    have v2:=hargs 2 (by show 2 < 3;omega)
    have ev:vs=#[vs.getD 0 undef,vs.getD 1 undef,vs.getD 2 undef]:=by
      apply Array.ext
      · rw [hvs];rfl
      · intro i h2 h3
        have h3:i < 3:=h3
        match i,h3 with
        | 0,_=>simp [Array.getD,h2]
        | 1,_=>simp [Array.getD,h2]
        | 2,_=>simp [Array.getD,h2]
    generalize vs.getD 0 undef=u0 at v0 ev
    generalize vs.getD 1 undef=u1 at v1 ev
    generalize vs.getD 2 undef=u2 at v2 ev
    subst ev
    have hne:∀ id,zbr (hpSt [] []) id=none:=znN
    have v0:VRel w (Sh Xs (zbr (hpSt [] [])) H w) H (.d (.agg [.lit (.int .i64 r0),.lit (.int .i64 r1),.lit (.int .i64 r2),.lit (.int .i64 r3),.lit (.int .i64 st)])) u0:=v0
    have e0:u0 = .agg #[.int .i64 r0,.int .i64 r1,.int .i64 r2,.int .i64 r3,.int .i64 st]:=by cases v0 with | d _ _ h=>exact agg5 h
    obtain ⟨bn,on,e1,hSn,hn⟩:=zs5 (w:=w) (S:=Sh Xs (zbr (hpSt [] [])) H w) (H:=H) (n:=n) v1
    obtain ⟨bm,om,q2,q3,e2,hSm,_,hm3,_,hD3⟩:=zs6 (w:=w) (S:=Sh Xs (zbr (hpSt [] [])) H w) (H:=H) (m:=m) v2
    subst e0 e1 e2
    unfold zbm at hY
    dsimp only at hY
    by_cases c1:0<=r0/\0<=r1/\0<=r2/\0<=r3
    case neg=>unfold G at hY;rw [if_neg c1] at hY;cases hY
    rw [zdw c1] at hY
    by_cases c2:0<=st/\st<=3
    case neg=>unfold G at hY;rw [if_neg c2] at hY;cases hY
    rw [zdw c2] at hY
    by_cases c3:0<=n/\n<=4
    case neg=>unfold G at hY;rw [if_neg c3] at hY;cases hY
    rw [zdw c3] at hY
    obtain ⟨b,hb,hY⟩:=Option.bind_eq_some_iff.1 hY
    have hY:=Option.some.inj hY
    obtain ⟨s,rfl⟩:∃ s:Nat,st=s:=⟨st.toNat,by omega⟩
    obtain ⟨nn,rfl⟩:∃ nn:Nat,n=nn:=⟨n.toNat,by omega⟩
    rw [Int.toNat_natCast] at hb
    refine (md3 r0 r1 r2 r3 c1.1 c1.2.1 c1.2.2.1 c1.2.2.2 s nn (by omega) (by omega) bn on bm om q3 b w hn hSn.1 hm3 hSm.1 (fun W hB => ?_)).mono ?_
    · refine CE.dcall zh7 (m.2.2.2.1,addB r0 r1 r2 r3 (s+1)) b hb rfl rfl [_,_] rfl (.bool b) rfl (fun c hc=>Nat.lt_of_lt_of_le (hX c hc) hB.size) #[_,_] rfl (fun i hi => ?_)
      match i,hi with
      | 0,_=>exact hD3.mono fun c hc=>⟨⟨Nat.lt_of_lt_of_le hc.1 hB.size,hc.2.1⟩,hB.block c hc.1⟩
      | 1,_=>exact .lit _ rfl
    · rintro e w' ⟨rfl,hb⟩
      refine ⟨_,_,_,H,rfl,⟨rfl,rfl⟩,⟨hb.os,hb.tape,hb.output,hb.size⟩,fun b hb' _=>hb.block b hb',?_,?_,fun _ _=>rfl,?_⟩
      · exact ⟨fun id e he=>absurd ((hne id).symm.trans he) (by simp),fun id e v b he=>absurd ((hne id).symm.trans he) (by simp),fun i j e e' v v' b he=>absurd ((hne i).symm.trans he) (by simp)⟩
      · rintro b ⟨id,e,v,he,_⟩
        exact absurd ((hne id).symm.trans he) (by simp)
      · rw [<- hY]
        exact .d _ _ (.lit _ rfl)
end


def zfF:Shape:=⟨[(.int .i64),(.pair (.pair (.int .i64) (.pair (.int .i64) (.pair (.int .i64) (.pair (.int .i64) .unit)))) (.pair (.int .i64) .unit)),(.pair (.int .i64) (.pair (.int .i64) (.pair (.list (.list (.int .i64))) (.pair (.list (.int .i64)) .unit)))),(.int .i64),(.int .i64),(.pair (.int .i64) (.pair (.int .i64) (.pair (.list (.list (.int .i64))) (.pair (.list (.int .i64)) .unit)))),(.int .i64)],[(0,.v 0),(1,.v 1),(2,.fn 13 [.addr 2,.addr 3]),(3,.fn 15 [.addr 4,.addr 5]),(4,.v 6)],[]⟩
def zfE:Shape:=⟨[(.pair (.int .i64) (.pair (.int .i64) (.pair (.list (.list (.int .i64))) (.pair (.list (.int .i64)) .unit)))),.bool],[(0,.v 0),(1,.v 1)],[]⟩
def zgK:CE:=⟨12,zfF,zfE,fun X=>zg5 X.1 X.2.1 X.2.2.1 X.2.2.2.1 X.2.2.2.2.1 X.2.2.2.2.2.1 X.2.2.2.2.2.2⟩
theorem zkS:CE.ok Try.prog zgK:=CE.of (Γ:=[zfV,zfW]) (by kernel_rfl) zcV (GOK.cons zkp (GOK.cons zkq (GOK.nil))) ⟨[(4,⟨⟨[(.int .i64),(.int .i64),(.list (.pair (.pair (.int .i64) (.pair (.int .i64) (.pair (.int .i64) (.pair (.int .i64) .unit)))) (.pair (.int .i64) .unit))),(.list (.int .i64)),(.list (.pair (.pair (.int .i64) (.pair (.int .i64) (.pair (.int .i64) (.pair (.int .i64) .unit)))) (.pair (.int .i64) .unit))),(.list (.list (.int .i64))),(.list (.int .i64))],[(12,.ptr 2 0),(13,.own 3),(14,.own 4)],[(2,.box 29 [.v 0,.v 1,.own 5,.own 6]),(3,.box 54 [.v 2,.v 3]),(4,.arr 41 4),(5,.arr 23 5),(6,.arr 3 6)]⟩,[11,15,16,17,18,19,20,23,25,27,28,29,30,31,32,33,34,35,36,37,38,39,40,41,42,43,44,45,46,47,48,49,50,51,52,53,54,55,56,57,58,59,60,61,62,63,64,65,66,67,68,69,70,71,72,73,74,75,76,77,78,79,80,81,82,83,84,85,86,87,88,89],[],[0,1],7,[(2,2,some 23,(.list (.int .i64))),(2,3,some 3,(.int .i64))]⟩),(8,⟨⟨[(.int .i64),(.list (.pair (.pair (.int .i64) (.pair (.int .i64) (.pair (.int .i64) (.pair (.int .i64) .unit)))) (.pair (.int .i64) .unit))),(.list (.int .i64)),(.list (.pair (.pair (.int .i64) (.pair (.int .i64) (.pair (.int .i64) (.pair (.int .i64) .unit)))) (.pair (.int .i64) .unit))),(.list (.int .i64))],[(13,.own 3),(14,.own 4),(16,.own 8),(43,.v 0)],[(3,.box 54 [.v 1,.v 2]),(4,.arr 41 3),(8,.arr 3 4)]⟩,[11,17,18,19,20,31,34,38,41,44,45,46,47,48,49,50,51,52,53,54,55,56,57,58,59,60,61,62,63,64,65,66,67,68,69,70,71,72,73,74,75],[],[0,1,2,5,6,7],9,[]⟩)],[(17,⟨⟨[(.int .i64),(.list (.pair (.pair (.int .i64) (.pair (.int .i64) (.pair (.int .i64) (.pair (.int .i64) .unit)))) (.pair (.int .i64) .unit))),(.list (.int .i64)),(.list (.pair (.pair (.int .i64) (.pair (.int .i64) (.pair (.int .i64) (.pair (.int .i64) .unit)))) (.pair (.int .i64) .unit)))],[(13,.own 3),(14,.own 10),(19,.v 0)],[(3,.box 54 [.v 1,.v 2]),(10,.arr 41 3)]⟩,[11,51,56,57,58,59,60,61,62,63,64,65,66,67,68,69,70],[4],[0,1,2,5,6,7,8,9],11,[]⟩)],[(21,[(0,0),(0,1),(0,2),(0,3),(1,4),(1,5),(2,6),(0,7),(2,8)])],[]⟩ Try.func12 rfl Try.ntmps12 (rs:=[.cell 10 29,.tmp 11]) rfl (sig:=zfF) (out:=zfE) rfl Try.call12 (fun X=>by kernel_rfl)

def zgO:Shape:=⟨[(.pair (.int .i64) (.pair (.int .i64) (.pair (.list (.list (.int .i64))) (.pair (.list (.int .i64)) .unit))))],[(0,.v 0)],[]⟩
def zgN:Shape:=⟨[(.pair (.int .i64) (.pair (.int .i64) (.pair (.list (.list (.int .i64))) (.pair (.list (.int .i64)) .unit)))),(.int .i64)],[(0,.v 0),(1,.v 1)],[]⟩
def zhI:CE:=⟨4,zgO,zgN,fun X=>zdv X⟩
theorem zl8:CE.ok Try.prog zhI:=CE.of (Γ:=[zfU,zgK]) (by kernel_rfl) zcV (GOK.cons zko (GOK.cons zkS (GOK.nil))) ⟨[],[(6,⟨⟨[(.int .i64),(.int .i64),(.int .i64),(.int .i64),(.int .i64)],[(6,.ptr 3 0)],[(3,.box 41 [.v 0,.v 1,.v 2,.v 3,.v 4])]⟩,[20,21,22,23,24,25,26,27],[],[0,1,2],4,[]⟩)],[],[(6,(.one 0 (.one 2 (.one 4 (.one 7 (.live [6,9] (.rd 3 [5,6,8,9] (.one 5 (.ban 1 [8,9] (.alt 2 6 (.leaf [(0,8),(2,9)]) .stop) (.alt 2 6 (.leaf [(0,1),(0,8),(2,9)]) .stop))))))))))]⟩ Try.func4 rfl Try.ntmps4 (rs:=[.cell 2 29,.tmp 3]) rfl (sig:=zgO) (out:=zgN) rfl Try.call4 (fun X=>by kernel_rfl)

def zhY:Shape:=⟨[(.pair (.int .i64) (.pair (.int .i64) (.pair (.list (.list (.int .i64))) (.pair (.list (.int .i64)) .unit))))],[(0,.v 0)],[]⟩
def zhX:Shape:=⟨[(.int .i64)],[(0,.v 0)],[]⟩
def ziZ:CE:=⟨5,zhY,zhX,fun X=>zhT X⟩
theorem zm4:CE.ok Try.prog ziZ:=CE.of (Γ:=[]) (by kernel_rfl) zcV (GOK.nil) ⟨[(7,⟨⟨[(.int .i64)],[(4,.v 0)],[]⟩,[2,26,27,28,29,30,31,32,33,34,35,36,37,38,39],[],[0],1,[]⟩),(14,⟨⟨[(.int .i64)],[(5,.v 0)],[]⟩,[2,6,49,50,51,52,53,54,55,56,57,58,59,60,61,62,63,64,65,66,67,68,69,70,71,72,73,74,75,76,77,78,79,80],[],[0],1,[]⟩),(17,⟨⟨[(.int .i64)],[(6,.v 0)],[]⟩,[2,54,55,56,57,58,59,60,61,62,63,64,65,66,67,68,69,70,71,72,73,74,75,76,77,78,79,80],[],[0],1,[]⟩),(22,⟨⟨[(.int .i64)],[(7,.v 0)],[]⟩,[2,81,82,83,84,85,86,87,88,89,90,91,92,93,94,95,96,97,98,99,100,101,102,103],[],[0],1,[]⟩),(27,⟨⟨[(.int .i64)],[(8,.v 0)],[]⟩,[2,104,105,106,107,108,109,110,111,112,113,114,115,116,117,118,119,120,121,122],[],[0],1,[]⟩)],[],[(9,[(0,0),(0,1),(0,2),(0,3),(0,4),(0,5),(0,6),(0,7),(0,8)]),(24,[(0,0),(0,1),(0,2),(0,3),(0,4),(0,5),(0,6),(0,7),(0,8),(0,9),(0,10),(0,11),(0,12),(0,13),(0,14),(0,15)]),(29,[(0,0),(0,1),(0,2),(0,3),(0,4),(0,5),(0,6),(0,7),(0,8),(0,9),(0,10),(0,11)])],[]⟩ Try.func5 rfl Try.ntmps5 (rs:=[.tmp 2]) rfl (sig:=zhY) (out:=zhX) rfl Try.call5 (fun X=>by kernel_rfl)

def zhB:Shape:=⟨[(.pair (.int .i64) (.pair (.int .i64) (.pair (.list (.list (.int .i64))) (.pair (.list (.int .i64)) .unit))))],[(0,.v 0)],[]⟩
def zhA:Shape:=⟨[.bool],[(0,.v 0)],[]⟩
def ziS:CE:=⟨6,zhB,zhA,fun X=>zhz X⟩
theorem zmS:CE.ok Try.prog ziS:=CE.of (Γ:=[]) (by kernel_rfl) zcV (GOK.nil) ⟨[],[],[],[]⟩ Try.func6 rfl Try.ntmps6 (rs:=[.tmp 2]) rfl (sig:=zhB) (out:=zhA) rfl Try.call6 (fun X=>by kernel_rfl)

def zi3:Shape:=⟨[(.pair (.int .i64) (.pair (.int .i64) (.pair (.list (.list (.int .i64))) (.pair (.list (.int .i64)) .unit))))],[(0,.v 0)],[]⟩
def zi2:Shape:=⟨[(.int .i64)],[(0,.v 0)],[]⟩
def zkE:CE:=⟨7,zi3,zi2,fun X=>zjG X⟩
theorem znV:CE.ok Try.prog zkE:=CE.of (Γ:=[]) (by kernel_rfl) zcV (GOK.nil) ⟨[(9,⟨⟨[(.int .i64)],[(4,.v 0)],[]⟩,[2,30,31,32,33,34,35,36,37,38,39,40,41,42,43],[],[0],1,[]⟩),(16,⟨⟨[(.int .i64)],[(5,.v 0)],[]⟩,[2,6,53,54,55,56,57,58,59,60,61,62,63,64,65,66,67,68,69,70,71,72,73,74,75,76,77,78,79,80,81,82,83,84],[],[0],1,[]⟩),(19,⟨⟨[(.int .i64)],[(6,.v 0)],[]⟩,[2,58,59,60,61,62,63,64,65,66,67,68,69,70,71,72,73,74,75,76,77,78,79,80,81,82,83,84],[],[0],1,[]⟩),(24,⟨⟨[(.int .i64)],[(7,.v 0)],[]⟩,[2,85,86,87,88,89,90,91,92,93,94,95,96,97,98,99,100,101,102,103],[],[0],1,[]⟩)],[],[(11,[(0,0),(0,1),(0,2),(0,3),(0,4),(0,5),(0,6),(0,7),(0,8)])],[]⟩ Try.func7 rfl Try.ntmps7 (rs:=[.tmp 2]) rfl (sig:=zi3) (out:=zi2) rfl Try.call7 (fun X=>by kernel_rfl)

def zll:Shape:=⟨[(.int .i64),(.list (.int .i64))],[(0,.v 0),(1,.v 1)],[]⟩
def zlk:Shape:=⟨[(.int .i64)],[(0,.v 0)],[]⟩
def zm3:CE:=⟨17,zll,zlk,fun X=>zm1 X.1 X.2⟩
theorem zqG:CE.ok Try.prog zm3:=CE.of (Γ:=[]) (by kernel_rfl) zcV (GOK.nil) ⟨[(6,⟨⟨[(.int .i64)],[(5,.v 0)],[]⟩,[4,15,16,17,18,19,20,21,22,23,24,25,26,27,28,29,30,31,32,33],[],[],0,[]⟩)],[],[],[]⟩ Try.func17 rfl Try.ntmps17 (rs:=[.tmp 4]) rfl (sig:=zll) (out:=zlk) rfl Try.call17 (fun X=>by kernel_rfl)

def ziX:Shape:=⟨[(.int .i64),(.pair (.list (.int .i64)) (.pair (.list (.int .i64)) .unit))],[(0,.v 0),(1,.v 1)],[]⟩
def ziW:Shape:=⟨[(.int .i64)],[(0,.v 0)],[]⟩
def zkv:CE:=⟨8,ziX,ziW,fun X=>zjE X.1 X.2⟩
theorem znT:CE.ok Try.prog zkv:=CE.of (Γ:=[zm3]) (by kernel_rfl) zcV (GOK.cons zqG (GOK.nil)) ⟨[],[],[],[]⟩ Try.func8 rfl Try.ntmps8 (rs:=[.tmp 4]) rfl (sig:=ziX) (out:=ziW) rfl Try.call8 (fun X=>by kernel_rfl)

def zf3:Shape:=⟨[(.pair (.int .i64) (.pair (.int .i64) (.pair (.list (.list (.int .i64))) (.pair (.list (.int .i64)) .unit)))),(.pair (.list (.int .i64)) (.pair (.list (.int .i64)) .unit))],[(0,.v 0),(1,.v 1)],[]⟩
def zf2:Shape:=⟨[.bool],[(0,.v 0)],[]⟩
def zgP:CE:=⟨9,zf3,zf2,fun X=>zfc X.1 X.2⟩
theorem zk1:CE.ok Try.prog zgP:=CE.of (Γ:=[]) (by kernel_rfl) zcV (GOK.nil) ⟨[(3,⟨⟨[(.int .i64),(.int .i64)],[(5,.v 0),(6,.v 1)],[]⟩,[13,14,15,16,17,18,19,20,21,22,23,24,25,26,27,28,29,30,31],[],[0,1],2,[]⟩),(8,⟨⟨[(.int .i64),(.int .i64),(.int .i64)],[(5,.v 0),(7,.v 1),(8,.v 2)],[]⟩,[9,32,33,34,35,36,37,38,39,40,41,42,43,44,45,46,47,48,49,50,51,52,53,54,55,56,57,58,59,60,61,62,63,64,65,66,67],[],[0,1],2,[]⟩),(13,⟨⟨[(.int .i64),(.int .i64),(.int .i64)],[(5,.v 0),(7,.v 1),(9,.v 2)],[]⟩,[45,46,47,48,49,50,51,52,53,54,55,56,57,58,59,60,61,62,63,64,65,66,67],[],[0,1],2,[]⟩),(18,⟨⟨[(.int .i64)],[(10,.v 0)],[]⟩,[4,68,69,70,71,72,73,74,75,76,77,78,79,80,81],[],[0,1],2,[]⟩)],[(11,⟨⟨[(.int .i64)],[(7,.v 0)],[]⟩,[40,41,42,43,44],[],[0,1],2,[]⟩)],[(5,[(0,0),(0,1),(0,2),(0,3),(0,4),(0,5),(0,6),(0,7),(0,8),(0,9),(0,10),(0,11),(0,12)]),(15,[(0,0),(0,1),(0,2),(0,3),(0,4),(0,5),(0,6),(0,7),(0,8),(0,9),(0,10),(0,11),(0,12)])],[]⟩ Try.func9 rfl Try.ntmps9 (rs:=[.tmp 4]) rfl (sig:=zf3) (out:=zf2) rfl Try.call9 (fun X=>by kernel_rfl)

def zi1:Shape:=⟨[(.pair (.int .i64) (.pair (.int .i64) (.pair (.list (.list (.int .i64))) (.pair (.list (.int .i64)) .unit)))),(.int .i64),(.list (.int .i64))],[(0,.v 0),(1,.v 1),(2,.v 2)],[]⟩
def zi0:Shape:=⟨[(.int .i64)],[(0,.v 0)],[]⟩
def zkz:CE:=⟨18,zi1,zi0,fun X=>zjF X.1 X.2.1 X.2.2⟩
theorem znU:CE.ok Try.prog zkz:=CE.of (Γ:=[]) (by kernel_rfl) zcV (GOK.nil) ⟨[(2,⟨⟨[(.int .i64),(.int .i64)],[(1,.v 0),(7,.v 1)],[]⟩,[8,9,10,11,12,13,14,15,16,17,18,19,20,21,22,23,24],[],[0],1,[]⟩)],[],[(4,[(0,0),(0,1),(0,2),(0,3),(0,4),(0,5),(0,6),(0,7),(0,8),(0,9),(0,10),(0,11)])],[]⟩ Try.func18 rfl Try.ntmps18 (rs:=[.tmp 6]) rfl (sig:=zi1) (out:=zi0) rfl Try.call18 (fun X=>by kernel_rfl)

def zgU:Shape:=⟨[(.pair (.int .i64) (.pair (.int .i64) (.pair (.list (.list (.int .i64))) (.pair (.list (.int .i64)) .unit)))),(.pair (.list (.int .i64)) (.pair (.list (.int .i64)) .unit))],[(0,.v 0),(1,.v 1)],[]⟩
def zgT:Shape:=⟨[.bool],[(0,.v 0)],[]⟩
def zh3:CE:=⟨10,zgU,zgT,fun X=>zgD X.1 X.2⟩
theorem zmh:CE.ok Try.prog zh3:=CE.of (Γ:=[zkz]) (by kernel_rfl) zcV (GOK.cons znU (GOK.nil)) ⟨[(3,⟨⟨[(.int .i64),(.int .i64)],[(5,.v 0),(6,.v 1)],[]⟩,[16,17,18,19,20,21,22,23,24,25,26,27],[],[0,1],2,[]⟩),(8,⟨⟨[(.int .i64),(.int .i64),(.int .i64)],[(5,.v 0),(7,.v 1),(8,.v 2)],[]⟩,[9,28,29,30,31,32,33,34,35,36,37,38,39,40,41,42,43,44,45,46,47,48,49,50,51,52,53,54,55,56,57,58,59,60,61,62,63,64,65],[],[0,1],2,[]⟩),(11,⟨⟨[(.int .i64),(.int .i64),(.int .i64)],[(5,.v 0),(7,.v 1),(9,.v 2)],[]⟩,[35,36,37,38,39,40,41,42,43,44,45,46,47,48,49,50,51,52,53,54,55,56,57,58,59,60,61,62,63,64,65],[],[0,1],2,[]⟩)],[],[(13,[(0,0),(0,1),(0,2),(0,3),(0,4),(0,5),(0,6),(0,7),(0,8),(0,9),(0,10),(0,11),(0,12)])],[]⟩ Try.func10 rfl Try.ntmps10 (rs:=[.tmp 4]) rfl (sig:=zgU) (out:=zgT) rfl Try.call10 (fun X=>by kernel_rfl)

def zeB:Shape:=⟨[(.pair (.int .i64) (.pair (.int .i64) (.pair (.list (.list (.int .i64))) (.pair (.list (.int .i64)) .unit)))),(.pair (.list (.int .i64)) (.pair (.list (.int .i64)) .unit))],[(0,.v 0),(1,.v 1)],[]⟩
def zeA:Shape:=⟨[.bool],[(0,.v 0)],[]⟩
def zda:CE:=⟨3,zeB,zeA,fun X=>ze6 X.1 X.2⟩
theorem zje:CE.ok Try.prog zda:=CE.of (Γ:=[zhI,ziZ,ziS,zkE,zkv,zgP,zh3]) (by kernel_rfl) zcV (GOK.cons zl8 (GOK.cons zm4 (GOK.cons zmS (GOK.cons znV (GOK.cons znT (GOK.cons zk1 (GOK.cons zmh (GOK.nil)))))))) ⟨[],[],[],[]⟩ Try.func3 rfl Try.ntmps3 (rs:=[.tmp 4]) rfl (sig:=zeB) (out:=zeA) rfl Try.call3 (fun X=>by kernel_rfl)

end
end Go.Proofs.Ytakgldbjamggiaa.mullerDetW
