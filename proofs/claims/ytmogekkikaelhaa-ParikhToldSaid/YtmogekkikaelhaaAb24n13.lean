import Derived.Test.YtmogekkikaelhaaAb24n12
import Derived.Lib.SliceRun
set_option linter.unusedVariables false
set_option linter.unusedSimpArgs false
set_option linter.unusedSectionVars false
namespace Go.Ab
open Enc (enc)
section
variable {P:Program} {F:Fr} {ops:Array Oper} {σ:St} {o:Oper} {H:Hd} {a:Act} {w:World} {rest:List (Nat×Oper)} {K:St->Prop}
theorem zmo (b c:ByteArray):(b.toList==c.toList)=decide (b=c):=by
 rw [ByteArray.toList_eq,ByteArray.toList_eq];obtain ⟨⟨x⟩⟩:=b;obtain ⟨⟨y⟩⟩:=c;by_cases h:x=y<;>simp [h]
theorem RO.eqls {t t':TypeId} {x y:Operand} {b c:ByteArray} (ho:o.op = .binOp .eql t x y t') (hx:σ.ev x=some (.d (.lit (.string b)))) (hy:σ.ev y=some (.d (.lit (.string c)))):RO P F σ o (.d (.lit (.bool (decide (b=c))))):=
 RO.bin ho hx hy (fun w=>by rw [binOp_string_eql,zmo];rfl) rfl rfl (by simp)
theorem RO.neqs {t t':TypeId} {x y:Operand} {b c:ByteArray} (ho:o.op = .binOp .neq t x y t') (hx:σ.ev x=some (.d (.lit (.string b)))) (hy:σ.ev y=some (.d (.lit (.string c)))):RO P F σ o (.d (.lit (.bool (decide (¬ b=c))))):=
 RO.bin ho hx hy (fun w=>by rw [binOp_string_neq,zmo,decide_not];rfl) rfl rfl (by simp)
class Arr (β α:Type) [Enc β] [Enc α] where
 n:Nat
 at':β->Int->α
 cell:∀ (b:β) (i:Int),0<=i->i < n->((enc b).cells.drop (i.toNat * Enc.sz α)).take (Enc.sz α)=(enc (at' b i)).cells
theorem RO.idx_arr {β α:Type} [Enc β] [Enc α] [Arr β α] {t e:TypeId} {x i:Operand} {k:IntKind} {j:Int} {n:Nat} {b:β} {dsc:Bool} {bytes:Nat} {z:Value} (ho:o.op = .indexAddr t x i) (ht:P.underlying t=some (.array n e)) (he:TI P e dsc (Enc.sz α) bytes z)
  (hn:Arr.n β α=n) (hx:σ.ev x=some (.addr (enc b))) (hi:σ.ev i=some (.d (.lit (.int k j)))) (hj:0<=j/\j < n):RO P F σ o (.addr (enc (Arr.at' b j:α))):=fun H a w r=>by
 have hv:=r.ev hx;have hi':=r.lit hi;have hc:=Arr.cell (α:=α) b j hj.1 (by rw [hn];exact hj.2);have hl:(enc (Arr.at' b j:α)).cells.length=Enc.sz α:=Enc.hsz _;generalize enc (Arr.at' b j:α)=d at hc hl;generalize hb:enc b=db at hc hv;generalize hu:a.eval x=u at hv;cases hv with
 | addr _ bb off f hS hcell hrel=>
  refine ⟨.pointer (some ⟨bb,off+j.toNat * Enc.sz α,none⟩),fun w' _ => ?_,?_⟩
  ·simp [execOp,ho,Instr.indexAt,hu,hi',asIntOf,run_underlying ht,he.size,Instr.sureAddr,hj.1,hj.2,Addr.add]
  ·have hg:∀ q,q < d.cells.length->j.toNat * Enc.sz α+q < db.cells.length/\d.cells.getD q default=db.cells.getD (j.toNat * Enc.sz α+q) default:=by
    intro q hq;have hq2:q < Enc.sz α:=by omega
    have h1:((db.cells.drop (j.toNat * Enc.sz α)).take (Enc.sz α)).length=Enc.sz α:=by rw [hc,hl]
    simp at h1;refine ⟨by omega,?_⟩;rw [<- hc];simp [List.getD_eq_getElem?_getD,hq2]
   refine .addr _ bb (off+j.toNat * Enc.sz α) (fun q=>f (j.toNat * Enc.sz α+q)) hS (fun q hq => ?_) (fun q hq => ?_)
   ·rw [Nat.add_assoc];exact hcell _ (hg q hq).1
   ·rw [(hg q hq).2];exact hrel _ (hg q hq).1
theorem RO.idx_ptr {t e:TypeId} {x i:Operand} {k:IntKind} {j n:Nat} {id off:Nat} {size:Nat} {dsc:Bool} {bytes:Nat} {z:Value} (ho:o.op = .indexAddr t x i) (ht:P.underlying t=some (.array n e)) (he:TI P e dsc size bytes z)
  (hx:σ.ev x=some (.ptr id off)) (hi:σ.ev i=some (.d (.lit (.int k j)))) (hj:Nat.blt j n=true):RO P F σ o (.ptr id (off+j * size)):=fun H a w r=>by
 have hv:=r.ev hx;have hi':=r.lit hi;have hj:j < n:=by simpa using hj
 generalize hu:a.eval x=u at hv;cases hv with
 | ptr _ _ b h=>
  refine ⟨.pointer (some ⟨b,off+j * size,none⟩),fun w' _ => ?_,.ptr _ _ _ h⟩;simp [execOp,ho,Instr.indexAt,hu,hi',asIntOf,run_underlying ht,he.size,Instr.sureAddr,hj,Addr.add]
end
structure A2 (α:Type) where
 x0:α
 x1:α
 deriving DecidableEq
structure A3 (α:Type) where
 x0:α
 x1:α
 x2:α
 deriving DecidableEq
structure A4 (α:Type) where
 x0:α
 x1:α
 x2:α
 x3:α
 deriving DecidableEq
structure A5 (α:Type) where
 x0:α
 x1:α
 x2:α
 x3:α
 x4:α
 deriving DecidableEq
section
variable {α:Type} [Enc α]
theorem all_app {l m:List D} (h:l.all D.one=true) (h':m.all D.one=true):(l++m).all D.one=true:=by simp only [List.all_append,h,h',Bool.and_self]
instance [Inhabited α]:Inhabited (A2 α):=⟨⟨default,default⟩⟩
instance [Inhabited α]:Inhabited (A3 α):=⟨⟨default,default,default⟩⟩
instance [Inhabited α]:Inhabited (A4 α):=⟨⟨default,default,default,default⟩⟩
instance [Inhabited α]:Inhabited (A5 α):=⟨⟨default,default,default,default,default⟩⟩
def A2.ix (a:A2 α) (i:Int):α:=if i=0 then a.x0 else a.x1
def A3.ix (a:A3 α) (i:Int):α:=if i=0 then a.x0 else if i=1 then a.x1 else a.x2
def A4.ix (a:A4 α) (i:Int):α:=if i=0 then a.x0 else if i=1 then a.x1 else if i=2 then a.x2 else a.x3
def A5.ix (a:A5 α) (i:Int):α:=if i=0 then a.x0 else if i=1 then a.x1 else if i=2 then a.x2 else if i=3 then a.x3 else a.x4
end
class One (α:Type) [Enc α]:Prop where
 one:∀ x:α,(enc x).cells=[enc x]
instance:One Int:=⟨fun _=>rfl⟩
instance:One Bool:=⟨fun _=>rfl⟩
instance {α:Type} [Enc α]:One (List α):=⟨fun _=>rfl⟩
instance:One ByteArray:=⟨fun _=>rfl⟩
theorem One.sz {α:Type} [Enc α] [One α] (x:α):Enc.sz α=1:=by have:=Enc.hsz x;rw [One.one] at this;exact this.symm
theorem One.d {α:Type} [Enc α] [One α] (x:α):D.one (enc x)=true:=by
 have:=Enc.flat x;rw [One.one] at this;simpa using this
section
variable {α:Type} [Enc α] [One α]
instance:Enc (A2 α):=⟨fun m => .agg [enc m.x0,enc m.x1],2,2 * Enc.bts α,fun _=>rfl,fun m=>by simp [D.cells,One.d]⟩
instance:Enc (A3 α):=⟨fun m => .agg [enc m.x0,enc m.x1,enc m.x2],3,3 * Enc.bts α,fun _=>rfl,fun m=>by simp [D.cells,One.d]⟩
instance:Enc (A4 α):=⟨fun m => .agg [enc m.x0,enc m.x1,enc m.x2,enc m.x3],4,4 * Enc.bts α,fun _=>rfl,fun m=>by simp [D.cells,One.d]⟩
instance:Enc (A5 α):=⟨fun m => .agg [enc m.x0,enc m.x1,enc m.x2,enc m.x3,enc m.x4],5,5 * Enc.bts α,fun _=>rfl,fun m=>by simp [D.cells,One.d]⟩
theorem ziU {l:List D} {i:Nat} {x:α} (h:l[i]? =some (enc x)):(l.drop (i * Enc.sz α)).take (Enc.sz α)=(enc x).cells:=by
 rw [One.sz x,Nat.mul_one,One.one];have hi:i < l.length:=(List.getElem?_eq_some_iff.1 h).1;have hx:l[i]=enc x:=(List.getElem?_eq_some_iff.1 h).2;rw [List.drop_eq_getElem_cons hi,hx];rfl
instance:Arr (A2 α) α where
 n:=2
 at':=A2.ix
 cell b i h0 h:=by
  rcases (by omega:i=0\/i=1) with rfl | rfl<;>exact ziU rfl
instance:Arr (A3 α) α where
 n:=3
 at':=A3.ix
 cell b i h0 h:=by
  rcases (by omega:i=0\/i=1\/i=2) with rfl | rfl | rfl<;>exact ziU rfl
instance:Arr (A4 α) α where
 n:=4
 at':=A4.ix
 cell b i h0 h:=by
  rcases (by omega:i=0\/i=1\/i=2\/i=3) with rfl | rfl | rfl | rfl<;>exact ziU rfl
instance:Arr (A5 α) α where
 n:=5
 at':=A5.ix
 cell b i h0 h:=by
  rcases (by omega:i=0\/i=1\/i=2\/i=3\/i=4) with rfl | rfl | rfl | rfl | rfl<;>exact ziU rfl
end
section
variable {P:Program} {F:Fr} {ops:Array Oper} {σ:St} {o:Oper} {H:Hd} {a:Act} {w:World} {rest:List (Nat×Oper)} {K:St->Prop}
def St.setAll (σ:St) (ks:List Nat) (x:AV):St:=ks.foldl (fun s k=>s.set k x) σ
def zgW (σ:St) (id:Nat):List Nat->Bool
 | []=>true
 | k::ks=>(match σ.get k with | some (.ptr i 0)=>Nat.beq i id | _=>false) && zgW σ id ks
theorem zen (x:AV):∀ (ks:List Nat) (s:St),RelH F s H a w->(∀ k∈ks,VRel w (Sh F.X s.ent H w) H x (a.tmps.getD k undef))->RelH F (s.setAll ks x) H a w
 | [],s,r,_=>r
 | k::ks,s,r,h=>zen x ks (s.set k x) (r.setAV (h k (by simp))) (fun k' hk'=>h k' (by simp [hk']))
theorem RelH.freezeB (r:RelH F σ H a w) {id:Nat} {T:TypeId} {x:D} (ks:List Nat) (hk:zgW σ id ks=true) (he:σ.ent id=some (.box T (avs x))):RelH F ((σ.put id none).setAll ks (.addr x)) H a w:=by
 have hks:∀ k∈ks,σ.get k=some (.ptr id 0):=by
  clear he;induction ks with
  | nil=>intro k h;cases h
  | cons k' ks ih=>
   simp only [zgW,Bool.and_eq_true] at hk;intro k h;rcases List.mem_cons.1 h with rfl | h
   ·have h1:=hk.1;cases hg:σ.get k with
    | none=>rw [hg] at h1;simp at h1
    | some y=>
     rw [hg] at h1
     match y,h1 with
     | .ptr i 0,h1=>have:=Nat.eq_of_beq_eq_true h1;subst this;rfl
   ·exact ih hk.2 k h
 refine zen _ ks _ (r.drop id) (fun k hkm => ?_);have hk:=hks k hkm;have hv:=r.slot k _ hk;obtain ⟨v,hH,hr⟩:=r.ent id _ he;have hlt:∀ b,blk v=some b->b < w.heap.size:=fun b hb=>hr.lt hb
 have hS:∀ c,Sh F.X σ.ent H w c->Sh F.X (σ.put id none).ent H w c/\w.heap[c]? =w.heap[c]? :=by
  intro c ⟨hc,hx,ho⟩;refine ⟨⟨hc,hx,fun j x u h1 h2 => ?_⟩,rfl⟩;rw [St.ent_put] at h1;by_cases hj:id=j
  ·rw [if_pos hj] at h1;cases h1
  ·rw [if_neg hj] at h1;exact ho j x u h1 h2
 have hSb:∀ b,blk v=some b->Sh F.X (σ.put id none).ent H w b:=by
  intro b hb;refine ⟨hlt b hb,(r.own id _ v b he hH hb).2,fun j x u h1 h2 h3 => ?_⟩;rw [St.ent_put] at h1;by_cases hj:id=j
  ·rw [if_pos hj] at h1;cases h1
  ·rw [if_neg hj] at h1;exact hj (r.inj id j _ x v u b he h1 hH h2 hb h3)
 generalize a.tmps.getD k undef=u at hv;cases hv with
 | ptr _ _ b h=>
  rw [hH] at h;cases h;obtain ⟨cur,hb,hs,hrel⟩:=hr.box_inv
  ·have hlen:(avs x).length=x.cells.length:=by simp [avs]
   refine .addr x b 0 (fun j=>cur.getD j undef) (hSb b rfl) (fun j hj => ?_) (fun j hj => ?_)
   ·rw [Nat.zero_add,cell_of_row w b j cur T (0,0) hb];have:j < cur.size:=by omega
    simp [Array.getD_eq_getD_getElem?, this]
   ·have h1:=hrel j (by rw [hlen];exact hj);have h2:(avs x).getD j default = .d (x.cells.getD j default):=by
     simp [avs,List.getD_eq_getElem?_getD,hj]
    rw [h2] at h1;cases h1 with
    | d _ _ h1=>exact h1.mono hS
theorem AO.freezeB {T:TypeId} {l:List (Nat×Oper)} (x:D) (id:Nat) (ks:List Nat) (hk:zgW σ id ks=true) (he:σ.ent id=some (.box T (avs x)))
  (h:AO P F ops l ((σ.put id none).setAll ks (.addr x)) K):AO P F ops l σ K:=
 AO.weak (fun _ _ ⟨H,r⟩=>⟨H,r.freezeB ks hk he⟩) h
theorem AW.freezeB {T:TypeId} {c:Code} {Q:Exit->St->Prop} (x:D) (id:Nat) (ks:List Nat) (hk:zgW σ id ks=true) (he:σ.ent id=some (.box T (avs x)))
  (h:AW P F c ((σ.put id none).setAll ks (.addr x)) Q):AW P F c σ Q:=
 AW.weak (fun _ _ ⟨H,r⟩=>⟨H,r.freezeB ks hk he⟩) h
def AV.pureA:AV->Bool
 | .d _=>true
 | .nil=>true
 | .addr _=>true
 | _=>false
def zt5 (l:List AV):Bool:=l.all AV.pureA
theorem zsU {idf:Bool} {mp:List (Nat×Option Nat)}:∀ {x:AV},x.pureA=true->ren idf mp x=some x
 | .d _,_=>rfl
 | .nil,_=>rfl
 | .addr _,_=>rfl
theorem zn9 {idf:Bool} {mp:List (Nat×Option Nat)}:∀ {l:List AV},zt5 l=true->renL idf mp l=some l
 | [],_=>rfl
 | x::l,h=>by
  simp only [zt5,List.all_cons,Bool.and_eq_true] at h;simp only [renL,zsU h.1,zn9 (l:=l) h.2]
theorem ren_fn {idf:Bool} {mp:List (Nat×Option Nat)} {g:Nat} {l:List AV} (h:zt5 l=true):ren idf mp (.fn g l)=some (.fn g l):=by
 simp only [ren,zn9 h]
theorem zsW {op:BinOp} (neq:Bool) (hop:op=if neq then .neq else .eql) {t t' e:TypeId} {x y:Operand} {α:Type} [Enc α] {l:List α} (ho:o.op = .binOp op t x y t') (ht:P.underlying t=some (.slice e)) (hx:σ.ev x=some (.d (enc l))) (hy:σ.ev y=some .nil) (r:RelH F σ H a w):
  ∃ b:Bool,roAt P o a w (.bool b)/\(b = !neq->l=[]):=by
 have hv:=r.ev hx;have hv2:=r.ev hy;generalize hu2:a.eval y=u2 at hv2;cases hv2;have hform:∃ a0 c,a.eval x = .slice a0 l.length c/\(a0=none->l=[]):=by
  generalize hu:a.eval x=u at hv;cases hv with
  | d _ _ h=>
   generalize hd:(enc l:D)=dd at h;cases h with
   | lit=>cases hd
   | ptr=>cases hd
   | agg=>cases hd
   | nil _ a0 c hc hn=>
    injection hd with h1 h2
    simp at h2;subst h2;exact ⟨a0,c,rfl,fun _=>rfl⟩
   | sl bts ll b off c sz f h0 hsz hb hc hm hbt hcs hcell hrel=>
    injection hd with h1 h2
    subst h2;exact ⟨some ⟨b,off,none⟩,c,by rw [List.length_map],fun h=>by cases h⟩
 obtain ⟨a0,c,hu,h0⟩:=hform;have hu1:(Value.slice a0 l.length c).oneCell'=true:=rfl;have hi:(Value.slice a0 l.length c) ≠ .nilIface:=by simp
 cases neq
 ·refine ⟨a0.isNone,fun w' _ => ?_,fun h=>h0 (by simpa using h)⟩;simp only [Bool.false_eq_true,if_false] at hop;subst hop;simp [execOp,ho,hu,hu2,ze8 P .eql t x y _ _ _ hu1 hi,Lib.run_eql_slice_nil w' t e a0 l.length c 0 0 ht]
 ·refine ⟨!a0.isNone,fun w' _ => ?_,fun h=>h0 (by simpa using h)⟩;simp only [if_true] at hop;subst hop;have:(binOp .neq t (.slice a0 l.length c) (.slice none 0 0)).run P w' = .ok (.bool (!a0.isNone)) w':=by
   simp only [binOp];simp [Op.equal,Op.maxDepth,Lib.run_equalIn_slice_nil w' 9999 t e a0 l.length c 0 0 ht]
  simp [execOp,ho,hu,hu2,ze8 P .neq t x y _ _ _ hu1 hi,this]
theorem AO.eqnil {op:BinOp} (neq:Bool) (hop:op=if neq then .neq else .eql) {t t' e:TypeId} {x y:Operand} {d:Nat} {α:Type} [Enc α] {l:List α} (hd:o.dst=some d) (hlt:Nat.blt d σ.n=true) (hg:gOn ops σ o true)
  (ho:o.op = .binOp op t x y t') (ht:P.underlying t=some (.slice e)) (hx:σ.ev x=some (.d (enc l))) (hy:σ.ev y=some .nil)
  (h1:(true = !neq->l=[])->AO P F ops rest (σ.set d (.d (.lit (.bool true)))) K) (h2:(false = !neq->l=[])->AO P F ops rest (σ.set d (.d (.lit (.bool false)))) K):AO P F ops ((0,o)::rest) σ K:=by
 intro a w Q r hq;obtain ⟨H,r⟩:=r;rw [zcf,if_pos (hg.wanted r)];obtain ⟨b,hv,hl⟩:=zsW neq hop ho ht hx hy r;refine ⟨.bool b,hv,?_⟩;have hlt':d < σ.n:=by simpa using hlt
 have r':=r.set (v := .bool b) (x := .d (.lit (.bool b))) hlt' (.d _ _ (.lit _ rfl));rw [<- hd] at r';cases b
 ·exact h2 hl _ _ Q ⟨H,r'⟩ hq
 ·exact h1 hl _ _ Q ⟨H,r'⟩ hq
end
end Go.Ab
