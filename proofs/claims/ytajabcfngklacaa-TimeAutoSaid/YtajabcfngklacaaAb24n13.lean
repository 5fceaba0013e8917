import Derived.Test.YtajabcfngklacaaAb24n12
import Derived.Lib.SliceRun
set_option linter.unusedVariables false
set_option linter.unusedSimpArgs false
set_option linter.unusedSectionVars false
namespace Go.Ab
open Enc (enc)
section
variable {P:Program} {F:Fr} {ops:Array Oper} {σ:St} {o:Oper} {H:Hd} {a:Act} {w:World} {rest:List (Nat×Oper)} {K:St->Prop}
class Arr (β α:Type) [Enc β] [Enc α] where
 n:Nat
 at':β->Int->α
 cell:∀ (b:β) (i:Int),0<=i->i < n->((enc b).cells.drop (i.toNat * Enc.sz α)).take (Enc.sz α)=(enc (at' b i)).cells
theorem RO.idx_arr {β α:Type} [Enc β] [Enc α] [Arr β α] {t e:TypeId} {x i:Operand} {k:IntKind} {j:Int} {n:Nat} {b:β} {dsc:Bool} {bytes:Nat} {z:Value} (C:o.op = .indexAddr t x i) (D:P.underlying t=some (.array n e)) (E:TI P e dsc (Enc.sz α) bytes z)
  (I:Arr.n β α=n) (J:σ.ev x=some (.addr (enc b))) (L:σ.ev i=some (.d (.lit (.int k j)))) (l:0<=j/\j < n):RO P F σ o (.addr (enc (Arr.at' b j:α))):=fun H a w r=>by
 have p:=r.ev J;have s:=r.lit L;have m:=Arr.cell (α:=α) b j l.1 (by rw [I];exact l.2);have A:(enc (Arr.at' b j:α)).cells.length=Enc.sz α:=Enc.hsz _;generalize enc (Arr.at' b j:α)=d at m A;generalize Q:enc b=db at m p;generalize N:a.eval x=u at p;cases p with
 | addr _ B off f O c h=>
  refine ⟨.pointer (some ⟨B,off+j.toNat * Enc.sz α,none⟩),fun w' _ => ?_,?_⟩
  ·simp [execOp,C,Instr.indexAt,N,s,asIntOf,run_underlying D,E.size,Instr.sureAddr,l.1,l.2,Addr.add]
  ·have v:∀ q,q < d.cells.length->j.toNat * Enc.sz α+q < db.cells.length/\d.cells.getD q default=db.cells.getD (j.toNat * Enc.sz α+q) default:=by
    intro q g;have y:q < Enc.sz α:=by omega
    have M:((db.cells.drop (j.toNat * Enc.sz α)).take (Enc.sz α)).length=Enc.sz α:=by rw [m,A]
    simp at M;refine ⟨by omega,?_⟩;rw [<- m];simp [List.getD_eq_getElem?_getD,y]
   refine .addr _ B (off+j.toNat * Enc.sz α) (fun q=>f (j.toNat * Enc.sz α+q)) O (fun q g => ?_) (fun q g => ?_)
   ·rw [Nat.add_assoc];exact c _ (v q g).1
   ·rw [(v q g).2];exact h _ (v q g).1
theorem RO.idx_ptr {t e:TypeId} {x i:Operand} {k:IntKind} {j n:Nat} {id off:Nat} {size:Nat} {dsc:Bool} {bytes:Nat} {z:Value} (g:o.op = .indexAddr t x i) (l:P.underlying t=some (.array n e)) (m:TI P e dsc size bytes z)
  (p:σ.ev x=some (.ptr id off)) (q:σ.ev i=some (.d (.lit (.int k j)))) (c:Nat.blt j n=true):RO P F σ o (.ptr id (off+j * size)):=fun H a w r=>by
 have f:=r.ev p;have d:=r.lit q;have c:j < n:=by simpa using c
 generalize s:a.eval x=u at f;cases f with
 | ptr _ _ b h=>
  refine ⟨.pointer (some ⟨b,off+j * size,none⟩),fun w' _ => ?_,.ptr _ _ _ h⟩;simp [execOp,g,Instr.indexAt,s,d,asIntOf,run_underlying l,m.size,Instr.sureAddr,c,Addr.add]
end
structure A2 (α:Type) where
 x0:α
 x1:α
 deriving DecidableEq
structure A3 (α:Type) where
 x0:α
 x1:α
 x2:α
 deriving DecidableEq
structure A4 (α:Type) where
 x0:α
 x1:α
 x2:α
 x3:α
 deriving DecidableEq
structure A5 (α:Type) where
 x0:α
 x1:α
 x2:α
 x3:α
 x4:α
 deriving DecidableEq
section
variable {α:Type} [Enc α]
instance [Inhabited α]:Inhabited (A2 α):=⟨⟨default,default⟩⟩
instance [Inhabited α]:Inhabited (A3 α):=⟨⟨default,default,default⟩⟩
instance [Inhabited α]:Inhabited (A4 α):=⟨⟨default,default,default,default⟩⟩
instance [Inhabited α]:Inhabited (A5 α):=⟨⟨default,default,default,default,default⟩⟩
def A2.ix (a:A2 α) (i:Int):α:=if i=0 then a.x0 else a.x1
def A3.ix (a:A3 α) (i:Int):α:=if i=0 then a.x0 else if i=1 then a.x1 else a.x2
def A4.ix (a:A4 α) (i:Int):α:=if i=0 then a.x0 else if i=1 then a.x1 else if i=2 then a.x2 else a.x3
def A5.ix (a:A5 α) (i:Int):α:=if i=0 then a.x0 else if i=1 then a.x1 else if i=2 then a.x2 else if i=3 then a.x3 else a.x4
end
class One (α:Type) [Enc α]:Prop where
 one:∀ x:α,(enc x).cells=[enc x]
instance:One Int:=⟨fun _=>rfl⟩
instance:One Bool:=⟨fun _=>rfl⟩
instance {α:Type} [Enc α]:One (List α):=⟨fun _=>rfl⟩
instance:One ByteArray:=⟨fun _=>rfl⟩
theorem One.sz {α:Type} [Enc α] [One α] (x:α):Enc.sz α=1:=by have:=Enc.hsz x;rw [One.one] at this;exact this.symm
theorem One.d {α:Type} [Enc α] [One α] (x:α):D.one (enc x)=true:=by
 have:=Enc.flat x;rw [One.one] at this;simpa using this
section
variable {α:Type} [Enc α] [One α]
instance:Enc (A2 α):=⟨fun m => .agg [enc m.x0,enc m.x1],2,2 * Enc.bts α,fun _=>rfl,fun m=>by simp [D.cells,One.d]⟩
instance:Enc (A3 α):=⟨fun m => .agg [enc m.x0,enc m.x1,enc m.x2],3,3 * Enc.bts α,fun _=>rfl,fun m=>by simp [D.cells,One.d]⟩
instance:Enc (A4 α):=⟨fun m => .agg [enc m.x0,enc m.x1,enc m.x2,enc m.x3],4,4 * Enc.bts α,fun _=>rfl,fun m=>by simp [D.cells,One.d]⟩
instance:Enc (A5 α):=⟨fun m => .agg [enc m.x0,enc m.x1,enc m.x2,enc m.x3,enc m.x4],5,5 * Enc.bts α,fun _=>rfl,fun m=>by simp [D.cells,One.d]⟩
theorem zqR {l:List D} {i:Nat} {x:α} (h:l[i]? =some (enc x)):(l.drop (i * Enc.sz α)).take (Enc.sz α)=(enc x).cells:=by
 rw [One.sz x,Nat.mul_one,One.one];have a:i < l.length:=(List.getElem?_eq_some_iff.1 h).1;have b:l[i]=enc x:=(List.getElem?_eq_some_iff.1 h).2;rw [List.drop_eq_getElem_cons a,b];rfl
instance:Arr (A2 α) α where
 n:=2
 at':=A2.ix
 cell b i h0 h:=by
  rcases (by omega:i=0\/i=1) with rfl | rfl<;>exact zqR rfl
instance:Arr (A3 α) α where
 n:=3
 at':=A3.ix
 cell b i h0 h:=by
  rcases (by omega:i=0\/i=1\/i=2) with rfl | rfl | rfl<;>exact zqR rfl
instance:Arr (A4 α) α where
 n:=4
 at':=A4.ix
 cell b i h0 h:=by
  rcases (by omega:i=0\/i=1\/i=2\/i=3) with rfl | rfl | rfl | rfl<;>exact zqR rfl
instance:Arr (A5 α) α where
 n:=5
 at':=A5.ix
 cell b i h0 h:=by
  rcases (by omega:i=0\/i=1\/i=2\/i=3\/i=4) with rfl | rfl | rfl | rfl | rfl<;>exact zqR rfl
end
section
variable {P:Program} {F:Fr} {ops:Array Oper} {σ:St} {o:Oper} {H:Hd} {a:Act} {w:World} {rest:List (Nat×Oper)} {K:St->Prop}
def St.setAll (σ:St) (ks:List Nat) (x:AV):St:=ks.foldl (fun s k=>s.set k x) σ
def zqV (σ:St) (id:Nat):List Nat->Bool
 | []=>true
 | k::ks=>(match σ.get k with | some (.ptr i 0)=>Nat.beq i id | _=>false) && zqV σ id ks
theorem zla (x:AV):∀ (ks:List Nat) (s:St),RelH F s H a w->(∀ k∈ks,VRel w (Sh F.X s.ent H w) H x (a.tmps.getD k undef))->RelH F (s.setAll ks x) H a w
 | [],s,r,_=>r
 | k::ks,s,r,h=>zla x ks (s.set k x) (r.setAV (h k (by simp))) (fun c b=>h c (by simp [b]))
theorem RelH.freezeB (r:RelH F σ H a w) {id:Nat} {T:TypeId} {x:D} (ks:List Nat) (m:zqV σ id ks=true) (q:σ.ent id=some (.box T (avs x))):RelH F ((σ.put id none).setAll ks (.addr x)) H a w:=by
 have t:∀ k∈ks,σ.get k=some (.ptr id 0):=by
  clear q;induction ks with
  | nil=>intro k h;cases h
  | cons N ks M=>
   simp only [zqV,Bool.and_eq_true] at m;intro k h;rcases List.mem_cons.1 h with rfl | h
   ·have e:=m.1;cases E:σ.get k with
    | none=>rw [E] at e;simp at e
    | some y=>
     rw [E] at e
     match y,e with
     | .ptr i 0,e=>have:=Nat.eq_of_beq_eq_true e;subst this;rfl
   ·exact M m.2 k h
 refine zla _ ks _ (r.drop id) (fun k s => ?_);have m:=t k s;have C:=r.slot k _ m;obtain ⟨v,B,I⟩:=r.ent id _ q;have z:∀ b,blk v=some b->b < w.heap.size:=fun b g=>I.lt g
 have L:∀ c,Sh F.X σ.ent H w c->Sh F.X (σ.put id none).ent H w c/\w.heap[c]? =w.heap[c]? :=by
  intro c ⟨hc,hx,ho⟩;refine ⟨⟨hc,hx,fun j x u e n => ?_⟩,rfl⟩;rw [St.ent_put] at e;by_cases f:id=j
  ·rw [if_pos f] at e;cases e
  ·rw [if_neg f] at e;exact ho j x u e n
 have A:∀ b,blk v=some b->Sh F.X (σ.put id none).ent H w b:=by
  intro b g;refine ⟨z b g,(r.own id _ v b q B g).2,fun j x u e n J => ?_⟩;rw [St.ent_put] at e;by_cases f:id=j
  ·rw [if_pos f] at e;cases e
  ·rw [if_neg f] at e;exact f (r.inj id j _ x v u b q e B n g J)
 generalize a.tmps.getD k undef=u at C;cases C with
 | ptr _ _ b h=>
  rw [B] at h;cases h;obtain ⟨l,g,hs,p⟩:=I.box_inv
  ·have o:(avs x).length=x.cells.length:=by simp [avs]
   refine .addr x b 0 (fun j=>l.getD j undef) (A b rfl) (fun j f => ?_) (fun j f => ?_)
   ·rw [Nat.zero_add,cell_of_row w b j l T (0,0) g];have:j < l.size:=by omega
    simp [Array.getD_eq_getD_getElem?, this]
   ·have e:=p j (by rw [o];exact f);have n:(avs x).getD j default = .d (x.cells.getD j default):=by
     simp [avs,List.getD_eq_getElem?_getD,f]
    rw [n] at e;cases e with
    | d _ _ e=>exact e.mono L
theorem zCK {A:BinOp} (j:Bool) (i:A=if j then .neq else .eql) {t t' e:TypeId} {x y:Operand} {α:Type} [Enc α] {l:List α} (B:o.op = .binOp A t x y t') (C:P.underlying t=some (.slice e)) (L:σ.ev x=some (.d (enc l))) (M:σ.ev y=some .nil) (r:RelH F σ H a w):
  ∃ b:Bool,roAt P o a w (.bool b)/\(b = !j->l=[]):=by
 have E:=r.ev L;have m:=r.ev M;generalize p:a.eval y=u2 at m;cases m;have k:∃ g c,a.eval x = .slice g l.length c/\(g=none->l=[]):=by
  generalize s:a.eval x=u at E;cases E with
  | d _ _ h=>
   generalize q:(enc l:D)=dd at h;cases h with
   | lit=>cases q
   | ptr=>cases q
   | agg=>cases q
   | nil _ g c N S=>
    injection q with h1 h2
    simp at h2;subst h2;exact ⟨g,c,rfl,fun _=>rfl⟩
   | sl bts T b off c sz f v O U N V Q R z J=>
    injection q with h1 h2
    subst h2;exact ⟨some ⟨b,off,none⟩,c,by rw [List.length_map],fun h=>by cases h⟩
 obtain ⟨g,c,s,v⟩:=k;have n:(Value.slice g l.length c).oneCell'=true:=rfl;have I:(Value.slice g l.length c) ≠ .nilIface:=by simp
 cases j
 ·refine ⟨g.isNone,fun w' _ => ?_,fun h=>v (by simpa using h)⟩;simp only [Bool.false_eq_true,if_false] at i;subst i;simp [execOp,B,s,p,zms P .eql t x y _ _ _ n I,Lib.run_eql_slice_nil w' t e g l.length c 0 0 C]
 ·refine ⟨!g.isNone,fun w' _ => ?_,fun h=>v (by simpa using h)⟩;simp only [if_true] at i;subst i;have:(binOp .neq t (.slice g l.length c) (.slice none 0 0)).run P w' = .ok (.bool (!g.isNone)) w':=by
   simp only [binOp];simp [Op.equal,Op.maxDepth,Lib.run_equalIn_slice_nil w' 9999 t e g l.length c 0 0 C]
  simp [execOp,B,s,p,zms P .neq t x y _ _ _ n I,this]
theorem AO.eqnil {j:BinOp} (c:Bool) (g:j=if c then .neq else .eql) {t t' e:TypeId} {x y:Operand} {d:Nat} {α:Type} [Enc α] {l:List α} (n:o.dst=some d) (h:Nat.blt d σ.n=true) (p:gOn ops σ o true)
  (q:o.op = .binOp j t x y t') (s:P.underlying t=some (.slice e)) (u:σ.ev x=some (.d (enc l))) (z:σ.ev y=some .nil)
  (A:(true = !c->l=[])->AO P F ops rest (σ.set d (.d (.lit (.bool true)))) K) (B:(false = !c->l=[])->AO P F ops rest (σ.set d (.d (.lit (.bool false)))) K):AO P F ops ((0,o)::rest) σ K:=by
 intro a w Q r k;obtain ⟨H,r⟩:=r;rw [zhM,if_pos (p.wanted r)];obtain ⟨b,C,m⟩:=zCK c g q s u z r;refine ⟨.bool b,C,?_⟩;have f:d < σ.n:=by simpa using h
 have i:=r.set (v := .bool b) (x := .d (.lit (.bool b))) f (.d _ _ (.lit _ rfl));rw [<- n] at i;cases b
 ·exact B m _ _ Q ⟨H,i⟩ k
 ·exact A m _ _ Q ⟨H,i⟩ k
end
end Go.Ab
