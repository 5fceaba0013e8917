import Derived.Test.YtmogekkikaelhaaAb24n1
import Derived.Laws.AppendOwn
import Derived.Laws.OwnMore
import Derived.Laws.CopyOwn
import Derived.ArgAppend
set_option linter.unusedVariables false
set_option linter.unusedSimpArgs false
set_option linter.unusedSectionVars false
namespace Go.Ab
open Go.RowKit (Below)
inductive D where
 | lit (v:Value)
 | sl (bts:Nat) (l:List D)
 | agg (l:List D)
 | ptr (x:D)
instance:Inhabited D:=⟨.lit (.bool false)⟩
def D.cells:D->List D
 | .agg l=>l
 | d=>[d]
def D.one:D->Bool
 | .agg _=>false
 | _=>true
class Enc (α:Type) where
 enc:α->D
 sz:Nat
 bts:Nat
 hsz:∀ x,(enc x).cells.length=sz
 flat:∀ x,(enc x).cells.all D.one=true
open Enc (enc)
instance:Enc Int:=⟨fun n => .lit (.int .i64 n),1,8,fun _=>rfl,fun _=>rfl⟩
instance:Enc Bool:=⟨fun b => .lit (.bool b),1,1,fun _=>rfl,fun _=>rfl⟩
instance {α:Type} [Enc α]:Enc (List α):=⟨fun l => .sl (Enc.bts α) (l.map enc),1,24,fun _=>rfl,fun _=>rfl⟩
theorem Enc.cell_one {α:Type} [Enc α] (x:α) (j:Nat):((enc x).cells.getD j default).one=true:=by
 rw [List.getD_eq_getElem?_getD];cases h:(enc x).cells[j]? with
 | none=>rfl
 | some c=>exact List.all_eq_true.1 (Enc.flat x) c (List.mem_of_getElem? h)
def most:Nat:=140737488355328
inductive DRel (w:World) (S:Nat->Prop):D->Value->Prop
 | lit (v:Value) (h:v.oneCell'=true):DRel w S (.lit v) v
 | agg (l:List D) (cs:Array Value) (hs:cs.size=l.length) (h:∀ i,i < l.length->DRel w S (l.getD i default) (cs.getD i undef)):DRel w S (.agg l) (.agg cs)
 | nil (bts:Nat) (a:Option Addr) (c:Nat) (hc:c<=maxLen) (hn:a=none->c=0):DRel w S (.sl bts []) (.slice a 0 c)
 | sl (bts:Nat) (l:List D) (b off c sz:Nat) (f:Nat->Value) (h0:0 < l.length) (hsz:0 < sz) (hb:S b) (hc:l.length<=c) (hm:c<=maxLen)
   (hbt:l.length * bts<=most)
   (hcs:∀ i,i < l.length->(l.getD i default).cells.length=sz)
   (hcell:∀ k,k < l.length * sz->w.cell? ⟨b,off+k,none⟩=some (f k))
   (hrel:∀ i,i < l.length->∀ j,j < sz->DRel w S ((l.getD i default).cells.getD j default) (f (i * sz+j))):
   DRel w S (.sl bts l) (.slice (some ⟨b,off,none⟩) l.length c)
 | ptr (x:D) (b off:Nat) (f:Nat->Value) (hb:S b) (hcell:∀ k,k < x.cells.length->w.cell? ⟨b,off+k,none⟩=some (f k))
   (hrel:∀ k,k < x.cells.length->DRel w S (x.cells.getD k default) (f k)):DRel w S (.ptr x) (.pointer (some ⟨b,off,none⟩))
theorem DRel.mono {w w':World} {S S':Nat->Prop} (h:∀ b,S b->S' b/\w'.heap[b]? =w.heap[b]?) {d:D} {v:Value} (hd:DRel w S d v):DRel w' S' d v:=by
 induction hd with
 | lit v h1=>exact .lit v h1
 | agg l cs hs _ ih=>exact .agg l cs hs ih
 | nil bts a c hc hn=>exact .nil bts a c hc hn
 | sl bts l b off c sz f h0 hsz hb hc hm hbt hcs hcell _ ih=>
  refine .sl bts l b off c sz f h0 hsz (h b hb).1 hc hm hbt hcs (fun k hk => ?_) ih;rw [World.cell?_of_block (w:=w) (w':=w') (h b hb).2];exact hcell k hk
 | ptr x b off f hb hcell _ ih=>
  refine .ptr x b off f (h b hb).1 (fun k hk => ?_) ih;rw [World.cell?_of_block (w:=w) (w':=w') (h b hb).2];exact hcell k hk
theorem DRel.oneCell {w:World} {S:Nat->Prop} {d:D} {v:Value} (h:DRel w S d v):v.oneCell'=true↔∀ l,d ≠ .agg l:=by
 cases h with
 | lit v h=>simp [h]
 | agg l cs _ _=>simp [Value.oneCell']
 | nil=>simp [Value.oneCell']
 | sl=>simp [Value.oneCell']
 | ptr=>simp [Value.oneCell']
theorem DRel.one {w:World} {S:Nat->Prop} {d:D} {v:Value} (h:DRel w S d v) (hd:d.one=true):v.oneCell'=true:=by
 cases h with
 | lit v h=>exact h
 | agg l cs _ _=>simp [D.one] at hd
 | nil=>rfl
 | sl=>rfl
 | ptr=>rfl
inductive AV where
 | any
 | d (x:D)
 | nil
 | own (id:Nat)
 | ptr (id off:Nat)
 | eptr (id sz i k:Nat)
 | view (id sz i n:Nat)
 | full (bts:Nat) (l:List D)
 | addr (x:D)
 | agg (l:List AV)
 | tup (l:List AV)
 | fn (f:FuncId) (caps:List AV)
instance:Inhabited AV:=⟨.any⟩
inductive Ent where
 | arr (E:TypeId) (sz bts:Nat) (l:List D)
 | box (T:TypeId) (cells:List AV)
 | out (E bts:Nat) (cells:List AV)
def blk:Value->Option Nat
 | .pointer (some a)=>some a.block
 | .slice (some a) _ _=>some a.block
 | .map (some b)=>some b
 | _=>none
def zbN (w:World) (E:TypeId) (size:Nat) (v:Value) (n:Nat) (xs:List Value):Prop:=
 xs.length=n * size/\
 ((v = .slice none 0 0/\n=0)\/
  ∃ g off cap cur,v = .slice (some ⟨g,off,none⟩) n cap/\w.heap[g]? =some (.cells cur E (0,0))/\n<=cap/\cap<=maxLen/\off+cap * size<=cur.size/\(cur.toList.drop off).take (n * size)=xs)
section
variable {P:Program} {w:World} {E size n:Nat} {v:Value} {xs:List Value}
theorem zbN.of_row {base:Nat} (h:w.ownsRow base E size v n xs):zbN w E size v n xs:=by
 obtain ⟨h1,h2⟩:=h;refine ⟨h1,h2.imp id ?_⟩;rintro ⟨g,cap,cur,rfl,_,h3,h4,h5,h6,h7⟩;exact ⟨g,0,cap,cur,rfl,h3,h4,h5,by omega,by simpa using h7⟩
theorem zbN.form (h:zbN w E size v n xs):(v = .slice none 0 0/\n=0)\/∃ b off c,v = .slice (some ⟨b,off,none⟩) n c:=by
 obtain ⟨_,h2⟩:=h;rcases h2 with h2 | ⟨g,off,cap,cur,rfl,_⟩
 ·exact .inl h2
 ·exact .inr ⟨g,off,cap,rfl⟩
theorem zbN.block {w':World} (h:zbN w E size v n xs) (hb:∀ b,blk v=some b->w'.heap[b]? =w.heap[b]?):zbN w' E size v n xs:=by
 obtain ⟨h1,h2⟩:=h;refine ⟨h1,h2.imp id ?_⟩;rintro ⟨g,off,cap,cur,rfl,h3,r⟩;exact ⟨g,off,cap,cur,rfl,by rw [hb g rfl];exact h3,r⟩
theorem zbN.cell {b off n' c:Nat} (h:zbN w E size (.slice (some ⟨b,off,none⟩) n' c) n xs) (j:Nat) (u:Value) (hj:xs[j]? =some u):w.cell? ⟨b,off+j,none⟩=some u:=by
 obtain ⟨h1,h2⟩:=h;rcases h2 with ⟨h2,_⟩ | ⟨g,off',cap,cur,h2,h3,h4,h5,h6,h7⟩
 ·cases h2
 ·cases h2;rw [cell_of_row w b (off+j) cur E (0,0) h3];rw [<- h7] at hj;have hlt:j < n * size:=by
   have:=(List.getElem?_eq_some_iff.1 hj).1;simp at this;omega
  rw [List.getElem?_take_of_lt hlt,List.getElem?_drop] at hj;simpa using hj
theorem zbN.tail {b off c:Nat} (h:zbN w E size (.slice (some ⟨b,off,none⟩) n c) n xs) {i:Nat} (hi:i<=n):
  zbN w E size (.slice (some ⟨b,off+i * size,none⟩) (n - i) (c - i)) (n - i) (xs.drop (i * size)):=by
 obtain ⟨h1,h2⟩:=h;rcases h2 with ⟨h2,_⟩ | ⟨g,off',cap,cur,h2,h3,h4,h5,h6,h7⟩
 ·cases h2
 ·cases h2;refine ⟨by rw [List.length_drop,h1,Nat.sub_mul],.inr ⟨b,off+i * size,c - i,cur,rfl,h3,by omega,by omega,?_,?_⟩⟩
  ·have:=Nat.mul_le_mul_right size (by omega:i<=c);rw [Nat.sub_mul];omega
  ·rw [<- h7,List.drop_take,List.drop_drop,Nat.sub_mul]
end
abbrev Hd:=Nat->Option Value
def zkH (u:Value) (sz i n:Nat) (v:Value):Prop:=
 (u = .slice none 0 0/\v = .slice none 0 0/\i=0/\n=0)\/
 ∃ b o0 n0 c0 c a,u = .slice (some ⟨b,o0,none⟩) n0 c0/\i+n<=n0/\v = .slice (some a) n c/\n<=c/\c<=maxLen/\(0 < n->a=⟨b,o0+i * sz,none⟩)
inductive VRel (w:World) (S:Nat->Prop) (H:Hd):AV->Value->Prop
 | any (v:Value):VRel w S H .any v
 | d (x:D) (v:Value) (h:DRel w S x v):VRel w S H (.d x) v
 | nil:VRel w S H .nil (.slice none 0 0)
 | own (id:Nat) (v:Value) (h:H id=some v) (hs:(∃ a n c,v = .slice a n c)\/∃ b,v = .map (some b)):VRel w S H (.own id) v
 | ptr (id off b:Nat) (h:H id=some (.pointer (some ⟨b,0,none⟩))):VRel w S H (.ptr id off) (.pointer (some ⟨b,off,none⟩))
 | eptr (id sz i k b off n c:Nat) (h:H id=some (.slice (some ⟨b,off,none⟩) n c)) (hi:i < n):VRel w S H (.eptr id sz i k) (.pointer (some ⟨b,off+(i * sz+k),none⟩))
 | view (id sz i n:Nat) (u v:Value) (h:H id=some u) (hv:zkH u sz i n v):VRel w S H (.view id sz i n) v
 | full (bts:Nat) (l:List D) (a:Option Addr) (h:DRel w S (.sl bts l) (.slice a l.length l.length)):VRel w S H (.full bts l) (.slice a l.length l.length)
 | addr (x:D) (b off:Nat) (f:Nat->Value) (hb:S b) (hcell:∀ k,k < x.cells.length->w.cell? ⟨b,off+k,none⟩=some (f k))
   (hrel:∀ k,k < x.cells.length->DRel w S (x.cells.getD k default) (f k)):VRel w S H (.addr x) (.pointer (some ⟨b,off,none⟩))
 | agg (l:List AV) (cs:Array Value) (hs:cs.size=l.length) (h:∀ i,i < l.length->VRel w S H (l.getD i default) (cs.getD i undef)):VRel w S H (.agg l) (.agg cs)
 | tup (l:List AV) (cs:Array Value) (hs:cs.size=l.length) (h:∀ i,i < l.length->VRel w S H (l.getD i default) (cs.getD i undef)):VRel w S H (.tup l) (.tuple cs)
 | fn (f:FuncId) (caps:List AV) (cs:Array Value) (hs:cs.size=caps.length) (h:∀ i,i < caps.length->VRel w S H (caps.getD i default) (cs.getD i undef)):VRel w S H (.fn f caps) (.func (.func f) #[] cs)
theorem VRel.mono {w w':World} {S S':Nat->Prop} {H H':Hd} (h:∀ b,S b->S' b/\w'.heap[b]? =w.heap[b]?) (hH:∀ id v,H id=some v->H' id=some v) {x:AV} {v:Value}
  (hd:VRel w S H x v):VRel w' S' H' x v:=by
 induction hd with
 | any v=>exact .any v
 | d x v h1=>exact .d x v (h1.mono h)
 | nil=>exact .nil
 | own id v h1 hs=>exact .own id v (hH _ _ h1) hs
 | ptr id off b h1=>exact .ptr id off b (hH _ _ h1)
 | eptr id sz i k b off n c h1 hi=>exact .eptr id sz i k b off n c (hH _ _ h1) hi
 | view id sz i n u v h1 hv=>exact .view id sz i n u v (hH _ _ h1) hv
 | full bts l ad h1=>exact .full bts l ad (h1.mono h)
 | addr x b off f hb hcell hrel=>
  refine .addr x b off f (h b hb).1 (fun k hk => ?_) (fun k hk=>(hrel k hk).mono h);rw [World.cell?_of_block (w:=w) (w':=w') (h b hb).2];exact hcell k hk
 | agg l cs hs _ ih=>exact .agg l cs hs ih
 | tup l cs hs _ ih=>exact .tup l cs hs ih
 | fn f caps cs hs _ ih=>exact .fn f caps cs hs ih
inductive EntRel (w:World) (S:Nat->Prop) (H:Hd):Ent->Value->Prop
 | arr (E:TypeId) (sz bts:Nat) (l:List D) (v:Value) (xs:List Value) (hsz:0 < sz) (hown:zbN w E sz v l.length xs)
   (hbt:l.length * bts<=most) (hcs:∀ i,i < l.length->(l.getD i default).cells.length=sz)
   (hrel:∀ i,i < l.length->∀ j,j < sz->DRel w S ((l.getD i default).cells.getD j default) (xs.getD (i * sz+j) undef)):EntRel w S H (.arr E sz bts l) v
 | box (T:TypeId) (cells:List AV) (b:Nat) (cur:Array Value) (hb:w.heap[b]? =some (.cells cur T (0,0))) (hs:cur.size=cells.length)
   (hrel:∀ j,j < cells.length->VRel w S H (cells.getD j default) (cur.getD j undef)):EntRel w S H (.box T cells) (.pointer (some ⟨b,0,none⟩))
 | mp (T:TypeId) (kb vb:Nat) (ks vs:List D) (b:Nat) (es:Array MapEntry) (clock:Nat) (hb:w.heap[b]? =some (.map es clock)) (h1:es.size=ks.length) (h2:es.size=vs.length)
   (hk:∀ i,i < es.size->DRel w S (ks.getD i default) (es.getD i default).key) (hv:∀ i,i < es.size->DRel w S (vs.getD i default) (es.getD i default).val)
   (hc:clock=es.size/\∀ i,i < es.size->(es.getD i default).born=i):
   EntRel w S H (.box T [.d (.sl kb ks),.d (.sl vb vs)]) (.map (some b))
 | out (E bts:Nat) (cells:List AV) (v:Value) (xs:List Value) (hown:zbN w E 1 v cells.length xs) (hbt:cells.length * bts<=most)
   (hrel:∀ j,j < cells.length->VRel w S H (cells.getD j default) (xs.getD j undef)):EntRel w S H (.out E bts cells) v
theorem EntRel.mono {w w':World} {S S':Nat->Prop} {H H':Hd} (h:∀ b,S b->S' b/\w'.heap[b]? =w.heap[b]?) (hH:∀ id v,H id=some v->H' id=some v) {e:Ent} {v:Value}
  (hb:∀ b,blk v=some b->w'.heap[b]? =w.heap[b]?) (hd:EntRel w S H e v):EntRel w' S' H' e v:=by
 cases hd with
 | arr E sz bts l v xs hsz hown hbt hcs hrel=>exact .arr E sz bts l v xs hsz (hown.block hb) hbt hcs fun i hi j hj=>(hrel i hi j hj).mono h
 | box T cells b cur hb' hs hrel=>exact .box T cells b cur (by rw [hb b rfl];exact hb') hs fun j hj=>(hrel j hj).mono h hH
 | mp T kb vb ks vs b es clock hb' h1 h2 hk hv hc=>exact .mp T kb vb ks vs b es clock (by rw [hb b rfl];exact hb') h1 h2 (fun i hi=>(hk i hi).mono h) (fun i hi=>(hv i hi).mono h) hc
 | out E bts cells v xs hown hbt hrel=>exact .out E bts cells v xs (hown.block hb) hbt fun j hj=>(hrel j hj).mono h hH
theorem EntRel.lt {w:World} {S:Nat->Prop} {H:Hd} {e:Ent} {v:Value} (h:EntRel w S H e v) {b:Nat} (hb:blk v=some b):b < w.heap.size:=by
 cases h with
 | arr E sz bts l v xs hsz hown=>
  obtain ⟨_,h2⟩:=hown;rcases h2 with ⟨rfl,_⟩ | ⟨g,off,cap,cur,rfl,hh,_⟩
  ·simp [blk] at hb
  ·simp [blk] at hb;subst hb;exact (Array.getElem?_eq_some_iff.1 hh).1
 | box T cells b' cur hb'=>simp [blk] at hb;subst hb;exact (Array.getElem?_eq_some_iff.1 hb').1
 | mp T kb vb ks vs b' es clock hb'=>simp [blk] at hb;subst hb;exact (Array.getElem?_eq_some_iff.1 hb').1
 | out E bts cells v xs hown=>
  obtain ⟨_,h2⟩:=hown;rcases h2 with ⟨rfl,_⟩ | ⟨g,off,cap,cur,rfl,hh,_⟩
  ·simp [blk] at hb
  ·simp [blk] at hb;subst hb;exact (Array.getElem?_eq_some_iff.1 hh).1
theorem EntRel.box_inv {w:World} {S:Nat->Prop} {H:Hd} {T:TypeId} {cells:List AV} {b:Nat} (h:EntRel w S H (.box T cells) (.pointer (some ⟨b,0,none⟩))):
  ∃ cur:Array Value,w.heap[b]? =some (.cells cur T (0,0))/\cur.size=cells.length/\∀ j,j < cells.length->VRel w S H (cells.getD j default) (cur.getD j undef):=by
 generalize he:Ent.box T cells=e at h;generalize hv:Value.pointer (some ⟨b,0,none⟩)=v at h;cases h with
 | arr=>cases he
 | box T' cells' b' cur hb hs hrel=>cases he;cases hv;exact ⟨cur,hb,hs,hrel⟩
 | mp=>cases hv
 | out=>cases he
def look {β:Type}:List (Nat×β)->Nat->Option β
 | [],_=>none
 | (k',v)::r,k=>bif Nat.beq k' k then some v else look r k
theorem zae {β:Type} (k k':Nat) (v:β) (r:List (Nat×β)):look ((k',v)::r) k=if k'=k then some v else look r k:=by
 simp only [look];by_cases h:k'=k
 ·subst h;simp
 ·rw [if_neg h];have:Nat.beq k' k=false:=by
   cases hb:Nat.beq k' k
   ·rfl
   ·exact absurd (Nat.eq_of_beq_eq_true hb) h
  rw [this];rfl
structure St where
 n:Nat
 nxt:Nat
 slots:List (Nat×AV)
 heap:List (Nat×Option Ent)
 rows:Nat->Option Ent
def St.get (σ:St) (k:Nat):Option AV:=look σ.slots k
def St.ent (σ:St) (id:Nat):Option Ent:=match look σ.heap id with
 | some e=>e
 | none=>σ.rows id
def St.set (σ:St) (k:Nat) (x:AV):St:={ σ with slots:=(k,x)::σ.slots }
def St.put (σ:St) (id:Nat) (e:Option Ent):St:={ σ with heap:=(id,e)::σ.heap }
def St.new (σ:St) (e:Ent):St:={ σ with heap:=(σ.nxt,some e)::σ.heap,nxt:=σ.nxt+1 }
theorem St.get_set (σ:St) (k j:Nat) (x:AV):(σ.set k x).get j=if k=j then some x else σ.get j:=zae _ _ _ _
theorem St.ent_put (σ:St) (id j:Nat) (e:Option Ent):(σ.put id e).ent j=if id=j then e else σ.ent j:=by
 simp only [St.ent,St.put,zae];by_cases h:id=j
 ·simp only [h,if_true]
 ·simp only [h,if_false]
theorem St.ent_new (σ:St) (j:Nat) (e:Ent):(σ.new e).ent j=if σ.nxt=j then some e else σ.ent j:=σ.ent_put σ.nxt j (some e)
@[simp] theorem St.ent_set (σ : St) (k j : Nat) (x : AV) : (σ.set k x).ent j = σ.ent j := rfl
@[simp] theorem St.get_put (σ : St) (id j : Nat) (e : Option Ent) : (σ.put id e).get j = σ.get j := rfl
@[simp] theorem St.get_new (σ : St) (j : Nat) (e : Ent) : (σ.new e).get j = σ.get j := rfl
def LIM:Nat:=100000
def RB:Nat:=1000000
def rid (f x:Nat):Nat:=RB * (x+1)+f
def bs (k:Nat):Nat:=if RB<=k then k % RB else k
theorem zlI {k:Nat} (h:k < RB):bs k=k:=by unfold bs;rw [if_neg (by omega)]
theorem znv {k:Nat} (h:k < LIM):bs k=k:=zlI (by unfold LIM at h;unfold RB;omega)
def pinB (i:Nat):Bool:=Nat.ble LIM i && (Nat.blt i RB || Nat.ble LIM (i % RB))
theorem zeK {i:Nat} (h:pinB i=true):LIM<=i:=by
 simp only [pinB,Bool.and_eq_true] at h;simpa using h.1
theorem zfS {i:Nat} (h:pinB i=true):LIM<=bs i:=by
 simp only [pinB,Bool.and_eq_true,Bool.or_eq_true] at h;obtain ⟨h1,h2⟩:=h;unfold bs;split
 ·rcases h2 with h2 | h2
  ·have:i < RB:=by simpa using h2
   omega
  ·simpa using h2
 ·simpa using h1
theorem zne {i:Nat} (h:LIM<=i) (h2:i < RB):pinB i=true:=by
 have e1:Nat.ble LIM i=true:=by simpa using h
 have e2:Nat.blt i RB=true:=by simpa using h2
 unfold pinB;rw [e1,e2];rfl
theorem ziZ {i:Nat}:pinB i=true↔LIM<=bs i:=by
 constructor
 ·exact zfS
 ·intro h;unfold bs at h;unfold pinB;simp only [Bool.and_eq_true,Bool.or_eq_true];split at h
  ·rename_i hk;have:LIM<=i:=by unfold RB at hk;unfold LIM;omega
   exact ⟨by simpa using this,.inr (by simpa using h)⟩
  ·rename_i hk;have:i < RB:=by omega
   exact ⟨by simpa using h,.inl (by simpa using this)⟩
theorem zaP (f x:Nat):RB<=rid f x:=by unfold rid RB;omega
theorem zbc {f x:Nat} (h:f < RB):rid f x % RB=f:=by
 unfold rid;rw [Nat.mul_add_mod,Nat.mod_eq_of_lt h]
theorem zdI {f x:Nat} (h:f < RB):rid f x / RB - 1=x:=by
 unfold rid;rw [Nat.mul_add_div (by unfold RB;omega),Nat.div_eq_of_lt h];omega
theorem zjG {f x:Nat} (h:f < RB):bs (rid f x)=f:=by
 unfold bs;rw [if_pos (zaP f x),zbc h]
theorem zfw {k:Nat} (h:RB<=k):k=rid (k % RB) (k / RB - 1):=by
 unfold rid;have h1:=Nat.div_add_mod k RB;have h2:1<=k / RB:=(Nat.one_le_div_iff (by unfold RB;omega)).2 h;rw [show k / RB - 1+1=k / RB by omega];exact h1.symm
theorem zfW {f g x y:Nat} (hf:f < RB) (hg:g < RB) (h:rid f x=rid g y):f=g/\x=y:=by
 have h1:=zbc (x:=x) hf;have h2:=zbc (x:=y) hg;have h3:=zdI (x:=x) hf;have h4:=zdI (x:=y) hg;rw [h] at h1 h3;exact ⟨by rw [<- h1,h2],by rw [<- h3,h4]⟩
structure Fr where
 w:World
 O:Nat->Prop
 X:Nat->Prop
 H0:Hd
 D:List Deferred:=[]
def Sh (X:Nat->Prop) (ent:Nat->Option Ent) (H:Hd) (w:World) (b:Nat):Prop:=
 b < w.heap.size /\ ¬ X b/\∀ id e v,ent id=some e->H id=some v->blk v≠some b
structure RelH (F:Fr) (σ:St) (H:Hd) (a:Act) (w:World):Prop where
 size:a.tmps.size=σ.n
 defs:a.defers=F.D
 os:w.os=F.w.os
 tape:w.tape=F.w.tape
 output:w.output=F.w.output
 grow:F.w.heap.size<=w.heap.size
 keep:∀ b,b < F.w.heap.size -> ¬ F.O b->w.heap[b]? =F.w.heap[b]?
 xlt:∀ b,F.X b->b < F.w.heap.size
 fresh:∀ id,σ.nxt<=bs id->bs id < LIM->H id=none
 pin:∀ id,pinB id=true->H id=F.H0 id
 ent:∀ id e,σ.ent id=some e->∃ v,H id=some v/\EntRel w (Sh F.X σ.ent H w) H e v
 own:∀ id e v b,σ.ent id=some e->H id=some v->blk v=some b->(F.w.heap.size<=b\/F.O b) /\ ¬ F.X b
 inj:∀ id id' e e' v v' b,σ.ent id=some e->σ.ent id'=some e'->H id=some v->H id'=some v'->blk v=some b->blk v'=some b->id=id'
 slot:∀ k x,σ.get k=some x->VRel w (Sh F.X σ.ent H w) H x (a.tmps.getD k undef)
theorem RelH.fresh0 {F:Fr} {σ:St} {H:Hd} {a:Act} {w:World} (r:RelH F σ H a w) (id:Nat) (h1:σ.nxt<=id) (h2:id < LIM):H id=none:=
 r.fresh id (by rw [znv h2];exact h1) (by rw [znv h2];exact h2)
def Rel (F:Fr) (σ:St) (a:Act) (w:World):Prop:=∃ H,RelH F σ H a w
section
variable {F:Fr} {σ:St} {H:Hd} {a:Act} {w:World}
theorem Sh.ext {X:Nat->Prop} {ent:Nat->Option Ent} {w':World} (h:Ext w w') (b:Nat) (hb:Sh X ent H w b):Sh X ent H w' b/\w'.heap[b]? =w.heap[b]? :=
 ⟨⟨Nat.lt_of_lt_of_le hb.1 h.size,hb.2⟩,h.block b hb.1⟩
theorem RelH.ext (r:RelH F σ H a w) {w':World} (h:Ext w w'):RelH F σ H a w' where
 size:=r.size
 defs:=r.defs
 os:=h.os.trans r.os
 tape:=h.tape.trans r.tape
 output:=h.output.trans r.output
 grow:=Nat.le_trans r.grow h.size
 keep b hb ho:=(h.block b (Nat.lt_of_lt_of_le hb r.grow)).trans (r.keep b hb ho)
 xlt:=r.xlt
 fresh:=r.fresh
 pin:=r.pin
 ent id e he:=by
  obtain ⟨v,hv,hr⟩:=r.ent id e he;exact ⟨v,hv,hr.mono (fun b hb=>Sh.ext h b hb) (fun _ _ h=>h) (fun b hb=>h.block b (hr.lt hb))⟩
 own:=r.own
 inj:=r.inj
 slot k x hx:=(r.slot k x hx).mono (fun b hb=>Sh.ext h b hb) (fun _ _ h=>h)
theorem zmY {a:Act} {d k:Nat} {v:Value} (hd:d < a.tmps.size):(a.put (some d) v).tmps.getD k undef=if d=k then v else a.tmps.getD k undef:=by
 simp only [Act.put,Array.getD_eq_getD_getElem?];by_cases h:d=k
 ·subst h;simp [hd]
 ·simp [Array.getElem?_setIfInBounds_ne h,h]
theorem RelH.set (r:RelH F σ H a w) {d:Nat} {x:AV} {v:Value} (hd:d < σ.n) (hx:VRel w (Sh F.X σ.ent H w) H x v):RelH F (σ.set d x) H (a.put (some d) v) w where
 size:=by simp [Act.put,St.set,r.size]
 defs:=r.defs
 os:=r.os
 tape:=r.tape
 output:=r.output
 grow:=r.grow
 keep:=r.keep
 xlt:=r.xlt
 fresh:=r.fresh
 pin:=r.pin
 ent:=r.ent
 own:=r.own
 inj:=r.inj
 slot k y hy:=by
  rw [zmY (by rw [r.size];exact hd)];rw [St.get_set] at hy;by_cases h:d=k
  ·rw [if_pos h] at hy ⊢;cases hy;exact hx
  ·rw [if_neg h] at hy ⊢;exact r.slot k y hy
theorem RelH.skip (r:RelH F σ H a w) (d:Option Tmp) (hd:∀ t,d=some t->t < σ.n) (v:Value):
  RelH F (match d with | some t=>σ.set t .any | none=>σ) H (a.put d v) w:=by
 cases d with
 | none=>exact r
 | some t=>exact r.set (hd t rfl) (.any v)
end
end Go.Ab
