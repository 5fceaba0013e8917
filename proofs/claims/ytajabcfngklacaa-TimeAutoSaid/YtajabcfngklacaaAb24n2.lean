import Derived.Test.YtajabcfngklacaaAb24n1
import Derived.Laws.AppendOwn
import Derived.Laws.OwnMore
import Derived.Laws.CopyOwn
import Derived.ArgAppend
set_option linter.unusedVariables false
set_option linter.unusedSimpArgs false
set_option linter.unusedSectionVars false
namespace Go.Ab
open Go.RowKit (Below)
inductive D where
 | lit (v:Value)
 | sl (bts:Nat) (l:List D)
 | agg (l:List D)
 | ptr (x:D)
instance:Inhabited D:=⟨.lit (.bool false)⟩
def D.cells:D->List D
 | .agg l=>l
 | d=>[d]
def D.one:D->Bool
 | .agg _=>false
 | _=>true
class Enc (α:Type) where
 enc:α->D
 sz:Nat
 bts:Nat
 hsz:∀ x,(enc x).cells.length=sz
 flat:∀ x,(enc x).cells.all D.one=true
open Enc (enc)
instance:Enc Int:=⟨fun n => .lit (.int .i64 n),1,8,fun _=>rfl,fun _=>rfl⟩
instance:Enc Bool:=⟨fun b => .lit (.bool b),1,1,fun _=>rfl,fun _=>rfl⟩
instance {α:Type} [Enc α]:Enc (List α):=⟨fun l => .sl (Enc.bts α) (l.map enc),1,24,fun _=>rfl,fun _=>rfl⟩
theorem Enc.cell_one {α:Type} [Enc α] (x:α) (j:Nat):((enc x).cells.getD j default).one=true:=by
 rw [List.getD_eq_getElem?_getD];cases h:(enc x).cells[j]? with
 | none=>rfl
 | some c=>exact List.all_eq_true.1 (Enc.flat x) c (List.mem_of_getElem? h)
def most:Nat:=140737488355328
inductive DRel (w:World) (S:Nat->Prop):D->Value->Prop
 | lit (v:Value) (h:v.oneCell'=true):DRel w S (.lit v) v
 | agg (l:List D) (cs:Array Value) (hs:cs.size=l.length) (h:∀ i,i < l.length->DRel w S (l.getD i default) (cs.getD i undef)):DRel w S (.agg l) (.agg cs)
 | nil (bts:Nat) (a:Option Addr) (c:Nat) (hc:c<=maxLen) (hn:a=none->c=0):DRel w S (.sl bts []) (.slice a 0 c)
 | sl (bts:Nat) (l:List D) (b off c sz:Nat) (f:Nat->Value) (h0:0 < l.length) (hsz:0 < sz) (hb:S b) (hc:l.length<=c) (hm:c<=maxLen)
   (hbt:l.length * bts<=most)
   (hcs:∀ i,i < l.length->(l.getD i default).cells.length=sz)
   (hcell:∀ k,k < l.length * sz->w.cell? ⟨b,off+k,none⟩=some (f k))
   (hrel:∀ i,i < l.length->∀ j,j < sz->DRel w S ((l.getD i default).cells.getD j default) (f (i * sz+j))):
   DRel w S (.sl bts l) (.slice (some ⟨b,off,none⟩) l.length c)
 | ptr (x:D) (b off:Nat) (f:Nat->Value) (hb:S b) (hcell:∀ k,k < x.cells.length->w.cell? ⟨b,off+k,none⟩=some (f k))
   (hrel:∀ k,k < x.cells.length->DRel w S (x.cells.getD k default) (f k)):DRel w S (.ptr x) (.pointer (some ⟨b,off,none⟩))
theorem DRel.mono {w w':World} {S S':Nat->Prop} (h:∀ b,S b->S' b/\w'.heap[b]? =w.heap[b]?) {d:D} {v:Value} (q:DRel w S d v):DRel w' S' d v:=by
 induction q with
 | lit v r=>exact .lit v r
 | agg l cs hs _ g=>exact .agg l cs hs g
 | nil bts a c m s=>exact .nil bts a c m s
 | sl bts l b off c sz f t n i m u o p e _ g=>
  refine .sl bts l b off c sz f t n (h b i).1 m u o p (fun k j => ?_) g;rw [World.cell?_of_block (w:=w) (w':=w') (h b i).2];exact e k j
 | ptr x b off f i e _ g=>
  refine .ptr x b off f (h b i).1 (fun k j => ?_) g;rw [World.cell?_of_block (w:=w) (w':=w') (h b i).2];exact e k j
theorem DRel.oneCell {w:World} {S:Nat->Prop} {d:D} {v:Value} (h:DRel w S d v):v.oneCell'=true↔∀ l,d ≠ .agg l:=by
 cases h with
 | lit v h=>simp [h]
 | agg l cs _ _=>simp [Value.oneCell']
 | nil=>simp [Value.oneCell']
 | sl=>simp [Value.oneCell']
 | ptr=>simp [Value.oneCell']
theorem DRel.one {w:World} {S:Nat->Prop} {d:D} {v:Value} (h:DRel w S d v) (a:d.one=true):v.oneCell'=true:=by
 cases h with
 | lit v h=>exact h
 | agg l cs _ _=>simp [D.one] at a
 | nil=>rfl
 | sl=>rfl
 | ptr=>rfl
inductive AV where
 | any
 | d (x:D)
 | nil
 | own (id:Nat)
 | ptr (id off:Nat)
 | eptr (id sz i k:Nat)
 | view (id sz i n:Nat)
 | full (bts:Nat) (l:List D)
 | addr (x:D)
 | agg (l:List AV)
 | tup (l:List AV)
 | fn (f:FuncId) (caps:List AV)
instance:Inhabited AV:=⟨.any⟩
inductive Ent where
 | arr (E:TypeId) (sz bts:Nat) (l:List D)
 | box (T:TypeId) (cells:List AV)
 | out (E bts:Nat) (cells:List AV)
def blk:Value->Option Nat
 | .pointer (some a)=>some a.block
 | .slice (some a) _ _=>some a.block
 | .map (some b)=>some b
 | _=>none
def zgL (w:World) (E:TypeId) (size:Nat) (v:Value) (n:Nat) (xs:List Value):Prop:=
 xs.length=n * size/\
 ((v = .slice none 0 0/\n=0)\/
  ∃ g off cap a,v = .slice (some ⟨g,off,none⟩) n cap/\w.heap[g]? =some (.cells a E (0,0))/\n<=cap/\cap<=maxLen/\off+cap * size<=a.size/\(a.toList.drop off).take (n * size)=xs)
section
variable {P:Program} {w:World} {E size n:Nat} {v:Value} {xs:List Value}
theorem zgL.of_row {base:Nat} (h:w.ownsRow base E size v n xs):zgL w E size v n xs:=by
 obtain ⟨b,c⟩:=h;refine ⟨b,c.imp id ?_⟩;rintro ⟨g,cap,a,rfl,_,d,e,f,j,i⟩;exact ⟨g,0,cap,a,rfl,d,e,f,by omega,by simpa using i⟩
theorem zgL.form (h:zgL w E size v n xs):(v = .slice none 0 0/\n=0)\/∃ b off c,v = .slice (some ⟨b,off,none⟩) n c:=by
 obtain ⟨_,a⟩:=h;rcases a with a | ⟨g,off,cap,cur,rfl,_⟩
 ·exact .inl a
 ·exact .inr ⟨g,off,cap,rfl⟩
theorem zgL.block {w':World} (h:zgL w E size v n xs) (c:∀ b,blk v=some b->w'.heap[b]? =w.heap[b]?):zgL w' E size v n xs:=by
 obtain ⟨d,e⟩:=h;refine ⟨d,e.imp id ?_⟩;rintro ⟨g,off,cap,a,rfl,f,r⟩;exact ⟨g,off,cap,a,rfl,by rw [c g rfl];exact f,r⟩
theorem zgL.cell {b off f c:Nat} (h:zgL w E size (.slice (some ⟨b,off,none⟩) f c) n xs) (j:Nat) (u:Value) (d:xs[j]? =some u):w.cell? ⟨b,off+j,none⟩=some u:=by
 obtain ⟨i,a⟩:=h;rcases a with ⟨a,_⟩ | ⟨g,off',cap,cur,a,h3,h4,h5,h6,h7⟩
 ·cases a
 ·cases a;rw [cell_of_row w b (off+j) cur E (0,0) h3];rw [<- h7] at d;have e:j < n * size:=by
   have:=(List.getElem?_eq_some_iff.1 d).1;simp at this;omega
  rw [List.getElem?_take_of_lt e,List.getElem?_drop] at d;simpa using d
theorem zgL.tail {b off c:Nat} (h:zgL w E size (.slice (some ⟨b,off,none⟩) n c) n xs) {i:Nat} (e:i<=n):
  zgL w E size (.slice (some ⟨b,off+i * size,none⟩) (n - i) (c - i)) (n - i) (xs.drop (i * size)):=by
 obtain ⟨d,a⟩:=h;rcases a with ⟨a,_⟩ | ⟨g,off',cap,cur,a,h3,h4,h5,h6,h7⟩
 ·cases a
 ·cases a;refine ⟨by rw [List.length_drop,d,Nat.sub_mul],.inr ⟨b,off+i * size,c - i,cur,rfl,h3,by omega,by omega,?_,?_⟩⟩
  ·have:=Nat.mul_le_mul_right size (by omega:i<=c);rw [Nat.sub_mul];omega
  ·rw [<- h7,List.drop_take,List.drop_drop,Nat.sub_mul]
end
abbrev Hd:=Nat->Option Value
def zvH (u:Value) (sz i n:Nat) (v:Value):Prop:=
 (u = .slice none 0 0/\v = .slice none 0 0/\i=0/\n=0)\/
 ∃ b d e f c a,u = .slice (some ⟨b,d,none⟩) e f/\i+n<=e/\v = .slice (some a) n c/\n<=c/\c<=maxLen/\(0 < n->a=⟨b,d+i * sz,none⟩)
inductive VRel (w:World) (S:Nat->Prop) (H:Hd):AV->Value->Prop
 | any (v:Value):VRel w S H .any v
 | d (x:D) (v:Value) (h:DRel w S x v):VRel w S H (.d x) v
 | nil:VRel w S H .nil (.slice none 0 0)
 | own (id:Nat) (v:Value) (h:H id=some v) (hs:(∃ a n c,v = .slice a n c)\/∃ b,v = .map (some b)):VRel w S H (.own id) v
 | ptr (id off b:Nat) (h:H id=some (.pointer (some ⟨b,0,none⟩))):VRel w S H (.ptr id off) (.pointer (some ⟨b,off,none⟩))
 | eptr (id sz i k b off n c:Nat) (h:H id=some (.slice (some ⟨b,off,none⟩) n c)) (hi:i < n):VRel w S H (.eptr id sz i k) (.pointer (some ⟨b,off+(i * sz+k),none⟩))
 | view (id sz i n:Nat) (u v:Value) (h:H id=some u) (hv:zvH u sz i n v):VRel w S H (.view id sz i n) v
 | full (bts:Nat) (l:List D) (a:Option Addr) (h:DRel w S (.sl bts l) (.slice a l.length l.length)):VRel w S H (.full bts l) (.slice a l.length l.length)
 | addr (x:D) (b off:Nat) (f:Nat->Value) (hb:S b) (hcell:∀ k,k < x.cells.length->w.cell? ⟨b,off+k,none⟩=some (f k))
   (hrel:∀ k,k < x.cells.length->DRel w S (x.cells.getD k default) (f k)):VRel w S H (.addr x) (.pointer (some ⟨b,off,none⟩))
 | agg (l:List AV) (cs:Array Value) (hs:cs.size=l.length) (h:∀ i,i < l.length->VRel w S H (l.getD i default) (cs.getD i undef)):VRel w S H (.agg l) (.agg cs)
 | tup (l:List AV) (cs:Array Value) (hs:cs.size=l.length) (h:∀ i,i < l.length->VRel w S H (l.getD i default) (cs.getD i undef)):VRel w S H (.tup l) (.tuple cs)
 | fn (f:FuncId) (caps:List AV) (cs:Array Value) (hs:cs.size=caps.length) (h:∀ i,i < caps.length->VRel w S H (caps.getD i default) (cs.getD i undef)):VRel w S H (.fn f caps) (.func (.func f) #[] cs)
theorem VRel.mono {w w':World} {S S':Nat->Prop} {H H':Hd} (h:∀ b,S b->S' b/\w'.heap[b]? =w.heap[b]?) (o:∀ id v,H id=some v->H' id=some v) {x:AV} {v:Value}
  (r:VRel w S H x v):VRel w' S' H' x v:=by
 induction r with
 | any v=>exact .any v
 | d x v a=>exact .d x v (a.mono h)
 | nil=>exact .nil
 | own id v a hs=>exact .own id v (o _ _ a) hs
 | ptr id off b a=>exact .ptr id off b (o _ _ a)
 | eptr id sz i k b off n c a s=>exact .eptr id sz i k b off n c (o _ _ a) s
 | view id sz i n u v a t=>exact .view id sz i n u v (o _ _ a) t
 | full bts l y a=>exact .full bts l y (a.mono h)
 | addr x b off f q e g=>
  refine .addr x b off f (h b q).1 (fun k p => ?_) (fun k p=>(g k p).mono h);rw [World.cell?_of_block (w:=w) (w':=w') (h b q).2];exact e k p
 | agg l cs hs _ j=>exact .agg l cs hs j
 | tup l cs hs _ j=>exact .tup l cs hs j
 | fn f m cs hs _ j=>exact .fn f m cs hs j
inductive EntRel (w:World) (S:Nat->Prop) (H:Hd):Ent->Value->Prop
 | arr (E:TypeId) (sz bts:Nat) (l:List D) (v:Value) (xs:List Value) (hsz:0 < sz) (hown:zgL w E sz v l.length xs)
   (hbt:l.length * bts<=most) (hcs:∀ i,i < l.length->(l.getD i default).cells.length=sz)
   (hrel:∀ i,i < l.length->∀ j,j < sz->DRel w S ((l.getD i default).cells.getD j default) (xs.getD (i * sz+j) undef)):EntRel w S H (.arr E sz bts l) v
 | box (T:TypeId) (cells:List AV) (b:Nat) (cur:Array Value) (hb:w.heap[b]? =some (.cells cur T (0,0))) (hs:cur.size=cells.length)
   (hrel:∀ j,j < cells.length->VRel w S H (cells.getD j default) (cur.getD j undef)):EntRel w S H (.box T cells) (.pointer (some ⟨b,0,none⟩))
 | mp (T:TypeId) (kb vb:Nat) (ks vs:List D) (b:Nat) (es:Array MapEntry) (clock:Nat) (hb:w.heap[b]? =some (.map es clock)) (h1:es.size=ks.length) (h2:es.size=vs.length)
   (hk:∀ i,i < es.size->DRel w S (ks.getD i default) (es.getD i default).key) (hv:∀ i,i < es.size->DRel w S (vs.getD i default) (es.getD i default).val)
   (hc:clock=es.size/\∀ i,i < es.size->(es.getD i default).born=i):
   EntRel w S H (.box T [.d (.sl kb ks),.d (.sl vb vs)]) (.map (some b))
 | out (E bts:Nat) (cells:List AV) (v:Value) (xs:List Value) (hown:zgL w E 1 v cells.length xs) (hbt:cells.length * bts<=most)
   (hrel:∀ j,j < cells.length->VRel w S H (cells.getD j default) (xs.getD j undef)):EntRel w S H (.out E bts cells) v
theorem EntRel.mono {w w':World} {S S':Nat->Prop} {H H':Hd} (h:∀ b,S b->S' b/\w'.heap[b]? =w.heap[b]?) (r:∀ id v,H id=some v->H' id=some v) {e:Ent} {v:Value}
  (n:∀ b,blk v=some b->w'.heap[b]? =w.heap[b]?) (s:EntRel w S H e v):EntRel w' S' H' e v:=by
 cases s with
 | arr E sz bts l v xs o c d p a=>exact .arr E sz bts l v xs o (c.block n) d p fun i k j m=>(a i k j m).mono h
 | box T cells b q f hs a=>exact .box T cells b q (by rw [n b rfl];exact f) hs fun j m=>(a j m).mono h r
 | mp T t u ks vs b x g f y z A B C=>exact .mp T t u ks vs b x g (by rw [n b rfl];exact f) y z (fun i k=>(A i k).mono h) (fun i k=>(B i k).mono h) C
 | out E bts cells v xs c d a=>exact .out E bts cells v xs (c.block n) d fun j m=>(a j m).mono h r
theorem EntRel.lt {w:World} {S:Nat->Prop} {H:Hd} {e:Ent} {v:Value} (h:EntRel w S H e v) {b:Nat} (c:blk v=some b):b < w.heap.size:=by
 cases h with
 | arr E sz bts l v xs k a=>
  obtain ⟨_,i⟩:=a;rcases i with ⟨rfl,_⟩ | ⟨g,off,cap,f,rfl,hh,_⟩
  ·simp [blk] at c
  ·simp [blk] at c;subst c;exact (Array.getElem?_eq_some_iff.1 hh).1
 | box T cells m f d=>simp [blk] at c;subst c;exact (Array.getElem?_eq_some_iff.1 d).1
 | mp T n o ks vs m p j d=>simp [blk] at c;subst c;exact (Array.getElem?_eq_some_iff.1 d).1
 | out E bts cells v xs a=>
  obtain ⟨_,i⟩:=a;rcases i with ⟨rfl,_⟩ | ⟨g,off,cap,f,rfl,hh,_⟩
  ·simp [blk] at c
  ·simp [blk] at c;subst c;exact (Array.getElem?_eq_some_iff.1 hh).1
theorem EntRel.box_inv {w:World} {S:Nat->Prop} {H:Hd} {T:TypeId} {cells:List AV} {b:Nat} (h:EntRel w S H (.box T cells) (.pointer (some ⟨b,0,none⟩))):
  ∃ a:Array Value,w.heap[b]? =some (.cells a T (0,0))/\a.size=cells.length/\∀ j,j < cells.length->VRel w S H (cells.getD j default) (a.getD j undef):=by
 generalize f:Ent.box T cells=e at h;generalize g:Value.pointer (some ⟨b,0,none⟩)=v at h;cases h with
 | arr=>cases f
 | box k d l a i hs c=>cases f;cases g;exact ⟨a,i,hs,c⟩
 | mp=>cases g
 | out=>cases f
def look {β:Type}:List (Nat×β)->Nat->Option β
 | [],_=>none
 | (k',v)::r,k=>bif Nat.beq k' k then some v else look r k
theorem zan {β:Type} (k a:Nat) (v:β) (r:List (Nat×β)):look ((a,v)::r) k=if a=k then some v else look r k:=by
 simp only [look];by_cases h:a=k
 ·subst h;simp
 ·rw [if_neg h];have:Nat.beq a k=false:=by
   cases b:Nat.beq a k
   ·rfl
   ·exact absurd (Nat.eq_of_beq_eq_true b) h
  rw [this];rfl
structure St where
 n:Nat
 nxt:Nat
 slots:List (Nat×AV)
 heap:List (Nat×Option Ent)
 rows:Nat->Option Ent
def St.get (σ:St) (k:Nat):Option AV:=look σ.slots k
def St.ent (σ:St) (id:Nat):Option Ent:=match look σ.heap id with
 | some e=>e
 | none=>σ.rows id
def St.set (σ:St) (k:Nat) (x:AV):St:={ σ with slots:=(k,x)::σ.slots }
def St.put (σ:St) (id:Nat) (e:Option Ent):St:={ σ with heap:=(id,e)::σ.heap }
def St.new (σ:St) (e:Ent):St:={ σ with heap:=(σ.nxt,some e)::σ.heap,nxt:=σ.nxt+1 }
theorem St.get_set (σ:St) (k j:Nat) (x:AV):(σ.set k x).get j=if k=j then some x else σ.get j:=zan _ _ _ _
theorem St.ent_put (σ:St) (id j:Nat) (e:Option Ent):(σ.put id e).ent j=if id=j then e else σ.ent j:=by
 simp only [St.ent,St.put,zan];by_cases h:id=j
 ·simp only [h,if_true]
 ·simp only [h,if_false]
theorem St.ent_new (σ:St) (j:Nat) (e:Ent):(σ.new e).ent j=if σ.nxt=j then some e else σ.ent j:=σ.ent_put σ.nxt j (some e)
@[simp] theorem St.ent_set (σ : St) (k j : Nat) (x : AV) : (σ.set k x).ent j = σ.ent j := rfl
@[simp] theorem St.get_put (σ : St) (id j : Nat) (e : Option Ent) : (σ.put id e).get j = σ.get j := rfl
@[simp] theorem St.get_new (σ : St) (j : Nat) (e : Ent) : (σ.new e).get j = σ.get j := rfl
def LIM:Nat:=100000
def RB:Nat:=1000000
def rid (f x:Nat):Nat:=RB * (x+1)+f
def bs (k:Nat):Nat:=if RB<=k then k % RB else k
theorem zuP {k:Nat} (h:k < RB):bs k=k:=by unfold bs;rw [if_neg (by omega)]
theorem zwR {k:Nat} (h:k < LIM):bs k=k:=zuP (by unfold LIM at h;unfold RB;omega)
def pinB (i:Nat):Bool:=Nat.ble LIM i && (Nat.blt i RB || Nat.ble LIM (i % RB))
theorem znl {i:Nat} (h:pinB i=true):LIM<=i:=by
 simp only [pinB,Bool.and_eq_true] at h;simpa using h.1
theorem zoy {i:Nat} (h:pinB i=true):LIM<=bs i:=by
 simp only [pinB,Bool.and_eq_true,Bool.or_eq_true] at h;obtain ⟨b,a⟩:=h;unfold bs;split
 ·rcases a with a | a
  ·have:i < RB:=by simpa using a
   omega
  ·simpa using a
 ·simpa using b
theorem zwz {i:Nat} (h:LIM<=i) (a:i < RB):pinB i=true:=by
 have b:Nat.ble LIM i=true:=by simpa using h
 have c:Nat.blt i RB=true:=by simpa using a
 unfold pinB;rw [b,c];rfl
theorem zqU {i:Nat}:pinB i=true↔LIM<=bs i:=by
 constructor
 ·exact zoy
 ·intro h;unfold bs at h;unfold pinB;simp only [Bool.and_eq_true,Bool.or_eq_true];split at h
  ·rename_i a;have:LIM<=i:=by unfold RB at a;unfold LIM;omega
   exact ⟨by simpa using this,.inr (by simpa using h)⟩
  ·rename_i a;have:i < RB:=by omega
   exact ⟨by simpa using h,.inl (by simpa using this)⟩
theorem zdX (f x:Nat):RB<=rid f x:=by unfold rid RB;omega
theorem ze1 {f x:Nat} (h:f < RB):rid f x % RB=f:=by
 unfold rid;rw [Nat.mul_add_mod,Nat.mod_eq_of_lt h]
theorem zjU {f x:Nat} (h:f < RB):rid f x / RB - 1=x:=by
 unfold rid;rw [Nat.mul_add_div (by unfold RB;omega),Nat.div_eq_of_lt h];omega
theorem ztw {f x:Nat} (h:f < RB):bs (rid f x)=f:=by
 unfold bs;rw [if_pos (zdX f x),ze1 h]
theorem zoH {k:Nat} (h:RB<=k):k=rid (k % RB) (k / RB - 1):=by
 unfold rid;have a:=Nat.div_add_mod k RB;have b:1<=k / RB:=(Nat.one_le_div_iff (by unfold RB;omega)).2 h;rw [show k / RB - 1+1=k / RB by omega];exact a.symm
theorem zD3 {f g x y:Nat} (a:f < RB) (b:g < RB) (h:rid f x=rid g y):f=g/\x=y:=by
 have c:=ze1 (x:=x) a;have e:=ze1 (x:=y) b;have d:=zjU (x:=x) a;have i:=zjU (x:=y) b;rw [h] at c d;exact ⟨by rw [<- c,e],by rw [<- d,i]⟩
structure Fr where
 w:World
 O:Nat->Prop
 X:Nat->Prop
 H0:Hd
 D:List Deferred:=[]
def Sh (X:Nat->Prop) (ent:Nat->Option Ent) (H:Hd) (w:World) (b:Nat):Prop:=
 b < w.heap.size /\ ¬ X b/\∀ id e v,ent id=some e->H id=some v->blk v≠some b
structure RelH (F:Fr) (σ:St) (H:Hd) (a:Act) (w:World):Prop where
 size:a.tmps.size=σ.n
 defs:a.defers=F.D
 os:w.os=F.w.os
 tape:w.tape=F.w.tape
 output:w.output=F.w.output
 grow:F.w.heap.size<=w.heap.size
 keep:∀ b,b < F.w.heap.size -> ¬ F.O b->w.heap[b]? =F.w.heap[b]?
 xlt:∀ b,F.X b->b < F.w.heap.size
 fresh:∀ id,σ.nxt<=bs id->bs id < LIM->H id=none
 pin:∀ id,pinB id=true->H id=F.H0 id
 ent:∀ id e,σ.ent id=some e->∃ v,H id=some v/\EntRel w (Sh F.X σ.ent H w) H e v
 own:∀ id e v b,σ.ent id=some e->H id=some v->blk v=some b->(F.w.heap.size<=b\/F.O b) /\ ¬ F.X b
 inj:∀ id id' e e' v v' b,σ.ent id=some e->σ.ent id'=some e'->H id=some v->H id'=some v'->blk v=some b->blk v'=some b->id=id'
 slot:∀ k x,σ.get k=some x->VRel w (Sh F.X σ.ent H w) H x (a.tmps.getD k undef)
theorem RelH.fresh0 {F:Fr} {σ:St} {H:Hd} {a:Act} {w:World} (r:RelH F σ H a w) (id:Nat) (c:σ.nxt<=id) (b:id < LIM):H id=none:=
 r.fresh id (by rw [zwR b];exact c) (by rw [zwR b];exact b)
def Rel (F:Fr) (σ:St) (a:Act) (w:World):Prop:=∃ H,RelH F σ H a w
section
variable {F:Fr} {σ:St} {H:Hd} {a:Act} {w:World}
theorem Sh.ext {X:Nat->Prop} {ent:Nat->Option Ent} {w':World} (h:Ext w w') (b:Nat) (a:Sh X ent H w b):Sh X ent H w' b/\w'.heap[b]? =w.heap[b]? :=
 ⟨⟨Nat.lt_of_lt_of_le a.1 h.size,a.2⟩,h.block b a.1⟩
theorem RelH.ext (r:RelH F σ H a w) {w':World} (h:Ext w w'):RelH F σ H a w' where
 size:=r.size
 defs:=r.defs
 os:=h.os.trans r.os
 tape:=h.tape.trans r.tape
 output:=h.output.trans r.output
 grow:=Nat.le_trans r.grow h.size
 keep b hb ho:=(h.block b (Nat.lt_of_lt_of_le hb r.grow)).trans (r.keep b hb ho)
 xlt:=r.xlt
 fresh:=r.fresh
 pin:=r.pin
 ent id e he:=by
  obtain ⟨v,hv,hr⟩:=r.ent id e he;exact ⟨v,hv,hr.mono (fun b hb=>Sh.ext h b hb) (fun _ _ h=>h) (fun b hb=>h.block b (hr.lt hb))⟩
 own:=r.own
 inj:=r.inj
 slot k x hx:=(r.slot k x hx).mono (fun b hb=>Sh.ext h b hb) (fun _ _ h=>h)
theorem zwe {a:Act} {d k:Nat} {v:Value} (b:d < a.tmps.size):(a.put (some d) v).tmps.getD k undef=if d=k then v else a.tmps.getD k undef:=by
 simp only [Act.put,Array.getD_eq_getD_getElem?];by_cases h:d=k
 ·subst h;simp [b]
 ·simp [Array.getElem?_setIfInBounds_ne h,h]
theorem RelH.set (r:RelH F σ H a w) {d:Nat} {x:AV} {v:Value} (hd:d < σ.n) (hx:VRel w (Sh F.X σ.ent H w) H x v):RelH F (σ.set d x) H (a.put (some d) v) w where
 size:=by simp [Act.put,St.set,r.size]
 defs:=r.defs
 os:=r.os
 tape:=r.tape
 output:=r.output
 grow:=r.grow
 keep:=r.keep
 xlt:=r.xlt
 fresh:=r.fresh
 pin:=r.pin
 ent:=r.ent
 own:=r.own
 inj:=r.inj
 slot k y hy:=by
  rw [zwe (by rw [r.size];exact hd)];rw [St.get_set] at hy;by_cases h:d=k
  ·rw [if_pos h] at hy ⊢;cases hy;exact hx
  ·rw [if_neg h] at hy ⊢;exact r.slot k y hy
end
end Go.Ab
