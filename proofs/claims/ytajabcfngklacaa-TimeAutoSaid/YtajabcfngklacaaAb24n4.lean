import Derived.Test.YtajabcfngklacaaAb24n3
import Derived.Laws.Entries
import Derived.Laws.Small
import Derived.Laws.Strings
import Derived.Laws.Cells
import Derived.Laws.Slices
import Derived.Laws.Rows
set_option linter.unusedVariables false
set_option linter.unusedSimpArgs false
set_option linter.unusedSectionVars false
namespace Go.Ab
open Enc (enc)
open Go.RowKit (Below)
def dAgg:TypeDesc->Bool
 | .struct _ | .array _ _=>true
 | _=>false
structure TI (P:Program) (t:TypeId) (dsc:Bool) (size bytes:Nat) (z:Value):Prop where
 un:∃ d,P.underlying t=some d/\dAgg d=dsc
 inf:∃ i,P.info? t=some i/\i.size=size/\i.bytes=bytes/\i.zero=some z
theorem zk9 {P:Program} {t:TypeId} {dsc:TypeDesc} (h:P.underlying t=some dsc) (w:World):(isAgg t).run P w = .ok (dAgg dsc) w:=by
 unfold isAgg;simp only [Sem.run_bind,run_underlying h,Result.andThen_ok];cases dsc<;>rfl
theorem TI.size {P:Program} {t:TypeId} {dsc:Bool} {size bytes:Nat} {z:Value} (h:TI P t dsc size bytes z) (w:World):(sizeOf t).run P w = .ok size w:=by
 obtain ⟨i,a,hs,_⟩:=h.inf;simp [sizeOf,typeInfo,a,hs]
theorem TI.zero {P:Program} {t:TypeId} {dsc:Bool} {size bytes:Nat} {z:Value} (h:TI P t dsc size bytes z) (w:World):(zeroValue t).run P w = .ok z w:=by
 obtain ⟨i,a,_,_,b⟩:=h.inf;simp [zeroValue,typeInfo,a,b]
section
variable {P:Program} {F:Fr} {ops:Array Oper} {σ:St} {K:St->Prop} {o:Oper} {rest:List (Nat×Oper)}
theorem RO.move {x:Operand} {y:AV} (b:o.op = .move x) (c:σ.ev x=some y):RO P F σ o y:=fun H a w r=>
 ⟨a.eval x,fun w' _=>by simp [execOp,b],r.ev c⟩
theorem RO.assign {x:Operand} {y:AV} (b:o.op = .assign x) (c:σ.ev x=some y):RO P F σ o y:=fun H a w r=>
 ⟨a.eval x,fun w' _=>by simp [execOp,b],r.ev c⟩
theorem RO.pick_t {c x y:Operand} {z:AV} (b:o.op = .pick c x y) (d:σ.ev c=some (.d (.lit (.bool true)))) (e:σ.ev x=some z):RO P F σ o z:=fun H a w r=>
 ⟨a.eval x,fun w' _=>by simp [execOp,b,r.lit d,asBool],r.ev e⟩
theorem RO.pick_f {c x y:Operand} {z:AV} (b:o.op = .pick c x y) (d:σ.ev c=some (.d (.lit (.bool false)))) (e:σ.ev y=some z):RO P F σ o z:=fun H a w r=>
 ⟨a.eval y,fun w' _=>by simp [execOp,b,r.lit d,asBool],r.ev e⟩
theorem VRel.int (w:World) (S:Nat->Prop) (H:Hd) (k:IntKind) (n:Int):VRel w S H (.d (.lit (.int k n))) (.int k n) := .d _ _ (.lit _ rfl)
theorem VRel.bool (w:World) (S:Nat->Prop) (H:Hd) (b:Bool):VRel w S H (.d (.lit (.bool b))) (.bool b) := .d _ _ (.lit _ rfl)
theorem zms (P:Program) (a:BinOp) (t:TypeId) (x y:Operand) (u v:Value) (w:World) (b:u.oneCell'=true) (c:u ≠ .nilIface):(eqGuard a t x y u v).run P w = .ok () w:=by
 unfold eqGuard;cases a<;>first
  | rfl
  | (cases u<;>first | (exact absurd rfl c) | (simp [Value.oneCell'] at b;done) | (cases v<;>rfl))
theorem RO.bin {b:BinOp} {t t':TypeId} {x y:Operand} {u v z:Value} (c:o.op = .binOp b t x y t') (d:σ.ev x=some (.d (.lit u))) (e:σ.ev y=some (.d (.lit v)))
  (h:∀ w:World,(binOp b t u v).run P w = .ok z w) (f:z.oneCell'=true) (g:u.oneCell'=true) (i:u ≠ .nilIface):RO P F σ o (.d (.lit z)):=fun H a w r=>
 ⟨z,fun w' _=>by simp [execOp,c,r.lit d,r.lit e,zms P b t x y u v _ g i,h],.d _ _ (.lit _ f)⟩
section ints
variable {t t':TypeId} {x y:Operand} {k:IntKind} {m n:Int}
theorem zEz {n:Int} (h : -9223372036854775808<=n/\n<=9223372036854775807):IntKind.i64.wrap n=n:=by
 unfold IntKind.wrap;simp [IntKind.bits,IntKind.signed];omega
end ints
theorem RO.not {t:TypeId} {x:Operand} {b:Bool} (c:o.op = .unOp .not t x) (d:σ.ev x=some (.d (.lit (.bool b)))):RO P F σ o (.d (.lit (.bool (!b)))):=fun H a w r=>
 ⟨.bool !b,fun w' _=>by simp [execOp,c,r.lit d,Op.unary],.bool _ _ _ _⟩
theorem DRel.sl_form {w:World} {S:Nat->Prop} {bts:Nat} {l:List D} {v:Value} (h:DRel w S (.sl bts l) v):∃ a c,v = .slice a l.length c:=by
 cases h with
 | nil _ a c d _=>exact ⟨a,c,rfl⟩
 | sl _ _ b off c sz f=>exact ⟨_,c,rfl⟩
theorem RO.len {x:Operand} {t e:TypeId} {α:Type} [Enc α] {l:List α} (g:o.op = .call { callee := .builtin .len,args:=#[x],argTypes:=#[t] }) (i:P.underlying t=some (.slice e))
  (j:σ.ev x=some (.d (enc l))):RO P F σ o (.d (.lit (.int .i64 l.length))):=fun H a w r=>by
 have k:=r.ev j;obtain ⟨f,c,b⟩:∃ f c,a.eval x = .slice f l.length c:=by
  cases k with
  | d _ _ h=>
   have:=h.sl_form;simpa using this
 exact ⟨.int .i64 l.length,fun w' _=>by simp [execOp,g,resolve,invoke,builtin,Builtin.len_,run_underlying i,b,goInt],.int _ _ _ _ _⟩
theorem RO.len_nil {x:Operand} {t e:TypeId} (c:o.op = .call { callee := .builtin .len,args:=#[x],argTypes:=#[t] }) (d:P.underlying t=some (.slice e))
  (f:σ.ev x=some .nil):RO P F σ o (.d (.lit (.int .i64 0))):=fun H a w r=>by
 have b:=r.ev f;generalize g:a.eval x=u at b;cases b;exact ⟨.int .i64 0,fun w' _=>by simp [execOp,c,resolve,invoke,builtin,Builtin.len_,run_underlying d,g,goInt],.int _ _ _ _ _⟩
abbrev Ent.arrOf (E:TypeId) {α:Type} [Enc α] (l:List α):Ent := .arr E (Enc.sz α) (Enc.bts α) (l.map enc)
theorem RO.len_own {x:Operand} {t e:TypeId} {id:Nat} {E:TypeId} {α:Type} [Enc α] {l:List α} (k:o.op = .call { callee := .builtin .len,args:=#[x],argTypes:=#[t] }) (m:P.underlying t=some (.slice e))
  (n:σ.ev x=some (.own id)) (p:σ.ent id=some (Ent.arrOf E l)):RO P F σ o (.d (.lit (.int .i64 l.length))):=fun H a w r=>by
 have j:=r.ev n;obtain ⟨v,q,s⟩:=r.ent id _ p;obtain ⟨i,c,f⟩:∃ i c,a.eval x = .slice i l.length c:=by
  generalize a.eval x=u at j;cases j with
  | own _ _ h _=>
   rw [q] at h;cases h;cases s with
   | arr _ _ _ _ _ xs _ d=>
    rcases d.form with ⟨g,y⟩ | ⟨b,off,c,g⟩
    ·refine ⟨none,0,?_⟩;rw [g];congr 1;simpa using y.symm
    ·exact ⟨_,c,by simpa using g⟩
 exact ⟨.int .i64 l.length,fun w' _=>by simp [execOp,k,resolve,invoke,builtin,Builtin.len_,run_underlying m,f,goInt],.int _ _ _ _ _⟩
theorem RO.len_str {x:Operand} {t:TypeId} {s:ByteArray} (b:o.op = .call { callee := .builtin .len,args:=#[x],argTypes:=#[t] }) (c:P.underlying t=some .string)
  (d:σ.ev x=some (.d (.lit (.string s)))):RO P F σ o (.d (.lit (.int .i64 s.size))):=fun H a w r=>
 ⟨.int .i64 s.size,fun w' _=>by simp [execOp,b,resolve,invoke,builtin,Builtin.len_,run_underlying c,r.lit d,goInt],.int _ _ _ _ _⟩
def ix {α:Type} [Inhabited α] (l:List α) (i:Int):α:=l.getD i.toNat default
theorem zgJ (b off n:Nat):(⟨b,off,none⟩:Addr).add n=⟨b,off+n,none⟩:=by
 unfold Addr.add;split
 ·rename_i h;subst h;rfl
 ·rfl
theorem RO.idx {t e:TypeId} {x i:Operand} {k:IntKind} {j:Int} {α:Type} [Enc α] [Inhabited α] {l:List α} {dsc:Bool} {bytes:Nat} {z:Value}
  (L:o.op = .indexAddr t x i) (M:P.underlying t=some (.slice e)) (N:TI P e dsc (Enc.sz α) bytes z)
  (O:σ.ev x=some (.d (enc l))) (Q:σ.ev i=some (.d (.lit (.int k j)))) (W:0<=j/\j < l.length):RO P F σ o (.addr (enc (ix l j))):=fun H a w r=>by
 have E:=r.ev O;have B:=r.lit Q;obtain ⟨n,rfl⟩:∃ n:Nat,j=n:=⟨j.toNat,by omega⟩;have q:n < l.length:=by omega
 have I:(l.map enc).getD n default=enc (ix l n):=by simp [ix,List.getD_eq_getElem?_getD,q]
 generalize S:a.eval x=u at E;cases E with
 | d _ _ h=>
  generalize v:(enc l:D)=dd at h;cases h with
  | lit=>cases v
  | ptr=>cases v
  | agg=>cases v
  | nil=>injection v with J s;simp at s;subst s;simp at q
  | sl bts X b off c sz f Y T U Z hm V C p y=>
   injection v with J s
   subst s;have m:sz=Enc.sz α:=by rw [<- C n (by simpa using q),I];exact Enc.hsz _
   subst m;refine ⟨.pointer (some ⟨b,off+n * Enc.sz α,none⟩),fun w' _ => ?_,?_⟩
   ·have R:(n:Int) < (l.map enc).length:=by simpa using q
    simp [execOp,L,Instr.indexAt,S,B,asIntOf,run_underlying M,q,N.size,zgJ]
   ·have g:(enc (ix l (n:Int)):D).cells.length=Enc.sz α:=Enc.hsz _;refine .addr _ b _ (fun k=>f (n * Enc.sz α+k)) U (fun k A => ?_) (fun k A => ?_)
    ·rw [g] at A;have:=p (n * Enc.sz α+k) (by
      have J:n * Enc.sz α+k < (n+1) * Enc.sz α:=by rw [Nat.add_mul];omega
      have s:(n+1) * Enc.sz α<=(l.map enc).length * Enc.sz α:=Nat.mul_le_mul_right _ (by simp;omega);omega)
     rw [<- this,Nat.add_assoc]
    ·rw [g] at A;rw [<- I];exact y n (by simpa using q) k A
theorem RO.idx_own {t e:TypeId} {x i:Operand} {k:IntKind} {j:Int} {id:Nat} {E:TypeId} {α:Type} [Enc α] {l:List α} {dsc:Bool} {bytes:Nat} {z:Value}
  (y:o.op = .indexAddr t x i) (A:P.underlying t=some (.slice e)) (B:TI P e dsc (Enc.sz α) bytes z)
  (C:σ.ev x=some (.own id)) (D:σ.ent id=some (Ent.arrOf E l)) (I:σ.ev i=some (.d (.lit (.int k j)))) (M:0<=j/\j < l.length):RO P F σ o (.eptr id (Enc.sz α) j.toNat 0):=fun H a w r=>by
 have m:=r.ev C;have f:=r.lit I;obtain ⟨n,rfl⟩:∃ n:Nat,j=n:=⟨j.toNat,by omega⟩;have g:n < l.length:=by omega
 obtain ⟨v,p,L⟩:=r.ent id _ D;generalize J:a.eval x=u at m;cases m with
 | own _ _ h _=>
  rw [p] at h;cases h;cases L with
  | arr _ _ _ _ _ xs _ d=>
   rcases d.form with ⟨q,s⟩ | ⟨b,off,c,q⟩
   ·simp at s;subst s;simp at g
   ·subst q;refine ⟨.pointer (some ⟨b,off+n * Enc.sz α,none⟩),fun w' _ => ?_,?_⟩
    ·simp [execOp,y,Instr.indexAt,J,f,asIntOf,run_underlying A,g,B.size,zgJ]
    ·have:=VRel.eptr (w:=w) (S:=Sh F.X σ.ent H w) (H:=H) id (Enc.sz α) n 0 b off l.length c (by simpa using p) g;simpa using this
structure FA (P:Program) (s:TypeId) (i off:Nat) (ft:TypeId) (size:Nat):Prop where
 un:∃ fs:Array Field,P.underlying s=some (.struct fs)/\∃ f,fs[i]? =some f/\f.offset=off/\f.type=ft
 inf:∃ i,P.info? ft=some i/\i.size=size
 pos:0 < size
theorem FA.run {s i off c size:Nat} (h:FA P s i off c size) (b k:Nat) (w:World):(Instr.fieldAt s (.pointer (some ⟨b,k,none⟩)) i).run P w = .ok (.pointer (some ⟨b,k+off,none⟩)) w:=by
 obtain ⟨m,d,f,e,rfl,rfl⟩:=h.un;obtain ⟨g,j,hs⟩:=h.inf;have l:=h.pos;have a : ¬ size=0:=by omega
 simp [Instr.fieldAt,run_underlying d,e,Instr.sureAddr,fieldPlace,sizeOf,typeInfo,j,hs,a,zgJ]
theorem RO.fld_ptr {s:TypeId} {x:Operand} {i off d size id k:Nat} (e:o.op = .fieldAddr s x i) (f:FA P s i off d size) (g:σ.ev x=some (.ptr id k)):RO P F σ o (.ptr id (k+off)):=fun H a w r=>by
 have c:=r.ev g;generalize j:a.eval x=u at c;cases c with
 | ptr _ _ b h=>exact ⟨.pointer (some ⟨b,k+off,none⟩),fun w' _=>by simp [execOp,e,j,f.run],.ptr id _ b h⟩
theorem RO.fld_eptr {s:TypeId} {x:Operand} {i off f size id sz j k:Nat} (g:o.op = .fieldAddr s x i) (l:FA P s i off f size) (m:σ.ev x=some (.eptr id sz j k)):RO P F σ o (.eptr id sz j (k+off)):=fun H a w r=>by
 have e:=r.ev m;generalize p:a.eval x=u at e;cases e with
 | eptr _ _ _ _ b d n c h q=>
  refine ⟨.pointer (some ⟨b,d+(j * sz+k)+off,none⟩),fun w' _=>by simp [execOp,g,p,l.run],?_⟩;have:=VRel.eptr (w:=w) (S:=Sh F.X σ.ent H w) (H:=H) id sz j (k+off) b d n c h q
  rwa [show d+(j * sz+(k+off))=d+(j * sz+k)+off by omega] at this
theorem RO.fld_addr {s:TypeId} {x:Operand} {i off q size:Nat} {l:List D} {c:D} (t:o.op = .fieldAddr s x i) (v:FA P s i off q size) (y:σ.ev x=some (.addr (.agg l)))
  (m:l[off]? =some c) (n:c.cells=[c]):RO P F σ o (.addr c):=fun H a w r=>by
 have p:=r.ev y;generalize z:a.eval x=u at p;cases p with
 | addr _ b k f A d h=>
  refine ⟨.pointer (some ⟨b,k+off,none⟩),fun w' _=>by simp [execOp,t,z,v.run],?_⟩;have g:off < l.length:=(List.getElem?_eq_some_iff.1 m).1;refine .addr c b (k+off) (fun j=>f (off+j)) A (fun j e => ?_) (fun j e => ?_)
  ·rw [n] at e;have:j=0:=by simpa using e
   subst this;have:=d off g;simpa using this
  ·rw [n] at e ⊢;have:j=0:=by simpa using e
   subst this;have:=h off g;simpa [D.cells,m] using this
theorem RO.fld_addr_agg {s:TypeId} {x:Operand} {i off n size:Nat} {l g:List D} (p:o.op = .fieldAddr s x i) (q:FA P s i off n size) (t:σ.ev x=some (.addr (.agg l)))
  (v:(l.drop off).take size=g) (h:g.length=size):RO P F σ o (.addr (.agg g)):=fun H a w r=>by
 have m:=r.ev t;generalize z:a.eval x=u at m;cases m with
 | addr _ b k f A c e=>
  refine ⟨.pointer (some ⟨b,k+off,none⟩),fun w' _=>by simp [execOp,p,z,q.run],?_⟩;subst v;have y:size<=l.length - off:=by simp at h;omega
  refine .addr _ b (k+off) (fun j=>f (off+j)) A (fun j d => ?_) (fun j d => ?_)
  ·have d:j < size:=by simpa [D.cells,h] using d
   rw [Nat.add_assoc];exact c (off+j) (by simp [D.cells];omega)
  ·have d:j < size:=by simpa [D.cells,h] using d
   have:=e (off+j) (by simp [D.cells];omega);simpa [D.cells,List.getD_eq_getElem?_getD,List.getElem?_take,d] using this
theorem zoJ {t:TypeId} {dsc:TypeDesc} (b:P.underlying t=some dsc) (c:dAgg dsc=false) {w:World} {a:Addr} {v:Value} (h:w.cell? a=some v):(loadVar t a).run P w = .ok v w:=by
 unfold loadVar;simp [zk9 b,c,load,Sem.run,h]
theorem zmS {t:TypeId} {dsc:Bool} {size bytes:Nat} {z:Value} (a:TI P t dsc size bytes z) (c:dsc=true) {w:World} {b off:Nat} {f:Nat->Value} (h:∀ j,j < size->w.cell? ⟨b,off+j,none⟩=some (f j)):
  (loadVar t ⟨b,off,none⟩).run P w = .ok (.agg ((Array.range size).map f)) w:=by
 unfold loadVar;have:=run_loadCells (P:=P) (w:=w) ⟨b,off,none⟩ size f (fun j e=>by rw [zgJ];exact h j e);obtain ⟨d,g,i⟩:=a.un;simp [zk9 g,i,c,a.size,this];exact (Array.ext' (by simp))
theorem zm8 {w w':World} (h:Ext w w') {a:Addr} {v:Value} (b:w.cell? a=some v):w'.cell? a=some v:=by
 rw [World.cell?_of_block (w:=w) (w':=w') (h.block _ (World.block_lt_of_cell? w a b))];exact b
theorem RO.ld_addr {t:TypeId} {dsc:TypeDesc} {x:Operand} {c:D} (i:o.op = .load t x) (l:P.underlying t=some dsc) (m:dAgg dsc=false) (n:σ.ev x=some (.addr c)) (g:c.cells=[c]):RO P F σ o (.d c):=fun H a w r=>by
 have j:=r.ev n;generalize q:a.eval x=u at j;cases j with
 | addr _ b k f s d e=>
  have p:=d 0 (by rw [g];simp);refine ⟨f 0,fun w' h => ?_,?_⟩
  ·replace h:=h.resolve_left (by simp [zmx,i])
   simp only [execOp,i,q,Instr.loadAt,Instr.sureAddr];have:=zoJ l m (zm8 h p);rw [Nat.add_zero] at this;simp [this]
  ·have:=e 0 (by rw [g];simp);rw [g] at this;exact .d _ _ (by simpa using this)
theorem RO.ld_addr_agg {t:TypeId} {dsc:Bool} {size bytes:Nat} {z:Value} {x:Operand} {l:List D} (g:o.op = .load t x) (n:TI P t dsc size bytes z) (p:dsc=true) (q:σ.ev x=some (.addr (.agg l))) (s:l.length=size):RO P F σ o (.d (.agg l)):=fun H a w r=>by
 have m:=r.ev q;generalize y:a.eval x=u at m;cases m with
 | addr _ b k f A c d=>
  subst s;refine ⟨.agg ((Array.range l.length).map f),fun w' e => ?_,?_⟩
  ·replace e:=e.resolve_left (by simp [zmx,g])
   simp only [execOp,g,y,Instr.loadAt,Instr.sureAddr];have:=zmS n p (fun j v=>zm8 e (c j v));simp [this]
  ·refine .d _ _ (.agg l _ (by simp) fun i h => ?_);have:=d i h;simpa [D.cells,h] using this
theorem RO.ld_ptr {t:TypeId} {dsc:TypeDesc} {x:Operand} {id k:Nat} {T:TypeId} {cells:List AV} {c:AV} (g:o.op = .load t x) (m:P.underlying t=some dsc) (n:dAgg dsc=false) (p:σ.ev x=some (.ptr id k))
  (e:σ.ent id=some (.box T cells)) (i:cells[k]? =some c):RO P F σ o c:=fun H a w r=>by
 have j:=r.ev p;obtain ⟨v,y,z⟩:=r.ent id _ e;have l:k < cells.length:=(List.getElem?_eq_some_iff.1 i).1;generalize s:a.eval x=u at j;cases j with
 | ptr _ _ b h=>
  rw [y] at h;cases h;cases z with
  | box _ _ _ d A hs f=>
   have q:w.cell? ⟨b,k,none⟩=some (d.getD k undef):=by
    rw [cell_of_row w b k d T (0,0) A];simp [hs,l]
   refine ⟨d.getD k undef,fun w' e => ?_,?_⟩
   ·replace e:=e.resolve_left (by simp [zmx,g])
    simp only [execOp,g,s,Instr.loadAt,Instr.sureAddr];have:=zoJ m n (zm8 e q);simp [this]
   ·have:=f k l;simpa [List.getD_eq_getElem?_getD,i] using this
def avs (x:D):List AV:=x.cells.map .d
theorem RO.extract {x:Operand} {i:Nat} {l:List AV} {y:AV} (e:o.op = .extract x i) (f:σ.ev x=some (.tup l)) (b:l[i]? =some y):RO P F σ o y:=fun H a w r=>by
 have c:=r.ev f;have d:i < l.length:=(List.getElem?_eq_some_iff.1 b).1;generalize j:a.eval x=u at c;cases c with
 | tup _ cs hs h=>
  have g:cs[i]? =some (cs.getD i undef):=by simp [hs,d]
  refine ⟨cs.getD i undef,fun w' _ => ?_,?_⟩
  ·simp only [execOp,e,Instr.extract,j,g];rfl
  ·have:=h i d;simpa [List.getD_eq_getElem?_getD,b] using this
end
end Go.Ab
