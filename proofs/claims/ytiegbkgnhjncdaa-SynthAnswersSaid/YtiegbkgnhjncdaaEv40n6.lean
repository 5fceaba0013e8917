import Derived.Test.YtiegbkgnhjncdaaEv40n5
set_option linter.unusedVariables false
set_option linter.unusedSimpArgs false
set_option linter.unusedSectionVars false
namespace Go.Ab
noncomputable section
open Enc (enc)
variable {R:Type}
def bAt (a:List UInt8) (j:Int):Int:=((a.getD j.toNat 0).toNat:Int)
def zC0 (TT:List TE) (s:ESt) (x:Operand) (t:Nat) (K:EV->Option R):Option R:=match s.ev x with
 | some (.d (.list _) l)=>match zdd TT t with
  | some _=>K (.d (.int .i64) (l.length:Int))
  | none=>none
 | some (.own id)=>match s.ent id with
  | some (.arr _ _ l)=>match zdd TT t with
   | some _=>K (.d (.int .i64) (l.length:Int))
   | none=>none
  | some (.box _ [.d (.list _) ks,.d (.list _) _])=>match mapT TT t with
   | some _=>K (.d (.int .i64) (ks.length:Int))
   | none=>none
  | _=>none
 | some (.view _ _ _ n)=>match zdd TT t with
  | some _=>K (.d (.int .i64) (n:Int))
  | none=>none
 | some .nil=>match zdd TT t with
  | some _=>K (.d (.int .i64) (0:Int))
  | none=>none
 | some (.d .str a)=>bif strT TT t then K (.d (.int .i64) (a.length:Int)) else none
 | _=>none
def zvE (a:Ty):Nat->List EV->Option (List a.den)
 | 0,_=>some []
 | n+1,.d t x::r=>match zbu t a x,zvE a n r with
  | some y,some l=>some (y::l)
  | _,_=>none
 | _,_=>none
theorem zmF {a:Ty}:∀ {n:Nat} {cs:List EV} {l:List a.den},zvE a n cs=some l->l.length=n/\n<=cs.length/\∀ j,j < n->cs[j]? =some (.d a (l.getD j a.dflt))
 | 0,cs,l,h=>by cases h;exact ⟨rfl,Nat.zero_le _,fun j b=>by omega⟩
 | n+1,[],l,h=>by simp [zvE] at h
 | n+1,c::r,l,h=>by
  cases c with
  | d t x=>
   simp only [zvE] at h;split at h
   ·rename_i y m e f;cases h;obtain ⟨rfl,rfl⟩:=za6 e;obtain ⟨g,i,k⟩:=zmF f;refine ⟨by simp [g],by simpa using i,fun j b => ?_⟩
    match j with
    | 0=>rfl
    | j+1=>simpa using k j (by omega)
   ·cases h
  | _=>simp [zvE] at h
def zzI (TT:List TE) (s:ESt) (t:Nat) (x i:Operand) (K:EV->Option R):Option R:=match s.ev i with
 | some (.d (.int _) j)=>match s.ev x with
  | some (.ptr id off)=>match arrT TT t with
   | some (n,e)=>match fT TT e with
    | some E=>bif Nat.beq E.size 1 then (match tyT TT e with
     | some a=>G (0<=j/\j < (n:Int)) (K (.vptr id off n a j.toNat))
     | none=>none) else (match arrT TT e with
     | some (m,e2)=>match fT TT e2 with
      | some b=>match tyT TT e2 with
       | some a=>bif Nat.beq b.size 1 && Nat.beq E.size m then G (0<=j/\j < (n:Int)) (K (.vptr id off (n * m) a (j.toNat * m))) else none
       | none=>none
      | none=>none
     | none=>none)
    | none=>none
   | none=>none
  | some (.vptr id off n a q)=>match arrT TT t with
   | some (m,e)=>match fT TT e with
    | some E=>bif Nat.beq E.size 1 then G (0<=j/\j < (m:Int)) (K (.vptr id off n a (q+j.toNat))) else none
    | none=>none
   | none=>none
  | _=>none
 | _=>none
def zCl (s:ESt) (x i:Operand):Bool:=match s.ev x with
 | some (.vptr _ _ _ _ _)=>true
 | some (.ptr _ _)=>(match i with
  | .const _=>false
  | _=>true)
 | _=>false
def zCZ (TT:List TE) (s:ESt) (t:Nat) (x i:Operand) (K:EV->Option R):Option R:=match s.ev i with
 | some (.d (.int _) j)=>match s.ev x with
  | some (.d (.list b) l)=>match zdd TT t with
   | some e=>match tyT TT e with
    | some c=>bif Ty.beq c b then G (0<=j/\j < (l.length:Int)) (K (.addr b (ix l j))) else none
    | none=>none
   | none=>none
  | some (.own id)=>match s.ent id with
   | some (.arr _ b l)=>match zdd TT t with
    | some e=>match tyT TT e with
     | some c=>bif Ty.beq c b then G (0<=j/\j < (l.length:Int)) (K (.eptr id b j.toNat 0)) else none
     | none=>none
    | none=>none
   | _=>none
  | some (.view id b q n)=>match zdd TT t with
   | some e=>match tyT TT e with
    | some c=>bif Ty.beq c b then G (0<=j/\j < (n:Int)) (K (.eptr id b (q+j.toNat) 0)) else none
    | none=>none
   | none=>none
  | some (.addr tx a)=>match arrT TT t with
   | some (n,e)=>match tyT TT e with
    | some b=>match zbu tx (vecT b n) a with
     | some v=>G (0<=j/\j < (n:Int)) (K (.addr b (vget b n v j.toNat)))
     | none=>none
    | none=>none
   | none=>none
  | some (.ptr id off)=>match arrT TT t with
   | some (n,e)=>match fT TT e with
    | some E=>match j with
     | .ofNat d=>bif Nat.blt d n then K (.ptr id (off+d * E.size)) else none
     | _=>none
    | none=>none
   | none=>none
  | _=>none
 | _=>none
def zCY (TT:List TE) (s:ESt) (st:Nat) (x:Operand) (i:Nat) (K:EV->Option R):Option R:=match fldT TT st i with
 | some (off,_,e)=>match s.ev x with
  | some (.ptr id k)=>K (.ptr id (k+off))
  | some (.eptr id te j k)=>K (.eptr id te j (k+off))
  | some (.addr tx a)=>match e.ty with
   | some u=>match zsO tx a off u with
    | some y=>bif tx.agg then K (.addr u y) else none
    | none=>none
   | none=>none
  | _=>none
 | none=>none
def zwO (TT:List TE) (s:ESt) (st:Nat) (x:Operand) (i:Nat) (K:EV->Option R):Option R:=match fldT TT st i with
 | some (off,_,e)=>match s.ev x with
  | some (.agg l)=>bif e.ag then none else match l[off]? with
   | some c=>K c
   | none=>none
  | some (.d tx a)=>bif e.ag then none else match e.ty with
   | some u=>match zsO tx a off u with
    | some y=>bif tx.agg then K (.d u y) else none
    | none=>none
   | none=>none
  | _=>none
 | none=>none
def zzK (TT:List TE) (s:ESt) (t:Nat) (x:Operand) (K:EV->Option R):Option R:=match s.ev x with
 | some (.addr tx a)=>match tyT TT t with
  | some u=>bif Ty.beq u tx then K (.d tx a) else none
  | none=>none
 | some (.ptr id k)=>match s.ent id with
  | some (.box _ cs)=>match fT TT t with
   | some e=>bif e.ag then (match e.ty with
     | some u=>match zpK u (cs.drop k) with
      | some (y,_)=>bif u.agg && Nat.ble (k+u.sz) cs.length then K (.d u y) else none
      | none=>none
     | none=>none)
    else match cs[k]? with
     | some c=>K c
     | none=>none
   | none=>none
  | _=>none
 | some (.eptr id te j k)=>match s.ent id with
  | some (.arr _ te' l)=>bif Ty.beq te te' then (match tyT TT t with
   | some u=>match zsO te' (l.getD j te'.dflt) k u with
    | some y=>bif Nat.ble (k+u.sz) te.sz then G (j < l.length) (K (.d u y)) else none
    | none=>none
   | none=>none) else none
  | _=>none
 | _=>none
def zwS (TT:List TE) (s:ESt) (t:Nat) (x:Operand) (K:EV->Option R):Option R:=match s.ev x with
 | some (.vptr id off n te j)=>match s.ent id with
  | some (.box _ cs)=>match fT TT t with
   | some e=>bif e.ag then none else (match zvE te n (cs.drop off) with
    | some l=>G (j < n) (K (.d te (l.getD j te.dflt)))
    | none=>none)
   | none=>none
  | _=>none
 | _=>none
def zxL (s:ESt) (x:Operand):Bool:=match s.ev x with
 | some (.vptr ..)=>true
 | _=>false
def zC2 (s:ESt) (x:Operand) (i:Nat) (K:EV->Option R):Option R:=match s.ev x with
 | some (.tup l)=>match l[i]? with
  | some y=>K y
  | none=>none
 | _=>none
def zCW (TT:List TE) (s:ESt) (t:Nat) (x:Operand) (lo a:Option Operand) (K:EV->Option R):Option R:=bif Nat.beq s.n 0 && Nat.beq s.n 1 then K .any else none
def zrV (s:ESt):List Operand->Option (List EV)
 | []=>some []
 | x::r=>match s.ev x with
  | some v=>match zrV s r with
   | some l=>some (v::l)
   | none=>none
  | none=>none
def zCV (s:ESt) (x:Operand) (K:EV->Option R):Option R:=match s.ev x with
 | some (.ptr i k)=>K (.ptr i k)
 | some (.addr t a)=>K (.addr t a)
 | some (.eptr i t j k)=>K (.eptr i t j k)
 | some (.fn f c)=>K (.fn f c)
 | some (.d (.tree u) t)=>bif u.chain then G (t.isMk=true) (K (.addr (zgV u) (zDl u t))) else none
 | _=>none
def bstr (l:List Int):List UInt8:=l.map fun n=>UInt8.ofNat n.toNat
def u8T (TT:List TE) (id:Nat):Bool:=match fT TT id with
 | some ⟨_,.int .u8,_,_,_,_,_⟩=>true
 | _=>false
theorem zCa {P:Program} {TT:List TE} {id:Nat} (a:TOK P TT) (h:u8T TT id=true):P.underlying id=some (.int .u8):=by
 unfold u8T at h;split at h
 ·rename_i b;obtain ⟨c,d⟩:=zbt a b;cases d;exact c.td
 ·cases h
def zzC (TT:List TE) (s:ESt) (t u:Nat) (x:Operand) (K:EV->Option R):Option R:=match s.ev x with
 | some (.d (.int _) n)=>match fT TT t,fT TT u with
  | some _,some ⟨_,.int k,_,_,_,_,_⟩=>K (.d (.int k) (k.wrap n))
  | some _,some ⟨_,.str,_,_,_,_,_⟩=>G (0<=n/\n < 128) (K (.d .str [UInt8.ofNat n.toNat]))
  | _,_=>none
 | some (.own id)=>match s.ent id with
  | some (.arr _ (.int .u8) l)=>match zdd TT t with
   | some e=>bif u8T TT e && strT TT u then K (.d .str (bstr l)) else none
   | none=>none
  | _=>none
 | _=>none
def imin (m n:Int):Int:=if n < m then n else m
def imax (m n:Int):Int:=if m < n then n else m
def zEf (s:ESt) (x y:Operand) (K:EV->Option R):Option R:=match s.ev x,s.ev y with
 | some (.d (.int j) m),some (.d (.int k) n)=>bif decide (j=k) then K (.d (.int j) (imin m n)) else none
 | _,_=>none
def zEe (s:ESt) (x y:Operand) (K:EV->Option R):Option R:=match s.ev x,s.ev y with
 | some (.d (.int j) m),some (.d (.int k) n)=>bif decide (j=k) then K (.d (.int j) (imax m n)) else none
 | _,_=>none
def zCh (s:ESt) (x y z:Operand) (K:EV->Option R):Option R:=match s.ev x,s.ev y,s.ev z with
 | some (.d (.int j) m),some (.d (.int k) n),some (.d (.int l) p)=>bif decide (j=k) && decide (j=l) then K (.d (.int j) (imax (imax m n) p)) else none
 | _,_,_=>none
def zzL (TT:List TE) (s:ESt) (t:Nat) (x y:Operand) (cm:Bool) (K:EV->Option R):Option R:=match mapT TT t with
 | some (kt,et)=>match s.ev x with
  | some (.own id)=>match s.ent id with
   | some (.box _ [.d (.list k) ks,.d (.list v) vs])=>bif skT TT t k && zD5 TT et v then (match s.ev y with
    | some a=>match a.exact k with
     | some key=>match cm with
      | true=>K (.tup [.d v (mget ks vs key v.dflt),.d .bool (mhas ks key)])
      | false=>K (.d v (mget ks vs key v.dflt))
     | none=>none
    | none=>none) else none
   | _=>none
  | _=>none
 | none=>none
def zzH (TT:List TE) (s:ESt) (t:Nat) (x a b:Operand) (K:EV->Option R):Option R:=bif Nat.beq s.n 0 && Nat.beq s.n 1 then K .any else none
def evRO (TT:List TE) (s:ESt) (b:Op) (K:EV->Option R):Option R:=match b with
 | .move x=>match s.ev x with
  | some v=>K v
  | none=>none
 | .assign x=>match s.ev x with
  | some v=>K v
  | none=>none
 | .binOp b t x y _=>zA9 TT s b t x y K
 | .unOp b _ x=>evUn s b x K
 | .call c=>match c.callee,c.args.toList,c.argTypes.toList with
  | .builtin .len,[x],[t]=>zC0 TT s x t K
  | .builtin .min,[x,y],_=>zEf s x y K
  | .builtin .max,[x,y],_=>zEe s x y K
  | .builtin .max,[x,y,z],_=>zCh s x y z K
  | .builtin .cap,[x],[t]=>match s.ev x,zdd TT t with
   | some .nil,some _=>K (.d (.int .i64) (0:Int))
   | _,_=>none
  | _,_,_=>none
 | .indexAddr t x i=>bif zCl s x i then zzI TT s t x i K else zCZ TT s t x i K
 | .index t x i=>match s.ev x,s.ev i with
  | some (.d .str a),some (.d (.int _) j)=>bif strT TT t then G (0<=j/\j < (a.length:Int)) (K (.d (.int .u8) (bAt a j))) else none
  | _,_=>none
 | .fieldAddr st x i=>zCY TT s st x i K
 | .field st x i=>zwO TT s st x i K
 | .load t x=>bif zxL s x then zwS TT s t x K else zzK TT s t x K
 | .extract x i=>zC2 s x i K
 | .slice t x lo d none=>zCW TT s t x lo d K
 | .slice t x none (some d) (some mx)=>zzH TT s t x d mx K
 | .makeFunc (.func f) fs cs=>match fs.toList with
  | []=>match zrV s cs.toList with
   | some l=>K (.fn f l)
   | none=>none
  | _=>none
 | .nilCheck x=>zCV s x K
 | .lookup t x y cm=>zzL TT s t x y cm K
 | .convert t u x=>zzC TT s t u x K
 | _=>none
theorem RO.len_view {P:Program} {F:Fr} {σ:St} {o:Oper} {x:Operand} {t e:TypeId} {id sz q n:Nat} (j:o.op = .call { callee := .builtin .len,args:=#[x],argTypes:=#[t] }) (k:P.underlying t=some (.slice e))
  (l:σ.ev x=some (.view id sz q n)):RO P F σ o (.d (.lit (.int .i64 (n:Nat)))):=fun H a w r=>by
 have i:=r.ev l;obtain ⟨g,c,d⟩:∃ g c,a.eval x = .slice g n c:=by
  generalize a.eval x=u at i;cases i with
  | view _ _ _ _ s _ h p=>
   rcases p with ⟨_,m,_,f⟩ | ⟨b,o0,n0,c0,c,a0,_,_,f,_⟩
   ·exact ⟨none,0,by rw [m,f]⟩
   ·exact ⟨_,c,f⟩
 exact ⟨.int .i64 n,fun w' _=>by simp [execOp,j,resolve,invoke,builtin,Builtin.len_,run_underlying k,d,goInt],.d _ _ (.lit _ rfl)⟩
theorem RO.idx_view {P:Program} {F:Fr} {σ:St} {o:Oper} {t e:TypeId} {x i:Operand} {k:IntKind} {j:Int} {id sz q n:Nat} {dsc:Bool} {bytes:Nat} {z:Value}
  (p:o.op = .indexAddr t x i) (s:P.underlying t=some (.slice e)) (v:TI P e dsc sz bytes z)
  (y:σ.ev x=some (.view id sz q n)) (A:σ.ev i=some (.d (.lit (.int k j)))) (E:0<=j/\j < (n:Int)):RO P F σ o (.eptr id sz (q+j.toNat) 0):=fun H a w r=>by
 have g:=r.ev y;have d:=r.lit A;obtain ⟨m,rfl⟩:∃ m:Nat,j=m:=⟨j.toNat,by omega⟩;have B:m < n:=by omega
 generalize C:a.eval x=u at g;cases g with
 | view _ _ _ _ I _ h D=>
  rcases D with ⟨_,_,_,l⟩ | ⟨b,o0,n0,c0,c,a0,h1,h2,l,_,_,f⟩
  ·omega
  ·subst h1;have f:=f (by omega);subst f;subst l;refine ⟨.pointer (some ⟨b,o0+q * sz+m * sz,none⟩),fun w' _ => ?_,?_⟩
   ·simp [execOp,p,Instr.indexAt,C,d,asIntOf,run_underlying s,B,v.size,zdR]
   ·have:=VRel.eptr (w:=w) (S:=Sh F.X σ.ent H w) (H:=H) id sz (q+m) 0 b o0 n0 c0 h (by omega);have e:o0+((q+m) * sz+0)=o0+q * sz+m * sz:=by rw [Nat.add_mul];omega
    rw [e] at this;simpa using this
section
variable {P:Program} {TT:List TE} {F:Fr} {s:ESt} {o:Oper} {K:EV->Option R} {r:R}
theorem zac {c:Bool} {x:Option R} {r:R} (h:(bif c then x else none)=some r):c=true/\x=some r:=by
 cases c
 ·cases h
 ·exact ⟨rfl,h⟩
theorem zwR (d:TOK P TT) {x:Operand} {t:Nat} (f:o.op = .call { callee := .builtin .len,args:=#[x],argTypes:=#[t] }) (h:zC0 TT s x t K=some r):∃ z,RO P F s.st o z.av/\K z=some r:=by
 unfold zC0 at h;split at h
 ·rename_i g l c;split at h
  ·rename_i e b;exact ⟨_,RO.len (α:=g.den) (l:=l) f (zat d b) (zap c),h⟩
  ·cases h
 ·rename_i id c;split at h
  ·rename_i E g l i;split at h
   ·rename_i e b;exact ⟨_,RO.len_own (α:=g.den) (l:=l) f (zat d b) (zap c) (zaN i),h⟩
   ·cases h
  ·rename_i T k ks v vs i;split at h
   ·rename_i p b;exact ⟨_,RO.len_map (α:=k.den) (β:=v.den) (ks:=ks) (vs:=vs) f (zsh d b) (zap c) (zaN i),h⟩
   ·cases h
  ·cases h
 ·rename_i id g q n c;split at h
  ·rename_i e b;exact ⟨_,RO.len_view f (zat d b) (zap c),h⟩
  ·cases h
 ·rename_i c;split at h
  ·rename_i e b;exact ⟨_,RO.len_nil f (zat d b) (zap c),h⟩
  ·cases h
 ·rename_i a c;obtain ⟨b,h⟩:=zac h;exact ⟨_,RO.len_str f (zsN d b) (zap c),h⟩
 ·cases h
theorem zwQ (c:TOK P TT) {t:Nat} {x i:Operand} (B:o.op = .indexAddr t x i) (h:zCZ TT s t x i K=some r):∃ z,RO P F s.st o z.av/\K z=some r:=by
 unfold zCZ at h;split at h
 ·rename_i k j C;split at h
  ·rename_i f l d;split at h
   ·rename_i e g;split at h
    ·rename_i m p;obtain ⟨w,h⟩:=zac h;have:=Ty.eq_of_beq w;subst this;obtain ⟨u,h⟩:=zbk h;obtain ⟨z,y,_⟩:=zbZ c p;exact ⟨_,RO.idx (α:=m.den) B (zat c g) y (zap d) (zap C) u,h⟩
    ·cases h
   ·cases h
  ·rename_i id d;split at h
   ·rename_i E f l D;split at h
    ·rename_i e g;split at h
     ·rename_i m p;obtain ⟨w,h⟩:=zac h;have:=Ty.eq_of_beq w;subst this;obtain ⟨u,h⟩:=zbk h;obtain ⟨z,y,_⟩:=zbZ c p;exact ⟨_,RO.idx_own (α:=m.den) B (zat c g) y (zap d) (zaN D) (zap C) u,h⟩
     ·cases h
    ·cases h
   ·cases h
  ·rename_i id f q n d;split at h
   ·rename_i e g;split at h
    ·rename_i m p;obtain ⟨w,h⟩:=zac h;have:=Ty.eq_of_beq w;subst this;obtain ⟨u,h⟩:=zbk h;obtain ⟨z,y,_⟩:=zbZ c p;exact ⟨_,RO.idx_view B (zat c g) y (zap d) (zap C) u,h⟩
    ·cases h
   ·cases h
  ·rename_i J a d;split at h
   ·rename_i n e g;split at h
    ·rename_i f p;split at h
     ·rename_i v H;obtain ⟨u,h⟩:=zbk h;obtain ⟨rfl,rfl⟩:=za6 H;obtain ⟨z,y,_⟩:=zbZ c p
      letI A:Arr (vecT f n).den f.den:=⟨n,fun b i=>vget f n b i.toNat,fun b i I d=>zqc f n b i.toNat (by omega)⟩
      exact ⟨_,RO.idx_arr (β:=(vecT f n).den) (α:=f.den) B (zi7 c g) y rfl (zap d) (zap C) u,h⟩
     ·cases h
    ·cases h
   ·cases h
  ·rename_i id off d;split at h
   ·rename_i n e g;split at h
    ·rename_i E p;split at h
     ·rename_i j L;obtain ⟨w,h⟩:=zac h;obtain ⟨u,rfl⟩:=zbt c p;exact ⟨_,RO.idx_ptr B (zi7 c g) u.ti (zap d) (zap C) w,h⟩
     ·cases h
    ·cases h
   ·cases h
  ·cases h
 ·cases h
theorem zwP (m:TOK P TT) {st:Nat} {x:Operand} {i:Nat} (g:o.op = .fieldAddr st x i) (h:zCY TT s st x i K=some r):∃ z,RO P F s.st o z.av/\K z=some r:=by
 unfold zCY at h;split at h
 ·rename_i off A e d;obtain ⟨d,v,rfl⟩:=zr4 m d;split at h
  ·rename_i f;exact ⟨_,RO.fld_ptr g d (zap f),h⟩
  ·rename_i f;exact ⟨_,RO.fld_eptr g d (zap f),h⟩
  ·rename_i n a f;split at h
   ·rename_i u p;split at h
    ·rename_i y q;obtain ⟨w,h⟩:=zac h;have hs:=zp9 q;have b:=zap f;simp only [EV.av] at b;rw [zdg w] at b;obtain ⟨B,k,C,D⟩:=v.ty u p;refine ⟨_,?_,h⟩;show RO P F s.st o (.addr (encD u y));cases j:u.agg with
     | false=>
      refine RO.fld_addr g d b (c:=encD u y) ?_ (zeF j y);rw [zeF j,zv7 j] at hs;have:((encD n a).cells.drop off)[0]? =some (encD u y):=by
       have t:=congrArg (fun l=>l[0]?) hs;simpa using t
      simpa using this
     | true=>
      rw [zdg j];exact RO.fld_addr_agg g d b (by rw [k];exact hs) (by rw [zaF,k])
    ·cases h
   ·cases h
  ·cases h
 ·cases h
theorem zud (v:TOK P TT) {st:Nat} {x:Operand} {i:Nat} (q:o.op = .field st x i) (h:zwO TT s st x i K=some r):∃ z,RO P F s.st o z.av/\K z=some r:=by
 unfold zwO at h;split at h
 ·rename_i off E e j;obtain ⟨j,n,rfl⟩:=zr4 v j;split at h
  ·rename_i l k;cases b:e.ag with
   | true=>rw [b] at h;cases h
   | false=>
    rw [b] at h;simp only [cond_false] at h;split at h
    ·rename_i c m;obtain ⟨d,p,g⟩:=n.ti.un;refine ⟨_,RO.field q j (zap k) ?_ p (by rw [g,b]),h⟩;rw [zfd,List.getElem?_map,m];rfl
    ·cases h
  ·rename_i w a k;cases b:e.ag with
   | true=>rw [b] at h;cases h
   | false=>
    rw [b] at h;simp only [cond_false] at h;split at h
    ·rename_i u m;split at h
     ·rename_i y A;obtain ⟨C,h⟩:=zac h;have hs:=zp9 A;have f:=zap k;simp only [EV.av] at f;rw [zdg C] at f;obtain ⟨D,H,I,J⟩:=n.ty u m;have t:u.agg=false:=by rw [<- D];exact b
      obtain ⟨d,p,g⟩:=n.ti.un;refine ⟨_,RO.field_d q j f (c:=encD u y) ?_ p (by rw [g,b]),h⟩;rw [zeF t,zv7 t] at hs;have:((encD w a).cells.drop off)[0]? =some (encD u y):=by
       have B:=congrArg (fun l=>l[0]?) hs;simpa using B
      simpa using this
     ·cases h
    ·cases h
  ·cases h
 ·cases h
theorem zrz (l:List EV) (k:Nat):(EV.avL l)[k]? =(l[k]?).map EV.av:=by rw [zfd,List.getElem?_map]
theorem zfZ (l:List EV):(EV.avL l).length=l.length:=by rw [zfd,List.length_map]
theorem zA1 (l:List EV) (k:Nat):(EV.avL l).drop k=EV.avL (l.drop k):=by rw [zfd,zfd,List.map_drop]
theorem zvs (I:TOK P TT) {t:Nat} {x:Operand} (m:o.op = .load t x) (h:zzK TT s t x K=some r):∃ z,RO P F s.st o z.av/\K z=some r:=by
 unfold zzK at h;split at h
 ·rename_i tx a f;split at h
  ·rename_i u i;obtain ⟨n,h⟩:=zac h;have:=Ty.eq_of_beq n;subst this;obtain ⟨z,D,_⟩:=zbZ I i;refine ⟨_,?_,h⟩;show RO P F s.st o (.d (encD u a));cases B:u.agg with
   | false=>
    obtain ⟨d,N,b⟩:=D.un;rw [B] at b;exact RO.ld_addr m N b (zap f) (zeF B a)
   | true=>
    have g:=zap f;simp only [EV.av] at g;rw [zdg B] at g ⊢;exact RO.ld_addr_agg m D B g (zaF u a)
  ·cases h
 ·rename_i id k f;split at h
  ·rename_i T cs i;split at h
   ·rename_i e n;obtain ⟨O,rfl⟩:=zbt I n;cases C:e.ag with
    | false=>
     rw [C] at h;simp only [cond_false] at h;split at h
     ·rename_i c p;obtain ⟨d,N,b⟩:=O.ti.un;exact ⟨_,RO.ld_ptr m N (by rw [b,C]) (zap f) (zaN i) (by rw [zrz,p];rfl),h⟩
     ·cases h
    | true=>
     rw [C] at h;simp only [cond_true] at h;split at h
     ·rename_i u p;split at h
      ·rename_i y R J;obtain ⟨A,h⟩:=zac h;simp only [Bool.and_eq_true] at A;obtain ⟨g1,g2,g3,g4⟩:=O.ty u p;have q:=O.ti;rw [C,g2] at q;have L:k+u.sz<=cs.length:=by simpa using A.2
       obtain ⟨U,Q,V⟩:=ze3 J;refine ⟨_,?_,h⟩;have Y:=RO.ld_ptr_sub (F:=F) m q (zap f) (zaN i) (by rw [zfZ];exact L);refine Y.conv ?_
       have Z:U.length=u.sz:=by
        have:=(zoP V).1;rw [zfZ,zaF] at this;exact this
       have M:((EV.avL cs).drop k).take u.sz=EV.avL U:=by
        rw [zA1,Q,zhm,List.take_append_of_le_length (by rw [zfZ];omega),List.take_of_length_le (by rw [zfZ];omega)]
       rw [M];intro w S H v W;show VRel w S H (.d (encD u y)) v;rw [zdg A.1];exact VRel.packn W V
      ·cases h
     ·cases h
   ·cases h
  ·cases h
 ·rename_i id te j k f;split at h
  ·rename_i E X l i;obtain ⟨n,h⟩:=zac h;have:=Ty.eq_of_beq n;subst this;split at h
   ·rename_i u p;split at h
    ·rename_i y J;obtain ⟨A,h⟩:=zac h;obtain ⟨Q,h⟩:=zbk h;obtain ⟨z,D,_⟩:=zbZ I p;exact ⟨_,RO.ld_eptr_sub m D (zap f) (zaN i) Q J (by simpa using A),h⟩
    ·cases h
   ·cases h
  ·cases h
 ·cases h
theorem zvq (f:TOK P TT) {t:Nat} {x i:Operand} (B:o.op = .indexAddr t x i) (h:zzI TT s t x i K=some r):∃ z,RO P F s.st o z.av/\K z=some r:=by
 have key:∀ (d:Int) (n:Nat),0<=d/\d < (n:Int)->d=((d.toNat:Nat):Int)/\d.toNat < n:=fun d n h=>by omega
 unfold zzI at h;split at h
 ·rename_i k j H;have a:=zap H;split at h
  ·rename_i id off w;split at h
   ·rename_i n e y;split at h
    ·rename_i E C;obtain ⟨A,rfl⟩:=zbt f C;cases l:Nat.beq E.size 1 with
     | true=>
      rw [l] at h;simp only [cond_true] at h;split at h
      ·rename_i g J;obtain ⟨p,h⟩:=zbk h;have c:=Nat.eq_of_beq_eq_true l;obtain ⟨u,b⟩:=key j n p;rw [show (EV.d (.int k) j).av = .d (.lit (.int k ((Int.toNat j:Nat):Int))) by rw [<- u];rfl] at a;have:=RO.idx_ptr (F:=F) B (zi7 f y) A.ti (zap w) a (by simpa using b);rw [c,Nat.mul_one] at this;exact ⟨EV.vptr id off n g (Int.toNat j),this,h⟩
      ·cases h
     | false=>
      rw [l] at h;simp only [cond_false] at h;split at h
      ·rename_i m L M;split at h
       ·rename_i N O;split at h
        ·rename_i g I;obtain ⟨v,h⟩:=zac h;simp only [Bool.and_eq_true] at v;have D:=Nat.eq_of_beq_eq_true v.2;obtain ⟨p,h⟩:=zbk h;obtain ⟨u,b⟩:=key j n p;rw [show (EV.d (.int k) j).av = .d (.lit (.int k ((Int.toNat j:Nat):Int))) by rw [<- u];rfl] at a;have:=RO.idx_ptr (F:=F) B (zi7 f y) A.ti (zap w) a (by simpa using b);rw [D] at this;exact ⟨EV.vptr id off (n * m) g (Int.toNat j * m),this,h⟩
        ·cases h
       ·cases h
      ·cases h
    ·cases h
   ·cases h
  ·rename_i id off n g q w;split at h
   ·rename_i m e y;split at h
    ·rename_i E C;obtain ⟨A,rfl⟩:=zbt f C;obtain ⟨l,h⟩:=zac h;have c:=Nat.eq_of_beq_eq_true l;obtain ⟨p,h⟩:=zbk h;obtain ⟨u,b⟩:=key j m p;rw [show (EV.d (.int k) j).av = .d (.lit (.int k ((Int.toNat j:Nat):Int))) by rw [<- u];rfl] at a;have:=RO.idx_ptr (F:=F) (off:=off+q) B (zi7 f y) A.ti (zap w) a (by simpa using b);rw [c,Nat.mul_one,Nat.add_assoc] at this;exact ⟨EV.vptr id off n g (q+Int.toNat j),this,h⟩
    ·cases h
   ·cases h
  ·cases h
 ·cases h
theorem zue (f:TOK P TT) {t:Nat} {x:Operand} (g:o.op = .load t x) (h:zwS TT s t x K=some r):∃ z,RO P F s.st o z.av/\K z=some r:=by
 unfold zwS at h;split at h
 ·rename_i id off n y j i;split at h
  ·rename_i T cs k;split at h
   ·rename_i e m;obtain ⟨q,rfl⟩:=zbt f m;cases a:e.ag with
    | true=>rw [a] at h;cases h
    | false=>
     rw [a] at h;simp only [cond_false] at h;split at h
     ·rename_i l p;obtain ⟨u,h⟩:=zbk h;obtain ⟨d,v,b⟩:=q.ti.un;obtain ⟨_,_,w⟩:=zmF p;have c:=w j u;rw [List.getElem?_drop] at c;exact ⟨_,RO.ld_ptr g v (by rw [b,a]) (zap i) (zaN k) (by rw [zrz,c];rfl),h⟩
     ·cases h
   ·cases h
  ·cases h
 ·cases h
theorem zwT {x:Operand} {i:Nat} (a:o.op = .extract x i) (h:zC2 s x i K=some r):∃ z,RO P F s.st o z.av/\K z=some r:=by
 unfold zC2 at h;split at h
 ·rename_i l b;split at h
  ·rename_i y c;exact ⟨_,RO.extract a (zap b) (by rw [zrz,c];rfl),h⟩
  ·cases h
 ·cases h
theorem zwH (c:TOK P TT) {t:Nat} {x:Operand} {lo b:Option Operand} (d:o.op = .slice t x lo b none) (h:zCW TT s t x lo b K=some r):∃ z,RO P F s.st o z.av/\K z=some r:=by unfold zCW at h;obtain ⟨a,g⟩:=zac h;simp only [Bool.and_eq_true] at a;have e:=Nat.eq_of_beq_eq_true a.1;have f:=Nat.eq_of_beq_eq_true a.2;omega
theorem ztp:∀ {l:List Operand} {xs:List EV},zrV s l=some xs->Evs s.st l (EV.avL xs)
 | [],xs,h=>by cases h;rfl
 | x::l,xs,h=>by
  simp only [zrV] at h;split at h
  ·rename_i v a;split at h
   ·rename_i m b;cases h;exact ⟨zap a,ztp b⟩
   ·cases h
  ·cases h
theorem zwF {x:Operand} (b:o.op = .nilCheck x) (h:zCV s x K=some r):∃ z,RO P F s.st o z.av/\K z=some r:=by
 unfold zCV at h;split at h
 ·rename_i a;exact ⟨_,RO.nilCheck b (zap a) (.inl ⟨_,_,rfl⟩),h⟩
 ·rename_i a;exact ⟨_,RO.nilCheck b (zap a) (.inr (.inl ⟨_,rfl⟩)),h⟩
 ·rename_i a;exact ⟨_,RO.nilCheck b (zap a) (.inr (.inr (.inl ⟨_,_,_,_,rfl⟩))),h⟩
 ·rename_i a;exact ⟨_,RO.nilCheck b (zap a) (.inr (.inr (.inr ⟨_,_,rfl⟩))),h⟩
 ·rename_i u t a;cases c:u.chain with
  | false=>rw [c] at h;cases h
  | true=>
   rw [c] at h;simp only [cond_true] at h;obtain ⟨d,h⟩:=zbk h;exact ⟨_,RO.nilTree b (zap a) (zAm c d),h⟩
 ·cases h
theorem zvk (a:TOK P TT) {t u:Nat} {x:Operand} (g:o.op = .convert t u x) (h:zzC TT s t u x K=some r):∃ z,RO P F s.st o z.av/\K z=some r:=by
 unfold zzC at h;split at h
 ·rename_i n f;split at h
  ·rename_i b c;obtain ⟨i,rfl⟩:=zbt a b;obtain ⟨j,k⟩:=zbt a c;cases k;obtain ⟨d,m,_⟩:=i.ti.un;exact ⟨_,RO.conv_int g ⟨d,m⟩ j.td (zap f),h⟩
  ·rename_i b c;obtain ⟨i,rfl⟩:=zbt a b;obtain ⟨j,k⟩:=zbt a c;cases k;obtain ⟨d,m,_⟩:=i.ti.un;obtain ⟨v,h⟩:=zbk h;exact ⟨EV.d .str [UInt8.ofNat n.toNat],RO.conv_str g ⟨d,m⟩ j.td (zap f) v,h⟩
  ·cases h
 ·rename_i id f;split at h
  ·rename_i E l c;split at h
   ·rename_i e b;obtain ⟨p,h⟩:=zac h;simp only [Bool.and_eq_true] at p;refine ⟨EV.d .str (bstr l),?_,h⟩;have := @RO.conv_bytes P F s.st o t u e x id E (Ty.den (.int .u8)) (encI (.int .u8)) l (fun y:Int=>y) (fun _=>rfl) rfl g (zat a b) (zCa a p.1) (zsN a p.2) (zap f) (zaN c);have q:strOfNums (l.map fun y:Int=>y)=⟨⟨bstr l⟩⟩:=by
     rw [List.map_id'];rfl
    rw [q] at this;exact this
   ·cases h
  ·cases h
 ·cases h
theorem zvt (e:TOK P TT) {t:Nat} {x y:Operand} {cm:Bool} (l:o.op = .lookup t x y cm) (h:zzL TT s t x y cm K=some r):∃ z,RO P F s.st o z.av/\K z=some r:=by
 unfold zzL at h;split at h
 ·rename_i u w j;split at h
  ·rename_i id m;split at h
   ·rename_i T k ks v vs n;obtain ⟨d,h⟩:=zac h;rw [Bool.and_eq_true] at d;obtain ⟨d,g⟩:=d;split at h
    ·rename_i A p;split at h
     ·rename_i key b;have f:=zx7 e d j;obtain ⟨_,_,_,z,i,q⟩:=zy0 e g;have c:=zap p;rw [zd9 b] at c;have a:=RO.lookup (P:=P) (F:=F) (α:=k.den) (β:=v.den) (ks:=ks) (vs:=vs) (k:=key) (z0:=v.dflt) cm l (zsh e j) f i q (zap m) (zaN n) c;cases cm with
      | true=>exact ⟨EV.tup [.d v (mget ks vs key v.dflt),.d .bool (mhas ks key)],a,h⟩
      | false=>exact ⟨EV.d v (mget ks vs key v.dflt),a,h⟩
     ·cases h
    ·cases h
   ·cases h
  ·cases h
 ·cases h
theorem zvp (d:TOK P TT) {t:Nat} {x b c:Operand} (e:o.op = .slice t x none (some b) (some c)) (h:zzH TT s t x b c K=some r):∃ z,RO P F s.st o z.av/\K z=some r:=by unfold zzH at h;obtain ⟨a,i⟩:=zac h;simp only [Bool.and_eq_true] at a;have f:=Nat.eq_of_beq_eq_true a.1;have g:=Nat.eq_of_beq_eq_true a.2;omega
theorem RO.max3 {σ:St} {k:IntKind} {m n p:Int} {x y z:Operand} {ts:Array TypeId} (c:o.op = .call { callee := .builtin .max,args:=#[x,y,z],argTypes:=ts })
  (d:σ.ev x=some (.d (.lit (.int k m)))) (e:σ.ev y=some (.d (.lit (.int k n)))) (f:σ.ev z=some (.d (.lit (.int k p)))):RO P F σ o (.d (.lit (.int k (imax (imax m n) p)))):=fun H a w r=>
 ⟨.int k (imax (imax m n) p),fun w' _=>by
  unfold imax;by_cases g:m < n
  ·by_cases b:n < p<;>simp [execOp,c,resolve,invoke,builtin,Builtin.max_,Builtin.max2,r.lit d,r.lit e,r.lit f,g,b]
  ·by_cases b:m < p<;>simp [execOp,c,resolve,invoke,builtin,Builtin.max_,Builtin.max2,r.lit d,r.lit e,r.lit f,g,b],.d _ _ (.lit _ rfl)⟩
theorem zmC (u:TOK P TT) (h:evRO TT s o.op K=some r):∃ z,RO P F s.st o z.av/\K z=some r:=by
 unfold evRO at h;split at h
 ·rename_i x b;split at h
  ·rename_i v g;exact ⟨_,RO.move b (zap g),h⟩
  ·cases h
 ·rename_i x b;split at h
  ·rename_i v g;exact ⟨_,RO.assign b (zap g),h⟩
  ·cases h
 ·rename_i b;exact zrY u b h
 ·rename_i b;exact zyw b h
 ·rename_i c b;split at h
  ·rename_i x t g q A;refine zwR u ?_ h;rw [b];obtain ⟨J,w,C⟩:=c;simp only at g q A;subst g;rw [show w=#[x] from Array.ext' q,show C=#[t] from Array.ext' A]
  ·rename_i x y g q;unfold zEf at h;split at h
   ·rename_i j m k n B D;obtain ⟨d,h⟩:=zac h;have d:=of_decide_eq_true d;subst d;refine ⟨_,RO.min (ts:=c.argTypes) ?_ (zap B) (zap D),h⟩;rw [b];obtain ⟨J,w,C⟩:=c;simp only at g q;subst g;rw [show w=#[x,y] from Array.ext' q]
   ·cases h
  ·rename_i x y g q;unfold zEe at h;split at h
   ·rename_i j m k n B D;obtain ⟨d,h⟩:=zac h;have d:=of_decide_eq_true d;subst d;refine ⟨_,RO.max (ts:=c.argTypes) ?_ (zap B) (zap D),h⟩;rw [b];obtain ⟨J,w,C⟩:=c;simp only at g q;subst g;rw [show w=#[x,y] from Array.ext' q]
   ·cases h
  ·rename_i x y z g q;unfold zCh at h;split at h
   ·rename_i j m k n l p B D L;obtain ⟨d,h⟩:=zac h;simp only [Bool.and_eq_true] at d;have E:=of_decide_eq_true d.1;have H:=of_decide_eq_true d.2;subst E;subst H;refine ⟨_,RO.max3 (ts:=c.argTypes) ?_ (zap B) (zap D) (zap L),h⟩;rw [b];obtain ⟨J,w,C⟩:=c;simp only at g q;subst g;rw [show w=#[x,y,z] from Array.ext' q]
   ·cases h
  ·rename_i x t g q A;split at h
   ·rename_i e B M;refine ⟨_,RO.cap_nil ?_ (zat u M) (zap B),h⟩;rw [b];obtain ⟨J,w,C⟩:=c;simp only at g q A;subst g;rw [show w=#[x] from Array.ext' q,show C=#[t] from Array.ext' A]
   ·cases h
  ·cases h
 ·rename_i t x i b;cases I:zCl s x i with
  | true=>rw [I] at h;exact zvq u b h
  | false=>rw [I] at h;exact zwQ u b h
 ·rename_i t x i b;split at h
  ·rename_i a k j g q;obtain ⟨A,h⟩:=zac h;obtain ⟨O,h⟩:=zbk h;exact ⟨_,RO.idx_str b (zsN u A) (zap g) (zap q) O,h⟩
  ·cases h
 ·rename_i b;exact zwP u b h
 ·rename_i b;exact zud u b h
 ·rename_i t x b;cases I:zxL s x with
  | true=>rw [I] at h;exact zue u b h
  | false=>rw [I] at h;exact zvs u b h
 ·rename_i b;exact zwT b h
 ·rename_i b;exact zwH u b h
 ·rename_i b;exact zvp u b h
 ·rename_i f N cs b;split at h
  ·rename_i g;split at h
   ·rename_i l q;have:N=#[]:=Array.ext' g;subst this;exact ⟨_,RO.makeFunc b (ztp q),h⟩
   ·cases h
  ·cases h
 ·rename_i b;exact zwF b h
 ·rename_i b;exact zvt u b h
 ·rename_i b;exact zvk u b h
 ·cases h
end
end
end Go.Ab
