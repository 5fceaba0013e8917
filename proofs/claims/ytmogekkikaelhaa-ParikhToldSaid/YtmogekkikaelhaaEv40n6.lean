import Derived.Test.YtmogekkikaelhaaEv40n5
set_option linter.unusedVariables false
set_option linter.unusedSimpArgs false
set_option linter.unusedSectionVars false
namespace Go.Ab
noncomputable section
open Enc (enc)
variable {R:Type}
def bAt (a:List UInt8) (j:Int):Int:=((a.getD j.toNat 0).toNat:Int)
def ztJ (TT:List TE) (s:ESt) (x:Operand) (t:Nat) (K:EV->Option R):Option R:=match s.ev x with
 | some (.d (.list _) l)=>match zbs TT t with
  | some _=>K (.d (.int .i64) (l.length:Int))
  | none=>none
 | some (.own id)=>match s.ent id with
  | some (.arr _ _ l)=>match zbs TT t with
   | some _=>K (.d (.int .i64) (l.length:Int))
   | none=>none
  | some (.box _ [.d (.list _) ks,.d (.list _) _])=>match mapT TT t with
   | some _=>K (.d (.int .i64) (ks.length:Int))
   | none=>none
  | _=>none
 | some (.view _ _ _ n)=>match zbs TT t with
  | some _=>K (.d (.int .i64) (n:Int))
  | none=>none
 | some .nil=>match zbs TT t with
  | some _=>K (.d (.int .i64) (0:Int))
  | none=>none
 | some (.d .str a)=>bif strT TT t then K (.d (.int .i64) (a.length:Int)) else none
 | _=>none
def znY (te:Ty):Nat->List EV->Option (List te.den)
 | 0,_=>some []
 | n+1,.d t x::r=>match zaL t te x,znY te n r with
  | some y,some l=>some (y::l)
  | _,_=>none
 | _,_=>none
theorem zhl {te:Ty}:∀ {n:Nat} {cs:List EV} {l:List te.den},znY te n cs=some l->l.length=n/\n<=cs.length/\∀ j,j < n->cs[j]? =some (.d te (l.getD j te.dflt))
 | 0,cs,l,h=>by cases h;exact ⟨rfl,Nat.zero_le _,fun j hj=>by omega⟩
 | n+1,[],l,h=>by simp [znY] at h
 | n+1,c::r,l,h=>by
  cases c with
  | d t x=>
   simp only [znY] at h;split at h
   ·rename_i y l' hy hl;cases h;obtain ⟨rfl,rfl⟩:=zaz hy;obtain ⟨h1,h2,h3⟩:=zhl hl;refine ⟨by simp [h1],by simpa using h2,fun j hj => ?_⟩
    match j with
    | 0=>rfl
    | j+1=>simpa using h3 j (by omega)
   ·cases h
  | _=>simp [znY] at h
def zri (TT:List TE) (s:ESt) (t:Nat) (x i:Operand) (K:EV->Option R):Option R:=match s.ev i with
 | some (.d (.int _) j)=>match s.ev x with
  | some (.ptr id off)=>match arrT TT t with
   | some (n,e)=>match fT TT e with
    | some E=>bif Nat.beq E.size 1 then (match tyT TT e with
     | some te=>G (0<=j/\j < (n:Int)) (K (.vptr id off n te j.toNat))
     | none=>none) else (match arrT TT e with
     | some (m,e2)=>match fT TT e2 with
      | some E2=>match tyT TT e2 with
       | some te=>bif Nat.beq E2.size 1 && Nat.beq E.size m then G (0<=j/\j < (n:Int)) (K (.vptr id off (n * m) te (j.toNat * m))) else none
       | none=>none
      | none=>none
     | none=>none)
    | none=>none
   | none=>none
  | some (.vptr id off n te q)=>match arrT TT t with
   | some (m,e)=>match fT TT e with
    | some E=>bif Nat.beq E.size 1 then G (0<=j/\j < (m:Int)) (K (.vptr id off n te (q+j.toNat))) else none
    | none=>none
   | none=>none
  | _=>none
 | _=>none
def zte (s:ESt) (x i:Operand):Bool:=match s.ev x with
 | some (.vptr _ _ _ _ _)=>true
 | some (.ptr _ _)=>(match i with
  | .const _=>false
  | _=>true)
 | _=>false
def ztI (TT:List TE) (s:ESt) (t:Nat) (x i:Operand) (K:EV->Option R):Option R:=match s.ev i with
 | some (.d (.int _) j)=>match s.ev x with
  | some (.d (.list te) l)=>match zbs TT t with
   | some e=>match tyT TT e with
    | some te'=>bif Ty.beq te' te then G (0<=j/\j < (l.length:Int)) (K (.addr te (ix l j))) else none
    | none=>none
   | none=>none
  | some (.own id)=>match s.ent id with
   | some (.arr _ te l)=>match zbs TT t with
    | some e=>match tyT TT e with
     | some te'=>bif Ty.beq te' te then G (0<=j/\j < (l.length:Int)) (K (.eptr id te j.toNat 0)) else none
     | none=>none
    | none=>none
   | _=>none
  | some (.view id te q n)=>match zbs TT t with
   | some e=>match tyT TT e with
    | some te'=>bif Ty.beq te' te then G (0<=j/\j < (n:Int)) (K (.eptr id te (q+j.toNat) 0)) else none
    | none=>none
   | none=>none
  | some (.addr tx a)=>match arrT TT t with
   | some (n,e)=>match tyT TT e with
    | some te=>match zaL tx (vecT te n) a with
     | some v=>G (0<=j/\j < (n:Int)) (K (.addr te (vget te n v j.toNat)))
     | none=>none
    | none=>none
   | none=>none
  | some (.ptr id off)=>match arrT TT t with
   | some (n,e)=>match fT TT e with
    | some E=>match j with
     | .ofNat jn=>bif Nat.blt jn n then K (.ptr id (off+jn * E.size)) else none
     | _=>none
    | none=>none
   | none=>none
  | _=>none
 | _=>none
def ztH (TT:List TE) (s:ESt) (st:Nat) (x:Operand) (i:Nat) (K:EV->Option R):Option R:=match fldT TT st i with
 | some (off,_,e)=>match s.ev x with
  | some (.ptr id k)=>K (.ptr id (k+off))
  | some (.eptr id te j k)=>K (.eptr id te j (k+off))
  | some (.addr tx a)=>match e.ty with
   | some u=>match zly tx a off u with
    | some y=>bif tx.agg then K (.addr u y) else none
    | none=>none
   | none=>none
  | _=>none
 | none=>none
def zoQ (TT:List TE) (s:ESt) (st:Nat) (x:Operand) (i:Nat) (K:EV->Option R):Option R:=match fldT TT st i with
 | some (off,_,e)=>match s.ev x with
  | some (.agg l)=>bif e.ag then none else match l[off]? with
   | some c=>K c
   | none=>none
  | some (.d tx a)=>bif e.ag then none else match e.ty with
   | some u=>match zly tx a off u with
    | some y=>bif tx.agg then K (.d u y) else none
    | none=>none
   | none=>none
  | _=>none
 | none=>none
def zrk (TT:List TE) (s:ESt) (t:Nat) (x:Operand) (K:EV->Option R):Option R:=match s.ev x with
 | some (.addr tx a)=>match tyT TT t with
  | some u=>bif Ty.beq u tx then K (.d tx a) else none
  | none=>none
 | some (.ptr id k)=>match s.ent id with
  | some (.box _ cs)=>match fT TT t with
   | some e=>bif e.ag then (match e.ty with
     | some u=>match zjs u (cs.drop k) with
      | some (y,_)=>bif u.agg && Nat.ble (k+u.sz) cs.length then K (.d u y) else none
      | none=>none
     | none=>none)
    else match cs[k]? with
     | some c=>K c
     | none=>none
   | none=>none
  | _=>none
 | some (.eptr id te j k)=>match s.ent id with
  | some (.arr _ te' l)=>bif Ty.beq te te' then (match tyT TT t with
   | some u=>match zly te' (l.getD j te'.dflt) k u with
    | some y=>bif Nat.ble (k+u.sz) te.sz then G (j < l.length) (K (.d u y)) else none
    | none=>none
   | none=>none) else none
  | _=>none
 | _=>none
def zoU (TT:List TE) (s:ESt) (t:Nat) (x:Operand) (K:EV->Option R):Option R:=match s.ev x with
 | some (.vptr id off n te j)=>match s.ent id with
  | some (.box _ cs)=>match fT TT t with
   | some e=>bif e.ag then none else (match znY te n (cs.drop off) with
    | some l=>G (j < n) (K (.d te (l.getD j te.dflt)))
    | none=>none)
   | none=>none
  | _=>none
 | _=>none
def zpG (s:ESt) (x:Operand):Bool:=match s.ev x with
 | some (.vptr ..)=>true
 | _=>false
def ztL (s:ESt) (x:Operand) (i:Nat) (K:EV->Option R):Option R:=match s.ev x with
 | some (.tup l)=>match l[i]? with
  | some y=>K y
  | none=>none
 | _=>none
def zqf (s:ESt) (x:Option Operand) (d:Int):Option Int:=match x with
 | none=>some d
 | some o=>match s.ev o with
  | some (.d (.int .i64) v)=>some v
  | _=>none
def ztF (TT:List TE) (s:ESt) (t:Nat) (x:Operand) (lo hi:Option Operand) (K:EV->Option R):Option R:=match s.ev x with
 | some (.d (.list te) l)=>match zbs TT t with
  | some e=>match tyT TT e with
   | some te'=>bif Ty.beq te' te && (lo.isSome || hi.isSome) then (match zqf s lo 0,zqf s hi (l.length:Int) with
    | some i,some j=>G (0<=i/\i<=j/\j<=(l.length:Int)) (K (.d (.list te) (cut l i j)))
    | _,_=>none) else none
   | none=>none
  | none=>none
 | some (.d .str a)=>bif strT TT t then (match zqf s lo 0,zqf s hi (a.length:Int) with
  | some i,some j=>G (0<=i/\i<=j/\j<=(a.length:Int)) (K (.d .str (cut a i j)))
  | _,_=>none) else none
 | some .nil=>match lo,hi with
  | none,some h=>match zbs TT t with
   | some e=>match fT TT e with
    | some _=>match s.ev h with
     | some (.d (.int .i64) v)=>G (v=(0:Int)) (K .nil)
     | _=>none
    | none=>none
   | none=>none
  | _,_=>none
 | _=>none
def zjl (s:ESt):List Operand->Option (List EV)
 | []=>some []
 | x::r=>match s.ev x with
  | some v=>match zjl s r with
   | some l=>some (v::l)
   | none=>none
  | none=>none
def ztE (s:ESt) (x:Operand) (K:EV->Option R):Option R:=match s.ev x with
 | some (.ptr i k)=>K (.ptr i k)
 | some (.addr t a)=>K (.addr t a)
 | some (.eptr i t j k)=>K (.eptr i t j k)
 | some (.fn f c)=>K (.fn f c)
 | some (.d (.tree u) t)=>bif u.chain then G (t.isMk=true) (K (.addr (zdE u) (zt2 u t))) else none
 | _=>none
def bstr (l:List Int):List UInt8:=l.map fun n=>UInt8.ofNat n.toNat
def u8T (TT:List TE) (id:Nat):Bool:=match fT TT id with
 | some ⟨_,.int .u8,_,_,_,_,_⟩=>true
 | _=>false
theorem zs3 {P:Program} {TT:List TE} {id:Nat} (hT:TOK P TT) (h:u8T TT id=true):P.underlying id=some (.int .u8):=by
 unfold u8T at h;split at h
 ·rename_i he;obtain ⟨h1,h2⟩:=zaQ hT he;cases h2;exact h1.td
 ·cases h
def zrb (TT:List TE) (s:ESt) (t u:Nat) (x:Operand) (K:EV->Option R):Option R:=match s.ev x with
 | some (.d (.int _) n)=>match fT TT t,fT TT u with
  | some _,some ⟨_,.int k,_,_,_,_,_⟩=>K (.d (.int k) (k.wrap n))
  | some _,some ⟨_,.str,_,_,_,_,_⟩=>G (0<=n/\n < 128) (K (.d .str [UInt8.ofNat n.toNat]))
  | _,_=>none
 | some (.own id)=>match s.ent id with
  | some (.arr _ (.int .u8) l)=>match zbs TT t with
   | some e=>bif u8T TT e && strT TT u then K (.d .str (bstr l)) else none
   | none=>none
  | _=>none
 | _=>none
def imin (m n:Int):Int:=if n < m then n else m
def imax (m n:Int):Int:=if m < n then n else m
def zuV (s:ESt) (x y:Operand) (K:EV->Option R):Option R:=match s.ev x,s.ev y with
 | some (.d (.int j) m),some (.d (.int k) n)=>bif decide (j=k) then K (.d (.int j) (imin m n)) else none
 | _,_=>none
def zuU (s:ESt) (x y:Operand) (K:EV->Option R):Option R:=match s.ev x,s.ev y with
 | some (.d (.int j) m),some (.d (.int k) n)=>bif decide (j=k) then K (.d (.int j) (imax m n)) else none
 | _,_=>none
def ztb (s:ESt) (x y z:Operand) (K:EV->Option R):Option R:=match s.ev x,s.ev y,s.ev z with
 | some (.d (.int j) m),some (.d (.int k) n),some (.d (.int l) p)=>bif decide (j=k) && decide (j=l) then K (.d (.int j) (imax (imax m n) p)) else none
 | _,_,_=>none
def zrl (TT:List TE) (s:ESt) (t:Nat) (x y:Operand) (cm:Bool) (K:EV->Option R):Option R:=match mapT TT t with
 | some (kt,et)=>match s.ev x with
  | some (.own id)=>match s.ent id with
   | some (.box _ [.d (.list k) ks,.d (.list v) vs])=>bif skT TT t k && zs6 TT et v then (match s.ev y with
    | some yv=>match yv.exact k with
     | some key=>match cm with
      | true=>K (.tup [.d v (mget ks vs key v.dflt),.d .bool (mhas ks key)])
      | false=>K (.d v (mget ks vs key v.dflt))
     | none=>none
    | none=>none) else none
   | _=>none
  | _=>none
 | none=>none
def zrh (TT:List TE) (s:ESt) (t:Nat) (x hi mx:Operand) (K:EV->Option R):Option R:=match s.ev x,s.ev hi,s.ev mx with
 | some (.d (.list te) l),some (.d (.int .i64) i),some (.d (.int .i64) j)=>match zbs TT t with
  | some e=>match tyT TT e with
   | some te'=>bif Ty.beq te te' then G (i=j/\0<=i/\i<=(l.length:Int)) (K (.full te (cut l 0 i))) else none
   | none=>none
  | none=>none
 | _,_,_=>none
def evRO (TT:List TE) (s:ESt) (op:Op) (K:EV->Option R):Option R:=match op with
 | .move x=>match s.ev x with
  | some v=>K v
  | none=>none
 | .assign x=>match s.ev x with
  | some v=>K v
  | none=>none
 | .binOp op t x y _=>zsv TT s op t x y K
 | .unOp op _ x=>evUn s op x K
 | .call c=>match c.callee,c.args.toList,c.argTypes.toList with
  | .builtin .len,[x],[t]=>ztJ TT s x t K
  | .builtin .min,[x,y],_=>zuV s x y K
  | .builtin .max,[x,y],_=>zuU s x y K
  | .builtin .max,[x,y,z],_=>ztb s x y z K
  | .builtin .cap,[x],[t]=>match s.ev x,zbs TT t with
   | some .nil,some _=>K (.d (.int .i64) (0:Int))
   | _,_=>none
  | _,_,_=>none
 | .indexAddr t x i=>bif zte s x i then zri TT s t x i K else ztI TT s t x i K
 | .index t x i=>match s.ev x,s.ev i with
  | some (.d .str a),some (.d (.int _) j)=>bif strT TT t then G (0<=j/\j < (a.length:Int)) (K (.d (.int .u8) (bAt a j))) else none
  | _,_=>none
 | .fieldAddr st x i=>ztH TT s st x i K
 | .field st x i=>zoQ TT s st x i K
 | .load t x=>bif zpG s x then zoU TT s t x K else zrk TT s t x K
 | .extract x i=>ztL s x i K
 | .slice t x lo hi none=>ztF TT s t x lo hi K
 | .slice t x none (some hi) (some mx)=>zrh TT s t x hi mx K
 | .makeFunc (.func f) fs cs=>match fs.toList with
  | []=>match zjl s cs.toList with
   | some l=>K (.fn f l)
   | none=>none
  | _=>none
 | .nilCheck x=>ztE s x K
 | .lookup t x y cm=>zrl TT s t x y cm K
 | .convert t u x=>zrb TT s t u x K
 | _=>none
theorem RO.len_view {P:Program} {F:Fr} {σ:St} {o:Oper} {x:Operand} {t e:TypeId} {id sz q n:Nat} (ho:o.op = .call { callee := .builtin .len,args:=#[x],argTypes:=#[t] }) (ht:P.underlying t=some (.slice e))
  (hx:σ.ev x=some (.view id sz q n)):RO P F σ o (.d (.lit (.int .i64 (n:Nat)))):=fun H a w r=>by
 have hv:=r.ev hx;obtain ⟨ad,c,hv'⟩:∃ ad c,a.eval x = .slice ad n c:=by
  generalize a.eval x=u at hv;cases hv with
  | view _ _ _ _ u0 _ h hp=>
   rcases hp with ⟨_,h2,_,h3⟩ | ⟨b,o0,n0,c0,c,a0,_,_,h3,_⟩
   ·exact ⟨none,0,by rw [h2,h3]⟩
   ·exact ⟨_,c,h3⟩
 exact ⟨.int .i64 n,fun w' _=>by simp [execOp,ho,resolve,invoke,builtin,Builtin.len_,run_underlying ht,hv',goInt],.d _ _ (.lit _ rfl)⟩
theorem RO.idx_view {P:Program} {F:Fr} {σ:St} {o:Oper} {t e:TypeId} {x i:Operand} {k:IntKind} {j:Int} {id sz q n:Nat} {dsc:Bool} {bytes:Nat} {z:Value}
  (ho:o.op = .indexAddr t x i) (ht:P.underlying t=some (.slice e)) (he:TI P e dsc sz bytes z)
  (hx:σ.ev x=some (.view id sz q n)) (hi:σ.ev i=some (.d (.lit (.int k j)))) (hj:0<=j/\j < (n:Int)):RO P F σ o (.eptr id sz (q+j.toNat) 0):=fun H a w r=>by
 have hv:=r.ev hx;have hi':=r.lit hi;obtain ⟨m,rfl⟩:∃ m:Nat,j=m:=⟨j.toNat,by omega⟩;have hn:m < n:=by omega
 generalize hu:a.eval x=u at hv;cases hv with
 | view _ _ _ _ u0 _ h hp=>
  rcases hp with ⟨_,_,_,h3⟩ | ⟨b,o0,n0,c0,c,a0,h1,h2,h3,_,_,h5⟩
  ·omega
  ·subst h1;have h5:=h5 (by omega);subst h5;subst h3;refine ⟨.pointer (some ⟨b,o0+q * sz+m * sz,none⟩),fun w' _ => ?_,?_⟩
   ·simp [execOp,ho,Instr.indexAt,hu,hi',asIntOf,run_underlying ht,hn,he.size,zbD]
   ·have:=VRel.eptr (w:=w) (S:=Sh F.X σ.ent H w) (H:=H) id sz (q+m) 0 b o0 n0 c0 h (by omega);have e:o0+((q+m) * sz+0)=o0+q * sz+m * sz:=by rw [Nat.add_mul];omega
    rw [e] at this;simpa using this
section
variable {P:Program} {TT:List TE} {F:Fr} {s:ESt} {o:Oper} {K:EV->Option R} {r:R}
theorem zaa {c:Bool} {x:Option R} {r:R} (h:(bif c then x else none)=some r):c=true/\x=some r:=by
 cases c
 ·cases h
 ·exact ⟨rfl,h⟩
theorem zoT (hT:TOK P TT) {x:Operand} {t:Nat} (ho:o.op = .call { callee := .builtin .len,args:=#[x],argTypes:=#[t] }) (h:ztJ TT s x t K=some r):∃ z,RO P F s.st o z.av/\K z=some r:=by
 unfold ztJ at h;split at h
 ·rename_i te l h1;split at h
  ·rename_i e h2;exact ⟨_,RO.len (α:=te.den) (l:=l) ho (zai hT h2) (zah h1),h⟩
  ·cases h
 ·rename_i id h1;split at h
  ·rename_i E te l h3;split at h
   ·rename_i e h2;exact ⟨_,RO.len_own (α:=te.den) (l:=l) ho (zai hT h2) (zah h1) (zat h3),h⟩
   ·cases h
  ·rename_i T k ks v vs h3;split at h
   ·rename_i p h2;exact ⟨_,RO.len_map (α:=k.den) (β:=v.den) (ks:=ks) (vs:=vs) ho (ziP hT h2) (zah h1) (zat h3),h⟩
   ·cases h
  ·cases h
 ·rename_i id te q n h1;split at h
  ·rename_i e h2;exact ⟨_,RO.len_view ho (zai hT h2) (zah h1),h⟩
  ·cases h
 ·rename_i h1;split at h
  ·rename_i e h2;exact ⟨_,RO.len_nil ho (zai hT h2) (zah h1),h⟩
  ·cases h
 ·rename_i a h1;obtain ⟨h2,h⟩:=zaa h;exact ⟨_,RO.len_str ho (zi9 hT h2) (zah h1),h⟩
 ·cases h
theorem zoS (hT:TOK P TT) {t:Nat} {x i:Operand} (ho:o.op = .indexAddr t x i) (h:ztI TT s t x i K=some r):∃ z,RO P F s.st o z.av/\K z=some r:=by
 unfold ztI at h;split at h
 ·rename_i k j hi;split at h
  ·rename_i te l h1;split at h
   ·rename_i e h2;split at h
    ·rename_i te' h3;obtain ⟨h4,h⟩:=zaa h;have:=Ty.eq_of_beq h4;subst this;obtain ⟨h5,h⟩:=zaF h;obtain ⟨z,hz,_⟩:=zaK hT h3;exact ⟨_,RO.idx (α:=te'.den) ho (zai hT h2) hz (zah h1) (zah hi) h5,h⟩
    ·cases h
   ·cases h
  ·rename_i id h1;split at h
   ·rename_i E te l he;split at h
    ·rename_i e h2;split at h
     ·rename_i te' h3;obtain ⟨h4,h⟩:=zaa h;have:=Ty.eq_of_beq h4;subst this;obtain ⟨h5,h⟩:=zaF h;obtain ⟨z,hz,_⟩:=zaK hT h3;exact ⟨_,RO.idx_own (α:=te'.den) ho (zai hT h2) hz (zah h1) (zat he) (zah hi) h5,h⟩
     ·cases h
    ·cases h
   ·cases h
  ·rename_i id te q n h1;split at h
   ·rename_i e h2;split at h
    ·rename_i te' h3;obtain ⟨h4,h⟩:=zaa h;have:=Ty.eq_of_beq h4;subst this;obtain ⟨h5,h⟩:=zaF h;obtain ⟨z,hz,_⟩:=zaK hT h3;exact ⟨_,RO.idx_view ho (zai hT h2) hz (zah h1) (zah hi) h5,h⟩
    ·cases h
   ·cases h
  ·rename_i tx a h1;split at h
   ·rename_i n e h2;split at h
    ·rename_i te h3;split at h
     ·rename_i v hv;obtain ⟨h5,h⟩:=zaF h;obtain ⟨rfl,rfl⟩:=zaz hv;obtain ⟨z,hz,_⟩:=zaK hT h3
      letI A:Arr (vecT te n).den te.den:=⟨n,fun b i=>vget te n b i.toNat,fun b i h0 h1=>zjD te n b i.toNat (by omega)⟩
      exact ⟨_,RO.idx_arr (β:=(vecT te n).den) (α:=te.den) ho (ze2 hT h2) hz rfl (zah h1) (zah hi) h5,h⟩
     ·cases h
    ·cases h
   ·cases h
  ·rename_i id off h1;split at h
   ·rename_i n e h2;split at h
    ·rename_i E h3;split at h
     ·rename_i j jn;obtain ⟨h4,h⟩:=zaa h;obtain ⟨h5,rfl⟩:=zaQ hT h3;exact ⟨_,RO.idx_ptr ho (ze2 hT h2) h5.ti (zah h1) (zah hi) h4,h⟩
     ·cases h
    ·cases h
   ·cases h
  ·cases h
 ·cases h
theorem zoR (hT:TOK P TT) {st:Nat} {x:Operand} {i:Nat} (ho:o.op = .fieldAddr st x i) (h:ztH TT s st x i K=some r):∃ z,RO P F s.st o z.av/\K z=some r:=by
 unfold ztH at h;split at h
 ·rename_i off ft e hf;obtain ⟨hf,he,rfl⟩:=zk5 hT hf;split at h
  ·rename_i h1;exact ⟨_,RO.fld_ptr ho hf (zah h1),h⟩
  ·rename_i h1;exact ⟨_,RO.fld_eptr ho hf (zah h1),h⟩
  ·rename_i tx a h1;split at h
   ·rename_i u h2;split at h
    ·rename_i y h3;obtain ⟨h4,h⟩:=zaa h;have hs:=zjB h3;have h1':=zah h1;simp only [EV.av] at h1';rw [zbz h4] at h1';obtain ⟨g1,g2,g3,g4⟩:=he.ty u h2;refine ⟨_,?_,h⟩;show RO P F s.st o (.addr (encD u y));cases hu:u.agg with
     | false=>
      refine RO.fld_addr ho hf h1' (c:=encD u y) ?_ (zca hu y);rw [zca hu,zoj hu] at hs;have:((encD tx a).cells.drop off)[0]? =some (encD u y):=by
       have h5:=congrArg (fun l=>l[0]?) hs;simpa using h5
      simpa using this
     | true=>
      rw [zbz hu];exact RO.fld_addr_agg ho hf h1' (by rw [g2];exact hs) (by rw [zau,g2])
    ·cases h
   ·cases h
  ·cases h
 ·cases h
theorem zmK (hT:TOK P TT) {st:Nat} {x:Operand} {i:Nat} (ho:o.op = .field st x i) (h:zoQ TT s st x i K=some r):∃ z,RO P F s.st o z.av/\K z=some r:=by
 unfold zoQ at h;split at h
 ·rename_i off ft e hf;obtain ⟨hf,he,rfl⟩:=zk5 hT hf;split at h
  ·rename_i l h1;cases hg:e.ag with
   | true=>rw [hg] at h;cases h
   | false=>
    rw [hg] at h;simp only [cond_false] at h;split at h
    ·rename_i c h2;obtain ⟨d,hd,hda⟩:=he.ti.un;refine ⟨_,RO.field ho hf (zah h1) ?_ hd (by rw [hda,hg]),h⟩;rw [zch,List.getElem?_map,h2];rfl
    ·cases h
  ·rename_i tx a h1;cases hg:e.ag with
   | true=>rw [hg] at h;cases h
   | false=>
    rw [hg] at h;simp only [cond_false] at h;split at h
    ·rename_i u h2;split at h
     ·rename_i y h3;obtain ⟨h4,h⟩:=zaa h;have hs:=zjB h3;have h1':=zah h1;simp only [EV.av] at h1';rw [zbz h4] at h1';obtain ⟨g1,g2,g3,g4⟩:=he.ty u h2;have hu:u.agg=false:=by rw [<- g1];exact hg
      obtain ⟨d,hd,hda⟩:=he.ti.un;refine ⟨_,RO.field_d ho hf h1' (c:=encD u y) ?_ hd (by rw [hda,hg]),h⟩;rw [zca hu,zoj hu] at hs;have:((encD tx a).cells.drop off)[0]? =some (encD u y):=by
       have h5:=congrArg (fun l=>l[0]?) hs;simpa using h5
      simpa using this
     ·cases h
    ·cases h
  ·cases h
 ·cases h
theorem zkJ (l:List EV) (k:Nat):(EV.avL l)[k]? =(l[k]?).map EV.av:=by rw [zch,List.getElem?_map]
theorem zb2 (l:List EV):(EV.avL l).length=l.length:=by rw [zch,List.length_map]
theorem zsq (l:List EV) (k:Nat):(EV.avL l).drop k=EV.avL (l.drop k):=by rw [zch,zch,List.map_drop]
theorem znL (hT:TOK P TT) {t:Nat} {x:Operand} (ho:o.op = .load t x) (h:zrk TT s t x K=some r):∃ z,RO P F s.st o z.av/\K z=some r:=by
 unfold zrk at h;split at h
 ·rename_i tx a h1;split at h
  ·rename_i u h2;obtain ⟨h3,h⟩:=zaa h;have:=Ty.eq_of_beq h3;subst this;obtain ⟨z,hz,_⟩:=zaK hT h2;refine ⟨_,?_,h⟩;show RO P F s.st o (.d (encD u a));cases hu:u.agg with
   | false=>
    obtain ⟨d,hd,hda⟩:=hz.un;rw [hu] at hda;exact RO.ld_addr ho hd hda (zah h1) (zca hu a)
   | true=>
    have h1':=zah h1;simp only [EV.av] at h1';rw [zbz hu] at h1' ⊢;exact RO.ld_addr_agg ho hz hu h1' (zau u a)
  ·cases h
 ·rename_i id k h1;split at h
  ·rename_i T cs h2;split at h
   ·rename_i e h3;obtain ⟨he,rfl⟩:=zaQ hT h3;cases hg:e.ag with
    | false=>
     rw [hg] at h;simp only [cond_false] at h;split at h
     ·rename_i c h4;obtain ⟨d,hd,hda⟩:=he.ti.un;exact ⟨_,RO.ld_ptr ho hd (by rw [hda,hg]) (zah h1) (zat h2) (by rw [zkJ,h4];rfl),h⟩
     ·cases h
    | true=>
     rw [hg] at h;simp only [cond_true] at h;split at h
     ·rename_i u h4;split at h
      ·rename_i y rest h5;obtain ⟨h6,h⟩:=zaa h;simp only [Bool.and_eq_true] at h6;obtain ⟨g1,g2,g3,g4⟩:=he.ty u h4;have hti:=he.ti;rw [hg,g2] at hti;have hle:k+u.sz<=cs.length:=by simpa using h6.2
       obtain ⟨l1,h7,h8⟩:=zcI h5;refine ⟨_,?_,h⟩;have h9:=RO.ld_ptr_sub (F:=F) ho hti (zah h1) (zat h2) (by rw [zb2];exact hle);refine h9.conv ?_
       have hl1:l1.length=u.sz:=by
        have:=(ziW h8).1;rw [zb2,zau] at this;exact this
       have h10:((EV.avL cs).drop k).take u.sz=EV.avL l1:=by
        rw [zsq,h7,zc9,List.take_append_of_le_length (by rw [zb2];omega),List.take_of_length_le (by rw [zb2];omega)]
       rw [h10];intro w S H v hv;show VRel w S H (.d (encD u y)) v;rw [zbz h6.1];exact VRel.packn hv h8
      ·cases h
     ·cases h
   ·cases h
  ·cases h
 ·rename_i id te j k h1;split at h
  ·rename_i E te' l h2;obtain ⟨h3,h⟩:=zaa h;have:=Ty.eq_of_beq h3;subst this;split at h
   ·rename_i u h4;split at h
    ·rename_i y h5;obtain ⟨h6,h⟩:=zaa h;obtain ⟨h7,h⟩:=zaF h;obtain ⟨z,hz,_⟩:=zaK hT h4;exact ⟨_,RO.ld_eptr_sub ho hz (zah h1) (zat h2) h7 h5 (by simpa using h6),h⟩
    ·cases h
   ·cases h
  ·cases h
 ·cases h
theorem znJ (hT:TOK P TT) {t:Nat} {x i:Operand} (ho:o.op = .indexAddr t x i) (h:zri TT s t x i K=some r):∃ z,RO P F s.st o z.av/\K z=some r:=by
 have key:∀ (ji:Int) (n:Nat),0<=ji/\ji < (n:Int)->ji=((ji.toNat:Nat):Int)/\ji.toNat < n:=fun ji n h=>by omega
 unfold zri at h;split at h
 ·rename_i k j hi;have hi':=zah hi;split at h
  ·rename_i id off h1;split at h
   ·rename_i n e h2;split at h
    ·rename_i E h3;obtain ⟨h7,rfl⟩:=zaQ hT h3;cases h5:Nat.beq E.size 1 with
     | true=>
      rw [h5] at h;simp only [cond_true] at h;split at h
      ·rename_i te h4;obtain ⟨h6,h⟩:=zaF h;have hsz:=Nat.eq_of_beq_eq_true h5;obtain ⟨hj,hjn⟩:=key j n h6;rw [show (EV.d (.int k) j).av = .d (.lit (.int k ((Int.toNat j:Nat):Int))) by rw [<- hj];rfl] at hi';have:=RO.idx_ptr (F:=F) ho (ze2 hT h2) h7.ti (zah h1) hi' (by simpa using hjn);rw [hsz,Nat.mul_one] at this;exact ⟨EV.vptr id off n te (Int.toNat j),this,h⟩
      ·cases h
     | false=>
      rw [h5] at h;simp only [cond_false] at h;split at h
      ·rename_i m e2 h8;split at h
       ·rename_i E2 h9;split at h
        ·rename_i te h10;obtain ⟨h11,h⟩:=zaa h;simp only [Bool.and_eq_true] at h11;have hsm:=Nat.eq_of_beq_eq_true h11.2;obtain ⟨h6,h⟩:=zaF h;obtain ⟨hj,hjn⟩:=key j n h6;rw [show (EV.d (.int k) j).av = .d (.lit (.int k ((Int.toNat j:Nat):Int))) by rw [<- hj];rfl] at hi';have:=RO.idx_ptr (F:=F) ho (ze2 hT h2) h7.ti (zah h1) hi' (by simpa using hjn);rw [hsm] at this;exact ⟨EV.vptr id off (n * m) te (Int.toNat j * m),this,h⟩
        ·cases h
       ·cases h
      ·cases h
    ·cases h
   ·cases h
  ·rename_i id off n te q h1;split at h
   ·rename_i m e h2;split at h
    ·rename_i E h3;obtain ⟨h7,rfl⟩:=zaQ hT h3;obtain ⟨h5,h⟩:=zaa h;have hsz:=Nat.eq_of_beq_eq_true h5;obtain ⟨h6,h⟩:=zaF h;obtain ⟨hj,hjn⟩:=key j m h6;rw [show (EV.d (.int k) j).av = .d (.lit (.int k ((Int.toNat j:Nat):Int))) by rw [<- hj];rfl] at hi';have:=RO.idx_ptr (F:=F) (off:=off+q) ho (ze2 hT h2) h7.ti (zah h1) hi' (by simpa using hjn);rw [hsz,Nat.mul_one,Nat.add_assoc] at this;exact ⟨EV.vptr id off n te (q+Int.toNat j),this,h⟩
    ·cases h
   ·cases h
  ·cases h
 ·cases h
theorem zmM (hT:TOK P TT) {t:Nat} {x:Operand} (ho:o.op = .load t x) (h:zoU TT s t x K=some r):∃ z,RO P F s.st o z.av/\K z=some r:=by
 unfold zoU at h;split at h
 ·rename_i id off n te j h1;split at h
  ·rename_i T cs h2;split at h
   ·rename_i e h3;obtain ⟨he,rfl⟩:=zaQ hT h3;cases hg:e.ag with
    | true=>rw [hg] at h;cases h
    | false=>
     rw [hg] at h;simp only [cond_false] at h;split at h
     ·rename_i l h4;obtain ⟨h5,h⟩:=zaF h;obtain ⟨d,hd,hda⟩:=he.ti.un;obtain ⟨_,_,h6⟩:=zhl h4;have h7:=h6 j h5;rw [List.getElem?_drop] at h7;exact ⟨_,RO.ld_ptr ho hd (by rw [hda,hg]) (zah h1) (zat h2) (by rw [zkJ,h7];rfl),h⟩
     ·cases h
   ·cases h
  ·cases h
 ·cases h
theorem zoW {x:Operand} {i:Nat} (ho:o.op = .extract x i) (h:ztL s x i K=some r):∃ z,RO P F s.st o z.av/\K z=some r:=by
 unfold ztL at h;split at h
 ·rename_i l h1;split at h
  ·rename_i y h2;exact ⟨_,RO.extract ho (zah h1) (by rw [zkJ,h2];rfl),h⟩
  ·cases h
 ·cases h
theorem zhd {x:Option Operand} {d v:Int} (h:zqf s x d=some v):bndR s.st x v d:=by
 unfold zqf at h;unfold bndR;split at h
 ·cases h;rfl
 ·split at h
  ·rename_i h1;cases h;exact zah h1
  ·cases h
theorem zoI (hT:TOK P TT) {t:Nat} {x:Operand} {lo hi:Option Operand} (ho:o.op = .slice t x lo hi none) (h:ztF TT s t x lo hi K=some r):∃ z,RO P F s.st o z.av/\K z=some r:=by
 unfold ztF at h;split at h
 ·rename_i te l h1;split at h
  ·rename_i e h2;split at h
   ·rename_i te' h3;obtain ⟨h4,h⟩:=zaa h;simp only [Bool.and_eq_true] at h4;have:=Ty.eq_of_beq h4.1;subst this;split at h
    ·rename_i i j h5 h6;obtain ⟨h7,h⟩:=zaF h;obtain ⟨z,hz,_⟩:=zaK hT h3;have hs:=zai hT h2;have h5:=zhd h5;have h6:=zhd h6;refine ⟨_,?_,h⟩;have hx:=zah h1;cases lo with
     | some a=>cases hi with
      | some b=>exact RO.sl_lh (α:=te'.den) ho hs hz hx h5 h6 h7
      | none=>
       have h6:j=_:=h6;subst h6;exact RO.sl_l (α:=te'.den) ho hs hz hx h5 ⟨h7.1,h7.2.1⟩
     | none=>
      have h5:i=0:=h5;subst h5;cases hi with
      | some b=>exact RO.sl_h (α:=te'.den) ho hs hz hx h6 h7.2
      | none=>have:=h4.2;cases this
    ·cases h
   ·cases h
  ·cases h
 ·rename_i a h1;obtain ⟨h2,h⟩:=zaa h;split at h
  ·rename_i i j h5 h6;obtain ⟨h7,h⟩:=zaF h;exact ⟨_,RO.sl_str ho (zi9 hT h2) (zah h1) (zhd h5) (zhd h6) h7,h⟩
  ·cases h
 ·rename_i h1;split at h
  ·rename_i b;split at h
   ·rename_i e he;split at h
    ·rename_i te hte;split at h
     ·rename_i v hv;obtain ⟨h0,hk⟩:=zaF h;subst h0;obtain ⟨k1,rfl⟩:=zaQ hT hte;exact ⟨.nil,RO.slnil_h ho (zai hT he) k1.ti (zah h1) (zah hv),hk⟩
     ·cases h
    ·cases h
   ·cases h
  ·cases h
 ·cases h
theorem zl0:∀ {l:List Operand} {xs:List EV},zjl s l=some xs->Evs s.st l (EV.avL xs)
 | [],xs,h=>by cases h;rfl
 | x::l,xs,h=>by
  simp only [zjl] at h;split at h
  ·rename_i v h1;split at h
   ·rename_i m h2;cases h;exact ⟨zah h1,zl0 h2⟩
   ·cases h
  ·cases h
theorem zoG {x:Operand} (ho:o.op = .nilCheck x) (h:ztE s x K=some r):∃ z,RO P F s.st o z.av/\K z=some r:=by
 unfold ztE at h;split at h
 ·rename_i h1;exact ⟨_,RO.nilCheck ho (zah h1) (.inl ⟨_,_,rfl⟩),h⟩
 ·rename_i h1;exact ⟨_,RO.nilCheck ho (zah h1) (.inr (.inl ⟨_,rfl⟩)),h⟩
 ·rename_i h1;exact ⟨_,RO.nilCheck ho (zah h1) (.inr (.inr (.inl ⟨_,_,_,_,rfl⟩))),h⟩
 ·rename_i h1;exact ⟨_,RO.nilCheck ho (zah h1) (.inr (.inr (.inr ⟨_,_,rfl⟩))),h⟩
 ·rename_i u t h1;cases hc:u.chain with
  | false=>rw [hc] at h;cases h
  | true=>
   rw [hc] at h;simp only [cond_true] at h;obtain ⟨hm,h⟩:=zaF h;exact ⟨_,RO.nilTree ho (zah h1) (zrW hc hm),h⟩
 ·cases h
theorem znD (hT:TOK P TT) {t u:Nat} {x:Operand} (ho:o.op = .convert t u x) (h:zrb TT s t u x K=some r):∃ z,RO P F s.st o z.av/\K z=some r:=by
 unfold zrb at h;split at h
 ·rename_i n h1;split at h
  ·rename_i h2 h3;obtain ⟨g1,rfl⟩:=zaQ hT h2;obtain ⟨g2,g3⟩:=zaQ hT h3;cases g3;obtain ⟨d,hd,_⟩:=g1.ti.un;exact ⟨_,RO.conv_int ho ⟨d,hd⟩ g2.td (zah h1),h⟩
  ·rename_i h2 h3;obtain ⟨g1,rfl⟩:=zaQ hT h2;obtain ⟨g2,g3⟩:=zaQ hT h3;cases g3;obtain ⟨d,hd,_⟩:=g1.ti.un;obtain ⟨hn,h⟩:=zaF h;exact ⟨EV.d .str [UInt8.ofNat n.toNat],RO.conv_str ho ⟨d,hd⟩ g2.td (zah h1) hn,h⟩
  ·cases h
 ·rename_i id h1;split at h
  ·rename_i E l h3;split at h
   ·rename_i e h2;obtain ⟨h4,h⟩:=zaa h;simp only [Bool.and_eq_true] at h4;refine ⟨EV.d .str (bstr l),?_,h⟩;have := @RO.conv_bytes P F s.st o t u e x id E (Ty.den (.int .u8)) (encI (.int .u8)) l (fun y:Int=>y) (fun _=>rfl) rfl ho (zai hT h2) (zs3 hT h4.1) (zi9 hT h4.2) (zah h1) (zat h3);have e1:strOfNums (l.map fun y:Int=>y)=⟨⟨bstr l⟩⟩:=by
     rw [List.map_id'];rfl
    rw [e1] at this;exact this
   ·cases h
  ·cases h
 ·cases h
theorem conD {z:Value} {t:Ty} {x:t.den} (h:EV.con z = .d t x) (w:World) (S:Nat->Prop):DRel w S (encD t x) z:=by
 have h1:=zpt z;rw [h] at h1;have h1:AV.d (encD t x)=avc z:=h1;cases z with
 | bool b=>injection h1 with h1;rw [h1];exact .lit _ rfl
 | int k n=>injection h1 with h1;rw [h1];exact .lit _ rfl
 | string b=>injection h1 with h1;rw [h1];exact .lit _ rfl
 | agg cs=>cases h
 | slice a n c=>rcases a with _ | a<;>rcases n with _ | n<;>rcases c with _ | c<;>cases h
 | _=>cases h
theorem znM (hT:TOK P TT) {t:Nat} {x y:Operand} {cm:Bool} (ho:o.op = .lookup t x y cm) (h:zrl TT s t x y cm K=some r):∃ z,RO P F s.st o z.av/\K z=some r:=by
 unfold zrl at h;split at h
 ·rename_i kt et hm;split at h
  ·rename_i id hx;split at h
   ·rename_i T k ks v vs he;obtain ⟨hk,h⟩:=zaa h;rw [Bool.and_eq_true] at hk;obtain ⟨hk,hze⟩:=hk;split at h
    ·rename_i yv hy;split at h
     ·rename_i key hkey;have SKk:=znk hT hk hm;obtain ⟨_,_,_,z,hti,hz⟩:=zmr hT hze;have hy':=zah hy;rw [zbJ hkey] at hy';have main:=RO.lookup (P:=P) (F:=F) (α:=k.den) (β:=v.den) (ks:=ks) (vs:=vs) (k:=key) (z0:=v.dflt) cm ho (ziP hT hm) SKk hti hz (zah hx) (zat he) hy';cases cm with
      | true=>exact ⟨EV.tup [.d v (mget ks vs key v.dflt),.d .bool (mhas ks key)],main,h⟩
      | false=>exact ⟨EV.d v (mget ks vs key v.dflt),main,h⟩
     ·cases h
    ·cases h
   ·cases h
  ·cases h
 ·cases h
theorem znI (hT:TOK P TT) {t:Nat} {x hi mx:Operand} (ho:o.op = .slice t x none (some hi) (some mx)) (h:zrh TT s t x hi mx K=some r):∃ z,RO P F s.st o z.av/\K z=some r:=by
 unfold zrh at h;split at h
 ·rename_i te l i j h1 h5 h6;split at h
  ·rename_i e h2;split at h
   ·rename_i te' h3;obtain ⟨h4,h8⟩:=zaa h;clear h;have:=Ty.eq_of_beq h4;subst this;obtain ⟨⟨h9,h7⟩,h10⟩:=zaF h8;subst h9;obtain ⟨z,hz,_⟩:=zaK hT h3;exact ⟨_,RO.sl_hm (α:=te.den) ho (zai hT h2) hz (zah h1) (zah h5) (zah h6) h7,h10⟩
   ·cases h
  ·cases h
 ·cases h
theorem RO.max3 {σ:St} {k:IntKind} {m n p:Int} {x y z:Operand} {ts:Array TypeId} (ho:o.op = .call { callee := .builtin .max,args:=#[x,y,z],argTypes:=ts })
  (hx:σ.ev x=some (.d (.lit (.int k m)))) (hy:σ.ev y=some (.d (.lit (.int k n)))) (hz:σ.ev z=some (.d (.lit (.int k p)))):RO P F σ o (.d (.lit (.int k (imax (imax m n) p)))):=fun H a w r=>
 ⟨.int k (imax (imax m n) p),fun w' _=>by
  unfold imax;by_cases c1:m < n
  ·by_cases c2:n < p<;>simp [execOp,ho,resolve,invoke,builtin,Builtin.max_,Builtin.max2,r.lit hx,r.lit hy,r.lit hz,c1,c2]
  ·by_cases c2:m < p<;>simp [execOp,ho,resolve,invoke,builtin,Builtin.max_,Builtin.max2,r.lit hx,r.lit hy,r.lit hz,c1,c2],.d _ _ (.lit _ rfl)⟩
theorem zhg (hT:TOK P TT) (h:evRO TT s o.op K=some r):∃ z,RO P F s.st o z.av/\K z=some r:=by
 unfold evRO at h;split at h
 ·rename_i x ho;split at h
  ·rename_i v h1;exact ⟨_,RO.move ho (zah h1),h⟩
  ·cases h
 ·rename_i x ho;split at h
  ·rename_i v h1;exact ⟨_,RO.assign ho (zah h1),h⟩
  ·cases h
 ·rename_i ho;exact zkY hT ho h
 ·rename_i ho;exact zqi ho h
 ·rename_i c ho;split at h
  ·rename_i x t h1 h2 h3;refine zoT hT ?_ h;rw [ho];obtain ⟨cc,ca,ct⟩:=c;simp only at h1 h2 h3;subst h1;rw [show ca=#[x] from Array.ext' h2,show ct=#[t] from Array.ext' h3]
  ·rename_i x y h1 h2;unfold zuV at h;split at h
   ·rename_i j m k n hx hy;obtain ⟨hjk,h⟩:=zaa h;have hjk:=of_decide_eq_true hjk;subst hjk;refine ⟨_,RO.min (ts:=c.argTypes) ?_ (zah hx) (zah hy),h⟩;rw [ho];obtain ⟨cc,ca,ct⟩:=c;simp only at h1 h2;subst h1;rw [show ca=#[x,y] from Array.ext' h2]
   ·cases h
  ·rename_i x y h1 h2;unfold zuU at h;split at h
   ·rename_i j m k n hx hy;obtain ⟨hjk,h⟩:=zaa h;have hjk:=of_decide_eq_true hjk;subst hjk;refine ⟨_,RO.max (ts:=c.argTypes) ?_ (zah hx) (zah hy),h⟩;rw [ho];obtain ⟨cc,ca,ct⟩:=c;simp only at h1 h2;subst h1;rw [show ca=#[x,y] from Array.ext' h2]
   ·cases h
  ·rename_i x y z h1 h2;unfold ztb at h;split at h
   ·rename_i j m k n l p hx hy hz;obtain ⟨hjk,h⟩:=zaa h;simp only [Bool.and_eq_true] at hjk;have hjk1:=of_decide_eq_true hjk.1;have hjk2:=of_decide_eq_true hjk.2;subst hjk1;subst hjk2;refine ⟨_,RO.max3 (ts:=c.argTypes) ?_ (zah hx) (zah hy) (zah hz),h⟩;rw [ho];obtain ⟨cc,ca,ct⟩:=c;simp only at h1 h2;subst h1;rw [show ca=#[x,y,z] from Array.ext' h2]
   ·cases h
  ·rename_i x t h1 h2 h3;split at h
   ·rename_i e hx he;refine ⟨_,RO.cap_nil ?_ (zai hT he) (zah hx),h⟩;rw [ho];obtain ⟨cc,ca,ct⟩:=c;simp only at h1 h2 h3;subst h1;rw [show ca=#[x] from Array.ext' h2,show ct=#[t] from Array.ext' h3]
   ·cases h
  ·cases h
 ·rename_i t x i ho;cases hb:zte s x i with
  | true=>rw [hb] at h;exact znJ hT ho h
  | false=>rw [hb] at h;exact zoS hT ho h
 ·rename_i t x i ho;split at h
  ·rename_i a k j h1 h2;obtain ⟨h3,h⟩:=zaa h;obtain ⟨h4,h⟩:=zaF h;exact ⟨_,RO.idx_str ho (zi9 hT h3) (zah h1) (zah h2) h4,h⟩
  ·cases h
 ·rename_i ho;exact zoR hT ho h
 ·rename_i ho;exact zmK hT ho h
 ·rename_i t x ho;cases hb:zpG s x with
  | true=>rw [hb] at h;exact zmM hT ho h
  | false=>rw [hb] at h;exact znL hT ho h
 ·rename_i ho;exact zoW ho h
 ·rename_i ho;exact zoI hT ho h
 ·rename_i ho;exact znI hT ho h
 ·rename_i f fs cs ho;split at h
  ·rename_i h1;split at h
   ·rename_i l h2;have:fs=#[]:=Array.ext' h1;subst this;exact ⟨_,RO.makeFunc ho (zl0 h2),h⟩
   ·cases h
  ·cases h
 ·rename_i ho;exact zoG ho h
 ·rename_i ho;exact znM hT ho h
 ·rename_i ho;exact znD hT ho h
 ·cases h
end
end
end Go.Ab
