import Derived.Test.YtfjfjemoehnpbaaEv40n5
set_option linter.unusedVariables false
set_option linter.unusedSimpArgs false
set_option linter.unusedSectionVars false
namespace Go.Ab
noncomputable section
open Enc (enc)
variable {R:Type}
def bAt (a:List UInt8) (j:Int):Int:=((a.getD j.toNat 0).toNat:Int)
def zsd (TT:List TE) (s:ESt) (x:Operand) (t:Nat) (K:EV->Option R):Option R:=match s.ev x with
 | some (.d (.list _) l)=>match zbe TT t with
  | some _=>K (.d (.int .i64) (l.length:Int))
  | none=>none
 | some (.own id)=>match s.ent id with
  | some (.arr _ _ l)=>match zbe TT t with
   | some _=>K (.d (.int .i64) (l.length:Int))
   | none=>none
  | some (.box _ [.d (.list _) ks,.d (.list _) _])=>match mapT TT t with
   | some _=>K (.d (.int .i64) (ks.length:Int))
   | none=>none
  | _=>none
 | some (.view _ _ _ n)=>match zbe TT t with
  | some _=>K (.d (.int .i64) (n:Int))
  | none=>none
 | some .nil=>match zbe TT t with
  | some _=>K (.d (.int .i64) (0:Int))
  | none=>none
 | some (.d .str a)=>bif strT TT t then K (.d (.int .i64) (a.length:Int)) else none
 | _=>none
def zmz (te:Ty):Nat->List EV->Option (List te.den)
 | 0,_=>some []
 | n+1,.d t x::r=>match zaG t te x,zmz te n r with
  | some y,some l=>some (y::l)
  | _,_=>none
 | _,_=>none
theorem zgi {te:Ty}:∀ {n:Nat} {cs:List EV} {l:List te.den},zmz te n cs=some l->l.length=n/\n<=cs.length/\∀ j,j < n->cs[j]? =some (.d te (l.getD j te.dflt))
 | 0,cs,l,h=>by cases h;exact ⟨rfl,Nat.zero_le _,fun j hj=>by omega⟩
 | n+1,[],l,h=>by simp [zmz] at h
 | n+1,c::r,l,h=>by
  cases c with
  | d t x=>
   simp only [zmz] at h;split at h
   ·rename_i y l' hy hl;cases h;obtain ⟨rfl,rfl⟩:=zaw hy;obtain ⟨h1,h2,h3⟩:=zgi hl;refine ⟨by simp [h1],by simpa using h2,fun j hj => ?_⟩
    match j with
    | 0=>rfl
    | j+1=>simpa using h3 j (by omega)
   ·cases h
  | _=>simp [zmz] at h
def zpO (TT:List TE) (s:ESt) (t:Nat) (x i:Operand) (K:EV->Option R):Option R:=match s.ev i with
 | some (.d (.int _) j)=>match s.ev x with
  | some (.ptr id off)=>match arrT TT t with
   | some (n,e)=>match fT TT e with
    | some E=>bif Nat.beq E.size 1 then (match tyT TT e with
     | some te=>G (0<=j/\j < (n:Int)) (K (.vptr id off n te j.toNat))
     | none=>none) else (match arrT TT e with
     | some (m,e2)=>match fT TT e2 with
      | some E2=>match tyT TT e2 with
       | some te=>bif Nat.beq E2.size 1 && Nat.beq E.size m then G (0<=j/\j < (n:Int)) (K (.vptr id off (n * m) te (j.toNat * m))) else none
       | none=>none
      | none=>none
     | none=>none)
    | none=>none
   | none=>none
  | some (.vptr id off n te q)=>match arrT TT t with
   | some (m,e)=>match fT TT e with
    | some E=>bif Nat.beq E.size 1 then G (0<=j/\j < (m:Int)) (K (.vptr id off n te (q+j.toNat))) else none
    | none=>none
   | none=>none
  | _=>none
 | _=>none
def zrJ (s:ESt) (x i:Operand):Bool:=match s.ev x with
 | some (.vptr _ _ _ _ _)=>true
 | some (.ptr _ _)=>(match i with
  | .const _=>false
  | _=>true)
 | _=>false
def zsc (TT:List TE) (s:ESt) (t:Nat) (x i:Operand) (K:EV->Option R):Option R:=match s.ev i with
 | some (.d (.int _) j)=>match s.ev x with
  | some (.d (.list te) l)=>match zbe TT t with
   | some e=>match tyT TT e with
    | some te'=>bif Ty.beq te' te then G (0<=j/\j < (l.length:Int)) (K (.addr te (ix l j))) else none
    | none=>none
   | none=>none
  | some (.own id)=>match s.ent id with
   | some (.arr _ te l)=>match zbe TT t with
    | some e=>match tyT TT e with
     | some te'=>bif Ty.beq te' te then G (0<=j/\j < (l.length:Int)) (K (.eptr id te j.toNat 0)) else none
     | none=>none
    | none=>none
   | _=>none
  | some (.view id te q n)=>match zbe TT t with
   | some e=>match tyT TT e with
    | some te'=>bif Ty.beq te' te then G (0<=j/\j < (n:Int)) (K (.eptr id te (q+j.toNat) 0)) else none
    | none=>none
   | none=>none
  | some (.addr tx a)=>match arrT TT t with
   | some (n,e)=>match tyT TT e with
    | some te=>match zaG tx (vecT te n) a with
     | some v=>G (0<=j/\j < (n:Int)) (K (.addr te (vget te n v j.toNat)))
     | none=>none
    | none=>none
   | none=>none
  | some (.ptr id off)=>match arrT TT t with
   | some (n,e)=>match fT TT e with
    | some E=>match j with
     | .ofNat jn=>bif Nat.blt jn n then K (.ptr id (off+jn * E.size)) else none
     | _=>none
    | none=>none
   | none=>none
  | _=>none
 | _=>none
def zsb (TT:List TE) (s:ESt) (st:Nat) (x:Operand) (i:Nat) (K:EV->Option R):Option R:=match fldT TT st i with
 | some (off,_,e)=>match s.ev x with
  | some (.ptr id k)=>K (.ptr id (k+off))
  | some (.eptr id te j k)=>K (.eptr id te j (k+off))
  | some (.addr tx a)=>match e.ty with
   | some u=>match zkd tx a off u with
    | some y=>bif tx.agg then K (.addr u y) else none
    | none=>none
   | none=>none
  | _=>none
 | none=>none
def znt (TT:List TE) (s:ESt) (st:Nat) (x:Operand) (i:Nat) (K:EV->Option R):Option R:=match fldT TT st i with
 | some (off,_,e)=>match s.ev x with
  | some (.agg l)=>bif e.ag then none else match l[off]? with
   | some c=>K c
   | none=>none
  | some (.d tx a)=>bif e.ag then none else match e.ty with
   | some u=>match zkd tx a off u with
    | some y=>bif tx.agg then K (.d u y) else none
    | none=>none
   | none=>none
  | _=>none
 | none=>none
def zpQ (TT:List TE) (s:ESt) (t:Nat) (x:Operand) (K:EV->Option R):Option R:=match s.ev x with
 | some (.addr tx a)=>match tyT TT t with
  | some u=>bif Ty.beq u tx then K (.d tx a) else none
  | none=>none
 | some (.ptr id k)=>match s.ent id with
  | some (.box _ cs)=>match fT TT t with
   | some e=>bif e.ag then (match e.ty with
     | some u=>match zic u (cs.drop k) with
      | some (y,_)=>bif u.agg && Nat.ble (k+u.sz) cs.length then K (.d u y) else none
      | none=>none
     | none=>none)
    else match cs[k]? with
     | some c=>K c
     | none=>none
   | none=>none
  | _=>none
 | some (.eptr id te j k)=>match s.ent id with
  | some (.arr _ te' l)=>bif Ty.beq te te' then (match tyT TT t with
   | some u=>match zkd te' (l.getD j te'.dflt) k u with
    | some y=>bif Nat.ble (k+u.sz) te.sz then G (j < l.length) (K (.d u y)) else none
    | none=>none
   | none=>none) else none
  | _=>none
 | _=>none
def znx (TT:List TE) (s:ESt) (t:Nat) (x:Operand) (K:EV->Option R):Option R:=match s.ev x with
 | some (.vptr id off n te j)=>match s.ent id with
  | some (.box _ cs)=>match fT TT t with
   | some e=>bif e.ag then none else (match zmz te n (cs.drop off) with
    | some l=>G (j < n) (K (.d te (l.getD j te.dflt)))
    | none=>none)
   | none=>none
  | _=>none
 | _=>none
def zoh (s:ESt) (x:Operand):Bool:=match s.ev x with
 | some (.vptr ..)=>true
 | _=>false
def zsf (s:ESt) (x:Operand) (i:Nat) (K:EV->Option R):Option R:=match s.ev x with
 | some (.tup l)=>match l[i]? with
  | some y=>K y
  | none=>none
 | _=>none
def zoN (s:ESt) (x:Option Operand) (d:Int):Option Int:=match x with
 | none=>some d
 | some o=>match s.ev o with
  | some (.d (.int .i64) v)=>some v
  | _=>none
def zr9 (TT:List TE) (s:ESt) (t:Nat) (x:Operand) (lo hi:Option Operand) (K:EV->Option R):Option R:=match s.ev x with
 | some (.d (.list te) l)=>match zbe TT t with
  | some e=>match tyT TT e with
   | some te'=>bif Ty.beq te' te && (lo.isSome || hi.isSome) then (match zoN s lo 0,zoN s hi (l.length:Int) with
    | some i,some j=>G (0<=i/\i<=j/\j<=(l.length:Int)) (K (.d (.list te) (cut l i j)))
    | _,_=>none) else none
   | none=>none
  | none=>none
 | some (.d .str a)=>bif strT TT t then (match zoN s lo 0,zoN s hi (a.length:Int) with
  | some i,some j=>G (0<=i/\i<=j/\j<=(a.length:Int)) (K (.d .str (cut a i j)))
  | _,_=>none) else none
 | some .nil=>match lo,hi with
  | none,some h=>match zbe TT t with
   | some e=>match fT TT e with
    | some _=>match s.ev h with
     | some (.d (.int .i64) v)=>G (v=(0:Int)) (K .nil)
     | _=>none
    | none=>none
   | none=>none
  | _,_=>none
 | _=>none
def zh6 (s:ESt):List Operand->Option (List EV)
 | []=>some []
 | x::r=>match s.ev x with
  | some v=>match zh6 s r with
   | some l=>some (v::l)
   | none=>none
  | none=>none
def zr8 (s:ESt) (x:Operand) (K:EV->Option R):Option R:=match s.ev x with
 | some (.ptr i k)=>K (.ptr i k)
 | some (.addr t a)=>K (.addr t a)
 | some (.eptr i t j k)=>K (.eptr i t j k)
 | some (.fn f c)=>K (.fn f c)
 | some (.d (.tree u) t)=>bif u.chain then G (t.isMk=true) (K (.addr (zdc u) (zsw u t))) else none
 | _=>none
def bstr (l:List Int):List UInt8:=l.map fun n=>UInt8.ofNat n.toNat
def u8T (TT:List TE) (id:Nat):Bool:=match fT TT id with
 | some ⟨_,.int .u8,_,_,_,_,_⟩=>true
 | _=>false
theorem zrA {P:Program} {TT:List TE} {id:Nat} (hT:TOK P TT) (h:u8T TT id=true):P.underlying id=some (.int .u8):=by
 unfold u8T at h;split at h
 ·rename_i he;obtain ⟨h1,h2⟩:=zaK hT he;cases h2;exact h1.td
 ·cases h
def zpH (TT:List TE) (s:ESt) (t u:Nat) (x:Operand) (K:EV->Option R):Option R:=match s.ev x with
 | some (.d (.int _) n)=>match fT TT t,fT TT u with
  | some _,some ⟨_,.int k,_,_,_,_,_⟩=>K (.d (.int k) (k.wrap n))
  | some _,some ⟨_,.str,_,_,_,_,_⟩=>G (0<=n/\n < 128) (K (.d .str [UInt8.ofNat n.toNat]))
  | _,_=>none
 | some (.own id)=>match s.ent id with
  | some (.arr _ (.int .u8) l)=>match zbe TT t with
   | some e=>bif u8T TT e && strT TT u then K (.d .str (bstr l)) else none
   | none=>none
  | _=>none
 | _=>none
def imin (m n:Int):Int:=if n < m then n else m
def imax (m n:Int):Int:=if m < n then n else m
def ztn (s:ESt) (x y:Operand) (K:EV->Option R):Option R:=match s.ev x,s.ev y with
 | some (.d (.int j) m),some (.d (.int k) n)=>bif decide (j=k) then K (.d (.int j) (imin m n)) else none
 | _,_=>none
def ztm (s:ESt) (x y:Operand) (K:EV->Option R):Option R:=match s.ev x,s.ev y with
 | some (.d (.int j) m),some (.d (.int k) n)=>bif decide (j=k) then K (.d (.int j) (imax m n)) else none
 | _,_=>none
def zrG (s:ESt) (x y z:Operand) (K:EV->Option R):Option R:=match s.ev x,s.ev y,s.ev z with
 | some (.d (.int j) m),some (.d (.int k) n),some (.d (.int l) p)=>bif decide (j=k) && decide (j=l) then K (.d (.int j) (imax (imax m n) p)) else none
 | _,_,_=>none
def zpR (TT:List TE) (s:ESt) (t:Nat) (x y:Operand) (cm:Bool) (K:EV->Option R):Option R:=match mapT TT t with
 | some (kt,et)=>match s.ev x with
  | some (.own id)=>match s.ent id with
   | some (.box _ [.d (.list k) ks,.d (.list v) vs])=>bif skT TT t k && zrD TT et v then (match s.ev y with
    | some yv=>match yv.exact k with
     | some key=>match cm with
      | true=>K (.tup [.d v (mget ks vs key v.dflt),.d .bool (mhas ks key)])
      | false=>K (.d v (mget ks vs key v.dflt))
     | none=>none
    | none=>none) else none
   | _=>none
  | _=>none
 | none=>none
def zpN (TT:List TE) (s:ESt) (t:Nat) (x hi mx:Operand) (K:EV->Option R):Option R:=match s.ev x,s.ev hi,s.ev mx with
 | some (.d (.list te) l),some (.d (.int .i64) i),some (.d (.int .i64) j)=>match zbe TT t with
  | some e=>match tyT TT e with
   | some te'=>bif Ty.beq te te' then G (i=j/\0<=i/\i<=(l.length:Int)) (K (.full te (cut l 0 i))) else none
   | none=>none
  | none=>none
 | _,_,_=>none
def evRO (TT:List TE) (s:ESt) (op:Op) (K:EV->Option R):Option R:=match op with
 | .move x=>match s.ev x with
  | some v=>K v
  | none=>none
 | .assign x=>match s.ev x with
  | some v=>K v
  | none=>none
 | .binOp op t x y _=>zq1 TT s op t x y K
 | .unOp op _ x=>evUn s op x K
 | .call c=>match c.callee,c.args.toList,c.argTypes.toList with
  | .builtin .len,[x],[t]=>zsd TT s x t K
  | .builtin .min,[x,y],_=>ztn s x y K
  | .builtin .max,[x,y],_=>ztm s x y K
  | .builtin .max,[x,y,z],_=>zrG s x y z K
  | .builtin .cap,[x],[t]=>match s.ev x,zbe TT t with
   | some .nil,some _=>K (.d (.int .i64) (0:Int))
   | _,_=>none
  | _,_,_=>none
 | .indexAddr t x i=>bif zrJ s x i then zpO TT s t x i K else zsc TT s t x i K
 | .index t x i=>match s.ev x,s.ev i with
  | some (.d .str a),some (.d (.int _) j)=>bif strT TT t then G (0<=j/\j < (a.length:Int)) (K (.d (.int .u8) (bAt a j))) else none
  | _,_=>none
 | .fieldAddr st x i=>zsb TT s st x i K
 | .field st x i=>znt TT s st x i K
 | .load t x=>bif zoh s x then znx TT s t x K else zpQ TT s t x K
 | .extract x i=>zsf s x i K
 | .slice t x lo hi none=>zr9 TT s t x lo hi K
 | .slice t x none (some hi) (some mx)=>zpN TT s t x hi mx K
 | .makeFunc (.func f) fs cs=>match fs.toList with
  | []=>match zh6 s cs.toList with
   | some l=>K (.fn f l)
   | none=>none
  | _=>none
 | .nilCheck x=>zr8 s x K
 | .lookup t x y cm=>zpR TT s t x y cm K
 | .convert t u x=>zpH TT s t u x K
 | _=>none
theorem RO.len_view {P:Program} {F:Fr} {σ:St} {o:Oper} {x:Operand} {t e:TypeId} {id sz q n:Nat} (ho:o.op = .call { callee := .builtin .len,args:=#[x],argTypes:=#[t] }) (ht:P.underlying t=some (.slice e))
  (hx:σ.ev x=some (.view id sz q n)):RO P F σ o (.d (.lit (.int .i64 (n:Nat)))):=fun H a w r=>by
 have hv:=r.ev hx;obtain ⟨ad,c,hv'⟩:∃ ad c,a.eval x = .slice ad n c:=by
  generalize a.eval x=u at hv;cases hv with
  | view _ _ _ _ u0 _ h hp=>
   rcases hp with ⟨_,h2,_,h3⟩ | ⟨b,o0,n0,c0,c,a0,_,_,h3,_⟩
   ·exact ⟨none,0,by rw [h2,h3]⟩
   ·exact ⟨_,c,h3⟩
 exact ⟨.int .i64 n,fun w' _=>by simp [execOp,ho,resolve,invoke,builtin,Builtin.len_,run_underlying ht,hv',goInt],.d _ _ (.lit _ rfl)⟩
theorem RO.idx_view {P:Program} {F:Fr} {σ:St} {o:Oper} {t e:TypeId} {x i:Operand} {k:IntKind} {j:Int} {id sz q n:Nat} {dsc:Bool} {bytes:Nat} {z:Value}
  (ho:o.op = .indexAddr t x i) (ht:P.underlying t=some (.slice e)) (he:TI P e dsc sz bytes z)
  (hx:σ.ev x=some (.view id sz q n)) (hi:σ.ev i=some (.d (.lit (.int k j)))) (hj:0<=j/\j < (n:Int)):RO P F σ o (.eptr id sz (q+j.toNat) 0):=fun H a w r=>by
 have hv:=r.ev hx;have hi':=r.lit hi;obtain ⟨m,rfl⟩:∃ m:Nat,j=m:=⟨j.toNat,by omega⟩;have hn:m < n:=by omega
 generalize hu:a.eval x=u at hv;cases hv with
 | view _ _ _ _ u0 _ h hp=>
  rcases hp with ⟨_,_,_,h3⟩ | ⟨b,o0,n0,c0,c,a0,h1,h2,h3,_,_,h5⟩
  ·omega
  ·subst h1;have h5:=h5 (by omega);subst h5;subst h3;refine ⟨.pointer (some ⟨b,o0+q * sz+m * sz,none⟩),fun w' _ => ?_,?_⟩
   ·simp [execOp,ho,Instr.indexAt,hu,hi',asIntOf,run_underlying ht,hn,he.size,zbr]
   ·have:=VRel.eptr (w:=w) (S:=Sh F.X σ.ent H w) (H:=H) id sz (q+m) 0 b o0 n0 c0 h (by omega);have e:o0+((q+m) * sz+0)=o0+q * sz+m * sz:=by rw [Nat.add_mul];omega
    rw [e] at this;simpa using this
section
variable {P:Program} {TT:List TE} {F:Fr} {s:ESt} {o:Oper} {K:EV->Option R} {r:R}
theorem zaa {c:Bool} {x:Option R} {r:R} (h:(bif c then x else none)=some r):c=true/\x=some r:=by
 cases c
 ·cases h
 ·exact ⟨rfl,h⟩
theorem znw (hT:TOK P TT) {x:Operand} {t:Nat} (ho:o.op = .call { callee := .builtin .len,args:=#[x],argTypes:=#[t] }) (h:zsd TT s x t K=some r):∃ z,RO P F s.st o z.av/\K z=some r:=by
 unfold zsd at h;split at h
 ·rename_i te l h1;split at h
  ·rename_i e h2;exact ⟨_,RO.len (α:=te.den) (l:=l) ho (zah hT h2) (zag h1),h⟩
  ·cases h
 ·rename_i id h1;split at h
  ·rename_i E te l h3;split at h
   ·rename_i e h2;exact ⟨_,RO.len_own (α:=te.den) (l:=l) ho (zah hT h2) (zag h1) (zaq h3),h⟩
   ·cases h
  ·rename_i T k ks v vs h3;split at h
   ·rename_i p h2;exact ⟨_,RO.len_map (α:=k.den) (β:=v.den) (ks:=ks) (vs:=vs) ho (zhB hT h2) (zag h1) (zaq h3),h⟩
   ·cases h
  ·cases h
 ·rename_i id te q n h1;split at h
  ·rename_i e h2;exact ⟨_,RO.len_view ho (zah hT h2) (zag h1),h⟩
  ·cases h
 ·rename_i h1;split at h
  ·rename_i e h2;exact ⟨_,RO.len_nil ho (zah hT h2) (zag h1),h⟩
  ·cases h
 ·rename_i a h1;obtain ⟨h2,h⟩:=zaa h;exact ⟨_,RO.len_str ho (zhT hT h2) (zag h1),h⟩
 ·cases h
theorem znv (hT:TOK P TT) {t:Nat} {x i:Operand} (ho:o.op = .indexAddr t x i) (h:zsc TT s t x i K=some r):∃ z,RO P F s.st o z.av/\K z=some r:=by
 unfold zsc at h;split at h
 ·rename_i k j hi;split at h
  ·rename_i te l h1;split at h
   ·rename_i e h2;split at h
    ·rename_i te' h3;obtain ⟨h4,h⟩:=zaa h;have:=Ty.eq_of_beq h4;subst this;obtain ⟨h5,h⟩:=zaB h;obtain ⟨z,hz,_⟩:=zaF hT h3;exact ⟨_,RO.idx (α:=te'.den) ho (zah hT h2) hz (zag h1) (zag hi) h5,h⟩
    ·cases h
   ·cases h
  ·rename_i id h1;split at h
   ·rename_i E te l he;split at h
    ·rename_i e h2;split at h
     ·rename_i te' h3;obtain ⟨h4,h⟩:=zaa h;have:=Ty.eq_of_beq h4;subst this;obtain ⟨h5,h⟩:=zaB h;obtain ⟨z,hz,_⟩:=zaF hT h3;exact ⟨_,RO.idx_own (α:=te'.den) ho (zah hT h2) hz (zag h1) (zaq he) (zag hi) h5,h⟩
     ·cases h
    ·cases h
   ·cases h
  ·rename_i id te q n h1;split at h
   ·rename_i e h2;split at h
    ·rename_i te' h3;obtain ⟨h4,h⟩:=zaa h;have:=Ty.eq_of_beq h4;subst this;obtain ⟨h5,h⟩:=zaB h;obtain ⟨z,hz,_⟩:=zaF hT h3;exact ⟨_,RO.idx_view ho (zah hT h2) hz (zag h1) (zag hi) h5,h⟩
    ·cases h
   ·cases h
  ·rename_i tx a h1;split at h
   ·rename_i n e h2;split at h
    ·rename_i te h3;split at h
     ·rename_i v hv;obtain ⟨h5,h⟩:=zaB h;obtain ⟨rfl,rfl⟩:=zaw hv;obtain ⟨z,hz,_⟩:=zaF hT h3
      letI A:Arr (vecT te n).den te.den:=⟨n,fun b i=>vget te n b i.toNat,fun b i h0 h1=>zij te n b i.toNat (by omega)⟩
      exact ⟨_,RO.idx_arr (β:=(vecT te n).den) (α:=te.den) ho (zeh hT h2) hz rfl (zag h1) (zag hi) h5,h⟩
     ·cases h
    ·cases h
   ·cases h
  ·rename_i id off h1;split at h
   ·rename_i n e h2;split at h
    ·rename_i E h3;split at h
     ·rename_i j jn;obtain ⟨h4,h⟩:=zaa h;obtain ⟨h5,rfl⟩:=zaK hT h3;exact ⟨_,RO.idx_ptr ho (zeh hT h2) h5.ti (zag h1) (zag hi) h4,h⟩
     ·cases h
    ·cases h
   ·cases h
  ·cases h
 ·cases h
theorem znu (hT:TOK P TT) {st:Nat} {x:Operand} {i:Nat} (ho:o.op = .fieldAddr st x i) (h:zsb TT s st x i K=some r):∃ z,RO P F s.st o z.av/\K z=some r:=by
 unfold zsb at h;split at h
 ·rename_i off ft e hf;obtain ⟨hf,he,rfl⟩:=zjL hT hf;split at h
  ·rename_i h1;exact ⟨_,RO.fld_ptr ho hf (zag h1),h⟩
  ·rename_i h1;exact ⟨_,RO.fld_eptr ho hf (zag h1),h⟩
  ·rename_i tx a h1;split at h
   ·rename_i u h2;split at h
    ·rename_i y h3;obtain ⟨h4,h⟩:=zaa h;have hs:=zih h3;have h1':=zag h1;simp only [EV.av] at h1';rw [zbn h4] at h1';obtain ⟨g1,g2,g3,g4⟩:=he.ty u h2;refine ⟨_,?_,h⟩;show RO P F s.st o (.addr (encD u y));cases hu:u.agg with
     | false=>
      refine RO.fld_addr ho hf h1' (c:=encD u y) ?_ (zbT hu y);rw [zbT hu,zmY hu] at hs;have:((encD tx a).cells.drop off)[0]? =some (encD u y):=by
       have h5:=congrArg (fun l=>l[0]?) hs;simpa using h5
      simpa using this
     | true=>
      rw [zbn hu];exact RO.fld_addr_agg ho hf h1' (by rw [g2];exact hs) (by rw [zar,g2])
    ·cases h
   ·cases h
  ·cases h
 ·cases h
theorem zlo (hT:TOK P TT) {st:Nat} {x:Operand} {i:Nat} (ho:o.op = .field st x i) (h:znt TT s st x i K=some r):∃ z,RO P F s.st o z.av/\K z=some r:=by
 unfold znt at h;split at h
 ·rename_i off ft e hf;obtain ⟨hf,he,rfl⟩:=zjL hT hf;split at h
  ·rename_i l h1;cases hg:e.ag with
   | true=>rw [hg] at h;cases h
   | false=>
    rw [hg] at h;simp only [cond_false] at h;split at h
    ·rename_i c h2;obtain ⟨d,hd,hda⟩:=he.ti.un;refine ⟨_,RO.field ho hf (zag h1) ?_ hd (by rw [hda,hg]),h⟩;rw [zbZ,List.getElem?_map,h2];rfl
    ·cases h
  ·rename_i tx a h1;cases hg:e.ag with
   | true=>rw [hg] at h;cases h
   | false=>
    rw [hg] at h;simp only [cond_false] at h;split at h
    ·rename_i u h2;split at h
     ·rename_i y h3;obtain ⟨h4,h⟩:=zaa h;have hs:=zih h3;have h1':=zag h1;simp only [EV.av] at h1';rw [zbn h4] at h1';obtain ⟨g1,g2,g3,g4⟩:=he.ty u h2;have hu:u.agg=false:=by rw [<- g1];exact hg
      obtain ⟨d,hd,hda⟩:=he.ti.un;refine ⟨_,RO.field_d ho hf h1' (c:=encD u y) ?_ hd (by rw [hda,hg]),h⟩;rw [zbT hu,zmY hu] at hs;have:((encD tx a).cells.drop off)[0]? =some (encD u y):=by
       have h5:=congrArg (fun l=>l[0]?) hs;simpa using h5
      simpa using this
     ·cases h
    ·cases h
  ·cases h
 ·cases h
theorem zjq (l:List EV) (k:Nat):(EV.avL l)[k]? =(l[k]?).map EV.av:=by rw [zbZ,List.getElem?_map]
theorem zbP (l:List EV):(EV.avL l).length=l.length:=by rw [zbZ,List.length_map]
theorem zqU (l:List EV) (k:Nat):(EV.avL l).drop k=EV.avL (l.drop k):=by rw [zbZ,zbZ,List.map_drop]
theorem zmn (hT:TOK P TT) {t:Nat} {x:Operand} (ho:o.op = .load t x) (h:zpQ TT s t x K=some r):∃ z,RO P F s.st o z.av/\K z=some r:=by
 unfold zpQ at h;split at h
 ·rename_i tx a h1;split at h
  ·rename_i u h2;obtain ⟨h3,h⟩:=zaa h;have:=Ty.eq_of_beq h3;subst this;obtain ⟨z,hz,_⟩:=zaF hT h2;refine ⟨_,?_,h⟩;show RO P F s.st o (.d (encD u a));cases hu:u.agg with
   | false=>
    obtain ⟨d,hd,hda⟩:=hz.un;rw [hu] at hda;exact RO.ld_addr ho hd hda (zag h1) (zbT hu a)
   | true=>
    have h1':=zag h1;simp only [EV.av] at h1';rw [zbn hu] at h1' ⊢;exact RO.ld_addr_agg ho hz hu h1' (zar u a)
  ·cases h
 ·rename_i id k h1;split at h
  ·rename_i T cs h2;split at h
   ·rename_i e h3;obtain ⟨he,rfl⟩:=zaK hT h3;cases hg:e.ag with
    | false=>
     rw [hg] at h;simp only [cond_false] at h;split at h
     ·rename_i c h4;obtain ⟨d,hd,hda⟩:=he.ti.un;exact ⟨_,RO.ld_ptr ho hd (by rw [hda,hg]) (zag h1) (zaq h2) (by rw [zjq,h4];rfl),h⟩
     ·cases h
    | true=>
     rw [hg] at h;simp only [cond_true] at h;split at h
     ·rename_i u h4;split at h
      ·rename_i y rest h5;obtain ⟨h6,h⟩:=zaa h;simp only [Bool.and_eq_true] at h6;obtain ⟨g1,g2,g3,g4⟩:=he.ty u h4;have hti:=he.ti;rw [hg,g2] at hti;have hle:k+u.sz<=cs.length:=by simpa using h6.2
       obtain ⟨l1,h7,h8⟩:=zcn h5;refine ⟨_,?_,h⟩;have h9:=RO.ld_ptr_sub (F:=F) ho hti (zag h1) (zaq h2) (by rw [zbP];exact hle);refine h9.conv ?_
       have hl1:l1.length=u.sz:=by
        have:=(zhI h8).1;rw [zbP,zar] at this;exact this
       have h10:((EV.avL cs).drop k).take u.sz=EV.avL l1:=by
        rw [zqU,h7,zcJ,List.take_append_of_le_length (by rw [zbP];omega),List.take_of_length_le (by rw [zbP];omega)]
       rw [h10];intro w S H v hv;show VRel w S H (.d (encD u y)) v;rw [zbn h6.1];exact VRel.packn hv h8
      ·cases h
     ·cases h
   ·cases h
  ·cases h
 ·rename_i id te j k h1;split at h
  ·rename_i E te' l h2;obtain ⟨h3,h⟩:=zaa h;have:=Ty.eq_of_beq h3;subst this;split at h
   ·rename_i u h4;split at h
    ·rename_i y h5;obtain ⟨h6,h⟩:=zaa h;obtain ⟨h7,h⟩:=zaB h;obtain ⟨z,hz,_⟩:=zaF hT h4;exact ⟨_,RO.ld_eptr_sub ho hz (zag h1) (zaq h2) h7 h5 (by simpa using h6),h⟩
    ·cases h
   ·cases h
  ·cases h
 ·cases h
theorem zml (hT:TOK P TT) {t:Nat} {x i:Operand} (ho:o.op = .indexAddr t x i) (h:zpO TT s t x i K=some r):∃ z,RO P F s.st o z.av/\K z=some r:=by
 have key:∀ (ji:Int) (n:Nat),0<=ji/\ji < (n:Int)->ji=((ji.toNat:Nat):Int)/\ji.toNat < n:=fun ji n h=>by omega
 unfold zpO at h;split at h
 ·rename_i k j hi;have hi':=zag hi;split at h
  ·rename_i id off h1;split at h
   ·rename_i n e h2;split at h
    ·rename_i E h3;obtain ⟨h7,rfl⟩:=zaK hT h3;cases h5:Nat.beq E.size 1 with
     | true=>
      rw [h5] at h;simp only [cond_true] at h;split at h
      ·rename_i te h4;obtain ⟨h6,h⟩:=zaB h;have hsz:=Nat.eq_of_beq_eq_true h5;obtain ⟨hj,hjn⟩:=key j n h6;rw [show (EV.d (.int k) j).av = .d (.lit (.int k ((Int.toNat j:Nat):Int))) by rw [<- hj];rfl] at hi';have:=RO.idx_ptr (F:=F) ho (zeh hT h2) h7.ti (zag h1) hi' (by simpa using hjn);rw [hsz,Nat.mul_one] at this;exact ⟨EV.vptr id off n te (Int.toNat j),this,h⟩
      ·cases h
     | false=>
      rw [h5] at h;simp only [cond_false] at h;split at h
      ·rename_i m e2 h8;split at h
       ·rename_i E2 h9;split at h
        ·rename_i te h10;obtain ⟨h11,h⟩:=zaa h;simp only [Bool.and_eq_true] at h11;have hsm:=Nat.eq_of_beq_eq_true h11.2;obtain ⟨h6,h⟩:=zaB h;obtain ⟨hj,hjn⟩:=key j n h6;rw [show (EV.d (.int k) j).av = .d (.lit (.int k ((Int.toNat j:Nat):Int))) by rw [<- hj];rfl] at hi';have:=RO.idx_ptr (F:=F) ho (zeh hT h2) h7.ti (zag h1) hi' (by simpa using hjn);rw [hsm] at this;exact ⟨EV.vptr id off (n * m) te (Int.toNat j * m),this,h⟩
        ·cases h
       ·cases h
      ·cases h
    ·cases h
   ·cases h
  ·rename_i id off n te q h1;split at h
   ·rename_i m e h2;split at h
    ·rename_i E h3;obtain ⟨h7,rfl⟩:=zaK hT h3;obtain ⟨h5,h⟩:=zaa h;have hsz:=Nat.eq_of_beq_eq_true h5;obtain ⟨h6,h⟩:=zaB h;obtain ⟨hj,hjn⟩:=key j m h6;rw [show (EV.d (.int k) j).av = .d (.lit (.int k ((Int.toNat j:Nat):Int))) by rw [<- hj];rfl] at hi';have:=RO.idx_ptr (F:=F) (off:=off+q) ho (zeh hT h2) h7.ti (zag h1) hi' (by simpa using hjn);rw [hsz,Nat.mul_one,Nat.add_assoc] at this;exact ⟨EV.vptr id off n te (q+Int.toNat j),this,h⟩
    ·cases h
   ·cases h
  ·cases h
 ·cases h
theorem zlq (hT:TOK P TT) {t:Nat} {x:Operand} (ho:o.op = .load t x) (h:znx TT s t x K=some r):∃ z,RO P F s.st o z.av/\K z=some r:=by
 unfold znx at h;split at h
 ·rename_i id off n te j h1;split at h
  ·rename_i T cs h2;split at h
   ·rename_i e h3;obtain ⟨he,rfl⟩:=zaK hT h3;cases hg:e.ag with
    | true=>rw [hg] at h;cases h
    | false=>
     rw [hg] at h;simp only [cond_false] at h;split at h
     ·rename_i l h4;obtain ⟨h5,h⟩:=zaB h;obtain ⟨d,hd,hda⟩:=he.ti.un;obtain ⟨_,_,h6⟩:=zgi h4;have h7:=h6 j h5;rw [List.getElem?_drop] at h7;exact ⟨_,RO.ld_ptr ho hd (by rw [hda,hg]) (zag h1) (zaq h2) (by rw [zjq,h7];rfl),h⟩
     ·cases h
   ·cases h
  ·cases h
 ·cases h
theorem znz {x:Operand} {i:Nat} (ho:o.op = .extract x i) (h:zsf s x i K=some r):∃ z,RO P F s.st o z.av/\K z=some r:=by
 unfold zsf at h;split at h
 ·rename_i l h1;split at h
  ·rename_i y h2;exact ⟨_,RO.extract ho (zag h1) (by rw [zjq,h2];rfl),h⟩
  ·cases h
 ·cases h
theorem zga {x:Option Operand} {d v:Int} (h:zoN s x d=some v):bndR s.st x v d:=by
 unfold zoN at h;unfold bndR;split at h
 ·cases h;rfl
 ·split at h
  ·rename_i h1;cases h;exact zag h1
  ·cases h
theorem znl (hT:TOK P TT) {t:Nat} {x:Operand} {lo hi:Option Operand} (ho:o.op = .slice t x lo hi none) (h:zr9 TT s t x lo hi K=some r):∃ z,RO P F s.st o z.av/\K z=some r:=by
 unfold zr9 at h;split at h
 ·rename_i te l h1;split at h
  ·rename_i e h2;split at h
   ·rename_i te' h3;obtain ⟨h4,h⟩:=zaa h;simp only [Bool.and_eq_true] at h4;have:=Ty.eq_of_beq h4.1;subst this;split at h
    ·rename_i i j h5 h6;obtain ⟨h7,h⟩:=zaB h;obtain ⟨z,hz,_⟩:=zaF hT h3;have hs:=zah hT h2;have h5:=zga h5;have h6:=zga h6;refine ⟨_,?_,h⟩;have hx:=zag h1;cases lo with
     | some a=>cases hi with
      | some b=>exact RO.sl_lh (α:=te'.den) ho hs hz hx h5 h6 h7
      | none=>
       have h6:j=_:=h6;subst h6;exact RO.sl_l (α:=te'.den) ho hs hz hx h5 ⟨h7.1,h7.2.1⟩
     | none=>
      have h5:i=0:=h5;subst h5;cases hi with
      | some b=>exact RO.sl_h (α:=te'.den) ho hs hz hx h6 h7.2
      | none=>have:=h4.2;cases this
    ·cases h
   ·cases h
  ·cases h
 ·rename_i a h1;obtain ⟨h2,h⟩:=zaa h;split at h
  ·rename_i i j h5 h6;obtain ⟨h7,h⟩:=zaB h;exact ⟨_,RO.sl_str ho (zhT hT h2) (zag h1) (zga h5) (zga h6) h7,h⟩
  ·cases h
 ·rename_i h1;split at h
  ·rename_i b;split at h
   ·rename_i e he;split at h
    ·rename_i te hte;split at h
     ·rename_i v hv;obtain ⟨h0,hk⟩:=zaB h;subst h0;obtain ⟨k1,rfl⟩:=zaK hT hte;exact ⟨.nil,RO.slnil_h ho (zah hT he) k1.ti (zag h1) (zag hv),hk⟩
     ·cases h
    ·cases h
   ·cases h
  ·cases h
 ·cases h
theorem zkC:∀ {l:List Operand} {xs:List EV},zh6 s l=some xs->Evs s.st l (EV.avL xs)
 | [],xs,h=>by cases h;rfl
 | x::l,xs,h=>by
  simp only [zh6] at h;split at h
  ·rename_i v h1;split at h
   ·rename_i m h2;cases h;exact ⟨zag h1,zkC h2⟩
   ·cases h
  ·cases h
theorem znj {x:Operand} (ho:o.op = .nilCheck x) (h:zr8 s x K=some r):∃ z,RO P F s.st o z.av/\K z=some r:=by
 unfold zr8 at h;split at h
 ·rename_i h1;exact ⟨_,RO.nilCheck ho (zag h1) (.inl ⟨_,_,rfl⟩),h⟩
 ·rename_i h1;exact ⟨_,RO.nilCheck ho (zag h1) (.inr (.inl ⟨_,rfl⟩)),h⟩
 ·rename_i h1;exact ⟨_,RO.nilCheck ho (zag h1) (.inr (.inr (.inl ⟨_,_,_,_,rfl⟩))),h⟩
 ·rename_i h1;exact ⟨_,RO.nilCheck ho (zag h1) (.inr (.inr (.inr ⟨_,_,rfl⟩))),h⟩
 ·rename_i u t h1;cases hc:u.chain with
  | false=>rw [hc] at h;cases h
  | true=>
   rw [hc] at h;simp only [cond_true] at h;obtain ⟨hm,h⟩:=zaB h;exact ⟨_,RO.nilTree ho (zag h1) (zqr hc hm),h⟩
 ·cases h
theorem zmf (hT:TOK P TT) {t u:Nat} {x:Operand} (ho:o.op = .convert t u x) (h:zpH TT s t u x K=some r):∃ z,RO P F s.st o z.av/\K z=some r:=by
 unfold zpH at h;split at h
 ·rename_i n h1;split at h
  ·rename_i h2 h3;obtain ⟨g1,rfl⟩:=zaK hT h2;obtain ⟨g2,g3⟩:=zaK hT h3;cases g3;obtain ⟨d,hd,_⟩:=g1.ti.un;exact ⟨_,RO.conv_int ho ⟨d,hd⟩ g2.td (zag h1),h⟩
  ·rename_i h2 h3;obtain ⟨g1,rfl⟩:=zaK hT h2;obtain ⟨g2,g3⟩:=zaK hT h3;cases g3;obtain ⟨d,hd,_⟩:=g1.ti.un;obtain ⟨hn,h⟩:=zaB h;exact ⟨EV.d .str [UInt8.ofNat n.toNat],RO.conv_str ho ⟨d,hd⟩ g2.td (zag h1) hn,h⟩
  ·cases h
 ·rename_i id h1;split at h
  ·rename_i E l h3;split at h
   ·rename_i e h2;obtain ⟨h4,h⟩:=zaa h;simp only [Bool.and_eq_true] at h4;refine ⟨EV.d .str (bstr l),?_,h⟩;have := @RO.conv_bytes P F s.st o t u e x id E (Ty.den (.int .u8)) (encI (.int .u8)) l (fun y:Int=>y) (fun _=>rfl) rfl ho (zah hT h2) (zrA hT h4.1) (zhT hT h4.2) (zag h1) (zaq h3);have e1:strOfNums (l.map fun y:Int=>y)=⟨⟨bstr l⟩⟩:=by
     rw [List.map_id'];rfl
    rw [e1] at this;exact this
   ·cases h
  ·cases h
 ·cases h
theorem conD {z:Value} {t:Ty} {x:t.den} (h:EV.con z = .d t x) (w:World) (S:Nat->Prop):DRel w S (encD t x) z:=by
 have h1:=zn4 z;rw [h] at h1;have h1:AV.d (encD t x)=avc z:=h1;cases z with
 | bool b=>injection h1 with h1;rw [h1];exact .lit _ rfl
 | int k n=>injection h1 with h1;rw [h1];exact .lit _ rfl
 | string b=>injection h1 with h1;rw [h1];exact .lit _ rfl
 | agg cs=>cases h
 | slice a n c=>rcases a with _ | a<;>rcases n with _ | n<;>rcases c with _ | c<;>cases h
 | _=>cases h
theorem zmo (hT:TOK P TT) {t:Nat} {x y:Operand} {cm:Bool} (ho:o.op = .lookup t x y cm) (h:zpR TT s t x y cm K=some r):∃ z,RO P F s.st o z.av/\K z=some r:=by
 unfold zpR at h;split at h
 ·rename_i kt et hm;split at h
  ·rename_i id hx;split at h
   ·rename_i T k ks v vs he;obtain ⟨hk,h⟩:=zaa h;rw [Bool.and_eq_true] at hk;obtain ⟨hk,hze⟩:=hk;split at h
    ·rename_i yv hy;split at h
     ·rename_i key hkey;have SKk:=zlW hT hk hm;obtain ⟨_,_,_,z,hti,hz⟩:=zk3 hT hze;have hy':=zag hy;rw [zby hkey] at hy';have main:=RO.lookup (P:=P) (F:=F) (α:=k.den) (β:=v.den) (ks:=ks) (vs:=vs) (k:=key) (z0:=v.dflt) cm ho (zhB hT hm) SKk hti hz (zag hx) (zaq he) hy';cases cm with
      | true=>exact ⟨EV.tup [.d v (mget ks vs key v.dflt),.d .bool (mhas ks key)],main,h⟩
      | false=>exact ⟨EV.d v (mget ks vs key v.dflt),main,h⟩
     ·cases h
    ·cases h
   ·cases h
  ·cases h
 ·cases h
theorem zmk (hT:TOK P TT) {t:Nat} {x hi mx:Operand} (ho:o.op = .slice t x none (some hi) (some mx)) (h:zpN TT s t x hi mx K=some r):∃ z,RO P F s.st o z.av/\K z=some r:=by
 unfold zpN at h;split at h
 ·rename_i te l i j h1 h5 h6;split at h
  ·rename_i e h2;split at h
   ·rename_i te' h3;obtain ⟨h4,h8⟩:=zaa h;clear h;have:=Ty.eq_of_beq h4;subst this;obtain ⟨⟨h9,h7⟩,h10⟩:=zaB h8;subst h9;obtain ⟨z,hz,_⟩:=zaF hT h3;exact ⟨_,RO.sl_hm (α:=te.den) ho (zah hT h2) hz (zag h1) (zag h5) (zag h6) h7,h10⟩
   ·cases h
  ·cases h
 ·cases h
theorem RO.max3 {σ:St} {k:IntKind} {m n p:Int} {x y z:Operand} {ts:Array TypeId} (ho:o.op = .call { callee := .builtin .max,args:=#[x,y,z],argTypes:=ts })
  (hx:σ.ev x=some (.d (.lit (.int k m)))) (hy:σ.ev y=some (.d (.lit (.int k n)))) (hz:σ.ev z=some (.d (.lit (.int k p)))):RO P F σ o (.d (.lit (.int k (imax (imax m n) p)))):=fun H a w r=>
 ⟨.int k (imax (imax m n) p),fun w' _=>by
  unfold imax;by_cases c1:m < n
  ·by_cases c2:n < p<;>simp [execOp,ho,resolve,invoke,builtin,Builtin.max_,Builtin.max2,r.lit hx,r.lit hy,r.lit hz,c1,c2]
  ·by_cases c2:m < p<;>simp [execOp,ho,resolve,invoke,builtin,Builtin.max_,Builtin.max2,r.lit hx,r.lit hy,r.lit hz,c1,c2],.d _ _ (.lit _ rfl)⟩
theorem zgd (hT:TOK P TT) (h:evRO TT s o.op K=some r):∃ z,RO P F s.st o z.av/\K z=some r:=by
 unfold evRO at h;split at h
 ·rename_i x ho;split at h
  ·rename_i v h1;exact ⟨_,RO.move ho (zag h1),h⟩
  ·cases h
 ·rename_i x ho;split at h
  ·rename_i v h1;exact ⟨_,RO.assign ho (zag h1),h⟩
  ·cases h
 ·rename_i ho;exact zjE hT ho h
 ·rename_i ho;exact zoQ ho h
 ·rename_i c ho;split at h
  ·rename_i x t h1 h2 h3;refine znw hT ?_ h;rw [ho];obtain ⟨cc,ca,ct⟩:=c;simp only at h1 h2 h3;subst h1;rw [show ca=#[x] from Array.ext' h2,show ct=#[t] from Array.ext' h3]
  ·rename_i x y h1 h2;unfold ztn at h;split at h
   ·rename_i j m k n hx hy;obtain ⟨hjk,h⟩:=zaa h;have hjk:=of_decide_eq_true hjk;subst hjk;refine ⟨_,RO.min (ts:=c.argTypes) ?_ (zag hx) (zag hy),h⟩;rw [ho];obtain ⟨cc,ca,ct⟩:=c;simp only at h1 h2;subst h1;rw [show ca=#[x,y] from Array.ext' h2]
   ·cases h
  ·rename_i x y h1 h2;unfold ztm at h;split at h
   ·rename_i j m k n hx hy;obtain ⟨hjk,h⟩:=zaa h;have hjk:=of_decide_eq_true hjk;subst hjk;refine ⟨_,RO.max (ts:=c.argTypes) ?_ (zag hx) (zag hy),h⟩;rw [ho];obtain ⟨cc,ca,ct⟩:=c;simp only at h1 h2;subst h1;rw [show ca=#[x,y] from Array.ext' h2]
   ·cases h
  ·rename_i x y z h1 h2;unfold zrG at h;split at h
   ·rename_i j m k n l p hx hy hz;obtain ⟨hjk,h⟩:=zaa h;simp only [Bool.and_eq_true] at hjk;have hjk1:=of_decide_eq_true hjk.1;have hjk2:=of_decide_eq_true hjk.2;subst hjk1;subst hjk2;refine ⟨_,RO.max3 (ts:=c.argTypes) ?_ (zag hx) (zag hy) (zag hz),h⟩;rw [ho];obtain ⟨cc,ca,ct⟩:=c;simp only at h1 h2;subst h1;rw [show ca=#[x,y,z] from Array.ext' h2]
   ·cases h
  ·rename_i x t h1 h2 h3;split at h
   ·rename_i e hx he;refine ⟨_,RO.cap_nil ?_ (zah hT he) (zag hx),h⟩;rw [ho];obtain ⟨cc,ca,ct⟩:=c;simp only at h1 h2 h3;subst h1;rw [show ca=#[x] from Array.ext' h2,show ct=#[t] from Array.ext' h3]
   ·cases h
  ·cases h
 ·rename_i t x i ho;cases hb:zrJ s x i with
  | true=>rw [hb] at h;exact zml hT ho h
  | false=>rw [hb] at h;exact znv hT ho h
 ·rename_i t x i ho;split at h
  ·rename_i a k j h1 h2;obtain ⟨h3,h⟩:=zaa h;obtain ⟨h4,h⟩:=zaB h;exact ⟨_,RO.idx_str ho (zhT hT h3) (zag h1) (zag h2) h4,h⟩
  ·cases h
 ·rename_i ho;exact znu hT ho h
 ·rename_i ho;exact zlo hT ho h
 ·rename_i t x ho;cases hb:zoh s x with
  | true=>rw [hb] at h;exact zlq hT ho h
  | false=>rw [hb] at h;exact zmn hT ho h
 ·rename_i ho;exact znz ho h
 ·rename_i ho;exact znl hT ho h
 ·rename_i ho;exact zmk hT ho h
 ·rename_i f fs cs ho;split at h
  ·rename_i h1;split at h
   ·rename_i l h2;have:fs=#[]:=Array.ext' h1;subst this;exact ⟨_,RO.makeFunc ho (zkC h2),h⟩
   ·cases h
  ·cases h
 ·rename_i ho;exact znj ho h
 ·rename_i ho;exact zmo hT ho h
 ·rename_i ho;exact zmf hT ho h
 ·cases h
end
end
end Go.Ab
