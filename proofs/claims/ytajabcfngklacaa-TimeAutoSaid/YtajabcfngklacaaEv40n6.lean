import Derived.Test.YtajabcfngklacaaEv40n5
set_option linter.unusedVariables false
set_option linter.unusedSimpArgs false
set_option linter.unusedSectionVars false
namespace Go.Ab
noncomputable section
open Enc (enc)
variable {R:Type}
def bAt (a:List UInt8) (j:Int):Int:=((a.getD j.toNat 0).toNat:Int)
def zDz (TT:List TE) (s:ESt) (x:Operand) (t:Nat) (K:EV->Option R):Option R:=match s.ev x with
 | some (.d (.list _) l)=>match zgs TT t with
  | some _=>K (.d (.int .i64) (l.length:Int))
  | none=>none
 | some (.own id)=>match s.ent id with
  | some (.arr _ _ l)=>match zgs TT t with
   | some _=>K (.d (.int .i64) (l.length:Int))
   | none=>none
  | some (.box _ [.d (.list _) ks,.d (.list _) _])=>match mapT TT t with
   | some _=>K (.d (.int .i64) (ks.length:Int))
   | none=>none
  | _=>none
 | some (.view _ _ _ n)=>match zgs TT t with
  | some _=>K (.d (.int .i64) (n:Int))
  | none=>none
 | some .nil=>match zgs TT t with
  | some _=>K (.d (.int .i64) (0:Int))
  | none=>none
 | some (.d .str a)=>bif strT TT t then K (.d (.int .i64) (a.length:Int)) else none
 | _=>none
def zzX (a:Ty):Nat->List EV->Option (List a.den)
 | 0,_=>some []
 | n+1,.d t x::r=>match zcF t a x,zzX a n r with
  | some y,some l=>some (y::l)
  | _,_=>none
 | _,_=>none
theorem zvl {a:Ty}:∀ {n:Nat} {cs:List EV} {l:List a.den},zzX a n cs=some l->l.length=n/\n<=cs.length/\∀ j,j < n->cs[j]? =some (.d a (l.getD j a.dflt))
 | 0,cs,l,h=>by cases h;exact ⟨rfl,Nat.zero_le _,fun j b=>by omega⟩
 | n+1,[],l,h=>by simp [zzX] at h
 | n+1,c::r,l,h=>by
  cases c with
  | d t x=>
   simp only [zzX] at h;split at h
   ·rename_i y m e f;cases h;obtain ⟨rfl,rfl⟩:=zcf e;obtain ⟨g,i,k⟩:=zvl f;refine ⟨by simp [g],by simpa using i,fun j b => ?_⟩
    match j with
    | 0=>rfl
    | j+1=>simpa using k j (by omega)
   ·cases h
  | _=>simp [zzX] at h
def zAS (TT:List TE) (s:ESt) (t:Nat) (x i:Operand) (K:EV->Option R):Option R:=match s.ev i with
 | some (.d (.int _) j)=>match s.ev x with
  | some (.ptr id off)=>match arrT TT t with
   | some (n,e)=>match fT TT e with
    | some E=>bif Nat.beq E.size 1 then (match tyT TT e with
     | some a=>G (0<=j/\j < (n:Int)) (K (.vptr id off n a j.toNat))
     | none=>none) else (match arrT TT e with
     | some (m,e2)=>match fT TT e2 with
      | some b=>match tyT TT e2 with
       | some a=>bif Nat.beq b.size 1 && Nat.beq E.size m then G (0<=j/\j < (n:Int)) (K (.vptr id off (n * m) a (j.toNat * m))) else none
       | none=>none
      | none=>none
     | none=>none)
    | none=>none
   | none=>none
  | some (.vptr id off n a q)=>match arrT TT t with
   | some (m,e)=>match fT TT e with
    | some E=>bif Nat.beq E.size 1 then G (0<=j/\j < (m:Int)) (K (.vptr id off n a (q+j.toNat))) else none
    | none=>none
   | none=>none
  | _=>none
 | _=>none
def zC1 (s:ESt) (x i:Operand):Bool:=match s.ev x with
 | some (.vptr _ _ _ _ _)=>true
 | some (.ptr _ _)=>(match i with
  | .const _=>false
  | _=>true)
 | _=>false
def zDy (TT:List TE) (s:ESt) (t:Nat) (x i:Operand) (K:EV->Option R):Option R:=match s.ev i with
 | some (.d (.int _) j)=>match s.ev x with
  | some (.d (.list b) l)=>match zgs TT t with
   | some e=>match tyT TT e with
    | some c=>bif Ty.beq c b then G (0<=j/\j < (l.length:Int)) (K (.addr b (ix l j))) else none
    | none=>none
   | none=>none
  | some (.own id)=>match s.ent id with
   | some (.arr _ b l)=>match zgs TT t with
    | some e=>match tyT TT e with
     | some c=>bif Ty.beq c b then G (0<=j/\j < (l.length:Int)) (K (.eptr id b j.toNat 0)) else none
     | none=>none
    | none=>none
   | _=>none
  | some (.view id b q n)=>match zgs TT t with
   | some e=>match tyT TT e with
    | some c=>bif Ty.beq c b then G (0<=j/\j < (n:Int)) (K (.eptr id b (q+j.toNat) 0)) else none
    | none=>none
   | none=>none
  | some (.addr tx a)=>match arrT TT t with
   | some (n,e)=>match tyT TT e with
    | some b=>match zcF tx (vecT b n) a with
     | some v=>G (0<=j/\j < (n:Int)) (K (.addr b (vget b n v j.toNat)))
     | none=>none
    | none=>none
   | none=>none
  | some (.ptr id off)=>match arrT TT t with
   | some (n,e)=>match fT TT e with
    | some E=>match j with
     | .ofNat d=>bif Nat.blt d n then K (.ptr id (off+d * E.size)) else none
     | _=>none
    | none=>none
   | none=>none
  | _=>none
 | _=>none
def zDx (TT:List TE) (s:ESt) (st:Nat) (x:Operand) (i:Nat) (K:EV->Option R):Option R:=match fldT TT st i with
 | some (off,_,e)=>match s.ev x with
  | some (.ptr id k)=>K (.ptr id (k+off))
  | some (.eptr id te j k)=>K (.eptr id te j (k+off))
  | some (.addr tx a)=>match e.ty with
   | some u=>match zu5 tx a off u with
    | some y=>bif tx.agg then K (.addr u y) else none
    | none=>none
   | none=>none
  | _=>none
 | none=>none
def zx4 (TT:List TE) (s:ESt) (st:Nat) (x:Operand) (i:Nat) (K:EV->Option R):Option R:=match fldT TT st i with
 | some (off,_,e)=>match s.ev x with
  | some (.agg l)=>bif e.ag then none else match l[off]? with
   | some c=>K c
   | none=>none
  | some (.d tx a)=>bif e.ag then none else match e.ty with
   | some u=>match zu5 tx a off u with
    | some y=>bif tx.agg then K (.d u y) else none
    | none=>none
   | none=>none
  | _=>none
 | none=>none
def zAU (TT:List TE) (s:ESt) (t:Nat) (x:Operand) (K:EV->Option R):Option R:=match s.ev x with
 | some (.addr tx a)=>match tyT TT t with
  | some u=>bif Ty.beq u tx then K (.d tx a) else none
  | none=>none
 | some (.ptr id k)=>match s.ent id with
  | some (.box _ cs)=>match fT TT t with
   | some e=>bif e.ag then (match e.ty with
     | some u=>match zrC u (cs.drop k) with
      | some (y,_)=>bif u.agg && Nat.ble (k+u.sz) cs.length then K (.d u y) else none
      | none=>none
     | none=>none)
    else match cs[k]? with
     | some c=>K c
     | none=>none
   | none=>none
  | _=>none
 | some (.eptr id te j k)=>match s.ent id with
  | some (.arr _ te' l)=>bif Ty.beq te te' then (match tyT TT t with
   | some u=>match zu5 te' (l.getD j te'.dflt) k u with
    | some y=>bif Nat.ble (k+u.sz) te.sz then G (j < l.length) (K (.d u y)) else none
    | none=>none
   | none=>none) else none
  | _=>none
 | _=>none
def zx8 (TT:List TE) (s:ESt) (t:Nat) (x:Operand) (K:EV->Option R):Option R:=match s.ev x with
 | some (.vptr id off n te j)=>match s.ent id with
  | some (.box _ cs)=>match fT TT t with
   | some e=>bif e.ag then none else (match zzX te n (cs.drop off) with
    | some l=>G (j < n) (K (.d te (l.getD j te.dflt)))
    | none=>none)
   | none=>none
  | _=>none
 | _=>none
def zy6 (s:ESt) (x:Operand):Bool:=match s.ev x with
 | some (.vptr ..)=>true
 | _=>false
def zDB (s:ESt) (x:Operand) (i:Nat) (K:EV->Option R):Option R:=match s.ev x with
 | some (.tup l)=>match l[i]? with
  | some y=>K y
  | none=>none
 | _=>none
def zDv (TT:List TE) (s:ESt) (t:Nat) (x:Operand) (lo a:Option Operand) (K:EV->Option R):Option R:=bif Nat.beq s.n 0 && Nat.beq s.n 1 then K .any else none
def zrv (s:ESt):List Operand->Option (List EV)
 | []=>some []
 | x::r=>match s.ev x with
  | some v=>match zrv s r with
   | some l=>some (v::l)
   | none=>none
  | none=>none
def zDu (s:ESt) (x:Operand) (K:EV->Option R):Option R:=match s.ev x with
 | some (.ptr i k)=>K (.ptr i k)
 | some (.addr t a)=>K (.addr t a)
 | some (.eptr i t j k)=>K (.eptr i t j k)
 | some (.fn f c)=>K (.fn f c)
 | some (.d (.tree u) t)=>bif u.chain then G (t.isMk=true) (K (.addr (zjS u) (zDS u t))) else none
 | _=>none
def bstr (l:List Int):List UInt8:=l.map fun n=>UInt8.ofNat n.toNat
def u8T (TT:List TE) (id:Nat):Bool:=match fT TT id with
 | some ⟨_,.int .u8,_,_,_,_,_⟩=>true
 | _=>false
theorem zCQ {P:Program} {TT:List TE} {id:Nat} (a:TOK P TT) (h:u8T TT id=true):P.underlying id=some (.int .u8):=by
 unfold u8T at h;split at h
 ·rename_i b;obtain ⟨c,d⟩:=zdf a b;cases d;exact c.td
 ·cases h
def zAO (TT:List TE) (s:ESt) (t u:Nat) (x:Operand) (K:EV->Option R):Option R:=match s.ev x with
 | some (.d (.int _) n)=>match fT TT t,fT TT u with
  | some _,some ⟨_,.int k,_,_,_,_,_⟩=>K (.d (.int k) (k.wrap n))
  | some _,some ⟨_,.str,_,_,_,_,_⟩=>G (0<=n/\n < 128) (K (.d .str [UInt8.ofNat n.toNat]))
  | _,_=>none
 | some (.own id)=>match s.ent id with
  | some (.arr _ (.int .u8) l)=>match zgs TT t with
   | some e=>bif u8T TT e && strT TT u then K (.d .str (bstr l)) else none
   | none=>none
  | _=>none
 | _=>none
def imin (m n:Int):Int:=if n < m then n else m
def imax (m n:Int):Int:=if m < n then n else m
def zET (s:ESt) (x y:Operand) (K:EV->Option R):Option R:=match s.ev x,s.ev y with
 | some (.d (.int j) m),some (.d (.int k) n)=>bif decide (j=k) then K (.d (.int j) (imin m n)) else none
 | _,_=>none
def zES (s:ESt) (x y:Operand) (K:EV->Option R):Option R:=match s.ev x,s.ev y with
 | some (.d (.int j) m),some (.d (.int k) n)=>bif decide (j=k) then K (.d (.int j) (imax m n)) else none
 | _,_=>none
def zCY (s:ESt) (x y z:Operand) (K:EV->Option R):Option R:=match s.ev x,s.ev y,s.ev z with
 | some (.d (.int j) m),some (.d (.int k) n),some (.d (.int l) p)=>bif decide (j=k) && decide (j=l) then K (.d (.int j) (imax (imax m n) p)) else none
 | _,_,_=>none
def zAV (TT:List TE) (s:ESt) (t:Nat) (x y:Operand) (cm:Bool) (K:EV->Option R):Option R:=bif Nat.beq s.n 0 && Nat.beq s.n 1 then K .any else none
def zAR (TT:List TE) (s:ESt) (t:Nat) (x a b:Operand) (K:EV->Option R):Option R:=bif Nat.beq s.n 0 && Nat.beq s.n 1 then K .any else none
def evRO (TT:List TE) (s:ESt) (b:Op) (K:EV->Option R):Option R:=match b with
 | .move x=>match s.ev x with
  | some v=>K v
  | none=>none
 | .assign x=>match s.ev x with
  | some v=>K v
  | none=>none
 | .binOp b t x y _=>zCb TT s b t x y K
 | .unOp b _ x=>evUn s b x K
 | .call c=>match c.callee,c.args.toList,c.argTypes.toList with
  | .builtin .len,[x],[t]=>zDz TT s x t K
  | .builtin .min,[x,y],_=>zET s x y K
  | .builtin .max,[x,y],_=>zES s x y K
  | .builtin .max,[x,y,z],_=>zCY s x y z K
  | .builtin .cap,[x],[t]=>match s.ev x,zgs TT t with
   | some .nil,some _=>K (.d (.int .i64) (0:Int))
   | _,_=>none
  | _,_,_=>none
 | .indexAddr t x i=>bif zC1 s x i then zAS TT s t x i K else zDy TT s t x i K
 | .index t x i=>match s.ev x,s.ev i with
  | some (.d .str a),some (.d (.int _) j)=>bif strT TT t then G (0<=j/\j < (a.length:Int)) (K (.d (.int .u8) (bAt a j))) else none
  | _,_=>none
 | .fieldAddr st x i=>zDx TT s st x i K
 | .field st x i=>zx4 TT s st x i K
 | .load t x=>bif zy6 s x then zx8 TT s t x K else zAU TT s t x K
 | .extract x i=>zDB s x i K
 | .slice t x lo d none=>zDv TT s t x lo d K
 | .slice t x none (some d) (some mx)=>zAR TT s t x d mx K
 | .makeFunc (.func f) fs cs=>match fs.toList with
  | []=>match zrv s cs.toList with
   | some l=>K (.fn f l)
   | none=>none
  | _=>none
 | .nilCheck x=>zDu s x K
 | .lookup t x y cm=>zAV TT s t x y cm K
 | .convert t u x=>zAO TT s t u x K
 | _=>none
theorem RO.len_view {P:Program} {F:Fr} {σ:St} {o:Oper} {x:Operand} {t e:TypeId} {id sz q n:Nat} (j:o.op = .call { callee := .builtin .len,args:=#[x],argTypes:=#[t] }) (k:P.underlying t=some (.slice e))
  (l:σ.ev x=some (.view id sz q n)):RO P F σ o (.d (.lit (.int .i64 (n:Nat)))):=fun H a w r=>by
 have i:=r.ev l;obtain ⟨g,c,d⟩:∃ g c,a.eval x = .slice g n c:=by
  generalize a.eval x=u at i;cases i with
  | view _ _ _ _ s _ h p=>
   rcases p with ⟨_,m,_,f⟩ | ⟨b,o0,n0,c0,c,a0,_,_,f,_⟩
   ·exact ⟨none,0,by rw [m,f]⟩
   ·exact ⟨_,c,f⟩
 exact ⟨.int .i64 n,fun w' _=>by simp [execOp,j,resolve,invoke,builtin,Builtin.len_,run_underlying k,d,goInt],.d _ _ (.lit _ rfl)⟩
theorem RO.idx_view {P:Program} {F:Fr} {σ:St} {o:Oper} {t e:TypeId} {x i:Operand} {k:IntKind} {j:Int} {id sz q n:Nat} {dsc:Bool} {bytes:Nat} {z:Value}
  (p:o.op = .indexAddr t x i) (s:P.underlying t=some (.slice e)) (v:TI P e dsc sz bytes z)
  (y:σ.ev x=some (.view id sz q n)) (A:σ.ev i=some (.d (.lit (.int k j)))) (E:0<=j/\j < (n:Int)):RO P F σ o (.eptr id sz (q+j.toNat) 0):=fun H a w r=>by
 have g:=r.ev y;have d:=r.lit A;obtain ⟨m,rfl⟩:∃ m:Nat,j=m:=⟨j.toNat,by omega⟩;have B:m < n:=by omega
 generalize C:a.eval x=u at g;cases g with
 | view _ _ _ _ I _ h D=>
  rcases D with ⟨_,_,_,l⟩ | ⟨b,o0,n0,c0,c,a0,h1,h2,l,_,_,f⟩
  ·omega
  ·subst h1;have f:=f (by omega);subst f;subst l;refine ⟨.pointer (some ⟨b,o0+q * sz+m * sz,none⟩),fun w' _ => ?_,?_⟩
   ·simp [execOp,p,Instr.indexAt,C,d,asIntOf,run_underlying s,B,v.size,zgJ]
   ·have:=VRel.eptr (w:=w) (S:=Sh F.X σ.ent H w) (H:=H) id sz (q+m) 0 b o0 n0 c0 h (by omega);have e:o0+((q+m) * sz+0)=o0+q * sz+m * sz:=by rw [Nat.add_mul];omega
    rw [e] at this;simpa using this
section
variable {P:Program} {TT:List TE} {F:Fr} {s:ESt} {o:Oper} {K:EV->Option R} {r:R}
theorem zad {c:Bool} {x:Option R} {r:R} (h:(bif c then x else none)=some r):c=true/\x=some r:=by
 cases c
 ·cases h
 ·exact ⟨rfl,h⟩
theorem zx7 (d:TOK P TT) {x:Operand} {t:Nat} (f:o.op = .call { callee := .builtin .len,args:=#[x],argTypes:=#[t] }) (h:zDz TT s x t K=some r):∃ z,RO P F s.st o z.av/\K z=some r:=by
 unfold zDz at h;split at h
 ·rename_i g l c;split at h
  ·rename_i e b;exact ⟨_,RO.len (α:=g.den) (l:=l) f (zbv d b) (za0 c),h⟩
  ·cases h
 ·rename_i id c;split at h
  ·rename_i E g l i;split at h
   ·rename_i e b;exact ⟨_,RO.len_own (α:=g.den) (l:=l) f (zbv d b) (za0 c) (zbw i),h⟩
   ·cases h
  ·rename_i T k ks v vs i;split at h
   ·rename_i p b;exact ⟨_,RO.len_map (α:=k.den) (β:=v.den) (ks:=ks) (vs:=vs) f (zBl d b) (za0 c) (zbw i),h⟩
   ·cases h
  ·cases h
 ·rename_i id g q n c;split at h
  ·rename_i e b;exact ⟨_,RO.len_view f (zbv d b) (za0 c),h⟩
  ·cases h
 ·rename_i c;split at h
  ·rename_i e b;exact ⟨_,RO.len_nil f (zbv d b) (za0 c),h⟩
  ·cases h
 ·rename_i a c;obtain ⟨b,h⟩:=zad h;exact ⟨_,RO.len_str f (zuy d b) (za0 c),h⟩
 ·cases h
theorem zx6 (c:TOK P TT) {t:Nat} {x i:Operand} (B:o.op = .indexAddr t x i) (h:zDy TT s t x i K=some r):∃ z,RO P F s.st o z.av/\K z=some r:=by
 unfold zDy at h;split at h
 ·rename_i k j C;split at h
  ·rename_i f l d;split at h
   ·rename_i e g;split at h
    ·rename_i m p;obtain ⟨w,h⟩:=zad h;have:=Ty.eq_of_beq w;subst this;obtain ⟨u,h⟩:=zdU h;obtain ⟨z,y,_⟩:=zeD c p;exact ⟨_,RO.idx (α:=m.den) B (zbv c g) y (za0 d) (za0 C) u,h⟩
    ·cases h
   ·cases h
  ·rename_i id d;split at h
   ·rename_i E f l D;split at h
    ·rename_i e g;split at h
     ·rename_i m p;obtain ⟨w,h⟩:=zad h;have:=Ty.eq_of_beq w;subst this;obtain ⟨u,h⟩:=zdU h;obtain ⟨z,y,_⟩:=zeD c p;exact ⟨_,RO.idx_own (α:=m.den) B (zbv c g) y (za0 d) (zbw D) (za0 C) u,h⟩
     ·cases h
    ·cases h
   ·cases h
  ·rename_i id f q n d;split at h
   ·rename_i e g;split at h
    ·rename_i m p;obtain ⟨w,h⟩:=zad h;have:=Ty.eq_of_beq w;subst this;obtain ⟨u,h⟩:=zdU h;obtain ⟨z,y,_⟩:=zeD c p;exact ⟨_,RO.idx_view B (zbv c g) y (za0 d) (za0 C) u,h⟩
    ·cases h
   ·cases h
  ·rename_i J a d;split at h
   ·rename_i n e g;split at h
    ·rename_i f p;split at h
     ·rename_i v H;obtain ⟨u,h⟩:=zdU h;obtain ⟨rfl,rfl⟩:=zcf H;obtain ⟨z,y,_⟩:=zeD c p
      letI A:Arr (vecT f n).den f.den:=⟨n,fun b i=>vget f n b i.toNat,fun b i I d=>zrZ f n b i.toNat (by omega)⟩
      exact ⟨_,RO.idx_arr (β:=(vecT f n).den) (α:=f.den) B (zmm c g) y rfl (za0 d) (za0 C) u,h⟩
     ·cases h
    ·cases h
   ·cases h
  ·rename_i id off d;split at h
   ·rename_i n e g;split at h
    ·rename_i E p;split at h
     ·rename_i j L;obtain ⟨w,h⟩:=zad h;obtain ⟨u,rfl⟩:=zdf c p;exact ⟨_,RO.idx_ptr B (zmm c g) u.ti (za0 d) (za0 C) w,h⟩
     ·cases h
    ·cases h
   ·cases h
  ·cases h
 ·cases h
theorem zx5 (m:TOK P TT) {st:Nat} {x:Operand} {i:Nat} (g:o.op = .fieldAddr st x i) (h:zDx TT s st x i K=some r):∃ z,RO P F s.st o z.av/\K z=some r:=by
 unfold zDx at h;split at h
 ·rename_i off A e d;obtain ⟨d,v,rfl⟩:=zxa m d;split at h
  ·rename_i f;exact ⟨_,RO.fld_ptr g d (za0 f),h⟩
  ·rename_i f;exact ⟨_,RO.fld_eptr g d (za0 f),h⟩
  ·rename_i n a f;split at h
   ·rename_i u p;split at h
    ·rename_i y q;obtain ⟨w,h⟩:=zad h;have hs:=zrU q;have b:=za0 f;simp only [EV.av] at b;rw [zfi w] at b;obtain ⟨B,k,C,D⟩:=v.ty u p;refine ⟨_,?_,h⟩;show RO P F s.st o (.addr (encD u y));cases j:u.agg with
     | false=>
      refine RO.fld_addr g d b (c:=encD u y) ?_ (ziq j y);rw [ziq j,zxz j] at hs;have:((encD n a).cells.drop off)[0]? =some (encD u y):=by
       have t:=congrArg (fun l=>l[0]?) hs;simpa using t
      simpa using this
     | true=>
      rw [zfi j];exact RO.fld_addr_agg g d b (by rw [k];exact hs) (by rw [zbg,k])
    ·cases h
   ·cases h
  ·cases h
 ·cases h
theorem zvZ (v:TOK P TT) {st:Nat} {x:Operand} {i:Nat} (q:o.op = .field st x i) (h:zx4 TT s st x i K=some r):∃ z,RO P F s.st o z.av/\K z=some r:=by
 unfold zx4 at h;split at h
 ·rename_i off E e j;obtain ⟨j,n,rfl⟩:=zxa v j;split at h
  ·rename_i l k;cases b:e.ag with
   | true=>rw [b] at h;cases h
   | false=>
    rw [b] at h;simp only [cond_false] at h;split at h
    ·rename_i c m;obtain ⟨d,p,g⟩:=n.ti.un;refine ⟨_,RO.field q j (za0 k) ?_ p (by rw [g,b]),h⟩;rw [zhf,List.getElem?_map,m];rfl
    ·cases h
  ·rename_i w a k;cases b:e.ag with
   | true=>rw [b] at h;cases h
   | false=>
    rw [b] at h;simp only [cond_false] at h;split at h
    ·rename_i u m;split at h
     ·rename_i y A;obtain ⟨C,h⟩:=zad h;have hs:=zrU A;have f:=za0 k;simp only [EV.av] at f;rw [zfi C] at f;obtain ⟨D,H,I,J⟩:=n.ty u m;have t:u.agg=false:=by rw [<- D];exact b
      obtain ⟨d,p,g⟩:=n.ti.un;refine ⟨_,RO.field_d q j f (c:=encD u y) ?_ p (by rw [g,b]),h⟩;rw [ziq t,zxz t] at hs;have:((encD w a).cells.drop off)[0]? =some (encD u y):=by
       have B:=congrArg (fun l=>l[0]?) hs;simpa using B
      simpa using this
     ·cases h
    ·cases h
  ·cases h
 ·cases h
theorem zts (l:List EV) (k:Nat):(EV.avL l)[k]? =(l[k]?).map EV.av:=by rw [zhf,List.getElem?_map]
theorem zhe (l:List EV):(EV.avL l).length=l.length:=by rw [zhf,List.length_map]
theorem zB2 (l:List EV) (k:Nat):(EV.avL l).drop k=EV.avL (l.drop k):=by rw [zhf,zhf,List.map_drop]
theorem zw5 (I:TOK P TT) {t:Nat} {x:Operand} (m:o.op = .load t x) (h:zAU TT s t x K=some r):∃ z,RO P F s.st o z.av/\K z=some r:=by
 unfold zAU at h;split at h
 ·rename_i tx a f;split at h
  ·rename_i u i;obtain ⟨n,h⟩:=zad h;have:=Ty.eq_of_beq n;subst this;obtain ⟨z,D,_⟩:=zeD I i;refine ⟨_,?_,h⟩;show RO P F s.st o (.d (encD u a));cases B:u.agg with
   | false=>
    obtain ⟨d,N,b⟩:=D.un;rw [B] at b;exact RO.ld_addr m N b (za0 f) (ziq B a)
   | true=>
    have g:=za0 f;simp only [EV.av] at g;rw [zfi B] at g ⊢;exact RO.ld_addr_agg m D B g (zbg u a)
  ·cases h
 ·rename_i id k f;split at h
  ·rename_i T cs i;split at h
   ·rename_i e n;obtain ⟨O,rfl⟩:=zdf I n;cases C:e.ag with
    | false=>
     rw [C] at h;simp only [cond_false] at h;split at h
     ·rename_i c p;obtain ⟨d,N,b⟩:=O.ti.un;exact ⟨_,RO.ld_ptr m N (by rw [b,C]) (za0 f) (zbw i) (by rw [zts,p];rfl),h⟩
     ·cases h
    | true=>
     rw [C] at h;simp only [cond_true] at h;split at h
     ·rename_i u p;split at h
      ·rename_i y R J;obtain ⟨A,h⟩:=zad h;simp only [Bool.and_eq_true] at A;obtain ⟨g1,Z,g3,g4⟩:=O.ty u p;have q:=O.ti;rw [C,Z] at q;have L:k+u.sz<=cs.length:=by simpa using A.2
       obtain ⟨l1,Q,U⟩:=zh1 J;refine ⟨_,?_,h⟩;have X:=RO.ld_ptr_sub (F:=F) m q (za0 f) (zbw i) (by rw [zhe];exact L);refine X.conv ?_
       have Y:l1.length=u.sz:=by
        have:=(zqT U).1;rw [zhe,zbg] at this;exact this
       have M:((EV.avL cs).drop k).take u.sz=EV.avL l1:=by
        rw [zB2,Q,zi2,List.take_append_of_le_length (by rw [zhe];omega),List.take_of_length_le (by rw [zhe];omega)]
       rw [M];intro w S H v V;show VRel w S H (.d (encD u y)) v;rw [zfi A.1];exact VRel.packn V U
      ·cases h
     ·cases h
   ·cases h
  ·cases h
 ·rename_i id te j k f;split at h
  ·rename_i E W l i;obtain ⟨n,h⟩:=zad h;have:=Ty.eq_of_beq n;subst this;split at h
   ·rename_i u p;split at h
    ·rename_i y J;obtain ⟨A,h⟩:=zad h;obtain ⟨Q,h⟩:=zdU h;obtain ⟨z,D,_⟩:=zeD I p;exact ⟨_,RO.ld_eptr_sub m D (za0 f) (zbw i) Q J (by simpa using A),h⟩
    ·cases h
   ·cases h
  ·cases h
 ·cases h
theorem zw3 (g:TOK P TT) {t:Nat} {x i:Operand} (C:o.op = .indexAddr t x i) (h:zAS TT s t x i K=some r):∃ z,RO P F s.st o z.av/\K z=some r:=by
 have c:∀ (f:Int) (n:Nat),0<=f/\f < (n:Int)->f=((f.toNat:Nat):Int)/\f.toNat < n:=fun f n h=>by omega
 unfold zAS at h;split at h
 ·rename_i k j I;have a:=za0 I;split at h
  ·rename_i id off y;split at h
   ·rename_i n e A;split at h
    ·rename_i E D;obtain ⟨B,rfl⟩:=zdf g D;cases p:Nat.beq E.size 1 with
     | true=>
      rw [p] at h;simp only [cond_true] at h;split at h
      ·rename_i l L;obtain ⟨u,h⟩:=zdU h;have d:=Nat.eq_of_beq_eq_true p;obtain ⟨v,b⟩:=c j n u;rw [show (EV.d (.int k) j).av = .d (.lit (.int k ((Int.toNat j:Nat):Int))) by rw [<- v];rfl] at a;have:=RO.idx_ptr (F:=F) C (zmm g A) B.ti (za0 y) a (by simpa using b);rw [d,Nat.mul_one] at this;exact ⟨EV.vptr id off n l (Int.toNat j),this,h⟩
      ·cases h
     | false=>
      rw [p] at h;simp only [cond_false] at h;split at h
      ·rename_i m M N;split at h
       ·rename_i O Q;split at h
        ·rename_i l J;obtain ⟨w,h⟩:=zad h;simp only [Bool.and_eq_true] at w;have H:=Nat.eq_of_beq_eq_true w.2;obtain ⟨u,h⟩:=zdU h;obtain ⟨v,b⟩:=c j n u;rw [show (EV.d (.int k) j).av = .d (.lit (.int k ((Int.toNat j:Nat):Int))) by rw [<- v];rfl] at a;have:=RO.idx_ptr (F:=F) C (zmm g A) B.ti (za0 y) a (by simpa using b);rw [H] at this;exact ⟨EV.vptr id off (n * m) l (Int.toNat j * m),this,h⟩
        ·cases h
       ·cases h
      ·cases h
    ·cases h
   ·cases h
  ·rename_i id off n l q y;split at h
   ·rename_i m e A;split at h
    ·rename_i E D;obtain ⟨B,rfl⟩:=zdf g D;obtain ⟨p,h⟩:=zad h;have d:=Nat.eq_of_beq_eq_true p;obtain ⟨u,h⟩:=zdU h;obtain ⟨v,b⟩:=c j m u;rw [show (EV.d (.int k) j).av = .d (.lit (.int k ((Int.toNat j:Nat):Int))) by rw [<- v];rfl] at a;have:=RO.idx_ptr (F:=F) (off:=off+q) C (zmm g A) B.ti (za0 y) a (by simpa using b);rw [d,Nat.mul_one,Nat.add_assoc] at this;exact ⟨EV.vptr id off n l (q+Int.toNat j),this,h⟩
    ·cases h
   ·cases h
  ·cases h
 ·cases h
theorem zv1 (f:TOK P TT) {t:Nat} {x:Operand} (g:o.op = .load t x) (h:zx8 TT s t x K=some r):∃ z,RO P F s.st o z.av/\K z=some r:=by
 unfold zx8 at h;split at h
 ·rename_i id off n y j i;split at h
  ·rename_i T cs k;split at h
   ·rename_i e m;obtain ⟨q,rfl⟩:=zdf f m;cases a:e.ag with
    | true=>rw [a] at h;cases h
    | false=>
     rw [a] at h;simp only [cond_false] at h;split at h
     ·rename_i l p;obtain ⟨u,h⟩:=zdU h;obtain ⟨d,v,b⟩:=q.ti.un;obtain ⟨_,_,w⟩:=zvl p;have c:=w j u;rw [List.getElem?_drop] at c;exact ⟨_,RO.ld_ptr g v (by rw [b,a]) (za0 i) (zbw k) (by rw [zts,c];rfl),h⟩
     ·cases h
   ·cases h
  ·cases h
 ·cases h
theorem zya {x:Operand} {i:Nat} (a:o.op = .extract x i) (h:zDB s x i K=some r):∃ z,RO P F s.st o z.av/\K z=some r:=by
 unfold zDB at h;split at h
 ·rename_i l b;split at h
  ·rename_i y c;exact ⟨_,RO.extract a (za0 b) (by rw [zts,c];rfl),h⟩
  ·cases h
 ·cases h
theorem zx1 (c:TOK P TT) {t:Nat} {x:Operand} {lo b:Option Operand} (d:o.op = .slice t x lo b none) (h:zDv TT s t x lo b K=some r):∃ z,RO P F s.st o z.av/\K z=some r:=by unfold zDv at h;obtain ⟨a,g⟩:=zad h;simp only [Bool.and_eq_true] at a;have e:=Nat.eq_of_beq_eq_true a.1;have f:=Nat.eq_of_beq_eq_true a.2;omega
theorem zvd:∀ {l:List Operand} {xs:List EV},zrv s l=some xs->Evs s.st l (EV.avL xs)
 | [],xs,h=>by cases h;rfl
 | x::l,xs,h=>by
  simp only [zrv] at h;split at h
  ·rename_i v a;split at h
   ·rename_i m b;cases h;exact ⟨za0 a,zvd b⟩
   ·cases h
  ·cases h
theorem zxZ {x:Operand} (b:o.op = .nilCheck x) (h:zDu s x K=some r):∃ z,RO P F s.st o z.av/\K z=some r:=by
 unfold zDu at h;split at h
 ·rename_i a;exact ⟨_,RO.nilCheck b (za0 a) (.inl ⟨_,_,rfl⟩),h⟩
 ·rename_i a;exact ⟨_,RO.nilCheck b (za0 a) (.inr (.inl ⟨_,rfl⟩)),h⟩
 ·rename_i a;exact ⟨_,RO.nilCheck b (za0 a) (.inr (.inr (.inl ⟨_,_,_,_,rfl⟩))),h⟩
 ·rename_i a;exact ⟨_,RO.nilCheck b (za0 a) (.inr (.inr (.inr ⟨_,_,rfl⟩))),h⟩
 ·rename_i u t a;cases c:u.chain with
  | false=>rw [c] at h;cases h
  | true=>
   rw [c] at h;simp only [cond_true] at h;obtain ⟨d,h⟩:=zdU h;exact ⟨_,RO.nilTree b (za0 a) (zBs c d),h⟩
 ·cases h
theorem zw0 (a:TOK P TT) {t u:Nat} {x:Operand} (g:o.op = .convert t u x) (h:zAO TT s t u x K=some r):∃ z,RO P F s.st o z.av/\K z=some r:=by
 unfold zAO at h;split at h
 ·rename_i n f;split at h
  ·rename_i b c;obtain ⟨i,rfl⟩:=zdf a b;obtain ⟨j,k⟩:=zdf a c;cases k;obtain ⟨d,m,_⟩:=i.ti.un;exact ⟨_,RO.conv_int g ⟨d,m⟩ j.td (za0 f),h⟩
  ·rename_i b c;obtain ⟨i,rfl⟩:=zdf a b;obtain ⟨j,k⟩:=zdf a c;cases k;obtain ⟨d,m,_⟩:=i.ti.un;obtain ⟨v,h⟩:=zdU h;exact ⟨EV.d .str [UInt8.ofNat n.toNat],RO.conv_str g ⟨d,m⟩ j.td (za0 f) v,h⟩
  ·cases h
 ·rename_i id f;split at h
  ·rename_i E l c;split at h
   ·rename_i e b;obtain ⟨p,h⟩:=zad h;simp only [Bool.and_eq_true] at p;refine ⟨EV.d .str (bstr l),?_,h⟩;have := @RO.conv_bytes P F s.st o t u e x id E (Ty.den (.int .u8)) (encI (.int .u8)) l (fun y:Int=>y) (fun _=>rfl) rfl g (zbv a b) (zCQ a p.1) (zuy a p.2) (za0 f) (zbw c);have q:strOfNums (l.map fun y:Int=>y)=⟨⟨bstr l⟩⟩:=by
     rw [List.map_id'];rfl
    rw [q] at this;exact this
   ·cases h
  ·cases h
 ·cases h
theorem zw6 (b:TOK P TT) {t:Nat} {x y:Operand} {cm:Bool} (c:o.op = .lookup t x y cm) (h:zAV TT s t x y cm K=some r):∃ z,RO P F s.st o z.av/\K z=some r:=by unfold zAV at h;obtain ⟨a,f⟩:=zad h;simp only [Bool.and_eq_true] at a;have d:=Nat.eq_of_beq_eq_true a.1;have e:=Nat.eq_of_beq_eq_true a.2;omega
theorem zw2 (d:TOK P TT) {t:Nat} {x b c:Operand} (e:o.op = .slice t x none (some b) (some c)) (h:zAR TT s t x b c K=some r):∃ z,RO P F s.st o z.av/\K z=some r:=by unfold zAR at h;obtain ⟨a,i⟩:=zad h;simp only [Bool.and_eq_true] at a;have f:=Nat.eq_of_beq_eq_true a.1;have g:=Nat.eq_of_beq_eq_true a.2;omega
theorem RO.max3 {σ:St} {k:IntKind} {m n p:Int} {x y z:Operand} {ts:Array TypeId} (c:o.op = .call { callee := .builtin .max,args:=#[x,y,z],argTypes:=ts })
  (d:σ.ev x=some (.d (.lit (.int k m)))) (e:σ.ev y=some (.d (.lit (.int k n)))) (f:σ.ev z=some (.d (.lit (.int k p)))):RO P F σ o (.d (.lit (.int k (imax (imax m n) p)))):=fun H a w r=>
 ⟨.int k (imax (imax m n) p),fun w' _=>by
  unfold imax;by_cases c1:m < n
  ·by_cases b:n < p<;>simp [execOp,c,resolve,invoke,builtin,Builtin.max_,Builtin.max2,r.lit d,r.lit e,r.lit f,c1,b]
  ·by_cases b:m < p<;>simp [execOp,c,resolve,invoke,builtin,Builtin.max_,Builtin.max2,r.lit d,r.lit e,r.lit f,c1,b],.d _ _ (.lit _ rfl)⟩
theorem zo6 (u:TOK P TT) (h:evRO TT s o.op K=some r):∃ z,RO P F s.st o z.av/\K z=some r:=by
 unfold evRO at h;split at h
 ·rename_i x b;split at h
  ·rename_i v g;exact ⟨_,RO.move b (za0 g),h⟩
  ·cases h
 ·rename_i x b;split at h
  ·rename_i v g;exact ⟨_,RO.assign b (za0 g),h⟩
  ·cases h
 ·rename_i b;exact ztK u b h
 ·rename_i b;exact zzQ b h
 ·rename_i c b;split at h
  ·rename_i x t g q A;refine zx7 u ?_ h;rw [b];obtain ⟨J,w,C⟩:=c;simp only at g q A;subst g;rw [show w=#[x] from Array.ext' q,show C=#[t] from Array.ext' A]
  ·rename_i x y g q;unfold zET at h;split at h
   ·rename_i j m k n B D;obtain ⟨d,h⟩:=zad h;have d:=of_decide_eq_true d;subst d;refine ⟨_,RO.min (ts:=c.argTypes) ?_ (za0 B) (za0 D),h⟩;rw [b];obtain ⟨J,w,C⟩:=c;simp only at g q;subst g;rw [show w=#[x,y] from Array.ext' q]
   ·cases h
  ·rename_i x y g q;unfold zES at h;split at h
   ·rename_i j m k n B D;obtain ⟨d,h⟩:=zad h;have d:=of_decide_eq_true d;subst d;refine ⟨_,RO.max (ts:=c.argTypes) ?_ (za0 B) (za0 D),h⟩;rw [b];obtain ⟨J,w,C⟩:=c;simp only at g q;subst g;rw [show w=#[x,y] from Array.ext' q]
   ·cases h
  ·rename_i x y z g q;unfold zCY at h;split at h
   ·rename_i j m k n l p B D L;obtain ⟨d,h⟩:=zad h;simp only [Bool.and_eq_true] at d;have E:=of_decide_eq_true d.1;have H:=of_decide_eq_true d.2;subst E;subst H;refine ⟨_,RO.max3 (ts:=c.argTypes) ?_ (za0 B) (za0 D) (za0 L),h⟩;rw [b];obtain ⟨J,w,C⟩:=c;simp only at g q;subst g;rw [show w=#[x,y,z] from Array.ext' q]
   ·cases h
  ·rename_i x t g q A;split at h
   ·rename_i e B M;refine ⟨_,RO.cap_nil ?_ (zbv u M) (za0 B),h⟩;rw [b];obtain ⟨J,w,C⟩:=c;simp only at g q A;subst g;rw [show w=#[x] from Array.ext' q,show C=#[t] from Array.ext' A]
   ·cases h
  ·cases h
 ·rename_i t x i b;cases I:zC1 s x i with
  | true=>rw [I] at h;exact zw3 u b h
  | false=>rw [I] at h;exact zx6 u b h
 ·rename_i t x i b;split at h
  ·rename_i a k j g q;obtain ⟨A,h⟩:=zad h;obtain ⟨O,h⟩:=zdU h;exact ⟨_,RO.idx_str b (zuy u A) (za0 g) (za0 q) O,h⟩
  ·cases h
 ·rename_i b;exact zx5 u b h
 ·rename_i b;exact zvZ u b h
 ·rename_i t x b;cases I:zy6 s x with
  | true=>rw [I] at h;exact zv1 u b h
  | false=>rw [I] at h;exact zw5 u b h
 ·rename_i b;exact zya b h
 ·rename_i b;exact zx1 u b h
 ·rename_i b;exact zw2 u b h
 ·rename_i f N cs b;split at h
  ·rename_i g;split at h
   ·rename_i l q;have:N=#[]:=Array.ext' g;subst this;exact ⟨_,RO.makeFunc b (zvd q),h⟩
   ·cases h
  ·cases h
 ·rename_i b;exact zxZ b h
 ·rename_i b;exact zw6 u b h
 ·rename_i b;exact zw0 u b h
 ·cases h
end
end
end Go.Ab
