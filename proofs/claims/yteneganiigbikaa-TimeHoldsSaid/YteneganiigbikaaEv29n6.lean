/- Operations that read, computed: the function. -/
import Derived.Test.YteneganiigbikaaEv29n5
set_option linter.unusedVariables false
set_option linter.unusedSimpArgs false
set_option linter.unusedSectionVars false
namespace Go.Ab
noncomputable section
open Enc (enc)
variable {R:Type}
def bAt (a:List UInt8) (j:Int):Int:=((a.getD j.toNat 0).toNat:Int)
def zso (TT:List TE) (s:ESt) (x:Operand) (t:Nat) (K:EV->Option R):Option R:=match s.ev x with
 | some (.d (.list _) l)=>match zbQ TT t with
  | some _=>K (.d (.int .i64) (l.length:Int))
  | none=>none
 | some (.own id)=>match s.ent id with
  | some (.arr _ _ l)=>match zbQ TT t with
   | some _=>K (.d (.int .i64) (l.length:Int))
   | none=>none
  | some (.box _ [.d (.list _) ks,.d (.list _) _])=>match mapT TT t with
   | some _=>K (.d (.int .i64) (ks.length:Int))
   | none=>none
  | _=>none
 | some .nil=>match zbQ TT t with
  | some _=>K (.d (.int .i64) (0:Int))
  | none=>none
 | some (.d .str a)=>bif strT TT t then K (.d (.int .i64) (a.length:Int)) else none
 | _=>none
def zno (te:Ty):Nat->List EV->Option (List te.den)
 | 0,_=>some []
 | n+1,.d t x::r=>match za1 t te x,zno te n r with
  | some y,some l=>some (y::l)
  | _,_=>none
 | _,_=>none
theorem zg5 {te:Ty}:∀ {n:Nat} {cs:List EV} {l:List te.den},zno te n cs=some l->l.length=n/\n<=cs.length/\∀ j,j < n->cs[j]? =some (.d te (l.getD j te.dflt))
 | 0,cs,l,h=>by cases h;exact ⟨rfl,Nat.zero_le _,fun j hj=>by omega⟩
 | n+1,[],l,h=>by simp [zno] at h
 | n+1,c::r,l,h=>by
  cases c with
  | d t x=>
   simp only [zno] at h
   split at h
   ·rename_i y l' hy hl
    cases h;obtain ⟨rfl,rfl⟩:=zaH hy;obtain ⟨h1,h2,h3⟩:=zg5 hl;refine ⟨by simp [h1],by simpa using h2,fun j hj => ?_⟩
    match j with
    | 0=>rfl
    | j+1=>simpa using h3 j (by omega)
   ·cases h
  | _=>simp [zno] at h
def zql (TT:List TE) (s:ESt) (t:Nat) (x i:Operand) (K:EV->Option R):Option R:=match s.ev i with
 | some (.d (.int _) j)=>match s.ev x with
  | some (.ptr id off)=>match arrT TT t with
   | some (n,e)=>match fT TT e with
    | some E=>match tyT TT e with
     | some te=>bif Nat.beq E.size 1 then G (0<=j/\j < (n:Int)) (K (.vptr id off n te j.toNat)) else none
     | none=>none
    | none=>none
   | none=>none
  | _=>none
 | _=>none
def zr2 (s:ESt) (x i:Operand):Bool:=match i with
 | .const _=>false
 | _=>match s.ev x with
  | some (.ptr _ _)=>true
  | _=>false
def zsn (TT:List TE) (s:ESt) (t:Nat) (x i:Operand) (K:EV->Option R):Option R:=match s.ev i with
 | some (.d (.int _) j)=>match s.ev x with
  | some (.d (.list te) l)=>match zbQ TT t with
   | some e=>match tyT TT e with
    | some te'=>bif Ty.beq te' te then G (0<=j/\j < (l.length:Int)) (K (.addr te (ix l j))) else none
    | none=>none
   | none=>none
  | some (.own id)=>match s.ent id with
   | some (.arr _ te l)=>match zbQ TT t with
    | some e=>match tyT TT e with
     | some te'=>bif Ty.beq te' te then G (0<=j/\j < (l.length:Int)) (K (.eptr id te j.toNat 0)) else none
     | none=>none
    | none=>none
   | _=>none
  | some (.addr tx a)=>match arrT TT t with
   | some (n,e)=>match tyT TT e with
    | some te=>match za1 tx (vecT te n) a with
     | some v=>G (0<=j/\j < (n:Int)) (K (.addr te (vget te n v j.toNat)))
     | none=>none
    | none=>none
   | none=>none
  | some (.ptr id off)=>match arrT TT t with
   | some (n,e)=>match fT TT e with
    | some E=>match j with
     | .ofNat jn=>bif Nat.blt jn n then K (.ptr id (off+jn * E.size)) else none
     | _=>none
    | none=>none
   | none=>none
  | _=>none
 | _=>none
def zsm (TT:List TE) (s:ESt) (st:Nat) (x:Operand) (i:Nat) (K:EV->Option R):Option R:=match fldT TT st i with
 | some (off,_,e)=>match s.ev x with
  | some (.ptr id k)=>K (.ptr id (k+off))
  | some (.eptr id te j k)=>K (.eptr id te j (k+off))
  | some (.addr tx a)=>match e.ty with
   | some u=>match zk3 tx a off u with
    | some y=>bif tx.agg then K (.addr u y) else none
    | none=>none
   | none=>none
  | _=>none
 | none=>none
def zoa (TT:List TE) (s:ESt) (st:Nat) (x:Operand) (i:Nat) (K:EV->Option R):Option R:=match fldT TT st i with
 | some (off,_,e)=>match s.ev x with
  | some (.agg l)=>bif e.ag then none else match l[off]? with
   | some c=>K c
   | none=>none
  | some (.d tx a)=>bif e.ag then none else match e.ty with
   | some u=>match zk3 tx a off u with
    | some y=>bif tx.agg then K (.d u y) else none
    | none=>none
   | none=>none
  | _=>none
 | none=>none
def zqn (TT:List TE) (s:ESt) (t:Nat) (x:Operand) (K:EV->Option R):Option R:=match s.ev x with
 | some (.addr tx a)=>match tyT TT t with
  | some u=>bif Ty.beq u tx then K (.d tx a) else none
  | none=>none
 | some (.ptr id k)=>match s.ent id with
  | some (.box _ cs)=>match fT TT t with
   | some e=>bif e.ag then (match e.ty with
     | some u=>match ziW u (cs.drop k) with
      | some (y,_)=>bif u.agg && Nat.ble (k+u.sz) cs.length then K (.d u y) else none
      | none=>none
     | none=>none)
    else match cs[k]? with
     | some c=>K c
     | none=>none
   | none=>none
  | _=>none
 | some (.eptr id te j k)=>match s.ent id with
  | some (.arr _ te' l)=>bif Ty.beq te te' then (match tyT TT t with
   | some u=>match zk3 te' (l.getD j te'.dflt) k u with
    | some y=>bif Nat.ble (k+u.sz) te.sz then G (j < l.length) (K (.d u y)) else none
    | none=>none
   | none=>none) else none
  | _=>none
 | _=>none
def zoe (TT:List TE) (s:ESt) (t:Nat) (x:Operand) (K:EV->Option R):Option R:=match s.ev x with
 | some (.vptr id off n te j)=>match s.ent id with
  | some (.box _ cs)=>match fT TT t with
   | some e=>bif e.ag then none else (match zno te n (cs.drop off) with
    | some l=>G (j < n) (K (.d te (l.getD j te.dflt)))
    | none=>none)
   | none=>none
  | _=>none
 | _=>none
def zoZ (s:ESt) (x:Operand):Bool:=match s.ev x with
 | some (.vptr ..)=>true
 | _=>false
def zsq (s:ESt) (x:Operand) (i:Nat) (K:EV->Option R):Option R:=match s.ev x with
 | some (.tup l)=>match l[i]? with
  | some y=>K y
  | none=>none
 | _=>none
def zpn (s:ESt) (x:Option Operand) (d:Int):Option Int:=match x with
 | none=>some d
 | some o=>match s.ev o with
  | some (.d (.int .i64) v)=>some v
  | _=>none
def zsk (TT:List TE) (s:ESt) (t:Nat) (x:Operand) (lo hi:Option Operand) (K:EV->Option R):Option R:=match s.ev x with
 | some (.d (.list te) l)=>match zbQ TT t with
  | some e=>match tyT TT e with
   | some te'=>bif Ty.beq te' te && (lo.isSome || hi.isSome) then (match zpn s lo 0,zpn s hi (l.length:Int) with
    | some i,some j=>G (0<=i/\i<=j/\j<=(l.length:Int)) (K (.d (.list te) (cut l i j)))
    | _,_=>none) else none
   | none=>none
  | none=>none
 | some (.d .str a)=>bif strT TT t then (match zpn s lo 0,zpn s hi (a.length:Int) with
  | some i,some j=>G (0<=i/\i<=j/\j<=(a.length:Int)) (K (.d .str (cut a i j)))
  | _,_=>none) else none
 | some .nil=>match lo,hi with
  | none,some h=>match zbQ TT t with
   | some e=>match fT TT e with
    | some _=>match s.ev h with
     | some (.d (.int .i64) v)=>G (v=(0:Int)) (K .nil)
     | _=>none
    | none=>none
   | none=>none
  | _,_=>none
 | _=>none
def zjM (s:ESt):List Operand->Option (List EV)
 | []=>some []
 | x::r=>match s.ev x with
  | some v=>match zjM s r with
   | some l=>some (v::l)
   | none=>none
  | none=>none
def zsj (s:ESt) (x:Operand) (K:EV->Option R):Option R:=match s.ev x with
 | some (.ptr i k)=>K (.ptr i k)
 | some (.addr t a)=>K (.addr t a)
 | some (.eptr i t j k)=>K (.eptr i t j k)
 | some (.fn f c)=>K (.fn f c)
 | some (.d (.tree u) t)=>bif u.chain then G (t.isMk=true) (K (.addr (zd0 u) (zsB u t))) else none
 | _=>none
def bstr (l:List Int):List UInt8:=l.map fun n=>UInt8.ofNat n.toNat
def u8T (TT:List TE) (id:Nat):Bool:=match fT TT id with
 | some ⟨_,.int .u8,_,_,_,_,_⟩=>true
 | _=>false
theorem zrS {P:Program} {TT:List TE} {id:Nat} (hT:TOK P TT) (h:u8T TT id=true):P.underlying id=some (.int .u8):=by
 unfold u8T at h
 split at h
 ·rename_i he;obtain ⟨h1,h2⟩:=zbm hT he;cases h2;exact h1.td
 ·cases h
def zqe (TT:List TE) (s:ESt) (t u:Nat) (x:Operand) (K:EV->Option R):Option R:=match s.ev x with
 | some (.d (.int _) n)=>match fT TT t,fT TT u with
  | some _,some ⟨_,.int k,_,_,_,_,_⟩=>K (.d (.int k) (k.wrap n))
  | _,_=>none
 | some (.own id)=>match s.ent id with
  | some (.arr _ (.int .u8) l)=>match zbQ TT t with
   | some e=>bif u8T TT e && strT TT u then K (.d .str (bstr l)) else none
   | none=>none
  | _=>none
 | _=>none
def imin (m n:Int):Int:=if n < m then n else m
def imax (m n:Int):Int:=if m < n then n else m
def ztd (s:ESt) (x y:Operand) (K:EV->Option R):Option R:=match s.ev x,s.ev y with
 | some (.d (.int j) m),some (.d (.int k) n)=>bif decide (j=k) then K (.d (.int j) (imin m n)) else none
 | _,_=>none
def ztc (s:ESt) (x y:Operand) (K:EV->Option R):Option R:=match s.ev x,s.ev y with
 | some (.d (.int j) m),some (.d (.int k) n)=>bif decide (j=k) then K (.d (.int j) (imax m n)) else none
 | _,_=>none
def zqo (TT:List TE) (s:ESt) (t:Nat) (x y:Operand) (cm:Bool) (K:EV->Option R):Option R:=match mapT TT t with
 | some (kt,et)=>match s.ev x with
  | some (.own id)=>match s.ent id with
   | some (.box _ [.d (.list k) ks,.d (.list v) vs])=>bif skT TT t k && zrW TT et v then (match s.ev y with
    | some yv=>match yv.exact k with
     | some key=>match cm with
      | true=>K (.tup [.d v (mget ks vs key v.dflt),.d .bool (mhas ks key)])
      | false=>K (.d v (mget ks vs key v.dflt))
     | none=>none
    | none=>none) else none
   | _=>none
  | _=>none
 | none=>none
def zqk (TT:List TE) (s:ESt) (t:Nat) (x hi mx:Operand) (K:EV->Option R):Option R:=match s.ev x,s.ev hi,s.ev mx with
 | some (.d (.list te) l),some (.d (.int .i64) i),some (.d (.int .i64) j)=>match zbQ TT t with
  | some e=>match tyT TT e with
   | some te'=>bif Ty.beq te te' then G (i=j/\0<=i/\i<=(l.length:Int)) (K (.full te (cut l 0 i))) else none
   | none=>none
  | none=>none
 | _,_,_=>none
def evRO (TT:List TE) (s:ESt) (op:Op) (K:EV->Option R):Option R:=match op with
 | .move x=>match s.ev x with
  | some v=>K v
  | none=>none
 | .assign x=>match s.ev x with
  | some v=>K v
  | none=>none
 | .binOp op t x y _=>zrr TT s op t x y K
 | .unOp op _ x=>evUn s op x K
 | .call c=>match c.callee,c.args.toList,c.argTypes.toList with
  | .builtin .len,[x],[t]=>zso TT s x t K
  | .builtin .min,[x,y],_=>ztd s x y K
  | .builtin .max,[x,y],_=>ztc s x y K
  | .builtin .cap,[x],[t]=>match s.ev x,zbQ TT t with
   | some .nil,some _=>K (.d (.int .i64) (0:Int))
   | _,_=>none
  | _,_,_=>none
 | .indexAddr t x i=>bif zr2 s x i then zql TT s t x i K else zsn TT s t x i K
 | .index t x i=>match s.ev x,s.ev i with
  | some (.d .str a),some (.d (.int _) j)=>bif strT TT t then G (0<=j/\j < (a.length:Int)) (K (.d (.int .u8) (bAt a j))) else none
  | _,_=>none
 | .fieldAddr st x i=>zsm TT s st x i K
 | .field st x i=>zoa TT s st x i K
 | .load t x=>bif zoZ s x then zoe TT s t x K else zqn TT s t x K
 | .extract x i=>zsq s x i K
 | .slice t x lo hi none=>zsk TT s t x lo hi K
 | .slice t x none (some hi) (some mx)=>zqk TT s t x hi mx K
 | .makeFunc (.func f) fs cs=>match fs.toList with
  | []=>match zjM s cs.toList with
   | some l=>K (.fn f l)
   | none=>none
  | _=>none
 | .nilCheck x=>zsj s x K
 | .lookup t x y cm=>zqo TT s t x y cm K
 | .convert t u x=>zqe TT s t u x K
 | _=>none
section
variable {P:Program} {TT:List TE} {F:Fr} {s:ESt} {o:Oper} {K:EV->Option R} {r:R}
theorem zac {c:Bool} {x:Option R} {r:R} (h:(bif c then x else none)=some r):c=true/\x=some r:=by
 cases c
 ·cases h
 ·exact ⟨rfl,h⟩
theorem zod (hT:TOK P TT) {x:Operand} {t:Nat} (ho:o.op = .call { callee := .builtin .len,args:=#[x],argTypes:=#[t] }) (h:zso TT s x t K=some r):∃ z,RO P F s.st o z.av/\K z=some r:=by
 unfold zso at h
 split at h
 ·rename_i te l h1
  split at h
  ·rename_i e h2;exact ⟨_,RO.len (α:=te.den) (l:=l) ho (zan hT h2) (zam h1),h⟩
  ·cases h
 ·rename_i id h1
  split at h
  ·rename_i E te l h3
   split at h
   ·rename_i e h2;exact ⟨_,RO.len_own (α:=te.den) (l:=l) ho (zan hT h2) (zam h1) (zaF h3),h⟩
   ·cases h
  ·rename_i T k ks v vs h3
   split at h
   ·rename_i p h2;exact ⟨_,RO.len_map (α:=k.den) (β:=v.den) (ks:=ks) (vs:=vs) ho (zie hT h2) (zam h1) (zaF h3),h⟩
   ·cases h
  ·cases h
 ·rename_i h1
  split at h
  ·rename_i e h2;exact ⟨_,RO.len_nil ho (zan hT h2) (zam h1),h⟩
  ·cases h
 ·rename_i a h1;obtain ⟨h2,h⟩:=zac h;exact ⟨_,RO.len_str ho (ziv hT h2) (zam h1),h⟩
 ·cases h
theorem zoc (hT:TOK P TT) {t:Nat} {x i:Operand} (ho:o.op = .indexAddr t x i) (h:zsn TT s t x i K=some r):∃ z,RO P F s.st o z.av/\K z=some r:=by
 unfold zsn at h
 split at h
 ·rename_i k j hi
  split at h
  ·rename_i te l h1
   split at h
   ·rename_i e h2
    split at h
    ·rename_i te' h3;obtain ⟨h4,h⟩:=zac h;have:=Ty.eq_of_beq h4;subst this;obtain ⟨h5,h⟩:=zaU h;obtain ⟨z,hz,_⟩:=za4 hT h3;exact ⟨_,RO.idx (α:=te'.den) ho (zan hT h2) hz (zam h1) (zam hi) h5,h⟩
    ·cases h
   ·cases h
  ·rename_i id h1
   split at h
   ·rename_i E te l he
    split at h
    ·rename_i e h2
     split at h
     ·rename_i te' h3;obtain ⟨h4,h⟩:=zac h;have:=Ty.eq_of_beq h4;subst this;obtain ⟨h5,h⟩:=zaU h;obtain ⟨z,hz,_⟩:=za4 hT h3;exact ⟨_,RO.idx_own (α:=te'.den) ho (zan hT h2) hz (zam h1) (zaF he) (zam hi) h5,h⟩
     ·cases h
    ·cases h
   ·cases h
  ·rename_i tx a h1
   split at h
   ·rename_i n e h2
    split at h
    ·rename_i te h3
     split at h
     ·rename_i v hv;obtain ⟨h5,h⟩:=zaU h;obtain ⟨rfl,rfl⟩:=zaH hv;obtain ⟨z,hz,_⟩:=za4 hT h3
      letI A:Arr (vecT te n).den te.den:=⟨n,fun b i=>vget te n b i.toNat,fun b i h0 h1=>zi9 te n b i.toNat (by omega)⟩
      exact ⟨_,RO.idx_arr (β:=(vecT te n).den) (α:=te.den) ho (zhT hT h2) hz rfl (zam h1) (zam hi) h5,h⟩
     ·cases h
    ·cases h
   ·cases h
  ·rename_i id off h1
   split at h
   ·rename_i n e h2
    split at h
    ·rename_i E h3
     split at h
     ·rename_i j jn;obtain ⟨h4,h⟩:=zac h;obtain ⟨h5,rfl⟩:=zbm hT h3;exact ⟨_,RO.idx_ptr ho (zhT hT h2) h5.ti (zam h1) (zam hi) h4,h⟩
     ·cases h
    ·cases h
   ·cases h
  ·cases h
 ·cases h
theorem zob (hT:TOK P TT) {st:Nat} {x:Operand} {i:Nat} (ho:o.op = .fieldAddr st x i) (h:zsm TT s st x i K=some r):∃ z,RO P F s.st o z.av/\K z=some r:=by
 unfold zsm at h
 split at h
 ·rename_i off ft e hf;obtain ⟨hf,he,rfl⟩:=zkB hT hf
  split at h
  ·rename_i h1;exact ⟨_,RO.fld_ptr ho hf (zam h1),h⟩
  ·rename_i h1;exact ⟨_,RO.fld_eptr ho hf (zam h1),h⟩
  ·rename_i tx a h1
   split at h
   ·rename_i u h2
    split at h
    ·rename_i y h3;obtain ⟨h4,h⟩:=zac h;have hs:=zi2 h3;have h1':=zam h1;simp only [EV.av] at h1';rw [zbS h4] at h1';obtain ⟨g1,g2,g3,g4⟩:=he.ty u h2;refine ⟨_,?_,h⟩
     show RO P F s.st o (.addr (encD u y))
     cases hu:u.agg with
     | false=>
      refine RO.fld_addr ho hf h1' (c:=encD u y) ?_ (zcF hu y)
      rw [zcF hu,znF hu] at hs;have:((encD tx a).cells.drop off)[0]? =some (encD u y):=by
       have h5:=congrArg (fun l=>l[0]?) hs
       simpa using h5
      simpa using this
     | true=>
      rw [zbS hu];exact RO.fld_addr_agg ho hf h1' (by rw [g2];exact hs) (by rw [zaB,g2])
    ·cases h
   ·cases h
  ·cases h
 ·cases h
theorem zmd (hT:TOK P TT) {st:Nat} {x:Operand} {i:Nat} (ho:o.op = .field st x i) (h:zoa TT s st x i K=some r):∃ z,RO P F s.st o z.av/\K z=some r:=by
 unfold zoa at h
 split at h
 ·rename_i off ft e hf;obtain ⟨hf,he,rfl⟩:=zkB hT hf
  split at h
  ·rename_i l h1
   cases hg:e.ag with
   | true=>rw [hg] at h;cases h
   | false=>
    rw [hg] at h;simp only [cond_false] at h
    split at h
    ·rename_i c h2;obtain ⟨d,hd,hda⟩:=he.ti.un;refine ⟨_,RO.field ho hf (zam h1) ?_ hd (by rw [hda,hg]),h⟩
     rw [zdA,List.getElem?_map,h2];rfl
    ·cases h
  ·rename_i tx a h1
   cases hg:e.ag with
   | true=>rw [hg] at h;cases h
   | false=>
    rw [hg] at h;simp only [cond_false] at h
    split at h
    ·rename_i u h2
     split at h
     ·rename_i y h3;obtain ⟨h4,h⟩:=zac h;have hs:=zi2 h3;have h1':=zam h1;simp only [EV.av] at h1';rw [zbS h4] at h1';obtain ⟨g1,g2,g3,g4⟩:=he.ty u h2;have hu:u.agg=false:=by rw [<- g1];exact hg
      obtain ⟨d,hd,hda⟩:=he.ti.un;refine ⟨_,RO.field_d ho hf h1' (c:=encD u y) ?_ hd (by rw [hda,hg]),h⟩
      rw [zcF hu,znF hu] at hs;have:((encD tx a).cells.drop off)[0]? =some (encD u y):=by
       have h5:=congrArg (fun l=>l[0]?) hs
       simpa using h5
      simpa using this
     ·cases h
    ·cases h
  ·cases h
 ·cases h
theorem zkh (l:List EV) (k:Nat):(EV.avL l)[k]? =(l[k]?).map EV.av:=by rw [zdA,List.getElem?_map]
theorem zc4 (l:List EV):(EV.avL l).length=l.length:=by rw [zdA,List.length_map]
theorem zrn (l:List EV) (k:Nat):(EV.avL l).drop k=EV.avL (l.drop k):=by rw [zdA,zdA,List.map_drop]
theorem znc (hT:TOK P TT) {t:Nat} {x:Operand} (ho:o.op = .load t x) (h:zqn TT s t x K=some r):∃ z,RO P F s.st o z.av/\K z=some r:=by
 unfold zqn at h
 split at h
 ·rename_i tx a h1
  split at h
  ·rename_i u h2;obtain ⟨h3,h⟩:=zac h;have:=Ty.eq_of_beq h3;subst this;obtain ⟨z,hz,_⟩:=za4 hT h2;refine ⟨_,?_,h⟩
   show RO P F s.st o (.d (encD u a))
   cases hu:u.agg with
   | false=>
    obtain ⟨d,hd,hda⟩:=hz.un;rw [hu] at hda;exact RO.ld_addr ho hd hda (zam h1) (zcF hu a)
   | true=>
    have h1':=zam h1;simp only [EV.av] at h1';rw [zbS hu] at h1' ⊢;exact RO.ld_addr_agg ho hz hu h1' (zaB u a)
  ·cases h
 ·rename_i id k h1
  split at h
  ·rename_i T cs h2
   split at h
   ·rename_i e h3;obtain ⟨he,rfl⟩:=zbm hT h3
    cases hg:e.ag with
    | false=>
     rw [hg] at h;simp only [cond_false] at h
     split at h
     ·rename_i c h4;obtain ⟨d,hd,hda⟩:=he.ti.un;exact ⟨_,RO.ld_ptr ho hd (by rw [hda,hg]) (zam h1) (zaF h2) (by rw [zkh,h4];rfl),h⟩
     ·cases h
    | true=>
     rw [hg] at h;simp only [cond_true] at h
     split at h
     ·rename_i u h4
      split at h
      ·rename_i y rest h5;obtain ⟨h6,h⟩:=zac h;simp only [Bool.and_eq_true] at h6;obtain ⟨g1,g2,g3,g4⟩:=he.ty u h4;have hti:=he.ti;rw [hg,g2] at hti;have hle:k+u.sz<=cs.length:=by simpa using h6.2
       obtain ⟨l1,h7,h8⟩:=zdc h5;refine ⟨_,?_,h⟩
       have h9:=RO.ld_ptr_sub (F:=F) ho hti (zam h1) (zaF h2) (by rw [zc4];exact hle)
       refine h9.conv ?_
       have hl1:l1.length=u.sz:=by
        have:=(zik h8).1;rw [zc4,zaB] at this;exact this
       have h10:((EV.avL cs).drop k).take u.sz=EV.avL l1:=by
        rw [zrn,h7,zdz,List.take_append_of_le_length (by rw [zc4];omega),List.take_of_length_le (by rw [zc4];omega)]
       rw [h10];intro w S H v hv;show VRel w S H (.d (encD u y)) v;rw [zbS h6.1];exact VRel.packn hv h8
      ·cases h
     ·cases h
   ·cases h
  ·cases h
 ·rename_i id te j k h1
  split at h
  ·rename_i E te' l h2;obtain ⟨h3,h⟩:=zac h;have:=Ty.eq_of_beq h3;subst this
   split at h
   ·rename_i u h4
    split at h
    ·rename_i y h5;obtain ⟨h6,h⟩:=zac h;obtain ⟨h7,h⟩:=zaU h;obtain ⟨z,hz,_⟩:=za4 hT h4;exact ⟨_,RO.ld_eptr_sub ho hz (zam h1) (zaF h2) h7 h5 (by simpa using h6),h⟩
    ·cases h
   ·cases h
  ·cases h
 ·cases h
theorem znb (hT:TOK P TT) {t:Nat} {x i:Operand} (ho:o.op = .indexAddr t x i) (h:zql TT s t x i K=some r):∃ z,RO P F s.st o z.av/\K z=some r:=by
 unfold zql at h
 split at h
 ·rename_i k j hi
  split at h
  ·rename_i id off h1
   split at h
   ·rename_i n e h2
    split at h
    ·rename_i E h3
     split at h
     ·rename_i te h4;obtain ⟨h5,h⟩:=zac h;obtain ⟨h6,h⟩:=zaU h;obtain ⟨h7,rfl⟩:=zbm hT h3;have hsz:=Nat.eq_of_beq_eq_true h5;have key:∀ ji:Int,0<=ji/\ji < (n:Int)->ji=((ji.toNat:Nat):Int)/\ji.toNat < n:=fun ji h=>by omega
      obtain ⟨hj,hjn⟩:=key j h6;have hi':=zam hi;rw [show (EV.d (.int k) j).av = .d (.lit (.int k ((Int.toNat j:Nat):Int))) by rw [<- hj];rfl] at hi'
      have:=RO.idx_ptr (F:=F) ho (zhT hT h2) h7.ti (zam h1) hi' (by simpa using hjn)
      rw [hsz,Nat.mul_one] at this;exact ⟨EV.vptr id off n te (Int.toNat j),this,h⟩
     ·cases h
    ·cases h
   ·cases h
  ·cases h
 ·cases h
theorem zmf (hT:TOK P TT) {t:Nat} {x:Operand} (ho:o.op = .load t x) (h:zoe TT s t x K=some r):∃ z,RO P F s.st o z.av/\K z=some r:=by
 unfold zoe at h
 split at h
 ·rename_i id off n te j h1
  split at h
  ·rename_i T cs h2
   split at h
   ·rename_i e h3;obtain ⟨he,rfl⟩:=zbm hT h3
    cases hg:e.ag with
    | true=>rw [hg] at h;cases h
    | false=>
     rw [hg] at h;simp only [cond_false] at h
     split at h
     ·rename_i l h4;obtain ⟨h5,h⟩:=zaU h;obtain ⟨d,hd,hda⟩:=he.ti.un;obtain ⟨_,_,h6⟩:=zg5 h4;have h7:=h6 j h5;rw [List.getElem?_drop] at h7;exact ⟨_,RO.ld_ptr ho hd (by rw [hda,hg]) (zam h1) (zaF h2) (by rw [zkh,h7];rfl),h⟩
     ·cases h
   ·cases h
  ·cases h
 ·cases h
theorem zog {x:Operand} {i:Nat} (ho:o.op = .extract x i) (h:zsq s x i K=some r):∃ z,RO P F s.st o z.av/\K z=some r:=by
 unfold zsq at h
 split at h
 ·rename_i l h1
  split at h
  ·rename_i y h2;exact ⟨_,RO.extract ho (zam h1) (by rw [zkh,h2];rfl),h⟩
  ·cases h
 ·cases h
theorem zgZ {x:Option Operand} {d v:Int} (h:zpn s x d=some v):bndR s.st x v d:=by
 unfold zpn at h;unfold bndR
 split at h
 ·cases h;rfl
 ·split at h
  ·rename_i h1;cases h;exact zam h1
  ·cases h
theorem zn2 (hT:TOK P TT) {t:Nat} {x:Operand} {lo hi:Option Operand} (ho:o.op = .slice t x lo hi none) (h:zsk TT s t x lo hi K=some r):∃ z,RO P F s.st o z.av/\K z=some r:=by
 unfold zsk at h
 split at h
 ·rename_i te l h1
  split at h
  ·rename_i e h2
   split at h
   ·rename_i te' h3;obtain ⟨h4,h⟩:=zac h;simp only [Bool.and_eq_true] at h4;have:=Ty.eq_of_beq h4.1;subst this
    split at h
    ·rename_i i j h5 h6;obtain ⟨h7,h⟩:=zaU h;obtain ⟨z,hz,_⟩:=za4 hT h3;have hs:=zan hT h2;have h5:=zgZ h5;have h6:=zgZ h6;refine ⟨_,?_,h⟩
     have hx:=zam h1
     cases lo with
     | some a=>cases hi with
      | some b=>exact RO.sl_lh (α:=te'.den) ho hs hz hx h5 h6 h7
      | none=>
       have h6:j=_:=h6;subst h6;exact RO.sl_l (α:=te'.den) ho hs hz hx h5 ⟨h7.1,h7.2.1⟩
     | none=>
      have h5:i=0:=h5;subst h5
      cases hi with
      | some b=>exact RO.sl_h (α:=te'.den) ho hs hz hx h6 h7.2
      | none=>have:=h4.2;cases this
    ·cases h
   ·cases h
  ·cases h
 ·rename_i a h1;obtain ⟨h2,h⟩:=zac h
  split at h
  ·rename_i i j h5 h6;obtain ⟨h7,h⟩:=zaU h;exact ⟨_,RO.sl_str ho (ziv hT h2) (zam h1) (zgZ h5) (zgZ h6) h7,h⟩
  ·cases h
 ·rename_i h1
  split at h
  ·rename_i b
   split at h
   ·rename_i e he
    split at h
    ·rename_i te hte
     split at h
     ·rename_i v hv;obtain ⟨h0,hk⟩:=zaU h;subst h0;obtain ⟨k1,rfl⟩:=zbm hT hte;exact ⟨.nil,RO.slnil_h ho (zan hT he) k1.ti (zam h1) (zam hv),hk⟩
     ·cases h
    ·cases h
   ·cases h
  ·cases h
 ·cases h
theorem zlv:∀ {l:List Operand} {xs:List EV},zjM s l=some xs->Evs s.st l (EV.avL xs)
 | [],xs,h=>by cases h;rfl
 | x::l,xs,h=>by
  simp only [zjM] at h
  split at h
  ·rename_i v h1
   split at h
   ·rename_i m h2;cases h;exact ⟨zam h1,zlv h2⟩
   ·cases h
  ·cases h
theorem zn1 {x:Operand} (ho:o.op = .nilCheck x) (h:zsj s x K=some r):∃ z,RO P F s.st o z.av/\K z=some r:=by
 unfold zsj at h
 split at h
 ·rename_i h1;exact ⟨_,RO.nilCheck ho (zam h1) (.inl ⟨_,_,rfl⟩),h⟩
 ·rename_i h1;exact ⟨_,RO.nilCheck ho (zam h1) (.inr (.inl ⟨_,rfl⟩)),h⟩
 ·rename_i h1;exact ⟨_,RO.nilCheck ho (zam h1) (.inr (.inr (.inl ⟨_,_,_,_,rfl⟩))),h⟩
 ·rename_i h1;exact ⟨_,RO.nilCheck ho (zam h1) (.inr (.inr (.inr ⟨_,_,rfl⟩))),h⟩
 ·rename_i u t h1
  cases hc:u.chain with
  | false=>rw [hc] at h;cases h
  | true=>
   rw [hc] at h;simp only [cond_true] at h;obtain ⟨hm,h⟩:=zaU h;exact ⟨_,RO.nilTree ho (zam h1) (zqV hc hm),h⟩
 ·cases h
theorem zm5 (hT:TOK P TT) {t u:Nat} {x:Operand} (ho:o.op = .convert t u x) (h:zqe TT s t u x K=some r):∃ z,RO P F s.st o z.av/\K z=some r:=by
 unfold zqe at h
 split at h
 ·rename_i h1
  split at h
  ·rename_i h2 h3;obtain ⟨g1,rfl⟩:=zbm hT h2;obtain ⟨g2,g3⟩:=zbm hT h3
   cases g3;obtain ⟨d,hd,_⟩:=g1.ti.un;exact ⟨_,RO.conv_int ho ⟨d,hd⟩ g2.td (zam h1),h⟩
  ·cases h
 ·rename_i id h1
  split at h
  ·rename_i E l h3
   split at h
   ·rename_i e h2;obtain ⟨h4,h⟩:=zac h;simp only [Bool.and_eq_true] at h4;refine ⟨EV.d .str (bstr l),?_,h⟩
    have := @RO.conv_bytes P F s.st o t u e x id E (Ty.den (.int .u8)) (encI (.int .u8)) l (fun y:Int=>y) (fun _=>rfl) rfl ho (zan hT h2) (zrS hT h4.1) (ziv hT h4.2) (zam h1) (zaF h3)
    have e1:strOfNums (l.map fun y:Int=>y)=⟨⟨bstr l⟩⟩:=by
     rw [List.map_id'];rfl
    rw [e1] at this;exact this
   ·cases h
  ·cases h
 ·cases h
theorem znd (hT:TOK P TT) {t:Nat} {x y:Operand} {cm:Bool} (ho:o.op = .lookup t x y cm) (h:zqo TT s t x y cm K=some r):∃ z,RO P F s.st o z.av/\K z=some r:=by
 unfold zqo at h
 split at h
 ·rename_i kt et hm
  split at h
  ·rename_i id hx
   split at h
   ·rename_i T k ks v vs he;obtain ⟨hk,h⟩:=zac h;rw [Bool.and_eq_true] at hk;obtain ⟨hk,hze⟩:=hk
    split at h
    ·rename_i yv hy
     split at h
     ·rename_i key hkey;have SKk:=zmN hT hk hm;obtain ⟨_,_,_,z,hti,hz⟩:=zlT hT hze;have hy':=zam hy;rw [zb7 hkey] at hy';have main:=RO.lookup (P:=P) (F:=F) (α:=k.den) (β:=v.den) (ks:=ks) (vs:=vs) (k:=key) (z0:=v.dflt) cm ho (zie hT hm) SKk hti hz (zam hx) (zaF he) hy'
      cases cm with
      | true=>exact ⟨EV.tup [.d v (mget ks vs key v.dflt),.d .bool (mhas ks key)],main,h⟩
      | false=>exact ⟨EV.d v (mget ks vs key v.dflt),main,h⟩
     ·cases h
    ·cases h
   ·cases h
  ·cases h
 ·cases h
theorem zna (hT:TOK P TT) {t:Nat} {x hi mx:Operand} (ho:o.op = .slice t x none (some hi) (some mx)) (h:zqk TT s t x hi mx K=some r):∃ z,RO P F s.st o z.av/\K z=some r:=by
 unfold zqk at h
 split at h
 ·rename_i te l i j h1 h5 h6
  split at h
  ·rename_i e h2
   split at h
   ·rename_i te' h3;obtain ⟨h4,h8⟩:=zac h;clear h;have:=Ty.eq_of_beq h4;subst this;obtain ⟨⟨h9,h7⟩,h10⟩:=zaU h8;subst h9;obtain ⟨z,hz,_⟩:=za4 hT h3;exact ⟨_,RO.sl_hm (α:=te.den) ho (zan hT h2) hz (zam h1) (zam h5) (zam h6) h7,h10⟩
   ·cases h
  ·cases h
 ·cases h
theorem zg2 (hT:TOK P TT) (h:evRO TT s o.op K=some r):∃ z,RO P F s.st o z.av/\K z=some r:=by
 unfold evRO at h
 split at h
 ·rename_i x ho
  split at h
  ·rename_i v h1;exact ⟨_,RO.move ho (zam h1),h⟩
  ·cases h
 ·rename_i x ho
  split at h
  ·rename_i v h1;exact ⟨_,RO.assign ho (zam h1),h⟩
  ·cases h
 ·rename_i ho;exact zkv hT ho h
 ·rename_i ho;exact zpq ho h
 ·rename_i c ho
  split at h
  ·rename_i x t h1 h2 h3;refine zod hT ?_ h
   rw [ho];obtain ⟨cc,ca,ct⟩:=c;simp only at h1 h2 h3;subst h1;rw [show ca=#[x] from Array.ext' h2,show ct=#[t] from Array.ext' h3]
  ·rename_i x y h1 h2;unfold ztd at h
   split at h
   ·rename_i j m k n hx hy;obtain ⟨hjk,h⟩:=zac h;have hjk:=of_decide_eq_true hjk;subst hjk;refine ⟨_,RO.min (ts:=c.argTypes) ?_ (zam hx) (zam hy),h⟩
    rw [ho];obtain ⟨cc,ca,ct⟩:=c;simp only at h1 h2;subst h1;rw [show ca=#[x,y] from Array.ext' h2]
   ·cases h
  ·rename_i x y h1 h2;unfold ztc at h
   split at h
   ·rename_i j m k n hx hy;obtain ⟨hjk,h⟩:=zac h;have hjk:=of_decide_eq_true hjk;subst hjk;refine ⟨_,RO.max (ts:=c.argTypes) ?_ (zam hx) (zam hy),h⟩
    rw [ho];obtain ⟨cc,ca,ct⟩:=c;simp only at h1 h2;subst h1;rw [show ca=#[x,y] from Array.ext' h2]
   ·cases h
  ·rename_i x t h1 h2 h3
   split at h
   ·rename_i e hx he;refine ⟨_,RO.cap_nil ?_ (zan hT he) (zam hx),h⟩
    rw [ho];obtain ⟨cc,ca,ct⟩:=c;simp only at h1 h2 h3;subst h1;rw [show ca=#[x] from Array.ext' h2,show ct=#[t] from Array.ext' h3]
   ·cases h
  ·cases h
 ·rename_i t x i ho
  cases hb:zr2 s x i with
  | true=>rw [hb] at h;exact znb hT ho h
  | false=>rw [hb] at h;exact zoc hT ho h
 ·rename_i t x i ho
  split at h
  ·rename_i a k j h1 h2;obtain ⟨h3,h⟩:=zac h;obtain ⟨h4,h⟩:=zaU h;exact ⟨_,RO.idx_str ho (ziv hT h3) (zam h1) (zam h2) h4,h⟩
  ·cases h
 ·rename_i ho;exact zob hT ho h
 ·rename_i ho;exact zmd hT ho h
 ·rename_i t x ho
  cases hb:zoZ s x with
  | true=>rw [hb] at h;exact zmf hT ho h
  | false=>rw [hb] at h;exact znc hT ho h
 ·rename_i ho;exact zog ho h
 ·rename_i ho;exact zn2 hT ho h
 ·rename_i ho;exact zna hT ho h
 ·rename_i f fs cs ho
  split at h
  ·rename_i h1
   split at h
   ·rename_i l h2;have:fs=#[]:=Array.ext' h1;subst this;exact ⟨_,RO.makeFunc ho (zlv h2),h⟩
   ·cases h
  ·cases h
 ·rename_i ho;exact zn1 ho h
 ·rename_i ho;exact znd hT ho h
 ·rename_i ho;exact zm5 hT ho h
 ·cases h
end
end
end Go.Ab
