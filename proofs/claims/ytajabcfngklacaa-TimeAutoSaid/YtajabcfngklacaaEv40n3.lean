import Derived.Test.YtajabcfngklacaaEv40n25
set_option linter.unusedVariables false
set_option linter.unusedSimpArgs false
set_option linter.unusedSectionVars false
namespace Go.Ab
noncomputable section
open Enc (enc)
def G {R:Type} (c:Prop) [Decidable c] (k:Option R):Option R := @ite _ c (Classical.propDecidable c) k none
theorem zdU {R:Type} {c:Prop} [Decidable c] {k:Option R} {r:R} (h:G c k=some r):c/\k=some r:=by
 unfold G at h;split at h
 ·rename_i a;exact ⟨a,h⟩
 ·cases h
theorem zae {R:Type} {c:Prop} [Decidable c] {k:Option R} (h:c):G c k=k:=if_pos h
def fits (x:Int):Prop := -9223372036854775808<=x/\x<=9223372036854775807
instance (x:Int):Decidable (fits x):=inferInstanceAs (Decidable (_/\_))
inductive TD where
 | int (k:IntKind)
 | bool
 | str
 | slice (e:Nat)
 | struct (fs:List (Nat×Nat)) (q:Option Ty)
 | array (n e:Nat)
 | map (k e:Nat) (t:Ty)
 | other
structure TE where
 id:Nat
 td:TD
 ag:Bool
 size:Nat
 bytes:Nat
 z:Value
 ty:Option Ty
def TDok (P:Program) (id:Nat):TD->Prop
 | .int k=>P.underlying id=some (.int k)
 | .bool=>P.underlying id=some .bool
 | .str=>P.underlying id=some .string
 | .slice e=>P.underlying id=some (.slice e)
 | .struct b q=>(∃ a:Array Field,P.underlying id=some (.struct a)/\a.toList.map (fun f=>(f.offset,f.type))=b)/\∀ t,q=some t->t.plain=true/\t.agg=true/\KeyT P 16 id t/\P.eqGuardType P.depth id=false
 | .array n e=>P.underlying id=some (.array n e)
 | .map k e t=>P.underlying id=some (.map k e)/\SK P k t.den
 | .other=>True
structure TEok (P:Program) (e:TE):Prop where
 ti:TI P e.id e.ag e.size e.bytes e.z
 td:TDok P e.id e.td
 ty:∀ t,e.ty=some t->e.ag=t.agg/\e.size=t.sz/\e.bytes=t.bts/\e.z.cells.toList=t.zc
def TOK (P:Program) (TT:List TE):Prop:=∀ e∈TT,TEok P e
theorem TOK.nil {P:Program}:TOK P []:=fun _ h=>by cases h
theorem TOK.cons {P:Program} {e:TE} {TT:List TE} (h:TEok P e) (k:TOK P TT):TOK P (e::TT):=fun e' h'=>by
 rcases List.mem_cons.1 h' with rfl | h'
 ·exact h
 ·exact k e' h'
def fT:List TE->Nat->Option TE
 | [],_=>none
 | e::r,id=>bif Nat.beq e.id id then some e else fT r id
theorem zdf {P:Program}:∀ {TT:List TE} {id:Nat} {e:TE},TOK P TT->fT TT id=some e->TEok P e/\e.id=id
 | [],_,_,_,h=>by cases h
 | e'::r,id,e,hT,h=>by
  simp only [fT] at h;cases a:Nat.beq e'.id id with
  | true=>rw [a] at h;cases h;exact ⟨hT _ (by simp),Nat.eq_of_beq_eq_true a⟩
  | false=>rw [a] at h;exact zdf (fun x b=>hT x (by simp [b])) h
def tyT (TT:List TE) (id:Nat):Option Ty:=match fT TT id with
 | some e=>e.ty
 | none=>none
theorem zeD {P:Program} {TT:List TE} {id:Nat} {t:Ty} (b:TOK P TT) (h:tyT TT id=some t):∃ z,TI P id t.agg t.sz t.bts z/\z.cells.toList=t.zc:=by
 unfold tyT at h;split at h
 ·rename_i e c;obtain ⟨a,rfl⟩:=zdf b c;obtain ⟨d,f,g,i⟩:=a.ty t h;exact ⟨e.z,by rw [<- d,<- f,<- g];exact a.ti,i⟩
 ·cases h
def zgs (TT:List TE) (id:Nat):Option Nat:=match fT TT id with
 | some ⟨_,.slice e,_,_,_,_,_⟩=>some e
 | _=>none
theorem zbv {P:Program} {TT:List TE} {id e:Nat} (a:TOK P TT) (h:zgs TT id=some e):P.underlying id=some (.slice e):=by
 unfold zgs at h;split at h
 ·rename_i b;cases h;obtain ⟨c,d⟩:=zdf a b;cases d;exact c.td
 ·cases h
def mapT (TT:List TE) (id:Nat):Option (Nat×Nat):=match fT TT id with
 | some ⟨_,.map k e _,_,_,_,_,_⟩=>some (k,e)
 | _=>none
theorem zBl {P:Program} {TT:List TE} {id:Nat} {p:Nat×Nat} (a:TOK P TT) (h:mapT TT id=some p):P.underlying id=some (.map p.1 p.2):=by
 unfold mapT at h;split at h
 ·rename_i b;cases h;obtain ⟨c,d⟩:=zdf a b;cases d;exact c.td.1
 ·cases h
theorem SzT.ofTI {P:Program} {id:TypeId} {dsc:Bool} {size bytes:Nat} {z:Value} {t:Ty} (h:TI P id dsc size bytes z) (a:dsc=t.agg) (b:size=t.sz):SzT P id t:=by
 obtain ⟨d,c,e⟩:=h.un;obtain ⟨i,f,hs,_⟩:=h.inf;exact ⟨d,i,c,by rw [e,a],f,by rw [hs,b]⟩
def strT (TT:List TE) (id:Nat):Bool:=match fT TT id with
 | some ⟨_,.str,_,_,_,_,_⟩=>true
 | _=>false
theorem zuy {P:Program} {TT:List TE} {id:Nat} (a:TOK P TT) (h:strT TT id=true):P.underlying id=some .string:=by
 unfold strT at h;split at h
 ·rename_i b;obtain ⟨c,d⟩:=zdf a b;cases d;exact c.td
 ·cases h
def zB6 (TT:List TE) (id:Nat):Bool:=match fT TT id with
 | some ⟨_,.bool,_,_,_,_,_⟩=>true
 | _=>false
theorem zzE {P:Program} {TT:List TE} {id:Nat} (a:TOK P TT) (h:zB6 TT id=true):P.underlying id=some .bool:=by
 unfold zB6 at h;split at h
 ·rename_i b;obtain ⟨c,d⟩:=zdf a b;cases d;exact c.td
 ·cases h
def arrT (TT:List TE) (id:Nat):Option (Nat×Nat):=match fT TT id with
 | some ⟨_,.array n e,_,_,_,_,_⟩=>some (n,e)
 | _=>none
theorem zmm {P:Program} {TT:List TE} {id n e:Nat} (a:TOK P TT) (h:arrT TT id=some (n,e)):P.underlying id=some (.array n e):=by
 unfold arrT at h;split at h
 ·rename_i b;cases h;obtain ⟨c,d⟩:=zdf a b;cases d;exact c.td
 ·cases h
def fldT (TT:List TE) (s i:Nat):Option (Nat×Nat×TE):=match fT TT s with
 | some ⟨_,.struct fs _,_,_,_,_,_⟩=>match fs[i]? with
  | some (off,ft)=>match fT TT ft with
   | some e=>bif Nat.blt 0 e.size then some (off,ft,e) else none
   | none=>none
  | none=>none
 | _=>none
theorem zxa {P:Program} {TT:List TE} {s i off a:Nat} {e:TE} (g:TOK P TT) (h:fldT TT s i=some (off,a,e)):FA P s i off a e.size/\TEok P e/\e.id=a:=by
 unfold fldT at h;split at h
 ·rename_i m;obtain ⟨p,q⟩:=zdf g m;cases q;split at h
  ·rename_i j n o;split at h
   ·rename_i e' b;cases c:Nat.blt 0 e'.size with
    | false=>rw [c] at h;cases h
    | true=>
     rw [c] at h;cases h;obtain ⟨k,rfl⟩:=zdf g b;obtain ⟨⟨l,r,t⟩,_⟩:=p.td;obtain ⟨u,v,w,_⟩:=k.ti.inf;refine ⟨⟨⟨l,r,?_⟩,⟨u,v,w⟩,by simpa using c⟩,k,rfl⟩;have:(l.toList.map (fun f=>(f.offset,f.type)))[i]? =some (off,e.id):=by rw [t];exact o
     rw [List.getElem?_map] at this;obtain ⟨f,x,d⟩:=Option.map_eq_some_iff.1 this;injection d with d h10
     exact ⟨f,by simpa using x,d,h10⟩
   ·cases h
  ·cases h
 ·cases h
variable {R:Type}
def wr (k:IntKind) (x:Int) (K:EV->Option R):Option R:=match k with
 | .i64=>G (fits x) (K (.d (.int .i64) x))
 | k=>K (.d (.int k) (k.wrap x))
def iand (k:IntKind) (x y:Int):Int:=k.wrap (BitVec.ofInt k.bits x &&& BitVec.ofInt k.bits y).toNat
def ior (k:IntKind) (x y:Int):Int:=k.wrap (BitVec.ofInt k.bits x ||| BitVec.ofInt k.bits y).toNat
def ixor (k:IntKind) (x y:Int):Int:=k.wrap (BitVec.ofInt k.bits x ^^^ BitVec.ofInt k.bits y).toNat
def zEZ (k:IntKind) (x y:Int):Int:=k.wrap (BitVec.ofInt k.bits x &&& ~~~ (BitVec.ofInt k.bits y)).toNat
def ishl (k:IntKind) (x y:Int):Int:=k.wrap (x * 2 ^ min y.toNat k.bits)
def ishr (k:IntKind) (x y:Int):Int:=x.fdiv (2 ^ min y.toNat k.bits)
def zDI (a:BinOp) (k:IntKind) (m n:Int) (K:EV->Option R):Option R:=match a with
 | .lss=>K (.d .bool (decide (m < n)))
 | .leq=>K (.d .bool (decide (m<=n)))
 | .gtr=>K (.d .bool (decide (n < m)))
 | .geq=>K (.d .bool (decide (n<=m)))
 | .eql=>K (.d .bool (decide (m=n)))
 | .neq=>K (.d .bool (decide (¬ m=n)))
 | .add=>wr k (m+n) K
 | .sub=>wr k (m - n) K
 | .mul=>wr k (m * n) K
 | .quo=>G (n≠0) (wr k (m.tdiv n) K)
 | .rem=>G (n≠0) (K (.d (.int k) (m.tmod n)))
 | .and=>K (.d (.int k) (iand k m n))
 | .or=>K (.d (.int k) (ior k m n))
 | .xor=>K (.d (.int k) (ixor k m n))
 | .andNot=>K (.d (.int k) (zEZ k m n))
 | .shl=>G (0<=n) (K (.d (.int k) (ishl k m n)))
 | .shr=>G (0<=n) (K (.d (.int k) (ishr k m n)))
section
variable {P:Program} {TT:List TE} {F:Fr} {s:ESt} {o:Oper} {K:EV->Option R} {r:R}
def Val (P:Program) (m:Sem Value) (x:EV):Prop:=∃ z:Value,z.oneCell'=true/\x.av = .d (.lit z)/\∀ w:World,m.run P w = .ok z w
theorem zrl {k:IntKind} {x:Int} (h:wr k x K=some r):∃ y:Int,K (.d (.int k) y)=some r/\k.wrap x=y:=by
 cases k<;>simp only [wr] at h<;>first
  | exact ⟨_,h,rfl⟩
  | (obtain ⟨a,b⟩:=zdU h;exact ⟨x,b,zEz a⟩)
theorem zyf {c:BinOp} {k:IntKind} {m n:Int} {t:Nat} (h:zDI c k m n K=some r):∃ x,Val P (binOp c t (.int k m) (.int k n)) x/\K x=some r:=by
 cases c<;>simp only [zDI] at h
 case lss=>exact ⟨_,⟨_,rfl,rfl,fun w=>by simp [binOp_lss]⟩,h⟩
 case leq=>exact ⟨_,⟨_,rfl,rfl,fun w=>by simp [binOp_leq]⟩,h⟩
 case gtr=>exact ⟨_,⟨_,rfl,rfl,fun w=>by simp [binOp_gtr]⟩,h⟩
 case geq=>exact ⟨_,⟨_,rfl,rfl,fun w=>by simp [binOp_geq]⟩,h⟩
 case eql=>exact ⟨_,⟨_,rfl,rfl,fun w=>by simp [binOp_eql];by_cases h:m=n<;>simp [h]⟩,h⟩
 case neq=>exact ⟨_,⟨_,rfl,rfl,fun w=>by simp [binOp_neq];by_cases h:m=n<;>simp [h]⟩,h⟩
 case add=>obtain ⟨y,a,rfl⟩:=zrl h;exact ⟨_,⟨_,rfl,rfl,fun w=>by simp [binOp_add,Op.intArith]⟩,a⟩
 case sub=>obtain ⟨y,a,rfl⟩:=zrl h;exact ⟨_,⟨_,rfl,rfl,fun w=>by simp [binOp_sub,Op.intArith]⟩,a⟩
 case mul=>obtain ⟨y,a,rfl⟩:=zrl h;exact ⟨_,⟨_,rfl,rfl,fun w=>by simp [binOp_mul,Op.intArith]⟩,a⟩
 case quo=>
  obtain ⟨b,h⟩:=zdU h;obtain ⟨y,a,rfl⟩:=zrl h;exact ⟨_,⟨_,rfl,rfl,fun w=>by simp only [binOp_quo,Op.intDiv,if_neg b,Sem.run_pure]⟩,a⟩
 case rem=>
  obtain ⟨b,h⟩:=zdU h;exact ⟨_,⟨_,rfl,rfl,fun w=>by simp only [binOp_rem,Op.intDiv,if_neg b,Sem.run_pure]⟩,h⟩
 case and=>exact ⟨_,⟨_,rfl,rfl,fun w=>by simp [binOp,Op.intBits,iand]⟩,h⟩
 case or=>exact ⟨_,⟨_,rfl,rfl,fun w=>by simp [binOp,Op.intBits,ior]⟩,h⟩
 case xor=>exact ⟨_,⟨_,rfl,rfl,fun w=>by simp [binOp,Op.intBits,ixor]⟩,h⟩
 case andNot=>exact ⟨_,⟨_,rfl,rfl,fun w=>by simp [binOp,Op.intBits,zEZ]⟩,h⟩
 case shl=>
  obtain ⟨b,h⟩:=zdU h;exact ⟨_,⟨_,rfl,rfl,fun w=>by
   have : ¬ n < 0:=by omega
   simp [binOp,Op.shift,ishl,this]⟩,h⟩
 case shr=>
  obtain ⟨b,h⟩:=zdU h;exact ⟨_,⟨_,rfl,rfl,fun w=>by
   have : ¬ n < 0:=by omega
   simp [binOp,Op.shift,ishr,this]⟩,h⟩
def shOp (a:BinOp) (j k:IntKind) (m n:Int) (K:EV->Option R):Option R:=match a with
 | .shl=>G (0<=n) (K (.d (.int j) (ishl j m n)))
 | .shr=>G (0<=n) (K (.d (.int j) (ishr j m n)))
 | a=>if j=k then zDI a j m n K else none
theorem zAj {b:BinOp} {j k:IntKind} {m n:Int} {t:Nat} (h:shOp b j k m n K=some r):∃ x,Val P (binOp b t (.int j m) (.int k n)) x/\K x=some r:=by
 unfold shOp at h;split at h
 ·obtain ⟨c,h⟩:=zdU h;exact ⟨_,⟨_,rfl,rfl,fun w=>by
   have : ¬ n < 0:=by omega
   simp [binOp,Op.shift,ishl,this]⟩,h⟩
 ·obtain ⟨c,h⟩:=zdU h;exact ⟨_,⟨_,rfl,rfl,fun w=>by
   have : ¬ n < 0:=by omega
   simp [binOp,Op.shift,ishr,this]⟩,h⟩
 ·split at h
  ·rename_i a;subst a;exact zyf h
  ·cases h
def zAv (TT:List TE) (c:BinOp) (t:Nat) (a b:Bool) (K:EV->Option R):Option R:=bif zB6 TT t then (match c with
 | .eql=>K (.d .bool (decide (a=b)))
 | .neq=>K (.d .bool (decide (¬ a=b)))
 | _=>none) else none
theorem zwO (f:TOK P TT) {c:BinOp} {t:Nat} {a b:Bool} (h:zAv TT c t a b K=some r):∃ x,Val P (binOp c t (.bool a) (.bool b)) x/\K x=some r:=by
 unfold zAv at h;cases d:zB6 TT t with
 | false=>rw [d] at h;cases h
 | true=>
  have e:=zzE f d;rw [d] at h;cases c<;>simp only [cond_true] at h<;>try (cases h;done)
  case eql=>exact ⟨_,⟨_,rfl,rfl,fun w=>by rw [run_eql_bool w t a b e];cases a<;>cases b<;>rfl⟩,h⟩
  case neq=>exact ⟨_,⟨_,rfl,rfl,fun w=>by rw [run_neq_bool w t a b e];cases a<;>cases b<;>rfl⟩,h⟩
def zD6 (c:BinOp) (a b:List UInt8) (K:EV->Option R):Option R:=match c with
 | .eql=>K (.d .bool (decide (a=b)))
 | .neq=>K (.d .bool (decide (¬ a=b)))
 | .add=>G ((a.length:Int)+b.length<=9223372036854775807) (K (.d .str (a++b)))
 | .lss=>K (.d .bool (Op.bytesLess a b))
 | .gtr=>K (.d .bool (!(Op.bytesLess a b || decide (a=b))))
 | _=>none
theorem zqP (a:List UInt8):(ByteArray.mk ⟨a⟩).toList=a:=ByteArray.toList_mk a
theorem zyK {d:BinOp} {t:Nat} {a b:List UInt8} (h:zD6 d a b K=some r):∃ x,Val P (binOp d t (.string ⟨⟨a⟩⟩) (.string ⟨⟨b⟩⟩)) x/\K x=some r:=by
 have c:(a==b)=decide (a=b):=by
  by_cases h:a=b
  ·simp [h]
  ·simp [h]
 cases d<;>simp only [zD6] at h<;>try (cases h;done)
 case eql=>exact ⟨_,⟨_,rfl,rfl,fun w=>by simp only [binOp,Op.stringOp,zqP,c];rfl⟩,h⟩
 case neq=>exact ⟨_,⟨.bool (!(decide (a=b))),rfl,by simp [EV.av,encD],fun w=>by simp only [binOp,Op.stringOp,zqP,c];rfl⟩,h⟩
 case lss=>exact ⟨_,⟨_,rfl,rfl,fun w=>by simp only [binOp,Op.stringOp,zqP];rfl⟩,h⟩
 case gtr=>exact ⟨_,⟨_,rfl,rfl,fun w=>by simp only [binOp,Op.stringOp,zqP,c];rfl⟩,h⟩
 case add=>
  obtain ⟨f,h⟩:=zdU h;refine ⟨_,⟨_,rfl,rfl,fun w => ?_⟩,h⟩;have hs:∀ l:List UInt8,(ByteArray.mk ⟨l⟩).size=l.length:=fun _=>rfl
  have e : ¬ (((a.length+b.length:Nat):Int) > IntKind.i64.max):=by
   have:IntKind.i64.max=9223372036854775807:=by decide
   omega
  simp only [binOp,Op.stringOp,hs,if_neg e];have:(ByteArray.mk ⟨a⟩++ByteArray.mk ⟨b⟩)=(ByteArray.mk ⟨a++b⟩):=by
   apply ByteArray.ext;apply Array.ext';simp
  rw [this];rfl
theorem RO.val {a:BinOp} {t t':TypeId} {x y:Operand} {u v:Value} {z:EV} (b:o.op = .binOp a t x y t') (c:s.st.ev x=some (.d (.lit u))) (d:s.st.ev y=some (.d (.lit v)))
  (h:Val P (binOp a t u v) z) (e:u.oneCell'=true) (f:u ≠ .nilIface):RO P F s.st o z.av:=by
 obtain ⟨k,g,i,j⟩:=h;rw [i];exact RO.bin b c d j g e f
def eqT (TT:List TE) (id:Nat) (t:Ty):Bool:=match fT TT id with
 | some ⟨_,.struct _ (some u),_,_,_,_,_⟩=>Ty.beq u t
 | _=>false
theorem zCa {P:Program} {TT:List TE} {id:Nat} {t:Ty} (a:TOK P TT) (h:eqT TT id t=true):t.plain=true/\t.agg=true/\KeyT P 16 id t/\P.eqGuardType P.depth id=false:=by
 unfold eqT at h;split at h
 ·rename_i b;obtain ⟨c,d⟩:=zdf a b;cases d;obtain rfl:=Ty.eq_of_beq h;exact c.td.2 _ rfl
 ·cases h
def zDf (TT:List TE) (c:BinOp) (t:Nat) (a b:Ty) (m:a.den) (n:b.den) (K:EV->Option R):Option R:=match zcF b a n with
 | some n=>bif eqT TT t a then (match c with
  | .eql=>K (.d .bool (eqB m n))
  | .neq=>K (.d .bool (!(eqB m n)))
  | _=>none) else none
 | none=>none
theorem RO.agg {e:BinOp} {t t':TypeId} {x y:Operand} {a:Ty} {m n:a.den} (l:o.op = .binOp e t x y t') (B:s.st.ev x=some (EV.d a m).av) (C:s.st.ev y=some (EV.d a n).av) (p:a.plain=true) (g:a.agg=true) (D:KeyT P 16 t a) (E:P.eqGuardType P.depth t=false)
  {z:Bool} (I:∀ b:Bool,(e = .eql/\z=b)\/(e = .neq/\z = !b)\/b≠eqB m n):RO P F s.st o (EV.d .bool z).av:=fun H f w r=>by
 have q:=r.ev B;have v:=r.ev C;have i:f.eval x=keyV a m:=by
  generalize f.eval x=u at q;cases q with
  | d _ _ h=>exact zBd p h
 have ev:f.eval y=keyV a n:=by
  generalize f.eval y=u at v;cases v with
  | d _ _ h=>exact zBd p h
 refine ⟨.bool z,fun w' _ => ?_,VRel.bool _ _ _ _⟩;have j:=zru (P:=P) 16 (10000 - 16) t a D w' m n;rw [zlI g,zlI g] at j;have A:=run_eqGuard_agg (P:=P) w' e t x y (zcU a m).toArray (zcU a n).toArray E;have k:=I (eqB m n);rw [zlI g] at i ev;rcases k with ⟨rfl,rfl⟩ | ⟨rfl,rfl⟩ | k
 ·have c:=run_eql_struct (P:=P) w' t (zcU a m).toArray (zcU a n).toArray;rw [j] at c;simp [execOp,l,i,ev,A,c]
 ·have c:=run_neq_struct (P:=P) w' t (zcU a m).toArray (zcU a n).toArray;rw [j] at c;simp [execOp,l,i,ev,A,c]
 ·exact absurd rfl k
theorem zxO (q:TOK P TT) {c:BinOp} {t t':Nat} {x y:Operand} {a b:Ty} {m:a.den} {n:b.den} (d:o.op = .binOp c t x y t') (f:s.st.ev x=some (EV.d a m).av) (g:s.st.ev y=some (EV.d b n).av) (h:zDf TT c t a b m n K=some r):∃ z,RO P F s.st o z.av/\K z=some r:=by
 unfold zDf at h;split at h
 ·rename_i w u;obtain ⟨rfl,v⟩:=zcf u;cases v;have i:eqT TT t b=true:=by
   cases e:eqT TT t b with
   | true=>rfl
   | false=>rw [e] at h;cases h
  rw [i,cond_true] at h;obtain ⟨j,k,l,p⟩:=zCa q i;split at h
  ·exact ⟨_,RO.agg d f g j k l p (z:=eqB m n) (fun b=>by by_cases e:b=eqB m n;exact .inl ⟨rfl,e.symm⟩;exact .inr (.inr e)),h⟩
  ·exact ⟨_,RO.agg d f g j k l p (z := !(eqB m n)) (fun b=>by by_cases e:b=eqB m n;exact .inr (.inl ⟨rfl,by rw [e]⟩);exact .inr (.inr e)),h⟩
  ·cases h
 ·cases h
def zCb (TT:List TE) (s:ESt) (c:BinOp) (t:Nat) (x y:Operand) (K:EV->Option R):Option R:=
 match s.ev x,s.ev y with
 | some (.d (.int j) m),some (.d (.int k) n)=>shOp c j k m n K
 | some (.d .bool a),some (.d .bool b)=>zAv TT c t a b K
 | some (.d .str a),some (.d .str b)=>zD6 c a b K
 | some (.d (.pair a b) m),some (.d u n)=>zDf TT c t (.pair a b) u m n K
 | _,_=>none
theorem ztK (f:TOK P TT) {g:BinOp} {t t':Nat} {x y:Operand} (e:o.op = .binOp g t x y t') (h:zCb TT s g t x y K=some r):∃ z,RO P F s.st o z.av/\K z=some r:=by
 unfold zCb at h;split at h
 ·rename_i a b;obtain ⟨z,c,d⟩:=zAj h;exact ⟨z,RO.val e (za0 a) (za0 b) c rfl (by simp),d⟩
 ·rename_i a b;obtain ⟨z,c,d⟩:=zwO f h;exact ⟨z,RO.val e (za0 a) (za0 b) c rfl (by simp),d⟩
 ·rename_i a b;obtain ⟨z,c,d⟩:=zyK h;exact ⟨z,RO.val e (za0 a) (za0 b) c rfl (by simp),d⟩
 ·rename_i a b;exact zxO f e (za0 a) (za0 b) h
 ·cases h
def evUn (s:ESt) (a:UnOp) (x:Operand) (K:EV->Option R):Option R:=
 match a,s.ev x with
 | .not,some (.d .bool b)=>K (.d .bool (!b))
 | .neg,some (.d (.int k) n)=>wr k (0 - n) K
 | _,_=>none
theorem zzQ {c:UnOp} {t:Nat} {x:Operand} (d:o.op = .unOp c t x) (h:evUn s c x K=some r):∃ z,RO P F s.st o z.av/\K z=some r:=by
 unfold evUn at h;split at h
 ·rename_i b;exact ⟨_,RO.not d (za0 b),h⟩
 ·rename_i k n b;obtain ⟨y,e,rfl⟩:=zrl h;refine ⟨_,fun H a w r=>⟨.int k (k.wrap (0 - n)),fun w' _ => ?_,.int _ _ _ _ _⟩,e⟩;have:=r.lit (za0 b);simp [execOp,d,this,Op.unary,Op.intArith]
 ·cases h
end
end
end Go.Ab
