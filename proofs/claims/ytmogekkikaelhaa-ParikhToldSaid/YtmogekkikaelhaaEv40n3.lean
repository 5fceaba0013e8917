import Derived.Test.YtmogekkikaelhaaEv40n25
set_option linter.unusedVariables false
set_option linter.unusedSimpArgs false
set_option linter.unusedSectionVars false
namespace Go.Ab
noncomputable section
open Enc (enc)
def G {R:Type} (c:Prop) [Decidable c] (k:Option R):Option R := @ite _ c (Classical.propDecidable c) k none
theorem zaF {R:Type} {c:Prop} [Decidable c] {k:Option R} {r:R} (h:G c k=some r):c/\k=some r:=by
 unfold G at h;split at h
 ·rename_i hc;exact ⟨hc,h⟩
 ·cases h
theorem zal {R:Type} {c:Prop} [Decidable c] {k:Option R} (h:c):G c k=k:=if_pos h
def fits (x:Int):Prop := -9223372036854775808<=x/\x<=9223372036854775807
instance (x:Int):Decidable (fits x):=inferInstanceAs (Decidable (_/\_))
inductive TD where
 | int (k:IntKind)
 | bool
 | str
 | slice (e:Nat)
 | struct (fs:List (Nat×Nat)) (q:Option Ty)
 | array (n e:Nat)
 | map (k e:Nat) (t:Ty)
 | other
structure TE where
 id:Nat
 td:TD
 ag:Bool
 size:Nat
 bytes:Nat
 z:Value
 ty:Option Ty
def TDok (P:Program) (id:Nat):TD->Prop
 | .int k=>P.underlying id=some (.int k)
 | .bool=>P.underlying id=some .bool
 | .str=>P.underlying id=some .string
 | .slice e=>P.underlying id=some (.slice e)
 | .struct fs q=>(∃ fa:Array Field,P.underlying id=some (.struct fa)/\fa.toList.map (fun f=>(f.offset,f.type))=fs)/\∀ t,q=some t->t.plain=true/\t.agg=true/\KeyT P 16 id t/\P.eqGuardType P.depth id=false
 | .array n e=>P.underlying id=some (.array n e)
 | .map k e t=>P.underlying id=some (.map k e)/\SK P k t.den
 | .other=>True
structure TEok (P:Program) (e:TE):Prop where
 ti:TI P e.id e.ag e.size e.bytes e.z
 td:TDok P e.id e.td
 ty:∀ t,e.ty=some t->e.ag=t.agg/\e.size=t.sz/\e.bytes=t.bts/\e.z.cells.toList=t.zc
def TOK (P:Program) (TT:List TE):Prop:=∀ e∈TT,TEok P e
theorem TOK.nil {P:Program}:TOK P []:=fun _ h=>by cases h
theorem TOK.cons {P:Program} {e:TE} {TT:List TE} (h:TEok P e) (k:TOK P TT):TOK P (e::TT):=fun e' h'=>by
 rcases List.mem_cons.1 h' with rfl | h'
 ·exact h
 ·exact k e' h'
def fT:List TE->Nat->Option TE
 | [],_=>none
 | e::r,id=>bif Nat.beq e.id id then some e else fT r id
theorem zaQ {P:Program}:∀ {TT:List TE} {id:Nat} {e:TE},TOK P TT->fT TT id=some e->TEok P e/\e.id=id
 | [],_,_,_,h=>by cases h
 | e'::r,id,e,hT,h=>by
  simp only [fT] at h;cases hb:Nat.beq e'.id id with
  | true=>rw [hb] at h;cases h;exact ⟨hT _ (by simp),Nat.eq_of_beq_eq_true hb⟩
  | false=>rw [hb] at h;exact zaQ (fun x hx=>hT x (by simp [hx])) h
def tyT (TT:List TE) (id:Nat):Option Ty:=match fT TT id with
 | some e=>e.ty
 | none=>none
theorem zaK {P:Program} {TT:List TE} {id:Nat} {t:Ty} (hT:TOK P TT) (h:tyT TT id=some t):∃ z,TI P id t.agg t.sz t.bts z/\z.cells.toList=t.zc:=by
 unfold tyT at h;split at h
 ·rename_i e he;obtain ⟨h1,rfl⟩:=zaQ hT he;obtain ⟨h2,h3,h4,h5⟩:=h1.ty t h;exact ⟨e.z,by rw [<- h2,<- h3,<- h4];exact h1.ti,h5⟩
 ·cases h
def zbs (TT:List TE) (id:Nat):Option Nat:=match fT TT id with
 | some ⟨_,.slice e,_,_,_,_,_⟩=>some e
 | _=>none
theorem zai {P:Program} {TT:List TE} {id e:Nat} (hT:TOK P TT) (h:zbs TT id=some e):P.underlying id=some (.slice e):=by
 unfold zbs at h;split at h
 ·rename_i he;cases h;obtain ⟨h1,h2⟩:=zaQ hT he;cases h2;exact h1.td
 ·cases h
def mapT (TT:List TE) (id:Nat):Option (Nat×Nat):=match fT TT id with
 | some ⟨_,.map k e _,_,_,_,_,_⟩=>some (k,e)
 | _=>none
theorem ziP {P:Program} {TT:List TE} {id:Nat} {p:Nat×Nat} (hT:TOK P TT) (h:mapT TT id=some p):P.underlying id=some (.map p.1 p.2):=by
 unfold mapT at h;split at h
 ·rename_i he;cases h;obtain ⟨h1,h2⟩:=zaQ hT he;cases h2;exact h1.td.1
 ·cases h
def skT (TT:List TE) (id:Nat) (k:Ty):Bool:=match fT TT id with
 | some ⟨_,.map _ _ t,_,_,_,_,_⟩=>Ty.beq t k
 | _=>false
theorem znk {P:Program} {TT:List TE} {id:Nat} {k:Ty} {p:Nat×Nat} (hT:TOK P TT) (h:skT TT id k=true) (hm:mapT TT id=some p):SK P p.1 k.den:=by
 unfold mapT at hm;split at hm
 ·rename_i he;cases hm;unfold skT at h;rw [he] at h;obtain rfl:=Ty.eq_of_beq h;obtain ⟨h1,h2⟩:=zaQ hT he;cases h2;exact h1.td.2
 ·cases hm
def zs6 (TT:List TE) (id:Nat) (t:Ty):Bool:=match fT TT id with
 | some e=>(match e.ty with | some u=>Ty.beq u t | none=>false) && (match e.z with | .agg _=>t.agg | _ => !t.agg)
 | none=>false
theorem zmr {P:Program} {TT:List TE} {id:Nat} {t:Ty} (hT:TOK P TT) (h:zs6 TT id t=true):∃ a b c z,TI P id a b c z/\∀ w S,DRel w S (encD t t.dflt) z:=by
 unfold zs6 at h;split at h
 ·rename_i e he;rw [Bool.and_eq_true] at h;obtain ⟨h1,rfl⟩:=zaQ hT he;obtain ⟨ha,hb⟩:=h;split at ha
  ·rename_i u hu;obtain rfl:=Ty.eq_of_beq ha;refine ⟨_,_,_,_,h1.ti,fun w S => ?_⟩;have hc:=(h1.ty u hu).2.2.2;have hz:=zrs u;rw [<- hc] at hz;obtain ⟨g1,g2⟩:=ZRs.rel w S hz;cases hag:u.agg with
   | true=>
    rw [hag] at hb;split at hb
    ·rename_i cs hcs;rw [hcs] at g1 g2;rw [zbz hag,hcs];refine .agg _ _ (by simpa [Value.cells] using g1.symm) fun i hi => ?_
     have:=g2 i hi;simpa [Value.cells,Array.getD_eq_getD_getElem?, List.getD_eq_getElem?_getD] using this
    ·cases hb
   | false=>
    rw [hag] at hb;split at hb
    ·cases hb
    ·rename_i hne;have e1:e.z.cells.toList=[e.z]:=by
      cases hv:e.z with
      | agg cs=>exact absurd hv (hne cs)
      | _=>rfl
     rw [e1,zca hag] at g2;exact g2 0 (by simp)
  ·cases ha
 ·cases h
theorem SzT.ofTI {P:Program} {id:TypeId} {dsc:Bool} {size bytes:Nat} {z:Value} {t:Ty} (h:TI P id dsc size bytes z) (h1:dsc=t.agg) (h2:size=t.sz):SzT P id t:=by
 obtain ⟨d,hd,hg⟩:=h.un;obtain ⟨i,hi,hs,_⟩:=h.inf;exact ⟨d,i,hd,by rw [hg,h1],hi,by rw [hs,h2]⟩
def strT (TT:List TE) (id:Nat):Bool:=match fT TT id with
 | some ⟨_,.str,_,_,_,_,_⟩=>true
 | _=>false
theorem zi9 {P:Program} {TT:List TE} {id:Nat} (hT:TOK P TT) (h:strT TT id=true):P.underlying id=some .string:=by
 unfold strT at h;split at h
 ·rename_i he;obtain ⟨h1,h2⟩:=zaQ hT he;cases h2;exact h1.td
 ·cases h
def zss (TT:List TE) (id:Nat):Bool:=match fT TT id with
 | some ⟨_,.bool,_,_,_,_,_⟩=>true
 | _=>false
theorem zp7 {P:Program} {TT:List TE} {id:Nat} (hT:TOK P TT) (h:zss TT id=true):P.underlying id=some .bool:=by
 unfold zss at h;split at h
 ·rename_i he;obtain ⟨h1,h2⟩:=zaQ hT he;cases h2;exact h1.td
 ·cases h
def arrT (TT:List TE) (id:Nat):Option (Nat×Nat):=match fT TT id with
 | some ⟨_,.array n e,_,_,_,_,_⟩=>some (n,e)
 | _=>none
theorem ze2 {P:Program} {TT:List TE} {id n e:Nat} (hT:TOK P TT) (h:arrT TT id=some (n,e)):P.underlying id=some (.array n e):=by
 unfold arrT at h;split at h
 ·rename_i he;cases h;obtain ⟨h1,h2⟩:=zaQ hT he;cases h2;exact h1.td
 ·cases h
def fldT (TT:List TE) (s i:Nat):Option (Nat×Nat×TE):=match fT TT s with
 | some ⟨_,.struct fs _,_,_,_,_,_⟩=>match fs[i]? with
  | some (off,ft)=>match fT TT ft with
   | some e=>bif Nat.blt 0 e.size then some (off,ft,e) else none
   | none=>none
  | none=>none
 | _=>none
theorem zk5 {P:Program} {TT:List TE} {s i off ft:Nat} {e:TE} (hT:TOK P TT) (h:fldT TT s i=some (off,ft,e)):FA P s i off ft e.size/\TEok P e/\e.id=ft:=by
 unfold fldT at h;split at h
 ·rename_i he;obtain ⟨h1,h2⟩:=zaQ hT he;cases h2;split at h
  ·rename_i off' ft' hf;split at h
   ·rename_i e' he';cases hp:Nat.blt 0 e'.size with
    | false=>rw [hp] at h;cases h
    | true=>
     rw [hp] at h;cases h;obtain ⟨h3,rfl⟩:=zaQ hT he';obtain ⟨⟨fa,h4,h5⟩,_⟩:=h1.td;obtain ⟨i0,h6,h7,_⟩:=h3.ti.inf;refine ⟨⟨⟨fa,h4,?_⟩,⟨i0,h6,h7⟩,by simpa using hp⟩,h3,rfl⟩;have:(fa.toList.map (fun f=>(f.offset,f.type)))[i]? =some (off,e.id):=by rw [h5];exact hf
     rw [List.getElem?_map] at this;obtain ⟨f,h8,h9⟩:=Option.map_eq_some_iff.1 this;injection h9 with h9 h10
     exact ⟨f,by simpa using h8,h9,h10⟩
   ·cases h
  ·cases h
 ·cases h
variable {R:Type}
def wr (k:IntKind) (x:Int) (K:EV->Option R):Option R:=match k with
 | .i64=>G (fits x) (K (.d (.int .i64) x))
 | k=>K (.d (.int k) (k.wrap x))
def iand (k:IntKind) (x y:Int):Int:=k.wrap (BitVec.ofInt k.bits x &&& BitVec.ofInt k.bits y).toNat
def ior (k:IntKind) (x y:Int):Int:=k.wrap (BitVec.ofInt k.bits x ||| BitVec.ofInt k.bits y).toNat
def ixor (k:IntKind) (x y:Int):Int:=k.wrap (BitVec.ofInt k.bits x ^^^ BitVec.ofInt k.bits y).toNat
def zuZ (k:IntKind) (x y:Int):Int:=k.wrap (BitVec.ofInt k.bits x &&& ~~~ (BitVec.ofInt k.bits y)).toNat
def ishl (k:IntKind) (x y:Int):Int:=k.wrap (x * 2 ^ min y.toNat k.bits)
def ishr (k:IntKind) (x y:Int):Int:=x.fdiv (2 ^ min y.toNat k.bits)
def ztQ (op:BinOp) (k:IntKind) (m n:Int) (K:EV->Option R):Option R:=match op with
 | .lss=>K (.d .bool (decide (m < n)))
 | .leq=>K (.d .bool (decide (m<=n)))
 | .gtr=>K (.d .bool (decide (n < m)))
 | .geq=>K (.d .bool (decide (n<=m)))
 | .eql=>K (.d .bool (decide (m=n)))
 | .neq=>K (.d .bool (decide (¬ m=n)))
 | .add=>wr k (m+n) K
 | .sub=>wr k (m - n) K
 | .mul=>wr k (m * n) K
 | .quo=>G (n≠0) (wr k (m.tdiv n) K)
 | .rem=>G (n≠0) (K (.d (.int k) (m.tmod n)))
 | .and=>K (.d (.int k) (iand k m n))
 | .or=>K (.d (.int k) (ior k m n))
 | .xor=>K (.d (.int k) (ixor k m n))
 | .andNot=>K (.d (.int k) (zuZ k m n))
 | .shl=>G (0<=n) (K (.d (.int k) (ishl k m n)))
 | .shr=>G (0<=n) (K (.d (.int k) (ishr k m n)))
section
variable {P:Program} {TT:List TE} {F:Fr} {s:ESt} {o:Oper} {K:EV->Option R} {r:R}
def Val (P:Program) (m:Sem Value) (x:EV):Prop:=∃ z:Value,z.oneCell'=true/\x.av = .d (.lit z)/\∀ w:World,m.run P w = .ok z w
theorem zjc {k:IntKind} {x:Int} (h:wr k x K=some r):∃ y:Int,K (.d (.int k) y)=some r/\k.wrap x=y:=by
 cases k<;>simp only [wr] at h<;>first
  | exact ⟨_,h,rfl⟩
  | (obtain ⟨h1,h2⟩:=zaF h;exact ⟨x,h2,zil h1⟩)
theorem zoZ {op:BinOp} {k:IntKind} {m n:Int} {t:Nat} (h:ztQ op k m n K=some r):∃ x,Val P (binOp op t (.int k m) (.int k n)) x/\K x=some r:=by
 cases op<;>simp only [ztQ] at h
 case lss=>exact ⟨_,⟨_,rfl,rfl,fun w=>by simp [binOp_lss]⟩,h⟩
 case leq=>exact ⟨_,⟨_,rfl,rfl,fun w=>by simp [binOp_leq]⟩,h⟩
 case gtr=>exact ⟨_,⟨_,rfl,rfl,fun w=>by simp [binOp_gtr]⟩,h⟩
 case geq=>exact ⟨_,⟨_,rfl,rfl,fun w=>by simp [binOp_geq]⟩,h⟩
 case eql=>exact ⟨_,⟨_,rfl,rfl,fun w=>by simp [binOp_eql];by_cases h:m=n<;>simp [h]⟩,h⟩
 case neq=>exact ⟨_,⟨_,rfl,rfl,fun w=>by simp [binOp_neq];by_cases h:m=n<;>simp [h]⟩,h⟩
 case add=>obtain ⟨y,h1,rfl⟩:=zjc h;exact ⟨_,⟨_,rfl,rfl,fun w=>by simp [binOp_add,Op.intArith]⟩,h1⟩
 case sub=>obtain ⟨y,h1,rfl⟩:=zjc h;exact ⟨_,⟨_,rfl,rfl,fun w=>by simp [binOp_sub,Op.intArith]⟩,h1⟩
 case mul=>obtain ⟨y,h1,rfl⟩:=zjc h;exact ⟨_,⟨_,rfl,rfl,fun w=>by simp [binOp_mul,Op.intArith]⟩,h1⟩
 case quo=>
  obtain ⟨h0,h⟩:=zaF h;obtain ⟨y,h1,rfl⟩:=zjc h;exact ⟨_,⟨_,rfl,rfl,fun w=>by simp only [binOp_quo,Op.intDiv,if_neg h0,Sem.run_pure]⟩,h1⟩
 case rem=>
  obtain ⟨h0,h⟩:=zaF h;exact ⟨_,⟨_,rfl,rfl,fun w=>by simp only [binOp_rem,Op.intDiv,if_neg h0,Sem.run_pure]⟩,h⟩
 case and=>exact ⟨_,⟨_,rfl,rfl,fun w=>by simp [binOp,Op.intBits,iand]⟩,h⟩
 case or=>exact ⟨_,⟨_,rfl,rfl,fun w=>by simp [binOp,Op.intBits,ior]⟩,h⟩
 case xor=>exact ⟨_,⟨_,rfl,rfl,fun w=>by simp [binOp,Op.intBits,ixor]⟩,h⟩
 case andNot=>exact ⟨_,⟨_,rfl,rfl,fun w=>by simp [binOp,Op.intBits,zuZ]⟩,h⟩
 case shl=>
  obtain ⟨h0,h⟩:=zaF h;exact ⟨_,⟨_,rfl,rfl,fun w=>by
   have : ¬ n < 0:=by omega
   simp [binOp,Op.shift,ishl,this]⟩,h⟩
 case shr=>
  obtain ⟨h0,h⟩:=zaF h;exact ⟨_,⟨_,rfl,rfl,fun w=>by
   have : ¬ n < 0:=by omega
   simp [binOp,Op.shift,ishr,this]⟩,h⟩
def shOp (op:BinOp) (j k:IntKind) (m n:Int) (K:EV->Option R):Option R:=match op with
 | .shl=>G (0<=n) (K (.d (.int j) (ishl j m n)))
 | .shr=>G (0<=n) (K (.d (.int j) (ishr j m n)))
 | op=>if j=k then ztQ op j m n K else none
theorem zqC {op:BinOp} {j k:IntKind} {m n:Int} {t:Nat} (h:shOp op j k m n K=some r):∃ x,Val P (binOp op t (.int j m) (.int k n)) x/\K x=some r:=by
 unfold shOp at h;split at h
 ·obtain ⟨h0,h⟩:=zaF h;exact ⟨_,⟨_,rfl,rfl,fun w=>by
   have : ¬ n < 0:=by omega
   simp [binOp,Op.shift,ishl,this]⟩,h⟩
 ·obtain ⟨h0,h⟩:=zaF h;exact ⟨_,⟨_,rfl,rfl,fun w=>by
   have : ¬ n < 0:=by omega
   simp [binOp,Op.shift,ishr,this]⟩,h⟩
 ·split at h
  ·rename_i hjk;subst hjk;exact zoZ h
  ·cases h
def zqQ (TT:List TE) (op:BinOp) (t:Nat) (a b:Bool) (K:EV->Option R):Option R:=bif zss TT t then (match op with
 | .eql=>K (.d .bool (decide (a=b)))
 | .neq=>K (.d .bool (decide (¬ a=b)))
 | _=>none) else none
theorem zns (hT:TOK P TT) {op:BinOp} {t:Nat} {a b:Bool} (h:zqQ TT op t a b K=some r):∃ x,Val P (binOp op t (.bool a) (.bool b)) x/\K x=some r:=by
 unfold zqQ at h;cases hb:zss TT t with
 | false=>rw [hb] at h;cases h
 | true=>
  have ht:=zp7 hT hb;rw [hb] at h;cases op<;>simp only [cond_true] at h<;>try (cases h;done)
  case eql=>exact ⟨_,⟨_,rfl,rfl,fun w=>by rw [run_eql_bool w t a b ht];cases a<;>cases b<;>rfl⟩,h⟩
  case neq=>exact ⟨_,⟨_,rfl,rfl,fun w=>by rw [run_neq_bool w t a b ht];cases a<;>cases b<;>rfl⟩,h⟩
def zuf (op:BinOp) (a b:List UInt8) (K:EV->Option R):Option R:=match op with
 | .eql=>K (.d .bool (decide (a=b)))
 | .neq=>K (.d .bool (decide (¬ a=b)))
 | .add=>G ((a.length:Int)+b.length<=9223372036854775807) (K (.d .str (a++b)))
 | .lss=>K (.d .bool (Op.bytesLess a b))
 | .gtr=>K (.d .bool (!(Op.bytesLess a b || decide (a=b))))
 | _=>none
theorem ziT (a:List UInt8):(ByteArray.mk ⟨a⟩).toList=a:=ByteArray.toList_mk a
theorem zpg {op:BinOp} {t:Nat} {a b:List UInt8} (h:zuf op a b K=some r):∃ x,Val P (binOp op t (.string ⟨⟨a⟩⟩) (.string ⟨⟨b⟩⟩)) x/\K x=some r:=by
 have hbeq:(a==b)=decide (a=b):=by
  by_cases h:a=b
  ·simp [h]
  ·simp [h]
 cases op<;>simp only [zuf] at h<;>try (cases h;done)
 case eql=>exact ⟨_,⟨_,rfl,rfl,fun w=>by simp only [binOp,Op.stringOp,ziT,hbeq];rfl⟩,h⟩
 case neq=>exact ⟨_,⟨.bool (!(decide (a=b))),rfl,by simp [EV.av,encD],fun w=>by simp only [binOp,Op.stringOp,ziT,hbeq];rfl⟩,h⟩
 case lss=>exact ⟨_,⟨_,rfl,rfl,fun w=>by simp only [binOp,Op.stringOp,ziT];rfl⟩,h⟩
 case gtr=>exact ⟨_,⟨_,rfl,rfl,fun w=>by simp only [binOp,Op.stringOp,ziT,hbeq];rfl⟩,h⟩
 case add=>
  obtain ⟨h0,h⟩:=zaF h;refine ⟨_,⟨_,rfl,rfl,fun w => ?_⟩,h⟩;have hs:∀ l:List UInt8,(ByteArray.mk ⟨l⟩).size=l.length:=fun _=>rfl
  have hlt : ¬ (((a.length+b.length:Nat):Int) > IntKind.i64.max):=by
   have:IntKind.i64.max=9223372036854775807:=by decide
   omega
  simp only [binOp,Op.stringOp,hs,if_neg hlt];have:(ByteArray.mk ⟨a⟩++ByteArray.mk ⟨b⟩)=(ByteArray.mk ⟨a++b⟩):=by
   apply ByteArray.ext;apply Array.ext';simp
  rw [this];rfl
theorem RO.val {op:BinOp} {t t':TypeId} {x y:Operand} {u v:Value} {z:EV} (ho:o.op = .binOp op t x y t') (hx:s.st.ev x=some (.d (.lit u))) (hy:s.st.ev y=some (.d (.lit v)))
  (h:Val P (binOp op t u v) z) (hu:u.oneCell'=true) (hi:u ≠ .nilIface):RO P F s.st o z.av:=by
 obtain ⟨zv,h1,h2,h3⟩:=h;rw [h2];exact RO.bin ho hx hy h3 h1 hu hi
def eqT (TT:List TE) (id:Nat) (t:Ty):Bool:=match fT TT id with
 | some ⟨_,.struct _ (some u),_,_,_,_,_⟩=>Ty.beq u t
 | _=>false
theorem zsu {P:Program} {TT:List TE} {id:Nat} {t:Ty} (hT:TOK P TT) (h:eqT TT id t=true):t.plain=true/\t.agg=true/\KeyT P 16 id t/\P.eqGuardType P.depth id=false:=by
 unfold eqT at h;split at h
 ·rename_i he;obtain ⟨h1,h2⟩:=zaQ hT he;cases h2;obtain rfl:=Ty.eq_of_beq h;exact h1.td.2 _ rfl
 ·cases h
def ztt (TT:List TE) (op:BinOp) (t:Nat) (a b:Ty) (m:a.den) (n:b.den) (K:EV->Option R):Option R:=match zaL b a n with
 | some n=>bif eqT TT t a then (match op with
  | .eql=>K (.d .bool (eqB m n))
  | .neq=>K (.d .bool (!(eqB m n)))
  | _=>none) else none
 | none=>none
theorem RO.agg {op:BinOp} {t t':TypeId} {x y:Operand} {a:Ty} {m n:a.den} (ho:o.op = .binOp op t x y t') (hx:s.st.ev x=some (EV.d a m).av) (hy:s.st.ev y=some (EV.d a n).av) (hp:a.plain=true) (hg:a.agg=true) (hk:KeyT P 16 t a) (he:P.eqGuardType P.depth t=false)
  {z:Bool} (hz:∀ b:Bool,(op = .eql/\z=b)\/(op = .neq/\z = !b)\/b≠eqB m n):RO P F s.st o (EV.d .bool z).av:=fun H ac w r=>by
 have hu:=r.ev hx;have hv:=r.ev hy;have eu:ac.eval x=keyV a m:=by
  generalize ac.eval x=u at hu;cases hu with
  | d _ _ h=>exact zgJ hp h
 have ev:ac.eval y=keyV a n:=by
  generalize ac.eval y=u at hv;cases hv with
  | d _ _ h=>exact zgJ hp h
 refine ⟨.bool z,fun w' _ => ?_,VRel.bool _ _ _ _⟩;have h1:=zhc (P:=P) 16 (10000 - 16) t a hk w' m n;rw [zcR hg,zcR hg] at h1;have h2:=run_eqGuard_agg (P:=P) w' op t x y (zaC a m).toArray (zaC a n).toArray he;have h3:=hz (eqB m n);rw [zcR hg] at eu ev;rcases h3 with ⟨rfl,rfl⟩ | ⟨rfl,rfl⟩ | h3
 ·have h4:=run_eql_struct (P:=P) w' t (zaC a m).toArray (zaC a n).toArray;rw [h1] at h4;simp [execOp,ho,eu,ev,h2,h4]
 ·have h4:=run_neq_struct (P:=P) w' t (zaC a m).toArray (zaC a n).toArray;rw [h1] at h4;simp [execOp,ho,eu,ev,h2,h4]
 ·exact absurd rfl h3
theorem zou (hT:TOK P TT) {op:BinOp} {t t':Nat} {x y:Operand} {a b:Ty} {m:a.den} {n:b.den} (ho:o.op = .binOp op t x y t') (hx:s.st.ev x=some (EV.d a m).av) (hy:s.st.ev y=some (EV.d b n).av) (h:ztt TT op t a b m n K=some r):∃ z,RO P F s.st o z.av/\K z=some r:=by
 unfold ztt at h;split at h
 ·rename_i n' hn;obtain ⟨rfl,hc⟩:=zaz hn;cases hc;have hb:eqT TT t b=true:=by
   cases e:eqT TT t b with
   | true=>rfl
   | false=>rw [e] at h;cases h
  rw [hb,cond_true] at h;obtain ⟨h1,h2,h3,h4⟩:=zsu hT hb;split at h
  ·exact ⟨_,RO.agg ho hx hy h1 h2 h3 h4 (z:=eqB m n) (fun b=>by by_cases e:b=eqB m n;exact .inl ⟨rfl,e.symm⟩;exact .inr (.inr e)),h⟩
  ·exact ⟨_,RO.agg ho hx hy h1 h2 h3 h4 (z := !(eqB m n)) (fun b=>by by_cases e:b=eqB m n;exact .inr (.inl ⟨rfl,by rw [e]⟩);exact .inr (.inr e)),h⟩
  ·cases h
 ·cases h
def zsv (TT:List TE) (s:ESt) (op:BinOp) (t:Nat) (x y:Operand) (K:EV->Option R):Option R:=
 match s.ev x,s.ev y with
 | some (.d (.int j) m),some (.d (.int k) n)=>shOp op j k m n K
 | some (.d .bool a),some (.d .bool b)=>zqQ TT op t a b K
 | some (.d .str a),some (.d .str b)=>zuf op a b K
 | some (.d (.pair a b) m),some (.d u n)=>ztt TT op t (.pair a b) u m n K
 | _,_=>none
theorem zkY (hT:TOK P TT) {op:BinOp} {t t':Nat} {x y:Operand} (ho:o.op = .binOp op t x y t') (h:zsv TT s op t x y K=some r):∃ z,RO P F s.st o z.av/\K z=some r:=by
 unfold zsv at h;split at h
 ·rename_i h1 h2;obtain ⟨z,h3,h4⟩:=zqC h;exact ⟨z,RO.val ho (zah h1) (zah h2) h3 rfl (by simp),h4⟩
 ·rename_i h1 h2;obtain ⟨z,h3,h4⟩:=zns hT h;exact ⟨z,RO.val ho (zah h1) (zah h2) h3 rfl (by simp),h4⟩
 ·rename_i h1 h2;obtain ⟨z,h3,h4⟩:=zpg h;exact ⟨z,RO.val ho (zah h1) (zah h2) h3 rfl (by simp),h4⟩
 ·rename_i h1 h2;exact zou hT ho (zah h1) (zah h2) h
 ·cases h
def evUn (s:ESt) (op:UnOp) (x:Operand) (K:EV->Option R):Option R:=
 match op,s.ev x with
 | .not,some (.d .bool b)=>K (.d .bool (!b))
 | .neg,some (.d (.int k) n)=>wr k (0 - n) K
 | _,_=>none
theorem zqi {op:UnOp} {t:Nat} {x:Operand} (ho:o.op = .unOp op t x) (h:evUn s op x K=some r):∃ z,RO P F s.st o z.av/\K z=some r:=by
 unfold evUn at h;split at h
 ·rename_i h1;exact ⟨_,RO.not ho (zah h1),h⟩
 ·rename_i k n h1;obtain ⟨y,h2,rfl⟩:=zjc h;refine ⟨_,fun H a w r=>⟨.int k (k.wrap (0 - n)),fun w' _ => ?_,.int _ _ _ _ _⟩,h2⟩;have:=r.lit (zah h1);simp [execOp,ho,this,Op.unary,Op.intArith]
 ·cases h
end
end
end Go.Ab
