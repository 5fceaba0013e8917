import Derived.Test.YtmogekkikaelhaaAb24n3
import Derived.Laws.Entries
import Derived.Laws.Small
import Derived.Laws.Strings
import Derived.Laws.Cells
import Derived.Laws.Slices
import Derived.Laws.Rows
set_option linter.unusedVariables false
set_option linter.unusedSimpArgs false
set_option linter.unusedSectionVars false
namespace Go.Ab
open Enc (enc)
open Go.RowKit (Below)
def dAgg:TypeDesc->Bool
 | .struct _ | .array _ _=>true
 | _=>false
structure TI (P:Program) (t:TypeId) (dsc:Bool) (size bytes:Nat) (z:Value):Prop where
 un:∃ d,P.underlying t=some d/\dAgg d=dsc
 inf:∃ i,P.info? t=some i/\i.size=size/\i.bytes=bytes/\i.zero=some z
theorem zek {P:Program} {t:TypeId} {dsc:TypeDesc} (h:P.underlying t=some dsc) (w:World):(isAgg t).run P w = .ok (dAgg dsc) w:=by
 unfold isAgg;simp only [Sem.run_bind,run_underlying h,Result.andThen_ok];cases dsc<;>rfl
theorem TI.size {P:Program} {t:TypeId} {dsc:Bool} {size bytes:Nat} {z:Value} (h:TI P t dsc size bytes z) (w:World):(sizeOf t).run P w = .ok size w:=by
 obtain ⟨i,hi,hs,_⟩:=h.inf;simp [sizeOf,typeInfo,hi,hs]
theorem TI.zero {P:Program} {t:TypeId} {dsc:Bool} {size bytes:Nat} {z:Value} (h:TI P t dsc size bytes z) (w:World):(zeroValue t).run P w = .ok z w:=by
 obtain ⟨i,hi,_,_,hz⟩:=h.inf;simp [zeroValue,typeInfo,hi,hz]
section
variable {P:Program} {F:Fr} {ops:Array Oper} {σ:St} {K:St->Prop} {o:Oper} {rest:List (Nat×Oper)}
theorem RO.of {y:AV} (h:∀ (H:Hd) (a:Act) (w:World),RelH F σ H a w->∃ v,(∀ w',(zdF o=true\/Ext w w')->(execOp a.eval o).run P w' = .ok (.value v) w')/\VRel w (Sh F.X σ.ent H w) H y v):RO P F σ o y:=h
theorem RO.move {x:Operand} {y:AV} (ho:o.op = .move x) (hx:σ.ev x=some y):RO P F σ o y:=fun H a w r=>
 ⟨a.eval x,fun w' _=>by simp [execOp,ho],r.ev hx⟩
theorem RO.assign {x:Operand} {y:AV} (ho:o.op = .assign x) (hx:σ.ev x=some y):RO P F σ o y:=fun H a w r=>
 ⟨a.eval x,fun w' _=>by simp [execOp,ho],r.ev hx⟩
theorem RO.pick_t {c x y:Operand} {z:AV} (ho:o.op = .pick c x y) (hc:σ.ev c=some (.d (.lit (.bool true)))) (hx:σ.ev x=some z):RO P F σ o z:=fun H a w r=>
 ⟨a.eval x,fun w' _=>by simp [execOp,ho,r.lit hc,asBool],r.ev hx⟩
theorem RO.pick_f {c x y:Operand} {z:AV} (ho:o.op = .pick c x y) (hc:σ.ev c=some (.d (.lit (.bool false)))) (hy:σ.ev y=some z):RO P F σ o z:=fun H a w r=>
 ⟨a.eval y,fun w' _=>by simp [execOp,ho,r.lit hc,asBool],r.ev hy⟩
theorem VRel.int (w:World) (S:Nat->Prop) (H:Hd) (k:IntKind) (n:Int):VRel w S H (.d (.lit (.int k n))) (.int k n) := .d _ _ (.lit _ rfl)
theorem VRel.bool (w:World) (S:Nat->Prop) (H:Hd) (b:Bool):VRel w S H (.d (.lit (.bool b))) (.bool b) := .d _ _ (.lit _ rfl)
theorem VRel.str (w:World) (S:Nat->Prop) (H:Hd) (b:ByteArray):VRel w S H (.d (.lit (.string b))) (.string b) := .d _ _ (.lit _ rfl)
theorem ze8 (P:Program) (op:BinOp) (t:TypeId) (x y:Operand) (u v:Value) (w:World) (hu:u.oneCell'=true) (hi:u ≠ .nilIface):(eqGuard op t x y u v).run P w = .ok () w:=by
 unfold eqGuard;cases op<;>first
  | rfl
  | (cases u<;>first | (exact absurd rfl hi) | (simp [Value.oneCell'] at hu;done) | (cases v<;>rfl))
theorem RO.bin {op:BinOp} {t t':TypeId} {x y:Operand} {u v z:Value} (ho:o.op = .binOp op t x y t') (hx:σ.ev x=some (.d (.lit u))) (hy:σ.ev y=some (.d (.lit v)))
  (h:∀ w:World,(binOp op t u v).run P w = .ok z w) (hz:z.oneCell'=true) (hu:u.oneCell'=true) (hi:u ≠ .nilIface):RO P F σ o (.d (.lit z)):=fun H a w r=>
 ⟨z,fun w' _=>by simp [execOp,ho,r.lit hx,r.lit hy,ze8 P op t x y u v _ hu hi,h],.d _ _ (.lit _ hz)⟩
section ints
variable {t t':TypeId} {x y:Operand} {k:IntKind} {m n:Int}
theorem RO.lss (ho:o.op = .binOp .lss t x y t') (hx:σ.ev x=some (.d (.lit (.int k m)))) (hy:σ.ev y=some (.d (.lit (.int k n)))):RO P F σ o (.d (.lit (.bool (decide (m < n))))):=
 RO.bin ho hx hy (fun w=>by simp [binOp_lss]) rfl rfl (by simp)
theorem RO.leq (ho:o.op = .binOp .leq t x y t') (hx:σ.ev x=some (.d (.lit (.int k m)))) (hy:σ.ev y=some (.d (.lit (.int k n)))):RO P F σ o (.d (.lit (.bool (decide (m<=n))))):=
 RO.bin ho hx hy (fun w=>by simp [binOp_leq]) rfl rfl (by simp)
theorem RO.gtr (ho:o.op = .binOp .gtr t x y t') (hx:σ.ev x=some (.d (.lit (.int k m)))) (hy:σ.ev y=some (.d (.lit (.int k n)))):RO P F σ o (.d (.lit (.bool (decide (n < m))))):=
 RO.bin ho hx hy (fun w=>by simp [binOp_gtr]) rfl rfl (by simp)
theorem RO.geq (ho:o.op = .binOp .geq t x y t') (hx:σ.ev x=some (.d (.lit (.int k m)))) (hy:σ.ev y=some (.d (.lit (.int k n)))):RO P F σ o (.d (.lit (.bool (decide (n<=m))))):=
 RO.bin ho hx hy (fun w=>by simp [binOp_geq]) rfl rfl (by simp)
theorem RO.eql (ho:o.op = .binOp .eql t x y t') (hx:σ.ev x=some (.d (.lit (.int k m)))) (hy:σ.ev y=some (.d (.lit (.int k n)))):RO P F σ o (.d (.lit (.bool (decide (m=n))))):=
 RO.bin ho hx hy (fun w=>by simp [binOp_eql];by_cases h:m=n<;>simp [h]) rfl rfl (by simp)
theorem RO.neq (ho:o.op = .binOp .neq t x y t') (hx:σ.ev x=some (.d (.lit (.int k m)))) (hy:σ.ev y=some (.d (.lit (.int k n)))):RO P F σ o (.d (.lit (.bool (decide (¬ m=n))))):=
 RO.bin ho hx hy (fun w=>by simp [binOp_neq];by_cases h:m=n<;>simp [h]) rfl rfl (by simp)
theorem zil {n:Int} (h : -9223372036854775808<=n/\n<=9223372036854775807):IntKind.i64.wrap n=n:=by
 unfold IntKind.wrap;simp [IntKind.bits,IntKind.signed];omega
theorem RO.add (ho:o.op = .binOp .add t x y t') (hx:σ.ev x=some (.d (.lit (.int .i64 m)))) (hy:σ.ev y=some (.d (.lit (.int .i64 n))))
  (h : -9223372036854775808<=m+n/\m+n<=9223372036854775807):RO P F σ o (.d (.lit (.int .i64 (m+n)))):=
 RO.bin ho hx hy (fun w=>by simp [binOp_add,Op.intArith,zil h]) rfl rfl (by simp)
theorem RO.sub (ho:o.op = .binOp .sub t x y t') (hx:σ.ev x=some (.d (.lit (.int .i64 m)))) (hy:σ.ev y=some (.d (.lit (.int .i64 n))))
  (h : -9223372036854775808<=m - n/\m - n<=9223372036854775807):RO P F σ o (.d (.lit (.int .i64 (m - n)))):=
 RO.bin ho hx hy (fun w=>by simp [binOp_sub,Op.intArith,zil h]) rfl rfl (by simp)
theorem RO.mul (ho:o.op = .binOp .mul t x y t') (hx:σ.ev x=some (.d (.lit (.int .i64 m)))) (hy:σ.ev y=some (.d (.lit (.int .i64 n))))
  (h : -9223372036854775808<=m * n/\m * n<=9223372036854775807):RO P F σ o (.d (.lit (.int .i64 (m * n)))):=
 RO.bin ho hx hy (fun w=>by simp [binOp_mul,Op.intArith,zil h]) rfl rfl (by simp)
theorem RO.addw (ho:o.op = .binOp .add t x y t') (hx:σ.ev x=some (.d (.lit (.int k m)))) (hy:σ.ev y=some (.d (.lit (.int k n)))):RO P F σ o (.d (.lit (.int k (k.wrap (m+n))))):=
 RO.bin ho hx hy (fun w=>by simp [binOp_add,Op.intArith]) rfl rfl (by simp)
theorem RO.subw (ho:o.op = .binOp .sub t x y t') (hx:σ.ev x=some (.d (.lit (.int k m)))) (hy:σ.ev y=some (.d (.lit (.int k n)))):RO P F σ o (.d (.lit (.int k (k.wrap (m - n))))):=
 RO.bin ho hx hy (fun w=>by simp [binOp_sub,Op.intArith]) rfl rfl (by simp)
theorem RO.mulw (ho:o.op = .binOp .mul t x y t') (hx:σ.ev x=some (.d (.lit (.int k m)))) (hy:σ.ev y=some (.d (.lit (.int k n)))):RO P F σ o (.d (.lit (.int k (k.wrap (m * n))))):=
 RO.bin ho hx hy (fun w=>by simp [binOp_mul,Op.intArith]) rfl rfl (by simp)
theorem RO.quo (ho:o.op = .binOp .quo t x y t') (hx:σ.ev x=some (.d (.lit (.int .i64 m)))) (hy:σ.ev y=some (.d (.lit (.int .i64 n))))
  (h0:0<=m) (h1:0 < n) (h2:m<=9223372036854775807):RO P F σ o (.d (.lit (.int .i64 (m / n)))):=
 RO.bin ho hx hy (fun w=>by
  have e:m.tdiv n=m / n:=Int.tdiv_eq_ediv_of_nonneg h0;have hle:m / n<=m:=Int.ediv_le_self _ h0;have hge:0<=m / n:=Int.ediv_nonneg h0 (by omega);simp only [binOp_quo,Op.intDiv,if_neg (show ¬ n=0 by omega),e,zil (show -9223372036854775808<=m / n/\m / n<=9223372036854775807 by omega),Sem.run_pure]) rfl rfl (by simp)
theorem RO.rem (ho:o.op = .binOp .rem t x y t') (hx:σ.ev x=some (.d (.lit (.int k m)))) (hy:σ.ev y=some (.d (.lit (.int k n))))
  (h0:0<=m) (h1:0 < n):RO P F σ o (.d (.lit (.int k (m % n)))):=
 RO.bin ho hx hy (fun w=>by
  have e:m.tmod n=m % n:=Int.tmod_eq_emod_of_nonneg h0;simp only [binOp_rem,Op.intDiv,if_neg (show ¬ n=0 by omega),e,Sem.run_pure]) rfl rfl (by simp)
theorem RO.quot (ho:o.op = .binOp .quo t x y t') (hx:σ.ev x=some (.d (.lit (.int k m)))) (hy:σ.ev y=some (.d (.lit (.int k n))))
  (h1:n≠0):RO P F σ o (.d (.lit (.int k (k.wrap (m.tdiv n))))):=
 RO.bin ho hx hy (fun w=>by simp only [binOp_quo,Op.intDiv,if_neg h1,Sem.run_pure]) rfl rfl (by simp)
theorem RO.remt (ho:o.op = .binOp .rem t x y t') (hx:σ.ev x=some (.d (.lit (.int k m)))) (hy:σ.ev y=some (.d (.lit (.int k n))))
  (h1:n≠0):RO P F σ o (.d (.lit (.int k (m.tmod n)))):=
 RO.bin ho hx hy (fun w=>by simp only [binOp_rem,Op.intDiv,if_neg h1,Sem.run_pure]) rfl rfl (by simp)
end ints
theorem RO.eqlb {t t':TypeId} {x y:Operand} {b c:Bool} (ho:o.op = .binOp .eql t x y t') (ht:P.underlying t=some .bool) (hx:σ.ev x=some (.d (.lit (.bool b)))) (hy:σ.ev y=some (.d (.lit (.bool c)))):RO P F σ o (.d (.lit (.bool (decide (b=c))))):=
 RO.bin ho hx hy (fun w=>by rw [run_eql_bool w t b c ht];cases b<;>cases c<;>rfl) rfl rfl (by simp)
theorem RO.neqb {t t':TypeId} {x y:Operand} {b c:Bool} (ho:o.op = .binOp .neq t x y t') (ht:P.underlying t=some .bool) (hx:σ.ev x=some (.d (.lit (.bool b)))) (hy:σ.ev y=some (.d (.lit (.bool c)))):RO P F σ o (.d (.lit (.bool (decide (¬ b=c))))):=
 RO.bin ho hx hy (fun w=>by rw [run_neq_bool w t b c ht];cases b<;>cases c<;>rfl) rfl rfl (by simp)
theorem RO.not {t:TypeId} {x:Operand} {b:Bool} (ho:o.op = .unOp .not t x) (hx:σ.ev x=some (.d (.lit (.bool b)))):RO P F σ o (.d (.lit (.bool (!b)))):=fun H a w r=>
 ⟨.bool !b,fun w' _=>by simp [execOp,ho,r.lit hx,Op.unary],.bool _ _ _ _⟩
theorem RO.neg {t:TypeId} {x:Operand} {m:Int} (ho:o.op = .unOp .neg t x) (hx:σ.ev x=some (.d (.lit (.int .i64 m)))) (h : -9223372036854775808 <= -m /\ -m<=9223372036854775807):RO P F σ o (.d (.lit (.int .i64 (-m)))):=fun H a w r=>
 ⟨.int .i64 (-m),fun w' _=>by simp [execOp,ho,r.lit hx,Op.unary,Op.intArith,zil h],.int _ _ _ _ _⟩
theorem AO.split {p:Prop} [Decidable p] {d:Nat} (hd:o.dst=some d) (hlt:Nat.blt d σ.n=true) (hg:gOn ops σ o true)
  (h:RO P F σ o (.d (.lit (.bool (decide p)))))
  (h1:p->AO P F ops rest (σ.set d (.d (.lit (.bool true)))) K) (h2 : ¬ p->AO P F ops rest (σ.set d (.d (.lit (.bool false)))) K):AO P F ops ((0,o)::rest) σ K:=by
 by_cases hp:p
 ·exact AO.ro hd hlt hg (by simpa [hp] using h) (h1 hp)
 ·exact AO.ro hd hlt hg (by simpa [hp] using h) (h2 hp)
theorem DRel.sl_form {w:World} {S:Nat->Prop} {bts:Nat} {l:List D} {v:Value} (h:DRel w S (.sl bts l) v):∃ a c,v = .slice a l.length c:=by
 cases h with
 | nil _ a c hc _=>exact ⟨a,c,rfl⟩
 | sl _ _ b off c sz f=>exact ⟨_,c,rfl⟩
theorem DRel.sl_bound {w:World} {S:Nat->Prop} {bts:Nat} {l:List D} {v:Value} (h:DRel w S (.sl bts l) v):l.length * bts<=most:=by
 cases h with
 | nil _ a c hc _=>simp [most]
 | sl _ _ b off c sz f _ _ _ _ _ hbt=>exact hbt
theorem RO.len {x:Operand} {t e:TypeId} {α:Type} [Enc α] {l:List α} (ho:o.op = .call { callee := .builtin .len,args:=#[x],argTypes:=#[t] }) (ht:P.underlying t=some (.slice e))
  (hx:σ.ev x=some (.d (enc l))):RO P F σ o (.d (.lit (.int .i64 l.length))):=fun H a w r=>by
 have hv:=r.ev hx;obtain ⟨ad,c,hv'⟩:∃ ad c,a.eval x = .slice ad l.length c:=by
  cases hv with
  | d _ _ h=>
   have:=h.sl_form;simpa using this
 exact ⟨.int .i64 l.length,fun w' _=>by simp [execOp,ho,resolve,invoke,builtin,Builtin.len_,run_underlying ht,hv',goInt],.int _ _ _ _ _⟩
theorem RO.len_nil {x:Operand} {t e:TypeId} (ho:o.op = .call { callee := .builtin .len,args:=#[x],argTypes:=#[t] }) (ht:P.underlying t=some (.slice e))
  (hx:σ.ev x=some .nil):RO P F σ o (.d (.lit (.int .i64 0))):=fun H a w r=>by
 have hv:=r.ev hx;generalize hu:a.eval x=u at hv;cases hv;exact ⟨.int .i64 0,fun w' _=>by simp [execOp,ho,resolve,invoke,builtin,Builtin.len_,run_underlying ht,hu,goInt],.int _ _ _ _ _⟩
abbrev Ent.arrOf (E:TypeId) {α:Type} [Enc α] (l:List α):Ent := .arr E (Enc.sz α) (Enc.bts α) (l.map enc)
theorem RO.len_own {x:Operand} {t e:TypeId} {id:Nat} {E:TypeId} {α:Type} [Enc α] {l:List α} (ho:o.op = .call { callee := .builtin .len,args:=#[x],argTypes:=#[t] }) (ht:P.underlying t=some (.slice e))
  (hx:σ.ev x=some (.own id)) (he:σ.ent id=some (Ent.arrOf E l)):RO P F σ o (.d (.lit (.int .i64 l.length))):=fun H a w r=>by
 have hv:=r.ev hx;obtain ⟨v,hH,hr⟩:=r.ent id _ he;obtain ⟨ad,c,hv'⟩:∃ ad c,a.eval x = .slice ad l.length c:=by
  generalize a.eval x=u at hv;cases hv with
  | own _ _ h _=>
   rw [hH] at h;cases h;cases hr with
   | arr _ _ _ _ _ xs _ hown=>
    rcases hown.form with ⟨h1,h2⟩ | ⟨b,off,c,h1⟩
    ·refine ⟨none,0,?_⟩;rw [h1];congr 1;simpa using h2.symm
    ·exact ⟨_,c,by simpa using h1⟩
 exact ⟨.int .i64 l.length,fun w' _=>by simp [execOp,ho,resolve,invoke,builtin,Builtin.len_,run_underlying ht,hv',goInt],.int _ _ _ _ _⟩
theorem RO.len_str {x:Operand} {t:TypeId} {s:ByteArray} (ho:o.op = .call { callee := .builtin .len,args:=#[x],argTypes:=#[t] }) (ht:P.underlying t=some .string)
  (hx:σ.ev x=some (.d (.lit (.string s)))):RO P F σ o (.d (.lit (.int .i64 s.size))):=fun H a w r=>
 ⟨.int .i64 s.size,fun w' _=>by simp [execOp,ho,resolve,invoke,builtin,Builtin.len_,run_underlying ht,r.lit hx,goInt],.int _ _ _ _ _⟩
def ix {α:Type} [Inhabited α] (l:List α) (i:Int):α:=l.getD i.toNat default
theorem zbD (b off n:Nat):(⟨b,off,none⟩:Addr).add n=⟨b,off+n,none⟩:=by
 unfold Addr.add;split
 ·rename_i h;subst h;rfl
 ·rfl
theorem RO.idx {t e:TypeId} {x i:Operand} {k:IntKind} {j:Int} {α:Type} [Enc α] [Inhabited α] {l:List α} {dsc:Bool} {bytes:Nat} {z:Value}
  (ho:o.op = .indexAddr t x i) (ht:P.underlying t=some (.slice e)) (he:TI P e dsc (Enc.sz α) bytes z)
  (hx:σ.ev x=some (.d (enc l))) (hi:σ.ev i=some (.d (.lit (.int k j)))) (hj:0<=j/\j < l.length):RO P F σ o (.addr (enc (ix l j))):=fun H a w r=>by
 have hv:=r.ev hx;have hi':=r.lit hi;obtain ⟨n,rfl⟩:∃ n:Nat,j=n:=⟨j.toNat,by omega⟩;have hn:n < l.length:=by omega
 have hD:(l.map enc).getD n default=enc (ix l n):=by simp [ix,List.getD_eq_getElem?_getD,hn]
 generalize hu:a.eval x=u at hv;cases hv with
 | d _ _ h=>
  generalize hd:(enc l:D)=dd at h;cases h with
  | lit=>cases hd
  | ptr=>cases hd
  | agg=>cases hd
  | nil=>injection hd with h1 h2;simp at h2;subst h2;simp at hn
  | sl bts ll b off c sz f h0 hsz hb hc hm hbt hcs hcell hrel=>
   injection hd with h1 h2
   subst h2;have hszα:sz=Enc.sz α:=by rw [<- hcs n (by simpa using hn),hD];exact Enc.hsz _
   subst hszα;refine ⟨.pointer (some ⟨b,off+n * Enc.sz α,none⟩),fun w' _ => ?_,?_⟩
   ·have hlt:(n:Int) < (l.map enc).length:=by simpa using hn
    simp [execOp,ho,Instr.indexAt,hu,hi',asIntOf,run_underlying ht,hn,he.size,zbD]
   ·have hlen:(enc (ix l (n:Int)):D).cells.length=Enc.sz α:=Enc.hsz _;refine .addr _ b _ (fun k=>f (n * Enc.sz α+k)) hb (fun k hk => ?_) (fun k hk => ?_)
    ·rw [hlen] at hk;have:=hcell (n * Enc.sz α+k) (by
      have h1:n * Enc.sz α+k < (n+1) * Enc.sz α:=by rw [Nat.add_mul];omega
      have h2:(n+1) * Enc.sz α<=(l.map enc).length * Enc.sz α:=Nat.mul_le_mul_right _ (by simp;omega);omega)
     rw [<- this,Nat.add_assoc]
    ·rw [hlen] at hk;rw [<- hD];exact hrel n (by simpa using hn) k hk
theorem RO.idx_own {t e:TypeId} {x i:Operand} {k:IntKind} {j:Int} {id:Nat} {E:TypeId} {α:Type} [Enc α] {l:List α} {dsc:Bool} {bytes:Nat} {z:Value}
  (ho:o.op = .indexAddr t x i) (ht:P.underlying t=some (.slice e)) (he:TI P e dsc (Enc.sz α) bytes z)
  (hx:σ.ev x=some (.own id)) (hl:σ.ent id=some (Ent.arrOf E l)) (hi:σ.ev i=some (.d (.lit (.int k j)))) (hj:0<=j/\j < l.length):RO P F σ o (.eptr id (Enc.sz α) j.toNat 0):=fun H a w r=>by
 have hv:=r.ev hx;have hi':=r.lit hi;obtain ⟨n,rfl⟩:∃ n:Nat,j=n:=⟨j.toNat,by omega⟩;have hn:n < l.length:=by omega
 obtain ⟨v,hH,hr⟩:=r.ent id _ hl;generalize hu:a.eval x=u at hv;cases hv with
 | own _ _ h _=>
  rw [hH] at h;cases h;cases hr with
  | arr _ _ _ _ _ xs _ hown=>
   rcases hown.form with ⟨h1,h2⟩ | ⟨b,off,c,h1⟩
   ·simp at h2;subst h2;simp at hn
   ·subst h1;refine ⟨.pointer (some ⟨b,off+n * Enc.sz α,none⟩),fun w' _ => ?_,?_⟩
    ·simp [execOp,ho,Instr.indexAt,hu,hi',asIntOf,run_underlying ht,hn,he.size,zbD]
    ·have:=VRel.eptr (w:=w) (S:=Sh F.X σ.ent H w) (H:=H) id (Enc.sz α) n 0 b off l.length c (by simpa using hH) hn;simpa using this
structure FA (P:Program) (s:TypeId) (i off:Nat) (ft:TypeId) (size:Nat):Prop where
 un:∃ fs:Array Field,P.underlying s=some (.struct fs)/\∃ f,fs[i]? =some f/\f.offset=off/\f.type=ft
 inf:∃ i,P.info? ft=some i/\i.size=size
 pos:0 < size
theorem FA.run {s i off ft size:Nat} (h:FA P s i off ft size) (b k:Nat) (w:World):(Instr.fieldAt s (.pointer (some ⟨b,k,none⟩)) i).run P w = .ok (.pointer (some ⟨b,k+off,none⟩)) w:=by
 obtain ⟨fs,hu,f,hf,rfl,rfl⟩:=h.un;obtain ⟨inf,hi,hs⟩:=h.inf;have hp:=h.pos;have hne : ¬ size=0:=by omega
 simp [Instr.fieldAt,run_underlying hu,hf,Instr.sureAddr,fieldPlace,sizeOf,typeInfo,hi,hs,hne,zbD]
theorem RO.fld_ptr {s:TypeId} {x:Operand} {i off ft size id k:Nat} (ho:o.op = .fieldAddr s x i) (hf:FA P s i off ft size) (hx:σ.ev x=some (.ptr id k)):RO P F σ o (.ptr id (k+off)):=fun H a w r=>by
 have hv:=r.ev hx;generalize hu:a.eval x=u at hv;cases hv with
 | ptr _ _ b h=>exact ⟨.pointer (some ⟨b,k+off,none⟩),fun w' _=>by simp [execOp,ho,hu,hf.run],.ptr id _ b h⟩
theorem RO.fld_eptr {s:TypeId} {x:Operand} {i off ft size id sz j k:Nat} (ho:o.op = .fieldAddr s x i) (hf:FA P s i off ft size) (hx:σ.ev x=some (.eptr id sz j k)):RO P F σ o (.eptr id sz j (k+off)):=fun H a w r=>by
 have hv:=r.ev hx;generalize hu:a.eval x=u at hv;cases hv with
 | eptr _ _ _ _ b o0 n c h hi=>
  refine ⟨.pointer (some ⟨b,o0+(j * sz+k)+off,none⟩),fun w' _=>by simp [execOp,ho,hu,hf.run],?_⟩;have:=VRel.eptr (w:=w) (S:=Sh F.X σ.ent H w) (H:=H) id sz j (k+off) b o0 n c h hi
  rwa [show o0+(j * sz+(k+off))=o0+(j * sz+k)+off by omega] at this
theorem RO.fld_addr {s:TypeId} {x:Operand} {i off ft size:Nat} {l:List D} {c:D} (ho:o.op = .fieldAddr s x i) (hf:FA P s i off ft size) (hx:σ.ev x=some (.addr (.agg l)))
  (hc:l[off]? =some c) (h1:c.cells=[c]):RO P F σ o (.addr c):=fun H a w r=>by
 have hv:=r.ev hx;generalize hu:a.eval x=u at hv;cases hv with
 | addr _ b k f hb hcell hrel=>
  refine ⟨.pointer (some ⟨b,k+off,none⟩),fun w' _=>by simp [execOp,ho,hu,hf.run],?_⟩;have hlt:off < l.length:=(List.getElem?_eq_some_iff.1 hc).1;refine .addr c b (k+off) (fun j=>f (off+j)) hb (fun j hj => ?_) (fun j hj => ?_)
  ·rw [h1] at hj;have:j=0:=by simpa using hj
   subst this;have:=hcell off hlt;simpa using this
  ·rw [h1] at hj ⊢;have:j=0:=by simpa using hj
   subst this;have:=hrel off hlt;simpa [D.cells,hc] using this
theorem RO.fld_addr_agg {s:TypeId} {x:Operand} {i off ft size:Nat} {l l':List D} (ho:o.op = .fieldAddr s x i) (hf:FA P s i off ft size) (hx:σ.ev x=some (.addr (.agg l)))
  (hc:(l.drop off).take size=l') (hl:l'.length=size):RO P F σ o (.addr (.agg l')):=fun H a w r=>by
 have hv:=r.ev hx;generalize hu:a.eval x=u at hv;cases hv with
 | addr _ b k f hb hcell hrel=>
  refine ⟨.pointer (some ⟨b,k+off,none⟩),fun w' _=>by simp [execOp,ho,hu,hf.run],?_⟩;subst hc;have hle:size<=l.length - off:=by simp at hl;omega
  refine .addr _ b (k+off) (fun j=>f (off+j)) hb (fun j hj => ?_) (fun j hj => ?_)
  ·have hj:j < size:=by simpa [D.cells,hl] using hj
   rw [Nat.add_assoc];exact hcell (off+j) (by simp [D.cells];omega)
  ·have hj:j < size:=by simpa [D.cells,hl] using hj
   have:=hrel (off+j) (by simp [D.cells];omega);simpa [D.cells,List.getD_eq_getElem?_getD,List.getElem?_take,hj] using this
theorem zel {t:TypeId} {dsc:TypeDesc} (ht:P.underlying t=some dsc) (hn:dAgg dsc=false) {w:World} {a:Addr} {v:Value} (h:w.cell? a=some v):(loadVar t a).run P w = .ok v w:=by
 unfold loadVar;simp [zek ht,hn,load,Sem.run,h]
theorem zem {t:TypeId} {dsc:Bool} {size bytes:Nat} {z:Value} (ht:TI P t dsc size bytes z) (hn:dsc=true) {w:World} {b off:Nat} {f:Nat->Value} (h:∀ j,j < size->w.cell? ⟨b,off+j,none⟩=some (f j)):
  (loadVar t ⟨b,off,none⟩).run P w = .ok (.agg ((Array.range size).map f)) w:=by
 unfold loadVar;have:=run_loadCells (P:=P) (w:=w) ⟨b,off,none⟩ size f (fun j hj=>by rw [zbD];exact h j hj);obtain ⟨d,hd,ha⟩:=ht.un;simp [zek hd,ha,hn,ht.size,this];exact (Array.ext' (by simp))
theorem zdf {w w':World} (h:Ext w w') {a:Addr} {v:Value} (hc:w.cell? a=some v):w'.cell? a=some v:=by
 rw [World.cell?_of_block (w:=w) (w':=w') (h.block _ (World.block_lt_of_cell? w a hc))];exact hc
theorem RO.ld_addr {t:TypeId} {dsc:TypeDesc} {x:Operand} {c:D} (ho:o.op = .load t x) (ht:P.underlying t=some dsc) (hn:dAgg dsc=false) (hx:σ.ev x=some (.addr c)) (h1:c.cells=[c]):RO P F σ o (.d c):=fun H a w r=>by
 have hv:=r.ev hx;generalize hu:a.eval x=u at hv;cases hv with
 | addr _ b k f hb hcell hrel=>
  have h0:=hcell 0 (by rw [h1];simp);refine ⟨f 0,fun w' he => ?_,?_⟩
  ·replace he:=he.resolve_left (by simp [zdF,ho])
   simp only [execOp,ho,hu,Instr.loadAt,Instr.sureAddr];have:=zel ht hn (zdf he h0);rw [Nat.add_zero] at this;simp [this]
  ·have:=hrel 0 (by rw [h1];simp);rw [h1] at this;exact .d _ _ (by simpa using this)
theorem RO.ld_addr_agg {t:TypeId} {dsc:Bool} {size bytes:Nat} {z:Value} {x:Operand} {l:List D} (ho:o.op = .load t x) (ht:TI P t dsc size bytes z) (hn:dsc=true) (hx:σ.ev x=some (.addr (.agg l))) (h1:l.length=size):RO P F σ o (.d (.agg l)):=fun H a w r=>by
 have hv:=r.ev hx;generalize hu:a.eval x=u at hv;cases hv with
 | addr _ b k f hb hcell hrel=>
  subst h1;refine ⟨.agg ((Array.range l.length).map f),fun w' he => ?_,?_⟩
  ·replace he:=he.resolve_left (by simp [zdF,ho])
   simp only [execOp,ho,hu,Instr.loadAt,Instr.sureAddr];have:=zem ht hn (fun j hj=>zdf he (hcell j hj));simp [this]
  ·refine .d _ _ (.agg l _ (by simp) fun i hi => ?_);have:=hrel i hi;simpa [D.cells,hi] using this
theorem RO.ld_ptr {t:TypeId} {dsc:TypeDesc} {x:Operand} {id k:Nat} {T:TypeId} {cells:List AV} {c:AV} (ho:o.op = .load t x) (ht:P.underlying t=some dsc) (hn:dAgg dsc=false) (hx:σ.ev x=some (.ptr id k))
  (he:σ.ent id=some (.box T cells)) (hc:cells[k]? =some c):RO P F σ o c:=fun H a w r=>by
 have hv:=r.ev hx;obtain ⟨v,hH,hr⟩:=r.ent id _ he;have hk:k < cells.length:=(List.getElem?_eq_some_iff.1 hc).1;generalize hu:a.eval x=u at hv;cases hv with
 | ptr _ _ b h=>
  rw [hH] at h;cases h;cases hr with
  | box _ _ _ cur hb hs hrel=>
   have h0:w.cell? ⟨b,k,none⟩=some (cur.getD k undef):=by
    rw [cell_of_row w b k cur T (0,0) hb];simp [hs,hk]
   refine ⟨cur.getD k undef,fun w' he => ?_,?_⟩
   ·replace he:=he.resolve_left (by simp [zdF,ho])
    simp only [execOp,ho,hu,Instr.loadAt,Instr.sureAddr];have:=zel ht hn (zdf he h0);simp [this]
   ·have:=hrel k hk;simpa [List.getD_eq_getElem?_getD,hc] using this
theorem RO.ld_ptr_agg {t:TypeId} {dsc:Bool} {size bytes:Nat} {z:Value} {x:Operand} {id:Nat} {T:TypeId} {cells:List AV} (ho:o.op = .load t x) (ht:TI P t dsc size bytes z) (hn:dsc=true) (hx:σ.ev x=some (.ptr id 0))
  (he:σ.ent id=some (.box T cells)) (hc:cells.length=size):RO P F σ o (.agg cells):=fun H a w r=>by
 have hv:=r.ev hx;obtain ⟨v,hH,hr⟩:=r.ent id _ he;subst hc;generalize hu:a.eval x=u at hv;cases hv with
 | ptr _ _ b h=>
  rw [hH] at h;cases h;cases hr with
  | box _ _ _ cur hb hs hrel=>
   refine ⟨.agg ((Array.range cells.length).map fun j=>cur.getD j undef),fun w' he => ?_,?_⟩
   ·replace he:=he.resolve_left (by simp [zdF,ho])
    simp only [execOp,ho,hu,Instr.loadAt,Instr.sureAddr];have:=zem ht hn (b:=b) (off:=0) (f:=fun j=>cur.getD j undef) (fun j hj=>zdf he (by
     rw [cell_of_row w b _ cur T (0,0) hb];simp [hs,hj]))
    simp [this]
   ·refine .agg cells _ (by simp) fun i hi => ?_
    have:=hrel i hi;simpa [hi] using this
def avs (x:D):List AV:=x.cells.map .d
theorem RO.ld_ptr_d {t:TypeId} {dsc:Bool} {size bytes:Nat} {z:Value} {x:Operand} {id:Nat} {T:TypeId} {y:D} {l:List D} (ho:o.op = .load t x) (ht:TI P t dsc size bytes z) (hn:dsc=true) (hx:σ.ev x=some (.ptr id 0))
  (he:σ.ent id=some (.box T (avs y))) (hy:y = .agg l) (hc:l.length=size):RO P F σ o (.d y):=fun H a w r=>by
 subst hy;obtain ⟨v,hv,hr⟩:=RO.ld_ptr_agg (P:=P) (F:=F) (σ:=σ) ho ht hn hx he (by simpa [avs,D.cells] using hc) H a w r;refine ⟨v,hv,?_⟩;generalize hcs:avs (.agg l)=cs at hr;cases hr with
 | agg _ arr hs h=>
  subst hcs;refine .d _ _ (.agg l arr (by simpa [avs,D.cells] using hs) fun i hi => ?_);have:=h i (by simpa [avs,D.cells] using hi);have he:(avs (.agg l)).getD i default = .d (l.getD i default):=by simp [avs,D.cells,List.getD_eq_getElem?_getD,hi]
  rw [he] at this;cases this with
  | d _ _ h=>exact h
theorem RO.ld_eptr {t:TypeId} {dsc:TypeDesc} {x:Operand} {id j:Nat} {E:TypeId} {α:Type} [Enc α] [Inhabited α] {l:List α} (ho:o.op = .load t x) (ht:P.underlying t=some dsc) (hn:dAgg dsc=false) (hx:σ.ev x=some (.eptr id 1 j 0))
  (he:σ.ent id=some (Ent.arrOf E l)) (h1:Enc.sz α=1) (hj:j < l.length) (hone:∀ y:α,(enc y).cells=[enc y]):RO P F σ o (.d (enc (l.getD j default))):=fun H a w r=>by
 have hv:=r.ev hx;obtain ⟨v,hH,hr⟩:=r.ent id _ he;generalize hu:a.eval x=u at hv;cases hv with
 | eptr _ _ _ _ b o0 n c h hi=>
  rw [hH] at h;cases h;cases hr with
  | arr _ _ _ _ _ xs hsz hown hbt hcs hrel=>
   have hxl:xs.length=l.length:=by have:=hown.1;simpa [h1] using this
   have hjx:j < xs.length:=by omega
   have hcell:w.cell? ⟨b,o0+j,none⟩=some (xs.getD j undef):=by
    have:=hown.cell j xs[j] (by simp [hjx]);simpa [List.getD_eq_getElem?_getD,hjx] using this
   refine ⟨xs.getD j undef,fun w' he => ?_,?_⟩
   ·replace he:=he.resolve_left (by simp [zdF,ho])
    simp only [execOp,ho,hu,Instr.loadAt,Instr.sureAddr];have:=zel ht hn (zdf he hcell);simp [this]
   ·have:=hrel j (by simpa using hj) 0 (by rw [h1];simp);have he':(l.map enc).getD j default=enc (l.getD j default):=by simp [List.getD_eq_getElem?_getD,hj]
    rw [he',hone,h1] at this;exact .d _ _ (by simpa using this)
theorem RO.extract {x:Operand} {i:Nat} {l:List AV} {y:AV} (ho:o.op = .extract x i) (hx:σ.ev x=some (.tup l)) (hy:l[i]? =some y):RO P F σ o y:=fun H a w r=>by
 have hv:=r.ev hx;have hi:i < l.length:=(List.getElem?_eq_some_iff.1 hy).1;generalize hu:a.eval x=u at hv;cases hv with
 | tup _ cs hs h=>
  have hg:cs[i]? =some (cs.getD i undef):=by simp [hs,hi]
  refine ⟨cs.getD i undef,fun w' _ => ?_,?_⟩
  ·simp only [execOp,ho,Instr.extract,hu,hg];rfl
  ·have:=h i hi;simpa [List.getD_eq_getElem?_getD,hy] using this
end
end Go.Ab
