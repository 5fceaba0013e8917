import Derived.Test.YtmogekkikaelhaaEv40n4
set_option linter.unusedVariables false
set_option linter.unusedSimpArgs false
set_option linter.unusedSectionVars false
namespace Go.Ab
noncomputable section
open Enc (enc)
section
variable {P:Program} {F:Fr} {σ:St} {o:Oper}
theorem RO.ld_ptr_sub {t:TypeId} {size bytes:Nat} {z:Value} {x:Operand} {id k:Nat} {T:TypeId} {cells:List AV} (ho:o.op = .load t x) (ht:TI P t true size bytes z) (hx:σ.ev x=some (.ptr id k))
  (he:σ.ent id=some (.box T cells)) (hc:k+size<=cells.length):RO P F σ o (.agg ((cells.drop k).take size)):=fun H a w r=>by
 have hv:=r.ev hx;obtain ⟨v,hH,hr⟩:=r.ent id _ he;generalize hu:a.eval x=u at hv;cases hv with
 | ptr _ _ b h=>
  rw [hH] at h;cases h;cases hr with
  | box _ _ _ cur hb hs hrel=>
   refine ⟨.agg ((Array.range size).map fun j=>cur.getD (k+j) undef),fun w' he => ?_,?_⟩
   ·replace he:=he.resolve_left (by simp [zdF,ho])
    simp only [execOp,ho,hu,Instr.loadAt,Instr.sureAddr];have:=zem ht rfl (b:=b) (off:=k) (f:=fun j=>cur.getD (k+j) undef) (fun j hj=>zdf he (by
     rw [cell_of_row w b _ cur T (0,0) hb];have:k+j < cur.size:=by omega
     simp [this]))
    simp [this]
   ·refine .agg _ _ (by simp;omega) fun i hi => ?_
    have hi':i < size:=by simp at hi;omega
    have:=hrel (k+i) (by omega);simpa [hi',List.getD_eq_getElem?_getD] using this
theorem RO.ld_eptr_sub {t u:Ty} {T:TypeId} {bytes:Nat} {z:Value} {x:Operand} {id j k:Nat} {E:TypeId} {l:List t.den} {y:u.den} (ho:o.op = .load T x) (ht:TI P T u.agg u.sz bytes z) (hx:σ.ev x=some (.eptr id t.sz j k))
  (he:σ.ent id=some (Ent.arrOf E l)) (hj:j < l.length) (hy:zly t (l.getD j t.dflt) k u=some y) (hk:k+u.sz<=t.sz):RO P F σ o (.d (encD u y)):=fun H a w r=>by
 have hv:=r.ev hx;obtain ⟨v,hH,hr⟩:=r.ent id _ he;have hsub:=zjB hy;generalize hu:a.eval x=q at hv;cases hv with
 | eptr _ _ _ _ b o0 n c h hi=>
  rw [hH] at h;cases h;cases hr with
  | arr _ _ _ _ _ xs hsz hown hbt hcs hrel=>
   have hxl:xs.length=l.length * t.sz:=by
    have:=hown.1;simp only [List.length_map] at this;exact this
   have hle:(j+1) * t.sz<=l.length * t.sz:=Nat.mul_le_mul_right _ hj;have hcell:∀ i,i < u.sz->w.cell? ⟨b,o0+(j * t.sz+k)+i,none⟩=some (xs.getD (j * t.sz+(k+i)) undef):=by
    intro i hi;have hlt:j * t.sz+(k+i) < xs.length:=by rw [hxl,Nat.add_mul] at *; omega
    have:=hown.cell (j * t.sz+(k+i)) xs[j * t.sz+(k+i)] (by simp [hlt]);rw [show o0+(j * t.sz+k)+i=o0+(j * t.sz+(k+i)) by omega,this];simp [List.getD_eq_getElem?_getD,hlt]
   have hD:(l.map enc).getD j default=encD t (l.getD j t.dflt):=by
    simp only [List.getD_eq_getElem?_getD,List.getElem?_map,List.getElem?_eq_getElem hj];rfl
   have hrc:∀ i,i < u.sz->DRel w (Sh F.X σ.ent H w) ((encD u y).cells.getD i default) (xs.getD (j * t.sz+(k+i)) undef):=by
    intro i hi;have h1:=hrel j (by simpa using hj) (k+i) (by show k+i < t.sz;omega);rw [hD] at h1;have h2:(encD u y).cells.getD i default=(encD t (l.getD j t.dflt)).cells.getD (k+i) default:=by
     rw [<- hsub];simp [List.getD_eq_getElem?_getD,hi]
    rw [h2];exact h1
   cases hag:u.agg with
   | false=>
    have h1:=zoj hag;obtain ⟨d,hd,hda⟩:=ht.un;rw [hag] at hda;refine ⟨xs.getD (j * t.sz+k) undef,fun w' he => ?_,?_⟩
    ·replace he:=he.resolve_left (by simp [zdF,ho])
     simp only [execOp,ho,hu,Instr.loadAt,Instr.sureAddr];have:=zel hd hda (zdf he (hcell 0 (by omega)));simp only [Nat.add_zero] at this;simp [this]
    ·have:=hrc 0 (by omega);rw [zca hag] at this;exact .d _ _ (by simpa using this)
   | true=>
    rw [hag] at ht;refine ⟨.agg ((Array.range u.sz).map fun i=>xs.getD (j * t.sz+(k+i)) undef),fun w' he => ?_,?_⟩
    ·replace he:=he.resolve_left (by simp [zdF,ho])
     simp only [execOp,ho,hu,Instr.loadAt,Instr.sureAddr];have:=zem ht rfl (b:=b) (off:=o0+(j * t.sz+k)) (f:=fun i=>xs.getD (j * t.sz+(k+i)) undef) (fun i hi=>zdf he (hcell i hi));simp [this]
    ·rw [zbz hag];refine .d _ _ (.agg _ _ (by simp [zau]) fun i hi => ?_);have hi:i < u.sz:=by rw [zau] at hi;exact hi
     have:=hrc i hi;simpa [hi] using this
theorem RO.idx_str {t:TypeId} {x i:Operand} {k:IntKind} {a:List UInt8} {j:Int} (ho:o.op = .index t x i) (ht:P.underlying t=some .string)
  (hx:σ.ev x=some (.d (.lit (.string ⟨⟨a⟩⟩)))) (hi:σ.ev i=some (.d (.lit (.int k j)))) (hj:0<=j/\j < a.length):RO P F σ o (.d (.lit (.int .u8 ((a.getD j.toNat 0).toNat)))):=fun H ac w r=>by
 refine ⟨.int .u8 ((a.getD j.toNat 0).toNat),fun w' _ => ?_,.int _ _ _ _ _⟩;have h1:=r.lit hx;have h2:=r.lit hi;have hs:((ByteArray.mk ⟨a⟩).size:Int)=a.length:=rfl;have hn:j.toNat < a.length:=by omega
 simp only [execOp,ho,h1,h2,Sem.run_bind,run_index_string w' t _ k j ht];rw [dif_pos (by rw [hs];exact hj)];have:((ByteArray.mk ⟨a⟩)[j.toNat]'(by exact hn))=a.getD j.toNat 0:=by
  simp only [List.getD_eq_getElem?_getD,List.getElem?_eq_getElem hn];rfl
 rw [this];rfl
theorem zph (a:List UInt8) (i j:Nat):(ByteArray.mk ⟨a⟩).extract i j=ByteArray.mk ⟨(a.take j).drop i⟩:=by
 apply ByteArray.ext;apply Array.ext';simp [List.drop_take]
def bndR (σ:St) (x:Option Operand) (v:Int) (d:Int):Prop:=match x with
 | some o=>σ.ev o=some (.d (.lit (.int .i64 v)))
 | none=>v=d
theorem RO.sl_str {t:TypeId} {x:Operand} {lo hi:Option Operand} {a:List UInt8} {i j:Int} (ho:o.op = .slice t x lo hi none) (ht:P.underlying t=some .string)
  (hx:σ.ev x=some (.d (.lit (.string ⟨⟨a⟩⟩)))) (hlo:bndR σ lo i 0) (hhi:bndR σ hi j a.length) (h:0<=i/\i<=j/\j<=a.length):RO P F σ o (.d (.lit (.string ⟨⟨cut a i j⟩⟩))):=fun H ac w r=>by
 refine ⟨.string ⟨⟨cut a i j⟩⟩,fun w' _ => ?_,.str _ _ _ _⟩;have h1:=r.lit hx;have hs:(ByteArray.mk ⟨a⟩).size=a.length:=rfl;have hb:∀ (y:Nat) (c:BoundsCode) (v:Int),0<=v/\v<=y->(Instr.sliceBound (.int .i64 v) y c).run P w' = .ok v.toNat w':=by
  intro y c v hv;simp [Instr.sliceBound,asIntOf,hv]
 have hl:(Instr.sliceBounds false a.length a.length (lo.map ac.eval) (hi.map ac.eval) none).run P w' = .ok (i.toNat,j.toNat,a.length) w':=by
  have hj:(hi.map ac.eval=none/\j=a.length)\/hi.map ac.eval=some (.int .i64 j):=by
   cases hi with
   | none=>exact .inl ⟨rfl,hhi⟩
   | some y=>exact .inr (by rw [Option.map_some,r.lit hhi])
  have hi':(lo.map ac.eval=none/\i=0)\/lo.map ac.eval=some (.int .i64 i):=by
   cases lo with
   | none=>exact .inl ⟨rfl,hlo⟩
   | some y=>exact .inr (by rw [Option.map_some,r.lit hlo])
  have e1:((a.length:Int).toNat:Nat)=a.length:=by omega
  have hij:0<=i/\i<=(j.toNat:Int):=by omega
  have hj2:0<=j/\j<=(a.length:Int):=by omega
  rcases hj with ⟨h1,h2⟩ | h1<;>rcases hi' with ⟨h3,h4⟩ | h3<;>rw [h1,h3]<;>unfold Instr.sliceBounds
  ·subst h2 h4;simp
  ·subst h2;have:=hb a.length .sliceB i (by omega);simp [this]
  ·subst h4;have:=hb a.length .sliceAlen j (by omega);simp [this]
  ·have g1:=hb a.length .sliceAlen j (by omega);have g2:=hb j.toNat .sliceB i hij;simp [g1,g2]
 simp [execOp,ho,Instr.sliceAt,h1,Instr.slice,run_underlying ht,hs,hl,zph,cut]
theorem RO.nilCheck {x:Operand} {y:AV} (ho:o.op = .nilCheck x) (hx:σ.ev x=some y) (hy:(∃ i k,y = .ptr i k)\/(∃ d,y = .addr d)\/(∃ i s j k,y = .eptr i s j k)\/∃ f c,y = .fn f c):RO P F σ o y:=fun H a w r=>by
 have hv:=r.ev hx;refine ⟨a.eval x,fun w' _ => ?_,hv⟩;generalize hu:a.eval x=u at hv;rcases hy with ⟨i,k,rfl⟩ | ⟨d,rfl⟩ | ⟨i,s,j,k,rfl⟩ | ⟨f,c,rfl⟩<;>cases hv<;>simp [execOp,ho,hu]
theorem RO.nilTree {x:Operand} {y z:D} (ho:o.op = .nilCheck x) (hx:σ.ev x=some (.d y)) (hy:y = .ptr z):RO P F σ o (.addr z):=fun H a w r=>by
 have hv:=r.ev hx;subst hy;refine ⟨a.eval x,fun w' _ => ?_,?_⟩
 ·generalize hu:a.eval x=u at hv;cases hv with
  | d _ _ h=>cases h with
   | ptr _ b off f h1 h2 h3=>simp [execOp,ho,hu]
 ·generalize a.eval x=u at hv;cases hv with
  | d _ _ h=>cases h with
   | ptr _ b off f h1 h2 h3=>exact .addr _ b off f h1 h2 h3
theorem RO.conv_int {t u:TypeId} {x:Operand} {j k:IntKind} {n:Int} (ho:o.op = .convert t u x) (ht:∃ d,P.underlying t=some d) (hu:P.underlying u=some (.int k)) (hx:σ.ev x=some (.d (.lit (.int j n)))):RO P F σ o (.d (.lit (.int k (k.wrap n)))):=fun H a w r=>by
 refine ⟨.int k (k.wrap n),fun w' _ => ?_,.int _ _ _ _ _⟩;obtain ⟨d,hd⟩:=ht;simp [execOp,ho,r.lit hx,convert,run_underlying hd,run_underlying hu,Conv.intToInt]
theorem znB {n:Int} (h:0<=n/\n < 128):Utf8.encode n=⟨⟨[UInt8.ofNat n.toNat]⟩⟩:=by
 have h1:Utf8.valid n=true:=by
  unfold Utf8.valid;simp;omega
 unfold Utf8.encode;simp only [h1,if_true];rw [if_pos (by omega)]
theorem RO.conv_str {t u:TypeId} {x:Operand} {j:IntKind} {n:Int} (ho:o.op = .convert t u x) (ht:∃ d,P.underlying t=some d) (hu:P.underlying u=some .string) (hx:σ.ev x=some (.d (.lit (.int j n)))) (hn:0<=n/\n < 128):RO P F σ o (.d (.lit (.string ⟨⟨[UInt8.ofNat n.toNat]⟩⟩))):=fun H a w r=>by
 refine ⟨.string ⟨⟨[UInt8.ofNat n.toNat]⟩⟩,fun w' _ => ?_,.d _ _ (.lit _ rfl)⟩;obtain ⟨d,hd⟩:=ht;simp [execOp,ho,r.lit hx,convert,run_underlying hd,run_underlying hu,Conv.intToString,znB hn]
end
end
end Go.Ab
