import Derived.Test.YtajabcfngklacaaEv40n4
set_option linter.unusedVariables false
set_option linter.unusedSimpArgs false
set_option linter.unusedSectionVars false
namespace Go.Ab
noncomputable section
open Enc (enc)
section
variable {P:Program} {F:Fr} {σ:St} {o:Oper}
theorem RO.ld_ptr_sub {t:TypeId} {size bytes:Nat} {z:Value} {x:Operand} {id k:Nat} {T:TypeId} {cells:List AV} (l:o.op = .load t x) (n:TI P t true size bytes z) (p:σ.ev x=some (.ptr id k))
  (d:σ.ent id=some (.box T cells)) (C:k+size<=cells.length):RO P F σ o (.agg ((cells.drop k).take size)):=fun H a w r=>by
 have m:=r.ev p;obtain ⟨v,y,A⟩:=r.ent id _ d;generalize s:a.eval x=u at m;cases m with
 | ptr _ _ b h=>
  rw [y] at h;cases h;cases A with
  | box _ _ _ c B hs e=>
   refine ⟨.agg ((Array.range size).map fun j=>c.getD (k+j) undef),fun w' d => ?_,?_⟩
   ·replace d:=d.resolve_left (by simp [zmx,l])
    simp only [execOp,l,s,Instr.loadAt,Instr.sureAddr];have:=zmS n rfl (b:=b) (off:=k) (f:=fun j=>c.getD (k+j) undef) (fun j D=>zm8 d (by
     rw [cell_of_row w b _ c T (0,0) B];have:k+j < c.size:=by omega
     simp [this]))
    simp [this]
   ·refine .agg _ _ (by simp;omega) fun i q => ?_
    have g:i < size:=by simp at q;omega
    have:=e (k+i) (by omega);simpa [g,List.getD_eq_getElem?_getD] using this
theorem RO.ld_eptr_sub {t u:Ty} {T:TypeId} {bytes:Nat} {z:Value} {x:Operand} {id j k:Nat} {E:TypeId} {l:List t.den} {y:u.den} (J:o.op = .load T x) (M:TI P T u.agg u.sz bytes z) (U:σ.ev x=some (.eptr id t.sz j k))
  (p:σ.ent id=some (Ent.arrOf E l)) (N:j < l.length) (V:zu5 t (l.getD j t.dflt) k u=some y) (hk:k+u.sz<=t.sz):RO P F σ o (.d (encD u y)):=fun H a w r=>by
 have R:=r.ev U;obtain ⟨v,Z,hr⟩:=r.ent id _ p;have A:=zrU V;generalize S:a.eval x=q at R;cases R with
 | eptr _ _ _ _ b L n c h e=>
  rw [Z] at h;cases h;cases hr with
  | arr _ _ _ _ _ xs hsz s hbt hcs I=>
   have O:xs.length=l.length * t.sz:=by
    have:=s.1;simp only [List.length_map] at this;exact this
   have W:(j+1) * t.sz<=l.length * t.sz:=Nat.mul_le_mul_right _ N;have g:∀ i,i < u.sz->w.cell? ⟨b,L+(j * t.sz+k)+i,none⟩=some (xs.getD (j * t.sz+(k+i)) undef):=by
    intro i e;have B:j * t.sz+(k+i) < xs.length:=by rw [O,Nat.add_mul] at *; omega
    have:=s.cell (j * t.sz+(k+i)) xs[j * t.sz+(k+i)] (by simp [B]);rw [show L+(j * t.sz+k)+i=L+(j * t.sz+(k+i)) by omega,this];simp [List.getD_eq_getElem?_getD,B]
   have X:(l.map enc).getD j default=encD t (l.getD j t.dflt):=by
    simp only [List.getD_eq_getElem?_getD,List.getElem?_map,List.getElem?_eq_getElem N];rfl
   have C:∀ i,i < u.sz->DRel w (Sh F.X σ.ent H w) ((encD u y).cells.getD i default) (xs.getD (j * t.sz+(k+i)) undef):=by
    intro i e;have Q:=I j (by simpa using N) (k+i) (by show k+i < t.sz;omega);rw [X] at Q;have Y:(encD u y).cells.getD i default=(encD t (l.getD j t.dflt)).cells.getD (k+i) default:=by
     rw [<- A];simp [List.getD_eq_getElem?_getD,e]
    rw [Y];exact Q
   cases m:u.agg with
   | false=>
    have Q:=zxz m;obtain ⟨d,hd,D⟩:=M.un;rw [m] at D;refine ⟨xs.getD (j * t.sz+k) undef,fun w' p => ?_,?_⟩
    ·replace p:=p.resolve_left (by simp [zmx,J])
     simp only [execOp,J,S,Instr.loadAt,Instr.sureAddr];have:=zoJ hd D (zm8 p (g 0 (by omega)));simp only [Nat.add_zero] at this;simp [this]
    ·have:=C 0 (by omega);rw [ziq m] at this;exact .d _ _ (by simpa using this)
   | true=>
    rw [m] at M;refine ⟨.agg ((Array.range u.sz).map fun i=>xs.getD (j * t.sz+(k+i)) undef),fun w' p => ?_,?_⟩
    ·replace p:=p.resolve_left (by simp [zmx,J])
     simp only [execOp,J,S,Instr.loadAt,Instr.sureAddr];have:=zmS M rfl (b:=b) (off:=L+(j * t.sz+k)) (f:=fun i=>xs.getD (j * t.sz+(k+i)) undef) (fun i e=>zm8 p (g i e));simp [this]
    ·rw [zfi m];refine .d _ _ (.agg _ _ (by simp [zbg]) fun i e => ?_);have e:i < u.sz:=by rw [zbg] at e;exact e
     have:=C i e;simpa [e] using this
theorem RO.idx_str {t:TypeId} {x i:Operand} {k:IntKind} {a:List UInt8} {j:Int} (c:o.op = .index t x i) (d:P.underlying t=some .string)
  (e:σ.ev x=some (.d (.lit (.string ⟨⟨a⟩⟩)))) (f:σ.ev i=some (.d (.lit (.int k j)))) (g:0<=j/\j < a.length):RO P F σ o (.d (.lit (.int .u8 ((a.getD j.toNat 0).toNat)))):=fun H m w r=>by
 refine ⟨.int .u8 ((a.getD j.toNat 0).toNat),fun w' _ => ?_,.int _ _ _ _ _⟩;have h:=r.lit e;have l:=r.lit f;have hs:((ByteArray.mk ⟨a⟩).size:Int)=a.length:=rfl;have b:j.toNat < a.length:=by omega
 simp only [execOp,c,h,l,Sem.run_bind,run_index_string w' t _ k j d];rw [dif_pos (by rw [hs];exact g)];have:((ByteArray.mk ⟨a⟩)[j.toNat]'(by exact b))=a.getD j.toNat 0:=by
  simp only [List.getD_eq_getElem?_getD,List.getElem?_eq_getElem b];rfl
 rw [this];rfl
theorem RO.nilCheck {x:Operand} {y:AV} (e:o.op = .nilCheck x) (g:σ.ev x=some y) (h:(∃ i k,y = .ptr i k)\/(∃ d,y = .addr d)\/(∃ i s j k,y = .eptr i s j k)\/∃ f c,y = .fn f c):RO P F σ o y:=fun H a w r=>by
 have b:=r.ev g;refine ⟨a.eval x,fun w' _ => ?_,b⟩;generalize l:a.eval x=u at b;rcases h with ⟨i,k,rfl⟩ | ⟨d,rfl⟩ | ⟨i,s,j,k,rfl⟩ | ⟨f,c,rfl⟩<;>cases b<;>simp [execOp,e,l]
theorem RO.nilTree {x:Operand} {y z:D} (j:o.op = .nilCheck x) (k:σ.ev x=some (.d y)) (l:y = .ptr z):RO P F σ o (.addr z):=fun H a w r=>by
 have c:=r.ev k;subst l;refine ⟨a.eval x,fun w' _ => ?_,?_⟩
 ·generalize m:a.eval x=u at c;cases c with
  | d _ _ h=>cases h with
   | ptr _ b off f e g i=>simp [execOp,j,m]
 ·generalize a.eval x=u at c;cases c with
  | d _ _ h=>cases h with
   | ptr _ b off f e g i=>exact .addr _ b off f e g i
theorem RO.conv_int {t u:TypeId} {x:Operand} {j k:IntKind} {n:Int} (b:o.op = .convert t u x) (c:∃ d,P.underlying t=some d) (e:P.underlying u=some (.int k)) (f:σ.ev x=some (.d (.lit (.int j n)))):RO P F σ o (.d (.lit (.int k (k.wrap n)))):=fun H a w r=>by
 refine ⟨.int k (k.wrap n),fun w' _ => ?_,.int _ _ _ _ _⟩;obtain ⟨d,g⟩:=c;simp [execOp,b,r.lit f,convert,run_underlying g,run_underlying e,Conv.intToInt]
theorem zwY {n:Int} (h:0<=n/\n < 128):Utf8.encode n=⟨⟨[UInt8.ofNat n.toNat]⟩⟩:=by
 have a:Utf8.valid n=true:=by
  unfold Utf8.valid;simp;omega
 unfold Utf8.encode;simp only [a,if_true];rw [if_pos (by omega)]
theorem RO.conv_str {t u:TypeId} {x:Operand} {j:IntKind} {n:Int} (b:o.op = .convert t u x) (c:∃ d,P.underlying t=some d) (e:P.underlying u=some .string) (f:σ.ev x=some (.d (.lit (.int j n)))) (g:0<=n/\n < 128):RO P F σ o (.d (.lit (.string ⟨⟨[UInt8.ofNat n.toNat]⟩⟩))):=fun H a w r=>by
 refine ⟨.string ⟨⟨[UInt8.ofNat n.toNat]⟩⟩,fun w' _ => ?_,.d _ _ (.lit _ rfl)⟩;obtain ⟨d,h⟩:=c;simp [execOp,b,r.lit f,convert,run_underlying h,run_underlying e,Conv.intToString,zwY g]
end
end
end Go.Ab
