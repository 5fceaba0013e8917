import Derived.Test.YtajabcfngklacaaEv40n6
set_option linter.unusedVariables false
set_option linter.unusedSimpArgs false
set_option linter.unusedSectionVars false
namespace Go.Ab
noncomputable section
open Enc (enc)
def zAg:(t:Ty)->t.den->Nat->(u:Ty)->u.den->Option t.den
 | .pair a b,x,k,u,y=>bif Nat.beq k 0 && Ty.beq u (.pair a b) then zcF u (.pair a b) y else
   bif Nat.blt k a.sz then (match zAg a x.1 k u y with
    | some z=>some (z,x.2)
    | none=>none) else (match zAg b x.2 (k - a.sz) u y with
    | some z=>some (x.1,z)
    | none=>none)
 | t,_,k,u,y=>bif Nat.beq k 0 then zcF u t y else none
theorem zAh:∀ {t:Ty} {x:t.den} {k:Nat} {u:Ty} {y:u.den} {z:t.den},zAg t x k u y=some z->
  k+u.sz<=t.sz/\(encD t z).cells=(encD t x).cells.take k++(encD u y).cells++(encD t x).cells.drop (k+u.sz):=by
 have base:∀ {t:Ty} {x:t.den} {k:Nat} {u:Ty} {y:u.den} {z:t.den},(bif Nat.beq k 0 then zcF u t y else none)=some z->
   k+u.sz<=t.sz/\(encD t z).cells=(encD t x).cells.take k++(encD u y).cells++(encD t x).cells.drop (k+u.sz):=by
  intro t x k u y z h;obtain ⟨c,h⟩:=zad h;obtain ⟨rfl,rfl⟩:=zcf h;have:=Nat.eq_of_beq_eq_true c;subst this;refine ⟨by omega,?_⟩;rw [Nat.zero_add,List.take_zero,List.nil_append,List.drop_of_length_le (by rw [zbg];exact Nat.le_refl _),List.append_nil]
 intro t;induction t with
 | pair a b i j=>
  intro x k u y z h;rw [zAg] at h;cases c:(Nat.beq k 0 && Ty.beq u (.pair a b)) with
  | true=>
   rw [c] at h;simp only [Bool.and_eq_true] at c;exact base (t := .pair a b) (x:=x) (k:=k) (by rw [c.1];exact h)
  | false=>
   rw [c] at h;simp only [cond_false] at h;have n:=zbg a x.1;have d:∀ q:(Ty.pair a b).den,(encD (.pair a b) q).cells=(encD a q.1).cells++(encD b q.2).cells:=fun _=>rfl
   have o:(Ty.pair a b).sz=a.sz+b.sz:=rfl;cases e:Nat.blt k a.sz with
   | true=>
    rw [e] at h;simp only [cond_true] at h;split at h
    ·rename_i m f;cases h;obtain ⟨r,g⟩:=i f;refine ⟨by omega,?_⟩;rw [d,d,g,List.take_append_of_le_length (by omega),List.drop_append_of_le_length (by omega)];simp only [List.append_assoc]
    ·cases h
   | false=>
    rw [e] at h;simp only [cond_false] at h;have p:a.sz<=k:=by
     have : ¬ k < a.sz:=fun h=>by
      have:Nat.blt k a.sz=true:=by simpa using h
      rw [this] at e;cases e
     omega
    split at h
    ·rename_i m f;cases h;obtain ⟨r,g⟩:=j f;refine ⟨by omega,?_⟩;rw [d,d,g,List.take_append,List.drop_append,List.take_of_length_le (l:=(encD a x.1).cells) (by omega),List.drop_of_length_le (l:=(encD a x.1).cells) (by omega),n];have:k+u.sz - a.sz=k - a.sz+u.sz:=by omega
     rw [this];simp only [List.append_assoc,List.nil_append]
    ·cases h
 | int q=>intro x k u y z h;exact base (show (bif Nat.beq k 0 then zcF u _ y else none)=some z from h)
 | bool=>intro x k u y z h;exact base (show (bif Nat.beq k 0 then zcF u _ y else none)=some z from h)
 | str=>intro x k u y z h;exact base (show (bif Nat.beq k 0 then zcF u _ y else none)=some z from h)
 | list t=>intro x k u y z h;exact base (show (bif Nat.beq k 0 then zcF u _ y else none)=some z from h)
 | tree t=>intro x k u y z h;exact base (show (bif Nat.beq k 0 then zcF u _ y else none)=some z from h)
 | unit=>intro x k u y z h;exact base (show (bif Nat.beq k 0 then zcF u _ y else none)=some z from h)
section
variable {P:Program} {F:Fr} {σ:St} {o:Oper}
theorem EF.st_eptr_sub {T:TypeId} {x y:Operand} {id j k E bytes:Nat} {z:Value} {t u:Ty} {l:List t.den} {c:u.den} {e:t.den} (hd:o.dst=none)
  (ho:o.op = .store T x y) (ht:TI P T u.agg u.sz bytes z) (hx:σ.ev x=some (.eptr id t.sz j k)) (he:σ.ent id=some (Ent.arrOf E l)) (hy:σ.ev y=some (.d (encD u c)))
  (hj:j < l.length) (hs:zAg t (l.getD j t.dflt) k u c=some e):
  EF P F σ o (·=σ.put id (some (Ent.arrOf E (l.set j e)))):=by
 intro a w ⟨H,r⟩;obtain ⟨hks,A⟩:=zAh hs;have hv:=r.ev hx;obtain ⟨hcs,hcr⟩:=zkK (r.ev hy) rfl;obtain ⟨v,hH,hr⟩:=r.ent id _ he;generalize hu:a.eval x=q at hv;cases hv with
 | eptr _ _ _ _ b o0 n cc h s=>
  rw [hH] at h;cases h;cases hr with
  | arr _ _ _ _ _ xs Z p a0 hcss a1=>
   have hn:n=l.length:=by
    rcases p.form with ⟨h,_⟩ | ⟨_,_,_,h⟩
    ·cases h
    ·cases h;simp
   subst hn;have I:(l.map (enc:t.den->D)).length=l.length:=by simp
   rw [I] at p;have hxl:xs.length=l.length * t.sz:=p.1;have B:(za6 (.d (encD u c))).length=u.sz:=by simp [za6,avs,zbg]
   have g:(a.eval y).cells.toList.length=u.sz:=by rw [Array.length_toList,hcs,B]
   have Q:∀ i,i < u.sz->DRel w (Sh F.X σ.ent H w) ((encD u c).cells.getD i default) ((a.eval y).cells.getD i undef):=by
    intro i s;have:=hcr i (by rw [B];exact s);have J:i < (encD u c).cells.length:=by rw [zbg];exact s
    have e:(za6 (.d (encD u c))).getD i default = .d ((encD u c).cells.getD i default):=by simp [za6,avs,List.getD_eq_getElem?_getD,J]
    rw [e] at this;cases this with | d _ _ h=>exact h
   have h1:∀ v∈(a.eval y).cells.toList,v.oneCell'=true:=by
    intro v hv;obtain ⟨i,s,rfl⟩:=List.mem_iff_getElem.1 hv;have J:i < u.sz:=by omega
    have h2:=Q i J;have h4:(a.eval y).cells.getD i undef=(a.eval y).cells.toList[i]:=by
     have:i < (a.eval y).cells.size:=by simpa using s
     simp [this]
    rw [h4] at h2;exact h2.one (Enc.cell_one (α:=u.den) _ _)
   have hjl:(j+1) * t.sz<=l.length * t.sz:=Nat.mul_le_mul_right _ hj;have hjl':j * t.sz+t.sz<=l.length * t.sz:=by rw [Nat.add_mul] at hjl;omega
   have R:j * t.sz+k+(a.eval y).cells.toList.length<=l.length * t.sz:=by
    rw [g];omega
   obtain ⟨w',hst,Y,N⟩:=zsh (P:=P) p (j * t.sz+k) _ h1 R;have S:(storeVar T ⟨b,o0+(j * t.sz+k),none⟩ (a.eval y)).run P w = .ok () w':=by
    unfold storeVar;have : ¬ (a.eval y).cells.size≠u.sz:=by
     have:(a.eval y).cells.size=u.sz:=by simpa using g
     rw [this];simp
    simp only [Sem.run_bind,ht.size,Result.andThen_ok,if_neg this,hst]
   have r1:=r.upd (e':=Ent.arrOf E (l.set j e)) he hH (b:=b) rfl Y (.arr E _ _ _ _ (xs.take (j * t.sz+k)++(a.eval y).cells.toList++xs.drop (j * t.sz+k+(a.eval y).cells.toList.length)) Z (by simpa using N) (by simpa using a0)
    (fun i s=>by
     have s:i < (l.set j e).length:=by simpa using s
     have:((l.set j e).map (enc:t.den->D)).getD i default=enc (l.set j e)[i]:=by simp only [List.getD_eq_getElem?_getD,List.getElem?_map,List.getElem?_eq_getElem s];rfl
     rw [this,Enc.hsz])
    (fun i s m hm=>by
     have L:i < l.length:=by simpa using s
     have hm:m < t.sz:=hm;have hS:∀ O,Sh F.X σ.ent H w O->Sh F.X σ.ent H w O/\w'.heap[O]? =w.heap[O]? :=fun O C=>⟨C,Y.block O C.1 fun h=>C.2.2 id _ _ he hH (by rw [h];rfl)⟩
     have hg:=getElem?_splice xs (a.eval y).cells.toList (j * t.sz+k) (i * t.sz+m) (by rw [g,hxl];omega);have f:=(a1 i (by simpa using L) m hm).mono hS;rw [zCW] at f ⊢;rw [List.getD_eq_getElem?_getD (l:=List.take _ _++_++_),hg,g];by_cases M:i=j
     ·subst M;have e1:((l.set i e).map (enc:t.den->D)).getD i default=encD t e:=by simp [List.getD_eq_getElem?_getD,L,zAN]
      have e0:(l.map (enc:t.den->D)).getD i default=encD t (l.getD i t.dflt):=by
       simp only [List.getD_eq_getElem?_getD,List.getElem?_map,List.getElem?_eq_getElem L];rfl
      rw [e0] at f;rw [e1,A];have U:=getElem?_splice (encD t (l.getD i t.dflt)).cells (encD u c).cells k m (by rw [zbg,zbg];omega);rw [zbg u c] at U;rw [List.getD_eq_getElem?_getD (l:=List.take _ _++_++_),U];by_cases W:m < k
      ·rw [if_pos W,if_pos (show i * t.sz+m < i * t.sz+k by omega)];simpa [List.getD_eq_getElem?_getD] using f
      ·rw [if_neg W,if_neg (show ¬ i * t.sz+m < i * t.sz+k by omega)];by_cases X:m < k+u.sz
       ·rw [if_pos X,if_pos (show i * t.sz+m < i * t.sz+k+u.sz by omega)];have:=(Q (m - k) (by omega)).mono hS;have e2:i * t.sz+m - (i * t.sz+k)=m - k:=by omega
        rw [e2];simpa [Array.getD_eq_getD_getElem?, List.getD_eq_getElem?_getD] using this
       ·rw [if_neg X,if_neg (show ¬ i * t.sz+m < i * t.sz+k+u.sz by omega)];simpa [List.getD_eq_getElem?_getD] using f
     ·have e1:((l.set j e).map (enc:t.den->D)).getD i default=(l.map enc).getD i default:=by
       simp only [List.getD_eq_getElem?_getD,List.getElem?_map];rw [List.getElem?_set_ne (fun h=>M h.symm)]
      rw [e1];have V:i * t.sz+m < j * t.sz+k\/j * t.sz+k+u.sz<=i * t.sz+m:=by
       rcases Nat.lt_or_gt_of_ne M with h | h
       ·left;have:(i+1) * t.sz<=j * t.sz:=Nat.mul_le_mul_right _ h;rw [Nat.add_mul] at this;omega
       ·right;have:(j+1) * t.sz<=i * t.sz:=Nat.mul_le_mul_right _ h;rw [Nat.add_mul] at this;omega
      rcases V with h | h
      ·rw [if_pos h];simpa [List.getD_eq_getElem?_getD] using f
      ·rw [if_neg (by omega),if_neg (by omega)];simpa [List.getD_eq_getElem?_getD] using f))
   refine EF.void (w':=w') (by simp only [execOp,ho,Instr.storeAt,hu,Instr.sureAddr,Sem.run_bind,Sem.run_pure,Result.andThen_ok,S]) ⟨_,rfl,H,?_⟩;rw [hd];exact r1
theorem RO.buildA {t e:TypeId} {n:Nat} {b:Array (Nat×Operand)} {bytes size c k:Nat} {dsc l:Bool} {m:Value} {d:Array Value} {xs:List (Nat×AV)} {f:List AV}
  (p:o.op = .build t b) (q:P.underlying t=some (.array n e)) (s:TI P t dsc size bytes (.agg d)) (u:TI P e l c k m)
  (v:zp6 σ b.toList xs) (x:zsO (fun i=>some (i * c,c)) (d.toList.map avc) xs=some f):RO P F σ o (.agg f):=fun H a w r=>by
 obtain ⟨h,z,A,B⟩:=zte r (fun i=>some (i * c,c)) b.toList xs (d.toList.map avc) f d v x (by simp) (fun j g=>by
  have g:j < d.size:=by simpa using g
  have e:(d.toList.map avc).getD j default=avc (d.getD j undef):=by simp [List.getD_eq_getElem?_getD,Array.getD_eq_getD_getElem?, g]
  rw [e];exact zvL w _ H _)
 refine ⟨.agg h,fun w' _ => ?_,.agg f h A B⟩;have y:(Value.agg d).cells=d:=rfl;simp only [execOp,p,Instr.build,Sem.run_bind,s.zero,Result.andThen_ok,run_underlying q,u.size,y,Array.toList_map];rw [z];rfl
end
section
variable {P:Program} {F:Fr} {σ:St} {o:Oper}
theorem RO.idx_val {t e n:Nat} {x i:Operand} {k:IntKind} {j:Int} {b:Ty} {v:(vecT b n).den} {bytes:Nat} {z:Value} (I:o.op = .index t x i) (J:P.underlying t=some (.array n e)) (E:TI P e b.agg b.sz bytes z)
  (L:σ.ev x=some (.d (encD (vecT b n) v))) (M:σ.ev i=some (.d (.lit (.int k j)))) (N:0<=j/\j < n) (c:b.agg=false):RO P F σ o (.d (encD b (vget b n v j.toNat))):=fun H a w r=>by
 have g:=r.ev L;have m:=r.lit M;have p:=zrZ b n v j.toNat (by omega);have s:(vecT b n).agg=true:=by cases n<;>rfl
 rw [zfi s] at g;generalize (encD (vecT b n) v).cells=l at p g;generalize R:a.eval x=u at g;have f:(encD b (vget b n v j.toNat)).cells.length=b.sz:=zbg _ _;have y:b.sz<=l.length - j.toNat * b.sz:=by
  have:=congrArg List.length p;rw [f,List.length_take,List.length_drop] at this;omega
 cases g with
 | d _ _ h=>
  cases h with
  | agg _ cs hs T=>
   have Q:∀ q,q < b.sz->DRel w (Sh F.X σ.ent H w) ((encD b (vget b n v j.toNat)).cells.getD q default) (cs.getD (j.toNat * b.sz+q) undef):=by
    intro q O;have:=T (j.toNat * b.sz+q) (by omega);rw [<- p];simpa [List.getD_eq_getElem?_getD,O] using this
   obtain ⟨d,S,D⟩:=E.un;have A:=zxz c;have B:j.toNat < cs.size:=by rw [hs];rw [A] at y;omega
   refine ⟨cs.getD j.toNat undef,fun w' _ => ?_,?_⟩
   ·have C:cs[j.toNat]? =some (cs.getD j.toNat undef):=by simp [B]
    simp only [execOp,I,R,m,Instr.index,asIntOf,Sem.run_bind,Sem.run_pure,Result.andThen_ok,run_underlying J,if_pos N,E.size,part,zk9 S,D,c,A,Nat.mul_one,C];rfl
   ·have:=Q 0 (by omega);rw [ziq c,A] at this;exact .d _ _ (by simpa using this)
end
end
end Go.Ab
