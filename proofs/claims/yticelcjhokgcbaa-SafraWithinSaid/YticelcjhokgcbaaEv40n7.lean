import Derived.Test.YticelcjhokgcbaaEv40n6
set_option linter.unusedVariables false
set_option linter.unusedSimpArgs false
set_option linter.unusedSectionVars false
namespace Go.Ab
noncomputable section
open Enc (enc)
def zwi:(t:Ty)->t.den->Nat->(u:Ty)->u.den->Option t.den
 | .pair a b,x,k,u,y=>bif Nat.beq k 0 && Ty.beq u (.pair a b) then zbw u (.pair a b) y else
   bif Nat.blt k a.sz then (match zwi a x.1 k u y with
    | some z=>some (z,x.2)
    | none=>none) else (match zwi b x.2 (k - a.sz) u y with
    | some z=>some (x.1,z)
    | none=>none)
 | t,_,k,u,y=>bif Nat.beq k 0 then zbw u t y else none
theorem zxQ:∀ {t:Ty} {x:t.den} {k:Nat} {u:Ty} {y:u.den} {z:t.den},zwi t x k u y=some z->
  k+u.sz<=t.sz/\(encD t z).cells=(encD t x).cells.take k++(encD u y).cells++(encD t x).cells.drop (k+u.sz):=by
 have base:∀ {t:Ty} {x:t.den} {k:Nat} {u:Ty} {y:u.den} {z:t.den},(bif Nat.beq k 0 then zbw u t y else none)=some z->
   k+u.sz<=t.sz/\(encD t z).cells=(encD t x).cells.take k++(encD u y).cells++(encD t x).cells.drop (k+u.sz):=by
  intro t x k u y z h;obtain ⟨hb,h⟩:=zab h;obtain ⟨rfl,rfl⟩:=za6 h;have:=Nat.eq_of_beq_eq_true hb;subst this;refine ⟨by omega,?_⟩
  rw [Nat.zero_add,List.take_zero,List.nil_append,List.drop_of_length_le (by rw [zaF];exact Nat.le_refl _),List.append_nil]
 intro t
 induction t with
 | pair a b iha ihb=>
  intro x k u y z h;rw [zwi] at h
  cases hb:(Nat.beq k 0 && Ty.beq u (.pair a b)) with
  | true=>
   rw [hb] at h;simp only [Bool.and_eq_true] at hb;exact base (t := .pair a b) (x:=x) (k:=k) (by rw [hb.1];exact h)
  | false=>
   rw [hb] at h;simp only [cond_false] at h;have hl:=zaF a x.1;have hc:∀ q:(Ty.pair a b).den,(encD (.pair a b) q).cells=(encD a q.1).cells++(encD b q.2).cells:=fun _=>rfl
   have hsz:(Ty.pair a b).sz=a.sz+b.sz:=rfl
   cases hk:Nat.blt k a.sz with
   | true=>
    rw [hk] at h;simp only [cond_true] at h
    split at h
    ·rename_i z1 h1
     cases h;obtain ⟨g1,g2⟩:=iha h1;refine ⟨by omega,?_⟩
     rw [hc,hc,g2,List.take_append_of_le_length (by omega),List.drop_append_of_le_length (by omega)]
     simp only [List.append_assoc]
    ·cases h
   | false=>
    rw [hk] at h;simp only [cond_false] at h;have hk':a.sz<=k:=by
     have : ¬ k < a.sz:=fun h=>by
      have:Nat.blt k a.sz=true:=by simpa using h
      rw [this] at hk;cases hk
     omega
    split at h
    ·rename_i z1 h1
     cases h;obtain ⟨g1,g2⟩:=ihb h1;refine ⟨by omega,?_⟩
     rw [hc,hc,g2,List.take_append,List.drop_append,List.take_of_length_le (l:=(encD a x.1).cells) (by omega),List.drop_of_length_le (l:=(encD a x.1).cells) (by omega),hl]
     have:k+u.sz - a.sz=k - a.sz+u.sz:=by omega
     rw [this];simp only [List.append_assoc,List.nil_append]
    ·cases h
 | int q=>intro x k u y z h;exact base (show (bif Nat.beq k 0 then zbw u _ y else none)=some z from h)
 | bool=>intro x k u y z h;exact base (show (bif Nat.beq k 0 then zbw u _ y else none)=some z from h)
 | str=>intro x k u y z h;exact base (show (bif Nat.beq k 0 then zbw u _ y else none)=some z from h)
 | list t=>intro x k u y z h;exact base (show (bif Nat.beq k 0 then zbw u _ y else none)=some z from h)
 | tree t=>intro x k u y z h;exact base (show (bif Nat.beq k 0 then zbw u _ y else none)=some z from h)
 | unit=>intro x k u y z h;exact base (show (bif Nat.beq k 0 then zbw u _ y else none)=some z from h)
section
variable {P:Program} {F:Fr} {σ:St} {o:Oper}
theorem EF.st_eptr_sub {T:TypeId} {x y:Operand} {id j k E bytes:Nat} {z:Value} {t u:Ty} {l:List t.den} {c:u.den} {e:t.den} (hd:o.dst=none)
  (ho:o.op = .store T x y) (ht:TI P T u.agg u.sz bytes z) (hx:σ.ev x=some (.eptr id t.sz j k)) (he:σ.ent id=some (Ent.arrOf E l)) (hy:σ.ev y=some (.d (encD u c)))
  (hj:j < l.length) (hs:zwi t (l.getD j t.dflt) k u c=some e):
  EF P F σ o (·=σ.put id (some (Ent.arrOf E (l.set j e)))):=by
 intro a w ⟨H,r⟩;obtain ⟨hks,hcells⟩:=zxQ hs;have hv:=r.ev hx;obtain ⟨hcs,hcr⟩:=zhf (r.ev hy) rfl;obtain ⟨v,hH,hr⟩:=r.ent id _ he;generalize hu:a.eval x=q at hv
 cases hv with
 | eptr _ _ _ _ b o0 n cc h hi=>
  rw [hH] at h;cases h
  cases hr with
  | arr _ _ _ _ _ xs hszp hown hbnd hcss hrel=>
   have hn:n=l.length:=by
    rcases hown.form with ⟨h,_⟩ | ⟨_,_,_,h⟩
    ·cases h
    ·cases h;simp
   subst hn;have hlen0:(l.map (enc:t.den->D)).length=l.length:=by simp
   rw [hlen0] at hown;have hxl:xs.length=l.length * t.sz:=hown.1;have havc:(zay (.d (encD u c))).length=u.sz:=by simp [zay,avs,zaF]
   have hlen:(a.eval y).cells.toList.length=u.sz:=by rw [Array.length_toList,hcs,havc]
   have hcd:∀ i,i < u.sz->DRel w (Sh F.X σ.ent H w) ((encD u c).cells.getD i default) ((a.eval y).cells.getD i undef):=by
    intro i hi;have:=hcr i (by rw [havc];exact hi)
    have hi':i < (encD u c).cells.length:=by rw [zaF];exact hi
    have e:(zay (.d (encD u c))).getD i default = .d ((encD u c).cells.getD i default):=by simp [zay,avs,List.getD_eq_getElem?_getD,hi']
    rw [e] at this
    cases this with | d _ _ h=>exact h
   have h1:∀ v∈(a.eval y).cells.toList,v.oneCell'=true:=by
    intro v hv;obtain ⟨i,hi,rfl⟩:=List.mem_iff_getElem.1 hv;have hi':i < u.sz:=by omega
    have h2:=hcd i hi';have h4:(a.eval y).cells.getD i undef=(a.eval y).cells.toList[i]:=by
     have:i < (a.eval y).cells.size:=by simpa using hi
     simp [this]
    rw [h4] at h2;exact h2.one (Enc.cell_one (α:=u.den) _ _)
   have hjl:(j+1) * t.sz<=l.length * t.sz:=Nat.mul_le_mul_right _ hj;have hjl':j * t.sz+t.sz<=l.length * t.sz:=by rw [Nat.add_mul] at hjl;omega
   have hfit:j * t.sz+k+(a.eval y).cells.toList.length<=l.length * t.sz:=by
    rw [hlen];omega
   obtain ⟨w',hst,hgr,hown'⟩:=zpG (P:=P) hown (j * t.sz+k) _ h1 hfit;have hrun:(storeVar T ⟨b,o0+(j * t.sz+k),none⟩ (a.eval y)).run P w = .ok () w':=by
    unfold storeVar;have : ¬ (a.eval y).cells.size≠u.sz:=by
     have:(a.eval y).cells.size=u.sz:=by simpa using hlen
     rw [this];simp
    simp only [Sem.run_bind,ht.size,Result.andThen_ok,if_neg this,hst]
   have r1:=r.upd (e':=Ent.arrOf E (l.set j e)) he hH (b:=b) rfl hgr (.arr E _ _ _ _ (xs.take (j * t.sz+k)++(a.eval y).cells.toList++xs.drop (j * t.sz+k+(a.eval y).cells.toList.length)) hszp (by simpa using hown') (by simpa using hbnd)
    (fun i hi=>by
     have hi:i < (l.set j e).length:=by simpa using hi
     have:((l.set j e).map (enc:t.den->D)).getD i default=enc (l.set j e)[i]:=by simp only [List.getD_eq_getElem?_getD,List.getElem?_map,List.getElem?_eq_getElem hi];rfl
     rw [this,Enc.hsz])
    (fun i hi m hm=>by
     have hil:i < l.length:=by simpa using hi
     have hm:m < t.sz:=hm;have hS:∀ c',Sh F.X σ.ent H w c'->Sh F.X σ.ent H w c'/\w'.heap[c']? =w.heap[c']? :=fun c' hc'=>⟨hc',hgr.block c' hc'.1 fun h=>hc'.2.2 id _ _ he hH (by rw [h];rfl)⟩
     have hg:=getElem?_splice xs (a.eval y).cells.toList (j * t.sz+k) (i * t.sz+m) (by rw [hlen,hxl];omega)
     have hold:=(hrel i (by simpa using hil) m hm).mono hS
     rw [zC0] at hold ⊢;rw [List.getD_eq_getElem?_getD (l:=List.take _ _++_++_),hg,hlen];by_cases hij:i=j
     ·subst hij;have e1:((l.set i e).map (enc:t.den->D)).getD i default=encD t e:=by simp [List.getD_eq_getElem?_getD,hil,zyu]
      have e0:(l.map (enc:t.den->D)).getD i default=encD t (l.getD i t.dflt):=by
       simp only [List.getD_eq_getElem?_getD,List.getElem?_map,List.getElem?_eq_getElem hil];rfl
      rw [e0] at hold;rw [e1,hcells];have hsp:=getElem?_splice (encD t (l.getD i t.dflt)).cells (encD u c).cells k m (by rw [zaF,zaF];omega)
      rw [zaF u c] at hsp;rw [List.getD_eq_getElem?_getD (l:=List.take _ _++_++_),hsp];by_cases hm1:m < k
      ·rw [if_pos hm1,if_pos (show i * t.sz+m < i * t.sz+k by omega)]
       simpa [List.getD_eq_getElem?_getD] using hold
      ·rw [if_neg hm1,if_neg (show ¬ i * t.sz+m < i * t.sz+k by omega)]
       by_cases hm2:m < k+u.sz
       ·rw [if_pos hm2,if_pos (show i * t.sz+m < i * t.sz+k+u.sz by omega)]
        have:=(hcd (m - k) (by omega)).mono hS
        have e2:i * t.sz+m - (i * t.sz+k)=m - k:=by omega
        rw [e2];simpa [Array.getD_eq_getD_getElem?, List.getD_eq_getElem?_getD] using this
       ·rw [if_neg hm2,if_neg (show ¬ i * t.sz+m < i * t.sz+k+u.sz by omega)]
        simpa [List.getD_eq_getElem?_getD] using hold
     ·have e1:((l.set j e).map (enc:t.den->D)).getD i default=(l.map enc).getD i default:=by
       simp only [List.getD_eq_getElem?_getD,List.getElem?_map];rw [List.getElem?_set_ne (fun h=>hij h.symm)]
      rw [e1];have hsep:i * t.sz+m < j * t.sz+k\/j * t.sz+k+u.sz<=i * t.sz+m:=by
       rcases Nat.lt_or_gt_of_ne hij with h | h
       ·left
        have:(i+1) * t.sz<=j * t.sz:=Nat.mul_le_mul_right _ h;rw [Nat.add_mul] at this;omega
       ·right
        have:(j+1) * t.sz<=i * t.sz:=Nat.mul_le_mul_right _ h;rw [Nat.add_mul] at this;omega
      rcases hsep with h | h
      ·rw [if_pos h];simpa [List.getD_eq_getElem?_getD] using hold
      ·rw [if_neg (by omega),if_neg (by omega)];simpa [List.getD_eq_getElem?_getD] using hold))
   refine EF.void (w':=w') (by simp only [execOp,ho,Instr.storeAt,hu,Instr.sureAddr,Sem.run_bind,Sem.run_pure,Result.andThen_ok,hrun]) ⟨_,rfl,H,?_⟩
   rw [hd];exact r1
theorem RO.buildA {t e:TypeId} {n:Nat} {parts:Array (Nat×Operand)} {bytes size sz1 b1:Nat} {dsc d1:Bool} {z1:Value} {zs:Array Value} {xs:List (Nat×AV)} {cs':List AV}
  (ho:o.op = .build t parts) (ht:P.underlying t=some (.array n e)) (hz:TI P t dsc size bytes (.agg zs)) (he:TI P e d1 sz1 b1 z1)
  (hx:znh σ parts.toList xs) (hf:zp8 (fun i=>some (i * sz1,sz1)) (zs.toList.map avc) xs=some cs'):RO P F σ o (.agg cs'):=fun H a w r=>by
 obtain ⟨C',g1,g2,g3⟩:=zqs r (fun i=>some (i * sz1,sz1)) parts.toList xs (zs.toList.map avc) cs' zs hx hf (by simp) (fun j hj=>by
  have hj:j < zs.size:=by simpa using hj
  have e:(zs.toList.map avc).getD j default=avc (zs.getD j undef):=by simp [List.getD_eq_getElem?_getD,Array.getD_eq_getD_getElem?, hj]
  rw [e];exact zs4 w _ H _)
 refine ⟨.agg C',fun w' _ => ?_,.agg cs' C' g2 g3⟩
 have e2:(Value.agg zs).cells=zs:=rfl;simp only [execOp,ho,Instr.build,Sem.run_bind,hz.zero,Result.andThen_ok,run_underlying ht,he.size,e2,Array.toList_map];rw [g1];rfl
end
section
variable {P:Program} {F:Fr} {σ:St} {o:Oper}
theorem RO.idx_val {t e n:Nat} {x i:Operand} {k:IntKind} {j:Int} {te:Ty} {v:(vecT te n).den} {bytes:Nat} {z:Value} (ho:o.op = .index t x i) (ht:P.underlying t=some (.array n e)) (he:TI P e te.agg te.sz bytes z)
  (hx:σ.ev x=some (.d (encD (vecT te n) v))) (hi:σ.ev i=some (.d (.lit (.int k j)))) (hj:0<=j/\j < n) (hta:te.agg=false):RO P F σ o (.d (encD te (vget te n v j.toNat))):=fun H a w r=>by
 have hv:=r.ev hx;have hi':=r.lit hi;have hc:=zpq te n v j.toNat (by omega)
 have hag:(vecT te n).agg=true:=by cases n<;>rfl
 rw [zc7 hag] at hv;generalize (encD (vecT te n) v).cells=l at hc hv;generalize hu:a.eval x=u at hv;have hlen:(encD te (vget te n v j.toNat)).cells.length=te.sz:=zaF _ _;have hll:te.sz<=l.length - j.toNat * te.sz:=by
  have:=congrArg List.length hc;rw [hlen,List.length_take,List.length_drop] at this;omega
 cases hv with
 | d _ _ h=>
  cases h with
  | agg _ cs hs hr=>
   have hg:∀ q,q < te.sz->DRel w (Sh F.X σ.ent H w) ((encD te (vget te n v j.toNat)).cells.getD q default) (cs.getD (j.toNat * te.sz+q) undef):=by
    intro q hq;have:=hr (j.toNat * te.sz+q) (by omega)
    rw [<- hc];simpa [List.getD_eq_getElem?_getD,hq] using this
   obtain ⟨d,hd,hda⟩:=he.un;have h1:=zva hta;have hlt:j.toNat < cs.size:=by rw [hs];rw [h1] at hll;omega
   refine ⟨cs.getD j.toNat undef,fun w' _ => ?_,?_⟩
   ·have hcs:cs[j.toNat]? =some (cs.getD j.toNat undef):=by simp [hlt]
    simp only [execOp,ho,hu,hi',Instr.index,asIntOf,Sem.run_bind,Sem.run_pure,Result.andThen_ok,run_underlying ht,if_pos hj,he.size,part,zhF hd,hda,hta,h1,Nat.mul_one,hcs];rfl
   ·have:=hg 0 (by omega)
    rw [zeL hta,h1] at this;exact .d _ _ (by simpa using this)
end
end
end Go.Ab
