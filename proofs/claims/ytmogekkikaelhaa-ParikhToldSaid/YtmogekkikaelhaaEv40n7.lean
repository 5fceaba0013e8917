import Derived.Test.YtmogekkikaelhaaEv40n6
set_option linter.unusedVariables false
set_option linter.unusedSimpArgs false
set_option linter.unusedSectionVars false
namespace Go.Ab
noncomputable section
open Enc (enc)
def zpf:(t:Ty)->t.den->Nat->(u:Ty)->u.den->Option t.den
 | .pair a b,x,k,u,y=>bif Nat.beq k 0 && Ty.beq u (.pair a b) then zaL u (.pair a b) y else
   bif Nat.blt k a.sz then (match zpf a x.1 k u y with
    | some z=>some (z,x.2)
    | none=>none) else (match zpf b x.2 (k - a.sz) u y with
    | some z=>some (x.1,z)
    | none=>none)
 | t,_,k,u,y=>bif Nat.beq k 0 then zaL u t y else none
theorem zqB:∀ {t:Ty} {x:t.den} {k:Nat} {u:Ty} {y:u.den} {z:t.den},zpf t x k u y=some z->
  k+u.sz<=t.sz/\(encD t z).cells=(encD t x).cells.take k++(encD u y).cells++(encD t x).cells.drop (k+u.sz):=by
 have base:∀ {t:Ty} {x:t.den} {k:Nat} {u:Ty} {y:u.den} {z:t.den},(bif Nat.beq k 0 then zaL u t y else none)=some z->
   k+u.sz<=t.sz/\(encD t z).cells=(encD t x).cells.take k++(encD u y).cells++(encD t x).cells.drop (k+u.sz):=by
  intro t x k u y z h;obtain ⟨hb,h⟩:=zaa h;obtain ⟨rfl,rfl⟩:=zaz h;have:=Nat.eq_of_beq_eq_true hb;subst this;refine ⟨by omega,?_⟩;rw [Nat.zero_add,List.take_zero,List.nil_append,List.drop_of_length_le (by rw [zau];exact Nat.le_refl _),List.append_nil]
 intro t;induction t with
 | pair a b iha ihb=>
  intro x k u y z h;rw [zpf] at h;cases hb:(Nat.beq k 0 && Ty.beq u (.pair a b)) with
  | true=>
   rw [hb] at h;simp only [Bool.and_eq_true] at hb;exact base (t := .pair a b) (x:=x) (k:=k) (by rw [hb.1];exact h)
  | false=>
   rw [hb] at h;simp only [cond_false] at h;have hl:=zau a x.1;have hc:∀ q:(Ty.pair a b).den,(encD (.pair a b) q).cells=(encD a q.1).cells++(encD b q.2).cells:=fun _=>rfl
   have hsz:(Ty.pair a b).sz=a.sz+b.sz:=rfl;cases hk:Nat.blt k a.sz with
   | true=>
    rw [hk] at h;simp only [cond_true] at h;split at h
    ·rename_i z1 h1;cases h;obtain ⟨g1,g2⟩:=iha h1;refine ⟨by omega,?_⟩;rw [hc,hc,g2,List.take_append_of_le_length (by omega),List.drop_append_of_le_length (by omega)];simp only [List.append_assoc]
    ·cases h
   | false=>
    rw [hk] at h;simp only [cond_false] at h;have hk':a.sz<=k:=by
     have : ¬ k < a.sz:=fun h=>by
      have:Nat.blt k a.sz=true:=by simpa using h
      rw [this] at hk;cases hk
     omega
    split at h
    ·rename_i z1 h1;cases h;obtain ⟨g1,g2⟩:=ihb h1;refine ⟨by omega,?_⟩;rw [hc,hc,g2,List.take_append,List.drop_append,List.take_of_length_le (l:=(encD a x.1).cells) (by omega),List.drop_of_length_le (l:=(encD a x.1).cells) (by omega),hl];have:k+u.sz - a.sz=k - a.sz+u.sz:=by omega
     rw [this];simp only [List.append_assoc,List.nil_append]
    ·cases h
 | int q=>intro x k u y z h;exact base (show (bif Nat.beq k 0 then zaL u _ y else none)=some z from h)
 | bool=>intro x k u y z h;exact base (show (bif Nat.beq k 0 then zaL u _ y else none)=some z from h)
 | str=>intro x k u y z h;exact base (show (bif Nat.beq k 0 then zaL u _ y else none)=some z from h)
 | list t=>intro x k u y z h;exact base (show (bif Nat.beq k 0 then zaL u _ y else none)=some z from h)
 | tree t=>intro x k u y z h;exact base (show (bif Nat.beq k 0 then zaL u _ y else none)=some z from h)
 | unit=>intro x k u y z h;exact base (show (bif Nat.beq k 0 then zaL u _ y else none)=some z from h)
section
variable {P:Program} {F:Fr} {σ:St} {o:Oper}
theorem EF.st_eptr_sub {T:TypeId} {x y:Operand} {id j k E bytes:Nat} {z:Value} {t u:Ty} {l:List t.den} {c:u.den} {e:t.den} (hd:o.dst=none)
  (ho:o.op = .store T x y) (ht:TI P T u.agg u.sz bytes z) (hx:σ.ev x=some (.eptr id t.sz j k)) (he:σ.ent id=some (Ent.arrOf E l)) (hy:σ.ev y=some (.d (encD u c)))
  (hj:j < l.length) (hs:zpf t (l.getD j t.dflt) k u c=some e):
  EF P F σ o (·=σ.put id (some (Ent.arrOf E (l.set j e)))):=by
 intro a w ⟨H,r⟩;obtain ⟨hks,hcells⟩:=zqB hs;have hv:=r.ev hx;obtain ⟨hcs,hcr⟩:=zda (r.ev hy) rfl;obtain ⟨v,hH,hr⟩:=r.ent id _ he;generalize hu:a.eval x=q at hv;cases hv with
 | eptr _ _ _ _ b o0 n cc h hi=>
  rw [hH] at h;cases h;cases hr with
  | arr _ _ _ _ _ xs hszp hown hbnd hcss hrel=>
   have hn:n=l.length:=by
    rcases hown.form with ⟨h,_⟩ | ⟨_,_,_,h⟩
    ·cases h
    ·cases h;simp
   subst hn;have hlen0:(l.map (enc:t.den->D)).length=l.length:=by simp
   rw [hlen0] at hown;have hxl:xs.length=l.length * t.sz:=hown.1;have havc:(zap (.d (encD u c))).length=u.sz:=by simp [zap,avs,zau]
   have hlen:(a.eval y).cells.toList.length=u.sz:=by rw [Array.length_toList,hcs,havc]
   have hcd:∀ i,i < u.sz->DRel w (Sh F.X σ.ent H w) ((encD u c).cells.getD i default) ((a.eval y).cells.getD i undef):=by
    intro i hi;have:=hcr i (by rw [havc];exact hi);have hi':i < (encD u c).cells.length:=by rw [zau];exact hi
    have e:(zap (.d (encD u c))).getD i default = .d ((encD u c).cells.getD i default):=by simp [zap,avs,List.getD_eq_getElem?_getD,hi']
    rw [e] at this;cases this with | d _ _ h=>exact h
   have h1:∀ v∈(a.eval y).cells.toList,v.oneCell'=true:=by
    intro v hv;obtain ⟨i,hi,rfl⟩:=List.mem_iff_getElem.1 hv;have hi':i < u.sz:=by omega
    have h2:=hcd i hi';have h4:(a.eval y).cells.getD i undef=(a.eval y).cells.toList[i]:=by
     have:i < (a.eval y).cells.size:=by simpa using hi
     simp [this]
    rw [h4] at h2;exact h2.one (Enc.cell_one (α:=u.den) _ _)
   have hjl:(j+1) * t.sz<=l.length * t.sz:=Nat.mul_le_mul_right _ hj;have hjl':j * t.sz+t.sz<=l.length * t.sz:=by rw [Nat.add_mul] at hjl;omega
   have hfit:j * t.sz+k+(a.eval y).cells.toList.length<=l.length * t.sz:=by
    rw [hlen];omega
   obtain ⟨w',hst,hgr,hown'⟩:=zcH (P:=P) hown (j * t.sz+k) _ h1 hfit;have hrun:(storeVar T ⟨b,o0+(j * t.sz+k),none⟩ (a.eval y)).run P w = .ok () w':=by
    unfold storeVar;have : ¬ (a.eval y).cells.size≠u.sz:=by
     have:(a.eval y).cells.size=u.sz:=by simpa using hlen
     rw [this];simp
    simp only [Sem.run_bind,ht.size,Result.andThen_ok,if_neg this,hst]
   have r1:=r.upd (e':=Ent.arrOf E (l.set j e)) he hH (b:=b) rfl hgr (.arr E _ _ _ _ (xs.take (j * t.sz+k)++(a.eval y).cells.toList++xs.drop (j * t.sz+k+(a.eval y).cells.toList.length)) hszp (by simpa using hown') (by simpa using hbnd)
    (fun i hi=>by
     have hi:i < (l.set j e).length:=by simpa using hi
     have:((l.set j e).map (enc:t.den->D)).getD i default=enc (l.set j e)[i]:=by simp only [List.getD_eq_getElem?_getD,List.getElem?_map,List.getElem?_eq_getElem hi];rfl
     rw [this,Enc.hsz])
    (fun i hi m hm=>by
     have hil:i < l.length:=by simpa using hi
     have hm:m < t.sz:=hm;have hS:∀ c',Sh F.X σ.ent H w c'->Sh F.X σ.ent H w c'/\w'.heap[c']? =w.heap[c']? :=fun c' hc'=>⟨hc',hgr.block c' hc'.1 fun h=>hc'.2.2 id _ _ he hH (by rw [h];rfl)⟩
     have hg:=getElem?_splice xs (a.eval y).cells.toList (j * t.sz+k) (i * t.sz+m) (by rw [hlen,hxl];omega);have hold:=(hrel i (by simpa using hil) m hm).mono hS;rw [zkV] at hold ⊢;rw [List.getD_eq_getElem?_getD (l:=List.take _ _++_++_),hg,hlen];by_cases hij:i=j
     ·subst hij;have e1:((l.set i e).map (enc:t.den->D)).getD i default=encD t e:=by simp [List.getD_eq_getElem?_getD,hil,zq8]
      have e0:(l.map (enc:t.den->D)).getD i default=encD t (l.getD i t.dflt):=by
       simp only [List.getD_eq_getElem?_getD,List.getElem?_map,List.getElem?_eq_getElem hil];rfl
      rw [e0] at hold;rw [e1,hcells];have hsp:=getElem?_splice (encD t (l.getD i t.dflt)).cells (encD u c).cells k m (by rw [zau,zau];omega);rw [zau u c] at hsp;rw [List.getD_eq_getElem?_getD (l:=List.take _ _++_++_),hsp];by_cases hm1:m < k
      ·rw [if_pos hm1,if_pos (show i * t.sz+m < i * t.sz+k by omega)];simpa [List.getD_eq_getElem?_getD] using hold
      ·rw [if_neg hm1,if_neg (show ¬ i * t.sz+m < i * t.sz+k by omega)];by_cases hm2:m < k+u.sz
       ·rw [if_pos hm2,if_pos (show i * t.sz+m < i * t.sz+k+u.sz by omega)];have:=(hcd (m - k) (by omega)).mono hS;have e2:i * t.sz+m - (i * t.sz+k)=m - k:=by omega
        rw [e2];simpa [Array.getD_eq_getD_getElem?, List.getD_eq_getElem?_getD] using this
       ·rw [if_neg hm2,if_neg (show ¬ i * t.sz+m < i * t.sz+k+u.sz by omega)];simpa [List.getD_eq_getElem?_getD] using hold
     ·have e1:((l.set j e).map (enc:t.den->D)).getD i default=(l.map enc).getD i default:=by
       simp only [List.getD_eq_getElem?_getD,List.getElem?_map];rw [List.getElem?_set_ne (fun h=>hij h.symm)]
      rw [e1];have hsep:i * t.sz+m < j * t.sz+k\/j * t.sz+k+u.sz<=i * t.sz+m:=by
       rcases Nat.lt_or_gt_of_ne hij with h | h
       ·left;have:(i+1) * t.sz<=j * t.sz:=Nat.mul_le_mul_right _ h;rw [Nat.add_mul] at this;omega
       ·right;have:(j+1) * t.sz<=i * t.sz:=Nat.mul_le_mul_right _ h;rw [Nat.add_mul] at this;omega
      rcases hsep with h | h
      ·rw [if_pos h];simpa [List.getD_eq_getElem?_getD] using hold
      ·rw [if_neg (by omega),if_neg (by omega)];simpa [List.getD_eq_getElem?_getD] using hold))
   refine EF.void (w':=w') (by simp only [execOp,ho,Instr.storeAt,hu,Instr.sureAddr,Sem.run_bind,Sem.run_pure,Result.andThen_ok,hrun]) ⟨_,rfl,H,?_⟩;rw [hd];exact r1
theorem RO.buildA {t e:TypeId} {n:Nat} {parts:Array (Nat×Operand)} {bytes size sz1 b1:Nat} {dsc d1:Bool} {z1:Value} {zs:Array Value} {xs:List (Nat×AV)} {cs':List AV}
  (ho:o.op = .build t parts) (ht:P.underlying t=some (.array n e)) (hz:TI P t dsc size bytes (.agg zs)) (he:TI P e d1 sz1 b1 z1)
  (hx:zh3 σ parts.toList xs) (hf:zj9 (fun i=>some (i * sz1,sz1)) (zs.toList.map avc) xs=some cs'):RO P F σ o (.agg cs'):=fun H a w r=>by
 obtain ⟨C',g1,g2,g3⟩:=zkt r (fun i=>some (i * sz1,sz1)) parts.toList xs (zs.toList.map avc) cs' zs hx hf (by simp) (fun j hj=>by
  have hj:j < zs.size:=by simpa using hj
  have e:(zs.toList.map avc).getD j default=avc (zs.getD j undef):=by simp [List.getD_eq_getElem?_getD,Array.getD_eq_getD_getElem?, hj]
  rw [e];exact zmu w _ H _)
 refine ⟨.agg C',fun w' _ => ?_,.agg cs' C' g2 g3⟩;have e2:(Value.agg zs).cells=zs:=rfl;simp only [execOp,ho,Instr.build,Sem.run_bind,hz.zero,Result.andThen_ok,run_underlying ht,he.size,e2,Array.toList_map];rw [g1];rfl
end
section
variable {P:Program} {F:Fr} {σ:St} {o:Oper}
theorem EF.copy {t t' e k E:Nat} {x y:Operand} {te:Ty} {bytes:Nat} {z:Value} {xs ys:List te.den} {d:Nat} (hd:o.dst=some d) (hlt:Nat.blt d σ.n=true)
  (ho:o.op = .call { callee := .builtin .copy,args:=#[x,y],argTypes:=#[t,t'] }) (ht:P.underlying t=some (.slice e)) (he:TI P e te.agg te.sz bytes z)
  (hx:σ.ev x=some (.own k)) (hk:σ.ent k=some (Ent.arrOf E xs)) (hy:Src σ y ys):
  EF P F σ o (·=(σ.put k (some (Ent.arrOf E (ys.take xs.length++xs.drop ys.length)))).set d (.d (.lit (.int .i64 (min ys.length xs.length:Nat))))):=by
 intro a w ⟨H,r⟩;have hv:=r.ev hx;obtain ⟨v,hH,hr⟩:=r.ent k _ hk;obtain ⟨ad,c,news,hya,hnl,hnews,hnrel,hcn⟩:=hy.cells r;have hax:a.eval x=v:=by
  generalize a.eval x=u at hv;cases hv with
  | own _ _ h _=>rw [hH] at h;cases h;rfl
 have hnl:news.length=ys.length * te.sz:=hnl;cases hr with
 | arr _ _ _ _ _ cs hszp hown hbnd hcss hrel=>
  have hszp:0 < te.sz:=hszp;have hlen0:(xs.map (enc:te.den->D)).length=xs.length:=by simp
  rw [hlen0] at hown;have hown:zbN w E te.sz v xs.length cs:=hown;have hcl:cs.length=xs.length * te.sz:=hown.1;generalize hn:min ys.length xs.length=n;have hny:n<=ys.length:=by omega
  have hnx:n<=xs.length:=by omega
  have hns:n * te.sz<=ys.length * te.sz:=Nat.mul_le_mul_right _ hny;have hnxs:n * te.sz<=xs.length * te.sz:=Nat.mul_le_mul_right _ hnx;have htk:(news.take (n * te.sz)).length=n * te.sz:=by rw [List.length_take];omega
  have hone:∀ u∈news.take (n * te.sz),u.oneCell'=true:=by
   intro u hu;obtain ⟨j,hj,rfl⟩:=List.mem_iff_getElem.1 hu;rw [List.getElem_take];have hj':j < ys.length * te.sz:=by omega
   have hjn:j < news.length:=by omega
   have hi0:j / te.sz < ys.length:=by rw [Nat.div_lt_iff_lt_mul hszp];exact hj'
   have hd0:=hnrel (j / te.sz) hi0 (j % te.sz) (Nat.mod_lt _ hszp);have e1:j / te.sz * te.sz+j % te.sz=j:=by rw [Nat.mul_comm];exact Nat.div_add_mod _ _
   rw [zkV,e1] at hd0;have hg:news.getD j undef=news[j]:=by simp [List.getD_eq_getElem?_getD,hjn]
   have he':(ys.map (enc:te.den->D)).getD (j / te.sz) default=enc ys[j / te.sz]:=by simp [List.getD_eq_getElem?_getD,hi0]
   rw [hg,he'] at hd0;exact hd0.one (Enc.cell_one _ _)
  have hsrc:∀ (a0:Addr),ad=some a0->(loadCells a0 (n * te.sz)).run P w = .ok (news.take (n * te.sz)).toArray w:=by
   intro a0 ha0;have:=run_loadCells_list (P:=P) w a0 (news.take (n * te.sz)) (fun j u hj=>by
    have hjlt:j < n * te.sz:=by have:=(List.getElem?_eq_some_iff.1 hj).1;omega
    rw [List.getElem?_take,if_pos hjlt] at hj;obtain ⟨b,off,h1,h2⟩:=hnews j u hj;rw [ha0] at h1;cases h1;rw [zbD];exact h2)
   rw [htk] at this;exact this
  have hnone:ad=none->n=0:=by
   intro h;have:news=[]:=by
    cases news with
    | nil=>rfl
    | cons u us=>obtain ⟨b,off,h2,_⟩:=hnews 0 u rfl;rw [h] at h2;cases h2
   rw [this] at hnl;have:ys.length * te.sz=0:=by simpa using hnl.symm
   rcases Nat.mul_eq_zero.1 this with h | h<;>omega
  have hnewl:(ys.take xs.length++xs.drop ys.length).length=xs.length:=by
   simp only [List.length_append,List.length_take,List.length_drop];omega
  have hrelN:∀ (w':World) (hS:∀ b,Sh F.X σ.ent H w b->Sh F.X σ.ent H w b/\w'.heap[b]? =w.heap[b]?),∀ i,i < xs.length->∀ j,j < te.sz->
    DRel w' (Sh F.X σ.ent H w) ((((ys.take xs.length++xs.drop ys.length).map (enc:te.den->D)).getD i default).cells.getD j default) ((news.take (n * te.sz)++cs.drop (n * te.sz)).getD (i * te.sz+j) undef):=by
   intro w' hS i hi j hj;have hlt5:i * te.sz+j < (i+1) * te.sz:=by rw [Nat.add_mul];omega
   by_cases hin:i < n
   ·have h6:(i+1) * te.sz<=n * te.sz:=Nat.mul_le_mul_right _ hin;have e1:(ys.take xs.length++xs.drop ys.length)[i]? =ys[i]? :=by
     rw [List.getElem?_append_left (by rw [List.length_take];omega),List.getElem?_take,if_pos hi]
    have:=(hnrel i (by omega) j hj).mono hS;simp only [List.getD_eq_getElem?_getD,List.getElem?_map,e1] at this ⊢;rw [List.getElem?_append_left (by omega),List.getElem?_take,if_pos (by omega)];exact this
   ·have h6:n * te.sz<=i * te.sz:=Nat.mul_le_mul_right _ (by omega);have hyi:ys.length<=i:=by omega
    have e1:(ys.take xs.length++xs.drop ys.length)[i]? =xs[i]? :=by
     rw [List.getElem?_append_right (by rw [List.length_take];omega),List.getElem?_drop,List.length_take];congr 1;omega
    have:=(hrel i (by simpa using hi) j hj).mono hS;simp only [List.getD_eq_getElem?_getD,List.getElem?_map,e1,zkV] at this ⊢;rw [List.getElem?_append_right (by omega),htk,List.getElem?_drop];rw [show n * te.sz+(i * te.sz+j - n * te.sz)=i * te.sz+j by omega];exact this
  have key:∀ w',(Builtin.copy_ #[t,t'] o.type #[v,.slice ad ys.length c]).run P w = .ok (goInt n) w'->w.grownBy w' (blk v)->zbN w' E te.sz v xs.length (news.take (n * te.sz)++cs.drop (n * te.sz))->
    o.wp P a w (fun a' w'=>(∃ u,a'=a.put o.dst u)/\∃ σ',σ'=(σ.put k (some (Ent.arrOf E (ys.take xs.length++xs.drop ys.length)))).set d (.d (.lit (.int .i64 (n:Nat))))/\Rel F σ' a' w') (fun _ _ _=>False):=by
   intro w' hrun hgr hown';have hS:∀ b,Sh F.X σ.ent H w b->Sh F.X σ.ent H w b/\w'.heap[b]? =w.heap[b]? :=fun b hb=>⟨hb,hgr.block b hb.1 fun h=>hb.2.2 k _ v hk hH (by rw [h])⟩
   have hent:EntRel w' (Sh F.X σ.ent H w) H (Ent.arrOf E (ys.take xs.length++xs.drop ys.length)) v:=
    .arr E _ _ _ _ (news.take (n * te.sz)++cs.drop (n * te.sz)) hszp (by rw [List.length_map,hnewl];exact hown') (by rw [List.length_map,hnewl];rw [hlen0] at hbnd;exact hbnd)
     (fun i hi=>by
      have hi:i < (ys.take xs.length++xs.drop ys.length).length:=by simpa using hi
      have:((ys.take xs.length++xs.drop ys.length).map (enc:te.den->D)).getD i default=enc (ys.take xs.length++xs.drop ys.length)[i]:=by
       simp only [List.getD_eq_getElem?_getD,List.getElem?_map,List.getElem?_eq_getElem hi];rfl
      rw [this,Enc.hsz])
     (fun i hi j hj=>hrelN w' hS i (by rw [List.length_map,hnewl] at hi;exact hi) j hj)
   have r1:RelH F (σ.put k (some (Ent.arrOf E (ys.take xs.length++xs.drop ys.length)))) H a w':=by
    rcases hown.form with ⟨rfl,h0⟩ | ⟨b,off,cap,rfl⟩
    ·-- nothing there: the world is the same
     have hx0:xs=[]:=List.length_eq_zero_iff.1 h0;have r0:=r;have hw:∀ b,b < w.heap.size->w'.heap[b]? =w.heap[b]? :=fun b hb=>hgr.block b hb (by simp [blk])
     have rext:RelH F σ H a w':=r.ext ⟨hgr.os,hgr.tape,hgr.output,hgr.size,hw⟩;have hsame:Ent.arrOf E (ys.take xs.length++xs.drop ys.length)=Ent.arrOf E xs:=by rw [hx0];simp
     rw [hsame];refine { rext with ent:=fun j x h => ?_,own:=fun j x u c h => ?_,inj:=fun j j' x x' u u' c h h' => ?_,slot:=fun q x h => ?_ }
     all_goals
      have hent':∀ j,(σ.put k (some (Ent.arrOf E xs))).ent j=σ.ent j:=by
       intro j;rw [St.ent_put];by_cases hj:k=j
       ·subst hj;rw [if_pos rfl,hk]
       ·rw [if_neg hj]
     ·have hfe:(σ.put k (some (Ent.arrOf E xs))).ent=σ.ent:=funext hent';rw [hfe] at h ⊢;exact rext.ent j x h
     ·rw [hent'] at h;exact rext.own j x u c h
     ·rw [hent'] at h h';exact rext.inj j j' x x' u u' c h h'
     ·have hfe:(σ.put k (some (Ent.arrOf E xs))).ent=σ.ent:=funext hent';rw [hfe];exact rext.slot q x h
    ·exact r.upd hk hH (b:=b) rfl hgr hent
   have r2:=r1.set (d:=d) (x := .d (.lit (.int .i64 (n:Nat)))) (v:=goInt n) (show d < σ.n by simpa using hlt) (.int _ _ _ _ _);rw [<- hd] at r2;exact EF.value (v:=goInt n) (w':=w') (by simp [execOp,ho,resolve,invoke,builtin,hax,hya,hrun]) ⟨_,rfl,H,r2⟩
  rcases hown.form with ⟨rfl,h0⟩ | ⟨b,off,cap,rfl⟩
  ·have hn0:n=0:=by omega
   refine key w ?_ ⟨rfl,rfl,rfl,Nat.le_refl _,fun _ _ _=>rfl⟩ ?_
   ·have hm:Nat.min ys.length 0=0:=Nat.min_zero _;cases ad with
    | none=>simp [Builtin.copy_,run_underlying ht,Builtin.lenOf,Builtin.firstCells,he.size,hn0]
    | some a0=>
     have hl:=hsrc a0 rfl;rw [hn0] at hl;simp only [Nat.zero_mul,List.take_zero] at hl;simp [Builtin.copy_,run_underlying ht,Builtin.lenOf,Builtin.firstCells,he.size,hl,hn0]
   ·rw [hn0,Nat.zero_mul,List.take_zero,List.drop_zero,List.nil_append];exact hown
  ·obtain ⟨w',hst,hgr,hown'⟩:=zcH (P:=P) hown 0 (news.take (n * te.sz)) hone (by rw [htk];omega);rw [List.take_zero,List.nil_append,Nat.zero_add,htk] at hown';rw [Nat.add_zero] at hst;refine key w' ?_ hgr hown';have hmin:Nat.min ys.length xs.length=n:=hn;cases ad with
   | none=>
    have hn0:=hnone rfl;rw [hn0,Nat.zero_mul,List.take_zero] at hst;have hw:w'=w:=by
     have:(storeCells ⟨b,off,none⟩ ([]:List Value)).run P w = .ok () w:=rfl;rw [this] at hst;cases hst;rfl
    subst hw;simp [Builtin.copy_,run_underlying ht,Builtin.lenOf,Builtin.firstCells,he.size,hmin,hst,hn0]
   | some a0=>
    have hl:=hsrc a0 rfl;simp [Builtin.copy_,run_underlying ht,Builtin.lenOf,Builtin.firstCells,he.size,hmin,hl,hst]
theorem RO.idx_val {t e n:Nat} {x i:Operand} {k:IntKind} {j:Int} {te:Ty} {v:(vecT te n).den} {bytes:Nat} {z:Value} (ho:o.op = .index t x i) (ht:P.underlying t=some (.array n e)) (he:TI P e te.agg te.sz bytes z)
  (hx:σ.ev x=some (.d (encD (vecT te n) v))) (hi:σ.ev i=some (.d (.lit (.int k j)))) (hj:0<=j/\j < n) (hta:te.agg=false):RO P F σ o (.d (encD te (vget te n v j.toNat))):=fun H a w r=>by
 have hv:=r.ev hx;have hi':=r.lit hi;have hc:=zjD te n v j.toNat (by omega);have hag:(vecT te n).agg=true:=by cases n<;>rfl
 rw [zbz hag] at hv;generalize (encD (vecT te n) v).cells=l at hc hv;generalize hu:a.eval x=u at hv;have hlen:(encD te (vget te n v j.toNat)).cells.length=te.sz:=zau _ _;have hll:te.sz<=l.length - j.toNat * te.sz:=by
  have:=congrArg List.length hc;rw [hlen,List.length_take,List.length_drop] at this;omega
 cases hv with
 | d _ _ h=>
  cases h with
  | agg _ cs hs hr=>
   have hg:∀ q,q < te.sz->DRel w (Sh F.X σ.ent H w) ((encD te (vget te n v j.toNat)).cells.getD q default) (cs.getD (j.toNat * te.sz+q) undef):=by
    intro q hq;have:=hr (j.toNat * te.sz+q) (by omega);rw [<- hc];simpa [List.getD_eq_getElem?_getD,hq] using this
   obtain ⟨d,hd,hda⟩:=he.un;have h1:=zoj hta;have hlt:j.toNat < cs.size:=by rw [hs];rw [h1] at hll;omega
   refine ⟨cs.getD j.toNat undef,fun w' _ => ?_,?_⟩
   ·have hcs:cs[j.toNat]? =some (cs.getD j.toNat undef):=by simp [hlt]
    simp only [execOp,ho,hu,hi',Instr.index,asIntOf,Sem.run_bind,Sem.run_pure,Result.andThen_ok,run_underlying ht,if_pos hj,he.size,part,zek hd,hda,hta,h1,Nat.mul_one,hcs];rfl
   ·have:=hg 0 (by omega);rw [zca hta,h1] at this;exact .d _ _ (by simpa using this)
end
end
end Go.Ab
