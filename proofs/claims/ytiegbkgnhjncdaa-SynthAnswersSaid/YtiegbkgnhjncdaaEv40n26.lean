import Derived.Test.YtiegbkgnhjncdaaEv40n7
import Derived.Test.YtiegbkgnhjncdaaAb24n21
set_option linter.unusedVariables false
set_option linter.unusedSimpArgs false
set_option linter.unusedSectionVars false
namespace Go.Ab
noncomputable section
open Enc (enc)
variable {P:Program} {F:Fr} {σ:St} {o:Oper}
theorem RelH.putSame {H:Hd} {a:Act} {w:World} {k:Nat} {x:Ent} (r:RelH F σ H a w) (f:σ.ent k=some x):RelH F (σ.put k (some x)) H a w:=by
 have b:(σ.put k (some x)).ent=σ.ent:=by
  funext j;rw [St.ent_put];by_cases e:k=j
  ·subst e;rw [if_pos rfl,f]
  ·rw [if_neg e]
 refine { r with ent:=fun j y h => ?_,own:=fun j y u c h => ?_,inj:=fun j g y i u l c h d => ?_,slot:=fun q y h => ?_ }
 ·rw [b] at h ⊢;exact r.ent j y h
 ·rw [b] at h;exact r.own j y u c h
 ·rw [b] at h d;exact r.inj j g y i u l c h d
 ·rw [b];exact r.slot q y h
theorem EF.clearV {t e k E:Nat} {x:Operand} {c:Ty} {bytes:Nat} {z:Value} {xs:List c.den} (hd:o.dst=none)
  (ho:o.op = .call { callee := .builtin .clear,args:=#[x],argTypes:=#[t] }) (ht:P.underlying t=some (.slice e)) (he:TI P e c.agg c.sz bytes z) (W:ZRs (enc c.dflt).cells z.cells.toList)
  {i n:Nat} (hx:σ.ev x=some (.view k c.sz i n)) (hk:σ.ent k=some (Ent.arrOf E xs)) (him:i+n<=xs.length):
  EF P F σ o (·=σ.put k (some (Ent.arrOf E (xs.take i++List.replicate n c.dflt++xs.drop (i+n))))):=by
 have L:EF P F σ o (·=σ.put k (some (Ent.arrOf E (xs.take i++(List.replicate n c.dflt).take n++xs.drop (i+n))))):=by
  intro a w ⟨H,r⟩;have hv:=r.ev hx;obtain ⟨v,hH,hr⟩:=r.ent k _ hk;generalize a7:List.replicate n c.dflt=ys;have R:ys.length=n:=by rw [<- a7];simp
  obtain ⟨d,p⟩:∃ d,d=(Builtin.zeroCells z.cells n).toList:=⟨_,rfl⟩;have hzl:=(W.rel w (Sh F.X σ.ent H w)).1;have M:z.cells.size=c.sz:=by
   have:=Enc.hsz c.dflt;rw [hzl] at this;exact (by simpa using this:z.cells.size=Enc.sz c.den)
  have hnl:d.length=ys.length * c.sz:=by rw [p,R,<- M];simp [Builtin.zeroCells]
  have A:∀ q,q < ys.length->∀ j,j < c.sz->DRel w (Sh F.X σ.ent H w) (((ys.map (enc:c.den->D)).getD q default).cells.getD j default) (d.getD (q * c.sz+j) undef):=by
   intro q y j J;rw [R] at y;have e1:(ys.map (enc:c.den->D)).getD q default=enc c.dflt:=by rw [<- a7];simp [List.getD_eq_getElem?_getD,y]
   have hlt:q * c.sz+j < n * c.sz:=by
    have h5:(q+1) * c.sz<=n * c.sz:=Nat.mul_le_mul_right _ y;have h6:(q+1) * c.sz=q * c.sz+c.sz:=Nat.succ_mul _ _;omega
   have Y:(q * c.sz+j) % c.sz=j:=by rw [Nat.add_comm,Nat.add_mul_mod_self_right,Nat.mod_eq_of_lt J]
   have Z:j < z.cells.size:=by omega
   have e2:d.getD (q * c.sz+j) undef=z.cells.toList.getD j undef:=by
    rw [p];simp [Builtin.zeroCells,List.getD_eq_getElem?_getD,M,hlt,Y];rw [getElem!_pos z.cells j Z,Array.getElem?_eq_getElem Z];rfl
   rw [e1,e2];exact (W.rel w (Sh F.X σ.ent H w)).2 j (by rw [Enc.hsz];exact J)
  obtain ⟨vv,hvv,hp⟩:∃ vv,a.eval x=vv/\ztQ v c.sz i n vv:=by
   generalize a.eval x=u at hv;cases hv with
   | view _ _ _ _ u0 _ h hp=>rw [hH] at h;cases h;exact ⟨_,rfl,hp⟩
  cases hr with
  | arr _ _ _ _ _ cs g f O hcss aa=>
   have g:0 < c.sz:=g;have B:(xs.map (enc:c.den->D)).length=xs.length:=by simp
   rw [B] at f;have f:zdW w E c.sz v xs.length cs:=f;have hcl:cs.length=xs.length * c.sz:=f.1;have hny:n<=ys.length:=by omega
   have hnx:i+n<=xs.length:=by omega
   have hns:n * c.sz<=ys.length * c.sz:=Nat.mul_le_mul_right _ hny;have hnxs:(i+n) * c.sz<=xs.length * c.sz:=Nat.mul_le_mul_right _ hnx;have hadd:(i+n) * c.sz=i * c.sz+n * c.sz:=Nat.add_mul _ _ _;have I:(d.take (n * c.sz)).length=n * c.sz:=by rw [List.length_take];omega
   have a0:∀ u∈d.take (n * c.sz),u.oneCell'=true:=by
    intro u hu;obtain ⟨j,J,rfl⟩:=List.mem_iff_getElem.1 hu;rw [List.getElem_take];have hj':j < ys.length * c.sz:=by omega
    have hjn:j < d.length:=by omega
    have a2:j / c.sz < ys.length:=by rw [Nat.div_lt_iff_lt_mul g];exact hj'
    have S:=A (j / c.sz) a2 (j % c.sz) (Nat.mod_lt _ g);have e1:j / c.sz * c.sz+j % c.sz=j:=by rw [Nat.mul_comm];exact Nat.div_add_mod _ _
    rw [e1] at S;have hg:d.getD j undef=d[j]:=by simp [List.getD_eq_getElem?_getD,hjn]
    have he':(ys.map (enc:c.den->D)).getD (j / c.sz) default=enc ys[j / c.sz]:=by simp [List.getD_eq_getElem?_getD,a2]
    rw [hg,he'] at S;exact S.one (Enc.cell_one _ _)
   have a3:∀ w',(Builtin.clear_ #[t] o.type #[vv]).run P w = .ok (.tuple #[]) w'->RelH F (σ.put k (some (Ent.arrOf E (xs.take i++ys.take n++xs.drop (i+n))))) H a w'->
     o.wp P a w (fun a' w'=>(∃ u,a'=a.put o.dst u)/\∃ σ',σ'=σ.put k (some (Ent.arrOf E (xs.take i++ys.take n++xs.drop (i+n))))/\Rel F σ' a' w') (fun _ _ _=>False):=by
    intro w' X r1;exact EF.value (v := .tuple #[]) (w':=w') (by simp [execOp,ho,resolve,invoke,builtin,hvv,X]) ⟨_,rfl,H,by rw [hd];exact r1⟩
   by_cases a8:n=0
   ·-- nothing goes over
    have T:xs.take i++ys.take n++xs.drop (i+n)=xs:=by rw [a8];simp
    refine a3 w ?_ (by rw [T];exact r.putSame hk);rcases hp with ⟨_,rfl,_,rfl⟩ | ⟨b,o0,n0,c0,m,a1,_,_,rfl,_⟩
    ·simp [Builtin.clear_,run_underlying ht]
    ·subst a8;cases a1<;>simp [Builtin.clear_,run_underlying ht]
   ·rcases hp with ⟨_,_,_,h0⟩ | ⟨b,o0,n0,c0,m,a1,rfl,h2,rfl,h3,h4,h5⟩
    ·omega
    have ha1:=h5 (by omega);subst ha1;have a4:n0=xs.length:=by
     rcases f.form with ⟨h,_⟩ | ⟨Q,off',cap,h⟩
     ·cases h
     ·cases h;rfl
    subst a4;obtain ⟨w',hst,a9,C⟩:=zlW (P:=P) f (i * c.sz) (d.take (n * c.sz)) a0 (by rw [I];omega);rw [I] at C;have N:(ys.take n).length=n:=by rw [List.length_take];omega
    have l:(xs.take i++ys.take n++xs.drop (i+n)).length=xs.length:=by
     simp only [List.length_append,List.length_take,List.length_drop];omega
    have hS:∀ Q,Sh F.X σ.ent H w Q->Sh F.X σ.ent H w Q/\w'.heap[Q]? =w.heap[Q]? :=fun Q hb=>⟨hb,a9.block Q hb.1 fun h=>hb.2.2 k _ _ hk hH (by rw [h];rfl)⟩
    have a5:∀ q:Nat,(xs.take i++ys.take n++xs.drop (i+n))[q]? =if q < i then xs[q]? else if q < i+n then ys[q - i]? else xs[q]? :=fun q=>by
     have:=getElem?_splice xs (ys.take n) i q (by rw [N];omega);rw [N] at this;rw [this];by_cases m:q < i
     ·rw [if_pos m,if_pos m]
     ·rw [if_neg m,if_neg m];by_cases s:q < i+n
      ·rw [if_pos s,if_pos s,List.getElem?_take,if_pos (by omega)]
      ·rw [if_neg s,if_neg s]
    have U:∀ q:Nat,(cs.take (i * c.sz)++d.take (n * c.sz)++cs.drop (i * c.sz+n * c.sz))[q]? =if q < i * c.sz then cs[q]? else if q < i * c.sz+n * c.sz then d[q - i * c.sz]? else cs[q]? :=fun q=>by
     have:=getElem?_splice cs (d.take (n * c.sz)) (i * c.sz) q (by rw [I];omega);rw [I] at this;rw [this];by_cases m:q < i * c.sz
     ·rw [if_pos m,if_pos m]
     ·rw [if_neg m,if_neg m];by_cases s:q < i * c.sz+n * c.sz
      ·rw [if_pos s,if_pos s,List.getElem?_take,if_pos (by omega)]
      ·rw [if_neg s,if_neg s]
    have V:∀ q,q < xs.length->∀ j,j < c.sz->DRel w' (Sh F.X σ.ent H w) ((((xs.take i++ys.take n++xs.drop (i+n)).map (enc:c.den->D)).getD q default).cells.getD j default) ((cs.take (i * c.sz)++d.take (n * c.sz)++cs.drop (i * c.sz+n * c.sz)).getD (q * c.sz+j) undef):=by
     intro q y j J;have hq1:(q+1) * c.sz=q * c.sz+c.sz:=Nat.succ_mul _ _;have old:=(aa q (by simpa using y) j J).mono hS;simp only [List.getD_eq_getElem?_getD,List.getElem?_map,a5,U,zCf] at old ⊢;by_cases m:q < i
     ·have:(q+1) * c.sz<=i * c.sz:=Nat.mul_le_mul_right _ m;rw [if_pos m,if_pos (by omega)];exact old
     ·have g1:i * c.sz<=q * c.sz:=Nat.mul_le_mul_right _ (by omega);rw [if_neg m,if_neg (show ¬ q * c.sz+j < i * c.sz by omega)];by_cases s:q < i+n
      ·have:(q+1) * c.sz<=(i+n) * c.sz:=Nat.mul_le_mul_right _ s;rw [if_pos s,if_pos (by omega)];have nw:=(A (q - i) (by omega) j J).mono hS;have e3:(q - i) * c.sz=q * c.sz - i * c.sz:=Nat.sub_mul _ _ _;simp only [List.getD_eq_getElem?_getD,List.getElem?_map] at nw;rw [show q * c.sz+j - i * c.sz=(q - i) * c.sz+j by rw [e3];omega];exact nw
      ·have:(i+n) * c.sz<=q * c.sz:=Nat.mul_le_mul_right _ (by omega);rw [if_neg s,if_neg (by omega)];exact old
    have a6:EntRel w' (Sh F.X σ.ent H w) H (Ent.arrOf E (xs.take i++ys.take n++xs.drop (i+n))) (.slice (some ⟨b,o0,none⟩) xs.length c0):=
     .arr E _ _ _ _ (cs.take (i * c.sz)++d.take (n * c.sz)++cs.drop (i * c.sz+n * c.sz)) g (by rw [List.length_map,l];exact C) (by rw [List.length_map,l];rw [B] at O;exact O)
      (fun q y=>by
       have y:q < (xs.take i++ys.take n++xs.drop (i+n)).length:=by simpa using y
       have:((xs.take i++ys.take n++xs.drop (i+n)).map (enc:c.den->D)).getD q default=enc (xs.take i++ys.take n++xs.drop (i+n))[q]:=by
        simp only [List.getD_eq_getElem?_getD,List.getElem?_map,List.getElem?_eq_getElem y];rfl
       rw [this,Enc.hsz])
      (fun q y j J=>V q (by rw [List.length_map,l] at y;exact y) j J)
    refine a3 w' ?_ (r.upd hk hH (b:=b) rfl a9 a6);have hzr:(Builtin.zeroCells z.cells n).toList=d.take (n * c.sz):=by
     rw [<- p,List.take_of_length_le (by rw [hnl,R];exact Nat.le_refl _)]
    obtain ⟨n',rfl⟩:∃ n',n=n'+1:=⟨n - 1,by omega⟩;simp [Builtin.clear_,run_underlying ht,he.zero,hzr,hst]
 have e:(List.replicate n c.dflt).take n=List.replicate n c.dflt:=List.take_of_length_le (by simp);rw [e] at L;exact L
end
end Go.Ab
