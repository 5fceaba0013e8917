import Derived.Test.YtajabcfngklacaaEv40n7
import Derived.Test.YtajabcfngklacaaAb24n21
set_option linter.unusedVariables false
set_option linter.unusedSimpArgs false
set_option linter.unusedSectionVars false
namespace Go.Ab
noncomputable section
open Enc (enc)
variable {P:Program} {F:Fr} {σ:St} {o:Oper}
theorem RelH.putSame {H:Hd} {a:Act} {w:World} {k:Nat} {x:Ent} (r:RelH F σ H a w) (e:σ.ent k=some x):RelH F (σ.put k (some x)) H a w:=by
 have b:(σ.put k (some x)).ent=σ.ent:=by
  funext j;rw [St.ent_put];by_cases d:k=j
  ·subst d;rw [if_pos rfl,e]
  ·rw [if_neg d]
 refine { r with ent:=fun j y h => ?_,own:=fun j y u c h => ?_,inj:=fun j f y g u i c h h' => ?_,slot:=fun q y h => ?_ }
 ·rw [b] at h ⊢;exact r.ent j y h
 ·rw [b] at h;exact r.own j y u c h
 ·rw [b] at h h';exact r.inj j f y g u i c h h'
 ·rw [b];exact r.slot q y h
theorem EF.clearV {t e k E:Nat} {x:Operand} {c:Ty} {bytes:Nat} {z:Value} {xs:List c.den} (hd:o.dst=none)
  (ho:o.op = .call { callee := .builtin .clear,args:=#[x],argTypes:=#[t] }) (ht:P.underlying t=some (.slice e)) (he:TI P e c.agg c.sz bytes z) (V:ZRs (enc c.dflt).cells z.cells.toList)
  {i n:Nat} (hx:σ.ev x=some (.view k c.sz i n)) (hk:σ.ent k=some (Ent.arrOf E xs)) (him:i+n<=xs.length):
  EF P F σ o (·=σ.put k (some (Ent.arrOf E (xs.take i++List.replicate n c.dflt++xs.drop (i+n))))):=by
 have J:EF P F σ o (·=σ.put k (some (Ent.arrOf E (xs.take i++(List.replicate n c.dflt).take n++xs.drop (i+n))))):=by
  intro a w ⟨H,r⟩;have hv:=r.ev hx;obtain ⟨v,hH,hr⟩:=r.ent k _ hk;generalize a5:List.replicate n c.dflt=ys;have Q:ys.length=n:=by rw [<- a5];simp
  obtain ⟨d,m⟩:∃ d,d=(Builtin.zeroCells z.cells n).toList:=⟨_,rfl⟩;have hzl:=(V.rel w (Sh F.X σ.ent H w)).1;have L:z.cells.size=c.sz:=by
   have:=Enc.hsz c.dflt;rw [hzl] at this;exact (by simpa using this:z.cells.size=Enc.sz c.den)
  have hnl:d.length=ys.length * c.sz:=by rw [m,Q,<- L];simp [Builtin.zeroCells]
  have y:∀ q,q < ys.length->∀ j,j < c.sz->DRel w (Sh F.X σ.ent H w) (((ys.map (enc:c.den->D)).getD q default).cells.getD j default) (d.getD (q * c.sz+j) undef):=by
   intro q s j I;rw [Q] at s;have e1:(ys.map (enc:c.den->D)).getD q default=enc c.dflt:=by rw [<- a5];simp [List.getD_eq_getElem?_getD,s]
   have hlt:q * c.sz+j < n * c.sz:=by
    have h5:(q+1) * c.sz<=n * c.sz:=Nat.mul_le_mul_right _ s;have h6:(q+1) * c.sz=q * c.sz+c.sz:=Nat.succ_mul _ _;omega
   have X:(q * c.sz+j) % c.sz=j:=by rw [Nat.add_comm,Nat.add_mul_mod_self_right,Nat.mod_eq_of_lt I]
   have Y:j < z.cells.size:=by omega
   have e2:d.getD (q * c.sz+j) undef=z.cells.toList.getD j undef:=by
    rw [m];simp [Builtin.zeroCells,List.getD_eq_getElem?_getD,L,hlt,X];rw [getElem!_pos z.cells j Y,Array.getElem?_eq_getElem Y];rfl
   rw [e1,e2];exact (V.rel w (Sh F.X σ.ent H w)).2 j (by rw [Enc.hsz];exact I)
  obtain ⟨vv,hvv,hp⟩:∃ vv,a.eval x=vv/\zvH v c.sz i n vv:=by
   generalize a.eval x=u at hv;cases hv with
   | view _ _ _ _ u0 _ h hp=>rw [hH] at h;cases h;exact ⟨_,rfl,hp⟩
  cases hr with
  | arr _ _ _ _ _ cs g f N hcss a8=>
   have g:0 < c.sz:=g;have A:(xs.map (enc:c.den->D)).length=xs.length:=by simp
   rw [A] at f;have f:zgL w E c.sz v xs.length cs:=f;have hcl:cs.length=xs.length * c.sz:=f.1;have hny:n<=ys.length:=by omega
   have hnx:i+n<=xs.length:=by omega
   have hns:n * c.sz<=ys.length * c.sz:=Nat.mul_le_mul_right _ hny;have hnxs:(i+n) * c.sz<=xs.length * c.sz:=Nat.mul_le_mul_right _ hnx;have hadd:(i+n) * c.sz=i * c.sz+n * c.sz:=Nat.add_mul _ _ _;have C:(d.take (n * c.sz)).length=n * c.sz:=by rw [List.length_take];omega
   have Z:∀ u∈d.take (n * c.sz),u.oneCell'=true:=by
    intro u hu;obtain ⟨j,I,rfl⟩:=List.mem_iff_getElem.1 hu;rw [List.getElem_take];have hj':j < ys.length * c.sz:=by omega
    have hjn:j < d.length:=by omega
    have a0:j / c.sz < ys.length:=by rw [Nat.div_lt_iff_lt_mul g];exact hj'
    have R:=y (j / c.sz) a0 (j % c.sz) (Nat.mod_lt _ g);have e1:j / c.sz * c.sz+j % c.sz=j:=by rw [Nat.mul_comm];exact Nat.div_add_mod _ _
    rw [e1] at R;have hg:d.getD j undef=d[j]:=by simp [List.getD_eq_getElem?_getD,hjn]
    have he':(ys.map (enc:c.den->D)).getD (j / c.sz) default=enc ys[j / c.sz]:=by simp [List.getD_eq_getElem?_getD,a0]
    rw [hg,he'] at R;exact R.one (Enc.cell_one _ _)
   have fin:∀ w',(Builtin.clear_ #[t] o.type #[vv]).run P w = .ok (.tuple #[]) w'->RelH F (σ.put k (some (Ent.arrOf E (xs.take i++ys.take n++xs.drop (i+n))))) H a w'->
     o.wp P a w (fun a' w'=>(∃ u,a'=a.put o.dst u)/\∃ σ',σ'=σ.put k (some (Ent.arrOf E (xs.take i++ys.take n++xs.drop (i+n))))/\Rel F σ' a' w') (fun _ _ _=>False):=by
    intro w' W r1;exact EF.value (v := .tuple #[]) (w':=w') (by simp [execOp,ho,resolve,invoke,builtin,hvv,W]) ⟨_,rfl,H,by rw [hd];exact r1⟩
   by_cases a6:n=0
   ·-- nothing goes over
    have S:xs.take i++ys.take n++xs.drop (i+n)=xs:=by rw [a6];simp
    refine fin w ?_ (by rw [S];exact r.putSame hk);rcases hp with ⟨_,rfl,_,rfl⟩ | ⟨b,o0,n0,c0,c1,a1,_,_,rfl,_⟩
    ·simp [Builtin.clear_,run_underlying ht]
    ·subst a6;cases a1<;>simp [Builtin.clear_,run_underlying ht]
   ·rcases hp with ⟨_,_,_,h0⟩ | ⟨b,o0,n0,c0,c1,a1,rfl,h2,rfl,h3,h4,h5⟩
    ·omega
    have ha1:=h5 (by omega);subst ha1;have a2:n0=xs.length:=by
     rcases f.form with ⟨h,_⟩ | ⟨O,off',cap,h⟩
     ·cases h
     ·cases h;rfl
    subst a2;obtain ⟨w',hst,a7,B⟩:=zsh (P:=P) f (i * c.sz) (d.take (n * c.sz)) Z (by rw [C];omega);rw [C] at B;have M:(ys.take n).length=n:=by rw [List.length_take];omega
    have l:(xs.take i++ys.take n++xs.drop (i+n)).length=xs.length:=by
     simp only [List.length_append,List.length_take,List.length_drop];omega
    have hS:∀ O,Sh F.X σ.ent H w O->Sh F.X σ.ent H w O/\w'.heap[O]? =w.heap[O]? :=fun O hb=>⟨hb,a7.block O hb.1 fun h=>hb.2.2 k _ _ hk hH (by rw [h];rfl)⟩
    have a3:∀ q:Nat,(xs.take i++ys.take n++xs.drop (i+n))[q]? =if q < i then xs[q]? else if q < i+n then ys[q - i]? else xs[q]? :=fun q=>by
     have:=getElem?_splice xs (ys.take n) i q (by rw [M];omega);rw [M] at this;rw [this];by_cases c1:q < i
     ·rw [if_pos c1,if_pos c1]
     ·rw [if_neg c1,if_neg c1];by_cases p:q < i+n
      ·rw [if_pos p,if_pos p,List.getElem?_take,if_pos (by omega)]
      ·rw [if_neg p,if_neg p]
    have T:∀ q:Nat,(cs.take (i * c.sz)++d.take (n * c.sz)++cs.drop (i * c.sz+n * c.sz))[q]? =if q < i * c.sz then cs[q]? else if q < i * c.sz+n * c.sz then d[q - i * c.sz]? else cs[q]? :=fun q=>by
     have:=getElem?_splice cs (d.take (n * c.sz)) (i * c.sz) q (by rw [C];omega);rw [C] at this;rw [this];by_cases c1:q < i * c.sz
     ·rw [if_pos c1,if_pos c1]
     ·rw [if_neg c1,if_neg c1];by_cases p:q < i * c.sz+n * c.sz
      ·rw [if_pos p,if_pos p,List.getElem?_take,if_pos (by omega)]
      ·rw [if_neg p,if_neg p]
    have U:∀ q,q < xs.length->∀ j,j < c.sz->DRel w' (Sh F.X σ.ent H w) ((((xs.take i++ys.take n++xs.drop (i+n)).map (enc:c.den->D)).getD q default).cells.getD j default) ((cs.take (i * c.sz)++d.take (n * c.sz)++cs.drop (i * c.sz+n * c.sz)).getD (q * c.sz+j) undef):=by
     intro q s j I;have hq1:(q+1) * c.sz=q * c.sz+c.sz:=Nat.succ_mul _ _;have old:=(a8 q (by simpa using s) j I).mono hS;simp only [List.getD_eq_getElem?_getD,List.getElem?_map,a3,T,zCW] at old ⊢;by_cases c1:q < i
     ·have:(q+1) * c.sz<=i * c.sz:=Nat.mul_le_mul_right _ c1;rw [if_pos c1,if_pos (by omega)];exact old
     ·have g1:i * c.sz<=q * c.sz:=Nat.mul_le_mul_right _ (by omega);rw [if_neg c1,if_neg (show ¬ q * c.sz+j < i * c.sz by omega)];by_cases p:q < i+n
      ·have:(q+1) * c.sz<=(i+n) * c.sz:=Nat.mul_le_mul_right _ p;rw [if_pos p,if_pos (by omega)];have nw:=(y (q - i) (by omega) j I).mono hS;have e3:(q - i) * c.sz=q * c.sz - i * c.sz:=Nat.sub_mul _ _ _;simp only [List.getD_eq_getElem?_getD,List.getElem?_map] at nw;rw [show q * c.sz+j - i * c.sz=(q - i) * c.sz+j by rw [e3];omega];exact nw
      ·have:(i+n) * c.sz<=q * c.sz:=Nat.mul_le_mul_right _ (by omega);rw [if_neg p,if_neg (by omega)];exact old
    have a4:EntRel w' (Sh F.X σ.ent H w) H (Ent.arrOf E (xs.take i++ys.take n++xs.drop (i+n))) (.slice (some ⟨b,o0,none⟩) xs.length c0):=
     .arr E _ _ _ _ (cs.take (i * c.sz)++d.take (n * c.sz)++cs.drop (i * c.sz+n * c.sz)) g (by rw [List.length_map,l];exact B) (by rw [List.length_map,l];rw [A] at N;exact N)
      (fun q s=>by
       have s:q < (xs.take i++ys.take n++xs.drop (i+n)).length:=by simpa using s
       have:((xs.take i++ys.take n++xs.drop (i+n)).map (enc:c.den->D)).getD q default=enc (xs.take i++ys.take n++xs.drop (i+n))[q]:=by
        simp only [List.getD_eq_getElem?_getD,List.getElem?_map,List.getElem?_eq_getElem s];rfl
       rw [this,Enc.hsz])
      (fun q s j I=>U q (by rw [List.length_map,l] at s;exact s) j I)
    refine fin w' ?_ (r.upd hk hH (b:=b) rfl a7 a4);have hzr:(Builtin.zeroCells z.cells n).toList=d.take (n * c.sz):=by
     rw [<- m,List.take_of_length_le (by rw [hnl,Q];exact Nat.le_refl _)]
    obtain ⟨n',rfl⟩:∃ n',n=n'+1:=⟨n - 1,by omega⟩;simp [Builtin.clear_,run_underlying ht,he.zero,hzr,hst]
 have e:(List.replicate n c.dflt).take n=List.replicate n c.dflt:=List.take_of_length_le (by simp);rw [e] at J;exact J
end
end Go.Ab
