import Derived.Test.YtmogekkikaelhaaEv40n7
import Derived.Test.YtmogekkikaelhaaAb24n21
set_option linter.unusedVariables false
set_option linter.unusedSimpArgs false
set_option linter.unusedSectionVars false
namespace Go.Ab
noncomputable section
open Enc (enc)
variable {P:Program} {F:Fr} {σ:St} {o:Oper}
theorem RelH.putSame {H:Hd} {a:Act} {w:World} {k:Nat} {x:Ent} (r:RelH F σ H a w) (hk:σ.ent k=some x):RelH F (σ.put k (some x)) H a w:=by
 have hfe:(σ.put k (some x)).ent=σ.ent:=by
  funext j;rw [St.ent_put];by_cases hj:k=j
  ·subst hj;rw [if_pos rfl,hk]
  ·rw [if_neg hj]
 refine { r with ent:=fun j y h => ?_,own:=fun j y u c h => ?_,inj:=fun j j' y y' u u' c h h' => ?_,slot:=fun q y h => ?_ }
 ·rw [hfe] at h ⊢;exact r.ent j y h
 ·rw [hfe] at h;exact r.own j y u c h
 ·rw [hfe] at h h';exact r.inj j j' y y' u u' c h h'
 ·rw [hfe];exact r.slot q y h
theorem EF.copyV {t t' e k E:Nat} {x y:Operand} {te:Ty} {bytes:Nat} {z:Value} {xs ys:List te.den} {d:Nat} (hd:o.dst=some d) (hlt:Nat.blt d σ.n=true)
  (ho:o.op = .call { callee := .builtin .copy,args:=#[x,y],argTypes:=#[t,t'] }) (ht:P.underlying t=some (.slice e)) (he:TI P e te.agg te.sz bytes z)
  {i m n:Nat} (hx:σ.ev x=some (.view k te.sz i m)) (hk:σ.ent k=some (Ent.arrOf E xs)) (him:i+m<=xs.length) (hn:min ys.length m=n) (hy:Src σ y ys):
  EF P F σ o (·=(σ.put k (some (Ent.arrOf E (xs.take i++ys.take n++xs.drop (i+n))))).set d (.d (.lit (.int .i64 (n:Nat))))):=by
 intro a w ⟨H,r⟩;have hv:=r.ev hx;obtain ⟨v,hH,hr⟩:=r.ent k _ hk;obtain ⟨ad,c,news,hya,hnl,hnews,hnrel,hcn⟩:=hy.cells r;have hnl:news.length=ys.length * te.sz:=hnl;obtain ⟨vv,hvv,hp⟩:∃ vv,a.eval x=vv/\zkH v te.sz i m vv:=by
  generalize a.eval x=u at hv;cases hv with
  | view _ _ _ _ u0 _ h hp=>rw [hH] at h;cases h;exact ⟨_,rfl,hp⟩
 cases hr with
 | arr _ _ _ _ _ cs hszp hown hbnd hcss hrel=>
  have hszp:0 < te.sz:=hszp;have hlen0:(xs.map (enc:te.den->D)).length=xs.length:=by simp
  rw [hlen0] at hown;have hown:zbN w E te.sz v xs.length cs:=hown;have hcl:cs.length=xs.length * te.sz:=hown.1;have hny:n<=ys.length:=by omega
  have hnx:i+n<=xs.length:=by omega
  have hns:n * te.sz<=ys.length * te.sz:=Nat.mul_le_mul_right _ hny;have hnxs:(i+n) * te.sz<=xs.length * te.sz:=Nat.mul_le_mul_right _ hnx;have hadd:(i+n) * te.sz=i * te.sz+n * te.sz:=Nat.add_mul _ _ _;have htk:(news.take (n * te.sz)).length=n * te.sz:=by rw [List.length_take];omega
  have hone:∀ u∈news.take (n * te.sz),u.oneCell'=true:=by
   intro u hu;obtain ⟨j,hj,rfl⟩:=List.mem_iff_getElem.1 hu;rw [List.getElem_take];have hj':j < ys.length * te.sz:=by omega
   have hjn:j < news.length:=by omega
   have hi0:j / te.sz < ys.length:=by rw [Nat.div_lt_iff_lt_mul hszp];exact hj'
   have hd0:=hnrel (j / te.sz) hi0 (j % te.sz) (Nat.mod_lt _ hszp);have e1:j / te.sz * te.sz+j % te.sz=j:=by rw [Nat.mul_comm];exact Nat.div_add_mod _ _
   rw [zkV,e1] at hd0;have hg:news.getD j undef=news[j]:=by simp [List.getD_eq_getElem?_getD,hjn]
   have he':(ys.map (enc:te.den->D)).getD (j / te.sz) default=enc ys[j / te.sz]:=by simp [List.getD_eq_getElem?_getD,hi0]
   rw [hg,he'] at hd0;exact hd0.one (Enc.cell_one _ _)
  have hsrc:∀ (a0:Addr),ad=some a0->(loadCells a0 (n * te.sz)).run P w = .ok (news.take (n * te.sz)).toArray w:=by
   intro a0 ha0;have:=run_loadCells_list (P:=P) w a0 (news.take (n * te.sz)) (fun j u hj=>by
    have hjlt:j < n * te.sz:=by have:=(List.getElem?_eq_some_iff.1 hj).1;omega
    rw [List.getElem?_take,if_pos hjlt] at hj;obtain ⟨b,off,h1,h2⟩:=hnews j u hj;rw [ha0] at h1;cases h1;rw [zbD];exact h2)
   rw [htk] at this;exact this
  have hnone:ad=none->n=0:=by
   intro h;have:news=[]:=by
    cases news with
    | nil=>rfl
    | cons u us=>obtain ⟨b,off,h2,_⟩:=hnews 0 u rfl;rw [h] at h2;cases h2
   rw [this] at hnl;have:ys.length * te.sz=0:=by simpa using hnl.symm
   rcases Nat.mul_eq_zero.1 this with h | h<;>omega
  have fin:∀ w',(Builtin.copy_ #[t,t'] o.type #[vv,.slice ad ys.length c]).run P w = .ok (goInt n) w'->RelH F (σ.put k (some (Ent.arrOf E (xs.take i++ys.take n++xs.drop (i+n))))) H a w'->
    o.wp P a w (fun a' w'=>(∃ u,a'=a.put o.dst u)/\∃ σ',σ'=(σ.put k (some (Ent.arrOf E (xs.take i++ys.take n++xs.drop (i+n))))).set d (.d (.lit (.int .i64 (n:Nat))))/\Rel F σ' a' w') (fun _ _ _=>False):=by
   intro w' hrun r1;have r2:=r1.set (d:=d) (x := .d (.lit (.int .i64 (n:Nat)))) (v:=goInt n) (show d < σ.n by simpa using hlt) (.int _ _ _ _ _);rw [<- hd] at r2;exact EF.value (v:=goInt n) (w':=w') (by simp [execOp,ho,resolve,invoke,builtin,hvv,hya,hrun]) ⟨_,rfl,H,r2⟩
  by_cases hn0:n=0
  ·-- nothing goes over
   have hsame:xs.take i++ys.take n++xs.drop (i+n)=xs:=by rw [hn0];simp
   refine fin w ?_ (by rw [hsame];exact r.putSame hk);have hvf:∃ a1 c1,vv = .slice a1 m c1:=by
    rcases hp with ⟨_,rfl,_,rfl⟩ | ⟨b,o0,n0,c0,c1,a1,_,_,rfl,_⟩
    ·exact ⟨_,_,rfl⟩
    ·exact ⟨_,_,rfl⟩
   obtain ⟨a1,c1,rfl⟩:=hvf;have hmin:Nat.min ys.length m=0:=by rw [<- hn0];exact hn
   have st0:∀ a2:Addr,(storeCells a2 ([]:List Value)).run P w = .ok () w:=fun _=>rfl
   cases ad with
   | none=>cases a1<;>simp [Builtin.copy_,run_underlying ht,Builtin.lenOf,Builtin.firstCells,he.size,hmin,hn0,st0]
   | some a0=>
    have hl:=hsrc a0 rfl;rw [hn0] at hl;simp only [Nat.zero_mul,List.take_zero] at hl;cases a1<;>simp [Builtin.copy_,run_underlying ht,Builtin.lenOf,Builtin.firstCells,he.size,hl,hmin,hn0,st0]
  ·rcases hp with ⟨_,_,_,h0⟩ | ⟨b,o0,n0,c0,c1,a1,rfl,h2,rfl,h3,h4,h5⟩
   ·omega
   have ha1:=h5 (by omega);subst ha1;have hn0':n0=xs.length:=by
    rcases hown.form with ⟨h,_⟩ | ⟨b',off',cap,h⟩
    ·cases h
    ·cases h;rfl
   subst hn0';obtain ⟨w',hst,hgr,hown'⟩:=zcH (P:=P) hown (i * te.sz) (news.take (n * te.sz)) hone (by rw [htk];omega);rw [htk] at hown';have hytk:(ys.take n).length=n:=by rw [List.length_take];omega
   have hnewl:(xs.take i++ys.take n++xs.drop (i+n)).length=xs.length:=by
    simp only [List.length_append,List.length_take,List.length_drop];omega
   have hS:∀ b',Sh F.X σ.ent H w b'->Sh F.X σ.ent H w b'/\w'.heap[b']? =w.heap[b']? :=fun b' hb=>⟨hb,hgr.block b' hb.1 fun h=>hb.2.2 k _ _ hk hH (by rw [h];rfl)⟩
   have hget:∀ q:Nat,(xs.take i++ys.take n++xs.drop (i+n))[q]? =if q < i then xs[q]? else if q < i+n then ys[q - i]? else xs[q]? :=fun q=>by
    have:=getElem?_splice xs (ys.take n) i q (by rw [hytk];omega);rw [hytk] at this;rw [this];by_cases c1:q < i
    ·rw [if_pos c1,if_pos c1]
    ·rw [if_neg c1,if_neg c1];by_cases c2:q < i+n
     ·rw [if_pos c2,if_pos c2,List.getElem?_take,if_pos (by omega)]
     ·rw [if_neg c2,if_neg c2]
   have hgetc:∀ q:Nat,(cs.take (i * te.sz)++news.take (n * te.sz)++cs.drop (i * te.sz+n * te.sz))[q]? =if q < i * te.sz then cs[q]? else if q < i * te.sz+n * te.sz then news[q - i * te.sz]? else cs[q]? :=fun q=>by
    have:=getElem?_splice cs (news.take (n * te.sz)) (i * te.sz) q (by rw [htk];omega);rw [htk] at this;rw [this];by_cases c1:q < i * te.sz
    ·rw [if_pos c1,if_pos c1]
    ·rw [if_neg c1,if_neg c1];by_cases c2:q < i * te.sz+n * te.sz
     ·rw [if_pos c2,if_pos c2,List.getElem?_take,if_pos (by omega)]
     ·rw [if_neg c2,if_neg c2]
   have hrelN:∀ q,q < xs.length->∀ j,j < te.sz->DRel w' (Sh F.X σ.ent H w) ((((xs.take i++ys.take n++xs.drop (i+n)).map (enc:te.den->D)).getD q default).cells.getD j default) ((cs.take (i * te.sz)++news.take (n * te.sz)++cs.drop (i * te.sz+n * te.sz)).getD (q * te.sz+j) undef):=by
    intro q hq j hj;have hq1:(q+1) * te.sz=q * te.sz+te.sz:=Nat.succ_mul _ _;have old:=(hrel q (by simpa using hq) j hj).mono hS;simp only [List.getD_eq_getElem?_getD,List.getElem?_map,hget,hgetc,zkV] at old ⊢;by_cases c1:q < i
    ·have:(q+1) * te.sz<=i * te.sz:=Nat.mul_le_mul_right _ c1;rw [if_pos c1,if_pos (by omega)];exact old
    ·have g1:i * te.sz<=q * te.sz:=Nat.mul_le_mul_right _ (by omega);rw [if_neg c1,if_neg (show ¬ q * te.sz+j < i * te.sz by omega)];by_cases c2:q < i+n
     ·have:(q+1) * te.sz<=(i+n) * te.sz:=Nat.mul_le_mul_right _ c2;rw [if_pos c2,if_pos (by omega)];have nw:=(hnrel (q - i) (by omega) j hj).mono hS;have e3:(q - i) * te.sz=q * te.sz - i * te.sz:=Nat.sub_mul _ _ _;simp only [List.getD_eq_getElem?_getD,List.getElem?_map,zkV] at nw;rw [show q * te.sz+j - i * te.sz=(q - i) * te.sz+j by rw [e3];omega];exact nw
     ·have:(i+n) * te.sz<=q * te.sz:=Nat.mul_le_mul_right _ (by omega);rw [if_neg c2,if_neg (by omega)];exact old
   have hent:EntRel w' (Sh F.X σ.ent H w) H (Ent.arrOf E (xs.take i++ys.take n++xs.drop (i+n))) (.slice (some ⟨b,o0,none⟩) xs.length c0):=
    .arr E _ _ _ _ (cs.take (i * te.sz)++news.take (n * te.sz)++cs.drop (i * te.sz+n * te.sz)) hszp (by rw [List.length_map,hnewl];exact hown') (by rw [List.length_map,hnewl];rw [hlen0] at hbnd;exact hbnd)
     (fun q hq=>by
      have hq:q < (xs.take i++ys.take n++xs.drop (i+n)).length:=by simpa using hq
      have:((xs.take i++ys.take n++xs.drop (i+n)).map (enc:te.den->D)).getD q default=enc (xs.take i++ys.take n++xs.drop (i+n))[q]:=by
       simp only [List.getD_eq_getElem?_getD,List.getElem?_map,List.getElem?_eq_getElem hq];rfl
      rw [this,Enc.hsz])
     (fun q hq j hj=>hrelN q (by rw [List.length_map,hnewl] at hq;exact hq) j hj)
   refine fin w' ?_ (r.upd hk hH (b:=b) rfl hgr hent);have hmin:Nat.min ys.length m=n:=hn;cases ad with
   | none=>exact absurd (hnone rfl) hn0
   | some a0=>
    have hl:=hsrc a0 rfl;simp [Builtin.copy_,run_underlying ht,Builtin.lenOf,Builtin.firstCells,he.size,hmin,hl,hst]
theorem EF.clearV {t e k E:Nat} {x:Operand} {te:Ty} {bytes:Nat} {z:Value} {xs:List te.den} (hd:o.dst=none)
  (ho:o.op = .call { callee := .builtin .clear,args:=#[x],argTypes:=#[t] }) (ht:P.underlying t=some (.slice e)) (he:TI P e te.agg te.sz bytes z) (hzs:ZRs (enc te.dflt).cells z.cells.toList)
  {i n:Nat} (hx:σ.ev x=some (.view k te.sz i n)) (hk:σ.ent k=some (Ent.arrOf E xs)) (him:i+n<=xs.length):
  EF P F σ o (·=σ.put k (some (Ent.arrOf E (xs.take i++List.replicate n te.dflt++xs.drop (i+n))))):=by
 have main:EF P F σ o (·=σ.put k (some (Ent.arrOf E (xs.take i++(List.replicate n te.dflt).take n++xs.drop (i+n))))):=by
  intro a w ⟨H,r⟩;have hv:=r.ev hx;obtain ⟨v,hH,hr⟩:=r.ent k _ hk;generalize hys:List.replicate n te.dflt=ys;have hyl:ys.length=n:=by rw [<- hys];simp
  obtain ⟨news,hnews⟩:∃ news,news=(Builtin.zeroCells z.cells n).toList:=⟨_,rfl⟩;have hzl:=(hzs.rel w (Sh F.X σ.ent H w)).1;have hzsz:z.cells.size=te.sz:=by
   have:=Enc.hsz te.dflt;rw [hzl] at this;exact (by simpa using this:z.cells.size=Enc.sz te.den)
  have hnl:news.length=ys.length * te.sz:=by rw [hnews,hyl,<- hzsz];simp [Builtin.zeroCells]
  have hnrel:∀ q,q < ys.length->∀ j,j < te.sz->DRel w (Sh F.X σ.ent H w) (((ys.map (enc:te.den->D)).getD q default).cells.getD j default) (news.getD (q * te.sz+j) undef):=by
   intro q hq j hj;rw [hyl] at hq;have e1:(ys.map (enc:te.den->D)).getD q default=enc te.dflt:=by rw [<- hys];simp [List.getD_eq_getElem?_getD,hq]
   have hlt:q * te.sz+j < n * te.sz:=by
    have h5:(q+1) * te.sz<=n * te.sz:=Nat.mul_le_mul_right _ hq;have h6:(q+1) * te.sz=q * te.sz+te.sz:=Nat.succ_mul _ _;omega
   have hmod:(q * te.sz+j) % te.sz=j:=by rw [Nat.add_comm,Nat.add_mul_mod_self_right,Nat.mod_eq_of_lt hj]
   have hjz:j < z.cells.size:=by omega
   have e2:news.getD (q * te.sz+j) undef=z.cells.toList.getD j undef:=by
    rw [hnews];simp [Builtin.zeroCells,List.getD_eq_getElem?_getD,hzsz,hlt,hmod];rw [getElem!_pos z.cells j hjz,Array.getElem?_eq_getElem hjz];rfl
   rw [e1,e2];exact (hzs.rel w (Sh F.X σ.ent H w)).2 j (by rw [Enc.hsz];exact hj)
  obtain ⟨vv,hvv,hp⟩:∃ vv,a.eval x=vv/\zkH v te.sz i n vv:=by
   generalize a.eval x=u at hv;cases hv with
   | view _ _ _ _ u0 _ h hp=>rw [hH] at h;cases h;exact ⟨_,rfl,hp⟩
  cases hr with
  | arr _ _ _ _ _ cs hszp hown hbnd hcss hrel=>
   have hszp:0 < te.sz:=hszp;have hlen0:(xs.map (enc:te.den->D)).length=xs.length:=by simp
   rw [hlen0] at hown;have hown:zbN w E te.sz v xs.length cs:=hown;have hcl:cs.length=xs.length * te.sz:=hown.1;have hny:n<=ys.length:=by omega
   have hnx:i+n<=xs.length:=by omega
   have hns:n * te.sz<=ys.length * te.sz:=Nat.mul_le_mul_right _ hny;have hnxs:(i+n) * te.sz<=xs.length * te.sz:=Nat.mul_le_mul_right _ hnx;have hadd:(i+n) * te.sz=i * te.sz+n * te.sz:=Nat.add_mul _ _ _;have htk:(news.take (n * te.sz)).length=n * te.sz:=by rw [List.length_take];omega
   have hone:∀ u∈news.take (n * te.sz),u.oneCell'=true:=by
    intro u hu;obtain ⟨j,hj,rfl⟩:=List.mem_iff_getElem.1 hu;rw [List.getElem_take];have hj':j < ys.length * te.sz:=by omega
    have hjn:j < news.length:=by omega
    have hi0:j / te.sz < ys.length:=by rw [Nat.div_lt_iff_lt_mul hszp];exact hj'
    have hd0:=hnrel (j / te.sz) hi0 (j % te.sz) (Nat.mod_lt _ hszp);have e1:j / te.sz * te.sz+j % te.sz=j:=by rw [Nat.mul_comm];exact Nat.div_add_mod _ _
    rw [e1] at hd0;have hg:news.getD j undef=news[j]:=by simp [List.getD_eq_getElem?_getD,hjn]
    have he':(ys.map (enc:te.den->D)).getD (j / te.sz) default=enc ys[j / te.sz]:=by simp [List.getD_eq_getElem?_getD,hi0]
    rw [hg,he'] at hd0;exact hd0.one (Enc.cell_one _ _)
   have fin:∀ w',(Builtin.clear_ #[t] o.type #[vv]).run P w = .ok (.tuple #[]) w'->RelH F (σ.put k (some (Ent.arrOf E (xs.take i++ys.take n++xs.drop (i+n))))) H a w'->
     o.wp P a w (fun a' w'=>(∃ u,a'=a.put o.dst u)/\∃ σ',σ'=σ.put k (some (Ent.arrOf E (xs.take i++ys.take n++xs.drop (i+n))))/\Rel F σ' a' w') (fun _ _ _=>False):=by
    intro w' hrun r1;exact EF.value (v := .tuple #[]) (w':=w') (by simp [execOp,ho,resolve,invoke,builtin,hvv,hrun]) ⟨_,rfl,H,by rw [hd];exact r1⟩
   by_cases hn0:n=0
   ·-- nothing goes over
    have hsame:xs.take i++ys.take n++xs.drop (i+n)=xs:=by rw [hn0];simp
    refine fin w ?_ (by rw [hsame];exact r.putSame hk);rcases hp with ⟨_,rfl,_,rfl⟩ | ⟨b,o0,n0,c0,c1,a1,_,_,rfl,_⟩
    ·simp [Builtin.clear_,run_underlying ht]
    ·subst hn0;cases a1<;>simp [Builtin.clear_,run_underlying ht]
   ·rcases hp with ⟨_,_,_,h0⟩ | ⟨b,o0,n0,c0,c1,a1,rfl,h2,rfl,h3,h4,h5⟩
    ·omega
    have ha1:=h5 (by omega);subst ha1;have hn0':n0=xs.length:=by
     rcases hown.form with ⟨h,_⟩ | ⟨b',off',cap,h⟩
     ·cases h
     ·cases h;rfl
    subst hn0';obtain ⟨w',hst,hgr,hown'⟩:=zcH (P:=P) hown (i * te.sz) (news.take (n * te.sz)) hone (by rw [htk];omega);rw [htk] at hown';have hytk:(ys.take n).length=n:=by rw [List.length_take];omega
    have hnewl:(xs.take i++ys.take n++xs.drop (i+n)).length=xs.length:=by
     simp only [List.length_append,List.length_take,List.length_drop];omega
    have hS:∀ b',Sh F.X σ.ent H w b'->Sh F.X σ.ent H w b'/\w'.heap[b']? =w.heap[b']? :=fun b' hb=>⟨hb,hgr.block b' hb.1 fun h=>hb.2.2 k _ _ hk hH (by rw [h];rfl)⟩
    have hget:∀ q:Nat,(xs.take i++ys.take n++xs.drop (i+n))[q]? =if q < i then xs[q]? else if q < i+n then ys[q - i]? else xs[q]? :=fun q=>by
     have:=getElem?_splice xs (ys.take n) i q (by rw [hytk];omega);rw [hytk] at this;rw [this];by_cases c1:q < i
     ·rw [if_pos c1,if_pos c1]
     ·rw [if_neg c1,if_neg c1];by_cases c2:q < i+n
      ·rw [if_pos c2,if_pos c2,List.getElem?_take,if_pos (by omega)]
      ·rw [if_neg c2,if_neg c2]
    have hgetc:∀ q:Nat,(cs.take (i * te.sz)++news.take (n * te.sz)++cs.drop (i * te.sz+n * te.sz))[q]? =if q < i * te.sz then cs[q]? else if q < i * te.sz+n * te.sz then news[q - i * te.sz]? else cs[q]? :=fun q=>by
     have:=getElem?_splice cs (news.take (n * te.sz)) (i * te.sz) q (by rw [htk];omega);rw [htk] at this;rw [this];by_cases c1:q < i * te.sz
     ·rw [if_pos c1,if_pos c1]
     ·rw [if_neg c1,if_neg c1];by_cases c2:q < i * te.sz+n * te.sz
      ·rw [if_pos c2,if_pos c2,List.getElem?_take,if_pos (by omega)]
      ·rw [if_neg c2,if_neg c2]
    have hrelN:∀ q,q < xs.length->∀ j,j < te.sz->DRel w' (Sh F.X σ.ent H w) ((((xs.take i++ys.take n++xs.drop (i+n)).map (enc:te.den->D)).getD q default).cells.getD j default) ((cs.take (i * te.sz)++news.take (n * te.sz)++cs.drop (i * te.sz+n * te.sz)).getD (q * te.sz+j) undef):=by
     intro q hq j hj;have hq1:(q+1) * te.sz=q * te.sz+te.sz:=Nat.succ_mul _ _;have old:=(hrel q (by simpa using hq) j hj).mono hS;simp only [List.getD_eq_getElem?_getD,List.getElem?_map,hget,hgetc,zkV] at old ⊢;by_cases c1:q < i
     ·have:(q+1) * te.sz<=i * te.sz:=Nat.mul_le_mul_right _ c1;rw [if_pos c1,if_pos (by omega)];exact old
     ·have g1:i * te.sz<=q * te.sz:=Nat.mul_le_mul_right _ (by omega);rw [if_neg c1,if_neg (show ¬ q * te.sz+j < i * te.sz by omega)];by_cases c2:q < i+n
      ·have:(q+1) * te.sz<=(i+n) * te.sz:=Nat.mul_le_mul_right _ c2;rw [if_pos c2,if_pos (by omega)];have nw:=(hnrel (q - i) (by omega) j hj).mono hS;have e3:(q - i) * te.sz=q * te.sz - i * te.sz:=Nat.sub_mul _ _ _;simp only [List.getD_eq_getElem?_getD,List.getElem?_map] at nw;rw [show q * te.sz+j - i * te.sz=(q - i) * te.sz+j by rw [e3];omega];exact nw
      ·have:(i+n) * te.sz<=q * te.sz:=Nat.mul_le_mul_right _ (by omega);rw [if_neg c2,if_neg (by omega)];exact old
    have hent:EntRel w' (Sh F.X σ.ent H w) H (Ent.arrOf E (xs.take i++ys.take n++xs.drop (i+n))) (.slice (some ⟨b,o0,none⟩) xs.length c0):=
     .arr E _ _ _ _ (cs.take (i * te.sz)++news.take (n * te.sz)++cs.drop (i * te.sz+n * te.sz)) hszp (by rw [List.length_map,hnewl];exact hown') (by rw [List.length_map,hnewl];rw [hlen0] at hbnd;exact hbnd)
      (fun q hq=>by
       have hq:q < (xs.take i++ys.take n++xs.drop (i+n)).length:=by simpa using hq
       have:((xs.take i++ys.take n++xs.drop (i+n)).map (enc:te.den->D)).getD q default=enc (xs.take i++ys.take n++xs.drop (i+n))[q]:=by
        simp only [List.getD_eq_getElem?_getD,List.getElem?_map,List.getElem?_eq_getElem hq];rfl
       rw [this,Enc.hsz])
      (fun q hq j hj=>hrelN q (by rw [List.length_map,hnewl] at hq;exact hq) j hj)
    refine fin w' ?_ (r.upd hk hH (b:=b) rfl hgr hent);have hzr:(Builtin.zeroCells z.cells n).toList=news.take (n * te.sz):=by
     rw [<- hnews,List.take_of_length_le (by rw [hnl,hyl];exact Nat.le_refl _)]
    obtain ⟨n',rfl⟩:∃ n',n=n'+1:=⟨n - 1,by omega⟩;simp [Builtin.clear_,run_underlying ht,he.zero,hzr,hst]
 have e:(List.replicate n te.dflt).take n=List.replicate n te.dflt:=List.take_of_length_le (by simp);rw [e] at main;exact main
end
end Go.Ab
