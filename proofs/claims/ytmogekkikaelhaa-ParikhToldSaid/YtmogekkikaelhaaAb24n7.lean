import Derived.Test.YtmogekkikaelhaaAb24n6
set_option linter.unusedVariables false
set_option linter.unusedSimpArgs false
set_option linter.unusedSectionVars false
namespace Go.Ab
open Enc (enc)
open Go.RowKit (Below)
section
variable {P:Program} {F:Fr} {ops:Array Oper} {σ:St} {K:St->Prop} {o:Oper} {rest:List (Nat×Oper)} {H:Hd} {a:Act} {w:World}
theorem zb5 {w:World} {E size n:Nat} {v:Value} {xs:List Value} (h:zbN w E size v n xs):v.ownBlock=blk v:=by
 rcases h.form with ⟨rfl,_⟩ | ⟨b,off,c,rfl⟩<;>rfl
theorem zp5 {α:Type} [Enc α] {z0:α} {z:Value} (hz:ZRs (enc z0).cells z.cells.toList):z.cells.size=Enc.sz α:=by
 have h:=(ZRs.rel (default:World) (fun _=>True) hz).1;rw [Enc.hsz] at h;simpa using h.symm
theorem zgv {α:Type} (xs ys:List α) (n sz i j:Nat) (d:α) (hx:xs.length=n * sz) (hj:j < sz):
  (xs++ys).getD (i * sz+j) d=if i < n then xs.getD (i * sz+j) d else ys.getD ((i - n) * sz+j) d:=by
 simp only [List.getD_eq_getElem?_getD];by_cases h:i < n
 ·rw [if_pos h,List.getElem?_append_left];have h5:i * sz+j < (i+1) * sz:=by rw [Nat.add_mul];omega
  have h6:(i+1) * sz<=n * sz:=Nat.mul_le_mul_right _ h;omega
 ·rw [if_neg h];have h6:n * sz<=i * sz:=Nat.mul_le_mul_right _ (by omega);rw [List.getElem?_append_right (by omega),hx,Nat.sub_mul];congr 2;omega
theorem EF.append {t e:TypeId} {x y:Operand} {k E:Nat} {dsc:Bool} {size bytes:Nat} {z:Value} {α:Type} [Enc α] {xs ys:List α} {d:Nat} (z0:α) (id:Nat) (hid:σ.nxt=id) (hl:Nat.blt id LIM=true) (hd:o.dst=some d) (hlt:Nat.blt d σ.n=true)
  (ho:o.op = .call { callee := .builtin .append,args:=#[x,y],argTypes:=#[t,t] }) (ht:P.underlying t=some (.slice e)) (he:TI P e dsc size bytes z) (hE:E=e) (hsz:Enc.sz α=size) (hbt:Enc.bts α=bytes) (hpos:0 < size)
  (hz:ZRs (enc z0).cells z.cells.toList)
  (hx:σ.ev x=some (.own k)) (hk:σ.ent k=some (Ent.arrOf E xs)) (hy:Src σ y ys) (hb:(xs.length+ys.length) * bytes<=140737488355328) (hm:xs.length+ys.length<=9223372036854775807):
  EF P F σ o (·=((σ.put k none).new (Ent.arrOf E (xs++ys))).set d (.own id)):=by
 subst hid hE;intro a w ⟨H,r⟩;have hl:σ.nxt < LIM:=by simpa using hl
 have hv:=r.ev hx;obtain ⟨v,hH,hr⟩:=r.ent k _ hk;obtain ⟨ad,c,news,hya,hnl,hnews,hnrel,hcn⟩:=hy.cells r;obtain ⟨i,hi,hs,hby,hzz⟩:=he.inf;have hzs:=zp5 hz;cases hr with
 | arr _ _ _ _ _ cs hszp hown hbnd hcs hrel=>
  have hlen:(xs.map (enc:α->D)).length=xs.length:=by simp
  rw [hlen] at hown;have hcl:cs.length=xs.length * Enc.sz α:=hown.1;have h1:∀ u∈news,u.oneCell'=true:=by
   intro u hu;obtain ⟨j,hj,rfl⟩:=List.mem_iff_getElem.1 hu;obtain ⟨b,off,_,hc⟩:=hnews j news[j] (by simp);obtain ⟨i0,j0,hi0,hj0,rfl⟩:∃ i0 j0,i0 < ys.length/\j0 < Enc.sz α/\j=i0 * Enc.sz α+j0:=by
    refine ⟨j / Enc.sz α,j % Enc.sz α,?_,Nat.mod_lt _ hszp,?_⟩
    ·rw [Nat.div_lt_iff_lt_mul hszp];omega
    ·rw [Nat.mul_comm];exact (Nat.div_add_mod _ _).symm
   have hd:=hnrel i0 hi0 j0 hj0;have hg:news.getD (i0 * Enc.sz α+j0) undef=news[i0 * Enc.sz α+j0]:=by simp [List.getD_eq_getElem?_getD,hj]
   have he':(ys.map enc).getD i0 default=enc ys[i0]:=by simp [List.getD_eq_getElem?_getD,hi0]
   rw [hg,he'] at hd;exact hd.one (Enc.cell_one _ _)
  have hadn:ad=none->ys.length=0/\c=0:=by
   intro h;subst h;have hn0:news=[]:=by
    cases news with
    | nil=>rfl
    | cons u us=>obtain ⟨b,off,h,_⟩:=hnews 0 u rfl;cases h
   refine ⟨?_,hcn rfl⟩;subst hn0;simp only [List.length_nil] at hnl;rcases Nat.mul_eq_zero.1 hnl.symm with h | h
   ·exact h
   ·omega
  obtain ⟨v',w',hrun,hown',hgr,hblk⟩:=zcq (w:=w) P t o.type E i z size bytes ht hi hzz hs hby (by rw [hzs,hsz]) hpos v xs.length cs (by rw [<- hsz];exact hown) ad ys.length c news (by rw [hnl,hsz]) hnews h1 (by simp only [maxLen];omega) hb hadn;have heval:a.eval x=v:=by
   generalize a.eval x=u at hv;cases hv with
   | own _ _ h _=>rw [hH] at h;cases h;rfl
  have hvb:=zb5 hown;have hvb':=zb5 hown';have r':=r.renew (old:=some k) (e:=Ent.arrOf E (xs++ys)) (v:=v') (w':=w') hl hgr.os hgr.tape hgr.output hgr.size
   (fun b hb h=>hgr.block b hb fun hh=>h k v rfl hH (by rw [<- hvb,<- hh])) (fun id h=>by cases h;exact ⟨_,hk⟩)
   (fun b hb=>by
    rcases hblk b (by rw [hvb'];exact hb) with h | h
    ·exact .inr ⟨k,v,rfl,hH,by rw [<- hvb];exact h⟩
    ·exact .inl h)
   (.arr E (Enc.sz α) (Enc.bts α) _ v' (cs++news) hszp (by rw [hsz];simpa using hown') (by rw [hbt];simpa [most] using hb)
    (fun i hi=>by
     have hi:i < (xs++ys).length:=by simpa using hi
     have:((xs++ys).map (enc:α->D)).getD i default=enc (xs++ys)[i]:=by simp only [List.getD_eq_getElem?_getD,List.getElem?_map,List.getElem?_eq_getElem hi];rfl
     rw [this,Enc.hsz])
    (fun i hi j hj=>by
     have hi:i < xs.length+ys.length:=by simpa using hi
     have hS:∀ b,Sh F.X σ.ent H w b->Sh F.X σ.ent H w b/\w'.heap[b]? =w.heap[b]? :=fun b hb=>⟨hb,hgr.block b hb.1 fun h=>hb.2.2 k _ v hk hH (by rw [<- hvb,<- h])⟩
     rw [zgv cs news xs.length (Enc.sz α) i j undef hcl hj];by_cases h:i < xs.length
     ·rw [if_pos h];have:=(hrel i (by simpa using h) j hj).mono hS;have he:((xs++ys).map (enc:α->D)).getD i default=(xs.map enc).getD i default:=by
       simp only [List.getD_eq_getElem?_getD,List.map_append];rw [List.getElem?_append_left (by simpa using h)]
      rw [he];exact this
     ·rw [if_neg h];have:=(hnrel (i - xs.length) (by omega) j hj).mono hS;have he:((xs++ys).map (enc:α->D)).getD i default=(ys.map enc).getD (i - xs.length) default:=by
       simp only [List.getD_eq_getElem?_getD,List.map_append];rw [List.getElem?_append_right (by simpa using h),List.length_map]
      rw [he];exact this))
  have r2:=r'.set (d:=d) (show d < σ.n by simpa using hlt) (.own σ.nxt _ (Hd.add_new _ _ _) (by
   rcases hown'.form with ⟨rfl,_⟩ | ⟨b,off,c,rfl⟩<;>exact .inl ⟨_,_,_,rfl⟩))
  rw [<- hd] at r2;exact EF.value (v:=v') (w':=w') (by simp [execOp,ho,resolve,invoke,builtin,heval,hya,hrun]) ⟨_,rfl,_,r2⟩
theorem EF.append_nil {t e:TypeId} {x y:Operand} {dsc:Bool} {size bytes:Nat} {z:Value} {α:Type} [Enc α] {ys:List α} {d:Nat} (z0:α) (id:Nat) (hid:σ.nxt=id) (hl:Nat.blt id LIM=true) (hd:o.dst=some d) (hlt:Nat.blt d σ.n=true)
  (ho:o.op = .call { callee := .builtin .append,args:=#[x,y],argTypes:=#[t,t] }) (ht:P.underlying t=some (.slice e)) (he:TI P e dsc size bytes z) (hsz:Enc.sz α=size) (hbt:Enc.bts α=bytes) (hpos:0 < size)
  (hz:ZRs (enc z0).cells z.cells.toList)
  (hx:σ.ev x=some .nil) (hy:Src σ y ys) (hb:ys.length * bytes<=140737488355328) (hm:ys.length<=9223372036854775807):
  EF P F σ o (·=(σ.new (Ent.arrOf e ys)).set d (.own id)):=by
 subst hid;intro a w ⟨H,r⟩;have hl:σ.nxt < LIM:=by simpa using hl
 have hv:=r.ev hx;obtain ⟨ad,c,news,hya,hnl,hnews,hnrel,hcn⟩:=hy.cells r;obtain ⟨i,hi,hs,hby,hzz⟩:=he.inf;have hzs:=zp5 hz;have hszp:0 < Enc.sz α:=by omega
 have h1:∀ u∈news,u.oneCell'=true:=by
  intro u hu;obtain ⟨j,hj,rfl⟩:=List.mem_iff_getElem.1 hu;obtain ⟨i0,j0,hi0,hj0,rfl⟩:∃ i0 j0,i0 < ys.length/\j0 < Enc.sz α/\j=i0 * Enc.sz α+j0:=by
   refine ⟨j / Enc.sz α,j % Enc.sz α,?_,Nat.mod_lt _ hszp,?_⟩
   ·rw [Nat.div_lt_iff_lt_mul hszp];omega
   ·rw [Nat.mul_comm];exact (Nat.div_add_mod _ _).symm
  have hd:=hnrel i0 hi0 j0 hj0;have hg:news.getD (i0 * Enc.sz α+j0) undef=news[i0 * Enc.sz α+j0]:=by simp [List.getD_eq_getElem?_getD,hj]
  have he':(ys.map enc).getD i0 default=enc ys[i0]:=by simp [List.getD_eq_getElem?_getD,hi0]
  rw [hg,he'] at hd;exact hd.one (Enc.cell_one _ _)
 have hadn:ad=none->ys.length=0/\c=0:=by
  intro h;subst h;have hn0:news=[]:=by
   cases news with
   | nil=>rfl
   | cons u us=>obtain ⟨b,off,h,_⟩:=hnews 0 u rfl;cases h
  refine ⟨?_,hcn rfl⟩;subst hn0;simp only [List.length_nil] at hnl;rcases Nat.mul_eq_zero.1 hnl.symm with h | h
  ·exact h
  ·omega
 have heval:a.eval x = .slice none 0 0:=by
  generalize a.eval x=u at hv;cases hv;rfl
 obtain ⟨v',w',hrun,hown',hgr,hblk⟩:=zcq (w:=w) P t o.type e i z size bytes ht hi hzz hs hby (by rw [hzs,hsz]) hpos _ 0 [] (zbN.of_row (World.ownsRow_nil w 0 e size)) ad ys.length c news (by rw [hnl,hsz]) hnews h1 (by simp only [maxLen];omega) (by rw [Nat.zero_add];exact hb) hadn;simp only [Nat.zero_add,List.nil_append] at hown';have hvb':=zb5 hown';have r':=r.renew (old:=none) (e:=Ent.arrOf e ys) (v:=v') (w':=w') hl hgr.os hgr.tape hgr.output hgr.size
  (fun b hb h=>hgr.block b hb (by simp [Value.ownBlock])) (fun id h=>by cases h)
  (fun b hb=>by
   rcases hblk b (by rw [hvb'];exact hb) with h | h
   ·simp [Value.ownBlock] at h
   ·exact .inl h)
  (.arr e (Enc.sz α) (Enc.bts α) _ v' news hszp (by rw [hsz];simpa using hown') (by rw [hbt];simpa [most] using hb)
   (fun i hi=>by
    have hi:i < ys.length:=by simpa using hi
    have:(ys.map (enc:α->D)).getD i default=enc ys[i]:=by simp [List.getD_eq_getElem?_getD,hi]
    rw [this,Enc.hsz])
   (fun i hi j hj=>(hnrel i (by simpa using hi) j hj).mono fun b hb=>⟨hb,hgr.block b hb.1 (by simp [Value.ownBlock])⟩))
 have r2:=r'.set (d:=d) (show d < σ.n by simpa using hlt) (.own σ.nxt _ (Hd.add_new _ _ _) (by
  rcases hown'.form with ⟨rfl,_⟩ | ⟨b,off,c,rfl⟩<;>exact .inl ⟨_,_,_,rfl⟩))
 rw [<- hd] at r2;exact EF.value (v:=v') (w':=w') (by simp [execOp,ho,resolve,invoke,builtin,heval,hya,hrun]) ⟨_,rfl,_,r2⟩
theorem getElem?_splice {α:Type} (l vs:List α) (o j:Nat) (h:o+vs.length<=l.length):
  (l.take o++vs++l.drop (o+vs.length))[j]? =if j < o then l[j]? else if j < o+vs.length then vs[j - o]? else l[j]? :=by
 have hto:(l.take o).length=o:=by simp;omega
 by_cases h1:j < o
 ·rw [if_pos h1,List.append_assoc,List.getElem?_append_left (by omega),List.getElem?_take,if_pos h1]
 ·rw [if_neg h1];by_cases h2:j < o+vs.length
  ·rw [if_pos h2,List.append_assoc,List.getElem?_append_right (by omega),List.getElem?_append_left (by omega),hto]
  ·rw [if_neg h2,List.getElem?_append_right (by simp;omega),List.getElem?_drop];congr 1;simp;omega
theorem zeY (w:World) (g:Nat) (cs:Array Value):w.grownBy (w.setRow g cs) (some g):=
 ⟨rfl,rfl,rfl,by simp [World.setRow],fun k _ hk=>setRow_other w g k cs (fun e=>hk (by rw [e]))⟩
theorem zcH {w:World} {e size n g o0 cap:Nat} {xs:List Value} {P:Program} (h:zbN w e size (.slice (some ⟨g,o0,none⟩) n cap) n xs) (off:Nat) (vs:List Value) (h1:∀ v∈vs,v.oneCell'=true) (hfit:off+vs.length<=n * size):
  ∃ w',(storeCells ⟨g,o0+off,none⟩ vs).run P w = .ok () w'/\w.grownBy w' (some g)/\zbN w' e size (.slice (some ⟨g,o0,none⟩) n cap) n (xs.take off++vs++xs.drop (off+vs.length)):=by
 obtain ⟨hxl,hx⟩:=h;rcases hx with ⟨h,_⟩ | ⟨g',o1,cap',cur,h,hg,hnc,hcm,hcs,htake⟩
 ·cases h
 ·cases h;have hle:o0+n * size<=cur.size:=Nat.le_trans (Nat.add_le_add_left (Nat.mul_le_mul_right _ hnc) _) hcs;have hst:=run_storeCells_at P g (o0+off) e vs 0 cur w hg (by omega) h1;refine ⟨_,hst,zeY w g _,?_,.inr ⟨g,o0,cap,_,rfl,setRow_heap w g cur _ e _ hg,hnc,hcm,?_,?_⟩⟩
  ·simp only [List.length_append,List.length_take,List.length_drop];omega
  ·simp only [List.size_toArray,List.length_append,List.length_take,List.length_drop,Array.length_toList];omega
  ·apply List.ext_getElem?;intro j;have hx2:off+vs.length<=xs.length:=by omega
   rw [getElem?_splice xs vs off j hx2,List.getElem?_take];simp only [Nat.add_zero];rw [List.getElem?_drop,getElem?_splice cur.toList vs (o0+off) (o0+j) (by simp;omega),<- htake];simp only [List.getElem?_take,List.getElem?_drop];by_cases h1:j < n * size
   ·simp only [if_pos h1];by_cases h2:j < off
    ·rw [if_pos h2,if_pos (by omega)]
    ·rw [if_neg h2,if_neg (by omega)];by_cases h3:j < off+vs.length
     ·rw [if_pos h3,if_pos (by omega),show o0+j - (o0+off)=j - off by omega]
     ·rw [if_neg h3,if_neg (by omega)]
   ·have e1 : ¬ j < off:=by omega
    have e2 : ¬ j < off+vs.length:=by omega
    simp only [if_neg h1,if_neg e1,if_neg e2]
def AV.one:AV->Bool
 | .any=>false
 | .d x=>x.one
 | .agg _=>false
 | .tup _=>false
 | _=>true
theorem VRel.one {S:Nat->Prop} {x:AV} {v:Value} (h:VRel w S H x v) (hx:x.one=true):v.oneCell'=true:=by
 cases h with
 | any=>simp [AV.one] at hx
 | d x v h=>exact h.one hx
 | own id v h hs=>rcases hs with ⟨a,n,c,rfl⟩ | ⟨b,rfl⟩<;>rfl
 | agg=>simp [AV.one] at hx
 | tup=>simp [AV.one] at hx
 | view id sz i n u v h hv=>rcases hv with ⟨_,rfl,_⟩ | ⟨_,_,_,_,_,_,_,_,rfl,_⟩<;>rfl
 | _=>rfl
def zbG (l:List AV) (k:Nat) (ys:List AV):List AV:=l.take k++ys++l.drop (k+ys.length)
theorem EF.st_ptr {t:TypeId} {x y:Operand} {id k T size bytes:Nat} {dsc:Bool} {z:Value} {cells:List AV} {c:AV} (hd:o.dst=none)
  (ho:o.op = .store t x y) (ht:TI P t dsc size bytes z) (hx:σ.ev x=some (.ptr id k)) (he:σ.ent id=some (.box T cells)) (hy:σ.ev y=some c) (hc:c.isAny=false)
  (hone:(zap c).all AV.one=true) (hsz:(zap c).length=size) (hk:k+size<=cells.length):
  EF P F σ o (·=σ.put id (some (.box T (zbG cells k (zap c))))):=by
 intro a w ⟨H,r⟩;have hv:=r.ev hx;obtain ⟨hcs,hcr⟩:=zda (r.ev hy) hc;obtain ⟨v,hH,hr⟩:=r.ent id _ he;generalize hu:a.eval x=u at hv;cases hv with
 | ptr _ _ b h=>
  rw [hH] at h;cases h;cases hr with
  | box _ _ _ cur hb hs hrel=>
   have h1:∀ v∈(a.eval y).cells.toList,v.oneCell'=true:=by
    intro v hv;obtain ⟨j,hj,rfl⟩:=List.mem_iff_getElem.1 hv;have hj':j < (zap c).length:=by rw [<- hcs];simpa using hj
    have h2:=hcr j hj';have h3:(zap c).getD j default=(zap c)[j]:=by simp [List.getD_eq_getElem?_getD,hj']
    have h4:(a.eval y).cells.getD j undef=(a.eval y).cells.toList[j]:=by
     have:j < (a.eval y).cells.size:=by simpa using hj
     simp [this]
    rw [h3,h4] at h2;exact h2.one (List.all_eq_true.1 hone _ (List.getElem_mem hj'))
   have hlen:(a.eval y).cells.toList.length=size:=by rw [Array.length_toList,hcs,hsz]
   have hst:=run_storeCells_at P b k T (a.eval y).cells.toList 0 cur w hb (by rw [hlen,hs];omega) h1;have hrun:(storeVar t ⟨b,k,none⟩ (a.eval y)).run P w = .ok () (w.setRow b (cur.toList.take (k+0)++(a.eval y).cells.toList++cur.toList.drop (k+0+(a.eval y).cells.toList.length)).toArray):=by
    unfold storeVar;have : ¬ (a.eval y).cells.size≠size:=by rw [hcs,hsz];simp
    simp only [Sem.run_bind,ht.size,Result.andThen_ok,if_neg this,hst]
   obtain ⟨cur',hcur⟩:∃ c',c'=(cur.toList.take (k+0)++(a.eval y).cells.toList++cur.toList.drop (k+0+(a.eval y).cells.toList.length)).toArray:=⟨_,rfl⟩;rw [<- hcur] at hrun;have hcs':cur'.size=cells.length:=by
    rw [hcur];simp only [List.size_toArray,List.length_append,List.length_take,List.length_drop,Array.length_toList] at hlen ⊢;omega
   have hscl:(zbG cells k (zap c)).length=cells.length:=by
    simp only [zbG,List.length_append,List.length_take,List.length_drop,hsz];omega
   have hrel':∀ j,j < cells.length->VRel w (Sh F.X σ.ent H w) H ((zbG cells k (zap c)).getD j default) (cur'.getD j undef):=by
    intro j hjl;have e1:(zbG cells k (zap c)).getD j default=if j < k then cells.getD j default else if j < k+size then (zap c).getD (j - k) default else cells.getD j default:=by
     simp only [List.getD_eq_getElem?_getD,zbG];rw [getElem?_splice cells (zap c) k j (by omega),hsz];by_cases h1:j < k
     ·simp only [if_pos h1]
     ·by_cases h2:j < k+size
      ·simp only [if_neg h1,if_pos h2]
      ·simp only [if_neg h1,if_neg h2]
    have e2:cur'.getD j undef=if j < k then cur.getD j undef else if j < k+size then (a.eval y).cells.getD (j - k) undef else cur.getD j undef:=by
     have hg:=getElem?_splice cur.toList (a.eval y).cells.toList k j (by rw [hlen,Array.length_toList,hs];omega);rw [hcur];simp only [Array.getD_eq_getD_getElem?, List.getElem?_toArray,Nat.add_zero];rw [hg,hlen];by_cases h1:j < k
     ·simp only [if_pos h1,Array.getElem?_toList]
     ·by_cases h2:j < k+size
      ·simp only [if_neg h1,if_pos h2,Array.getElem?_toList]
      ·simp only [if_neg h1,if_neg h2,Array.getElem?_toList]
    rw [e1,e2];by_cases h1:j < k
    ·simp only [if_pos h1];exact hrel j hjl
    ·by_cases h2:j < k+size
     ·simp only [if_neg h1,if_pos h2];exact hcr (j - k) (by omega)
     ·simp only [if_neg h1,if_neg h2];exact hrel j hjl
   have hS:∀ c',Sh F.X σ.ent H w c'->Sh F.X σ.ent H w c'/\(w.setRow b cur').heap[c']? =w.heap[c']? :=
    fun c' hc'=>⟨hc',(zeY w b cur').block c' hc'.1 fun h=>hc'.2.2 id _ _ he hH (by rw [h];rfl)⟩
   have r1:=r.upd (e' := .box T (zbG cells k (zap c))) he hH (b:=b) rfl (zeY w b cur') (.box T _ b cur' (setRow_heap w b cur cur' T _ hb) (by rw [hcs',hscl])
    (fun j hj=>(hrel' j (by rw [hscl] at hj;exact hj)).mono hS (fun _ _ h=>h)))
   refine EF.void (w':=w.setRow b cur') (by simp only [execOp,ho,Instr.storeAt,hu,Instr.sureAddr,Sem.run_bind,Sem.run_pure,Result.andThen_ok,hrun]) ⟨_,rfl,H,?_⟩;rw [hd];exact r1
theorem EF.st_eptr {t:TypeId} {x y:Operand} {id j E size bytes:Nat} {dsc:Bool} {z:Value} {α:Type} [Enc α] {l:List α} {c:α} (hd:o.dst=none)
  (ho:o.op = .store t x y) (ht:TI P t dsc size bytes z) (hsz:Enc.sz α=size) (hx:σ.ev x=some (.eptr id (Enc.sz α) j 0)) (he:σ.ent id=some (Ent.arrOf E l)) (hy:σ.ev y=some (.d (enc c))):
  EF P F σ o (·=σ.put id (some (Ent.arrOf E (l.set j c)))):=by
 intro a w ⟨H,r⟩;have hv:=r.ev hx;obtain ⟨hcs,hcr⟩:=zda (r.ev hy) rfl;obtain ⟨v,hH,hr⟩:=r.ent id _ he;generalize hu:a.eval x=u at hv;cases hv with
 | eptr _ _ _ _ b o0 n cc h hi=>
  rw [hH] at h;cases h;cases hr with
  | arr _ _ _ _ _ xs hszp hown hbnd hcss hrel=>
   have hn:n=l.length:=by
    rcases hown.form with ⟨h,_⟩ | ⟨_,_,_,h⟩
    ·cases h
    ·cases h;simp
   subst hn;have hlen0:(l.map (enc:α->D)).length=l.length:=by simp
   rw [hlen0] at hown;have hxl:xs.length=l.length * Enc.sz α:=hown.1;have havc:(zap (.d (enc c))).length=Enc.sz α:=by simp [zap,avs,Enc.hsz]
   have hlen:(a.eval y).cells.toList.length=Enc.sz α:=by rw [Array.length_toList,hcs,havc]
   have hcd:∀ i,i < Enc.sz α->DRel w (Sh F.X σ.ent H w) ((enc c).cells.getD i default) ((a.eval y).cells.getD i undef):=by
    intro i hi;have:=hcr i (by rw [havc];exact hi);have hi':i < (enc c).cells.length:=by rw [Enc.hsz];exact hi
    have e:(zap (.d (enc c))).getD i default = .d ((enc c).cells.getD i default):=by simp [zap,avs,List.getD_eq_getElem?_getD,hi']
    rw [e] at this;cases this with | d _ _ h=>exact h
   have h1:∀ v∈(a.eval y).cells.toList,v.oneCell'=true:=by
    intro v hv;obtain ⟨i,hi,rfl⟩:=List.mem_iff_getElem.1 hv;have hi':i < Enc.sz α:=by omega
    have h2:=hcd i hi';have h4:(a.eval y).cells.getD i undef=(a.eval y).cells.toList[i]:=by
     have:i < (a.eval y).cells.size:=by simpa using hi
     simp [this]
    rw [h4] at h2;exact h2.one (Enc.cell_one _ _)
   have hfit:j * Enc.sz α+(a.eval y).cells.toList.length<=l.length * Enc.sz α:=by
    rw [hlen];have:(j+1) * Enc.sz α<=l.length * Enc.sz α:=Nat.mul_le_mul_right _ hi;rw [Nat.add_mul] at this;omega
   obtain ⟨w',hst,hgr,hown'⟩:=zcH (P:=P) hown (j * Enc.sz α) _ h1 hfit;have hrun:(storeVar t ⟨b,o0+(j * Enc.sz α+0),none⟩ (a.eval y)).run P w = .ok () w':=by
    unfold storeVar;have : ¬ (a.eval y).cells.size≠size:=by
     have:(a.eval y).cells.size=Enc.sz α:=by simpa using hlen
     rw [this,hsz];simp
    simp only [Sem.run_bind,ht.size,Result.andThen_ok,if_neg this,Nat.add_zero,hst]
   have r1:=r.upd (e':=Ent.arrOf E (l.set j c)) he hH (b:=b) rfl hgr (.arr E _ _ _ _ (xs.take (j * Enc.sz α)++(a.eval y).cells.toList++xs.drop (j * Enc.sz α+(a.eval y).cells.toList.length)) hszp (by simpa using hown') (by simpa using hbnd)
    (fun i hi=>by
     have hi:i < (l.set j c).length:=by simpa using hi
     have:((l.set j c).map (enc:α->D)).getD i default=enc (l.set j c)[i]:=by simp only [List.getD_eq_getElem?_getD,List.getElem?_map,List.getElem?_eq_getElem hi];rfl
     rw [this,Enc.hsz])
    (fun i hi m hm=>by
     have hil:i < l.length:=by simpa using hi
     have hS:∀ c',Sh F.X σ.ent H w c'->Sh F.X σ.ent H w c'/\w'.heap[c']? =w.heap[c']? :=fun c' hc'=>⟨hc',hgr.block c' hc'.1 fun h=>hc'.2.2 id _ _ he hH (by rw [h];rfl)⟩
     have hg:=getElem?_splice xs (a.eval y).cells.toList (j * Enc.sz α) (i * Enc.sz α+m) (by omega);rw [List.getD_eq_getElem?_getD (l:=List.take _ _++_++_),hg,hlen];by_cases hij:i=j
     ·subst hij;have e1:((l.set i c).map (enc:α->D)).getD i default=enc c:=by simp [List.getD_eq_getElem?_getD,hil]
      rw [e1,if_neg (by omega),if_pos (by omega)];have e2:i * Enc.sz α+m - i * Enc.sz α=m:=by omega
      rw [e2];have:=(hcd m hm).mono hS;simpa [Array.getD_eq_getD_getElem?] using this
     ·have e1:((l.set j c).map (enc:α->D)).getD i default=(l.map enc).getD i default:=by
       simp only [List.getD_eq_getElem?_getD,List.getElem?_map];rw [List.getElem?_set_ne (fun h=>hij h.symm)]
      rw [e1];have:=(hrel i (by simpa using hil) m hm).mono hS;have hsep:i * Enc.sz α+m < j * Enc.sz α\/j * Enc.sz α+Enc.sz α<=i * Enc.sz α+m:=by
       rcases Nat.lt_or_gt_of_ne hij with h | h
       ·left;have:(i+1) * Enc.sz α<=j * Enc.sz α:=Nat.mul_le_mul_right _ h;rw [Nat.add_mul] at this;omega
       ·right;have:(j+1) * Enc.sz α<=i * Enc.sz α:=Nat.mul_le_mul_right _ h;rw [Nat.add_mul] at this;omega
      rcases hsep with h | h
      ·rw [if_pos h];simpa [List.getD_eq_getElem?_getD] using this
      ·rw [if_neg (by omega),if_neg (by omega)];simpa [List.getD_eq_getElem?_getD] using this))
   refine EF.void (w':=w') (by simp only [execOp,ho,Instr.storeAt,hu,Instr.sureAddr,Sem.run_bind,Sem.run_pure,Result.andThen_ok,hrun]) ⟨_,rfl,H,?_⟩;rw [hd];exact r1
end
end Go.Ab
