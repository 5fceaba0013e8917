import Derived.Test.YtmogekkikaelhaaAb24n15
set_option linter.unusedVariables false
set_option linter.unusedSimpArgs false
set_option linter.unusedSectionVars false
namespace Go.Ab
open Enc (enc)
section
variable {P:Program} {F:Fr} {ops:Array Oper} {σ:St} {o:Oper} {H:Hd} {a:Act} {w:World} {rest:List (Nat×Oper)} {K:St->Prop}
def zj9 (place:Nat->Option (Nat×Nat)):List AV->List (Nat×AV)->Option (List AV)
 | cs,[]=>some cs
 | cs,(i,x)::r=>match place i with
  | none=>none
  | some (off,size)=>bif Nat.beq (zap x).length size && Nat.ble (off+size) cs.length && !x.isAny then zj9 place (zbG cs off (zap x)) r else none
def zh3 (σ:St):List (Nat×Operand)->List (Nat×AV)->Prop
 | [],xs=>xs=[]
 | (i,o)::r,(j,x)::xs=>i=j/\σ.ev o=some x/\zh3 σ r xs
 | _::_,[]=>False
theorem znR (off:Nat):∀ (l:List Value) (k:Nat) (C:Array Value),off+k+l.length<=C.size->
  ((l.zipIdx k).foldl (fun cs (c,j)=>cs.setIfInBounds (off+j) c) C).toList=C.toList.take (off+k)++l++C.toList.drop (off+k+l.length)
 | [],k,C,h=>by simp
 | v::l,k,C,h=>by
  simp only [List.length_cons] at h;rw [List.zipIdx_cons,List.foldl_cons,znR off l (k+1) _ (by simp;omega)];have e:=list_seg_step C.toList (off+k) v l (by simp;omega);simpa [Array.toList_setIfInBounds,Nat.add_assoc,Nat.add_comm 1] using e
theorem zkt (r:RelH F σ H a w) (place:Nat->Option (Nat×Nat)):∀ (parts:List (Nat×Operand)) (xs:List (Nat×AV)) (cs cs':List AV) (C:Array Value),zh3 σ parts xs->zj9 place cs xs=some cs'->C.size=cs.length->
  (∀ j,j < cs.length->VRel w (Sh F.X σ.ent H w) H (cs.getD j default) (C.getD j undef))->
  ∃ C',Instr.fill place C (parts.map fun x=>(x.1,a.eval x.2))=some C'/\C'.size=cs'.length/\∀ j,j < cs'.length->VRel w (Sh F.X σ.ent H w) H (cs'.getD j default) (C'.getD j undef)
 | [],xs,cs,cs',C,hp,hf,hs,hr=>by
  have:xs=[]:=hp;subst this;simp only [zj9,Option.some.injEq] at hf;subst hf;exact ⟨C,rfl,hs,hr⟩
 | (i,o)::parts,[],cs,cs',C,hp,_,_,_=>hp.elim
 | (i,o)::parts,(j,x)::xs,cs,cs',C,hp,hf,hs,hr=>by
  obtain ⟨rfl,hx,hp⟩:=hp;simp only [zj9] at hf;cases hpl:place i with
  | none=>rw [hpl] at hf;cases hf
  | some q=>
   obtain ⟨off,size⟩:=q;rw [hpl] at hf;simp only at hf;cases hb:(Nat.beq (zap x).length size && Nat.ble (off+size) cs.length && !x.isAny) with
   | false=>rw [hb] at hf;cases hf
   | true=>
    rw [hb] at hf;simp only [cond_true] at hf;simp only [Bool.and_eq_true,Bool.not_eq_true'] at hb;have hlen:(zap x).length=size:=Nat.eq_of_beq_eq_true hb.1.1;have hle:off+size<=cs.length:=Nat.le_of_ble_eq_true hb.1.2;obtain ⟨h1,h2⟩:=zda (r.ev hx) hb.2;have hvl:(a.eval o).cells.toList.length=size:=by rw [Array.length_toList,h1,hlen]
    have hfold:=znR off (a.eval o).cells.toList 0 C (by omega);generalize hC2:((a.eval o).cells.toList.zipIdx 0).foldl (fun cs (c,j)=>cs.setIfInBounds (off+j) c) C=C2 at hfold;simp only [Nat.add_zero] at hfold;have hsz2:C2.size=cs.length:=by
     rw [<- Array.length_toList,hfold];simp only [List.length_append,List.length_take,List.length_drop,Array.length_toList];rw [h1,hlen];omega
    have hscl:(zbG cs off (zap x)).length=cs.length:=by
     simp only [zbG,List.length_append,List.length_take,List.length_drop];omega
    obtain ⟨C',g1,g2,g3⟩:=zkt r place parts xs (zbG cs off (zap x)) cs' C2 hp hf (by rw [hsz2,hscl]) (fun j hj=>by
     have e2:C2.getD j undef=C2.toList.getD j undef:=by simp [Array.getD_eq_getD_getElem?, List.getD_eq_getElem?_getD]
     rw [e2,hfold];rw [hscl] at hj;simp only [List.getD_eq_getElem?_getD,zbG];rw [getElem?_splice cs (zap x) off j (by omega),getElem?_splice C.toList (a.eval o).cells.toList off j (by rw [hvl,Array.length_toList,hs];omega)];rw [hvl,hlen];by_cases hj1:j < off
     ·rw [if_pos hj1,if_pos hj1];have:=hr j hj;simpa [List.getD_eq_getElem?_getD,Array.getD_eq_getD_getElem?] using this
     ·rw [if_neg hj1,if_neg hj1];by_cases hj2:j < off+size
      ·rw [if_pos hj2,if_pos hj2];have:=h2 (j - off) (by omega);simpa [List.getD_eq_getElem?_getD,Array.getD_eq_getD_getElem?] using this
      ·rw [if_neg hj2,if_neg hj2];have:=hr j hj;simpa [List.getD_eq_getElem?_getD,Array.getD_eq_getD_getElem?] using this)
    refine ⟨C',?_,g2,g3⟩;rw [List.map_cons,Instr.fill];simp only [hpl];have hcond:((a.eval o).cells.size≠size || off+(a.eval o).cells.size > C.size)=false:=by
     rw [h1,hlen,hs];simp;omega
    have hz:(a.eval o).cells.zipIdx.foldl (fun cs (c,j)=>cs.setIfInBounds (off+j) c) C=C2:=by
     rw [<- hC2,<- Array.foldl_toList,Array.toList_zipIdx]
    rw [hcond];simp only [Bool.false_eq_true,if_false];rw [hz];exact g1
theorem RO.build {t:TypeId} {parts:Array (Nat×Operand)} {fs:Array Field} {places:List (Nat×Nat)} {bytes size:Nat} {dsc:Bool} {zs:Array Value} {xs:List (Nat×AV)} {cs':List AV}
  (ho:o.op = .build t parts) (ht:P.underlying t=some (.struct fs)) (hz:TI P t dsc size bytes (.agg zs)) (hp:fs.toList.mapM (fun f=>(P.info? f.type).map fun i=>(f.offset,i.size))=some places)
  (hx:zh3 σ parts.toList xs) (hf:zj9 (fun i=>places[i]?) (zs.toList.map avc) xs=some cs'):RO P F σ o (.agg cs'):=fun H a w r=>by
 obtain ⟨C',g1,g2,g3⟩:=zkt r (fun i=>places[i]?) parts.toList xs (zs.toList.map avc) cs' zs hx hf (by simp) (fun j hj=>by
  have hj:j < zs.size:=by simpa using hj
  have e:(zs.toList.map avc).getD j default=avc (zs.getD j undef):=by simp [List.getD_eq_getElem?_getD,Array.getD_eq_getD_getElem?, hj]
  rw [e];exact zmu w _ H _)
 refine ⟨.agg C',fun w' _ => ?_,.agg cs' C' g2 g3⟩;obtain ⟨it,hi,_,_,hzz⟩:=hz.inf;have hb:P.built t (parts.map fun x=>(x.1,a.eval x.2)).toList=some C':=by
  unfold Program.built;simp only [hi,ht,hzz,hp];have e1:(fun i:Nat=>places.toArray[i]?)=(fun i:Nat=>places[i]?):=by funext i;simp
  have e2:(Value.agg zs).cells=zs:=rfl;rw [e1,e2,Array.toList_map];exact g1
 simp [execOp,ho,run_build w' t _ C' hb]
theorem zpB {α:Type} [Enc α]:∀ (ys:List α) (i j:Nat) (hi:i < ys.length),j < Enc.sz α->(ys.flatMap fun y=>(enc y).cells).getD (i * Enc.sz α+j) default=(enc ys[i]).cells.getD j default
 | [],i,j,hi,_=>by simp at hi
 | y::ys,0,j,hi,hj=>by
  have:j < (enc y).cells.length:=by rw [Enc.hsz];exact hj
  simp [List.getD_eq_getElem?_getD,List.getElem?_append_left this]
 | y::ys,i+1,j,hi,hj=>by
  have h1:=zpB ys i j (by simpa using hi) hj;have hl:(enc y).cells.length=Enc.sz α:=Enc.hsz y;have e:(i+1) * Enc.sz α+j=(enc y).cells.length+(i * Enc.sz α+j):=by rw [hl,Nat.add_mul];omega
  rw [List.flatMap_cons,e,List.getD_eq_getElem?_getD,List.getElem?_append_right (by omega)];simpa [List.getD_eq_getElem?_getD] using h1
theorem ztu {S:Nat->Prop} {n:Nat} {C:Array Value}:∀ j,j < (List.replicate n AV.any).length->VRel w S H ((List.replicate n AV.any).getD j default) (C.getD j undef):=fun j hj=>by
 have:(List.replicate n AV.any).getD j default = .any:=by
  have hj:j < n:=by simpa using hj
  simp [List.getD_eq_getElem?_getD,hj]
 rw [this];exact .any _
theorem AL.litsN {t e:TypeId} {n bs size:Nat} {parts:Array (Nat×Operand)} {dsc:Bool} {bytes:Nat} {z:Value} {α:Type} [Enc α] {ys:List α} {xs:List (Nat×AV)} {d:Nat} (id:Nat) (hid:σ.nxt=id) (hl:Nat.blt id LIM=true) (hd:o.dst=some d) (hlt:Nat.blt d σ.n=true)
  (ho:o.op = .buildSlice t n parts) (ht:P.underlying t=some (.slice e)) (he:TI P e dsc size bytes z) (hsz:Enc.sz α=size) (hpos:Nat.blt 0 size=true)
  (hp:zh3 σ parts.toList xs) (hf:zj9 (fun i=>some (i * size,size)) (List.replicate (n * size) .any) xs=some ((ys.flatMap fun y=>(enc y).cells).map .d)) (hn:n=ys.length)
  (hbs:Enc.bts α=bs) (hsmall':Nat.ble (n * bs) most=true) (hn24':Nat.ble (n * size) 16777216=true):
  AL P F σ o (·=(σ.new (Ent.arrOf e ys)).set d (.own id)):=by
 have hsmall:ys.length * Enc.bts α<=most:=by rw [hbs,<- hn];exact Nat.le_of_ble_eq_true hsmall'
 have hn24:n * size<=16777216:=Nat.le_of_ble_eq_true hn24';have hpos:0 < size:=by simpa using hpos
 subst hid;intro a w ⟨H,r⟩;have hl:σ.nxt < LIM:=by simpa using hl
 have hflen:(ys.flatMap fun y=>(enc y).cells).length=n * size:=by
  rw [hn,<- hsz];clear hf hn hsmall hsmall';induction ys with
  | nil=>simp
  | cons y ys ih=>rw [List.flatMap_cons,List.length_append,ih,Enc.hsz,List.length_cons,Nat.add_mul];omega
 have key:∀ zc:Array Value,∃ C',Instr.fill (fun i=>some (i * size,size)) ((Array.range (n * size)).map (fun j=>zc[j % zc.size]!)) (parts.toList.map fun x=>(x.1,a.eval x.2))=some C'/\C'.size=n * size/\
   ∀ i,i < n->∀ j,j < size->DRel w (Sh F.X σ.ent H w) (((ys.map (enc:α->D)).getD i default).cells.getD j default) (C'.getD (i * size+j) undef):=by
  intro zc;obtain ⟨C',g1,g2,g3⟩:=zkt r (fun i=>some (i * size,size)) parts.toList xs (List.replicate (n * size) .any) _ ((Array.range (n * size)).map (fun j=>zc[j % zc.size]!)) hp hf (by simp) ztu;refine ⟨C',g1,by rw [g2,List.length_map,hflen],fun i hi j hj => ?_⟩;have hlt:i * size+j < n * size:=by
   have h1:i * size+j < (i+1) * size:=by rw [Nat.add_mul];omega
   have h2:(i+1) * size<=n * size:=Nat.mul_le_mul_right _ hi;omega
  have h1:=g3 (i * size+j) (by rw [List.length_map,hflen];exact hlt);have h2:=zpB ys i j (by omega) (by omega);rw [hsz] at h2;have h3:((ys.flatMap fun y=>(enc y).cells).map AV.d).getD (i * size+j) default = .d ((enc (ys[i]'(by omega))).cells.getD j default):=by
   rw [<- h2];have:i * size+j < (ys.flatMap fun y=>(enc y).cells).length:=by omega
   simp only [List.getD_eq_getElem?_getD,List.getElem?_map];rw [List.getElem?_eq_getElem this];rfl
  rw [h3] at h1;have h4:(ys.map (enc:α->D)).getD i default=enc (ys[i]'(by omega)):=by
   have:i < ys.length:=by omega
   simp [List.getD_eq_getElem?_getD,this]
  rw [h4];cases h1 with
  | d _ _ h=>exact h
 have hrun:∃ C':Array Value,(Instr.buildSlice t n (parts.map fun (i,x)=>(i,a.eval x))).run P w = .ok (.slice (some ⟨w.heap.size,0,none⟩) n n) (w.alloc (.cells C' e))/\C'.size=n * size/\
   ∀ i,i < n->∀ j,j < size->DRel w (Sh F.X σ.ent H w) (((ys.map (enc:α->D)).getD i default).cells.getD j default) (C'.getD (i * size+j) undef):=by
  have hnot : ¬ (n * size > 2 ^ 24):=by omega
  have hparts:(parts.map fun (i,x)=>(i,a.eval x)).toList=parts.toList.map fun x=>(x.1,a.eval x.2):=by simp
  by_cases h0:n * size=0
  ·obtain ⟨C',g1,g2,g3⟩:=key #[];refine ⟨C',?_,g2,g3⟩;simp only [Instr.buildSlice,Sem.run_bind,run_underlying ht,Result.andThen_ok,he.size,if_neg hnot,if_pos h0,Sem.run_pure,hparts,g1];rfl
  ·obtain ⟨C',g1,g2,g3⟩:=key z.cells;refine ⟨C',?_,g2,g3⟩;simp only [Instr.buildSlice,Sem.run_bind,run_underlying ht,Result.andThen_ok,he.size,if_neg hnot,if_neg h0,he.zero,Sem.run_pure,hparts,g1];rfl
 obtain ⟨C',hrun,hC,hrel⟩:=hrun;have hle:n<=n * size:=Nat.le_mul_of_pos_right _ hpos;have hnn:(ys.map (enc:α->D)).length=n:=by simp [hn]
 have r':=r.newArr hl e (Enc.sz α) (Enc.bts α) (cs:=C') (l:=ys.map enc) (cap:=n) (by omega) (by rw [hsz];exact hC) (by omega) (by simp only [maxLen];omega) (by simpa using hsmall)
  (fun i hi=>by
   have hi:i < ys.length:=by simpa using hi
   simp [List.getD_eq_getElem?_getD,hi,Enc.hsz])
  (fun i hi j hj=>by
   rw [hsz] at hj ⊢;exact hrel i (by omega) j hj)
 have r2:=r'.set (d:=d) (show d < σ.n by simpa using hlt) (.own σ.nxt _ (Hd.add_new _ _ _) (.inl ⟨_,_,_,rfl⟩));rw [<- hd] at r2;rw [hnn] at r2;exact AL.value (by simp [execOp,ho,hrun]) (Ext.alloc w _) ⟨_,rfl,_,r2⟩
def zid:List AV->List D->Prop
 | [],ds=>ds=[]
 | x::xs,d::ds=>(x = .d d\/(x = .nil/\∃ b,d = .sl b []))/\zid xs ds
 | _::_,[]=>False
theorem ziW:∀ {xs:List AV} {ds:List D},zid xs ds->xs.length=ds.length/\∀ i,i < ds.length->(xs.getD i default = .d (ds.getD i default)\/(xs.getD i default = .nil/\∃ b,ds.getD i default = .sl b []))
 | [],ds,h=>by
  have:ds=[]:=h;subst this;exact ⟨rfl,by simp⟩
 | x::xs,d::ds,h=>by
  obtain ⟨h1,h2⟩:=h;obtain ⟨h3,h4⟩:=ziW h2;refine ⟨by simp [h3],fun i hi => ?_⟩;cases i with
  | zero=>exact h1
  | succ i=>simpa using h4 i (by simpa using hi)
 | _::_,[],h=>h.elim
theorem VRel.packn {S:Nat->Prop} {xs:List AV} {ds:List D} {v:Value} (h:VRel w S H (.agg xs) v) (hp:zid xs ds):VRel w S H (.d (.agg ds)) v:=by
 obtain ⟨hl,hg⟩:=ziW hp;cases h with
 | agg _ arr hs h=>
  refine .d _ _ (.agg ds arr (by omega) fun i hi => ?_);have h1:=h i (by omega);rcases hg i hi with h2 | ⟨h2,b,h3⟩
  ·rw [h2] at h1;cases h1 with
   | d _ _ h=>exact h
  ·rw [h2] at h1;rw [h3];generalize arr.getD i undef=u at h1 ⊢;cases h1;exact .nil _ _ _ (by simp [maxLen]) (fun _=>rfl)
theorem AO.packn {l:List (Nat×Oper)} {xs:List AV} {ds:List D} {y:D} (k:Nat) (hk:σ.get k=some (.agg xs)) (hp:zid xs ds) (hy:y = .agg ds) (h:AO P F ops l (σ.set k (.d y)) K):AO P F ops l σ K:=by
 subst hy;exact AO.weak (fun _ _ ⟨H,r⟩=>⟨H,r.setAV ((r.slot k _ hk).packn hp)⟩) h
theorem AW.packn {c:Code} {Q:Exit->St->Prop} {xs:List AV} {ds:List D} {y:D} (k:Nat) (hk:σ.get k=some (.agg xs)) (hp:zid xs ds) (hy:y = .agg ds) (h:AW P F c (σ.set k (.d y)) Q):AW P F c σ Q:=by
 subst hy;exact AW.weak (fun _ _ ⟨H,r⟩=>⟨H,r.setAV ((r.slot k _ hk).packn hp)⟩) h
theorem RelH.boxpack (r:RelH F σ H a w) {id:Nat} {T:TypeId} {xs:List AV} {ds:List D} (he:σ.ent id=some (.box T xs)) (hp:zid xs ds):RelH F (σ.put id (some (.box T (ds.map .d)))) H a w:=by
 obtain ⟨hl,hg⟩:=ziW hp;obtain ⟨v,hH,hr⟩:=r.ent id _ he;cases hr with
 | box _ _ b cur hb hs hrel=>
  refine r.upd he hH (b:=b) rfl ?_ (.box T _ b cur hb (by simp;omega) fun j hj => ?_)
  ·exact { os:=rfl,tape:=rfl,output:=rfl,size:=Nat.le_refl _,block:=fun _ _ _=>rfl }
  ·have hj:j < ds.length:=by simpa using hj
   have h1:=hrel j (by omega);have e:(ds.map AV.d).getD j default = .d (ds.getD j default):=by simp [List.getD_eq_getElem?_getD,hj]
   rw [e];rcases hg j hj with h2 | ⟨h2,q,h3⟩
   ·rw [h2] at h1;exact h1
   ·rw [h2] at h1;rw [h3];generalize cur.getD j undef=u at h1 ⊢;cases h1;exact .d _ _ (.nil _ _ _ (by simp [maxLen]) (fun _=>rfl))
 | mp _ kb vb ks vs b es clock hb h1 h2 hk hv hc=>
  obtain ⟨d0,d1,rfl⟩:∃ d0 d1,ds=[d0,d1]:=by
   match ds,hl with
   | [d0,d1],_=>exact ⟨d0,d1,rfl⟩
  have g0:=hg 0 (by simp);have g1:=hg 1 (by simp);simp only [List.getD_cons_zero,List.getD_cons_succ] at g0 g1;have e0:D.sl kb ks=d0:=by rcases g0 with h | ⟨h,_⟩<;>cases h;rfl
  have e1:D.sl vb vs=d1:=by rcases g1 with h | ⟨h,_⟩<;>cases h;rfl
  subst e0;subst e1;refine r.upd he hH (b:=b) rfl ?_ (.mp T kb vb ks vs b es clock hb h1 h2 hk hv hc);exact { os:=rfl,tape:=rfl,output:=rfl,size:=Nat.le_refl _,block:=fun _ _ _=>rfl }
theorem AW.boxpack {c:Code} {Q:Exit->St->Prop} {T:TypeId} {xs:List AV} (ds:List D) (id:Nat) (he:σ.ent id=some (.box T xs)) (hp:zid xs ds) (h:AW P F c (σ.put id (some (.box T (ds.map .d)))) Q):AW P F c σ Q:=
 AW.weak (fun _ _ ⟨H,r⟩=>⟨H,r.boxpack he hp⟩) h
theorem AO.boxpack {l:List (Nat×Oper)} {T:TypeId} {xs:List AV} (ds:List D) (id:Nat) (he:σ.ent id=some (.box T xs)) (hp:zid xs ds) (h:AO P F ops l (σ.put id (some (.box T (ds.map .d)))) K):AO P F ops l σ K:=
 AO.weak (fun _ _ ⟨H,r⟩=>⟨H,r.boxpack he hp⟩) h
theorem RelH.frozen (r:RelH F σ H a w) {id:Nat} {E sz bts:Nat} {l:List D} (he:σ.ent id=some (.arr E sz bts l)):∃ v,H id=some v/\DRel w (Sh F.X (σ.put id none).ent H w) (.sl bts l) v:=by
 obtain ⟨v,hH,hr⟩:=r.ent id _ he;refine ⟨v,hH,?_⟩;have hlt:∀ b,blk v=some b->b < w.heap.size:=fun b hb=>hr.lt hb
 have hS:∀ c,Sh F.X σ.ent H w c->Sh F.X (σ.put id none).ent H w c/\w.heap[c]? =w.heap[c]? :=by
  intro c ⟨hc,hx,ho⟩;refine ⟨⟨hc,hx,fun j x u h1 h2 => ?_⟩,rfl⟩;rw [St.ent_put] at h1;by_cases hj:id=j
  ·rw [if_pos hj] at h1;cases h1
  ·rw [if_neg hj] at h1;exact ho j x u h1 h2
 have hSb:∀ b,blk v=some b->Sh F.X (σ.put id none).ent H w b:=by
  intro b hb;refine ⟨hlt b hb,(r.own id _ v b he hH hb).2,fun j x u h1 h2 h3 => ?_⟩;rw [St.ent_put] at h1;by_cases hj:id=j
  ·rw [if_pos hj] at h1;cases h1
  ·rw [if_neg hj] at h1;exact hj (r.inj id j _ x v u b he h1 hH h2 hb h3)
 cases hr with
 | arr _ _ _ _ _ xs hsz hown hbt hcs hrel=>
  have hown0:=hown;obtain ⟨hxl,h2⟩:=hown;rcases h2 with ⟨rfl,h0⟩ | ⟨g,off,cap,cur,rfl,hh,hnc,hcm,hcsz,htake⟩
  ·have:l=[]:=List.length_eq_zero_iff.1 h0;subst this;exact .nil _ _ _ (by simp [maxLen]) (fun _=>rfl)
  ·by_cases h0:l=[]
   ·subst h0;exact .nil _ _ _ hcm (by simp)
   ·have hpos:0 < l.length:=List.length_pos_iff.2 h0;refine .sl _ _ g off cap sz (fun j=>xs.getD j undef) hpos hsz (hSb g rfl) hnc hcm hbt hcs (fun j hj => ?_) (fun i hi j hj=>(hrel i hi j hj).mono hS);have hjx:j < xs.length:=by omega
    exact hown0.cell j _ (by simp [List.getD_eq_getElem?_getD,hjx])
theorem RelH.boxfreeze (r:RelH F σ H a w) {id id2 j:Nat} {T:TypeId} {E sz bts:Nat} {xs:List AV} {l:List D} (he:σ.ent id=some (.box T xs)) (hj:xs[j]? =some (.own id2)) (he2:σ.ent id2=some (.arr E sz bts l)) (hne:Nat.beq id2 id=false):
  RelH F ((σ.put id2 none).put id (some (.box T (xs.set j (.d (.sl bts l)))))) H a w:=by
 have hne':id2≠id:=Nat.ne_of_beq_eq_false hne;obtain ⟨v2,hH2,hd⟩:=r.frozen he2;have r1:=r.drop id2;have he1:(σ.put id2 none).ent id=some (.box T xs):=by rw [St.ent_put,if_neg hne'];exact he
 obtain ⟨v,hH,hr⟩:=r1.ent id _ he1;cases hr with
 | box _ _ b cur hb hs hrel=>
  refine r1.upd he1 hH (b:=b) rfl ?_ (.box T _ b cur hb (by simpa using hs) fun q hq => ?_)
  ·exact { os:=rfl,tape:=rfl,output:=rfl,size:=Nat.le_refl _,block:=fun _ _ _=>rfl }
  ·have hq:q < xs.length:=by simpa using hq
   have h1:=hrel q hq;by_cases hqj:j=q
   ·subst hqj;have e1:xs.getD j default = .own id2:=by rw [List.getD_eq_getElem?_getD,hj];rfl
    have e2:(xs.set j (.d (.sl bts l))).getD j default = .d (.sl bts l):=by simp [List.getD_eq_getElem?_getD,hq]
    rw [e1] at h1;rw [e2];generalize cur.getD j undef=u at h1 ⊢;cases h1 with
    | own _ _ h _=>rw [hH2] at h;cases h;exact .d _ _ hd
   ·have e2:(xs.set j (.d (.sl bts l))).getD q default=xs.getD q default:=by simp [List.getD_eq_getElem?_getD,List.getElem?_set_ne hqj]
    rw [e2];exact h1
 | mp=>
  exfalso
  match j,hj with
  | 0,hj=>cases hj
  | 1,hj=>cases hj
  | q+2,hj=>simp at hj
theorem AW.boxfreeze {c:Code} {Q:Exit->St->Prop} {T E:TypeId} {xs:List AV} {α:Type} [Enc α] {l:List α} (id id2 j:Nat) (he:σ.ent id=some (.box T xs)) (hj:xs[j]? =some (.own id2)) (he2:σ.ent id2=some (Ent.arrOf E l)) (hne:Nat.beq id2 id=false)
  (h:AW P F c ((σ.put id2 none).put id (some (.box T (xs.set j (.d (enc l)))))) Q):AW P F c σ Q:=
 AW.weak (fun _ _ ⟨H,r⟩=>⟨H,r.boxfreeze he hj he2 hne⟩) h
theorem AO.boxfreeze {m:List (Nat×Oper)} {T E:TypeId} {xs:List AV} {α:Type} [Enc α] {l:List α} (id id2 j:Nat) (he:σ.ent id=some (.box T xs)) (hj:xs[j]? =some (.own id2)) (he2:σ.ent id2=some (Ent.arrOf E l)) (hne:Nat.beq id2 id=false)
  (h:AO P F ops m ((σ.put id2 none).put id (some (.box T (xs.set j (.d (enc l)))))) K):AO P F ops m σ K:=
 AO.weak (fun _ _ ⟨H,r⟩=>⟨H,r.boxfreeze he hj he2 hne⟩) h
def zjQ (σ:St) (id:Nat):List Nat->Bool
 | []=>true
 | k::ks=>(match σ.get k with | some (.own i)=>Nat.beq i id | _=>false) && zjQ σ id ks
theorem zmb {id:Nat}:∀ {ks:List Nat},zjQ σ id ks=true->∀ k∈ks,σ.get k=some (.own id)
 | [],_,k,h=>by cases h
 | k'::ks,hk,k,h=>by
  simp only [zjQ,Bool.and_eq_true] at hk;rcases List.mem_cons.1 h with rfl | h
  ·have h1:=hk.1;cases hg:σ.get k with
   | none=>rw [hg] at h1;simp at h1
   | some y=>
    rw [hg] at h1
    match y,h1 with
    | .own i,h1=>have:=Nat.eq_of_beq_eq_true h1;subst this;rfl
  ·exact zmb hk.2 k h
theorem RelH.freezeA (r:RelH F σ H a w) {id:Nat} {E sz bts:Nat} {l:List D} (ks:List Nat) (hk:zjQ σ id ks=true) (he:σ.ent id=some (.arr E sz bts l)):RelH F ((σ.put id none).setAll ks (.d (.sl bts l))) H a w:=by
 obtain ⟨v,hH,hd⟩:=r.frozen he;refine zen _ ks _ (r.drop id) (fun k hkm => ?_);have hv:=r.slot k _ (zmb hk k hkm);generalize a.tmps.getD k undef=u at hv;cases hv with
 | own _ _ h _=>rw [hH] at h;cases h;exact .d _ _ hd
theorem AO.freezeA {E:TypeId} {l:List (Nat×Oper)} {α:Type} [Enc α] {xs:List α} (id:Nat) (ks:List Nat) (hk:zjQ σ id ks=true) (he:σ.ent id=some (Ent.arrOf E xs))
  (h:AO P F ops l ((σ.put id none).setAll ks (.d (enc xs))) K):AO P F ops l σ K:=
 AO.weak (fun _ _ ⟨H,r⟩=>⟨H,r.freezeA ks hk he⟩) h
theorem AW.freezeA {E:TypeId} {c:Code} {Q:Exit->St->Prop} {α:Type} [Enc α] {xs:List α} (id:Nat) (ks:List Nat) (hk:zjQ σ id ks=true) (he:σ.ent id=some (Ent.arrOf E xs))
  (h:AW P F c ((σ.put id none).setAll ks (.d (enc xs))) Q):AW P F c σ Q:=
 AW.weak (fun _ _ ⟨H,r⟩=>⟨H,r.freezeA ks hk he⟩) h
end
end Go.Ab
