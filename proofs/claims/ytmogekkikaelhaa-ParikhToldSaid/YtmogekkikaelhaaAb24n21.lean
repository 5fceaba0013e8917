import Derived.Test.YtmogekkikaelhaaAb24n20
set_option linter.unusedVariables false
set_option linter.unusedSimpArgs false
set_option linter.unusedSectionVars false
namespace Go.Ab
open Enc (enc)
section
variable {P:Program} {F:Fr} {σ:St} {H:Hd} {a:Act} {w:World} {o:Oper}
theorem znb {x:Operand} {k E:Nat} {α:Type} [Enc α] {l:List α} (r:RelH F σ H a w) (hx:σ.ev x=some (.own k)) (hk:σ.ent k=some (Ent.arrOf E l)):
  ∃ ad c,a.eval x = .slice ad l.length c/\H k=some (.slice ad l.length c)/\l.length<=c/\c<=maxLen/\((ad=none/\l.length=0/\c=0)\/∃ b off,ad=some ⟨b,off,none⟩):=by
 have hv:=r.ev hx;obtain ⟨v,hH,hr⟩:=r.ent k _ hk;have heval:a.eval x=v:=by
  generalize a.eval x=u at hv;cases hv with
  | own _ _ h _=>rw [hH] at h;cases h;rfl
 cases hr with
 | arr _ _ _ _ _ cs hszp hown hbnd hcs hrel=>
  have hlen:(l.map (enc:α->D)).length=l.length:=by simp
  rw [hlen] at hown;rcases hown.2 with ⟨rfl,h0⟩ | ⟨g,off,cap,cur,rfl,h3,h4,h5,_⟩
  ·exact ⟨none,0,by rw [heval,h0],by rw [hH,h0],by omega,by simp [maxLen],.inl ⟨rfl,h0,rfl⟩⟩
  ·exact ⟨_,cap,heval,hH,h4,h5,.inr ⟨g,off,rfl⟩⟩
theorem zgV {ad:Option Addr} {n c i j sz:Nat} (hf:(ad=none/\n=0/\c=0)\/∃ b off,ad=some ⟨b,off,none⟩) (hc:n<=c) (hm:c<=maxLen) (hij:i<=j) (hj:j<=n):zkH (.slice ad n c) sz i (j - i) (sliced ad i j c sz):=by
 rcases hf with ⟨rfl,rfl,rfl⟩ | ⟨b,off,rfl⟩
 ·have hi0:i=0:=by omega
  have hj0:j=0:=by omega
  subst hi0 hj0;exact .inl ⟨rfl,by simp [sliced],rfl,rfl⟩
 ·right;unfold sliced;by_cases e:c=i
  ·rw [if_pos e];exact ⟨b,off,n,c,c - i,⟨b,off,none⟩,rfl,by omega,rfl,by omega,by omega,fun h=>by omega⟩
  ·rw [if_neg e,Option.map_some,zbD];exact ⟨b,off,n,c,c - i,⟨b,off+i * sz,none⟩,rfl,by omega,rfl,by omega,by omega,fun _=>rfl⟩
theorem RO.vw_lh {t e k E:TypeId} {x lo hi:Operand} {i j:Int} {α:Type} [Enc α] {l:List α} {dsc:Bool} {bytes:Nat} {z:Value} (ho:o.op = .slice t x (some lo) (some hi) none) (ht:P.underlying t=some (.slice e)) (he:TI P e dsc (Enc.sz α) bytes z)
  (hx:σ.ev x=some (.own k)) (hk:σ.ent k=some (Ent.arrOf E l)) (hlo:σ.ev lo=some (.d (.lit (.int .i64 i)))) (hhi:σ.ev hi=some (.d (.lit (.int .i64 j)))) (h:0<=i/\i<=j/\j<=l.length):RO P F σ o (.view k (Enc.sz α) i.toNat (j - i).toNat):=fun H a w r=>by
 obtain ⟨ad,c,hu,hH,hc,hm,hf⟩:=znb r hx hk;obtain ⟨i,rfl⟩:∃ n:Nat,i=n:=⟨i.toNat,by omega⟩;obtain ⟨j,rfl⟩:∃ n:Nat,j=n:=⟨j.toNat,by omega⟩;have hel:P.elem t=e:=by simp [Program.elem,ht]
 rw [Int.toNat_natCast,show ((j:Int) - (i:Int)).toNat=j - i by omega];refine ⟨sliced ad i j c (Enc.sz α),fun w' _ => ?_,.view _ _ _ _ _ _ hH (zgV hf hc hm (by omega) (by omega))⟩;have hr:=run_slice_lh (P:=P) (w:=w') t ad l.length c (by rw [hel];exact ht) .i64 .i64 i j (by omega) (by omega) (by omega);rw [hel,he.size] at hr;have hs:=run_sliceAt_slice (P:=P) w' t (.slice ad l.length c) (some (.int .i64 i)) (some (.int .i64 j)) none (by rw [hel];exact ht);simp [execOp,ho,hu,r.lit hlo,r.lit hhi,hs,hr]
theorem RO.vw_h {t e k E:TypeId} {x hi:Operand} {j:Int} {α:Type} [Enc α] {l:List α} {dsc:Bool} {bytes:Nat} {z:Value} (ho:o.op = .slice t x none (some hi) none) (ht:P.underlying t=some (.slice e)) (he:TI P e dsc (Enc.sz α) bytes z)
  (hx:σ.ev x=some (.own k)) (hk:σ.ent k=some (Ent.arrOf E l)) (hhi:σ.ev hi=some (.d (.lit (.int .i64 j)))) (h:0<=j/\j<=l.length):RO P F σ o (.view k (Enc.sz α) 0 j.toNat):=fun H a w r=>by
 obtain ⟨ad,c,hu,hH,hc,hm,hf⟩:=znb r hx hk;obtain ⟨j,rfl⟩:∃ n:Nat,j=n:=⟨j.toNat,by omega⟩;have hel:P.elem t=e:=by simp [Program.elem,ht]
 rw [Int.toNat_natCast];refine ⟨sliced ad 0 j c (Enc.sz α),fun w' _ => ?_,.view _ _ _ _ _ _ hH (zgV (i:=0) hf hc hm (by omega) (by omega))⟩;have hr:=run_slice_h (P:=P) (w:=w') t ad l.length c (by rw [hel];exact ht) .i64 j (by omega) (by omega);rw [hel,he.size] at hr;have hs:=run_sliceAt_slice (P:=P) w' t (.slice ad l.length c) none (some (.int .i64 j)) none (by rw [hel];exact ht);simp [execOp,ho,hu,r.lit hhi,hs,hr]
theorem RO.vw_l {t e k E:TypeId} {x lo:Operand} {i:Int} {α:Type} [Enc α] {l:List α} {dsc:Bool} {bytes:Nat} {z:Value} (ho:o.op = .slice t x (some lo) none none) (ht:P.underlying t=some (.slice e)) (he:TI P e dsc (Enc.sz α) bytes z)
  (hx:σ.ev x=some (.own k)) (hk:σ.ent k=some (Ent.arrOf E l)) (hlo:σ.ev lo=some (.d (.lit (.int .i64 i)))) (h:0<=i/\i<=l.length):RO P F σ o (.view k (Enc.sz α) i.toNat (l.length - i.toNat)):=fun H a w r=>by
 obtain ⟨ad,c,hu,hH,hc,hm,hf⟩:=znb r hx hk;obtain ⟨i,rfl⟩:∃ n:Nat,i=n:=⟨i.toNat,by omega⟩;have hel:P.elem t=e:=by simp [Program.elem,ht]
 rw [Int.toNat_natCast];refine ⟨sliced ad i l.length c (Enc.sz α),fun w' _ => ?_,.view _ _ _ _ _ _ hH (zgV hf hc hm (by omega) (by omega))⟩;have hr:=run_slice_l (P:=P) (w:=w') t ad l.length c (by rw [hel];exact ht) .i64 i (by omega) (by omega);rw [hel,he.size] at hr;have hs:=run_sliceAt_slice (P:=P) w' t (.slice ad l.length c) (some (.int .i64 i)) none none (by rw [hel];exact ht);simp [execOp,ho,hu,r.lit hlo,hs,hr]
theorem DRel.piece {w:World} {S:Nat->Prop} {bts sz i n:Nat} {l:List D} {u v:Value} (h:DRel w S (.sl bts l) u) (hsz:∀ d∈l,d.cells.length=sz) (hp:zkH u sz i n v):DRel w S (.sl bts ((l.drop i).take n)) v:=by
 rcases hp with ⟨_,rfl,rfl,rfl⟩ | ⟨b,o0,n0,c0,c,ad,rfl,h1,rfl,h2,h3,h4⟩
 ·simp only [List.take_zero];exact .nil _ _ _ (by simp [maxLen]) (fun _=>rfl)
 ·by_cases hn:n=0
  ·subst hn;simp only [List.take_zero];exact .nil _ _ _ h3 (fun h=>by cases h)
  ·cases h with
   | nil=>omega
   | sl _ _ _ _ _ sz' f h0 hsz' hb hc hm hbt hcs hcell hrel=>
    have e:sz'=sz:=by
     rw [<- hcs 0 h0];have:l.getD 0 default=l[0]:=by simp [List.getD_eq_getElem?_getD,h0]
     rw [this];exact hsz _ (List.getElem_mem h0)
    subst e;have hlen:((l.drop i).take n).length=n:=by rw [List.length_take,List.length_drop];omega
    have hg:∀ k,k < n->((l.drop i).take n).getD k default=l.getD (i+k) default:=fun k hk=>by
     simp only [List.getD_eq_getElem?_getD];rw [List.getElem?_take_of_lt hk,List.getElem?_drop]
    rw [h4 (by omega)];have:=DRel.sl (w:=w) (S:=S) bts ((l.drop i).take n) b (o0+i * sz') c sz' (fun k=>f (i * sz'+k)) (by omega) hsz' hb (by omega) h3
     (by
      rw [hlen];have:n * bts<=l.length * bts:=Nat.mul_le_mul_right _ (by omega);omega)
     (fun k hk=>by rw [hg k (by omega)];exact hcs _ (by omega))
     (fun k hk=>by
      rw [hlen] at hk;have e1:(i+n) * sz'<=l.length * sz':=Nat.mul_le_mul_right _ h1;rw [Nat.add_mul] at e1;rw [Nat.add_assoc];exact hcell _ (by omega))
     (fun k hk j hj=>by
      rw [hg k (by omega)];have:=hrel (i+k) (by omega) j hj;rw [Nat.add_mul,Nat.add_assoc] at this;exact this)
    rw [hlen] at this;exact this
theorem RelH.viewDat (r:RelH F σ H a w) {S:Nat->Prop} {k id sz i n bts:Nat} {l:List D} {v:Value} (hH:H id=some v) (hd:DRel w S (.sl bts l) v) (hk:σ.get k=some (.view id sz i n)) (hsz:∀ d∈l,d.cells.length=sz):
  DRel w S (.sl bts ((l.drop i).take n)) (a.tmps.getD k undef):=by
 have hv:=r.slot k _ hk;generalize a.tmps.getD k undef=u at hv;cases hv with
 | view _ _ _ _ u0 _ h hp=>rw [hH] at h;cases h;exact hd.piece hsz hp
theorem DRel.fullC {S:Nat->Prop} {bts:Nat} {l:List D} {ad:Option Addr} {n c:Nat} (hn:n=l.length) (h:DRel w S (.sl bts l) (.slice ad n c)):DRel w S (.sl bts l) (.slice ad l.length l.length):=by
 generalize hv:(Value.slice ad n c)=v at h;generalize hd:(D.sl bts l)=dd at h;cases h with
 | lit=>cases hd
 | ptr=>cases hd
 | agg=>cases hd
 | nil bts' a' c' hc hn'=>
  injection hd with h1 h2
  subst h2;exact .nil _ _ _ (by simp [maxLen]) (fun _=>rfl)
 | sl bts' ll b off c' sz f h0 hsz hb hc hm hbt hcs hcell hrel=>
  injection hd with h1 h2
  subst h1 h2;injection hv with h3 h4 h5
  subst h3;exact .sl _ _ b off _ sz f h0 hsz hb (Nat.le_refl _) (by omega) hbt hcs hcell hrel
theorem RO.sl_hm {t e:TypeId} {x hi mx:Operand} {j:Int} {α:Type} [Enc α] {l:List α} {dsc:Bool} {bytes:Nat} {z:Value} (ho:o.op = .slice t x none (some hi) (some mx)) (ht:P.underlying t=some (.slice e)) (he:TI P e dsc (Enc.sz α) bytes z)
  (hx:σ.ev x=some (.d (enc l))) (hhi:σ.ev hi=some (.d (.lit (.int .i64 j)))) (hmx:σ.ev mx=some (.d (.lit (.int .i64 j)))) (h:0<=j/\j<=l.length):RO P F σ o (.full (Enc.bts α) ((cut l 0 j).map enc)):=fun H a w r=>by
 obtain ⟨ad,c,hu,hd,hc,hm⟩:=zks r hx;obtain ⟨j,rfl⟩:∃ n:Nat,j=n:=⟨j.toNat,by omega⟩;have hel:P.elem t=e:=by simp [Program.elem,ht]
 have hlen:(cut l 0 (j:Int)).length=j:=by simp [cut];omega
 have hlm:((cut l 0 (j:Int)).map (enc:α->D)).length=j:=by rw [List.length_map,hlen]
 refine ⟨sliced ad 0 j j (Enc.sz α),fun w' _ => ?_,?_⟩
 ·have hr:=run_slice_hm (P:=P) (w:=w') t ad l.length c (by rw [hel];exact ht) .i64 .i64 j j (by omega) (by omega) (by omega);rw [hel,he.size] at hr;have hs:=run_sliceAt_slice (P:=P) w' t (.slice ad l.length c) none (some (.int .i64 j)) (some (.int .i64 j)) (by rw [hel];exact ht);simp [execOp,ho,hu,r.lit hhi,r.lit hmx,hs,hr]
 ·have hcut:DRel w (Sh F.X σ.ent H w) (.sl (Enc.bts α) ((cut l 0 (j:Int)).map enc)) (sliced ad 0 j c (Enc.sz α)):=hd.cut 0 j (by omega) (by omega);have hval:∃ a0,sliced ad 0 j j (Enc.sz α) = .slice a0 ((cut l 0 (j:Int)).map (enc:α->D)).length ((cut l 0 (j:Int)).map (enc:α->D)).length/\DRel w (Sh F.X σ.ent H w) (.sl (Enc.bts α) ((cut l 0 (j:Int)).map enc)) (.slice a0 ((cut l 0 (j:Int)).map (enc:α->D)).length ((cut l 0 (j:Int)).map (enc:α->D)).length):=by
   rw [hlm];by_cases hj:j=0
   ·subst hj;have e0:cut l 0 ((0:Nat):Int)=[]:=List.eq_nil_of_length_eq_zero hlen;rw [e0];exact ⟨ad,by simp [sliced],.nil _ _ _ (by simp [maxLen]) (fun _=>rfl)⟩
   ·have hc0 : ¬ c=0:=by omega
    have e1:sliced ad 0 j c (Enc.sz α) = .slice (ad.map (·.add (0 * Enc.sz α))) j c:=by simp [sliced,hc0]
    rw [e1] at hcut;have:=hcut.fullC hlm.symm;rw [hlm] at this;exact ⟨ad.map (·.add (0 * Enc.sz α)),by simp [sliced,hj],this⟩
  obtain ⟨a0,h1,h2⟩:=hval;rw [h1];exact .full _ _ _ h2
theorem DRel.cellsOf {S:Nat->Prop} {α:Type} [Enc α] {ys:List α} {u:Value} (hd:DRel w S (enc ys) u):∃ (ad:Option Addr) (c:Nat) (news:List Value),u = .slice ad ys.length c/\news.length=ys.length * Enc.sz α/\
  (∀ j v,news[j]? =some v->∃ b off,ad=some ⟨b,off,none⟩/\w.cell? ⟨b,off+j,none⟩=some v)/\
  (∀ i,i < ys.length->∀ j,j < Enc.sz α->DRel w S (((ys.map enc).getD i default).cells.getD j default) (news.getD (i * Enc.sz α+j) undef))/\(ad=none->c=0):=by
 generalize hD:(enc ys:D)=D0 at hd;cases hd with
 | lit=>cases hD
 | ptr=>cases hD
 | agg=>cases hD
 | nil bts ad c hc hn=>
  injection hD with h1 h2
  have:ys=[]:=by simpa using h2
  subst this;exact ⟨ad,c,[],rfl,by simp,by simp,by simp,hn⟩
 | sl bts ll b off c sz f h0 hsz hb hc hm hbt hcs hcell hrel=>
  injection hD with h1 h2
  subst h2;have hlen:(ys.map (enc:α->D)).length=ys.length:=by simp
  have hpos:0 < ys.length:=by simpa using h0
  have hszα:sz=Enc.sz α:=by
   rw [<- hcs 0 h0];have:(ys.map (enc:α->D)).getD 0 default=enc ys[0]:=by simp [List.getD_eq_getElem?_getD,hpos]
   rw [this,Enc.hsz]
  subst hszα;refine ⟨_,c,(List.range (ys.length * Enc.sz α)).map f,by rw [hlen],by simp,fun j u hj => ?_,fun i hi j hj => ?_,by simp⟩
  ·have hjl:j < ys.length * Enc.sz α:=by
    have:=(List.getElem?_eq_some_iff.1 hj).1;simpa using this
   refine ⟨b,off,rfl,?_⟩;rw [hcell j (by simpa using hjl)];simpa [hjl] using hj
  ·have hlt:i * Enc.sz α+j < ys.length * Enc.sz α:=by
    have h5:i * Enc.sz α+j < (i+1) * Enc.sz α:=by rw [Nat.add_mul];omega
    have h6:(i+1) * Enc.sz α<=ys.length * Enc.sz α:=Nat.mul_le_mul_right _ (by omega);omega
   have:=hrel i (by simpa using hi) j hj;simpa [List.getD_eq_getElem?_getD,hlt] using this
theorem EF.append_full {t e:TypeId} {x y:Operand} {dsc:Bool} {size bytes:Nat} {z:Value} {α:Type} [Enc α] {xs ys:List α} {d:Nat} (z0:α) (id:Nat) (hid:σ.nxt=id) (hl:Nat.blt id LIM=true) (hd:o.dst=some d) (hlt:Nat.blt d σ.n=true)
  (ho:o.op = .call { callee := .builtin .append,args:=#[x,y],argTypes:=#[t,t] }) (ht:P.underlying t=some (.slice e)) (he:TI P e dsc size bytes z) (hsz:Enc.sz α=size) (hbt:Enc.bts α=bytes) (hpos:0 < size)
  (hz:ZRs (enc z0).cells z.cells.toList)
  (hx:σ.ev x=some (.full (Enc.bts α) (xs.map enc))) (hy:Src σ y ys) (hy0:0 < ys.length) (hb:(xs.length+ys.length) * bytes<=140737488355328) (hm:xs.length+ys.length<=9223372036854775807):
  EF P F σ o (·=(σ.new (Ent.arrOf e (xs++ys))).set d (.own id)):=by
 subst hid;intro a w ⟨H,r⟩;have hl:σ.nxt < LIM:=by simpa using hl
 have hv:=r.ev hx;obtain ⟨ad,c,news,hya,hnl,hnews,hnrel,hcn⟩:=hy.cells r;obtain ⟨i,hi,hs,hby,hzz⟩:=he.inf;have hzs:=zp5 hz;have hszp:0 < Enc.sz α:=by omega
 have hone:∀ (ws:List α) (ns:List Value),ns.length=ws.length * Enc.sz α->(∀ i,i < ws.length->∀ j,j < Enc.sz α->DRel w (Sh F.X σ.ent H w) (((ws.map enc).getD i default).cells.getD j default) (ns.getD (i * Enc.sz α+j) undef))->∀ u∈ns,u.oneCell'=true:=by
  intro ws ns hnl hnrel u hu;obtain ⟨j,hj,rfl⟩:=List.mem_iff_getElem.1 hu;obtain ⟨i0,j0,hi0,hj0,rfl⟩:∃ i0 j0,i0 < ws.length/\j0 < Enc.sz α/\j=i0 * Enc.sz α+j0:=by
   refine ⟨j / Enc.sz α,j % Enc.sz α,?_,Nat.mod_lt _ hszp,?_⟩
   ·rw [Nat.div_lt_iff_lt_mul hszp];omega
   ·rw [Nat.mul_comm];exact (Nat.div_add_mod _ _).symm
  have hd:=hnrel i0 hi0 j0 hj0;have hg:ns.getD (i0 * Enc.sz α+j0) undef=ns[i0 * Enc.sz α+j0]:=by simp [List.getD_eq_getElem?_getD,hj]
  have he':(ws.map enc).getD i0 default=enc ws[i0]:=by simp [List.getD_eq_getElem?_getD,hi0]
  rw [hg,he'] at hd;exact hd.one (Enc.cell_one _ _)
 have h1:=hone ys news hnl hnrel;obtain ⟨a1,hax,hdx⟩:∃ a1,a.eval x = .slice a1 xs.length xs.length/\DRel w (Sh F.X σ.ent H w) (enc xs) (.slice a1 xs.length xs.length):=by
  generalize a.eval x=u at hv;cases hv with
  | full _ _ a1 h=>rw [List.length_map] at h ⊢;exact ⟨a1,rfl,h⟩
 obtain ⟨ad1,c1,olds,hu1,hol,hocell,horel,hoc⟩:=hdx.cellsOf;injection hu1 with q1 q2 q3
 subst q1;have hnp:0 < news.length:=by rw [hnl];exact Nat.mul_pos hy0 hszp
 obtain ⟨bn,offn,had,_⟩:=hnews 0 news[0] (by simp);subst had;obtain ⟨v',w',hrun,hown',hgr,hblk⟩:∃ v' w',(Builtin.append_ #[t,t] o.type #[.slice a1 xs.length xs.length,.slice (some ⟨bn,offn,none⟩) ys.length c]).run P w = .ok v' w'/\zbN w' e size v' (xs.length+ys.length) (olds++news)/\w.grownBy w' none/\(∀ b,v'.ownBlock=some b->w.heap.size<=b):=by
  cases a1 with
  | none=>
   have hx0:xs=[]:=by
    have:=hoc rfl;rw [<- q3] at this;exact List.eq_nil_of_length_eq_zero this
   subst hx0;have ho0:olds=[]:=List.eq_nil_of_length_eq_zero (by simpa using hol);subst ho0;obtain ⟨v',w',hrun,hown',hgr,hblk⟩:=zcq (w:=w) P t o.type e i z size bytes ht hi hzz hs hby (by rw [hzs,hsz]) hpos _ 0 [] (zbN.of_row (World.ownsRow_nil w 0 e size)) (some ⟨bn,offn,none⟩) ys.length c news (by rw [hnl,hsz]) hnews h1 (by simp only [maxLen];simp at hm;omega) (by simpa using hb) (fun h=>by cases h);refine ⟨v',w',hrun,by simpa using hown',by simpa [Value.ownBlock] using hgr,fun b hb => ?_⟩;rcases hblk b hb with h | h
   ·simp [Value.ownBlock] at h
   ·exact h
  | some a1=>
   obtain ⟨v',w',hrun,hown',hgr⟩:=run_append_arg_grows (P:=P) w t o.type e i z size bytes ht hi hzz hs hby (by rw [hzs,hsz]) hpos a1 xs.length xs.length olds (by rw [hol,hsz])
    (fun j u hj=>by
     obtain ⟨b,off,h3,h4⟩:=hocell j u hj;injection h3 with h3;subst h3
     rw [Addr.add_lit];exact h4)
    ⟨bn,offn,none⟩ ys.length c news (by rw [hnl,hsz])
    (fun j u hj=>by
     obtain ⟨b,off,h3,h4⟩:=hnews j u hj;injection h3 with h3;injection h3 with h5 h6;subst h5 h6
     rw [Addr.add_lit];exact h4) (by omega) (by simp only [maxLen];omega) hb
   refine ⟨v',w',hrun,zbN.of_row hown',hgr,fun b hb => ?_⟩;obtain ⟨_,h2⟩:=hown';rcases h2 with ⟨rfl,_⟩ | ⟨g,cap,cur,rfl,h3,_⟩
   ·simp [Value.ownBlock] at hb
   ·simp [Value.ownBlock] at hb;omega
 have hvb':=zb5 hown';have hS:∀ b,Sh F.X σ.ent H w b->Sh F.X σ.ent H w b/\w'.heap[b]? =w.heap[b]? :=fun b hb=>⟨hb,hgr.block b hb.1 (by simp)⟩
 have r':=r.renew (old:=none) (e:=Ent.arrOf e (xs++ys)) (v:=v') (w':=w') hl hgr.os hgr.tape hgr.output hgr.size
  (fun b hb h=>hgr.block b hb (by simp)) (fun id h=>by cases h)
  (fun b hb => .inl (hblk b (by rw [hvb'];exact hb)))
  (.arr e (Enc.sz α) (Enc.bts α) _ v' (olds++news) hszp (by rw [hsz];simpa using hown') (by rw [hbt];simpa [most] using hb)
   (fun i hi=>by
    have hi:i < (xs++ys).length:=by simpa using hi
    have:((xs++ys).map (enc:α->D)).getD i default=enc (xs++ys)[i]:=by simp only [List.getD_eq_getElem?_getD,List.getElem?_map,List.getElem?_eq_getElem hi];rfl
    rw [this,Enc.hsz])
   (fun i hi j hj=>by
    have hi:i < xs.length+ys.length:=by simpa using hi
    rw [zgv olds news xs.length (Enc.sz α) i j undef hol hj];by_cases h:i < xs.length
    ·rw [if_pos h];have:=(horel i h j hj).mono hS;have he:((xs++ys).map (enc:α->D)).getD i default=(xs.map enc).getD i default:=by
      simp only [List.getD_eq_getElem?_getD,List.map_append];rw [List.getElem?_append_left (by simpa using h)]
     rw [he];exact this
    ·rw [if_neg h];have:=(hnrel (i - xs.length) (by omega) j hj).mono hS;have he:((xs++ys).map (enc:α->D)).getD i default=(ys.map enc).getD (i - xs.length) default:=by
      simp only [List.getD_eq_getElem?_getD,List.map_append];rw [List.getElem?_append_right (by simpa using h),List.length_map]
     rw [he];exact this))
 have r2:=r'.set (d:=d) (show d < σ.n by simpa using hlt) (.own σ.nxt _ (Hd.add_new _ _ _) (by
  rcases hown'.form with ⟨rfl,_⟩ | ⟨b,off,c,rfl⟩<;>exact .inl ⟨_,_,_,rfl⟩))
 rw [<- hd] at r2;exact EF.value (v:=v') (w':=w') (by simp [execOp,ho,resolve,invoke,builtin,hax,hya,hrun]) ⟨_,rfl,_,r2⟩
end
end Go.Ab
