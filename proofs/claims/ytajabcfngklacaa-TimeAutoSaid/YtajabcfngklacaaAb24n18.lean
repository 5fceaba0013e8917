import Derived.Test.YtajabcfngklacaaAb24n17
set_option linter.unusedVariables false
set_option linter.unusedSimpArgs false
set_option linter.unusedSectionVars false
namespace Go.Ab
open Enc (enc)
section
variable {P:Program} {F:Fr} {σ:St} {o:Oper} {H:Hd} {a:Act} {w:World}
theorem RO.min {k:IntKind} {m n:Int} {x y:Operand} {ts:Array TypeId} (b:o.op = .call { callee := .builtin .min,args:=#[x,y],argTypes:=ts })
  (c:σ.ev x=some (.d (.lit (.int k m)))) (d:σ.ev y=some (.d (.lit (.int k n)))):RO P F σ o (.d (.lit (.int k (if n < m then n else m)))):=fun H a w r=>
 ⟨.int k (if n < m then n else m),fun w' _=>by simp [execOp,b,resolve,invoke,builtin,Builtin.min_,Builtin.min2,r.lit c,r.lit d],.d _ _ (.lit _ rfl)⟩
theorem RO.max {k:IntKind} {m n:Int} {x y:Operand} {ts:Array TypeId} (b:o.op = .call { callee := .builtin .max,args:=#[x,y],argTypes:=ts })
  (c:σ.ev x=some (.d (.lit (.int k m)))) (d:σ.ev y=some (.d (.lit (.int k n)))):RO P F σ o (.d (.lit (.int k (if m < n then n else m)))):=fun H a w r=>
 ⟨.int k (if m < n then n else m),fun w' _=>by simp [execOp,b,resolve,invoke,builtin,Builtin.max_,Builtin.max2,r.lit c,r.lit d],.d _ _ (.lit _ rfl)⟩
theorem RO.cap_nil {x:Operand} {t e:TypeId} (c:o.op = .call { callee := .builtin .cap,args:=#[x],argTypes:=#[t] }) (d:P.underlying t=some (.slice e))
  (f:σ.ev x=some .nil):RO P F σ o (.d (.lit (.int .i64 0))):=fun H a w r=>by
 have b:=r.ev f;generalize g:a.eval x=u at b;cases b;exact ⟨.int .i64 0,fun w' _=>by simp [execOp,c,resolve,invoke,builtin,Builtin.cap_,run_underlying d,g,goInt],.int _ _ _ _ _⟩
theorem AL.resl {t e:TypeId} {x f:Operand} {k E:Nat} {j:Int} {dsc:Bool} {size bytes:Nat} {z:Value} {α:Type} [Enc α] {xs:List α} {d:Nat} (id:Nat) (Q:σ.nxt=id) (R:Nat.blt id LIM=true) (hd:o.dst=some d) (S:Nat.blt d σ.n=true)
  (ho:o.op = .slice t x none (some f) none) (T:P.underlying t=some (.slice e)) (he:TI P e dsc size bytes z) (hsz:Enc.sz α=size)
  (hx:σ.ev x=some (.own k)) (Y:σ.ent k=some (Ent.arrOf E xs)) (U:σ.ev f=some (.d (.lit (.int .i64 j)))) (hj:0<=j/\j<=xs.length):
  AL P F σ o (·=((σ.put k none).new (Ent.arrOf E (xs.take j.toNat))).set d (.own id)):=by
 subst Q;intro a w ⟨H,r⟩;have R:σ.nxt < LIM:=by simpa using R
 have hv:=r.ev hx;obtain ⟨v,hH,hr⟩:=r.ent k _ Y;have C:a.eval x=v:=by
  generalize a.eval x=u at hv;cases hv with
  | own _ _ h _=>rw [hH] at h;cases h;rfl
 obtain ⟨j,rfl⟩:∃ n:Nat,j=n:=⟨j.toNat,by omega⟩;have s:j<=xs.length:=by omega
 rw [Int.toNat_natCast];have I:P.elem t=e:=by simp [Program.elem,T]
 cases hr with
 | arr _ _ _ _ _ cs N A B X O=>
  have l:(xs.map (enc:α->D)).length=xs.length:=by simp
  rw [l] at A B;obtain ⟨p,c,L,hjc,J,M⟩:∃ p c,v = .slice p xs.length c/\xs.length<=c/\zgL w E (Enc.sz α) (.slice p j c) j (cs.take (j * Enc.sz α))/\blk (.slice p j c)=blk v:=by
   obtain ⟨h1,h2⟩:=A;rcases h2 with ⟨rfl,hn⟩ | ⟨g,off,cap,cur,rfl,hh,q1,q2,q3,q4⟩
   ·have V:j=0:=by omega
    subst V;exact ⟨none,0,by rw [hn],by omega,⟨by simp,.inl ⟨rfl,rfl⟩⟩,rfl⟩
   ·have hm:j * Enc.sz α<=xs.length * Enc.sz α:=Nat.mul_le_mul_right _ s;refine ⟨some ⟨g,off,none⟩,cap,rfl,q1,⟨?_,.inr ⟨g,off,cap,cur,rfl,hh,by omega,q2,q3,?_⟩⟩,rfl⟩
    ·rw [List.length_take,h1];omega
    ·rw [<- q4,List.take_take,Nat.min_eq_left hm]
  have y:=run_slice_h (P:=P) (w:=w) t p xs.length c (by rw [I];exact T) .i64 j (by omega) (by omega);rw [I,he.size] at y;have W:sliced p 0 j c size = .slice p j c:=by
   unfold sliced;cases p with
   | none=>simp
   | some ad0=>simp [Addr.add]
  have hs:=run_sliceAt_slice (P:=P) w t v none (some (.int .i64 j)) none (by rw [I];exact T);rw [L] at hs;have m:∀ i,i < j->((xs.take j).map (enc:α->D)).getD i default=(xs.map enc).getD i default:=by
   intro i f;simp only [List.getD_eq_getElem?_getD,List.getElem?_map,List.getElem?_take];rw [if_pos f]
  have r':=r.renew (old:=some k) (e:=Ent.arrOf E (xs.take j)) (v := .slice p j c) (w':=w) R rfl rfl rfl (Nat.le_refl _)
   (fun b Z _=>rfl) (fun id h=>by cases h;exact ⟨_,Y⟩)
   (fun b Z => .inr ⟨k,v,rfl,hH,by rw [<- M];exact Z⟩)
   (.arr E (Enc.sz α) (Enc.bts α) _ _ (cs.take (j * Enc.sz α)) N (by rw [List.length_map,List.length_take,Nat.min_eq_left s];exact J)
    (by
     rw [List.length_map,List.length_take,Nat.min_eq_left s];exact Nat.le_trans (Nat.mul_le_mul_right _ s) B)
    (fun i f=>by
     have f:i < j:=by rw [List.length_map,List.length_take] at f;omega
     rw [m i f];exact X i (by rw [l];omega))
    (fun i f q hq=>by
     have f:i < j:=by rw [List.length_map,List.length_take] at f;omega
     rw [m i f];have h5:i * Enc.sz α+q < (i+1) * Enc.sz α:=by rw [Nat.add_mul];omega
     have h6:(i+1) * Enc.sz α<=j * Enc.sz α:=Nat.mul_le_mul_right _ (by omega);have:(cs.take (j * Enc.sz α)).getD (i * Enc.sz α+q) undef=cs.getD (i * Enc.sz α+q) undef:=by
      simp only [List.getD_eq_getElem?_getD,List.getElem?_take];rw [if_pos (by omega)]
     rw [this];exact O i (by rw [l];omega) q hq))
  have r2:=r'.set (d:=d) (show d < σ.n by simpa using S) (.own σ.nxt _ (Hd.add_new _ _ _) (.inl ⟨_,_,_,rfl⟩));rw [<- hd] at r2;refine AL.value ?_ (Ext.refl w) ⟨_,rfl,_,r2⟩;simp [execOp,ho,C,L,r.lit U,hs,y,W]
theorem AL.tail {t e:TypeId} {x lo:Operand} {k E:Nat} {j:Int} {dsc:Bool} {size bytes:Nat} {z:Value} {α:Type} [Enc α] {xs:List α} {d:Nat} (id:Nat) (T:σ.nxt=id) (U:Nat.blt id LIM=true) (hd:o.dst=some d) (V:Nat.blt d σ.n=true)
  (ho:o.op = .slice t x (some lo) none none) (W:P.underlying t=some (.slice e)) (he:TI P e dsc size bytes z) (X:Enc.sz α=size)
  (hx:σ.ev x=some (.own k)) (hk:σ.ent k=some (Ent.arrOf E xs)) (Y:σ.ev lo=some (.d (.lit (.int .i64 j)))) (hj:0<=j/\j<=xs.length):
  AL P F σ o (·=((σ.put k none).new (Ent.arrOf E (xs.drop j.toNat))).set d (.own id)):=by
 subst T;intro a w ⟨H,r⟩;have U:σ.nxt < LIM:=by simpa using U
 have hv:=r.ev hx;obtain ⟨v,hH,hr⟩:=r.ent k _ hk;have C:a.eval x=v:=by
  generalize a.eval x=u at hv;cases hv with
  | own _ _ h _=>rw [hH] at h;cases h;rfl
 obtain ⟨j,rfl⟩:∃ n:Nat,j=n:=⟨j.toNat,by omega⟩;have Z:j<=xs.length:=by omega
 rw [Int.toNat_natCast];have I:P.elem t=e:=by simp [Program.elem,W]
 cases hr with
 | arr _ _ _ _ _ cs R f y hcs S=>
  have l:(xs.map (enc:α->D)).length=xs.length:=by simp
  rw [l] at f y;obtain ⟨A,c,N,J,O⟩:∃ A c,v = .slice A xs.length c/\zgL w E (Enc.sz α) (sliced A j xs.length c size) (xs.length - j) (cs.drop (j * Enc.sz α))/\(∀ b,blk (sliced A j xs.length c size)=some b->blk v=some b):=by
   rcases f.form with ⟨rfl,hn⟩ | ⟨g,off,cap,rfl⟩
   ·have a1:j=0:=by omega
    subst a1;refine ⟨none,0,by rw [hn],?_,fun b p=>by simp [sliced,blk] at p⟩;simp only [sliced,if_true,hn,Nat.sub_zero,Nat.zero_mul,List.drop_zero];exact ⟨by rw [f.1,hn],.inl ⟨rfl,rfl⟩⟩
   ·refine ⟨some ⟨g,off,none⟩,cap,rfl,?_,?_⟩
    ·have h1:=f.tail Z;by_cases M:cap=j
     ·obtain ⟨h2,Q⟩:=h1;refine ⟨h2,?_⟩;rcases Q with ⟨Q,_⟩ | ⟨g',o1,cap',cur,Q,h4,h5,h6,h7,h8⟩
      ·cases Q
      ·cases Q;have L:xs.length=j:=by
        rcases f.2 with ⟨h,_⟩ | ⟨_,_,_,_,h,_,h9,_⟩
        ·cases h
        ·cases h;omega
       refine .inr ⟨g,off,0,cur,by simp [sliced,M,L],h4,by omega,by simp [maxLen],by omega,?_⟩;rw [<- h8];simp [L]
     ·have:sliced (some ⟨g,off,none⟩) j xs.length cap size = .slice (some ⟨g,off+j * Enc.sz α,none⟩) (xs.length - j) (cap - j):=by
       unfold sliced;rw [if_neg M,Option.map_some,zgJ,X]
      rw [this];exact h1
    ·intro b p;unfold sliced at p;by_cases M:cap=j
     ·rw [if_pos M] at p;exact p
     ·rw [if_neg M,Option.map_some,zgJ] at p;exact p
  have s:=run_slice_l (P:=P) (w:=w) t A xs.length c (by rw [I];exact W) .i64 j (by omega) (by omega);rw [I,he.size,Int.toNat_natCast] at s;have hs:=run_sliceAt_slice (P:=P) w t v (some (.int .i64 j)) none none (by rw [I];exact W);rw [N] at hs;have m:∀ i,((xs.drop j).map (enc:α->D)).getD i default=(xs.map enc).getD (j+i) default:=by
   intro i;simp only [List.getD_eq_getElem?_getD,List.getElem?_map,List.getElem?_drop]
  have a2:∃ a0 n0 c0,sliced A j xs.length c size = .slice a0 n0 c0:=⟨_,_,_,rfl⟩;have r':=r.renew (old:=some k) (e:=Ent.arrOf E (xs.drop j)) (v:=sliced A j xs.length c size) (w':=w) U rfl rfl rfl (Nat.le_refl _)
   (fun b p _=>rfl) (fun id h=>by cases h;exact ⟨_,hk⟩)
   (fun b p => .inr ⟨k,v,rfl,hH,O b p⟩)
   (.arr E (Enc.sz α) (Enc.bts α) _ _ (cs.drop (j * Enc.sz α)) R (by rw [List.length_map,List.length_drop];exact J)
    (by
     rw [List.length_map,List.length_drop];exact Nat.le_trans (Nat.mul_le_mul_right _ (Nat.sub_le _ _)) y)
    (fun i B=>by
     have B:i < xs.length - j:=by rw [List.length_map,List.length_drop] at B;exact B
     rw [m i];exact hcs (j+i) (by rw [l];omega))
    (fun i B q hq=>by
     have B:i < xs.length - j:=by rw [List.length_map,List.length_drop] at B;exact B
     rw [m i];have:(cs.drop (j * Enc.sz α)).getD (i * Enc.sz α+q) undef=cs.getD ((j+i) * Enc.sz α+q) undef:=by
      simp only [List.getD_eq_getElem?_getD,List.getElem?_drop];rw [show j * Enc.sz α+(i * Enc.sz α+q)=(j+i) * Enc.sz α+q by rw [Nat.add_mul];omega]
     rw [this];exact S (j+i) (by rw [l];omega) q hq))
  have r2:=r'.set (d:=d) (show d < σ.n by simpa using V) (.own σ.nxt _ (Hd.add_new _ _ _) (.inl a2));rw [<- hd] at r2;refine AL.value ?_ (Ext.refl w) ⟨_,rfl,_,r2⟩;simp [execOp,ho,C,N,r.lit Y,hs,s]
theorem RelH.nilcellE (r:RelH F σ H a w) (U:σ.nxt < LIM) {id j:Nat} {e0:Ent} (I:∀ (w:World) (S:Nat->Prop) (H:Hd),EntRel w S H e0 (.slice none 0 0)) {T:TypeId} {xs:List AV} (V:σ.ent id=some (.box T xs)) (z:xs[j]? =some .nil):
  RelH F ((σ.new e0).put id (some (.box T (xs.set j (.own σ.nxt))))) (H.add σ.nxt (.slice none 0 0)) a w:=by
 have d:=r.renew (old:=none) (e:=e0) (v := .slice none 0 0) (w':=w) U rfl rfl rfl (Nat.le_refl _) (fun _ _ _=>rfl) (fun id h=>by cases h) (fun b p=>by simp [blk] at p)
  (I _ _ _)
 have L:id≠σ.nxt:=fun e=>by
  obtain ⟨v,B,_⟩:=r.ent id _ V;rw [e,r.fresh0 _ (Nat.le_refl _) U] at B;cases B
 have l:(σ.new e0).ent id=some (.box T xs):=by rw [St.ent_new,if_neg (fun h=>L h.symm)];exact V
 obtain ⟨v,B,hr⟩:=d.ent id _ l;have m:(xs.set j (.own σ.nxt)).length=xs.length:=by simp
 generalize y:((σ.new e0).put id (some (.box T (xs.set j (.own σ.nxt)))))=σ2;have n:∀ i e,σ2.ent i=some e->(i=id/\e = .box T (xs.set j (.own σ.nxt)))\/(i≠id/\(σ.new e0).ent i=some e):=by
  subst y;intro i e h;rw [St.ent_put] at h;by_cases o:id=i
  ·rw [if_pos o] at h;cases h;exact .inl ⟨o.symm,rfl⟩
  ·rw [if_neg o] at h;exact .inr ⟨fun e=>o e.symm,h⟩
 have c:∀ i e,σ2.ent i=some e->∃ e',(σ.new e0).ent i=some e':=by
  intro i e h;rcases n i e h with ⟨rfl,_⟩ | ⟨_,h⟩
  ·exact ⟨_,l⟩
  ·exact ⟨_,h⟩
 have M:∀ b,Sh F.X (σ.new e0).ent (H.add σ.nxt (.slice none 0 0)) w b->Sh F.X σ2.ent (H.add σ.nxt (.slice none 0 0)) w b:=by
  intro b p;refine ⟨p.1,p.2.1,fun i e v o B => ?_⟩;obtain ⟨e',l⟩:=c i e o;exact p.2.2 i e' v l B
 have g:∀ b,Sh F.X (σ.new e0).ent (H.add σ.nxt (.slice none 0 0)) w b->Sh F.X σ2.ent (H.add σ.nxt (.slice none 0 0)) w b/\w.heap[b]? =w.heap[b]? :=fun b p=>⟨M b p,rfl⟩
 have N:σ2.n=(σ.new e0).n:=by subst y;rfl
 have O:σ2.nxt=(σ.new e0).nxt:=by subst y;rfl
 have P:∀ k,σ2.get k=(σ.new e0).get k:=by subst y;intro k;rfl
 refine ⟨d.size.trans N.symm,d.defs,d.os,d.tape,d.output,d.grow,d.keep,d.xlt,fun i s t=>d.fresh i (by rw [<- O];exact s) t,d.pin,fun i e o => ?_,fun i e v b o s t => ?_,fun i W e e' v Y b s t J Z h5 h6 => ?_,fun k x X => ?_⟩
 ·rcases n i e o with ⟨rfl,rfl⟩ | ⟨_,h⟩
  ·refine ⟨v,B,?_⟩;cases hr with
   | box T cells b D p hs A=>
    refine .box T _ b D p (by rw [hs,m]) (fun q E => ?_);rw [m] at E;by_cases C:q=j
    ·subst C;have s:(xs.set q (.own σ.nxt)).getD q default = .own σ.nxt:=by
      simp only [List.getD_eq_getElem?_getD,List.getElem?_set,if_pos rfl,if_pos E];rfl
     have t:=A q E;have J:xs.getD q default = .nil:=by simp only [List.getD_eq_getElem?_getD,z];rfl
     rw [J] at t;rw [s];generalize D.getD q undef=u at t;cases t;exact .own _ _ (Hd.add_new _ _ _) (.inl ⟨_,_,_,rfl⟩)
    ·have s:(xs.set j (.own σ.nxt)).getD q default=xs.getD q default:=by
      simp only [List.getD_eq_getElem?_getD,List.getElem?_set,if_neg (fun h=>C h.symm : ¬ j=q)]
     rw [s];exact (A q E).mono g (fun _ _ h=>h)
   | mp=>
    exfalso
    match j,z with
    | 0,z=>cases z
    | 1,z=>cases z
    | q+2,z=>simp at z
  ·obtain ⟨u,hu,Q⟩:=d.ent i e h;exact ⟨u,hu,Q.mono g (fun _ _ h=>h) (fun _ _=>rfl)⟩
 ·obtain ⟨e',l⟩:=c i e o;exact d.own i e' v b l s t
 ·obtain ⟨f,hf⟩:=c i e s;obtain ⟨f',R⟩:=c W e' t;exact d.inj i W f f' v Y b hf R J Z h5 h6
 ·rw [P] at X;exact (d.slot k x X).mono g (fun _ _ h=>h)
theorem RelH.nilcell (r:RelH F σ H a w) (c:σ.nxt < LIM) {id j E sz bts:Nat} {T:TypeId} {xs:List AV} (b:0 < sz) (d:σ.ent id=some (.box T xs)) (e:xs[j]? =some .nil):
  RelH F ((σ.new (.arr E sz bts [])).put id (some (.box T (xs.set j (.own σ.nxt))))) (H.add σ.nxt (.slice none 0 0)) a w:=
 r.nilcellE c (fun w _ _ => .arr E sz bts [] _ [] b (zgL.of_row (World.ownsRow_nil w 0 E sz)) (by simp [most]) (by simp) (by simp)) d e
theorem RelH.boxconv (r:RelH F σ H a w) {id j:Nat} {T:TypeId} {xs:List AV} {x y:AV} (R:σ.ent id=some (.box T xs)) (p:xs[j]? =some x)
  (U:∀ z,x ≠ .d z) (X:∀ (w:World) (S:Nat->Prop) (H:Hd) (v:Value),VRel w S H x v->VRel w S H y v):RelH F (σ.put id (some (.box T (xs.set j y)))) H a w:=by
 have g:(xs.set j y).length=xs.length:=by simp
 generalize o:σ.put id (some (.box T (xs.set j y)))=σ2;have l:∀ i e,σ2.ent i=some e->(i=id/\e = .box T (xs.set j y))\/(i≠id/\σ.ent i=some e):=by
  subst o;intro i e h;rw [St.ent_put] at h;by_cases m:id=i
  ·rw [if_pos m] at h;cases h;exact .inl ⟨m.symm,rfl⟩
  ·rw [if_neg m] at h;exact .inr ⟨fun e=>m e.symm,h⟩
 have c:∀ i e,σ2.ent i=some e->∃ e',σ.ent i=some e':=by
  intro i e h;rcases l i e h with ⟨rfl,_⟩ | ⟨_,h⟩
  ·exact ⟨_,R⟩
  ·exact ⟨_,h⟩
 have J:∀ b,Sh F.X σ.ent H w b->Sh F.X σ2.ent H w b:=by
  intro b A;refine ⟨A.1,A.2.1,fun i e v m E => ?_⟩;obtain ⟨e',B⟩:=c i e m;exact A.2.2 i e' v B E
 have d:∀ b,Sh F.X σ.ent H w b->Sh F.X σ2.ent H w b/\w.heap[b]? =w.heap[b]? :=fun b A=>⟨J b A,rfl⟩
 have L:σ2.n=σ.n:=by subst o;rfl
 have M:σ2.nxt=σ.nxt:=by subst o;rfl
 have N:∀ k,σ2.get k=σ.get k:=by subst o;intro k;rfl
 refine ⟨r.size.trans L.symm,r.defs,r.os,r.tape,r.output,r.grow,r.keep,r.xlt,fun i n s=>r.fresh i (by rw [<- M];exact n) s,r.pin,fun i e m => ?_,fun i e v b m n s => ?_,fun i V e e' v Y b n s I Z h5 h6 => ?_,fun k x W => ?_⟩
 ·rcases l i e m with ⟨rfl,rfl⟩ | ⟨_,h⟩
  ·obtain ⟨v,E,hr⟩:=r.ent i _ R;refine ⟨v,E,?_⟩;cases hr with
   | box T cells b Q A hs t=>
    refine .box T _ b Q A (by rw [hs,g]) (fun q D => ?_);rw [g] at D;by_cases C:q=j
    ·subst C;have n:(xs.set q y).getD q default=y:=by
      simp only [List.getD_eq_getElem?_getD,List.getElem?_set,if_pos D];rfl
     have s:=t q D;have I:xs.getD q default=x:=by simp only [List.getD_eq_getElem?_getD,p];rfl
     rw [I] at s;rw [n];exact (X _ _ _ _ s).mono d (fun _ _ h=>h)
    ·have n:(xs.set j y).getD q default=xs.getD q default:=by
      simp only [List.getD_eq_getElem?_getD,List.getElem?_set,if_neg (fun h=>C h.symm : ¬ j=q)]
     rw [n];exact (t q D).mono d (fun _ _ h=>h)
   | mp=>
    exfalso
    match j,p with
    | 0,p=>exact U _ (Option.some.inj p).symm
    | 1,p=>exact U _ (Option.some.inj p).symm
    | q+2,p=>simp at p
  ·obtain ⟨u,hu,O⟩:=r.ent i e h;exact ⟨u,hu,O.mono d (fun _ _ h=>h) (fun _ _=>rfl)⟩
 ·obtain ⟨e',B⟩:=c i e m;exact r.own i e' v b B n s
 ·obtain ⟨f,hf⟩:=c i e n;obtain ⟨f',P⟩:=c V e' s;exact r.inj i V f f' v Y b hf P I Z h5 h6
 ·rw [N] at W;exact (r.slot k x W).mono d (fun _ _ h=>h)
end
end Go.Ab
