import Derived.Test.YtmogekkikaelhaaAb24n17
set_option linter.unusedVariables false
set_option linter.unusedSimpArgs false
set_option linter.unusedSectionVars false
namespace Go.Ab
open Enc (enc)
section
variable {P:Program} {F:Fr} {σ:St} {o:Oper} {H:Hd} {a:Act} {w:World}
theorem RO.min {k:IntKind} {m n:Int} {x y:Operand} {ts:Array TypeId} (ho:o.op = .call { callee := .builtin .min,args:=#[x,y],argTypes:=ts })
  (hx:σ.ev x=some (.d (.lit (.int k m)))) (hy:σ.ev y=some (.d (.lit (.int k n)))):RO P F σ o (.d (.lit (.int k (if n < m then n else m)))):=fun H a w r=>
 ⟨.int k (if n < m then n else m),fun w' _=>by simp [execOp,ho,resolve,invoke,builtin,Builtin.min_,Builtin.min2,r.lit hx,r.lit hy],.d _ _ (.lit _ rfl)⟩
theorem RO.max {k:IntKind} {m n:Int} {x y:Operand} {ts:Array TypeId} (ho:o.op = .call { callee := .builtin .max,args:=#[x,y],argTypes:=ts })
  (hx:σ.ev x=some (.d (.lit (.int k m)))) (hy:σ.ev y=some (.d (.lit (.int k n)))):RO P F σ o (.d (.lit (.int k (if m < n then n else m)))):=fun H a w r=>
 ⟨.int k (if m < n then n else m),fun w' _=>by simp [execOp,ho,resolve,invoke,builtin,Builtin.max_,Builtin.max2,r.lit hx,r.lit hy],.d _ _ (.lit _ rfl)⟩
theorem RO.cap_nil {x:Operand} {t e:TypeId} (ho:o.op = .call { callee := .builtin .cap,args:=#[x],argTypes:=#[t] }) (ht:P.underlying t=some (.slice e))
  (hx:σ.ev x=some .nil):RO P F σ o (.d (.lit (.int .i64 0))):=fun H a w r=>by
 have hv:=r.ev hx;generalize hu:a.eval x=u at hv;cases hv;exact ⟨.int .i64 0,fun w' _=>by simp [execOp,ho,resolve,invoke,builtin,Builtin.cap_,run_underlying ht,hu,goInt],.int _ _ _ _ _⟩
theorem RO.slnil_h {t e:TypeId} {x hi:Operand} {dsc:Bool} {size bytes:Nat} {z:Value} (ho:o.op = .slice t x none (some hi) none) (ht:P.underlying t=some (.slice e)) (he:TI P e dsc size bytes z)
  (hx:σ.ev x=some .nil) (hhi:σ.ev hi=some (.d (.lit (.int .i64 0)))):RO P F σ o .nil:=fun H a w r=>by
 have hv:=r.ev hx;generalize hu:a.eval x=u at hv;cases hv;have hel:P.elem t=e:=by simp [Program.elem,ht]
 refine ⟨.slice none 0 0,fun w' _ => ?_,.nil⟩;have hr:=run_slice_h (P:=P) (w:=w') t none 0 0 (by rw [hel];exact ht) .i64 (0:Nat) (by omega) (by omega);rw [hel,he.size] at hr;have hs:=run_sliceAt_slice (P:=P) w' t (.slice none 0 0) none (some (.int .i64 0)) none (by rw [hel];exact ht);have hr':(Instr.slice t (.slice none 0 0) none (some (.int .i64 0)) none).run P w' = .ok (.slice none 0 0) w':=by
  simpa [sliced] using hr
 simp [execOp,ho,hu,r.lit hhi,hs,hr']
theorem AL.resl {t e:TypeId} {x hi:Operand} {k E:Nat} {j:Int} {dsc:Bool} {size bytes:Nat} {z:Value} {α:Type} [Enc α] {xs:List α} {d:Nat} (id:Nat) (hid:σ.nxt=id) (hl:Nat.blt id LIM=true) (hd:o.dst=some d) (hlt:Nat.blt d σ.n=true)
  (ho:o.op = .slice t x none (some hi) none) (ht:P.underlying t=some (.slice e)) (he:TI P e dsc size bytes z) (hsz:Enc.sz α=size)
  (hx:σ.ev x=some (.own k)) (hk:σ.ent k=some (Ent.arrOf E xs)) (hhi:σ.ev hi=some (.d (.lit (.int .i64 j)))) (hj:0<=j/\j<=xs.length):
  AL P F σ o (·=((σ.put k none).new (Ent.arrOf E (xs.take j.toNat))).set d (.own id)):=by
 subst hid;intro a w ⟨H,r⟩;have hl:σ.nxt < LIM:=by simpa using hl
 have hv:=r.ev hx;obtain ⟨v,hH,hr⟩:=r.ent k _ hk;have heval:a.eval x=v:=by
  generalize a.eval x=u at hv;cases hv with
  | own _ _ h _=>rw [hH] at h;cases h;rfl
 obtain ⟨j,rfl⟩:∃ n:Nat,j=n:=⟨j.toNat,by omega⟩;have hj2:j<=xs.length:=by omega
 rw [Int.toNat_natCast];have hel:P.elem t=e:=by simp [Program.elem,ht]
 cases hr with
 | arr _ _ _ _ _ cs hszp hown hbnd hcs hrel=>
  have hlen:(xs.map (enc:α->D)).length=xs.length:=by simp
  rw [hlen] at hown hbnd;obtain ⟨ad,c,hva,hjc,hown',hblk⟩:∃ ad c,v = .slice ad xs.length c/\xs.length<=c/\zbN w E (Enc.sz α) (.slice ad j c) j (cs.take (j * Enc.sz α))/\blk (.slice ad j c)=blk v:=by
   obtain ⟨h1,h2⟩:=hown;rcases h2 with ⟨rfl,hn⟩ | ⟨g,off,cap,cur,rfl,hh,q1,q2,q3,q4⟩
   ·have hj0:j=0:=by omega
    subst hj0;exact ⟨none,0,by rw [hn],by omega,⟨by simp,.inl ⟨rfl,rfl⟩⟩,rfl⟩
   ·have hm:j * Enc.sz α<=xs.length * Enc.sz α:=Nat.mul_le_mul_right _ hj2;refine ⟨some ⟨g,off,none⟩,cap,rfl,q1,⟨?_,.inr ⟨g,off,cap,cur,rfl,hh,by omega,q2,q3,?_⟩⟩,rfl⟩
    ·rw [List.length_take,h1];omega
    ·rw [<- q4,List.take_take,Nat.min_eq_left hm]
  have hrun:=run_slice_h (P:=P) (w:=w) t ad xs.length c (by rw [hel];exact ht) .i64 j (by omega) (by omega);rw [hel,he.size] at hrun;have hsl:sliced ad 0 j c size = .slice ad j c:=by
   unfold sliced;cases ad with
   | none=>simp
   | some ad0=>simp [Addr.add]
  have hs:=run_sliceAt_slice (P:=P) w t v none (some (.int .i64 j)) none (by rw [hel];exact ht);rw [hva] at hs;have hgetE:∀ i,i < j->((xs.take j).map (enc:α->D)).getD i default=(xs.map enc).getD i default:=by
   intro i hi;simp only [List.getD_eq_getElem?_getD,List.getElem?_map,List.getElem?_take];rw [if_pos hi]
  have r':=r.renew (old:=some k) (e:=Ent.arrOf E (xs.take j)) (v := .slice ad j c) (w':=w) hl rfl rfl rfl (Nat.le_refl _)
   (fun b hb _=>rfl) (fun id h=>by cases h;exact ⟨_,hk⟩)
   (fun b hb => .inr ⟨k,v,rfl,hH,by rw [<- hblk];exact hb⟩)
   (.arr E (Enc.sz α) (Enc.bts α) _ _ (cs.take (j * Enc.sz α)) hszp (by rw [List.length_map,List.length_take,Nat.min_eq_left hj2];exact hown')
    (by
     rw [List.length_map,List.length_take,Nat.min_eq_left hj2];exact Nat.le_trans (Nat.mul_le_mul_right _ hj2) hbnd)
    (fun i hi=>by
     have hi:i < j:=by rw [List.length_map,List.length_take] at hi;omega
     rw [hgetE i hi];exact hcs i (by rw [hlen];omega))
    (fun i hi q hq=>by
     have hi:i < j:=by rw [List.length_map,List.length_take] at hi;omega
     rw [hgetE i hi];have h5:i * Enc.sz α+q < (i+1) * Enc.sz α:=by rw [Nat.add_mul];omega
     have h6:(i+1) * Enc.sz α<=j * Enc.sz α:=Nat.mul_le_mul_right _ (by omega);have:(cs.take (j * Enc.sz α)).getD (i * Enc.sz α+q) undef=cs.getD (i * Enc.sz α+q) undef:=by
      simp only [List.getD_eq_getElem?_getD,List.getElem?_take];rw [if_pos (by omega)]
     rw [this];exact hrel i (by rw [hlen];omega) q hq))
  have r2:=r'.set (d:=d) (show d < σ.n by simpa using hlt) (.own σ.nxt _ (Hd.add_new _ _ _) (.inl ⟨_,_,_,rfl⟩));rw [<- hd] at r2;refine AL.value ?_ (Ext.refl w) ⟨_,rfl,_,r2⟩;simp [execOp,ho,heval,hva,r.lit hhi,hs,hrun,hsl]
theorem AL.tail {t e:TypeId} {x lo:Operand} {k E:Nat} {j:Int} {dsc:Bool} {size bytes:Nat} {z:Value} {α:Type} [Enc α] {xs:List α} {d:Nat} (id:Nat) (hid:σ.nxt=id) (hl:Nat.blt id LIM=true) (hd:o.dst=some d) (hlt:Nat.blt d σ.n=true)
  (ho:o.op = .slice t x (some lo) none none) (ht:P.underlying t=some (.slice e)) (he:TI P e dsc size bytes z) (hsz:Enc.sz α=size)
  (hx:σ.ev x=some (.own k)) (hk:σ.ent k=some (Ent.arrOf E xs)) (hlo:σ.ev lo=some (.d (.lit (.int .i64 j)))) (hj:0<=j/\j<=xs.length):
  AL P F σ o (·=((σ.put k none).new (Ent.arrOf E (xs.drop j.toNat))).set d (.own id)):=by
 subst hid;intro a w ⟨H,r⟩;have hl:σ.nxt < LIM:=by simpa using hl
 have hv:=r.ev hx;obtain ⟨v,hH,hr⟩:=r.ent k _ hk;have heval:a.eval x=v:=by
  generalize a.eval x=u at hv;cases hv with
  | own _ _ h _=>rw [hH] at h;cases h;rfl
 obtain ⟨j,rfl⟩:∃ n:Nat,j=n:=⟨j.toNat,by omega⟩;have hj2:j<=xs.length:=by omega
 rw [Int.toNat_natCast];have hel:P.elem t=e:=by simp [Program.elem,ht]
 cases hr with
 | arr _ _ _ _ _ cs hszp hown hbnd hcs hrel=>
  have hlen:(xs.map (enc:α->D)).length=xs.length:=by simp
  rw [hlen] at hown hbnd;obtain ⟨ad,c,hva,hown',hblk⟩:∃ ad c,v = .slice ad xs.length c/\zbN w E (Enc.sz α) (sliced ad j xs.length c size) (xs.length - j) (cs.drop (j * Enc.sz α))/\(∀ b,blk (sliced ad j xs.length c size)=some b->blk v=some b):=by
   rcases hown.form with ⟨rfl,hn⟩ | ⟨g,off,cap,rfl⟩
   ·have hj0:j=0:=by omega
    subst hj0;refine ⟨none,0,by rw [hn],?_,fun b hb=>by simp [sliced,blk] at hb⟩;simp only [sliced,if_true,hn,Nat.sub_zero,Nat.zero_mul,List.drop_zero];exact ⟨by rw [hown.1,hn],.inl ⟨rfl,rfl⟩⟩
   ·refine ⟨some ⟨g,off,none⟩,cap,rfl,?_,?_⟩
    ·have h1:=hown.tail hj2;by_cases hc:cap=j
     ·obtain ⟨h2,h3⟩:=h1;refine ⟨h2,?_⟩;rcases h3 with ⟨h3,_⟩ | ⟨g',o1,cap',cur,h3,h4,h5,h6,h7,h8⟩
      ·cases h3
      ·cases h3;have hxj:xs.length=j:=by
        rcases hown.2 with ⟨h,_⟩ | ⟨_,_,_,_,h,_,h9,_⟩
        ·cases h
        ·cases h;omega
       refine .inr ⟨g,off,0,cur,by simp [sliced,hc,hxj],h4,by omega,by simp [maxLen],by omega,?_⟩;rw [<- h8];simp [hxj]
     ·have:sliced (some ⟨g,off,none⟩) j xs.length cap size = .slice (some ⟨g,off+j * Enc.sz α,none⟩) (xs.length - j) (cap - j):=by
       unfold sliced;rw [if_neg hc,Option.map_some,zbD,hsz]
      rw [this];exact h1
    ·intro b hb;unfold sliced at hb;by_cases hc:cap=j
     ·rw [if_pos hc] at hb;exact hb
     ·rw [if_neg hc,Option.map_some,zbD] at hb;exact hb
  have hrun:=run_slice_l (P:=P) (w:=w) t ad xs.length c (by rw [hel];exact ht) .i64 j (by omega) (by omega);rw [hel,he.size,Int.toNat_natCast] at hrun;have hs:=run_sliceAt_slice (P:=P) w t v (some (.int .i64 j)) none none (by rw [hel];exact ht);rw [hva] at hs;have hgetE:∀ i,((xs.drop j).map (enc:α->D)).getD i default=(xs.map enc).getD (j+i) default:=by
   intro i;simp only [List.getD_eq_getElem?_getD,List.getElem?_map,List.getElem?_drop]
  have hsl:∃ a0 n0 c0,sliced ad j xs.length c size = .slice a0 n0 c0:=⟨_,_,_,rfl⟩;have r':=r.renew (old:=some k) (e:=Ent.arrOf E (xs.drop j)) (v:=sliced ad j xs.length c size) (w':=w) hl rfl rfl rfl (Nat.le_refl _)
   (fun b hb _=>rfl) (fun id h=>by cases h;exact ⟨_,hk⟩)
   (fun b hb => .inr ⟨k,v,rfl,hH,hblk b hb⟩)
   (.arr E (Enc.sz α) (Enc.bts α) _ _ (cs.drop (j * Enc.sz α)) hszp (by rw [List.length_map,List.length_drop];exact hown')
    (by
     rw [List.length_map,List.length_drop];exact Nat.le_trans (Nat.mul_le_mul_right _ (Nat.sub_le _ _)) hbnd)
    (fun i hi=>by
     have hi:i < xs.length - j:=by rw [List.length_map,List.length_drop] at hi;exact hi
     rw [hgetE i];exact hcs (j+i) (by rw [hlen];omega))
    (fun i hi q hq=>by
     have hi:i < xs.length - j:=by rw [List.length_map,List.length_drop] at hi;exact hi
     rw [hgetE i];have:(cs.drop (j * Enc.sz α)).getD (i * Enc.sz α+q) undef=cs.getD ((j+i) * Enc.sz α+q) undef:=by
      simp only [List.getD_eq_getElem?_getD,List.getElem?_drop];rw [show j * Enc.sz α+(i * Enc.sz α+q)=(j+i) * Enc.sz α+q by rw [Nat.add_mul];omega]
     rw [this];exact hrel (j+i) (by rw [hlen];omega) q hq))
  have r2:=r'.set (d:=d) (show d < σ.n by simpa using hlt) (.own σ.nxt _ (Hd.add_new _ _ _) (.inl hsl));rw [<- hd] at r2;refine AL.value ?_ (Ext.refl w) ⟨_,rfl,_,r2⟩;simp [execOp,ho,heval,hva,r.lit hlo,hs,hrun]
theorem RelH.nilcellE (r:RelH F σ H a w) (hl:σ.nxt < LIM) {id j:Nat} {e0:Ent} (he0:∀ (w:World) (S:Nat->Prop) (H:Hd),EntRel w S H e0 (.slice none 0 0)) {T:TypeId} {xs:List AV} (he:σ.ent id=some (.box T xs)) (hj:xs[j]? =some .nil):
  RelH F ((σ.new e0).put id (some (.box T (xs.set j (.own σ.nxt))))) (H.add σ.nxt (.slice none 0 0)) a w:=by
 have r':=r.renew (old:=none) (e:=e0) (v := .slice none 0 0) (w':=w) hl rfl rfl rfl (Nat.le_refl _) (fun _ _ _=>rfl) (fun id h=>by cases h) (fun b hb=>by simp [blk] at hb)
  (he0 _ _ _)
 have hne:id≠σ.nxt:=fun e=>by
  obtain ⟨v,hv,_⟩:=r.ent id _ he;rw [e,r.fresh0 _ (Nat.le_refl _) hl] at hv;cases hv
 have he':(σ.new e0).ent id=some (.box T xs):=by rw [St.ent_new,if_neg (fun h=>hne h.symm)];exact he
 obtain ⟨v,hv,hr⟩:=r'.ent id _ he';have hcell:(xs.set j (.own σ.nxt)).length=xs.length:=by simp
 generalize hσ:((σ.new e0).put id (some (.box T (xs.set j (.own σ.nxt)))))=σ2;have hent2:∀ i e,σ2.ent i=some e->(i=id/\e = .box T (xs.set j (.own σ.nxt)))\/(i≠id/\(σ.new e0).ent i=some e):=by
  subst hσ;intro i e h;rw [St.ent_put] at h;by_cases hi:id=i
  ·rw [if_pos hi] at h;cases h;exact .inl ⟨hi.symm,rfl⟩
  ·rw [if_neg hi] at h;exact .inr ⟨fun e=>hi e.symm,h⟩
 have hent3:∀ i e,σ2.ent i=some e->∃ e',(σ.new e0).ent i=some e':=by
  intro i e h;rcases hent2 i e h with ⟨rfl,_⟩ | ⟨_,h⟩
  ·exact ⟨_,he'⟩
  ·exact ⟨_,h⟩
 have hSh:∀ b,Sh F.X (σ.new e0).ent (H.add σ.nxt (.slice none 0 0)) w b->Sh F.X σ2.ent (H.add σ.nxt (.slice none 0 0)) w b:=by
  intro b hb;refine ⟨hb.1,hb.2.1,fun i e v hi hv => ?_⟩;obtain ⟨e',he'⟩:=hent3 i e hi;exact hb.2.2 i e' v he' hv
 have hmono:∀ b,Sh F.X (σ.new e0).ent (H.add σ.nxt (.slice none 0 0)) w b->Sh F.X σ2.ent (H.add σ.nxt (.slice none 0 0)) w b/\w.heap[b]? =w.heap[b]? :=fun b hb=>⟨hSh b hb,rfl⟩
 have hn2:σ2.n=(σ.new e0).n:=by subst hσ;rfl
 have hx2:σ2.nxt=(σ.new e0).nxt:=by subst hσ;rfl
 have hg2:∀ k,σ2.get k=(σ.new e0).get k:=by subst hσ;intro k;rfl
 refine ⟨r'.size.trans hn2.symm,r'.defs,r'.os,r'.tape,r'.output,r'.grow,r'.keep,r'.xlt,fun i h1 h2=>r'.fresh i (by rw [<- hx2];exact h1) h2,r'.pin,fun i e hi => ?_,fun i e v b hi h1 h2 => ?_,fun i i' e e' v v' b h1 h2 h3 h4 h5 h6 => ?_,fun k x hk => ?_⟩
 ·rcases hent2 i e hi with ⟨rfl,rfl⟩ | ⟨_,h⟩
  ·refine ⟨v,hv,?_⟩;cases hr with
   | box T cells b cur hb hs hrel=>
    refine .box T _ b cur hb (by rw [hs,hcell]) (fun q hq => ?_);rw [hcell] at hq;by_cases hqj:q=j
    ·subst hqj;have h1:(xs.set q (.own σ.nxt)).getD q default = .own σ.nxt:=by
      simp only [List.getD_eq_getElem?_getD,List.getElem?_set,if_pos rfl,if_pos hq];rfl
     have h2:=hrel q hq;have h3:xs.getD q default = .nil:=by simp only [List.getD_eq_getElem?_getD,hj];rfl
     rw [h3] at h2;rw [h1];generalize cur.getD q undef=u at h2;cases h2;exact .own _ _ (Hd.add_new _ _ _) (.inl ⟨_,_,_,rfl⟩)
    ·have h1:(xs.set j (.own σ.nxt)).getD q default=xs.getD q default:=by
      simp only [List.getD_eq_getElem?_getD,List.getElem?_set,if_neg (fun h=>hqj h.symm : ¬ j=q)]
     rw [h1];exact (hrel q hq).mono hmono (fun _ _ h=>h)
   | mp=>
    exfalso
    match j,hj with
    | 0,hj=>cases hj
    | 1,hj=>cases hj
    | q+2,hj=>simp at hj
  ·obtain ⟨u,hu,hur⟩:=r'.ent i e h;exact ⟨u,hu,hur.mono hmono (fun _ _ h=>h) (fun _ _=>rfl)⟩
 ·obtain ⟨e',he'⟩:=hent3 i e hi;exact r'.own i e' v b he' h1 h2
 ·obtain ⟨f,hf⟩:=hent3 i e h1;obtain ⟨f',hf'⟩:=hent3 i' e' h2;exact r'.inj i i' f f' v v' b hf hf' h3 h4 h5 h6
 ·rw [hg2] at hk;exact (r'.slot k x hk).mono hmono (fun _ _ h=>h)
theorem RelH.nilcell (r:RelH F σ H a w) (hl:σ.nxt < LIM) {id j E sz bts:Nat} {T:TypeId} {xs:List AV} (hsz:0 < sz) (he:σ.ent id=some (.box T xs)) (hj:xs[j]? =some .nil):
  RelH F ((σ.new (.arr E sz bts [])).put id (some (.box T (xs.set j (.own σ.nxt))))) (H.add σ.nxt (.slice none 0 0)) a w:=
 r.nilcellE hl (fun w _ _ => .arr E sz bts [] _ [] hsz (zbN.of_row (World.ownsRow_nil w 0 E sz)) (by simp [most]) (by simp) (by simp)) he hj
theorem RelH.boxconv (r:RelH F σ H a w) {id j:Nat} {T:TypeId} {xs:List AV} {x y:AV} (he:σ.ent id=some (.box T xs)) (hj:xs[j]? =some x)
  (hd:∀ z,x ≠ .d z) (hc:∀ (w:World) (S:Nat->Prop) (H:Hd) (v:Value),VRel w S H x v->VRel w S H y v):RelH F (σ.put id (some (.box T (xs.set j y)))) H a w:=by
 have hcell:(xs.set j y).length=xs.length:=by simp
 generalize hσ:σ.put id (some (.box T (xs.set j y)))=σ2;have hent2:∀ i e,σ2.ent i=some e->(i=id/\e = .box T (xs.set j y))\/(i≠id/\σ.ent i=some e):=by
  subst hσ;intro i e h;rw [St.ent_put] at h;by_cases hi:id=i
  ·rw [if_pos hi] at h;cases h;exact .inl ⟨hi.symm,rfl⟩
  ·rw [if_neg hi] at h;exact .inr ⟨fun e=>hi e.symm,h⟩
 have hent3:∀ i e,σ2.ent i=some e->∃ e',σ.ent i=some e':=by
  intro i e h;rcases hent2 i e h with ⟨rfl,_⟩ | ⟨_,h⟩
  ·exact ⟨_,he⟩
  ·exact ⟨_,h⟩
 have hSh:∀ b,Sh F.X σ.ent H w b->Sh F.X σ2.ent H w b:=by
  intro b hb;refine ⟨hb.1,hb.2.1,fun i e v hi hv => ?_⟩;obtain ⟨e',he'⟩:=hent3 i e hi;exact hb.2.2 i e' v he' hv
 have hmono:∀ b,Sh F.X σ.ent H w b->Sh F.X σ2.ent H w b/\w.heap[b]? =w.heap[b]? :=fun b hb=>⟨hSh b hb,rfl⟩
 have hn2:σ2.n=σ.n:=by subst hσ;rfl
 have hx2:σ2.nxt=σ.nxt:=by subst hσ;rfl
 have hg2:∀ k,σ2.get k=σ.get k:=by subst hσ;intro k;rfl
 refine ⟨r.size.trans hn2.symm,r.defs,r.os,r.tape,r.output,r.grow,r.keep,r.xlt,fun i h1 h2=>r.fresh i (by rw [<- hx2];exact h1) h2,r.pin,fun i e hi => ?_,fun i e v b hi h1 h2 => ?_,fun i i' e e' v v' b h1 h2 h3 h4 h5 h6 => ?_,fun k x hk => ?_⟩
 ·rcases hent2 i e hi with ⟨rfl,rfl⟩ | ⟨_,h⟩
  ·obtain ⟨v,hv,hr⟩:=r.ent i _ he;refine ⟨v,hv,?_⟩;cases hr with
   | box T cells b cur hb hs hrel=>
    refine .box T _ b cur hb (by rw [hs,hcell]) (fun q hq => ?_);rw [hcell] at hq;by_cases hqj:q=j
    ·subst hqj;have h1:(xs.set q y).getD q default=y:=by
      simp only [List.getD_eq_getElem?_getD,List.getElem?_set,if_pos hq];rfl
     have h2:=hrel q hq;have h3:xs.getD q default=x:=by simp only [List.getD_eq_getElem?_getD,hj];rfl
     rw [h3] at h2;rw [h1];exact (hc _ _ _ _ h2).mono hmono (fun _ _ h=>h)
    ·have h1:(xs.set j y).getD q default=xs.getD q default:=by
      simp only [List.getD_eq_getElem?_getD,List.getElem?_set,if_neg (fun h=>hqj h.symm : ¬ j=q)]
     rw [h1];exact (hrel q hq).mono hmono (fun _ _ h=>h)
   | mp=>
    exfalso
    match j,hj with
    | 0,hj=>exact hd _ (Option.some.inj hj).symm
    | 1,hj=>exact hd _ (Option.some.inj hj).symm
    | q+2,hj=>simp at hj
  ·obtain ⟨u,hu,hur⟩:=r.ent i e h;exact ⟨u,hu,hur.mono hmono (fun _ _ h=>h) (fun _ _=>rfl)⟩
 ·obtain ⟨e',he'⟩:=hent3 i e hi;exact r.own i e' v b he' h1 h2
 ·obtain ⟨f,hf⟩:=hent3 i e h1;obtain ⟨f',hf'⟩:=hent3 i' e' h2;exact r.inj i i' f f' v v' b hf hf' h3 h4 h5 h6
 ·rw [hg2] at hk;exact (r.slot k x hk).mono hmono (fun _ _ h=>h)
theorem zhH (w:World) (t u ty e:TypeId) (i:TypeInfo) (z:Value) (k:IntKind) (ht:P.underlying t=some (.slice e)) (hu:P.underlying u=some (.int k)) (hi:P.info? e=some i) (hz:i.zero=some z)
  (hs:i.size=z.cells.size) (hpos:0 < z.cells.size) (n:Nat) (h0:0 < n) (h63:(n:Int)<=9223372036854775807) (h48:n * i.bytes<=281474976710656):
  (Builtin.append_ #[t,u] ty #[.slice none 0 0,.int .i64 n]).run P w=
   .ok (.slice (some ⟨w.heap.size,0,none⟩) n (grownCap w n 0 e)) (w.drew.alloc (.cells (Builtin.zeroCells z.cells n++Builtin.zeroCells z.cells (grownCap w n 0 e - n)) e)):=by
 have hn:n≠0:=by omega
 have h63' : ¬ (9223372036854775807 < (n:Int)):=by omega
 have h48' : ¬ (281474976710656 < Builtin.nextslicecap n 0 * i.bytes):=by rw [nextslicecap_zero h0];omega
 have hw:IntKind.i64.wrap (n:Int)=n:=zil ⟨by omega,by omega⟩;have hneg : ¬ ((n:Int) < 0):=by omega
 have h48'' : ¬ (281474976710656 < (n:Int) * (i.bytes:Int)):=by
  have:((n * i.bytes:Nat):Int)<=((281474976710656:Nat):Int):=Int.ofNat_le.2 h48;rw [Int.natCast_mul] at this;omega
 have ha:∀ w':World,(asInt (.int .i64 (n:Int))).run P w' = .ok (n:Int) w':=fun w'=>by first | rfl | simp [asInt,asIntOf]
 have hnn:(n:Int).toNat=n:=by omega
 simp [Builtin.append_,ha,hnn,run_underlying ht,run_underlying hu,sizeOf,typeInfo,zeroValue,hi,hz,hn,h63',h48',h48'',hw,hneg,hs,Question.forced,run_firstCells_none,newRow,grownCap];intro h;exact absurd h (Nat.ne_of_gt (Nat.mul_pos h0 hpos))
theorem EF.append_zeros {t u e:TypeId} {x y:Operand} {ku:IntKind} {n:Int} {dsc:Bool} {size bytes:Nat} {z:Value} {α:Type} [Enc α] {d:Nat} (z0:α) (id:Nat) (hid:σ.nxt=id) (hl:Nat.blt id LIM=true) (hd:o.dst=some d) (hlt:Nat.blt d σ.n=true)
  (ho:o.op = .call { callee := .builtin .append,args:=#[x,y],argTypes:=#[t,u] }) (ht:P.underlying t=some (.slice e)) (hu:P.underlying u=some (.int ku)) (he:TI P e dsc size bytes z) (hsz:Enc.sz α=size) (hbt:Enc.bts α=bytes) (hpos:0 < size)
  (hz:ZRs (enc z0).cells z.cells.toList)
  (hx:σ.ev x=some .nil) (hy:σ.ev y=some (.d (.lit (.int .i64 n)))) (h0:0 < n) (hb:n * bytes<=140737488355328) (hm:n<=9223372036854775807):
  EF P F σ o (·=(σ.new (Ent.arrOf e (List.replicate n.toNat z0))).set d (.own id)):=by
 subst hid;intro a w ⟨H,r⟩;have hl:σ.nxt < LIM:=by simpa using hl
 have hv:=r.ev hx;obtain ⟨i,hi,hs,hby,hzz⟩:=he.inf;have hzs:=zp5 hz;have hszp:0 < Enc.sz α:=by omega
 have heval:a.eval x = .slice none 0 0:=by
  generalize a.eval x=u at hv;cases hv;rfl
 obtain ⟨m,rfl⟩:∃ m:Nat,n=m:=⟨n.toNat,by omega⟩;rw [Int.toNat_natCast];have hbn:m * bytes<=140737488355328:=by
  have:((m * bytes:Nat):Int)<=((140737488355328:Nat):Int):=by rw [Int.natCast_mul];exact hb
  exact Int.ofNat_le.1 this
 have hrun:=zhH (P:=P) w t u o.type e i z ku ht hu hi hzz (by omega) (by omega) m (by omega) hm (by rw [hby];omega);have hge:=grownCap_ge w m 0 e;have hcm:grownCap w m 0 e<=maxLen:=grownCap_le_maxLen w m 0 e (by simp only [maxLen];omega);generalize grownCap w m 0 e=cap at hrun hge hcm;generalize hw':w.drew.alloc (.cells (Builtin.zeroCells z.cells m++Builtin.zeroCells z.cells (cap - m)) e)=w' at hrun;have hzl:=(hz.rel w' (Sh F.X σ.ent H w)).1;have hown:w'.ownsRow 0 e (Enc.sz α) (.slice (some ⟨w.heap.size,0,none⟩) m cap) m (Builtin.zeroCells z.cells m).toList:=by
  subst hw';refine ⟨by rw [Array.length_toList,size_zeroCells,hzs],.inr ⟨w.heap.size,cap,_,rfl,Nat.zero_le _,heap_alloc_new w.drew _,hge,hcm,?_,?_⟩⟩
  ·rw [Array.size_append,size_zeroCells,size_zeroCells,hzs,<- Nat.add_mul];congr 1;omega
  ·rw [Array.toList_append];have:m * Enc.sz α=(Builtin.zeroCells z.cells m).toList.length:=by rw [Array.length_toList,size_zeroCells,hzs]
   rw [this];exact List.take_left
 have hblk:∀ b,b < w.heap.size->w'.heap[b]? =w.heap[b]? :=by
  subst hw';exact fun b hb=>heap_alloc_old w.drew _ b hb
 have hgrow:w.heap.size<=w'.heap.size:=by subst hw';simp
 have r':=r.renew (old:=none) (e:=Ent.arrOf e (List.replicate m z0)) (v := .slice (some ⟨w.heap.size,0,none⟩) m cap) (w':=w') hl (by subst hw';rfl) (by subst hw';rfl) (by subst hw';rfl) hgrow
  (fun b hb _=>hblk b hb) (fun id h=>by cases h)
  (fun b hb=>by
   left;simp only [blk,Option.some.injEq] at hb;omega)
  (.arr e (Enc.sz α) (Enc.bts α) _ _ (Builtin.zeroCells z.cells m).toList hszp (by simpa using zbN.of_row hown) (by rw [hbt];simpa [most] using hbn)
   (fun i hi=>by
    have hi:i < m:=by simpa using hi
    simp [List.getD_eq_getElem?_getD,hi,Enc.hsz])
   (fun i hi j hj=>by
    have hi:i < m:=by simpa using hi
    have hd':((List.replicate m z0).map enc).getD i default=enc z0:=by simp [List.getD_eq_getElem?_getD,hi]
    rw [hd'];have hlt2:i * Enc.sz α+j < m * Enc.sz α:=by
     have h5:i * Enc.sz α+j < (i+1) * Enc.sz α:=by rw [Nat.add_mul];omega
     have h6:(i+1) * Enc.sz α<=m * Enc.sz α:=Nat.mul_le_mul_right _ (by omega);omega
    have hmod:(i * Enc.sz α+j) % Enc.sz α=j:=by rw [Nat.add_comm,Nat.add_mul_mod_self_right,Nat.mod_eq_of_lt (by omega)]
    have hjz:j < z.cells.size:=by omega
    have hmade:(Builtin.zeroCells z.cells m).toList.getD (i * Enc.sz α+j) undef=z.cells.getD j undef:=by
     rw [<- hzs] at hlt2 hmod ⊢;simp [Builtin.zeroCells,List.getD_eq_getElem?_getD,hlt2,hmod];rw [getElem!_pos z.cells j hjz,Array.getElem?_eq_getElem hjz];rfl
    rw [hmade];have:=(hz.rel w' (Sh F.X σ.ent H w)).2 j (by rw [Enc.hsz];exact hj);have h7:z.cells.toList.getD j undef=z.cells.getD j undef:=by simp [List.getD_eq_getElem?_getD]
    rwa [h7] at this))
 have r2:=r'.set (d:=d) (show d < σ.n by simpa using hlt) (.own σ.nxt _ (Hd.add_new _ _ _) (.inl ⟨_,_,_,rfl⟩));rw [<- hd] at r2;have hya:=r.lit hy;exact EF.value (v := .slice (some ⟨w.heap.size,0,none⟩) m cap) (w':=w') (by simp [execOp,ho,resolve,invoke,builtin,heval,hya,hrun]) ⟨_,rfl,_,r2⟩
end
end Go.Ab
