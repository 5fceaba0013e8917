import Derived.Test.YtajabcfngklacaaAb24n20
set_option linter.unusedVariables false
set_option linter.unusedSimpArgs false
set_option linter.unusedSectionVars false
namespace Go.Ab
open Enc (enc)
section
variable {P:Program} {F:Fr} {σ:St} {H:Hd} {a:Act} {w:World} {o:Oper}
theorem zwu {x:Operand} {k E:Nat} {α:Type} [Enc α] {l:List α} (r:RelH F σ H a w) (s:σ.ev x=some (.own k)) (t:σ.ent k=some (Ent.arrOf E l)):
  ∃ i c,a.eval x = .slice i l.length c/\H k=some (.slice i l.length c)/\l.length<=c/\c<=maxLen/\((i=none/\l.length=0/\c=0)\/∃ b off,i=some ⟨b,off,none⟩):=by
 have n:=r.ev s;obtain ⟨v,j,y⟩:=r.ent k _ t;have d:a.eval x=v:=by
  generalize a.eval x=u at n;cases n with
  | own _ _ h _=>rw [j] at h;cases h;rfl
 cases y with
 | arr _ _ _ _ _ cs o e p z q=>
  have f:(l.map (enc:α->D)).length=l.length:=by simp
  rw [f] at e;rcases e.2 with ⟨rfl,m⟩ | ⟨g,off,cap,cur,rfl,h3,h4,h5,_⟩
  ·exact ⟨none,0,by rw [d,m],by rw [j,m],by omega,by simp [maxLen],.inl ⟨rfl,m,rfl⟩⟩
  ·exact ⟨_,cap,d,j,h4,h5,.inr ⟨g,off,rfl⟩⟩
theorem zox {a:Option Addr} {n c i j sz:Nat} (g:(a=none/\n=0/\c=0)\/∃ b off,a=some ⟨b,off,none⟩) (l:n<=c) (m:c<=maxLen) (k:i<=j) (o:j<=n):zvH (.slice a n c) sz i (j - i) (sliced a i j c sz):=by
 rcases g with ⟨rfl,rfl,rfl⟩ | ⟨b,off,rfl⟩
 ·have d:i=0:=by omega
  have f:j=0:=by omega
  subst d f;exact .inl ⟨rfl,by simp [sliced],rfl,rfl⟩
 ·right;unfold sliced;by_cases e:c=i
  ·rw [if_pos e];exact ⟨b,off,n,c,c - i,⟨b,off,none⟩,rfl,by omega,rfl,by omega,by omega,fun h=>by omega⟩
  ·rw [if_neg e,Option.map_some,zgJ];exact ⟨b,off,n,c,c - i,⟨b,off+i * sz,none⟩,rfl,by omega,rfl,by omega,by omega,fun _=>rfl⟩
theorem RO.vw_lh {t e k E:TypeId} {x lo p:Operand} {i j:Int} {α:Type} [Enc α] {l:List α} {dsc:Bool} {bytes:Nat} {z:Value} (s:o.op = .slice t x (some lo) (some p) none) (d:P.underlying t=some (.slice e)) (u:TI P e dsc (Enc.sz α) bytes z)
  (v:σ.ev x=some (.own k)) (y:σ.ent k=some (Ent.arrOf E l)) (f:σ.ev lo=some (.d (.lit (.int .i64 i)))) (g:σ.ev p=some (.d (.lit (.int .i64 j)))) (h:0<=i/\i<=j/\j<=l.length):RO P F σ o (.view k (Enc.sz α) i.toNat (j - i).toNat):=fun H a w r=>by
 obtain ⟨m,c,A,B,C,D,I⟩:=zwu r v y;obtain ⟨i,rfl⟩:∃ n:Nat,i=n:=⟨i.toNat,by omega⟩;obtain ⟨j,rfl⟩:∃ n:Nat,j=n:=⟨j.toNat,by omega⟩;have b:P.elem t=e:=by simp [Program.elem,d]
 rw [Int.toNat_natCast,show ((j:Int) - (i:Int)).toNat=j - i by omega];refine ⟨sliced m i j c (Enc.sz α),fun w' _ => ?_,.view _ _ _ _ _ _ B (zox I C D (by omega) (by omega))⟩;have q:=run_slice_lh (P:=P) (w:=w') t m l.length c (by rw [b];exact d) .i64 .i64 i j (by omega) (by omega) (by omega);rw [b,u.size] at q;have hs:=run_sliceAt_slice (P:=P) w' t (.slice m l.length c) (some (.int .i64 i)) (some (.int .i64 j)) none (by rw [b];exact d);simp [execOp,s,A,r.lit f,r.lit g,hs,q]
theorem RO.vw_h {t e k E:TypeId} {x m:Operand} {j:Int} {α:Type} [Enc α] {l:List α} {dsc:Bool} {bytes:Nat} {z:Value} (q:o.op = .slice t x none (some m) none) (d:P.underlying t=some (.slice e)) (s:TI P e dsc (Enc.sz α) bytes z)
  (u:σ.ev x=some (.own k)) (v:σ.ent k=some (Ent.arrOf E l)) (f:σ.ev m=some (.d (.lit (.int .i64 j)))) (h:0<=j/\j<=l.length):RO P F σ o (.view k (Enc.sz α) 0 j.toNat):=fun H a w r=>by
 obtain ⟨g,c,y,A,B,C,D⟩:=zwu r u v;obtain ⟨j,rfl⟩:∃ n:Nat,j=n:=⟨j.toNat,by omega⟩;have b:P.elem t=e:=by simp [Program.elem,d]
 rw [Int.toNat_natCast];refine ⟨sliced g 0 j c (Enc.sz α),fun w' _ => ?_,.view _ _ _ _ _ _ A (zox (i:=0) D B C (by omega) (by omega))⟩;have p:=run_slice_h (P:=P) (w:=w') t g l.length c (by rw [b];exact d) .i64 j (by omega) (by omega);rw [b,s.size] at p;have hs:=run_sliceAt_slice (P:=P) w' t (.slice g l.length c) none (some (.int .i64 j)) none (by rw [b];exact d);simp [execOp,q,y,r.lit f,hs,p]
theorem RO.vw_l {t e k E:TypeId} {x lo:Operand} {i:Int} {α:Type} [Enc α] {l:List α} {dsc:Bool} {bytes:Nat} {z:Value} (m:o.op = .slice t x (some lo) none none) (d:P.underlying t=some (.slice e)) (p:TI P e dsc (Enc.sz α) bytes z)
  (q:σ.ev x=some (.own k)) (s:σ.ent k=some (Ent.arrOf E l)) (f:σ.ev lo=some (.d (.lit (.int .i64 i)))) (h:0<=i/\i<=l.length):RO P F σ o (.view k (Enc.sz α) i.toNat (l.length - i.toNat)):=fun H a w r=>by
 obtain ⟨g,c,u,v,y,A,B⟩:=zwu r q s;obtain ⟨i,rfl⟩:∃ n:Nat,i=n:=⟨i.toNat,by omega⟩;have b:P.elem t=e:=by simp [Program.elem,d]
 rw [Int.toNat_natCast];refine ⟨sliced g i l.length c (Enc.sz α),fun w' _ => ?_,.view _ _ _ _ _ _ v (zox B y A (by omega) (by omega))⟩;have j:=run_slice_l (P:=P) (w:=w') t g l.length c (by rw [b];exact d) .i64 i (by omega) (by omega);rw [b,p.size] at j;have hs:=run_sliceAt_slice (P:=P) w' t (.slice g l.length c) (some (.int .i64 i)) none none (by rw [b];exact d);simp [execOp,m,u,r.lit f,hs,j]
theorem DRel.piece {w:World} {S:Nat->Prop} {bts sz i n:Nat} {l:List D} {u v:Value} (h:DRel w S (.sl bts l) u) (s:∀ d∈l,d.cells.length=sz) (y:zvH u sz i n v):DRel w S (.sl bts ((l.drop i).take n)) v:=by
 rcases y with ⟨_,rfl,rfl,rfl⟩ | ⟨b,o0,n0,c0,c,ad,rfl,h1,rfl,h2,h3,h4⟩
 ·simp only [List.take_zero];exact .nil _ _ _ (by simp [maxLen]) (fun _=>rfl)
 ·by_cases B:n=0
  ·subst B;simp only [List.take_zero];exact .nil _ _ _ h3 (fun h=>by cases h)
  ·cases h with
   | nil=>omega
   | sl _ _ _ _ _ a f t p C F H E q m r=>
    have e:a=sz:=by
     rw [<- q 0 t];have:l.getD 0 default=l[0]:=by simp [List.getD_eq_getElem?_getD,t]
     rw [this];exact s _ (List.getElem_mem t)
    subst e;have g:((l.drop i).take n).length=n:=by rw [List.length_take,List.length_drop];omega
    have x:∀ k,k < n->((l.drop i).take n).getD k default=l.getD (i+k) default:=fun k o=>by
     simp only [List.getD_eq_getElem?_getD];rw [List.getElem?_take_of_lt o,List.getElem?_drop]
    rw [h4 (by omega)];have:=DRel.sl (w:=w) (S:=S) bts ((l.drop i).take n) b (o0+i * a) c a (fun k=>f (i * a+k)) (by omega) p C (by omega) h3
     (by
      rw [g];have:n * bts<=l.length * bts:=Nat.mul_le_mul_right _ (by omega);omega)
     (fun k o=>by rw [x k (by omega)];exact q _ (by omega))
     (fun k o=>by
      rw [g] at o;have A:(i+n) * a<=l.length * a:=Nat.mul_le_mul_right _ h1;rw [Nat.add_mul] at A;rw [Nat.add_assoc];exact m _ (by omega))
     (fun k o j z=>by
      rw [x k (by omega)];have:=r (i+k) (by omega) j z;rw [Nat.add_mul,Nat.add_assoc] at this;exact this)
    rw [g] at this;exact this
theorem RelH.viewDat (r:RelH F σ H a w) {S:Nat->Prop} {k id sz i n bts:Nat} {l:List D} {v:Value} (e:H id=some v) (f:DRel w S (.sl bts l) v) (g:σ.get k=some (.view id sz i n)) (b:∀ d∈l,d.cells.length=sz):
  DRel w S (.sl bts ((l.drop i).take n)) (a.tmps.getD k undef):=by
 have c:=r.slot k _ g;generalize a.tmps.getD k undef=u at c;cases c with
 | view _ _ _ _ m _ h j=>rw [e] at h;cases h;exact f.piece b j
theorem DRel.cellsOf {S:Nat->Prop} {α:Type} [Enc α] {ys:List α} {u:Value} (q:DRel w S (enc ys) u):∃ (l:Option Addr) (c:Nat) (news:List Value),u = .slice l ys.length c/\news.length=ys.length * Enc.sz α/\
  (∀ j v,news[j]? =some v->∃ b off,l=some ⟨b,off,none⟩/\w.cell? ⟨b,off+j,none⟩=some v)/\
  (∀ i,i < ys.length->∀ j,j < Enc.sz α->DRel w S (((ys.map enc).getD i default).cells.getD j default) (news.getD (i * Enc.sz α+j) undef))/\(l=none->c=0):=by
 generalize k:(enc ys:D)=D0 at q;cases q with
 | lit=>cases k
 | ptr=>cases k
 | agg=>cases k
 | nil bts l c t x=>
  injection k with h1 h2
  have:ys=[]:=by simpa using h2
  subst this;exact ⟨l,c,[],rfl,by simp,by simp,by simp,x⟩
 | sl bts C b off c sz f r y E t F z p d m=>
  injection k with h1 h2
  subst h2;have e:(ys.map (enc:α->D)).length=ys.length:=by simp
  have g:0 < ys.length:=by simpa using r
  have a:sz=Enc.sz α:=by
   rw [<- p 0 r];have:(ys.map (enc:α->D)).getD 0 default=enc ys[0]:=by simp [List.getD_eq_getElem?_getD,g]
   rw [this,Enc.hsz]
  subst a;refine ⟨_,c,(List.range (ys.length * Enc.sz α)).map f,by rw [e],by simp,fun j u n => ?_,fun i s j n => ?_,by simp⟩
  ·have h:j < ys.length * Enc.sz α:=by
    have:=(List.getElem?_eq_some_iff.1 n).1;simpa using this
   refine ⟨b,off,rfl,?_⟩;rw [d j (by simpa using h)];simpa [h] using n
  ·have o:i * Enc.sz α+j < ys.length * Enc.sz α:=by
    have A:i * Enc.sz α+j < (i+1) * Enc.sz α:=by rw [Nat.add_mul];omega
    have B:(i+1) * Enc.sz α<=ys.length * Enc.sz α:=Nat.mul_le_mul_right _ (by omega);omega
   have:=m i (by simpa using s) j n;simpa [List.getD_eq_getElem?_getD,o] using this
theorem EF.append_full {t e:TypeId} {x y:Operand} {dsc:Bool} {size bytes:Nat} {z:Value} {α:Type} [Enc α] {xs ys:List α} {d:Nat} (z0:α) (id:Nat) (hid:σ.nxt=id) (hl:Nat.blt id LIM=true) (hd:o.dst=some d) (hlt:Nat.blt d σ.n=true)
  (ho:o.op = .call { callee := .builtin .append,args:=#[x,y],argTypes:=#[t,t] }) (ht:P.underlying t=some (.slice e)) (X:TI P e dsc size bytes z) (B:Enc.sz α=size) (hbt:Enc.bts α=bytes) (Q:0 < size)
  (hz:ZRs (enc z0).cells z.cells.toList)
  (hx:σ.ev x=some (.full (Enc.bts α) (xs.map enc))) (hy:Src σ y ys) (hy0:0 < ys.length) (q:(xs.length+ys.length) * bytes<=140737488355328) (hm:xs.length+ys.length<=9223372036854775807):
  EF P F σ o (·=(σ.new (Ent.arrOf e (xs++ys))).set d (.own id)):=by
 subst hid;intro a w ⟨H,r⟩;have hl:σ.nxt < LIM:=by simpa using hl
 have hv:=r.ev hx;obtain ⟨ad,c,k,hya,E,s,m,hcn⟩:=hy.cells r;obtain ⟨i,N,hs,a2,a3⟩:=X.inf;have Y:=zB0 hz;have A:0 < Enc.sz α:=by omega
 have Z:∀ (T:List α) (W:List Value),W.length=T.length * Enc.sz α->(∀ i,i < T.length->∀ j,j < Enc.sz α->DRel w (Sh F.X σ.ent H w) (((T.map enc).getD i default).cells.getD j default) (W.getD (i * Enc.sz α+j) undef))->∀ u∈W,u.oneCell'=true:=by
  intro T W E m u hu;obtain ⟨j,M,rfl⟩:=List.mem_iff_getElem.1 hu;obtain ⟨R,V,a4,hj0,rfl⟩:∃ R V,R < T.length/\V < Enc.sz α/\j=R * Enc.sz α+V:=by
   refine ⟨j / Enc.sz α,j % Enc.sz α,?_,Nat.mod_lt _ A,?_⟩
   ·rw [Nat.div_lt_iff_lt_mul A];omega
   ·rw [Nat.mul_comm];exact (Nat.div_add_mod _ _).symm
  have hd:=m R a4 V hj0;have hg:W.getD (R * Enc.sz α+V) undef=W[R * Enc.sz α+V]:=by simp [List.getD_eq_getElem?_getD,M]
  have he':(T.map enc).getD R default=enc T[R]:=by simp [List.getD_eq_getElem?_getD,a4]
  rw [hg,he'] at hd;exact hd.one (Enc.cell_one _ _)
 have h1:=Z ys k E m;obtain ⟨L,hax,hdx⟩:∃ L,a.eval x = .slice L xs.length xs.length/\DRel w (Sh F.X σ.ent H w) (enc xs) (.slice L xs.length xs.length):=by
  generalize a.eval x=u at hv;cases hv with
  | full _ _ L h=>rw [List.length_map] at h ⊢;exact ⟨L,rfl,h⟩
 obtain ⟨ad1,c1,n,hu1,hol,O,U,hoc⟩:=hdx.cellsOf;injection hu1 with q1 q2 q3
 subst q1;have hnp:0 < k.length:=by rw [E];exact Nat.mul_pos hy0 A
 obtain ⟨bn,I,had,_⟩:=s 0 k[0] (by simp);subst had;obtain ⟨C,w',p,f,l,J⟩:∃ C w',(Builtin.append_ #[t,t] o.type #[.slice L xs.length xs.length,.slice (some ⟨bn,I,none⟩) ys.length c]).run P w = .ok C w'/\zgL w' e size C (xs.length+ys.length) (n++k)/\w.grownBy w' none/\(∀ b,C.ownBlock=some b->w.heap.size<=b):=by
  cases L with
  | none=>
   have hx0:xs=[]:=by
    have:=hoc rfl;rw [<- q3] at this;exact List.eq_nil_of_length_eq_zero this
   subst hx0;have ho0:n=[]:=List.eq_nil_of_length_eq_zero (by simpa using hol);subst ho0;obtain ⟨C,w',p,f,l,J⟩:=zmf (w:=w) P t o.type e i z size bytes ht N a3 hs a2 (by rw [Y,B]) Q _ 0 [] (zgL.of_row (World.ownsRow_nil w 0 e size)) (some ⟨bn,I,none⟩) ys.length c k (by rw [E,B]) s h1 (by simp only [maxLen];simp at hm;omega) (by simpa using q) (fun h=>by cases h);refine ⟨C,w',p,by simpa using f,by simpa [Value.ownBlock] using l,fun b q => ?_⟩;rcases J b q with h | h
   ·simp [Value.ownBlock] at h
   ·exact h
  | some L=>
   obtain ⟨C,w',p,f,l⟩:=run_append_arg_grows (P:=P) w t o.type e i z size bytes ht N a3 hs a2 (by rw [Y,B]) Q L xs.length xs.length n (by rw [hol,B])
    (fun j u M=>by
     obtain ⟨b,off,S,h4⟩:=O j u M;injection S with S;subst S
     rw [Addr.add_lit];exact h4)
    ⟨bn,I,none⟩ ys.length c k (by rw [E,B])
    (fun j u M=>by
     obtain ⟨b,off,S,h4⟩:=s j u M;injection S with S;injection S with h5 h6;subst h5 h6
     rw [Addr.add_lit];exact h4) (by omega) (by simp only [maxLen];omega) q
   refine ⟨C,w',p,zgL.of_row f,l,fun b q => ?_⟩;obtain ⟨_,h2⟩:=f;rcases h2 with ⟨rfl,_⟩ | ⟨g,cap,cur,rfl,S,_⟩
   ·simp [Value.ownBlock] at q
   ·simp [Value.ownBlock] at q;omega
 have a0:=zlK f;have hS:∀ b,Sh F.X σ.ent H w b->Sh F.X σ.ent H w b/\w'.heap[b]? =w.heap[b]? :=fun b q=>⟨q,l.block b q.1 (by simp)⟩
 have r':=r.renew (old:=none) (e:=Ent.arrOf e (xs++ys)) (v:=C) (w':=w') hl l.os l.tape l.output l.size
  (fun b q h=>l.block b q (by simp)) (fun id h=>by cases h)
  (fun b q => .inl (J b (by rw [a0];exact q)))
  (.arr e (Enc.sz α) (Enc.bts α) _ C (n++k) A (by rw [B];simpa using f) (by rw [hbt];simpa [most] using q)
   (fun i N=>by
    have N:i < (xs++ys).length:=by simpa using N
    have:((xs++ys).map (enc:α->D)).getD i default=enc (xs++ys)[i]:=by simp only [List.getD_eq_getElem?_getD,List.getElem?_map,List.getElem?_eq_getElem N];rfl
    rw [this,Enc.hsz])
   (fun i N j M=>by
    have N:i < xs.length+ys.length:=by simpa using N
    rw [zok n k xs.length (Enc.sz α) i j undef hol M];by_cases h:i < xs.length
    ·rw [if_pos h];have:=(U i h j M).mono hS;have X:((xs++ys).map (enc:α->D)).getD i default=(xs.map enc).getD i default:=by
      simp only [List.getD_eq_getElem?_getD,List.map_append];rw [List.getElem?_append_left (by simpa using h)]
     rw [X];exact this
    ·rw [if_neg h];have:=(m (i - xs.length) (by omega) j M).mono hS;have X:((xs++ys).map (enc:α->D)).getD i default=(ys.map enc).getD (i - xs.length) default:=by
      simp only [List.getD_eq_getElem?_getD,List.map_append];rw [List.getElem?_append_right (by simpa using h),List.length_map]
     rw [X];exact this))
 have r2:=r'.set (d:=d) (show d < σ.n by simpa using hlt) (.own σ.nxt _ (Hd.add_new _ _ _) (by
  rcases f.form with ⟨rfl,_⟩ | ⟨b,off,c,rfl⟩<;>exact .inl ⟨_,_,_,rfl⟩))
 rw [<- hd] at r2;exact EF.value (v:=C) (w':=w') (by simp [execOp,ho,resolve,invoke,builtin,hax,hya,p]) ⟨_,rfl,_,r2⟩
end
end Go.Ab
