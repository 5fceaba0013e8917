import Derived.Test.YtajabcfngklacaaAb24n6
set_option linter.unusedVariables false
set_option linter.unusedSimpArgs false
set_option linter.unusedSectionVars false
namespace Go.Ab
open Enc (enc)
open Go.RowKit (Below)
section
variable {P:Program} {F:Fr} {ops:Array Oper} {σ:St} {K:St->Prop} {o:Oper} {rest:List (Nat×Oper)} {H:Hd} {a:Act} {w:World}
theorem zlK {w:World} {E size n:Nat} {v:Value} {xs:List Value} (h:zgL w E size v n xs):v.ownBlock=blk v:=by
 rcases h.form with ⟨rfl,_⟩ | ⟨b,off,c,rfl⟩<;>rfl
theorem zB0 {α:Type} [Enc α] {z0:α} {z:Value} (a:ZRs (enc z0).cells z.cells.toList):z.cells.size=Enc.sz α:=by
 have h:=(ZRs.rel (default:World) (fun _=>True) a).1;rw [Enc.hsz] at h;simpa using h.symm
theorem zok {α:Type} (xs ys:List α) (n sz i j:Nat) (d:α) (a:xs.length=n * sz) (c:j < sz):
  (xs++ys).getD (i * sz+j) d=if i < n then xs.getD (i * sz+j) d else ys.getD ((i - n) * sz+j) d:=by
 simp only [List.getD_eq_getElem?_getD];by_cases h:i < n
 ·rw [if_pos h,List.getElem?_append_left];have e:i * sz+j < (i+1) * sz:=by rw [Nat.add_mul];omega
  have b:(i+1) * sz<=n * sz:=Nat.mul_le_mul_right _ h;omega
 ·rw [if_neg h];have b:n * sz<=i * sz:=Nat.mul_le_mul_right _ (by omega);rw [List.getElem?_append_right (by omega),a,Nat.sub_mul];congr 2;omega
theorem EF.append {t e:TypeId} {x y:Operand} {k E:Nat} {dsc:Bool} {size bytes:Nat} {z:Value} {α:Type} [Enc α] {xs ys:List α} {d:Nat} (z0:α) (id:Nat) (a0:σ.nxt=id) (hl:Nat.blt id LIM=true) (Y:o.dst=some d) (hlt:Nat.blt d σ.n=true)
  (ho:o.op = .call { callee := .builtin .append,args:=#[x,y],argTypes:=#[t,t] }) (ht:P.underlying t=some (.slice e)) (N:TI P e dsc size bytes z) (hE:E=e) (A:Enc.sz α=size) (hbt:Enc.bts α=bytes) (O:0 < size)
  (hz:ZRs (enc z0).cells z.cells.toList)
  (hx:σ.ev x=some (.own k)) (hk:σ.ent k=some (Ent.arrOf E xs)) (hy:Src σ y ys) (s:(xs.length+ys.length) * bytes<=140737488355328) (hm:xs.length+ys.length<=9223372036854775807):
  EF P F σ o (·=((σ.put k none).new (Ent.arrOf E (xs++ys))).set d (.own id)):=by
 subst a0 hE;intro a w ⟨H,r⟩;have hl:σ.nxt < LIM:=by simpa using hl
 have hv:=r.ev hx;obtain ⟨v,Z,hr⟩:=r.ent k _ hk;obtain ⟨ad,c,f,hya,L,g,p,hcn⟩:=hy.cells r;obtain ⟨i,C,hs,hby,hzz⟩:=N.inf;have hzs:=zB0 hz;cases hr with
 | arr _ _ _ _ _ cs q m hbnd hcs X=>
  have R:(xs.map (enc:α->D)).length=xs.length:=by simp
  rw [R] at m;have hcl:cs.length=xs.length * Enc.sz α:=m.1;have h1:∀ u∈f,u.oneCell'=true:=by
   intro u hu;obtain ⟨j,Q,rfl⟩:=List.mem_iff_getElem.1 hu;obtain ⟨b,off,_,hc⟩:=g j f[j] (by simp);obtain ⟨B,M,U,hj0,rfl⟩:∃ B M,B < ys.length/\M < Enc.sz α/\j=B * Enc.sz α+M:=by
    refine ⟨j / Enc.sz α,j % Enc.sz α,?_,Nat.mod_lt _ q,?_⟩
    ·rw [Nat.div_lt_iff_lt_mul q];omega
    ·rw [Nat.mul_comm];exact (Nat.div_add_mod _ _).symm
   have Y:=p B U M hj0;have hg:f.getD (B * Enc.sz α+M) undef=f[B * Enc.sz α+M]:=by simp [List.getD_eq_getElem?_getD,Q]
   have he':(ys.map enc).getD B default=enc ys[B]:=by simp [List.getD_eq_getElem?_getD,U]
   rw [hg,he'] at Y;exact Y.one (Enc.cell_one _ _)
  have S:ad=none->ys.length=0/\c=0:=by
   intro h;subst h;have hn0:f=[]:=by
    cases f with
    | nil=>rfl
    | cons u us=>obtain ⟨b,off,h,_⟩:=g 0 u rfl;cases h
   refine ⟨?_,hcn rfl⟩;subst hn0;simp only [List.length_nil] at L;rcases Nat.mul_eq_zero.1 L.symm with h | h
   ·exact h
   ·omega
  obtain ⟨v',w',V,l,n,W⟩:=zmf (w:=w) P t o.type E i z size bytes ht C hzz hs hby (by rw [hzs,A]) O v xs.length cs (by rw [<- A];exact m) ad ys.length c f (by rw [L,A]) g h1 (by simp only [maxLen];omega) s S;have I:a.eval x=v:=by
   generalize a.eval x=u at hv;cases hv with
   | own _ _ h _=>rw [Z] at h;cases h;rfl
  have J:=zlK m;have T:=zlK l;have r':=r.renew (old:=some k) (e:=Ent.arrOf E (xs++ys)) (v:=v') (w':=w') hl n.os n.tape n.output n.size
   (fun b s h=>n.block b s fun hh=>h k v rfl Z (by rw [<- J,<- hh])) (fun id h=>by cases h;exact ⟨_,hk⟩)
   (fun b s=>by
    rcases W b (by rw [T];exact s) with h | h
    ·exact .inr ⟨k,v,rfl,Z,by rw [<- J];exact h⟩
    ·exact .inl h)
   (.arr E (Enc.sz α) (Enc.bts α) _ v' (cs++f) q (by rw [A];simpa using l) (by rw [hbt];simpa [most] using s)
    (fun i C=>by
     have C:i < (xs++ys).length:=by simpa using C
     have:((xs++ys).map (enc:α->D)).getD i default=enc (xs++ys)[i]:=by simp only [List.getD_eq_getElem?_getD,List.getElem?_map,List.getElem?_eq_getElem C];rfl
     rw [this,Enc.hsz])
    (fun i C j Q=>by
     have C:i < xs.length+ys.length:=by simpa using C
     have hS:∀ b,Sh F.X σ.ent H w b->Sh F.X σ.ent H w b/\w'.heap[b]? =w.heap[b]? :=fun b s=>⟨s,n.block b s.1 fun h=>s.2.2 k _ v hk Z (by rw [<- J,<- h])⟩
     rw [zok cs f xs.length (Enc.sz α) i j undef hcl Q];by_cases h:i < xs.length
     ·rw [if_pos h];have:=(X i (by simpa using h) j Q).mono hS;have N:((xs++ys).map (enc:α->D)).getD i default=(xs.map enc).getD i default:=by
       simp only [List.getD_eq_getElem?_getD,List.map_append];rw [List.getElem?_append_left (by simpa using h)]
      rw [N];exact this
     ·rw [if_neg h];have:=(p (i - xs.length) (by omega) j Q).mono hS;have N:((xs++ys).map (enc:α->D)).getD i default=(ys.map enc).getD (i - xs.length) default:=by
       simp only [List.getD_eq_getElem?_getD,List.map_append];rw [List.getElem?_append_right (by simpa using h),List.length_map]
      rw [N];exact this))
  have r2:=r'.set (d:=d) (show d < σ.n by simpa using hlt) (.own σ.nxt _ (Hd.add_new _ _ _) (by
   rcases l.form with ⟨rfl,_⟩ | ⟨b,off,c,rfl⟩<;>exact .inl ⟨_,_,_,rfl⟩))
  rw [<- Y] at r2;exact EF.value (v:=v') (w':=w') (by simp [execOp,ho,resolve,invoke,builtin,I,hya,V]) ⟨_,rfl,_,r2⟩
theorem EF.append_nil {t e:TypeId} {x y:Operand} {dsc:Bool} {size bytes:Nat} {z:Value} {α:Type} [Enc α] {ys:List α} {d:Nat} (z0:α) (id:Nat) (R:σ.nxt=id) (S:Nat.blt id LIM=true) (Q:o.dst=some d) (T:Nat.blt d σ.n=true)
  (ho:o.op = .call { callee := .builtin .append,args:=#[x,y],argTypes:=#[t,t] }) (ht:P.underlying t=some (.slice e)) (he:TI P e dsc size bytes z) (s:Enc.sz α=size) (U:Enc.bts α=bytes) (I:0 < size)
  (hz:ZRs (enc z0).cells z.cells.toList)
  (hx:σ.ev x=some .nil) (hy:Src σ y ys) (p:ys.length * bytes<=140737488355328) (hm:ys.length<=9223372036854775807):
  EF P F σ o (·=(σ.new (Ent.arrOf e ys)).set d (.own id)):=by
 subst R;intro a w ⟨H,r⟩;have S:σ.nxt < LIM:=by simpa using S
 have hv:=r.ev hx;obtain ⟨ad,c,f,Z,C,m,n,a0⟩:=hy.cells r;obtain ⟨i,A,hs,a1,a2⟩:=he.inf;have W:=zB0 hz;have l:0 < Enc.sz α:=by omega
 have h1:∀ u∈f,u.oneCell'=true:=by
  intro u hu;obtain ⟨j,V,rfl⟩:=List.mem_iff_getElem.1 hu;obtain ⟨q,E,M,a3,rfl⟩:∃ q E,q < ys.length/\E < Enc.sz α/\j=q * Enc.sz α+E:=by
   refine ⟨j / Enc.sz α,j % Enc.sz α,?_,Nat.mod_lt _ l,?_⟩
   ·rw [Nat.div_lt_iff_lt_mul l];omega
   ·rw [Nat.mul_comm];exact (Nat.div_add_mod _ _).symm
  have Q:=n q M E a3;have hg:f.getD (q * Enc.sz α+E) undef=f[q * Enc.sz α+E]:=by simp [List.getD_eq_getElem?_getD,V]
  have X:(ys.map enc).getD q default=enc ys[q]:=by simp [List.getD_eq_getElem?_getD,M]
  rw [hg,X] at Q;exact Q.one (Enc.cell_one _ _)
 have J:ad=none->ys.length=0/\c=0:=by
  intro h;subst h;have Y:f=[]:=by
   cases f with
   | nil=>rfl
   | cons u us=>obtain ⟨b,off,h,_⟩:=m 0 u rfl;cases h
  refine ⟨?_,a0 rfl⟩;subst Y;simp only [List.length_nil] at C;rcases Nat.mul_eq_zero.1 C.symm with h | h
  ·exact h
  ·omega
 have B:a.eval x = .slice none 0 0:=by
  generalize a.eval x=u at hv;cases hv;rfl
 obtain ⟨v',w',N,g,k,O⟩:=zmf (w:=w) P t o.type e i z size bytes ht A a2 hs a1 (by rw [W,s]) I _ 0 [] (zgL.of_row (World.ownsRow_nil w 0 e size)) ad ys.length c f (by rw [C,s]) m h1 (by simp only [maxLen];omega) (by rw [Nat.zero_add];exact p) J;simp only [Nat.zero_add,List.nil_append] at g;have L:=zlK g;have r':=r.renew (old:=none) (e:=Ent.arrOf e ys) (v:=v') (w':=w') S k.os k.tape k.output k.size
  (fun b p h=>k.block b p (by simp [Value.ownBlock])) (fun id h=>by cases h)
  (fun b p=>by
   rcases O b (by rw [L];exact p) with h | h
   ·simp [Value.ownBlock] at h
   ·exact .inl h)
  (.arr e (Enc.sz α) (Enc.bts α) _ v' f l (by rw [s];simpa using g) (by rw [U];simpa [most] using p)
   (fun i A=>by
    have A:i < ys.length:=by simpa using A
    have:(ys.map (enc:α->D)).getD i default=enc ys[i]:=by simp [List.getD_eq_getElem?_getD,A]
    rw [this,Enc.hsz])
   (fun i A j V=>(n i (by simpa using A) j V).mono fun b p=>⟨p,k.block b p.1 (by simp [Value.ownBlock])⟩))
 have r2:=r'.set (d:=d) (show d < σ.n by simpa using T) (.own σ.nxt _ (Hd.add_new _ _ _) (by
  rcases g.form with ⟨rfl,_⟩ | ⟨b,off,c,rfl⟩<;>exact .inl ⟨_,_,_,rfl⟩))
 rw [<- Q] at r2;exact EF.value (v:=v') (w':=w') (by simp [execOp,ho,resolve,invoke,builtin,B,Z,N]) ⟨_,rfl,_,r2⟩
theorem getElem?_splice {α:Type} (l vs:List α) (o j:Nat) (h:o+vs.length<=l.length):
  (l.take o++vs++l.drop (o+vs.length))[j]? =if j < o then l[j]? else if j < o+vs.length then vs[j - o]? else l[j]? :=by
 have a:(l.take o).length=o:=by simp;omega
 by_cases b:j < o
 ·rw [if_pos b,List.append_assoc,List.getElem?_append_left (by omega),List.getElem?_take,if_pos b]
 ·rw [if_neg b];by_cases c:j < o+vs.length
  ·rw [if_pos c,List.append_assoc,List.getElem?_append_right (by omega),List.getElem?_append_left (by omega),a]
  ·rw [if_neg c,List.getElem?_append_right (by simp;omega),List.getElem?_drop];congr 1;simp;omega
theorem zmb (w:World) (g:Nat) (cs:Array Value):w.grownBy (w.setRow g cs) (some g):=
 ⟨rfl,rfl,rfl,by simp [World.setRow],fun k _ a=>setRow_other w g k cs (fun e=>a (by rw [e]))⟩
theorem zsh {w:World} {e size n g a cap:Nat} {xs:List Value} {P:Program} (h:zgL w e size (.slice (some ⟨g,a,none⟩) n cap) n xs) (off:Nat) (vs:List Value) (b:∀ v∈vs,v.oneCell'=true) (f:off+vs.length<=n * size):
  ∃ w',(storeCells ⟨g,a+off,none⟩ vs).run P w = .ok () w'/\w.grownBy w' (some g)/\zgL w' e size (.slice (some ⟨g,a,none⟩) n cap) n (xs.take off++vs++xs.drop (off+vs.length)):=by
 obtain ⟨p,q⟩:=h;rcases q with ⟨h,_⟩ | ⟨g',o1,cap',cur,h,hg,hnc,hcm,hcs,htake⟩
 ·cases h
 ·cases h;have l:a+n * size<=cur.size:=Nat.le_trans (Nat.add_le_add_left (Nat.mul_le_mul_right _ hnc) _) hcs;have c:=run_storeCells_at P g (a+off) e vs 0 cur w hg (by omega) b;refine ⟨_,c,zmb w g _,?_,.inr ⟨g,a,cap,_,rfl,setRow_heap w g cur _ e _ hg,hnc,hcm,?_,?_⟩⟩
  ·simp only [List.length_append,List.length_take,List.length_drop];omega
  ·simp only [List.size_toArray,List.length_append,List.length_take,List.length_drop,Array.length_toList];omega
  ·apply List.ext_getElem?;intro j;have d:off+vs.length<=xs.length:=by omega
   rw [getElem?_splice xs vs off j d,List.getElem?_take];simp only [Nat.add_zero];rw [List.getElem?_drop,getElem?_splice cur.toList vs (a+off) (a+j) (by simp;omega),<- htake];simp only [List.getElem?_take,List.getElem?_drop];by_cases b:j < n * size
   ·simp only [if_pos b];by_cases i:j < off
    ·rw [if_pos i,if_pos (by omega)]
    ·rw [if_neg i,if_neg (by omega)];by_cases k:j < off+vs.length
     ·rw [if_pos k,if_pos (by omega),show a+j - (a+off)=j - off by omega]
     ·rw [if_neg k,if_neg (by omega)]
   ·have m : ¬ j < off:=by omega
    have o : ¬ j < off+vs.length:=by omega
    simp only [if_neg b,if_neg m,if_neg o]
def AV.one:AV->Bool
 | .any=>false
 | .d x=>x.one
 | .agg _=>false
 | .tup _=>false
 | _=>true
theorem VRel.one {S:Nat->Prop} {x:AV} {v:Value} (h:VRel w S H x v) (e:x.one=true):v.oneCell'=true:=by
 cases h with
 | any=>simp [AV.one] at e
 | d x v h=>exact h.one e
 | own id v h hs=>rcases hs with ⟨a,n,c,rfl⟩ | ⟨b,rfl⟩<;>rfl
 | agg=>simp [AV.one] at e
 | tup=>simp [AV.one] at e
 | view id sz i n u v h f=>rcases f with ⟨_,rfl,_⟩ | ⟨_,_,_,_,_,_,_,_,rfl,_⟩<;>rfl
 | _=>rfl
def zfl (l:List AV) (k:Nat) (ys:List AV):List AV:=l.take k++ys++l.drop (k+ys.length)
theorem EF.st_ptr {t:TypeId} {x y:Operand} {id k T size bytes:Nat} {dsc:Bool} {z:Value} {cells:List AV} {c:AV} (U:o.dst=none)
  (V:o.op = .store t x y) (W:TI P t dsc size bytes z) (X:σ.ev x=some (.ptr id k)) (O:σ.ent id=some (.box T cells)) (Y:σ.ev y=some c) (Z:c.isAny=false)
  (E:(za6 c).all AV.one=true) (m:(za6 c).length=size) (hk:k+size<=cells.length):
  EF P F σ o (·=σ.put id (some (.box T (zfl cells k (za6 c))))):=by
 intro a w ⟨H,r⟩;have N:=r.ev X;obtain ⟨D,M⟩:=zkK (r.ev Y) Z;obtain ⟨v,R,hr⟩:=r.ent id _ O;generalize hu:a.eval x=u at N;cases N with
 | ptr _ _ b h=>
  rw [R] at h;cases h;cases hr with
  | box _ _ _ e S hs s=>
   have g:∀ v∈(a.eval y).cells.toList,v.oneCell'=true:=by
    intro v N;obtain ⟨j,I,rfl⟩:=List.mem_iff_getElem.1 N;have B:j < (za6 c).length:=by rw [<- D];simpa using I
    have i:=M j B;have h3:(za6 c).getD j default=(za6 c)[j]:=by simp [List.getD_eq_getElem?_getD,B]
    have h4:(a.eval y).cells.getD j undef=(a.eval y).cells.toList[j]:=by
     have:j < (a.eval y).cells.size:=by simpa using I
     simp [this]
    rw [h3,h4] at i;exact i.one (List.all_eq_true.1 E _ (List.getElem_mem B))
   have f:(a.eval y).cells.toList.length=size:=by rw [Array.length_toList,D,m]
   have Q:=run_storeCells_at P b k T (a.eval y).cells.toList 0 e w S (by rw [f,hs];omega) g;have p:(storeVar t ⟨b,k,none⟩ (a.eval y)).run P w = .ok () (w.setRow b (e.toList.take (k+0)++(a.eval y).cells.toList++e.toList.drop (k+0+(a.eval y).cells.toList.length)).toArray):=by
    unfold storeVar;have : ¬ (a.eval y).cells.size≠size:=by rw [D,m];simp
    simp only [Sem.run_bind,W.size,Result.andThen_ok,if_neg this,Q]
   obtain ⟨d,l⟩:∃ n,n=(e.toList.take (k+0)++(a.eval y).cells.toList++e.toList.drop (k+0+(a.eval y).cells.toList.length)).toArray:=⟨_,rfl⟩;rw [<- l] at p;have L:d.size=cells.length:=by
    rw [l];simp only [List.size_toArray,List.length_append,List.length_take,List.length_drop,Array.length_toList] at f ⊢;omega
   have q:(zfl cells k (za6 c)).length=cells.length:=by
    simp only [zfl,List.length_append,List.length_take,List.length_drop,m];omega
   have C:∀ j,j < cells.length->VRel w (Sh F.X σ.ent H w) H ((zfl cells k (za6 c)).getD j default) (d.getD j undef):=by
    intro j J;have e1:(zfl cells k (za6 c)).getD j default=if j < k then cells.getD j default else if j < k+size then (za6 c).getD (j - k) default else cells.getD j default:=by
     simp only [List.getD_eq_getElem?_getD,zfl];rw [getElem?_splice cells (za6 c) k j (by omega),m];by_cases g:j < k
     ·simp only [if_pos g]
     ·by_cases i:j < k+size
      ·simp only [if_neg g,if_pos i]
      ·simp only [if_neg g,if_neg i]
    have e2:d.getD j undef=if j < k then e.getD j undef else if j < k+size then (a.eval y).cells.getD (j - k) undef else e.getD j undef:=by
     have hg:=getElem?_splice e.toList (a.eval y).cells.toList k j (by rw [f,Array.length_toList,hs];omega);rw [l];simp only [Array.getD_eq_getD_getElem?, List.getElem?_toArray,Nat.add_zero];rw [hg,f];by_cases g:j < k
     ·simp only [if_pos g,Array.getElem?_toList]
     ·by_cases i:j < k+size
      ·simp only [if_neg g,if_pos i,Array.getElem?_toList]
      ·simp only [if_neg g,if_neg i,Array.getElem?_toList]
    rw [e1,e2];by_cases g:j < k
    ·simp only [if_pos g];exact s j J
    ·by_cases i:j < k+size
     ·simp only [if_neg g,if_pos i];exact M (j - k) (by omega)
     ·simp only [if_neg g,if_neg i];exact s j J
   have hS:∀ n,Sh F.X σ.ent H w n->Sh F.X σ.ent H w n/\(w.setRow b d).heap[n]? =w.heap[n]? :=
    fun n A=>⟨A,(zmb w b d).block n A.1 fun h=>A.2.2 id _ _ O R (by rw [h];rfl)⟩
   have r1:=r.upd (e' := .box T (zfl cells k (za6 c))) O R (b:=b) rfl (zmb w b d) (.box T _ b d (setRow_heap w b e d T _ S) (by rw [L,q])
    (fun j I=>(C j (by rw [q] at I;exact I)).mono hS (fun _ _ h=>h)))
   refine EF.void (w':=w.setRow b d) (by simp only [execOp,V,Instr.storeAt,hu,Instr.sureAddr,Sem.run_bind,Sem.run_pure,Result.andThen_ok,p]) ⟨_,rfl,H,?_⟩;rw [U];exact r1
end
end Go.Ab
