import Derived.Test.YtajabcfngklacaaAb24n15
set_option linter.unusedVariables false
set_option linter.unusedSimpArgs false
set_option linter.unusedSectionVars false
namespace Go.Ab
open Enc (enc)
section
variable {P:Program} {F:Fr} {ops:Array Oper} {σ:St} {o:Oper} {H:Hd} {a:Act} {w:World} {rest:List (Nat×Oper)} {K:St->Prop}
def zsO (a:Nat->Option (Nat×Nat)):List AV->List (Nat×AV)->Option (List AV)
 | cs,[]=>some cs
 | cs,(i,x)::r=>match a i with
  | none=>none
  | some (off,size)=>bif Nat.beq (za6 x).length size && Nat.ble (off+size) cs.length && !x.isAny then zsO a (zfl cs off (za6 x)) r else none
def zp6 (σ:St):List (Nat×Operand)->List (Nat×AV)->Prop
 | [],xs=>xs=[]
 | (i,o)::r,(j,x)::xs=>i=j/\σ.ev o=some x/\zp6 σ r xs
 | _::_,[]=>False
theorem zxb (off:Nat):∀ (l:List Value) (k:Nat) (C:Array Value),off+k+l.length<=C.size->
  ((l.zipIdx k).foldl (fun cs (c,j)=>cs.setIfInBounds (off+j) c) C).toList=C.toList.take (off+k)++l++C.toList.drop (off+k+l.length)
 | [],k,C,h=>by simp
 | v::l,k,C,h=>by
  simp only [List.length_cons] at h;rw [List.zipIdx_cons,List.foldl_cons,zxb off l (k+1) _ (by simp;omega)];have e:=list_seg_step C.toList (off+k) v l (by simp;omega);simpa [Array.toList_setIfInBounds,Nat.add_assoc,Nat.add_comm 1] using e
theorem zte (r:RelH F σ H a w) (b:Nat->Option (Nat×Nat)):∀ (parts:List (Nat×Operand)) (xs:List (Nat×AV)) (cs cs':List AV) (C:Array Value),zp6 σ parts xs->zsO b cs xs=some cs'->C.size=cs.length->
  (∀ j,j < cs.length->VRel w (Sh F.X σ.ent H w) H (cs.getD j default) (C.getD j undef))->
  ∃ p,Instr.fill b C (parts.map fun x=>(x.1,a.eval x.2))=some p/\p.size=cs'.length/\∀ j,j < cs'.length->VRel w (Sh F.X σ.ent H w) H (cs'.getD j default) (p.getD j undef)
 | [],xs,cs,cs',C,m,hf,hs,hr=>by
  have:xs=[]:=m;subst this;simp only [zsO,Option.some.injEq] at hf;subst hf;exact ⟨C,rfl,hs,hr⟩
 | (i,o)::parts,[],cs,cs',C,m,_,_,_=>m.elim
 | (i,o)::parts,(j,x)::xs,cs,cs',C,m,hf,hs,hr=>by
  obtain ⟨rfl,D,m⟩:=m;simp only [zsO] at hf;cases l:b i with
  | none=>rw [l] at hf;cases hf
  | some q=>
   obtain ⟨off,size⟩:=q;rw [l] at hf;simp only at hf;cases n:(Nat.beq (za6 x).length size && Nat.ble (off+size) cs.length && !x.isAny) with
   | false=>rw [n] at hf;cases hf
   | true=>
    rw [n] at hf;simp only [cond_true] at hf;simp only [Bool.and_eq_true,Bool.not_eq_true'] at n;have e:(za6 x).length=size:=Nat.eq_of_beq_eq_true n.1.1;have z:off+size<=cs.length:=Nat.le_of_ble_eq_true n.1.2;obtain ⟨y,E⟩:=zkK (r.ev D) n.2;have s:(a.eval o).cells.toList.length=size:=by rw [Array.length_toList,y,e]
    have d:=zxb off (a.eval o).cells.toList 0 C (by omega);generalize v:((a.eval o).cells.toList.zipIdx 0).foldl (fun cs (c,j)=>cs.setIfInBounds (off+j) c) C=C2 at d;simp only [Nat.add_zero] at d;have t:C2.size=cs.length:=by
     rw [<- Array.length_toList,d];simp only [List.length_append,List.length_take,List.length_drop,Array.length_toList];rw [y,e];omega
    have h:(zfl cs off (za6 x)).length=cs.length:=by
     simp only [zfl,List.length_append,List.length_take,List.length_drop];omega
    obtain ⟨p,I,J,L⟩:=zte r b parts xs (zfl cs off (za6 x)) cs' C2 m hf (by rw [t,h]) (fun j u=>by
     have A:C2.getD j undef=C2.toList.getD j undef:=by simp [Array.getD_eq_getD_getElem?, List.getD_eq_getElem?_getD]
     rw [A,d];rw [h] at u;simp only [List.getD_eq_getElem?_getD,zfl];rw [getElem?_splice cs (za6 x) off j (by omega),getElem?_splice C.toList (a.eval o).cells.toList off j (by rw [s,Array.length_toList,hs];omega)];rw [s,e];by_cases f:j < off
     ·rw [if_pos f,if_pos f];have:=hr j u;simpa [List.getD_eq_getElem?_getD,Array.getD_eq_getD_getElem?] using this
     ·rw [if_neg f,if_neg f];by_cases g:j < off+size
      ·rw [if_pos g,if_pos g];have:=E (j - off) (by omega);simpa [List.getD_eq_getElem?_getD,Array.getD_eq_getD_getElem?] using this
      ·rw [if_neg g,if_neg g];have:=hr j u;simpa [List.getD_eq_getElem?_getD,Array.getD_eq_getD_getElem?] using this)
    refine ⟨p,?_,J,L⟩;rw [List.map_cons,Instr.fill];simp only [l];have k:((a.eval o).cells.size≠size || off+(a.eval o).cells.size > C.size)=false:=by
     rw [y,e,hs];simp;omega
    have B:(a.eval o).cells.zipIdx.foldl (fun cs (c,j)=>cs.setIfInBounds (off+j) c) C=C2:=by
     rw [<- v,<- Array.foldl_toList,Array.toList_zipIdx]
    rw [k];simp only [Bool.false_eq_true,if_false];rw [B];exact I
theorem RO.build {t:TypeId} {c:Array (Nat×Operand)} {m:Array Field} {b:List (Nat×Nat)} {bytes size:Nat} {dsc:Bool} {d:Array Value} {xs:List (Nat×AV)} {g:List AV}
  (n:o.op = .build t c) (p:P.underlying t=some (.struct m)) (q:TI P t dsc size bytes (.agg d)) (s:m.toList.mapM (fun f=>(P.info? f.type).map fun i=>(f.offset,i.size))=some b)
  (u:zp6 σ c.toList xs) (v:zsO (fun i=>b[i]?) (d.toList.map avc) xs=some g):RO P F σ o (.agg g):=fun H a w r=>by
 obtain ⟨h,B,C,D⟩:=zte r (fun i=>b[i]?) c.toList xs (d.toList.map avc) g d u v (by simp) (fun j k=>by
  have k:j < d.size:=by simpa using k
  have e:(d.toList.map avc).getD j default=avc (d.getD j undef):=by simp [List.getD_eq_getElem?_getD,Array.getD_eq_getD_getElem?, k]
  rw [e];exact zvL w _ H _)
 refine ⟨.agg h,fun w' _ => ?_,.agg g h C D⟩;obtain ⟨it,E,_,_,l⟩:=q.inf;have y:P.built t (c.map fun x=>(x.1,a.eval x.2)).toList=some h:=by
  unfold Program.built;simp only [E,p,l,s];have z:(fun i:Nat=>b.toArray[i]?)=(fun i:Nat=>b[i]?):=by funext i;simp
  have A:(Value.agg d).cells=d:=rfl;rw [z,A,Array.toList_map];exact B
 simp [execOp,n,run_build w' t _ h y]
theorem zy1 {α:Type} [Enc α]:∀ (ys:List α) (i j:Nat) (hi:i < ys.length),j < Enc.sz α->(ys.flatMap fun y=>(enc y).cells).getD (i * Enc.sz α+j) default=(enc ys[i]).cells.getD j default
 | [],i,j,hi,_=>by simp at hi
 | y::ys,0,j,hi,hj=>by
  have:j < (enc y).cells.length:=by rw [Enc.hsz];exact hj
  simp [List.getD_eq_getElem?_getD,List.getElem?_append_left this]
 | y::ys,i+1,j,hi,hj=>by
  have a:=zy1 ys i j (by simpa using hi) hj;have b:(enc y).cells.length=Enc.sz α:=Enc.hsz y;have e:(i+1) * Enc.sz α+j=(enc y).cells.length+(i * Enc.sz α+j):=by rw [b,Nat.add_mul];omega
  rw [List.flatMap_cons,e,List.getD_eq_getElem?_getD,List.getElem?_append_right (by omega)];simpa [List.getD_eq_getElem?_getD] using a
theorem zDg {S:Nat->Prop} {n:Nat} {C:Array Value}:∀ j,j < (List.replicate n AV.any).length->VRel w S H ((List.replicate n AV.any).getD j default) (C.getD j undef):=fun j a=>by
 have:(List.replicate n AV.any).getD j default = .any:=by
  have a:j < n:=by simpa using a
  simp [List.getD_eq_getElem?_getD,a]
 rw [this];exact .any _
theorem AL.litsN {t e:TypeId} {n bs size:Nat} {b:Array (Nat×Operand)} {dsc:Bool} {bytes:Nat} {z:Value} {α:Type} [Enc α] {ys:List α} {xs:List (Nat×AV)} {d:Nat} (id:Nat) (N:σ.nxt=id) (O:Nat.blt id LIM=true) (hd:o.dst=some d) (v:Nat.blt d σ.n=true)
  (ho:o.op = .buildSlice t n b) (X:P.underlying t=some (.slice e)) (Q:TI P e dsc size bytes z) (s:Enc.sz α=size) (m:Nat.blt 0 size=true)
  (hp:zp6 σ b.toList xs) (Y:zsO (fun i=>some (i * size,size)) (List.replicate (n * size) .any) xs=some ((ys.flatMap fun y=>(enc y).cells).map .d)) (M:n=ys.length)
  (R:Enc.bts α=bs) (c:Nat.ble (n * bs) most=true) (A:Nat.ble (n * size) 16777216=true):
  AL P F σ o (·=(σ.new (Ent.arrOf e ys)).set d (.own id)):=by
 have g:ys.length * Enc.bts α<=most:=by rw [R,<- M];exact Nat.le_of_ble_eq_true c
 have Z:n * size<=16777216:=Nat.le_of_ble_eq_true A;have m:0 < size:=by simpa using m
 subst N;intro a w ⟨H,r⟩;have O:σ.nxt < LIM:=by simpa using O
 have p:(ys.flatMap fun y=>(enc y).cells).length=n * size:=by
  rw [M,<- s];clear Y M g c;induction ys with
  | nil=>simp
  | cons y ys ih=>rw [List.flatMap_cons,List.length_append,ih,Enc.hsz,List.length_cons,Nat.add_mul];omega
 have C:∀ zc:Array Value,∃ f,Instr.fill (fun i=>some (i * size,size)) ((Array.range (n * size)).map (fun j=>zc[j % zc.size]!)) (b.toList.map fun x=>(x.1,a.eval x.2))=some f/\f.size=n * size/\
   ∀ i,i < n->∀ j,j < size->DRel w (Sh F.X σ.ent H w) (((ys.map (enc:α->D)).getD i default).cells.getD j default) (f.getD (i * size+j) undef):=by
  intro zc;obtain ⟨f,E,I,J⟩:=zte r (fun i=>some (i * size,size)) b.toList xs (List.replicate (n * size) .any) _ ((Array.range (n * size)).map (fun j=>zc[j % zc.size]!)) hp Y (by simp) zDg;refine ⟨f,E,by rw [I,List.length_map,p],fun i B j S => ?_⟩;have v:i * size+j < n * size:=by
   have T:i * size+j < (i+1) * size:=by rw [Nat.add_mul];omega
   have U:(i+1) * size<=n * size:=Nat.mul_le_mul_right _ B;omega
  have T:=J (i * size+j) (by rw [List.length_map,p];exact v);have U:=zy1 ys i j (by omega) (by omega);rw [s] at U;have h3:((ys.flatMap fun y=>(enc y).cells).map AV.d).getD (i * size+j) default = .d ((enc (ys[i]'(by omega))).cells.getD j default):=by
   rw [<- U];have:i * size+j < (ys.flatMap fun y=>(enc y).cells).length:=by omega
   simp only [List.getD_eq_getElem?_getD,List.getElem?_map];rw [List.getElem?_eq_getElem this];rfl
  rw [h3] at T;have h4:(ys.map (enc:α->D)).getD i default=enc (ys[i]'(by omega)):=by
   have:i < ys.length:=by omega
   simp [List.getD_eq_getElem?_getD,this]
  rw [h4];cases T with
  | d _ _ h=>exact h
 have q:∃ f:Array Value,(Instr.buildSlice t n (b.map fun (i,x)=>(i,a.eval x))).run P w = .ok (.slice (some ⟨w.heap.size,0,none⟩) n n) (w.alloc (.cells f e))/\f.size=n * size/\
   ∀ i,i < n->∀ j,j < size->DRel w (Sh F.X σ.ent H w) (((ys.map (enc:α->D)).getD i default).cells.getD j default) (f.getD (i * size+j) undef):=by
  have u : ¬ (n * size > 2 ^ 24):=by omega
  have k:(b.map fun (i,x)=>(i,a.eval x)).toList=b.toList.map fun x=>(x.1,a.eval x.2):=by simp
  by_cases h0:n * size=0
  ·obtain ⟨f,E,I,J⟩:=C #[];refine ⟨f,?_,I,J⟩;simp only [Instr.buildSlice,Sem.run_bind,run_underlying X,Result.andThen_ok,Q.size,if_neg u,if_pos h0,Sem.run_pure,k,E];rfl
  ·obtain ⟨f,E,I,J⟩:=C z.cells;refine ⟨f,?_,I,J⟩;simp only [Instr.buildSlice,Sem.run_bind,run_underlying X,Result.andThen_ok,Q.size,if_neg u,if_neg h0,Q.zero,Sem.run_pure,k,E];rfl
 obtain ⟨f,q,hC,L⟩:=q;have hle:n<=n * size:=Nat.le_mul_of_pos_right _ m;have V:(ys.map (enc:α->D)).length=n:=by simp [M]
 have r':=r.newArr O e (Enc.sz α) (Enc.bts α) (cs:=f) (l:=ys.map enc) (cap:=n) (by omega) (by rw [s];exact hC) (by omega) (by simp only [maxLen];omega) (by simpa using g)
  (fun i B=>by
   have B:i < ys.length:=by simpa using B
   simp [List.getD_eq_getElem?_getD,B,Enc.hsz])
  (fun i B j S=>by
   rw [s] at S ⊢;exact L i (by omega) j S)
 have W:=r'.set (d:=d) (show d < σ.n by simpa using v) (.own σ.nxt _ (Hd.add_new _ _ _) (.inl ⟨_,_,_,rfl⟩));rw [<- hd] at W;rw [V] at W;exact AL.value (by simp [execOp,ho,q]) (Ext.alloc w _) ⟨_,rfl,_,W⟩
def zt7:List AV->List D->Prop
 | [],ds=>ds=[]
 | x::xs,d::ds=>(x = .d d\/(x = .nil/\∃ b,d = .sl b []))/\zt7 xs ds
 | _::_,[]=>False
theorem zqT:∀ {xs:List AV} {ds:List D},zt7 xs ds->xs.length=ds.length/\∀ i,i < ds.length->(xs.getD i default = .d (ds.getD i default)\/(xs.getD i default = .nil/\∃ b,ds.getD i default = .sl b []))
 | [],ds,h=>by
  have:ds=[]:=h;subst this;exact ⟨rfl,by simp⟩
 | x::xs,d::ds,h=>by
  obtain ⟨c,e⟩:=h;obtain ⟨f,g⟩:=zqT e;refine ⟨by simp [f],fun i a => ?_⟩;cases i with
  | zero=>exact c
  | succ i=>simpa using g i (by simpa using a)
 | _::_,[],h=>h.elim
theorem VRel.packn {S:Nat->Prop} {xs:List AV} {ds:List D} {v:Value} (h:VRel w S H (.agg xs) v) (c:zt7 xs ds):VRel w S H (.d (.agg ds)) v:=by
 obtain ⟨g,f⟩:=zqT c;cases h with
 | agg _ arr hs h=>
  refine .d _ _ (.agg ds arr (by omega) fun i e => ?_);have a:=h i (by omega);rcases f i e with h2 | ⟨h2,b,h3⟩
  ·rw [h2] at a;cases a with
   | d _ _ h=>exact h
  ·rw [h2] at a;rw [h3];generalize arr.getD i undef=u at a ⊢;cases a;exact .nil _ _ _ (by simp [maxLen]) (fun _=>rfl)
theorem RelH.boxpack (r:RelH F σ H a w) {id:Nat} {T:TypeId} {xs:List AV} {ds:List D} (n:σ.ent id=some (.box T xs)) (A:zt7 xs ds):RelH F (σ.put id (some (.box T (ds.map .d)))) H a w:=by
 obtain ⟨C,o⟩:=zqT A;obtain ⟨v,x,E⟩:=r.ent id _ n;cases E with
 | box _ _ b i p hs k=>
  refine r.upd n x (b:=b) rfl ?_ (.box T _ b i p (by simp;omega) fun j m => ?_)
  ·exact { os:=rfl,tape:=rfl,output:=rfl,size:=Nat.le_refl _,block:=fun _ _ _=>rfl }
  ·have m:j < ds.length:=by simpa using m
   have c:=k j (by omega);have e:(ds.map AV.d).getD j default = .d (ds.getD j default):=by simp [List.getD_eq_getElem?_getD,m]
   rw [e];rcases o j m with l | ⟨l,q,h3⟩
   ·rw [l] at c;exact c
   ·rw [l] at c;rw [h3];generalize i.getD j undef=u at c ⊢;cases c;exact .d _ _ (.nil _ _ _ (by simp [maxLen]) (fun _=>rfl))
 | mp _ y z ks vs b I d p c l J L M=>
  obtain ⟨f,g,rfl⟩:∃ f g,ds=[f,g]:=by
   match ds,C with
   | [f,g],_=>exact ⟨f,g,rfl⟩
  have s:=o 0 (by simp);have t:=o 1 (by simp);simp only [List.getD_cons_zero,List.getD_cons_succ] at s t;have e0:D.sl y ks=f:=by rcases s with h | ⟨h,_⟩<;>cases h;rfl
  have B:D.sl z vs=g:=by rcases t with h | ⟨h,_⟩<;>cases h;rfl
  subst e0;subst B;refine r.upd n x (b:=b) rfl ?_ (.mp T y z ks vs b I d p c l J L M);exact { os:=rfl,tape:=rfl,output:=rfl,size:=Nat.le_refl _,block:=fun _ _ _=>rfl }
theorem RelH.frozen (r:RelH F σ H a w) {id:Nat} {E sz bts:Nat} {l:List D} (q:σ.ent id=some (.arr E sz bts l)):∃ v,H id=some v/\DRel w (Sh F.X (σ.put id none).ent H w) (.sl bts l) v:=by
 obtain ⟨v,z,I⟩:=r.ent id _ q;refine ⟨v,z,?_⟩;have s:∀ b,blk v=some b->b < w.heap.size:=fun b k=>I.lt k
 have M:∀ c,Sh F.X σ.ent H w c->Sh F.X (σ.put id none).ent H w c/\w.heap[c]? =w.heap[c]? :=by
  intro c ⟨hc,hx,ho⟩;refine ⟨⟨hc,hx,fun j x u d m => ?_⟩,rfl⟩;rw [St.ent_put] at d;by_cases e:id=j
  ·rw [if_pos e] at d;cases d
  ·rw [if_neg e] at d;exact ho j x u d m
 have t:∀ b,blk v=some b->Sh F.X (σ.put id none).ent H w b:=by
  intro b k;refine ⟨s b k,(r.own id _ v b q z k).2,fun j x u d m J => ?_⟩;rw [St.ent_put] at d;by_cases e:id=j
  ·rw [if_pos e] at d;cases d
  ·rw [if_neg e] at d;exact e (r.inj id j _ x v u b q d z m k J)
 cases I with
 | arr _ _ _ _ _ xs A f B C o=>
  have h:=f;obtain ⟨N,m⟩:=f;rcases m with ⟨rfl,p⟩ | ⟨g,off,cap,cur,rfl,hh,hnc,hcm,hcsz,htake⟩
  ·have:l=[]:=List.length_eq_zero_iff.1 p;subst this;exact .nil _ _ _ (by simp [maxLen]) (fun _=>rfl)
  ·by_cases p:l=[]
   ·subst p;exact .nil _ _ _ hcm (by simp)
   ·have n:0 < l.length:=List.length_pos_iff.2 p;refine .sl _ _ g off cap sz (fun j=>xs.getD j undef) n A (t g rfl) hnc hcm B C (fun j e => ?_) (fun i L j e=>(o i L j e).mono M);have y:j < xs.length:=by omega
    exact h.cell j _ (by simp [List.getD_eq_getElem?_getD,y])
theorem RelH.boxfreeze (r:RelH F σ H a w) {id id2 j:Nat} {T:TypeId} {E sz bts:Nat} {xs:List AV} {l:List D} (x:σ.ent id=some (.box T xs)) (c:xs[j]? =some (.own id2)) (n:σ.ent id2=some (.arr E sz bts l)) (o:Nat.beq id2 id=false):
  RelH F ((σ.put id2 none).put id (some (.box T (xs.set j (.d (.sl bts l)))))) H a w:=by
 have d:id2≠id:=Nat.ne_of_beq_eq_false o;obtain ⟨I,s,z⟩:=r.frozen n;have t:=r.drop id2;have e:(σ.put id2 none).ent id=some (.box T xs):=by rw [St.ent_put,if_neg d];exact x
 obtain ⟨v,A,B⟩:=t.ent id _ e;cases B with
 | box _ _ b g C hs i=>
  refine t.upd e A (b:=b) rfl ?_ (.box T _ b g C (by simpa using hs) fun q k => ?_)
  ·exact { os:=rfl,tape:=rfl,output:=rfl,size:=Nat.le_refl _,block:=fun _ _ _=>rfl }
  ·have k:q < xs.length:=by simpa using k
   have m:=i q k;by_cases f:j=q
   ·subst f;have y:xs.getD j default = .own id2:=by rw [List.getD_eq_getElem?_getD,c];rfl
    have p:(xs.set j (.d (.sl bts l))).getD j default = .d (.sl bts l):=by simp [List.getD_eq_getElem?_getD,k]
    rw [y] at m;rw [p];generalize g.getD j undef=u at m ⊢;cases m with
    | own _ _ h _=>rw [s] at h;cases h;exact .d _ _ z
   ·have p:(xs.set j (.d (.sl bts l))).getD q default=xs.getD q default:=by simp [List.getD_eq_getElem?_getD,List.getElem?_set_ne f]
    rw [p];exact m
 | mp=>
  exfalso
  match j,c with
  | 0,c=>cases c
  | 1,c=>cases c
  | q+2,c=>simp at c
def zvn (σ:St) (id:Nat):List Nat->Bool
 | []=>true
 | k::ks=>(match σ.get k with | some (.own i)=>Nat.beq i id | _=>false) && zvn σ id ks
theorem zvo {id:Nat}:∀ {ks:List Nat},zvn σ id ks=true->∀ k∈ks,σ.get k=some (.own id)
 | [],_,k,h=>by cases h
 | k'::ks,hk,k,h=>by
  simp only [zvn,Bool.and_eq_true] at hk;rcases List.mem_cons.1 h with rfl | h
  ·have a:=hk.1;cases b:σ.get k with
   | none=>rw [b] at a;simp at a
   | some y=>
    rw [b] at a
    match y,a with
    | .own i,a=>have:=Nat.eq_of_beq_eq_true a;subst this;rfl
  ·exact zvo hk.2 k h
theorem RelH.freezeA (r:RelH F σ H a w) {id:Nat} {E sz bts:Nat} {l:List D} (ks:List Nat) (d:zvn σ id ks=true) (e:σ.ent id=some (.arr E sz bts l)):RelH F ((σ.put id none).setAll ks (.d (.sl bts l))) H a w:=by
 obtain ⟨v,f,g⟩:=r.frozen e;refine zla _ ks _ (r.drop id) (fun k b => ?_);have c:=r.slot k _ (zvo d k b);generalize a.tmps.getD k undef=u at c;cases c with
 | own _ _ h _=>rw [f] at h;cases h;exact .d _ _ g
end
end Go.Ab
