import Derived.Test.YtajabcfngklacaaAb24n5
set_option linter.unusedVariables false
set_option linter.unusedSimpArgs false
set_option linter.unusedSectionVars false
namespace Go.Ab
open Enc (enc)
open Go.RowKit (Below)
def zEI (σ:St):List (Nat×Operand)->Nat->List D->Prop
 | [],_,ds=>ds=[]
 | (i,o)::r,k,d::ds=>i=k/\σ.ev o=some (.d d)/\zEI σ r (k+1) ds
 | _::_,_,[]=>False
inductive ZR:D->Value->Prop
 | lit (v:Value) (h:v.oneCell'=true):ZR (.lit v) v
 | nil (bts:Nat):ZR (.sl bts []) (.slice none 0 0)
theorem ZR.rel {d:D} {v:Value} (h:ZR d v) (w:World) (S:Nat->Prop):DRel w S d v:=by
 cases h with
 | lit v h=>exact .lit v h
 | nil bts=>exact .nil _ _ _ (by simp [maxLen]) (fun _=>rfl)
def ZRs:List D->List Value->Prop
 | [],[]=>True
 | d::ds,v::vs=>ZR d v/\ZRs ds vs
 | _,_=>False
theorem ZRs.rel (w:World) (S:Nat->Prop):∀ {ds:List D} {vs:List Value},ZRs ds vs->ds.length=vs.length/\∀ i,i < ds.length->DRel w S (ds.getD i default) (vs.getD i undef)
 | [],[],_=>⟨rfl,fun i a=>by simp at a⟩
 | d::ds,v::vs,h=>by
  obtain ⟨b,c⟩:=ZRs.rel w S h.2;refine ⟨by simp [b],fun i a => ?_⟩;cases i with
  | zero=>exact h.1.rel w S
  | succ i=>simpa using c i (by simpa using a)
section
variable {P:Program} {F:Fr} {ops:Array Oper} {σ:St} {K:St->Prop} {o:Oper} {rest:List (Nat×Oper)} {H:Hd} {a:Act} {w:World}
theorem zCf (c:Nat->Option (Nat×Nat)) (a:∀ i,c i=some (i,1)):∀ (vs:List Value) (k:Nat) (parts:List (Nat×Value)) (C:Array Value),parts=(vs.zipIdx k).map (fun x=>(x.2,x.1))->(∀ v∈vs,v.oneCell'=true)->k+vs.length<=C.size->
  ∃ b,Instr.fill c C parts=some b/\b.toList=C.toList.take k++vs++C.toList.drop (k+vs.length)
 | [],k,parts,C,hp,_,_=>by
  subst hp;exact ⟨C,rfl,by simp⟩
 | v::vs,k,parts,C,hp,h1,hl=>by
  subst hp;have f:v.cells=#[v]:=by have:=h1 v (by simp);cases v<;>first | rfl | (simp [Value.oneCell'] at this)
  simp only [List.length_cons] at hl;have g : ¬ (k+1 > C.size):=by omega
  obtain ⟨b,h,j⟩:=zCf c a vs (k+1) _ (C.setIfInBounds k v) rfl (fun u d=>h1 u (by simp [d])) (by simp;omega);refine ⟨b,?_,?_⟩
  ·rw [List.zipIdx_cons,List.map_cons,Instr.fill];simp only [a,f,List.size_toArray,List.length_cons,List.length_nil,ne_eq,not_true_eq_false,decide_false,Bool.false_or,Nat.zero_add];rw [if_neg (by simpa using g)];exact h
  ·rw [j];have e:=list_seg_step C.toList k v vs (by simp;omega);simpa [Array.toList_setIfInBounds,Nat.add_assoc,Nat.add_comm 1] using e
theorem zz4 (r:RelH F σ H a w):∀ (parts:List (Nat×Operand)) (k:Nat) (ds:List D),zEI σ parts k ds->(∀ d∈ds,∀ l,d ≠ .agg l)->
  ∃ vs:List Value,parts.map (fun x=>(x.1,a.eval x.2))=(vs.zipIdx k).map (fun x=>(x.2,x.1))/\vs.length=ds.length/\(∀ v∈vs,v.oneCell'=true)/\
   ∀ i,i < ds.length->DRel w (Sh F.X σ.ent H w) (ds.getD i default) (vs.getD i undef)
 | [],k,ds,h,_=>by
  have:ds=[]:=h;subst this;exact ⟨[],rfl,rfl,by simp,by simp⟩
 | (i,x)::parts,k,[],h,_=>h.elim
 | (i,x)::parts,k,d::ds,h,hd=>by
  obtain ⟨rfl,m,n⟩:=h;obtain ⟨vs,o,p,q,s⟩:=zz4 r parts (i+1) ds n (fun f e=>hd f (by simp [e]));have c:=r.ev m;have b:DRel w (Sh F.X σ.ent H w) d (a.eval x):=by cases c with | d _ _ h=>exact h
  refine ⟨a.eval x::vs,by rw [List.map_cons,o,List.zipIdx_cons,List.map_cons],by simp [p],fun v c => ?_,fun j g => ?_⟩
  ·rcases List.mem_cons.1 c with rfl | c
   ·exact b.oneCell.2 (hd d (by simp))
   ·exact q v c
  ·cases j with
   | zero=>exact b
   | succ j=>simpa using s j (by simpa using g)
theorem AL.make {t e:TypeId} {x y:Operand} {m c:Int} {dsc:Bool} {size bytes:Nat} {z:Value} {α:Type} [Enc α] {z0:α} {d:Nat} (id:Nat) (s:σ.nxt=id) (u:Nat.blt id LIM=true) (R:o.dst=some d) (v:Nat.blt d σ.n=true)
  (S:o.op = .makeSlice t x y) (T:P.underlying t=some (.slice e)) (U:TI P e dsc size bytes z) (b:Enc.sz α=size) (A:Enc.bts α=bytes) (N:0 < size)
  (V:σ.ev x=some (.d (.lit (.int .i64 m)))) (W:σ.ev y=some (.d (.lit (.int .i64 c)))) (O:ZRs (enc z0).cells z.cells.toList)
  (X:0<=m) (Q:m<=c) (h2:c * bytes<=140737488355328) (Y:c<=9223372036854775807):
  AL P F σ o (·=(σ.new (Ent.arrOf e (List.replicate m.toNat z0))).set d (.own id)):=by
 subst s;intro a w ⟨H,r⟩;have u:σ.nxt < LIM:=by simpa using u
 obtain ⟨i,f,hs,hb,M⟩:=U.inf;have g:=run_make (P:=P) w t e i z T f M .i64 .i64 m c X Q (by rw [hb,Int.mul_comm];omega) Y;rw [hs] at g;have C:=(O.rel w (Sh F.X σ.ent H w)).1;have E:z.cells.size=size:=by
  have:=Enc.hsz z0;rw [C] at this;simpa [b] using this
 have k:m.toNat * bytes<=most:=by
  have h4:m * bytes<=c * bytes:=Int.mul_le_mul_of_nonneg_right Q (by omega);obtain ⟨B,rfl⟩:∃ B:Nat,m=B:=⟨m.toNat,by omega⟩;have h5:((B * bytes:Nat):Int)<=140737488355328:=by rw [Int.natCast_mul];omega
  rw [Int.toNat_natCast];unfold most;omega
 have r':=r.newArr u e (Enc.sz α) (Enc.bts α) (cs:=madeCells z.cells (c.toNat * size)) (l:=(List.replicate m.toNat z0).map enc) (cap:=c.toNat) (by omega) (by rw [size_madeCells,b]) (by simp;omega) (by simp only [maxLen];omega) (by simpa [A] using k)
  (fun i f=>by
   have f:i < m.toNat:=by simpa using f
   simp [List.getD_eq_getElem?_getD,f,Enc.hsz])
  (fun i f j Z=>by
   have f:i < m.toNat:=by simpa using f
   have I:((List.replicate m.toNat z0).map enc).getD i default=enc z0:=by simp [List.getD_eq_getElem?_getD,f]
   rw [I];have n:i * Enc.sz α+j < c.toNat * size:=by
    have h5:i * Enc.sz α+j < (i+1) * Enc.sz α:=by rw [Nat.add_mul];omega
    have h6:(i+1) * Enc.sz α<=c.toNat * Enc.sz α:=Nat.mul_le_mul_right _ (by omega);rw [<- b];omega
   have p:(i * Enc.sz α+j) % size=j:=by rw [b,Nat.add_comm,Nat.add_mul_mod_self_right,Nat.mod_eq_of_lt (by omega)]
   have q:j < z.cells.size:=by omega
   have h:(madeCells z.cells (c.toNat * size)).getD (i * Enc.sz α+j) undef=z.cells.getD j undef:=by
    simp [madeCells,n,E,p];rw [getElem!_pos z.cells j q,Array.getElem?_eq_getElem q];rfl
   rw [h];have:=(O.rel w (Sh F.X σ.ent H w)).2 j (by rw [Enc.hsz];exact Z);have h7:z.cells.toList.getD j undef=z.cells.getD j undef:=by simp [List.getD_eq_getElem?_getD]
   rwa [h7] at this)
 have J:=r'.set (d:=d) (show d < σ.n by simpa using v) (.own σ.nxt _ (Hd.add_new _ _ _) (.inl ⟨_,_,_,rfl⟩));rw [<- R] at J;have L:((List.replicate m.toNat z0).map (enc:α->D)).length=m.toNat:=by simp
 rw [L] at J;exact AL.value (by simp [execOp,S,r.lit V,r.lit W,g]) (Ext.alloc w _) ⟨_,rfl,_,J⟩
def Src (σ:St) (x:Operand) {α:Type} [Enc α] (ys:List α):Prop:=
 σ.ev x=some (.d (enc ys))\/(∃ id E,σ.ev x=some (.own id)/\σ.ent id=some (Ent.arrOf E ys))\/(σ.ev x=some .nil/\ys=[])\/
  ∃ id E i n,∃ xs:List α,σ.ev x=some (.view id (Enc.sz α) i n)/\σ.ent id=some (Ent.arrOf E xs)/\ys=(xs.drop i).take n/\i+n<=xs.length
theorem Src.cells {x:Operand} {α:Type} [Enc α] {ys:List α} (h:Src σ x ys) (r:RelH F σ H a w):∃ (p:Option Addr) (c:Nat) (news:List Value),a.eval x = .slice p ys.length c/\news.length=ys.length * Enc.sz α/\
  (∀ j u,news[j]? =some u->∃ b off,p=some ⟨b,off,none⟩/\w.cell? ⟨b,off+j,none⟩=some u)/\
  (∀ i,i < ys.length->∀ j,j < Enc.sz α->DRel w (Sh F.X σ.ent H w) (((ys.map enc).getD i default).cells.getD j default) (news.getD (i * Enc.sz α+j) undef))/\(p=none->c=0):=by
 rcases h with h | ⟨id,E,h,he⟩ | ⟨h,rfl⟩ | ⟨id,E,i0,n0,zs,h,he,rfl,hin⟩
 ·have l:=r.ev h;generalize a.eval x=u at l;cases l with
  | d _ _ P=>
   generalize A:(enc ys:D)=D0 at P;cases P with
   | lit=>cases A
   | ptr=>cases A
   | agg=>cases A
   | nil bts p c S T=>
    injection A with h1 h2
    have:ys=[]:=by simpa using h2
    subst this;exact ⟨p,c,[],rfl,by simp,by simp,by simp,T⟩
   | sl bts X b off c sz f I B Y S Z C q s g=>
    injection A with h1 h2
    subst h2;have m:(ys.map (enc:α->D)).length=ys.length:=by simp
    have y:0 < ys.length:=by simpa using I
    have o:sz=Enc.sz α:=by
     rw [<- q 0 I];have:(ys.map (enc:α->D)).getD 0 default=enc ys[0]:=by simp [List.getD_eq_getElem?_getD,y]
     rw [this,Enc.hsz]
    subst o;refine ⟨_,c,(List.range (ys.length * Enc.sz α)).map f,by rw [m],by simp,fun j u k => ?_,fun i t j k => ?_,by simp⟩
    ·have n:j < ys.length * Enc.sz α:=by
      have:=(List.getElem?_eq_some_iff.1 k).1;simpa using this
     refine ⟨b,off,rfl,?_⟩;rw [s j (by simpa using n)];simpa [n] using k
    ·have J:i * Enc.sz α+j < ys.length * Enc.sz α:=by
      have V:i * Enc.sz α+j < (i+1) * Enc.sz α:=by rw [Nat.add_mul];omega
      have W:(i+1) * Enc.sz α<=ys.length * Enc.sz α:=Nat.mul_le_mul_right _ (by omega);omega
     have:=g i (by simpa using t) j k;simpa [List.getD_eq_getElem?_getD,J] using this
 ·have l:=r.ev h;obtain ⟨v,N,O⟩:=r.ent id _ he;generalize a.eval x=u at l;cases l with
  | own _ _ h' _=>
   rw [N] at h';cases h';cases O with
   | arr _ _ _ _ _ xs B e C q g=>
    have z:xs.length=ys.length * Enc.sz α:=by have:=e.1;simpa using this
    rcases e.form with ⟨rfl,I⟩ | ⟨b,off,c,rfl⟩
    ·have:ys=[]:=by simpa using I
     subst this;exact ⟨none,0,[],rfl,by simp,by simp,by simp,fun _=>rfl⟩
    ·exact ⟨some ⟨b,off,none⟩,c,xs,by simp,z,fun j u k=>⟨b,off,rfl,e.cell j u k⟩,fun i t j k=>g i (by simpa using t) j k,by simp⟩
 ·have l:=r.ev h;generalize a.eval x=u at l;cases l;exact ⟨none,0,[],rfl,by simp,by simp,by simp,fun _=>rfl⟩
 ·have l:=r.ev h;obtain ⟨v,N,O⟩:=r.ent id _ he;have m:((zs.drop i0).take n0).length=n0:=by rw [List.length_take,List.length_drop];omega
  generalize a.eval x=u at l;cases l with
  | view _ _ _ _ u0 _ h' U=>
   rw [N] at h';cases h';cases O with
   | arr _ _ _ _ _ xs B e C q g=>
    have z:xs.length=zs.length * Enc.sz α:=by have:=e.1;simpa using this
    rw [m];rcases U with ⟨_,rfl,_,rfl⟩ | ⟨b,o0,n1,c0,c,p,rfl,h1,rfl,h2,h3,h4⟩
    ·exact ⟨none,0,[],rfl,by simp,by simp,by omega,fun _=>rfl⟩
    ·have L:(i0+n0) * Enc.sz α<=zs.length * Enc.sz α:=Nat.mul_le_mul_right _ hin;rw [Nat.add_mul] at L;refine ⟨some p,c,(xs.drop (i0 * Enc.sz α)).take (n0 * Enc.sz α),rfl,by rw [List.length_take,List.length_drop];omega,fun j u k => ?_,fun i t j k => ?_,by simp⟩
     ·have n:j < n0 * Enc.sz α:=by
       have:=(List.getElem?_eq_some_iff.1 k).1;rw [List.length_take] at this;omega
      have M:0 < n0:=Nat.pos_of_ne_zero fun h=>by rw [h,Nat.zero_mul] at n;omega
      rw [List.getElem?_take_of_lt n,List.getElem?_drop] at k;exact ⟨b,o0+i0 * Enc.sz α,by rw [h4 M],by rw [Nat.add_assoc];exact e.cell _ u k⟩
     ·have Q:(i+1) * Enc.sz α<=n0 * Enc.sz α:=Nat.mul_le_mul_right _ t;rw [Nat.add_mul] at Q;have:=g (i0+i) (by rw [List.length_map];omega) j k;have R:(i0+i) * Enc.sz α+j=i0 * Enc.sz α+(i * Enc.sz α+j):=by rw [Nat.add_mul];omega
      rw [R] at this;simp only [List.getD_eq_getElem?_getD,List.getElem?_map] at this ⊢;rw [List.getElem?_take_of_lt t,List.getElem?_drop,List.getElem?_take_of_lt (by omega),List.getElem?_drop];exact this
theorem zsi {w:World} {base E size n:Nat} {v:Value} {xs:List Value} (h:w.ownsRow base E size v n xs):(v = .slice none 0 0/\n=0)\/∃ b c,v = .slice (some ⟨b,0,none⟩) n c:=by
 obtain ⟨_,a⟩:=h;rcases a with ⟨rfl,rfl⟩ | ⟨g,cap,cur,rfl,_⟩
 ·exact .inl ⟨rfl,rfl⟩
 ·exact .inr ⟨g,cap,rfl⟩
theorem zuw (P:Program) (t D e:TypeId) (i:TypeInfo) (z:Value) (size bytes:Nat) (E:P.underlying t=some (.slice e)) (F:P.info? e=some i) (S:i.zero=some z)
  (f:i.size=size) (A:i.bytes=bytes) (L:z.cells.size=size) (M:0 < size)
  (v:Value) (n:Nat) (xs:List Value) (k:w.ownsRow 0 e size v n xs)
  (T:Option Addr) (m c:Nat) (d:List Value) (x:d.length=m * size) (s:∀ j u,d[j]? =some u->∃ b off,T=some ⟨b,off,none⟩/\w.cell? ⟨b,off+j,none⟩=some u) (h1:∀ u∈d,u.oneCell'=true)
  (B:n+m<=maxLen) (l:(n+m) * bytes<=140737488355328) (N:T=none->m=0/\c=0):
  ∃ H w',(Builtin.append_ #[t,t] D #[v,.slice T m c]).run P w = .ok H w'/\w'.ownsRow 0 e size H (n+m) (xs++d)/\w.grownBy w' v.ownBlock/\(∀ b,H.ownBlock=some b->v.ownBlock=some b\/w.heap.size<=b):=by
 cases T with
 | none=>
  obtain ⟨rfl,rfl⟩:=N rfl;have V:d=[]:=List.eq_nil_of_length_eq_zero (by simpa using x);subst V;have C:=run_append_owned_none (P:=P) (w:=w) 0 t D e i size E F v n xs k;refine ⟨v,w,C,by simpa using k,⟨rfl,rfl,rfl,Nat.le_refl _,fun _ _ _=>rfl⟩,fun b y => .inl y⟩
 | some a0=>
  by_cases W:d=[]
  ·subst W;have O:m=0:=by
    simp only [List.length_nil] at x;rcases Nat.mul_eq_zero.1 x.symm with h | h
    ·exact h
    ·omega
   subst O;obtain ⟨H,w',r,J,X,h5⟩:=run_append_own (P:=P) w 0 t D e i z size bytes E F S f A L M v n xs k a0 0 c [] (by simp) (by simp) (by simp) B l (Nat.zero_le _);refine ⟨H,w',r,J,X,?_⟩;intro b y;rcases zsi k with ⟨rfl,Y⟩ | ⟨g,cap,rfl⟩
   ·have:=h5.2 ⟨rfl,rfl⟩;subst this;simp [Value.ownBlock] at y
   ·-- nothing appended: there was room
    left;obtain ⟨_,Q⟩:=k;rcases Q with ⟨h,_⟩ | ⟨g',cap',cur,h,_,hg,hnc,_⟩
    ·cases h
    ·cases h;have p:n+0<=cap:=by omega
     have C:=run_append_room (P:=P) w t D e i E F g n cap cur hg a0 0 c [] (by simp) (by simp) (by simp) p (by
      rename_i U;rw [f];simp only [List.length_nil,Nat.add_zero];rw [U.2.1];exact Nat.mul_le_mul_right _ hnc)
     rw [C] at r;cases r;exact y
  ·obtain ⟨R,q,Z,_⟩:=s 0 (d[0]'(List.length_pos_iff.2 W)) (by simp);cases Z;have o:∀ j u,d[j]? =some u->w.cell? ((⟨R,q,none⟩:Addr).add j)=some u:=by
    intro j u hj;obtain ⟨b,off,r,J⟩:=s j u hj;cases r;rw [zgJ];exact J
   obtain ⟨H,w',r,J,X,h5⟩:=run_append_own (P:=P) w 0 t D e i z size bytes E F S f A L M v n xs k ⟨R,q,none⟩ m c d x o h1 B l (Nat.zero_le _);refine ⟨H,w',r,J,X,?_⟩;intro b y;rcases zsi k with ⟨rfl,Y⟩ | ⟨g,cap,rfl⟩
   ·-- from nil: a new block
    right;obtain ⟨hx1,Q⟩:=J;rcases Q with ⟨rfl,_⟩ | ⟨g',cap',cur,rfl,_,hg,_⟩
    ·simp [Value.ownBlock] at y
    ·simp [Value.ownBlock] at y;subst y;have hxs:xs=[]:=by
      have:=k.1;subst Y;simpa using this
     subst Y;have O:m≠0:=by
      intro h;subst h;simp at x;exact W x
     have C:=run_append_nil (P:=P) w t D e i z E F S ⟨R,q,none⟩ m c d (by rw [f];exact x) o (by omega) (by simp only [maxLen] at B;omega) (by rw [A];simp only [Nat.zero_add] at l;omega);rw [C] at r;simp only [Result.ok.injEq,Value.slice.injEq,Option.some.injEq,Addr.mk.injEq] at r;omega
   ·by_cases p:n+m<=cap
    ·left;obtain ⟨_,Q⟩:=k;rcases Q with ⟨h,_⟩ | ⟨g',cap',cur,h,_,hg,hnc,hcm,hcsz,_⟩
     ·cases h
     ·cases h;have C:=run_append_room (P:=P) w t D e i E F g n cap cur hg ⟨R,q,none⟩ m c d (by rw [f];exact x) o h1 p (by
       rw [f,x,hcsz,<- Nat.add_mul];exact Nat.mul_le_mul_right _ p)
      rw [C] at r;cases r;exact y
    ·right;have I:∀ j u,xs[j]? =some u->w.cell? ((⟨g,0,none⟩:Addr).add j)=some u:=k.cells (g:=g) rfl;have C:=run_append_grow (P:=P) w t D e i z E F S ⟨g,0,none⟩ n cap xs (by rw [f];exact k.1) I ⟨R,q,none⟩ m c d (by rw [f];exact x) o (by omega) (by simp only [maxLen] at B;omega) (by rw [A];exact growslice_fits (by omega) l);rw [C] at r;cases r;simp [Value.ownBlock] at y;omega
theorem zxv (P:Program) (w:World) (t E e:TypeId) (i:TypeInfo) (z:Value) (size bytes:Nat) (N:P.underlying t=some (.slice e)) (O:P.info? e=some i) (S:i.zero=some z)
  (f:i.size=size) (F:i.bytes=bytes) (H:z.cells.size=size) (I:0 < size) {g off n cap:Nat} {xs:List Value}
  (p:zgL w e size (.slice (some ⟨g,off,none⟩) n cap) n xs)
  (a:Addr) (m c:Nat) (d:List Value) (D:d.length=m * size) (l:∀ j u,d[j]? =some u->w.cell? (a.add j)=some u) (T:∀ u∈d,u.oneCell'=true)
  (J:n+m<=maxLen) (o:(n+m) * bytes<=140737488355328):
  ∃ v w',(Builtin.append_ #[t,t] E #[.slice (some ⟨g,off,none⟩) n cap,.slice (some a) m c]).run P w = .ok v w'/\zgL w' e size v (n+m) (xs++d)/\w.grownBy w' (some g)/\
   (∀ b,blk v=some b->b=g\/w.heap.size<=b):=by
 have r:=p.cell;obtain ⟨Q,B⟩:=p;rcases B with ⟨B,_⟩ | ⟨g',off',cap',cur,B,h3,h4,h5,h6,h7⟩
 ·cases B
 ·cases B;have q:(xs++d).length=(n+m) * size:=by rw [List.length_append,Q,D,Nat.add_mul]
  by_cases h:n+m<=cap
  ·have y:off+n * size+d.length<=cur.size:=by
    have:=Nat.mul_le_mul_right size h;rw [Nat.add_mul] at this;rw [D];omega
   have A:=run_firstCells_some (P:=P) w i.size m a m c d (by rw [f];exact D) l;have s:=run_storeCells_at (P:=P) g (off+n * i.size) e d 0 cur w h3 (by rw [f];simpa using y) T;have M:(Builtin.append_ #[t,t] E #[.slice (some ⟨g,off,none⟩) n cap,.slice (some a) m c]).run P w = .ok (.slice (some ⟨g,off,none⟩) (n+m) cap) (w.setRow g (cur.toList.take (off+n * size)++d++cur.toList.drop (off+n * size+d.length)).toArray):=by
    rw [f] at s A;simp only [Nat.add_zero] at s;simp [Builtin.append_,run_underlying N,sizeOf,typeInfo,O,Builtin.lenOf,h,A,Addr.add_lit,s,f]
   refine ⟨_,_,M,⟨q,.inr ⟨g,off,cap,_,rfl,setRow_heap w g cur _ e _ h3,h,h5,?_,?_⟩⟩,⟨rfl,rfl,rfl,by simp,fun k _ L=>setRow_other w g k _ (fun e=>L (by rw [e]))⟩,fun b x => ?_⟩
   ·simp only [List.size_toArray,List.length_append,List.length_take,List.length_drop,Array.length_toList];omega
   ·have W:cur.toList.take (off+n * size)=cur.toList.take off++xs:=by rw [<- h7,List.take_add]
    have Y:(cur.toList.take off).length=off:=by rw [List.length_take,Array.length_toList];omega
    rw [List.toList_toArray,W,List.append_assoc,List.append_assoc,List.drop_append_of_le_length (by omega),List.drop_of_length_le (by omega),List.nil_append,<- List.append_assoc,<- q];exact List.take_left
   ·left;simp [blk] at x;exact x.symm
  ·obtain ⟨v,w',M,R,C⟩:=run_append_arg_grows (P:=P) w t E e i z size bytes N O S f F H I ⟨g,off,none⟩ n cap xs Q (fun j u U=>by rw [zgJ];exact r j u U) a m c d D l (by omega) J o;refine ⟨v,w',M,zgL.of_row R,⟨C.os,C.tape,C.output,C.size,fun k L V=>C.block k L (by simp)⟩,fun b x => .inr ?_⟩;obtain ⟨_,X⟩:=R;rcases X with ⟨rfl,_⟩ | ⟨g2,_,_,rfl,h9,_⟩
   ·simp [blk] at x
   ·simp [blk] at x;omega
theorem zmf (P:Program) (t C e:TypeId) (i:TypeInfo) (z:Value) (size bytes:Nat) (D:P.underlying t=some (.slice e)) (E:P.info? e=some i) (O:i.zero=some z)
  (k:i.size=size) (q:i.bytes=bytes) (r:z.cells.size=size) (s:0 < size)
  (v:Value) (n:Nat) (xs:List Value) (d:zgL w e size v n xs)
  (x:Option Addr) (m c:Nat) (a:List Value) (F:a.length=m * size) (l:∀ j u,a[j]? =some u->∃ b off,x=some ⟨b,off,none⟩/\w.cell? ⟨b,off+j,none⟩=some u) (Q:∀ u∈a,u.oneCell'=true)
  (y:n+m<=maxLen) (f:(n+m) * bytes<=140737488355328) (o:x=none->m=0/\c=0):
  ∃ p w',(Builtin.append_ #[t,t] C #[v,.slice x m c]).run P w = .ok p w'/\zgL w' e size p (n+m) (xs++a)/\w.grownBy w' v.ownBlock/\(∀ b,p.ownBlock=some b->v.ownBlock=some b\/w.heap.size<=b):=by
 rcases d.form with ⟨rfl,rfl⟩ | ⟨g,off,cap,rfl⟩
 ·obtain ⟨p,w',L,B,M,N⟩:=zuw (w:=w) P t C e i z size bytes D E O k q r s (.slice none 0 0) 0 xs ⟨d.1,.inl ⟨rfl,rfl⟩⟩ x m c a F l Q y f o;exact ⟨p,w',L,zgL.of_row B,M,N⟩
 ·cases x with
  | none=>
   obtain ⟨rfl,rfl⟩:=o rfl;have H:a=[]:=List.eq_nil_of_length_eq_zero (by simpa using F);subst H;have I:n<=cap:=by
    rcases d.2 with ⟨h,_⟩ | ⟨_,_,_,_,h,_,h4,_⟩
    ·cases h
    ·cases h;exact h4
   refine ⟨_,w,?_,by simpa using d,⟨rfl,rfl,rfl,Nat.le_refl _,fun _ _ _=>rfl⟩,fun b A => .inl A⟩;simp [Builtin.append_,run_underlying D,sizeOf,typeInfo,E,Builtin.lenOf,Builtin.firstCells,I,storeCells]
  | some U=>
   obtain ⟨p,w',L,B,M,N⟩:=zxv P w t C e i z size bytes D E O k q r s d U m c a F (fun j u R=>by
    obtain ⟨b,V,S,T⟩:=l j u R;cases S;rw [zgJ];exact T) Q y f
   refine ⟨p,w',L,B,M,fun b A => ?_⟩;have J:blk p=some b:=by
    rcases B.form with ⟨rfl,_⟩ | ⟨_,_,_,rfl⟩
    ·cases A
    ·exact A
   rcases N b J with rfl | h
   ·exact .inl rfl
   ·exact .inr h
end
end Go.Ab
