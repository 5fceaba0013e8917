import Derived.Test.YtmogekkikaelhaaAb24n5
set_option linter.unusedVariables false
set_option linter.unusedSimpArgs false
set_option linter.unusedSectionVars false
namespace Go.Ab
open Enc (enc)
open Go.RowKit (Below)
def zts (σ:St):List (Nat×Operand)->Nat->List D->Prop
 | [],_,ds=>ds=[]
 | (i,o)::r,k,d::ds=>i=k/\σ.ev o=some (.d d)/\zts σ r (k+1) ds
 | _::_,_,[]=>False
inductive ZR:D->Value->Prop
 | lit (v:Value) (h:v.oneCell'=true):ZR (.lit v) v
 | nil (bts:Nat):ZR (.sl bts []) (.slice none 0 0)
theorem ZR.rel {d:D} {v:Value} (h:ZR d v) (w:World) (S:Nat->Prop):DRel w S d v:=by
 cases h with
 | lit v h=>exact .lit v h
 | nil bts=>exact .nil _ _ _ (by simp [maxLen]) (fun _=>rfl)
def ZRs:List D->List Value->Prop
 | [],[]=>True
 | d::ds,v::vs=>ZR d v/\ZRs ds vs
 | _,_=>False
theorem ZRs.rel (w:World) (S:Nat->Prop):∀ {ds:List D} {vs:List Value},ZRs ds vs->ds.length=vs.length/\∀ i,i < ds.length->DRel w S (ds.getD i default) (vs.getD i undef)
 | [],[],_=>⟨rfl,fun i hi=>by simp at hi⟩
 | d::ds,v::vs,h=>by
  obtain ⟨h1,h2⟩:=ZRs.rel w S h.2;refine ⟨by simp [h1],fun i hi => ?_⟩;cases i with
  | zero=>exact h.1.rel w S
  | succ i=>simpa using h2 i (by simpa using hi)
section
variable {P:Program} {F:Fr} {ops:Array Oper} {σ:St} {K:St->Prop} {o:Oper} {rest:List (Nat×Oper)} {H:Hd} {a:Act} {w:World}
theorem zmU (pl:Nat->Option (Nat×Nat)) (hpl:∀ i,pl i=some (i,1)):∀ (vs:List Value) (k:Nat) (parts:List (Nat×Value)) (C:Array Value),parts=(vs.zipIdx k).map (fun x=>(x.2,x.1))->(∀ v∈vs,v.oneCell'=true)->k+vs.length<=C.size->
  ∃ C',Instr.fill pl C parts=some C'/\C'.toList=C.toList.take k++vs++C.toList.drop (k+vs.length)
 | [],k,parts,C,hp,_,_=>by
  subst hp;exact ⟨C,rfl,by simp⟩
 | v::vs,k,parts,C,hp,h1,hl=>by
  subst hp;have hv:v.cells=#[v]:=by have:=h1 v (by simp);cases v<;>first | rfl | (simp [Value.oneCell'] at this)
  simp only [List.length_cons] at hl;have hk : ¬ (k+1 > C.size):=by omega
  obtain ⟨C',h2,h3⟩:=zmU pl hpl vs (k+1) _ (C.setIfInBounds k v) rfl (fun u hu=>h1 u (by simp [hu])) (by simp;omega);refine ⟨C',?_,?_⟩
  ·rw [List.zipIdx_cons,List.map_cons,Instr.fill];simp only [hpl,hv,List.size_toArray,List.length_cons,List.length_nil,ne_eq,not_true_eq_false,decide_false,Bool.false_or,Nat.zero_add];rw [if_neg (by simpa using hk)];exact h2
  ·rw [h3];have e:=list_seg_step C.toList k v vs (by simp;omega);simpa [Array.toList_setIfInBounds,Nat.add_assoc,Nat.add_comm 1] using e
theorem zme (r:RelH F σ H a w):∀ (parts:List (Nat×Operand)) (k:Nat) (ds:List D),zts σ parts k ds->(∀ d∈ds,∀ l,d ≠ .agg l)->
  ∃ vs:List Value,parts.map (fun x=>(x.1,a.eval x.2))=(vs.zipIdx k).map (fun x=>(x.2,x.1))/\vs.length=ds.length/\(∀ v∈vs,v.oneCell'=true)/\
   ∀ i,i < ds.length->DRel w (Sh F.X σ.ent H w) (ds.getD i default) (vs.getD i undef)
 | [],k,ds,h,_=>by
  have:ds=[]:=h;subst this;exact ⟨[],rfl,rfl,by simp,by simp⟩
 | (i,x)::parts,k,[],h,_=>h.elim
 | (i,x)::parts,k,d::ds,h,hd=>by
  obtain ⟨rfl,hx,hr⟩:=h;obtain ⟨vs,h1,h2,h3,h4⟩:=zme r parts (i+1) ds hr (fun d' hd'=>hd d' (by simp [hd']));have hv:=r.ev hx;have hrel:DRel w (Sh F.X σ.ent H w) d (a.eval x):=by cases hv with | d _ _ h=>exact h
  refine ⟨a.eval x::vs,by rw [List.map_cons,h1,List.zipIdx_cons,List.map_cons],by simp [h2],fun v hv => ?_,fun j hj => ?_⟩
  ·rcases List.mem_cons.1 hv with rfl | hv
   ·exact hrel.oneCell.2 (hd d (by simp))
   ·exact h3 v hv
  ·cases j with
   | zero=>exact hrel
   | succ j=>simpa using h4 j (by simpa using hj)
theorem AL.lits {t e:TypeId} {n bs:Nat} {parts:Array (Nat×Operand)} {dsc:Bool} {bytes:Nat} {z:Value} {α:Type} [Enc α] {ys:List α} {d:Nat} (id:Nat) (hid:σ.nxt=id) (hl:Nat.blt id LIM=true) (hd:o.dst=some d) (hlt:Nat.blt d σ.n=true)
  (ho:o.op = .buildSlice t n parts) (ht:P.underlying t=some (.slice e)) (he:TI P e dsc 1 bytes z) (hsz:Enc.sz α=1)
  (hp:zts σ parts.toList 0 (ys.map enc)) (hn:n=ys.length) (hone:∀ y:α,(enc y).cells=[enc y]) (hbs:Enc.bts α=bs) (hsmall':Nat.ble (n * bs) most=true) (hn24':Nat.ble n 16777216=true):
  AL P F σ o (·=(σ.new (Ent.arrOf e ys)).set d (.own id)):=by
 have hsmall:ys.length * Enc.bts α<=most:=by rw [hbs,<- hn];exact Nat.le_of_ble_eq_true hsmall'
 have hn24:ys.length<=16777216:=by rw [<- hn];exact Nat.le_of_ble_eq_true hn24'
 subst hid;intro a w ⟨H,r⟩;have hl:σ.nxt < LIM:=by simpa using hl
 have hnoagg:∀ d∈ys.map enc,∀ l,d ≠ .agg l:=by
  intro d hd l e;obtain ⟨y,_,rfl⟩:=List.mem_map.1 hd;have h1:=hone y;rw [e] at h1;simp only [D.cells] at h1;have h2:=congrArg SizeOf.sizeOf h1;simp at h2;omega
 obtain ⟨vs,h1,h2,h3,h4⟩:=zme r parts.toList 0 _ hp hnoagg;simp only [List.length_map] at h2 h4;have hrun:(Instr.buildSlice t n (parts.map fun (i,x)=>(i,a.eval x))).run P w = .ok (.slice (some ⟨w.heap.size,0,none⟩) n n) (w.alloc (.cells vs.toArray e)):=by
  have hpl:∀ i,(fun i=>some (i * 1,1)) i=some (i,1):=by simp
  have hparts:(parts.map fun (i,x)=>(i,a.eval x)).toList=(vs.zipIdx 0).map (fun x=>(x.2,x.1)):=by rw [<- h1];simp
  have hnot : ¬ (n * 1 > 2 ^ 24):=by omega
  have key:∀ zc:Array Value,∃ C',Instr.fill (fun i=>some (i * 1,1)) ((Array.range (n * 1)).map (fun j=>zc[j % zc.size]!)) ((vs.zipIdx 0).map (fun x=>(x.2,x.1)))=some C'/\C'=vs.toArray:=by
   intro zc;obtain ⟨C',g1,g2⟩:=zmU (fun i=>some (i * 1,1)) hpl vs 0 _ ((Array.range (n * 1)).map (fun j=>zc[j % zc.size]!)) rfl h3 (by simp;omega);refine ⟨C',g1,?_⟩;apply Array.ext';rw [g2];simp;omega
  by_cases h0:n * 1=0
  ·obtain ⟨C',g1,hC'⟩:=key #[];simp only [Instr.buildSlice,Sem.run_bind,run_underlying ht,Result.andThen_ok,he.size,if_neg hnot,if_pos h0,Sem.run_pure,hparts,g1,hC'];rfl
  ·obtain ⟨C',g1,hC'⟩:=key z.cells;simp only [Instr.buildSlice,Sem.run_bind,run_underlying ht,Result.andThen_ok,he.size,if_neg hnot,if_neg h0,he.zero,Sem.run_pure,hparts,g1,hC'];rfl
 have r':=r.newArr hl e (Enc.sz α) (Enc.bts α) (cs:=vs.toArray) (l:=ys.map enc) (cap:=n) (by omega) (by simp [hsz];omega) (by simp;omega) (by simp only [maxLen];omega) (by simpa using hsmall)
  (fun i hi=>by
   have hi:i < ys.length:=by simpa using hi
   simp [List.getD_eq_getElem?_getD,hi,Enc.hsz])
  (fun i hi j hj=>by
   have hi:i < ys.length:=by simpa using hi
   have hj:j=0:=by omega
   subst hj;have:=h4 i hi;have he':((ys.map enc).getD i default).cells.getD 0 default=(ys.map enc).getD i default:=by
    simp [List.getD_eq_getElem?_getD,hi,hone]
   rw [he',hsz];simpa using this)
 have r2:=r'.set (d:=d) (show d < σ.n by simpa using hlt) (.own σ.nxt _ (Hd.add_new _ _ _) (.inl ⟨_,_,_,rfl⟩));rw [<- hd] at r2;have hnn:(ys.map (enc:α->D)).length=n:=by simp [hn]
 rw [hnn] at r2;exact AL.value (by simp [execOp,ho,hrun]) (Ext.alloc w _) ⟨_,rfl,_,r2⟩
theorem AL.make {t e:TypeId} {x y:Operand} {m c:Int} {dsc:Bool} {size bytes:Nat} {z:Value} {α:Type} [Enc α] {z0:α} {d:Nat} (id:Nat) (hid:σ.nxt=id) (hl:Nat.blt id LIM=true) (hd:o.dst=some d) (hlt:Nat.blt d σ.n=true)
  (ho:o.op = .makeSlice t x y) (ht:P.underlying t=some (.slice e)) (he:TI P e dsc size bytes z) (hsz:Enc.sz α=size) (hbt:Enc.bts α=bytes) (hpos:0 < size)
  (hx:σ.ev x=some (.d (.lit (.int .i64 m)))) (hy:σ.ev y=some (.d (.lit (.int .i64 c)))) (hz:ZRs (enc z0).cells z.cells.toList)
  (h0:0<=m) (h1:m<=c) (h2:c * bytes<=140737488355328) (h3:c<=9223372036854775807):
  AL P F σ o (·=(σ.new (Ent.arrOf e (List.replicate m.toNat z0))).set d (.own id)):=by
 subst hid;intro a w ⟨H,r⟩;have hl:σ.nxt < LIM:=by simpa using hl
 obtain ⟨i,hi,hs,hb,hzz⟩:=he.inf;have hrun:=run_make (P:=P) w t e i z ht hi hzz .i64 .i64 m c h0 h1 (by rw [hb,Int.mul_comm];omega) h3;rw [hs] at hrun;have hzl:=(hz.rel w (Sh F.X σ.ent H w)).1;have hzs:z.cells.size=size:=by
  have:=Enc.hsz z0;rw [hzl] at this;simpa [hsz] using this
 have hbnd:m.toNat * bytes<=most:=by
  have h4:m * bytes<=c * bytes:=Int.mul_le_mul_of_nonneg_right h1 (by omega);obtain ⟨mm,rfl⟩:∃ mm:Nat,m=mm:=⟨m.toNat,by omega⟩;have h5:((mm * bytes:Nat):Int)<=140737488355328:=by rw [Int.natCast_mul];omega
  rw [Int.toNat_natCast];unfold most;omega
 have r':=r.newArr hl e (Enc.sz α) (Enc.bts α) (cs:=madeCells z.cells (c.toNat * size)) (l:=(List.replicate m.toNat z0).map enc) (cap:=c.toNat) (by omega) (by rw [size_madeCells,hsz]) (by simp;omega) (by simp only [maxLen];omega) (by simpa [hbt] using hbnd)
  (fun i hi=>by
   have hi:i < m.toNat:=by simpa using hi
   simp [List.getD_eq_getElem?_getD,hi,Enc.hsz])
  (fun i hi j hj=>by
   have hi:i < m.toNat:=by simpa using hi
   have hd':((List.replicate m.toNat z0).map enc).getD i default=enc z0:=by simp [List.getD_eq_getElem?_getD,hi]
   rw [hd'];have hlt2:i * Enc.sz α+j < c.toNat * size:=by
    have h5:i * Enc.sz α+j < (i+1) * Enc.sz α:=by rw [Nat.add_mul];omega
    have h6:(i+1) * Enc.sz α<=c.toNat * Enc.sz α:=Nat.mul_le_mul_right _ (by omega);rw [<- hsz];omega
   have hmod:(i * Enc.sz α+j) % size=j:=by rw [hsz,Nat.add_comm,Nat.add_mul_mod_self_right,Nat.mod_eq_of_lt (by omega)]
   have hjz:j < z.cells.size:=by omega
   have hmade:(madeCells z.cells (c.toNat * size)).getD (i * Enc.sz α+j) undef=z.cells.getD j undef:=by
    simp [madeCells,hlt2,hzs,hmod];rw [getElem!_pos z.cells j hjz,Array.getElem?_eq_getElem hjz];rfl
   rw [hmade];have:=(hz.rel w (Sh F.X σ.ent H w)).2 j (by rw [Enc.hsz];exact hj);have h7:z.cells.toList.getD j undef=z.cells.getD j undef:=by simp [List.getD_eq_getElem?_getD]
   rwa [h7] at this)
 have r2:=r'.set (d:=d) (show d < σ.n by simpa using hlt) (.own σ.nxt _ (Hd.add_new _ _ _) (.inl ⟨_,_,_,rfl⟩));rw [<- hd] at r2;have hnn:((List.replicate m.toNat z0).map (enc:α->D)).length=m.toNat:=by simp
 rw [hnn] at r2;exact AL.value (by simp [execOp,ho,r.lit hx,r.lit hy,hrun]) (Ext.alloc w _) ⟨_,rfl,_,r2⟩
def Src (σ:St) (x:Operand) {α:Type} [Enc α] (ys:List α):Prop:=
 σ.ev x=some (.d (enc ys))\/(∃ id E,σ.ev x=some (.own id)/\σ.ent id=some (Ent.arrOf E ys))\/(σ.ev x=some .nil/\ys=[])\/
  ∃ id E i n,∃ xs:List α,σ.ev x=some (.view id (Enc.sz α) i n)/\σ.ent id=some (Ent.arrOf E xs)/\ys=(xs.drop i).take n/\i+n<=xs.length
theorem Src.cells {x:Operand} {α:Type} [Enc α] {ys:List α} (h:Src σ x ys) (r:RelH F σ H a w):∃ (ad:Option Addr) (c:Nat) (news:List Value),a.eval x = .slice ad ys.length c/\news.length=ys.length * Enc.sz α/\
  (∀ j u,news[j]? =some u->∃ b off,ad=some ⟨b,off,none⟩/\w.cell? ⟨b,off+j,none⟩=some u)/\
  (∀ i,i < ys.length->∀ j,j < Enc.sz α->DRel w (Sh F.X σ.ent H w) (((ys.map enc).getD i default).cells.getD j default) (news.getD (i * Enc.sz α+j) undef))/\(ad=none->c=0):=by
 rcases h with h | ⟨id,E,h,he⟩ | ⟨h,rfl⟩ | ⟨id,E,i0,n0,zs,h,he,rfl,hin⟩
 ·have hv:=r.ev h;generalize a.eval x=u at hv;cases hv with
  | d _ _ hd=>
   generalize hD:(enc ys:D)=D0 at hd;cases hd with
   | lit=>cases hD
   | ptr=>cases hD
   | agg=>cases hD
   | nil bts ad c hc hn=>
    injection hD with h1 h2
    have:ys=[]:=by simpa using h2
    subst this;exact ⟨ad,c,[],rfl,by simp,by simp,by simp,hn⟩
   | sl bts ll b off c sz f h0 hsz hb hc hm hbt hcs hcell hrel=>
    injection hD with h1 h2
    subst h2;have hlen:(ys.map (enc:α->D)).length=ys.length:=by simp
    have hpos:0 < ys.length:=by simpa using h0
    have hszα:sz=Enc.sz α:=by
     rw [<- hcs 0 h0];have:(ys.map (enc:α->D)).getD 0 default=enc ys[0]:=by simp [List.getD_eq_getElem?_getD,hpos]
     rw [this,Enc.hsz]
    subst hszα;refine ⟨_,c,(List.range (ys.length * Enc.sz α)).map f,by rw [hlen],by simp,fun j u hj => ?_,fun i hi j hj => ?_,by simp⟩
    ·have hjl:j < ys.length * Enc.sz α:=by
      have:=(List.getElem?_eq_some_iff.1 hj).1;simpa using this
     refine ⟨b,off,rfl,?_⟩;rw [hcell j (by simpa using hjl)];simpa [hjl] using hj
    ·have hlt:i * Enc.sz α+j < ys.length * Enc.sz α:=by
      have h5:i * Enc.sz α+j < (i+1) * Enc.sz α:=by rw [Nat.add_mul];omega
      have h6:(i+1) * Enc.sz α<=ys.length * Enc.sz α:=Nat.mul_le_mul_right _ (by omega);omega
     have:=hrel i (by simpa using hi) j hj;simpa [List.getD_eq_getElem?_getD,hlt] using this
 ·have hv:=r.ev h;obtain ⟨v,hH,hr⟩:=r.ent id _ he;generalize a.eval x=u at hv;cases hv with
  | own _ _ h' _=>
   rw [hH] at h';cases h';cases hr with
   | arr _ _ _ _ _ xs hsz hown hbt hcs hrel=>
    have hxl:xs.length=ys.length * Enc.sz α:=by have:=hown.1;simpa using this
    rcases hown.form with ⟨rfl,h0⟩ | ⟨b,off,c,rfl⟩
    ·have:ys=[]:=by simpa using h0
     subst this;exact ⟨none,0,[],rfl,by simp,by simp,by simp,fun _=>rfl⟩
    ·exact ⟨some ⟨b,off,none⟩,c,xs,by simp,hxl,fun j u hj=>⟨b,off,rfl,hown.cell j u hj⟩,fun i hi j hj=>hrel i (by simpa using hi) j hj,by simp⟩
 ·have hv:=r.ev h;generalize a.eval x=u at hv;cases hv;exact ⟨none,0,[],rfl,by simp,by simp,by simp,fun _=>rfl⟩
 ·have hv:=r.ev h;obtain ⟨v,hH,hr⟩:=r.ent id _ he;have hlen:((zs.drop i0).take n0).length=n0:=by rw [List.length_take,List.length_drop];omega
  generalize a.eval x=u at hv;cases hv with
  | view _ _ _ _ u0 _ h' hp=>
   rw [hH] at h';cases h';cases hr with
   | arr _ _ _ _ _ xs hsz hown hbt hcs hrel=>
    have hxl:xs.length=zs.length * Enc.sz α:=by have:=hown.1;simpa using this
    rw [hlen];rcases hp with ⟨_,rfl,_,rfl⟩ | ⟨b,o0,n1,c0,c,ad,rfl,h1,rfl,h2,h3,h4⟩
    ·exact ⟨none,0,[],rfl,by simp,by simp,by omega,fun _=>rfl⟩
    ·have hle:(i0+n0) * Enc.sz α<=zs.length * Enc.sz α:=Nat.mul_le_mul_right _ hin;rw [Nat.add_mul] at hle;refine ⟨some ad,c,(xs.drop (i0 * Enc.sz α)).take (n0 * Enc.sz α),rfl,by rw [List.length_take,List.length_drop];omega,fun j u hj => ?_,fun i hi j hj => ?_,by simp⟩
     ·have hjl:j < n0 * Enc.sz α:=by
       have:=(List.getElem?_eq_some_iff.1 hj).1;rw [List.length_take] at this;omega
      have hn0:0 < n0:=Nat.pos_of_ne_zero fun h=>by rw [h,Nat.zero_mul] at hjl;omega
      rw [List.getElem?_take_of_lt hjl,List.getElem?_drop] at hj;exact ⟨b,o0+i0 * Enc.sz α,by rw [h4 hn0],by rw [Nat.add_assoc];exact hown.cell _ u hj⟩
     ·have e1:(i+1) * Enc.sz α<=n0 * Enc.sz α:=Nat.mul_le_mul_right _ hi;rw [Nat.add_mul] at e1;have:=hrel (i0+i) (by rw [List.length_map];omega) j hj;have e2:(i0+i) * Enc.sz α+j=i0 * Enc.sz α+(i * Enc.sz α+j):=by rw [Nat.add_mul];omega
      rw [e2] at this;simp only [List.getD_eq_getElem?_getD,List.getElem?_map] at this ⊢;rw [List.getElem?_take_of_lt hi,List.getElem?_drop,List.getElem?_take_of_lt (by omega),List.getElem?_drop];exact this
theorem zjR {w:World} {base E size n:Nat} {v:Value} {xs:List Value} (h:w.ownsRow base E size v n xs):(v = .slice none 0 0/\n=0)\/∃ b c,v = .slice (some ⟨b,0,none⟩) n c:=by
 obtain ⟨_,h2⟩:=h;rcases h2 with ⟨rfl,rfl⟩ | ⟨g,cap,cur,rfl,_⟩
 ·exact .inl ⟨rfl,rfl⟩
 ·exact .inr ⟨g,cap,rfl⟩
theorem zlw (P:Program) (t ty e:TypeId) (i:TypeInfo) (z:Value) (size bytes:Nat) (ht:P.underlying t=some (.slice e)) (hi:P.info? e=some i) (hz:i.zero=some z)
  (hsize:i.size=size) (hby:i.bytes=bytes) (hzs:z.cells.size=size) (hsz:0 < size)
  (v:Value) (n:Nat) (xs:List Value) (hown:w.ownsRow 0 e size v n xs)
  (ad:Option Addr) (m c:Nat) (news:List Value) (hl:news.length=m * size) (hnews:∀ j u,news[j]? =some u->∃ b off,ad=some ⟨b,off,none⟩/\w.cell? ⟨b,off+j,none⟩=some u) (h1:∀ u∈news,u.oneCell'=true)
  (h63:n+m<=maxLen) (hbytes:(n+m) * bytes<=140737488355328) (hadn:ad=none->m=0/\c=0):
  ∃ v' w',(Builtin.append_ #[t,t] ty #[v,.slice ad m c]).run P w = .ok v' w'/\w'.ownsRow 0 e size v' (n+m) (xs++news)/\w.grownBy w' v.ownBlock/\(∀ b,v'.ownBlock=some b->v.ownBlock=some b\/w.heap.size<=b):=by
 cases ad with
 | none=>
  obtain ⟨rfl,rfl⟩:=hadn rfl;have hn0:news=[]:=List.eq_nil_of_length_eq_zero (by simpa using hl);subst hn0;have hr:=run_append_owned_none (P:=P) (w:=w) 0 t ty e i size ht hi v n xs hown;refine ⟨v,w,hr,by simpa using hown,⟨rfl,rfl,rfl,Nat.le_refl _,fun _ _ _=>rfl⟩,fun b hb => .inl hb⟩
 | some a0=>
  by_cases hm:news=[]
  ·subst hm;have hm0:m=0:=by
    simp only [List.length_nil] at hl;rcases Nat.mul_eq_zero.1 hl.symm with h | h
    ·exact h
    ·omega
   subst hm0;obtain ⟨v',w',h2,h3,h4,h5⟩:=run_append_own (P:=P) w 0 t ty e i z size bytes ht hi hz hsize hby hzs hsz v n xs hown a0 0 c [] (by simp) (by simp) (by simp) h63 hbytes (Nat.zero_le _);refine ⟨v',w',h2,h3,h4,?_⟩;intro b hb;rcases zjR hown with ⟨rfl,h0⟩ | ⟨g,cap,rfl⟩
   ·have:=h5.2 ⟨rfl,rfl⟩;subst this;simp [Value.ownBlock] at hb
   ·-- nothing appended: there was room
    left;obtain ⟨_,hx⟩:=hown;rcases hx with ⟨h,_⟩ | ⟨g',cap',cur,h,_,hg,hnc,_⟩
    ·cases h
    ·cases h;have hroom:n+0<=cap:=by omega
     have hr:=run_append_room (P:=P) w t ty e i ht hi g n cap cur hg a0 0 c [] (by simp) (by simp) (by simp) hroom (by
      rename_i hcs;rw [hsize];simp only [List.length_nil,Nat.add_zero];rw [hcs.2.1];exact Nat.mul_le_mul_right _ hnc)
     rw [hr] at h2;cases h2;exact hb
  ·obtain ⟨b0,off0,ha0,_⟩:=hnews 0 (news[0]'(List.length_pos_iff.2 hm)) (by simp);cases ha0;have hnews':∀ j u,news[j]? =some u->w.cell? ((⟨b0,off0,none⟩:Addr).add j)=some u:=by
    intro j u hj;obtain ⟨b,off,h2,h3⟩:=hnews j u hj;cases h2;rw [zbD];exact h3
   obtain ⟨v',w',h2,h3,h4,h5⟩:=run_append_own (P:=P) w 0 t ty e i z size bytes ht hi hz hsize hby hzs hsz v n xs hown ⟨b0,off0,none⟩ m c news hl hnews' h1 h63 hbytes (Nat.zero_le _);refine ⟨v',w',h2,h3,h4,?_⟩;intro b hb;rcases zjR hown with ⟨rfl,h0⟩ | ⟨g,cap,rfl⟩
   ·-- from nil: a new block
    right;obtain ⟨hx1,hx⟩:=h3;rcases hx with ⟨rfl,_⟩ | ⟨g',cap',cur,rfl,_,hg,_⟩
    ·simp [Value.ownBlock] at hb
    ·simp [Value.ownBlock] at hb;subst hb;have hxs:xs=[]:=by
      have:=hown.1;subst h0;simpa using this
     subst h0;have hm0:m≠0:=by
      intro h;subst h;simp at hl;exact hm hl
     have hr:=run_append_nil (P:=P) w t ty e i z ht hi hz ⟨b0,off0,none⟩ m c news (by rw [hsize];exact hl) hnews' (by omega) (by simp only [maxLen] at h63;omega) (by rw [hby];simp only [Nat.zero_add] at hbytes;omega);rw [hr] at h2;simp only [Result.ok.injEq,Value.slice.injEq,Option.some.injEq,Addr.mk.injEq] at h2;omega
   ·by_cases hroom:n+m<=cap
    ·left;obtain ⟨_,hx⟩:=hown;rcases hx with ⟨h,_⟩ | ⟨g',cap',cur,h,_,hg,hnc,hcm,hcsz,_⟩
     ·cases h
     ·cases h;have hr:=run_append_room (P:=P) w t ty e i ht hi g n cap cur hg ⟨b0,off0,none⟩ m c news (by rw [hsize];exact hl) hnews' h1 hroom (by
       rw [hsize,hl,hcsz,<- Nat.add_mul];exact Nat.mul_le_mul_right _ hroom)
      rw [hr] at h2;cases h2;exact hb
    ·right;have holds:∀ j u,xs[j]? =some u->w.cell? ((⟨g,0,none⟩:Addr).add j)=some u:=hown.cells (g:=g) rfl;have hr:=run_append_grow (P:=P) w t ty e i z ht hi hz ⟨g,0,none⟩ n cap xs (by rw [hsize];exact hown.1) holds ⟨b0,off0,none⟩ m c news (by rw [hsize];exact hl) hnews' (by omega) (by simp only [maxLen] at h63;omega) (by rw [hby];exact growslice_fits (by omega) hbytes);rw [hr] at h2;cases h2;simp [Value.ownBlock] at hb;omega
theorem zoc (P:Program) (w:World) (t ty e:TypeId) (i:TypeInfo) (z:Value) (size bytes:Nat) (ht:P.underlying t=some (.slice e)) (hi:P.info? e=some i) (hz:i.zero=some z)
  (hsize:i.size=size) (hby:i.bytes=bytes) (hzs:z.cells.size=size) (hsz:0 < size) {g off n cap:Nat} {xs:List Value}
  (hown:zbN w e size (.slice (some ⟨g,off,none⟩) n cap) n xs)
  (a:Addr) (m c:Nat) (news:List Value) (hl:news.length=m * size) (hnews:∀ j u,news[j]? =some u->w.cell? (a.add j)=some u) (h1:∀ u∈news,u.oneCell'=true)
  (h63:n+m<=maxLen) (hbytes:(n+m) * bytes<=140737488355328):
  ∃ v' w',(Builtin.append_ #[t,t] ty #[.slice (some ⟨g,off,none⟩) n cap,.slice (some a) m c]).run P w = .ok v' w'/\zbN w' e size v' (n+m) (xs++news)/\w.grownBy w' (some g)/\
   (∀ b,blk v'=some b->b=g\/w.heap.size<=b):=by
 have hcell:=hown.cell;obtain ⟨hx,h2⟩:=hown;rcases h2 with ⟨h2,_⟩ | ⟨g',off',cap',cur,h2,h3,h4,h5,h6,h7⟩
 ·cases h2
 ·cases h2;have hlen:(xs++news).length=(n+m) * size:=by rw [List.length_append,hx,hl,Nat.add_mul]
  by_cases hroom:n+m<=cap
  ·have hfit:off+n * size+news.length<=cur.size:=by
    have:=Nat.mul_le_mul_right size hroom;rw [Nat.add_mul] at this;rw [hl];omega
   have hfc:=run_firstCells_some (P:=P) w i.size m a m c news (by rw [hsize];exact hl) hnews;have hst:=run_storeCells_at (P:=P) g (off+n * i.size) e news 0 cur w h3 (by rw [hsize];simpa using hfit) h1;have hr:(Builtin.append_ #[t,t] ty #[.slice (some ⟨g,off,none⟩) n cap,.slice (some a) m c]).run P w = .ok (.slice (some ⟨g,off,none⟩) (n+m) cap) (w.setRow g (cur.toList.take (off+n * size)++news++cur.toList.drop (off+n * size+news.length)).toArray):=by
    rw [hsize] at hst hfc;simp only [Nat.add_zero] at hst;simp [Builtin.append_,run_underlying ht,sizeOf,typeInfo,hi,Builtin.lenOf,hroom,hfc,Addr.add_lit,hst,hsize]
   refine ⟨_,_,hr,⟨hlen,.inr ⟨g,off,cap,_,rfl,setRow_heap w g cur _ e _ h3,hroom,h5,?_,?_⟩⟩,⟨rfl,rfl,rfl,by simp,fun k _ hk=>setRow_other w g k _ (fun e=>hk (by rw [e]))⟩,fun b hb => ?_⟩
   ·simp only [List.size_toArray,List.length_append,List.length_take,List.length_drop,Array.length_toList];omega
   ·have e1:cur.toList.take (off+n * size)=cur.toList.take off++xs:=by rw [<- h7,List.take_add]
    have e2:(cur.toList.take off).length=off:=by rw [List.length_take,Array.length_toList];omega
    rw [List.toList_toArray,e1,List.append_assoc,List.append_assoc,List.drop_append_of_le_length (by omega),List.drop_of_length_le (by omega),List.nil_append,<- List.append_assoc,<- hlen];exact List.take_left
   ·left;simp [blk] at hb;exact hb.symm
  ·obtain ⟨v',w',hr,ho,hg⟩:=run_append_arg_grows (P:=P) w t ty e i z size bytes ht hi hz hsize hby hzs hsz ⟨g,off,none⟩ n cap xs hx (fun j u hj=>by rw [zbD];exact hcell j u hj) a m c news hl hnews (by omega) h63 hbytes;refine ⟨v',w',hr,zbN.of_row ho,⟨hg.os,hg.tape,hg.output,hg.size,fun k hk hne=>hg.block k hk (by simp)⟩,fun b hb => .inr ?_⟩;obtain ⟨_,h8⟩:=ho;rcases h8 with ⟨rfl,_⟩ | ⟨g2,_,_,rfl,h9,_⟩
   ·simp [blk] at hb
   ·simp [blk] at hb;omega
theorem zcq (P:Program) (t ty e:TypeId) (i:TypeInfo) (z:Value) (size bytes:Nat) (ht:P.underlying t=some (.slice e)) (hi:P.info? e=some i) (hz:i.zero=some z)
  (hsize:i.size=size) (hby:i.bytes=bytes) (hzs:z.cells.size=size) (hsz:0 < size)
  (v:Value) (n:Nat) (xs:List Value) (hown:zbN w e size v n xs)
  (ad:Option Addr) (m c:Nat) (news:List Value) (hl:news.length=m * size) (hnews:∀ j u,news[j]? =some u->∃ b off,ad=some ⟨b,off,none⟩/\w.cell? ⟨b,off+j,none⟩=some u) (h1:∀ u∈news,u.oneCell'=true)
  (h63:n+m<=maxLen) (hbytes:(n+m) * bytes<=140737488355328) (hadn:ad=none->m=0/\c=0):
  ∃ v' w',(Builtin.append_ #[t,t] ty #[v,.slice ad m c]).run P w = .ok v' w'/\zbN w' e size v' (n+m) (xs++news)/\w.grownBy w' v.ownBlock/\(∀ b,v'.ownBlock=some b->v.ownBlock=some b\/w.heap.size<=b):=by
 rcases hown.form with ⟨rfl,rfl⟩ | ⟨g,off,cap,rfl⟩
 ·obtain ⟨v',w',a1,a2,a3,a4⟩:=zlw (w:=w) P t ty e i z size bytes ht hi hz hsize hby hzs hsz (.slice none 0 0) 0 xs ⟨hown.1,.inl ⟨rfl,rfl⟩⟩ ad m c news hl hnews h1 h63 hbytes hadn;exact ⟨v',w',a1,zbN.of_row a2,a3,a4⟩
 ·cases ad with
  | none=>
   obtain ⟨rfl,rfl⟩:=hadn rfl;have hn0:news=[]:=List.eq_nil_of_length_eq_zero (by simpa using hl);subst hn0;have hnc:n<=cap:=by
    rcases hown.2 with ⟨h,_⟩ | ⟨_,_,_,_,h,_,h4,_⟩
    ·cases h
    ·cases h;exact h4
   refine ⟨_,w,?_,by simpa using hown,⟨rfl,rfl,rfl,Nat.le_refl _,fun _ _ _=>rfl⟩,fun b hb => .inl hb⟩;simp [Builtin.append_,run_underlying ht,sizeOf,typeInfo,hi,Builtin.lenOf,Builtin.firstCells,hnc,storeCells]
  | some a0=>
   obtain ⟨v',w',a1,a2,a3,a4⟩:=zoc P w t ty e i z size bytes ht hi hz hsize hby hzs hsz hown a0 m c news hl (fun j u hj=>by
    obtain ⟨b,o2,h2,h3⟩:=hnews j u hj;cases h2;rw [zbD];exact h3) h1 h63 hbytes
   refine ⟨v',w',a1,a2,a3,fun b hb => ?_⟩;have hb':blk v'=some b:=by
    rcases a2.form with ⟨rfl,_⟩ | ⟨_,_,_,rfl⟩
    ·cases hb
    ·exact hb
   rcases a4 b hb' with rfl | h
   ·exact .inl rfl
   ·exact .inr h
end
end Go.Ab
