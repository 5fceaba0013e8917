import Derived.Test.YtmogekkikaelhaaAb24n9
import Derived.OwnWalk
set_option linter.unusedVariables false
set_option linter.unusedSimpArgs false
set_option linter.unusedSectionVars false
namespace Go.Ab
open Enc (enc)
open Go.RowKit (Below)
theorem TI.of {P:Program} {t:TypeId} {dsc:Bool} {size bytes:Nat} {z:Value} {d:TypeDesc} (hu:P.underlying t=some d) (ha:dAgg d=dsc) (hi:(P.info? t).map (fun i=>(i.zero,i.size,i.bytes))=some (some z,size,bytes)):TI P t dsc size bytes z:=
 ⟨⟨d,hu,ha⟩,let ⟨i,h1,h2,h3,h4⟩:=info_parts hi;⟨i,h1,h3,h4,h2⟩⟩
theorem FA.of {P:Program} {s i off ft size:Nat} {fs:Array Field} (hu:P.underlying s=some (.struct fs)) (hf:(fs[i]?).map (fun f=>(f.offset,f.type))=some (off,ft)) (hi:(P.info? ft).map (·.size)=some size) (hp:0 < size):FA P s i off ft size:=by
 obtain ⟨f,h1,h2⟩:=Option.map_eq_some_iff.1 hf;obtain ⟨inf,h3,h4⟩:=Option.map_eq_some_iff.1 hi;cases h2;exact ⟨⟨fs,hu,f,h1,rfl,rfl⟩,⟨inf,h3,h4⟩,hp⟩
def cut {α:Type} (l:List α) (i j:Int):List α:=(l.take j.toNat).drop i.toNat
section
variable {P:Program} {F:Fr} {ops:Array Oper} {σ:St} {K:St->Prop} {o:Oper} {rest:List (Nat×Oper)} {H:Hd} {a:Act} {w:World}
theorem DRel.cut {S:Nat->Prop} {α:Type} [Enc α] {l:List α} {ad:Option Addr} {n c:Nat} (h:DRel w S (enc l) (.slice ad n c)) (i j:Nat) (hij:i<=j) (hj:j<=l.length):
  DRel w S (enc (cut l i j)) (sliced ad i j c (Enc.sz α)):=by
 generalize hv:(Value.slice ad n c)=v at h;generalize hd:(enc l:D)=dd at h;have hlen:(Ab.cut l (i:Int) (j:Int)).length=j - i:=by simp [Ab.cut];omega
 cases h with
 | lit=>cases hd
 | ptr=>cases hd
 | agg=>cases hd
 | nil bts ad' c' hc hn=>
  injection hd with h1 h2
  cases hv;have h3:l=[]:=by simpa using h2
  subst h3;have hj0:j=0:=by simpa using hj
  subst hj0;have hi0:i=0:=by omega
  subst hi0;have:sliced ad 0 0 c (Enc.sz α) = .slice (if c=0 then ad else ad.map (·.add (0 * Enc.sz α))) 0 (c - 0):=rfl;rw [this];refine .nil _ _ _ (by omega) (fun h => ?_);by_cases hc0:c=0
  ·omega
  ·rw [if_neg hc0] at h;cases ad with
   | none=>exact absurd (hn rfl) hc0
   | some x=>simp at h
 | sl bts ll b off c' sz f h0 hsz hb hc hm hbt hcs hcell hrel=>
  injection hd with h1 h2
  subst h2;cases hv;have hll:(l.map (enc:α->D)).length=l.length:=by simp
  have hszα:sz=Enc.sz α:=by
   rw [<- hcs 0 h0];have hpos:0 < l.length:=by simpa using h0
   have:(l.map (enc:α->D)).getD 0 default=enc l[0]:=by simp [List.getD_eq_getElem?_getD,hpos]
   rw [this,Enc.hsz]
  subst hszα;by_cases he:i=j
  ·subst he;have:Ab.cut l (i:Int) (i:Int)=[]:=List.eq_nil_of_length_eq_zero (by rw [hlen];omega);rw [this];unfold sliced;rw [Nat.sub_self];refine .nil _ _ _ (by omega) (fun h => ?_);by_cases hci:c=i
   ·omega
   ·rw [if_neg hci] at h;simp at h
  ·have hne : ¬ c=i:=by omega
   unfold sliced;rw [if_neg hne];have hadd:Option.map (fun x=>x.add (i * Enc.sz α)) (some (⟨b,off,none⟩:Addr))=some ⟨b,off+i * Enc.sz α,none⟩:=by simp [zbD]
   rw [hadd];have hcl:((Ab.cut l (i:Int) (j:Int)).map (enc:α->D)).length=j - i:=by simp [hlen]
   have hget:∀ k,k < j - i->((Ab.cut l (i:Int) (j:Int)).map (enc:α->D)).getD k default=(l.map (enc:α->D)).getD (i+k) default:=by
    intro k hk;simp only [List.getD_eq_getElem?_getD,List.getElem?_map,Ab.cut,Int.toNat_natCast,List.getElem?_drop,List.getElem?_take];rw [if_pos (by omega)]
   have:=DRel.sl (w:=w) (S:=S) bts ((Ab.cut l (i:Int) (j:Int)).map enc) b (off+i * Enc.sz α) (c - i) (Enc.sz α) (fun k=>f (i * Enc.sz α+k)) (by omega) hsz hb (by omega) (by omega)
    (by rw [hcl];exact Nat.le_trans (Nat.mul_le_mul_right _ (by omega)) hbt)
    (fun k hk=>by rw [hcl] at hk;rw [hget k hk];exact hcs (i+k) (by omega))
    (fun k hk=>by
     rw [hcl] at hk;have h5:i * Enc.sz α+k < l.length * Enc.sz α:=by
      have h6:(j - i) * Enc.sz α=j * Enc.sz α - i * Enc.sz α:=Nat.sub_mul _ _ _;have h7:i * Enc.sz α<=j * Enc.sz α:=Nat.mul_le_mul_right _ hij;have h8:j * Enc.sz α<=l.length * Enc.sz α:=Nat.mul_le_mul_right _ hj;omega
     rw [Nat.add_assoc];exact hcell _ (by rw [hll];exact h5))
    (fun k hk m hm'=>by
     rw [hcl] at hk;rw [hget k hk];have:=hrel (i+k) (by omega) m hm';rw [Nat.add_mul,Nat.add_assoc] at this;exact this)
   rw [hcl,h1.symm] at this;exact this
theorem zks {x:Operand} {α:Type} [Enc α] {l:List α} (r:RelH F σ H a w) (hx:σ.ev x=some (.d (enc l))):∃ ad c,a.eval x = .slice ad l.length c/\DRel w (Sh F.X σ.ent H w) (enc l) (.slice ad l.length c)/\l.length<=c/\c<=maxLen:=by
 have hv:=r.ev hx;generalize a.eval x=u at hv;cases hv with
 | d _ _ h=>
  obtain ⟨ad,c,rfl⟩:=DRel.sl_form h;have hl:(l.map (enc:α->D)).length=l.length:=by simp
  rw [hl] at h ⊢;refine ⟨ad,c,rfl,h,?_⟩;generalize hu:Value.slice ad l.length c=u at h;generalize hd:(enc l:D)=dd at h;cases h with
  | lit=>cases hd
  | ptr=>cases hd
  | agg=>cases hd
  | nil bts ad' c' hc hn=>injection hu with h1 h2 h3;subst h3;exact ⟨by omega,hc⟩
  | sl bts ll b off c' sz f h0 hsz hb hc hm=>
   injection hd with h1 h2
   subst h2;injection hu with h1 h2 h3
   subst h3;exact ⟨by simpa using hc,hm⟩
theorem RO.sl_lh {t e:TypeId} {x lo hi:Operand} {i j:Int} {α:Type} [Enc α] {l:List α} {dsc:Bool} {bytes:Nat} {z:Value} (ho:o.op = .slice t x (some lo) (some hi) none) (ht:P.underlying t=some (.slice e)) (he:TI P e dsc (Enc.sz α) bytes z)
  (hx:σ.ev x=some (.d (enc l))) (hlo:σ.ev lo=some (.d (.lit (.int .i64 i)))) (hhi:σ.ev hi=some (.d (.lit (.int .i64 j)))) (h:0<=i/\i<=j/\j<=l.length):RO P F σ o (.d (enc (cut l i j))):=fun H a w r=>by
 obtain ⟨ad,c,hu,hd,hc,hm⟩:=zks r hx;obtain ⟨i,rfl⟩:∃ n:Nat,i=n:=⟨i.toNat,by omega⟩;obtain ⟨j,rfl⟩:∃ n:Nat,j=n:=⟨j.toNat,by omega⟩;have hel:P.elem t=e:=by simp [Program.elem,ht]
 refine ⟨sliced ad i j c (Enc.sz α),fun w' _ => ?_,.d _ _ (hd.cut i j (by omega) (by omega))⟩;have hr:=run_slice_lh (P:=P) (w:=w') t ad l.length c (by rw [hel];exact ht) .i64 .i64 i j (by omega) (by omega) (by omega);rw [hel,he.size] at hr;have hs:=run_sliceAt_slice (P:=P) w' t (.slice ad l.length c) (some (.int .i64 i)) (some (.int .i64 j)) none (by rw [hel];exact ht);simp [execOp,ho,hu,r.lit hlo,r.lit hhi,hs,hr]
theorem RO.sl_h {t e:TypeId} {x hi:Operand} {j:Int} {α:Type} [Enc α] {l:List α} {dsc:Bool} {bytes:Nat} {z:Value} (ho:o.op = .slice t x none (some hi) none) (ht:P.underlying t=some (.slice e)) (he:TI P e dsc (Enc.sz α) bytes z)
  (hx:σ.ev x=some (.d (enc l))) (hhi:σ.ev hi=some (.d (.lit (.int .i64 j)))) (h:0<=j/\j<=l.length):RO P F σ o (.d (enc (cut l 0 j))):=fun H a w r=>by
 obtain ⟨ad,c,hu,hd,hc,hm⟩:=zks r hx;obtain ⟨j,rfl⟩:∃ n:Nat,j=n:=⟨j.toNat,by omega⟩;have hel:P.elem t=e:=by simp [Program.elem,ht]
 refine ⟨sliced ad 0 j c (Enc.sz α),fun w' _ => ?_,.d _ _ (hd.cut 0 j (by omega) (by omega))⟩;have hr:=run_slice_h (P:=P) (w:=w') t ad l.length c (by rw [hel];exact ht) .i64 j (by omega) (by omega);rw [hel,he.size] at hr;have hs:=run_sliceAt_slice (P:=P) w' t (.slice ad l.length c) none (some (.int .i64 j)) none (by rw [hel];exact ht);simp [execOp,ho,hu,r.lit hhi,hs,hr]
theorem RO.sl_l {t e:TypeId} {x lo:Operand} {i:Int} {α:Type} [Enc α] {l:List α} {dsc:Bool} {bytes:Nat} {z:Value} (ho:o.op = .slice t x (some lo) none none) (ht:P.underlying t=some (.slice e)) (he:TI P e dsc (Enc.sz α) bytes z)
  (hx:σ.ev x=some (.d (enc l))) (hlo:σ.ev lo=some (.d (.lit (.int .i64 i)))) (h:0<=i/\i<=l.length):RO P F σ o (.d (enc (cut l i l.length))):=fun H a w r=>by
 obtain ⟨ad,c,hu,hd,hc,hm⟩:=zks r hx;obtain ⟨i,rfl⟩:∃ n:Nat,i=n:=⟨i.toNat,by omega⟩;have hel:P.elem t=e:=by simp [Program.elem,ht]
 refine ⟨sliced ad i l.length c (Enc.sz α),fun w' _ => ?_,.d _ _ (hd.cut i l.length (by omega) (by omega))⟩;have hr:=run_slice_l (P:=P) (w:=w') t ad l.length c (by rw [hel];exact ht) .i64 i (by omega) (by omega);rw [hel,he.size] at hr;have hs:=run_sliceAt_slice (P:=P) w' t (.slice ad l.length c) (some (.int .i64 i)) none none (by rw [hel];exact ht);simp [execOp,ho,hu,r.lit hlo,hs,hr]
def Evs (σ:St):List Operand->List AV->Prop
 | [],xs=>xs=[]
 | o::r,x::xs=>σ.ev o=some x/\Evs σ r xs
 | _::_,[]=>False
theorem Evs.rel (r:RelH F σ H a w):∀ {l:List Operand} {xs:List AV},Evs σ l xs->l.length=xs.length/\∀ i,i < xs.length->VRel w (Sh F.X σ.ent H w) H (xs.getD i default) ((l.map a.eval).getD i undef)
 | [],xs,h=>by
  have:xs=[]:=h;subst this;exact ⟨rfl,by simp⟩
 | o::l,x::xs,h=>by
  obtain ⟨h3,h4⟩:=Evs.rel r h.2;refine ⟨by simp [h3],fun i hi => ?_⟩;cases i with
  | zero=>exact r.ev h.1
  | succ i=>simpa using h4 i (by simpa using hi)
 | _::_,[],h=>h.elim
theorem RO.makeFunc {f:FuncId} {caps:Array Operand} {cs:List AV} (ho:o.op = .makeFunc (.func f) #[] caps) (hc:Evs σ caps.toList cs):RO P F σ o (.fn f cs):=fun H a w r=>by
 obtain ⟨h1,h2⟩:=hc.rel r;refine ⟨.func (.func f) #[] (caps.map a.eval),fun w' _=>by simp [execOp,ho,Instr.makeFunc],.fn f cs _ (by simpa using h1) fun i hi => ?_⟩;have:=h2 i hi;have h3:(caps.map a.eval).getD i undef=(caps.toList.map a.eval).getD i undef:=by
  simp only [Array.getD_eq_getD_getElem?, List.getD_eq_getElem?_getD];rw [<- Array.toList_map,Array.getElem?_toList]
 rw [h3];exact this
theorem AO.caseb {l:List (Nat×Oper)} {b:Bool} (k:Nat) (hk:σ.get k=some (.d (.lit (.bool b)))) (h1:b=true->AO P F ops l (σ.set k (.d (.lit (.bool true)))) K) (h2:b=false->AO P F ops l (σ.set k (.d (.lit (.bool false)))) K):AO P F ops l σ K:=by
 cases b
 ·exact AO.weak (fun _ _ ⟨H,r⟩=>⟨H,r.setAV (r.slot k _ hk)⟩) (h2 rfl)
 ·exact AO.weak (fun _ _ ⟨H,r⟩=>⟨H,r.setAV (r.slot k _ hk)⟩) (h1 rfl)
theorem AW.caseb {c:Code} {Q:Exit->St->Prop} {b:Bool} (k:Nat) (hk:σ.get k=some (.d (.lit (.bool b)))) (h1:b=true->AW P F c (σ.set k (.d (.lit (.bool true)))) Q) (h2:b=false->AW P F c (σ.set k (.d (.lit (.bool false)))) Q):AW P F c σ Q:=by
 cases b
 ·exact AW.weak (fun _ _ ⟨H,r⟩=>⟨H,r.setAV (r.slot k _ hk)⟩) (h2 rfl)
 ·exact AW.weak (fun _ _ ⟨H,r⟩=>⟨H,r.setAV (r.slot k _ hk)⟩) (h1 rfl)
theorem AO.splitn {p:Prop} [Decidable p] {d:Nat} (hd:o.dst=some d) (hlt:Nat.blt d σ.n=true) (hg:gOn ops σ o true)
  (h:RO P F σ o (.d (.lit (.bool (decide (¬ p)))))) (h1 : ¬ p->AO P F ops rest (σ.set d (.d (.lit (.bool true)))) K) (h2:p->AO P F ops rest (σ.set d (.d (.lit (.bool false)))) K):AO P F ops ((0,o)::rest) σ K:=
 AO.split hd hlt hg h h1 (fun hn=>h2 (Decidable.of_not_not hn))
theorem AO.say {l:List (Nat×Oper)} {x:AV} (k:Nat) (y:AV) (hk:σ.get k=some x) (hxy:x=y) (h:AO P F ops l (σ.set k y) K):AO P F ops l σ K:=
 AO.weak (fun _ _ ⟨H,r⟩=>⟨H,r.setAV (hxy ▸ r.slot k _ hk)⟩) h
theorem AW.say {c:Code} {Q:Exit->St->Prop} {x:AV} (k:Nat) (y:AV) (hk:σ.get k=some x) (hxy:x=y) (h:AW P F c (σ.set k y) Q):AW P F c σ Q:=
 AW.weak (fun _ _ ⟨H,r⟩=>⟨H,r.setAV (hxy ▸ r.slot k _ hk)⟩) h
theorem VRel.pack {S:Nat->Prop} {l:List D} {v:Value} (h:VRel w S H (.agg (l.map .d)) v):VRel w S H (.d (.agg l)) v:=by
 generalize hl:l.map AV.d=cs at h;cases h with
 | agg _ arr hs h=>
  subst hl;refine .d _ _ (.agg l arr (by simpa using hs) fun i hi => ?_);have:=h i (by simpa using hi);have he:(l.map AV.d).getD i default = .d (l.getD i default):=by simp [List.getD_eq_getElem?_getD,hi]
  rw [he] at this;cases this with
  | d _ _ h=>exact h
theorem AO.pack {l:List (Nat×Oper)} {ds:List D} {y:D} (k:Nat) (hk:σ.get k=some (.agg (ds.map .d))) (hy:y = .agg ds) (h:AO P F ops l (σ.set k (.d y)) K):AO P F ops l σ K:=by
 subst hy;exact AO.weak (fun _ _ ⟨H,r⟩=>⟨H,r.setAV (r.slot k _ hk).pack⟩) h
theorem RO.field {s:TypeId} {x:Operand} {i off ft size:Nat} {l:List AV} {c:AV} (ho:o.op = .field s x i) (hf:FA P s i off ft size) (hx:σ.ev x=some (.agg l)) (hc:l[off]? =some c) {dsc:TypeDesc} (ht:P.underlying ft=some dsc) (hn:dAgg dsc=false):RO P F σ o c:=fun H a w r=>by
 have hv:=r.ev hx;have hi:off < l.length:=(List.getElem?_eq_some_iff.1 hc).1;obtain ⟨fs,hu,f,hfi,rfl,rfl⟩:=hf.un;generalize he:a.eval x=u at hv;cases hv with
 | agg _ cs hs h=>
  have hg:cs[f.offset]? =some (cs.getD f.offset undef):=by simp [hs,hi]
  refine ⟨cs.getD f.offset undef,fun w' _ => ?_,?_⟩
  ·simp only [execOp,ho,he,Instr.field,Sem.run_bind,run_underlying hu,Result.andThen_ok,hfi,asAgg,Sem.run_pure,part,zek ht,hn,hg];rfl
  ·have:=h f.offset hi;simpa [List.getD_eq_getElem?_getD,hc] using this
theorem RO.field_d {s:TypeId} {x:Operand} {i off ft size:Nat} {l:List D} {c:D} (ho:o.op = .field s x i) (hf:FA P s i off ft size) (hx:σ.ev x=some (.d (.agg l))) (hc:l[off]? =some c) {dsc:TypeDesc} (ht:P.underlying ft=some dsc) (hn:dAgg dsc=false):RO P F σ o (.d c):=fun H a w r=>by
 have hv:=r.ev hx;have hi:off < l.length:=(List.getElem?_eq_some_iff.1 hc).1;obtain ⟨fs,hu,f,hfi,rfl,rfl⟩:=hf.un;generalize he:a.eval x=u at hv;cases hv with
 | d _ _ hd=>
  cases hd with
  | agg _ cs hs h=>
   have hg:cs[f.offset]? =some (cs.getD f.offset undef):=by simp [hs,hi]
   refine ⟨cs.getD f.offset undef,fun w' _ => ?_,?_⟩
   ·simp only [execOp,ho,he,Instr.field,Sem.run_bind,run_underlying hu,Result.andThen_ok,hfi,asAgg,Sem.run_pure,part,zek ht,hn,hg];rfl
   ·have:=h f.offset hi;exact .d _ _ (by simpa [List.getD_eq_getElem?_getD,hc] using this)
end
end Go.Ab
