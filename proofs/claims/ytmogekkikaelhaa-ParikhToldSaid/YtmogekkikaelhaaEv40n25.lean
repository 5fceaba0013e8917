import Derived.Test.YtmogekkikaelhaaEv40n2
import Derived.DeepKeys3
set_option linter.unusedVariables false
set_option linter.unusedSimpArgs false
set_option linter.unusedVariables false
set_option linter.unusedSimpArgs false
set_option linter.unusedSectionVars false
namespace Go.Ab
open Enc (enc)
def Ty.plain:Ty->Bool
 | .list _=>false
 | .tree _=>false
 | .pair a b=>a.plain && b.plain
 | _=>true
def zaC:(t:Ty)->t.den->List Value
 | .int k,n=>[.int k n]
 | .bool,b=>[.bool b]
 | .str,s=>[.string ⟨⟨s⟩⟩]
 | .list _,_=>[undef]
 | .tree _,_=>[undef]
 | .unit,_=>[]
 | .pair a b,x=>zaC a x.1++zaC b x.2
def keyV:(t:Ty)->t.den->Value
 | .int k,n => .int k n
 | .bool,b => .bool b
 | .str,s => .string ⟨⟨s⟩⟩
 | .list _,_=>undef
 | .tree _,_=>undef
 | .unit,_ => .agg #[]
 | .pair a b,x => .agg (zaC a x.1++zaC b x.2).toArray
theorem zbI:∀ (t:Ty) (x:t.den),(zaC t x).length=t.sz
 | .int _,_=>rfl
 | .bool,_=>rfl
 | .str,_=>rfl
 | .list _,_=>rfl
 | .tree _,_=>rfl
 | .unit,_=>rfl
 | .pair a b,x=>by
  show (zaC a x.1++zaC b x.2).length=a.sz+b.sz;rw [List.length_append,zbI a,zbI b]
theorem zcR {t:Ty} (h:t.agg=true) (x:t.den):keyV t x = .agg (zaC t x).toArray:=by
 cases t<;>first | rfl | (simp [Ty.agg] at h)
theorem zpH {t:Ty} (h:t.agg=false) (x:t.den):zaC t x=[keyV t x]:=by
 cases t<;>first | rfl | (simp [Ty.agg] at h;done)
theorem zkQ {w:World} {S:Nat->Prop}:∀ {t:Ty} (hp:t.plain=true) (x:t.den) (vs:List Value),vs.length=t.sz->(∀ i,i < t.sz->DRel w S ((encD t x).cells.getD i default) (vs.getD i undef))->vs=zaC t x
 | .int k,_,x,[v],_,h=>by have:=h 0 (by simp [Ty.sz]);cases this;rfl
 | .bool,_,x,[v],_,h=>by have:=h 0 (by simp [Ty.sz]);cases this;rfl
 | .str,_,x,[v],_,h=>by have:=h 0 (by simp [Ty.sz]);cases this;rfl
 | .list _,hp,_,_,_,_=>by cases hp
 | .tree _,hp,_,_,_,_=>by cases hp
 | .unit,_,_,[],_,_=>rfl
 | .pair a b,hp,x,vs,hl,h=>by
  have hp:a.plain=true/\b.plain=true:=by simpa [Ty.plain] using hp
  have hl:vs.length=a.sz+b.sz:=hl;have ha:=zau a x.1;have hb:=zau b x.2;have h:∀ i,i < a.sz+b.sz->DRel w S (((encD a x.1).cells++(encD b x.2).cells).getD i default) (vs.getD i undef):=h;have e1:=zkQ hp.1 x.1 (vs.take a.sz) (by simp;omega) (fun i hi=>by
   have:=h i (by omega);rw [List.getD_eq_getElem?_getD,List.getElem?_append_left (by omega)] at this;rw [List.getD_eq_getElem?_getD,List.getD_eq_getElem?_getD,List.getElem?_take,if_pos hi]
   rwa [List.getD_eq_getElem?_getD] at this)
  have e2:=zkQ hp.2 x.2 (vs.drop a.sz) (by simp;omega) (fun i hi=>by
   have:=h (a.sz+i) (by omega);rw [List.getD_eq_getElem?_getD,List.getElem?_append_right (by omega),ha,Nat.add_sub_cancel_left] at this;rw [List.getD_eq_getElem?_getD,List.getD_eq_getElem?_getD,List.getElem?_drop]
   rwa [List.getD_eq_getElem?_getD] at this)
  show vs=zaC a x.1++zaC b x.2;rw [<- e1,<- e2,List.take_append_drop]
theorem zgJ {w:World} {S:Nat->Prop} {t:Ty} (hp:t.plain=true) {x:t.den} {v:Value} (h:DRel w S (encD t x) v):v=keyV t x:=by
 cases t with
 | int k=>cases h;rfl
 | bool=>cases h;rfl
 | str=>cases h;rfl
 | list _=>cases hp
 | tree _=>cases hp
 | unit=>
  cases h with
  | agg l cs hs _=>
   have:cs=#[]:=Array.eq_empty_of_size_eq_zero (by simpa using hs);rw [this];rfl
 | pair a b=>
  have hlen:=zau (.pair a b) x;generalize he:encD (.pair a b) x=d at h hlen;have he':d = .agg ((encD a x.1).cells++(encD b x.2).cells):=he.symm;cases h with
  | agg l cs hs hr=>
   have e:=zkQ (t := .pair a b) hp x cs.toList (by rw [Array.length_toList,hs];exact hlen) (fun i hi=>by
    rw [he];have:=hr i (by rw [<- hs];rw [hs];exact (by rw [show l.length=(Ty.pair a b).sz from hlen];exact hi));simpa [Array.getD_eq_getD_getElem?, List.getD_eq_getElem?_getD,D.cells] using this)
   show Value.agg cs = .agg (zaC (.pair a b) x).toArray;rw [<- e]
  | lit v h=>cases he'
  | ptr=>cases he'
  | nil=>cases he'
  | sl=>cases he'
theorem znx:∀ {t:Ty} (hp:t.plain=true) {x y:t.den},zaC t x=zaC t y->x=y
 | .int k,_,x,y,h=>by injection h with h;injection h
 | .bool,_,x,y,h=>by injection h with h;injection h
 | .str,_,x,y,h=>by injection h with h;injection h with h;injection h with h;injection h
 | .list _,hp,_,_,_=>by cases hp
 | .tree _,hp,_,_,_=>by cases hp
 | .unit,_,_,_,_=>rfl
 | .pair a b,hp,x,y,h=>by
  have hp:a.plain=true/\b.plain=true:=by simpa [Ty.plain] using hp
  have h:zaC a x.1++zaC b x.2=zaC a y.1++zaC b y.2:=h;obtain ⟨h1,h2⟩:=List.append_inj h (by rw [zbI,zbI]);exact Prod.ext (znx hp.1 h1) (znx hp.2 h2)
noncomputable def eqB {α:Type} (x y:α):Bool := @decide (x=y) (Classical.propDecidable _)
theorem zcx {α:Type} {x y:α}:eqB x y=true↔x=y := @decide_eq_true_iff _ (Classical.propDecidable _)
theorem zra {α:Type} {x y:α} (h:x≠y):eqB x y=false:=by
 cases e:eqB x y with
 | false=>rfl
 | true=>exact absurd (zcx.1 e) h
def SzT (P:Program) (id:TypeId) (t:Ty):Prop:=∃ d i,P.underlying id=some d/\dAgg d=t.agg/\P.info? id=some i/\i.size=t.sz
def zgo:Nat->Ty->Ty
 | 0,_ => .unit
 | n+1,a => .pair a (zgo n a)
def KFs (R:TypeId->Ty->Prop):List Field->Nat->Ty->Prop
 | [],_,t=>t = .unit
 | f::fs,off,t=>match t with
  | .pair a b => f.name ≠ "_" /\ f.offset = off /\ R f.type a /\ KFs R fs (off + a.sz) b
  | _=>False
def KeyT (P:Program):Nat->TypeId->Ty->Prop
 | 0,_,_=>False
 | d+1,id,t=>SzT P id t/\((∃ q,P.underlying id=some (.int q)/\t = .int q)\/(P.underlying id=some .string/\t = .str)\/(P.underlying id=some .bool/\t = .bool)\/
  (∃ fa:Array Field,P.underlying id=some (.struct fa)/\P.stoodInHeld id=false/\KFs (KeyT P d) fa.toList 0 t)\/
  (∃ n e a,P.underlying id=some (.array n e)/\KeyT P d e a/\t=zgo n a))
section
variable {P:Program} {w:World}
theorem KeyT.sz {d:Nat} {id:TypeId} {t:Ty} (h:KeyT P d id t):SzT P id t:=by
 cases d with
 | zero=>cases h
 | succ d=>exact h.1
theorem SzT.size {id:TypeId} {t:Ty} (h:SzT P id t):(sizeOf id).run P w = .ok t.sz w:=by
 obtain ⟨d,i,_,_,hi,hs⟩:=h;simp [sizeOf,typeInfo,hi,hs]
theorem SzT.part {id:TypeId} {a:Ty} (h:SzT P id a) {x:a.den} {xs:Array Value} {pre post:List Value} (hx:xs.toList=pre++(zaC a x++post)):(part id xs pre.length).run P w = .ok (keyV a x) w:=by
 have hsz:=h.size (w:=w);obtain ⟨d,i,hd,hg,hi,hs⟩:=h;have hl:=zbI a x;cases e:a.agg with
 | true=>
  rw [e] at hg;have e1:(xs.extract pre.length (pre.length+a.sz)).toList=zaC a x:=by
   rw [Array.toList_extract];simp only [List.extract];rw [hx,List.drop_append_of_le_length (by omega),List.drop_length,List.nil_append,Nat.add_sub_cancel_left,List.take_append_of_le_length (by omega),List.take_of_length_le (by omega)]
  have e2:xs.extract pre.length (pre.length+a.sz)=(zaC a x).toArray:=by
   rw [<- e1]
  simp only [Go.part,Sem.run_bind,zek hd,hg,Result.andThen_ok,if_true,hsz,Sem.run_pure,e2,zcR e]
 | false=>
  rw [e] at hg;have e1:xs[pre.length]? =some (keyV a x):=by
   have:=congrArg (fun l=>l[pre.length]?) hx;rw [zpH e] at this;simpa using this
  simp [Go.part,Sem.run_bind,zek hd,hg,Result.andThen_ok,e1,Sem.run_pure]
theorem zuM (a:Ty):∀ n,(zgo n a).sz=n * a.sz
 | 0=>by simp [zgo,Ty.sz]
 | n+1=>by show a.sz+(zgo n a).sz=_;rw [zuM a n,Nat.succ_mul,Nat.add_comm]
theorem zir {dd:Nat} {R:TypeId->Ty->Prop} (hR:∀ id t,R id t->SzT P id t/\∀ (x y:t.den),(Op.equalIn dd id (keyV t x) (keyV t y)).run P w = .ok (eqB x y) w) {xs ys:Array Value}:
  ∀ (fs:List Field) (off:Nat) (t:Ty) (x y:t.den) (p q:List Value),KFs R fs off t->p.length=off->q.length=off->xs.toList=p++zaC t x->ys.toList=q++zaC t y->
   (Op.eqFields dd xs ys fs).run P w = .ok (eqB x y) w
 | [],off,t,x,y,p,q,hk,_,_,_,_=>by
  have hk:t = .unit:=hk;subst hk;simp only [Op.eqFields,Sem.run_pure];rw [zcx.2 (show x=y from rfl)]
 | f::fs,off,t,x,y,p,q,hk,hp,hq,hx,hy=>by
  cases t with
  | pair a b=>
   obtain ⟨hn, ho, hr, hk⟩ : f.name ≠ "_" /\ f.offset = off /\ R f.type a /\ KFs R fs (off + a.sz) b := hk;obtain ⟨hs, heq⟩ := hR _ _ hr;have hx : xs.toList = p ++ (zaC a x.1 ++ zaC b x.2) := hx;have hy : ys.toList = q ++ (zaC a y.1 ++ zaC b y.2) := hy;have p1 := hs.part (P := P) (w := w) hx;have p2 := hs.part (P := P) (w := w) hy;rw [hp, <- ho] at p1;rw [hq, <- ho] at p2;have ih := zir hR fs (off + a.sz) b x.2 y.2 (p ++ zaC a x.1) (q ++ zaC a y.1) hk (by rw [List.length_append, hp, zbI]) (by rw [List.length_append, hq, zbI]) (by rw [hx, List.append_assoc]) (by rw [hy, List.append_assoc]);have e:eqB x y=(eqB x.1 y.1 && eqB x.2 y.2):=by
    rw [Bool.eq_iff_iff,Bool.and_eq_true,zcx,zcx,zcx];exact ⟨fun e=>by rw [e];exact ⟨rfl,rfl⟩,fun ⟨e1,e2⟩=>Prod.ext e1 e2⟩
   simp only [Op.eqFields,hn,ne_eq,not_false_eq_true,if_true,Sem.run_bind,p1,p2,heq,Result.andThen_ok];rw [e];by_cases c:x.1=y.1
   ·simp only [zcx.2 c,Bool.not_true,Bool.false_eq_true,if_false,Bool.true_and];exact ih
   ·simp only [zra c,Bool.not_false,if_true,Bool.false_and,Sem.run_pure]
  | _=>cases hk
theorem zjJ {dd:Nat} {e:TypeId} {a:Ty} (hs:SzT P e a) (heq:∀ (x y:a.den),(Op.equalIn dd e (keyV a x) (keyV a y)).run P w = .ok (eqB x y) w) {xs ys:Array Value}:
  ∀ (n k:Nat) (x y:(zgo n a).den) (p q:List Value),p.length=k * a.sz->q.length=k * a.sz->xs.toList=p++zaC (zgo n a) x->ys.toList=q++zaC (zgo n a) y->
   (Op.eqItems dd e a.sz xs ys (List.range' k n)).run P w = .ok (eqB x y) w
 | 0,k,x,y,p,q,_,_,_,_=>by
  simp only [List.range'_zero,Op.eqItems,Sem.run_pure];rw [zcx.2 (show x=y from rfl)]
 | n+1,k,x,y,p,q,hp,hq,hx,hy=>by
  have hx:xs.toList=p++(zaC a x.1++zaC (zgo n a) x.2):=hx;have hy:ys.toList=q++(zaC a y.1++zaC (zgo n a) y.2):=hy;have p1:=hs.part (P:=P) (w:=w) hx;have p2:=hs.part (P:=P) (w:=w) hy;rw [hp] at p1;rw [hq] at p2;have ih:=zjJ hs heq n (k+1) x.2 y.2 (p++zaC a x.1) (q++zaC a y.1) (by rw [List.length_append,hp,zbI,Nat.succ_mul]) (by rw [List.length_append,hq,zbI,Nat.succ_mul]) (by rw [hx,List.append_assoc]) (by rw [hy,List.append_assoc]);have e:eqB x y=(eqB x.1 y.1 && eqB x.2 y.2):=by
   rw [Bool.eq_iff_iff,Bool.and_eq_true,zcx,zcx,zcx];exact ⟨fun e=>by rw [e];exact ⟨rfl,rfl⟩,fun ⟨e1,e2⟩=>Prod.ext e1 e2⟩
  simp only [List.range'_succ,Op.eqItems,Sem.run_bind,p1,p2,heq,Result.andThen_ok];rw [e];by_cases c:x.1=y.1
  ·simp only [zcx.2 c,Bool.not_true,Bool.false_eq_true,if_false,Bool.true_and];exact ih
  ·simp only [zra c,Bool.not_false,if_true,Bool.false_and,Sem.run_pure]
theorem KeyT.un {d:Nat} {id:TypeId} {t:Ty} (h:SzT P id t) {kd:TypeDesc} (hu:P.underlying id=some kd):dAgg kd=t.agg:=by
 obtain ⟨d,i,hd,hg,_⟩:=h;rw [hu] at hd;cases hd;exact hg
theorem zhc:∀ (d m:Nat) (id:TypeId) (t:Ty),KeyT P d id t->∀ (w:World) (x y:t.den),(Op.equalIn (m+d) id (keyV t x) (keyV t y)).run P w = .ok (eqB x y) w
 | 0,_,_,_,h,_,_,_=>by cases h
 | d+1,m,id,t,⟨hs,h⟩,w,x,y=>by
  rcases h with ⟨q,hu,rfl⟩ | ⟨hu,rfl⟩ | ⟨hu,rfl⟩ | ⟨fa,hu,hp,hk⟩ | ⟨n,e,a,hu,hk,rfl⟩
  ·refine (run_equalIn_int w (m+d) id q q x y hu).trans ?_;congr 1;rw [Bool.eq_iff_iff,beq_iff_eq,zcx]
  ·refine (run_equalIn_string w (m+d) id ⟨⟨x⟩⟩ ⟨⟨y⟩⟩ hu).trans ?_;congr 1;rw [<- beq_toListBytes,Bool.eq_iff_iff,zkO,zcx];exact ⟨fun e=>by injection e with e;injection e,fun e=>by rw [e]⟩
  ·refine (run_equalIn_bool' w (m+d) id x y hu).trans ?_;congr 1;rw [Bool.eq_iff_iff,beq_iff_eq,zcx]
  ·have hg:true=t.agg:=KeyT.un (d:=d) hs hu;have hfs:P.fieldsOf id=fa:=by simp [Program.fieldsOf,hu]
   rw [zcR hg.symm,zcR hg.symm];refine (run_equalIn_struct w (m+d) id _ _ (by rw [hfs];exact hu) hp).trans ?_;rw [hfs];exact zir (R:=KeyT P d) (fun id t h=>⟨h.sz,fun x y=>zhc d m id t h w x y⟩) fa.toList 0 t x y [] [] hk rfl rfl rfl rfl
  ·have hg:true=(zgo n a).agg:=KeyT.un (d:=d) hs hu;have hse:=hk.sz;obtain ⟨_,i,_,_,hi,hsz⟩:=hse;have hc:P.cellsOf e=a.sz:=by simp [Program.cellsOf,hi,hsz]
   rw [zcR hg.symm,zcR hg.symm];refine (run_equalIn_array w (m+d) _ _ hu hi).trans ?_;rw [hc,List.range_eq_range'];exact zjJ hk.sz (fun x y=>zhc d m e a hk w x y) n 0 x y [] [] (by simp) (by simp) rfl rfl
theorem zjg (em:Bool):∀ (d m:Nat) (id:TypeId) (t:Ty),KeyT P d id t->∀ (w:World) (x:t.den),(Instr.checkKey em (m+d) id (keyV t x)).run P w = .ok () w
 | 0,_,_,_,h,_,_=>by cases h
 | d+1,m,id,t,⟨hs,h⟩,w,x=>by
  rcases h with ⟨q,hu,rfl⟩ | ⟨hu,rfl⟩ | ⟨hu,rfl⟩ | ⟨fa,hu,hp,hk⟩ | ⟨n,e,a,hu,hk,rfl⟩
  ·exact MapKept.run_checkKey (k := .int q x) hu rfl em (m+d)
  ·exact MapKept.run_checkKey (k := .string ⟨⟨x⟩⟩) hu trivial em (m+d)
  ·exact MapKept.run_checkKey (k := .bool x) hu trivial em (m+d)
  ·have hg:true=t.agg:=KeyT.un (d:=d) hs hu;rw [zcR hg.symm,show m+(d+1)=(m+d)+1 from rfl,Instr.checkKey];simp only [Sem.run_bind,run_underlying hu,Result.andThen_ok];rw [<- Array.forIn_toList];have key:∀ (fs:List Field) (off:Nat) (t:Ty) (x:t.den) (xs:Array Value) (p:List Value),KFs (KeyT P d) fs off t->p.length=off->xs.toList=p++zaC t x->
     ((forIn fs PUnit.unit fun f r => if f.name ≠ "_" then do
      Instr.checkKey em (m+d) f.type (<- part f.type xs f.offset)
      pure (ForInStep.yield PUnit.unit) else pure (ForInStep.yield PUnit.unit)):Sem PUnit).run P w = .ok PUnit.unit w:=by
    intro fs;induction fs with
    | nil=>intros;simp
    | cons f fs ih=>
     intro off t x xs p hk hp hx;cases t with
     | pair a b=>
      obtain ⟨hn, ho, hr, hk⟩ : f.name ≠ "_" /\ f.offset = off /\ KeyT P d f.type a /\ KFs (KeyT P d) fs (off + a.sz) b := hk;have hx : xs.toList = p ++ (zaC a x.1 ++ zaC b x.2) := hx;have p1 := hr.sz.part (P := P) (w := w) hx;rw [hp, <- ho] at p1;have p2 := zjg em d m f.type a hr w x.1;simp only [List.forIn_cons, Sem.run_bind, hn, ne_eq, not_false_eq_true, if_true, Result.andThen_ok, p1, p2, Sem.run_pure];exact ih (off + a.sz) b x.2 xs (p ++ zaC a x.1) hk (by rw [List.length_append, hp, zbI]) (by rw [hx, List.append_assoc])
     | _=>cases hk
   have k0:=key fa.toList 0 t x (zaC t x).toArray [] hk rfl rfl;rw [k0];rfl
  ·have hg:true=(zgo n a).agg:=KeyT.un (d:=d) hs hu;have hsz:=hk.sz.size (w:=w);rw [zcR hg.symm,show m+(d+1)=(m+d)+1 from rfl,Instr.checkKey];simp only [Sem.run_bind,run_underlying hu,Result.andThen_ok];simp only [Std.Legacy.Range.forIn_eq_forIn_range',Std.Legacy.Range.size,Nat.sub_zero,Nat.add_one_sub_one,Nat.div_one];have key:∀ (n k:Nat) (x:(zgo n a).den) (xs:Array Value) (p:List Value),p.length=k * a.sz->xs.toList=p++zaC (zgo n a) x->
     ((forIn (List.range' k n) PUnit.unit fun i r=>do
      let s <- sizeOf e
      let v <- part e xs (i * s)
      Instr.checkKey em (m+d) e v
      pure (ForInStep.yield PUnit.unit)):Sem PUnit).run P w = .ok PUnit.unit w:=by
    intro n;induction n with
    | zero=>intros;simp
    | succ n ih=>
     intro k x xs p hp hx;have hx:xs.toList=p++(zaC a x.1++zaC (zgo n a) x.2):=hx;have p1:=hk.sz.part (P:=P) (w:=w) hx;rw [hp] at p1;have p2:=zjg em d m e a hk w x.1;simp only [List.range'_succ,List.forIn_cons,Sem.run_bind,hsz,Result.andThen_ok,p1,p2,Sem.run_pure];exact ih (k+1) x.2 xs (p++zaC a x.1) (by rw [List.length_append,hp,zbI,Nat.succ_mul]) (by rw [hx,List.append_assoc])
   have k0:=key n 0 x (zaC (zgo n a) x).toArray [] (by simp) rfl;rw [k0];rfl
theorem zdl {m:Nat}:∀ {t:Ty} (hp:t.plain=true) (x:t.den),∀ v∈zaC t x,Instr.sameBits m v v=true
 | .int k,_,x,v,h=>by rw [List.mem_singleton.1 h];unfold Instr.sameBits;simp
 | .bool,_,x,v,h=>by rw [List.mem_singleton.1 h];unfold Instr.sameBits;simp
 | .str,_,x,v,h=>by
  rw [List.mem_singleton.1 h];unfold Instr.sameBits;exact (zkO _ _).2 rfl
 | .list _,hp,_,_,_=>by cases hp
 | .tree _,hp,_,_,_=>by cases hp
 | .unit,_,_,v,h=>by cases h
 | .pair a b,hp,x,v,h=>by
  have hp:a.plain=true/\b.plain=true:=by simpa [Ty.plain] using hp
  rcases List.mem_append.1 (show v∈zaC a x.1++zaC b x.2 from h) with h | h
  ·exact zdl hp.1 x.1 v h
  ·exact zdl hp.2 x.2 v h
theorem zqE {t:Ty} (hp:t.plain=true) (x:t.den):(Instr.keyThatStays (keyV t x) (keyV t x)).run P w = .ok (keyV t x) w:=by
 have e:Instr.sameBits 10000 (keyV t x) (keyV t x)=true:=by
  cases h:t.agg with
  | false=>exact zdl hp x _ (by rw [zpH h];simp)
  | true=>
   rw [zcR h];have hall:=zdl (m:=9999) hp x;generalize zaC t x=l at hall;show ((l.toArray.size==l.toArray.size) && (l.toArray.toList.zip l.toArray.toList).all fun (x,y)=>Instr.sameBits 9999 x y)=true;rw [Bool.and_eq_true,beq_self_eq_true];refine ⟨rfl,List.all_eq_true.2 fun p hp => ?_⟩;have:p.1=p.2/\p.1∈l:=by
    simp only [List.toList_toArray] at hp;clear hall;induction l with
    | nil=>simp at hp
    | cons a l ih=>
     rw [List.zip_cons_cons,List.mem_cons] at hp;rcases hp with rfl | hp
     ·simp
     ·obtain ⟨h1,h2⟩:=ih hp;exact ⟨h1,by simp [h2]⟩
   rw [show p=(p.1,p.2) from rfl,<- this.1];exact hall _ this.2
 unfold Instr.keyThatStays;rw [if_pos e];rfl
theorem zgu {d:Nat} {kt:TypeId} {t:Ty} (hk:KeyT P d kt t) (hd:d<=10000) (hp:t.plain=true) {S:Nat->Prop} {w0:World} (x:t.den):
  ∀ (es:List MapEntry) (ks:List t.den) (i:Nat),es.length=ks.length->(∀ j,j < es.length->DRel w0 S ((ks.map (enc:t.den->D)).getD j default) (es.getD j default).key)->
   (Instr.findAsking kt (keyV t x) es i).run P w = .ok ((zbd ks x).map fun j=>(i+j,(es.getD j default).val)) w
 | [],[],i,_,_=>by simp [Instr.findAsking,zbd]
 | e::es,k::ks,i,hl,hr=>by
  have h0:e.key=keyV t k:=zgJ (w:=w0) (S:=S) hp (show DRel w0 S (enc k) e.key by simpa using hr 0 (by simp));have ih:=zgu hk hd hp x es ks (i+1) (by simpa using hl) (fun j h=>by simpa using hr (j+1) (by simpa using h));have heq:(Op.equal kt (keyV t x) (keyV t k)).run P w = .ok (eqB x k) w:=by
   have:=zhc (P:=P) d (10000 - d) kt t hk w x k;rw [Nat.sub_add_cancel hd] at this;exact this
  unfold Instr.findAsking zbd;simp only [h0,Sem.run_bind,heq,Result.andThen_ok];by_cases c:k=x
  ·rw [if_pos c,zcx.2 c.symm];simp
  ·rw [if_neg c,zra (Ne.symm c)];simp only [Bool.false_eq_true,if_false];rw [ih];cases zbd ks x with
   | none=>rfl
   | some j=>simp only [Option.map_some];congr 2;rw [Prod.mk.injEq];exact ⟨by omega,by simp⟩
theorem SK.ofKey {d:Nat} {kt:TypeId} {t:Ty} (hk:KeyT P d kt t) (hd:d<=10000) (hp:t.plain=true) (hg:t.agg=true):SK P kt t.den where
 eq w S x u v h1 h2:=(zgJ hp h1).trans (zgJ hp h2).symm
 check:=fun {w S x u} h em w'=>by
  rw [zgJ hp h];have:=zjg em d (10000 - d) kt t hk w' x
  rwa [Nat.sub_add_cancel hd] at this
 stays w S x u h w':=by rw [zgJ hp h];exact zqE hp x
 find:=fun {w S x u} hu {es ks} h1 hr w'=>by
  obtain rfl:=zgJ hp hu;obtain ⟨kd,_,hud,hag,_⟩:=hk.sz;rw [hg] at hag;unfold Instr.findKey;simp only [Sem.run_bind,run_underlying hud,Result.andThen_ok];have main:=zgu (P:=P) (w:=w') hk hd hp (S:=S) (w0:=w) x es.toList ks 0 (by simpa using h1) (fun j hj=>by
   have:=hr j (by simpa using hj);simpa [List.getD_eq_getElem?_getD,Array.getD_eq_getD_getElem?] using this)
  have e2:((zbd ks x).map fun j=>(0+j,(es.toList.getD j default).val))=(zbd ks x).map fun j=>(j,(es.getD j default).val):=by
   simp [Array.getD_eq_getD_getElem?, List.getD_eq_getElem?_getD]
  rw [e2] at main;cases hes:es.toList with
  | nil=>
   have:ks=[]:=List.length_eq_zero_iff.1 (by rw [<- h1,<- Array.length_toList,hes];rfl);subst this;rfl
  | cons e r=>
   have:Instr.findNow kd (keyV t x) (e::r) 0=none:=by
    unfold Instr.findNow;have:Instr.sameNow kd (keyV t x) e.key=none:=by
     cases kd<;>simp [dAgg] at hag<;>rfl
    rw [this]
   rw [this,<- hes];exact main
theorem KFs.nil {R:TypeId->Ty->Prop} {off:Nat}:KFs R [] off .unit:=rfl
theorem KFs.cons {R : TypeId -> Ty -> Prop} {f : Field} {fs : List Field} {off : Nat} {a b : Ty} (hn : f.name ≠ "_") (ho : f.offset = off) (hr : R f.type a) (hk : KFs R fs (off + a.sz) b) : KFs R (f :: fs) off (.pair a b) := ⟨hn, ho, hr, hk⟩
theorem KeyT.int {d:Nat} {id:TypeId} {q:IntKind} (hs:SzT P id (.int q)) (hu:P.underlying id=some (.int q)):KeyT P (d+1) id (.int q):=⟨hs,.inl ⟨q,hu,rfl⟩⟩
theorem KeyT.str {d:Nat} {id:TypeId} (hs:SzT P id .str) (hu:P.underlying id=some .string):KeyT P (d+1) id .str:=⟨hs,.inr (.inl ⟨hu,rfl⟩)⟩
theorem KeyT.bool {d:Nat} {id:TypeId} (hs:SzT P id .bool) (hu:P.underlying id=some .bool):KeyT P (d+1) id .bool:=⟨hs,.inr (.inr (.inl ⟨hu,rfl⟩))⟩
theorem KeyT.struct {d:Nat} {id:TypeId} {t:Ty} {fa:Array Field} (hs:SzT P id t) (hu:P.underlying id=some (.struct fa)) (hn:P.stoodInHeld id=false) (hk:KFs (KeyT P d) fa.toList 0 t):KeyT P (d+1) id t:=⟨hs,.inr (.inr (.inr (.inl ⟨fa,hu,hn,hk⟩)))⟩
theorem KeyT.array {d:Nat} {id e:TypeId} {n:Nat} {t a:Ty} (hs:SzT P id t) (hu:P.underlying id=some (.array n e)) (hk:KeyT P d e a) (ht:t=zgo n a):KeyT P (d+1) id t:=⟨hs,.inr (.inr (.inr (.inr ⟨n,e,a,hu,hk,ht⟩)))⟩
theorem SK.int' {id:TypeId} {q:IntKind} (h:P.underlying id=some (.int q)) : @SK P id (Ty.den (.int q)) (encI (.int q)) := @SK.of0 _ _ _ _ (encI (.int q)) (@SK0.int _ _ _ h (Ty.den (.int q)) (encI (.int q)) (fun x:Int=>x) (fun _ _ e=>e) (fun _=>rfl))
theorem SK.str' {id:TypeId} (h:P.underlying id=some .string) : @SK P id (Ty.den .str) (encI .str) := @SK.of0 _ _ _ _ (encI .str) (@SK0.str _ _ h (Ty.den .str) (encI .str) (fun x:List UInt8=>⟨⟨x⟩⟩) (fun x y e=>by injection e with e;injection e) (fun _=>rfl))
end
end Go.Ab
