import Derived.Test.YtiiljakjbifdjaaEv38n2
import Derived.DeepKeys3
set_option linter.unusedVariables false
set_option linter.unusedSimpArgs false
set_option linter.unusedVariables false
set_option linter.unusedSimpArgs false
set_option linter.unusedSectionVars false
namespace Go.Ab
open Enc (enc)
def Ty.plain:Ty->Bool
 | .list _=>false
 | .tree _=>false
 | .pair a b=>a.plain && b.plain
 | _=>true
def zbP:(t:Ty)->t.den->List Value
 | .int k,n=>[.int k n]
 | .bool,b=>[.bool b]
 | .str,s=>[.string ⟨⟨s⟩⟩]
 | .list _,_=>[undef]
 | .tree _,_=>[undef]
 | .unit,_=>[]
 | .pair a b,x=>zbP a x.1++zbP b x.2
def keyV:(t:Ty)->t.den->Value
 | .int k,n => .int k n
 | .bool,b => .bool b
 | .str,s => .string ⟨⟨s⟩⟩
 | .list _,_=>undef
 | .tree _,_=>undef
 | .unit,_ => .agg #[]
 | .pair a b,x => .agg (zbP a x.1++zbP b x.2).toArray
theorem zej:∀ (t:Ty) (x:t.den),(zbP t x).length=t.sz
 | .int _,_=>rfl
 | .bool,_=>rfl
 | .str,_=>rfl
 | .list _,_=>rfl
 | .tree _,_=>rfl
 | .unit,_=>rfl
 | .pair a b,x=>by
  show (zbP a x.1++zbP b x.2).length=a.sz+b.sz;rw [List.length_append,zej a,zej b]
theorem zgp {t:Ty} (h:t.agg=true) (x:t.den):keyV t x = .agg (zbP t x).toArray:=by
 cases t<;>first | rfl | (simp [Ty.agg] at h)
theorem zvk {t:Ty} (h:t.agg=false) (x:t.den):zbP t x=[keyV t x]:=by
 cases t<;>first | rfl | (simp [Ty.agg] at h;done)
theorem znC {w:World} {S:Nat->Prop}:∀ {t:Ty} (hp:t.plain=true) (x:t.den) (vs:List Value),vs.length=t.sz->(∀ i,i < t.sz->DRel w S ((encD t x).cells.getD i default) (vs.getD i undef))->vs=zbP t x
 | .int k,_,x,[v],_,h=>by have:=h 0 (by simp [Ty.sz]);cases this;rfl
 | .bool,_,x,[v],_,h=>by have:=h 0 (by simp [Ty.sz]);cases this;rfl
 | .str,_,x,[v],_,h=>by have:=h 0 (by simp [Ty.sz]);cases this;rfl
 | .list _,hp,_,_,_,_=>by cases hp
 | .tree _,hp,_,_,_,_=>by cases hp
 | .unit,_,_,[],_,_=>rfl
 | .pair a b,hp,x,vs,hl,h=>by
  have hp:a.plain=true/\b.plain=true:=by simpa [Ty.plain] using hp
  have hl:vs.length=a.sz+b.sz:=hl;have ha:=zaG a x.1;have hb:=zaG b x.2;have h:∀ i,i < a.sz+b.sz->DRel w S (((encD a x.1).cells++(encD b x.2).cells).getD i default) (vs.getD i undef):=h;have e1:=znC hp.1 x.1 (vs.take a.sz) (by simp;omega) (fun i hi=>by
   have:=h i (by omega)
   rw [List.getD_eq_getElem?_getD,List.getElem?_append_left (by omega)] at this
   rw [List.getD_eq_getElem?_getD,List.getD_eq_getElem?_getD,List.getElem?_take,if_pos hi]
   rwa [List.getD_eq_getElem?_getD] at this)
  have e2:=znC hp.2 x.2 (vs.drop a.sz) (by simp;omega) (fun i hi=>by
   have:=h (a.sz+i) (by omega)
   rw [List.getD_eq_getElem?_getD,List.getElem?_append_right (by omega),ha,Nat.add_sub_cancel_left] at this
   rw [List.getD_eq_getElem?_getD,List.getD_eq_getElem?_getD,List.getElem?_drop]
   rwa [List.getD_eq_getElem?_getD] at this)
  show vs=zbP a x.1++zbP b x.2;rw [<- e1,<- e2,List.take_append_drop]
theorem zuk {w:World} {S:Nat->Prop} {t:Ty} (hp:t.plain=true) {x:t.den} {v:Value} (h:DRel w S (encD t x) v):v=keyV t x:=by
 cases t with
 | int k=>cases h;rfl
 | bool=>cases h;rfl
 | str=>cases h;rfl
 | list _=>cases hp
 | tree _=>cases hp
 | unit=>
  cases h with
  | agg l cs hs _=>
   have:cs=#[]:=Array.eq_empty_of_size_eq_zero (by simpa using hs)
   rw [this];rfl
 | pair a b=>
  have hlen:=zaG (.pair a b) x;generalize he:encD (.pair a b) x=d at h hlen;have he':d = .agg ((encD a x.1).cells++(encD b x.2).cells):=he.symm
  cases h with
  | agg l cs hs hr=>
   have e:=znC (t := .pair a b) hp x cs.toList (by rw [Array.length_toList,hs];exact hlen) (fun i hi=>by
    rw [he];have:=hr i (by rw [<- hs];rw [hs];exact (by rw [show l.length=(Ty.pair a b).sz from hlen];exact hi))
    simpa [Array.getD_eq_getD_getElem?, List.getD_eq_getElem?_getD,D.cells] using this)
   show Value.agg cs = .agg (zbP (.pair a b) x).toArray;rw [<- e]
  | lit v h=>cases he'
  | ptr=>cases he'
  | nil=>cases he'
  | sl=>cases he'
noncomputable def eqB {α:Type} (x y:α):Bool := @decide (x=y) (Classical.propDecidable _)
theorem zdR {α:Type} {x y:α}:eqB x y=true↔x=y := @decide_eq_true_iff _ (Classical.propDecidable _)
theorem zvJ {α:Type} {x y:α} (h:x≠y):eqB x y=false:=by
 cases e:eqB x y with
 | false=>rfl
 | true=>exact absurd (zdR.1 e) h
def SzT (P:Program) (id:TypeId) (t:Ty):Prop:=∃ d i,P.underlying id=some d/\dAgg d=t.agg/\P.info? id=some i/\i.size=t.sz
def zqj:Nat->Ty->Ty
 | 0,_ => .unit
 | n+1,a => .pair a (zqj n a)
def KFs (R:TypeId->Ty->Prop):List Field->Nat->Ty->Prop
 | [],_,t=>t = .unit
 | f::fs,off,t=>match t with
  | .pair a b => f.name ≠ "_" /\ f.offset = off /\ R f.type a /\ KFs R fs (off + a.sz) b
  | _=>False
def KeyT (P:Program):Nat->TypeId->Ty->Prop
 | 0,_,_=>False
 | d+1,id,t=>SzT P id t/\((∃ q,P.underlying id=some (.int q)/\t = .int q)\/(P.underlying id=some .string/\t = .str)\/(P.underlying id=some .bool/\t = .bool)\/
  (∃ fa:Array Field,P.underlying id=some (.struct fa)/\P.stoodInHeld id=false/\KFs (KeyT P d) fa.toList 0 t)\/
  (∃ n e a,P.underlying id=some (.array n e)/\KeyT P d e a/\t=zqj n a))
section
variable {P:Program} {w:World}
theorem KeyT.sz {d:Nat} {id:TypeId} {t:Ty} (h:KeyT P d id t):SzT P id t:=by
 cases d with
 | zero=>cases h
 | succ d=>exact h.1
theorem SzT.size {id:TypeId} {t:Ty} (h:SzT P id t):(sizeOf id).run P w = .ok t.sz w:=by
 obtain ⟨d,i,_,_,hi,hs⟩:=h;simp [sizeOf,typeInfo,hi,hs]
theorem SzT.part {id:TypeId} {a:Ty} (h:SzT P id a) {x:a.den} {xs:Array Value} {pre post:List Value} (hx:xs.toList=pre++(zbP a x++post)):(part id xs pre.length).run P w = .ok (keyV a x) w:=by
 have hsz:=h.size (w:=w);obtain ⟨d,i,hd,hg,hi,hs⟩:=h;have hl:=zej a x
 cases e:a.agg with
 | true=>
  rw [e] at hg;have e1:(xs.extract pre.length (pre.length+a.sz)).toList=zbP a x:=by
   rw [Array.toList_extract];simp only [List.extract];rw [hx,List.drop_append_of_le_length (by omega),List.drop_length,List.nil_append,Nat.add_sub_cancel_left,List.take_append_of_le_length (by omega),List.take_of_length_le (by omega)]
  have e2:xs.extract pre.length (pre.length+a.sz)=(zbP a x).toArray:=by
   rw [<- e1]
  simp only [Go.part,Sem.run_bind,zf8 hd,hg,Result.andThen_ok,if_true,hsz,Sem.run_pure,e2,zgp e]
 | false=>
  rw [e] at hg;have e1:xs[pre.length]? =some (keyV a x):=by
   have:=congrArg (fun l=>l[pre.length]?) hx
   rw [zvk e] at this;simpa using this
  simp [Go.part,Sem.run_bind,zf8 hd,hg,Result.andThen_ok,e1,Sem.run_pure]
theorem zkR {dd:Nat} {R:TypeId->Ty->Prop} (hR:∀ id t,R id t->SzT P id t/\∀ (x y:t.den),(Op.equalIn dd id (keyV t x) (keyV t y)).run P w = .ok (eqB x y) w) {xs ys:Array Value}:
  ∀ (fs:List Field) (off:Nat) (t:Ty) (x y:t.den) (p q:List Value),KFs R fs off t->p.length=off->q.length=off->xs.toList=p++zbP t x->ys.toList=q++zbP t y->
   (Op.eqFields dd xs ys fs).run P w = .ok (eqB x y) w
 | [],off,t,x,y,p,q,hk,_,_,_,_=>by
  have hk:t = .unit:=hk;subst hk;simp only [Op.eqFields,Sem.run_pure];rw [zdR.2 (show x=y from rfl)]
 | f::fs,off,t,x,y,p,q,hk,hp,hq,hx,hy=>by
  cases t with
  | pair a b=>
   obtain ⟨hn, ho, hr, hk⟩ : f.name ≠ "_" /\ f.offset = off /\ R f.type a /\ KFs R fs (off + a.sz) b := hk;obtain ⟨hs, heq⟩ := hR _ _ hr;have hx : xs.toList = p ++ (zbP a x.1 ++ zbP b x.2) := hx;have hy : ys.toList = q ++ (zbP a y.1 ++ zbP b y.2) := hy;have p1 := hs.part (P := P) (w := w) hx;have p2 := hs.part (P := P) (w := w) hy;rw [hp, <- ho] at p1;rw [hq, <- ho] at p2;have ih := zkR hR fs (off + a.sz) b x.2 y.2 (p ++ zbP a x.1) (q ++ zbP a y.1) hk (by rw [List.length_append, hp, zej]) (by rw [List.length_append, hq, zej]) (by rw [hx, List.append_assoc]) (by rw [hy, List.append_assoc])
   have e:eqB x y=(eqB x.1 y.1 && eqB x.2 y.2):=by
    rw [Bool.eq_iff_iff,Bool.and_eq_true,zdR,zdR,zdR];exact ⟨fun e=>by rw [e];exact ⟨rfl,rfl⟩,fun ⟨e1,e2⟩=>Prod.ext e1 e2⟩
   simp only [Op.eqFields,hn,ne_eq,not_false_eq_true,if_true,Sem.run_bind,p1,p2,heq,Result.andThen_ok];rw [e];by_cases c:x.1=y.1
   ·simp only [zdR.2 c,Bool.not_true,Bool.false_eq_true,if_false,Bool.true_and];exact ih
   ·simp only [zvJ c,Bool.not_false,if_true,Bool.false_and,Sem.run_pure]
  | _=>cases hk
theorem zms {dd:Nat} {e:TypeId} {a:Ty} (hs:SzT P e a) (heq:∀ (x y:a.den),(Op.equalIn dd e (keyV a x) (keyV a y)).run P w = .ok (eqB x y) w) {xs ys:Array Value}:
  ∀ (n k:Nat) (x y:(zqj n a).den) (p q:List Value),p.length=k * a.sz->q.length=k * a.sz->xs.toList=p++zbP (zqj n a) x->ys.toList=q++zbP (zqj n a) y->
   (Op.eqItems dd e a.sz xs ys (List.range' k n)).run P w = .ok (eqB x y) w
 | 0,k,x,y,p,q,_,_,_,_=>by
  simp only [List.range'_zero,Op.eqItems,Sem.run_pure];rw [zdR.2 (show x=y from rfl)]
 | n+1,k,x,y,p,q,hp,hq,hx,hy=>by
  have hx:xs.toList=p++(zbP a x.1++zbP (zqj n a) x.2):=hx;have hy:ys.toList=q++(zbP a y.1++zbP (zqj n a) y.2):=hy;have p1:=hs.part (P:=P) (w:=w) hx;have p2:=hs.part (P:=P) (w:=w) hy;rw [hp] at p1;rw [hq] at p2;have ih:=zms hs heq n (k+1) x.2 y.2 (p++zbP a x.1) (q++zbP a y.1) (by rw [List.length_append,hp,zej,Nat.succ_mul]) (by rw [List.length_append,hq,zej,Nat.succ_mul]) (by rw [hx,List.append_assoc]) (by rw [hy,List.append_assoc])
  have e:eqB x y=(eqB x.1 y.1 && eqB x.2 y.2):=by
   rw [Bool.eq_iff_iff,Bool.and_eq_true,zdR,zdR,zdR];exact ⟨fun e=>by rw [e];exact ⟨rfl,rfl⟩,fun ⟨e1,e2⟩=>Prod.ext e1 e2⟩
  simp only [List.range'_succ,Op.eqItems,Sem.run_bind,p1,p2,heq,Result.andThen_ok];rw [e];by_cases c:x.1=y.1
  ·simp only [zdR.2 c,Bool.not_true,Bool.false_eq_true,if_false,Bool.true_and];exact ih
  ·simp only [zvJ c,Bool.not_false,if_true,Bool.false_and,Sem.run_pure]
theorem KeyT.un {d:Nat} {id:TypeId} {t:Ty} (h:SzT P id t) {kd:TypeDesc} (hu:P.underlying id=some kd):dAgg kd=t.agg:=by
 obtain ⟨d,i,hd,hg,_⟩:=h;rw [hu] at hd;cases hd;exact hg
theorem zl3:∀ (d m:Nat) (id:TypeId) (t:Ty),KeyT P d id t->∀ (w:World) (x y:t.den),(Op.equalIn (m+d) id (keyV t x) (keyV t y)).run P w = .ok (eqB x y) w
 | 0,_,_,_,h,_,_,_=>by cases h
 | d+1,m,id,t,⟨hs,h⟩,w,x,y=>by
  rcases h with ⟨q,hu,rfl⟩ | ⟨hu,rfl⟩ | ⟨hu,rfl⟩ | ⟨fa,hu,hp,hk⟩ | ⟨n,e,a,hu,hk,rfl⟩
  ·refine (run_equalIn_int w (m+d) id q q x y hu).trans ?_
   congr 1
   rw [Bool.eq_iff_iff,beq_iff_eq,zdR]
  ·refine (run_equalIn_string w (m+d) id ⟨⟨x⟩⟩ ⟨⟨y⟩⟩ hu).trans ?_
   congr 1
   rw [<- beq_toListBytes,Bool.eq_iff_iff,zty,zdR];exact ⟨fun e=>by injection e with e;injection e,fun e=>by rw [e]⟩
  ·refine (run_equalIn_bool' w (m+d) id x y hu).trans ?_
   congr 1
   rw [Bool.eq_iff_iff,beq_iff_eq,zdR]
  ·have hg:true=t.agg:=KeyT.un (d:=d) hs hu;have hfs:P.fieldsOf id=fa:=by simp [Program.fieldsOf,hu]
   rw [zgp hg.symm,zgp hg.symm];refine (run_equalIn_struct w (m+d) id _ _ (by rw [hfs];exact hu) hp).trans ?_
   rw [hfs];exact zkR (R:=KeyT P d) (fun id t h=>⟨h.sz,fun x y=>zl3 d m id t h w x y⟩) fa.toList 0 t x y [] [] hk rfl rfl rfl rfl
  ·have hg:true=(zqj n a).agg:=KeyT.un (d:=d) hs hu;have hse:=hk.sz;obtain ⟨_,i,_,_,hi,hsz⟩:=hse;have hc:P.cellsOf e=a.sz:=by simp [Program.cellsOf,hi,hsz]
   rw [zgp hg.symm,zgp hg.symm];refine (run_equalIn_array w (m+d) _ _ hu hi).trans ?_
   rw [hc,List.range_eq_range'];exact zms hk.sz (fun x y=>zl3 d m e a hk w x y) n 0 x y [] [] (by simp) (by simp) rfl rfl
theorem KFs.nil {R:TypeId->Ty->Prop} {off:Nat}:KFs R [] off .unit:=rfl
end
end Go.Ab
