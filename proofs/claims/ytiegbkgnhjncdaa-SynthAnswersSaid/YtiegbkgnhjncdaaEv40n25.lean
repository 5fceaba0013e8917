import Derived.Test.YtiegbkgnhjncdaaEv40n2
import Derived.DeepKeys3
set_option linter.unusedVariables false
set_option linter.unusedSimpArgs false
set_option linter.unusedVariables false
set_option linter.unusedSimpArgs false
set_option linter.unusedSectionVars false
namespace Go.Ab
open Enc (enc)
def Ty.plain:Ty->Bool
 | .list _=>false
 | .tree _=>false
 | .pair a b=>a.plain && b.plain
 | _=>true
def za3:(t:Ty)->t.den->List Value
 | .int k,n=>[.int k n]
 | .bool,b=>[.bool b]
 | .str,s=>[.string ⟨⟨s⟩⟩]
 | .list _,_=>[undef]
 | .tree _,_=>[undef]
 | .unit,_=>[]
 | .pair a b,x=>za3 a x.1++za3 b x.2
def keyV:(t:Ty)->t.den->Value
 | .int k,n => .int k n
 | .bool,b => .bool b
 | .str,s => .string ⟨⟨s⟩⟩
 | .list _,_=>undef
 | .tree _,_=>undef
 | .unit,_ => .agg #[]
 | .pair a b,x => .agg (za3 a x.1++za3 b x.2).toArray
theorem zd8:∀ (t:Ty) (x:t.den),(za3 t x).length=t.sz
 | .int _,_=>rfl
 | .bool,_=>rfl
 | .str,_=>rfl
 | .list _,_=>rfl
 | .tree _,_=>rfl
 | .unit,_=>rfl
 | .pair a b,x=>by
  show (za3 a x.1++za3 b x.2).length=a.sz+b.sz;rw [List.length_append,zd8 a,zd8 b]
theorem zfu {t:Ty} (h:t.agg=true) (x:t.den):keyV t x = .agg (za3 t x).toArray:=by
 cases t<;>first | rfl | (simp [Ty.agg] at h)
theorem zxP {t:Ty} (h:t.agg=false) (x:t.den):za3 t x=[keyV t x]:=by
 cases t<;>first | rfl | (simp [Ty.agg] at h;done)
theorem zrG {w:World} {S:Nat->Prop}:∀ {t:Ty} (c:t.plain=true) (x:t.den) (vs:List Value),vs.length=t.sz->(∀ i,i < t.sz->DRel w S ((encD t x).cells.getD i default) (vs.getD i undef))->vs=za3 t x
 | .int k,_,x,[v],_,h=>by have:=h 0 (by simp [Ty.sz]);cases this;rfl
 | .bool,_,x,[v],_,h=>by have:=h 0 (by simp [Ty.sz]);cases this;rfl
 | .str,_,x,[v],_,h=>by have:=h 0 (by simp [Ty.sz]);cases this;rfl
 | .list _,c,_,_,_,_=>by cases c
 | .tree _,c,_,_,_,_=>by cases c
 | .unit,_,_,[],_,_=>rfl
 | .pair a b,c,x,vs,e,h=>by
  have c:a.plain=true/\b.plain=true:=by simpa [Ty.plain] using c
  have e:vs.length=a.sz+b.sz:=e;have f:=zaF a x.1;have l:=zaF b x.2;have h:∀ i,i < a.sz+b.sz->DRel w S (((encD a x.1).cells++(encD b x.2).cells).getD i default) (vs.getD i undef):=h;have g:=zrG c.1 x.1 (vs.take a.sz) (by simp;omega) (fun i d=>by
   have:=h i (by omega);rw [List.getD_eq_getElem?_getD,List.getElem?_append_left (by omega)] at this;rw [List.getD_eq_getElem?_getD,List.getD_eq_getElem?_getD,List.getElem?_take,if_pos d]
   rwa [List.getD_eq_getElem?_getD] at this)
  have j:=zrG c.2 x.2 (vs.drop a.sz) (by simp;omega) (fun i d=>by
   have:=h (a.sz+i) (by omega);rw [List.getD_eq_getElem?_getD,List.getElem?_append_right (by omega),f,Nat.add_sub_cancel_left] at this;rw [List.getD_eq_getElem?_getD,List.getD_eq_getElem?_getD,List.getElem?_drop]
   rwa [List.getD_eq_getElem?_getD] at this)
  show vs=za3 a x.1++za3 b x.2;rw [<- g,<- j,List.take_append_drop]
theorem zlM {w:World} {S:Nat->Prop} {t:Ty} (g:t.plain=true) {x:t.den} {v:Value} (h:DRel w S (encD t x) v):v=keyV t x:=by
 cases t with
 | int k=>cases h;rfl
 | bool=>cases h;rfl
 | str=>cases h;rfl
 | list _=>cases g
 | tree _=>cases g
 | unit=>
  cases h with
  | agg l cs hs _=>
   have:cs=#[]:=Array.eq_empty_of_size_eq_zero (by simpa using hs);rw [this];rfl
 | pair a b=>
  have c:=zaF (.pair a b) x;generalize j:encD (.pair a b) x=d at h c;have f:d = .agg ((encD a x.1).cells++(encD b x.2).cells):=j.symm;cases h with
  | agg l cs hs n=>
   have e:=zrG (t := .pair a b) g x cs.toList (by rw [Array.length_toList,hs];exact c) (fun i m=>by
    rw [j];have:=n i (by rw [<- hs];rw [hs];exact (by rw [show l.length=(Ty.pair a b).sz from c];exact m));simpa [Array.getD_eq_getD_getElem?, List.getD_eq_getElem?_getD,D.cells] using this)
   show Value.agg cs = .agg (za3 (.pair a b) x).toArray;rw [<- e]
  | lit v h=>cases f
  | ptr=>cases f
  | nil=>cases f
  | sl=>cases f
noncomputable def eqB {α:Type} (x y:α):Bool := @decide (x=y) (Classical.propDecidable _)
theorem zeJ {α:Type} {x y:α}:eqB x y=true↔x=y := @decide_eq_true_iff _ (Classical.propDecidable _)
theorem zzB {α:Type} {x y:α} (h:x≠y):eqB x y=false:=by
 cases e:eqB x y with
 | false=>rfl
 | true=>exact absurd (zeJ.1 e) h
def SzT (P:Program) (id:TypeId) (t:Ty):Prop:=∃ d i,P.underlying id=some d/\dAgg d=t.agg/\P.info? id=some i/\i.size=t.sz
def zoa:Nat->Ty->Ty
 | 0,_ => .unit
 | n+1,a => .pair a (zoa n a)
def KFs (R:TypeId->Ty->Prop):List Field->Nat->Ty->Prop
 | [],_,t=>t = .unit
 | f::fs,off,t=>match t with
  | .pair a b => f.name ≠ "_" /\ f.offset = off /\ R f.type a /\ KFs R fs (off + a.sz) b
  | _=>False
def KeyT (P:Program):Nat->TypeId->Ty->Prop
 | 0,_,_=>False
 | d+1,id,t=>SzT P id t/\((∃ q,P.underlying id=some (.int q)/\t = .int q)\/(P.underlying id=some .string/\t = .str)\/(P.underlying id=some .bool/\t = .bool)\/
  (∃ b:Array Field,P.underlying id=some (.struct b)/\P.stoodInHeld id=false/\KFs (KeyT P d) b.toList 0 t)\/
  (∃ n e a,P.underlying id=some (.array n e)/\KeyT P d e a/\t=zoa n a))
section
variable {P:Program} {w:World}
theorem KeyT.sz {d:Nat} {id:TypeId} {t:Ty} (h:KeyT P d id t):SzT P id t:=by
 cases d with
 | zero=>cases h
 | succ d=>exact h.1
theorem SzT.size {id:TypeId} {t:Ty} (h:SzT P id t):(sizeOf id).run P w = .ok t.sz w:=by
 obtain ⟨d,i,_,_,a,hs⟩:=h;simp [sizeOf,typeInfo,a,hs]
theorem SzT.part {id:TypeId} {a:Ty} (h:SzT P id a) {x:a.den} {xs:Array Value} {b post:List Value} (j:xs.toList=b++(za3 a x++post)):(part id xs b.length).run P w = .ok (keyV a x) w:=by
 have f:=h.size (w:=w);obtain ⟨d,i,k,c,o,hs⟩:=h;have n:=zd8 a x;cases e:a.agg with
 | true=>
  rw [e] at c;have g:(xs.extract b.length (b.length+a.sz)).toList=za3 a x:=by
   rw [Array.toList_extract];simp only [List.extract];rw [j,List.drop_append_of_le_length (by omega),List.drop_length,List.nil_append,Nat.add_sub_cancel_left,List.take_append_of_le_length (by omega),List.take_of_length_le (by omega)]
  have m:xs.extract b.length (b.length+a.sz)=(za3 a x).toArray:=by
   rw [<- g]
  simp only [Go.part,Sem.run_bind,zhU k,c,Result.andThen_ok,if_true,f,Sem.run_pure,m,zfu e]
 | false=>
  rw [e] at c;have g:xs[b.length]? =some (keyV a x):=by
   have:=congrArg (fun l=>l[b.length]?) j;rw [zxP e] at this;simpa using this
  simp [Go.part,Sem.run_bind,zhU k,c,Result.andThen_ok,g,Sem.run_pure]
theorem zoo {j:Nat} {R:TypeId->Ty->Prop} (k:∀ id t,R id t->SzT P id t/\∀ (x y:t.den),(Op.equalIn j id (keyV t x) (keyV t y)).run P w = .ok (eqB x y) w) {xs ys:Array Value}:
  ∀ (fs:List Field) (off:Nat) (t:Ty) (x y:t.den) (p q:List Value),KFs R fs off t->p.length=off->q.length=off->xs.toList=p++za3 t x->ys.toList=q++za3 t y->
   (Op.eqFields j xs ys fs).run P w = .ok (eqB x y) w
 | [],off,t,x,y,p,q,d,_,_,_,_=>by
  have d:t = .unit:=d;subst d;simp only [Op.eqFields,Sem.run_pure];rw [zeJ.2 (show x=y from rfl)]
 | f::fs,off,t,x,y,p,q,d,hp,hq,g,h=>by
  cases t with
  | pair a b=>
   obtain ⟨r, n, s, d⟩ : f.name ≠ "_" /\ f.offset = off /\ R f.type a /\ KFs R fs (off + a.sz) b := d;obtain ⟨hs, i⟩ := k _ _ s;have g : xs.toList = p ++ (za3 a x.1 ++ za3 b x.2) := g;have h : ys.toList = q ++ (za3 a y.1 ++ za3 b y.2) := h;have l := hs.part (P := P) (w := w) g;have m := hs.part (P := P) (w := w) h;rw [hp, <- n] at l;rw [hq, <- n] at m;have o := zoo k fs (off + a.sz) b x.2 y.2 (p ++ za3 a x.1) (q ++ za3 a y.1) d (by rw [List.length_append, hp, zd8]) (by rw [List.length_append, hq, zd8]) (by rw [g, List.append_assoc]) (by rw [h, List.append_assoc]);have e:eqB x y=(eqB x.1 y.1 && eqB x.2 y.2):=by
    rw [Bool.eq_iff_iff,Bool.and_eq_true,zeJ,zeJ,zeJ];exact ⟨fun e=>by rw [e];exact ⟨rfl,rfl⟩,fun ⟨e1,e2⟩=>Prod.ext e1 e2⟩
   simp only [Op.eqFields,r,ne_eq,not_false_eq_true,if_true,Sem.run_bind,l,m,i,Result.andThen_ok];rw [e];by_cases c:x.1=y.1
   ·simp only [zeJ.2 c,Bool.not_true,Bool.false_eq_true,if_false,Bool.true_and];exact o
   ·simp only [zzB c,Bool.not_false,if_true,Bool.false_and,Sem.run_pure]
  | _=>cases d
theorem zqq {g:Nat} {e:TypeId} {a:Ty} (hs:SzT P e a) (b:∀ (x y:a.den),(Op.equalIn g e (keyV a x) (keyV a y)).run P w = .ok (eqB x y) w) {xs ys:Array Value}:
  ∀ (n k:Nat) (x y:(zoa n a).den) (p q:List Value),p.length=k * a.sz->q.length=k * a.sz->xs.toList=p++za3 (zoa n a) x->ys.toList=q++za3 (zoa n a) y->
   (Op.eqItems g e a.sz xs ys (List.range' k n)).run P w = .ok (eqB x y) w
 | 0,k,x,y,p,q,_,_,_,_=>by
  simp only [List.range'_zero,Op.eqItems,Sem.run_pure];rw [zeJ.2 (show x=y from rfl)]
 | n+1,k,x,y,p,q,hp,hq,d,f=>by
  have d:xs.toList=p++(za3 a x.1++za3 (zoa n a) x.2):=d;have f:ys.toList=q++(za3 a y.1++za3 (zoa n a) y.2):=f;have h:=hs.part (P:=P) (w:=w) d;have i:=hs.part (P:=P) (w:=w) f;rw [hp] at h;rw [hq] at i;have j:=zqq hs b n (k+1) x.2 y.2 (p++za3 a x.1) (q++za3 a y.1) (by rw [List.length_append,hp,zd8,Nat.succ_mul]) (by rw [List.length_append,hq,zd8,Nat.succ_mul]) (by rw [d,List.append_assoc]) (by rw [f,List.append_assoc]);have e:eqB x y=(eqB x.1 y.1 && eqB x.2 y.2):=by
   rw [Bool.eq_iff_iff,Bool.and_eq_true,zeJ,zeJ,zeJ];exact ⟨fun e=>by rw [e];exact ⟨rfl,rfl⟩,fun ⟨e1,e2⟩=>Prod.ext e1 e2⟩
  simp only [List.range'_succ,Op.eqItems,Sem.run_bind,h,i,b,Result.andThen_ok];rw [e];by_cases c:x.1=y.1
  ·simp only [zeJ.2 c,Bool.not_true,Bool.false_eq_true,if_false,Bool.true_and];exact j
  ·simp only [zzB c,Bool.not_false,if_true,Bool.false_and,Sem.run_pure]
theorem KeyT.un {d:Nat} {id:TypeId} {t:Ty} (h:SzT P id t) {a:TypeDesc} (c:P.underlying id=some a):dAgg a=t.agg:=by
 obtain ⟨d,i,b,e,_⟩:=h;rw [c] at b;cases b;exact e
theorem zmB:∀ (d m:Nat) (id:TypeId) (t:Ty),KeyT P d id t->∀ (w:World) (x y:t.den),(Op.equalIn (m+d) id (keyV t x) (keyV t y)).run P w = .ok (eqB x y) w
 | 0,_,_,_,h,_,_,_=>by cases h
 | d+1,m,id,t,⟨hs,h⟩,w,x,y=>by
  rcases h with ⟨q,b,rfl⟩ | ⟨b,rfl⟩ | ⟨b,rfl⟩ | ⟨fa,b,hp,hk⟩ | ⟨n,e,a,b,hk,rfl⟩
  ·refine (run_equalIn_int w (m+d) id q q x y b).trans ?_;congr 1;rw [Bool.eq_iff_iff,beq_iff_eq,zeJ]
  ·refine (run_equalIn_string w (m+d) id ⟨⟨x⟩⟩ ⟨⟨y⟩⟩ b).trans ?_;congr 1;rw [<- beq_toListBytes,Bool.eq_iff_iff,zu9,zeJ];exact ⟨fun e=>by injection e with e;injection e,fun e=>by rw [e]⟩
  ·refine (run_equalIn_bool' w (m+d) id x y b).trans ?_;congr 1;rw [Bool.eq_iff_iff,beq_iff_eq,zeJ]
  ·have c:true=t.agg:=KeyT.un (d:=d) hs b;have f:P.fieldsOf id=fa:=by simp [Program.fieldsOf,b]
   rw [zfu c.symm,zfu c.symm];refine (run_equalIn_struct w (m+d) id _ _ (by rw [f];exact b) hp).trans ?_;rw [f];exact zoo (R:=KeyT P d) (fun id t h=>⟨h.sz,fun x y=>zmB d m id t h w x y⟩) fa.toList 0 t x y [] [] hk rfl rfl rfl rfl
  ·have c:true=(zoa n a).agg:=KeyT.un (d:=d) hs b;have g:=hk.sz;obtain ⟨_,i,_,_,k,j⟩:=g;have l:P.cellsOf e=a.sz:=by simp [Program.cellsOf,k,j]
   rw [zfu c.symm,zfu c.symm];refine (run_equalIn_array w (m+d) _ _ b k).trans ?_;rw [l,List.range_eq_range'];exact zqq hk.sz (fun x y=>zmB d m e a hk w x y) n 0 x y [] [] (by simp) (by simp) rfl rfl
theorem zpp (l:Bool):∀ (d m:Nat) (id:TypeId) (t:Ty),KeyT P d id t->∀ (w:World) (x:t.den),(Instr.checkKey l (m+d) id (keyV t x)).run P w = .ok () w
 | 0,_,_,_,h,_,_=>by cases h
 | d+1,m,id,t,⟨hs,h⟩,w,x=>by
  rcases h with ⟨q,c,rfl⟩ | ⟨c,rfl⟩ | ⟨c,rfl⟩ | ⟨fa,c,u,g⟩ | ⟨n,e,a,c,g,rfl⟩
  ·exact MapKept.run_checkKey (k := .int q x) c rfl l (m+d)
  ·exact MapKept.run_checkKey (k := .string ⟨⟨x⟩⟩) c trivial l (m+d)
  ·exact MapKept.run_checkKey (k := .bool x) c trivial l (m+d)
  ·have z:true=t.agg:=KeyT.un (d:=d) hs c;rw [zfu z.symm,show m+(d+1)=(m+d)+1 from rfl,Instr.checkKey];simp only [Sem.run_bind,run_underlying c,Result.andThen_ok];rw [<- Array.forIn_toList];have key:∀ (o:List Field) (off:Nat) (t:Ty) (x:t.den) (xs:Array Value) (p:List Value),KFs (KeyT P d) o off t->p.length=off->xs.toList=p++za3 t x->
     ((forIn o PUnit.unit fun f r => if f.name ≠ "_" then do
      Instr.checkKey l (m+d) f.type (<- part f.type xs f.offset)
      pure (ForInStep.yield PUnit.unit) else pure (ForInStep.yield PUnit.unit)):Sem PUnit).run P w = .ok PUnit.unit w:=by
    intro o;induction o with
    | nil=>intros;simp
    | cons f o C=>
     intro off t x xs p g u j;cases t with
     | pair a b=>
      obtain ⟨E, F, D, g⟩ : f.name ≠ "_" /\ f.offset = off /\ KeyT P d f.type a /\ KFs (KeyT P d) o (off + a.sz) b := g;have j : xs.toList = p ++ (za3 a x.1 ++ za3 b x.2) := j;have y := D.sz.part (P := P) (w := w) j;rw [u, <- F] at y;have A := zpp l d m f.type a D w x.1;simp only [List.forIn_cons, Sem.run_bind, E, ne_eq, not_false_eq_true, if_true, Result.andThen_ok, y, A, Sem.run_pure];exact C (off + a.sz) b x.2 xs (p ++ za3 a x.1) g (by rw [List.length_append, u, zd8]) (by rw [j, List.append_assoc])
     | _=>cases g
   have k0:=key fa.toList 0 t x (za3 t x).toArray [] g rfl rfl;rw [k0];rfl
  ·have z:true=(zoa n a).agg:=KeyT.un (d:=d) hs c;have B:=g.sz.size (w:=w);rw [zfu z.symm,show m+(d+1)=(m+d)+1 from rfl,Instr.checkKey];simp only [Sem.run_bind,run_underlying c,Result.andThen_ok];simp only [Std.Legacy.Range.forIn_eq_forIn_range',Std.Legacy.Range.size,Nat.sub_zero,Nat.add_one_sub_one,Nat.div_one];have key:∀ (n k:Nat) (x:(zoa n a).den) (xs:Array Value) (p:List Value),p.length=k * a.sz->xs.toList=p++za3 (zoa n a) x->
     ((forIn (List.range' k n) PUnit.unit fun i r=>do
      let s <- sizeOf e
      let v <- part e xs (i * s)
      Instr.checkKey l (m+d) e v
      pure (ForInStep.yield PUnit.unit)):Sem PUnit).run P w = .ok PUnit.unit w:=by
    intro n;induction n with
    | zero=>intros;simp
    | succ n C=>
     intro k x xs p u j;have j:xs.toList=p++(za3 a x.1++za3 (zoa n a) x.2):=j;have y:=g.sz.part (P:=P) (w:=w) j;rw [u] at y;have A:=zpp l d m e a g w x.1;simp only [List.range'_succ,List.forIn_cons,Sem.run_bind,B,Result.andThen_ok,y,A,Sem.run_pure];exact C (k+1) x.2 xs (p++za3 a x.1) (by rw [List.length_append,u,zd8,Nat.succ_mul]) (by rw [j,List.append_assoc])
   have k0:=key n 0 x (za3 (zoa n a) x).toArray [] (by simp) rfl;rw [k0];rfl
theorem zgm {m:Nat}:∀ {t:Ty} (c:t.plain=true) (x:t.den),∀ v∈za3 t x,Instr.sameBits m v v=true
 | .int k,_,x,v,h=>by rw [List.mem_singleton.1 h];unfold Instr.sameBits;simp
 | .bool,_,x,v,h=>by rw [List.mem_singleton.1 h];unfold Instr.sameBits;simp
 | .str,_,x,v,h=>by
  rw [List.mem_singleton.1 h];unfold Instr.sameBits;exact (zu9 _ _).2 rfl
 | .list _,c,_,_,_=>by cases c
 | .tree _,c,_,_,_=>by cases c
 | .unit,_,_,v,h=>by cases h
 | .pair a b,c,x,v,h=>by
  have c:a.plain=true/\b.plain=true:=by simpa [Ty.plain] using c
  rcases List.mem_append.1 (show v∈za3 a x.1++za3 b x.2 from h) with h | h
  ·exact zgm c.1 x.1 v h
  ·exact zgm c.2 x.2 v h
theorem zyU {t:Ty} (c:t.plain=true) (x:t.den):(Instr.keyThatStays (keyV t x) (keyV t x)).run P w = .ok (keyV t x) w:=by
 have e:Instr.sameBits 10000 (keyV t x) (keyV t x)=true:=by
  cases h:t.agg with
  | false=>exact zgm c x _ (by rw [zxP h];simp)
  | true=>
   rw [zfu h];have b:=zgm (m:=9999) c x;generalize za3 t x=l at b;show ((l.toArray.size==l.toArray.size) && (l.toArray.toList.zip l.toArray.toList).all fun (x,y)=>Instr.sameBits 9999 x y)=true;rw [Bool.and_eq_true,beq_self_eq_true];refine ⟨rfl,List.all_eq_true.2 fun p c => ?_⟩;have:p.1=p.2/\p.1∈l:=by
    simp only [List.toList_toArray] at c;clear b;induction l with
    | nil=>simp at c
    | cons a l g=>
     rw [List.zip_cons_cons,List.mem_cons] at c;rcases c with rfl | c
     ·simp
     ·obtain ⟨d,f⟩:=g c;exact ⟨d,by simp [f]⟩
   rw [show p=(p.1,p.2) from rfl,<- this.1];exact b _ this.2
 unfold Instr.keyThatStays;rw [if_pos e];rfl
theorem zlG {d:Nat} {a:TypeId} {t:Ty} (f:KeyT P d a t) (g:d<=10000) (l:t.plain=true) {S:Nat->Prop} {w0:World} (x:t.den):
  ∀ (es:List MapEntry) (ks:List t.den) (i:Nat),es.length=ks.length->(∀ j,j < es.length->DRel w0 S ((ks.map (enc:t.den->D)).getD j default) (es.getD j default).key)->
   (Instr.findAsking a (keyV t x) es i).run P w = .ok ((zbv ks x).map fun j=>(i+j,(es.getD j default).val)) w
 | [],[],i,_,_=>by simp [Instr.findAsking,zbv]
 | e::es,k::ks,i,hl,hr=>by
  have m:e.key=keyV t k:=zlM (w:=w0) (S:=S) l (show DRel w0 S (enc k) e.key by simpa using hr 0 (by simp));have n:=zlG f g l x es ks (i+1) (by simpa using hl) (fun j h=>by simpa using hr (j+1) (by simpa using h));have b:(Op.equal a (keyV t x) (keyV t k)).run P w = .ok (eqB x k) w:=by
   have:=zmB (P:=P) d (10000 - d) a t f w x k;rw [Nat.sub_add_cancel g] at this;exact this
  unfold Instr.findAsking zbv;simp only [m,Sem.run_bind,b,Result.andThen_ok];by_cases c:k=x
  ·rw [if_pos c,zeJ.2 c.symm];simp
  ·rw [if_neg c,zzB (Ne.symm c)];simp only [Bool.false_eq_true,if_false];rw [n];cases zbv ks x with
   | none=>rfl
   | some j=>simp only [Option.map_some];congr 2;rw [Prod.mk.injEq];exact ⟨by omega,by simp⟩
theorem SK.ofKey {d:Nat} {kt:TypeId} {t:Ty} (hk:KeyT P d kt t) (hd:d<=10000) (hp:t.plain=true) (hg:t.agg=true):SK P kt t.den where
 eq w S x u v h1 h2:=(zlM hp h1).trans (zlM hp h2).symm
 check:=fun {w S x u} h em w'=>by
  rw [zlM hp h];have:=zpp em d (10000 - d) kt t hk w' x
  rwa [Nat.sub_add_cancel hd] at this
 stays w S x u h w':=by rw [zlM hp h];exact zyU hp x
 find:=fun {w S x u} hu {es ks} h1 hr w'=>by
  obtain rfl:=zlM hp hu;obtain ⟨kd,_,hud,hag,_⟩:=hk.sz;rw [hg] at hag;unfold Instr.findKey;simp only [Sem.run_bind,run_underlying hud,Result.andThen_ok];have main:=zlG (P:=P) (w:=w') hk hd hp (S:=S) (w0:=w) x es.toList ks 0 (by simpa using h1) (fun j hj=>by
   have:=hr j (by simpa using hj);simpa [List.getD_eq_getElem?_getD,Array.getD_eq_getD_getElem?] using this)
  have e2:((zbv ks x).map fun j=>(0+j,(es.toList.getD j default).val))=(zbv ks x).map fun j=>(j,(es.getD j default).val):=by
   simp [Array.getD_eq_getD_getElem?, List.getD_eq_getElem?_getD]
  rw [e2] at main;cases hes:es.toList with
  | nil=>
   have:ks=[]:=List.length_eq_zero_iff.1 (by rw [<- h1,<- Array.length_toList,hes];rfl);subst this;rfl
  | cons e r=>
   have:Instr.findNow kd (keyV t x) (e::r) 0=none:=by
    unfold Instr.findNow;have:Instr.sameNow kd (keyV t x) e.key=none:=by
     cases kd<;>simp [dAgg] at hag<;>rfl
    rw [this]
   rw [this,<- hes];exact main
theorem KFs.nil {R:TypeId->Ty->Prop} {off:Nat}:KFs R [] off .unit:=rfl
theorem KFs.cons {R : TypeId -> Ty -> Prop} {f : Field} {c : List Field} {off : Nat} {a b : Ty} (d : f.name ≠ "_") (e : f.offset = off) (g : R f.type a) (h : KFs R c (off + a.sz) b) : KFs R (f :: c) off (.pair a b) := ⟨d, e, g, h⟩
theorem KeyT.int {d:Nat} {id:TypeId} {q:IntKind} (hs:SzT P id (.int q)) (a:P.underlying id=some (.int q)):KeyT P (d+1) id (.int q):=⟨hs,.inl ⟨q,a,rfl⟩⟩
theorem KeyT.str {d:Nat} {id:TypeId} (hs:SzT P id .str) (a:P.underlying id=some .string):KeyT P (d+1) id .str:=⟨hs,.inr (.inl ⟨a,rfl⟩)⟩
theorem KeyT.struct {d:Nat} {id:TypeId} {t:Ty} {a:Array Field} (hs:SzT P id t) (b:P.underlying id=some (.struct a)) (c:P.stoodInHeld id=false) (e:KFs (KeyT P d) a.toList 0 t):KeyT P (d+1) id t:=⟨hs,.inr (.inr (.inr (.inl ⟨a,b,c,e⟩)))⟩
theorem KeyT.array {d:Nat} {id e:TypeId} {n:Nat} {t a:Ty} (hs:SzT P id t) (b:P.underlying id=some (.array n e)) (c:KeyT P d e a) (f:t=zoa n a):KeyT P (d+1) id t:=⟨hs,.inr (.inr (.inr (.inr ⟨n,e,a,b,c,f⟩)))⟩
theorem SK.int' {id:TypeId} {q:IntKind} (h:P.underlying id=some (.int q)) : @SK P id (Ty.den (.int q)) (encI (.int q)) := @SK.of0 _ _ _ _ (encI (.int q)) (@SK0.int _ _ _ h (Ty.den (.int q)) (encI (.int q)) (fun x:Int=>x) (fun _ _ e=>e) (fun _=>rfl))
end
end Go.Ab
