import Derived.Test.YtajabcfngklacaaEv40n2
import Derived.DeepKeys3
set_option linter.unusedVariables false
set_option linter.unusedSimpArgs false
set_option linter.unusedVariables false
set_option linter.unusedSimpArgs false
set_option linter.unusedSectionVars false
namespace Go.Ab
open Enc (enc)
def Ty.plain:Ty->Bool
 | .list _=>false
 | .tree _=>false
 | .pair a b=>a.plain && b.plain
 | _=>true
def zcU:(t:Ty)->t.den->List Value
 | .int k,n=>[.int k n]
 | .bool,b=>[.bool b]
 | .str,s=>[.string ⟨⟨s⟩⟩]
 | .list _,_=>[undef]
 | .tree _,_=>[undef]
 | .unit,_=>[]
 | .pair a b,x=>zcU a x.1++zcU b x.2
def keyV:(t:Ty)->t.den->Value
 | .int k,n => .int k n
 | .bool,b => .bool b
 | .str,s => .string ⟨⟨s⟩⟩
 | .list _,_=>undef
 | .tree _,_=>undef
 | .unit,_ => .agg #[]
 | .pair a b,x => .agg (zcU a x.1++zcU b x.2).toArray
theorem zi3:∀ (t:Ty) (x:t.den),(zcU t x).length=t.sz
 | .int _,_=>rfl
 | .bool,_=>rfl
 | .str,_=>rfl
 | .list _,_=>rfl
 | .tree _,_=>rfl
 | .unit,_=>rfl
 | .pair a b,x=>by
  show (zcU a x.1++zcU b x.2).length=a.sz+b.sz;rw [List.length_append,zi3 a,zi3 b]
theorem zlI {t:Ty} (h:t.agg=true) (x:t.den):keyV t x = .agg (zcU t x).toArray:=by
 cases t<;>first | rfl | (simp [Ty.agg] at h)
theorem zCq {t:Ty} (h:t.agg=false) (x:t.den):zcU t x=[keyV t x]:=by
 cases t<;>first | rfl | (simp [Ty.agg] at h;done)
theorem ztA {w:World} {S:Nat->Prop}:∀ {t:Ty} (c:t.plain=true) (x:t.den) (vs:List Value),vs.length=t.sz->(∀ i,i < t.sz->DRel w S ((encD t x).cells.getD i default) (vs.getD i undef))->vs=zcU t x
 | .int k,_,x,[v],_,h=>by have:=h 0 (by simp [Ty.sz]);cases this;rfl
 | .bool,_,x,[v],_,h=>by have:=h 0 (by simp [Ty.sz]);cases this;rfl
 | .str,_,x,[v],_,h=>by have:=h 0 (by simp [Ty.sz]);cases this;rfl
 | .list _,c,_,_,_,_=>by cases c
 | .tree _,c,_,_,_,_=>by cases c
 | .unit,_,_,[],_,_=>rfl
 | .pair a b,c,x,vs,e,h=>by
  have c:a.plain=true/\b.plain=true:=by simpa [Ty.plain] using c
  have e:vs.length=a.sz+b.sz:=e;have f:=zbg a x.1;have l:=zbg b x.2;have h:∀ i,i < a.sz+b.sz->DRel w S (((encD a x.1).cells++(encD b x.2).cells).getD i default) (vs.getD i undef):=h;have g:=ztA c.1 x.1 (vs.take a.sz) (by simp;omega) (fun i d=>by
   have:=h i (by omega);rw [List.getD_eq_getElem?_getD,List.getElem?_append_left (by omega)] at this;rw [List.getD_eq_getElem?_getD,List.getD_eq_getElem?_getD,List.getElem?_take,if_pos d]
   rwa [List.getD_eq_getElem?_getD] at this)
  have j:=ztA c.2 x.2 (vs.drop a.sz) (by simp;omega) (fun i d=>by
   have:=h (a.sz+i) (by omega);rw [List.getD_eq_getElem?_getD,List.getElem?_append_right (by omega),f,Nat.add_sub_cancel_left] at this;rw [List.getD_eq_getElem?_getD,List.getD_eq_getElem?_getD,List.getElem?_drop]
   rwa [List.getD_eq_getElem?_getD] at this)
  show vs=zcU a x.1++zcU b x.2;rw [<- g,<- j,List.take_append_drop]
theorem zBd {w:World} {S:Nat->Prop} {t:Ty} (g:t.plain=true) {x:t.den} {v:Value} (h:DRel w S (encD t x) v):v=keyV t x:=by
 cases t with
 | int k=>cases h;rfl
 | bool=>cases h;rfl
 | str=>cases h;rfl
 | list _=>cases g
 | tree _=>cases g
 | unit=>
  cases h with
  | agg l cs hs _=>
   have:cs=#[]:=Array.eq_empty_of_size_eq_zero (by simpa using hs);rw [this];rfl
 | pair a b=>
  have c:=zbg (.pair a b) x;generalize j:encD (.pair a b) x=d at h c;have f:d = .agg ((encD a x.1).cells++(encD b x.2).cells):=j.symm;cases h with
  | agg l cs hs n=>
   have e:=ztA (t := .pair a b) g x cs.toList (by rw [Array.length_toList,hs];exact c) (fun i m=>by
    rw [j];have:=n i (by rw [<- hs];rw [hs];exact (by rw [show l.length=(Ty.pair a b).sz from c];exact m));simpa [Array.getD_eq_getD_getElem?, List.getD_eq_getElem?_getD,D.cells] using this)
   show Value.agg cs = .agg (zcU (.pair a b) x).toArray;rw [<- e]
  | lit v h=>cases f
  | ptr=>cases f
  | nil=>cases f
  | sl=>cases f
noncomputable def eqB {α:Type} (x y:α):Bool := @decide (x=y) (Classical.propDecidable _)
theorem zgl {α:Type} {x y:α}:eqB x y=true↔x=y := @decide_eq_true_iff _ (Classical.propDecidable _)
theorem zCX {α:Type} {x y:α} (h:x≠y):eqB x y=false:=by
 cases e:eqB x y with
 | false=>rfl
 | true=>exact absurd (zgl.1 e) h
def SzT (P:Program) (id:TypeId) (t:Ty):Prop:=∃ d i,P.underlying id=some d/\dAgg d=t.agg/\P.info? id=some i/\i.size=t.sz
def zwL:Nat->Ty->Ty
 | 0,_ => .unit
 | n+1,a => .pair a (zwL n a)
def KFs (R:TypeId->Ty->Prop):List Field->Nat->Ty->Prop
 | [],_,t=>t = .unit
 | f::fs,off,t=>match t with
  | .pair a b => f.name ≠ "_" /\ f.offset = off /\ R f.type a /\ KFs R fs (off + a.sz) b
  | _=>False
def KeyT (P:Program):Nat->TypeId->Ty->Prop
 | 0,_,_=>False
 | d+1,id,t=>SzT P id t/\((∃ q,P.underlying id=some (.int q)/\t = .int q)\/(P.underlying id=some .string/\t = .str)\/(P.underlying id=some .bool/\t = .bool)\/
  (∃ b:Array Field,P.underlying id=some (.struct b)/\P.stoodInHeld id=false/\KFs (KeyT P d) b.toList 0 t)\/
  (∃ n e a,P.underlying id=some (.array n e)/\KeyT P d e a/\t=zwL n a))
section
variable {P:Program} {w:World}
theorem KeyT.sz {d:Nat} {id:TypeId} {t:Ty} (h:KeyT P d id t):SzT P id t:=by
 cases d with
 | zero=>cases h
 | succ d=>exact h.1
theorem SzT.size {id:TypeId} {t:Ty} (h:SzT P id t):(sizeOf id).run P w = .ok t.sz w:=by
 obtain ⟨d,i,_,_,a,hs⟩:=h;simp [sizeOf,typeInfo,a,hs]
theorem SzT.part {id:TypeId} {a:Ty} (h:SzT P id a) {x:a.den} {xs:Array Value} {b post:List Value} (j:xs.toList=b++(zcU a x++post)):(part id xs b.length).run P w = .ok (keyV a x) w:=by
 have f:=h.size (w:=w);obtain ⟨d,i,k,c,o,hs⟩:=h;have n:=zi3 a x;cases e:a.agg with
 | true=>
  rw [e] at c;have g:(xs.extract b.length (b.length+a.sz)).toList=zcU a x:=by
   rw [Array.toList_extract];simp only [List.extract];rw [j,List.drop_append_of_le_length (by omega),List.drop_length,List.nil_append,Nat.add_sub_cancel_left,List.take_append_of_le_length (by omega),List.take_of_length_le (by omega)]
  have m:xs.extract b.length (b.length+a.sz)=(zcU a x).toArray:=by
   rw [<- g]
  simp only [Go.part,Sem.run_bind,zk9 k,c,Result.andThen_ok,if_true,f,Sem.run_pure,m,zlI e]
 | false=>
  rw [e] at c;have g:xs[b.length]? =some (keyV a x):=by
   have:=congrArg (fun l=>l[b.length]?) j;rw [zCq e] at this;simpa using this
  simp [Go.part,Sem.run_bind,zk9 k,c,Result.andThen_ok,g,Sem.run_pure]
theorem zqv {j:Nat} {R:TypeId->Ty->Prop} (k:∀ id t,R id t->SzT P id t/\∀ (x y:t.den),(Op.equalIn j id (keyV t x) (keyV t y)).run P w = .ok (eqB x y) w) {xs ys:Array Value}:
  ∀ (fs:List Field) (off:Nat) (t:Ty) (x y:t.den) (p q:List Value),KFs R fs off t->p.length=off->q.length=off->xs.toList=p++zcU t x->ys.toList=q++zcU t y->
   (Op.eqFields j xs ys fs).run P w = .ok (eqB x y) w
 | [],off,t,x,y,p,q,d,_,_,_,_=>by
  have d:t = .unit:=d;subst d;simp only [Op.eqFields,Sem.run_pure];rw [zgl.2 (show x=y from rfl)]
 | f::fs,off,t,x,y,p,q,d,hp,hq,g,h=>by
  cases t with
  | pair a b=>
   obtain ⟨r, n, s, d⟩ : f.name ≠ "_" /\ f.offset = off /\ R f.type a /\ KFs R fs (off + a.sz) b := d;obtain ⟨hs, i⟩ := k _ _ s;have g : xs.toList = p ++ (zcU a x.1 ++ zcU b x.2) := g;have h : ys.toList = q ++ (zcU a y.1 ++ zcU b y.2) := h;have l := hs.part (P := P) (w := w) g;have m := hs.part (P := P) (w := w) h;rw [hp, <- n] at l;rw [hq, <- n] at m;have o := zqv k fs (off + a.sz) b x.2 y.2 (p ++ zcU a x.1) (q ++ zcU a y.1) d (by rw [List.length_append, hp, zi3]) (by rw [List.length_append, hq, zi3]) (by rw [g, List.append_assoc]) (by rw [h, List.append_assoc]);have e:eqB x y=(eqB x.1 y.1 && eqB x.2 y.2):=by
    rw [Bool.eq_iff_iff,Bool.and_eq_true,zgl,zgl,zgl];exact ⟨fun e=>by rw [e];exact ⟨rfl,rfl⟩,fun ⟨e1,e2⟩=>Prod.ext e1 e2⟩
   simp only [Op.eqFields,r,ne_eq,not_false_eq_true,if_true,Sem.run_bind,l,m,i,Result.andThen_ok];rw [e];by_cases c:x.1=y.1
   ·simp only [zgl.2 c,Bool.not_true,Bool.false_eq_true,if_false,Bool.true_and];exact o
   ·simp only [zCX c,Bool.not_false,if_true,Bool.false_and,Sem.run_pure]
  | _=>cases d
theorem zsa {g:Nat} {e:TypeId} {a:Ty} (hs:SzT P e a) (b:∀ (x y:a.den),(Op.equalIn g e (keyV a x) (keyV a y)).run P w = .ok (eqB x y) w) {xs ys:Array Value}:
  ∀ (n k:Nat) (x y:(zwL n a).den) (p q:List Value),p.length=k * a.sz->q.length=k * a.sz->xs.toList=p++zcU (zwL n a) x->ys.toList=q++zcU (zwL n a) y->
   (Op.eqItems g e a.sz xs ys (List.range' k n)).run P w = .ok (eqB x y) w
 | 0,k,x,y,p,q,_,_,_,_=>by
  simp only [List.range'_zero,Op.eqItems,Sem.run_pure];rw [zgl.2 (show x=y from rfl)]
 | n+1,k,x,y,p,q,hp,hq,d,f=>by
  have d:xs.toList=p++(zcU a x.1++zcU (zwL n a) x.2):=d;have f:ys.toList=q++(zcU a y.1++zcU (zwL n a) y.2):=f;have h:=hs.part (P:=P) (w:=w) d;have i:=hs.part (P:=P) (w:=w) f;rw [hp] at h;rw [hq] at i;have j:=zsa hs b n (k+1) x.2 y.2 (p++zcU a x.1) (q++zcU a y.1) (by rw [List.length_append,hp,zi3,Nat.succ_mul]) (by rw [List.length_append,hq,zi3,Nat.succ_mul]) (by rw [d,List.append_assoc]) (by rw [f,List.append_assoc]);have e:eqB x y=(eqB x.1 y.1 && eqB x.2 y.2):=by
   rw [Bool.eq_iff_iff,Bool.and_eq_true,zgl,zgl,zgl];exact ⟨fun e=>by rw [e];exact ⟨rfl,rfl⟩,fun ⟨e1,e2⟩=>Prod.ext e1 e2⟩
  simp only [List.range'_succ,Op.eqItems,Sem.run_bind,h,i,b,Result.andThen_ok];rw [e];by_cases c:x.1=y.1
  ·simp only [zgl.2 c,Bool.not_true,Bool.false_eq_true,if_false,Bool.true_and];exact j
  ·simp only [zCX c,Bool.not_false,if_true,Bool.false_and,Sem.run_pure]
theorem KeyT.un {d:Nat} {id:TypeId} {t:Ty} (h:SzT P id t) {a:TypeDesc} (c:P.underlying id=some a):dAgg a=t.agg:=by
 obtain ⟨d,i,b,e,_⟩:=h;rw [c] at b;cases b;exact e
theorem zru:∀ (d m:Nat) (id:TypeId) (t:Ty),KeyT P d id t->∀ (w:World) (x y:t.den),(Op.equalIn (m+d) id (keyV t x) (keyV t y)).run P w = .ok (eqB x y) w
 | 0,_,_,_,h,_,_,_=>by cases h
 | d+1,m,id,t,⟨hs,h⟩,w,x,y=>by
  rcases h with ⟨q,b,rfl⟩ | ⟨b,rfl⟩ | ⟨b,rfl⟩ | ⟨fa,b,hp,hk⟩ | ⟨n,e,a,b,hk,rfl⟩
  ·refine (run_equalIn_int w (m+d) id q q x y b).trans ?_;congr 1;rw [Bool.eq_iff_iff,beq_iff_eq,zgl]
  ·refine (run_equalIn_string w (m+d) id ⟨⟨x⟩⟩ ⟨⟨y⟩⟩ b).trans ?_;congr 1;rw [<- beq_toListBytes,Bool.eq_iff_iff,zAw,zgl];exact ⟨fun e=>by injection e with e;injection e,fun e=>by rw [e]⟩
  ·refine (run_equalIn_bool' w (m+d) id x y b).trans ?_;congr 1;rw [Bool.eq_iff_iff,beq_iff_eq,zgl]
  ·have c:true=t.agg:=KeyT.un (d:=d) hs b;have f:P.fieldsOf id=fa:=by simp [Program.fieldsOf,b]
   rw [zlI c.symm,zlI c.symm];refine (run_equalIn_struct w (m+d) id _ _ (by rw [f];exact b) hp).trans ?_;rw [f];exact zqv (R:=KeyT P d) (fun id t h=>⟨h.sz,fun x y=>zru d m id t h w x y⟩) fa.toList 0 t x y [] [] hk rfl rfl rfl rfl
  ·have c:true=(zwL n a).agg:=KeyT.un (d:=d) hs b;have g:=hk.sz;obtain ⟨_,i,_,_,k,j⟩:=g;have l:P.cellsOf e=a.sz:=by simp [Program.cellsOf,k,j]
   rw [zlI c.symm,zlI c.symm];refine (run_equalIn_array w (m+d) _ _ b k).trans ?_;rw [l,List.range_eq_range'];exact zsa hk.sz (fun x y=>zru d m e a hk w x y) n 0 x y [] [] (by simp) (by simp) rfl rfl
theorem KFs.nil {R:TypeId->Ty->Prop} {off:Nat}:KFs R [] off .unit:=rfl
theorem KFs.cons {R : TypeId -> Ty -> Prop} {f : Field} {c : List Field} {off : Nat} {a b : Ty} (d : f.name ≠ "_") (e : f.offset = off) (g : R f.type a) (h : KFs R c (off + a.sz) b) : KFs R (f :: c) off (.pair a b) := ⟨d, e, g, h⟩
theorem KeyT.int {d:Nat} {id:TypeId} {q:IntKind} (hs:SzT P id (.int q)) (a:P.underlying id=some (.int q)):KeyT P (d+1) id (.int q):=⟨hs,.inl ⟨q,a,rfl⟩⟩
theorem KeyT.struct {d:Nat} {id:TypeId} {t:Ty} {a:Array Field} (hs:SzT P id t) (b:P.underlying id=some (.struct a)) (c:P.stoodInHeld id=false) (e:KFs (KeyT P d) a.toList 0 t):KeyT P (d+1) id t:=⟨hs,.inr (.inr (.inr (.inl ⟨a,b,c,e⟩)))⟩
end
end Go.Ab
