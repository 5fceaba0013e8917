import Derived.Test.YtmogekkikaelhaaAb24n22
set_option linter.unusedVariables false
set_option linter.unusedSimpArgs false
namespace Go.Ab
open Enc (enc)
inductive Ty where
 | int (k:IntKind)
 | bool
 | str
 | list (t:Ty)
 | unit
 | pair (a b:Ty)
 | tree (t:Ty)
inductive Tr (α:Type) where
 | nil
 | mk (v:α) (kids:List (Tr α))
instance {α:Type}:Inhabited (Tr α):=⟨.nil⟩
mutual
def encT {α:Type} (e:α->List D):Tr α->D
 | .nil => .lit (.pointer none)
 | .mk v k => .ptr (.agg (e v++[.sl 8 (zoF e k)]))
def zoF {α:Type} (e:α->List D):List (Tr α)->List D
 | []=>[]
 | x::r=>encT e x::zoF e r
end
theorem znA {α:Type} (e:α->List D):∀ l:List (Tr α),zoF e l=l.map (encT e)
 | []=>rfl
 | x::r=>by rw [zoF,znA e r];rfl
theorem zhb {α:Type} (e:α->List D) (x:Tr α):(encT e x).cells=[encT e x]:=by cases x<;>rfl
theorem zkq {α:Type} (e:α->List D) (x:Tr α):(encT e x).one=true:=by cases x<;>rfl
def Ty.beq:Ty->Ty->Bool
 | .int j,.int k=>decide (j=k)
 | .bool,.bool=>true
 | .str,.str=>true
 | .list a,.list b=>Ty.beq a b
 | .unit,.unit=>true
 | .pair a b,.pair c d=>Ty.beq a c && Ty.beq b d
 | .tree a,.tree b=>Ty.beq a b
 | _,_=>false
theorem Ty.eq_of_beq:∀ {a b:Ty},Ty.beq a b=true->a=b
 | .int j,b,h=>by cases b<;>simp [Ty.beq] at h;rw [h]
 | .bool,b,h=>by cases b<;>simp [Ty.beq] at h;rfl
 | .str,b,h=>by cases b<;>simp [Ty.beq] at h;rfl
 | .list a,b,h=>by cases b<;>simp [Ty.beq] at h;rw [Ty.eq_of_beq h]
 | .unit,b,h=>by cases b<;>simp [Ty.beq] at h;rfl
 | .pair a c,b,h=>by cases b<;>simp [Ty.beq] at h;rw [Ty.eq_of_beq h.1,Ty.eq_of_beq h.2]
 | .tree a,b,h=>by cases b<;>simp [Ty.beq] at h;rw [Ty.eq_of_beq h]
abbrev Ty.den:Ty->Type
 | .int _=>Int
 | .bool=>Bool
 | .str=>List UInt8
 | .list t=>List t.den
 | .unit=>Unit
 | .pair a b=>a.den×b.den
 | .tree t=>Tr t.den
def zaL (a b:Ty) (x:a.den):Option b.den:=if h:Ty.beq a b=true then some (Ty.eq_of_beq h ▸ x) else none
theorem zaz {a b:Ty} {x:a.den} {y:b.den} (h:zaL a b x=some y):∃ e:a=b,e ▸ x=y:=by
 unfold zaL at h;split at h
 ·rename_i hb;cases h;exact ⟨Ty.eq_of_beq hb,rfl⟩
 ·cases h
def Ty.sz:Ty->Nat
 | .unit=>0
 | .pair a b=>a.sz+b.sz
 | _=>1
def Ty.al:Ty->Nat
 | .int k=>k.bits / 8
 | .bool=>1
 | .str=>8
 | .list _=>8
 | .unit=>1
 | .pair a b=>max a.al b.al
 | .tree _=>8
def up (n a:Nat):Nat:=(n+a - 1) / a * a
def Ty.lay:Ty->Nat×(Nat->Nat)
 | .int k=>(k.bits / 8,id)
 | .bool=>(1,id)
 | .str=>(16,id)
 | .list _=>(24,id)
 | .unit=>(0,id)
 | .pair a b=>(up (b.lay.2 (up 0 a.al+a.lay.1)) (max a.al b.al),fun off=>b.lay.2 (up off a.al+a.lay.1))
 | .tree _=>(8,id)
def Ty.bts (t:Ty):Nat:=t.lay.1
def Ty.agg:Ty->Bool
 | .unit=>true
 | .pair _ _=>true
 | _=>false
def encD:(t:Ty)->t.den->D
 | .int k,n => .lit (.int k n)
 | .bool,b => .lit (.bool b)
 | .str,s => .lit (.string ⟨⟨s⟩⟩)
 | .list t,l => .sl t.bts (l.map (encD t))
 | .unit,_ => .agg []
 | .pair a b,x => .agg ((encD a x.1).cells++(encD b x.2).cells)
 | .tree t,x=>encT (fun v=>(encD t v).cells) x
theorem zau:∀ (t:Ty) (x:t.den),(encD t x).cells.length=t.sz
 | .int _,_=>rfl
 | .bool,_=>rfl
 | .str,_=>rfl
 | .list _,_=>rfl
 | .unit,_=>rfl
 | .pair a b,x=>by
  show ((encD a x.1).cells++(encD b x.2).cells).length=a.sz+b.sz;rw [List.length_append,zau a,zau b]
 | .tree t,x=>by
  show (encT _ x).cells.length=1;rw [zhb];rfl
theorem zkU:∀ (t:Ty) (x:t.den),(encD t x).cells.all D.one=true
 | .int _,_=>rfl
 | .bool,_=>rfl
 | .str,_=>rfl
 | .list _,_=>rfl
 | .unit,_=>rfl
 | .pair a b,x=>by
  show ((encD a x.1).cells++(encD b x.2).cells).all D.one=true;rw [List.all_append,zkU a,zkU b];rfl
 | .tree t,x=>by
  show (encT _ x).cells.all D.one=true;rw [zhb];show ((encT _ x).one && true)=true;rw [zkq];rfl
instance encI (t:Ty):Enc t.den:=⟨encD t,t.sz,t.bts,zau t,zkU t⟩
theorem zq8 (t:Ty) (x:t.den):(enc x:D)=encD t x:=rfl
theorem enc_list (t:Ty) (l:List t.den):(enc l:D)=encD (.list t) l:=rfl
theorem zkV (t:Ty):Enc.sz t.den=t.sz:=rfl
theorem enc_bts (t:Ty):Enc.bts t.den=t.bts:=rfl
theorem zbz {t:Ty} (h:t.agg=true) (x:t.den):encD t x = .agg (encD t x).cells:=by
 cases t<;>first | rfl | (simp [Ty.agg] at h)
theorem zca {t:Ty} (h:t.agg=false) (x:t.den):(encD t x).cells=[encD t x]:=by
 cases t<;>first | rfl | exact zhb _ x | (simp [Ty.agg] at h)
theorem zoj {t:Ty} (h:t.agg=false):t.sz=1:=by
 cases t<;>first | rfl | (simp [Ty.agg] at h)
def Ty.dflt:(t:Ty)->t.den
 | .int _=>(0:Int)
 | .bool=>false
 | .str=>[]
 | .list _=>[]
 | .unit=>()
 | .pair a b=>(a.dflt,b.dflt)
 | .tree _ => .nil
instance inhI (t:Ty):Inhabited t.den:=⟨t.dflt⟩
def Ty.zc:Ty->List Value
 | .int k=>[.int k 0]
 | .bool=>[.bool false]
 | .str=>[.string ⟨⟨[]⟩⟩]
 | .list _=>[.slice none 0 0]
 | .unit=>[]
 | .pair a b=>a.zc++b.zc
 | .tree _=>[.pointer none]
def Ty.zero (t:Ty):Value:=match t with
 | .unit => .agg #[]
 | .pair a b => .agg ⟨a.zc++b.zc⟩
 | .int k => .int k 0
 | .bool => .bool false
 | .str => .string ⟨⟨[]⟩⟩
 | .list _ => .slice none 0 0
 | .tree _ => .pointer none
theorem zuL (t:Ty):t.zero.cells.toList=t.zc:=by cases t<;>rfl
theorem ZRs.append:∀ {as:List D} {vs:List Value} {bs:List D} {us:List Value},ZRs as vs->ZRs bs us->ZRs (as++bs) (vs++us)
 | [],[],_,_,_,h=>h
 | a::as,v::vs,_,_,h,k=>⟨h.1,ZRs.append h.2 k⟩
 | [],_::_,_,_,h,_=>by simp [ZRs] at h
 | _::_,[],_,_,h,_=>by simp [ZRs] at h
theorem zrs (t:Ty):ZRs (encD t t.dflt).cells t.zc:=by
 induction t with
 | int k=>exact ⟨.lit _ rfl,trivial⟩
 | bool=>exact ⟨.lit _ rfl,trivial⟩
 | str=>exact ⟨.lit _ rfl,trivial⟩
 | list t _=>exact ⟨.nil _,trivial⟩
 | unit=>trivial
 | pair a b iha ihb=>exact ZRs.append iha ihb
 | tree t _=>exact ⟨.lit _ rfl,trivial⟩
def Ty.ext:Ty->Ty->Ty
 | .pair a b,k => .pair a (b.ext k)
 | .unit,k => .pair k .unit
 | t,_=>t
def Ty.chain:Ty->Bool
 | .pair _ b=>b.chain
 | .unit=>true
 | _=>false
def zdE (u:Ty):Ty:=u.ext (.list (.tree u))
def zlS:(t k:Ty)->(t.ext k).den->t.den×k.den
 | .pair a b,k,x=>((x.1,(zlS b k x.2).1),(zlS b k x.2).2)
 | .unit,_,x=>((),x.1)
 | .int _,k,x=>(x,k.dflt)
 | .bool,k,x=>(x,k.dflt)
 | .str,k,x=>(x,k.dflt)
 | .list _,k,x=>(x,k.dflt)
 | .tree _,k,x=>(x,k.dflt)
def extV:(t k:Ty)->t.den->k.den->(t.ext k).den
 | .pair a b,k,x,y=>(x.1,extV b k x.2 y)
 | .unit,_,_,y=>(y,())
 | .int _,_,x,_=>x
 | .bool,_,x,_=>x
 | .str,_,x,_=>x
 | .list _,_,x,_=>x
 | .tree _,_,x,_=>x
theorem zlB:∀ (t k:Ty) (x:(t.ext k).den),t.chain=true->(encD (t.ext k) x).cells=(encD t (zlS t k x).1).cells++(encD k (zlS t k x).2).cells
 | .pair a b,k,x,h=>by
  show (encD a x.1).cells++(encD (b.ext k) x.2).cells=((encD a x.1).cells++(encD b (zlS b k x.2).1).cells)++(encD k (zlS b k x.2).2).cells;rw [zlB b k x.2 h,List.append_assoc]
 | .unit,k,x,_=>by
  show (encD k x.1).cells++[]=[]++(encD k x.1).cells;rw [List.append_nil,List.nil_append]
 | .int _,_,_,h=>by cases h
 | .bool,_,_,h=>by cases h
 | .str,_,_,h=>by cases h
 | .list _,_,_,h=>by cases h
 | .tree _,_,_,h=>by cases h
theorem zl2:∀ (t k:Ty) (x:t.den) (y:k.den),t.chain=true->(encD (t.ext k) (extV t k x y)).cells=(encD t x).cells++(encD k y).cells
 | .pair a b,k,x,y,h=>by
  show (encD a x.1).cells++(encD (b.ext k) (extV b k x.2 y)).cells=((encD a x.1).cells++(encD b x.2).cells)++(encD k y).cells;rw [zl2 b k x.2 y h,List.append_assoc]
 | .unit,k,x,y,_=>by
  show (encD k y).cells++[]=[]++(encD k y).cells;rw [List.append_nil,List.nil_append]
 | .int _,_,_,_,h=>by cases h
 | .bool,_,_,_,h=>by cases h
 | .str,_,_,_,h=>by cases h
 | .list _,_,_,_,h=>by cases h
 | .tree _,_,_,_,h=>by cases h
def mkTr (u:Ty) (x:(zdE u).den):Tr u.den := .mk (zlS u (.list (.tree u)) x).1 (zlS u (.list (.tree u)) x).2
theorem zl7 (u:Ty) (k:List (Tr u.den)):(encD (.list (.tree u)) k).cells=[.sl 8 (zoF (fun v=>(encD u v).cells) k)]:=by
 rw [znA];rfl
theorem zsL {u:Ty} (h:u.chain=true) (x:(zdE u).den):encD (.tree u) (mkTr u x) = .ptr (.agg (encD (zdE u) x).cells):=by
 have e:(encD (zdE u) x).cells=(encD u (zlS u (.list (.tree u)) x).1).cells++[.sl 8 (zoF (fun v=>(encD u v).cells) (zlS u (.list (.tree u)) x).2)]:=by
  have:=zlB u (.list (.tree u)) x h;rw [zl7] at this;exact this
 rw [e];rfl
theorem zll {u:Ty} (h:u.chain=true):(zdE u).agg=true:=by
 cases u<;>first | rfl | cases h
def Tr.isMk {α:Type}:Tr α->Bool
 | .nil=>false
 | .mk _ _=>true
def Tr.val {α:Type} (d:α):Tr α->α
 | .nil=>d
 | .mk v _=>v
def Tr.kids {α:Type}:Tr α->List (Tr α)
 | .nil=>[]
 | .mk _ k=>k
def zt2 (u:Ty) (x:Tr u.den):(zdE u).den:=extV u (.list (.tree u)) (x.val u.dflt) x.kids
theorem zrW {u:Ty} (h:u.chain=true) {x:Tr u.den} (hx:x.isMk=true):encD (.tree u) x = .ptr (encD (zdE u) (zt2 u x)):=by
 cases x with
 | nil=>cases hx
 | mk v k=>
  have e:(encD (zdE u) (zt2 u (.mk v k))).cells=(encD u v).cells++[.sl 8 (zoF (fun v=>(encD u v).cells) k)]:=by
   have:=zl2 u (.list (.tree u)) v k h;rw [zl7] at this;exact this
  rw [zbz (zll h),e];rfl
end Go.Ab
