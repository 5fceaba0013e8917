import Derived.Test.YtajabcfngklacaaEv40n3
set_option linter.unusedVariables false
set_option linter.unusedSimpArgs false
namespace Go.Ab
noncomputable section
open Enc (enc)
def Conv (x y:AV):Prop:=∀ (w:World) (S:Nat->Prop) (H:Hd) (v:Value),VRel w S H x v->VRel w S H y v
theorem Conv.refl (x:AV):Conv x x:=fun _ _ _ _ h=>h
theorem RO.conv {P:Program} {F:Fr} {σ:St} {o:Oper} {x y:AV} (h:RO P F σ o x) (c:Conv x y):RO P F σ o y:=fun H a w r=>
 let ⟨v,h1,h2⟩:=h H a w r;⟨v,h1,c _ _ _ _ h2⟩
def zu5:(t:Ty)->t.den->Nat->(u:Ty)->Option u.den
 | .pair a b,x,k,u=>bif Nat.beq k 0 && Ty.beq (.pair a b) u then zcF (.pair a b) u x else
   bif Nat.blt k a.sz then zu5 a x.1 k u else zu5 b x.2 (k - a.sz) u
 | t,x,k,u=>bif Nat.beq k 0 then zcF t u x else none
theorem zrU:∀ {t:Ty} {x:t.den} {k:Nat} {u:Ty} {y:u.den},zu5 t x k u=some y->((encD t x).cells.drop k).take u.sz=(encD u y).cells:=by
 have base:∀ {t:Ty} {x:t.den} {k:Nat} {u:Ty} {y:u.den},(bif Nat.beq k 0 then zcF t u x else none)=some y->((encD t x).cells.drop k).take u.sz=(encD u y).cells:=by
  intro t x k u y h;cases c:Nat.beq k 0 with
  | false=>rw [c] at h;cases h
  | true=>
   rw [c] at h;obtain ⟨rfl,rfl⟩:=zcf (show zcF t u x=some y from h);rw [Nat.eq_of_beq_eq_true c,List.drop_zero,List.take_of_length_le (by rw [zbg];exact Nat.le_refl _)]
 intro t;induction t with
 | pair a b g i=>
  intro x k u y h;rw [zu5] at h;cases c:(Nat.beq k 0 && Ty.beq (.pair a b) u) with
  | true=>
   rw [c] at h;simp only [Bool.and_eq_true] at c;exact base (t := .pair a b) (x:=x) (k:=k) (by rw [c.1];exact h)
  | false=>
   rw [c] at h;simp only [cond_false] at h;have j:=zbg a x.1;have l:(encD (.pair a b) x).cells=(encD a x.1).cells++(encD b x.2).cells:=rfl;cases d:Nat.blt k a.sz with
   | true=>
    rw [d] at h;have e:=g (show zu5 a x.1 k u=some y from h);have f:k < a.sz:=by simpa using d
    have m:u.sz<=a.sz - k:=by
     have:=congrArg List.length e;rw [List.length_take,List.length_drop,j,zbg u y] at this;omega
    rw [l,List.drop_append_of_le_length (by omega),List.take_append_of_le_length (by rw [List.length_drop];omega)];exact e
   | false=>
    rw [d] at h;have e:=i (show zu5 b x.2 (k - a.sz) u=some y from h);have f:a.sz<=k:=by
     have : ¬ k < a.sz:=fun h=>by
      have:Nat.blt k a.sz=true:=by simpa using h
      rw [this] at d;cases d
     omega
    rw [l,List.drop_append,List.drop_of_length_le (by omega),List.nil_append,j];exact e
 | int q=>intro x k u y h;exact base (show (bif Nat.beq k 0 then zcF _ u x else none)=some y from h)
 | bool=>intro x k u y h;exact base (show (bif Nat.beq k 0 then zcF _ u x else none)=some y from h)
 | str=>intro x k u y h;exact base (show (bif Nat.beq k 0 then zcF _ u x else none)=some y from h)
 | list t=>intro x k u y h;exact base (show (bif Nat.beq k 0 then zcF _ u x else none)=some y from h)
 | tree t=>intro x k u y h;exact base (show (bif Nat.beq k 0 then zcF _ u x else none)=some y from h)
 | unit=>intro x k u y h;exact base (show (bif Nat.beq k 0 then zcF _ u x else none)=some y from h)
def zr5:(t:Ty)->t.den->List EV
 | .pair a b,x=>zr5 a x.1++zr5 b x.2
 | .unit,_=>[]
 | t,x=>[.d t x]
theorem zi2:∀ (l m:List EV),EV.avL (l++m)=EV.avL l++EV.avL m
 | [],_=>rfl
 | x::l,m=>by rw [List.cons_append,EV.avL,EV.avL,zi2 l m];rfl
theorem zoc:∀ (t:Ty) (x:t.den),EV.avL (zr5 t x)=(encD t x).cells.map AV.d
 | .pair a b,x=>by
  rw [zr5,zi2,zoc a,zoc b,<- List.map_append];rfl
 | .unit,_=>rfl
 | .int _,_=>rfl
 | .bool,_=>rfl
 | .str,_=>rfl
 | .list _,_=>rfl
 | .tree _,x=>by
  show [AV.d (encT _ x)]=(encT _ x).cells.map AV.d;rw [zo3];rfl
def nilT:Value->Bool
 | .pointer none=>true
 | _=>false
theorem zyk {a:Value} (h:nilT a=true):a = .pointer none:=by
 unfold nilT at h;split at h
 ·rfl
 ·cases h
def EV.as1:(t:Ty)->EV->Option t.den
 | t,.d t' x=>zcF t' t x
 | .list t,.nil=>some ([]:List t.den)
 | .tree t,.lit a=>bif nilT a then some (.nil:Tr t.den) else none
 | _,_=>none
theorem zvK {t:Ty} {v:EV} {x:t.den} (h:v.as1 t=some x):v.av = .d (encD t x)\/(v = .nil/\∃ u,t = .list u/\encD t x = .sl u.bts []):=by
 cases v with
 | d t' y=>
  have h:zcF t' t y=some x:=by cases t<;>exact h
  obtain ⟨rfl,rfl⟩:=zcf h;exact .inl rfl
 | nil=>
  cases t with
  | list u=>
   have h:some ([]:List u.den)=some x:=h;cases h;exact .inr ⟨rfl,u,rfl,rfl⟩
  | _=>cases h
 | lit a=>
  cases t with
  | tree u=>
   have b:(bif nilT a then some (.nil:Tr u.den) else none)=some x:=h;cases c:nilT a with
   | false=>rw [c] at b;cases b
   | true=>
    rw [c] at b;have e:=zyk c;cases b;subst e;exact .inl rfl
  | _=>cases h
 | _=>cases t<;>cases h
def hd1 (t:Ty) (c:EV) (l:List EV):Option (t.den×List EV):=match c.as1 t with
 | some x=>some (x,l)
 | none=>none
def zrC:(t:Ty)->List EV->Option (t.den×List EV)
 | .unit,l=>some ((),l)
 | .pair a b,l=>match zrC a l with
  | some (x,l1)=>match zrC b l1 with
   | some (y,l2)=>some ((x,y),l2)
   | none=>none
  | none=>none
 | .int k,c::l=>hd1 (.int k) c l
 | .bool,c::l=>hd1 .bool c l
 | .str,c::l=>hd1 .str c l
 | .list t,c::l=>hd1 (.list t) c l
 | .tree t,c::l=>hd1 (.tree t) c l
 | _,[]=>none
theorem zsj:∀ {as:List AV} {ds:List D} {bs:List AV} {es:List D},zt7 as ds->zt7 bs es->zt7 (as++bs) (ds++es)
 | [],ds,_,_,h,k=>by have:ds=[]:=h;subst this;exact k
 | a::as,d::ds,_,_,h,k=>⟨h.1,zsj h.2 k⟩
 | _::_,[],_,_,h,_=>h.elim
theorem zh1:∀ {t:Ty} {l l2:List EV} {x:t.den},zrC t l=some (x,l2)->∃ l1,l=l1++l2/\zt7 (EV.avL l1) (encD t x).cells:=by
 have one:∀ {t:Ty} {c:EV} {l l2:List EV} {x:t.den},t.agg=false->hd1 t c l=some (x,l2)->∃ l1,c::l=l1++l2/\zt7 (EV.avL l1) (encD t x).cells:=by
  intro t c l l2 x g h;unfold hd1 at h;split at h
  ·rename_i y i;cases h;refine ⟨[c],rfl,?_⟩;rw [ziq g];rcases zvK i with e | ⟨rfl,u,rfl,hu⟩
   ·exact ⟨.inl e,rfl⟩
   ·rw [hu];exact ⟨.inr ⟨rfl,_,rfl⟩,rfl⟩
  ·cases h
 intro t;induction t with
 | unit=>intro l l2 x h;simp only [zrC,Option.some.injEq,Prod.mk.injEq] at h;exact ⟨[],by rw [h.2];rfl,rfl⟩
 | pair a b d f=>
  intro l l2 x h;simp only [zrC] at h;split at h
  ·rename_i y l1 j;split at h
   ·rename_i z r m;cases h;obtain ⟨n,rfl,o⟩:=d j;obtain ⟨p,rfl,q⟩:=f m;refine ⟨n++p,by rw [List.append_assoc],?_⟩;rw [zi2];exact zsj o q
   ·cases h
  ·cases h
 | int k=>intro l l2 x h;cases l with
  | nil=>cases h
  | cons c l=>exact one rfl h
 | bool=>intro l l2 x h;cases l with
  | nil=>cases h
  | cons c l=>exact one rfl h
 | str=>intro l l2 x h;cases l with
  | nil=>cases h
  | cons c l=>exact one rfl h
 | list u=>intro l l2 x h;cases l with
  | nil=>cases h
  | cons c l=>exact one rfl h
 | tree u=>intro l l2 x h;cases l with
  | nil=>cases h
  | cons c l=>exact one rfl h
def EV.as (t:Ty):EV->Option t.den
 | .agg l=>bif t.agg then (match zrC t l with
  | some (x,[])=>some x
  | _=>none) else none
 | v=>v.as1 t
theorem zAq {t:Ty} {v:EV} {x:t.den} (h:v.as t=some x):Conv v.av (.d (encD t x)):=by
 have one:v.as1 t=some x->Conv v.av (.d (encD t x)):=by
  intro h;rcases zvK h with e | ⟨rfl,u,rfl,hu⟩
  ·rw [e];exact Conv.refl _
  ·rw [hu];intro w S H v a;cases a;exact .d _ _ (.nil _ _ _ (by simp [maxLen]) (fun _=>rfl))
 cases v with
 | agg l=>
  simp only [EV.as] at h;cases b:t.agg with
  | false=>rw [b] at h;cases h
  | true=>
   rw [b] at h;simp only [cond_true] at h;split at h
   ·rename_i y d;cases h;obtain ⟨l1,c,f⟩:=zh1 d;rw [List.append_nil] at c;subst c;intro w S H v a;rw [zfi b];exact VRel.packn a f
   ·cases h
 | _=>exact one h
def vecT (e:Ty):Nat->Ty
 | 0 => .unit
 | n+1 => .pair e (vecT e n)
def vget (e:Ty):(n:Nat)->(vecT e n).den->Nat->e.den
 | 0,_,_=>e.dflt
 | _+1,x,0=>x.1
 | n+1,x,j+1=>vget e n x.2 j
theorem zrZ (e:Ty):∀ (n:Nat) (x:(vecT e n).den) (j:Nat),j < n->((encD (vecT e n) x).cells.drop (j * e.sz)).take e.sz=(encD e (vget e n x j)).cells
 | 0,_,_,h=>by omega
 | n+1,x,0,_=>by
  have a:(encD (vecT e (n+1)) x).cells=(encD e x.1).cells++(encD (vecT e n) x.2).cells:=rfl;rw [a,Nat.zero_mul,List.drop_zero,List.take_append_of_le_length (by rw [zbg];exact Nat.le_refl _),List.take_of_length_le (by rw [zbg];exact Nat.le_refl _)];rfl
 | n+1,x,j+1,h=>by
  have a:(encD (vecT e (n+1)) x).cells=(encD e x.1).cells++(encD (vecT e n) x.2).cells:=rfl;have b:=zbg e x.1;rw [a,List.drop_append,List.drop_of_length_le (by rw [b,Nat.add_mul];omega),List.nil_append,b];have:(j+1) * e.sz - e.sz=j * e.sz:=by rw [Nat.add_mul];omega
  rw [this];exact zrZ e n x.2 j (by omega)
end
end Go.Ab
