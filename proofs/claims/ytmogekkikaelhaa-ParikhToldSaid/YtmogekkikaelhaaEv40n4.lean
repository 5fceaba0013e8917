import Derived.Test.YtmogekkikaelhaaEv40n3
set_option linter.unusedVariables false
set_option linter.unusedSimpArgs false
namespace Go.Ab
noncomputable section
open Enc (enc)
def Conv (x y:AV):Prop:=∀ (w:World) (S:Nat->Prop) (H:Hd) (v:Value),VRel w S H x v->VRel w S H y v
theorem Conv.refl (x:AV):Conv x x:=fun _ _ _ _ h=>h
theorem RO.conv {P:Program} {F:Fr} {σ:St} {o:Oper} {x y:AV} (h:RO P F σ o x) (c:Conv x y):RO P F σ o y:=fun H a w r=>
 let ⟨v,h1,h2⟩:=h H a w r;⟨v,h1,c _ _ _ _ h2⟩
def zly:(t:Ty)->t.den->Nat->(u:Ty)->Option u.den
 | .pair a b,x,k,u=>bif Nat.beq k 0 && Ty.beq (.pair a b) u then zaL (.pair a b) u x else
   bif Nat.blt k a.sz then zly a x.1 k u else zly b x.2 (k - a.sz) u
 | t,x,k,u=>bif Nat.beq k 0 then zaL t u x else none
theorem zjB:∀ {t:Ty} {x:t.den} {k:Nat} {u:Ty} {y:u.den},zly t x k u=some y->((encD t x).cells.drop k).take u.sz=(encD u y).cells:=by
 have base:∀ {t:Ty} {x:t.den} {k:Nat} {u:Ty} {y:u.den},(bif Nat.beq k 0 then zaL t u x else none)=some y->((encD t x).cells.drop k).take u.sz=(encD u y).cells:=by
  intro t x k u y h;cases hb:Nat.beq k 0 with
  | false=>rw [hb] at h;cases h
  | true=>
   rw [hb] at h;obtain ⟨rfl,rfl⟩:=zaz (show zaL t u x=some y from h);rw [Nat.eq_of_beq_eq_true hb,List.drop_zero,List.take_of_length_le (by rw [zau];exact Nat.le_refl _)]
 intro t;induction t with
 | pair a b iha ihb=>
  intro x k u y h;rw [zly] at h;cases hb:(Nat.beq k 0 && Ty.beq (.pair a b) u) with
  | true=>
   rw [hb] at h;simp only [Bool.and_eq_true] at hb;exact base (t := .pair a b) (x:=x) (k:=k) (by rw [hb.1];exact h)
  | false=>
   rw [hb] at h;simp only [cond_false] at h;have hl:=zau a x.1;have hc:(encD (.pair a b) x).cells=(encD a x.1).cells++(encD b x.2).cells:=rfl;cases hk:Nat.blt k a.sz with
   | true=>
    rw [hk] at h;have h1:=iha (show zly a x.1 k u=some y from h);have hk':k < a.sz:=by simpa using hk
    have hlen:u.sz<=a.sz - k:=by
     have:=congrArg List.length h1;rw [List.length_take,List.length_drop,hl,zau u y] at this;omega
    rw [hc,List.drop_append_of_le_length (by omega),List.take_append_of_le_length (by rw [List.length_drop];omega)];exact h1
   | false=>
    rw [hk] at h;have h1:=ihb (show zly b x.2 (k - a.sz) u=some y from h);have hk':a.sz<=k:=by
     have : ¬ k < a.sz:=fun h=>by
      have:Nat.blt k a.sz=true:=by simpa using h
      rw [this] at hk;cases hk
     omega
    rw [hc,List.drop_append,List.drop_of_length_le (by omega),List.nil_append,hl];exact h1
 | int q=>intro x k u y h;exact base (show (bif Nat.beq k 0 then zaL _ u x else none)=some y from h)
 | bool=>intro x k u y h;exact base (show (bif Nat.beq k 0 then zaL _ u x else none)=some y from h)
 | str=>intro x k u y h;exact base (show (bif Nat.beq k 0 then zaL _ u x else none)=some y from h)
 | list t=>intro x k u y h;exact base (show (bif Nat.beq k 0 then zaL _ u x else none)=some y from h)
 | tree t=>intro x k u y h;exact base (show (bif Nat.beq k 0 then zaL _ u x else none)=some y from h)
 | unit=>intro x k u y h;exact base (show (bif Nat.beq k 0 then zaL _ u x else none)=some y from h)
def zjH:(t:Ty)->t.den->List EV
 | .pair a b,x=>zjH a x.1++zjH b x.2
 | .unit,_=>[]
 | t,x=>[.d t x]
theorem zc9:∀ (l m:List EV),EV.avL (l++m)=EV.avL l++EV.avL m
 | [],_=>rfl
 | x::l,m=>by rw [List.cons_append,EV.avL,EV.avL,zc9 l m];rfl
theorem zgp:∀ (t:Ty) (x:t.den),EV.avL (zjH t x)=(encD t x).cells.map AV.d
 | .pair a b,x=>by
  rw [zjH,zc9,zgp a,zgp b,<- List.map_append];rfl
 | .unit,_=>rfl
 | .int _,_=>rfl
 | .bool,_=>rfl
 | .str,_=>rfl
 | .list _,_=>rfl
 | .tree _,x=>by
  show [AV.d (encT _ x)]=(encT _ x).cells.map AV.d;rw [zhb];rfl
def nilT:Value->Bool
 | .pointer none=>true
 | _=>false
theorem zo4 {a:Value} (h:nilT a=true):a = .pointer none:=by
 unfold nilT at h;split at h
 ·rfl
 ·cases h
def EV.as1:(t:Ty)->EV->Option t.den
 | t,.d t' x=>zaL t' t x
 | .list t,.nil=>some ([]:List t.den)
 | .tree t,.lit a=>bif nilT a then some (.nil:Tr t.den) else none
 | _,_=>none
theorem zmt {t:Ty} {v:EV} {x:t.den} (h:v.as1 t=some x):v.av = .d (encD t x)\/(v = .nil/\∃ u,t = .list u/\encD t x = .sl u.bts []):=by
 cases v with
 | d t' y=>
  have h:zaL t' t y=some x:=by cases t<;>exact h
  obtain ⟨rfl,rfl⟩:=zaz h;exact .inl rfl
 | nil=>
  cases t with
  | list u=>
   have h:some ([]:List u.den)=some x:=h;cases h;exact .inr ⟨rfl,u,rfl,rfl⟩
  | _=>cases h
 | lit a=>
  cases t with
  | tree u=>
   have h2:(bif nilT a then some (.nil:Tr u.den) else none)=some x:=h;cases hn:nilT a with
   | false=>rw [hn] at h2;cases h2
   | true=>
    rw [hn] at h2;have e:=zo4 hn;cases h2;subst e;exact .inl rfl
  | _=>cases h
 | _=>cases t<;>cases h
def hd1 (t:Ty) (c:EV) (l:List EV):Option (t.den×List EV):=match c.as1 t with
 | some x=>some (x,l)
 | none=>none
def zjs:(t:Ty)->List EV->Option (t.den×List EV)
 | .unit,l=>some ((),l)
 | .pair a b,l=>match zjs a l with
  | some (x,l1)=>match zjs b l1 with
   | some (y,l2)=>some ((x,y),l2)
   | none=>none
  | none=>none
 | .int k,c::l=>hd1 (.int k) c l
 | .bool,c::l=>hd1 .bool c l
 | .str,c::l=>hd1 .str c l
 | .list t,c::l=>hd1 (.list t) c l
 | .tree t,c::l=>hd1 (.tree t) c l
 | _,[]=>none
theorem zjS:∀ {as:List AV} {ds:List D} {bs:List AV} {es:List D},zid as ds->zid bs es->zid (as++bs) (ds++es)
 | [],ds,_,_,h,k=>by have:ds=[]:=h;subst this;exact k
 | a::as,d::ds,_,_,h,k=>⟨h.1,zjS h.2 k⟩
 | _::_,[],_,_,h,_=>h.elim
theorem zcI:∀ {t:Ty} {l l2:List EV} {x:t.den},zjs t l=some (x,l2)->∃ l1,l=l1++l2/\zid (EV.avL l1) (encD t x).cells:=by
 have one:∀ {t:Ty} {c:EV} {l l2:List EV} {x:t.den},t.agg=false->hd1 t c l=some (x,l2)->∃ l1,c::l=l1++l2/\zid (EV.avL l1) (encD t x).cells:=by
  intro t c l l2 x ht h;unfold hd1 at h;split at h
  ·rename_i y hy;cases h;refine ⟨[c],rfl,?_⟩;rw [zca ht];rcases zmt hy with e | ⟨rfl,u,rfl,hu⟩
   ·exact ⟨.inl e,rfl⟩
   ·rw [hu];exact ⟨.inr ⟨rfl,_,rfl⟩,rfl⟩
  ·cases h
 intro t;induction t with
 | unit=>intro l l2 x h;simp only [zjs,Option.some.injEq,Prod.mk.injEq] at h;exact ⟨[],by rw [h.2];rfl,rfl⟩
 | pair a b iha ihb=>
  intro l l2 x h;simp only [zjs] at h;split at h
  ·rename_i y l1 h1;split at h
   ·rename_i z l3 h3;cases h;obtain ⟨m1,rfl,k1⟩:=iha h1;obtain ⟨m2,rfl,k2⟩:=ihb h3;refine ⟨m1++m2,by rw [List.append_assoc],?_⟩;rw [zc9];exact zjS k1 k2
   ·cases h
  ·cases h
 | int k=>intro l l2 x h;cases l with
  | nil=>cases h
  | cons c l=>exact one rfl h
 | bool=>intro l l2 x h;cases l with
  | nil=>cases h
  | cons c l=>exact one rfl h
 | str=>intro l l2 x h;cases l with
  | nil=>cases h
  | cons c l=>exact one rfl h
 | list u=>intro l l2 x h;cases l with
  | nil=>cases h
  | cons c l=>exact one rfl h
 | tree u=>intro l l2 x h;cases l with
  | nil=>cases h
  | cons c l=>exact one rfl h
def EV.as (t:Ty):EV->Option t.den
 | .agg l=>bif t.agg then (match zjs t l with
  | some (x,[])=>some x
  | _=>none) else none
 | v=>v.as1 t
theorem zqN {t:Ty} {v:EV} {x:t.den} (h:v.as t=some x):Conv v.av (.d (encD t x)):=by
 have one:v.as1 t=some x->Conv v.av (.d (encD t x)):=by
  intro h;rcases zmt h with e | ⟨rfl,u,rfl,hu⟩
  ·rw [e];exact Conv.refl _
  ·rw [hu];intro w S H v hv;cases hv;exact .d _ _ (.nil _ _ _ (by simp [maxLen]) (fun _=>rfl))
 cases v with
 | agg l=>
  simp only [EV.as] at h;cases ha:t.agg with
  | false=>rw [ha] at h;cases h
  | true=>
   rw [ha] at h;simp only [cond_true] at h;split at h
   ·rename_i y hy;cases h;obtain ⟨l1,h1,h2⟩:=zcI hy;rw [List.append_nil] at h1;subst h1;intro w S H v hv;rw [zbz ha];exact VRel.packn hv h2
   ·cases h
 | _=>exact one h
def vecT (e:Ty):Nat->Ty
 | 0 => .unit
 | n+1 => .pair e (vecT e n)
def vget (e:Ty):(n:Nat)->(vecT e n).den->Nat->e.den
 | 0,_,_=>e.dflt
 | _+1,x,0=>x.1
 | n+1,x,j+1=>vget e n x.2 j
theorem zjD (e:Ty):∀ (n:Nat) (x:(vecT e n).den) (j:Nat),j < n->((encD (vecT e n) x).cells.drop (j * e.sz)).take e.sz=(encD e (vget e n x j)).cells
 | 0,_,_,h=>by omega
 | n+1,x,0,_=>by
  have hc:(encD (vecT e (n+1)) x).cells=(encD e x.1).cells++(encD (vecT e n) x.2).cells:=rfl;rw [hc,Nat.zero_mul,List.drop_zero,List.take_append_of_le_length (by rw [zau];exact Nat.le_refl _),List.take_of_length_le (by rw [zau];exact Nat.le_refl _)];rfl
 | n+1,x,j+1,h=>by
  have hc:(encD (vecT e (n+1)) x).cells=(encD e x.1).cells++(encD (vecT e n) x.2).cells:=rfl;have hl:=zau e x.1;rw [hc,List.drop_append,List.drop_of_length_le (by rw [hl,Nat.add_mul];omega),List.nil_append,hl];have:(j+1) * e.sz - e.sz=j * e.sz:=by rw [Nat.add_mul];omega
  rw [this];exact zjD e n x.2 j (by omega)
end
end Go.Ab
