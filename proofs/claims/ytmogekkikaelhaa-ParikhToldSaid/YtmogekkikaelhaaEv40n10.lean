import Derived.Test.YtmogekkikaelhaaEv40n9
set_option linter.unusedVariables false
set_option linter.unusedSimpArgs false
namespace Go.Ab
noncomputable section
open Enc (enc)
structure Sfx (s s':ESt):Prop where
 slots:∃ d,s'.slots=d++s.slots
 heap:∃ d,s'.heap=d++s.heap
 rws:∃ d,s'.rws=d++s.rws
 nxt:s.nxt<=s'.nxt
 n:s'.n=s.n
theorem Sfx.refl (s:ESt):Sfx s s:=⟨⟨[],rfl⟩,⟨[],rfl⟩,⟨[],rfl⟩,Nat.le_refl _,rfl⟩
theorem Sfx.trans {a b c:ESt} (h:Sfx a b) (k:Sfx b c):Sfx a c:=by
 obtain ⟨⟨d1,e1⟩,⟨d2,e2⟩,⟨d3,e3⟩,h3,h4⟩:=h;obtain ⟨⟨f1,g1⟩,⟨f2,g2⟩,⟨f3,g3⟩,k3,k4⟩:=k;exact ⟨⟨f1++d1,by rw [g1,e1,List.append_assoc]⟩,⟨f2++d2,by rw [g2,e2,List.append_assoc]⟩,⟨f3++d3,by rw [g3,e3,List.append_assoc]⟩,Nat.le_trans h3 k3,k4.trans h4⟩
theorem Sfx.set (s:ESt) (k:Nat) (x:EV):Sfx s (s.set k x):=⟨⟨[(k,x)],rfl⟩,⟨[],rfl⟩,⟨[],rfl⟩,Nat.le_refl _,rfl⟩
theorem Sfx.put (s:ESt) (id:Nat) (e:Option EEnt):Sfx s (s.put id e):=⟨⟨[],rfl⟩,⟨[(id,e)],rfl⟩,⟨[],rfl⟩,Nat.le_refl _,rfl⟩
theorem Sfx.new (s:ESt) (e:EEnt):Sfx s (s.new e):=⟨⟨[],rfl⟩,⟨[(s.nxt,some e)],rfl⟩,⟨[],rfl⟩,Nat.le_succ _,rfl⟩
theorem Sfx.setAll (x:EV):∀ (ks:List Nat) (s:ESt),Sfx s (s.setAll ks x)
 | [],s=>Sfx.refl s
 | k::ks,s=>(Sfx.set s k x).trans (Sfx.setAll x ks (s.set k x))
theorem Sfx.setViews (te:Ty) (l:List te.den):∀ (ks:List Nat) (s:ESt),Sfx s (ESt.setViews te l ks s)
 | [],s=>Sfx.refl s
 | k::ks,s=>by
  simp only [ESt.setViews];split
  ·cases Ty.beq _ te with
   | true=>exact (Sfx.set _ _ _).trans (Sfx.setViews te l ks _)
   | false=>exact Sfx.setViews te l ks s
  ·exact Sfx.setViews te l ks s
theorem Sfx.freezeArr (s:ESt) (id:Nat) (te:Ty) (l:List te.den):Sfx s (s.freezeArr id te l):=
 ((Sfx.put _ _ _).trans (Sfx.setAll _ _ _)).trans (Sfx.setViews _ _ _ _)
theorem Sfx.frzS (s:ESt) (k f:Nat):Sfx s (s.frzS k f):=⟨⟨[],rfl⟩,⟨[(k,none)],rfl⟩,⟨[(f,none)],rfl⟩,Nat.le_refl _,rfl⟩
theorem Sfx.datify {s s':ESt} {k:Nat} {t:Ty} (h:s.datify k t=some s'):Sfx s s':=by
 unfold ESt.datify at h;split at h
 ·split at h
  ·obtain ⟨_,h⟩:=zaa h;cases h;exact Sfx.freezeArr _ _ _ _
  ·split at h
   ·obtain ⟨_,h⟩:=zaa h;cases h;exact (Sfx.frzS _ _ _).trans (Sfx.setAll _ _ _)
   ·cases h
  ·cases h
 ·split at h
  ·obtain ⟨_,h⟩:=zaa h;cases h;exact Sfx.freezeArr _ _ _ _
  ·cases h
 ·obtain ⟨_,h⟩:=zaa h;cases h;exact Sfx.refl _
 ·split at h
  ·cases h;exact Sfx.set _ _ _
  ·cases h
 ·cases h
theorem Sfx.dat0 (s:ESt) (x:Operand) (t:Ty):Sfx s (s.dat0 x t):=by
 unfold ESt.dat0;split
 ·split
  ·rename_i h;exact Sfx.datify h
  ·exact Sfx.refl _
 ·exact Sfx.refl _
theorem Sfx.boxDat1 (s:ESt) (id j:Nat):Sfx s (s.boxDat1 id j):=by
 unfold ESt.boxDat1;split
 ·rename_i T cs h1;split
  ·rename_i id2 h2;split
   ·cases Nat.beq _ id
    ·exact (Sfx.put _ _ _).trans (Sfx.put _ _ _)
    ·exact Sfx.refl _
   ·rename_i f E h3;split
    ·rename_i r _;cases !(Nat.beq id2 id) && r.hole.isNone && zdC s id2 [f] [] && Nat.blt f RB
     ·exact Sfx.refl _
     ·exact (Sfx.frzS _ _ _).trans (Sfx.put _ _ _)
    ·exact Sfx.refl _
   ·exact Sfx.refl _
  ·exact Sfx.refl _
 ·exact Sfx.refl _
theorem Sfx.boxDat (id:Nat):∀ (n:Nat) (s:ESt) (k:Nat),Sfx s (s.boxDat id k n)
 | 0,s,_=>Sfx.refl s
 | n+1,s,k=>(Sfx.boxDat1 s id k).trans (Sfx.boxDat id n _ (k+1))
theorem Sfx.treeify2 (s:ESt) (id:Nat) (u:Ty):Sfx s (s.treeify2 id u):=by
 unfold ESt.treeify2;split
 ·split
  ·cases u.chain with
   | false=>exact Sfx.refl s
   | true=>exact (((Sfx.put _ _ _).trans (Sfx.put _ _ _)).trans (Sfx.setAll _ _ _)).trans (Sfx.setAll _ _ _)
  ·exact Sfx.refl s
 ·exact Sfx.refl s
theorem Sfx.treeify (s:ESt) (k:Nat) (u:Ty):Sfx s (s.treeify k u):=by
 unfold ESt.treeify;split
 ·split
  ·exact (Sfx.boxDat _ _ s 0).trans (Sfx.treeify2 _ _ _)
  ·exact Sfx.refl s
 ·exact Sfx.refl s
theorem Sfx.dat (s:ESt) (x:Operand) (t:Ty):Sfx s (s.dat x t):=by
 unfold ESt.dat;split
 ·exact (Sfx.treeify s _ _).trans (Sfx.dat0 _ _ _)
 ·exact Sfx.dat0 s x t
inductive SV where
 | v (j:Nat)
 | own (id:Nat)
 | ptr (id off:Nat)
 | addr (j:Nat)
 | fn (f:Nat) (c:List SV)
 | agg (c:List SV)
 | nil
 | any
inductive SE where
 | arr (E j:Nat)
 | box (T:Nat) (c:List SV)
 | out (f E E1 j:Nat)
structure Shape where
 tys:List Ty
 slots:List (Nat×SV)
 ents:List (Nat×SE)
mutual
def SV.ev (g:Nat->EV) (ρ:Nat->Nat):SV->EV
 | .v j=>g j
 | .own id => .own (ρ id)
 | .ptr id off => .ptr (ρ id) off
 | .addr j=>match g j with
  | .d t x => .addr t x
  | _ => .any
 | .fn f c => .fn f (SV.evL g ρ c)
 | .agg c => .agg (SV.evL g ρ c)
 | .nil => .nil
 | .any => .any
def SV.evL (g:Nat->EV) (ρ:Nat->Nat):List SV->List EV
 | []=>[]
 | x::r=>x.ev g ρ::SV.evL g ρ r
end
def SE.ee (g:Nat->EV) (ρ:Nat->Nat):SE->Option EEnt
 | .arr E j=>match g j with
  | .d (.list t) l=>some (.arr E t l)
  | _=>none
 | .box T c=>some (.box T (SV.evL g ρ c))
 | .out f E _ j=>match g j with
  | .d (.list (.list _)) _=>some (.out (ρ f) E)
  | _=>none
def SE.rw (g:Nat->EV) (ρ:Nat->Nat):SE->Option (Nat×Option RW)
 | .out f _ E1 j=>match g j with
  | .d (.list (.list t)) l=>some (ρ f,some ⟨E1,t,l,none⟩)
  | _=>none
 | _=>none
def zbr (g:Nat->EV) (ρ:Nat->Nat) (l:List (Nat×SE)):List (Nat×Option RW):=l.filterMap fun p=>p.2.rw g ρ
def zcG (g:Nat->EV) (ρ:Nat->Nat) (l:List (Nat×SE)):List (Nat×Option EEnt):=l.map fun p=>(ρ p.1,p.2.ee g ρ)
structure CE where
 f:Nat
 sig:Shape
 out:Shape
 den:Tup sig.tys->Option (Tup out.tys)
def Shape.vals (sh:Shape) (X:Tup sh.tys):List EV:=sh.slots.map fun p=>p.2.ev (Tup.get sh.tys X) id
def Shape.heap (sh:Shape) (X:Tup sh.tys):List (Nat×Option EEnt):=zcG (Tup.get sh.tys X) id sh.ents
def Shape.rws (sh:Shape) (X:Tup sh.tys):List (Nat×Option RW):=zbr (Tup.get sh.tys X) id sh.ents
def hpSt (l:List (Nat×Option EEnt)) (rs:List (Nat×Option RW)):Hp:=fun k=>match look l k with
 | some e=>e.map (EEnt.ent rs)
 | none=>zar rs k
theorem zrz (s:ESt):s.st.ent=hpSt s.heap s.rws:=by
 funext k;rw [zao];rfl
def retE:List EV->EV
 | [x]=>x
 | xs => .tup xs
theorem zpb (l:List EV):(retE l).av=zpW (EV.avL l):=by
 match l with
 | []=>rfl
 | [x]=>rfl
 | x::y::r=>rfl
structure CE.ok (P:Program) (c:CE):Prop where
 call:∀ (as:Array Value) (w:World),(callFunc c.f as).run P w = .ok (.enter c.f as) w
 fc:∀ X Y,c.den X=some Y->Fc P c.f (EV.avL (c.sig.vals X)) (hpSt (c.sig.heap X) (c.sig.rws X)) (fun r h=>r=(retE (c.out.vals Y)).av/\h=hpSt (c.out.heap Y) (c.out.rws Y))
def GOK (P:Program) (Γ:List CE):Prop:=∀ c∈Γ,c.ok P
abbrev Vs:=List (Nat×EV)
abbrev Ids:=List (Nat×Nat)
def zot (k o:Nat) (l:Ids):Option Ids:=match look l k with
 | some o'=>bif Nat.beq o o' then some l else none
 | none=>some ((k,o)::l)
theorem zsJ {β:Type} {k:Nat} {v:β} {l:List (Nat×β)} {i:Nat} {q:β} (hn:look l k=none) (h:look l i=some q):look ((k,v)::l) i=some q:=by
 rw [zae];by_cases hk:k=i
 ·subst hk;rw [hn] at h;cases h
 ·rw [if_neg hk];exact h
theorem zdX {k o:Nat} {l l':Ids} (h:zot k o l=some l'):look l' k=some o/\∀ i q,look l i=some q->look l' i=some q:=by
 unfold zot at h;split at h
 ·rename_i o' ho;obtain ⟨hb,h⟩:=zaa h;cases h;rw [Nat.eq_of_beq_eq_true hb];exact ⟨ho,fun _ _ h=>h⟩
 ·rename_i hn;cases h;exact ⟨by rw [zae,if_pos rfl],fun i q hq=>zsJ hn hq⟩
mutual
def mch:SV->EV->Vs×Ids->Option (Vs×Ids)
 | .v j,.d t x,(vs,ids)=>some ((j,.d t x)::vs,ids)
 | .own i,.own o,(vs,ids)=>match zot i o ids with
  | some ids=>some (vs,ids)
  | none=>none
 | .ptr i a,.ptr o b,(vs,ids)=>bif Nat.beq a b then (match zot i o ids with
  | some ids=>some (vs,ids)
  | none=>none) else none
 | .addr j,.addr t x,(vs,ids)=>some ((j,.d t x)::vs,ids)
 | .fn f l,.fn g m,acc=>bif Nat.beq f g then mchL l m acc else none
 | .agg l,.agg m,acc=>mchL l m acc
 | .nil,.nil,acc=>some acc
 | _,_,_=>none
def mchL:List SV->List EV->Vs×Ids->Option (Vs×Ids)
 | [],[],acc=>some acc
 | x::l,y::m,acc=>match mch x y acc with
  | some acc=>mchL l m acc
  | none=>none
 | _,_,_=>none
end
def mchE (s:ESt):List (Nat×SE)->Vs×Ids->Option (Vs×Ids)
 | [],acc=>some acc
 | (i,.arr E j)::r,(vs,ids)=>match look ids i with
  | some o=>match s.ent o with
   | some (.arr E' t l)=>bif Nat.beq E E' then mchE s r ((j,.d (.list t) l)::vs,ids) else none
   | _=>none
  | none=>none
 | (i,.box T c)::r,(vs,ids)=>match look ids i with
  | some o=>match s.ent o with
   | some (.box T' c')=>bif Nat.beq T T' then (match mchL c c' (vs,ids) with
    | some acc=>mchE s r acc
    | none=>none) else none
   | _=>none
  | none=>none
 | (i,.out f E E1 j)::r,(vs,ids)=>match look ids i with
  | some o=>match s.ent o with
   | some (.out f' E')=>match look s.rws f' with
    | some (some ⟨E1',t,l,none⟩)=>bif Nat.beq E E' && Nat.beq E1 E1' && Nat.blt f' RB && Nat.blt f RB then (match zot f f' ids with
     | some ids=>mchE s r ((j,.d (.list (.list t)) l)::vs,ids)
     | none=>none) else none
    | _=>none
   | _=>none
  | none=>none
def zbQ (s:ESt):(t:Ty)->List EV->List Nat->Option (t.den×List EV×List Nat)
 | .unit,l,ln=>some ((),l,ln)
 | .pair a b,l,ln=>match zbQ s a l ln with
  | some (x,l1,ln1)=>match zbQ s b l1 ln1 with
   | some (y,l2,ln2)=>some ((x,y),l2,ln2)
   | none=>none
  | none=>none
 | .list t,.own id::l,ln=>match s.ent id with
  | some (.arr _ te xs)=>match zaL (.list te) (.list t) xs with
   | some x=>some (x,l,id::ln)
   | none=>none
  | some (.out f _)=>match zeT s f with
   | some r=>match zaL (.list (.list r.t)) (.list t) r.l with
    | some x=>some (x,l,id::f::ln)
    | none=>none
   | none=>none
  | _=>none
 | t,c::l,ln=>match c.as1 t with
  | some x=>some (x,l,ln)
  | none=>none
 | _,[],_=>none
mutual
def rowG (s:ESt):EV->List (Nat×Nat)
 | .row f _ i=>match zeT s f with
  | some r=>[(i,r.l.length)]
  | none=>[]
 | .fn _ l=>zlR s l
 | .agg l=>zlR s l
 | _=>[]
def zlR (s:ESt):List EV->List (Nat×Nat)
 | []=>[]
 | x::r=>rowG s x++zlR s r
end
def zmi (l:List (Nat×Nat)):Prop:=∀ p∈l,p.1 < p.2
def grd {R:Type}:List (Nat×Nat)->Option R->Option R
 | [],k=>k
 | p::r,k=>G (p.1 < p.2) (grd r k)
theorem zm0 {R:Type} {k:Option R} {q:R}:∀ {l:List (Nat×Nat)},grd l k=some q->zmi l/\k=some q
 | [],h=>⟨fun p hp=>(by cases hp),h⟩
 | p::r,h=>by
  unfold grd G at h;split at h
  ·rename_i hp;obtain ⟨h1,h2⟩:=zm0 h;exact ⟨fun p' hp'=>(by
    rcases List.mem_cons.1 hp' with rfl | h3
    ·exact hp
    ·exact h1 _ h3),h2⟩
  ·cases h
mutual
def hnd (s:ESt) (tys:List Ty):SV->EV->Vs×Ids×List Nat->Option (Vs×Ids×List Nat)
 | .v j,.own id,(vs,ids,ln)=>match s.ent id with
  | some (.arr _ t l)=>some ((j,.d (.list t) l)::vs,ids,id::ln)
  | some (.out f _)=>match zeT s f with
   | some r=>some ((j,.d (.list (.list r.t)) r.l)::vs,ids,id::f::ln)
   | none=>none
  | _=>none
 | .v j,.d t x,(vs,ids,ln)=>some ((j,.d t x)::vs,ids,ln)
 | .v j,.row f _ i,(vs,ids,ln)=>match zeT s f with
  | some r=>some ((j,.d (.list r.t) (r.l.getD i []))::vs,ids,f::ln)
  | none=>none
 | .v j,x,(vs,ids,ln)=>match tys[j]? with
  | some t=>match x.as t with
   | some a=>some ((j,.d t a)::vs,ids,ln)
   | none=>none
  | none=>none
 | .own i,.own o,(vs,ids,ln)=>match zot i o ids with
  | some ids=>some (vs,ids,ln)
  | none=>none
 | .ptr i a,.ptr o b,(vs,ids,ln)=>bif Nat.beq a b then (match zot i o ids with
  | some ids=>some (vs,ids,ln)
  | none=>none) else none
 | .addr j,.addr t x,(vs,ids,ln)=>some ((j,.d t x)::vs,ids,ln)
 | .addr j,.ptr id 0,(vs,ids,ln)=>match s.ent id with
  | some (.box _ cs)=>match tys[j]? with
   | some t=>match zbQ s t cs (id::ln) with
    | some (x,[],ln')=>some ((j,.d t x)::vs,ids,ln')
    | _=>none
   | none=>none
  | _=>none
 | .fn f l,.fn g m,acc=>bif Nat.beq f g then hndL s tys l m acc else none
 | .agg l,.agg m,acc=>hndL s tys l m acc
 | .nil,.nil,acc=>some acc
 | .any,_,acc=>some acc
 | _,_,_=>none
def hndL (s:ESt) (tys:List Ty):List SV->List EV->Vs×Ids×List Nat->Option (Vs×Ids×List Nat)
 | [],[],acc=>some acc
 | x::l,y::m,acc=>match hnd s tys x y acc with
  | some acc=>hndL s tys l m acc
  | none=>none
 | _,_,_=>none
end
end
end Go.Ab
