import Derived.Test.YtmogekkikaelhaaEv40n18
import Derived.Test.YtmogekkikaelhaaEv40n29
import Derived.Scope
set_option linter.unusedVariables false
set_option linter.unusedSimpArgs false
set_option linter.unusedSectionVars false
namespace Go.Ab
noncomputable section
open Enc (enc)
variable {R:Type}
def ztA (o:Oper):Nat:=match o.op with
 | .move _ | .assign _ | .pick _ _ _ | .build _ _ | .load _ _ | .nilCheck _ | .binOp _ _ _ _ _ | .unOp _ _ _ | .convert _ _ _ | .makeFunc _ _ _ | .slice _ _ _ _ _ | .fieldAddr _ _ _ | .field _ _ _ | .indexAddr _ _ _ | .index _ _ _ | .extract _ _ | .lookup _ _ _ _=>0
 | .call c=>match c.callee with
  | .builtin .len=>0
  | .builtin .min=>0
  | .builtin .max=>0
  | .builtin .cap=>0
  | _=>2
 | _=>2
def zcb:Code->Nat
 | .region id _ _=>id
 | .seq a b=>match zcb a with
  | 0=>zcb b
  | n=>n
 | .cond _ a b=>match zcb a with
  | 0=>zcb b
  | n=>n
 | .block _ c=>zcb c
 | .loop c=>10000000+zcb c
 | .scope c=>zcb c
 | _=>0
def zgK:Code->Nat
 | .region id _ _=>id
 | .seq a b=>match zgK b with
  | 0=>zgK a
  | n=>n
 | .cond _ a b=>match zgK b with
  | 0=>zgK a
  | n=>n
 | .block _ c=>zgK c
 | .loop c=>zgK c
 | .scope c=>zgK c
 | _=>0
structure Ann where
 loops:List (Nat×Join)
 joins:List (Nat×Join)
 ords:List (Nat×List (Nat×Nat))
 trees:List (Nat×OT)
def zoA (ol:List Oper):List (Nat×Oper):=ol.map fun o=>(ztA o,o)
noncomputable def evC (TT:List TE) (Γ:List CE) (Γp:List CEp) (T:Nat) (bo:Option R->Option R->Option R) (A:Ann):Code->ESt->(Exit->ESt->Option R)->Option R
 | .skip,s,K=>K .normal s
 | .region id ops draw,s,K=>bif draw then (match look A.ords (4000000+id) with
   | some _=>(match look A.trees id with
    | some (.pnd t)=>bif Region.noSelect ops && t.cov ops (Array.replicate ops.size false) then evPP TT Γ Γp T bo ops (K .normal) (fun p=>K (.panic (pch T p)) s.blank) t [] ops.size (Array.replicate ops.size false) s else none
    | _=>none)
   | none=>match look A.trees id with
   | some t=>bif Region.noSelect ops && t.cov ops (Array.replicate ops.size false) [] then evT TT Γ bo ops (K .normal) t none ops.size (Array.replicate ops.size false) s else none
   | none=>match look A.ords id with
   | some ord=>bif zkC ops ord then zcm TT Γ bo ops.toList (zhD ops ord) s (K .normal) else none
   | none=>none) else (match look A.ords (2000000+id) with
   | some l=>bif decide (l.map (·.2)=List.range ops.size) then zjM TT Γ Γp T bo ops (K .normal) (fun p s'=>K (.panic (pch T p)) s') l s else none
   | none=>match look A.ords id with
   | some ord=>bif Nat.beq ord.length ops.size then zcm TT Γ bo ops.toList ((ord.map (·.1)).zip ops.toList) s (K .normal) else none
   | none=>zcm TT Γ bo ops.toList (zoA ops.toList) s (K .normal))
 | .seq x y,s,K=>match (bif Nat.beq (zcb y) 0 then none else look A.joins (zgK x)) with
  | none=>evC TT Γ Γp T bo A x s fun e s'=>match e with
   | .normal=>evC TT Γ Γp T bo A y s' K
   | e=>K e s'
  | some j=>evC TT Γ Γp T bo A x s fun e s'=>match e with
   | .normal=>match capt s j s' with
    | some X=>evC TT Γ Γp T bo A y (tgt s j X) K
    | none=>none
   | e=>K e s'
 | .cond c x y,s,K=>match s.ev c with
  | some (.d .bool b)=>if b=true then evC TT Γ Γp T bo A x s K else evC TT Γ Γp T bo A y s K
  | _=>none
 | .block id c,s,K=>evC TT Γ Γp T bo A c s fun e s'=>match e with
  | .exit id'=>bif Nat.beq id' id then K .normal s' else K (.exit id') s'
  | e=>K e s'
 | .loop c,s,K=>
  let lp:ESt->Option R:=fun s=>match look A.loops (zcb c) with
   | none=>none
   | some j=>match capt s j s with
    | none=>none
    | some X0=>LFix (fun rec X=>evC TT Γ Γp T bo A c (tgt s j X) fun e s'=>match e with
     | .normal=>match capt s j s' with
      | some X'=>rec X'
      | none=>none
     | e=>K e s') X0
  bif (look A.ords (1000000+zcb c)).isSome then evC TT Γ Γp T bo A c s fun e s'=>match e with
   | .normal=>lp s'
   | .exit _=>none
   | e=>K e s'
  else lp s
 | .exit id,s,K=>K (.exit id) s
 | .ret,s,K=>K .ret s
 | .label _,s,K=>K .normal s
 | .scope c,s,K=>evC TT Γ Γp T bo A c s fun e s'=>match e with
  | .goto _=>none
  | e=>K e s'
 | _,_,_=>none
def zqL (s:ESt) (K:Exit->ESt->Option R) (q:R) (e:Exit) (σ:St):Prop:=∃ s',σ=s'.st/\Sfx s s'/\K e s'=some q
section
variable {P:Program} {TT:List TE} {Γ:List CE} {Γp:List CEp} {T:Nat} {bo:Option R->Option R->Option R} {F:Fr} {A:Ann} {q:R}
theorem zqc (ops:Array Oper):zoA ops.toList=(ops.toList.map ztA).zip ops.toList:=by
 unfold zoA;induction ops.toList with
 | nil=>rfl
 | cons o l ih=>rw [List.map_cons,List.map_cons,List.zip_cons_cons,ih]
theorem zqL.sfx {s s':ESt} {K:Exit->ESt->Option R} (h:Sfx s s') {e:Exit} {σ:St} (hp:zqL s' K q e σ):zqL s K q e σ:=
 let ⟨s1,h1,h2,h3⟩:=hp;⟨s1,h1,h.trans h2,h3⟩
theorem AW.scope {c:Code} {σ:St} {Q:Exit->St->Prop} (h:AW P F c σ (fun e σ'=>(∀ l,e ≠ .goto l)/\Q e σ')):AW P F (.scope c) σ Q:=by
 intro a w r;refine wp_scope_straight (wp_mono (h a w r) ?_);rintro e a' w' ⟨σ',⟨h0,h1⟩,h2⟩;cases e with
 | goto l=>exact absurd rfl (h0 l)
 | _=>exact ⟨σ',h1,h2⟩
theorem AW.label {l:Nat} {σ:St} {Q:Exit->St->Prop} (h:Q .normal σ):AW P F (.label l) σ Q:=
 fun _ _ r=>wp_label ⟨σ,h,r⟩
theorem AW.loop_peel {P:Program} {F:Fr} {c:Code} {σ:St} {Q:Exit->St->Prop} (I:Nat->St->Prop)
  (round:∀ m σ,I m σ->AW P F c σ (Then (fun σ'=>∃ m',m' < m/\I m' σ') Q)) (first:AW P F c σ (Then (fun σ'=>∃ m,I m σ') Q)):AW P F (.loop c) σ Q:=by
 intro a w r b k cs;have key:∀ n σ a w,I n σ->Rel F σ a w->
   ∃ e a' w',(∃ σ',Q e σ'/\Rel F σ' a' w')/\Arrives P (lone (b.at a (.code c :: .inLoop c::k)) cs w) b k cs e a' w':=by
  intro n;induction n using Nat.strongRecOn with
  | _ n ih=>
   intro σ a w hI r;obtain ⟨e,a₁,w₁,⟨σ₁,hq,r₁⟩,harr⟩:=round n σ hI a w r b (.inLoop c::k) cs;cases e with
   | normal=>
    obtain ⟨m',hlt,hI'⟩:=hq;obtain ⟨e₂,a₂,w₂,hq₂,harr₂⟩:=ih m' hlt σ₁ a₁ w₁ hI' r₁;exact ⟨e₂,a₂,w₂,hq₂,.of_steps (Steps.trans harr (.one step_inLoop)) harr₂⟩
   | exit id=>exact ⟨_,a₁,w₁,⟨σ₁,hq,r₁⟩,.pass (x := .inLoop c) rfl (fun _ _ => .inl (by simp)) harr⟩
   | goto l=>exact ⟨_,a₁,w₁,⟨σ₁,hq,r₁⟩,.pass (x := .inLoop c) rfl (fun _ _ => .inl (by simp)) harr⟩
   | ret=>exact ⟨_,a₁,w₁,⟨σ₁,hq,r₁⟩,.pass (x := .inLoop c) rfl (fun _ _ => .inl (by simp)) harr⟩
   | panic ch=>exact ⟨_,a₁,w₁,⟨σ₁,hq,r₁⟩,.pass (x := .inLoop c) rfl (fun _ _ => .inl (by simp)) harr⟩
   | outgrown=>exact ⟨_,a₁,w₁,⟨σ₁,hq,r₁⟩,.pass (x := .inLoop c) rfl (fun _ _ => .inl (by simp)) harr⟩
 obtain ⟨e,a₁,w₁,⟨σ₁,hq,r₁⟩,harr⟩:=first a w r b (.inLoop c::k) cs
 cases e with
 | normal=>
  obtain ⟨m,hI⟩:=hq;obtain ⟨e₂,a₂,w₂,hq₂,harr₂⟩:=key m σ₁ a₁ w₁ hI r₁;exact ⟨e₂,a₂,w₂,hq₂,.of_steps (.one step_loop) (.of_steps (Steps.trans harr (.one step_inLoop)) harr₂)⟩
 | exit id=>exact ⟨_,a₁,w₁,⟨σ₁,hq,r₁⟩,.of_steps (.one step_loop) (.pass (x := .inLoop c) rfl (fun _ _ => .inl (by simp)) harr)⟩
 | goto l=>exact ⟨_,a₁,w₁,⟨σ₁,hq,r₁⟩,.of_steps (.one step_loop) (.pass (x := .inLoop c) rfl (fun _ _ => .inl (by simp)) harr)⟩
 | ret=>exact ⟨_,a₁,w₁,⟨σ₁,hq,r₁⟩,.of_steps (.one step_loop) (.pass (x := .inLoop c) rfl (fun _ _ => .inl (by simp)) harr)⟩
 | panic ch=>exact ⟨_,a₁,w₁,⟨σ₁,hq,r₁⟩,.of_steps (.one step_loop) (.pass (x := .inLoop c) rfl (fun _ _ => .inl (by simp)) harr)⟩
 | outgrown=>exact ⟨_,a₁,w₁,⟨σ₁,hq,r₁⟩,.of_steps (.one step_loop) (.pass (x := .inLoop c) rfl (fun _ _ => .inl (by simp)) harr)⟩
theorem zbq (hm:P.follows .mixedOrders=true) (hT:TOK P TT) (hG:GOK P Γ) (hGp:GPOK P T Γp) (hbo:Both bo):∀ (c:Code) (s:ESt) (K:Exit->ESt->Option R),evC TT Γ Γp T bo A c s K=some q->AW P F c s.st (zqL s K q)
 | .skip,s,K,h=>AW.skip ⟨s,rfl,Sfx.refl s,h⟩
 | .exit id,s,K,h=>AW.exit ⟨s,rfl,Sfx.refl s,h⟩
 | .ret,s,K,h=>AW.ret ⟨s,rfl,Sfx.refl s,h⟩
 | .label _,s,K,h=>AW.label ⟨s,rfl,Sfx.refl s,h⟩
 | .scope c,s,K,h=>by
  rw [evC] at h;refine AW.scope ((zbq hm hT hG hGp hbo c s _ h).mono fun e σ hp => ?_);obtain ⟨s',rfl,h2,h3⟩:=hp;cases e with
  | goto l=>cases h3
  | _=>exact ⟨fun l hl=>(by cases hl),s',rfl,h2,h3⟩
 | .region id ops draw,s,K,h=>by
  simp only [evC] at h;cases draw with
  | true=>
   simp only [cond_true] at h;split at h
   ·split at h
    ·rename_i t _;have hb:=(zaa h).1;replace h:=(zaa h).2;simp only [Bool.and_eq_true] at hb;intro a w r;refine wp_region_any hm (zde (fun e a w hq => ?_) _ _ _ _ (zjE _ _ _ _ ((zdZ (s0:=s) hb.1 hT hG hGp hbo t).1 F [] _ _ s a _ hb.2 rfl h r.drew fun c hc'=>by cases hc')));rcases hq with ⟨rfl,σ,⟨s',rfl,h2,h3⟩,h4⟩ | ⟨p,rfl,h2,h3⟩
     ·exact ⟨s'.st,⟨s',rfl,h2,h3⟩,h4⟩
     ·exact ⟨s.blank.st,⟨s.blank,rfl,Sfx.blank s,h2⟩,h3⟩
    ·cases h
   split at h
   ·rename_i t _;have hb:=(zaa h).1;replace h:=(zaa h).2;simp only [Bool.and_eq_true] at hb;exact AW.any hm fun a w r=>(zbX hb.1 hT hG hbo t).1.1 _ _ s a w hb.2 h r
   split at h
   ·rename_i ord hord;have hb:=(zaa h).1;replace h:=(zaa h).2;exact AW.drawn ord hm hb (zav hT hG hbo h)
   ·cases h
  | false=>
   simp only [cond_false] at h;split at h
   ·rename_i l _;have hb:=(zaa h).1;replace h:=(zaa h).2;have hl:l.map (·.2)=List.range ops.size:=by simpa using hb
    intro a w r;have:=zgr (F:=F) hT hG hGp hbo l s h a w r;rw [hl] at this;refine wp_mono (wp_region this) ?_;rintro e a' w' (⟨rfl,s',h2,h3,h4⟩ | ⟨p,s',rfl,h2,h3,h4⟩)
    ·exact ⟨s'.st,⟨s',rfl,h2,h3⟩,h4⟩
    ·exact ⟨s'.st,⟨s',rfl,h2,h3⟩,h4⟩
   split at h
   ·rename_i ord _;have hb:=(zaa h).1;replace h:=(zaa h).2;exact AW.region (ord.map (·.1)) (by rw [List.length_map];exact hb) (zav hT hG hbo h)
   refine AW.region (ops.toList.map ztA) (by simp) ?_;rw [<- zqc];exact zav hT hG hbo h
 | .cond c x y,s,K,h=>by
  simp only [evC] at h;split at h
  ·rename_i b hb;split at h
   ·rename_i ht;exact AW.cond (t:=b) (zah hb) (fun _=>zbq hm hT hG hGp hbo x s K h) (fun hf=>by rw [ht] at hf;cases hf)
   ·rename_i ht;exact AW.cond (t:=b) (zah hb) (fun hf=>absurd hf ht) (fun _=>zbq hm hT hG hGp hbo y s K h)
  ·cases h
 | .block id c,s,K,h=>by
  rw [evC] at h;refine AW.block ((zbq hm hT hG hGp hbo c s _ h).mono fun e σ hp => ?_);obtain ⟨s',rfl,h2,h3⟩:=hp;cases e with
  | exit id'=>
   simp only at h3;simp only [zoq];cases hb:Nat.beq id' id with
   | true=>rw [hb] at h3;exact ⟨s',rfl,h2,h3⟩
   | false=>rw [hb] at h3;exact ⟨s',rfl,h2,h3⟩
  | _=>exact ⟨s',rfl,h2,h3⟩
 | .seq x y,s,K,h=>by
  simp only [evC] at h;split at h
  ·refine AW.seq ((zbq hm hT hG hGp hbo x s _ h).mono fun e σ hp => ?_);obtain ⟨s',rfl,h2,h3⟩:=hp;cases e with
   | normal=>
    simp only [Then];exact (zbq hm hT hG hGp hbo y s' K h3).mono fun e σ hp=>hp.sfx h2
   | _=>exact ⟨s',rfl,h2,h3⟩
  ·rename_i j hj;refine AW.seq ((zbq hm hT hG hGp hbo x s _ h).mono fun e σ hp => ?_);obtain ⟨s',rfl,h2,h3⟩:=hp;cases e with
   | normal=>
    simp only [Then];simp only at h3;split at h3
    ·rename_i X hX;obtain ⟨g1,g2⟩:=zjf hX h2;exact AW.weak (fun a w r=>g2 F a w r) ((zbq hm hT hG hGp hbo y (tgt s j X) K h3).mono fun e σ hp=>hp.sfx g1)
    ·cases h3
   | _=>exact ⟨s',rfl,h2,h3⟩
 | .loop c,s,K,h=>by
  generalize hlp:(fun s:ESt=>match look A.loops (zcb c) with
   | none=>none
   | some j=>match capt s j s with
    | none=>none
    | some X0=>LFix (fun rec X=>evC TT Γ Γp T bo A c (tgt s j X) fun e s'=>match e with
     | .normal=>match capt s j s' with
      | some X'=>rec X'
      | none=>none
     | e=>K e s') X0)=lp
  have h':(bif (look A.ords (1000000+zcb c)).isSome then evC TT Γ Γp T bo A c s fun e s'=>match e with
   | .normal=>lp s'
   | .exit _=>none
   | e=>K e s'
   else lp s)=some q:=by rw [evC] at h;rw [<- hlp];exact h
  clear h;generalize hI:(fun (m:Nat) (σ:St)=>∃ (j:Join) (s0:ESt) (f:(Tup j.sh.tys->Option R)->Tup j.sh.tys->Option R) (X:Tup j.sh.tys) (s1:ESt),f=(fun (rec:Tup j.sh.tys->Option R) X=>evC TT Γ Γp T bo A c (tgt s0 j X) fun e s'=>match e with
     | .normal=>match capt s0 j s' with
      | some X'=>rec X'
      | none=>none
     | e=>K e s')/\σ=s1.st/\Sfx s s0/\Sfx s0 (tgt s0 j X)/\(∀ (F:Fr) (a:Act) (w:World),Rel F s1.st a w->Rel F (tgt s0 j X).st a w)/\iter f m X=some q)=I
  have round:∀ m σ,I m σ->AW P F c σ (Then (fun σ'=>∃ m',m' < m/\I m' σ') (zqL s K q)):=by
   intro m σ hI';rw [<- hI] at hI' ⊢;obtain ⟨j,s0,f,X,s1,hf,rfl,hs0,hsx,hw,hit⟩:=hI';cases m with
   | zero=>cases hit
   | succ m=>
    have hit':f (iter f m) X=some q:=hit;generalize hr:iter f m=rc at hit';rw [hf] at hit';refine AW.weak (fun a w r=>hw F a w r) ((zbq hm hT hG hGp hbo c (tgt s0 j X) _ hit').mono fun e σ hp => ?_);obtain ⟨s',rfl,h2,h3⟩:=hp;cases e with
    | normal=>
     simp only at h3;simp only [Then];split at h3
     ·rename_i X' hX';obtain ⟨g1,g2⟩:=zjf hX' (hsx.trans h2);exact ⟨m,by omega,j,s0,f,X',s',hf,rfl,hs0,g1,g2,by rw [hr];exact h3⟩
     ·cases h3
    | _=>exact ⟨s',rfl,(hs0.trans hsx).trans h2,h3⟩
  have first:∀ s0,Sfx s s0->lp s0=some q->∃ m,I m s0.st:=by
   intro s0 hs0 h0;rw [<- hlp] at h0;simp only at h0;split at h0
   ·cases h0
   ·rename_i j hj;split at h0
    ·cases h0
    ·rename_i X0 hX0;obtain ⟨n,hn⟩:=zck h0;obtain ⟨g1,g2⟩:=zjf hX0 (Sfx.refl s0);exact ⟨n,by rw [<- hI];exact ⟨j,s0,_,X0,s0,rfl,rfl,hs0,g1,g2,hn⟩⟩
  cases hb:(look A.ords (1000000+zcb c)).isSome with
  | true=>
   rw [hb,cond_true] at h';refine AW.loop_peel I round ((zbq hm hT hG hGp hbo c s _ h').mono fun e σ hp => ?_);obtain ⟨s',rfl,h2,h3⟩:=hp;cases e with
   | normal=>exact first s' h2 h3
   | exit id=>cases h3
   | _=>exact ⟨s',rfl,h2,h3⟩
  | false=>
   rw [hb,cond_false] at h';obtain ⟨m,hm'⟩:=first s (Sfx.refl s) h';exact AW.loop_nat I round hm'
 | .rangeFunc .., _,_,h=>by simp only [evC] at h;cases h
 | .goto _,_,_,h=>by simp only [evC] at h;cases h
 | .refuse _,_,_,h=>by simp only [evC] at h;cases h
end
def argE:Nat->List EV->List (Nat×EV)
 | _,[]=>[]
 | k,x::r=>(k,x)::argE (k+1) r
theorem zqM:∀ (l:List EV) (k:Nat),(argE k l).map (fun p=>(p.1,p.2.av))=zg9 k (EV.avL l)
 | [],_=>rfl
 | x::r,k=>by rw [argE,List.map_cons,zqM r,EV.avL,zg9]
def zjZ (n:Nat) (sig:Shape) (X:Tup sig.tys):ESt:=⟨n,argE 0 (sig.vals X),sig.heap X,0,sig.rws X⟩
theorem zhx (n:Nat) (sig:Shape) (X:Tup sig.tys):Eqv (St.start n (EV.avL (sig.vals X)) (hpSt (sig.heap X) (sig.rws X))) (zjZ n sig X).st:=by
 refine ⟨rfl,rfl,fun k x h => ?_,fun i e h => ?_⟩
 ·have h1:look ((argE 0 (sig.vals X)).map fun p=>(p.1,p.2.av)) k=some x:=h;rw [zqM] at h1;exact h1
 ·rw [zrz] at h;exact h
def ESt.boxPack (s:ESt) (id:Nat) (t:Ty):ESt:=match s.ent id with
 | some (.box T cs)=>match zjs t cs with
  | some (y,[])=>s.put id (some (.box T (zjH t y)))
  | _=>s
 | _=>s
theorem zp9 (s:ESt) (id:Nat) (t:Ty):Wk s (s.boxPack id t):=by
 unfold ESt.boxPack;split
 ·rename_i T cs he;split
  ·rename_i y hy;refine ⟨fun F a w ⟨H,r⟩=>⟨H,?_⟩,fun _ _ _ hz=>hz⟩;obtain ⟨l1,h1,h2⟩:=zcI hy;rw [List.append_nil] at h1;subst h1;have:=r.boxpack (zat he) h2;rw [zcp];simp only [Option.map_some,EEnt.ent,zgp];exact this
  ·exact Wk.refl s
 ·exact Wk.refl s
def zdm (tys:List Ty):ESt->List ResultVar->List (Nat×SV)->ESt
 | s,.tmp k::rs,(_,.v j)::r=>match tys[j]? with
  | some t=>zdm tys (s.dat (.tmp k) t) rs r
  | none=>zdm tys s rs r
 | s,.tmp k::rs,(_,.addr j)::r=>match tys[j]? with
  | some t=>zdm tys (s.prepF k t) rs r
  | none=>zdm tys s rs r
 | s,.cell k _::rs,(_,.v j)::r=>match s.get k with
  | some (.ptr id 0)=>match tys[j]? with
   | some t=>zdm tys ((s.boxDat id 0 t.sz).boxPack id t) rs r
   | none=>zdm tys s rs r
  | _=>zdm tys s rs r
 | s,_::rs,_::r=>zdm tys s rs r
 | s,_,_=>s
theorem zcl (tys:List Ty):∀ (rs:List ResultVar) (l:List (Nat×SV)) (s:ESt),Wk s (zdm tys s rs l)
 | [],l,s=>by unfold zdm;exact Wk.refl s
 | .tmp k::rs,[],s=>Wk.refl s
 | .cell k t::rs,[],s=>Wk.refl s
 | .tmp k::rs,(i,sv)::r,s=>by
  cases sv with
  | v j=>
   simp only [zdm];split
   ·rename_i t _;exact (zev s _ t).trans (zcl tys rs r _)
   ·exact zcl tys rs r s
  | addr j=>
   simp only [zdm];split
   ·rename_i t _;exact (zkA s k t).1.trans (zcl tys rs r _)
   ·exact zcl tys rs r s
  | _=>exact zcl tys rs r s
 | .cell k t::rs,(i,sv)::r,s=>by
  cases sv with
  | v j=>
   simp only [zdm];split
   ·rename_i id _;split
    ·rename_i t _;exact ((ze5 id t.sz s 0).trans (zp9 _ id t)).trans (zcl tys rs r _)
    ·exact zcl tys rs r s
   ·exact zcl tys rs r s
  | _=>exact zcl tys rs r s
def EV.isD:EV->Bool
 | .d _ _=>true
 | _=>false
def resA (e:TE) (cs:List EV):Option EV:=bif Nat.beq cs.length e.size then some (.agg cs) else none
def zdi (out:Shape) (id:Nat):List SV->Nat->ESt->ESt
 | [],_,s=>s
 | .own i::r,q,s=>match look out.ents i with
  | some (.arr E j)=>match out.tys[j]? with
   | some (.list t)=>zdi out id r (q+1) (s.nil1 id q E t)
   | _=>zdi out id r (q+1) s
  | some (.out _ E E1 j)=>match out.tys[j]? with
   | some (.list (.list t))=>zdi out id r (q+1) (s.nil1D id q E E1 t)
   | _=>zdi out id r (q+1) s
  | _=>zdi out id r (q+1) s
 | _::r,q,s=>zdi out id r (q+1) s
theorem zcz (out:Shape) (id:Nat):∀ (l:List SV) (q:Nat) (s:ESt),Wk s (zdi out id l q s)
 | [],_,s=>Wk.refl s
 | sv::r,q,s=>by
  cases sv with
  | own i=>
   simp only [zdi];split
   ·split
    ·exact (zm9 _ _ _ _ _).1.trans (zcz out id r (q+1) _)
    ·exact zcz out id r (q+1) s
   ·split
    ·exact (zkz _ _ _ _ _ _).1.trans (zcz out id r (q+1) _)
    ·exact zcz out id r (q+1) s
   ·exact zcz out id r (q+1) s
  | _=>simp only [zdi];exact zcz out id r (q+1) s
def zgP (out:Shape):ESt->List ResultVar->List (Nat×SV)->ESt
 | s,.cell k _::rs,(_,.agg svs)::r=>match s.get k with
  | some (.ptr id 0)=>zgP out (zdi out id svs 0 s) rs r
  | _=>zgP out s rs r
 | s,_::rs,_::r=>zgP out s rs r
 | s,_,_=>s
theorem zgQ (out:Shape):∀ (rs:List ResultVar) (l:List (Nat×SV)) (s:ESt),Wk s (zgP out s rs l)
 | [],l,s=>by unfold zgP;exact Wk.refl s
 | .tmp k::rs,[],s=>Wk.refl s
 | .cell k t::rs,[],s=>Wk.refl s
 | .tmp k::rs,(i,sv)::r,s=>zgQ out rs r s
 | .cell k t::rs,(i,sv)::r,s=>by
  cases sv with
  | agg c=>
   simp only [zgP];split
   ·exact (zcz out _ c 0 s).trans (zgQ out rs r _)
   ·exact zgQ out rs r s
  | _=>exact zgQ out rs r s
def resV (TT:List TE) (s:ESt):ResultVar->Option EV
 | .tmp k=>s.get k
 | .cell k t=>match s.get k with
  | some (.ptr id 0)=>match s.ent id with
   | some (.box _ cs)=>match fT TT t with
    | some e=>bif e.ag then (match e.ty with
      | some u=>match zjs u cs with
       | some (y,[])=>bif cs.all EV.isD && u.agg then some (.d u y) else resA e cs
       | _=>resA e cs
      | none=>none) else (match cs with
      | [x]=>some x
      | _=>none)
    | none=>none
   | _=>none
  | _=>none
theorem zmd:∀ {cs:List EV} {ds:List D},cs.all EV.isD=true->zid (EV.avL cs) ds->EV.avL cs=ds.map .d
 | [],ds,_,h=>by have:ds=[]:=h;subst this;rfl
 | c::cs,[],_,h=>h.elim
 | c::cs,d::ds,hc,h=>by
  simp only [List.all_cons,Bool.and_eq_true] at hc;have h2:(c.av = .d d\/(c.av = .nil/\∃ b,d = .sl b []))/\zid (EV.avL cs) ds:=h;rw [EV.avL,List.map_cons,zmd hc.2 h2.2];rcases h2.1 with h1 | ⟨h1,_⟩
  ·rw [h1]
  ·have:=hc.1;cases c<;>first | (simp [EV.isD] at this;done) | (simp [EV.av] at h1)
def mchR (TT:List TE) (tys:List Ty) (s:ESt):List ResultVar->List (Nat×SV)->Vs×Ids->List Nat->Option ((Vs×Ids)×List Nat)
 | [],[],acc,nl=>some (acc,nl)
 | rv::rs,(_,sv)::r,acc,nl=>match resV TT s rv with
  | none=>none
  | some x=>match sv,x with
   | .own i,.nil=>mchR TT tys s rs r acc (i::nl)
   | .v j,.nil=>match tys[j]? with
    | some (.list t)=>mchR TT tys s rs r ((j,.d (.list t) ([]:List t.den))::acc.1,acc.2) nl
    | _=>none
   | sv,x=>match mch sv x acc with
    | some acc=>mchR TT tys s rs r acc nl
    | none=>none
 | _,_,_,_=>none
def datC (tys:List Ty) (i:Nat):List SV->Nat->ESt->ESt
 | [],_,s=>s
 | .v j::r,q,s=>match tys[j]? with
  | some (.list t)=>datC tys i r (q+1) (s.prep1 (i,q,none,t))
  | _=>datC tys i r (q+1) s
 | _::r,q,s=>datC tys i r (q+1) s
theorem zmw (tys:List Ty) (i:Nat):∀ (l:List SV) (q:Nat) (s:ESt),Wk s (datC tys i l q s)
 | [],_,s=>Wk.refl s
 | sv::r,q,s=>by
  cases sv with
  | v j=>
   simp only [datC];split
   ·exact (zpQ _ _).1.trans (zmw tys i r (q+1) _)
   ·exact zmw tys i r (q+1) s
  | _=>simp only [datC];exact zmw tys i r (q+1) s
def datB (tys:List Ty):List (Nat×SE)->ESt->ESt
 | [],s=>s
 | (i,.box _ cs)::r,s=>bif Nat.ble LIM i then datB tys r (datC tys i cs 0 s) else datB tys r s
 | _::r,s=>datB tys r s
theorem zmv (tys:List Ty):∀ (l:List (Nat×SE)) (s:ESt),Wk s (datB tys l s)
 | [],s=>Wk.refl s
 | (i,se)::r,s=>by
  cases se with
  | box T cs=>
   simp only [datB];cases Nat.ble LIM i with
   | true=>exact (zmw tys i cs 0 s).trans (zmv tys r _)
   | false=>exact zmv tys r s
  | _=>simp only [datB];exact zmv tys r s
def zty (TT:List TE) (rs:List ResultVar) (out:Shape) (s:ESt):Option (Tup out.tys):=
 match mchR TT out.tys (zdm out.tys (zgP out s rs out.slots) rs out.slots) rs out.slots ([],[]) [] with
 | none=>none
 | some (acc,nl)=>match mchN out.tys nl out.ents acc.1 with
  | none=>none
  | some (ents,vs)=>match mchE (zdm out.tys (zgP out s rs out.slots) rs out.slots) ents (vs,acc.2++(out.ents.filter fun p=>Nat.ble LIM p.1).map fun p=>(p.1,p.1)) with
   | none=>none
   | some (vs,ids)=>match finV out.tys vs with
    | none=>none
    | some X=>
     bif (mpW (mpOf ids nl []) LIM && (mpOf ids nl []).all fun p=>match p.2 with | some o=>Nat.blt o LIM || !((zfQ out).contains o) | none=>true) && ((zfQ out).all (fun k=>Nat.blt k RB) && za0 (fams out.ents) && (zdm out.tys (zgP out s rs out.slots) rs out.slots).low) && ids.all (fun p=>Nat.blt p.1 LIM || (Nat.beq p.1 p.2 && Nat.blt p.1 RB)) && nl.all (fun i=>(match look ids i with | none=>Nat.blt i LIM | some _=>false)) then some X else none
theorem zlv {P:Program} {TT:List TE} (hT:TOK P TT) {s:ESt} {mp:List (Nat×Option Nat)} {rv:ResultVar} {x:EV} {x':AV} {rs:List ResultVar} {xs:List AV} (h:resV TT s rv=some x) (hc:Cv mp x.av x') (hr:zeO P mp s.st rs xs):zeO P mp s.st (rv::rs) (x'::xs):=by
 cases rv with
 | tmp k=>exact ⟨⟨x.av,zbY h,hc⟩,hr⟩
 | cell k t=>
  simp only [resV] at h;split at h
  ·rename_i id hk;split at h
   ·rename_i T cs he;split at h
    ·rename_i e hf;obtain ⟨h1,rfl⟩:=zaQ hT hf;cases hg:e.ag with
     | true=>
      rw [hg] at h;simp only [cond_true] at h;have agg:resA e cs=some x->zeO P mp s.st (.cell k e.id::rs) (x'::xs):=fun h=>by
       unfold resA at h;have hb:=(zaa h).1;replace h:=(zaa h).2
       cases h;have hti:=h1.ti;rw [hg] at hti;exact ⟨.inr (.inr ⟨id,T,EV.avL cs,e.size,e.bytes,e.z,zbY hk,zat he,hti,by rw [zb2];exact Nat.eq_of_beq_eq_true hb,hc⟩),hr⟩
      split at h
      ·rename_i u hu;split at h
       ·rename_i y hy;cases hb:cs.all EV.isD && u.agg with
        | false=>rw [hb] at h;exact agg h
        | true=>
        rw [hb,cond_true] at h;simp only [Bool.and_eq_true] at hb;cases h;obtain ⟨l1,g1,g2⟩:=zcI hy;rw [List.append_nil] at g1;subst g1;obtain ⟨k1,k2,k3,k4⟩:=h1.ty u hu;have hti:=h1.ti;rw [hg] at hti;have hx':x' = .d (encD u y):=by
         rcases hc with hc | ⟨hc,_⟩
         ·cases x' with
          | d q=>simp only [EV.av,ren,Option.some.injEq] at hc;exact hc
          | own i=>simp only [EV.av,ren] at hc;(repeat' split at hc)<;>first | cases hc | (cases hbb:(true && pinB i)<;>simp [hbb] at hc)
          | ptr i k=>simp only [EV.av,ren] at hc;(repeat' split at hc)<;>first | cases hc | (cases hbb:(true && pinB i)<;>simp [hbb] at hc)
          | eptr i s j k=>simp only [EV.av,ren] at hc;(repeat' split at hc)<;>first | cases hc | (cases hbb:(true && pinB i)<;>simp [hbb] at hc)
          | view i s j k=>simp only [EV.av,ren] at hc;(repeat' split at hc)<;>first | cases hc | (cases hbb:(true && pinB i)<;>simp [hbb] at hc)
          | agg l=>simp only [EV.av,ren] at hc;(repeat' split at hc)<;>cases hc
          | tup l=>simp only [EV.av,ren] at hc;(repeat' split at hc)<;>cases hc
          | fn f l=>simp only [EV.av,ren] at hc;(repeat' split at hc)<;>cases hc
          | _=>simp only [EV.av,ren] at hc;cases hc
         ·cases hc
        refine ⟨.inr (.inl ⟨id,T,(encD u y).cells,u.sz,e.bytes,e.z,zbY hk,?_,by rw [<- k2];exact hti,zau u y,?_⟩),hr⟩
        ·rw [zat he];simp only [EEnt.ent,zmd hb.1 g2];rfl
        ·rw [hx',zbz hb.2];rfl
       ·exact agg h
      ·cases h
     | false=>
      rw [hg] at h;simp only [cond_false] at h;split at h
      ·cases h;obtain ⟨d,hd,hda⟩:=h1.ti.un;exact ⟨.inl ⟨id,T,x.av,d,zbY hk,zat he,hd,by rw [hda,hg],hc⟩,hr⟩
      ·cases h
    ·cases h
   ·cases h
  ·cases h
theorem ziQ {P:Program} {TT:List TE} (hT:TOK P TT) {tys:List Ty} {s:ESt}:∀ {rs:List ResultVar} {l:List (Nat×SV)} {acc acc':Vs×Ids} {nl nl':List Nat},mchR TT tys s rs l acc nl=some (acc',nl')->
  Mono acc acc'/\(∀ i∈nl,i∈nl')/\∀ g mp,Agr acc' g true mp->(∀ i∈nl',look mp i=some none)->zeO P mp s.st rs (EV.avL (l.map fun p=>p.2.ev g id))
 | [],l,acc,acc',nl,nl',h=>by
  cases l with
  | nil=>
   simp only [mchR,Option.some.injEq,Prod.mk.injEq] at h;obtain ⟨rfl,rfl⟩:=h;exact ⟨Mono.refl _,fun _ h=>h,fun _ _ _ _=>rfl⟩
  | cons p l=>cases h
 | rv::rs,[],acc,acc',nl,nl',h=>by cases h
 | rv::rs,(k,sv)::r,acc,acc',nl,nl',h=>by
  simp only [mchR] at h;split at h
  ·cases h
  ·rename_i x hx;split at h
   ·rename_i i;obtain ⟨h1,h2,h3⟩:=ziQ hT h;refine ⟨h1,fun i hi=>h2 i (List.mem_cons_of_mem _ hi),fun g mp ha hn => ?_⟩;have:=hn i (h2 i (by simp));exact zlv hT hx (.inl (by simp only [SV.ev,id,EV.av,ren,ziN this])) (h3 g mp ha hn)
   ·rename_i j;split at h
    ·rename_i t ht;obtain ⟨h1,h2,h3⟩:=ziQ hT h;refine ⟨⟨fun p hp=>h1.vs p (List.mem_cons_of_mem _ hp),h1.ids⟩,h2,fun g mp ha hn => ?_⟩;have hg:=ha.vs _ (h1.vs (j,.d (.list t) ([]:List t.den)) (by simp));simp only at hg;refine zlv hT hx (.inr ⟨rfl,t.bts,?_⟩) (h3 g mp ha hn);simp only [SV.ev,hg];rfl
    ·cases h
   ·split at h
    ·rename_i acc1 h0;obtain ⟨g1,g2⟩:=zm7 h0;obtain ⟨h1,h2,h3⟩:=ziQ hT h;exact ⟨g1.trans h1,h2,fun g mp ha hn=>zlv hT hx (.inl (g2 g mp true (ha.mono h1))) (h3 g mp ha hn)⟩
    ·cases h
theorem zoz {P:Program} {TT:List TE} (hT:TOK P TT) {fn:Func} {out:Shape} {s:ESt} {Y:Tup out.tys} (h:zty TT fn.results.toList out s=some Y):
  ∃ s1,Wk s s1/\zp6 P fn (fun r h=>r=(retE (out.vals Y)).av/\h=hpSt (out.heap Y) (out.rws Y)) s1.st:=by
 unfold zty at h;have hw1:=(zgQ out fn.results.toList out.slots s).trans (zcl out.tys fn.results.toList out.slots (zgP out s fn.results.toList out.slots));generalize hs1e:zdm out.tys (zgP out s fn.results.toList out.slots) fn.results.toList out.slots=s1 at h hw1;split at h
 ·cases h
 ·rename_i acc nl h1;split at h
  ·cases h
  ·rename_i ents vs0 h2;split at h
   ·cases h
   ·rename_i vs ids h3;split at h
    ·cases h
    ·rename_i X' h4;have hb:=(zaa h).1;replace h:=(zaa h).2;cases h;simp only [Bool.and_eq_true] at hb;obtain ⟨⟨⟨⟨hok,hoffb⟩,⟨hnmR,hfn⟩,hlow1⟩,hids⟩,hnl⟩:=hb;generalize hmp:mpOf ids nl []=mp at hok hoffb;have hfn':za0 ((fams out.ents).map id)=true:=by rw [List.map_id];exact hfn
     have hnm:∀ k∈zfQ out,k < RB:=fun k hk=>by simpa using List.all_eq_true.1 hnmR k hk
     have hkR:∀ k q,look mp k=some q->k < RB:=fun k q hq=>by have:=(zib hok hq).2;unfold LIM at this;unfold RB;omega
     have hbase:∀ i o,look mp i=some (some o)->LIM<=o->o∉zfQ out:=by
      intro i o h hL hm;have:=List.all_eq_true.1 hoffb (i,some o) (zak h);simp only [Bool.or_eq_true,Bool.not_eq_true'] at this;rcases this with h | h
      ·have:o < LIM:=by simpa using h
       omega
      ·rw [List.contains_eq_mem] at h;simp [hm] at h
     have hhn:∀ o,o∉zfQ out->look (out.heap Y) o=none:=fun o ho=>zbg fun p hp he=>by
      obtain ⟨p0,hp0,rfl⟩:=List.mem_map.1 hp;exact ho (List.mem_append.2 (.inl (List.mem_map.2 ⟨p0,hp0,he⟩)))
     have hrn:∀ o,o∉zfQ out->look (out.rws Y) o=none:=fun o ho=>zbg fun p hp he=>by
      unfold Shape.rws zbr at hp;obtain ⟨⟨i,se⟩,hp2,hr⟩:=List.mem_filterMap.1 hp;cases se with
      | arr=>cases hr
      | box=>cases hr
      | out f2 E2 E3 j2=>
       simp only [SE.rw] at hr;split at hr
       ·cases hr;exact ho (List.mem_append.2 (.inr (by rw [<- he];exact ziy hp2)))
       ·cases hr
     have hoff:∀ i o,lk mp i=some (some o)->pinB o=true->zbm (hpSt (out.heap Y) (out.rws Y)) o=none:=by
      intro i o hi hp;show hpSt (out.heap Y) (out.rws Y) o=none;rcases zdh hi with h1 | ⟨_,_,o',h2,h3'⟩
      ·have hn:=hbase i o h1 (zeK hp);have ho:o < RB:=by
        simp only [mpW,Bool.and_eq_true] at hok;exact zlk hok.2.2 h1
       unfold hpSt;rw [hhn o hn];simp only;unfold zar;rw [if_neg (by omega)]
      ·cases h3';have ho':o' < RB:=by
        simp only [mpW,Bool.and_eq_true] at hok;exact zlk hok.2.2 h2
       have hL:LIM<=o':=by have:=zfS hp;rw [zjG ho'] at this;exact this
       have hn:=hbase _ o' h2 hL;have hge:=zaP o' (i / RB - 1);unfold hpSt;rw [hhn _ (fun hm=>by have:=hnm _ hm;omega)];simp only;unfold zar;rw [if_pos hge,zbc ho',hrn o' hn]
     have hvs:=ziz h4;obtain ⟨m1,m2,m3⟩:=ziQ (P:=P) hT h1;obtain ⟨n1,n2⟩:=zed h2;have e1:=zco h3;have hmpl:∀ i,LIM<=i->look mp i=none:=by
      intro i hi;cases hl:look mp i with
      | none=>rfl
      | some q=>have:=(zib hok hl).2;omega
     have hlkl:∀ i,LIM<=i->i < RB->lk mp i=none:=fun i h1 h2=>by rw [zlg h2];exact hmpl i h1
     have hidr:∀ i o,look ids i=some o->zms true mp i o:=by
      intro i o ho;by_cases hi:i < LIM
      ·left;rw [<- hmp];unfold mpOf;rw [zag,zdd hi,ho];rfl
      ·right;have:=List.all_eq_true.1 hids (i,o) (zak ho);simp only [Bool.or_eq_true] at this;rcases this with h | h
       ·exact absurd (by simpa using h) hi
       ·simp only [Bool.and_eq_true] at h;have h2:i < RB:=by simpa using h.2
        exact ⟨rfl,zne (by omega) h2,(Nat.eq_of_beq_eq_true h.1).symm,hlkl i (by omega) h2⟩
     have hnlr:∀ i∈nl,look mp i=some none:=by
      intro i hi;have:=List.all_eq_true.1 hnl i hi;split at this
      ·rename_i hln;have hlt:i < LIM:=by simpa using this
       rw [<- hmp];unfold mpOf;rw [zag,zdd hlt,hln,zag,zo1 hi];rfl
      ·cases this
     have hagrE:Agr (vs,ids) (Tup.get out.tys Y) true mp:=⟨hvs,hidr⟩;have hagrS:Agr acc (Tup.get out.tys Y) true mp:=⟨fun p hp=>hvs p (e1.vs p (n1 p hp)),fun i o ho=>by
      refine hidr i o (e1.ids i o ?_);show look (acc.2++_) i=some o;rw [zag,ho];rfl⟩
     have hS:=m3 _ mp hagrS hnlr;have hE:=zfm h3 _ true mp hagrE hkR;refine ⟨s1,hw1,mp,EV.avL (out.vals Y),hpSt (out.heap Y) (out.rws Y),⟨hok,hoff⟩,hS,fun i e' he => ?_,by rw [zpb],rfl⟩;have hent:∀ o e,s1.ent o=some e->s1.st.ent o=some (e.ent s1.rws):=fun o e h=>zat h
     unfold hpSt at he;split at he
     ·rename_i v hA;obtain ⟨p,hp,hpe⟩:=zbO hA;obtain ⟨hpi,hpv⟩:=Prod.mk.inj hpe;simp only [id] at hpi;subst hpi;cases v with
      | none=>cases he
      | some ee=>
       simp only [Option.map_some,Option.some.injEq] at he;subst he;rcases n2 p hp with hp' | ⟨hin,⟨E,jj,t,hpa,hsz,hv⟩ | ⟨f,E,E1,jj,t,hpa,hv⟩⟩
       ·obtain ⟨o,e,e',g1,g2,g3,g4⟩:=hE p hp';rw [hpv] at g3;cases g3;have g5:=g4 (out.rws Y) fun f E E1 jj f' hpo hf=>by
         obtain ⟨pi,pse⟩:=p;cases hpo;obtain ⟨_,f2,t2,ls2,_,_,k3,k4,k5,k6,k7⟩:=zcS h3 hp';rw [hf] at k3;cases k3;have h1:=hvs _ k5;simp only at h1;have hq':=zcX (ρ:=id) hfn' (zfP h2 _ hp') h1;simp only [id] at hq';unfold rlen Shape.rws;rw [hq',k4]
        unfold zjk;rcases hidr _ _ g1 with h | ⟨_,h1,rfl,h2⟩
        ·rw [ziN h];exact ⟨_,hent _ _ g2,g5⟩
        ·rw [h2];exact ⟨h1,_,hent _ _ g2,g5⟩
       ·have hg:=hvs _ (e1.vs _ hv);simp only at hg;rw [hpa,SE.ee,hg] at hpv;cases hpv;unfold zjk;rw [ziN (hnlr _ hin)];exact .inl ⟨E,t.sz,t.bts,rfl,hsz⟩
       ·have hg:=hvs _ (e1.vs _ hv);simp only at hg;rw [hpa,SE.ee,hg] at hpv;cases hpv;unfold zjk;rw [ziN (hnlr _ hin)];refine .inr ⟨E,24,?_⟩;obtain ⟨pi,pse⟩:=p;simp only at hpa;subst hpa;have hq':=zcX (ρ:=id) hfn' hp hg;simp only [id] at hq';have e1:rlen (out.rws Y) f=0:=by
         unfold rlen Shape.rws;rw [hq'];rfl
        show EEnt.ent (out.rws Y) (.out f E)=_;simp only [EEnt.ent,e1];rfl
     ·have hRi:=zi8 he;obtain ⟨rE,rt,rl,hre⟩:=zhw he;unfold zar at he;rw [if_pos hRi] at he;have hiL:LIM<=i:=by unfold RB at hRi;unfold LIM;omega
      split at he
      ·rename_i r hr;have hm:=zak hr;unfold Shape.rws zbr at hm;obtain ⟨⟨i2,se⟩,hp,hq⟩:=List.mem_filterMap.1 hm;cases se with
       | arr=>cases hq
       | box=>cases hq
       | out f E E1 jj=>
        have hff:f=i % RB:=by
         simp only [SE.rw] at hq;split at hq
         ·cases hq;rfl
         ·cases hq
        rcases n2 _ hp with hp' | ⟨_,⟨E',j',t,hpa,_⟩ | ⟨f3,E3,E4,j3,t,hpa,hv⟩⟩
        ·obtain ⟨o,f',t,ls,g1,g2,g3,g4,g5,g6,g7⟩:=zcS h3 hp';have h1:=hvs _ g5;simp only at h1;simp only [SE.rw,h1,id,Option.some.injEq,Prod.mk.injEq] at hq;obtain ⟨_,hq⟩:=hq;cases hq;subst hff;have hrow1:zar s1.rws (rid f' (i / RB - 1))=some e':=by
          unfold zar;rw [if_pos (zaP _ _),zbc g7,g4];simp only;rw [zdI g7];exact he
         have hst:s1.st.ent (rid f' (i / RB - 1))=some e':=by rw [zgd hlow1 (zaP _ _)];exact hrow1
         have hei:i=rid (i % RB) (i / RB - 1):=zfw hRi;unfold zjk;rcases hidr _ _ g3 with h | ⟨_,h1,rfl,h2⟩
         ·have:=zlh (mp:=mp) (x:=i / RB - 1) g6 (by rw [<- hei];exact hmpl i hiL) h;rw [<- hei] at this;rw [this];exact ⟨e',hst,by subst hre;rfl⟩
         ·have hln:lk mp i=none:=by
           rw [zlg g6] at h2;unfold lk;rw [hmpl i hiL];simp only;rw [if_pos hRi,h2]
          rw [hln];refine ⟨ziZ.2 (by unfold bs;rw [if_pos hRi];exact zeK h1),e',?_,by subst hre;rfl⟩;rw [<- hei] at hst;exact hst
        ·cases hpa
        ·cases hpa;have hg:=hvs _ (e1.vs _ hv);simp only at hg;simp only [SE.rw,hg,id,Option.some.injEq,Prod.mk.injEq] at hq;obtain ⟨_,hq⟩:=hq;cases hq;exfalso;unfold RW.ent at he;simp at he
      ·cases he
def capR (TT:List TE) (rs:List ResultVar) (out:Shape) (s:ESt):Option (Tup out.tys):=zty TT rs out (datB out.tys out.ents s)
theorem zha {P:Program} {TT:List TE} (hT:TOK P TT) {fn:Func} {out:Shape} {s:ESt} {Y:Tup out.tys} (h:capR TT fn.results.toList out s=some Y):
  ∃ s1,Wk s s1/\zp6 P fn (fun r h=>r=(retE (out.vals Y)).av/\h=hpSt (out.heap Y) (out.rws Y)) s1.st:=by
 obtain ⟨s1,h1,h2⟩:=zoz hT h;exact ⟨s1,(zmv out.tys out.ents s).trans h1,h2⟩
noncomputable def evF (TT:List TE) (Γ:List CE) (A:Ann) (n:Nat) (rs:List ResultVar) (body:Code) (sig out:Shape) (X:Tup sig.tys):Option (Tup out.tys):=
 evC TT Γ [] 0 (both out.tys) A body (zjZ n sig X) fun e s=>match e with
  | .normal=>capR TT rs out s
  | .ret=>capR TT rs out s
  | _=>none
theorem zk0 {P:Program} (hm:P.follows .mixedOrders=true) {TT:List TE} {Γ:List CE} (hT:TOK P TT) (hG:GOK P Γ) {A:Ann} {f:Nat} {fn:Func} {body:Code} {n:Nat} (hf:P.funcs[f]? =some fn) (hb:fn.body=some body) (hn:fn.ntmps=n) {sig out:Shape} (hlen:Nat.ble sig.slots.length n=true)
  {X:Tup sig.tys} {Y:Tup out.tys} (h:evF TT Γ A n fn.results.toList body sig out X=some Y):
  Fc P f (EV.avL (sig.vals X)) (hpSt (sig.heap X) (sig.rws X)) (fun r h=>r=(retE (out.vals Y)).av/\h=hpSt (out.heap Y) (out.rws Y)):=by
 refine Fc.of_body hf hb hn (by rw [zb2];unfold Shape.vals;rw [List.length_map];simpa using hlen) fun F => ?_
 intro a w r;refine wp_mono (zbq hm hT hG (Γp:=[]) (T:=0) (fun _ h=>by cases h) (zkL out.tys) body (zjZ n sig X) _ h a w ((zhx n sig X).rel r)) fun e a' w' ⟨σ',hp,hr⟩ => ?_
 obtain ⟨s',rfl,h2,h3⟩:=hp;cases e with
 | normal=>
  obtain ⟨s1,hw,hret⟩:=zha (P:=P) hT h3;exact ⟨s1.st,hret,hw.rel F a' w' hr⟩
 | ret=>
  obtain ⟨s1,hw,hret⟩:=zha (P:=P) hT h3;exact ⟨s1.st,hret,hw.rel F a' w' hr⟩
 | _=>cases h3
theorem CE.of {P:Program} (hm:P.follows .mixedOrders=true) {TT:List TE} {Γ:List CE} (hT:TOK P TT) (hG:GOK P Γ) (A:Ann) {f:Nat} {fn:Func} {body:Code} {n:Nat} (hf:P.funcs[f]? =some fn) (hb:fn.body=some body) (hn:fn.ntmps=n) {rs:List ResultVar} (hrs:fn.results.toList=rs) {sig out:Shape} (hlen:Nat.ble sig.slots.length n=true)
  (hcall:∀ (as:Array Value) (w:World),(callFunc f as).run P w = .ok (.enter f as) w)
  {den:Tup sig.tys->Option (Tup out.tys)} (h:∀ X,evF TT Γ A n rs body sig out X=den X):CE.ok P ⟨f,sig,out,den⟩ where
 call:=hcall
 fc X Y hXY:=zk0 hm hT hG hf hb hn hlen (by rw [hrs,h X];exact hXY)
theorem CE.ofRec {P:Program} (hm:P.follows .mixedOrders=true) {TT:List TE} {Γ:List CE} (hT:TOK P TT) (hG:GOK P Γ) (A:Ann) {f:Nat} {fn:Func} {body:Code} {n:Nat} (hf:P.funcs[f]? =some fn) (hb:fn.body=some body) (hn:fn.ntmps=n) {rs:List ResultVar} (hrs:fn.results.toList=rs) {sig out:Shape} (hlen:Nat.ble sig.slots.length n=true)
  (hcall:∀ (as:Array Value) (w:World),(callFunc f as).run P w = .ok (.enter f as) w)
  {d:(Tup sig.tys->Option (Tup out.tys))->Tup sig.tys->Option (Tup out.tys)} (h:∀ rc X,evF TT (⟨f,sig,out,rc⟩::Γ) A n rs body sig out X=d rc X):CE.ok P ⟨f,sig,out,LFix d⟩ where
 call:=hcall
 fc:=by
  have key:∀ k X Y,iter d k X=some Y->Fc P f (EV.avL (sig.vals X)) (hpSt (sig.heap X) (sig.rws X)) (fun r h=>r=(retE (out.vals Y)).av/\h=hpSt (out.heap Y) (out.rws Y)):=by
   intro k;induction k with
   | zero=>intro X Y h;cases h
   | succ k ih=>
    intro X Y hXY;refine zk0 hm hT (Γ:=⟨f,sig,out,iter d k⟩::Γ) (A:=A) ?_ hf hb hn hlen (by rw [hrs,h];exact hXY);intro c hc;rcases List.mem_cons.1 hc with rfl | hc
    ·exact ⟨hcall,ih⟩
    ·exact hG c hc
  intro X Y hXY;obtain ⟨k,hk⟩:=zck hXY;exact key k X Y hk
theorem CE.ofRecM {P:Program} (hm:P.follows .mixedOrders=true) {TT:List TE} (hT:TOK P TT) (A:Ann) {f:Nat} {fn:Func} {body:Code} {n:Nat} (hf:P.funcs[f]? =some fn) (hb:fn.body=some body) (hn:fn.ntmps=n) {rs:List ResultVar} (hrs:fn.results.toList=rs) {sig out:Shape} (hlen:Nat.ble sig.slots.length n=true)
  {Γ:(Tup sig.tys->Option (Tup out.tys))->List CE} (hG:∀ rc,CE.ok P ⟨f,sig,out,rc⟩->GOK P (Γ rc))
  (hcall:∀ (as:Array Value) (w:World),(callFunc f as).run P w = .ok (.enter f as) w)
  {d:(Tup sig.tys->Option (Tup out.tys))->Tup sig.tys->Option (Tup out.tys)} (h:∀ rc X,evF TT (⟨f,sig,out,rc⟩::Γ rc) A n rs body sig out X=d rc X):CE.ok P ⟨f,sig,out,LFix d⟩ where
 call:=hcall
 fc:=by
  have key:∀ k X Y,iter d k X=some Y->Fc P f (EV.avL (sig.vals X)) (hpSt (sig.heap X) (sig.rws X)) (fun r h=>r=(retE (out.vals Y)).av/\h=hpSt (out.heap Y) (out.rws Y)):=by
   intro k;induction k with
   | zero=>intro X Y h;cases h
   | succ k ih=>
    intro X Y hXY;refine zk0 hm hT (Γ:=⟨f,sig,out,iter d k⟩::Γ (iter d k)) (A:=A) ?_ hf hb hn hlen (by rw [hrs,h];exact hXY);have hk:CE.ok P ⟨f,sig,out,iter d k⟩:=⟨hcall,ih⟩;intro c hc;rcases List.mem_cons.1 hc with rfl | hc
    ·exact hk
    ·exact hG _ hk c hc
  intro X Y hXY;obtain ⟨k,hk⟩:=zck hXY;exact key k X Y hk
open Classical in
noncomputable def bothS {B:Type} (a b:Option B):Option B:=if a=b then a else none
theorem zin {B:Type}:Both (bothS (B:=B)):=by
 refine ⟨fun {a b q} h => ?_,fun {a b q} h => ?_⟩
 ·unfold bothS at h;split at h
  ·exact h
  ·cases h
 ·unfold bothS at h;split at h
  ·rename_i e;rw [<- e];exact h
  ·cases h
theorem zlY {B:Type} (a:Option B):bothS a a=a:=by unfold bothS;rw [if_pos rfl]
noncomputable def evFp (TT:List TE) (Γ:List CE) (Γp:List CEp) (T:Nat) (A:Ann) (n:Nat) (rs:List ResultVar) (body:Code) (sig out:Shape) (X:Tup sig.tys):Option (Tup out.tys⊕(Int×Int)):=
 evC TT Γ Γp T bothS A body (zjZ n sig X) fun e s=>match e with
  | .normal=>(capR TT rs out s).map .inl
  | .ret=>(capR TT rs out s).map .inl
  | .panic ch=>(dec T ch).map .inr
  | _=>none
theorem FcP.of_body {P:Program} {f:FuncId} {args:List AV} {h:Hp} {T:Nat} {p:Int×Int} {fn:Func} {c:Code} {n:Nat} (hf:P.funcs[f]? =some fn) (hb:fn.body=some c) (hn:fn.ntmps=n) (hlen:args.length<=n)
  (hbody:∀ F:Fr,AW P F c (St.start n args h) (fun e _=>e = .panic (pch T p))):FcP P f args h T p:=by
 intro w X H vs hX hlow hH hvs hargs
 let F:Fr:={ w:=w,O:=zcL h H,X:=X,H0:=H }
 refine calls_of_wp hf hb ?_;have hsz:(vs++Array.replicate (fn.ntmps - vs.size) undef).size=n:=by simp;omega
 have r0:RelH F (St.start n args h) H { tmps:=vs++Array.replicate (fn.ntmps - vs.size) undef,defers:=[] } w:={
  size:=hsz,defs:=rfl,os:=rfl,tape:=rfl,output:=rfl,grow:=Nat.le_refl _,keep:=fun _ _ _=>rfl,xlt:=hX
  fresh:=fun id _ h2=>hlow id h2
  pin:=fun _ _=>rfl
  ent:=by unfold St.start;rw [zd4];exact hH.ent
  own:=by unfold St.start;rw [zd4];exact fun id e v b h1 h2 h3=>⟨.inr ⟨id,e,v,h1,h2,h3⟩,hH.own id e v b h1 h2 h3⟩
  inj:=by unfold St.start;rw [zd4];exact hH.inj
  slot:=fun k x hx=>by
   obtain ⟨_,h2⟩:=zes args 0 k x hx;have hk:k < args.length:=(List.getElem?_eq_some_iff.1 (by simpa using h2)).1;have:=hargs k hk;have h3:args.getD k default=x:=by
    rw [List.getD_eq_getElem?_getD];have:args[k]? =some x:=by simpa using h2
    rw [this];rfl
   rw [h3] at this;have h4:(vs++Array.replicate (fn.ntmps - vs.size) undef).getD k undef=vs.getD k undef:=by
    have:k < vs.size:=by omega
    simp [Array.getElem?_append_left this]
   show VRel w _ H x ((vs++Array.replicate (fn.ntmps - vs.size) undef).getD k undef);unfold St.start;rw [h4,zd4];exact this }
 refine wp_mono (hbody F _ w ⟨H,r0⟩) ?_;rintro e a' w' ⟨σ',rfl,H',r⟩;exact ⟨r.defs,rfl,⟨r.os,r.tape,r.output,r.grow⟩,r.keep⟩
theorem zhf {P:Program} (hm:P.follows .mixedOrders=true) {TT:List TE} {Γ:List CE} {Γp:List CEp} {T:Nat} (hT:TOK P TT) (hG:GOK P Γ) (hGp:GPOK P T Γp) {A:Ann} {f:Nat} {fn:Func} {body:Code} {n:Nat} (hf:P.funcs[f]? =some fn) (hb:fn.body=some body) (hn:fn.ntmps=n) {sig out:Shape} (hlen:Nat.ble sig.slots.length n=true)
  {X:Tup sig.tys}:(∀ Y,evFp TT Γ Γp T A n fn.results.toList body sig out X=some (.inl Y)->Fc P f (EV.avL (sig.vals X)) (hpSt (sig.heap X) (sig.rws X)) (fun r h=>r=(retE (out.vals Y)).av/\h=hpSt (out.heap Y) (out.rws Y)))/\
   ∀ p,evFp TT Γ Γp T A n fn.results.toList body sig out X=some (.inr p)->FcP P f (EV.avL (sig.vals X)) (hpSt (sig.heap X) (sig.rws X)) T p:=by
 have hle:(EV.avL (sig.vals X)).length<=n:=by rw [zb2];unfold Shape.vals;rw [List.length_map];simpa using hlen
 constructor
 ·intro Y h;refine Fc.of_body hf hb hn hle fun F => ?_
  intro a w r;refine wp_mono (zbq hm hT hG hGp zin body (zjZ n sig X) _ h a w ((zhx n sig X).rel r)) fun e a' w' ⟨σ',hp,hr⟩ => ?_
  obtain ⟨s',rfl,h2,h3⟩:=hp;have fin:(capR TT fn.results.toList out s').map (Sum.inl (β:=Int×Int))=some (.inl Y)->∃ σ',zp6 P fn (fun r h=>r=(retE (out.vals Y)).av/\h=hpSt (out.heap Y) (out.rws Y)) σ'/\Rel F σ' a' w':=fun h3=>by
   obtain ⟨Y',hY,e⟩:=Option.map_eq_some_iff.1 h3;cases e;obtain ⟨s1,hw,hret⟩:=zha (P:=P) hT hY;exact ⟨s1.st,hret,hw.rel F a' w' hr⟩
  cases e with
  | normal=>exact fin h3
  | ret=>exact fin h3
  | panic ch=>
   obtain ⟨p,_,e⟩:=Option.map_eq_some_iff.1 h3;cases e
  | _=>cases h3
 ·intro p h;refine FcP.of_body hf hb hn hle fun F => ?_
  intro a w r;refine wp_mono (zbq hm hT hG hGp zin body (zjZ n sig X) _ h a w ((zhx n sig X).rel r)) fun e a' w' ⟨σ',hp,hr⟩ => ?_
  obtain ⟨s',rfl,h2,h3⟩:=hp;cases e with
  | normal=>obtain ⟨_,_,e⟩:=Option.map_eq_some_iff.1 h3;cases e
  | ret=>obtain ⟨_,_,e⟩:=Option.map_eq_some_iff.1 h3;cases e
  | panic ch=>
   obtain ⟨p',hp',e⟩:=Option.map_eq_some_iff.1 h3;cases e;exact ⟨s'.st,congrArg Exit.panic (zq1 hp'),hr⟩
  | _=>cases h3
theorem CEp.of {P:Program} (hm:P.follows .mixedOrders=true) {TT:List TE} {Γ:List CE} {Γp:List CEp} {T:Nat} (hT:TOK P TT) (hG:GOK P Γ) (hGp:GPOK P T Γp) (A:Ann) {f:Nat} {fn:Func} {body:Code} {n:Nat} (hf:P.funcs[f]? =some fn) (hb:fn.body=some body) (hn:fn.ntmps=n) {rs:List ResultVar} (hrs:fn.results.toList=rs) {sig out:Shape} (hlen:Nat.ble sig.slots.length n=true)
  (hcall:∀ (as:Array Value) (w:World),(callFunc f as).run P w = .ok (.enter f as) w)
  {den:Tup sig.tys->Option (Tup out.tys⊕(Int×Int))} (h:∀ X,evFp TT Γ Γp T A n rs body sig out X=den X):CEp.ok P T ⟨f,sig,out,den⟩ where
 call:=hcall
 fc X Y hXY:=(zhf hm hT hG hGp hf hb hn hlen).1 Y (by rw [hrs,h X];exact hXY)
 fp X p hXp:=(zhf hm hT hG hGp hf hb hn hlen).2 p (by rw [hrs,h X];exact hXp)
theorem CEp.ofRec {P:Program} (hm:P.follows .mixedOrders=true) {TT:List TE} {Γ:List CE} {T:Nat} (hT:TOK P TT) (hG:GOK P Γ) (A:Ann) {f:Nat} {fn:Func} {body:Code} {n:Nat} (hf:P.funcs[f]? =some fn) (hb:fn.body=some body) (hn:fn.ntmps=n) {rs:List ResultVar} (hrs:fn.results.toList=rs) {sig out:Shape} (hlen:Nat.ble sig.slots.length n=true)
  {Γp:(Tup sig.tys->Option (Tup out.tys⊕(Int×Int)))->List CEp} (hGp:∀ rc,CEp.ok P T ⟨f,sig,out,rc⟩->GPOK P T (Γp rc))
  (hcall:∀ (as:Array Value) (w:World),(callFunc f as).run P w = .ok (.enter f as) w)
  {d:(Tup sig.tys->Option (Tup out.tys⊕(Int×Int)))->Tup sig.tys->Option (Tup out.tys⊕(Int×Int))} (h:∀ rc X,evFp TT Γ (⟨f,sig,out,rc⟩::Γp rc) T A n rs body sig out X=d rc X):CEp.ok P T ⟨f,sig,out,LFix d⟩:=by
 have key:∀ k,CEp.ok P T ⟨f,sig,out,iter d k⟩:=by
  intro k;induction k with
  | zero=>exact ⟨hcall,fun X Y h=>(by cases h),fun X p h=>(by cases h)⟩
  | succ k ih=>
   have hg:GPOK P T (⟨f,sig,out,iter d k⟩::Γp (iter d k)):=fun c hc=>by
    rcases List.mem_cons.1 hc with rfl | hc
    ·exact ih
    ·exact hGp _ ih c hc
   refine ⟨hcall,fun X Y hXY => ?_,fun X p hXp => ?_⟩
   ·exact (zhf hm hT hG hg (A:=A) hf hb hn hlen).1 Y (by rw [hrs,h];exact hXY)
   ·exact (zhf hm hT hG hg (A:=A) hf hb hn hlen).2 p (by rw [hrs,h];exact hXp)
 refine ⟨hcall,fun X Y hXY => ?_,fun X p hXp => ?_⟩
 ·obtain ⟨k,hk⟩:=zck hXY;exact (key k).fc X Y hk
 ·obtain ⟨k,hk⟩:=zck hXp;exact (key k).fp X p hk
theorem GPOK.nil {P:Program} {T:Nat}:GPOK P T []:=fun _ h=>by cases h
theorem GPOK.cons {P:Program} {T:Nat} {c:CEp} {Γ:List CEp} (h:c.ok P T) (k:GPOK P T Γ):GPOK P T (c::Γ):=fun c' h'=>by
 rcases List.mem_cons.1 h' with rfl | h'
 ·exact h
 ·exact k c' h'
theorem GOK.nil {P:Program}:GOK P []:=fun _ h=>by cases h
theorem GOK.cons {P:Program} {c:CE} {Γ:List CE} (h:c.ok P) (k:GOK P Γ):GOK P (c::Γ):=fun c' h'=>by
 rcases List.mem_cons.1 h' with rfl | h'
 ·exact h
 ·exact k c' h'
end
end Go.Ab
