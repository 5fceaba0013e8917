import Derived.Test.YtajabcfngklacaaEv40n18
import Derived.Test.YtajabcfngklacaaEv40n29
import Derived.Scope
set_option linter.unusedVariables false
set_option linter.unusedSimpArgs false
set_option linter.unusedSectionVars false
namespace Go.Ab
noncomputable section
open Enc (enc)
variable {R:Type}
def zDn (o:Oper):Nat:=match o.op with
 | .move _ | .assign _ | .pick _ _ _ | .build _ _ | .load _ _ | .nilCheck _ | .binOp _ _ _ _ _ | .unOp _ _ _ | .convert _ _ _ | .makeFunc _ _ _ | .slice _ _ _ _ _ | .fieldAddr _ _ _ | .field _ _ _ | .indexAddr _ _ _ | .index _ _ _ | .extract _ _ | .lookup _ _ _ _=>0
 | .call c=>match c.callee with
  | .builtin .len=>0
  | .builtin .min=>0
  | .builtin .max=>0
  | .builtin .cap=>0
  | _=>2
 | _=>2
def zgX:Code->Nat
 | .region id _ _=>id
 | .seq a b=>match zgX a with
  | 0=>zgX b
  | n=>n
 | .cond _ a b=>match zgX a with
  | 0=>zgX b
  | n=>n
 | .block _ c=>zgX c
 | .loop c=>10000000+zgX c
 | .scope c=>zgX c
 | _=>0
def zop:Code->Nat
 | .region id _ _=>id
 | .seq a b=>match zop b with
  | 0=>zop a
  | n=>n
 | .cond _ a b=>match zop b with
  | 0=>zop a
  | n=>n
 | .block _ c=>zop c
 | .loop c=>zop c
 | .scope c=>zop c
 | _=>0
structure Ann where
 loops:List (Nat×Join)
 joins:List (Nat×Join)
 ords:List (Nat×List (Nat×Nat))
 trees:List (Nat×OT)
def zxV (a:List Oper):List (Nat×Oper):=a.map fun o=>(zDn o,o)
noncomputable def evC (TT:List TE) (Γ:List CE) (Γp:List CEp) (T:Nat) (bo:Option R->Option R->Option R) (A:Ann):Code->ESt->(Exit->ESt->Option R)->Option R
 | .skip,s,K=>K .normal s
 | .region id ops draw,s,K=>bif draw then (match look A.ords (4000000+id) with
   | some _=>(match look A.trees id with
    | some (.pnd t)=>bif Region.noSelect ops && t.cov ops (Array.replicate ops.size false) then evPP TT Γ Γp T bo ops (K .normal) (fun p=>K (.panic (pch T p)) s.blank) t [] ops.size (Array.replicate ops.size false) s else none
    | _=>none)
   | none=>match look A.trees id with
   | some t=>bif Region.noSelect ops && t.cov ops (Array.replicate ops.size false) [] then evT TT Γ bo ops (K .normal) t none ops.size (Array.replicate ops.size false) s else none
   | none=>match look A.ords id with
   | some d=>bif ztn ops d then zhq TT Γ bo ops.toList (zpo ops d) s (K .normal) else none
   | none=>none) else (match look A.ords (2000000+id) with
   | some l=>bif decide (l.map (·.2)=List.range ops.size) then zsd TT Γ Γp T bo ops (K .normal) (fun p a=>K (.panic (pch T p)) a) l s else none
   | none=>match look A.ords id with
   | some d=>bif Nat.beq d.length ops.size then zhq TT Γ bo ops.toList ((d.map (·.1)).zip ops.toList) s (K .normal) else none
   | none=>zhq TT Γ bo ops.toList (zxV ops.toList) s (K .normal))
 | .seq x y,s,K=>match (bif Nat.beq (zgX y) 0 then none else look A.joins (zop x)) with
  | none=>evC TT Γ Γp T bo A x s fun e a=>match e with
   | .normal=>evC TT Γ Γp T bo A y a K
   | e=>K e a
  | some j=>evC TT Γ Γp T bo A x s fun e a=>match e with
   | .normal=>match capt s j a with
    | some X=>evC TT Γ Γp T bo A y (tgt s j X) K
    | none=>none
   | e=>K e a
 | .cond c x y,s,K=>match s.ev c with
  | some (.d .bool b)=>if b=true then evC TT Γ Γp T bo A x s K else evC TT Γ Γp T bo A y s K
  | _=>none
 | .block id c,s,K=>evC TT Γ Γp T bo A c s fun e a=>match e with
  | .exit f=>bif Nat.beq f id then K .normal a else K (.exit f) a
  | e=>K e a
 | .loop c,s,K=>
  let lp:ESt->Option R:=fun s=>match look A.loops (zgX c) with
   | none=>none
   | some j=>match capt s j s with
    | none=>none
    | some g=>LFix (fun rec X=>evC TT Γ Γp T bo A c (tgt s j X) fun e a=>match e with
     | .normal=>match capt s j a with
      | some h=>rec h
      | none=>none
     | e=>K e a) g
  bif (look A.ords (1000000+zgX c)).isSome then evC TT Γ Γp T bo A c s fun e a=>match e with
   | .normal=>lp a
   | .exit _=>none
   | e=>K e a
  else lp s
 | .exit id,s,K=>K (.exit id) s
 | .ret,s,K=>K .ret s
 | .label _,s,K=>K .normal s
 | .scope c,s,K=>evC TT Γ Γp T bo A c s fun e a=>match e with
  | .goto _=>none
  | e=>K e a
 | _,_,_=>none
def zAn (s:ESt) (K:Exit->ESt->Option R) (q:R) (e:Exit) (σ:St):Prop:=∃ a,σ=a.st/\Sfx s a/\K e a=some q
section
variable {P:Program} {TT:List TE} {Γ:List CE} {Γp:List CEp} {T:Nat} {bo:Option R->Option R->Option R} {F:Fr} {A:Ann} {q:R}
theorem zzK (ops:Array Oper):zxV ops.toList=(ops.toList.map zDn).zip ops.toList:=by
 unfold zxV;induction ops.toList with
 | nil=>rfl
 | cons o l a=>rw [List.map_cons,List.map_cons,List.zip_cons_cons,a]
theorem zAn.sfx {s a:ESt} {K:Exit->ESt->Option R} (h:Sfx s a) {e:Exit} {σ:St} (b:zAn a K q e σ):zAn s K q e σ:=
 let ⟨s1,h1,h2,h3⟩:=b;⟨s1,h1,h.trans h2,h3⟩
theorem AW.scope {c:Code} {σ:St} {Q:Exit->St->Prop} (h:AW P F c σ (fun e σ'=>(∀ l,e ≠ .goto l)/\Q e σ')):AW P F (.scope c) σ Q:=by
 intro a w r;refine wp_scope_straight (wp_mono (h a w r) ?_);rintro e a' w' ⟨σ',⟨h0,h1⟩,h2⟩;cases e with
 | goto l=>exact absurd rfl (h0 l)
 | _=>exact ⟨σ',h1,h2⟩
theorem AW.label {l:Nat} {σ:St} {Q:Exit->St->Prop} (h:Q .normal σ):AW P F (.label l) σ Q:=
 fun _ _ r=>wp_label ⟨σ,h,r⟩
theorem AW.loop_peel {P:Program} {F:Fr} {c:Code} {σ:St} {Q:Exit->St->Prop} (I:Nat->St->Prop)
  (t:∀ m σ,I m σ->AW P F c σ (Then (fun σ'=>∃ u,u < m/\I u σ') Q)) (first:AW P F c σ (Then (fun σ'=>∃ m,I m σ') Q)):AW P F (.loop c) σ Q:=by
 intro a w r b k cs;have y:∀ n σ a w,I n σ->Rel F σ a w->
   ∃ e B w',(∃ σ',Q e σ'/\Rel F σ' B w')/\Arrives P (lone (b.at a (.code c :: .inLoop c::k)) cs w) b k cs e B w':=by
  intro n;induction n using Nat.strongRecOn with
  | _ n C=>
   intro σ a w v r;obtain ⟨e,f,g,⟨d,o,h⟩,harr⟩:=t n σ v a w r b (.inLoop c::k) cs;cases e with
   | normal=>
    obtain ⟨u,z,A⟩:=o;obtain ⟨p,q,s,j,i⟩:=C u z d f g A h;exact ⟨p,q,s,j,.of_steps (Steps.trans harr (.one step_inLoop)) i⟩
   | exit id=>exact ⟨_,f,g,⟨d,o,h⟩,.pass (x := .inLoop c) rfl (fun _ _ => .inl (by simp)) harr⟩
   | goto l=>exact ⟨_,f,g,⟨d,o,h⟩,.pass (x := .inLoop c) rfl (fun _ _ => .inl (by simp)) harr⟩
   | ret=>exact ⟨_,f,g,⟨d,o,h⟩,.pass (x := .inLoop c) rfl (fun _ _ => .inl (by simp)) harr⟩
   | panic D=>exact ⟨_,f,g,⟨d,o,h⟩,.pass (x := .inLoop c) rfl (fun _ _ => .inl (by simp)) harr⟩
   | outgrown=>exact ⟨_,f,g,⟨d,o,h⟩,.pass (x := .inLoop c) rfl (fun _ _ => .inl (by simp)) harr⟩
 obtain ⟨e,f,g,⟨d,o,h⟩,harr⟩:=first a w r b (.inLoop c::k) cs
 cases e with
 | normal=>
  obtain ⟨m,v⟩:=o;obtain ⟨p,q,s,j,i⟩:=y m d f g v h;exact ⟨p,q,s,j,.of_steps (.one step_loop) (.of_steps (Steps.trans harr (.one step_inLoop)) i)⟩
 | exit id=>exact ⟨_,f,g,⟨d,o,h⟩,.of_steps (.one step_loop) (.pass (x := .inLoop c) rfl (fun _ _ => .inl (by simp)) harr)⟩
 | goto l=>exact ⟨_,f,g,⟨d,o,h⟩,.of_steps (.one step_loop) (.pass (x := .inLoop c) rfl (fun _ _ => .inl (by simp)) harr)⟩
 | ret=>exact ⟨_,f,g,⟨d,o,h⟩,.of_steps (.one step_loop) (.pass (x := .inLoop c) rfl (fun _ _ => .inl (by simp)) harr)⟩
 | panic D=>exact ⟨_,f,g,⟨d,o,h⟩,.of_steps (.one step_loop) (.pass (x := .inLoop c) rfl (fun _ _ => .inl (by simp)) harr)⟩
 | outgrown=>exact ⟨_,f,g,⟨d,o,h⟩,.of_steps (.one step_loop) (.pass (x := .inLoop c) rfl (fun _ _ => .inl (by simp)) harr)⟩
theorem zdV (C:P.follows .mixedOrders=true) (v:TOK P TT) (z:GOK P Γ) (k:GPOK P T Γp) (i:Both bo):∀ (c:Code) (s:ESt) (K:Exit->ESt->Option R),evC TT Γ Γp T bo A c s K=some q->AW P F c s.st (zAn s K q)
 | .skip,s,K,h=>AW.skip ⟨s,rfl,Sfx.refl s,h⟩
 | .exit id,s,K,h=>AW.exit ⟨s,rfl,Sfx.refl s,h⟩
 | .ret,s,K,h=>AW.ret ⟨s,rfl,Sfx.refl s,h⟩
 | .label _,s,K,h=>AW.label ⟨s,rfl,Sfx.refl s,h⟩
 | .scope c,s,K,h=>by
  rw [evC] at h;refine AW.scope ((zdV C v z k i c s _ h).mono fun e σ B => ?_);obtain ⟨g,rfl,o,d⟩:=B;cases e with
  | goto l=>cases d
  | _=>exact ⟨fun l Y=>(by cases Y),g,rfl,o,d⟩
 | .region id ops draw,s,K,h=>by
  simp only [evC] at h;cases draw with
  | true=>
   simp only [cond_true] at h;split at h
   ·split at h
    ·rename_i t _;have u:=(zad h).1;replace h:=(zad h).2;simp only [Bool.and_eq_true] at u;intro a w r;refine wp_region_any C (zjl (fun e a w hq => ?_) _ _ _ _ (zr0 _ _ _ _ ((zkH (s0:=s) u.1 v z k i t).1 F [] _ _ s a _ u.2 rfl h r.drew fun c Z=>by cases Z)));rcases hq with ⟨rfl,σ,⟨g,rfl,o,d⟩,h4⟩ | ⟨p,rfl,o,d⟩
     ·exact ⟨g.st,⟨g,rfl,o,d⟩,h4⟩
     ·exact ⟨s.blank.st,⟨s.blank,rfl,Sfx.blank s,o⟩,d⟩
    ·cases h
   split at h
   ·rename_i t _;have u:=(zad h).1;replace h:=(zad h).2;simp only [Bool.and_eq_true] at u;exact AW.any C fun a w r=>(zfZ u.1 v z i t).1.1 _ _ s a w u.2 h r
   split at h
   ·rename_i L hord;have u:=(zad h).1;replace h:=(zad h).2;exact AW.drawn L C u (zbc v z i h)
   ·cases h
  | false=>
   simp only [cond_false] at h;split at h
   ·rename_i l _;have u:=(zad h).1;replace h:=(zad h).2;have Y:l.map (·.2)=List.range ops.size:=by simpa using u
    intro a w r;have:=zoi (F:=F) v z k i l s h a w r;rw [Y] at this;refine wp_mono (wp_region this) ?_;rintro e a' w' (⟨rfl,g,o,d,h4⟩ | ⟨p,g,rfl,o,d,h4⟩)
    ·exact ⟨g.st,⟨g,rfl,o,d⟩,h4⟩
    ·exact ⟨g.st,⟨g,rfl,o,d⟩,h4⟩
   split at h
   ·rename_i L _;have u:=(zad h).1;replace h:=(zad h).2;exact AW.region (L.map (·.1)) (by rw [List.length_map];exact u) (zbc v z i h)
   refine AW.region (ops.toList.map zDn) (by simp) ?_;rw [<- zzK];exact zbc v z i h
 | .cond c x y,s,K,h=>by
  simp only [evC] at h;split at h
  ·rename_i b u;split at h
   ·rename_i ht;exact AW.cond (t:=b) (za0 u) (fun _=>zdV C v z k i x s K h) (fun J=>by rw [ht] at J;cases J)
   ·rename_i ht;exact AW.cond (t:=b) (za0 u) (fun J=>absurd J ht) (fun _=>zdV C v z k i y s K h)
  ·cases h
 | .block id c,s,K,h=>by
  rw [evC] at h;refine AW.block ((zdV C v z k i c s _ h).mono fun e σ B => ?_);obtain ⟨g,rfl,o,d⟩:=B;cases e with
  | exit id'=>
   simp only at d;simp only [zxK];cases u:Nat.beq id' id with
   | true=>rw [u] at d;exact ⟨g,rfl,o,d⟩
   | false=>rw [u] at d;exact ⟨g,rfl,o,d⟩
  | _=>exact ⟨g,rfl,o,d⟩
 | .seq x y,s,K,h=>by
  simp only [evC] at h;split at h
  ·refine AW.seq ((zdV C v z k i x s _ h).mono fun e σ B => ?_);obtain ⟨g,rfl,o,d⟩:=B;cases e with
   | normal=>
    simp only [Then];exact (zdV C v z k i y g K d).mono fun e σ B=>B.sfx o
   | _=>exact ⟨g,rfl,o,d⟩
  ·rename_i j hj;refine AW.seq ((zdV C v z k i x s _ h).mono fun e σ B => ?_);obtain ⟨g,rfl,o,d⟩:=B;cases e with
   | normal=>
    simp only [Then];simp only at d;split at d
    ·rename_i X hX;obtain ⟨S,U⟩:=zro hX o;exact AW.weak (fun a w r=>U F a w r) ((zdV C v z k i y (tgt s j X) K d).mono fun e σ B=>B.sfx S)
    ·cases d
   | _=>exact ⟨g,rfl,o,d⟩
 | .loop c,s,K,h=>by
  generalize Q:(fun s:ESt=>match look A.loops (zgX c) with
   | none=>none
   | some j=>match capt s j s with
    | none=>none
    | some X0=>LFix (fun rec X=>evC TT Γ Γp T bo A c (tgt s j X) fun e g=>match e with
     | .normal=>match capt s j g with
      | some O=>rec O
      | none=>none
     | e=>K e g) X0)=lp
  have h':(bif (look A.ords (1000000+zgX c)).isSome then evC TT Γ Γp T bo A c s fun e g=>match e with
   | .normal=>lp g
   | .exit _=>none
   | e=>K e g
   else lp s)=some q:=by rw [evC] at h;rw [<- Q];exact h
  clear h;generalize hI:(fun (m:Nat) (σ:St)=>∃ (j:Join) (s0:ESt) (f:(Tup j.sh.tys->Option R)->Tup j.sh.tys->Option R) (X:Tup j.sh.tys) (s1:ESt),f=(fun (rec:Tup j.sh.tys->Option R) X=>evC TT Γ Γp T bo A c (tgt s0 j X) fun e g=>match e with
     | .normal=>match capt s0 j g with
      | some O=>rec O
      | none=>none
     | e=>K e g)/\σ=s1.st/\Sfx s s0/\Sfx s0 (tgt s0 j X)/\(∀ (F:Fr) (a:Act) (w:World),Rel F s1.st a w->Rel F (tgt s0 j X).st a w)/\iter f m X=some q)=I
  have D:∀ m σ,I m σ->AW P F c σ (Then (fun σ'=>∃ m',m' < m/\I m' σ') (zAn s K q)):=by
   intro m σ N;rw [<- hI] at N ⊢;obtain ⟨j,s0,f,X,s1,J,rfl,H,V,hw,W⟩:=N;cases m with
   | zero=>cases W
   | succ m=>
    have E:f (iter f m) X=some q:=W;generalize hr:iter f m=rc at E;rw [J] at E;refine AW.weak (fun a w r=>hw F a w r) ((zdV C v z k i c (tgt s0 j X) _ E).mono fun e σ B => ?_);obtain ⟨g,rfl,o,d⟩:=B;cases e with
    | normal=>
     simp only at d;simp only [Then];split at d
     ·rename_i O hX';obtain ⟨S,U⟩:=zro hX' (V.trans o);exact ⟨m,by omega,j,s0,f,O,g,J,rfl,H,S,U,by rw [hr];exact d⟩
     ·cases d
    | _=>exact ⟨g,rfl,(H.trans V).trans o,d⟩
  have first:∀ s0,Sfx s s0->lp s0=some q->∃ m,I m s0.st:=by
   intro s0 H M;rw [<- Q] at M;simp only at M;split at M
   ·cases M
   ·rename_i j hj;split at M
    ·cases M
    ·rename_i X0 hX0;obtain ⟨n,hn⟩:=zho M;obtain ⟨S,U⟩:=zro hX0 (Sfx.refl s0);exact ⟨n,by rw [<- hI];exact ⟨j,s0,_,X0,s0,rfl,rfl,H,S,U,hn⟩⟩
  cases u:(look A.ords (1000000+zgX c)).isSome with
  | true=>
   rw [u,cond_true] at h';refine AW.loop_peel I D ((zdV C v z k i c s _ h').mono fun e σ B => ?_);obtain ⟨g,rfl,o,d⟩:=B;cases e with
   | normal=>exact first g o d
   | exit id=>cases d
   | _=>exact ⟨g,rfl,o,d⟩
  | false=>
   rw [u,cond_false] at h';obtain ⟨m,hm'⟩:=first s (Sfx.refl s) h';exact AW.loop_nat I D hm'
 | .rangeFunc .., _,_,h=>by simp only [evC] at h;cases h
 | .goto _,_,_,h=>by simp only [evC] at h;cases h
 | .refuse _,_,_,h=>by simp only [evC] at h;cases h
end
def argE:Nat->List EV->List (Nat×EV)
 | _,[]=>[]
 | k,x::r=>(k,x)::argE (k+1) r
theorem zAp:∀ (l:List EV) (k:Nat),(argE k l).map (fun p=>(p.1,p.2.av))=zo0 k (EV.avL l)
 | [],_=>rfl
 | x::r,k=>by rw [argE,List.map_cons,zAp r,EV.avL,zo0]
def zsF (n:Nat) (sig:Shape) (X:Tup sig.tys):ESt:=⟨n,argE 0 (sig.vals X),sig.heap X,0,sig.rws X⟩
theorem zpk (n:Nat) (sig:Shape) (X:Tup sig.tys):Eqv (St.start n (EV.avL (sig.vals X)) (hpSt (sig.heap X) (sig.rws X))) (zsF n sig X).st:=by
 refine ⟨rfl,rfl,fun k x h => ?_,fun i e h => ?_⟩
 ·have a:look ((argE 0 (sig.vals X)).map fun p=>(p.1,p.2.av)) k=some x:=h;rw [zAp] at a;exact a
 ·rw [zDH] at h;exact h
def ESt.boxPack (s:ESt) (id:Nat) (t:Ty):ESt:=match s.ent id with
 | some (.box T cs)=>match zrC t cs with
  | some (y,[])=>s.put id (some (.box T (zr5 t y)))
  | _=>s
 | _=>s
theorem zzH (s:ESt) (id:Nat) (t:Ty):Wk s (s.boxPack id t):=by
 unfold ESt.boxPack;split
 ·rename_i T cs d;split
  ·rename_i y e;refine ⟨fun F a w ⟨H,r⟩=>⟨H,?_⟩,fun _ _ _ c=>c⟩;obtain ⟨l1,b,f⟩:=zh1 e;rw [List.append_nil] at b;subst b;have:=r.boxpack (zbw d) f;rw [zkU];simp only [Option.map_some,EEnt.ent,zoc];exact this
  ·exact Wk.refl s
 ·exact Wk.refl s
def zjs (tys:List Ty):ESt->List ResultVar->List (Nat×SV)->ESt
 | s,.tmp k::rs,(_,.v j)::r=>match tys[j]? with
  | some t=>zjs tys (s.dat (.tmp k) t) rs r
  | none=>zjs tys s rs r
 | s,.tmp k::rs,(_,.addr j)::r=>match tys[j]? with
  | some t=>zjs tys (s.prepF k t) rs r
  | none=>zjs tys s rs r
 | s,.cell k _::rs,(_,.v j)::r=>match s.get k with
  | some (.ptr id 0)=>match tys[j]? with
   | some t=>zjs tys ((s.boxDat id 0 t.sz).boxPack id t) rs r
   | none=>zjs tys s rs r
  | _=>zjs tys s rs r
 | s,_::rs,_::r=>zjs tys s rs r
 | s,_,_=>s
theorem zhp (tys:List Ty):∀ (rs:List ResultVar) (l:List (Nat×SV)) (s:ESt),Wk s (zjs tys s rs l)
 | [],l,s=>by unfold zjs;exact Wk.refl s
 | .tmp k::rs,[],s=>Wk.refl s
 | .cell k t::rs,[],s=>Wk.refl s
 | .tmp k::rs,(i,sv)::r,s=>by
  cases sv with
  | v j=>
   simp only [zjs];split
   ·rename_i t _;exact (zog s _ t).trans (zhp tys rs r _)
   ·exact zhp tys rs r s
  | addr j=>
   simp only [zjs];split
   ·rename_i t _;exact (zti s k t).1.trans (zhp tys rs r _)
   ·exact zhp tys rs r s
  | _=>exact zhp tys rs r s
 | .cell k t::rs,(i,sv)::r,s=>by
  cases sv with
  | v j=>
   simp only [zjs];split
   ·rename_i id _;split
    ·rename_i t _;exact ((zmp id t.sz s 0).trans (zzH _ id t)).trans (zhp tys rs r _)
    ·exact zhp tys rs r s
   ·exact zhp tys rs r s
  | _=>exact zhp tys rs r s
def EV.isD:EV->Bool
 | .d _ _=>true
 | _=>false
def resA (e:TE) (cs:List EV):Option EV:=bif Nat.beq cs.length e.size then some (.agg cs) else none
def zjo (out:Shape) (id:Nat):List SV->Nat->ESt->ESt
 | [],_,s=>s
 | .own i::r,q,s=>match look out.ents i with
  | some (.arr E j)=>match out.tys[j]? with
   | some (.list t)=>zjo out id r (q+1) (s.nil1 id q E t)
   | _=>zjo out id r (q+1) s
  | some (.out _ E E1 j)=>match out.tys[j]? with
   | some (.list (.list t))=>zjo out id r (q+1) (s.nil1D id q E E1 t)
   | _=>zjo out id r (q+1) s
  | _=>zjo out id r (q+1) s
 | _::r,q,s=>zjo out id r (q+1) s
theorem zhO (out:Shape) (id:Nat):∀ (l:List SV) (q:Nat) (s:ESt),Wk s (zjo out id l q s)
 | [],_,s=>Wk.refl s
 | sv::r,q,s=>by
  cases sv with
  | own i=>
   simp only [zjo];split
   ·split
    ·exact (zwq _ _ _ _ _).1.trans (zhO out id r (q+1) _)
    ·exact zhO out id r (q+1) s
   ·split
    ·exact (zth _ _ _ _ _ _).1.trans (zhO out id r (q+1) _)
    ·exact zhO out id r (q+1) s
   ·exact zhO out id r (q+1) s
  | _=>simp only [zjo];exact zhO out id r (q+1) s
def zot (out:Shape):ESt->List ResultVar->List (Nat×SV)->ESt
 | s,.cell k _::rs,(_,.agg svs)::r=>match s.get k with
  | some (.ptr id 0)=>zot out (zjo out id svs 0 s) rs r
  | _=>zot out s rs r
 | s,_::rs,_::r=>zot out s rs r
 | s,_,_=>s
theorem zou (out:Shape):∀ (rs:List ResultVar) (l:List (Nat×SV)) (s:ESt),Wk s (zot out s rs l)
 | [],l,s=>by unfold zot;exact Wk.refl s
 | .tmp k::rs,[],s=>Wk.refl s
 | .cell k t::rs,[],s=>Wk.refl s
 | .tmp k::rs,(i,sv)::r,s=>zou out rs r s
 | .cell k t::rs,(i,sv)::r,s=>by
  cases sv with
  | agg c=>
   simp only [zot];split
   ·exact (zhO out _ c 0 s).trans (zou out rs r _)
   ·exact zou out rs r s
  | _=>exact zou out rs r s
def resV (TT:List TE) (s:ESt):ResultVar->Option EV
 | .tmp k=>s.get k
 | .cell k t=>match s.get k with
  | some (.ptr id 0)=>match s.ent id with
   | some (.box _ cs)=>match fT TT t with
    | some e=>bif e.ag then (match e.ty with
      | some u=>match zrC u cs with
       | some (y,[])=>bif cs.all EV.isD && u.agg then some (.d u y) else resA e cs
       | _=>resA e cs
      | none=>none) else (match cs with
      | [x]=>some x
      | _=>none)
    | none=>none
   | _=>none
  | _=>none
theorem zvs:∀ {cs:List EV} {ds:List D},cs.all EV.isD=true->zt7 (EV.avL cs) ds->EV.avL cs=ds.map .d
 | [],ds,_,h=>by have:ds=[]:=h;subst this;rfl
 | c::cs,[],_,h=>h.elim
 | c::cs,d::ds,hc,h=>by
  simp only [List.all_cons,Bool.and_eq_true] at hc;have a:(c.av = .d d\/(c.av = .nil/\∃ b,d = .sl b []))/\zt7 (EV.avL cs) ds:=h;rw [EV.avL,List.map_cons,zvs hc.2 a.2];rcases a.1 with h1 | ⟨h1,_⟩
  ·rw [h1]
  ·have:=hc.1;cases c<;>first | (simp [EV.isD] at this;done) | (simp [EV.av] at h1)
def mchR (TT:List TE) (tys:List Ty) (s:ESt):List ResultVar->List (Nat×SV)->Vs×Ids->List Nat->Option ((Vs×Ids)×List Nat)
 | [],[],a,nl=>some (a,nl)
 | rv::rs,(_,sv)::r,a,nl=>match resV TT s rv with
  | none=>none
  | some x=>match sv,x with
   | .own i,.nil=>mchR TT tys s rs r a (i::nl)
   | .v j,.nil=>match tys[j]? with
    | some (.list t)=>mchR TT tys s rs r ((j,.d (.list t) ([]:List t.den))::a.1,a.2) nl
    | _=>none
   | sv,x=>match mch sv x a with
    | some a=>mchR TT tys s rs r a nl
    | none=>none
 | _,_,_,_=>none
def datC (tys:List Ty) (i:Nat):List SV->Nat->ESt->ESt
 | [],_,s=>s
 | .v j::r,q,s=>match tys[j]? with
  | some (.list t)=>datC tys i r (q+1) (s.prep1 (i,q,none,t))
  | _=>datC tys i r (q+1) s
 | _::r,q,s=>datC tys i r (q+1) s
theorem zvQ (tys:List Ty) (i:Nat):∀ (l:List SV) (q:Nat) (s:ESt),Wk s (datC tys i l q s)
 | [],_,s=>Wk.refl s
 | sv::r,q,s=>by
  cases sv with
  | v j=>
   simp only [datC];split
   ·exact (zzi _ _).1.trans (zvQ tys i r (q+1) _)
   ·exact zvQ tys i r (q+1) s
  | _=>simp only [datC];exact zvQ tys i r (q+1) s
def datB (tys:List Ty):List (Nat×SE)->ESt->ESt
 | [],s=>s
 | (i,.box _ cs)::r,s=>bif Nat.ble LIM i then datB tys r (datC tys i cs 0 s) else datB tys r s
 | _::r,s=>datB tys r s
theorem zvP (tys:List Ty):∀ (l:List (Nat×SE)) (s:ESt),Wk s (datB tys l s)
 | [],s=>Wk.refl s
 | (i,se)::r,s=>by
  cases se with
  | box T cs=>
   simp only [datB];cases Nat.ble LIM i with
   | true=>exact (zvQ tys i cs 0 s).trans (zvP tys r _)
   | false=>exact zvP tys r s
  | _=>simp only [datB];exact zvP tys r s
def zDm (TT:List TE) (rs:List ResultVar) (out:Shape) (s:ESt):Option (Tup out.tys):=
 match mchR TT out.tys (zjs out.tys (zot out s rs out.slots) rs out.slots) rs out.slots ([],[]) [] with
 | none=>none
 | some (acc,nl)=>match mchN out.tys nl out.ents acc.1 with
  | none=>none
  | some (ents,vs)=>match mchE (zjs out.tys (zot out s rs out.slots) rs out.slots) ents (vs,acc.2++(out.ents.filter fun p=>Nat.ble LIM p.1).map fun p=>(p.1,p.1)) with
   | none=>none
   | some (vs,ids)=>match finV out.tys vs with
    | none=>none
    | some X=>
     bif (mpW (mpOf ids nl []) LIM && (mpOf ids nl []).all fun p=>match p.2 with | some o=>Nat.blt o LIM || !((znh out).contains o) | none=>true) && ((znh out).all (fun k=>Nat.blt k RB) && zcV (fams out.ents) && (zjs out.tys (zot out s rs out.slots) rs out.slots).low) && ids.all (fun p=>Nat.blt p.1 LIM || (Nat.beq p.1 p.2 && Nat.blt p.1 RB)) && nl.all (fun i=>(match look ids i with | none=>Nat.blt i LIM | some _=>false)) then some X else none
theorem zuv {P:Program} {TT:List TE} (C:TOK P TT) {s:ESt} {mp:List (Nat×Option Nat)} {r:ResultVar} {x:EV} {m:AV} {rs:List ResultVar} {xs:List AV} (h:resV TT s r=some x) (a:Cv mp x.av m) (o:zlS P mp s.st rs xs):zlS P mp s.st (r::rs) (m::xs):=by
 cases r with
 | tmp k=>exact ⟨⟨x.av,zf0 h,a⟩,o⟩
 | cell k t=>
  simp only [resV] at h;split at h
  ·rename_i id v;split at h
   ·rename_i T cs w;split at h
    ·rename_i e D;obtain ⟨p,rfl⟩:=zdf C D;cases n:e.ag with
     | true=>
      rw [n] at h;simp only [cond_true] at h;have agg:resA e cs=some x->zlS P mp s.st (.cell k e.id::rs) (m::xs):=fun h=>by
       unfold resA at h;have g:=(zad h).1;replace h:=(zad h).2
       cases h;have c:=p.ti;rw [n] at c;exact ⟨.inr (.inr ⟨id,T,EV.avL cs,e.size,e.bytes,e.z,zf0 v,zbw w,c,by rw [zhe];exact Nat.eq_of_beq_eq_true g,a⟩),o⟩
      split at h
      ·rename_i u E;split at h
       ·rename_i y F;cases g:cs.all EV.isD && u.agg with
        | false=>rw [g] at h;exact agg h
        | true=>
        rw [g,cond_true] at h;simp only [Bool.and_eq_true] at g;cases h;obtain ⟨l1,B,H⟩:=zh1 F;rw [List.append_nil] at B;subst B;obtain ⟨L,I,M,N⟩:=p.ty u E;have c:=p.ti;rw [n] at c;have z:m = .d (encD u y):=by
         rcases a with a | ⟨a,_⟩
         ·cases m with
          | d q=>simp only [EV.av,ren,Option.some.injEq] at a;exact a
          | own i=>simp only [EV.av,ren] at a;(repeat' split at a)<;>first | cases a | (cases b:(true && pinB i)<;>simp [b] at a)
          | ptr i k=>simp only [EV.av,ren] at a;(repeat' split at a)<;>first | cases a | (cases b:(true && pinB i)<;>simp [b] at a)
          | eptr i s j k=>simp only [EV.av,ren] at a;(repeat' split at a)<;>first | cases a | (cases b:(true && pinB i)<;>simp [b] at a)
          | view i s j k=>simp only [EV.av,ren] at a;(repeat' split at a)<;>first | cases a | (cases b:(true && pinB i)<;>simp [b] at a)
          | agg l=>simp only [EV.av,ren] at a;(repeat' split at a)<;>cases a
          | tup l=>simp only [EV.av,ren] at a;(repeat' split at a)<;>cases a
          | fn f l=>simp only [EV.av,ren] at a;(repeat' split at a)<;>cases a
          | _=>simp only [EV.av,ren] at a;cases a
         ·cases a
        refine ⟨.inr (.inl ⟨id,T,(encD u y).cells,u.sz,e.bytes,e.z,zf0 v,?_,by rw [<- I];exact c,zbg u y,?_⟩),o⟩
        ·rw [zbw w];simp only [EEnt.ent,zvs g.1 H];rfl
        ·rw [z,zfi g.2];rfl
       ·exact agg h
      ·cases h
     | false=>
      rw [n] at h;simp only [cond_false] at h;split at h
      ·cases h;obtain ⟨d,J,A⟩:=p.ti.un;exact ⟨.inl ⟨id,T,x.av,d,zf0 v,zbw w,J,by rw [A,n],a⟩,o⟩
      ·cases h
    ·cases h
   ·cases h
  ·cases h
theorem zqN {P:Program} {TT:List TE} (c:TOK P TT) {tys:List Ty} {s:ESt}:∀ {rs:List ResultVar} {l:List (Nat×SV)} {acc acc':Vs×Ids} {nl nl':List Nat},mchR TT tys s rs l acc nl=some (acc',nl')->
  Mono acc acc'/\(∀ i∈nl,i∈nl')/\∀ g mp,Agr acc' g true mp->(∀ i∈nl',look mp i=some none)->zlS P mp s.st rs (EV.avL (l.map fun p=>p.2.ev g id))
 | [],l,acc,acc',nl,nl',h=>by
  cases l with
  | nil=>
   simp only [mchR,Option.some.injEq,Prod.mk.injEq] at h;obtain ⟨rfl,rfl⟩:=h;exact ⟨Mono.refl _,fun _ h=>h,fun _ _ _ _=>rfl⟩
  | cons p l=>cases h
 | rv::rs,[],acc,acc',nl,nl',h=>by cases h
 | rv::rs,(k,sv)::r,acc,acc',nl,nl',h=>by
  simp only [mchR] at h;split at h
  ·cases h
  ·rename_i x m;split at h
   ·rename_i i;obtain ⟨a,e,f⟩:=zqN c h;refine ⟨a,fun i q=>e i (List.mem_cons_of_mem _ q),fun g mp b d => ?_⟩;have:=d i (e i (by simp));exact zuv c m (.inl (by simp only [SV.ev,id,EV.av,ren,zqL this])) (f g mp b d)
   ·rename_i j;split at h
    ·rename_i t z;obtain ⟨a,e,f⟩:=zqN c h;refine ⟨⟨fun p u=>a.vs p (List.mem_cons_of_mem _ u),a.ids⟩,e,fun g mp b d => ?_⟩;have o:=b.vs _ (a.vs (j,.d (.list t) ([]:List t.den)) (by simp));simp only at o;refine zuv c m (.inr ⟨rfl,t.bts,?_⟩) (f g mp b d);simp only [SV.ev,o];rfl
    ·cases h
   ·split at h
    ·rename_i n v;obtain ⟨w,y⟩:=zwo v;obtain ⟨a,e,f⟩:=zqN c h;exact ⟨w.trans a,e,fun g mp b d=>zuv c m (.inl (y g mp true (b.mono a))) (f g mp b d)⟩
    ·cases h
theorem zxT {P:Program} {TT:List TE} (hT:TOK P TT) {fn:Func} {out:Shape} {s:ESt} {Y:Tup out.tys} (h:zDm TT fn.results.toList out s=some Y):
  ∃ C,Wk s C/\zzB P fn (fun r h=>r=(retE (out.vals Y)).av/\h=hpSt (out.heap Y) (out.rws Y)) C.st:=by
 unfold zDm at h;have X:=(zou out fn.results.toList out.slots s).trans (zhp out.tys fn.results.toList out.slots (zot out s fn.results.toList out.slots));generalize hs1e:zjs out.tys (zot out s fn.results.toList out.slots) fn.results.toList out.slots=C at h X;split at h
 ·cases h
 ·rename_i W nl d;split at h
  ·cases h
  ·rename_i ents vs0 g;split at h
   ·cases h
   ·rename_i vs M h3;split at h
    ·cases h
    ·rename_i X' h4;have hb:=(zad h).1;replace h:=(zad h).2;cases h;simp only [Bool.and_eq_true] at hb;obtain ⟨⟨⟨⟨b,A⟩,⟨hnmR,hfn⟩,hlow1⟩,hids⟩,hnl⟩:=hb;generalize a4:mpOf M nl []=mp at b A;have J:zcV ((fams out.ents).map id)=true:=by rw [List.map_id];exact hfn
     have hnm:∀ k∈znh out,k < RB:=fun k hk=>by simpa using List.all_eq_true.1 hnmR k hk
     have hkR:∀ k q,look mp k=some q->k < RB:=fun k q c=>by have:=(zry b c).2;unfold LIM at this;unfold RB;omega
     have n:∀ i o,look mp i=some (some o)->LIM<=o->o∉znh out:=by
      intro i o h hL V;have:=List.all_eq_true.1 A (i,some o) (zaN h);simp only [Bool.or_eq_true,Bool.not_eq_true'] at this;rcases this with h | h
      ·have:o < LIM:=by simpa using h
       omega
      ·rw [List.contains_eq_mem] at h;simp [V] at h
     have Z:∀ o,o∉znh out->look (out.heap Y) o=none:=fun o D=>zd9 fun p l a=>by
      obtain ⟨p0,hp0,rfl⟩:=List.mem_map.1 l;exact D (List.mem_append.2 (.inl (List.mem_map.2 ⟨p0,hp0,a⟩)))
     have hrn:∀ o,o∉znh out->look (out.rws Y) o=none:=fun o D=>zd9 fun p l a=>by
      unfold Shape.rws zdY at l;obtain ⟨⟨i,se⟩,hp2,I⟩:=List.mem_filterMap.1 l;cases se with
      | arr=>cases I
      | box=>cases I
      | out f2 E2 E3 j2=>
       simp only [SE.rw] at I;split at I
       ·cases I;exact D (List.mem_append.2 (.inr (by rw [<- a];exact zqC hp2)))
       ·cases I
     have a0:∀ i o,lk mp i=some (some o)->pinB o=true->zgK (hpSt (out.heap Y) (out.rws Y)) o=none:=by
      intro i o H l;show hpSt (out.heap Y) (out.rws Y) o=none;rcases zkp H with d | ⟨_,_,o',g,h3'⟩
      ·have hn:=n i o d (znl l);have D:o < RB:=by
        simp only [mpW,Bool.and_eq_true] at b;exact zt4 b.2.2 d
       unfold hpSt;rw [Z o hn];simp only;unfold zbi;rw [if_neg (by omega)]
      ·cases h3';have a1:o' < RB:=by
        simp only [mpW,Bool.and_eq_true] at b;exact zt4 b.2.2 g
       have hL:LIM<=o':=by have:=zoy l;rw [ztw a1] at this;exact this
       have hn:=n _ o' g hL;have hge:=zdX o' (i / RB - 1);unfold hpSt;rw [Z _ (fun V=>by have:=hnm _ V;omega)];simp only;unfold zbi;rw [if_pos hge,ze1 a1,hrn o' hn]
     have j:=zqD h4;obtain ⟨m1,m2,m3⟩:=zqN (P:=P) hT d;obtain ⟨n1,n2⟩:=zkT g;have O:=zhs h3;have u:∀ i,LIM<=i->look mp i=none:=by
      intro i H;cases hl:look mp i with
      | none=>rfl
      | some q=>have:=(zry b hl).2;omega
     have a2:∀ i,LIM<=i->i < RB->lk mp i=none:=fun i d g=>by rw [ztZ g];exact u i d
     have m:∀ i o,look M i=some o->zvI true mp i o:=by
      intro i o D;by_cases H:i < LIM
      ·left;rw [<- a4];unfold mpOf;rw [zao,zi6 H,D];rfl
      ·right;have:=List.all_eq_true.1 hids (i,o) (zaN D);simp only [Bool.or_eq_true] at this;rcases this with h | h
       ·exact absurd (by simpa using h) H
       ·simp only [Bool.and_eq_true] at h;have g:i < RB:=by simpa using h.2
        exact ⟨rfl,zwz (by omega) g,(Nat.eq_of_beq_eq_true h.1).symm,a2 i (by omega) g⟩
     have w:∀ i∈nl,look mp i=some none:=by
      intro i H;have:=List.all_eq_true.1 hnl i H;split at this
      ·rename_i N;have hlt:i < LIM:=by simpa using this
       rw [<- a4];unfold mpOf;rw [zao,zi6 hlt,N,zao,zyh H];rfl
      ·cases this
     have Q:Agr (vs,M) (Tup.get out.tys Y) true mp:=⟨j,m⟩;have R:Agr W (Tup.get out.tys Y) true mp:=⟨fun p l=>j p (O.vs p (n1 p l)),fun i o D=>by
      refine m i o (O.ids i o ?_);show look (W.2++_) i=some o;rw [zao,D];rfl⟩
     have hS:=m3 _ mp R w;have hE:=zmw h3 _ true mp Q hkR;refine ⟨C,X,mp,EV.avL (out.vals Y),hpSt (out.heap Y) (out.rws Y),⟨b,a0⟩,hS,fun i e' a => ?_,by rw [zyD],rfl⟩;have L:∀ o e,C.ent o=some e->C.st.ent o=some (e.ent C.rws):=fun o e h=>zbw h
     unfold hpSt at a;split at a
     ·rename_i v hA;obtain ⟨p,l,hpe⟩:=zfB hA;obtain ⟨a5,B⟩:=Prod.mk.inj hpe;simp only [id] at a5;subst a5;cases v with
      | none=>cases a
      | some ee=>
       simp only [Option.map_some,Option.some.injEq] at a;subst a;rcases n2 p l with hp' | ⟨hin,⟨E,jj,t,hpa,hsz,hv⟩ | ⟨f,E,E1,jj,t,hpa,hv⟩⟩
       ·obtain ⟨o,e,e',g1,g2,g3,g4⟩:=hE p hp';rw [B] at g3;cases g3;have g5:=g4 (out.rws Y) fun f E E1 jj f' hpo hf=>by
         obtain ⟨pi,pse⟩:=p;cases hpo;obtain ⟨_,f2,t2,ls2,_,_,k3,k4,k5,k6,k7⟩:=ziu h3 hp';rw [hf] at k3;cases k3;have d:=j _ k5;simp only at d;have y:=ziA (ρ:=id) J (znf g _ hp') d;simp only [id] at y;unfold rlen Shape.rws;rw [y,k4]
        unfold zrt;rcases m _ _ g1 with h | ⟨_,d,rfl,g⟩
        ·rw [zqL h];exact ⟨_,L _ _ g2,g5⟩
        ·rw [g];exact ⟨d,_,L _ _ g2,g5⟩
       ·have F:=j _ (O.vs _ hv);simp only at F;rw [hpa,SE.ee,F] at B;cases B;unfold zrt;rw [zqL (w _ hin)];exact .inl ⟨E,t.sz,t.bts,rfl,hsz⟩
       ·have F:=j _ (O.vs _ hv);simp only at F;rw [hpa,SE.ee,F] at B;cases B;unfold zrt;rw [zqL (w _ hin)];refine .inr ⟨E,24,?_⟩;obtain ⟨pi,pse⟩:=p;simp only at hpa;subst hpa;have y:=ziA (ρ:=id) J l F;simp only [id] at y;have O:rlen (out.rws Y) f=0:=by
         unfold rlen Shape.rws;rw [y];rfl
        show EEnt.ent (out.rws Y) (.out f E)=_;simp only [EEnt.ent,O];rfl
     ·have z:=zq9 a;obtain ⟨rE,rt,rl,a6⟩:=zpj a;unfold zbi at a;rw [if_pos z] at a;have a3:LIM<=i:=by unfold RB at z;unfold LIM;omega
      split at a
      ·rename_i r I;have V:=zaN I;unfold Shape.rws zdY at V;obtain ⟨⟨i2,se⟩,l,c⟩:=List.mem_filterMap.1 V;cases se with
       | arr=>cases c
       | box=>cases c
       | out f E E1 jj=>
        have hff:f=i % RB:=by
         simp only [SE.rw] at c;split at c
         ·cases c;rfl
         ·cases c
        rcases n2 _ l with hp' | ⟨_,⟨E',j',t,hpa,_⟩ | ⟨f3,E3,E4,j3,t,hpa,hv⟩⟩
        ·obtain ⟨o,f',t,ls,g1,g2,g3,g4,g5,g6,g7⟩:=ziu h3 hp';have d:=j _ g5;simp only at d;simp only [SE.rw,d,id,Option.some.injEq,Prod.mk.injEq] at c;obtain ⟨_,c⟩:=c;cases c;subst hff;have S:zbi C.rws (rid f' (i / RB - 1))=some e':=by
          unfold zbi;rw [if_pos (zdX _ _),ze1 g7,g4];simp only;rw [zjU g7];exact a
         have T:C.st.ent (rid f' (i / RB - 1))=some e':=by rw [zoI hlow1 (zdX _ _)];exact S
         have U:i=rid (i % RB) (i / RB - 1):=zoH z;unfold zrt;rcases m _ _ g3 with h | ⟨_,d,rfl,g⟩
         ·have:=zt0 (mp:=mp) (x:=i / RB - 1) g6 (by rw [<- U];exact u i a3) h;rw [<- U] at this;rw [this];exact ⟨e',T,by subst a6;rfl⟩
         ·have N:lk mp i=none:=by
           rw [ztZ g6] at g;unfold lk;rw [u i a3];simp only;rw [if_pos z,g]
          rw [N];refine ⟨zqU.2 (by unfold bs;rw [if_pos z];exact znl d),e',?_,by subst a6;rfl⟩;rw [<- U] at T;exact T
        ·cases hpa
        ·cases hpa;have F:=j _ (O.vs _ hv);simp only at F;simp only [SE.rw,F,id,Option.some.injEq,Prod.mk.injEq] at c;obtain ⟨_,c⟩:=c;cases c;exfalso;unfold RW.ent at a;simp at a
      ·cases a
def capR (TT:List TE) (rs:List ResultVar) (out:Shape) (s:ESt):Option (Tup out.tys):=zDm TT rs out (datB out.tys out.ents s)
theorem zo2 {P:Program} {TT:List TE} (b:TOK P TT) {fn:Func} {out:Shape} {s:ESt} {Y:Tup out.tys} (h:capR TT fn.results.toList out s=some Y):
  ∃ a,Wk s a/\zzB P fn (fun r h=>r=(retE (out.vals Y)).av/\h=hpSt (out.heap Y) (out.rws Y)) a.st:=by
 obtain ⟨a,c,d⟩:=zxT b h;exact ⟨a,(zvP out.tys out.ents s).trans c,d⟩
noncomputable def evF (TT:List TE) (Γ:List CE) (A:Ann) (n:Nat) (rs:List ResultVar) (a:Code) (sig out:Shape) (X:Tup sig.tys):Option (Tup out.tys):=
 evC TT Γ [] 0 (both out.tys) A a (zsF n sig X) fun e s=>match e with
  | .normal=>capR TT rs out s
  | .ret=>capR TT rs out s
  | _=>none
theorem ztM {P:Program} (l:P.follows .mixedOrders=true) {TT:List TE} {Γ:List CE} (g:TOK P TT) (m:GOK P Γ) {A:Ann} {f:Nat} {fn:Func} {b:Code} {n:Nat} (o:P.funcs[f]? =some fn) (p:fn.body=some b) (q:fn.ntmps=n) {sig out:Shape} (d:Nat.ble sig.slots.length n=true)
  {X:Tup sig.tys} {Y:Tup out.tys} (h:evF TT Γ A n fn.results.toList b sig out X=some Y):
  Fc P f (EV.avL (sig.vals X)) (hpSt (sig.heap X) (sig.rws X)) (fun r h=>r=(retE (out.vals Y)).av/\h=hpSt (out.heap Y) (out.rws Y)):=by
 refine Fc.of_body o p q (by rw [zhe];unfold Shape.vals;rw [List.length_map];simpa using d) fun F => ?_
 intro a w r;refine wp_mono (zdV l g m (Γp:=[]) (T:=0) (fun _ h=>by cases h) (zxQ out.tys) b (zsF n sig X) _ h a w ((zpk n sig X).rel r)) fun e a' w' ⟨σ',hp,hr⟩ => ?_
 obtain ⟨s,rfl,t,i⟩:=hp;cases e with
 | normal=>
  obtain ⟨j,k,c⟩:=zo2 (P:=P) g i;exact ⟨j.st,c,k.rel F a' w' hr⟩
 | ret=>
  obtain ⟨j,k,c⟩:=zo2 (P:=P) g i;exact ⟨j.st,c,k.rel F a' w' hr⟩
 | _=>cases i
theorem CE.of {P:Program} (hm:P.follows .mixedOrders=true) {TT:List TE} {Γ:List CE} (hT:TOK P TT) (hG:GOK P Γ) (A:Ann) {f:Nat} {fn:Func} {body:Code} {n:Nat} (hf:P.funcs[f]? =some fn) (hb:fn.body=some body) (hn:fn.ntmps=n) {rs:List ResultVar} (hrs:fn.results.toList=rs) {sig out:Shape} (hlen:Nat.ble sig.slots.length n=true)
  (hcall:∀ (as:Array Value) (w:World),(callFunc f as).run P w = .ok (.enter f as) w)
  {den:Tup sig.tys->Option (Tup out.tys)} (h:∀ X,evF TT Γ A n rs body sig out X=den X):CE.ok P ⟨f,sig,out,den⟩ where
 call:=hcall
 fc X Y hXY:=ztM hm hT hG hf hb hn hlen (by rw [hrs,h X];exact hXY)
theorem CE.ofRec {P:Program} (hm:P.follows .mixedOrders=true) {TT:List TE} {Γ:List CE} (hT:TOK P TT) (hG:GOK P Γ) (A:Ann) {f:Nat} {fn:Func} {body:Code} {n:Nat} (hf:P.funcs[f]? =some fn) (hb:fn.body=some body) (hn:fn.ntmps=n) {rs:List ResultVar} (hrs:fn.results.toList=rs) {sig out:Shape} (hlen:Nat.ble sig.slots.length n=true)
  (hcall:∀ (as:Array Value) (w:World),(callFunc f as).run P w = .ok (.enter f as) w)
  {d:(Tup sig.tys->Option (Tup out.tys))->Tup sig.tys->Option (Tup out.tys)} (h:∀ rc X,evF TT (⟨f,sig,out,rc⟩::Γ) A n rs body sig out X=d rc X):CE.ok P ⟨f,sig,out,LFix d⟩ where
 call:=hcall
 fc:=by
  have key:∀ k X Y,iter d k X=some Y->Fc P f (EV.avL (sig.vals X)) (hpSt (sig.heap X) (sig.rws X)) (fun r h=>r=(retE (out.vals Y)).av/\h=hpSt (out.heap Y) (out.rws Y)):=by
   intro k;induction k with
   | zero=>intro X Y h;cases h
   | succ k ih=>
    intro X Y hXY;refine ztM hm hT (Γ:=⟨f,sig,out,iter d k⟩::Γ) (A:=A) ?_ hf hb hn hlen (by rw [hrs,h];exact hXY);intro c hc;rcases List.mem_cons.1 hc with rfl | hc
    ·exact ⟨hcall,ih⟩
    ·exact hG c hc
  intro X Y hXY;obtain ⟨k,hk⟩:=zho hXY;exact key k X Y hk
theorem CE.ofRecM {P:Program} (hm:P.follows .mixedOrders=true) {TT:List TE} (hT:TOK P TT) (A:Ann) {f:Nat} {fn:Func} {body:Code} {n:Nat} (hf:P.funcs[f]? =some fn) (hb:fn.body=some body) (hn:fn.ntmps=n) {rs:List ResultVar} (hrs:fn.results.toList=rs) {sig out:Shape} (hlen:Nat.ble sig.slots.length n=true)
  {Γ:(Tup sig.tys->Option (Tup out.tys))->List CE} (hG:∀ rc,CE.ok P ⟨f,sig,out,rc⟩->GOK P (Γ rc))
  (hcall:∀ (as:Array Value) (w:World),(callFunc f as).run P w = .ok (.enter f as) w)
  {d:(Tup sig.tys->Option (Tup out.tys))->Tup sig.tys->Option (Tup out.tys)} (h:∀ rc X,evF TT (⟨f,sig,out,rc⟩::Γ rc) A n rs body sig out X=d rc X):CE.ok P ⟨f,sig,out,LFix d⟩ where
 call:=hcall
 fc:=by
  have key:∀ k X Y,iter d k X=some Y->Fc P f (EV.avL (sig.vals X)) (hpSt (sig.heap X) (sig.rws X)) (fun r h=>r=(retE (out.vals Y)).av/\h=hpSt (out.heap Y) (out.rws Y)):=by
   intro k;induction k with
   | zero=>intro X Y h;cases h
   | succ k ih=>
    intro X Y hXY;refine ztM hm hT (Γ:=⟨f,sig,out,iter d k⟩::Γ (iter d k)) (A:=A) ?_ hf hb hn hlen (by rw [hrs,h];exact hXY);have hk:CE.ok P ⟨f,sig,out,iter d k⟩:=⟨hcall,ih⟩;intro c hc;rcases List.mem_cons.1 hc with rfl | hc
    ·exact hk
    ·exact hG _ hk c hc
  intro X Y hXY;obtain ⟨k,hk⟩:=zho hXY;exact key k X Y hk
open Classical in
noncomputable def zuO {B:Type} (a b:Option B):Option B:=if a=b then a else none
theorem zvO {B:Type}:Both (zuO (B:=B)):=by
 refine ⟨fun {a b q} h => ?_,fun {a b q} h => ?_⟩
 ·unfold zuO at h;split at h
  ·exact h
  ·cases h
 ·unfold zuO at h;split at h
  ·rename_i e;rw [<- e];exact h
  ·cases h
theorem zzF {B:Type} (a:Option B):zuO a a=a:=by unfold zuO;rw [if_pos rfl]
noncomputable def evFp (TT:List TE) (Γ:List CE) (Γp:List CEp) (T:Nat) (A:Ann) (n:Nat) (rs:List ResultVar) (a:Code) (sig out:Shape) (X:Tup sig.tys):Option (Tup out.tys⊕(Int×Int)):=
 evC TT Γ Γp T zuO A a (zsF n sig X) fun e s=>match e with
  | .normal=>(capR TT rs out s).map .inl
  | .ret=>(capR TT rs out s).map .inl
  | .panic b=>(dec T b).map .inr
  | _=>none
theorem FcP.of_body {P:Program} {f:FuncId} {args:List AV} {h:Hp} {T:Nat} {p:Int×Int} {fn:Func} {c:Code} {n:Nat} (s:P.funcs[f]? =some fn) (t:fn.body=some c) (D:fn.ntmps=n) (o:args.length<=n)
  (a:∀ F:Fr,AW P F c (St.start n args h) (fun e _=>e = .panic (pch T p))):FcP P f args h T p:=by
 intro w X H vs y i l z g
 let F:Fr:={ w:=w,O:=zml h H,X:=X,H0:=H }
 refine calls_of_wp s t ?_;have m:(vs++Array.replicate (fn.ntmps - vs.size) undef).size=n:=by simp;omega
 have A:RelH F (St.start n args h) H { tmps:=vs++Array.replicate (fn.ntmps - vs.size) undef,defers:=[] } w:={
  size:=m,defs:=rfl,os:=rfl,tape:=rfl,output:=rfl,grow:=Nat.le_refl _,keep:=fun _ _ _=>rfl,xlt:=y
  fresh:=fun id _ d=>i id d
  pin:=fun _ _=>rfl
  ent:=by unfold St.start;rw [zkO];exact l.ent
  own:=by unfold St.start;rw [zkO];exact fun id e v b q d j=>⟨.inr ⟨id,e,v,q,d,j⟩,l.own id e v b q d j⟩
  inj:=by unfold St.start;rw [zkO];exact l.inj
  slot:=fun k x u=>by
   obtain ⟨_,d⟩:=zlD args 0 k x u;have B:k < args.length:=(List.getElem?_eq_some_iff.1 (by simpa using d)).1;have:=g k B;have j:args.getD k default=x:=by
    rw [List.getD_eq_getElem?_getD];have:args[k]? =some x:=by simpa using d
    rw [this];rfl
   rw [j] at this;have C:(vs++Array.replicate (fn.ntmps - vs.size) undef).getD k undef=vs.getD k undef:=by
    have:k < vs.size:=by omega
    simp [Array.getElem?_append_left this]
   show VRel w _ H x ((vs++Array.replicate (fn.ntmps - vs.size) undef).getD k undef);unfold St.start;rw [C,zkO];exact this }
 refine wp_mono (a F _ w ⟨H,A⟩) ?_;rintro e a' w' ⟨σ',rfl,H',r⟩;exact ⟨r.defs,rfl,⟨r.os,r.tape,r.output,r.grow⟩,r.keep⟩
theorem zo5 {P:Program} (o:P.follows .mixedOrders=true) {TT:List TE} {Γ:List CE} {Γp:List CEp} {T:Nat} (k:TOK P TT) (q:GOK P Γ) (d:GPOK P T Γp) {A:Ann} {f:Nat} {fn:Func} {b:Code} {n:Nat} (s:P.funcs[f]? =some fn) (t:fn.body=some b) (u:fn.ntmps=n) {sig out:Shape} (g:Nat.ble sig.slots.length n=true)
  {X:Tup sig.tys}:(∀ Y,evFp TT Γ Γp T A n fn.results.toList b sig out X=some (.inl Y)->Fc P f (EV.avL (sig.vals X)) (hpSt (sig.heap X) (sig.rws X)) (fun r h=>r=(retE (out.vals Y)).av/\h=hpSt (out.heap Y) (out.rws Y)))/\
   ∀ p,evFp TT Γ Γp T A n fn.results.toList b sig out X=some (.inr p)->FcP P f (EV.avL (sig.vals X)) (hpSt (sig.heap X) (sig.rws X)) T p:=by
 have i:(EV.avL (sig.vals X)).length<=n:=by rw [zhe];unfold Shape.vals;rw [List.length_map];simpa using g
 constructor
 ·intro Y h;refine Fc.of_body s t u i fun F => ?_
  intro a w r;refine wp_mono (zdV o k q d zvO b (zsF n sig X) _ h a w ((zpk n sig X).rel r)) fun e a' w' ⟨σ',hp,hr⟩ => ?_
  obtain ⟨l,rfl,v,c⟩:=hp;have fin:(capR TT fn.results.toList out l).map (Sum.inl (β:=Int×Int))=some (.inl Y)->∃ σ',zzB P fn (fun r h=>r=(retE (out.vals Y)).av/\h=hpSt (out.heap Y) (out.rws Y)) σ'/\Rel F σ' a' w':=fun c=>by
   obtain ⟨C,x,e⟩:=Option.map_eq_some_iff.1 c;cases e;obtain ⟨y,z,j⟩:=zo2 (P:=P) k x;exact ⟨y.st,j,z.rel F a' w' hr⟩
  cases e with
  | normal=>exact fin c
  | ret=>exact fin c
  | panic B=>
   obtain ⟨p,_,e⟩:=Option.map_eq_some_iff.1 c;cases e
  | _=>cases c
 ·intro p h;refine FcP.of_body s t u i fun F => ?_
  intro a w r;refine wp_mono (zdV o k q d zvO b (zsF n sig X) _ h a w ((zpk n sig X).rel r)) fun e a' w' ⟨σ',hp,hr⟩ => ?_
  obtain ⟨l,rfl,v,c⟩:=hp;cases e with
  | normal=>obtain ⟨_,_,e⟩:=Option.map_eq_some_iff.1 c;cases e
  | ret=>obtain ⟨_,_,e⟩:=Option.map_eq_some_iff.1 c;cases e
  | panic B=>
   obtain ⟨D,m,e⟩:=Option.map_eq_some_iff.1 c;cases e;exact ⟨l.st,congrArg Exit.panic (zAJ m),hr⟩
  | _=>cases c
theorem CEp.of {P:Program} (hm:P.follows .mixedOrders=true) {TT:List TE} {Γ:List CE} {Γp:List CEp} {T:Nat} (hT:TOK P TT) (hG:GOK P Γ) (hGp:GPOK P T Γp) (A:Ann) {f:Nat} {fn:Func} {body:Code} {n:Nat} (hf:P.funcs[f]? =some fn) (hb:fn.body=some body) (hn:fn.ntmps=n) {rs:List ResultVar} (hrs:fn.results.toList=rs) {sig out:Shape} (hlen:Nat.ble sig.slots.length n=true)
  (hcall:∀ (as:Array Value) (w:World),(callFunc f as).run P w = .ok (.enter f as) w)
  {den:Tup sig.tys->Option (Tup out.tys⊕(Int×Int))} (h:∀ X,evFp TT Γ Γp T A n rs body sig out X=den X):CEp.ok P T ⟨f,sig,out,den⟩ where
 call:=hcall
 fc X Y hXY:=(zo5 hm hT hG hGp hf hb hn hlen).1 Y (by rw [hrs,h X];exact hXY)
 fp X p hXp:=(zo5 hm hT hG hGp hf hb hn hlen).2 p (by rw [hrs,h X];exact hXp)
theorem CEp.ofRec {P:Program} (s:P.follows .mixedOrders=true) {TT:List TE} {Γ:List CE} {T:Nat} (t:TOK P TT) (u:GOK P Γ) (A:Ann) {f:Nat} {fn:Func} {b:Code} {n:Nat} (v:P.funcs[f]? =some fn) (x:fn.body=some b) (y:fn.ntmps=n) {rs:List ResultVar} (l:fn.results.toList=rs) {sig out:Shape} (e:Nat.ble sig.slots.length n=true)
  {Γp:(Tup sig.tys->Option (Tup out.tys⊕(Int×Int)))->List CEp} (o:∀ j,CEp.ok P T ⟨f,sig,out,j⟩->GPOK P T (Γp j))
  (a:∀ (as:Array Value) (w:World),(callFunc f as).run P w = .ok (.enter f as) w)
  {d:(Tup sig.tys->Option (Tup out.tys⊕(Int×Int)))->Tup sig.tys->Option (Tup out.tys⊕(Int×Int))} (h:∀ j X,evFp TT Γ (⟨f,sig,out,j⟩::Γp j) T A n rs b sig out X=d j X):CEp.ok P T ⟨f,sig,out,LFix d⟩:=by
 have m:∀ k,CEp.ok P T ⟨f,sig,out,iter d k⟩:=by
  intro k;induction k with
  | zero=>exact ⟨a,fun X Y h=>(by cases h),fun X p h=>(by cases h)⟩
  | succ k B=>
   have z:GPOK P T (⟨f,sig,out,iter d k⟩::Γp (iter d k)):=fun c q=>by
    rcases List.mem_cons.1 q with rfl | q
    ·exact B
    ·exact o _ B c q
   refine ⟨a,fun X Y g => ?_,fun X p i => ?_⟩
   ·exact (zo5 s t u z (A:=A) v x y e).1 Y (by rw [l,h];exact g)
   ·exact (zo5 s t u z (A:=A) v x y e).2 p (by rw [l,h];exact i)
 refine ⟨a,fun X Y g => ?_,fun X p i => ?_⟩
 ·obtain ⟨k,r⟩:=zho g;exact (m k).fc X Y r
 ·obtain ⟨k,r⟩:=zho i;exact (m k).fp X p r
theorem GPOK.nil {P:Program} {T:Nat}:GPOK P T []:=fun _ h=>by cases h
theorem GPOK.cons {P:Program} {T:Nat} {c:CEp} {Γ:List CEp} (h:c.ok P T) (k:GPOK P T Γ):GPOK P T (c::Γ):=fun a h'=>by
 rcases List.mem_cons.1 h' with rfl | h'
 ·exact h
 ·exact k a h'
theorem GOK.nil {P:Program}:GOK P []:=fun _ h=>by cases h
theorem GOK.cons {P:Program} {c:CE} {Γ:List CE} (h:c.ok P) (k:GOK P Γ):GOK P (c::Γ):=fun a h'=>by
 rcases List.mem_cons.1 h' with rfl | h'
 ·exact h
 ·exact k a h'
end
end Go.Ab
