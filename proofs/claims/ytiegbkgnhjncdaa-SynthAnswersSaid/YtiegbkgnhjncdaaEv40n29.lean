import Derived.Test.YtiegbkgnhjncdaaEv40n23
set_option linter.unusedVariables false
set_option linter.unusedSimpArgs false
set_option linter.unusedSectionVars false
namespace Go.Ab
noncomputable section
set_option linter.unusedVariables false
variable {R:Type}
def pch (T:Nat) (p:Int×Int):List PanicEntry:=[{ v := .iface T (.agg #[.int .i64 p.1,.int .i64 p.2]),recovered:=false }]
def FcP (P:Program) (f:FuncId) (args:List AV) (h:Hp) (T:Nat) (p:Int×Int):Prop:=
  ∀ (w:World) (X:Nat->Prop) (H:Hd) (vs:Array Value),(∀ b,X b->b < w.heap.size)->(∀ id,bs id < LIM->H id=none)->HOK X h H w->vs.size=args.length->
    (∀ i,i < args.length->VRel w (Sh X (zfI h) H w) H (args.getD i default) (vs.getD i undef))->
    Calls P f vs w (fun e w'=>e = .panicked (pch T p)/\
      (w'.os=w.os/\w'.tape=w.tape/\w'.output=w.output/\w.heap.size<=w'.heap.size)/\(∀ b,b < w.heap.size -> ¬ zpl h H b->w'.heap[b]? =w.heap[b]?))
structure CEp where
  f:Nat
  sig:Shape
  out:Shape
  den:Tup sig.tys->Option (Tup out.tys⊕(Int×Int))
structure CEp.ok (P:Program) (T:Nat) (c:CEp):Prop where
  call:∀ (as:Array Value) (w:World),(callFunc c.f as).run P w = .ok (.enter c.f as) w
  fc:∀ X Y,c.den X=some (.inl Y)->Fc P c.f (EV.avL (c.sig.vals X)) (hpSt (c.sig.heap X) (c.sig.rws X)) (fun r h=>r=(retE (c.out.vals Y)).av/\h=hpSt (c.out.heap Y) (c.out.rws Y))
  fp:∀ X p,c.den X=some (.inr p)->FcP P c.f (EV.avL (c.sig.vals X)) (hpSt (c.sig.heap X) (c.sig.rws X)) T p
def GPOK (P:Program) (T:Nat) (Γ:List CEp):Prop:=∀ c∈Γ,c.ok P T
def pbind {A B:Type} (o:Option (A⊕(Int×Int))) (k:A->Option B) (kp:Int×Int->Option B):Option B:=match o with
  | some (.inl y)=>k y
  | some (.inr p)=>kp p
  | none=>none
def zzP (TT:List TE) (Γ:List CE) (Γp:List CEp) (T:Nat) (bo:Option R->Option R->Option R) (ops:Array Oper) (K:ESt->Option R) (KP:Int×Int->ESt->Option R):List (Nat×Nat)->ESt->Option R:=fun _ s=>bif Nat.beq s.n 0 && Nat.beq s.n 1 then K s else none
section
variable {P:Program} {TT:List TE} {Γ:List CE} {Γp:List CEp} {T:Nat} {bo:Option R->Option R->Option R} {F:Fr} {ops:Array Oper} {q:R} {K:ESt->Option R} {KP:Int×Int->ESt->Option R} {s:ESt} {o:Oper}
def QP (T:Nat) (F:Fr) (s:ESt) (K:ESt->Option R) (KP:Int×Int->ESt->Option R) (q:R):Exit->Act->World->Prop:=fun e a w=>
  (e = .normal/\∃ b,Sfx s b/\K b=some q/\Rel F b.st a w)\/∃ p b,e = .panic (pch T p)/\Sfx s b/\KP p b=some q/\Rel F b.st a w
theorem zvw (e:TOK P TT) (f:GOK P Γ) (c:GPOK P T Γp) (d:Both bo):∀ (l:List (Nat×Nat)) (s:ESt),zzP TT Γ Γp T bo ops K KP l s=some q->∀ (a:Act) (w:World),Rel F s.st a w->wpOps P ops (QP T F s K KP q) (l.map (·.2)) a w:=fun l s h=>by unfold zzP at h;obtain ⟨b,j⟩:=zac h;simp only [Bool.and_eq_true] at b;have g:=Nat.eq_of_beq_eq_true b.1;have i:=Nat.eq_of_beq_eq_true b.2;omega
end
def evPP (TT:List TE) (Γ:List CE) (Γp:List CEp) (T:Nat) (bo:Option R->Option R->Option R) (ops:Array Oper) (K:ESt->Option R) (KP:Int×Int->Option R):OP->List Pn->Nat->Array Bool->ESt->Option R:=fun _ _ _ _ s=>bif Nat.beq s.n 0 && Nat.beq s.n 1 then K s else none
def ESt.blank (s:ESt):ESt:=⟨s.n,(s.slots.map fun p=>(p.1,EV.any))++s.slots,(s.heap.map fun p=>(p.1,none))++s.heap,s.nxt,(s.rws.map fun p=>(p.1,none))++s.rws⟩
theorem Sfx.blank (s:ESt):Sfx s s.blank:=⟨⟨_,rfl⟩,⟨_,rfl⟩,⟨_,rfl⟩,Nat.le_refl _,rfl⟩
def QPP (T:Nat) (F:Fr) (s0 s:ESt) (K:ESt->Option R) (KP:Int×Int->Option R) (q:R):Exit->Act->World->Prop:=fun e a w=>
  QK F s K q e a w\/∃ p,e = .panic (pch T p)/\KP p=some q/\Rel F s0.blank.st a w
section
variable {P:Program} {TT:List TE} {Γ:List CE} {Γp:List CEp} {T:Nat} {bo:Option R->Option R->Option R} {F:Fr} {ops:Array Oper} {q:R} {K:ESt->Option R} {KP:Int×Int->Option R}
theorem zyv (e:Region.noSelect ops=true) (o:TOK P TT) (r:GOK P Γ) (f:GPOK P T Γp) (g:Both bo) {s0:ESt}:∀ (t:OP),
    (∀ (F:Fr) (LC:List (Pn×PD)) (n:Nat) (b:Array Bool) (s:ESt) (a:Act) (w:World),t.cov ops b=true->s.n=s0.n->evPP TT Γ Γp T bo ops K KP t (LC.map (·.1)) n b s=some q->Rel F s.st a w->(∀ c∈LC,PInv P F ops c.1 c.2 a w)->zfY P ops (QPP T F s0 s K KP q) n (LC.map (·.2)) b a w)/\
    (∀ (F:Fr) (LC:List (Pn×PD)) (n:Nat) (b:Array Bool) (s:ESt) (a:Act) (w:World),s.n=s0.n->evPP TT Γ Γp T bo ops K KP t (LC.map (·.1)) (n+1) b s=some q->Rel F s.st a w->(∀ c∈LC,PInv P F ops c.1 c.2 a w)->∀ i∈t.alts,
      wpOp P ops (QPP T F s0 s K KP q) i (fun j w'=>(∀ p∈LC.map (·.2),p.W i=false->p.J w')/\zfY P ops (QPP T F s0 s K KP q) n ((LC.map (·.2)).filter fun p => !p.W i) (b.setIfInBounds i true) j w') a w):=fun t=>⟨fun F LC n b s a w _ _ h=>(by unfold evPP at h;obtain ⟨d,m⟩:=zac h;simp only [Bool.and_eq_true] at d;have k:=Nat.eq_of_beq_eq_true d.1;have l:=Nat.eq_of_beq_eq_true d.2;omega),fun F LC n b s a w _ h=>(by unfold evPP at h;obtain ⟨d,m⟩:=zac h;simp only [Bool.and_eq_true] at d;have k:=Nat.eq_of_beq_eq_true d.1;have l:=Nat.eq_of_beq_eq_true d.2;omega)⟩
end
end
end Go.Ab
