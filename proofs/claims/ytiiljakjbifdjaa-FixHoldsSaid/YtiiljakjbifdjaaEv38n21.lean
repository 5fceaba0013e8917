import Derived.Test.YtiiljakjbifdjaaEv38n20
import Derived.Test.YtiiljakjbifdjaaAb24n14
import Derived.Test.YtiiljakjbifdjaaAb24n16
import Derived.Lib.Bytealg
import Derived.LoopTactic
import Derived.Lib.OthersKept
import Derived.Below
import Derived.RangeFuncBox
import Derived.RangeFuncLeaves
import Derived.RangeFuncWrites
import Derived.OwnWalkIn
import Derived.TacticsInMore
import Derived.LoopNIn
import Derived.LoopIn
set_option linter.unusedVariables false
set_option linter.unusedSimpArgs false
set_option linter.unusedSectionVars false
namespace Go.Ab
noncomputable section
theorem zg3 {R:Type} {p:Prop} [Decidable p] {a b x:R} (h1:p->a=x) (h2 : ¬ p->b=x):(if decide p=true then a else b)=x:=by
 by_cases h:p
 ·rw [if_pos (decide_eq_true h)];exact h1 h
 ·rw [if_neg (by simpa using h)];exact h2 h
theorem zwr {R:Type} {p:Prop} [Decidable p] {a b x:R} (h1:p->a=x) (h2 : ¬ p->b=x):(if p then a else b)=x:=by
 by_cases h:p
 ·rw [if_pos h];exact h1 h
 ·rw [if_neg h];exact h2 h
theorem zwq {R:Type} {t:Bool} {a b x:R} (h1:t=true->a=x) (h2:t=false->b=x):(if t=true then a else b)=x:=by
 cases t
 ·exact h2 rfl
 ·exact h1 rfl
theorem zen {R:Type} {a b x:R} (h:a=x):(if true=true then a else b)=x:=h
theorem zem {R:Type} {a b x:R} (h:b=x):(if false=true then a else b)=x:=h
theorem G_to {R:Type} {c:Prop} [Decidable c] {k x:Option R} (h:c) (h2:k=x):G c k=x:=(if_pos h).trans h2
theorem zgN {A B:Type} {o:Option A} {f:A->Option B} {x:Option B} {y:A} (h:o=some y) (h2:f y=x):o.bind f=x:=by rw [h];exact h2
theorem zaT {x:Int} (h : -9223372036854775808<=x) (h2:x<=9223372036854775807):fits x:=⟨h,h2⟩
theorem zhI {α:Type} {xs ys:List α} {b:Nat} (h:(xs.length+ys.length) * b<=140737488355328):room xs ys b:=h
section
variable {α:Type} [Inhabited α]
theorem zv8 {l:List α}:cut l 0 (l.length:Int)=l:=by simp [cut]
end
structure Spl (S:Nat->Prop) (w wr:World):Prop where
 o:wr.os=w.os/\wr.tape=w.tape/\wr.output=w.output/\wr.heap.size=w.heap.size
 k:∀ b,¬ S b->wr.heap[b]? =w.heap[b]?
 c:∀ (b:Nat) (cur:Array Value) (E:Nat),w.heap[b]? =some (.cells cur E (0,0))->∃ cur':Array Value,wr.heap[b]? =some (.cells cur' E (0,0))/\cur'.size=cur.size
section
open Go.RowKit (Below)
structure Bk (T N:Nat) (A B:World):Prop where
 size:A.heap.size<=B.heap.size
 block:∀ k,k < N->k≠T->B.heap[k]? =A.heap[k]?
end
end
section
open Go.RowKit (Below)
def RPost (P:Program) (l:Nat) (R:Ending->World->Prop) (e:Exit) (a:Act) (w:World):Prop:=
 (∃ jump,(match e with | .normal=>jump=none | .ret=>jump=some .ret | .exit id=>jump=some (.exit id) | _=>False)/\∃ v w',(Instr.endRound l jump).run P w = .ok v w'/\R (.returned v) w')\/∃ ch,e = .panic ch/\a.defers=[]/\R (.panicked ch) w
theorem zxM {F:Fence} {n:Nat} {P:Program} {l:Nat} {f:FuncId} {tmps:Array Value} {assign body:Code} {w:World} {R:Ending->World->Prop} (hF:F.fn f) (hf:∃ fn,P.funcs[f]? =some fn)
  (h:assign.wpIn (F.inRound l) n P (fun e a₁ w₁=>e = .normal/\∃ w₂,(Instr.beginRound l).run P w₁ = .ok () w₂/\body.wpIn (F.inRound l) n P (RPost P l R) a₁ w₂) { tmps:=tmps,defers:=[] } w):RoundIn F n P l f tmps assign body w R:=by
 refine ⟨hF,fun c cs hr => ?_⟩
 let b:Frame:={ (default:Frame) with fn:=f,kind := .normal,roundOf:=some l }
 have hb0:Frame.round l f tmps assign body .normal=b.atR { tmps:=tmps,defers:=[] } [.code assign,.beginRound,.code body]:=by simp [Frame.round,Frame.atR,b]
 have hr':(F.inRound l).room ((c::cs).length+1+n):=hr;have hF':(F.inRound l).fn b.fn:=hF;obtain ⟨e,a₁,w₁,⟨rfl,w₂,hbr,hbody⟩,h1⟩:=h b [.beginRound,.code body] (c::cs) rfl hF' hr';have h2:StepsIn (Machine.fenced P (F.inRound l)) P (lone (b.atR a₁ [.beginRound,.code body]) (c::cs) w₁) (lone (b.atR a₁ [.code body]) (c::cs) w₂) := .one (fenced_calm (fr:=b.atR a₁ [.beginRound,.code body]) hF' hr' rfl) (stepR_beginRound rfl hbr);obtain ⟨e,a₂,w₃,hq,h3⟩:=hbody b [] (c::cs) rfl hF' hr';have h12:=StepsIn.trans h1 h2;rw [hb0];rcases hq with ⟨jump,hj,v,w',he,hR⟩ | ⟨ch,rfl,hd,hR⟩
 ·refine ⟨.returned v,w',hR,StepsIn.trans h12 ?_⟩
  cases e with
  | normal=>subst hj;exact StepsIn.trans h3 (.one (fenced_calm (fr:=b.atR a₂ []) hF' hr' rfl) (stepR_round_end rfl rfl he))
  | ret=>
   subst hj;obtain ⟨k,hs⟩:=h3.2 rfl;exact StepsIn.trans hs (.one (fenced_calm (fr:=b.atR a₂ (.code .ret::k)) hF' hr' rfl) (stepR_round_ret rfl rfl he))
  | exit id=>
   subst hj;obtain ⟨k,hk,hs⟩:=h3.2 rfl rfl;exact StepsIn.trans hs (.one (fenced_calm (fr:=b.atR a₂ (.code (.exit id)::k)) hF' hr' rfl) (stepR_round_exit rfl rfl hk he))
  | _=>exact hj.elim
 ·obtain ⟨todo,hs⟩:=h3;have hl:(({ b.atR a₂ todo with mode := .panicking ch }:Frame)).leaving P w₃ (.panicked ch):=⟨rfl,hd,hf⟩
  have hfen:(lone { b.atR a₂ todo with mode := .panicking ch } (c::cs) w₃).fenced P (F.inRound l):=fenced_leaving (n:=n) hF' hr' hl
  exact ⟨.panicked ch,w₃,hR,StepsIn.trans h12 (StepsIn.trans hs (.one hfen (step_leave_panicked hl)))⟩
def zxn (F:Fence) (n:Nat) (P:Program) (gf:FuncId) (lb:Array Value) (N:Nat) (encs:Nat->Array Value) (w:World):Prop:=
 ∀ (l:Nat) (J:Nat->World->Prop) (Jx:World->Prop) (Jp:List PanicEntry->World->Prop) (W1:World),(∀ k W,J k W->Below w.heap.size w W)->
  (∀ k,k < N->∀ W,J k W->YieldAt F (n - 1) P l (encs k) W (fun e W'=>(e = .returned (.bool true)/\J (k+1) W')\/(e = .returned (.bool false)/\Jx W')\/∃ ch,e = .panicked ch/\Jp ch W'))->J 0 W1->
  CallsIn F n P gf (#[.func (.yield l) #[] #[]]++lb) W1 (fun e W'=>(∃ v,e = .returned v/\(J N W'\/Jx W'))\/∃ ch,e = .panicked ch/\Jp ch W')
def zmm (B:Nat) (A C:World):Prop:=A.heap.size<=C.heap.size/\∀ b,B<=b->b < A.heap.size->C.heap[b]? =A.heap[b]?
theorem zxH {F:Fence} {n:Nat} {P:Program} {g:Operand} {ps:Array Tmp} {assign body:Code} {Q:Exit->Act->World->Prop} {a:Act} {w:World} (hro:F.round=none) (h1:1<=n) (hfn:∀ f,F.fn f->∃ fn,P.funcs[f]? =some fn) {gf:Nat} {lb:Array Value} (hg:a.eval g = .func (.func gf) #[] lb) (hFg:F.fn gf)
  (eg:∀ args w,(callFunc gf args).run P w = .ok (.enter gf args) w) {N:Nat} {encs:Nat->Array Value} (hps:∀ k,(encs k).size=ps.size) (hit:zxn F (n - 1) P gf lb N encs w)
  (C:Nat->Prop) (X:Code->World->Prop) (Z:List PanicEntry->World->Prop) (hC0:C 0) (hX:∀ c W l r o,W.heap[l]? =some (.loop r)->w.heap.size<=l->X c W->X c (W.putObj l o))
  (hround:∀ k,k < N->C k->∀ (l:Nat) (W:World),w.heap.size<=l->l < W.heap.size->Below w.heap.size w W->
   assign.wpIn (F.inRound l) (n - 1 - 1) P (fun e a₁ W₁=>e = .normal/\Below W.heap.size W W₁/\∀ W₂:World,W₂.os=W₁.os->W₂.tape=W₁.tape->W₂.output=W₁.output->W₂.heap.size=W₁.heap.size->(∀ b,b≠l->W₂.heap[b]? =W₁.heap[b]?)->
    body.wpIn (F.inRound l) (n - 1 - 1) P (fun e a3 W3=>(e = .normal/\C (k+1)/\Below W₂.heap.size W₂ W3)\/
     (∃ c,(match e with | .ret=>c=Code.ret | .exit id=>c=Code.exit id | _=>False)/\zmm w.heap.size W₂ W3/\X c W3)\/∃ ch,e = .panic ch/\a3.defers=[]/\zmm w.heap.size W₂ W3/\Z ch W3) a₁ W₂)
    {tmps:=(ps.zip (encs k)).foldl (fun t (p,v)=>t.setIfInBounds p v) a.tmps,defers:=[] } W)
  (hdone:C N->∀ (D:Nat) (W:World),w.heap.size<=D->Below w.heap.size w W->W.heap[D]? =some (.deferred (some []))->Q .normal { a with defers:={ target := .collected D,args:=#[] }::a.defers } W)
  (hstop:∀ (D:Nat) (c:Code) (W:World),w.heap.size<=D->X c W->W.heap[D]? =some (.deferred (some []))->c.wpIn F n P Q { a with defers:={ target := .collected D,args:=#[] }::a.defers } W)
  (hpan:∀ (D:Nat) (ch:List PanicEntry) (W:World),w.heap.size<=D->Z ch W->W.heap[D]? =some (.deferred (some []))->Q (.panic ch) { a with defers:={ target := .collected D,args:=#[] }::a.defers } W):
  (Code.rangeFunc g ps assign body).wpIn F n P Q a w:=by
 refine wpIn_rangeFunc fun fn hF => ?_
 rw [hro]
 let D:=w.heap.size
 let l:=w.heap.size+1
 obtain ⟨rec,hrec⟩:∃ rec:LoopState->Option Code->Loop,rec=fun st pe=>{ state:=st,pending:=pe,fn,tmps:=a.tmps,params:=ps,assign,body,defers:=D }:=⟨_,rfl⟩
 obtain ⟨W1,hW1⟩:∃ W1,W1=(w.alloc (.deferred (some []))).alloc (.loop (rec .ready none)):=⟨_,rfl⟩;have hL1:W1.heap[l]? =some (.loop (rec .ready none)):=by
  have:=World.alloc_heap_new (w.alloc (.deferred (some []))) (.loop (rec .ready none));rw [World.size_alloc] at this;rw [hW1];exact this
 have hD1:W1.heap[D]? =some (.deferred (some [])):=by rw [hW1];exact (Below.heap_alloc _ _ _ (by simp [D])).trans (World.alloc_heap_new w _)
 have hB1:Below w.heap.size w W1:=by rw [hW1];exact ((Below.refl _ w).alloc (Nat.le_refl _) _).alloc (by simp) _
 have book:∀ (W:World) (o:Obj),Below w.heap.size w W->Below w.heap.size w (W.putObj l o):=fun W o hb=>
  hb.trans ⟨rfl,rfl,rfl,by simp,fun b hb'=>World.putObj_heap_other (by simp only [l];omega)⟩
 refine ⟨l,[{ target := .collected D,args:=#[] }],W1,{ target := .fn (.func gf) lb,args:=#[.func (.yield l) #[] #[]] },W1,gf,#[.func (.yield l) #[] #[]]++lb,W1,?_,?_,?_,?_,fun _=>h1,?_⟩
 ·rw [hW1,hrec];exact run_enterLoop_outer _ _ _ _ _
 ·simp only [resolve,hg];simp [go_sem]
 ·intro f' hf';simp [Target.leads] at hf';subst hf';exact hFg
 ·simp [invoke,go_sem,eg]
 refine (hit l (fun k W=>C k/\Below w.heap.size w W/\W.heap[l]? =some (.loop (rec .ready none))/\W.heap[D]? =some (.deferred (some [])))
  (fun W=>∃ c,X c W/\W.heap[l]? =some (.loop (rec .done (some c)))/\W.heap[D]? =some (.deferred (some [])))
  (fun ch W=>Z ch W/\W.heap[D]? =some (.deferred (some []))) W1 (fun k W h=>h.2.1) ?_ ⟨hC0,hB1,hL1,hD1⟩).mono ?_
 ·rintro k hk W ⟨hCk,hB,hL,hDW⟩;have hlt:l < W.heap.size:=(Array.getElem?_eq_some_iff.1 hL).1;have hy:=run_yield (P:=P) (args:=encs k) hL (by rw [hrec];exact hps k)
  rw [hrec] at hy;refine ⟨fn,_,assign,body,hy,zxM hF (hfn fn hF) (wpIn_mono (hround k hk hCk l W (by simp only [l];omega) hlt hB) ?_)⟩
  rintro e a₁ W₁ ⟨rfl,hB2,hbody⟩;have hL2:W₁.heap[l]? =some (.loop (rec .ready none)):=(hB2.block l hlt).trans hL;have hlt2:l < W₁.heap.size:=Nat.lt_of_lt_of_le hlt hB2.size;have hD2:W₁.heap[D]? =some (.deferred (some [])):=(hB2.block D (by simp only [D,l] at *; omega)).trans hDW
  have hbr:=run_beginRound (P:=P) hL2 (by rw [hrec])
  refine ⟨rfl,_,hbr,?_⟩
  have hsame:∀ (W:World) (o:Obj),l < W.heap.size->(W.putObj l o).heap[l]? =some o:=fun W o h=>World.putObj_heap_same h
  generalize hW2:W₁.putObj l _=W₂ at hbody ⊢;have hL3:W₂.heap[l]? =some (.loop { rec .ready none with state := .busy }):=by rw [<- hW2];exact hsame _ _ hlt2
  have hD3:W₂.heap[D]? =some (.deferred (some [])):=by rw [<- hW2];exact (World.putObj_heap_other (by simp only [D,l];omega)).trans hD2
  have hB3:Below w.heap.size w W₂:=by rw [<- hW2];exact book _ _ (hB.trans (hB2.mono hB.size))
  have hs3:W₂.heap.size=W₁.heap.size:=by rw [<- hW2];simp
  refine wpIn_mono (hbody W₂ (by rw [<- hW2];rfl) (by rw [<- hW2];rfl) (by rw [<- hW2];rfl) hs3 (fun b hb=>by rw [<- hW2];exact World.putObj_heap_other hb)) ?_
  rintro e a3 W3 (⟨rfl,hCk',hb3⟩ | ⟨c,hc,hk3,hx3⟩ | ⟨ch,rfl,hd3,hk3,hz3⟩)
  ·have hL4:=(hb3.block l (by omega)).trans hL3
   have hD4:=(hb3.block D (by simp only [D,l] at *; omega)).trans hD3
   have he:=run_endRound (P:=P) none hL4;rw [hrec] at he;refine .inl ⟨none,rfl,_,_,he,.inl ⟨rfl,hCk',book _ _ (hB3.trans (hb3.mono hB3.size)),?_,(World.putObj_heap_other (by simp only [D,l];omega)).trans hD4⟩⟩
   rw [hsame _ _ (Array.getElem?_eq_some_iff.1 hL4).1,hrec];rfl
  ·have hL4:=(hk3.2 l (by simp only [l];omega) (by omega)).trans hL3
   have hD4:=(hk3.2 D (Nat.le_refl _) (by simp only [D,l] at *; omega)).trans hD3
   have he:=run_endRound (P:=P) (some c) hL4;rw [hrec] at he;refine .inl ⟨some c,?_,_,_,he,.inr (.inl ⟨rfl,c,hX c W3 l _ _ hL4 (by simp only [l];omega) hx3,?_,(World.putObj_heap_other (by simp only [D,l];omega)).trans hD4⟩)⟩
   ·cases e with
    | ret=>exact congrArg some hc
    | exit id=>exact congrArg some hc
    | _=>exact hc.elim
   ·rw [hsame _ _ (Array.getElem?_eq_some_iff.1 hL4).1,hrec];rfl
  ·have hD4:=(hk3.2 D (Nat.le_refl _) (by simp only [D,l] at *; omega)).trans hD3
   exact .inr ⟨ch,rfl,hd3,.inr (.inr ⟨ch,rfl,hz3,hD4⟩)⟩
 ·rintro e W2 (⟨v,rfl,(⟨hCN,hB,hL,hDW⟩ | ⟨c,hx,hL,hDW⟩)⟩ | ⟨ch,rfl,hz,hDW⟩)
  ·have he:=run_endLoop (P:=P) hL (by rw [hrec];simp)
   rw [hrec] at he;exact ⟨none,_,he,hdone hCN D _ (Nat.le_refl _) (book _ _ hB) ((World.putObj_heap_other (by simp only [D,l];omega)).trans hDW)⟩
  ·have he:=run_endLoop (P:=P) hL (by rw [hrec];simp)
   rw [hrec] at he;exact ⟨some c,_,he,hstop D c _ (Nat.le_refl _) (hX c W2 l _ _ hL (by simp only [l];omega) hx) ((World.putObj_heap_other (by simp only [D,l];omega)).trans hDW)⟩
  ·exact hpan D ch W2 (Nat.le_refl _) hz hDW
theorem zpo {F:Fence} {n:Nat} {P:Program} {f:FuncId} {args:Array Value} {w:World} {R:Ending->World->Prop} (hd:F.depth=none) (h:CallsIn F n P f args w R):Calls P f args w R:=fun cs=>
 let ⟨e,w',fr,r,s,x⟩:=h.2 cs (fun d h=>by rw [hd] at h;cases h)
 ⟨e,w',fr,r,s.comes,x⟩
theorem zvN {a b:Nat} {x y:Option EEnt} {id:Nat} (h1:id≠a) (h2:id≠b):hpSt [(a,x),(b,y)] [] id=none:=by
 unfold hpSt zaE;have:Ab.look [(a,x),(b,y)] id=none:=zb4 fun p hp=>by
  simp only [List.mem_cons,List.not_mem_nil,or_false] at hp;rcases hp with rfl | rfl
  ·exact fun e=>h1 e.symm
  ·exact fun e=>h2 e.symm
 rw [this];simp only [Ab.look]
 split<;>rfl
end
end Go.Ab
