/- Plain steps for proofs about what functions compute. -/
import Derived.Test.YtjkfhpgglcnggaaEv33n20
import Derived.Test.YtjkfhpgglcnggaaAb23n14
import Derived.Test.YtjkfhpgglcnggaaAb23n16
import Derived.Lib.Bytealg
import Derived.LoopTactic
set_option linter.unusedVariables false
set_option linter.unusedSimpArgs false
set_option linter.unusedSectionVars false
namespace Go.Ab
noncomputable section
theorem zbI {R:Type} {p:Prop} [Decidable p] {a b x:R} (h1:p->a=x) (h2 : ¬ p->b=x):(if decide p=true then a else b)=x:=by
 by_cases h:p
 ·rw [if_pos (decide_eq_true h)];exact h1 h
 ·rw [if_neg (by simpa using h)];exact h2 h
theorem zuu {R:Type} {p:Prop} [Decidable p] {a b x:R} (h1:p->a=x) (h2 : ¬ p->b=x):(if p then a else b)=x:=by
 by_cases h:p
 ·rw [if_pos h];exact h1 h
 ·rw [if_neg h];exact h2 h
theorem zut {R:Type} {t:Bool} {a b x:R} (h1:t=true->a=x) (h2:t=false->b=x):(if t=true then a else b)=x:=by
 cases t
 ·exact h2 rfl
 ·exact h1 rfl
theorem zaT {R:Type} {a b x:R} (h:a=x):(if true=true then a else b)=x:=h
theorem zaS {R:Type} {a b x:R} (h:b=x):(if false=true then a else b)=x:=h
theorem zaI {ts:List Ty} {a b x:Option (Tup ts)} (h1:a=x) (h2:b=x):both ts a b=x:=by rw [h1,h2,zlr]
theorem G_to {R:Type} {c:Prop} [Decidable c] {k x:Option R} (h:c) (h2:k=x):G c k=x:=(if_pos h).trans h2
theorem zaj {A B:Type} {o:Option A} {f:A->Option B} {x:Option B} {y:A} (h:o=some y) (h2:f y=x):o.bind f=x:=by rw [h];exact h2
theorem zuH {α:Type} {xs ys:List α} {b:Nat} (h:(xs.length+ys.length) * b<=140737488355328):room xs ys b:=h
section
variable {α:Type} [Inhabited α]
end
def HdOK (w:World) (E:Nat) (g:Nat) (v:Value):Prop:=v = .slice none 0 0\/∃ b off n cap cur,v = .slice (some ⟨b,off,none⟩) n cap/\w.heap[b]? =some (.cells cur E (0,0))/\n<=cap/\cap<=maxLen/\off+cap<=cur.size/\b≠g
structure Spl (S:Nat->Prop) (w wr:World):Prop where
 o:wr.os=w.os/\wr.tape=w.tape/\wr.output=w.output/\wr.heap.size=w.heap.size
 k:∀ b,¬ S b->wr.heap[b]? =w.heap[b]?
 c:∀ (b:Nat) (cur:Array Value) (E:Nat),w.heap[b]? =some (.cells cur E (0,0))->∃ cur':Array Value,wr.heap[b]? =some (.cells cur' E (0,0))/\cur'.size=cur.size
theorem Spl.refl (S:Nat->Prop) (w:World):Spl S w w:=⟨⟨rfl,rfl,rfl,rfl⟩,fun _ _=>rfl,fun _ cur _ h=>⟨cur,h,rfl⟩⟩
theorem Spl.mono {S S':Nat->Prop} {w wr:World} (h:Spl S w wr) (hs:∀ b,S b->S' b):Spl S' w wr:=⟨h.o,fun b hb=>h.k b fun hh=>hb (hs b hh),h.c⟩
theorem Spl.trans {S:Nat->Prop} {w w1 w2:World} (h:Spl S w w1) (k:Spl S w1 w2):Spl S w w2:=
 ⟨⟨k.o.1.trans h.o.1,k.o.2.1.trans h.o.2.1,k.o.2.2.1.trans h.o.2.2.1,k.o.2.2.2.trans h.o.2.2.2⟩,fun b hb=>(k.k b hb).trans (h.k b hb),fun b cur E hb=>by
  obtain ⟨c1,h1,h2⟩:=h.c b cur E hb;obtain ⟨c2,k1,k2⟩:=k.c b c1 E h1;exact ⟨c2,k1,k2.trans h2⟩⟩
theorem Spl.hd {S:Nat->Prop} {w wr:World} (h:Spl S w wr) {E g:Nat} {v:Value} (k:HdOK w E g v):HdOK wr E g v:=by
 rcases k with rfl | ⟨b,off,n,cap,cur,rfl,h1,h2,h3,h4,h5⟩
 ·exact .inl rfl
 ·obtain ⟨c1,k1,k2⟩:=h.c b cur E h1;exact .inr ⟨b,off,n,cap,c1,rfl,k1,h2,h3,by omega,h5⟩
theorem HdOK.alloc {w:World} {E g:Nat} {v:Value} (k:HdOK w E g v) (o:Obj):HdOK (w.alloc o) E g v:=by
 rcases k with rfl | ⟨b,off,n,cap,cur,rfl,h1,h2⟩
 ·exact .inl rfl
 ·exact .inr ⟨b,off,n,cap,cur,rfl,(Go.RowKit.Below.heap_alloc w o b (Array.getElem?_eq_some_iff.1 h1).1).trans h1,h2⟩
def znp (E E1:Nat):Shape:=⟨[.int .i64,.int .i64,.list (.list (.int .i64)),.list (.int .i64)],[(0,.agg [.v 0,.v 1,.own LIM,.own (LIM+1)])],[(LIM,.out (LIM+2) E E1 2),(LIM+1,.arr E1 3)]⟩
theorem zpI {P:Program} {f E E1:Nat} (h1:∀ (as:Array Value) (w:World),(callFunc f as).run P w = .ok (.enter f as) w)
  (hn:∀ (v0 v1 mk:Value) (g:Nat) (w:World),HdOK w E1 g mk->Calls P f #[.agg #[v0,v1,.slice none 0 0,mk]] w fun e w'=>e = .returned (.tuple #[])/\(w'.os=w.os/\w'.tape=w.tape/\w'.output=w.output/\w.heap.size<=w'.heap.size)/\∀ b,b < w.heap.size -> ¬ blk mk=some b->w'.heap[b]? =w.heap[b]?)
  (hc:∀ (v0 v1 mk:Value) (g off n cap:Nat) (cur:Array Value) (xs:Nat->Value) (w:World),w.heap[g]? =some (.cells cur E (0,0))->n<=cap->cap<=maxLen->off+cap<=cur.size->(∀ j,j < n->cur.getD (off+j) undef=xs j)->
   (∀ j,j < n->HdOK w E1 g (xs j))->HdOK w E1 g mk->Calls P f #[.agg #[v0,v1,.slice (some ⟨g,off,none⟩) n cap,mk]] w fun e w'=>e = .returned (.tuple #[])/\(w'.os=w.os/\w'.tape=w.tape/\w'.output=w.output/\w.heap.size<=w'.heap.size)/\
    ∀ b,b < w.heap.size -> ¬ ((∃ j,j < n/\blk (xs j)=some b)\/blk mk=some b)->w'.heap[b]? =w.heap[b]?):
  CE.ok P ⟨f,znp E E1,⟨[],[],[]⟩,fun _=>some ()⟩ where
 call:=h1
 fc X Y hY:=by
  intro w Xs H vs hX hlow hH hvs hargs;have hsz:vs.size=1:=hvs;have hv:=hargs 0 (by show 0 < 1;omega)
  have e:vs=#[vs.getD 0 undef]:=by
   apply Array.ext
   ·rw [hsz];rfl
   ·intro i h2 h3;have:i=0:=by have h3:i < 1:=h3;omega
    subst this;simp [Array.getD,h2]
  generalize vs.getD 0 undef=v at hv e;subst e;obtain ⟨x0,x1,x2,x3⟩:Int×Int×List (List Int)×List Int:=X;generalize hh:hpSt ((znp E E1).heap (x0,x1,x2,x3)) ((znp E E1).rws (x0,x1,x2,x3))=hp at hH hv;have eN:zbN hp LIM=some (.out E 24 (famA (LIM+2) x2.length)):=by subst hh;rfl
  have eM:zbN hp (LIM+1)=some (.arr E1 1 8 (x3.map (Enc.enc (α:=Int)))):=by subst hh;rfl
  have eR:∀ j,j < x2.length->zbN hp (rid (LIM+2) j)=some (Ent.arrOf E1 (α:=Int) (x2.getD j [])):=fun j hj=>by
   have:=zcJ (s:=⟨1,[],(znp E E1).heap (x0,x1,x2,x3),LIM,(znp E E1).rws (x0,x1,x2,x3)⟩) (f:=LIM+2) (r:=⟨E1,.int .i64,x2,none⟩) (i:=j) rfl (by unfold LIM RB;omega) rfl (by simp) hj
   rw [zst] at this;subst hh;exact this
  have hv:VRel w (Sh Xs (zbN hp) H w) H (.agg [.d (.lit (.int .i64 x0)),.d (.lit (.int .i64 x1)),.own LIM,.own (LIM+1)]) v:=hv;have hne:∀ id,zbN (hpSt ((⟨[],[],[]⟩:Shape).heap Y) ((⟨[],[],[]⟩:Shape).rws Y)) id=none:=by
   intro id;show hpSt [] [] id=none;unfold hpSt zan;simp only [look]
   split<;>rfl
  have fin:∀ (e:Ending) (w':World),e = .returned (.tuple #[])->(w'.os=w.os/\w'.tape=w.tape/\w'.output=w.output/\w.heap.size<=w'.heap.size)->(∀ b,b < w.heap.size -> ¬ zfE hp H b->w'.heap[b]? =w.heap[b]?)->
    ∃ v r h' H',e = .returned v/\(r=(retE ((⟨[],[],[]⟩:Shape).vals Y)).av/\h'=hpSt ((⟨[],[],[]⟩:Shape).heap Y) ((⟨[],[],[]⟩:Shape).rws Y))/\
     (w'.os=w.os/\w'.tape=w.tape/\w'.output=w.output/\w.heap.size<=w'.heap.size)/\(∀ b,b < w.heap.size -> ¬ zfE hp H b->w'.heap[b]? =w.heap[b]?)/\
     HOK Xs h' H' w'/\(∀ b,zfE h' H' b->w.heap.size<=b\/zfE hp H b)/\(∀ id,pinB id=true->H' id=H id)/\VRel w' (Sh Xs (zbN h') H' w') H' r v:=by
   intro e w' he ho hk;refine ⟨_,_,_,H,he,⟨rfl,rfl⟩,ho,hk,⟨fun id e he=>(by rw [hne] at he;cases he),fun id e v b he=>(by rw [hne] at he;cases he),fun i j e e' v v' b he=>(by rw [hne] at he;cases he)⟩,
    fun b ⟨id,e,v,he,_⟩=>(by rw [hne] at he;cases he),fun _ _=>rfl,?_⟩
   exact .tup [] #[] rfl (by simp)
  show Calls P f #[v] w _
  cases hv with
  | agg _ cs hcs hrel=>
   have hcs:cs.size=4:=hcs;have r2:=hrel 2 (by show 2 < 4;omega)
   have r3:=hrel 3 (by show 3 < 4;omega)
   have r2:VRel w _ H (.own LIM) (cs.getD 2 undef):=r2;have r3:VRel w _ H (.own (LIM+1)) (cs.getD 3 undef):=r3;have ec:cs=#[cs.getD 0 undef,cs.getD 1 undef,cs.getD 2 undef,cs.getD 3 undef]:=by
    apply Array.ext
    ·rw [hcs];rfl
    ·intro i h2 h3;have h3:i < 4:=h3
     match i,h3 with
     | 0,_=>simp [Array.getD,h2]
     | 1,_=>simp [Array.getD,h2]
     | 2,_=>simp [Array.getD,h2]
     | 3,_=>simp [Array.getD,h2]
   generalize cs.getD 0 undef=v0 at ec;generalize cs.getD 1 undef=v1 at ec;generalize cs.getD 2 undef=nx at ec r2;generalize cs.getD 3 undef=mk at ec r3;subst ec;have hN:H LIM=some nx:=by cases r2;assumption
   have hM:H (LIM+1)=some mk:=by cases r3;assumption
   obtain ⟨_,g1,g2⟩:=hH.ent LIM _ eN;rw [hN] at g1;cases g1;obtain ⟨_,g3,g4⟩:=hH.ent (LIM+1) _ eM;rw [hM] at g3;cases g3;have hd:∀ (id:Nat) (l:List D) (v:Value) (g:Nat),zbN hp id=some (.arr E1 1 8 l)->H id=some v->(∀ b,blk v=some b->b≠g)->HdOK w E1 g v:=by
    intro id l v g he hv hg;obtain ⟨_,k1,k2⟩:=hH.ent id _ he;rw [hv] at k1;cases k1
    cases k2 with
    | arr _ _ _ _ _ xs hsz hown=>
     obtain ⟨_,h2⟩:=hown;rcases h2 with ⟨rfl,_⟩ | ⟨g',off,cap,cur,rfl,hh,k1,k2,k3,_⟩
     ·exact .inl rfl
     ·exact .inr ⟨g',off,_,cap,cur,rfl,hh,k1,k2,by simpa using k3,hg g' rfl⟩
   cases g2 with
   | out _ _ _ _ xs hown hbt hrel2=>
    rw [zaW] at hown hbt hrel2;obtain ⟨hxl,h2⟩:=hown;have hrow:∀ j,j < x2.length->H (rid (LIM+2) j)=some (xs.getD j undef):=fun j hj=>by
     have:=hrel2 j hj;rw [zb0 hj] at this
     cases this;assumption
    have hOw:∀ j,j < x2.length->∀ b,blk (xs.getD j undef)=some b->zfE hp H b:=fun j hj b hb=>⟨_,_,_,eR j hj,hrow j hj,hb⟩
    have hOm:∀ b,blk mk=some b->zfE hp H b:=fun b hb=>⟨_,_,_,eM,hM,hb⟩
    rcases h2 with ⟨rfl,h0⟩ | ⟨g,off,cap,cur,rfl,hgh,k1,k2,k3,k4⟩
    ·refine (hn v0 v1 mk w.heap.size w (hd _ _ _ _ eM hM fun b hb e => ?_)).mono fun e w' ⟨a,b,c⟩=>fin e w' a b fun q hq hno=>c q hq fun hm=>hno (hOm q hm)
     have:=g4.lt hb;omega
    ·have hg:∀ id e v b,zbN hp id=some e->H id=some v->blk v=some b->id≠LIM->b≠g:=fun id e v b he hv hb hne hbg=>hne (hH.inj id LIM e _ v _ g he eN hv hN (hbg ▸ hb) rfl)
     refine (hc v0 v1 mk g off _ cap cur (fun j=>xs.getD j undef) w hgh k1 k2 (by simpa using k3) (fun j hj => ?_) (fun j hj=>hd _ _ _ _ (eR j hj) (hrow j hj) fun b hb=>hg _ _ _ b (eR j hj) (hrow j hj) hb ?_) (hd _ _ _ _ eM hM fun b hb=>hg _ _ _ b eM hM hb (by omega))).mono fun e w' ⟨a,b,c⟩=>fin e w' a b fun q hq hno=>c q hq fun hm => ?_
     ·have hj2:j < x2.length * 1:=by omega
      have:xs[j]? =(cur.toList.drop off)[j]? :=by rw [<- k4,List.getElem?_take,if_pos hj2]
      rw [List.getD_eq_getElem?_getD,this,List.getElem?_drop];simp [Array.getD_eq_getD_getElem?]
     ·unfold rid LIM RB;omega
     ·rcases hm with ⟨j,hj,hb⟩ | hb
      ·exact hno (hOw j hj q hb)
      ·exact hno (hOm q hb)
end
end Go.Ab
