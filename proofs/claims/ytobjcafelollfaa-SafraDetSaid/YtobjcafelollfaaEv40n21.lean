import Derived.Test.YtobjcafelollfaaEv40n20
import Derived.Test.YtobjcafelollfaaAb24n13
import Derived.Test.YtobjcafelollfaaAb24n16
import Derived.Lib.Bytealg
import Derived.LoopTactic
import Derived.Lib.OthersKept
import Derived.Below
import Derived.RangeFuncBox
import Derived.RangeFuncLeaves
import Derived.RangeFuncWrites
import Derived.OwnWalkIn
import Derived.TacticsInMore
import Derived.LoopNIn
import Derived.LoopIn
set_option linter.unusedVariables false
set_option linter.unusedSimpArgs false
set_option linter.unusedSectionVars false
namespace Go.Ab
noncomputable section
theorem zaG {R:Type} {p:Prop} [Decidable p] {a b x:R} (h1:p->a=x) (h2 : ¬ p->b=x):(if decide p=true then a else b)=x:=by
 by_cases h:p
 ·rw [if_pos (decide_eq_true h)];exact h1 h
 ·rw [if_neg (by simpa using h)];exact h2 h
theorem zzq {R:Type} {p:Prop} [Decidable p] {a b x:R} (h1:p->a=x) (h2 : ¬ p->b=x):(if p then a else b)=x:=by
 by_cases h:p
 ·rw [if_pos h];exact h1 h
 ·rw [if_neg h];exact h2 h
theorem zap {R:Type} {a b x:R} (h:a=x):(if true=true then a else b)=x:=h
theorem zao {R:Type} {a b x:R} (h:b=x):(if false=true then a else b)=x:=h
theorem zam {ts:List Ty} {a b x:Option (Tup ts)} (h1:a=x) (h2:b=x):both ts a b=x:=by rw [h1,h2,zrV]
theorem G_to {R:Type} {c:Prop} [Decidable c] {k x:Option R} (h:c) (h2:k=x):G c k=x:=(if_pos h).trans h2
theorem zae {A B:Type} {o:Option A} {f:A->Option B} {x:Option B} {y:A} (h:o=some y) (h2:f y=x):o.bind f=x:=by rw [h];exact h2
theorem zzF {α:Type} {xs ys:List α} {b:Nat} (h:(xs.length+ys.length) * b<=140737488355328):room xs ys b:=h
section
variable {α:Type} [Inhabited α]
end
def mayE (letters:Int) (w:List Int):Int:=
 if letters < 1\/4 < letters then 2 else if (60:Int) < w.length then 1 else if ∀ x∈w,0<=x/\x < letters then 0 else 2
theorem zql {letters:Int} {w:List Int} (h:letters < 1\/4 < letters):mayE letters w=2:=by unfold mayE;rw [if_pos h]
theorem zwY {letters:Int} {w:List Int} (h:1<=letters/\letters<=4) (h2:(60:Int) < w.length):mayE letters w=1:=by unfold mayE;rw [if_neg (by omega),if_pos h2]
theorem zuK {letters i:Int} {w:List Int} (h:1<=letters/\letters<=4) (h2:w.length<=(60:Int)) (h0:0<=i/\i < w.length) (hx : ¬ (0<=ix w i/\ix w i < letters)):mayE letters w=2:=by
 unfold mayE;rw [if_neg (by omega),if_neg (by omega),if_neg];intro hh;exact hx (hh _ (zaX h0.1 h0.2))
theorem zzx {letters:Int} {w:List Int} (h:1<=letters/\letters<=4) (h2:w.length<=(60:Int)) (hx:∀ j:Int,0<=j->j < w.length->0<=ix w j/\ix w j < letters):mayE letters w=0:=by
 unfold mayE;rw [if_neg (by omega),if_neg (by omega),if_pos];exact zwH.2 hx
theorem zk5 {letters:Int} {w:List Int} (h:mayE letters w=0):(1<=letters/\letters<=4)/\w.length<=(60:Int)/\∀ x∈w,0<=x/\x < letters:=by
 unfold mayE at h
 split at h
 ·omega
 ·split at h
  ·omega
  ·split at h
   ·rename_i h3;exact ⟨by omega,by omega,h3⟩
   ·omega
structure Spl (S:Nat->Prop) (w wr:World):Prop where
 o:wr.os=w.os/\wr.tape=w.tape/\wr.output=w.output/\wr.heap.size=w.heap.size
 k:∀ b,¬ S b->wr.heap[b]? =w.heap[b]?
 c:∀ (b:Nat) (cur:Array Value) (E:Nat),w.heap[b]? =some (.cells cur E (0,0))->∃ cur':Array Value,wr.heap[b]? =some (.cells cur' E (0,0))/\cur'.size=cur.size
theorem Spl.mono {S S':Nat->Prop} {w wr:World} (h:Spl S w wr) (hs:∀ b,S b->S' b):Spl S' w wr:=⟨h.o,fun b hb=>h.k b fun hh=>hb (hs b hh),h.c⟩
section
open Go.RowKit (Below)
structure Bk (T N:Nat) (A B:World):Prop where
 size:A.heap.size<=B.heap.size
 block:∀ k,k < N->k≠T->B.heap[k]? =A.heap[k]?
theorem Bk.of {T N:Nat} {A B:World} (h:Below N A B):Bk T N A B:=⟨h.size,fun k h1 _=>h.block k h1⟩
theorem Bk.b {T N:Nat} {w:World} (hn:N<=w.heap.size) (W:World) (l:Nat) (o o':Obj) (hl:w.heap.size<=l) (h:W.heap[l]? =some o) (_:o.isCells=false) (_:o.isWalk=false):Bk T N W (W.putObj l o'):=
 Bk.of ((Below.refl N W).grown (grownBy_putObj' W l o') (by have:=(Array.getElem?_eq_some_iff.1 h).1;omega) (fun k e=>by cases e;omega))
def Ints (S:Nat->Prop) (W:World) (sv:Value) (zs:List Int):Prop:=
 zs.length * 8<=140737488351232 * 2/\((∃ a c,sv = .slice a 0 c/\zs=[])\/∃ b off cap,sv = .slice (some ⟨b,off,none⟩) zs.length cap/\S b/\∀ j:Nat,j < zs.length->W.cell? ⟨b,off+j,none⟩=some (.int .i64 (zs.getD j 0)))
theorem Ints.mono {S S':Nat->Prop} {A B:World} (h:∀ b,S b->S' b/\B.heap[b]? =A.heap[b]?) {sv:Value} {zs:List Int}:Ints S A sv zs->Ints S' B sv zs
 | ⟨l,.inl e⟩=>⟨l,.inl e⟩
 | ⟨l,.inr ⟨b,off,cap,e,hb,hc⟩⟩=>⟨l,.inr ⟨b,off,cap,e,(h b hb).1,fun j hj=>(World.cell?_of_block (w:=A) (w':=B) (h b hb).2).trans (hc j hj)⟩⟩
theorem Ints.of {w:World} {Xs:Nat->Prop} {zs:List Int} {sv:Value} (h:DRel w (fun b=>b < w.heap.size /\ ¬ Xs b) (encD (.list (.int .i64)) zs) sv):Ints (fun b=>b < w.heap.size) w sv zs:=by
 have h:DRel w (fun b=>b < w.heap.size /\ ¬ Xs b) (.sl 8 (zs.map fun n=>D.lit (.int .i64 n))) sv:=h
 generalize hl:(zs.map fun n=>D.lit (.int .i64 n))=l at h
 have hn:l.length=zs.length:=by rw [<- hl,List.length_map]
 cases h with
 | nil _ a c hc hn'=>
  have:zs=[]:=by cases zs with
   | nil=>rfl
   | cons=>simp at hn
  subst this;exact ⟨by simp,.inl ⟨_,_,rfl,rfl⟩⟩
 | sl _ _ b off c sz f h0 hsz hb hc hm hbt hcs hcell hrel=>
  refine ⟨by unfold most at hbt;omega,.inr ⟨b,off,c,by rw [hn],hb.1,fun j hj => ?_⟩⟩
  have hg:l.getD j default = .lit (.int .i64 (zs.getD j 0)):=by
   rw [<- hl,List.getD_eq_getElem?_getD,List.getElem?_map,List.getElem?_eq_getElem hj,List.getD_eq_getElem?_getD,List.getElem?_eq_getElem hj];rfl
  have h1:=hcs j (by omega)
  rw [hg] at h1;have h1:1=sz:=h1;subst h1;have h2:=hrel j (by omega) 0 (by omega)
  rw [hg] at h2;rw [hcell j (by omega)]
  have h2:DRel w _ (.lit (.int .i64 (zs.getD j 0))) (f (j * 1+0)):=h2;rw [show j * 1+0=j by omega] at h2
  generalize f j=q at h2
  cases h2 with
  | lit=>rfl
end
end
section
open Go.RowKit (Below)
end
end Go.Ab
