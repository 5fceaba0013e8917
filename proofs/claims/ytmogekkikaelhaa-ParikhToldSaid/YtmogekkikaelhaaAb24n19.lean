import Derived.Test.YtmogekkikaelhaaAb24n18
import Derived.OrdersHeld
set_option linter.unusedVariables false
set_option linter.unusedSimpArgs false
set_option linter.unusedSectionVars false
namespace Go.Ab
section
variable {P:Program} {F:Fr} {ops:Array Oper} {σ:St} {o:Oper} {a:Act} {w:World}
theorem zhz {Q Q':Exit->Act->World->Prop} {K K':Act->World->Prop} {i:Nat} (hq:∀ e a w,Q e a w->Q' e a w) (hk:∀ a w,K a w->K' a w) (h:wpOp P ops Q i K a w):wpOp P ops Q' i K' a w:=by
 unfold wpOp at *
 split
 ·exact hk _ _ (by simpa [*] using h)
 ·rename_i o ho;simp only [ho] at h;split
  ·rename_i hw;simp only [hw,if_true] at h;exact h.imp (Oper.wp_mono2 hk hq) (fun h=>⟨h.1,let ⟨a,w,h2⟩:=h.2;⟨a,w,hq _ _ _ h2⟩⟩)
  ·rename_i hw;simp only [hw] at h;exact hk _ _ h
theorem zde {Q Q':Exit->Act->World->Prop} (hq:∀ e a w,Q e a w->Q' e a w):∀ (n:Nat) (li:Array Bool) (a:Act) (w:World),wpAny P .any ops Q n li a w->wpAny P .any ops Q' n li a w
 | 0,_,_,_,h=>⟨h.1,hq _ _ _ h.2⟩
 | n+1,_,_,_,h=>⟨fun hr=>hq _ _ _ (h.1 hr),fun i hi=>zhz hq (zde hq n _) (h.2 i hi)⟩
theorem wpC_Q {Q Q':Exit->Act->World->Prop} {c:Nat} {K:Act->World->Prop} (h:wpC P Q o c a w K):wpC P Q' o c a w K:=by
 match c,h with
 | 0,h=>exact h
 | 1,h=>exact h
 | _+2,h=>exact h
theorem zoo {Q:Exit->Act->World->Prop} {c i:Nat} {K:Act->World->Prop} (hi:ops[i]? =some o) (h:if Region.wanted o (yielded ops a.tmps)=true then wpC P Q o c a w K else K (a.put o.dst undef) w):wpOp P ops Q i K a w:=by
 unfold wpOp;simp only [hi];split
 ·rename_i hw;rw [if_pos hw] at h;refine .inl ?_
  match c,h with
  | 0,⟨v,h1,h2⟩=>exact zjb h1 h2
  | 1,h=>exact Oper.wp_mono2 (fun _ _ h=>h.2.2) (fun _ _ _ h=>h.elim) h
  | _+2,h=>exact Oper.wp_mono2 (fun _ _ h=>h.2) (fun _ _ _ h=>h.elim) h
 ·rename_i hw;rw [if_neg hw] at h;exact h
theorem AO.single {c:Nat} {KK:St->Prop} {K:Act->World->Prop} (h:AO P F ops [(c,o)] σ KK) (r:Rel F σ a w) (hk:∀ σ' a' w',KK σ'->Rel F σ' a' w'->K a' w') (Q:Exit->Act->World->Prop):
  if Region.wanted o (yielded ops a.tmps)=true then wpC P Q o c a w K else K (a.put o.dst undef) w:=by
 have:=h a w (fun e a' w'=>match e with | .normal=>K a' w' | _=>True) r hk;rw [zcf] at this;split
 ·rename_i hw;rw [if_pos hw] at this;exact wpC_Q this
 ·rename_i hw;rw [if_neg hw] at this;exact this
theorem AW.any {id:Nat} {Q:Exit->St->Prop} (hm:P.follows .mixedOrders=true)
  (h:∀ a w,Rel F σ a w->wpAny P .any ops (fun e a w=>e = .normal/\∃ σ',Q .normal σ'/\Rel F σ' a w) ops.size (Array.replicate ops.size false) a w):AW P F (.region id ops true) σ Q:=by
 intro a w r;exact wp_region_any hm (zde (fun e a w ⟨he,h⟩=>by subst he;exact h) _ _ _ _ (h a _ r.drew))
theorem zqG {Q:Exit->Act->World->Prop} {c i:Nat} {K:Act->World->Prop} (hi:ops[i]? =some o) (hc:c<=1) (h:if Region.wanted o (yielded ops a.tmps)=true then wpC P Q o c a w K else K (a.put o.dst undef) w):wpOp P ops Q i (fun a' w'=>Ext w w'/\K a' w') a w:=by
 unfold wpOp;simp only [hi];split
 ·rename_i hw;rw [if_pos hw] at h;refine .inl ?_
  match c,h with
  | 0,⟨v,h1,h2⟩=>exact zjb h1 ⟨Ext.refl w,h2⟩
  | 1,h=>exact Oper.wp_mono2 (fun _ _ h=>h.2) (fun _ _ _ h=>h.elim) h
 ·rename_i hw;rw [if_neg hw] at h;exact ⟨Ext.refl w,h⟩
def zct (P:Program) (ops:Array Oper) (Q:Exit->Act->World->Prop) (D:Nat->Bool) (B:Nat->Bool):Bool->Nat->Array Bool->Act->World->Prop
 | _,0,li,a,w=>Region.ready .any ops li=[]/\Q .normal a w
 | lv,n+1,li,a,w=>(Region.ready .any ops li=[]->Q .normal a w)/\
  ∀ j∈Region.ready .any ops li,(lv && B j)=false->wpOp P ops Q j (fun a' w'=>((lv && !D j)=true->Ext w w')/\zct P ops Q D B (lv && !D j) n (li.setIfInBounds j true) a' w') a w
section
variable {Q:Exit->Act->World->Prop} {D B:Nat->Bool}
theorem zmq (hB:∀ j,B j=false):∀ (n:Nat) (lv:Bool) (li:Array Bool) (a:Act) (w:World),zct P ops Q D B lv n li a w->wpAny P .any ops Q n li a w
 | 0,_,_,_,_,h=>h
 | n+1,_,_,_,_,h=>⟨h.1,fun i hi=>wpOp_mono (fun a' w' h'=>zmq hB n _ _ a' w' h'.2) (h.2 i hi (by rw [hB i,Bool.and_false]))⟩
theorem zlE:∀ (n:Nat) (li:Array Bool) (a:Act) (w:World),wpAny P .any ops Q n li a w->zct P ops Q D B false n li a w
 | 0,_,_,_,h=>h
 | n+1,_,_,_,h=>⟨h.1,fun i hi _=>wpOp_mono (fun a' w' h'=>⟨fun e=>by simp at e,by simpa using zlE n _ a' w' h'⟩) (h.2 i hi)⟩
theorem zj5:∀ (n:Nat) (li:Array Bool) (a:Act) (w:World),zct P ops Q D B false n li a w->wpAny P .any ops Q n li a w
 | 0,_,_,_,h=>h
 | n+1,_,_,_,h=>⟨h.1,fun i hi=>wpOp_mono (fun a' w' h'=>zj5 n _ a' w' (by simpa using h'.2)) (h.2 i hi (by rw [Bool.false_and]))⟩
theorem zdz {Q Q':Exit->Act->World->Prop} (hq:∀ e a w,Q e a w->Q' e a w):∀ (n:Nat) (lv:Bool) (li:Array Bool) (a:Act) (w:World),zct P ops Q D B lv n li a w->zct P ops Q' D B lv n li a w
 | 0,_,_,_,_,h=>⟨h.1,hq _ _ _ h.2⟩
 | n+1,_,_,_,_,h=>⟨fun hr=>hq _ _ _ (h.1 hr),fun i hi hb=>zhz hq (fun _ _ h'=>⟨h'.1,zdz hq n _ _ _ _ h'.2⟩) (h.2 i hi hb)⟩
theorem zj3 {i:Nat} {oi:Oper} {v:Value} (hi:ops[i]? =some oi) (hsel:∀ (j:Nat) (o:Oper) cs b,ops[j]? =some o->o.op ≠ .select cs b)
  (hQ:∀ c a w,Q (.panic c) (a.put oi.dst v) w->Q (.panic c) a w) (W:Nat->Bool) (hW:∀ k,W k=true->∃ ok,ops[k]? =some ok/\∃ e∈ok.after,Region.binds .any e=true/\(e.on=i\/W e.on=true)) (hD:D i=false):
  ∀ (n:Nat) (li:Array Bool) (a:Act) (w:World),(∀ k,W k=true->li.getD k true=false)->
   (∀ j oj,ops[j]? =some oj->j≠i->li.getD j true=false->W j=false->oi.apart ops oj=true/\D j=false)->
   i∈Region.ready .any ops li->YieldsIf P ops (Ext w) oi v a->
   zct P ops Q D B true n (li.setIfInBounds i true) (a.put oi.dst v) w->zct P ops Q D B true (n+1) li a w:=by
 intro n;induction n with
 | zero=>
  intro li a w _ _ hr hy H;refine ⟨fun h=>(by rw [h] at hr;cases hr),fun j hj hBj => ?_⟩;by_cases hji:j=i
  ·subst hji;exact hy.wpOp hi (Ext.refl w) ⟨fun _=>Ext.refl w,by rw [hD];exact H⟩
  ·have:=ready_mono hj hji;rw [H.1] at this;cases this
 | succ n ih=>
  intro li a w hWl hfree hr hy H;refine ⟨fun h=>(by rw [h] at hr;cases hr),fun j hj hBj => ?_⟩;by_cases hji:j=i
  ·subst hji;exact hy.wpOp hi (Ext.refl w) ⟨fun _=>Ext.refl w,by rw [hD];exact H⟩
  ·have h1:=H.2 j (ready_mono hj hji) hBj;obtain ⟨hjun,oj,hoj,hall⟩:=mem_ready.1 hj;have unl:∀ k,li.getD k true=false -> ¬ li.getD k false=true:=fun k h0 h1=>by
    rcases Nat.lt_or_ge k li.size with h' | h'
    ·simp [h'] at h0 h1;rw [h0] at h1;cases h1
    ·simp [Array.getElem?_eq_none h'] at h1
   have hWj:W j=false:=by
    cases hw:W j with
    | false=>rfl
    | true=>
     obtain ⟨ok,hok,e,he,hb,hon⟩:=hW j hw;rw [hoj] at hok;cases hok;have h2:=hall e he hb;rcases hon with rfl | hon
     ·exact absurd h2 (unl _ (mem_ready.1 hr).1)
     ·exact absurd h2 (unl _ (hWl _ hon))
   obtain ⟨hap,hDj⟩:=hfree j oj hoj hji hjun hWj;have h2:=wpOp_putIf hoj hap (fun cs b=>hsel i oi cs b hi) (fun cs b=>hsel j oj cs b hoj) hQ hy h1;have hWl':∀ k,W k=true->(li.setIfInBounds j true).getD k true=false:=fun k hk=>by
    by_cases hjk:j=k
    ·subst hjk;rw [hk] at hWj;cases hWj
    ·rw [getD_set_ne true hjk];exact hWl k hk
   have hfree':∀ k ok,ops[k]? =some ok->k≠i->(li.setIfInBounds j true).getD k true=false->W k=false->oi.apart ops ok=true/\D k=false:=fun k ok hk hki hun hno=>by
    refine hfree k ok hk hki ?_ hno;by_cases hjk:j=k
    ·subst hjk;exact hjun
    ·rw [getD_set_ne true hjk] at hun;exact hun
   refine wpOp_mono (fun a' w' h3 => ?_) h2;have hx:=h3.2.1 (by simp [hDj]);refine ⟨fun _=>hx,?_⟩;rw [hDj];refine ih (li.setIfInBounds j true) a' w' hWl' hfree' (ready_mono hr (Ne.symm hji)) (h3.1.imp (fun ⟨g1,g2⟩=>⟨g1,fun w'' h=>g2 w'' (hx.trans h)⟩) id) ?_;rw [Array.setIfInBounds_comm _ _ hji];have h4:=h3.2.2;rw [hDj] at h4;exact h4
def Tame (P:Program) (o:Oper):Prop:=∀ (a:Act) (w:World),(∀ f args w',(execOp a.eval o).run P w ≠ .ok (.enter f args) w')/\∀ r args w',(execOp a.eval o).run P w ≠ .ok (.row r args) w'
theorem zs4 {j:Nat} {oj:Oper} (hj:ops[j]? =some oj) (ht:Tame P oj) {K K':Act->World->Prop} (h:wpOp P ops Q j K a w) (h':wpOp P ops Q j K' a w):wpOp P ops Q j (fun a' w'=>K a' w'/\K' a' w') a w:=by
 obtain ⟨t1,t2⟩:=ht a w;unfold wpOp at *
 simp only [hj] at *
 split
 ·rename_i hw;simp only [hw,if_true] at h h';rcases h with h | h
  case inr=>exact .inr h
  rcases h' with h' | h'
  case inr=>exact .inr h'
  refine .inl ?_;unfold Oper.wp at *
  generalize hr:(execOp a.eval oj).run P w=r at *
  cases r with
  | ok n w'=>
   cases n<;>simp only [Oper.upon] at h h' ⊢
   case value u=>exact ⟨h,h'⟩
   case skip=>exact ⟨h,h'⟩
   case defer d=>exact ⟨h,h'⟩
   case enter f args=>exact absurd rfl (t1 f args w')
   case row row args=>exact absurd rfl (t2 row args w')
  | halt x w'=>
   cases x<;>simp only [Oper.upon] at h h' ⊢
   all_goals first | exact h | exact ⟨h,h'⟩
 ·rename_i hw;simp only [hw] at h h';exact ⟨h,h'⟩
theorem zmp {i:Nat} {oi:Oper} {v:Value} {B':Nat->Bool} (hi:ops[i]? =some oi) (hsel:∀ (j:Nat) (o:Oper) cs b,ops[j]? =some o->o.op ≠ .select cs b)
  (hQ:∀ c a w,Q (.panic c) (a.put oi.dst v) w->Q (.panic c) a w) (W:Nat->Bool) (hW:∀ k,W k=true->∃ ok,ops[k]? =some ok/\∃ e∈ok.after,Region.binds .any e=true/\(e.on=i\/W e.on=true)) (hD:D i=false)
  (hB':∀ j,j≠i->B' j=true->B j=true):
  ∀ (n:Nat) (li:Array Bool) (a:Act) (w:World),(∀ k,W k=true->li.getD k true=false)->
   (∀ j oj,ops[j]? =some oj->j≠i->li.getD j true=false->W j=false->D j=false->oi.apart ops oj=true/\Tame P oj)->
   i∈Region.ready .any ops li->YieldsIf P ops (Ext w) oi v a->
   zct P ops Q D B true n (li.setIfInBounds i true) (a.put oi.dst v) w->zct P ops Q D B' true (n+1) li a w->zct P ops Q D B true (n+1) li a w:=by
 intro n;induction n with
 | zero=>
  intro li a w _ _ hr hy H H2;refine ⟨fun h=>(by rw [h] at hr;cases hr),fun j hj hBj => ?_⟩;by_cases hji:j=i
  ·subst hji;exact hy.wpOp hi (Ext.refl w) ⟨fun _=>Ext.refl w,by rw [hD];exact H⟩
  ·have:=ready_mono hj hji;rw [H.1] at this;cases this
 | succ n ih=>
  intro li a w hWl hfree hr hy H H2;refine ⟨fun h=>(by rw [h] at hr;cases hr),fun j hj hBj => ?_⟩;by_cases hji:j=i
  ·subst hji;exact hy.wpOp hi (Ext.refl w) ⟨fun _=>Ext.refl w,by rw [hD];exact H⟩
  ·have hB2:(true && B' j)=false:=by
    rw [Bool.true_and] at hBj ⊢;cases hb:B' j with
    | false=>rfl
    | true=>rw [hB' j hji hb] at hBj;cases hBj
   have g2:=H2.2 j hj hB2;cases hDj:D j with
   | true=>
    rw [hDj] at g2;refine wpOp_mono (fun a' w' h3=>⟨fun e=>by simp at e,?_⟩) g2;exact zlE _ _ _ _ (zj5 _ _ _ _ h3.2)
   | false=>
   have h1:=H.2 j (ready_mono hj hji) hBj;obtain ⟨hjun,oj,hoj,hall⟩:=mem_ready.1 hj;have unl:∀ k,li.getD k true=false -> ¬ li.getD k false=true:=fun k h0 h1=>by
    rcases Nat.lt_or_ge k li.size with h' | h'
    ·simp [h'] at h0 h1;rw [h0] at h1;cases h1
    ·simp [Array.getElem?_eq_none h'] at h1
   have hWj:W j=false:=by
    cases hw:W j with
    | false=>rfl
    | true=>
     obtain ⟨ok,hok,e,he,hb,hon⟩:=hW j hw;rw [hoj] at hok;cases hok;have h2:=hall e he hb;rcases hon with rfl | hon
     ·exact absurd h2 (unl _ (mem_ready.1 hr).1)
     ·exact absurd h2 (unl _ (hWl _ hon))
   obtain ⟨hap,htm⟩:=hfree j oj hoj hji hjun hWj hDj;have h2:=zs4 hoj htm (wpOp_putIf hoj hap (fun cs b=>hsel i oi cs b hi) (fun cs b=>hsel j oj cs b hoj) hQ hy h1) g2;have hWl':∀ k,W k=true->(li.setIfInBounds j true).getD k true=false:=fun k hk=>by
    by_cases hjk:j=k
    ·subst hjk;rw [hk] at hWj;cases hWj
    ·rw [getD_set_ne true hjk];exact hWl k hk
   have hfree':∀ k ok,ops[k]? =some ok->k≠i->(li.setIfInBounds j true).getD k true=false->W k=false->D k=false->oi.apart ops ok=true/\Tame P ok:=fun k ok hk hki hun hno hdk=>by
    refine hfree k ok hk hki ?_ hno hdk;by_cases hjk:j=k
    ·subst hjk;exact hjun
    ·rw [getD_set_ne true hjk] at hun;exact hun
   refine wpOp_mono (fun a' w' h3 => ?_) h2;obtain ⟨⟨k1,k2,k3⟩,_,k5⟩:=h3;have hx:=k2 (by simp [hDj]);refine ⟨fun _=>hx,?_⟩;rw [hDj] at k3 k5;refine ih (li.setIfInBounds j true) a' w' hWl' hfree' (ready_mono hr (Ne.symm hji)) (k1.imp (fun ⟨g1,g2⟩=>⟨g1,fun w'' h=>g2 w'' (hx.trans h)⟩) id) ?_ k5;rw [Array.setIfInBounds_comm _ _ hji];exact k3
theorem zlF {i:Nat} {oi:Oper} {v:Value} (hi:ops[i]? =some oi) (hsel:∀ (j:Nat) (o:Oper) cs b,ops[j]? =some o->o.op ≠ .select cs b)
  (hQ:∀ c a w,Q (.panic c) (a.put oi.dst v) w->Q (.panic c) a w) (hD:D i=false):
  ∀ (n:Nat) (lv:Bool) (li:Array Bool) (a:Act) (w:World),
   (∀ j oj,ops[j]? =some oj->j≠i->li.getD j true=false->(∀ e∈oj.after,Region.binds .any e=true->e.on≠i)->oi.apart ops oj=true)->
   i∈Region.ready .any ops li->YieldsIf P ops (fun _=>True) oi v a->
   zct P ops Q D B lv n (li.setIfInBounds i true) (a.put oi.dst v) w->zct P ops Q D B lv (n+1) li a w:=by
 intro n;induction n with
 | zero=>
  intro lv li a w _ hr hy H;refine ⟨fun h=>(by rw [h] at hr;cases hr),fun j hj hBj => ?_⟩;by_cases hji:j=i
  ·subst hji;exact hy.wpOp hi trivial ⟨fun _=>Ext.refl w,by rw [hD,Bool.not_false,Bool.and_true];exact H⟩
  ·have:=ready_mono hj hji;rw [H.1] at this;cases this
 | succ n ih=>
  intro lv li a w hfree hr hy H;refine ⟨fun h=>(by rw [h] at hr;cases hr),fun j hj hBj => ?_⟩;by_cases hji:j=i
  ·subst hji;exact hy.wpOp hi trivial ⟨fun _=>Ext.refl w,by rw [hD,Bool.not_false,Bool.and_true];exact H⟩
  ·have h1:=H.2 j (ready_mono hj hji) hBj;obtain ⟨hjun,oj,hoj,hall⟩:=mem_ready.1 hj;have unl:∀ k,li.getD k true=false -> ¬ li.getD k false=true:=fun k h0 h1=>by
    rcases Nat.lt_or_ge k li.size with h' | h'
    ·simp [h'] at h0 h1;rw [h0] at h1;cases h1
    ·simp [Array.getElem?_eq_none h'] at h1
   have hap:=hfree j oj hoj hji hjun (fun e he hb hon=>by
    have h2:=hall e he hb;rw [hon] at h2;exact unl _ (mem_ready.1 hr).1 h2)
   have h2:=wpOp_putIf hoj hap (fun cs b=>hsel i oi cs b hi) (fun cs b=>hsel j oj cs b hoj) hQ hy h1;have hfree':∀ k ok,ops[k]? =some ok->k≠i->(li.setIfInBounds j true).getD k true=false->(∀ e∈ok.after,Region.binds .any e=true->e.on≠i)->oi.apart ops ok=true:=fun k ok hk hki hun hno=>by
    refine hfree k ok hk hki ?_ hno;by_cases hjk:j=k
    ·subst hjk;exact hjun
    ·rw [getD_set_ne true hjk] at hun;exact hun
   refine wpOp_mono (fun a' w' h3=>⟨h3.2.1,?_⟩) h2;refine ih _ (li.setIfInBounds j true) a' w' hfree' (ready_mono hr (Ne.symm hji)) h3.1 ?_;rw [Array.setIfInBounds_comm _ _ hji];exact h3.2.2
def zuj (o:Oper):Bool:=match o.op with
 | .move _ | .assign _ | .alloc _ | .box _ _ | .build _ _ | .buildSlice _ _ _ | .load _ _ | .binOp _ _ _ _ _ | .unOp _ _ _ | .convert _ _ _ | .makeFunc _ _ _ | .makeSlice _ _ _ | .slice _ _ _ _ _ | .fieldAddr _ _ _ | .field _ _ _ | .indexAddr _ _ _ | .index _ _ _ | .store _ _ _=>true
 | _=>false
theorem zvl {s:Sem Value} {w:World}:(∃ v w',((do pure (Next.value (<- s))):Sem Next).run P w = .ok (.value v) w')\/∃ x w',((do pure (Next.value (<- s))):Sem Next).run P w = .halt x w':=by
 have e:=Sem.run_bind' P s (fun v=>(pure (Next.value v):Sem Next)) w;cases hs:s.run P w with
 | ok v w'=>exact .inl ⟨v,w',by rw [hs] at e;exact e⟩
 | halt x w'=>exact .inr ⟨x,w',by rw [hs] at e;exact e⟩
theorem zvk {s:Sem Unit} {w:World}:(∃ w',((do s;pure Next.skip):Sem Next).run P w = .ok .skip w')\/∃ x w',((do s;pure Next.skip):Sem Next).run P w = .halt x w':=by
 have e:=Sem.run_bind' P s (fun _=>(pure Next.skip:Sem Next)) w;cases hs:s.run P w with
 | ok v w'=>exact .inl ⟨w',by rw [hs] at e;exact e⟩
 | halt x w'=>exact .inr ⟨x,w',by rw [hs] at e;exact e⟩
theorem zuk {o:Oper} (h:zuj o=true):Tame P o:=by
 intro a w;have fin:∀ {r:Result Next},((∃ v w',r = .ok (.value v) w')\/∃ x w',r = .halt x w')->(∀ f args w',r ≠ .ok (.enter f args) w')/\∀ x args w',r ≠ .ok (.row x args) w':=by
  rintro r (⟨v,w',rfl⟩ | ⟨x,w',rfl⟩)
  ·exact ⟨fun _ _ _ e=>(by cases e),fun _ _ _ e=>(by cases e)⟩
  ·exact ⟨fun _ _ _ e=>(by cases e),fun _ _ _ e=>(by cases e)⟩
 have finu:∀ {r:Result Next},((∃ w',r = .ok .skip w')\/∃ x w',r = .halt x w')->(∀ f args w',r ≠ .ok (.enter f args) w')/\∀ x args w',r ≠ .ok (.row x args) w':=by
  rintro r (⟨w',rfl⟩ | ⟨x,w',rfl⟩)
  ·exact ⟨fun _ _ _ e=>(by cases e),fun _ _ _ e=>(by cases e)⟩
  ·exact ⟨fun _ _ _ e=>(by cases e),fun _ _ _ e=>(by cases e)⟩
 unfold zuj at h;unfold execOp;split at h
 all_goals (rename_i ho;simp only [ho])
 all_goals first
  | exact fin (zvl (P:=P))
  | exact finu (zvk (P:=P))
  | exact fin (.inl ⟨_,_,rfl⟩)
  | cases h
end
end
set_option linter.unusedVariables false
section
variable {P:Program} {ops:Array Oper}
structure PD where
 W:Nat->Bool
 J:World->Prop
def zb1 (P:Program) (ops:Array Oper) (Q:Exit->Act->World->Prop):Nat->List PD->Array Bool->Act->World->Prop
 | 0,_,li,a,w=>Region.ready .any ops li=[]/\Q .normal a w
 | n+1,L,li,a,w=>(Region.ready .any ops li=[]->Q .normal a w)/\
  ∀ j∈Region.ready .any ops li,wpOp P ops Q j (fun a' w'=>(∀ p∈L,p.W j=false->p.J w')/\zb1 P ops Q n (L.filter fun p => !p.W j) (li.setIfInBounds j true) a' w') a w
variable {Q:Exit->Act->World->Prop}
theorem zjE:∀ (n:Nat) (li:Array Bool) (a:Act) (w:World),zb1 P ops Q n [] li a w->wpAny P .any ops Q n li a w
 | 0,_,_,_,h=>h
 | n+1,_,_,_,h=>⟨h.1,fun i hi=>wpOp_mono (fun a' w' h'=>zjE n _ a' w' h'.2) (h.2 i hi)⟩
theorem zfD:∀ (n:Nat) (L L':List PD) (li:Array Bool) (a:Act) (w:World),(∀ p∈L',p∈L)->zb1 P ops Q n L li a w->zb1 P ops Q n L' li a w
 | 0,_,_,_,_,_,_,h=>h
 | n+1,L,L',_,_,_,hs,h=>⟨h.1,fun i hi=>wpOp_mono (fun a' w' h'=>⟨fun p hp=>h'.1 p (hs p hp),zfD n _ _ _ a' w' (fun p hp=>by
   rw [List.mem_filter] at hp ⊢;exact ⟨hs p hp.1,hp.2⟩) h'.2⟩) (h.2 i hi)⟩
theorem zbC {Q':Exit->Act->World->Prop} (hq:∀ e a w,Q e a w->Q' e a w):∀ (n:Nat) (L:List PD) (li:Array Bool) (a:Act) (w:World),zb1 P ops Q n L li a w->zb1 P ops Q' n L li a w
 | 0,_,_,_,_,h=>⟨h.1,hq _ _ _ h.2⟩
 | n+1,_,_,_,_,h=>⟨fun hr=>hq _ _ _ (h.1 hr),fun i hi=>zhz hq (fun _ _ h'=>⟨h'.1,zbC hq n _ _ _ _ h'.2⟩) (h.2 i hi)⟩
theorem zj4 {i:Nat} {oi:Oper} {v:Value} (p:PD) (hi:ops[i]? =some oi) (hsel:∀ (j:Nat) (o:Oper) cs b,ops[j]? =some o->o.op ≠ .select cs b)
  (hQ:∀ c a w,Q (.panic c) (a.put oi.dst v) w->Q (.panic c) a w) (hW:∀ k,p.W k=true->∃ ok,ops[k]? =some ok/\∃ e∈ok.after,Region.binds .any e=true/\(e.on=i\/p.W e.on=true)):
  ∀ (n:Nat) (L:List PD) (li:Array Bool) (a:Act) (w:World),(∀ k,p.W k=true->li.getD k true=false)->
   (∀ j oj,ops[j]? =some oj->j≠i->li.getD j true=false->p.W j=false->oi.apart ops oj=true)->
   i∈Region.ready .any ops li->YieldsIf P ops p.J oi v a->p.J w->(∀ q∈L,q.J w)->
   zb1 P ops Q n (p::L) (li.setIfInBounds i true) (a.put oi.dst v) w->zb1 P ops Q (n+1) L li a w:=by
 intro n;induction n with
 | zero=>
  intro L li a w _ _ hr hy hJ hL H;refine ⟨fun h=>(by rw [h] at hr;cases hr),fun j hj => ?_⟩;by_cases hji:j=i
  ·subst hji;exact hy.wpOp hi hJ ⟨fun q hq _=>hL q hq,zfD 0 _ _ _ _ _ (fun q hq=>List.mem_cons_of_mem _ (List.mem_filter.1 hq).1) H⟩
  ·have:=ready_mono hj hji;rw [H.1] at this;cases this
 | succ n ih=>
  intro L li a w hWl hfree hr hy hJ hL H;refine ⟨fun h=>(by rw [h] at hr;cases hr),fun j hj => ?_⟩;by_cases hji:j=i
  ·subst hji;exact hy.wpOp hi hJ ⟨fun q hq _=>hL q hq,zfD (n+1) _ _ _ _ _ (fun q hq=>List.mem_cons_of_mem _ (List.mem_filter.1 hq).1) H⟩
  ·have h1:=H.2 j (ready_mono hj hji);obtain ⟨hjun,oj,hoj,hall⟩:=mem_ready.1 hj;have unl:∀ k,li.getD k true=false -> ¬ li.getD k false=true:=fun k h0 h1=>by
    rcases Nat.lt_or_ge k li.size with h' | h'
    ·simp [h'] at h0 h1;rw [h0] at h1;cases h1
    ·simp [Array.getElem?_eq_none h'] at h1
   have hWj:p.W j=false:=by
    cases hw:p.W j with
    | false=>rfl
    | true=>
     obtain ⟨ok,hok,e,he,hb,hon⟩:=hW j hw;rw [hoj] at hok;cases hok;have h2:=hall e he hb;rcases hon with rfl | hon
     ·exact absurd h2 (unl _ (mem_ready.1 hr).1)
     ·exact absurd h2 (unl _ (hWl _ hon))
   have hap:=hfree j oj hoj hji hjun hWj;have h2:=wpOp_putIf hoj hap (fun cs b=>hsel i oi cs b hi) (fun cs b=>hsel j oj cs b hoj) hQ hy h1;have hWl':∀ k,p.W k=true->(li.setIfInBounds j true).getD k true=false:=fun k hk=>by
    by_cases hjk:j=k
    ·subst hjk;rw [hk] at hWj;cases hWj
    ·rw [getD_set_ne true hjk];exact hWl k hk
   have hfree':∀ k ok,ops[k]? =some ok->k≠i->(li.setIfInBounds j true).getD k true=false->p.W k=false->oi.apart ops ok=true:=fun k ok hk hki hun hno=>by
    refine hfree k ok hk hki ?_ hno;by_cases hjk:j=k
    ·subst hjk;exact hjun
    ·rw [getD_set_ne true hjk] at hun;exact hun
   refine wpOp_mono (fun a' w' h3 => ?_) h2;obtain ⟨g1,g2,g3⟩:=h3;have hL':∀ q∈L,q.W j=false->q.J w':=fun q hq hqj=>g2 q (List.mem_cons_of_mem _ hq) hqj
   refine ⟨hL',?_⟩;have hfil:(p::L).filter (fun p => !p.W j)=p::L.filter fun p => !p.W j:=by
    rw [List.filter_cons,if_pos (by rw [hWj];rfl)]
   rw [hfil] at g3;refine ih _ (li.setIfInBounds j true) a' w' hWl' hfree' (ready_mono hr (Ne.symm hji)) g1 (g2 p (List.mem_cons_self ..) hWj) (fun q hq => ?_) ?_
   ·rw [List.mem_filter] at hq;exact hL' q hq.1 (by simpa using hq.2)
   ·rw [Array.setIfInBounds_comm _ _ hji];exact g3
theorem zf1 {i:Nat} {oi:Oper} {v:Value} (hi:ops[i]? =some oi) (hsel:∀ (j:Nat) (o:Oper) cs b,ops[j]? =some o->o.op ≠ .select cs b)
  (hQ:∀ c a w,Q (.panic c) (a.put oi.dst v) w->Q (.panic c) a w):
  ∀ (n:Nat) (L:List PD) (li:Array Bool) (a:Act) (w:World),
   (∀ j oj,ops[j]? =some oj->j≠i->li.getD j true=false->(∀ e∈oj.after,Region.binds .any e=true->e.on≠i)->oi.apart ops oj=true)->
   i∈Region.ready .any ops li->YieldsIf P ops (fun _=>True) oi v a->(∀ q∈L,q.J w)->
   zb1 P ops Q n L (li.setIfInBounds i true) (a.put oi.dst v) w->zb1 P ops Q (n+1) L li a w:=by
 intro n;induction n with
 | zero=>
  intro L li a w hfree hr hy hL H;refine ⟨fun h=>(by rw [h] at hr;cases hr),fun j hj => ?_⟩;by_cases hji:j=i
  ·subst hji;exact hy.wpOp hi trivial ⟨fun q hq _=>hL q hq,zfD 0 _ _ _ _ _ (fun q hq=>(List.mem_filter.1 hq).1) H⟩
  ·have:=ready_mono hj hji;rw [H.1] at this;cases this
 | succ n ih=>
  intro L li a w hfree hr hy hL H;refine ⟨fun h=>(by rw [h] at hr;cases hr),fun j hj => ?_⟩;by_cases hji:j=i
  ·subst hji;exact hy.wpOp hi trivial ⟨fun q hq _=>hL q hq,zfD (n+1) _ _ _ _ _ (fun q hq=>(List.mem_filter.1 hq).1) H⟩
  ·have h1:=H.2 j (ready_mono hj hji);obtain ⟨hjun,oj,hoj,hall⟩:=mem_ready.1 hj;have unl:∀ k,li.getD k true=false -> ¬ li.getD k false=true:=fun k h0 h1=>by
    rcases Nat.lt_or_ge k li.size with h' | h'
    ·simp [h'] at h0 h1;rw [h0] at h1;cases h1
    ·simp [Array.getElem?_eq_none h'] at h1
   have hap:=hfree j oj hoj hji hjun (fun e he hb hon=>by
    have h2:=hall e he hb;rw [hon] at h2;exact unl _ (mem_ready.1 hr).1 h2)
   have h2:=wpOp_putIf hoj hap (fun cs b=>hsel i oi cs b hi) (fun cs b=>hsel j oj cs b hoj) hQ hy h1;have hfree':∀ k ok,ops[k]? =some ok->k≠i->(li.setIfInBounds j true).getD k true=false->(∀ e∈ok.after,Region.binds .any e=true->e.on≠i)->oi.apart ops ok=true:=fun k ok hk hki hun hno=>by
    refine hfree k ok hk hki ?_ hno;by_cases hjk:j=k
    ·subst hjk;exact hjun
    ·rw [getD_set_ne true hjk] at hun;exact hun
   refine wpOp_mono (fun a' w' h3 => ?_) h2;obtain ⟨g1,g2,g3⟩:=h3;refine ⟨g2,?_⟩;refine ih _ (li.setIfInBounds j true) a' w' hfree' (ready_mono hr (Ne.symm hji)) g1 (fun q hq => ?_) ?_
   ·rw [List.mem_filter] at hq;exact g2 q hq.1 (by simpa using hq.2)
   ·rw [Array.setIfInBounds_comm _ _ hji];exact g3
theorem zjF {o:Oper} {a:Act} {w:World} {c i:Nat} {K:Act->World->Prop} (hi:ops[i]? =some o) (h:if Region.wanted o (yielded ops a.tmps)=true then wpC P Q o c a w K else K (a.put o.dst undef) w):
  wpOp P ops Q i (fun a' w'=>(∃ u,a'=a.put o.dst u)/\(c<=1->Ext w w')/\K a' w') a w:=by
 unfold wpOp;simp only [hi];split
 ·rename_i hw;rw [if_pos hw] at h;refine .inl ?_
  match c,h with
  | 0,⟨v,h1,h2⟩=>exact zjb h1 ⟨⟨v,rfl⟩,fun _=>Ext.refl w,h2⟩
  | 1,h=>exact Oper.wp_mono2 (fun _ _ h=>⟨h.1,fun _=>h.2.1,h.2.2⟩) (fun _ _ _ h=>h.elim) h
  | c+2,h=>exact Oper.wp_mono2 (fun _ _ h=>⟨h.1,fun hc=>by omega,h.2⟩) (fun _ _ _ h=>h.elim) h
 ·rename_i hw;rw [if_neg hw] at h;exact ⟨⟨undef,rfl⟩,fun _=>Ext.refl w,h⟩
theorem zr6 {F:Fr} {σ:St} {H:Hd} {a:Act} {w:World} (r:RelH F σ H a w):∃ F':Fr,RelH F' σ H a w/\(∀ σ' a' w',Rel F' σ' a' w'->Rel F σ' a' w')/\
  ∀ b,Sh F.X σ.ent H w b->∀ σ' a' w',Rel F' σ' a' w'->w'.heap[b]? =w.heap[b]? :=by
 refine ⟨⟨w,fun b=>∃ id e v,σ.ent id=some e/\H id=some v/\blk v=some b,F.X,F.H0,F.D⟩,⟨r.size,r.defs,rfl,rfl,rfl,Nat.le_refl _,fun _ _ _=>rfl,fun b hb=>Nat.lt_of_lt_of_le (r.xlt b hb) r.grow,r.fresh,r.pin,r.ent,fun id e v b h1 h2 h3=>⟨.inr ⟨id,e,v,h1,h2,h3⟩,(r.own id e v b h1 h2 h3).2⟩,r.inj,r.slot⟩,?_,?_⟩
 ·rintro σ' a' w' ⟨H',r'⟩;refine ⟨H',r'.size,r'.defs,r'.os.trans r.os,r'.tape.trans r.tape,r'.output.trans r.output,Nat.le_trans r.grow r'.grow,fun b hb ho => ?_,r.xlt,r'.fresh,r'.pin,r'.ent,fun id e v b h1 h2 h3 => ?_,r'.inj,r'.slot⟩
  ·refine (r'.keep b (Nat.lt_of_lt_of_le hb r.grow) ?_).trans (r.keep b hb ho);rintro ⟨id,e,v,h1,h2,h3⟩;rcases (r.own id e v b h1 h2 h3).1 with h | h
   ·omega
   ·exact ho h
  ·obtain ⟨h4,h5⟩:=r'.own id e v b h1 h2 h3;refine ⟨?_,h5⟩;rcases h4 with h4 | ⟨id',e',v',k1,k2,k3⟩
   ·exact .inl (Nat.le_trans r.grow h4)
   ·exact (r.own id' e' v' b k1 k2 k3).1
 ·rintro b hb σ' a' w' ⟨H',r'⟩;exact r'.keep b hb.1 fun ⟨id,e,v,h1,h2,h3⟩=>hb.2.2 id e v h1 h2 h3
theorem ziM {F:Fr} {σ:St} {H:Hd} {a:Act} {w:World} {o:Oper} {t:TypeId} {x:Operand} {c:D} (r:RelH F σ H a w) (ho:o.op = .load t x) (hx:σ.ev x=some (.addr c)) (hs:c.cells=[c]/\(∃ dsc,P.underlying t=some dsc/\dAgg dsc=false)\/
  ∃ l size bytes z,c = .agg l/\TI P t true size bytes z/\l.length=size):∃ b v,Sh F.X σ.ent H w b/\∀ w',w'.heap[b]? =w.heap[b]? ->(execOp a.eval o).run P w' = .ok (.value v) w':=by
 have hv:=r.ev hx;generalize hu:a.eval x=u at hv;cases hv with
 | addr _ b k f hb hcell hrel=>
  rcases hs with ⟨h1,dsc,ht,hn⟩ | ⟨l,size,bytes,z,rfl,ht,rfl⟩
  ·have h0:=hcell 0 (by rw [h1];simp);refine ⟨b,f 0,hb,fun w' he => ?_⟩;simp only [execOp,ho,hu,Instr.loadAt,Instr.sureAddr];have:=zel (w:=w') ht hn (show w'.cell? ⟨b,k+0,none⟩=some (f 0) from (World.cell?_of_block (w:=w) (w':=w') (a:=⟨b,k+0,none⟩) he).trans h0);rw [Nat.add_zero] at this;simp [this]
  ·refine ⟨b,.agg ((Array.range l.length).map f),hb,fun w' he => ?_⟩;simp only [execOp,ho,hu,Instr.loadAt,Instr.sureAddr];have:=zem (w:=w') ht rfl (b:=b) (off:=k) (f:=f) (fun j hj=>(World.cell?_of_block (w:=w) (w':=w') (a:=⟨b,k+j,none⟩) he).trans (hcell j hj));simp [this]
end
end Go.Ab
