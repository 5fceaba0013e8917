/- Regions whose order is drawn: several orders. -/
import Derived.Test.YtpjjgbnbpfdigaaAb16n18
import Derived.OrdersHeld
set_option linter.unusedVariables false
set_option linter.unusedSimpArgs false
set_option linter.unusedSectionVars false
namespace Go.Ab
section
variable {P : Program} {F : Fr} {ops : Array Oper} {σ : St} {o : Oper} {a : Act} {w : World}
theorem wpOp_monoQ {Q Q' : Exit → Act → World → Prop} {K K' : Act → World → Prop} {i : Nat} (hq : ∀ e a w, Q e a w → Q' e a w) (hk : ∀ a w, K a w → K' a w) (h : wpOp P ops Q i K a w) : wpOp P ops Q' i K' a w := by
  unfold wpOp at *
  split
  · exact hk _ _ (by simpa [*] using h)
  · rename_i o ho
    simp only [ho] at h
    split
    · rename_i hw; simp only [hw, if_true] at h; exact h.imp (Oper.wp_mono2 hk hq) (fun h => ⟨h.1, let ⟨a, w, h2⟩ := h.2; ⟨a, w, hq _ _ _ h2⟩⟩)
    · rename_i hw; simp only [hw] at h; exact hk _ _ h
theorem wpAny_monoQ {Q Q' : Exit → Act → World → Prop} (hq : ∀ e a w, Q e a w → Q' e a w) : ∀ (n : Nat) (li : Array Bool) (a : Act) (w : World), wpAny P .any ops Q n li a w → wpAny P .any ops Q' n li a w
  | 0, _, _, _, h => ⟨h.1, hq _ _ _ h.2⟩
  | n + 1, _, _, _, h => ⟨fun hr => hq _ _ _ (h.1 hr), fun i hi => wpOp_monoQ hq (wpAny_monoQ hq n _) (h.2 i hi)⟩
theorem wpC_Q {Q Q' : Exit → Act → World → Prop} {c : Nat} {K : Act → World → Prop} (h : wpC P Q o c a w K) : wpC P Q' o c a w K := by
  match c, h with
  | 0, h => exact h
  | 1, h => exact h
  | _ + 2, h => exact h
theorem wpOp_of_C {Q : Exit → Act → World → Prop} {c i : Nat} {K : Act → World → Prop} (hi : ops[i]? = some o) (h : if Region.wanted o (yielded ops a.tmps) = true then wpC P Q o c a w K else K (a.put o.dst undef) w) : wpOp P ops Q i K a w := by
  unfold wpOp
  simp only [hi]
  split
  · rename_i hw
    rw [if_pos hw] at h
    refine .inl ?_
    match c, h with
    | 0, ⟨v, h1, h2⟩ => exact wp_of_ro h1 h2
    | 1, h => exact Oper.wp_mono2 (fun _ _ h => h.2.2) (fun _ _ _ h => h.elim) h
    | _ + 2, h => exact Oper.wp_mono2 (fun _ _ h => h.2) (fun _ _ _ h => h.elim) h
  · rename_i hw
    rw [if_neg hw] at h
    exact h
theorem AO.single {c : Nat} {KK : St → Prop} {K : Act → World → Prop} (h : AO P F ops [(c, o)] σ KK) (r : Rel F σ a w) (hk : ∀ σ' a' w', KK σ' → Rel F σ' a' w' → K a' w') (Q : Exit → Act → World → Prop) :
    if Region.wanted o (yielded ops a.tmps) = true then wpC P Q o c a w K else K (a.put o.dst undef) w := by
  have := h a w (fun e a' w' => match e with | .normal => K a' w' | _ => True) r hk
  rw [wpW_cons] at this
  split
  · rename_i hw
    rw [if_pos hw] at this
    exact wpC_Q this
  · rename_i hw
    rw [if_neg hw] at this
    exact this
theorem AW.any {id : Nat} {Q : Exit → St → Prop} (hm : P.follows .mixedOrders = true)
    (h : ∀ a w, Rel F σ a w → wpAny P .any ops (fun e a w => e = .normal ∧ ∃ σ', Q .normal σ' ∧ Rel F σ' a w) ops.size (Array.replicate ops.size false) a w) : AW P F (.region id ops true) σ Q := by
  intro a w r
  exact wp_region_any hm (wpAny_monoQ (fun e a w ⟨he, h⟩ => by subst he; exact h) _ _ _ _ (h a _ r.drew))
theorem wpOp_of_C' {Q : Exit → Act → World → Prop} {c i : Nat} {K : Act → World → Prop} (hi : ops[i]? = some o) (hc : c ≤ 1) (h : if Region.wanted o (yielded ops a.tmps) = true then wpC P Q o c a w K else K (a.put o.dst undef) w) : wpOp P ops Q i (fun a' w' => Ext w w' ∧ K a' w') a w := by
  unfold wpOp
  simp only [hi]
  split
  · rename_i hw
    rw [if_pos hw] at h
    refine .inl ?_
    match c, h with
    | 0, ⟨v, h1, h2⟩ => exact wp_of_ro h1 ⟨Ext.refl w, h2⟩
    | 1, h => exact Oper.wp_mono2 (fun _ _ h => h.2) (fun _ _ _ h => h.elim) h
  · rename_i hw
    rw [if_neg hw] at h
    exact ⟨Ext.refl w, h⟩
def wpAnyG (P : Program) (ops : Array Oper) (Q : Exit → Act → World → Prop) (D : Nat → Bool) : Bool → Nat → Array Bool → Act → World → Prop
  | _, 0, li, a, w => Region.ready .any ops li = [] ∧ Q .normal a w
  | lv, n + 1, li, a, w => (Region.ready .any ops li = [] → Q .normal a w) ∧
    ∀ j ∈ Region.ready .any ops li, wpOp P ops Q j (fun a' w' => ((lv && !D j) = true → Ext w w') ∧ wpAnyG P ops Q D (lv && !D j) n (li.setIfInBounds j true) a' w') a w
section
variable {Q : Exit → Act → World → Prop} {D : Nat → Bool}
theorem wpAny_of_G : ∀ (n : Nat) (lv : Bool) (li : Array Bool) (a : Act) (w : World), wpAnyG P ops Q D lv n li a w → wpAny P .any ops Q n li a w
  | 0, _, _, _, _, h => h
  | n + 1, _, _, _, _, h => ⟨h.1, fun i hi => wpOp_mono (fun a' w' h' => wpAny_of_G n _ _ a' w' h'.2) (h.2 i hi)⟩
theorem wpAnyG_of : ∀ (n : Nat) (li : Array Bool) (a : Act) (w : World), wpAny P .any ops Q n li a w → wpAnyG P ops Q D false n li a w
  | 0, _, _, _, h => h
  | n + 1, _, _, _, h => ⟨h.1, fun i hi => wpOp_mono (fun a' w' h' => ⟨fun e => by simp at e, by simpa using wpAnyG_of n _ a' w' h'⟩) (h.2 i hi)⟩
theorem wpAnyG_monoQ {Q Q' : Exit → Act → World → Prop} (hq : ∀ e a w, Q e a w → Q' e a w) : ∀ (n : Nat) (lv : Bool) (li : Array Bool) (a : Act) (w : World), wpAnyG P ops Q D lv n li a w → wpAnyG P ops Q' D lv n li a w
  | 0, _, _, _, _, h => ⟨h.1, hq _ _ _ h.2⟩
  | n + 1, _, _, _, _, h => ⟨fun hr => hq _ _ _ (h.1 hr), fun i hi => wpOp_monoQ hq (fun _ _ h' => ⟨h'.1, wpAnyG_monoQ hq n _ _ _ _ h'.2⟩) (h.2 i hi)⟩
theorem wpAnyG_first {i : Nat} {oi : Oper} {v : Value} (hi : ops[i]? = some oi) (hsel : ∀ (j : Nat) (o : Oper) cs b, ops[j]? = some o → o.op ≠ .select cs b)
    (hQ : ∀ c a w, Q (.panic c) (a.put oi.dst v) w → Q (.panic c) a w) (W : Nat → Bool) (hW : ∀ k, W k = true → ∃ ok, ops[k]? = some ok ∧ ∃ e ∈ ok.after, Region.binds .any e = true ∧ (e.on = i ∨ W e.on = true)) (hD : D i = false) :
    ∀ (n : Nat) (li : Array Bool) (a : Act) (w : World), (∀ k, W k = true → li.getD k true = false) →
      (∀ j oj, ops[j]? = some oj → j ≠ i → li.getD j true = false → W j = false → oi.apart ops oj = true ∧ D j = false) →
      i ∈ Region.ready .any ops li → YieldsIf P ops (Ext w) oi v a →
      wpAnyG P ops Q D true n (li.setIfInBounds i true) (a.put oi.dst v) w → wpAnyG P ops Q D true (n + 1) li a w := by
  intro n
  induction n with
  | zero =>
    intro li a w _ _ hr hy H
    refine ⟨fun h => (by rw [h] at hr; cases hr), fun j hj => ?_⟩
    by_cases hji : j = i
    · subst hji; exact hy.wpOp hi (Ext.refl w) ⟨fun _ => Ext.refl w, by rw [hD]; exact H⟩
    · have := ready_mono hj hji
      rw [H.1] at this
      cases this
  | succ n ih =>
    intro li a w hWl hfree hr hy H
    refine ⟨fun h => (by rw [h] at hr; cases hr), fun j hj => ?_⟩
    by_cases hji : j = i
    · subst hji; exact hy.wpOp hi (Ext.refl w) ⟨fun _ => Ext.refl w, by rw [hD]; exact H⟩
    · have h1 := H.2 j (ready_mono hj hji)
      obtain ⟨hjun, oj, hoj, hall⟩ := mem_ready.1 hj
      have unl : ∀ k, li.getD k true = false → ¬ li.getD k false = true := fun k h0 h1 => by
        rcases Nat.lt_or_ge k li.size with h' | h'
        · simp [h'] at h0 h1; rw [h0] at h1; cases h1
        · simp [Array.getElem?_eq_none h'] at h1
      have hWj : W j = false := by
        cases hw : W j with
        | false => rfl
        | true =>
          obtain ⟨ok, hok, e, he, hb, hon⟩ := hW j hw
          rw [hoj] at hok; cases hok
          have h2 := hall e he hb
          rcases hon with rfl | hon
          · exact absurd h2 (unl _ (mem_ready.1 hr).1)
          · exact absurd h2 (unl _ (hWl _ hon))
      obtain ⟨hap, hDj⟩ := hfree j oj hoj hji hjun hWj
      have h2 := wpOp_putIf hoj hap (fun cs b => hsel i oi cs b hi) (fun cs b => hsel j oj cs b hoj) hQ hy h1
      have hWl' : ∀ k, W k = true → (li.setIfInBounds j true).getD k true = false := fun k hk => by
        by_cases hjk : j = k
        · subst hjk; rw [hk] at hWj; cases hWj
        · rw [getD_set_ne true hjk]; exact hWl k hk
      have hfree' : ∀ k ok, ops[k]? = some ok → k ≠ i → (li.setIfInBounds j true).getD k true = false → W k = false → oi.apart ops ok = true ∧ D k = false := fun k ok hk hki hun hno => by
        refine hfree k ok hk hki ?_ hno
        by_cases hjk : j = k
        · subst hjk; exact hjun
        · rw [getD_set_ne true hjk] at hun; exact hun
      refine wpOp_mono (fun a' w' h3 => ?_) h2
      have hx := h3.2.1 (by simp [hDj])
      refine ⟨fun _ => hx, ?_⟩
      rw [hDj]
      refine ih (li.setIfInBounds j true) a' w' hWl' hfree' (ready_mono hr (Ne.symm hji)) (h3.1.imp (fun ⟨g1, g2⟩ => ⟨g1, fun w'' h => g2 w'' (hx.trans h)⟩) id) ?_
      rw [Array.setIfInBounds_comm _ _ hji]
      have h4 := h3.2.2
      rw [hDj] at h4
      exact h4
end
end
end Go.Ab
