/- Regions whose order is drawn: several orders. -/
import Derived.Test.YtokjfldjjehmkaaAb10n18
set_option linter.unusedVariables false
set_option linter.unusedSimpArgs false
set_option linter.unusedSectionVars false
namespace Go.Ab
section
variable {P : Program} {F : Fr} {ops : Array Oper} {σ : St} {o : Oper} {a : Act} {w : World}
theorem wpOp_monoQ {Q Q' : Exit → Act → World → Prop} {K K' : Act → World → Prop} {i : Nat} (hq : ∀ e a w, Q e a w → Q' e a w) (hk : ∀ a w, K a w → K' a w) (h : wpOp P ops Q i K a w) : wpOp P ops Q' i K' a w := by
  unfold wpOp at *
  split
  · exact hk _ _ (by simpa [*] using h)
  · rename_i o ho
    simp only [ho] at h
    split
    · rename_i hw; simp only [hw, if_true] at h; exact h.imp (Oper.wp_mono2 hk hq) (fun h => ⟨h.1, let ⟨a, w, h2⟩ := h.2; ⟨a, w, hq _ _ _ h2⟩⟩)
    · rename_i hw; simp only [hw] at h; exact hk _ _ h
theorem wpAny_monoQ {Q Q' : Exit → Act → World → Prop} (hq : ∀ e a w, Q e a w → Q' e a w) : ∀ (n : Nat) (li : Array Bool) (a : Act) (w : World), wpAny P .any ops Q n li a w → wpAny P .any ops Q' n li a w
  | 0, _, _, _, h => ⟨h.1, hq _ _ _ h.2⟩
  | n + 1, _, _, _, h => ⟨fun hr => hq _ _ _ (h.1 hr), fun i hi => wpOp_monoQ hq (wpAny_monoQ hq n _) (h.2 i hi)⟩
theorem wpC_Q {Q Q' : Exit → Act → World → Prop} {c : Nat} {K : Act → World → Prop} (h : wpC P Q o c a w K) : wpC P Q' o c a w K := by
  match c, h with
  | 0, h => exact h
  | 1, h => exact h
  | _ + 2, h => exact h
theorem wpOp_of_C {Q : Exit → Act → World → Prop} {c i : Nat} {K : Act → World → Prop} (hi : ops[i]? = some o) (h : if Region.wanted o (yielded ops a.tmps) = true then wpC P Q o c a w K else K (a.put o.dst undef) w) : wpOp P ops Q i K a w := by
  unfold wpOp
  simp only [hi]
  split
  · rename_i hw
    rw [if_pos hw] at h
    refine .inl ?_
    match c, h with
    | 0, ⟨v, h1, h2⟩ => exact wp_of_ro h1 h2
    | 1, h => exact Oper.wp_mono2 (fun _ _ h => h.2.2) (fun _ _ _ h => h.elim) h
    | _ + 2, h => exact Oper.wp_mono2 (fun _ _ h => h.2) (fun _ _ _ h => h.elim) h
  · rename_i hw
    rw [if_neg hw] at h
    exact h
/-- One operation, from its abstract step. -/
theorem AO.single {c : Nat} {KK : St → Prop} {K : Act → World → Prop} (h : AO P F ops [(c, o)] σ KK) (r : Rel F σ a w) (hk : ∀ σ' a' w', KK σ' → Rel F σ' a' w' → K a' w') (Q : Exit → Act → World → Prop) :
    if Region.wanted o (yielded ops a.tmps) = true then wpC P Q o c a w K else K (a.put o.dst undef) w := by
  have := h a w (fun e a' w' => match e with | .normal => K a' w' | _ => True) r hk
  rw [wpW_cons] at this
  split
  · rename_i hw
    rw [if_pos hw] at this
    exact wpC_Q this
  · rename_i hw
    rw [if_neg hw] at this
    exact this
theorem AW.any {id : Nat} {Q : Exit → St → Prop} (hm : P.follows .mixedOrders = true)
    (h : ∀ a w, Rel F σ a w → wpAny P .any ops (fun e a w => e = .normal ∧ ∃ σ', Q .normal σ' ∧ Rel F σ' a w) ops.size (Array.replicate ops.size false) a w) : AW P F (.region id ops true) σ Q := by
  intro a w r
  exact wp_region_any hm (wpAny_monoQ (fun e a w ⟨he, h⟩ => by subst he; exact h) _ _ _ _ (h a _ r.drew))
end
end Go.Ab
