/- The law 'TreeAccepts' of the plain functions. -/
import Derived.Test.YtiihghghjoonhaaTreeAcceptsD
set_option maxHeartbeats 1000000
set_option maxRecDepth 20000
set_option linter.unusedSimpArgs false
set_option linter.unusedVariables false
set_option linter.unusedSectionVars false
namespace Go.Proofs.Ytiihghghjoonhaa.treeAcceptsW
open Go Go.Ab
/-- The answer is yes just if P. -/
def Tells (o : Option Bool) (P : Prop) : Prop := ∃ b, o = some b ∧ (b = true ↔ P)
theorem Tells.of {b : Bool} {P : Prop} (h : b = true ↔ P) : Tells (some b) P := ⟨b, rfl, h⟩
theorem Tells.dec {P Q : Prop} [Decidable P] (h : P ↔ Q) : Tells (some (decide P)) Q := ⟨_, rfl, by simpa using h⟩
theorem Tells.iff {o : Option Bool} {P Q : Prop} (h : Tells o P) (k : P ↔ Q) : Tells o Q := let ⟨b, h1, h2⟩ := h; ⟨b, h1, h2.trans k⟩
theorem Tells.eq {o : Option Bool} {P : Prop} [Decidable P] (h : Tells o P) : o = some (decide P) := by
  obtain ⟨b, rfl, hb⟩ := h
  by_cases hp : P
  · simp [hp, hb.2 hp]
  · have : b = false := by cases b; rfl; exact absurd (hb.1 rfl) hp
    simp [hp, this]
theorem Tells.to {R : Type} {o : Option Bool} {P : Prop} {k1 k2 x : Option R} (h : Tells o P) (h1 : P → k1 = x) (h2 : ¬ P → k2 = x) : (o.bind fun y => if y = true then k1 else k2) = x := by
  obtain ⟨b, rfl, hb⟩ := h
  refine bind_to rfl ?_
  cases b
  · exact h2 fun hp => by simpa using hb.2 hp
  · exact h1 (hb.1 rfl)
theorem Tells.bind {R : Type} {o : Option Bool} {P : Prop} {k : Bool → Option R} {x : Option R} (h : Tells o P) (h1 : ∀ b, (b = true ↔ P) → k b = x) : o.bind k = x := by
  obtain ⟨b, rfl, hb⟩ := h
  exact h1 b hb
section
variable {α C : Type} [Inhabited α]
theorem ex_ix {l : List α} {P : α → Prop} : (∃ x ∈ l, P x) ↔ ∃ i : Int, 0 ≤ i ∧ i < l.length ∧ P (ix l i) := by
  constructor
  · rintro ⟨x, hx, hp⟩
    obtain ⟨i, hi, rfl⟩ := List.mem_iff_getElem.1 hx
    refine ⟨i, by omega, by omega, ?_⟩
    rwa [ix_eq (by omega) (by omega)]
  · rintro ⟨i, h0, h1, hp⟩
    exact ⟨_, ix_mem h0 h1, hp⟩
theorem index_loop {s : List α} {f : α → Option Bool} {L : Int → Option Int} {P : α → Prop} (hs : s.length ≤ 4611686018427387904)
    (hL : ∀ t, L t = if decide (t < (s.length : Int)) = true then G (0 ≤ t ∧ t < (s.length : Int)) ((f (ix s t)).bind fun y => if y = true then some t else G (fits (t + 1)) (L (t + 1))) else some (-1))
    (hf : ∀ x ∈ s, Tells (f x) (P x)) : ∀ (n : Nat) (t : Int), 0 ≤ t → t ≤ s.length → (s.length - t).toNat = n →
      ∃ i, L t = some i ∧ ((i = -1 ∧ ∀ j : Int, t ≤ j → j < s.length → ¬ P (ix s j)) ∨ (t ≤ i ∧ i < s.length ∧ P (ix s i) ∧ ∀ j : Int, t ≤ j → j < i → ¬ P (ix s j))) := by
  intro n
  induction n with
  | zero =>
    intro t h0 h1 hn
    refine ⟨-1, ?_, .inl ⟨rfl, fun j a b => by omega⟩⟩
    rw [hL, if_neg (by simp; omega)]
  | succ n ih =>
    intro t h0 h1 hn
    rw [hL, if_pos (by simp; omega), G_pos (by omega)]
    obtain ⟨b, hb, hbp⟩ := hf _ (ix_mem h0 (by omega : t < s.length))
    rw [hb]
    cases b with
    | true => exact ⟨t, rfl, .inr ⟨by omega, by omega, hbp.1 rfl, fun j a b => by omega⟩⟩
    | false =>
      have hnp : ¬ P (ix s t) := fun hp => by simpa using hbp.2 hp
      obtain ⟨i, hi, hc⟩ := ih (t + 1) (by omega) (by omega) (by omega)
      refine ⟨i, ?_, ?_⟩
      · refine (if_neg (by simp) : (if false = true then some t else G (fits (t + 1)) (L (t + 1))) = _).trans ?_
        rw [G_pos (by unfold fits; omega), hi]
      · rcases hc with ⟨h2, h3⟩ | ⟨h2, h3, h4, h5⟩
        · refine .inl ⟨h2, fun j a b => ?_⟩
          by_cases e : j = t
          · rw [e]; exact hnp
          · exact h3 j (by omega) b
        · refine .inr ⟨by omega, h3, h4, fun j a b => ?_⟩
          by_cases e : j = t
          · rw [e]; exact hnp
          · exact h5 j (by omega) b
theorem contains_tells {s : List α} {f : α → Option Bool} {L : Int → Option Int} {P : α → Prop}
    (hL : ∀ t, L t = if decide (t < (s.length : Int)) = true then G (0 ≤ t ∧ t < (s.length : Int)) ((f (ix s t)).bind fun y => if y = true then some t else G (fits (t + 1)) (L (t + 1))) else some (-1))
    (hs : s.length ≤ 4611686018427387904) (hf : ∀ x ∈ s, Tells (f x) (P x)) : Tells ((L 0).bind fun y => some (decide ((0 : Int) ≤ y))) (∃ x ∈ s, P x) := by
  obtain ⟨i, hi, hc⟩ := index_loop hs hL hf _ 0 (by omega) (by omega) rfl
  rw [hi]
  refine ⟨decide (0 ≤ i), rfl, ?_⟩
  rw [decide_eq_true_iff, ex_ix]
  rcases hc with ⟨h2, h3⟩ | ⟨h2, h3, h4, h5⟩
  · constructor
    · intro h; omega
    · rintro ⟨j, h0, h1, hp⟩; exact absurd hp (h3 j h0 h1)
  · exact ⟨fun _ => ⟨i, by omega, h3, h4⟩, fun _ => by omega⟩
/-- .. of what carries along what it reads. -/
theorem contains_tells2 {s : List α} {c : C} {f : α → C → Option (Bool × C)} {L : Int → C → Option (Int × C)} {P : α → Prop}
    (hL : ∀ t c, L t c = if decide (t < (s.length : Int)) = true then G (0 ≤ t ∧ t < (s.length : Int)) ((f (ix s t) c).bind fun y => if y.1 = true then some (t, y.2) else G (fits (t + 1)) (L (t + 1) y.2)) else some (-1, c))
    (hs : s.length ≤ 4611686018427387904) (hf : ∀ x ∈ s, ∃ b, f x c = some (b, c) ∧ (b = true ↔ P x)) : ∃ b, ((L 0 c).bind fun y => some (decide ((0 : Int) ≤ y.1), y.2)) = some (b, c) ∧ (b = true ↔ ∃ x ∈ s, P x) := by
  have key : ∀ (n : Nat) (t : Int), 0 ≤ t → t ≤ s.length → (s.length - t).toNat = n →
      ∃ i, L t c = some (i, c) ∧ ((i = -1 ∧ ∀ j : Int, t ≤ j → j < s.length → ¬ P (ix s j)) ∨ (t ≤ i ∧ i < s.length ∧ P (ix s i))) := by
    intro n
    induction n with
    | zero =>
      intro t h0 h1 hn
      refine ⟨-1, ?_, .inl ⟨rfl, fun j a b => by omega⟩⟩
      rw [hL, if_neg (by simp; omega)]
    | succ n ih =>
      intro t h0 h1 hn
      rw [hL, if_pos (by simp; omega), G_pos (by omega)]
      obtain ⟨b, hb, hbp⟩ := hf _ (ix_mem h0 (by omega : t < s.length))
      rw [hb]
      cases b with
      | true => exact ⟨t, rfl, .inr ⟨by omega, by omega, hbp.1 rfl⟩⟩
      | false =>
        have hnp : ¬ P (ix s t) := fun hp => by simpa using hbp.2 hp
        obtain ⟨i, hi, hc⟩ := ih (t + 1) (by omega) (by omega) (by omega)
        refine ⟨i, ?_, ?_⟩
        · refine (if_neg (by simp) : (if false = true then some (t, c) else G (fits (t + 1)) (L (t + 1) c)) = _).trans ?_
          rw [G_pos (by unfold fits; omega), hi]
        · rcases hc with ⟨h2, h3⟩ | ⟨h2, h3, h4⟩
          · refine .inl ⟨h2, fun j a b => ?_⟩
            by_cases e : j = t
            · rw [e]; exact hnp
            · exact h3 j (by omega) b
          · exact .inr ⟨by omega, h3, h4⟩
  obtain ⟨i, hi, hc⟩ := key _ 0 (by omega) (by omega) rfl
  rw [hi]
  refine ⟨decide (0 ≤ i), rfl, ?_⟩
  rw [decide_eq_true_iff, ex_ix]
  rcases hc with ⟨h2, h3⟩ | ⟨h2, h3, h4⟩
  · constructor
    · intro h; omega
    · rintro ⟨j, h0, h1, hp⟩; exact absurd hp (h3 j h0 h1)
  · exact ⟨fun _ => ⟨i, by omega, h3, h4⟩, fun _ => by omega⟩
end
/-- A loop that looks for the first fault. -/
theorem scan_to {R : Type} {len : Int} {L : Int → Option R} {bad : Int → Prop} {x : Option R} {lo : Int} (h0 : lo ≤ len)
    (hs : ∀ t, lo ≤ t → t < len → (bad t → L t = x) ∧ (¬ bad t → L t = L (t + 1))) (hf : (∀ t, lo ≤ t → t < len → ¬ bad t) → L len = x) : L lo = x := by
  have key : ∀ (n : Nat) (t : Int), lo ≤ t → t ≤ len → (len - t).toNat = n → (∀ j, lo ≤ j → j < t → ¬ bad j) → L t = x := by
    intro n
    induction n with
    | zero =>
      intro t h1 h2 hn h
      obtain rfl : t = len := by omega
      exact hf h
    | succ n ih =>
      intro t h1 h2 hn h
      by_cases hb : bad t
      · exact (hs t h1 (by omega)).1 hb
      · rw [(hs t h1 (by omega)).2 hb]
        refine ih (t + 1) (by omega) (by omega) (by omega) fun j a b => ?_
        by_cases e : j = t
        · rw [e]; exact hb
        · exact h j a (by omega)
  exact key _ lo (Int.le_refl _) h0 rfl (fun j a b => by omega)
/-- A loop that counts, with a state. -/
theorem fold_to {R S : Type} {len : Int} {L : Int → S → Option R} {f : Int → S → S} {lo : Int} {I : Int → S → Prop} {s : S} (h0 : lo ≤ len) (hI : I lo s)
    (hs : ∀ t s, lo ≤ t → t < len → I t s → L t s = L (t + 1) (f t s) ∧ I (t + 1) (f t s)) : ∃ s', I len s' ∧ L lo s = L len s' := by
  have key : ∀ (n : Nat) (t : Int) (s : S), lo ≤ t → t ≤ len → (len - t).toNat = n → I t s → ∃ s', I len s' ∧ L t s = L len s' := by
    intro n
    induction n with
    | zero =>
      intro t s h1 h2 hn h
      obtain rfl : t = len := by omega
      exact ⟨s, h, rfl⟩
    | succ n ih =>
      intro t s h1 h2 hn h
      obtain ⟨e, h3⟩ := hs t s h1 (by omega) h
      obtain ⟨s', h4, h5⟩ := ih (t + 1) _ (by omega) (by omega) (by omega) h3
      exact ⟨s', h4, e.trans h5⟩
  exact key _ lo s (Int.le_refl _) h0 rfl hI

abbrev Rl := Int × Int × Int × Int × Unit
abbrev TA := Int × Int × (List Rl) × Int × (List Int) × Unit
abbrev Nd := Int × Int × Int × Unit
def RLt (x y : Rl) : Prop := x.1 < y.1 ∨ x.1 = y.1 ∧ (x.2.1 < y.2.1 ∨ x.2.1 = y.2.1 ∧ (x.2.2.1 < y.2.2.1 ∨ x.2.2.1 = y.2.2.1 ∧ x.2.2.2.1 < y.2.2.2.1))
def TLet (t : TA) : Prop := t.1 < 1 ∨ 4 < t.1
def TSize (t : TA) : Prop := t.2.1 < 1 ∨ 300 < t.2.1 ∨ 40000 < t.2.2.1.length ∨ ¬ (t.2.2.2.2.1.length : Int) = t.2.1
def RBad (t : TA) (r : Rl) : Prop := r.1 < 0 ∨ t.1 ≤ r.1 ∨ r.2.2.2.1 < 0 ∨ t.2.1 ≤ r.2.2.2.1 ∨ (¬ (r.2.1 = -1 ∧ r.2.2.1 = -1) ∧ (r.2.1 < 0 ∨ t.2.1 ≤ r.2.1 ∨ r.2.2.1 < 0 ∨ t.2.1 ≤ r.2.2.1))
def TRul (t : TA) : Prop := ∃ x ∈ t.2.2.1, RBad t x
def TMrk (t : TA) : Prop := ∃ x ∈ t.2.2.2.2.1, ¬ x = 0 ∧ ¬ x = 1
def TOrd (t : TA) : Prop := ∃ i : Int, 1 ≤ i ∧ i < t.2.2.1.length ∧ ¬ RLt (ix t.2.2.1 (i - 1)) (ix t.2.2.1 i)
def TEnd (t : TA) : Prop := TOrd t ∨ t.2.2.2.1 ≠ 0
open Classical in
noncomputable def taE (t : TA) : Int := if TLet t then 2 else if TSize t then 1 else if TRul t then 2 else if TMrk t then 2 else if TEnd t then 3 else 0
theorem chk1 (p : Int) (t : TA) : Tells (tree_Check_1 p t) (p < 0 ∨ t.2.1 ≤ p) := by
  unfold tree_Check_1
  by_cases h : p < 0
  · rw [if_pos (decide_eq_true h)]; exact Tells.of (by simp [h])
  · rw [if_neg (by simpa using h)]; exact Tells.dec (by omega)
theorem chk2 (m : Int) : Tells (tree_Check_2 m) (¬ m = 0 ∧ ¬ m = 1) := by
  unfold tree_Check_2
  by_cases h : m = 0
  · rw [if_neg (by simp [h])]; exact Tells.of (by simp [h])
  · rw [if_pos (by simp [h])]; exact Tells.dec (by simp [h])
theorem cmp_spec (x y : Int) : cmp_Compare x y = some (if x < y then -1 else if y < x then 1 else 0) := by
  unfold cmp_Compare cmp_isNaN
  simp only [Option.bind_some, not_true, decide_false, Bool.false_eq_true, if_false, decide_eq_true_eq]
  by_cases h : x < y
  · simp [h]
  · by_cases h2 : y < x <;> simp [h, h2]
theorem or_spec (a b c d : Int) : cmp_Or [a, b, c, d] = some (if a ≠ 0 then a else if b ≠ 0 then b else if c ≠ 0 then c else d) := by
  unfold cmp_Or
  rw [cmp_Or_L3_eq]; unfold cmp_Or_L3_B
  have e0 : ix [a, b, c, d] 0 = a := rfl
  have e1 : ix [a, b, c, d] (0 + 1) = b := rfl
  have e2 : ix [a, b, c, d] (0 + 1 + 1) = c := rfl
  have e3 : ix [a, b, c, d] (0 + 1 + 1 + 1) = d := rfl
  rw [if_pos (by simp), G_pos (by simp), e0]
  by_cases h : a = 0
  · rw [if_neg (by simp [h]), G_pos (by decide), cmp_Or_L3_eq]; unfold cmp_Or_L3_B
    rw [if_pos (by simp), G_pos (by simp), e1]
    by_cases h2 : b = 0
    · rw [if_neg (by simp [h2]), G_pos (by decide), cmp_Or_L3_eq]; unfold cmp_Or_L3_B
      rw [if_pos (by simp), G_pos (by simp), e2]
      by_cases h3 : c = 0
      · rw [if_neg (by simp [h3]), G_pos (by decide), cmp_Or_L3_eq]; unfold cmp_Or_L3_B
        rw [if_pos (by simp), G_pos (by simp), e3]
        by_cases h4 : d = 0
        · rw [if_neg (by simp [h4]), G_pos (by decide), cmp_Or_L3_eq]; unfold cmp_Or_L3_B
          rw [if_neg (by simp)]
          simp [h, h2, h3, h4]
        · rw [if_pos (by simp [h4])]; simp [h, h2, h3]
      · rw [if_pos (by simp [h3])]; simp [h, h2, h3]
    · rw [if_pos (by simp [h2])]; simp [h, h2]
  · rw [if_pos (by simp [h])]; simp [h]
theorem order_spec (x y : Rl) : ∃ o, tree_Order x y = some o ∧ (0 ≤ o ↔ ¬ RLt x y) := by
  unfold tree_Order RLt
  rw [cmp_spec, cmp_spec, cmp_spec, cmp_spec]
  simp only [Option.bind_some]
  rw [or_spec]
  refine ⟨_, rfl, ?_⟩
  repeat' split
  all_goals omega
theorem ahead_tells (x y : Rl) : Tells (r12_Ahead x y) (RLt x y) := by
  unfold r12_Ahead RLt
  by_cases h : x.1 = y.1
  · rw [if_neg (by simp [h])]
    by_cases h2 : x.2.1 = y.2.1
    · rw [if_neg (by simp [h2])]
      by_cases h3 : x.2.2.1 = y.2.2.1
      · rw [if_neg (by simp [h3])]; exact Tells.dec (by omega)
      · rw [if_pos (by simp [h3])]; exact Tells.dec (by omega)
    · rw [if_pos (by simp [h2])]; exact Tells.dec (by omega)
  · rw [if_pos (by simp [h])]; exact Tells.dec (by omega)
section
variable {t : TA}
theorem J9_bad {t1 : Int} {r7 : Int → Option Int} {leaf : Bool} (hl : leaf = true ↔ ((ix t.2.2.1 t1).2.1 = -1 ∧ (ix t.2.2.1 t1).2.2.1 = -1)) (hb : RBad t (ix t.2.2.1 t1)) : tree_Check_J9 t t1 r7 leaf = some 2 := by
  unfold tree_Check_J9
  unfold RBad at hb
  generalize ix t.2.2.1 t1 = r at *
  (try dsimp only); (repeat' first | (with_reducible refine G_to ?_ ?_; focus (first | omega | (unfold fits; omega) | (unfold room; (try simp only [List.length_append, List.length_cons, List.length_nil]); omega))) | (with_reducible refine both_to ?_ ?_) | (with_reducible refine itet_to ?_) | (with_reducible refine itef_to ?_) | (with_reducible refine ite_to (fun _ => ?_) (fun _ => ?_))) <;> try (exfalso; omega)
  all_goals first | rfl | skip
  refine Tells.to (chk1 _ _) (fun _ => rfl) (fun h1 => ?_)
  simp only at h1
  cases leaf with
  | false =>
    rw [if_pos (by decide)]
    refine Tells.to (chk1 _ _) (fun _ => rfl) (fun h2 => ?_)
    refine Tells.to (chk1 _ _) (fun _ => rfl) (fun h3 => ?_)
    exfalso
    simp only at h2 h3
    omega
  | true =>
    exfalso
    have := hl.1 rfl
    omega
theorem J9_good {t1 : Int} {r7 : Int → Option Int} {leaf : Bool} (hl : leaf = true ↔ ((ix t.2.2.1 t1).2.1 = -1 ∧ (ix t.2.2.1 t1).2.2.1 = -1)) (hb : ¬ RBad t (ix t.2.2.1 t1)) (hf : fits (t1 + 1)) : tree_Check_J9 t t1 r7 leaf = r7 (t1 + 1) := by
  unfold tree_Check_J9
  unfold RBad at hb
  generalize ix t.2.2.1 t1 = r at *
  (try dsimp only); (repeat' first | (with_reducible refine G_to ?_ ?_; focus (first | omega | (unfold fits; omega) | (unfold room; (try simp only [List.length_append, List.length_cons, List.length_nil]); omega))) | (with_reducible refine both_to ?_ ?_) | (with_reducible refine itet_to ?_) | (with_reducible refine itef_to ?_) | (with_reducible refine ite_to (fun _ => ?_) (fun _ => ?_))) <;> try (exfalso; omega)
  refine Tells.to (chk1 _ _) (fun h => ?_) (fun h1 => ?_)
  · exfalso; simp only at h; omega
  cases leaf with
  | false =>
    rw [if_pos (by decide)]
    have hnl : ¬ (r.2.1 = -1 ∧ r.2.2.1 = -1) := fun h => by cases hl.2 h
    refine Tells.to (chk1 _ _) (fun h => ?_) (fun h2 => ?_)
    · exfalso; simp only at h; omega
    refine Tells.to (chk1 _ _) (fun h => ?_) (fun h3 => ?_)
    · exfalso; simp only at h; omega
    rw [G_pos hf]
  | true =>
    rw [if_neg (by decide), G_pos hf]
theorem tree_Check_spec : tree_Check t = some (taE t) := by
  unfold tree_Check taE
  by_cases c1 : TLet t
  · rw [if_pos c1]; unfold TLet at c1
    (try dsimp only); (repeat' first | (with_reducible refine G_to ?_ ?_; focus (first | omega | (unfold fits; omega) | (unfold room; (try simp only [List.length_append, List.length_cons, List.length_nil]); omega))) | (with_reducible refine both_to ?_ ?_) | (with_reducible refine itet_to ?_) | (with_reducible refine itef_to ?_) | (with_reducible refine ite_to (fun _ => ?_) (fun _ => ?_))) <;> try (exfalso; omega)
    all_goals rfl
  rw [if_neg c1]; unfold TLet at c1
  by_cases c2 : TSize t
  · rw [if_pos c2]; unfold TSize at c2
    (try dsimp only); (repeat' first | (with_reducible refine G_to ?_ ?_; focus (first | omega | (unfold fits; omega) | (unfold room; (try simp only [List.length_append, List.length_cons, List.length_nil]); omega))) | (with_reducible refine both_to ?_ ?_) | (with_reducible refine itet_to ?_) | (with_reducible refine itef_to ?_) | (with_reducible refine ite_to (fun _ => ?_) (fun _ => ?_))) <;> try (exfalso; omega)
    all_goals rfl
  rw [if_neg c2]; unfold TSize at c2
  (try dsimp only); (repeat' first | (with_reducible refine G_to ?_ ?_; focus (first | omega | (unfold fits; omega) | (unfold room; (try simp only [List.length_append, List.length_cons, List.length_nil]); omega))) | (with_reducible refine both_to ?_ ?_) | (with_reducible refine itet_to ?_) | (with_reducible refine itef_to ?_) | (with_reducible refine ite_to (fun _ => ?_) (fun _ => ?_))) <;> try (exfalso; omega)
  refine scan_to (len := (t.2.2.1.length : Int)) (bad := fun i => RBad t (ix t.2.2.1 i)) (by omega) (fun i h0 h1 => ⟨fun hb => ?_, fun hb => ?_⟩) (fun hh => ?_)
  · rw [if_pos (show TRul t from ex_ix.2 ⟨i, h0, h1, hb⟩)]
    rw [tree_Check_L7_eq]; unfold tree_Check_L7_B
    (try dsimp only); (repeat' first | (with_reducible refine G_to ?_ ?_; focus (first | omega | (unfold fits; omega) | (unfold room; (try simp only [List.length_append, List.length_cons, List.length_nil]); omega))) | (with_reducible refine both_to ?_ ?_) | (with_reducible refine itet_to ?_) | (with_reducible refine itef_to ?_) | (with_reducible refine ite_to (fun _ => ?_) (fun _ => ?_))) <;> try (exfalso; omega)
    · rename_i h; exact J9_bad (by simp [h]) hb
    · rename_i h; exact J9_bad (by simp [h]) hb
  · conv => lhs; rw [tree_Check_L7_eq]; unfold tree_Check_L7_B
    (try dsimp only); (repeat' first | (with_reducible refine G_to ?_ ?_; focus (first | omega | (unfold fits; omega) | (unfold room; (try simp only [List.length_append, List.length_cons, List.length_nil]); omega))) | (with_reducible refine both_to ?_ ?_) | (with_reducible refine itet_to ?_) | (with_reducible refine itef_to ?_) | (with_reducible refine ite_to (fun _ => ?_) (fun _ => ?_))) <;> try (exfalso; omega)
    · rename_i h; exact J9_good (by simp [h]) hb (by unfold fits; omega)
    · rename_i h; exact J9_good (by simp [h]) hb (by unfold fits; omega)
  rw [if_neg (show ¬ TRul t from fun h => by obtain ⟨i, i0, i1, i2⟩ := ex_ix.1 h; exact hh i i0 i1 i2)]
  rw [tree_Check_L7_eq]; unfold tree_Check_L7_B
  rw [if_neg (by simp)]
  have hc : Tells (slices_ContainsFunc t.2.2.2.2.1) (TMrk t) := contains_tells (f := tree_Check_2) (slices_IndexFunc_L2_eq t.2.2.2.2.1) (by omega) (fun x _ => chk2 x)
  refine Tells.to hc (fun h => by rw [if_pos h]) (fun c4 => ?_)
  rw [if_neg c4]
  refine scan_to (len := (t.2.2.1.length : Int)) (bad := fun i => 1 ≤ i ∧ ¬ RLt (ix t.2.2.1 (i - 1)) (ix t.2.2.1 i)) (by omega) (fun i h0 h1 => ⟨fun hb => ?_, fun hb => ?_⟩) (fun hh => ?_)
  · rw [if_pos (show TEnd t from .inl ⟨i, hb.1, h1, hb.2⟩)]
    rw [tree_Check_L16_eq]; unfold tree_Check_L16_B
    (try dsimp only); (repeat' first | (with_reducible refine G_to ?_ ?_; focus (first | omega | (unfold fits; omega) | (unfold room; (try simp only [List.length_append, List.length_cons, List.length_nil]); omega))) | (with_reducible refine both_to ?_ ?_) | (with_reducible refine itet_to ?_) | (with_reducible refine itef_to ?_) | (with_reducible refine ite_to (fun _ => ?_) (fun _ => ?_))) <;> try (exfalso; omega)
    obtain ⟨o, e, ho⟩ := order_spec (ix t.2.2.1 (i - 1)) (ix t.2.2.1 i)
    refine bind_to e ?_
    rw [if_pos (decide_eq_true (ho.2 hb.2))]
  · conv => lhs; rw [tree_Check_L16_eq]; unfold tree_Check_L16_B
    by_cases h : 0 < i
    · (try dsimp only); (repeat' first | (with_reducible refine G_to ?_ ?_; focus (first | omega | (unfold fits; omega) | (unfold room; (try simp only [List.length_append, List.length_cons, List.length_nil]); omega))) | (with_reducible refine both_to ?_ ?_) | (with_reducible refine itet_to ?_) | (with_reducible refine itef_to ?_) | (with_reducible refine ite_to (fun _ => ?_) (fun _ => ?_))) <;> try (exfalso; omega)
      obtain ⟨o, e, ho⟩ := order_spec (ix t.2.2.1 (i - 1)) (ix t.2.2.1 i)
      refine bind_to e ?_
      rw [if_neg (by rw [decide_eq_true_iff, ho]; exact fun h => hb ⟨by omega, h⟩), G_pos (by unfold fits; omega)]
    · (try dsimp only); (repeat' first | (with_reducible refine G_to ?_ ?_; focus (first | omega | (unfold fits; omega) | (unfold room; (try simp only [List.length_append, List.length_cons, List.length_nil]); omega))) | (with_reducible refine both_to ?_ ?_) | (with_reducible refine itet_to ?_) | (with_reducible refine itef_to ?_) | (with_reducible refine ite_to (fun _ => ?_) (fun _ => ?_))) <;> try (exfalso; omega)
      all_goals rfl
  · have c5 : ¬ TOrd t := fun ⟨i, i0, i1, i2⟩ => hh i (by omega) i1 ⟨i0, i2⟩
    rw [tree_Check_L16_eq]; unfold tree_Check_L16_B
    rw [if_neg (by simp)]
    by_cases c6 : t.2.2.2.1 = 0
    · rw [if_neg (by simp [c6]), if_neg (show ¬ TEnd t by unfold TEnd; simp [c5, c6])]
    · rw [if_pos (by simp [c6]), if_pos (show TEnd t from .inr c6)]
theorem r12_J10 {i : Int} {r6 : Int → Option Int} {leaf both : Bool} (hl : leaf = true ↔ ((ix t.2.2.1 i).2.1 = -1 ∧ (ix t.2.2.1 i).2.2.1 = -1))
    (hb : both = true ↔ (0 ≤ (ix t.2.2.1 i).2.1 ∧ (ix t.2.2.1 i).2.1 < t.2.1 ∧ 0 ≤ (ix t.2.2.1 i).2.2.1 ∧ (ix t.2.2.1 i).2.2.1 < t.2.1)) (hf : fits (i + 1)) :
    (RBad t (ix t.2.2.1 i) → r12_Check_J10 t i r6 leaf both = some 2) ∧ (¬ RBad t (ix t.2.2.1 i) → r12_Check_J10 t i r6 leaf both = r6 (i + 1)) := by
  unfold r12_Check_J10 RBad
  generalize ix t.2.2.1 i = r at *
  constructor <;> intro h
  · (try dsimp only); (repeat' first | (with_reducible refine G_to ?_ ?_; focus (first | omega | (unfold fits; omega) | (unfold room; (try simp only [List.length_append, List.length_cons, List.length_nil]); omega))) | (with_reducible refine both_to ?_ ?_) | (with_reducible refine itet_to ?_) | (with_reducible refine itef_to ?_) | (with_reducible refine ite_to (fun _ => ?_) (fun _ => ?_))) <;> try (exfalso; omega)
    all_goals first | rfl | skip
    cases leaf with
    | true => exfalso; have := hl.1 rfl; omega
    | false =>
      rw [if_pos (by decide)]
      cases both with
      | false => rfl
      | true => exfalso; have := hb.1 rfl; omega
  · (try dsimp only); (repeat' first | (with_reducible refine G_to ?_ ?_; focus (first | omega | (unfold fits; omega) | (unfold room; (try simp only [List.length_append, List.length_cons, List.length_nil]); omega))) | (with_reducible refine both_to ?_ ?_) | (with_reducible refine itet_to ?_) | (with_reducible refine itef_to ?_) | (with_reducible refine ite_to (fun _ => ?_) (fun _ => ?_))) <;> try (exfalso; omega)
    cases leaf with
    | true => rw [if_neg (by decide), G_pos hf]
    | false =>
      have : ¬ (r.2.1 = -1 ∧ r.2.2.1 = -1) := fun h => by cases hl.2 h
      have : both = true := hb.2 (by omega)
      subst this
      rw [if_pos (by decide), if_neg (by decide), G_pos hf]
theorem r12_J9 {i : Int} {r6 : Int → Option Int} {leaf : Bool} (hl : leaf = true ↔ ((ix t.2.2.1 i).2.1 = -1 ∧ (ix t.2.2.1 i).2.2.1 = -1)) (hf : fits (i + 1)) :
    (RBad t (ix t.2.2.1 i) → r12_Check_J9 t i r6 leaf = some 2) ∧ (¬ RBad t (ix t.2.2.1 i) → r12_Check_J9 t i r6 leaf = r6 (i + 1)) := by
  have key : ∃ both, r12_Check_J9 t i r6 leaf = r12_Check_J10 t i r6 leaf both ∧ (both = true ↔ (0 ≤ (ix t.2.2.1 i).2.1 ∧ (ix t.2.2.1 i).2.1 < t.2.1 ∧ 0 ≤ (ix t.2.2.1 i).2.2.1 ∧ (ix t.2.2.1 i).2.2.1 < t.2.1)) := by
    unfold r12_Check_J9
    by_cases h1 : 0 ≤ (ix t.2.2.1 i).2.1
    · rw [if_pos (decide_eq_true h1)]
      by_cases h2 : (ix t.2.2.1 i).2.1 < t.2.1
      · rw [if_pos (decide_eq_true h2)]
        by_cases h3 : 0 ≤ (ix t.2.2.1 i).2.2.1
        · rw [if_pos (decide_eq_true h3)]; exact ⟨_, rfl, by simp [h1, h2, h3]⟩
        · rw [if_neg (by simpa using h3)]; exact ⟨false, rfl, by simp; omega⟩
      · rw [if_neg (by simpa using h2)]; exact ⟨false, rfl, by simp; omega⟩
    · rw [if_neg (by simpa using h1)]; exact ⟨false, rfl, by simp; omega⟩
  obtain ⟨both, e, hb⟩ := key
  rw [e]
  exact r12_J10 hl hb hf
theorem r12_Check_spec : r12_Check t = some (taE t) := by
  unfold r12_Check taE
  by_cases c1 : TLet t
  · rw [if_pos c1]; unfold TLet at c1
    (try dsimp only); (repeat' first | (with_reducible refine G_to ?_ ?_; focus (first | omega | (unfold fits; omega) | (unfold room; (try simp only [List.length_append, List.length_cons, List.length_nil]); omega))) | (with_reducible refine both_to ?_ ?_) | (with_reducible refine itet_to ?_) | (with_reducible refine itef_to ?_) | (with_reducible refine ite_to (fun _ => ?_) (fun _ => ?_))) <;> try (exfalso; omega)
    all_goals rfl
  rw [if_neg c1]; unfold TLet at c1
  by_cases c2 : TSize t
  · rw [if_pos c2]; unfold TSize at c2
    (try dsimp only); (repeat' first | (with_reducible refine G_to ?_ ?_; focus (first | omega | (unfold fits; omega) | (unfold room; (try simp only [List.length_append, List.length_cons, List.length_nil]); omega))) | (with_reducible refine both_to ?_ ?_) | (with_reducible refine itet_to ?_) | (with_reducible refine itef_to ?_) | (with_reducible refine ite_to (fun _ => ?_) (fun _ => ?_))) <;> try (exfalso; omega)
    all_goals rfl
  rw [if_neg c2]; unfold TSize at c2
  (try dsimp only); (repeat' first | (with_reducible refine G_to ?_ ?_; focus (first | omega | (unfold fits; omega) | (unfold room; (try simp only [List.length_append, List.length_cons, List.length_nil]); omega))) | (with_reducible refine both_to ?_ ?_) | (with_reducible refine itet_to ?_) | (with_reducible refine itef_to ?_) | (with_reducible refine ite_to (fun _ => ?_) (fun _ => ?_))) <;> try (exfalso; omega)
  refine scan_to (len := (t.2.2.1.length : Int)) (bad := fun i => RBad t (ix t.2.2.1 i)) (by omega) (fun i h0 h1 => ⟨fun hb => ?_, fun hb => ?_⟩) (fun hh => ?_)
  · rw [if_pos (show TRul t from ex_ix.2 ⟨i, h0, h1, hb⟩)]
    rw [r12_Check_L6_eq]; unfold r12_Check_L6_B
    (try dsimp only); (repeat' first | (with_reducible refine G_to ?_ ?_; focus (first | omega | (unfold fits; omega) | (unfold room; (try simp only [List.length_append, List.length_cons, List.length_nil]); omega))) | (with_reducible refine both_to ?_ ?_) | (with_reducible refine itet_to ?_) | (with_reducible refine itef_to ?_) | (with_reducible refine ite_to (fun _ => ?_) (fun _ => ?_))) <;> try (exfalso; omega)
    · rename_i h; exact (r12_J9 (by simp [h]) (by unfold fits; omega)).1 hb
    · rename_i h; exact (r12_J9 (by simp [h]) (by unfold fits; omega)).1 hb
  · conv => lhs; rw [r12_Check_L6_eq]; unfold r12_Check_L6_B
    (try dsimp only); (repeat' first | (with_reducible refine G_to ?_ ?_; focus (first | omega | (unfold fits; omega) | (unfold room; (try simp only [List.length_append, List.length_cons, List.length_nil]); omega))) | (with_reducible refine both_to ?_ ?_) | (with_reducible refine itet_to ?_) | (with_reducible refine itef_to ?_) | (with_reducible refine ite_to (fun _ => ?_) (fun _ => ?_))) <;> try (exfalso; omega)
    · rename_i h; exact (r12_J9 (by simp [h]) (by unfold fits; omega)).2 hb
    · rename_i h; exact (r12_J9 (by simp [h]) (by unfold fits; omega)).2 hb
  rw [if_neg (show ¬ TRul t from fun h => by obtain ⟨i, i0, i1, i2⟩ := ex_ix.1 h; exact hh i i0 i1 i2)]
  rw [r12_Check_L6_eq]; unfold r12_Check_L6_B
  rw [if_neg (by simp)]
  refine scan_to (len := (t.2.2.2.2.1.length : Int)) (bad := fun i => ¬ ix t.2.2.2.2.1 i = 0 ∧ ¬ ix t.2.2.2.2.1 i = 1) (by omega) (fun i h0 h1 => ⟨fun hb => ?_, fun hb => ?_⟩) (fun hh => ?_)
  · rw [if_pos (show TMrk t from ex_ix.2 ⟨i, h0, h1, hb⟩)]
    rw [r12_Check_L14_eq]; unfold r12_Check_L14_B
    (try dsimp only); (repeat' first | (with_reducible refine G_to ?_ ?_; focus (first | omega | (unfold fits; omega) | (unfold room; (try simp only [List.length_append, List.length_cons, List.length_nil]); omega))) | (with_reducible refine both_to ?_ ?_) | (with_reducible refine itet_to ?_) | (with_reducible refine itef_to ?_) | (with_reducible refine ite_to (fun _ => ?_) (fun _ => ?_))) <;> try (exfalso; omega)
    all_goals rfl
  · conv => lhs; rw [r12_Check_L14_eq]; unfold r12_Check_L14_B
    (try dsimp only); (repeat' first | (with_reducible refine G_to ?_ ?_; focus (first | omega | (unfold fits; omega) | (unfold room; (try simp only [List.length_append, List.length_cons, List.length_nil]); omega))) | (with_reducible refine both_to ?_ ?_) | (with_reducible refine itet_to ?_) | (with_reducible refine itef_to ?_) | (with_reducible refine ite_to (fun _ => ?_) (fun _ => ?_))) <;> try (exfalso; omega)
    all_goals rfl
  rw [if_neg (show ¬ TMrk t from fun h => by obtain ⟨i, i0, i1, i2⟩ := ex_ix.1 h; exact hh i i0 i1 i2)]
  rw [r12_Check_L14_eq]; unfold r12_Check_L14_B
  rw [if_neg (by simp)]
  have fin : ∀ n : Int, (t.2.2.1.length : Int) ≤ n → r12_Check_L19 t n = some (if t.2.2.2.1 = 0 then 0 else 3) := by
    intro n hn
    rw [r12_Check_L19_eq]; unfold r12_Check_L19_B
    rw [if_neg (by simp only [decide_eq_true_eq]; omega)]
    by_cases c6 : t.2.2.2.1 = 0
    · rw [if_neg (by simp [c6]), if_pos c6]
    · rw [if_pos (by simp [c6]), if_neg c6]
  have fin2 : ¬ TOrd t → ∀ n : Int, (t.2.2.1.length : Int) ≤ n → r12_Check_L19 t n = some (@ite _ (TEnd t) (Classical.propDecidable _) 3 0) := by
    intro c5 n hn
    rw [fin n hn]
    by_cases c6 : t.2.2.2.1 = 0
    · rw [if_pos c6, if_neg (show ¬ TEnd t by unfold TEnd; simp [c5, c6])]
    · rw [if_neg c6, if_pos (show TEnd t from .inr c6)]
  by_cases c4 : t.2.2.1.length = 0
  · exact fin2 (fun ⟨i, i0, i1, i2⟩ => by omega) 1 (by omega)
  refine scan_to (len := (t.2.2.1.length : Int)) (bad := fun i => ¬ RLt (ix t.2.2.1 (i - 1)) (ix t.2.2.1 i)) (by omega) (fun i h0 h1 => ⟨fun hb => ?_, fun hb => ?_⟩) (fun hh => ?_)
  · rw [if_pos (show TEnd t from .inl ⟨i, h0, h1, hb⟩)]
    rw [r12_Check_L19_eq]; unfold r12_Check_L19_B
    (try dsimp only); (repeat' first | (with_reducible refine G_to ?_ ?_; focus (first | omega | (unfold fits; omega) | (unfold room; (try simp only [List.length_append, List.length_cons, List.length_nil]); omega))) | (with_reducible refine both_to ?_ ?_) | (with_reducible refine itet_to ?_) | (with_reducible refine itef_to ?_) | (with_reducible refine ite_to (fun _ => ?_) (fun _ => ?_))) <;> try (exfalso; omega)
    obtain ⟨o, e, ho⟩ := ahead_tells (ix t.2.2.1 (i - 1)) (ix t.2.2.1 i)
    refine bind_to e ?_
    rw [if_pos (by cases o; rfl; exact absurd (ho.1 rfl) hb)]
  · conv => lhs; rw [r12_Check_L19_eq]; unfold r12_Check_L19_B
    (try dsimp only); (repeat' first | (with_reducible refine G_to ?_ ?_; focus (first | omega | (unfold fits; omega) | (unfold room; (try simp only [List.length_append, List.length_cons, List.length_nil]); omega))) | (with_reducible refine both_to ?_ ?_) | (with_reducible refine itet_to ?_) | (with_reducible refine itef_to ?_) | (with_reducible refine ite_to (fun _ => ?_) (fun _ => ?_))) <;> try (exfalso; omega)
    obtain ⟨o, e, ho⟩ := ahead_tells (ix t.2.2.1 (i - 1)) (ix t.2.2.1 i)
    refine bind_to e ?_
    rw [if_neg (by rw [ho.2 (Classical.not_not.1 hb)]; decide), G_pos (by unfold fits; omega)]
  · exact fin2 (fun ⟨i, i0, i1, i2⟩ => hh i (by omega) i1 i2) _ (Int.le_refl _)
end


/- trees -/
section
variable {l : List Nd} {le : Int}
open Classical in
/-- What is wrong with what is left of a tree. -/
noncomputable def trF (l : List Nd) (le : Int) : Nat → Int → List Bool → Int
  | 0, _, c => if ∃ j : Int, 0 ≤ j ∧ j < l.length - 1 ∧ ix c j = false then 3 else 0
  | n + 1, i, c => if (ix l i).1 < 0 ∨ le ≤ (ix l i).1 then 2 else
    if (ix l i).2.1 = -1 ∧ (ix l i).2.2.1 = -1 then trF l le n (i + 1) c else
    if (ix l i).2.1 < 0 ∨ i ≤ (ix l i).2.1 ∨ ix c (ix l i).2.1 = true ∨ (ix l i).2.2.1 < 0 ∨ i ≤ (ix l i).2.2.1 ∨ ix (c.set (ix l i).2.1.toNat true) (ix l i).2.2.1 = true then 3 else
    trF l le n (i + 1) ((c.set (ix l i).2.1.toNat true).set (ix l i).2.2.1.toNat true)
theorem r12_Tree_L21_spec {c : List Bool} (hl : c.length = l.length) (h60 : l.length ≤ 60) (h1 : 1 ≤ l.length) : r12_Tree_L21 (l, ()) c 0 = some (trF l le 0 0 c) := by
  unfold trF
  refine scan_to (len := (l.length : Int) - 1) (bad := fun i => ix c i = false) (by omega) (fun i h0 h2 => ⟨fun hb => ?_, fun hb => ?_⟩) (fun hh => ?_)
  · rw [if_pos ⟨i, h0, h2, hb⟩]
    rw [r12_Tree_L21_eq]; unfold r12_Tree_L21_B
    (try dsimp only); (repeat' first | (with_reducible refine G_to ?_ ?_; focus (first | omega | (unfold fits; omega) | (unfold room; (try simp only [List.length_append, List.length_cons, List.length_nil]); omega))) | (with_reducible refine both_to ?_ ?_) | (with_reducible refine itet_to ?_) | (with_reducible refine itef_to ?_) | (with_reducible refine ite_to (fun _ => ?_) (fun _ => ?_))) <;> try (exfalso; omega)
    rw [hb]; rfl
  · conv => lhs; rw [r12_Tree_L21_eq]; unfold r12_Tree_L21_B
    (try dsimp only); (repeat' first | (with_reducible refine G_to ?_ ?_; focus (first | omega | (unfold fits; omega) | (unfold room; (try simp only [List.length_append, List.length_cons, List.length_nil]); omega))) | (with_reducible refine both_to ?_ ?_) | (with_reducible refine itet_to ?_) | (with_reducible refine itef_to ?_) | (with_reducible refine ite_to (fun _ => ?_) (fun _ => ?_))) <;> try (exfalso; omega)
    have hb : ix c i = true := by cases h : ix c i; exact absurd h hb; rfl
    rw [hb, if_neg (by decide), G_pos (by unfold fits; omega)]
  · rw [if_neg (fun ⟨j, j0, j1, j2⟩ => hh j j0 j1 j2)]
    rw [r12_Tree_L21_eq]; unfold r12_Tree_L21_B
    (try dsimp only); (repeat' first | (with_reducible refine G_to ?_ ?_; focus (first | omega | (unfold fits; omega) | (unfold room; (try simp only [List.length_append, List.length_cons, List.length_nil]); omega))) | (with_reducible refine both_to ?_ ?_) | (with_reducible refine itet_to ?_) | (with_reducible refine itef_to ?_) | (with_reducible refine ite_to (fun _ => ?_) (fun _ => ?_))) <;> try (exfalso; omega)
    rfl
theorem nodes_ok : ∀ (n : Nat) (i : Int) (c : List Bool), trF l le n i c = 0 → ∀ j : Int, i ≤ j → j < i + n → 0 ≤ (ix l j).1 ∧ (ix l j).1 < le ∧ ((ix l j).2.1 = -1 ∧ (ix l j).2.2.1 = -1 ∨ 0 ≤ (ix l j).2.1 ∧ (ix l j).2.1 < j ∧ 0 ≤ (ix l j).2.2.1 ∧ (ix l j).2.2.1 < j) := by
  intro n
  induction n with
  | zero => intro i c _ j h1 h2; omega
  | succ n ih =>
    intro i c h j h1 h2
    unfold trF at h
    by_cases c1 : (ix l i).1 < 0 ∨ le ≤ (ix l i).1
    · rw [if_pos c1] at h; cases h
    rw [if_neg c1] at h
    by_cases c2 : (ix l i).2.1 = -1 ∧ (ix l i).2.2.1 = -1
    · rw [if_pos c2] at h
      by_cases e : j = i
      · subst e; exact ⟨by omega, by omega, .inl c2⟩
      · exact ih _ _ h j (by omega) (by omega)
    rw [if_neg c2] at h
    by_cases c3 : (ix l i).2.1 < 0 ∨ i ≤ (ix l i).2.1 ∨ ix c (ix l i).2.1 = true ∨ (ix l i).2.2.1 < 0 ∨ i ≤ (ix l i).2.2.1 ∨ ix (c.set (ix l i).2.1.toNat true) (ix l i).2.2.1 = true
    · rw [if_pos c3] at h; cases h
    rw [if_neg c3] at h
    by_cases e : j = i
    · subst e; exact ⟨by omega, by omega, .inr (by omega)⟩
    · exact ih _ _ h j (by omega) (by omega)
theorem r12_J13 {i : Int} {c : List Bool} {r8 : Int → List Bool → Option Int} (hl : c.length = l.length) (hi : i < l.length) (hf : fits (i + 1)) :
    r12_Tree_J13 (l, ()) i c r8 = if (ix l i).2.1 < 0 ∨ i ≤ (ix l i).2.1 ∨ ix c (ix l i).2.1 = true ∨ (ix l i).2.2.1 < 0 ∨ i ≤ (ix l i).2.2.1 ∨ ix (c.set (ix l i).2.1.toNat true) (ix l i).2.2.1 = true then some 3 else r8 (i + 1) ((c.set (ix l i).2.1.toNat true).set (ix l i).2.2.1.toNat true) := by
  unfold r12_Tree_J13
  generalize ix l i = x at *
  have e : (c.set x.2.1.toNat true).length = l.length := by rw [List.length_set]; exact hl
  (try dsimp only); (repeat' first | (with_reducible refine G_to ?_ ?_; focus (first | omega | (unfold fits; omega) | (unfold room; (try simp only [List.length_append, List.length_cons, List.length_nil]); omega))) | (with_reducible refine both_to ?_ ?_) | (with_reducible refine itet_to ?_) | (with_reducible refine itef_to ?_) | (with_reducible refine ite_to (fun _ => ?_) (fun _ => ?_))) <;> try (exfalso; omega)
  · rw [if_pos (.inl ‹_›)]
  · rw [if_pos (.inr (.inl ‹_›))]
  by_cases c1 : ix c x.2.1 = true
  · rw [if_pos c1, if_pos (.inr (.inr (.inl c1)))]
  rw [if_neg c1]
  (try dsimp only); (repeat' first | (with_reducible refine G_to ?_ ?_; focus (first | omega | (unfold fits; omega) | (unfold room; (try simp only [List.length_append, List.length_cons, List.length_nil]); omega))) | (with_reducible refine both_to ?_ ?_) | (with_reducible refine itet_to ?_) | (with_reducible refine itef_to ?_) | (with_reducible refine ite_to (fun _ => ?_) (fun _ => ?_))) <;> try (exfalso; omega)
  · rw [if_pos (.inr (.inr (.inr (.inl ‹_›))))]
  · rw [if_pos (.inr (.inr (.inr (.inr (.inl ‹_›)))))]
  by_cases c2 : ix (c.set x.2.1.toNat true) x.2.2.1 = true
  · rw [if_pos c2, if_pos (.inr (.inr (.inr (.inr (.inr c2)))))]
  rw [if_neg c2]
  (try dsimp only); (repeat' first | (with_reducible refine G_to ?_ ?_; focus (first | omega | (unfold fits; omega) | (unfold room; (try simp only [List.length_append, List.length_cons, List.length_nil]); omega))) | (with_reducible refine both_to ?_ ?_) | (with_reducible refine itet_to ?_) | (with_reducible refine itef_to ?_) | (with_reducible refine ite_to (fun _ => ?_) (fun _ => ?_))) <;> try (exfalso; omega)
  rw [if_neg (by rintro (h | h | h | h | h | h) <;> first | omega | exact c1 h | exact c2 h)]
theorem r12_Tree_L8_spec (h60 : l.length ≤ 60) (h1 : 1 ≤ l.length) : ∀ (n : Nat) (i : Int) (c : List Bool), 0 ≤ i → i + n = l.length → c.length = l.length → r12_Tree_L8 le (l, ()) i c = some (trF l le n i c) := by
  intro n
  induction n with
  | zero =>
    intro i c h0 hn hl
    rw [r12_Tree_L8_eq]; unfold r12_Tree_L8_B
    rw [if_neg (by simp only [decide_eq_true_eq]; omega)]
    exact r12_Tree_L21_spec (le := le) hl h60 h1
  | succ n ih =>
    intro i c h0 hn hl
    rw [r12_Tree_L8_eq]; unfold r12_Tree_L8_B trF
    have h13 : ¬ ((ix l i).2.1 = -1 ∧ (ix l i).2.2.1 = -1) → ¬ ((ix l i).1 < 0 ∨ le ≤ (ix l i).1) → r12_Tree_J13 (l, ()) i c (fun i c => r12_Tree_L8 le (l, ()) i c) = some (if (ix l i).1 < 0 ∨ le ≤ (ix l i).1 then 2 else
        if (ix l i).2.1 = -1 ∧ (ix l i).2.2.1 = -1 then trF l le n (i + 1) c else
        if (ix l i).2.1 < 0 ∨ i ≤ (ix l i).2.1 ∨ ix c (ix l i).2.1 = true ∨ (ix l i).2.2.1 < 0 ∨ i ≤ (ix l i).2.2.1 ∨ ix (c.set (ix l i).2.1.toNat true) (ix l i).2.2.1 = true then 3 else
        trF l le n (i + 1) ((c.set (ix l i).2.1.toNat true).set (ix l i).2.2.1.toNat true)) := by
      intro q1 q2
      rw [r12_J13 hl (by omega) (by unfold fits; omega), if_neg q2, if_neg q1]
      split
      · rfl
      · exact ih _ _ (by omega) (by omega) (by simp [hl])
    (try dsimp only); (repeat' first | (with_reducible refine G_to ?_ ?_; focus (first | omega | (unfold fits; omega) | (unfold room; (try simp only [List.length_append, List.length_cons, List.length_nil]); omega))) | (with_reducible refine both_to ?_ ?_) | (with_reducible refine itet_to ?_) | (with_reducible refine itef_to ?_) | (with_reducible refine ite_to (fun _ => ?_) (fun _ => ?_))) <;> try (exfalso; omega)
    · rw [if_pos (.inl ‹_›)]
    · rw [if_pos (.inr ‹_›)]
    · rw [if_neg (by omega), if_pos ⟨‹_›, ‹_›⟩]; exact ih _ _ (by omega) (by omega) hl
    · exact h13 (by omega) (by omega)
    · exact h13 (by omega) (by omega)
/-- What is wrong with a tree. -/
noncomputable def ttE (le : Int) (l : List Nd) : Int := if le < 1 then 2 else if 4 < le then 2 else if (l.length : Int) < 1 then 1 else if 60 < (l.length : Int) then 1 else trF l le l.length 0 (List.replicate l.length false)
theorem r12_Tree_spec : r12_Tree le (l, ()) = some (ttE le l) := by
  unfold r12_Tree ttE
  dsimp only
  by_cases c1 : le < 1
  · rw [if_pos (decide_eq_true c1), if_pos c1]
  rw [if_neg (by simpa using c1), if_neg c1]
  by_cases c2 : 4 < le
  · rw [if_pos (decide_eq_true c2), if_pos c2]
  rw [if_neg (by simpa using c2), if_neg c2]
  by_cases c3 : (l.length : Int) < 1
  · rw [if_pos (decide_eq_true c3), if_pos c3]
  rw [if_neg (by simpa using c3), if_neg c3]
  by_cases c4 : 60 < (l.length : Int)
  · rw [if_pos (decide_eq_true c4), if_pos c4]
  rw [if_neg (by simpa using c4), if_neg c4]
  rw [G_pos (by unfold mkOK; omega)]
  exact r12_Tree_L8_spec (by omega) (by omega) l.length 0 _ (by omega) (by omega) (by simp)
end

section
variable {l : List Nd} {le : Int}
theorem index_spec (s : List Bool) (v : Bool) (hs : s.length ≤ 4611686018427387904) : Tells (slices_Contains s v) (∃ j : Int, 0 ≤ j ∧ j < s.length ∧ ix s j = v) := by
  unfold slices_Contains slices_Index
  have : Tells ((slices_Index_L2 s v 0).bind fun y => some (decide ((0 : Int) ≤ y))) (∃ x ∈ s, x = v) := contains_tells (f := fun x => some (decide (v = x))) (fun t => by
    conv => lhs; rw [slices_Index_L2_eq]; unfold slices_Index_L2_B
    rfl) hs (fun x _ => Tells.dec eq_comm)
  exact this.iff ex_ix
/-- The program's loop over a node's children. -/
theorem tree_J12 {i : Int} {c : List Bool} {r8 : Int → List Bool → Option Int} (h60 : l.length ≤ 60) (hl : c.length = l.length) (h0 : 0 ≤ i) (hi : i < l.length) :
    tree_Tree_J12 (l, ()) i c r8 = if (ix l i).2.1 < 0 ∨ i ≤ (ix l i).2.1 ∨ ix c (ix l i).2.1 = true ∨ (ix l i).2.2.1 < 0 ∨ i ≤ (ix l i).2.2.1 ∨ ix (c.set (ix l i).2.1.toNat true) (ix l i).2.2.1 = true then some 3 else r8 (i + 1) ((c.set (ix l i).2.1.toNat true).set (ix l i).2.2.1.toNat true) := by
  unfold tree_Tree_J12
  have e0 : ∀ a b : Int, ix [a, b] 0 = a := fun _ _ => rfl
  have e1 : ∀ a b : Int, ix [a, b] (0 + 1) = b := fun _ _ => rfl
  rw [tree_Tree_L14_eq]; unfold tree_Tree_L14_B
  simp only [e0]
  generalize hx : ix l i = x at *
  have e : (c.set x.2.1.toNat true).length = l.length := by rw [List.length_set]; exact hl
  rw [if_pos (by simp), G_pos (by simp), G_pos (by simp)]
  (try dsimp only); (repeat' first | (with_reducible refine G_to ?_ ?_; focus (first | omega | (unfold fits; omega) | (unfold room; (try simp only [List.length_append, List.length_cons, List.length_nil]); omega))) | (with_reducible refine both_to ?_ ?_) | (with_reducible refine itet_to ?_) | (with_reducible refine itef_to ?_) | (with_reducible refine ite_to (fun _ => ?_) (fun _ => ?_))) <;> try (exfalso; omega)
  · rw [if_pos (.inl ‹_›)]
  · rw [if_pos (.inr (.inl ‹_›))]
  by_cases c1 : ix c x.2.1 = true
  · rw [if_pos c1, if_pos (.inr (.inr (.inl c1)))]
  rw [if_neg c1]
  (try dsimp only); (repeat' first | (with_reducible refine G_to ?_ ?_; focus (first | omega | (unfold fits; omega) | (unfold room; (try simp only [List.length_append, List.length_cons, List.length_nil]); omega))) | (with_reducible refine both_to ?_ ?_) | (with_reducible refine itet_to ?_) | (with_reducible refine itef_to ?_) | (with_reducible refine ite_to (fun _ => ?_) (fun _ => ?_))) <;> try (exfalso; omega)
  rw [tree_Tree_L14_eq]; unfold tree_Tree_L14_B
  simp only [e1, hx]
  rw [if_pos (by simp), G_pos (by simp), G_pos (by simp)]
  (try dsimp only); (repeat' first | (with_reducible refine G_to ?_ ?_; focus (first | omega | (unfold fits; omega) | (unfold room; (try simp only [List.length_append, List.length_cons, List.length_nil]); omega))) | (with_reducible refine both_to ?_ ?_) | (with_reducible refine itet_to ?_) | (with_reducible refine itef_to ?_) | (with_reducible refine ite_to (fun _ => ?_) (fun _ => ?_))) <;> try (exfalso; omega)
  · rw [if_pos (.inr (.inr (.inr (.inl ‹_›))))]
  · rw [if_pos (.inr (.inr (.inr (.inr (.inl ‹_›)))))]
  by_cases c2 : ix (c.set x.2.1.toNat true) x.2.2.1 = true
  · rw [if_pos c2, if_pos (.inr (.inr (.inr (.inr (.inr c2)))))]
  rw [if_neg c2]
  (try dsimp only); (repeat' first | (with_reducible refine G_to ?_ ?_; focus (first | omega | (unfold fits; omega) | (unfold room; (try simp only [List.length_append, List.length_cons, List.length_nil]); omega))) | (with_reducible refine both_to ?_ ?_) | (with_reducible refine itet_to ?_) | (with_reducible refine itef_to ?_) | (with_reducible refine ite_to (fun _ => ?_) (fun _ => ?_))) <;> try (exfalso; omega)
  rw [tree_Tree_L14_eq]; unfold tree_Tree_L14_B
  rw [if_neg (by simp), G_pos (by unfold fits; omega)]
  rw [if_neg (by rintro (h | h | h | h | h | h) <;> first | omega | exact c1 h | exact c2 h)]
theorem tree_Tree_L8_spec (h60 : l.length ≤ 60) (h1 : 1 ≤ l.length) : ∀ (n : Nat) (i : Int) (c : List Bool), 0 ≤ i → i + n = l.length → c.length = l.length → tree_Tree_L8 le (l, ()) i c = some (trF l le n i c) := by
  intro n
  induction n with
  | zero =>
    intro i c h0 hn hl
    rw [tree_Tree_L8_eq]; unfold tree_Tree_L8_B
    rw [if_neg (by simp only [decide_eq_true_eq]; omega)]
    (try dsimp only); (repeat' first | (with_reducible refine G_to ?_ ?_; focus (first | omega | (unfold fits; omega) | (unfold room; (try simp only [List.length_append, List.length_cons, List.length_nil]); omega))) | (with_reducible refine both_to ?_ ?_) | (with_reducible refine itet_to ?_) | (with_reducible refine itef_to ?_) | (with_reducible refine ite_to (fun _ => ?_) (fun _ => ?_))) <;> try (exfalso; omega)
    have hlt : ((c.drop 0).take ((l.length : Int) - 1).toNat).length = l.length - 1 := by
      rw [List.drop_zero, List.length_take]; omega
    have hix : ∀ j : Int, 0 ≤ j → j < l.length - 1 → ix ((c.drop 0).take ((l.length : Int) - 1).toNat) j = ix c j := fun j j0 j1 => by
      simp only [ix, List.getD_eq_getElem?_getD, List.drop_zero]
      rw [List.getElem?_take_of_lt (by omega)]
    refine Tells.to (index_spec _ false (by omega)) (fun ⟨j, j0, j1, j2⟩ => ?_) (fun hn => ?_)
    · unfold trF
      have e : ix c j = false := by rw [← hix j j0 (by omega)]; exact j2
      rw [if_pos ⟨j, j0, by omega, e⟩]
    · unfold trF
      rw [if_neg fun ⟨j, j0, j1, j2⟩ => hn ⟨j, j0, by omega, by rw [hix j j0 j1]; exact j2⟩]
  | succ n ih =>
    intro i c h0 hn hl
    rw [tree_Tree_L8_eq]; unfold tree_Tree_L8_B trF
    have h13 : ¬ ((ix l i).2.1 = -1 ∧ (ix l i).2.2.1 = -1) → ¬ ((ix l i).1 < 0 ∨ le ≤ (ix l i).1) → tree_Tree_J12 (l, ()) i c (fun i c => tree_Tree_L8 le (l, ()) i c) = some (if (ix l i).1 < 0 ∨ le ≤ (ix l i).1 then 2 else
        if (ix l i).2.1 = -1 ∧ (ix l i).2.2.1 = -1 then trF l le n (i + 1) c else
        if (ix l i).2.1 < 0 ∨ i ≤ (ix l i).2.1 ∨ ix c (ix l i).2.1 = true ∨ (ix l i).2.2.1 < 0 ∨ i ≤ (ix l i).2.2.1 ∨ ix (c.set (ix l i).2.1.toNat true) (ix l i).2.2.1 = true then 3 else
        trF l le n (i + 1) ((c.set (ix l i).2.1.toNat true).set (ix l i).2.2.1.toNat true)) := by
      intro q1 q2
      rw [tree_J12 h60 hl h0 (by omega), if_neg q2, if_neg q1]
      split
      · rfl
      · exact ih _ _ (by omega) (by omega) (by simp [hl])
    (try dsimp only); (repeat' first | (with_reducible refine G_to ?_ ?_; focus (first | omega | (unfold fits; omega) | (unfold room; (try simp only [List.length_append, List.length_cons, List.length_nil]); omega))) | (with_reducible refine both_to ?_ ?_) | (with_reducible refine itet_to ?_) | (with_reducible refine itef_to ?_) | (with_reducible refine ite_to (fun _ => ?_) (fun _ => ?_))) <;> try (exfalso; omega)
    · rw [if_pos (.inl ‹_›)]
    · rw [if_pos (.inr ‹_›)]
    · rw [if_neg (by omega), if_pos ⟨‹_›, ‹_›⟩]; exact ih _ _ (by omega) (by omega) hl
    · exact h13 (by omega) (by omega)
    · exact h13 (by omega) (by omega)
theorem tree_Tree_spec : tree_Tree le (l, ()) = some (ttE le l) := by
  unfold tree_Tree ttE
  dsimp only
  by_cases c1 : le < 1
  · rw [if_pos (decide_eq_true c1), if_pos c1]
  rw [if_neg (by simpa using c1), if_neg c1]
  by_cases c2 : 4 < le
  · rw [if_pos (decide_eq_true c2), if_pos c2]
  rw [if_neg (by simpa using c2), if_neg c2]
  by_cases c3 : (l.length : Int) < 1
  · rw [if_pos (decide_eq_true c3), if_pos c3]
  rw [if_neg (by simpa using c3), if_neg c3]
  by_cases c4 : 60 < (l.length : Int)
  · rw [if_pos (decide_eq_true c4), if_pos c4]
  rw [if_neg (by simpa using c4), if_neg c4]
  rw [G_pos (by unfold mkOK; omega)]
  exact tree_Tree_L8_spec (by omega) (by omega) l.length 0 _ (by omega) (by omega) (by simp)
end

/- which states a node can be given -/
section
variable {a : TA} {t : List Nd}
theorem can_eq {out can : List (List Bool)} (hl : out.length = can.length) (h : ∀ j : Int, 0 ≤ j → j < can.length → ix out j = ix can j) : out = can := ix_ext hl (fun j h0 h1 => h j h0 (by omega))
/-- A rule at a node: may it be used? -/
def Use (x : Nd) (can : List (List Bool)) (r : Rl) : Prop := r.1 = x.1 ∧ (r.2.1 = -1 ↔ x.2.1 = -1) ∧ (r.2.1 = -1 ∨ ix (ix can x.2.1) r.2.1 = true ∧ ix (ix can x.2.2.1) r.2.2.1 = true)
structure Ok (a : TA) (t : List Nd) : Prop where
  st : 1 ≤ a.2.1 ∧ a.2.1 ≤ 300
  rl : a.2.2.1.length ≤ 40000
  mks : (a.2.2.2.2.1.length : Int) = a.2.1
  rb : ∀ k : Int, 0 ≤ k → k < a.2.2.1.length → ¬ RBad a (ix a.2.2.1 k)
  n : 1 ≤ t.length ∧ t.length ≤ 60
  nd : ∀ j : Int, 0 ≤ j → j < t.length → ((ix t j).2.1 = -1 ∧ (ix t j).2.2.1 = -1 ∨ 0 ≤ (ix t j).2.1 ∧ (ix t j).2.1 < j ∧ 0 ≤ (ix t j).2.2.1 ∧ (ix t j).2.2.1 < j)
structure Inv (a : TA) (t : List Nd) (can : List (List Bool)) (i : Int) (out : List (List Bool)) : Prop where
  len : out.length = t.length
  i0 : 0 ≤ i ∧ i < t.length
  cl : (can.length : Int) = i
  eq : ∀ j : Int, 0 ≤ j → j < i → ix out j = ix can j
  rows : ∀ j : Int, 0 ≤ j → j < i → ((ix can j).length : Int) = a.2.1
  own : ((ix out i).length : Int) = a.2.1
theorem J10_step {i k : Int} {out can : List (List Bool)} {r7 : Int → List (List Bool) → Option (List (List Bool))} (ok : Ok a t) (hI : Inv a t can i out) (h0 : 0 ≤ k) (h1 : k < a.2.2.1.length) (b : Bool) :
    tree_states_J10 a i k out r7 b = r7 (k + 1) (if b = true then out.set i.toNat ((ix out i).set (ix a.2.2.1 k).2.2.2.1.toNat true) else out) := by
  have hb := ok.rb k h0 h1
  unfold RBad at hb
  have := ok.rl; have := hI.len; have := hI.i0; have := hI.own
  unfold tree_states_J10
  cases b with
  | false => rw [if_neg (by decide), if_neg (by decide), G_pos (by unfold fits; omega)]
  | true =>
    rw [if_pos rfl, if_pos rfl]
    rw [G_pos (by omega), G_pos (by omega), G_pos (by omega), G_pos (by omega), G_pos (by unfold fits; omega)]
open Classical in
theorem L7_step {i k : Int} {out can : List (List Bool)} {r3 : Int → List (List Bool) → Option (List (List Bool))} (ok : Ok a t) (hI : Inv a t can i out) (h0 : 0 ≤ k) (h1 : k < a.2.2.1.length) :
    tree_states_L7 a (t, ()) i r3 k out = tree_states_L7 a (t, ()) i r3 (k + 1) (if Use (ix t i) can (ix a.2.2.1 k) then out.set i.toNat ((ix out i).set (ix a.2.2.1 k).2.2.2.1.toNat true) else out) := by
  have hb := ok.rb k h0 h1
  unfold RBad at hb
  have hn := ok.nd i hI.i0.1 hI.i0.2
  have hlen := hI.len
  have hi := hI.i0
  conv => lhs; rw [tree_states_L7_eq]; unfold tree_states_L7_B
  rw [if_pos (decide_eq_true h1), G_pos (by omega)]
  simp only [J10_step (r7 := fun k out => tree_states_L7 a (t, ()) i r3 k out) ok hI h0 h1]
  unfold Use
  by_cases c1 : (ix a.2.2.1 k).1 = (ix t i).1
  · rw [if_pos (decide_eq_true c1)]
    by_cases c2 : (ix a.2.2.1 k).2.1 = -1
    · by_cases c3 : (ix t i).2.1 = -1
      · rw [if_pos (by simp [c2, c3]), if_pos (decide_eq_true c2), if_pos trivial, if_pos ⟨c1, by simp [c2, c3], .inl c2⟩]
      · rw [if_neg (by simp [c2, c3]), if_neg (by decide), if_neg (fun h => c3 (h.2.1.1 c2))]
    · by_cases c3 : (ix t i).2.1 = -1
      · rw [if_neg (by simp [c2, c3]), if_neg (by decide), if_neg (fun h => c2 (h.2.1.2 c3))]
      · rw [if_pos (by simp [c2, c3]), if_neg (by simpa using c2)]
        have e1 := hI.eq (ix t i).2.1 (by omega) (by omega)
        have e2 := hI.eq (ix t i).2.2.1 (by omega) (by omega)
        have l1 := hI.rows (ix t i).2.1 (by omega) (by omega)
        have l2 := hI.rows (ix t i).2.2.1 (by omega) (by omega)
        rw [e1, e2]
        rw [G_pos (by omega), G_pos (by omega), G_pos (by omega), G_pos (by omega)]
        by_cases c4 : ix (ix can (ix t i).2.1) (ix a.2.2.1 k).2.1 = true
        · rw [if_pos c4, G_pos (by omega), G_pos (by omega), G_pos (by omega), G_pos (by omega)]
          by_cases c5 : ix (ix can (ix t i).2.2.1) (ix a.2.2.1 k).2.2.1 = true
          · rw [if_pos c5, if_pos ⟨c1, by simp [c2, c3], .inr ⟨c4, c5⟩⟩]
          · rw [if_neg c5, if_neg (fun h => by rcases h.2.2 with h | h; exact c2 h; exact c5 h.2)]
        · rw [if_neg c4, if_neg (by decide), if_neg (fun h => by rcases h.2.2 with h | h; exact c2 h; exact c4 h.1)]
  · rw [if_neg (by simpa using c1), if_neg (by decide), if_neg (fun h => c1 h.1)]
theorem J12_step {k : Int} {own : List Bool} {r8 : Int → List Bool → Option Bool} (ok : Ok a t) (hl : (own.length : Int) = a.2.1) (h0 : 0 ≤ k) (h1 : k < a.2.2.1.length) (b : Bool) :
    r12_Accepts_J12 a k own r8 b = r8 (k + 1) (if b = true then own.set (ix a.2.2.1 k).2.2.2.1.toNat true else own) := by
  have hb := ok.rb k h0 h1
  unfold RBad at hb
  have := ok.rl
  unfold r12_Accepts_J12
  cases b with
  | false => rw [if_neg (by decide), if_neg (by decide), G_pos (by unfold fits; omega)]
  | true =>
    rw [if_pos rfl, if_pos rfl]
    rw [G_pos (by omega), G_pos (by omega), G_pos (by unfold fits; omega)]
open Classical in
theorem L8_step {i k : Int} {own : List Bool} {can : List (List Bool)} {r3 : Int → List (List Bool) → Option Bool} (ok : Ok a t) (hi : 0 ≤ i ∧ i < t.length) (hc : (can.length : Int) = i) (hrows : ∀ j : Int, 0 ≤ j → j < i → ((ix can j).length : Int) = a.2.1) (hl : (own.length : Int) = a.2.1) (h0 : 0 ≤ k) (h1 : k < a.2.2.1.length) :
    r12_Accepts_L8 a (t, ()) i can r3 k own = r12_Accepts_L8 a (t, ()) i can r3 (k + 1) (if Use (ix t i) can (ix a.2.2.1 k) then own.set (ix a.2.2.1 k).2.2.2.1.toNat true else own) := by
  have hb := ok.rb k h0 h1
  unfold RBad at hb
  have hn := ok.nd i hi.1 hi.2
  have hrl := ok.rl
  conv => lhs; rw [r12_Accepts_L8_eq]; unfold r12_Accepts_L8_B
  rw [if_pos (decide_eq_true h1), G_pos (by omega)]
  simp only [J12_step (r8 := fun k own => r12_Accepts_L8 a (t, ()) i can r3 k own) ok hl h0 h1]
  unfold Use
  by_cases c1 : (ix a.2.2.1 k).1 = (ix t i).1
  · rw [if_neg (by simp [c1])]
    by_cases c2 : (ix a.2.2.1 k).2.1 = -1
    · by_cases c3 : (ix t i).2.1 = -1
      · rw [if_neg (by simp [c2, c3]), if_pos (decide_eq_true c2), if_pos trivial, if_pos ⟨c1, by simp [c2, c3], .inl c2⟩]
      · rw [if_pos (by simp [c2, c3]), G_pos (by unfold fits; omega), if_neg (fun h => c3 (h.2.1.1 c2))]
    · by_cases c3 : (ix t i).2.1 = -1
      · rw [if_pos (by simp [c2, c3]), G_pos (by unfold fits; omega), if_neg (fun h => c2 (h.2.1.2 c3))]
      · rw [if_neg (by simp [c2, c3]), if_neg (by simpa using c2)]
        have l1 := hrows (ix t i).2.1 (by omega) (by omega)
        have l2 := hrows (ix t i).2.2.1 (by omega) (by omega)
        rw [G_pos (by omega), G_pos (by omega), G_pos (by omega)]
        by_cases c4 : ix (ix can (ix t i).2.1) (ix a.2.2.1 k).2.1 = true
        · rw [if_pos c4, G_pos (by omega), G_pos (by omega), G_pos (by omega)]
          by_cases c5 : ix (ix can (ix t i).2.2.1) (ix a.2.2.1 k).2.2.1 = true
          · rw [if_pos c5, if_pos ⟨c1, by simp [c2, c3], .inr ⟨c4, c5⟩⟩]
          · rw [if_neg c5, if_neg (fun h => by rcases h.2.2 with h | h; exact c2 h; exact c5 h.2)]
        · rw [if_neg c4, if_neg (by decide), if_neg (fun h => by rcases h.2.2 with h | h; exact c2 h; exact c4 h.1)]
  · rw [if_pos (by simp [c1]), G_pos (by unfold fits; omega), if_neg (fun h => c1 h.1)]
theorem Inv.step {can out : List (List Bool)} {i v : Int} (hI : Inv a t can i out) : Inv a t can i (out.set i.toNat ((ix out i).set v.toNat true)) := by
  have := hI.len; have := hI.i0
  refine ⟨by simp [hI.len], hI.i0, hI.cl, fun j h0 h1 => ?_, hI.rows, ?_⟩
  · rw [ix_set_ne (by omega) (by omega) (by omega)]; exact hI.eq j h0 h1
  · rw [ix_set_same (by omega) (by omega), List.length_set]; exact hI.own
theorem inner {can : List (List Bool)} {i : Int} {r3 : Int → List (List Bool) → Option (List (List Bool))} {r3' : Int → List (List Bool) → Option Bool} (ok : Ok a t) :
    ∀ (n : Nat) (k : Int) (out : List (List Bool)), 0 ≤ k → k + n = a.2.2.1.length → Inv a t can i out →
      ∃ out2, tree_states_L7 a (t, ()) i r3 k out = r3 (i + 1) out2 ∧ r12_Accepts_L8 a (t, ()) i can r3' k (ix out i) = r3' (i + 1) (can ++ [ix out2 i]) ∧ Inv a t can i out2 := by
  intro n
  induction n with
  | zero =>
    intro k out h0 hn hI
    have := hI.i0; have := hI.cl; have := ok.n
    refine ⟨out, ?_, ?_, hI⟩
    · rw [tree_states_L7_eq]; unfold tree_states_L7_B
      rw [if_neg (by simp only [decide_eq_true_eq]; omega), G_pos (by unfold fits; omega)]
    · rw [r12_Accepts_L8_eq]; unfold r12_Accepts_L8_B
      rw [if_neg (by simp only [decide_eq_true_eq]; omega), G_pos (by unfold room; simp only [List.length_cons, List.length_nil]; omega), G_pos (by unfold fits; omega)]
  | succ n ih =>
    intro k out h0 hn hI
    rw [L7_step ok hI h0 (by omega), L8_step ok hI.i0 hI.cl hI.rows hI.own h0 (by omega)]
    by_cases c : Use (ix t i) can (ix a.2.2.1 k)
    · rw [if_pos c, if_pos c]
      have := hI.len; have := hI.i0
      obtain ⟨out2, g1, g2, g3⟩ := ih (k + 1) _ (by omega) (by omega) (hI.step (v := (ix a.2.2.1 k).2.2.2.1))
      rw [ix_set_same (by omega) (by omega)] at g2
      exact ⟨out2, g1, g2, g3⟩
    · rw [if_neg c, if_neg c]
      exact ih _ _ (by omega) (by omega) hI
theorem ix_snoc {α : Type} [Inhabited α] {l : List α} {x : α} {j : Int} (h0 : 0 ≤ j) (h : j < l.length) : ix (l ++ [x]) j = ix l j := by
  simp only [ix, List.getD_eq_getElem?_getD]
  rw [List.getElem?_append_left (by omega)]
theorem ix_snoc_last {α : Type} [Inhabited α] {l : List α} {x : α} {j : Int} (h : j = l.length) : ix (l ++ [x]) j = x := by
  subst h
  simp [ix, List.getD_eq_getElem?_getD]
theorem outer (ok : Ok a t) : ∀ (n : Nat) (i : Int) (out can : List (List Bool)), 0 ≤ i → i + n = t.length → out.length = t.length → (can.length : Int) = i →
    (∀ j : Int, 0 ≤ j → j < i → ix out j = ix can j) → (∀ j : Int, 0 ≤ j → j < i → ((ix can j).length : Int) = a.2.1) →
      ∃ outF, tree_states_L3 a (t, ()) i out = some outF ∧ r12_Accepts_L3 a (t, ()) i can = r12_Accepts_L3 a (t, ()) t.length outF ∧ outF.length = t.length ∧ (∀ j : Int, 0 ≤ j → j < t.length → ((ix outF j).length : Int) = a.2.1) := by
  intro n
  induction n with
  | zero =>
    intro i out can h0 hn hl hc he hr
    have hi : i = t.length := by omega
    subst hi
    have : out = can := can_eq (by omega) (fun j j0 j1 => he j j0 (by omega))
    subst this
    refine ⟨out, ?_, rfl, hl, hr⟩
    rw [tree_states_L3_eq]; unfold tree_states_L3_B
    rw [if_neg (by simp)]
  | succ n ih =>
    intro i out can h0 hn hl hc he hr
    have hst := ok.st; have hrl := ok.rl
    rw [tree_states_L3_eq]; unfold tree_states_L3_B
    dsimp only
    rw [if_pos (by simp only [decide_eq_true_eq]; omega), G_pos (by omega), G_pos (by unfold mkOK; omega), G_pos (by omega)]
    rw [show r12_Accepts_L3 a (t, ()) i can = r12_Accepts_L3_B a (t, ()) (fun i c => r12_Accepts_L3 a (t, ()) i c) i can from r12_Accepts_L3_eq _ _ _ _]
    unfold r12_Accepts_L3_B
    dsimp only
    rw [if_pos (by simp only [decide_eq_true_eq]; omega), G_pos (by omega), G_pos (by unfold mkOK; omega)]
    have e0 : ix (out.set i.toNat (List.replicate a.2.1.toNat false)) i = List.replicate a.2.1.toNat false := ix_set_same (by omega) (by omega)
    have hI : Inv a t can i (out.set i.toNat (List.replicate a.2.1.toNat false)) := by
      refine ⟨by simp [hl], ⟨h0, by omega⟩, hc, fun j j0 j1 => ?_, hr, ?_⟩
      · rw [ix_set_ne (by omega) (by omega) (by omega)]; exact he j j0 j1
      · rw [e0, List.length_replicate]; omega
    obtain ⟨out2, g1, g2, g3⟩ := inner (r3 := fun i o => tree_states_L3 a (t, ()) i o) (r3' := fun i c => r12_Accepts_L3 a (t, ()) i c) ok a.2.2.1.length 0 _ (by omega) (by omega) hI
    rw [g1]
    rw [e0] at g2
    rw [g2]
    refine ih (i + 1) out2 (can ++ [ix out2 i]) (by omega) (by omega) g3.len (by simp; omega) (fun j j0 j1 => ?_) (fun j j0 j1 => ?_)
    · by_cases hj : j < i
      · rw [ix_snoc j0 (by omega)]; exact g3.eq j j0 hj
      · have : j = i := by omega
        subst this
        rw [ix_snoc_last (by omega)]
    · by_cases hj : j < i
      · rw [ix_snoc j0 (by omega)]; exact hr j j0 hj
      · have : j = i := by omega
        subst this
        rw [ix_snoc_last (by omega)]; exact g3.own
theorem last {out : List (List Bool)} (ok : Ok a t) (hl : 1 ≤ out.length) (hr : ((ix out ((out.length : Int) - 1)).length : Int) = a.2.1) : ∀ (n : Nat) (q : Int), 0 ≤ q → q + n = a.2.1 →
    ∃ b, tree_Accepts_L9 a out q = some (b, 0) ∧ r12_Accepts_L17 a out q = some b := by
  have hst := ok.st; have hmk := ok.mks
  intro n
  induction n with
  | zero =>
    intro q h0 hn
    refine ⟨false, ?_, ?_⟩
    · rw [tree_Accepts_L9_eq]; unfold tree_Accepts_L9_B
      rw [if_neg (by simp only [decide_eq_true_eq]; omega)]
    · rw [r12_Accepts_L17_eq]; unfold r12_Accepts_L17_B
      rw [if_neg (by simp only [decide_eq_true_eq]; omega)]
  | succ n ih =>
    intro q h0 hn
    obtain ⟨b, e1, e2⟩ := ih (q + 1) (by omega) (by omega)
    by_cases c : ix (ix out ((out.length : Int) - 1)) q = true ∧ ix a.2.2.2.2.1 q = 1
    · refine ⟨true, ?_, ?_⟩
      · rw [tree_Accepts_L9_eq]; unfold tree_Accepts_L9_B
        rw [if_pos (by simp only [decide_eq_true_eq]; omega), G_pos (by omega), if_pos c.1, G_pos (by omega), if_pos (decide_eq_true c.2)]
      · rw [r12_Accepts_L17_eq]; unfold r12_Accepts_L17_B
        rw [if_pos (by simp only [decide_eq_true_eq]; omega), G_pos (by omega), if_pos c.1, G_pos (by omega), if_pos (decide_eq_true c.2)]
    · refine ⟨b, ?_, ?_⟩
      · rw [tree_Accepts_L9_eq]; unfold tree_Accepts_L9_B
        rw [if_pos (by simp only [decide_eq_true_eq]; omega), G_pos (by omega)]
        by_cases c1 : ix (ix out ((out.length : Int) - 1)) q = true
        · rw [if_pos c1, G_pos (by omega), if_neg (by simpa using fun h => c ⟨c1, h⟩), G_pos (by unfold fits; omega)]; exact e1
        · rw [if_neg c1, G_pos (by unfold fits; omega)]; exact e1
      · rw [r12_Accepts_L17_eq]; unfold r12_Accepts_L17_B
        rw [if_pos (by simp only [decide_eq_true_eq]; omega), G_pos (by omega)]
        by_cases c1 : ix (ix out ((out.length : Int) - 1)) q = true
        · rw [if_pos c1, G_pos (by omega), if_neg (by simpa using fun h => c ⟨c1, h⟩), G_pos (by unfold fits; omega)]; exact e2
        · rw [if_neg c1, G_pos (by unfold fits; omega)]; exact e2
theorem ok_of (h1 : taE a = 0) (h2 : ttE a.1 t = 0) : Ok a t := by
  unfold taE at h1
  by_cases c1 : TLet a
  · rw [if_pos c1] at h1; cases h1
  rw [if_neg c1] at h1
  by_cases c2 : TSize a
  · rw [if_pos c2] at h1; cases h1
  rw [if_neg c2] at h1
  by_cases c3 : TRul a
  · rw [if_pos c3] at h1; cases h1
  unfold TSize at c2
  unfold ttE at h2
  by_cases d1 : a.1 < 1
  · rw [if_pos d1] at h2; cases h2
  rw [if_neg d1] at h2
  by_cases d2 : 4 < a.1
  · rw [if_pos d2] at h2; cases h2
  rw [if_neg d2] at h2
  by_cases d3 : (t.length : Int) < 1
  · rw [if_pos d3] at h2; cases h2
  rw [if_neg d3] at h2
  by_cases d4 : 60 < (t.length : Int)
  · rw [if_pos d4] at h2; cases h2
  rw [if_neg d4] at h2
  exact ⟨by omega, by omega, by omega, fun k k0 k1 hb => c3 (ex_ix.2 ⟨k, k0, k1, hb⟩), by omega, fun j j0 j1 => (nodes_ok _ _ _ h2 j j0 (by omega)).2.2⟩
theorem accepts (ok : Ok a t) : ∃ b, r12_Accepts a (t, ()) = some b ∧ (taE a = 0 → ttE a.1 t = 0 → tree_Accepts a (t, ()) = some (b, 0)) := by
  have hn := ok.n
  obtain ⟨outF, g1, g2, g3, g4⟩ := outer ok t.length 0 (List.replicate t.length []) [] (by omega) (by omega) (by simp) rfl (fun j j0 j1 => by omega) (fun j j0 j1 => by omega)
  obtain ⟨b, e1, e2⟩ := last ok (out := outF) (by omega) (g4 _ (by omega) (by omega)) a.2.1.toNat 0 (by omega) (by have := ok.st; omega)
  refine ⟨b, ?_, fun h1 h2 => ?_⟩
  · unfold r12_Accepts
    rw [g2, r12_Accepts_L3_eq]; unfold r12_Accepts_L3_B
    rw [if_neg (by simp), G_pos (by unfold fits; omega), G_pos (by omega), G_pos (by omega)]
    exact e2
  · unfold tree_Accepts
    refine bind_to tree_Check_spec ?_
    rw [h1, if_neg (by decide)]
    refine bind_to tree_Tree_spec ?_
    rw [h2, if_neg (by decide)]
    have hs : tree_states a (t, ()) = some outF := by
      unfold tree_states
      rw [G_pos (by unfold mkOK; dsimp only; omega)]
      exact g1
    refine bind_to hs ?_
    rw [G_pos (by unfold fits; omega), G_pos (by omega)]
    exact e1
end
theorem law_true (a : TA) (t : List Nd × Unit) (letters : Int) : law_TreeAccepts a t letters = some true := by
  obtain ⟨t, u⟩ := t
  unfold law_TreeAccepts
  refine bind_to tree_Check_spec ?_
  refine bind_to r12_Check_spec ?_
  refine bind_to tree_Tree_spec ?_
  refine bind_to r12_Tree_spec ?_
  by_cases h1 : taE a = 0
  · by_cases h2 : ttE a.1 t = 0
    · obtain ⟨b, e1, e2⟩ := accepts (ok_of h1 h2)
      refine bind_to (e2 h1 h2) ?_
      rw [if_neg (by simp), if_neg (by simp), if_neg (by simp [h1])]
      refine bind_to r12_Tree_spec ?_
      rw [if_neg (by simp [h2])]
      refine bind_to e1 ?_
      simp
    · have e : tree_Accepts a (t, ()) = some (false, ttE a.1 t) := by
        unfold tree_Accepts
        refine bind_to tree_Check_spec ?_
        rw [h1, if_neg (by decide)]
        refine bind_to tree_Tree_spec ?_
        rw [if_pos (by simp [h2])]
      refine bind_to e ?_
      rw [if_neg (by simp), if_neg (by simp), if_neg (by simp [h1])]
      refine bind_to r12_Tree_spec ?_
      rw [if_pos (by simp [h2])]
      simp
  · have e : tree_Accepts a (t, ()) = some (false, taE a) := by
      unfold tree_Accepts
      refine bind_to tree_Check_spec ?_
      rw [if_pos (by simp [h1])]
    refine bind_to e ?_
    rw [if_neg (by simp), if_neg (by simp), if_pos (by simp [h1])]
    simp

end Go.Proofs.Ytiihghghjoonhaa.treeAcceptsW
