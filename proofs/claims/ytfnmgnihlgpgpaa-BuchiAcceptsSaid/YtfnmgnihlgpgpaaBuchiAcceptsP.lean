/- The law 'BuchiAccepts' of the plain functions. -/
import Derived.Test.YtfnmgnihlgpgpaaBuchiAcceptsD
set_option maxHeartbeats 1000000
set_option maxRecDepth 20000
set_option linter.unusedSimpArgs false
set_option linter.unusedVariables false
set_option linter.unusedSectionVars false
namespace Go.Proofs.Ytfnmgnihlgpgpaa.buchiAcceptsW
open Go Go.Ab
/-- The answer is yes just if P. -/
def Tells (o : Option Bool) (P : Prop) : Prop := ∃ b, o = some b ∧ (b = true ↔ P)
theorem Tells.of {b : Bool} {P : Prop} (h : b = true ↔ P) : Tells (some b) P := ⟨b, rfl, h⟩
theorem Tells.dec {P Q : Prop} [Decidable P] (h : P ↔ Q) : Tells (some (decide P)) Q := ⟨_, rfl, by simpa using h⟩
theorem Tells.iff {o : Option Bool} {P Q : Prop} (h : Tells o P) (k : P ↔ Q) : Tells o Q := let ⟨b, h1, h2⟩ := h; ⟨b, h1, h2.trans k⟩
theorem Tells.eq {o : Option Bool} {P : Prop} [Decidable P] (h : Tells o P) : o = some (decide P) := by
  obtain ⟨b, rfl, hb⟩ := h
  by_cases hp : P
  · simp [hp, hb.2 hp]
  · have : b = false := by cases b; rfl; exact absurd (hb.1 rfl) hp
    simp [hp, this]
theorem Tells.to {R : Type} {o : Option Bool} {P : Prop} {k1 k2 x : Option R} (h : Tells o P) (h1 : P → k1 = x) (h2 : ¬ P → k2 = x) : (o.bind fun y => if y = true then k1 else k2) = x := by
  obtain ⟨b, rfl, hb⟩ := h
  refine bind_to rfl ?_
  cases b
  · exact h2 fun hp => by simpa using hb.2 hp
  · exact h1 (hb.1 rfl)
theorem Tells.bind {R : Type} {o : Option Bool} {P : Prop} {k : Bool → Option R} {x : Option R} (h : Tells o P) (h1 : ∀ b, (b = true ↔ P) → k b = x) : o.bind k = x := by
  obtain ⟨b, rfl, hb⟩ := h
  exact h1 b hb
section
variable {α C : Type} [Inhabited α]
theorem ex_ix {l : List α} {P : α → Prop} : (∃ x ∈ l, P x) ↔ ∃ i : Int, 0 ≤ i ∧ i < l.length ∧ P (ix l i) := by
  constructor
  · rintro ⟨x, hx, hp⟩
    obtain ⟨i, hi, rfl⟩ := List.mem_iff_getElem.1 hx
    refine ⟨i, by omega, by omega, ?_⟩
    rwa [ix_eq (by omega) (by omega)]
  · rintro ⟨i, h0, h1, hp⟩
    exact ⟨_, ix_mem h0 h1, hp⟩
theorem index_loop {s : List α} {f : α → Option Bool} {L : Int → Option Int} {P : α → Prop} (hs : s.length ≤ 4611686018427387904)
    (hL : ∀ t, L t = if decide (t < (s.length : Int)) = true then G (0 ≤ t ∧ t < (s.length : Int)) ((f (ix s t)).bind fun y => if y = true then some t else G (fits (t + 1)) (L (t + 1))) else some (-1))
    (hf : ∀ x ∈ s, Tells (f x) (P x)) : ∀ (n : Nat) (t : Int), 0 ≤ t → t ≤ s.length → (s.length - t).toNat = n →
      ∃ i, L t = some i ∧ ((i = -1 ∧ ∀ j : Int, t ≤ j → j < s.length → ¬ P (ix s j)) ∨ (t ≤ i ∧ i < s.length ∧ P (ix s i) ∧ ∀ j : Int, t ≤ j → j < i → ¬ P (ix s j))) := by
  intro n
  induction n with
  | zero =>
    intro t h0 h1 hn
    refine ⟨-1, ?_, .inl ⟨rfl, fun j a b => by omega⟩⟩
    rw [hL, if_neg (by simp; omega)]
  | succ n ih =>
    intro t h0 h1 hn
    rw [hL, if_pos (by simp; omega), G_pos (by omega)]
    obtain ⟨b, hb, hbp⟩ := hf _ (ix_mem h0 (by omega : t < s.length))
    rw [hb]
    cases b with
    | true => exact ⟨t, rfl, .inr ⟨by omega, by omega, hbp.1 rfl, fun j a b => by omega⟩⟩
    | false =>
      have hnp : ¬ P (ix s t) := fun hp => by simpa using hbp.2 hp
      obtain ⟨i, hi, hc⟩ := ih (t + 1) (by omega) (by omega) (by omega)
      refine ⟨i, ?_, ?_⟩
      · refine (if_neg (by simp) : (if false = true then some t else G (fits (t + 1)) (L (t + 1))) = _).trans ?_
        rw [G_pos (by unfold fits; omega), hi]
      · rcases hc with ⟨h2, h3⟩ | ⟨h2, h3, h4, h5⟩
        · refine .inl ⟨h2, fun j a b => ?_⟩
          by_cases e : j = t
          · rw [e]; exact hnp
          · exact h3 j (by omega) b
        · refine .inr ⟨by omega, h3, h4, fun j a b => ?_⟩
          by_cases e : j = t
          · rw [e]; exact hnp
          · exact h5 j (by omega) b
theorem contains_tells {s : List α} {f : α → Option Bool} {L : Int → Option Int} {P : α → Prop}
    (hL : ∀ t, L t = if decide (t < (s.length : Int)) = true then G (0 ≤ t ∧ t < (s.length : Int)) ((f (ix s t)).bind fun y => if y = true then some t else G (fits (t + 1)) (L (t + 1))) else some (-1))
    (hs : s.length ≤ 4611686018427387904) (hf : ∀ x ∈ s, Tells (f x) (P x)) : Tells ((L 0).bind fun y => some (decide ((0 : Int) ≤ y))) (∃ x ∈ s, P x) := by
  obtain ⟨i, hi, hc⟩ := index_loop hs hL hf _ 0 (by omega) (by omega) rfl
  rw [hi]
  refine ⟨decide (0 ≤ i), rfl, ?_⟩
  rw [decide_eq_true_iff, ex_ix]
  rcases hc with ⟨h2, h3⟩ | ⟨h2, h3, h4, h5⟩
  · constructor
    · intro h; omega
    · rintro ⟨j, h0, h1, hp⟩; exact absurd hp (h3 j h0 h1)
  · exact ⟨fun _ => ⟨i, by omega, h3, h4⟩, fun _ => by omega⟩
/-- .. of what carries along what it reads. -/
theorem contains_tells2 {s : List α} {c : C} {f : α → C → Option (Bool × C)} {L : Int → C → Option (Int × C)} {P : α → Prop}
    (hL : ∀ t c, L t c = if decide (t < (s.length : Int)) = true then G (0 ≤ t ∧ t < (s.length : Int)) ((f (ix s t) c).bind fun y => if y.1 = true then some (t, y.2) else G (fits (t + 1)) (L (t + 1) y.2)) else some (-1, c))
    (hs : s.length ≤ 4611686018427387904) (hf : ∀ x ∈ s, ∃ b, f x c = some (b, c) ∧ (b = true ↔ P x)) : ∃ b, ((L 0 c).bind fun y => some (decide ((0 : Int) ≤ y.1), y.2)) = some (b, c) ∧ (b = true ↔ ∃ x ∈ s, P x) := by
  have key : ∀ (n : Nat) (t : Int), 0 ≤ t → t ≤ s.length → (s.length - t).toNat = n →
      ∃ i, L t c = some (i, c) ∧ ((i = -1 ∧ ∀ j : Int, t ≤ j → j < s.length → ¬ P (ix s j)) ∨ (t ≤ i ∧ i < s.length ∧ P (ix s i))) := by
    intro n
    induction n with
    | zero =>
      intro t h0 h1 hn
      refine ⟨-1, ?_, .inl ⟨rfl, fun j a b => by omega⟩⟩
      rw [hL, if_neg (by simp; omega)]
    | succ n ih =>
      intro t h0 h1 hn
      rw [hL, if_pos (by simp; omega), G_pos (by omega)]
      obtain ⟨b, hb, hbp⟩ := hf _ (ix_mem h0 (by omega : t < s.length))
      rw [hb]
      cases b with
      | true => exact ⟨t, rfl, .inr ⟨by omega, by omega, hbp.1 rfl⟩⟩
      | false =>
        have hnp : ¬ P (ix s t) := fun hp => by simpa using hbp.2 hp
        obtain ⟨i, hi, hc⟩ := ih (t + 1) (by omega) (by omega) (by omega)
        refine ⟨i, ?_, ?_⟩
        · refine (if_neg (by simp) : (if false = true then some (t, c) else G (fits (t + 1)) (L (t + 1) c)) = _).trans ?_
          rw [G_pos (by unfold fits; omega), hi]
        · rcases hc with ⟨h2, h3⟩ | ⟨h2, h3, h4⟩
          · refine .inl ⟨h2, fun j a b => ?_⟩
            by_cases e : j = t
            · rw [e]; exact hnp
            · exact h3 j (by omega) b
          · exact .inr ⟨by omega, h3, h4⟩
  obtain ⟨i, hi, hc⟩ := key _ 0 (by omega) (by omega) rfl
  rw [hi]
  refine ⟨decide (0 ≤ i), rfl, ?_⟩
  rw [decide_eq_true_iff, ex_ix]
  rcases hc with ⟨h2, h3⟩ | ⟨h2, h3, h4⟩
  · constructor
    · intro h; omega
    · rintro ⟨j, h0, h1, hp⟩; exact absurd hp (h3 j h0 h1)
  · exact ⟨fun _ => ⟨i, by omega, h3, h4⟩, fun _ => by omega⟩
end
/-- A loop that looks for the first fault. -/
theorem scan_to {R : Type} {len : Int} {L : Int → Option R} {bad : Int → Prop} {x : Option R} {lo : Int} (h0 : lo ≤ len)
    (hs : ∀ t, lo ≤ t → t < len → (bad t → L t = x) ∧ (¬ bad t → L t = L (t + 1))) (hf : (∀ t, lo ≤ t → t < len → ¬ bad t) → L len = x) : L lo = x := by
  have key : ∀ (n : Nat) (t : Int), lo ≤ t → t ≤ len → (len - t).toNat = n → (∀ j, lo ≤ j → j < t → ¬ bad j) → L t = x := by
    intro n
    induction n with
    | zero =>
      intro t h1 h2 hn h
      obtain rfl : t = len := by omega
      exact hf h
    | succ n ih =>
      intro t h1 h2 hn h
      by_cases hb : bad t
      · exact (hs t h1 (by omega)).1 hb
      · rw [(hs t h1 (by omega)).2 hb]
        refine ih (t + 1) (by omega) (by omega) (by omega) fun j a b => ?_
        by_cases e : j = t
        · rw [e]; exact hb
        · exact h j a (by omega)
  exact key _ lo (Int.le_refl _) h0 rfl (fun j a b => by omega)
/-- A loop that counts, with a state. -/
theorem fold_to {R S : Type} {len : Int} {L : Int → S → Option R} {f : Int → S → S} {lo : Int} {I : Int → S → Prop} {s : S} (h0 : lo ≤ len) (hI : I lo s)
    (hs : ∀ t s, lo ≤ t → t < len → I t s → L t s = L (t + 1) (f t s) ∧ I (t + 1) (f t s)) : ∃ s', I len s' ∧ L lo s = L len s' := by
  have key : ∀ (n : Nat) (t : Int) (s : S), lo ≤ t → t ≤ len → (len - t).toNat = n → I t s → ∃ s', I len s' ∧ L t s = L len s' := by
    intro n
    induction n with
    | zero =>
      intro t s h1 h2 hn h
      obtain rfl : t = len := by omega
      exact ⟨s, h, rfl⟩
    | succ n ih =>
      intro t s h1 h2 hn h
      obtain ⟨e, h3⟩ := hs t s h1 (by omega) h
      obtain ⟨s', h4, h5⟩ := ih (t + 1) _ (by omega) (by omega) (by omega) h3
      exact ⟨s', h4, e.trans h5⟩
  exact key _ lo s (Int.le_refl _) h0 rfl hI

theorem r1_May_L6_spec {letters : Int} {w : List Int} (hL : 1 ≤ letters ∧ letters ≤ 4) (hw : w.length ≤ (60 : Int)) : ∀ (n : Nat) (i : Int), 0 ≤ i → i ≤ w.length → (w.length - i).toNat = n → (∀ j : Int, 0 ≤ j → j < i → 0 ≤ ix w j ∧ ix w j < letters) → r1_May_L6 letters w i = some (mayE letters w) := by
  intro n
  induction n with
  | zero =>
    intro i h0 h1 hn h
    rw [r1_May_L6_eq]; unfold r1_May_L6_B
    (try dsimp only); (repeat' first | (with_reducible refine G_to ?_ ?_; focus (first | omega | (unfold fits; omega) | (unfold room; (try simp only [List.length_append, List.length_cons, List.length_nil]); omega))) | (with_reducible refine both_to ?_ ?_) | (with_reducible refine itet_to ?_) | (with_reducible refine itef_to ?_) | (with_reducible refine ite_to (fun _ => ?_) (fun _ => ?_))) <;> try (exfalso; omega)
    · rw [mayE_ok hL hw (fun j a b => h j a (by omega))]
  | succ n ih =>
    intro i h0 h1 hn h
    rw [r1_May_L6_eq]; unfold r1_May_L6_B
    (try dsimp only); (repeat' first | (with_reducible refine G_to ?_ ?_; focus (first | omega | (unfold fits; omega) | (unfold room; (try simp only [List.length_append, List.length_cons, List.length_nil]); omega))) | (with_reducible refine both_to ?_ ?_) | (with_reducible refine itet_to ?_) | (with_reducible refine itef_to ?_) | (with_reducible refine ite_to (fun _ => ?_) (fun _ => ?_))) <;> try (exfalso; omega)
    · rw [mayE_bad hL hw (i := i) (by omega) (by omega)]
    · rw [mayE_bad hL hw (i := i) (by omega) (by omega)]
    · exact ih _ (by omega) (by omega) (by omega) (below_succ h (by omega))
theorem r1_May_spec {letters : Int} {w : List Int} : r1_May letters w = some (mayE letters w) := by
  unfold r1_May
  (try dsimp only); (repeat' first | (with_reducible refine G_to ?_ ?_; focus (first | omega | (unfold fits; omega) | (unfold room; (try simp only [List.length_append, List.length_cons, List.length_nil]); omega))) | (with_reducible refine both_to ?_ ?_) | (with_reducible refine itet_to ?_) | (with_reducible refine itef_to ?_) | (with_reducible refine ite_to (fun _ => ?_) (fun _ => ?_))) <;> try (exfalso; omega)
  · rw [mayE_range (by omega)]
  · rw [mayE_range (by omega)]
  · rw [mayE_size (by omega) (by omega)]
  · exact r1_May_L6_spec (by omega) (by omega) _ 0 (by omega) (by omega) rfl (fun j a b => by omega)

theorem word_May_L6_spec {letters : Int} {w : List Int} (hL : 1 ≤ letters ∧ letters ≤ 4) (hw : w.length ≤ (60 : Int)) : ∀ (n : Nat) (i : Int), 0 ≤ i → i ≤ w.length → (w.length - i).toNat = n → (∀ j : Int, 0 ≤ j → j < i → 0 ≤ ix w j ∧ ix w j < letters) → word_May_L6 letters w i = some (mayE letters w) := by
  intro n
  induction n with
  | zero =>
    intro i h0 h1 hn h
    rw [word_May_L6_eq]; unfold word_May_L6_B
    (try dsimp only); (repeat' first | (with_reducible refine G_to ?_ ?_; focus (first | omega | (unfold fits; omega) | (unfold room; (try simp only [List.length_append, List.length_cons, List.length_nil]); omega))) | (with_reducible refine both_to ?_ ?_) | (with_reducible refine itet_to ?_) | (with_reducible refine itef_to ?_) | (with_reducible refine ite_to (fun _ => ?_) (fun _ => ?_))) <;> try (exfalso; omega)
    · rw [mayE_ok hL hw (fun j a b => h j a (by omega))]
  | succ n ih =>
    intro i h0 h1 hn h
    rw [word_May_L6_eq]; unfold word_May_L6_B
    (try dsimp only); (repeat' first | (with_reducible refine G_to ?_ ?_; focus (first | omega | (unfold fits; omega) | (unfold room; (try simp only [List.length_append, List.length_cons, List.length_nil]); omega))) | (with_reducible refine both_to ?_ ?_) | (with_reducible refine itet_to ?_) | (with_reducible refine itef_to ?_) | (with_reducible refine ite_to (fun _ => ?_) (fun _ => ?_))) <;> try (exfalso; omega)
    · rw [mayE_bad hL hw (i := i) (by omega) (by omega)]
    · rw [mayE_bad hL hw (i := i) (by omega) (by omega)]
    · exact ih _ (by omega) (by omega) (by omega) (below_succ h (by omega))
theorem word_May_spec {letters : Int} {w : List Int} : word_May letters w = some (mayE letters w) := by
  unfold word_May
  (try dsimp only); (repeat' first | (with_reducible refine G_to ?_ ?_; focus (first | omega | (unfold fits; omega) | (unfold room; (try simp only [List.length_append, List.length_cons, List.length_nil]); omega))) | (with_reducible refine both_to ?_ ?_) | (with_reducible refine itet_to ?_) | (with_reducible refine itef_to ?_) | (with_reducible refine ite_to (fun _ => ?_) (fun _ => ?_))) <;> try (exfalso; omega)
  · rw [mayE_range (by omega)]
  · rw [mayE_range (by omega)]
  · rw [mayE_size (by omega) (by omega)]
  · exact word_May_L6_spec (by omega) (by omega) _ 0 (by omega) (by omega) rfl (fun j a b => by omega)

theorem slices_Clone_spec {s : List Int} (hs : s.length * 8 ≤ 140737488355328) : slices_Clone s = some s := by
  have hr : G (room ([] : List Int) s 8) (some (([] : List Int) ++ s)) = some s := by
    rw [G_pos (room_of (by simpa using hs))]; rfl
  unfold slices_Clone
  refine itep_to (fun h => ?_) (fun h => hr)
  obtain rfl : s = [] := List.length_eq_zero_iff.1 h
  rw [hr]; exact both_self (ts := [(.list (.int .i64))]) (some ([] : List Int))

/- Two numbers as one. -/
theorem pair_code {p q p' q' n : Int} (h : 0 ≤ q ∧ q < n) (h' : 0 ≤ q' ∧ q' < n) (e : p * n + q = p' * n + q') : p = p' ∧ q = q' := by
  have e1 : (p * n + q) / n = p := by
    rw [Int.mul_comm, Int.mul_add_ediv_left _ _ (by omega), Int.ediv_eq_zero_of_lt h.1 h.2]; omega
  have e2 : (p' * n + q') / n = p' := by
    rw [Int.mul_comm, Int.mul_add_ediv_left _ _ (by omega), Int.ediv_eq_zero_of_lt h'.1 h'.2]; omega
  have : p = p' := by rw [← e1, ← e2, e]
  subst this
  exact ⟨rfl, by omega⟩
theorem pair_lt {p q n m : Int} (h : 0 ≤ p ∧ p < m) (h' : 0 ≤ q ∧ q < n) : 0 ≤ p * n + q ∧ p * n + q < m * n := by
  have h1 : 0 ≤ p * n := Int.mul_nonneg h.1 (by omega)
  have h2 : (p + 1) * n ≤ m * n := Int.mul_le_mul_of_nonneg_right (by omega) (by omega)
  rw [Int.add_mul] at h2
  omega

abbrev Stp := Int × Int × Int × Unit
abbrev Au := Int × Int × List Int × List Stp × List Int × Unit
theorem scan2 {R : Type} {len : Int} {L : Int → Option R} {bad : Int → Prop} {x : Option R} {lo : Int}
    (hs : ∀ t, lo ≤ t → t < len → (bad t → L t = x) ∧ (¬ bad t → L t = L (t + 1))) (hf : ∀ t, lo ≤ t → len ≤ t → (∀ u, lo ≤ u → u < len → ¬ bad u) → L t = x) : L lo = x := by
  by_cases h : lo ≤ len
  · exact scan_to h hs (fun hh => hf len h (Int.le_refl _) hh)
  · exact hf lo (Int.le_refl _) (by omega) (fun u a b => by omega)
def noS (a : Au) (q : Int) : Prop := q < 0 ∨ a.2.1 ≤ q
def badX (a : Au) (x : Stp) : Prop := noS a x.1 ∨ noS a x.2.2.1 ∨ x.2.1 < 0 ∨ a.1 ≤ x.2.1
def aheadP (x y : Stp) : Prop := x.1 < y.1 ∨ (x.1 = y.1 ∧ (x.2.1 < y.2.1 ∨ (x.2.1 = y.2.1 ∧ x.2.2.1 < y.2.2.1)))
def FallI (l : List Int) : Prop := ∃ i : Int, 1 ≤ i ∧ i < l.length ∧ ix l i ≤ ix l (i - 1)
def FallX (l : List Stp) : Prop := ∃ i : Int, 1 ≤ i ∧ i < l.length ∧ ¬ aheadP (ix l (i - 1)) (ix l i)
def ASize (a : Au) : Prop := a.2.1 < 1 ∨ 300 < a.2.1 ∨ 40000 < (a.2.2.2.1.length : Int)
def AOut (a : Au) : Prop := (∃ q ∈ a.2.2.1, noS a q) ∨ (∃ q ∈ a.2.2.2.2.1, noS a q) ∨ (∃ x ∈ a.2.2.2.1, badX a x)
def AFall (a : Au) : Prop := FallI a.2.2.1 ∨ FallI a.2.2.2.2.1 ∨ FallX a.2.2.2.1
open Classical in
noncomputable def autE (a : Au) : Int := if a.1 < 1 ∨ 4 < a.1 then 2 else if ASize a then 1 else if AOut a then 2 else if AFall a then 3 else 0
structure AuLen (a : Au) : Prop where
  s : (a.2.2.1.length : Int) ≤ 20000000000000
  f : (a.2.2.2.2.1.length : Int) ≤ 20000000000000
theorem nn_tells (q : Int) (a : Au) : Tells (buchi_Check_1 q a) (noS a q) := by
  unfold buchi_Check_1 noS
  by_cases h : q < 0
  · rw [if_pos (decide_eq_true h)]; exact Tells.of (by simp [h])
  · rw [if_neg (by simpa using h)]; exact Tells.dec (by omega)
theorem rising_spec {l : List Int} (hl : (l.length : Int) ≤ 20000000000000) : Tells (buchi_rising l) (¬ FallI l) := by
  unfold buchi_rising
  have key : ∀ (n : Nat) (t : Int), (l.length - t).toNat = n → 0 ≤ t → t ≤ l.length → (∀ i : Int, 1 ≤ i → i < t → ¬ ix l i ≤ ix l (i - 1)) → Tells (buchi_rising_L2 l t) (¬ FallI l) := by
    intro n
    induction n with
    | zero =>
      intro t hn h0 h1 hj
      rw [buchi_rising_L2_eq]; unfold buchi_rising_L2_B
      rw [if_neg (by simp; omega)]
      refine Tells.of (Iff.intro (fun _ hh => ?_) (fun _ => rfl))
      obtain ⟨i, i0, i1, i2⟩ := hh
      exact hj i i0 (by omega) i2
    | succ n ih =>
      intro t hn h0 h1 hj
      rw [buchi_rising_L2_eq]; unfold buchi_rising_L2_B
      rw [if_pos (by simp; omega)]
      by_cases c : 0 < t
      · rw [if_pos (decide_eq_true c), G_pos (by unfold fits; omega), G_pos (by omega), G_pos (by omega)]
        by_cases c2 : ix l t ≤ ix l (t - 1)
        · rw [if_pos (decide_eq_true c2)]
          exact Tells.of ⟨fun e => absurd e (by simp), fun h => absurd ⟨t, by omega, by omega, c2⟩ h⟩
        · rw [if_neg (by simpa using c2), G_pos (by unfold fits; omega)]
          refine ih (t + 1) (by omega) (by omega) (by omega) (fun i i0 i1 => ?_)
          by_cases e : i = t
          · rw [e]; exact c2
          · exact hj i i0 (by omega)
      · rw [if_neg (by simpa using c), G_pos (by unfold fits; omega)]
        exact ih (t + 1) (by omega) (by omega) (by omega) (fun i i0 i1 => by omega)
  exact key _ 0 rfl (by omega) (by omega) (fun i i0 i1 => by omega)
theorem order_spec (x y : Stp) : ∃ v : Int, buchi_order x y = some v ∧ (v < 0 ↔ aheadP x y) := by
  have cmp : ∀ a b : Int, cmp_Compare a b = some (if a < b then -1 else if b < a then 1 else 0) := fun a b => by
    unfold cmp_Compare cmp_isNaN
    refine bind_to rfl (bind_to rfl ?_)
    rw [if_neg (by simp), if_neg (by simp)]
    by_cases c : a < b
    · rw [if_pos (decide_eq_true c), if_pos c]
    · rw [if_neg (by simpa using c), if_neg c]
      by_cases c2 : b < a
      · rw [if_pos (decide_eq_true c2), if_pos c2]
      · rw [if_neg (by simpa using c2), if_neg c2]
  have or3 : ∀ p q r : Int, cmp_Or [p, q, r] = some (if p ≠ 0 then p else if q ≠ 0 then q else r) := fun p q r => by
    unfold cmp_Or
    rw [cmp_Or_L3_eq]; unfold cmp_Or_L3_B
    rw [if_pos (by simp), G_pos (by simp), show ix [p, q, r] 0 = p from rfl]
    by_cases c : p = 0
    · rw [if_neg (by simpa using c), if_neg (by simpa using c), G_pos (by unfold fits; omega), cmp_Or_L3_eq]; unfold cmp_Or_L3_B
      rw [if_pos (by simp), G_pos (by simp), show ix [p, q, r] (0 + 1) = q from rfl]
      by_cases c2 : q = 0
      · rw [if_neg (by simpa using c2), if_neg (by simpa using c2), G_pos (by unfold fits; omega), cmp_Or_L3_eq]; unfold cmp_Or_L3_B
        rw [if_pos (by simp), G_pos (by simp), show ix [p, q, r] (0 + 1 + 1) = r from rfl]
        by_cases c3 : r = 0
        · rw [if_neg (by simpa using c3), G_pos (by unfold fits; omega), cmp_Or_L3_eq]; unfold cmp_Or_L3_B
          rw [if_neg (by simp), c3]
        · rw [if_pos (by simpa using c3)]
      · rw [if_pos (by simpa using c2), if_pos (by simpa using c2)]
    · rw [if_pos (by simpa using c), if_pos (by simpa using c)]
  refine ⟨if (if x.1 < y.1 then (-1 : Int) else if y.1 < x.1 then 1 else 0) ≠ 0 then (if x.1 < y.1 then -1 else if y.1 < x.1 then 1 else 0) else if (if x.2.1 < y.2.1 then (-1 : Int) else if y.2.1 < x.2.1 then 1 else 0) ≠ 0 then (if x.2.1 < y.2.1 then -1 else if y.2.1 < x.2.1 then 1 else 0) else (if x.2.2.1 < y.2.2.1 then -1 else if y.2.2.1 < x.2.2.1 then 1 else 0), ?_, ?_⟩
  · unfold buchi_order
    exact bind_to (cmp _ _) (bind_to (cmp _ _) (bind_to (cmp _ _) (bind_to (or3 _ _ _) rfl)))
  · unfold aheadP
    generalize x.1 = a, y.1 = b, x.2.1 = c, y.2.1 = e, x.2.2.1 = f, y.2.2.1 = g
    by_cases h1 : a < b
    · rw [if_pos h1]; simp [h1]
    · rw [if_neg h1]
      by_cases h2 : b < a
      · rw [if_pos h2]; simp; omega
      · rw [if_neg h2]
        have : a = b := by omega
        subst this
        by_cases h3 : c < e
        · rw [if_pos h3]; simp [h3]
        · rw [if_neg h3]
          by_cases h4 : e < c
          · rw [if_pos h4]; simp; omega
          · rw [if_neg h4]
            have : c = e := by omega
            subst this
            by_cases h5 : f < g
            · rw [if_pos h5]; simp [h5]
            · rw [if_neg h5]
              by_cases h6 : g < f
              · rw [if_pos h6]; simp; omega
              · rw [if_neg h6]; simp; omega
theorem check2_spec (x : Stp) (a : Au) : ∃ b, buchi_Check_2 x a a = some (b, a) ∧ (b = true ↔ badX a x) := by
  unfold buchi_Check_2 badX
  obtain ⟨p, hp, hp2⟩ := nn_tells x.1 a
  obtain ⟨q, hq, hq2⟩ := nn_tells x.2.2.1 a
  rw [hp]
  cases p with
  | true => exact ⟨true, rfl, by simp [hp2.1 rfl]⟩
  | false =>
    have np : ¬ noS a x.1 := fun h => by have := hp2.2 h; cases this
    cases q with
    | true => exact ⟨true, bind_to rfl (by rw [if_neg (by simp)]; exact bind_to hq rfl), by simp [hq2.1 rfl]⟩
    | false =>
      have nq : ¬ noS a x.2.2.1 := fun h => by have := hq2.2 h; cases this
      by_cases c : x.2.1 < 0
      · exact ⟨true, bind_to rfl (by rw [if_neg (by simp)]; exact bind_to hq (by rw [if_neg (by simp), if_pos (decide_eq_true c)])), by simp [c]⟩
      · exact ⟨decide (a.1 ≤ x.2.1), bind_to rfl (by rw [if_neg (by simp)]; exact bind_to hq (by rw [if_neg (by simp), if_neg (by simpa using c)])), by simp [np, nq]; omega⟩
theorem buchi_Check_spec {a : Au} (hl : AuLen a) : buchi_Check a = some (autE a) := by
  have hs := hl.s
  have hff := hl.f
  unfold buchi_Check autE
  by_cases c1 : a.1 < 1 ∨ 4 < a.1
  · rw [if_pos c1]
    (try dsimp only); (repeat' first | (with_reducible refine G_to ?_ ?_; focus (first | omega | (unfold fits; omega) | (unfold room; (try simp only [List.length_append, List.length_cons, List.length_nil]); omega))) | (with_reducible refine both_to ?_ ?_) | (with_reducible refine itet_to ?_) | (with_reducible refine itef_to ?_) | (with_reducible refine ite_to (fun _ => ?_) (fun _ => ?_))) <;> try (exfalso; omega)
    all_goals rfl
  rw [if_neg c1]
  by_cases c2 : ASize a
  · rw [if_pos c2]; unfold ASize at c2
    (try dsimp only); (repeat' first | (with_reducible refine G_to ?_ ?_; focus (first | omega | (unfold fits; omega) | (unfold room; (try simp only [List.length_append, List.length_cons, List.length_nil]); omega))) | (with_reducible refine both_to ?_ ?_) | (with_reducible refine itet_to ?_) | (with_reducible refine itef_to ?_) | (with_reducible refine ite_to (fun _ => ?_) (fun _ => ?_))) <;> try (exfalso; omega)
    all_goals rfl
  rw [if_neg c2]
  unfold ASize at c2
  (try dsimp only); (repeat' first | (with_reducible refine G_to ?_ ?_; focus (first | omega | (unfold fits; omega) | (unfold room; (try simp only [List.length_append, List.length_cons, List.length_nil]); omega))) | (with_reducible refine both_to ?_ ?_) | (with_reducible refine itet_to ?_) | (with_reducible refine itef_to ?_) | (with_reducible refine ite_to (fun _ => ?_) (fun _ => ?_))) <;> try (exfalso; omega)
  have k1 : ∀ s : List Int, (s.length : Int) ≤ 20000000000000 → Tells (slices_ContainsFunc s a) (∃ q ∈ s, noS a q) := fun s hs => contains_tells (f := fun q => buchi_Check_1 q a) (slices_IndexFunc_L2_eq s a) (by omega) (fun x _ => nn_tells x a)
  obtain ⟨b3, hb3, hb32⟩ : ∃ b, slices_ContainsFunc_1 a.2.2.2.1 a a = some (b, a) ∧ (b = true ↔ ∃ x ∈ a.2.2.2.1, badX a x) :=
    contains_tells2 (f := fun x c => buchi_Check_2 x a c) (L := fun t c => slices_IndexFunc_1_L2 a.2.2.2.1 a t c) (fun t c => slices_IndexFunc_1_L2_eq a.2.2.2.1 a t c) (by omega) (fun x _ => check2_spec x a)
  have ea : (a.1, a.2.1, a.2.2.1, a.2.2.2.1, a.2.2.2.2.1, ()) = a := rfl
  rw [ea]
  refine (k1 _ hs).to (fun h => by rw [if_pos (show AOut a from .inl h)]) (fun h1 => ?_)
  refine (k1 _ hff).to (fun h => by rw [if_pos (show AOut a from .inr (.inl h))]) (fun h2 => ?_)
  refine bind_to hb3 ?_
  by_cases h3 : ∃ x ∈ a.2.2.2.1, badX a x
  · rw [if_pos (hb32.2 h3), if_pos (show AOut a from .inr (.inr h3))]
  rw [if_neg (fun e => h3 (hb32.1 e)), if_neg (show ¬ AOut a from fun h => h.elim h1 (fun h => h.elim h2 h3))]
  obtain ⟨r1, e1, f1⟩ := rising_spec hs
  obtain ⟨r2, e2, f2⟩ := rising_spec hff
  refine bind_to e1 ?_
  by_cases g1 : FallI a.2.2.1
  · rw [if_pos (show AFall a from .inl g1), if_pos (by cases r1; rfl; exact absurd g1 (f1.1 rfl))]
  rw [if_neg (by rw [f1.2 g1]; simp)]
  refine bind_to e2 ?_
  by_cases g2 : FallI a.2.2.2.2.1
  · rw [if_pos (show AFall a from .inr (.inl g2)), if_pos (by cases r2; rfl; exact absurd g2 (f2.1 rfl))]
  rw [if_neg (by rw [f2.2 g2]; simp)]
  refine scan2 (len := (a.2.2.2.1.length : Int)) (bad := fun t => 1 ≤ t ∧ ¬ aheadP (ix a.2.2.2.1 (t - 1)) (ix a.2.2.2.1 t)) (lo := 0) (fun t t0 t1 => ⟨fun hb => ?_, fun hb => ?_⟩) (fun t t0 t1 hh => ?_)
  · rw [if_pos (show AFall a from .inr (.inr ⟨t, hb.1, t1, hb.2⟩)), buchi_Check_L11_eq]; unfold buchi_Check_L11_B
    obtain ⟨v, hv, hv2⟩ := order_spec (ix a.2.2.2.1 (t - 1)) (ix a.2.2.2.1 t)
    rw [if_pos (by simp; omega), if_pos (by simp; omega), G_pos (by unfold fits; omega), G_pos (by omega), G_pos (by omega)]
    refine bind_to hv ?_
    rw [if_pos (by rw [decide_eq_true_iff]; exact Int.not_lt.1 (fun h => hb.2 (hv2.1 h)))]
  · conv => lhs; rw [buchi_Check_L11_eq]; unfold buchi_Check_L11_B
    rw [if_pos (by simp; omega)]
    by_cases c : 0 < t
    · obtain ⟨v, hv, hv2⟩ := order_spec (ix a.2.2.2.1 (t - 1)) (ix a.2.2.2.1 t)
      have hah : aheadP (ix a.2.2.2.1 (t - 1)) (ix a.2.2.2.1 t) := Classical.byContradiction fun hn => hb ⟨by omega, hn⟩
      rw [if_pos (decide_eq_true c), G_pos (by unfold fits; omega), G_pos (by omega), G_pos (by omega)]
      refine bind_to hv ?_
      rw [if_neg (by have := hv2.2 hah; simp; omega), G_pos (by unfold fits; omega)]
    · rw [if_neg (by simpa using c), G_pos (by unfold fits; omega)]
  · rw [if_neg (show ¬ AFall a from fun h => h.elim g1 (fun h => h.elim g2 (fun ⟨i, i0, i1, i2⟩ => hh i (by omega) i1 ⟨i0, i2⟩))), buchi_Check_L11_eq]; unfold buchi_Check_L11_B
    rw [if_neg (by simp; omega)]
theorem r7_Ahead_spec (x y : Stp) : Tells (r7_Ahead x y) (aheadP x y) := by
  unfold r7_Ahead aheadP
  by_cases c : x.1 = y.1
  · rw [if_neg (by simpa using c)]
    by_cases c2 : x.2.1 = y.2.1
    · rw [if_neg (by simpa using c2)]; exact Tells.dec (by omega)
    · rw [if_pos (by simpa using c2)]; exact Tells.dec (by omega)
  · rw [if_pos (by simpa using c)]; exact Tells.dec (by omega)
theorem r7_Check_spec {a : Au} (hl : AuLen a) : r7_Check a = some (autE a) := by
  have hs := hl.s
  have hff := hl.f
  unfold r7_Check autE
  by_cases c1 : a.1 < 1 ∨ 4 < a.1
  · rw [if_pos c1]
    (try dsimp only); (repeat' first | (with_reducible refine G_to ?_ ?_; focus (first | omega | (unfold fits; omega) | (unfold room; (try simp only [List.length_append, List.length_cons, List.length_nil]); omega))) | (with_reducible refine both_to ?_ ?_) | (with_reducible refine itet_to ?_) | (with_reducible refine itef_to ?_) | (with_reducible refine ite_to (fun _ => ?_) (fun _ => ?_))) <;> try (exfalso; omega)
    all_goals rfl
  rw [if_neg c1]
  by_cases c2 : ASize a
  · rw [if_pos c2]; unfold ASize at c2
    (try dsimp only); (repeat' first | (with_reducible refine G_to ?_ ?_; focus (first | omega | (unfold fits; omega) | (unfold room; (try simp only [List.length_append, List.length_cons, List.length_nil]); omega))) | (with_reducible refine both_to ?_ ?_) | (with_reducible refine itet_to ?_) | (with_reducible refine itef_to ?_) | (with_reducible refine ite_to (fun _ => ?_) (fun _ => ?_))) <;> try (exfalso; omega)
    all_goals rfl
  rw [if_neg c2]
  unfold ASize at c2
  (try dsimp only); (repeat' first | (with_reducible refine G_to ?_ ?_; focus (first | omega | (unfold fits; omega) | (unfold room; (try simp only [List.length_append, List.length_cons, List.length_nil]); omega))) | (with_reducible refine both_to ?_ ?_) | (with_reducible refine itet_to ?_) | (with_reducible refine itef_to ?_) | (with_reducible refine ite_to (fun _ => ?_) (fun _ => ?_))) <;> try (exfalso; omega)
  refine scan2 (len := (a.2.2.1.length : Int)) (bad := fun t => noS a (ix a.2.2.1 t)) (lo := 0) (fun t t0 t1 => ⟨fun hb => ?_, fun hb => ?_⟩) (fun t t0 t1 hh => ?_)
  · rw [if_pos (show AOut a from .inl (ex_ix.2 ⟨t, t0, t1, hb⟩)), r7_Check_L6_eq]; unfold r7_Check_L6_B; unfold noS at hb
    (try dsimp only); (repeat' first | (with_reducible refine G_to ?_ ?_; focus (first | omega | (unfold fits; omega) | (unfold room; (try simp only [List.length_append, List.length_cons, List.length_nil]); omega))) | (with_reducible refine both_to ?_ ?_) | (with_reducible refine itet_to ?_) | (with_reducible refine itef_to ?_) | (with_reducible refine ite_to (fun _ => ?_) (fun _ => ?_))) <;> try (exfalso; omega)
    all_goals rfl
  · conv => lhs; rw [r7_Check_L6_eq]; unfold r7_Check_L6_B
    unfold noS at hb
    (try dsimp only); (repeat' first | (with_reducible refine G_to ?_ ?_; focus (first | omega | (unfold fits; omega) | (unfold room; (try simp only [List.length_append, List.length_cons, List.length_nil]); omega))) | (with_reducible refine both_to ?_ ?_) | (with_reducible refine itet_to ?_) | (with_reducible refine itef_to ?_) | (with_reducible refine ite_to (fun _ => ?_) (fun _ => ?_))) <;> try (exfalso; omega)
    all_goals rfl
  have h1 : ¬ ∃ q ∈ a.2.2.1, noS a q := fun h => by obtain ⟨i, i0, i1, i2⟩ := ex_ix.1 h; exact hh i i0 i1 i2
  rw [r7_Check_L6_eq]; unfold r7_Check_L6_B
  rw [if_neg (by simp; omega)]
  refine scan2 (len := (a.2.2.2.2.1.length : Int)) (bad := fun t => noS a (ix a.2.2.2.2.1 t)) (lo := 0) (fun t t0 t1 => ⟨fun hb => ?_, fun hb => ?_⟩) (fun t t0 t1 hh => ?_)
  · rw [if_pos (show AOut a from .inr (.inl (ex_ix.2 ⟨t, t0, t1, hb⟩))), r7_Check_L11_eq]; unfold r7_Check_L11_B; unfold noS at hb
    (try dsimp only); (repeat' first | (with_reducible refine G_to ?_ ?_; focus (first | omega | (unfold fits; omega) | (unfold room; (try simp only [List.length_append, List.length_cons, List.length_nil]); omega))) | (with_reducible refine both_to ?_ ?_) | (with_reducible refine itet_to ?_) | (with_reducible refine itef_to ?_) | (with_reducible refine ite_to (fun _ => ?_) (fun _ => ?_))) <;> try (exfalso; omega)
    all_goals rfl
  · conv => lhs; rw [r7_Check_L11_eq]; unfold r7_Check_L11_B
    unfold noS at hb
    (try dsimp only); (repeat' first | (with_reducible refine G_to ?_ ?_; focus (first | omega | (unfold fits; omega) | (unfold room; (try simp only [List.length_append, List.length_cons, List.length_nil]); omega))) | (with_reducible refine both_to ?_ ?_) | (with_reducible refine itet_to ?_) | (with_reducible refine itef_to ?_) | (with_reducible refine ite_to (fun _ => ?_) (fun _ => ?_))) <;> try (exfalso; omega)
    all_goals rfl
  have h2 : ¬ ∃ q ∈ a.2.2.2.2.1, noS a q := fun h => by obtain ⟨i, i0, i1, i2⟩ := ex_ix.1 h; exact hh i i0 i1 i2
  rw [r7_Check_L11_eq]; unfold r7_Check_L11_B
  rw [if_neg (by simp; omega)]
  refine scan2 (len := (a.2.2.2.1.length : Int)) (bad := fun t => badX a (ix a.2.2.2.1 t)) (lo := 0) (fun t t0 t1 => ⟨fun hb => ?_, fun hb => ?_⟩) (fun t t0 t1 hh => ?_)
  · rw [if_pos (show AOut a from .inr (.inr (ex_ix.2 ⟨t, t0, t1, hb⟩))), r7_Check_L16_eq]; unfold r7_Check_L16_B; unfold badX noS at hb
    (try dsimp only); (repeat' first | (with_reducible refine G_to ?_ ?_; focus (first | omega | (unfold fits; omega) | (unfold room; (try simp only [List.length_append, List.length_cons, List.length_nil]); omega))) | (with_reducible refine both_to ?_ ?_) | (with_reducible refine itet_to ?_) | (with_reducible refine itef_to ?_) | (with_reducible refine ite_to (fun _ => ?_) (fun _ => ?_))) <;> try (exfalso; omega)
    all_goals rfl
  · conv => lhs; rw [r7_Check_L16_eq]; unfold r7_Check_L16_B
    unfold badX noS at hb
    (try dsimp only); (repeat' first | (with_reducible refine G_to ?_ ?_; focus (first | omega | (unfold fits; omega) | (unfold room; (try simp only [List.length_append, List.length_cons, List.length_nil]); omega))) | (with_reducible refine both_to ?_ ?_) | (with_reducible refine itet_to ?_) | (with_reducible refine itef_to ?_) | (with_reducible refine ite_to (fun _ => ?_) (fun _ => ?_))) <;> try (exfalso; omega)
    all_goals rfl
  have h3 : ¬ ∃ q ∈ a.2.2.2.1, badX a q := fun h => by obtain ⟨i, i0, i1, i2⟩ := ex_ix.1 h; exact hh i i0 i1 i2
  rw [if_neg (show ¬ AOut a from fun h => h.elim h1 (fun h => h.elim h2 h3)), r7_Check_L16_eq]; unfold r7_Check_L16_B
  rw [if_neg (by simp; omega)]
  refine scan2 (len := (a.2.2.1.length : Int)) (bad := fun t => ix a.2.2.1 t ≤ ix a.2.2.1 (t - 1)) (lo := 1) (fun t t0 t1 => ⟨fun hb => ?_, fun hb => ?_⟩) (fun t t0 t1 hh => ?_)
  · rw [if_pos (show AFall a from .inl ⟨t, t0, t1, hb⟩), r7_Check_L22_eq]; unfold r7_Check_L22_B
    (try dsimp only); (repeat' first | (with_reducible refine G_to ?_ ?_; focus (first | omega | (unfold fits; omega) | (unfold room; (try simp only [List.length_append, List.length_cons, List.length_nil]); omega))) | (with_reducible refine both_to ?_ ?_) | (with_reducible refine itet_to ?_) | (with_reducible refine itef_to ?_) | (with_reducible refine ite_to (fun _ => ?_) (fun _ => ?_))) <;> try (exfalso; omega)
    all_goals rfl
  · conv => lhs; rw [r7_Check_L22_eq]; unfold r7_Check_L22_B
    (try dsimp only); (repeat' first | (with_reducible refine G_to ?_ ?_; focus (first | omega | (unfold fits; omega) | (unfold room; (try simp only [List.length_append, List.length_cons, List.length_nil]); omega))) | (with_reducible refine both_to ?_ ?_) | (with_reducible refine itet_to ?_) | (with_reducible refine itef_to ?_) | (with_reducible refine ite_to (fun _ => ?_) (fun _ => ?_))) <;> try (exfalso; omega)
    all_goals rfl
  have g1 : ¬ FallI a.2.2.1 := fun ⟨i, i0, i1, i2⟩ => hh i i0 i1 i2
  rw [r7_Check_L22_eq]; unfold r7_Check_L22_B
  rw [if_neg (by simp; omega)]
  refine scan2 (len := (a.2.2.2.2.1.length : Int)) (bad := fun t => ix a.2.2.2.2.1 t ≤ ix a.2.2.2.2.1 (t - 1)) (lo := 1) (fun t t0 t1 => ⟨fun hb => ?_, fun hb => ?_⟩) (fun t t0 t1 hh => ?_)
  · rw [if_pos (show AFall a from .inr (.inl ⟨t, t0, t1, hb⟩)), r7_Check_L27_eq]; unfold r7_Check_L27_B
    (try dsimp only); (repeat' first | (with_reducible refine G_to ?_ ?_; focus (first | omega | (unfold fits; omega) | (unfold room; (try simp only [List.length_append, List.length_cons, List.length_nil]); omega))) | (with_reducible refine both_to ?_ ?_) | (with_reducible refine itet_to ?_) | (with_reducible refine itef_to ?_) | (with_reducible refine ite_to (fun _ => ?_) (fun _ => ?_))) <;> try (exfalso; omega)
    all_goals rfl
  · conv => lhs; rw [r7_Check_L27_eq]; unfold r7_Check_L27_B
    (try dsimp only); (repeat' first | (with_reducible refine G_to ?_ ?_; focus (first | omega | (unfold fits; omega) | (unfold room; (try simp only [List.length_append, List.length_cons, List.length_nil]); omega))) | (with_reducible refine both_to ?_ ?_) | (with_reducible refine itet_to ?_) | (with_reducible refine itef_to ?_) | (with_reducible refine ite_to (fun _ => ?_) (fun _ => ?_))) <;> try (exfalso; omega)
    all_goals rfl
  have g2 : ¬ FallI a.2.2.2.2.1 := fun ⟨i, i0, i1, i2⟩ => hh i i0 i1 i2
  rw [r7_Check_L27_eq]; unfold r7_Check_L27_B
  rw [if_neg (by simp; omega)]
  refine scan2 (len := (a.2.2.2.1.length : Int)) (bad := fun t => ¬ aheadP (ix a.2.2.2.1 (t - 1)) (ix a.2.2.2.1 t)) (lo := 1) (fun t t0 t1 => ⟨fun hb => ?_, fun hb => ?_⟩) (fun t t0 t1 hh => ?_)
  · rw [if_pos (show AFall a from .inr (.inr ⟨t, t0, t1, hb⟩)), r7_Check_L32_eq]; unfold r7_Check_L32_B
    obtain ⟨v, hv, hv2⟩ := r7_Ahead_spec (ix a.2.2.2.1 (t - 1)) (ix a.2.2.2.1 t)
    rw [if_pos (by simp; omega), G_pos (by unfold fits; omega), G_pos (by omega), G_pos (by omega)]
    refine bind_to hv ?_
    rw [if_pos (by cases v; rfl; exact absurd (hv2.1 rfl) hb)]
  · conv => lhs; rw [r7_Check_L32_eq]; unfold r7_Check_L32_B
    obtain ⟨v, hv, hv2⟩ := r7_Ahead_spec (ix a.2.2.2.1 (t - 1)) (ix a.2.2.2.1 t)
    rw [if_pos (by simp; omega), G_pos (by unfold fits; omega), G_pos (by omega), G_pos (by omega)]
    refine bind_to hv ?_
    rw [if_neg (by rw [hv2.2 (Classical.byContradiction hb)]; simp), G_pos (by unfold fits; omega)]
  · rw [if_neg (show ¬ AFall a from fun h => h.elim g1 (fun h => h.elim g2 (fun ⟨i, i0, i1, i2⟩ => hh i i0 i1 i2))), r7_Check_L32_eq]; unfold r7_Check_L32_B
    rw [if_neg (by simp; omega)]

noncomputable def lasE (letters : Int) (l : List Int × List Int × Unit) : Int := if mayE letters l.1 = 0 then (if mayE letters l.2.1 = 0 then (if l.2.1.length = 0 then 1 else 0) else mayE letters l.2.1) else mayE letters l.1
theorem r1_Lasso_spec {letters : Int} {l : List Int × List Int × Unit} : r1_Lasso letters l = some (lasE letters l) := by
  unfold r1_Lasso lasE
  refine bind_to r1_May_spec ?_
  by_cases h1 : mayE letters l.1 = 0
  · rw [if_pos h1, if_neg (by simp [h1])]
    refine bind_to r1_May_spec ?_
    by_cases h2 : mayE letters l.2.1 = 0
    · rw [if_pos h2, if_neg (by simp [h2])]
      by_cases h3 : l.2.1.length = 0
      · rw [if_pos (by simp [h3]), if_pos h3]
      · rw [if_neg (by simp only [decide_eq_true_eq]; omega), if_neg h3]
    · rw [if_neg h2, if_pos (by simp [h2])]
  · rw [if_neg h1, if_pos (by simp [h1])]
theorem word_Lasso_spec {letters : Int} {l : List Int × List Int × Unit} : word_Lasso letters l = some (lasE letters l) := by
  unfold word_Lasso lasE
  rw [word_Lasso_L2_eq]; unfold word_Lasso_L2_B
  rw [if_pos (by decide), G_pos (by decide)]
  refine bind_to word_May_spec ?_
  have e0 : vget (.list (.int .i64)) 2 (l.1, (l.2.1, ())) (0 : Int).toNat = l.1 := rfl
  have e1 : vget (.list (.int .i64)) 2 (l.1, (l.2.1, ())) ((0 : Int) + 1).toNat = l.2.1 := rfl
  rw [e0]
  by_cases h1 : mayE letters l.1 = 0
  · rw [if_pos h1, if_neg (by simp [h1]), G_pos (by unfold fits; omega), word_Lasso_L2_eq]; unfold word_Lasso_L2_B
    rw [if_pos (by decide), G_pos (by decide), e1]
    refine bind_to word_May_spec ?_
    by_cases h2 : mayE letters l.2.1 = 0
    · rw [if_pos h2, if_neg (by simp [h2]), G_pos (by unfold fits; omega), word_Lasso_L2_eq]; unfold word_Lasso_L2_B
      rw [if_neg (by decide)]
      by_cases h3 : l.2.1.length = 0
      · rw [if_pos (by simp [h3]), if_pos h3]
      · rw [if_neg (by simp only [decide_eq_true_eq]; omega), if_neg h3]
    · rw [if_neg h2, if_pos (by simp [h2])]
  · rw [if_neg h1, if_pos (by simp [h1])]
theorem lasE_zero {letters : Int} {l : List Int × List Int × Unit} (h : lasE letters l = 0) : mayE letters l.1 = 0 ∧ mayE letters l.2.1 = 0 ∧ 0 < l.2.1.length := by
  unfold lasE at h
  by_cases h1 : mayE letters l.1 = 0
  · rw [if_pos h1] at h
    by_cases h2 : mayE letters l.2.1 = 0
    · rw [if_pos h2] at h
      by_cases h3 : l.2.1.length = 0
      · rw [if_pos h3] at h; omega
      · exact ⟨h1, h2, by omega⟩
    · rw [if_neg h2] at h; exact absurd h h2
  · rw [if_neg h1] at h; exact absurd h h1

inductive Star {α : Type} (R : α → α → Prop) : α → α → Prop
  | refl (x : α) : Star R x x
  | tail {x y z : α} : Star R x y → R y z → Star R x z
theorem Star.trans {α : Type} {R : α → α → Prop} {x y z : α} (h : Star R x y) (k : Star R y z) : Star R x z := by
  induction k with
  | refl => exact h
  | tail _ r ih => exact ih.tail r
theorem Star.one {α : Type} {R : α → α → Prop} {x y : α} (h : R x y) : Star R x y := (Star.refl x).tail h
/-- A step of the automaton. -/
def StA (a : Au) (p x q : Int) : Prop := (p, x, q, ()) ∈ a.2.2.2.1
structure AuOk (a : Au) : Prop where
  let1 : 1 ≤ a.1 ∧ a.1 ≤ 4
  n1 : 1 ≤ a.2.1 ∧ a.2.1 ≤ 300
  sl : (a.2.2.2.1.length : Int) ≤ 40000
  sb : ∀ x ∈ a.2.2.2.1, (0 ≤ x.1 ∧ x.1 < a.2.1) ∧ (0 ≤ x.2.1 ∧ x.2.1 < a.1) ∧ (0 ≤ x.2.2.1 ∧ x.2.2.1 < a.2.1)
  s : ∀ q ∈ a.2.2.1, 0 ≤ q ∧ q < a.2.1
  f : ∀ q ∈ a.2.2.2.2.1, 0 ≤ q ∧ q < a.2.1
  ls : (a.2.2.1.length : Int) ≤ 300
  lf : (a.2.2.2.2.1.length : Int) ≤ 300
theorem rise_len {l : List Int} {n : Int} (hf : ¬ FallI l) (hb : ∀ q ∈ l, 0 ≤ q ∧ q < n) (n0 : 0 ≤ n) : (l.length : Int) ≤ n := by
  have key : ∀ (k : Nat), k < l.length → (k : Int) ≤ ix l k := by
    intro k
    induction k with
    | zero => intro h; exact (hb _ (ix_mem (by omega) (by omega))).1
    | succ k ih =>
      intro h
      have h1 := ih (by omega)
      have h2 : ¬ ix l ((k + 1 : Nat) : Int) ≤ ix l (((k + 1 : Nat) : Int) - 1) := fun hh => hf ⟨((k + 1 : Nat) : Int), by omega, by omega, hh⟩
      rw [show ((k + 1 : Nat) : Int) - 1 = (k : Int) by omega] at h2
      omega
  by_cases c : l.length = 0
  · omega
  · have h1 := key (l.length - 1) (by omega)
    have h2 := (hb _ (ix_mem (l := l) (i := ((l.length - 1 : Nat) : Int)) (by omega) (by omega))).2
    omega
theorem autE_zero {a : Au} (h : autE a = 0) : AuOk a := by
  unfold autE at h
  by_cases c1 : a.1 < 1 ∨ 4 < a.1
  · rw [if_pos c1] at h; omega
  rw [if_neg c1] at h
  by_cases c2 : ASize a
  · rw [if_pos c2] at h; omega
  rw [if_neg c2] at h
  by_cases c3 : AOut a
  · rw [if_pos c3] at h; omega
  rw [if_neg c3] at h
  by_cases c4 : AFall a
  · rw [if_pos c4] at h; omega
  unfold ASize at c2; unfold AOut at c3; unfold AFall at c4
  have hs : ∀ q ∈ a.2.2.1, 0 ≤ q ∧ q < a.2.1 := fun q hq => by
    have : ¬ noS a q := fun hh => c3 (.inl ⟨q, hq, hh⟩)
    unfold noS at this; omega
  have hf : ∀ q ∈ a.2.2.2.2.1, 0 ≤ q ∧ q < a.2.1 := fun q hq => by
    have : ¬ noS a q := fun hh => c3 (.inr (.inl ⟨q, hq, hh⟩))
    unfold noS at this; omega
  have n1 : 1 ≤ a.2.1 ∧ a.2.1 ≤ 300 := by omega
  have ls := rise_len (fun hh => c4 (.inl hh)) hs (by omega)
  have lf := rise_len (fun hh => c4 (.inr (.inl hh))) hf (by omega)
  refine ⟨by omega, n1, by omega, fun x hx => ?_, hs, hf, by omega, by omega⟩
  have : ¬ badX a x := fun hh => c3 (.inr (.inr ⟨x, hx, hh⟩))
  unfold badX noS at this; omega
/-- So many steps from a time on. -/
def Wt (a : Au) (u : Nat → Int) : Nat → Nat → Int → Int → Prop
  | 0, _, p, q => p = q
  | m + 1, s, p, q => ∃ r, StA a p (u s) r ∧ Wt a u m (s + 1) r q
/-- The same, over a final state (the last one does not count). -/
def Wf (a : Au) (u : Nat → Int) (m s : Nat) (p q : Int) : Prop := ∃ i f, i < m ∧ f ∈ a.2.2.2.2.1 ∧ Wt a u i s p f ∧ Wt a u (m - i) (s + i) f q
section
variable {a : Au} {u : Nat → Int} {h len : Nat}
theorem Wt.add {k : Nat} : ∀ {m s : Nat} {p q : Int}, Wt a u (m + k) s p q ↔ ∃ r, Wt a u m s p r ∧ Wt a u k (s + m) r q
  | 0, s, p, q => by
    rw [Nat.zero_add]
    exact ⟨fun hh => ⟨p, rfl, hh⟩, fun ⟨r, h1, h2⟩ => by cases h1; exact h2⟩
  | m + 1, s, p, q => by
    rw [show m + 1 + k = (m + k) + 1 by omega]
    have e : s + (m + 1) = s + 1 + m := by omega
    constructor
    · rintro ⟨r, h1, h2⟩
      obtain ⟨x, h3, h4⟩ := Wt.add.1 h2
      exact ⟨x, ⟨r, h1, h3⟩, by rw [e]; exact h4⟩
    · rintro ⟨x, ⟨r, h1, h3⟩, h4⟩
      rw [e] at h4
      exact ⟨r, h1, Wt.add.2 ⟨x, h3, h4⟩⟩
theorem Wt.comp {m k s t : Nat} {p r q : Int} (h1 : Wt a u m s p r) (h2 : Wt a u k t r q) (e : t = s + m) : Wt a u (m + k) s p q := Wt.add.2 ⟨r, h1, e ▸ h2⟩
theorem Wt.snoc {m s : Nat} {p q : Int} : Wt a u (m + 1) s p q ↔ ∃ r, Wt a u m s p r ∧ StA a r (u (s + m)) q := by
  rw [Wt.add]
  exact ⟨fun ⟨r, h1, x, h2, h3⟩ => ⟨r, h1, by cases h3; exact h2⟩, fun ⟨r, h1, h2⟩ => ⟨r, h1, q, h2, rfl⟩⟩
theorem Wt.shift (hu : ∀ t, h ≤ t → u (t + len) = u t) : ∀ {m s : Nat} {p q : Int}, h ≤ s → (Wt a u m (s + len) p q ↔ Wt a u m s p q)
  | 0, s, p, q, _ => Iff.rfl
  | m + 1, s, p, q, hs => by
    show (∃ r, StA a p (u (s + len)) r ∧ Wt a u m (s + len + 1) r q) ↔ (∃ r, StA a p (u s) r ∧ Wt a u m (s + 1) r q)
    rw [hu s hs, show s + len + 1 = s + 1 + len by omega]
    exact exists_congr fun r => and_congr Iff.rfl (Wt.shift hu (by omega))
theorem Wt.shifts (hu : ∀ t, h ≤ t → u (t + len) = u t) {m s : Nat} {p q : Int} (hs : h ≤ s) : ∀ k : Nat, (Wt a u m (s + k * len) p q ↔ Wt a u m s p q)
  | 0 => by rw [Nat.zero_mul]; exact Iff.rfl
  | k + 1 => by
    rw [Nat.succ_mul, ← Nat.add_assoc]
    exact (Wt.shift hu (by omega)).trans (Wt.shifts hu hs k)
/-- Once round. -/
def Rd (a : Au) (u : Nat → Int) (h len : Nat) (p q : Int) : Prop := Wt a u len h p q
def Rf (a : Au) (u : Nat → Int) (h len : Nat) (p q : Int) : Prop := Wf a u len h p q
theorem star_rd (hu : ∀ t, h ≤ t → u (t + len) = u t) {p q : Int} : Star (Rd a u h len) p q ↔ ∃ k, Wt a u (k * len) h p q := by
  constructor
  · intro hs
    induction hs with
    | refl => exact ⟨0, by rw [Nat.zero_mul]; rfl⟩
    | tail _ r ih =>
      obtain ⟨k, hk⟩ := ih
      exact ⟨k + 1, by rw [Nat.succ_mul]; exact hk.comp ((Wt.shifts hu (Nat.le_refl h) k).2 r) rfl⟩
  · rintro ⟨k, hk⟩
    induction k generalizing q with
    | zero => rw [Nat.zero_mul] at hk; cases hk; exact .refl _
    | succ k ih =>
      rw [Nat.succ_mul] at hk
      obtain ⟨r, h1, h2⟩ := Wt.add.1 hk
      exact (ih h1).tail ((Wt.shifts hu (Nat.le_refl h) k).1 h2)
theorem Rf.rd {p q : Int} (hh : Rf a u h len p q) : Rd a u h len p q := by
  obtain ⟨i, f, hi, _, h1, h2⟩ := hh
  have := h1.comp h2 rfl
  rwa [show i + (len - i) = len by omega] at this
/-- What the reference asks. -/
def RoundP (a : Au) (u : Nat → Int) (h len : Nat) (q : Int) : Prop := ∃ x y, Star (Rd a u h len) q x ∧ Rf a u h len x y ∧ Star (Rd a u h len) y q
def FarP (a : Au) (u : Nat → Int) (h len : Nat) (q : Int) : Prop := ∃ r, (∃ q0 ∈ a.2.2.1, Wt a u h 0 q0 r) ∧ Star (Rd a u h len) r q
def RefA (a : Au) (u : Nat → Int) (h len : Nat) : Prop := ∃ q, FarP a u h len q ∧ RoundP a u h len q
/-- A final state that is come to, and from itself after whole rounds. -/
def ProgA (a : Au) (u : Nat → Int) (h len : Nat) : Prop := ∃ q0 ∈ a.2.2.1, ∃ s f, Wt a u s 0 q0 f ∧ f ∈ a.2.2.2.2.1 ∧ h ≤ s ∧ ∃ b, 1 ≤ b ∧ Wt a u (b * len) s f f
theorem ref_prog (hl : 0 < len) (hu : ∀ t, h ≤ t → u (t + len) = u t) : RefA a u h len ↔ ProgA a u h len := by
  constructor
  · rintro ⟨q, ⟨r, ⟨q0, hq0, h0⟩, hrq⟩, x, y, hqx, ⟨i, f, hi, hf, hxf, hfy⟩, hyq⟩
    obtain ⟨k1, h1⟩ := (star_rd hu).1 hrq
    obtain ⟨k2, h2⟩ := (star_rd hu).1 hqx
    obtain ⟨k3, h3⟩ := (star_rd hu).1 hyq
    have g1 : Wt a u (h + k1 * len) 0 q0 q := h0.comp h1 (by omega)
    have g2 : Wt a u (h + k1 * len + k2 * len) 0 q0 x := g1.comp ((Wt.shifts hu (Nat.le_refl h) k1).2 h2) (by omega)
    have g3 : Wt a u (h + k1 * len + k2 * len + i) 0 q0 f := by
      refine g2.comp (t := h + (k1 + k2) * len) ((Wt.shifts hu (Nat.le_refl h) (k1 + k2)).2 hxf) ?_
      rw [Nat.add_mul]; omega
    refine ⟨q0, hq0, _, f, g3, hf, by omega, 1 + k3 + k2, by omega, ?_⟩
    -- the round from f on, told from the time h + i on
    have c1 : Wt a u (len - i + k3 * len) (h + i) f q := hfy.comp (t := h + 1 * len) ((Wt.shifts hu (Nat.le_refl h) 1).2 h3) (by omega)
    have c2 : Wt a u (len - i + k3 * len + k2 * len) (h + i) f x := by
      refine c1.comp (t := h + (1 + k3) * len) ((Wt.shifts hu (Nat.le_refl h) (1 + k3)).2 h2) ?_
      rw [Nat.add_mul]; omega
    have c3 : Wt a u (len - i + k3 * len + k2 * len + i) (h + i) f f := by
      refine c2.comp (t := h + (1 + k3 + k2) * len) ((Wt.shifts hu (Nat.le_refl h) (1 + k3 + k2)).2 hxf) ?_
      rw [Nat.add_mul, Nat.add_mul]; omega
    have c4 := (Wt.shifts hu (show h ≤ h + i by omega) (k1 + k2)).2 c3
    rw [show len - i + k3 * len + k2 * len + i = (1 + k3 + k2) * len by rw [Nat.add_mul, Nat.add_mul]; omega, show h + i + (k1 + k2) * len = h + k1 * len + k2 * len + i by rw [Nat.add_mul]; omega] at c4
    exact c4
  · rintro ⟨q0, hq0, s, f, h0, hf, hs, b, hb, hc⟩
    obtain ⟨c, d, hd, es⟩ : ∃ c d, d < len ∧ s = h + c * len + d := ⟨(s - h) / len, (s - h) % len, Nat.mod_lt _ hl, by
      have := Nat.div_add_mod (s - h) len
      rw [Nat.mul_comm] at this; omega⟩
    subst es
    obtain ⟨x, hx, hxf⟩ := Wt.add.1 h0
    obtain ⟨r, hr, hrx⟩ := Wt.add.1 hx
    rw [Nat.zero_add] at hrx hxf
    obtain ⟨b, rfl⟩ : ∃ b', b = b' + 1 := ⟨b - 1, by omega⟩
    rw [show (b + 1) * len = (len - d) + (b * len + d) by rw [Nat.succ_mul]; omega] at hc
    obtain ⟨y, hy1, hy2⟩ := Wt.add.1 hc
    obtain ⟨z, hz1, hz2⟩ := Wt.add.1 hy2
    have e1 : h + c * len + d + (len - d) = h + (c + 1) * len := by rw [Nat.succ_mul]; omega
    have e2 : h + c * len + d + (len - d) + b * len = h + (c + 1 + b) * len := by rw [e1, Nat.add_mul (c + 1)]; omega
    have w1 : Wt a u d h x f := (Wt.shifts hu (Nat.le_refl h) c).1 hxf
    have w2 : Wt a u (len - d) (h + d) f y := by
      refine (Wt.shifts hu (show h ≤ h + d by omega) c).1 ?_
      rw [show h + d + c * len = h + c * len + d by omega]; exact hy1
    have w3 : Wt a u (b * len) h y z := (Wt.shifts hu (Nat.le_refl h) (c + 1)).1 (by rw [← e1]; exact hz1)
    have w4 : Wt a u d h z f := (Wt.shifts hu (Nat.le_refl h) (c + 1 + b)).1 (by rw [← e2]; exact hz2)
    have rf : ∀ {v}, Wt a u d h v f → Rf a u h len v y := fun hv => ⟨d, f, hd, hf, hv, w2⟩
    exact ⟨y, ⟨r, ⟨q0, hq0, hr⟩, ((star_rd hu).2 ⟨c, hrx⟩).tail (rf w1).rd⟩, z, y, (star_rd hu).2 ⟨b, w3⟩, rf w4, .refl y⟩
theorem StA.b (ha : AuOk a) {p x q : Int} (hh : StA a p x q) : (0 ≤ p ∧ p < a.2.1) ∧ (0 ≤ q ∧ q < a.2.1) := ⟨(ha.sb _ hh).1, (ha.sb _ hh).2.2⟩
theorem Wt.b (ha : AuOk a) : ∀ {m s : Nat} {p q : Int}, Wt a u m s p q → 0 ≤ p → p < a.2.1 → 0 ≤ q ∧ q < a.2.1
  | 0, _, _, _, h, p0, p1 => by cases h; exact ⟨p0, p1⟩
  | _ + 1, _, _, _, ⟨_, h1, h2⟩, _, _ => Wt.b ha h2 (h1.b ha).2.1 (h1.b ha).2.2
/-- How many do not hold. -/
def nots (P : Int → Bool) : Nat → Nat
  | 0 => 0
  | k + 1 => nots P k + (if P (k : Int) = true then 0 else 1)
theorem nots_le {P Q : Int → Bool} : ∀ {n : Nat}, (∀ k : Int, 0 ≤ k → k < n → P k = true → Q k = true) → nots Q n ≤ nots P n
  | 0, _ => Nat.le_refl _
  | n + 1, hh => by
    have h1 := nots_le (n := n) (fun k k0 k1 => hh k k0 (by omega))
    have h2 := hh n (by omega) (by omega)
    unfold nots
    by_cases c : P (n : Int) = true
    · rw [if_pos c, if_pos (h2 c)]; exact h1
    · rw [if_neg c]; split <;> omega
theorem nots_lt {P Q : Int → Bool} : ∀ {n : Nat}, (∀ k : Int, 0 ≤ k → k < n → P k = true → Q k = true) → (∃ k : Int, 0 ≤ k ∧ k < n ∧ Q k = true ∧ ¬ P k = true) → nots Q n < nots P n
  | 0, _, ⟨k, k0, k1, _⟩ => by omega
  | n + 1, hh, ⟨k, k0, k1, hq, hp⟩ => by
    have h1 : ∀ k : Int, 0 ≤ k → k < n → P k = true → Q k = true := fun k k0 k1 => hh k k0 (by omega)
    unfold nots
    by_cases e : k = n
    · subst e
      rw [if_pos hq, if_neg hp]
      have := nots_le h1; omega
    · have h2 := nots_lt h1 ⟨k, k0, by omega, hq, hp⟩
      have h3 := hh n (by omega) (by omega)
      by_cases c : P (n : Int) = true
      · rw [if_pos c, if_pos (h3 c)]; exact h2
      · rw [if_neg c]; split <;> omega
end

section
variable {a : Au} {u : Nat → Int} {h len : Nat}
theorem by_spec (ha : AuOk a) {B : List Bool} (hB : (B.length : Int) = a.2.1) (x : Int) : ∃ o, r7_by a B x = some o ∧ (o.length : Int) = a.2.1 ∧ ∀ q : Int, 0 ≤ q → q < a.2.1 → (ix o q = true ↔ ∃ p, ix B p = true ∧ StA a p x q) := by
  have hsl := ha.sl; have hn := ha.n1
  have key : ∀ (m : Nat) (i : Int) (o : List Bool), 0 ≤ i → i + m = a.2.2.2.1.length → (o.length : Int) = a.2.1 →
      (∀ q : Int, 0 ≤ q → q < a.2.1 → (ix o q = true ↔ ∃ k : Int, 0 ≤ k ∧ k < i ∧ ix B (ix a.2.2.2.1 k).1 = true ∧ (ix a.2.2.2.1 k).2.1 = x ∧ (ix a.2.2.2.1 k).2.2.1 = q)) →
      ∃ o', r7_by_L3 a B x i o = some o' ∧ (o'.length : Int) = a.2.1 ∧ ∀ q : Int, 0 ≤ q → q < a.2.1 → (ix o' q = true ↔ ∃ k : Int, 0 ≤ k ∧ k < a.2.2.2.1.length ∧ ix B (ix a.2.2.2.1 k).1 = true ∧ (ix a.2.2.2.1 k).2.1 = x ∧ (ix a.2.2.2.1 k).2.2.1 = q) := by
    intro m
    induction m with
    | zero =>
      intro i o i0 hi ho hq
      refine ⟨o, ?_, ho, fun q q0 q1 => ?_⟩
      · rw [r7_by_L3_eq]; unfold r7_by_L3_B
        rw [if_neg (by simp only [decide_eq_true_eq]; omega)]
      · rw [hq q q0 q1, show i = (a.2.2.2.1.length : Int) by omega]
    | succ m ih =>
      intro i o i0 hi ho hq
      have hb := ha.sb _ (ix_mem i0 (by omega : i < a.2.2.2.1.length))
      have old : ∀ (t : Bool), (t = true ↔ ix B (ix a.2.2.2.1 i).1 = true ∧ (ix a.2.2.2.1 i).2.1 = x) → ∃ o', r7_by_J6 a i o (r7_by_L3 a B x) t = some o' ∧ (o'.length : Int) = a.2.1 ∧ ∀ q : Int, 0 ≤ q → q < a.2.1 → (ix o' q = true ↔ ∃ k : Int, 0 ≤ k ∧ k < a.2.2.2.1.length ∧ ix B (ix a.2.2.2.1 k).1 = true ∧ (ix a.2.2.2.1 k).2.1 = x ∧ (ix a.2.2.2.1 k).2.2.1 = q) := by
        intro t ht
        unfold r7_by_J6
        cases t with
        | true =>
          have ht := ht.1 rfl
          rw [if_pos rfl, G_pos (by omega), G_pos (by omega), G_pos (by unfold fits; omega)]
          refine ih (i + 1) _ (by omega) (by omega) (by rw [List.length_set]; exact ho) (fun q q0 q1 => ?_)
          by_cases e : (ix a.2.2.2.1 i).2.2.1 = q
          · rw [e, ix_set_same q0 (by omega)]
            exact ⟨fun _ => ⟨i, i0, by omega, ht.1, ht.2, e⟩, fun _ => rfl⟩
          · rw [ix_set_ne (by omega) q0 e, hq q q0 q1]
            constructor
            · rintro ⟨k, k0, k1, k2⟩
              exact ⟨k, k0, by omega, k2⟩
            · rintro ⟨k, k0, k1, k2⟩
              by_cases ek : k = i
              · rw [ek] at k2; exact absurd k2.2.2 e
              · exact ⟨k, k0, by omega, k2⟩
        | false =>
          rw [if_neg (by decide), G_pos (by unfold fits; omega)]
          refine ih (i + 1) o (by omega) (by omega) ho (fun q q0 q1 => ?_)
          rw [hq q q0 q1]
          constructor
          · rintro ⟨k, k0, k1, k2⟩
            exact ⟨k, k0, by omega, k2⟩
          · rintro ⟨k, k0, k1, k2⟩
            by_cases ek : k = i
            · rw [ek] at k2; have := ht.2 ⟨k2.1, k2.2.1⟩; cases this
            · exact ⟨k, k0, by omega, k2⟩
      rw [r7_by_L3_eq]; unfold r7_by_L3_B
      rw [if_pos (decide_eq_true (by omega)), G_pos (by omega)]
      by_cases c : (ix a.2.2.2.1 i).2.1 = x
      · rw [if_pos (decide_eq_true c), G_pos (by omega)]
        exact old _ (by simp [c])
      · rw [if_neg (by simpa using c)]
        exact old false (by simp [c])
  obtain ⟨o, e, h1, h2⟩ := key a.2.2.2.1.length 0 (List.replicate a.2.1.toNat false) (by omega) (by omega) (by rw [List.length_replicate]; omega) (fun q q0 q1 => by
    rw [ix_replicate q0 (by omega)]
    exact ⟨fun hh => (by cases hh), fun ⟨k, k0, k1, _⟩ => by omega⟩)
  refine ⟨o, by unfold r7_by; rw [G_pos (by unfold mkOK; omega)]; exact e, h1, fun q q0 q1 => (h2 q q0 q1).trans ⟨?_, ?_⟩⟩
  · rintro ⟨k, k0, k1, k2, k3, k4⟩
    have hm := ix_mem k0 k1
    exact ⟨_, k2, by unfold StA; rw [← k3, ← k4]; exact hm⟩
  · rintro ⟨p, hp, hs⟩
    obtain ⟨k, k0, k1, e⟩ := (ex_ix (P := fun y => y = (p, x, q, ()))).1 ⟨_, hs, rfl⟩
    exact ⟨k, k0, k1, by rw [e]; exact hp, by rw [e], by rw [e]⟩
theorem Wf.snoc {m s : Nat} {p q : Int} : Wf a u (m + 1) s p q ↔ ∃ r, (Wf a u m s p r ∨ (Wt a u m s p r ∧ r ∈ a.2.2.2.2.1)) ∧ StA a r (u (s + m)) q := by
  constructor
  · rintro ⟨i, f, hi, hf, h1, h2⟩
    by_cases c : i = m
    · subst c
      rw [show i + 1 - i = 0 + 1 by omega] at h2
      obtain ⟨r, h3, h4⟩ := Wt.snoc.1 h2
      cases h3
      exact ⟨f, .inr ⟨h1, hf⟩, by rw [show s + i + 0 = s + i by omega] at h4; exact h4⟩
    · rw [show m + 1 - i = (m - i) + 1 by omega] at h2
      obtain ⟨r, h3, h4⟩ := Wt.snoc.1 h2
      exact ⟨r, .inl ⟨i, f, by omega, hf, h1, h3⟩, by rw [show s + i + (m - i) = s + m by omega] at h4; exact h4⟩
  · rintro ⟨r, ⟨i, f, hi, hf, h1, h2⟩ | ⟨h1, hf⟩, h3⟩
    · refine ⟨i, f, by omega, hf, h1, ?_⟩
      rw [show m + 1 - i = (m - i) + 1 by omega]
      exact Wt.snoc.2 ⟨r, h2, by rw [show s + i + (m - i) = s + m by omega]; exact h3⟩
    · refine ⟨m, r, by omega, hf, h1, ?_⟩
      rw [show m + 1 - m = 0 + 1 by omega]
      exact ⟨q, h3, rfl⟩
/-- The final states, marked. -/
def FinB (a : Au) (F : List Bool) : Prop := (F.length : Int) = a.2.1 ∧ ∀ q : Int, 0 ≤ q → q < a.2.1 → (ix F q = true ↔ q ∈ a.2.2.2.2.1)
abbrev RB := Bool → List Bool → List Bool → Option Bool
theorem L13_ref (ha : AuOk a) {L F : List Bool} {loop : List Int} {i : Int} (hF : FinB a F) {p : List Bool} (hp : (p.length : Int) = a.2.1) {r10 : Int → List Bool → List Bool → Option Bool} (i0 : 0 ≤ i) (i1 : i < loop.length) (hlen : loop.length ≤ 1000) :
    ∀ (m : Nat) (k : Int) (g : List Bool), 0 ≤ k → k + m = a.2.1 → (g.length : Int) = a.2.1 → ∃ p' g', r7_Round_L13 a loop F i p r10 k g = r10 (i + 1) p' g' ∧ (p'.length : Int) = a.2.1 ∧ (g'.length : Int) = a.2.1 ∧
      (∀ q : Int, 0 ≤ q → q < a.2.1 → (ix p' q = true ↔ ∃ r, ix p r = true ∧ StA a r (ix loop i) q)) ∧
      (∀ q : Int, 0 ≤ q → q < a.2.1 → (ix g' q = true ↔ ∃ r, (ix g r = true ∨ (k ≤ r ∧ ix p r = true ∧ r ∈ a.2.2.2.2.1)) ∧ StA a r (ix loop i) q)) := by
  have hn := ha.n1
  have ea : (a.1, a.2.1, a.2.2.1, a.2.2.2.1, a.2.2.2.2.1, ()) = a := rfl
  intro m
  induction m with
  | zero =>
    intro k g k0 hk hg
    obtain ⟨p', e1, l1, s1⟩ := by_spec ha hp (ix loop i)
    obtain ⟨g', e2, l2, s2⟩ := by_spec ha hg (ix loop i)
    refine ⟨p', g', ?_, l1, l2, s1, fun q q0 q1 => (s2 q q0 q1).trans (exists_congr fun r => ?_)⟩
    · rw [r7_Round_L13_eq]; unfold r7_Round_L13_B
      rw [if_neg (by simp only [decide_eq_true_eq]; omega), G_pos (by omega), ea]
      refine bind_to e1 ?_
      rw [G_pos (by omega)]
      refine bind_to e2 ?_
      rw [G_pos (by unfold fits; omega)]
    · constructor
      · rintro ⟨h1, h2⟩; exact ⟨.inl h1, h2⟩
      · rintro ⟨h1 | ⟨h1, _, _⟩, h2⟩
        · exact ⟨h1, h2⟩
        · have := (h2.b ha).1; omega
  | succ m ih =>
    intro k g k0 hk hg
    have fin : ∀ (b : Bool), (b = true ↔ ix g k = true ∨ (ix p k = true ∧ k ∈ a.2.2.2.2.1)) → r7_Round_L13 a loop F i p r10 k g = r7_Round_L13 a loop F i p r10 (k + 1) (g.set k.toNat b) → ∃ p' g', r7_Round_L13 a loop F i p r10 k g = r10 (i + 1) p' g' ∧ (p'.length : Int) = a.2.1 ∧ (g'.length : Int) = a.2.1 ∧
      (∀ q : Int, 0 ≤ q → q < a.2.1 → (ix p' q = true ↔ ∃ r, ix p r = true ∧ StA a r (ix loop i) q)) ∧
      (∀ q : Int, 0 ≤ q → q < a.2.1 → (ix g' q = true ↔ ∃ r, (ix g r = true ∨ (k ≤ r ∧ ix p r = true ∧ r ∈ a.2.2.2.2.1)) ∧ StA a r (ix loop i) q)) := by
      intro b hb e
      obtain ⟨p', g', e', l1, l2, s1, s2⟩ := ih (k + 1) (g.set k.toNat b) (by omega) (by omega) (by rw [List.length_set]; exact hg)
      refine ⟨p', g', e.trans e', l1, l2, s1, fun q q0 q1 => (s2 q q0 q1).trans (exists_congr fun r => ?_)⟩
      refine and_congr_left fun hs => ?_
      have hr := (hs.b ha).1
      by_cases er : r = k
      · subst er
        rw [ix_set_same k0 (by omega), hb]
        constructor
        · rintro (h1 | ⟨h1, _⟩)
          · exact h1.imp id (fun h => ⟨Int.le_refl _, h⟩)
          · omega
        · rintro (h1 | ⟨_, h1⟩)
          · exact .inl (.inl h1)
          · exact .inl (.inr h1)
      · rw [ix_set_ne k0 hr.1 (fun hh => er hh.symm)]
        exact or_congr Iff.rfl (and_congr (by omega) Iff.rfl)
    by_cases c : ix g k = true
    · refine fin true (by simp [c]) ?_
      conv => lhs; rw [r7_Round_L13_eq]; unfold r7_Round_L13_B
      rw [if_pos (decide_eq_true (by omega)), G_pos (by omega), G_pos (by omega), if_pos c, G_pos (by omega), G_pos (by omega), G_pos (by unfold fits; omega)]
    · by_cases c2 : ix p k = true
      · refine fin (ix F k) (by rw [hF.2 k k0 (by omega)]; simp [c, c2]) ?_
        have := hF.1
        conv => lhs; rw [r7_Round_L13_eq]; unfold r7_Round_L13_B
        rw [if_pos (decide_eq_true (by omega)), G_pos (by omega), G_pos (by omega), if_neg c, G_pos (by omega), G_pos (by omega), if_pos c2, G_pos (by omega), G_pos (by omega), G_pos (by omega), G_pos (by unfold fits; omega)]
      · refine fin false (by simp [c, c2]) ?_
        conv => lhs; rw [r7_Round_L13_eq]; unfold r7_Round_L13_B
        rw [if_pos (decide_eq_true (by omega)), G_pos (by omega), G_pos (by omega), if_neg c, G_pos (by omega), G_pos (by omega), if_neg c2, G_pos (by omega), G_pos (by omega), G_pos (by unfold fits; omega)]
/-- Two marked sets put together; whether there is something new. -/
theorem L21_ref (ha : AuOk a) {p g : List Bool} (hp : (p.length : Int) = a.2.1) (hg : (g.length : Int) = a.2.1) {r5 : RB} : ∀ (m : Nat) (k : Int) (ag : Bool) (P Q : List Bool), 0 ≤ k → k + m = a.2.1 → (P.length : Int) = a.2.1 → (Q.length : Int) = a.2.1 →
    ∃ ag' P' Q', r7_Round_L21 a r5 p g ag k P Q = r5 ag' P' Q' ∧ (P'.length : Int) = a.2.1 ∧ (Q'.length : Int) = a.2.1 ∧
      (∀ q : Int, 0 ≤ q → q < a.2.1 → (ix P' q = true ↔ ix P q = true ∨ (k ≤ q ∧ ix p q = true))) ∧ (∀ q : Int, 0 ≤ q → q < a.2.1 → (ix Q' q = true ↔ ix Q q = true ∨ (k ≤ q ∧ ix g q = true))) ∧
      (ag' = true ↔ ag = true ∨ ∃ q : Int, k ≤ q ∧ q < a.2.1 ∧ ((ix p q = true ∧ ¬ ix P q = true) ∨ (ix g q = true ∧ ¬ ix Q q = true))) := by
  have hn := ha.n1
  intro m
  induction m with
  | zero =>
    intro k ag P Q k0 hk hP hQ
    refine ⟨ag, P, Q, ?_, hP, hQ, fun q q0 q1 => ?_, fun q q0 q1 => ?_, ?_⟩
    · rw [r7_Round_L21_eq]; unfold r7_Round_L21_B
      rw [if_neg (by simp only [decide_eq_true_eq]; omega)]
    · exact ⟨.inl, fun hh => hh.elim id (fun hh => by omega)⟩
    · exact ⟨.inl, fun hh => hh.elim id (fun hh => by omega)⟩
    · exact ⟨.inl, fun hh => hh.elim id (fun ⟨q, h1, h2, _⟩ => by omega)⟩
  | succ m ih =>
    intro k ag P Q k0 hk hP hQ
    have J24 : ∀ ag2 P2, r7_Round_J24 g k Q (r7_Round_L21 a r5 p g) ag2 P2 = r7_Round_L21 a r5 p g ag2 (k + 1) P2 (Q.set k.toNat (ix Q k || ix g k)) := by
      intro ag2 P2
      unfold r7_Round_J24
      rw [G_pos (by omega), G_pos (by omega)]
      by_cases c : ix Q k = true
      · rw [if_pos c, G_pos (by omega), G_pos (by omega), G_pos (by unfold fits; omega), c]; rfl
      · rw [if_neg c, G_pos (by omega), G_pos (by omega), G_pos (by omega), G_pos (by omega), G_pos (by unfold fits; omega), Bool.eq_false_iff.2 c]; rfl
    have J23 : ∀ ag2, r7_Round_J23 p g k P Q (r7_Round_L21 a r5 p g) ag2 = r7_Round_L21 a r5 p g ag2 (k + 1) (P.set k.toNat (ix P k || ix p k)) (Q.set k.toNat (ix Q k || ix g k)) := by
      intro ag2
      unfold r7_Round_J23
      rw [G_pos (by omega), G_pos (by omega)]
      by_cases c : ix P k = true
      · rw [if_pos c, G_pos (by omega), G_pos (by omega), J24, c]; rfl
      · rw [if_neg c, G_pos (by omega), G_pos (by omega), G_pos (by omega), G_pos (by omega), J24, Bool.eq_false_iff.2 c]; rfl
    obtain ⟨ag2, hag2, e⟩ : ∃ ag2, (ag2 = true ↔ ag = true ∨ (ix p k = true ∧ ¬ ix P k = true) ∨ (ix g k = true ∧ ¬ ix Q k = true)) ∧ r7_Round_L21 a r5 p g ag k P Q = r7_Round_J23 p g k P Q (r7_Round_L21 a r5 p g) ag2 := by
      by_cases c0 : ag = true
      · refine ⟨true, by simp [c0], ?_⟩
        rw [r7_Round_L21_eq]; unfold r7_Round_L21_B
        rw [if_pos (decide_eq_true (by omega)), if_pos c0]
      by_cases c1 : ix p k = true
      · by_cases c2 : ix P k = true
        · by_cases c3 : ix g k = true
          · refine ⟨!(ix Q k), by simp [c0, c2, c3], ?_⟩
            rw [r7_Round_L21_eq]; unfold r7_Round_L21_B
            rw [if_pos (decide_eq_true (by omega)), if_neg c0, G_pos (by omega), G_pos (by omega), if_pos c1, G_pos (by omega), G_pos (by omega), if_neg (by simp [c2]), G_pos (by omega), G_pos (by omega), if_pos c3, G_pos (by omega), G_pos (by omega)]
          · refine ⟨false, by simp [c0, c2, c3], ?_⟩
            rw [r7_Round_L21_eq]; unfold r7_Round_L21_B
            rw [if_pos (decide_eq_true (by omega)), if_neg c0, G_pos (by omega), G_pos (by omega), if_pos c1, G_pos (by omega), G_pos (by omega), if_neg (by simp [c2]), G_pos (by omega), G_pos (by omega), if_neg c3]
        · refine ⟨true, by simp [c1, c2], ?_⟩
          rw [r7_Round_L21_eq]; unfold r7_Round_L21_B
          rw [if_pos (decide_eq_true (by omega)), if_neg c0, G_pos (by omega), G_pos (by omega), if_pos c1, G_pos (by omega), G_pos (by omega), if_pos (by simp [c2])]
      · by_cases c3 : ix g k = true
        · refine ⟨!(ix Q k), by simp [c0, c1, c3], ?_⟩
          rw [r7_Round_L21_eq]; unfold r7_Round_L21_B
          rw [if_pos (decide_eq_true (by omega)), if_neg c0, G_pos (by omega), G_pos (by omega), if_neg c1, G_pos (by omega), G_pos (by omega), if_pos c3, G_pos (by omega), G_pos (by omega)]
        · refine ⟨false, by simp [c0, c1, c3], ?_⟩
          rw [r7_Round_L21_eq]; unfold r7_Round_L21_B
          rw [if_pos (decide_eq_true (by omega)), if_neg c0, G_pos (by omega), G_pos (by omega), if_neg c1, G_pos (by omega), G_pos (by omega), if_neg c3]
    obtain ⟨ag', P', Q', e', l1, l2, s1, s2, s3⟩ := ih (k + 1) ag2 (P.set k.toNat (ix P k || ix p k)) (Q.set k.toNat (ix Q k || ix g k)) (by omega) (by omega) (by rw [List.length_set]; exact hP) (by rw [List.length_set]; exact hQ)
    have st : ∀ (P p : List Bool), (P.length : Int) = a.2.1 → ∀ q : Int, 0 ≤ q → (ix (P.set k.toNat (ix P k || ix p k)) q = true ∨ (k + 1 ≤ q ∧ ix p q = true) ↔ ix P q = true ∨ (k ≤ q ∧ ix p q = true)) := by
      intro P p hP q q0
      by_cases eq : q = k
      · subst eq
        rw [ix_set_same k0 (by omega), Bool.or_eq_true]
        constructor
        · rintro ((h1 | h1) | ⟨h1, _⟩)
          · exact .inl h1
          · exact .inr ⟨Int.le_refl _, h1⟩
          · omega
        · rintro (h1 | ⟨_, h1⟩)
          · exact .inl (.inl h1)
          · exact .inl (.inr h1)
      · rw [ix_set_ne k0 q0 (fun hh => eq hh.symm)]
        exact or_congr Iff.rfl (and_congr (by omega) Iff.rfl)
    refine ⟨ag', P', Q', by rw [e, J23]; exact e', l1, l2, fun q q0 q1 => (s1 q q0 q1).trans (st P p hP q q0), fun q q0 q1 => (s2 q q0 q1).trans (st Q g hQ q q0), ?_⟩
    rw [s3, hag2]
    constructor
    · rintro ((h1 | h1) | ⟨q, h1, h2, h3⟩)
      · exact .inl h1
      · exact .inr ⟨k, Int.le_refl _, by omega, h1⟩
      · rw [ix_set_ne k0 (by omega) (by omega), ix_set_ne k0 (by omega) (by omega)] at h3
        exact .inr ⟨q, by omega, h2, h3⟩
    · rintro (h1 | ⟨q, h1, h2, h3⟩)
      · exact .inl (.inl h1)
      · by_cases eq : q = k
        · rw [eq] at h3; exact .inl (.inr h3)
        · refine .inr ⟨q, by omega, h2, ?_⟩
          rw [ix_set_ne k0 (by omega) (by omega), ix_set_ne k0 (by omega) (by omega)]
          exact h3
end
section
variable {a : Au} {u : Nat → Int} {h len : Nat}
def Ms (a : Au) (B : List Bool) (x : Int) : Prop := (0 ≤ x ∧ x < a.2.1) ∧ ix B x = true
/-- After some letters of a round. -/
structure RInv (a : Au) (u : Nat → Int) (h : Nat) (P Q : List Bool) (i : Nat) (p g : List Bool) : Prop where
  lp : (p.length : Int) = a.2.1
  lg : (g.length : Int) = a.2.1
  p : ∀ q : Int, 0 ≤ q → q < a.2.1 → (ix p q = true ↔ ∃ x, Ms a P x ∧ Wt a u i h x q)
  g : ∀ q : Int, 0 ≤ q → q < a.2.1 → (ix g q = true ↔ (∃ x, Ms a Q x ∧ Wt a u i h x q) ∨ ∃ x, Ms a P x ∧ Wf a u i h x q)
theorem L10_ref (ha : AuOk a) {F : List Bool} (hF : FinB a F) {loop : List Int} (hlen : loop.length ≤ 1000) (hL : loop.length = len) (hw : ∀ i : Nat, i < len → ix loop (i : Int) = u (h + i)) {q : Int} (q0 : 0 ≤ q) (q1 : q < a.2.1) {P Q : List Bool} {r5 : RB} :
    ∀ (m i : Nat) (p g : List Bool), i + m = len → RInv a u h P Q i p g → ∃ p' g', r7_Round_L10 a loop F q P Q r5 (i : Int) p g = (if ix g' q = true then some true else r7_Round_L21 a r5 p' g' false 0 P Q) ∧ RInv a u h P Q len p' g' := by
  intro m
  induction m with
  | zero =>
    intro i p g hi hr
    have : i = len := by omega
    subst this
    have := hr.lg
    refine ⟨p, g, ?_, hr⟩
    rw [r7_Round_L10_eq]; unfold r7_Round_L10_B
    rw [if_neg (by simp only [decide_eq_true_eq]; omega), G_pos (by omega), G_pos (by omega)]
  | succ m ih =>
    intro i p g hi hr
    have hn := ha.n1
    obtain ⟨p1, g1, e1, l1, l2, s1, s2⟩ := L13_ref ha (L := p) (i := (i : Int)) hF hr.lp (loop := loop) (r10 := r7_Round_L10 a loop F q P Q r5) (by omega) (by omega) hlen a.2.1.toNat 0 g (by omega) (by omega) hr.lg
    have hwi := hw i (by omega)
    have hr1 : RInv a u h P Q (i + 1) p1 g1 := by
      refine ⟨l1, l2, fun y y0 y1 => ?_, fun y y0 y1 => ?_⟩
      · rw [s1 y y0 y1, hwi]
        constructor
        · rintro ⟨r, h1, h2⟩
          have hb := (h2.b ha).1
          obtain ⟨x, hx, hxr⟩ := (hr.p r hb.1 hb.2).1 h1
          exact ⟨x, hx, Wt.snoc.2 ⟨r, hxr, h2⟩⟩
        · rintro ⟨x, hx, h1⟩
          obtain ⟨r, h2, h3⟩ := Wt.snoc.1 h1
          have hb := (h3.b ha).1
          exact ⟨r, (hr.p r hb.1 hb.2).2 ⟨x, hx, h2⟩, h3⟩
      · rw [s2 y y0 y1, hwi]
        constructor
        · rintro ⟨r, h1, h2⟩
          have hb := (h2.b ha).1
          rcases h1 with h1 | ⟨_, h1, hf⟩
          · rcases (hr.g r hb.1 hb.2).1 h1 with ⟨x, hx, hxr⟩ | ⟨x, hx, hxr⟩
            · exact .inl ⟨x, hx, Wt.snoc.2 ⟨r, hxr, h2⟩⟩
            · exact .inr ⟨x, hx, Wf.snoc.2 ⟨r, .inl hxr, h2⟩⟩
          · obtain ⟨x, hx, hxr⟩ := (hr.p r hb.1 hb.2).1 h1
            exact .inr ⟨x, hx, Wf.snoc.2 ⟨r, .inr ⟨hxr, hf⟩, h2⟩⟩
        · rintro (⟨x, hx, h1⟩ | ⟨x, hx, h1⟩)
          · obtain ⟨r, h2, h3⟩ := Wt.snoc.1 h1
            have hb := (h3.b ha).1
            exact ⟨r, .inl ((hr.g r hb.1 hb.2).2 (.inl ⟨x, hx, h2⟩)), h3⟩
          · obtain ⟨r, h2, h3⟩ := Wf.snoc.1 h1
            have hb := (h3.b ha).1
            rcases h2 with h2 | ⟨h2, hf⟩
            · exact ⟨r, .inl ((hr.g r hb.1 hb.2).2 (.inr ⟨x, hx, h2⟩)), h3⟩
            · exact ⟨r, .inr ⟨hb.1, (hr.p r hb.1 hb.2).2 ⟨x, hx, h2⟩, hf⟩, h3⟩
    obtain ⟨p', g', e', h'⟩ := ih (i + 1) p1 g1 (by omega) hr1
    refine ⟨p', g', ?_, h'⟩
    rw [← e', r7_Round_L10_eq]; unfold r7_Round_L10_B
    rw [if_pos (decide_eq_true (by omega)), e1]
    rfl
theorem Ms.b {B : List Bool} {x : Int} (h : Ms a B x) : 0 ≤ x ∧ x < a.2.1 := h.1
open Classical in
theorem L5_ref (ha : AuOk a) {F : List Bool} (hF : FinB a F) {loop : List Int} (hlen : loop.length ≤ 1000) (hL : loop.length = len) (hw : ∀ i : Nat, i < len → ix loop (i : Int) = u (h + i)) {q : Int} (q0 : 0 ≤ q) (q1 : q < a.2.1) :
    ∀ (f : Nat) (P Q : List Bool), nots (ix P) a.2.1.toNat + nots (ix Q) a.2.1.toNat = f → (P.length : Int) = a.2.1 → (Q.length : Int) = a.2.1 → ix P q = true → (∀ k, Ms a P k → Star (Rd a u h len) q k) →
      (∀ k, Ms a Q k → ∃ x y, Star (Rd a u h len) q x ∧ Rf a u h len x y ∧ Star (Rd a u h len) y k) → r7_Round_L5 a loop F q true P Q = some (decide (RoundP a u h len q)) := by
  intro f
  induction f using Nat.strongRecOn with
  | _ f ih =>
  intro P Q hf hP hQ hPq iP iQ
  have hn := ha.n1
  have start : RInv a u h P Q 0 P Q := by
    refine ⟨hP, hQ, fun y y0 y1 => ?_, fun y y0 y1 => ?_⟩
    · exact ⟨fun hh => ⟨y, ⟨⟨y0, y1⟩, hh⟩, rfl⟩, fun ⟨x, hx, e⟩ => by cases e; exact hx.2⟩
    · refine ⟨fun hh => .inl ⟨y, ⟨⟨y0, y1⟩, hh⟩, rfl⟩, ?_⟩
      rintro (⟨x, hx, e⟩ | ⟨x, hx, i, f, hi, _⟩)
      · cases e; exact hx.2
      · omega
  obtain ⟨p, g, e1, hr⟩ := L10_ref ha hF hlen hL hw q0 q1 (P := P) (Q := Q) (r5 := r7_Round_L5 a loop F q) len 0 P Q (by omega) start
  have e0 : r7_Round_L5 a loop F q true P Q = (if ix g q = true then some true else r7_Round_L21 a (r7_Round_L5 a loop F q) p g false 0 P Q) := by
    rw [r7_Round_L5_eq]; unfold r7_Round_L5_B
    rw [if_pos rfl, G_pos (by unfold room; simp; omega), G_pos (by unfold room; simp; omega), List.nil_append, List.nil_append]
    exact e1
  have sg : ∀ y, 0 ≤ y → y < a.2.1 → ix g y = true → ∃ x z, Star (Rd a u h len) q x ∧ Rf a u h len x z ∧ Star (Rd a u h len) z y := by
    intro y y0 y1 hy
    rcases (hr.g y y0 y1).1 hy with ⟨x, hx, hxy⟩ | ⟨x, hx, hxy⟩
    · obtain ⟨v, z, h1, h2, h3⟩ := iQ x hx
      exact ⟨v, z, h1, h2, h3.tail hxy⟩
    · exact ⟨x, y, iP x hx, hxy, .refl y⟩
  rw [e0]
  by_cases c : ix g q = true
  · rw [if_pos c, decide_eq_true (show RoundP a u h len q from sg q q0 q1 c)]
  · rw [if_neg c]
    obtain ⟨ag, P', Q', e2, l1, l2, s1, s2, s3⟩ := L21_ref ha hr.lp hr.lg (r5 := r7_Round_L5 a loop F q) a.2.1.toNat 0 false P Q (by omega) (by omega) hP hQ
    rw [e2]
    cases ag with
    | true =>
      have h3 := s3.1 rfl
      have mP : ∀ k : Int, 0 ≤ k → k < (a.2.1.toNat : Int) → ix P k = true → ix P' k = true := fun k k0 k1 hk => (s1 k k0 (by omega)).2 (.inl hk)
      have mQ : ∀ k : Int, 0 ≤ k → k < (a.2.1.toNat : Int) → ix Q k = true → ix Q' k = true := fun k k0 k1 hk => (s2 k k0 (by omega)).2 (.inl hk)
      have hlt : nots (ix P') a.2.1.toNat + nots (ix Q') a.2.1.toNat < f := by
        rcases h3 with h3 | ⟨k, k0, k1, h3 | h3⟩
        · cases h3
        · have := nots_lt mP ⟨k, k0, by omega, (s1 k k0 k1).2 (.inr ⟨k0, h3.1⟩), h3.2⟩
          have := nots_le mQ
          omega
        · have := nots_lt mQ ⟨k, k0, by omega, (s2 k k0 k1).2 (.inr ⟨k0, h3.1⟩), h3.2⟩
          have := nots_le mP
          omega
      refine ih _ hlt P' Q' rfl l1 l2 ((s1 q q0 q1).2 (.inl hPq)) (fun k hk => ?_) (fun k hk => ?_)
      · rcases (s1 k hk.1.1 hk.1.2).1 hk.2 with h4 | ⟨_, h4⟩
        · exact iP k ⟨hk.1, h4⟩
        · obtain ⟨x, hx, hxk⟩ := (hr.p k hk.1.1 hk.1.2).1 h4
          exact (iP x hx).tail hxk
      · rcases (s2 k hk.1.1 hk.1.2).1 hk.2 with h4 | ⟨_, h4⟩
        · exact iQ k ⟨hk.1, h4⟩
        · exact sg k hk.1.1 hk.1.2 h4
    | false =>
      have hno : ∀ k : Int, 0 ≤ k → k < a.2.1 → (ix p k = true → ix P k = true) ∧ (ix g k = true → ix Q k = true) := fun k k0 k1 => by
        constructor
        · intro h1
          by_cases h2 : ix P k = true
          · exact h2
          · have := s3.2 (.inr ⟨k, k0, k1, .inl ⟨h1, h2⟩⟩); cases this
        · intro h1
          by_cases h2 : ix Q k = true
          · exact h2
          · have := s3.2 (.inr ⟨k, k0, k1, .inr ⟨h1, h2⟩⟩); cases this
      have hnr : ¬ RoundP a u h len q := by
        rintro ⟨x, y, h1, h2, h3⟩
        have inP : ∀ x, Star (Rd a u h len) q x → Ms a P x := by
          intro x hx
          induction hx with
          | refl => exact ⟨⟨q0, q1⟩, hPq⟩
          | tail _ r ih =>
            have hb := Wt.b ha r ih.1.1 ih.1.2
            exact ⟨hb, (hno _ hb.1 hb.2).1 ((hr.p _ hb.1 hb.2).2 ⟨_, ih, r⟩)⟩
        have hx := inP x h1
        have hyb := Wt.b ha h2.rd hx.1.1 hx.1.2
        have hyg := (hr.g y hyb.1 hyb.2).2 (.inr ⟨x, hx, h2⟩)
        have inG : ∀ z, Star (Rd a u h len) y z → (0 ≤ z ∧ z < a.2.1) ∧ ix g z = true := by
          intro z hz
          induction hz with
          | refl => exact ⟨hyb, hyg⟩
          | tail _ r ih =>
            have hb := Wt.b ha r ih.1.1 ih.1.2
            exact ⟨hb, (hr.g _ hb.1 hb.2).2 (.inl ⟨_, ⟨ih.1, (hno _ ih.1.1 ih.1.2).2 ih.2⟩, r⟩)⟩
        exact c (inG q h3).2
      rw [decide_eq_false hnr, r7_Round_L5_eq]; unfold r7_Round_L5_B
      rw [if_neg (by decide)]
open Classical in
theorem Round_ref (ha : AuOk a) {F : List Bool} (hF : FinB a F) {loop : List Int} (hlen : loop.length ≤ 1000) (hL : loop.length = len) (hw : ∀ i : Nat, i < len → ix loop (i : Int) = u (h + i)) {q : Int} (q0 : 0 ≤ q) (q1 : q < a.2.1) : r7_Round a loop F q = some (decide (RoundP a u h len q)) := by
  have hn := ha.n1
  have hl : ((List.replicate a.2.1.toNat false).length : Int) = a.2.1 := by rw [List.length_replicate]; omega
  unfold r7_Round
  rw [G_pos (by unfold mkOK; omega), G_pos (by unfold mkOK; omega), G_pos (by omega), G_pos (by omega)]
  refine L5_ref ha hF hlen hL hw q0 q1 _ _ _ rfl (by rw [List.length_set]; exact hl) hl (ix_set_same q0 (by omega)) (fun k hk => ?_) (fun k hk => ?_)
  · by_cases e : k = q
    · rw [e]; exact .refl _
    · have := hk.2
      rw [ix_set_ne q0 hk.1.1 (fun hh => e hh.symm), ix_replicate hk.1.1 (by have := hk.1.2; omega)] at this
      cases this
  · have := hk.2
    rw [ix_replicate hk.1.1 (by have := hk.1.2; omega)] at this
    cases this
end
section
variable {a : Au} {u : Nat → Int} {h len : Nat} {l : List Int × List Int × Unit}
theorem L19_ref (ha : AuOk a) {N : List Bool} (hN : (N.length : Int) = a.2.1) {r11 : Bool → List Bool → Option Bool} : ∀ (m : Nat) (k : Int) (ag : Bool) (P : List Bool), 0 ≤ k → k + m = a.2.1 → (P.length : Int) = a.2.1 →
    ∃ ag' P', r7_Accepts_L19 a r11 N ag k P = r11 ag' P' ∧ (P'.length : Int) = a.2.1 ∧ (∀ q : Int, 0 ≤ q → q < a.2.1 → (ix P' q = true ↔ ix P q = true ∨ (k ≤ q ∧ ix N q = true))) ∧
      (ag' = true ↔ ag = true ∨ ∃ q : Int, k ≤ q ∧ q < a.2.1 ∧ ix N q = true ∧ ¬ ix P q = true) := by
  have hn := ha.n1
  intro m
  induction m with
  | zero =>
    intro k ag P k0 hk hP
    refine ⟨ag, P, ?_, hP, fun q q0 q1 => ?_, ?_⟩
    · rw [r7_Accepts_L19_eq]; unfold r7_Accepts_L19_B
      rw [if_neg (by simp only [decide_eq_true_eq]; omega)]
    · exact ⟨.inl, fun hh => hh.elim id (fun hh => by omega)⟩
    · exact ⟨.inl, fun hh => hh.elim id (fun ⟨q, h1, h2, _⟩ => by omega)⟩
  | succ m ih =>
    intro k ag P k0 hk hP
    have J21 : ∀ ag2, r7_Accepts_J21 N k P (r7_Accepts_L19 a r11 N) ag2 = r7_Accepts_L19 a r11 N ag2 (k + 1) (P.set k.toNat (ix P k || ix N k)) := by
      intro ag2
      unfold r7_Accepts_J21
      rw [G_pos (by omega), G_pos (by omega)]
      by_cases c : ix P k = true
      · rw [if_pos c, G_pos (by omega), G_pos (by omega), G_pos (by unfold fits; omega), c]; rfl
      · rw [if_neg c, G_pos (by omega), G_pos (by omega), G_pos (by omega), G_pos (by omega), G_pos (by unfold fits; omega), Bool.eq_false_iff.2 c]; rfl
    obtain ⟨ag2, hag2, e⟩ : ∃ ag2, (ag2 = true ↔ ag = true ∨ (ix N k = true ∧ ¬ ix P k = true)) ∧ r7_Accepts_L19 a r11 N ag k P = r7_Accepts_J21 N k P (r7_Accepts_L19 a r11 N) ag2 := by
      by_cases c0 : ag = true
      · refine ⟨true, by simp [c0], ?_⟩
        rw [r7_Accepts_L19_eq]; unfold r7_Accepts_L19_B
        rw [if_pos (decide_eq_true (by omega)), if_pos c0]
      by_cases c1 : ix N k = true
      · refine ⟨!(ix P k), by simp [c0, c1], ?_⟩
        rw [r7_Accepts_L19_eq]; unfold r7_Accepts_L19_B
        rw [if_pos (decide_eq_true (by omega)), if_neg c0, G_pos (by omega), G_pos (by omega), if_pos c1, G_pos (by omega), G_pos (by omega)]
      · refine ⟨false, by simp [c0, c1], ?_⟩
        rw [r7_Accepts_L19_eq]; unfold r7_Accepts_L19_B
        rw [if_pos (decide_eq_true (by omega)), if_neg c0, G_pos (by omega), G_pos (by omega), if_neg c1]
    obtain ⟨ag', P', e', l1, s1, s3⟩ := ih (k + 1) ag2 (P.set k.toNat (ix P k || ix N k)) (by omega) (by omega) (by rw [List.length_set]; exact hP)
    refine ⟨ag', P', by rw [e, J21]; exact e', l1, fun q q0 q1 => (s1 q q0 q1).trans ?_, ?_⟩
    · by_cases eq : q = k
      · subst eq
        rw [ix_set_same k0 (by omega), Bool.or_eq_true]
        constructor
        · rintro ((h1 | h1) | ⟨h1, _⟩)
          · exact .inl h1
          · exact .inr ⟨Int.le_refl _, h1⟩
          · omega
        · rintro (h1 | ⟨_, h1⟩)
          · exact .inl (.inl h1)
          · exact .inl (.inr h1)
      · rw [ix_set_ne k0 q0 (fun hh => eq hh.symm)]
        exact or_congr Iff.rfl (and_congr (by omega) Iff.rfl)
    · rw [s3, hag2]
      constructor
      · rintro ((h1 | h1) | ⟨q, h1, h2, h3⟩)
        · exact .inl h1
        · exact .inr ⟨k, Int.le_refl _, by omega, h1⟩
        · rw [ix_set_ne k0 (by omega) (by omega)] at h3
          exact .inr ⟨q, by omega, h2, h3⟩
      · rintro (h1 | ⟨q, h1, h2, h3⟩)
        · exact .inl (.inl h1)
        · by_cases eq : q = k
          · rw [eq] at h3; exact .inl (.inr h3)
          · refine .inr ⟨q, by omega, h2, ?_⟩
            rw [ix_set_ne k0 (by omega) (by omega)]
            exact h3
/-- Letters read, from a set on. -/
theorem L15_ref (ha : AuOk a) (hlen : l.2.1.length ≤ 1000) (hL : l.2.1.length = len) (hw : ∀ i : Nat, i < len → ix l.2.1 (i : Int) = u (h + i)) {P : List Bool} {r11 : Bool → List Bool → Option Bool} :
    ∀ (m i : Nat) (N : List Bool), i + m = len → (N.length : Int) = a.2.1 → (∀ q : Int, 0 ≤ q → q < a.2.1 → (ix N q = true ↔ ∃ x, Ms a P x ∧ Wt a u i h x q)) →
      ∃ N', r7_Accepts_L15 a l r11 (i : Int) P N = r7_Accepts_L19 a r11 N' false 0 P ∧ (N'.length : Int) = a.2.1 ∧ ∀ q : Int, 0 ≤ q → q < a.2.1 → (ix N' q = true ↔ ∃ x, Ms a P x ∧ Rd a u h len x q) := by
  have ea : (a.1, a.2.1, a.2.2.1, a.2.2.2.1, a.2.2.2.2.1, ()) = a := rfl
  intro m
  induction m with
  | zero =>
    intro i N hi hN hq
    have : i = len := by omega
    subst this
    refine ⟨N, ?_, hN, hq⟩
    rw [r7_Accepts_L15_eq]; unfold r7_Accepts_L15_B
    rw [if_neg (by simp only [decide_eq_true_eq]; omega)]
  | succ m ih =>
    intro i N hi hN hq
    obtain ⟨o, e, lo, so⟩ := by_spec ha hN (ix l.2.1 (i : Int))
    have hwi := hw i (by omega)
    obtain ⟨N', e', l', s'⟩ := ih (i + 1) o (by omega) lo (fun q q0 q1 => by
      rw [so q q0 q1, hwi]
      constructor
      · rintro ⟨r, h1, h2⟩
        have hb := (h2.b ha).1
        obtain ⟨x, hx, hxr⟩ := (hq r hb.1 hb.2).1 h1
        exact ⟨x, hx, Wt.snoc.2 ⟨r, hxr, h2⟩⟩
      · rintro ⟨x, hx, h1⟩
        obtain ⟨r, h2, h3⟩ := Wt.snoc.1 h1
        have hb := (h3.b ha).1
        exact ⟨r, (hq r hb.1 hb.2).2 ⟨x, hx, h2⟩, h3⟩)
    refine ⟨N', ?_, l', s'⟩
    rw [← e', r7_Accepts_L15_eq]; unfold r7_Accepts_L15_B
    rw [if_pos (decide_eq_true (by omega)), G_pos (by omega), ea]
    refine bind_to e ?_
    rw [G_pos (by unfold fits; omega)]
    rfl
open Classical in
theorem L29_ref (ha : AuOk a) {F : List Bool} (hF : FinB a F) (hlen : l.2.1.length ≤ 1000) (hL : l.2.1.length = len) (hw : ∀ i : Nat, i < len → ix l.2.1 (i : Int) = u (h + i)) {P : List Bool} (hP : (P.length : Int) = a.2.1) :
    ∀ (m : Nat) (k : Int), 0 ≤ k → k + m = a.2.1 → r7_Accepts_L29 a l P F k = some (decide (∃ q : Int, k ≤ q ∧ Ms a P q ∧ RoundP a u h len q)) := by
  have ea : (a.1, a.2.1, a.2.2.1, a.2.2.2.1, a.2.2.2.2.1, ()) = a := rfl
  have hn := ha.n1
  intro m
  induction m with
  | zero =>
    intro k k0 hk
    rw [r7_Accepts_L29_eq]; unfold r7_Accepts_L29_B
    rw [if_neg (by simp only [decide_eq_true_eq]; omega), decide_eq_false]
    rintro ⟨q, h1, h2, _⟩
    have := h2.1
    omega
  | succ m ih =>
    intro k k0 hk
    have nx : ¬ (Ms a P k ∧ RoundP a u h len k) → (some (decide (∃ q : Int, k + 1 ≤ q ∧ Ms a P q ∧ RoundP a u h len q)) : Option Bool) = some (decide (∃ q : Int, k ≤ q ∧ Ms a P q ∧ RoundP a u h len q)) := by
      intro hno
      refine congrArg some (decide_eq_decide.2 ⟨fun ⟨q, h1, h2⟩ => ⟨q, by omega, h2⟩, fun ⟨q, h1, h2⟩ => ⟨q, ?_, h2⟩⟩)
      by_cases e : q = k
      · rw [e] at h2; exact absurd h2 hno
      · omega
    rw [r7_Accepts_L29_eq]; unfold r7_Accepts_L29_B
    rw [if_pos (decide_eq_true (by omega)), G_pos (by omega), G_pos (by omega)]
    by_cases c : ix P k = true
    · rw [if_neg (by simp [c]), ea]
      refine bind_to (Round_ref ha hF hlen hL hw k0 (by omega)) ?_
      by_cases c2 : RoundP a u h len k
      · rw [if_pos (decide_eq_true c2), decide_eq_true ⟨k, Int.le_refl _, ⟨⟨k0, by omega⟩, c⟩, c2⟩]
      · rw [if_neg (by simpa using c2), G_pos (by unfold fits; omega), ih (k + 1) (by omega) (by omega)]
        exact nx (fun hh => c2 hh.2)
    · rw [if_pos (by simp [c]), G_pos (by unfold fits; omega), ih (k + 1) (by omega) (by omega)]
      exact nx (fun hh => c hh.1.2)
theorem L25_ref (ha : AuOk a) {P : List Bool} : ∀ (m : Nat) (k : Int) (F : List Bool), 0 ≤ k → k + m = a.2.2.2.2.1.length → (F.length : Int) = a.2.1 → (∀ q : Int, 0 ≤ q → q < a.2.1 → (ix F q = true ↔ ∃ j : Int, 0 ≤ j ∧ j < k ∧ ix a.2.2.2.2.1 j = q)) →
    ∃ F', r7_Accepts_L25 a l P k F = r7_Accepts_L29 a l P F' 0 ∧ FinB a F' := by
  have hlf := ha.lf
  intro m
  induction m with
  | zero =>
    intro k F k0 hk hF hq
    refine ⟨F, ?_, hF, fun q q0 q1 => (hq q q0 q1).trans ?_⟩
    · rw [r7_Accepts_L25_eq]; unfold r7_Accepts_L25_B
      rw [if_neg (by simp only [decide_eq_true_eq]; omega)]
    · constructor
      · rintro ⟨j, j0, j1, rfl⟩; exact ix_mem j0 (by omega)
      · intro hm
        obtain ⟨j, j0, j1, e⟩ := (ex_ix (P := fun y => y = q)).1 ⟨q, hm, rfl⟩
        exact ⟨j, j0, by omega, e⟩
  | succ m ih =>
    intro k F k0 hk hF hq
    have hb := ha.f _ (ix_mem k0 (by omega : k < a.2.2.2.2.1.length))
    obtain ⟨F', e, h'⟩ := ih (k + 1) (F.set (ix a.2.2.2.2.1 k).toNat true) (by omega) (by omega) (by rw [List.length_set]; exact hF) (fun q q0 q1 => by
      by_cases c : ix a.2.2.2.2.1 k = q
      · rw [c, ix_set_same q0 (by omega)]
        exact ⟨fun _ => ⟨k, k0, by omega, c⟩, fun _ => rfl⟩
      · rw [ix_set_ne hb.1 q0 c, hq q q0 q1]
        constructor
        · rintro ⟨j, j0, j1, e⟩; exact ⟨j, j0, by omega, e⟩
        · rintro ⟨j, j0, j1, e⟩
          by_cases ej : j = k
          · rw [ej] at e; exact absurd e c
          · exact ⟨j, j0, by omega, e⟩)
    refine ⟨F', ?_, h'⟩
    rw [← e]
    conv => lhs; rw [r7_Accepts_L25_eq]; unfold r7_Accepts_L25_B
    rw [if_pos (decide_eq_true (by omega)), G_pos (by omega), G_pos (by omega), G_pos (by omega), G_pos (by unfold fits; omega)]
open Classical in
theorem L11_ref (ha : AuOk a) (hlen : l.2.1.length ≤ 1000) (hL : l.2.1.length = len) (hl0 : 0 < len) (hw : ∀ i : Nat, i < len → ix l.2.1 (i : Int) = u (h + i)) :
    ∀ (f : Nat) (P : List Bool), nots (ix P) a.2.1.toNat = f → (P.length : Int) = a.2.1 → (∀ k, Ms a P k → FarP a u h len k) → (∀ r, (∃ q0 ∈ a.2.2.1, Wt a u h 0 q0 r) → Ms a P r) →
      r7_Accepts_L11 a l true P = some (decide (RefA a u h len)) := by
  have ea : (a.1, a.2.1, a.2.2.1, a.2.2.2.1, a.2.2.2.2.1, ()) = a := rfl
  have hn := ha.n1
  intro f
  induction f using Nat.strongRecOn with
  | _ f ih =>
  intro P hf hP hin hst
  obtain ⟨o, eo, lo, so⟩ := by_spec ha hP (ix l.2.1 0)
  have hw0 := hw 0 hl0
  obtain ⟨N, e1, lN, sN⟩ := L15_ref ha hlen hL hw (P := P) (r11 := r7_Accepts_L11 a l) (len - 1) 1 o (by omega) lo (fun q q0 q1 => by
    rw [so q q0 q1, show ix l.2.1 0 = u (h + 0) from hw0]
    constructor
    · rintro ⟨r, h1, h2⟩
      exact ⟨r, ⟨(h2.b ha).1, h1⟩, q, h2, rfl⟩
    · rintro ⟨x, hx, r, h1, h2⟩
      cases h2
      exact ⟨x, hx.2, h1⟩)
  obtain ⟨ag, P', e2, l1, s1, s3⟩ := L19_ref ha lN (r11 := r7_Accepts_L11 a l) a.2.1.toNat 0 false P (by omega) (by omega) hP
  have e0 : r7_Accepts_L11 a l true P = r7_Accepts_L11 a l ag P' := by
    rw [← e2, ← e1]
    conv => lhs; rw [r7_Accepts_L11_eq]; unfold r7_Accepts_L11_B
    rw [if_pos rfl, if_pos (decide_eq_true (by omega)), G_pos (by omega), ea]
    refine bind_to eo ?_
    rw [G_pos (by unfold fits; omega)]
    rfl
  rw [e0]
  have mP : ∀ k : Int, 0 ≤ k → k < (a.2.1.toNat : Int) → ix P k = true → ix P' k = true := fun k k0 k1 hk => (s1 k k0 (by omega)).2 (.inl hk)
  have hin' : ∀ k, Ms a P' k → FarP a u h len k := fun k hk => by
    rcases (s1 k hk.1.1 hk.1.2).1 hk.2 with h4 | ⟨_, h4⟩
    · exact hin k ⟨hk.1, h4⟩
    · obtain ⟨x, hx, hxk⟩ := (sN k hk.1.1 hk.1.2).1 h4
      obtain ⟨r, h5, h6⟩ := hin x hx
      exact ⟨r, h5, h6.tail hxk⟩
  have hst' : ∀ r, (∃ q0 ∈ a.2.2.1, Wt a u h 0 q0 r) → Ms a P' r := fun r hr => by
    have := hst r hr
    exact ⟨this.1, (s1 r this.1.1 this.1.2).2 (.inl this.2)⟩
  cases ag with
  | true =>
    rcases s3.1 rfl with h3 | ⟨k, k0, k1, h3⟩
    · cases h3
    · have hlt : nots (ix P') a.2.1.toNat < f := by
        have := nots_lt mP ⟨k, k0, by omega, (s1 k k0 k1).2 (.inr ⟨k0, h3.1⟩), h3.2⟩
        omega
      exact ih _ hlt P' rfl l1 hin' hst'
  | false =>
    have hno : ∀ k : Int, 0 ≤ k → k < a.2.1 → ix N k = true → ix P k = true := fun k k0 k1 h1 => by
      by_cases h2 : ix P k = true
      · exact h2
      · have := s3.2 (.inr ⟨k, k0, k1, h1, h2⟩); cases this
    have far : ∀ k, FarP a u h len k → Ms a P' k := by
      rintro k ⟨r, hr, hs⟩
      have : Ms a P k := by
        induction hs with
        | refl => exact hst r hr
        | tail _ rr ih2 =>
          have hb := Wt.b ha rr ih2.1.1 ih2.1.2
          exact ⟨hb, hno _ hb.1 hb.2 ((sN _ hb.1 hb.2).2 ⟨_, ih2, rr⟩)⟩
      exact ⟨this.1, (s1 k this.1.1 this.1.2).2 (.inl this.2)⟩
    obtain ⟨F, e3, hF⟩ := L25_ref ha (l := l) (P := P') a.2.2.2.2.1.length 0 (List.replicate a.2.1.toNat false) (by omega) (by omega) (by rw [List.length_replicate]; omega) (fun q q0 q1 => by
      rw [ix_replicate q0 (by omega)]
      exact ⟨fun hh => (by cases hh), fun ⟨k, k0, k1, _⟩ => by omega⟩)
    rw [r7_Accepts_L11_eq]; unfold r7_Accepts_L11_B
    rw [if_neg (by decide), G_pos (by unfold mkOK; omega), e3, L29_ref ha hF hlen hL hw l1 a.2.1.toNat 0 (by omega) (by omega)]
    refine congrArg some (decide_eq_decide.2 ⟨fun ⟨q, _, h1, h2⟩ => ⟨q, hin' q h1, h2⟩, fun ⟨q, h1, h2⟩ => ⟨q, (far q h1).1.1, far q h1, h2⟩⟩)
open Classical in
theorem Accepts_ref (ha : AuOk a) (hh1 : l.1.length ≤ 1000) (hh : l.1.length = h) (hlen : l.2.1.length ≤ 1000) (hL : l.2.1.length = len) (hl0 : 0 < len) (hwh : ∀ i : Nat, i < h → ix l.1 (i : Int) = u i) (hw : ∀ i : Nat, i < len → ix l.2.1 (i : Int) = u (h + i)) :
    r7_Accepts a l = some (decide (RefA a u h len)) := by
  have ea : (a.1, a.2.1, a.2.2.1, a.2.2.2.1, a.2.2.2.2.1, ()) = a := rfl
  have hn := ha.n1; have hls := ha.ls
  have L7 : ∀ (m i : Nat) (P : List Bool), i + m = h → (P.length : Int) = a.2.1 → (∀ q : Int, 0 ≤ q → q < a.2.1 → (ix P q = true ↔ ∃ q0 ∈ a.2.2.1, Wt a u i 0 q0 q)) → r7_Accepts_L7 a l (i : Int) P = some (decide (RefA a u h len)) := by
    intro m
    induction m with
    | zero =>
      intro i P hi hP hq
      have : i = h := by omega
      subst this
      rw [r7_Accepts_L7_eq]; unfold r7_Accepts_L7_B
      rw [if_neg (by simp only [decide_eq_true_eq]; omega)]
      refine L11_ref ha hlen hL hl0 hw _ P rfl hP (fun k hk => ?_) (fun r hr => ?_)
      · exact ⟨k, (hq k hk.1.1 hk.1.2).1 hk.2, .refl _⟩
      · obtain ⟨q0, h1, h2⟩ := hr
        have hb := Wt.b ha h2 (ha.s _ h1).1 (ha.s _ h1).2
        exact ⟨hb, (hq r hb.1 hb.2).2 ⟨q0, h1, h2⟩⟩
    | succ m ih =>
      intro i P hi hP hq
      obtain ⟨o, e, lo, so⟩ := by_spec ha hP (ix l.1 (i : Int))
      have hwi := hwh i (by omega)
      rw [r7_Accepts_L7_eq]; unfold r7_Accepts_L7_B
      rw [if_pos (decide_eq_true (by omega)), G_pos (by omega), ea]
      refine bind_to e ?_
      rw [G_pos (by unfold fits; omega)]
      refine ih (i + 1) o (by omega) lo (fun q q0 q1 => ?_)
      rw [so q q0 q1, hwi]
      constructor
      · rintro ⟨r, h1, h2⟩
        have hb := (h2.b ha).1
        obtain ⟨x, hx, hxr⟩ := (hq r hb.1 hb.2).1 h1
        exact ⟨x, hx, Wt.snoc.2 ⟨r, hxr, by rw [Nat.zero_add]; exact h2⟩⟩
      · rintro ⟨x, hx, h1⟩
        obtain ⟨r, h2, h3⟩ := Wt.snoc.1 h1
        have hb := (h3.b ha).1
        rw [Nat.zero_add] at h3
        exact ⟨r, (hq r hb.1 hb.2).2 ⟨x, hx, h2⟩, h3⟩
  have L3 : ∀ (m : Nat) (k : Int) (P : List Bool), 0 ≤ k → k + m = a.2.2.1.length → (P.length : Int) = a.2.1 → (∀ q : Int, 0 ≤ q → q < a.2.1 → (ix P q = true ↔ ∃ j : Int, 0 ≤ j ∧ j < k ∧ ix a.2.2.1 j = q)) → r7_Accepts_L3 a l k P = some (decide (RefA a u h len)) := by
    intro m
    induction m with
    | zero =>
      intro k P k0 hk hP hq
      rw [r7_Accepts_L3_eq]; unfold r7_Accepts_L3_B
      rw [if_neg (by simp only [decide_eq_true_eq]; omega)]
      refine L7 h 0 P (by omega) hP (fun q q0 q1 => (hq q q0 q1).trans ?_)
      constructor
      · rintro ⟨j, j0, j1, rfl⟩; exact ⟨_, ix_mem j0 (by omega), rfl⟩
      · rintro ⟨q', hm, e⟩
        cases e
        obtain ⟨j, j0, j1, e⟩ := (ex_ix (P := fun y => y = q)).1 ⟨q, hm, rfl⟩
        exact ⟨j, j0, by omega, e⟩
    | succ m ih =>
      intro k P k0 hk hP hq
      have hb := ha.s _ (ix_mem k0 (by omega : k < a.2.2.1.length))
      rw [r7_Accepts_L3_eq]; unfold r7_Accepts_L3_B
      rw [if_pos (decide_eq_true (by omega)), G_pos (by omega), G_pos (by omega), G_pos (by omega), G_pos (by unfold fits; omega)]
      refine ih (k + 1) (P.set (ix a.2.2.1 k).toNat true) (by omega) (by omega) (by rw [List.length_set]; exact hP) (fun q q0 q1 => ?_)
      by_cases c : ix a.2.2.1 k = q
      · rw [c, ix_set_same q0 (by omega)]
        exact ⟨fun _ => ⟨k, k0, by omega, c⟩, fun _ => rfl⟩
      · rw [ix_set_ne hb.1 q0 c, hq q q0 q1]
        constructor
        · rintro ⟨j, j0, j1, e⟩; exact ⟨j, j0, by omega, e⟩
        · rintro ⟨j, j0, j1, e⟩
          by_cases ej : j = k
          · rw [ej] at e; exact absurd e c
          · exact ⟨j, j0, by omega, e⟩
  unfold r7_Accepts
  rw [G_pos (by unfold mkOK; omega)]
  refine L3 a.2.2.1.length 0 _ (by omega) (by omega) (by rw [List.length_replicate]; omega) (fun q q0 q1 => ?_)
  rw [ix_replicate q0 (by omega)]
  exact ⟨fun hh => (by cases hh), fun ⟨k, k0, k1, _⟩ => by omega⟩
end

section
abbrev LsT := List Int × List Int × Unit
/-- The letter at a time. -/
def las (l : LsT) (t : Nat) : Int := if t < l.1.length then ix l.1 (t : Int) else ix l.2.1 (((t - l.1.length) % l.2.1.length : Nat) : Int)
theorem las_head {l : LsT} (i : Nat) (h : i < l.1.length) : ix l.1 (i : Int) = las l i := by unfold las; rw [if_pos h]
theorem las_loop {l : LsT} (i : Nat) (h : i < l.2.1.length) : ix l.2.1 (i : Int) = las l (l.1.length + i) := by
  unfold las
  rw [if_neg (by omega), show l.1.length + i - l.1.length = i by omega, Nat.mod_eq_of_lt h]
theorem las_per {l : LsT} (t : Nat) (h : l.1.length ≤ t) : las l (t + l.2.1.length) = las l t := by
  unfold las
  rw [if_neg (by omega), if_neg (by omega), show t + l.2.1.length - l.1.length = (t - l.1.length) + l.2.1.length by omega, Nat.add_mod_right]
end

/-- An edge. -/
def Ed (N : List (List Int)) (p v : Int) : Prop := v ∈ ix N p
structure GT (N : List (List Int)) (M : Int) : Prop where
  l : (N.length : Int) = M
  m : 0 ≤ M ∧ M ≤ 36000
  r : ∀ p : Int, 0 ≤ p → p < M → (ix N p).length ≤ 40000 ∧ ∀ v ∈ ix N p, 0 ≤ v ∧ v < M
def RR (N : List (List Int)) (fr : List Int) (v : Int) : Prop := ∃ f ∈ fr, ∃ y, Ed N f y ∧ Star (Ed N) y v
structure WS (N : List (List Int)) (M : Int) (fr : List Int) (X : Int → Prop) (seen : List Bool) (row : List Int) : Prop where
  ls : (seen.length : Int) = M
  sd : ∀ v : Int, 0 ≤ v → v < M → ix seen v = true → RR N fr v
  rw : ∀ p ∈ row, (0 ≤ p ∧ p < M) ∧ (p ∈ fr ∨ ix seen p = true)
  cl : ∀ p : Int, 0 ≤ p → p < M → (p ∈ fr ∨ ix seen p = true) → p ∈ row ∨ X p ∨ ∀ v ∈ ix N p, ix seen v = true
  lr : row.length + nots (ix seen) M.toNat ≤ 300 + M.toNat
theorem reach_spec {N : List (List Int)} {M : Int} (h : GT N M) {gd : List Bool} {fr : List Int} (hfr : ∀ f ∈ fr, 0 ≤ f ∧ f < M) (hfl : fr.length ≤ 300) : ∃ seen, buchi_graph_reach (N, gd, ()) fr = some seen ∧ (seen.length : Int) = M ∧ ∀ v : Int, 0 ≤ v → v < M → (ix seen v = true ↔ RR N fr v) := by
  have hm := h.m; have hl := h.l
  have inner : ∀ (p : Int) (row0 : List Int) (r3 : List Bool → List Int → Option (List Bool)), 0 ≤ p → p < M → ix row0 ((row0.length : Int) - 1) = p → (p ∈ fr ∨ RR N fr p) → ∀ (m : Nat) (t : Int) (seen : List Bool) (row : List Int), 0 ≤ t → t + m = (ix N p).length → WS N M fr (fun q => q = p) seen row → (∀ k : Int, 0 ≤ k → k < t → ix seen (ix (ix N p) k) = true) →
      ∃ seen' row', buchi_graph_reach_L7 (N, gd, ()) row0 r3 t seen row = r3 seen' row' ∧ WS N M fr (fun _ => False) seen' row' ∧ 2 * nots (ix seen') M.toNat + row'.length ≤ 2 * nots (ix seen) M.toNat + row.length := by
    intro p row0 r3 p0 p1 hp hpR m
    obtain ⟨hr1, hr2⟩ := h.r p p0 p1
    induction m with
    | zero =>
      intro t seen row t0 ht hW hd
      refine ⟨seen, row, ?_, ⟨hW.ls, hW.sd, hW.rw, fun q q0 q1 hq => ?_, hW.lr⟩, Nat.le_refl _⟩
      · rw [buchi_graph_reach_L7_eq]; unfold buchi_graph_reach_L7_B
        dsimp only
        rw [hp, if_neg (by simp only [decide_eq_true_eq]; omega)]
      · rcases hW.cl q q0 q1 hq with h1 | rfl | h1
        · exact .inl h1
        · refine .inr (.inr fun v hv => ?_)
          obtain ⟨k, k0, k1, e⟩ := (ex_ix (P := fun y => y = v)).1 ⟨v, hv, rfl⟩
          rw [← e]; exact hd k k0 (by omega)
        · exact .inr (.inr h1)
    | succ m ih =>
      intro t seen row t0 ht hW hd
      obtain ⟨v, ev⟩ : ∃ v, ix (ix N p) t = v := ⟨_, rfl⟩
      have hv := ix_mem t0 (by omega : t < (ix N p).length)
      rw [ev] at hv
      have hvb := hr2 v hv
      have hls := hW.ls; have hlr := hW.lr
      by_cases c : ix seen v = true
      · obtain ⟨seen', row', e, h1, h2⟩ := ih (t + 1) seen row (by omega) (by omega) hW (fun k k0 k1 => by
          by_cases ek : k = t
          · rw [ek, ev]; exact c
          · exact hd k k0 (by omega))
        refine ⟨seen', row', ?_, h1, h2⟩
        rw [← e]
        conv => lhs; rw [buchi_graph_reach_L7_eq]; unfold buchi_graph_reach_L7_B buchi_graph_reach_J11
        dsimp only
        rw [hp, if_pos (decide_eq_true (by omega)), G_pos (by omega), ev, G_pos (by omega), G_pos (by omega), if_neg (by simp [c]), G_pos (by unfold fits; omega)]
      · have keep : ∀ q, 0 ≤ q → ix seen q = true → ix (seen.set v.toNat true) q = true := fun q q0 hq => by
          by_cases e : v = q
          · rw [e, ix_set_same q0 (by omega)]
          · rw [ix_set_ne hvb.1 q0 e]; exact hq
        have same : ix (seen.set v.toNat true) v = true := ix_set_same hvb.1 (by omega)
        have hnl : nots (ix (seen.set v.toNat true)) M.toNat < nots (ix seen) M.toNat := nots_lt (fun k k0 k1 hk => keep k k0 hk) ⟨v, hvb.1, by omega, same, c⟩
        have hRv : RR N fr v := by
          rcases hpR with hp1 | ⟨f, hf, y, h1, h2⟩
          · exact ⟨p, hp1, v, hv, .refl v⟩
          · exact ⟨f, hf, y, h1, h2.tail hv⟩
        obtain ⟨seen', row', e, h1, h2⟩ := ih (t + 1) (seen.set v.toNat true) (row ++ [v]) (by omega) (by omega) ⟨by rw [List.length_set]; exact hls, fun q q0 q1 hq => by
            by_cases e : v = q
            · rw [← e]; exact hRv
            · rw [ix_set_ne hvb.1 q0 e] at hq; exact hW.sd q q0 q1 hq, fun q hq => by
            rcases List.mem_append.1 hq with hq | hq
            · exact ⟨(hW.rw q hq).1, (hW.rw q hq).2.imp id (keep q (hW.rw q hq).1.1)⟩
            · rw [List.mem_singleton.1 hq]; exact ⟨hvb, .inr same⟩, fun q q0 q1 hq => by
            by_cases e : v = q
            · left; rw [← e]; simp
            · rw [ix_set_ne hvb.1 q0 e] at hq
              rcases hW.cl q q0 q1 hq with h1 | h1 | h1
              · exact .inl (List.mem_append.2 (.inl h1))
              · exact .inr (.inl h1)
              · exact .inr (.inr fun z hz => keep z ((h.r q q0 q1).2 z hz).1 (h1 z hz)), by rw [List.length_append, List.length_singleton]; omega⟩ (fun k k0 k1 => by
            by_cases ek : k = t
            · rw [ek, ev]; exact same
            · have := ix_mem k0 (by omega : k < (ix N p).length)
              exact keep _ (hr2 _ this).1 (hd k k0 (by omega)))
        refine ⟨seen', row', ?_, h1, by rw [List.length_append, List.length_singleton] at h2; omega⟩
        rw [← e]
        conv => lhs; rw [buchi_graph_reach_L7_eq]; unfold buchi_graph_reach_L7_B buchi_graph_reach_J11
        dsimp only
        rw [hp, if_pos (decide_eq_true (by omega)), G_pos (by omega), ev, G_pos (by omega), G_pos (by omega), if_pos (by simp [c]), G_pos (by omega), G_pos (by omega), G_pos (by unfold room; simp; omega), G_pos (by unfold fits; omega)]
  have outer : ∀ (f : Nat) (seen : List Bool) (row : List Int), 2 * nots (ix seen) M.toNat + row.length = f → WS N M fr (fun _ => False) seen row → ∃ seen', buchi_graph_reach_L3 (N, gd, ()) seen row = some seen' ∧ WS N M fr (fun _ => False) seen' [] := by
    intro f
    induction f using Nat.strongRecOn with
    | _ f ih =>
    intro seen row hf hW
    have hlr := hW.lr
    by_cases c : row.length = 0
    · have : row = [] := List.eq_nil_of_length_eq_zero c
      subst this
      refine ⟨seen, ?_, hW⟩
      rw [buchi_graph_reach_L3_eq]; unfold buchi_graph_reach_L3_B
      rw [if_neg (by simp)]
    · obtain ⟨p, ep⟩ : ∃ p, ix row ((row.length : Int) - 1) = p := ⟨_, rfl⟩
      have hpm := ix_mem (l := row) (i := (row.length : Int) - 1) (by omega) (by omega)
      rw [ep] at hpm
      obtain ⟨⟨p0, p1⟩, hps⟩ := hW.rw p hpm
      have htk := ix_take (l := row) (i := (row.length : Int) - 1) (by omega) (by omega)
      rw [ep, show (row.length : Int) - 1 + 1 = row.length by omega, Int.toNat_natCast, List.take_length] at htk
      have hlt : (row.take ((row.length : Int) - 1).toNat).length = row.length - 1 := by rw [List.length_take]; omega
      obtain ⟨seen', row', e, h1, h2⟩ := inner p row (buchi_graph_reach_L3 (N, gd, ())) p0 p1 ep (hps.imp id (hW.sd p p0 p1)) (ix N p).length 0 seen (row.take ((row.length : Int) - 1).toNat) (by omega) (by omega) ⟨hW.ls, hW.sd, fun q hq => hW.rw q (List.mem_of_mem_take hq), fun q q0 q1 hq => by
        rcases hW.cl q q0 q1 hq with h1 | h1 | h1
        · rw [htk, List.mem_append] at h1
          rcases h1 with h1 | h1
          · exact .inl h1
          · exact .inr (.inl (List.mem_singleton.1 h1))
        · exact h1.elim
        · exact .inr (.inr h1), by omega⟩ (fun k k0 k1 => by omega)
      obtain ⟨seen2, e2, h3⟩ := ih _ (by omega) seen' row' rfl h1
      refine ⟨seen2, ?_, h3⟩
      rw [← e2, ← e]
      conv => lhs; rw [buchi_graph_reach_L3_eq]; unfold buchi_graph_reach_L3_B
      dsimp only
      rw [if_pos (decide_eq_true (by omega)), G_pos (by unfold fits; omega), G_pos (by omega), G_pos (by omega), G_pos (by unfold fits; omega), G_pos (by omega), ep, G_pos (by omega)]
  have hn0 : ∀ k : Nat, nots (ix (List.replicate M.toNat false)) k ≤ k := by
    intro k
    induction k with
    | zero => exact Nat.le_refl _
    | succ k ih => unfold nots; split <;> omega
  obtain ⟨seen, e, hW⟩ := outer _ (List.replicate M.toNat false) fr rfl ⟨by rw [List.length_replicate]; omega, fun v v0 v1 hv => (by rw [ix_replicate v0 (by omega)] at hv; cases hv), fun p hp => ⟨hfr p hp, .inl hp⟩, fun p p0 p1 hp => hp.elim .inl (fun hp => (by rw [ix_replicate p0 (by omega)] at hp; cases hp)), by have := hn0 M.toNat; omega⟩
  refine ⟨seen, ?_, hW.ls, fun v v0 v1 => ⟨hW.sd v v0 v1, ?_⟩⟩
  · unfold buchi_graph_reach
    dsimp only
    rw [hl, G_pos (by unfold mkOK; omega)]
    exact bind_to (slices_Clone_spec (by omega)) e
  · have cl : ∀ p : Int, 0 ≤ p → p < M → (p ∈ fr ∨ ix seen p = true) → ∀ v ∈ ix N p, ix seen v = true := fun p p0 p1 hp => by
      rcases hW.cl p p0 p1 hp with h1 | h1 | h1
      · cases h1
      · exact h1.elim
      · exact h1
    rintro ⟨f, hf, y, h1, h2⟩
    have hfb := hfr f hf
    have hy : (0 ≤ y ∧ y < M) ∧ ix seen y = true := ⟨(h.r f hfb.1 hfb.2).2 y h1, cl f hfb.1 hfb.2 (.inl hf) y h1⟩
    have : (0 ≤ v ∧ v < M) ∧ ix seen v = true := by
      clear v0 v1
      induction h2 with
      | refl => exact hy
      | tail _ r ih => exact ⟨(h.r _ ih.1.1 ih.1.2).2 _ r, cl _ ih.1.1 ih.1.2 (.inr ih.2) _ r⟩
    exact this.2
section
variable {a : Au} {l : LsT}
abbrev NN (l : LsT) : Int := (l.1.length : Int) + l.2.1.length
def nxi (l : LsT) (i : Int) : Int := if i + 1 = NN l then (l.1.length : Int) else i + 1
structure TB (a : Au) (l : LsT) (dn : Int → Int → Prop) (Nx : List (List Int)) : Prop where
  ln : (Nx.length : Int) = NN l * a.2.1
  r : ∀ i q : Int, 0 ≤ i → i < NN l → 0 ≤ q → q < a.2.1 → (ix Nx (i * a.2.1 + q)).length ≤ 40000 ∧
    ∀ v, v ∈ ix Nx (i * a.2.1 + q) ↔ ∃ k : Int, (0 ≤ k ∧ k < a.2.2.2.1.length) ∧ dn i k ∧ (ix a.2.2.2.1 k).1 = q ∧ (ix a.2.2.2.1 k).2.1 = ix (l.1 ++ l.2.1) i ∧ v = nxi l i * a.2.1 + (ix a.2.2.2.1 k).2.2.1
structure GB (a : Au) (l : LsT) (dn : Int → Int → Prop) (gd : List Bool) : Prop where
  ln : (gd.length : Int) = NN l * a.2.1
  r : ∀ i q : Int, 0 ≤ i → i < NN l → 0 ≤ q → q < a.2.1 → (ix gd (i * a.2.1 + q) = true ↔ ∃ k : Int, (0 ≤ k ∧ k < a.2.2.2.2.1.length) ∧ dn i k ∧ ix a.2.2.2.2.1 k = q)
structure LOk (l : LsT) : Prop where
  h : l.1.length ≤ 60
  n : l.2.1.length ≤ 60
  p : 0 < l.2.1.length
theorem nxi_b (hl : LOk l) {i : Int} (i0 : 0 ≤ i) (i1 : i < NN l) : 0 ≤ nxi l i ∧ nxi l i < NN l := by
  have := hl.p
  have hNN : NN l = (l.1.length : Int) + l.2.1.length := rfl
  unfold nxi
  split <;> omega
theorem M_le (ha : AuOk a) (hl : LOk l) : 0 ≤ NN l * a.2.1 ∧ NN l * a.2.1 ≤ 36000 := by
  have := ha.n1; have := hl.h; have := hl.n
  have hNN : NN l = (l.1.length : Int) + l.2.1.length := rfl
  refine ⟨Int.mul_nonneg (by omega) (by omega), ?_⟩
  exact Int.le_trans (Int.mul_le_mul (c := 120) (d := 300) (by omega) (by omega) (by omega) (by omega)) (by omega)
abbrev R11 := Int → List (List Int) → List Bool → Option (Bool × Int)
theorem L17_acc (ha : AuOk a) (hl : LOk l) {t : Int} (t0 : 0 ≤ t) (t1 : t < NN l) {r11 : R11} {gd : List Bool} : ∀ (m : Nat) (k : Int) (Nx : List (List Int)), 0 ≤ k → k + m = a.2.2.2.1.length → TB a l (fun i j => i < t ∨ (i = t ∧ j < k)) Nx →
    (∀ q : Int, 0 ≤ q → q < a.2.1 → ((ix Nx (t * a.2.1 + q)).length : Int) ≤ k) → ∃ Nx', buchi_Accepts_L17 a l l.1 t r11 (nxi l t) k Nx gd = buchi_Accepts_L23 a t r11 0 Nx' gd ∧ TB a l (fun i _ => i < t + 1) Nx' := by
  have hsl := ha.sl
  have hM := M_le ha hl
  have hNN : NN l = (l.1.length : Int) + l.2.1.length := rfl
  have hn := ha.n1; have hh := hl.h; have hnn := hl.n
  intro m
  induction m with
  | zero =>
    intro k Nx k0 hk hT hlen
    refine ⟨Nx, ?_, hT.ln, fun i q i0 i1 q0 q1 => ⟨(hT.r i q i0 i1 q0 q1).1, fun v => ((hT.r i q i0 i1 q0 q1).2 v).trans (exists_congr fun j => and_congr_right fun hj => and_congr (by omega) Iff.rfl)⟩⟩
    rw [buchi_Accepts_L17_eq]; unfold buchi_Accepts_L17_B
    rw [if_neg (by simp only [decide_eq_true_eq]; omega)]
  | succ m ih =>
    intro k Nx k0 hk hT hlen
    have hb := ha.sb _ (ix_mem k0 (by omega : k < a.2.2.2.1.length))
    obtain ⟨s, es⟩ : ∃ s, ix a.2.2.2.1 k = s := ⟨_, rfl⟩
    rw [es] at hb
    have hp := pair_lt (n := a.2.1) ⟨t0, t1⟩ hb.1
    have hp2 := pair_lt (n := a.2.1) (nxi_b hl t0 t1) hb.2.2
    have hp3 : 0 ≤ t * a.2.1 := Int.mul_nonneg t0 (by omega)
    have hp4 : 0 ≤ nxi l t * a.2.1 := Int.mul_nonneg (nxi_b hl t0 t1).1 (by omega)
    have hTl := hT.ln
    have hf0 : fits (k + 1) := by unfold fits; omega
    by_cases c : s.2.1 = ix (l.1 ++ l.2.1) t
    · have hrow := hlen s.1 hb.1.1 hb.1.2
      have hrow4 := (hT.r t s.1 t0 t1 hb.1.1 hb.1.2).1
      obtain ⟨Nx', e, h'⟩ := ih (k + 1) (Nx.set (t * a.2.1 + s.1).toNat (ix Nx (t * a.2.1 + s.1) ++ [nxi l t * a.2.1 + s.2.2.1])) (by omega) (by omega) ⟨by rw [List.length_set]; exact hTl, fun i q i0 i1 q0 q1 => by
          have hpi := pair_lt (n := a.2.1) ⟨i0, i1⟩ ⟨q0, q1⟩
          by_cases e : t * a.2.1 + s.1 = i * a.2.1 + q
          · obtain ⟨e1, e2⟩ := pair_code hb.1 ⟨q0, q1⟩ e
            rw [← e, ix_set_same hp.1 (by omega)]
            subst e1; subst e2
            refine ⟨by rw [List.length_append, List.length_singleton]; omega, fun v => ?_⟩
            rw [List.mem_append, List.mem_singleton, (hT.r t s.1 t0 t1 q0 q1).2 v]
            constructor
            · rintro (⟨j, hj, h1, h2⟩ | rfl)
              · exact ⟨j, hj, by omega, h2⟩
              · exact ⟨k, ⟨k0, by omega⟩, by omega, by rw [es], by rw [es]; exact c, by rw [es]⟩
            · rintro ⟨j, hj, h1, h2⟩
              by_cases ej : j = k
              · subst ej; rw [es] at h2; exact .inr h2.2.2
              · exact .inl ⟨j, hj, by omega, h2⟩
          · rw [ix_set_ne hp.1 hpi.1 e]
            refine ⟨(hT.r i q i0 i1 q0 q1).1, fun v => ((hT.r i q i0 i1 q0 q1).2 v).trans ⟨?_, ?_⟩⟩
            · rintro ⟨j, hj, h1, h2⟩; exact ⟨j, hj, by omega, h2⟩
            · rintro ⟨j, hj, h1, h2⟩
              by_cases ej : i = t ∧ j = k
              · rw [ej.2, es] at h2
                rw [ej.1, ← h2.1] at e; exact absurd rfl e
              · exact ⟨j, hj, by omega, h2⟩⟩ (fun q q0 q1 => by
          have hpi := pair_lt (n := a.2.1) ⟨t0, t1⟩ ⟨q0, q1⟩
          by_cases e : t * a.2.1 + s.1 = t * a.2.1 + q
          · rw [← e, ix_set_same hp.1 (by omega), List.length_append, List.length_singleton]; omega
          · rw [ix_set_ne hp.1 hpi.1 e]; have := hlen q q0 q1; omega)
      refine ⟨Nx', ?_, h'⟩
      rw [← e]
      conv => lhs; rw [buchi_Accepts_L17_eq]; unfold buchi_Accepts_L17_B buchi_Accepts_J20
      rw [es, if_pos (decide_eq_true (by omega)), G_pos (by omega), if_pos (decide_eq_true c)]
      have f1 : fits (t * a.2.1) := by unfold fits; omega
      have f2 : fits (t * a.2.1 + s.1) := by unfold fits; omega
      have f3 : 0 ≤ t * a.2.1 + s.1 ∧ t * a.2.1 + s.1 < (Nx.length : Int) := by omega
      have f4 : (t * a.2.1 + s.1).toNat < Nx.length := by omega
      have f5 : fits (nxi l t * a.2.1) := by unfold fits; omega
      have f6 : fits (nxi l t * a.2.1 + s.2.2.1) := by unfold fits; omega
      have f7 : room (ix Nx (t * a.2.1 + s.1)) [nxi l t * a.2.1 + s.2.2.1] 8 := by unfold room; simp; omega
      simp only [G_pos f1, G_pos f2, G_pos f3, G_pos f4, G_pos f5, G_pos f6, G_pos f7, G_pos hf0, G_pos, both_self]
    · obtain ⟨Nx', e, h'⟩ := ih (k + 1) Nx (by omega) (by omega) ⟨hTl, fun i q i0 i1 q0 q1 => by
          refine ⟨(hT.r i q i0 i1 q0 q1).1, fun v => ((hT.r i q i0 i1 q0 q1).2 v).trans ⟨?_, ?_⟩⟩
          · rintro ⟨j, hj, h1, h2⟩; exact ⟨j, hj, by omega, h2⟩
          · rintro ⟨j, hj, h1, h2⟩
            by_cases ej : i = t ∧ j = k
            · rw [ej.2, ej.1, es] at h2
              exact absurd h2.2.1 c
            · exact ⟨j, hj, by omega, h2⟩⟩ (fun q q0 q1 => by have := hlen q q0 q1; omega)
      refine ⟨Nx', ?_, h'⟩
      rw [← e]
      conv => lhs; rw [buchi_Accepts_L17_eq]; unfold buchi_Accepts_L17_B buchi_Accepts_J20
      rw [es, if_pos (decide_eq_true (by omega)), G_pos (by omega), if_neg (by simpa using c), G_pos hf0]
theorem L23_acc (ha : AuOk a) (hl : LOk l) {t : Int} (t0 : 0 ≤ t) (t1 : t < NN l) {r11 : R11} {Nx : List (List Int)} : ∀ (m : Nat) (k : Int) (gd : List Bool), 0 ≤ k → k + m = a.2.2.2.2.1.length → GB a l (fun i j => i < t ∨ (i = t ∧ j < k)) gd →
    ∃ gd', buchi_Accepts_L23 a t r11 k Nx gd = r11 (t + 1) Nx gd' ∧ GB a l (fun i _ => i < t + 1) gd' := by
  have hM := M_le ha hl; have hlf := ha.lf
  have hNN : NN l = (l.1.length : Int) + l.2.1.length := rfl
  have hh := hl.h; have hn := hl.n
  intro m
  induction m with
  | zero =>
    intro k gd k0 hk hT
    refine ⟨gd, ?_, hT.ln, fun i q i0 i1 q0 q1 => (hT.r i q i0 i1 q0 q1).trans (exists_congr fun j => and_congr_right fun hj => and_congr (by omega) Iff.rfl)⟩
    rw [buchi_Accepts_L23_eq]; unfold buchi_Accepts_L23_B
    rw [if_neg (by simp only [decide_eq_true_eq]; omega), G_pos (by unfold fits; omega)]
  | succ m ih =>
    intro k gd k0 hk hT
    have hb := ha.f _ (ix_mem k0 (by omega : k < a.2.2.2.2.1.length))
    obtain ⟨s, es⟩ : ∃ s, ix a.2.2.2.2.1 k = s := ⟨_, rfl⟩
    rw [es] at hb
    have hp := pair_lt (n := a.2.1) ⟨t0, t1⟩ hb
    have hn1 := ha.n1
    have hp3 : 0 ≤ t * a.2.1 := Int.mul_nonneg t0 (by omega)
    have hTl := hT.ln
    obtain ⟨gd', e, h'⟩ := ih (k + 1) (gd.set (t * a.2.1 + s).toNat true) (by omega) (by omega) ⟨by rw [List.length_set]; exact hTl, fun i q i0 i1 q0 q1 => by
      have hpi := pair_lt (n := a.2.1) ⟨i0, i1⟩ ⟨q0, q1⟩
      by_cases e : t * a.2.1 + s = i * a.2.1 + q
      · obtain ⟨e1, e2⟩ := pair_code hb ⟨q0, q1⟩ e
        rw [← e, ix_set_same hp.1 (by omega)]
        exact ⟨fun _ => ⟨k, ⟨k0, by omega⟩, by omega, by rw [es]; exact e2⟩, fun _ => rfl⟩
      · rw [ix_set_ne hp.1 hpi.1 e, hT.r i q i0 i1 q0 q1]
        constructor
        · rintro ⟨j, hj, h1, h2⟩; exact ⟨j, hj, by omega, h2⟩
        · rintro ⟨j, hj, h1, h2⟩
          by_cases ej : i = t ∧ j = k
          · rw [ej.2, es] at h2
            rw [ej.1, h2] at e; exact absurd rfl e
          · exact ⟨j, hj, by omega, h2⟩⟩
    refine ⟨gd', ?_, h'⟩
    rw [← e]
    conv => lhs; rw [buchi_Accepts_L23_eq]; unfold buchi_Accepts_L23_B
    rw [es, if_pos (decide_eq_true (by omega)), G_pos (by omega), G_pos (by unfold fits; omega), G_pos (by unfold fits; omega), G_pos (by omega), G_pos (by omega), G_pos (by unfold fits; omega)]
theorem L11_acc (ha : AuOk a) (hl : LOk l) : ∀ (m : Nat) (t : Int) (Nx : List (List Int)) (gd : List Bool), 0 ≤ t → t + m = NN l → TB a l (fun i _ => i < t) Nx → GB a l (fun i _ => i < t) gd →
    ∃ Nx' gd', buchi_Accepts_L11 a l l.1 t Nx gd = ((buchi_graph_reach (Nx', (gd', ())) a.2.2.1).bind fun y => buchi_Accepts_L30 a Nx' gd' 0 y) ∧ TB a l (fun i _ => i < NN l) Nx' ∧ GB a l (fun i _ => i < NN l) gd' := by
  have hh := hl.h; have hn := hl.n
  have hNN : NN l = (l.1.length : Int) + l.2.1.length := rfl
  have hal : (((l.1 ++ l.2.1).length : Nat) : Int) = NN l := by rw [List.length_append]; omega
  intro m
  induction m with
  | zero =>
    intro t Nx gd t0 ht hT hG
    have : t = NN l := by omega
    subst this
    refine ⟨Nx, gd, ?_, hT, hG⟩
    rw [buchi_Accepts_L11_eq]; unfold buchi_Accepts_L11_B
    rw [hal, if_neg (by simp only [decide_eq_true_eq]; omega)]
  | succ m ih =>
    intro t Nx gd t0 ht hT hG
    have t1 : t < NN l := by omega
    obtain ⟨Nx1, e1, h1⟩ := L17_acc ha hl t0 t1 (r11 := buchi_Accepts_L11 a l l.1) (gd := gd) a.2.2.2.1.length 0 Nx (by omega) (by omega) ⟨hT.ln, fun i q i0 i1 q0 q1 => ⟨(hT.r i q i0 i1 q0 q1).1, fun v => ((hT.r i q i0 i1 q0 q1).2 v).trans (exists_congr fun j => and_congr_right fun hj => and_congr (by omega) Iff.rfl)⟩⟩ (fun q q0 q1 => by
      have : ix Nx (t * a.2.1 + q) = [] := List.eq_nil_iff_forall_not_mem.2 (fun v hv => by
        obtain ⟨j, _, h2, _⟩ := ((hT.r t q t0 t1 q0 q1).2 v).1 hv
        omega)
      rw [this]; simp)
    obtain ⟨gd1, e2, h2⟩ := L23_acc ha hl t0 t1 (r11 := buchi_Accepts_L11 a l l.1) (Nx := Nx1) a.2.2.2.2.1.length 0 gd (by omega) (by omega) ⟨hG.ln, fun i q i0 i1 q0 q1 => (hG.r i q i0 i1 q0 q1).trans (exists_congr fun j => and_congr_right fun hj => and_congr (by omega) Iff.rfl)⟩
    obtain ⟨Nx', gd', e, h3, h4⟩ := ih (t + 1) Nx1 gd1 (by omega) (by omega) h1 h2
    refine ⟨Nx', gd', ?_, h3, h4⟩
    rw [← e, ← e2, ← e1]
    conv => lhs; rw [buchi_Accepts_L11_eq]; unfold buchi_Accepts_L11_B buchi_Accepts_J15
    rw [hal, if_pos (decide_eq_true (by omega)), G_pos (by omega), G_pos (by omega), G_pos (by unfold fits; omega)]
    unfold nxi
    by_cases c : t + 1 = NN l
    · rw [if_pos (decide_eq_true c), if_pos c]
    · rw [if_neg (by simpa using c), if_neg c]
end
section
variable {a : Au} {l : LsT}
theorem code_of {n M : Int} (n0 : 0 < n) {p : Int} (p0 : 0 ≤ p) (p1 : p < M * n) : ∃ i q, p = i * n + q ∧ (0 ≤ i ∧ i < M) ∧ 0 ≤ q ∧ q < n := by
  refine ⟨p / n, p % n, by rw [Int.mul_comm]; exact (Int.mul_ediv_add_emod p n).symm, ⟨Int.ediv_nonneg p0 (by omega), Int.ediv_lt_of_lt_mul n0 p1⟩, Int.emod_nonneg _ (by omega), Int.emod_lt_of_pos _ n0⟩
theorem TB.gt (ha : AuOk a) (hl : LOk l) {Nx : List (List Int)} {dn : Int → Int → Prop} (h : TB a l dn Nx) : GT Nx (NN l * a.2.1) := by
  have hn := ha.n1
  refine ⟨h.ln, M_le ha hl, fun p p0 p1 => ?_⟩
  obtain ⟨i, q, rfl, hi, hq⟩ := code_of (by omega) p0 p1
  obtain ⟨h1, h2⟩ := h.r i q hi.1 hi.2 hq.1 hq.2
  refine ⟨h1, fun v hv => ?_⟩
  obtain ⟨k, hk, _, _, _, rfl⟩ := (h2 v).1 hv
  have hb := ha.sb _ (ix_mem hk.1 hk.2)
  exact pair_lt (nxi_b hl hi.1 hi.2) hb.2.2
/-- Where in the lasso one is at a time. -/
def pos (l : LsT) (t : Nat) : Nat := if t < l.1.length then t else l.1.length + (t - l.1.length) % l.2.1.length
theorem pos_b (hl : LOk l) (t : Nat) : (0 : Int) ≤ (pos l t : Int) ∧ (pos l t : Int) < NN l := by
  have hp := hl.p
  have hm := Nat.mod_lt (t - l.1.length) hp
  have hNN : NN l = (l.1.length : Int) + l.2.1.length := rfl
  unfold pos
  split <;> omega
theorem pos_las (hl : LOk l) (t : Nat) : ix (l.1 ++ l.2.1) (pos l t : Int) = las l t := by
  have hm := Nat.mod_lt (t - l.1.length) hl.p
  unfold pos las
  by_cases c : t < l.1.length
  · rw [if_pos c, if_pos c, ix_append_left (by omega) (by omega)]
  · rw [if_neg c, if_neg c, ix_append_right (by omega)]
    congr 1; omega
theorem pos_next (hl : LOk l) (t : Nat) : nxi l (pos l t : Int) = (pos l (t + 1) : Int) := by
  have hp := hl.p
  have hNN : NN l = (l.1.length : Int) + l.2.1.length := rfl
  unfold nxi
  by_cases c : t + 1 < l.1.length
  · have e1 : pos l t = t := by unfold pos; rw [if_pos (by omega)]
    have e2 : pos l (t + 1) = t + 1 := by unfold pos; rw [if_pos c]
    rw [e1, e2, if_neg (by omega)]; omega
  by_cases c2 : t < l.1.length
  · have e1 : pos l t = t := by unfold pos; rw [if_pos c2]
    have e2 : pos l (t + 1) = t + 1 := by
      unfold pos
      rw [if_neg c, show t + 1 - l.1.length = 0 by omega, Nat.zero_mod]; omega
    rw [e1, e2, if_neg (by omega)]; omega
  · have hd := Nat.mod_lt (t - l.1.length) hp
    have e1 : pos l t = l.1.length + (t - l.1.length) % l.2.1.length := by unfold pos; rw [if_neg c2]
    have e2 : pos l (t + 1) = l.1.length + (t + 1 - l.1.length) % l.2.1.length := by unfold pos; rw [if_neg (by omega)]
    have e3 := Nat.div_add_mod (t - l.1.length) l.2.1.length
    by_cases c3 : (t - l.1.length) % l.2.1.length + 1 = l.2.1.length
    · have e4 : (t + 1 - l.1.length) % l.2.1.length = 0 := by
        rw [show t + 1 - l.1.length = l.2.1.length * ((t - l.1.length) / l.2.1.length + 1) by rw [Nat.mul_add]; omega]
        exact Nat.mul_mod_right _ _
      rw [e1, e2, e4, if_pos (by omega)]; omega
    · have e4 : (t + 1 - l.1.length) % l.2.1.length = (t - l.1.length) % l.2.1.length + 1 := by
        rw [show t + 1 - l.1.length = l.2.1.length * ((t - l.1.length) / l.2.1.length) + ((t - l.1.length) % l.2.1.length + 1) by omega, Nat.mul_add_mod, Nat.mod_eq_of_lt (by omega)]
      rw [e1, e2, e4, if_neg (by omega)]; omega
theorem pos_same (hl : LOk l) {s m : Nat} (hm : 0 < m) (h : pos l (s + m) = pos l s) : l.1.length ≤ s ∧ ∃ b, 1 ≤ b ∧ m = b * l.2.1.length := by
  have hp := hl.p
  have hd := Nat.mod_lt (s - l.1.length) hp
  have hd2 := Nat.mod_lt (s + m - l.1.length) hp
  unfold pos at h
  by_cases c : s < l.1.length
  · rw [if_pos c] at h
    split at h <;> omega
  · rw [if_neg c, if_neg (by omega)] at h
    refine ⟨by omega, ?_⟩
    have h2 : (s + m - l.1.length) % l.2.1.length = (s - l.1.length) % l.2.1.length := by omega
    have h3 := Nat.sub_mod_eq_zero_of_mod_eq h2
    rw [show s + m - l.1.length - (s - l.1.length) = m by omega] at h3
    obtain ⟨b, hb⟩ := Nat.dvd_of_mod_eq_zero h3
    refine ⟨b, ?_, by rw [hb, Nat.mul_comm]⟩
    cases b with
    | zero => rw [Nat.mul_zero] at hb; omega
    | succ b => omega
theorem pos_add {s : Nat} (hs : l.1.length ≤ s) (b : Nat) : pos l (s + b * l.2.1.length) = pos l s := by
  unfold pos
  rw [if_neg (by omega), if_neg (by omega), show s + b * l.2.1.length - l.1.length = (s - l.1.length) + b * l.2.1.length by omega, Nat.add_mul_mod_self_right]
section
variable {Nx : List (List Int)} (hT : TB a l (fun i _ => i < NN l) Nx)
include hT
theorem Ed_iff (ha : AuOk a) (hl : LOk l) {s : Nat} {q : Int} (q0 : 0 ≤ q) (q1 : q < a.2.1) {v : Int} : Ed Nx ((pos l s : Int) * a.2.1 + q) v ↔ ∃ r, StA a q (las l s) r ∧ v = (pos l (s + 1) : Int) * a.2.1 + r := by
  have hb := pos_b hl s
  unfold Ed
  rw [(hT.r _ q hb.1 hb.2 q0 q1).2 v, pos_las hl, pos_next hl]
  constructor
  · rintro ⟨k, hk, _, h1, h2, h3⟩
    exact ⟨_, by unfold StA; rw [← h1, ← h2]; exact ix_mem hk.1 hk.2, h3⟩
  · rintro ⟨r, h1, h2⟩
    obtain ⟨k, k0, k1, e⟩ := (ex_ix (P := fun y => y = (q, las l s, r, ()))).1 ⟨_, h1, rfl⟩
    exact ⟨k, ⟨k0, k1⟩, hb.2, by rw [e], by rw [e], by rw [e]; exact h2⟩
theorem Star_wt (ha : AuOk a) (hl : LOk l) {s : Nat} {q : Int} (q0 : 0 ≤ q) (q1 : q < a.2.1) {v : Int} (h : Star (Ed Nx) ((pos l s : Int) * a.2.1 + q) v) : ∃ m r, Wt a (las l) m s q r ∧ v = (pos l (s + m) : Int) * a.2.1 + r := by
  generalize hx : (pos l s : Int) * a.2.1 + q = x at h
  induction h with
  | refl => exact ⟨0, q, rfl, hx.symm⟩
  | tail _ e ih =>
    obtain ⟨m, r, h1, rfl⟩ := ih
    have hr := Wt.b ha h1 q0 q1
    obtain ⟨r', h2, h3⟩ := (Ed_iff hT ha hl hr.1 hr.2).1 e
    exact ⟨m + 1, r', Wt.snoc.2 ⟨r, h1, h2⟩, h3⟩
theorem wt_Star (ha : AuOk a) (hl : LOk l) : ∀ {m s : Nat} {q r : Int}, 0 ≤ q → q < a.2.1 → Wt a (las l) m s q r → Star (Ed Nx) ((pos l s : Int) * a.2.1 + q) ((pos l (s + m) : Int) * a.2.1 + r)
  | 0, s, q, r, _, _, h => by cases h; exact .refl _
  | m + 1, s, q, r, q0, q1, ⟨y, h1, h2⟩ => by
    have hy := (h1.b ha).2
    have h3 := wt_Star ha hl hy.1 hy.2 h2
    rw [show s + 1 + m = s + (m + 1) by omega] at h3
    exact (Star.one ((Ed_iff hT ha hl q0 q1).2 ⟨y, h1, rfl⟩)).trans h3
theorem RR_wt (ha : AuOk a) (hl : LOk l) {s : Nat} {q : Int} (q0 : 0 ≤ q) (q1 : q < a.2.1) {v : Int} : (∃ y, Ed Nx ((pos l s : Int) * a.2.1 + q) y ∧ Star (Ed Nx) y v) ↔ ∃ m r, 0 < m ∧ Wt a (las l) m s q r ∧ v = (pos l (s + m) : Int) * a.2.1 + r := by
  constructor
  · rintro ⟨y, h1, h2⟩
    obtain ⟨z, h3, rfl⟩ := (Ed_iff hT ha hl q0 q1).1 h1
    have hz := (h3.b ha).2
    obtain ⟨m, r, h4, h5⟩ := Star_wt hT ha hl hz.1 hz.2 h2
    exact ⟨m + 1, r, by omega, ⟨z, h3, h4⟩, by rw [show s + (m + 1) = s + 1 + m by omega]; exact h5⟩
  · rintro ⟨m, r, hm, h1, rfl⟩
    obtain ⟨m, rfl⟩ : ∃ m', m = m' + 1 := ⟨m - 1, by omega⟩
    obtain ⟨y, h2, h3⟩ := h1
    have hy := (h2.b ha).2
    refine ⟨_, (Ed_iff hT ha hl q0 q1).2 ⟨y, h2, rfl⟩, ?_⟩
    have := wt_Star hT ha hl hy.1 hy.2 h3
    rwa [show s + 1 + m = s + (m + 1) by omega] at this
theorem graph_prog (ha : AuOk a) (hl : LOk l) {gd : List Bool} (hG : GB a l (fun i _ => i < NN l) gd) : (∃ p : Int, (0 ≤ p ∧ p < NN l * a.2.1) ∧ (RR Nx a.2.2.1 p ∨ p ∈ a.2.2.1) ∧ ix gd p = true ∧ RR Nx [p] p) ↔ ProgA a (las l) l.1.length l.2.1.length := by
  have hz : pos l 0 = 0 := by
    unfold pos
    split
    · rfl
    · rw [Nat.zero_sub, Nat.zero_mod]; omega
  have z0 : ∀ q : Int, (pos l 0 : Int) * a.2.1 + q = q := fun q => by rw [hz]; simp
  have fin : ∀ (s : Nat) (q : Int), 0 ≤ q → q < a.2.1 → (ix gd ((pos l s : Int) * a.2.1 + q) = true ↔ q ∈ a.2.2.2.2.1) := fun s q q0 q1 => by
    have hb := pos_b hl s
    rw [hG.r _ q hb.1 hb.2 q0 q1]
    constructor
    · rintro ⟨k, hk, _, rfl⟩; exact ix_mem hk.1 hk.2
    · intro hm
      obtain ⟨k, k0, k1, e⟩ := (ex_ix (P := fun y => y = q)).1 ⟨q, hm, rfl⟩
      exact ⟨k, ⟨k0, k1⟩, hb.2, e⟩
  constructor
  · rintro ⟨p, hp, hs, hg, f, hf, hc⟩
    rw [List.mem_singleton.1 hf] at hc
    obtain ⟨q0, hq0, s, q, hw, rfl⟩ : ∃ q0 ∈ a.2.2.1, ∃ s q, Wt a (las l) s 0 q0 q ∧ p = (pos l s : Int) * a.2.1 + q := by
      rcases hs with ⟨q0, hq0, hh⟩ | hs
      · have hb := ha.s q0 hq0
        rw [← z0 q0] at hh
        obtain ⟨m, r, _, h1, h2⟩ := (RR_wt hT ha hl hb.1 hb.2).1 hh
        rw [Nat.zero_add] at h2
        exact ⟨q0, hq0, m, r, h1, h2⟩
      · exact ⟨p, hs, 0, p, rfl, (z0 p).symm⟩
    have hb0 := ha.s q0 hq0
    have hqb := Wt.b ha hw hb0.1 hb0.2
    obtain ⟨m, r, hm, h1, h2⟩ := (RR_wt hT ha hl hqb.1 hqb.2).1 hc
    have hrb := Wt.b ha h1 hqb.1 hqb.2
    obtain ⟨e1, e2⟩ := pair_code hqb hrb h2
    subst e2
    obtain ⟨h3, b, hb, rfl⟩ := pos_same hl (s := s) (m := m) hm (by omega)
    exact ⟨q0, hq0, s, q, hw, (fin s q hqb.1 hqb.2).1 hg, h3, b, hb, h1⟩
  · rintro ⟨q0, hq0, s, f, h1, hf, hs, b, hb, h2⟩
    have hb0 := ha.s q0 hq0
    have hfb := ha.f f hf
    refine ⟨(pos l s : Int) * a.2.1 + f, pair_lt (pos_b hl s) hfb, ?_, (fin s f hfb.1 hfb.2).2 hf, _, List.mem_singleton.2 rfl, ?_⟩
    · by_cases c : s = 0
      · subst c; cases h1; right; rw [z0]; exact hq0
      · left
        refine ⟨q0, hq0, ?_⟩
        rw [← z0 q0]
        exact (RR_wt hT ha hl hb0.1 hb0.2).2 ⟨s, f, by omega, h1, by rw [Nat.zero_add]⟩
    · refine (RR_wt hT ha hl hfb.1 hfb.2).2 ⟨b * l.2.1.length, f, Nat.mul_pos (by omega) hl.p, h2, by rw [pos_add hs]⟩
end
open Classical in
theorem Accepts_good (ha : AuOk a) (hl : LOk l) (hE : buchi_Check a = some 0) (hE2 : word_Lasso a.1 l = some 0) : buchi_Accepts a l = some (decide (RefA a (las l) l.1.length l.2.1.length), 0) := by
  have ea : (a.1, a.2.1, a.2.2.1, a.2.2.2.1, a.2.2.2.2.1, ()) = a := rfl
  have el : (l.1, l.2.1, ()) = l := rfl
  have hn := ha.n1; have hM := M_le ha hl
  have hh := hl.h; have hln := hl.n
  have hNN : NN l = (l.1.length : Int) + l.2.1.length := rfl
  have hal : (((l.1 ++ l.2.1).length : Nat) : Int) = NN l := by rw [List.length_append]; omega
  have hMc : a.2.1 * NN l = NN l * a.2.1 := Int.mul_comm _ _
  obtain ⟨Nx, gd, e, hT, hG⟩ := L11_acc ha hl (NN l).toNat 0 (List.replicate (NN l * a.2.1).toNat []) (List.replicate (NN l * a.2.1).toNat false) (by omega) (by omega) ⟨by rw [List.length_replicate]; omega, fun i q i0 i1 q0 q1 => by
      have hp := pair_lt (n := a.2.1) ⟨i0, i1⟩ ⟨q0, q1⟩
      rw [ix_replicate hp.1 (by omega)]
      exact ⟨by simp, fun v => ⟨fun h => (by cases h), fun ⟨k, _, h, _⟩ => by omega⟩⟩⟩ ⟨by rw [List.length_replicate]; omega, fun i q i0 i1 q0 q1 => by
      have hp := pair_lt (n := a.2.1) ⟨i0, i1⟩ ⟨q0, q1⟩
      rw [ix_replicate hp.1 (by omega)]
      exact ⟨fun h => (by cases h), fun ⟨k, _, h, _⟩ => by omega⟩⟩
  have hgt := hT.gt ha hl
  have hGl := hG.ln
  have hsM : ∀ f ∈ a.2.2.1, 0 ≤ f ∧ f < NN l * a.2.1 := fun f hf => by
    have hb := ha.s f hf
    have := pair_lt (p := 0) (m := NN l) (n := a.2.1) ⟨by omega, by have := hl.p; omega⟩ hb
    simpa using this
  obtain ⟨seen, es, ls, ss⟩ := reach_spec hgt (gd := gd) hsM (by have := ha.ls; omega)
  have L35 : ∀ (sn : List Bool), (sn.length : Int) = NN l * a.2.1 → ∀ (m : Nat) (t : Int), 0 ≤ t → t + m = NN l * a.2.1 → buchi_Accepts_L35 Nx gd sn t = some (decide (∃ p : Int, (t ≤ p ∧ p < NN l * a.2.1) ∧ ix sn p = true ∧ ix gd p = true ∧ RR Nx [p] p), 0) := by
    intro sn hsn m
    induction m with
    | zero =>
      intro t t0 ht
      rw [buchi_Accepts_L35_eq]; unfold buchi_Accepts_L35_B
      rw [if_neg (by simp only [decide_eq_true_eq]; omega), decide_eq_false (fun ⟨p, hp, _⟩ => by omega)]
    | succ m ih =>
      intro t t0 ht
      have nx : ¬ (ix sn t = true ∧ ix gd t = true ∧ RR Nx [t] t) → (some (decide (∃ p : Int, (t + 1 ≤ p ∧ p < NN l * a.2.1) ∧ ix sn p = true ∧ ix gd p = true ∧ RR Nx [p] p), (0 : Int)) : Option (Bool × Int)) = some (decide (∃ p : Int, (t ≤ p ∧ p < NN l * a.2.1) ∧ ix sn p = true ∧ ix gd p = true ∧ RR Nx [p] p), 0) := by
        intro hno
        refine congrArg (fun b => some (b, (0 : Int))) (decide_eq_decide.2 ⟨fun ⟨p, h1, h2⟩ => ⟨p, by omega, h2⟩, fun ⟨p, h1, h2⟩ => ⟨p, ?_, h2⟩⟩)
        by_cases e : p = t
        · rw [e] at h2; exact absurd h2 hno
        · omega
      have hih := ih (t + 1) (by omega) (by omega)
      rw [buchi_Accepts_L35_eq]; unfold buchi_Accepts_L35_B
      rw [if_pos (decide_eq_true (by omega)), G_pos (by omega), G_pos (by omega)]
      by_cases c1 : ix sn t = true
      · rw [if_pos c1, G_pos (by omega), G_pos (by omega)]
        by_cases c2 : ix gd t = true
        · rw [if_pos c2]
          obtain ⟨s2, e2, l2, h2⟩ := reach_spec hgt (gd := gd) (fr := [t]) (fun f hf => by rw [List.mem_singleton.1 hf]; omega) (by simp)
          refine bind_to e2 ?_
          rw [G_pos (by omega), G_pos (by omega)]
          by_cases c3 : ix s2 t = true
          · rw [if_pos c3, decide_eq_true ⟨t, by omega, c1, c2, (h2 t t0 (by omega)).1 c3⟩]
          · rw [if_neg c3, G_pos (by unfold fits; omega), hih]
            exact nx (fun hx => c3 ((h2 t t0 (by omega)).2 hx.2.2))
        · rw [if_neg c2, G_pos (by unfold fits; omega), hih]
          exact nx (fun hx => c2 hx.2.1)
      · rw [if_neg c1, G_pos (by unfold fits; omega), hih]
        exact nx (fun hx => c1 hx.1)
  have L30 : ∀ (m : Nat) (t : Int) (sn : List Bool), 0 ≤ t → t + m = a.2.2.1.length → (sn.length : Int) = NN l * a.2.1 → (∀ v : Int, 0 ≤ v → v < NN l * a.2.1 → (ix sn v = true ↔ RR Nx a.2.2.1 v ∨ ∃ k : Int, 0 ≤ k ∧ k < t ∧ ix a.2.2.1 k = v)) →
      buchi_Accepts_L30 a Nx gd t sn = some (decide (RefA a (las l) l.1.length l.2.1.length), 0) := by
    intro m
    induction m with
    | zero =>
      intro t sn t0 ht hsn hv
      rw [buchi_Accepts_L30_eq]; unfold buchi_Accepts_L30_B
      rw [if_neg (by simp only [decide_eq_true_eq]; omega), L35 sn hsn (NN l * a.2.1).toNat 0 (by omega) (by omega)]
      refine congrArg (fun b => some (b, (0 : Int))) (decide_eq_decide.2 (Iff.trans ?_ ((graph_prog hT ha hl hG).trans (ref_prog hl.p (fun t ht => las_per t ht)).symm)))
      refine exists_congr fun p => and_congr_right fun hp => and_congr ((hv p hp.1 hp.2).trans (or_congr Iff.rfl ?_)) Iff.rfl
      constructor
      · rintro ⟨k, k0, k1, rfl⟩; exact ix_mem k0 (by omega)
      · intro hm
        obtain ⟨k, k0, k1, e⟩ := (ex_ix (P := fun y => y = p)).1 ⟨p, hm, rfl⟩
        exact ⟨k, k0, by omega, e⟩
    | succ m ih =>
      intro t sn t0 ht hsn hv
      have hlsA := ha.ls
      have hb := hsM _ (ix_mem t0 (by omega : t < a.2.2.1.length))
      rw [buchi_Accepts_L30_eq]; unfold buchi_Accepts_L30_B
      rw [if_pos (decide_eq_true (by omega)), G_pos (by omega), G_pos (by omega), G_pos (by omega), G_pos (by unfold fits; omega)]
      refine ih (t + 1) (sn.set (ix a.2.2.1 t).toNat true) (by omega) (by omega) (by rw [List.length_set]; exact hsn) (fun v v0 v1 => ?_)
      by_cases e : ix a.2.2.1 t = v
      · rw [e, ix_set_same v0 (by omega)]
        exact ⟨fun _ => .inr ⟨t, t0, by omega, e⟩, fun _ => rfl⟩
      · rw [ix_set_ne hb.1 v0 e, hv v v0 v1]
        refine or_congr Iff.rfl ⟨?_, ?_⟩
        · rintro ⟨k, k0, k1, e2⟩; exact ⟨k, k0, by omega, e2⟩
        · rintro ⟨k, k0, k1, e2⟩
          by_cases ek : k = t
          · rw [ek] at e2; exact absurd e2 e
          · exact ⟨k, k0, by omega, e2⟩
  have eL : buchi_Accepts_J9 a l l.1 (List.replicate (a.2.1 * NN l).toNat []) (List.replicate (a.2.1 * NN l).toNat false) = some (decide (RefA a (las l) l.1.length l.2.1.length), 0) := by
    unfold buchi_Accepts_J9
    rw [hMc, e]
    exact bind_to es (L30 a.2.2.1.length 0 seen (by omega) (by omega) ls (fun v v0 v1 => (ss v v0 v1).trans ⟨.inl, fun hx => hx.elim id (fun ⟨k, k0, k1, _⟩ => by omega)⟩))
  unfold buchi_Accepts
  rw [ea, el]
  refine bind_to hE ?_
  rw [if_neg (by simp)]
  refine bind_to hE2 ?_
  rw [if_neg (by simp)]
  refine bind_to (slices_Clone_spec (by omega)) ?_
  rw [hal, eL]
  have f1 : room l.1 l.2.1 8 := by unfold room; omega
  have f2 : fits (a.2.1 * NN l) := by unfold fits; omega
  have f3 : mkOK (a.2.1 * NN l) (a.2.1 * NN l) 24 := by unfold mkOK; omega
  have f4 : mkOK (a.2.1 * NN l) (a.2.1 * NN l) 1 := by unfold mkOK; omega
  simp only [G_pos f1, G_pos f2, G_pos f3, G_pos f4, both_self]
end
open Classical in
theorem law_true (a : Au) (l : List Int × List Int × Unit) (sa : Sml (.pair (.int .i64) (.pair (.int .i64) (.pair (.list (.int .i64)) (.pair (.list (.pair (.int .i64) (.pair (.int .i64) (.pair (.int .i64) .unit)))) (.pair (.list (.int .i64)) .unit))))) a) (sl : Sml (.pair (.list (.int .i64)) (.pair (.list (.int .i64)) .unit)) l) : law_BuchiAccepts a l = some true := by
  have ea : (a.1, a.2.1, a.2.2.1, a.2.2.2.1, a.2.2.2.2.1, ()) = a := rfl
  have el : (l.1, l.2.1, ()) = l := rfl
  have b1 : a.2.2.1.length * 8 ≤ 140737488351232 := sa.2.2.1.1
  have b2 : a.2.2.2.2.1.length * 8 ≤ 140737488351232 := sa.2.2.2.2.1.1
  have hl : AuLen a := ⟨by omega, by omega⟩
  have hck := buchi_Check_spec hl
  unfold law_BuchiAccepts
  rw [ea, el]
  refine bind_to hck (bind_to (r7_Check_spec hl) ?_)
  by_cases h0 : autE a = 0
  · have ha := autE_zero h0
    by_cases hle : lasE a.1 l = 0
    · obtain ⟨m1, m2, m3⟩ := lasE_zero hle
      have l1 := (mayE_zero m1).2.1
      have l2 := (mayE_zero m2).2.1
      have hlo : LOk l := ⟨by omega, by omega, m3⟩
      refine bind_to (Accepts_good ha hlo (by rw [hck, h0]) (by rw [word_Lasso_spec, hle])) ?_
      rw [if_neg (by simp), if_neg (by simpa using h0)]
      refine bind_to (show r7_Lasso a l = some (lasE a.1 l) from bind_to r1_Lasso_spec rfl) ?_
      rw [if_neg (by simpa using hle)]
      refine bind_to (Accepts_ref (l := l) ha (by omega) rfl (by omega) rfl m3 (fun i hi => las_head i hi) (fun i hi => las_loop i hi)) ?_
      rw [if_pos (by simp)]
      simp
    · have e : buchi_Accepts a l = some (false, lasE a.1 l) := by
        unfold buchi_Accepts
        rw [ea, el]
        refine bind_to hck ?_
        rw [if_neg (by simpa using h0)]
        refine bind_to word_Lasso_spec ?_
        rw [if_pos (by simpa using hle)]
      refine bind_to e ?_
      rw [if_neg (by simp), if_neg (by simpa using h0)]
      refine bind_to (show r7_Lasso a l = some (lasE a.1 l) from bind_to r1_Lasso_spec rfl) ?_
      rw [if_pos (by simpa using hle), if_pos (by simp)]
      rfl
  · have e : buchi_Accepts a l = some (false, autE a) := by
      unfold buchi_Accepts
      rw [ea, el]
      refine bind_to hck ?_
      rw [if_pos (by simpa using h0)]
    refine bind_to e ?_
    rw [if_neg (by simp), if_pos (by simpa using h0), if_pos (by simp)]
    rfl

end Go.Proofs.Ytfnmgnihlgpgpaa.buchiAcceptsW
